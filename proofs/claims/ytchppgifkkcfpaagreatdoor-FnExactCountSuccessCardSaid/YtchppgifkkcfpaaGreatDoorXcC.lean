import Derived.Test.YtchppgifkkcfpaaGreatDoorXcH
import Derived.Test.YtchppgifkkcfpaaGreatDoorXcL
import Derived.Test.YtchppgifkkcfpaaGreatDoorXcQ
import Derived.Test.YtchppgifkkcfpaaGreatDoorXcPatoPzp
/- Printed by wip/tools: models, walks, proofs. -/
set_option linter.all false
set_option maxRecDepth 100000
set_option maxHeartbeats 4000000
namespace Go.VK
open Go.RowKit Go.Proofs Tryz D
noncomputable section
def cqU (a r:List EV.Kd)(m:EV.fM Un a->Option (EV.fM Un r)):SU:=⟨a,r,false,false,m⟩
def i6:EV.Kd:= .int .i64
def cqf {β:Type}(n:Nat)(k:Nat->β):β:=Nat.rec (motive:=λ_=>β) (k 0) (λm _=>k (Nat.succ m)) n
def cqg {β:Type}(b n:Nat)(k:Nat->Nat->β):β:=cqf (Nat.mod n b) λd=>cqf (Nat.div n b) λm=>k d m
def cqn {β:Type}(n:Nat)(k:Nat->Nat->β):β:=cqg 32 n λd n=>bif Nat.ble d 23 then k d n else cqg 64 n λe n=>cqf (Nat.sub (Nat.add (Nat.mul d 64) e) 1512) λv=>k v n
def cql {α β:Type}(it:Nat->(α->Nat->β)->β)(n:Nat)(k:List α->Nat->β):β:=cqn n λj n=>Nat.rec (motive:=λ_=>Nat->(List α->Nat->β)->β) (λn k=>k [] n) (λ_ ih n k=>it n λa n=>ih n λl n=>k (a::l) n) j n k
def cqp {β:Type}(n:Nat)(k:Nat×Nat->Nat->β):β:=cqn n λa n=>cqn n λb n=>k (a,b) n
def cqb {β:Type}(n:Nat)(k:Bool->Nat->β):β:=cqg 2 n λa n=>bif Nat.beq a 1 then k true n else k false n
def cqo {β:Type}(n:Nat)(k:Option Nat->Nat->β):β:=cqn n λa n=>match a with
 |0=>k none n
 |i+1=>k (some i) n
def cqv {β:Type}(p n:Nat)(k:Nat->Nat->β):β:=cqg 16 n λd n=>bif Nat.beq d 15 then cqn n k else cqf (Nat.sub (Nat.add p d) 5) λv=>k v n
def cqr {β:Type}(n:Nat)(k:List (Nat×Bool)->Nat->β):β:=cqn n λj n=>Nat.rec (motive:=λ_=>Nat->Nat->(List (Nat×Bool)->Nat->β)->β) (λ_ n k=>k [] n) (λ_ ih p n k=>cqv p n λv n=>cqf (Nat.div v 2) λi=>ih v n λl n=>k ((i,Nat.beq (Nat.mod v 2) 1)::l) n) j 0 n k
def cqk {β:Type}(n:Nat)(k:EV.Kd->Nat->β):β:=cqg 8 n λd n=>match d with
 |0=>k i6 n
 |1=>k .bool n
 |2=>k .str n
 |3=>cqn n λa n=>k (.sl a) n
 |4=>cqn n λa n=>k (.st a) n
 |_=>k (.int .u8) n
def cqc {β:Type}(n:Nat)(k:EV.Lo->Nat->β):β:=cqn n λa n=>cqn n λb n=>k (.c a b) n
def cqs {β:Type}(n:Nat)(k:EV.Lo->Nat->β):β:=cqn n λa n=>k (.s a) n
def cqw {β:Type}(l:EV.Lo)(n:Nat)(k:EV.DI->Nat->β):β:=cqn n λa n=>cqn n λb n=>cqb n λd n=>k (.tr l a b d) n
def cqx {β:Type}(l:EV.Lo)(n:Nat)(k:EV.DI->Nat->β):β:=cqn n λa n=>cqb n λd n=>k (.nt l a d) n
def cqi {β:Type}(n:Nat)(k:EV.DI->Nat->β):β:=cqg 16 n λt n=>match t with
 |0=>cqs n λl n=>k (.nat l) n
 |1=>cqs n λl n=>k (.dat l i6) n
 |2=>cqs n λl n=>k (.dat l .bool) n
 |3=>cqs n λl n=>cqk n λq n=>k (.dat l q) n
 |4=>cqc n λl n=>k (.dat l i6) n
 |5=>cqc n λl n=>cqk n λq n=>k (.dat l q) n
 |6=>cqs n λl n=>cqw l n k
 |7=>cqc n λl n=>cqw l n k
 |8=>cqs n λl n=>cqx l n k
 |9=>cqc n λl n=>cqx l n k
 |10=>cqc n λl n=>k (.nat l) n
 |_=>cqn n λa n=>cqn n λb n=>cqb n λd n=>k (.ti a b d) n
def cqt {β:Type}(n:Nat)(k:EV.Tm->Nat->β):β:=cql cqp n λa n=>cql cqi n λb n=>cql cqp n λc n=>cql cqn n λd n=>k ⟨a,b,c,d⟩ n
def cqa {β:Type}(j n:Nat)(k:EV.An->Nat->β):β:=Nat.rec (motive:=λ_=>Nat->(EV.An->Nat->β)->β) (λn k=>k .n n) (λ_ f n k=>cqg 16 n λt n=>match t with
 |0=>k .n n
 |1=>f n λa n=>k (.s .n a) n
 |2=>f n λa n=>f n λb n=>k (.s a b) n
 |3=>f n λa n=>k (.s a .n) n
 |4=>cqt n λt n=>f n λa n=>k (.j t a) n
 |5=>cqt n λt n=>f n λa n=>k (.jx t a) n
 |6=>cqt n λt n=>f n λa n=>k (.l t FUEL a) n
 |7=>cqo n λa n=>cqr n λl n=>k (.r a l) n
 |8=>cqn n λi n=>cqt n λt n=>f n λa n=>k (.rj i t a) n
 |9=>cqn n λi n=>cql cqp n λw n=>cqs n λb n=>k (.rj i ⟨w,[.dat b .bool],[],[]⟩ .n) n
 |10=>cql cqn n λl n=>k (.z l) n
 |11=>cqb n λb n=>cqo n λf n=>cqo n λa n=>cqr n λl n=>k (.y b f a l) n
 |12=>cqn n λi n=>f n λa n=>f n λb n=>k (.il i a b) n
 |13=>cqo n λa n=>cql cqn n λb n=>cql cqn n λc n=>cqr n λl n=>k (.u a b c l) n
 |14=>f n λa n=>k (.pl a) n
 |_=>cqb n λv n=>cql cqn n λb n=>cqr n λl n=>bif v then k (.v b l) n else k (.w b l) n) j n k
def aZ (n:Nat):EV.An:=cqa 999 n λa _=>a
def aJu:SU:=bZ [.sl 183,i6] [i6] (fP (λ(a:List AG) (b:Int)=>gd (gJ (jD (λ_:AG=>True)) a b)) (λ(a:List AG) b=>dY (a.length) b))
def Iq:OK 37 aJu:=aV .n aB func37 aIn
def aWv:SU:=bZ [.sl 318,i6] [i6] (fP (λ(a:List AI) (b:Int)=>gd (gJ (jD (λ_:AI=>True)) a b)) (λ(a:List AI) b=>dY (a.length) b))
def aWw:OK 121 aWv:=aV .n aB func121 aVs
def aWx:SU:=bZ [.st 97,i6] [i6] (fP (λ(a:AD) (b:Int)=>gd (gJ AD.ok a b)) (λ(a:AD) b=>dY (a.sz) b))
def aWy:OK 61 aWx:=aV .n (gc aWw aB) func61 aVt
def aWz:SU:=bZ [.st 99,i6] [i6] (fP (λ(a:AF) (b:Int)=>gd (gJ AF.ok a b)) (λ(a:AF) b=>dY (a.sz) b))
def aW0:OK 36 aWz:=aV .n (gc Iq (gc aWy aB)) func36 aVu
def aSm:SU:=bZ [.sl 99,i6] [i6] (fP (λ(a:List AF) (b:Int)=>gd (gJ (jD AF.ok) a b)) (λ(a:List AF) b=>dY (a.length+(a.map AF.sz).sum) b))
def aSn:OK 12 aSm:=aV (aZ 111550212257939383255370214766289860102009105) (gc aW0 aB) func12 aQ4
def bCe:SU:=bZ [.sl 4,i6] [i6] (fP (λ(a:List Bool) (b:Int)=>gd (gJ (jD (λ_:Bool=>True)) a b)) (λ(a:List Bool) b=>dY (a.length) b))
def bCf:OK 13 bCe:=aV .n aB func13 bAu
def bCg:SU:=bZ [.sl 5,i6] [i6] (fP (λ(a:List Int) (b:Int)=>gd (gJ (jD (λ_:Int=>True)) a b)) (λ(a:List Int) b=>dY (a.length) b))
def aA0:OK 123 bCg:=aV .n aB func123 bAv
def bLa:SU:=bZ [.st 212,i6] [i6] (fP (λ(a:AK) (b:Int)=>gd (gJ AK.ok a b)) (λ(a:AK) b=>dY (a.sz) b))
def bLb:OK 122 bLa:=aV .n (gc aA0 aB) func122 bKv
def bFx:SU:=bZ [.sl 212,i6] [i6] (fP (λ(a:List AK) (b:Int)=>gd (gJ (jD AK.ok) a b)) (λ(a:List AK) b=>dY (a.length+(a.map AK.sz).sum) b))
def bFy:OK 62 bFx:=aV (aZ 111550212257939383255370214766289860102009105) (gc bLb aB) func62 bE3
def aEy:SU:=bZ [.st 27,i6] [i6] (fP (λ(a:AO) (b:Int)=>gd (gJ AO.ok a b)) (λ(a:AO) b=>dY (a.sz) b))
def aEz:OK 38 aEy:=aV .n (gc bFy aB) func38 aDs
def H6:SU:=bZ [.st 161,i6] [i6] (fP (λ(a:AJ) (b:Int)=>gd (gJ AJ.ok a b)) (λ(a:AJ) b=>dY (a.sz) b))
def H7:OK 63 H6:=aV .n (gc aA0 aB) func63 C9
def Xo:SU:=bZ [.sl 161,i6] [i6] (fP (λ(a:List AJ) (b:Int)=>gd (gJ (jD AJ.ok) a b)) (λ(a:List AJ) b=>dY (a.length+(a.map AJ.sz).sum) b))
def Xp:OK 39 Xo:=aV (aZ 111550212257939383255370214766289860102009105) (gc H7 aB) func39 Xe
def bCh:SU:=bZ [.st 30,i6] [i6] (fP (λ(a:AP) (b:Int)=>gd (gJ AP.ok a b)) (λ(a:AP) b=>dY (a.sz) b))
def bCi:OK 14 bCh:=aV .n (gc Iq (gc aEz (gc Xp aB))) func14 bAw
def aA1:SU:=bZ [.sl 361,i6] [i6] (fP (λ(a:List AV) (b:Int)=>gd (gJ (jD (λ_:AV=>True)) a b)) (λ(a:List AV) b=>dY (a.length) b))
def aA2:OK 200 aA1:=aV .n aB func200 X8
def aSo:SU:=bZ [.st 217,i6] [i6] (fP (λ(a:AH) (b:Int)=>gd (gJ AH.ok a b)) (λ(a:AH) b=>dY (a.sz) b))
def aSp:OK 124 aSo:=aV .n (gc aA2 aB) func124 aQ5
def aNz:SU:=bZ [.sl 217,i6] [i6] (fP (λ(a:List AH) (b:Int)=>gd (gJ (jD AH.ok) a b)) (λ(a:List AH) b=>dY (a.length+(a.map AH.sz).sum) b))
def aN0:OK 64 aNz:=aV (aZ 111550212257939383255370214766289860102009105) (gc aSp aB) func64 aMb
def aE0:SU:=bZ [.sl 321,i6] [i6] (fP (λ(a:List AY) (b:Int)=>gd (gJ (jD (λ_:AY=>True)) a b)) (λ(a:List AY) b=>dY (a.length) b))
def aE1:OK 125 aE0:=aV .n aB func125 aDt
def Xq:SU:=bZ [.st 107,i6] [i6] (fP (λ(a:AM) (b:Int)=>gd (gJ AM.ok a b)) (λ(a:AM) b=>dY (a.sz) b))
def Xr:OK 65 Xq:=aV .n (gc aE1 aB) func65 Xf
def bFz:SU:=bZ [.sl 3,i6] [i6] (fP (λ(a:List Int) (b:Int)=>gd (gJ (jD (λ_:Int=>True)) a b)) (λ(a:List Int) b=>dY (a.length) b))
def bF0:OK 66 bFz:=aV .n aB func66 bE4
def bF1:SU:=bZ [.st 110,i6] [i6] (fP (λ(a:AB) (b:Int)=>gd (gJ AB.ok a b)) (λ(a:AB) b=>dY (a.sz) b))
def bF2:OK 40 bF1:=aV .n (gc aN0 (gc Xr (gc bF0 aB))) func40 bE5
def bCj:SU:=bZ [.sl 110,i6] [i6] (fP (λ(a:List AB) (b:Int)=>gd (gJ (jD AB.ok) a b)) (λ(a:List AB) b=>dY (a.length+(a.map AB.sz).sum) b))
def bCk:OK 15 bCj:=aV (aZ 111550212257939383255370214766289860102009105) (gc bF2 aB) func15 bAx
def aSq:SU:=bZ [.sl 115,i6] [i6] (fP (λ(a:List AZ) (b:Int)=>gd (gJ (jD (λ_:AZ=>True)) a b)) (λ(a:List AZ) b=>dY (a.length) b))
def aSr:OK 67 aSq:=aV .n aB func67 aQ6
def aE2:SU:=bZ [.st 118,i6] [i6] (fP (λ(a:AC) (b:Int)=>gd (gJ AC.ok a b)) (λ(a:AC) b=>dY (a.sz) b))
def aE3:OK 41 aE2:=aV .n (gc aSr aB) func41 aDu
def aA3:SU:=bZ [.sl 118,i6] [i6] (fP (λ(a:List AC) (b:Int)=>gd (gJ (jD AC.ok) a b)) (λ(a:List AC) b=>dY (a.length+(a.map AC.sz).sum) b))
def aA4:OK 16 aA3:=aV (aZ 111550212257939383255370214766289860102009105) (gc aE3 aB) func16 X9
def aSs:SU:=bZ [.sl 195,i6] [i6] (fP (λ(a:List AR) (b:Int)=>gd (gJ (jD (λ_:AR=>True)) a b)) (λ(a:List AR) b=>dY (a.length) b))
def aSt:OK 42 aSs:=aV .n aB func42 aQ7
def aSu:SU:=bZ [.st 37,i6] [i6] (fP (λ(a:AU) (b:Int)=>gd (gJ AU.ok a b)) (λ(a:AU) b=>dY (a.sz) b))
def aSv:OK 17 aSu:=aV .n (gc aSt aB) func17 aQ8
def bCl:SU:=bZ [.st 39,i6] [i6] (fP (λ(a:AA) (b:Int)=>gd (gJ AA.ok a b)) (λ(a:AA) b=>dY (a.sz) b))
def bCm:OK 4 bCl:=aV .n (gc aSn (gc bCf (gc bCi (gc bCk (gc aA4 (gc aSv aB)))))) func4 bAy
def aW1:SU:=bZ [.sl 83,i6] [i6] (fP (λ(a:List AS) (b:Int)=>gd (gJ (jD (λ_:AS=>True)) a b)) (λ(a:List AS) b=>dY (a.length) b))
def aW2:OK 5 aW1:=aV .n aB func5 aVv
def aN1:SU:=bZ [.st 94] [.st 123] (cf1 (λa=>a))
def aN2:OK 83 aN1:=kE .n aB func83 aMc
def aN3:SU:=bZ [.st 183] [.st 181] (cf1 (λa=>a))
def aN4:OK 85 aN3:=kE .n aB func85 aMd
def aJv:SU:=gF [.sl 183] [.sl 181] (nG (λ(a:List AG)=>gd (a.length<=1048576)) (λa=>a))
def Ir:OK 46 aJv:=bW (aZ 523025950426306972437182650879950859593204497) (gc aN4 aB) func46 aIo
def bCn:SU:=bZ [.st 318] [.st 316] (cf1 (λa=>a))
def bCo:OK 232 bCn:=kE .n aB func232 bAz
def aW3:SU:=gF [.sl 318] [.sl 316] (nG (λ(a:List AI)=>gd (a.length<=1048576)) (λa=>a))
def aW4:OK 162 aW3:=bW (aZ 562400703667462603921456661597603749163057937) (gc bCo aB) func162 aVw
def aW5:SU:=gF [.st 97] [.st 126] (nG (λ(a:AD)=>gd (a.sz<=1048576)) (λa=>a))
def aW6:OK 84 aW5:=bW .n (gc aW4 aB) func84 aVx
def aW7:SU:=gF [.st 99] [.st 128] (nG (λ(a:AF)=>gd (a.sz<=1048576)) (λa=>a))
def aW8:OK 45 aW7:=bW .n (gc aN2 (gc Ir (gc aW6 aB))) func45 aVy
def aSw:SU:=gF [.sl 99] [.sl 128] (nG (λ(a:List AF)=>gd (a.length+(a.map AF.sz).sum<=1048576)) (λa=>a))
def aSx:OK 19 aSw:=bW (aZ 584178775150402665583112640976836542066737937) (gc aW8 aB) func19 aQ9
def bCp:SU:=gF [.sl 4] [.sl 4] (nG (λ(a:List Bool)=>gd (a.length<=1048576)) (λa=>a))
def bCq:OK 20 bCp:=bW (aZ 98060473100877378470200007472205904626449) aB func20 bA0
def bCr:SU:=gF [.sl 5] [.sl 5] (nG (λ(a:List Int)=>gd (a.length<=1048576)) (λa=>a))
def aA5:OK 164 bCr:=bW (aZ 100782732036244886177907040360457069282065) aB func164 bA1
def bLc:SU:=gF [.st 212] [.st 256] (nG (λ(a:AK)=>gd (a.sz<=1048576)) (λa=>a))
def bLd:OK 163 bLc:=bW .n (gc aA5 aB) func163 bKw
def bF3:SU:=gF [.sl 212] [.sl 256] (nG (λ(a:List AK)=>gd (a.length+(a.map AK.sz).sum<=1048576)) (λa=>a))
def bF4:OK 86 bF3:=bW (aZ 584527224294129706569699136646904266753196817) (gc bLd aB) func86 bE6
def aE4:SU:=gF [.st 27] [.st 48] (nG (λ(a:AO)=>gd (a.sz<=1048576)) (λa=>a))
def aE5:OK 47 aE4:=bW .n (gc bF4 aB) func47 aDv
def H8:SU:=gF [.st 161] [.st 185] (nG (λ(a:AJ)=>gd (a.sz<=1048576)) (λa=>a))
def H9:OK 87 H8:=bW .n (gc aA5 aB) func87 D5
def Xt:SU:=gF [.sl 161] [.sl 185] (nG (λ(a:List AJ)=>gd (a.length+(a.map AJ.sz).sum<=1048576)) (λa=>a))
def Xu:OK 48 Xt:=bW (aZ 545326695624837595578718373764285239526572817) (gc H9 aB) func48 Xg
def bCs:SU:=gF [.st 30] [.st 51] (nG (λ(a:AP)=>gd (a.sz<=1048576)) (λa=>a))
def bCt:OK 21 bCs:=bW .n (gc Ir (gc aE5 (gc Xu aB))) func21 bA2
def aE6:SU:=bZ [.st 361] [.st 308] (cf1 (λa=>a))
def aE7:OK 313 aE6:=kE .n aB func313 aDw
def aA6:SU:=gF [.sl 361] [.sl 308] (nG (λ(a:List AV)=>gd (a.length<=1048576)) (λa=>a))
def aA7:OK 233 aA6:=bW (aZ 517799213270401357638385215828934989296321297) (gc aE7 aB) func233 Y1
def aSy:SU:=gF [.st 217] [.st 225] (nG (λ(a:AH)=>gd (a.sz<=1048576)) (λa=>a))
def aSz:OK 165 aSy:=bW .n (gc aA7 aB) func165 aRa
def aN5:SU:=gF [.sl 217] [.sl 225] (nG (λ(a:List AH)=>gd (a.length+(a.map AH.sz).sum<=1048576)) (λa=>a))
def aN6:OK 88 aN5:=bW (aZ 411696449005517377222797284293312822269592337) (gc aSz aB) func88 aMe
def aJw:SU:=bZ [.st 321] [.st 289] (cf1 (λa=>a))
def aJx:OK 234 aJw:=kE .n aB func234 aIp
def aE8:SU:=gF [.sl 321] [.sl 289] (nG (λ(a:List AY)=>gd (a.length<=1048576)) (λa=>a))
def aE9:OK 166 aE8:=bW (aZ 411870673577380897716090532128346684612821777) (gc aJx aB) func166 aDx
def Xv:SU:=gF [.st 107] [.st 136] (nG (λ(a:AM)=>gd (a.sz<=1048576)) (λa=>a))
def Xw:OK 89 Xv:=bW .n (gc aE9 aB) func89 Xh
def bF5:SU:=gF [.sl 3] [.sl 3] (nG (λ(a:List Int)=>gd (a.length<=1048576)) (λa=>a))
def bF6:OK 90 bF5:=bW (aZ 95338214165509870762492974583954739970833) aB func90 bE7
def bF7:SU:=gF [.st 110] [.st 138] (nG (λ(a:AB)=>gd (a.sz<=1048576)) (λa=>a))
def bF8:OK 49 bF7:=bW .n (gc aN6 (gc Xw (gc bF6 aB))) func49 bE8
def bCu:SU:=gF [.sl 110] [.sl 138] (nG (λ(a:List AB)=>gd (a.length+(a.map AB.sz).sum<=1048576)) (λa=>a))
def bCv:OK 22 bCu:=bW (aZ 639930638146729223436951948187672491900158737) (gc bF8 aB) func22 bA3
def bCw:SU:=bZ [.st 33] [.st 53] (cf1 (λa=>a))
def bCx:OK 23 bCw:=kE .n aB func23 bA4
def bCy:SU:=bZ [.st 113] [.st 140] (cf1 (λa=>a))
def bCz:OK 167 bCy:=kE .n aB func167 bA5
def aW9:SU:=bZ [.st 115] [.st 142] (cf1 (λa=>a))
def o5:OK 91 aW9:=kE .n (gc bCz aB) func91 aVz
def aS0:SU:=gF [.sl 115] [.sl 142] (nG (λ(a:List AZ)=>gd (a.length<=1048576)) (λa=>a))
def aS1:OK 92 aS0:=bW (aZ 662231383345259846578487671072006871833527057) (gc o5 aB) func92 aRb
def aFa:SU:=gF [.st 118] [.st 145] (nG (λ(a:AC)=>gd (a.sz<=1048576)) (λa=>a))
def aFb:OK 50 aFa:=bW .n (gc o5 (gc aS1 aB)) func50 aDy
def aA8:SU:=gF [.sl 118] [.sl 145] (nG (λ(a:List AC)=>gd (a.length+(a.map AC.sz).sum<=1048576)) (λa=>a))
def aA9:OK 24 aA8:=bW (aZ 678956942244157813934639463235257656783553297) (gc aFb aB) func24 Y2
def aXa:SU:=bZ [.st 195] [.st 193] (cf1 (λa=>a))
def aXb:OK 93 aXa:=kE .n aB func93 aV0
def aS2:SU:=gF [.sl 195] [.sl 193] (nG (λ(a:List AR)=>gd (a.length<=1048576)) (λa=>a))
def aS3:OK 51 aS2:=bW (aZ 589928186021898841861789819532953999393309457) (gc aXb aB) func51 aRc
def aS4:SU:=gF [.st 37] [.st 57] (nG (λ(a:AU)=>gd (a.sz<=1048576)) (λa=>a))
def aS5:OK 25 aS4:=bW .n (gc aS3 aB) func25 aRd
def bC0:SU:=gF [.st 39] [.st 59] (nG (λ(a:AA)=>gd (a.sz<=1048576)) (λa=>a))
def bC1:OK 7 bC0:=bW .n (gc aSx (gc bCq (gc bCt (gc bCv (gc bCx (gc aA9 (gc aS5 aB))))))) func7 bA6
def bC2:SU:=bZ [.st 83] [.st 74] (cf1 (λa=>a))
def bC3:OK 26 bC2:=kE .n aB func26 bA7
def aXc:SU:=gF [.sl 83] [.sl 74] (nG (λ(a:List AS)=>gd (a.length<=1048576)) (λa=>a))
def aXd:OK 8 aXc:=bW (aZ 639756413574865702943658700352638629556929297) (gc bC3 aB) func8 aV1
def aBa:SU:=gF [.sl 181] [.sl 181] (nG (λ(a:List AG)=>gd (Qa a.length)) (λa=>a))
def lD:OK 126 aBa:=bW .n aB func126 Y6
def aBb:SU:=gF [.st 126] [.st 126] (nG (λ(a:AD)=>gd (Qa a.sz)) (λa=>a))
def nZ:OK 127 aBb:=bW .n aB func127 Y5
def aBc:SU:=gF [.st 128] [.st 128] (nG (λ(a:AF)=>gd (Qa a.sz)) (λa=>a))
def oC:OK 68 aBc:=bW .n (gc lD (gc nZ aB)) func68 Y7
def aBd:SU:=gF [.st 48] [.st 48] (nG (λ(a:AO)=>gd (Qa a.sz)) (λa=>a))
def aBe:OK 128 aBd:=bW (aZ 2451693666827569672395318982211137682523311554315025) aB func128 bBl
def aBf:SU:=gF [.st 185] [.st 185] (nG (λ(a:AJ)=>gd (Qa a.sz)) (λa=>a))
def Iu:OK 129 aBf:=bW .n aB func129 bBm
def aBg:SU:=gF [.st 51] [.st 51] (nG (λ(a:AP)=>gd (Qa a.sz)) (λa=>a))
def Iw:OK 69 aBg:=bW (aZ 475307423143596727326209310713331266131787361614093688448974020642871480097504234622487329) (gc lD (gc aBe (gc Iu aB))) func69 Y8
def aBh:SU:=gF [.st 225] [.st 225] (nG (λ(a:AH)=>gd (Qa a.sz)) (λa=>a))
def tZ:OK 130 aBh:=bW .n aB func130 Y9
def aBi:SU:=gF [.st 136] [.st 136] (nG (λ(a:AM)=>gd (Qa a.sz)) (λa=>a))
def uA:OK 131 aBi:=bW .n aB func131 Z0
def aBj:SU:=gF [.st 138] [.st 138] (nG (λ(a:AB)=>gd (Qa a.sz)) (λa=>a))
def uB:OK 70 aBj:=bW (aZ 108072395765611128655611833176661903815339289908493986145483740787929703002385) (gc tZ (gc uA aB)) func70 bBn
def aBk:SU:=gF [.st 145] [.st 145] (nG (λ(a:AC)=>gd (Qa a.sz)) (λa=>a))
def uC:OK 132 aBk:=bW .n aB func132 Z4
def o6:SU:=gF [.sl 145] [.sl 145] (nG (λ(a:List AC)=>gd (Qa (Fu AC.sz a))) (λa=>a))
def qI:OK 71 o6:=bW (aZ 92701759796359387641169155744770323547215250193) (gc uC aB) func71 Zv
def aBl:SU:=gF [.st 57] [.st 57] (nG (λ(a:AU)=>gd (Qa a.sz)) (λa=>a))
def aBm:OK 72 aBl:=bW .n aB func72 Z5
def aBn:SU:=gF [.st 59] [.st 59] (nG (λ(a:AA)=>gd (Qa a.sz)) (λa=>a))
def bX:OK 43 aBn:=bW (aZ 102514102227617355711171233455945883844868193885237920389645160927143330634576916205922387274671348261216302265289630665782273077308536837461708397043066872081) (gc oC (gc Iw (gc uB (gc qI (gc aBm aB))))) func43 bBo
def aUy:SU:=bZ [i6,i6,i6] [.bool] (cf3 bE)
def aY:OK 135 aUy:=bPx (aZ 27088518400305) aB func135 bN3
def bC4:SU:=bZ [i6,i6] [i6] (cr2 tJ)
def bC5:OK 350 bC4:=bAb (aZ 7948198436398118515453869777423290321519973188853020377873) aB func350
def Oo:SU:=bZ [i6] [.bool] (cf1 dH)
def dE:OK 138 Oo:=kE .n (gc aY aB) func138 Ny
def Ux:SU:=bZ [i6] [i6] (cf1 gX)
def oV:OK 214 Ux:=kE .n (gc dE aB) func214 Uf
def Oq:SU:=bZ [i6] [i6] (cf1 iF)
def uD:OK 286 Oq:=kE .n (gc aY (gc bC5 (gc oV aB))) func286 aMm
def vV:SU:=bZ [.st 225] [.bool] (nG (λ(a:AH)=>gd (Qa a.sz)) aS)
def gM:OK 201 vV:=bW (aZ 149658112258231382564821575445994256344210197702136784479985501661010758111007349005744858243012611040906636709135629394305941965668444953400212174205939528527924234826895594785) (gc aY (gc uD aB)) func201 E5
def aXe:SU:=gF [.str] [.sl 9] (nG (λ(a:ByteArray)=>gd (Qa a.size)) bC)
def Ak:OK 288 aXe:=bW (aZ 1413457084396440731664285783607478515905057226742149443474181254491309578411857324219314449) aB func288 aWf
def bC6:SU:=bZ [.str] [.bool] (nG (λ(a:ByteArray)=>gd (Qa a.size)) xZ)
def bC7:OK 351 bC6:=bW (aZ 3973757751516562854963013659376026722532841936529013908086986017) (gc aY aB) func351 bBs
def bF9:SU:=bZ [.str] [.bool] (nG (λ(a:ByteArray)=>gd (Qa a.size)) fB)
def Qp:OK 287 bF9:=bW (aZ 21281947358475250235108354669884429073) (gc Ak (gc bC7 aB)) func287 bFh
def bC8:SU:=gF [.str,i6] [.st 138] (fP (λ(a:ByteArray) _=>gd (Qa a.size)) Fq)
def bC9:OK 202 bC8:=aV (aZ 1261112169265) (gc Qp (gc Ak (gc dE aB))) func202 bBt
def Iy:SU:=bZ [.st 136] [.bool] (nG (λ(a:AM)=>gd (Qa a.sz)) dB)
def lZ:OK 203 Iy:=bW (aZ 177653836401949782879458188901788839826742361693913650273772380289429557799276730111358200669095231492920675959386150177) (gc aY aB) func203 aIw
def Iz:SU:=bZ [.st 138] [.bool] (nG (λ(a:AB)=>gd (Qa a.sz)) dN)
def mD:OK 133 Iz:=bW (aZ 674688253123533618709917142074070774899395520084126829501890374590706198723612514174739806356265198949665) (gc gM (gc bC9 (gc lZ aB))) func133 aI0
def o7:SU:=bZ [i6] [.str] (cf1 aC)
def iB:OK 134 o7:=kE .n aB func134 Zw
def vW:SU:=bZ [.st 57] [.bool] (nG (λ(a:AU)=>gd (Qa a.sz)) eH)
def vX:OK 136 vW:=bW (aZ 8165736039189911184327482077456625170977081868749956881333416996557304524231116472977499741936162097) (gc aY aB) func136 D8
def aHd:SU:=bZ [.sl 3,i6] [.bool] (fP (λ(a:List Int) _=>gd (a.length<=1099511627776)) kL)
def xR:OK 219 aHd:=aV (aZ 1512008155573988610282801) aB func219 aG9
def Uy:SU:=gF [.sl 181] [.sl 3] (nG (λ(a:List AG)=>gd (Qa a.length)) aK)
def lF:OK 220 Uy:=bW (aZ 258261965854339793952193127673086141397744142240667088433986229328731526153543241122772316200925516672847573776441564443121397643199639308387948385935978912787877479185) (gc xR aB) func220 aRp
def bDa:SU:=bZ [i6,i6] [i6] (cf2 bQ)
def oD:OK 372 bDa:=mQ .n (gc aY aB) func372 bP8
def aUz:SU:=bZ [.sl 3] [i6] (nG (λ(a:List Int)=>gd (a.length<=1099511627776)) Yd)
def aU0:OK 353 aUz:=bW (aZ 5078197189514970657963896816401) (gc oD aB) func353 aUv
def Uz:SU:=bZ [.st 181] [i6] (cf1 dG)
def xA:OK 291 Uz:=kE .n (gc aU0 aB) func291 Ug
def aBo:SU:=bZ [.sl 181] [i6] (nG (λ(a:List AG)=>gd (Qa a.length)) jV)
def aBp:OK 289 aBo:=bW .n (gc xA aB) func289 Z6
def Va:SU:=bZ [i6, .sl 3] [i6] (fP (λ_ (b:List Int)=>gd (Qa b.length)) bN)
def dK:OK 294 Va:=aV .n (gc aU0 aB) func294 aRj
def Ja:SU:=bZ [i6, .sl 3] [i6] (fP (λ_ (b:List Int)=>gd (Qb b.length)) Rh)
def qQ:OK 352 Ja:=aV .n (gc dE (gc dK aB)) func352 aIu
def uE:SU:=bZ [i6, .sl 3,i6] [.bool] (cg3 (λ_ (b:List Int) _=>gd (Qb b.length)) kR)
def uF:OK 290 uE:=gV (aZ 437951779803921) (gc uD (gc qQ aB)) func290 tX
def bDb:SU:=bZ [.sl 181, .st 181] [.bool] (fP (λ(a:List AG) _=>gd (Qa a.length)) xO)
def bDc:OK 204 bDb:=aV (aZ 5268634068966960978506288595925906049564494141450190167379729865478477448846223762211772132441422967304265151208293656936707260827170917049088162999855898793008178316009194897044620301870744492937745) (gc lF (gc xR (gc aBp (gc xA (gc uF aB))))) func204 bBu
def Vb:SU:=bZ [.sl 181] [.bool] (nG (λ(a:List AG)=>gd (Qa a.length)) bO)
def iO:OK 137 Vb:=bW (aZ 383834479479121971564633932108789183721903494449) (gc bDc (gc aY aB)) func137 aRz
def Dc:SU:=bZ [.st 59] [.bool] (nG (λ(a:AA)=>gd (Qa a.sz)) aH)
def eZ:OK 73 Dc:=bW (aZ 9240178236694647963416583176296439614467488148818647080631607713769666496150890260961530484001) (gc mD (gc iB (gc aY (gc vX (gc iO (gc dE aB)))))) func73 aD7
def rV:SU:=gF [.st 136,i6] [.st 136] (fP (λ(a:AM) _=>gd (Qa a.sz)) kD)
def Vd:OK 139 rV:=aV (aZ 4180720148894368432176749603798724253207693773522163195357114754996054971992835607614710459344764473617) (gc lZ (gc uA aB)) func139 Uv
def aBq:SU:=gF [.st 59] [.st 59, .bool] (nG (λ(a:AA)=>gd (Qa a.sz)) Rm)
def bDd:OK 74 aBq:=bW (aZ 5853225679923371414574328311853724418907871343504960523920141171859906564369) (gc bX (gc eZ (gc Vd aB))) func74 bCd
def aXf:SU:=bZ [.st 59,i6,i6] [.bool] (cg3 (λ(a:AA) _ _=>gd (Qa a.sz)) dA)
def mR:OK 143 aXf:=gV (aZ 28046296103217) (gc eZ (gc aY aB)) func143 aWq
def aS6:SU:=bZ [.str] [.st 265] (cf1 (λa=>(AQ.mk true a 443)))
def xB:OK 206 aS6:=kE .n aB func206 aSg
def I1:SU:=bZ [.st 136,i6,i6] [.st 136, .st 289, .bool] (cg3 (λ(a:AM) _ _=>gd (Qa a.sz)) lX)
def I4:OK 409 I1:=gV (aZ 19839366989039519180733560789018423825) (gc uA (gc lZ (gc aY (gc (bR4 2000000) aB)))) func409 F8
def Jb:SU:=bZ [.st 138,i6] [i6] (fP (λ(a:AB) _=>gd (Qa a.Accounts.length)) aF)
def mE:OK 153 Jb:=aV (aZ 1512081942550283465266481) aB func153 Im
def vY:SU:=bZ [.st 136,i6] [i6] (cf2 iY)
def vZ:OK 410 vY:=mQ .n (gc dK aB) func410 vU
def aN7:SU:=bZ [.st 138,i6,i6] [.st 138,i6,i6, .bool] (cg3 (λ(a:AB) _ _=>gd (Qa a.sz)) pQ)
def aN8:OK 354 aN7:=gV (aZ 2601748289582900370333807618677596740591889) (gc uB (gc I4 (gc mD (gc mE (gc vZ aB))))) func354 aNg
def aXg:SU:=bZ [.st 265] [.bool] (nG (λ(a:AQ)=>gd (Qa a.Host.size)) iA)
def Al:OK 460 aXg:=bW (aZ 9496315578673) (gc Qp (gc aY aB)) func460 aWo
def De:SU:=bZ [.st 265] [.str] (nG (λ(a:AQ)=>gd (gU a)) kW)
def Df:OK 411 De:=bW (aZ 1342551320834378536797026610361844949198180625) (gc Al (gc aQw aB)) func411 aEr
def Jc:SU:=gF [.sl 5] [.sl 3] (nG (λ(a:List Int)=>gd (Qe a.length)) A9)
def qR:OK 366 Jc:=bW (aZ 22491321293927826851792585417074983074677521) aB func366 Ig
def bQm:SU:=bZ [i6,i6] [i6] (cf2 bKd)
def aJy:OK 293 bQm:=mQ .n aB func293 bQa
def rW:SU:=bZ [i6, .str] [i6] (fP (λ_ (b:ByteArray)=>gd (Qb b.size)) pY)
def rX:OK 305 rW:=aV .n (gc qR (gc dK (gc aJy (gc (bR4 1000159) aB)))) func305 Ui
def o8:SU:=bZ [.str] [i6] (nG (λ(a:ByteArray)=>gd (Qb a.size)) cO)
def Ao:OK 225 o8:=bW .n (gc rX aB) func225 Zx
def rY:SU:=gF [.st 328] [.sl 3] (nG (λ(a:A0)=>gd (Qb a.Site.size/\Qb a.aAL.size)) aW)
def rZ:OK 413 rY:=bW (aZ 379729362152918894294640758624704417317393) (gc Ao (gc rX aB)) func413 Uq
def Dh:SU:=bZ [.st 123] [.bool] (cf1 yE)
def aFc:OK 462 Dh:=kE (aZ 10870705113393) (gc aY (gc dE aB)) func462 Da
def Ve:SU:=bZ [i6, .sl 3] [i6] (fP (λ_ (b:List Int)=>gd (Qb b.length)) bJ)
def dL:OK 207 Ve:=aV .n (gc dK (gc aJy aB)) func207 aRl
def Jd:SU:=bZ [.st 123, .str,i6] [i6] (cg3 (λ_ (b:ByteArray) _=>gd (Qb b.size)) dV)
def Je:OK 217 Jd:=gV (aZ 9540075269392177) (gc Ao (gc dL aB)) func217 Ik
def zO:SU:=bZ [.st 123, .str,i6, .sl 3] [.st 123,i6, .bool] (cg4 (λ_ (b:ByteArray) _ (d:List Int)=>gd (Qb b.size/\Qc d.length)) lY)
def aBr:OK 412 zO:=yG (aZ 1364068932489997554115405944700710650183644648225) (gc aFc (gc Je (gc qQ aB))) func412 aAr
def aHe:SU:=bZ [.st 265, .str] [.bool] (fP (λ(a:AQ) (b:ByteArray)=>gd (sP a b)) oM)
def aHf:OK 414 aHe:=aV (aZ 183345711093510782452611978017) (gc Al (gc Qp (gc Ak aB))) func414 bFp
def zP:SU:=bZ [.st 123, .st 265, .str,i6,i6, .bool] [.st 123, .st 328, .bool] (cg6 (λ_ (b:AQ) (c:ByteArray) _ _ _=>gd (sP b c)) qG)
def aBs:OK 355 zP:=cDv (aZ 5996080749850841059322702911237225468231016749433080975372817) (gc Df (gc rZ (gc aBr (gc aHf aB)))) func355 aAt
def zQ:SU:=bZ [.st 136,i6] [i6] (fP (λ(a:AM) _=>gd (Qa a.Open.length)) bP)
def aBt:OK 463 zQ:=aV (aZ 1512081942550283465266481) aB func463 zM
def zR:SU:=gF [.st 136,i6,i6,i6] [.st 136, .bool] (cg4 (λ(a:AM) _ _ _=>gd (Qa a.sz)) yD)
def aBu:OK 415 zR:=yG (aZ 1714687854789257327230713514431362523509249937906685656669478631271429856375313) (gc aBt (gc lZ (gc uA aB))) func415 aAp
def Di:SU:=bZ [.st 225,i6] [.bool] (fP (λ(a:AH) _=>gd (Qa a.sz)) sQ)
def aFd:OK 416 Di:=aV (aZ 217903840095377276533038235747109728195361) (gc gM (gc aY aB)) func416 aEp
def wB:SU:=bZ [.st 225,i6] [i6] (fP (λ(a:AH) _=>gd (Qa a.Credentials.length)) aU)
def wC:OK 221 wB:=aV (aZ 1512081942550283465266481) aB func221 vT
def Jf:SU:=bZ [.str] [.st 265, .bool] (nG (λ(a:ByteArray)=>gd (bEu a)) oN)
def aJz:OK 477 Jf:=bW (aZ 4443044101716771228569085159599448998883244782287629585509122667886391689813803432230675916910193796803774324849786233627774077673517883665) (gc aVn (gc Al (gc Df aB))) func477 aJi
def wD:SU:=bZ [i6, .st 328, .str,i6,i6] [i6] (cg5 (λ_ (b:A0) (c:ByteArray) _ _=>gd (AsP b c)) kX)
def I5:OK 464 wD:=bKq (aZ 48425646160395938895632877023739960860829954833) (gc aJz (gc aHf (gc rZ (gc uF aB)))) func464 G5
def zS:SU:=gF [.st 225, .st 328, .str,i6] [.st 225,i6] (cg4 (λ(a:AH) (b:A0) (c:ByteArray) _=>gd (AsP b c/\Qa a.sz)) nW)
def aBv:OK 417 zS:=yG (aZ 72876055809822022884860499814416240649530435972787655090449) (gc tZ (gc wC (gc gM (gc I5 aB)))) func417 aAv
def Jg:SU:=gF [.st 138,i6,i6,i6, .st 328] [.st 138,i6,i6] (cg5 (λ(a:AB) _ _ _ (e:A0)=>gd (AsP e a.Name/\Qb a.sz)) qH)
def aJ0:OK 356 Jg:=bKq (aZ 101321437951177069134061279803488821451381313826398481) (gc uB (gc mE (gc mD (gc aBu (gc aFd (gc vZ (gc aBv aB))))))) func356 aJk
def Ot:SU:=gF [.st 57,i6,i6,i6] [.st 57, .bool] (cg4 (λ(a:AU) _ _ _=>gd (Qb a.sz)) rA)
def nH:OK 218 Ot:=yG (aZ 12440250891810817459268953344869184103848402796003082155756023690608662146757477173783253592187545493768719123650195810708365585) (gc vX (gc aBm aB)) func218 aNe
def aHg:SU:=gF [.st 59,i6,i6, .st 265] [.st 59, .st 328,i6] (cg4 (λ(a:AA) _ _ (d:AQ)=>gd (gU d/\Qc a.sz)) wW)
def bGa:OK 292 aHg:=yG (aZ 4594483505909104551907923054923019706081350051913152120220634625237090190267574621450504072406268714979848834720017) (gc bX (gc mR (gc aN8 (gc iB (gc aBs (gc aJ0 (gc nH aB))))))) func292 bFs
def o9:SU:=gF [.st 59,i6,i6, .st 265] [.st 59,i6] (cg4 (λ(a:AA) _ _ (d:AQ)=>gd (gU d/\Qc a.sz)) oO)
def Ap:OK 205 o9:=yG .n (gc bGa aB) func205 Zz
def Jh:SU:=gF [.st 59,i6,i6] [.st 59,i6] (cg3 (λ(a:AA) _ _=>gd (Qc a.sz)) sS)
def aJ1:OK 140 Jh:=gV (aZ 75089637328874157146866020946721) (gc mR (gc bX (gc iB (gc xB (gc Ap aB))))) func140 aJm
def Ou:SU:=gF [.st 59,i6,i6, .str] [.st 59,i6] (cg4 (λ(a:AA) (b:Int) (c:Int) (d:ByteArray)=>gd (Qo a b c d/\Qc a.sz)) Xc)
def aN9:OK 141 Ou:=yG (aZ 293318893601647809653790642977) (gc mR (gc bX (gc xB (gc Ap aB)))) func141 aNs
def Ov:SU:=gF [.st 59,i6,i6] [.st 59,i6] (cg3 (λ(a:AA) _ _=>gd (Qc a.sz)) Ga)
def aOa:OK 142 Ov:=gV (aZ 75089637328874157146936887907105) (gc mR (gc bX (gc iB (gc xB (gc Ap aB))))) func142 aNt
def bGb:SU:=gF [.st 59, .st 74] [.st 59, .bool] (fP (λ(a:AA) _=>gd (Qc a.sz)) aIh)
def bGc:OK 75 bGb:=aV (aZ 214923180246257278663447035456177779113807484714378105336863261500156601543881739896335489311672966361426219634699514031801611108338710590727504802065) (gc aJ1 (gc iB (gc aN9 (gc aOa aB)))) func75 bFw
def Ji:SU:=gF [.st 59,i6] [.st 59, .bool] (fP (λ(a:AA) _=>gd (Qa a.sz)) wX)
def aJ2:OK 76 Ji:=aV (aZ 21145237140241) (gc bX (gc mR aB)) func76 aJr
def aXh:SU:=bZ [.st 59,i6] [.bool] (fP (λ(a:AA) _=>gd (Qa a.sz)) (λa b=>aH a&&aJ a b))
def p8:OK 156 aXh:=aV (aZ 18700438878513) (gc eZ (gc aY aB)) func156 aWl
def Jj:SU:=gF [.st 51,i6] [.st 185, .bool] (fP (λ(a:AP) _=>gd (Qa a.sz)) kI)
def aJ3:OK 227 Jj:=aV .n (gc aY (gc Iu aB)) func227 aI5
def aBw:SU:=bZ [.sl 181] [i6] (nG (λ(a:List AG)=>gd (Qa a.length)) bA)
def jA:OK 210 aBw:=bW (aZ 8958872984362386125951696568341434409725596877585) aB func210 aAe
def Ox:SU:=bZ [.sl 181, .sl 181] [.bool] (fP (λ(a:List AG) _=>gd (Qa a.length)) eX)
def uG:OK 298 Ox:=aV (aZ 5721316685687911404930256411556853992343284319049110289) aB func298 Oc
def aS7:SU:=bZ [.st 123] [i6] (cf1 qE)
def xC:OK 215 aS7:=kE .n (gc dL aB) func215 aRo
def Dj:SU:=bZ [.st 123] [i6] (cf1 bI)
def iG:OK 146 Dj:=kE .n (gc xC (gc oV aB)) func146 aD3
def aHh:SU:=bZ [i6,i6] [i6] (cf2 kQ)
def aHi:OK 418 aHh:=mQ .n (gc dL aB) func418 bFl
def aHj:SU:=bZ [i6, .st 256] [i6] (fP (λ_ (b:AK)=>gd (Qc b.Data.length)) aVd)
def aHk:OK 419 aHj:=aV (aZ 1282915023708164687711025) (gc qR (gc dK aB)) func419 bFm
def aBx:SU:=gF [i6, .sl 5] [.sl 5] (fP (λ_ (b:List Int)=>gd (Qa b.length)) aZp)
def aBy:OK 370 aBx:=aV (aZ 1687802987703390108053794388202727864413144899545435418113611622571137188625) (gc dK (gc oD aB)) func370 bBw
def aBz:SU:=gF [i6, .st 256] [.sl 5, .bool] (cf2 kV)
def bDe:OK 420 aBz:=mQ (aZ 221265480700987612450496224270053972308343150861207793302598091553) (gc dE (gc oV (gc aHi (gc aHk (gc aBy aB))))) func420 aAf
def aB0:SU:=gF [.sl 256,i6] [.sl 5, .bool] (fP (λ(a:List AK) _=>gd (Qa a.length)) jT)
def bDf:OK 367 aB0:=aV (aZ 1814387184430235613926705) (gc bDe aB) func367 aAg
def Jk:SU:=bZ [.sl 5,i6] [i6,i6, .bool] (fP (λ(a:List Int) _=>gd (aT a)) Qt)
def Jl:OK 421 Jk:=aV (aZ 2777747860046777180805795972006513582680155573018870605250165156696849) aB func421 aI8
def Oy:SU:=gF [.sl 5,i6,i6] [.sl 3,i6, .bool] (cg3 (λ(a:List Int) _ _=>gd (aT a)) jU)
def Oz:OK 368 Oy:=gV (aZ 135260595159012494794576423707331533717375747052062678226965245800977) (gc aY (gc Jl aB)) func368 aMx
def wE:SU:=bZ [.st 123, .st 48] [i6, .bool] (fP (λ_ (b:AO)=>gd (Qa b.sz)) eO)
def I6:OK 306 wE:=aV (aZ 223069600179381739943662050253068240324613493111511488139951520624627622618597153) (gc xC (gc bDf (gc Oz (gc dE aB)))) func306 E9
def aXi:SU:=bZ [i6,i6,i6] [.bool] (cf3 (λa b c=>dH a&&(bE b 0 1000000&&bE c 0 1000000)))
def p9:OK 360 aXi:=bPx (aZ 27496540289329) (gc dE (gc aY aB)) func360 aWm
def Vf:SU:=bZ [i6, .st 185] [i6] (fP (λ_ (b:AJ)=>gd (Qc b.Data.length)) jW)
def Vg:OK 364 Vf:=aV (aZ 1282915023708164687711025) (gc qR (gc dK aB)) func364 aR6
def bGd:SU:=bZ [i6,i6,i6] [i6] (cf3 nQ)
def aHl:OK 362 bGd:=bPx .n (gc dL aB) func362 bFo
def bDg:SU:=bZ [.st 316,i6,i6] [.bool] (cf3 lK)
def aB1:OK 365 bDg:=bPx (aZ 28054886046001) aB func365 bBj
def q9:SU:=bZ [.st 126] [.bool] (nG (λ(a:AD)=>gd (Qa a.sz)) aM)
def jI:OK 304 q9:=bW (aZ 2091453699809859300026499212712393550002205285187865145257621030769973766847341288049892197588346869041) (gc aY (gc aB1 aB)) func304 aV8
def zT:SU:=gF [.sl 5,i6] [.sl 5] (fP (λ(a:List Int) _=>gd (Qb a.length)) Qm)
def aB2:OK 358 zT:=aV (aZ 55381232652500391146925218214652832481564333985509649) (gc aY aB) func358 aAh
def Pb:SU:=gF [.sl 3] [.sl 5] (nG (λ(a:List Int)=>gd (a.length<=5000000000)) pO)
def Pd:OK 297 Pb:=bW (aZ 22502210328999977365702910586365407844778769) (gc aB2 aB) func297 Od
def Dk:SU:=gF [.st 126] [.sl 5] (nG (λ(a:AD)=>gd (Qa a.sz)) yB)
def Dl:OK 363 Dk:=bW (aZ 82767078567104366073894390885429141876367888452264261703146796209108902390207930551084138449949527063025152333611724359358486950161) (gc jI (gc Pd aB)) func363 aEf
def aOb:SU:=bZ [.sl 5, .sl 5] [.bool] (fP (λ(a:List Int) (b:List Int)=>gd (aT a/\aT b)) (λ(a:List Int) (b:List Int)=>(a==b)))
def aOc:OK 422 aOb:=aV .n aB func422 aMy
def Dm:SU:=gF [.sl 5] [.st 126, .bool] (nG (λ(a:List Int)=>gd (aT a)) aGg)
def aFe:OK 369 Dm:=bW (aZ 1803031061727933069224486653207142541020707934834558642506014483918916761442883298828244477892178449) (gc Jl (gc Oz (gc jI (gc Dl (gc aOc aB))))) func369 aEh
def Pe:SU:=gF [i6, .st 185] [.st 126, .bool] (fP (λ_ (b:AJ)=>gd (Qc b.Data.length)) nS)
def aOd:OK 307 Pe:=aV (aZ 190374958109168879624803769457077942536237687846693501200270113) (gc p9 (gc Vg (gc aHl (gc aBy (gc aFe aB))))) func307 aM0
def Vh:SU:=bZ [.st 126,i6,i6] [i6] (cg3 (λ(a:AD) _ _=>gd (Qa a.sz)) aL)
def oW:OK 302 Vh:=gV (aZ 12503358836619282199877897274846042880977147185) aB func302 aRs
def bGe:SU:=gF [.st 126, .st 316] [.st 126] (fP (λ(a:AD) _=>gd (Qe a.sz)) sM)
def Qq:OK 303 bGe:=aV (aZ 586318799885595156156288335128909011585578225272685017555240147100578867922688759187059926763818246826220143807435025) (gc nZ (gc oW (gc aB1 aB))) func303 bFf
def Dp:SU:=gF [.st 126, .st 126] [.st 126, .bool] (fP (λ(a:AD) (b:AD)=>gd (Qa a.sz/\Qa b.sz)) nO)
def aFf:OK 308 Dp:=aV (aZ 3280457975187747362466017661854359886946184820553944023800920945086010874228733315434003594771625576808991499086193802620518534860084762290501574919089130083105) (gc jI (gc nZ (gc oW (gc Qq aB)))) func308 aD5
def Pf:SU:=gF [.st 128, .sl 181, .st 48, .st 185] [.st 128,i6] (cg4 (λ(a:AF) (b:List AG) (c:AO) (d:AJ)=>gd (Qa a.sz/\Qa b.length/\Qa c.sz/\Qc d.Data.length)) gK)
def aOe:OK 228 Pf:=yG (aZ 1063305127804797355496481764620753304702260496361055540189939804392011048192822864415819633472128498737425) (gc oC (gc jA (gc iO (gc uG (gc lF (gc iG (gc xR (gc I6 (gc aOd (gc aFf (gc lD aB))))))))))) func228 aM2
def bDh:SU:=gF [.st 128, .st 51,i6] [.st 128,i6] (cg3 (λ(a:AF) (b:AP) _=>gd (Qd a.sz/\Qd b.sz)) (λa (b:AP) c=>gK a b.Log b.Boxes (kI b c).1))
def bDi:OK 158 bDh:=gV .n (gc aJ3 (gc aOe aB)) func158 bB1
def aB3:SU:=gF [.st 59,i6,i6] [.st 59,i6] (cg3 (λ(a:AA) _ _=>gd (Qd a.sz)) aG)
def uH:OK 81 aB3:=gV (aZ 41905564277902955532471972113) (gc bX (gc p8 (gc bDi aB))) func81 bB2
def Pg:SU:=bZ [i6,i6] [.st 123] (cf2 aX)
def aOf:OK 144 Pg:=mQ .n (gc dL aB) func144 Oe
def Dq:SU:=bZ [.st 123, .sl 3] [i6] (fP (λ_ (b:List Int)=>gd (Qb b.length)) qC)
def aFg:OK 295 Dq:=aV .n (gc xC (gc qQ aB)) func295 aEk
def Jm:SU:=gF [.sl 181,i6,i6, .st 123] [.sl 181, .bool] (cg4 (λ(a:List AG) _ _ _=>gd (Qb a.length)) gY)
def Jn:OK 208 Jm:=yG (aZ 925924484563937005236102533966944698070692369) (gc iG (gc aBp (gc xA (gc aFg (gc lD (gc iO aB)))))) func208 aJd
def r9:SU:=bZ [i6,i6] [i6] (cf2 rC)
def w9:OK 209 r9:=mQ .n (gc dL aB) func209 Zy
def aB4:SU:=gF [i6, .sl 5] [.sl 5] (fP (λ_ (b:List Int)=>gd (aT b)) Az)
def aB5:OK 361 aB4:=aV (aZ 1687751224605789178825388627533760786722251516228144140214447903639458693905) (gc dK aB) func361 bB5
def aB6:SU:=gF [i6,i6, .sl 5] [.st 256, .bool] (cg3 (λ_ _ (c:List Int)=>gd (aT c)) jX)
def bDj:OK 357 aB6:=gV (aZ 26748019880721) (gc uD (gc dE (gc aHi (gc aB5 (gc aHk aB))))) func357 aAk
def Vi:SU:=gF [.sl 3,i6, .sl 5] [.sl 256, .bool] (cg3 (λ(a:List Int) _ (c:List Int)=>gd (Qb a.length/\aT c)) (λa b c=>nE b c 0 a))
def aS8:OK 296 Vi:=gV (aZ 846613370790193895353879940937242931718166895809297) (gc bDj aB) func296 Um
def wF:SU:=gF [.sl 181,i6,i6] [.st 48, .bool] (cg3 (λ(a:List AG) _ _=>gd (Qb a.length)) iI)
def wG:OK 211 wF:=gV (aZ 423657086519554321) (gc jA (gc lF (gc Pd (gc aS8 (gc iO (gc dE aB)))))) func211 F4
def Ph:SU:=bZ [.st 48,i6] [i6] (fP (λ(a:AO) _=>gd (Qa a.Boxes.length)) sN)
def aOg:OK 359 Ph:=aV (aZ 14805241931684509665402770108862000109557844624145) aB func359 Oh
def Vj:SU:=bZ [.st 48, .sl 181] [.bool] (fP (λ(a:AO) (b:List AG)=>gd (Qa a.Boxes.length/\Qa b.length)) sO)
def aS9:OK 299 Vj:=aV (aZ 127589625612575478618809296274767220600081184136848220571154993767794721624564534149152121867686417) (gc lF (gc aOg (gc jA aB))) func299 aSb
def Vk:SU:=gF [.st 51, .sl 181, .st 48] [.st 51, .bool] (cg3 (λ(a:AP) (b:List AG) (c:AO)=>gd (Qa a.sz/\Qa b.length/\Qa c.sz)) mZ)
def Vl:OK 212 Vk:=gV (aZ 97218770580241) (gc Iw (gc iO (gc uG (gc aS9 (gc lD (gc aBe aB)))))) func212 Uo
def Pi:SU:=gF [.st 128, .sl 181,i6] [.st 128, .bool] (cg3 (λ(a:AF) (b:List AG) _=>gd (Qa a.sz/\Qa b.length)) wU)
def Pj:OK 213 Pi:=gV (aZ 2815534289354779190410687660055588796976708564038417) (gc oC (gc iO (gc uG (gc jA (gc dE (gc lD aB)))))) func213 Oj
def Pk:SU:=bZ [.st 123, .str,i6] [i6] (cg3 (λ_ (b:ByteArray) _=>gd (Qb b.size)) gL)
def aOh:OK 148 Pk:=gV .n (gc Je (gc oV aB)) func148 Og
def zU:SU:=gF [.st 225,i6,i6] [.st 225, .bool] (cg3 (λ(a:AH) _ _=>gd (Qb a.sz)) fV)
def aB7:OK 216 zU:=gV (aZ 32541124217880277240378412911821303285377311231238244622518627399514039287484287996191246322004926737) (gc tZ (gc gM aB)) func216 aAl
def Jo:SU:=gF [.st 138,i6,i6,i6] [.st 138, .bool] (cg4 (λ(a:AB) _ _ _=>gd (Qb a.sz)) gG)
def aJ4:OK 147 Jo:=yG (aZ 987740012491025) (gc uB (gc mE (gc mD (gc aB7 aB)))) func147 aJg
def x8:SU:=gF [.st 126,i6,i6] [.st 126, .bool] (cg3 (λ(a:AD) _ _=>gd (Qe a.sz)) aZw)
def aXj:OK 224 x8:=gV (aZ 64667762424204083868770546154681925849617) (gc oW (gc nZ (gc Qq (gc jI aB)))) func224 aWj
def Jp:SU:=gF [.st 126,i6,i6] [.st 126, .bool] (cg3 (λ(a:AD) _ _=>gd (Qe a.sz)) aZx)
def aJ5:OK 226 Jp:=gV (aZ 19839420143337673447013749044728640017) (gc oW (gc jI (gc nZ (gc Qq aB)))) func226 aI3
def Dt:SU:=gF [.st 128, .str,i6, .bool] [.st 128, .bool] (cg4 (λ(a:AF) (b:ByteArray) _ _=>gd (Qe a.sz/\Qb b.size)) cB)
def Du:OK 157 Dt:=yG (aZ 340137724670381987816433520818424201150124546155196643645763318763271752631095758395602401276433) (gc oC (gc Ao (gc aXj (gc aJ5 aB)))) func157 aEd
def aOi:SU:=gF [.st 128,i6, .bool] [.st 128] (cg3 (λ(a:AF) _ _=>gd (Qb a.sz)) mM)
def Pm:OK 149 aOi:=gV (aZ 65409319369475586462470848344016616156707056533201206354379114609085137173447326129492188763486421318649846546579843094788977467479723963559329356283934426612327026302784561) (gc iB (gc Du aB)) func149 aNb
def Vm:SU:=gF [.st 123] [.st 128] (cf1 gT)
def aTa:OK 150 Vm:=kE .n aB func150 Ul
def Pn:SU:=gF [i6,i6,i6, .st 126] [.st 185, .bool] (cg4 (λ_ _ _ (d:AD)=>gd (Qa d.sz)) Fw)
def aOj:OK 300 Pn:=yG (aZ 4808131006187401882287787433431841) (gc p9 (gc jI (gc aHl (gc Dl (gc aB5 (gc Vg aB)))))) func300 aM5
def Jq:SU:=gF [.st 128] [.st 128, .st 185, .bool] (nG (λ(a:AF)=>gd (Qa a.sz)) dD)
def Jr:OK 222 Jq:=bW (aZ 140967180961407615176977) (gc oC (gc aOj aB)) func222 aJb
def Vn:SU:=bZ [.st 185, .st 185] [.bool] (cf2 M8)
def aTb:OK 301 Vn:=mQ (aZ 19537957513521) aB func301 aR8
def Dv:SU:=gF [.st 51, .st 185] [.st 51, .bool] (fP (λ(a:AP) (b:AJ)=>gd (Qb a.sz/\Qb b.sz)) eU)
def Dw:OK 223 Dv:=aV (aZ 13192431115765279361736111318377891777787783724401007803175267771040866577) (gc Iw (gc jA (gc aTb (gc Iu aB)))) func223 aEj
def Po:SU:=gF [.st 59,i6] [.st 59, .bool] (fP (λ(a:AA) _=>gd (a.sz<=10000000000)) fJ)
def Pp:OK 80 Po:=aV (aZ 10391532678974191161202119429210866257969205853820933357974289) (gc uH (gc (sIl 155) (gc bX (gc Jr (gc Dw aB))))) func80 aM6
def Dx:SU:=gF [.st 59,i6] [.st 59, .bool] (fP (λ(a:AA) _=>gd (a.sz<=100000000)) iJ)
def aFh:OK 77 Dx:=aV (aZ 57474781200346104349085606834761216542576937720998450983441102072437798782625531576937443727312430705180175702908435508321169921610003207404743431236121497746389541416996938592660257074118203424560797801688971807537293161210371835770389114556460048286429053965960358903835559853389134503413511396511116135130237872195919888572948753) (gc uH (gc bX (gc aOf (gc iG (gc (sIl 145) (gc iB (gc aOh (gc aJ4 (gc Pm (gc aTa (gc Pp (gc (sIl 151) (gc Jn (gc dL (gc jA (gc w9 (gc wG (gc Vl (gc Pj (gc nH aB)))))))))))))))))))) func77 aEn
def aHm:SU:=bZ [.st 59,i6] [.bool] (fP (λ(a:AA) _=>gd (WOk a)) jS)
def bGf:OK 152 aHm:=aV (aZ 721039319036267392517779373847429718433325607136032817) (gc aY (gc lF (gc iG (gc xR aB)))) func152 bFd
def zW:SU:=gF [.st 225,i6] [.st 225, .bool] (fP (λ(a:AH) _=>gd (Qa a.sz)) nT)
def aB8:OK 154 zW:=aV (aZ 2117934886629649) (gc tZ (gc wC (gc gM aB))) func154 zL
def Vo:SU:=gF [.st 59,i6,i6] [.st 59, .bool] (cg3 (λ(a:AA) _ _=>gd (a.sz<=100000000)) gZ)
def aTc:OK 78 Vo:=gV (aZ 252776760934647953469773874032134749580694306103489908529941489976556827113855588625767606160542825635934973532413451420915525272936935131701111863333389386626128679416002339695313319164140963028304504799656760089794913795245971684648511559721104620372007180415527699656964970559217163904697252531825689575576788911733713268965497112429902508561) (gc uH (gc bGf (gc bX (gc iG (gc (sIl 145) (gc mE (gc aB8 (gc Pm (gc (sIl 155) (gc (sIl 151) (gc Jn (gc dL (gc jA (gc w9 (gc wG (gc Vl (gc Pj (gc Jr (gc Dw (gc nH aB)))))))))))))))))))) func78 aSe
def Pq:SU:=gF [.st 59,i6, .str,i6, .bool] [.st 59, .bool] (cg5 (λ(a:AA) _ (c:ByteArray) _ _=>gd (Qb a.sz/\Qb c.size)) Ri)
def aOk:OK 79 Pq:=bKq .n (gc bX (gc p8 (gc Du aB))) func79 aMt
def aTd:SU:=bZ [.sl 145, .sl 3] [.bool] (fP (λ(a:List AC) (b:List Int)=>gd (Qa a.length/\Qa b.length)) kC)
def aTe:OK 371 aTd:=aV (aZ 3893726367420282855945691084470820022787592201470610137789515058595152415138281890303617537329) (gc aY aB) func371 aSl
def bLe:SU:=bZ [i6,i6] [i6] (cr2 tL)
def aOl:OK 466 bLe:=bAb (aZ 7948198436398118515453869777423290321519973188853020377873) aB func466
def jB:SU:=bZ [i6] [.bool] (cf1 mP)
def gN:OK 426 jB:=kE (aZ 9492020607281) (gc aY (gc aOl aB)) func426 G7
def jJ:SU:=bZ [i6,i6] [i6] (cf2 eY)
def mU:OK 424 jJ:=mQ .n (gc gN (gc oD (gc aOl aB))) func424 aWs
def Js:SU:=bZ [i6,i6] [i6] (cf2 aYg)
def aJ6:OK 425 Js:=mQ .n (gc dK (gc mU aB)) func425 Io
def Ps:SU:=bZ [i6,i6,i6] [i6] (cf3 eP)
def aOm:OK 374 Ps:=bPx .n (gc oD (gc aJ6 (gc mU aB))) func374 Om
def aTf:SU:=bZ [.sl 140] [.bool] (nG (λ(a:List AX)=>gd (Qa a.length)) Ah)
def xD:OK 379 aTf:=bW (aZ 35071569236084447676255007921756990993182921330503106310317441047355757651790395661691363045132113675490170161) (gc aY aB) func379 aR1
def zX:SU:=bZ [.st 142] [.bool] (cf1 iM)
def zY:OK 381 zX:=kE (aZ 11149877991729) (gc xD (gc aY aB)) func381 aAc
def zZ:SU:=bZ [.st 140,i6] [i6] (cf2 aLv)
def aB9:OK 478 zZ:=mQ (aZ 1190245208881) (gc gN (gc aY (gc mU aB))) func478 zN
def Vp:SU:=bZ [.st 142,i6] [.st 142,i6, .bool] (cf2 kY)
def aTg:OK 465 Vp:=mQ (aZ 18929629981956977206395207455521) (gc zY (gc gN (gc aB9 aB))) func465 Ut
def aCa:SU:=bZ [.st 142] [i6] (cf1 qZ)
def aCb:OK 382 aCa:=kE .n aB func382 aAb
def bGg:SU:=bZ [.sl 145, .sl 3,i6] [.sl 145, .sl 3, .sl 3] (cg3 (λ(a:List AC) (b:List Int) _=>gd ((Fu AC.sz a<=34000000000/\b.length<=100000000)/\kC a b=true)) oP)
def bGh:OK 373 bGg:=gV (aZ 519036033218382851464541403820501913454586642685447730257029466173704952793936050909200865763548213654051073017099350151914918512260340385897777708912473034421349966085607669203311178291784487588816671150353) (gc qI (gc (sIl 423) (gc aTg (gc aCb (gc uC (gc (bR4 2000000) aB)))))) func373 bFv
def bLf:SU:=bZ [i6] [i6] (cf1 (λa=>bQ a 1019))
def aOn:OK 432 bLf:=kE .n (gc oD aB) func432 bK2
def uI:SU:=bZ [i6] [i6] (cf1 yF)
def uJ:OK 431 uI:=kE (aZ 21613605320314162349880599385425007377) (gc oD aB) func431 Xm
def fE:SU:=bZ [.sl 3,i6,i6] [i6] (cg3 (λ(a:List Int) _ _=>gd (Qa a.length)) En)
def I7:OK 428 fE:=gV (aZ 4361433323014441634797374233919019881946356913112001305425565899317319651712938093125036995367301175592900605107759811930864271757762836122657413531574563187737624116099439781032209) (gc aY (gc aOn (gc uJ aB))) func428 G9
def jK:SU:=bZ [i6,i6] [i6] (cf2 kJ)
def aXk:OK 427 jK:=mQ (aZ 835910406961) (gc gN aB) func427 d9
def Kj:SU:=bZ [.sl 3, .sl 3] [i6, .bool] (fP (λ(a:List Int) (b:List Int)=>gd (Qa a.length/\Qa b.length)) kZ)
def Kk:OK 375 Kj:=aV (aZ 1207110938086229691008272349540350929768951088334682648830427802722449461366312048908139976469360871829667999605655972279099240605318443551729075479458312334722992489311624218498681393371321121) (gc aY (gc gN (gc I7 (gc mU (gc aXk aB))))) func375 Ki
def Dy:SU:=bZ [i6,i6] [i6] (cf2 aLx)
def aFi:OK 378 Dy:=mQ .n (gc oD (gc uJ (gc mU aB))) func378 aEt
def Vq:SU:=bZ [i6,i6] [i6] (cf2 Lb)
def aTh:OK 377 Vq:=mQ .n (gc dK (gc aJy aB)) func377 aSh
def Pt:SU:=bZ [i6,i6] [i6] (cf2 aLu)
def aOo:OK 429 Pt:=mQ .n (gc dK aB) func429 Ol
def aCc:SU:=bZ [i6,i6] [i6] (cf2 bNq)
def bDk:OK 430 aCc:=mQ .n (gc aY (gc dL aB)) func430 aAy
def Vr:SU:=bZ [.st 53,i6] [i6, .bool] (cf2 aIf)
def aTi:OK 376 Vr:=mQ (aZ 13544187301491505) (gc aOo (gc bDk aB)) func376 Uu
def aOp:SU:=bZ [.st 53, .sl 145, .sl 3,i6,i6] [.sl 145,i6, .bool] (cg5 (λ_ (b:List AC) (c:List Int) _ _=>gd (Fu AC.sz b<=34000000000/\c.length<=100000000)) Ba)
def aOq:OK 309 aOp:=bKq (aZ 715166067580118984989004877447225435334794368774411041) (gc aTe (gc oD (gc aY (gc qI (gc aOm (gc bGh (gc Kk (gc aFi (gc aTh (gc aTi aB)))))))))) func309 aNm
def aFj:SU:=bZ [.st 59, .sl 3,i6] [.st 59,i6, .bool] (cg3 (λ(a:AA) (b:List Int) _=>gd (a.sz<=34000000000/\b.length<=100000000)) iN)
def aFk:OK 229 aFj:=gV (aZ 22497878511752381218316671556636446993) (gc bX (gc eZ (gc dL (gc aOq (gc (sIl 151) (gc nH aB)))))) func229 Db
def aOr:SU:=bZ [.st 59,i6] [.st 59, .bool] (fP (λ(a:AA) _=>gd (a.sz<=99000000)) xQ)
def aOs:OK 159 aOr:=aV (aZ 18231362067116486768477369489546163143062181074401983873809) (gc aFk aB) func159 aNp
def Vs:SU:=gF [.sl 145] [.sl 140] (nG (λ(a:List AC)=>gd (Qa a.length)) (λ(a:List AC)=>a.map λh=>h.State.aAQ))
def aTj:OK 311 Vs:=bW (aZ 92646007933383830270749455575135383960391140113) aB func311 Uh
def aHn:SU:=bZ [i6, .sl 3,i6] [i6] (cg3 (λ_ (b:List Int) (c:Int)=>gd (0<=c/\c<=1000/\Qa b.length)) aUn)
def bGi:OK 380 aHn:=gV (aZ 10483641004970618820726120918369041) (gc aOn aB) func380 bFk
def Aa:SU:=gF [.sl 140, .sl 3] [.sl 140] (fP (λ(a:List AX) (b:List Int)=>gd (Qa a.length/\Qa b.length)) iU)
def aCd:OK 310 Aa:=aV (aZ 7783379595656717304909267120068349503350610342780391772129685516350117923659406731806073172241) (gc xD (gc bGi aB)) func310 Z9
def Dz:SU:=gF [.st 145, .st 140] [.st 145, .bool] (fP (λ(a:AC) _=>gd (Qa a.sz)) aIb)
def aFl:OK 312 Dz:=aV (aZ 202979349763192407296511781613447413375226324765133005432586881217297) (gc uC (gc zY (gc aCb (gc xD aB)))) func312 aEb
def Pv:SU:=gF [.sl 145, .sl 3] [.sl 145, .bool] (fP (λ(a:List AC) (b:List Int)=>gd (Qa (Fu AC.sz a)/\Qa b.length)) fC)
def aOt:OK 230 Pv:=aV (aZ 34477898498203024089213429964655878294422248587909509955392258729520244062370123898829345041) (gc aTj (gc aCd (gc qI (gc aFl aB)))) func230 Oa
def Pw:SU:=gF [.st 59] [.st 59, .bool] (nG (λ(a:AA)=>gd (Qa a.sz)) fD)
def aOu:OK 160 Pw:=bW (aZ 1286502558691003365172860241865020849135329398681639799539727739472278987025) (gc bX (gc dL (gc aOt (gc eZ aB)))) func160 aMr
def Ea:SU:=gF [.st 145,i6] [.st 145, .bool] (fP (λ(a:AC) _=>gd (Qa a.sz)) eT)
def aFm:OK 231 Ea:=aV .n (gc uC (gc aY aB)) func231 aD9
def Ab:SU:=gF [.st 59,i6,i6] [.st 59, .bool] (cg3 (λ(a:AA) _ _=>gd (Qa a.sz)) fU)
def aCe:OK 161 Ab:=gV (aZ 26714734932753) (gc bX (gc eZ (gc aY (gc aFm aB)))) func161 Z7
def aJ7:SU:=bZ [.st 59, .st 74] [.st 59, .bool] (fP (λ(a:AA) _=>gd (a.sz<=99000000)) aZ9)
def aJ8:OK 82 aJ7:=aV .n (gc aOs (gc aOu (gc aCe (gc bX aB)))) func82 aJs
def aOv:SU:=bZ [.st 59, .st 74] [.st 59, .bool] (fP (λ(a:AA) _=>gd (a.sz<=99000000)) evF)
def aOw:OK 44 aOv:=aV (aZ 27424722089110277879468210325181201) (gc eZ (gc bX (gc bDd (gc bGc (gc aJ2 (gc aFh (gc aTc (gc aOk (gc Pp (gc uH (gc aJ8 aB))))))))))) func44 aNu
def Px:SU:=gF [.st 59, .sl 74] [.sl 4] (fP (λ(a:AA) (b:List AS)=>gd (Yi a b)) uW)
def aOx:OK 18 Px:=aV (aZ 77221691882689674800766498205572698597928927358620776686048553020311351921409461336021867622888952662576135337465128085509622726424617655850621619823342705400407254777171370622174994025621500177) (gcp bX (gc aOw aB)) func18 aNy
def Eb:SU:=bZ [.st 59, .sl 74,i6] [i6] (cg3 (λ(a:AA) (b:List AS) _=>gd (Yi a b)) bPw)
def aFn:OK 6 Eb:=gV (aZ 1796975600259767683810039331991551202473924263798877634387484400273219262886161) (gc aOx aB) func6 aEx
def aJ9:SU:=bZ [.sl 74] [.sl 74] (cf1 (λa=>List.take 60 a))
def aKa:OK 52 aJ9:=kE .n aB func52 aJt
def bR:OK 168 aUy:=bPx (aZ 27088518400305) aB func168 bBh
def bGj:SU:=bZ [.str] [.bool] (cf1 fB)
def xS:OK 314 bGj:=kE (aZ 110441284031801727688417512134035730410209456347702378435972946768916008768579620183534293300272836039505151640363128871670545) (gc Yj aB) func314 bFi
def aKb:SU:=bZ [.str] [.str] (cf1 bT2)
def aKc:OK 315 aKb:=kE .n (gc xS (gc Yj (gc bAf aB))) func315 aIy
def bGk:SU:=bZ [.str] [.bool] (nG (λ(a:ByteArray)=>gd (a.size<=9223372036854775807)) aC6)
def bGl:OK 316 bGk:=bW (aZ 907507199357021988328753) aB func316 bFj
def bY:OK 172 Oo:=kE .n (gc bR aB) func172 aMi
def aKd:SU:=bZ [.str,i6] [.bool] (fP (λ(a:ByteArray) _=>gd (a.size<=9223372036854775807)) nD)
def aKe:OK 235 aKd:=aV (aZ 19387633645873) (gc xS (gc aKc (gc bGl (gc bY aB)))) func235 aIz
def mF:OK 236 Iy:=bW (aZ 4974618317447204468255795437235877400725724092819808640093692559280760139632580396319571279374195077502556326570910934209313) (gc bR aB) func236 aIx
def bLg:SU:=bZ [i6,i6,i6] [i6] (cr3 fZ)
def Eo:OK 385 bLg:=cFe (aZ 186006645932785478750678155155023521528406127557865749742401892625) aB func385
def uK:OK 317 Oq:=kE .n (gc bY (gc Eo aB)) func317 aMn
def gP:OK 237 vV:=bW (aZ 21110640635467638836994884651358492378474724416377900014039427550177928425426399218151259581453225880107851567940579230862891633613153294195836030159066353031702416560929) (gc bR (gc uK aB)) func237 E8
def mG:OK 169 Iz:=bW (aZ 4180856852065234526402245868885219315247880675298498662562595292100635412061980428236113706867141153569) (gc aKe (gc mF (gc gP aB))) func169 aI1
def jL:OK 99 o7:=kE .n aB func99 aWe
def wH:OK 170 vW:=bW (aZ 2191973077255577679364447704793896497992310936987226825421073679509011149909045901237550076565602208365826833) (gc bR aB) func170 D9
def Jt:OK 240 aHd:=aV (aZ 2921460522459611621056587204404529) aB func240 bQb
def lG:OK 238 Uy:=bW (aZ 149010670802841794377698798712321770673885602599219278859493772724650162988187340863310442047190241419219529512136173198080412145797290832906022597037498021988873084265704585014920102673) (gc Jt aB) func238 aRq
def mH:OK 386 bDa:=mQ (aZ 783736053246057306250253089) aB func386 bP9
def aU1:OK 319 aUz:=bW (aZ 10897189604954035109214756992780070961937) (gc mH aB) func319 bN5
def xE:OK 243 Uz:=kE .n (gc aU1 aB) func243 aRy
def aCf:OK 239 aBo:=bW .n (gc xE aB) func239 bBq
def aOy:SU:=bZ [.sl 181,i6] [.bool] (fP (λ(a:List AG) _=>gd (Qa a.length)) qA)
def aOz:OK 241 aOy:=aV (aZ 63464351501231689512275878254865113220019229137839409) aB func241 aMo
def bGm:SU:=gF [.sl 3, .sl 108] [.sl 3] (fP (λ(a:List Int) (b:List (List Int))=>gd (Kw a b)) pX)
def iL:OK 250 bGm:=aV (aZ 76197929809365989261494196172689371760674902065937) aB func250 bFc
def dM:OK 279 Va:=aV .n (gc iL (gc aU1 aB)) func279 aRk
def qU:OK 318 Ja:=aV .n (gc bY (gc iL (gc dM aB))) func318 aIv
def uL:OK 242 uE:=gV (aZ 437951779803921) (gc uK (gc qU aB)) func242 Xk
def iP:OK 171 Vb:=bW (aZ 349775210985232962518672863708064976046205793425103570933199284867138408441377048857895686022024001150134528418252210939199608948548289396375588719698052943818245692265652717938729461678917462453922207929121) (gc lG (gc aCf (gc Jt (gc aOz (gc xE (gc uL aB)))))) func171 aR0
def bT:OK 94 Dc:=bW (aZ 345942088410817136298579350914964694698197375397203555833239136085030727983444245800262134531335702131872545) (gc bR (gc mG (gc jL (gc wH (gc iP (gc bY aB)))))) func94 aD8
def lH:OK 244 aBa:=bW .n aB func244 bBk
def aTk:SU:=gF [.sl 5] [.sl 5] (nG (λ(a:List Int)=>gd (Qa a.length)) (λa=>a))
def xG:OK 321 aTk:=bW .n aB func321 aRt
def aTl:SU:=gF [.sl 256] [.sl 256] (nG (λ(a:List AK)=>gd (Qa (Fu AK.sz a))) (λa=>a))
def aTm:OK 320 aTl:=bW (aZ 216733021138496131403374376347932775256980180334494481) (gc xG aB) func320 aRu
def wI:OK 245 aBd:=bW (aZ 459174375749425) (gc aTm aB) func245 D7
def uM:OK 246 aBf:=bW .n (gc xG aB) func246 aMl
def xH:OK 173 aBg:=bW (aZ 1856669620533474766940902694549100002173554023614660267030483261559801591077759344773921) (gc lH (gc wI (gc uM aB))) func173 aRv
def qJ:OK 247 aBk:=bW .n aB func247 aWc
def xI:OK 174 o6:=bW (aZ 216931054610289134534342155458420744339734390391390993) (gc qJ aB) func174 aRw
def x9:OK 175 aBl:=bW .n aB func175 aWd
def nI:OK 248 aBb:=bW .n aB func248 aMj
def kF:OK 176 aBc:=bW .n (gc lH (gc nI aB)) func176 aMk
def qK:OK 249 aBi:=bW (aZ 137992429446523001649) aB func249 aWa
def mI:OK 251 aBh:=bW (aZ 137992429446523001649) aB func251 aIt
def qL:OK 177 aBj:=bW (aZ 475307422856569540336868565394903154388626425240796708939963656907359493745417112846682913) (gc qK (gc iL (gc mI aB))) func177 aWb
def bS:OK 95 aBn:=bW (aZ 17441870663861598768660032388531012463911926973779614529109483784170048095513271562221450800361172422853846963110433520139972327429036264162960437831856174221069696473746965001031925452819583400737) (gc xH (gc xI (gc x9 (gc kF (gc qL aB))))) func95 aRx
def Vt:OK 178 rV:=aV (aZ 16708203813552188154366915750909226181897330086433133454917502141973617905937) (gc qK (gc mF aB)) func178 Uw
def bOh:OK 96 aBq:=bW (aZ 1498425774060383082131003626825321303330025228067170205080851937468863448551697) (gc bS (gc bT (gc Vt aB))) func96 bOg
def aTn:SU:=bZ [.st 59,i6] [.bool] (cf2 aJ)
def fK:OK 182 aTn:=mQ (aZ 18562999925041) aB func182 aRr
def bDl:SU:=bZ [.st 59,i6] [.bool] (cf2 iT)
def aCg:OK 252 bDl:=mQ (aZ 18562999925041) aB func252 bBi
def bGn:SU:=bZ [.st 59,i6,i6, .bool] [.bool] (cg4 (λ(a:AA) _ _ _=>gd (Qa a.sz)) (λ(a:AA) (b:Int) (c:Int) (d:Bool)=>dA a b c&&bU a b==d))
def Qr:OK 179 bGn:=yG (aZ 37804470188337) (gc bT (gc fK (gc aCg aB))) func179 bFr
def bOi:SU:=bZ [i6] [.st 265] (cf1 N7)
def aU2:OK 181 bOi:=kE .n (gc jL aB) func181 bOf
def mJ:OK 266 Jb:=aV (aZ 3095664173825010273494766897) aB func266 aJf
def I8:SU:=gF [.st 136,i6,i6] [.st 136, .st 289, .bool] (cg3 (λ(a:AM) _ _=>gd (Qa a.sz)) lX)
def I9:OK 387 I8:=gV (aZ 749510093683125578378057252069564810967524520942818168484369) (gc qK (gc mF (gc bR aB))) func387 F9
def wJ:OK 388 vY:=mQ .n (gc dM aB) func388 F7
def aO0:SU:=gF [.st 138,i6,i6] [.st 138,i6,i6, .bool] (cg3 (λ(a:AB) _ _=>gd (Qa a.sz)) pQ)
def aO1:OK 322 aO0:=gV (aZ 650437072395725092583451819039007223394833) (gc qL (gc mG (gc mJ (gc I9 (gc wJ aB))))) func322 aNh
def aXl:SU:=bZ [.st 265] [.bool] (cf1 iA)
def Aq:OK 437 aXl:=kE (aZ 9496315578673) (gc xS (gc bR aB)) func437 aWp
def aXm:SU:=bZ [.str, .str] [i6] (cr2 Zk)
def aXn:OK 469 aXm:=bAb .n (gc Bb aB) func469
def aKf:SU:=bZ [.str, .str] [.bool] (cr2 Hf)
def aKg:OK 438 aKf:=bAb .n (gc aXn aB) func438
def Vu:SU:=bZ [.str, .str] [.bool] (cr2 rH)
def Vv:OK 472 Vu:=bAb (aZ 19125640653105) aB func472
def aFo:SU:=bZ [.str, .str] [.bool] (cr2 Cg)
def aFp:OK 439 aFo:=bAb .n (gc Vv aB) func439
def aHo:OK 389 aHe:=aV (aZ 1133605229443377) (gc Aq (gc xS (gc aKg (gc aFp aB)))) func389 bFq
def Ec:OK 390 De:=bW (aZ 1342551320834378536797026610361844949198180625) (gc Aq (gc aQu aB)) func390 aEs
def qV:OK 397 Jc:=bW (aZ 64505905561026731364112614066372744367891244335889) aB func397 aI2
def bLh:SU:=bZ [i6] [i6] (cf1 jF)
def Xx:OK 278 bLh:=kE .n aB func278 bKy
def sD:OK 336 rW:=aV .n (gc qV (gc dM (gc Xx (gc (bR4 1000159) aB)))) func336 Uj
def Ar:OK 269 o8:=bW .n (gc sD aB) func269 aWi
def bQn:SU:=bZ [.bool] [i6] (cr1 Hg)
def bDm:OK 442 bQn:=cFc .n aB func442
def sF:OK 392 rY:=bW (aZ 167137005436830628951548102449) (gc Ar (gc sD (gc bDm aB))) func392 Ur
def aFq:OK 441 Dh:=kE (aZ 10870705113393) (gc bR (gc bY aB)) func441 aEo
def cZ:OK 191 Ve:=aV .n (gc iL (gc dM (gc Xx aB))) func191 aRm
def Ju:OK 330 Jd:=gV (aZ 9540075269392177) (gc Ar (gc cZ aB)) func330 aJc
def aCh:OK 391 zO:=yG (aZ 5328424171242325777622342590652506270450619169) (gc aFq (gc Ju (gc iL (gc qU aB)))) func391 aAs
def aCi:OK 323 zP:=cDv (aZ 2726701836695993306095688204788251464104292327697) (gc aHo (gc Ec (gc sF (gc aCh aB)))) func323 aAu
def aCj:OK 474 zQ:=aV (aZ 3095664173825010273494766897) aB func474 aAo
def aCk:OK 443 zR:=yG (aZ 408813441941560853671168837362345767775665922793953857676113500416712977) (gc qK (gc aCj (gc mF aB))) func443 aAq
def aFr:OK 444 Di:=aV (aZ 64307882629275799436274897179971286104825374479137) (gc gP (gc bR aB)) func444 aEq
def wK:OK 332 wB:=aV (aZ 3095664173825010273494766897) aB func332 F6
def Vw:SU:=bZ [.str, .str] [.bool] (cr2 rO)
def Vx:OK 511 Vw:=bAb (aZ 18713323792689) aB func511
def Vy:SU:=bZ [.str, .str] [.str, .bool] (cr2 rP)
def Vz:OK 503 Vy:=bAb .n (gc Vx aB) func503
def aFs:SU:=bZ [.str, .str] [.str, .bool] (cr2 pR)
def aFt:OK 494 aFs:=bAb .n (gc Vz aB) func494
def aO2:SU:=bZ [.str, .str] [.str, .str, .bool] (cr2 Mx)
def aO3:OK 504 aO2:=bAb (aZ 36106584479156624730296625) (gc Bb aB) func504
def bGo:SU:=bZ [.str, .str] [.str, .str, .bool] (cr2 aG1)
def bGp:OK 495 bGo:=bAb .n (gc aO3 aB) func495
def aKh:OK 486 Jf:=bW (aZ 62143175455099213673523330096528097368161814214366984561030086552980447830919618833) (gc aFt (gc bGp (gc aVl (gc Aq (gc Ec aB))))) func486 aJj
def J2:OK 475 wD:=bKq (aZ 358330662769163086209615272288476926420931763672068881) (gc aKh (gc aHo (gcp sF (gc iL (gc uL aB))))) func475 G6
def aCl:OK 445 zS:=yG (aZ 43018430147817527632321165407641672124938776093706815158455915324592134970089745) (gc mI (gc wK (gc gP (gc J2 aB)))) func445 aAw
def aKi:OK 393 Jg:=bKq (aZ 101321437951177069134061279803488821451381313826398481) (gc qL (gc mJ (gc mG (gc aCk (gc aFr (gc wJ (gc aCl aB))))))) func393 aJl
def nJ:OK 331 Ot:=yG (aZ 2094816889063851888921241408291959795814914701925129167036560286581184334467115899628531251582580494609) (gc wH (gc x9 aB)) func331 aNd
def bLi:OK 253 aHg:=yG (aZ 47711964578029345817117299248928750178161902181504776923562944781430663276137097473907871104200463992060558157015794457651102271450344612931836654097) (gc bS (gc bT (gc fK (gc aCg (gc aO1 (gc jL (gc aCi (gc (sIl 324) (gc aKi (gc (sIl 262) (gc nJ aB))))))))))) func253 bK8
def Au:OK 180 o9:=yG .n (gc bLi aB) func180 aWr
def aKj:OK 97 Jh:=gV (aZ 639428170083676338828049) (gc Qr (gc bS (gc aU2 (gc Au aB)))) func97 aJn
def aO4:OK 98 Ou:=yG .n (gc Qr (gc bS (gc Au aB))) func98 aNv
def aKk:OK 100 Ji:=aV (aZ 26847878918929) (gc bS (gc bT (gc fK aB))) func100 aJq
def aO5:OK 101 Ov:=gV (aZ 639428170083676338828049) (gc Qr (gc bS (gc aU2 (gc Au aB)))) func101 aNr
def aKl:OK 188 Jj:=aV (aZ 977644262193) (gc uM aB) func188 aI6
def uN:OK 273 Ox:=aV (aZ 1464657071536105297971962931464256101218708747621522101009) aB func273 aMv
def xJ:OK 326 Ux:=kE .n (gc bY aB) func326 aRn
def iH:OK 256 Dj:=kE .n (gc cZ (gc xJ aB)) func256 aD4
def lI:OK 264 aBw:=bW (aZ 157602727304134900421895325332219524188179192824539568496853777) aB func264 bBv
def aHp:OK 449 aHh:=mQ .n (gc cZ aB) func449 aHa
def aHq:OK 450 aHj:=aV (aZ 655987164852621239168060209) (gc qV (gc iL (gc dM aB))) func450 bFn
def aCm:OK 343 aBx:=aV (aZ 61528525062220264593962298450766528300335889) (gc dM (gc mH aB)) func343 bBx
def bDn:OK 400 aBz:=mQ (aZ 221265480700987612450496224270053972308343150861207793302598091553) (gc bY (gc xJ (gc aHp (gc aHq (gc aCm aB))))) func400 bBy
def bDo:OK 339 aB0:=aV (aZ 3895115257342550325427689436489009) (gc bDn aB) func339 bBz
def Jv:OK 401 Jk:=aV (aZ 7531207045867538633021134860113665630728248664790682483760902492018619013541368609) aB func401 aI7
def Py:OK 340 Oy:=gV (aZ 135260595159011201751463818113607293862071066722734926522792280298273) (gc Jv aB) func340 aMw
def J3:OK 274 wE:=aV (aZ 3403771975393398131464569857505417449179738744904479231110994575193907136289) (gc cZ (gc bDo (gc Py (gc bY aB)))) func274 F3
def Wd:OK 341 Vf:=aV (aZ 655987164852621239168060209) (gc qV (gc iL (gc dM aB))) func341 aR7
def aKm:SU:=bZ [.st 316, .st 316] [.bool] (cf2 dW)
def qW:OK 335 aKm:=mQ (aZ 19537957513521) aB func335 aIs
def jM:OK 333 q9:=bW (aZ 137065509670738939087468905871643652366716676483825905472789426577982157088173163335390517282610725792142097) (gc bR (gc qW aB)) func333 aV9
def aFu:OK 342 Dm:=bW (aZ 2527090266291102262811702749278167462964759844468146113650090108077766710281757464733596956069430752552349274626794080458846737) (gc Jv (gcp Py (gc jM aB))) func342 aEg
def aO6:OK 275 Pe:=aV (aZ 501719460613494222288728067425950427437648815646058519177100124021930605393773345) (gc bY (gc bR (gc Wd (gc cZ (gc aCm (gc aFu aB)))))) func275 aMz
def aFv:OK 276 Dp:=aV (aZ 1298276674529524658114280465363937493500398496221295070484274374619884472429556281270558553631488389691312499210816682048612007525884741585532958387233265293592851271417672827558840194014486352792317293817567682223168458663574079489393294944717898311712931331962651165835707768148769) (gc jM (gc nI (gc qW aB))) func276 aD6
def aO7:OK 189 Pf:=yG (aZ 7555237344581636843773832499136016382261979614653514794463571643797583937525937181037244945) (gc kF (gc iP (gc uN (gc lG (gc iH (gc Jt (gc lI (gc J3 (gc aO6 (gc aFv (gc lH aB))))))))))) func189 aM1
def uO:OK 106 aB3:=gV (aZ 377451767333428238250846361955342786289545745) (gc bS (gc bT (gc fK (gc aKl (gc aO7 aB))))) func106 bB3
def aO8:OK 254 Pg:=mQ .n (gc cZ aB) func254 aM8
def aFw:OK 325 Dq:=aV .n (gc cZ (gc qU aB)) func325 aEl
def Jw:OK 255 Jm:=yG (aZ 369063733326704743184118043137825982157601) (gc iP (gc lH (gc iH (gc aCf (gc xE (gc aFw aB)))))) func255 aJe
def aCn:OK 447 zT:=aV (aZ 475721166109406561311292664165959882834068979798647951777673745) (gc xG aB) func447 aAj
def Pz:OK 395 Pb:=bW (aZ 52825310443219323315757166113866049140206111769361) (gc aCn aB) func395 aM3
def aCo:OK 398 aB4:=aV (aZ 61528525062220264593962298450766528300335889) (gc dM aB) func398 bB4
def bDp:OK 446 aB6:=gV (aZ 26748019880721) (gc uK (gc bY (gc aHp (gc aCo (gc aHq aB))))) func446 bB6
def aTo:OK 394 Vi:=gV (aZ 366544459061562248894100025438149319204091876113) (gc bDp aB) func394 aSa
def wL:OK 327 wF:=gV (aZ 1248629920561) (gc iP (gc bY (gc lI (gc lG (gc Pz (gc aTo aB)))))) func327 F5
def aO9:OK 448 Ph:=aV (aZ 260449998767479659023432196349987708151310256380864278906946321) aB func448 aNa
def aTp:OK 396 Vj:=aV (aZ 1583166631371839239339195046325098040998630463228934300370748251597949121041) (gc lG (gc lI (gc aO9 aB))) func396 aSc
def We:OK 328 Vk:=gV (aZ 97218770580241) (gc xH (gc iP (gc uN (gc aTp (gc lH (gc wI aB)))))) func328 aSd
def aPa:OK 259 Pk:=gV .n (gc Ju (gc xJ aB)) func259 aM9
def aCp:OK 329 zU:=gV (aZ 925533629380099023572373036162006006278763592497676421187057947625220986208942945476881) (gc gP (gc mI aB)) func329 aAm
def aKn:OK 258 Jo:=yG (aZ 987740012491025) (gc qL (gc mJ (gc mG (gc aCp aB)))) func258 aJh
def Wh:OK 334 Vh:=gV (aZ 251789453544709738520229445427475554846768895281) aB func334 aR4
def aXo:OK 268 x8:=gV (aZ 95135664460808936939874211851854126855974964322929137368383989899903218847504896843954218195796405955506993921873188268271665055931246527858215301393) (gc jM (gc nI (gc Wh (gc qW aB)))) func268 aWk
def aKo:OK 270 Jp:=gV (aZ 167556376245009) (gc Wh (gc jM (gc nI aB))) func270 aI4
def pU:OK 186 Dt:=yG (aZ 928056688965570513490794001099750696235211924455898631897702447195664913) (gc kF (gc Ar (gc aXo (gc aKo aB)))) func186 aEe
def aFx:OK 399 Dk:=bW (aZ 110662740917622277177394888546618532024248183611274028378084877265724572200874257) (gc jM (gc bDm (gc Pz aB))) func399 aEi
def aPb:OK 337 Pn:=yG (aZ 4923528972839227411349642670604849953) (gc bY (gc bR (gc jM (gc cZ (gc aFx (gc aCo (gc Wd aB))))))) func337 aM4
def Jy:OK 271 Jq:=bW (aZ 140967180961407615176977) (gc aPb (gc kF aB)) func271 aJa
def aTq:OK 338 Vn:=mQ (aZ 19537957513521) aB func338 Uk
def Ed:OK 272 Dv:=aV (aZ 13192431115765279361736111318377891777787783724401007803175267771040866577) (gc xH (gc lI (gc aTq (gc uM aB)))) func272 Cz
def Qf:OK 105 Po:=aV (aZ 2896145) (gc uO (gc bS (gc (sIl 187) (gc Jy (gc Ed aB))))) func105 aM7
def aTr:OK 261 Vm:=kE .n aB func261 aR9
def aFy:OK 102 Dx:=aV (aZ 1125321538158262101179199030216354202075673103941549772617763293034301950715613197979527290896559466182457490856334601816991943268212588511657930874317136840666148160265304673287168761473928212613492163374710165716153387826903046551454210735259103377692362499561057130991290235083536935717999393) (gc bT (gc fK (gc bS (gc (sIl 183) (gc uO (gc aO8 (gc iH (gc Jw (gc (sIl 257) (gc jL (gc aPa (gc aKn (gc (sIl 260) (gc Qf (gc aTr (gc (sIl 262) (gc wL (gc We (gc pU (gc nJ aB)))))))))))))))))))) func102 aEm
def bGq:OK 184 aHm:=aV (aZ 176026425990258767526563149255345208355148221663281) (gc fK (gc lG (gc iH (gc Jt aB)))) func184 bFe
def aXp:OK 263 r9:=mQ .n (gc cZ aB) func263 aWn
def aPc:OK 265 Pi:=gV (aZ 2815534289354779190410687660055588796976708564038417) (gc kF (gc iP (gc uN (gc lI (gc bY (gc lH aB)))))) func265 aNf
def aCq:OK 267 zW:=aV (aZ 2117934886629649) (gc mI (gc wK (gc gP aB))) func267 aAn
def aTs:OK 103 Vo:=gV (aZ 83033296778580204261180688765035887470767777754087749627949118022674442700931553993605084245577428530487013600399862693284879993237773880187325942851089871122904150697536059319727517109419344343646586798724089231151184551778805930566602080908009018295840680990434881665349164892422084409579757371974505653359383329) (gc bT (gc fK (gc bGq (gc bS (gc (sIl 185) (gc uO (gc iH (gc Jw (gc cZ (gc lI (gc aXp (gc (sIl 257) (gc aPc (gc mJ (gc aCq (gc (sIl 260) (gc (sIl 187) (gc (sIl 262) (gc wL (gc We (gc jL (gc pU (gc Jy (gc Ed (gc nJ aB))))))))))))))))))))))))) func103 aSf
def aPd:OK 104 Pq:=bKq (aZ 61800322773777) (gc bS (gc bT (gc fK (gc pU aB)))) func104 aMu
def bGr:SU:=bZ [.sl 145, .sl 3,i6,i6] [.bool] (cg4 (λ(a:List AC) (b:List Int) _ _=>gd (Qa a.length/\Qa b.length)) aZ8)
def bGs:OK 402 bGr:=yG (aZ 53494167954116397902974192445128544740913445897214073182041937185) (gc Jt (gc mH (gc bR aB))) func402 bFu
def fF:OK 454 jB:=kE (aZ 9492020607281) (gc bR (gc Eo aB)) func454 G8
def mV:OK 451 jJ:=mQ .n (gc fF (gc mH (gc Eo aB))) func451 aWt
def aKp:OK 452 Js:=mQ .n (gc dM (gc mV aB)) func452 aJo
def aPe:OK 403 Ps:=bPx .n (gc mH (gc aKp (gc mV aB))) func403 aNl
def y7:OK 348 aCa:=kE .n aB func348 aWh
def aTt:SU:=bZ [.sl 140] [.bool] (cf1 Ah)
def xK:OK 345 aTt:=kE (aZ 40192924455230078166657770664161826033966943363308602512606556287127900159401329656891826812883933110546705) (gc bR aB) func345 aR2
def Ac:OK 347 zX:=kE (aZ 11149877991729) (gc xK (gc bR aB)) func347 aAd
def aCr:OK 476 zZ:=mQ (aZ 1190245208881) (gc fF (gc bR (gc mV aB))) func476 aAz
def aTu:OK 453 Vp:=mQ (aZ 1183101873872311070106780472097) (gc Ac (gc fF (gc aCr aB))) func453 aSj
def bDq:SU:=gF [.st 145,i6] [.st 145,i6, .bool] (fP (λ(a:AC) _=>gd (Qb a.sz)) pF)
def bDr:OK 404 bDq:=aV (aZ 2526242659322699303876138318155146015249) (gc qJ (gc y7 (gc aTu aB))) func404 bCc
def uP:OK 459 uI:=kE .n (gc mH (gc Eo aB)) func459 Xn
def J4:OK 456 fE:=gV (aZ 39446356244625699017860187979769137307259786771422640918880631403168921772717491186995699183365829027606567954005257322578242272515136527202409570598935247384863136957197123079660447699745) (gc mH (gc uP aB)) func456 H5
def aXq:OK 455 jK:=mQ (aZ 835910406961) (gc fF aB) func455 aWu
def dQ:SU:=cqU [.sl 3, .sl 3] [i6, .bool] λ(a:(List Int)×(List Int))=>gd (Qa a.1.length/\Qa a.2.length) (some (kZ a.1 a.2))
def Jz (args:Array Value)(w:World):(callFunc 405 args).run Tryz.prog w= .ok (.enter 405 args) w:=by kernel_rfl
def uh1 (a:Int):(EV.bG Yn jB.ar a).map EV.pJ=[V.int IntKind.i64 a]:=by kernel_rfl
def rh1 (a:Int):jC ((EV.bG Yn jB.rs (mP a)).map EV.pJ)= .bool (mP a):=by kernel_rfl
def uh2 (a:Int×Int):(EV.bG Yn jJ.ar a).map EV.pJ=[V.int IntKind.i64 a.1,V.int IntKind.i64 a.2]:=by kernel_rfl
def rh2 (a:Int×Int):jC ((EV.bG Yn jJ.rs (eY a.1 a.2)).map EV.pJ)=V.int IntKind.i64 (eY a.1 a.2):=by kernel_rfl
def uh3 (a:Int×Int):(EV.bG Yn jK.ar a).map EV.pJ=[V.int IntKind.i64 a.1,V.int IntKind.i64 a.2]:=by kernel_rfl
def rh3 (a:Int×Int):jC ((EV.bG Yn jK.rs (kJ a.1 a.2)).map EV.pJ)=V.int IntKind.i64 (kJ a.1 a.2):=by kernel_rfl
def uh4 (a:List Int×Int×Int):(EV.bG Yn fE.ar a).map EV.pJ=[.slice 1 (a.1.map iV),V.int IntKind.i64 a.2.1,V.int IntKind.i64 a.2.2]:=by kernel_rfl
def rh4 (a:List Int×Int×Int):jC ((EV.bG Yn fE.rs (En a.1 a.2.1 a.2.2)).map EV.pJ)=V.int IntKind.i64 (En a.1 a.2.1 a.2.2):=by kernel_rfl
def sh1 (a:Int):Spec Tryz.prog G0 454 [V.int IntKind.i64 a] (λr=>r= .bool (mP a)):=by have h:=(fF a (mP a) rfl).1 rfl rfl;rw[<-uh1,<-rh1];exact h
def sh2 (a b:Int):Spec Tryz.prog G0 451 [V.int IntKind.i64 a,V.int IntKind.i64 b] (λr=>r=V.int IntKind.i64 (eY a b)):=by have h:=(mV (a,b) (eY a b) rfl).1 rfl rfl;have e1:(EV.bG Yn jJ.ar ((a,b):Int×Int)).map EV.pJ=[V.int IntKind.i64 a,V.int IntKind.i64 b]:=uh2 (a,b);have e2:jC ((EV.bG Yn jJ.rs (eY a b)).map EV.pJ)=V.int IntKind.i64 (eY a b):=rh2 (a,b);rw[<-e1,<-e2];exact h
def sh3 (a b:Int):Spec Tryz.prog G0 455 [V.int IntKind.i64 a,V.int IntKind.i64 b] (λr=>r=V.int IntKind.i64 (kJ a b)):=by have h:=(aXq (a,b) (kJ a b) rfl).1 rfl rfl;have e1:(EV.bG Yn jK.ar ((a,b):Int×Int)).map EV.pJ=[V.int IntKind.i64 a,V.int IntKind.i64 b]:=uh3 (a,b);have e2:jC ((EV.bG Yn jK.rs (kJ a b)).map EV.pJ)=V.int IntKind.i64 (kJ a b):=rh3 (a,b);rw[<-e1,<-e2];exact h
def sh4 (l:List Int)(k a:Int)(hl:Qa l.length):Spec Tryz.prog G0 456 [.slice 1 (l.map iV),V.int IntKind.i64 k,V.int IntKind.i64 a] (λr=>r=V.int IntKind.i64 (En l k a)):=by have h:=(J4 (l,k,a) (En l k a) (aA hl)).1 rfl rfl;have e1:(EV.bG Yn fE.ar ((l,k,a):List Int×Int×Int)).map EV.pJ=[.slice 1 (l.map iV),V.int IntKind.i64 k,V.int IntKind.i64 a]:=uh4 (l,k,a);have e2:jC ((EV.bG Yn fE.rs (En l k a)).map EV.pJ)=V.int IntKind.i64 (En l k a):=rh4 (l,k,a);rw[<-e1,<-e2];exact h
def Kl (a:List Int×List Int):(EV.bG Yn dQ.ar a).map EV.pJ=[.slice 1 (a.1.map iV), .slice 1 (a.2.map iV)]:=by kernel_rfl
def Km (a:List Int×List Int):jC ((EV.bG Yn dQ.rs (kZ a.1 a.2)).map EV.pJ)= .tup [V.int IntKind.i64 (kZ a.1 a.2).1, .bool (kZ a.1 a.2).2]:=by kernel_rfl
def Kn (a:List Int×List Int)(r:EV.fM Un dQ.rs)(hr:gd (Qa a.1.length/\Qa a.2.length) (some (kZ a.1 a.2))=some r):Spec Tryz.prog G0 405 ((EV.bG Yn dQ.ar a).map EV.pJ) (λv=>v=jC ((EV.bG Yn dQ.rs r).map EV.pJ)):=by
 unfold gd at hr;split at hr
 ·rename_i hp;have e:=ak hr;subst e;rw[Kl,Km];exact bUf Jz sh1 sh2 sh3 sh4 a.1 a.2 hp
 ·cases hr
def Ko:EV.Rb Tryz.prog G0 Yn 405 dQ:=λ(a:List Int×List Int) r hr=>⟨λ_ _=>Kn a r hr,λ_ h=>absurd (show false=true from h) cP,λh=>absurd (show false=true from h) cP,λh=>absurd (show false=true from h) cP⟩
def aFz:OK 408 Dy:=mQ (aZ 835910406961) (gc fF (gc mH (gc uP (gc mV aB)))) func408 aEu
def aTv:OK 407 Vq:=mQ .n (gc dM (gc Xx aB)) func407 aSi
def aPf:OK 457 Pt:=mQ .n (gc dM aB) func457 aNk
def bDs:OK 458 aCc:=mQ .n (gc bR (gc cZ aB)) func458 bCb
def aTw:OK 406 Vr:=mQ (aZ 13544187301491505) (gc aPf (gc bDs aB)) func406 aSk
def aPg:SU:=gF [.st 53, .sl 145, .sl 3,i6,i6] [.sl 145,i6, .bool, .bool] (cg5 (λ_ (b:List AC) (c:List Int) _ _=>gd (Fu AC.sz b<=34000000000/\c.length<=100000000)) bR0)
def aPh:OK 344 aPg:=bKq (aZ 800894719823273849212584231448412473789167646331380270247912087480512087013316366088430757373926282435746624440324585215172642040278292916146291128746971409) (gc xI (gc bGs (gc aPe (gc bDr (gc Ko (gc aFz (gc aTv (gc aTw aB)))))))) func344 aNn
def aPi:SU:=gF [.st 53, .sl 145, .sl 3,i6,i6] [.sl 145,i6, .bool] (cg5 (λ_ (b:List AC) (c:List Int) _ _=>gd (Fu AC.sz b<=34000000000/\c.length<=100000000)) Ba)
def aPj:OK 277 aPi:=bKq .n (gc aPh aB) func277 aNo
def aF0:SU:=gF [.st 59, .sl 3,i6] [.st 59,i6, .bool] (cg3 (λ(a:AA) (b:List Int) _=>gd (a.sz<=34000000000/\b.length<=100000000)) iN)
def aF1:OK 190 aF0:=gV (aZ 2398414687995603573709559326281275220241) (gc bS (gc bT (gc cZ (gc aPj (gc (sIl 262) (gc nJ aB)))))) func190 aEv
def aPk:SU:=gF [.st 59,i6] [.st 59, .bool] (fP (λ(a:AA) _=>gd (a.sz<=99000000)) xQ)
def aPl:OK 107 aPk:=aV (aZ 39217236426587872588077934555193725933470481) (gc aF1 aB) func107 aNq
def aXr:OK 281 Vs:=bW (aZ 216872594544817676489096948126584854334579369190834961) aB func281 aWg
def aPm:OK 346 aHn:=gV (aZ 10483641004970618820726120918369041) (gc mH aB) func346 aMp
def aCs:OK 280 Aa:=aV (aZ 115981393987785537401878047280751162776093397283558416945101508747737144959104093270289) (gc xK (gc aPm aB)) func280 aAa
def aF2:OK 282 Dz:=aV (aZ 49555505313279396312624971429198075256693991700193207471936057617) (gc qJ (gc Ac (gc y7 (gc xK aB)))) func282 aEc
def aPn:OK 192 Pv:=aV (aZ 2154868656137673368311059858026009972213229252096009577200186845514391896009054263857844497) (gc aXr (gc aCs (gc xI (gc aF2 aB)))) func192 aMq
def aPo:OK 108 Pw:=bW (aZ 4850049277224956263119875669748553401571305561364007961694481) (gc bS (gc bT (gc cZ (gc aPn aB)))) func108 aMs
def aF3:OK 193 Ea:=aV (aZ 18944064303889) (gc qJ aB) func193 aEa
def aCt:OK 109 Ab:=gV (aZ 97152198587153) (gc bS (gc bT (gc aF3 aB))) func109 Z8
def aPp:SU:=gF [.st 59, .st 74] [.st 59, .bool] (fP (λ(a:AA) _=>gd (a.sz<=99000000)) evF)
def aPq:OK 53 aPp:=aV (aZ 230772007577497059565365902155516637791902677373324079676442521551724957057041278233488037566573056073264925179955660615082248111109718613689930851683102953745) (gc bT (gc bS (gc bOh (gc aKj (gc jL (gc aO4 (gc aKk (gc aO5 (gc aFy (gc aTs (gc aPd (gc Qf (gc uO (gc aPl (gc aPo (gc aCt aB)))))))))))))))) func53 aNw
def aPr:OK 27 Px:=aV (aZ 2905806347802229691700516189678699744431345977500989446461887222107690799737981698861968012082241846194336764610477824858914829980274425392594636945340613477137) (gc aKa (gc aPq aB)) func27 aNx
def aF4:OK 9 Eb:=gV (aZ 1051141588175582631318324236380276690100285860077130469499905735278019345) (gc aPr aB) func9 aEw
def aPs:SU:=bZ [.st 123, .st 123] [.bool] (fP (λ(a:AN) (b:AN)=>gd (dZ (0) a b)) (λ_ _=>true))
def aPt:OK 110 aPs:=aV .n aB func110 aMf
def aPu:SU:=bZ [.st 181, .st 181] [.bool] (fP (λ(a:AG) (b:AG)=>gd (dZ (0) a b)) (λ_ _=>true))
def aPv:OK 112 aPu:=aV .n aB func112 aMg
def aKq:SU:=bZ [.sl 181, .sl 181] [.bool] (fP (λ(a:List AG) (b:List AG)=>gd (dZ (a.length) a b)) (λ_ _=>true))
def Ka:OK 55 aKq:=aV (aZ 103034783530677429096984925291696356091522725805528601361) (gc aPv aB) func55 aIq
def bDt:SU:=bZ [.st 316, .st 316] [.bool] (fP (λ(a:AI) (b:AI)=>gd (dZ (0) a b)) (λ_ _=>true))
def bDu:OK 283 bDt:=aV .n aB func283 bA8
def aXs:SU:=bZ [.sl 316, .sl 316] [.bool] (fP (λ(a:List AI) (b:List AI)=>gd (dZ (a.length) a b)) (λ_ _=>true))
def aXt:OK 194 aXs:=aV (aZ 103034783530677429096984925291696356091522725805528601361) (gc bDu aB) func194 aV2
def aXu:SU:=bZ [.st 126, .st 126] [.bool] (fP (λ(a:AD) (b:AD)=>gd (dZ (a.sz) a b)) (λ_ _=>true))
def aXv:OK 111 aXu:=aV .n (gc aXt aB) func111 aV3
def aXw:SU:=bZ [.st 128, .st 128] [.bool] (fP (λ(a:AF) (b:AF)=>gd (dZ (a.sz) a b)) (λ_ _=>true))
def aXx:OK 54 aXw:=aV .n (gc aPt (gc Ka (gc aXv aB))) func54 aV4
def aTx:SU:=bZ [.sl 128, .sl 128] [.bool] (fP (λ(a:List AF) (b:List AF)=>gd (dZ (a.length+(a.map AF.sz).sum) a b)) (λ_ _=>true))
def aTy:OK 28 aTx:=aV (aZ 103034783530677429096984925291696356091522725805528601361) (gc aXx aB) func28 aRe
def bDv:SU:=bZ [.sl 4, .sl 4] [.bool] (fP (λ(a:List Bool) (b:List Bool)=>gd (dZ (a.length) a b)) (λ_ _=>true))
def bDw:OK 29 bDv:=aV (aZ 5721316685687911404930256411556853992343284319049110289) aB func29 bA9
def bDx:SU:=bZ [.sl 5, .sl 5] [.bool] (fP (λ(a:List Int) (b:List Int)=>gd (dZ (a.length) a b)) (λ_ _=>true))
def aCu:OK 196 bDx:=aV (aZ 5721316685687911404930256411556853992343284319049110289) aB func196 bBa
def bLj:SU:=bZ [.st 256, .st 256] [.bool] (fP (λ(a:AK) (b:AK)=>gd (dZ (a.sz) a b)) (λ_ _=>true))
def bLk:OK 195 bLj:=aV .n (gc aCu aB) func195 bKx
def bGt:SU:=bZ [.sl 256, .sl 256] [.bool] (fP (λ(a:List AK) (b:List AK)=>gd (dZ (a.length+(a.map AK.sz).sum) a b)) (λ_ _=>true))
def bGu:OK 113 bGt:=aV (aZ 103034783530677429096984925291696356091522725805528601361) (gc bLk aB) func113 bE9
def aF5:SU:=bZ [.st 48, .st 48] [.bool] (fP (λ(a:AO) (b:AO)=>gd (dZ (a.sz) a b)) (λ_ _=>true))
def aF6:OK 56 aF5:=aV .n (gc bGu aB) func56 aDz
def J5:SU:=bZ [.st 185, .st 185] [.bool] (fP (λ(a:AJ) (b:AJ)=>gd (dZ (a.sz) a b)) (λ_ _=>true))
def J6:OK 114 J5:=aV .n (gc aCu aB) func114 D6
def Xy:SU:=bZ [.sl 185, .sl 185] [.bool] (fP (λ(a:List AJ) (b:List AJ)=>gd (dZ (a.length+(a.map AJ.sz).sum) a b)) (λ_ _=>true))
def Xz:OK 57 Xy:=aV (aZ 103034783530677429096984925291696356091522725805528601361) (gc J6 aB) func57 Xi
def bDy:SU:=bZ [.st 51, .st 51] [.bool] (fP (λ(a:AP) (b:AP)=>gd (dZ (a.sz) a b)) (λ_ _=>true))
def bDz:OK 30 bDy:=aV .n (gc Ka (gc aF6 (gc Xz aB))) func30 bBb
def aF7:SU:=bZ [.st 308, .st 308] [.bool] (fP (λ(a:AV) (b:AV)=>gd (dZ (0) a b)) (λ_ _=>true))
def aF8:OK 349 aF7:=aV .n aB func349 aD0
def aCv:SU:=bZ [.sl 308, .sl 308] [.bool] (fP (λ(a:List AV) (b:List AV)=>gd (dZ (a.length) a b)) (λ_ _=>true))
def aCw:OK 284 aCv:=aV (aZ 103034783530677429096984925291696356091522725805528601361) (gc aF8 aB) func284 Y3
def aTz:SU:=bZ [.st 225, .st 225] [.bool] (fP (λ(a:AH) (b:AH)=>gd (dZ (a.sz) a b)) (λ_ _=>true))
def aT0:OK 197 aTz:=aV .n (gc aCw aB) func197 aRf
def aPw:SU:=bZ [.sl 225, .sl 225] [.bool] (fP (λ(a:List AH) (b:List AH)=>gd (dZ (a.length+(a.map AH.sz).sum) a b)) (λ_ _=>true))
def aPx:OK 115 aPw:=aV (aZ 103034783530677429096984925291696356091522725805528601361) (gc aT0 aB) func115 aMh
def aKr:SU:=bZ [.st 289, .st 289] [.bool] (fP (λ(a:AY) (b:AY)=>gd (dZ (0) a b)) (λ_ _=>true))
def aKs:OK 285 aKr:=aV .n aB func285 aIr
def aF9:SU:=bZ [.sl 289, .sl 289] [.bool] (fP (λ(a:List AY) (b:List AY)=>gd (dZ (a.length) a b)) (λ_ _=>true))
def aGa:OK 198 aF9:=aV (aZ 103034783530677429096984925291696356091522725805528601361) (gc aKs aB) func198 aD1
def Ya:SU:=bZ [.st 136, .st 136] [.bool] (fP (λ(a:AM) (b:AM)=>gd (dZ (a.sz) a b)) (λ_ _=>true))
def Yc:OK 116 Ya:=aV .n (gc aGa aB) func116 Xj
def bGv:SU:=bZ [.sl 3, .sl 3] [.bool] (fP (λ(a:List Int) (b:List Int)=>gd (dZ (a.length) a b)) (λ_ _=>true))
def bGw:OK 117 bGv:=aV (aZ 5721316685687911404930256411556853992343284319049110289) aB func117 bFa
def bGx:SU:=bZ [.st 138, .st 138] [.bool] (fP (λ(a:AB) (b:AB)=>gd (dZ (a.sz) a b)) (λ_ _=>true))
def bGy:OK 58 bGx:=aV .n (gc aPx (gc Yc (gc bGw aB))) func58 bFb
def bD0:SU:=bZ [.sl 138, .sl 138] [.bool] (fP (λ(a:List AB) (b:List AB)=>gd (dZ (a.length+(a.map AB.sz).sum) a b)) (λ_ _=>true))
def bD1:OK 31 bD0:=aV (aZ 103034783530677429096984925291696356091522725805528601361) (gc bGy aB) func31 bBc
def bD2:SU:=bZ [.st 53, .st 53] [.bool] (fP (λ(a:A3) (b:A3)=>gd (dZ (0) a b)) (λ_ _=>true))
def bD3:OK 32 bD2:=aV .n aB func32 bBd
def bD4:SU:=bZ [.st 140, .st 140] [.bool] (fP (λ(a:AX) (b:AX)=>gd (dZ (0) a b)) (λ_ _=>true))
def bD5:OK 199 bD4:=aV .n aB func199 bBe
def aXy:SU:=bZ [.st 142, .st 142] [.bool] (fP (λ(a:AZ) (b:AZ)=>gd (dZ (0) a b)) (λ_ _=>true))
def y9:OK 118 aXy:=aV .n (gc bD5 aB) func118 aV5
def aT1:SU:=bZ [.sl 142, .sl 142] [.bool] (fP (λ(a:List AZ) (b:List AZ)=>gd (dZ (a.length) a b)) (λ_ _=>true))
def aT2:OK 119 aT1:=aV (aZ 103034783530677429096984925291696356091522725805528601361) (gc y9 aB) func119 aRg
def aGb:SU:=bZ [.st 145, .st 145] [.bool] (fP (λ(a:AC) (b:AC)=>gd (dZ (a.sz) a b)) (λ_ _=>true))
def aGc:OK 59 aGb:=aV .n (gc y9 (gc aT2 aB)) func59 aD2
def aCx:SU:=bZ [.sl 145, .sl 145] [.bool] (fP (λ(a:List AC) (b:List AC)=>gd (dZ (a.length+(a.map AC.sz).sum) a b)) (λ_ _=>true))
def aCy:OK 33 aCx:=aV (aZ 103034783530677429096984925291696356091522725805528601361) (gc aGc aB) func33 Y4
def aXz:SU:=bZ [.st 193, .st 193] [.bool] (fP (λ(a:AR) (b:AR)=>gd (dZ (0) a b)) (λ_ _=>true))
def aX0:OK 120 aXz:=aV .n aB func120 aV6
def aT3:SU:=bZ [.sl 193, .sl 193] [.bool] (fP (λ(a:List AR) (b:List AR)=>gd (dZ (a.length) a b)) (λ_ _=>true))
def aT4:OK 60 aT3:=aV (aZ 103034783530677429096984925291696356091522725805528601361) (gc aX0 aB) func60 aRh
def aT5:SU:=bZ [.st 57, .st 57] [.bool] (fP (λ(a:AU) (b:AU)=>gd (dZ (a.sz) a b)) (λ_ _=>true))
def aT6:OK 34 aT5:=aV .n (gc aT4 aB) func34 aRi
def bD6:SU:=bZ [.st 59, .st 59] [.bool] (fP (λ(a:AA) (b:AA)=>gd (dZ (a.sz) a b)) (λ_ _=>true))
def bD7:OK 10 bD6:=aV .n (gc aTy (gc bDw (gc bDz (gc bD1 (gc bD3 (gc aCy (gc aT6 aB))))))) func10 bBf
def bD8:SU:=bZ [.st 74, .st 74] [.bool] (fP (λ(a:AS) (b:AS)=>gd (dZ (0) a b)) (λ_ _=>true))
def bD9:OK 35 bD8:=aV .n aB func35 bBg
def aX1:SU:=bZ [.sl 74, .sl 74] [.bool] (fP (λ(a:List AS) (b:List AS)=>gd (dZ (a.length) a b)) (λ_ _=>true))
def aX2:OK 11 aX1:=aV (aZ 103034783530677429096984925291696356091522725805528601361) (gc bD9 aB) func11 aV7
def oF:SU:=bZ [.st 39, .sl 83,i6] [.bool] (cg3 (λ(a:AA) (b:List AS) _=>gd (a.ok/\jD (λ(x:AS)=>True) b)) (λ_ _ _=>true))
def Kb:OK 3 oF:=gV (aZ 40923301632424014800556305) (gc bCm (gc aW2 (gc bC1 (gc aXd (gc aFn (gc aF4 (gc bD7 (gc aX2 aB)))))))) func3 Ip
end
end Go.VK
