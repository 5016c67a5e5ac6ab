import Derived.Test.YtchppgifkkcfpaaGreatDoorXcM
/- Printed by wip/tools: models, walks, proofs. -/
set_option linter.all false
set_option maxRecDepth 100000
set_option maxHeartbeats 4000000
namespace Go.VK
open Go.RowKit Go.Proofs D
noncomputable section
open EV (bF)
def aIn (a0:List AG)(a:Int)(h:gJ (jD (λ_:AG=>True)) a0 a):Gb a0 a=some (dY (a0.length) a):=by obtain⟨h1,b⟩:=h;unfold Gb;exact Ql h1.1 b
def aVs (a0:List AI)(a:Int)(h:gJ (jD (λ_:AI=>True)) a0 a):Yk a0 a=some (dY (a0.length) a):=by obtain⟨h1,b⟩:=h;unfold Yk;exact Ql h1.1 b
def aVt (a0:AD)(a:Int)(h:gJ AD.ok a0 a):Yl a0 a=some (dY (a0.sz) a):=by
 obtain⟨h1,b⟩:=h;unfold Yl;have e:a0.sz=(a0.Entries.length):=by simp only[AD.sz]<;>omega
 rw[e];rw[aA (show gJ (jD (λ_:AI=>True)) (a0.Entries) _ from⟨h1,b⟩),bd_s];exact Yh b
def aVu (a0:AF)(a:Int)(h:gJ AF.ok a0 a):Ym a0 a=some (dY (a0.sz) a):=by
 obtain⟨h1,c⟩:=h;unfold Ym;have e:a0.sz=((a0.Log.length)+(a0.aAE.sz)):=by simp only[AD.sz,AF.sz,AN.sz]<;>omega
 rw[e];rw[aA (show gJ (jD (λ_:AG=>True)) (a0.Log) _ from⟨h1.1,c⟩),bd_s];refine bEr c (λb=> ?_)
 revert b
 generalize dY (a0.Log.length) a=l1;intro b;rw[aA (show gJ AD.ok (a0.aAE) _ from⟨h1.2,b⟩),bd_s];exact Yh b
def aQ4 (a0:List AF)(a:Int)(h:gJ (jD AF.ok) a0 a):Ro a0 a=some (dY (a0.length+(a0.map AF.sz).sum) a):=by unfold Ro;exact aQg h (by grind[bD,aD,bd_s,aA]) (by simp)
def bAu (a0:List Bool)(a:Int)(h:gJ (jD (λ_:Bool=>True)) a0 a):O3 a0 a=some (dY (a0.length) a):=by obtain⟨h1,b⟩:=h;unfold O3;exact Ql h1.1 b
def bAv (a0:List Int)(a:Int)(h:gJ (jD (λ_:Int=>True)) a0 a):O4 a0 a=some (dY (a0.length) a):=by obtain⟨h1,b⟩:=h;unfold O4;exact Ql h1.1 b
def bKv (a0:AK)(a:Int)(h:gJ AK.ok a0 a):aLz a0 a=some (dY (a0.sz) a):=by
 obtain⟨h1,b⟩:=h;unfold aLz;have e:a0.sz=(a0.Data.length):=by simp only[AK.sz]<;>omega
 rw[e];rw[aA (show gJ (jD (λ_:Int=>True)) (a0.Data) _ from⟨h1,b⟩),bd_s];exact Yh b
def bE3 (a0:List AK)(a:Int)(h:gJ (jD AK.ok) a0 a):aGi a0 a=some (dY (a0.length+(a0.map AK.sz).sum) a):=by unfold aGi;exact aQg h (by grind[bD,aD,bd_s,aA]) (by simp)
def aDs (a0:AO)(a:Int)(h:gJ AO.ok a0 a):Bc a0 a=some (dY (a0.sz) a):=by
 obtain⟨h1,b⟩:=h;unfold Bc;have e:a0.sz=(a0.Boxes.length+(a0.Boxes.map AK.sz).sum):=by simp only[AO.sz]<;>omega
 rw[e];rw[aA (show gJ (jD AK.ok) (a0.Boxes) _ from⟨h1,b⟩),bd_s];exact Yh b
def C9 (a0:AJ)(a:Int)(h:gJ AJ.ok a0 a):uY a0 a=some (dY (a0.sz) a):=by
 obtain⟨h1,b⟩:=h;unfold uY;have e:a0.sz=(a0.Data.length):=by simp only[AJ.sz]<;>omega
 rw[e];rw[aA (show gJ (jD (λ_:Int=>True)) (a0.Data) _ from⟨h1,b⟩),bd_s];exact Yh b
def Xe (a0:List AJ)(a:Int)(h:gJ (jD AJ.ok) a0 a):sZ a0 a=some (dY (a0.length+(a0.map AJ.sz).sum) a):=by unfold sZ;exact aQg h (by grind[bD,aD,bd_s,aA]) (by simp)
def bAw (a0:AP)(a:Int)(h:gJ AP.ok a0 a):O5 a0 a=some (dY (a0.sz) a):=by
 obtain⟨h1,d⟩:=h;unfold O5;have e:a0.sz=((a0.Log.length)+((a0.Boxes.sz)+(a0.History.length+(a0.History.map AJ.sz).sum))):=by simp only[AP.sz,AO.sz]<;>omega
 rw[e];rw[aA (show gJ (jD (λ_:AG=>True)) (a0.Log) _ from⟨h1.1,d⟩),bd_s];refine bEr d (λb=> ?_)
 revert b
 generalize dY (a0.Log.length) a=l1;intro b;rw[aA (show gJ AO.ok (a0.Boxes) _ from⟨h1.2.1,b⟩),bd_s];refine bEr b (λc=> ?_)
 revert c
 generalize dY (a0.Boxes.sz) l1=l2;intro c;rw[aA (show gJ (jD AJ.ok) (a0.History) _ from⟨h1.2.2,c⟩),bd_s];exact Yh c
def X8 (a0:List AV)(a:Int)(h:gJ (jD (λ_:AV=>True)) a0 a):yH a0 a=some (dY (a0.length) a):=by obtain⟨h1,b⟩:=h;unfold yH;exact Ql h1.1 b
def aQ5 (a0:AH)(a:Int)(h:gJ AH.ok a0 a):Rp a0 a=some (dY (a0.sz) a):=by
 obtain⟨h1,b⟩:=h;unfold Rp;have e:a0.sz=(a0.Credentials.length):=by simp only[AH.sz]<;>omega
 rw[e];rw[aA (show gJ (jD (λ_:AV=>True)) (a0.Credentials) _ from⟨h1,b⟩),bd_s];exact Yh b
def aMb (a0:List AH)(a:Int)(h:gJ (jD AH.ok) a0 a):Ld a0 a=some (dY (a0.length+(a0.map AH.sz).sum) a):=by unfold Ld;exact aQg h (by grind[bD,aD,bd_s,aA]) (by simp)
def aDt (a0:List AY)(a:Int)(h:gJ (jD (λ_:AY=>True)) a0 a):Bd a0 a=some (dY (a0.length) a):=by obtain⟨h1,b⟩:=h;unfold Bd;exact Ql h1.1 b
def Xf (a0:AM)(a:Int)(h:gJ AM.ok a0 a):tC a0 a=some (dY (a0.sz) a):=by
 obtain⟨h1,b⟩:=h;unfold tC;have e:a0.sz=(a0.Open.length):=by simp only[AM.sz]<;>omega
 rw[e];rw[aA (show gJ (jD (λ_:AY=>True)) (a0.Open) _ from⟨h1,b⟩),bd_s];exact Yh b
def bE4 (a0:List Int)(a:Int)(h:gJ (jD (λ_:Int=>True)) a0 a):aGj a0 a=some (dY (a0.length) a):=by obtain⟨h1,b⟩:=h;unfold aGj;exact Ql h1.1 b
def bE5 (a0:AB)(a:Int)(h:gJ AB.ok a0 a):aGk a0 a=some (dY (a0.sz) a):=by
 obtain⟨h1,f⟩:=h;unfold aGk;have e:a0.sz=((a0.Name.size)+((a0.Accounts.length+(a0.Accounts.map AH.sz).sum)+((a0.Book.sz)+(a0.Logins.length)))):=by simp only[AM.sz,AB.sz]<;>omega
 rw[e];have w0:IntKind.i64.wrap (a-((a0.Name).size:Int))=a-((a0.Name).size:Int):=by have:=f.1;have:=f.2;have:(a0.Name).size<=9223372036854775807:=h1.1;grind[aI]
 rw[w0];refine cDj f (λb=> ?_)
 revert b
 generalize a-((a0.Name).size:Int)=l1;intro b;rw[aA (show gJ (jD AH.ok) (a0.Accounts) _ from⟨h1.2.1,b⟩),bd_s];refine bEr b (λc=> ?_)
 revert c
 generalize dY (a0.Accounts.length+(a0.Accounts.map AH.sz).sum) l1=l2;intro c;rw[aA (show gJ AM.ok (a0.Book) _ from⟨h1.2.2.1,c⟩),bd_s];refine bEr c (λd=> ?_)
 revert d
 generalize dY (a0.Book.sz) l2=i;intro d;rw[aA (show gJ (jD (λ_:Int=>True)) (a0.Logins) _ from⟨h1.2.2.2,d⟩),bd_s];exact Yh d
def bAx (a0:List AB)(a:Int)(h:gJ (jD AB.ok) a0 a):O6 a0 a=some (dY (a0.length+(a0.map AB.sz).sum) a):=by unfold O6;exact aQg h (by grind[bD,aD,bd_s,aA]) (by simp)
def aQ6 (a0:List AZ)(a:Int)(h:gJ (jD (λ_:AZ=>True)) a0 a):Rq a0 a=some (dY (a0.length) a):=by obtain⟨h1,b⟩:=h;unfold Rq;exact Ql h1.1 b
def aDu (a0:AC)(a:Int)(h:gJ AC.ok a0 a):Be a0 a=some (dY (a0.sz) a):=by
 obtain⟨h1,b⟩:=h;unfold Be;have e:a0.sz=(a0.Saved.length):=by simp only[AZ.sz,AC.sz,AX.sz]<;>omega
 rw[e];rw[aA (show gJ (jD (λ_:AZ=>True)) (a0.Saved) _ from⟨h1,b⟩),bd_s];exact Yh b
def X9 (a0:List AC)(a:Int)(h:gJ (jD AC.ok) a0 a):yI a0 a=some (dY (a0.length+(a0.map AC.sz).sum) a):=by unfold yI;exact aQg h (by grind[bD,aD,bd_s,aA]) (by simp)
def aQ7 (a0:List AR)(a:Int)(h:gJ (jD (λ_:AR=>True)) a0 a):Rt a0 a=some (dY (a0.length) a):=by obtain⟨h1,b⟩:=h;unfold Rt;exact Ql h1.1 b
def aQ8 (a0:AU)(a:Int)(h:gJ AU.ok a0 a):Ru a0 a=some (dY (a0.sz) a):=by
 obtain⟨h1,b⟩:=h;unfold Ru;have e:a0.sz=(a0.Notices.length):=by simp only[AU.sz]<;>omega
 rw[e];rw[aA (show gJ (jD (λ_:AR=>True)) (a0.Notices) _ from⟨h1,b⟩),bd_s];exact Yh b
def bAy (a0:AA)(a:Int)(h:gJ AA.ok a0 a):O7 a0 a=some (dY (a0.sz) a):=by
 obtain⟨h1,j⟩:=h;unfold O7;have e:a0.sz=((a0.Devices.length+(a0.Devices.map AF.sz).sum)+((a0.Stolen.length)+((a0.aAH.sz)+((a0.Sites.length+(a0.Sites.map AB.sz).sum)+((a0.Hosts.length+(a0.Hosts.map AC.sz).sum)+(a0.Mail.sz)))))):=by simp only[AP.sz,AO.sz,AU.sz,A3.sz,AA.sz]<;>omega
 rw[e];rw[aA (show gJ (jD AF.ok) (a0.Devices) _ from⟨h1.1,j⟩),bd_s];refine bEr j (λb=> ?_)
 revert b
 generalize dY (a0.Devices.length+(a0.Devices.map AF.sz).sum) a=l1;intro b;rw[aA (show gJ (jD (λ_:Bool=>True)) (a0.Stolen) _ from⟨h1.2.1,b⟩),bd_s];refine bEr b (λc=> ?_)
 revert c
 generalize dY (a0.Stolen.length) l1=l2;intro c;rw[aA (show gJ AP.ok (a0.aAH) _ from⟨h1.2.2.1,c⟩),bd_s];refine bEr c (λd=> ?_)
 revert d
 generalize dY (a0.aAH.sz) l2=k;intro d;rw[aA (show gJ (jD AB.ok) (a0.Sites) _ from⟨h1.2.2.2.1,d⟩),bd_s];refine bEr d (λf=> ?_)
 revert f
 generalize dY (a0.Sites.length+(a0.Sites.map AB.sz).sum) k=l;intro f;rw[aA (show gJ (jD AC.ok) (a0.Hosts) _ from⟨h1.2.2.2.2.1,f⟩),bd_s];refine bEr f (λi=> ?_)
 revert i
 generalize dY (a0.Hosts.length+(a0.Hosts.map AC.sz).sum) l=m;intro i;rw[aA (show gJ AU.ok (a0.Mail) _ from⟨h1.2.2.2.2.2,i⟩),bd_s];exact Yh i
def aVv (a0:List AS)(a:Int)(h:gJ (jD (λ_:AS=>True)) a0 a):Yo a0 a=some (dY (a0.length) a):=by obtain⟨h1,b⟩:=h;unfold Yo;exact Ql h1.1 b
def aMc (a0:AN):aL0 a0=some (a0):=by rfl
def aMd (a0:AG):aL1 a0=some (a0):=by rfl
def aIo (a0:List AG)(h:a0.length<=1048576):Gc a0=some (a0):=by unfold Gc;rw[aA (pM (by omega)),iE dC (by omega) (by grind[bD,aD,bd_s,dC]) (by simp)];rfl
def bAz (a0:AI):bAi a0=some (a0):=by rfl
def aVw (a0:List AI)(h:a0.length<=1048576):Yp a0=some (a0):=by unfold Yp;rw[aA (pM (by omega)),iE dC (by omega) (by grind[bD,aD,bd_s,dC]) (by simp)];rfl
def aVx (a0:AD)(h:a0.sz<=1048576):Yq a0=some (a0):=by simp_all[aA,AD.sz,bd_s,Yq]
def aVy (a0:AF)(h:a0.sz<=1048576):Yr a0=some (a0):=by
 unfold Yr;simp only[AD.sz,AF.sz,AN.sz] at h
 try simp only[bd_s]
 rw[aA (by omega)]
 try simp only[bd_s]
 rw[aA (by grind[AD.sz,AF.sz,AN.sz])];rfl
def aQ9 (a0:List AF)(h:a0.length+(a0.map AF.sz).sum<=1048576):Rv a0=some (a0):=by unfold Rv;rw[aA (pM (by omega)),iE dC (by omega) (by grind[dU,AF.sz,bD,aD,bd_s,dC,aA]) (by simp)];rfl
def bA0 (a0:List Bool)(h:a0.length<=1048576):O8 a0=some (a0):=by unfold O8;rw[aA (pM (by omega)),iE dC (by omega) (by grind[bD,aD,bd_s,dC]) (by simp)];rfl
def bA1 (a0:List Int)(h:a0.length<=1048576):O9 a0=some (a0):=by unfold O9;rw[aA (pM (by omega)),iE dC (by omega) (by grind[bD,aD,bd_s,dC]) (by simp)];rfl
def bKw (a0:AK)(h:a0.sz<=1048576):aL2 a0=some (a0):=by simp_all[aA,AK.sz,bd_s,aL2]
def bE6 (a0:List AK)(h:a0.length+(a0.map AK.sz).sum<=1048576):aGl a0=some (a0):=by unfold aGl;rw[aA (pM (by omega)),iE dC (by omega) (by grind[dU,AK.sz,bD,aD,bd_s,dC,aA]) (by simp)];rfl
def aDv (a0:AO)(h:a0.sz<=1048576):Bf a0=some (a0):=by simp_all[aA,AO.sz,bd_s,Bf]
def D5 (a0:AJ)(h:a0.sz<=1048576):uZ a0=some (a0):=by simp_all[aA,AJ.sz,bd_s,uZ]
def Xg (a0:List AJ)(h:a0.length+(a0.map AJ.sz).sum<=1048576):tF a0=some (a0):=by unfold tF;rw[aA (pM (by omega)),iE dC (by omega) (by grind[dU,AJ.sz,bD,aD,bd_s,dC,aA]) (by simp)];rfl
def bA2 (a0:AP)(h:a0.sz<=1048576):P5 a0=some (a0):=by
 unfold P5;simp only[AP.sz,AO.sz] at h
 try simp only[bd_s]
 rw[aA (by omega)]
 try simp only[bd_s]
 rw[aA (by grind[AP.sz,AO.sz])]
 try simp only[bd_s]
 rw[aA (by omega)];rfl
def aDw (a0:AV):aDl a0=some (a0):=by rfl
def Y1 (a0:List AV)(h:a0.length<=1048576):yJ a0=some (a0):=by unfold yJ;rw[aA (pM (by omega)),iE dC (by omega) (by grind[bD,aD,bd_s,dC]) (by simp)];rfl
def aRa (a0:AH)(h:a0.sz<=1048576):Rw a0=some (a0):=by simp_all[aA,AH.sz,bd_s,Rw]
def aMe (a0:List AH)(h:a0.length+(a0.map AH.sz).sum<=1048576):Lg a0=some (a0):=by unfold Lg;rw[aA (pM (by omega)),iE dC (by omega) (by grind[dU,AH.sz,bD,aD,bd_s,dC,aA]) (by simp)];rfl
def aIp (a0:AY):aIj a0=some (a0):=by rfl
def aDx (a0:List AY)(h:a0.length<=1048576):Bg a0=some (a0):=by unfold Bg;rw[aA (pM (by omega)),iE dC (by omega) (by grind[bD,aD,bd_s,dC]) (by simp)];rfl
def Xh (a0:AM)(h:a0.sz<=1048576):tH a0=some (a0):=by simp_all[aA,AM.sz,bd_s,tH]
def bE7 (a0:List Int)(h:a0.length<=1048576):aGm a0=some (a0):=by unfold aGm;rw[aA (pM (by omega)),iE dC (by omega) (by grind[bD,aD,bd_s,dC]) (by simp)];rfl
def bE8 (a0:AB)(h:a0.sz<=1048576):aGn a0=some (a0):=by
 unfold aGn;simp only[AM.sz,AB.sz] at h
 try simp only[bd_s]
 rw[aA (by omega)]
 try simp only[bd_s]
 rw[aA (by grind[AM.sz,AB.sz])]
 try simp only[bd_s]
 rw[aA (by omega)];rfl
def bA3 (a0:List AB)(h:a0.length+(a0.map AB.sz).sum<=1048576):P6 a0=some (a0):=by unfold P6;rw[aA (pM (by omega)),iE dC (by omega) (by grind[dU,AB.sz,bD,aD,bd_s,dC,aA]) (by simp)];rfl
def bA4 (a0:A3):bAj a0=some (a0):=by rfl
def bA5 (a0:AX):bAk a0=some (a0):=by rfl
def aVz (a0:AZ):aVp a0=some (a0):=by rfl
def aRb (a0:List AZ)(h:a0.length<=1048576):Rx a0=some (a0):=by unfold Rx;rw[aA (pM (by omega)),iE dC (by omega) (by grind[bD,aD,bd_s,dC]) (by simp)];rfl
def aDy (a0:AC)(h:a0.sz<=1048576):Bh a0=some (a0):=by simp_all[aA,AZ.sz,AC.sz,AX.sz,bd_s,Bh]
def Y2 (a0:List AC)(h:a0.length+(a0.map AC.sz).sum<=1048576):yK a0=some (a0):=by unfold yK;rw[aA (pM (by omega)),iE dC (by omega) (by grind[dU,AC.sz,bD,aD,bd_s,dC,aA]) (by simp)];rfl
def aV0 (a0:AR):aVq a0=some (a0):=by rfl
def aRc (a0:List AR)(h:a0.length<=1048576):Ry a0=some (a0):=by unfold Ry;rw[aA (pM (by omega)),iE dC (by omega) (by grind[bD,aD,bd_s,dC]) (by simp)];rfl
def aRd (a0:AU)(h:a0.sz<=1048576):Rz a0=some (a0):=by simp_all[aA,AU.sz,bd_s,Rz]
def bA6 (a0:AA)(h:a0.sz<=1048576):P7 a0=some (a0):=by
 unfold P7;simp only[AP.sz,AO.sz,AU.sz,A3.sz,AA.sz] at h
 try simp only[bd_s]
 rw[aA (by omega)]
 try simp only[bd_s]
 rw[aA (by omega)]
 try simp only[bd_s]
 rw[aA (by grind[AP.sz,AO.sz,AU.sz,A3.sz,AA.sz])]
 try simp only[bd_s]
 rw[aA (by omega)]
 try simp only[bd_s]
 rw[aA (by omega)]
 try simp only[bd_s]
 rw[aA (by grind[AP.sz,AO.sz,AU.sz,A3.sz,AA.sz])];rfl
def bA7 (a0:AS):bAl a0=some (a0):=by rfl
def aV1 (a0:List AS)(h:a0.length<=1048576):Yt a0=some (a0):=by unfold Yt;rw[aA (pM (by omega)),iE dC (by omega) (by grind[bD,aD,bd_s,dC]) (by simp)];rfl
def aMf (a0:AN)(a:AN)(h:dZ (0) a0 a):Nu a0 a=some (true):=by
 obtain⟨rfl,b⟩:=h
 grind[bne_self_eq_false,Bool.not_true,Bool.not_false,bd_s,nx_r,Nu]
def aMg (a0:AG)(a:AG)(h:dZ (0) a0 a):Nv a0 a=some (true):=by
 obtain⟨rfl,b⟩:=h
 grind[bne_self_eq_false,Bool.not_true,Bool.not_false,bd_s,nx_r,Nv]
def aIq (a0:List AG)(b:List AG)(h:dZ (a0.length) a0 b):Ib a0 b=some (true):=by obtain⟨rfl,c⟩:=h;unfold Ib;rw[pK (a:=a0) (by omega) (by grind[bD,aD,aA,dZ,bne_self_eq_false,Bool.not_true,Bool.not_false,bd_s,nx_r]) (by simp)];simp
def bA8 (a0:AI)(a:AI)(h:dZ (0) a0 a):V6 a0 a=some (true):=by
 obtain⟨rfl,b⟩:=h
 grind[bne_self_eq_false,Bool.not_true,Bool.not_false,bd_s,nx_r,V6]
def aV2 (a0:List AI)(b:List AI)(h:dZ (a0.length) a0 b):Zo a0 b=some (true):=by obtain⟨rfl,c⟩:=h;unfold Zo;rw[pK (a:=a0) (by omega) (by grind[bD,aD,aA,dZ,bne_self_eq_false,Bool.not_true,Bool.not_false,bd_s,nx_r]) (by simp)];simp
def aV3 (a0:AD)(a:AD)(h:dZ (a0.sz) a0 a):Zp a0 a=some (true):=by
 grind[bne_self_eq_false,Bool.not_true,Bool.not_false,bd_s,nx_r,aA,dZ,AD.sz,Zp]
def aV4 (a0:AF)(a:AF)(h:dZ (a0.sz) a0 a):Zq a0 a=some (true):=by
 grind[bne_self_eq_false,Bool.not_true,Bool.not_false,bd_s,nx_r,aA,dZ,AD.sz,AF.sz,AN.sz,Zq]
def aRe (a0:List AF)(b:List AF)(h:dZ (a0.length+(a0.map AF.sz).sum) a0 b):Ty a0 b=some (true):=by obtain⟨rfl,c⟩:=h;unfold Ty;rw[pK (a:=a0) (by omega) (by grind[dU,AF.sz,bD,aD,aA,dZ,bne_self_eq_false,Bool.not_true,Bool.not_false,bd_s,nx_r]) (by simp)];simp
def bA9 (a0:List Bool)(b:List Bool)(h:dZ (a0.length) a0 b):V7 a0 b=some (true):=by obtain⟨rfl,c⟩:=h;unfold V7;rw[pK (a:=a0) (by omega) (by grind[bD,aD,bne_self_eq_false,Bool.not_true,Bool.not_false,bd_s,nx_r]) (by simp)];simp
def bBa (a0:List Int)(b:List Int)(h:dZ (a0.length) a0 b):V8 a0 b=some (true):=by obtain⟨rfl,c⟩:=h;unfold V8;rw[pK (a:=a0) (by omega) (by grind[bD,aD,bne_self_eq_false,Bool.not_true,Bool.not_false,bd_s,nx_r]) (by simp)];simp
def bKx (a0:AK)(a:AK)(h:dZ (a0.sz) a0 a):aL8 a0 a=some (true):=by
 grind[bne_self_eq_false,Bool.not_true,Bool.not_false,bd_s,nx_r,aA,dZ,AK.sz,aL8]
def bE9 (a0:List AK)(b:List AK)(h:dZ (a0.length+(a0.map AK.sz).sum) a0 b):aG5 a0 b=some (true):=by obtain⟨rfl,c⟩:=h;unfold aG5;rw[pK (a:=a0) (by omega) (by grind[dU,AK.sz,bD,aD,aA,dZ,bne_self_eq_false,Bool.not_true,Bool.not_false,bd_s,nx_r]) (by simp)];simp
def aDz (a0:AO)(a:AO)(h:dZ (a0.sz) a0 a):Cu a0 a=some (true):=by
 grind[bne_self_eq_false,Bool.not_true,Bool.not_false,bd_s,nx_r,aA,dZ,AK.sz,AO.sz,Cu]
def D6 (a0:AJ)(a:AJ)(h:dZ (a0.sz) a0 a):vS a0 a=some (true):=by
 grind[bne_self_eq_false,Bool.not_true,Bool.not_false,bd_s,nx_r,aA,dZ,AJ.sz,vS]
def Xi (a0:List AJ)(b:List AJ)(h:dZ (a0.length+(a0.map AJ.sz).sum) a0 b):tQ a0 b=some (true):=by obtain⟨rfl,c⟩:=h;unfold tQ;rw[pK (a:=a0) (by omega) (by grind[dU,AJ.sz,bD,aD,aA,dZ,bne_self_eq_false,Bool.not_true,Bool.not_false,bd_s,nx_r]) (by simp)];simp
def bBb (a0:AP)(a:AP)(h:dZ (a0.sz) a0 a):V9 a0 a=some (true):=by
 grind[bne_self_eq_false,Bool.not_true,Bool.not_false,bd_s,nx_r,aA,dZ,AO.sz,AJ.sz,AP.sz,V9]
def aD0 (a0:AV)(a:AV)(h:dZ (0) a0 a):Cw a0 a=some (true):=by
 obtain⟨rfl,b⟩:=h
 grind[bne_self_eq_false,Bool.not_true,Bool.not_false,bd_s,nx_r,Cw]
def Y3 (a0:List AV)(b:List AV)(h:dZ (a0.length) a0 b):zJ a0 b=some (true):=by obtain⟨rfl,c⟩:=h;unfold zJ;rw[pK (a:=a0) (by omega) (by grind[bD,aD,aA,dZ,bne_self_eq_false,Bool.not_true,Bool.not_false,bd_s,nx_r]) (by simp)];simp
def aRf (a0:AH)(a:AH)(h:dZ (a0.sz) a0 a):Tz a0 a=some (true):=by
 grind[bne_self_eq_false,Bool.not_true,Bool.not_false,bd_s,nx_r,aA,dZ,AH.sz,Tz]
def aMh (a0:List AH)(b:List AH)(h:dZ (a0.length+(a0.map AH.sz).sum) a0 b):Nw a0 b=some (true):=by obtain⟨rfl,c⟩:=h;unfold Nw;rw[pK (a:=a0) (by omega) (by grind[dU,AH.sz,bD,aD,aA,dZ,bne_self_eq_false,Bool.not_true,Bool.not_false,bd_s,nx_r]) (by simp)];simp
def aIr (a0:AY)(a:AY)(h:dZ (0) a0 a):Ic a0 a=some (true):=by
 obtain⟨rfl,b⟩:=h
 grind[bne_self_eq_false,Bool.not_true,Bool.not_false,bd_s,nx_r,Ic]
def aD1 (a0:List AY)(b:List AY)(h:dZ (a0.length) a0 b):Cx a0 b=some (true):=by obtain⟨rfl,c⟩:=h;unfold Cx;rw[pK (a:=a0) (by omega) (by grind[bD,aD,aA,dZ,bne_self_eq_false,Bool.not_true,Bool.not_false,bd_s,nx_r]) (by simp)];simp
def Xj (a0:AM)(a:AM)(h:dZ (a0.sz) a0 a):tT a0 a=some (true):=by
 grind[bne_self_eq_false,Bool.not_true,Bool.not_false,bd_s,nx_r,aA,dZ,AM.sz,tT]
def bFa (a0:List Int)(b:List Int)(h:dZ (a0.length) a0 b):aG6 a0 b=some (true):=by obtain⟨rfl,c⟩:=h;unfold aG6;rw[pK (a:=a0) (by omega) (by grind[bD,aD,bne_self_eq_false,Bool.not_true,Bool.not_false,bd_s,nx_r]) (by simp)];simp
def bFb (a0:AB)(a:AB)(h:dZ (a0.sz) a0 a):aG7 a0 a=some (true):=by
 grind[bne_self_eq_false,Bool.not_true,Bool.not_false,bd_s,nx_r,aA,dZ,AH.sz,AM.sz,AB.sz,aG7]
def bBc (a0:List AB)(b:List AB)(h:dZ (a0.length+(a0.map AB.sz).sum) a0 b):W9 a0 b=some (true):=by obtain⟨rfl,c⟩:=h;unfold W9;rw[pK (a:=a0) (by omega) (by grind[dU,AB.sz,bD,aD,aA,dZ,bne_self_eq_false,Bool.not_true,Bool.not_false,bd_s,nx_r]) (by simp)];simp
def bBd (a0:A3)(a:A3)(h:dZ (0) a0 a):X3 a0 a=some (true):=by
 obtain⟨rfl,b⟩:=h
 grind[bne_self_eq_false,Bool.not_true,Bool.not_false,bd_s,nx_r,X3]
def bBe (a0:AX)(a:AX)(h:dZ (0) a0 a):X4 a0 a=some (true):=by
 obtain⟨rfl,b⟩:=h
 grind[bne_self_eq_false,Bool.not_true,Bool.not_false,bd_s,nx_r,X4]
def aV5 (a0:AZ)(a:AZ)(h:dZ (0) a0 a):Zr a0 a=some (true):=by
 grind[bne_self_eq_false,Bool.not_true,Bool.not_false,bd_s,nx_r,aA,dZ,Zr]
def aRg (a0:List AZ)(b:List AZ)(h:dZ (a0.length) a0 b):Ua a0 b=some (true):=by obtain⟨rfl,c⟩:=h;unfold Ua;rw[pK (a:=a0) (by omega) (by grind[bD,aD,aA,dZ,bne_self_eq_false,Bool.not_true,Bool.not_false,bd_s,nx_r]) (by simp)];simp
def aD2 (a0:AC)(a:AC)(h:dZ (a0.sz) a0 a):Cy a0 a=some (true):=by
 grind[bne_self_eq_false,Bool.not_true,Bool.not_false,bd_s,nx_r,aA,dZ,AZ.sz,AC.sz,AX.sz,Cy]
def Y4 (a0:List AC)(b:List AC)(h:dZ (a0.length+(a0.map AC.sz).sum) a0 b):zK a0 b=some (true):=by obtain⟨rfl,c⟩:=h;unfold zK;rw[pK (a:=a0) (by omega) (by grind[dU,AC.sz,bD,aD,aA,dZ,bne_self_eq_false,Bool.not_true,Bool.not_false,bd_s,nx_r]) (by simp)];simp
def aV6 (a0:AR)(a:AR)(h:dZ (0) a0 a):Zt a0 a=some (true):=by
 obtain⟨rfl,b⟩:=h
 grind[bne_self_eq_false,Bool.not_true,Bool.not_false,bd_s,nx_r,Zt]
def aRh (a0:List AR)(b:List AR)(h:dZ (a0.length) a0 b):Ub a0 b=some (true):=by obtain⟨rfl,c⟩:=h;unfold Ub;rw[pK (a:=a0) (by omega) (by grind[bD,aD,aA,dZ,bne_self_eq_false,Bool.not_true,Bool.not_false,bd_s,nx_r]) (by simp)];simp
def aRi (a0:AU)(a:AU)(h:dZ (a0.sz) a0 a):Uc a0 a=some (true):=by
 grind[bne_self_eq_false,Bool.not_true,Bool.not_false,bd_s,nx_r,aA,dZ,AU.sz,Uc]
def bBf (a0:AA)(a:AA)(h:dZ (a0.sz) a0 a):X5 a0 a=some (true):=by obtain⟨rfl,b⟩:=h;unfold X5;simp only[AP.sz,AO.sz,AU.sz,A3.sz,AA.sz] at b;simp only[fg,bh,ah,bc,ae,ac,bd_s,nx_r,aA (show dZ (a0.Devices.length+(a0.Devices.map AF.sz).sum) a0.Devices a0.Devices from⟨rfl,by omega⟩),aA (show dZ (a0.Stolen.length) a0.Stolen a0.Stolen from⟨rfl,by omega⟩),aA (show dZ (a0.aAH.sz) a0.aAH a0.aAH from⟨rfl,by simp only[AP.sz,AO.sz];omega⟩),aA (show dZ (a0.Sites.length+(a0.Sites.map AB.sz).sum) a0.Sites a0.Sites from⟨rfl,by omega⟩),aA (show dZ (0) a0.aAP a0.aAP from⟨rfl,by omega⟩),aA (show dZ (a0.Hosts.length+(a0.Hosts.map AC.sz).sum) a0.Hosts a0.Hosts from⟨rfl,by omega⟩),aA (show dZ (a0.Mail.sz) a0.Mail a0.Mail from⟨rfl,by simp only[AU.sz];omega⟩)]
def bBg (a0:AS)(a:AS)(h:dZ (0) a0 a):X6 a0 a=some (true):=by
 obtain⟨rfl,b⟩:=h
 grind[bne_self_eq_false,Bool.not_true,Bool.not_false,bd_s,nx_r,X6]
def aV7 (a0:List AS)(b:List AS)(h:dZ (a0.length) a0 b):Zu a0 b=some (true):=by obtain⟨rfl,c⟩:=h;unfold Zu;rw[pK (a:=a0) (by omega) (by grind[bD,aD,aA,dZ,bne_self_eq_false,Bool.not_true,Bool.not_false,bd_s,nx_r]) (by simp)];simp
end
end Go.VK
