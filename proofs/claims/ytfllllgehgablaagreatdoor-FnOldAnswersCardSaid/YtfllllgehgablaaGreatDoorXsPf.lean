import Derived.Test.YtfllllgehgablaaGreatDoorXsPe
import Derived.Test.YtfllllgehgablaaGreatDoorXsM
/- Printed by wip/tools: models, walks, proofs. -/
set_option linter.all false
set_option maxRecDepth 100000
set_option maxHeartbeats 4000000
namespace Go.VK
open Go.RowKit Go.Proofs
noncomputable section
open EV (bU)
def aR7 {F:(Int×Int×Int->Option Int)->Int×Int×Int->Option Int}(hF:∀rec (b n s:Int),0<=n->n<9223372036854775807->F rec (b,n,s)=bif decide (n>0) then rec ((IntKind.i64.wrap (b*b)).tmod 2147483647,n/2,bif n%2==1 then(IntKind.i64.wrap (s*b)).tmod 2147483647 else s) else some s):
  ∀(k:Nat) (b n s:Int) (f:Nat),k<f->0<=n->n<2^k->k<=62->bU f F (b,n,s)=some (bBf k b n s)
 |0,b,n,s,f+1,hf,h0,h1,hk=>by
  have:n=0:=by simp at h1;omega
  subst this;rw[gX,hF _ _ _ _ (by omega) (by omega)];rfl
 |k+1,b,n,s,f+1,hf,h0,h1,hk=>by
  have h2:(2:Int)^(k+1)=2*2^k:=by rw[e8];omega
  have h3:n<2^62:=Int.lt_of_lt_of_le h1 (by exact_mod_cast hH (by omega) hk)
  rw[gX,hF _ _ _ _ h0 (by omega)]
  unfold bBf
  by_cases hn:n>0
  ·rw[ao hn,ae,cH hn]
   exact aR7 hF k _ (n/2) _ f (by omega) (by omega) (by omega) (by omega)
  ·rw[au hn,ab,cX hn]
def aJs (b n:Int)(h:0<=n/\n<2147483648):pJ b n=some (bBf 31 b n 1):=by
 unfold pJ
 rw[aR7 (λrec b n s h0 h1=>by simp only[show mF .i64 n 1=n%2 from and_one h0 (by omega),show Bf .i64 n 1=n/2 from aZc h0,aJd,gd_T,lF,bd_s,aB (show(0:Int)<=1 by decide)]) 31 b n 1 FUEL (by have:=fO;omega) h.1 (by have:=h.2;omega) (by omega)];rfl
def aMu (b n:Int)(h:0<=n/\n<2147483648)(hb:0<=b/\b<2147483647):vK b n 2147483647=some (bBf 31 b n 1):=by
 unfold vK
 rw[show b.tmod 2147483647=b by rw[cp hb.1];omega,show(1:Int).tmod 2147483647=1 by decide,aR7 (λrec b n s h0 h1=>by
  have h4:((2:Int)≠0)=True:=by simp
  simp only[show n.tmod 2=n%2 from cp h0,show n.tdiv 2=n/2 from Int.tdiv_eq_ediv_of_nonneg h0,show IntKind.i64.wrap (n/2)=n/2 from aI (by omega) (by omega),aJd,h4,gd_T,lF,bd_s]) 31 b n 1 FUEL (by have:=fO;omega) h.1 (by have:=h.2;omega) (by omega)]
 simp only[aJd,gd_T,bd_s]
def L9 (q:Int):zG q=some (eP q):=by
 unfold zG eP
 rw[aJs _ _ (by decide),aZd,show bI q 1 2147483646=bG q from rfl]
 cases hk:bG q with
 |false=>rfl
 |true=>
  have hr:=jS hk
  have hw:IntKind.i64.wrap (q*1899818559)=q*1899818559:=aI (by omega) (by omega)
  simp only[bf,ab,bd_s,hw,aJd,gd_T,cp (show 0<=q*1899818559 by omega)]
  have hp:cB (q*1899818559%2147483647)=q:=by
   unfold cB bG bI
   have h1:1<=q*1899818559%2147483647:=by omega
   have h2:q*1899818559%2147483647<=2147483646:=by omega
   have hw2:IntKind.i64.wrap (q*1899818559%2147483647*48271)=q*1899818559%2147483647*48271:=aI (by omega) (by omega)
   simp only[h1,h2,decide_true,dw,bf,ab,hw2]
   rw[cp (by omega)]
   omega
  rw[hp,cC];rfl
def M0 (q:Int):Ab q=some (eP q):=by
 unfold Ab eP
 rw[aMu _ _ (by decide) (by decide),aZd]
 cases hk:bG q with
 |false=>rfl
 |true=>
  have hr:=jS hk
  have hw:IntKind.i64.wrap (q*1899818559)=q*1899818559:=aI (by omega) (by omega)
  simp only[bf,ab,bd_s,hw,aJd,gd_T,cp (show 0<=q*1899818559 by omega)]
def Wh (p:Int)(l:List Int)(h:l.length<=34359738300):wP p l=some (yZ p l):=by
 unfold wP yZ
 rw[aB (by simp[aW];omega),aB (by simp;omega)]
 cases bG p<;>rfl
def Wi (p:Int)(l:List Int)(h:l.length<=34359738300):xP p l=some (yZ p l):=by
 unfold xP yZ
 rw[aB (by unfold wG;simp;omega),bd_s,aB (by simp[oQ];omega)]
 cases bG p<;>simp[oQ]
def Gi (q:Int)(l:List Int)(g:Int)(h:l.length<=34359738300):pK q l g=some (gB q l g):=by
 unfold pK gB
 simp only[aB h,bd_s,lF]
 cases(eP q !=0)<;>rfl
def Gj (q:Int)(l:List Int)(g:Int)(h:l.length<=34359738300):pO q l g=some (gB q l g):=by
 unfold pO gB
 simp only[aB h,bd_s,lF]
 cases(eP q !=0)<;>rfl
def aQa (b:D.aAD)(h:b.Open.length<=34359738368){τ:Type}(rec:Nat->Option τ)(r:Option τ)(i:Nat)(hi:i<b.Open.length):(bd (bif (!bI b.Open[i].Id (0:Int) (IntKind.i64.wrap (b.Next-(1:Int)))) then(some (true)) else(bif (decide ((↑i:Int)>(0:Int))) then(bd (bA (b.Open) (IntKind.i64.wrap ((↑i:Int)-(1:Int)))) λz4=>bif (decide (z4.Id>=b.Open[i].Id)) then(some (true)) else(bif (!bI b.Open[i].aAH (0:Int) (1000005:Int)) then(some (true)) else(some (!bI b.Open[i].Until (0:Int) (1000005:Int))))) else(bif (!bI b.Open[i].aAH (0:Int) (1000005:Int)) then(some (true)) else(some (!bI b.Open[i].Until (0:Int) (1000005:Int)))))) λz3=>bif z3 then r else(rec (i+1)))=bif gD b i b.Open[i] then r else rec (i+1):=by
 unfold gD
 by_cases h0:0<i
 ·rw[Lh h0 hi h,bd_s,show decide ((i:Int)>0)=true by simpa using h0,ao h0]
  cases bI b.Open[i].Id 0 (IntKind.i64.wrap (b.Next-1))<;>cases decide ((b.Open.getD (i-1) default).Id>=b.Open[i].Id)<;>cases bI b.Open[i].aAH 0 1000005<;>cases bI b.Open[i].Until 0 1000005<;>rfl
 ·rw[show decide ((i:Int)>0)=false by simpa using h0,au h0]
  cases bI b.Open[i].Id 0 (IntKind.i64.wrap (b.Next-1))<;>cases bI b.Open[i].aAH 0 1000005<;>cases bI b.Open[i].Until 0 1000005<;>rfl
def Wj (b:D.aAD)(h:b.sz<=34359738368):wU b=some (dW b):=by
 simp only[D.aAD.sz] at h
 unfold wU dW
 rw[iH (l:=b.Open) (gD b) (.inl false) (.inr ()) (by omega) (λrec i hi=>by
  simp only[dL hi,ae,aM hi,bd_s];exact aQa b h rec _ i hi) (λrec=>by simp only[dP,ab])]
 rw[show decide ((b.Open.length:Int)<=16)=decide (b.Open.length<=16) from cD.2 (by omega)]
 cases bI b.Next 0 1000000<;>cases decide (b.Open.length<=16)<;>cases gL (gD b) 0 b.Open<;>rfl
def Wl (b:D.aAD)(h:b.sz<=34359738368):xN b=some (dW b):=by
 simp only[D.aAD.sz] at h
 unfold xN dW
 rw[iH (l:=b.Open) (gD b) (.inl false) (.inr ()) (by omega) (λrec i hi=>by
  simp only[dL hi,ae,aM hi,bd_s];exact aQa b h rec _ i hi) (λrec=>by simp only[dP,ab])]
 rw[show decide ((b.Open.length:Int)>16)= !decide (b.Open.length<=16) by rw[<-decide_not];exact cD.2 (by omega)]
 cases bI b.Next 0 1000000<;>cases decide (b.Open.length<=16)<;>cases gL (gD b) 0 b.Open<;>rfl
def aQb (m:D.aAJ)(h:m.Notices.length<=34359738368){τ:Type}(rec:Nat->Option τ)(r:Option τ)(i:Nat)(hi:i<m.Notices.length):(bd (bif (!bI m.Notices[i].Kind (1:Int) (5:Int)) then(some (true)) else(bif (!bI m.Notices[i].aAH (0:Int) (1000000:Int)) then(some (true)) else(bif (!bI m.Notices[i].Time (0:Int) (1000000:Int)) then(some (true)) else(bif (decide ((↑i:Int)>(0:Int))) then(bd (bA (m.Notices) (IntKind.i64.wrap ((↑i:Int)-(1:Int)))) λz4=>some (decide (z4.Time>m.Notices[i].Time))) else(some (false)))))) λz3=>bif z3 then r else(rec (i+1)))=bif rD m.Notices i m.Notices[i] then r else rec (i+1):=by
 unfold rD
 by_cases h0:0<i
 ·rw[Lh h0 hi h,bd_s,show decide ((i:Int)>0)=true by simpa using h0,ao h0]
  cases bI m.Notices[i].Kind 1 5<;>cases bI m.Notices[i].aAH 0 1000000<;>cases bI m.Notices[i].Time 0 1000000<;>cases decide ((m.Notices.getD (i-1) default).Time>m.Notices[i].Time)<;>rfl
 ·rw[show decide ((i:Int)>0)=false by simpa using h0,au h0]
  cases bI m.Notices[i].Kind 1 5<;>cases bI m.Notices[i].aAH 0 1000000<;>cases bI m.Notices[i].Time 0 1000000<;>rfl
def Ja (m:D.aAJ)(h:m.sz<=34359738368):qK m=some (dV m):=by
 simp only[D.aAJ.sz] at h
 unfold qK dV
 rw[iH (l:=m.Notices) (rD m.Notices) (.inl false) (.inr ()) (by omega) (λrec i hi=>by
  simp only[dL hi,ae,aM hi,bd_s];exact aQb m h rec _ i hi) (λrec=>by simp only[dP,ab])]
 rw[show decide ((m.Notices.length:Int)<=30)=decide (m.Notices.length<=30) from cD.2 (by omega)]
 cases decide (m.Notices.length<=30)<;>cases gL (rD m.Notices) 0 m.Notices<;>rfl
def Jb (m:D.aAJ)(h:m.sz<=34359738368):qQ m=some (dV m):=by
 simp only[D.aAJ.sz] at h
 unfold qQ dV
 rw[iH (l:=m.Notices) (rD m.Notices) (.inl false) (.inr ()) (by omega) (λrec i hi=>by
  simp only[dL hi,ae,aM hi,bd_s];exact aQb m h rec _ i hi) (λrec=>by simp only[dP,ab])]
 rw[show decide ((m.Notices.length:Int)>30)= !decide (m.Notices.length<=30) by rw[<-decide_not];exact cD.2 (by omega)]
 cases decide (m.Notices.length<=30)<;>cases gL (rD m.Notices) 0 m.Notices<;>rfl
def aE8 (i:Int):Ho i=some (aA i):=by
 unfold Ho aA;cases i==0<;>cases i==1<;>rfl
def aE9 (i:Int):Ik i=some (aA i):=by
 unfold Ik aA;cases i==0<;>cases i==1<;>rfl
def aBs (e:D.aAC):Cw e=some (bY e):=by unfold Cw;rw[aB (by simp)];rfl
def aBt (e:D.aAC):Du e=some (bY e):=by unfold Du;rw[aB (by simp)];rfl
def aJt (l:List D.aAC)(h:l.length<=34359738368):Mf l=some (fQ l):=by
 unfold Mf fQ
 cases hl:((l.length:Int)==0) with
 |true=>rfl
 |false=>
  have:l.length≠0:=by intro h0;rw[h0] at hl;simp at hl
  rw[aI (by omega) (by omega),show(l.length:Int)-1=((l.length-1:Nat):Int) by omega,aM (by omega)]
  simp[List.getD,ac (show l.length-1<l.length by omega)]
def aJu (l:List D.aAC)(h:l.length<=34359738368):Nr l=some (fQ l):=by
 unfold Nr fQ
 cases hl:((l.length:Int)==0) with
 |true=>rfl
 |false=>
  have:l.length≠0:=by intro h0;rw[h0] at hl;simp at hl
  rw[aI (by omega) (by omega),show(l.length:Int)-1=((l.length-1:Nat):Int) by omega,aM (by omega)]
  simp[List.getD,ac (show l.length-1<l.length by omega)]
def M3 (l:List D.aAC)(p:Int)(h:l.length<=34359738368):Ac l p=some (iJ l p):=by
 unfold Ac
 rw[mJ (l:=l) (λe=>e.Kind==2&&e.Device==p) (.inl true) (.inr ()) (by omega) (λrec i hi=>by
  simp only[dL hi,ae,aM hi,bd_s,lF];cases(l[i].Kind==2)<;>rfl) (λrec=>by simp only[dP,ab])]
 unfold iJ;cases l.any _<;>rfl
end
end Go.VK
