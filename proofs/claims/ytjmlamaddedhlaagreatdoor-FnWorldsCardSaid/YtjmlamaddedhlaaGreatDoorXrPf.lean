import Derived.Test.YtjmlamaddedhlaaGreatDoorXrPe
import Derived.Test.YtjmlamaddedhlaaGreatDoorXrM
/- Printed by wip/tools: models, walks, proofs. -/
set_option linter.all false
set_option maxRecDepth 100000
set_option maxHeartbeats 4000000
namespace Go.VK
open Go.RowKit Go.Proofs
noncomputable section
open EV (bO)
def aPd {F:(Int×Int×Int->Option Int)->Int×Int×Int->Option Int}(hF:∀rec (b n s:Int),0<=n->n<9223372036854775807->F rec (b,n,s)=bif decide (n>0) then rec ((IntKind.i64.wrap (b*b)).tmod 2147483647,n/2,bif n%2==1 then(IntKind.i64.wrap (s*b)).tmod 2147483647 else s) else some s):
  ∀(k:Nat) (b n s:Int) (f:Nat),k<f->0<=n->n<2^k->k<=62->bO f F (b,n,s)=some (aXq k b n s)
 |0,b,n,s,f+1,hf,h0,h1,hk=>by
  have:n=0:=by simp at h1;omega
  subst this;rw[iT,hF _ _ _ _ (by omega) (by omega)];rfl
 |k+1,b,n,s,f+1,hf,h0,h1,hk=>by
  have h2:(2:Int)^(k+1)=2*2^k:=by rw[eM];omega
  have h3:n<2^62:=Int.lt_of_lt_of_le h1 (by exact_mod_cast gz (by omega) hk)
  rw[iT,hF _ _ _ _ h0 (by omega)]
  unfold aXq
  by_cases hn:n>0
  ·rw[ap hn,ae,cr hn]
   exact aPd hF k _ (n/2) _ f (by omega) (by omega) (by omega) (by omega)
  ·rw[aq hn,ac,cJ hn]
def aH1 (b n:Int)(h:0<=n/\n<2147483648):mX b n=some (aXq 31 b n 1):=by
 unfold mX
 rw[aPd (λrec b n s h0 h1=>by simp only[show kR .i64 n 1=n%2 from and_one h0 (by omega),show yB .i64 n 1=n/2 from aVl h0,aHp,gd_T,iK,bd_s,aA (show(0:Int)<=1 by decide)]) 31 b n 1 FUEL (by have:=fP;omega) h.1 (by have:=h.2;omega) (by omega)];rfl
def aKx (b n:Int)(h:0<=n/\n<2147483648)(hb:0<=b/\b<2147483647):iD b n 2147483647=some (aXq 31 b n 1):=by
 unfold iD
 rw[show b.tmod 2147483647=b by rw[cb hb.1];omega,show(1:Int).tmod 2147483647=1 by decide,aPd (λrec b n s h0 h1=>by
  have h4:((2:Int)≠0)=True:=by simp
  simp only[show n.tmod 2=n%2 from cb h0,show n.tdiv 2=n/2 from gh h0,show IntKind.i64.wrap (n/2)=n/2 from aH (by omega) (by omega),aHp,h4,gd_T,iK,bd_s]) 31 b n 1 FUEL (by have:=fP;omega) h.1 (by have:=h.2;omega) (by omega)]
 simp only[aHp,gd_T,bd_s]
def Zc (q:Int):wZ q=some (dL q):=by
 unfold wZ dL
 rw[aH1 _ _ (by decide),aVm,show bE q 1 2147483646=bB q from rfl]
 cases hk:bB q with
 |false=>rfl
 |true=>
  have hr:=gX hk
  have hw:IntKind.i64.wrap (q*1899818559)=q*1899818559:=aH (by omega) (by omega)
  simp only[bl,ac,bd_s,hw,aHp,gd_T,cb (show 0<=q*1899818559 by omega)]
  have hp:bP (q*1899818559%2147483647)=q:=by
   unfold bP bB bE
   have h1:1<=q*1899818559%2147483647:=by omega
   have h2:q*1899818559%2147483647<=2147483646:=by omega
   have hw2:IntKind.i64.wrap (q*1899818559%2147483647*48271)=q*1899818559%2147483647*48271:=aH (by omega) (by omega)
   simp only[h1,h2,decide_true,dl,bl,ac,hw2]
   rw[cb (by omega)]
   omega
  rw[hp,co];rfl
def Zd (q:Int):wI q=some (dL q):=by
 unfold wI dL
 rw[aKx _ _ (by decide) (by decide),aVm]
 cases hk:bB q with
 |false=>rfl
 |true=>
  have hr:=gX hk
  have hw:IntKind.i64.wrap (q*1899818559)=q*1899818559:=aH (by omega) (by omega)
  simp only[bl,ac,bd_s,hw,aHp,gd_T,cb (show 0<=q*1899818559 by omega)]
def Rz (p:Int)(l:List Int)(h:l.length<=34359738300):uH p l=some (vV p l):=by
 unfold uH vV
 rw[aA (by simp[aS];omega),aA (by simp;omega)]
 cases bB p<;>rfl
def Sa (p:Int)(l:List Int)(h:l.length<=34359738300):tH p l=some (vV p l):=by
 unfold tH vV
 rw[aA (by unfold sU;simp;omega),bd_s,aA (by simp[mK];omega)]
 cases bB p<;>simp[mK]
def Ci (q:Int)(l:List Int)(g:Int)(h:l.length<=34359738300):mY q l g=some (fQ q l g):=by
 unfold mY fQ
 simp only[aA h,bd_s,iK]
 cases(dL q !=0)<;>rfl
def Cj (q:Int)(l:List Int)(g:Int)(h:l.length<=34359738300):mW q l g=some (fQ q l g):=by
 unfold mW fQ
 simp only[aA h,bd_s,iK]
 cases(dL q !=0)<;>rfl
def aNo (b:D.aAE)(h:b.Open.length<=34359738368){τ:Type}(rec:Nat->Option τ)(r:Option τ)(i:Nat)(hi:i<b.Open.length):(bd (bif (!bE b.Open[i].Id (0:Int) (IntKind.i64.wrap (b.Next-(1:Int)))) then(some (true)) else(bif (decide ((↑i:Int)>(0:Int))) then(bd (aZ (b.Open) (IntKind.i64.wrap ((↑i:Int)-(1:Int)))) λz4=>bif (decide (z4.Id>=b.Open[i].Id)) then(some (true)) else(bif (!bE b.Open[i].aAG (0:Int) (1000005:Int)) then(some (true)) else(some (!bE b.Open[i].Until (0:Int) (1000005:Int))))) else(bif (!bE b.Open[i].aAG (0:Int) (1000005:Int)) then(some (true)) else(some (!bE b.Open[i].Until (0:Int) (1000005:Int)))))) λz3=>bif z3 then r else(rec (i+1)))=bif fT b i b.Open[i] then r else rec (i+1):=by
 unfold fT
 by_cases h0:0<i
 ·rw[Hm h0 hi h,bd_s,show decide ((i:Int)>0)=true by simpa using h0,ap h0]
  cases bE b.Open[i].Id 0 (IntKind.i64.wrap (b.Next-1))<;>cases decide ((b.Open.getD (i-1) default).Id>=b.Open[i].Id)<;>cases bE b.Open[i].aAG 0 1000005<;>cases bE b.Open[i].Until 0 1000005<;>rfl
 ·rw[show decide ((i:Int)>0)=false by simpa using h0,aq h0]
  cases bE b.Open[i].Id 0 (IntKind.i64.wrap (b.Next-1))<;>cases bE b.Open[i].aAG 0 1000005<;>cases bE b.Open[i].Until 0 1000005<;>rfl
def Sb (b:D.aAE)(h:b.sz<=34359738368):uK b=some (gP b):=by
 simp only[D.aAE.sz] at h
 unfold uK gP
 rw[iR (l:=b.Open) (fT b) (.inl false) (.inr ()) (by omega) (λrec i hi=>by
  simp only[bY hi,ae,aK hi,bd_s];exact aNo b h rec _ i hi) (λrec=>by simp only[cB,ac])]
 rw[show decide ((b.Open.length:Int)<=16)=decide (b.Open.length<=16) from cu.2 (by omega)]
 cases bE b.Next 0 1000000<;>cases decide (b.Open.length<=16)<;>cases fD (fT b) 0 b.Open<;>rfl
def Sc (b:D.aAE)(h:b.sz<=34359738368):tO b=some (gP b):=by
 simp only[D.aAE.sz] at h
 unfold tO gP
 rw[iR (l:=b.Open) (fT b) (.inl false) (.inr ()) (by omega) (λrec i hi=>by
  simp only[bY hi,ae,aK hi,bd_s];exact aNo b h rec _ i hi) (λrec=>by simp only[cB,ac])]
 rw[show decide ((b.Open.length:Int)>16)= !decide (b.Open.length<=16) by rw[<-decide_not];exact cu.2 (by omega)]
 cases bE b.Next 0 1000000<;>cases decide (b.Open.length<=16)<;>cases fD (fT b) 0 b.Open<;>rfl
def aYi (m:D.aAM)(h:m.Notices.length<=34359738368){τ:Type}(rec:Nat->Option τ)(r:Option τ)(i:Nat)(hi:i<m.Notices.length):(bd (bif (!bE m.Notices[i].Kind (1:Int) (5:Int)) then(some (true)) else(bif (!bE m.Notices[i].aAG (0:Int) (1000000:Int)) then(some (true)) else(bif (!bE m.Notices[i].Time (0:Int) (1000000:Int)) then(some (true)) else(bif (decide ((↑i:Int)>(0:Int))) then(bd (aZ (m.Notices) (IntKind.i64.wrap ((↑i:Int)-(1:Int)))) λz4=>some (decide (z4.Time>m.Notices[i].Time))) else(some (false)))))) λz3=>bif z3 then r else(rec (i+1)))=bif yT m.Notices i m.Notices[i] then r else rec (i+1):=by
 unfold yT
 by_cases h0:0<i
 ·rw[Hm h0 hi h,bd_s,show decide ((i:Int)>0)=true by simpa using h0,ap h0]
  cases bE m.Notices[i].Kind 1 5<;>cases bE m.Notices[i].aAG 0 1000000<;>cases bE m.Notices[i].Time 0 1000000<;>cases decide ((m.Notices.getD (i-1) default).Time>m.Notices[i].Time)<;>rfl
 ·rw[show decide ((i:Int)>0)=false by simpa using h0,aq h0]
  cases bE m.Notices[i].Kind 1 5<;>cases bE m.Notices[i].aAG 0 1000000<;>cases bE m.Notices[i].Time 0 1000000<;>rfl
def Fa (m:D.aAM)(h:m.sz<=34359738368):nS m=some (rT m):=by
 simp only[D.aAM.sz] at h
 unfold nS rT
 rw[iR (l:=m.Notices) (yT m.Notices) (.inl false) (.inr ()) (by omega) (λrec i hi=>by
  simp only[bY hi,ae,aK hi,bd_s];exact aYi m h rec _ i hi) (λrec=>by simp only[cB,ac])]
 rw[show decide ((m.Notices.length:Int)>30)= !decide (m.Notices.length<=30) by rw[<-decide_not];exact cu.2 (by omega)]
 cases decide (m.Notices.length<=30)<;>cases fD (yT m.Notices) 0 m.Notices<;>rfl
def aDk (i:Int):Ec i=some (aC i):=by
 unfold Ec aC;cases i==0<;>cases i==1<;>rfl
def aDl (i:Int):Dl i=some (aC i):=by
 unfold Dl aC;cases i==0<;>cases i==1<;>rfl
def X7 (e:D.aAB):zZ e=some (bJ e):=by unfold zZ;rw[aA (by simp)];rfl
def X8 (e:D.aAB):zG e=some (bJ e):=by unfold zG;rw[aA (by simp)];rfl
def aH2 (l:List D.aAB)(h:l.length<=34359738368):Ja l=some (eG l):=by
 unfold Ja eG
 cases hl:((l.length:Int)==0) with
 |true=>rfl
 |false=>
  have:l.length≠0:=by intro h0;rw[h0] at hl;simp at hl
  rw[aH (by omega) (by omega),show(l.length:Int)-1=((l.length-1:Nat):Int) by omega,aK (by omega)]
  simp[List.getD,ab (show l.length-1<l.length by omega)]
def aH3 (l:List D.aAB)(h:l.length<=34359738368):Im l=some (eG l):=by
 unfold Im eG
 cases hl:((l.length:Int)==0) with
 |true=>rfl
 |false=>
  have:l.length≠0:=by intro h0;rw[h0] at hl;simp at hl
  rw[aH (by omega) (by omega),show(l.length:Int)-1=((l.length-1:Nat):Int) by omega,aK (by omega)]
  simp[List.getD,ab (show l.length-1<l.length by omega)]
def Ze (l:List D.aAB)(p:Int)(h:l.length<=34359738368):wH l p=some (gF l p):=by
 unfold wH
 rw[jV (l:=l) (λe=>e.Kind==2&&e.Device==p) (.inl true) (.inr ()) (by omega) (λrec i hi=>by
  simp only[bY hi,ae,aK hi,bd_s,iK];cases(l[i].Kind==2)<;>rfl) (λrec=>by simp only[cB,ac])]
 unfold gF;cases l.any _<;>rfl
end
end Go.VK
