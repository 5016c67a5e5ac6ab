import Derived.Test.YtlnjelnfjgjanaaGreatDoorXqPe
import Derived.Test.YtlnjelnfjgjanaaGreatDoorXqM
/- Printed by wip/tools: models, walks, proofs. -/
set_option linter.all false
set_option maxRecDepth 100000
set_option maxHeartbeats 4000000
namespace Go.VK
open Go.RowKit Go.Proofs
noncomputable section
open EV (cB)
def aQ4 {F:(Int×Int×Int->Option Int)->Int×Int×Int->Option Int}(hF:∀rec (b n s:Int),0<=n->n<9223372036854775807->F rec (b,n,s)=bif decide (n>0) then rec ((IntKind.i64.wrap (b*b)).tmod 2147483647,n/2,bif n%2==1 then(IntKind.i64.wrap (s*b)).tmod 2147483647 else s) else some s):
  ∀(k:Nat) (b n s:Int) (f:Nat),k<f->0<=n->n<2^k->k<=62->cB f F (b,n,s)=some (aZ9 k b n s)
 |0,b,n,s,f+1,hf,h0,h1,hk=>by
  have:n=0:=by simp at h1;omega
  subst this;rw[iP,hF _ _ _ _ (by omega) (by omega)];rfl
 |k+1,b,n,s,f+1,hf,h0,h1,hk=>by
  have h2:(2:Int)^(k+1)=2*2^k:=by rw[eW];omega
  have h3:n<2^62:=Int.lt_of_lt_of_le h1 (by exact_mod_cast ib (by omega) hk)
  rw[iP,hF _ _ _ _ h0 (by omega)]
  unfold aZ9
  by_cases hn:n>0
  ·rw[ao hn,ac,cz hn]
   exact aQ4 hF k _ (n/2) _ f (by omega) (by omega) (by omega) (by omega)
  ·rw[ap hn,ab,cR hn]
def aI8 (b n:Int)(h:0<=n/\n<2147483648):pO b n=some (aZ9 31 b n 1):=by
 unfold pO
 rw[aQ4 (λrec b n s h0 h1=>by simp only[show sF .i64 n 1=n%2 from and_one h0 (by omega),show Kj .i64 n 1=n/2 from aXx h0,aIs,gd_T,kZ,bd_s,aB (show(0:Int)<=1 by decide)]) 31 b n 1 FUEL (by have:=gL;omega) h.1 (by have:=h.2;omega) (by omega)];rfl
def aL9 (b n:Int)(h:0<=n/\n<2147483648)(hb:0<=b/\b<2147483647):vR b n 2147483647=some (aZ9 31 b n 1):=by
 unfold vR
 rw[show b.tmod 2147483647=b by rw[co hb.1];omega,show(1:Int).tmod 2147483647=1 by decide,aQ4 (λrec b n s h0 h1=>by
  have h4:((2:Int)≠0)=True:=by simp
  simp only[show n.tmod 2=n%2 from co h0,show n.tdiv 2=n/2 from jv h0,show IntKind.i64.wrap (n/2)=n/2 from aJ (by omega) (by omega),aIs,h4,gd_T,kZ,bd_s]) 31 b n 1 FUEL (by have:=gL;omega) h.1 (by have:=h.2;omega) (by omega)]
 simp only[aIs,gd_T,bd_s]
def K3 (q:Int):zB q=some (eG q):=by
 unfold zB eG
 rw[aI8 _ _ (by decide),aXy,show bH q 1 2147483646=bG q from rfl]
 cases hk:bG q with
 |false=>rfl
 |true=>
  have hr:=iE hk
  have hw:IntKind.i64.wrap (q*1899818559)=q*1899818559:=aJ (by omega) (by omega)
  simp only[ay,ab,bd_s,hw,aIs,gd_T,co (show 0<=q*1899818559 by omega)]
  have hp:bU (q*1899818559%2147483647)=q:=by
   unfold bU bG bH
   have h1:1<=q*1899818559%2147483647:=by omega
   have h2:q*1899818559%2147483647<=2147483646:=by omega
   have hw2:IntKind.i64.wrap (q*1899818559%2147483647*48271)=q*1899818559%2147483647*48271:=aJ (by omega) (by omega)
   simp only[h1,h2,decide_true,dt,ay,ab,hw2]
   rw[co (by omega)]
   omega
  rw[hp,dT];rfl
def K4 (q:Int):zP q=some (eG q):=by
 unfold zP eG
 rw[aL9 _ _ (by decide) (by decide),aXy]
 cases hk:bG q with
 |false=>rfl
 |true=>
  have hr:=iE hk
  have hw:IntKind.i64.wrap (q*1899818559)=q*1899818559:=aJ (by omega) (by omega)
  simp only[ay,ab,bd_s,hw,aIs,gd_T,co (show 0<=q*1899818559 by omega)]
def Ws (p:Int)(l:List Int)(h:l.length<=34359738300):wP p l=some (nW p l):=by
 unfold wP nW
 rw[aB (by simp[aS];omega),aB (by simp;omega)]
 cases bG p<;>rfl
def Wt (p:Int)(l:List Int)(h:l.length<=34359738300):xK p l=some (nW p l):=by
 unfold xK nW
 rw[aB (by unfold nX;simp;omega),bd_s,aB (by simp[kI];omega)]
 cases bG p<;>simp[kI]
def Gc (q:Int)(l:List Int)(g:Int)(h:l.length<=34359738300):pQ q l g=some (eF q l g):=by
 unfold pQ eF
 simp only[aB h,bd_s,kZ]
 cases(eG q !=0)<;>rfl
def Gd (q:Int)(l:List Int)(g:Int)(h:l.length<=34359738300):pU q l g=some (eF q l g):=by
 unfold pU eF
 simp only[aB h,bd_s,kZ]
 cases(eG q !=0)<;>rfl
def aPd (b:D.aAB)(h:b.Open.length<=34359738368){τ:Type}(rec:Nat->Option τ)(r:Option τ)(i:Nat)(hi:i<b.Open.length):(bd (bif (!bH b.Open[i].Id (0:Int) (IntKind.i64.wrap (b.Next-(1:Int)))) then(some (true)) else(bif (decide ((↑i:Int)>(0:Int))) then(bd (bD (b.Open) (IntKind.i64.wrap ((↑i:Int)-(1:Int)))) λz4=>bif (decide (z4.Id>=b.Open[i].Id)) then(some (true)) else(bif (!bH b.Open[i].Account (0:Int) (1000005:Int)) then(some (true)) else(some (!bH b.Open[i].Until (0:Int) (1000005:Int))))) else(bif (!bH b.Open[i].Account (0:Int) (1000005:Int)) then(some (true)) else(some (!bH b.Open[i].Until (0:Int) (1000005:Int)))))) λz3=>bif z3 then r else(rec (i+1)))=bif fI b i b.Open[i] then r else rec (i+1):=by
 unfold fI
 by_cases h0:0<i
 ·rw[Lb h0 hi h,bd_s,show decide ((i:Int)>0)=true by simpa using h0,ao h0]
  cases bH b.Open[i].Id 0 (IntKind.i64.wrap (b.Next-1))<;>cases decide ((b.Open.getD (i-1) default).Id>=b.Open[i].Id)<;>cases bH b.Open[i].Account 0 1000005<;>cases bH b.Open[i].Until 0 1000005<;>rfl
 ·rw[show decide ((i:Int)>0)=false by simpa using h0,ap h0]
  cases bH b.Open[i].Id 0 (IntKind.i64.wrap (b.Next-1))<;>cases bH b.Open[i].Account 0 1000005<;>cases bH b.Open[i].Until 0 1000005<;>rfl
def Wu (b:D.aAB)(h:b.sz<=34359738368):wT b=some (dN b):=by
 simp only[D.aAB.sz] at h
 unfold wT dN
 rw[iG (l:=b.Open) (fI b) (.inl false) (.inr ()) (by omega) (λrec i hi=>by
  simp only[dB hi,ac,aN hi,bd_s];exact aPd b h rec _ i hi) (λrec=>by simp only[dF,ab])]
 rw[show decide ((b.Open.length:Int)<=16)=decide (b.Open.length<=16) from cw.2 (by omega)]
 cases bH b.Next 0 1000000<;>cases decide (b.Open.length<=16)<;>cases gW (fI b) 0 b.Open<;>rfl
def Wv (b:D.aAB)(h:b.sz<=34359738368):xI b=some (dN b):=by
 simp only[D.aAB.sz] at h
 unfold xI dN
 rw[iG (l:=b.Open) (fI b) (.inl false) (.inr ()) (by omega) (λrec i hi=>by
  simp only[dB hi,ac,aN hi,bd_s];exact aPd b h rec _ i hi) (λrec=>by simp only[dF,ab])]
 rw[show decide ((b.Open.length:Int)>16)= !decide (b.Open.length<=16) by rw[<-decide_not];exact cw.2 (by omega)]
 cases bH b.Next 0 1000000<;>cases decide (b.Open.length<=16)<;>cases gW (fI b) 0 b.Open<;>rfl
def aPe (m:D.aAM)(h:m.Notices.length<=34359738368){τ:Type}(rec:Nat->Option τ)(r:Option τ)(i:Nat)(hi:i<m.Notices.length):(bd (bif (!bH m.Notices[i].Kind (1:Int) (5:Int)) then(some (true)) else(bif (!bH m.Notices[i].Account (0:Int) (1000000:Int)) then(some (true)) else(bif (!bH m.Notices[i].Time (0:Int) (1000000:Int)) then(some (true)) else(bif (decide ((↑i:Int)>(0:Int))) then(bd (bD (m.Notices) (IntKind.i64.wrap ((↑i:Int)-(1:Int)))) λz4=>some (decide (z4.Time>m.Notices[i].Time))) else(some (false)))))) λz3=>bif z3 then r else(rec (i+1)))=bif qZ m.Notices i m.Notices[i] then r else rec (i+1):=by
 unfold qZ
 by_cases h0:0<i
 ·rw[Lb h0 hi h,bd_s,show decide ((i:Int)>0)=true by simpa using h0,ao h0]
  cases bH m.Notices[i].Kind 1 5<;>cases bH m.Notices[i].Account 0 1000000<;>cases bH m.Notices[i].Time 0 1000000<;>cases decide ((m.Notices.getD (i-1) default).Time>m.Notices[i].Time)<;>rfl
 ·rw[show decide ((i:Int)>0)=false by simpa using h0,ap h0]
  cases bH m.Notices[i].Kind 1 5<;>cases bH m.Notices[i].Account 0 1000000<;>cases bH m.Notices[i].Time 0 1000000<;>rfl
def Iu (m:D.aAM)(h:m.sz<=34359738368):qI m=some (gF m):=by
 simp only[D.aAM.sz] at h
 unfold qI gF
 rw[iG (l:=m.Notices) (qZ m.Notices) (.inl false) (.inr ()) (by omega) (λrec i hi=>by
  simp only[dB hi,ac,aN hi,bd_s];exact aPe m h rec _ i hi) (λrec=>by simp only[dF,ab])]
 rw[show decide ((m.Notices.length:Int)<=30)=decide (m.Notices.length<=30) from cw.2 (by omega)]
 cases decide (m.Notices.length<=30)<;>cases gW (qZ m.Notices) 0 m.Notices<;>rfl
def Iw (m:D.aAM)(h:m.sz<=34359738368):qK m=some (gF m):=by
 simp only[D.aAM.sz] at h
 unfold qK gF
 rw[iG (l:=m.Notices) (qZ m.Notices) (.inl false) (.inr ()) (by omega) (λrec i hi=>by
  simp only[dB hi,ac,aN hi,bd_s];exact aPe m h rec _ i hi) (λrec=>by simp only[dF,ab])]
 rw[show decide ((m.Notices.length:Int)>30)= !decide (m.Notices.length<=30) by rw[<-decide_not];exact cw.2 (by omega)]
 cases decide (m.Notices.length<=30)<;>cases gW (qZ m.Notices) 0 m.Notices<;>rfl
def aEs (i:Int):Gw i=some (aA i):=by
 unfold Gw aA;cases i==0<;>cases i==1<;>rfl
def aEt (i:Int):Ho i=some (aA i):=by
 unfold Ho aA;cases i==0<;>cases i==1<;>rfl
def aBj (e:D.aAD):Cc e=some (bZ e):=by unfold Cc;rw[aB (by simp)];rfl
def aBk (e:D.aAD):Cq e=some (bZ e):=by unfold Cq;rw[aB (by simp)];rfl
def aI9 (l:List D.aAD)(h:l.length<=34359738368):Mf l=some (fU l):=by
 unfold Mf fU
 cases hl:((l.length:Int)==0) with
 |true=>rfl
 |false=>
  have:l.length≠0:=by intro h0;rw[h0] at hl;simp at hl
  rw[aJ (by omega) (by omega),show(l.length:Int)-1=((l.length-1:Nat):Int) by omega,aN (by omega)]
  simp[List.getD,ae (show l.length-1<l.length by omega)]
def aJa (l:List D.aAD)(h:l.length<=34359738368):Np l=some (fU l):=by
 unfold Np fU
 cases hl:((l.length:Int)==0) with
 |true=>rfl
 |false=>
  have:l.length≠0:=by intro h0;rw[h0] at hl;simp at hl
  rw[aJ (by omega) (by omega),show(l.length:Int)-1=((l.length-1:Nat):Int) by omega,aN (by omega)]
  simp[List.getD,ae (show l.length-1<l.length by omega)]
def K5 (l:List D.aAD)(p:Int)(h:l.length<=34359738368):zQ l p=some (fG l p):=by
 unfold zQ
 rw[kX (l:=l) (λe=>e.Kind==2&&e.Device==p) (.inl true) (.inr ()) (by omega) (λrec i hi=>by
  simp only[dB hi,ac,aN hi,bd_s,kZ];cases(l[i].Kind==2)<;>rfl) (λrec=>by simp only[dF,ab])]
 unfold fG;cases l.any _<;>rfl
end
end Go.VK
