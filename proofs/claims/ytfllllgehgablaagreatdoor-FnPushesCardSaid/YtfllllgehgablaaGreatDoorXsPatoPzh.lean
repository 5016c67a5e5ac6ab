import Derived.Test.YtfllllgehgablaaGreatDoorXsM
import Derived.Test.YtfllllgehgablaaGreatDoorLKatop
/- Printed by wip/tools: models, walks, proofs. -/
set_option linter.all false
set_option maxRecDepth 100000
set_option maxHeartbeats 4000000
namespace Go.VK
open Go.RowKit Go.Proofs
noncomputable section
open EV (bX)
def aXs (a b c:Int):aGl a b c=some (bF a b c):=by unfold aGl bF;show bd (bif decide (b<=a) then some (decide (a<=c)) else some false) _=_;cases decide (b<=a)<;>rfl
def aL0 (a b c:Int):Pw a b c=some (bF a b c):=by unfold Pw bF;cases decide (b<=a)<;>rfl
def aZ7 (p q:Int):aLu p q=some (gP p q):=by
 unfold aLu;by_cases h:1<=q/\q<=1000000000000
 ·simp[bF,h.1,h.2,aB (show q≠0 by omega),bNp h]
 ·rw[bF1 h];rcases(show q<1\/q>1000000000000 by omega) with h|h
  ·simp[bF,show ¬1<=q by omega]
  ·simp[bF,show ¬q<=1000000000000 by omega]
def aZ8 (p q:Int):aLz p q=some (gP p q):=by
 unfold aLz;simp only[bd_bb];by_cases h:1<=q/\q<=1000000000000
 ·rw[aB (by omega)];by_cases ht:p.tmod q<0
  ·simp[h,ht,show ¬q<1 by omega,show ¬q>1000000000000 by omega,bNn h ht];rw[IntKind.wrap_i64];have:=Gs (p:=p) (q:=q) h.1;omega
  ·simp[h,ht,show ¬q<1 by omega,show ¬q>1000000000000 by omega,bNo h ht]
 ·rw[bF1 h];rcases(show q<1\/q>1000000000000 by omega) with h|h<;>simp[h]
def aL1:((2147483647:Int)≠0)=True:=by simp
def aXt (l:List Int)(h:l.length<=1099511627776):aGm l=some (vC l):=by
 unfold aGm;rw[fB (l:=l) hstep (λ_ _=>True) (λs=>some s) (by omega) trivial (λ_ _ _ _=>trivial) (λrec i s hi _=>by
  simp only[dK hi,ac,aO hi,bd_s,aL1,gd_T];rfl) (λrec s _=>by simp only[dM,ab])]
 rfl
def aXu (l:List Int)(h:l.length<=1099511627776):aGn l=some (vC l):=by
 unfold aGn;rw[fB (l:=l) hstep (λ_ _=>True) (λs=>some s) (by omega) trivial (λ_ _ _ _=>trivial) (λrec i s hi _=>by
  simp only[dK hi,ac,aO hi,bd_s,aL1,gd_T];rfl) (λrec s _=>by simp only[dM,ab])]
 rfl
def aDg (k:Int)(l:List Int)(h:l.length<=34359738368):Dx k l=some (bJ k l):=by unfold Dx;rw[aB (by simp[aV];omega),aB (by simp[aV];omega),aB (by simp;omega)];simp[bJ]
def Xd {α:Type}{r:List (List α)}{i:Nat}(hi:i<r.length):(r.take (i+1)).flatten=(r.take i).flatten++r[i]:=by rw[fh,ae hi,ey];simp only[e8,cR,gb,cY]
def aPd (a:List Int)(r:List (List Int))(h:xK a r):Wy a r=some (qB a r):=by
 unfold Wy;have hs:∀i,(r.take i).flatten.length<=r.flatten.length:=λi=>by
  conv=>rhs;rw[<-cE i r,ey,au]
  omega
 rw[aB (by simp[aV];omega),fB (l:=r) (λs x=>s++x) (λi s=>s=a++(r.take i).flatten) (λs=>some s) (by omega) (by simp)
  (λi s hi hv=>by rw[hv,Xd hi,cf])
  (λrec i s hi hv=>by
   have e:=Xd hi;have h1:=hs (i+1);rw[e,au] at h1;simp only[dK hi,ac,aO hi,bd_s];rw[aB (by unfold aV;rw[hv,au];omega)]) (λrec s _=>by simp only[dM,ab])]
 have:r.foldl (λs x=>s++x) ([]++a)=a++r.flatten:=by rw[bn,aCz (f:=λx:List Int=>x)];simp
 rw[this];rfl
def aDh (k:Int)(l:List Int)(h:l.length<=34359738368):Ez k l=some (bJ k l):=by unfold Ez;rw[aB (by unfold xK;simp;omega),bd_s,aB (by simp[qB];omega)];simp[bJ,qB]
def aZ9 (a b:Int):aLv a b=some (aTy a b):=by simp[aLv,aTy]
def aUl (n:Int):V5 n=some (iE n):=by simp[V5,iE]
def aDi (k:Int)(l:List Int)(h:l.length<=34359738300):Dy k l=some (aU k l):=by unfold Dy;rw[aB (by simp[aV];omega),aB (by simp;omega),bd_s,aWj (kM _ _).1];rfl
def aDj (k:Int)(l:List Int)(h:l.length<=34359738300):Fe k l=some (aU k l):=by unfold Fe;rw[aB (by simp[xK];omega),bd_s,aB (by simp[qB];omega)];simp[aU,qB]
def V6 (n:Int):U8 n=some (bG n):=rfl
def V7 (n:Int):V4 n=some (bG n):=rfl
def aDk (n:Int):Ea n=some (cK n):=by unfold Ea cK;cases bG n<;>rfl
def aDl (n:Int):Ff n=some (cK n):=by unfold Ff cK;cases bG n<;>rfl
def aDm (s:D.aAI):Dz s=some (fU s):=by unfold Dz;rw[aB (by simp)];rfl
def Tn (s:D.aAI):Te s=some (bA s):=rfl
def Tq (s:D.aAI):vT s=some (bA s):=by unfold vT;rw[aB (by simp)];rfl
def aPe (l:List Int)(x:Int)(h:l.length<=1099511627776):Wl l x=some (gX l x):=by unfold Wl;rw[nC (l:=l) (λe=>e==x) (.inl true) (.inr ()) (by omega) (λrec i hi=>by simp only[dK hi,ac,aO hi,bd_s]) (λrec=>by simp only[dM,ab])];unfold gX;cases l.any _<;>rfl
def bAa (l:List Int)(x:Int)(h:l.length<=1099511627776):aLy l x=some (gX l x):=by unfold aLy;rw[nC (l:=l) (λe=>e==x) (.inl true) (.inr ()) (by omega) (λrec i hi=>by simp only[dK hi,ac,aO hi,bd_s]) (λrec=>by simp only[dM,ab])];unfold gX;cases l.any _<;>rfl
def aUm (s:List Int)(x:Int):gX s x=s.contains x:=by unfold gX;rw[List.contains_eq_any_beq];congr 1;funext e;exact Bool.beq_comm
def aSs {s:List Int}{e:D.aAC}(h:(e.Kind==1)=true):iZ s e=bif !gX s e.Device then s++[e.Device] else s:=by unfold iZ;rw[h,aUm];cases s.contains e.Device<;>rfl
def aSt {s:List Int}{e:D.aAC}(h:(e.Kind==1)=false):iZ s e=bif e.Kind==2 then s.filter (λd=>d !=e.Device) else s:=by unfold iZ;rw[h];rfl
def aDn (l:List D.aAC)(h:l.length<=34359738368):Ec l=some (aH l):=by
 unfold Ec;rw[fB (l:=l) iZ (λi s=>s.length<=i) (λs=>some s) (by omega) (by simp) (λi s hi hv=>by have:=aGc s l[i];omega)
  (λrec i s hi hv=>by
   simp only[dK hi,ac,aO hi,bd_s];rw[aB (by omega)];have hf:∀x:Int,bX (α:=List Int) FUEL (λrec8 (i8:(List Int×Nat))=>bif (decide ((↑i8.2:Int)<(↑s.length:Int))) then(bd (bd (aY s (↑i8.2:Int)) λ(z10:(Int))=>bif (z10 !=x) then(bd (aY s (↑i8.2:Int)) λ(z11:(Int))=>gd (aV i8.1 [z11]) (some (i8.1++[z11]))) else(some (i8.1))) λ(z9:(List Int))=>rec8 ((z9,(i8.2+1)))) else(some (i8.1))) ([],0)=some (s.filter λd=>d !=x):=λx=>by
    rw[fB (l:=s) (λq y=>bif y !=x then q++[y] else q) (λi q=>q.length<=i) (λq=>some q) (by omega) (by simp) (λi q hi hv=>by cases(s[i] !=x)<;>simp<;>omega)
     (λrec i q hi hv=>by
      simp only[dK hi,ac,aO hi,bd_s];rw[aB (by unfold aV;simp;omega)];cases(s[i] !=x)<;>rfl) (λrec q _=>by simp only[dM,ab]),Gt]
    simp
   rw[hf];cases h1:(l[i].Kind==1) with
   |true=>
    have h2:(l[i].Kind==2)=false:=by simp at h1 ⊢;omega
    rw[aSs h1,h2];rw[aB (by unfold aV;simp;omega)];cases gX s l[i].Device<;>rfl
   |false=>
    rw[aSt h1,aB (by unfold aV;simp;omega)];cases(l[i].Kind==2)<;>rfl) (λrec s _=>by simp only[dM,ab])]
 rfl
def aDo (l:List D.aAC)(h:l.length<=34359738368):Ew l=some (aH l):=by
 unfold Ew;rw[fB (l:=l) iZ (λi s=>s.length<=i) (λs=>some s) (by omega) (by simp) (λi s hi hv=>by have:=aGc s l[i];omega)
  (λrec i s hi hv=>by
   simp only[dK hi,ac,aO hi,bd_s];rw[aB (by omega)];have hf:∀x:Int,bX (α:=List Int) FUEL (λrec5 (i5:(List Int×Nat))=>bif (decide ((↑i5.2:Int)<(↑s.length:Int))) then(bd (bd (aY s (↑i5.2:Int)) λ(z7:(Int))=>bif (z7 !=x) then(gd (aV i5.1 [z7]) (some (i5.1++[z7]))) else(some (i5.1))) λ(z6:(List Int))=>rec5 ((z6,(i5.2+1)))) else(some (i5.1))) ([],0)=some (s.filter λd=>d !=x):=λx=>by
    rw[fB (l:=s) (λq y=>bif y !=x then q++[y] else q) (λi q=>q.length<=i) (λq=>some q) (by omega) (by simp) (λi q hi hv=>by cases(s[i] !=x)<;>simp<;>omega)
     (λrec i q hi hv=>by
      simp only[dK hi,ac,aO hi,bd_s];rw[aB (by unfold aV;simp;omega)];cases(s[i] !=x)<;>rfl) (λrec q _=>by simp only[dM,ab]),Gt]
    simp
   rw[hf];cases h1:(l[i].Kind==1) with
   |true=>rw[aSs h1,aB (by unfold aV;simp;omega)];cases gX s l[i].Device<;>rfl
   |false=>
    rw[aSt h1];cases(l[i].Kind==2)<;>rfl) (λrec s _=>by simp only[dM,ab])]
 rfl
def aDp (w:D.World)(d:Int):Fb w d=some (aM w d):=by unfold Fb aM;show bd (bif decide (0<=d) then _ else _) _=_;cases decide (0<=d)<;>rfl
def aPf (w:D.World)(d:Int)(h:WOk w):Wx w d=some (kN w d):=by
 unfold Wx kN;rw[aRx h];have hl:=iI w.aAD.Log;have h3:=h.2.2.1;cases hd:aM w d with
 |false=>rfl
 |true=>simp only[ac,nD hd,bd_s,aB h3,aB (show(aH w.aAD.Log).length<=1099511627776 by omega),cW]
def aL2 (a:D.Entry)(s h:Int):Pg a s h=some (iQ a s h):=by unfold Pg iQ;cases decide (a.Site<s)<;>cases(a.Site==s)<;>rfl
def Yl (a b:D.Entry):yX a b=some (dF a b):=by unfold yX dF;cases decide (a.Site<b.Site)<;>cases(a.Site==b.Site)<;>rfl
def aXv {l:List D.Entry}{i:Nat}(hi:i<l.length)(hl:l.length<=34359738368){q:D.Entry->Bool}(hq:∀x,q x=dF x l[i]):
  (bif (!bF l[i].Site (0:Int) (2147483646:Int)) then(some (true)) else(bif (!bF l[i].Handle (0:Int) (1000000:Int)) then(some (true)) else(bif (!bF l[i].Version (1:Int) (1000000:Int)) then(some (true)) else(bif (decide ((i:Int)>(0:Int))) then(bd (aY l (IntKind.i64.wrap ((i:Int)-(1:Int)))) λ(z4:(D.Entry))=>some (!q z4)) else(some (false))))))=some (Nu l i l[i]):=by
 unfold Nu;cases bF l[i].Site 0 2147483646 with
 |false=>rfl
 |true=>
  cases bF l[i].Handle 0 1000000 with
  |false=>rfl
  |true=>
   cases bF l[i].Version 1 1000000 with
   |false=>rfl
   |true=>
    by_cases h0:(i:Int)>0
    ·rw[ao h0,aJ (by omega) (by omega)];have hat:aY l ((i:Int)-1)=some l[i-1]:=by rw[show(i:Int)-1=((i-1:Nat):Int) by omega];exact aO (by omega)
     have hg:l.getD (i-1) default=l[i-1]:=by rw[List.getD,ae (by omega),cD]
     simp only[hat,bd_s,hq,hg,ba,ab,ac,cL,cW]
    ·rw[aw h0];rfl
def aHb (b:D.aAB)(h:b.sz<=34359738368):Jk b=some (aK b):=by
 simp only[D.aAB.sz] at h;unfold Jk aK;rw[iM (l:=b.Entries) (Nu b.Entries) (.inl false) (.inr ()) (by omega) (λrec i hi=>by
  simp only[dK hi,ac,aO hi,bd_s];rw[aXv hi h (q:=λx=>iQ x b.Entries[i].Site b.Entries[i].Handle) (λx=>rfl)];rfl) (λrec=>by simp only[dM,ab])]
 cases fO (Nu b.Entries) 0 b.Entries with
 |true=>simp[nx]
 |false=>simp[nx]
def aHc (b:D.aAB)(h:b.sz<=34359738368):Jz b=some (aK b):=by
 simp only[D.aAB.sz] at h;unfold Jz aK;by_cases h20:(b.Entries.length:Int)>20
 ·rw[ao h20,show decide ((b.Entries.length:Int)<=20)=false from aw (by omega)];rfl
 ·rw[aw h20,show decide ((b.Entries.length:Int)<=20)=true from ao (by omega),ab];rw[iM (l:=b.Entries) (Nu b.Entries) (.inl false) (.inr ()) (by omega) (λrec i hi=>by
   simp only[dK hi,ac,aO hi,bd_s];rw[aXv hi h (q:=λx=>dF x b.Entries[i]) (λx=>rfl)];rfl) (λrec=>by simp only[dM,ab])]
  cases fO (Nu b.Entries) 0 b.Entries<;>rfl
def aDq (b:D.aAB)(s h:Int)(hz:b.sz<=34359738368):Eg b s h=some (aG b s h):=by
 simp only[D.aAB.sz] at hz;unfold Eg aG;exact Nn (l:=b.Entries) (λ(e:D.Entry)=>e.Site==s&&e.Handle==h) (by omega) (λrec i hi=>by
  simp only[dK hi,ac,aO hi,bd_s];cases(b.Entries[i].Site==s)<;>rfl) (λrec=>by simp only[dM,ab])
def aL3 (b:D.aAB)(h:b.sz<=34359738368):Pe b=some (b):=by simp only[D.aAB.sz] at h;unfold Pe;rw[aB (by unfold aV;simp only[bo];omega)];rfl
def V8 (b:D.aAB)(h:b.sz<=34359738368):Bd b=some (b):=by simp only[D.aAB.sz] at h;unfold Bd;rw[aB (by unfold aV;simp only[bo];omega)];rfl
def aJl (p:D.Entry->Bool):∀(l:List D.Entry) (i:Nat),i<=(l.takeWhile p).length->(∃hi:i<l.length,p l[i]=true/\i<(l.takeWhile p).length)\/(i=(l.takeWhile p).length/\∀hi:i<l.length,p l[i]=false)
 |[],i,h=> .inr ⟨by simpa using h,λhi=>by simp at hi⟩
 |x::l,i,h=>by
  rw[dh] at h ⊢;cases hp:p x with
  |false=>rw[hp] at h;simp at h;subst h;exact .inr ⟨by simp,λ_=>hp⟩
  |true=>
   rw[hp] at h;simp only[gE,av] at h ⊢;cases i with
   |zero=>exact .inl ⟨by simp,hp,by omega⟩
   |succ i=>
    rcases aJl p l i (by omega) with⟨h1,h2,h3⟩|⟨h1,h2⟩
    ·exact .inl ⟨by simpa using h1,h2,by omega⟩
    ·exact .inr ⟨by omega,λhi=>h2 (by simpa using hi)⟩
def bCm (p:D.Entry->Bool):∀l:List D.Entry,l.take (l.takeWhile p).length=l.takeWhile p
 |[]=>rfl
 |x::l=>by
  rw[dh];cases p x with
  |false=>rfl
  |true=>simp only[gE,av,io];rw[bCm p l]
def bCn (p:D.Entry->Bool):∀l:List D.Entry,l.drop (l.takeWhile p).length=l.dropWhile p
 |[]=>rfl
 |x::l=>by
  rw[dh,List.dropWhile_cons];cases p x with
  |false=>rfl
  |true=>simp only[gE,av,gl];rw[bCn p l]
def aPg (b:D.aAB)(x:D.Entry)(h:b.sz<=34359738360):Wq b x=some (nE b x):=by
 have h':=h;simp only[D.aAB.sz] at h;unfold Wq nE;rw[aB (by omega),bd_s,aB (by omega),bd_s];by_cases hf:aG b x.Site x.Handle>=0
 ·rw[ao hf,ac,ac];have:=aJu (show 0<=iL (λe=>e.Site==x.Site&&e.Handle==x.Handle) 0 b.Entries from hf);have hlt:(aG b x.Site x.Handle).toNat<b.Entries.length:=by unfold aG;omega
  rw[lN hf hlt];rfl
 ·rw[aw hf,ab,ab];have htl:(b.Entries.takeWhile λe=>iQ e x.Site x.Handle).length<=b.Entries.length:=(List.takeWhile_sublist _).length_le;rw[aKs (λi s=>i<=(b.Entries.takeWhile λe=>iQ e x.Site x.Handle).length/\s=(i:Int)) b.Entries.length (some ((b.Entries.takeWhile λe=>iQ e x.Site x.Handle).length:Int)) (s:=(0:Int)) (by omega) ⟨by omega,rfl⟩ (λi s rec hi hv=>by
   obtain⟨h1,rfl⟩:=hv;rcases aJl _ _ i h1 with⟨g1,g2,g3⟩|⟨g1,g2⟩
   ·refine .inl ⟨_,⟨by omega,rfl⟩,?_⟩;simp only[dK hi,ac,aO hi,bd_s,g2];rw[aJ (by omega) (by omega)];rfl
   ·refine .inr ?_;simp only[dK hi,ac,aO hi,bd_s,g2 hi,ab];rw[<-g1]) (λs rec hv=>by
   obtain⟨h1,rfl⟩:=hv;have e:b.Entries.length=(b.Entries.takeWhile λe=>iQ e x.Site x.Handle).length:=by omega
   simp only[dM,ab,bd_s];rw[<-e]),bd_s]
  rw[aB ⟨by omega,by simpa using htl⟩,aB ⟨by omega,by simpa using htl⟩,aB (by unfold aV;simp;omega),aB (by unfold aV;simp;omega),aB (by unfold aV;simp;omega)];rw[co,bn];rw[bCm,bCn]
def bE9 {l:List D.Entry}{k:Int}(h0:0<=k)(h1:k.toNat<l.length)(x:D.Entry):(bd (aY l k) λ(z9:D.Entry)=>bif (decide (x.Version>z9.Version)) then(some (true)) else(bd (aY l k) λ(z10:D.Entry)=>bif (x.Version==z10.Version) then(some (x.Deleted)) else(some (false))))=some (nO x (l.getD k.toNat default)):=by rw[lN h0 h1,List.getD,ae h1,cD];simp only[bd_s];unfold nO;cases decide (x.Version>l[k.toNat].Version)<;>cases(x.Version==l[k.toNat].Version)<;>rfl
def Tt (a b:D.aAB)(h:a.sz<=34359738368/\b.sz<=34359738368):vN a b=some (dX a b):=by
 unfold vN dX;rw[aB h.1,bd_s];cases ha:aK a with
 |false=>rw[aB h.1];rfl
 |true=>
  rw[aB h.2];cases hb:aK b with
  |false=>rw[aB h.1];rfl
  |true=>
   obtain⟨la,sa⟩:=aC1 ha;obtain⟨lb,sb⟩:=aC1 hb;rw[aB h.1];simp only[ba,ab,ac,bd_s,dw];rw[aRv (l:=b.Entries) (s0:=a.Entries) (λo x=>bM o [x]) (λi o=>K6 o/\o.length<=20+i) (λo=>some o) (by omega) ⟨sa,by omega⟩ (λi o hi hv=>by
     have:=wR _ o [b.Entries[i]] (aj _);exact⟨bB0 hv.1,by simp only[cu] at this;omega⟩) (λrec i o hi hv=>by
     obtain⟨hs,hl⟩:=hv;simp only[dK hi,ac,aO hi,bd_s];rw[aB (by simp only[D.aAB.sz];omega),bd_s,<-aWo hs];have hk:(bif decide (aG ⟨o⟩ b.Entries[i].Site b.Entries[i].Handle<0) then some true else bd (aY o (aG ⟨o⟩ b.Entries[i].Site b.Entries[i].Handle)) λ(z9:D.Entry)=>bif (decide (b.Entries[i].Version>z9.Version)) then(some (true)) else(bd (aY o (aG ⟨o⟩ b.Entries[i].Site b.Entries[i].Handle)) λ(z10:D.Entry)=>bif (b.Entries[i].Version==z10.Version) then(some (b.Entries[i].Deleted)) else(some (false))))=some (decide (aG ⟨o⟩ b.Entries[i].Site b.Entries[i].Handle<0)||nO b.Entries[i] (o.getD (aG ⟨o⟩ b.Entries[i].Site b.Entries[i].Handle).toNat default)):=by
      by_cases hf:aG ⟨o⟩ b.Entries[i].Site b.Entries[i].Handle<0
      ·rw[ao hf];rfl
      ·rw[aw hf,ab];have:=aJu (show 0<=iL (λ(e:D.Entry)=>e.Site==b.Entries[i].Site&&e.Handle==b.Entries[i].Handle) 0 o from by unfold aG at hf;simp only at hf;omega);rw[bE9 (by omega) (by unfold aG;simp only;omega)];rfl
     rw[hk,bd_s];cases(decide (aG ⟨o⟩ b.Entries[i].Site b.Entries[i].Handle<0)||nO b.Entries[i] (o.getD (aG ⟨o⟩ b.Entries[i].Site b.Entries[i].Handle).toNat default)) with
     |false=>rfl
     |true=>rw[ac,ac,aB (by simp only[D.aAB.sz];omega)];rfl) (λrec o _=>by simp only[dM,ab])]
   rw[aKz _ _ sb,bd_s];have hm:=wR _ a.Entries b.Entries (aj _);rw[aB (by simp only[D.aAB.sz];omega),bd_s];cases aK ⟨bM a.Entries b.Entries⟩<;>rfl
def drop_at {l:List D.Entry}{i:Nat}(h:i<l.length):l.drop i=l[i]::l.drop (i+1):=ct h
def bAb (e f:D.Entry){X:Int×Int×Int×Bool->Option (List D.Entry)}:(bd (bd (bif (decide (f.Version>e.Version)) then(some (true)) else(bif (f.Version==e.Version) then(some (f.Deleted)) else(some (false)))) λ(z10:Bool)=>bif z10 then(some (f.Site,f.Handle,f.Version,f.Deleted)) else(some (e.Site,e.Handle,e.Version,e.Deleted))) X)=X ((nW e f).Site,(nW e f).Handle,(nW e f).Version,(nW e f).Deleted):=by unfold nW nO;cases decide (f.Version>e.Version)<;>cases(f.Version==e.Version)<;>cases hd:f.Deleted<;>simp[bd,hd]
def Tu (a b:D.aAB)(h:a.sz<=34359738368/\b.sz<=34359738368):vV a b=some (dX a b):=by
 unfold vV dX;rw[aB h.1,bd_s];cases ha:aK a with
 |false=>rw[aB h.1];rfl
 |true=>
  rw[aB h.2];cases hb:aK b with
  |false=>rw[aB h.1];rfl
  |true=>
   obtain⟨la,sa⟩:=aC1 ha;obtain⟨lb,sb⟩:=aC1 hb;simp only[ba,ab,ac,bd_s,dw];have hm:=wR _ a.Entries b.Entries (aj _);rw[aKs (λn s=>∃(i k:Nat) (o:List D.Entry),s=((i:Int),(k:Int),o)/\i<=a.Entries.length/\k<=b.Entries.length/\n<=i+k/\o++bM (a.Entries.drop i) (b.Entries.drop k)=bM a.Entries b.Entries) (a.Entries.length+b.Entries.length) (some (bM a.Entries b.Entries)) (s:=((0:Int),(0:Int),([]:List D.Entry))) (by omega) ⟨0,0,[],rfl,by omega,by omega,by omega,rfl⟩ (λn s rec hn hv=>by
     obtain⟨i,k,o,rfl,hi,hk,hik,ho⟩:=hv;have hol:o.length<=40:=by have:=congrArg List.length ho;rw[au] at this;omega
     have hap:∀x:D.Entry,aV o [x]:=λx=>by unfold aV;simp only[cu];omega
     have wi:IntKind.i64.wrap ((i:Int)+1)=((i+1:Nat):Int):=by rw[aJ (by omega) (by omega)];rfl
     have wk:IntKind.i64.wrap ((k:Int)+1)=((k+1:Nat):Int):=by rw[aJ (by omega) (by omega)];rfl
     rcases fp i a.Entries.length with hi'|hi'
     ·have ne1:((i:Int)==(a.Entries.length:Int))=false:=by simp;omega
      rw[drop_at hi'] at ho;rcases fp k b.Entries.length with hk'|hk'
      ·have ne2:((k:Int)==(b.Entries.length:Int))=false:=by simp;omega
       rw[drop_at hk',sN] at ho;simp only[dK hi',dK hk',ac,bd_s,ne2,ab,aO hi',aO hk',ne1,aB (hap _),wi,wk,bAb];cases h1:dF a.Entries[i] b.Entries[k] with
       |true=>rw[h1,ac,<-drop_at hk'] at ho;exact .inl ⟨_,⟨i+1,k,o++[a.Entries[i]],rfl,by omega,hk,by omega,by rw[<-ho];simp⟩,rfl⟩
       |false=>
        cases h2:dF b.Entries[k] a.Entries[i] with
        |true=>rw[h1,ab,h2,ac,<-drop_at hi'] at ho;exact .inl ⟨_,⟨i,k+1,o++[b.Entries[k]],rfl,hi,by omega,by omega,by rw[<-ho];simp⟩,rfl⟩
        |false=>rw[h1,ab,h2,ab] at ho;exact .inl ⟨_,⟨i+1,k+1,o++[nW a.Entries[i] b.Entries[k]],rfl,by omega,by omega,by omega,by rw[<-ho];simp⟩,rfl⟩
      ·have e:k=b.Entries.length:=by omega
       subst e;rw[dz,dQ] at ho;simp only[dK hi',ac,bd_s,dx,aO hi',aB (hap _),wi];exact .inl ⟨_,⟨i+1,_,o++[a.Entries[i]],rfl,by omega,aj _,by omega,by rw[dz,dQ,<-ho];simp⟩,rfl⟩
     ·have e:i=a.Entries.length:=by omega
      subst e;rw[dz,gY] at ho;rcases fp k b.Entries.length with hk'|hk'
      ·have ne2:((k:Int)==(b.Entries.length:Int))=false:=by simp;omega
       simp only[dM,ab,dK hk',bd_s,ac,ne2,dx,aO hk',aB (hap _),wk];exact .inl ⟨_,⟨_,k+1,o++[b.Entries[k]],rfl,aj _,by omega,by omega,by rw[dz,gY,<-ho,drop_at hk'];simp⟩,rfl⟩
      ·have e2:k=b.Entries.length:=by omega
       subst e2;rw[dz,cY] at ho;refine .inr ?_;simp only[dM,ab,bd_s];rw[ho]) (λs rec hv=>by
     obtain⟨i,k,o,rfl,hi,hk,hik,ho⟩:=hv;have e1:i=a.Entries.length:=by omega
     have e2:k=b.Entries.length:=by omega
     subst e1;subst e2;rw[dz,dz,dQ,cY] at ho;simp only[dM,ab,bd_s];rw[ho])]
   rw[bd_s,aB (by simp only[D.aAB.sz];omega),bd_s,aB h.1];cases aK ⟨bM a.Entries b.Entries⟩<;>rfl
def aL4 (l:List D.aAC)(h:l.length<=34359738368):Oo l=some l:=by unfold Oo;rw[mO h];rfl
def aL5 (l:List D.aAC)(h:l.length<=34359738368):Pv l=some l:=by unfold Pv;rw[mO h];rfl
def aDr (l:List Int)(h:l.length<=34359738368):Ep l=some l:=by unfold Ep;rw[mO h];rfl
def aL6 (d:D.Device)(h:d.sz<=34359738368):Pf d=some d:=by simp only[D.Device.sz] at h;unfold Pf;simp only[aB (show d.Log.length<=34359738368 by omega),aB (show d.aAB.sz<=34359738368 by simp only[D.aAB.sz];omega),bd_s]
def V9 (d:D.Device)(h:d.sz<=34359738368):Be d=some d:=by simp only[D.Device.sz] at h;unfold Be;simp only[aB (show d.Log.length<=34359738368 by omega),aB (show d.aAB.sz<=34359738368 by simp only[D.aAB.sz];omega),bd_s]
def aL7 (e:D.aAF)(h:e.sz<=34359738368):Ov e=some e:=by
 simp only[D.aAF.sz] at h;unfold Ov;rw[P9 (l:=e.Boxes) (by omega) (λrec i s hi hs=>by
  have hz:=jM (f:=D.Box.sz) hi;simp only[D.Box.sz] at hz h;simp only[dK hi,ac,aO hi,bd_s,mO (show e.Boxes[i].Data.length<=34359738368 by omega),eY hs,bn]) (λrec s=>by simp only[dM,ab])]
 rfl
def aDs (l:List D.Box)(h:Q0 D.Box.sz l<=34359738368):Er l=some l:=by
 unfold Er;unfold Q0 at h;rw[bHs (l:=l) (by omega) (λrec i s hi hs=>by
  have hz:=jM (f:=D.Box.sz) hi;simp only[D.Box.sz] at hz h;simp only[dK hi,ac,aO hi,bd_s,aB (show l[i].Data.length<=34359738368 by omega),eY hs]) (λrec s=>by simp only[dM,ab])]
 rfl
def Km (e:D.aAF)(h:e.sz<=34359738368):rU e=some e:=by unfold rU;simp only[aB (show Q0 D.Box.sz e.Boxes<=34359738368 from h),bd_s]
def aL8 (e:D.aAA)(h:e.sz<=34359738368):Ph e=some e:=by unfold Ph;rw[mO h];rfl
def W9 (e:D.aAA)(h:e.sz<=34359738368):Bc e=some e:=by unfold Bc;simp only[aB (show e.Data.length<=34359738368 from h),bd_s]
def aL9 (c:D.aAD)(h:c.sz<=34359738368):Pi c=some c:=by
 simp only[D.aAD.sz] at h;unfold Pi;rw[P9 (l:=c.History) (by omega) (λrec i s hi hs=>by
  have hz:=jM (f:=D.aAA.sz) hi;simp only[dK hi,ac,aO hi,bd_s,aB (show c.History[i].sz<=34359738368 by omega),eY hs]) (λrec s=>by simp only[dM,ab])]
 simp only[aB (show c.Log.length<=34359738368 by omega),aB (show c.Boxes.sz<=34359738368 by simp only[D.aAF.sz];omega),bd_s]
def aDt (c:D.aAD)(h:c.sz<=34359738368):Es c=some c:=by
 simp only[D.aAD.sz] at h;unfold Es;rw[P9 (l:=c.History) (by omega) (λrec i s hi hs=>by
  have hz:=jM (f:=D.aAA.sz) hi;simp only[dK hi,ac,aO hi,bd_s,aB (show c.History[i].sz<=34359738368 by omega),eY hs]) (λrec s=>by simp only[dM,ab])]
 simp only[aB (show c.Log.length<=34359738368 by omega),aB (show c.Boxes.sz<=34359738368 by simp only[D.aAF.sz];omega),bd_s]
def aMa (e:D.aAH)(h:e.sz<=34359738368):Oz e=some e:=by unfold Oz;rw[mO h];rfl
def Ym (e:D.aAH)(h:e.sz<=34359738368):yM e=some e:=by unfold yM;rw[mO h];rfl
def aMb (e:D.aAE)(h:e.sz<=34359738368):Pb e=some e:=by unfold Pb;rw[mO h];rfl
def aHd (e:D.aAE)(h:e.sz<=34359738368):Jv e=some e:=by unfold Jv;rw[mO h];rfl
def aMc (s:D.Site)(h:s.sz<=34359738368):Pd s=some s:=by
 simp only[D.Site.sz] at h;unfold Pd;rw[P9 (l:=s.Accounts) (by omega) (λrec i q hi hs=>by
  have hz:=jM (f:=D.aAH.sz) hi;simp only[dK hi,ac,aO hi,bd_s,aB (show s.Accounts[i].sz<=34359738368 by omega),eY hs]) (λrec q=>by simp only[dM,ab])]
 simp only[aB (show s.Book.sz<=34359738368 by simp only[D.aAE.sz];omega),bd_s,mO (show s.Logins.length<=34359738368 by omega),bn]
def aHe (s:D.Site)(h:s.sz<=34359738368):Jw s=some s:=by
 simp only[D.Site.sz] at h;unfold Jw;rw[P9 (l:=s.Accounts) (by omega) (λrec i q hi hs=>by
  have hz:=jM (f:=D.aAH.sz) hi;simp only[dK hi,ac,aO hi,bd_s,aB (show s.Accounts[i].sz<=34359738368 by omega),eY hs]) (λrec q=>by simp only[dM,ab])]
 simp only[aB (show s.Book.sz<=34359738368 by simp only[D.aAE.sz];omega),bd_s,aB (show xK s.Logins [] by unfold xK;simp;omega)];simp[qB]
def aMd (e:D.aAG)(h:e.sz<=34359738368):Pp e=some e:=by unfold Pp;rw[mO h];rfl
def aHf (e:D.aAG)(h:e.sz<=34359738368):Jt e=some e:=by unfold Jt;rw[mO h];rfl
def aHg (l:List D.aAG)(h:Q0 D.aAG.sz l<=34359738368):Jo l=some l:=by
 unfold Jo;unfold Q0 at h;rw[bHs (l:=l) (by omega) (λrec i s hi hs=>by
  have hz:=jM (f:=D.aAG.sz) hi;simp only[dK hi,ac,aO hi,bd_s,aB (show l[i].sz<=34359738368 by omega),eY hs]) (λrec s=>by simp only[dM,ab])]
 rfl
def aDu (l:List D.aAG)(h:Q0 D.aAG.sz l<=34359738368):Et l=some l:=by
 unfold Et;unfold Q0 at h;rw[bHs (l:=l) (by omega) (λrec i s hi hs=>by
  have hz:=jM (f:=D.aAG.sz) hi;simp only[dK hi,ac,aO hi,bd_s,aB (show l[i].sz<=34359738368 by omega),eY hs]) (λrec s=>by simp only[dM,ab])]
 rfl
def aMe (e:D.aAJ)(h:e.sz<=34359738368):Pq e=some e:=by unfold Pq;rw[mO h];rfl
def aHh (e:D.aAJ)(h:e.sz<=34359738368):Ju e=some e:=by unfold Ju;rw[mO h];rfl
def aMf (w:D.World)(h:w.sz<=34359738368):Ps w=some w:=by
 simp only[D.World.sz] at h;unfold Ps;rw[P9 (l:=w.Devices) (by omega) (λrec i q hi hs=>by
  have hz:=jM (f:=D.Device.sz) hi;simp only[dK hi,ac,aO hi,bd_s,aB (show w.Devices[i].sz<=34359738368 by omega),eY hs]) (λrec q=>by simp only[dM,ab]),
  P9 (l:=w.Sites) (by omega) (λrec i q hi hs=>by
  have hz:=jM (f:=D.Site.sz) hi;simp only[dK hi,ac,aO hi,bd_s,aB (show w.Sites[i].sz<=34359738368 by omega),eY hs]) (λrec q=>by simp only[dM,ab])]
 simp only[bd_s,mO (show w.Stolen.length<=34359738368 by omega),aB (show w.aAD.sz<=34359738368 by simp only[D.aAD.sz];omega),aB (show Q0 D.aAG.sz w.Hosts<=34359738368 by unfold Q0;omega),aB (show w.Mail.sz<=34359738368 by simp only[D.aAJ.sz];omega),bn]
def aDv (w:D.World)(h:w.sz<=34359738368):Eu w=some w:=by
 simp only[D.World.sz] at h;unfold Eu;rw[P9 (l:=w.Devices) (by omega) (λrec i q hi hs=>by
  have hz:=jM (f:=D.Device.sz) hi;simp only[dK hi,ac,aO hi,bd_s,aB (show w.Devices[i].sz<=34359738368 by omega),eY hs]) (λrec q=>by simp only[dM,ab]),
  P9 (l:=w.Sites) (by omega) (λrec i q hi hs=>by
  have hz:=jM (f:=D.Site.sz) hi;simp only[dK hi,ac,aO hi,bd_s,aB (show w.Sites[i].sz<=34359738368 by omega),eY hs]) (λrec q=>by simp only[dM,ab])]
 simp only[bd_s,mO (show w.Stolen.length<=34359738368 by omega),aB (show w.aAD.sz<=34359738368 by simp only[D.aAD.sz];omega),aB (show Q0 D.aAG.sz w.Hosts<=34359738368 by unfold Q0;omega),aB (show w.Mail.sz<=34359738368 by simp only[D.aAJ.sz];omega),bn]
def aUn {F:(Int×Int×Int->Option Int)->Int×Int×Int->Option Int}(hF:∀rec (b n s:Int),0<=n->n<9223372036854775807->F rec (b,n,s)=bif decide (n>0) then rec ((IntKind.i64.wrap (b*b)).tmod 2147483647,n/2,bif n%2==1 then(IntKind.i64.wrap (s*b)).tmod 2147483647 else s) else some s):
  ∀(k:Nat) (b n s:Int) (f:Nat),k<f->0<=n->n<2^k->k<=62->bX f F (b,n,s)=some (bD3 k b n s)
 |0,b,n,s,f+1,hf,h0,h1,hk=>by
  have:n=0:=by simp at h1;omega
  subst this;rw[iA,hF _ _ _ _ (by omega) (by omega)];rfl
 |k+1,b,n,s,f+1,hf,h0,h1,hk=>by
  have h2:(2:Int)^(k+1)=2*2^k:=by rw[e9];omega
  have h3:n<2^62:=Int.lt_of_lt_of_le h1 (by exact_mod_cast ie (by omega) hk);rw[iA,hF _ _ _ _ h0 (by omega)];unfold bD3;by_cases hn:n>0
  ·rw[ao hn,ac,cH hn];exact aUn hF k _ (n/2) _ f (by omega) (by omega) (by omega) (by omega)
  ·rw[aw hn,ab,cX hn]
def aMg (b n:Int)(h:0<=n/\n<2147483648):qJ b n=some (bD3 31 b n 1):=by unfold qJ;rw[aUn (λrec b n s h0 h1=>by simp only[show mG .i64 n 1=n%2 from and_one h0 (by omega),show Co .i64 n 1=n/2 from bBw h0,aL1,gd_T,kP,bd_s,aB (show(0:Int)<=1 by decide)]) 31 b n 1 FUEL (by have:=fT;omega) h.1 (by have:=h.2;omega) (by omega)];rfl
def aPh (b n:Int)(h:0<=n/\n<2147483648)(hb:0<=b/\b<2147483647):wN b n 2147483647=some (bD3 31 b n 1):=by
 unfold wN;rw[show b.tmod 2147483647=b by rw[cp hb.1];omega,show(1:Int).tmod 2147483647=1 by decide,aUn (λrec b n s h0 h1=>by
  have h4:((2:Int)≠0)=True:=by simp
  simp only[show n.tmod 2=n%2 from cp h0,show n.tdiv 2=n/2 from jw h0,show IntKind.i64.wrap (n/2)=n/2 from aJ (by omega) (by omega),aL1,h4,gd_T,kP,bd_s]) 31 b n 1 FUEL (by have:=fT;omega) h.1 (by have:=h.2;omega) (by omega)]
 simp only[aL1,gd_T,bd_s]
def X3 (q:Int):Af q=some (eU q):=by
 unfold Af eU;rw[aMg _ _ (by decide),bBx,show bF q 1 2147483646=bG q from rfl];cases hk:bG q with
 |false=>rfl
 |true=>
  have hr:=jJ hk;have hw:IntKind.i64.wrap (q*1899818559)=q*1899818559:=aJ (by omega) (by omega);simp only[ba,ab,bd_s,hw,aL1,gd_T,cp (show 0<=q*1899818559 by omega)];have hp:cK (q*1899818559%2147483647)=q:=by
   unfold cK bG bF;have h1:1<=q*1899818559%2147483647:=by omega
   have h2:q*1899818559%2147483647<=2147483646:=by omega
   have hw2:IntKind.i64.wrap (q*1899818559%2147483647*48271)=q*1899818559%2147483647*48271:=aJ (by omega) (by omega);simp only[h1,h2,decide_true,dw,ba,ab,hw2];rw[cp (by omega)];omega
  rw[hp,cI];rfl
def X4 (q:Int):Bf q=some (eU q):=by
 unfold Bf eU;rw[aPh _ _ (by decide) (by decide),bBx];cases hk:bG q with
 |false=>rfl
 |true=>have hr:=jJ hk;have hw:IntKind.i64.wrap (q*1899818559)=q*1899818559:=aJ (by omega) (by omega);simp only[ba,ab,bd_s,hw,aL1,gd_T,cp (show 0<=q*1899818559 by omega)]
def Yo (p:Int)(l:List Int)(h:l.length<=34359738300):xU p l=some (Ab p l):=by unfold xU Ab;rw[aB (by simp[aV];omega),aB (by simp;omega)];cases bG p<;>rfl
def Yp (p:Int)(l:List Int)(h:l.length<=34359738300):yR p l=some (Ab p l):=by unfold yR Ab;rw[aB (by unfold xK;simp;omega),bd_s,aB (by simp[qB];omega)];cases bG p<;>simp[qB]
def Ie (q:Int)(l:List Int)(g:Int)(h:l.length<=34359738300):qK q l g=some (gI q l g):=by unfold qK gI;simp only[aB h,bd_s,kP];cases(eU q !=0)<;>rfl
def Ig (q:Int)(l:List Int)(g:Int)(h:l.length<=34359738300):qN q l g=some (gI q l g):=by unfold qN gI;simp only[aB h,bd_s,kP];cases(eU q !=0)<;>rfl
def aSu (b:D.aAE)(h:b.Open.length<=34359738368){τ:Type}(rec:Nat->Option τ)(r:Option τ)(i:Nat)(hi:i<b.Open.length):(bd (bif (!bF b.Open[i].Id (0:Int) (IntKind.i64.wrap (b.Next-(1:Int)))) then(some (true)) else(bif (decide ((↑i:Int)>(0:Int))) then(bd (aY (b.Open) (IntKind.i64.wrap ((↑i:Int)-(1:Int)))) λz4=>bif (decide (z4.Id>=b.Open[i].Id)) then(some (true)) else(bif (!bF b.Open[i].aAH (0:Int) (1000005:Int)) then(some (true)) else(some (!bF b.Open[i].Until (0:Int) (1000005:Int))))) else(bif (!bF b.Open[i].aAH (0:Int) (1000005:Int)) then(some (true)) else(some (!bF b.Open[i].Until (0:Int) (1000005:Int)))))) λz3=>bif z3 then r else(rec (i+1)))=bif gJ b i b.Open[i] then r else rec (i+1):=by
 unfold gJ;by_cases h0:0<i
 ·rw[Nq h0 hi h,bd_s,show decide ((i:Int)>0)=true by simpa using h0,ao h0];cases bF b.Open[i].Id 0 (IntKind.i64.wrap (b.Next-1))<;>cases decide ((b.Open.getD (i-1) default).Id>=b.Open[i].Id)<;>cases bF b.Open[i].aAH 0 1000005<;>cases bF b.Open[i].Until 0 1000005<;>rfl
 ·rw[show decide ((i:Int)>0)=false by simpa using h0,aw h0];cases bF b.Open[i].Id 0 (IntKind.i64.wrap (b.Next-1))<;>cases bF b.Open[i].aAH 0 1000005<;>cases bF b.Open[i].Until 0 1000005<;>rfl
def Yq (b:D.aAE)(h:b.sz<=34359738368):xX b=some (eD b):=by
 simp only[D.aAE.sz] at h;unfold xX eD;rw[iM (l:=b.Open) (gJ b) (.inl false) (.inr ()) (by omega) (λrec i hi=>by
  simp only[dK hi,ac,aO hi,bd_s];exact aSu b h rec _ i hi) (λrec=>by simp only[dM,ab])]
 rw[show decide ((b.Open.length:Int)<=16)=decide (b.Open.length<=16) from cA.2 (by omega)];cases bF b.Next 0 1000000<;>cases decide (b.Open.length<=16)<;>cases fO (gJ b) 0 b.Open<;>rfl
def Yr (b:D.aAE)(h:b.sz<=34359738368):yP b=some (eD b):=by
 simp only[D.aAE.sz] at h;unfold yP eD;rw[iM (l:=b.Open) (gJ b) (.inl false) (.inr ()) (by omega) (λrec i hi=>by
  simp only[dK hi,ac,aO hi,bd_s];exact aSu b h rec _ i hi) (λrec=>by simp only[dM,ab])]
 rw[show decide ((b.Open.length:Int)>16)= !decide (b.Open.length<=16) by rw[<-decide_not];exact cA.2 (by omega)];cases bF b.Next 0 1000000<;>cases decide (b.Open.length<=16)<;>cases fO (gJ b) 0 b.Open<;>rfl
def aSv (m:D.aAJ)(h:m.Notices.length<=34359738368){τ:Type}(rec:Nat->Option τ)(r:Option τ)(i:Nat)(hi:i<m.Notices.length):(bd (bif (!bF m.Notices[i].Kind (1:Int) (5:Int)) then(some (true)) else(bif (!bF m.Notices[i].aAH (0:Int) (1000000:Int)) then(some (true)) else(bif (!bF m.Notices[i].Time (0:Int) (1000000:Int)) then(some (true)) else(bif (decide ((↑i:Int)>(0:Int))) then(bd (aY (m.Notices) (IntKind.i64.wrap ((↑i:Int)-(1:Int)))) λz4=>some (decide (z4.Time>m.Notices[i].Time))) else(some (false)))))) λz3=>bif z3 then r else(rec (i+1)))=bif sM m.Notices i m.Notices[i] then r else rec (i+1):=by
 unfold sM;by_cases h0:0<i
 ·rw[Nq h0 hi h,bd_s,show decide ((i:Int)>0)=true by simpa using h0,ao h0];cases bF m.Notices[i].Kind 1 5<;>cases bF m.Notices[i].aAH 0 1000000<;>cases bF m.Notices[i].Time 0 1000000<;>cases decide ((m.Notices.getD (i-1) default).Time>m.Notices[i].Time)<;>rfl
 ·rw[show decide ((i:Int)>0)=false by simpa using h0,aw h0];cases bF m.Notices[i].Kind 1 5<;>cases bF m.Notices[i].aAH 0 1000000<;>cases bF m.Notices[i].Time 0 1000000<;>rfl
def Kn (m:D.aAJ)(h:m.sz<=34359738368):rP m=some (dZ m):=by
 simp only[D.aAJ.sz] at h;unfold rP dZ;rw[iM (l:=m.Notices) (sM m.Notices) (.inl false) (.inr ()) (by omega) (λrec i hi=>by
  simp only[dK hi,ac,aO hi,bd_s];exact aSv m h rec _ i hi) (λrec=>by simp only[dM,ab])]
 rw[show decide ((m.Notices.length:Int)<=30)=decide (m.Notices.length<=30) from cA.2 (by omega)];cases decide (m.Notices.length<=30)<;>cases fO (sM m.Notices) 0 m.Notices<;>rfl
def Ko (m:D.aAJ)(h:m.sz<=34359738368):rW m=some (dZ m):=by
 simp only[D.aAJ.sz] at h;unfold rW dZ;rw[iM (l:=m.Notices) (sM m.Notices) (.inl false) (.inr ()) (by omega) (λrec i hi=>by
  simp only[dK hi,ac,aO hi,bd_s];exact aSv m h rec _ i hi) (λrec=>by simp only[dM,ab])]
 rw[show decide ((m.Notices.length:Int)>30)= !decide (m.Notices.length<=30) by rw[<-decide_not];exact cA.2 (by omega)];cases decide (m.Notices.length<=30)<;>cases fO (sM m.Notices) 0 m.Notices<;>rfl
def aHi (i:Int):Jh i=some (aA i):=by unfold Jh aA;cases i==0<;>cases i==1<;>rfl
def aHj (i:Int):Jy i=some (aA i):=by unfold Jy aA;cases i==0<;>cases i==1<;>rfl
def aDw (e:D.aAC):Eb e=some (cB e):=by unfold Eb;rw[aB (by simp)];rfl
def aDx (e:D.aAC):Ey e=some (cB e):=by unfold Ey;rw[aB (by simp)];rfl
def aMh (l:List D.aAC)(h:l.length<=34359738368):Om l=some (fV l):=by
 unfold Om fV;cases hl:((l.length:Int)==0) with
 |true=>rfl
 |false=>
  have:l.length≠0:=by intro h0;rw[h0] at hl;simp at hl
  rw[aJ (by omega) (by omega),show(l.length:Int)-1=((l.length-1:Nat):Int) by omega,aO (by omega)];simp[List.getD,ae (show l.length-1<l.length by omega)]
def aMi (l:List D.aAC)(h:l.length<=34359738368):Px l=some (fV l):=by
 unfold Px fV;cases hl:((l.length:Int)==0) with
 |true=>rfl
 |false=>
  have:l.length≠0:=by intro h0;rw[h0] at hl;simp at hl
  rw[aJ (by omega) (by omega),show(l.length:Int)-1=((l.length-1:Nat):Int) by omega,aO (by omega)];simp[List.getD,ae (show l.length-1<l.length by omega)]
def X5 (l:List D.aAC)(p:Int)(h:l.length<=34359738368):Bg l p=some (iN l p):=by
 unfold Bg;rw[nC (l:=l) (λe=>e.Kind==2&&e.Device==p) (.inl true) (.inr ()) (by omega) (λrec i hi=>by
  simp only[dK hi,ac,aO hi,bd_s,kP];cases(l[i].Kind==2)<;>rfl) (λrec=>by simp only[dM,ab])]
 unfold iN;cases l.any _<;>rfl
def aMj (l:List D.aAK)(p:Int)(i:Nat)(hi:i<=l.length)(h:l.length<=34359738368){F:(Nat->Option ((Bool⊕PUnit)⊕PUnit))->Nat->Option ((Bool⊕PUnit)⊕PUnit)}(hF:∀rec j (hj:j<i),F rec j=bif (l[j]'(by omega)).Public==p then some (.inl (.inl false)) else rec (j+1))(hE:∀rec,F rec i=some (.inr ())):
  bX FUEL F 0=some (bif (l.take i).any (λq=>q.Public==p) then .inl (.inl false) else .inr ()):=by
 have ht:(l.take i).length=i:=by rw[ce];omega
 exact nC (l:=l.take i) (λq=>q.Public==p) _ _ (by omega) (λrec j hj=>by rw[hF rec j (by omega),gu]) (λrec=>by rw[ht];exact hE rec)
def aXw (a:D.aAH)(h:a.Credentials.length<=34359738368)(i:Nat)(hi:i<a.Credentials.length){τ:Type}{X:Option τ}{r:Option τ}{K:Option τ}(hX:X=bif (a.Credentials.take i).any (λq=>q.Public==a.Credentials[i].Public) then r else K):
  (bd (bif (!bF a.Credentials[i].Handle (0:Int) (1000000:Int)) then(some (true)) else(bif (decide ((↑i:Int)>(0:Int))) then(bd (aY (a.Credentials) (IntKind.i64.wrap ((↑i:Int)-(1:Int)))) λz5=>bif (decide (z5.Handle>=a.Credentials[i].Handle)) then(some (true)) else(bd (some (eU a.Credentials[i].Public)) λz6=>bif (z6==(0:Int)) then(some (true)) else(some (!bF a.Credentials[i].Counter (0:Int) (1000000:Int))))) else(bd (some (eU a.Credentials[i].Public)) λz5=>bif (z5==(0:Int)) then(some (true)) else(some (!bF a.Credentials[i].Counter (0:Int) (1000000:Int)))))) λz4=>bif z4 then r else X)=bif tL a i a.Credentials[i] then r else K:=by
 rw[hX];unfold tL;by_cases h0:0<i
 ·rw[Nq h0 hi h,show decide ((i:Int)>0)=true by simpa using h0,ao h0];simp only[bd_s];cases bF a.Credentials[i].Handle 0 1000000<;>cases decide ((a.Credentials.getD (i-1) default).Handle>=a.Credentials[i].Handle)<;>cases(eU a.Credentials[i].Public==0)<;>cases bF a.Credentials[i].Counter 0 1000000<;>cases(a.Credentials.take i).any (λq=>q.Public==a.Credentials[i].Public)<;>rfl
 ·rw[show decide ((i:Int)>0)=false by simpa using h0,aw h0];simp only[bd_s];cases bF a.Credentials[i].Handle 0 1000000<;>cases(eU a.Credentials[i].Public==0)<;>cases bF a.Credentials[i].Counter 0 1000000<;>cases(a.Credentials.take i).any (λq=>q.Public==a.Credentials[i].Public)<;>rfl
def Kq (a:D.aAH)(h:a.sz<=34359738368):rJ a=some (aZ a):=by
 simp only[D.aAH.sz] at h;unfold rJ aZ;rw[iM (l:=a.Credentials) (tL a) (.inl false) (.inr ()) (by omega) (λrec i hi=>by
  simp only[dK hi,ac,aO hi,bd_s];rw[aMj a.Credentials a.Credentials[i].Public i (by omega) h (λrec j hj=>by simp only[dK hj,ac,aO (show j<a.Credentials.length by omega),bd_s]) (λrec=>by simp only[dM,ab])];have:=aXw a h i hi (X:=nx (some (bif (a.Credentials.take i).any (λq=>q.Public==a.Credentials[i].Public) then Sum.inl (Sum.inl false) else Sum.inr PUnit.unit)) λ_=>rec (i+1)) (r:=some (.inl false)) (K:=rec (i+1)) (by cases(a.Credentials.take i).any _<;>rfl);rw[<-this];simp only[bd_s];generalize(bif !bF a.Credentials[i].Handle 0 1000000 then _ else _:Option Bool)=q;cases q with
  |none=>rfl
  |some b=>cases b<;>rfl) (λrec=>by simp only[dM,ab])]
 rw[show decide ((a.Credentials.length:Int)<=8)=decide (a.Credentials.length<=8) from cA.2 (by omega)];cases bF a.Id 0 1000000<;>cases bF a.Minimum 1 3<;>cases decide (a.Credentials.length<=8)<;>cases fO (tL a) 0 a.Credentials<;>rfl
def Kr (a:D.aAH)(h:a.sz<=34359738368):rV a=some (aZ a):=by
 simp only[D.aAH.sz] at h;unfold rV aZ;rw[iM (l:=a.Credentials) (tL a) (.inl false) (.inr ()) (by omega) (λrec i hi=>by
  have ht:(a.Credentials.take i).length=i:=by rw[ce];omega
  simp only[dK hi,ac,aO hi,bd_s,aI9];rw[aB (show iD a.Credentials (i:Int) by unfold iD;omega)];rw[aMj a.Credentials a.Credentials[i].Public i (by omega) h (λrec j hj=>by simp only[ht,dK hj,ac,aO (show j<(a.Credentials.take i).length by omega),bd_s,gu]) (λrec=>by simp only[ht,dM,ab])];have:=aXw a h i hi (X:=nx (some (bif (a.Credentials.take i).any (λq=>q.Public==a.Credentials[i].Public) then Sum.inl (Sum.inl false) else Sum.inr PUnit.unit)) λ_=>rec (i+1)) (r:=some (.inl false)) (K:=rec (i+1)) (by cases(a.Credentials.take i).any _<;>rfl);rw[<-this];simp only[bd_s];generalize(bif !bF a.Credentials[i].Handle 0 1000000 then _ else _:Option Bool)=q;cases q with
  |none=>rfl
  |some b=>cases b<;>rfl) (λrec=>by simp only[dM,ab])]
 rw[show decide ((a.Credentials.length:Int)>8)= !decide (a.Credentials.length<=8) by rw[<-decide_not];exact cA.2 (by omega)];cases bF a.Id 0 1000000<;>cases bF a.Minimum 1 3<;>cases decide (a.Credentials.length<=8)<;>cases fO (tL a) 0 a.Credentials<;>rfl
def sU (s:ByteArray)(hs:s.size<=34359738368):∀(n f i st:Nat) (acc:List ByteArray),s.size-i=n->n+1<f->st<=i->i<=s.size->acc.length<=i->bX f (λrec1 (i1:(List ByteArray×Int×Int))=>bif (decide (i1.2.2<=(↑s.size:Int))) then(bd (bd (bif (i1.2.2==(↑s.size:Int)) then(some (true)) else(bd (aY (bR s) (i1.2.2)) λz4=>some (z4==(46:Int)))) λz3=>bif z3 then(gd (vD s i1.2.1 i1.2.2) (gd (aV i1.1 [s.extract i1.2.1.toNat i1.2.2.toNat]) (some ((i1.1++[s.extract i1.2.1.toNat i1.2.2.toNat],IntKind.i64.wrap (i1.2.2+(1:Int))))))) else(some (i1.1,i1.2.1))) λ(z2:List ByteArray×Int)=>rec1 ((z2.1,z2.2,IntKind.i64.wrap (i1.2.2+(1:Int))))) else(some (i1.1))) (acc,(st:Int),(i:Int))=some (acc++(iO ((s.data.toList.drop st).take (i-st)) (s.data.toList.drop i)).map λl=>(⟨l.toArray⟩:ByteArray))
 |n,f+1,i,st,acc,hn,hf,h1,h2,h3=>by
  rw[iA];have e0:decide ((i:Int)<=(s.size:Int))=true:=by simpa using(show(i:Int)<=(s.size:Int) by omega)
  have es:vD s (st:Int) (i:Int):=⟨by omega,by omega,by omega⟩;have ea:aV acc ([s.extract (st:Int).toNat (i:Int).toNat]:List ByteArray):=by unfold aV;simp;omega
  have ew:IntKind.i64.wrap ((i:Int)+1)=((i+1:Nat):Int):=by rw[aJ (by omega) (by omega)];omega
  simp only[e0,ac];rcases fp i s.size with hlt|hge
  ·have e1:((i:Int)==(s.size:Int))=false:=by simp;omega
   have hd:s.data.toList.drop i=s.data.toList[i]'hlt::s.data.toList.drop (i+1):=(ct hlt);have hb:(bR s)[i]'(by rw[iP];exact hlt)=((s.data.toList[i]'hlt).toNat:Int):=by simp[bR]
   have hq:(((s.data.toList[i]'hlt).toNat:Int)==46)=(s.data.toList[i]'hlt==46):=by
    rw[eE];simp only[cG];constructor
    ·intro q;apply UInt8.toNat_inj.1;show _=46;omega
    ·intro q;rw[q];rfl
   rw[e1,ab,aWn hlt,bd_s,bd_s,hb,hq,hd,iO];cases hc:(s.data.toList[i]'hlt==46) with
   |true=>rw[ac,aB es,aB ea,bd_s];dsimp only;rw[ew,ac,sU s hs (n-1) f (i+1) (i+1) _ (by omega) (by omega) (aj _) (by omega) (by simp;omega),co,co,ext_list];simp
   |false=>
    rw[ab,bd_s];dsimp only;rw[ew,ab,sU s hs (n-1) f (i+1) st _ (by omega) (by omega) (by omega) (by omega) (by omega)];have:(s.data.toList.drop st).take (i+1-st)=(s.data.toList.drop st).take (i-st)++[s.data.toList[i]'hlt]:=by rw[show i+1-st=(i-st)+1 by omega,fh,eh,show st+(i-st)=i by omega,ae hlt];rfl
    rw[this]
  ·have e1:((i:Int)==(s.size:Int))=true:=by simp;omega
   obtain⟨f,rfl⟩:∃g,f=g+1:=⟨f-1,by omega⟩;have hz:s.data.toList.length<=i:=by have:s.data.toList.length=s.size:=rfl;omega
   have e2:decide (((i+1:Nat):Int)<=(s.size:Int))=false:=by simp;omega
   rw[e1,ac,bd_s,ac,aB es,aB ea,bd_s,iA];dsimp only;rw[ew];simp only[e2,ab];rw[fW hz,iO,co,co,ext_list];rfl
def aHk (s:ByteArray)(h:s.size<=34359738368):Ji s=some (bI s):=by unfold Ji;have hf:=fT;have:=sU s h s.size FUEL 0 0 [] rfl (by omega) (aj _) (cx _) (aj _);rw[show(0:Int)=((0:Nat):Int) from rfl];refine(congrArg (λx=>bd x some) this).trans ?_;simp[bI]
def aMk (s:ByteArray)(h:s.size<=34359738368):Ox s=some (uD s):=by
 unfold Ox uD;have hb:=iP s;rw[nC (l:=bR s) (λb=> !P7 b) (.inl false) (.inr ()) (by omega) (λrec i hi=>by
  have hi':i<s.size:=by omega
  simp only[dK hi',ac,aWn hi',bd_s];generalize(bR s)[i]'_=b;unfold P7 bF;have c1:decide (b>=97)=decide (97<=b):=rfl;have c2:decide (b>=48)=decide (48<=b):=rfl;rw[c1,c2];cases decide (97<=b)<;>cases decide (b<=122)<;>cases decide (48<=b)<;>cases decide (b<=57)<;>cases(b==45)<;>rfl) (λrec=>by simp only[hb,dM,ab])]
 have e:bF (s.size:Int) 1 20=(decide (1<=s.size)&&decide (s.size<=20)):=by unfold bF;congr 1<;>exact cA.2 (by omega)
 rw[e];by_cases h0:0<s.size
 ·rw[show(0:Int)=((0:Nat):Int) from rfl,aWn h0,aJ (by omega) (by omega),show(s.size:Int)-1=((s.size-1:Nat):Int) by omega,aWn (show s.size-1<s.size by omega)];simp only[bd_s,bne,List.getD,ae (show 0<(bR s).length by rw[iP];exact h0),ae (show s.size-1<(bR s).length by rw[iP];omega),cD];cases((bR s)[0]'_==45)<;>cases((bR s)[s.size-1]'_==45)<;>cases decide (1<=s.size)<;>cases decide (s.size<=20)<;>cases(bR s).any _<;>rfl
 ·rw[show decide (1<=s.size)=false from aw (by omega)];cases(bR s).any _<;>rfl
def aPi (s:ByteArray)(h:s.size<=34359738368):Wp s=some (fI s):=by
 unfold Wp fI;have hl:=Ns s;simp only[aB h,bd_s];rw[nC (l:=bI s) (λl=> !uD l) (.inl false) (.inr ()) (by omega) (λrec i hi=>by
  have hz:(bI s)[i].size<=34359738368:=bu (wL s _ (cN _)) h;simp only[dK hi,ac,aO hi,bd_s,aB hz]) (λrec=>by simp only[dM,ab])]
 have e':decide ((s.size:Int)<=60)=decide (s.size<=60):=cA.2 (by omega);rw[e'];cases decide (s.size<=60)<;>cases(bI s).any _<;>rfl
def aPj (s:ByteArray):Wz s=some (fI s):=by
 unfold Wz fI;by_cases h60:s.size<=60
 ·have hl:=Ns s;rw[show decide ((s.size:Int)>60)=false from aw (by omega),ab,aB (show s.size<4294967281/\1<=(⟨#[UInt8.ofNat 46]⟩:ByteArray).size from⟨by omega,aj _⟩),bd_s];have es:kE s ⟨#[UInt8.ofNat 46]⟩=bI s:=aKw s;rw[es];rw[nC (l:=bI s) (λl=> !uD l) (.inl false) (.inr ()) (by omega) (λrec i hi=>by
   have hz:(bI s)[i].size<=60:=bu (wL s _ (cN _)) h60;simp only[dK hi,ac,aO hi,bd_s]
   revert hz
   generalize(bI s)[i]=l;intro hz;have hb:=iP l;rw[nC (l:=bR l) (λb=> !P7 b) (.inl (.inl false)) (.inr ()) (by omega) (λrec i hi=>by
    have hi':i<l.size:=by omega
    simp only[dK hi',ac,aWn hi',bd_s];generalize(bR l)[i]'_=b;unfold P7 bF;have c1:decide (b>=97)=decide (97<=b):=rfl;have c2:decide (b>=48)=decide (48<=b):=rfl;rw[c1,c2];cases decide (97<=b)<;>cases decide (b<=122)<;>cases decide (48<=b)<;>cases decide (b<=57)<;>cases(b==45)<;>rfl) (λrec=>by simp only[hb,dM,ab])]
   unfold uD;by_cases h0:0<l.size
   ·rw[show(0:Int)=((0:Nat):Int) from rfl,aWn h0,aJ (by omega) (by omega),show(l.size:Int)-1=((l.size-1:Nat):Int) by omega,aWn (show l.size-1<l.size by omega)];have e1:decide ((l.size:Int)<1)= !decide (1<=l.size):=by rw[<-decide_not];exact cA.2 (by omega)
    have e2:decide ((l.size:Int)>20)= !decide (l.size<=20):=by rw[<-decide_not];exact cA.2 (by omega)
    rw[e1,e2];simp only[bd_s,bne,List.getD,ae (show 0<(bR l).length by rw[iP];exact h0),ae (show l.size-1<(bR l).length by rw[iP];omega),cD];cases((bR l)[0]'_==45)<;>cases((bR l)[l.size-1]'_==45)<;>cases decide (1<=l.size)<;>cases decide (l.size<=20)<;>cases(bR l).any _<;>rfl
   ·rw[show decide ((l.size:Int)<1)=true from ao (by omega),show decide (1<=l.size)=false from aw (by omega)];rfl) (λrec=>by simp only[dM,ab])]
  rw[show decide (s.size<=60)=true by simpa using h60];cases(bI s).any _<;>rfl
 ·rw[show decide ((s.size:Int)>60)=true from ao (by omega),show decide (s.size<=60)=false by simpa using h60];rfl
def Yt (s:ByteArray):yN s=some (bD4 s):=by
 unfold yN bD4;cases h:fI s with
 |false=>rfl
 |true=>
  have hs:=Nt h;have hp:=aGe s;have es:kE s ⟨#[UInt8.ofNat 46]⟩=bI s:=aKw s;rw[ba,ab,ac,aB (show s.size<4294967281/\1<=(⟨#[UInt8.ofNat 46]⟩:ByteArray).size from⟨by omega,aj _⟩),bd_s,es];rw[show(((bI s).length:Int)==1)=((bI s).length==1) by rw[eE];simp only[cG];omega];cases h1:(bI s).length==1 with
  |true=>rfl
  |false=>
   have h2:(bI s).length≠1:=by simpa using h1
   have hl:=Ns s;obtain⟨a,ha,b,hb,e⟩:=bMh (l:=bI s) (by omega);have ha:=wL s a ha;have hb:=wL s b hb;rw[ab,ab,aJ (by omega) (by omega),show((bI s).length:Int)-2=(((bI s).length-2:Nat):Int) by omega,co];have hd:((bI s).drop ((bI s).length-2)).length=2:=by rw[cn];omega
   have hj:(pF ⟨#[UInt8.ofNat 46]⟩ ((bI s).drop ((bI s).length-2))).size<=140737488355328:=by have e:pF ⟨#[UInt8.ofNat 46]⟩ ((bI s).drop ((bI s).length-2))=_:=e;rw[e,ByteArray.size_append,ByteArray.size_append];have:(⟨#[46]⟩:ByteArray).size=1:=rfl;omega
   rw[aB (show iD (bI s) (((bI s).length-2:Nat):Int) by unfold iD;omega),aB ⟨by omega,hj,by omega⟩];rfl
def aPk (s:ByteArray)(h:s.size<=9223372036854775807):Xa s=some (Sm s):=by
 unfold Xa Sm;have hb:=iP s;rw[nC (l:=bR s) (λb=>b==46) (.inl true) (.inr ()) (by omega) (λrec i hi=>by
  have hi':i<s.size:=by omega
  simp only[dK hi',ac,aWn hi',bd_s]) (λrec=>by simp only[hb,dM,ab])]
 cases(bR s).any _<;>rfl
def Yu (n:ByteArray)(seed:Int)(h:n.size<=9223372036854775807):yO n seed=some (jO n seed):=by
 unfold yO jO;simp only[aB h,bd_s];rw[bQg,aO5];cases h:fI n with
 |false=>rfl
 |true=>rw[bKz h];cases decide (2<=(bI n).length)<;>cases bG seed<;>rfl
def aMl (n:ByteArray)(seed:Int)(h:n.size<=34359738368):Oy n seed=some (fD n seed):=by
 unfold Oy fD jO;have e:decide (((bI n).length:Int)<2)= !decide (2<=(bI n).length):=by rw[<-decide_not];exact cA.2 (by omega)
 simp only[aB h,bd_s,e];cases fI n<;>cases decide (2<=(bI n).length)<;>cases bG seed<;>rfl
def Yv (s:D.Site)(h:s.sz<=34359738368):xY s=some (dD s):=by
 simp only[D.Site.sz] at h;unfold xY dD;rw[iM (l:=s.Accounts) (Hu s.Accounts) (.inl false) (.inr ()) (by omega) (λrec i hi=>by
  have hz:=jM (f:=D.aAH.sz) hi;simp only[dK hi,ac,aO hi,bd_s,aB (show s.Accounts[i].sz<=34359738368 by omega)];unfold Hu;by_cases h0:0<i
  ·rw[Nq h0 hi (by omega),show decide ((i:Int)>0)=true by simpa using h0,ao h0];simp only[bd_s];cases aZ s.Accounts[i]<;>cases decide ((s.Accounts.getD (i-1) default).Id>=s.Accounts[i].Id)<;>rfl
  ·rw[show decide ((i:Int)>0)=false by simpa using h0,aw h0];cases aZ s.Accounts[i]<;>rfl) (λrec=>by simp only[dM,ab])]
 rw[show decide ((s.Accounts.length:Int)<=8)=decide (s.Accounts.length<=8) from cA.2 (by omega)];have e3:(!((fD s.Name s.Book.Seed).Name.toList==(⟨#[]⟩:ByteArray).toList))=jO s.Name s.Book.Seed:=by rw[bQg,aZc,Bool.not_not]
 simp only[aB (show s.Name.size<=34359738368 by omega),aB (show s.Book.sz<=34359738368 by simp only[D.aAE.sz];omega),bd_s,e3];cases jO s.Name s.Book.Seed<;>cases decide (s.Accounts.length<=8)<;>cases eD s.Book<;>cases fO (Hu s.Accounts) 0 s.Accounts<;>rfl
def Yw (s:D.Site)(h:s.sz<=34359738368):yQ s=some (dD s):=by
 simp only[D.Site.sz] at h;unfold yQ dD;rw[iM (l:=s.Accounts) (Hu s.Accounts) (.inl false) (.inr ()) (by omega) (λrec i hi=>by
  have hz:=jM (f:=D.aAH.sz) hi;simp only[dK hi,ac,aO hi,bd_s,aB (show s.Accounts[i].sz<=34359738368 by omega)];unfold Hu;by_cases h0:0<i
  ·rw[Nq h0 hi (by omega),show decide ((i:Int)>0)=true by simpa using h0,ao h0];simp only[bd_s];cases aZ s.Accounts[i]<;>cases decide ((s.Accounts.getD (i-1) default).Id>=s.Accounts[i].Id)<;>rfl
  ·rw[show decide ((i:Int)>0)=false by simpa using h0,aw h0];cases aZ s.Accounts[i]<;>rfl) (λrec=>by simp only[dM,ab])]
 rw[show decide ((s.Accounts.length:Int)>8)= !decide (s.Accounts.length<=8) by rw[<-decide_not];exact cA.2 (by omega)];simp only[aB (show s.Name.size<=9223372036854775807 by omega),aB (show s.Book.sz<=34359738368 by simp only[D.aAE.sz];omega),bd_s];cases jO s.Name s.Book.Seed<;>cases decide (s.Accounts.length<=8)<;>cases eD s.Book<;>cases fO (Hu s.Accounts) 0 s.Accounts<;>rfl
def aMm (l:List D.aAC)(e:D.aAC)(h:l.length<=34359738368):Oq l e=some (lS l e):=by
 unfold Oq lS;have hd:=iI l;rw[nC (l:=l) (λq=>q.Kind==2&&q.Device==e.Device) (.inl false) (.inr ()) (by omega) (λrec i hi=>by
  simp only[dK hi,ac,aO hi,bd_s,kP];cases(l[i].Kind==2)<;>rfl) (λrec=>by simp only[dM,ab])]
 rw[show(l.any λq=>q.Kind==2&&q.Device==e.Device)=iN l e.Device from rfl];simp only[aB h,aB (show(aH l).length<=1099511627776 by omega),aB (show([cB e]:List Int).length<=34359738300 by simp),bd_s,bne];cases(e.Index==(l.length:Int))<;>cases(e.Previous==fV l)<;>cases gX (aH l) e.By<;>cases((l.length:Int)==0)<;>cases(e.By==e.Device)<;>cases gI e.By [cB e] e.Signature<;>cases(e.Kind==2)<;>cases gX (aH l) e.Device<;>cases iN l e.Device<;>cases(e.Kind==1)<;>rfl
def aDy (l:List D.aAC)(h:l.length<=34359738368):Ed l=some (bB l):=by
 unfold Ed bB;rw[iM (l:=l) (λi e=> !lS (l.take i) e) (.inl false) (.inr ()) (by omega) (λrec i hi=>by
  simp only[dK hi,ac,aO hi,bd_s,aI9];rw[aB (by unfold iD;simp;omega),aB (by rw[ce];omega)];rfl) (λrec=>by simp only[dM,ab])]
 cases fO (λi e=> !lS (l.take i) e) 0 l<;>simp
def aDz (l:List D.aAC)(h:l.length<=34359738368):Fa l=some (bB l):=by
 unfold Fa bB;rw[iM (l:=l) (λi e=> !lS (l.take i) e) (.inl false) (.inr ()) (by omega) (λrec i hi=>by
  have ht:(l.take i).length=i:=by rw[ce];omega
  have hb:(l.take i).length<=34359738368:=by omega
  have hd:=iI (l.take i);simp only[dK hi,ac,aO hi,bd_s,aI9,aB (show iD l (i:Int) by unfold iD;omega),aB hb,aB (show(aH (l.take i)).length<=1099511627776 by omega),aB (show([cB l[i]]:List Int).length<=34359738300 by simp)];unfold lS;rw[ht];generalize l[i]=e;have h1:decide (((aH (l.take i)).length:Int)>=6)= !decide (((aH (l.take i)).length:Int)<6):=by rw[<-decide_not];exact cA.2 (by omega)
  have h2:gX (aH (l.take i)) e.Device=true->decide (((aH (l.take i)).length:Int)>1)= !(((aH (l.take i)).length:Int)==1):=λhh=>by
   have:=bHq hh;rw[<-Bool.decide_eq_true (b:=(((aH (l.take i)).length:Int)==1)),<-decide_not];exact cA.2 (by simp;omega)
  simp only[h1,bne];cases h3:(e.Kind==2) with
  |true=>
   have h4:(e.Kind==1)=false:=by simp at h3 ⊢;omega
   rw[h4];cases hd:gX (aH (l.take i)) e.Device with
   |true=>rw[h2 hd];cases(e.Index==(i:Int))<;>cases(e.Previous==fV (l.take i))<;>cases gX (aH (l.take i)) e.By<;>cases((i:Int)==0)<;>cases(e.By==e.Device)<;>cases gI e.By [cB e] e.Signature<;>cases(((aH (l.take i)).length:Int)==1)<;>rfl
   |false=>cases(e.Index==(i:Int))<;>cases(e.Previous==fV (l.take i))<;>cases gX (aH (l.take i)) e.By<;>cases((i:Int)==0)<;>cases(e.By==e.Device)<;>cases gI e.By [cB e] e.Signature<;>rfl
  |false=>
   cases(e.Kind==1) with
   |true=>cases(e.Index==(i:Int))<;>cases(e.Previous==fV (l.take i))<;>cases gX (aH (l.take i)) e.By<;>cases((i:Int)==0)<;>cases(e.By==e.Device)<;>cases gI e.By [cB e] e.Signature<;>cases gX (aH (l.take i)) e.Device<;>cases iN (l.take i) e.Device<;>cases decide (((aH (l.take i)).length:Int)<6)<;>rfl
   |false=>cases(e.Index==(i:Int))<;>cases(e.Previous==fV (l.take i))<;>cases gX (aH (l.take i)) e.By<;>cases((i:Int)==0)<;>cases(e.By==e.Device)<;>cases gI e.By [cB e] e.Signature<;>cases iN (l.take i) e.Device<;>rfl) (λrec=>by simp only[dM,ab])]
 unfold bF;have e1:decide ((l.length:Int)<1)= !decide (1<=(l.length:Int)):=by rw[<-decide_not];exact cA.2 (by omega)
 have e2:decide ((l.length:Int)>40)= !decide ((l.length:Int)<=40):=by rw[<-decide_not];exact cA.2 (by omega)
 rw[e1,e2];cases decide (1<=(l.length:Int))<;>cases decide ((l.length:Int)<=40)<;>cases fO (λi e=> !lS (l.take i) e) 0 l<;>rfl
def Tv (w:D.World)(h:w.sz<=34359738368):vO w=some (aR w):=by
 simp only[D.World.sz] at h;unfold vO aR;rw[iM (l:=w.Sites) kY (.inl false) (.inr ()) (by omega) (λrec i hi=>by
  have hz:=jM (f:=D.Site.sz) hi;simp only[dK hi,ac,aO hi,bd_s,aB (show w.Sites[i].sz<=34359738368 by omega)];unfold kY;cases dD w.Sites[i]<;>cases(w.Sites[i].Name.toList==(aA (i:Int)).toList)<;>rfl) (λrec=>by simp only[dM,ab])]
 simp only[aB (show w.Mail.sz<=34359738368 by simp only[D.aAJ.sz];omega),aB (show w.aAD.Log.length<=34359738368 by omega),bne,bd_s];cases fO kY 0 w.Sites<;>cases bF w.Now 0 999900<;>cases bF (w.Devices.length:Int) 1 6<;>cases((w.Stolen.length:Int)==(w.Devices.length:Int))<;>cases((w.Sites.length:Int)==2)<;>cases dZ w.Mail<;>cases bB w.aAD.Log<;>cases bG w.Seed<;>rfl
def Tw (w:D.World)(h:w.sz<=34359738368):vS w=some (aR w):=by
 simp only[D.World.sz] at h;unfold vS aR;rw[iM (l:=w.Sites) kY (.inl false) (.inr ()) (by omega) (λrec i hi=>by
  have hz:=jM (f:=D.Site.sz) hi;simp only[dK hi,ac,aO hi,bd_s,aB (show w.Sites[i].sz<=34359738368 by omega)];unfold kY;cases dD w.Sites[i]<;>cases(w.Sites[i].Name.toList==(aA (i:Int)).toList)<;>rfl) (λrec=>by simp only[dM,ab])]
 simp only[aB (show w.Mail.sz<=34359738368 by simp only[D.aAJ.sz];omega),aB (show w.aAD.Log.length<=34359738368 by omega),bne,bd_s];cases fO kY 0 w.Sites<;>cases bF w.Now 0 999900<;>cases bF (w.Devices.length:Int) 1 6<;>cases((w.Stolen.length:Int)==(w.Devices.length:Int))<;>cases((w.Sites.length:Int)==2)<;>cases dZ w.Mail<;>cases bB w.aAD.Log<;>cases bG w.Seed<;>rfl
def aUo (a:Int):aUk a=some (gP a 1019):=rfl
def bQs:((1019:Int)≠0)=True:=by simp
def aPl (c:Int)(l:List Int)(x:Int)(h:0<=x/\x<=1000/\l.length<=34359738368):Wt c l x=some (Wi c l x):=by
 obtain⟨h1,h2,h3⟩:=h;have hr:=aK2 ⟨h1,h2⟩ l;have hm:=xA (p:=c) (q:=1019) (by omega);unfold Wt Wi;rw[bHu (l:=l) (aK1 x) some (by omega) (λrec s i hi=>by
  simp only[show decide ((i:Int)>=0)=true from ao (by omega),ac,aO hi,bd_s,bQs,gd_T,aJ (show-9223372036854775808<=(i:Int)-1 by omega) (by omega)];rfl) (λrec s=>rfl) (aJ (by omega) (by omega))]
 simp only[bd_s,bQs,gd_T];rw[aJ (by omega) (by omega),cp (by omega)]
def aMn (k:D.aAV):aLx k=some (Wh k):=rfl
def Yx (b:List Int)(h:b.length<=34359738360):xW b=some (uU b):=by unfold xW uU;rw[bMi (l:=b) IntKind.i64.wrap (by simp;omega) (λrec i s hi hs=>by simp only[dK hi,ac,aO hi,bd_s,eY hs]) (λrec s=>by simp only[dM,ab])];rfl
def Yy (b:List Int)(h:b.length<=34359738360):yT b=some (uU b):=by unfold yT uU;rw[bMi (l:=b) IntKind.i64.wrap (by simp;omega) (λrec i s hi hs=>by simp only[dK hi,ac,aO hi,bd_s,eY hs]) (λrec s=>by simp only[dM,ab])];rfl
def Fs (k:Int)(s:ByteArray)(h:s.size<=34359738300):pQ k s=some (mK k s):=by have hb:=iP s;unfold pQ mK;rw[aJa,aB (by omega),bd_s,aB (by rw[bB5];omega),bd_s,aWj (kM _ _).1]
def Fu (k:Int)(s:ByteArray)(h:s.size<=34359738300):pU k s=some (mK k s):=by have hb:=iP s;unfold pU mK;rw[aJa,aB (by omega),bd_s,aB (by rw[bB5];omega),bd_s]
def aHl (s:ByteArray)(h:s.size<=34359738300):Jj s=some (bH s):=by unfold Jj;rw[aB h];rfl
def aHm (s:ByteArray)(h:s.size<=34359738300):Ka s=some (bH s):=by unfold Ka;rw[aB h];rfl
def aD0 (b:D.aAB)(s h:Int)(hz:b.sz<=34359738368):Fj b s h=some (aG b s h):=by
 simp only[D.aAB.sz] at hz;unfold Fj aG;rw[Nn (l:=b.Entries) (λe=>e.Site==s&&e.Handle==h) (by omega) (λrec i hi=>by
  simp only[dK hi,ac,aO hi,bd_s];cases(b.Entries[i].Site==s)<;>rfl) (λrec=>by simp only[dM,ab])]
def aJm {b:D.aAB}{s h:Int}(hf:decide (aG b s h>=0)=true):aY b.Entries (aG b s h)=some (b.Entries.getD (aG b s h).toNat default)/\(aG b s h).toNat<b.Entries.length/\(b.Entries.getD (aG b s h).toNat default).Site=s/\(b.Entries.getD (aG b s h).toNat default).Handle=h:=by
 have h0:=of_decide_eq_true hf;obtain⟨l1,e,l2,e1,e2,e3⟩:=Sq (p:=λe:D.Entry=>e.Site==s&&e.Handle==h) (l:=b.Entries) (i:=0) h0;have e3:aG b s h=((0+l1.length:Nat):Int):=e3;rw[ca] at e3;have hl:l1.length<b.Entries.length:=by rw[e1];simp
 have hg:b.Entries.getD l1.length default=e:=by rw[e1];simp[List.getD]
 rw[e3,co,hg];simp only[aa,cG] at e2;refine⟨?_,hl,e2.1,e2.2⟩;rw[aO hl];have:b.Entries[l1.length]=e:=by rw[<-hg,List.getD,ae hl];rfl
 rw[this]
def aUp (b:D.aAB)(x:D.Entry):(nE b x).Entries.length<=b.Entries.length+1:=by
 unfold nE;cases decide (aG b x.Site x.Handle>=0) with
 |true=>simp
 |false=>have:=congrArg List.length (eS (p:=λe=>iQ e x.Site x.Handle) (l:=b.Entries));simp only[au] at this;simp only[ab,au,cu];omega
def aHn (b:D.aAB)(s h:Int)(hz:b.sz<=34359738360):Jl b s h=some (Xx b s h):=by
 have hq:=hz;simp only[D.aAB.sz] at hq;have hs:=aUp b (nG b s h);unfold Jl Xx;have hS:(nE b (nG b s h)).sz<=34359738368:=by simp only[D.aAB.sz];omega
 rw[aB (show b.sz<=34359738368 by omega),aB (show b.sz<=34359738368 by omega)];simp only[aB (show b.sz<=34359738360 from hz),aB (show b.sz<=34359738368 by omega),bd_s];cases hf:decide (aG b s h>=0) with
 |true=>
  obtain⟨h1,h2,_,_⟩:=aJm hf;have hv:nG b s h=⟨s,h,IntKind.i64.wrap ((b.Entries.getD (aG b s h).toNat default).Version+1),false⟩:=by unfold nG bD6;rw[hf];rfl
  rw[ac,h1,bd_s];cases hd:(b.Entries.getD (aG b s h).toNat default).Deleted with
  |false=>rfl
  |true=>rw[bd_s,ba,ab,nx_r,<-hv,aB hS];cases aK b<;>cases aK (nE b (nG b s h))<;>rfl
 |false=>
  have hv:nG b s h=⟨s,h,1,false⟩:=by unfold nG bD6;rw[hf];rfl
  rw[ab,nx_r,<-hv,aB hS];cases aK b<;>cases aK (nE b (nG b s h))<;>rfl
def bAc {α:Type}{p:α->Bool}{l:List α}:(l.takeWhile p).length<=l.length:=by have:=congrArg List.length (eS (p:=p) (l:=l));simp only[au] at this;omega
def bQt {α:Type}{p:α->Bool}{l:List α}:l.takeWhile p=l.take (l.takeWhile p).length/\l.dropWhile p=l.drop (l.takeWhile p).length:=by have e:=eS (p:=p) (l:=l);have h1:=congrArg (List.take (l.takeWhile p).length) e;have h2:=congrArg (List.drop (l.takeWhile p).length) e;rw[gm] at h1;rw[im] at h2;exact⟨h1,h2⟩
def bI2 (b:D.aAB)(x:D.Entry)(hz:b.Entries.length<=34359738360){F:(Int->Option Int)->Int->Option Int}
  (hF:∀rec i (hi:i<b.Entries.length),F rec (i:Int)=bif dF b.Entries[i] x then rec (((i+1:Nat):Int)) else some (i:Int)) (hE:∀rec,F rec (b.Entries.length:Int)=some (b.Entries.length:Int)):bX FUEL F 0=some (((b.Entries.takeWhile λe=>iQ e x.Site x.Handle).length:Nat):Int):=by
 refine aKs (λi s=>i<=(b.Entries.takeWhile λe=>iQ e x.Site x.Handle).length/\s=(i:Int)) (b.Entries.takeWhile λe=>iQ e x.Site x.Handle).length _ (by have:=bAc (p:=λe=>iQ e x.Site x.Handle) (l:=b.Entries);omega) ⟨by omega,rfl⟩ (λi s rec hi hv=> ?_) (λs rec hv=> ?_)
 ·obtain⟨_,rfl⟩:=hv;rcases aJl (λe=>iQ e x.Site x.Handle) b.Entries i (by omega) with⟨h1,h2,_⟩|⟨h1,_⟩
  ·refine .inl ⟨_,⟨by omega,rfl⟩,?_⟩;rw[hF rec i h1];have:dF b.Entries[i] x=true:=h2;rw[this];rfl
  ·omega
 ·obtain⟨_,rfl⟩:=hv;rcases aJl (λe=>iQ e x.Site x.Handle) b.Entries _ (aj _) with⟨_,_,h3⟩|⟨_,h2⟩
  ·omega
  ·rcases fp (b.Entries.takeWhile λe=>iQ e x.Site x.Handle).length b.Entries.length with hlt|hge
   ·rw[hF rec _ hlt];have:dF b.Entries[(b.Entries.takeWhile λe=>iQ e x.Site x.Handle).length] x=false:=h2 hlt;rw[this];rfl
   ·have:=bAc (p:=λe=>iQ e x.Site x.Handle) (l:=b.Entries);have e:(b.Entries.takeWhile λe=>iQ e x.Site x.Handle).length=b.Entries.length:=by omega
    rw[e,hE]
def aHo (b:D.aAB)(s h:Int)(hz:b.sz<=34359738360):Kb b s h=some (Xx b s h):=by
 have hq:=hz;simp only[D.aAB.sz] at hq;have hs:=aUp b (nG b s h);have hS:(nE b (nG b s h)).sz<=34359738368:=by simp only[D.aAB.sz];omega
 unfold Kb Xx;simp only[aB (show b.sz<=34359738368 by omega),bd_s];cases hb:aK b with
 |false=>simp
 |true=>
  rw[ba,ab];cases hf:decide (aG b s h>=0) with
  |true=>
   obtain⟨h1,h2,h3,h4⟩:=aJm hf;have h0:=of_decide_eq_true hf;have hv:nG b s h=⟨s,h,IntKind.i64.wrap ((b.Entries.getD (aG b s h).toNat default).Version+1),false⟩:=by unfold nG bD6;rw[hf];rfl
   have hset:nE b (nG b s h)=⟨b.Entries.set (aG b s h).toNat (nG b s h)⟩:=by unfold nE;rw[show(nG b s h).Site=s from rfl,show(nG b s h).Handle=h from rfl,hf];rfl
   rw[ac,h1,bd_s];cases hd:(b.Entries.getD (aG b s h).toNat default).Deleted with
   |false=>rfl
   |true=>rw[bd_s,ba,ab];rw[lN h0 (by rw[ax];exact h2),bd_s,fX,bd_s,nx_r,iS,h3,h4,<-hv,<-hset,aB hS,bd_s];cases aK (nE b (nG b s h))<;>rfl
  |false=>
   have hv:nG b s h=⟨s,h,1,false⟩:=by unfold nG bD6;rw[hf];rfl
   have hset:nE b (nG b s h)=⟨b.Entries.takeWhile (λe=>iQ e s h)++[nG b s h]++b.Entries.dropWhile (λe=>iQ e s h)⟩:=by unfold nE;rw[show(nG b s h).Site=s from rfl,show(nG b s h).Handle=h from rfl,hf];rfl
   have hl:=bAc (p:=λe=>iQ e s h) (l:=b.Entries);obtain⟨w1,w2⟩:=bQt (p:=λe=>iQ e s h) (l:=b.Entries);rw[<-hv,ab,bI2 b (nG b s h) hq (λrec i hi=>by
    simp only[dK hi,ac,aO hi,bd_s,aJ (show-9223372036854775808<=(i:Int)+1 by omega) (by omega)];rfl) (λrec=>by simp only[dM,ab,bd_s])]
   rw[show(nG b s h).Site=s from rfl,show(nG b s h).Handle=h from rfl,bd_s,aI9];rw[aB (show iD b.Entries _ by unfold iD;omega),aB (show iD b.Entries _ by unfold iD;omega),aB (by unfold aV;simp;omega),aB (by unfold aV;simp;omega),aB (by unfold aV;simp;omega),nx_r,bn,<-w1,<-w2,<-hset,aB hS,bd_s];cases aK (nE b (nG b s h))<;>rfl
def WOk.of' {w:D.World}(h:w.sz<=34359738368):WOk w:=by simp only[D.World.sz] at h;unfold WOk;omega
def aHp (w:D.World)(d:Int)(h:w.sz<=34359738368):Js w d=some (aR w&&aM w d):=by unfold Js;rw[aB h,bd_s,aRx (WOk.of' h),bOr,bd_s]
def Yz (b:D.aAB)(s h:Int)(hz:b.sz<=34359738360):yD b s h=some (Xz b s h):=by
 unfold yD Xz;simp only[aB hz,aB (show b.sz<=34359738368 by omega),bd_s];cases aK b with
 |false=>rfl
 |true=>
  by_cases hf:aG b s h<0
  ·rw[ao hf];rfl
  ·obtain⟨h1,h2,h3,h4⟩:=aJm (b:=b) (s:=s) (h:=h) (ao (by omega));rw[aw hf,h1];simp only[bd_s];rw[show(⟨s,h,IntKind.i64.wrap ((b.Entries.getD (aG b s h).toNat default).Version+1),true⟩:D.Entry)=Xy b s h from rfl];cases(b.Entries.getD (aG b s h).toNat default).Deleted<;>cases((b.Entries.getD (aG b s h).toNat default).Version==1000000)<;>rfl
def bI3 {l l':List D.Entry}{i:Nat}{e e':D.Entry}(he:e'.Site=e.Site/\e'.Handle=e.Handle)(hp:(l'.getD (i-1) default).Site=(l.getD (i-1) default).Site/\(l'.getD (i-1) default).Handle=(l.getD (i-1) default).Handle)(h:Nu l i e=false):Nu l' i e'= !bF e'.Version 1 1000000:=by unfold Nu at h ⊢;rw[bq,bq,bq] at h;obtain⟨h1,h2,h3,h4⟩:=h;rw[he.1,he.2,h1,h2,aKy he,wQ hp,h4];simp
def bPe {b:D.aAB}{j:Nat}{x:D.Entry}(hj:j<b.Entries.length)(hx:x.Site=b.Entries[j].Site/\x.Handle=b.Entries[j].Handle)(h:aK b=true):aK ⟨b.Entries.set j x⟩=bF x.Version 1 1000000:=by
 unfold aK at h ⊢;rw[aa,cq] at h;obtain⟨h1,h2⟩:=h;rw[ax,h1,cW];have hg:∀i,((b.Entries.set j x).getD i default).Site=(b.Entries.getD i default).Site/\((b.Entries.set j x).getD i default).Handle=(b.Entries.getD i default).Handle:=λi=>by
  by_cases hij:j=i
  ·subst hij;simp only[List.getD,bg hj,ae hj,cD];exact hx
  ·simp[List.getD,bj hij]
 have h2:=Xw.1 h2;have hb:∀(i:Nat) (hi:i<(b.Entries.set j x).length),Nu (b.Entries.set j x) i (b.Entries.set j x)[i]= !bF (b.Entries.set j x)[i].Version 1 1000000:=λi hi=>by
  have hi':i<b.Entries.length:=by simpa using hi
  have g:=hg i;simp only[List.getD,ae hi,ae hi',cD] at g;exact bI3 g (hg (i-1)) (h2 i hi')
 have hv:∀(i:Nat) (hi:i<b.Entries.length),bF b.Entries[i].Version 1 1000000=true:=λi hi=>by
  have:=h2 i hi;unfold Nu at this;rw[bq,bq,bq] at this;simpa using this.2.2.1
 cases hc:bF x.Version 1 1000000 with
 |true=>
  rw[cq];refine Xw.2 λi hi=> ?_;rw[hb i hi];by_cases hij:j=i
  ·subst hij;rw[fX,hc];rfl
  ·rw[List.getElem_set_ne hij,hv i (by simpa using hi)];rfl
 |false=>rw[dv];refine(Q3 _ 0).2 ⟨j,by simpa using hj,?_⟩;rw[ca,hb j (by simpa using hj),fX,hc];rfl
def bAd {b:D.aAB}(h:aK b=true){i:Nat}(hi:i<b.Entries.length):bF b.Entries[i].Version 1 1000000=true:=by unfold aK at h;rw[aa,cq] at h;have:=Xw.1 h.2 i hi;unfold Nu at this;rw[bq,bq,bq] at this;simpa using this.2.2.1
def Za (b:D.aAB)(s h:Int)(hz:b.sz<=34359738360):zB b s h=some (Xz b s h):=by
 have hq:=hz;simp only[D.aAB.sz] at hq;unfold zB Xz;simp only[aB (show b.sz<=34359738368 by omega),bd_s];cases hb:aK b with
 |false=>rfl
 |true=>
  by_cases hf:aG b s h<0
  ·rw[ao hf];rfl
  ·have hf':decide (aG b s h>=0)=true:=ao (by omega);obtain⟨h1,h2,h3,h4⟩:=aJm hf';have hset:nE b (Xy b s h)=⟨b.Entries.set (aG b s h).toNat (Xy b s h)⟩:=by unfold nE;rw[show(Xy b s h).Site=s from rfl,show(Xy b s h).Handle=h from rfl,hf'];rfl
   have hg:b.Entries.getD (aG b s h).toNat default=b.Entries[(aG b s h).toNat]:=by rw[List.getD,ae h2];rfl
   have hok:=bPe (x:=Xy b s h) h2 ⟨by rw[<-hg,h3];rfl,by rw[<-hg,h4];rfl⟩ hb;have hv:=bAd hb h2;rw[aw hf,h1];simp only[bd_s];cases hd:(b.Entries.getD (aG b s h).toNat default).Deleted with
   |true=>rfl
   |false=>
    have e:(⟨(b.Entries.getD (aG b s h).toNat default).Site,(b.Entries.getD (aG b s h).toNat default).Handle,IntKind.i64.wrap ((b.Entries.getD (aG b s h).toNat default).Version+1),true⟩:D.Entry)=Xy b s h:=by rw[h3,h4];rfl
    rw[lN (by omega) (by rw[ax];exact h2),fX,bd_s,bd_s,iS,e,<-hset];have hS:(nE b (Xy b s h)).sz<=34359738368:=by have:=aUp b (Xy b s h);simp only[D.aAB.sz];omega
    rw[aB hS,bd_s,hset,hok,<-hset];have hv:=jJ hv;have ev:(Xy b s h).Version=b.Entries[(aG b s h).toNat].Version+1:=by show IntKind.i64.wrap ((b.Entries.getD (aG b s h).toNat default).Version+1)=_;rw[hg,aJ (by omega) (by omega)]
    rw[ev,hg];generalize b.Entries[(aG b s h).toNat].Version=v at hv ⊢;unfold bF;by_cases hm:v=1000000
    ·subst hm;rfl
    ·rw[show(v==1000000)=false by simpa using hm,ao (show 1<=v+1 by omega),ao (show v+1<=1000000 by omega)];rfl
def Tx (d:D.Device)(n:ByteArray)(h:Int)(rm:Bool)(hz:d.sz<=34359738360/\n.size<=34359738300):vK d n h rm=some (bW d n h rm):=by
 obtain⟨h1,h2⟩:=hz;have hb:d.aAB.sz<=34359738360:=by simp only[D.Device.sz,D.aAB.sz] at*;omega
 unfold vK bW oH;simp only[aB (show d.sz<=34359738368 by omega),aB h2,aB hb,bd_s];cases rm with
 |true=>simp only[ac,bd_s];cases(Xz d.aAB (bH n) h).2<;>rfl
 |false=>simp only[ab,bd_s];cases(Xx d.aAB (bH n) h).2<;>rfl
def Ty (d:D.Device)(n:ByteArray)(h:Int)(rm:Bool)(hz:d.sz<=34359738360/\n.size<=34359738300):vY d n h rm=some (bW d n h rm):=by
 obtain⟨h1,h2⟩:=hz;have hb:d.aAB.sz<=34359738360:=by simp only[D.Device.sz,D.aAB.sz] at*;omega
 unfold vY bW oH;simp only[aB (show d.sz<=34359738368 by omega),aB h2,aB hb,bd_s];cases rm with
 |true=>simp only[ac,bd_s];cases(Xz d.aAB (bH n) h).2<;>rfl
 |false=>simp only[ab,bd_s];cases(Xx d.aAB (bH n) h).2<;>rfl
def aSw {w:D.World}{d:Int}(h:aM w d=true):0<=d/\d.toNat<w.Devices.length/\(aN w d).sz<=w.sz/\aN w d=w.Devices.getD d.toNat default:=by
 simp only[aM,aa,bp] at h;have hi:d.toNat<w.Devices.length:=by omega
 have:=Hw (f:=D.Device.sz) hi;refine⟨h.1,hi,?_,rfl⟩;show(w.Devices.getD d.toNat default).sz<=_;simp only[D.World.sz];omega
def bFa {d:D.Device}{n:ByteArray}{h:Int}{rm:Bool}(e:(bW d n h rm).2=false):bW d n h rm=(d,false):=by
 unfold bW at e ⊢;cases q:(oH d n h rm).2 with
 |true=>rw[q] at e;cases e
 |false=>rfl
def X6 (w:D.World)(d:Int)(n:ByteArray)(h:Int)(rm:Bool)(hz:w.sz<=34359738300/\n.size<=34359738300):Az w d n h rm=some (jB w d n h rm):=by
 obtain⟨h1,h2⟩:=hz;unfold Az jB;rw[aB (show w.sz<=34359738368 by omega),bd_s,aB (show w.sz<=34359738368 by omega),bd_s];cases hc:(aR w&&aM w d) with
 |false=>rfl
 |true=>
  have hd:=(gj.1 hc).2;obtain⟨k1,k2,k3,k4⟩:=aSw hd;rw[ba,ab,ac,nD hd,bd_s,aB ⟨by omega,h2⟩,bd_s,bd_s];cases e:(bW (aN w d) n h rm).2 with
  |true=>rfl
  |false=>rw[bFa e,ab,k4,aWq k2]
def X7 (w:D.World)(d:Int)(n:ByteArray)(h:Int)(rm:Bool)(hz:w.sz<=34359738300/\n.size<=34359738300):Bu w d n h rm=some (jB w d n h rm):=by
 obtain⟨h1,h2⟩:=hz;unfold Bu jB;rw[aB (show w.sz<=34359738368 by omega),bd_s,aB (show w.sz<=34359738368 by omega),bd_s,vH,bd_s,<-Bool.not_and];cases hc:(aR w&&aM w d) with
 |false=>rfl
 |true=>have hd:=(gj.1 hc).2;obtain⟨k1,k2,k3,k4⟩:=aSw hd;rw[ba,ab,ac,nD hd,bd_s,aB ⟨by omega,h2⟩,bd_s,bd_s];cases e:(bW (aN w d) n h rm).2<;>rfl
def aMo (l:List D.aAC)(h:l.length<=34359738368):Ot l=some (aL l):=by
 unfold Ot;rw[fB (l:=l) (λn e=>bif e.Kind==2 then IntKind.i64.wrap (n+1) else n) (λ_ _=>True) (λs=>some s) (by omega) trivial (λ_ _ _ _=>trivial) (λrec i s hi _=>by
  simp only[dK hi,ac,aO hi,bd_s,kP]) (λrec s _=>by simp only[dM,ab])]
 rfl
def aMp (l:List D.aAC)(h:l.length<=34359738368):Py l=some (aL l):=by
 unfold Py;rw[fB (l:=l) (λn e=>bif e.Kind==2 then IntKind.i64.wrap (n+1) else n) (λ_ _=>True) (λs=>some s) (by omega) trivial (λ_ _ _ _=>trivial) (λrec i s hi _=>by
  simp only[dK hi,ac,aO hi,bd_s,kP]) (λrec s _=>by simp only[dM,ab])]
 rfl
def aPm (p e:Int):Xb p e=some (fH p e):=by unfold Xb;rw[aB (by simp)];rfl
def aPn (p e:Int):Wm p e=some (fH p e):=by unfold Wm;rw[aB (by simp)];rfl
def aPo (k:Int)(b:D.Box)(h:b.Data.length<=34359738200):Wn k b=some (Np k b):=by unfold Wn Np;rw[aB (by omega),bd_s,aB (by simp[aV,uU];omega),aB (by simp[uU];omega)];rfl
def aPp (k:Int)(b:D.Box)(h:b.Data.length<=34359738200):Xc k b=some (Np k b):=by unfold Xc Np;rw[aB (by omega),bd_s,aB (by simp[xK,uU];omega),bd_s,aB (by simp[uU,qB];omega)];simp[qB]
def aD1 {α β:Type}{y:Nat->α->β}:∀{l:List α} {j i:Nat} (hi:i<l.length),Kj (λi x=>[y i x]) j (l.take (i+1))=Kj (λi x=>[y i x]) j (l.take i)++[y (j+i) l[i]]
 |x::xs,j,0,_=>by simp[Kj]
 |x::xs,j,i+1,hi=>by
  have:=aD1 (y:=y) (l:=xs) (j:=j+1) (i:=i) (by simpa using hi);simp only[io,Kj,eJ,this,cC,bn];rw[show j+1+i=j+(i+1) by omega]
def bCo {k:Int}{b:List Int}(hl:b.length<=34359738368){F:(List Int×Nat->Option (List Int))->List Int×Nat->Option (List Int)}
  (hF:∀rec i s (hi:i<b.length),s.length<=34359738368->F rec (s,i)=rec (s++[aKu k i b[i]],i+1)) (hE:∀rec s,F rec (s,b.length)=some s):bX FUEL F ([],0)=some (Kl k b):=by
 refine aKs (λi s=>i<=b.length/\s=(Kj (λi z=>[aKu k i z]) 0 (b.take i),i)) b.length _ (by omega) ⟨by omega,by simp[Kj]⟩ (λi s rec hi hv=> ?_) (λs rec hv=> ?_)
 ·obtain⟨_,rfl⟩:=hv;refine .inl ⟨_,⟨hi,rfl⟩,?_⟩;rw[hF rec i _ hi (by rw[qC,ce];omega),aD1 hi,ca]
 ·obtain⟨_,rfl⟩:=hv;rw[hE,eV];rfl
def aMq (k:Int)(b:List Int)(h:b.length<=34359738368):Pj k b=some (Kl k b):=by
 unfold Pj;rw[bCo (k:=k) h (λrec i s hi hs=>by
  have e:=bHp k i b[i];have h4:((256:Int)≠0)=True:=by simp
  simp only[dK hi,ac,aO hi,bd_s,aB (show([(i:Int)]:List Int).length<=34359738368 by simp),h4,gd_T,e,eY hs]) (λrec s=>by simp only[dM,ab])]
 rfl
def aMr (k:Int)(b:List Int)(h:b.length<=34359738368):Pz k b=some (Kl k b):=by
 unfold Pz;rw[bCo (k:=k) h (λrec i s hi hs=>by
  have e:=bHo k i b[i];simp only[dK hi,ac,aO hi,bd_s,aB (show([(i:Int)]:List Int).length<=34359738368 by simp),e,eY hs]) (λrec s=>by simp only[dM,ab])]
 rfl
def aMs (p:Int)(b:D.Box):Pk p b=some (eF p b):=by
 unfold Pk eF;by_cases hl:b.Data.length<=200
 ·simp only[aB (show b.Data.length<=34359738200 by omega),aB (show b.Data.length<=34359738368 by omega),bd_s,show decide ((b.Data.length:Int)>200)=false from aw (by omega)];cases bG p<;>cases(b.To !=cK p)<;>cases bG b.Ephemeral<;>cases(b.MAC !=Np (fH p b.Ephemeral) b)<;>rfl
 ·rw[show decide ((b.Data.length:Int)>200)=true from ao (by omega)];cases bG p<;>cases(b.To !=cK p)<;>cases bG b.Ephemeral<;>rfl
def X8 {bs:List D.Box}{p:Int}(hl:bs.length<=34359738368){F:(Nat->Option ((List Int×Bool)⊕PUnit))->Nat->Option ((List Int×Bool)⊕PUnit)}
  (hF:∀rec i (hi:i<bs.length),F rec i=bif (eF p bs[i]).2 then some (.inl ((eF p bs[i]).1,true)) else rec (i+1)) (hE:∀rec,F rec bs.length=some (.inr ())):nx (bX FUEL F 0) (λ_=>some (([]:List Int),false))=some (fC bs p):=by
 have go:∀(k i n:Nat),i+k=bs.length->k<n->nx (bX n F i) (λ_=>some (([]:List Int),false))=some (fC (bs.drop i) p):=by
  intro k;induction k with
  |zero=>
   intro i n hk hn;obtain⟨n,rfl⟩:∃m,n=m+1:=⟨n-1,by omega⟩;have:i=bs.length:=by omega
   subst this;rw[iA,hE,dz];rfl
  |succ k ih=>
   intro i n hk hn;obtain⟨n,rfl⟩:∃m,n=m+1:=⟨n-1,by omega⟩;have hi:i<bs.length:=by omega
   rw[iA,hF _ i hi,ct hi,fC];cases(eF p bs[i]).2 with
   |true=>rfl
   |false=>exact ih (i+1) n (by omega) (by omega)
 exact go bs.length 0 FUEL (by omega) (by have:=fT;omega)
def aMt (bs:List D.Box)(p:Int)(h:bs.length<=34359738368):Pm bs p=some (fC bs p):=by unfold Pm;exact X8 h (λrec i hi=>by simp only[dK hi,ac,aO hi,bd_s]) (λrec=>by simp only[dM,ab])
def aMu (p:Int)(b:D.Box):Qa p b=some (eF p b):=by
 unfold Qa eF;by_cases hl:b.Data.length<=200
 ·simp only[aB (show b.Data.length<=34359738200 by omega),aB (show b.Data.length<=34359738368 by omega),bd_s,show decide ((b.Data.length:Int)>200)=false from aw (by omega)];cases bG p<;>cases(b.To !=cK p)<;>cases bG b.Ephemeral<;>cases(b.MAC !=Np (fH p b.Ephemeral) b)<;>rfl
 ·rw[show decide ((b.Data.length:Int)>200)=true from ao (by omega)];cases bG p<;>cases(b.To !=cK p)<;>cases bG b.Ephemeral<;>rfl
def aMv (bs:List D.Box)(p:Int)(h:bs.length<=34359738368):Qb bs p=some (fC bs p):=by unfold Qb;exact X8 h (λrec i hi=>by simp only[dK hi,ac,aO hi,bd_s]) (λrec=>by simp only[dM,ab])
def aMw {c:D.aAD}{b:Int}(hz:c.sz<=34359738368)(h0:0<=b/\b<(c.History.length:Int)):aY c.History (IntKind.i64.wrap (IntKind.i64.wrap ((c.History.length:Int)-1)-b))=some (c.History.getD (c.History.length-1-b.toNat) default)/\(c.History.getD (c.History.length-1-b.toNat) default).sz<=34359738368:=by simp only[D.aAD.sz] at hz;have h1:=Hw (f:=D.aAA.sz) (l:=c.History) (i:=c.History.length-1-b.toNat) (by omega);refine⟨?_,by omega⟩;rw[aJ (n:=(c.History.length:Int)-1) (by omega) (by omega),aJ (by omega) (by omega),uE (by omega) (by omega)];congr 2;omega
def Zb (c:D.aAD)(b:Int)(hz:c.sz<=34359738368):yF c b=some (dI c b):=by
 unfold yF dI;rw[bK0 (by simp only[D.aAD.sz] at hz;omega)];cases e:(decide (b<0)||decide (b>=(c.History.length:Int))) with
 |true=>rfl
 |false=>obtain⟨h1,h2⟩:=aMw hz (aT2 e);rw[ab,ab,h1,bd_s,aB h2,bd_s]
def Zc (c:D.aAD)(b:Int)(hz:c.sz<=34359738368):yS c b=some (dI c b):=by
 unfold yS dI;rw[vH,bd_s];cases e:(decide (b<0)||decide (b>=(c.History.length:Int))) with
 |true=>rfl
 |false=>obtain⟨h1,h2⟩:=aMw hz (aT2 e);rw[ab,ab,h1,bd_s,aB h2,bd_s]
def aXx {a b:List D.aAC}(ha:a.length<=34359738368){F:(Nat->Option (Bool⊕PUnit))->Nat->Option (Bool⊕PUnit)}
  (hF:∀rec i (hi:i<b.length) (hj:i<a.length),F rec i=bif !aZf a[i] b[i] then some (.inl false) else rec (i+1)) (hE:∀rec,F rec b.length=some (.inr ())):
  (bif decide ((a.length:Int)<(b.length:Int)) then some false else nx (bX FUEL F 0) λ_=>some true)=some (cO a b):=by
 unfold cO;by_cases h:b.length<=a.length
 ·rw[aw (show ¬(a.length:Int)<(b.length:Int) by omega),ab,ao h,cW,
   iM (l:=b) (λi e=> !aZf (a.getD i default) e) (.inl false) (.inr ()) (by omega) (λrec i hi=>by
    rw[hF rec i hi (by omega),List.getD,ae (show i<a.length by omega)];rfl) hE]
  cases fO (λi e=> !aZf (a.getD i default) e) 0 b<;>rfl
 ·rw[ao (show(a.length:Int)<(b.length:Int) by omega),aw h];rfl
def X9 (a b:List D.aAC)(h:a.length<=34359738368):Ak a b=some (cO a b):=by unfold Ak;exact aXx h (λrec i hi hj=>by simp only[dK hi,ac,aO hi,aO hj,bd_s];rfl) (λrec=>by simp only[dM,ab])
def Y1 (a b:List D.aAC)(h:a.length<=34359738368):Bh a b=some (cO a b):=by unfold Bh;exact aXx h (λrec i hi hj=>by simp only[dK hi,ac,aO hi,aO hj,bd_s];rfl) (λrec=>by simp only[dM,ab])
def aD2 (k:Int)(b:D.aAA)(h:b.Data.length<=34359738200):Eh k b=some (fZ k b):=by unfold Eh fZ;rw[aB (by omega),bd_s,aB (by simp[aV,uU];omega),aB (by simp[uU];omega)];rfl
def aD3 (k:Int)(b:D.aAA)(h:b.Data.length<=34359738200):Fg k b=some (fZ k b):=by unfold Fg fZ;rw[aB (by omega),bd_s,aB (by simp[xK,uU];omega),bd_s,aB (by simp[uU,qB];omega)];simp[qB]
def aHq (k e v:Int):Jm k e v=some (bG k&&(bF e 0 1000000&&bF v 0 1000000)):=by unfold Jm;cases bG k<;>cases bF e 0 1000000<;>rfl
def aPq (k e v:Int):Ws k e v=some (jP k e v):=by unfold Ws;rw[aB (by simp)];rfl
def zD (b:List Int)(hb:aQ b)(p:Nat)(hp:p<=34359738368){F:(Int×Int×Nat->Option ((Int×Int×Bool)⊕PUnit))->Int×Int×Nat->Option ((Int×Int×Bool)⊕PUnit)}
  (hF:∀rec (n q:Int) (i:Nat),F rec (n,q,i)=bif decide ((i:Int)<6) then(bif decide (IntKind.i64.wrap ((p:Int)+(i:Int))>=(b.length:Int)) then some (.inl (0,0,false)) else bd (aY b (IntKind.i64.wrap ((p:Int)+(i:Int)))) λz=>gd ((128:Int)≠0) (bif decide (IntKind.i64.wrap z<128) then(bd (bif decide ((i:Int)>0) then(bif IntKind.i64.wrap z==0 then some true else some (decide (IntKind.i64.wrap (n+IntKind.i64.wrap ((IntKind.i64.wrap z).tmod 128*q))>1000000000000))) else some (decide (IntKind.i64.wrap (n+IntKind.i64.wrap ((IntKind.i64.wrap z).tmod 128*q))>1000000000000))) λc=>bif c then some (.inl (0,0,false)) else some (.inl (IntKind.i64.wrap (n+IntKind.i64.wrap ((IntKind.i64.wrap z).tmod 128*q)),IntKind.i64.wrap (IntKind.i64.wrap ((p:Int)+(i:Int))+1),true))) else rec (IntKind.i64.wrap (n+IntKind.i64.wrap ((IntKind.i64.wrap z).tmod 128*q)),IntKind.i64.wrap (q*128),i+1))) else some (.inr ())):
  ∀(k i:Nat) (n:Int) (f:Nat),i+k=6->k<f->0<=n->n<128^i->nx (bX f F (n,(128:Int)^i,i)) (λ_=>some ((0:Int),(0:Int),false))=some (uvG b p k i n)
 |0,i,n,f+1,hk,hf,h0,h1=>by
  rw[iA,hF,show decide ((i:Int)<6)=false from aw (by omega)];rfl
 |k+1,i,n,f+1,hk,hf,h0,h1=>by
  have hp128:=aTz (i:=i) (by omega);rw[iA,hF,show decide ((i:Int)<6)=true from ao (by omega),ac];rw[show IntKind.i64.wrap ((p:Int)+(i:Int))=((p+i:Nat):Int) by rw[aJ (by omega) (by omega)];omega];unfold uvG;by_cases hlt:p+i<b.length
  ·have hz:=uC hb hlt;have hg:b.getD (p+i) 0=b[p+i]:=by simp[List.getD,ae hlt]
   rw[cH hlt,hg,aO hlt];generalize b[p+i]=z at hz;rw[show decide (((p+i:Nat):Int)>=(b.length:Int))=false from aw (by omega)];have hs:=aT0 (z:=z) (n:=n) (i:=i) (by omega) hz.1 h0 h1;have hwz:IntKind.i64.wrap z=z:=aJ (by omega) (by omega);have htm:z.tmod 128=z%128:=cp hz.1;have hw1:IntKind.i64.wrap (z%128*128^i)=z%128*128^i:=aJ (by omega) (by omega);have hp6:=aTz (i:=i+1) (by omega);have hw2:IntKind.i64.wrap (n+z%128*128^i)=n+z%128*128^i:=aJ (by omega) (by omega);have hw3:IntKind.i64.wrap (((p+i:Nat):Int)+1)=((p+i+1:Nat):Int):=by rw[aJ (by omega) (by omega)];omega
   have hw4:IntKind.i64.wrap ((128:Int)^i*128)=128^(i+1):=by rw[<-e9,aJ (by omega) (by omega)]
   have h128n:((128:Int)≠0)=True:=by simp
   simp only[ab,bd_s,hwz,htm,hw1,hw2,hw3,hw4,h128n,gd_T];by_cases h128:z<128
   ·simp only[h128,decide_true,ac];have e:(decide ((i:Int)>0))=decide (0<i):=cA.2 (by omega);rw[e];cases decide (0<i)<;>cases(z==0)<;>cases decide (n+z%128*128^i>1000000000000)<;>rfl
   ·simp only[h128,decide_false,ab];exact zD b hb p hp hF k (i+1) _ f (by omega) (by omega) hs.1 hs.2.1
  ·rw[cX hlt,show decide (((p+i:Nat):Int)>=(b.length:Int))=true from ao (by omega)];rfl
def Zd (b:List Int)(a:Int)(hb:aQ b):yU b a=some (wK b a):=by
 unfold yU wK;have hf:=fT;have hlen:=hb.1;rw[vH,bd_s];by_cases h0:a<0
 ·simp[h0]
 ·rw[cX h0,aw h0,cL];by_cases h1:a>=b.length
  ·rw[ao h1];unfold uvG;rw[cX (by omega)];rfl
  ·rw[aw h1,ab];obtain⟨p,rfl⟩:=eC (show 0<=a by omega);exact zD b hb p (by omega) (λrec n q i=>rfl) 6 0 0 FUEL rfl (by omega) (by omega) (by decide)
def Ih (b:List Int)(c:Int)(hc:c<=100){F:(Int×List Int×Nat->Option ((List Int×Int×Bool)⊕(Int×List Int)))->Int×List Int×Nat->Option ((List Int×Int×Bool)⊕(Int×List Int))}
  (hF:∀rec (a:Int) (s:List Int) (i:Nat),s.length<=34359738368->F rec (a,s,i)=bif decide ((i:Int)<c) then(bif !(wK b a).2.2 then some (.inl ([],0,false)) else rec ((wK b a).2.1,s++[(wK b a).1],i+1)) else some (.inr (a,s))):
  ∀(k i:Nat) (a:Int) (s:List Int) (f:Nat),((i+k:Nat):Int)=c->k<f->s.length<=i->nx (bX f F (a,s,i)) (λz=>some (z.2,z.1,true))=some (jN b k a s)
 |0,i,a,s,f+1,hk,hf,hs=>by
  rw[iA,hF _ _ _ _ (by omega),show decide ((i:Int)<c)=false from aw (by omega)];rfl
 |k+1,i,a,s,f+1,hk,hf,hs=>by
  rw[iA,hF _ _ _ _ (by omega),show decide ((i:Int)<c)=true from ao (by omega),ac];unfold jN;cases(wK b a).2.2 with
  |false=>rfl
  |true=>simp only[ba,ab,ac];exact Ih b c hc hF k (i+1) _ _ f (by omega) (by omega) (by simp;omega)
def Y2 (b:List Int)(a c:Int)(hb:aQ b):Bi b a c=some (gT b a c):=by
 unfold Bi gT bF;by_cases h1:c<0
 ·simp[h1,show ¬0<=c by omega]
 ·by_cases h2:c>100
  ·simp[h1,h2,show ¬c<=100 by omega]
  ·by_cases h3:a<0
   ·simp[h1,h2,h3,show ¬0<=a by omega]
   ·by_cases h4:a>b.length
    ·simp[h1,h2,h3,h4,show ¬a<=b.length by omega]
    ·simp only[h1,h2,h3,h4,decide_false,ab,bd_s,show 0<=c by omega,show c<=100 by omega,show 0<=a by omega,show a<=b.length by omega,decide_true,fb,ba,Bool.or_self,ab];exact Ih b c (by omega) (λrec a s i hs=>by simp only[aB hb,bd_s,eY hs]) c.toNat 0 a [] FUEL (by omega) (by have:=fT;omega) (by simp)
def Y3 (b:List Int)(a c:Int)(hb:aQ b):Ap b a c=some (gT b a c):=by
 unfold Ap gT;cases h1:bF c 0 100 with
 |false=>rfl
 |true=>
  cases h2:bF a 0 b.length with
  |false=>rfl
  |true=>have:=jJ h1;simp only[ba,ab,bd_s,Bool.or_self];exact Ih b c (by omega) (λrec a s i hs=>by simp only[aB hb,bd_s,eY hs]) c.toNat 0 a [] FUEL (by omega) (by have:=fT;omega) (by simp)
def zF (b:List Int)(hb:aQ b)(a:Int)(ha:0<=a){F:(Int×Nat->Option ((Int×Int×Bool)⊕PUnit))->Int×Nat->Option ((Int×Int×Bool)⊕PUnit)}
  (hF:∀rec (n:Int) (i:Nat),F rec (n,i)=bif decide ((i:Int)<6) then(bd (bif decide (a<0) then some true else some (decide (a>=IntKind.i64.wrap ((b.length:Int)-(i:Int))))) λc=>bif c then some (.inl (0,0,false)) else bd (aY b (IntKind.i64.wrap (a+(i:Int)))) λz=>gd ((0:Int)<=IntKind.i64.wrap (7*(i:Int))) (bif decide (IntKind.i64.wrap z<128) then(bd (bif IntKind.i64.wrap z==0 then(bif decide ((i:Int)>0) then some true else some (decide (orI .i64 n (L8 .i64 (mG .i64 (IntKind.i64.wrap z) 127) (IntKind.i64.wrap (7*(i:Int))))>1000000000000))) else some (decide (orI .i64 n (L8 .i64 (mG .i64 (IntKind.i64.wrap z) 127) (IntKind.i64.wrap (7*(i:Int))))>1000000000000))) λc=>bif c then some (.inl (0,0,false)) else some (.inl (orI .i64 n (L8 .i64 (mG .i64 (IntKind.i64.wrap z) 127) (IntKind.i64.wrap (7*(i:Int)))),IntKind.i64.wrap (IntKind.i64.wrap (a+(i:Int))+1),true))) else rec (orI .i64 n (L8 .i64 (mG .i64 (IntKind.i64.wrap z) 127) (IntKind.i64.wrap (7*(i:Int)))),i+1))) else some (.inr ())):
  ∀(k i:Nat) (n:Int) (f:Nat),i+k=6->k<f->0<=n->n<128^i->nx (bX f F (n,i)) (λ_=>some ((0:Int),(0:Int),false))=some (uvG b a.toNat k i n)
 |0,i,n,f+1,hk,hf,h0,h1=>by
  rw[iA,hF,show decide ((i:Int)<6)=false from aw (by omega)];rfl
 |k+1,i,n,f+1,hk,hf,h0,h1=>by
  have hlen:=hb.1;rw[iA,hF,show decide ((i:Int)<6)=true from ao (by omega),ac,vH,bd_s];rw[show IntKind.i64.wrap ((b.length:Int)-(i:Int))=(b.length:Int)-(i:Int) from aJ (by omega) (by omega),show decide (a<0)=false from aw (by omega),cL];unfold uvG;by_cases hlt:a.toNat+i<b.length
  ·have hz:=uC hb hlt;have hg:b.getD (a.toNat+i) 0=b[a.toNat+i]:=by simp[List.getD,ae hlt]
   have hwa:IntKind.i64.wrap (a+(i:Int))=((a.toNat+i:Nat):Int):=by rw[aJ (by omega) (by omega)];omega
   rw[cH hlt,hg,hwa,aO hlt];generalize b[a.toNat+i]=z at hz;rw[show decide (a>=(b.length:Int)-(i:Int))=false from aw (by omega)];have hs:=aT0 (z:=z) (n:=n) (i:=i) (by omega) hz.1 h0 h1;have hwz:IntKind.i64.wrap z=z:=aJ (by omega) (by omega);have ho:=bKy (z:=z) (n:=n) (i:=i) (by omega) hz.1 hz.2 h0 h1;have hw3:IntKind.i64.wrap (((a.toNat+i:Nat):Int)+1)=((a.toNat+i+1:Nat):Int):=by rw[aJ (by omega) (by omega)];omega
   have h7:0<=IntKind.i64.wrap ((7:Int)*(i:Int)):=by rw[aJ (by omega) (by omega)];omega
   simp only[ab,bd_s,hwz,ho,hw3];rw[aB h7];by_cases h128:z<128
   ·simp only[h128,decide_true,ac];have e:(decide ((i:Int)>0))=decide (0<i):=cA.2 (by omega);rw[e];cases decide (0<i)<;>cases(z==0)<;>cases decide (n+z%128*128^i>1000000000000)<;>rfl
   ·simp only[h128,decide_false,ab];exact zF b hb a ha hF k (i+1) _ f (by omega) (by omega) hs.1 hs.2.1
  ·rw[cX hlt,show decide (a>=(b.length:Int)-(i:Int))=true from ao (by omega)];rfl
def Ze (b:List Int)(a:Int)(hb:aQ b):yG b a=some (wK b a):=by
 unfold yG wK;have hf:=fT;by_cases h0:a<0
 ·rw[cH h0];obtain⟨f,hf'⟩:∃f,FUEL=f+1:=⟨FUEL-1,by omega⟩;rw[hf',iA];simp[h0,nx]
 ·rw[cX h0];exact zF b hb a (by omega) (λrec n i=>rfl) 6 0 0 FUEL rfl (by omega) (by omega) (by decide)
def Kt (s:D.aAI)(e:D.aAF)(hz:e.sz<=34359738368):rM s e=some (bD s e):=by
 simp only[D.aAF.sz] at hz;unfold rM bD;rw[aB (by omega),bd_s,aB (Xu _ _),bd_s];generalize fC e.Boxes (fU s)=x;obtain⟨x1,x2⟩:=x;dsimp only;cases x2 with
 |false=>rfl
 |true=>
  have hl:=λh=>decode_len (b:=x1) (a:=0) (c:=2) (by omega) h;generalize gT x1 0 2=y at hl;obtain⟨y1,y2,y3⟩:=y;unfold Ht;cases y3 with
  |false=>rfl
  |true=>
   have hl':y1.length=2:=hl rfl;obtain⟨a,c,rfl⟩:∃a c,y1=[a,c]:=by
    match y1,hl' with
    |[a,c],_=>exact⟨a,c,rfl⟩
   have e0:aY [a,c] 0=some a:=rfl;have e1:aY [a,c] 1=some c:=rfl;simp only[e0,e1,bd_s,ba,ab,cL];cases(y2 !=(x1.length:Int))<;>cases ha:(a !=e.Epoch)<;>cases hc:bG c<;>simp[ha,hc]
def Ku (s:D.aAI)(e:D.aAF)(hz:e.sz<=34359738368):rX s e=some (bD s e):=by
 simp only[D.aAF.sz] at hz;unfold rX bD;rw[aB (by simp),bd_s,aB (by omega),bd_s,aB (Xu _ _),show aU s.Seed [181]=fU s from rfl];generalize fC e.Boxes (fU s)=x;obtain⟨x1,x2⟩:=x;dsimp only;cases x2 with
 |false=>rfl
 |true=>
  have hl:=λh=>decode_len (b:=x1) (a:=0) (c:=2) (by omega) h;generalize gT x1 0 2=y at hl;obtain⟨y1,y2,y3⟩:=y;unfold Ht;cases y3 with
  |false=>rfl
  |true=>
   have hl':y1.length=2:=hl rfl;obtain⟨a,c,rfl⟩:∃a c,y1=[a,c]:=by
    match y1,hl' with
    |[a,c],_=>exact⟨a,c,rfl⟩
   have e0:aY [a,c] 0=some a:=rfl;have e1:aY [a,c] 1=some c:=rfl;simp only[e0,e1,bd_s,ba,ab,cL];cases(y2 !=(x1.length:Int))<;>cases ha:(a !=e.Epoch)<;>cases hc:bG c<;>simp[ha,hc]
def bCp {F:(Int×List Int->Option (Int×List Int))->Int×List Int->Option (Int×List Int)}{n:Int}{b:List Int}(hk:0<=n/\n<=1000000000000)(hb:b.length<=34359738300)
  (hF:∀rec (n:Int) (s:List Int),0<=n->n<9223372036854775807->s.length<=34359738368->F rec (n,s)=bif decide (n>127) then rec (n/128,s++[n%128+128]) else some (n,s)):
  (bd (EV.bX FUEL F (n,b)) λz=>gd (aV z.2 [IntKind.u8.wrap z.1]) (some (z.2++[IntKind.u8.wrap z.1])))=some (b++uvE 5 n):=by
 have h7:(128:Int)^(5+1)=4398046511104:=by decide
 obtain⟨m,q,e1,e2,e3,e4⟩:=aWv hF 5 n b FUEL (by have:=fT;omega) hk.1 (by omega) (by omega) (by omega);have hq:q.length<=34359738368:=by have h1:=congrArg List.length e2;have h2:=(aT3 5 n).2;simp only[au,cu] at h1;omega
 rw[e1,bd_s];simp only[aK3 e3 (show m<=255 by omega)];rw[eY (s:=q) hq,e2]
def Qf (b:List Int)(n:Int)(h:b.length<=34359738300):uJ b n=some (qD b n):=by
 unfold uJ qD enc1;rw[mO (by omega)];cases hr:bF n 0 1000000000000 with
 |false=>simp
 |true=>
  rw[ba,ab,ac,bn];exact bCp (jJ hr) h (λrec n s h0 h1 h2=>by
   show(bif decide (n>127) then gd (aV s [IntKind.u8.wrap (orI .i64 (mG .i64 n 127) 128)]) (gd ((0:Int)<=7) (rec (Co .i64 n 7,s++[IntKind.u8.wrap (orI .i64 (mG .i64 n 127) 128)]))) else some (n,s))=_;rw[bK4 h0 (by omega),bOu (jo _ (by decide)) (ir _ (by decide)),bQi h0,aK3 (by omega) (by omega),eY (s:=s) h2,aB (show(0:Int)<=7 by decide)])
def aD4:∀(l s:List Int),l.foldl qD s=s++gF l
 |[],s=>by simp[gF]
 |x::l,s=>by rw[dc,aD4 l,sO,qD,cf]
def Y4 (l:List Int)(h:l.length<=5000000000):Ah l=some (gF l):=by
 unfold Ah;rw[fB (l:=l) qD (λi s=>s.length<=6*i) (λs=>some s) (by omega) (by simp) (λi s hi hv=>by have:=Nv l[i];simp only[qD,au];omega) (λrec i s hi hv=>by
  simp only[dK hi,ac,aO hi,bd_s,aB (show s.length<=34359738300 by omega)]) (λrec s _=>by simp only[dM,ab]),aD4]
 rfl
def Zg:∀(l:List D.Entry) (s:List Int),l.foldl (λs e=>s++aO7 e) s=s++iR l
 |[],s=>by simp[iR]
 |x::l,s=>by rw[dc,Zg l];simp[iR]
def Tz (b:D.aAB)(h:b.sz<=34359738368):vL b=some (lT b):=by
 unfold vL lT;rw[aB h,bd_s];cases hb:aK b with
 |false=>rfl
 |true=>
  have hl:=kQ hb;have hv:(nX b).length=1+4*b.Entries.length:=by simp[nX,sP];omega
  rw[ba,ab,ac,fB (l:=b.Entries) (λs e=>s++aO7 e) (λi s=>s.length<=1+4*i) (λs=>some s) (by omega) (by simp) (λi s hi hv=>by simp only[aO7,au,av,bo];omega) (λrec i s hi hv=>by
   have e:∀x y z w:Int,gd (aV s [x,y,z,w]) (some (s++[x,y,z,w]))=some (s++[x,y,z,w]):=λ_ _ _ _=>aB (by unfold aV;simp only[av,bo];omega);simp only[dK hi,ac,aO hi,bd_s,kP,e];rfl) (λrec s _=>by simp only[dM,ab]),Zg,bd_s]
  rw[aB (show([(b.Entries.length:Int)]++iR b.Entries).length<=5000000000 by show(nX b).length<=_;omega),bd_s];rfl
def Y5 (a b:List Int)(h:aQ a/\aQ b):Aq a b=some (a==b):=by obtain⟨ha,hb⟩:=h;have h1:=ha.1;have h2:=hb.1;unfold Aq;rw[aB (by omega),aB (by omega),aJa,aJa,ByteArray.toList_eq,ByteArray.toList_eq,aR2,aR2];congr 1;rw[eE,cG,cG];exact⟨λh=>bytes_inj (Ny ha) (Ny hb) h,λh=>by rw[h]⟩
def bQu {v:List Int}{i:Nat}(h:4*i+3<v.length):v.drop (4*i)=v[4*i]::v[4*i+1]::v[4*i+2]::v[4*i+3]::v.drop (4*(i+1)):=by rw[ct (show 4*i<v.length by omega),ct (show 4*i+1<v.length by omega),ct (show 4*i+1+1<v.length by omega),ct (show 4*i+1+1+1<v.length by omega)];rfl
def aXy {v:List Int}{k:Nat}(hv:v.length=4*k)(hk:k<=20){τ:Type}{x:τ}{F:(Nat×List D.Entry->Option (τ⊕List D.Entry))->Nat×List D.Entry->Option (τ⊕List D.Entry)}
  (hF:∀rec i s (hi:i<k) (h:4*i+3<v.length),s.length<=100->F rec (i,s)=bif decide (v[4*i+3]>1) then some (.inl x) else rec (i+1,s++[⟨v[4*i],v[4*i+1],v[4*i+2],v[4*i+3]==1⟩])) (hE:∀rec s,F rec (k,s)=some (.inr s)):
  ∀(m i n:Nat) (s:List D.Entry),i+m=k->m<n->s.length<=i->EV.bX n F (i,s)=some (bif jZ (v.drop (4*i)) then .inr (s++kJ (v.drop (4*i))) else .inl x)
 |0,i,n+1,s,h,_,_=>by
  have:i=k:=by omega
  subst this;rw[iA,hE,fW (by omega)];simp[jZ,kJ]
 |m+1,i,n+1,s,h,hn,hs=>by
  have h4:4*i+3<v.length:=by omega
  rw[iA,hF _ i s (by omega) h4 (by omega),bQu h4];simp only[jZ,kJ];by_cases hg:v[4*i+3]>1
  ·rw[ao hg,aw (show ¬v[4*i+3]<=1 by omega)];rfl
  ·rw[aw hg,ao (show v[4*i+3]<=1 by omega),ab,cW,aXy hv hk hF hE m (i+1) n _ (by omega) (by omega) (by simp;omega)];simp
def aXz {a:List Int}(hb:aQ a)(hc:(!(wK a 0).2.2||decide ((wK a 0).1>20))=false):∃(n:Int) (q:Nat),wK a 0=(n,(q:Int),true)/\0<=n/\n<=20/\q<=a.length:=by
 simp only[bq,dv,di] at hc;cases hu:wK a 0 with
 |mk n r=>obtain⟨e,ok⟩:=r;rw[hu] at hc;obtain⟨rfl,hc2⟩:=hc;obtain⟨q,⟨_,g1,g2,g3,g4⟩,_⟩:=aT4 hb hu;exact⟨n,q,by rw[g3],g1,by simp only at hc2;omega,g4⟩
def aX0 {a:List Int}{e c:Int}(h0:0<=c)(h1:c<=100)(h2:0<=e)(h3:e<=a.length):gT a e c=jN a c.toNat e []:=by unfold gT bF;rw[ao h0,ao h1,ao h2,ao h3];rfl
def aUq {v:List Int}{i j:Nat}{q:Int}(hq:q=(j:Int))(h:i+j<v.length):aY (v.drop i) q=some v[i+j]:=by subst hq;rw[aO (by rw[cn];omega),List.getElem_drop]
def Ua (a:List Int)(hb:aQ a):vU a=some (xN a):=by
 unfold vU xN;rw[aB hb,bd_s,vH,bd_s];cases hc:(!(wK a 0).2.2||decide ((wK a 0).1>20)) with
 |true=>rfl
 |false=>
  obtain⟨n,q,hu,h0,h1,h2⟩:=aXz hb hc;rw[hu,ab,ab];dsimp only;rw[aJ (n:=4*n) (by omega) (by omega),aB hb,bd_s,aX0 (by omega) (by omega) (by omega) (by omega)];cases hd:jN a (4*n).toNat (q:Int) [] with
  |mk v r=>
   obtain⟨e,ok⟩:=r;dsimp only;rw[vH,bd_s];unfold aWy;cases ok with
   |false=>rfl
   |true=>
    dsimp only;rw[ba,cL,cL];cases he:(e !=(a.length:Int)) with
    |true=>rfl
    |false=>
     obtain⟨t,q',⟨k1,k2,k3,k4,k5⟩,_⟩:=Nw hb _ _ _ _ _ (by omega) (by omega) hd;rw[bn] at k1;subst k1;have hv:v.length=4*n.toNat:=by omega
     rw[ab,cL,aXy (x:=((D.aAB.mk [],false):D.aAB×Bool)) hv (by omega) (λrec i s hi h4 hs=>by
      have e1:decide ((i:Int)<n)=true:=ao (by omega);have e2:IntKind.i64.wrap (4*(i:Int))=((4*i:Nat):Int):=by rw[aJ (by omega) (by omega)];omega
      have g0:aY (v.drop (4*i)) 0=some (v[4*i]'(by omega)):=aUq (j:=0) rfl (by omega);have g1:aY (v.drop (4*i)) 1=some (v[4*i+1]'(by omega)):=aUq (j:=1) rfl (by omega);have g2:aY (v.drop (4*i)) 2=some (v[4*i+2]'(by omega)):=aUq (j:=2) rfl (by omega);have g3:aY (v.drop (4*i)) 3=some v[4*i+3]:=aUq (j:=3) rfl h4;simp only[e1,e2,co,ac,aB (show iD v ((4*i:Nat):Int) from⟨by omega,by omega⟩),g0,g1,g2,g3,bd_s,eY (show s.length<=34359738368 by omega)]) (λrec s=>by
      rw[show decide (((n.toNat:Nat):Int)<n)=false from aw (by omega)];rfl) n.toNat 0 FUEL [] (by omega) (by have:=fT;omega) (by simp)]
     simp only[Nat.mul_zero,gp,bn];cases hf:jZ v with
     |false=>rfl
     |true=>have hl:=Q5 n.toNat v hv;simp only[ac,nx_r];rw[aB (show(D.aAB.mk (kJ v)).sz<=34359738368 by simp only[D.aAB.sz];omega),bd_s];cases aK ⟨kJ v⟩<;>rfl
def aSx {a:List Int}(hb:aQ a){k:Nat}(hk:k<=20){τ:Type}{x:τ}{F:(Int×Nat×List D.Entry->Option (τ⊕List D.Entry))->Int×Nat×List D.Entry->Option (τ⊕List D.Entry)}
  (hF:∀rec (q:Nat) i s (hi:i<k),q<=a.length->s.length<=100->F rec ((q:Int),i,s)=bif !(jN a 4 q []).2.2 then some (.inl x) else rec ((jN a 4 q []).2.1,i+1,s++kJ (jN a 4 q []).1)) (hE:∀rec e s,F rec (e,k,s)=some (.inr s)):
  ∀(m i n q:Nat) (s:List D.Entry),i+m=k->m<n->q<=a.length->s.length<=i->EV.bX n F ((q:Int),i,s)=some (bif (jN a (4*m) q []).2.2 then .inr (s++kJ (jN a (4*m) q []).1) else .inl x)
 |0,i,n+1,q,s,h,_,_,_=>by
  have:i=k:=by omega
  subst this;rw[iA,hE];simp[jN,kJ]
 |m+1,i,n+1,q,s,h,hn,hq,hs=>by
  rw[iA,hF _ q i s (by omega) hq (by omega),show 4*(m+1)=4+4*m by omega,aK4 4 (4*m)];cases hd:jN a 4 (q:Int) [] with
  |mk l r=>
   obtain⟨e,ok⟩:=r;cases ok with
   |false=>rfl
   |true=>
    obtain⟨t,q',⟨k1,k2,k3,k4,k5⟩,_⟩:=Nw hb _ _ _ _ _ (by omega) (by omega) hd;rw[bn] at k1;subst k1;subst k3;have hl:(kJ l).length=1:=Q5 1 l (by omega);simp only[ba,ab,ac];rw[aSx hb hk hF hE m (i+1) n q' _ (by omega) (by omega) k4 (by simp[hl];omega),aK5 (4*m) (q':Int) l];cases(jN a (4*m) (q':Int) []).2.2 with
    |false=>rfl
    |true=>simp[aWx 1 l _ (by omega)]
def four {l:List Int}(h:l.length=4):∃w x y z,l=[w,x,y,z]:=by
 match l,h with
 |[w,x,y,z],_=>exact⟨w,x,y,z,rfl⟩
def Ub (a:List Int)(hb:aQ a):vM a=some (xN a):=by
 unfold vM xN;rw[aB hb,bd_s,vH,bd_s];cases hc:(!(wK a 0).2.2||decide ((wK a 0).1>20)) with
 |true=>rfl
 |false=>
  obtain⟨n,q,hu,h0,h1,h2⟩:=aXz hb hc;rw[hu,ab,ab];dsimp only;rw[aSx (x:=((D.aAB.mk [],false):D.aAB×Bool)) hb (k:=n.toNat) (by omega) (λrec q i s hi hq hs=>by
   have e1:decide ((i:Int)<n)=true:=ao (by omega);simp only[e1,ac,aB hb,bd_s,aX0 (a:=a) (e:=(q:Int)) (c:=4) (by omega) (by omega) (by omega) (by omega),show Int.toNat 4=4 from rfl];cases hd:jN a 4 (q:Int) [] with
   |mk l r=>
    obtain⟨e,ok⟩:=r;cases ok with
    |false=>rfl
    |true=>
     obtain⟨t,q',⟨k1,k2,_⟩,_⟩:=Nw hb _ _ _ _ _ (by omega) (by omega) hd;rw[bn] at k1;subst k1;obtain⟨w,x,y,z,rfl⟩:=four k2;simp only[ba,ab,show aY [w,x,y,z] 0=some w from rfl,show aY [w,x,y,z] 1=some x from rfl,show aY [w,x,y,z] 2=some y from rfl,show aY [w,x,y,z] 3=some z from rfl,bd_s,eY (show s.length<=34359738368 by omega)];rfl) (λrec e s=>by
   rw[show decide (((n.toNat:Nat):Int)<n)=false from aw (by omega)];rfl) n.toNat 0 FUEL q [] (by omega) (by have:=fT;omega) h2 (by simp)]
  rw[show(4*n).toNat=4*n.toNat by omega];unfold aWy;cases hd:jN a (4*n.toNat) (q:Int) [] with
  |mk v r=>
   obtain⟨e,ok⟩:=r;cases ok with
   |false=>rfl
   |true=>
    obtain⟨b1,b2,b3,b4⟩:=bHw hb hu h1 (show jN a (4*n).toNat (q:Int) []=(v,e,true) by rw[show(4*n).toNat=4*n.toNat by omega];exact hd);have hz:(D.aAB.mk (kJ v)).sz<=34359738368:=by simp only[D.aAB.sz];omega
    simp only[ac,nx_r,bn,aB hz,bd_s,aB (show aQ (lT ⟨kJ v⟩)/\aQ a from⟨Q6 _,hb⟩),vH];unfold lT;cases hbo:aK ⟨kJ v⟩ with
    |false=>simp
    |true=>
     rw[ac];by_cases hq:gF (nX ⟨kJ v⟩)=a
     ·obtain⟨c1,c2⟩:=b1.1 hq;rw[hq,c1,c2];simp
     ·have:(e !=(a.length:Int)|| !jZ v)=true:=by
       cases h3:(e !=(a.length:Int)) with
       |true=>rfl
       |false=>
        cases h4:jZ v with
        |false=>rfl
        |true=>exact absurd (b1.2 ⟨by simpa using h3,h4⟩) hq
      rw[show(gF (nX ⟨kJ v⟩)==a)=false by simpa using hq];simp only[ba,dk,ac,cL,gh,this]
def Y6 (k:Int)(s:D.aAA)(h:s.Data.length<=34359738200):Bj k s=some (eZ k s):=by unfold Bj eZ;rw[aB h,aB (by simp)];simp only[bd_s,aB (show s.Data.length<=34359738368 by omega),aB (aT1 (k:=aU k [223,s.Epoch,s.Version]) (show s.Data.length<=34359738368 by omega))];unfold jP;cases bG k<;>cases bF s.Epoch 0 1000000<;>cases bF s.Version 0 1000000<;>cases(s.MAC !=fZ k s)<;>rfl
def Y7 (k:Int)(s:D.aAA)(h:s.Data.length<=34359738200):Ar k s=some (eZ k s):=by unfold Ar eZ;rw[aB h,aB (show s.Data.length<=34359738368 by omega)];simp only[bd_s,aB (aT1 (k:=jP k s.Epoch s.Version) (show s.Data.length<=34359738368 by omega))];cases bG k<;>cases bF s.Epoch 0 1000000<;>cases bF s.Version 0 1000000<;>cases(s.MAC !=fZ k s)<;>rfl
def Y8 (d:D.Device)(l:List D.aAC)(bx:D.aAF)(s:D.aAA)(h:d.sz<=34359738368/\l.length<=34359738368/\bx.sz<=34359738368/\s.Data.length<=34359738200):Bn d l bx s=some (bS d l bx s):=by
 obtain⟨h1,h2,h3,h4⟩:=h;have hdl:=iI l;have hb:d.aAB.sz<=34359738368:=by simp only[D.Device.sz,D.aAB.sz] at*;omega
 unfold Bn bS gU;simp only[aB h1,aB h2,aB h3,aB h4,aB (show(aH l).length<=1099511627776 by omega),bd_s,vH,bif_and,bif_or,kP];have ho:=aR4 (bD d.Store bx).1 s;generalize eZ (bD d.Store bx).1 s=o at ho ⊢;simp only[aB (show d.aAB.sz<=34359738368/\o.1.sz<=34359738368 from⟨hb,by omega⟩),bd_s];cases !bB l|| !cO l d.Log with
 |true=>rfl
 |false=>
  cases !gX (aH l) (bA d.Store) with
  |true=>rfl
  |false=>
   cases bx.Epoch !=aL l|| !(bD d.Store bx).2 with
   |true=>rfl
   |false=>
    cases decide (s.Epoch<aL l)||(decide (s.Epoch<d.Epoch)||(s.Epoch==d.Epoch&&decide (s.Version<d.Version))) with
    |true=>rfl
    |false=>cases !o.2<;>cases !(dX d.aAB o.1).2<;>rfl
def Y9 (d:D.Device)(l:List D.aAC)(bx:D.aAF)(s:D.aAA)(h:d.sz<=34359738368/\l.length<=34359738368/\bx.sz<=34359738368/\s.Data.length<=34359738200):Au d l bx s=some (bS d l bx s):=by
 obtain⟨h1,h2,h3,h4⟩:=h;have hdl:=iI l;have hb:d.aAB.sz<=34359738368:=by simp only[D.Device.sz,D.aAB.sz] at*;omega
 unfold Au bS gU;simp only[aB h1,aB h2,aB h3,aB h4,aB (show(aH l).length<=1099511627776 by omega),bd_s,vH,bif_and,bif_or,kP];have ho:=aR4 (bD d.Store bx).1 s;generalize eZ (bD d.Store bx).1 s=o at ho ⊢;simp only[aB (show d.aAB.sz<=34359738368/\o.1.sz<=34359738368 from⟨hb,by omega⟩),bd_s];cases !bB l|| !cO l d.Log with
 |true=>rfl
 |false=>
  cases !gX (aH l) (bA d.Store) with
  |true=>rfl
  |false=>
   cases bx.Epoch !=aL l|| !(bD d.Store bx).2 with
   |true=>rfl
   |false=>
    cases decide (s.Epoch<aL l)||(decide (s.Epoch<d.Epoch)||(s.Epoch==d.Epoch&&decide (s.Version<d.Version))) with
    |true=>rfl
    |false=>cases !o.2<;>cases !(dX d.aAB o.1).2<;>rfl
def aSy {c:D.aAD}(h:c.sz<=34359738100)(b:Int):c.Log.length<=34359738100/\c.Boxes.sz<=34359738100/\(dI c b).1.Data.length<=34359738100:=by
 have hz:=h;simp only[D.aAD.sz] at h;refine⟨by omega,by simp only[D.aAF.sz] at*;omega,?_⟩;unfold dI;cases e:(decide (b<0)||decide (b>=(c.History.length:Int))) with
 |true=>simp
 |false=>have:=(aMw (b:=b) (show c.sz<=34359738368 by omega) (aT2 e)).2;have h1:=Hw (f:=D.aAA.sz) (l:=c.History) (i:=c.History.length-1-b.toNat) (by have:=aT2 e;omega);simp only[ab];simp only[D.aAA.sz] at h1;omega
def aMx (d:D.Device)(c:D.aAD)(b:Int)(h:d.sz<=34359738100/\c.sz<=34359738100):Pn d c b=some (bS d c.Log c.Boxes (dI c b).1):=by obtain⟨h1,h2⟩:=h;obtain⟨k1,k2,k3⟩:=aSy h2 b;unfold Pn;rw[aB (show c.sz<=34359738368 by omega),bd_s,aB ⟨by omega,by omega,by omega,by omega⟩,bd_s]
def aD5 {w:D.World}{d:Int}(h:aM w d=true):0<=d/\d.toNat<w.Devices.length/\(aN w d).sz<=w.sz/\aN w d=w.Devices.getD d.toNat default:=by
 simp only[aM,aa,bp] at h;have hi:d.toNat<w.Devices.length:=by omega
 have:=Hw (f:=D.Device.sz) hi;refine⟨h.1,hi,?_,rfl⟩;show(w.Devices.getD d.toNat default).sz<=_;simp only[D.World.sz];omega
def Qg (w:D.World):w.aAD.sz<=w.sz:=by simp only[D.World.sz,D.aAD.sz,D.aAF.sz];omega
def aMy (w:D.World)(d b:Int)(hz:w.sz<=34359738100):Pt w d b=some (aI w d b):=by
 have hcl:=Qg w;unfold Pt aI;rw[aB (show w.sz<=34359738368 by omega),bd_s,aB (show w.sz<=34359738368 by omega),bd_s];cases hc:(aR w&&aM w d) with
 |false=>rfl
 |true=>have hd:=(gj.1 hc).2;obtain⟨k1,k2,k3,k4⟩:=aD5 hd;rw[ba,ab,ac,nD hd,bd_s,aB ⟨by omega,by omega⟩,bd_s,bd_s]
def aMz (w:D.World)(d b:Int)(hz:w.sz<=34359738100):Qc w d b=some (aI w d b):=by
 have hcl:=Qg w;unfold Qc aI;rw[aB (show w.sz<=34359738368 by omega),bd_s,aB (show w.sz<=34359738368 by omega),bd_s,vH,bd_s,<-Bool.not_and];cases hc:(aR w&&aM w d) with
 |false=>rfl
 |true=>have hd:=(gj.1 hc).2;obtain⟨k1,k2,k3,k4⟩:=aD5 hd;obtain⟨l1,l2,l3⟩:=aSy (show w.aAD.sz<=34359738100 by omega) b;rw[ba,ab,ac,aB (show w.aAD.sz<=34359738368 by omega),bd_s,nD hd,bd_s,aB ⟨by omega,by omega,by omega,by omega⟩,bd_s,bd_s]
def bAe {w:D.World}{d:Int}(hw:aR w=true)(hd:aM w d=true):aY w.Stolen d=some (dG w d):=by
 have hl:w.Stolen.length=w.Devices.length:=by simp only[aR,aa,cG] at hw;omega
 simp only[aM,aa,bp] at hd;rw[lN hd.1 (by omega)];simp[dG,List.getD,ae (show d.toNat<w.Stolen.length by omega)]
def aD6 (w:D.World)(d:Int)(hz:w.sz<=34359738100):Fq w d=some (dY w d):=by
 unfold Fq dY;rw[aB (show w.sz<=34359738368 by omega),bd_s,aB (show w.sz<=34359738368 by omega),aB hz,bd_s,bd_s];cases hw:aR w with
 |false=>rfl
 |true=>
  cases hd:aM w d with
  |false=>rfl
  |true=>rw[bAe hw hd,bd_s];cases dG w d<;>rfl
def bCq {k:Int}{b:List Int}(hl:b.length<=34359738368){F:(List Int×Nat->Option (List Int))->List Int×Nat->Option (List Int)}
  (hF:∀rec i s (hi:i<b.length),s.length<=34359738368->F rec (s,i)=rec (s++[aT5 k i b[i]],i+1)) (hE:∀rec s,F rec (s,b.length)=some s):EV.bX FUEL F ([],0)=some (jC k b):=by
 refine aKs (λi s=>i<=b.length/\s=(Kj (λi z=>[aT5 k i z]) 0 (b.take i),i)) b.length _ (by omega) ⟨by omega,by simp[Kj]⟩ (λi s rec hi hv=> ?_) (λs rec hv=> ?_)
 ·obtain⟨_,rfl⟩:=hv;refine .inl ⟨_,⟨hi,rfl⟩,?_⟩;rw[hF rec i _ hi (by rw[qC,ce];omega),aD1 hi,ca]
 ·obtain⟨_,rfl⟩:=hv;rw[hE,eV];rfl
def aM0 (k:Int)(b:List Int)(h:aQ b):Qe k b=some (jC k b):=by
 unfold Qe;rw[bCq (k:=k) h.1 (λrec i s hi hs=>by
  have e:=bHy (k:=k) i (uC h hi);have h4:((256:Int)≠0)=True:=by simp
  simp only[dK hi,ac,aO hi,bd_s,aB (show([(i:Int)]:List Int).length<=34359738368 by simp),h4,gd_T,e,eY hs]) (λrec s=>by simp only[dM,ab])]
 rfl
def aM1 (k:Int)(b:List Int)(h:aQ b):Ou k b=some (jC k b):=by
 unfold Ou;rw[bCq (k:=k) h.1 (λrec i s hi hs=>by
  have e:=bHz (k:=k) i (uC h hi);have h4:((256:Int)≠0)=True:=by simp
  simp only[dK hi,ac,aO hi,bd_s,aB (show([(i:Int)]:List Int).length<=34359738368 by simp),h4,gd_T,e,eY hs]) (λrec s=>by simp only[dM,ab])]
 rfl
def Qh (b:List Int)(n:Int)(h:b.length<=34359738300):uS b n=some (qD b n):=by
 unfold uS qD enc1;have e:(decide (n<0)||decide (n>1000000000000))= !bF n 0 1000000000000:=by unfold bF;rw[eE];simp<;>omega
 rw[aB (show b.length<=34359738368 by omega),bd_s,vH,bd_s,e];cases hr:bF n 0 1000000000000 with
 |false=>simp
 |true=>
  rw[ba,ab,ac];exact bCp (jJ hr) h (λrec n s h0 h1 h2=>by
   have h4:((128:Int)≠0)=True:=by simp
   have e1:decide (n>=128)=decide (n>127):=cA.2 (by omega);have e2:IntKind.u8.wrap (IntKind.i64.wrap (n.tmod 128+128))=n%128+128:=by rw[cp h0,aJ (by omega) (by omega),aK3 (by omega) (by omega)]
   have e3:IntKind.i64.wrap (n.tdiv 128)=n/128:=by rw[jw h0,aJ (by omega) (by omega)]
   simp only[h4,gd_T,e1,e2,e3,eY (s:=s) h2])
def Z0 (l:List Int)(h:l.length<=5000000000):Bv l=some (gF l):=by
 unfold Bv;rw[fB (l:=l) qD (λi s=>s.length<=6*i) (λs=>some s) (by omega) (by simp) (λi s hi hv=>by have:=Nv l[i];simp only[qD,au];omega) (λrec i s hi hv=>by
  simp only[dK hi,ac,aO hi,bd_s,aB (show s.length<=34359738300 by omega)]) (λrec s _=>by simp only[dM,ab]),aD4]
 rfl
def Uc (b:D.aAB)(h:b.sz<=34359738368):vZ b=some (lT b):=by
 unfold vZ lT;rw[aB h,bd_s];cases hb:aK b with
 |false=>rfl
 |true=>
  have hl:=kQ hb;have hv:(nX b).length=1+4*b.Entries.length:=by simp[nX,sP];omega
  rw[ba,ab,ac,fB (l:=b.Entries) (λs e=>s++aO7 e) (λi s=>s.length<=1+4*i) (λs=>some s) (by omega) (by simp) (λi s hi hv=>by simp only[aO7,au,av,bo];omega) (λrec i s hi hv=>by
   have e:∀x y z w:Int,gd (aV s [x,y,z,w]) (rec (s++[x,y,z,w],i+1))=rec (s++[x,y,z,w],i+1):=λ_ _ _ _=>aB (by unfold aV;simp only[av,bo];omega);simp only[dK hi,ac,aO hi,bd_s,Yk,kP,e];rfl) (λrec s _=>by simp only[dM,ab]),Zg,bd_s]
  rw[aB (show([(b.Entries.length:Int)]++iR b.Entries).length<=5000000000 by show(nX b).length<=_;omega),bd_s];rfl
def bI4 (k:Int)(b:D.aAB):(jC k (lT b)).length<=34359738200:=by have:=Dl b;rw[xO];omega
def Z4 (k e v:Int)(b:D.aAB)(h:b.sz<=34359738368):Bw k e v b=some (jD k e v b):=by unfold Bw jD nY jP;simp only[aB h,bd_s,aB (show[(223:Int),e,v].length<=34359738300 by simp),aB (Q6 b),aB (bI4 (aU k [223,e,v]) b)];cases bG k<;>cases bF e 0 1000000<;>cases bF v 0 1000000<;>cases aK b<;>rfl
def Z5 (k e v:Int)(b:D.aAB)(h:b.sz<=34359738368):Ao k e v b=some (jD k e v b):=by unfold Ao jD nY;simp only[aB h,bd_s,aB (Q6 b),aB (bI4 (jP k e v) b)];cases bG k<;>cases bF e 0 1000000<;>cases bF v 0 1000000<;>cases aK b<;>rfl
def aD7 (a b:D.aAA):Fp a b=some (kF a b):=by unfold Fp kF;cases decide (a.Epoch>b.Epoch)<;>cases(a.Epoch==b.Epoch)<;>rfl
def aD8 (a b:D.aAA):Ei a b=some (kF a b):=by unfold Ei kF;cases decide (a.Epoch>b.Epoch)<;>cases(a.Epoch==b.Epoch)<;>rfl
def bCr {d:D.Device}(h:d.sz<=34359738368):d.aAB.sz<=34359738368:=by simp only[D.Device.sz,D.aAB.sz] at*;omega
def Zh (d:D.Device)(h:d.sz<=34359738368):zC d=some (bN d):=by unfold zC bN;simp only[aB h,aB (bCr h),bd_s];cases(jD d.Key d.Epoch (IntKind.i64.wrap (d.Version+1)) d.aAB).2<;>rfl
def Zi (d:D.Device)(h:d.sz<=34359738368):yE d=some (bN d):=by unfold yE bN;simp only[aB h,aB (bCr h),bd_s];cases(jD d.Key d.Epoch (IntKind.i64.wrap (d.Version+1)) d.aAB).2<;>rfl
def aSz (c:D.aAD)(s:D.aAA)(h:c.sz<=34359738300/\s.sz<=34359738300):(bd (gd (c.sz<=34359738368) (some c)) λz0=>bd (gd (c.Log.length<=34359738368) (some (aL c.Log))) λz1=>bd (bif (s.Epoch !=z1) then some true else(bif decide ((c.History.length:Int)>0) then(bd (aY c.History (IntKind.i64.wrap ((c.History.length:Int)-1))) λz3=>bd (some (kF s z3)) λz4=>bif !z4 then some true else some (decide ((c.History.length:Int)>=60))) else some (decide ((c.History.length:Int)>=60)))) λz2=>bif z2 then some (z0,false) else bd (gd (s.sz<=34359738368) (some s)) λz3=>gd (aV z0.History [z3]) (some (D.aAD.mk z0.Log z0.Boxes (z0.History++[z3]),true)))=some (bO c s):=by
 obtain⟨h1,h2⟩:=h;have hz:=h1;simp only[D.aAD.sz] at hz;unfold bO;simp only[aB (show c.sz<=34359738368 by omega),aB (show c.Log.length<=34359738368 by omega),aB (show s.sz<=34359738368 by omega),bd_s,eY (show c.History.length<=34359738368 by omega)];by_cases h0:0<c.History.length
 ·have e2:aY c.History (IntKind.i64.wrap ((c.History.length:Int)-1))=some (c.History.getD (c.History.length-1) default):=by rw[aJ (by omega) (by omega),uE (by omega) (by omega)];congr 2;omega
  rw[ao (show(c.History.length:Int)>0 by omega),e2];generalize c.History.getD (c.History.length-1) default=x;simp only[bd_s,ac,cW];cases(s.Epoch !=aL c.Log)<;>cases kF s x<;>cases decide ((c.History.length:Int)>=60)<;>rfl
 ·rw[aw (show ¬(c.History.length:Int)>0 by omega)];cases(s.Epoch !=aL c.Log)<;>cases decide ((c.History.length:Int)>=60)<;>rfl
def Ud (c:D.aAD)(s:D.aAA)(h:c.sz<=34359738300/\s.sz<=34359738300):Tj c s=some (bO c s):=aSz c s h
def Ue (c:D.aAD)(s:D.aAA)(h:c.sz<=34359738300/\s.sz<=34359738300):Tf c s=some (bO c s):=aSz c s h
def bCs {w:D.World}{d:Int}(hz:w.sz<=10000000000)(h:((aI w d 0).2==0)=true):(aM (aI w d 0).1 d=true/\(aN (aI w d 0).1 d).sz<=34359738368)/\((aI w d 0).1.aAD.sz<=34359738300/\(bN (aN (aI w d 0).1 d)).2.1.sz<=34359738300):=by
 obtain⟨⟨k1,k2⟩,k3,k4,k5⟩:=kR h;have hd:aM (aI w d 0).1 d=true:=by simp only[aM] at*;rw[k4];exact k2
 have h1:=(aD5 hd).2.2.1;have h2:=Qg (aI w d 0).1;have h3:=(wU (aN (aI w d 0).1 d)).2;have h4:w.aAD.Log.length<=w.sz:=by simp only[D.World.sz,D.aAD.sz];omega
 exact⟨⟨hd,by omega⟩,by omega,by simp only[D.aAA.sz];omega⟩
def Z6 (w:D.World)(d:Int)(hz:w.sz<=10000000000):Ba w d=some (dL w d):=by
 unfold Ba dL;have hw:w.sz<=34359738368:=by omega
 simp only[aB (show w.sz<=34359738100 by omega),aB hw,bd_s,bne];cases hs:((aI w d 0).2==0) with
 |false=>rfl
 |true=>obtain⟨⟨k1,k2⟩,k3⟩:=bCs hz hs;generalize(aI w d 0).1=x at*;simp only[ba,ab,nD k1,bd_s,aB k2,aB k3,vH];unfold Gq;cases(bN (aN x d)).2.2<;>cases(bO x.aAD (bN (aN x d)).2.1).2<;>rfl
def Z7 (w:D.World)(d:Int)(hz:w.sz<=10000000000):Ca w d=some (dL w d):=by
 unfold Ca dL;have hw:w.sz<=34359738368:=by omega
 simp only[aB (show w.sz<=34359738100 by omega),aB hw,bd_s,bne];cases hs:((aI w d 0).2==0) with
 |false=>rfl
 |true=>obtain⟨⟨k1,k2⟩,k3⟩:=bCs hz hs;generalize(aI w d 0).1=x at*;simp only[ba,ab,nD k1,bd_s,aB k2,aB k3];unfold Gq;cases(bN (aN x d)).2.2<;>cases(bO x.aAD (bN (aN x d)).2.1).2<;>rfl
def Z8 (s n:Int):Ae s n=some (aP s n):=by unfold Ae;rw[aB (by simp)];rfl
def aD9 (s:D.aAI):aDd s=some (bQ s):=rfl
def Zj (s:D.aAI)(n:ByteArray)(k:Int)(h:n.size<=34359738300):yA s n k=some (eT s n k):=by unfold yA;rw[aB h,bd_s,aB (by simp)];rfl
def Z9 (s:D.aAI)(n:ByteArray)(k:Int)(h:n.size<=34359738300):Aj s n k=some (dP s n k):=by unfold Aj;rw[aB h];rfl
def Uf (s:D.aAI)(l:List Int)(h:l.length<=34359738300):vJ s l=some (qE s l):=by unfold vJ;rw[aB h];rfl
def aAa (e:D.aAF)(d:Int)(h:e.Boxes.length<=34359738368):Ai e d=some (qF e d):=by
 unfold Ai;rw[fB (l:=e.Boxes) (λn b=>bif b.To==d then IntKind.i64.wrap (n+1) else n) (λ_ _=>True) (λs=>some s) (by omega) trivial (λ_ _ _ _=>trivial) (λrec i s hi _=>by
  simp only[dK hi,ac,aO hi,bd_s,kP]) (λrec s _=>by simp only[dM,ab])]
 rfl
def Zk (l:List D.aAC)(k d:Int)(s:D.aAI)(h:l.length<=34359738300):xV l k d s=some (dS l k d s):=by
 have h1:l.length<=34359738368:=by omega
 have e:∀x:D.aAC,gd ((l++[x]).length<=34359738368) (some (bB (l++[x])))=some (bB (l++[x])):=λx=>aB (by simp;omega);have e1:∀x:Int,gd ([x].length<=34359738300) (some (qE s [x]))=some (qE s [x]):=λx=>aB (by simp);unfold xV dS bD7 aZh;simp only[aB h1,bd_s,e1,eY h1,e];generalize bB (l++_)=q;cases decide ((l.length:Int)>0)<;>cases bB l<;>cases q<;>rfl
def bAf (p e:Int)(d:List Int)(h:aQ d):(bd (bif eU p==0 then some true else bif !bG e then some true else some (decide ((d.length:Int)>200))) λz0=>bif z0 then some (D.Box.mk 0 0 [] 0,false) else bd (gd (aQ d) (some (jC (fH (eU p) e) d))) λz1=>bd (gd (z1.length<=34359738200) (some (Np (fH (eU p) e) (D.Box.mk p e z1 0)))) λz2=>some (D.Box.mk p e z1 z2,true))=some (eG p e d):=by
 unfold eG gB;rw[vH,vH,bd_s];cases hc:(eU p==0||(!bG e||decide ((d.length:Int)>200))) with
 |true=>rfl
 |false=>
  have hl:d.length<=200:=by simp only[bq,di] at hc;omega
  rw[ab,ab,aB h,bd_s,aB (show(jC (fH (eU p) e) d).length<=34359738200 by rw[xO];omega),bd_s]
def aM2 (p e:Int)(d:List Int)(h:aQ d):aLw p e d=some (eG p e d):=bAf p e d h
def aEa (l:List Int)(e:Int)(d:List Int)(h:l.length<=34359738300/\aQ d):Ee l e d=some (eH e d 0 l):=by
 obtain⟨h1,h2⟩:=h;unfold Ee;rw[aSc (e:=e) (d:=d) (l:=l) (x:=(([],false):List D.Box×Bool)) (λrec i s hi hs=>by
  simp only[dK hi,ac,aO hi,bd_s,aB h2,eY (show s.length<=34359738368 by omega)]) (λrec s=>by simp only[dM,ab]) l.length 0 FUEL [] (by omega) (by have:=fT;omega) (by simp),gp]
 cases hs:(eH e d 0 l).2 with
 |true=>rw[ac,nx_r,bn,<-hs]
 |false=>rw[ab,bH5 hs];rfl
def bLm (a b:Int):aQ (gF [a,b]):=aK6 (by have:=aW0 a b;omega) (Ya _)
def Kv (l:List D.aAC)(k e:Int)(h:l.length<=34359738300):rH l k e=some (bC l k e):=by have hd:=iI l;unfold rH bC;simp only[aB (show l.length<=34359738368 by omega),bd_s,aB (show[aL l,k].length<=5000000000 by simp),aB (show(aH l).length<=34359738300/\aQ (gF [aL l,k]) from⟨by omega,bLm _ _⟩)];cases bB l<;>cases bG k<;>cases(eH e (gF [aL l,k]) 0 (aH l)).2<;>rfl
def bLn (e:D.aAF)(l:List Int):(l.all λd=>qF e d==1)= !(l.any λd=>qF e d !=1):=by
 induction l with
 |nil=>rfl
 |cons x l ih=>simp only[gx,kf,ih,bne];cases(qF e x==1)<;>simp
def aEb (e:D.aAF)(l:List D.aAC)(h:e.Boxes.length<=34359738368/\l.length<=34359738368):Ef e l=some (gK e l):=by
 obtain⟨h1,h2⟩:=h;have hd:=iI l;unfold Ef gK;rw[aB h2,bd_s,nC (l:=aH l) (λd=>qF e d !=1) (.inl false) (.inr PUnit.unit) (by omega) (λrec i hi=>by
  simp only[dK hi,ac,aO hi,bd_s,aB h1]) (λrec=>by simp only[dM,ab]),bLn]
 simp only[aB h2,bd_s];cases(aH l).any (λd=>qF e d !=1)<;>cases(e.Epoch==aL l)<;>cases((e.Boxes.length:Int)==((aH l).length:Int))<;>rfl
def bPf {e:D.aAF}(h:e.sz<=34359738368):e.Boxes.length<=34359738368:=by simp only[D.aAF.sz] at h;omega
def aEc (c:D.aAD)(l:List D.aAC)(e:D.aAF)(h:c.sz<=34359738368/\l.length<=34359738368/\e.sz<=34359738368):En c l e=some (jV c l e):=by obtain⟨h1,h2,h3⟩:=h;unfold En jV;simp only[aB h1,aB h2,aB h3,bd_s,aB (show e.Boxes.length<=34359738368/\l.length<=34359738368 from⟨bPf h3,h2⟩)];cases bB l<;>cases cO l c.Log<;>cases gK e l<;>rfl
def Zl (s:D.Site)(i:Int)(h:s.Accounts.length<=34359738368):yB s i=some (aD s i):=by unfold yB;exact Nn (l:=s.Accounts) (λa=>a.Id==i) (by omega) (λrec j hj=>by simp only[dK hj,ac,aO hj,bd_s]) (λrec=>by simp only[dM,ab])
def bQv {l:List D.aAK}{h p:Int}(hz:l.length<=34359738300){β:Type}(k:List D.aAK->Option β):gd (iD l ((Yc h l:Nat):Int)) (gd (iD l ((Yc h l:Nat):Int)) (gd (aV [] (List.take (Yc h l) l)) (gd (aV ([]++List.take (Yc h l) l) [D.aAK.mk h p 0 false]) (gd (aV ([]++List.take (Yc h l) l++[D.aAK.mk h p 0 false]) (List.drop (Yc h l) l)) (k ([]++List.take (Yc h l) l++[D.aAK.mk h p 0 false]++List.drop (Yc h l) l))))))=k (aG1 l h p):=by have hk:Yc h l<=l.length:=Oc;have h1:iD l ((Yc h l:Nat):Int):=⟨by omega,by omega⟩;rw[aB h1,aB h1,aB (by unfold aV;simp;omega),aB (by unfold aV;simp;omega),aB (by unfold aV;simp;omega)];rfl
def bLo {l:List D.aAK}{h:Int}(hz:l.length<=34359738300):EV.bX (α:=Int) FUEL (λrec (i:Int)=>bd (bif decide (i<(l.length:Int)) then(bd (aY l i) λz=>some (decide (z.Handle<h))) else some false) λz=>bif z then rec (IntKind.i64.wrap (i+1)) else some i) 0=some ((Yc h l:Nat):Int):=by
 have:=aSb (l:=l) (λc=>decide (c.Handle<h)) (λi=>some (i:Int)) (λi=>(i:Int)) (F:=λrec (i:Int)=>bd (bif decide (i<(l.length:Int)) then(bd (aY l i) λz=>some (decide (z.Handle<h))) else some false) λz=>bif z then rec (IntKind.i64.wrap (i+1)) else some i) (by omega) (λrec i hi=>by
  simp only[dK hi,ac,aO hi,bd_s];rw[aJ (by omega) (by omega)];rfl) (λrec=>by simp only[dM,ab,bd_s])
 exact this
def bQw {a:D.aAH}(hz:a.sz<=34359738300)(h p:Int):(D.aAH.mk a.Id a.Minimum (aG1 a.Credentials h p)).sz<=34359738368:=by simp only[D.aAH.sz,aW1] at*;omega
def Qi (a:D.aAH)(h p:Int)(hz:a.sz<=34359738300):uK a h p=some (iB a h p):=by
 have h1:a.sz<=34359738368:=by omega
 have hc:a.Credentials.length<=34359738300:=hz;unfold uK iB;rw[aB h1,bd_s,bLo hc];simp only[aB h1,bd_s,co];rw[bQv hc (λL=>bd (bif !aZ a then some true else(bd (gd ((D.aAH.mk a.Id a.Minimum L).sz<=34359738368) (some (aZ (D.aAH.mk a.Id a.Minimum L)))) λz4=>some (!z4))) λz3=>bif z3 then some (a,false) else some (D.aAH.mk a.Id a.Minimum L,true))];simp only[bd_s,aB (bQw hz h p)];cases aZ a<;>cases aZ {a with Credentials:=aG1 a.Credentials h p}<;>rfl
def bAg {a:D.aAH}{h p:Int}(hn:(iB a h p).2=false):(iB a h p).1=a:=by
 unfold iB at*;cases hc: !aZ a|| !aZ {a with Credentials:=aG1 a.Credentials h p} with
 |true=>rfl
 |false=>rw[hc] at hn;cases hn
def Zm (s:D.Site)(i h p:Int)(hz:s.sz<=34359738300):yC s i h p=some (eQ s i h p):=by
 have h1:s.sz<=34359738368:=by omega
 have hl:s.Accounts.length<=34359738368:=by simp only[D.Site.sz] at hz;omega
 unfold yC eQ;simp only[aB h1,aB hl,bd_s];rw[vH,bd_s];cases hc:(!dD s||decide (aD s i<0)) with
 |true=>rfl
 |false=>
  rw[bq] at hc;obtain⟨e1,e2,e3⟩:=bH6 hz hc.2;simp only[ab,e1,bd_s,aB e2];cases ha:(iB (s.Accounts.getD (aD s i).toNat default) h p).2 with
  |true=>rfl
  |false=>rw[bAg ha,aWq e3];rfl
def aEd (i:Int):(aA i).size<=34359738300:=by unfold aA;cases i==0<;>cases i==1<;>decide
def aAb (d:D.Device)(h:Int)(rm:Bool)(hz:d.sz<=34359738300):Bb d h rm=some (nH d h rm):=by have h1:=Dk d (aA 0) h rm;unfold Bb nH;rw[aB ⟨by omega,aEd 0⟩,bd_s,show FUEL=FUEL-2+1+1 from by have:=fT;omega];have e:∀{β:Type} (k:Option β),gd ((bW d (aA 0) h rm).1.sz<=34359738360/\(aA 1).size<=34359738300) k=k:=λk=>aB ⟨by omega,aEd 1⟩;show(bd (bd (gd ((bW d (aA 0) h rm).1.sz<=34359738360/\(aA 1).size<=34359738300) (some (bW (bW d (aA 0) h rm).1 (aA 1) h rm))) λz3=>some (z3.1.Store.Vendor,z3.1.Store.Serial,z3.1.Store.Seed,z3.1.Store.Counter,z3.1.Log,z3.1.Key,z3.1.Epoch,z3.1.Version,z3.1.aAB.Entries)) λz0=>some (D.Device.mk (D.aAI.mk z0.1 z0.2.1 z0.2.2.1 z0.2.2.2.1) z0.2.2.2.2.1 z0.2.2.2.2.2.1 z0.2.2.2.2.2.2.1 z0.2.2.2.2.2.2.2.1 (D.aAB.mk z0.2.2.2.2.2.2.2.2)))=_;rw[e,bd_s,bd_s]
def bI5 {w:D.World}{d:Int}(hw:aR w=true)(hd:aM w d=true):aY w.Stolen d=some (dG w d):=by
 have hl:w.Stolen.length=w.Devices.length:=by simp only[aR,aa,cG] at hw;omega
 simp only[aM,aa,bp] at hd;rw[lN hd.1 (by omega)];simp[dG,List.getD,ae (show d.toNat<w.Stolen.length by omega)]
def bCt {p r:List D.Site}{s:D.Site}:aY (p++s::r) ((p.length:Nat):Int)=some s:=by rw[aO (by simp)];simp
def aX1 {p r:List D.Site}{s y:D.Site}:(p++s::r).set (Int.toNat ((p.length:Nat):Int)) y=p++y::r:=by rw[co];simp
def bI6 {w:D.World}{b:Int}(hz:w.sz<=100000000)(h1:aR w=true)(hs:((aI w b 0).2==0)=true):((aM (aI w b 0).1 b=true/\(aI w b 0).1.Sites.length=2)/\(aI w b 0).1.sz<=300000000)/\(aI w b 0).1.aAD.Log.length<=100000000:=by
 obtain⟨⟨k1,k2⟩,k3,k4,k5⟩:=kR hs;have hL:w.aAD.Log.length<=w.sz:=by simp only[D.World.sz,D.aAD.sz];omega
 refine⟨⟨⟨by simp only[aM] at*;rw[k4];exact k2,?_⟩,by omega⟩,by rw[k3];omega⟩;have e:(aI w b 0).1.Sites=w.Sites:=by unfold aI;cases(aR w&&aM w b)<;>rfl
 rw[e];simp only[aR,aa,cG] at h1;omega
def bFb {L:List D.aAR}(h30:30<L.length)(hL:L.length<=34359738301):gd (iD L ((xP L:Nat):Int)) (gd (iD L (IntKind.i64.wrap (((xP L:Nat):Int)+1))) (gd (aV [] (List.take (Int.toNat ((xP L:Nat):Int)) L)) (gd (aV ([]++List.take (Int.toNat ((xP L:Nat):Int)) L) (List.drop (Int.toNat (IntKind.i64.wrap (((xP L:Nat):Int)+1))) L)) (some ([]++List.take (Int.toNat ((xP L:Nat):Int)) L++List.drop (Int.toNat (IntKind.i64.wrap (((xP L:Nat):Int)+1))) L)))))=some (Jb L):=by
 have hs:=bH4 (l:=L) (by omega);have e:IntKind.i64.wrap (((xP L:Nat):Int)+1)=((xP L+1:Nat):Int):=by rw[aJ (by omega) (by omega)];rfl
 rw[e,aB ⟨by omega,by omega⟩,aB ⟨by omega,by omega⟩,aB (by unfold aV;simp;omega),aB (by unfold aV;simp;omega),co,co];unfold Jb;rw[ao (show(L.length:Int)>30 by omega)];rfl
def bLp (l:List D.aAR)(x:D.aAR)(h:l.length<=34359738300):(D.aAJ.mk (Jb (l++[x]))).sz<=34359738368:=by have:=aR6 (l++[x]);simp only[au,cu] at this;simp only[D.aAJ.sz];omega
def bI7 {L:List D.aAR}(h:¬30<L.length):Jb L=L:=by unfold Jb;rw[aw (show ¬(L.length:Int)>30 by omega)];rfl
def aAc (m:D.aAJ)(k a t:Int)(hz:m.sz<=34359738300):Ay m k a t=some (vI m k a t):=by
 have h1:m.sz<=34359738368:=by omega
 have hm:m.Notices.length<=34359738300:=hz;have hL:(m.Notices++[(⟨k,a,t,false⟩:D.aAR)]).length=m.Notices.length+1:=by simp
 have hn:=bLp m.Notices ⟨k,a,t,false⟩ hm;unfold Ay vI;rw[aB (by unfold aV;simp;omega),bn,eY (show m.Notices.length<=34359738368 by omega)];simp only[aB h1,bd_s];generalize hg:m.Notices++[(⟨k,a,t,false⟩:D.aAR)]=L at*;by_cases h30:30<L.length
 ·have e:=aSd (l:=L) (F:=λrec (i2:Int×Int)=>bif (decide (i2.2>=(0:Int))) then(bd (bd (aY L (i2.2)) λz4=>bif (z4.Seen) then(some (i2.2)) else(some (i2.1))) λz3=>rec ((z3,IntKind.i64.wrap (i2.2-(1:Int))))) else(some (i2.1))) (λrec q i hi=>by
   simp only[ao (show((i:Int)>=0) by omega),ac,aO hi,bd_s,kP,aJ (show(-9223372036854775808:Int)<=(i:Int)-1 by omega) (show(i:Int)-1<=9223372036854775807 by omega)]) (λrec q=>rfl) L.length FUEL 0 (aj _) (by have:=fT;omega)
  rw[eV] at e;rw[ao (show(L.length:Int)>30 by omega),ac,aJ (by omega) (by omega),e,<-bH3,bd_s,bFb h30 (by omega),bd_s,aB hn,bd_s];cases dZ m<;>cases dZ ⟨Jb L⟩<;>rfl
 ·rw[aw (show ¬(L.length:Int)>30 by omega),ab,bd_s];rw[bI7 h30] at hn ⊢;rw[aB hn,bd_s];cases dZ m<;>cases dZ ⟨L⟩<;>rfl
def aX2 {τ:Type}{x:τ}{st:D.aAI}{n:Int}{N:Nat}{F:(Nat×List D.Site->Option (τ⊕List D.Site))->Nat×List D.Site->Option (τ⊕List D.Site)}
  (hF:∀rec (p:List D.Site) (s:D.Site) (r:List D.Site),p.length+r.length+1=N->s.sz<=34359738300->F rec (p.length,p++s::r)=bif !(eQ s 1 n (dP st (aA (p.length:Int)) n)).2 then some (.inl x) else rec (p.length+1,p++(eQ s 1 n (dP st (aA (p.length:Int)) n)).1::r)) (hE:∀rec S,F rec (N,S)=some (.inr S)):
  ∀(r p:List D.Site) (m:Nat),p.length+r.length=N->r.length<m->(∀s∈r,s.sz<=34359738300)->EV.bX m F (p.length,p++r)=some (bif (fP st n p.length r).2 then .inr (p++(fP st n p.length r).1) else .inl x)
 |[],p,m+1,h,_,_=>by
  simp only[bo,eg] at h;rw[iA,h,hE];simp[fP]
 |s::r,p,m+1,h,hm,hs=>by
  simp only[av] at h hm;rw[iA,hF _ p s r (by omega) (hs s (by simp)),fP];cases hr:(eQ s 1 n (dP st (aA (p.length:Int)) n)).2 with
  |false=>rfl
  |true=>have:=aX2 hF hE r (p++[(eQ s 1 n (dP st (aA (p.length:Int)) n)).1]) m (by simp;omega) (by omega) (λy hy=>hs y (by simp[hy]));simp only[au,cu,cf,cC,bn] at this;rw[ba,ab,this];cases(fP st n (p.length+1) r).2<;>rfl
def bFc {τ:Type}{x:τ}{st:D.aAI}{n:Int}{N:Nat}{l:List D.Site}(hN:l.length=N)(hN2:N<=100)(hs:∀s∈l,s.sz<=34359738300){F:(Nat×List D.Site->Option (τ⊕List D.Site))->Nat×List D.Site->Option (τ⊕List D.Site)}
  (hF:∀rec (p:List D.Site) (s:D.Site) (r:List D.Site),p.length+r.length+1=N->s.sz<=34359738300->F rec (p.length,p++s::r)=bif !(eQ s 1 n (dP st (aA (p.length:Int)) n)).2 then some (.inl x) else rec (p.length+1,p++(eQ s 1 n (dP st (aA (p.length:Int)) n)).1::r)) (hE:∀rec S,F rec (N,S)=some (.inr S)):EV.bX FUEL F (0,l)=some (bif (fP st n 0 l).2 then .inr (fP st n 0 l).1 else .inl x):=by
 have:=aX2 hF hE l [] FUEL (by simp;omega) (by have:=fT;omega) hs;simpa using this
def Cb (w:D.World)(b:Int):D.World×Bool:=bif (add1 w b).2&&((aK8 w b).2&&((oK w b).2&&(zT w b).2==0)) then(Oa (zT w b).1 2,true) else(w,false)
def bFd {w:D.World}{b:Int}(h1:aR w=true)(h2:aM w b=true)(h3:dG w b=false)(h4:decide ((w.Devices.length:Int)>=6)=false)(h5:((aI w b 0).2==0)=true):iG w b=Cb w b:=by unfold iG Q8 Cb;rw[h1,h2,h3,h4,h5];rfl
def Zn {w:D.World}{b:Int}(h:(add1 w b).2=false):Cb w b=(w,false):=by unfold Cb;rw[h];rfl
def Qj {w:D.World}{b:Int}(h:(aK8 w b).2=false\/(oK w b).2=false\/((zT w b).2==0)=false):Cb w b=(w,false):=by unfold Cb;rcases h with h|h|h<;>rw[h]<;>simp
def aX3 {w:D.World}{b:Int}(h1:(add1 w b).2=true)(h2:(aK8 w b).2=true)(h3:(oK w b).2=true)(h4:((zT w b).2==0)=true):Cb w b=(Oa (zT w b).1 2,true):=by unfold Cb;rw[h1,h2,h3,h4];rfl
def bLq {w:D.World}{b:Int}(hz:w.sz<=100000000)(h0:((aI w b 0).2==0)=true)(h3:(oK w b).2=true):(appW (oK w b).1 (bQ (aP w.Seed (w.Devices.length:Int)))).sz<=34359738100/\((zT w b).2==0->(zT w b).1.Mail.sz<=34359738300):=by
 obtain⟨g1,g2⟩:=bK5 h0 h3;have g4:(bQ (aP w.Seed (w.Devices.length:Int))).sz=0:=rfl;refine⟨by rw[Q9];omega,λh4=> ?_⟩;obtain⟨_,_,_,g3⟩:=kR (w:=appW (oK w b).1 (bQ (aP w.Seed (w.Devices.length:Int)))) h4;rw[Q9] at g3;have g5:(appW (oK w b).1 (bQ (aP w.Seed (w.Devices.length:Int)))).aAD.Log.length<=w.sz+1:=g2;have g6:(zT w b).1.sz<=34*w.sz+690:=by show(aI _ _ 0).1.sz<=_;omega
 have:(zT w b).1.Mail.sz<=(zT w b).1.sz:=by simp only[D.aAJ.sz,D.World.sz];omega
 omega
def aEe {w:D.World}{b:Int}(h:(aR w&&(aM w b&&(!dG w b&& !decide ((w.Devices.length:Int)>=6))))=false\/((aI w b 0).2==0)=false):iG w b=(w,false):=by
 unfold iG Q8;rcases h with h|h
 ·rw[h];rfl
 ·rw[h];simp
def bLr {w:D.World}{d:Int}(h:(dL w d).2=false):(dL w d).1=w:=by
 unfold dL at*;cases hc:((aI w d 0).2==0&&(Gq (aI w d 0).1 d).2) with
 |true=>rw[hc] at h;cases h
 |false=>rfl
def Ug (w:D.World)(b:Int)(hz:w.sz<=100000000):vR w b=some (iG w b):=by
 have hw8:w.sz<=34359738368:=by omega
 unfold vR;simp only[bd_s,aB (show w.sz<=34359738100 by omega),aB hw8,bne];cases hs:((aI w b 0).2==0) with
 |false=>rw[aEe (.inr hs)];rfl
 |true=>
 obtain⟨⟨h1,h2⟩,_⟩:=kR hs;rw[bI5 h1 h2];cases h3:dG w b with
 |true=>rw[aEe (.inl (by rw[h1,h2,h3];rfl))];rfl
 |false=>
 cases h4:decide ((w.Devices.length:Int)>=6) with
 |true=>rw[aEe (.inl (by rw[h1,h2,h3,h4];rfl))];rfl
 |false=>
 simp only[ba,ab,bd_s];rw[bFd h1 h2 h3 h4 hs];have hn6:w.Devices.length<6:=by have:=of_decide_eq_false h4;omega
 obtain⟨⟨⟨g1,g2⟩,g3⟩,g4⟩:=bI6 hz h1 hs;have hst:D.aAI.mk (1:Int) (w.Devices.length:Int) (aU w.Seed [277,(w.Devices.length:Int)]) 0=aP w.Seed (w.Devices.length:Int):=rfl;simp only[hst,nD g1,bd_s,aB (show(aI w b 0).1.aAD.Log.length<=34359738300 by omega)];have hll:=oJ (aI w b 0).1.aAD.Log 1 (bA (aP w.Seed (w.Devices.length:Int))) (aN (aI w b 0).1 b).Store;obtain⟨l,hl⟩:∃l,l=dS (aI w b 0).1.aAD.Log 1 (bA (aP w.Seed (w.Devices.length:Int))) (aN (aI w b 0).1 b).Store:=⟨_,rfl⟩;obtain⟨e,he⟩:∃e,e=bC l.1 (aN (aI w b 0).1 b).Key (IntKind.i64.wrap (1000+IntKind.i64.wrap (10*(l.1.length:Int)))):=⟨_,rfl⟩;obtain⟨c,hcc⟩:∃c,c=jV (aI w b 0).1.aAD l.1 e.1:=⟨_,rfl⟩;have A1:add1 w b=bif l.2&&(e.2&&c.2) then({(aI w b 0).1 with aAD:=c.1},true) else((aI w b 0).1,false):=by rw[hcc,he,hl];rfl
 rw[<-hl] at hll ⊢;have hez:=Dm l.1 (aN (aI w b 0).1 b).Key (IntKind.i64.wrap (1000+IntKind.i64.wrap (10*(l.1.length:Int))));rw[aB (show l.1.length<=34359738300 by omega),bd_s];rw[<-he] at hez ⊢;have hcz:=Qg (aI w b 0).1;rw[aB (show(aI w b 0).1.aAD.sz<=34359738368/\l.1.length<=34359738368/\e.1.sz<=34359738368 from⟨by omega,by omega,by omega⟩),bd_s,<-hcc];cases h5:l.2 with
 |false=>rw[Zn (by rw[A1,h5];rfl)];rfl
 |true=>
 cases h6:e.2 with
 |false=>rw[Zn (by rw[A1,h5,h6];rfl)];rfl
 |true=>
 cases h7:c.2 with
 |false=>rw[Zn (by rw[A1,h5,h6,h7];rfl)];rfl
 |true=>
 have A1':add1 w b=({(aI w b 0).1 with aAD:=c.1},true):=by rw[A1,h5,h6,h7];rfl
 have A2:aK8 w b=fP (aP w.Seed (w.Devices.length:Int)) (w.Devices.length:Int) 0 (aI w b 0).1.Sites:=by unfold aK8;rw[A1']
 have hss:∀s∈(aI w b 0).1.Sites,s.sz<=34359738300:=λs hs=>by
  have h1:=aKx (g:=D.Site.sz) hs;simp only[D.World.sz] at g3;omega
 simp only[ba,ab,bd_s];rw[bFc (x:=((w,false):D.World×Bool)) (st:=aP w.Seed (w.Devices.length:Int)) (n:=(w.Devices.length:Int)) (l:=(aI w b 0).1.Sites) (N:=2) g2 (by omega) hss (λrec p s r hp hz=>by
  simp only[ao (show((p.length:Nat):Int)<2 by omega),ac,bCt,bd_s,aB (aEd (p.length:Int)),aB hz,aX1]) (λrec S=>rfl)]
 cases h8:(fP (aP w.Seed (w.Devices.length:Int)) (w.Devices.length:Int) 0 (aI w b 0).1.Sites).2 with
 |false=>rw[Qj (.inl (by rw[A2,h8]))];rfl
 |true=>
 obtain⟨k1,k2,k3,k4⟩:=aD5 g1;have hg:=g1;simp only[aM,aa,bp] at hg;have W2:D.World.mk (aI w b 0).1.Now (aI w b 0).1.Seed ((aI w b 0).1.Devices.set b.toNat (nH (aN (aI w b 0).1 b) (w.Devices.length:Int) false)) (aI w b 0).1.Stolen c.1 (fP (aP w.Seed (w.Devices.length:Int)) (w.Devices.length:Int) 0 (aI w b 0).1.Sites).1 (aI w b 0).1.aAO (aI w b 0).1.Hosts (aI w b 0).1.Pin (aI w b 0).1.Mail=jQ w b:=by unfold jQ;rw[A2,A1'];rfl
 obtain⟨⟨z1,z2⟩,z3,z4⟩:=aW3 hs;have y0:(aI w b 0).1.sz<=34359738368:=by omega
 have y3:(aI w b 0).1.Devices.length<=34359738368/\(aI w b 0).1.Stolen.length<=34359738368:=by clear g3;simp only[D.World.sz] at y0;omega
 simp only[ac,nx_r,aB (show(aN (aI w b 0).1 b).sz<=34359738300 by omega),bd_s,eY (show((aI w b 0).1.Devices.set b.toNat (nH (aN (aI w b 0).1 b) (w.Devices.length:Int) false)).length<=34359738368 by rw[ax];exact y3.1),eY y3.2];show(bd (gd ((appW (D.World.mk (aI w b 0).1.Now (aI w b 0).1.Seed ((aI w b 0).1.Devices.set b.toNat (nH (aN (aI w b 0).1 b) (w.Devices.length:Int) false)) (aI w b 0).1.Stolen c.1 (fP (aP w.Seed (w.Devices.length:Int)) (w.Devices.length:Int) 0 (aI w b 0).1.Sites).1 (aI w b 0).1.aAO (aI w b 0).1.Hosts (aI w b 0).1.Pin (aI w b 0).1.Mail) (bQ (aP w.Seed (w.Devices.length:Int)))).sz<=10000000000) (some (dL (appW (D.World.mk (aI w b 0).1.Now (aI w b 0).1.Seed ((aI w b 0).1.Devices.set b.toNat (nH (aN (aI w b 0).1 b) (w.Devices.length:Int) false)) (aI w b 0).1.Stolen c.1 (fP (aP w.Seed (w.Devices.length:Int)) (w.Devices.length:Int) 0 (aI w b 0).1.Sites).1 (aI w b 0).1.aAO (aI w b 0).1.Hosts (aI w b 0).1.Pin (aI w b 0).1.Mail) (bQ (aP w.Seed (w.Devices.length:Int)))) b))) λz13=>bd (gd (z13.1.sz<=34359738100) (some (aI z13.1 (w.Devices.length:Int) 0))) λz14=>bd (bif !z13.2 then some true else some !(z14.2==0)) λz15=>bif z15 then some (w,false) else bd (gd (z14.1.Mail.sz<=34359738300) (some (vI z14.1.Mail 2 1 z14.1.Now))) λz16=>some (D.World.mk z14.1.Now z14.1.Seed z14.1.Devices z14.1.Stolen z14.1.aAD z14.1.Sites z14.1.aAO z14.1.Hosts z14.1.Pin z16.1,true))=_;have nz:(bQ (aP w.Seed (w.Devices.length:Int))).sz=0:=rfl;rw[W2,aB (show(appW (jQ w b) (bQ (aP w.Seed (w.Devices.length:Int)))).sz<=10000000000 by rw[Q9];omega),bd_s,bH2 _ z1 (by omega),show dL (jQ w b) b=oK w b from rfl];cases h9:(oK w b).2 with
 |false=>have hp:(oK w b).1=jQ w b:=bLr (w:=jQ w b) (d:=b) h9;rw[Qj (.inr (.inl h9)),aB (show(appW (oK w b).1 (bQ (aP w.Seed (w.Devices.length:Int)))).sz<=34359738100 by rw[hp,Q9];omega)];rfl
 |true=>
 obtain⟨v1,v2⟩:=bLq hz hs h9;rw[aB v1,bd_s,show aI (appW (oK w b).1 (bQ (aP w.Seed (w.Devices.length:Int)))) (w.Devices.length:Int) 0=zT w b from rfl];cases h10:((zT w b).2==0) with
 |false=>rw[Qj (.inr (.inr h10))];rfl
 |true=>rw[aX3 (by rw[A1']) (by rw[A2,h8]) h9 h10,ba,ab,bd_s,ab,aB (v2 h10),bd_s];rfl
def aHr (s e:Int):Jf s e=some (bP s e):=by unfold Jf;rw[aB (by simp)];rfl
def aAd (d:D.Device)(l:List D.aAC)(k:Int)(h:d.sz<=34359738368/\l.length<=34359738368):Al d l k=some (mQ d l k):=by unfold Al mQ;simp only[aB h.1,aB h.2,bd_s];cases bB l<;>cases cO l d.Log<;>cases decide (aL l<d.Epoch)<;>cases bG k<;>rfl
def Kw (s:D.aAH)(i:Int)(h:s.Credentials.length<=34359738368):rT s i=some (aW s i):=by unfold rT;exact Nn (l:=s.Credentials) (λa=>a.Handle==i) (by omega) (λrec j hj=>by simp only[dK hj,ac,aO hj,bd_s]) (λrec=>by simp only[dM,ab])
def bLs {a:D.aAH}{h:Int}(hk:decide (aW a h<0)=false):aY a.Credentials (aW a h)=some (fJ a (aW a h)):=by have hr:=mP (p:=λc:D.aAK=>c.Handle==h) (i:=0) (l:=a.Credentials) hk;exact uE (by unfold aW;omega) (by unfold aW;omega)
def Qk (a:D.aAH)(h:Int)(hz:a.sz<=34359738368):uQ a h=some (nZ a h):=by
 have hl:a.Credentials.length<=34359738368:=hz;unfold uQ nZ;simp only[aB hz,aB hl,bd_s];cases aZ a with
 |false=>rfl
 |true=>
  cases hk:decide (aW a h<0) with
  |true=>rfl
  |false=>simp only[ba,ab,bLs hk,bd_s];cases(fJ a (aW a h)).Cut<;>rfl
def bLt {s:D.Site}(hz:s.sz<=34359738300)(h:decide (aD s 1>=0)=true):aY s.Accounts (aD s 1)=some (fQ s (aD s 1))/\(fQ s (aD s 1)).sz<=34359738368:=by
 have h0:decide (aD s 1<0)=false:=by rw[decide_eq_true_iff] at h;exact aw (by omega)
 obtain⟨e1,e2,_⟩:=bH6 hz h0;exact⟨e1,by unfold fQ;omega⟩
def aX4 {h:Int}{N:Nat}{F:(Nat×List D.Site->Option (List D.Site))->Nat×List D.Site->Option (List D.Site)}
  (hF:∀rec (p:List D.Site) (s:D.Site) (r:List D.Site),p.length+r.length+1=N->s.sz<=34359738300->F rec (p.length,p++s::r)=rec (p.length+1,p++kC h s::r)) (hE:∀rec S,F rec (N,S)=some S):
  ∀(r p:List D.Site) (m:Nat),p.length+r.length=N->r.length<m->(∀s∈r,s.sz<=34359738300)->EV.bX m F (p.length,p++r)=some (p++r.map (kC h))
 |[],p,m+1,hl,_,_=>by
  simp only[bo,eg] at hl;rw[iA,hl,hE];simp
 |s::r,p,m+1,hl,hm,hs=>by
  simp only[av] at hl hm;have:=aX4 hF hE r (p++[kC h s]) m (by simp;omega) (by omega) (λy hy=>hs y (by simp[hy]));simp only[au,cu,cf,cC,bn] at this;rw[iA,hF _ p s r (by omega) (hs s (by simp)),this];simp
def bFe {h:Int}{N:Nat}{l:List D.Site}(hN:l.length=N)(hN2:N<=100)(hs:∀s∈l,s.sz<=34359738300){F:(Nat×List D.Site->Option (List D.Site))->Nat×List D.Site->Option (List D.Site)}
  (hF:∀rec (p:List D.Site) (s:D.Site) (r:List D.Site),p.length+r.length+1=N->s.sz<=34359738300->F rec (p.length,p++s::r)=rec (p.length+1,p++kC h s::r)) (hE:∀rec S,F rec (N,S)=some S):EV.bX FUEL F (0,l)=some (l.map (kC h)):=by
 have:=aX4 hF hE l [] FUEL (by simp;omega) (by have:=fT;omega) hs;simpa using this
def Ta {w:D.World}{b t:Int}(h:((aI w b 0).2==0&&(!dG w b&&(!(b==t)&&kN w t)))=false):iH w b t=(w,false):=by unfold iH;rw[h];rfl
def bAh {w:D.World}{b t:Int}(h:((aI w b 0).2==0&&(!dG w b&&(!(b==t)&&kN w t)))=true):iH w b t=qG w b t:=by unfold iH;rw[h];rfl
def Ii {w:D.World}{b t:Int}(h:(mR w b t).2=false\/(R4 w b t).2=false\/(R6 w b t).2=false):qG w b t=(w,false):=by unfold qG;rcases h with h|h|h<;>rw[h]<;>simp
def bPg {w:D.World}{b:Int}(hz:w.sz<=100000000)(h1:aR w=true)(hs:((aI w b 0).2==0)=true):(aM (aI w b 0).1 b=true/\(aI w b 0).1.Sites.length=2)/\(aI w b 0).1.sz<=300000000/\(aI w b 0).1.aAD.Log.length<=100000000/\∀s∈(aI w b 0).1.Sites,s.sz<=34359738300:=by obtain⟨⟨g1,g3⟩,g4⟩:=bI6 hz h1 hs;exact⟨g1,g3,g4,λs hs=>by have h1:=aKx (g:=D.Site.sz) hs;simp only[D.World.sz] at g3;omega⟩
def bLu {w:D.World}{b t:Int}(hz:w.sz<=100000000)(hs:((aI w b 0).2==0)=true){o:D.World}(ho:o=(aI w b 0).1){c:D.aAD}(h1:mR w b t=({o with aAD:=c},true)){x:D.Device}(h2:R4 w b t=(x,true)):
  (x.sz<=34359738300/\(nH x t true).sz<=34359738368/\c.sz<=34359738300/\(bN (nH x t true)).2.1.sz<=34359738300/\o.Mail.sz<=34359738300)/\
  qG w b t=bif (bN (nH x t true)).2.2&&(bO c (bN (nH x t true)).2.1).2 then(D.World.mk o.Now o.Seed (o.Devices.set b.toNat (bN (nH x t true)).1) o.Stolen (bO c (bN (nH x t true)).2.1).1 (o.Sites.map (kC t)) o.aAO o.Hosts o.Pin (vI o.Mail 4 1 o.Now).1,true) else(w,false):=by
 obtain⟨⟨a1,a2,a3,a4⟩,a5,⟨b1,b2⟩,b3,b4⟩:=bEa (t:=t) hs;have hd:=a1;simp only[aM,aa,bp] at hd;have hi:b.toNat<(iC w b).Devices.length:=by omega
 have hoo:o=iC w b:=ho;have hx:(mQ (aN (iC w b) b) (R3 w b t) (nI (aN (iC w b) b).Store (R3 w b t))).1=x:=by have:=congrArg Prod.fst h2;exact this
 have hdv:(aN (iC w b) b).sz<=(iC w b).sz:=(aD5 a1).2.2.1;have hxs:x.sz<=3*w.sz+21:=by have:=aK9 (aN (iC w b) b) (R3 w b t) (nI (aN (iC w b) b).Store (R3 w b t));rw[hx] at this;omega
 have hes:=aJd x t true;have hws:=wU (nH x t true);have hW:R5 w b t=D.World.mk o.Now o.Seed (o.Devices.set b.toNat (nH x t true)) o.Stolen c (o.Sites.map (kC t)) o.aAO o.Hosts o.Pin o.Mail:=by unfold R5;rw[h1,h2]
 have hdW:aN (R5 w b t) b=nH x t true:=by rw[hW,hoo];simp only[aN,List.getD,bg hi,cD]
 have hc0:c.sz<=({o with aAD:=c}:D.World).sz:=by simp only[D.World.sz,D.aAD.sz];omega
 have hcs:c.sz<=16*w.sz+34:=by rw[h1] at b3;exact bu hc0 b3
 have hms:o.Mail.sz<=2*w.sz+20:=by
  rw[hoo];have:(iC w b).Mail.sz<=(iC w b).sz:=by simp only[D.aAJ.sz,D.World.sz];omega
  omega
 refine⟨⟨by omega,by omega,by omega,by simp only[D.aAA.sz];omega,by omega⟩,?_⟩;unfold qG;rw[show R6 w b t=Gq (R5 w b t) b from rfl,h1,h2];unfold Gq;rw[hdW,hW];simp only[cW];cases(bN (nH x t true)).2.2&&(bO c (bN (nH x t true)).2.1).2 with
 |false=>rfl
 |true=>simp only[ac,Oa,iS]
def bFf {h:Int}{p r:List D.Site}{s:D.Site}(hz:s.sz<=34359738300):s.Accounts.length<=34359738368:=by simp only[D.Site.sz] at hz;omega
def aEf (w:D.World)(b t:Int)(hz:w.sz<=100000000):Eo w b t=some (iH w b t):=by
 have hw8:w.sz<=34359738368:=by omega
 unfold Eo;simp only[bd_s,aB (show w.sz<=34359738100 by omega),aB hw8,bne];cases hs:((aI w b 0).2==0) with
 |false=>rw[Ta (by rw[hs];rfl)];rfl
 |true=>
 obtain⟨⟨h1,h2⟩,_⟩:=kR hs;rw[bI5 h1 h2];simp only[ba,ab,bd_s];cases h3:dG w b with
 |true=>rw[Ta (by rw[hs,h3];rfl)];rfl
 |false=>
 cases h4:(b==t) with
 |true=>rw[Ta (by rw[hs,h3,h4];rfl)];rfl
 |false=>
 rw[aB (WOk.of' hw8)];cases h5:kN w t with
 |false=>rw[Ta (by rw[hs,h3,h4,h5];rfl)];rfl
 |true=>
 rw[bAh (by rw[hs,h3,h4,h5];rfl)];have ht:aM w t=true:=by unfold kN at h5;rw[aa] at h5;exact h5.1
 obtain⟨⟨g1,g2⟩,g3,g4,g5⟩:=bPg hz h1 hs;simp only[ba,ab,bd_s,nD ht,nD g1,aB (show(aI w b 0).1.aAD.Log.length<=34359738300 by omega)];have hll:=oJ (aI w b 0).1.aAD.Log 2 (bA (aN w t).Store) (aN (aI w b 0).1 b).Store;obtain⟨l,hl⟩:∃l,l=dS (aI w b 0).1.aAD.Log 2 (bA (aN w t).Store) (aN (aI w b 0).1 b).Store:=⟨_,rfl⟩;obtain⟨e,he⟩:∃e,e=bC l.1 (nI (aN (aI w b 0).1 b).Store l.1) (IntKind.i64.wrap (1000+IntKind.i64.wrap (10*(l.1.length:Int)))):=⟨_,rfl⟩;obtain⟨c,hcc⟩:∃c,c=jV (aI w b 0).1.aAD l.1 e.1:=⟨_,rfl⟩;have A1:mR w b t=bif l.2&&(e.2&&c.2) then({(aI w b 0).1 with aAD:=c.1},true) else((aI w b 0).1,false):=by rw[hcc,he,hl];rfl
 have AL:R3 w b t=l.1:=by rw[hl];rfl
 rw[<-hl] at hll ⊢;have hez:=Dm l.1 (nI (aN (aI w b 0).1 b).Store l.1) (IntKind.i64.wrap (1000+IntKind.i64.wrap (10*(l.1.length:Int))));have hcz:=Qg (aI w b 0).1;rw[aB (show([311]:List Int).length<=34359738300 by simp),bd_s,aB (show l.1.length<=34359738368 by omega),bd_s,bd_s,aB (show l.1.length<=34359738300 by omega),bd_s];rw[show bP (aU (aN (aI w b 0).1 b).Store.Seed [311]) (aL l.1)=nI (aN (aI w b 0).1 b).Store l.1 from rfl];rw[<-he] at hez ⊢;rw[aB (show(aI w b 0).1.aAD.sz<=34359738368/\l.1.length<=34359738368/\e.1.sz<=34359738368 from⟨by omega,by omega,by omega⟩),bd_s,<-hcc];cases h6:l.2 with
 |false=>rw[Ii (.inl (by rw[A1,h6];rfl))];rfl
 |true=>
 cases h7:e.2 with
 |false=>rw[Ii (.inl (by rw[A1,h6,h7];rfl))];rfl
 |true=>
 cases h8:c.2 with
 |false=>rw[Ii (.inl (by rw[A1,h6,h7,h8];rfl))];rfl
 |true=>
 have A1':mR w b t=({(aI w b 0).1 with aAD:=c.1},true):=by rw[A1,h6,h7,h8];rfl
 obtain⟨k1,k2,k3,k4⟩:=aD5 g1;obtain⟨x,hx⟩:∃x,x=mQ (aN (aI w b 0).1 b) l.1 (nI (aN (aI w b 0).1 b).Store l.1):=⟨_,rfl⟩;have A2:R4 w b t=x:=by rw[hx,<-AL];rfl
 simp only[ba,ab,bd_s,aB (show(aN (aI w b 0).1 b).sz<=34359738368/\l.1.length<=34359738368 from⟨by omega,by omega⟩)];rw[<-hx];cases h9:x.2 with
 |false=>rw[Ii (.inr (.inl (by rw[A2,h9])))];rfl
 |true=>
 obtain⟨⟨z1,z2,z3,z4,z5⟩,AE⟩:=bLu hz hs rfl A1' (x:=x.1) (by rw[A2,<-h9]);have q1:∀y:D.Device,aY ((aI w b 0).1.Devices.set b.toNat y) b=some y:=λy=>by rw[lN k1 (by rw[ax];exact k2)];simp
 rw[ba,ab,bFe (h:=t) (l:=(aI w b 0).1.Sites) (N:=2) g2 (by omega) g5 (λrec p s r hp hzs=>by
  simp only[ao (show((p.length:Nat):Int)<2 by omega),ac,bCt,bd_s,aB (bFf (h:=t) (p:=p) (r:=r) hzs)];cases hc:decide (aD s 1>=0) with
  |false=>simp only[ab,bd_s,kC,hc]
  |true=>
   obtain⟨e1,e2⟩:=bLt hzs hc;simp only[ac,e1,bd_s,aB e2,aX1,kC,hc]) (λrec S=>rfl)]
 simp only[bd_s,q1,aB z1,aB z2,aB z5,iS,aB (show c.1.sz<=34359738300/\(bN (nH x.1 t true)).2.1.sz<=34359738300 from⟨z3,z4⟩)];rw[AE];cases(bN (nH x.1 t true)).2.2<;>cases(bO c.1 (bN (nH x.1 t true)).2.1).2<;>rfl
def Ky (b:D.aAE)(i:Int):rR b i=some (jR b i):=by unfold rR;rw[aB (by simp)];rfl
def Uh (s:D.aAI):vP s=some (uG s):=by unfold vP uG;cases bF s.Vendor 1 9<;>cases bF s.Serial 0 1000000<;>cases bG s.Seed<;>rfl
def Fv (a:D.aAL)(h:a.Site.size<=34359738300/\a.aAN.size<=34359738300):pR a=some (dA a):=by unfold pR dA;rw[aB h.1,aB h.2];cases a.Present<;>rfl
def Ql (b:D.aAE)(i:Int)(h:b.Open.length<=34359738368):uN b i=some (dJ b i):=by unfold uN;exact Nn (l:=b.Open) (λc=>c.Id==i) (by omega) (λrec j hj=>by simp only[dK hj,ac,aO hj,bd_s]) (λrec=>by simp only[dM,ab])
def La (b:D.aAE)(i n:Int)(h:b.sz<=34359738368):rQ b i n=some (jE b i n):=by
 have hl:b.Open.length<=b.sz:=by simp only[D.aAE.sz];omega
 have ha:∀(x y:List D.aAM),x.length+y.length<=34359738400->aV x y:=λx y h=>by unfold aV;omega
 unfold rQ jE;rw[aB h,bd_s,aB h,bd_s];cases eD b with
 |false=>rfl
 |true=>
  cases b.Next==1000000 with
  |true=>rfl
  |false=>
   cases bF i 0 1000000 with
   |false=>rfl
   |true=>
    cases bF n 0 1000000 with
    |false=>rfl
    |true=>
     simp only[ba,dk,dw,ab,ac,bd_s];cases hd:decide ((b.Open.length:Int)>=16) with
     |false=>rw[ab,aB (ha _ _ (by simp only[av,bo];omega))];rfl
     |true=>have h16:=of_decide_eq_true hd;rw[ac,aB (show iD b.Open 1 from⟨by omega,by omega⟩),aB (ha _ _ (by simp only[cn,av,bo];omega))];rfl
def Qm (b:D.aAE)(id acc now:Int)(h:b.sz<=34359738368):uO b id acc now=some (uF b id acc now):=by
 have hl:b.Open.length<=b.sz:=by simp only[D.aAE.sz];omega
 have ha:∀(x y:List D.aAM),x.length+y.length<=34359738400->aV x y:=λx y h=>by unfold aV;omega
 unfold uO uF;rw[aB (show b.Open.length<=34359738368 by omega),bd_s,aB h,bd_s];cases eD b with
 |false=>simp only[dk,ac,bd_s,jb];rw[aB h];rfl
 |true=>
  simp only[ba,ab,bd_s,cL];cases hf:decide (dJ b id<0) with
  |true=>rw[ac,ac,aB h];rfl
  |false=>
   obtain⟨h0,h1⟩:=mP (i:=0) hf;have h0:0<=dJ b id:=h0;have h1:dJ b id<(b.Open.length:Int):=by have:dJ b id<0+(b.Open.length:Int):=h1;omega
   have hk:IntKind.i64.wrap (dJ b id+1)=(((dJ b id).toNat+1:Nat):Int):=by rw[aJ (by omega) (by omega)];omega
   have hat:aY b.Open (dJ b id)=some (aT7 b (dJ b id)):=uE h0 h1;rw[ab,ab,hk,hat,aB (show iD b.Open (dJ b id) from⟨by omega,by omega⟩),aB (show iD b.Open (((dJ b id).toNat+1:Nat):Int) from⟨by omega,by omega⟩),
    aB (ha _ _ (by simp only[bo,ce];omega)),aB (ha _ _ (by simp only[bn,ce,cn];omega)),bd_s,bd_s,co]
   cases(aT7 b (dJ b id)).aAH==acc<;>rfl
def Qn (s:D.aAI)(z:ByteArray)(i:Int)(l:List Int)(h:z.size<=34359738300/\l.length<=34359738200):uL s z i l=some (fK s z i l):=by
 have ha:∀(x y:List Int),x.length+y.length<=34359738400->aV x y:=λx y h=>by unfold aV;omega
 unfold uL fK;cases uG s with
 |false=>rfl
 |true=>
  simp only[ba,ab,bd_s,cW];cases s.Counter==1000000 with
  |true=>rfl
  |false=>simp only[aB h.1,bd_s,ab,dk,ac];rw[aB (ha _ _ (by simp only[bo];omega)),aB (ha _ _ (by simp only[bn,av,bo];omega)),aB (by simp only[bn,au,av,bo];omega)];rfl
def aAe (s:D.Site)(id now:Int)(h:s.sz<=34359738368):Aw s id now=some (sS s id now):=by
 have hb:s.Book.sz<=34359738368:=by simp only[D.Site.sz,D.aAE.sz] at h ⊢;omega
 have hl:s.Accounts.length<=34359738368:=by simp only[D.Site.sz] at h;omega
 unfold Aw sS;rw[aB h,bd_s,aB hb,bd_s,aB h,bd_s];cases dD s with
 |false=>rfl
 |true=>
  simp only[ba,ab,cW];rw[aB hl,bd_s];cases decide (aD s id<0) with
  |true=>rfl
  |false=>cases(jE s.Book id now).2.2<;>rfl
def Ui (a:D.aAH)(m:Int)(h:a.sz<=34359738368):vQ a m=some (Ac a m):=by
 have hl:a.Credentials.length<=34359738368:=by simp only[D.aAH.sz] at h;omega
 unfold vQ Ac;rw[aB h,bd_s,nC (l:=a.Credentials) (λc=> !c.Cut) (.inl true) (.inr ()) (by omega) (λrec i hi=>by simp only[dK hi,ac,aO hi,bd_s]) (λrec=>by simp only[dM,ab])];cases aZ a with
 |false=>rfl
 |true=>
  simp only[ba,ab,bd_s,cW];rw[show bF m a.Minimum 3=(decide (a.Minimum<=m)&&decide (m<=3)) from rfl];cases decide (a.Minimum<=m)<;>cases decide (m<=3)<;>try rfl
  cases hm:m==3<;>cases a.Credentials.any λc=> !c.Cut<;>simp[hm,nx,bne]
def aHs (o:D.aAN)(h:o.Host.size<=34359738368):Jq o=some (pM o):=by unfold Jq pM;rw[aB h,bd_s];cases fI o.Host<;>rfl
def Uj (o:D.aAN)(h:pK o):Ti o=some (oC o):=by obtain⟨k,hk,rfl⟩:=h;rcases(show k=0\/k=1\/k=2\/k=3\/k=4\/k=5 by omega) with rfl|rfl|rfl|rfl|rfl|rfl<;>kernel_rfl
def aPr (o:D.aAN)(z:ByteArray)(h:Jc o z):aPc o z=some (tN o z):=by obtain⟨⟨k,hk,rfl⟩,j,hj,rfl⟩:=h;rcases hj with rfl|rfl<;>rcases(show k=0\/k=1\/k=2\/k=3\/k=4\/k=5 by omega) with rfl|rfl|rfl|rfl|rfl|rfl<;>kernel_rfl
def qQ {α β:Type}{x:Option α}{f:α->Option β}{a:α}{r:Option β}(h:x=some a)(h2:f a=r):bd x f=r:=by rw[h];exact h2
def aX5 {α β:Type}{x:Option (α⊕β)}{f:β->Option α}{b:β}{r:Option α}(h:x=some (.inr b))(h2:f b=r):nx x f=r:=by rw[h];exact h2
def aM3 {τ:Type}(n:Nat){F:(Nat->Option τ)->Nat->Option τ}{b:τ}(hn:n<=18446744073709551616)(hF:∀rec i,i<n->F rec i=rec (i+1))(hE:∀rec,F rec n=some b):bX FUEL F 0=some b:=by have:=nC (l:=List.replicate n ()) (λ_=>false) b b (by simpa using hn) (F:=F) (λrec i hi=>by rw[hF rec i (by simpa using hi)];rfl) (λrec=>by simpa using hE rec);rw[this];cases(List.replicate n ()).any λ_=>false<;>rfl
def bQx {p:Nat->Prop}(h:p 0/\p 1/\p 2/\p 3/\p 4/\p 5/\p 6/\p 7/\p 8/\p 9/\p 10/\p 11):∀i,i<12->p i:=λi hi=>by
 match i,hi with
 |0,_=>exact h.1
 |1,_=>exact h.2.1
 |2,_=>exact h.2.2.1
 |3,_=>exact h.2.2.2.1
 |4,_=>exact h.2.2.2.2.1
 |5,_=>exact h.2.2.2.2.2.1
 |6,_=>exact h.2.2.2.2.2.2.1
 |7,_=>exact h.2.2.2.2.2.2.2.1
 |8,_=>exact h.2.2.2.2.2.2.2.2.1
 |9,_=>exact h.2.2.2.2.2.2.2.2.2.1
 |10,_=>exact h.2.2.2.2.2.2.2.2.2.2.1
 |11,_=>exact h.2.2.2.2.2.2.2.2.2.2.2
 |n+12,h=>omega
def lt8 {p:Nat->Prop}(h:p 0/\p 1/\p 2/\p 3/\p 4/\p 5/\p 6/\p 7):∀i,i<8->p i:=λi hi=>by
 match i,hi with
 |0,_=>exact h.1
 |1,_=>exact h.2.1
 |2,_=>exact h.2.2.1
 |3,_=>exact h.2.2.2.1
 |4,_=>exact h.2.2.2.2.1
 |5,_=>exact h.2.2.2.2.2.1
 |6,_=>exact h.2.2.2.2.2.2.1
 |7,_=>exact h.2.2.2.2.2.2.2
 |n+8,h=>omega
def Tc (k:Nat)(h:pK (rF k))(hx:pM (rF k)=true)(he:(oC (rF k)).toList=(Od k).toList):
  (bd (bif (!pM (rF k)) then(some (true)) else(bd (gd (pK (rF k)) (some (oC (rF k)))) λz5=>some (!z5.toList==(Od k).toList))) λz4=>bif z4 then(some ((D.aAN.mk false (ByteArray.mk #[]) (0:Int),false))) else(some (rF k,true)))=some (rF k,true):=by
 rw[hx,aB h,bd_s,he];simp[bd]
def Zo (z:ByteArray)(h:bEb z):oN z=some (wV z):=by
 obtain rfl|⟨k,hk,rfl⟩:=h
 ·unfold oN;refine qQ (a:=(⟨#[]⟩,false,⟨#[]⟩,0)) (by kernel_rfl) ?_;refine aX5 (b:=(⟨#[]⟩,(0:Int))) (aM3 0 (by omega) (λrec i hi=>by omega) (λrec=>by kernel_rfl)) ?_
  kernel_rfl
 ·unfold oN;rcases(show k=0\/k=1\/k=2\/k=3 by omega) with rfl|rfl|rfl|rfl
  ·refine qQ (a:=((rF 0).Host,true,⟨#[]⟩,443)) (by kernel_rfl) ?_;refine aX5 (b:=((rF 0).Host,(443:Int))) (aM3 12 (by omega) (λrec=>bQx (by refine⟨?_,?_,?_,?_,?_,?_,?_,?_,?_,?_,?_,?_⟩<;>kernel_rfl)) (λrec=>by kernel_rfl)) ?_;refine qQ (a:=true) (by kernel_rfl) ?_;exact(Tc 0 ⟨0,by decide,rfl⟩ (by kernel_rfl) (by kernel_rfl)).trans (by kernel_rfl)
  ·refine qQ (a:=((rF 1).Host,true,⟨#[]⟩,443)) (by kernel_rfl) ?_;refine aX5 (b:=((rF 1).Host,(443:Int))) (aM3 12 (by omega) (λrec=>bQx (by refine⟨?_,?_,?_,?_,?_,?_,?_,?_,?_,?_,?_,?_⟩<;>kernel_rfl)) (λrec=>by kernel_rfl)) ?_;refine qQ (a:=true) (by kernel_rfl) ?_;exact(Tc 1 ⟨1,by decide,rfl⟩ (by kernel_rfl) (by kernel_rfl)).trans (by kernel_rfl)
  ·refine qQ (a:=((rF 2).Host,true,⟨#[]⟩,443)) (by kernel_rfl) ?_;refine aX5 (b:=((rF 2).Host,(443:Int))) (aM3 8 (by omega) (λrec=>lt8 (by refine⟨?_,?_,?_,?_,?_,?_,?_,?_⟩<;>kernel_rfl)) (λrec=>by kernel_rfl)) ?_;refine qQ (a:=true) (by kernel_rfl) ?_;exact(Tc 2 ⟨2,by decide,rfl⟩ (by kernel_rfl) (by kernel_rfl)).trans (by kernel_rfl)
  ·refine qQ (a:=((rF 3).Host,true,⟨#[]⟩,443)) (by kernel_rfl) ?_;refine aX5 (b:=((rF 3).Host,(443:Int))) (aM3 8 (by omega) (λrec=>lt8 (by refine⟨?_,?_,?_,?_,?_,?_,?_,?_⟩<;>kernel_rfl)) (λrec=>by kernel_rfl)) ?_;refine qQ (a:=true) (by kernel_rfl) ?_;exact(Tc 3 ⟨3,by decide,rfl⟩ (by kernel_rfl) (by kernel_rfl)).trans (by kernel_rfl)
def bI8 {o:D.aAN}{z:ByteArray}(h:Jc o z):pK o/\z.size<=34359738300/\(oC o).size<=34359738300:=by
 obtain⟨ho,j,hj,rfl⟩:=h;refine⟨ho,?_,?_⟩
 ·rcases hj with rfl|rfl<;>exact(show 8<=34359738300 by omega)
 ·obtain⟨k,hk,rfl⟩:=ho;have:(oC (rF k)).size<=40:=by rcases(show k=0\/k=1\/k=2\/k=3\/k=4\/k=5 by omega) with rfl|rfl|rfl|rfl|rfl|rfl<;>decide
  omega
def Qo (s:D.aAI)(o:D.aAN)(z:ByteArray)(i c:Int)(b:Bool)(h:Jc o z):uM s o z i c b=some (jS s o z i c b):=by
 obtain⟨h1,h2,h3⟩:=bI8 h;unfold uM jS aC4;have hm:∀a,(dA a).length<=34359738200:=λa=>by simp[dA]
 rw[aB h1,bd_s,aB ⟨h2,h3⟩,bd_s,aB ⟨h2,hm _⟩,bd_s,aB h,bd_s];generalize fK s z i (dA (D.aAL.mk z (oC o) c i b 0 0))=q;obtain⟨q1,q2,q3⟩:=q;cases tN o z<;>cases q3<;>rfl
def aS0 {k:Nat}(hk:k<4):wV (Od k)=(rF k,true)/\(Od k).size<=34359738300:=by
 rcases(show k=0\/k=1\/k=2\/k=3 by omega) with rfl|rfl|rfl|rfl
 ·exact⟨by kernel_rfl,show 20<=34359738300 by omega⟩
 ·exact⟨by kernel_rfl,show 20<=34359738300 by omega⟩
 ·exact⟨by kernel_rfl,show 16<=34359738300 by omega⟩
 ·exact⟨by kernel_rfl,show 16<=34359738300 by omega⟩
def bAi {j:Int}(hj:j=0\/j=1){k:Nat}(hk:k<4):wV (Od k)=(rF k,true)/\(aA j).size<=34359738300/\(Od k).size<=34359738300:=by refine⟨(aS0 hk).1,?_,(aS0 hk).2⟩;rcases hj with rfl|rfl<;>exact(show 8<=34359738300 by omega)
def Lb (pub:Int)(a:D.aAL)(z:ByteArray)(ch cnt:Int)(h:AsP a z):lL pub a z ch cnt=some (kZ pub a z ch cnt):=by
 obtain⟨j,hj,rfl,rfl|⟨hs,k,hk,ho,hu⟩⟩:=h
 ·unfold lL;rw[aB (show bEb bH7.aAN from .inl rfl)];rcases hj with rfl|rfl<;>kernel_rfl
 ·obtain⟨h1,h2,h3⟩:=bAi hj hk;have hm:(dA a).length=6:=by simp[dA]
  unfold lL kZ;rw[aB (show bEb a.aAN from .inr ⟨k,hk,ho⟩),bd_s,show wV a.aAN=(rF k,true) by rw[ho];exact h1,show(a.Site.toList==(aA j).toList)=true by rw[hs];simp];simp only[ba,ab];rw[aB (show Jc (rF k) (aA j) from⟨⟨k,by omega,rfl⟩,j,hj,rfl⟩),bd_s,hu,bd_s];simp only[ba,ab,bne];rw[aB (show a.Site.size<=34359738300/\a.aAN.size<=34359738300 by rw[hs,ho];exact⟨h2,h3⟩),bd_s,aB (show aV (dA a) [a.Counter] by unfold aV;simp only[hm,av,bo];omega),aB (show(dA a++[a.Counter]).length<=34359738300 by simp only[au,hm,av,bo];omega),bd_s];cases a.Present<;>cases a.aAM==ch<;>cases gI pub (dA a++[a.Counter]) a.Signature<;>cases decide (a.Counter<=cnt)<;>rfl
def bPh {a:D.aAH}{h:Int}(hk:decide (aW a h<0)=false):aY a.Credentials (aW a h)=some (fJ a (aW a h))/\(aW a h).toNat<a.Credentials.length:=by have hr:=mP (p:=λc:D.aAK=>c.Handle==h) (i:=0) (l:=a.Credentials) hk;exact⟨uE (by unfold aW;omega) (by unfold aW;omega),by unfold aW;omega⟩
def Qp (a:D.aAH)(x:D.aAL)(z:ByteArray)(c:Int)(h:AsP x z/\a.sz<=34359738368):uP a x z c=some (nP a x z c):=by
 obtain⟨hp,hz⟩:=h;have hl:a.Credentials.length<=34359738368:=hz;unfold uP nP;simp only[aB hz,aB hl,bd_s];cases aZ a with
 |false=>rfl
 |true=>
  cases hk:decide (aW a x.Handle<0) with
  |true=>rfl
  |false=>
   simp only[ba,ab,(bPh hk).1,bd_s,cL];cases(fJ a (aW a x.Handle)).Cut with
   |true=>rfl
   |false=>simp only[aB hp,bd_s,ab];generalize kZ (fJ a (aW a x.Handle)).Public x z c (fJ a (aW a x.Handle)).Counter=k;cases k==0<;>cases k==4<;>rfl
def bLv {s:D.Site}{i:Int}(hz:s.sz<=34359738300)(h:decide (aD s i<0)=false):aY s.Accounts (aD s i)=some (fQ s (aD s i))/\(fQ s (aD s i)).sz<=34359738300/\(aD s i).toNat<s.Accounts.length:=by
 have hr:=mP (p:=λa:D.aAH=>a.Id==i) (i:=0) (l:=s.Accounts) h;have hi:(aD s i).toNat<s.Accounts.length:=by unfold aD;omega
 have h1:=Hw (f:=D.aAH.sz) hi;refine⟨uE (by unfold aD;omega) (by unfold aD;omega),?_,hi⟩;unfold fQ;simp only[D.Site.sz] at hz;omega
def Zp (s:D.Site)(i c n:Int)(x:D.aAL)(h:AsP x s.Name/\s.sz<=34359738300):yK s i c n x=some (tO s i c n x):=by
 obtain⟨hp,hz⟩:=h;have hz1:s.sz<=34359738368:=by omega
 have hb:s.Book.sz<=34359738368:=by simp only[D.Site.sz,D.aAE.sz] at hz ⊢;omega
 have hl:s.Accounts.length<=34359738368:=by simp only[D.Site.sz] at hz;omega
 have ha:aV s.Logins [i]:=by unfold aV;simp only[D.Site.sz] at hz;simp only[av,bo];omega
 unfold yK tO;simp only[aB hz1,aB hl,aB hb,bd_s];cases dD s with
 |false=>rfl
 |true=>
  simp only[ba,ab,bd_s,cL];cases hk:decide (aD s i<0) with
  |true=>rfl
  |false=>
   obtain⟨e1,e2,e3⟩:=bLv hz hk;simp only[ab];cases(uF s.Book c i n).2 with
   |false=>rfl
   |true=>
    simp only[ba,ab,e1,bd_s,aB (show(fQ s (aD s i)).sz<=34359738368 by omega)];cases Ac (fQ s (aD s i)) 3 with
    |false=>rfl
    |true=>
     simp only[ba,ab,aB (show AsP x s.Name/\(fQ s (aD s i)).sz<=34359738368 from⟨hp,by omega⟩),bd_s,aB ha,bne];cases hc:(nP (fQ s (aD s i)) x s.Name (jR s.Book c)).2==0 with
     |false=>rfl
     |true=>rw[eq_of_beq hc];rfl
def Qq {w:D.World}(h:aR w=true):w.Sites.length=2/\w.Stolen.length=w.Devices.length/\w.Devices.length<=6/\fO kY 0 w.Sites=false:=by simp only[aR,bF,aa,bp,cG,cq] at h;exact⟨by omega,by omega,by omega,h.2⟩
def aHt (w:D.World)(d j:Int)(h:w.sz<=34359738368):Jp w d j=some (eO w d j):=by
 unfold Jp eO;rw[aB h,bd_s];cases hw:aR w with
 |false=>rfl
 |true=>
  obtain⟨h1,h2,h3,_⟩:=Qq hw;have e:bF d 0 (IntKind.i64.wrap ((w.Devices.length:Int)-1))=aM w d:=by
   rw[aJ (by omega) (by omega)];unfold bF aM;by_cases hd:d<(w.Devices.length:Int)
   ·rw[ao hd,ao (show d<=(w.Devices.length:Int)-1 by omega)]
   ·rw[aw hd,aw (show ¬d<=(w.Devices.length:Int)-1 by omega)]
  have e2:bF j 0 1=xL w j:=by
   unfold bF xL;rw[h1,show((2:Nat):Int)=2 from rfl];by_cases hd:j<(2:Int)
   ·rw[ao hd,ao (show j<=1 by omega)]
   ·rw[aw hd,aw (show ¬j<=1 by omega)]
  rw[e,e2,ac];cases aM w d<;>cases xL w j<;>rfl
def aS1 {w:D.World}{d j:Int}(h:eO w d j=true):aY w.Stolen d=some (dG w d):=by simp only[eO,aa] at h;obtain⟨h1,h2,h3,_⟩:=Qq h.1;have hd:=h.2.1;simp only[aM,aa,bp] at hd;unfold dG;rw[lN hd.1 (by omega)];simp[List.getD,ae (show d.toNat<w.Stolen.length by omega)]
def bLw (j:Int):(ByteArray.mk #[UInt8.ofNat 119,UInt8.ofNat 119,UInt8.ofNat 119,UInt8.ofNat 46]).size+(aA j).size<=9223372036854775807:=by unfold aA;cases j==0<;>cases j==1<;>decide
def aEg (s:ByteArray):aDf s=some (D.aAN.mk true s 443):=rfl
def bPi {a b:ByteArray}(h:a.toList=b.toList):a=b:=by rw[ByteArray.toList_eq,ByteArray.toList_eq] at h;exact ByteArray.ext (ji.1 h)
def bI9 {l:List D.Site}{k:Nat}:∀{i:Nat},fO kY i l=false->∀(h:k<l.length),dD l[k]=true/\l[k].Name=aA ((i+k:Nat):Int):=by
 induction l generalizing k with
 |nil=>intro i _ h;simp at h
 |cons s l ih=>
  intro i ha h;simp only[fO,bq] at ha;cases k with
  |zero=>have hb:=ha.1;simp only[kY,bq,dv] at hb;refine⟨hb.1,?_⟩;have:=eq_of_beq hb.2;exact bPi this
  |succ k=>have:=ih (k:=k) (i:=i+1) ha.2 (by simpa using h);simp only[eJ];refine⟨this.1,this.2.trans ?_⟩;congr 1;omega
def aM4 {w:D.World}{d j:Int}(h:eO w d j=true):aY w.Sites j=some (nQ w j)/\(nQ w j).sz<=w.sz/\(nQ w j).Name=aA j/\(j=0\/j=1)/\j.toNat<w.Sites.length:=by
 simp only[eO,aa] at h;obtain⟨h1,h2,h3,h4⟩:=Qq h.1;have hd:=h.2.2;simp only[xL,aa,bp] at hd;have hj:j.toNat<w.Sites.length:=by omega
 have hs:=Hw (f:=D.Site.sz) hj;have e:nQ w j=w.Sites[j.toNat]:=by unfold nQ;simp[List.getD,ae hj]
 refine⟨by rw[lN hd.1 hj,e],?_,?_,by omega,hj⟩
 ·unfold nQ;simp only[D.World.sz];omega
 ·rw[e,(bI9 h4 hj).2];congr 1;omega
def bAj (s:D.Site)(i n:Int):(sS s i n).1.Name=s.Name/\(sS s i n).1.sz<=s.sz+1:=by
 unfold sS;cases dD s&&(!decide (aD s i<0)&&(jE s.Book i n).2.2) with
 |false=>exact⟨rfl,eo _⟩
 |true=>
  refine⟨rfl,?_⟩;have hb:(jE s.Book i n).1.Open.length<=s.Book.Open.length+1:=by
   unfold jE;cases eD s.Book&&(!(s.Book.Next==1000000)&&(bF i 0 1000000&&bF n 0 1000000)) with
   |false=>simp only[ab];omega
   |true=>
    simp only[ac];cases decide ((s.Book.Open.length:Int)>=16) with
    |true=>simp only[ac,au,cn,av,bo];omega
    |false=>simp only[ab,au,av,bo];omega
  simp only[ac,D.Site.sz,D.aAE.sz];omega
def bJa {k:Nat}(hk:k<6){j:Int}(hj:j=0\/j=1)(h:tN (rF k) (aA j)=true):k<4:=by
 rcases(show k<4\/k=4\/k=5 by omega) with h4|rfl|rfl
 ·exact h4
 ·rcases hj with rfl|rfl<;>exact absurd h (by decide)
 ·rcases hj with rfl|rfl<;>exact absurd h (by decide)
def bAk (s:D.aAI)(h c:Int)(p:Bool){o:D.aAN}(ho:pK o){j:Int}(hj:j=0\/j=1):AsP (jS s o (aA j) h c p).2.1 (aA j):=by
 refine⟨j,hj,rfl,?_⟩;obtain⟨k,hk,rfl⟩:=ho;unfold jS;cases hm:tN (rF k) (aA j) with
 |false=>exact .inl rfl
 |true=>
  cases(fK s (aA j) h (dA (aC4 s (rF k) (aA j) h c p))).2.2 with
  |false=>exact .inl rfl
  |true=>exact .inr ⟨rfl,k,bJa hk hj hm,rfl,hm⟩
def bQy {w:D.World}{d j:Int}{o:D.aAN}(ho:pK o)(h:eO w d j=true)(hz:w.sz<=34359738200):AsP (aO8 w d j o).2.1 (uH w j).1.Name/\(uH w j).1.sz<=34359738300:=by obtain⟨_,h2,h3,h4,_⟩:=aM4 h;obtain⟨b1,b2⟩:=bAj (nQ w j) 1 w.Now;exact⟨by unfold aO8 uH;rw[b1,h3];exact bAk _ _ _ _ ho h4,by unfold uH;omega⟩
def aPs (w:D.World)(d j:Int)(o:D.aAN)(h:pK o/\w.sz<=34359738200):Wu w d j o=some (lJ w d j o):=by
 obtain⟨ho,hz⟩:=h;have hz1:w.sz<=34359738368:=by omega
 unfold Wu lJ;simp only[aB hz1,bd_s];cases ht:eO w d j with
 |false=>rfl
 |true=>
  obtain⟨e1,e2,e3,e4,e5⟩:=aM4 ht;obtain⟨p1,p2⟩:=bQy ho ht hz;have ht2:=ht;simp only[eO,aa] at ht2;have ed:=nD ht2.2.1;have hm:w.Mail.sz<=34359738300:=by simp only[D.World.sz,D.aAJ.sz] at hz ⊢;omega
  simp only[ba,ab,e1,bd_s,aB (show(nQ w j).sz<=34359738368 by omega)];rw[show sS (nQ w j) 1 w.Now=uH w j from rfl];cases hb:(uH w j).2.2.2 with
  |false=>rfl
  |true=>simp only[ba,ab,ed,bd_s,aB (show Jc o (aA j) from ho.p e4)];rw[show jS (aN w d).Store o (aA j) d (uH w j).2.2.1 true=aO8 w d j o from rfl];simp only[aB (show AsP (aO8 w d j o).2.1 (uH w j).1.Name/\(uH w j).1.sz<=34359738300 from⟨p1,p2⟩),bd_s,aB hm,bne];rw[show tO (uH w j).1 1 (uH w j).2.1 w.Now (aO8 w d j o).2.1=aG2 w d j o from rfl];cases(aG2 w d j o).2.1==0<;>rfl
def aHu (w:D.World)(d j:Int)(o:D.aAN)(h:pK o/\w.sz<=34359738200):Jr w d j o=some (Hy w d j o):=by unfold Jr;rw[aB h];rfl
def Zq (w:D.World)(d j:Int)(hz:w.sz<=34359738200):yL w d j=some (qH w d j):=by
 have hz1:w.sz<=34359738368:=by omega
 unfold yL qH;simp only[aB hz1,bd_s,aB (bLw j)];cases ht:eO w d j with
 |false=>rfl
 |true=>
  simp only[ba,ab,aS1 ht,bd_s,cW];cases dG w d with
  |true=>rfl
  |false=>simp only[dk,ab,ac];exact(qQ (aB (show pK (aSe j)/\w.sz<=34359738200 from⟨bOw (aM4 ht).2.2.2.1,hz⟩)) rfl)
def Qr {σ τ:Type}{F:(σ->Option τ)->σ->Option τ}(S:Nat->σ)(N:Nat){r:τ}(hN:N<=1000000)(hF:∀rec i,i<N->F rec (S i)=rec (S (i+1)))(hE:∀rec,F rec (S N)=some r){s:σ}(hs:s=S 0):EV.bX FUEL F s=some r:=by
 subst hs;have go:∀(k i n:Nat),i+k=N->k<n->EV.bX n F (S i)=some r:=by
  intro k;induction k with
  |zero=>intro i n h hn;obtain⟨m,rfl⟩:∃m,n=m+1:=⟨n-1,by omega⟩;rw[iA,show i=N by omega];exact hE _
  |succ k ih=>intro i n h hn;obtain⟨m,rfl⟩:∃m,n=m+1:=⟨n-1,by omega⟩;rw[iA,hF _ i (by omega)];exact ih (i+1) m (by omega) (by omega)
 exact go N 0 FUEL (by omega) (by have:=fT;omega)
def aX6 {m:Int}{F:(Int×Int×Int->Option Int)->Int×Int×Int->Option Int}(hF:∀rec (b n s:Int),0<=n->n<9223372036854775807->F rec (b,n,s)=bif decide (n>0) then rec ((IntKind.i64.wrap (b*b)).tmod m,n/2,bif n%2==1 then(IntKind.i64.wrap (s*b)).tmod m else s) else some s):
  ∀(k:Nat) (b n s:Int) (f:Nat),k<f->0<=n->n<2^k->k<=62->bX f F (b,n,s)=some (aZp m k b n s)
 |0,b,n,s,f+1,hf,h0,h1,hk=>by
  have:n=0:=by simp at h1;omega
  subst this;rw[iA,hF _ _ _ _ (by omega) (by omega)];rfl
 |k+1,b,n,s,f+1,hf,h0,h1,hk=>by
  have h2:(2:Int)^(k+1)=2*2^k:=by rw[e9];omega
  have h3:n<2^62:=Int.lt_of_lt_of_le h1 (by exact_mod_cast ie (by omega) hk);rw[iA,hF _ _ _ _ h0 (by omega)];unfold aZp;by_cases hn:n>0
  ·rw[ao hn,ac,cH hn];exact aX6 hF k _ (n/2) _ f (by omega) (by omega) (by omega) (by omega)
  ·rw[aw hn,ab,cX hn]
def bQz:((2039:Int)≠0)=True:=by simp
def aAf (b n:Int)(h:0<=n/\n<2048):qL b n=some (aZp 2039 11 b n 1):=by unfold qL;rw[aX6 (m:=2039) (λrec b n s h0 h1=>by simp only[show mG .i64 n 1=n%2 from and_one h0 (by omega),show Co .i64 n 1=n/2 from bBw h0,bQz,gd_T,kP,bd_s,aB (show(0:Int)<=1 by decide)]) 11 b n 1 FUEL (by have:=fT;omega) h.1 (by have:=h.2;omega) (by omega)];rfl
def Lc (x:Int):rO x=some (aLa x):=by unfold rO aLa;rw[aAf _ _ (by decide)];cases bF x 1 2038<;>rfl
def aHv (g n:Int):Jn g n=some (xQ g n):=by unfold Jn xQ;have hr:=xA (p:=n) (q:=1019) (by decide);rw[aAf _ _ ⟨hr.1,by omega⟩];cases aLa g<;>rfl
def Zr (a b:Int):yI a b=some (R7 a b):=by unfold yI;rw[aB (by simp),bd_s,aB (by decide),aB (by decide)];rfl
def Uk (a b c:Int):Tg a b c=some (Sr a b c):=rfl
def aEh (a b:Int):Ej a b=some (Ad a b):=by
 unfold Ej Ad;rw[aB (by simp),bd_s];have h:=(kM a [157,b]).1;generalize bJ a [157,b]=n at h ⊢;unfold aTy iE;by_cases h1:n>1
 ·rw[ao h1,show(n==0)=false by simp;omega];rfl
 ·rw[aw h1];by_cases h2:n=0
  ·subst h2;rfl
  ·have:n=1:=by omega
   subst this;rfl
def aAg (a b:Int):Av a b=some (R8 a b):=by unfold Av;rw[aB (by simp)];rfl
def aM5 (a b:Int):Po a b=some (aSf a b):=by unfold Po aSf;rw[aB (by simp)];cases bF a 0 2147483647<;>rfl
def aEi (k:D.aAV):aDe k=some (R9 k):=rfl
def bAl {c n:Int}{l:List Int}(hn:1<=n/\n<=7)(hl:l.length<=34359738368){F:(List D.aAS×Int->Option (List D.aAS))->List D.aAS×Int->Option (List D.aAS)}(hF:∀rec (s:List D.aAS) (i:Int),1<=i->i<=8->s.length<=8->F rec (s,i)=bif decide (i<=n) then rec (s++[⟨i,Wi c l i⟩],i+1) else some s):EV.bX FUEL F ([],1)=some ((List.range n.toNat).map λ(i:Nat)=>(⟨(i:Int)+1,Wi c l ((i:Int)+1)⟩:D.aAS)):=
 Qr (λi=>((List.range i).map λ(i:Nat)=>(⟨(i:Int)+1,Wi c l ((i:Int)+1)⟩:D.aAS),(i:Int)+1)) n.toNat (by omega) (λrec i hi=>by
  rw[hF rec _ _ (by omega) (by omega) (by simp;omega),ao (by omega),ac,ia,cT];rfl) (λrec=>by
  rw[hF rec _ _ (by omega) (by omega) (by simp;omega),aw (by omega),ab]) rfl
def Zt (c:Int)(l:List Int)(n:Int)(h:l.length<=34359738368):yH c l n=some (xR c l n):=by
 unfold yH xR;cases h1:bF n 1 7 with
 |false=>rfl
 |true=>
  have hn:=jJ h1;rw[bAl (c:=c) hn h (λrec s i h0 h1 h2=>by
   simp only[aB (show(0:Int)<=i/\i<=1000/\l.length<=34359738368 from⟨by omega,by omega,h⟩),bd_s,aB (show aV s [D.aAS.mk i (Wi c l i)] by unfold aV;simp;omega),aJ (show-9223372036854775808<=i+1 by omega) (show i+1<=9223372036854775807 by omega)])]
  by_cases h2:(l.length:Int)<n
  ·rw[ao h2,aw (show ¬(l.length:Int)>=n by omega)];rfl
  ·rw[aw h2,ao (show(l.length:Int)>=n by omega)];rfl
def aEj (pin salt key sec:Int)(cs:List Int)(n lim:Int)(h:cs.length<=34359738368):Em pin salt key sec cs n lim=some (Hz pin salt key sec cs n lim):=by
 unfold Em Hz aT8;simp only[aB h,bd_s];have hl:=aSi sec cs n;generalize xR sec cs n=l at hl ⊢;cases bF pin 0 9999 with
 |false=>rfl
 |true=>
 cases bF salt 0 1000000 with
 |false=>rfl
 |true=>
 cases bG key with
 |false=>rfl
 |true=>
 cases gP sec 1019==0 with
 |true=>rfl
 |false=>
 cases bF lim 1 10 with
 |false=>rfl
 |true=>
 rw[bSi (l:=l) (λs=>R9 ⟨s,0,0,lim⟩) (by omega) (λrec i s hi hs=>by
  have ha:∀x:D.aAG,aV s [x]:=λx=>by unfold aV;simp;omega
  simp only[dK hi,ac,aO hi,bd_s,aB (ha _)];rfl) (λrec s=>by simp only[dM,ab])]
 cases l with
 |nil=>rfl
 |cons x l=>
  have e:(((x::l).length:Int)==0)=false:=by simp;omega
  have e2:((x::l).length==0)=false:=by simp
  rw[e,e2];rfl
def aHw (l:List D.aAC)(b:D.aAF)(h:l.length<=34359738368/\b.sz<=34359738368):Jg l b=some (dE l b):=by
 unfold Jg dE;have hb:b.Boxes.length<=34359738368:=by have:=h.2;simp only[D.aAF.sz] at this;omega
 simp only[aB h.1,aB h.2,aB (show b.Boxes.length<=34359738368/\l.length<=34359738368 from⟨hb,h.1⟩),bd_s];cases bB l<;>cases gK b l<;>rfl
def aX7 (s:D.Site)(id m:Int):(oD s id m).sz=s.sz+1:=by
 have e:(s.Accounts.map D.aAH.sz).sum=((s.Accounts.take (qI id s.Accounts)).map D.aAH.sz).sum+((s.Accounts.drop (qI id s.Accounts)).map D.aAH.sz).sum:=by rw[<-eR,<-cT,cE]
 have el:(s.Accounts.take (qI id s.Accounts)).length+(s.Accounts.drop (qI id s.Accounts)).length=s.Accounts.length:=by rw[<-au,cE]
 simp only[oD,D.Site.sz,au,cT,eR,av,bo,bm,ex,dg,fN,D.aAH.sz] at e el ⊢;omega
def bFg {l:List D.aAH}{id:Int}{F:(Int->Option Int)->Int->Option Int}(hl:l.length<=34359738368)(hF:∀rec (i:Nat) (hi:i<l.length),F rec (i:Int)=bif decide (l[i].Id<id) then rec ((i+1:Nat):Int) else some (i:Int))(hE:∀rec,F rec (l.length:Int)=some (l.length:Int)):EV.bX FUEL F 0=some (qI id l:Int):=
 aSb (λa:D.aAH=>decide (a.Id<id)) (λi=>some (i:Int)) (λi=>(i:Int)) hl hF hE
def bJb (id:Int)(l:List D.aAH):qI id l<=l.length:=Oc
def Zu (s:D.Site)(id m:Int)(h:s.sz<=34359738300):xZ s id m=some (lC s id m):=by
 unfold xZ lC;have hl:s.Accounts.length<=s.sz:=by simp only[D.Site.sz];omega
 have hk:=bJb id s.Accounts;have ha:∀(x y:List D.aAH),x.length+y.length<=34359738400->aV x y:=λx y h=>by unfold aV;omega
 have hs:s.sz<=34359738368:=by omega
 have h1:=aX7 s id m;rw[aB hs,bd_s,bFg (id:=id) (l:=s.Accounts) (by omega) (λrec i hi=>by simp only[dK hi,ac,aO hi,bd_s,aJ (show-9223372036854775808<=(i:Int)+1 by omega) (show(i:Int)+1<=9223372036854775807 by omega)];rfl) (λrec=>by simp only[dM,ab,bd_s]),bd_s];have hh:iD s.Accounts (qI id s.Accounts:Int):=⟨by omega,by omega⟩;have he:(List.take (qI id s.Accounts) s.Accounts).length+(List.drop (qI id s.Accounts) s.Accounts).length=s.Accounts.length:=by rw[<-au,cE]
 have ht:(List.take (qI id s.Accounts) s.Accounts).length<=s.Accounts.length:=by omega
 have hd:(List.drop (qI id s.Accounts) s.Accounts).length<=s.Accounts.length:=by omega
 rw[co,aB hh,aB hh,aB (ha _ _ (by simp only[bo];omega)),aB (ha _ _ (by simp only[bn,av,bo];omega)),aB (ha _ _ (by simp only[bn,au,av,bo];omega)),aB hs,bd_s,bn];rw[show(D.Site.mk s.Name (List.take (qI id s.Accounts) s.Accounts++[D.aAH.mk id m []]++List.drop (qI id s.Accounts) s.Accounts) s.Book s.Logins)=oD s id m from rfl,aB (show(oD s id m).sz<=34359738368 by omega)];cases dD s<;>cases dD (oD s id m)<;>rfl
def bLx {α:Type}{x y:List α}(h:x.length<=1000)(h':y.length<=1000):aV x y:=by unfold aV;omega
def Qs (seed:Int)(n:Nat):(dB seed n).length=n:=by simp[dB]
def aAh (seed:Int)(n:Nat):dB seed (n+1)=dB seed n++[bQ (aP seed (n:Int))]:=by simp[dB,ia]
def bFh (seed:Int)(n:Nat):aY (dB seed (n+1)) 0=some (bQ (aP seed 0)):=by rw[show(0:Int)=((0:Nat):Int) from rfl,aO (by rw[Qs];omega)];simp[dB]
def aUr (seed:Int)(n:Nat)(h:1<=n):dB seed n=bQ (aP seed 0)::(dB seed n).drop 1:=by obtain⟨m,rfl⟩:∃m,n=m+1:=⟨n-1,by omega⟩;simp[dB,List.range_succ_eq_map]
abbrev sT (s:D.Site):ByteArray×List D.aAH×Int×Int×List D.aAM×List Int:=(s.Name,s.Accounts,s.Book.Seed,s.Book.Next,s.Book.Open,s.Logins)
def aAi (nm:ByteArray):∀(l:List D.Device) (k:Nat) (d:D.Device) (s:D.Site),tQ nm k (l++[d]) s=(eQ (tQ nm k l s) 1 ((k+l.length:Nat):Int) (dP d.Store nm ((k+l.length:Nat):Int))).1
 |[],k,d,s=>rfl
 |x::l,k,d,s=>by
  rw[cC];show tQ nm (k+1) (l++[d]) _=_;rw[aAi nm l (k+1) d,av,show k+1+l.length=k+(l.length+1) by omega];rfl
def bFi {nm:ByteArray}{l:List D.Device}{s0:D.Site}(hl:l.length<=3)(hs:s0.sz<=1000){F:(Nat×ByteArray×List D.aAH×Int×Int×List D.aAM×List Int->Option (ByteArray×List D.aAH×Int×Int×List D.aAM×List Int))->Nat×ByteArray×List D.aAH×Int×Int×List D.aAM×List Int->Option (ByteArray×List D.aAH×Int×Int×List D.aAM×List Int)}
  (hF:∀rec (i:Nat) (hi:i<l.length) (s:D.Site),s.sz<=2000->F rec (i,sT s)=rec (i+1,sT (eQ s 1 (i:Int) (dP l[i].Store nm (i:Int))).1)) (hE:∀rec s,F rec (l.length,sT s)=some (sT s)):EV.bX FUEL F (0,sT s0)=some (sT (tQ nm 0 l s0)):=
 Qr (λi=>(i,sT (tQ nm 0 (l.take i) s0))) l.length (by omega) (λrec i hi=>by
  have h1:=Yd nm 0 (l.take i) s0;have h2:(l.take i).length=i:=by rw[ce];omega
  rw[hF rec i hi _ (by omega),iy hi,aAi,h2,ca]) (λrec=>by rw[hE,dy (aj _)]) rfl
def aX8 {α:Type}{p r:List α}{s:α}:aY (p++s::r) ((p.length:Nat):Int)=some s:=by rw[aO (by simp)];simp
def bJc {α ι:Type}(e:Nat->ι){p0 l:List α}(f:α->α){F:(ι×List α->Option (List α))->ι×List α->Option (List α)}(hl:l.length<=1000)
  (hF:∀rec (p:List α) (d:α) (r:List α),p.length+1+r.length=p0.length+l.length->d∈l->F rec (e p.length,p++d::r)=rec (e (p.length+1),p++f d::r)) (hE:∀rec (p:List α),p.length=p0.length+l.length->F rec (e (p0.length+l.length),p)=some p):EV.bX FUEL F (e p0.length,p0++l)=some (p0++l.map f):=
 Qr (λi=>(e (p0.length+i),p0++(l.take i).map f++l.drop i)) l.length (by omega) (λrec i hi=>by
  have h2:(p0++(l.take i).map f).length=p0.length+i:=by rw[au,bl,ce];omega
  have h3:(l.drop (i+1)).length=l.length-(i+1):=cn;have h4:l.drop i=l[i]::l.drop (i+1):=ct hi;have:=hF rec (p0++(l.take i).map f) l[i] (l.drop (i+1)) (by omega) (cN hi);rw[h2,<-h4] at this;show F rec (e (p0.length+i),p0++(l.take i).map f++l.drop i)=_;rw[this,iy hi,cT,List.map_singleton];simp only[cf,fc,gf]) (λrec=>by
  rw[dy (aj _),List.drop_of_length_le (aj _),cY];exact hE rec _ (by rw[au,bl])) (by simp)
def aM6 (n:Nat)(d:D.Device):Nat->D.Device
 |0=>d
 |j+1=>Dp (aA (j:Int)) n (aM6 n d j)
def aGo (j:Int):(aA j).size<=100:=by unfold aA;cases j==0<;>cases j==1<;>decide
def bFj {nm:ByteArray}{n:Nat}{d:D.Device}{r:List D.Device}(hn:n<=3)(hd:d.sz<=100){F:(Nat×List D.Device->Option (List D.Device))->Nat×List D.Device->Option (List D.Device)}
  (hF:∀rec (i:Nat) (x:D.Device),i<n->x.sz<=1000->F rec (i,x::r)=rec (i+1,(bW x nm (i:Int) false).1::r)) (hE:∀rec x,F rec (n,x::r)=some (x::r)):EV.bX FUEL F (0,d::r)=some (Dp nm n d::r):=
 Qr (λi=>(i,Dp nm i d::r)) n (by omega) (λrec i hi=>by
  have h1:=S9 nm i d;rw[hF rec i _ hi (by omega)];rfl) (λrec=>hE rec _) rfl
def bFk {n:Nat}{d:D.Device}{r:List D.Device}{F:(Nat×List D.Device->Option (List D.Device))->Nat×List D.Device->Option (List D.Device)}(hn:n<=3)(hd:d.sz<=10)
  (hF:∀rec (j:Nat) (x:D.Device),j<2->x.sz<=100->F rec (j,x::r)=rec (j+1,Dp (aA (j:Int)) n x::r)) (hE:∀rec x,F rec (2,x::r)=some (x::r)):EV.bX FUEL F (0,d::r)=some (aM6 n d 2::r):=
 Qr (λj=>(j,aM6 n d j::r)) 2 (by omega) (λrec j hj=>by
  have h1:∀j:Nat,(aM6 n d j).sz<=d.sz+j*n:=by
   intro j;induction j with
   |zero=>exact db _ _
   |succ j ih=>have:=S9 (aA (j:Int)) n (aM6 n d j);show(Dp (aA (j:Int)) n (aM6 n d j)).sz<=_;rw[dr];omega
  have h2:=h1 j;have h3:j*n<=2*3:=ig (by omega) hn;rw[hF rec j _ hj (by omega)];rfl) (λrec=>hE rec _) rfl
def bAm {seed t:Int}(ht:1<=t/\t<=7){F:(List Int×Int->Option (List Int))->List Int×Int->Option (List Int)}(hF:∀rec (s:List Int) (i:Int),1<=i->i<=8->s.length<=8->F rec (s,i)=bif decide (i<t) then rec (s++[aU seed [307,i]],i+1) else some s):EV.bX FUEL F ([],1)=some (aLb seed t):=
 Qr (λi=>((List.range i).map λ(k:Nat)=>aU seed [307,(k:Int)+1],(i:Int)+1)) (t-1).toNat (by omega) (λrec i hi=>by
  rw[hF rec _ _ (by omega) (by omega) (by simp;omega),ao (by omega),ac,ia,cT];rfl) (λrec=>by
  rw[hF rec _ _ (by omega) (by omega) (by simp;omega),aw (by omega),ab];rfl) rfl
def bCu (s:D.Site):D.Site.mk s.Name s.Accounts (D.aAE.mk s.Book.Seed s.Book.Next s.Book.Open) s.Logins=s:=rfl
def bPj (s:D.aAI):D.Device.mk s [] (0:Int) (0:Int) (0:Int) (D.aAB.mk [])=bQ s:=rfl
def bQ0 (seed:Int)(i:Nat):D.aAI.mk (1:Int) (i:Int) (aU seed [277,(i:Int)]) (0:Int)=aP seed (i:Int):=rfl
def Zv (w:D.World)(d:Int)(h:w.sz<=34359738368):yJ w d=some (nR w d):=by
 unfold yJ nR;simp only[aB h,bd_s];cases ht:eO w d 0 with
 |false=>rfl
 |true=>simp only[ba,ab,aS1 ht,bd_s,cW];cases dG w d<;>rfl
def bAn (l:List Int):aZ6 l=some (bEh l):=rfl
def aM7 (a b:List D.aAC)(h:nA a.length a b/\a.length<=34359738368):Qd a b=some true:=by
 obtain⟨⟨rfl,_⟩,hl⟩:=h;unfold Qd;have:cO a a=true:=by
  unfold cO;rw[ao (aj _),cW,cq];have key:∀(l r:List D.aAC) (i:Nat),a=l++r->l.length=i->fO (λi e=> !aZf (a.getD i default) e) i r=false:=by
   intro l r;induction r generalizing l with
   |nil=>intro i _ _;rfl
   |cons x r ih=>
    intro i he hi;have hx:a.getD i default=x:=by rw[he,<-hi];simp
    have hr:aZf x x=true:=by unfold aZf;simp
    rw[fO,hx,hr];simpa using ih (l++[x]) (i+1) (by simpa using he) (by simp[hi])
  exact key [] a 0 rfl rfl
 rw[dx,ac,aB hl,this];rfl
def Ul (a b:D.aAB)(h:nA a.sz a b/\a.sz<=34359738368):vW a b=some true:=by obtain⟨⟨rfl,_⟩,hz⟩:=h;have hl:a.Entries.length<=34359738368:=hz;unfold vW;rw[cI,ab,sK (a:=a.Entries) (by omega) (λrec i hi=>by simp[hi,aO hi]) (λrec=>by simp)];rfl
def Um (a b:D.Device)(h:nA a.sz a b/\a.sz<=34359738368):vX a b=some true:=by
 obtain⟨⟨rfl,_⟩,hz⟩:=h;have h1:a.Log.length<=34359738368:=by simp only[D.Device.sz] at hz;omega
 have h2:a.aAB.sz<=34359738368:=by simp only[D.Device.sz,D.aAB.sz] at hz ⊢;omega
 unfold vX;simp[aB (show nA a.Log.length a.Log a.Log/\a.Log.length<=34359738368 from⟨⟨rfl,by omega⟩,h1⟩),aB (show nA a.aAB.sz a.aAB a.aAB/\a.aAB.sz<=34359738368 from⟨⟨rfl,by omega⟩,h2⟩),bd]
def aAj (a b:D.aAE)(h:nA a.sz a b/\a.sz<=34359738368):Bo a b=some true:=by obtain⟨⟨rfl,_⟩,hz⟩:=h;have hl:a.Open.length<=34359738368:=hz;unfold Bo;simp only[cI,ab,bd_s];rw[sK (a:=a.Open) (by omega) (λrec i hi=>by simp[hi,aO hi]) (λrec=>by simp)];rfl
def aEk (a b:List Int)(h:nA a.length a b/\a.length<=34359738368):Fh a b=some true:=by obtain⟨⟨rfl,_⟩,hl⟩:=h;unfold Fh;rw[cI,ab,sK (a:=a) (by omega) (λrec i hi=>by simp[hi,aO hi]) (λrec=>by simp)];rfl
def Qt (a b:D.aAH)(h:nA a.sz a b/\a.sz<=34359738368):uR a b=some true:=by obtain⟨⟨rfl,_⟩,hz⟩:=h;have hl:a.Credentials.length<=34359738368:=hz;unfold uR;simp only[cI,ab,bd_s];rw[sK (a:=a.Credentials) (by omega) (λrec i hi=>by simp[hi,aO hi]) (λrec=>by simp)];rfl
def aS2 {α:Type}{f:α->Nat}{l:List α}{i:Nat}(hi:i<l.length):f l[i]<=(l.map f).sum:=by
 induction l generalizing i with
 |nil=>simp at hi
 |cons x l ih=>
  cases i with
  |zero=>simp
  |succ i=>have:=ih (i:=i) (by simpa using hi);simp only[eJ,bm,dg];omega
def aAk (a b:D.Site)(h:nA a.sz a b/\a.sz<=34359738368):Bp a b=some true:=by
 obtain⟨⟨rfl,_⟩,hz⟩:=h;have h1:a.Book.sz<=34359738368:=by simp only[D.Site.sz,D.aAE.sz] at hz ⊢;omega
 have h2:a.Logins.length<=34359738368:=by simp only[D.Site.sz] at hz;omega
 have h3:a.Accounts.length<=34359738368:=by simp only[D.Site.sz] at hz;omega
 have h4:∀i (hi:i<a.Accounts.length),a.Accounts[i].sz<=34359738368:=λi hi=>by
  have:=aS2 (f:=D.aAH.sz) hi;simp only[D.Site.sz] at hz;omega
 unfold Bp;simp only[dx,ba,cI,ab,bd_s,aB (show nA a.Book.sz a.Book a.Book/\a.Book.sz<=34359738368 from⟨⟨rfl,by omega⟩,h1⟩),aB (show nA a.Logins.length a.Logins a.Logins/\a.Logins.length<=34359738368 from⟨⟨rfl,by omega⟩,h2⟩)];rw[sK (a:=a.Accounts) (by omega) (λrec i hi=>by
  have:=h4 i hi;simp[hi,aO hi,aB (show nA a.Accounts[i].sz a.Accounts[i] a.Accounts[i]/\a.Accounts[i].sz<=34359738368 from⟨⟨rfl,by omega⟩,this⟩),bd]) (λrec=>by simp)];rfl
def aAl (a b:D.Box)(h:nA a.sz a b/\aQ a.Data):Bq a b=some true:=by obtain⟨⟨rfl,_⟩,hb⟩:=h;unfold Bq;simp[aB hb,bd]
def Ij (a b:D.aAF)(h:nA a.sz a b/\(a.sz<=34359738368/\aUd a)):qO a b=some true:=by
 obtain⟨⟨rfl,_⟩,hz,hb⟩:=h;have h3:a.Boxes.length<=34359738368:=by simp only[D.aAF.sz] at hz;omega
 have h4:∀i (hi:i<a.Boxes.length),a.Boxes[i].sz<=34359738368:=λi hi=>by
  have:=aS2 (f:=D.Box.sz) hi;simp only[D.aAF.sz] at hz;omega
 unfold qO;simp only[cI,ab,bd_s];rw[sK (a:=a.Boxes) (by omega) (λrec i hi=>by
  have:=h4 i hi;simp[hi,aO hi,aB (show nA a.Boxes[i].sz a.Boxes[i] a.Boxes[i]/\aQ a.Boxes[i].Data from⟨⟨rfl,by omega⟩,hb _ (cN hi)⟩),bd]) (λrec=>by simp)];rfl
def Zw (a b:D.aAA)(h:nA a.sz a b/\aQ a.Data):yY a b=some true:=by obtain⟨⟨rfl,_⟩,hb⟩:=h;unfold yY;simp[aB hb,bd]
def Zx (a b:D.aAD)(h:nA a.sz a b/\(a.sz<=34359738368/\oM a)):yZ a b=some true:=by
 obtain⟨⟨rfl,_⟩,hz,hb⟩:=h;have h1:a.Log.length<=34359738368:=by simp only[D.aAD.sz] at hz;omega
 have h2:a.Boxes.sz<=34359738368:=by simp only[D.aAD.sz,D.aAF.sz] at hz ⊢;omega
 have h3:a.History.length<=34359738368:=by simp only[D.aAD.sz] at hz;omega
 have h4:∀i (hi:i<a.History.length),a.History[i].sz<=34359738368:=λi hi=>by
  have:=aS2 (f:=D.aAA.sz) hi;simp only[D.aAD.sz] at hz;omega
 unfold yZ;simp only[aB (show nA a.Log.length a.Log a.Log/\a.Log.length<=34359738368 from⟨⟨rfl,by omega⟩,h1⟩),aB (show nA a.Boxes.sz a.Boxes a.Boxes/\(a.Boxes.sz<=34359738368/\aUd a.Boxes) from⟨⟨rfl,by omega⟩,h2,hb.1⟩),bd_s,ba,ab,cI];rw[sK (a:=a.History) (by omega) (λrec i hi=>by
  have:=h4 i hi;simp[hi,aO hi,aB (show nA a.History[i].sz a.History[i] a.History[i]/\aQ a.History[i].Data from⟨⟨rfl,by omega⟩,hb.2 _ (cN hi)⟩),bd]) (λrec=>by simp)];rfl
def aAm (a b:D.aAG)(h:nA a.sz a b/\a.sz<=34359738368):Bt a b=some true:=by obtain⟨⟨rfl,_⟩,hz⟩:=h;have hl:a.Saved.length<=34359738368:=hz;unfold Bt;simp only[dx,dw,fb,ba,cI,ab,bd_s];rw[sK (a:=a.Saved) (by omega) (λrec i hi=>by simp[hi,aO hi]) (λrec=>by simp)];rfl
def Ik (a b:List D.aAG)(h:nA (Q0 D.aAG.sz a) a b/\Q0 D.aAG.sz a<=34359738368):qP a b=some true:=by
 obtain⟨⟨rfl,_⟩,hz⟩:=h;have hl:a.length<=34359738368:=by unfold Q0 at hz;omega
 have h4:∀i (hi:i<a.length),a[i].sz<=34359738368:=λi hi=>by
  have:=aS2 (f:=D.aAG.sz) hi;unfold Q0 at hz;omega
 unfold qP;rw[cI,ab,sK (a:=a) (by omega) (λrec i hi=>by
  have:=h4 i hi;simp[hi,aO hi,aB (show nA a[i].sz a[i] a[i]/\a[i].sz<=34359738368 from⟨⟨rfl,by omega⟩,this⟩),bd]) (λrec=>by simp)];rfl
def Ld (a b:D.aAJ)(h:nA a.sz a b/\a.sz<=34359738368):rY a b=some true:=by obtain⟨⟨rfl,_⟩,hz⟩:=h;have hl:a.Notices.length<=34359738368:=hz;unfold rY;rw[cI,ab,sK (a:=a.Notices) (by omega) (λrec i hi=>by simp[hi,aO hi]) (λrec=>by simp)];rfl
def Zy (a b:D.World)(h:nA a.sz a b/\(a.sz<=34359738368/\oM a.aAD)):zA a b=some true:=by
 obtain⟨⟨rfl,_⟩,hz,hb⟩:=h;have h1:a.Devices.length<=34359738368/\a.Stolen.length<=34359738368/\a.Sites.length<=34359738368/\a.aAD.sz<=34359738368/\Q0 D.aAG.sz a.Hosts<=34359738368/\a.Mail.sz<=34359738368:=by simp only[D.World.sz,D.aAD.sz,D.aAF.sz,D.aAJ.sz,Q0] at hz ⊢;omega
 have h4:∀i (hi:i<a.Devices.length),a.Devices[i].sz<=34359738368:=λi hi=>by
  have:=aS2 (f:=D.Device.sz) hi;simp only[D.World.sz] at hz;omega
 have h5:∀i (hi:i<a.Sites.length),a.Sites[i].sz<=34359738368:=λi hi=>by
  have:=aS2 (f:=D.Site.sz) hi;simp only[D.World.sz] at hz;omega
 unfold zA;simp only[cI,dx,dw,fb,ba,ab,bd_s];rw[sK (a:=a.Devices) (by omega) (λrec i hi=>by
  have:=h4 i hi;simp[hi,aO hi,aB (show nA a.Devices[i].sz a.Devices[i] a.Devices[i]/\a.Devices[i].sz<=34359738368 from⟨⟨rfl,by omega⟩,this⟩),bd]) (λrec=>by simp),nx_r]
 rw[sK (a:=a.Stolen) (by omega) (λrec i hi=>by simp[hi,aO hi]) (λrec=>by simp),nx_r];rw[sK (a:=a.Sites) (by omega) (λrec i hi=>by
  have:=h5 i hi;simp[hi,aO hi,aB (show nA a.Sites[i].sz a.Sites[i] a.Sites[i]/\a.Sites[i].sz<=34359738368 from⟨⟨rfl,by omega⟩,this⟩),bd]) (λrec=>by simp),nx_r]
 simp only[aB (show nA a.aAD.sz a.aAD a.aAD/\(a.aAD.sz<=34359738368/\oM a.aAD) from⟨⟨rfl,by omega⟩,h1.2.2.2.1,hb⟩),aB (show nA (Q0 D.aAG.sz a.Hosts) a.Hosts a.Hosts/\Q0 D.aAG.sz a.Hosts<=34359738368 from⟨⟨rfl,by omega⟩,h1.2.2.2.2.1⟩),aB (show nA a.Mail.sz a.Mail a.Mail/\a.Mail.sz<=34359738368 from⟨⟨rfl,by omega⟩,h1.2.2.2.2.2⟩),bd_s,ac]
def bJd (x:Int):0<=mG IntKind.i64 x 255/\mG IntKind.i64 x 255<=255:=by unfold mG;rw[BitVec.toNat_and];have h:((BitVec.ofInt IntKind.i64.bits x).toNat&&&(BitVec.ofInt IntKind.i64.bits 255).toNat)<=255:=bu Nat.and_le_right (by decide);rw[aJ (by omega) (by omega)];omega
def aAn {c:D.aAQ}(h:aX c):aX (jW c).1/\0<=(jW c).2/\(jW c).2<=255:=by
 unfold jW;obtain⟨h1,h2⟩:=h;cases hc:decide (c.i<(c.b.length:Int)) with
 |true=>have hc:=of_decide_eq_true hc;refine⟨⟨?_,h2⟩,bJd _⟩;show 0<=IntKind.i64.wrap (c.i+1);rw[aJ (by omega) (by omega)];omega
 |false=>exact⟨⟨h1,h2⟩,bJd _⟩
def lF {c:D.aAQ}(h:aX c)(n:Int):aX (bL c n).1/\0<=(bL c n).2/\(0<n->(bL c n).2<n)/\(n<=0->(bL c n).2=0):=by
 obtain⟨h1,h2,h3⟩:=aAn h;obtain⟨k1,k2,k3⟩:=aAn h1;obtain⟨l1,l2,l3⟩:=aAn k1;unfold bL;by_cases hn:n<=0
 ·rw[ao hn];exact⟨h,dt _,λq=>absurd q (by omega),λ_=>rfl⟩
 ·rw[aw hn];have hn:0<n:=by omega
  simp only[ab];by_cases hb:n<=256
  ·rw[ao hb];exact⟨h1,fy n h2,λ_=>fL _ hn,λq=>absurd q (by omega)⟩
  ·rw[aw hb];simp only[ab];generalize(jW c).2=x at*;generalize(jW (jW c).1).2=y at*;generalize(jW (jW (jW c).1).1).2=z at*;rw[aJ (show-9223372036854775808<=x*65536 by omega) (by omega),aJ (show-9223372036854775808<=y*256 by omega) (by omega),aJ (show-9223372036854775808<=x*65536+y*256 by omega) (by omega),aJ (show-9223372036854775808<=x*65536+y*256+z by omega) (by omega)];exact⟨l1,fy n (by omega),λ_=>fL _ hn,λq=>absurd q (by omega)⟩
def aPt (c:D.aAQ)(h:aX c):Wj c=some (jW c):=by
 unfold Wj jW;rw[aB (by decide),aB (by decide)];cases hc:decide (c.i<(c.b.length:Int)) with
 |true=>have hc:=of_decide_eq_true hc;have h0:=h.1;rw[ac,ac,lN h0 (by omega),List.getD,ae (show c.i.toNat<c.b.length by omega)];rfl
 |false=>rfl
def aM8 (c:D.aAQ)(n:Int)(h:aX c):Ol c n=some (bL c n):=by
 have h1:=(aAn h).1;have h2:=(aAn h1).1;unfold Ol bL;by_cases hn:n<=0
 ·rw[ao hn];rfl
 ·rw[aw hn];by_cases hb:n<=256
  ·rw[ao hb];simp only[ab,ac,aB h,bd_s,aB (show n≠0 by omega)]
  ·rw[aw hb];simp only[ab,aB h,aB h1,aB h2,bd_s,aB (show n≠0 by omega)]
def aPu (c:D.aAQ)(n:Int)(h:aX c):Ww c n=some (oF c n):=by unfold Ww;rw[aB h];rfl
def bAo {c:D.aAQ}(h:aX c)(l:List Int):aX (Yf c l).1/\(0<l.length->(Yf c l).2∈l):=by obtain⟨h1,h2,h3,_⟩:=lF h (l.length:Int);refine⟨h1,λhl=> ?_⟩;have h3:=h3 (by omega);unfold Yf;dsimp only;rw[List.getD,ae (show(bL c (l.length:Int)).2.toNat<l.length by omega)];exact cN _
def aUs (c:D.aAQ)(l:List Int)(h:aX c/\0<l.length):U9 c l=some (Yf c l):=by obtain⟨_,h2,h3,_⟩:=lF h.1 (l.length:Int);have h3:=h3 (by have:=h.2;omega);unfold U9;rw[aB h.1,bd_s,uE h2 h3];rfl
def bLy {c:D.aAQ}(h:aX c):aX (aLh c).1:=by
 have h1:aX (oF c 10).1:=(lF h 10).1;unfold aLh;cases(oF c 10).2 with
 |true=>exact(bAo h1 _).1
 |false=>exact(lF h1 99999).1
def aUt (c:D.aAQ)(h:aX c):V3 c=some (aLh c):=by
 have h1:aX (oF c 10).1:=(lF h 10).1;unfold V3;refine qQ (a:=oF c 10) (aB h) ?_;unfold aLh;cases(oF c 10).2 with
 |true=>exact qQ (a:=Yf (oF c 10).1 [0,-1,1,2147483646,2147483647]) (aB ⟨h1,by decide⟩) rfl
 |false=>exact qQ (a:=bL (oF c 10).1 99999) (aB h1) rfl
def Lg (a b:D.aAB)(h:aW9 a b):rZ a b=some true:=by unfold rZ;have hz:=h.2.1;rw[aB h.2,bd_s,h.1];exact qQ (qQ (aB (show nA a.sz a a/\a.sz<=34359738368 from⟨⟨rfl,by omega⟩,h.2.1⟩)) rfl) rfl
structure NewIn (n:Nat) (s:Int) (w:D.World):Prop where
 ok:aR w=true
 len:w.Devices.length=n
 dev:∀i (hi:i<n),w.Devices[i]? =some (aXm s n i 1 (nwB n))
 acc:∀j (hj:j<2),∃x l,w.Sites[j]? =some x/\x.Accounts=[⟨1,3,l⟩]/\l.length=n
 two:w.Sites.length=2
 list:∀i:Nat,i<n->kN w (i:Int)=true
 no:kN w (n:Int)=false
section
variable {ρ σ τ S:Type}
def Ex (x:Option τ)(Q:τ->Prop):Prop:=∃r,x=some r/\Q r
def fF {Q:τ->Prop}{r:τ}(h:Q r):Ex (some r) Q:=⟨r,rfl,h⟩
def bdE {x:Option σ}{f:σ->Option τ}(P:σ->Prop){Q:τ->Prop}(h:Ex x P)(k:∀r,P r->Ex (f r) Q):Ex (bd x f) Q:=by obtain⟨r,rfl,p⟩:=h;exact k r p
def gdE {c:Prop}[Decidable c]{x:Option τ}{Q:τ->Prop}(h:c)(k:Ex x Q):Ex (gd c x) Q:=by rw[aB h];exact k
def bgE {c:Prop}[Decidable c]{v:σ}{f:σ->Option τ}{Q:τ->Prop}(h:c)(k:Ex (f v) Q):Ex (bd (gd c (some v)) f) Q:=by rw[aB h];exact k
def sW {c:Bool}{x y:Option τ}{Q:τ->Prop}(h:c=true->Ex x Q)(k:c=false->Ex y Q):Ex (bif c then x else y) Q:=by
 cases c with
 |true=>exact h rfl
 |false=>exact k rfl
def blE {c:D.aAQ}{n:Int}{f:D.aAQ×Int->Option τ}{Q:τ->Prop}(h:aX c)(k:∀c' v,aX c'->0<=v->(0<n->v<n)->Ex (f (c',v)) Q):Ex (bd (gd (aX c) (some (bL c n))) f) Q:=
 bgE h (k _ _ (lF h n).1 (lF h n).2.1 (lF h n).2.2.1)
def onE {c:D.aAQ}{n:Int}{f:D.aAQ×Bool->Option τ}{Q:τ->Prop}(h:aX c)(k:∀c' v,aX c'->Ex (f (c',v)) Q):Ex (bd (gd (aX c) (some (oF c n))) f) Q:=
 bgE h (k (oF c n).1 (oF c n).2 (lF h n).1)
def inE {c:D.aAQ}{l:List Int}{f:D.aAQ×Int->Option τ}{Q:τ->Prop}(h:aX c)(hl:0<l.length)(k:∀c' v,aX c'->v∈l->Ex (f (c',v)) Q):Ex (bd (gd (aX c/\0<l.length) (some (Yf c l))) f) Q:=
 bgE ⟨h,hl⟩ (k _ _ (bAo h l).1 ((bAo h l).2 hl))
def St (V:Nat->S->Prop)(Q:τ->Prop)(i:Nat)(rec:S->Option τ)(x:Option τ):Prop:=(∃s',V (i+1) s'/\x=rec s')\/Ex x Q
section
variable {V:Nat->S->Prop} {Q:τ->Prop} {i:Nat} {rec:S->Option τ}
def bFl {s:S}(h:V (i+1) s):St V Q i rec (rec s):= .inl ⟨s,h,rfl⟩
def bdS {x:Option σ}{f:σ->Option τ}(P:σ->Prop)(h:Ex x P)(k:∀r,P r->St V Q i rec (f r)):St V Q i rec (bd x f):=by obtain⟨r,rfl,p⟩:=h;exact k r p
def bgS {c:Prop}[Decidable c]{v:σ}{f:σ->Option τ}(h:c)(k:St V Q i rec (f v)):St V Q i rec (bd (gd c (some v)) f):=by rw[aB h];exact k
def bJe {c:Bool}{x y:Option τ}(h:c=true)(k:St V Q i rec x):St V Q i rec (bif c then x else y):=by rw[h];exact k
def blS {c:D.aAQ}{n:Int}{f:D.aAQ×Int->Option τ}(h:aX c)(k:∀c' v,aX c'->0<=v->(0<n->v<n)->St V Q i rec (f (c',v))):St V Q i rec (bd (gd (aX c) (some (bL c n))) f):=
 bgS h (k _ _ (lF h n).1 (lF h n).2.1 (lF h n).2.2.1)
end
def bFm {F:(S->Option τ)->S->Option τ}(V:Nat->S->Prop)(N:Nat){Q:τ->Prop}{s:S}(hN:N<=18446744073709551616)(h0:V 0 s)(step:∀i s rec,i<N->V i s->St V Q i rec (F rec s))(last:∀s rec,V N s->Ex (F rec s) Q):Ex (bX FUEL F s) Q:=
 bHm V N Q step last N 0 FUEL s (by omega) (by have:=fT;omega) h0
end
abbrev WU:=Int×Int×List D.Device×List Bool×List D.aAC×Int×List D.Box×List D.aAA×List D.Site×Int×Int×Int×Int×List D.aAG×Int×List D.aAR
def wT (w:D.World):WU:=(w.Now,w.Seed,w.Devices,w.Stolen,w.aAD.Log,w.aAD.Boxes.Epoch,w.aAD.Boxes.Boxes,w.aAD.History,w.Sites,w.aAO.Salt,w.aAO.Threshold,w.aAO.Check,w.aAO.Masked,w.Hosts,w.Pin,w.Mail.Notices)
def bCv (n k t pin seed:Int)(cb:List Int)(ci ch:Int):Option (List Int×Int×Int×WU):=bd (bif !bF n 1 3 then some true else bif !bF k 1 7 then some true else bif !bF t 1 k then some true else bif !bF pin 0 9999 then some true else some (!bG seed)) λz7=>bif z7 then some (cb,ci,ch,(0:Int),(0:Int),[],[],[],(0:Int),[],[],[],(0:Int),(0:Int),(0:Int),(0:Int),[],(0:Int),[]) else bd (bX (α:=List D.aAC×List D.Device×List Bool) FUEL (λrec9 (i9:(List D.aAC×Nat×List D.Device×List Bool))=>bif (↑i9.2.1:Int)<n then gd (aV i9.2.2.1 [D.Device.mk (D.aAI.mk 1 ↑i9.2.1 (aU seed [277,↑i9.2.1]) 0) [] 0 0 0 (D.aAB.mk [])]) (gd (aV i9.2.2.2 [false]) (bd (aY (i9.2.2.1++[D.Device.mk (D.aAI.mk 1 ↑i9.2.1 (aU seed [277,↑i9.2.1]) 0) [] 0 0 0 (D.aAB.mk [])]) 0) λz10=>bd (gd (i9.1.length<=34359738300) (some (dS i9.1 1 (bA (D.aAI.mk 1 ↑i9.2.1 (aU seed [277,↑i9.2.1]) 0)) z10.Store))) λz11=>rec9 (z11.1,(i9.2.1+1),i9.2.2.1++[D.Device.mk (D.aAI.mk 1 ↑i9.2.1 (aU seed [277,↑i9.2.1]) 0) [] 0 0 0 (D.aAB.mk [])],i9.2.2.2++[false]))) else some (i9.1,i9.2.2)) ([],0,[],[])) λz8=>bd (gd (z8.1.length<=34359738300) (some (bC z8.1 (bP seed 0) 1000))) λz9=>bd (gd (z8.1.length<=34359738368/\z9.1.sz<=34359738368) (some (dE z8.1 z9.1))) λz10=>bd (bX (α:=List D.Site) FUEL (λrec12 (i12:(List D.Site×Nat))=>bif (↑i12.2:Int)<2 then bd (bd (gd ([(281:Int),(↑i12.2:Int)].length<=34359738300) (some (aU seed [281,↑i12.2]))) λz14=>bd (gd ((aA ↑i12.2).size<=34359738368) (some (fD (aA ↑i12.2) z14))) λz15=>bd (gd (z15.sz<=34359738300) (some (lC z15 1 3))) λz16=>bd (bX (α:=ByteArray×List D.aAH×Int×Int×List D.aAM×List Int) FUEL (λrec18 (i18:(Nat×ByteArray×List D.aAH×Int×Int×List D.aAM×List Int))=>bif (↑i18.1:Int)<z8.2.1.length then bd (aY z8.2.1 ↑i18.1) λz19=>bd (gd ((aA ↑i12.2).size<=34359738300) (some (dP z19.Store (aA ↑i12.2) ↑i18.1))) λz20=>bd (gd ((D.Site.mk i18.2.1 i18.2.2.1 (D.aAE.mk i18.2.2.2.1 i18.2.2.2.2.1 i18.2.2.2.2.2.1) i18.2.2.2.2.2.2).sz<=34359738300) (some (eQ (D.Site.mk i18.2.1 i18.2.2.1 (D.aAE.mk i18.2.2.2.1 i18.2.2.2.2.1 i18.2.2.2.2.2.1) i18.2.2.2.2.2.2) 1 ↑i18.1 z20))) λz21=>rec18 ((i18.1+1),z21.1.Name,z21.1.Accounts,z21.1.Book.Seed,z21.1.Book.Next,z21.1.Book.Open,z21.1.Logins) else some i18.2) (0,z16.1.Name,z16.1.Accounts,z16.1.Book.Seed,z16.1.Book.Next,z16.1.Book.Open,z16.1.Logins)) λz17=>gd (aV i12.1 [D.Site.mk z17.1 z17.2.1 (D.aAE.mk z17.2.2.1 z17.2.2.2.1 z17.2.2.2.2.1) z17.2.2.2.2.2]) (some (i12.1++[D.Site.mk z17.1 z17.2.1 (D.aAE.mk z17.2.2.1 z17.2.2.2.1 z17.2.2.2.2.1) z17.2.2.2.2.2]))) λz13=>rec12 (z13,(i12.2+1)) else some i12.1) ([],0)) λz11=>bd (bX (α:=List D.Device) FUEL (λrec13 (i13:(Nat×List D.Device))=>bif (↑i13.1:Int)<n then bd (aY i13.2 ↑i13.1) λz14=>bd (gd (z14.sz<=34359738368/\z8.1.length<=34359738368) (some (mQ z14 z8.1 (bP seed 0)))) λz15=>bd (aY i13.2 ↑i13.1) λz16=>rec13 ((i13.1+1),i13.2.set (↑i13.1:Int).toNat z15.1) else some i13.2) (0,z8.2.1)) λz12=>bd (bX (α:=List D.Device) FUEL (λrec14 (i14:(Nat×List D.Device))=>bif (↑i14.1:Int)<2 then bd (bX (α:=List D.Device) FUEL (λrec16 (i16:(Nat×List D.Device))=>bif (↑i16.1:Int)<n then bd (aY i16.2 0) λz17=>bd (gd (z17.sz<=34359738360/\(aA ↑i14.1).size<=34359738300) (some (bW z17 (aA ↑i14.1) ↑i16.1 false))) λz18=>bd (aY i16.2 0) λz19=>rec16 ((i16.1+1),i16.2.set (0:Int).toNat z18.1) else some i16.2) (0,i14.2)) λz15=>rec14 ((i14.1+1),z15) else some i14.2) (0,z12)) λz13=>bd (aY z13 0) λz14=>bd (gd (z14.sz<=34359738368) (some (bN z14))) λz15=>bd (aY z13 0) λz16=>bd (gd (z10.1.sz<=34359738300/\z15.2.1.sz<=34359738300) (some (bO z10.1 z15.2.1))) λz17=>bd (bX (α:=List D.Device) FUEL (λrec19 (i19:(Int×List D.Device))=>bif i19.1<n then bd (aY i19.2 i19.1) λz20=>bd (gd (z20.sz<=34359738100/\z17.1.sz<=34359738100) (some (bS z20 z17.1.Log z17.1.Boxes (dI z17.1 0).1))) λz21=>bd (aY i19.2 i19.1) λz22=>rec19 (IntKind.i64.wrap (i19.1+1),i19.2.set i19.1.toNat z21.1) else some i19.2) ((1:Int),z13.set (0:Int).toNat z15.1)) λz18=>bd (bX (α:=List Int) FUEL (λrec20 (i20:(List Int×Int))=>bif i20.2<t then bd (gd ([(307:Int),i20.2].length<=34359738300) (some (aU seed [307,i20.2]))) λz21=>gd (aV i20.1 [z21]) (rec20 (i20.1++[z21],IntKind.i64.wrap (i20.2+1))) else some i20.1) ([],(1:Int))) λz19=>bd (gd ([(283:Int)].length<=34359738300) (some (aU seed [283]))) λz20=>bd (gd ([(293:Int)].length<=34359738300) (some (aU seed [293]))) λz21=>gd ((1018:Int)≠(0:Int)) (bd (gd (z19.length<=34359738368) (some (Hz pin 7 z20 (IntKind.i64.wrap ((1:Int)+z21.tmod (1018:Int))) z19 k 5))) λz22=>some (cb,ci,ch,(0:Int),seed,z18,z8.2.2,z17.1.Log,z17.1.Boxes.Epoch,z17.1.Boxes.Boxes,z17.1.History,z11,z22.1.Salt,z22.1.Threshold,z22.1.Check,z22.1.Masked,z22.2.1,pin,[]))
def bJf (n k t pin seed:Int)(cb:List Int)(ci ch:Int):bCv n k t pin seed cb ci ch=some (cb,ci,ch,wT (fE n k t pin seed)):=by
 unfold bCv fE aG4;cases h1:bF n 1 3 with
 |false=>rfl
 |true=>
 cases h2:bF k 1 7 with
 |false=>rfl
 |true=>
 cases h3:bF t 1 k with
 |false=>rfl
 |true=>
 cases h4:bF pin 0 9999 with
 |false=>rfl
 |true=>
 cases h5:bG seed with
 |false=>rfl
 |true=>
 have hn:=jJ h1;have hk:=jJ h2;have ht:=jJ h3;obtain⟨N,rfl⟩:∃N:Nat,n=(N:Int):=⟨n.toNat,by omega⟩;rw[co];have hN:1<=N/\N<=3:=by omega
 have hL:=oL seed N;have hB:=aLd seed N;have hC:=aLe seed N;simp only[ba,ab,dw,ac,bd_s,bPj,bQ0];rw[Qr (r:=(aT seed N,dB seed N,List.replicate N false)) (λi=>(aT seed i,i,dB seed i,List.replicate i false)) N (s:=([],0,[],[])) (by omega) (λrec i hi=>by
  have e2:=bFh seed i;have e3:=oL seed i;have e4:=Qs seed i;rw[aAh] at e2;simp only[dK hi,ac,aB (show aV (dB seed i) [bQ (aP seed (i:Int))] from bLx (by omega) (by simp)),aB (show aV (List.replicate i false) [false] from bLx (by rw[fg];omega) (by simp)),e2,bd_s,aB (show(aT seed i).length<=34359738300 by omega),aAh,List.replicate_succ'];rfl) (λrec=>by simp only[dM,ab]) rfl]
 have hE:(bC (aT seed N) (bP seed 0) 1000).1=eX seed N:=rfl;simp only[bd_s,aB (show(aT seed N).length<=34359738300 by omega),hE,aB (show(aT seed N).length<=34359738368/\(eX seed N).sz<=34359738368 from⟨by omega,by omega⟩)];have hD:=Qs seed N;rw[Qr (r:=xS (dB seed N) seed) (λj=>((xS (dB seed N) seed).take j,j)) 2 (s:=([],0)) (by omega) (λrec j hj=>by
  have hs:=aGo (j:Int);have h6:=aGg (aA (j:Int)) (aU seed [281,(j:Int)]);have h7:=aLf (fD (aA (j:Int)) (aU seed [281,(j:Int)])) 1 3;simp only[ao (show(j:Int)<2 by omega),ac,aB (show[281,(j:Int)].length<=34359738300 by simp),bd_s,aB (show(aA (j:Int)).size<=34359738368 by omega),aB (show(fD (aA (j:Int)) (aU seed [281,(j:Int)])).sz<=34359738300 by omega)];rw[bFi (nm:=aA (j:Int)) (l:=dB seed N) (s0:=(lC (fD (aA (j:Int)) (aU seed [281,(j:Int)])) 1 3).1) (by omega) (by omega) (λrec i hi s hsz=>by
   simp only[dK hi,ac,aO hi,bd_s,aB (show(aA (j:Int)).size<=34359738300 by omega),bCu,aB (show s.sz<=34359738300 by omega)]) (λrec s=>by simp only[dM,ab])]
  have e1:((xS (dB seed N) seed).take j).length<=1000:=by rw[ce];omega
  have ha:∀x:D.Site,aV ((xS (dB seed N) seed).take j) [x]:=λx=>bLx e1 (by simp);simp only[bd_s,bCu,aB (ha _)];have hj':j=0\/j=1:=by omega
  rcases hj' with rfl|rfl<;>rfl) (λrec=>by rfl) rfl]
 simp only[bd_s];have hd1:∀d∈dB seed N,d.sz=0:=λd hd=>by
  simp only[dB,cj] at hd;obtain⟨i,_,rfl⟩:=hd;rfl
 rw[show(0,dB seed N)=((λi:Nat=>i) ([]:List D.Device).length,([]:List D.Device)++dB seed N) from rfl,bJc (λi:Nat=>i) (p0:=[]) (l:=dB seed N) (uI seed N) (by omega) (λrec p d r hp hd=>by
  have h0:=hd1 d hd;simp only[bo] at hp;simp only[dK (show p.length<N by omega),ac,aX8,bd_s,aB (show d.sz<=34359738368/\(aT seed N).length<=34359738368 from⟨by omega,by omega⟩),co,set_mid rfl,cf,fc];rfl) (λrec p hp=>by
  simp only[bo,hD,ca,dM,ab])]
 obtain⟨R,hR⟩:∃R,R=((dB seed N).drop 1).map (uI seed N):=⟨_,rfl⟩;have hm:(dB seed N).map (uI seed N)=uI seed N (bQ (aP seed 0))::R:=by have:=congrArg (List.map (uI seed N)) (aUr seed N hN.1);rw[this,hR];rfl
 have hRl:R.length=N-1:=by rw[hR,bl,cn,hD]
 have hRz:∀d∈R,d.sz<=10:=λd hd=>by
  rw[hR,cj] at hd;obtain⟨x,hx,rfl⟩:=hd;have h0:=hd1 x (dn hx);have:=aJg seed N x;omega
 have hA:=aJg seed N (bQ (aP seed 0));rw[aC5] at hA;have hq:∀x:D.Device,aY (x::R) 0=some x:=λx=>rfl;rw[bn,hm,bd_s,bFk (n:=N) (d:=uI seed N (bQ (aP seed 0))) (r:=R) hN.2 (by omega) (λrec j x hj hx=>by
  simp only[ao (show(j:Int)<2 by omega),ac];rw[bFj (nm:=aA (j:Int)) (n:=N) (d:=x) (r:=R) hN.2 hx (λrec i x hi hx=>by
   have hs:=aGo (j:Int);simp only[dK hi,ac,hq,bd_s,aB (show x.sz<=34359738360/\(aA (j:Int)).size<=34359738300 from⟨by omega,by omega⟩)];rfl) (λrec x=>by simp only[dM,ab])]
  simp only[bd_s]) (λrec x=>by rfl)]
 have hf:aM6 N (uI seed N (bQ (aP seed 0))) 2=kD seed N:=rfl;have hw:bN (kD seed N)=nwW seed N:=rfl;have hc:(bO (dE (aT seed N) (eX seed N)).1 (nwW seed N).2.1).1=gV seed N:=rfl;have hF:=aLc seed N;have hW:=wU (kD seed N);rw[hw] at hW;have hNC:=Og (aT seed N) (eX seed N);have hset:∀x y:D.Device,(x::R).set (0:Int).toNat y=y::R:=λ_ _=>rfl;simp only[bd_s,hf,hq,aB (show(kD seed N).sz<=34359738368 by omega),hw,aB (show(dE (aT seed N) (eX seed N)).1.sz<=34359738300/\(nwW seed N).2.1.sz<=34359738300 from⟨by omega,by have:=hW.2;simp only[D.aAA.sz];omega⟩),hc,hset];rw[show((1:Int),(nwW seed N).1::R)=((λi:Nat=>(i:Int)) ([(nwW seed N).1]:List D.Device).length,[(nwW seed N).1]++R) from rfl,bJc (λi:Nat=>(i:Int)) (p0:=[(nwW seed N).1]) (l:=R) (λd=>(bS d (gV seed N).Log (gV seed N).Boxes (dI (gV seed N) 0).1).1) (by omega) (λrec p d r hp hd=>by
  have h0:=hRz d hd;simp only[av,bo] at hp;simp only[dK (show p.length<N by omega),ac,aX8,bd_s,aB (show d.sz<=34359738100/\(gV seed N).sz<=34359738100 from⟨by omega,by omega⟩),co,set_mid rfl,cf,fc,aJ (show-9223372036854775808<=(p.length:Int)+1 by omega) (show(p.length:Int)+1<=9223372036854775807 by omega)];rfl) (λrec p hp=>by
  simp only[show([(nwW seed N).1]:List D.Device).length+R.length=N by simp only[av,bo];omega,dM,ab])]
 have hS:[(nwW seed N).1]++R.map (λd=>(bS d (gV seed N).Log (gV seed N).Boxes (dI (gV seed N) 0).1).1)=iK seed N:=by rw[hR,gO];show(nwW seed N).1::_=(nwW seed N).1::_;congr 1;exact gk λd _=>bK6 seed N d
 rw[hS];simp only[bd_s];rw[bAm (seed:=seed) (t:=t) ⟨by omega,by omega⟩ (λrec s i h0 h1 h2=>by
  have ha:∀x:Int,aV s [x]:=λx=>bLx (by omega) (by simp);simp only[aB (show([307,i]:List Int).length<=34359738300 by simp),bd_s,aB (ha _),aJ (show-9223372036854775808<=i+1 by omega) (show i+1<=9223372036854775807 by omega)])]
 have hcl:(aLb seed t).length<=34359738368:=by simp only[aLb,bl,fS];omega
 simp only[bd_s,aB (show([283]:List Int).length<=34359738300 by simp),aB (show([293]:List Int).length<=34359738300 by simp),aB (show(1018:Int)≠0 by decide),aB hcl];rfl
def bFn (w:D.World)(d j:Int)(o:D.aAN):(lJ w d j o).1.Now=w.Now:=by
 unfold lJ;cases !eO w d j with
 |true=>rfl
 |false=>
  cases !(uH w j).2.2.2 with
  |true=>rfl
  |false=>cases !((aG2 w d j o).2.1==0)<;>rfl
def bJg (w:D.World)(d:Int)(n:ByteArray)(a:Int)(r:Bool):(jB w d n a r).1.Now=w.Now:=by
 unfold jB;cases aR w&&aM w d with
 |false=>rfl
 |true=>cases(bW (aN w d) n a r).2<;>rfl
def aS3 (w:D.World)(b k p:Int)(key:List D.aAC->Int):(iF w b k p key).1.Now=w.Now:=by unfold iF;simp only[];generalize dS w.aAD.Log k p (aN w b).Store=l;generalize bC l.1 (key l.1) (IntKind.i64.wrap (1000+IntKind.i64.wrap (10*(l.1.length:Int))))=e;cases l.2&&(e.2&&(jV w.aAD l.1 e.1).2)<;>rfl
def aAo (w:D.World)(d b:Int):(aI w d b).1.Now=w.Now:=(gW w d b).2.1
def aX9 (w:D.World)(d:Int):(dL w d).1.Now=w.Now:=(Dt w d).2.1
def bLz (w:D.World)(b:Int):(iG w b).1.Now=w.Now:=by
 unfold iG;cases Q8 w b with
 |false=>rfl
 |true=>
  show(zT w b).1.Now=w.Now;have h3:(oK w b).1.Now=w.Now:=by unfold oK;rw[aX9];exact(aS3 _ _ _ _ _).trans (aAo _ _ _)
  unfold zT
  first
   |exact h3
   |exact(aAo _ _ _).trans h3
def bFo (w:D.World)(d:Int):(nR w d).1.Now=w.Now:=by unfold nR;cases eO w d 0&& !dG w d<;>rfl
def bL0 (w:D.World)(b t:Int):(iH w b t).1.Now=w.Now:=by
 unfold iH;generalize((aI w b 0).2==0&&(!dG w b&&(!(b==t)&&kN w t)))=q;cases q with
 |false=>rfl
 |true=>
  show(qG w b t).1.Now=w.Now;have h1:(mR w b t).1.Now=w.Now:=(aS3 _ _ _ _ _).trans (aAo _ _ _);have h3:(R6 w b t).1.Now=w.Now:=(aUf _ _).2.1.trans h1;unfold qG;cases(mR w b t).2&&((R4 w b t).2&&(R6 w b t).2) with
  |false=>rfl
  |true=>exact h3
def bAp (w:D.World)(d j:Int):(qH w d j).1.Now=w.Now:=by
 unfold qH;cases eO w d j&& !dG w d with
 |false=>rfl
 |true=>exact bFn ..
def bAq {w:D.World}(h:CldOk w.aAD)(d j:Int):CldOk (qH w d j).1.aAD:=by
 unfold qH;cases eO w d j&& !dG w d with
 |false=>exact h
 |true=>exact bE7 h ..
def bJh {w:D.World}(h:CldOk w.aAD)(d b:Int):CldOk (aI w d b).1.aAD:=by rw[(gW w d b).2.2.2.2.2];exact h
def bAr (k e v:Int)(b:D.aAB):aQ (jD k e v b).1.Data/\(jD k e v b).1.Data.length<=500:=by
 refine⟨?_,aR5 k e v b⟩;unfold jD;cases bG k&&(bF e 0 1000000&&bF v 0 1000000)&&aK b with
 |false=>exact⟨by show 0<=_;omega,rfl⟩
 |true=>refine U6 ?_;have:=Dl b;omega
structure Wv (i:Nat) (w:D.World):Prop where
 inn:WIn w.Devices.length w
 now:w.Now<=(i:Int)
 sz:w.sz<=100000+3000*i
 cld:CldOk w.aAD
def Wv.next {i:Nat}{w v:D.World}(h:Wv i w)(k:Kept w v)(n:v.Now=w.Now)(c:CldOk v.aAD):Wv (i+1) v:=
 ⟨k.wi,by rw[n];have:=h.now;omega,by have:=h.sz;have:=k.sz;omega,c⟩
def PW (p:D.World->Prop)(r:List Int×Int×Int×WU):Prop:=∃c w,aX c/\p w/\r=(c.b,c.i,c.h,wT w)
def bJi (r:D.World×Int×Int):Prop:=∃w d b,r=(w,d,b)/\w.sz<=1000000/\CldOk w.aAD/\-1<=b/\b<=3
def aGp {c:D.aAQ}{n:Int}{W:D.World}(hc:aX c)(hz:W.sz<=1000000)(hd:CldOk W.aAD):
  Ex (bd (gd (aX c) (some (bL c n))) λz5=>bd (gd (aX z5.1) (some (bL z5.1 4))) λz6=>some (W,IntKind.i64.wrap (z5.2-1),IntKind.i64.wrap (z6.2-1))) bJi:=
 blE hc λc1 v1 h1 _ _=>blE h1 λc2 v2 h2 a b=>fF ⟨W,_,_,rfl,hz,hd,by
  have b:=b (by decide);rw[aJ (by omega) (by omega)];omega⟩
def bQ2 {c:D.aAQ}{l:List ByteArray}(h:aX c)(h0:0<l.length)(hl:∀s∈l,s.size<=100):Ex (qM c l) λr=>aX r.1/\r.2.size<=100:=by
 unfold qM;refine blE h λc1 v h1 a b=> ?_
 have b:=b (by omega);show Ex (bd (aY l v) _) _;rw[lN a (by omega)];exact fF ⟨h1,hl _ (cN _)⟩
def bQ3 {m:D.aAJ}(h:m.Notices.length<=34359738368):Ex (kT m) λr=>r.1.Notices.length=m.Notices.length:=by
 unfold kT;refine bgE h (bdE (λr=>r.2.length=m.Notices.length) ?_ λr hr=>fF hr);refine bFm (λi (s:List D.aAR×Nat×List D.aAR)=>∃a ns,a.length<=i/\ns.length=m.Notices.length/\s=(a,i,ns)) m.Notices.length (by omega) ⟨[],m.Notices,aj _,rfl,rfl⟩ (λi s rec hi hv=> ?_) (λs rec hv=> ?_)
 ·obtain⟨a,ns,h1,h2,rfl⟩:=hv;refine bJe (dK hi) (bdS (λr=>r.1.length<=i+1/\r.2.length=m.Notices.length) (bdE (λr=>r.length<=i+1) ?_ λr hr=> ?_) λr hr=>bFl ⟨r.1,r.2,hr.1,hr.2,rfl⟩)
  ·show Ex (bd (aY m.Notices (i:Int)) _) _;rw[aO hi];refine bdE (λ_=>True) (fF trivial) λr _=> ?_
   refine sW (λ_=> ?_) λ_=>fF (show a.length<=i+1 by omega);exact gdE (by unfold aV;show a.length+1<=_;omega) (fF (by simp only[au,cu];omega))
  ·show Ex (bd (aY ns (i:Int)) _) _;rw[aO (by omega)];exact fF ⟨hr,by simp only[ax];exact h2⟩
 ·obtain⟨a,ns,h1,h2,rfl⟩:=hv;exact sW (λq=>absurd (q.symm.trans dM) (by decide)) λ_=>fF h2
def aAp {k i:Nat}(h:i<k):decide ((k:Int)-(i:Int)>0)=true:=by simp;omega
def aUu {k:Nat}:decide ((k:Int)-(k:Int)>0)=false:=by simp
def aUv {k i:Nat}(h:k<=1000)(h1:i<k):IntKind.i64.wrap ((k:Int)-(i:Int)-1)=(k:Int)-((i+1:Nat):Int):=by rw[aJ (by omega) (by omega)];omega
def bSt {c:D.aAQ}(h:aX c):Ex (tT c 10) λr=>aX r.1/\r.2.length<=10:=by
 unfold tT;refine bdE (λr=>∃(c:D.aAQ) (l:List D.aAC),aX c/\l.length<=10/\r=(l,c.b,c.i,c.h)) ?_ λr hr=> ?_
 ·refine blE h λc1 v h1 a b=> ?_;have b:=b (by decide);obtain⟨k,rfl⟩:∃k:Nat,v=(k:Int):=⟨v.toNat,by omega⟩;refine bFm (λi (s:List D.aAC×Int×List Int×Int×Int)=>∃(c:D.aAQ) (l:List D.aAC),aX c/\l.length<=i/\s=(l,(k:Int)-(i:Int),c.b,c.i,c.h)) k (by omega) ⟨c1,[],h1,aj _,by simp⟩ (λi s rec hi hv=> ?_) (λs rec hv=> ?_)
  ·obtain⟨c,l,q1,q2,rfl⟩:=hv;refine bJe (aAp hi) (bdS (λr=>∃(c:D.aAQ) (l:List D.aAC),aX c/\l.length<=i+1/\r=(l,c.b,c.i,c.h)) ?_ λr hr=> ?_)
   ·refine blE q1 λc4 v4 h4 _ _=>blE h4 λc5 v5 h5 _ _=>bdE (λ_=>True) (sW (λ_=>fF trivial) λ_=>fF trivial) λz6 _=> ?_;refine bdE (λr=>∃(n:Int) (c:D.aAQ),aX c/\r=(n,c.b,c.i,c.h)) (bdE (λr=>∃(n:Bool) (c:D.aAQ),aX c/\r=(n,c.b,c.i,c.h)) (sW (λ_=>onE h5 λc9 v9 h9=>fF ⟨v9,c9,h9,rfl⟩) λ_=>fF ⟨_,c5,h5,rfl⟩) ?_) ?_
    ·rintro _ ⟨n,c,hc,rfl⟩;exact sW (λ_=>fF ⟨_,c,hc,rfl⟩) λ_=>fF ⟨_,c,hc,rfl⟩
    ·rintro _ ⟨n,c,hc,rfl⟩;refine bdE (λ_=>True) (by unfold lD;exact fF trivial) λz8 _=>bdE (λ_=>True) (by unfold lD;exact fF trivial) λz9 _=>bgE (show l.length<=34359738300 by omega) (fF ⟨c,_,hc,?_,rfl⟩);have:=oJ l n (bA z8) z9;show(dS l n (bA z8) z9).1.length<=_;omega
   ·obtain⟨c,l,r1,r2,rfl⟩:=hr;exact bFl ⟨c,l,r1,r2,by show(l,IntKind.i64.wrap ((k:Int)-(i:Int)-1),c.b,c.i,c.h)=_;rw[aUv (by omega) hi]⟩
  ·obtain⟨c,l,q1,q2,rfl⟩:=hv;exact sW (λq=>absurd (q.symm.trans aUu) (by decide)) λ_=>fF ⟨c,l,q1,by omega,rfl⟩
 ·obtain⟨c,l,r1,r2,rfl⟩:=hr;exact fF ⟨r1,r2⟩
def bSu {n k t pin seed:Int}{c:D.aAQ}(hc:aX c)(h:aG4 n k t pin seed=true):Ex (bCv n k t pin seed c.b c.i c.h) (PW (Wv 0)):=by rw[bJf];obtain⟨w1,w2,w3⟩:=aXh h;have hz:=aW6 n k t pin seed;refine fF ⟨c,fE n k t pin seed,hc,⟨by rw[w2];exact w1,?_,by omega,bLk⟩,rfl⟩;unfold fE;rw[h];exact dt _
def bQ4 (l:List Int):Ex (bX (α:=Int) FUEL (λrec1 (i1:(Int×Int))=>bd (bif i1.2<(l.length:Int) then some (decide (i1.2<4000)) else some false) λz2=>bif z2 then bd (aY l i1.2) λz3=>rec1 (mG IntKind.i64 (IntKind.i64.wrap (IntKind.i64.wrap (IntKind.i64.wrap (i1.1*137)+IntKind.i64.wrap z3)+11)) (1073741823:Int),IntKind.i64.wrap (i1.2+1)) else some i1.1) (IntKind.i64.wrap ((193017:Int)+(l.length:Int)),(0:Int))) λ_=>True:=by
 refine bFm (λi (s:Int×Int)=>s.2=(i:Int)) (min l.length 4000) (by omega) rfl (λi s rec hi hv=> ?_) (λs rec hv=> ?_)
 ·obtain⟨x,y⟩:=s;have hv:y=(i:Int):=hv;subst hv;simp only[ao (show(i:Int)<(l.length:Int) by omega),ao (show(i:Int)<4000 by omega),ac,bd_s,aO (show i<l.length by omega)];exact bFl (by show IntKind.i64.wrap ((i:Int)+1)=((i+1:Nat):Int);rw[aJ (by omega) (by omega)];omega)
 ·obtain⟨x,y⟩:=s;have hv:y=((min l.length 4000:Nat):Int):=hv;subst hv;refine bdE (λr=>r=false) (sW (λq=>fF ?_) λ_=>fF rfl) λr hr=>by subst hr;exact fF trivial
  have q:=of_decide_eq_true q;exact aw (by omega)
def bJj:∀s∈[ByteArray.mk #[UInt8.ofNat 98,UInt8.ofNat 97,UInt8.ofNat 110,UInt8.ofNat 107,UInt8.ofNat 46,UInt8.ofNat 99,UInt8.ofNat 111,UInt8.ofNat 109],ByteArray.mk #[UInt8.ofNat 97,UInt8.ofNat 46,UInt8.ofNat 110,UInt8.ofNat 101,UInt8.ofNat 116],ByteArray.mk #[UInt8.ofNat 98,UInt8.ofNat 46,UInt8.ofNat 110,UInt8.ofNat 101,UInt8.ofNat 116]],s.size<=100:=by intro s hs;simp only[aE,et,or_false] at hs;rcases hs with rfl|rfl|rfl<;>decide
def Wv.tick {i:Nat}{w:D.World}(h:Wv i w)(hi:i<5):Wv (i+1) {w with Now:=IntKind.i64.wrap (w.Now+1)}:=by have h0:=h.inn.now;have hn:=h.now;have e:IntKind.i64.wrap (w.Now+1)=w.Now+1:=aJ (by omega) (by omega);rw[e];exact⟨⟨h.inn.seed,show 0<=w.Now+1/\w.Now+1<=999900 by omega,h.inn.dlen,h.inn.slen,h.inn.dev,h.inn.two,h.inn.mle,h.inn.site,h.inn.mail,h.inn.log⟩,by show w.Now+1<=_;omega,by have:=h.sz;show w.sz<=_;omega,h.cld⟩
def bFp {w:D.World}{c:D.aAD}:({w with aAD:=c}:D.World).sz<=w.sz+c.sz:=by simp only[D.World.sz,D.aAD.sz];omega
def bL1 {α:Type}(f:α->Nat)(l:List α)(n:Nat):((l.take n).map f).sum<=(l.map f).sum:=by
 have:(l.map f).sum=((l.take n).map f).sum+((l.drop n).map f).sum:=by rw[<-eR,<-cT,cE]
 omega
def aUw {l:List D.aAC}{b:D.aAF}(h:aUd b):CldOk (dE l b).1:=by
 unfold dE;cases bB l&&gK b l with
 |true=>exact⟨⟨h,λs hs=>absurd hs et⟩, .nil⟩
 |false=>exact⟨⟨λs hs=>absurd hs et,λs hs=>absurd hs et⟩, .nil⟩
def bAs {l:List Int}(hl:l.length<=1048576):Ex (kU l) bJi:=by
 unfold kU;refine bdE (λ_=>True) (bQ4 l) λz0 _=> ?_
 refine blE (c:=D.aAQ.mk l 0 z0) ⟨dt _,hl⟩ λc1 v1 h1 a1 b1=> ?_;have b1:=b1 (by decide);refine bdE (PW (Wv 0)) (blE h1 λc3 v3 h3 a3 b3=>blE h3 λc4 v4 h4 a4 b4=>blE h4 λc5 v5 h5 a5 b5=>blE h5 λc6 v6 h6 a6 b6=> ?_) ?_
 ·have b3:=b3 (by decide);have b5:=b5 (by decide);have b6:=b6 (by decide);show Ex (bCv (IntKind.i64.wrap ((1:Int)+v3)) (IntKind.i64.wrap ((1:Int)+v1)) (IntKind.i64.wrap ((1:Int)+v4)) v5 (IntKind.i64.wrap ((1:Int)+v6)) c6.b c6.i c6.h) _;refine bSu h6 ?_;have b4:0<IntKind.i64.wrap (1+v1)->v4<IntKind.i64.wrap (1+v1):=b4;rw[aJ (show-9223372036854775808<=1+v1 by omega) (by omega)] at b4 ⊢;have b4:=b4 (by omega);rw[aJ (show-9223372036854775808<=1+v3 by omega) (by omega),aJ (show-9223372036854775808<=1+v4 by omega) (by omega),aJ (show-9223372036854775808<=1+v6 by omega) (by omega)];unfold aG4;rw[show bG (1+v6)=true from iT (by omega) (by omega),iT (show(1:Int)<=1+v3 by omega) (by omega),iT (show(1:Int)<=1+v1 by omega) (by omega),iT (show(1:Int)<=1+v4 by omega) (by omega),iT a5 (by omega)];rfl
 rintro _ ⟨c,w,hc,hw,rfl⟩;refine bdE (PW λw=>w.sz<=200000/\CldOk w.aAD/\w.Sites.length=2) ?_ ?_
 ·refine blE hc λc4 v4 h4 a4 b4=> ?_;have b4:=b4 (by decide);obtain⟨k,rfl⟩:∃k:Nat,v4=(k:Int):=⟨v4.toNat,by omega⟩;refine bFm (λi (s:Int×List Int×Int×Int×WU)=>∃c w,aX c/\Wv i w/\s=((k:Int)-(i:Int),c.b,c.i,c.h,wT w)) k (by omega) ⟨c4,w,h4,hw,by simp⟩ (λi s rec hi hv=> ?_) (λs rec hv=> ?_)
  ·obtain⟨c,w,hc,hw,rfl⟩:=hv;have hz:w.sz<=120000:=by have:=hw.sz;omega
   refine bJe (aAp hi) (blS hc λc6 v6 h6 a6 b6=>bdS (PW (Wv (i+1))) (blE h6 λc8 v8 h8 a8 b8=> ?_) ?_)
   ·refine sW (λ_=> ?_) λ_=>sW (λ_=> ?_) λ_=>sW (λ_=> ?_) λ_=>bdE (λ_=>True) (sW (λ_=>fF trivial) λ_=>fF trivial) λq9 _=>sW (λ_=> ?_) λ_=>sW (λ_=> ?_) λ_=>sW (λ_=> ?_) λ_=>sW (λ_=> ?_) λ_=> ?_
    ·exact bgE (show w.sz<=34359738368 by omega) (fF ⟨c8,(nR w v6).1,h8,hw.next (.of (hw.inn.aDK v6) (by rw[bIu];omega)) (bFo w v6) (bE8 hw.cld v6),rfl⟩)
    ·refine blE h8 λc9 v9 h9 _ _=>bgE (show w.sz<=34359738200 by omega) (fF ⟨c9,(qH w v6 v9).1,h9,hw.next ?_ (bAp w v6 v9) (bAq hw.cld v6 v9),rfl⟩);exact bIr hw.inn _ _ _ _
    ·refine bdE _ (bQ2 h8 (by decide) bJj) λr9 h9=>blE h9.1 λc10 v10 h10 _ _=>onE h10 λc11 v11 h11=>bgE ⟨show w.sz<=34359738300 by omega,by have:=h9.2;omega⟩ (fF ⟨c11,(jB w v6 r9.2 v10 v11).1,h11,hw.next ?_ (bJg ..) (aXr hw.cld ..),rfl⟩);exact .of ⟨hw.inn.aDH v6 r9.2 v10 v11,bEs w v6 r9.2 v10 v11⟩ (by have:=aXj w v6 r9.2 v10 v11;omega)
    ·refine bgE (show w.sz<=10000000000 by omega) (fF ⟨c8,(dL w v6).1,h8,hw.next ?_ (aX9 ..) (aXq hw.cld ..),rfl⟩);exact .of ⟨hw.inn.push v6,(Dt w v6).1,(Dt w v6).2.2.1⟩ (by have:=bIq hw.inn v6;omega)
    ·refine bgE (show w.sz<=100000000 by omega) (fF ⟨c8,(iG w v6).1,h8,hw.next ?_ (bLz ..) (bLi hw.cld ..),rfl⟩);exact⟨(hw.inn.add v6).1,(hw.inn.add v6).2,by have:=add_add hw.inn v6;omega⟩
    ·refine blE h8 λc10 v10 h10 _ _=>bgE (show w.sz<=100000000 by omega) (fF ⟨c10,(iH w v6 v10).1,h10,hw.next ?_ (bL0 ..) (bLj hw.cld ..),rfl⟩);exact .of (hw.inn.cut v6 v10) (by have:=bLg hw.inn v6 v10;omega)
    ·exact fF ⟨c8,{w with Now:=IntKind.i64.wrap (w.Now+1)},h8,hw.tick (by omega),rfl⟩
    ·refine blE h8 λc10 v10 h10 _ _=>bgE (show w.sz<=34359738100 by omega) (fF ⟨c10,(aI w v6 v10).1,h10,hw.next ?_ (aAo ..) (bJh hw.cld ..),rfl⟩);exact .of ⟨hw.inn.sync v6 v10,(gW w v6 v10).1,(gW w v6 v10).2.2.1⟩ (by have:=aXi hw.inn v6 v10;omega)
   ·rintro _ ⟨c,w,hc,hw,rfl⟩;exact bFl ⟨c,w,hc,hw,by show(IntKind.i64.wrap ((k:Int)-(i:Int)-1),c.b,c.i,c.h,wT w)=_;rw[aUv (by omega) hi]⟩
  ·obtain⟨c,w,hc,hw,rfl⟩:=hv;exact sW (λq=>absurd (q.symm.trans aUu) (by decide)) λ_=>fF ⟨c,w,hc,⟨by have:=hw.sz;omega,hw.cld,hw.inn.two⟩,rfl⟩
 rintro _ ⟨c,w,hc,⟨hz,hd,ho⟩,rfl⟩;refine blE hc λc4 v4 h4 a4 b4=>sW (λ_=> ?_) λ_=>sW (λ_=> ?_) λ_=>sW (λ_=> ?_) λ_=>sW (λ_=> ?_) λ_=>sW (λ_=> ?_) λ_=>sW (λ_=> ?_) λ_=>sW (λ_=> ?_) λ_=> ?_
 ·exact inE h4 (by decide) λc5 v5 h5 _=>aGp (W:={w with Now:=v5}) h5 (by show w.sz<=_;omega) hd
 ·exact gdE (by unfold iD;show(0:Int)<=0/\_;omega) (aGp (W:={w with Stolen:=w.Stolen.take 0}) h4 (by simp only[D.World.sz] at hz ⊢;simp only[ce];omega) hd)
 ·refine gdE (show iD w.Sites 1 from⟨by decide,by show 1<=_;omega⟩) (aGp (W:={w with Sites:=w.Sites.take 1}) h4 ?_ hd);have e:=bL1 D.Site.sz w.Sites 1;simp only[D.World.sz] at hz ⊢;simp only[ce,show(1:Int).toNat=1 from rfl] at*;omega
 ·refine bdE (λr=>∃(c:D.aAQ) (m:List D.aAR),aX c/\m.length<=1000/\r=(c.b,c.i,c.h,m)) (inE h4 (by decide) λc6 v6 h6 m6=> ?_) ?_
  ·obtain⟨k,rfl,hk⟩:∃k:Nat,v6=(k:Int)/\k<=32:=⟨v6.toNat,by simp at m6;omega,by simp at m6;omega⟩;refine bFm (λi (s:Int×Int×List Int×Int×Int×List D.aAR)=>∃(t:Int) (c:D.aAQ) (m:List D.aAR),aX c/\m.length<=i/\s=(t,(k:Int)-(i:Int),c.b,c.i,c.h,m)) k (by omega) ⟨0,c6,[],h6,aj _,by simp⟩ (λi s rec hi hv=> ?_) (λs rec hv=> ?_)
   ·obtain⟨t,c,m,hc,hm,rfl⟩:=hv;refine bJe (aAp hi) (bdS (λr=>∃(t:Int) (c:D.aAQ) (m:List D.aAR),aX c/\m.length<=i+1/\r=(t,c.b,c.i,c.h,m)) ?_ ?_)
    ·refine blE hc λc9 v9 h9 _ _=>blE h9 λc10 v10 h10 _ _=>blE h10 λc11 v11 h11 _ _=>bgE (show m.length<=34359738300 by omega) (onE h11 λc13 v13 h13=> ?_);have hs:(vI (D.aAJ.mk m) (IntKind.i64.wrap ((1:Int)+v10)) v11 (IntKind.i64.wrap (t+v9))).1.Notices.length<=m.length+1:=bB8 (D.aAJ.mk m) (IntKind.i64.wrap ((1:Int)+v10)) v11 (IntKind.i64.wrap (t+v9));exact sW (λ_=>bdE _ (bQ3 (by show(vI (D.aAJ.mk m) (IntKind.i64.wrap ((1:Int)+v10)) v11 (IntKind.i64.wrap (t+v9))).1.Notices.length<=_;omega)) λz14 h14=>fF ⟨_,c13,_,h13,bu (Nat.le_of_eq h14) (bu hs (by omega)),rfl⟩) λ_=>fF ⟨_,c13,_,h13,bu hs (by omega),rfl⟩
    ·rintro _ ⟨t,c,m,hc,hm,rfl⟩;exact bFl ⟨t,c,m,hc,hm,by show(t,IntKind.i64.wrap ((k:Int)-(i:Int)-1),c.b,c.i,c.h,m)=_;rw[aUv (by omega) hi]⟩
   ·obtain⟨t,c,m,hc,hm,rfl⟩:=hv;exact sW (λq=>absurd (q.symm.trans aUu) (by decide)) λ_=>fF ⟨c,m,hc,by omega,rfl⟩
  rintro _ ⟨c,m,hc,hm,rfl⟩;refine bdE (λr=>∃(c:D.aAQ) (m:List D.aAR),aX c/\m.length<=1001/\r=(c.b,c.i,c.h,m)) (blE hc λc7 v7 h7 _ _=>sW (λ_=>inE h7 (by decide) λc8 v8 h8 _=>inE h8 (by decide) λc9 v9 h9 _=>inE h9 (by decide) λc10 v10 h10 _=>gdE (by unfold aV;show m.length+1<=_;omega) (fF ⟨c10,_,h10,by rw[au];show m.length+1<=_;omega,rfl⟩)) λ_=>fF ⟨c7,m,h7,by omega,rfl⟩) ?_;rintro _ ⟨c,m,hc,hm,rfl⟩;refine aGp (W:={w with Mail:=⟨m⟩}) hc ?_ hd;simp only[D.World.sz] at hz ⊢;omega
 ·exact bgE h4 (aGp (W:={w with Seed:=(aLh c4).2}) (bLy h4) (by show w.sz<=_;omega) hd)
 ·refine bdE _ (bSt h4) λr5 h5=>blE h5.1 λc6 v6 h6 _ _=>blE h6 λc7 v7 h7 _ _=> ?_;obtain⟨c5,log⟩:=r5;obtain⟨h5,hl⟩:=h5;have hl:log.length<=10:=hl;have he:=Dm log (IntKind.i64.wrap ((1:Int)+v6)) (IntKind.i64.wrap ((1:Int)+v7));have heb:=U7 log (IntKind.i64.wrap ((1:Int)+v6)) (IntKind.i64.wrap ((1:Int)+v7));refine bgE (show log.length<=34359738300 by omega) ?_;show Ex (bd (gd (log.length<=34359738368/\(bC log (IntKind.i64.wrap ((1:Int)+v6)) (IntKind.i64.wrap ((1:Int)+v7))).1.sz<=34359738368) (some (dE log (bC log (IntKind.i64.wrap ((1:Int)+v6)) (IntKind.i64.wrap ((1:Int)+v7))).1))) _) _;generalize(bC log (IntKind.i64.wrap ((1:Int)+v6)) (IntKind.i64.wrap ((1:Int)+v7))).1=bx at he heb;have hn:=Og log bx;have hnc:=aUw (l:=log) heb;refine bgE ⟨by omega,by omega⟩ ?_;generalize dE log bx=cl at hn hnc;obtain⟨cl,clb⟩:=cl;have hn:cl.sz<=log.length+bx.sz:=hn;refine bdE (λr=>∃(c:D.aAQ) (q:D.aAD),aX c/\(q.sz<=100000/\CldOk q)/\r=(c.b,c.i,c.h,q.Log,q.Boxes.Epoch,q.Boxes.Boxes,q.History)) (inE h7 (by decide) λc11 v11 h11 m11=> ?_) ?_
  ·obtain⟨k,rfl,hk⟩:∃k:Nat,v11=(k:Int)/\k<=61:=⟨v11.toNat,by simp at m11;omega,by simp at m11;omega⟩;refine bFm (λi (s:Int×Int×List Int×Int×Int×List D.aAC×Int×List D.Box×List D.aAA)=>∃(t:Int) (c:D.aAQ) (q:D.aAD),aX c/\(q.sz<=1000+600*i/\CldOk q)/\s=(t,(k:Int)-(i:Int),c.b,c.i,c.h,q.Log,q.Boxes.Epoch,q.Boxes.Boxes,q.History)) k (by omega) ⟨0,c11,cl,h11,⟨by omega,hnc⟩,by simp⟩ (λi s rec hi hv=> ?_) (λs rec hv=> ?_)
   ·obtain⟨t,c,q,hc,⟨hq,hqc⟩,rfl⟩:=hv;refine bJe (aAp hi) (blS hc λc13 v13 h13 _ _=>bgS (show log.length<=34359738368 by omega) (blS h13 λc15 v15 h15 _ _=>bgS (show(1:Nat)<=34359738368 by decide) ?_));show St _ _ _ _ (bd (gd (q.sz<=34359738300/\(jD (IntKind.i64.wrap ((1:Int)+v6)) (aL log) (IntKind.i64.wrap (IntKind.i64.wrap (t+1)+v13)) (D.aAB.mk [D.Entry.mk (IntKind.i64.wrap ((1:Int)+v15)) 0 1 false])).1.sz<=34359738300) (some (bO q (jD (IntKind.i64.wrap ((1:Int)+v6)) (aL log) (IntKind.i64.wrap (IntKind.i64.wrap (t+1)+v13)) (D.aAB.mk [D.Entry.mk (IntKind.i64.wrap ((1:Int)+v15)) 0 1 false])).1))) _);have hb:=bAr (IntKind.i64.wrap ((1:Int)+v6)) (aL log) (IntKind.i64.wrap (IntKind.i64.wrap (t+1)+v13)) (D.aAB.mk [D.Entry.mk (IntKind.i64.wrap ((1:Int)+v15)) 0 1 false]);generalize(jD (IntKind.i64.wrap ((1:Int)+v6)) (aL log) (IntKind.i64.wrap (IntKind.i64.wrap (t+1)+v13)) (D.aAB.mk [D.Entry.mk (IntKind.i64.wrap ((1:Int)+v15)) 0 1 false])).1=sl at hb;have hu:=(oI q sl).1;refine bgS ⟨by omega,by show sl.Data.length<=_;omega⟩ (bFl ⟨IntKind.i64.wrap (IntKind.i64.wrap (t+1)+v13),c15,(bO q sl).1,h15,⟨by omega,aLp hqc hb.1⟩,?_⟩);show(_,IntKind.i64.wrap ((k:Int)-(i:Int)-1),_,_,_,_,_,_,_)=_;rw[aUv (by omega) hi]
   ·obtain⟨t,c,q,hc,hq,rfl⟩:=hv;exact sW (λq=>absurd (q.symm.trans aUu) (by decide)) λ_=>fF ⟨c,q,hc,⟨by omega,hq.2⟩,rfl⟩
  ·rintro _ ⟨c,q,hc,hq,rfl⟩;exact aGp (W:={w with aAD:=q}) hc (bu bFp (by omega)) hq.2
 ·refine gdE ?_ (aGp (W:={w with Devices:=w.Devices++[D.Device.mk (D.aAI.mk 0 0 0 0) [] 0 0 0 (D.aAB.mk [])]}) h4 ?_ hd)
  ·simp only[D.World.sz] at hz;unfold aV;show w.Devices.length+1<=_;omega
  ·simp only[D.World.sz] at hz ⊢;simp only[au,cT,eR,cu,bm,ex,dg,fN,D.Device.sz,bo];omega
 ·exact aGp (W:=w) h4 (by omega) hd
def bAt {l:List Int}(hl:l.length<=1048576):Ex (jA l) λr=>∃(w:D.World) (d:Int) (n:ByteArray) (a:Int) (f:Bool),r=(w,d,n,a,f)/\w.sz<=1000000/\CldOk w.aAD/\n.size<=100:=by
 unfold jA;refine bdE _ (bAs hl) ?_;rintro _ ⟨w,d,b,rfl,hz,hd,_,_⟩;refine bdE (λ_=>True) (bQ4 l) λz1 _=> ?_
 exact bdE _ (bQ2 (c:=D.aAQ.mk l 0 z1) ⟨dt _,hl⟩ (by decide) bJj) λr hr=>blE hr.1 λc3 v3 h3 _ _=>onE h3 λc4 v4 h4=>fF ⟨w,d,_,_,_,rfl,hz,hd,hr.2⟩
def bL2 {l:List Int}(hb:bEh l=false):l.length<=1048576:=by unfold bEh at hb;rw[di] at hb;omega
def eqT {w:D.World}(hz:w.sz<=34359738368)(h:CldOk w.aAD):nA w.sz w w/\w.sz<=34359738368/\oM w.aAD:=⟨⟨rfl,by omega⟩,hz,h.bytes⟩
def bL3 {w:D.World}{d:Int}{n:ByteArray}{a:Int}{f:Bool}(h:(jB w d n a f).2=false):(jB w d n a f).1=w:=by
 unfold jB at h ⊢;cases hb:aR w&&aM w d with
 |false=>rfl
 |true=>
  rw[hb] at h;cases hc:(bW (aN w d) n a f).2 with
  |false=>rfl
  |true=>rw[hc] at h;cases h
def bL4 {w:D.World}{d:Int}(h:(dL w d).2=false):(dL w d).1=w:=by
 unfold dL at h ⊢;cases hb:(aI w d 0).2==0&&(Gq (aI w d 0).1 d).2 with
 |false=>rfl
 |true=>rw[hb] at h;cases h
def bJk {w:D.World}{d:Int}(h:(dL w d).2=true):aM w d=true/\aM (dL w d).1 d=true:=by
 have h1:aM w d=true:=by
  unfold dL at h;cases hb:(aI w d 0).2==0&&(Gq (aI w d 0).1 d).2 with
  |false=>rw[hb] at h;cases h
  |true=>rw[aa] at hb;exact(kR hb.1).1.2
 refine⟨h1,?_⟩;unfold aM at h1 ⊢;rw[(Dt w d).2.2.1];exact h1
def bJl {w:D.World}{d:Int}(h:(dY w d).2=1):(dY w d).1=w:=by
 unfold dY at h ⊢;cases hb:aR w&&(aM w d&&dG w d) with
 |false=>rfl
 |true=>rw[hb] at h;exact bLl (by rw[show(aI w d 0).2=1 from h];rfl)
def bFq {w:D.World}{d:Int}(h:((dY w d).2==0)=true):∃h:0<=d/\d.toNat<w.Stolen.length,w.Stolen[d.toNat]'h.2=true:=by
 unfold dY at h;cases hb:aR w&&(aM w d&&dG w d) with
 |false=>rw[hb] at h;cases h
 |true=>
  rw[aa,aa] at hb;have h0:=(Ib hb.2.1).1;have h1:=hb.2.2;unfold dG at h1;by_cases hl:d.toNat<w.Stolen.length
  ·refine⟨⟨h0,hl⟩,?_⟩;rw[List.getD,ae hl] at h1;exact h1
  ·rw[List.getD,df (by omega)] at h1;cases h1
def bPk {a u:D.aAB}(h:dX a u=(a,true)):aW9 a u:=by
 have h2:(dX a u).2=true:=by rw[h]
 have h1:=aC2 h2;rw[h] at h1;refine⟨h,by have h1:a.sz<=20:=h1;omega,?_⟩;unfold dX at h2;cases hb:aK u with
 |true=>have:=kQ hb;simp only[D.aAB.sz];omega
 |false=>rw[hb,dl] at h2;cases h2
def aHy (l:List Int)(h:aUc l):Kc l=some true:=by
 unfold Kc;cases hb:bEh l with
 |true=>rfl
 |false=>
  obtain⟨_,e,w,d,n,a,f,rfl,hz,hd,hn⟩:=bAt (bL2 hb);have he:=aXj w d n a f;have hec:=aXr hd d n a f;rw[ab,e,bd_s];dsimp only;rw[aB (show w.sz<=34359738300/\n.size<=34359738300 from⟨by omega,by omega⟩),bd_s,bd_s,aWr,ab];refine qQ (a:=false) ?_ ?_
  ·cases hc:(jB w d n a f).2 with
   |true=>rfl
   |false=>rw[dk,ac,bL3 hc,aB (eqT (by omega) hd)];rfl
  have hp0:(jB w d n a f).1.sz<=1000001:=by omega
  generalize(jB w d n a f).1=v at hp0 hec;rw[ab,aB (show v.sz<=10000000000 by omega),bd_s,bd_s,aWr,ab];refine qQ (a:=false) ?_ ?_
  ·cases hc:(dL v d).2 with
   |true=>rfl
   |false=>rw[dk,ac,bL4 hc,aB (eqT (by omega) hec)];rfl
  rw[ab,aB (show w.sz<=34359738100 by omega),bd_s];refine qQ (a:=false) ?_ ?_
  ·have h1:(dY w d).2=1->bd (gd (nA (dY w d).1.sz (dY w d).1 w/\(dY w d).1.sz<=34359738368/\oM (dY w d).1.aAD) (some true)) (λz9=>some (!z9))=some false:=λq=>by
    rw[bJl q,aB (eqT (by omega) hd)];rfl
   cases hc:(dY w d).2==0 with
   |false=>
    rw[ab];cases hq:(dY w d).2==1 with
    |false=>rfl
    |true=>rw[ac];exact h1 (eq_of_beq hq)
   |true=>
    obtain⟨⟨k1,k2⟩,k3⟩:=bFq hc;rw[ac,aw (show ¬d<0 by omega),aw (show ¬d>=(w.Stolen.length:Int) by omega),ab,ab,lN k1 k2,bd_s,k3,ba,ab];cases hq:(dY w d).2==1 with
    |false=>rfl
    |true=>rw[ac];exact h1 (eq_of_beq hq)
  rw[ab];refine qQ (a:=true) ?_ rfl;cases hc:(dL v d).2 with
  |false=>rfl
  |true=>
   obtain⟨p1,p2⟩:=bJk hc;obtain⟨i1,i2⟩:=bI1 hc;have hl:v.aAD.History.length<=v.sz:=by simp only[D.World.sz];omega
   rw[ba,ab,nD p2,bd_s,nD p1,bd_s,aB (bPk i1),bd_s,ac,i2,aJ (by omega) (by omega)];simp
end
end Go.VK
