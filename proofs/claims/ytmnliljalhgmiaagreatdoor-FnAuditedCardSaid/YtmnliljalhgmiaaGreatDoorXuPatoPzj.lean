import Derived.Test.YtmnliljalhgmiaaGreatDoorXuM
import Derived.Test.YtmnliljalhgmiaaGreatDoorLKatoo
/- Printed by wip/tools: models, walks, proofs. -/
set_option linter.all false
set_option maxRecDepth 100000
set_option maxHeartbeats 4000000
namespace Go.VK
open Go.RowKit Go.Proofs D
noncomputable section
open EV (bZ)
def bF6 (a b c:Int):aN5 a b c=some (bK a b c):=by unfold aN5 bK;show bd (bif decide (b<=a) then some (decide (a<=c)) else some false) _=_;cases decide (b<=a)<;>rfl
def aT1 (a b c:Int):Vy a b c=some (bK a b c):=by unfold Vy bK;cases decide (b<=a)<;>rfl
def bIo (p q:Int):aTu p q=some (fD p q):=by
 unfold aTu;by_cases h:1<=q/\q<=1000000000000
 ·simp[bK,h.1,h.2,aB (show q≠0 by omega),bXb h]
 ·rw[bOy h];rcases(show q<1\/q>1000000000000 by omega) with h|h
  ·simp[bK,show ¬1<=q by omega]
  ·simp[bK,show ¬q<=1000000000000 by omega]
def bIp (p q:Int):aTz p q=some (fD p q):=by
 unfold aTz;simp only[bd_bb];by_cases h:1<=q/\q<=1000000000000
 ·rw[aB (by omega)];by_cases ht:p.tmod q<0
  ·simp[h,ht,show ¬q<1 by omega,show ¬q>1000000000000 by omega,bW9 h ht];rw[IntKind.wrap_i64];have:=oV (p:=p) (q:=q) h.1;omega
  ·simp[h,ht,show ¬q<1 by omega,show ¬q>1000000000000 by omega,bXa h ht]
 ·rw[bOy h];rcases(show q<1\/q>1000000000000 by omega) with h|h<;>simp[h]
def aT2:((2147483647:Int)≠0)=True:=by simp
def bF7 (l:List Int)(h:l.length<=1099511627776):aN6 l=some (yN l):=by
 unfold aN6;rw[gV (l:=l) hstep (λ_ _=>True) (λs=>some s) (by omega) trivial (λ_ _ _ _=>trivial) (λrec i s hi _=>by
  simp only[dM hi,ae,aQ hi,bd_s,aT2,gd_T];rfl) (λrec s _=>by simp only[iD,aa])]
 rfl
def bF8 (l:List Int)(h:l.length<=1099511627776):aN7 l=some (yN l):=by
 unfold aN7;rw[gV (l:=l) hstep (λ_ _=>True) (λs=>some s) (by omega) trivial (λ_ _ _ _=>trivial) (λrec i s hi _=>by
  simp only[dM hi,ae,aQ hi,bd_s,aT2,gd_T];rfl) (λrec s _=>by simp only[iD,aa])]
 rfl
def aJ6 (k:Int)(l:List Int)(h:l.length<=34359738368):Jy k l=some (bH k l):=by unfold Jy;rw[aB (by simp[aX];omega),aB (by simp[aX];omega),aB (by simp;omega)];simp[bH]
def U1 {α:Type}{r:List (List α)}{i:Nat}(hi:i<r.length):(r.take (i+1)).flatten=(r.take i).flatten++r[i]:=by rw[dT,ab hi,d8];simp only[e9,cT,gl,df]
def aXk (a:List Int)(r:List (List Int))(h:uU a r):R3 a r=some (oK a r):=by
 unfold R3;have hs:∀i,(r.take i).flatten.length<=r.flatten.length:=λi=>by
  conv=>rhs;rw[<-cJ i r,d8,ay]
  omega
 rw[aB (by simp[aX];omega),gV (l:=r) (λs x=>s++x) (λi s=>s=a++(r.take i).flatten) (λs=>some s) (by omega) (by simp)
  (λi s hi hv=>by rw[hv,U1 hi,cm])
  (λrec i s hi hv=>by
   have e:=U1 hi;have h1:=hs (i+1);rw[e,ay] at h1;simp only[dM hi,ae,aQ hi,bd_s];rw[aB (by unfold aX;rw[hv,ay];omega)]) (λrec s _=>by simp only[iD,aa])]
 have:r.foldl (λs x=>s++x) ([]++a)=a++r.flatten:=by rw[bz,aJc (f:=λx:List Int=>x)];simp
 rw[this];rfl
def aJ7 (k:Int)(l:List Int)(h:l.length<=34359738368):La k l=some (bH k l):=by unfold La;rw[aB (by unfold uU;simp;omega),bd_s,aB (by simp[oK];omega)];simp[bH,oK]
def bIq (a b:Int):aTv a b=some (bCd a b):=by simp[aTv,bCd]
def bCx (n:Int):aEs n=some (kC n):=by simp[aEs,kC]
def aJ8 (k:Int)(l:List Int)(h:l.length<=34359738300):Jz k l=some (aW k l):=by unfold Jz;rw[aB (by simp[aX];omega),aB (by simp;omega),bd_s,bEp (nE _ _).1];rfl
def aJ9 (k:Int)(l:List Int)(h:l.length<=34359738300):Ld k l=some (aW k l):=by unfold Ld;rw[aB (by simp[uU];omega),bd_s,aB (by simp[oK];omega)];simp[aW,oK]
def aEw (n:Int):aEo n=some (bG n):=rfl
def aEx (n:Int):aEr n=some (bG n):=rfl
def aKa (n:Int):Kb n=some (dP n):=by unfold Kb dP;cases bG n<;>rfl
def aKb (n:Int):Lg n=some (dP n):=by unfold Lg dP;cases bG n<;>rfl
def aKc (s:AK):Ka s=some (jH s):=by unfold Ka;rw[aB (by simp)];rfl
def y9 (s:AK):r9 s=some (aS s):=rfl
def A7 (s:AK):zH s=some (aS s):=by unfold zH;rw[aB (by simp)];rfl
def aXl (l:List Int)(x:Int)(h:l.length<=1099511627776):P9 l x=some (jG l x):=by unfold P9;rw[kZ (l:=l) (λe=>e==x) (.inl true) (.inr ()) (by omega) (λrec i hi=>by simp only[dM hi,ae,aQ hi,bd_s]) (λrec=>by simp only[iD,aa])];unfold jG;cases l.any _<;>rfl
def bIr (l:List Int)(x:Int)(h:l.length<=1099511627776):aTy l x=some (jG l x):=by unfold aTy;rw[kZ (l:=l) (λe=>e==x) (.inl true) (.inr ()) (by omega) (λrec i hi=>by simp only[dM hi,ae,aQ hi,bd_s]) (λrec=>by simp only[iD,aa])];unfold jG;cases l.any _<;>rfl
def bCy (s:List Int)(x:Int):jG s x=s.contains x:=by unfold jG;rw[List.contains_eq_any_beq];congr 1;funext e;exact Bool.beq_comm
def bA5 {s:List Int}{e:AD}(h:(e.Kind==1)=true):jT s e=bif !jG s e.Device then s++[e.Device] else s:=by unfold jT;rw[h,bCy];cases s.contains e.Device<;>rfl
def bA6 {s:List Int}{e:AD}(h:(e.Kind==1)=false):jT s e=bif e.Kind==2 then s.filter (λd=>d !=e.Device) else s:=by unfold jT;rw[h];rfl
def aKd (l:List AD)(h:l.length<=34359738368):Ke l=some (aC l):=by
 unfold Ke;rw[gV (l:=l) jT (λi s=>s.length<=i) (λs=>some s) (by omega) (by simp) (λi s hi hv=>by have:=aNn s l[i];omega)
  (λrec i s hi hv=>by
   simp only[dM hi,ae,aQ hi,bd_s];rw[aB (by omega)];have e:∀x:Int,bZ (α:=List Int) FUEL (λa (i8:(List Int×Nat))=>bif (decide ((↑i8.2:Int)<(↑s.length:Int))) then(bd (bd (bC s (↑i8.2:Int)) λ(c:(Int))=>bif (c !=x) then(bd (bC s (↑i8.2:Int)) λ(b:(Int))=>gd (aX i8.1 [b]) (some (i8.1++[b]))) else(some (i8.1))) λ(f:(List Int))=>a ((f,(i8.2+1)))) else(some (i8.1))) ([],0)=some (s.filter λd=>d !=x):=λx=>by
    rw[gV (l:=s) (λq y=>bif y !=x then q++[y] else q) (λi q=>q.length<=i) (λq=>some q) (by omega) (by simp) (λi q hi hv=>by cases(s[i] !=x)<;>simp<;>omega)
     (λrec i q hi hv=>by
      simp only[dM hi,ae,aQ hi,bd_s];rw[aB (by unfold aX;simp;omega)];cases(s[i] !=x)<;>rfl) (λrec q _=>by simp only[iD,aa]),Nq]
    simp
   rw[e];cases h1:(l[i].Kind==1) with
   |true=>
    have h2:(l[i].Kind==2)=false:=by simp at h1 ⊢;omega
    rw[bA5 h1,h2];rw[aB (by unfold aX;simp;omega)];cases jG s l[i].Device<;>rfl
   |false=>
    rw[bA6 h1,aB (by unfold aX;simp;omega)];cases(l[i].Kind==2)<;>rfl) (λrec s _=>by simp only[iD,aa])]
 rfl
def aKe (l:List AD)(h:l.length<=34359738368):Kw l=some (aC l):=by
 unfold Kw;rw[gV (l:=l) jT (λi s=>s.length<=i) (λs=>some s) (by omega) (by simp) (λi s hi hv=>by have:=aNn s l[i];omega)
  (λrec i s hi hv=>by
   simp only[dM hi,ae,aQ hi,bd_s];rw[aB (by omega)];have e:∀x:Int,bZ (α:=List Int) FUEL (λb (a:(List Int×Nat))=>bif (decide ((↑a.2:Int)<(↑s.length:Int))) then(bd (bd (bC s (↑a.2:Int)) λ(c:(Int))=>bif (c !=x) then(gd (aX a.1 [c]) (some (a.1++[c]))) else(some (a.1))) λ(f:(List Int))=>b ((f,(a.2+1)))) else(some (a.1))) ([],0)=some (s.filter λd=>d !=x):=λx=>by
    rw[gV (l:=s) (λq y=>bif y !=x then q++[y] else q) (λi q=>q.length<=i) (λq=>some q) (by omega) (by simp) (λi q hi hv=>by cases(s[i] !=x)<;>simp<;>omega)
     (λrec i q hi hv=>by
      simp only[dM hi,ae,aQ hi,bd_s];rw[aB (by unfold aX;simp;omega)];cases(s[i] !=x)<;>rfl) (λrec q _=>by simp only[iD,aa]),Nq]
    simp
   rw[e];cases h1:(l[i].Kind==1) with
   |true=>rw[bA5 h1,aB (by unfold aX;simp;omega)];cases jG s l[i].Device<;>rfl
   |false=>
    rw[bA6 h1];cases(l[i].Kind==2)<;>rfl) (λrec s _=>by simp only[iD,aa])]
 rfl
def aKf (w:AA)(d:Int):Lc w d=some (aN w d):=by unfold Lc aN;show bd (bif decide (0<=d) then _ else _) _=_;cases decide (0<=d)<;>rfl
def aXm (w:AA)(d:Int)(h:X5 w):U0 w d=some (bN w d):=by
 unfold U0 bN;rw[bMz h];have hl:=gG w.aAD.Log;have a:=h.2.2.1;cases hd:aN w d with
 |false=>rfl
 |true=>simp only[ae,tL hd,bd_s,aB a,aB (show(aC w.aAD.Log).length<=1099511627776 by omega),cq]
def aXn (w:AA)(d:Int)(h:X5 w):S9 w d=some (bN w d):=by
 unfold S9 bN;have hl:=gG w.aAD.Log;have a:=h.2.2.1;cases hd:aN w d with
 |false=>rfl
 |true=>simp only[ae,tL hd,bd_s,aB a,aB (show(aC w.aAD.Log).length<=1099511627776 by omega),cq]
def aT3 (w:AA)(d:Int):Wd w d=some (gP w d):=by unfold Wd gP;show bd (bif decide (0<=d) then _ else _) _=_;cases decide (0<=d)<;>rfl
def aT4 (a:AH)(s h:Int):Vp a s h=some (kT a s h):=by unfold Vp kT;cases decide (a.Site<s)<;>cases(a.Site==s)<;>rfl
def aAf (a b:AH):De a b=some (dV a b):=by unfold De dV;cases decide (a.Site<b.Site)<;>cases(a.Site==b.Site)<;>rfl
def bF9 {l:List AH}{i:Nat}(hi:i<l.length)(hl:l.length<=34359738368){q:AH->Bool}(hq:∀x,q x=dV x l[i]):
  (bif (!bK l[i].Site (0:Int) (2147483646:Int)) then(some (true)) else(bif (!bK l[i].Handle (0:Int) (1000000:Int)) then(some (true)) else(bif (!bK l[i].Version (1:Int) (1000000:Int)) then(some (true)) else(bif (decide ((i:Int)>(0:Int))) then(bd (bC l (IntKind.i64.wrap ((i:Int)-(1:Int)))) λ(a:(AH))=>some (!q a)) else(some (false))))))=some (Uh l i l[i]):=by
 unfold Uh;cases bK l[i].Site 0 2147483646 with
 |false=>rfl
 |true=>
  cases bK l[i].Handle 0 1000000 with
  |false=>rfl
  |true=>
   cases bK l[i].Version 1 1000000 with
   |false=>rfl
   |true=>
    by_cases h0:(i:Int)>0
    ·rw[aq h0,aI (by omega) (by omega)];have b:bC l ((i:Int)-1)=some l[i-1]:=by
      grind[aQ]
     grind[bd_s,Bool.not_true,default,List.getD,List.getElem?_eq_getElem]
    simp_all
def aOy (b:AC)(h:b.sz<=34359738368):Qe b=some (aM b):=by
 simp only[AC.sz] at h;unfold Qe aM;rw[kG (l:=b.Entries) (Uh b.Entries) (.inl false) (.inr ()) (by omega) (λrec i hi=>by
  simp only[dM hi,ae,aQ hi,bd_s];rw[bF9 hi h (q:=λx=>kT x b.Entries[i].Site b.Entries[i].Handle) (λx=>rfl)];rfl) (by simp)]
 grind[gF,Uh,nx]
def aOz (b:AC)(h:b.sz<=34359738368):Qt b=some (aM b):=by
 simp only[AC.sz] at h;unfold Qt aM;by_cases a:(b.Entries.length:Int)>20
 ·grind
 ·rw[ao a,show decide ((b.Entries.length:Int)<=20)=true from aq (by omega),aa];rw[kG (l:=b.Entries) (Uh b.Entries) (.inl false) (.inr ()) (by omega) (λrec i hi=>by
   simp only[dM hi,ae,aQ hi,bd_s];rw[bF9 hi h (q:=λx=>dV x b.Entries[i]) (λx=>rfl)];rfl) (by simp)]
  cases gF (Uh b.Entries) 0 b.Entries<;>rfl
def aKg (b:AC)(s h:Int)(a:b.sz<=34359738368):Kj b s h=some (aJ b s h):=by simp only[AC.sz] at a;unfold Kj aJ;exact Jm (l:=b.Entries) (λ(e:AH)=>e.Site==s&&e.Handle==h) (by omega) (by grind[dM,aQ,bd_s]) (by simp)
def aT5 (b:AC)(h:b.sz<=34359738368):Vn b=some (b):=by simp only[AC.sz] at h;unfold Vn;rw[aB (by grind[List.length_nil,aX])];rfl
def aEy (b:AC)(h:b.sz<=34359738368):Gb b=some (b):=by simp only[AC.sz] at h;unfold Gb;rw[aB (by grind[List.length_nil,aX])];rfl
def aRe (p:AH->Bool):∀(l:List AH) (i:Nat),i<=(l.takeWhile p).length->(∃hi:i<l.length,p l[i]=true/\i<(l.takeWhile p).length)\/(i=(l.takeWhile p).length/\∀hi:i<l.length,p l[i]=false)
 |[],i,h=> .inr ⟨by simpa using h,λhi=>by simp at hi⟩
 |x::l,i,h=>by
  rw[dl] at h ⊢;cases hp:p x with
  |false=>rw[hp] at h;simp at h;subst h;exact .inr ⟨by simp,λ_=>hp⟩
  |true=>
   rw[hp] at h;simp only[ig,au] at h ⊢;cases i with
   |zero=>exact .inl ⟨by simp,hp,by omega⟩
   |succ i=>
    rcases aRe p l i (by omega) with⟨h1,h2,a⟩|⟨h1,h2⟩
    ·exact .inl ⟨by simpa using h1,h2,by omega⟩
    ·exact .inr ⟨by omega,λhi=>h2 (by simpa using hi)⟩
def bLb (p:AH->Bool):∀l:List AH,l.take (l.takeWhile p).length=l.takeWhile p
 |[]=>rfl
 |x::l=>by
  rw[dl];cases p x with
  |false=>rfl
  |true=>simp only[ig,au,ij];rw[bLb p l]
def bLc (p:AH->Bool):∀l:List AH,l.drop (l.takeWhile p).length=l.dropWhile p
 |[]=>rfl
 |x::l=>by
  rw[dl,List.dropWhile_cons];cases p x with
  |false=>rfl
  |true=>simp only[ig,au,gn];rw[bLc p l]
def aXo (b:AC)(x:AH)(h:b.sz<=34359738360):Q5 b x=some (qE b x):=by
 have k:=h;simp only[AC.sz] at h;unfold Q5 qE;rw[aB (by omega),bd_s,aB (by omega),bd_s];by_cases c:aJ b x.Site x.Handle>=0
 ·rw[aq c,ae,ae];have:=aDj (show 0<=kN (λe=>e.Site==x.Site&&e.Handle==x.Handle) 0 b.Entries from c);have d:(aJ b x.Site x.Handle).toNat<b.Entries.length:=by unfold aJ;omega
  rw[kY c d];rfl
 ·rw[ao c,aa,aa];have a:(b.Entries.takeWhile λe=>kT e x.Site x.Handle).length<=b.Entries.length:=(List.takeWhile_sublist _).length_le;rw[X3 (λi s=>i<=(b.Entries.takeWhile λe=>kT e x.Site x.Handle).length/\s=(i:Int)) b.Entries.length (some ((b.Entries.takeWhile λe=>kT e x.Site x.Handle).length:Int)) (s:=(0:Int)) (by omega) ⟨by omega,rfl⟩ (λi s rec hi hv=>by
   obtain⟨h1,rfl⟩:=hv;rcases aRe _ _ i h1 with⟨j,f,l⟩|⟨j,f⟩
   ·refine .inl ⟨_,⟨by omega,rfl⟩,?_⟩;simp only[dM hi,ae,aQ hi,bd_s,f];rw[aI (by omega) (by omega)];rfl
   ·refine .inr ?_;simp only[dM hi,ae,aQ hi,bd_s,f hi,aa];rw[<-j]) (λs rec hv=>by
   obtain⟨h1,rfl⟩:=hv;have e:b.Entries.length=(b.Entries.takeWhile λe=>kT e x.Site x.Handle).length:=by omega
   simp only[iD,aa,bd_s];rw[<-e]),bd_s]
  rw[aB ⟨by omega,by simpa using a⟩,aB ⟨by omega,by simpa using a⟩,aB (by unfold aX;simp;omega),aB (by unfold aX;simp;omega),aB (by unfold aX;simp;omega)];rw[bo,bz];rw[bLb,bLc]
def bN5 {l:List AH}{k:Int}(h0:0<=k)(h1:k.toNat<l.length)(x:AH):(bd (bC l k) λ(b:AH)=>bif (decide (x.Version>b.Version)) then(some (true)) else(bd (bC l k) λ(a:AH)=>bif (x.Version==a.Version) then(some (x.Deleted)) else(some (false))))=some (qO x (l.getD k.toNat default)):=by rw[kY h0 h1,List.getD,ab h1,ci];simp only[bd_s];unfold qO;cases decide (x.Version>l[k.toNat].Version)<;>cases(x.Version==l[k.toNat].Version)<;>rfl
def A8 (a b:AC)(h:a.sz<=34359738368/\b.sz<=34359738368):zB a b=some (iN a b):=by
 unfold zB iN;rw[aB h.1,bd_s];cases f:aM a with
 |false=>rw[aB h.1];rfl
 |true=>
  rw[aB h.2];cases hb:aM b with
  |false=>rw[aB h.1];rfl
  |true=>
   obtain⟨n,j⟩:=aSq f;obtain⟨p,k⟩:=aSq hb;rw[aB h.1];simp only[av,aa,ae,bd_s,dy];rw[bAc (l:=b.Entries) (s0:=a.Entries) (λo x=>bM o [x]) (λi o=>srt o/\o.length<=20+i) (λo=>some o) (by omega) ⟨j,by omega⟩ (λi o hi hv=>by
     have:=Ap _ o [b.Entries[i]] (aj _);exact⟨bKf hv.1,by simp only[cz] at this;omega⟩) (λrec i o hi hv=>by
     obtain⟨hs,hl⟩:=hv;simp only[dM hi,ae,aQ hi,bd_s];rw[aB (by simp only[AC.sz];omega),bd_s,<-bEu hs];have hk:(bif decide (aJ ⟨o⟩ b.Entries[i].Site b.Entries[i].Handle<0) then some true else bd (bC o (aJ ⟨o⟩ b.Entries[i].Site b.Entries[i].Handle)) λ(m:AH)=>bif (decide (b.Entries[i].Version>m.Version)) then(some (true)) else(bd (bC o (aJ ⟨o⟩ b.Entries[i].Site b.Entries[i].Handle)) λ(d:AH)=>bif (b.Entries[i].Version==d.Version) then(some (b.Entries[i].Deleted)) else(some (false))))=some (decide (aJ ⟨o⟩ b.Entries[i].Site b.Entries[i].Handle<0)||qO b.Entries[i] (o.getD (aJ ⟨o⟩ b.Entries[i].Site b.Entries[i].Handle).toNat default)):=by
      by_cases c:aJ ⟨o⟩ b.Entries[i].Site b.Entries[i].Handle<0
      ·rw[aq c];rfl
      ·rw[ao c,aa];have:=aDj (show 0<=kN (λ(e:AH)=>e.Site==b.Entries[i].Site&&e.Handle==b.Entries[i].Handle) 0 o from by unfold aJ at c;simp only at c;omega);rw[bN5 (by omega) (by unfold aJ;simp only;omega)];rfl
     rw[hk,bd_s];cases(decide (aJ ⟨o⟩ b.Entries[i].Site b.Entries[i].Handle<0)||qO b.Entries[i] (o.getD (aJ ⟨o⟩ b.Entries[i].Site b.Entries[i].Handle).toNat default)) with
     |false=>rfl
     |true=>rw[ae,ae,aB (by simp only[AC.sz];omega)];rfl) (λrec o _=>by simp only[iD,aa])]
   rw[aSp _ _ k,bd_s];have hm:=Ap _ a.Entries b.Entries (aj _);rw[aB (by simp only[AC.sz];omega),bd_s];cases aM ⟨bM a.Entries b.Entries⟩<;>rfl
def drop_at {l:List AH}{i:Nat}(h:i<l.length):l.drop i=l[i]::l.drop (i+1):=cC h
def bIs (e f:AH){X:Int×Int×Int×Bool->Option (List AH)}:(bd (bd (bif (decide (f.Version>e.Version)) then(some (true)) else(bif (f.Version==e.Version) then(some (f.Deleted)) else(some (false)))) λ(a:Bool)=>bif a then(some (f.Site,f.Handle,f.Version,f.Deleted)) else(some (e.Site,e.Handle,e.Version,e.Deleted))) X)=X ((sG e f).Site,(sG e f).Handle,(sG e f).Version,(sG e f).Deleted):=by unfold sG qO;cases decide (f.Version>e.Version)<;>cases(f.Version==e.Version)<;>cases hd:f.Deleted<;>simp[bd,hd]
def A9 (a b:AC)(h:a.sz<=34359738368/\b.sz<=34359738368):zJ a b=some (iN a b):=by
 unfold zJ iN;rw[aB h.1,bd_s];cases m:aM a with
 |false=>rw[aB h.1];rfl
 |true=>
  rw[aB h.2];cases hb:aM b with
  |false=>rw[aB h.1];rfl
  |true=>
   obtain⟨r,t⟩:=aSq m;obtain⟨u,v⟩:=aSq hb;simp only[av,aa,ae,bd_s,dy];have hm:=Ap _ a.Entries b.Entries (aj _);rw[X3 (λn s=>∃(i k:Nat) (o:List AH),s=((i:Int),(k:Int),o)/\i<=a.Entries.length/\k<=b.Entries.length/\n<=i+k/\o++bM (a.Entries.drop i) (b.Entries.drop k)=bM a.Entries b.Entries) (a.Entries.length+b.Entries.length) (some (bM a.Entries b.Entries)) (s:=((0:Int),(0:Int),([]:List AH))) (by omega) ⟨0,0,[],rfl,by omega,by omega,by omega,rfl⟩ (λn s rec hn hv=>by
     obtain⟨i,k,o,rfl,hi,hk,j,ho⟩:=hv;have p:o.length<=40:=by have:=congrArg List.length ho;rw[ay] at this;omega
     have f:∀x:AH,aX o [x]:=λx=>by unfold aX;simp only[cz];omega
     have wi:IntKind.i64.wrap ((i:Int)+1)=((i+1:Nat):Int):=by rw[aI (by omega) (by omega)];rfl
     have wk:IntKind.i64.wrap ((k:Int)+1)=((k+1:Nat):Int):=by rw[aI (by omega) (by omega)];rfl
     rcases eW i a.Entries.length with d|d
     ·have ne1:((i:Int)==(a.Entries.length:Int))=false:=by simp;omega
      rw[drop_at d] at ho;rcases eW k b.Entries.length with c|c
      ·have ne2:((k:Int)==(b.Entries.length:Int))=false:=by simp;omega
       rw[drop_at c,vU] at ho;simp only[dM d,dM c,ae,bd_s,ne2,aa,aQ d,aQ c,ne1,aB (f _),wi,wk,bIs];cases h1:dV a.Entries[i] b.Entries[k] with
       |true=>rw[h1,ae,<-drop_at c] at ho;exact .inl ⟨_,⟨i+1,k,o++[a.Entries[i]],rfl,by omega,hk,by omega,by rw[<-ho];simp⟩,rfl⟩
       |false=>
        cases h2:dV b.Entries[k] a.Entries[i] with
        |true=>rw[h1,aa,h2,ae,<-drop_at d] at ho;exact .inl ⟨_,⟨i,k+1,o++[b.Entries[k]],rfl,hi,by omega,by omega,by rw[<-ho];simp⟩,rfl⟩
        |false=>rw[h1,aa,h2,aa] at ho;exact .inl ⟨_,⟨i+1,k+1,o++[sG a.Entries[i] b.Entries[k]],rfl,by omega,by omega,by omega,by rw[<-ho];simp⟩,rfl⟩
      ·have e:k=b.Entries.length:=by omega
       subst e;rw[dr,fK] at ho;simp only[dM d,ae,bd_s,eJ,aQ d,aB (f _),wi];exact .inl ⟨_,⟨i+1,_,o++[a.Entries[i]],rfl,by omega,aj _,by omega,by rw[dr,fK,<-ho];simp⟩,rfl⟩
     ·have e:i=a.Entries.length:=by omega
      subst e;rw[dr,kD] at ho;rcases eW k b.Entries.length with c|c
      ·have ne2:((k:Int)==(b.Entries.length:Int))=false:=by simp;omega
       simp only[iD,aa,dM c,bd_s,ae,ne2,eJ,aQ c,aB (f _),wk];exact .inl ⟨_,⟨_,k+1,o++[b.Entries[k]],rfl,aj _,by omega,by omega,by rw[dr,kD,<-ho,drop_at c];simp⟩,rfl⟩
      ·have l:k=b.Entries.length:=by omega
       subst l;rw[dr,df] at ho;refine .inr ?_;simp only[iD,aa,bd_s];rw[ho]) (λs rec hv=>by
     obtain⟨i,k,o,rfl,hi,hk,j,ho⟩:=hv;have q:i=a.Entries.length:=by omega
     have l:k=b.Entries.length:=by omega
     subst q;subst l;rw[dr,dr,fK,df] at ho;simp only[iD,aa,bd_s];rw[ho])]
   rw[bd_s,aB (by simp only[AC.sz];omega),bd_s,aB h.1];cases aM ⟨bM a.Entries b.Entries⟩<;>rfl
def bIt {w:AA}(h:w.sz<=34359738368):X5 w:=by simp only[AA.sz] at h;unfold X5;omega
def aT6 (l:List AD)(h:l.length<=34359738368):Vd l=some l:=by unfold Vd;rw[tQ h];rfl
def aT7 (l:List AD)(h:l.length<=34359738368):Vx l=some l:=by unfold Vx;rw[tQ h];rfl
def aKh (l:List Int)(h:l.length<=34359738368):Kq l=some l:=by unfold Kq;rw[tQ h];rfl
def aT8 (d:AF)(h:d.sz<=34359738368):Vo d=some d:=by simp only[AF.sz] at h;unfold Vo;simp only[aB (show d.Log.length<=34359738368 by omega),aB (show d.aAE.sz<=34359738368 by simp only[AC.sz];omega),bd_s]
def aEz (d:AF)(h:d.sz<=34359738368):Gc d=some d:=by simp only[AF.sz] at h;unfold Gc;simp only[aB (show d.Log.length<=34359738368 by omega),aB (show d.aAE.sz<=34359738368 by simp only[AC.sz];omega),bd_s]
def aT9 (e:AM)(h:e.sz<=34359738368):Vh e=some e:=by
 simp only[AM.sz] at h;unfold Vh;rw[aSr (l:=e.Boxes) (by omega) (λrec i s hi hs=>by
  have a:=nD (f:=AN.sz) hi;simp only[AN.sz] at a h;simp only[dM hi,ae,aQ hi,bd_s,tQ (show e.Boxes[i].Data.length<=34359738368 by omega),gI hs,bz]) (λrec s=>by simp only[iD,aa])]
 rfl
def aKi (l:List AN)(h:Tj AN.sz l<=34359738368):Kr l=some l:=by
 unfold Kr;unfold Tj at h;rw[bVw (l:=l) (by omega) (λrec i s hi hs=>by
  have a:=nD (f:=AN.sz) hi;simp only[AN.sz] at a h;simp only[dM hi,ae,aQ hi,bd_s,aB (show l[i].Data.length<=34359738368 by omega),gI hs]) (λrec s=>by simp only[iD,aa])]
 rfl
def Rn (e:AM)(h:e.sz<=34359738368):uZ e=some e:=by unfold uZ;simp only[aB (show Tj AN.sz e.Boxes<=34359738368 from h),bd_s]
def aUa (e:AJ)(h:e.sz<=34359738368):Vq e=some e:=by unfold Vq;rw[tQ h];rfl
def aE0 (e:AJ)(h:e.sz<=34359738368):Ga e=some e:=by unfold Ga;simp only[aB (show e.Data.length<=34359738368 from h),bd_s]
def aUb (c:AO)(h:c.sz<=34359738368):Vr c=some c:=by
 simp only[AO.sz] at h;unfold Vr;rw[aSr (l:=c.History) (by omega) (λrec i s hi hs=>by
  have a:=nD (f:=AJ.sz) hi;simp only[dM hi,ae,aQ hi,bd_s,aB (show c.History[i].sz<=34359738368 by omega),gI hs]) (λrec s=>by simp only[iD,aa])]
 simp only[aB (show c.Log.length<=34359738368 by omega),aB (show c.Boxes.sz<=34359738368 by simp only[AM.sz];omega),bd_s]
def aKj (c:AO)(h:c.sz<=34359738368):Kt c=some c:=by
 simp only[AO.sz] at h;unfold Kt;rw[aSr (l:=c.History) (by omega) (λrec i s hi hs=>by
  have a:=nD (f:=AJ.sz) hi;simp only[dM hi,ae,aQ hi,bd_s,aB (show c.History[i].sz<=34359738368 by omega),gI hs]) (λrec s=>by simp only[iD,aa])]
 simp only[aB (show c.Log.length<=34359738368 by omega),aB (show c.Boxes.sz<=34359738368 by simp only[AM.sz];omega),bd_s]
def aUc (e:AI)(h:e.sz<=34359738368):Vk e=some e:=by unfold Vk;rw[tQ h];rfl
def aAg (e:AI)(h:e.sz<=34359738368):Ci e=some e:=by unfold Ci;rw[tQ h];rfl
def aUd (e:AP)(h:e.sz<=34359738368):Vl e=some e:=by unfold Vl;rw[tQ h];rfl
def aO0 (e:AP)(h:e.sz<=34359738368):Qm e=some e:=by unfold Qm;rw[tQ h];rfl
def aUe (s:AB)(h:s.sz<=34359738368):Vm s=some s:=by
 simp only[AB.sz] at h;unfold Vm;rw[aSr (l:=s.Accounts) (by omega) (λrec i q hi hs=>by
  have a:=nD (f:=AI.sz) hi;simp only[dM hi,ae,aQ hi,bd_s,aB (show s.Accounts[i].sz<=34359738368 by omega),gI hs]) (λrec q=>by simp only[iD,aa])]
 simp only[aB (show s.Book.sz<=34359738368 by simp only[AP.sz];omega),bd_s,tQ (show s.Logins.length<=34359738368 by omega),bz]
def aO1 (s:AB)(h:s.sz<=34359738368):Qn s=some s:=by
 simp only[AB.sz] at h;unfold Qn;rw[aSr (l:=s.Accounts) (by omega) (λrec i q hi hs=>by
  have a:=nD (f:=AI.sz) hi;simp only[dM hi,ae,aQ hi,bd_s,aB (show s.Accounts[i].sz<=34359738368 by omega),gI hs]) (λrec q=>by simp only[iD,aa])]
 simp only[aB (show s.Book.sz<=34359738368 by simp only[AP.sz];omega),bd_s,aB (show uU s.Logins [] by unfold uU;simp;omega)];simp[oK]
def aO2 (e:AG)(h:e.sz<=34359738368):Qk e=some e:=by unfold Qk;rw[tQ h];rfl
def aKk (l:List AG)(h:Tj AG.sz l<=34359738368):Ku l=some l:=by
 unfold Ku;unfold Tj at h;rw[bVw (l:=l) (by omega) (λrec i s hi hs=>by
  have a:=nD (f:=AG.sz) hi;simp only[dM hi,ae,aQ hi,bd_s,aB (show l[i].sz<=34359738368 by omega),gI hs]) (λrec s=>by simp only[iD,aa])]
 rfl
def aO3 (e:AV)(h:e.sz<=34359738368):Ql e=some e:=by unfold Ql;rw[tQ h];rfl
def aKl (w:AA)(h:w.sz<=34359738368):Kv w=some w:=by
 simp only[AA.sz] at h;unfold Kv;rw[aSr (l:=w.Devices) (by omega) (λrec i q hi hs=>by
  have a:=nD (f:=AF.sz) hi;simp only[dM hi,ae,aQ hi,bd_s,aB (show w.Devices[i].sz<=34359738368 by omega),gI hs]) (λrec q=>by simp only[iD,aa]),
  aSr (l:=w.Sites) (by omega) (λrec i q hi hs=>by
  have a:=nD (f:=AB.sz) hi;simp only[dM hi,ae,aQ hi,bd_s,aB (show w.Sites[i].sz<=34359738368 by omega),gI hs]) (λrec q=>by simp only[iD,aa])]
 simp only[bd_s,tQ (show w.Stolen.length<=34359738368 by omega),aB (show w.aAD.sz<=34359738368 by simp only[AO.sz];omega),aB (show Tj AG.sz w.Hosts<=34359738368 by unfold Tj;omega),aB (show w.Mail.sz<=34359738368 by simp only[AV.sz];omega),bz]
def bCz {F:(Int×Int×Int->Option Int)->Int×Int×Int->Option Int}(a:∀rec (b n s:Int),0<=n->n<9223372036854775807->F rec (b,n,s)=bif decide (n>0) then rec ((IntKind.i64.wrap (b*b)).tmod 2147483647,n/2,bif n%2==1 then(IntKind.i64.wrap (s*b)).tmod 2147483647 else s) else some s):
  ∀(k:Nat) (b n s:Int) (f:Nat),k<f->0<=n->n<2^k->k<=62->bZ f F (b,n,s)=some (bM0 k b n s)
 |0,b,n,s,f+1,c,h0,h1,hk=>by
  have:n=0:=by simp at h1;omega
  subst this;rw[jR,a _ _ _ _ (by omega) (by omega)];rfl
 |k+1,b,n,s,f+1,c,h0,h1,hk=>by
  have h2:(2:Int)^(k+1)=2*2^k:=by rw[fe];omega
  have d:n<2^62:=Int.lt_of_lt_of_le h1 (by exact_mod_cast ia (by omega) hk);rw[jR,a _ _ _ _ h0 (by omega)];unfold bM0;by_cases hn:n>0
  ·rw[aq hn,ae,cI hn];exact bCz a k _ (n/2) _ f (by omega) (by omega) (by omega) (by omega)
  ·rw[ao hn,aa,dg hn]
def aUf (b n:Int)(h:0<=n/\n<2147483648):uB b n=some (bM0 31 b n 1):=by unfold uB;rw[bCz (λrec b n s h0 h1=>by simp only[show qN .i64 n 1=n%2 from and_one h0 (by omega),show Ik .i64 n 1=n/2 from bKb h0,aT2,gd_T,qF,bd_s,aB (show(0:Int)<=1 by decide)]) 31 b n 1 FUEL (by have:=iK;omega) h.1 (by have:=h.2;omega) (by omega)];rfl
def aXp (b n:Int)(h:0<=n/\n<2147483648)(hb:0<=b/\b<2147483647):jB b n 2147483647=some (bM0 31 b n 1):=by
 unfold jB;rw[show b.tmod 2147483647=b by rw[ce hb.1];omega,show(1:Int).tmod 2147483647=1 by decide,bCz (λrec b n s h0 h1=>by
  have a:((2:Int)≠0)=True:=by simp
  simp only[show n.tmod 2=n%2 from ce h0,show n.tdiv 2=n/2 from fo h0,show IntKind.i64.wrap (n/2)=n/2 from aI (by omega) (by omega),aT2,a,gd_T,qF,bd_s]) 31 b n 1 FUEL (by have:=iK;omega) h.1 (by have:=h.2;omega) (by omega)]
 simp only[aT2,gd_T,bd_s]
def aE1 (q:Int):Fg q=some (gY q):=by
 unfold Fg gY;rw[aUf _ _ (by decide),bKc,show bK q 1 2147483646=bG q from rfl];cases hk:bG q with
 |false=>rfl
 |true=>
  have hr:=gU hk;have b:IntKind.i64.wrap (q*1899818559)=q*1899818559:=aI (by omega) (by omega);simp only[av,aa,bd_s,b,aT2,gd_T,ce (show 0<=q*1899818559 by omega)];have hp:dP (q*1899818559%2147483647)=q:=by
   unfold dP bG bK;have h1:1<=q*1899818559%2147483647:=by omega
   have h2:q*1899818559%2147483647<=2147483646:=by omega
   have a:IntKind.i64.wrap (q*1899818559%2147483647*48271)=q*1899818559%2147483647*48271:=aI (by omega) (by omega);simp only[h1,h2,decide_true,dy,av,aa,a];rw[ce (by omega)];omega
  rw[hp,dz];rfl
def aE2 (q:Int):Gd q=some (gY q):=by
 unfold Gd gY;rw[aXp _ _ (by decide) (by decide),bKc];cases hk:bG q with
 |false=>rfl
 |true=>have hr:=gU hk;have a:IntKind.i64.wrap (q*1899818559)=q*1899818559:=aI (by omega) (by omega);simp only[av,aa,bd_s,a,aT2,gd_T,ce (show 0<=q*1899818559 by omega)]
def aAh (p:Int)(l:List Int)(h:l.length<=34359738300):Bn p l=some (sF p l):=by unfold Bn sF;rw[aB (by simp[aX];omega),aB (by simp;omega)];cases bG p<;>rfl
def aAi (p:Int)(l:List Int)(h:l.length<=34359738300):Cq p l=some (sF p l):=by unfold Cq sF;rw[aB (by unfold uU;simp;omega),bd_s,aB (by simp[oK];omega)];cases bG p<;>simp[oK]
def Pe (q:Int)(l:List Int)(g:Int)(h:l.length<=34359738300):uC q l g=some (iT q l g):=by unfold uC iT;simp only[aB h,bd_s,qF];cases(gY q !=0)<;>rfl
def Pf (q:Int)(l:List Int)(g:Int)(h:l.length<=34359738300):uE q l g=some (iT q l g):=by unfold uE iT;simp only[aB h,bd_s,qF];cases(gY q !=0)<;>rfl
def bA7 (b:AP)(h:b.Open.length<=34359738368){τ:Type}(rec:Nat->Option τ)(r:Option τ)(i:Nat)(hi:i<b.Open.length):(bd (bif (!bK b.Open[i].Id (0:Int) (IntKind.i64.wrap (b.Next-(1:Int)))) then(some (true)) else(bif (decide ((↑i:Int)>(0:Int))) then(bd (bC (b.Open) (IntKind.i64.wrap ((↑i:Int)-(1:Int)))) λa=>bif (decide (a.Id>=b.Open[i].Id)) then(some (true)) else(bif (!bK b.Open[i].aAH (0:Int) (1000005:Int)) then(some (true)) else(some (!bK b.Open[i].Until (0:Int) (1000005:Int))))) else(bif (!bK b.Open[i].aAH (0:Int) (1000005:Int)) then(some (true)) else(some (!bK b.Open[i].Until (0:Int) (1000005:Int)))))) λc=>bif c then r else(rec (i+1)))=bif iU b i b.Open[i] then r else rec (i+1):=by
 unfold iU;by_cases h0:0<i
 ·rw[Ud h0 hi h,bd_s,show decide ((i:Int)>0)=true by simpa using h0,aq h0];cases bK b.Open[i].Id 0 (IntKind.i64.wrap (b.Next-1))<;>cases decide ((b.Open.getD (i-1) default).Id>=b.Open[i].Id)<;>cases bK b.Open[i].aAH 0 1000005<;>cases bK b.Open[i].Until 0 1000005<;>rfl
 ·rw[show decide ((i:Int)>0)=false by simpa using h0,ao h0];cases bK b.Open[i].Id 0 (IntKind.i64.wrap (b.Next-1))<;>cases bK b.Open[i].aAH 0 1000005<;>cases bK b.Open[i].Until 0 1000005<;>rfl
def aAj (b:AP)(h:b.sz<=34359738368):Bq b=some (eU b):=by
 simp only[AP.sz] at h;unfold Bq eU;rw[kG (l:=b.Open) (iU b) (.inl false) (.inr ()) (by omega) (λrec i hi=>by
  simp only[dM hi,ae,aQ hi,bd_s];exact bA7 b h rec _ i hi) (λrec=>by simp only[iD,aa])]
 rw[show decide ((b.Open.length:Int)<=16)=decide (b.Open.length<=16) from dk.2 (by omega)];cases bK b.Next 0 1000000<;>cases decide (b.Open.length<=16)<;>cases gF (iU b) 0 b.Open<;>rfl
def aAk (b:AP)(h:b.sz<=34359738368):Cn b=some (eU b):=by
 simp only[AP.sz] at h;unfold Cn eU;rw[kG (l:=b.Open) (iU b) (.inl false) (.inr ()) (by omega) (λrec i hi=>by
  simp only[dM hi,ae,aQ hi,bd_s];exact bA7 b h rec _ i hi) (λrec=>by simp only[iD,aa])]
 rw[show decide ((b.Open.length:Int)>16)= !decide (b.Open.length<=16) by rw[<-decide_not];exact dk.2 (by omega)];cases bK b.Next 0 1000000<;>cases decide (b.Open.length<=16)<;>cases gF (iU b) 0 b.Open<;>rfl
def bN6 (m:AV)(h:m.Notices.length<=34359738368){τ:Type}(rec:Nat->Option τ)(r:Option τ)(i:Nat)(hi:i<m.Notices.length):(bd (bif (!bK m.Notices[i].Kind (1:Int) (5:Int)) then(some (true)) else(bif (!bK m.Notices[i].aAH (0:Int) (1000000:Int)) then(some (true)) else(bif (!bK m.Notices[i].Time (0:Int) (1000000:Int)) then(some (true)) else(bif (decide ((↑i:Int)>(0:Int))) then(bd (bC (m.Notices) (IntKind.i64.wrap ((↑i:Int)-(1:Int)))) λa=>some (decide (a.Time>m.Notices[i].Time))) else(some (false)))))) λb=>bif b then r else(rec (i+1)))=bif Jn m.Notices i m.Notices[i] then r else rec (i+1):=by
 unfold Jn;by_cases h0:0<i
 ·rw[Ud h0 hi h,bd_s,show decide ((i:Int)>0)=true by simpa using h0,aq h0];cases bK m.Notices[i].Kind 1 5<;>cases bK m.Notices[i].aAH 0 1000000<;>cases bK m.Notices[i].Time 0 1000000<;>cases decide ((m.Notices.getD (i-1) default).Time>m.Notices[i].Time)<;>rfl
 ·rw[show decide ((i:Int)>0)=false by simpa using h0,ao h0];cases bK m.Notices[i].Kind 1 5<;>cases bK m.Notices[i].aAH 0 1000000<;>cases bK m.Notices[i].Time 0 1000000<;>rfl
def Ro (m:AV)(h:m.sz<=34359738368):vC m=some (jZ m):=by
 simp only[AV.sz] at h;unfold vC jZ;rw[kG (l:=m.Notices) (Jn m.Notices) (.inl false) (.inr ()) (by omega) (λrec i hi=>by
  simp only[dM hi,ae,aQ hi,bd_s];exact bN6 m h rec _ i hi) (λrec=>by simp only[iD,aa])]
 rw[show decide ((m.Notices.length:Int)>30)= !decide (m.Notices.length<=30) by rw[<-decide_not];exact dk.2 (by omega)];cases decide (m.Notices.length<=30)<;>cases gF (Jn m.Notices) 0 m.Notices<;>rfl
def aO4 (i:Int):Qb i=some (aA i):=by unfold Qb aA;cases i==0<;>cases i==1<;>rfl
def aO5 (i:Int):Qo i=some (aA i):=by unfold Qo aA;cases i==0<;>cases i==1<;>rfl
def aKm (e:AD):Kc e=some (dF e):=by unfold Kc;rw[aB (by simp)];rfl
def aKn (e:AD):Ky e=some (dF e):=by unfold Ky;rw[aB (by simp)];rfl
def aUg (l:List AD)(h:l.length<=34359738368):Vb l=some (iW l):=by
 unfold Vb iW;cases hl:((l.length:Int)==0) with
 |true=>rfl
 |false=>
  have:l.length≠0:=by intro h0;rw[h0] at hl;simp at hl
  rw[aI (by omega) (by omega),show(l.length:Int)-1=((l.length-1:Nat):Int) by omega,aQ (by omega)];simp[List.getD,ab (show l.length-1<l.length by omega)]
def aUh (l:List AD)(h:l.length<=34359738368):Vz l=some (iW l):=by
 unfold Vz iW;cases hl:((l.length:Int)==0) with
 |true=>rfl
 |false=>
  have:l.length≠0:=by intro h0;rw[h0] at hl;simp at hl
  rw[aI (by omega) (by omega),show(l.length:Int)-1=((l.length-1:Nat):Int) by omega,aQ (by omega)];simp[List.getD,ab (show l.length-1<l.length by omega)]
def aE3 (l:List AD)(p:Int)(h:l.length<=34359738368):Gf l p=some (dW l p):=by
 unfold Gf;rw[kZ (l:=l) (λe=>e.Kind==2&&e.Device==p) (.inl true) (.inr ()) (by omega) (λrec i hi=>by
  simp only[dM hi,ae,aQ hi,bd_s,qF];cases(l[i].Kind==2)<;>rfl) (λrec=>by simp only[iD,aa])]
 unfold dW;cases l.any _<;>rfl
def aUi (l:List AU)(p:Int)(i:Nat)(hi:i<=l.length)(h:l.length<=34359738368){F:(Nat->Option ((Bool⊕PUnit)⊕PUnit))->Nat->Option ((Bool⊕PUnit)⊕PUnit)}(a:∀rec j (b:j<i),F rec j=bif (l[j]'(by omega)).Public==p then some (.inl (.inl false)) else rec (j+1))(c:∀rec,F rec i=some (.inr ())):
  bZ FUEL F 0=some (bif (l.take i).any (λq=>q.Public==p) then .inl (.inl false) else .inr ()):=by
 have ht:(l.take i).length=i:=by simp[*]
 exact kZ (l:=l.take i) (λq=>q.Public==p) _ _ (by omega) (by simp_all) (by simp[*])
def bGa (a:AI)(h:a.Credentials.length<=34359738368)(i:Nat)(hi:i<a.Credentials.length){τ:Type}{X:Option τ}{r:Option τ}{K:Option τ}(hX:X=bif (a.Credentials.take i).any (λq=>q.Public==a.Credentials[i].Public) then r else K):
  (bd (bif (!bK a.Credentials[i].Handle (0:Int) (1000000:Int)) then(some (true)) else(bif (decide ((↑i:Int)>(0:Int))) then(bd (bC (a.Credentials) (IntKind.i64.wrap ((↑i:Int)-(1:Int)))) λb=>bif (decide (b.Handle>=a.Credentials[i].Handle)) then(some (true)) else(bd (some (gY a.Credentials[i].Public)) λc=>bif (c==(0:Int)) then(some (true)) else(some (!bK a.Credentials[i].Counter (0:Int) (1000000:Int))))) else(bd (some (gY a.Credentials[i].Public)) λb=>bif (b==(0:Int)) then(some (true)) else(some (!bK a.Credentials[i].Counter (0:Int) (1000000:Int)))))) λd=>bif d then r else X)=bif wU a i a.Credentials[i] then r else K:=by
 grind[decide,decide_eq_false,bd_s,bK,gY,Ud,decide_eq_true,default,wU]
def Rp (a:AI)(h:a.sz<=34359738368):uW a=some (bA a):=by
 simp only[AI.sz] at h;unfold uW bA;rw[kG (l:=a.Credentials) (wU a) (.inl false) (.inr ()) (by omega) (λrec i hi=>by
  simp only[dM hi,ae,aQ hi,bd_s];rw[aUi a.Credentials a.Credentials[i].Public i (by omega) h (by grind[dM,aQ,bd_s]) (by simp)];have:=bGa a h i hi (X:=nx (some (bif (a.Credentials.take i).any (λq=>q.Public==a.Credentials[i].Public) then Sum.inl (Sum.inl false) else Sum.inr PUnit.unit)) λ_=>rec (i+1)) (r:=some (.inl false)) (K:=rec (i+1)) (by cases(a.Credentials.take i).any _<;>rfl);rw[<-this];simp only[bd_s];generalize(bif !bK a.Credentials[i].Handle 0 1000000 then _ else _:Option Bool)=q;cases q with
  |none=>rfl
  |some b=>cases b<;>rfl) (by simp)]
 rw[show decide ((a.Credentials.length:Int)<=8)=decide (a.Credentials.length<=8) from dk.2 (by omega)];cases bK a.Id 0 1000000<;>cases bK a.Minimum 1 3<;>cases decide (a.Credentials.length<=8)<;>cases gF (wU a) 0 a.Credentials<;>rfl
def Rq (a:AI)(h:a.sz<=34359738368):vB a=some (bA a):=by
 simp only[AI.sz] at h;unfold vB bA;rw[kG (l:=a.Credentials) (wU a) (.inl false) (.inr ()) (by omega) (λrec i hi=>by
  have ht:(a.Credentials.take i).length=i:=by grind
  simp only[dM hi,ae,aQ hi,bd_s,aQ0];rw[aB (by grind[jP])];rw[aUi a.Credentials a.Credentials[i].Public i (by omega) h (by grind[dM,aQ,bd_s]) (by simp[*])];have:=bGa a h i hi (X:=nx (some (bif (a.Credentials.take i).any (λq=>q.Public==a.Credentials[i].Public) then Sum.inl (Sum.inl false) else Sum.inr PUnit.unit)) λ_=>rec (i+1)) (r:=some (.inl false)) (K:=rec (i+1)) (by cases(a.Credentials.take i).any _<;>rfl);rw[<-this];simp only[bd_s];generalize(bif !bK a.Credentials[i].Handle 0 1000000 then _ else _:Option Bool)=q;cases q with
  |none=>rfl
  |some b=>cases b<;>rfl) (by simp)]
 rw[show decide ((a.Credentials.length:Int)>8)= !decide (a.Credentials.length<=8) by rw[<-decide_not];exact dk.2 (by omega)];cases bK a.Id 0 1000000<;>cases bK a.Minimum 1 3<;>cases decide (a.Credentials.length<=8)<;>cases gF (wU a) 0 a.Credentials<;>rfl
def wI (s:ByteArray)(hs:s.size<=34359738368):∀(n f i st:Nat) (acc:List ByteArray),s.size-i=n->n+1<f->st<=i->i<=s.size->acc.length<=i->bZ f (λc (b:(List ByteArray×Int×Int))=>bif (decide (b.2.2<=(↑s.size:Int))) then(bd (bd (bif (b.2.2==(↑s.size:Int)) then(some (true)) else(bd (bC (bY s) (b.2.2)) λk=>some (k==(46:Int)))) λm=>bif m then(gd (Ay s b.2.1 b.2.2) (gd (aX b.1 [s.extract b.2.1.toNat b.2.2.toNat]) (some ((b.1++[s.extract b.2.1.toNat b.2.2.toNat],IntKind.i64.wrap (b.2.2+(1:Int))))))) else(some (b.1,b.2.1))) λ(h:List ByteArray×Int)=>c ((h.1,h.2,IntKind.i64.wrap (b.2.2+(1:Int))))) else(some (b.1))) (acc,(st:Int),(i:Int))=some (acc++(kR ((s.data.toList.drop st).take (i-st)) (s.data.toList.drop i)).map λl=>(⟨l.toArray⟩:ByteArray))
 |n,f+1,i,st,acc,hn,t,h1,h2,u=>by
  rw[jR];have e0:decide ((i:Int)<=(s.size:Int))=true:=by simpa using(show(i:Int)<=(s.size:Int) by omega)
  have es:Ay s (st:Int) (i:Int):=⟨by omega,by omega,by omega⟩;have j:aX acc ([s.extract (st:Int).toNat (i:Int).toNat]:List ByteArray):=by unfold aX;simp;omega
  have d:IntKind.i64.wrap ((i:Int)+1)=((i+1:Nat):Int):=by rw[aI (by omega) (by omega)];omega
  simp only[e0,ae];rcases eW i s.size with a|o
  ·have e:((i:Int)==(s.size:Int))=false:=by simp;omega
   have hd:s.data.toList.drop i=s.data.toList[i]'a::s.data.toList.drop (i+1):=(cC a);have hb:(bY s)[i]'(by rw[kS];exact a)=((s.data.toList[i]'a).toNat:Int):=by simp[bY]
   have hq:(((s.data.toList[i]'a).toNat:Int)==46)=(s.data.toList[i]'a==46):=by
    rw[fh];simp only[cY];constructor
    ·intro q;apply UInt8.toNat_inj.1;show _=46;omega
    ·intro q;rw[q];rfl
   rw[e,aa,bEt a,bd_s,bd_s,hb,hq,hd,kR];cases hc:(s.data.toList[i]'a==46) with
   |true=>rw[ae,aB es,aB j,bd_s];dsimp only;rw[d,ae,wI s hs (n-1) f (i+1) (i+1) _ (by omega) (by omega) (aj _) (by omega) (by simp;omega),bo,bo,ext_list];simp
   |false=>
    rw[aa,bd_s];dsimp only;rw[d,aa,wI s hs (n-1) f (i+1) st _ (by omega) (by omega) (by omega) (by omega) (by omega)];have:(s.data.toList.drop st).take (i+1-st)=(s.data.toList.drop st).take (i-st)++[s.data.toList[i]'a]:=by rw[show i+1-st=(i-st)+1 by omega,dT,fc,show st+(i-st)=i by omega,ab a];rfl
    rw[this]
  ·have e:((i:Int)==(s.size:Int))=true:=by simp;omega
   obtain⟨f,rfl⟩:∃g,f=g+1:=⟨f-1,by omega⟩;have p:s.data.toList.length<=i:=by have:s.data.toList.length=s.size:=rfl;omega
   have r:decide (((i+1:Nat):Int)<=(s.size:Int))=false:=by simp;omega
   rw[e,ae,bd_s,ae,aB es,aB j,bd_s,jR];dsimp only;rw[d];simp only[r,aa];rw[gf p,kR,bo,bo,ext_list];rfl
def aO6 (s:ByteArray)(h:s.size<=34359738368):Qc s=some (bO s):=by
 unfold Qc;have a:=iK;have:=wI s h s.size FUEL 0 0 [] rfl (by omega) (aj _) (cy _) (aj _)
 grind[bO,bd,trans]
def aUj (s:ByteArray)(h:s.size<=34359738368):Vi s=some (xE s):=by
 unfold Vi xE;have hb:=kS s;rw[kZ (l:=bY s) (λb=> !aD5 b) (.inl false) (.inr ()) (by omega) (by grind[dM,bEt,bd_s,bY,aD5,bK,decide]) (by simp[*])];have e:bK (s.size:Int) 1 20=(decide (1<=s.size)&&decide (s.size<=20)):=by unfold bK;congr 1<;>exact dk.2 (by omega)
 rw[e];by_cases h0:0<s.size
 ·rw[show(0:Int)=((0:Nat):Int) from rfl,bEt h0,aI (by omega) (by omega),show(s.size:Int)-1=((s.size-1:Nat):Int) by omega,bEt (by omega)];simp only[bd_s,bne,List.getD,ab (show 0<(bY s).length by rw[kS];exact h0),ab (show s.size-1<(bY s).length by rw[kS];omega),ci];cases((bY s)[0]'_==45)<;>cases((bY s)[s.size-1]'_==45)<;>cases decide (1<=s.size)<;>cases decide (s.size<=20)<;>cases(bY s).any _<;>rfl
 simp_all
def aXq (s:ByteArray)(h:s.size<=34359738368):Q4 s=some (iX s):=by
 unfold Q4 iX;have hl:=Uf s;simp only[aB h,bd_s];rw[kZ (l:=bO s) (λl=> !xE l) (.inl false) (.inr ()) (by omega) (λrec i hi=>by
  have a:(bO s)[i].size<=34359738368:=bw (Ac s _ (cj _)) h
  grind[dM,aQ,bd_s,aB]) (by simp)]
 have e':decide ((s.size:Int)<=60)=decide (s.size<=60):=dk.2 (by omega);rw[e'];cases decide (s.size<=60)<;>cases(bO s).any _<;>rfl
def aXr (s:ByteArray):R4 s=some (iX s):=by
 unfold R4 iX;by_cases a:s.size<=60
 ·have hl:=Uf s;rw[show decide ((s.size:Int)>60)=false from ao (by omega),aa,aB (show s.size<4294967281/\1<=(⟨#[UInt8.ofNat 46]⟩:ByteArray).size from⟨by omega,aj _⟩),bd_s];have es:mH s ⟨#[UInt8.ofNat 46]⟩=bO s:=aSm s;rw[es];rw[kZ (l:=bO s) (λl=> !xE l) (.inl false) (.inr ()) (by omega) (λrec i hi=>by
   have c:(bO s)[i].size<=60:=bw (Ac s _ (cj _)) a;simp only[dM hi,ae,aQ hi,bd_s]
   revert c
   generalize(bO s)[i]=l;intro c;have hb:=kS l;rw[kZ (l:=bY l) (λb=> !aD5 b) (.inl (.inl false)) (.inr ()) (by omega) (by grind[dM,bEt,bd_s,bY,aD5,bK,decide]) (by simp[*])];unfold xE;by_cases h0:0<l.size
   ·rw[show(0:Int)=((0:Nat):Int) from rfl,bEt h0,aI (by omega) (by omega),show(l.size:Int)-1=((l.size-1:Nat):Int) by omega,bEt (by omega)];have d:decide ((l.size:Int)<1)= !decide (1<=l.size):=by grind
    have e:decide ((l.size:Int)>20)= !decide (l.size<=20):=by grind
    rw[d,e];simp only[bd_s,bne,List.getD,ab (show 0<(bY l).length by rw[kS];exact h0),ab (show l.size-1<(bY l).length by rw[kS];omega),ci];cases((bY l)[0]'_==45)<;>cases((bY l)[l.size-1]'_==45)<;>cases decide (1<=l.size)<;>cases decide (l.size<=20)<;>cases(bY l).any _<;>rfl
   simp_all) (by simp)]
  rw[show decide (s.size<=60)=true by simpa using a];cases(bO s).any _<;>rfl
 grind
def aAl (s:ByteArray):Ck s=some (bM1 s):=by
 unfold Ck bM1;cases h:iX s with
 |false=>rfl
 |true=>
  have hs:=Ug h;have hp:=aNp s;have es:mH s ⟨#[UInt8.ofNat 46]⟩=bO s:=aSm s;rw[av,aa,ae,aB (show s.size<4294967281/\1<=(⟨#[UInt8.ofNat 46]⟩:ByteArray).size from⟨by omega,aj _⟩),bd_s,es];rw[show(((bO s).length:Int)==1)=((bO s).length==1) by rw[fh];simp only[cY];omega];cases h1:(bO s).length==1 with
  |true=>rfl
  |false=>
   have h2:(bO s).length≠1:=by simp_all
   have hl:=Uf s;obtain⟨a,c,b,hb,e⟩:=bVv (l:=bO s) (by omega);have c:=Ac s a c;have hb:=Ac s b hb;rw[aa,aa,aI (by omega) (by omega),show((bO s).length:Int)-2=(((bO s).length-2:Nat):Int) by omega,bo];have hd:((bO s).drop ((bO s).length-2)).length=2:=by grind
   have d:(rZ ⟨#[UInt8.ofNat 46]⟩ ((bO s).drop ((bO s).length-2))).size<=140737488355328:=by have e:rZ ⟨#[UInt8.ofNat 46]⟩ ((bO s).drop ((bO s).length-2))=_:=e;rw[e,ByteArray.size_append,ByteArray.size_append];have:(⟨#[46]⟩:ByteArray).size=1:=rfl;omega
   simp_all[aB,jP,bO]
def aXs (s:ByteArray)(h:s.size<=9223372036854775807):R5 s=some (Zm s):=by unfold R5 Zm;have hb:=kS s;rw[kZ (l:=bY s) (λb=>b==46) (.inl true) (.inr ()) (by omega) (by grind[dM,bEt,bd_s]) (by simp[*])];cases(bY s).any _<;>rfl
def aAm (n:ByteArray)(seed:Int)(h:n.size<=9223372036854775807):Cm n seed=some (lC n seed):=by
 grind[iX,bT6,decide,bO,bG,bZ1,aXb,aB,bd_s,Cm,lC]
def aUk (n:ByteArray)(seed:Int)(h:n.size<=34359738368):Vj n seed=some (gZ n seed):=by
 unfold Vj gZ lC;have e:decide (((bO n).length:Int)<2)= !decide (2<=(bO n).length):=by grind
 simp only[aB h,bd_s,e];cases iX n<;>cases decide (2<=(bO n).length)<;>cases bG seed<;>rfl
def aAn (s:AB)(h:s.sz<=34359738368):Bt s=some (bW s):=by
 simp only[AB.sz] at h;unfold Bt bW;rw[kG (l:=s.Accounts) (Ol s.Accounts) (.inl false) (.inr ()) (by omega) (by grind[nD,AI.sz,dM,aQ,bd_s,aB,Ol,Ud,decide,decide_eq_true,bA,default,decide_eq_false]) (by simp)];rw[show decide ((s.Accounts.length:Int)<=8)=decide (s.Accounts.length<=8) from dk.2 (by omega)];have a:(!((gZ s.Name s.Book.Seed).Name.toList==(⟨#[]⟩:ByteArray).toList))=lC s.Name s.Book.Seed:=by rw[bZ1,bHv,Bool.not_not]
 simp only[aB (show s.Name.size<=34359738368 by omega),aB (show s.Book.sz<=34359738368 by simp only[AP.sz];omega),bd_s,a];cases lC s.Name s.Book.Seed<;>cases decide (s.Accounts.length<=8)<;>cases eU s.Book<;>cases gF (Ol s.Accounts) 0 s.Accounts<;>rfl
def aAo (s:AB)(h:s.sz<=34359738368):Co s=some (bW s):=by simp only[AB.sz] at h;unfold Co bW;rw[kG (l:=s.Accounts) (Ol s.Accounts) (.inl false) (.inr ()) (by omega) (by grind[nD,AI.sz,dM,aQ,bd_s,aB,Ol,Ud,decide,decide_eq_true,bA,default,decide_eq_false]) (by simp)];rw[show decide ((s.Accounts.length:Int)>8)= !decide (s.Accounts.length<=8) by rw[<-decide_not];exact dk.2 (by omega)];simp only[aB (show s.Name.size<=9223372036854775807 by omega),aB (show s.Book.sz<=34359738368 by simp only[AP.sz];omega),bd_s];cases lC s.Name s.Book.Seed<;>cases decide (s.Accounts.length<=8)<;>cases eU s.Book<;>cases gF (Ol s.Accounts) 0 s.Accounts<;>rfl
def aUl (l:List AD)(e:AD)(h:l.length<=34359738368):Ve l e=some (lM l e):=by unfold Ve lM;have hd:=gG l;rw[kZ (l:=l) (λq=>q.Kind==2&&q.Device==e.Device) (.inl false) (.inr ()) (by omega) (by grind[dM,aQ,bd_s]) (by simp)];rw[show(l.any λq=>q.Kind==2&&q.Device==e.Device)=dW l e.Device from rfl];simp only[aB h,aB (show(aC l).length<=1099511627776 by omega),aB (show([dF e]:List Int).length<=34359738300 by simp),bd_s,bne];cases(e.Index==(l.length:Int))<;>cases(e.Previous==iW l)<;>cases jG (aC l) e.By<;>cases((l.length:Int)==0)<;>cases(e.By==e.Device)<;>cases iT e.By [dF e] e.Signature<;>cases(e.Kind==2)<;>cases jG (aC l) e.Device<;>cases dW l e.Device<;>cases(e.Kind==1)<;>rfl
def aKo (l:List AD)(h:l.length<=34359738368):Kg l=some (aT l):=by unfold Kg aT;rw[kG (l:=l) (λi e=> !lM (l.take i) e) (.inl false) (.inr ()) (by omega) (by grind[dM,aQ,bd_s,aQ0,aB,jP,List.length_take]) (by simp)];cases gF (λi e=> !lM (l.take i) e) 0 l<;>simp
def aKp (l:List AD)(h:l.length<=34359738368):Lb l=some (aT l):=by
 unfold Lb aT;rw[kG (l:=l) (λi e=> !lM (l.take i) e) (.inl false) (.inr ()) (by omega) (λrec i hi=>by
  have ht:(l.take i).length=i:=by grind
  have hb:(l.take i).length<=34359738368:=by omega
  have hd:=gG (l.take i);simp only[dM hi,ae,aQ hi,bd_s,aQ0,aB (show jP l (i:Int) by unfold jP;omega),aB hb,aB (show(aC (l.take i)).length<=1099511627776 by omega),aB (show([dF l[i]]:List Int).length<=34359738300 by simp)];unfold lM;rw[ht];generalize l[i]=e;have h1:decide (((aC (l.take i)).length:Int)>=6)= !decide (((aC (l.take i)).length:Int)<6):=by grind
  have h2:jG (aC (l.take i)) e.Device=true->decide (((aC (l.take i)).length:Int)>1)= !(((aC (l.take i)).length:Int)==1):=(by grind[bQm,Bool.decide_eq_true,aC,decide_not]);simp only[h1,bne];cases d:(e.Kind==2) with
  |true=>
   have a:(e.Kind==1)=false:=by simp_all
   rw[a];cases hd:jG (aC (l.take i)) e.Device with
   |true=>rw[h2 hd];cases(e.Index==(i:Int))<;>cases(e.Previous==iW (l.take i))<;>cases jG (aC (l.take i)) e.By<;>cases((i:Int)==0)<;>cases(e.By==e.Device)<;>cases iT e.By [dF e] e.Signature<;>cases(((aC (l.take i)).length:Int)==1)<;>rfl
   |false=>cases(e.Index==(i:Int))<;>cases(e.Previous==iW (l.take i))<;>cases jG (aC (l.take i)) e.By<;>cases((i:Int)==0)<;>cases(e.By==e.Device)<;>cases iT e.By [dF e] e.Signature<;>rfl
  |false=>
   cases(e.Kind==1) with
   |true=>cases(e.Index==(i:Int))<;>cases(e.Previous==iW (l.take i))<;>cases jG (aC (l.take i)) e.By<;>cases((i:Int)==0)<;>cases(e.By==e.Device)<;>cases iT e.By [dF e] e.Signature<;>cases jG (aC (l.take i)) e.Device<;>cases dW (l.take i) e.Device<;>cases decide (((aC (l.take i)).length:Int)<6)<;>rfl
   |false=>cases(e.Index==(i:Int))<;>cases(e.Previous==iW (l.take i))<;>cases jG (aC (l.take i)) e.By<;>cases((i:Int)==0)<;>cases(e.By==e.Device)<;>cases iT e.By [dF e] e.Signature<;>cases dW (l.take i) e.Device<;>rfl) (by simp)]
 unfold bK;have b:decide ((l.length:Int)<1)= !decide (1<=(l.length:Int)):=by grind
 have c:decide ((l.length:Int)>40)= !decide ((l.length:Int)<=40):=by grind
 rw[b,c];cases decide (1<=(l.length:Int))<;>cases decide ((l.length:Int)<=40)<;>cases gF (λi e=> !lM (l.take i) e) 0 l<;>rfl
def C8 (w:AA)(h:w.sz<=34359738368):zC w=some (aP w):=by simp only[AA.sz] at h;unfold zC aP;rw[kG (l:=w.Sites) tO (.inl false) (.inr ()) (by omega) (by grind[nD,AB.sz,dM,aQ,bd_s,aB,tO,bW,aA]) (by simp)];simp only[aB (show w.Mail.sz<=34359738368 by simp only[AV.sz];omega),aB (show w.aAD.Log.length<=34359738368 by omega),bne,bd_s];cases gF tO 0 w.Sites<;>cases bK w.Now 0 999900<;>cases bK (w.Devices.length:Int) 1 6<;>cases((w.Stolen.length:Int)==(w.Devices.length:Int))<;>cases((w.Sites.length:Int)==2)<;>cases jZ w.Mail<;>cases aT w.aAD.Log<;>cases bG w.Seed<;>rfl
def bU0 (h:AG)(b:Int)(a:h.Saved.length<=34359738368)(h0:0<=b/\b<(h.Saved.length:Int)):bC h.Saved (IntKind.i64.wrap (IntKind.i64.wrap ((h.Saved.length:Int)-1)-b))=some (h.Saved.getD (h.Saved.length-1-b.toNat) default):=by rw[aI (n:=(h.Saved.length:Int)-1) (by omega) (by omega),aI (by omega) (by omega),tV (by omega) (by omega)];congr 2;omega
def C9 (h:AG)(b:Int)(a:h.sz<=34359738368):zR h b=some (gJ h b):=by
 have hq:=a;simp only[AG.sz] at hq;unfold zR gJ;rw[aB a,bd_s,sH,bd_s];cases e:(decide (b<0)||decide (b>=(h.Saved.length:Int))) with
 |true=>rfl
 |false=>rw[bU0 h b hq (Uj e)];rfl
def Wq (w:AA)(i b:Int)(h:w.sz<=34359738368):xZ w i b=some (fO w i b):=by
 have c:=h;simp only[AA.sz] at c;unfold xZ fO;rw[aB h,bd_s,aB h,bd_s,sH,sH,bd_s];cases e:(!aP w||(decide (i<0)||decide (i>=(w.Hosts.length:Int)))) with
 |true=>rfl
 |false=>
  have a:=Uj (bc.1 e).2;have hi:i.toNat<w.Hosts.length:=by omega
  have hs:=nD (f:=AG.sz) hi;have hg:w.Hosts.getD i.toNat default=w.Hosts[i.toNat]:=by simp[List.getD,ab hi]
  rw[aa,aa,tV a.1 a.2,bd_s,hg,aB (by omega),bd_s,bd_s];cases hr:(gJ w.Hosts[i.toNat] b).2<;>rfl
def aKq (l:List AS):Ls l=some (o8 l):=by
 unfold Ls o8;cases hr:bK (l.length:Int) 1 7 with
 |false=>rfl
 |true=>
  have hlen:l.length<=7:=by have:=gU hr;omega
  rw[av,aa,cq];rw[X3 (s:=((0:Nat),false,false,false,false,false,false,false,false)) (λi s=>i<=l.length/\s=(i,cS l i 0,cS l i 1,cS l i 2,cS l i 3,cS l i 4,cS l i 5,cS l i 6,cS l i 7)/\∀(j:Nat) (b:j<l.length),j<i->Om l j l[j]=false) l.length (some (bif gF (Om l) 0 l then .inl false else .inr ())) (by omega) ⟨by omega,by simp[cS],λj _ h=>by omega⟩ (λi s rec hi hv=> ?_) (λs rec hv=> ?_)]
  ·cases gF (Om l) 0 l<;>rfl
  ·obtain⟨_,rfl,c⟩:=hv;have a:Om l i l[i]=true->gF (Om l) 0 l=true:=λh=>(tT l 0).2 ⟨i,hi,by rw[ck];exact h⟩;have d:Om l i l[i]=false->∀(j:Nat) (b:j<l.length),j<i+1->Om l j l[j]=false:=λh j b m=>by
    rcases eW j i with f|f
    ·exact c j b f
    ·have:j=i:=by omega
     subst this;exact h
   simp only[dM hi,ae,aQ hi,bd_s];cases h1:bK l[i].Index 1 7 with
   |false=>exact .inr (by rw[a (by unfold Om;rw[h1];rfl)];rfl)
   |true=>
    cases h2:bK l[i].Value 0 1018 with
    |false=>exact .inr (by rw[a (by unfold Om;rw[h1,h2];rfl)];rfl)
    |true=>
     have hk:=gU h1;have hc:Om l i l[i]=cS l i l[i].Index:=by unfold Om cS;rw[h1,h2];rfl
     have go:∀n:Int,l[i].Index=n->(cS l i n=true/\gF (Om l) 0 l=true)\/(cS l i n=false/\∀(j:Nat) (b:j<l.length),j<i+1->Om l j l[j]=false):=λn e=>by
      cases hb:cS l i n with
      |true=>exact .inl ⟨rfl,a (by rw[hc,e];exact hb)⟩
      |false=>exact .inr ⟨rfl,d (by rw[hc,e];exact hb)⟩
     have hs:=λk=>cBx (l:=l) (k:=k) hi;simp only[hs];obtain e|e|e|e|e|e|e:l[i].Index=1\/l[i].Index=2\/l[i].Index=3\/l[i].Index=4\/l[i].Index=5\/l[i].Index=6\/l[i].Index=7:=by omega
     all_goals
      rcases go _ e with⟨hb,g⟩|⟨hb,g⟩
      ·exact .inr (by rw[e,g,hb];rfl)
      ·refine .inl ⟨_,⟨by omega,rfl,g⟩,?_⟩;rw[e,hb];simp
  ·obtain⟨_,rfl,c⟩:=hv;have:gF (Om l) 0 l=false:=by
    cases h:gF (Om l) 0 l with
    |false=>rfl
    |true=>obtain⟨i,hi,hp⟩:=(tT l 0).1 h;rw[ck,c i hi hi] at hp;cases hp
   simp only[iD,aa,this]
def bC0 (a:Int):bCw a=some (fD a 1019):=rfl
def bU1:((1019:Int)≠0)=True:=by simp
def aXt (c:Int)(l:List Int)(x:Int)(h:0<=x/\x<=1000/\l.length<=34359738368):Q6 c l x=some (Eu c l x):=by
 obtain⟨h1,h2,a⟩:=h;have hr:=Y1 ⟨h1,h2⟩ l;have hm:=oW (p:=c) (q:=1019) (by omega);unfold Q6 Eu;rw[bEy (l:=l) (aNr x) some (by omega) (λrec s i hi=>by
  simp only[show decide ((i:Int)>=0)=true from aq (by omega),ae,aQ hi,bd_s,bU1,gd_T,aI (show-9223372036854775808<=(i:Int)-1 by omega) (by omega)];rfl) (λrec s=>rfl) (aI (by omega) (by omega))]
 simp only[bd_s,bU1,gd_T];rw[aI (by omega) (by omega),ce (by omega)]
def aE4 (c:Int)(l:List Int)(x:Int)(h:0<=x/\x<=1000/\l.length<=34359738368):Hf c l x=some (Eu c l x):=by
 obtain⟨h1,h2,a⟩:=h;have hr:=Y1 ⟨h1,h2⟩ l;have hm:=oW (p:=c) (q:=1019) (by omega);unfold Hf Eu;rw[bEy (l:=l) (aNr x) some (by omega) (λrec s i hi=>by
  simp only[show decide ((i:Int)>=0)=true from aq (by omega),ae,aQ hi,bd_s,bU1,gd_T,aI (show-9223372036854775808<=(i:Int)-1 by omega) (by omega)];rfl) (λrec s=>rfl) (aI (by omega) (by omega))]
 simp only[bd_s];rw[aI (by omega) (by omega),fD,cI (by omega)]
def bN7 {l:List AS}(h:o8 l=true){i:Nat}(hi:i<l.length):1<=l[i].Index/\l[i].Index<=7:=by
 unfold o8 at h;rw[ac,bu] at h;have hb:Om l i l[i]=false:=by
  cases hc:Om l i l[i] with
  |false=>rfl
  |true=>rw[(tT l 0).2 ⟨i,hi,by rw[ck];exact hc⟩] at h;exact absurd h.2 (by simp)
 unfold Om at hb;rw[bc,cH] at hb;exact gU hb.1
def Ws (l:List AS)(c:List Int)(h:l.length<=34359738368/\c.length<=34359738368):xY l c=some (lN l c):=by
 unfold xY lN;cases a:o8 l with
 |false=>rfl
 |true=>
  rw[av,aa,bYd (l:=l) (bQp c) (by omega) (λrec i s hi hs=>by
   have:=bN7 a hi;simp only[dM hi,ae,aQ hi,bd_s,aB (show 0<=l[i].Index/\l[i].Index<=1000/\c.length<=34359738368 by omega),bU1,gd_T,gI hs];rfl) (λrec s=>by simp only[iD,aa])]
  rfl
def aO7 (l:List AG)(h:l.length<=34359738368):Qy l=some (l.map λh=>h.State.aAQ):=by unfold Qy;rw[bYd (l:=l) (λh:AG=>h.State.aAQ) (by omega) (λrec i s hi hs=>by simp only[dM hi,ae,aQ hi,bd_s,gI hs]) (λrec s=>by simp only[iD,aa])];rfl
def aUm (k:A0):aTx k=some (kQ k):=rfl
def aO8 (k:A0):aOx k=some (kQ k):=rfl
def Wt (k:A0):xW k=some (kK k):=by unfold xW kK;cases o8 [k.aAQ]<;>cases bK k.Epoch 0 1000000<;>cases bK k.Limit 1 10<;>rfl
def D5 (h:AG)(s:AS)(a:h.sz<=34359738368):zQ h s=some (aSs h s):=by unfold zQ aSs jV;simp only[aB a,bd_s];cases kK h.State<;>cases decide (kQ h.State<h.Monotonic)<;>cases(h.State.Epoch==1000000)<;>cases(s.Index !=h.State.aAQ.Index)<;>cases o8 [s]<;>rfl
def bIu (hs:List AG)(a:List AS)(hl:a.length=hs.length)(t:hs.length<=34359738368){F:(List AG×Nat->Option (List AG×Bool⊕List AG))->List AG×Nat->Option (List AG×Bool⊕List AG)}
  (m:∀rec i s (hi:i<hs.length) (d:i<a.length),s.length<=34359738368->F rec (s,i)=bif jV hs[i] a[i] then some (.inl (hs,false)) else rec (s++[rO hs[i] a[i]],i+1)) (o:∀rec s,F rec (s,hs.length)=some (.inr s)):
  nx (bZ FUEL F ([],0)) (λz=>some (z,true))=some (bif (hs.zip a).any (λp=>jV p.1 p.2) then(hs,false) else(List.zipWith rO hs a,true)):=by
 have hb:∀i (hi:i<hs.length),jV hs[i] (a[i]'(by omega))=true->(hs.zip a).any (λp=>jV p.1 p.2)=true:=λi hi h=>by
  refine eN.2 ⟨(hs[i],a[i]'(by omega)),?_,h⟩;have:=cj (l:=hs.zip a) (n:=i) (by simp;omega);rwa [List.getElem_zip] at this
 have ht:∀i (hi:i<hs.length),List.zipWith rO (hs.take (i+1)) (a.take (i+1))=List.zipWith rO (hs.take i) (a.take i)++[rO (hs[i]'(by omega)) (a[i]'(by omega))]:=λi hi=>by
  rw[dT,dT,ab hi,ab (show i<a.length by omega)];simp only[e9];rw[List.zipWith_append (by simp;omega)];rfl
 have key:=X3 (F:=F) (s:=([],0)) (λi s=>i<=hs.length/\s=(List.zipWith rO (hs.take i) (a.take i),i)/\∀j (d:j<hs.length),j<i->jV hs[j] (a[j]'(by omega))=false) hs.length (some (bif (hs.zip a).any (λp=>jV p.1 p.2) then .inl (hs,false) else .inr (List.zipWith rO hs a))) (by omega) ⟨by omega,by simp,λj _ h=>by omega⟩ (λi s rec hi hv=> ?_) (λs rec hv=> ?_)
 ·rw[key];cases(hs.zip a).any _<;>rfl
 ·obtain⟨_,rfl,f⟩:=hv;rw[m rec i _ hi (by omega) (by simp;omega)];cases hc:jV hs[i] (a[i]'(by omega)) with
  |true=>exact .inr (by rw[hb i hi hc];rfl)
  |false=>
   refine .inl ⟨_,⟨hi,by rw[ht i hi],λj d q=> ?_⟩,rfl⟩;rcases eW j i with k|k
   ·exact f j d k
   ·have:j=i:=by omega
    subst this;exact hc
 ·obtain⟨_,rfl,f⟩:=hv;have hn:(hs.zip a).any (λp=>jV p.1 p.2)=false:=by
   cases h:(hs.zip a).any (λp=>jV p.1 p.2) with
   |false=>rfl
   |true=>
    obtain⟨x,r,b⟩:=eN.1 h;obtain⟨i,hi,e⟩:=im r;rw[List.getElem_zip] at e;have c:i<hs.length:=by simp at hi;omega
    rw[<-e] at b;simp only at b;rw[f i c c] at b;cases b
  rw[o,hn,de,<-hl,de];rfl
def aE5 (hs:List AG)(c:List Int)(h:Tj AG.sz hs<=34359738368/\c.length<=34359738368):Hg hs c=some (fC hs c):=by
 obtain⟨h1,h2⟩:=h;have h0:hs.length<=34359738368:=by unfold Tj at h1;omega
 have hr:=bEz (hs.map λh=>h.State.aAQ) c;unfold Hg fC bCh;rw[aB h0,bd_s,aB ⟨by simpa using h0,h2⟩,bd_s,aB h1];cases he:((lN (hs.map λh=>h.State.aAQ) c).length:Int)==0 with
 |true=>rfl
 |false=>
  have hl:=bE0 (l:=hs.map λh=>h.State.aAQ) (c:=c) (by simpa using he);rw[bj] at hl;rw[aa,cF,bIu hs _ hl h0 (λrec i s hi b a=>by
   have d:=nD (f:=AG.sz) hi;unfold Tj at h1;simp only[dM hi,ae,aQ hi,aQ b,bd_s,aB (show hs[i].sz<=34359738368 by omega),gI a];unfold aSs;cases jV hs[i] (lN (hs.map λh=>h.State.aAQ) c)[i]<;>rfl) (λrec s=>by simp only[iD,aa])]
def bA8 (w:AA){F:(List Int×Int->Option (List Int))->List Int×Int->Option (List Int)}
  (a:∀rec (s:List Int) (k:Int),s.length<=100->0<=k->k<=100->F rec (s,k)=bif decide (k<w.aAL.Threshold)&&decide (k<=7) then rec (s++[aW w.Seed [317,w.Now,k]],k+1) else some s):
  ∀(n f:Nat) (k:Int) (s:List Int),n<f->k=9-(n:Int)->n<=8->s.length<=100-n->bZ f F (s,k)=some (s++aNs w n k)
 |0,f+1,k,s,b,hk,_,hs=>by
  rw[jR,a _ _ _ (by omega) (by omega) (by omega),show decide (k<=7)=false from ao (by omega),cP,aa];unfold aNs;simp
 |n+1,f+1,k,s,b,hk,hn,hs=>by
  rw[jR,a _ _ _ (by omega) (by omega) (by omega)];unfold aNs;cases(decide (k<w.aAL.Threshold)&&decide (k<=7)) with
  |true=>rw[ae,ae,bA8 w a n f _ _ (by omega) (by omega) (by omega) (by simp;omega)];simp
  |false=>simp
def aE6 (w:AA)(h:w.sz<=34359738368):Hl w=some (dX w):=by
 have a:=h;simp only[AA.sz] at a;have hc:=bAf w 8 1;unfold Hl dX;rw[aB h,bd_s,aB h,bd_s,bA8 w (λrec s k h1 h2 b=>by
  rw[aB (by simp),bd_s,gI (s:=s) (by omega),aI (by omega) (by omega),bYe,bd_s]) 8 FUEL 1 [] (by have:=iK;omega) rfl (by omega) (by simp),bd_s,bz,aB ⟨by unfold Tj;omega,by omega⟩,bd_s]
 unfold O8;cases aP w<;>cases(fC w.Hosts (aNs w 8 1)).2<;>rfl
def aAp (b:List Int)(h:b.length<=34359738360):Bp b=some (Be b):=by unfold Bp Be;rw[bVx (l:=b) IntKind.i64.wrap (by simp;omega) (λrec i s hi hs=>by simp only[dM hi,ae,aQ hi,bd_s,gI hs]) (λrec s=>by simp only[iD,aa])];rfl
def aAq (b:List Int)(h:b.length<=34359738360):Ct b=some (Be b):=by unfold Ct Be;rw[bVx (l:=b) IntKind.i64.wrap (by simp;omega) (λrec i s hi hs=>by simp only[dM hi,ae,aQ hi,bd_s,gI hs]) (λrec s=>by simp only[iD,aa])];rfl
def Mc (k:Int)(s:ByteArray)(h:s.size<=34359738300):sP k s=some (pI k s):=by have hb:=kS s;unfold sP pI;rw[aQ1,aB (by omega),bd_s,aB (by rw[bKj];omega),bd_s,bEp (nE _ _).1]
def Md (k:Int)(s:ByteArray)(h:s.size<=34359738300):sU k s=some (pI k s):=by have hb:=kS s;unfold sU pI;rw[aQ1,aB (by omega),bd_s,aB (by rw[bKj];omega),bd_s]
def aO9 (s:ByteArray)(h:s.size<=34359738300):Qd s=some (bB s):=by unfold Qd;rw[aB h];rfl
def aPa (s:ByteArray)(h:s.size<=34359738300):Qr s=some (bB s):=by unfold Qr;rw[aB h];rfl
def aKr (b:AC)(s h:Int)(a:b.sz<=34359738368):Lm b s h=some (aJ b s h):=by
 simp only[AC.sz] at a;unfold Lm aJ;rw[Jm (l:=b.Entries) (λe=>e.Site==s&&e.Handle==h) (by omega) (λrec i hi=>by
  simp only[dM hi,ae,aQ hi,bd_s];cases(b.Entries[i].Site==s)<;>rfl) (λrec=>by simp only[iD,aa])]
def aRf {b:AC}{s h:Int}(f:decide (aJ b s h>=0)=true):bC b.Entries (aJ b s h)=some (b.Entries.getD (aJ b s h).toNat default)/\(aJ b s h).toNat<b.Entries.length/\(b.Entries.getD (aJ b s h).toNat default).Site=s/\(b.Entries.getD (aJ b s h).toNat default).Handle=h:=by
 have h0:=of_decide_eq_true f;obtain⟨l1,e,l2,d,c,a⟩:=Zn (p:=λe:AH=>e.Site==s&&e.Handle==h) (l:=b.Entries) (i:=0) h0;have a:aJ b s h=((0+l1.length:Nat):Int):=a;rw[ck] at a;have hl:l1.length<b.Entries.length:=by rw[d];simp
 have hg:b.Entries.getD l1.length default=e:=by rw[d];simp[List.getD]
 rw[a,bo,hg];simp only[ac,cY] at c;refine⟨?_,hl,c.1,c.2⟩;rw[aQ hl];have:b.Entries[l1.length]=e:=by rw[<-hg,List.getD,ab hl];rfl
 rw[this]
def bC1 (b:AC)(x:AH):(qE b x).Entries.length<=b.Entries.length+1:=by
 unfold qE;cases decide (aJ b x.Site x.Handle>=0) with
 |true=>simp
 |false=>have:=congrArg List.length (e8 (p:=λe=>kT e x.Site x.Handle) (l:=b.Entries));simp only[ay] at this;simp only[aa,ay,cz];omega
def aPb (b:AC)(s h:Int)(c:b.sz<=34359738360):Qf b s h=some (Y2 b s h):=by
 have hq:=c;simp only[AC.sz] at hq;have hs:=bC1 b (qG b s h);unfold Qf Y2;have d:(qE b (qG b s h)).sz<=34359738368:=by simp only[AC.sz];omega
 rw[aB (show b.sz<=34359738368 by omega),aB (show b.sz<=34359738368 by omega)];simp only[aB (show b.sz<=34359738360 from c),aB (show b.sz<=34359738368 by omega),bd_s];cases a:decide (aJ b s h>=0) with
 |true=>
  obtain⟨h1,h2,_,_⟩:=aRf a;have hv:qG b s h=⟨s,h,IntKind.i64.wrap ((b.Entries.getD (aJ b s h).toNat default).Version+1),false⟩:=by unfold qG bM2;rw[a];rfl
  rw[ae,h1,bd_s];cases hd:(b.Entries.getD (aJ b s h).toNat default).Deleted with
  |false=>rfl
  |true=>rw[bd_s,av,aa,nx_r,<-hv,aB d];cases aM b<;>cases aM (qE b (qG b s h))<;>rfl
 |false=>
  have hv:qG b s h=⟨s,h,1,false⟩:=by unfold qG bM2;rw[a];rfl
  rw[aa,nx_r,<-hv,aB d];cases aM b<;>cases aM (qE b (qG b s h))<;>rfl
def bIv {α:Type}{p:α->Bool}{l:List α}:(l.takeWhile p).length<=l.length:=by have:=congrArg List.length (e8 (p:=p) (l:=l));simp only[ay] at this;omega
def cAi {α:Type}{p:α->Bool}{l:List α}:l.takeWhile p=l.take (l.takeWhile p).length/\l.dropWhile p=l.drop (l.takeWhile p).length:=by have e:=e8 (p:=p) (l:=l);have h1:=congrArg (List.take (l.takeWhile p).length) e;have h2:=congrArg (List.drop (l.takeWhile p).length) e;rw[ic] at h1;rw[List.drop_left] at h2;exact⟨h1,h2⟩
def bR7 (b:AC)(x:AH)(h:b.Entries.length<=34359738360){F:(Int->Option Int)->Int->Option Int}
  (c:∀rec i (hi:i<b.Entries.length),F rec (i:Int)=bif dV b.Entries[i] x then rec (((i+1:Nat):Int)) else some (i:Int)) (d:∀rec,F rec (b.Entries.length:Int)=some (b.Entries.length:Int)):bZ FUEL F 0=some (((b.Entries.takeWhile λe=>kT e x.Site x.Handle).length:Nat):Int):=by
 refine X3 (λi s=>i<=(b.Entries.takeWhile λe=>kT e x.Site x.Handle).length/\s=(i:Int)) (b.Entries.takeWhile λe=>kT e x.Site x.Handle).length _ (by have:=bIv (p:=λe=>kT e x.Site x.Handle) (l:=b.Entries);omega) ⟨by omega,rfl⟩ (λi s rec hi hv=> ?_) (λs rec hv=> ?_)
 ·obtain⟨_,rfl⟩:=hv;rcases aRe (λe=>kT e x.Site x.Handle) b.Entries i (by omega) with⟨h1,h2,_⟩|⟨h1,_⟩
  ·refine .inl ⟨_,⟨by omega,rfl⟩,?_⟩;rw[c rec i h1];have:dV b.Entries[i] x=true:=h2;rw[this];rfl
  ·omega
 ·obtain⟨_,rfl⟩:=hv;rcases aRe (λe=>kT e x.Site x.Handle) b.Entries _ (aj _) with⟨_,_,j⟩|⟨_,h2⟩
  ·omega
  ·rcases eW (b.Entries.takeWhile λe=>kT e x.Site x.Handle).length b.Entries.length with a|f
   ·rw[c rec _ a];have:dV b.Entries[(b.Entries.takeWhile λe=>kT e x.Site x.Handle).length] x=false:=h2 a;rw[this];rfl
   ·have:=bIv (p:=λe=>kT e x.Site x.Handle) (l:=b.Entries);have e:(b.Entries.takeWhile λe=>kT e x.Site x.Handle).length=b.Entries.length:=by omega
    rw[e,d]
def aPc (b:AC)(s h:Int)(f:b.sz<=34359738360):Qu b s h=some (Y2 b s h):=by
 have hq:=f;simp only[AC.sz] at hq;have hs:=bC1 b (qG b s h);have d:(qE b (qG b s h)).sz<=34359738368:=by simp only[AC.sz];omega
 unfold Qu Y2;simp only[aB (show b.sz<=34359738368 by omega),bd_s];cases hb:aM b with
 |false=>simp
 |true=>
  rw[av,aa];cases c:decide (aJ b s h>=0) with
  |true=>
   obtain⟨h1,h2,j,k⟩:=aRf c;have h0:=of_decide_eq_true c;have hv:qG b s h=⟨s,h,IntKind.i64.wrap ((b.Entries.getD (aJ b s h).toNat default).Version+1),false⟩:=by unfold qG bM2;rw[c];rfl
   have a:qE b (qG b s h)=⟨b.Entries.set (aJ b s h).toNat (qG b s h)⟩:=by unfold qE;rw[show(qG b s h).Site=s from rfl,show(qG b s h).Handle=h from rfl,c];rfl
   rw[ae,h1,bd_s];cases hd:(b.Entries.getD (aJ b s h).toNat default).Deleted with
   |false=>rfl
   |true=>rw[bd_s,av,aa];rw[kY h0 (by rw[ax];exact h2),bd_s,gj,bd_s,nx_r,eo,j,k,<-hv,<-a,aB d,bd_s];cases aM (qE b (qG b s h))<;>rfl
  |false=>
   have hv:qG b s h=⟨s,h,1,false⟩:=by unfold qG bM2;rw[c];rfl
   have a:qE b (qG b s h)=⟨b.Entries.takeWhile (λe=>kT e s h)++[qG b s h]++b.Entries.dropWhile (λe=>kT e s h)⟩:=by unfold qE;rw[show(qG b s h).Site=s from rfl,show(qG b s h).Handle=h from rfl,c];rfl
   have hl:=bIv (p:=λe=>kT e s h) (l:=b.Entries);obtain⟨m,n⟩:=cAi (p:=λe=>kT e s h) (l:=b.Entries);rw[<-hv,aa,bR7 b (qG b s h) hq (λrec i hi=>by
    simp only[dM hi,ae,aQ hi,bd_s,aI (show-9223372036854775808<=(i:Int)+1 by omega) (by omega)];rfl) (λrec=>by simp only[iD,aa,bd_s])]
   rw[show(qG b s h).Site=s from rfl,show(qG b s h).Handle=h from rfl,bd_s,aQ0];rw[aB (show jP b.Entries _ by unfold jP;omega),aB (show jP b.Entries _ by unfold jP;omega),aB (by unfold aX;simp;omega),aB (by unfold aX;simp;omega),aB (by unfold aX;simp;omega),nx_r,bz,<-m,<-n,<-a,aB d,bd_s];cases aM (qE b (qG b s h))<;>rfl
def X5.of' {w:AA}(h:w.sz<=34359738368):X5 w:=by simp only[AA.sz] at h;unfold X5;omega
def aAr (b:AC)(s h:Int)(c:b.sz<=34359738360):Cb b s h=some (Y4 b s h):=by
 unfold Cb Y4;simp only[aB c,aB (show b.sz<=34359738368 by omega),bd_s];cases aM b with
 |false=>rfl
 |true=>
  by_cases a:aJ b s h<0
  ·rw[aq a];rfl
  ·obtain⟨h1,h2,d,e⟩:=aRf (b:=b) (s:=s) (h:=h) (aq (by omega));rw[ao a,h1];simp only[bd_s];rw[show(⟨s,h,IntKind.i64.wrap ((b.Entries.getD (aJ b s h).toNat default).Version+1),true⟩:AH)=Y3 b s h from rfl];cases(b.Entries.getD (aJ b s h).toNat default).Deleted<;>cases((b.Entries.getD (aJ b s h).toNat default).Version==1000000)<;>rfl
def bR8 {l l':List AH}{i:Nat}{e e':AH}(he:e'.Site=e.Site/\e'.Handle=e.Handle)(hp:(l'.getD (i-1) default).Site=(l.getD (i-1) default).Site/\(l'.getD (i-1) default).Handle=(l.getD (i-1) default).Handle)(h:Uh l i e=false):Uh l' i e'= !bK e'.Version 1 1000000:=by unfold Uh at h ⊢;rw[bc,bc,bc] at h;obtain⟨h1,h2,b,a⟩:=h;rw[he.1,he.2,h1,h2,aSo he,Ao hp,a];simp
def bYs {b:AC}{j:Nat}{x:AH}(d:j<b.Entries.length)(e:x.Site=b.Entries[j].Site/\x.Handle=b.Entries[j].Handle)(h:aM b=true):aM ⟨b.Entries.set j x⟩=bK x.Version 1 1000000:=by
 unfold aM at h ⊢;rw[ac,bu] at h;obtain⟨h1,h2⟩:=h;rw[ax,h1,cq];have hg:∀i,((b.Entries.set j x).getD i default).Site=(b.Entries.getD i default).Site/\((b.Entries.set j x).getD i default).Handle=(b.Entries.getD i default).Handle:=λi=>by
  by_cases a:j=i
  ·subst a;simp only[List.getD,bh d,ab d,ci];exact e
  ·simp[List.getD,bl a]
 have h2:=X9.1 h2;have hb:∀(i:Nat) (hi:i<(b.Entries.set j x).length),Uh (b.Entries.set j x) i (b.Entries.set j x)[i]= !bK (b.Entries.set j x)[i].Version 1 1000000:=λi hi=>by
  have c:i<b.Entries.length:=by simpa using hi
  have g:=hg i;simp only[List.getD,ab hi,ab c,ci] at g;exact bR8 g (hg (i-1)) (h2 i c)
 have hv:∀(i:Nat) (hi:i<b.Entries.length),bK b.Entries[i].Version 1 1000000=true:=λi hi=>by
  have:=h2 i hi;unfold Uh at this;rw[bc,bc,bc] at this;simpa using this.2.2.1
 cases hc:bK x.Version 1 1000000 with
 |true=>
  rw[bu];refine X9.2 λi hi=> ?_;rw[hb i hi];by_cases a:j=i
  ·subst a;rw[gj,hc];rfl
  ·rw[List.getElem_set_ne a,hv i (by simpa using hi)];rfl
 |false=>rw[cH];refine(tT _ 0).2 ⟨j,by simpa using d,?_⟩;rw[ck,hb j (by simpa using d),gj,hc];rfl
def bIw {b:AC}(h:aM b=true){i:Nat}(hi:i<b.Entries.length):bK b.Entries[i].Version 1 1000000=true:=by unfold aM at h;rw[ac,bu] at h;have:=X9.1 h.2 i hi;unfold Uh at this;rw[bc,bc,bc] at this;simpa using this.2.2.1
def aAs (b:AC)(s h:Int)(k:b.sz<=34359738360):Di b s h=some (Y4 b s h):=by
 have hq:=k;simp only[AC.sz] at hq;unfold Di Y4;simp only[aB (show b.sz<=34359738368 by omega),bd_s];cases hb:aM b with
 |false=>rfl
 |true=>
  by_cases f:aJ b s h<0
  ·rw[aq f];rfl
  ·have c:decide (aJ b s h>=0)=true:=aq (by omega);obtain⟨h1,h2,i,j⟩:=aRf c;have a:qE b (Y3 b s h)=⟨b.Entries.set (aJ b s h).toNat (Y3 b s h)⟩:=by unfold qE;rw[show(Y3 b s h).Site=s from rfl,show(Y3 b s h).Handle=h from rfl,c];rfl
   have hg:b.Entries.getD (aJ b s h).toNat default=b.Entries[(aJ b s h).toNat]:=by rw[List.getD,ab h2];rfl
   have d:=bYs (x:=Y3 b s h) h2 ⟨by rw[<-hg,i];rfl,by rw[<-hg,j];rfl⟩ hb;have hv:=bIw hb h2;rw[ao f,h1];simp only[bd_s];cases hd:(b.Entries.getD (aJ b s h).toNat default).Deleted with
   |true=>rfl
   |false=>
    have e:(⟨(b.Entries.getD (aJ b s h).toNat default).Site,(b.Entries.getD (aJ b s h).toNat default).Handle,IntKind.i64.wrap ((b.Entries.getD (aJ b s h).toNat default).Version+1),true⟩:AH)=Y3 b s h:=by rw[i,j];rfl
    rw[kY (by omega) (by rw[ax];exact h2),gj,bd_s,bd_s,eo,e,<-a];have l:(qE b (Y3 b s h)).sz<=34359738368:=by have:=bC1 b (Y3 b s h);simp only[AC.sz];omega
    rw[aB l,bd_s,a,d,<-a];have hv:=gU hv;have ev:(Y3 b s h).Version=b.Entries[(aJ b s h).toNat].Version+1:=by show IntKind.i64.wrap ((b.Entries.getD (aJ b s h).toNat default).Version+1)=_;rw[hg,aI (by omega) (by omega)]
    rw[ev,hg];generalize b.Entries[(aJ b s h).toNat].Version=v at hv ⊢;unfold bK;by_cases hm:v=1000000
    ·subst hm;rfl
    ·rw[show(v==1000000)=false by simpa using hm,aq (show 1<=v+1 by omega),aq (show v+1<=1000000 by omega)];rfl
def D6 (d:AF)(n:ByteArray)(h:Int)(rm:Bool)(a:d.sz<=34359738360/\n.size<=34359738300):yY d n h rm=some (dI d n h rm):=by
 obtain⟨h1,h2⟩:=a;have hb:d.aAE.sz<=34359738360:=by simp only[AF.sz,AC.sz] at*;omega
 unfold yY dI tX;simp only[aB (show d.sz<=34359738368 by omega),aB h2,aB hb,bd_s];cases rm with
 |true=>simp only[ae,bd_s];cases(Y4 d.aAE (bB n) h).2<;>rfl
 |false=>simp only[aa,bd_s];cases(Y2 d.aAE (bB n) h).2<;>rfl
def D7 (d:AF)(n:ByteArray)(h:Int)(rm:Bool)(a:d.sz<=34359738360/\n.size<=34359738300):zL d n h rm=some (dI d n h rm):=by
 obtain⟨h1,h2⟩:=a;have hb:d.aAE.sz<=34359738360:=by simp only[AF.sz,AC.sz] at*;omega
 unfold zL dI tX;simp only[aB (show d.sz<=34359738368 by omega),aB h2,aB hb,bd_s];cases rm with
 |true=>simp only[ae,bd_s];cases(Y4 d.aAE (bB n) h).2<;>rfl
 |false=>simp only[aa,bd_s];cases(Y2 d.aAE (bB n) h).2<;>rfl
def bN8 {w:AA}{d:Int}(h:aN w d=true):0<=d/\d.toNat<w.Devices.length/\(aL w d).sz<=w.sz/\aL w d=w.Devices.getD d.toNat default:=by
 simp only[aN,ac,ca] at h;have hi:d.toNat<w.Devices.length:=by omega
 have:=wV (f:=AF.sz) hi;refine⟨h.1,hi,?_,rfl⟩;show(w.Devices.getD d.toNat default).sz<=_;simp only[AA.sz];omega
def aE7 (w:AA)(d:Int)(n:ByteArray)(h:Int)(rm:Bool)(a:w.sz<=34359738300/\n.size<=34359738300):Gx w d n h rm=some (sI w d n h rm):=by
 obtain⟨h1,h2⟩:=a;unfold Gx sI;rw[aB (show w.sz<=34359738368 by omega),bd_s,aB (show w.sz<=34359738368 by omega),bd_s,sH,bd_s,<-Bool.not_and];cases hc:(aP w&&aN w d) with
 |false=>rfl
 |true=>have hd:=(Bool.and_eq_true_iff.1 hc).2;obtain⟨k1,k2,k3,k4⟩:=bN8 hd;rw[av,aa,ae,tL hd,bd_s,aB ⟨by omega,h2⟩,bd_s,bd_s];cases e:(dI (aL w d) n h rm).2<;>rfl
def aUn (l:List AD)(h:l.length<=34359738368):Vf l=some (aF l):=by
 unfold Vf;rw[gV (l:=l) (λn e=>bif e.Kind==2 then IntKind.i64.wrap (n+1) else n) (λ_ _=>True) (λs=>some s) (by omega) trivial (λ_ _ _ _=>trivial) (λrec i s hi _=>by
  simp only[dM hi,ae,aQ hi,bd_s,qF]) (λrec s _=>by simp only[iD,aa])]
 rfl
def aUo (l:List AD)(h:l.length<=34359738368):We l=some (aF l):=by
 unfold We;rw[gV (l:=l) (λn e=>bif e.Kind==2 then IntKind.i64.wrap (n+1) else n) (λ_ _=>True) (λs=>some s) (by omega) trivial (λ_ _ _ _=>trivial) (λrec i s hi _=>by
  simp only[dM hi,ae,aQ hi,bd_s,qF]) (λrec s _=>by simp only[iD,aa])]
 rfl
def aXu (p e:Int):R8 p e=some (iL p e):=by unfold R8;rw[aB (by simp)];rfl
def aXv (p e:Int):Q0 p e=some (iL p e):=by unfold Q0;rw[aB (by simp)];rfl
def aXw (k:Int)(b:AN)(h:b.Data.length<=34359738200):Q3 k b=some (Uc k b):=by unfold Q3 Uc;rw[aB (by omega),bd_s,aB (by simp[aX,Be];omega),aB (by simp[Be];omega)];rfl
def aXx (k:Int)(b:AN)(h:b.Data.length<=34359738200):R9 k b=some (Uc k b):=by unfold R9 Uc;rw[aB (by omega),bd_s,aB (by simp[uU,Be];omega),bd_s,aB (by simp[Be,oK];omega)];simp[oK]
def aKs {α β:Type}{y:Nat->α->β}:∀{l:List α} {j i:Nat} (hi:i<l.length),Ri (λi x=>[y i x]) j (l.take (i+1))=Ri (λi x=>[y i x]) j (l.take i)++[y (j+i) l[i]]
 |x::xs,j,0,_=>by simp[Ri]
 |x::xs,j,i+1,hi=>by
  have:=aKs (y:=y) (l:=xs) (j:=j+1) (i:=i) (by simpa using hi);simp only[ij,Ri,fa,this,cM,bz];rw[show j+1+i=j+(i+1) by omega]
def bLd {k:Int}{b:List Int}(hl:b.length<=34359738368){F:(List Int×Nat->Option (List Int))->List Int×Nat->Option (List Int)}
  (a:∀rec i s (hi:i<b.length),s.length<=34359738368->F rec (s,i)=rec (s++[aXa k i b[i]],i+1)) (c:∀rec s,F rec (s,b.length)=some s):bZ FUEL F ([],0)=some (Ub k b):=by
 refine X3 (λi s=>i<=b.length/\s=(Ri (λi z=>[aXa k i z]) 0 (b.take i),i)) b.length _ (by omega) ⟨by omega,by simp[Ri]⟩ (λi s rec hi hv=> ?_) (λs rec hv=> ?_)
 ·obtain⟨_,rfl⟩:=hv;refine .inl ⟨_,⟨hi,rfl⟩,?_⟩;rw[a rec i _ hi (by rw[tN,cg];omega),aKs hi,ck]
 ·obtain⟨_,rfl⟩:=hv;rw[c,de];rfl
def aUp (k:Int)(b:List Int)(h:b.length<=34359738368):Vs k b=some (Ub k b):=by
 unfold Vs;rw[bLd (k:=k) h (λrec i s hi hs=>by
  have e:=bQl k i b[i];have a:((256:Int)≠0)=True:=by simp
  simp only[dM hi,ae,aQ hi,bd_s,aB (show([(i:Int)]:List Int).length<=34359738368 by simp),a,gd_T,e,gI hs]) (λrec s=>by simp only[iD,aa])]
 rfl
def aUq (k:Int)(b:List Int)(h:b.length<=34359738368):Wh k b=some (Ub k b):=by
 unfold Wh;rw[bLd (k:=k) h (λrec i s hi hs=>by
  have e:=bQk k i b[i];simp only[dM hi,ae,aQ hi,bd_s,aB (show([(i:Int)]:List Int).length<=34359738368 by simp),e,gI hs]) (λrec s=>by simp only[iD,aa])]
 rfl
def aUr (p:Int)(b:AN):Vt p b=some (gN p b):=by
 unfold Vt gN;by_cases hl:b.Data.length<=200
 ·simp only[aB (show b.Data.length<=34359738200 by omega),aB (show b.Data.length<=34359738368 by omega),bd_s,show decide ((b.Data.length:Int)>200)=false from ao (by omega)];cases bG p<;>cases(b.To !=dP p)<;>cases bG b.Ephemeral<;>cases(b.MAC !=Uc (iL p b.Ephemeral) b)<;>rfl
 ·rw[show decide ((b.Data.length:Int)>200)=true from aq (by omega)];cases bG p<;>cases(b.To !=dP p)<;>cases bG b.Ephemeral<;>rfl
def aE8 {bs:List AN}{p:Int}(hl:bs.length<=34359738368){F:(Nat->Option ((List Int×Bool)⊕PUnit))->Nat->Option ((List Int×Bool)⊕PUnit)}
  (a:∀rec i (hi:i<bs.length),F rec i=bif (gN p bs[i]).2 then some (.inl ((gN p bs[i]).1,true)) else rec (i+1)) (b:∀rec,F rec bs.length=some (.inr ())):nx (bZ FUEL F 0) (λ_=>some (([]:List Int),false))=some (iH bs p):=by
 have go:∀(k i n:Nat),i+k=bs.length->k<n->nx (bZ n F i) (λ_=>some (([]:List Int),false))=some (iH (bs.drop i) p):=by
  intro k;induction k with
  |zero=>
   intro i n hk hn;obtain⟨n,rfl⟩:∃m,n=m+1:=⟨n-1,by omega⟩;have:i=bs.length:=by omega
   subst this;rw[jR,b,dr];rfl
  |succ k c=>
   intro i n hk hn;obtain⟨n,rfl⟩:∃m,n=m+1:=⟨n-1,by omega⟩;have hi:i<bs.length:=by omega
   rw[jR,a _ i hi,cC hi,iH];cases(gN p bs[i]).2 with
   |true=>rfl
   |false=>exact c (i+1) n (by omega) (by omega)
 exact go bs.length 0 FUEL (by omega) (by have:=iK;omega)
def aUs (bs:List AN)(p:Int)(h:bs.length<=34359738368):Vu bs p=some (iH bs p):=by unfold Vu;exact aE8 h (λrec i hi=>by simp only[dM hi,ae,aQ hi,bd_s]) (λrec=>by simp only[iD,aa])
def aUt (p:Int)(b:AN):Wi p b=some (gN p b):=by
 unfold Wi gN;by_cases hl:b.Data.length<=200
 ·simp only[aB (show b.Data.length<=34359738200 by omega),aB (show b.Data.length<=34359738368 by omega),bd_s,show decide ((b.Data.length:Int)>200)=false from ao (by omega)];cases bG p<;>cases(b.To !=dP p)<;>cases bG b.Ephemeral<;>cases(b.MAC !=Uc (iL p b.Ephemeral) b)<;>rfl
 ·rw[show decide ((b.Data.length:Int)>200)=true from aq (by omega)];cases bG p<;>cases(b.To !=dP p)<;>cases bG b.Ephemeral<;>rfl
def aUu (bs:List AN)(p:Int)(h:bs.length<=34359738368):Wj bs p=some (iH bs p):=by unfold Wj;exact aE8 h (λrec i hi=>by simp only[dM hi,ae,aQ hi,bd_s]) (λrec=>by simp only[iD,aa])
theorem aUv {c:AO}{b:Int}(a:c.sz<=34359738368)(h0:0<=b/\b<(c.History.length:Int)):bC c.History (IntKind.i64.wrap (IntKind.i64.wrap ((c.History.length:Int)-1)-b))=some (c.History.getD (c.History.length-1-b.toNat) default)/\(c.History.getD (c.History.length-1-b.toNat) default).sz<=34359738368:=by simp only[AO.sz] at a;have h1:=wV (f:=AJ.sz) (l:=c.History) (i:=c.History.length-1-b.toNat) (by omega);refine⟨?_,by omega⟩;rw[aI (n:=(c.History.length:Int)-1) (by omega) (by omega),aI (by omega) (by omega),tV (by omega) (by omega)];congr 2;omega
def aAt (c:AO)(b:Int)(a:c.sz<=34359738368):Ce c b=some (fP c b):=by
 unfold Ce fP;rw[bT7 (by simp only[AO.sz] at a;omega)];cases e:(decide (b<0)||decide (b>=(c.History.length:Int))) with
 |true=>rfl
 |false=>obtain⟨h1,h2⟩:=aUv a (Uj e);rw[aa,aa,h1,bd_s,aB h2,bd_s]
def aAu (c:AO)(b:Int)(a:c.sz<=34359738368):Db c b=some (fP c b):=by
 unfold Db fP;rw[sH,bd_s];cases e:(decide (b<0)||decide (b>=(c.History.length:Int))) with
 |true=>rfl
 |false=>obtain⟨h1,h2⟩:=aUv a (Uj e);rw[aa,aa,h1,bd_s,aB h2,bd_s]
def bGb {a b:List AD}(d:a.length<=34359738368){F:(Nat->Option (Bool⊕PUnit))->Nat->Option (Bool⊕PUnit)}
  (f:∀rec i (hi:i<b.length) (j:i<a.length),F rec i=bif !bM4 a[i] b[i] then some (.inl false) else rec (i+1)) (c:∀rec,F rec b.length=some (.inr ())):
  (bif decide ((a.length:Int)<(b.length:Int)) then some false else nx (bZ FUEL F 0) λ_=>some true)=some (cZ a b):=by
 unfold cZ;by_cases h:b.length<=a.length
 ·rw[ao (show ¬(a.length:Int)<(b.length:Int) by omega),aa,aq h,cq,
   kG (l:=b) (λi e=> !bM4 (a.getD i default) e) (.inl false) (.inr ()) (by omega) (by grind[List.getD,List.getElem?_eq_getElem]) c]
  cases gF (λi e=> !bM4 (a.getD i default) e) 0 b<;>rfl
 grind
def aE9 (a b:List AD)(h:a.length<=34359738368):Fq a b=some (cZ a b):=by unfold Fq;exact bGb h (λrec i hi c=>by simp only[dM hi,ae,aQ hi,aQ c,bd_s];rfl) (by simp)
def aFa (a b:List AD)(h:a.length<=34359738368):Gm a b=some (cZ a b):=by unfold Gm;exact bGb h (λrec i hi c=>by simp only[dM hi,ae,aQ hi,aQ c,bd_s];rfl) (by simp)
def aKt (k:Int)(b:AJ)(h:b.Data.length<=34359738200):Kk k b=some (jK k b):=by
 grind[aB,bd_s,aX,Be,Kk,jK]
def aKu (k:Int)(b:AJ)(h:b.Data.length<=34359738200):Lh k b=some (jK k b):=by
 grind[oK,aB,bd_s,Be,Lh,jK]
def aPd (k e v:Int):Qg k e v=some (bG k&&(bK e 0 1000000&&bK v 0 1000000)):=by unfold Qg;cases bG k<;>cases bK e 0 1000000<;>rfl
def aXy (k e v:Int):aXi k e v=some (mI k e v):=by rfl
def Dl (b:List Int)(hb:aZ b)(p:Nat)(hp:p<=34359738368){F:(Int×Int×Nat->Option ((Int×Int×Bool)⊕PUnit))->Int×Int×Nat->Option ((Int×Int×Bool)⊕PUnit)}
  (j:∀rec (n q:Int) (i:Nat),F rec (n,q,i)=bif decide ((i:Int)<6) then(bif decide (IntKind.i64.wrap ((p:Int)+(i:Int))>=(b.length:Int)) then some (.inl (0,0,false)) else bd (bC b (IntKind.i64.wrap ((p:Int)+(i:Int)))) λz=>gd ((128:Int)≠0) (bif decide (IntKind.i64.wrap z<128) then(bd (bif decide ((i:Int)>0) then(bif IntKind.i64.wrap z==0 then some true else some (decide (IntKind.i64.wrap (n+IntKind.i64.wrap ((IntKind.i64.wrap z).tmod 128*q))>1000000000000))) else some (decide (IntKind.i64.wrap (n+IntKind.i64.wrap ((IntKind.i64.wrap z).tmod 128*q))>1000000000000))) λc=>bif c then some (.inl (0,0,false)) else some (.inl (IntKind.i64.wrap (n+IntKind.i64.wrap ((IntKind.i64.wrap z).tmod 128*q)),IntKind.i64.wrap (IntKind.i64.wrap ((p:Int)+(i:Int))+1),true))) else rec (IntKind.i64.wrap (n+IntKind.i64.wrap ((IntKind.i64.wrap z).tmod 128*q)),IntKind.i64.wrap (q*128),i+1))) else some (.inr ())):
  ∀(k i:Nat) (n:Int) (f:Nat),i+k=6->k<f->0<=n->n<128^i->nx (bZ f F (n,(128:Int)^i,i)) (λ_=>some ((0:Int),(0:Int),false))=some (uvG b p k i n)
 |0,i,n,f+1,hk,w,h0,h1=>by
  rw[jR,j,show decide ((i:Int)<6)=false from ao (by omega)];rfl
 |k+1,i,n,f+1,hk,w,h0,h1=>by
  have l:=bCe (i:=i) (by omega);rw[jR,j,show decide ((i:Int)<6)=true from aq (by omega),ae];rw[show IntKind.i64.wrap ((p:Int)+(i:Int))=((p+i:Nat):Int) by rw[aI (by omega) (by omega)];omega];unfold uvG;by_cases a:p+i<b.length
  ·have m:=xD hb a;have hg:b.getD (p+i) 0=b[p+i]:=by simp[List.getD,ab a]
   rw[cI a,hg,aQ a];generalize b[p+i]=z at m;rw[show decide (((p+i:Nat):Int)>=(b.length:Int))=false from ao (by omega)];have hs:=bCf (z:=z) (n:=n) (i:=i) (by omega) m.1 h0 h1;have o:IntKind.i64.wrap z=z:=aI (by omega) (by omega);have r:z.tmod 128=z%128:=ce m.1;have s:IntKind.i64.wrap (z%128*128^i)=z%128*128^i:=aI (by omega) (by omega);have x:=bCe (i:=i+1) (by omega);have t:IntKind.i64.wrap (n+z%128*128^i)=n+z%128*128^i:=aI (by omega) (by omega);have u:IntKind.i64.wrap (((p+i:Nat):Int)+1)=((p+i+1:Nat):Int):=by rw[aI (by omega) (by omega)];omega
   have v:IntKind.i64.wrap ((128:Int)^i*128)=128^(i+1):=by rw[<-fe,aI (by omega) (by omega)]
   have h:((128:Int)≠0)=True:=by simp
   simp only[aa,bd_s,o,r,s,t,u,v,h,gd_T];by_cases d:z<128
   ·simp only[d,decide_true,ae];have e:(decide ((i:Int)>0))=decide (0<i):=dk.2 (by omega);rw[e];cases decide (0<i)<;>cases(z==0)<;>cases decide (n+z%128*128^i>1000000000000)<;>rfl
   ·simp only[d,decide_false,aa];exact Dl b hb p hp j k (i+1) _ f (by omega) (by omega) hs.1 hs.2.1
  ·rw[dg a,show decide (((p+i:Nat):Int)>=(b.length:Int))=true from aq (by omega)];rfl
def aAv (b:List Int)(a:Int)(hb:aZ b):Dc b a=some (Ab b a):=by
 unfold Dc Ab;have c:=iK;have hlen:=hb.1;rw[sH,bd_s];by_cases h0:a<0
 ·simp[h0]
 ·rw[dg h0,ao h0,cF];by_cases h1:a>=b.length
  ·grind[uvG,decide_eq_true]
  ·rw[ao h1,aa];obtain⟨p,rfl⟩:=dx (show 0<=a by omega);exact Dl b hb p (by omega) (λrec n q i=>rfl) 6 0 0 FUEL rfl (by omega) (by omega) (by decide)
theorem Pg (b:List Int)(c:Int)(hc:c<=100){F:(Int×List Int×Nat->Option ((List Int×Int×Bool)⊕(Int×List Int)))->Int×List Int×Nat->Option ((List Int×Int×Bool)⊕(Int×List Int))}
  (d:∀rec (a:Int) (s:List Int) (i:Nat),s.length<=34359738368->F rec (a,s,i)=bif decide ((i:Int)<c) then(bif !(Ab b a).2.2 then some (.inl ([],0,false)) else rec ((Ab b a).2.1,s++[(Ab b a).1],i+1)) else some (.inr (a,s))):
  ∀(k i:Nat) (a:Int) (s:List Int) (f:Nat),((i+k:Nat):Int)=c->k<f->s.length<=i->nx (bZ f F (a,s,i)) (λz=>some (z.2,z.1,true))=some (lL b k a s)
 |0,i,a,s,f+1,hk,e,hs=>by
  rw[jR,d _ _ _ _ (by omega),show decide ((i:Int)<c)=false from ao (by omega)];rfl
 |k+1,i,a,s,f+1,hk,e,hs=>by
  rw[jR,d _ _ _ _ (by omega),show decide ((i:Int)<c)=true from aq (by omega),ae];unfold lL;cases(Ab b a).2.2 with
  |false=>rfl
  |true=>simp only[av,aa,ae];exact Pg b c hc d k (i+1) _ _ f (by omega) (by omega) (by simp;omega)
def aFb (b:List Int)(a c:Int)(hb:aZ b):Gn b a c=some (jY b a c):=by
 grind[decide_false,bd_s,decide_true,Bool.not_true,Bool.or_self,Pg,aB,gI,FUEL,iK,Gn,jY,bK]
def aFc (b:List Int)(a c:Int)(hb:aZ b):Fv b a c=some (jY b a c):=by
 grind[bK,gU,Bool.not_true,bd_s,Bool.or_self,Pg,aB,gI,FUEL,iK,Fv,jY]
theorem Dm (b:List Int)(hb:aZ b)(a:Int)(q:0<=a){F:(Int×Nat->Option ((Int×Int×Bool)⊕PUnit))->Int×Nat->Option ((Int×Int×Bool)⊕PUnit)}
  (l:∀rec (n:Int) (i:Nat),F rec (n,i)=bif decide ((i:Int)<6) then(bd (bif decide (a<0) then some true else some (decide (a>=IntKind.i64.wrap ((b.length:Int)-(i:Int))))) λc=>bif c then some (.inl (0,0,false)) else bd (bC b (IntKind.i64.wrap (a+(i:Int)))) λz=>gd ((0:Int)<=IntKind.i64.wrap (7*(i:Int))) (bif decide (IntKind.i64.wrap z<128) then(bd (bif IntKind.i64.wrap z==0 then(bif decide ((i:Int)>0) then some true else some (decide (orI .i64 n (aDi .i64 (qN .i64 (IntKind.i64.wrap z) 127) (IntKind.i64.wrap (7*(i:Int))))>1000000000000))) else some (decide (orI .i64 n (aDi .i64 (qN .i64 (IntKind.i64.wrap z) 127) (IntKind.i64.wrap (7*(i:Int))))>1000000000000))) λc=>bif c then some (.inl (0,0,false)) else some (.inl (orI .i64 n (aDi .i64 (qN .i64 (IntKind.i64.wrap z) 127) (IntKind.i64.wrap (7*(i:Int)))),IntKind.i64.wrap (IntKind.i64.wrap (a+(i:Int))+1),true))) else rec (orI .i64 n (aDi .i64 (qN .i64 (IntKind.i64.wrap z) 127) (IntKind.i64.wrap (7*(i:Int)))),i+1))) else some (.inr ())):
  ∀(k i:Nat) (n:Int) (f:Nat),i+k=6->k<f->0<=n->n<128^i->nx (bZ f F (n,i)) (λ_=>some ((0:Int),(0:Int),false))=some (uvG b a.toNat k i n)
 |0,i,n,f+1,hk,r,h0,h1=>by
  rw[jR,l,show decide ((i:Int)<6)=false from ao (by omega)];rfl
 |k+1,i,n,f+1,hk,r,h0,h1=>by
  have hlen:=hb.1;rw[jR,l,show decide ((i:Int)<6)=true from aq (by omega),ae,sH,bd_s];rw[show IntKind.i64.wrap ((b.length:Int)-(i:Int))=(b.length:Int)-(i:Int) from aI (by omega) (by omega),show decide (a<0)=false from ao (by omega),cF];unfold uvG;by_cases d:a.toNat+i<b.length
  ·have j:=xD hb d;have hg:b.getD (a.toNat+i) 0=b[a.toNat+i]:=by simp[List.getD,ab d]
   have m:IntKind.i64.wrap (a+(i:Int))=((a.toNat+i:Nat):Int):=by rw[aI (by omega) (by omega)];omega
   rw[cI d,hg,m,aQ d];generalize b[a.toNat+i]=z at j;rw[show decide (a>=(b.length:Int)-(i:Int))=false from ao (by omega)];have hs:=bCf (z:=z) (n:=n) (i:=i) (by omega) j.1 h0 h1;have o:IntKind.i64.wrap z=z:=aI (by omega) (by omega);have ho:=bT5 (z:=z) (n:=n) (i:=i) (by omega) j.1 j.2 h0 h1;have p:IntKind.i64.wrap (((a.toNat+i:Nat):Int)+1)=((a.toNat+i+1:Nat):Int):=by rw[aI (by omega) (by omega)];omega
   have s:0<=IntKind.i64.wrap ((7:Int)*(i:Int)):=by rw[aI (by omega) (by omega)];omega
   simp only[aa,bd_s,o,ho,p];rw[aB s];by_cases h:z<128
   ·simp only[h,decide_true,ae];have e:(decide ((i:Int)>0))=decide (0<i):=dk.2 (by omega);rw[e];cases decide (0<i)<;>cases(z==0)<;>cases decide (n+z%128*128^i>1000000000000)<;>rfl
   ·simp only[h,decide_false,aa];exact Dm b hb a q l k (i+1) _ f (by omega) (by omega) hs.1 hs.2.1
  ·rw[dg d,show decide (a>=(b.length:Int)-(i:Int))=true from aq (by omega)];rfl
def aAw (b:List Int)(a:Int)(hb:aZ b):Cf b a=some (Ab b a):=by
 unfold Cf Ab;have d:=iK;by_cases h0:a<0
 ·rw[cI h0];obtain⟨f,c⟩:∃f,FUEL=f+1:=⟨FUEL-1,by omega⟩;simp_all[nx,jR]
 grind[Dm,FUEL]
def Rt (s:AK)(e:AM)(a:e.sz<=34359738368):uX s e=some (bS s e):=by
 simp only[AM.sz] at a;unfold uX bS
 grind[decode_len,jY,Oj,bC,bd_s,Bool.not_true,bG,iH,jH,aB,X6]
def Ru (s:AK)(e:AM)(a:e.sz<=34359738368):vF s e=some (bS s e):=by
 simp only[AM.sz] at a;unfold vF bS;rw[aB (by simp),bd_s,aB (by omega),bd_s,aB (X6 _ _),show aW s.Seed [181]=jH s from rfl]
 grind[decode_len,jY,Oj,bC,bd_s,Bool.not_true,bG,iH,jH]
theorem bLe {F:(Int×List Int->Option (Int×List Int))->Int×List Int->Option (Int×List Int)}{n:Int}{b:List Int}(hk:0<=n/\n<=1000000000000)(hb:b.length<=34359738300)
  (a:∀rec (n:Int) (s:List Int),0<=n->n<9223372036854775807->s.length<=34359738368->F rec (n,s)=bif decide (n>127) then rec (n/128,s++[n%128+128]) else some (n,s)):
  (bd (EV.bZ FUEL F (n,b)) λz=>gd (aX z.2 [IntKind.u8.wrap z.1]) (some (z.2++[IntKind.u8.wrap z.1])))=some (b++uvE 5 n):=by
 have f:(128:Int)^(5+1)=4398046511104:=by decide
 obtain⟨m,q,c,d,e,h⟩:=bE2 a 5 n b FUEL (by grind[iK]) hk.1 (by omega) (by omega) (by omega);have hq:q.length<=34359738368:=by
  grind[List.length_append,List.length_singleton,bCi,List.length]
 rw[c,bd_s];simp only[aSt e (by omega)];rw[gI (s:=q) hq,d]
def Wu (b:List Int)(n:Int)(h:b.length<=34359738300):xL b n=some (tY b n):=by
 unfold xL tY enc1;rw[tQ (by omega)];cases hr:bK n 0 1000000000000 with
 |false=>simp
 |true=>rw[av,aa,ae,bz];exact bLe (gU hr) h (by grind[decide,gd,aX,orI,qN,Ik,bUb,bYf,Int.emod_nonneg,Int.emod_lt_of_pos,bZ3,aSt,gI,aB])
def aKv:∀(l s:List Int),l.foldl tY s=s++jL l
 |[],s=>by simp[jL]
 |x::l,s=>by rw[db,aKv l,vV,tY,cm]
def aFd (l:List Int)(h:l.length<=5000000000):Fh l=some (jL l):=by unfold Fh;rw[gV (l:=l) tY (λi s=>s.length<=6*i) (λs=>some s) (by omega) (by simp) (by grind[aD7,tY,List.length_append]) (by grind[dM,aQ,bd_s,aB]) (by simp),aKv];rfl
def aAx:∀(l:List AH) (s:List Int),l.foldl (λs e=>s++aXe e) s=s++kU l
 |[],s=>by simp[kU]
 |x::l,s=>by rw[db,aAx l];simp[kU]
def D8 (b:AC)(h:b.sz<=34359738368):yZ b=some (oL b):=by
 unfold yZ oL;rw[aB h,bd_s];cases hb:aM b with
 |false=>rfl
 |true=>
  have hl:=pM hb;have hv:(sJ b).length=1+4*b.Entries.length:=by grind[sJ,vW]
  rw[av,aa,ae,gV (l:=b.Entries) (λs e=>s++aXe e) (λi s=>s.length<=1+4*i) (λs=>some s) (by omega) (by simp) (by grind[aXe,List.length_append,List.length_cons,List.length_nil]) (λrec i s hi hv=>by
   have e:∀x y z w:Int,gd (aX s [x,y,z,w]) (some (s++[x,y,z,w]))=some (s++[x,y,z,w]):=(by grind[aB,aX,List.length_cons,List.length_nil]);simp only[dM hi,ae,aQ hi,bd_s,qF,e];rfl) (by simp),aAx,bd_s]
  grind[aB,kU,sJ,bd_s]
def aFe (a b:List Int)(h:aZ a/\aZ b):Fw a b=some (a==b):=by obtain⟨c,hb⟩:=h;have h1:=c.1;have h2:=hb.1;unfold Fw;rw[aB (by omega),aB (by omega),aQ1,aQ1,ByteArray.toList_eq,ByteArray.toList_eq,bAh,bAh];congr 1;rw[fh,cY,cY];exact⟨λh=>bytes_inj (Ul c) (Ul hb) h,λh=>by rw[h]⟩
def cAj {v:List Int}{i:Nat}(h:4*i+3<v.length):v.drop (4*i)=v[4*i]::v[4*i+1]::v[4*i+2]::v[4*i+3]::v.drop (4*(i+1)):=by
 grind[List.drop_eq_getElem_cons]
def bGc {v:List Int}{k:Nat}(hv:v.length=4*k)(hk:k<=20){τ:Type}{x:τ}{F:(Nat×List AH->Option (τ⊕List AH))->Nat×List AH->Option (τ⊕List AH)}
  (a:∀rec i s (hi:i<k) (h:4*i+3<v.length),s.length<=100->F rec (i,s)=bif decide (v[4*i+3]>1) then some (.inl x) else rec (i+1,s++[⟨v[4*i],v[4*i+1],v[4*i+2],v[4*i+3]==1⟩])) (b:∀rec s,F rec (k,s)=some (.inr s)):
  ∀(m i n:Nat) (s:List AH),i+m=k->m<n->s.length<=i->EV.bZ n F (i,s)=some (bif nG (v.drop (4*i)) then .inr (s++nR (v.drop (4*i))) else .inl x)
 |0,i,n+1,s,h,_,_=>by
  have:i=k:=by omega
  subst this;rw[jR,b,gf (by omega)];simp[nG,nR]
 |m+1,i,n+1,s,h,hn,hs=>by
  have c:4*i+3<v.length:=by omega
  rw[jR,a _ i s (by omega) c (by omega),cAj c];simp only[nG,nR];by_cases hg:v[4*i+3]>1
  ·rw[aq hg,ao (show ¬v[4*i+3]<=1 by omega)];rfl
  ·rw[ao hg,aq (show v[4*i+3]<=1 by omega),aa,cq,bGc hv hk a b m (i+1) n _ (by omega) (by omega) (by simp;omega)];simp
def bGd {a:List Int}(hb:aZ a)(hc:(!(Ab a 0).2.2||decide ((Ab a 0).1>20))=false):∃(n:Int) (q:Nat),Ab a 0=(n,(q:Int),true)/\0<=n/\n<=20/\q<=a.length:=by
 simp only[bc,cH,cr] at hc;cases b:Ab a 0 with
 |mk n r=>
  obtain⟨e,ok⟩:=r;rw[b] at hc;obtain⟨rfl,hc2⟩:=hc;obtain⟨q,⟨_,c,d,f,h⟩,_⟩:=bCj hb b
  grind
def bGe {a:List Int}{e c:Int}(h0:0<=c)(h1:c<=100)(h2:0<=e)(b:e<=a.length):jY a e c=lL a c.toNat e []:=by
 grind[decide_eq_true,jY,bK]
theorem bC2 {v:List Int}{i j:Nat}{q:Int}(hq:q=(j:Int))(h:i+j<v.length):bC (v.drop i) q=some v[i+j]:=by subst hq;rw[aQ (by grind),List.getElem_drop]
def D9 (a:List Int)(hb:aZ a):zI a=some (Ew a):=by
 unfold zI Ew;rw[aB hb,bd_s,sH,bd_s];cases hc:(!(Ab a 0).2.2||decide ((Ab a 0).1>20)) with
 |true=>rfl
 |false=>
  obtain⟨n,q,b,h0,h1,h2⟩:=bGd hb hc;rw[b,aa,aa];dsimp only;rw[aI (n:=4*n) (by omega) (by omega),aB hb,bd_s,bGe (by omega) (by omega) (by omega) (by omega)];cases hd:lL a (4*n).toNat (q:Int) [] with
  |mk v r=>
   obtain⟨e,ok⟩:=r;dsimp only;rw[sH,bd_s];unfold bE5;cases ok with
   |false=>rfl
   |true=>
    dsimp only;rw[av,cF,cF];cases he:(e !=(a.length:Int)) with
    |true=>rfl
    |false=>
     obtain⟨t,q',⟨k1,k2,k3,k4,k5⟩,_⟩:=Uk hb _ _ _ _ _ (by omega) (by omega) hd;rw[bz] at k1;subst k1;have hv:v.length=4*n.toNat:=by omega
     rw[aa,cF,bGc (x:=((AC.mk [],false):AC×Bool)) hv (by omega) (λrec i s hi c hs=>by
      have d:decide ((i:Int)<n)=true:=aq (by omega);have f:IntKind.i64.wrap (4*(i:Int))=((4*i:Nat):Int):=by grind[aI]
      have h:bC (v.drop (4*i)) 0=some (v[4*i]'(by omega)):=bC2 (j:=0) rfl (by omega);have k:bC (v.drop (4*i)) 1=some (v[4*i+1]'(by omega)):=(by grind[bC2]);have l:bC (v.drop (4*i)) 2=some (v[4*i+2]'(by omega)):=(by grind[bC2]);have m:bC (v.drop (4*i)) 3=some v[4*i+3]:=bC2 (j:=3) rfl c;simp only[d,f,bo,ae,aB (show jP v ((4*i:Nat):Int) from⟨by omega,by omega⟩),h,k,l,m,bd_s,gI (show s.length<=34359738368 by omega)]) (by grind) n.toNat 0 FUEL [] (by omega) (by grind[iK]) (by simp)]
     simp only[Nat.mul_zero,gr,bz];cases o:nG v with
     |false=>rfl
     |true=>have hl:=aD9 n.toNat v hv;simp only[ae,nx_r];rw[aB (by grind[nR,AC.sz]),bd_s];cases aM ⟨nR v⟩<;>rfl
def bA9 {a:List Int}(hb:aZ a){k:Nat}(hk:k<=20){τ:Type}{x:τ}{F:(Int×Nat×List AH->Option (τ⊕List AH))->Int×Nat×List AH->Option (τ⊕List AH)}
  (b:∀rec (q:Nat) i s (hi:i<k),q<=a.length->s.length<=100->F rec ((q:Int),i,s)=bif !(lL a 4 q []).2.2 then some (.inl x) else rec ((lL a 4 q []).2.1,i+1,s++nR (lL a 4 q []).1)) (c:∀rec e s,F rec (e,k,s)=some (.inr s)):
  ∀(m i n q:Nat) (s:List AH),i+m=k->m<n->q<=a.length->s.length<=i->EV.bZ n F ((q:Int),i,s)=some (bif (lL a (4*m) q []).2.2 then .inr (s++nR (lL a (4*m) q []).1) else .inl x)
 |0,i,n+1,q,s,h,_,_,_=>by
  have:i=k:=by omega
  subst this;rw[jR,c];simp[lL,nR]
 |m+1,i,n+1,q,s,h,hn,hq,hs=>by
  rw[jR,b _ q i s (by omega) hq (by omega),show 4*(m+1)=4+4*m by omega,aSu 4 (4*m)];cases hd:lL a 4 (q:Int) [] with
  |mk l r=>
   obtain⟨e,ok⟩:=r;cases ok with
   |false=>rfl
   |true=>
    obtain⟨t,q',⟨k1,k2,k3,k4,k5⟩,_⟩:=Uk hb _ _ _ _ _ (by omega) (by omega) hd;rw[bz] at k1;subst k1;subst k3;have hl:(nR l).length=1:=aD9 1 l (by omega);simp only[av,aa,ae];rw[bA9 hb hk b c m (i+1) n q' _ (by omega) (by omega) k4 (by simp[hl];omega),aSv (4*m) (q':Int) l];cases(lL a (4*m) (q':Int) []).2.2 with
    |false=>rfl
    |true=>simp[bE4 1 l _ (by omega)]
def four {l:List Int}(h:l.length=4):∃w x y z,l=[w,x,y,z]:=by
 match l,h with
 |[w,x,y,z],_=>exact⟨w,x,y,z,rfl⟩
def E5 (a:List Int)(hb:aZ a):zA a=some (Ew a):=by
 unfold zA Ew;rw[aB hb,bd_s,sH,bd_s];cases hc:(!(Ab a 0).2.2||decide ((Ab a 0).1>20)) with
 |true=>rfl
 |false=>
  obtain⟨n,q,b,h0,h1,h2⟩:=bGd hb hc;rw[b,aa,aa];dsimp only;rw[bA9 (x:=((AC.mk [],false):AC×Bool)) hb (k:=n.toNat) (by omega) (λrec q i s hi hq hs=>by
   have d:decide ((i:Int)<n)=true:=aq (by omega);simp only[d,ae,aB hb,bd_s,bGe (a:=a) (e:=(q:Int)) (c:=4) (by omega) (by omega) (by omega) (by omega),show Int.toNat 4=4 from rfl];cases hd:lL a 4 (q:Int) [] with
   |mk l r=>
    obtain⟨e,ok⟩:=r;cases ok with
    |false=>rfl
    |true=>
     obtain⟨t,q',⟨k1,k2,_⟩,_⟩:=Uk hb _ _ _ _ _ (by omega) (by omega) hd;rw[bz] at k1;subst k1;obtain⟨w,x,y,z,rfl⟩:=four k2;simp only[av,aa,(by assumption),(by assumption),(by assumption),(by assumption),bd_s,gI (show s.length<=34359738368 by omega)];rfl) (by grind) n.toNat 0 FUEL q [] (by omega) (by grind[iK]) h2 (by simp)]
  rw[show(4*n).toNat=4*n.toNat by omega];unfold bE5;cases hd:lL a (4*n.toNat) (q:Int) [] with
  |mk v r=>
   obtain⟨e,ok⟩:=r;cases ok with
   |false=>rfl
   |true=>
    obtain⟨b1,h,j,m⟩:=bQq hb b h1 (show lL a (4*n).toNat (q:Int) []=(v,e,true) by rw[show(4*n).toNat=4*n.toNat by omega];exact hd);have f:(AC.mk (nR v)).sz<=34359738368:=by grind[AC.sz]
    simp only[ae,nx_r,bz,aB f,bd_s,aB (show aZ (oL ⟨nR v⟩)/\aZ a from⟨aEa _,hb⟩),sH]
    grind[aM,nR,jL,sJ,nG,absurd,Bool.not_true,Bool.not_false,oL]
def aFf (k:Int)(s:AJ)(h:s.Data.length<=34359738200):Gp k s=some (iO k s):=by unfold Gp iO;rw[aB h,aB (by simp)];simp only[bd_s,aB (show s.Data.length<=34359738368 by omega),aB (bCg (k:=aW k [223,s.Epoch,s.Version]) (show s.Data.length<=34359738368 by omega))];unfold mI;cases bG k<;>cases bK s.Epoch 0 1000000<;>cases bK s.Version 0 1000000<;>cases(s.MAC !=jK k s)<;>rfl
def aFg (k:Int)(s:AJ)(h:s.Data.length<=34359738200):Fx k s=some (iO k s):=by unfold Fx iO;rw[aB h,aB (by omega)];simp only[bd_s,aB (bCg (k:=mI k s.Epoch s.Version) (show s.Data.length<=34359738368 by omega))];cases bG k<;>cases bK s.Epoch 0 1000000<;>cases bK s.Version 0 1000000<;>cases(s.MAC !=jK k s)<;>rfl
def aFh (d:AF)(l:List AD)(bx:AM)(s:AJ)(h:d.sz<=34359738368/\l.length<=34359738368/\bx.sz<=34359738368/\s.Data.length<=34359738200):Gq d l bx s=some (bT d l bx s):=by
 obtain⟨h1,h2,a,b⟩:=h;have c:=gG l;have hb:d.aAE.sz<=34359738368:=by grind[AF.sz,AC.sz]
 unfold Gq bT kH;simp only[aB h1,aB h2,aB a,aB b,aB (by omega),bd_s,sH,bif_and,bif_or,qF]
 grind[aT,cZ,jG,aC,aS,aF,bS,bx,decide,iN,aB,bd_s,iO,bAj]
def aFi (d:AF)(l:List AD)(bx:AM)(s:AJ)(h:d.sz<=34359738368/\l.length<=34359738368/\bx.sz<=34359738368/\s.Data.length<=34359738200):Fy d l bx s=some (bT d l bx s):=by
 obtain⟨h1,h2,a,b⟩:=h;have c:=gG l;have hb:d.aAE.sz<=34359738368:=by grind[AF.sz,AC.sz]
 unfold Fy bT kH;simp only[aB h1,aB h2,aB a,aB b,aB (by omega),bd_s,sH,bif_and,bif_or,qF]
 grind[aT,cZ,jG,aC,aS,aF,bS,bx,decide,iN,aB,bd_s,iO,bAj]
theorem bBa {c:AO}(h:c.sz<=34359738100)(b:Int):c.Log.length<=34359738100/\c.Boxes.sz<=34359738100/\(fP c b).1.Data.length<=34359738100:=by
 grind[decide,aUv,Uj,wV,AJ.sz,fP,AM.sz,AO.sz]
def aUw (d:AF)(c:AO)(b:Int)(h:d.sz<=34359738100/\c.sz<=34359738100):Vv d c b=some (bT d c.Log c.Boxes (fP c b).1):=by obtain⟨h1,h2⟩:=h;obtain⟨k1,k2,k3⟩:=bBa h2 b;unfold Vv;rw[aB (by omega),bd_s,aB (by grind),bd_s]
theorem aUx {w:AA}{d:Int}(h:aN w d=true):0<=d/\d.toNat<w.Devices.length/\(aL w d).sz<=w.sz/\aL w d=w.Devices.getD d.toNat default:=by
 simp only[aN,ac,ca] at h;have hi:d.toNat<w.Devices.length:=by omega
 have:=wV (f:=AF.sz) hi;refine⟨h.1,hi,?_,rfl⟩;show(w.Devices.getD d.toNat default).sz<=_
 grind[AA.sz]
theorem aFj (w:AA):w.aAD.sz<=w.sz:=by grind[AA.sz,AO.sz,AM.sz]
def aUy (w:AA)(d b:Int)(c:w.sz<=34359738100):Wl w d b=some (aR w d b):=by have a:=aFj w;unfold Wl aR;rw[aB (by omega),bd_s,aB (by omega),bd_s,sH,bd_s,<-Bool.not_and];cases hc:(aP w&&aN w d)<;>grind[aP,aN,k1,k2,k3,k4,aUx,bBa,Bool.not_true,aB,bd_s,tL]
def bLf {k:Int}{b:List Int}(hl:b.length<=34359738368){F:(List Int×Nat->Option (List Int))->List Int×Nat->Option (List Int)}
  (a:∀rec i s (hi:i<b.length),s.length<=34359738368->F rec (s,i)=rec (s++[bHy k i b[i]],i+1)) (c:∀rec s,F rec (s,b.length)=some s):EV.bZ FUEL F ([],0)=some (nS k b):=by
 refine X3 (λi s=>i<=b.length/\s=(Ri (λi z=>[bHy k i z]) 0 (b.take i),i)) b.length _ (by omega) ⟨by omega,by simp[Ri]⟩ (λi s rec hi hv=> ?_) (λs rec hv=> ?_)
 ·obtain⟨_,rfl⟩:=hv;refine .inl ⟨_,⟨hi,rfl⟩,?_⟩;rw[a rec i _ hi (by rw[tN,cg];omega),aKs hi,ck]
 ·obtain⟨_,rfl⟩:=hv;rw[c,de];rfl
def aUz (k:Int)(b:List Int)(h:aZ b):Wm k b=some (nS k b):=by unfold Wm;rw[bLf (k:=k) h.1 (by grind[bQs,xD,dM,aQ,bd_s,aB,gd_T,gI]) (by simp)];rfl
def aU0 (k:Int)(b:List Int)(h:aZ b):Vg k b=some (nS k b):=by unfold Vg;rw[bLf (k:=k) h.1 (by grind[bQt,xD,dM,aQ,bd_s,aB,gd_T,gI]) (by simp)];rfl
def Wv (b:List Int)(n:Int)(h:b.length<=34359738300):xS b n=some (tY b n):=by
 unfold xS tY enc1;have e:(decide (n<0)||decide (n>1000000000000))= !bK n 0 1000000000000:=by
  grind[bK]
 rw[aB (by omega),bd_s,sH,bd_s,e]
 grind[bK,Bool.not_true,bLe,gU,decide,Int.tmod_eq_emod_of_nonneg,aI,aSt,Int.tdiv_eq_ediv_of_nonneg,gd_T,gI]
def aFk (l:List Int)(h:l.length<=5000000000):Gr l=some (jL l):=by unfold Gr;rw[gV (l:=l) tY (λi s=>s.length<=6*i) (λs=>some s) (by omega) (by simp) (by grind[aD7,tY,List.length_append]) (by grind[dM,aQ,bd_s,aB]) (by simp),aKv];rfl
def E8 (b:AC)(h:b.sz<=34359738368):zM b=some (oL b):=by
 unfold zM oL;rw[aB h,bd_s];cases hb:aM b with
 |false=>rfl
 |true=>
  have hl:=pM hb;have hv:(sJ b).length=1+4*b.Entries.length:=by grind[sJ,vW]
  rw[av,aa,ae,gV (l:=b.Entries) (λs e=>s++aXe e) (λi s=>s.length<=1+4*i) (λs=>some s) (by omega) (by simp) (by grind[aXe,List.length_append,List.length_cons,List.length_nil]) (λrec i s hi hv=>by
   have e:∀x y z w:Int,gd (aX s [x,y,z,w]) (rec (s++[x,y,z,w],i+1))=rec (s++[x,y,z,w],i+1):=(by grind[aB,aX,List.length_cons,List.length_nil]);simp only[dM hi,ae,aQ hi,bd_s,Cu,qF,e];rfl) (by simp),aAx,bd_s]
  grind[aB,kU,sJ,bd_s]
def bR9 (k:Int)(b:AC):(nS k (oL b)).length<=34359738200:=by grind[Um,bAl]
def aFl (k e v:Int)(b:AC)(h:b.sz<=34359738368):Gu k e v b=some (qW k e v b):=by unfold Gu qW gD mI;simp only[aB h,bd_s,aB (show[(223:Int),e,v].length<=34359738300 by simp),aB (aEa b),aB (bR9 (aW k [223,e,v]) b)];cases bG k<;>cases bK e 0 1000000<;>cases bK v 0 1000000<;>cases aM b<;>rfl
def aFm (k e v:Int)(b:AC)(h:b.sz<=34359738368):Fu k e v b=some (qW k e v b):=by unfold Fu qW gD;simp only[aB h,bd_s,aB (aEa b),aB (bR9 (mI k e v) b)];cases bG k<;>cases bK e 0 1000000<;>cases bK v 0 1000000<;>cases aM b<;>rfl
def aKw (a b:AJ):Lp a b=some (qP a b):=by unfold Lp qP;cases decide (a.Epoch>b.Epoch)<;>cases(a.Epoch==b.Epoch)<;>rfl
def aKx (a b:AJ):Kl a b=some (qP a b):=by unfold Kl qP;cases decide (a.Epoch>b.Epoch)<;>cases(a.Epoch==b.Epoch)<;>rfl
def bLg {d:AF}(h:d.sz<=34359738368):d.aAE.sz<=34359738368:=by grind[AF.sz,AC.sz]
def aAy (d:AF)(h:d.sz<=34359738368):Dj d=some (dQ d):=by unfold Dj dQ;simp only[aB h,aB (bLg h),bd_s];cases(qW d.Key d.Epoch (IntKind.i64.wrap (d.Version+1)) d.aAE).2<;>rfl
def aAz (d:AF)(h:d.sz<=34359738368):Cc d=some (dQ d):=by unfold Cc dQ;simp only[aB h,aB (bLg h),bd_s];cases(qW d.Key d.Epoch (IntKind.i64.wrap (d.Version+1)) d.aAE).2<;>rfl
def bBb (c:AO)(s:AJ)(h:c.sz<=34359738300/\s.sz<=34359738300):(bd (gd (c.sz<=34359738368) (some c)) λa=>bd (gd (c.Log.length<=34359738368) (some (aF c.Log))) λd=>bd (bif (s.Epoch !=d) then some true else(bif decide ((c.History.length:Int)>0) then(bd (bC c.History (IntKind.i64.wrap ((c.History.length:Int)-1))) λb=>bd (some (qP s b)) λe=>bif !e then some true else some (decide ((c.History.length:Int)>=60))) else some (decide ((c.History.length:Int)>=60)))) λf=>bif f then some (a,false) else bd (gd (s.sz<=34359738368) (some s)) λb=>gd (aX a.History [b]) (some (AO.mk a.Log a.Boxes (a.History++[b]),true)))=some (dJ c s):=by
 obtain⟨h1,h2⟩:=h;have i:=h1;simp only[AO.sz] at i;unfold dJ;simp only[aB (show c.sz<=34359738368 by omega),aB (show c.Log.length<=34359738368 by omega),aB (show s.sz<=34359738368 by omega),bd_s,gI (show c.History.length<=34359738368 by omega)];by_cases h0:0<c.History.length
 ·have j:bC c.History (IntKind.i64.wrap ((c.History.length:Int)-1))=some (c.History.getD (c.History.length-1) default):=by rw[aI (by omega) (by omega),tV (by omega) (by omega)];simp
  rw[aq (show(c.History.length:Int)>0 by omega),j];generalize c.History.getD (c.History.length-1) default=x;simp only[bd_s,ae,cq];cases(s.Epoch !=aF c.Log)<;>cases qP s x<;>cases decide ((c.History.length:Int)>=60)<;>rfl
 simp[*]
def E9 (c:AO)(s:AJ)(h:c.sz<=34359738300/\s.sz<=34359738300):y7 c s=some (dJ c s):=bBb c s h
def F3 (c:AO)(s:AJ)(h:c.sz<=34359738300/\s.sz<=34359738300):w9 c s=some (dJ c s):=bBb c s h
theorem aBN {w:AA}{d:Int}(a:w.sz<=10000000000)(h:((aR w d 0).2==0)=true):(aN (aR w d 0).1 d=true/\(aL (aR w d 0).1 d).sz<=34359738368)/\((aR w d 0).1.aAD.sz<=34359738300/\(dQ (aL (aR w d 0).1 d)).2.1.sz<=34359738300):=by
 grind[AJ.sz,AA.sz,AO.sz,Aq,aL,aR,aFj,aUx,aN,k4,k2,k1,k3,k5,tZ]
def aFn (w:AA)(d:Int)(a:w.sz<=10000000000):Gv w d=some (jS w d):=by
 unfold Gv jS
 grind[aR,k1,k2,k3,aBN,Bool.not_true,tL,bd_s,aB,upF,dQ,aL,dJ,bne]
def aFo (s n:Int):aEp s n=some (aO s n):=by rfl
def aFp (s n:Int):aEu s n=some (aO s n):=by rfl
def aKy (s:AK):aJ2 s=some (bE s):=rfl
def aKz (s:AK):aJ4 s=some (bE s):=rfl
def aA0 (s:AK)(n:ByteArray)(k:Int)(h:n.size<=34359738300):Bv s n k=some (cB s n k):=by unfold Bv;rw[aB h,bd_s,aB (by simp)];rfl
def aA1 (s:AK)(n:ByteArray)(k:Int)(h:n.size<=34359738300):Cw s n k=some (cB s n k):=by unfold Cw;rw[aB h,bd_s,aB (by simp)];rfl
def aFq (s:AK)(n:ByteArray)(k:Int)(h:n.size<=34359738300):Fp s n k=some (dY s n k):=by unfold Fp;rw[aB h];rfl
def aFr (s:AK)(n:ByteArray)(k:Int)(h:n.size<=34359738300):Gt s n k=some (dY s n k):=by unfold Gt;rw[aB h];rfl
def F4 (s:AK)(l:List Int)(h:l.length<=34359738300):yX s l=some (lQ s l):=by unfold yX;rw[aB h];rfl
def F5 (s:AK)(l:List Int)(h:l.length<=34359738300):zK s l=some (lQ s l):=by unfold zK;rw[aB (by simp),bd_s,aB h];rfl
def aFs (e:AM)(d:Int)(h:e.Boxes.length<=34359738368):Fj e d=some (nH e d):=by unfold Fj;rw[gV (l:=e.Boxes) (λn b=>bif b.To==d then IntKind.i64.wrap (n+1) else n) (λ_ _=>True) (λs=>some s) (by omega) trivial (by simp) (by grind[dM,aQ,bd_s]) (by simp)];rfl
def aFt (e:AM)(d:Int)(h:e.Boxes.length<=34359738368):Gs e d=some (nH e d):=by unfold Gs;rw[gV (l:=e.Boxes) (λn b=>bif b.To==d then IntKind.i64.wrap (n+1) else n) (λ_ _=>True) (λs=>some s) (by omega) trivial (by simp) (by grind[dM,aQ,bd_s]) (by simp)];rfl
def aA2 (l:List AD)(k d:Int)(s:AK)(h:l.length<=34359738300):Bo l k d s=some (dZ l k d s):=by
 have h1:l.length<=34359738368:=by omega
 have e:∀x:AD,gd ((l++[x]).length<=34359738368) (some (aT (l++[x])))=some (aT (l++[x])):=(by grind[aB]);have a:∀x:Int,gd ([x].length<=34359738300) (some (lQ s [x]))=some (lQ s [x]):=λx=>aB (by simp);unfold Bo dZ Jp bE6;simp only[aB h1,bd_s,a,gI h1,e];generalize aT (l++_)=q;cases decide ((l.length:Int)>0)<;>cases aT l<;>cases q<;>rfl
def aA3 (l:List AD)(k d:Int)(s:AK)(h:l.length<=34359738300):Df l k d s=some (dZ l k d s):=by
 have h1:l.length<=34359738368:=by omega
 have e:∀x:AD,gd ((l++[x]).length<=34359738368) (some (aT (l++[x])))=some (aT (l++[x])):=(by grind[aB]);have a:∀x:Int,gd ([x].length<=34359738300) (some (lQ s [x]))=some (lQ s [x]):=λx=>aB (by simp);unfold Df dZ Jp bE6;simp only[aB h1,bd_s,a,gI h1,e];generalize aT (l++_)=q;cases decide ((l.length:Int)>0)<;>cases aT l<;>cases q<;>rfl
def aU1 (p e:Int)(d:List Int)(h:aZ d):(bd (bif gY p==0 then some true else bif !bG e then some true else some (decide ((d.length:Int)>200))) λb=>bif b then some (AN.mk 0 0 [] 0,false) else bd (gd (aZ d) (some (nS (iL (gY p) e) d))) λa=>bd (gd (a.length<=34359738200) (some (Uc (iL (gY p) e) (AN.mk p e a 0)))) λc=>some (AN.mk p e a c,true))=some (gQ p e d):=by
 grind[gY,bG,decide,Bool.or_eq_false_iff,decide_eq_false_iff_not,aB,bd_s,nS,iL,Um,sH,gQ,nT]
def aU2 (p e:Int)(d:List Int)(h:aZ d):aTw p e d=some (gQ p e d):=aU1 p e d h
def aU3 (p e:Int)(d:List Int)(h:aZ d):aT0 p e d=some (gQ p e d):=aU1 p e d h
def aK0 (l:List Int)(e:Int)(d:List Int)(h:l.length<=34359738300/\aZ d):Kh l e d=some (gH e d 0 l):=by
 obtain⟨h1,h2⟩:=h;unfold Kh;rw[aJh (e:=e) (d:=d) (l:=l) (x:=(([],false):List AN×Bool)) (by grind[dM,aQ,bd_s,aB,gI]) (by simp) l.length 0 FUEL [] (by omega) (by grind[iK]) (by simp),gr];cases hs:(gH e d 0 l).2 with
 |true=>rw[ae,nx_r,bz,<-hs]
 |false=>rw[aa,bFc hs];rfl
def aK1 (l:List Int)(e:Int)(d:List Int)(h:l.length<=34359738300/\aZ d):Li l e d=some (gH e d 0 l):=by
 obtain⟨h1,h2⟩:=h;unfold Li;rw[aJh (e:=e) (d:=d) (l:=l) (x:=(([],false):List AN×Bool)) (by grind[dM,aQ,bd_s,aB,gI]) (by simp) l.length 0 FUEL [] (by omega) (by grind[iK]) (by simp),gr];cases hs:(gH e d 0 l).2 with
 |true=>rw[ae,nx_r,bz,<-hs]
 |false=>rw[aa,bFc hs];rfl
def bLh (a b:Int):aZ (jL [a,b]):=aSw (by grind[bE8]) (Y5 _)
def Rv (l:List AD)(k e:Int)(h:l.length<=34359738300):uV l k e=some (bF l k e):=by have hd:=gG l;unfold uV bF;simp only[aB (show l.length<=34359738368 by omega),bd_s,aB (show[aF l,k].length<=5000000000 by simp),aB (show(aC l).length<=34359738300/\aZ (jL [aF l,k]) from⟨by omega,bLh _ _⟩)];cases aT l<;>cases bG k<;>cases(gH e (jL [aF l,k]) 0 (aC l)).2<;>rfl
def Rw (l:List AD)(k e:Int)(h:l.length<=34359738300):vG l k e=some (bF l k e):=by have hd:=gG l;unfold vG bF;simp only[aB (show l.length<=34359738368 by omega),bd_s,aB (show[aF l,k].length<=5000000000 by simp),aB (show(aC l).length<=34359738300/\aZ (jL [aF l,k]) from⟨by omega,bLh _ _⟩)];cases aT l<;>cases bG k<;>cases(gH e (jL [aF l,k]) 0 (aC l)).2<;>rfl
def bLi (e:AM)(l:List Int):(l.all λd=>nH e d==1)= !(l.any λd=>nH e d !=1):=by
 grind
def aK2 (e:AM)(l:List AD)(h:e.Boxes.length<=34359738368/\l.length<=34359738368):Ki e l=some (iY e l):=by obtain⟨h1,h2⟩:=h;have hd:=gG l;unfold Ki iY;rw[aB h2,bd_s,kZ (l:=aC l) (λd=>nH e d !=1) (.inl false) (.inr PUnit.unit) (by omega) (by grind[dM,aQ,bd_s,aB]) (by simp),bLi];simp only[aB h2,bd_s];cases(aC l).any (λd=>nH e d !=1)<;>cases(e.Epoch==aF l)<;>cases((e.Boxes.length:Int)==((aC l).length:Int))<;>rfl
def aK3 (e:AM)(l:List AD)(h:e.Boxes.length<=34359738368/\l.length<=34359738368):Lj e l=some (iY e l):=by obtain⟨h1,h2⟩:=h;have hd:=gG l;unfold Lj iY;rw[aB h2,bd_s,aB h2,bd_s,kZ (l:=aC l) (λd=>nH e d !=1) (.inl false) (.inr PUnit.unit) (by omega) (by grind[dM,aQ,bd_s,aB]) (by simp),bLi];simp only[bne];cases(aC l).any (λd=> !(nH e d==1))<;>cases(e.Epoch==aF l)<;>cases((e.Boxes.length:Int)==((aC l).length:Int))<;>rfl
def bYt {e:AM}(h:e.sz<=34359738368):e.Boxes.length<=34359738368:=by grind[AM.sz]
def aK4 (c:AO)(l:List AD)(e:AM)(h:c.sz<=34359738368/\l.length<=34359738368/\e.sz<=34359738368):Ll c l e=some (lW c l e):=by obtain⟨h1,h2,a⟩:=h;unfold Ll lW;simp only[aB h1,aB h2,aB a,bd_s,aB (show e.Boxes.length<=34359738368/\l.length<=34359738368 from⟨bYt a,h2⟩)];cases aT l<;>cases cZ l c.Log<;>cases iY e l<;>rfl
def aA4 (s:AB)(i:Int)(h:s.Accounts.length<=34359738368):Bw s i=some (aD s i):=by unfold Bw;exact Jm (l:=s.Accounts) (λa=>a.Id==i) (by omega) (by grind[dM,aQ,bd_s]) (by simp)
def aA5 (s:AB)(i:Int)(h:s.Accounts.length<=34359738368):Cr s i=some (aD s i):=by unfold Cr;exact Jm (l:=s.Accounts) (λa=>a.Id==i) (by omega) (by grind[dM,aQ,bd_s]) (by simp)
def bWa {l:List AU}{h p:Int}(a:l.length<=34359738300){β:Type}(k:List AU->Option β):gd (jP l ((o9 h l:Nat):Int)) (gd (jP l ((o9 h l:Nat):Int)) (gd (aX [] (List.take (o9 h l) l)) (gd (aX ([]++List.take (o9 h l) l) [AU.mk h p 0 false]) (gd (aX ([]++List.take (o9 h l) l++[AU.mk h p 0 false]) (List.drop (o9 h l) l)) (k ([]++List.take (o9 h l) l++[AU.mk h p 0 false]++List.drop (o9 h l) l))))))=k (aEb l h p):=by have hk:o9 h l<=l.length:=Uo;have h1:jP l ((o9 h l:Nat):Int):=⟨by omega,by omega⟩;rw[aB h1,aB h1,aB (by grind[aX]),aB (by grind[aX]),aB (by grind[aX])];rfl
def bLj {l:List AU}{h:Int}(a:l.length<=34359738300):EV.bZ (α:=Int) FUEL (λrec (i:Int)=>bd (bif decide (i<(l.length:Int)) then(bd (bC l i) λz=>some (decide (z.Handle<h))) else some false) λz=>bif z then rec (IntKind.i64.wrap (i+1)) else some i) 0=some ((o9 h l:Nat):Int):=by have:=aJg (l:=l) (λc=>decide (c.Handle<h)) (λi=>some (i:Int)) (λi=>(i:Int)) (F:=λrec (i:Int)=>bd (bif decide (i<(l.length:Int)) then(bd (bC l i) λz=>some (decide (z.Handle<h))) else some false) λz=>bif z then rec (IntKind.i64.wrap (i+1)) else some i) (by omega) (by grind[dM,aQ,bd_s,aI]) (by simp);exact this
def bWb {a:AI}(b:a.sz<=34359738300)(h p:Int):(AI.mk a.Id a.Minimum (aEb a.Credentials h p)).sz<=34359738368:=by
 grind[AI.sz,bE9]
def Ww (a:AI)(h p:Int)(b:a.sz<=34359738300):xM a h p=some (fJ a h p):=by
 have h1:a.sz<=34359738368:=by omega
 have hc:a.Credentials.length<=34359738300:=b;unfold xM fJ;rw[aB h1,bd_s,bLj hc];simp only[aB h1,bd_s,bo];rw[bWa hc (λL=>bd (bif !bA a then some true else(bd (gd ((AI.mk a.Id a.Minimum L).sz<=34359738368) (some (bA (AI.mk a.Id a.Minimum L)))) λc=>some (!c))) λd=>bif d then some (a,false) else some (AI.mk a.Id a.Minimum L,true))];simp only[bd_s,aB (bWb b h p)];cases bA a<;>cases bA {a with Credentials:=aEb a.Credentials h p}<;>rfl
def Wx (a:AI)(h p:Int)(b:a.sz<=34359738300):xU a h p=some (fJ a h p):=by
 have h1:a.sz<=34359738368:=by omega
 have hc:a.Credentials.length<=34359738300:=b;unfold xU fJ;rw[aB h1,bd_s,bLj hc];simp only[aB h1,bd_s,bo];rw[bWa hc (λL=>bd (gd ((AI.mk a.Id a.Minimum L).sz<=34359738368) (some (bA (AI.mk a.Id a.Minimum L)))) λc=>bif (!c) then some (a,false) else some (AI.mk a.Id a.Minimum L,true))];simp only[bd_s,aB (bWb b h p)];cases bA a<;>cases bA {a with Credentials:=aEb a.Credentials h p}<;>rfl
def bIx {a:AI}{h p:Int}(hn:(fJ a h p).2=false):(fJ a h p).1=a:=by
 grind[bA,aEb,fJ]
def aA6 (s:AB)(i h p:Int)(a:s.sz<=34359738300):Ca s i h p=some (eF s i h p):=by
 have h1:s.sz<=34359738368:=by omega
 have hl:s.Accounts.length<=34359738368:=by grind[AB.sz]
 unfold Ca eF;simp only[aB h1,aB hl,bd_s];rw[sH,bd_s];cases hc:(!bW s||decide (aD s i<0)) with
 |true=>rfl
 |false=>
  rw[bc] at hc;obtain⟨b,c,d⟩:=bH1 a hc.2;simp only[aa,b,bd_s,aB c];cases e:(fJ (s.Accounts.getD (aD s i).toNat default) h p).2 with
  |true=>rfl
  |false=>simp_all[bIx,bQo]
def aA7 (s:AB)(i h p:Int)(a:s.sz<=34359738300):Dh s i h p=some (eF s i h p):=by
 grind[bW,decide,aD,Bool.or_eq_false_iff,bH1,bd_s,aB,fJ,default,sH,Dh,eF,AB.sz]
def aK5 (i:Int):(aA i).size<=34359738300:=by unfold aA;cases i==0<;>cases i==1<;>decide
def bSa {w:AA}{d:Int}(a:aP w=true)(hd:aN w d=true):bC w.Stolen d=some (bX w d):=by
 grind[bX,List.getD,List.getElem?_eq_getElem,kY,aN,aP]
def bLk {p r:List AB}{s:AB}:bC (p++s::r) ((p.length:Nat):Int)=some s:=by simp[aQ]
def bGf {p r:List AB}{s y:AB}:(p++s::r).set (Int.toNat ((p.length:Nat):Int)) y=p++y::r:=by simp
def bLl {c:List AF}{d:AF}{b n:Int}{rm:Bool}(hb:0<=b)(hi:b.toNat<c.length)(hd:c[b.toNat]=d)(k:d.sz<=34359738300):EV.bZ (α:=List AF) FUEL (λrec (i:Nat×List AF)=>bif decide ((i.1:Int)<2) then(bd (bC i.2 b) λa=>bd (gd (a.sz<=34359738360/\(aA (i.1:Int)).size<=34359738300) (some (dI a (aA (i.1:Int)) n rm))) λe=>bd (bC i.2 b) λf=>rec (i.1+1,i.2.set b.toNat e.1)) else some i.2) (0,c)=some (c.set b.toNat (mX d n rm)):=by
 have h1:=Jo d (aA 0) n rm;have h:bC c b=some d:=by rw[kY hb (by omega),hd]
 have j:bC (c.set b.toNat (dI d (aA 0) n rm).1) b=some (dI d (aA 0) n rm).1:=by grind[kY]
 rw[show FUEL=FUEL-3+1+1+1 from by have:=iK;omega,jR];show(bd (bC c b) λa=>bd (gd (a.sz<=34359738360/\(aA 0).size<=34359738300) (some (dI a (aA 0) n rm))) λe=>bd (bC c b) λf=>EV.bZ (FUEL-3+1+1) _ (1,c.set b.toNat e.1))=_;rw[h,bd_s,aB ⟨by omega,aK5 0⟩,bd_s,bd_s,jR];show(bd (bC (c.set b.toNat (dI d (aA 0) n rm).1) b) λa=>bd (gd (a.sz<=34359738360/\(aA 1).size<=34359738300) (some (dI a (aA 1) n rm))) λe=>bd (bC (c.set b.toNat (dI d (aA 0) n rm).1) b) λf=>EV.bZ (FUEL-3+1) _ (2,(c.set b.toNat (dI d (aA 0) n rm).1).set b.toNat e.1))=_;rw[j,bd_s,aB ⟨by omega,aK5 1⟩,bd_s,bd_s,jR,eo];rfl
def bSb {w:AA}{b:Int}(a:w.sz<=100000000)(h1:aP w=true)(hs:((aR w b 0).2==0)=true):((aN (aR w b 0).1 b=true/\(aR w b 0).1.Sites.length=2)/\(aR w b 0).1.sz<=300000000)/\(aR w b 0).1.aAD.Log.length<=100000000:=by
 grind[aP,aR,aN,k4,k2,k3,AA.sz,AO.sz,k1,k5,tZ]
def bN9 {L:List AZ}(a:30<L.length)(b:L.length<=34359738301):gd (jP L ((xG L:Nat):Int)) (gd (jP L (IntKind.i64.wrap (((xG L:Nat):Int)+1))) (gd (aX [] (List.take (Int.toNat ((xG L:Nat):Int)) L)) (gd (aX ([]++List.take (Int.toNat ((xG L:Nat):Int)) L) (List.drop (Int.toNat (IntKind.i64.wrap (((xG L:Nat):Int)+1))) L)) (some ([]++List.take (Int.toNat ((xG L:Nat):Int)) L++List.drop (Int.toNat (IntKind.i64.wrap (((xG L:Nat):Int)+1))) L)))))=some (Pt L):=by
 have hs:=bFb (l:=L) (by omega);have e:IntKind.i64.wrap (((xG L:Nat):Int)+1)=((xG L+1:Nat):Int):=by grind[aI]
 rw[e,aB ⟨by omega,by omega⟩,aB ⟨by omega,by omega⟩,aB (by grind[aX]),aB (by grind[aX]),bo,bo]
 grind[decide_eq_true,Pt]
def bU2 (l:List AZ)(x:AZ)(h:l.length<=34359738300):(AV.mk (Pt (l++[x]))).sz<=34359738368:=by
 grind[AV.sz,List.length_append,List.length_singleton,bAm]
theorem bSc {L:List AZ}(h:¬30<L.length):Pt L=L:=by
 grind[decide_eq_false,Pt]
def aFu (m:AV)(k a t:Int)(c:m.sz<=34359738300):Gi m k a t=some (Ex m k a t):=by
 have h1:m.sz<=34359738368:=by omega
 have hm:m.Notices.length<=34359738300:=c;have d:(m.Notices++[(⟨k,a,t,false⟩:AZ)]).length=m.Notices.length+1:=by simp
 have hn:=bU2 m.Notices ⟨k,a,t,false⟩ hm;unfold Gi Ex;simp only[aB h1,bd_s,gI (show m.Notices.length<=34359738368 by omega)];generalize hg:m.Notices++[(⟨k,a,t,false⟩:AZ)]=L at*;by_cases b:30<L.length
 ·rw[aq (show(L.length:Int)>30 by omega),bUe (l:=L) (λi=>some i) (λi=>((0:Int),i)) (by omega) (by grind[dM,aQ,bd_s]) (by simp),ae,bd_s,bN9 b (by omega),bd_s,aB hn,bd_s];cases jZ m<;>cases jZ ⟨Pt L⟩<;>rfl
 grind[decide_eq_false,bd_s,bSc,aB,jZ]
def bGg {τ:Type}{x:τ}{st:AK}{n:Int}{N:Nat}{F:(Nat×List AB->Option (τ⊕List AB))->Nat×List AB->Option (τ⊕List AB)}
  (a:∀rec (p:List AB) (s:AB) (r:List AB),p.length+r.length+1=N->s.sz<=34359738300->F rec (p.length,p++s::r)=bif !(eF s 1 n (dY st (aA (p.length:Int)) n)).2 then some (.inl x) else rec (p.length+1,p++(eF s 1 n (dY st (aA (p.length:Int)) n)).1::r)) (b:∀rec S,F rec (N,S)=some (.inr S)):
  ∀(r p:List AB) (m:Nat),p.length+r.length=N->r.length<m->(∀s∈r,s.sz<=34359738300)->EV.bZ m F (p.length,p++r)=some (bif (gK st n p.length r).2 then .inr (p++(gK st n p.length r).1) else .inl x)
 |[],p,m+1,h,_,_=>by
  simp only[bp,du] at h;rw[jR,h,b];simp[gK]
 |s::r,p,m+1,h,hm,hs=>by
  simp only[au] at h hm;rw[jR,a _ p s r (by omega) (hs s (by simp)),gK];cases hr:(eF s 1 n (dY st (aA (p.length:Int)) n)).2 with
  |false=>rfl
  |true=>have:=bGg a b r (p++[(eF s 1 n (dY st (aA (p.length:Int)) n)).1]) m (by simp;omega) (by omega) (λy c=>hs y (by simp[c]));simp only[ay,cz,cm,cM,bz] at this;rw[av,aa,this];cases(gK st n (p.length+1) r).2<;>rfl
def bOa {τ:Type}{x:τ}{st:AK}{n:Int}{N:Nat}{l:List AB}(d:l.length=N)(a:N<=100)(hs:∀s∈l,s.sz<=34359738300){F:(Nat×List AB->Option (τ⊕List AB))->Nat×List AB->Option (τ⊕List AB)}
  (b:∀rec (p:List AB) (s:AB) (r:List AB),p.length+r.length+1=N->s.sz<=34359738300->F rec (p.length,p++s::r)=bif !(eF s 1 n (dY st (aA (p.length:Int)) n)).2 then some (.inl x) else rec (p.length+1,p++(eF s 1 n (dY st (aA (p.length:Int)) n)).1::r)) (c:∀rec S,F rec (N,S)=some (.inr S)):EV.bZ FUEL F (0,l)=some (bif (gK st n 0 l).2 then .inr (gK st n 0 l).1 else .inl x):=by
 have:=bGg b c l [] FUEL (by simp;omega) (by have:=iK;omega) hs;assumption
def Ht (w:AA)(b:Int):AA×Bool:=bif (add1 w b).2&&((Y6 w b).2&&((qY w b).2&&(Ef w b).2==0)) then(qX (Ef w b).1 2,true) else(w,false)
def bOb {w:AA}{b:Int}(h1:aP w=true)(h2:aN w b=true)(a:bX w b=false)(c:decide ((w.Devices.length:Int)>=6)=false)(d:((aR w b 0).2==0)=true):fG w b=Ht w b:=by
 grind[fG,Bi,Ht]
def aA8 {w:AA}{b:Int}(h:(add1 w b).2=false):Ht w b=(w,false):=by grind[Ht]
def Wy {w:AA}{b:Int}(h:(Y6 w b).2=false\/(qY w b).2=false\/((Ef w b).2==0)=false):Ht w b=(w,false):=by unfold Ht;rcases h with h|h|h<;>rw[h]<;>simp
def bGh {w:AA}{b:Int}(h1:(add1 w b).2=true)(h2:(Y6 w b).2=true)(a:(qY w b).2=true)(c:((Ef w b).2==0)=true):Ht w b=(qX (Ef w b).1 2,true):=by
 grind[Ht]
def bU3 {w:AA}{b:Int}(c:w.sz<=100000000)(h0:((aR w b 0).2==0)=true)(a:(qY w b).2=true):(appW (qY w b).1 (bE (aO w.Seed (w.Devices.length:Int)))).sz<=34359738100/\((Ef w b).2==0->(Ef w b).1.Mail.sz<=34359738300):=by
 obtain⟨d,e⟩:=bKn h0 a;have f:(bE (aO w.Seed (w.Devices.length:Int))).sz=0:=rfl
 grind[Ef,AV.sz,AA.sz,aR,appW,qY,bE,aO,bKm,tZ]
def Me {w:AA}{b:Int}(h:(aP w&&(aN w b&&(!bX w b&& !decide ((w.Devices.length:Int)>=6))))=false\/((aR w b 0).2==0)=false):fG w b=(w,false):=by
 grind[fG,Bi]
def F6 (w:AA)(b:Int)(k:w.sz<=100000000):zN w b=some (fG w b):=by
 have f:w.sz<=34359738368:=by omega
 unfold zN;rw[aB f,bd_s];cases h1:aP w with
 |false=>rw[Me (.inl (by rw[h1];rfl))];simp only[dc,ae,bd_s,aB f]
 |true=>
 cases h2:aN w b with
 |false=>rw[Me (.inl (by rw[h1,h2];rfl))];simp only[dc,av,ae,aa,bd_s,aB f]
 |true=>
 rw[bSa h1 h2];cases t:bX w b with
 |true=>rw[Me (.inl (by rw[h1,h2,t];rfl))];simp only[av,ae,aa,bd_s,aB f]
 |false=>
 cases G:decide ((w.Devices.length:Int)>=6) with
 |true=>rw[Me (.inl (by rw[h1,h2,t,G];rfl))];simp only[av,ae,aa,bd_s,aB f]
 |false=>
 simp only[av,aa,bd_s,aB (show w.sz<=34359738100 by omega),bne];cases hs:((aR w b 0).2==0) with
 |false=>rw[Me (.inr hs)];simp only[dc,ae,bd_s,aB f]
 |true=>
 rw[bOb h1 h2 t G hs];obtain⟨⟨⟨u,V⟩,K⟩,W⟩:=bSb k h1 hs;have v:AK.mk (1:Int) (w.Devices.length:Int) (aW w.Seed [277,(w.Devices.length:Int)]) 0=aO w.Seed (w.Devices.length:Int):=rfl;simp only[v,tL u,bd_s,aB (show(aR w b 0).1.aAD.Log.length<=34359738300 by omega),aB f,av,aa];have y:=vZ (aR w b 0).1.aAD.Log 1 (aS (aO w.Seed (w.Devices.length:Int))) (aL (aR w b 0).1 b).Store;obtain⟨l,hl⟩:∃l,l=dZ (aR w b 0).1.aAD.Log 1 (aS (aO w.Seed (w.Devices.length:Int))) (aL (aR w b 0).1 b).Store:=⟨_,rfl⟩;obtain⟨e,he⟩:∃e,e=bF l.1 (aL (aR w b 0).1 b).Key (IntKind.i64.wrap (1000+IntKind.i64.wrap (10*(l.1.length:Int)))):=⟨_,rfl⟩;obtain⟨c,j⟩:∃c,c=lW (aR w b 0).1.aAD l.1 e.1:=⟨_,rfl⟩;have m:add1 w b=bif l.2&&(e.2&&c.2) then({(aR w b 0).1 with aAD:=c.1},true) else((aR w b 0).1,false):=by rw[j,he,hl];rfl
 rw[<-hl] at y ⊢;have z:=Zo l.1 (aL (aR w b 0).1 b).Key (IntKind.i64.wrap (1000+IntKind.i64.wrap (10*(l.1.length:Int))));rw[<-he] at z;have L:=aFj (aR w b 0).1;cases o:l.2 with
 |false=>rw[aA8 (by rw[m,o];rfl)];rfl
 |true=>
 rw[av,aa,aB (show l.1.length<=34359738300 by omega),bd_s,<-he];cases A:e.2 with
 |false=>rw[aA8 (by rw[m,o,A];rfl)];rfl
 |true=>
 rw[av,aa,aB (show(aR w b 0).1.aAD.sz<=34359738368/\l.1.length<=34359738368/\e.1.sz<=34359738368 from⟨by omega,by omega,by omega⟩),bd_s,<-j];cases H:c.2 with
 |false=>rw[aA8 (by rw[m,o,A,H];rfl)];rfl
 |true=>
 have h:add1 w b=({(aR w b 0).1 with aAD:=c.1},true):=by rw[m,o,A,H];rfl
 have B:Y6 w b=gK (aO w.Seed (w.Devices.length:Int)) (w.Devices.length:Int) 0 (aR w b 0).1.Sites:=by unfold Y6;rw[h]
 have D:∀s∈(aR w b 0).1.Sites,s.sz<=34359738300:=λs hs=>by
  have h1:=aJe (g:=AB.sz) hs;simp only[AA.sz] at K;omega
 rw[av,aa,bOa (x:=((w,false):AA×Bool)) (st:=aO w.Seed (w.Devices.length:Int)) (n:=(w.Devices.length:Int)) (l:=(aR w b 0).1.Sites) (N:=(aR w b 0).1.Sites.length) rfl (by omega) D (λrec p s r hp k=>by
  simp only[dM (show p.length<(aR w b 0).1.Sites.length by omega),ae,bLk,bd_s,aB (aK5 (p.length:Int)),aB k,bGf]) (λrec S=>by simp only[iD,aa])]
 cases I:(gK (aO w.Seed (w.Devices.length:Int)) (w.Devices.length:Int) 0 (aR w b 0).1.Sites).2 with
 |false=>rw[Wy (.inl (by rw[B,I]))];rfl
 |true=>
 obtain⟨k1,k2,k3,k4⟩:=aUx u;have hg:=u;simp only[aN,ac,ca] at hg;have M:AA.mk (aR w b 0).1.Now (aR w b 0).1.Seed ((aR w b 0).1.Devices.set b.toNat (mX (aL (aR w b 0).1 b) (w.Devices.length:Int) false)) (aR w b 0).1.Stolen c.1 (gK (aO w.Seed (w.Devices.length:Int)) (w.Devices.length:Int) 0 (aR w b 0).1.Sites).1 (aR w b 0).1.aAL (aR w b 0).1.Hosts (aR w b 0).1.Pin (aR w b 0).1.Mail=aAU w b:=by unfold aAU;rw[B,h];rfl
 obtain⟨⟨X,Z⟩,z3,z4⟩:=bFa hs;rw[ae,nx_r,bLl (d:=aL (aR w b 0).1 b) hg.1 k2 (by rw[k4];simp[List.getD,ab k2]) (by omega),bd_s,M,aB (show(aAU w b).sz<=10000000000 by omega),bd_s,show jS (aAU w b) b=qY w b from rfl];cases q:(qY w b).2 with
 |false=>rw[Wy (.inr (.inl q))];rfl
 |true=>
 obtain⟨O,y2⟩:=bKn hs q;obtain⟨Q,R⟩:=bU3 k hs q;have T:(qY w b).1.sz<=34359738368:=by omega
 have J:(qY w b).1.Devices.length<=34359738368/\(qY w b).1.Stolen.length<=34359738368:=by clear O;simp only[AA.sz] at T;omega
 rw[av,aa,gI J.1,gI J.2];show(bd (gd ((appW (qY w b).1 (bE (aO w.Seed (w.Devices.length:Int)))).sz<=34359738100) (some (Ef w b))) λa=>bif !(a.2==0) then some (w,false) else bd (gd (a.1.Mail.sz<=34359738300) (some (Ex a.1.Mail 2 1 a.1.Now))) λF=>some (AA.mk a.1.Now a.1.Seed a.1.Devices a.1.Stolen a.1.aAD a.1.Sites a.1.aAL a.1.Hosts a.1.Pin F.1,true))=_;rw[aB Q,bd_s];cases i:((Ef w b).2==0) with
 |false=>rw[Wy (.inr (.inr i))];rfl
 |true=>rw[bGh (by rw[h]) (by rw[B,I]) q i,av,aa,aB (R i),bd_s];rfl
def aPe (s e:Int):Pz s e=some (bR s e):=by unfold Pz;rw[aB (by simp)];rfl
def aPf (s e:Int):Qv s e=some (bR s e):=by unfold Qv;rw[aB (by simp)];rfl
def aFv (d:AF)(l:List AD)(k:Int)(h:d.sz<=34359738368/\l.length<=34359738368):Fs d l k=some (lD d l k):=by unfold Fs lD;simp only[aB h.1,aB h.2,bd_s];cases aT l<;>cases cZ l d.Log<;>cases decide (aF l<d.Epoch)<;>cases bG k<;>rfl
def aFw (d:AF)(l:List AD)(k:Int)(h:d.sz<=34359738368/\l.length<=34359738368):Gw d l k=some (lD d l k):=by unfold Gw lD;simp only[aB h.1,aB h.2,bd_s];cases aT l<;>cases cZ l d.Log<;>cases decide (aF l<d.Epoch)<;>cases bG k<;>rfl
def Rx (s:AI)(i:Int)(h:s.Credentials.length<=34359738368):vE s i=some (aU s i):=by unfold vE;exact Jm (l:=s.Credentials) (λa=>a.Handle==i) (by omega) (λrec j b=>by simp only[dM b,ae,aQ b,bd_s]) (λrec=>by simp only[iD,aa])
def bU4 {a:AI}{h:Int}(hk:decide (aU a h<0)=false):bC a.Credentials (aU a h)=some (gT a (aU a h)):=by have hr:=pO (p:=λc:AU=>c.Handle==h) (i:=0) (l:=a.Credentials) hk;exact tV (by unfold aU;omega) (by unfold aU;omega)
def Wz (a:AI)(h:Int)(b:a.sz<=34359738368):xV a h=some (nU a h):=by
 have hl:a.Credentials.length<=34359738368:=b;unfold xV nU;simp only[aB b,aB hl,bd_s];cases bA a with
 |false=>rfl
 |true=>
  cases hk:decide (aU a h<0) with
  |true=>rfl
  |false=>simp only[av,aa,bU4 hk,bd_s];cases(gT a (aU a h)).Cut<;>rfl
def bU5 {s:AB}(a:s.sz<=34359738300)(h:decide (aD s 1>=0)=true):bC s.Accounts (aD s 1)=some (fQ s (aD s 1))/\(fQ s (aD s 1)).sz<=34359738368:=by
 have h0:decide (aD s 1<0)=false:=by rw[decide_eq_true_iff] at h;exact ao (by omega)
 obtain⟨b,c,_⟩:=bH1 a h0;exact⟨b,by unfold fQ;omega⟩
def bGi {h:Int}{N:Nat}{F:(Nat×List AB->Option (List AB))->Nat×List AB->Option (List AB)}
  (a:∀rec (p:List AB) (s:AB) (r:List AB),p.length+r.length+1=N->s.sz<=34359738300->F rec (p.length,p++s::r)=rec (p.length+1,p++gL h s::r)) (b:∀rec S,F rec (N,S)=some S):
  ∀(r p:List AB) (m:Nat),p.length+r.length=N->r.length<m->(∀s∈r,s.sz<=34359738300)->EV.bZ m F (p.length,p++r)=some (p++r.map (gL h))
 |[],p,m+1,hl,_,_=>by
  simp only[bp,du] at hl;rw[jR,hl,b];simp
 |s::r,p,m+1,hl,hm,hs=>by
  simp only[au] at hl hm;have:=bGi a b r (p++[gL h s]) m (by simp;omega) (by omega) (λy c=>hs y (by simp[c]));simp only[ay,cz,cm,cM,bz] at this;rw[jR,a _ p s r (by omega) (hs s (by simp)),this];simp
def bOc {h:Int}{N:Nat}{l:List AB}(d:l.length=N)(a:N<=100)(hs:∀s∈l,s.sz<=34359738300){F:(Nat×List AB->Option (List AB))->Nat×List AB->Option (List AB)}
  (b:∀rec (p:List AB) (s:AB) (r:List AB),p.length+r.length+1=N->s.sz<=34359738300->F rec (p.length,p++s::r)=rec (p.length+1,p++gL h s::r)) (c:∀rec S,F rec (N,S)=some S):EV.bZ FUEL F (0,l)=some (l.map (gL h)):=by
 have:=bGi b c l [] FUEL (by simp;omega) (by have:=iK;omega) hs;simpa using this
def Mf {w:AA}{b t:Int}(h:((aR w b 0).2==0&&(!bX w b&&(!(b==t)&&bN w t)))=false):eX w b t=(w,false):=by unfold eX;rw[h];rfl
def bIy {w:AA}{b t:Int}(h:((aR w b 0).2==0&&(!bX w b&&(!(b==t)&&bN w t)))=true):eX w b t=oM w b t:=by unfold eX;rw[h];rfl
def Ph {w:AA}{b t:Int}(h:(mJ w b t).2=false\/(Oo w b t).2=false\/(Jq w b t).2=false):oM w b t=(w,false):=by unfold oM;rcases h with h|h|h<;>rw[h]<;>simp
def bYu {w:AA}{b:Int}(c:w.sz<=100000000)(h1:aP w=true)(hs:((aR w b 0).2==0)=true):(aN (aR w b 0).1 b=true/\(aR w b 0).1.Sites.length=2)/\(aR w b 0).1.sz<=300000000/\(aR w b 0).1.aAD.Log.length<=100000000/\∀s∈(aR w b 0).1.Sites,s.sz<=34359738300:=by obtain⟨⟨d,a⟩,e⟩:=bSb c h1 hs;exact⟨d,a,e,λs hs=>by have h1:=aJe (g:=AB.sz) hs;simp only[AA.sz] at a;omega⟩
def bU6 {w:AA}{b t:Int}(r:w.sz<=100000000)(hs:((aR w b 0).2==0)=true){o:AA}(ho:o=(aR w b 0).1){c:AO}(h1:mJ w b t=({o with aAD:=c},true)){x:AF}(h2:Oo w b t=(x,true)):
  (x.sz<=34359738300/\(mX x t true).sz<=34359738368/\c.sz<=34359738300/\(dQ (mX x t true)).2.1.sz<=34359738300/\o.Mail.sz<=34359738300)/\
  oM w b t=bif (dQ (mX x t true)).2.2&&(dJ c (dQ (mX x t true)).2.1).2 then(AA.mk o.Now o.Seed (o.Devices.set b.toNat (dQ (mX x t true)).1) o.Stolen (dJ c (dQ (mX x t true)).2.1).1 (o.Sites.map (gL t)) o.aAL o.Hosts o.Pin (Ex o.Mail 4 1 o.Now).1,true) else(w,false):=by
 obtain⟨⟨f,s,u,v⟩,y,⟨b1,z⟩,h,A⟩:=bM7 (t:=t) hs;have hd:=f;simp only[aN,ac,ca] at hd;have hi:b.toNat<(jQ w b).Devices.length:=by omega
 have a:o=jQ w b:=ho;have j:(lD (aL (jQ w b) b) (aJi w b t) (mD (aL (jQ w b) b).Store (aJi w b t))).1=x:=by have:=congrArg Prod.fst h2;exact this
 have k:(aL (jQ w b) b).sz<=(jQ w b).sz:=(aUx f).2.2.1;have l:x.sz<=3*w.sz+21:=by have:=aSy (aL (jQ w b) b) (aJi w b t) (mD (aL (jQ w b) b).Store (aJi w b t));rw[j] at this;omega
 have m:=aQ5 x t true;have n:=Aq (mX x t true);have i:Y7 w b t=AA.mk o.Now o.Seed (o.Devices.set b.toNat (mX x t true)) o.Stolen c (o.Sites.map (gL t)) o.aAL o.Hosts o.Pin o.Mail:=by unfold Y7;rw[h1,h2]
 have d:aL (Y7 w b t) b=mX x t true:=by rw[i,a];simp only[aL,List.getD,bh hi,ci]
 have e:c.sz<=({o with aAD:=c}:AA).sz:=by simp only[AA.sz,AO.sz];omega
 have p:c.sz<=16*w.sz+34:=by rw[h1] at h;exact bw e h
 have q:o.Mail.sz<=2*w.sz+20:=by
  rw[a];have:(jQ w b).Mail.sz<=(jQ w b).sz:=by simp only[AV.sz,AA.sz];omega
  omega
 refine⟨⟨by omega,by omega,by omega,by simp only[AJ.sz];omega,by omega⟩,?_⟩;unfold oM;rw[show Jq w b t=upF (Y7 w b t) b from rfl,h1,h2];unfold upF;rw[d,i];simp only[cq];cases(dQ (mX x t true)).2.2&&(dJ c (dQ (mX x t true)).2.1).2 with
 |false=>rfl
 |true=>simp only[ae,qX,eo]
def bOd {h:Int}{p r:List AB}{s:AB}(a:s.sz<=34359738300):s.Accounts.length<=34359738368:=by simp only[AB.sz] at a;omega
def bSd {w:AA}{b t:Int}(h2:aN w b=true)(ht:aN w t=true)(a:(b==t)=false):aN (aR w b 0).1 t=true/\aL (aR w b 0).1 t=aL w t:=by
 unfold aR;cases(aP w&&aN w b) with
 |false=>exact⟨ht,rfl⟩
 |true=>
  have c:=ht;have hb':b≠t:=by simpa using a
  simp only[aN,ac,ca] at h2 c;have h:b.toNat≠t.toNat:=by omega
  refine⟨?_,?_⟩
  ·simp only[aN,ae,ax] at*;exact ht
  ·simp only[aL,ae,List.getD,bl h]
def aU4 {w:AA}{b t:Int}(h:(aP w&&aN w b)=false):eX w b t=(w,false):=by
 apply Mf;cases hs:((aR w b 0).2==0) with
 |false=>rfl
 |true=>obtain⟨⟨h1,h2⟩,_⟩:=tZ hs;rw[h1,h2] at h;cases h
def aK6 (w:AA)(b t:Int)(v:w.sz<=100000000):Lr w b t=some (eX w b t):=by
 have a:w.sz<=34359738368:=by omega
 unfold Lr;simp only[aB a,bd_s];cases h1:aP w with
 |false=>rw[aU4 (by rw[h1];rfl)];rfl
 |true=>
 cases h2:aN w b with
 |false=>rw[aU4 (by rw[h1,h2];rfl)];rfl
 |true=>
 cases m:(b==t) with
 |true=>rw[Mf (by rw[m];simp)];rfl
 |false=>
 rw[bSa h1 h2];cases z:bX w b with
 |true=>rw[Mf (by rw[z];simp)];rfl
 |false=>
 rw[aB (X5.of' a)];cases f:bN w t with
 |false=>rw[Mf (by rw[f];simp)];rfl
 |true=>
 simp only[av,aa,bd_s,aB (show w.sz<=34359738100 by omega),bne];cases hs:((aR w b 0).2==0) with
 |false=>rw[Mf (by rw[hs];rfl)];rfl
 |true=>
 rw[bIy (by rw[hs,z,m,f];rfl)];have ht:aN w t=true:=by unfold bN at f;rw[ac] at f;exact f.1
 obtain⟨⟨A,R⟩,T,V,H⟩:=bYu v h1 hs;obtain⟨d1,d2⟩:=bSd h2 ht m;simp only[av,aa,bd_s,tL d1,tL A,d2,aB (show(aR w b 0).1.aAD.Log.length<=34359738300 by omega)];have n:=vZ (aR w b 0).1.aAD.Log 2 (aS (aL w t).Store) (aL (aR w b 0).1 b).Store;obtain⟨l,hl⟩:∃l,l=dZ (aR w b 0).1.aAD.Log 2 (aS (aL w t).Store) (aL (aR w b 0).1 b).Store:=⟨_,rfl⟩;obtain⟨e,he⟩:∃e,e=bF l.1 (mD (aL (aR w b 0).1 b).Store l.1) (IntKind.i64.wrap (1000+IntKind.i64.wrap (10*(l.1.length:Int)))):=⟨_,rfl⟩;obtain⟨c,i⟩:∃c,c=lW (aR w b 0).1.aAD l.1 e.1:=⟨_,rfl⟩;have j:mJ w b t=bif l.2&&(e.2&&c.2) then({(aR w b 0).1 with aAD:=c.1},true) else((aR w b 0).1,false):=by rw[i,he,hl];rfl
 have AL:aJi w b t=l.1:=by rw[hl];rfl
 rw[<-hl] at n ⊢;have o:=Zo l.1 (mD (aL (aR w b 0).1 b).Store l.1) (IntKind.i64.wrap (1000+IntKind.i64.wrap (10*(l.1.length:Int))));have I:=aFj (aR w b 0).1;cases k:l.2 with
 |false=>rw[Ph (.inl (by rw[j,k];rfl))];rfl
 |true=>
 rw[av,aa,aB (show([311]:List Int).length<=34359738300 by simp),bd_s,aB (show l.1.length<=34359738368 by omega),bd_s,aB (show l.1.length<=34359738300 by omega),bd_s];rw[show bR (aW (aL (aR w b 0).1 b).Store.Seed [311]) (aF l.1)=mD (aL (aR w b 0).1 b).Store l.1 from rfl];rw[<-he] at o ⊢;cases q:e.2 with
 |false=>rw[Ph (.inl (by rw[j,k,q];rfl))];rfl
 |true=>
 rw[av,aa,aB (show(aR w b 0).1.aAD.sz<=34359738368/\l.1.length<=34359738368/\e.1.sz<=34359738368 from⟨by omega,by omega,by omega⟩),bd_s,<-i];cases B:c.2 with
 |false=>rw[Ph (.inl (by rw[j,k,q,B];rfl))];rfl
 |true=>
 have u:mJ w b t=({(aR w b 0).1 with aAD:=c.1},true):=by rw[j,k,q,B];rfl
 obtain⟨k1,k2,k3,k4⟩:=aUx A;obtain⟨x,D⟩:∃x,x=lD (aL (aR w b 0).1 b) l.1 (mD (aL (aR w b 0).1 b).Store l.1):=⟨_,rfl⟩;have F:Oo w b t=x:=by rw[D,<-AL];rfl
 simp only[av,aa,bd_s,aB (show(aL (aR w b 0).1 b).sz<=34359738368/\l.1.length<=34359738368 from⟨by omega,by omega⟩)];rw[<-D];cases G:x.2 with
 |false=>rw[Ph (.inr (.inl (by rw[F,G])))];rfl
 |true=>
 obtain⟨⟨W,J,K,L,M⟩,AE⟩:=bU6 v hs rfl u (x:=x.1) (by rw[F,<-G]);have q1:∀y:AF,bC ((aR w b 0).1.Devices.set b.toNat y) b=some y:=λy=>by rw[kY k1 (by rw[ax];exact k2)];simp
 rw[av,aa,bOc (h:=t) (l:=(aR w b 0).1.Sites) (N:=(aR w b 0).1.Sites.length) rfl (by omega) H (λrec p s r hp hzs=>by
  simp only[dM (show p.length<(aR w b 0).1.Sites.length by omega),ae,bLk,bd_s,aB (bOd (h:=t) (p:=p) (r:=r) hzs)];cases hc:decide (aD s 1>=0) with
  |false=>simp only[aa,bd_s,gL,hc]
  |true=>
   obtain⟨O,Q⟩:=bU5 hzs hc;simp only[ae,O,bd_s,aB Q,bGf,gL,hc]) (λrec S=>by simp only[iD,aa])]
 rw[bd_s,bLl (d:=x.1) k1 (by rw[ax];exact k2) (by simp) (by omega),eo];simp only[bd_s,q1,aB J,aB M,eo,aB (show c.1.sz<=34359738300/\(dQ (mX x.1 t true)).2.1.sz<=34359738300 from⟨K,L⟩)];rw[AE];cases(dQ (mX x.1 t true)).2.2<;>cases(dJ c.1 (dQ (mX x.1 t true)).2.1).2<;>rfl
def Ry (b:AP)(i:Int):Rm b i=some (eY b i):=by rfl
def F7 (s:AK):zF s=some (lS s):=by unfold zF lS;cases bK s.Vendor 1 9<;>cases bK s.Serial 0 1000000<;>cases bG s.Seed<;>rfl
def Mg (a:AY)(h:a.Site.size<=34359738300/\a.aAK.size<=34359738300):sW a=some (bP a):=by unfold sW bP Cu;rw[aB h.1,aB h.2];cases a.Present<;>rfl
def Xa (b:AP)(i:Int)(h:b.Open.length<=34359738368):xP b i=some (dS b i):=by unfold xP;exact Jm (l:=b.Open) (λc=>c.Id==i) (by omega) (by grind[dM,aQ,bd_s]) (by simp)
def Rz (b:AP)(i n:Int)(h:b.sz<=34359738368):vD b i n=some (fI b i n):=by
 have hl:b.Open.length<=b.sz:=by simp[AP.sz]
 have a:∀(x y:List A4),x.length+y.length<=34359738400->aX x y:=(by grind[aX]);unfold vD fI;rw[aB h,bd_s,aB h,bd_s];cases hb:eU b with
 |false=>rfl
 |true=>
  have c:b.Open.length<=16:=by
   grind[eU]
  cases b.Next==1000000 with
  |true=>rfl
  |false=>
   cases bK i 0 1000000 with
   |false=>rfl
   |true=>
    cases bK n 0 1000000 with
    |false=>rfl
    |true=>
     simp only[av,dc,dy,aa,ae,bd_s];by_cases hd:b.Open.length=16
     ·rw[show((b.Open.length:Int)==16)=true by rw[hd];rfl,show decide ((b.Open.length:Int)>=16)=true from aq (by omega),ae,ae,aB (show jP b.Open 1 from⟨by omega,by omega⟩),aB (a _ _ (by simp only[bp,ct];omega)),bd_s,aB (a _ _ (by simp only[bz,ct,au,bp];omega))];rfl
     ·rw[show((b.Open.length:Int)==16)=false from bn.2 (by omega),show decide ((b.Open.length:Int)>=16)=false from ao (by omega),aa,aa,bd_s,aB (by grind)];rfl
def Xb (b:AP)(id acc now:Int)(h:b.sz<=34359738368):xQ b id acc now=some (pQ b id acc now):=by
 have hl:b.Open.length<=b.sz:=by simp[AP.sz]
 have d:∀(x y:List A4),x.length+y.length<=34359738400->aX x y:=(by grind[aX]);unfold xQ pQ;rw[aB h,bd_s,aB (by assumption),bd_s,aB h,bd_s];cases eU b with
 |false=>rfl
 |true=>
  simp only[av,aa,bd_s,cF];cases c:decide (dS b id<0) with
  |true=>rfl
  |false=>
   obtain⟨h0,h1⟩:=pO (i:=0) c;have h0:0<=dS b id:=h0;have h1:dS b id<(b.Open.length:Int):=by grind[dS,id]
   have hk:IntKind.i64.wrap (dS b id+1)=(((dS b id).toNat+1:Nat):Int):=by grind[aI]
   have a:bC b.Open (dS b id)=some (aJj b (dS b id)):=tV h0 h1;rw[aa,aa,hk,a,bd_s,aB (by grind[jP,dS,id]),aB (by grind[jP,dS,id]),
    aB (by grind),aB (by grind),bo]
   cases(aJj b (dS b id)).aAH==acc<;>rfl
def Xc (s:AK)(z:ByteArray)(i:Int)(l:List Int)(h:z.size<=34359738300/\l.length<=34359738200):xN s z i l=some (jI s z i l):=by
 unfold xN jI;cases lS s with
 |false=>rfl
 |true=>
  simp only[av,aa,bd_s,cq];cases s.Counter==1000000 with
  |true=>rfl
  |false=>
   simp only[aB h.1,bd_s,aa,dc,ae];have e:oK l [[IntKind.i64.wrap (s.Counter+1)]]=l++[IntKind.i64.wrap (s.Counter+1)]:=by simp[oK]
   rw[aB (by grind),bd_s,e,aB (by grind)];rfl
def aFx (s:AB)(id now:Int)(h:s.sz<=34359738368):Gg s id now=some (mK s id now):=by
 grind[bW,Bool.not_true,aB,bd_s,decide,aD,id,fI,Gg,mK,AB.sz,AP.sz]
def F8 (a:AI)(m:Int)(h:a.sz<=34359738368):zG a m=some (qH a m):=by
 have hl:a.Credentials.length<=34359738368:=by assumption
 unfold zG qH;rw[aB h,bd_s,kZ (l:=a.Credentials) (λc=> !c.Cut) (.inl true) (.inr ()) (by omega) (by grind[dM,aQ,bd_s]) (by simp)]
 grind[bA,bK,Bool.not_true,bd_s,decide,decide_eq_true,decide_eq_false,nx,bne]
def aPg (o:AQ):Qp o=some (sK o):=by unfold Qp sK;cases iX o.Host<;>rfl
def F9 (o:AQ)(h:nV o):x9 o=some (uA o):=by obtain⟨k,hk,rfl⟩:=h;rcases(show k=0\/k=1\/k=2\/k=3\/k=4\/k=5 by omega) with rfl|rfl|rfl|rfl|rfl|rfl<;>kernel_rfl
def aXz (o:AQ)(z:ByteArray)(h:Pv o z):aXj o z=some (mE o z):=by obtain⟨⟨k,hk,rfl⟩,j,a,rfl⟩:=h;rcases a with rfl|rfl<;>rcases(show k=0\/k=1\/k=2\/k=3\/k=4\/k=5 by omega) with rfl|rfl|rfl|rfl|rfl|rfl<;>kernel_rfl
def eZ {α β:Type}{x:Option α}{f:α->Option β}{a:α}{r:Option β}(h:x=some a)(h2:f a=r):bd x f=r:=by simp[*]
def bBc {α β:Type}{x:Option (α⊕β)}{f:β->Option α}{b:β}{r:Option α}(h:x=some (.inr b))(h2:f b=r):nx x f=r:=by simp[*]
def bYv {τ:Type}(n:Nat){F:(Nat->Option τ)->Nat->Option τ}{b:τ}(hn:n<=18446744073709551616)(a:∀rec i,i<n->F rec i=rec (i+1))(c:∀rec,F rec n=some b):bZ FUEL F 0=some b:=by have:=kZ (l:=List.replicate n ()) (λ_=>false) b b (by simpa using hn) (F:=F) (λrec i hi=>by rw[a rec i (by simpa using hi)];rfl) (λrec=>by simpa using c rec);rw[this];cases(List.replicate n ()).any λ_=>false<;>rfl
def d9 (k:Nat)(h:nV (uR k))(c:sK (uR k)=true)(he:(uA (uR k)).toList=(yE k).toList):
  (bd (bif (!sK (uR k)) then(some (true)) else(bd (gd (nV (uR k)) (some (uA (uR k)))) λa=>some (!a.toList==(yE k).toList))) λb=>bif b then(some ((AQ.mk false (ByteArray.mk #[]) (0:Int),false))) else(some (uR k,true)))=some (uR k,true):=by
 simp[*]
def aA9 (z:ByteArray)(h:bM8 z):Cx z=some (Ar z):=by
 obtain rfl|⟨k,hk,rfl⟩:=h
 ·kernel_rfl
 ·unfold Cx;rcases(show k=0\/k=1\/k=2\/k=3 by omega) with rfl|rfl|rfl|rfl
  ·refine eZ (a:=(yE 0,false)) (by kernel_rfl) ?_;refine eZ (a:=((uR 0).Host,true,true,⟨#[]⟩,443)) (by kernel_rfl) ?_;simp only[av,aa];refine eZ (a:=((uR 0).Host,⟨#[]⟩,false)) (by kernel_rfl) ?_;refine bBc (b:=(443:Int)) (by kernel_rfl) ?_;exact(d9 0 ⟨0,by decide,rfl⟩ (by kernel_rfl) (by kernel_rfl)).trans (by kernel_rfl)
  ·refine eZ (a:=(yE 1,false)) (by kernel_rfl) ?_;refine eZ (a:=((uR 1).Host,true,true,⟨#[]⟩,443)) (by kernel_rfl) ?_;simp only[av,aa];refine eZ (a:=((uR 1).Host,⟨#[]⟩,false)) (by kernel_rfl) ?_;refine bBc (b:=(443:Int)) (by kernel_rfl) ?_;exact(d9 1 ⟨1,by decide,rfl⟩ (by kernel_rfl) (by kernel_rfl)).trans (by kernel_rfl)
  ·refine eZ (a:=(yE 2,false)) (by kernel_rfl) ?_;refine eZ (a:=((uR 2).Host,true,true,⟨#[]⟩,443)) (by kernel_rfl) ?_;simp only[av,aa];refine eZ (a:=((uR 2).Host,⟨#[]⟩,false)) (by kernel_rfl) ?_;refine bBc (b:=(443:Int)) (by kernel_rfl) ?_;exact(d9 2 ⟨2,by decide,rfl⟩ (by kernel_rfl) (by kernel_rfl)).trans (by kernel_rfl)
  ·refine eZ (a:=(yE 3,false)) (by kernel_rfl) ?_;refine eZ (a:=((uR 3).Host,true,true,⟨#[]⟩,443)) (by kernel_rfl) ?_;simp only[av,aa];refine eZ (a:=((uR 3).Host,⟨#[]⟩,false)) (by kernel_rfl) ?_;refine bBc (b:=(443:Int)) (by kernel_rfl) ?_;exact(d9 3 ⟨3,by decide,rfl⟩ (by kernel_rfl) (by kernel_rfl)).trans (by kernel_rfl)
def bSe {o:AQ}{z:ByteArray}(h:Pv o z):nV o/\z.size<=34359738300/\(uA o).size<=34359738300:=by
 obtain⟨ho,j,a,rfl⟩:=h;refine⟨ho,?_,?_⟩
 ·rcases a with rfl|rfl<;>exact(show 8<=34359738300 by omega)
 ·obtain⟨k,hk,rfl⟩:=ho;have:(uA (uR k)).size<=40:=by rcases(show k=0\/k=1\/k=2\/k=3\/k=4\/k=5 by omega) with rfl|rfl|rfl|rfl|rfl|rfl<;>decide
  omega
def Xd (s:AK)(o:AQ)(z:ByteArray)(i c:Int)(b:Bool)(h:Pv o z):xO s o z i c b=some (jJ s o z i c b):=by
 obtain⟨h1,h2,d⟩:=bSe h;have hm:∀a,(bP a).length<=34359738200:=(by simp[bP]);unfold xO jJ;rw[aB h,bd_s];cases mE o z with
 |false=>rfl
 |true=>simp only[av,aa,cq];rw[aB h1,bd_s,aB ⟨h2,d⟩,bd_s,aB ⟨h2,hm _⟩,bd_s];show(bif !(jI s z i (bP (Rl s o z i c b))).2.2 then _ else _)=_;cases(jI s z i (bP (Rl s o z i c b))).2.2<;>rfl
def bBd {k:Nat}(hk:k<4):Ar (yE k)=(uR k,true)/\(yE k).size<=34359738300:=by
 rcases(show k=0\/k=1\/k=2\/k=3 by omega) with rfl|rfl|rfl|rfl
 ·exact⟨by kernel_rfl,show 20<=34359738300 by omega⟩
 ·exact⟨by kernel_rfl,show 20<=34359738300 by omega⟩
 ·exact⟨by kernel_rfl,show 16<=34359738300 by omega⟩
 ·exact⟨by kernel_rfl,show 16<=34359738300 by omega⟩
def bIz {j:Int}(a:j=0\/j=1){k:Nat}(hk:k<4):Ar (yE k)=(uR k,true)/\(aA j).size<=34359738300/\(yE k).size<=34359738300:=by refine⟨(bBd hk).1,?_,(bBd hk).2⟩;rcases a with rfl|rfl<;>exact(show 8<=34359738300 by omega)
def Sa (pub:Int)(a:AY)(z:ByteArray)(b cnt:Int)(h:AsP a z):oG pub a z b cnt=some (iI pub a z b cnt):=by
 obtain⟨j,c,rfl,rfl|⟨hs,k,hk,ho,d⟩⟩:=h
 ·unfold oG;rw[aB (show bM8 aXf.aAK from .inl rfl)];rcases c with rfl|rfl<;>kernel_rfl
 ·obtain⟨h1,h2,i⟩:=bIz c hk;have hm:(bP a).length=6:=by simp[bP]
  have e:oK (bP a) [[a.Counter]]=bP a++[a.Counter]:=by simp[oK]
  have f:a.Site.size<=34359738300/\a.aAK.size<=34359738300:=by simp[*]
  unfold oG iI;rw[aB (by grind[bM8]),bd_s,show Ar a.aAK=(uR k,true) by rw[ho];exact h1,show(a.Site.toList==(aA j).toList)=true by rw[hs];simp];simp only[av,aa];rw[aB (by grind[Pv,uR,aA]),bd_s,d,bd_s];simp only[av,aa,bne,aB f,bd_s];rw[aB (show uU (bP a) [[a.Counter]] by simp[uU,hm]),bd_s,e,aB (show(bP a++[a.Counter]).length<=34359738300 by simp only[ay,hm,au,bp];omega),bd_s];cases a.Present<;>cases a.aAN==b<;>cases iT pub (bP a++[a.Counter]) a.Signature<;>cases decide (a.Counter<=cnt)<;>rfl
theorem bSf {a:AI}{h:Int}(hk:decide (aU a h<0)=false):bC a.Credentials (aU a h)=some (gT a (aU a h))/\(aU a h).toNat<a.Credentials.length:=by have hr:=pO (p:=λc:AU=>c.Handle==h) (i:=0) (l:=a.Credentials) hk;exact⟨tV (by unfold aU;omega) (by unfold aU;omega),by unfold aU;omega⟩
def Xe (a:AI)(x:AY)(z:ByteArray)(c:Int)(h:AsP x z/\a.sz<=34359738368):xR a x z c=some (iP a x z c):=by
 obtain⟨hp,b⟩:=h;have hl:a.Credentials.length<=34359738368:=b;unfold xR iP;simp only[aB b,aB hl,bd_s];cases bA a with
 |false=>rfl
 |true=>
  cases hk:decide (aU a x.Handle<0) with
  |true=>rfl
  |false=>
   simp only[av,aa,(bSf hk).1,bd_s,cF]
   grind[gT,aU,aB,bd_s,iI,beq_eq_false_iff_ne,bSf]
theorem bU7 {s:AB}{i:Int}(b:s.sz<=34359738300)(h:decide (aD s i<0)=false):bC s.Accounts (aD s i)=some (fQ s (aD s i))/\(fQ s (aD s i)).sz<=34359738300/\(aD s i).toNat<s.Accounts.length:=by
 have hr:=pO (p:=λa:AI=>a.Id==i) (i:=0) (l:=s.Accounts) h
 grind[AB.sz,fQ,tV,aD,wV,AI.sz]
def aBa (s:AB)(i c n:Int)(x:AY)(h:AsP x s.Name/\s.sz<=34359738300):Cy s i c n x=some (lT s i c n x):=by
 obtain⟨hp,b⟩:=h;have a:s.sz<=34359738368:=by omega
 have hb:s.Book.sz<=34359738368:=by grind[AB.sz,AP.sz]
 have hl:s.Accounts.length<=34359738368:=by grind[AB.sz]
 have d:aX s.Logins [i]:=by grind[List.length_cons,List.length_nil,AB.sz,aX]
 unfold Cy lT;simp only[aB a,aB hl,aB hb,bd_s]
 grind[bW,Bool.not_true,bd_s,decide,aD,bU7,pQ,aB,fQ,qH,AsP,bne,iP,eY]
def Hu {w:AA}(h:aP w=true):w.Sites.length=2/\w.Stolen.length=w.Devices.length/\w.Devices.length<=6/\gF tO 0 w.Sites=false:=by
 grind[aP,bK,Bool.not_eq_true']
theorem bBe {w:AA}{d j:Int}(h:dK w d j=true):bC w.Stolen d=some (bX w d):=by simp_all[List.getD,ab,kY,bX,aN,ac,ca,Hu,dK]
def aX0 (w:AA)(d j:Int)(b:Bool)(h:w.sz<=34359738368):R6 w d j b=some (dK w d j&&bX w d==b):=by
 grind[dK,bBe,aP,aN,gP,aB,bd_s,R6]
def bU8 (j:Int):(ByteArray.mk #[UInt8.ofNat 119,UInt8.ofNat 119,UInt8.ofNat 119,UInt8.ofNat 46]).size+(aA j).size<=9223372036854775807:=by unfold aA;cases j==0<;>cases j==1<;>decide
def bGj (j:Int):aN9 j=some (aEe j):=by unfold aN9;rw[aB (bU8 j)];rfl
theorem bYw {a b:ByteArray}(h:a.toList=b.toList):a=b:=by
 grind[ByteArray.ext,Array.toList_inj,ByteArray.toList_eq]
def bSg {l:List AB}{k:Nat}:∀{i:Nat},gF tO i l=false->∀(h:k<l.length),bW l[k]=true/\l[k].Name=aA ((i+k:Nat):Int):=by induction l generalizing k<;>grind[gF,Bool.or_eq_false_iff,tO,Bool.not_eq_false',bYw,trans]
def Xf {w:AA}{d j:Int}(h:dK w d j=true):bC w.Sites j=some (eT w j)/\(eT w j).sz<=w.sz/\(eT w j).Name=aA j/\(j=0\/j=1)/\j.toNat<w.Sites.length:=by
 simp only[dK,ac] at h;obtain⟨h1,h2,c,b⟩:=Hu h.1;have hd:=h.2.2;simp only[gP,ac,ca] at hd;have a:j.toNat<w.Sites.length:=by omega
 have hs:=wV (f:=AB.sz) a;have e:eT w j=w.Sites[j.toNat]:=by grind[List.getD,List.getElem?_eq_getElem,eT]
 refine⟨by rw[kY hd.1 a,e],?_,?_,by omega,a⟩
 ·grind[AA.sz,eT]
 ·rw[e,(bSg b a).2];grind
theorem bI0 (s:AB)(i n:Int):(mK s i n).1.Name=s.Name/\(mK s i n).1.sz<=s.sz+1:=by
 unfold mK
 grind[bW,decide,aD,fI,eU,bK,List.length_append,List.length_drop,List.length_cons,List.length_nil,AB.sz,AP.sz]
def bSh {k:Nat}(hk:k<6){j:Int}(a:j=0\/j=1)(h:mE (uR k) (aA j)=true):k<4:=by
 rcases(show k<4\/k=4\/k=5 by omega) with b|rfl|rfl
 ·exact b
 ·rcases a with rfl|rfl<;>exact absurd h (by decide)
 ·rcases a with rfl|rfl<;>exact absurd h (by decide)
theorem bI1 (s:AK)(h c:Int)(p:Bool){o:AQ}(ho:nV o){j:Int}(a:j=0\/j=1):AsP (jJ s o (aA j) h c p).2.1 (aA j):=by
 refine⟨j,a,rfl,?_⟩;obtain⟨k,hk,rfl⟩:=ho;unfold jJ;cases hm:mE (uR k) (aA j) with
 |false=>simp
 |true=>
  cases(jI s (aA j) h (bP (Rl s (uR k) (aA j) h c p))).2.2 with
  |false=>simp
  |true=>exact .inr ⟨rfl,k,bSh hk a hm,rfl,hm⟩
def cAk {w:AA}{d j:Int}{o:AQ}(ho:nV o)(h:dK w d j=true)(a:w.sz<=34359738200):AsP (Jr w d j o).2.1 (aAY w j).1.Name/\(aAY w j).1.sz<=34359738300:=by
 obtain⟨_,h2,b,c,_⟩:=Xf h
 grind[Jr,aAY,bI1,bI0,eT]
def bC3 (w:AA)(d j:Int)(o:AQ)(h:nV o/\w.sz<=34359738200):aEt w d j o=some (iA w d j o):=by
 obtain⟨ho,c⟩:=h;have b:w.sz<=34359738368:=by omega
 unfold aEt iA;simp only[aB b,bd_s];cases ht:dK w d j with
 |false=>
  unfold dK at ht;cases n:aP w with
  |false=>rfl
  |true=>
   cases hd:aN w d with
   |false=>rfl
   |true=>
    cases hs:gP w j with
    |false=>rfl
    |true=>simp_all
 |true=>
  obtain⟨e,q,r,f,s⟩:=Xf ht;obtain⟨i,k⟩:=cAk ho ht c;have a:=ht;simp only[dK,ac] at a;have l:=tL a.2.1;have hm:w.Mail.sz<=34359738300:=by grind[AA.sz,AV.sz]
  have m:0<=j:=by omega
  have es:bC (w.Sites.set j.toNat (aAY w j).1) j=some (aAY w j).1:=by
   grind[kY]
  rw[a.1,a.2.1,a.2.2];simp only[av,aa,e,bd_s,aB (show(eT w j).sz<=34359738368 by omega)];rw[show mK (eT w j) 1 w.Now=aAY w j from rfl];cases hb:(aAY w j).2.2.2 with
  |false=>rfl
  |true=>simp only[av,aa,l,es,bd_s,aB (show Pv o (aA j) from ho.p f)];rw[show jJ (aL w d).Store o (aA j) d (aAY w j).2.2.1 true=Jr w d j o from rfl];simp only[aB (show AsP (Jr w d j o).2.1 (aAY w j).1.Name/\(aAY w j).1.sz<=34359738300 from⟨i,k⟩),bd_s,aB hm,bne];rw[show lT (aAY w j).1 1 (aAY w j).2.1 w.Now (Jr w d j o).2.1=uS w d j o from rfl,eo];cases(uS w d j o).2.1==0<;>rfl
def aPh (w:AA)(d j:Int)(o:AQ)(h:nV o/\w.sz<=34359738200):Qs w d j o=some (oN w d j o):=by unfold Qs;rw[aB h];rfl
def aBb (w:AA)(d j:Int)(b:w.sz<=34359738200):Cz w d j=some (Zp w d j):=by
 have a:w.sz<=34359738368:=by omega
 unfold Cz Zp;simp only[aB a,bd_s];rw[show(bX w d==false)= !bX w d by cases bX w d<;>rfl];cases hq:dK w d j&& !bX w d with
 |false=>rfl
 |true=>rw[ac] at hq;simp only[av,aa,ae];exact(eZ (aB (show nV (aEe j)/\w.sz<=34359738200 from⟨bQx (Xf hq.1).2.2.2.1,b⟩)) rfl)
def rT {σ τ:Type}{F:(σ->Option τ)->σ->Option τ}(S:Nat->σ)(N:Nat){r:τ}(a:N<=1000000)(b:∀rec i,i<N->F rec (S i)=rec (S (i+1)))(c:∀rec,F rec (S N)=some r){s:σ}(hs:s=S 0):EV.bZ FUEL F s=some r:=by
 subst hs;have go:∀(k i n:Nat),i+k=N->k<n->EV.bZ n F (S i)=some r:=by
  intro k;induction k with
  |zero=>
   intro i n h hn;obtain⟨m,rfl⟩:∃m,n=m+1:=⟨n-1,by omega⟩
   grind[jR]
  |succ k d=>
   intro i n h hn;obtain⟨m,rfl⟩:∃m,n=m+1:=⟨n-1,by omega⟩
   grind[jR]
 exact go N 0 FUEL (by omega) (by grind[iK])
theorem aFy {m:Int}{F:(Int×Int×Int->Option Int)->Int×Int×Int->Option Int}(a:∀rec (b n s:Int),0<=n->n<9223372036854775807->F rec (b,n,s)=bif decide (n>0) then rec ((IntKind.i64.wrap (b*b)).tmod m,n/2,bif n%2==1 then(IntKind.i64.wrap (s*b)).tmod m else s) else some s):
  ∀(k:Nat) (b n s:Int) (f:Nat),k<f->0<=n->n<2^k->k<=62->bZ f F (b,n,s)=some (aOo m k b n s)
 |0,b,n,s,f+1,c,h0,h1,hk=>by
  have:n=0:=by simp at h1;omega
  subst this;rw[jR,a _ _ _ _ (by omega) (by omega)];rfl
 |k+1,b,n,s,f+1,c,h0,h1,hk=>by
  have h2:(2:Int)^(k+1)=2*2^k:=by rw[fe];omega
  have d:n<2^62:=Int.lt_of_lt_of_le h1 (by exact_mod_cast ia (by omega) hk);rw[jR,a _ _ _ _ h0 (by omega)];unfold aOo;by_cases hn:n>0
  ·rw[aq hn,ae,cI hn];exact aFy a k _ (n/2) _ f (by omega) (by omega) (by omega) (by omega)
  ·rw[ao hn,aa,dg hn]
theorem bWc:((2039:Int)≠0)=True:=by simp
def aFz (b n:Int)(h:0<=n/\n<2048):uD b n=some (aOo 2039 11 b n 1):=by
 grind[aFy,qN,and_one,Ik,bKb,bWc,gd_T,bd_s,aB,FUEL,iK,uD]
def U2 (b n:Int)(h:0<=n/\n<2048)(hb:0<=b/\b<2039):jB b n 2039=some (aOo 2039 11 b n 1):=by unfold jB;rw[show b.tmod 2039=b by rw[ce hb.1];omega,show(1:Int).tmod 2039=1 by decide,aFy (m:=2039) (by grind[Int.tmod_eq_emod_of_nonneg,Int.tdiv_eq_ediv_of_nonneg,aI,bWc,gd_T,bd_s]) 11 b n 1 FUEL (by grind[iK]) h.1 (by omega) (by omega)];rfl
def Sb (x:Int):uY x=some (nW x):=by unfold uY nW;rw[aFz _ _ (by decide)];cases bK x 1 2038<;>rfl
def Sc (x:Int):vH x=some (nW x):=by
 unfold vH nW;cases h:bK x 1 2038 with
 |false=>rfl
 |true=>have:=gU h;rw[U2 _ _ (by decide) (by grind)];rfl
def aPi (g n:Int):Qh g n=some (gM g n):=by unfold Qh gM;have hr:=oW (p:=n) (q:=1019) (by decide);rw[aFz _ _ ⟨hr.1,by omega⟩];cases nW g<;>rfl
def aPj (g n:Int):Qw g n=some (gM g n):=by
 unfold Qw gM;have hr:=oW (p:=n) (q:=1019) (by decide);cases h:nW g with
 |false=>rfl
 |true=>have a:=h;unfold nW at a;rw[ac] at a;have:=gU a.1;rw[U2 _ _ ⟨hr.1,by omega⟩ (by grind)];rfl
def aBc (a b:Int):aAd a b=some (Ey a b):=by rfl
def aBd (a b:Int):aAe a b=some (Ey a b):=by rfl
def G5 (a b c:Int):x8 a b c=some (Zq a b c):=rfl
def aK7 (a b:Int):Km a b=some (rE a b):=by
 unfold Km rE;rw[aB (by simp),bd_s];have h:=(nE a [157,b]).1
 grind[decide_eq_false,decide_eq_true,bCd,kC,bH]
def aK8 (a b:Int):aJ5 a b=some (rE a b):=by rfl
def aF0 (a b:Int):aEq a b=some (Ae a b):=by rfl
def aF1 (a b:Int):aEv a b=some (Ae a b):=by rfl
def aU5 (a b:Int):Vw a b=some (P5 a b):=by unfold Vw P5;rw[aB (by simp)];cases bK a 0 2147483647<;>rfl
def aU6 (a b:Int):Wp a b=some (P5 a b):=by unfold Wp P5;rw[aB (by simp)];cases bK a 0 2147483647<;>rfl
def aK9 (k:A0):aJ3 k=some (Ez k):=rfl
def bI2 {c n:Int}{l:List Int}(hn:1<=n/\n<=7)(hl:l.length<=34359738368){F:(List AS×Int->Option (List AS))->List AS×Int->Option (List AS)}(a:∀rec (s:List AS) (i:Int),1<=i->i<=8->s.length<=8->F rec (s,i)=bif decide (i<=n) then rec (s++[⟨i,Eu c l i⟩],i+1) else some s):EV.bZ FUEL F ([],1)=some ((List.range n.toNat).map λ(i:Nat)=>(⟨(i:Int)+1,Eu c l ((i:Int)+1)⟩:AS)):=
 rT (λi=>((List.range i).map λ(i:Nat)=>(⟨(i:Int)+1,Eu c l ((i:Int)+1)⟩:AS),(i:Int)+1)) n.toNat (by omega) (by grind[decide_eq_true,List.range_succ]) (by grind[decide_eq_false]) rfl
def aBe (c:Int)(l:List Int)(n:Int)(h:l.length<=34359738368):Cg c l n=some (yF c l n):=by
 unfold Cg yF;cases h1:bK n 1 7 with
 |false=>rfl
 |true=>
  have hn:=gU h1;rw[bI2 (c:=c) hn h (by grind[aB,bd_s,aX,Eu,aI])];by_cases h2:(l.length:Int)<n
  all_goals simp_all[ao,aq]
def aLa (pin salt key sec:Int)(cs:List Int)(n lim:Int)(h:cs.length<=34359738368):Kn pin salt key sec cs n lim=some (Oq pin salt key sec cs n lim):=by
 unfold Kn Oq aQ7;simp only[aB h,bd_s];have hl:=bAs sec cs n;generalize yF sec cs n=l at hl ⊢;cases bK pin 0 9999 with
 |false=>rfl
 |true=>
 cases bK salt 0 1000000 with
 |false=>rfl
 |true=>
 cases bG key with
 |false=>rfl
 |true=>
 cases fD sec 1019==0 with
 |true=>rfl
 |false=>
 cases bK lim 1 10 with
 |false=>rfl
 |true=>
 rw[bYd (l:=l) (λs=>Ez ⟨s,0,0,lim⟩) (by omega) (λrec i s hi hs=>by
  have a:∀x:AG,aX s [x]:=(by grind[aX]);simp only[dM hi,ae,aQ hi,bd_s,aB (a _)];rfl) (by simp)]
 cases l with
 |nil=>rfl
 |cons x l=>rfl
def aPk (l:List AD)(b:AM)(h:l.length<=34359738368/\b.sz<=34359738368):Qa l b=some (fT l b):=by
 unfold Qa fT;have hb:b.Boxes.length<=34359738368:=by grind[AM.sz]
 simp only[aB h.1,aB h.2,aB (show b.Boxes.length<=34359738368/\l.length<=34359738368 from⟨hb,h.1⟩),bd_s];cases aT l<;>cases iY b l<;>rfl
def bGk (s:AB)(id m:Int):(qZ s id m).sz=s.sz+1:=by
 grind[qZ,AB.sz,List.length_append,List.length_cons,List.length_nil,AI.sz,yR,id,List.take_append_drop]
def bOe {l:List AI}{id:Int}{F:(Int->Option Int)->Int->Option Int}(hl:l.length<=34359738368)(b:∀rec (i:Nat) (hi:i<l.length),F rec (i:Int)=bif decide (l[i].Id<id) then rec ((i+1:Nat):Int) else some (i:Int))(c:∀rec,F rec (l.length:Int)=some (l.length:Int)):EV.bZ FUEL F 0=some (yR id l:Int):=
 aJg (λa:AI=>decide (a.Id<id)) (λi=>some (i:Int)) (λi=>(i:Int)) hl b c
def bSi (id:Int)(l:List AI):yR id l<=l.length:=Uo
def aBf (s:AB)(id m:Int)(h:s.sz<=34359738300):Bu s id m=some (nX s id m):=by
 unfold Bu nX;have hl:s.Accounts.length<=s.sz:=by grind[AB.sz]
 have hk:=bSi id s.Accounts;have b:∀(x y:List AI),x.length+y.length<=34359738400->aX x y:=(by grind[aX]);have hs:s.sz<=34359738368:=by omega
 have h1:=bGk s id m;rw[aB hs,bd_s,bOe (id:=id) (l:=s.Accounts) (by omega) (by grind[dM,aQ,bd_s,aI]) (by simp),bd_s];have a:jP s.Accounts (yR id s.Accounts:Int):=⟨by omega,by omega⟩;have he:(List.take (yR id s.Accounts) s.Accounts).length+(List.drop (yR id s.Accounts) s.Accounts).length=s.Accounts.length:=by rw[<-ay,cJ]
 have ht:(List.take (yR id s.Accounts) s.Accounts).length<=s.Accounts.length:=by omega
 have hd:(List.drop (yR id s.Accounts) s.Accounts).length<=s.Accounts.length:=by omega
 rw[bo,aB a,aB a,aB (by grind),aB (by grind),aB (by grind),aB hs,bd_s,bz];rw[show(AB.mk s.Name (List.take (yR id s.Accounts) s.Accounts++[AI.mk id m []]++List.drop (yR id s.Accounts) s.Accounts) s.Book s.Logins)=qZ s id m from rfl,aB (by omega)];cases bW s<;>cases bW (qZ s id m)<;>rfl
def bU9 {α:Type}{x y:List α}(h:x.length<=1000)(a:y.length<=1000):aX x y:=by grind[aX]
def Xg (seed:Int)(n:Nat):(dL seed n).length=n:=by simp[dL]
def aF2 (seed:Int)(n:Nat):dL seed (n+1)=dL seed n++[bE (aO seed (n:Int))]:=by simp[dL,eg]
def bOf (seed:Int)(n:Nat):bC (dL seed (n+1)) 0=some (bE (aO seed 0)):=by rw[show(0:Int)=((0:Nat):Int) from rfl,aQ (by simp[Xg])];simp[dL]
def bC4 (seed:Int)(n:Nat)(h:1<=n):dL seed n=bE (aO seed 0)::(dL seed n).drop 1:=by obtain⟨m,rfl⟩:∃m,n=m+1:=⟨n-1,by omega⟩;simp[dL,List.range_succ_eq_map]
abbrev sT (s:AB):ByteArray×List AI×Int×Int×List A4×List Int:=(s.Name,s.Accounts,s.Book.Seed,s.Book.Next,s.Book.Open,s.Logins)
theorem aF3 (nm:ByteArray):∀(l:List AF) (k:Nat) (d:AF) (s:AB),qI nm k (l++[d]) s=(eF (qI nm k l s) 1 ((k+l.length:Nat):Int) (dY d.Store nm ((k+l.length:Nat):Int))).1
 |[],k,d,s=>rfl
 |x::l,k,d,s=>by
  rw[cM];show qI nm (k+1) (l++[d]) _=_;rw[aF3 nm l (k+1) d,au,show k+1+l.length=k+(l.length+1) by omega];rfl
def bOg {nm:ByteArray}{l:List AF}{s0:AB}(hl:l.length<=3)(hs:s0.sz<=1000){F:(Nat×ByteArray×List AI×Int×Int×List A4×List Int->Option (ByteArray×List AI×Int×Int×List A4×List Int))->Nat×ByteArray×List AI×Int×Int×List A4×List Int->Option (ByteArray×List AI×Int×Int×List A4×List Int)}
  (a:∀rec (i:Nat) (hi:i<l.length) (s:AB),s.sz<=2000->F rec (i,sT s)=rec (i+1,sT (eF s 1 (i:Int) (dY l[i].Store nm (i:Int))).1)) (b:∀rec s,F rec (l.length,sT s)=some (sT s)):EV.bZ FUEL F (0,sT s0)=some (sT (qI nm 0 l s0)):=
 rT (λi=>(i,sT (qI nm 0 (l.take i) s0))) l.length (by omega) (by grind[Y9,s0,List.length_take,List.take_succ_eq_append_getElem,aF3]) (by simp[*]) rfl
def bGl {α:Type}{p r:List α}{s:α}:bC (p++s::r) ((p.length:Nat):Int)=some s:=by simp[aQ]
def bSj {α ι:Type}(e:Nat->ι){p0 l:List α}(f:α->α){F:(ι×List α->Option (List α))->ι×List α->Option (List α)}(hl:l.length<=1000)
  (a:∀rec (p:List α) (d:α) (r:List α),p.length+1+r.length=p0.length+l.length->d∈l->F rec (e p.length,p++d::r)=rec (e (p.length+1),p++f d::r)) (b:∀rec (p:List α),p.length=p0.length+l.length->F rec (e (p0.length+l.length),p)=some p):EV.bZ FUEL F (e p0.length,p0++l)=some (p0++l.map f):=
 rT (λi=>(e (p0.length+i),p0++(l.take i).map f++l.drop i)) l.length (by omega) (λrec i hi=>by
  have h2:(p0++(l.take i).map f).length=p0.length+i:=by grind
  grind[List.append_assoc,List.singleton_append,Nat.add_assoc,List.take_succ_eq_append_getElem,List.map_singleton,List.getElem_mem,List.drop_eq_getElem_cons,List.length_drop]) (by simp[*]) (by simp)
def bBf (n:Nat)(d:AF):Nat->AF
 |0=>d
 |j+1=>Js (aA (j:Int)) n (bBf n d j)
def Xh (j:Int):(aA j).size<=100:=by unfold aA;cases j==0<;>cases j==1<;>decide
def bOh {nm:ByteArray}{n:Nat}{d:AF}{r:List AF}(hn:n<=3)(hd:d.sz<=100){F:(Nat×List AF->Option (List AF))->Nat×List AF->Option (List AF)}
  (a:∀rec (i:Nat) (x:AF),i<n->x.sz<=1000->F rec (i,x::r)=rec (i+1,(dI x nm (i:Int) false).1::r)) (b:∀rec x,F rec (n,x::r)=some (x::r)):EV.bZ FUEL F (0,d::r)=some (Js nm n d::r):=
 rT (λi=>(i,Js nm i d::r)) n (by omega) (λrec i hi=>by
  have h1:=aEg nm i d;rw[a rec i _ hi (by omega)];rfl) (λrec=>b rec _) rfl
def bOi {n:Nat}{d:AF}{r:List AF}{F:(Nat×List AF->Option (List AF))->Nat×List AF->Option (List AF)}(hn:n<=3)(hd:d.sz<=10)
  (a:∀rec (j:Nat) (x:AF),j<2->x.sz<=100->F rec (j,x::r)=rec (j+1,Js (aA (j:Int)) n x::r)) (b:∀rec x,F rec (2,x::r)=some (x::r)):EV.bZ FUEL F (0,d::r)=some (bBf n d 2::r):=
 rT (λj=>(j,bBf n d j::r)) 2 (by omega) (λrec j c=>by
  have h1:∀j:Nat,(bBf n d j).sz<=d.sz+j*n:=by intro j;induction j<;>grind[aEg,aA,bBf,Js,Nat.add_mul]
  have h2:=h1 j;have e:j*n<=2*3:=ib (by omega) hn;rw[a rec j _ c (by omega)];rfl) (λrec=>b rec _) rfl
def bI3 {seed t:Int}(ht:1<=t/\t<=7){F:(List Int×Int->Option (List Int))->List Int×Int->Option (List Int)}(a:∀rec (s:List Int) (i:Int),1<=i->i<=8->s.length<=8->F rec (s,i)=bif decide (i<t) then rec (s++[aW seed [307,i]],i+1) else some s):EV.bZ FUEL F ([],1)=some (Y8 seed t):=
 rT (λi=>((List.range i).map λ(k:Nat)=>aW seed [307,(k:Int)+1],(i:Int)+1)) (t-1).toNat (by omega) (λrec i hi=>by
  rw[a rec _ _ (by omega) (by omega) (by simp;omega),aq (by omega),ae,eg,cN];rfl) (λrec=>by
  rw[a rec _ _ (by omega) (by omega) (by simp;omega),ao (by omega),aa];rfl) rfl
def bLm (s:AB):AB.mk s.Name s.Accounts (AP.mk s.Book.Seed s.Book.Next s.Book.Open) s.Logins=s:=rfl
def bYx (s:AK):AF.mk s [] (0:Int) (0:Int) (0:Int) (AC.mk [])=bE s:=rfl
def cAl (seed:Int)(i:Nat):AK.mk (1:Int) (i:Int) (aW seed [277,(i:Int)]) (0:Int)=aO seed (i:Int):=rfl
def aPl (n k t pin seed:Int):Qi n k t pin seed=some (bL n k t pin seed):=by
 unfold Qi bL Jt;cases h1:bK n 1 3 with
 |false=>rfl
 |true=>
 cases h2:bK k 1 7 with
 |false=>rfl
 |true=>
 cases A:bK t 1 k with
 |false=>rfl
 |true=>
 cases L:bK pin 0 9999 with
 |false=>rfl
 |true=>
 cases M:bG seed with
 |false=>rfl
 |true=>
 have hn:=gU h1;have hk:=gU h2;have ht:=gU A;obtain⟨N,rfl⟩:∃N:Nat,n=(N:Int):=⟨n.toNat,by omega⟩;rw[bo];have f:1<=N/\N<=3:=by omega
 have O:=rP seed N;have Q:=aS1 seed N;have S:=aS2 seed N;simp only[av,aa,dy,ae,bd_s,bYx,cAl];rw[rT (r:=(aV seed N,dL seed N,List.replicate N false)) (λi=>(aV seed i,i,dL seed i,List.replicate i false)) N (s:=([],0,[],[])) (by omega) (λrec i hi=>by
  have u:=bOf seed i;have T:=rP seed i;have V:=Xg seed i;rw[aF2] at u;simp only[dM hi,ae,aB (show aX (dL seed i) [bE (aO seed (i:Int))] from bU9 (by omega) (by simp)),aB (show aX (List.replicate i false) [false] from bU9 (by rw[fk];omega) (by simp)),u,bd_s,aB (show(aV seed i).length<=34359738300 by omega),aF2,List.replicate_succ'];rfl) (λrec=>by simp only[iD,aa]) rfl]
 have B:(bF (aV seed N) (bR seed 0) 1000).1=iZ seed N:=rfl;simp only[bd_s,aB (show(aV seed N).length<=34359738300 by omega),B,aB (show(aV seed N).length<=34359738368/\(iZ seed N).sz<=34359738368 from⟨by omega,by omega⟩)];have v:=Xg seed N;rw[rT (r:=xI (dL seed N) seed) (λj=>((xI (dL seed N) seed).take j,j)) 2 (s:=([],0)) (by omega) (λrec j D=>by
  have hs:=Xh (j:Int);have W:=aNu (aA (j:Int)) (aW seed [281,(j:Int)]);have X:=aS3 (gZ (aA (j:Int)) (aW seed [281,(j:Int)])) 1 3;simp only[aq (show(j:Int)<2 by omega),ae,aB (show[281,(j:Int)].length<=34359738300 by simp),bd_s,aB (show(aA (j:Int)).size<=34359738368 by omega),aB (show(gZ (aA (j:Int)) (aW seed [281,(j:Int)])).sz<=34359738300 by omega)];rw[bOg (nm:=aA (j:Int)) (l:=dL seed N) (s0:=(nX (gZ (aA (j:Int)) (aW seed [281,(j:Int)])) 1 3).1) (by omega) (by omega) (λrec i hi s hsz=>by
   simp only[dM hi,ae,aQ hi,bd_s,aB (show(aA (j:Int)).size<=34359738300 by omega),bLm,aB (show s.sz<=34359738300 by omega)]) (λrec s=>by simp only[iD,aa])]
  have F:((xI (dL seed N) seed).take j).length<=1000:=by rw[cg];omega
  have h:∀x:AB,aX ((xI (dL seed N) seed).take j) [x]:=λx=>bU9 F (by simp);simp only[bd_s,bLm,aB (h _)];have m:j=0\/j=1:=by omega
  rcases m with rfl|rfl<;>rfl) (λrec=>by rfl) rfl]
 simp only[bd_s];have a:∀d∈dL seed N,d.sz=0:=λd hd=>by
  simp only[dL,cn] at hd;obtain⟨i,_,rfl⟩:=hd;rfl
 rw[show(0,dL seed N)=((λi:Nat=>i) ([]:List AF).length,([]:List AF)++dL seed N) from rfl,bSj (λi:Nat=>i) (p0:=[]) (l:=dL seed N) (yG seed N) (by omega) (λrec p d r hp hd=>by
  have h0:=a d hd;simp only[bp] at hp;simp only[dM (show p.length<N by omega),ae,bGl,bd_s,aB (show d.sz<=34359738368/\(aV seed N).length<=34359738368 from⟨by omega,by omega⟩),bo,set_mid rfl,cm,fi];rfl) (λrec p hp=>by
  simp only[bp,v,ck,iD,aa])]
 obtain⟨R,c⟩:∃R,R=((dL seed N).drop 1).map (yG seed N):=⟨_,rfl⟩;have hm:(dL seed N).map (yG seed N)=yG seed N (bE (aO seed 0))::R:=by have:=congrArg (List.map (yG seed N)) (bC4 seed N f.1);rw[this,c];rfl
 have G:R.length=N-1:=by rw[c,bj,ct,v]
 have o:∀d∈R,d.sz<=10:=λd hd=>by
  rw[c,cn] at hd;obtain⟨x,e,rfl⟩:=hd;have h0:=a x (di e);have:=aQ9 seed N x;omega
 have H:=aQ9 seed N (bE (aO seed 0));rw[aJl] at H;have hq:∀x:AF,bC (x::R) 0=some x:=λx=>rfl;rw[bz,hm,bd_s,bOi (n:=N) (d:=yG seed N (bE (aO seed 0))) (r:=R) f.2 (by omega) (λrec j x D e=>by
  simp only[aq (show(j:Int)<2 by omega),ae];rw[bOh (nm:=aA (j:Int)) (n:=N) (d:=x) (r:=R) f.2 e (λrec i x hi e=>by
   have hs:=Xh (j:Int);simp only[dM hi,ae,hq,bd_s,aB (show x.sz<=34359738360/\(aA (j:Int)).size<=34359738300 from⟨by omega,by omega⟩)];rfl) (λrec x=>by simp only[iD,aa])]
  simp only[bd_s]) (λrec x=>by rfl)]
 have I:bBf N (yG seed N (bE (aO seed 0))) 2=mF seed N:=rfl;have w:dQ (mF seed N)=nwW seed N:=rfl;have hc:(dJ (fT (aV seed N) (iZ seed N)).1 (nwW seed N).2.1).1=jU seed N:=rfl;have Z:=aS0 seed N;have z:=Aq (mF seed N);rw[w] at z;have J:=aNt (aV seed N) (iZ seed N);have b:∀x y:AF,(x::R).set (0:Int).toNat y=y::R:=λ_ _=>rfl;simp only[bd_s,I,hq,aB (show(mF seed N).sz<=34359738368 by omega),w,aB (show(fT (aV seed N) (iZ seed N)).1.sz<=34359738300/\(nwW seed N).2.1.sz<=34359738300 from⟨by omega,by have:=z.2;simp only[AJ.sz];omega⟩),hc,b];rw[show((1:Int),(nwW seed N).1::R)=((λi:Nat=>(i:Int)) ([(nwW seed N).1]:List AF).length,[(nwW seed N).1]++R) from rfl,bSj (λi:Nat=>(i:Int)) (p0:=[(nwW seed N).1]) (l:=R) (λd=>(bT d (jU seed N).Log (jU seed N).Boxes (fP (jU seed N) 0).1).1) (by omega) (λrec p d r hp hd=>by
  have h0:=o d hd;simp only[au,bp] at hp;simp only[dM (show p.length<N by omega),ae,bGl,bd_s,aB (show d.sz<=34359738100/\(jU seed N).sz<=34359738100 from⟨by omega,by omega⟩),bo,set_mid rfl,cm,fi,aI (show-9223372036854775808<=(p.length:Int)+1 by omega) (show(p.length:Int)+1<=9223372036854775807 by omega)];rfl) (λrec p hp=>by
  simp only[show([(nwW seed N).1]:List AF).length+R.length=N by simp only[au,bp];omega,iD,aa])]
 have K:[(nwW seed N).1]++R.map (λd=>(bT d (jU seed N).Log (jU seed N).Boxes (fP (jU seed N) 0).1).1)=kL seed N:=by rw[c,gp];show(nwW seed N).1::_=(nwW seed N).1::_;congr 1;exact fw λd _=>bUf seed N d
 rw[K];simp only[bd_s];rw[bI3 (seed:=seed) (t:=t) ⟨by omega,by omega⟩ (λrec s i h0 h1 h2=>by
  have h:∀x:Int,aX s [x]:=λx=>bU9 (by omega) (by simp);simp only[aB (show([307,i]:List Int).length<=34359738300 by simp),bd_s,aB (h _),aI (show-9223372036854775808<=i+1 by omega) (show i+1<=9223372036854775807 by omega)])]
 have q:(Y8 seed t).length<=34359738368:=by simp only[Y8,bj,ey];omega
 simp only[bd_s,aB (show([283]:List Int).length<=34359738300 by simp),aB (show([293]:List Int).length<=34359738300 by simp),aB (show(1018:Int)≠0 by decide),aB q];rfl
def aF4 (a b c:Int):Gy a b c=some (iE a b c):=by unfold Gy iE;cases fD c 1019==0<;>rfl
def Xi (s:AS)(e:Int):xX s e=some (Zr s e):=by unfold xX Zr;cases nW e<;>cases e==1<;>cases bK s.Value 0 1018<;>rfl
def aLb (k:A0)(e:Int):Lt k e=some (yS k e):=by unfold Lt yS;cases kK k<;>cases k.Guesses==k.Limit<;>cases nW e<;>cases e==1<;>rfl
def aPm (a b:Int):Qx a b=some (nI a b):=by unfold Qx nI;rw[aB (show(2039:Int)≠0 by decide)];cases nW a<;>cases nW b<;>rfl
def aLc (v:A3)(o:Int):Lu v o=some (aJn v o):=by unfold Lu aJn;rw[bne];cases Ae o v.Salt==v.Check<;>rfl
def aU7 (h:AG)(e:Int)(a:h.sz<=34359738300):Wn h e=some (oO h e):=by
 have hq:=a;simp only[AG.sz] at hq;have b:aX h.Saved [h.State]:=by unfold aX;simp only[au,bp];omega
 unfold Wn oO;rw[aB (show h.sz<=34359738368 by omega),bd_s];cases decide (kQ h.State<h.Monotonic) with
 |true=>rfl
 |false=>
  rw[aa];cases(yS h.State e).2.2 with
  |false=>rfl
  |true=>
   simp only[av,aa,aB b,jh];unfold bQz;cases hd:decide (((h.Saved++[h.State]).length:Int)>30) with
   |false=>rfl
   |true=>have:=of_decide_eq_true hd;rw[ae,aB (show jP (h.Saved++[h.State]) 1 from⟨by omega,by omega⟩),aB (show aX [] (List.drop (Int.toNat 1) (h.Saved++[h.State])) by unfold aX;simp only[bp,ct,ay,au];omega)];rfl
def bWd:((1019:Int)≠0)=True:=by simp
def aX1 (b n:Int)(h:0<=n/\n<2048)(hb:0<=b/\b<1019):jB b n 1019=some (aOo 1019 11 b n 1):=by
 unfold jB;rw[show b.tmod 1019=b by rw[ce hb.1];omega,show(1:Int).tmod 1019=1 by decide,aFy (m:=1019) (λrec b n s h0 h1=>by
  have a:((2:Int)≠0)=True:=by simp
  simp only[show n.tmod 2=n%2 from ce h0,show n.tdiv 2=n/2 from fo h0,show IntKind.i64.wrap (n/2)=n/2 from aI (by omega) (by omega),bWd,a,gd_T,qF,bd_s]) 11 b n 1 FUEL (by have:=iK;omega) h.1 (by have:=h.2;omega) (by omega)]
 simp only[bWd,gd_T,bd_s]
def Pi (n:Int):uF n=some (aNw n):=by have hr:=oW (p:=n) (q:=1019) (by decide);unfold uF aNw;rw[aX1 _ _ (by decide) ⟨hr.1,hr.2⟩];cases fD n 1019==0<;>rfl
def G6 (a b:Int):zO a b=some (bAt a b):=by unfold zO bAt gM;cases nW a<;>cases fD b 1019==0<;>rfl
def bI4 {σ:Type}(g:σ->Nat->σ)(s:σ)(i:Nat):(List.range (i+1)).foldl g s=g ((List.range i).foldl g s) i:=by rw[eg,fm];rfl
def getD_at {l:List Int}{i:Nat}(h:i<l.length):l.getD i 0=l[i]:=by simp[List.getD,ab h]
def bOj {l:List Int}{i:Int}(h0:0<=i)(h1:i<(l.length:Int)):bC l i=some (l.getD i.toNat 0):=by rw[kY h0 (by omega)];simp[List.getD,ab (show i.toNat<l.length by omega)]
def Sd (l:List Int)(k a:Int)(hl:l.length<=34359738368):vI l k a=some (Ju l k a):=by
 unfold vI Ju;rw[sH,bd_s];cases hk:(decide (k<0)||decide (k>=(l.length:Int))) with
 |true=>rfl
 |false=>
  have b:=Uj hk;rw[aa,cF];rw[kG (l:=l) (aEi (λq=>fD q 1019) l) (.inl (0:Int)) (.inr ()) (by omega) (λrec i hi=>by
   simp only[dM hi,ae];rw[bQ1 (f:=λq=>fD q 1019) hi (by omega) (.inl (.inl (0:Int))) (.inr ()) (λrec' j c=>by
    simp only[dM c,ae,aQ (show j<l.length by omega),aQ hi,bd_s];rw[BEq.comm]) (λrec'=>by simp only[iD,aa])]
   cases aEi (λq=>fD q 1019) l i l[i]<;>rfl) (λrec=>by simp only[iD,aa])]
  cases gF (aEi (λq=>fD q 1019) l) 0 l with
  |true=>rfl
  |false=>
   simp only[aa,nx_r,bOj b.1 b.2,bd_s];rw[X3 (τ:=Int) (s:=((1:Int),(0:Nat))) (λi (s:Int×Nat)=>s=((List.range i).foldl (aS4 l k a) 1,i)) l.length (some ((List.range l.length).foldl (aS4 l k a) 1)) (by omega) rfl (λi s rec hi hv=> ?_) (λs rec hv=> ?_)]
   ·rfl
   ·left;subst hv;refine⟨_,rfl,?_⟩;rw[bI4];simp only[dM hi,ae];unfold aS4;cases he:((i:Int)==k) with
    |true=>simp only[bne,he,av,aa,bd_s,ae]
    |false=>simp only[bne,he,dc,ae,aa,aQ hi,bd_s,aB (show(1019:Int)≠0 by decide),getD_at hi]
   ·subst hv;simp only[iD,aa]
def aX2 (hs:List AG)(a:List Int)(pin b:Int)(h:hs.length<=34359738368/\a.length<=34359738368):T9 hs a pin b=some (aS5 hs a pin b):=by
 unfold T9 aS5 Af;rw[kG (l:=a) (aJm hs a) (.inl false) (.inr ()) (by omega) (λrec i hi=>by
  simp only[dM hi,ae,aQ hi,bd_s,aB (show jP a (i:Int) from⟨by omega,by omega⟩),bo,aB (show(List.take i a).length<=1099511627776 by rw[cg];omega)];unfold aJm aEi;show bd (bif decide (a[i]<0) then some true else bif decide (a[i]>=(hs.length:Int)) then some true else some (jG (List.take i a) a[i])) _=_;unfold jG;cases decide (a[i]<0)<;>cases decide (a[i]>=(hs.length:Int))<;>rfl) (λrec=>by simp only[iD,aa])]
 rw[bne];cases gF (aJm hs a) 0 a<;>cases fD b 1019==0<;>rfl
def bVa {e:Int}{hs:List AG}{a:List Int}(h:Af hs a=true):AskIn (Tj AG.sz hs) hs a.length (bCn hs a e):=by have:=Z0 (e:=e) h a.length (aj _);unfold rA at this;rw[de] at this;exact this
def bVb (hs:List AG):hs.length<=Tj AG.sz hs:=by unfold Tj;omega
def aF5 (v:A3)(hs:List AG)(a:List Int)(pin b:Int)(h:Tj AG.sz hs<=34000000000/\a.length<=100000000):Gz v hs a pin b=some (bKs v hs a pin b):=by
 have hl:=bVb hs;unfold Gz bKs yT bQ0;rw[aB (show Tj AG.sz hs<=34359738368 by omega),bd_s,aB (show hs.length<=34359738368/\a.length<=34359738368 by omega),bd_s];cases hm:aS5 hs a pin b with
 |false=>rfl
 |true=>
  have hc:Af hs a=true:=by unfold aS5 at hm;rw[ac] at hm;exact hm.1
  simp only[av,aa,bd_s,cq];have main:EV.bZ (α:=List Int×List Int×Bool×List AG) FUEL (λj (c:(List Int×List Int×Bool×Nat×List AG))=>bif (decide ((↑c.2.2.2.1:Int)<(↑a.length:Int))) then(bd (bC a (↑c.2.2.2.1:Int)) λk=>bd (bC (c.2.2.2.2) k) λr=>bd (gd (r.sz<=34359738300) (some (oO r (iE v.Salt pin b)))) λf=>bd (bC (c.2.2.2.2) k) λL=>bd (bif (c.2.2.1) then(some (f.2.2)) else(some (false))) λz=>gd (aX c.1 [f.1.State.aAQ.Index]) (gd (aX c.2.1 [f.2.1]) (j ((c.1++[f.1.State.aAQ.Index],c.2.1++[f.2.1],z,(c.2.2.2.1+1),c.2.2.2.2.set k.toNat f.1))))) else(some (c.1,c.2.1,c.2.2.1,c.2.2.2.2))) ([],[],true,0,hs)
    =some (bKq v hs a pin b,bKr v hs a pin b,(iQ v hs a pin b).2.2.length==a.length,(iQ v hs a pin b).1)/\((iQ v hs a pin b).2.2.length=a.length->bKq v hs a pin b=(iQ v hs a pin b).2.1/\bKr v hs a pin b=(iQ v hs a pin b).2.2)/\(bKq v hs a pin b).length=a.length/\(bKr v hs a pin b).length=a.length:=by
   have st:∀i,i<=a.length->∃ix vs,EV.bZ (α:=List Int×List Int×Bool×List AG) 0 (λ_ _=>none) (ix,vs,true,0,hs)=none/\ix.length=i/\vs.length=i/\(((rA (iE v.Salt pin b) hs a i).2.2.length=i)->ix=(rA (iE v.Salt pin b) hs a i).2.1/\vs=(rA (iE v.Salt pin b) hs a i).2.2)/\ix=rQ v hs a pin b i/\vs=rR v hs a pin b i:=λi hi=>by
    refine⟨rQ v hs a pin b i,rR v hs a pin b i,rfl,?_,?_,?_,rfl,rfl⟩
    ·unfold rQ;simp
    ·unfold rR;simp
    ·intro he;induction i with
     |zero=>exact⟨rfl,rfl⟩
     |succ i A=>
      have d:=Z0 (e:=iE v.Salt pin b) hc i (by omega);rw[Ot hi] at he ⊢;unfold rQ rR;rw[eg,cN,cN];simp only[bm,eI];have l:Fa v hs a pin b i=oO ((rA (iE v.Salt pin b) hs a i).1.getD (a[i]).toNat default) (iE v.Salt pin b):=by unfold Fa;rw[getD_at hi];rfl
      rw[l];unfold bCm at he ⊢;cases hb:(oO ((rA (iE v.Salt pin b) hs a i).1.getD (a[i]).toNat default) (iE v.Salt pin b)).2.2 with
      |false=>rw[hb] at he;have:=d.le;simp only[aa] at he;omega
      |true=>rw[hb] at he;simp only[ae,ay,au,bp] at he;obtain⟨t,u⟩:=A (by omega) (by omega);unfold rQ at t;unfold rR at u;exact⟨by rw[t];rfl,by rw[u];rfl⟩
   have all:∀i,i<=a.length->(rA (iE v.Salt pin b) hs a i).2.2.length<=i:=λi hi=>(Z0 hc i hi).le;have eAll:rA (iE v.Salt pin b) hs a a.length=iQ v hs a pin b:=by unfold rA iQ bCn;rw[de]
   refine⟨?_,?_,?_,?_⟩
   ·rw[X3 (τ:=List Int×List Int×Bool×List AG) (s:=(([]:List Int),([]:List Int),true,(0:Nat),hs)) (λi (s:List Int×List Int×Bool×Nat×List AG)=>s=(rQ v hs a pin b i,rR v hs a pin b i,(rA (iE v.Salt pin b) hs a i).2.2.length==i,i,(rA (iE v.Salt pin b) hs a i).1)) a.length
     (some (bKq v hs a pin b,bKr v hs a pin b,(iQ v hs a pin b).2.2.length==a.length,(iQ v hs a pin b).1)) (by omega) rfl (λi s rec hi hv=> ?_) (λs rec hv=> ?_)]
    ·left;subst hv;refine⟨_,rfl,?_⟩;have d:=Z0 (e:=iE v.Salt pin b) hc i (by omega);have m:=aJo hc hi;have l:Fa v hs a pin b i=oO ((rA (iE v.Salt pin b) hs a i).1.getD (a[i]).toNat default) (iE v.Salt pin b):=by unfold Fa;rw[getD_at hi];rfl
     have B:rQ v hs a pin b (i+1)=rQ v hs a pin b i++[(Fa v hs a pin b i).1.State.aAQ.Index]:=by unfold rQ;rw[eg,cN];rfl
     have D:rR v hs a pin b (i+1)=rR v hs a pin b i++[(Fa v hs a pin b i).2.1]:=by unfold rR;rw[eg,cN];rfl
     have l1:(rQ v hs a pin b i).length=i:=by unfold rQ;simp
     have l2:(rR v hs a pin b i).length=i:=by unfold rR;simp
     rw[B,D,l,Ot hi];generalize rQ v hs a pin b i=ix at*;generalize rR v hs a pin b i=vs at*;generalize rA (iE v.Salt pin b) hs a i=s at*;obtain⟨q1,q2,q3,q4⟩:=d;have hk:a[i].toNat<s.1.length:=by omega
     have hg:s.1.getD a[i].toNat default=s.1[a[i].toNat]:=by simp[List.getD,ab hk]
     have n:bC s.1 a[i]=some s.1[a[i].toNat]:=kY m.1 hk;have M:=q2 _ (cj hk);simp only[dM hi,ae,aQ hi,bd_s,n];unfold bCm;rw[hg];generalize s.1[a[i].toNat]=x at*;rw[aB (show x.sz<=34359738300 by omega),bd_s];have F:∀y:Int,aX ix [y]:=λy=>by unfold aX;simp only[au,bp];omega
     have G:∀y:Int,aX vs [y]:=λy=>by unfold aX;simp only[au,bp];omega
     rw[qF,bd_s,aB (F _),aB (G _)];have o:(bif s.2.2.length==i then(oO x (iE v.Salt pin b)).2.2 else false)=((bif (oO x (iE v.Salt pin b)).2.2 then s.2.2++[(oO x (iE v.Salt pin b)).2.1] else s.2.2).length==i+1):=by
      cases(oO x (iE v.Salt pin b)).2.2 with
      |true=>
       simp only[ae,ay,au,bp];cases he:s.2.2.length==i with
       |true=>rw[ae];exact(cY.2 (by have:=eq_of_beq he;omega)).symm
       |false=>rw[aa];exact(bn.2 (by have:=bn.1 he;omega)).symm
      |false=>simp only[aa];rw[bn.2 (show s.2.2.length≠i+1 by omega)];cases s.2.2.length==i<;>rfl
     rw[o]
    ·subst hv;simp only[iD,aa];rw[eAll];rfl
   ·intro he;obtain⟨ix,vs,_,_,_,w,H,I⟩:=st a.length (aj _);rw[eAll] at w;have:=w he;rw[H,I] at this;exact this
   ·show(rQ v hs a pin b a.length).length=_;unfold rQ;simp
   ·show(rR v hs a pin b a.length).length=_;unfold rR;simp
  obtain⟨J,K,N,O⟩:=main;rw[J,bd_s];have q:=bVa (e:=iE v.Salt pin b) hc;have hq:(iQ v hs a pin b).2.2.length<=a.length:=q.le;simp only[sH,bd_s];cases he:(iQ v hs a pin b).2.2.length==a.length with
  |false=>have:=bn.1 he;rw[aq (show(iQ v hs a pin b).2.2.length<a.length by omega)];cases decide ((a.length:Int)<v.Threshold)<;>rfl
  |true=>have p:=eq_of_beq he;obtain⟨n1,n2⟩:=K p;rw[ao (show ¬(iQ v hs a pin b).2.2.length<a.length by omega),aB ⟨by omega,by omega⟩,n1,n2];simp only[bd_s];cases decide ((a.length:Int)<v.Threshold)<;>cases(pR (iQ v hs a pin b).2.1 (iQ v hs a pin b).2.2).2<;>rfl
def aF6 (v:A3)(hs:List AG)(a:List Int)(pin b:Int)(h:Tj AG.sz hs<=34000000000/\a.length<=100000000):Ha v hs a pin b=some (yT v hs a pin b):=by unfold Ha;rw[aB h];rfl
def cAm (w:AA):Tj AG.sz w.Hosts<=w.sz/\w.Mail.sz<=w.sz:=by simp only[AA.sz,AV.sz,Tj];omega
def G7 (w:AA)(a:List Int)(pin:Int)(h:w.sz<=34000000000/\a.length<=100000000):zP w a pin=some (fE w a pin):=by
 obtain⟨q1,q2⟩:=cAm w;unfold zP fE;rw[aB (show w.sz<=34359738368 by omega),bd_s,aB (show w.sz<=34359738368 by omega),bd_s];cases aP w with
 |false=>rfl
 |true=>rw[aB (by simp),bd_s,aB (by decide),aB (show Tj AG.sz w.Hosts<=34000000000/\a.length<=100000000 by omega),bd_s,aB (show w.Mail.sz<=34359738300 by omega),bd_s];rfl
def aF7 (w:AA)(pin:Int)(h:w.sz<=33000000):He w pin=some (Ah w pin):=by
 have hl:w.Hosts.length<=w.sz:=by simp only[AA.sz];omega
 have b:=aS6 w;unfold He;have c:IntKind.i64.wrap ((w.Hosts.length:Int)+1)=(w.Hosts.length:Int)+1:=aI (by omega) (by omega);have a:(if IntKind.i64.wrap ((w.Hosts.length:Int)+(1:Int))<w.aAL.Threshold then IntKind.i64.wrap ((w.Hosts.length:Int)+(1:Int)) else w.aAL.Threshold)=min w.aAL.Threshold ((w.Hosts.length:Int)+1):=by rw[c];split<;>omega
 rw[a];rw[X3 (τ:=List Int) (s:=(([]:List Int),(0:Nat))) (λi (s:List Int×Nat)=>s=((List.range i).map (λ(k:Nat)=>(k:Int)),i)) (min w.aAL.Threshold ((w.Hosts.length:Int)+1)).toNat (some (wB w)) (by omega) rfl (λi s rec hi hv=> ?_) (λs rec hv=> ?_)]
 ·rw[bd_s,aB (show w.sz<=34000000000/\(wB w).length<=100000000 by omega)];rfl
 ·left;subst hv;refine⟨_,rfl,?_⟩;simp only;rw[aq (show(i:Int)<min w.aAL.Threshold ((w.Hosts.length:Int)+1) by omega),ae,aB (show aX ((List.range i).map (λ(k:Nat)=>(k:Int))) [(i:Int)] by unfold aX;simp only[bj,ey,au,bp];omega),eg,cN];rfl
 ·subst hv;simp only;rw[ao (by omega),aa];rfl
def aBg (w:AA)(d:Int)(h:w.sz<=34359738368):Da w d=some (nJ w d):=by
 unfold Da nJ;simp only[aB h,bd_s];cases a:aP w with
 |false=>unfold dK;rw[a];rfl
 |true=>
  cases hd:aN w d with
  |false=>unfold dK;rw[a,hd];rfl
  |true=>
   have ht:dK w d 0=true:=by obtain⟨_,_,b,_⟩:=Hu a;unfold dK;rw[a,hd];unfold gP;rw[aq (show(0:Int)<=0 by decide),aq (show(0:Int)<(w.Sites.length:Int) by omega)];rfl
   simp only[av,aa,bBe ht,bd_s,ht,cq];cases bX w d<;>rfl
def aF8 (w:AA)(d j:Int)(b:w.sz<=34359738200):Gl w d j=some (aJp w d j):=by
 have a:w.sz<=34359738368:=by omega
 unfold Gl aJp;simp only[aB a,bd_s];rw[show(bX w d==true)=bX w d by cases bX w d<;>rfl];cases hq:dK w d j&&bX w d with
 |false=>rfl
 |true=>rw[ac] at hq;simp only[av,aa,ae];exact(eZ (aB (show nV (aEe j)/\w.sz<=34359738200 from⟨bQx (Xf hq.1).2.2.2.1,b⟩)) rfl)
def bI5 (l:List Int):bIn l=some (bQ2 l):=rfl
def bSk (x:Int):0<=qN IntKind.i64 x 255/\qN IntKind.i64 x 255<=255:=by unfold qN;rw[BitVec.toNat_and];have h:((BitVec.ofInt IntKind.i64.bits x).toNat&&&(BitVec.ofInt IntKind.i64.bits 255).toNat)<=255:=bw Nat.and_le_right (by decide);rw[aI (by omega) (by omega)];omega
def aF9 {c:AR}(h:dO c):dO (lX c).1/\0<=(lX c).2/\(lX c).2<=255:=by
 unfold lX;obtain⟨h1,h2⟩:=h;cases hc:decide (c.i<(c.b.length:Int)) with
 |true=>have hc:=of_decide_eq_true hc;refine⟨⟨?_,h2⟩,bSk _⟩;show 0<=IntKind.i64.wrap (c.i+1);rw[aI (by omega) (by omega)];omega
 |false=>exact⟨⟨h1,h2⟩,bSk _⟩
def bQ {c:AR}(h:dO c)(n:Int):dO (eG c n).1/\0<=(eG c n).2/\(0<n->(eG c n).2<n)/\(n<=0->(eG c n).2=0):=by
 obtain⟨h1,h2,a⟩:=aF9 h;obtain⟨k1,k2,k3⟩:=aF9 h1;obtain⟨l1,l2,b⟩:=aF9 k1;unfold eG;by_cases hn:n<=0
 ·rw[aq hn];exact⟨h,cL _,λq=>absurd q (by omega),λ_=>rfl⟩
 ·rw[ao hn];have hn:0<n:=by omega
  simp only[aa];by_cases hb:n<=256
  ·rw[aq hb];exact⟨h1,fS n h2,λ_=>fX _ hn,λq=>absurd q (by omega)⟩
  ·rw[ao hb];simp only[aa];generalize(lX c).2=x at*;generalize(lX (lX c).1).2=y at*;generalize(lX (lX (lX c).1).1).2=z at*;rw[aI (show-9223372036854775808<=x*65536 by omega) (by omega),aI (show-9223372036854775808<=y*256 by omega) (by omega),aI (show-9223372036854775808<=x*65536+y*256 by omega) (by omega),aI (show-9223372036854775808<=x*65536+y*256+z by omega) (by omega)];exact⟨l1,fS n (by omega),λ_=>fX _ hn,λq=>absurd q (by omega)⟩
def bVc {a b c d e:Int}(h:0<=a)(i:a<4)(b1:0<=b)(j:b<3)(l:0<=c)(f:0<IntKind.i64.wrap (1+a)->c<IntKind.i64.wrap (1+a))(d1:0<=d)(d2:d<40)(m:0<=e)(o:e<999):
  ∃n k t p s,bL (IntKind.i64.wrap (1+b)) (IntKind.i64.wrap (1+a)) (IntKind.i64.wrap (1+c)) d (IntKind.i64.wrap (1+e))=bL n k t p s/\Jt n k t p s=true/\1<=s/\s<=999:=by
 rw[aI (show-9223372036854775808<=1+a by omega) (by omega)] at f ⊢;have f:=f (by omega);rw[aI (show-9223372036854775808<=1+b by omega) (by omega),aI (show-9223372036854775808<=1+c by omega) (by omega),aI (show-9223372036854775808<=1+e by omega) (by omega)];refine⟨_,_,_,_,_,rfl,?_,by omega,by omega⟩;unfold Jt;rw[show bG (1+e)=true from jA (by omega) (by omega),jA (show(1:Int)<=1+b by omega) (by omega),jA (show(1:Int)<=1+a by omega) (by omega),jA (show(1:Int)<=1+c by omega) (by omega),jA d1 (by omega)];rfl
def aU8 {c:AR}(h:dO c):dO (pU c).1/\∃n k t p s,(pU c).2=bL n k t p s/\Jt n k t p s=true/\1<=s/\s<=999:=by have a:dO (dA c).1:=(bQ h 4).1;have b:dO (dB c).1:=(bQ a 3).1;have d:dO (dC c).1:=(bQ b (IntKind.i64.wrap (1+(dA c).2))).1;have e:dO (dD c).1:=(bQ d 40).1;have f:dO (dE c).1:=(bQ e 999).1;have i:0<=(dA c).2:=(bQ h 4).2.1;have j:(dA c).2<4:=(bQ h 4).2.2.1 (by decide);have b1:0<=(dB c).2:=(bQ a 3).2.1;have l:(dB c).2<3:=(bQ a 3).2.2.1 (by decide);have m:0<=(dC c).2:=(bQ b (IntKind.i64.wrap (1+(dA c).2))).2.1;have o:0<IntKind.i64.wrap (1+(dA c).2)->(dC c).2<IntKind.i64.wrap (1+(dA c).2):=(bQ b (IntKind.i64.wrap (1+(dA c).2))).2.2.1;have d1:0<=(dD c).2:=(bQ d 40).2.1;have d2:(dD c).2<40:=(bQ d 40).2.2.1 (by decide);have q:0<=(dE c).2:=(bQ e 999).2.1;have r:(dE c).2<999:=(bQ e 999).2.2.1 (by decide);unfold pU;dsimp only;exact⟨f,bVc i j b1 l m o d1 d2 q r⟩
def bLn {l:List Int}(h:l.length<=1048576):3<=Fb l 14/\Fb l 14<=14:=by
 have h1:=Int.tdiv_nonneg (a:=(l.length:Int)) (b:=12) (by omega) (by decide);have h2:(l.length:Int).tdiv 12<=(l.length:Int):=Int.tdiv_le_self _ (by omega);unfold Fb;rw[aI (show-9223372036854775808<=(l.length:Int).tdiv 12 by omega) (by omega),aI (show-9223372036854775808<=3+(l.length:Int).tdiv 12 by omega) (by omega)];by_cases c:3+(l.length:Int).tdiv 12>14
 ·rw[aq c];exact⟨show(3:Int)<=14 by decide,show(14:Int)<=14 by decide⟩
 ·rw[ao c];show 3<=3+(l.length:Int).tdiv 12/\3+(l.length:Int).tdiv 12<=14;omega
def bSl {l:List Int}(h:l.length<=1048576):dO (bNd l):=⟨cL _,h⟩
def aX3 (c:AR)(h:dO c):P8 c=some (lX c):=by
 unfold P8 lX;rw[aB (by decide),aB (by decide)];cases hc:decide (c.i<(c.b.length:Int)) with
 |true=>have hc:=of_decide_eq_true hc;have h0:=h.1;rw[ae,ae,kY h0 (by omega),List.getD,ab (show c.i.toNat<c.b.length by omega)];rfl
 |false=>rfl
def aU9 (c:AR)(n:Int)(h:dO c):Va c n=some (eG c n):=by
 have h1:=(aF9 h).1;have h2:=(aF9 h1).1;unfold Va eG;by_cases hn:n<=0
 ·rw[aq hn];rfl
 ·rw[ao hn];by_cases hb:n<=256
  ·rw[aq hb];simp only[aa,ae,aB h,bd_s,aB (show n≠0 by omega)]
  ·rw[ao hb];simp only[aa,aB h,aB h1,aB h2,bd_s,aB (show n≠0 by omega)]
def aX4 (c:AR)(n:Int)(h:dO c):Q9 c n=some (Pw c n):=by unfold Q9;rw[aB h];rfl
def aX5 (l:List Int)(m:Int):Q8 l m=some (Fb l m):=by unfold Q8 Fb;rw[aB (by decide)];cases decide (IntKind.i64.wrap (3+IntKind.i64.wrap ((l.length:Int).tdiv 12))>m)<;>rfl
def aX6 (c:AR)(h:dO c):Q7 c=some (pU c):=by have b:dO (dA c).1:=(bQ h 4).1;have d:dO (dB c).1:=(bQ b 3).1;have e:dO (dC c).1:=(bQ d (IntKind.i64.wrap (1+(dA c).2))).1;have f:dO (dD c).1:=(bQ e 40).1;unfold Q7;exact eZ (a:=dA c) (aB h) (eZ (a:=dB c) (aB b) (eZ (a:=dC c) (aB d) (eZ (a:=dD c) (aB e) (eZ (a:=dE c) (aB f) rfl))))
def bSm {c:AR}(h:dO c):dO (Ou c).1/\aJb (Ou c).2:=by
 have e:dO (eA c).1:=(bQ h 13).1;have s:0<=(eA c).2:=(bQ h 13).2.1;have t:(eA c).2<13:=(bQ h 13).2.2.1 (by decide);have i:dO (eB c).1:=(bQ e 4).1;have j:0<=(eB c).2:=(bQ e 4).2.1;have u:(eB c).2<4:=(bQ e 4).2.2.1 (by decide);have l:dO (eC c).1:=(bQ i 3).1;have m:0<=(eC c).2:=(bQ i 3).2.1;have w:(eC c).2<3:=(bQ i 3).2.2.1 (by decide);have n:dO (eD c).1:=(bQ l 4).1;have d2:0<=(eD c).2:=(bQ l 4).2.1;have d3:(eD c).2<4:=(bQ l 4).2.2.1 (by decide);have a:dO (eE c).1:=(bQ n 3).1;have o:dO (eG (eE c).1 40).1:=(bQ a 40).1;have p:0<=(eG (eE c).1 40).2:=(bQ a 40).2.1;have x:(eG (eE c).1 40).2<40:=(bQ a 40).2.2.1 (by decide);have r:dO (Pw (eE c).1 2).1:=(bQ a 2).1;have hk:1<=eK c/\eK c<=13:=by unfold eK;rw[aI (by omega) (by omega)];omega
 unfold Ou;generalize eK c=k at*;generalize(eB c).2=b at*;generalize(eC c).2=d at*;generalize(eD c).2=v at*;generalize(eG (eE c).1 40)=f at*;generalize(Pw (eE c).1 2)=g at*;generalize eE c=q at*;cases h1:k==11 with
 |true=>rw[cY] at h1;exact⟨o,hk,⟨j,by show b<=3;omega⟩,⟨m,by show d<=2;omega⟩,⟨p,by show f.2<=39;omega⟩,λq=>absurd h1 q⟩
 |false=>
  cases h2:k==4||k==13 with
  |true=>
   refine⟨r,?_,⟨j,by show b<=3;omega⟩,⟨m,by show d<=2;omega⟩,⟨d2,by show v<=39;omega⟩,λ_=>by show v<=3;omega⟩;show 1<=(bif g.2 then(2:Int) else k)/\(bif g.2 then(2:Int) else k)<=13;cases g.2
   ·exact hk
   ·exact⟨show(1:Int)<=2 by decide,show(2:Int)<=13 by decide⟩
  |false=>exact⟨a,hk,⟨j,by show b<=3;omega⟩,⟨m,by show d<=2;omega⟩,⟨d2,by show v<=39;omega⟩,λ_=>by show v<=3;omega⟩
def bI6 {c:AR}(h:dO c):∀n,dO (Eg c n).1/\(Eg c n).2.length=n/\∀e∈(Eg c n).2,aJb e
 |0=>⟨h,rfl,λe he=>by simp[Eg] at he⟩
 |n+1=>by
  obtain⟨h1,h2,a⟩:=bI6 h n;obtain⟨k1,k2⟩:=bSm h1;refine⟨k1,by simp[Eg,h2],λe he=> ?_⟩;simp only[Eg,bv,cp] at he;rcases he with he|rfl
  ·exact a e he
  ·exact k2
def bVd {l:List Int}(h:l.length<=1048576):(∃n k t p s,(Px l).1=bL n k t p s/\Jt n k t p s=true/\1<=s/\s<=999)/\(Px l).2.length<=19/\∀e∈(Px l).2,aJb e:=by
 obtain⟨h1,h2⟩:=aU8 (bSl h);have hs:=bLn h;have hm:IntKind.i64.wrap (6+Fb l 14)<=20/\0<IntKind.i64.wrap (6+Fb l 14):=by rw[aI (by omega) (by omega)];omega
 obtain⟨k1,k2,k3,_⟩:=bQ h1 (IntKind.i64.wrap (6+Fb l 14));obtain⟨_,a,b⟩:=bI6 k1 (eG (pU (bNd l)).1 (IntKind.i64.wrap (6+Fb l 14))).2.toNat;refine⟨h2,?_,b⟩;show(Eg _ _).2.length<=19;rw[a];have:=k3 hm.2;omega
def aPn (c:AR)(h:dO c):Qj c=some (Ou c):=by
 have d:dO (eA c).1:=(bQ h 13).1;have e:dO (eB c).1:=(bQ d 4).1;have f:dO (eC c).1:=(bQ e 3).1;have i:dO (eD c).1:=(bQ f 4).1;have b:dO (eE c).1:=(bQ i 3).1;unfold Qj;refine eZ (a:=eA c) (aB h) (eZ (a:=eB c) (aB d) (eZ (a:=eC c) (aB e) (eZ (a:=eD c) (aB f) (eZ (a:=eE c) (aB i) ?_))));change bd (bif eK c==11 then _ else bd (bif eK c==4 then _ else some (eK c==13)) _) _=_;unfold Ou;cases eK c==11 with
 |true=>simp only[ae];exact eZ (eZ (a:=eG (eE c).1 40) (aB b) rfl) rfl
 |false=>
  simp only[aa];rw[show(bif eK c==4 then(some true:Option Bool) else some (eK c==13))=some (eK c==4||eK c==13) by cases eK c==4<;>rfl,bd_s];cases eK c==4||eK c==13 with
  |true=>
   simp only[ae];cases hq:(Pw (eE c).1 2).2 with
   |true=>exact eZ (eZ (a:=Pw (eE c).1 2) (aB b) (by rw[hq];rfl)) rfl
   |false=>exact eZ (eZ (a:=Pw (eE c).1 2) (aB b) (by rw[hq];rfl)) rfl
  |false=>rfl
def aLd (c:AR)(m:Int)(h:dO c/\m<=256):Ko c m=some (Zt c m):=by
 obtain⟨h,hm⟩:=h;obtain⟨k1,k2,k3,k4⟩:=bQ h m;have hv:(eG c m).2<=256:=by
  by_cases h0:0<m
  ·have:=k3 h0;omega
  ·rw[k4 (by omega)];decide
 unfold Ko Zt;rw[aB h,bd_s];generalize(eG c m).1=a at*;generalize(eG c m).2=v at*;obtain⟨n,rfl⟩:=dx k2;rw[bo];refine eZ (rT (r:=((Eg a n).2,(Eg a n).1.b,(Eg a n).1.i,(Eg a n).1.h)) (λi=>((Eg a i).2,((n-i:Nat):Int),(Eg a i).1.b,(Eg a i).1.i,(Eg a i).1.h)) n (by omega) (λrec i hi=> ?_) (λrec=> ?_) rfl) rfl
 ·obtain⟨q1,q2,_⟩:=bI6 k1 i;simp only[aq (show((n-i:Nat):Int)>0 by omega),ae];rw[aB (show dO ⟨(Eg a i).1.b,(Eg a i).1.i,(Eg a i).1.h⟩ from q1),bd_s,aB (by unfold aX;rw[q2,cz];omega),show IntKind.i64.wrap (((n-i:Nat):Int)-1)=((n-(i+1):Nat):Int) by rw[aI (by omega) (by omega)];omega];rfl
 ·simp only[ga,ao (show ¬((0:Nat):Int)>0 by decide),aa]
def aBh (l:List Int)(h:l.length<=1048576):Ch l=some (Px l):=by
 unfold Ch;refine eZ (a:=bV2 l) (rT (λi=>(bKw l i,(i:Int))) (min l.length 4000) (by omega) (λrec i hi=> ?_) (λrec=> ?_) rfl) ?_
 ·simp only[aq (show(i:Int)<(l.length:Int) by omega),aq (show(i:Int)<4000 by omega),ae,bd_s,aQ (show i<l.length by omega)];rw[show IntKind.i64.wrap ((i:Int)+1)=((i+1:Nat):Int) by rw[aI (by omega) (by omega)];omega,bKw,List.getD,ab (show i<l.length by omega)];rfl
 ·by_cases hl:l.length<4000
  ·simp only[ao (show ¬((min l.length 4000:Nat):Int)<(l.length:Int) by omega),aa,bd_s];rfl
  ·simp only[ao (show ¬((min l.length 4000:Nat):Int)<4000 by omega),bXg,bd_s,aa];cases decide (((min l.length 4000:Nat):Int)<(l.length:Int))<;>rfl
 ·have hs:=bLn h;have h1:=bSl h;exact eZ (a:=pU (bNd l)) (aB h1) (eZ (a:=Zt (pU (bNd l)).1 (IntKind.i64.wrap (6+Fb l 14))) (aB ⟨(aU8 h1).1,by rw[aI (by omega) (by omega)];omega⟩) rfl)
def bYy (n k t pin seed:Int):(bL n k t pin seed).Hosts.length<=7:=by
 unfold bL;cases Jt n k t pin seed with
 |false=>exact cy _
 |true=>exact(aEh pin 7 (aW seed [283]) (IntKind.i64.wrap (1+(aW seed [293]).tmod 1018)) (Y8 seed t) k 5).1
def bGm {w:AA}{l:List AX}(h:WIn w.Devices.length w)(a:w.Hosts.length<=400):∀k,WIn (runN w l k).Devices.length (runN w l k)/\(runN w l k).Hosts.length<=400/\(runN w l k).sz<=w.sz+3000*k/\(runN w l k).Seed=w.Seed
 |0=>⟨h,a,aj _,rfl⟩
 |k+1=>by
  obtain⟨h1,h2,c,b⟩:=bGm (l:=l) h a k;have:=bIg h1 h2 (l.getD k default).Kind (l.getD k default).Device (l.getD k default).Other (l.getD k default).Value (l.getD k default).Flag;exact⟨this.kept.wi,bw this.hosts h2,by have:=this.kept.sz;show(yH _ _ _ _ _ _).1.sz<=_;omega,this.kept.seed.trans b⟩
def bVe {w:AA}{i:Nat}(h:w.sz<=34359738368)(hi:i<w.Sites.length):w.Sites[i].Accounts.length<=34359738368/\∀k (hk:k<w.Sites[i].Accounts.length),w.Sites[i].Accounts[k].Credentials.length<=34359738368:=by
 have h1:w.Sites[i].sz<=w.sz:=by have:=wV (f:=AB.sz) hi;rw[List.getD,ab hi,ci] at this;simp only[AA.sz];omega
 refine⟨by simp only[AB.sz] at h1;omega,λk hk=> ?_⟩;have:=wV (f:=AI.sz) hk;rw[List.getD,ab hk,ci] at this;simp only[AB.sz] at h1;simp only[AI.sz] at*;omega
def cB5:bB aJq=387010709:=by kernel_rfl
def bOk:List (Int×Int):=[(387010709,0),(387010709,1),(387010709,2),(387010709,3)]
def bLo:KeyD (aOq++bOk):=bUu (by decide) (by decide)
def bYz {e:AX}(h:aJb e):e.Kind=8->(bB aJq,e.Value)∈aOq++bOk:=λq=>by
 have a:=h.2.2.2.1;have b:=h.2.2.2.2 (by omega);rw[cB5];rcases(show e.Value=0\/e.Value=1\/e.Value=2\/e.Value=3 by omega) with q|q|q|q<;>rw[q]<;>decide
def bC5 {S:List (Int×Int)}(a:KeyD S){w:AA}{v:List AX}(h:All S 0 w)(hv:∀e∈v,e.Kind=8->(bB aJq,e.Value)∈S):∀k,k<=v.length->k<=58->All S k (runN w v k)
 |0,_,_=>h
 |k+1,h1,h2=>by
  have hm:v.getD k default∈v:=by rw[List.getD,ab (show k<v.length by omega)];exact cj _
  exact(bC5 a h hv k (by omega) (by omega)).apply a (by omega) _ _ _ _ _ (hv _ hm)
def aBi (l:List AX):Cj l=some (List.take 60 l):=by
 unfold Cj;by_cases h:(60:Int)<(l.length:Int)
 ·rw[cI h,aB (show jP l 60 from⟨by decide,by show 60<=l.length;omega⟩)];rfl
 ·rw[dg h,aB (show jP l l.length from⟨by omega,by omega⟩),bo,de,dq (by omega)]
def Mh (b:AP)(now:Int)(h:b.sz<=34359738368):sQ b now=some (nK b now):=by
 unfold sQ nK;rw[aB h,bd_s,aB h,bd_s];cases hb:eU b with
 |false=>rfl
 |true=>
  have hl:b.Open.length<=16:=by unfold eU at hb;simp only[ac,ca] at hb;exact hb.1.2
  simp only[av,aa,ae];refine eZ (a:=b.Open.filter λc=>decide (c.Until>=now)) (rT (λi=>(i,(b.Open.take i).filter λc=>decide (c.Until>=now))) b.Open.length (by omega) (λrec i hi=> ?_) (λrec=> ?_) rfl) rfl
  ·simp only[dM hi,ae,aQ hi,bd_s];have hk:((b.Open.take i).filter λc=>decide (c.Until>=now)).length<=16:=bw (gi _ _) (by rw[cg];omega);rw[gb hi,List.filter_append];cases hc:decide (b.Open[i].Until>=now) with
   |true=>rw[ae,aB (by unfold aX;rw[cz];omega),bd_s,jo,hc];rfl
   |false=>rw[aa,bd_s,jo,hc];simp
  ·simp only[iD,aa,de]
def bGn (w:AA)(h:w.sz<=34359738368):aN8 w=some (sM w):=by
 unfold aN8 sM;rw[aB h,bd_s];refine eZ (a:=aP (rC w)) (aB (show(rC w).sz<=34359738368 from h)) ?_;cases c:aP (rC w) with
 |false=>rfl
 |true=>
  obtain⟨h2,_⟩:=Hu c;change w.Sites.length=2 at h2;have b:∀s∈w.Sites,s.Book.sz<=34359738368:=λs hs=>by
   have h1:s.sz<=w.sz:=by obtain⟨i,hi,rfl⟩:=da.1 hs;have:=wV (f:=AB.sz) hi;rw[List.getD,ab hi,ci] at this;simp only[AA.sz];omega
   have:s.Book.sz<=s.sz:=by simp only[AB.sz,AP.sz];omega
   omega
  obtain⟨s0,s1,e⟩:∃s0 s1,w.Sites=[s0,s1]:=by
   match hq:w.Sites,h2 with
   |[s0,s1],_=>exact⟨s0,s1,rfl⟩
  rw[e] at b;have d:=b s0 (by simp);have j:=b s1 (by simp);rw[av,aa,ae];rw[e];refine eZ (rT (λi=>(i,match i with|0=>[s0,s1]|1=>[{s0 with Book:=nK s0.Book (rC w).Now},s1]|_=>[{s0 with Book:=nK s0.Book (rC w).Now},{s1 with Book:=nK s1.Book (rC w).Now}])) 2 (by omega) (λrec i hi=> ?_) (λrec=> ?_) rfl) rfl
  ·rcases(show i=0\/i=1 by omega) with rfl|rfl
   ·exact eZ (aB d) rfl
   ·exact eZ (aB j) rfl
  ·rfl
def aGa (w:AA)(d j:Int)(o:ByteArray)(h:aJr w d j o/\w.sz<=34359738200):Gj w d j o=some (aRa w d j o):=by
 have a:w.sz<=34359738368:=by omega
 unfold Gj aRa;rw[aB a,bd_s,aB a];cases ht:dK w d j with
 |false=>rfl
 |true=>
  cases bX w d with
  |true=>rfl
  |false=>exact eZ (aB (show nV (AQ.mk true o 443)/\w.sz<=34359738200 from⟨h.1 ht,h.2⟩)) rfl
def bSn (w:AA)(d j:Int):aJr w d j (aJk j).Host:=λht=>by
 rcases(Xf ht).2.2.2.1 with rfl|rfl
 ·exact⟨4,by decide,rfl⟩
 ·exact⟨5,by decide,rfl⟩
def aGb (w:AA)(e:AX)(h:w.sz<=33000000):Hm w e=some (evF w e):=by
 have a:w.sz<=34359738368:=by omega
 have b:w.sz<=34359738200:=by omega
 have c:w.sz<=100000000:=by omega
 have d:w.sz<=34359738300:=by omega
 have f:w.sz<=10000000000:=by omega
 have i:w.sz<=34359738100:=by omega
 have hn:=Xh e.Other;unfold Hm evF yH;rw[aB a,bd_s];cases aP w with
 |false=>rw[dc,ae,aB a];rfl
 |true=>
 rw[av,aa];cases h1:e.Kind==1 with
 |true=>rw[ae,aB a];rfl
 |false=>
 cases h2:e.Kind==2 with
 |true=>rw[aa,ae,aB b];rfl
 |false=>
 cases n:e.Kind==3 with
 |true=>rw[aa,aa,ae,aB (by show 6+(aA e.Other).size<=_;omega),aB (by rw[ByteArray.size_append];show 6+(aA e.Other).size+9<=_;omega)];exact bBc (eZ (aB (show aJr w e.Device e.Other (aJk e.Other).Host/\w.sz<=34359738200 from⟨bSn _ _ _,b⟩)) rfl) rfl
 |false=>
 cases o:e.Kind==4 with
 |true=>rw[aa,aa,aa,ae,aB a];rfl
 |false=>
 cases p:e.Kind==5 with
 |true=>simp only[aa,ae,aB b];rfl
 |false=>
 cases q:e.Kind==6 with
 |true=>simp only[aa,ae,aB c];rfl
 |false=>
 cases r:e.Kind==7 with
 |true=>simp only[aa,ae,aB c];rfl
 |false=>
 cases s:e.Kind==8 with
 |true=>simp only[aa,ae];rw[aB (show w.sz<=34359738300/\_ from⟨d,by decide⟩)];rfl
 |false=>
 cases t:e.Kind==9 with
 |true=>simp only[aa,ae,aB f];rfl
 |false=>
 cases j:e.Kind==10 with
 |true=>simp only[aa,ae,aB i];rfl
 |false=>
 cases k:e.Kind==11 with
 |true=>simp only[aa,ae,aB h];rfl
 |false=>
 cases l:e.Kind==12 with
 |true=>simp only[aa,ae,aB a];rfl
 |false=>
 cases m:e.Kind==13 with
 |true=>simp only[aa,ae,aB a];rfl
 |false=>simp only[aa,aB a];rfl
def bSo {l:List AX}{i:Nat}(h:i<(l.take 60).length):(l.take 60)[i]=l.getD i default:=by
 have:i<l.length:=by rw[cg] at h;omega
 rw[List.getD,ab this,ci,jd]
def aLe (w:AA)(l:List AX)(h:Jv w l):Lv w l=some (bFi w l):=by
 unfold Lv;rw[aB h.1,bd_s];refine eZ (a:=flW (runN w l (min l.length 60))) (rT (λi=>(i,flW (runN w l i))) (min l.length 60) (by omega) (λrec i hi=> ?_) (λrec=> ?_) rfl) rfl
 ·have b:i<(l.take 60).length:=by rw[cg];omega
  simp only[dM b,ae,aQ b,bd_s,bSo b];exact eZ (aB (show(runN w l i).sz<=33000000 from h.2 i hi)) rfl
 ·rw[show min l.length 60=(l.take 60).length by rw[cg];omega];simp only[iD,aa]
def aGc (w:AA)(l:List AX)(h:Jv w l):Hr w l=some (Uq w l):=by
 unfold Hr;refine eZ (a:=Uq w l) ?_ rfl;have hlen:(l.take 60).length=min 60 l.length:=cg;by_cases h0:l.length=0
 ·rw[ao (show ¬(0:Int)<((l.take 60).length:Int) by omega),aa];unfold Uq;rw[h0];rfl
 ·have hp:0<(l.take 60).length:=by omega
  rw[aq (show(0:Int)<((l.take 60).length:Int) by omega),ae];refine eZ (a:=l.getD 0 default) ((aQ hp).trans (by rw[bSo hp])) (eZ (aB (show w.sz<=33000000 from h.2 0 (by omega))) ?_);rw[aB (by show 0+1<=_;decide)];refine rT (λi=>((List.range (i+1)).map (aOp w l),((i+1:Nat):Int),flW (runN w l (i+1)))) (min l.length 60-1) (by omega) (λrec i hi=> ?_) (λrec=> ?_) rfl
  ·have b:i+1<(l.take 60).length:=by omega
   simp only[dM b,ae,aQ b,bd_s,bSo b];refine eZ (aB (show(runN w l (i+1)).sz<=33000000 from h.2 (i+1) (by omega))) ?_;rw[aB (by unfold aX;simp only[bj,ey,cz];omega)];rw[eg (n:=i+1),cN,show(((i+1+1:Nat)):Int)=IntKind.i64.wrap (((i+1:Nat):Int)+1) by rw[aI (by omega) (by omega)];omega];rfl
  ·rw[show min l.length 60-1+1=(l.take 60).length by omega];simp only[iD,aa];unfold Uq;rw[hlen,Nat.min_comm]
def aRg {q:Int}{w:AA}{l:List AX}:∀k,Z5 q w l k<=k
 |0=>aj _
 |k+1=>by
  have:=aRg (q:=q) (w:=w) (l:=l) k;unfold Z5;cases aOp w l k&&(l.getD k default).Kind==q
  ·exact Nat.le_succ_of_le this
  ·exact Nat.succ_le_succ this
def G8 (w:AA)(l:List AX)(q:Int)(h:Jv w l):zS w l q=some (bCp w l q):=by
 unfold zS;refine eZ (a:=bCp w l q) (eZ (aB h) ?_) rfl;have hlen:(Uq w l).length=min l.length 60:=by unfold Uq;rw[bj,ey]
 refine rT (λi=>((Z5 q w l i:Int),i)) (min l.length 60) (by omega) (λrec i hi=> ?_) (λrec=> ?_) rfl
 ·have b:i<(Uq w l).length:=by omega
  have c:i<l.length:=by omega
  have e:(Uq w l)[i]=aOp w l i:=by simp[Uq]
  have d:l[i]=l.getD i default:=by rw[List.getD,ab c];rfl
  have hs:=aRg (q:=q) (w:=w) (l:=l) i;simp only[dM b,ae,aQ b,aQ c,bd_s,e,d];rw[show((Z5 q w l (i+1):Nat):Int)=Z5 q w l i+(bif aOp w l i&&(l.getD i default).Kind==q then 1 else 0) by
   show((Z5 q w l i+bif aOp w l i&&(l.getD i default).Kind==q then 1 else 0:Nat):Int)=_;cases aOp w l i&&(l.getD i default).Kind==q<;>rfl]
  cases aOp w l i with
  |false=>simp only[aa,bd_s,fp,Int.add_zero]
  |true=>
   simp only[ae,bd_s,cq];cases(l.getD i default).Kind==q with
   |false=>simp only[aa,bd_s,Int.add_zero]
   |true=>simp only[ae,bd_s];rw[aI (by omega) (by omega)]
 ·rw[<-hlen];simp only[iD,aa];rw[hlen];rfl
def Xj (w:AA)(h:w.Hosts.length<=34359738368):yA w=some (gX w):=by
 unfold yA;rw[kZ (l:=w.Hosts) (λh=>decide (h.State.Guesses>h.State.Limit)||decide (kQ h.State>h.Monotonic)) (.inl false) (.inr ()) (by omega) (λrec i hi=>by
  simp only[dM hi,ae,aQ hi,bd_s];cases decide (w.Hosts[i].State.Guesses>w.Hosts[i].State.Limit)<;>rfl) (λrec=>by simp only[iD,aa])]
 unfold gX;cases w.Hosts.any _<;>rfl
def aPo (w:AA)(d:Int)(h:X5 w):Qz w d=some (Bf w d):=by
 unfold Qz Bf;cases hd:aN w d with
 |false=>rfl
 |true=>have a:=h.2.2.1;simp only[ae,tL hd,bd_s,aB a,cq]
def bSp {α:Type}(l:List α):List.take (Int.toNat (if (l.length:Int)<2 then(l.length:Int) else(2:Int))) l=l.take 2:=by
 by_cases h:(l.length:Int)<2
 ·rw[cI h,bo,de,dq (by omega)]
 ·rw[dg h];rfl
def bY0 {α:Type}(l:List α):jP l (if (l.length:Int)<2 then(l.length:Int) else(2:Int)):=by
 unfold jP;by_cases h:(l.length:Int)<2
 ·rw[cI h];omega
 ·rw[dg h];omega
def aGd (w:AA)(d:Int)(h:w.sz<=34359738368):Ho w d=some (qD w d):=by
 have k:=bIt h;unfold Ho qD;rw[aB k,bd_s];cases Bf w d with
 |false=>rfl
 |true=>
  simp only[av,aa,cF,aB k,bd_s];cases bN w d with
  |true=>rfl
  |false=>
  simp only[aa,dc,cq,bSp,aB (bY0 w.Sites)];rw[kZ (l:=w.Sites.take 2) (Zl d) (.inl false) (.inr ()) (by rw[cg];omega) (λrec i hi=>by
   have f:=hi;rw[cg] at f;have j:i<w.Sites.length:=by omega
   have e:(w.Sites.take 2)[i]=w.Sites[i]:=by simp
   obtain⟨m,n⟩:=bVe h j;simp only[dM hi,ae,bd_s,aQ hi,e,aB m];unfold Zl;generalize w.Sites[i]=s at m n;by_cases hk:aD s 1<0
   ·rw[aq hk];rfl
   ·obtain⟨k1,k2⟩:=aDj (show 0<=aD s 1 by omega);have b:(aD s 1).toNat<s.Accounts.length:=by unfold aD at*;omega
    have o:=n _ b;simp only[ao hk,aa,kY (show 0<=aD s 1 by omega) b,bd_s,dc,cq,List.getD,ab b,ci];generalize s.Accounts[(aD s 1).toNat]=a at o;rw[kZ (l:=a.Credentials) (λc=>c.Handle==d&& !c.Cut) (.inl (.inl false)) (.inr ()) (by omega) (λrec i hi=>by
     simp only[dM hi,ae,aQ hi,bd_s];cases a.Credentials[i].Handle==d<;>rfl) (λrec=>by simp only[iD,aa])]
    cases a.Credentials.any _<;>rfl) (λrec=>by simp only[iD,aa])]
  cases(w.Sites.take 2).any (Zl d)<;>rfl
def aLf (w:AA)(d:Int)(h:X5 w/\w.aAD.Boxes.sz<=34359738368):Lx w d=some (pJ w d):=by
 unfold Lx pJ;cases hd:aN w d with
 |false=>rfl
 |true=>
  simp only[av,aa,tL hd,bd_s,aB h.1,aB h.2,aB h.1.2.2.1,cq];cases bN w d with
  |false=>rfl
  |true=>simp only[av,aa,cF];cases(aL w d).Epoch !=aF w.aAD.Log<;>rfl
def aGe (w:AA)(h:w.sz<=34359738368):Hq w=some (X8 w):=by
 have a:=bIt h;have hb:w.aAD.Boxes.sz<=34359738368:=by simp only[AA.sz] at h;simp only[AM.sz];omega
 have b:w.Hosts.length<=34359738368:=by simp only[AA.sz] at h;omega
 have hd:w.Devices.length<=34359738368:=by simp only[AA.sz] at h;omega
 unfold Hq X8;rw[aB h,bd_s];cases aP w with
 |false=>rfl
 |true=>
  simp only[av,aa,aB b,bd_s,cq];cases gX w with
  |false=>rfl
  |true=>
   simp only[av,aa,cq];rw[kG (l:=w.Devices) (aSn w) (.inl false) (.inr ()) (by omega) (λrec i hi=>by
    simp only[dM hi,ae,bd_s,aB h,aB (show X5 w/\w.aAD.Boxes.sz<=34359738368 from⟨a,hb⟩)];unfold aSn;cases qD w (i:Int)<;>rfl) (λrec=>by simp only[iD,aa])]
   cases gF (aSn w) 0 w.Devices<;>rfl
def bOl {w:AA}{j:Int}(h:gP w j=true):bC w.Sites j=some (w.Sites.getD j.toNat default):=by
 unfold gP at h;rw[ac,ca,ca] at h;have:j.toNat<w.Sites.length:=by omega
 rw[kY h.1 this,List.getD,ab this,ci]
def aBj (w:AA)(j:Int)(a:w.Sites.length<=34359738368):Dk w j=some (cntF w j):=by
 unfold Dk cntF;have e:bK j 0 (IntKind.i64.wrap ((w.Sites.length:Int)-1))=gP w j:=by
  rw[aI (by omega) (by omega)];unfold bK gP;by_cases h:j<w.Sites.length
  ·rw[aq h,aq (show j<=(w.Sites.length:Int)-1 by omega)]
  ·rw[ao h,ao (show ¬j<=(w.Sites.length:Int)-1 by omega)]
 rw[e];cases h:gP w j with
 |false=>rfl
 |true=>rw[bOl h];rfl
def bGo {S:List (Int×Int)}(f:KeyD S){w:AA}{v:List AX}(h:All S 0 w)(hv:∀e∈v,e.Kind=8->(bB aJq,e.Value)∈S):∀k,k<=v.length->k<=58->iB (runN w v k)=iB w+(Z5 2 w v k+Z5 5 w v k)/\Z5 3 w v k=0
 |0,_,_=>⟨rfl,rfl⟩
 |k+1,h1,h2=>by
  obtain⟨a,b⟩:=bGo f h hv k (by omega) (by omega);obtain⟨c,d⟩:=bR6 (bC5 f h hv k (by omega) (by omega)) ((v.getD k default).Kind,(v.getD k default).Device,(v.getD k default).Other,(v.getD k default).Value,(v.getD k default).Flag);change iB (runN w v (k+1))=_+bif aOp w v k&&((v.getD k default).Kind==2||(v.getD k default).Kind==5) then 1 else 0 at c;change (aOp w v k&&(v.getD k default).Kind==3)=false at d;rw[c,a];simp only[Z5,d,b];refine⟨?_,rfl⟩;generalize aOp w v k=o;generalize(v.getD k default).Kind=q;cases o with
  |false=>simp only[fp,aa];omega
  |true=>
   by_cases i:q=2
   ·subst i;simp only[cq,show((2:Int)==2)=true from rfl,show((2:Int)==5)=false from rfl,jf,ae,aa];omega
   ·by_cases j:q=5
    ·subst j;simp only[cq,show((5:Int)==2)=false from rfl,show((5:Int)==5)=true from rfl,jg,ae,aa];omega
    ·simp only[cq,bn.2 i,bn.2 j,jh,aa];omega
def bVf {m:Nat}{w:AA}(h:WIn m w):cntF w 0+cntF w 1=iB w:=by
 have h2:=h.two;unfold cntF gP iB
 match hq:w.Sites,h2 with
 |[a,b],_=>simp
structure Hst (w:AA) (v:List AX) (x:AA):Prop where
 ok:Jv w v
 run:bFi w v=x
 all:All (aOq++bOk) 19 x
 sz:x.sz<=300000
 log:bCp w v 2+bCp w v 5=cntF x 0+cntF x 1
 no:bCp w v 3=0
 few:cntF x 0+cntF x 1<=300000
def bY1 {l:List Int}(hlen:l.length<=1048576):∃x,Hst (Px l).1 (Px l).2 x:=by
 obtain⟨⟨n,k,t,p,s,e,ok,s1,s2⟩,el,ev⟩:=bVd hlen;have hi:=aNz ok;have a:All (aOq++bOk) 0 (bL n k t p s):=bUx ok;have d:(bL n k t p s).sz<=100000:=bFf ..;have f:=bYy n k t p s;have b:=bUz ok;rw[<-e] at hi d f a b;generalize(Px l).1=w at*;generalize(Px l).2=v at*;obtain⟨h,i,r⟩:=hi;have j:WIn w.Devices.length w:=by rw[i];exact h
 have R:=bGm (l:=v) j (by omega);have c:∀e∈v,e.Kind=8->(bB aJq,e.Value)∈aOq++bOk:=λe he=>bYz (ev e he);have hX:All (aOq++bOk) (min v.length 60) (bFi w v):=bC5 bLo a c _ (by omega) (by omega);have hX:=hX.mono (show min v.length 60<=19 by omega);obtain⟨_,_,m,_⟩:=R (min v.length 60);change (bFi w v).sz<=_ at m;obtain⟨o,u⟩:=bGo bLo a c (min v.length 60) (by omega) (by omega);change iB (bFi w v)=_ at o;have y:=bVf hX.wi;have z:=aRg (q:=2) (w:=w) (l:=v) (min v.length 60);have A:=aRg (q:=5) (w:=w) (l:=v) (min v.length 60);refine⟨bFi w v,⟨by omega,λq hq=>by have:=(R q).2.2.1;omega⟩,rfl,hX,by omega,?_,?_,?_⟩
 ·show((Z5 2 w v (min v.length 60):Nat):Int)+(Z5 5 w v (min v.length 60):Nat)=_;omega
 ·show((Z5 3 w v (min v.length 60):Nat):Int)=0;omega
 ·omega
def aLg (l:List Int)(h:bCo l):Ma l=some true:=by
 unfold Ma;cases hb:bQ2 l with
 |true=>rfl
 |false=>
  have hlen:l.length<=1048576:=by unfold bQ2 at hb;rw[cr] at hb;omega
  rw[aa,aB hlen,bd_s];obtain⟨x,H⟩:=bY1 hlen;generalize(Px l).1=w at*;generalize(Px l).2=v at*;have c:x.sz<=34359738368:=by have:=H.sz;omega
  have j:=bIt c;have f:x.aAD.Boxes.sz<=34359738368:=by simp only[AA.sz] at c;simp only[AM.sz];omega
  have k:x.Hosts.length<=34359738368:=by simp only[AA.sz] at c;omega
  have hs:x.Sites.length<=34359738368:=by simp only[AA.sz] at c;omega
  have hd:x.Devices.length<=34359738368:=by simp only[AA.sz] at c;omega
  have e:=H.all.aDR;have hg:gX x=true:=by unfold X8 at e;rw[ac,ac] at e;exact e.1.2
  rw[aB H.ok,bd_s,H.run];refine eZ (aB c) ?_;rw[e];refine eZ (a:=false) ?_ ?_
  ·rw[av,aa];refine eZ (aB k) ?_;rw[hg,av,aa];refine eZ (aB H.ok) ?_;rw[H.no];rfl
  ·rw[aa];refine bBc (b:=PUnit.unit) (bYv x.Devices.length (by omega) (λrec i hi=> ?_) (λrec=>by simp only[iD,aa])) ?_
   ·have d:=bCu hi;simp only[dM hi,ae,aB c,bd_s,H.all.aCE d,av,aa,aB (show X5 x/\x.aAD.Boxes.sz<=34359738368 from⟨j,f⟩),H.all.aBT d,aB j];cases hc:Bf x (i:Int) with
    |false=>rfl
    |true=>simp only[ae,(H.all.final d hc).1,bd_s,aa]
   ·refine eZ (aB H.ok) (eZ (aB H.ok) (eZ (aB hs) (eZ (aB hs) ?_)));rw[H.log,eJ]
end
end Go.VK
