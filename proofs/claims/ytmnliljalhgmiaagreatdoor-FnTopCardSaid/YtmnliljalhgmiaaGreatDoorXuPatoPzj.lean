import Derived.Test.YtmnliljalhgmiaaGreatDoorXuM
import Derived.Test.YtmnliljalhgmiaaGreatDoorLKatoo
/- Printed by wip/tools: models, walks, proofs. -/
set_option linter.all false
set_option maxRecDepth 100000
set_option maxHeartbeats 4000000
namespace Go.VK
open Go.RowKit Go.Proofs D
noncomputable section
open EV (bU)
def bHv (a b c:Int):aO4 a b c=some (bR a b c):=by unfold aO4 bR;show bd (bif decide (b<=a) then some (decide (a<=c)) else some false) _=_;cases decide (b<=a)<;>rfl
def aU8 (a b c:Int):Wy a b c=some (bR a b c):=by unfold Wy bR;cases decide (b<=a)<;>rfl
def bKh (p q:Int):aU1 p q=some (fE p q):=by
 grind[bQz,bR,aB,bZk,aU1]
def bKi (p q:Int):aU6 p q=some (fE p q):=by
 unfold aU6;simp only[bd_bb];by_cases h:1<=q/\q<=1000000000000
 ·rw[aB (by omega)];by_cases ht:p.tmod q<0
  ·simp[h,ht,show ¬q<1 by omega,show ¬q>1000000000000 by omega,bZi h ht];rw[IntKind.wrap_i64];have:=pG (p:=p) (q:=q) h.1;omega
  grind[bZj]
 grind[bQz]
theorem bCf:((2147483647:Int)≠0)=True:=by simp
def bHw (l:List Int)(h:l.length<=1099511627776):aO5 l=some (zB l):=by
 unfold aO5;rw[gH (l:=l) hstep (λ_ _=>True) (λs=>some s) (by omega) trivial (by simp) (λrec i s hi _=>by
  simp only[dF hi,ae,aN hi,bd_s,bCf,gd_T];rfl) (by simp)]
 rfl
def bHx (l:List Int)(h:l.length<=1099511627776):aO6 l=some (zB l):=by
 unfold aO6;rw[gH (l:=l) hstep (λ_ _=>True) (λs=>some s) (by omega) trivial (by simp) (λrec i s hi _=>by
  simp only[dF hi,ae,aN hi,bd_s,bCf,gd_T];rfl) (by simp)]
 rfl
def aK5 (k:Int)(l:List Int)(h:l.length<=34359738368):Kq k l=some (bK k l):=by unfold Kq;rw[aB (by grind[aW]),aB (by grind[aW]),aB (by simp;omega)];simp[bK]
theorem Y2 {α:Type}{r:List (List α)}{i:Nat}(hi:i<r.length):(r.take (i+1)).flatten=(r.take i).flatten++r[i]:=by
 grind[Option.toList_some,List.flatten_cons,List.flatten_nil,List.take_add_one,List.getElem?_eq_getElem,List.flatten_append]
def aYt (a:List Int)(r:List (List Int))(h:Fs a r):W9 a r=some (rF a r):=by
 unfold W9;have hs:∀i,(r.take i).flatten.length<=r.flatten.length:=(by grind[List.take_append_drop,List.flatten_append,List.length_append]);rw[aB (by grind[aW]),gH (l:=r) (λs x=>s++x) (λi s=>s=a++(r.take i).flatten) (λs=>some s) (by omega) (by simp)
  (by grind[Y2,List.append_assoc])
  (λrec i s hi hv=>by
   have e:=Y2 hi;have h1:=hs (i+1);rw[e,ay] at h1;simp only[dF hi,ae,aN hi,bd_s];rw[aB (by grind[List.length_append,aW])]) (by simp)]
 have:r.foldl (λs x=>s++x) ([]++a)=a++r.flatten:=by rw[bz,o8 (f:=λx:List Int=>x)];simp
 rw[this];rfl
def aK6 (k:Int)(l:List Int)(h:l.length<=34359738368):Ls k l=some (bK k l):=by
 grind[bK,rF,aB,bd_s,Ls]
def bKj (a b:Int):aU2 a b=some (bDp a b):=by simp[aU2,bDp]
def bD9 (n:Int):aFq n=some (kD n):=by simp[aFq,kD]
def aK7 (k:Int)(l:List Int)(h:l.length<=34359738300):Kr k l=some (aU k l):=by unfold Kr;rw[aB (by grind[aW]),aB (by simp;omega),bd_s,bGa (nI _ _).1];rfl
def aK8 (k:Int)(l:List Int)(h:l.length<=34359738300):Lv k l=some (aU k l):=by
 grind[aU,rF,aB,bd_s,Lv]
def aFv (n:Int):aFm n=some (bL n):=rfl
def aFw (n:Int):aFp n=some (bL n):=rfl
def aK9 (n:Int):Kt n=some (dW n):=by unfold Kt dW;cases bL n<;>rfl
def aLa (n:Int):Lx n=some (dW n):=by unfold Lx dW;cases bL n<;>rfl
def aLb (s:AK):aKz s=some (jH s):=by rfl
def H6 (s:AK):G5 s=some (aS s):=rfl
def H7 (s:AK):G9 s=some (aS s):=by rfl
def aYu (l:List Int)(x:Int)(h:l.length<=1099511627776):U9 l x=some (iQ l x):=by unfold U9;rw[jR (l:=l) (λe=>e==x) (.inl true) (.inr ()) (by omega) (by grind[dF,aN,bd_s]) (by simp)];unfold iQ;cases l.any _<;>rfl
def bKk (l:List Int)(x:Int)(h:l.length<=1099511627776):aU5 l x=some (iQ l x):=by unfold aU5;rw[jR (l:=l) (λe=>e==x) (.inl true) (.inr ()) (by omega) (by grind[dF,aN,bd_s]) (by simp)];unfold iQ;cases l.any _<;>rfl
def bEa (s:List Int)(x:Int):iQ s x=s.contains x:=by
 grind[Bool.beq_comm,List.contains_eq_any_beq,iQ]
def bCg {s:List Int}{e:AF}(h:(e.Kind==1)=true):kK s e=bif !iQ s e.Device then s++[e.Device] else s:=by unfold kK;rw[h,bEa];cases s.contains e.Device<;>rfl
def bCh {s:List Int}{e:AF}(h:(e.Kind==1)=false):kK s e=bif e.Kind==2 then s.filter (λd=>d !=e.Device) else s:=by
 grind[kK]
def aLc (l:List AF)(h:l.length<=34359738368):Ku l=some (aC l):=by
 unfold Ku;rw[gH (l:=l) kK (λi s=>s.length<=i) (λs=>some s) (by omega) (by simp) (by grind[aOm])
  (λrec i s hi hv=>by
   simp only[dF hi,ae,aN hi,bd_s];rw[aB (by omega)];have e:∀x:Int,bU (α:=List Int) FUEL (λa (i8:(List Int×Nat))=>bif (decide ((↑i8.2:Int)<(↑s.length:Int))) then(bd (bd (bC s (↑i8.2:Int)) λ(c:(Int))=>bif (c !=x) then(bd (bC s (↑i8.2:Int)) λ(b:(Int))=>gd (aW i8.1 [b]) (some (i8.1++[b]))) else(some (i8.1))) λ(f:(List Int))=>a ((f,(i8.2+1)))) else(some (i8.1))) ([],0)=some (s.filter λd=>d !=x):=λx=>by
    rw[gH (l:=s) (λq y=>bif y !=x then q++[y] else q) (λi q=>q.length<=i) (λq=>some q) (by omega) (by simp) (λi q hi hv=>by cases(s[i] !=x)<;>simp<;>omega)
     (by grind[dF,aN,bd_s,aB,aW]) (by simp),Og]
    simp
   rw[e];cases h1:(l[i].Kind==1) with
   |true=>
    have h2:(l[i].Kind==2)=false:=by simp_all
    rw[bCg h1,h2];rw[aB (by grind[aW])];cases iQ s l[i].Device<;>rfl
   |false=>
    rw[bCh h1,aB (by grind[aW])];cases(l[i].Kind==2)<;>rfl) (by simp)]
 rfl
def aLd (l:List AF)(h:l.length<=34359738368):Lr l=some (aC l):=by
 unfold Lr;rw[gH (l:=l) kK (λi s=>s.length<=i) (λs=>some s) (by omega) (by simp) (by grind[aOm])
  (λrec i s hi hv=>by
   simp only[dF hi,ae,aN hi,bd_s];rw[aB (by omega)];have e:∀x:Int,bU (α:=List Int) FUEL (λb (a:(List Int×Nat))=>bif (decide ((↑a.2:Int)<(↑s.length:Int))) then(bd (bd (bC s (↑a.2:Int)) λ(c:(Int))=>bif (c !=x) then(gd (aW a.1 [c]) (some (a.1++[c]))) else(some (a.1))) λ(f:(List Int))=>b ((f,(a.2+1)))) else(some (a.1))) ([],0)=some (s.filter λd=>d !=x):=λx=>by
    rw[gH (l:=s) (λq y=>bif y !=x then q++[y] else q) (λi q=>q.length<=i) (λq=>some q) (by omega) (by simp) (λi q hi hv=>by cases(s[i] !=x)<;>simp<;>omega)
     (by grind[dF,aN,bd_s,aB,aW]) (by simp),Og]
    simp
   rw[e];cases h1:(l[i].Kind==1) with
   |true=>rw[bCg h1,aB (by grind[aW])];cases iQ s l[i].Device<;>rfl
   |false=>
    rw[bCh h1];cases(l[i].Kind==2)<;>rfl) (by simp)]
 rfl
def aLe (w:AA)(d:Int):Lu w d=some (aL w d):=by unfold Lu aL;show bd (bif decide (0<=d) then _ else _) _=_;cases decide (0<=d)<;>rfl
def aYv (w:AA)(d:Int)(h:F4 w):X8 w d=some (bF w d):=by
 unfold X8 bF;have hl:=iB w.aAE.Log;have a:=h.2.2.1;cases hd:aL w d with
 |false=>rfl
 |true=>simp only[ae,qI hd,bd_s,aB a,aB (show(aC w.aAE.Log).length<=1099511627776 by omega),cw]
def aU9 (w:AA)(d:Int):Xa w d=some (fA w d):=by unfold Xa fA;show bd (bif decide (0<=d) then _ else _) _=_;cases decide (0<=d)<;>rfl
def bEb {p:Nat->Bool}{i:Nat}:((List.range (i+1)).filter p).map Int.ofNat=bif p i then((List.range i).filter p).map Int.ofNat++[(i:Int)] else((List.range i).filter p).map Int.ofNat:=by rw[dy,List.filter_append];cases h:p i<;>simp[h]
theorem D9 {p:Nat->Bool}{i:Nat}:(((List.range i).filter p).map Int.ofNat).length<=i:=by
 grind
def Mr (w:AA)(h:F4 w):tX w=some (bB w):=by
 have h1:=h.1;unfold tX;rw[Ut (s:=([],0)) (λi s=>i<=w.Devices.length/\s=(((List.range i).filter (Uu w)).map Int.ofNat,i)) w.Devices.length (some (bB w)) (by omega) ⟨by omega,rfl⟩ (λi s rec hi hv=>by
  obtain⟨_,rfl⟩:=hv;have hl:=D9 (p:=Uu w) (i:=i);refine .inl ⟨_,⟨by omega,rfl⟩,?_⟩;simp only[dF hi,ae,bd_s,aB h];rw[aB (by grind[List.length_singleton,aW]),bEb]
  grind[bF,dF,decide_eq_true,List.getD,List.getElem?_eq_getElem,aN,bd_s,decide,decide_eq_false,Uu]) (λs rec hv=>by
  obtain⟨_,rfl⟩:=hv;simp only[aTn,ac];rfl)]
 rfl
def bCi {α β:Type}{f:α->List β}{g:α->Nat}(h:∀x,(f x).length<=g x):∀{l:List α},((l.map f).flatten).length<=(l.map g).sum
 |[]=>by simp
 |x::l=>by
  have:=bCi h (l:=l)
  grind
def bHy (s:AC):(q9 s).length<=s.sz:=by
 have:=bCi (f:=mI) (g:=AI.sz) (by simp[mI,AI.sz]) (l:=s.Accounts)
 grind[AC.sz,q9]
def bP2 {α β:Type}{f:α->List β}{l:List α}{i:Nat}:((l.take i).map f).flatten.length<=(l.map f).flatten.length:=by
 grind[List.take_append_drop,List.flatten_append,List.length_append]
def bP3 {l:List AI}{F:(List Int×Nat->Option (List Int))->List Int×Nat->Option (List Int)}(hl:l.length<=34359738368)(hs:(l.map mI).flatten.length<=34359738368)
  (b:∀rec i s (hi:i<l.length),s.length+(mI l[i]).length<=68719476736->F rec (s,i)=rec (s++mI l[i],i+1)) (c:∀rec s,F rec (s,l.length)=some s):bU FUEL F ([],0)=some (l.map mI).flatten:=by
 rw[gH (l:=l) (s0:=[]) (λs a=>s++mI a) (λi s=>s=((l.take i).map mI).flatten) (λs=>some s) (by omega) rfl
  (by grind[List.take_add_one,List.getElem?_eq_getElem,List.flatten_append,Option.toList_some,List.flatten_cons,List.flatten_nil])
  (λrec i s hi hv=>b rec i s hi (by
   have h1:=bP2 (f:=mI) (l:=l) (i:=i+1)
   grind[Option.toList_some,List.flatten_cons,List.flatten_nil,List.take_add_one,List.getElem?_eq_getElem,List.flatten_append,List.length_append])) (by simp[*]),o8,bz]
def bP4 {a:AI}{s0:List Int}{F:(List Int×Nat->Option (List Int))->List Int×Nat->Option (List Int)}(hs:s0.length+(mI a).length<=68719476736)
  (b:∀rec i (s:List Int) (hi:i<a.Credentials.length),s.length<68719476736->F rec (s,i)=rec (s++[a.Credentials[i].Public],i+1)) (d:∀rec s,F rec (s,a.Credentials.length)=some s):bU FUEL F (s0,0)=some (s0++mI a):=by
 have hk:(mI a).length=a.Credentials.length:=by simp[mI]
 rw[gH (l:=a.Credentials) (λs c=>s++[c.Public]) (λi s=>s.length=s0.length+i) (λs=>some s) (by omega) (by simp) (by simp at*;omega)
  (by grind) (by simp[*]),o9]
 rfl
def bW6 {w:AA}{i:Nat}(hi:i<w.Sites.length):w.Sites[i].sz<=w.sz:=by
 grind[AA.sz,lQ,AC.sz]
def cA1 {s:AC}:s.Accounts.length<=s.sz:=by grind[AC.sz]
def aYw (w:AA)(i:Int)(h:w.sz<=34359738368):Y1 w i=some (sS w i):=by
 unfold Y1 sS;cases hd:fA w i with
 |false=>rfl
 |true=>
  simp only[fA,ab,cm] at hd;have hi:i.toNat<w.Sites.length:=by omega
  have d:=bW6 hi;have hk:=bHy w.Sites[i.toNat];have e:=cA1 (s:=w.Sites[i.toNat]);have b:bC w.Sites i=some w.Sites[i.toNat]:=kJ hd.1 hi;rw[ae,ae,b,bd_s,List.getD,aa hi,cr];rw[bP3 (l:=w.Sites[i.toNat].Accounts) (by omega) (by grind[q9]) (λrec j s c hs=>by
   simp only[bd_s,dF c,ae,aN c];rw[bP4 (a:=w.Sites[i.toNat].Accounts[j]) hs (by grind[bd_s,dF,aN,aB,aW,List.length_singleton]) (by simp)];rfl) (by simp)]
  rfl
def aLf (w:AA)(h:w.sz<=34359738368):Mq w=some (sS w 0,sS w 1):=by simp_all[aB,Mq]
def bP5 (w:AA):(bB w).length<=w.sz:=by
 have h1:(bB w).length<=w.Devices.length:=by unfold bB;exact D9
 simp only[AA.sz];omega
def aVa (a:AG)(s h:Int):Wn a s h=some (nD a s h):=by unfold Wn nD;cases decide (a.Site<s)<;>cases(a.Site==s)<;>rfl
def aAz (a b:AG):Du a b=some (dX a b):=by unfold Du dX;cases decide (a.Site<b.Site)<;>cases(a.Site==b.Site)<;>rfl
def bHz {l:List AG}{i:Nat}(hi:i<l.length)(hl:l.length<=34359738368){q:AG->Bool}(hq:∀x,q x=dX x l[i]):
  (bif (!bR l[i].Site (0:Int) (2147483646:Int)) then(some (true)) else(bif (!bR l[i].Handle (0:Int) (1000000:Int)) then(some (true)) else(bif (!bR l[i].Version (1:Int) (1000000:Int)) then(some (true)) else(bif (decide ((i:Int)>(0:Int))) then(bd (bC l (IntKind.i64.wrap ((i:Int)-(1:Int)))) λ(a:(AG))=>some (!q a)) else(some (false))))))=some (Vb l i l[i]):=by
 unfold Vb;cases bR l[i].Site 0 2147483646 with
 |false=>rfl
 |true=>
  cases bR l[i].Handle 0 1000000 with
  |false=>rfl
  |true=>
   cases bR l[i].Version 1 1000000 with
   |false=>rfl
   |true=>
    by_cases h0:(i:Int)>0
    ·rw[ax h0,aK (by omega) (by omega)];have b:bC l ((i:Int)-1)=some l[i-1]:=by
      grind[aN]
     grind[bd_s,Bool.not_true,default,List.getD,List.getElem?_eq_getElem]
    simp_all
def aPz (b:AB)(h:b.sz<=34359738368):Qr b=some (aO b):=by
 simp only[AB.sz] at h;unfold Qr aO;rw[kI (l:=b.Entries) (Vb b.Entries) (.inl false) (.inr ()) (by omega) (λrec i hi=>by
  simp only[dF hi,ae,aN hi,bd_s];rw[bHz hi h (q:=λx=>nD x b.Entries[i].Site b.Entries[i].Handle) (λx=>rfl)];rfl) (by simp)]
 grind[gJ,Vb,nx]
def aP0 (b:AB)(h:b.sz<=34359738368):Ri b=some (aO b):=by
 simp only[AB.sz] at h;unfold Ri aO;by_cases a:(b.Entries.length:Int)>20
 ·grind
 ·rw[au a,show decide ((b.Entries.length:Int)<=20)=true from ax (by omega),ac];rw[kI (l:=b.Entries) (Vb b.Entries) (.inl false) (.inr ()) (by omega) (λrec i hi=>by
   simp only[dF hi,ae,aN hi,bd_s];rw[bHz hi h (q:=λx=>dX x b.Entries[i]) (λx=>rfl)];rfl) (by simp)]
  cases gJ (Vb b.Entries) 0 b.Entries<;>rfl
def aLg (b:AB)(s h:Int)(a:b.sz<=34359738368):La b s h=some (aM b s h):=by simp only[AB.sz] at a;unfold La aM;exact Kc (l:=b.Entries) (λ(e:AG)=>e.Site==s&&e.Handle==h) (by omega) (by grind[dF,aN,bd_s]) (by simp)
def aVb (b:AB)(h:b.sz<=34359738368):Wl b=some (b):=by simp only[AB.sz] at h;unfold Wl;rw[aB (by grind[List.length_nil,aW])];rfl
def aFx (b:AB)(h:b.sz<=34359738368):Gs b=some (b):=by simp only[AB.sz] at h;unfold Gs;rw[aB (by grind[List.length_nil,aW])];rfl
theorem bEc (p:AG->Bool):∀(l:List AG) (i:Nat),i<=(l.takeWhile p).length->(∃hi:i<l.length,p l[i]=true/\i<(l.takeWhile p).length)\/(i=(l.takeWhile p).length/\∀hi:i<l.length,p l[i]=false)
 |[],i,h=> .inr ⟨by simpa using h,λhi=>by simp at hi⟩
 |x::l,i,h=>by
  rw[dl] at h ⊢;cases hp:p x with
  |false=>rw[hp] at h;simp at h;subst h;exact .inr ⟨by simp,λ_=>hp⟩
  |true=>
   rw[hp] at h;simp only[ie,ao] at h ⊢;cases i with
   |zero=>exact .inl ⟨by simp,hp,by omega⟩
   |succ i=>
    rcases bEc p l i (by omega) with⟨h1,h2,a⟩|⟨h1,h2⟩
    ·exact .inl ⟨by simpa using h1,h2,by omega⟩
    ·exact .inr ⟨by omega,λhi=>h2 (by simpa using hi)⟩
def bM9 (p:AG->Bool):∀l:List AG,l.take (l.takeWhile p).length=l.takeWhile p
 |[]=>rfl
 |x::l=>by
  rw[dl];cases p x with
  |false=>rfl
  |true=>simp only[ie,ao,ig];rw[bM9 p l]
def bNa (p:AG->Bool):∀l:List AG,l.drop (l.takeWhile p).length=l.dropWhile p
 |[]=>rfl
 |x::l=>by
  rw[dl,List.dropWhile_cons];cases p x with
  |false=>rfl
  |true=>simp only[ie,ao,gl];rw[bNa p l]
def aYx (b:AB)(x:AG)(h:b.sz<=34359738360):V5 b x=some (qJ b x):=by
 have d:=h;simp only[AB.sz] at h;unfold V5 qJ;rw[aB (by omega),bd_s,aB (by omega),bd_s];by_cases c:aM b x.Site x.Handle>=0
 ·rw[ax c,ae,ae];have:=aEc (by assumption);simp_all[kJ,aM]
 ·rw[au c,ac,ac];have a:(b.Entries.takeWhile λe=>nD e x.Site x.Handle).length<=b.Entries.length:=(List.takeWhile_sublist _).length_le;rw[Ut (λi s=>i<=(b.Entries.takeWhile λe=>nD e x.Site x.Handle).length/\s=(i:Int)) b.Entries.length (some ((b.Entries.takeWhile λe=>nD e x.Site x.Handle).length:Int)) (s:=(0:Int)) (by omega) ⟨by omega,rfl⟩ (by grind[bEc,dF,aN,bd_s,aK]) (by grind[nD,bd_s]),bd_s];rw[aB ⟨by omega,by simpa using a⟩,aB ⟨by omega,by simpa using a⟩,aB (by grind[aW]),aB (by grind[aW]),aB (by grind[aW])];rw[bn,bz];rw[bM9,bNa]
theorem bP6 {l:List AG}{k:Int}(h0:0<=k)(h1:k.toNat<l.length)(x:AG):(bd (bC l k) λ(b:AG)=>bif (decide (x.Version>b.Version)) then(some (true)) else(bd (bC l k) λ(a:AG)=>bif (x.Version==a.Version) then(some (x.Deleted)) else(some (false))))=some (qW x (l.getD k.toNat default)):=by rw[kJ h0 h1,List.getD,aa h1,cr];simp only[bd_s];unfold qW;cases decide (x.Version>l[k.toNat].Version)<;>cases(x.Version==l[k.toNat].Version)<;>rfl
def H8 (a b:AB)(h:a.sz<=34359738368/\b.sz<=34359738368):zN a b=some (dY a b):=by
 unfold zN dY;rw[aB h.1,bd_s];cases f:aO a with
 |false=>simp[*]
 |true=>
  rw[aB h.2];cases hb:aO b with
  |false=>simp[*]
  |true=>
   obtain⟨n,j⟩:=aKa f;obtain⟨p,k⟩:=aKa hb;rw[aB h.1];simp only[aq,ac,ae,bd_s,d8];rw[bBn (l:=b.Entries) (s0:=a.Entries) (λo x=>bG o [x]) (λi o=>r9 o/\o.length<=20+i) (λo=>some o) (by omega) ⟨j,by omega⟩ (λi o hi hv=>by
     have:=Bf _ o [b.Entries[i]] (aj _)
     grind[bMa,List.length_singleton]) (λrec i o hi hv=>by
     obtain⟨hs,hl⟩:=hv;simp only[dF hi,ae,aN hi,bd_s];rw[aB (by grind[AB.sz]),bd_s,<-bGf hs];have hk:(bif decide (aM ⟨o⟩ b.Entries[i].Site b.Entries[i].Handle<0) then some true else bd (bC o (aM ⟨o⟩ b.Entries[i].Site b.Entries[i].Handle)) λ(m:AG)=>bif (decide (b.Entries[i].Version>m.Version)) then(some (true)) else(bd (bC o (aM ⟨o⟩ b.Entries[i].Site b.Entries[i].Handle)) λ(c:AG)=>bif (b.Entries[i].Version==c.Version) then(some (b.Entries[i].Deleted)) else(some (false))))=some (decide (aM ⟨o⟩ b.Entries[i].Site b.Entries[i].Handle<0)||qW b.Entries[i] (o.getD (aM ⟨o⟩ b.Entries[i].Site b.Entries[i].Handle).toNat default)):=by
      by_cases d:aM ⟨o⟩ b.Entries[i].Site b.Entries[i].Handle<0
      ·simp[*]
      ·rw[au d,ac];have:=aEc (show 0<=lL (λ(e:AG)=>e.Site==b.Entries[i].Site&&e.Handle==b.Entries[i].Handle) 0 o from by unfold aM at d;simp only at d;omega)
       grind[bP6,aM]
     grind[decide,aM,qW,default,aB,AB.sz,bd_s]) (by simp)]
   rw[aTu _ _ k,bd_s];have hm:=Bf _ a.Entries b.Entries (aj _);rw[aB (by grind[AB.sz]),bd_s];cases aO ⟨bG a.Entries b.Entries⟩<;>rfl
def drop_at {l:List AG}{i:Nat}(h:i<l.length):l.drop i=l[i]::l.drop (i+1):=cy h
def bKl (e f:AG){X:Int×Int×Int×Bool->Option (List AG)}:(bd (bd (bif (decide (f.Version>e.Version)) then(some (true)) else(bif (f.Version==e.Version) then(some (f.Deleted)) else(some (false)))) λ(a:Bool)=>bif a then(some (f.Site,f.Handle,f.Version,f.Deleted)) else(some (e.Site,e.Handle,e.Version,e.Deleted))) X)=X ((qR e f).Site,(qR e f).Handle,(qR e f).Version,(qR e f).Deleted):=by unfold qR qW;cases decide (f.Version>e.Version)<;>cases(f.Version==e.Version)<;>cases hd:f.Deleted<;>simp[bd,hd]
def H9 (a b:AB)(h:a.sz<=34359738368/\b.sz<=34359738368):zT a b=some (dY a b):=by
 unfold zT dY;rw[aB h.1,bd_s];cases j:aO a with
 |false=>simp[*]
 |true=>
  rw[aB h.2];cases hb:aO b with
  |false=>simp[*]
  |true=>
   obtain⟨p,q⟩:=aKa j;obtain⟨r,t⟩:=aKa hb;simp only[aq,ac,ae,bd_s,d8];have hm:=Bf _ a.Entries b.Entries (aj _);rw[Ut (λn s=>∃(i k:Nat) (o:List AG),s=((i:Int),(k:Int),o)/\i<=a.Entries.length/\k<=b.Entries.length/\n<=i+k/\o++bG (a.Entries.drop i) (b.Entries.drop k)=bG a.Entries b.Entries) (a.Entries.length+b.Entries.length) (some (bG a.Entries b.Entries)) (s:=((0:Int),(0:Int),([]:List AG))) (by omega) ⟨0,0,[],rfl,by omega,by omega,by omega,rfl⟩ (λn s rec hn hv=>by
     obtain⟨i,k,o,rfl,hi,hk,l,ho⟩:=hv;have m:o.length<=40:=by grind
     have f:∀x:AG,aW o [x]:=(by grind[aW,List.length_singleton]);have wi:IntKind.i64.wrap ((i:Int)+1)=((i+1:Nat):Int):=by grind[aK]
     have wk:IntKind.i64.wrap ((k:Int)+1)=((k+1:Nat):Int):=by grind[aK]
     rcases e8 i a.Entries.length with d|d
     ·have ne1:((i:Int)==(a.Entries.length:Int))=false:=by simp;omega
      rw[drop_at d] at ho;rcases e8 k b.Entries.length with c|c
      ·have ne2:((k:Int)==(b.Entries.length:Int))=false:=by simp;omega
       rw[drop_at c,wJ] at ho;simp only[dF d,dF c,ae,bd_s,ne2,ac,aN d,aN c,ne1,aB (f _),wi,wk,bKl];cases h1:dX a.Entries[i] b.Entries[k] with
       |true=>rw[h1,ae,<-drop_at c] at ho;exact .inl ⟨_,⟨i+1,k,o++[a.Entries[i]],rfl,by omega,hk,by omega,by rw[<-ho];simp⟩,rfl⟩
       |false=>
        cases h2:dX b.Entries[k] a.Entries[i] with
        |true=>rw[h1,ac,h2,ae,<-drop_at d] at ho;exact .inl ⟨_,⟨i,k+1,o++[b.Entries[k]],rfl,hi,by omega,by omega,by rw[<-ho];simp⟩,rfl⟩
        |false=>rw[h1,ac,h2,ac] at ho;exact .inl ⟨_,⟨i+1,k+1,o++[qR a.Entries[i] b.Entries[k]],rfl,by omega,by omega,by omega,by rw[<-ho];simp⟩,rfl⟩
      ·have e:k=b.Entries.length:=by omega
       subst e;rw[dk,fO] at ho;simp only[dF d,ae,bd_s,eV,aN d,aB (f _),wi];exact .inl ⟨_,⟨i+1,_,o++[a.Entries[i]],rfl,by omega,aj _,by omega,by rw[dk,fO,<-ho];simp⟩,rfl⟩
     ·have e:i=a.Entries.length:=by omega
      subst e;rw[dk,kE] at ho;rcases e8 k b.Entries.length with c|c
      ·have ne2:((k:Int)==(b.Entries.length:Int))=false:=by simp;omega
       simp only[aTn,ac,dF c,bd_s,ae,ne2,eV,aN c,aB (f _),wk];exact .inl ⟨_,⟨_,k+1,o++[b.Entries[k]],rfl,aj _,by omega,by omega,by rw[dk,kE,<-ho,drop_at c];simp⟩,rfl⟩
      grind[List.drop_length,bd_s]) (by grind[List.drop_length,fO,bd_s])]
   rw[bd_s,aB (by grind[AB.sz]),bd_s,aB h.1];cases aO ⟨bG a.Entries b.Entries⟩<;>rfl
def aLh {w:AA}(h:w.sz<=34359738368):F4 w:=by
 grind[F4,AA.sz]
def bUb {w:AA}{i:Nat}(hi:i<(bB w).length):∃d:Nat,(bB w)[i]=(d:Int)/\d<w.Devices.length:=by
 grind[bB,List.getElem_mem]
theorem cA2 {w:AA}{d:Nat}(hd:d<w.Devices.length):w.Devices[d].aAC.sz<=w.sz:=by
 grind[AA.sz,AD.sz,AB.sz,lQ]
def bKm {w:AA}(h:w.sz<=34359738368){F:(Nat×List AG->Option ((AB×Bool)⊕List AG))->Nat×List AG->Option ((AB×Bool)⊕List AG)}
  (c:∀rec i o (hi:i<(bB w).length),o.length<=20->(aH w (bB w)[i]).aAC.sz<=34359738368->bC w.Devices (bB w)[i]=some (aH w (bB w)[i])->F rec (i,o)=bif (dY ⟨o⟩ (aH w (bB w)[i]).aAC).2 then rec (i+1,(dY ⟨o⟩ (aH w (bB w)[i]).aAC).1.Entries) else some (.inl (⟨[]⟩,false)))
  (a:∀rec o,F rec ((bB w).length,o)=some (.inr o)):nx (bU FUEL F (0,[])) (λo=>some (⟨o⟩,true))=some (Ji w):=by
 have hlen:(bB w).length<=w.Devices.length:=by grind[D9,bB]
 have hd:w.Devices.length<=34359738368:=by grind[AA.sz]
 rw[Ut (λi s=>∃o,s=(i,o)/\o.length<=20/\uS w ((bB w).drop i) o=uS w (bB w) []) (bB w).length (some (uS w (bB w) [])) (s:=(0,[])) (by omega) (by grind) (λi s rec hi hv=>by
  obtain⟨o,rfl,h1,h2⟩:=hv;obtain⟨d,e,b⟩:=bUb hi
  grind[dY,aH,bB,aKa,bSp,uS,List.drop_eq_getElem_cons,aN,cA2,Int.toNat_natCast,List.getD,List.getElem?_eq_getElem]) (λs rec hv=>by
  obtain⟨o,rfl,h1,h2⟩:=hv;rw[dk] at h2;rw[a,<-h2];rfl)]
 unfold Ji;cases uS w (bB w) []<;>rfl
def aA0 (w:AA)(h:w.sz<=34359738368):Eb w=some (Ji w):=by unfold Eb;rw[aB (aLh h),bd_s];exact bKm h (by grind[dF,aN,bd_s,aB,AB.sz,dY,aH,bB]) (by simp)
def aVc (l:List AF)(h:l.length<=34359738368):Vv l=some l:=by
 grind[uE,Vv]
def aVd (l:List AF)(h:l.length<=34359738368):Wx l=some l:=by
 grind[uE,Wx]
def aLi (l:List Int)(h:l.length<=34359738368):Li l=some l:=by
 grind[uE,Li]
def aVe (d:AD)(h:d.sz<=34359738368):Wm d=some d:=by simp only[AD.sz] at h;unfold Wm;simp only[aB (show d.Log.length<=34359738368 by omega),aB (show d.aAC.sz<=34359738368 by simp only[AB.sz];omega),bd_s]
def aFy (d:AD)(h:d.sz<=34359738368):Gt d=some d:=by simp only[AD.sz] at h;unfold Gt;simp only[aB (show d.Log.length<=34359738368 by omega),aB (show d.aAC.sz<=34359738368 by simp only[AB.sz];omega),bd_s]
def aVf (e:AM)(h:e.sz<=34359738368):Vz e=some e:=by
 simp only[AM.sz] at h;unfold Vz;rw[aTv (l:=e.Boxes) (by omega) (λrec i s hi hs=>by
  have a:=lQ (f:=AN.sz) hi;simp only[AN.sz] at a h;simp only[dF hi,ae,aN hi,bd_s,uE (show e.Boxes[i].Data.length<=34359738368 by omega),gK hs,bz]) (by simp)]
 rfl
def aLj (l:List AN)(h:szL AN.sz l<=34359738368):Lj l=some l:=by
 unfold Lj;unfold szL at h;rw[bX3 (l:=l) (by omega) (λrec i s hi hs=>by
  have a:=lQ (f:=AN.sz) hi;simp only[AN.sz] at a h;simp only[dF hi,ae,aN hi,bd_s,aB (show l[i].Data.length<=34359738368 by omega),gK hs]) (by simp)]
 rfl
def Sc (e:AM)(h:e.sz<=34359738368):vM e=some e:=by unfold vM;simp only[aB (show szL AN.sz e.Boxes<=34359738368 from h),bd_s]
def aVg (e:AJ)(h:e.sz<=34359738368):Wp e=some e:=by unfold Wp;rw[uE h];rfl
def aFz (e:AJ)(h:e.sz<=34359738368):Gr e=some e:=by unfold Gr;simp only[aB (show e.Data.length<=34359738368 from h),bd_s]
def aVh (c:AO)(h:c.sz<=34359738368):Wq c=some c:=by simp only[AO.sz] at h;unfold Wq;rw[aTv (l:=c.History) (by omega) (by grind[lQ,AJ.sz,dF,aN,bd_s,aB,gK]) (by simp)];simp only[aB (show c.Log.length<=34359738368 by omega),aB (show c.Boxes.sz<=34359738368 by simp only[AM.sz];omega),bd_s]
def aLk (c:AO)(h:c.sz<=34359738368):Ll c=some c:=by simp only[AO.sz] at h;unfold Ll;rw[aTv (l:=c.History) (by omega) (by grind[lQ,AJ.sz,dF,aN,bd_s,aB,gK]) (by simp)];simp only[aB (show c.Log.length<=34359738368 by omega),aB (show c.Boxes.sz<=34359738368 by simp only[AM.sz];omega),bd_s]
def aVi (e:AI)(h:e.sz<=34359738368):Wh e=some e:=by unfold Wh;rw[uE h];rfl
def aA1 (e:AI)(h:e.sz<=34359738368):Cw e=some e:=by unfold Cw;rw[uE h];rfl
def aVj (e:AQ)(h:e.sz<=34359738368):Wi e=some e:=by unfold Wi;rw[uE h];rfl
def aP1 (e:AQ)(h:e.sz<=34359738368):Qz e=some e:=by unfold Qz;rw[uE h];rfl
def aVk (s:AC)(h:s.sz<=34359738368):Wj s=some s:=by simp only[AC.sz] at h;unfold Wj;rw[aTv (l:=s.Accounts) (by omega) (by grind[lQ,AI.sz,dF,aN,bd_s,aB,gK]) (by simp)];simp only[aB (show s.Book.sz<=34359738368 by simp only[AQ.sz];omega),bd_s,uE (show s.Logins.length<=34359738368 by omega),bz]
def aP2 (s:AC)(h:s.sz<=34359738368):Ra s=some s:=by simp only[AC.sz] at h;unfold Ra;rw[aTv (l:=s.Accounts) (by omega) (by grind[lQ,AI.sz,dF,aN,bd_s,aB,gK]) (by simp)];simp only[aB (show s.Book.sz<=34359738368 by simp only[AQ.sz];omega),bd_s,aB (show Fs s.Logins [] by unfold Fs;simp;omega)];simp[rF]
def aP3 (e:AH)(h:e.sz<=34359738368):Qx e=some e:=by unfold Qx;rw[uE h];rfl
def aLl (l:List AH)(h:szL AH.sz l<=34359738368):Lm l=some l:=by unfold Lm;unfold szL at h;rw[bX3 (l:=l) (by omega) (by grind[lQ,AH.sz,dF,aN,bd_s,aB,gK]) (by simp)];rfl
def aP4 (e:AU)(h:e.sz<=34359738368):Qy e=some e:=by unfold Qy;rw[uE h];rfl
def aLm (w:AA)(h:w.sz<=34359738368):Lp w=some w:=by
 simp only[AA.sz] at h;unfold Lp;rw[aTv (l:=w.Devices) (by omega) (by grind[lQ,AD.sz,dF,aN,bd_s,aB,gK]) (by simp),
  aTv (l:=w.Sites) (by omega) (by grind[lQ,AC.sz,dF,aN,bd_s,aB,gK]) (by simp)]
 simp only[bd_s,uE (show w.Stolen.length<=34359738368 by omega),aB (show w.aAE.sz<=34359738368 by simp only[AO.sz];omega),aB (show szL AH.sz w.Hosts<=34359738368 by unfold szL;omega),aB (show w.Mail.sz<=34359738368 by simp only[AU.sz];omega),bz]
theorem bEd {F:(Int×Int×Int->Option Int)->Int×Int×Int->Option Int}(a:∀rec (b n s:Int),0<=n->n<9223372036854775807->F rec (b,n,s)=bif decide (n>0) then rec ((IntKind.i64.wrap (b*b)).tmod 2147483647,n/2,bif n%2==1 then(IntKind.i64.wrap (s*b)).tmod 2147483647 else s) else some s):
  ∀(k:Nat) (b n s:Int) (f:Nat),k<f->0<=n->n<2^k->k<=62->bU f F (b,n,s)=some (bOw k b n s)
 |0,b,n,s,f+1,c,h0,h1,hk=>by
  have:n=0:=by simp at h1;omega
  subst this;rw[jE,a _ _ _ _ (by omega) (by omega)];rfl
 |k+1,b,n,s,f+1,c,h0,h1,hk=>by
  have h2:(2:Int)^(k+1)=2*2^k:=by rw[fp];omega
  have d:n<2^62:=Int.lt_of_lt_of_le h1 (by exact_mod_cast gS (by omega) hk);rw[jE,a _ _ _ _ h0 (by omega)];unfold bOw;by_cases hn:n>0
  ·rw[ax hn,ae,cU hn];exact bEd a k _ (n/2) _ f (by omega) (by omega) (by omega) (by omega)
  ·rw[au hn,ac,dh hn]
def aVl (b n:Int)(h:0<=n/\n<2147483648):uL b n=some (bOw 31 b n 1):=by
 grind[bEd,qV,and_one,Jc,bL6,bCf,gd_T,bd_s,aB,FUEL,gX,uL]
def aYy (b n:Int)(h:0<=n/\n<2147483648)(hb:0<=b/\b<2147483647):jA b n 2147483647=some (bOw 31 b n 1):=by unfold jA;rw[show b.tmod 2147483647=b by rw[cg hb.1];omega,show(1:Int).tmod 2147483647=1 by decide,bEd (by grind[Int.tmod_eq_emod_of_nonneg,Int.tdiv_eq_ediv_of_nonneg,aK,bCf,gd_T,bd_s]) 31 b n 1 FUEL (by grind[gX]) h.1 (by omega) (by omega)];rfl
def aF0 (q:Int):Gd q=some (iC q):=by
 unfold Gd iC;rw[aVl _ _ (by decide),bL7,show bR q 1 2147483646=bL q from rfl]
 grind[bL,gQ,aK,Bool.not_true,bd_s,bCf,gd_T,Int.tmod_eq_emod_of_nonneg,dW,bR,decide_true,Bool.and_self,bne_self_eq_false]
def aF1 (q:Int):Gu q=some (iC q):=by
 unfold Gu iC;rw[aYy _ _ (by decide) (by decide),bL7];cases hk:bL q with
 |false=>rfl
 |true=>
  have hr:=gQ hk
  grind[Bool.not_true,bd_s,bCf,gd_T,Int.tmod_eq_emod_of_nonneg,aK]
def aA2 (p:Int)(l:List Int)(h:l.length<=34359738300):Ce p l=some (sQ p l):=by unfold Ce sQ;rw[aB (by grind[aW]),aB (by simp;omega)];cases bL p<;>rfl
def aA3 (p:Int)(l:List Int)(h:l.length<=34359738300):Dc p l=some (sQ p l):=by unfold Dc sQ;rw[aB (by grind),bd_s,aB (by grind[rF])];cases bL p<;>simp[rF]
def Pw (q:Int)(l:List Int)(g:Int)(h:l.length<=34359738300):uM q l g=some (iT q l g):=by unfold uM iT;simp only[aB h,bd_s,Pf];cases(iC q !=0)<;>rfl
def Px (q:Int)(l:List Int)(g:Int)(h:l.length<=34359738300):uO q l g=some (iT q l g):=by unfold uO iT;simp only[aB h,bd_s,Pf];cases(iC q !=0)<;>rfl
def bCj (b:AQ)(h:b.Open.length<=34359738368){τ:Type}(rec:Nat->Option τ)(r:Option τ)(i:Nat)(hi:i<b.Open.length):(bd (bif (!bR b.Open[i].Id (0:Int) (IntKind.i64.wrap (b.Next-(1:Int)))) then(some (true)) else(bif (decide ((↑i:Int)>(0:Int))) then(bd (bC (b.Open) (IntKind.i64.wrap ((↑i:Int)-(1:Int)))) λa=>bif (decide (a.Id>=b.Open[i].Id)) then(some (true)) else(bif (!bR b.Open[i].aAH (0:Int) (1000005:Int)) then(some (true)) else(some (!bR b.Open[i].Until (0:Int) (1000005:Int))))) else(bif (!bR b.Open[i].aAH (0:Int) (1000005:Int)) then(some (true)) else(some (!bR b.Open[i].Until (0:Int) (1000005:Int)))))) λc=>bif c then r else(rec (i+1)))=bif iU b i b.Open[i] then r else rec (i+1):=by
 grind[decide,decide_eq_false,bR,Ux,bd_s,decide_eq_true,default,iU]
def aA4 (b:AQ)(h:b.sz<=34359738368):Ch b=some (eX b):=by
 simp only[AQ.sz] at h;unfold Ch eX;rw[kI (l:=b.Open) (iU b) (.inl false) (.inr ()) (by omega) (λrec i hi=>by
  simp only[dF hi,ae,aN hi,bd_s];exact bCj b h rec _ i hi) (by simp)]
 rw[show decide ((b.Open.length:Int)<=16)=decide (b.Open.length<=16) from dq.2 (by omega)];cases bR b.Next 0 1000000<;>cases decide (b.Open.length<=16)<;>cases gJ (iU b) 0 b.Open<;>rfl
def aA5 (b:AQ)(h:b.sz<=34359738368):Da b=some (eX b):=by
 simp only[AQ.sz] at h;unfold Da eX;rw[kI (l:=b.Open) (iU b) (.inl false) (.inr ()) (by omega) (λrec i hi=>by
  simp only[dF hi,ae,aN hi,bd_s];exact bCj b h rec _ i hi) (by simp)]
 rw[show decide ((b.Open.length:Int)>16)= !decide (b.Open.length<=16) by rw[<-decide_not];exact dq.2 (by omega)];cases bR b.Next 0 1000000<;>cases decide (b.Open.length<=16)<;>cases gJ (iU b) 0 b.Open<;>rfl
def bP7 (m:AU)(h:m.Notices.length<=34359738368){τ:Type}(rec:Nat->Option τ)(r:Option τ)(i:Nat)(hi:i<m.Notices.length):(bd (bif (!bR m.Notices[i].Kind (1:Int) (5:Int)) then(some (true)) else(bif (!bR m.Notices[i].aAH (0:Int) (1000000:Int)) then(some (true)) else(bif (!bR m.Notices[i].Time (0:Int) (1000000:Int)) then(some (true)) else(bif (decide ((↑i:Int)>(0:Int))) then(bd (bC (m.Notices) (IntKind.i64.wrap ((↑i:Int)-(1:Int)))) λa=>some (decide (a.Time>m.Notices[i].Time))) else(some (false)))))) λb=>bif b then r else(rec (i+1)))=bif Ke m.Notices i m.Notices[i] then r else rec (i+1):=by
 grind[decide,decide_eq_false,bR,Ux,bd_s,decide_eq_true,default,Ke]
def Sd (m:AU)(h:m.sz<=34359738368):vO m=some (kL m):=by
 simp only[AU.sz] at h;unfold vO kL;rw[kI (l:=m.Notices) (Ke m.Notices) (.inl false) (.inr ()) (by omega) (λrec i hi=>by
  simp only[dF hi,ae,aN hi,bd_s];exact bP7 m h rec _ i hi) (by simp)]
 rw[show decide ((m.Notices.length:Int)>30)= !decide (m.Notices.length<=30) by rw[<-decide_not];exact dq.2 (by omega)];cases decide (m.Notices.length<=30)<;>cases gJ (Ke m.Notices) 0 m.Notices<;>rfl
def aP5 (i:Int):Qo i=some (aA i):=by unfold Qo aA;cases i==0<;>cases i==1<;>rfl
def aP6 (i:Int):Rb i=some (aA i):=by unfold Rb aA;cases i==0<;>cases i==1<;>rfl
def aLn (e:AF):aK0 e=some (dG e):=by rfl
def aLo (e:AF):aK2 e=some (dG e):=by rfl
def aVm (l:List AF)(h:l.length<=34359738368):Vu l=some (iW l):=by
 unfold Vu iW;cases hl:((l.length:Int)==0) with
 |true=>rfl
 |false=>
  have:l.length≠0:=by simp_all
  rw[aK (by omega) (by omega),show(l.length:Int)-1=((l.length-1:Nat):Int) by omega,aN (by omega)];simp[List.getD,aa (show l.length-1<l.length by omega)]
def aVn (l:List AF)(h:l.length<=34359738368):Wz l=some (iW l):=by
 unfold Wz iW;cases hl:((l.length:Int)==0) with
 |true=>rfl
 |false=>
  have:l.length≠0:=by simp_all
  rw[aK (by omega) (by omega),show(l.length:Int)-1=((l.length-1:Nat):Int) by omega,aN (by omega)];simp[List.getD,aa (show l.length-1<l.length by omega)]
def aF2 (l:List AF)(p:Int)(h:l.length<=34359738368):Gv l p=some (dZ l p):=by unfold Gv;rw[jR (l:=l) (λe=>e.Kind==2&&e.Device==p) (.inl true) (.inr ()) (by omega) (by grind[dF,aN,bd_s]) (by simp)];unfold dZ;cases l.any _<;>rfl
def aVo (l:List AV)(p:Int)(i:Nat)(hi:i<=l.length)(h:l.length<=34359738368){F:(Nat->Option ((Bool⊕PUnit)⊕PUnit))->Nat->Option ((Bool⊕PUnit)⊕PUnit)}(a:∀rec j (b:j<i),F rec j=bif (l[j]'(by omega)).Public==p then some (.inl (.inl false)) else rec (j+1))(c:∀rec,F rec i=some (.inr ())):
  bU FUEL F 0=some (bif (l.take i).any (λq=>q.Public==p) then .inl (.inl false) else .inr ()):=by
 have ht:(l.take i).length=i:=by simp[*]
 exact jR (l:=l.take i) (λq=>q.Public==p) _ _ (by omega) (by simp_all) (by simp[*])
def bH0 (a:AI)(h:a.Credentials.length<=34359738368)(i:Nat)(hi:i<a.Credentials.length){τ:Type}{X:Option τ}{r:Option τ}{K:Option τ}(hX:X=bif (a.Credentials.take i).any (λq=>q.Public==a.Credentials[i].Public) then r else K):
  (bd (bif (!bR a.Credentials[i].Handle (0:Int) (1000000:Int)) then(some (true)) else(bif (decide ((↑i:Int)>(0:Int))) then(bd (bC (a.Credentials) (IntKind.i64.wrap ((↑i:Int)-(1:Int)))) λb=>bif (decide (b.Handle>=a.Credentials[i].Handle)) then(some (true)) else(bd (some (iC a.Credentials[i].Public)) λc=>bif (c==(0:Int)) then(some (true)) else(some (!bR a.Credentials[i].Counter (0:Int) (1000000:Int))))) else(bd (some (iC a.Credentials[i].Public)) λb=>bif (b==(0:Int)) then(some (true)) else(some (!bR a.Credentials[i].Counter (0:Int) (1000000:Int)))))) λd=>bif d then r else X)=bif xH a i a.Credentials[i] then r else K:=by
 grind[decide,decide_eq_false,bd_s,bR,iC,Ux,decide_eq_true,default,xH]
def Sg (a:AI)(h:a.sz<=34359738368):vJ a=some (bA a):=by
 simp only[AI.sz] at h;unfold vJ bA;rw[kI (l:=a.Credentials) (xH a) (.inl false) (.inr ()) (by omega) (λrec i hi=>by
  simp only[dF hi,ae,aN hi,bd_s];rw[aVo a.Credentials a.Credentials[i].Public i (by omega) h (by grind[dF,aN,bd_s]) (by simp)];have:=bH0 a h i hi (X:=nx (some (bif (a.Credentials.take i).any (λq=>q.Public==a.Credentials[i].Public) then Sum.inl (Sum.inl false) else Sum.inr PUnit.unit)) λ_=>rec (i+1)) (r:=some (.inl false)) (K:=rec (i+1)) (by cases(a.Credentials.take i).any _<;>rfl);rw[<-this];simp only[bd_s];generalize(bif !bR a.Credentials[i].Handle 0 1000000 then _ else _:Option Bool)=q;cases q with
  |none=>rfl
  |some b=>cases b<;>rfl) (by simp)]
 rw[show decide ((a.Credentials.length:Int)<=8)=decide (a.Credentials.length<=8) from dq.2 (by omega)];cases bR a.Id 0 1000000<;>cases bR a.Minimum 1 3<;>cases decide (a.Credentials.length<=8)<;>cases gJ (xH a) 0 a.Credentials<;>rfl
def Si (a:AI)(h:a.sz<=34359738368):vN a=some (bA a):=by
 simp only[AI.sz] at h;unfold vN bA;rw[kI (l:=a.Credentials) (xH a) (.inl false) (.inr ()) (by omega) (λrec i hi=>by
  have ht:(a.Credentials.take i).length=i:=by grind
  simp only[dF hi,ae,aN hi,bd_s,aR4];rw[aB (by grind[jX])];rw[aVo a.Credentials a.Credentials[i].Public i (by omega) h (by grind[dF,aN,bd_s]) (by simp[*])];have:=bH0 a h i hi (X:=nx (some (bif (a.Credentials.take i).any (λq=>q.Public==a.Credentials[i].Public) then Sum.inl (Sum.inl false) else Sum.inr PUnit.unit)) λ_=>rec (i+1)) (r:=some (.inl false)) (K:=rec (i+1)) (by cases(a.Credentials.take i).any _<;>rfl);rw[<-this];simp only[bd_s];generalize(bif !bR a.Credentials[i].Handle 0 1000000 then _ else _:Option Bool)=q;cases q with
  |none=>rfl
  |some b=>cases b<;>rfl) (by simp)]
 rw[show decide ((a.Credentials.length:Int)>8)= !decide (a.Credentials.length<=8) by rw[<-decide_not];exact dq.2 (by omega)];cases bR a.Id 0 1000000<;>cases bR a.Minimum 1 3<;>cases decide (a.Credentials.length<=8)<;>cases gJ (xH a) 0 a.Credentials<;>rfl
def wV (s:ByteArray)(hs:s.size<=34359738368):∀(n f i st:Nat) (acc:List ByteArray),s.size-i=n->n+1<f->st<=i->i<=s.size->acc.length<=i->bU f (λc (b:(List ByteArray×Int×Int))=>bif (decide (b.2.2<=(↑s.size:Int))) then(bd (bd (bif (b.2.2==(↑s.size:Int)) then(some (true)) else(bd (bC (cB s) (b.2.2)) λk=>some (k==(46:Int)))) λm=>bif m then(gd (Bp s b.2.1 b.2.2) (gd (aW b.1 [s.extract b.2.1.toNat b.2.2.toNat]) (some ((b.1++[s.extract b.2.1.toNat b.2.2.toNat],IntKind.i64.wrap (b.2.2+(1:Int))))))) else(some (b.1,b.2.1))) λ(h:List ByteArray×Int)=>c ((h.1,h.2,IntKind.i64.wrap (b.2.2+(1:Int))))) else(some (b.1))) (acc,(st:Int),(i:Int))=some (acc++(kV ((s.data.toList.drop st).take (i-st)) (s.data.toList.drop i)).map λl=>(⟨l.toArray⟩:ByteArray))
 |n,f+1,i,st,acc,hn,t,h1,h2,u=>by
  rw[jE];have e0:decide ((i:Int)<=(s.size:Int))=true:=by simpa using(show(i:Int)<=(s.size:Int) by omega)
  have es:Bp s (st:Int) (i:Int):=⟨by omega,by omega,by omega⟩;have j:aW acc ([s.extract (st:Int).toNat (i:Int).toNat]:List ByteArray):=by unfold aW;simp;omega
  have d:IntKind.i64.wrap ((i:Int)+1)=((i+1:Nat):Int):=by rw[aK (by omega) (by omega)];omega
  simp only[e0,ae];rcases e8 i s.size with a|o
  ·have e:((i:Int)==(s.size:Int))=false:=by simp;omega
   have hd:s.data.toList.drop i=s.data.toList[i]'a::s.data.toList.drop (i+1):=(cy a);have hb:(cB s)[i]'(by rw[kW];exact a)=((s.data.toList[i]'a).toNat:Int):=by simp[cB]
   have hq:(((s.data.toList[i]'a).toNat:Int)==46)=(s.data.toList[i]'a==46):=by
    rw[fN];simp only[cW];constructor
    ·intro q;apply UInt8.toNat_inj.1;show _=46;omega
    ·intro q;rw[q];rfl
   rw[e,ac,bGe a,bd_s,bd_s,hb,hq,hd,kV];cases hc:(s.data.toList[i]'a==46) with
   |true=>rw[ae,aB es,aB j,bd_s];dsimp only;rw[d,ae,wV s hs (n-1) f (i+1) (i+1) _ (by omega) (by omega) (aj _) (by omega) (by simp;omega),bn,bn,ext_list];simp
   |false=>
    rw[ac,bd_s];dsimp only;rw[d,ac,wV s hs (n-1) f (i+1) st _ (by omega) (by omega) (by omega) (by omega) (by omega)];have:(s.data.toList.drop st).take (i+1-st)=(s.data.toList.drop st).take (i-st)++[s.data.toList[i]'a]:=by rw[show i+1-st=(i-st)+1 by omega,dm,fb,show st+(i-st)=i by omega,aa a];rfl
    rw[this]
  ·have e:((i:Int)==(s.size:Int))=true:=by simp;omega
   obtain⟨f,rfl⟩:∃g,f=g+1:=⟨f-1,by omega⟩;have p:s.data.toList.length<=i:=by have:s.data.toList.length=s.size:=rfl;omega
   have r:decide (((i+1:Nat):Int)<=(s.size:Int))=false:=by simp;omega
   rw[e,ae,bd_s,ae,aB es,aB j,bd_s,jE];dsimp only;rw[d];simp only[r,ac];rw[gf p,kV,bn,bn,ext_list];rfl
def aP7 (s:ByteArray)(h:s.size<=34359738368):Qp s=some (bO s):=by
 unfold Qp;have a:=gX;have:=wV s h s.size FUEL 0 0 [] rfl (by omega) (aj _) (cE _) (aj _)
 grind[bO,bd,trans]
def aVp (s:ByteArray)(h:s.size<=34359738368):Wd s=some (xR s):=by
 unfold Wd xR;have hb:=kW s;rw[jR (l:=cB s) (λb=> !aEy b) (.inl false) (.inr ()) (by omega) (by grind[dF,bGe,bd_s,cB,aEy,bR,decide]) (by simp[*])];have e:bR (s.size:Int) 1 20=(decide (1<=s.size)&&decide (s.size<=20)):=by unfold bR;congr 1<;>exact dq.2 (by omega)
 rw[e];by_cases h0:0<s.size
 ·rw[show(0:Int)=((0:Nat):Int) from rfl,bGe h0,aK (by omega) (by omega),show(s.size:Int)-1=((s.size-1:Nat):Int) by omega,bGe (by omega)];simp only[bd_s,bne,List.getD,aa (show 0<(cB s).length by rw[kW];exact h0),aa (show s.size-1<(cB s).length by rw[kW];omega),cr];cases((cB s)[0]'_==45)<;>cases((cB s)[s.size-1]'_==45)<;>cases decide (1<=s.size)<;>cases decide (s.size<=20)<;>cases(cB s).any _<;>rfl
 simp_all
def aYz (s:ByteArray)(h:s.size<=34359738368):V4 s=some (iX s):=by
 unfold V4 iX;have hl:=Uz s;simp only[aB h,bd_s];rw[jR (l:=bO s) (λl=> !xR l) (.inl false) (.inr ()) (by omega) (λrec i hi=>by
  have a:(bO s)[i].size<=34359738368:=bv (Aq s _ (bw _)) h
  grind[dF,aN,bd_s,aB]) (by simp)]
 have e':decide ((s.size:Int)<=60)=decide (s.size<=60):=dq.2 (by omega);rw[e'];cases decide (s.size<=60)<;>cases(bO s).any _<;>rfl
def aY0 (s:ByteArray):X3 s=some (iX s):=by
 unfold X3 iX;by_cases a:s.size<=60
 ·have hl:=Uz s;rw[show decide ((s.size:Int)>60)=false from au (by omega),ac,aB (show s.size<4294967281/\1<=(⟨#[UInt8.ofNat 46]⟩:ByteArray).size from⟨by omega,aj _⟩),bd_s];have es:mP s ⟨#[UInt8.ofNat 46]⟩=bO s:=aTr s;rw[es];rw[jR (l:=bO s) (λl=> !xR l) (.inl false) (.inr ()) (by omega) (λrec i hi=>by
   have c:(bO s)[i].size<=60:=bv (Aq s _ (bw _)) a;simp only[dF hi,ae,aN hi,bd_s]
   revert c
   generalize(bO s)[i]=l;intro c;have hb:=kW l;rw[jR (l:=cB l) (λb=> !aEy b) (.inl (.inl false)) (.inr ()) (by omega) (by grind[dF,bGe,bd_s,cB,aEy,bR,decide]) (by simp[*])];unfold xR;by_cases h0:0<l.size
   ·rw[show(0:Int)=((0:Nat):Int) from rfl,bGe h0,aK (by omega) (by omega),show(l.size:Int)-1=((l.size-1:Nat):Int) by omega,bGe (by omega)];have d:decide ((l.size:Int)<1)= !decide (1<=l.size):=by grind
    have e:decide ((l.size:Int)>20)= !decide (l.size<=20):=by grind
    rw[d,e];simp only[bd_s,bne,List.getD,aa (show 0<(cB l).length by rw[kW];exact h0),aa (show l.size-1<(cB l).length by rw[kW];omega),cr];cases((cB l)[0]'_==45)<;>cases((cB l)[l.size-1]'_==45)<;>cases decide (1<=l.size)<;>cases decide (l.size<=20)<;>cases(cB l).any _<;>rfl
   simp_all) (by simp)]
  rw[show decide (s.size<=60)=true by simpa using a];cases(bO s).any _<;>rfl
 grind
def aA6 (s:ByteArray):Cy s=some (bOx s):=by
 unfold Cy bOx;cases h:iX s with
 |false=>rfl
 |true=>
  have hs:=Va h;have hp:=aOo s;have es:mP s ⟨#[UInt8.ofNat 46]⟩=bO s:=aTr s;rw[aq,ac,ae,aB (show s.size<4294967281/\1<=(⟨#[UInt8.ofNat 46]⟩:ByteArray).size from⟨by omega,aj _⟩),bd_s,es];rw[show(((bO s).length:Int)==1)=((bO s).length==1) by rw[fN];simp only[cW];omega];cases h1:(bO s).length==1 with
  |true=>rfl
  |false=>
   have h2:(bO s).length≠1:=by simp_all
   have hl:=Uz s;obtain⟨a,c,b,hb,e⟩:=bX2 (l:=bO s) (by omega);have c:=Aq s a c;have hb:=Aq s b hb;rw[ac,ac,aK (by omega) (by omega),show((bO s).length:Int)-2=(((bO s).length-2:Nat):Int) by omega,bn];have hd:((bO s).drop ((bO s).length-2)).length=2:=by grind
   have d:(sN ⟨#[UInt8.ofNat 46]⟩ ((bO s).drop ((bO s).length-2))).size<=140737488355328:=by have e:sN ⟨#[UInt8.ofNat 46]⟩ ((bO s).drop ((bO s).length-2))=_:=e;rw[e,ByteArray.size_append,ByteArray.size_append];have:(⟨#[46]⟩:ByteArray).size=1:=rfl;omega
   simp_all[aB,jX,bO]
def aY1 (s:ByteArray)(h:s.size<=9223372036854775807):X4 s=some (p9 s):=by unfold X4 p9;have hb:=kW s;rw[jR (l:=cB s) (λb=>b==46) (.inl true) (.inr ()) (by omega) (by grind[dF,bGe,bd_s]) (by simp[*])];cases(cB s).any _<;>rfl
def aA7 (n:ByteArray)(seed:Int)(h:n.size<=9223372036854775807):Cz n seed=some (lF n seed):=by
 grind[iX,bWe,decide,bO,bL,cCi,aYi,aB,bd_s,Cz,lF]
def aVq (n:ByteArray)(seed:Int)(h:n.size<=34359738368):We n seed=some (iD n seed):=by
 unfold We iD lF;have e:decide (((bO n).length:Int)<2)= !decide (2<=(bO n).length):=by grind
 simp only[aB h,bd_s,e];cases iX n<;>cases decide (2<=(bO n).length)<;>cases bL seed<;>rfl
def aA8 (s:AC)(h:s.sz<=34359738368):Ci s=some (bY s):=by
 simp only[AC.sz] at h;unfold Ci bY;rw[kI (l:=s.Accounts) (Pe s.Accounts) (.inl false) (.inr ()) (by omega) (by grind[lQ,AI.sz,dF,aN,bd_s,aB,Pe,Ux,decide,decide_eq_true,bA,default,decide_eq_false]) (by simp)];rw[show decide ((s.Accounts.length:Int)<=8)=decide (s.Accounts.length<=8) from dq.2 (by omega)];have a:(!((iD s.Name s.Book.Seed).Name.toList==(⟨#[]⟩:ByteArray).toList))=lF s.Name s.Book.Seed:=by rw[cCi,bJm,Bool.not_not]
 simp only[aB (show s.Name.size<=34359738368 by omega),aB (show s.Book.sz<=34359738368 by simp only[AQ.sz];omega),bd_s,a];cases lF s.Name s.Book.Seed<;>cases decide (s.Accounts.length<=8)<;>cases eX s.Book<;>cases gJ (Pe s.Accounts) 0 s.Accounts<;>rfl
def aA9 (s:AC)(h:s.sz<=34359738368):Db s=some (bY s):=by simp only[AC.sz] at h;unfold Db bY;rw[kI (l:=s.Accounts) (Pe s.Accounts) (.inl false) (.inr ()) (by omega) (by grind[lQ,AI.sz,dF,aN,bd_s,aB,Pe,Ux,decide,decide_eq_true,bA,default,decide_eq_false]) (by simp)];rw[show decide ((s.Accounts.length:Int)>8)= !decide (s.Accounts.length<=8) by rw[<-decide_not];exact dq.2 (by omega)];simp only[aB (show s.Name.size<=9223372036854775807 by omega),aB (show s.Book.sz<=34359738368 by simp only[AQ.sz];omega),bd_s];cases lF s.Name s.Book.Seed<;>cases decide (s.Accounts.length<=8)<;>cases eX s.Book<;>cases gJ (Pe s.Accounts) 0 s.Accounts<;>rfl
def aVr (l:List AF)(e:AF)(h:l.length<=34359738368):Vw l e=some (lT l e):=by unfold Vw lT;have hd:=iB l;rw[jR (l:=l) (λq=>q.Kind==2&&q.Device==e.Device) (.inl false) (.inr ()) (by omega) (by grind[dF,aN,bd_s]) (by simp)];rw[show(l.any λq=>q.Kind==2&&q.Device==e.Device)=dZ l e.Device from rfl];simp only[aB h,aB (show(aC l).length<=1099511627776 by omega),aB (show([dG e]:List Int).length<=34359738300 by simp),bd_s,bne];cases(e.Index==(l.length:Int))<;>cases(e.Previous==iW l)<;>cases iQ (aC l) e.By<;>cases((l.length:Int)==0)<;>cases(e.By==e.Device)<;>cases iT e.By [dG e] e.Signature<;>cases(e.Kind==2)<;>cases iQ (aC l) e.Device<;>cases dZ l e.Device<;>cases(e.Kind==1)<;>rfl
def aLp (l:List AF)(h:l.length<=34359738368):Kv l=some (aT l):=by unfold Kv aT;rw[kI (l:=l) (λi e=> !lT (l.take i) e) (.inl false) (.inr ()) (by omega) (by grind[dF,aN,bd_s,aR4,aB,jX,List.length_take]) (by simp)];cases gJ (λi e=> !lT (l.take i) e) 0 l<;>simp
def aLq (l:List AF)(h:l.length<=34359738368):Lt l=some (aT l):=by
 unfold Lt aT;rw[kI (l:=l) (λi e=> !lT (l.take i) e) (.inl false) (.inr ()) (by omega) (λrec i hi=>by
  have ht:(l.take i).length=i:=by grind
  have hb:(l.take i).length<=34359738368:=by omega
  have hd:=iB (l.take i);simp only[dF hi,ae,aN hi,bd_s,aR4,aB (show jX l (i:Int) by unfold jX;omega),aB hb,aB (show(aC (l.take i)).length<=1099511627776 by omega),aB (show([dG l[i]]:List Int).length<=34359738300 by simp)];unfold lT;rw[ht];generalize l[i]=e;have h1:decide (((aC (l.take i)).length:Int)>=6)= !decide (((aC (l.take i)).length:Int)<6):=by grind
  have h2:iQ (aC (l.take i)) e.Device=true->decide (((aC (l.take i)).length:Int)>1)= !(((aC (l.take i)).length:Int)==1):=(by grind[bSn,Bool.decide_eq_true,aC,decide_not]);simp only[h1,bne];cases d:(e.Kind==2) with
  |true=>
   have a:(e.Kind==1)=false:=by simp_all
   rw[a];cases hd:iQ (aC (l.take i)) e.Device with
   |true=>rw[h2 hd];cases(e.Index==(i:Int))<;>cases(e.Previous==iW (l.take i))<;>cases iQ (aC (l.take i)) e.By<;>cases((i:Int)==0)<;>cases(e.By==e.Device)<;>cases iT e.By [dG e] e.Signature<;>cases(((aC (l.take i)).length:Int)==1)<;>rfl
   |false=>cases(e.Index==(i:Int))<;>cases(e.Previous==iW (l.take i))<;>cases iQ (aC (l.take i)) e.By<;>cases((i:Int)==0)<;>cases(e.By==e.Device)<;>cases iT e.By [dG e] e.Signature<;>rfl
  |false=>
   cases(e.Kind==1) with
   |true=>cases(e.Index==(i:Int))<;>cases(e.Previous==iW (l.take i))<;>cases iQ (aC (l.take i)) e.By<;>cases((i:Int)==0)<;>cases(e.By==e.Device)<;>cases iT e.By [dG e] e.Signature<;>cases iQ (aC (l.take i)) e.Device<;>cases dZ (l.take i) e.Device<;>cases decide (((aC (l.take i)).length:Int)<6)<;>rfl
   |false=>cases(e.Index==(i:Int))<;>cases(e.Previous==iW (l.take i))<;>cases iQ (aC (l.take i)) e.By<;>cases((i:Int)==0)<;>cases(e.By==e.Device)<;>cases iT e.By [dG e] e.Signature<;>cases dZ (l.take i) e.Device<;>rfl) (by simp)]
 unfold bR;have b:decide ((l.length:Int)<1)= !decide (1<=(l.length:Int)):=by grind
 have c:decide ((l.length:Int)>40)= !decide ((l.length:Int)<=40):=by grind
 rw[b,c];cases decide (1<=(l.length:Int))<;>cases decide ((l.length:Int)<=40)<;>cases gJ (λi e=> !lT (l.take i) e) 0 l<;>rfl
def I1 (w:AA)(h:w.sz<=34359738368):zO w=some (aP w):=by simp only[AA.sz] at h;unfold zO aP;rw[kI (l:=w.Sites) uD (.inl false) (.inr ()) (by omega) (by grind[lQ,AC.sz,dF,aN,bd_s,aB,uD,bY,aA]) (by simp)];simp only[aB (show w.Mail.sz<=34359738368 by simp only[AU.sz];omega),aB (show w.aAE.Log.length<=34359738368 by omega),bne,bd_s];cases gJ uD 0 w.Sites<;>cases bR w.Now 0 999900<;>cases bR (w.Devices.length:Int) 1 6<;>cases((w.Stolen.length:Int)==(w.Devices.length:Int))<;>cases((w.Sites.length:Int)==2)<;>cases kL w.Mail<;>cases aT w.aAE.Log<;>cases bL w.Seed<;>rfl
def bW7 (h:AH)(b:Int)(a:h.Saved.length<=34359738368)(h0:0<=b/\b<(h.Saved.length:Int)):bC h.Saved (IntKind.i64.wrap (IntKind.i64.wrap ((h.Saved.length:Int)-1)-b))=some (h.Saved.getD (h.Saved.length-1-b.toNat) default):=by rw[aK (n:=(h.Saved.length:Int)-1) (by omega) (by omega),aK (by omega) (by omega),uF (by omega) (by omega)];congr 2;omega
def I4 (h:AH)(b:Int)(a:h.sz<=34359738368):Ac h b=some (gL h b):=by
 have hq:=a;simp only[AH.sz] at hq;unfold Ac gL;rw[aB a,bd_s,sU,bd_s];cases e:(decide (b<0)||decide (b>=(h.Saved.length:Int))) with
 |true=>rfl
 |false=>rw[bW7 h b hq (Ve e)];rfl
def Xj (w:AA)(i b:Int)(h:w.sz<=34359738368):yM w i b=some (fQ w i b):=by
 have c:=h;simp only[AA.sz] at c;unfold yM fQ;rw[aB h,bd_s,aB h,bd_s,sU,sU,bd_s];cases e:(!aP w||(decide (i<0)||decide (i>=(w.Hosts.length:Int)))) with
 |true=>rfl
 |false=>
  have a:=Ve (bl.1 e).2;have hi:i.toNat<w.Hosts.length:=by omega
  have hs:=lQ (f:=AH.sz) hi;have hg:w.Hosts.getD i.toNat default=w.Hosts[i.toNat]:=by simp[List.getD,aa hi]
  rw[ac,ac,uF a.1 a.2,bd_s,hg,aB (by omega),bd_s,bd_s];cases hr:(gL w.Hosts[i.toNat] b).2<;>rfl
def aLr (l:List AS):Mi l=some (F5 l):=by
 unfold Mi F5;cases hr:bR (l.length:Int) 1 7 with
 |false=>rfl
 |true=>
  have hlen:l.length<=7:=by have:=gQ hr;omega
  rw[aq,ac,cw];rw[Ut (s:=((0:Nat),false,false,false,false,false,false,false,false)) (λi s=>i<=l.length/\s=(i,cS l i 0,cS l i 1,cS l i 2,cS l i 3,cS l i 4,cS l i 5,cS l i 6,cS l i 7)/\∀(j:Nat) (b:j<l.length),j<i->Pg l j l[j]=false) l.length (some (bif gJ (Pg l) 0 l then .inl false else .inr ())) (by omega) ⟨by omega,by simp[cS],λj _ h=>by omega⟩ (λi s rec hi hv=> ?_) (λs rec hv=> ?_)]
  ·cases gJ (Pg l) 0 l<;>rfl
  ·obtain⟨_,rfl,c⟩:=hv;have a:Pg l i l[i]=true->gJ (Pg l) 0 l=true:=λh=>(xS l 0).2 ⟨i,hi,by rw[ct];exact h⟩;have d:Pg l i l[i]=false->∀(j:Nat) (b:j<l.length),j<i+1->Pg l j l[j]=false:=λh j b m=>by
    rcases e8 j i with f|f
    ·exact c j b f
    ·have:j=i:=by omega
     subst this;exact h
   simp only[dF hi,ae,aN hi,bd_s];cases h1:bR l[i].Index 1 7 with
   |false=>exact .inr (by rw[a (by unfold Pg;rw[h1];rfl)];rfl)
   |true=>
    cases h2:bR l[i].Value 0 1018 with
    |false=>exact .inr (by rw[a (by unfold Pg;rw[h1,h2];rfl)];rfl)
    |true=>
     have hk:=gQ h1;have hc:Pg l i l[i]=cS l i l[i].Index:=by unfold Pg cS;rw[h1,h2];rfl
     have go:∀n:Int,l[i].Index=n->(cS l i n=true/\gJ (Pg l) 0 l=true)\/(cS l i n=false/\∀(j:Nat) (b:j<l.length),j<i+1->Pg l j l[j]=false):=λn e=>by
      cases hb:cS l i n with
      |true=>exact .inl ⟨rfl,a (by rw[hc,e];exact hb)⟩
      |false=>exact .inr ⟨rfl,d (by rw[hc,e];exact hb)⟩
     have hs:=λk=>cEd (l:=l) (k:=k) hi;simp only[hs];obtain e|e|e|e|e|e|e:l[i].Index=1\/l[i].Index=2\/l[i].Index=3\/l[i].Index=4\/l[i].Index=5\/l[i].Index=6\/l[i].Index=7:=by omega
     all_goals
      rcases go _ e with⟨hb,g⟩|⟨hb,g⟩
      ·exact .inr (by rw[e,g,hb];rfl)
      ·refine .inl ⟨_,⟨by omega,rfl,g⟩,?_⟩;rw[e,hb];simp
  ·obtain⟨_,rfl,c⟩:=hv;have:gJ (Pg l) 0 l=false:=by
    cases h:gJ (Pg l) 0 l with
    |false=>rfl
    |true=>obtain⟨i,hi,hp⟩:=(xS l 0).1 h;rw[ct,c i hi hi] at hp;cases hp
   simp only[aTn,ac,this]
def bEe (a:Int):bD8 a=some (fE a 1019):=rfl
def bW8:((1019:Int)≠0)=True:=by simp
def aY2 (c:Int)(l:List Int)(x:Int)(h:0<=x/\x<=1000/\l.length<=34359738368):V6 c l x=some (Fu c l x):=by
 obtain⟨h1,h2,a⟩:=h;have hr:=aAi ⟨h1,h2⟩ l;have hm:=pI (p:=c) (q:=1019) (by omega);unfold V6 Fu;rw[bGj (l:=l) (aOp x) some (by omega) (λrec s i hi=>by
  simp only[show decide ((i:Int)>=0)=true from ax (by omega),ae,aN hi,bd_s,bW8,gd_T,aK (show-9223372036854775808<=(i:Int)-1 by omega) (by omega)];rfl) (λrec s=>rfl) (aK (by omega) (by omega))]
 simp only[bd_s,bW8,gd_T];rw[aK (by omega) (by omega),cg (by omega)]
def aF3 (c:Int)(l:List Int)(x:Int)(h:0<=x/\x<=1000/\l.length<=34359738368):Ic c l x=some (Fu c l x):=by
 obtain⟨h1,h2,a⟩:=h;have hr:=aAi ⟨h1,h2⟩ l;have hm:=pI (p:=c) (q:=1019) (by omega);unfold Ic Fu;rw[bGj (l:=l) (aOp x) some (by omega) (λrec s i hi=>by
  simp only[show decide ((i:Int)>=0)=true from ax (by omega),ae,aN hi,bd_s,bW8,gd_T,aK (show-9223372036854775808<=(i:Int)-1 by omega) (by omega)];rfl) (λrec s=>rfl) (aK (by omega) (by omega))]
 simp only[bd_s];rw[aK (by omega) (by omega),fE,cU (by omega)]
def bP8 {l:List AS}(h:F5 l=true){i:Nat}(hi:i<l.length):1<=l[i].Index/\l[i].Index<=7:=by
 unfold F5 at h;rw[ab,bq] at h;have hb:Pg l i l[i]=false:=by
  cases hc:Pg l i l[i] with
  |false=>rfl
  |true=>rw[(xS l 0).2 ⟨i,hi,by rw[ct];exact hc⟩] at h;exact absurd h.2 (by simp)
 unfold Pg at hb;rw[bl,cG] at hb;exact gQ hb.1
def Xk (l:List AS)(c:List Int)(h:l.length<=34359738368/\c.length<=34359738368):yL l c=some (lU l c):=by
 unfold yL lU;cases a:F5 l with
 |false=>rfl
 |true=>
  rw[aq,ac,cAl (l:=l) (bSr c) (by omega) (λrec i s hi hs=>by
   have:=bP8 a hi;simp only[dF hi,ae,aN hi,bd_s,aB (show 0<=l[i].Index/\l[i].Index<=1000/\c.length<=34359738368 by omega),bW8,gd_T,gK hs];rfl) (λrec s=>by simp only[aTn,ac])]
  rfl
def aP8 (l:List AH)(h:l.length<=34359738368):Rm l=some (l.map λh=>h.State.aAQ):=by unfold Rm;rw[cAl (l:=l) (λh:AH=>h.State.aAQ) (by omega) (λrec i s hi hs=>by simp only[dF hi,ae,aN hi,bd_s,gK hs]) (λrec s=>by simp only[aTn,ac])];rfl
def aVs (k:A3):aU4 k=some (kT k):=rfl
def aP9 (k:A3):aPy k=some (kT k):=rfl
def Xl (k:A3):yJ k=some (kP k):=by unfold yJ kP;cases F5 [k.aAQ]<;>cases bR k.Epoch 0 1000000<;>cases bR k.Limit 1 10<;>rfl
def I5 (h:AH)(s:AS)(a:h.sz<=34359738368):Ab h s=some (aTw h s):=by unfold Ab aTw jU;simp only[aB a,bd_s];cases kP h.State<;>cases decide (kT h.State<h.Monotonic)<;>cases(h.State.Epoch==1000000)<;>cases(s.Index !=h.State.aAQ.Index)<;>cases F5 [s]<;>rfl
def bKn (hs:List AH)(a:List AS)(hl:a.length=hs.length)(t:hs.length<=34359738368){F:(List AH×Nat->Option (List AH×Bool⊕List AH))->List AH×Nat->Option (List AH×Bool⊕List AH)}
  (m:∀rec i s (hi:i<hs.length) (d:i<a.length),s.length<=34359738368->F rec (s,i)=bif jU hs[i] a[i] then some (.inl (hs,false)) else rec (s++[rZ hs[i] a[i]],i+1)) (o:∀rec s,F rec (s,hs.length)=some (.inr s)):
  nx (bU FUEL F ([],0)) (λz=>some (z,true))=some (bif (hs.zip a).any (λp=>jU p.1 p.2) then(hs,false) else(List.zipWith rZ hs a,true)):=by
 have hb:∀i (hi:i<hs.length),jU hs[i] (a[i]'(by omega))=true->(hs.zip a).any (λp=>jU p.1 p.2)=true:=λi hi h=>by
  refine eM.2 ⟨(hs[i],a[i]'(by omega)),?_,h⟩;have:=bw (l:=hs.zip a) (n:=i) (by simp;omega);rwa [ji] at this
 have ht:∀i (hi:i<hs.length),List.zipWith rZ (hs.take (i+1)) (a.take (i+1))=List.zipWith rZ (hs.take i) (a.take i)++[rZ (hs[i]'(by omega)) (a[i]'(by omega))]:=λi hi=>by
  rw[dm,dm,aa hi,aa (show i<a.length by omega)];simp only[eo];rw[List.zipWith_append (by simp;omega)];rfl
 have key:=Ut (F:=F) (s:=([],0)) (λi s=>i<=hs.length/\s=(List.zipWith rZ (hs.take i) (a.take i),i)/\∀j (d:j<hs.length),j<i->jU hs[j] (a[j]'(by omega))=false) hs.length (some (bif (hs.zip a).any (λp=>jU p.1 p.2) then .inl (hs,false) else .inr (List.zipWith rZ hs a))) (by omega) ⟨by omega,by simp,λj _ h=>by omega⟩ (λi s rec hi hv=> ?_) (λs rec hv=> ?_)
 ·rw[key];cases(hs.zip a).any _<;>rfl
 ·obtain⟨_,rfl,f⟩:=hv;rw[m rec i _ hi (by omega) (by simp;omega)];cases hc:jU hs[i] (a[i]'(by omega)) with
  |true=>exact .inr (by rw[hb i hi hc];rfl)
  |false=>
   refine .inl ⟨_,⟨hi,by rw[ht i hi],λj d q=> ?_⟩,rfl⟩;rcases e8 j i with k|k
   ·exact f j d k
   ·have:j=i:=by omega
    subst this;exact hc
 ·obtain⟨_,rfl,f⟩:=hv;have hn:(hs.zip a).any (λp=>jU p.1 p.2)=false:=by
   cases h:(hs.zip a).any (λp=>jU p.1 p.2) with
   |false=>rfl
   |true=>
    obtain⟨x,r,b⟩:=eM.1 h;obtain⟨i,hi,e⟩:=ij r;rw[ji] at e;have c:i<hs.length:=by simp at hi;omega
    rw[<-e] at b;simp only at b;rw[f i c c] at b;cases b
  rw[o,hn,di,<-hl,di];rfl
def aF4 (hs:List AH)(c:List Int)(h:szL AH.sz hs<=34359738368/\c.length<=34359738368):Ie hs c=some (fD hs c):=by
 obtain⟨h1,h2⟩:=h;have h0:hs.length<=34359738368:=by unfold szL at h1;omega
 have hr:=bGk (hs.map λh=>h.State.aAQ) c;unfold Ie fD bDu;rw[aB h0,bd_s,aB ⟨by simpa using h0,h2⟩,bd_s,aB h1];cases he:((lU (hs.map λh=>h.State.aAQ) c).length:Int)==0 with
 |true=>rfl
 |false=>
  have hl:=bGl (l:=hs.map λh=>h.State.aAQ) (c:=c) (by simpa using he);rw[bg] at hl;rw[ac,cN,bKn hs _ hl h0 (λrec i s hi b a=>by
   have d:=lQ (f:=AH.sz) hi;unfold szL at h1;simp only[dF hi,ae,aN hi,aN b,bd_s,aB (show hs[i].sz<=34359738368 by omega),gK a];unfold aTw;cases jU hs[i] (lU (hs.map λh=>h.State.aAQ) c)[i]<;>rfl) (λrec s=>by simp only[aTn,ac])]
def bCk (w:AA){F:(List Int×Int->Option (List Int))->List Int×Int->Option (List Int)}
  (a:∀rec (s:List Int) (k:Int),s.length<=100->0<=k->k<=100->F rec (s,k)=bif decide (k<w.aAK.Threshold)&&decide (k<=7) then rec (s++[aU w.Seed [317,w.Now,k]],k+1) else some s):
  ∀(n f:Nat) (k:Int) (s:List Int),n<f->k=9-(n:Int)->n<=8->s.length<=100-n->bU f F (s,k)=some (s++aOq w n k)
 |0,f+1,k,s,b,hk,_,hs=>by
  rw[jE,a _ _ _ (by omega) (by omega) (by omega),show decide (k<=7)=false from au (by omega),cP,ac];unfold aOq;simp
 |n+1,f+1,k,s,b,hk,hn,hs=>by
  rw[jE,a _ _ _ (by omega) (by omega) (by omega)];unfold aOq;cases(decide (k<w.aAK.Threshold)&&decide (k<=7)) with
  |true=>rw[ae,ae,bCk w a n f _ _ (by omega) (by omega) (by omega) (by simp;omega)];simp
  |false=>simp
def aF5 (w:AA)(h:w.sz<=34359738368):Ig w=some (eF w):=by
 have a:=h;simp only[AA.sz] at a;have hc:=bBs w 8 1;unfold Ig eF;rw[aB h,bd_s,aB h,bd_s,bCk w (λrec s k h1 h2 b=>by
  rw[aB (by simp),bd_s,gK (s:=s) (by omega),aK (by omega) (by omega),cAm,bd_s]) 8 FUEL 1 [] (by have:=gX;omega) rfl (by omega) (by simp),bd_s,bz,aB ⟨by unfold szL;omega,by omega⟩,bd_s]
 unfold aE0;cases aP w<;>cases(fD w.Hosts (aOq w 8 1)).2<;>rfl
def aBa (b:List Int)(h:b.length<=34359738360):Cg b=some (Jh b):=by unfold Cg Jh;rw[bX4 (l:=b) IntKind.i64.wrap (by simp;omega) (by grind[dF,aN,bd_s,gK]) (by simp)];rfl
def aBb (b:List Int)(h:b.length<=34359738360):Dh b=some (Jh b):=by unfold Dh Jh;rw[bX4 (l:=b) IntKind.i64.wrap (by simp;omega) (by grind[dF,aN,bd_s,gK]) (by simp)];rfl
def Mt (k:Int)(s:ByteArray)(h:s.size<=34359738300):tK k s=some (pQ k s):=by have hb:=kW s;unfold tK pQ;rw[aR5,aB (by omega),bd_s,aB (by rw[bMe];omega),bd_s,bGa (nI _ _).1]
def Mv (k:Int)(s:ByteArray)(h:s.size<=34359738300):tO k s=some (pQ k s):=by have hb:=kW s;unfold tO pQ;rw[aR5,aB (by omega),bd_s,aB (by rw[bMe];omega),bd_s]
def aQa (s:ByteArray)(h:s.size<=34359738300):Qq s=some (bD s):=by unfold Qq;rw[aB h];rfl
def aQb (s:ByteArray)(h:s.size<=34359738300):Rf s=some (bD s):=by unfold Rf;rw[aB h];rfl
def aLs (b:AB)(s h:Int)(a:b.sz<=34359738368):Mf b s h=some (aM b s h):=by simp only[AB.sz] at a;unfold Mf aM;rw[Kc (l:=b.Entries) (λe=>e.Site==s&&e.Handle==h) (by omega) (by grind[dF,aN,bd_s]) (by simp)]
theorem aSh {b:AB}{s h:Int}(d:decide (aM b s h>=0)=true):bC b.Entries (aM b s h)=some (b.Entries.getD (aM b s h).toNat default)/\(aM b s h).toNat<b.Entries.length/\(b.Entries.getD (aM b s h).toNat default).Site=s/\(b.Entries.getD (aM b s h).toNat default).Handle=h:=by
 have h0:=of_decide_eq_true d;obtain⟨l1,e,l2,f,c,a⟩:=w9 (p:=λe:AG=>e.Site==s&&e.Handle==h) (l:=b.Entries) (i:=0) h0;have a:aM b s h=((0+l1.length:Nat):Int):=a;rw[ct] at a;have hl:l1.length<b.Entries.length:=by simp[*]
 have hg:b.Entries.getD l1.length default=e:=by simp[*]
 rw[a,bn,hg];simp only[ab,cW] at c;refine⟨?_,hl,c.1,c.2⟩;rw[aN hl];have:b.Entries[l1.length]=e:=by simp[*]
 rw[this]
theorem bEf (b:AB)(x:AG):(qJ b x).Entries.length<=b.Entries.length+1:=by
 grind[decide,aM,List.length,List.takeWhile_append_dropWhile,nD,List.length_append,List.length_singleton,qJ]
def aQc (b:AB)(s h:Int)(a:b.sz<=34359738360):Qs b s h=some (aE1 b s h):=by
 have hq:=a;simp only[AB.sz] at hq;have hs:=bEf b (sD b s h);unfold Qs aE1;have c:(qJ b (sD b s h)).sz<=34359738368:=by grind[AB.sz]
 rw[aB (by omega),aB (by omega)];simp only[aB (show b.sz<=34359738360 from a),aB (show b.sz<=34359738368 by omega),bd_s];cases d:decide (aM b s h>=0) with
 |true=>
  obtain⟨h1,h2,_,_⟩:=aSh d;have hv:sD b s h=⟨s,h,IntKind.i64.wrap ((b.Entries.getD (aM b s h).toNat default).Version+1),false⟩:=by grind[sD,bOy]
  rw[ae,h1,bd_s];cases hd:(b.Entries.getD (aM b s h).toNat default).Deleted with
  |false=>rfl
  |true=>rw[bd_s,aq,ac,nx_r,<-hv,aB c];cases aO b<;>cases aO (qJ b (sD b s h))<;>rfl
 |false=>
  have hv:sD b s h=⟨s,h,1,false⟩:=by grind[sD,bOy]
  rw[ac,nx_r,<-hv,aB c];cases aO b<;>cases aO (qJ b (sD b s h))<;>rfl
theorem bKo {α:Type}{p:α->Bool}{l:List α}:(l.takeWhile p).length<=l.length:=by
 grind[List.length_append,List.length,List.takeWhile_append_dropWhile]
def cCy {α:Type}{p:α->Bool}{l:List α}:l.takeWhile p=l.take (l.takeWhile p).length/\l.dropWhile p=l.drop (l.takeWhile p).length:=by
 grind[List.drop_left,List.take_left,List.drop,List.take,List.takeWhile_append_dropWhile]
def bUc (b:AB)(x:AG)(a:b.Entries.length<=34359738360){F:(Int->Option Int)->Int->Option Int}
  (c:∀rec i (hi:i<b.Entries.length),F rec (i:Int)=bif dX b.Entries[i] x then rec (((i+1:Nat):Int)) else some (i:Int)) (d:∀rec,F rec (b.Entries.length:Int)=some (b.Entries.length:Int)):bU FUEL F 0=some (((b.Entries.takeWhile λe=>nD e x.Site x.Handle).length:Nat):Int):=by
 refine Ut (λi s=>i<=(b.Entries.takeWhile λe=>nD e x.Site x.Handle).length/\s=(i:Int)) (b.Entries.takeWhile λe=>nD e x.Site x.Handle).length _ (by grind[bKo,nD]) ⟨by omega,rfl⟩ (λi s rec hi hv=> ?_) (λs rec hv=> ?_)
 all_goals grind[bEc,nD,Nat.lt_or_ge,dX,bKo]
def aQd (b:AB)(s h:Int)(f:b.sz<=34359738360):Rj b s h=some (aE1 b s h):=by
 have hq:=f;simp only[AB.sz] at hq;have hs:=bEf b (sD b s h);have c:(qJ b (sD b s h)).sz<=34359738368:=by grind[AB.sz]
 unfold Rj aE1;simp only[aB (show b.sz<=34359738368 by omega),bd_s];cases hb:aO b with
 |false=>simp
 |true=>
  rw[aq,ac];cases d:decide (aM b s h>=0) with
  |true=>
   obtain⟨h1,h2,i,j⟩:=aSh d;have h0:=of_decide_eq_true d;have hv:sD b s h=⟨s,h,IntKind.i64.wrap ((b.Entries.getD (aM b s h).toNat default).Version+1),false⟩:=by grind[sD,bOy]
   have a:qJ b (sD b s h)=⟨b.Entries.set (aM b s h).toNat (sD b s h)⟩:=by
    grind[sD,qJ]
   rw[ae,h1,bd_s];cases hd:(b.Entries.getD (aM b s h).toNat default).Deleted with
   |false=>rfl
   |true=>rw[bd_s,aq,ac];rw[kJ h0 (by rw[aw];exact h2),bd_s,gR,bd_s,nx_r,et,i,j,<-hv,<-a,aB c,bd_s];cases aO (qJ b (sD b s h))<;>rfl
  |false=>
   have hv:sD b s h=⟨s,h,1,false⟩:=by grind[sD,bOy]
   have a:qJ b (sD b s h)=⟨b.Entries.takeWhile (λe=>nD e s h)++[sD b s h]++b.Entries.dropWhile (λe=>nD e s h)⟩:=by
    grind[sD,qJ]
   have hl:=bKo (p:=λe=>nD e s h) (l:=b.Entries);obtain⟨k,m⟩:=cCy (p:=λe=>nD e s h) (l:=b.Entries);rw[<-hv,ac,bUc b (sD b s h) hq (by grind[dF,aN,bd_s,aK]) (by simp)];rw[show(sD b s h).Site=s from rfl,show(sD b s h).Handle=h from rfl,bd_s,aR4];rw[aB (by grind[jX]),aB (by grind[jX]),aB (by grind[aW]),aB (by grind[aW]),aB (by grind[aW]),nx_r,bz,<-k,<-m,<-a,aB c,bd_s];cases aO (qJ b (sD b s h))<;>rfl
def F4.of' {w:AA}(h:w.sz<=34359738368):F4 w:=by
 grind[F4,AA.sz]
def aBc (b:AB)(s h:Int)(a:b.sz<=34359738360):Co b s h=some (aE2 b s h):=by
 grind[aO,aM,decide_eq_true,aSh,decide_eq_false,bd_s,default,aTx,aB,Co,aE2]
def bUd {l l':List AG}{i:Nat}{e e':AG}(he:e'.Site=e.Site/\e'.Handle=e.Handle)(hp:(l'.getD (i-1) default).Site=(l.getD (i-1) default).Site/\(l'.getD (i-1) default).Handle=(l.getD (i-1) default).Handle)(h:Vb l i e=false):Vb l' i e'= !bR e'.Version 1 1000000:=by unfold Vb at h ⊢;rw[bl,bl,bl] at h;obtain⟨h1,h2,b,a⟩:=h;rw[he.1,he.2,h1,h2,aTt he,Be hp,a];simp
def cA3 {b:AB}{j:Nat}{x:AG}(c:j<b.Entries.length)(d:x.Site=b.Entries[j].Site/\x.Handle=b.Entries[j].Handle)(h:aO b=true):aO ⟨b.Entries.set j x⟩=bR x.Version 1 1000000:=by
 unfold aO at h ⊢;rw[ab,bq] at h;obtain⟨h1,h2⟩:=h;rw[aw,h1,cw];have hg:∀i,((b.Entries.set j x).getD i default).Site=(b.Entries.getD i default).Site/\((b.Entries.set j x).getD i default).Handle=(b.Entries.getD i default).Handle:=(by grind[List.getD,List.getElem?_set_self,List.getElem?_eq_getElem,List.getElem?_set_ne]);have h2:=aAh.1 h2;have hb:∀(i:Nat) (hi:i<(b.Entries.set j x).length),Vb (b.Entries.set j x) i (b.Entries.set j x)[i]= !bR (b.Entries.set j x)[i].Version 1 1000000:=λi hi=>by
  have a:i<b.Entries.length:=by simp_all
  have g:=hg i;simp only[List.getD,aa hi,aa a,cr] at g;exact bUd g (hg (i-1)) (h2 i a)
 have hv:∀(i:Nat) (hi:i<b.Entries.length),bR b.Entries[i].Version 1 1000000=true:=(by grind[Vb,Bool.or_eq_false_iff])
 grind[bR,Bool.not_eq_true',aAh,List.getElem_set_self,List.getElem_set_ne,Bool.not_eq_false',xS]
def bKp {b:AB}(h:aO b=true){i:Nat}(hi:i<b.Entries.length):bR b.Entries[i].Version 1 1000000=true:=by
 grind[Bool.or_eq_false_iff,Vb,aAh,Bool.not_eq_true',aO]
def aBd (b:AB)(s h:Int)(d:b.sz<=34359738360):Dy b s h=some (aE2 b s h):=by
 have hq:=d;simp only[AB.sz] at hq;unfold Dy aE2;simp only[aB (show b.sz<=34359738368 by omega),bd_s];cases hb:aO b with
 |false=>rfl
 |true=>
  by_cases e:aM b s h<0
  ·simp[*]
  ·have a:decide (aM b s h>=0)=true:=ax (by omega);obtain⟨h1,h2,f,i⟩:=aSh a;have c:qJ b (aTx b s h)=⟨b.Entries.set (aM b s h).toNat (aTx b s h)⟩:=by
    grind[aTx,qJ]
   have hg:b.Entries.getD (aM b s h).toNat default=b.Entries[(aM b s h).toNat]:=by simp[*]
   have j:=cA3 (x:=aTx b s h) h2 ⟨by rw[<-hg,f];rfl,by rw[<-hg,i];rfl⟩ hb;have hv:=bKp hb h2;rw[au e,h1]
   grind[aM,default,aTx,kJ,List.length_set,List.getElem_set_self,bd_s,List.set_set,qJ,bEf,AB.sz,aB,gQ,aK,bR,decide_eq_true]
def I6 (d:AD)(n:ByteArray)(h:Int)(rm:Bool)(a:d.sz<=34359738360/\n.size<=34359738300):zK d n h rm=some (dJ d n h rm):=by
 obtain⟨h1,h2⟩:=a;have hb:d.aAC.sz<=34359738360:=by grind[AD.sz,AB.sz]
 unfold zK dJ Au;simp only[aB (show d.sz<=34359738368 by omega),aB h2,aB hb,bd_s];cases rm with
 |true=>simp only[ae,bd_s];cases(aE2 d.aAC (bD n) h).2<;>rfl
 |false=>simp only[ac,bd_s];cases(aE1 d.aAC (bD n) h).2<;>rfl
def I7 (d:AD)(n:ByteArray)(h:Int)(rm:Bool)(a:d.sz<=34359738360/\n.size<=34359738300):zW d n h rm=some (dJ d n h rm):=by
 obtain⟨h1,h2⟩:=a;have hb:d.aAC.sz<=34359738360:=by grind[AD.sz,AB.sz]
 unfold zW dJ Au;simp only[aB (show d.sz<=34359738368 by omega),aB h2,aB hb,bd_s];cases rm<;>simp
theorem bCl {w:AA}{d:Int}(h:aL w d=true):0<=d/\d.toNat<w.Devices.length/\(aH w d).sz<=w.sz/\aH w d=w.Devices.getD d.toNat default:=by
 simp only[aL,ab,cm] at h;have hi:d.toNat<w.Devices.length:=by omega
 have:=xI (f:=AD.sz) hi;refine⟨h.1,hi,?_,rfl⟩;show(w.Devices.getD d.toNat default).sz<=_
 grind[AA.sz]
def aF6 (w:AA)(d:Int)(n:ByteArray)(h:Int)(rm:Bool)(a:w.sz<=34359738300/\n.size<=34359738300):Hw w d n h rm=some (sW w d n h rm):=by
 obtain⟨h1,h2⟩:=a;unfold Hw sW;rw[aB (by omega),bd_s,aB (by omega),bd_s,sU,bd_s,<-Bool.not_and]
 grind[aP,aL,k1,k2,k3,k4,bCl,Bool.not_true,qI,bd_s,aB,dJ,aH]
def aVt (l:List AF)(h:l.length<=34359738368):Vx l=some (aD l):=by unfold Vx;rw[gH (l:=l) (λn e=>bif e.Kind==2 then IntKind.i64.wrap (n+1) else n) (λ_ _=>True) (λs=>some s) (by omega) trivial (by simp) (by grind[dF,aN,bd_s]) (by simp)];rfl
def aVu (l:List AF)(h:l.length<=34359738368):Xb l=some (aD l):=by unfold Xb;rw[gH (l:=l) (λn e=>bif e.Kind==2 then IntKind.i64.wrap (n+1) else n) (λ_ _=>True) (λs=>some s) (by omega) trivial (by simp) (by grind[dF,aN,bd_s]) (by simp)];rfl
def aY3 (p e:Int):aYs p e=some (iN p e):=by rfl
def aY4 (p e:Int):aYp p e=some (iN p e):=by rfl
def aY5 (k:Int)(b:AN)(h:b.Data.length<=34359738200):V3 k b=some (Uw k b):=by
 grind[aB,bd_s,aW,Jh,V3,Uw]
def aY6 (k:Int)(b:AN)(h:b.Data.length<=34359738200):X7 k b=some (Uw k b):=by
 grind[rF,aB,bd_s,Jh,X7,Uw]
def aLt {α β:Type}{y:Nat->α->β}:∀{l:List α} {j i:Nat} (hi:i<l.length),Rx (λi x=>[y i x]) j (l.take (i+1))=Rx (λi x=>[y i x]) j (l.take i)++[y (j+i) l[i]]
 |x::xs,j,0,_=>by simp[Rx]
 |x::xs,j,i+1,hi=>by
  have:=aLt (y:=y) (l:=xs) (j:=j+1) (i:=i) (by simpa using hi);simp only[ig,Rx,e9,this,cM,bz];rw[show j+1+i=j+(i+1) by omega]
def bNb {k:Int}{b:List Int}(hl:b.length<=34359738368){F:(List Int×Nat->Option (List Int))->List Int×Nat->Option (List Int)}
  (a:∀rec i s (hi:i<b.length),s.length<=34359738368->F rec (s,i)=rec (s++[bDq k i b[i]],i+1)) (c:∀rec s,F rec (s,b.length)=some s):bU FUEL F ([],0)=some (Uv k b):=by
 refine Ut (λi s=>i<=b.length/\s=(Rx (λi z=>[bDq k i z]) 0 (b.take i),i)) b.length _ (by omega) ⟨by omega,by simp[Rx]⟩ (λi s rec hi hv=> ?_) (λs rec hv=> ?_)
 ·obtain⟨_,rfl⟩:=hv;refine .inl ⟨_,⟨hi,rfl⟩,?_⟩;rw[a rec i _ hi (by rw[uC,cu];omega),aLt hi,ct]
 ·obtain⟨_,rfl⟩:=hv;rw[c,di];rfl
def aVv (k:Int)(b:List Int)(h:b.length<=34359738368):Ws k b=some (Uv k b):=by unfold Ws;rw[bNb (k:=k) h (by grind[bSm,dF,aN,bd_s,aB,gd_T,gK]) (by simp)];rfl
def aVw (k:Int)(b:List Int)(h:b.length<=34359738368):Xc k b=some (Uv k b):=by unfold Xc;rw[bNb (k:=k) h (by grind[bSl,dF,aN,bd_s,aB,gK]) (by simp)];rfl
def aVx (p:Int)(b:AN):Wt p b=some (gT p b):=by
 grind[decide,decide_eq_true,bL,dW,aB,bd_s,decide_eq_false,Uw,iN,Wt,gT]
def aF7 {bs:List AN}{p:Int}(hl:bs.length<=34359738368){F:(Nat->Option ((List Int×Bool)⊕PUnit))->Nat->Option ((List Int×Bool)⊕PUnit)}
  (a:∀rec i (hi:i<bs.length),F rec i=bif (gT p bs[i]).2 then some (.inl ((gT p bs[i]).1,true)) else rec (i+1)) (b:∀rec,F rec bs.length=some (.inr ())):nx (bU FUEL F 0) (λ_=>some (([]:List Int),false))=some (iJ bs p):=by
 have go:∀(k i n:Nat),i+k=bs.length->k<n->nx (bU n F i) (λ_=>some (([]:List Int),false))=some (iJ (bs.drop i) p):=by
  intro k;induction k with
  |zero=>
   intro i n hk hn;obtain⟨n,rfl⟩:∃m,n=m+1:=⟨n-1,by omega⟩;have:i=bs.length:=by omega
   subst this;rw[jE,b,dk];rfl
  |succ k c=>
   intro i n hk hn;obtain⟨n,rfl⟩:∃m,n=m+1:=⟨n-1,by omega⟩;have hi:i<bs.length:=by omega
   rw[jE,a _ i hi,cy hi,iJ];cases(gT p bs[i]).2 with
   |true=>rfl
   |false=>grind
 exact go bs.length 0 FUEL (by omega) (by grind[gX])
def aVy (bs:List AN)(p:Int)(h:bs.length<=34359738368):Wu bs p=some (iJ bs p):=by unfold Wu;exact aF7 h (by grind[dF,aN,bd_s]) (by simp)
def aVz (p:Int)(b:AN):Xd p b=some (gT p b):=by
 grind[decide,decide_eq_true,bL,dW,aB,bd_s,decide_eq_false,Uw,iN,Xd,gT]
def aV0 (bs:List AN)(p:Int)(h:bs.length<=34359738368):Xe bs p=some (iJ bs p):=by unfold Xe;exact aF7 h (by grind[dF,aN,bd_s]) (by simp)
theorem aV1 {c:AO}{b:Int}(a:c.sz<=34359738368)(h0:0<=b/\b<(c.History.length:Int)):bC c.History (IntKind.i64.wrap (IntKind.i64.wrap ((c.History.length:Int)-1)-b))=some (c.History.getD (c.History.length-1-b.toNat) default)/\(c.History.getD (c.History.length-1-b.toNat) default).sz<=34359738368:=by simp only[AO.sz] at a;have h1:=xI (f:=AJ.sz) (l:=c.History) (i:=c.History.length-1-b.toNat) (by omega);refine⟨?_,by omega⟩;rw[aK (n:=(c.History.length:Int)-1) (by omega) (by omega),aK (by omega) (by omega),uF (by omega) (by omega)];congr 2;omega
def aBe (c:AO)(b:Int)(a:c.sz<=34359738368):Cr c b=some (gB c b):=by
 grind[decide,aV1,Ve,bd_s,aB,bWf,AO.sz,Cr,gB]
def aBf (c:AO)(b:Int)(a:c.sz<=34359738368):Dq c b=some (gB c b):=by
 grind[decide,aV1,Ve,bd_s,aB,sU,Dq,gB]
def bH1 {a b:List AF}(d:a.length<=34359738368){F:(Nat->Option (Bool⊕PUnit))->Nat->Option (Bool⊕PUnit)}
  (f:∀rec i (hi:i<b.length) (j:i<a.length),F rec i=bif !bO0 a[i] b[i] then some (.inl false) else rec (i+1)) (c:∀rec,F rec b.length=some (.inr ())):
  (bif decide ((a.length:Int)<(b.length:Int)) then some false else nx (bU FUEL F 0) λ_=>some true)=some (cZ a b):=by
 unfold cZ;by_cases h:b.length<=a.length
 ·rw[au (show ¬(a.length:Int)<(b.length:Int) by omega),ac,ax h,cw,
   kI (l:=b) (λi e=> !bO0 (a.getD i default) e) (.inl false) (.inr ()) (by omega) (by grind[List.getD,List.getElem?_eq_getElem]) c]
  cases gJ (λi e=> !bO0 (a.getD i default) e) 0 b<;>rfl
 grind
def aF8 (a b:List AF)(h:a.length<=34359738368):Gi a b=some (cZ a b):=by unfold Gi;exact bH1 h (λrec i hi c=>by simp only[dF hi,ae,aN hi,aN c,bd_s];rfl) (by simp)
def aF9 (a b:List AF)(h:a.length<=34359738368):He a b=some (cZ a b):=by unfold He;exact bH1 h (λrec i hi c=>by simp only[dF hi,ae,aN hi,aN c,bd_s];rfl) (by simp)
def aLu (k:Int)(b:AJ)(h:b.Data.length<=34359738200):Lb k b=some (jL k b):=by
 grind[aB,bd_s,aW,Jh,Lb,jL]
def aLv (k:Int)(b:AJ)(h:b.Data.length<=34359738200):Ma k b=some (jL k b):=by
 grind[rF,aB,bd_s,Jh,Ma,jL]
def aQe (k e v:Int):Qt k e v=some (bL k&&(bR e 0 1000000&&bR v 0 1000000)):=by unfold Qt;cases bL k<;>cases bR e 0 1000000<;>rfl
def aY7 (k e v:Int):aYq k e v=some (mQ k e v):=by rfl
def Ee (b:List Int)(hb:aZ b)(p:Nat)(hp:p<=34359738368){F:(Int×Int×Nat->Option ((Int×Int×Bool)⊕PUnit))->Int×Int×Nat->Option ((Int×Int×Bool)⊕PUnit)}
  (j:∀rec (n q:Int) (i:Nat),F rec (n,q,i)=bif decide ((i:Int)<6) then(bif decide (IntKind.i64.wrap ((p:Int)+(i:Int))>=(b.length:Int)) then some (.inl (0,0,false)) else bd (bC b (IntKind.i64.wrap ((p:Int)+(i:Int)))) λz=>gd ((128:Int)≠0) (bif decide (IntKind.i64.wrap z<128) then(bd (bif decide ((i:Int)>0) then(bif IntKind.i64.wrap z==0 then some true else some (decide (IntKind.i64.wrap (n+IntKind.i64.wrap ((IntKind.i64.wrap z).tmod 128*q))>1000000000000))) else some (decide (IntKind.i64.wrap (n+IntKind.i64.wrap ((IntKind.i64.wrap z).tmod 128*q))>1000000000000))) λc=>bif c then some (.inl (0,0,false)) else some (.inl (IntKind.i64.wrap (n+IntKind.i64.wrap ((IntKind.i64.wrap z).tmod 128*q)),IntKind.i64.wrap (IntKind.i64.wrap ((p:Int)+(i:Int))+1),true))) else rec (IntKind.i64.wrap (n+IntKind.i64.wrap ((IntKind.i64.wrap z).tmod 128*q)),IntKind.i64.wrap (q*128),i+1))) else some (.inr ())):
  ∀(k i:Nat) (n:Int) (f:Nat),i+k=6->k<f->0<=n->n<128^i->nx (bU f F (n,(128:Int)^i,i)) (λ_=>some ((0:Int),(0:Int),false))=some (uvG b p k i n)
 |0,i,n,f+1,hk,w,h0,h1=>by
  rw[jE,j,show decide ((i:Int)<6)=false from au (by omega)];rfl
 |k+1,i,n,f+1,hk,w,h0,h1=>by
  have l:=bDr (i:=i) (by omega);rw[jE,j,show decide ((i:Int)<6)=true from ax (by omega),ae];rw[show IntKind.i64.wrap ((p:Int)+(i:Int))=((p+i:Nat):Int) by rw[aK (by omega) (by omega)];omega];unfold uvG;by_cases a:p+i<b.length
  ·have m:=xQ hb a;have hg:b.getD (p+i) 0=b[p+i]:=by simp[List.getD,aa a]
   rw[cU a,hg,aN a];generalize b[p+i]=z at m;rw[show decide (((p+i:Nat):Int)>=(b.length:Int))=false from au (by omega)];have hs:=bDs (z:=z) (n:=n) (i:=i) (by omega) m.1 h0 h1;have o:IntKind.i64.wrap z=z:=aK (by omega) (by omega);have r:z.tmod 128=z%128:=cg m.1;have s:IntKind.i64.wrap (z%128*128^i)=z%128*128^i:=aK (by omega) (by omega);have x:=bDr (i:=i+1) (by omega);have t:IntKind.i64.wrap (n+z%128*128^i)=n+z%128*128^i:=aK (by omega) (by omega);have u:IntKind.i64.wrap (((p+i:Nat):Int)+1)=((p+i+1:Nat):Int):=by rw[aK (by omega) (by omega)];omega
   have v:IntKind.i64.wrap ((128:Int)^i*128)=128^(i+1):=by rw[<-fp,aK (by omega) (by omega)]
   have h:((128:Int)≠0)=True:=by simp
   simp only[ac,bd_s,o,r,s,t,u,v,h,gd_T];by_cases d:z<128
   ·simp only[d,decide_true,ae];have e:(decide ((i:Int)>0))=decide (0<i):=dq.2 (by omega);rw[e];cases decide (0<i)<;>cases(z==0)<;>cases decide (n+z%128*128^i>1000000000000)<;>rfl
   ·simp only[d,decide_false,ac];exact Ee b hb p hp j k (i+1) _ f (by omega) (by omega) hs.1 hs.2.1
  ·rw[dh a,show decide (((p+i:Nat):Int)>=(b.length:Int))=true from ax (by omega)];rfl
def aBg (b:List Int)(a:Int)(hb:aZ b):Dt b a=some (Ew b a):=by
 unfold Dt Ew;have c:=gX;have hlen:=hb.1;rw[sU,bd_s];by_cases h0:a<0
 ·simp[h0]
 ·rw[dh h0,au h0,cN];by_cases h1:a>=b.length
  ·grind[uvG,decide_eq_true]
  ·rw[au h1,ac];obtain⟨p,rfl⟩:=dT (show 0<=a by omega);exact Ee b hb p (by omega) (λrec n q i=>rfl) 6 0 0 FUEL rfl (by omega) (by omega) (by decide)
theorem Py (b:List Int)(c:Int)(hc:c<=100){F:(Int×List Int×Nat->Option ((List Int×Int×Bool)⊕(Int×List Int)))->Int×List Int×Nat->Option ((List Int×Int×Bool)⊕(Int×List Int))}
  (d:∀rec (a:Int) (s:List Int) (i:Nat),s.length<=34359738368->F rec (a,s,i)=bif decide ((i:Int)<c) then(bif !(Ew b a).2.2 then some (.inl ([],0,false)) else rec ((Ew b a).2.1,s++[(Ew b a).1],i+1)) else some (.inr (a,s))):
  ∀(k i:Nat) (a:Int) (s:List Int) (f:Nat),((i+k:Nat):Int)=c->k<f->s.length<=i->nx (bU f F (a,s,i)) (λz=>some (z.2,z.1,true))=some (lS b k a s)
 |0,i,a,s,f+1,hk,e,hs=>by
  rw[jE,d _ _ _ _ (by omega),show decide ((i:Int)<c)=false from au (by omega)];rfl
 |k+1,i,a,s,f+1,hk,e,hs=>by
  rw[jE,d _ _ _ _ (by omega),show decide ((i:Int)<c)=true from ax (by omega),ae];unfold lS;cases(Ew b a).2.2 with
  |false=>rfl
  |true=>simp only[aq,ac,ae];exact Py b c hc d k (i+1) _ _ f (by omega) (by omega) (by simp;omega)
def aGa (b:List Int)(a c:Int)(hb:aZ b):Hf b a c=some (jZ b a c):=by
 grind[decide_false,bd_s,decide_true,Bool.not_true,Bool.or_self,Py,aB,gK,FUEL,gX,Hf,jZ,bR]
def aGb (b:List Int)(a c:Int)(hb:aZ b):Gm b a c=some (jZ b a c):=by
 grind[bR,gQ,Bool.not_true,bd_s,Bool.or_self,Py,aB,gK,FUEL,gX,Gm,jZ]
theorem Ef (b:List Int)(hb:aZ b)(a:Int)(q:0<=a){F:(Int×Nat->Option ((Int×Int×Bool)⊕PUnit))->Int×Nat->Option ((Int×Int×Bool)⊕PUnit)}
  (l:∀rec (n:Int) (i:Nat),F rec (n,i)=bif decide ((i:Int)<6) then(bd (bif decide (a<0) then some true else some (decide (a>=IntKind.i64.wrap ((b.length:Int)-(i:Int))))) λc=>bif c then some (.inl (0,0,false)) else bd (bC b (IntKind.i64.wrap (a+(i:Int)))) λz=>gd ((0:Int)<=IntKind.i64.wrap (7*(i:Int))) (bif decide (IntKind.i64.wrap z<128) then(bd (bif IntKind.i64.wrap z==0 then(bif decide ((i:Int)>0) then some true else some (decide (orI .i64 n (aEb .i64 (qV .i64 (IntKind.i64.wrap z) 127) (IntKind.i64.wrap (7*(i:Int))))>1000000000000))) else some (decide (orI .i64 n (aEb .i64 (qV .i64 (IntKind.i64.wrap z) 127) (IntKind.i64.wrap (7*(i:Int))))>1000000000000))) λc=>bif c then some (.inl (0,0,false)) else some (.inl (orI .i64 n (aEb .i64 (qV .i64 (IntKind.i64.wrap z) 127) (IntKind.i64.wrap (7*(i:Int)))),IntKind.i64.wrap (IntKind.i64.wrap (a+(i:Int))+1),true))) else rec (orI .i64 n (aEb .i64 (qV .i64 (IntKind.i64.wrap z) 127) (IntKind.i64.wrap (7*(i:Int)))),i+1))) else some (.inr ())):
  ∀(k i:Nat) (n:Int) (f:Nat),i+k=6->k<f->0<=n->n<128^i->nx (bU f F (n,i)) (λ_=>some ((0:Int),(0:Int),false))=some (uvG b a.toNat k i n)
 |0,i,n,f+1,hk,r,h0,h1=>by
  rw[jE,l,show decide ((i:Int)<6)=false from au (by omega)];rfl
 |k+1,i,n,f+1,hk,r,h0,h1=>by
  have hlen:=hb.1;rw[jE,l,show decide ((i:Int)<6)=true from ax (by omega),ae,sU,bd_s];rw[show IntKind.i64.wrap ((b.length:Int)-(i:Int))=(b.length:Int)-(i:Int) from aK (by omega) (by omega),show decide (a<0)=false from au (by omega),cN];unfold uvG;by_cases d:a.toNat+i<b.length
  ·have j:=xQ hb d;have hg:b.getD (a.toNat+i) 0=b[a.toNat+i]:=by simp[List.getD,aa d]
   have m:IntKind.i64.wrap (a+(i:Int))=((a.toNat+i:Nat):Int):=by rw[aK (by omega) (by omega)];omega
   rw[cU d,hg,m,aN d];generalize b[a.toNat+i]=z at j;rw[show decide (a>=(b.length:Int)-(i:Int))=false from au (by omega)];have hs:=bDs (z:=z) (n:=n) (i:=i) (by omega) j.1 h0 h1;have o:IntKind.i64.wrap z=z:=aK (by omega) (by omega);have ho:=bWd (z:=z) (n:=n) (i:=i) (by omega) j.1 j.2 h0 h1;have p:IntKind.i64.wrap (((a.toNat+i:Nat):Int)+1)=((a.toNat+i+1:Nat):Int):=by rw[aK (by omega) (by omega)];omega
   have s:0<=IntKind.i64.wrap ((7:Int)*(i:Int)):=by rw[aK (by omega) (by omega)];omega
   simp only[ac,bd_s,o,ho,p];rw[aB s];by_cases h:z<128
   ·simp only[h,decide_true,ae];have e:(decide ((i:Int)>0))=decide (0<i):=dq.2 (by omega);rw[e];cases decide (0<i)<;>cases(z==0)<;>cases decide (n+z%128*128^i>1000000000000)<;>rfl
   ·simp only[h,decide_false,ac];exact Ef b hb a q l k (i+1) _ f (by omega) (by omega) hs.1 hs.2.1
  ·rw[dh d,show decide (a>=(b.length:Int)-(i:Int))=true from ax (by omega)];rfl
def aBh (b:List Int)(a:Int)(hb:aZ b):Cs b a=some (Ew b a):=by
 unfold Cs Ew;have d:=gX;by_cases h0:a<0
 ·rw[cU h0];obtain⟨f,c⟩:∃f,FUEL=f+1:=⟨FUEL-1,by omega⟩;simp_all[nx,jE]
 grind[Ef,FUEL]
def Sj (s:AK)(e:AM)(a:e.sz<=34359738368):vK s e=some (dM s e):=by
 simp only[AM.sz] at a;unfold vK dM
 grind[decode_len,jZ,Pd,bC,bd_s,Bool.not_true,bL,iJ,jH,aB,aAd]
def Sk (s:AK)(e:AM)(a:e.sz<=34359738368):vR s e=some (dM s e):=by
 simp only[AM.sz] at a;unfold vR dM;rw[aB (by simp),bd_s,aB (by omega),bd_s,aB (aAd _ _),show aU s.Seed [181]=jH s from rfl]
 grind[decode_len,jZ,Pd,bC,bd_s,Bool.not_true,bL,iJ,jH]
theorem bNc {F:(Int×List Int->Option (Int×List Int))->Int×List Int->Option (Int×List Int)}{n:Int}{b:List Int}(hk:0<=n/\n<=1000000000000)(hb:b.length<=34359738300)
  (a:∀rec (n:Int) (s:List Int),0<=n->n<9223372036854775807->s.length<=34359738368->F rec (n,s)=bif decide (n>127) then rec (n/128,s++[n%128+128]) else some (n,s)):
  (bd (EV.bU FUEL F (n,b)) λz=>gd (aW z.2 [IntKind.u8.wrap z.1]) (some (z.2++[IntKind.u8.wrap z.1])))=some (b++uvE 5 n):=by
 have f:(128:Int)^(5+1)=4398046511104:=by decide
 obtain⟨m,q,c,d,e,h⟩:=bGn a 5 n b FUEL (by grind[gX]) hk.1 (by omega) (by omega) (by omega);have hq:q.length<=34359738368:=by
  grind[List.length_append,List.length_singleton,bDv,List.length]
 rw[c,bd_s];simp only[aTy e (by omega)];rw[gK (s:=q) hq,d]
def Xm (b:List Int)(n:Int)(h:b.length<=34359738300):xZ b n=some (uG b n):=by
 unfold xZ uG enc1;rw[uE (by omega)];cases hr:bR n 0 1000000000000 with
 |false=>simp
 |true=>rw[aq,ac,ae,bz];exact bNc (gQ hr) h (by grind[decide,gd,aW,orI,qV,Jc,bWj,cAn,Int.emod_nonneg,Int.emod_lt_of_pos,cCk,aTy,gK,aB])
def aLw:∀(l s:List Int),l.foldl uG s=s++jM l
 |[],s=>by simp[jM]
 |x::l,s=>by rw[de,aLw l,wK,uG,ck]
def aGc (l:List Int)(h:l.length<=5000000000):Gf l=some (jM l):=by unfold Gf;rw[gH (l:=l) uG (λi s=>s.length<=6*i) (λs=>some s) (by omega) (by simp) (by grind[aE3,uG,List.length_append]) (by grind[dF,aN,bd_s,aB]) (by simp),aLw];rfl
def aBi:∀(l:List AG) (s:List Int),l.foldl (λs e=>s++aYl e) s=s++kX l
 |[],s=>by simp[kX]
 |x::l,s=>by rw[de,aBi l];simp[kX]
def I8 (b:AB)(h:b.sz<=34359738368):zL b=some (oU b):=by
 unfold zL oU;rw[aB h,bd_s];cases hb:aO b with
 |false=>rfl
 |true=>
  have hl:=nK hb;have hv:(vH b).length=1+4*b.Entries.length:=by grind[vH,wL]
  rw[aq,ac,ae,gH (l:=b.Entries) (λs e=>s++aYl e) (λi s=>s.length<=1+4*i) (λs=>some s) (by omega) (by simp) (by grind[aYl,List.length_append,List.length_cons,List.length_nil]) (λrec i s hi hv=>by
   have e:∀x y z w:Int,gd (aW s [x,y,z,w]) (some (s++[x,y,z,w]))=some (s++[x,y,z,w]):=(by grind[aB,aW,List.length_cons,List.length_nil]);simp only[dF hi,ae,aN hi,bd_s,Pf,e];rfl) (by simp),aBi,bd_s]
  grind[aB,kX,vH,bd_s]
def aGd (a b:List Int)(h:aZ a/\aZ b):Gn a b=some (a==b):=by obtain⟨c,hb⟩:=h;have h1:=c.1;have h2:=hb.1;unfold Gn;rw[aB (by omega),aB (by omega),aR5,aR5,ByteArray.toList_eq,ByteArray.toList_eq,bBu,bBu];congr 1;rw[fN,cW,cW];exact⟨λh=>bytes_inj (Vg c) (Vg hb) h,λh=>by rw[h]⟩
def cCz {v:List Int}{i:Nat}(h:4*i+3<v.length):v.drop (4*i)=v[4*i]::v[4*i+1]::v[4*i+2]::v[4*i+3]::v.drop (4*(i+1)):=by
 grind[List.drop_eq_getElem_cons]
def bH2 {v:List Int}{k:Nat}(hv:v.length=4*k)(hk:k<=20){τ:Type}{x:τ}{F:(Nat×List AG->Option (τ⊕List AG))->Nat×List AG->Option (τ⊕List AG)}
  (a:∀rec i s (hi:i<k) (h:4*i+3<v.length),s.length<=100->F rec (i,s)=bif decide (v[4*i+3]>1) then some (.inl x) else rec (i+1,s++[⟨v[4*i],v[4*i+1],v[4*i+2],v[4*i+3]==1⟩])) (b:∀rec s,F rec (k,s)=some (.inr s)):
  ∀(m i n:Nat) (s:List AG),i+m=k->m<n->s.length<=i->EV.bU n F (i,s)=some (bif nJ (v.drop (4*i)) then .inr (s++nX (v.drop (4*i))) else .inl x)
 |0,i,n+1,s,h,_,_=>by
  have:i=k:=by omega
  subst this;rw[jE,b,gf (by omega)];simp[nJ,nX]
 |m+1,i,n+1,s,h,hn,hs=>by
  have c:4*i+3<v.length:=by omega
  rw[jE,a _ i s (by omega) c (by omega),cCz c];simp only[nJ,nX];by_cases hg:v[4*i+3]>1
  ·rw[ax hg,au (show ¬v[4*i+3]<=1 by omega)];rfl
  ·rw[au hg,ax (show v[4*i+3]<=1 by omega),ac,cw,bH2 hv hk a b m (i+1) n _ (by omega) (by omega) (by simp;omega)];simp
def bH3 {a:List Int}(hb:aZ a)(hc:(!(Ew a 0).2.2||decide ((Ew a 0).1>20))=false):∃(n:Int) (q:Nat),Ew a 0=(n,(q:Int),true)/\0<=n/\n<=20/\q<=a.length:=by
 simp only[bl,cG,cz] at hc;cases b:Ew a 0 with
 |mk n r=>
  obtain⟨e,ok⟩:=r;rw[b] at hc;obtain⟨rfl,hc2⟩:=hc;obtain⟨q,⟨_,c,d,f,h⟩,_⟩:=bDw hb b
  grind
def bH4 {a:List Int}{e c:Int}(h0:0<=c)(h1:c<=100)(h2:0<=e)(b:e<=a.length):jZ a e c=lS a c.toNat e []:=by
 grind[decide_eq_true,jZ,bR]
theorem bEg {v:List Int}{i j:Nat}{q:Int}(hq:q=(j:Int))(h:i+j<v.length):bC (v.drop i) q=some v[i+j]:=by subst hq;rw[aN (by grind),List.getElem_drop]
def I9 (a:List Int)(hb:aZ a):zS a=some (Fv a):=by
 unfold zS Fv;rw[aB hb,bd_s,sU,bd_s];cases hc:(!(Ew a 0).2.2||decide ((Ew a 0).1>20)) with
 |true=>rfl
 |false=>
  obtain⟨n,q,b,h0,h1,h2⟩:=bH3 hb hc;rw[b,ac,ac];dsimp only;rw[aK (n:=4*n) (by omega) (by omega),aB hb,bd_s,bH4 (by omega) (by omega) (by omega) (by omega)];cases hd:lS a (4*n).toNat (q:Int) [] with
  |mk v r=>
   obtain⟨e,ok⟩:=r;dsimp only;rw[sU,bd_s];unfold bGq;cases ok with
   |false=>rfl
   |true=>
    dsimp only;rw[aq,cN,cN];cases he:(e !=(a.length:Int)) with
    |true=>rfl
    |false=>
     obtain⟨t,q',⟨k1,k2,k3,k4,k5⟩,_⟩:=Vf hb _ _ _ _ _ (by omega) (by omega) hd;rw[bz] at k1;subst k1;have hv:v.length=4*n.toNat:=by omega
     rw[ac,cN,bH2 (x:=((AB.mk [],false):AB×Bool)) hv (by omega) (λrec i s hi c hs=>by
      have d:decide ((i:Int)<n)=true:=ax (by omega);have f:IntKind.i64.wrap (4*(i:Int))=((4*i:Nat):Int):=by grind[aK]
      have h:bC (v.drop (4*i)) 0=some (v[4*i]'(by omega)):=bEg (j:=0) rfl (by omega);have k:bC (v.drop (4*i)) 1=some (v[4*i+1]'(by omega)):=(by grind[bEg]);have l:bC (v.drop (4*i)) 2=some (v[4*i+2]'(by omega)):=(by grind[bEg]);have m:bC (v.drop (4*i)) 3=some v[4*i+3]:=bEg (j:=3) rfl c;simp only[d,f,bn,ae,aB (show jX v ((4*i:Nat):Int) from⟨by omega,by omega⟩),h,k,l,m,bd_s,gK (show s.length<=34359738368 by omega)]) (by grind) n.toNat 0 FUEL [] (by omega) (by grind[gX]) (by simp)]
     simp only[Nat.mul_zero,gb,bz];cases o:nJ v with
     |false=>rfl
     |true=>have hl:=aE5 n.toNat v hv;simp only[ae,nx_r];rw[aB (by grind[nX,AB.sz]),bd_s];cases aO ⟨nX v⟩<;>rfl
def bCm {a:List Int}(hb:aZ a){k:Nat}(hk:k<=20){τ:Type}{x:τ}{F:(Int×Nat×List AG->Option (τ⊕List AG))->Int×Nat×List AG->Option (τ⊕List AG)}
  (b:∀rec (q:Nat) i s (hi:i<k),q<=a.length->s.length<=100->F rec ((q:Int),i,s)=bif !(lS a 4 q []).2.2 then some (.inl x) else rec ((lS a 4 q []).2.1,i+1,s++nX (lS a 4 q []).1)) (c:∀rec e s,F rec (e,k,s)=some (.inr s)):
  ∀(m i n q:Nat) (s:List AG),i+m=k->m<n->q<=a.length->s.length<=i->EV.bU n F ((q:Int),i,s)=some (bif (lS a (4*m) q []).2.2 then .inr (s++nX (lS a (4*m) q []).1) else .inl x)
 |0,i,n+1,q,s,h,_,_,_=>by
  have:i=k:=by omega
  subst this;rw[jE,c];simp[lS,nX]
 |m+1,i,n+1,q,s,h,hn,hq,hs=>by
  rw[jE,b _ q i s (by omega) hq (by omega),show 4*(m+1)=4+4*m by omega,aTz 4 (4*m)];cases hd:lS a 4 (q:Int) [] with
  |mk l r=>
   obtain⟨e,ok⟩:=r;cases ok with
   |false=>rfl
   |true=>
    obtain⟨t,q',⟨k1,k2,k3,k4,k5⟩,_⟩:=Vf hb _ _ _ _ _ (by omega) (by omega) hd;rw[bz] at k1;subst k1;subst k3;have hl:(nX l).length=1:=aE5 1 l (by omega);simp only[aq,ac,ae];rw[bCm hb hk b c m (i+1) n q' _ (by omega) (by omega) k4 (by simp[hl];omega),aT0 (4*m) (q':Int) l];cases(lS a (4*m) (q':Int) []).2.2 with
    |false=>rfl
    |true=>simp[bGp 1 l _ (by omega)]
def four {l:List Int}(h:l.length=4):∃w x y z,l=[w,x,y,z]:=by
 match l,h with
 |[w,x,y,z],_=>exact⟨w,x,y,z,rfl⟩
def J2 (a:List Int)(hb:aZ a):zM a=some (Fv a):=by
 unfold zM Fv;rw[aB hb,bd_s,sU,bd_s];cases hc:(!(Ew a 0).2.2||decide ((Ew a 0).1>20)) with
 |true=>rfl
 |false=>
  obtain⟨n,q,b,h0,h1,h2⟩:=bH3 hb hc;rw[b,ac,ac];dsimp only;rw[bCm (x:=((AB.mk [],false):AB×Bool)) hb (k:=n.toNat) (by omega) (λrec q i s hi hq hs=>by
   have d:decide ((i:Int)<n)=true:=ax (by omega);simp only[d,ae,aB hb,bd_s,bH4 (a:=a) (e:=(q:Int)) (c:=4) (by omega) (by omega) (by omega) (by omega),show Int.toNat 4=4 from rfl];cases hd:lS a 4 (q:Int) [] with
   |mk l r=>
    obtain⟨e,ok⟩:=r;cases ok with
    |false=>rfl
    |true=>
     obtain⟨t,q',⟨k1,k2,_⟩,_⟩:=Vf hb _ _ _ _ _ (by omega) (by omega) hd;rw[bz] at k1;subst k1;obtain⟨w,x,y,z,rfl⟩:=four k2;simp only[aq,ac,(by assumption),(by assumption),(by assumption),(by assumption),bd_s,gK (show s.length<=34359738368 by omega)];rfl) (by grind) n.toNat 0 FUEL q [] (by omega) (by grind[gX]) h2 (by simp)]
  rw[show(4*n).toNat=4*n.toNat by omega];unfold bGq;cases hd:lS a (4*n.toNat) (q:Int) [] with
  |mk v r=>
   obtain⟨e,ok⟩:=r;cases ok with
   |false=>rfl
   |true=>
    obtain⟨b1,h,j,m⟩:=bSs hb b h1 (show lS a (4*n).toNat (q:Int) []=(v,e,true) by rw[show(4*n).toNat=4*n.toNat by omega];exact hd);have f:(AB.mk (nX v)).sz<=34359738368:=by grind[AB.sz]
    simp only[ae,nx_r,bz,aB f,bd_s,aB (show aZ (oU ⟨nX v⟩)/\aZ a from⟨aE6 _,hb⟩),sU]
    grind[aO,nX,jM,vH,nJ,absurd,Bool.not_true,Bool.not_false,oU]
def aGe (k:Int)(s:AJ)(h:s.Data.length<=34359738200):Hg k s=some (jQ k s):=by unfold Hg jQ;rw[aB h,aB (by simp)];simp only[bd_s,aB (show s.Data.length<=34359738368 by omega),aB (bDt (k:=aU k [223,s.Epoch,s.Version]) (show s.Data.length<=34359738368 by omega))];unfold mQ;cases bL k<;>cases bR s.Epoch 0 1000000<;>cases bR s.Version 0 1000000<;>cases(s.MAC !=jL k s)<;>rfl
def aGf (k:Int)(s:AJ)(h:s.Data.length<=34359738200):Gp k s=some (jQ k s):=by unfold Gp jQ;rw[aB h,aB (by omega)];simp only[bd_s,aB (bDt (k:=mQ k s.Epoch s.Version) (show s.Data.length<=34359738368 by omega))];cases bL k<;>cases bR s.Epoch 0 1000000<;>cases bR s.Version 0 1000000<;>cases(s.MAC !=jL k s)<;>rfl
def aGg (d:AD)(l:List AF)(bx:AM)(s:AJ)(h:d.sz<=34359738368/\l.length<=34359738368/\bx.sz<=34359738368/\s.Data.length<=34359738200):Hl d l bx s=some (cK d l bx s):=by
 obtain⟨h1,h2,a,b⟩:=h;have c:=iB l;have hb:d.aAC.sz<=34359738368:=by grind[AD.sz,AB.sz]
 unfold Hl cK kM;simp only[aB h1,aB h2,aB a,aB b,aB (by omega),bd_s,sU,bif_and,bif_or,Pf]
 grind[aT,cZ,iQ,aC,aS,aD,dM,bx,decide,dY,aB,bd_s,jQ,bBw]
def aGh (d:AD)(l:List AF)(bx:AM)(s:AJ)(h:d.sz<=34359738368/\l.length<=34359738368/\bx.sz<=34359738368/\s.Data.length<=34359738200):Gq d l bx s=some (cK d l bx s):=by
 obtain⟨h1,h2,a,b⟩:=h;have c:=iB l;have hb:d.aAC.sz<=34359738368:=by grind[AD.sz,AB.sz]
 unfold Gq cK kM;simp only[aB h1,aB h2,aB a,aB b,aB (by omega),bd_s,sU,bif_and,bif_or,Pf]
 grind[aT,cZ,iQ,aC,aS,aD,dM,bx,decide,dY,aB,bd_s,jQ,bBw]
theorem bCn {c:AO}(h:c.sz<=34359738100)(b:Int):c.Log.length<=34359738100/\c.Boxes.sz<=34359738100/\(gB c b).1.Data.length<=34359738100:=by
 grind[decide,aV1,Ve,xI,AJ.sz,gB,AM.sz,AO.sz]
def aV2 (d:AD)(c:AO)(b:Int)(h:d.sz<=34359738100/\c.sz<=34359738100):Wv d c b=some (cK d c.Log c.Boxes (gB c b).1):=by obtain⟨h1,h2⟩:=h;obtain⟨k1,k2,k3⟩:=bCn h2 b;unfold Wv;rw[aB (by omega),bd_s,aB (by grind),bd_s]
theorem aV3 {w:AA}{d:Int}(h:aL w d=true):0<=d/\d.toNat<w.Devices.length/\(aH w d).sz<=w.sz/\aH w d=w.Devices.getD d.toNat default:=by
 simp only[aL,ab,cm] at h;have hi:d.toNat<w.Devices.length:=by omega
 have:=xI (f:=AD.sz) hi;refine⟨h.1,hi,?_,rfl⟩;show(w.Devices.getD d.toNat default).sz<=_
 grind[AA.sz]
theorem aGi (w:AA):w.aAE.sz<=w.sz:=by grind[AA.sz,AO.sz,AM.sz]
def aV4 (w:AA)(d b:Int)(c:w.sz<=34359738100):Xf w d b=some (aR w d b):=by have a:=aGi w;unfold Xf aR;rw[aB (by omega),bd_s,aB (by omega),bd_s,sU,bd_s,<-Bool.not_and];cases hc:(aP w&&aL w d)<;>grind[aP,aL,k1,k2,k3,k4,aV3,bCn,Bool.not_true,aB,bd_s,qI]
def bNd {k:Int}{b:List Int}(hl:b.length<=34359738368){F:(List Int×Nat->Option (List Int))->List Int×Nat->Option (List Int)}
  (a:∀rec i s (hi:i<b.length),s.length<=34359738368->F rec (s,i)=rec (s++[bJp k i b[i]],i+1)) (c:∀rec s,F rec (s,b.length)=some s):EV.bU FUEL F ([],0)=some (nY k b):=by
 refine Ut (λi s=>i<=b.length/\s=(Rx (λi z=>[bJp k i z]) 0 (b.take i),i)) b.length _ (by omega) ⟨by omega,by simp[Rx]⟩ (λi s rec hi hv=> ?_) (λs rec hv=> ?_)
 ·obtain⟨_,rfl⟩:=hv;refine .inl ⟨_,⟨hi,rfl⟩,?_⟩;rw[a rec i _ hi (by rw[uC,cu];omega),aLt hi,ct]
 ·obtain⟨_,rfl⟩:=hv;rw[c,di];rfl
def aV5 (k:Int)(b:List Int)(h:aZ b):Xg k b=some (nY k b):=by unfold Xg;rw[bNd (k:=k) h.1 (by grind[bSu,xQ,dF,aN,bd_s,aB,gd_T,gK]) (by simp)];rfl
def aV6 (k:Int)(b:List Int)(h:aZ b):Vy k b=some (nY k b):=by unfold Vy;rw[bNd (k:=k) h.1 (by grind[bSv,xQ,dF,aN,bd_s,aB,gd_T,gK]) (by simp)];rfl
def Xn (b:List Int)(n:Int)(h:b.length<=34359738300):yG b n=some (uG b n):=by
 unfold yG uG enc1;have e:(decide (n<0)||decide (n>1000000000000))= !bR n 0 1000000000000:=by
  grind[bR]
 rw[aB (by omega),bd_s,sU,bd_s,e]
 grind[bR,Bool.not_true,bNc,gQ,decide,Int.tmod_eq_emod_of_nonneg,aK,aTy,Int.tdiv_eq_ediv_of_nonneg,gd_T,gK]
def aGj (l:List Int)(h:l.length<=5000000000):Hm l=some (jM l):=by unfold Hm;rw[gH (l:=l) uG (λi s=>s.length<=6*i) (λs=>some s) (by omega) (by simp) (by grind[aE3,uG,List.length_append]) (by grind[dF,aN,bd_s,aB]) (by simp),aLw];rfl
def J3 (b:AB)(h:b.sz<=34359738368):zX b=some (oU b):=by
 unfold zX oU;rw[aB h,bd_s];cases hb:aO b with
 |false=>rfl
 |true=>
  have hl:=nK hb;have hv:(vH b).length=1+4*b.Entries.length:=by grind[vH,wL]
  rw[aq,ac,ae,gH (l:=b.Entries) (λs e=>s++aYl e) (λi s=>s.length<=1+4*i) (λs=>some s) (by omega) (by simp) (by grind[aYl,List.length_append,List.length_cons,List.length_nil]) (λrec i s hi hv=>by
   have e:∀x y z w:Int,gd (aW s [x,y,z,w]) (rec (s++[x,y,z,w],i+1))=rec (s++[x,y,z,w],i+1):=(by grind[aB,aW,List.length_cons,List.length_nil]);simp only[dF hi,ae,aN hi,bd_s,Di,Pf,e];rfl) (by simp),aBi,bd_s]
  grind[aB,kX,vH,bd_s]
def bUe (k:Int)(b:AB):(nY k (oU b)).length<=34359738200:=by grind[Vh,bBx]
def aGk (k e v:Int)(b:AB)(h:b.sz<=34359738368):Hr k e v b=some (rG k e v b):=by unfold Hr rG gI mQ;simp only[aB h,bd_s,aB (show[(223:Int),e,v].length<=34359738300 by simp),aB (aE6 b),aB (bUe (aU k [223,e,v]) b)];cases bL k<;>cases bR e 0 1000000<;>cases bR v 0 1000000<;>cases aO b<;>rfl
def aGl (k e v:Int)(b:AB)(h:b.sz<=34359738368):Gl k e v b=some (rG k e v b):=by unfold Gl rG gI;simp only[aB h,bd_s,aB (aE6 b),aB (bUe (mQ k e v) b)];cases bL k<;>cases bR e 0 1000000<;>cases bR v 0 1000000<;>cases aO b<;>rfl
def aLx (a b:AJ):Mg a b=some (qX a b):=by unfold Mg qX;cases decide (a.Epoch>b.Epoch)<;>cases(a.Epoch==b.Epoch)<;>rfl
def aLy (a b:AJ):Lc a b=some (qX a b):=by unfold Lc qX;cases decide (a.Epoch>b.Epoch)<;>cases(a.Epoch==b.Epoch)<;>rfl
def bNe {d:AD}(h:d.sz<=34359738368):d.aAC.sz<=34359738368:=by grind[AD.sz,AB.sz]
def aBj (d:AD)(h:d.sz<=34359738368):Dz d=some (dV d):=by unfold Dz dV;simp only[aB h,aB (bNe h),bd_s];cases(rG d.Key d.Epoch (IntKind.i64.wrap (d.Version+1)) d.aAC).2<;>rfl
def aBk (d:AD)(h:d.sz<=34359738368):Cq d=some (dV d):=by unfold Cq dV;simp only[aB h,aB (bNe h),bd_s];cases(rG d.Key d.Epoch (IntKind.i64.wrap (d.Version+1)) d.aAC).2<;>rfl
def bCo (c:AO)(s:AJ)(h:c.sz<=34359738300/\s.sz<=34359738300):(bd (gd (c.sz<=34359738368) (some c)) λa=>bd (gd (c.Log.length<=34359738368) (some (aD c.Log))) λd=>bd (bif (s.Epoch !=d) then some true else(bif decide ((c.History.length:Int)>0) then(bd (bC c.History (IntKind.i64.wrap ((c.History.length:Int)-1))) λb=>bd (some (qX s b)) λe=>bif !e then some true else some (decide ((c.History.length:Int)>=60))) else some (decide ((c.History.length:Int)>=60)))) λf=>bif f then some (a,false) else bd (gd (s.sz<=34359738368) (some s)) λb=>gd (aW a.History [b]) (some (AO.mk a.Log a.Boxes (a.History++[b]),true)))=some (dK c s):=by
 obtain⟨h1,h2⟩:=h;have i:=h1;simp only[AO.sz] at i;unfold dK;simp only[aB (show c.sz<=34359738368 by omega),aB (show c.Log.length<=34359738368 by omega),aB (show s.sz<=34359738368 by omega),bd_s,gK (show c.History.length<=34359738368 by omega)];by_cases h0:0<c.History.length
 ·have j:bC c.History (IntKind.i64.wrap ((c.History.length:Int)-1))=some (c.History.getD (c.History.length-1) default):=by rw[aK (by omega) (by omega),uF (by omega) (by omega)];simp
  rw[ax (show(c.History.length:Int)>0 by omega),j];generalize c.History.getD (c.History.length-1) default=x;simp only[bd_s,ae,cw];cases(s.Epoch !=aD c.Log)<;>cases qX s x<;>cases decide ((c.History.length:Int)>=60)<;>rfl
 simp[*]
def J4 (c:AO)(s:AJ)(h:c.sz<=34359738300/\s.sz<=34359738300):H5 c s=some (dK c s):=bCo c s h
def J5 (c:AO)(s:AJ)(h:c.sz<=34359738300/\s.sz<=34359738300):G6 c s=some (dK c s):=bCo c s h
theorem aBJ {w:AA}{d:Int}(a:w.sz<=10000000000)(h:((aR w d 0).2==0)=true):(aL (aR w d 0).1 d=true/\(aH (aR w d 0).1 d).sz<=34359738368)/\((aR w d 0).1.aAE.sz<=34359738300/\(dV (aH (aR w d 0).1 d)).2.1.sz<=34359738300):=by
 grind[AJ.sz,AA.sz,AO.sz,Bg,aH,aR,aGi,aV3,aL,k4,k2,k1,k3,k5,qK]
def aGm (w:AA)(d:Int)(a:w.sz<=10000000000):Ht w d=some (iK w d):=by
 unfold Ht iK
 grind[aR,k1,k2,k3,aBJ,Bool.not_true,qI,bd_s,aB,upF,dV,aH,dK,bne]
abbrev WT:=Int×Int×List AD×List Bool×List AF×Int×List AN×List AJ×List AC×Int×Int×Int×Int×List AH×Int×List AX
abbrev bH5 (w:AA):WT:=(w.Now,w.Seed,w.Devices,w.Stolen,w.aAE.Log,w.aAE.Boxes.Epoch,w.aAE.Boxes.Boxes,w.aAE.History,w.Sites,w.aAK.Salt,w.aAK.Threshold,w.aAK.Check,w.aAK.Masked,w.Hosts,w.Pin,w.Mail.Notices)
def aV7 {τ:Type}{x:τ}{l:List Int}{g:AA->Int->AA×Bool}{A:List Int->AA->AA×Bool}(a:∀w,A [] w=(w,true))(b:∀i l w,A (i::l) w=bif (g w i).2 then A l (g w i).1 else(w,false))(Inv:Nat->AA->Prop)(c:∀i w (hi:i<l.length),Inv i w->(g w l[i]).2=true->Inv (i+1) (g w l[i]).1)
  {F:(Nat×WT->Option (τ⊕WT))->Nat×WT->Option (τ⊕WT)} (d:∀rec i w (hi:i<l.length),Inv i w->F rec (i,bH5 w)=bif !(g w l[i]).2 then some (.inl x) else rec (i+1,bH5 (g w l[i]).1)) (e:∀rec t,F rec (l.length,t)=some (.inr t)):
  ∀(k i n:Nat) (w:AA),i+k=l.length->k<n->Inv i w->EV.bU n F (i,bH5 w)=some (bif (A (l.drop i) w).2 then .inr (bH5 (A (l.drop i) w).1) else .inl x)
 |0,i,n+1,w,h,_,_=>by
  have:i=l.length:=by omega
  subst this;rw[jE,e,dk,a];rfl
 |k+1,i,n+1,w,h,hn,hv=>by
  have hi:i<l.length:=by omega
  rw[jE,d _ i w hi hv,cy hi,b];cases hg:(g w l[i]).2 with
  |false=>rfl
  |true=>exact aV7 a b Inv c d e k (i+1) n _ (by omega) (by omega) (c i w hi hv hg)
def bUf {w:AA}(h:aP w=true):(bB w).length<=6:=by
 have h1:(bB w).length<=w.Devices.length:=by grind[D9,bB]
 simp only[aP,ab] at h;have:=gQ h.1.1.1.1.1.1.2;omega
def cEg (i:Nat)(w:AA):Prop:=w.aAE.Log.length<=1000000000/\w.sz<=1000000000+i*1000000521
def cEh (i:Nat)(w:AA):Prop:=w.aAE.Log.length<=1000000000/\w.sz<=7000003126+i*1000000020
def aBl (w:AA)(h:w.sz<=1000000000):Ec w=some (lG w):=by
 unfold Ec lG;have e:w.sz<=34359738368:=by omega
 simp only[aB e,bd_s,aB (F4.of' e)];cases hc:aP w with
 |false=>rfl
 |true=>
  have f:=bUf hc;have j:w.aAE.Log.length<=w.sz:=by grind[AA.sz,AO.sz]
  rw[aq,ac,cw];rw[aV7 (x:=(w,false)) (l:=bB w) (g:=iK) (A:=mJ) (λ_=>rfl) (λ_ _ _=>rfl) cEg (λi u hi hv hg=>by
   obtain⟨h1,h2⟩:=x9 hg;obtain⟨a,c⟩:=hv;exact⟨by rw[h1];exact a,by simp only[cY];omega⟩) (λrec i u hi hv=>by
   show(bif decide ((i:Int)<((bB w).length:Int)) then(bd (bC (bB w) (i:Int)) λd=>bd (gd (u.sz<=10000000000) (some (iK u d))) λb=>bif !b.2 then some (Sum.inl (w,false)) else rec (i+1,bH5 b.1)) else some (Sum.inr (bH5 u)))=_;obtain⟨a,c⟩:=hv;have:i*1000000521<=6*1000000521:=(by omega);rw[dF hi,ae,aN hi,bd_s,aB (by omega),bd_s]) (by simp) (bB w).length 0 FUEL w (by omega) (by grind[gX]) ⟨by omega,by omega⟩,gb]
  obtain⟨q1,q2⟩:=aAk (bB w) w;have q3:=cX (w.aAE.Log.length+521) f;cases hp:(mJ (bB w) w).2 with
  |false=>rfl
  |true=>
   generalize(mJ (bB w) w).1=v at q1 q2 ⊢;rw[ae,nx_r,aV7 (x:=(w,false)) (l:=bB w) (g:=λu i=>((aR u i 0).1,(aR u i 0).2==0)) (A:=uH) (λ_=>rfl) (λ_ _ _=>rfl) cEh (λi u hi hv hg=>by
    obtain⟨_,h1,_,h2⟩:=qK hg;obtain⟨a,c⟩:=hv;exact⟨by show(aR u _ 0).1.aAE.Log.length<=_;rw[h1];exact a,by simp only[cY];omega⟩) (λrec i u hi hv=>by
    show(bif decide ((i:Int)<((bB w).length:Int)) then(bd (bC (bB w) (i:Int)) λd=>bd (gd (u.sz<=34359738100) (some (aR u d 0))) λb=>bif b.2 !=0 then some (Sum.inl (w,false)) else rec (i+1,bH5 b.1)) else some (Sum.inr (bH5 u)))=_;obtain⟨a,c⟩:=hv
    grind[dF,aN,bd_s,aB,Nat.mul_le_mul_right]) (by simp) (bB w).length 0 FUEL v (by omega) (by grind[gX]) ⟨by rw[q2];omega,by omega⟩,gb]
   cases(uH (bB w) v).2<;>rfl
def bP9 (w:AA):(lG w).1.sz<=13*w.sz+4000:=by
 unfold lG;cases hc:(aP w&&((mJ (bB w) w).2&&(uH (bB w) (mJ (bB w) w).1).2)) with
 |false=>simp only[ac];omega
 |true=>
  rw[ab] at hc;have a:=bUf hc.1;obtain⟨h1,h2⟩:=aAk (bB w) w;have b:=aT3 (bB w) (mJ (bB w) w).1;rw[h2] at b;have c:w.aAE.Log.length<=w.sz:=by simp only[AA.sz,AO.sz];omega
  have d:=cX (w.aAE.Log.length+521) a;have e:=cX (w.aAE.Log.length+20) a;simp only[ae];omega
def aGn (s n:Int):aFn s n=some (aQ s n):=by rfl
def aGo (s n:Int):aFs s n=some (aQ s n):=by rfl
def aLz (s:AK):aKy s=some (bH s):=rfl
def aL0 (s:AK):aK3 s=some (bH s):=rfl
def aBm (s:AK)(n:ByteArray)(k:Int)(h:n.size<=34359738300):Ck s n k=some (cO s n k):=by unfold Ck;rw[aB h,bd_s,aB (by simp)];rfl
def aBn (s:AK)(n:ByteArray)(k:Int)(h:n.size<=34359738300):Dj s n k=some (cO s n k):=by unfold Dj;rw[aB h,bd_s,aB (by simp)];rfl
def aGp (s:AK)(n:ByteArray)(k:Int)(h:n.size<=34359738300):Gh s n k=some (fF s n k):=by unfold Gh;rw[aB h];rfl
def aGq (s:AK)(n:ByteArray)(k:Int)(h:n.size<=34359738300):Hq s n k=some (fF s n k):=by unfold Hq;rw[aB h];rfl
def J6 (s:AK)(l:List Int)(h:l.length<=34359738300):zJ s l=some (lV s l):=by unfold zJ;rw[aB h];rfl
def J7 (s:AK)(l:List Int)(h:l.length<=34359738300):zU s l=some (lV s l):=by unfold zU;rw[aB (by simp),bd_s,aB h];rfl
def aGr (e:AM)(d:Int)(h:e.Boxes.length<=34359738368):Gg e d=some (nL e d):=by unfold Gg;rw[gH (l:=e.Boxes) (λn b=>bif b.To==d then IntKind.i64.wrap (n+1) else n) (λ_ _=>True) (λs=>some s) (by omega) trivial (by simp) (by grind[dF,aN,bd_s]) (by simp)];rfl
def aGs (e:AM)(d:Int)(h:e.Boxes.length<=34359738368):Ho e d=some (nL e d):=by unfold Ho;rw[gH (l:=e.Boxes) (λn b=>bif b.To==d then IntKind.i64.wrap (n+1) else n) (λ_ _=>True) (λs=>some s) (by omega) trivial (by simp) (by grind[dF,aN,bd_s]) (by simp)];rfl
def aBo (l:List AF)(k d:Int)(s:AK)(h:l.length<=34359738300):Cf l k d s=some (eG l k d s):=by
 have h1:l.length<=34359738368:=by omega
 have e:∀x:AF,gd ((l++[x]).length<=34359738368) (some (aT (l++[x])))=some (aT (l++[x])):=(by grind[aB]);have a:∀x:Int,gd ([x].length<=34359738300) (some (lV s [x]))=some (lV s [x]):=λx=>aB (by simp);unfold Cf eG Kg bGr;simp only[aB h1,bd_s,a,gK h1,e];generalize aT (l++_)=q;cases decide ((l.length:Int)>0)<;>cases aT l<;>cases q<;>rfl
def aBp (l:List AF)(k d:Int)(s:AK)(h:l.length<=34359738300):Dw l k d s=some (eG l k d s):=by
 have h1:l.length<=34359738368:=by omega
 have e:∀x:AF,gd ((l++[x]).length<=34359738368) (some (aT (l++[x])))=some (aT (l++[x])):=(by grind[aB]);have a:∀x:Int,gd ([x].length<=34359738300) (some (lV s [x]))=some (lV s [x]):=λx=>aB (by simp);unfold Dw eG Kg bGr;simp only[aB h1,bd_s,a,gK h1,e];generalize aT (l++_)=q;cases decide ((l.length:Int)>0)<;>cases aT l<;>cases q<;>rfl
def aV8 (p e:Int)(d:List Int)(h:aZ d):(bd (bif iC p==0 then some true else bif !bL e then some true else some (decide ((d.length:Int)>200))) λb=>bif b then some (AN.mk 0 0 [] 0,false) else bd (gd (aZ d) (some (nY (iN (iC p) e) d))) λa=>bd (gd (a.length<=34359738200) (some (Uw (iN (iC p) e) (AN.mk p e a 0)))) λc=>some (AN.mk p e a c,true))=some (gU p e d):=by
 grind[iC,bL,decide,Bool.or_eq_false_iff,decide_eq_false_iff_not,aB,bd_s,nY,iN,Vh,sU,gU,nZ]
def aV9 (p e:Int)(d:List Int)(h:aZ d):aU3 p e d=some (gU p e d):=aV8 p e d h
def aWa (p e:Int)(d:List Int)(h:aZ d):aU7 p e d=some (gU p e d):=aV8 p e d h
def aL1 (l:List Int)(e:Int)(d:List Int)(h:l.length<=34359738300/\aZ d):Kw l e d=some (gY e d 0 l):=by
 obtain⟨h1,h2⟩:=h;unfold Kw;rw[aKe (e:=e) (d:=d) (l:=l) (x:=(([],false):List AN×Bool)) (by grind[dF,aN,bd_s,aB,gK]) (by simp) l.length 0 FUEL [] (by omega) (by grind[gX]) (by simp),gb];cases hs:(gY e d 0 l).2 with
 |true=>rw[ae,nx_r,bz,<-hs]
 |false=>rw[ac,bGx hs];rfl
def aL2 (l:List Int)(e:Int)(d:List Int)(h:l.length<=34359738300/\aZ d):Mc l e d=some (gY e d 0 l):=by
 obtain⟨h1,h2⟩:=h;unfold Mc;rw[aKe (e:=e) (d:=d) (l:=l) (x:=(([],false):List AN×Bool)) (by grind[dF,aN,bd_s,aB,gK]) (by simp) l.length 0 FUEL [] (by omega) (by grind[gX]) (by simp),gb];cases hs:(gY e d 0 l).2 with
 |true=>rw[ae,nx_r,bz,<-hs]
 |false=>rw[ac,bGx hs];rfl
def bNf (a b:Int):aZ (jM [a,b]):=aT1 (by grind[bGt]) (aAj _)
def Sl (l:List AF)(k e:Int)(h:l.length<=34359738300):vI l k e=some (bI l k e):=by have hd:=iB l;unfold vI bI;simp only[aB (show l.length<=34359738368 by omega),bd_s,aB (show[aD l,k].length<=5000000000 by simp),aB (show(aC l).length<=34359738300/\aZ (jM [aD l,k]) from⟨by omega,bNf _ _⟩)];cases aT l<;>cases bL k<;>cases(gY e (jM [aD l,k]) 0 (aC l)).2<;>rfl
def Sm (l:List AF)(k e:Int)(h:l.length<=34359738300):vS l k e=some (bI l k e):=by have hd:=iB l;unfold vS bI;simp only[aB (show l.length<=34359738368 by omega),bd_s,aB (show[aD l,k].length<=5000000000 by simp),aB (show(aC l).length<=34359738300/\aZ (jM [aD l,k]) from⟨by omega,bNf _ _⟩)];cases aT l<;>cases bL k<;>cases(gY e (jM [aD l,k]) 0 (aC l)).2<;>rfl
def bNg (e:AM)(l:List Int):(l.all λd=>nL e d==1)= !(l.any λd=>nL e d !=1):=by
 grind
def aL3 (e:AM)(l:List AF)(h:e.Boxes.length<=34359738368/\l.length<=34359738368):Ky e l=some (iY e l):=by obtain⟨h1,h2⟩:=h;have hd:=iB l;unfold Ky iY;rw[aB h2,bd_s,jR (l:=aC l) (λd=>nL e d !=1) (.inl false) (.inr PUnit.unit) (by omega) (by grind[dF,aN,bd_s,aB]) (by simp),bNg];simp only[aB h2,bd_s];cases(aC l).any (λd=>nL e d !=1)<;>cases(e.Epoch==aD l)<;>cases((e.Boxes.length:Int)==((aC l).length:Int))<;>rfl
def aL4 (e:AM)(l:List AF)(h:e.Boxes.length<=34359738368/\l.length<=34359738368):Md e l=some (iY e l):=by obtain⟨h1,h2⟩:=h;have hd:=iB l;unfold Md iY;rw[aB h2,bd_s,aB h2,bd_s,jR (l:=aC l) (λd=>nL e d !=1) (.inl false) (.inr PUnit.unit) (by omega) (by grind[dF,aN,bd_s,aB]) (by simp),bNg];simp only[bne];cases(aC l).any (λd=> !(nL e d==1))<;>cases(e.Epoch==aD l)<;>cases((e.Boxes.length:Int)==((aC l).length:Int))<;>rfl
def cA4 {e:AM}(h:e.sz<=34359738368):e.Boxes.length<=34359738368:=by grind[AM.sz]
def aL5 (c:AO)(l:List AF)(e:AM)(h:c.sz<=34359738368/\l.length<=34359738368/\e.sz<=34359738368):Me c l e=some (nM c l e):=by obtain⟨h1,h2,a⟩:=h;unfold Me nM;simp only[aB h1,aB h2,aB a,bd_s,aB (show e.Boxes.length<=34359738368/\l.length<=34359738368 from⟨cA4 a,h2⟩)];cases aT l<;>cases cZ l c.Log<;>cases iY e l<;>rfl
def aBq (s:AC)(i:Int)(h:s.Accounts.length<=34359738368):Cm s i=some (aI s i):=by unfold Cm;exact Kc (l:=s.Accounts) (λa=>a.Id==i) (by omega) (by grind[dF,aN,bd_s]) (by simp)
def aBr (s:AC)(i:Int)(h:s.Accounts.length<=34359738368):De s i=some (aI s i):=by unfold De;exact Kc (l:=s.Accounts) (λa=>a.Id==i) (by omega) (by grind[dF,aN,bd_s]) (by simp)
def bYi {l:List AV}{h p:Int}(a:l.length<=34359738300){β:Type}(k:List AV->Option β):gd (jX l ((F6 h l:Nat):Int)) (gd (jX l ((F6 h l:Nat):Int)) (gd (aW [] (List.take (F6 h l) l)) (gd (aW ([]++List.take (F6 h l) l) [AV.mk h p 0 false]) (gd (aW ([]++List.take (F6 h l) l++[AV.mk h p 0 false]) (List.drop (F6 h l) l)) (k ([]++List.take (F6 h l) l++[AV.mk h p 0 false]++List.drop (F6 h l) l))))))=k (aE7 l h p):=by have hk:F6 h l<=l.length:=Vi;have h1:jX l ((F6 h l:Nat):Int):=⟨by omega,by omega⟩;rw[aB h1,aB h1,aB (by grind[aW]),aB (by grind[aW]),aB (by grind[aW])];rfl
def bNh {l:List AV}{h:Int}(a:l.length<=34359738300):EV.bU (α:=Int) FUEL (λrec (i:Int)=>bd (bif decide (i<(l.length:Int)) then(bd (bC l i) λz=>some (decide (z.Handle<h))) else some false) λz=>bif z then rec (IntKind.i64.wrap (i+1)) else some i) 0=some ((F6 h l:Nat):Int):=by have:=aKd (l:=l) (λc=>decide (c.Handle<h)) (λi=>some (i:Int)) (λi=>(i:Int)) (F:=λrec (i:Int)=>bd (bif decide (i<(l.length:Int)) then(bd (bC l i) λz=>some (decide (z.Handle<h))) else some false) λz=>bif z then rec (IntKind.i64.wrap (i+1)) else some i) (by omega) (by grind[dF,aN,bd_s,aK]) (by simp);exact this
def bYj {a:AI}(b:a.sz<=34359738300)(h p:Int):(AI.mk a.Id a.Minimum (aE7 a.Credentials h p)).sz<=34359738368:=by
 grind[AI.sz,bGu]
def Xo (a:AI)(h p:Int)(b:a.sz<=34359738300):yA a h p=some (fT a h p):=by
 have h1:a.sz<=34359738368:=by omega
 have hc:a.Credentials.length<=34359738300:=b;unfold yA fT;rw[aB h1,bd_s,bNh hc];simp only[aB h1,bd_s,bn];rw[bYi hc (λL=>bd (bif !bA a then some true else(bd (gd ((AI.mk a.Id a.Minimum L).sz<=34359738368) (some (bA (AI.mk a.Id a.Minimum L)))) λc=>some (!c))) λd=>bif d then some (a,false) else some (AI.mk a.Id a.Minimum L,true))];simp only[bd_s,aB (bYj b h p)];cases bA a<;>cases bA {a with Credentials:=aE7 a.Credentials h p}<;>rfl
def Xp (a:AI)(h p:Int)(b:a.sz<=34359738300):yH a h p=some (fT a h p):=by
 have h1:a.sz<=34359738368:=by omega
 have hc:a.Credentials.length<=34359738300:=b;unfold yH fT;rw[aB h1,bd_s,bNh hc];simp only[aB h1,bd_s,bn];rw[bYi hc (λL=>bd (gd ((AI.mk a.Id a.Minimum L).sz<=34359738368) (some (bA (AI.mk a.Id a.Minimum L)))) λc=>bif (!c) then some (a,false) else some (AI.mk a.Id a.Minimum L,true))];simp only[bd_s,aB (bYj b h p)];cases bA a<;>cases bA {a with Credentials:=aE7 a.Credentials h p}<;>rfl
def bKq {a:AI}{h p:Int}(hn:(fT a h p).2=false):(fT a h p).1=a:=by
 grind[bA,aE7,fT]
def aBs (s:AC)(i h p:Int)(a:s.sz<=34359738300):Cn s i h p=some (eH s i h p):=by
 have h1:s.sz<=34359738368:=by omega
 have hl:s.Accounts.length<=34359738368:=by grind[AC.sz]
 unfold Cn eH;simp only[aB h1,aB hl,bd_s];rw[sU,bd_s];cases hc:(!bY s||decide (aI s i<0)) with
 |true=>rfl
 |false=>
  rw[bl] at hc;obtain⟨b,c,d⟩:=bJs a hc.2;simp only[ac,b,bd_s,aB c];cases e:(fT (s.Accounts.getD (aI s i).toNat default) h p).2 with
  |true=>rfl
  |false=>simp_all[bKq,bSq]
def aBt (s:AC)(i h p:Int)(a:s.sz<=34359738300):Dx s i h p=some (eH s i h p):=by
 grind[bY,decide,aI,Bool.or_eq_false_iff,bJs,bd_s,aB,fT,default,sU,Dx,eH,AC.sz]
def aL6 (i:Int):(aA i).size<=34359738300:=by unfold aA;cases i==0<;>cases i==1<;>decide
def bUg {w:AA}{d:Int}(a:aP w=true)(hd:aL w d=true):bC w.Stolen d=some (bZ w d):=by
 grind[bZ,List.getD,List.getElem?_eq_getElem,kJ,aL,aP]
def bNi {p r:List AC}{s:AC}:bC (p++s::r) ((p.length:Nat):Int)=some s:=by simp[aN]
def bH6 {p r:List AC}{s y:AC}:(p++s::r).set (Int.toNat ((p.length:Nat):Int)) y=p++y::r:=by simp
def bNj {c:List AD}{d:AD}{b n:Int}{rm:Bool}(hb:0<=b)(hi:b.toNat<c.length)(hd:c[b.toNat]=d)(k:d.sz<=34359738300):EV.bU (α:=List AD) FUEL (λrec (i:Nat×List AD)=>bif decide ((i.1:Int)<2) then(bd (bC i.2 b) λa=>bd (gd (a.sz<=34359738360/\(aA (i.1:Int)).size<=34359738300) (some (dJ a (aA (i.1:Int)) n rm))) λe=>bd (bC i.2 b) λf=>rec (i.1+1,i.2.set b.toNat e.1)) else some i.2) (0,c)=some (c.set b.toNat (nA d n rm)):=by
 have h1:=x8 d (aA 0) n rm;have h:bC c b=some d:=by rw[kJ hb (by omega),hd]
 have j:bC (c.set b.toNat (dJ d (aA 0) n rm).1) b=some (dJ d (aA 0) n rm).1:=by grind[kJ]
 rw[show FUEL=FUEL-3+1+1+1 from by have:=gX;omega,jE];show(bd (bC c b) λa=>bd (gd (a.sz<=34359738360/\(aA 0).size<=34359738300) (some (dJ a (aA 0) n rm))) λe=>bd (bC c b) λf=>EV.bU (FUEL-3+1+1) _ (1,c.set b.toNat e.1))=_;rw[h,bd_s,aB ⟨by omega,aL6 0⟩,bd_s,bd_s,jE];show(bd (bC (c.set b.toNat (dJ d (aA 0) n rm).1) b) λa=>bd (gd (a.sz<=34359738360/\(aA 1).size<=34359738300) (some (dJ a (aA 1) n rm))) λe=>bd (bC (c.set b.toNat (dJ d (aA 0) n rm).1) b) λf=>EV.bU (FUEL-3+1) _ (2,(c.set b.toNat (dJ d (aA 0) n rm).1).set b.toNat e.1))=_;rw[j,bd_s,aB ⟨by omega,aL6 1⟩,bd_s,bd_s,jE,et];rfl
theorem bUh {w:AA}{b:Int}(a:w.sz<=100000000)(h1:aP w=true)(hs:((aR w b 0).2==0)=true):((aL (aR w b 0).1 b=true/\(aR w b 0).1.Sites.length=2)/\(aR w b 0).1.sz<=300000000)/\(aR w b 0).1.aAE.Log.length<=100000000:=by
 grind[aP,aR,aL,k4,k2,k3,AA.sz,AO.sz,k1,k5,qK]
def bQa {L:List AX}(a:30<L.length)(b:L.length<=34359738301):gd (jX L ((xU L:Nat):Int)) (gd (jX L (IntKind.i64.wrap (((xU L:Nat):Int)+1))) (gd (aW [] (List.take (Int.toNat ((xU L:Nat):Int)) L)) (gd (aW ([]++List.take (Int.toNat ((xU L:Nat):Int)) L) (List.drop (Int.toNat (IntKind.i64.wrap (((xU L:Nat):Int)+1))) L)) (some ([]++List.take (Int.toNat ((xU L:Nat):Int)) L++List.drop (Int.toNat (IntKind.i64.wrap (((xU L:Nat):Int)+1))) L)))))=some (Qj L):=by
 have hs:=bGw (l:=L) (by omega);have e:IntKind.i64.wrap (((xU L:Nat):Int)+1)=((xU L+1:Nat):Int):=by grind[aK]
 rw[e,aB ⟨by omega,by omega⟩,aB ⟨by omega,by omega⟩,aB (by grind[aW]),aB (by grind[aW]),bn,bn]
 grind[decide_eq_true,Qj]
def bW9 (l:List AX)(x:AX)(h:l.length<=34359738300):(AU.mk (Qj (l++[x]))).sz<=34359738368:=by
 grind[AU.sz,List.length_append,List.length_singleton,bBy]
theorem bUi {L:List AX}(h:¬30<L.length):Qj L=L:=by
 grind[decide_eq_false,Qj]
def aGt (m:AU)(k a t:Int)(c:m.sz<=34359738300):Gy m k a t=some (Fw m k a t):=by
 have h1:m.sz<=34359738368:=by omega
 have hm:m.Notices.length<=34359738300:=c;have d:(m.Notices++[(⟨k,a,t,false⟩:AX)]).length=m.Notices.length+1:=by simp
 have hn:=bW9 m.Notices ⟨k,a,t,false⟩ hm;unfold Gy Fw;simp only[aB h1,bd_s,gK (show m.Notices.length<=34359738368 by omega)];generalize hg:m.Notices++[(⟨k,a,t,false⟩:AX)]=L at*;by_cases b:30<L.length
 ·rw[ax (show(L.length:Int)>30 by omega),bWl (l:=L) (λi=>some i) (λi=>((0:Int),i)) (by omega) (by grind[dF,aN,bd_s]) (by simp),ae,bd_s,bQa b (by omega),bd_s,aB hn,bd_s];cases kL m<;>cases kL ⟨Qj L⟩<;>rfl
 grind[decide_eq_false,bd_s,bUi,aB,kL]
def bH7 {τ:Type}{x:τ}{st:AK}{n:Int}{N:Nat}{F:(Nat×List AC->Option (τ⊕List AC))->Nat×List AC->Option (τ⊕List AC)}
  (a:∀rec (p:List AC) (s:AC) (r:List AC),p.length+r.length+1=N->s.sz<=34359738300->F rec (p.length,p++s::r)=bif !(eH s 1 n (fF st (aA (p.length:Int)) n)).2 then some (.inl x) else rec (p.length+1,p++(eH s 1 n (fF st (aA (p.length:Int)) n)).1::r)) (b:∀rec S,F rec (N,S)=some (.inr S)):
  ∀(r p:List AC) (m:Nat),p.length+r.length=N->r.length<m->(∀s∈r,s.sz<=34359738300)->EV.bU m F (p.length,p++r)=some (bif (gV st n p.length r).2 then .inr (p++(gV st n p.length r).1) else .inl x)
 |[],p,m+1,h,_,_=>by
  simp only[bu,dx] at h;rw[jE,h,b];simp[gV]
 |s::r,p,m+1,h,hm,hs=>by
  simp only[ao] at h hm;rw[jE,a _ p s r (by omega) (hs s (by simp)),gV];cases hr:(eH s 1 n (fF st (aA (p.length:Int)) n)).2 with
  |false=>rfl
  |true=>have:=bH7 a b r (p++[(eH s 1 n (fF st (aA (p.length:Int)) n)).1]) m (by simp;omega) (by omega) (λy c=>hs y (by simp[c]));simp only[ay,cq,ck,cM,bz] at this;rw[aq,ac,this];cases(gV st n (p.length+1) r).2<;>rfl
def bQb {τ:Type}{x:τ}{st:AK}{n:Int}{N:Nat}{l:List AC}(d:l.length=N)(a:N<=100)(hs:∀s∈l,s.sz<=34359738300){F:(Nat×List AC->Option (τ⊕List AC))->Nat×List AC->Option (τ⊕List AC)}
  (b:∀rec (p:List AC) (s:AC) (r:List AC),p.length+r.length+1=N->s.sz<=34359738300->F rec (p.length,p++s::r)=bif !(eH s 1 n (fF st (aA (p.length:Int)) n)).2 then some (.inl x) else rec (p.length+1,p++(eH s 1 n (fF st (aA (p.length:Int)) n)).1::r)) (c:∀rec S,F rec (N,S)=some (.inr S)):EV.bU FUEL F (0,l)=some (bif (gV st n 0 l).2 then .inr (gV st n 0 l).1 else .inl x):=by
 have:=bH7 b c l [] FUEL (by simp;omega) (by have:=gX;omega) hs;assumption
def Im (w:AA)(b:Int):AA×Bool:=bif (add1 w b).2&&((aAl w b).2&&((rJ w b).2&&(Ey w b).2==0)) then(rH (Ey w b).1 2,true) else(w,false)
def bQc {w:AA}{b:Int}(h1:aP w=true)(h2:aL w b=true)(a:bZ w b=false)(c:decide ((w.Devices.length:Int)>=6)=false)(d:((aR w b 0).2==0)=true):fI w b=Im w b:=by
 grind[fI,Cb,Im]
theorem aBu {w:AA}{b:Int}(h:(add1 w b).2=false):Im w b=(w,false):=by grind[Im]
theorem Xq {w:AA}{b:Int}(h:(aAl w b).2=false\/(rJ w b).2=false\/((Ey w b).2==0)=false):Im w b=(w,false):=by unfold Im;rcases h with h|h|h<;>rw[h]<;>simp
def bH8 {w:AA}{b:Int}(h1:(add1 w b).2=true)(h2:(aAl w b).2=true)(a:(rJ w b).2=true)(c:((Ey w b).2==0)=true):Im w b=(rH (Ey w b).1 2,true):=by
 grind[Im]
def bXa {w:AA}{b:Int}(c:w.sz<=100000000)(h0:((aR w b 0).2==0)=true)(a:(rJ w b).2=true):(appW (rJ w b).1 (bH (aQ w.Seed (w.Devices.length:Int)))).sz<=34359738100/\((Ey w b).2==0->(Ey w b).1.Mail.sz<=34359738300):=by
 obtain⟨d,e⟩:=bMi h0 a;have f:(bH (aQ w.Seed (w.Devices.length:Int))).sz=0:=rfl
 grind[Ey,AU.sz,AA.sz,aR,appW,rJ,bH,aQ,bMh,qK]
theorem Mw {w:AA}{b:Int}(h:(aP w&&(aL w b&&(!bZ w b&& !decide ((w.Devices.length:Int)>=6))))=false\/((aR w b 0).2==0)=false):fI w b=(w,false):=by
 grind[fI,Cb]
def J8 (w:AA)(b:Int)(k:w.sz<=100000000):zY w b=some (fI w b):=by
 have h:w.sz<=34359738368:=by omega
 unfold zY;rw[aB h,bd_s];cases h1:aP w with
 |false=>grind[Bool.not_false,bd_s,aB,Mw]
 |true=>
 cases h2:aL w b with
 |false=>grind[Bool.not_false,Bool.not_true,bd_s,aB,Mw]
 |true=>
 rw[bUg h1 h2];cases D:bZ w b with
 |true=>grind[Bool.not_true,bd_s,aB,Mw]
 |false=>
 cases F:decide ((w.Devices.length:Int)>=6) with
 |true=>grind[Bool.not_true,bd_s,aB,Mw]
 |false=>
 simp only[aq,ac,bd_s,aB (show w.sz<=34359738100 by omega),bne];cases hs:((aR w b 0).2==0) with
 |false=>grind[Bool.not_false,bd_s,aB,Mw]
 |true=>
 rw[bQc h1 h2 D F hs];obtain⟨⟨⟨m,K⟩,L⟩,M⟩:=bUh k h1 hs;have o:AK.mk (1:Int) (w.Devices.length:Int) (aU w.Seed [277,(w.Devices.length:Int)]) 0=aQ w.Seed (w.Devices.length:Int):=rfl;simp only[o,qI m,bd_s,aB (show(aR w b 0).1.aAE.Log.length<=34359738300 by omega),aB h,aq,ac];have q:=wO (aR w b 0).1.aAE.Log 1 (aS (aQ w.Seed (w.Devices.length:Int))) (aH (aR w b 0).1 b).Store;obtain⟨l,hl⟩:∃l,l=eG (aR w b 0).1.aAE.Log 1 (aS (aQ w.Seed (w.Devices.length:Int))) (aH (aR w b 0).1 b).Store:=⟨_,rfl⟩;obtain⟨e,he⟩:∃e,e=bI l.1 (aH (aR w b 0).1 b).Key (IntKind.i64.wrap (1000+IntKind.i64.wrap (10*(l.1.length:Int)))):=⟨_,rfl⟩;obtain⟨c,i⟩:∃c,c=nM (aR w b 0).1.aAE l.1 e.1:=⟨_,rfl⟩;have O:add1 w b=bif l.2&&(e.2&&c.2) then({(aR w b 0).1 with aAE:=c.1},true) else((aR w b 0).1,false):=by rw[i,he,hl];rfl
 rw[<-hl] at q ⊢;have t:=y7 l.1 (aH (aR w b 0).1 b).Key (IntKind.i64.wrap (1000+IntKind.i64.wrap (10*(l.1.length:Int))));rw[<-he] at t;have G:=aGi (aR w b 0).1;cases Q:l.2 with
 |false=>grind[aBu]
 |true=>
 rw[aq,ac,aB (by omega),bd_s,<-he];cases R:e.2 with
 |false=>grind[aBu]
 |true=>
 rw[aq,ac,aB (by omega),bd_s,<-i];cases S:c.2 with
 |false=>grind[aBu]
 |true=>
 have f:add1 w b=({(aR w b 0).1 with aAE:=c.1},true):=by simp_all
 have u:aAl w b=gV (aQ w.Seed (w.Devices.length:Int)) (w.Devices.length:Int) 0 (aR w b 0).1.Sites:=by unfold aAl;rw[f]
 have v:∀s∈(aR w b 0).1.Sites,s.sz<=34359738300:=(by grind[aJ9,AC.sz,AA.sz]);rw[aq,ac,bQb (x:=((w,false):AA×Bool)) (st:=aQ w.Seed (w.Devices.length:Int)) (n:=(w.Devices.length:Int)) (l:=(aR w b 0).1.Sites) (N:=(aR w b 0).1.Sites.length) rfl (by omega) v (λrec p s r hp k=>by
  simp only[dF (show p.length<(aR w b 0).1.Sites.length by omega),ae,bNi,bd_s,aB (aL6 (p.length:Int)),aB k,bH6]) (by simp)]
 cases A:(gV (aQ w.Seed (w.Devices.length:Int)) (w.Devices.length:Int) 0 (aR w b 0).1.Sites).2 with
 |false=>rw[Xq (.inl (by rw[u,A]))];rfl
 |true=>
 obtain⟨k1,k2,k3,k4⟩:=aV3 m;have hg:=m;simp only[aL,ab,cm] at hg;have H:AA.mk (aR w b 0).1.Now (aR w b 0).1.Seed ((aR w b 0).1.Devices.set b.toNat (nA (aH (aR w b 0).1 b) (w.Devices.length:Int) false)) (aR w b 0).1.Stolen c.1 (gV (aQ w.Seed (w.Devices.length:Int)) (w.Devices.length:Int) 0 (aR w b 0).1.Sites).1 (aR w b 0).1.aAK (aR w b 0).1.Hosts (aR w b 0).1.Pin (aR w b 0).1.Mail=aAV w b:=by unfold aAV;rw[u,f];rfl
 obtain⟨⟨T,V⟩,W,X⟩:=bGv hs;rw[ae,nx_r,bNj (d:=aH (aR w b 0).1 b) hg.1 k2 (by simp[*]) (by omega),bd_s,H,aB (by omega),bd_s,show iK (aAV w b) b=rJ w b from rfl];cases y:(rJ w b).2 with
 |false=>grind[Xq]
 |true=>
 obtain⟨Z,y2⟩:=bMi hs y;obtain⟨I,J⟩:=bXa k hs y;have y0:(rJ w b).1.sz<=34359738368:=by omega
 have B:(rJ w b).1.Devices.length<=34359738368/\(rJ w b).1.Stolen.length<=34359738368:=by grind[AA.sz]
 rw[aq,ac,gK B.1,gK B.2];show(bd (gd ((appW (rJ w b).1 (bH (aQ w.Seed (w.Devices.length:Int)))).sz<=34359738100) (some (Ey w b))) λa=>bif !(a.2==0) then some (w,false) else bd (gd (a.1.Mail.sz<=34359738300) (some (Fw a.1.Mail 2 1 a.1.Now))) λz=>some (AA.mk a.1.Now a.1.Seed a.1.Devices a.1.Stolen a.1.aAE a.1.Sites a.1.aAK a.1.Hosts a.1.Pin z.1,true))=_;rw[aB I,bd_s];cases j:((Ey w b).2==0) with
 |false=>grind[Xq]
 |true=>rw[bH8 (by rw[f]) (by rw[u,A]) y j,aq,ac,aB (J j),bd_s];rfl
def aQf (s e:Int):aPw s e=some (bS s e):=by rfl
def aQg (s e:Int):aPx s e=some (bS s e):=by rfl
def aGu (d:AD)(l:List AF)(k:Int)(h:d.sz<=34359738368/\l.length<=34359738368):Gj d l k=some (lH d l k):=by unfold Gj lH;simp only[aB h.1,aB h.2,bd_s];cases aT l<;>cases cZ l d.Log<;>cases decide (aD l<d.Epoch)<;>cases bL k<;>rfl
def aGv (d:AD)(l:List AF)(k:Int)(h:d.sz<=34359738368/\l.length<=34359738368):Hu d l k=some (lH d l k):=by unfold Hu lH;simp only[aB h.1,aB h.2,bd_s];cases aT l<;>cases cZ l d.Log<;>cases decide (aD l<d.Epoch)<;>cases bL k<;>rfl
def Sq (s:AI)(i:Int)(h:s.Credentials.length<=34359738368):vQ s i=some (aY s i):=by unfold vQ;exact Kc (l:=s.Credentials) (λa=>a.Handle==i) (by omega) (by grind[dF,aN,bd_s]) (by simp)
theorem bXb {a:AI}{h:Int}(hk:decide (aY a h<0)=false):bC a.Credentials (aY a h)=some (gW a (aY a h)):=by have hr:=pU (p:=λc:AV=>c.Handle==h) (i:=0) (l:=a.Credentials) hk;exact uF (by unfold aY;omega) (by unfold aY;omega)
def Xr (a:AI)(h:Int)(b:a.sz<=34359738368):yI a h=some (oC a h):=by
 have hl:a.Credentials.length<=34359738368:=b
 grind[bA,decide,aY,Bool.not_true,bXb,bd_s,gW,aB,yI,oC]
def bXc {s:AC}(a:s.sz<=34359738300)(h:decide (aI s 1>=0)=true):bC s.Accounts (aI s 1)=some (gG s (aI s 1))/\(gG s (aI s 1)).sz<=34359738368:=by
 grind[gG,bJs,decide,aI,decide_eq_false]
def bH9 {h:Int}{N:Nat}{F:(Nat×List AC->Option (List AC))->Nat×List AC->Option (List AC)}
  (a:∀rec (p:List AC) (s:AC) (r:List AC),p.length+r.length+1=N->s.sz<=34359738300->F rec (p.length,p++s::r)=rec (p.length+1,p++gM h s::r)) (b:∀rec S,F rec (N,S)=some S):
  ∀(r p:List AC) (m:Nat),p.length+r.length=N->r.length<m->(∀s∈r,s.sz<=34359738300)->EV.bU m F (p.length,p++r)=some (p++r.map (gM h))
 |[],p,m+1,hl,_,_=>by
  simp only[bu,dx] at hl;rw[jE,hl,b];simp
 |s::r,p,m+1,hl,hm,hs=>by
  simp only[ao] at hl hm;have:=bH9 a b r (p++[gM h s]) m (by simp;omega) (by omega) (λy c=>hs y (by simp[c]));simp only[ay,cq,ck,cM,bz] at this;rw[jE,a _ p s r (by omega) (hs s (by simp)),this];simp
def bQd {h:Int}{N:Nat}{l:List AC}(d:l.length=N)(a:N<=100)(hs:∀s∈l,s.sz<=34359738300){F:(Nat×List AC->Option (List AC))->Nat×List AC->Option (List AC)}
  (b:∀rec (p:List AC) (s:AC) (r:List AC),p.length+r.length+1=N->s.sz<=34359738300->F rec (p.length,p++s::r)=rec (p.length+1,p++gM h s::r)) (c:∀rec S,F rec (N,S)=some S):EV.bU FUEL F (0,l)=some (l.map (gM h)):=by
 have:=bH9 b c l [] FUEL (by simp;omega) (by have:=gX;omega) hs;assumption
theorem Mx {w:AA}{b t:Int}(h:((aR w b 0).2==0&&(!bZ w b&&(!(b==t)&&bF w t)))=false):eY w b t=(w,false):=by grind[eY]
def bKr {w:AA}{b t:Int}(h:((aR w b 0).2==0&&(!bZ w b&&(!(b==t)&&bF w t)))=true):eY w b t=oV w b t:=by grind[eY]
def Pz {w:AA}{b t:Int}(h:(mR w b t).2=false\/(Ph w b t).2=false\/(Kh w b t).2=false):oV w b t=(w,false):=by unfold oV;rcases h with h|h|h<;>rw[h]<;>simp
def cA5 {w:AA}{b:Int}(a:w.sz<=100000000)(h1:aP w=true)(hs:((aR w b 0).2==0)=true):(aL (aR w b 0).1 b=true/\(aR w b 0).1.Sites.length=2)/\(aR w b 0).1.sz<=300000000/\(aR w b 0).1.aAE.Log.length<=100000000/\∀s∈(aR w b 0).1.Sites,s.sz<=34359738300:=by
 grind[aJ9,AC.sz,AA.sz,bUh]
def bXd {w:AA}{b t:Int}(r:w.sz<=100000000)(hs:((aR w b 0).2==0)=true){o:AA}(ho:o=(aR w b 0).1){c:AO}(h1:mR w b t=({o with aAE:=c},true)){x:AD}(h2:Ph w b t=(x,true)):
  (x.sz<=34359738300/\(nA x t true).sz<=34359738368/\c.sz<=34359738300/\(dV (nA x t true)).2.1.sz<=34359738300/\o.Mail.sz<=34359738300)/\
  oV w b t=bif (dV (nA x t true)).2.2&&(dK c (dV (nA x t true)).2.1).2 then(AA.mk o.Now o.Seed (o.Devices.set b.toNat (dV (nA x t true)).1) o.Stolen (dK c (dV (nA x t true)).2.1).1 (o.Sites.map (gM t)) o.aAK o.Hosts o.Pin (Fw o.Mail 4 1 o.Now).1,true) else(w,false):=by
 obtain⟨⟨f,s,u,v⟩,y,⟨b1,z⟩,h,A⟩:=bO3 (t:=t) hs;have hd:=f;simp only[aL,ab,cm] at hd;have hi:b.toNat<(kY w b).Devices.length:=by omega
 have a:o=kY w b:=ho;have j:(lH (aH (kY w b) b) (aKf w b t) (nN (aH (kY w b) b).Store (aKf w b t))).1=x:=by have:=congrArg Prod.fst h2;exact this
 have k:(aH (kY w b) b).sz<=(kY w b).sz:=(aV3 f).2.2.1;have l:x.sz<=3*w.sz+21:=by have:=aT4 (aH (kY w b) b) (aKf w b t) (nN (aH (kY w b) b).Store (aKf w b t));rw[j] at this;omega
 have m:=aR7 x t true;have n:=Bg (nA x t true);have i:aAm w b t=AA.mk o.Now o.Seed (o.Devices.set b.toNat (nA x t true)) o.Stolen c (o.Sites.map (gM t)) o.aAK o.Hosts o.Pin o.Mail:=by unfold aAm;rw[h1,h2]
 have d:aH (aAm w b t) b=nA x t true:=by rw[i,a];simp only[aH,List.getD,bh hi,cr]
 have e:c.sz<=({o with aAE:=c}:AA).sz:=by simp only[AA.sz,AO.sz];omega
 have p:c.sz<=16*w.sz+34:=by rw[h1] at h;exact bv e h
 have q:o.Mail.sz<=2*w.sz+20:=by
  rw[a];have:(kY w b).Mail.sz<=(kY w b).sz:=by simp only[AU.sz,AA.sz];omega
  omega
 refine⟨⟨by omega,by omega,by omega,by simp only[AJ.sz];omega,by omega⟩,?_⟩;unfold oV;rw[show Kh w b t=upF (aAm w b t) b from rfl,h1,h2];unfold upF;rw[d,i];simp only[cw];cases(dV (nA x t true)).2.2&&(dK c (dV (nA x t true)).2.1).2 with
 |false=>rfl
 |true=>simp only[ae,rH,et]
def bQe {h:Int}{p r:List AC}{s:AC}(a:s.sz<=34359738300):s.Accounts.length<=34359738368:=by grind[AC.sz]
def bUj {w:AA}{b t:Int}(h2:aL w b=true)(ht:aL w t=true)(a:(b==t)=false):aL (aR w b 0).1 t=true/\aH (aR w b 0).1 t=aH w t:=by
 grind[aP,aL,List.length_set,aH,List.getD,List.getElem?_set_ne,aR]
def aWb {w:AA}{b t:Int}(h:(aP w&&aL w b)=false):eY w b t=(w,false):=by
 grind[aR,qK,Mx]
def aL7 (w:AA)(b t:Int)(v:w.sz<=100000000):Mh w b t=some (eY w b t):=by
 have a:w.sz<=34359738368:=by omega
 unfold Mh;simp only[aB a,bd_s];cases h1:aP w with
 |false=>rw[aWb (by rw[h1];rfl)];rfl
 |true=>
 cases h2:aL w b with
 |false=>rw[aWb (by rw[h1,h2];rfl)];rfl
 |true=>
 cases m:(b==t) with
 |true=>rw[Mx (by rw[m];simp)];rfl
 |false=>
 rw[bUg h1 h2];cases z:bZ w b with
 |true=>rw[Mx (by rw[z];simp)];rfl
 |false=>
 rw[aB (F4.of' a)];cases f:bF w t with
 |false=>rw[Mx (by rw[f];simp)];rfl
 |true=>
 simp only[aq,ac,bd_s,aB (show w.sz<=34359738100 by omega),bne];cases hs:((aR w b 0).2==0) with
 |false=>rw[Mx (by rw[hs];rfl)];rfl
 |true=>
 rw[bKr (by rw[hs,z,m,f];rfl)];have ht:aL w t=true:=by unfold bF at f;rw[ab] at f;exact f.1
 obtain⟨⟨A,R⟩,T,V,H⟩:=cA5 v h1 hs;obtain⟨d1,d2⟩:=bUj h2 ht m;simp only[aq,ac,bd_s,qI d1,qI A,d2,aB (show(aR w b 0).1.aAE.Log.length<=34359738300 by omega)];have n:=wO (aR w b 0).1.aAE.Log 2 (aS (aH w t).Store) (aH (aR w b 0).1 b).Store;obtain⟨l,hl⟩:∃l,l=eG (aR w b 0).1.aAE.Log 2 (aS (aH w t).Store) (aH (aR w b 0).1 b).Store:=⟨_,rfl⟩;obtain⟨e,he⟩:∃e,e=bI l.1 (nN (aH (aR w b 0).1 b).Store l.1) (IntKind.i64.wrap (1000+IntKind.i64.wrap (10*(l.1.length:Int)))):=⟨_,rfl⟩;obtain⟨c,i⟩:∃c,c=nM (aR w b 0).1.aAE l.1 e.1:=⟨_,rfl⟩;have j:mR w b t=bif l.2&&(e.2&&c.2) then({(aR w b 0).1 with aAE:=c.1},true) else((aR w b 0).1,false):=by rw[i,he,hl];rfl
 have AL:aKf w b t=l.1:=by rw[hl];rfl
 rw[<-hl] at n ⊢;have o:=y7 l.1 (nN (aH (aR w b 0).1 b).Store l.1) (IntKind.i64.wrap (1000+IntKind.i64.wrap (10*(l.1.length:Int))));have I:=aGi (aR w b 0).1;cases k:l.2 with
 |false=>rw[Pz (.inl (by rw[j,k];rfl))];rfl
 |true=>
 rw[aq,ac,aB (show([311]:List Int).length<=34359738300 by simp),bd_s,aB (show l.1.length<=34359738368 by omega),bd_s,aB (show l.1.length<=34359738300 by omega),bd_s];rw[show bS (aU (aH (aR w b 0).1 b).Store.Seed [311]) (aD l.1)=nN (aH (aR w b 0).1 b).Store l.1 from rfl];rw[<-he] at o ⊢;cases q:e.2 with
 |false=>rw[Pz (.inl (by rw[j,k,q];rfl))];rfl
 |true=>
 rw[aq,ac,aB (show(aR w b 0).1.aAE.sz<=34359738368/\l.1.length<=34359738368/\e.1.sz<=34359738368 from⟨by omega,by omega,by omega⟩),bd_s,<-i];cases B:c.2 with
 |false=>rw[Pz (.inl (by rw[j,k,q,B];rfl))];rfl
 |true=>
 have u:mR w b t=({(aR w b 0).1 with aAE:=c.1},true):=by rw[j,k,q,B];rfl
 obtain⟨k1,k2,k3,k4⟩:=aV3 A;obtain⟨x,D⟩:∃x,x=lH (aH (aR w b 0).1 b) l.1 (nN (aH (aR w b 0).1 b).Store l.1):=⟨_,rfl⟩;have F:Ph w b t=x:=by rw[D,<-AL];rfl
 simp only[aq,ac,bd_s,aB (show(aH (aR w b 0).1 b).sz<=34359738368/\l.1.length<=34359738368 from⟨by omega,by omega⟩)];rw[<-D];cases G:x.2 with
 |false=>rw[Pz (.inr (.inl (by rw[F,G])))];rfl
 |true=>
 obtain⟨⟨W,J,K,L,M⟩,AE⟩:=bXd v hs rfl u (x:=x.1) (by rw[F,<-G]);have q1:∀y:AD,bC ((aR w b 0).1.Devices.set b.toNat y) b=some y:=λy=>by rw[kJ k1 (by rw[aw];exact k2)];simp
 rw[aq,ac,bQd (h:=t) (l:=(aR w b 0).1.Sites) (N:=(aR w b 0).1.Sites.length) rfl (by omega) H (λrec p s r hp hzs=>by
  simp only[dF (show p.length<(aR w b 0).1.Sites.length by omega),ae,bNi,bd_s,aB (bQe (h:=t) (p:=p) (r:=r) hzs)];cases hc:decide (aI s 1>=0) with
  |false=>simp only[ac,bd_s,gM,hc]
  |true=>
   obtain⟨O,Q⟩:=bXc hzs hc;simp only[ae,O,bd_s,aB Q,bH6,gM,hc]) (λrec S=>by simp only[aTn,ac])]
 rw[bd_s,bNj (d:=x.1) k1 (by rw[aw];exact k2) (by simp) (by omega),et];simp only[bd_s,q1,aB J,aB M,et,aB (show c.1.sz<=34359738300/\(dV (nA x.1 t true)).2.1.sz<=34359738300 from⟨K,L⟩)];rw[AE];cases(dV (nA x.1 t true)).2.2<;>cases(dK c.1 (dV (nA x.1 t true)).2.1).2<;>rfl
def Sr (b:AQ)(i:Int):Sb b i=some (fB b i):=by rfl
def J9 (s:AK):zQ s=some (lW s):=by unfold zQ lW;cases bR s.Vendor 1 9<;>cases bR s.Serial 0 1000000<;>cases bL s.Seed<;>rfl
def Na (a:AZ)(h:a.Site.size<=34359738300/\a.aAL.size<=34359738300):tQ a=some (bP a):=by unfold tQ bP Di;rw[aB h.1,aB h.2];cases a.Present<;>rfl
def Xt (b:AQ)(i:Int)(h:b.Open.length<=34359738368):yD b i=some (dR b i):=by unfold yD;exact Kc (l:=b.Open) (λc=>c.Id==i) (by omega) (by grind[dF,aN,bd_s]) (by simp)
def Su (b:AQ)(i n:Int)(h:b.sz<=34359738368):vP b i n=some (fK b i n):=by
 have hl:b.Open.length<=b.sz:=by simp[AQ.sz]
 have a:∀(x y:List A4),x.length+y.length<=34359738400->aW x y:=(by grind[aW]);unfold vP fK;rw[aB h,bd_s,aB h,bd_s];cases hb:eX b with
 |false=>rfl
 |true=>
  have c:b.Open.length<=16:=by
   grind[eX]
  cases b.Next==1000000 with
  |true=>rfl
  |false=>
   cases bR i 0 1000000 with
   |false=>rfl
   |true=>
    cases bR n 0 1000000 with
    |false=>rfl
    |true=>
     simp only[aq,da,d8,ac,ae,bd_s];by_cases hd:b.Open.length=16
     ·rw[show((b.Open.length:Int)==16)=true by rw[hd];rfl,show decide ((b.Open.length:Int)>=16)=true from ax (by omega),ae,ae,aB (show jX b.Open 1 from⟨by omega,by omega⟩),aB (a _ _ (by simp only[bu,cA];omega)),bd_s,aB (a _ _ (by simp only[bz,cA,ao,bu];omega))];rfl
     ·rw[show((b.Open.length:Int)==16)=false from bm.2 (by omega),show decide ((b.Open.length:Int)>=16)=false from au (by omega),ac,ac,bd_s,aB (by grind)];rfl
def Xu (b:AQ)(id acc now:Int)(h:b.sz<=34359738368):yE b id acc now=some (pV b id acc now):=by
 have hl:b.Open.length<=b.sz:=by simp[AQ.sz]
 have d:∀(x y:List A4),x.length+y.length<=34359738400->aW x y:=(by grind[aW]);unfold yE pV;rw[aB h,bd_s,aB (by assumption),bd_s,aB h,bd_s];cases eX b with
 |false=>rfl
 |true=>
  simp only[aq,ac,bd_s,cN];cases c:decide (dR b id<0) with
  |true=>rfl
  |false=>
   obtain⟨h0,h1⟩:=pU (i:=0) c;have h0:0<=dR b id:=h0;have h1:dR b id<(b.Open.length:Int):=by grind[dR,id]
   have hk:IntKind.i64.wrap (dR b id+1)=(((dR b id).toNat+1:Nat):Int):=by grind[aK]
   have a:bC b.Open (dR b id)=some (aKg b (dR b id)):=uF h0 h1;rw[ac,ac,hk,a,bd_s,aB (by grind[jX,dR,id]),aB (by grind[jX,dR,id]),
    aB (by grind),aB (by grind),bn]
   cases(aKg b (dR b id)).aAH==acc<;>rfl
def Xv (s:AK)(z:ByteArray)(i:Int)(l:List Int)(h:z.size<=34359738300/\l.length<=34359738200):yB s z i l=some (jI s z i l):=by
 unfold yB jI;cases lW s with
 |false=>rfl
 |true=>
  simp only[aq,ac,bd_s,cw];cases s.Counter==1000000 with
  |true=>rfl
  |false=>
   simp only[aB h.1,bd_s,ac,da,ae];have e:rF l [[IntKind.i64.wrap (s.Counter+1)]]=l++[IntKind.i64.wrap (s.Counter+1)]:=by simp[rF]
   rw[aB (by grind),bd_s,e,aB (by grind)];rfl
def aGw (s:AC)(id now:Int)(h:s.sz<=34359738368):Gw s id now=some (mU s id now):=by
 grind[bY,Bool.not_true,aB,bd_s,decide,aI,id,fK,Gw,mU,AC.sz,AQ.sz]
def K3 (a:AI)(m:Int)(h:a.sz<=34359738368):zR a m=some (qL a m):=by
 have hl:a.Credentials.length<=34359738368:=by assumption
 unfold zR qL;rw[aB h,bd_s,jR (l:=a.Credentials) (λc=> !c.Cut) (.inl true) (.inr ()) (by omega) (by grind[dF,aN,bd_s]) (by simp)]
 grind[bA,bR,Bool.not_true,bd_s,decide,decide_eq_true,decide_eq_false,nx,bne]
def aQh (o:AP):Rc o=some (sZ o):=by unfold Rc sZ;cases iX o.Host<;>rfl
def K4 (o:AP)(h:mE o):G8 o=some (uI o):=by obtain⟨k,hk,rfl⟩:=h;rcases(show k=0\/k=1\/k=2\/k=3\/k=4\/k=5 by omega) with rfl|rfl|rfl|rfl|rfl|rfl<;>kernel_rfl
def aY8 (o:AP)(z:ByteArray)(h:Qk o z):aYr o z=some (mK o z):=by obtain⟨⟨k,hk,rfl⟩,j,a,rfl⟩:=h;rcases a with rfl|rfl<;>rcases(show k=0\/k=1\/k=2\/k=3\/k=4\/k=5 by omega) with rfl|rfl|rfl|rfl|rfl|rfl<;>kernel_rfl
def dU {α β:Type}{x:Option α}{f:α->Option β}{a:α}{r:Option β}(h:x=some a)(h2:f a=r):bd x f=r:=by simp[*]
def aO9 {α β:Type}{x:Option (α⊕β)}{f:β->Option α}{b:β}{r:Option α}(h:x=some (.inr b))(h2:f b=r):nx x f=r:=by simp[*]
def bKs {τ:Type}(n:Nat){F:(Nat->Option τ)->Nat->Option τ}{b:τ}(hn:n<=18446744073709551616)(a:∀rec i,i<n->F rec i=rec (i+1))(c:∀rec,F rec n=some b):bU FUEL F 0=some b:=by have:=jR (l:=List.replicate n ()) (λ_=>false) b b (by simpa using hn) (F:=F) (λrec i hi=>by rw[a rec i (by simpa using hi)];rfl) (λrec=>by simpa using c rec);rw[this];cases(List.replicate n ()).any λ_=>false<;>rfl
def E5 (k:Nat)(h:mE (vE k))(c:sZ (vE k)=true)(he:(uI (vE k)).toList=(yQ k).toList):
  (bd (bif (!sZ (vE k)) then(some (true)) else(bd (gd (mE (vE k)) (some (uI (vE k)))) λa=>some (!a.toList==(yQ k).toList))) λb=>bif b then(some ((AP.mk false (ByteArray.mk #[]) (0:Int),false))) else(some (vE k,true)))=some (vE k,true):=by
 simp[*]
def aBv (z:ByteArray)(h:bO4 z):Dk z=some (Bh z):=by
 obtain rfl|⟨k,hk,rfl⟩:=h
 ·kernel_rfl
 ·unfold Dk;rcases(show k=0\/k=1\/k=2\/k=3 by omega) with rfl|rfl|rfl|rfl
  ·refine dU (a:=(yQ 0,false)) (by kernel_rfl) ?_;refine dU (a:=((vE 0).Host,true,true,⟨#[]⟩,443)) (by kernel_rfl) ?_;simp only[aq,ac];refine dU (a:=((vE 0).Host,⟨#[]⟩,false)) (by kernel_rfl) ?_;refine aO9 (b:=(443:Int)) (by kernel_rfl) ?_;exact(E5 0 ⟨0,by decide,rfl⟩ (by kernel_rfl) (by kernel_rfl)).trans (by kernel_rfl)
  ·refine dU (a:=(yQ 1,false)) (by kernel_rfl) ?_;refine dU (a:=((vE 1).Host,true,true,⟨#[]⟩,443)) (by kernel_rfl) ?_;simp only[aq,ac];refine dU (a:=((vE 1).Host,⟨#[]⟩,false)) (by kernel_rfl) ?_;refine aO9 (b:=(443:Int)) (by kernel_rfl) ?_;exact(E5 1 ⟨1,by decide,rfl⟩ (by kernel_rfl) (by kernel_rfl)).trans (by kernel_rfl)
  ·refine dU (a:=(yQ 2,false)) (by kernel_rfl) ?_;refine dU (a:=((vE 2).Host,true,true,⟨#[]⟩,443)) (by kernel_rfl) ?_;simp only[aq,ac];refine dU (a:=((vE 2).Host,⟨#[]⟩,false)) (by kernel_rfl) ?_;refine aO9 (b:=(443:Int)) (by kernel_rfl) ?_;exact(E5 2 ⟨2,by decide,rfl⟩ (by kernel_rfl) (by kernel_rfl)).trans (by kernel_rfl)
  ·refine dU (a:=(yQ 3,false)) (by kernel_rfl) ?_;refine dU (a:=((vE 3).Host,true,true,⟨#[]⟩,443)) (by kernel_rfl) ?_;simp only[aq,ac];refine dU (a:=((vE 3).Host,⟨#[]⟩,false)) (by kernel_rfl) ?_;refine aO9 (b:=(443:Int)) (by kernel_rfl) ?_;exact(E5 3 ⟨3,by decide,rfl⟩ (by kernel_rfl) (by kernel_rfl)).trans (by kernel_rfl)
def bUk {o:AP}{z:ByteArray}(h:Qk o z):mE o/\z.size<=34359738300/\(uI o).size<=34359738300:=by
 obtain⟨ho,j,a,rfl⟩:=h;refine⟨ho,?_,?_⟩
 ·rcases a with rfl|rfl<;>exact(show 8<=34359738300 by omega)
 ·obtain⟨k,hk,rfl⟩:=ho;have:(uI (vE k)).size<=40:=by rcases(show k=0\/k=1\/k=2\/k=3\/k=4\/k=5 by omega) with rfl|rfl|rfl|rfl|rfl|rfl<;>decide
  omega
def Xw (s:AK)(o:AP)(z:ByteArray)(i c:Int)(b:Bool)(h:Qk o z):yC s o z i c b=some (jJ s o z i c b):=by
 obtain⟨h1,h2,d⟩:=bUk h;have hm:∀a,(bP a).length<=34359738200:=(by simp[bP]);unfold yC jJ;rw[aB h,bd_s];cases mK o z with
 |false=>rfl
 |true=>simp only[aq,ac,cw];rw[aB h1,bd_s,aB ⟨h2,d⟩,bd_s,aB ⟨h2,hm _⟩,bd_s];show(bif !(jI s z i (bP (Sa s o z i c b))).2.2 then _ else _)=_;cases(jI s z i (bP (Sa s o z i c b))).2.2<;>rfl
def bCp {k:Nat}(hk:k<4):Bh (yQ k)=(vE k,true)/\(yQ k).size<=34359738300:=by
 rcases(show k=0\/k=1\/k=2\/k=3 by omega) with rfl|rfl|rfl|rfl
 ·exact⟨by kernel_rfl,show 20<=34359738300 by omega⟩
 ·exact⟨by kernel_rfl,show 20<=34359738300 by omega⟩
 ·exact⟨by kernel_rfl,show 16<=34359738300 by omega⟩
 ·exact⟨by kernel_rfl,show 16<=34359738300 by omega⟩
def bKt {j:Int}(a:j=0\/j=1){k:Nat}(hk:k<4):Bh (yQ k)=(vE k,true)/\(aA j).size<=34359738300/\(yQ k).size<=34359738300:=by refine⟨(bCp hk).1,?_,(bCp hk).2⟩;rcases a with rfl|rfl<;>exact(show 8<=34359738300 by omega)
def Sw (pub:Int)(a:AZ)(z:ByteArray)(b cnt:Int)(h:AsP a z):oN pub a z b cnt=some (iL pub a z b cnt):=by
 obtain⟨j,c,rfl,rfl|⟨hs,k,hk,ho,d⟩⟩:=h
 ·unfold oN;rw[aB (show bO4 aYm.aAL from .inl rfl)];rcases c with rfl|rfl<;>kernel_rfl
 ·obtain⟨h1,h2,i⟩:=bKt c hk;have hm:(bP a).length=6:=by simp[bP]
  have e:rF (bP a) [[a.Counter]]=bP a++[a.Counter]:=by simp[rF]
  have f:a.Site.size<=34359738300/\a.aAL.size<=34359738300:=by simp[*]
  unfold oN iL;rw[aB (by grind[bO4]),bd_s,show Bh a.aAL=(vE k,true) by rw[ho];exact h1,show(a.Site.toList==(aA j).toList)=true by rw[hs];simp];simp only[aq,ac];rw[aB (by grind[Qk,vE,aA]),bd_s,d,bd_s];simp only[aq,ac,bne,aB f,bd_s];rw[aB (show Fs (bP a) [[a.Counter]] by simp[Fs,hm]),bd_s,e,aB (show(bP a++[a.Counter]).length<=34359738300 by simp only[ay,hm,ao,bu];omega),bd_s];cases a.Present<;>cases a.aAN==b<;>cases iT pub (bP a++[a.Counter]) a.Signature<;>cases decide (a.Counter<=cnt)<;>rfl
theorem bUl {a:AI}{h:Int}(hk:decide (aY a h<0)=false):bC a.Credentials (aY a h)=some (gW a (aY a h))/\(aY a h).toNat<a.Credentials.length:=by have hr:=pU (p:=λc:AV=>c.Handle==h) (i:=0) (l:=a.Credentials) hk;exact⟨uF (by unfold aY;omega) (by unfold aY;omega),by unfold aY;omega⟩
def Xx (a:AI)(x:AZ)(z:ByteArray)(c:Int)(h:AsP x z/\a.sz<=34359738368):yF a x z c=some (iO a x z c):=by
 obtain⟨hp,b⟩:=h;have hl:a.Credentials.length<=34359738368:=b;unfold yF iO;simp only[aB b,aB hl,bd_s];cases bA a with
 |false=>rfl
 |true=>
  cases hk:decide (aY a x.Handle<0) with
  |true=>rfl
  |false=>
   simp only[aq,ac,(bUl hk).1,bd_s,cN]
   grind[gW,aY,aB,bd_s,iL,beq_eq_false_iff_ne,bUl]
theorem bXe {s:AC}{i:Int}(b:s.sz<=34359738300)(h:decide (aI s i<0)=false):bC s.Accounts (aI s i)=some (gG s (aI s i))/\(gG s (aI s i)).sz<=34359738300/\(aI s i).toNat<s.Accounts.length:=by
 have hr:=pU (p:=λa:AI=>a.Id==i) (i:=0) (l:=s.Accounts) h
 grind[AC.sz,gG,uF,aI,xI,AI.sz]
def aBw (s:AC)(i c n:Int)(x:AZ)(h:AsP x s.Name/\s.sz<=34359738300):Dl s i c n x=some (lX s i c n x):=by
 obtain⟨hp,b⟩:=h;have a:s.sz<=34359738368:=by omega
 have hb:s.Book.sz<=34359738368:=by grind[AC.sz,AQ.sz]
 have hl:s.Accounts.length<=34359738368:=by grind[AC.sz]
 have d:aW s.Logins [i]:=by grind[List.length_cons,List.length_nil,AC.sz,aW]
 unfold Dl lX;simp only[aB a,aB hl,aB hb,bd_s]
 grind[bY,Bool.not_true,bd_s,decide,aI,bXe,pV,aB,gG,qL,AsP,bne,iO,fB]
def Io {w:AA}(h:aP w=true):w.Sites.length=2/\w.Stolen.length=w.Devices.length/\w.Devices.length<=6/\gJ uD 0 w.Sites=false:=by
 grind[aP,bR,Bool.not_eq_true']
theorem bCq {w:AA}{d j:Int}(h:dL w d j=true):bC w.Stolen d=some (bZ w d):=by simp_all[List.getD,aa,kJ,bZ,aL,ab,cm,Io,dL]
def aY9 (w:AA)(d j:Int)(b:Bool)(h:w.sz<=34359738368):X5 w d j b=some (dL w d j&&bZ w d==b):=by
 grind[dL,bCq,aP,aL,fA,aB,bd_s,X5]
def bXf (j:Int):(ByteArray.mk #[UInt8.ofNat 119,UInt8.ofNat 119,UInt8.ofNat 119,UInt8.ofNat 46]).size+(aA j).size<=9223372036854775807:=by unfold aA;cases j==0<;>cases j==1<;>decide
def bIa (j:Int):aO8 j=some (aFa j):=by unfold aO8;rw[aB (bXf j)];rfl
theorem cA6 {a b:ByteArray}(h:a.toList=b.toList):a=b:=by
 grind[ByteArray.ext,Array.toList_inj,ByteArray.toList_eq]
def bUm {l:List AC}{k:Nat}:∀{i:Nat},gJ uD i l=false->∀(h:k<l.length),bY l[k]=true/\l[k].Name=aA ((i+k:Nat):Int):=by induction l generalizing k<;>grind[gJ,Bool.or_eq_false_iff,uD,Bool.not_eq_false',cA6,trans]
def Xy {w:AA}{d j:Int}(h:dL w d j=true):bC w.Sites j=some (eO w j)/\(eO w j).sz<=w.sz/\(eO w j).Name=aA j/\(j=0\/j=1)/\j.toNat<w.Sites.length:=by
 simp only[dL,ab] at h;obtain⟨h1,h2,c,b⟩:=Io h.1;have hd:=h.2.2;simp only[fA,ab,cm] at hd;have a:j.toNat<w.Sites.length:=by omega
 have hs:=xI (f:=AC.sz) a;have e:eO w j=w.Sites[j.toNat]:=by grind[List.getD,List.getElem?_eq_getElem,eO]
 refine⟨by rw[kJ hd.1 a,e],?_,?_,by omega,a⟩
 ·grind[AA.sz,eO]
 ·rw[e,(bUm b a).2];grind
theorem bKu (s:AC)(i n:Int):(mU s i n).1.Name=s.Name/\(mU s i n).1.sz<=s.sz+1:=by
 unfold mU
 grind[bY,decide,aI,fK,eX,bR,List.length_append,List.length_drop,List.length_cons,List.length_nil,AC.sz,AQ.sz]
def bUn {k:Nat}(hk:k<6){j:Int}(a:j=0\/j=1)(h:mK (vE k) (aA j)=true):k<4:=by
 rcases(show k<4\/k=4\/k=5 by omega) with b|rfl|rfl
 ·exact b
 ·rcases a with rfl|rfl<;>exact absurd h (by decide)
 ·rcases a with rfl|rfl<;>exact absurd h (by decide)
theorem bKv (s:AK)(h c:Int)(p:Bool){o:AP}(ho:mE o){j:Int}(a:j=0\/j=1):AsP (jJ s o (aA j) h c p).2.1 (aA j):=by
 refine⟨j,a,rfl,?_⟩;obtain⟨k,hk,rfl⟩:=ho;unfold jJ;cases hm:mK (vE k) (aA j) with
 |false=>simp
 |true=>
  cases(jI s (aA j) h (bP (Sa s (vE k) (aA j) h c p))).2.2 with
  |false=>simp
  |true=>exact .inr ⟨rfl,k,bUn hk a hm,rfl,hm⟩
def cC0 {w:AA}{d j:Int}{o:AP}(ho:mE o)(h:dL w d j=true)(a:w.sz<=34359738200):AsP (Ki w d j o).2.1 (aAY w j).1.Name/\(aAY w j).1.sz<=34359738300:=by
 obtain⟨_,h2,b,c,_⟩:=Xy h
 grind[Ki,aAY,bKv,bKu,eO]
def bEh (w:AA)(d j:Int)(o:AP)(h:mE o/\w.sz<=34359738200):aFr w d j o=some (gN w d j o):=by
 obtain⟨ho,c⟩:=h;have b:w.sz<=34359738368:=by omega
 unfold aFr gN;simp only[aB b,bd_s];cases ht:dL w d j with
 |false=>
  unfold dL at ht;cases n:aP w with
  |false=>rfl
  |true=>
   cases hd:aL w d with
   |false=>rfl
   |true=>
    cases hs:fA w j with
    |false=>rfl
    |true=>simp_all
 |true=>
  obtain⟨e,q,r,f,s⟩:=Xy ht;obtain⟨i,k⟩:=cC0 ho ht c;have a:=ht;simp only[dL,ab] at a;have l:=qI a.2.1;have hm:w.Mail.sz<=34359738300:=by grind[AA.sz,AU.sz]
  have m:0<=j:=by omega
  have es:bC (w.Sites.set j.toNat (aAY w j).1) j=some (aAY w j).1:=by
   grind[kJ]
  rw[a.1,a.2.1,a.2.2];simp only[aq,ac,e,bd_s,aB (show(eO w j).sz<=34359738368 by omega)];rw[show mU (eO w j) 1 w.Now=aAY w j from rfl];cases hb:(aAY w j).2.2.2 with
  |false=>rfl
  |true=>simp only[aq,ac,l,es,bd_s,aB (show Qk o (aA j) from ho.p f)];rw[show jJ (aH w d).Store o (aA j) d (aAY w j).2.2.1 true=Ki w d j o from rfl];simp only[aB (show AsP (Ki w d j o).2.1 (aAY w j).1.Name/\(aAY w j).1.sz<=34359738300 from⟨i,k⟩),bd_s,aB hm,bne];rw[show lX (aAY w j).1 1 (aAY w j).2.1 w.Now (Ki w d j o).2.1=vF w d j o from rfl,et];cases(vF w d j o).2.1==0<;>rfl
def aQi (w:AA)(d j:Int)(o:AP)(h:mE o/\w.sz<=34359738200):Rh w d j o=some (mM w d j o):=by unfold Rh;rw[aB h];rfl
def aBx (w:AA)(d j:Int)(b:w.sz<=34359738200):Dm w d j=some (y9 w d j):=by
 have a:w.sz<=34359738368:=by omega
 unfold Dm y9;simp only[aB a,bd_s];rw[show(bZ w d==false)= !bZ w d by cases bZ w d<;>rfl];cases hq:dL w d j&& !bZ w d with
 |false=>rfl
 |true=>rw[ab] at hq;simp only[aq,ac,ae];exact(dU (aB (show mE (aFa j)/\w.sz<=34359738200 from⟨bSz (Xy hq.1).2.2.2.1,b⟩)) rfl)
def sG {σ τ:Type}{F:(σ->Option τ)->σ->Option τ}(S:Nat->σ)(N:Nat){r:τ}(a:N<=1000000)(b:∀rec i,i<N->F rec (S i)=rec (S (i+1)))(c:∀rec,F rec (S N)=some r){s:σ}(hs:s=S 0):EV.bU FUEL F s=some r:=by
 subst hs;have go:∀(k i n:Nat),i+k=N->k<n->EV.bU n F (S i)=some r:=by
  intro k;induction k with
  |zero=>
   intro i n h hn;obtain⟨m,rfl⟩:∃m,n=m+1:=⟨n-1,by omega⟩
   grind[jE]
  |succ k d=>
   intro i n h hn;obtain⟨m,rfl⟩:∃m,n=m+1:=⟨n-1,by omega⟩
   grind[jE]
 exact go N 0 FUEL (by omega) (by grind[gX])
theorem aGx {m:Int}{F:(Int×Int×Int->Option Int)->Int×Int×Int->Option Int}(a:∀rec (b n s:Int),0<=n->n<9223372036854775807->F rec (b,n,s)=bif decide (n>0) then rec ((IntKind.i64.wrap (b*b)).tmod m,n/2,bif n%2==1 then(IntKind.i64.wrap (s*b)).tmod m else s) else some s):
  ∀(k:Nat) (b n s:Int) (f:Nat),k<f->0<=n->n<2^k->k<=62->bU f F (b,n,s)=some (aPo m k b n s)
 |0,b,n,s,f+1,c,h0,h1,hk=>by
  have:n=0:=by simp at h1;omega
  subst this;rw[jE,a _ _ _ _ (by omega) (by omega)];rfl
 |k+1,b,n,s,f+1,c,h0,h1,hk=>by
  have h2:(2:Int)^(k+1)=2*2^k:=by rw[fp];omega
  have d:n<2^62:=Int.lt_of_lt_of_le h1 (by exact_mod_cast gS (by omega) hk);rw[jE,a _ _ _ _ h0 (by omega)];unfold aPo;by_cases hn:n>0
  ·rw[ax hn,ae,cU hn];exact aGx a k _ (n/2) _ f (by omega) (by omega) (by omega) (by omega)
  ·rw[au hn,ac,dh hn]
theorem bYk:((2039:Int)≠0)=True:=by simp
def aGy (b n:Int)(h:0<=n/\n<2048):uN b n=some (aPo 2039 11 b n 1):=by
 grind[aGx,qV,and_one,Jc,bL6,bYk,gd_T,bd_s,aB,FUEL,gX,uN]
def Y3 (b n:Int)(h:0<=n/\n<2048)(hb:0<=b/\b<2039):jA b n 2039=some (aPo 2039 11 b n 1):=by unfold jA;rw[show b.tmod 2039=b by rw[cg hb.1];omega,show(1:Int).tmod 2039=1 by decide,aGx (m:=2039) (by grind[Int.tmod_eq_emod_of_nonneg,Int.tdiv_eq_ediv_of_nonneg,aK,bYk,gd_T,bd_s]) 11 b n 1 FUEL (by grind[gX]) h.1 (by omega) (by omega)];rfl
def Sy (x:Int):vL x=some (oD x):=by unfold vL oD;rw[aGy _ _ (by decide)];cases bR x 1 2038<;>rfl
def Sz (x:Int):vT x=some (oD x):=by
 unfold vT oD;cases h:bR x 1 2038 with
 |false=>rfl
 |true=>have:=gQ h;rw[Y3 _ _ (by decide) (by grind)];rfl
def aQj (g n:Int):Qu g n=some (gP g n):=by unfold Qu gP;have hr:=pI (p:=n) (q:=1019) (by decide);rw[aGy _ _ ⟨hr.1,by omega⟩];cases oD g<;>rfl
def aQk (g n:Int):Rk g n=some (gP g n):=by
 unfold Rk gP;have hr:=pI (p:=n) (q:=1019) (by decide);cases h:oD g with
 |false=>rfl
 |true=>have a:=h;unfold oD at a;rw[ab] at a;have:=gQ a.1;rw[Y3 _ _ ⟨hr.1,by omega⟩ (by grind)];rfl
def aBy (a b:Int):aAx a b=some (Fx a b):=by rfl
def aBz (a b:Int):aAy a b=some (Fx a b):=by rfl
def K5 (a b c:Int):G7 a b c=some (A7 a b c):=rfl
def aL8 (a b:Int):Ld a b=some (rQ a b):=by
 unfold Ld rQ;rw[aB (by simp),bd_s];have h:=(nI a [157,b]).1
 grind[decide_eq_false,decide_eq_true,bDp,kD,bK]
def aL9 (a b:Int):aK4 a b=some (rQ a b):=by rfl
def aGz (a b:Int):aFo a b=some (Av a b):=by rfl
def aG0 (a b:Int):aFt a b=some (Av a b):=by rfl
def aWc (a b:Int):Ww a b=some (U5 a b):=by unfold Ww U5;rw[aB (by simp)];cases bR a 0 2147483647<;>rfl
def aWd (a b:Int):Xi a b=some (U5 a b):=by unfold Xi U5;rw[aB (by simp)];cases bR a 0 2147483647<;>rfl
def aMa (k:A3):aK1 k=some (Fy k):=rfl
def bKw {c n:Int}{l:List Int}(hn:1<=n/\n<=7)(hl:l.length<=34359738368){F:(List AS×Int->Option (List AS))->List AS×Int->Option (List AS)}(a:∀rec (s:List AS) (i:Int),1<=i->i<=8->s.length<=8->F rec (s,i)=bif decide (i<=n) then rec (s++[⟨i,Fu c l i⟩],i+1) else some s):EV.bU FUEL F ([],1)=some ((List.range n.toNat).map λ(i:Nat)=>(⟨(i:Int)+1,Fu c l ((i:Int)+1)⟩:AS)):=
 sG (λi=>((List.range i).map λ(i:Nat)=>(⟨(i:Int)+1,Fu c l ((i:Int)+1)⟩:AS),(i:Int)+1)) n.toNat (by omega) (by grind[decide_eq_true,List.range_succ]) (by grind[decide_eq_false]) rfl
def aB0 (c:Int)(l:List Int)(n:Int)(h:l.length<=34359738368):Ct c l n=some (yR c l n):=by
 unfold Ct yR;cases h1:bR n 1 7 with
 |false=>rfl
 |true=>
  have hn:=gQ h1;rw[bKw (c:=c) hn h (by grind[aB,bd_s,aW,Fu,aK])];by_cases h2:(l.length:Int)<n
  all_goals simp_all[au,ax]
def aMb (pin salt key sec:Int)(cs:List Int)(n lim:Int)(h:cs.length<=34359738368):Lg pin salt key sec cs n lim=some (Pi pin salt key sec cs n lim):=by
 unfold Lg Pi aR9;simp only[aB h,bd_s];have hl:=bB4 sec cs n;generalize yR sec cs n=l at hl ⊢;cases bR pin 0 9999 with
 |false=>rfl
 |true=>
 cases bR salt 0 1000000 with
 |false=>rfl
 |true=>
 cases bL key with
 |false=>rfl
 |true=>
 cases fE sec 1019==0 with
 |true=>rfl
 |false=>
 cases bR lim 1 10 with
 |false=>rfl
 |true=>
 rw[cAl (l:=l) (λs=>Fy ⟨s,0,0,lim⟩) (by omega) (λrec i s hi hs=>by
  have a:∀x:AH,aW s [x]:=(by grind[aW]);simp only[dF hi,ae,aN hi,bd_s,aB (a _)];rfl) (by simp)]
 cases l with
 |nil=>rfl
 |cons x l=>rfl
def aQl (l:List AF)(b:AM)(h:l.length<=34359738368/\b.sz<=34359738368):Qn l b=some (fU l b):=by
 unfold Qn fU;have hb:b.Boxes.length<=34359738368:=by grind[AM.sz]
 simp only[aB h.1,aB h.2,aB (show b.Boxes.length<=34359738368/\l.length<=34359738368 from⟨hb,h.1⟩),bd_s];cases aT l<;>cases iY b l<;>rfl
def bIb (s:AC)(id m:Int):(rM s id m).sz=s.sz+1:=by
 grind[rM,AC.sz,List.length_append,List.length_cons,List.length_nil,AI.sz,Kj,id,List.take_append_drop]
def bQf {l:List AI}{id:Int}{F:(Int->Option Int)->Int->Option Int}(hl:l.length<=34359738368)(b:∀rec (i:Nat) (hi:i<l.length),F rec (i:Int)=bif decide (l[i].Id<id) then rec ((i+1:Nat):Int) else some (i:Int))(c:∀rec,F rec (l.length:Int)=some (l.length:Int)):EV.bU FUEL F 0=some (Kj id l:Int):=
 aKd (λa:AI=>decide (a.Id<id)) (λi=>some (i:Int)) (λi=>(i:Int)) hl b c
def bUo (id:Int)(l:List AI):Kj id l<=l.length:=Vi
def aB1 (s:AC)(id m:Int)(h:s.sz<=34359738300):Cj s id m=some (oF s id m):=by
 unfold Cj oF;have hl:s.Accounts.length<=s.sz:=by grind[AC.sz]
 have hk:=bUo id s.Accounts;have b:∀(x y:List AI),x.length+y.length<=34359738400->aW x y:=(by grind[aW]);have hs:s.sz<=34359738368:=by omega
 have h1:=bIb s id m;rw[aB hs,bd_s,bQf (id:=id) (l:=s.Accounts) (by omega) (by grind[dF,aN,bd_s,aK]) (by simp),bd_s];have a:jX s.Accounts (Kj id s.Accounts:Int):=⟨by omega,by omega⟩;have he:(List.take (Kj id s.Accounts) s.Accounts).length+(List.drop (Kj id s.Accounts) s.Accounts).length=s.Accounts.length:=by rw[<-ay,cJ]
 have ht:(List.take (Kj id s.Accounts) s.Accounts).length<=s.Accounts.length:=by omega
 have hd:(List.drop (Kj id s.Accounts) s.Accounts).length<=s.Accounts.length:=by omega
 rw[bn,aB a,aB a,aB (by grind),aB (by grind),aB (by grind),aB hs,bd_s,bz];rw[show(AC.mk s.Name (List.take (Kj id s.Accounts) s.Accounts++[AI.mk id m []]++List.drop (Kj id s.Accounts) s.Accounts) s.Book s.Logins)=rM s id m from rfl,aB (by omega)];cases bY s<;>cases bY (rM s id m)<;>rfl
theorem cA7 {α:Type}{x y:List α}(h:x.length<=1000)(a:y.length<=1000):aW x y:=by grind[aW]
theorem Xz (seed:Int)(n:Nat):(dN seed n).length=n:=by simp[dN]
theorem bEi (seed:Int)(n:Nat):dN seed (n+1)=dN seed n++[bH (aQ seed (n:Int))]:=by simp[dN,dy]
def bQg (seed:Int)(n:Nat):bC (dN seed (n+1)) 0=some (bH (aQ seed 0)):=by rw[show(0:Int)=((0:Nat):Int) from rfl,aN (by simp[Xz])];simp[dN]
theorem bEj (seed:Int)(n:Nat)(h:1<=n):dN seed n=bH (aQ seed 0)::(dN seed n).drop 1:=by obtain⟨m,rfl⟩:∃m,n=m+1:=⟨n-1,by omega⟩;simp[dN,List.range_succ_eq_map]
abbrev sT (s:AC):ByteArray×List AI×Int×Int×List A4×List Int:=(s.Name,s.Accounts,s.Book.Seed,s.Book.Next,s.Book.Open,s.Logins)
theorem aG1 (nm:ByteArray):∀(l:List AD) (k:Nat) (d:AD) (s:AC),qM nm k (l++[d]) s=(eH (qM nm k l s) 1 ((k+l.length:Nat):Int) (fF d.Store nm ((k+l.length:Nat):Int))).1
 |[],k,d,s=>rfl
 |x::l,k,d,s=>by
  rw[cM];show qM nm (k+1) (l++[d]) _=_;rw[aG1 nm l (k+1) d,ao,show k+1+l.length=k+(l.length+1) by omega];rfl
def bQh {nm:ByteArray}{l:List AD}{s0:AC}(hl:l.length<=3)(hs:s0.sz<=1000){F:(Nat×ByteArray×List AI×Int×Int×List A4×List Int->Option (ByteArray×List AI×Int×Int×List A4×List Int))->Nat×ByteArray×List AI×Int×Int×List A4×List Int->Option (ByteArray×List AI×Int×Int×List A4×List Int)}
  (a:∀rec (i:Nat) (hi:i<l.length) (s:AC),s.sz<=2000->F rec (i,sT s)=rec (i+1,sT (eH s 1 (i:Int) (fF l[i].Store nm (i:Int))).1)) (b:∀rec s,F rec (l.length,sT s)=some (sT s)):EV.bU FUEL F (0,sT s0)=some (sT (qM nm 0 l s0)):=
 sG (λi=>(i,sT (qM nm 0 (l.take i) s0))) l.length (by omega) (by grind[aAo,s0,List.length_take,List.take_succ_eq_append_getElem,aG1]) (by simp[*]) rfl
def bIc {α:Type}{p r:List α}{s:α}:bC (p++s::r) ((p.length:Nat):Int)=some s:=by simp[aN]
def bUp {α ι:Type}(e:Nat->ι){p0 l:List α}(f:α->α){F:(ι×List α->Option (List α))->ι×List α->Option (List α)}(hl:l.length<=1000)
  (a:∀rec (p:List α) (d:α) (r:List α),p.length+1+r.length=p0.length+l.length->d∈l->F rec (e p.length,p++d::r)=rec (e (p.length+1),p++f d::r)) (b:∀rec (p:List α),p.length=p0.length+l.length->F rec (e (p0.length+l.length),p)=some p):EV.bU FUEL F (e p0.length,p0++l)=some (p0++l.map f):=
 sG (λi=>(e (p0.length+i),p0++(l.take i).map f++l.drop i)) l.length (by omega) (λrec i hi=>by
  have h2:(p0++(l.take i).map f).length=p0.length+i:=by grind
  grind[List.append_assoc,List.singleton_append,Nat.add_assoc,List.take_succ_eq_append_getElem,List.map_singleton,List.getElem_mem,List.drop_eq_getElem_cons,List.length_drop]) (by simp[*]) (by simp)
def bCr (n:Nat)(d:AD):Nat->AD
 |0=>d
 |j+1=>Pj (aA (j:Int)) n (bCr n d j)
theorem Ya (j:Int):(aA j).size<=100:=by unfold aA;cases j==0<;>cases j==1<;>decide
def bQi {nm:ByteArray}{n:Nat}{d:AD}{r:List AD}(hn:n<=3)(hd:d.sz<=100){F:(Nat×List AD->Option (List AD))->Nat×List AD->Option (List AD)}
  (a:∀rec (i:Nat) (x:AD),i<n->x.sz<=1000->F rec (i,x::r)=rec (i+1,(dJ x nm (i:Int) false).1::r)) (b:∀rec x,F rec (n,x::r)=some (x::r)):EV.bU FUEL F (0,d::r)=some (Pj nm n d::r):=
 sG (λi=>(i,Pj nm i d::r)) n (by omega) (λrec i hi=>by
  have h1:=aSa nm i d;rw[a rec i _ hi (by omega)];rfl) (λrec=>b rec _) rfl
def bQj {n:Nat}{d:AD}{r:List AD}{F:(Nat×List AD->Option (List AD))->Nat×List AD->Option (List AD)}(hn:n<=3)(hd:d.sz<=10)
  (a:∀rec (j:Nat) (x:AD),j<2->x.sz<=100->F rec (j,x::r)=rec (j+1,Pj (aA (j:Int)) n x::r)) (b:∀rec x,F rec (2,x::r)=some (x::r)):EV.bU FUEL F (0,d::r)=some (bCr n d 2::r):=
 sG (λj=>(j,bCr n d j::r)) 2 (by omega) (λrec j c=>by
  have h1:∀j:Nat,(bCr n d j).sz<=d.sz+j*n:=by intro j;induction j<;>grind[aSa,aA,bCr,Pj,Nat.add_mul]
  have h2:=h1 j;have e:j*n<=2*3:=ia (by omega) hn;rw[a rec j _ c (by omega)];rfl) (λrec=>b rec _) rfl
def bKx {seed t:Int}(ht:1<=t/\t<=7){F:(List Int×Int->Option (List Int))->List Int×Int->Option (List Int)}(a:∀rec (s:List Int) (i:Int),1<=i->i<=8->s.length<=8->F rec (s,i)=bif decide (i<t) then rec (s++[aU seed [307,i]],i+1) else some s):EV.bU FUEL F ([],1)=some (aAn seed t):=
 sG (λi=>((List.range i).map λ(k:Nat)=>aU seed [307,(k:Int)+1],(i:Int)+1)) (t-1).toNat (by omega) (by grind[decide_eq_true,List.range_succ]) (λrec=>by
  rw[a rec _ _ (by omega) (by omega) (by simp;omega),au (by omega),ac];rfl) rfl
def bNk (s:AC):AC.mk s.Name s.Accounts (AQ.mk s.Book.Seed s.Book.Next s.Book.Open) s.Logins=s:=rfl
def cA8 (s:AK):AD.mk s [] (0:Int) (0:Int) (0:Int) (AB.mk [])=bH s:=rfl
def cC1 (seed:Int)(i:Nat):AK.mk (1:Int) (i:Int) (aU seed [277,(i:Int)]) (0:Int)=aQ seed (i:Int):=rfl
def aQm (n k t pin seed:Int):Qv n k t pin seed=some (bN n k t pin seed):=by
 unfold Qv bN Kk;cases h1:bR n 1 3 with
 |false=>rfl
 |true=>
 cases h2:bR k 1 7 with
 |false=>rfl
 |true=>
 cases u:bR t 1 k with
 |false=>rfl
 |true=>
 cases J:bR pin 0 9999 with
 |false=>rfl
 |true=>
 cases K:bL seed with
 |false=>rfl
 |true=>
 have hn:=gQ h1;have hk:=gQ h2;have ht:=gQ u;obtain⟨N,rfl⟩:∃N:Nat,n=(N:Int):=⟨n.toNat,by omega⟩;rw[bn];have h:1<=N/\N<=3:=by omega
 have L:=sF seed N;have M:=aT7 seed N;have O:=aT8 seed N;simp only[aq,ac,d8,ae,bd_s,cA8,cC1];rw[sG (r:=(aV seed N,dN seed N,List.replicate N false)) (λi=>(aV seed i,i,dN seed i,List.replicate i false)) N (s:=([],0,[],[])) (by omega) (λrec i hi=>by
  have Q:=bQg seed i
  grind[dF,aB,aW,dN,bH,aQ,cA7,List.replicate,List.length_replicate,bd_s,aV,bEi,List.replicate_succ',Xz,sF]) (by simp) rfl]
 have v:(bI (aV seed N) (bS seed 0) 1000).1=jK seed N:=rfl;simp only[bd_s,aB (show(aV seed N).length<=34359738300 by omega),v,aB (show(aV seed N).length<=34359738368/\(jK seed N).sz<=34359738368 from⟨by omega,by omega⟩)];have w:=Xz seed N;rw[sG (r:=xW (dN seed N) seed) (λj=>((xW (dN seed N) seed).take j,j)) 2 (s:=([],0)) (by omega) (λrec j z=>by
  have hs:=Ya (j:Int);have S:=aOs (aA (j:Int)) (aU seed [281,(j:Int)]);have T:=aT9 (iD (aA (j:Int)) (aU seed [281,(j:Int)])) 1 3;simp only[ax (show(j:Int)<2 by omega),ae,aB (show[281,(j:Int)].length<=34359738300 by simp),bd_s,aB (show(aA (j:Int)).size<=34359738368 by omega),aB (show(iD (aA (j:Int)) (aU seed [281,(j:Int)])).sz<=34359738300 by omega)];rw[bQh (nm:=aA (j:Int)) (l:=dN seed N) (s0:=(oF (iD (aA (j:Int)) (aU seed [281,(j:Int)])) 1 3).1) (by omega) (by omega) (λrec i hi s hsz=>by
   simp only[dF hi,ae,aN hi,bd_s,aB (show(aA (j:Int)).size<=34359738300 by omega),bNk,aB (show s.sz<=34359738300 by omega)]) (by simp)]
  have V:((xW (dN seed N) seed).take j).length<=1000:=by grind
  have A:∀x:AC,aW ((xW (dN seed N) seed).take j) [x]:=(by grind[cA7]);simp only[bd_s,bNk,aB (A _)];have b:j=0\/j=1:=by omega
  rcases b with rfl|rfl<;>rfl) (λrec=>by rfl) rfl]
 simp only[bd_s];have c:∀d∈dN seed N,d.sz=0:=λd hd=>by
  simp only[dN,cn] at hd;obtain⟨i,_,rfl⟩:=hd;rfl
 rw[show(0,dN seed N)=((λi:Nat=>i) ([]:List AD).length,([]:List AD)++dN seed N) from rfl,bUp (λi:Nat=>i) (p0:=[]) (l:=dN seed N) (Aw seed N) (by omega) (λrec p d r hp hd=>by
  have h0:=c d hd;simp only[bu] at hp;simp only[dF (show p.length<N by omega),ae,bIc,bd_s,aB (show d.sz<=34359738368/\(aV seed N).length<=34359738368 from⟨by omega,by omega⟩),bn,set_mid rfl,ck,fe];rfl) (by grind)]
 obtain⟨R,m⟩:∃R,R=((dN seed N).drop 1).map (Aw seed N):=⟨_,rfl⟩;have hm:(dN seed N).map (Aw seed N)=Aw seed N (bH (aQ seed 0))::R:=by
  grind[List.map,Aw,bEj]
 have B:R.length=N-1:=by rw[m,bg,cA,w]
 have e:∀d∈R,d.sz<=10:=(by grind[List.mem_of_mem_drop,aSb]);have D:=aSb seed N (bH (aQ seed 0));rw[aKi] at D;have hq:∀x:AD,bC (x::R) 0=some x:=λx=>rfl;rw[bz,hm,bd_s,bQj (n:=N) (d:=Aw seed N (bH (aQ seed 0))) (r:=R) h.2 (by omega) (λrec j x z F=>by
  simp only[ax (show(j:Int)<2 by omega),ae];rw[bQi (nm:=aA (j:Int)) (n:=N) (d:=x) (r:=R) h.2 F (by grind[Ya,dF,bd_s,aB,aA]) (by simp)];rfl) (λrec x=>by rfl)]
 have G:bCr N (Aw seed N (bH (aQ seed 0))) 2=mO seed N:=rfl;have o:dV (mO seed N)=nwW seed N:=rfl;have hc:(dK (fU (aV seed N) (jK seed N)).1 (nwW seed N).2.1).1=jS seed N:=rfl;have W:=aT6 seed N;have q:=Bg (mO seed N);rw[o] at q;have H:=aOr (aV seed N) (jK seed N);have a:∀x y:AD,(x::R).set (0:Int).toNat y=y::R:=λ_ _=>rfl;simp only[bd_s,G,hq,aB (show(mO seed N).sz<=34359738368 by omega),o,aB (show(fU (aV seed N) (jK seed N)).1.sz<=34359738300/\(nwW seed N).2.1.sz<=34359738300 from⟨by omega,by have:=q.2;simp only[AJ.sz];omega⟩),hc,a];rw[show((1:Int),(nwW seed N).1::R)=((λi:Nat=>(i:Int)) ([(nwW seed N).1]:List AD).length,[(nwW seed N).1]++R) from rfl,bUp (λi:Nat=>(i:Int)) (p0:=[(nwW seed N).1]) (l:=R) (λd=>(cK d (jS seed N).Log (jS seed N).Boxes (gB (jS seed N) 0).1).1) (by omega) (λrec p d r hp hd=>by
  have h0:=e d hd;simp only[ao,bu] at hp;simp only[dF (show p.length<N by omega),ae,bIc,bd_s,aB (show d.sz<=34359738100/\(jS seed N).sz<=34359738100 from⟨by omega,by omega⟩),bn,set_mid rfl,ck,fe,aK (by omega) (show(p.length:Int)+1<=9223372036854775807 by omega)];rfl) (by grind)]
 have I:[(nwW seed N).1]++R.map (λd=>(cK d (jS seed N).Log (jS seed N).Boxes (gB (jS seed N) 0).1).1)=kQ seed N:=by rw[m,gm];show(nwW seed N).1::_=(nwW seed N).1::_;simp[fu,bWm]
 rw[I];simp only[bd_s];rw[bKx (seed:=seed) (t:=t) (by grind) (by grind[aW,cA7,aB,bd_s,aK])];have f:(aAn seed t).length<=34359738368:=by grind[aAn,List.length_map,List.length_range]
 simp only[bd_s,aB (show([283]:List Int).length<=34359738300 by simp),aB (show([293]:List Int).length<=34359738300 by simp),aB (by omega),aB f];rfl
def aG2 (a b c:Int):Hy a b c=some (iP a b c):=by unfold Hy iP;cases fE c 1019==0<;>rfl
def Yc (s:AS)(e:Int):yK s e=some (A8 s e):=by unfold yK A8;cases oD e<;>cases e==1<;>cases bR s.Value 0 1018<;>rfl
def aMc (k:A3)(e:Int):Mj k e=some (zG k e):=by unfold Mj zG;cases kP k<;>cases k.Guesses==k.Limit<;>cases oD e<;>cases e==1<;>rfl
def aQn (a b:Int):Rl a b=some (nO a b):=by unfold Rl nO;rw[aB (show(2039:Int)≠0 by decide)];cases oD a<;>cases oD b<;>rfl
def aMd (v:A0)(o:Int):Mk v o=some (aKj v o):=by unfold Mk aKj;rw[bne];cases Av o v.Salt==v.Check<;>rfl
def aWe (h:AH)(e:Int)(a:h.sz<=34359738300):Xh h e=some (pW h e):=by
 have hq:=a;simp only[AH.sz] at hq;have b:aW h.Saved [h.State]:=by grind[List.length_cons,List.length_nil,aW]
 unfold Xh pW;rw[aB (by omega),bd_s];cases decide (kT h.State<h.Monotonic) with
 |true=>rfl
 |false=>
  rw[ac];cases(zG h.State e).2.2 with
  |false=>rfl
  |true=>
   simp only[aq,ac,aB b,jd];unfold bS1;cases hd:decide (((h.Saved++[h.State]).length:Int)>30) with
   |false=>rfl
   |true=>have:=of_decide_eq_true hd;rw[ae,aB (show jX (h.Saved++[h.State]) 1 from⟨by omega,by omega⟩),aB (by grind[aW,List.drop,Int.toNat,List.length_nil,List.length_drop,List.length_append,List.length_cons])];rfl
theorem cC2:((1019:Int)≠0)=True:=by simp
def aZa (b n:Int)(h:0<=n/\n<2048)(hb:0<=b/\b<1019):jA b n 1019=some (aPo 1019 11 b n 1):=by unfold jA;rw[show b.tmod 1019=b by rw[cg hb.1];omega,show(1:Int).tmod 1019=1 by decide,aGx (m:=1019) (by grind[Int.tmod_eq_emod_of_nonneg,Int.tdiv_eq_ediv_of_nonneg,aK,cC2,gd_T,bd_s]) 11 b n 1 FUEL (by grind[gX]) h.1 (by omega) (by omega)];rfl
def Qa (n:Int):uP n=some (aOu n):=by have hr:=pI (p:=n) (q:=1019) (by decide);unfold uP aOu;rw[aZa _ _ (by decide) ⟨hr.1,hr.2⟩];cases fE n 1019==0<;>rfl
def K6 (a b:Int):zZ a b=some (bB5 a b):=by unfold zZ bB5 gP;cases oD a<;>cases fE b 1019==0<;>rfl
theorem bKy {σ:Type}(g:σ->Nat->σ)(s:σ)(i:Nat):(List.range (i+1)).foldl g s=g ((List.range i).foldl g s) i:=by rw[dy,ga];rfl
theorem getD_at {l:List Int}{i:Nat}(h:i<l.length):l.getD i 0=l[i]:=by simp[*]
def bQk {l:List Int}{i:Int}(h0:0<=i)(h1:i<(l.length:Int)):bC l i=some (l.getD i.toNat 0):=by
 grind[List.getD,List.getElem?_eq_getElem,kJ]
def Ta (l:List Int)(k a:Int)(hl:l.length<=34359738368):vU l k a=some (Kl l k a):=by
 unfold vU Kl;rw[sU,bd_s];cases hk:(decide (k<0)||decide (k>=(l.length:Int))) with
 |true=>rfl
 |false=>
  have b:=Ve hk;rw[ac,cN];rw[kI (l:=l) (aFd (λq=>fE q 1019) l) (.inl (0:Int)) (.inr ()) (by omega) (λrec i hi=>by
   simp only[dF hi,ae];rw[bS3 (f:=λq=>fE q 1019) hi (by omega) (.inl (.inl (0:Int))) (.inr ()) (by grind[dF,aN,bd_s,BEq.comm]) (by simp)];cases aFd (λq=>fE q 1019) l i l[i]<;>rfl) (by simp)]
  cases gJ (aFd (λq=>fE q 1019) l) 0 l with
  |true=>rfl
  |false=>
   simp only[ac,nx_r,bQk b.1 b.2,bd_s];rw[Ut (τ:=Int) (s:=((1:Int),(0:Nat))) (λi (s:Int×Nat)=>s=((List.range i).foldl (aUb l k a) 1,i)) l.length (some ((List.range l.length).foldl (aUb l k a) 1)) (by omega) rfl (λi s rec hi hv=> ?_) (λs rec hv=> ?_)]
   all_goals grind[bKy,dF,aUb,bne,Bool.not_true,bd_s,Bool.not_false,aN,aB,getD_at]
def aZb (hs:List AH)(a:List Int)(pin b:Int)(h:hs.length<=34359738368/\a.length<=34359738368):X9 hs a pin b=some (aUc hs a pin b):=by unfold X9 aUc Ay;rw[kI (l:=a) (aUa hs a) (.inl false) (.inr ()) (by omega) (by grind[dF,aN,bd_s,aB,jX,Int.toNat_natCast,List.take,List.length_take,aUa,aFd,bd,decide,iQ]) (by simp)];rw[bne];cases gJ (aUa hs a) 0 a<;>cases fE b 1019==0<;>rfl
def bXg {e:Int}{hs:List AH}{a:List Int}(h:Ay hs a=true):AskIn (szL AH.sz hs) hs a.length (bDz hs a e):=by have:=aAp (e:=e) h a.length (aj _);unfold rO at this;rw[di] at this;exact this
def bXh (hs:List AH):hs.length<=szL AH.sz hs:=by simp
def aG3 (v:A0)(hs:List AH)(a:List Int)(pin b:Int)(h:szL AH.sz hs<=34000000000/\a.length<=100000000):Hz v hs a pin b=some (bMn v hs a pin b):=by
 have hl:=bXh hs;unfold Hz bMn zH bS2;rw[aB (by omega),bd_s,aB (by omega),bd_s];cases hm:aUc hs a pin b with
 |false=>rfl
 |true=>
  have hc:Ay hs a=true:=by
   grind[aUc]
  simp only[aq,ac,bd_s,cw];have main:EV.bU (α:=List Int×List Int×Bool×List AH) FUEL (λj (c:(List Int×List Int×Bool×Nat×List AH))=>bif (decide ((↑c.2.2.2.1:Int)<(↑a.length:Int))) then(bd (bC a (↑c.2.2.2.1:Int)) λk=>bd (bC (c.2.2.2.2) k) λp=>bd (gd (p.sz<=34359738300) (some (pW p (iP v.Salt pin b)))) λf=>bd (bC (c.2.2.2.2) k) λG=>bd (bif (c.2.2.1) then(some (f.2.2)) else(some (false))) λt=>gd (aW c.1 [f.1.State.aAQ.Index]) (gd (aW c.2.1 [f.2.1]) (j ((c.1++[f.1.State.aAQ.Index],c.2.1++[f.2.1],t,(c.2.2.2.1+1),c.2.2.2.2.set k.toNat f.1))))) else(some (c.1,c.2.1,c.2.2.1,c.2.2.2.2))) ([],[],true,0,hs)
    =some (bMl v hs a pin b,bMm v hs a pin b,(jW v hs a pin b).2.2.length==a.length,(jW v hs a pin b).1)/\((jW v hs a pin b).2.2.length=a.length->bMl v hs a pin b=(jW v hs a pin b).2.1/\bMm v hs a pin b=(jW v hs a pin b).2.2)/\(bMl v hs a pin b).length=a.length/\(bMm v hs a pin b).length=a.length:=by
   have st:∀i,i<=a.length->∃ix vs,EV.bU (α:=List Int×List Int×Bool×List AH) 0 (λ_ _=>none) (ix,vs,true,0,hs)=none/\ix.length=i/\vs.length=i/\(((rO (iP v.Salt pin b) hs a i).2.2.length=i)->ix=(rO (iP v.Salt pin b) hs a i).2.1/\vs=(rO (iP v.Salt pin b) hs a i).2.2)/\ix=uJ v hs a pin b i/\vs=uK v hs a pin b i:=λi hi=>by
    refine⟨uJ v hs a pin b i,uK v hs a pin b i,rfl,?_,?_,?_,rfl,rfl⟩
    ·simp[uJ]
    ·simp[uK]
    ·intro he;induction i with
     |zero=>exact⟨rfl,rfl⟩
     |succ i H=>
      have d:=aAp (e:=iP v.Salt pin b) hc i (by omega);rw[Pk hi] at he ⊢;unfold uJ uK;rw[dy,dp,dp];simp only[bo,fY];have l:Ga v hs a pin b i=pW ((rO (iP v.Salt pin b) hs a i).1.getD (a[i]).toNat default) (iP v.Salt pin b):=by unfold Ga;rw[getD_at hi];rfl
      rw[l];unfold bDy at he ⊢;cases hb:(pW ((rO (iP v.Salt pin b) hs a i).1.getD (a[i]).toNat default) (iP v.Salt pin b)).2.2 with
      |false=>
       rw[hb] at he;have:=d.le
       grind
      |true=>
       grind[uK,uJ,List.length_append,List.length_cons,List.length_nil]
   have all:∀i,i<=a.length->(rO (iP v.Salt pin b) hs a i).2.2.length<=i:=λi hi=>(aAp hc i hi).le;have eAll:rO (iP v.Salt pin b) hs a a.length=jW v hs a pin b:=by unfold rO jW bDz;rw[di]
   refine⟨?_,?_,?_,?_⟩
   ·rw[Ut (τ:=List Int×List Int×Bool×List AH) (s:=(([]:List Int),([]:List Int),true,(0:Nat),hs)) (λi (s:List Int×List Int×Bool×Nat×List AH)=>s=(uJ v hs a pin b i,uK v hs a pin b i,(rO (iP v.Salt pin b) hs a i).2.2.length==i,i,(rO (iP v.Salt pin b) hs a i).1)) a.length
     (some (bMl v hs a pin b,bMm v hs a pin b,(jW v hs a pin b).2.2.length==a.length,(jW v hs a pin b).1)) (by omega) rfl (λi s rec hi hv=> ?_) (λs rec hv=> ?_)]
    ·left;subst hv;refine⟨_,rfl,?_⟩;have d:=aAp (e:=iP v.Salt pin b) hc i (by omega);have m:=aKk hc hi;have l:Ga v hs a pin b i=pW ((rO (iP v.Salt pin b) hs a i).1.getD (a[i]).toNat default) (iP v.Salt pin b):=by unfold Ga;rw[getD_at hi];rfl
     have u:uJ v hs a pin b (i+1)=uJ v hs a pin b i++[(Ga v hs a pin b i).1.State.aAQ.Index]:=by simp[dy,dp,uJ]
     have w:uK v hs a pin b (i+1)=uK v hs a pin b i++[(Ga v hs a pin b i).2.1]:=by simp[dy,dp,uK]
     have l1:(uJ v hs a pin b i).length=i:=by grind
     have l2:(uK v hs a pin b i).length=i:=by grind
     rw[u,w,l,Pk hi];generalize uJ v hs a pin b i=ix at*;generalize uK v hs a pin b i=vs at*;generalize rO (iP v.Salt pin b) hs a i=s at*;obtain⟨q1,q2,q3,q4⟩:=d;have hk:a[i].toNat<s.1.length:=by omega
     have hg:s.1.getD a[i].toNat default=s.1[a[i].toNat]:=by simp[*]
     have n:bC s.1 a[i]=some s.1[a[i].toNat]:=kJ m.1 hk;have I:=q2 _ (bw hk);simp only[dF hi,ae,aN hi,bd_s,n];unfold bDy;rw[hg];generalize s.1[a[i].toNat]=x at*;rw[aB (by omega),bd_s];have z:∀y:Int,aW ix [y]:=(by grind[aW,List.length_cons,List.length_nil]);have A:∀y:Int,aW vs [y]:=(by grind[aW,List.length_cons,List.length_nil]);rw[Pf,bd_s,aB (z _),aB (A _)];have o:(bif s.2.2.length==i then(pW x (iP v.Salt pin b)).2.2 else false)=((bif (pW x (iP v.Salt pin b)).2.2 then s.2.2++[(pW x (iP v.Salt pin b)).2.1] else s.2.2).length==i+1):=by
      grind
     rw[o]
    ·subst hv;simp only[aTn,ac];rw[eAll];rfl
   ·intro he;obtain⟨ix,vs,_,_,_,r,B,D⟩:=st a.length (aj _);rw[eAll] at r;have:=r he;rw[B,D] at this;exact this
   ·show(uJ v hs a pin b a.length).length=_;simp[uJ]
   ·show(uK v hs a pin b a.length).length=_;simp[uK]
  obtain⟨F,J,K,L⟩:=main;rw[F,bd_s];have q:=bXg (e:=iP v.Salt pin b) hc;have hq:(jW v hs a pin b).2.2.length<=a.length:=q.le
  grind[jW,beq_eq_false_iff_ne,decide_eq_true,decide,n1,n2,decide_eq_false,aB,bd_s,pX,sU]
def aG4 (v:A0)(hs:List AH)(a:List Int)(pin b:Int)(h:szL AH.sz hs<=34000000000/\a.length<=100000000):Ia v hs a pin b=some (zH v hs a pin b):=by unfold Ia;rw[aB h];rfl
def cC3 (w:AA):szL AH.sz w.Hosts<=w.sz/\w.Mail.sz<=w.sz:=by
 grind[AA.sz,AU.sz]
def K7 (w:AA)(a:List Int)(pin:Int)(h:w.sz<=34000000000/\a.length<=100000000):Aa w a pin=some (fG w a pin):=by
 obtain⟨q1,q2⟩:=cC3 w;unfold Aa fG;rw[aB (by omega),bd_s,aB (by omega),bd_s];cases aP w with
 |false=>rfl
 |true=>rw[aB (by simp),bd_s,aB (by decide),aB (by omega),bd_s,aB (by omega),bd_s];rfl
def aG5 (w:AA)(pin:Int)(h:w.sz<=33000000):Ib w pin=some (Az w pin):=by
 have hl:w.Hosts.length<=w.sz:=by grind[AA.sz]
 have b:=aUd w;unfold Ib;have c:IntKind.i64.wrap ((w.Hosts.length:Int)+1)=(w.Hosts.length:Int)+1:=(by grind[aK]);have a:(if IntKind.i64.wrap ((w.Hosts.length:Int)+(1:Int))<w.aAK.Threshold then IntKind.i64.wrap ((w.Hosts.length:Int)+(1:Int)) else w.aAK.Threshold)=min w.aAK.Threshold ((w.Hosts.length:Int)+1):=by rw[c];split<;>omega
 rw[a];rw[Ut (τ:=List Int) (s:=(([]:List Int),(0:Nat))) (λi (s:List Int×Nat)=>s=((List.range i).map (λ(k:Nat)=>(k:Int)),i)) (min w.aAK.Threshold ((w.Hosts.length:Int)+1)).toNat (some (yS w)) (by omega) rfl (λi s rec hi hv=> ?_) (λs rec hv=> ?_)]
 ·rw[bd_s,aB (by omega)];rfl
 ·grind[decide_eq_true,min,aB,aW,List.range,List.length_map,List.length_range,List.length_cons,List.length_nil,List.range_succ]
 ·subst hv;simp only;rw[au (by omega),ac];rfl
def aB2 (w:AA)(d:Int)(h:w.sz<=34359738368):Dp w d=some (nP w d):=by
 unfold Dp nP;simp only[aB h,bd_s];cases a:aP w with
 |false=>unfold dL;rw[a];rfl
 |true=>
  cases hd:aL w d with
  |false=>unfold dL;rw[a,hd];rfl
  |true=>
   have ht:dL w d 0=true:=by obtain⟨_,_,b,_⟩:=Io a;unfold dL;rw[a,hd];unfold fA;rw[ax (show(0:Int)<=0 by decide),ax (show(0:Int)<(w.Sites.length:Int) by omega)];rfl
   simp only[aq,ac,bCq ht,bd_s,ht,cw];cases bZ w d<;>rfl
def aG6 (w:AA)(d j:Int)(b:w.sz<=34359738200):Ha w d j=some (aKl w d j):=by
 have a:w.sz<=34359738368:=by omega
 unfold Ha aKl;simp only[aB a,bd_s];rw[show(bZ w d==true)=bZ w d by cases bZ w d<;>rfl];cases hq:dL w d j&&bZ w d with
 |false=>rfl
 |true=>rw[ab] at hq;simp only[aq,ac,ae];exact(dU (aB (show mE (aFa j)/\w.sz<=34359738200 from⟨bSz (Xy hq.1).2.2.2.1,b⟩)) rfl)
def bKz (l:List Int):bKg l=some (bS4 l):=rfl
def bUq (x:Int):0<=qV IntKind.i64 x 255/\qV IntKind.i64 x 255<=255:=by
 unfold qV;rw[BitVec.toNat_and];have h:((BitVec.ofInt IntKind.i64.bits x).toNat&&&(BitVec.ofInt IntKind.i64.bits 255).toNat)<=255:=bv Nat.and_le_right (by decide)
 grind[aK]
theorem aSi {c:AR}(h:dP c):dP (mF c).1/\0<=(mF c).2/\(mF c).2<=255:=by
 unfold mF;obtain⟨h1,h2⟩:=h;cases hc:decide (c.i<(c.b.length:Int)) with
 |true=>
  have hc:=of_decide_eq_true hc;refine⟨⟨?_,h2⟩,bUq _⟩
  grind[aK]
 |false=>exact⟨⟨h1,h2⟩,bUq _⟩
theorem bQ {c:AR}(h:dP c)(n:Int):dP (eQ c n).1/\0<=(eQ c n).2/\(0<n->(eQ c n).2<n)/\(n<=0->(eQ c n).2=0):=by
 obtain⟨h1,h2,a⟩:=aSi h;obtain⟨k1,k2,k3⟩:=aSi h1;obtain⟨l1,l2,b⟩:=aSi k1;unfold eQ;by_cases hn:n<=0
 ·simp[*]
 ·rw[au hn];have hn:0<n:=by omega
  simp only[ac];by_cases hb:n<=256
  ·simp_all[fL,fS,absurd,ax];omega
  ·rw[au hb];simp only[ac];generalize(mF c).2=x at*;generalize(mF (mF c).1).2=y at*;generalize(mF (mF (mF c).1).1).2=z at*;rw[aK (show-9223372036854775808<=x*65536 by omega) (by omega),aK (show-9223372036854775808<=y*256 by omega) (by omega),aK (show-9223372036854775808<=x*65536+y*256 by omega) (by omega),aK (by omega) (by omega)];exact⟨l1,fL n (by omega),λ_=>fS _ hn,λq=>absurd q (by omega)⟩
def bXi {a b c d e:Int}(f:0<=a)(h:a<4)(b1:0<=b)(i:b<3)(j:0<=c)(l:0<IntKind.i64.wrap (1+a)->c<IntKind.i64.wrap (1+a))(d1:0<=d)(d2:d<40)(m:0<=e)(o:e<999):
  ∃n k t p s,bN (IntKind.i64.wrap (1+b)) (IntKind.i64.wrap (1+a)) (IntKind.i64.wrap (1+c)) d (IntKind.i64.wrap (1+e))=bN n k t p s/\Kk n k t p s=true/\1<=s/\s<=999:=by
 grind[bL,kF,d1,Kk,aK]
theorem aWf {c:AR}(h:dP c):dP (pY c).1/\∃n k t p s,(pY c).2=bN n k t p s/\Kk n k t p s=true/\1<=s/\s<=999:=by have a:dP (dA c).1:=(bQ h 4).1;have b:dP (dB c).1:=(bQ a 3).1;have d:dP (dC c).1:=(bQ b (IntKind.i64.wrap (1+(dA c).2))).1;have e:dP (dD c).1:=(bQ d 40).1;have f:dP (dE c).1:=(bQ e 999).1;have i:0<=(dA c).2:=(bQ h 4).2.1;have j:(dA c).2<4:=(bQ h 4).2.2.1 (by decide);have b1:0<=(dB c).2:=(bQ a 3).2.1;have l:(dB c).2<3:=(bQ a 3).2.2.1 (by decide);have m:0<=(dC c).2:=(bQ b (IntKind.i64.wrap (1+(dA c).2))).2.1;have o:0<IntKind.i64.wrap (1+(dA c).2)->(dC c).2<IntKind.i64.wrap (1+(dA c).2):=(bQ b (IntKind.i64.wrap (1+(dA c).2))).2.2.1;have d1:0<=(dD c).2:=(bQ d 40).2.1;have d2:(dD c).2<40:=(bQ d 40).2.2.1 (by decide);have q:0<=(dE c).2:=(bQ e 999).2.1;have r:(dE c).2<999:=(bQ e 999).2.2.1 (by decide);unfold pY;dsimp only;exact⟨f,bXi i j b1 l m o d1 d2 q r⟩
def bNl {l:List Int}(h:l.length<=1048576):3<=Gb l 14/\Gb l 14<=14:=by
 grind[decide_eq_false,decide_eq_true,aK,Gb,Int.tdiv_le_self,Int.tdiv_nonneg]
def bUr {l:List Int}(h:l.length<=1048576):dP (bO9 l):=⟨cL _,h⟩
def aZc (c:AR)(h:dP c):U8 c=some (mF c):=by
 unfold U8 mF;rw[aB (by decide),aB (by decide)];cases hc:decide (c.i<(c.b.length:Int)) with
 |true=>have hc:=of_decide_eq_true hc;have h0:=h.1;rw[ae,ae,kJ h0 (by omega),List.getD,aa (show c.i.toNat<c.b.length by omega)];rfl
 |false=>rfl
def aWg (c:AR)(n:Int)(h:dP c):Vt c n=some (eQ c n):=by
 grind[decide_eq_false,decide_eq_true,aB,bd_s,Vt,eQ,aSi]
def aZd (c:AR)(n:Int)(h:dP c):V9 c n=some (Vj c n):=by unfold V9;rw[aB h];rfl
def aZe (l:List Int)(m:Int):V8 l m=some (Gb l m):=by unfold V8 Gb;rw[aB (by decide)];cases decide (IntKind.i64.wrap (3+IntKind.i64.wrap ((l.length:Int).tdiv 12))>m)<;>rfl
def aZf (c:AR)(h:dP c):V7 c=some (pY c):=by have b:dP (dA c).1:=(bQ h 4).1;have d:dP (dB c).1:=(bQ b 3).1;have e:dP (dC c).1:=(bQ d (IntKind.i64.wrap (1+(dA c).2))).1;have f:dP (dD c).1:=(bQ e 40).1;unfold V7;exact dU (a:=dA c) (aB h) (dU (a:=dB c) (aB b) (dU (a:=dC c) (aB d) (dU (a:=dD c) (aB e) (dU (a:=dE c) (aB f) rfl))))
theorem bUs {c:AR}(h:dP c):dP (Pm c).1/\aJ8 (Pm c).2:=by
 have e:dP (eA c).1:=(bQ h 13).1;have s:0<=(eA c).2:=(bQ h 13).2.1;have t:(eA c).2<13:=(bQ h 13).2.2.1 (by decide);have i:dP (eB c).1:=(bQ e 4).1;have j:0<=(eB c).2:=(bQ e 4).2.1;have u:(eB c).2<4:=(bQ e 4).2.2.1 (by decide);have l:dP (eC c).1:=(bQ i 3).1;have m:0<=(eC c).2:=(bQ i 3).2.1;have w:(eC c).2<3:=(bQ i 3).2.2.1 (by decide);have n:dP (eD c).1:=(bQ l 4).1;have d2:0<=(eD c).2:=(bQ l 4).2.1;have d3:(eD c).2<4:=(bQ l 4).2.2.1 (by decide);have a:dP (eE c).1:=(bQ n 3).1;have o:dP (eQ (eE c).1 40).1:=(bQ a 40).1;have p:0<=(eQ (eE c).1 40).2:=(bQ a 40).2.1;have f3:(eQ (eE c).1 40).2<40:=(by grind[bQ]);have r:dP (Vj (eE c).1 2).1:=(bQ a 2).1;have hk:1<=eK c/\eK c<=13:=by grind[aK,eK]
 unfold Pm;generalize eK c=k at*;generalize(eB c).2=b at*;generalize(eC c).2=d at*;generalize(eD c).2=v at*;generalize(eQ (eE c).1 40)=f at*;generalize(Vj (eE c).1 2)=g at*;generalize eE c=q at*;cases h1:k==11 with
 |true=>rw[cW] at h1;exact⟨o,hk,⟨j,by show b<=3;omega⟩,⟨m,by show d<=2;omega⟩,⟨p,by show f.2<=39;omega⟩,λq=>absurd h1 q⟩
 |false=>
  cases h2:k==4||k==13 with
  |true=>
   refine⟨r,?_,⟨j,by show b<=3;omega⟩,⟨m,by show d<=2;omega⟩,⟨d2,by show v<=39;omega⟩,λ_=>by show v<=3;omega⟩
   grind
  |false=>exact⟨a,hk,⟨j,by show b<=3;omega⟩,⟨m,by show d<=2;omega⟩,⟨d2,by show v<=39;omega⟩,λ_=>by show v<=3;omega⟩
def bK0 {c:AR}(h:dP c):∀n,dP (Jj c n).1/\(Jj c n).2.length=n/\∀e∈(Jj c n).2,aJ8 e
 |0=>⟨h,rfl,λe he=>by simp[Jj] at he⟩
 |n+1=>by
  obtain⟨h1,h2,a⟩:=bK0 h n
  grind[k2,Jj,List.mem_singleton,k1,bUs]
def bXj {l:List Int}(h:l.length<=1048576):(∃n k t p s,(Ql l).1=bN n k t p s/\Kk n k t p s=true/\1<=s/\s<=999)/\(Ql l).2.length<=19/\∀e∈(Ql l).2,aJ8 e:=by
 obtain⟨h1,h2⟩:=aWf (bUr h);have hs:=bNl h;have hm:IntKind.i64.wrap (6+Gb l 14)<=20/\0<IntKind.i64.wrap (6+Gb l 14):=by grind[aK]
 obtain⟨k1,k2,k3,_⟩:=bQ h1 (IntKind.i64.wrap (6+Gb l 14));obtain⟨_,b,a⟩:=bK0 k1 (eQ (pY (bO9 l)).1 (IntKind.i64.wrap (6+Gb l 14))).2.toNat;refine⟨h2,?_,a⟩;show(Jj _ _).2.length<=19;omega
def aQo (c:AR)(h:dP c):Qw c=some (Pm c):=by
 have b:dP (eA c).1:=(bQ h 13).1;have d:dP (eB c).1:=(bQ b 4).1;have e:dP (eC c).1:=(bQ d 3).1;have f:dP (eD c).1:=(bQ e 4).1;have i:dP (eE c).1:=(bQ f 3).1;unfold Qw;refine dU (a:=eA c) (aB h) (dU (a:=eB c) (aB b) (dU (a:=eC c) (aB d) (dU (a:=eD c) (aB e) (dU (a:=eE c) (aB f) ?_))));change bd (bif eK c==11 then _ else bd (bif eK c==4 then _ else some (eK c==13)) _) _=_;unfold Pm;cases eK c==11 with
 |true=>simp only[ae];exact dU (dU (a:=eQ (eE c).1 40) (aB i) rfl) rfl
 |false=>
  simp only[ac];rw[show(bif eK c==4 then(some true:Option Bool) else some (eK c==13))=some (eK c==4||eK c==13) by cases eK c==4<;>rfl,bd_s];cases eK c==4||eK c==13 with
  |true=>
   simp only[ae];cases hq:(Vj (eE c).1 2).2 with
   |true=>simp[*]
   |false=>exact dU (dU (a:=Vj (eE c).1 2) (aB i) (by rw[hq];rfl)) rfl
  |false=>rfl
def aMe (c:AR)(m:Int)(h:dP c/\m<=256):Lh c m=some (A9 c m):=by
 obtain⟨h,hm⟩:=h;obtain⟨k1,k2,k3,k4⟩:=bQ h m;have hv:(eQ c m).2<=256:=by omega
 unfold Lh A9;rw[aB h,bd_s];generalize(eQ c m).1=a at*;generalize(eQ c m).2=v at*;obtain⟨n,rfl⟩:=dT k2;rw[bn];refine dU (sG (r:=((Jj a n).2,(Jj a n).1.b,(Jj a n).1.i,(Jj a n).1.h)) (λi=>((Jj a i).2,((n-i:Nat):Int),(Jj a i).1.b,(Jj a i).1.i,(Jj a i).1.h)) n (by omega) (λrec i hi=> ?_) (λrec=> ?_) rfl) rfl
 ·obtain⟨q1,q2,_⟩:=bK0 k1 i;simp only[ax (show((n-i:Nat):Int)>0 by omega),ae];rw[aB (show dP ⟨(Jj a i).1.b,(Jj a i).1.i,(Jj a i).1.h⟩ from q1),bd_s,aB (by grind[q2,List.length_singleton,aW]),show IntKind.i64.wrap (((n-i:Nat):Int)-1)=((n-(i+1):Nat):Int) by rw[aK (by omega) (by omega)];omega];rfl
 simp
def aB3 (l:List Int)(h:l.length<=1048576):Cu l=some (Ql l):=by
 unfold Cu;refine dU (a:=bX9 l) (sG (λi=>(bMs l i,(i:Int))) (min l.length 4000) (by omega) (λrec i hi=> ?_) (λrec=> ?_) rfl) ?_
 ·grind[aK,bMs,List.getD,List.getElem?_eq_getElem,decide_eq_true,bd_s,aN]
 ·by_cases hl:l.length<4000
  ·simp only[au (show ¬((min l.length 4000:Nat):Int)<(l.length:Int) by omega),ac,bd_s];rfl
  ·simp only[au (show ¬((min l.length 4000:Nat):Int)<4000 by omega),bZp,bd_s,ac];cases decide (((min l.length 4000:Nat):Int)<(l.length:Int))<;>rfl
 ·have hs:=bNl h;have h1:=bUr h;exact dU (a:=pY (bO9 l)) (aB h1) (dU (a:=A9 (pY (bO9 l)).1 (IntKind.i64.wrap (6+Gb l 14))) (by grind[aB,aWf,aK]) rfl)
def aQp (l:List Int)(x:Int)(h:l.length<=1099511627776):Ro l x=some (iQ l x):=by unfold Ro;rw[jR (l:=l) (λe=>e==x) (.inl true) (.inr ()) (by omega) (by grind[dF,aN,bd_s]) (by simp)];unfold iQ;cases l.any _<;>rfl
def cA9 (n k t pin seed:Int):(bN n k t pin seed).Hosts.length<=7:=by
 unfold bN;cases Kk n k t pin seed with
 |false=>exact cE _
 |true=>exact(aFc pin 7 (aU seed [283]) (IntKind.i64.wrap (1+(aU seed [293]).tmod 1018)) (aAn seed t) k 5).1
def bId {w:AA}{l:List AY}(h:WIn w.Devices.length w)(a:w.Hosts.length<=400):∀k,WIn (runN w l k).Devices.length (runN w l k)/\(runN w l k).Hosts.length<=400/\(runN w l k).sz<=w.sz+3000*k/\(runN w l k).Seed=w.Seed
 |0=>⟨h,a,aj _,rfl⟩
 |k+1=>by
  obtain⟨h1,h2,c,b⟩:=bId (l:=l) h a k;have:=bJ7 h1 h2 (l.getD k default).Kind (l.getD k default).Device (l.getD k default).Other (l.getD k default).Value (l.getD k default).Flag;exact⟨this.kept.wi,bv this.hosts h2,by have:=this.kept.sz;show(yT _ _ _ _ _ _).1.sz<=_;omega,this.kept.seed.trans b⟩
def bYl {m:Nat}{w:AA}(h:WIn m w){j:Int}(c:j=0\/j=1):∃l,sS w j=l.map AV.Public/\Kn w.Seed j l/\l.length=m:=by
 have h2:=h.two;rcases c with rfl|rfl
 ·obtain⟨l,e,a,b⟩:=(h.site 0 (by omega)).acc;refine⟨l,?_,a,b⟩;simp_all[q9,mI,ax,default,List.getD,aa,sS,fA]
 ·obtain⟨l,e,a,b⟩:=(h.site 1 (by omega)).acc;refine⟨l,?_,a,b⟩;simp_all[q9,mI,ax,default,List.getD,aa,sS,fA]
def K8 (a b:AB)(h:a.sz<=34359738368):Ae a b=some (kU a b):=by
 unfold Ae kU;have hl:a.Entries.length<=34359738368:=by assumption
 by_cases he:a.Entries.length=b.Entries.length
 ·rw[show((a.Entries.length:Int) !=(b.Entries.length:Int))=false by simp[he],ac,cW.2 he,cw];rw[jR (l:=a.Entries.zip b.Entries) (λp=> !AG.eqB p.1 p.2) (.inl false) (.inr ()) (by grind) (λrec i hi=>by
   rw[List.length_zip] at hi;simp only[dF (show i<a.Entries.length by omega),ae,aN (show i<a.Entries.length by omega),aN (show i<b.Entries.length by omega),bd_s,ji];rfl) (by simp[*]),bL4]
  cases(List.zipWith AG.eqB a.Entries b.Entries).all id<;>rfl
 grind
def bQl (a b:AD):(bif !(kU a.aAC b.aAC) then some true else bif (a.Epoch !=b.Epoch) then some true else bif (a.Version !=b.Version) then some true else some (a.Key !=b.Key))=some (!aTp a b):=by unfold aTp;cases kU a.aAC b.aAC<;>cases h1:(a.Epoch==b.Epoch)<;>cases h2:(a.Version==b.Version)<;>cases c:(a.Key==b.Key)<;>simp[bne,h1,h2,c]
def cBa {w:AA}{d:Int}(h:w.sz<=34359738368)(hd:aL w d=true):(aH w d).aAC.sz<=34359738368:=by
 have h2:=(bCl hd).2.2.1
 grind[aH,AD.sz,AB.sz]
def aB4 (w:AA)(h:w.sz<=34359738368):Ed w=some (bBp w):=by
 unfold Ed bBp;rw[aB (aLh h),bd_s];have b:=bBq w;have hl:=bP5 w;generalize bB w=l at*;rw[jR (l:=l) (λi=> !aTp (aH w (l.getD 0 0)) (aH w i)) (.inl false) (.inr ()) (by omega) (λrec i hi=>by
  have h0:l[0]'(by omega)=l.getD 0 0:=by grind
  have hd:=b _ (bw hi);have a:=b _ (bw (show 0<l.length by omega));have c:bC l 0=some (l.getD 0 0):=by grind[aN]
  rw[h0] at a;simp only[dF hi,ae,aN hi,bd_s,c,qI hd,qI a,aB (cBa h a),bQl]) (by simp)]
 rw[show(l.all λi=>aTp (aH w (l.getD 0 0)) (aH w i))= !(l.any λi=> !aTp (aH w (l.getD 0 0)) (aH w i)) by rw[List.any_eq_not_all_not];simp];cases l.any _<;>rfl
def bXk {w:AA}{i:Nat}(h:w.sz<=34359738368)(hi:i<w.Sites.length):w.Sites[i].Accounts.length<=34359738368/\∀k (hk:k<w.Sites[i].Accounts.length),w.Sites[i].Accounts[k].Credentials.length<=34359738368:=by
 have h1:w.Sites[i].sz<=w.sz:=by
  have:=xI (f:=AC.sz) hi
  grind[AA.sz,List.getD,List.getElem?_eq_getElem]
 refine⟨by simp only[AC.sz] at h1;omega,λk hk=> ?_⟩;have:=xI (f:=AI.sz) hk
 grind[AI.sz,AC.sz,List.getD,List.getElem?_eq_getElem]
def cEi:bD aKm=387010709:=by kernel_rfl
def bQm:List (Int×Int):=[(387010709,0),(387010709,1),(387010709,2),(387010709,3)]
def bEk:KeyD (aPp++bQm):=bWy (by decide) (by decide)
def cBb {e:AY}(h:aJ8 e):e.Kind=8->(bD aKm,e.Value)∈aPp++bQm:=λq=>by
 have a:=h.2.2.2.1;have b:=h.2.2.2.2 (by omega);rw[cEi];rcases(show e.Value=0\/e.Value=1\/e.Value=2\/e.Value=3 by omega) with q|q|q|q<;>rw[q]<;>decide
def bXl {a u:AB}(h:dY a u=(a,true)):a.sz<=20/\u.sz<=20:=by
 grind[aO,nK,AB.sz,dY,aKb]
def bEl {S:List (Int×Int)}(a:KeyD S){w:AA}{v:List AY}(h:All S 0 w)(hv:∀e∈v,e.Kind=8->(bD aKm,e.Value)∈S):∀k,k<=v.length->k<=58->All S k (runN w v k)
 |0,_,_=>h
 |k+1,h1,h2=>by
  have hm:v.getD k default∈v:=by rw[List.getD,aa (show k<v.length by omega)];exact bw _
  exact(bEl a h hv k (by omega) (by omega)).apply a (by omega) _ _ _ _ _ (hv _ hm)
def aB5 (l:List AY):Cx l=some (List.take 60 l):=by
 grind[aB,jX,Int.toNat_natCast,List.take_length,List.take_of_length_le,Cx]
def Nb (b:AQ)(now:Int)(h:b.sz<=34359738368):tL b now=some (nQ b now):=by
 unfold tL nQ;rw[aB h,bd_s,aB h,bd_s];cases hb:eX b with
 |false=>rfl
 |true=>
  have hl:b.Open.length<=16:=by
   grind[eX]
  simp only[aq,ac,ae];refine dU (a:=b.Open.filter λc=>decide (c.Until>=now)) (sG (λi=>(i,(b.Open.take i).filter λc=>decide (c.Until>=now))) b.Open.length (by omega) (λrec i hi=> ?_) (λrec=> ?_) rfl) rfl
  ·grind[decide,aB,aW,List.length_singleton,bd_s,List.take_succ_eq_append_getElem,Nat.le_trans,List.length_filter_le,List.length_take,dF,aN]
  simp
def bIe (w:AA)(h:w.sz<=34359738368):aO7 w=some (tF w):=by
 unfold aO7 tF;rw[aB h,bd_s];refine dU (a:=aP (tC w)) (aB (by assumption)) ?_;cases c:aP (tC w) with
 |false=>rfl
 |true=>
  obtain⟨h2,_⟩:=Io c;change w.Sites.length=2 at h2;have b:∀s∈w.Sites,s.Book.sz<=34359738368:=λs hs=>by
   have h1:s.sz<=w.sz:=by
    obtain⟨i,hi,rfl⟩:=cI.1 hs;have:=xI (f:=AC.sz) hi
    grind[AA.sz,List.getD,List.getElem?_eq_getElem]
   grind[AC.sz,AQ.sz]
  obtain⟨s0,s1,e⟩:∃s0 s1,w.Sites=[s0,s1]:=by
   match hq:w.Sites,h2 with
   |[s0,s1],_=>exact⟨s0,s1,rfl⟩
  rw[e] at b;have d:=b s0 (by simp);have j:=b s1 (by simp);rw[aq,ac,ae];rw[e];refine dU (sG (λi=>(i,match i with|0=>[s0,s1]|1=>[{s0 with Book:=nQ s0.Book (tC w).Now},s1]|_=>[{s0 with Book:=nQ s0.Book (tC w).Now},{s1 with Book:=nQ s1.Book (tC w).Now}])) 2 (by omega) (λrec i hi=> ?_) (λrec=> ?_) rfl) rfl
  ·rcases(show i=0\/i=1 by omega) with rfl|rfl
   ·exact dU (aB d) rfl
   ·exact dU (aB j) rfl
  ·rfl
def aG7 (w:AA)(d j:Int)(o:ByteArray)(h:aKn w d j o/\w.sz<=34359738200):Gz w d j o=some (aSc w d j o):=by
 have a:w.sz<=34359738368:=by omega
 unfold Gz aSc;rw[aB a,bd_s,aB a];cases ht:dL w d j with
 |false=>rfl
 |true=>
  cases bZ w d with
  |true=>rfl
  |false=>exact dU (aB (show mE (AP.mk true o 443)/\w.sz<=34359738200 from⟨h.1 ht,h.2⟩)) rfl
def bUt (w:AA)(d j:Int):aKn w d j (aKh j).Host:=λht=>by
 rcases(Xy ht).2.2.2.1 with rfl|rfl
 ·exact⟨4,by decide,rfl⟩
 ·exact⟨5,by decide,rfl⟩
def aG8 (w:AA)(e:AY)(h:w.sz<=33000000):Ih w e=some (evF w e):=by
 have a:w.sz<=34359738368:=by omega
 have b:w.sz<=34359738200:=by omega
 have k:w.sz<=100000000:=by omega
 have c:w.sz<=34359738300:=by omega
 have l:w.sz<=10000000000:=by omega
 have m:w.sz<=34359738100:=by omega
 have hn:=Ya e.Other;unfold Ih evF yT;rw[aB a,bd_s];cases aP w with
 |false=>simp[*]
 |true=>
 rw[aq,ac];cases h1:e.Kind==1 with
 |true=>simp[*]
 |false=>
 cases h2:e.Kind==2 with
 |true=>simp[*]
 |false=>
 cases n:e.Kind==3 with
 |true=>rw[ac,ac,ae,aB (by show 6+(aA e.Other).size<=_;omega),aB (by rw[ByteArray.size_append];show 6+(aA e.Other).size+9<=_;omega)];exact aO9 (dU (aB (show aKn w e.Device e.Other (aKh e.Other).Host/\w.sz<=34359738200 from⟨bUt _ _ _,b⟩)) rfl) rfl
 |false=>
 cases o:e.Kind==4 with
 |true=>simp[*]
 |false=>
 cases p:e.Kind==5 with
 |true=>simp[*]
 |false=>
 cases q:e.Kind==6 with
 |true=>simp[*]
 |false=>
 cases r:e.Kind==7 with
 |true=>simp[*]
 |false=>
 cases s:e.Kind==8 with
 |true=>simp only[ac,ae];rw[aB (show w.sz<=34359738300/\_ from⟨c,by decide⟩)];rfl
 |false=>
 cases t:e.Kind==9 with
 |true=>simp[*]
 |false=>
 cases d:e.Kind==10 with
 |true=>simp[*]
 |false=>
 cases f:e.Kind==11 with
 |true=>simp[*]
 |false=>
 cases i:e.Kind==12 with
 |true=>simp[*]
 |false=>
 cases j:e.Kind==13<;>simp_all
theorem bUu {l:List AY}{i:Nat}(h:i<(l.take 60).length):(l.take 60)[i]=l.getD i default:=by
 have:i<l.length:=by grind
 rw[List.getD,aa this,cr,jb]
def aMf (w:AA)(l:List AY)(h:Km w l):Ml w l=some (bG2 w l):=by
 unfold Ml;rw[aB h.1,bd_s];refine dU (a:=flW (runN w l (min l.length 60))) (sG (λi=>(i,flW (runN w l i))) (min l.length 60) (by omega) (λrec i hi=> ?_) (λrec=> ?_) rfl) rfl
 ·have b:i<(l.take 60).length:=by grind
  simp only[dF b,ae,aN b,bd_s,bUu b];exact dU (aB (show(runN w l i).sz<=33000000 from h.2 i hi)) rfl
 grind
def aG9 (w:AA)(l:List AY)(h:Km w l):Ik w l=some (aFe w l):=by
 unfold Ik;refine dU (a:=aFe w l) ?_ rfl;have hlen:(l.take 60).length=min 60 l.length:=cu;by_cases h0:l.length=0
 ·grind[aFe,decide_eq_false]
 ·have hp:0<(l.take 60).length:=by omega
  rw[ax (show(0:Int)<((l.take 60).length:Int) by omega),ae];refine dU (a:=l.getD 0 default) (by grind[aN,trans,bUu]) (dU (aB (show w.sz<=33000000 from h.2 0 (by omega))) ?_);rw[aB (by show 0+1<=_;decide)];refine sG (λi=>((List.range (i+1)).map (bG4 w l),((i+1:Nat):Int),flW (runN w l (i+1)))) (min l.length 60-1) (by omega) (λrec i hi=> ?_) (λrec=> ?_) rfl
  ·have b:i+1<(l.take 60).length:=by omega
   simp only[dF b,ae,aN b,bd_s,bUu b];refine dU (aB (show(runN w l (i+1)).sz<=33000000 from h.2 (i+1) (by omega))) ?_;rw[aB (by grind[List.length_map,List.length_range,List.length_singleton,aW])];rw[dy (n:=i+1),dp,show(((i+1+1:Nat)):Int)=IntKind.i64.wrap (((i+1:Nat):Int)+1) by rw[aK (by omega) (by omega)];omega];rfl
  grind[min,aFe,Nat.min_comm]
theorem aSj {q:Int}{w:AA}{l:List AY}:∀k,aKo q w l k<=k
 |0=>aj _
 |k+1=>by
  have:=aSj (q:=q) (w:=w) (l:=l) k
  grind[Nat.succ_le_succ,Nat.le_succ_of_le,bG4,default,aKo]
def K9 (w:AA)(l:List AY)(q:Int)(h:Km w l):Ad w l q=some (bD1 w l q):=by
 unfold Ad;refine dU (a:=bD1 w l q) (dU (aB h) ?_) rfl;have hlen:(aFe w l).length=min l.length 60:=by unfold aFe;rw[bg,ez]
 refine sG (λi=>((aKo q w l i:Int),i)) (min l.length 60) (by omega) (λrec i hi=> ?_) (λrec=> ?_) rfl
 ·grind[bG4,bd_s,default,aK,aKo,dF,aN,aSj,List.getD,List.getElem?_eq_getElem,aFe]
 ·rw[<-hlen];simp only[aTn,ac];rw[hlen];rfl
def Yd (w:AA)(h:w.Hosts.length<=34359738368):yN w=some (jT w):=by unfold yN;rw[jR (l:=w.Hosts) (λh=>decide (h.State.Guesses>h.State.Limit)||decide (kT h.State>h.Monotonic)) (.inl false) (.inr ()) (by omega) (by grind[dF,aN,bd_s,decide]) (by simp)];unfold jT;cases w.Hosts.any _<;>rfl
def aQq (w:AA)(d:Int)(h:F4 w):Rn w d=some (wI w d):=by
 unfold Rn wI;cases hd:aL w d with
 |false=>rfl
 |true=>
  have a:=h.2.2.1
  grind[qI,bd_s,aB]
def bUv {α:Type}(l:List α):List.take (Int.toNat (if (l.length:Int)<2 then(l.length:Int) else(2:Int))) l=l.take 2:=by simp at*;omega
def cBc {α:Type}(l:List α):jX l (if (l.length:Int)<2 then(l.length:Int) else(2:Int)):=by
 grind[jX]
def aHa (w:AA)(d:Int)(h:w.sz<=34359738368):Ii w d=some (sP w d):=by
 have k:=aLh h;unfold Ii sP;rw[aB k,bd_s];cases wI w d with
 |false=>rfl
 |true=>
  simp only[aq,ac,cN,aB k,bd_s];cases bF w d with
  |true=>rfl
  |false=>
  simp only[ac,da,cw,bUv,aB (cBc w.Sites)];rw[jR (l:=w.Sites.take 2) (p8 d) (.inl false) (.inr ()) (by grind) (λrec i hi=>by
   have f:=hi;rw[cu] at f;have j:i<w.Sites.length:=by omega
   have e:(w.Sites.take 2)[i]=w.Sites[i]:=by simp
   obtain⟨m,n⟩:=bXk h j;simp only[dF hi,ae,bd_s,aN hi,e,aB m];unfold p8;generalize w.Sites[i]=s at m n;by_cases hk:aI s 1<0
   ·simp[*]
   ·obtain⟨k1,k2⟩:=aEc (show 0<=aI s 1 by omega);have b:(aI s 1).toNat<s.Accounts.length:=by grind[aI]
    have o:=n _ b;simp only[au hk,ac,kJ (show 0<=aI s 1 by omega) b,bd_s,da,cw,List.getD,aa b,cr];generalize s.Accounts[(aI s 1).toNat]=a at o;rw[jR (l:=a.Credentials) (λc=>c.Handle==d&& !c.Cut) (.inl (.inl false)) (.inr ()) (by omega) (by grind[dF,aN,bd_s]) (by simp)];cases a.Credentials.any _<;>rfl) (by simp)]
  cases(w.Sites.take 2).any (p8 d)<;>rfl
def aMg (w:AA)(d:Int)(h:F4 w/\w.aAE.Boxes.sz<=34359738368):Mo w d=some (rY w d):=by
 unfold Mo rY;cases hd:aL w d with
 |false=>rfl
 |true=>simp only[aq,ac,qI hd,bd_s,aB h.1,aB h.2,aB h.1.2.2.1,cw];simp
def aHb (w:AA)(h:w.sz<=34359738368):Ij w=some (aAf w):=by
 have b:=aLh h;have hb:w.aAE.Boxes.sz<=34359738368:=by grind[AM.sz,AA.sz]
 have a:w.Hosts.length<=34359738368:=by grind[AA.sz]
 have hd:w.Devices.length<=34359738368:=by grind[AA.sz]
 unfold Ij aAf;rw[aB h,bd_s];cases aP w with
 |false=>rfl
 |true=>
  simp only[aq,ac,aB a,bd_s,cw];cases jT w with
  |false=>rfl
  |true=>simp only[aq,ac,cw];rw[kI (l:=w.Devices) (aTs w) (.inl false) (.inr ()) (by omega) (by grind[dF,bd_s,aB,F4,aTs,sP]) (by simp)];cases gJ (aTs w) 0 w.Devices<;>rfl
def bUw {w:AA}{j:Int}(h:fA w j=true):bC w.Sites j=some (w.Sites.getD j.toNat default):=by
 unfold fA at h;rw[ab,cm,cm] at h;have:j.toNat<w.Sites.length:=by omega
 rw[kJ h.1 this,List.getD,aa this,cr]
def aB6 (w:AA)(j:Int):Ea w j=some (cntF w j):=by unfold Ea cntF;cases h:fA w j<;>simp_all[fA,bUw]
def Tc (a b:AB)(h:bG3 a b):vV a b=some true:=by unfold vV;rw[aB h.2,bd_s,h.1];refine dU (a:=true) ?_ rfl;rw[ae,aB h.2.1,bd_s];simp[List.zipWith,AG.eqB,id,List.zipWith_cons_cons,gv,kU]
def bIf {S:List (Int×Int)}(f:KeyD S){w:AA}{v:List AY}(h:All S 0 w)(hv:∀e∈v,e.Kind=8->(bD aKm,e.Value)∈S):∀k,k<=v.length->k<=58->iF (runN w v k)=iF w+(aKo 2 w v k+aKo 5 w v k)/\aKo 3 w v k=0
 |0,_,_=>⟨rfl,rfl⟩
 |k+1,h1,h2=>by
  obtain⟨a,b⟩:=bIf f h hv k (by omega) (by omega);obtain⟨c,d⟩:=bUa (bEl f h hv k (by omega) (by omega)) ((v.getD k default).Kind,(v.getD k default).Device,(v.getD k default).Other,(v.getD k default).Value,(v.getD k default).Flag);change iF (runN w v (k+1))=_+bif bG4 w v k&&((v.getD k default).Kind==2||(v.getD k default).Kind==5) then 1 else 0 at c;change (bG4 w v k&&(v.getD k default).Kind==3)=false at d;rw[c,a];simp only[aKo,d,b];refine⟨?_,rfl⟩;generalize bG4 w v k=o;generalize(v.getD k default).Kind=q;cases o with
  |false=>simp only[gh,ac];omega
  |true=>
   by_cases i:q=2
   ·subst i;simp only[cw,show((2:Int)==2)=true from rfl,show((2:Int)==5)=false from rfl,Bool.true_or,ae,ac];omega
   ·by_cases j:q=5
    ·subst j;simp only[cw,show((5:Int)==2)=false from rfl,show((5:Int)==5)=true from rfl,Bool.or_true,ae,ac];omega
    ·simp only[cw,bm.2 i,bm.2 j,jd,ac];omega
def bXm {m:Nat}{w:AA}(h:WIn m w):cntF w 0+cntF w 1=iF w:=by
 have h2:=h.two;unfold cntF fA iF
 match hq:w.Sites,h2 with
 |[a,b],_=>simp
structure Hst (w:AA) (v:List AY) (x:AA):Prop where
 ok:Km w v
 run:bG2 w v=x
 all:All (aPp++bQm) 19 x
 sz:x.sz<=300000
 log:bD1 w v 2+bD1 w v 5=cntF x 0+cntF x 1
 no:bD1 w v 3=0
 few:cntF x 0+cntF x 1<=300000
def cBd {l:List Int}(hlen:l.length<=1048576):∃x,Hst (Ql l).1 (Ql l).2 x:=by
 obtain⟨⟨n,k,t,p,s,e,ok,s1,s2⟩,el,ev⟩:=bXj hlen;have hi:=aOx ok;have a:All (aPp++bQm) 0 (bN n k t p s):=bW1 ok;have d:(bN n k t p s).sz<=100000:=bG0 ..;have f:=cA9 n k t p s;have b:=bW5 ok;rw[<-e] at hi d f a b;generalize(Ql l).1=w at*;generalize(Ql l).2=v at*;obtain⟨h,i,r⟩:=hi;have j:WIn w.Devices.length w:=by rw[i];exact h
 have R:=bId (l:=v) j (by omega);have c:∀e∈v,e.Kind=8->(bD aKm,e.Value)∈aPp++bQm:=λe he=>cBb (ev e he);have hX:All (aPp++bQm) (min v.length 60) (bG2 w v):=bEl bEk a c _ (by omega) (by omega);have hX:=hX.mono (show min v.length 60<=19 by omega);obtain⟨_,_,m,_⟩:=R (min v.length 60);change (bG2 w v).sz<=_ at m;obtain⟨o,u⟩:=bIf bEk a c (min v.length 60) (by omega) (by omega);change iF (bG2 w v)=_ at o;have y:=bXm hX.wi;have z:=aSj (q:=2) (w:=w) (l:=v) (min v.length 60);have A:=aSj (q:=5) (w:=w) (l:=v) (min v.length 60);refine⟨bG2 w v,⟨by omega,λq hq=>by have:=(R q).2.2.1;omega⟩,rfl,hX,by omega,?_,?_,?_⟩
 ·show((aKo 2 w v (min v.length 60):Nat):Int)+(aKo 5 w v (min v.length 60):Nat)=_;omega
 ·show((aKo 3 w v (min v.length 60):Nat):Int)=0;omega
 ·omega
def bUx {x:AA}(h:WIn x.Devices.length x):((sS x 0).length<=x.Devices.length/\(sS x 1).length<=x.Devices.length)/\∀y∈sS x 0,iQ (sS x 1) y=false:=by
 obtain⟨a,c,e,f⟩:=bYl h (.inl rfl);obtain⟨b,eb,hb',i⟩:=bYl h (.inr rfl);have o:=h.dlen;refine⟨⟨by rw[c,bg,f];exact aj _,by rw[eb,bg,i];exact aj _⟩,λy d=> ?_⟩;rw[gr];intro hq;have hq:=lY.1 hq;rw[c] at d;rw[eb] at hq;obtain⟨p,j,rfl⟩:=cn.1 d;obtain⟨q,k,l⟩:=cn.1 hq;obtain⟨q1,m,rfl⟩:=cI.1 j;obtain⟨q2,n,rfl⟩:=cI.1 k;rw[(e q1 m).2.1,(hb' q2 n).2.1] at l
 grind[bMx]
def cBe {j:Nat}(h:j<2):mE (AP.mk true (aA (j:Int)) 443):=by
 rcases(show j=0\/j=1 by omega) with rfl|rfl
 ·exact⟨2,by decide,rfl⟩
 ·exact⟨3,by decide,rfl⟩
def bEm (l:List Int)(h:bD0 l):aFu l=some true:=by
 unfold aFu;cases hb:bS4 l with
 |true=>rfl
 |false=>
  have hlen:l.length<=1048576:=by unfold bS4 at hb;rw[cz] at hb;omega
  rw[ac,aB hlen,bd_s];obtain⟨x,H⟩:=cBd hlen;generalize(Ql l).1=w at*;generalize(Ql l).2=v at*;have hsz:=H.sz;have d:x.sz<=34359738368:=by omega
  have f:=aLh d;have hd:x.Devices.length<=34359738368:=by simp only[AA.sz] at d;omega
  obtain⟨⟨v0,n⟩,no⟩:=bUx H.all.wi;obtain⟨s1,s2,s3,s4,s5,s6,s7,s8,s9⟩:=bPw bEk H.all (by decide);have o:=bP9 x;have k:=s3.aDT;have e:=bBq x;rw[aB H.ok,bd_s,H.run];refine dU (aB d) ?_;rw[H.all.aDT];refine dU (a:=false) ?_ ?_
  ·rw[aq,ac];refine dU (aB H.ok) ?_;rw[H.no];refine dU (aB H.ok) (dU (aB H.ok) ?_);rw[H.log,du]
  ·rw[ac];refine dU (aB d) (aO9 (b:=PUnit.unit) (bKs (sS x 0).length (by omega) (λrec i hi=> ?_) (λrec=>by simp only[aTn,ac])) (aO9 (b:=PUnit.unit) (bKs x.Devices.length (by omega) (λrec i hi=> ?_) (λrec=>by simp only[aTn,ac])) ?_))
   ·simp only[dF hi,ae,aN hi,bd_s,aB (show(sS x 1).length<=1099511627776 by omega),no _ (bw hi),ac]
   ·have c:=bD6 hi;rw[dF hi,ae];refine aO9 (b:=PUnit.unit) (dU (aB f) ?_) rfl;cases hc:wI x (i:Int) with
    |false=>rfl
    |true=>rw[aq,ac];refine bKs 2 (by decide) (λrec j m=> ?_) (λrec=>rfl);rw[ax (show(j:Int)<2 by omega),ae];refine dU (aB (show mE (AP.mk true (aA (j:Int)) 443)/\x.sz<=34359738200 from⟨cBe m,by omega⟩)) ?_;rw[show((mM x (i:Int) (j:Int) (AP.mk true (aA (j:Int)) 443)).2==0)=false from bm.2 (H.all.no c hc _)];rfl
   ·generalize lG x=y at*;generalize Ji x=u at*;have yz2:y.1.sz<=34359738368:=by omega
    rw[aB d,bd_s,aB (show x.sz<=1000000000 by omega),bd_s,s1,s2];refine dU (a:=false) ?_ ?_
    ·rw[aq,ac,ac];refine dU (aB yz2) ?_;rw[s4,aq,ac];refine dU (aB yz2) ?_;rw[k];rfl
    ·rw[ac];refine dU (aB (aLh yz2)) (dU (a:=true) ?_ rfl);rw[s5];by_cases h0:(bB x).length=0
     ·rw[h0];rfl
     ·have hi:0<(bB x).length:=by omega
      have hm:=bw hi;have c:aL y.1 (bB x)[0]=true:=by unfold aL;rw[s6];exact e _ hm
      have q:=s9 _ hm;obtain⟨q1,q2⟩:=bXl q;rw[show(((bB x).length:Int)==0)=false from bm.2 (by omega),ac];refine dU (aN hi) (dU (qI c) ?_);exact dU (aB (show bG3 (aH y.1 (bB x)[0]).aAC u.1 from⟨q,by omega,by omega⟩)) rfl
end
end Go.VK
