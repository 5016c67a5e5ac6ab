import Derived.Test.YtpnhnhhcncnldaaGreatDoorXtM
import Derived.Test.YtpnhnhhcncnldaaGreatDoorLKatol
/- Printed by wip/tools: models, walks, proofs. -/
set_option linter.all false
set_option maxRecDepth 100000
set_option maxHeartbeats 4000000
namespace Go.VK
open Go.RowKit Go.Proofs D
noncomputable section
open EV (bU)
def bDj (a b c:Int):aLy a b c=some (bK a b c):=by unfold aLy bK;show bd (bif decide (b<=a) then some (decide (a<=c)) else some false) _=_;cases decide (b<=a)<;>rfl
def aRj (a b c:Int):Ve a b c=some (bK a b c):=by unfold Ve bK;cases decide (b<=a)<;>rfl
def bFz (p q:Int):aRd p q=some (dX p q):=by
 unfold aRd;by_cases h:1<=q/\q<=1000000000000
 ·simp[bK,h.1,h.2,aB (show q≠0 by omega),bTz h]
 ·rw[bLt h];rcases(show q<1\/q>1000000000000 by omega) with h|h
  ·simp[bK,show ¬1<=q by omega]
  ·simp[bK,show ¬q<=1000000000000 by omega]
def bF0 (p q:Int):aRi p q=some (dX p q):=by
 unfold aRi;simp only[bd_bb];by_cases h:1<=q/\q<=1000000000000
 ·rw[aB (by omega)];by_cases ht:p.tmod q<0
  ·simp[h,ht,show ¬q<1 by omega,show ¬q>1000000000000 by omega,bTx h ht];rw[IntKind.wrap_i64];have:=Ls (p:=p) (q:=q) h.1;omega
  ·simp[h,ht,show ¬q<1 by omega,show ¬q>1000000000000 by omega,bTy h ht]
 ·rw[bLt h];rcases(show q<1\/q>1000000000000 by omega) with h|h<;>simp[h]
def aRk:((2147483647:Int)≠0)=True:=by simp
def bDk (l:List Int)(h:l.length<=1099511627776):aLz l=some (xQ l):=by
 unfold aLz;rw[gV (l:=l) hstep (λ_ _=>True) (λs=>some s) (by omega) trivial (λ_ _ _ _=>trivial) (λrec i s hi _=>by
  simp only[dF hi,ac,aN hi,bd_s,aRk,gd_T];rfl) (λrec s _=>by simp only[dL,aa])]
 rfl
def bDl (l:List Int)(h:l.length<=1099511627776):aL0 l=some (xQ l):=by
 unfold aL0;rw[gV (l:=l) hstep (λ_ _=>True) (λs=>some s) (by omega) trivial (λ_ _ _ _=>trivial) (λrec i s hi _=>by
  simp only[dF hi,ac,aN hi,bd_s,aRk,gd_T];rfl) (λrec s _=>by simp only[dL,aa])]
 rfl
def aH4 (k:Int)(l:List Int)(h:l.length<=34359738368):Ik k l=some (bP k l):=by unfold Ik;rw[aB (by simp[aV];omega),aB (by simp[aV];omega),aB (by simp;omega)];simp[bP]
def O3 {α:Type}{r:List (List α)}{i:Nat}(hi:i<r.length):(r.take (i+1)).flatten=(r.take i).flatten++r[i]:=by rw[dz,ae hi,eh];simp only[eS,cU,gq,cV]
def aUz (a:List Int)(r:List (List Int))(h:Ac a r):M9 a r=some (rY a r):=by
 unfold M9;have hs:∀i,(r.take i).flatten.length<=r.flatten.length:=λi=>by
  conv=>rhs;rw[<-cP i r,eh,aw]
  omega
 rw[aB (by simp[aV];omega),gV (l:=r) (λs x=>s++x) (λi s=>s=a++(r.take i).flatten) (λs=>some s) (by omega) (by simp)
  (λi s hi hv=>by rw[hv,O3 hi,cl])
  (λrec i s hi hv=>by
   have e:=O3 hi;have h1:=hs (i+1);rw[e,aw] at h1;simp only[dF hi,ac,aN hi,bd_s];rw[aB (by unfold aV;rw[hv,aw];omega)]) (λrec s _=>by simp only[dL,aa])]
 have:r.foldl (λs x=>s++x) ([]++a)=a++r.flatten:=by rw[bp,aHa (f:=λx:List Int=>x)];simp
 rw[this];rfl
def aH5 (k:Int)(l:List Int)(h:l.length<=34359738368):Jp k l=some (bP k l):=by unfold Jp;rw[aB (by unfold Ac;simp;omega),bd_s,aB (by simp[rY];omega)];simp[bP,rY]
def bF1 (a b:Int):aRe a b=some (aZu a b):=by simp[aRe,aZu]
def bAe (n:Int):aDb n=some (kH n):=by simp[aDb,kH]
def aH6 (k:Int)(l:List Int)(h:l.length<=34359738300):Im k l=some (aY k l):=by unfold Im;rw[aB (by simp[aV];omega),aB (by simp;omega),bd_s,bB3 (mO _ _).1];rfl
def aH7 (k:Int)(l:List Int)(h:l.length<=34359738300):Jq k l=some (aY k l):=by unfold Jq;rw[aB (by simp[Ac];omega),bd_s,aB (by simp[rY];omega)];simp[aY,rY]
def aDd (n:Int):aDa n=some (bL n):=rfl
def aDe (n:Int):aDc n=some (bL n):=rfl
def aH8 (n:Int):Ip n=some (cZ n):=by unfold Ip cZ;cases bL n<;>rfl
def aH9 (n:Int):Jr n=some (cZ n):=by unfold Jr cZ;cases bL n<;>rfl
def aIa (s:AK):Io s=some (iG s):=by unfold Io;rw[aB (by simp)];rfl
def Zt (s:AK):Zn s=some (aT s):=rfl
def Zu (s:AK):yI s=some (aT s):=by unfold yI;rw[aB (by simp)];rfl
def aU0 (l:List Int)(x:Int)(h:l.length<=1099511627776):K6 l x=some (jJ l x):=by unfold K6;rw[jT (l:=l) (λe=>e==x) (.inl true) (.inr ()) (by omega) (λrec i hi=>by simp only[dF hi,ac,aN hi,bd_s]) (λrec=>by simp only[dL,aa])];unfold jJ;cases l.any _<;>rfl
def bF2 (l:List Int)(x:Int)(h:l.length<=1099511627776):aRh l x=some (jJ l x):=by unfold aRh;rw[jT (l:=l) (λe=>e==x) (.inl true) (.inr ()) (by omega) (λrec i hi=>by simp only[dF hi,ac,aN hi,bd_s]) (λrec=>by simp only[dL,aa])];unfold jJ;cases l.any _<;>rfl
def bAf (s:List Int)(x:Int):jJ s x=s.contains x:=by unfold jJ;rw[List.contains_eq_any_beq];congr 1;funext e;exact Bool.beq_comm
def aYn {s:List Int}{e:AF}(h:(e.Kind==1)=true):jK s e=bif !jJ s e.Device then s++[e.Device] else s:=by unfold jK;rw[h,bAf];cases s.contains e.Device<;>rfl
def aYo {s:List Int}{e:AF}(h:(e.Kind==1)=false):jK s e=bif e.Kind==2 then s.filter (λd=>d !=e.Device) else s:=by unfold jK;rw[h];rfl
def aIb (l:List AF)(h:l.length<=34359738368):Ir l=some (aD l):=by
 unfold Ir;rw[gV (l:=l) jK (λi s=>s.length<=i) (λs=>some s) (by omega) (by simp) (λi s hi hv=>by have:=aLh s l[i];omega)
  (λrec i s hi hv=>by
   simp only[dF hi,ac,aN hi,bd_s];rw[aB (by omega)];have e:∀x:Int,bU (α:=List Int) FUEL (λa (i8:(List Int×Nat))=>bif (decide ((↑i8.2:Int)<(↑s.length:Int))) then(bd (bd (bA s (↑i8.2:Int)) λ(c:(Int))=>bif (c !=x) then(bd (bA s (↑i8.2:Int)) λ(b:(Int))=>gd (aV i8.1 [b]) (some (i8.1++[b]))) else(some (i8.1))) λ(f:(List Int))=>a ((f,(i8.2+1)))) else(some (i8.1))) ([],0)=some (s.filter λd=>d !=x):=λx=>by
    rw[gV (l:=s) (λq y=>bif y !=x then q++[y] else q) (λi q=>q.length<=i) (λq=>some q) (by omega) (by simp) (λi q hi hv=>by cases(s[i] !=x)<;>simp<;>omega)
     (λrec i q hi hv=>by
      simp only[dF hi,ac,aN hi,bd_s];rw[aB (by unfold aV;simp;omega)];cases(s[i] !=x)<;>rfl) (λrec q _=>by simp only[dL,aa]),Lt]
    simp
   rw[e];cases h1:(l[i].Kind==1) with
   |true=>
    have h2:(l[i].Kind==2)=false:=by simp at h1 ⊢;omega
    rw[aYn h1,h2];rw[aB (by unfold aV;simp;omega)];cases jJ s l[i].Device<;>rfl
   |false=>
    rw[aYo h1,aB (by unfold aV;simp;omega)];cases(l[i].Kind==2)<;>rfl) (λrec s _=>by simp only[dL,aa])]
 rfl
def aIc (l:List AF)(h:l.length<=34359738368):Jo l=some (aD l):=by
 unfold Jo;rw[gV (l:=l) jK (λi s=>s.length<=i) (λs=>some s) (by omega) (by simp) (λi s hi hv=>by have:=aLh s l[i];omega)
  (λrec i s hi hv=>by
   simp only[dF hi,ac,aN hi,bd_s];rw[aB (by omega)];have e:∀x:Int,bU (α:=List Int) FUEL (λb (a:(List Int×Nat))=>bif (decide ((↑a.2:Int)<(↑s.length:Int))) then(bd (bd (bA s (↑a.2:Int)) λ(c:(Int))=>bif (c !=x) then(gd (aV a.1 [c]) (some (a.1++[c]))) else(some (a.1))) λ(f:(List Int))=>b ((f,(a.2+1)))) else(some (a.1))) ([],0)=some (s.filter λd=>d !=x):=λx=>by
    rw[gV (l:=s) (λq y=>bif y !=x then q++[y] else q) (λi q=>q.length<=i) (λq=>some q) (by omega) (by simp) (λi q hi hv=>by cases(s[i] !=x)<;>simp<;>omega)
     (λrec i q hi hv=>by
      simp only[dF hi,ac,aN hi,bd_s];rw[aB (by unfold aV;simp;omega)];cases(s[i] !=x)<;>rfl) (λrec q _=>by simp only[dL,aa]),Lt]
    simp
   rw[e];cases h1:(l[i].Kind==1) with
   |true=>rw[aYn h1,aB (by unfold aV;simp;omega)];cases jJ s l[i].Device<;>rfl
   |false=>
    rw[aYo h1];cases(l[i].Kind==2)<;>rfl) (λrec s _=>by simp only[dL,aa])]
 rfl
def aId (w:AA)(d:Int):Jn w d=some (aL w d):=by unfold Jn aL;show bd (bif decide (0<=d) then _ else _) _=_;cases decide (0<=d)<;>rfl
def aU1 (w:AA)(d:Int)(h:Dt w):M7 w d=some (bC w d):=by
 unfold M7 bC;rw[Yj h];have hl:=iD w.aAC.Log;have a:=h.2.2.1;cases hd:aL w d with
 |false=>rfl
 |true=>simp only[ac,lN hd,bd_s,aB a,aB (show(aD w.aAC.Log).length<=1099511627776 by omega),cw]
def aU2 (w:AA)(d:Int)(h:Dt w):N7 w d=some (bC w d):=by
 unfold N7 bC;have hl:=iD w.aAC.Log;have a:=h.2.2.1;cases hd:aL w d with
 |false=>rfl
 |true=>simp only[ac,lN hd,bd_s,aB a,aB (show(aD w.aAC.Log).length<=1099511627776 by omega),cw]
def aDf {p:Nat->Bool}{i:Nat}:((List.range (i+1)).filter p).map Int.ofNat=bif p i then((List.range i).filter p).map Int.ofNat++[(i:Int)] else((List.range i).filter p).map Int.ofNat:=by rw[fm,jh];cases h:p i<;>simp[h]
def Kg {p:Nat->Bool}{i:Nat}:(((List.range i).filter p).map Int.ofNat).length<=i:=by have:=e9 p (List.range i);simpa using this
def Kh (w:AA)(h:Dt w):rQ w=some (aX w):=by
 have h1:=h.1;have h2:=h.2.1;unfold rQ;rw[Gx (s:=([],0)) (λi s=>i<=min w.Devices.length w.Stolen.length/\s=(((List.range i).filter (oF w)).map Int.ofNat,(i:Int))) (min w.Devices.length w.Stolen.length) (some (aX w)) (by omega) ⟨by omega,rfl⟩ (λi s rec hi hv=>by
  obtain⟨_,rfl⟩:=hv;have b:i<w.Devices.length:=by omega
  have a:i<w.Stolen.length:=by omega
  have hl:=Kg (p:=oF w) (i:=i);refine .inl ⟨_,⟨by omega,rfl⟩,?_⟩;simp only[dF b,dF a,ac,bd_s,aB h,aN a];rw[aB (by unfold aV;simp only[cr];omega),aDf,aI (by omega) (by omega)];have e:oF w i=(bC w (i:Int)&& !w.Stolen[i]):=by unfold oF;rw[ak a,cw,List.getD,ae a];rfl
  rw[e];cases bC w (i:Int)<;>cases w.Stolen[i]<;>rfl) (λs rec hv=>by
  obtain⟨_,rfl⟩:=hv;have e:((List.range (min w.Devices.length w.Stolen.length)).filter (oF w)).map Int.ofNat=aX w:=by rw[bJx];rfl
  have hb:(bif decide (((min w.Devices.length w.Stolen.length:Nat):Int)<(w.Devices.length:Int)) then some (decide (((min w.Devices.length w.Stolen.length:Nat):Int)<(w.Stolen.length:Int))) else some false)=some false:=by
   rcases fg w.Stolen.length w.Devices.length with q|q
   ·rw[Nat.min_eq_right (by omega),bYi (ak (by omega))];simp
   ·rw[gx q,bYj (ao (by omega))]
  simp only[e];rw[hb];rfl)]
 rfl
def Ki (w:AA)(h:Dt w):rP w=some (aX w):=by
 have h1:=h.1;unfold rP;rw[Gx (s:=([],0)) (λi s=>i<=w.Devices.length/\s=(((List.range i).filter (oF w)).map Int.ofNat,i)) w.Devices.length (some (aX w)) (by omega) ⟨by omega,rfl⟩ (λi s rec hi hv=>by
  obtain⟨_,rfl⟩:=hv;have hl:=Kg (p:=oF w) (i:=i);refine .inl ⟨_,⟨by omega,rfl⟩,?_⟩;simp only[dF hi,ac,bd_s,aB h];rw[aB (by unfold aV;simp only[cr];omega),aDf];unfold oF;cases bC w (i:Int) with
  |false=>rfl
  |true=>
   by_cases a:i<w.Stolen.length
   ·rw[dF a,ak a,List.getD,ae a,aN a];simp only[ac,bd_s,ci,cw];cases w.Stolen[i]<;>rfl
   ·rw[show decide ((i:Int)<(w.Stolen.length:Int))=false from ao (by omega),ao a];rfl) (λs rec hv=>by
  obtain⟨_,rfl⟩:=hv;simp only[dL,aa];rfl)]
 rfl
def aYp (w:AA):(aX w).length<=w.sz:=by
 have h1:(aX w).length<=w.Devices.length:=by unfold aX;exact Kg
 simp only[AA.sz];omega
def aRl (a:AH)(s h:Int):Uo a s h=some (wO a s h):=by unfold Uo wO;cases decide (a.Site<s)<;>cases(a.Site==s)<;>rfl
def U5 (a b:AH):Bn a b=some (eF a b):=by unfold Bn eF;cases decide (a.Site<b.Site)<;>cases(a.Site==b.Site)<;>rfl
def bDm {l:List AH}{i:Nat}(hi:i<l.length)(hl:l.length<=34359738368){q:AH->Bool}(hq:∀x,q x=eF x l[i]):
  (bif (!bK l[i].Site (0:Int) (2147483646:Int)) then(some (true)) else(bif (!bK l[i].Handle (0:Int) (1000000:Int)) then(some (true)) else(bif (!bK l[i].Version (1:Int) (1000000:Int)) then(some (true)) else(bif (decide ((i:Int)>(0:Int))) then(bd (bA l (IntKind.i64.wrap ((i:Int)-(1:Int)))) λ(b:(AH))=>some (!q b)) else(some (false))))))=some (aP0 l i l[i]):=by
 unfold aP0;cases bK l[i].Site 0 2147483646 with
 |false=>rfl
 |true=>
  cases bK l[i].Handle 0 1000000 with
  |false=>rfl
  |true=>
   cases bK l[i].Version 1 1000000 with
   |false=>rfl
   |true=>
    by_cases h0:(i:Int)>0
    ·rw[ak h0,aI (by omega) (by omega)];have a:bA l ((i:Int)-1)=some l[i-1]:=by rw[show(i:Int)-1=((i-1:Nat):Int) by omega];exact aN (by omega)
     have hg:l.getD (i-1) default=l[i-1]:=by rw[List.getD,ae (by omega),ci]
     simp only[a,bd_s,hq,hg,ay,aa,ac,cx,cw]
    ·rw[ao h0];rfl
def aMj (b:AB)(h:b.sz<=34359738368):Ox b=some (aR b):=by
 simp only[AB.sz] at h;unfold Ox aR;rw[iF (l:=b.Entries) (aP0 b.Entries) (.inl false) (.inr ()) (by omega) (λrec i hi=>by
  simp only[dF hi,ac,aN hi,bd_s];rw[bDm hi h (q:=λx=>wO x b.Entries[i].Site b.Entries[i].Handle) (λx=>rfl)];rfl) (λrec=>by simp only[dL,aa])]
 cases gM (aP0 b.Entries) 0 b.Entries with
 |true=>simp[nx]
 |false=>simp[nx]
def aMk (b:AB)(h:b.sz<=34359738368):Pm b=some (aR b):=by
 simp only[AB.sz] at h;unfold Pm aR;by_cases a:(b.Entries.length:Int)>20
 ·rw[ak a,show decide ((b.Entries.length:Int)<=20)=false from ao (by omega)];rfl
 ·rw[ao a,show decide ((b.Entries.length:Int)<=20)=true from ak (by omega),aa];rw[iF (l:=b.Entries) (aP0 b.Entries) (.inl false) (.inr ()) (by omega) (λrec i hi=>by
   simp only[dF hi,ac,aN hi,bd_s];rw[bDm hi h (q:=λx=>eF x b.Entries[i]) (λx=>rfl)];rfl) (λrec=>by simp only[dL,aa])]
  cases gM (aP0 b.Entries) 0 b.Entries<;>rfl
def aIe (b:AB)(s h:Int)(a:b.sz<=34359738368):Iz b s h=some (aP b s h):=by
 simp only[AB.sz] at a;unfold Iz aP;exact aCp (l:=b.Entries) (λ(e:AH)=>e.Site==s&&e.Handle==h) (by omega) (λrec i hi=>by
  simp only[dF hi,ac,aN hi,bd_s];cases(b.Entries[i].Site==s)<;>rfl) (λrec=>by simp only[dL,aa])
def aRm (b:AB)(h:b.sz<=34359738368):Ul b=some (b):=by simp only[AB.sz] at h;unfold Ul;rw[aB (by unfold aV;simp only[bm];omega)];rfl
def aDg (b:AB)(h:b.sz<=34359738368):Fh b=some (b):=by simp only[AB.sz] at h;unfold Fh;rw[aB (by unfold aV;simp only[bm];omega)];rfl
def bId (p:AH->Bool):∀(l:List AH) (i:Nat),i<=(l.takeWhile p).length->(∃hi:i<l.length,p l[i]=true/\i<(l.takeWhile p).length)\/(i=(l.takeWhile p).length/\∀hi:i<l.length,p l[i]=false)
 |[],i,h=> .inr ⟨by simpa using h,λhi=>by simp at hi⟩
 |x::l,i,h=>by
  rw[dp] at h ⊢;cases hp:p x with
  |false=>rw[hp] at h;simp at h;subst h;exact .inr ⟨by simp,λ_=>hp⟩
  |true=>
   rw[hp] at h;simp only[im,au] at h ⊢;cases i with
   |zero=>exact .inl ⟨by simp,hp,by omega⟩
   |succ i=>
    rcases bId p l i (by omega) with⟨h1,h2,a⟩|⟨h1,h2⟩
    ·exact .inl ⟨by simpa using h1,h2,by omega⟩
    ·exact .inr ⟨by omega,λhi=>h2 (by simpa using hi)⟩
def bIe (p:AH->Bool):∀l:List AH,l.take (l.takeWhile p).length=l.takeWhile p
 |[]=>rfl
 |x::l=>by
  rw[dp];cases p x with
  |false=>rfl
  |true=>simp only[im,au,jd];rw[bIe p l]
def bIf (p:AH->Bool):∀l:List AH,l.drop (l.takeWhile p).length=l.dropWhile p
 |[]=>rfl
 |x::l=>by
  rw[dp,List.dropWhile_cons];cases p x with
  |false=>rfl
  |true=>simp only[im,au,gA];rw[bIf p l]
def aU3 (b:AB)(x:AH)(h:b.sz<=34359738360):L6 b x=some (zH b x):=by
 have k:=h;simp only[AB.sz] at h;unfold L6 zH;rw[aB (by omega),bd_s,aB (by omega),bd_s];by_cases c:aP b x.Site x.Handle>=0
 ·rw[ak c,ac,ac];have:=aB2 (show 0<=kE (λe=>e.Site==x.Site&&e.Handle==x.Handle) 0 b.Entries from c);have d:(aP b x.Site x.Handle).toNat<b.Entries.length:=by unfold aP;omega
  rw[qH c d];rfl
 ·rw[ao c,aa,aa];have a:(b.Entries.takeWhile λe=>wO e x.Site x.Handle).length<=b.Entries.length:=(List.takeWhile_sublist _).length_le;rw[Gx (λi s=>i<=(b.Entries.takeWhile λe=>wO e x.Site x.Handle).length/\s=(i:Int)) b.Entries.length (some ((b.Entries.takeWhile λe=>wO e x.Site x.Handle).length:Int)) (s:=(0:Int)) (by omega) ⟨by omega,rfl⟩ (λi s rec hi hv=>by
   obtain⟨h1,rfl⟩:=hv;rcases bId _ _ i h1 with⟨j,f,l⟩|⟨j,f⟩
   ·refine .inl ⟨_,⟨by omega,rfl⟩,?_⟩;simp only[dF hi,ac,aN hi,bd_s,f];rw[aI (by omega) (by omega)];rfl
   ·refine .inr ?_;simp only[dF hi,ac,aN hi,bd_s,f hi,aa];rw[<-j]) (λs rec hv=>by
   obtain⟨h1,rfl⟩:=hv;have e:b.Entries.length=(b.Entries.takeWhile λe=>wO e x.Site x.Handle).length:=by omega
   simp only[dL,aa,bd_s];rw[<-e]),bd_s]
  rw[aB ⟨by omega,by simpa using a⟩,aB ⟨by omega,by simpa using a⟩,aB (by unfold aV;simp;omega),aB (by unfold aV;simp;omega),aB (by unfold aV;simp;omega)];rw[bv,bp];rw[bIe,bIf]
def bK4 {l:List AH}{k:Int}(h0:0<=k)(h1:k.toNat<l.length)(x:AH):(bd (bA l k) λ(b:AH)=>bif (decide (x.Version>b.Version)) then(some (true)) else(bd (bA l k) λ(a:AH)=>bif (x.Version==a.Version) then(some (x.Deleted)) else(some (false))))=some (pO x (l.getD k.toNat default)):=by rw[qH h0 h1,List.getD,ae h1,ci];simp only[bd_s];unfold pO;cases decide (x.Version>l[k.toNat].Version)<;>cases(x.Version==l[k.toNat].Version)<;>rfl
def Zv (a b:AB)(h:a.sz<=34359738368/\b.sz<=34359738368):xZ a b=some (dU a b):=by
 unfold xZ dU;rw[aB h.1,bd_s];cases f:aR a with
 |false=>rw[aB h.1];rfl
 |true=>
  rw[aB h.2];cases hb:aR b with
  |false=>rw[aB h.1];rfl
  |true=>
   obtain⟨n,j⟩:=aHe f;obtain⟨p,k⟩:=aHe hb;rw[aB h.1];simp only[ay,aa,ac,bd_s,du];rw[aXr (l:=b.Entries) (s0:=a.Entries) (λo x=>bH o [x]) (λi o=>Ym o/\o.length<=20+i) (λo=>some o) (by omega) ⟨j,by omega⟩ (λi o hi hv=>by
     have:=zM _ o [b.Entries[i]] (ai _);exact⟨bHm hv.1,by simp only[cr] at this;omega⟩) (λrec i o hi hv=>by
     obtain⟨hs,hl⟩:=hv;simp only[dF hi,ac,aN hi,bd_s];rw[aB (by simp only[AB.sz];omega),bd_s,<-bB8 hs];have hk:(bif decide (aP ⟨o⟩ b.Entries[i].Site b.Entries[i].Handle<0) then some true else bd (bA o (aP ⟨o⟩ b.Entries[i].Site b.Entries[i].Handle)) λ(m:AH)=>bif (decide (b.Entries[i].Version>m.Version)) then(some (true)) else(bd (bA o (aP ⟨o⟩ b.Entries[i].Site b.Entries[i].Handle)) λ(d:AH)=>bif (b.Entries[i].Version==d.Version) then(some (b.Entries[i].Deleted)) else(some (false))))=some (decide (aP ⟨o⟩ b.Entries[i].Site b.Entries[i].Handle<0)||pO b.Entries[i] (o.getD (aP ⟨o⟩ b.Entries[i].Site b.Entries[i].Handle).toNat default)):=by
      by_cases c:aP ⟨o⟩ b.Entries[i].Site b.Entries[i].Handle<0
      ·rw[ak c];rfl
      ·rw[ao c,aa];have:=aB2 (show 0<=kE (λ(e:AH)=>e.Site==b.Entries[i].Site&&e.Handle==b.Entries[i].Handle) 0 o from by unfold aP at c;simp only at c;omega);rw[bK4 (by omega) (by unfold aP;simp only;omega)];rfl
     rw[hk,bd_s];cases(decide (aP ⟨o⟩ b.Entries[i].Site b.Entries[i].Handle<0)||pO b.Entries[i] (o.getD (aP ⟨o⟩ b.Entries[i].Site b.Entries[i].Handle).toNat default)) with
     |false=>rfl
     |true=>rw[ac,ac,aB (by simp only[AB.sz];omega)];rfl) (λrec o _=>by simp only[dL,aa])]
   rw[aP1 _ _ k,bd_s];have hm:=zM _ a.Entries b.Entries (ai _);rw[aB (by simp only[AB.sz];omega),bd_s];cases aR ⟨bH a.Entries b.Entries⟩<;>rfl
def drop_at {l:List AH}{i:Nat}(h:i<l.length):l.drop i=l[i]::l.drop (i+1):=cq h
def bF3 (e f:AH){X:Int×Int×Int×Bool->Option (List AH)}:(bd (bd (bif (decide (f.Version>e.Version)) then(some (true)) else(bif (f.Version==e.Version) then(some (f.Deleted)) else(some (false)))) λ(a:Bool)=>bif a then(some (f.Site,f.Handle,f.Version,f.Deleted)) else(some (e.Site,e.Handle,e.Version,e.Deleted))) X)=X ((pJ e f).Site,(pJ e f).Handle,(pJ e f).Version,(pJ e f).Deleted):=by unfold pJ pO;cases decide (f.Version>e.Version)<;>cases(f.Version==e.Version)<;>cases hd:f.Deleted<;>simp[bd,hd]
def Zw (a b:AB)(h:a.sz<=34359738368/\b.sz<=34359738368):yJ a b=some (dU a b):=by
 unfold yJ dU;rw[aB h.1,bd_s];cases m:aR a with
 |false=>rw[aB h.1];rfl
 |true=>
  rw[aB h.2];cases hb:aR b with
  |false=>rw[aB h.1];rfl
  |true=>
   obtain⟨r,t⟩:=aHe m;obtain⟨u,v⟩:=aHe hb;simp only[ay,aa,ac,bd_s,du];have hm:=zM _ a.Entries b.Entries (ai _);rw[Gx (λn s=>∃(i k:Nat) (o:List AH),s=((i:Int),(k:Int),o)/\i<=a.Entries.length/\k<=b.Entries.length/\n<=i+k/\o++bH (a.Entries.drop i) (b.Entries.drop k)=bH a.Entries b.Entries) (a.Entries.length+b.Entries.length) (some (bH a.Entries b.Entries)) (s:=((0:Int),(0:Int),([]:List AH))) (by omega) ⟨0,0,[],rfl,by omega,by omega,by omega,rfl⟩ (λn s rec hn hv=>by
     obtain⟨i,k,o,rfl,hi,hk,j,ho⟩:=hv;have p:o.length<=40:=by have:=congrArg List.length ho;rw[aw] at this;omega
     have f:∀x:AH,aV o [x]:=λx=>by unfold aV;simp only[cr];omega
     have wi:IntKind.i64.wrap ((i:Int)+1)=((i+1:Nat):Int):=by rw[aI (by omega) (by omega)];rfl
     have wk:IntKind.i64.wrap ((k:Int)+1)=((k+1:Nat):Int):=by rw[aI (by omega) (by omega)];rfl
     rcases fg i a.Entries.length with d|d
     ·have ne1:((i:Int)==(a.Entries.length:Int))=false:=by simp;omega
      rw[drop_at d] at ho;rcases fg k b.Entries.length with c|c
      ·have ne2:((k:Int)==(b.Entries.length:Int))=false:=by simp;omega
       rw[drop_at c,vG] at ho;simp only[dF d,dF c,ac,bd_s,ne2,aa,aN d,aN c,ne1,aB (f _),wi,wk,bF3];cases h1:eF a.Entries[i] b.Entries[k] with
       |true=>rw[h1,ac,<-drop_at c] at ho;exact .inl ⟨_,⟨i+1,k,o++[a.Entries[i]],rfl,by omega,hk,by omega,by rw[<-ho];simp⟩,rfl⟩
       |false=>
        cases h2:eF b.Entries[k] a.Entries[i] with
        |true=>rw[h1,aa,h2,ac,<-drop_at d] at ho;exact .inl ⟨_,⟨i,k+1,o++[b.Entries[k]],rfl,hi,by omega,by omega,by rw[<-ho];simp⟩,rfl⟩
        |false=>rw[h1,aa,h2,aa] at ho;exact .inl ⟨_,⟨i+1,k+1,o++[pJ a.Entries[i] b.Entries[k]],rfl,by omega,by omega,by omega,by rw[<-ho];simp⟩,rfl⟩
      ·have e:k=b.Entries.length:=by omega
       subst e;rw[dq,fF] at ho;simp only[dF d,ac,bd_s,ex,aN d,aB (f _),wi];exact .inl ⟨_,⟨i+1,_,o++[a.Entries[i]],rfl,by omega,ai _,by omega,by rw[dq,fF,<-ho];simp⟩,rfl⟩
     ·have e:i=a.Entries.length:=by omega
      subst e;rw[dq,jX] at ho;rcases fg k b.Entries.length with c|c
      ·have ne2:((k:Int)==(b.Entries.length:Int))=false:=by simp;omega
       simp only[dL,aa,dF c,bd_s,ac,ne2,ex,aN c,aB (f _),wk];exact .inl ⟨_,⟨_,k+1,o++[b.Entries[k]],rfl,ai _,by omega,by omega,by rw[dq,jX,<-ho,drop_at c];simp⟩,rfl⟩
      ·have l:k=b.Entries.length:=by omega
       subst l;rw[dq,cV] at ho;refine .inr ?_;simp only[dL,aa,bd_s];rw[ho]) (λs rec hv=>by
     obtain⟨i,k,o,rfl,hi,hk,j,ho⟩:=hv;have q:i=a.Entries.length:=by omega
     have l:k=b.Entries.length:=by omega
     subst q;subst l;rw[dq,dq,fF,cV] at ho;simp only[dL,aa,bd_s];rw[ho])]
   rw[bd_s,aB (by simp only[AB.sz];omega),bd_s,aB h.1];cases aR ⟨bH a.Entries b.Entries⟩<;>rfl
def U6 {w:AA}(h:w.sz<=34359738368):Dt w:=by simp only[AA.sz] at h;unfold Dt;omega
def bPd {w:AA}{i:Nat}(hi:i<(aX w).length):∃d:Nat,(aX w)[i]=(d:Int)/\d<w.Devices.length:=by have hm:(aX w)[i]∈aX w:=cf hi;unfold aX at hm;obtain⟨d,hd,e⟩:=cb.1 hm;have:=(gy.1 hd).1;exact⟨d,e.symm,by simpa using this⟩
def bVj {w:AA}{d:Nat}(hd:d<w.Devices.length):w.Devices[d].aAD.sz<=w.sz:=by have:=jS (f:=AD.sz) hd;simp only[AA.sz,AD.sz,AB.sz] at*;omega
def bF4 {w:AA}(h:w.sz<=34359738368){F:(Nat×List AH->Option ((AB×Bool)⊕List AH))->Nat×List AH->Option ((AB×Bool)⊕List AH)}
  (c:∀rec i o (hi:i<(aX w).length),o.length<=20->(aG w (aX w)[i]).aAD.sz<=34359738368->bA w.Devices (aX w)[i]=some (aG w (aX w)[i])->F rec (i,o)=bif (dU ⟨o⟩ (aG w (aX w)[i]).aAD).2 then rec (i+1,(dU ⟨o⟩ (aG w (aX w)[i]).aAD).1.Entries) else some (.inl (⟨[]⟩,false)))
  (f:∀rec o,F rec ((aX w).length,o)=some (.inr o)):nx (bU FUEL F (0,[])) (λo=>some (⟨o⟩,true))=some (Gy w):=by
 have hlen:(aX w).length<=w.Devices.length:=by unfold aX;exact Kg
 have hd:w.Devices.length<=34359738368:=by simp only[AA.sz] at h;omega
 rw[Gx (λi s=>∃o,s=(i,o)/\o.length<=20/\uS w ((aX w).drop i) o=uS w (aX w) []) (aX w).length (some (uS w (aX w) [])) (s:=(0,[])) (by omega) ⟨[],rfl,by simp,rfl⟩ (λi s rec hi hv=>by
  obtain⟨o,rfl,h1,h2⟩:=hv;obtain⟨d,e,b⟩:=bPd hi;have a:aG w (aX w)[i]=w.Devices[d]:=by rw[e];unfold aG;rw[bv,List.getD,ae b,ci]
  have hb:=bVj b;rw[c rec i o hi h1 (by rw[a];omega) (by rw[a,e];exact aN b)];rw[cq hi] at h2;simp only[uS] at h2;cases hm:(dU ⟨o⟩ (aG w (aX w)[i]).aAD).2 with
  |true=>rw[hm,ac] at h2;exact .inl ⟨_,⟨_,rfl,(aHe (bNk hm)).1,h2⟩,rfl⟩
  |false=>
   rw[hm,aa] at h2;exact .inr (by rw[aa,h2])) (λs rec hv=>by
  obtain⟨o,rfl,h1,h2⟩:=hv;rw[dq] at h2;rw[f,<-h2];rfl)]
 unfold Gy;cases uS w (aX w) []<;>rfl
def U7 (w:AA)(h:w.sz<=34359738368):Bo w=some (Gy w):=by
 unfold Bo;rw[aB (U6 h),bd_s];exact bF4 h (λrec i o hi h1 h2 a=>by
  simp only[dF hi,ac,aN hi,bd_s,a];rw[aB ⟨by simp only[AB.sz];omega,h2⟩,bd_s];cases(dU ⟨o⟩ (aG w (aX w)[i]).aAD).2<;>rfl) (λrec o=>by simp only[dL,aa])
def aRn (l:List AF)(h:l.length<=34359738368):Ub l=some l:=by unfold Ub;rw[oH h];rfl
def aRo (l:List AF)(h:l.length<=34359738368):Vg l=some l:=by unfold Vg;rw[oH h];rfl
def aIf (l:List Int)(h:l.length<=34359738368):Ju l=some l:=by unfold Ju;rw[oH h];rfl
def aRp (d:AD)(h:d.sz<=34359738368):Um d=some d:=by simp only[AD.sz] at h;unfold Um;simp only[aB (show d.Log.length<=34359738368 by omega),aB (show d.aAD.sz<=34359738368 by simp only[AB.sz];omega),bd_s]
def aDh (d:AD)(h:d.sz<=34359738368):Fs d=some d:=by simp only[AD.sz] at h;unfold Fs;simp only[aB (show d.Log.length<=34359738368 by omega),aB (show d.aAD.sz<=34359738368 by simp only[AB.sz];omega),bd_s]
def aRq (e:AN)(h:e.sz<=34359738368):Uf e=some e:=by
 simp only[AN.sz] at h;unfold Uf;rw[aCs (l:=e.Boxes) (by omega) (λrec i s hi hs=>by
  have a:=jS (f:=AO.sz) hi;simp only[AO.sz] at a h;simp only[dF hi,ac,aN hi,bd_s,oH (show e.Boxes[i].Data.length<=34359738368 by omega),gF hs,bp]) (λrec s=>by simp only[dL,aa])]
 rfl
def aIg (l:List AO)(h:Da AO.sz l<=34359738368):Jv l=some l:=by
 unfold Jv;unfold Da at h;rw[bNl (l:=l) (by omega) (λrec i s hi hs=>by
  have a:=jS (f:=AO.sz) hi;simp only[AO.sz] at a h;simp only[dF hi,ac,aN hi,bd_s,aB (show l[i].Data.length<=34359738368 by omega),gF hs]) (λrec s=>by simp only[dL,aa])]
 rfl
def Qb (e:AN)(h:e.sz<=34359738368):uP e=some e:=by unfold uP;simp only[aB (show Da AO.sz e.Boxes<=34359738368 from h),bd_s]
def aRr (e:AJ)(h:e.sz<=34359738368):Uq e=some e:=by unfold Uq;rw[oH h];rfl
def aDi (e:AJ)(h:e.sz<=34359738368):Fq e=some e:=by unfold Fq;simp only[aB (show e.Data.length<=34359738368 from h),bd_s]
def aRs (c:AM)(h:c.sz<=34359738368):Ur c=some c:=by
 simp only[AM.sz] at h;unfold Ur;rw[aCs (l:=c.History) (by omega) (λrec i s hi hs=>by
  have a:=jS (f:=AJ.sz) hi;simp only[dF hi,ac,aN hi,bd_s,aB (show c.History[i].sz<=34359738368 by omega),gF hs]) (λrec s=>by simp only[dL,aa])]
 simp only[aB (show c.Log.length<=34359738368 by omega),aB (show c.Boxes.sz<=34359738368 by simp only[AN.sz];omega),bd_s]
def aIh (c:AM)(h:c.sz<=34359738368):Jw c=some c:=by
 simp only[AM.sz] at h;unfold Jw;rw[aCs (l:=c.History) (by omega) (λrec i s hi hs=>by
  have a:=jS (f:=AJ.sz) hi;simp only[dF hi,ac,aN hi,bd_s,aB (show c.History[i].sz<=34359738368 by omega),gF hs]) (λrec s=>by simp only[dL,aa])]
 simp only[aB (show c.Log.length<=34359738368 by omega),aB (show c.Boxes.sz<=34359738368 by simp only[AN.sz];omega),bd_s]
def aRt (e:AI)(h:e.sz<=34359738368):Ui e=some e:=by unfold Ui;rw[oH h];rfl
def U8 (e:AI)(h:e.sz<=34359738368):Bw e=some e:=by unfold Bw;rw[oH h];rfl
def aRu (e:AP)(h:e.sz<=34359738368):Uj e=some e:=by unfold Uj;rw[oH h];rfl
def aMl (e:AP)(h:e.sz<=34359738368):Pq e=some e:=by unfold Pq;rw[oH h];rfl
def aRv (s:AC)(h:s.sz<=34359738368):Uk s=some s:=by
 simp only[AC.sz] at h;unfold Uk;rw[aCs (l:=s.Accounts) (by omega) (λrec i q hi hs=>by
  have a:=jS (f:=AI.sz) hi;simp only[dF hi,ac,aN hi,bd_s,aB (show s.Accounts[i].sz<=34359738368 by omega),gF hs]) (λrec q=>by simp only[dL,aa])]
 simp only[aB (show s.Book.sz<=34359738368 by simp only[AP.sz];omega),bd_s,oH (show s.Logins.length<=34359738368 by omega),bp]
def aMm (s:AC)(h:s.sz<=34359738368):Ps s=some s:=by
 simp only[AC.sz] at h;unfold Ps;rw[aCs (l:=s.Accounts) (by omega) (λrec i q hi hs=>by
  have a:=jS (f:=AI.sz) hi;simp only[dF hi,ac,aN hi,bd_s,aB (show s.Accounts[i].sz<=34359738368 by omega),gF hs]) (λrec q=>by simp only[dL,aa])]
 simp only[aB (show s.Book.sz<=34359738368 by simp only[AP.sz];omega),bd_s,aB (show Ac s.Logins [] by unfold Ac;simp;omega)];simp[rY]
def aRw (e:AG)(h:e.sz<=34359738368):Uy e=some e:=by unfold Uy;rw[oH h];rfl
def aMn (e:AG)(h:e.sz<=34359738368):Po e=some e:=by unfold Po;rw[oH h];rfl
def aMo (l:List AG)(h:Da AG.sz l<=34359738368):Pf l=some l:=by
 unfold Pf;unfold Da at h;rw[bNl (l:=l) (by omega) (λrec i s hi hs=>by
  have a:=jS (f:=AG.sz) hi;simp only[dF hi,ac,aN hi,bd_s,aB (show l[i].sz<=34359738368 by omega),gF hs]) (λrec s=>by simp only[dL,aa])]
 rfl
def aIi (l:List AG)(h:Da AG.sz l<=34359738368):Jy l=some l:=by
 unfold Jy;unfold Da at h;rw[bNl (l:=l) (by omega) (λrec i s hi hs=>by
  have a:=jS (f:=AG.sz) hi;simp only[dF hi,ac,aN hi,bd_s,aB (show l[i].sz<=34359738368 by omega),gF hs]) (λrec s=>by simp only[dL,aa])]
 rfl
def aRx (e:AS)(h:e.sz<=34359738368):Uz e=some e:=by unfold Uz;rw[oH h];rfl
def aMp (e:AS)(h:e.sz<=34359738368):Pp e=some e:=by unfold Pp;rw[oH h];rfl
def aRy (w:AA)(h:w.sz<=34359738368):Va w=some w:=by
 simp only[AA.sz] at h;unfold Va;rw[aCs (l:=w.Devices) (by omega) (λrec i q hi hs=>by
  have a:=jS (f:=AD.sz) hi;simp only[dF hi,ac,aN hi,bd_s,aB (show w.Devices[i].sz<=34359738368 by omega),gF hs]) (λrec q=>by simp only[dL,aa]),
  aCs (l:=w.Sites) (by omega) (λrec i q hi hs=>by
  have a:=jS (f:=AC.sz) hi;simp only[dF hi,ac,aN hi,bd_s,aB (show w.Sites[i].sz<=34359738368 by omega),gF hs]) (λrec q=>by simp only[dL,aa])]
 simp only[bd_s,oH (show w.Stolen.length<=34359738368 by omega),aB (show w.aAC.sz<=34359738368 by simp only[AM.sz];omega),aB (show Da AG.sz w.Hosts<=34359738368 by unfold Da;omega),aB (show w.Mail.sz<=34359738368 by simp only[AS.sz];omega),bp]
def aIj (w:AA)(h:w.sz<=34359738368):Jz w=some w:=by
 simp only[AA.sz] at h;unfold Jz;rw[aCs (l:=w.Devices) (by omega) (λrec i q hi hs=>by
  have a:=jS (f:=AD.sz) hi;simp only[dF hi,ac,aN hi,bd_s,aB (show w.Devices[i].sz<=34359738368 by omega),gF hs]) (λrec q=>by simp only[dL,aa]),
  aCs (l:=w.Sites) (by omega) (λrec i q hi hs=>by
  have a:=jS (f:=AC.sz) hi;simp only[dF hi,ac,aN hi,bd_s,aB (show w.Sites[i].sz<=34359738368 by omega),gF hs]) (λrec q=>by simp only[dL,aa])]
 simp only[bd_s,oH (show w.Stolen.length<=34359738368 by omega),aB (show w.aAC.sz<=34359738368 by simp only[AM.sz];omega),aB (show Da AG.sz w.Hosts<=34359738368 by unfold Da;omega),aB (show w.Mail.sz<=34359738368 by simp only[AS.sz];omega),bp]
def bAg {F:(Int×Int×Int->Option Int)->Int×Int×Int->Option Int}(a:∀rec (b n s:Int),0<=n->n<9223372036854775807->F rec (b,n,s)=bif decide (n>0) then rec ((IntKind.i64.wrap (b*b)).tmod 2147483647,n/2,bif n%2==1 then(IntKind.i64.wrap (s*b)).tmod 2147483647 else s) else some s):
  ∀(k:Nat) (b n s:Int) (f:Nat),k<f->0<=n->n<2^k->k<=62->bU f F (b,n,s)=some (bJy k b n s)
 |0,b,n,s,f+1,c,h0,h1,hk=>by
  have:n=0:=by simp at h1;omega
  subst this;rw[jA,a _ _ _ _ (by omega) (by omega)];rfl
 |k+1,b,n,s,f+1,c,h0,h1,hk=>by
  have h2:(2:Int)^(k+1)=2*2^k:=by rw[fi];omega
  have d:n<2^62:=Int.lt_of_lt_of_le h1 (by exact_mod_cast iy (by omega) hk);rw[jA,a _ _ _ _ h0 (by omega)];unfold bJy;by_cases hn:n>0
  ·rw[ak hn,ac,cQ hn];exact bAg a k _ (n/2) _ f (by omega) (by omega) (by omega) (by omega)
  ·rw[ao hn,aa,dk hn]
def aRz (b n:Int)(h:0<=n/\n<2147483648):sQ b n=some (bJy 31 b n 1):=by unfold sQ;rw[bAg (λrec b n s h0 h1=>by simp only[show oQ .i64 n 1=n%2 from and_one h0 (by omega),show Gu .i64 n 1=n/2 from bHi h0,aRk,gd_T,lQ,bd_s,aB (show(0:Int)<=1 by decide)]) 31 b n 1 FUEL (by have:=gY;omega) h.1 (by have:=h.2;omega) (by omega)];rfl
def aU4 (b n:Int)(h:0<=n/\n<2147483648)(hb:0<=b/\b<2147483647):zK b n 2147483647=some (bJy 31 b n 1):=by
 unfold zK;rw[show b.tmod 2147483647=b by rw[ct hb.1];omega,show(1:Int).tmod 2147483647=1 by decide,bAg (λrec b n s h0 h1=>by
  have a:((2:Int)≠0)=True:=by simp
  simp only[show n.tmod 2=n%2 from ct h0,show n.tdiv 2=n/2 from ko h0,show IntKind.i64.wrap (n/2)=n/2 from aI (by omega) (by omega),aRk,a,gd_T,lQ,bd_s]) 31 b n 1 FUEL (by have:=gY;omega) h.1 (by have:=h.2;omega) (by omega)]
 simp only[aRk,gd_T,bd_s]
def aDj (q:Int):Ec q=some (gQ q):=by
 unfold Ec gQ;rw[aRz _ _ (by decide),bHj,show bK q 1 2147483646=bL q from rfl];cases hk:bL q with
 |false=>rfl
 |true=>
  have hr:=iC hk;have b:IntKind.i64.wrap (q*1899818559)=q*1899818559:=aI (by omega) (by omega);simp only[ay,aa,bd_s,b,aRk,gd_T,ct (show 0<=q*1899818559 by omega)];have hp:cZ (q*1899818559%2147483647)=q:=by
   unfold cZ bL bK;have h1:1<=q*1899818559%2147483647:=by omega
   have h2:q*1899818559%2147483647<=2147483646:=by omega
   have a:IntKind.i64.wrap (q*1899818559%2147483647*48271)=q*1899818559%2147483647*48271:=aI (by omega) (by omega);simp only[h1,h2,decide_true,du,ay,aa,a];rw[ct (by omega)];omega
  rw[hp,dr];rfl
def aDk (q:Int):Fj q=some (gQ q):=by
 unfold Fj gQ;rw[aU4 _ _ (by decide) (by decide),bHj];cases hk:bL q with
 |false=>rfl
 |true=>have hr:=iC hk;have a:IntKind.i64.wrap (q*1899818559)=q*1899818559:=aI (by omega) (by omega);simp only[ay,aa,bd_s,a,aRk,gd_T,ct (show 0<=q*1899818559 by omega)]
def U9 (p:Int)(l:List Int)(h:l.length<=34359738300):Al p l=some (sD p l):=by unfold Al sD;rw[aB (by simp[aV];omega),aB (by simp;omega)];cases bL p<;>rfl
def V3 (p:Int)(l:List Int)(h:l.length<=34359738300):Bv p l=some (sD p l):=by unfold Bv sD;rw[aB (by unfold Ac;simp;omega),bd_s,aB (by simp[rY];omega)];cases bL p<;>simp[rY]
def Nl (q:Int)(l:List Int)(g:Int)(h:l.length<=34359738300):sS q l g=some (iI q l g):=by unfold sS iI;simp only[aB h,bd_s,lQ];cases(gQ q !=0)<;>rfl
def Nn (q:Int)(l:List Int)(g:Int)(h:l.length<=34359738300):sZ q l g=some (iI q l g):=by unfold sZ iI;simp only[aB h,bd_s,lQ];cases(gQ q !=0)<;>rfl
def aYq (b:AP)(h:b.Open.length<=34359738368){τ:Type}(rec:Nat->Option τ)(r:Option τ)(i:Nat)(hi:i<b.Open.length):(bd (bif (!bK b.Open[i].Id (0:Int) (IntKind.i64.wrap (b.Next-(1:Int)))) then(some (true)) else(bif (decide ((↑i:Int)>(0:Int))) then(bd (bA (b.Open) (IntKind.i64.wrap ((↑i:Int)-(1:Int)))) λa=>bif (decide (a.Id>=b.Open[i].Id)) then(some (true)) else(bif (!bK b.Open[i].aAH (0:Int) (1000005:Int)) then(some (true)) else(some (!bK b.Open[i].Until (0:Int) (1000005:Int))))) else(bif (!bK b.Open[i].aAH (0:Int) (1000005:Int)) then(some (true)) else(some (!bK b.Open[i].Until (0:Int) (1000005:Int)))))) λc=>bif c then r else(rec (i+1)))=bif iJ b i b.Open[i] then r else rec (i+1):=by
 unfold iJ;by_cases h0:0<i
 ·rw[Sk h0 hi h,bd_s,show decide ((i:Int)>0)=true by simpa using h0,ak h0];cases bK b.Open[i].Id 0 (IntKind.i64.wrap (b.Next-1))<;>cases decide ((b.Open.getD (i-1) default).Id>=b.Open[i].Id)<;>cases bK b.Open[i].aAH 0 1000005<;>cases bK b.Open[i].Until 0 1000005<;>rfl
 ·rw[show decide ((i:Int)>0)=false by simpa using h0,ao h0];cases bK b.Open[i].Id 0 (IntKind.i64.wrap (b.Next-1))<;>cases bK b.Open[i].aAH 0 1000005<;>cases bK b.Open[i].Until 0 1000005<;>rfl
def V4 (b:AP)(h:b.sz<=34359738368):Aq b=some (eQ b):=by
 simp only[AP.sz] at h;unfold Aq eQ;rw[iF (l:=b.Open) (iJ b) (.inl false) (.inr ()) (by omega) (λrec i hi=>by
  simp only[dF hi,ac,aN hi,bd_s];exact aYq b h rec _ i hi) (λrec=>by simp only[dL,aa])]
 rw[show decide ((b.Open.length:Int)<=16)=decide (b.Open.length<=16) from cF.2 (by omega)];cases bK b.Next 0 1000000<;>cases decide (b.Open.length<=16)<;>cases gM (iJ b) 0 b.Open<;>rfl
def V5 (b:AP)(h:b.sz<=34359738368):Bt b=some (eQ b):=by
 simp only[AP.sz] at h;unfold Bt eQ;rw[iF (l:=b.Open) (iJ b) (.inl false) (.inr ()) (by omega) (λrec i hi=>by
  simp only[dF hi,ac,aN hi,bd_s];exact aYq b h rec _ i hi) (λrec=>by simp only[dL,aa])]
 rw[show decide ((b.Open.length:Int)>16)= !decide (b.Open.length<=16) by rw[<-decide_not];exact cF.2 (by omega)];cases bK b.Next 0 1000000<;>cases decide (b.Open.length<=16)<;>cases gM (iJ b) 0 b.Open<;>rfl
def aYr (m:AS)(h:m.Notices.length<=34359738368){τ:Type}(rec:Nat->Option τ)(r:Option τ)(i:Nat)(hi:i<m.Notices.length):(bd (bif (!bK m.Notices[i].Kind (1:Int) (5:Int)) then(some (true)) else(bif (!bK m.Notices[i].aAH (0:Int) (1000000:Int)) then(some (true)) else(bif (!bK m.Notices[i].Time (0:Int) (1000000:Int)) then(some (true)) else(bif (decide ((↑i:Int)>(0:Int))) then(bd (bA (m.Notices) (IntKind.i64.wrap ((↑i:Int)-(1:Int)))) λa=>some (decide (a.Time>m.Notices[i].Time))) else(some (false)))))) λb=>bif b then r else(rec (i+1)))=bif vE m.Notices i m.Notices[i] then r else rec (i+1):=by
 unfold vE;by_cases h0:0<i
 ·rw[Sk h0 hi h,bd_s,show decide ((i:Int)>0)=true by simpa using h0,ak h0];cases bK m.Notices[i].Kind 1 5<;>cases bK m.Notices[i].aAH 0 1000000<;>cases bK m.Notices[i].Time 0 1000000<;>cases decide ((m.Notices.getD (i-1) default).Time>m.Notices[i].Time)<;>rfl
 ·rw[show decide ((i:Int)>0)=false by simpa using h0,ao h0];cases bK m.Notices[i].Kind 1 5<;>cases bK m.Notices[i].aAH 0 1000000<;>cases bK m.Notices[i].Time 0 1000000<;>rfl
def Qc (m:AS)(h:m.sz<=34359738368):uI m=some (gG m):=by
 simp only[AS.sz] at h;unfold uI gG;rw[iF (l:=m.Notices) (vE m.Notices) (.inl false) (.inr ()) (by omega) (λrec i hi=>by
  simp only[dF hi,ac,aN hi,bd_s];exact aYr m h rec _ i hi) (λrec=>by simp only[dL,aa])]
 rw[show decide ((m.Notices.length:Int)<=30)=decide (m.Notices.length<=30) from cF.2 (by omega)];cases decide (m.Notices.length<=30)<;>cases gM (vE m.Notices) 0 m.Notices<;>rfl
def Qd (m:AS)(h:m.sz<=34359738368):uO m=some (gG m):=by
 simp only[AS.sz] at h;unfold uO gG;rw[iF (l:=m.Notices) (vE m.Notices) (.inl false) (.inr ()) (by omega) (λrec i hi=>by
  simp only[dF hi,ac,aN hi,bd_s];exact aYr m h rec _ i hi) (λrec=>by simp only[dL,aa])]
 rw[show decide ((m.Notices.length:Int)>30)= !decide (m.Notices.length<=30) by rw[<-decide_not];exact cF.2 (by omega)];cases decide (m.Notices.length<=30)<;>cases gM (vE m.Notices) 0 m.Notices<;>rfl
def aMq (i:Int):Ot i=some (aA i):=by unfold Ot aA;cases i==0<;>cases i==1<;>rfl
def aMr (i:Int):Pn i=some (aA i):=by unfold Pn aA;cases i==0<;>cases i==1<;>rfl
def aIk (e:AF):Iq e=some (dI e):=by unfold Iq;rw[aB (by simp)];rfl
def aIl (e:AF):Js e=some (dI e):=by unfold Js;rw[aB (by simp)];rfl
def aR0 (l:List AF)(h:l.length<=34359738368):Ua l=some (iZ l):=by
 unfold Ua iZ;cases hl:((l.length:Int)==0) with
 |true=>rfl
 |false=>
  have:l.length≠0:=by intro h0;rw[h0] at hl;simp at hl
  rw[aI (by omega) (by omega),show(l.length:Int)-1=((l.length-1:Nat):Int) by omega,aN (by omega)];simp[List.getD,ae (show l.length-1<l.length by omega)]
def aR1 (l:List AF)(h:l.length<=34359738368):Vf l=some (iZ l):=by
 unfold Vf iZ;cases hl:((l.length:Int)==0) with
 |true=>rfl
 |false=>
  have:l.length≠0:=by intro h0;rw[h0] at hl;simp at hl
  rw[aI (by omega) (by omega),show(l.length:Int)-1=((l.length-1:Nat):Int) by omega,aN (by omega)];simp[List.getD,ae (show l.length-1<l.length by omega)]
def aDl (l:List AF)(p:Int)(h:l.length<=34359738368):Fp l p=some (dY l p):=by
 unfold Fp;rw[jT (l:=l) (λe=>e.Kind==2&&e.Device==p) (.inl true) (.inr ()) (by omega) (λrec i hi=>by
  simp only[dF hi,ac,aN hi,bd_s,lQ];cases(l[i].Kind==2)<;>rfl) (λrec=>by simp only[dL,aa])]
 unfold dY;cases l.any _<;>rfl
def aR2 (l:List AV)(p:Int)(i:Nat)(hi:i<=l.length)(h:l.length<=34359738368){F:(Nat->Option ((Bool⊕PUnit)⊕PUnit))->Nat->Option ((Bool⊕PUnit)⊕PUnit)}(a:∀rec j (b:j<i),F rec j=bif (l[j]'(by omega)).Public==p then some (.inl (.inl false)) else rec (j+1))(c:∀rec,F rec i=some (.inr ())):
  bU FUEL F 0=some (bif (l.take i).any (λq=>q.Public==p) then .inl (.inl false) else .inr ()):=by
 have ht:(l.take i).length=i:=by rw[bw];omega
 exact jT (l:=l.take i) (λq=>q.Public==p) _ _ (by omega) (λrec j b=>by rw[a rec j (by omega),fe]) (λrec=>by rw[ht];exact c rec)
def bDn (a:AI)(h:a.Credentials.length<=34359738368)(i:Nat)(hi:i<a.Credentials.length){τ:Type}{X:Option τ}{r:Option τ}{K:Option τ}(hX:X=bif (a.Credentials.take i).any (λq=>q.Public==a.Credentials[i].Public) then r else K):
  (bd (bif (!bK a.Credentials[i].Handle (0:Int) (1000000:Int)) then(some (true)) else(bif (decide ((↑i:Int)>(0:Int))) then(bd (bA (a.Credentials) (IntKind.i64.wrap ((↑i:Int)-(1:Int)))) λb=>bif (decide (b.Handle>=a.Credentials[i].Handle)) then(some (true)) else(bd (some (gQ a.Credentials[i].Public)) λc=>bif (c==(0:Int)) then(some (true)) else(some (!bK a.Credentials[i].Counter (0:Int) (1000000:Int))))) else(bd (some (gQ a.Credentials[i].Public)) λb=>bif (b==(0:Int)) then(some (true)) else(some (!bK a.Credentials[i].Counter (0:Int) (1000000:Int)))))) λd=>bif d then r else X)=bif wC a i a.Credentials[i] then r else K:=by
 rw[hX];unfold wC;by_cases h0:0<i
 ·rw[Sk h0 hi h,show decide ((i:Int)>0)=true by simpa using h0,ak h0];simp only[bd_s];cases bK a.Credentials[i].Handle 0 1000000<;>cases decide ((a.Credentials.getD (i-1) default).Handle>=a.Credentials[i].Handle)<;>cases(gQ a.Credentials[i].Public==0)<;>cases bK a.Credentials[i].Counter 0 1000000<;>cases(a.Credentials.take i).any (λq=>q.Public==a.Credentials[i].Public)<;>rfl
 ·rw[show decide ((i:Int)>0)=false by simpa using h0,ao h0];simp only[bd_s];cases bK a.Credentials[i].Handle 0 1000000<;>cases(gQ a.Credentials[i].Public==0)<;>cases bK a.Credentials[i].Counter 0 1000000<;>cases(a.Credentials.take i).any (λq=>q.Public==a.Credentials[i].Public)<;>rfl
def Qe (a:AI)(h:a.sz<=34359738368):uF a=some (bB a):=by
 simp only[AI.sz] at h;unfold uF bB;rw[iF (l:=a.Credentials) (wC a) (.inl false) (.inr ()) (by omega) (λrec i hi=>by
  simp only[dF hi,ac,aN hi,bd_s];rw[aR2 a.Credentials a.Credentials[i].Public i (by omega) h (λrec j c=>by simp only[dF c,ac,aN (show j<a.Credentials.length by omega),bd_s]) (λrec=>by simp only[dL,aa])];have:=bDn a h i hi (X:=nx (some (bif (a.Credentials.take i).any (λq=>q.Public==a.Credentials[i].Public) then Sum.inl (Sum.inl false) else Sum.inr PUnit.unit)) λ_=>rec (i+1)) (r:=some (.inl false)) (K:=rec (i+1)) (by cases(a.Credentials.take i).any _<;>rfl);rw[<-this];simp only[bd_s];generalize(bif !bK a.Credentials[i].Handle 0 1000000 then _ else _:Option Bool)=q;cases q with
  |none=>rfl
  |some b=>cases b<;>rfl) (λrec=>by simp only[dL,aa])]
 rw[show decide ((a.Credentials.length:Int)<=8)=decide (a.Credentials.length<=8) from cF.2 (by omega)];cases bK a.Id 0 1000000<;>cases bK a.Minimum 1 3<;>cases decide (a.Credentials.length<=8)<;>cases gM (wC a) 0 a.Credentials<;>rfl
def Qf (a:AI)(h:a.sz<=34359738368):uN a=some (bB a):=by
 simp only[AI.sz] at h;unfold uN bB;rw[iF (l:=a.Credentials) (wC a) (.inl false) (.inr ()) (by omega) (λrec i hi=>by
  have ht:(a.Credentials.take i).length=i:=by rw[bw];omega
  simp only[dF hi,ac,aN hi,bd_s,aZt];rw[aB (show lV a.Credentials (i:Int) by unfold lV;omega)];rw[aR2 a.Credentials a.Credentials[i].Public i (by omega) h (λrec j c=>by simp only[ht,dF c,ac,aN (show j<(a.Credentials.take i).length by omega),bd_s,fe]) (λrec=>by simp only[ht,dL,aa])];have:=bDn a h i hi (X:=nx (some (bif (a.Credentials.take i).any (λq=>q.Public==a.Credentials[i].Public) then Sum.inl (Sum.inl false) else Sum.inr PUnit.unit)) λ_=>rec (i+1)) (r:=some (.inl false)) (K:=rec (i+1)) (by cases(a.Credentials.take i).any _<;>rfl);rw[<-this];simp only[bd_s];generalize(bif !bK a.Credentials[i].Handle 0 1000000 then _ else _:Option Bool)=q;cases q with
  |none=>rfl
  |some b=>cases b<;>rfl) (λrec=>by simp only[dL,aa])]
 rw[show decide ((a.Credentials.length:Int)>8)= !decide (a.Credentials.length<=8) by rw[<-decide_not];exact cF.2 (by omega)];cases bK a.Id 0 1000000<;>cases bK a.Minimum 1 3<;>cases decide (a.Credentials.length<=8)<;>cases gM (wC a) 0 a.Credentials<;>rfl
def vQ (s:ByteArray)(hs:s.size<=34359738368):∀(n f i st:Nat) (acc:List ByteArray),s.size-i=n->n+1<f->st<=i->i<=s.size->acc.length<=i->bU f (λc (b:(List ByteArray×Int×Int))=>bif (decide (b.2.2<=(↑s.size:Int))) then(bd (bd (bif (b.2.2==(↑s.size:Int)) then(some (true)) else(bd (bA (bX s) (b.2.2)) λk=>some (k==(46:Int)))) λm=>bif m then(gd (xR s b.2.1 b.2.2) (gd (aV b.1 [s.extract b.2.1.toNat b.2.2.toNat]) (some ((b.1++[s.extract b.2.1.toNat b.2.2.toNat],IntKind.i64.wrap (b.2.2+(1:Int))))))) else(some (b.1,b.2.1))) λ(h:List ByteArray×Int)=>c ((h.1,h.2,IntKind.i64.wrap (b.2.2+(1:Int))))) else(some (b.1))) (acc,(st:Int),(i:Int))=some (acc++(kI ((s.data.toList.drop st).take (i-st)) (s.data.toList.drop i)).map λl=>(⟨l.toArray⟩:ByteArray))
 |n,f+1,i,st,acc,hn,t,h1,h2,u=>by
  rw[jA];have e0:decide ((i:Int)<=(s.size:Int))=true:=by simpa using(show(i:Int)<=(s.size:Int) by omega)
  have es:xR s (st:Int) (i:Int):=⟨by omega,by omega,by omega⟩;have j:aV acc ([s.extract (st:Int).toNat (i:Int).toNat]:List ByteArray):=by unfold aV;simp;omega
  have d:IntKind.i64.wrap ((i:Int)+1)=((i+1:Nat):Int):=by rw[aI (by omega) (by omega)];omega
  simp only[e0,ac];rcases fg i s.size with a|o
  ·have e:((i:Int)==(s.size:Int))=false:=by simp;omega
   have hd:s.data.toList.drop i=s.data.toList[i]'a::s.data.toList.drop (i+1):=(cq a);have hb:(bX s)[i]'(by rw[lI];exact a)=((s.data.toList[i]'a).toNat:Int):=by simp[bX]
   have hq:(((s.data.toList[i]'a).toNat:Int)==46)=(s.data.toList[i]'a==46):=by
    rw[en];simp only[cH];constructor
    ·intro q;apply UInt8.toNat_inj.1;show _=46;omega
    ·intro q;rw[q];rfl
   rw[e,aa,bB7 a,bd_s,bd_s,hb,hq,hd,kI];cases hc:(s.data.toList[i]'a==46) with
   |true=>rw[ac,aB es,aB j,bd_s];dsimp only;rw[d,ac,vQ s hs (n-1) f (i+1) (i+1) _ (by omega) (by omega) (ai _) (by omega) (by simp;omega),bv,bv,ext_list];simp
   |false=>
    rw[aa,bd_s];dsimp only;rw[d,aa,vQ s hs (n-1) f (i+1) st _ (by omega) (by omega) (by omega) (by omega) (by omega)];have:(s.data.toList.drop st).take (i+1-st)=(s.data.toList.drop st).take (i-st)++[s.data.toList[i]'a]:=by rw[show i+1-st=(i-st)+1 by omega,dz,dT,show st+(i-st)=i by omega,ae a];rfl
    rw[this]
  ·have e:((i:Int)==(s.size:Int))=true:=by simp;omega
   obtain⟨f,rfl⟩:∃g,f=g+1:=⟨f-1,by omega⟩;have p:s.data.toList.length<=i:=by have:s.data.toList.length=s.size:=rfl;omega
   have r:decide (((i+1:Nat):Int)<=(s.size:Int))=false:=by simp;omega
   rw[e,ac,bd_s,ac,aB es,aB j,bd_s,jA];dsimp only;rw[d];simp only[r,aa];rw[gn p,kI,bv,bv,ext_list];rfl
def aMs (s:ByteArray)(h:s.size<=34359738368):Ou s=some (bO s):=by unfold Ou;have a:=gY;have:=vQ s h s.size FUEL 0 0 [] rfl (by omega) (ai _) (cC _) (ai _);rw[show(0:Int)=((0:Nat):Int) from rfl];refine(congrArg (λx=>bd x some) this).trans ?_;simp[bO]
def aR3 (s:ByteArray)(h:s.size<=34359738368):Ug s=some (wN s):=by
 unfold Ug wN;have hb:=lI s;rw[jT (l:=bX s) (λb=> !aCq b) (.inl false) (.inr ()) (by omega) (λrec i hi=>by
  have a:i<s.size:=by omega
  simp only[dF a,ac,bB7 a,bd_s];generalize(bX s)[i]'_=b;unfold aCq bK;have c:decide (b>=97)=decide (97<=b):=rfl;have d:decide (b>=48)=decide (48<=b):=rfl;rw[c,d];cases decide (97<=b)<;>cases decide (b<=122)<;>cases decide (48<=b)<;>cases decide (b<=57)<;>cases(b==45)<;>rfl) (λrec=>by simp only[hb,dL,aa])]
 have e:bK (s.size:Int) 1 20=(decide (1<=s.size)&&decide (s.size<=20)):=by unfold bK;congr 1<;>exact cF.2 (by omega)
 rw[e];by_cases h0:0<s.size
 ·rw[show(0:Int)=((0:Nat):Int) from rfl,bB7 h0,aI (by omega) (by omega),show(s.size:Int)-1=((s.size-1:Nat):Int) by omega,bB7 (show s.size-1<s.size by omega)];simp only[bd_s,bne,List.getD,ae (show 0<(bX s).length by rw[lI];exact h0),ae (show s.size-1<(bX s).length by rw[lI];omega),ci];cases((bX s)[0]'_==45)<;>cases((bX s)[s.size-1]'_==45)<;>cases decide (1<=s.size)<;>cases decide (s.size<=20)<;>cases(bX s).any _<;>rfl
 ·rw[show decide (1<=s.size)=false from ao (by omega)];cases(bX s).any _<;>rfl
def aU5 (s:ByteArray)(h:s.size<=34359738368):K9 s=some (iK s):=by
 unfold K9 iK;have hl:=Sm s;simp only[aB h,bd_s];rw[jT (l:=bO s) (λl=> !wN l) (.inl false) (.inr ()) (by omega) (λrec i hi=>by
  have a:(bO s)[i].size<=34359738368:=ca (zF s _ (cf _)) h;simp only[dF hi,ac,aN hi,bd_s,aB a]) (λrec=>by simp only[dL,aa])]
 have e':decide ((s.size:Int)<=60)=decide (s.size<=60):=cF.2 (by omega);rw[e'];cases decide (s.size<=60)<;>cases(bO s).any _<;>rfl
def aU6 (s:ByteArray):N8 s=some (iK s):=by
 unfold N8 iK;by_cases a:s.size<=60
 ·have hl:=Sm s;rw[show decide ((s.size:Int)>60)=false from ao (by omega),aa,aB (show s.size<4294967281/\1<=(⟨#[UInt8.ofNat 46]⟩:ByteArray).size from⟨by omega,ai _⟩),bd_s];have es:lW s ⟨#[UInt8.ofNat 46]⟩=bO s:=aPy s;rw[es];rw[jT (l:=bO s) (λl=> !wN l) (.inl false) (.inr ()) (by omega) (λrec i hi=>by
   have d:(bO s)[i].size<=60:=ca (zF s _ (cf _)) a;simp only[dF hi,ac,aN hi,bd_s]
   revert d
   generalize(bO s)[i]=l;intro d;have hb:=lI l;rw[jT (l:=bX l) (λb=> !aCq b) (.inl (.inl false)) (.inr ()) (by omega) (λrec i hi=>by
    have c:i<l.size:=by omega
    simp only[dF c,ac,bB7 c,bd_s];generalize(bX l)[i]'_=b;unfold aCq bK;have e:decide (b>=97)=decide (97<=b):=rfl;have f:decide (b>=48)=decide (48<=b):=rfl;rw[e,f];cases decide (97<=b)<;>cases decide (b<=122)<;>cases decide (48<=b)<;>cases decide (b<=57)<;>cases(b==45)<;>rfl) (λrec=>by simp only[hb,dL,aa])]
   unfold wN;by_cases h0:0<l.size
   ·rw[show(0:Int)=((0:Nat):Int) from rfl,bB7 h0,aI (by omega) (by omega),show(l.size:Int)-1=((l.size-1:Nat):Int) by omega,bB7 (show l.size-1<l.size by omega)];have h:decide ((l.size:Int)<1)= !decide (1<=l.size):=by rw[<-decide_not];exact cF.2 (by omega)
    have j:decide ((l.size:Int)>20)= !decide (l.size<=20):=by rw[<-decide_not];exact cF.2 (by omega)
    rw[h,j];simp only[bd_s,bne,List.getD,ae (show 0<(bX l).length by rw[lI];exact h0),ae (show l.size-1<(bX l).length by rw[lI];omega),ci];cases((bX l)[0]'_==45)<;>cases((bX l)[l.size-1]'_==45)<;>cases decide (1<=l.size)<;>cases decide (l.size<=20)<;>cases(bX l).any _<;>rfl
   ·rw[show decide ((l.size:Int)<1)=true from ak (by omega),show decide (1<=l.size)=false from ao (by omega)];rfl) (λrec=>by simp only[dL,aa])]
  rw[show decide (s.size<=60)=true by simpa using a];cases(bO s).any _<;>rfl
 ·rw[show decide ((s.size:Int)>60)=true from ak (by omega),show decide (s.size<=60)=false by simpa using a];rfl
def V6 (s:ByteArray):Bp s=some (bJz s):=by
 unfold Bp bJz;cases h:iK s with
 |false=>rfl
 |true=>
  have hs:=Sq h;have hp:=aLj s;have es:lW s ⟨#[UInt8.ofNat 46]⟩=bO s:=aPy s;rw[ay,aa,ac,aB (show s.size<4294967281/\1<=(⟨#[UInt8.ofNat 46]⟩:ByteArray).size from⟨by omega,ai _⟩),bd_s,es];rw[show(((bO s).length:Int)==1)=((bO s).length==1) by rw[en];simp only[cH];omega];cases h1:(bO s).length==1 with
  |true=>rfl
  |false=>
   have h2:(bO s).length≠1:=by simpa using h1
   have hl:=Sm s;obtain⟨a,c,b,hb,e⟩:=bS0 (l:=bO s) (by omega);have c:=zF s a c;have hb:=zF s b hb;rw[aa,aa,aI (by omega) (by omega),show((bO s).length:Int)-2=(((bO s).length-2:Nat):Int) by omega,bv];have hd:((bO s).drop ((bO s).length-2)).length=2:=by rw[cy];omega
   have d:(rA ⟨#[UInt8.ofNat 46]⟩ ((bO s).drop ((bO s).length-2))).size<=140737488355328:=by have e:rA ⟨#[UInt8.ofNat 46]⟩ ((bO s).drop ((bO s).length-2))=_:=e;rw[e,ByteArray.size_append,ByteArray.size_append];have:(⟨#[46]⟩:ByteArray).size=1:=rfl;omega
   rw[aB (show lV (bO s) (((bO s).length-2:Nat):Int) by unfold lV;omega),aB ⟨by omega,d,by omega⟩];rfl
def aU7 (s:ByteArray)(h:s.size<=9223372036854775807):N9 s=some (Yl s):=by
 unfold N9 Yl;have hb:=lI s;rw[jT (l:=bX s) (λb=>b==46) (.inl true) (.inr ()) (by omega) (λrec i hi=>by
  have a:i<s.size:=by omega
  simp only[dF a,ac,bB7 a,bd_s]) (λrec=>by simp only[hb,dL,aa])]
 cases(bX s).any _<;>rfl
def V7 (n:ByteArray)(seed:Int)(h:n.size<=9223372036854775807):Bq n seed=some (lD n seed):=by
 unfold Bq lD;simp only[aB h,bd_s];rw[bWp,aUn];cases h:iK n with
 |false=>rfl
 |true=>rw[bQ5 h];cases decide (2<=(bO n).length)<;>cases bL seed<;>rfl
def aR4 (n:ByteArray)(seed:Int)(h:n.size<=34359738368):Uh n seed=some (iL n seed):=by
 unfold Uh iL lD;have e:decide (((bO n).length:Int)<2)= !decide (2<=(bO n).length):=by rw[<-decide_not];exact cF.2 (by omega)
 simp only[aB h,bd_s,e];cases iK n<;>cases decide (2<=(bO n).length)<;>cases bL seed<;>rfl
def V8 (s:AC)(h:s.sz<=34359738368):Ar s=some (dK s):=by
 simp only[AC.sz] at h;unfold Ar dK;rw[iF (l:=s.Accounts) (Mo s.Accounts) (.inl false) (.inr ()) (by omega) (λrec i hi=>by
  have b:=jS (f:=AI.sz) hi;simp only[dF hi,ac,aN hi,bd_s,aB (show s.Accounts[i].sz<=34359738368 by omega)];unfold Mo;by_cases h0:0<i
  ·rw[Sk h0 hi (by omega),show decide ((i:Int)>0)=true by simpa using h0,ak h0];simp only[bd_s];cases bB s.Accounts[i]<;>cases decide ((s.Accounts.getD (i-1) default).Id>=s.Accounts[i].Id)<;>rfl
  ·rw[show decide ((i:Int)>0)=false by simpa using h0,ao h0];cases bB s.Accounts[i]<;>rfl) (λrec=>by simp only[dL,aa])]
 rw[show decide ((s.Accounts.length:Int)<=8)=decide (s.Accounts.length<=8) from cF.2 (by omega)];have a:(!((iL s.Name s.Book.Seed).Name.toList==(⟨#[]⟩:ByteArray).toList))=lD s.Name s.Book.Seed:=by rw[bWp,bE2,Bool.not_not]
 simp only[aB (show s.Name.size<=34359738368 by omega),aB (show s.Book.sz<=34359738368 by simp only[AP.sz];omega),bd_s,a];cases lD s.Name s.Book.Seed<;>cases decide (s.Accounts.length<=8)<;>cases eQ s.Book<;>cases gM (Mo s.Accounts) 0 s.Accounts<;>rfl
def V9 (s:AC)(h:s.sz<=34359738368):Bu s=some (dK s):=by
 simp only[AC.sz] at h;unfold Bu dK;rw[iF (l:=s.Accounts) (Mo s.Accounts) (.inl false) (.inr ()) (by omega) (λrec i hi=>by
  have a:=jS (f:=AI.sz) hi;simp only[dF hi,ac,aN hi,bd_s,aB (show s.Accounts[i].sz<=34359738368 by omega)];unfold Mo;by_cases h0:0<i
  ·rw[Sk h0 hi (by omega),show decide ((i:Int)>0)=true by simpa using h0,ak h0];simp only[bd_s];cases bB s.Accounts[i]<;>cases decide ((s.Accounts.getD (i-1) default).Id>=s.Accounts[i].Id)<;>rfl
  ·rw[show decide ((i:Int)>0)=false by simpa using h0,ao h0];cases bB s.Accounts[i]<;>rfl) (λrec=>by simp only[dL,aa])]
 rw[show decide ((s.Accounts.length:Int)>8)= !decide (s.Accounts.length<=8) by rw[<-decide_not];exact cF.2 (by omega)];simp only[aB (show s.Name.size<=9223372036854775807 by omega),aB (show s.Book.sz<=34359738368 by simp only[AP.sz];omega),bd_s];cases lD s.Name s.Book.Seed<;>cases decide (s.Accounts.length<=8)<;>cases eQ s.Book<;>cases gM (Mo s.Accounts) 0 s.Accounts<;>rfl
def aR5 (l:List AF)(e:AF)(h:l.length<=34359738368):Uc l e=some (lC l e):=by
 unfold Uc lC;have hd:=iD l;rw[jT (l:=l) (λq=>q.Kind==2&&q.Device==e.Device) (.inl false) (.inr ()) (by omega) (λrec i hi=>by
  simp only[dF hi,ac,aN hi,bd_s,lQ];cases(l[i].Kind==2)<;>rfl) (λrec=>by simp only[dL,aa])]
 rw[show(l.any λq=>q.Kind==2&&q.Device==e.Device)=dY l e.Device from rfl];simp only[aB h,aB (show(aD l).length<=1099511627776 by omega),aB (show([dI e]:List Int).length<=34359738300 by simp),bd_s,bne];cases(e.Index==(l.length:Int))<;>cases(e.Previous==iZ l)<;>cases jJ (aD l) e.By<;>cases((l.length:Int)==0)<;>cases(e.By==e.Device)<;>cases iI e.By [dI e] e.Signature<;>cases(e.Kind==2)<;>cases jJ (aD l) e.Device<;>cases dY l e.Device<;>cases(e.Kind==1)<;>rfl
def aIm (l:List AF)(h:l.length<=34359738368):Iu l=some (aZ l):=by
 unfold Iu aZ;rw[iF (l:=l) (λi e=> !lC (l.take i) e) (.inl false) (.inr ()) (by omega) (λrec i hi=>by
  simp only[dF hi,ac,aN hi,bd_s,aZt];rw[aB (by unfold lV;simp;omega),aB (by rw[bw];omega)];rfl) (λrec=>by simp only[dL,aa])]
 cases gM (λi e=> !lC (l.take i) e) 0 l<;>simp
def aIn (l:List AF)(h:l.length<=34359738368):Jt l=some (aZ l):=by
 unfold Jt aZ;rw[iF (l:=l) (λi e=> !lC (l.take i) e) (.inl false) (.inr ()) (by omega) (λrec i hi=>by
  have ht:(l.take i).length=i:=by rw[bw];omega
  have hb:(l.take i).length<=34359738368:=by omega
  have hd:=iD (l.take i);simp only[dF hi,ac,aN hi,bd_s,aZt,aB (show lV l (i:Int) by unfold lV;omega),aB hb,aB (show(aD (l.take i)).length<=1099511627776 by omega),aB (show([dI l[i]]:List Int).length<=34359738300 by simp)];unfold lC;rw[ht];generalize l[i]=e;have h1:decide (((aD (l.take i)).length:Int)>=6)= !decide (((aD (l.take i)).length:Int)<6):=by rw[<-decide_not];exact cF.2 (by omega)
  have h2:jJ (aD (l.take i)) e.Device=true->decide (((aD (l.take i)).length:Int)>1)= !(((aD (l.take i)).length:Int)==1):=λa=>by
   have:=bNi a;rw[<-Bool.decide_eq_true (b:=(((aD (l.take i)).length:Int)==1)),<-decide_not];exact cF.2 (by simp;omega)
  simp only[h1,bne];cases c:(e.Kind==2) with
  |true=>
   have d:(e.Kind==1)=false:=by simp at c ⊢;omega
   rw[d];cases hd:jJ (aD (l.take i)) e.Device with
   |true=>rw[h2 hd];cases(e.Index==(i:Int))<;>cases(e.Previous==iZ (l.take i))<;>cases jJ (aD (l.take i)) e.By<;>cases((i:Int)==0)<;>cases(e.By==e.Device)<;>cases iI e.By [dI e] e.Signature<;>cases(((aD (l.take i)).length:Int)==1)<;>rfl
   |false=>cases(e.Index==(i:Int))<;>cases(e.Previous==iZ (l.take i))<;>cases jJ (aD (l.take i)) e.By<;>cases((i:Int)==0)<;>cases(e.By==e.Device)<;>cases iI e.By [dI e] e.Signature<;>rfl
  |false=>
   cases(e.Kind==1) with
   |true=>cases(e.Index==(i:Int))<;>cases(e.Previous==iZ (l.take i))<;>cases jJ (aD (l.take i)) e.By<;>cases((i:Int)==0)<;>cases(e.By==e.Device)<;>cases iI e.By [dI e] e.Signature<;>cases jJ (aD (l.take i)) e.Device<;>cases dY (l.take i) e.Device<;>cases decide (((aD (l.take i)).length:Int)<6)<;>rfl
   |false=>cases(e.Index==(i:Int))<;>cases(e.Previous==iZ (l.take i))<;>cases jJ (aD (l.take i)) e.By<;>cases((i:Int)==0)<;>cases(e.By==e.Device)<;>cases iI e.By [dI e] e.Signature<;>cases dY (l.take i) e.Device<;>rfl) (λrec=>by simp only[dL,aa])]
 unfold bK;have f:decide ((l.length:Int)<1)= !decide (1<=(l.length:Int)):=by rw[<-decide_not];exact cF.2 (by omega)
 have j:decide ((l.length:Int)>40)= !decide ((l.length:Int)<=40):=by rw[<-decide_not];exact cF.2 (by omega)
 rw[f,j];cases decide (1<=(l.length:Int))<;>cases decide ((l.length:Int)<=40)<;>cases gM (λi e=> !lC (l.take i) e) 0 l<;>rfl
def Zx (w:AA)(h:w.sz<=34359738368):yA w=some (aQ w):=by
 simp only[AA.sz] at h;unfold yA aQ;rw[iF (l:=w.Sites) nD (.inl false) (.inr ()) (by omega) (λrec i hi=>by
  have a:=jS (f:=AC.sz) hi;simp only[dF hi,ac,aN hi,bd_s,aB (show w.Sites[i].sz<=34359738368 by omega)];unfold nD;cases dK w.Sites[i]<;>cases(w.Sites[i].Name.toList==(aA (i:Int)).toList)<;>rfl) (λrec=>by simp only[dL,aa])]
 simp only[aB (show w.Mail.sz<=34359738368 by simp only[AS.sz];omega),aB (show w.aAC.Log.length<=34359738368 by omega),bne,bd_s];cases gM nD 0 w.Sites<;>cases bK w.Now 0 999900<;>cases bK (w.Devices.length:Int) 1 6<;>cases((w.Stolen.length:Int)==(w.Devices.length:Int))<;>cases((w.Sites.length:Int)==2)<;>cases gG w.Mail<;>cases aZ w.aAC.Log<;>cases bL w.Seed<;>rfl
def Zy (w:AA)(h:w.sz<=34359738368):yK w=some (aQ w):=by
 simp only[AA.sz] at h;unfold yK aQ;rw[iF (l:=w.Sites) nD (.inl false) (.inr ()) (by omega) (λrec i hi=>by
  have a:=jS (f:=AC.sz) hi;simp only[dF hi,ac,aN hi,bd_s,aB (show w.Sites[i].sz<=34359738368 by omega)];unfold nD;cases dK w.Sites[i]<;>cases(w.Sites[i].Name.toList==(aA (i:Int)).toList)<;>rfl) (λrec=>by simp only[dL,aa])]
 simp only[aB (show w.Mail.sz<=34359738368 by simp only[AS.sz];omega),aB (show w.aAC.Log.length<=34359738368 by omega),bne,bd_s];cases gM nD 0 w.Sites<;>cases bK w.Now 0 999900<;>cases bK (w.Devices.length:Int) 1 6<;>cases((w.Stolen.length:Int)==(w.Devices.length:Int))<;>cases((w.Sites.length:Int)==2)<;>cases gG w.Mail<;>cases aZ w.aAC.Log<;>cases bL w.Seed<;>rfl
def bR2 (h:AG)(b:Int)(a:h.Saved.length<=34359738368)(h0:0<=b/\b<(h.Saved.length:Int)):bA h.Saved (IntKind.i64.wrap (IntKind.i64.wrap ((h.Saved.length:Int)-1)-b))=some (h.Saved.getD (h.Saved.length-1-b.toNat) default):=by rw[aI (n:=(h.Saved.length:Int)-1) (by omega) (by omega),aI (by omega) (by omega),sF (by omega) (by omega)];congr 2;omega
def Zz (h:AG)(b:Int)(a:h.sz<=34359738368):yH h b=some (fM h b):=by
 have hq:=a;simp only[AG.sz] at hq;unfold yH fM;rw[aB a,bd_s,aCt hq];cases e:(decide (b<0)||decide (b>=(h.Saved.length:Int))) with
 |true=>rfl
 |false=>rw[bR2 h b hq (Mq e)];rfl
def bR3 {h:AG}{b:Int}(e:(fM h b).2=false):fM h b=(h,false):=by
 unfold fM at e ⊢;cases q:(decide (b<0)||decide (b>=(h.Saved.length:Int))) with
 |true=>rfl
 |false=>rw[q] at e;cases e
def Vn (w:AA)(i b:Int)(h:w.sz<=34359738368):xD w i b=some (fT w i b):=by
 have c:=h;simp only[AA.sz] at c;unfold xD fT;rw[aB h,bd_s,aB h,bd_s,aCt (by omega),rE,bd_s];cases e:(!aQ w||(decide (i<0)||decide (i>=(w.Hosts.length:Int)))) with
 |true=>rfl
 |false=>
  have a:=Mq (bo.1 e).2;have hi:i.toNat<w.Hosts.length:=by omega
  have hs:=jS (f:=AG.sz) hi;have hg:w.Hosts.getD i.toNat default=w.Hosts[i.toNat]:=by simp[List.getD,ae hi]
  rw[aa,aa,sF a.1 a.2,bd_s,hg,aB (by omega),bd_s,bd_s];cases hr:(fM w.Hosts[i.toNat] b).2 with
  |true=>rfl
  |false=>rw[bR3 hr,aa,<-hg,aP2 hi]
def aIo (l:List AU)(h:l.length<=34359738368):Ji l=some (Zk l):=by
 unfold Ji Zk;rw[iF (l:=l) (bE5 l) (.inl false) (.inr ()) (by omega) (λrec i hi=>by
  simp only[dF hi,ac,aN hi,bd_s,lQ];rw[bQ6 (λq=>q.Index==l[i].Index) (.inl (.inl false)) (.inr ()) i (by omega) h (λrec j a=>by simp only[dF a,ac,aN (show j<l.length by omega),bd_s]) (λrec=>by simp only[dL,aa])];unfold bE5;cases bK l[i].Index 1 7<;>cases bK l[i].Value 0 1018<;>cases(l.take i).any _<;>rfl) (λrec=>by simp only[dL,aa])]
 cases bK (l.length:Int) 1 7<;>cases gM (bE5 l) 0 l<;>rfl
def bAh (a:Int):bAd a=some (dX a 1019):=rfl
def bVk:((1019:Int)≠0)=True:=by simp
def aU8 (c:Int)(l:List Int)(x:Int)(h:0<=x/\x<=1000/\l.length<=34359738368):L9 c l x=some (Sw c l x):=by
 obtain⟨h1,h2,a⟩:=h;have hr:=aP4 ⟨h1,h2⟩ l;have hm:=uZ (p:=c) (q:=1019) (by omega);unfold L9 Sw;rw[bNn (l:=l) (aP3 x) some (by omega) (λrec s i hi=>by
  simp only[show decide ((i:Int)>=0)=true from ak (by omega),ac,aN hi,bd_s,bVk,gd_T,aI (show-9223372036854775808<=(i:Int)-1 by omega) (by omega)];rfl) (λrec s=>rfl) (aI (by omega) (by omega))]
 simp only[bd_s,bVk,gd_T];rw[aI (by omega) (by omega),ct (by omega)]
def bK5 {l:List AU}(h:Zk l=true){i:Nat}(hi:i<l.length):1<=l[i].Index/\l[i].Index<=7:=by
 unfold Zk at h;rw[ab,bz] at h;have hb:bE5 l i l[i]=false:=by
  cases hc:bE5 l i l[i] with
  |false=>rfl
  |true=>rw[(Su l 0).2 ⟨i,hi,by rw[cg];exact hc⟩] at h;exact absurd h.2 (by simp)
 unfold bE5 at hb;rw[bo,cR] at hb;exact iC hb.1
def Vo (l:List AU)(c:List Int)(h:l.length<=34359738368/\c.length<=34359738368):xC l c=some (lF l c):=by
 unfold xC lF;rw[aB h.1,bd_s];cases a:Zk l with
 |false=>rfl
 |true=>
  rw[ay,aa,bU1 (l:=l) (bNm c) (by omega) (λrec i s hi hs=>by
   have:=bK5 a hi;simp only[dF hi,ac,aN hi,bd_s,aB (show 0<=l[i].Index/\l[i].Index<=1000/\c.length<=34359738368 by omega),bVk,gd_T,gF hs];rfl) (λrec s=>by simp only[dL,aa])]
  rfl
def aIp (l:List AG)(h:l.length<=34359738368):Jl l=some (l.map λh=>h.State.aAQ):=by unfold Jl;rw[bU1 (l:=l) (λh:AG=>h.State.aAQ) (by omega) (λrec i s hi hs=>by simp only[dF hi,ac,aN hi,bd_s,gF hs]) (λrec s=>by simp only[dL,aa])];rfl
def aR6 (k:AZ):aRg k=some (kG k):=rfl
def Vp (k:AZ):xA k=some (kC k):=by unfold xA kC;rw[aB (by simp),bd_s];cases Zk [k.aAQ]<;>cases bK k.Epoch 0 1000000<;>cases bK k.Limit 1 10<;>rfl
def d9 (h:AG)(s:AU)(a:h.sz<=34359738368):yG h s=some (aP5 h s):=by unfold yG aP5 jO;simp only[aB a,bd_s,aB (show([s]:List AU).length<=34359738368 by simp)];cases kC h.State<;>cases decide (kG h.State<h.Monotonic)<;>cases(h.State.Epoch==1000000)<;>cases(s.Index !=h.State.aAQ.Index)<;>cases Zk [s]<;>rfl
def bF5 (hs:List AG)(a:List AU)(hl:a.length=hs.length)(t:hs.length<=34359738368){F:(List AG×Nat->Option (List AG×Bool⊕List AG))->List AG×Nat->Option (List AG×Bool⊕List AG)}
  (m:∀rec i s (hi:i<hs.length) (d:i<a.length),s.length<=34359738368->F rec (s,i)=bif jO hs[i] a[i] then some (.inl (hs,false)) else rec (s++[qP hs[i] a[i]],i+1)) (o:∀rec s,F rec (s,hs.length)=some (.inr s)):
  nx (bU FUEL F ([],0)) (λz=>some (z,true))=some (bif (hs.zip a).any (λp=>jO p.1 p.2) then(hs,false) else(List.zipWith qP hs a,true)):=by
 have hb:∀i (hi:i<hs.length),jO hs[i] (a[i]'(by omega))=true->(hs.zip a).any (λp=>jO p.1 p.2)=true:=λi hi h=>by
  refine ey.2 ⟨(hs[i],a[i]'(by omega)),?_,h⟩;have:=cf (l:=hs.zip a) (n:=i) (by simp;omega);rwa [jy] at this
 have ht:∀i (hi:i<hs.length),List.zipWith qP (hs.take (i+1)) (a.take (i+1))=List.zipWith qP (hs.take i) (a.take i)++[qP (hs[i]'(by omega)) (a[i]'(by omega))]:=λi hi=>by
  rw[dz,dz,ae hi,ae (show i<a.length by omega)];simp only[eS];rw[List.zipWith_append (by simp;omega)];rfl
 have key:=Gx (F:=F) (s:=([],0)) (λi s=>i<=hs.length/\s=(List.zipWith qP (hs.take i) (a.take i),i)/\∀j (d:j<hs.length),j<i->jO hs[j] (a[j]'(by omega))=false) hs.length (some (bif (hs.zip a).any (λp=>jO p.1 p.2) then .inl (hs,false) else .inr (List.zipWith qP hs a))) (by omega) ⟨by omega,by simp,λj _ h=>by omega⟩ (λi s rec hi hv=> ?_) (λs rec hv=> ?_)
 ·rw[key];cases(hs.zip a).any _<;>rfl
 ·obtain⟨_,rfl,f⟩:=hv;rw[m rec i _ hi (by omega) (by simp;omega)];cases hc:jO hs[i] (a[i]'(by omega)) with
  |true=>exact .inr (by rw[hb i hi hc];rfl)
  |false=>
   refine .inl ⟨_,⟨hi,by rw[ht i hi],λj d q=> ?_⟩,rfl⟩;rcases fg j i with k|k
   ·exact f j d k
   ·have:j=i:=by omega
    subst this;exact hc
 ·obtain⟨_,rfl,f⟩:=hv;have hn:(hs.zip a).any (λp=>jO p.1 p.2)=false:=by
   cases h:(hs.zip a).any (λp=>jO p.1 p.2) with
   |false=>rfl
   |true=>
    obtain⟨x,r,b⟩:=ey.1 h;obtain⟨i,hi,e⟩:=je r;rw[jy] at e;have c:i<hs.length:=by simp at hi;omega
    rw[<-e] at b;simp only at b;rw[f i c c] at b;cases b
  rw[o,hn,di,<-hl,di];rfl
def aDm (hs:List AG)(c:List Int)(h:Da AG.sz hs<=34359738368/\c.length<=34359738368):Fe hs c=some (fC hs c):=by
 obtain⟨h1,h2⟩:=h;have h0:hs.length<=34359738368:=by unfold Da at h1;omega
 have hr:=bCc (hs.map λh=>h.State.aAQ) c;unfold Fe fC aZ0;rw[aB h0,bd_s,aB ⟨by simpa using h0,h2⟩,bd_s,aB h1];cases he:((lF (hs.map λh=>h.State.aAQ) c).length:Int)==0 with
 |true=>rfl
 |false=>
  have hl:=bCd (l:=hs.map λh=>h.State.aAQ) (c:=c) (by simpa using he);rw[bh] at hl;rw[aa,cx,bF5 hs _ hl h0 (λrec i s hi b a=>by
   have d:=jS (f:=AG.sz) hi;unfold Da at h1;simp only[dF hi,ac,aN hi,aN b,bd_s,aB (show hs[i].sz<=34359738368 by omega),gF a];unfold aP5;cases jO hs[i] (lF (hs.map λh=>h.State.aAQ) c)[i]<;>rfl) (λrec s=>by simp only[dL,aa])]
def aYs (w:AA){F:(List Int×Int->Option (List Int))->List Int×Int->Option (List Int)}
  (a:∀rec (s:List Int) (k:Int),s.length<=100->0<=k->k<=100->F rec (s,k)=bif decide (k<w.aAO.Threshold)&&decide (k<=7) then rec (s++[aY w.Seed [317,w.Now,k]],k+1) else some s):
  ∀(n f:Nat) (k:Int) (s:List Int),n<f->k=9-(n:Int)->n<=8->s.length<=100-n->bU f F (s,k)=some (s++aLk w n k)
 |0,f+1,k,s,b,hk,_,hs=>by
  rw[jA,a _ _ _ (by omega) (by omega) (by omega),show decide (k<=7)=false from ao (by omega),dl,aa];unfold aLk;simp
 |n+1,f+1,k,s,b,hk,hn,hs=>by
  rw[jA,a _ _ _ (by omega) (by omega) (by omega)];unfold aLk;cases(decide (k<w.aAO.Threshold)&&decide (k<=7)) with
  |true=>rw[ac,ac,aYs w a n f _ _ (by omega) (by omega) (by omega) (by simp;omega)];simp
  |false=>simp
def aDn (w:AA)(h:w.sz<=34359738368):Ff w=some (eO w):=by
 have a:=h;simp only[AA.sz] at a;have hc:=aXw w 8 1;unfold Ff eO;rw[aB h,bd_s,aYs w (λrec s k h1 h2 b=>by
  rw[aB (by simp),bd_s,gF (s:=s) (by omega),aI (by omega) (by omega),aZz,bd_s]) 8 FUEL 1 [] (by have:=gY;omega) rfl (by omega) (by simp),bd_s,bp,aB ⟨by unfold Da;omega,by omega⟩,bd_s,aB h,bd_s]
 unfold aCu;cases aQ w<;>cases(fC w.Hosts (aLk w 8 1)).2<;>rfl
def W9 (b:List Int)(h:b.length<=34359738360):Ap b=some (zC b):=by unfold Ap zC;rw[bS1 (l:=b) IntKind.i64.wrap (by simp;omega) (λrec i s hi hs=>by simp only[dF hi,ac,aN hi,bd_s,gF hs]) (λrec s=>by simp only[dL,aa])];rfl
def X3 (b:List Int)(h:b.length<=34359738360):Cb b=some (zC b):=by unfold Cb zC;rw[bS1 (l:=b) IntKind.i64.wrap (by simp;omega) (λrec i s hi hs=>by simp only[dF hi,ac,aN hi,bd_s,gF hs]) (λrec s=>by simp only[dL,aa])];rfl
def Kj (k:Int)(s:ByteArray)(h:s.size<=34359738300):rJ k s=some (Ab k s):=by have hb:=lI s;unfold rJ Ab;rw[aZ1,aB (by omega),bd_s,aB (by rw[bQ8];omega),bd_s,bB3 (mO _ _).1]
def aMt (s:ByteArray)(h:s.size<=34359738300):Ov s=some (bI s):=by unfold Ov;rw[aB h];rfl
def bIg {b:AB}{s h:Int}(f:decide (aP b s h>=0)=true):bA b.Entries (aP b s h)=some (b.Entries.getD (aP b s h).toNat default)/\(aP b s h).toNat<b.Entries.length/\(b.Entries.getD (aP b s h).toNat default).Site=s/\(b.Entries.getD (aP b s h).toNat default).Handle=h:=by
 have h0:=of_decide_eq_true f;obtain⟨l1,e,l2,d,c,a⟩:=Yo (p:=λe:AH=>e.Site==s&&e.Handle==h) (l:=b.Entries) (i:=0) h0;have a:aP b s h=((0+l1.length:Nat):Int):=a;rw[cg] at a;have hl:l1.length<b.Entries.length:=by rw[d];simp
 have hg:b.Entries.getD l1.length default=e:=by rw[d];simp[List.getD]
 rw[a,bv,hg];simp only[ab,cH] at c;refine⟨?_,hl,c.1,c.2⟩;rw[aN hl];have:b.Entries[l1.length]=e:=by rw[<-hg,List.getD,ae hl];rfl
 rw[this]
def bR4 (b:AB)(x:AH):(zH b x).Entries.length<=b.Entries.length+1:=by
 unfold zH;cases decide (aP b x.Site x.Handle>=0) with
 |true=>simp
 |false=>have:=congrArg List.length (jt (p:=λe=>wO e x.Site x.Handle) (l:=b.Entries));simp only[aw] at this;simp only[aa,aw,cr];omega
def aMu (b:AB)(s h:Int)(c:b.sz<=34359738360):Oy b s h=some (aUo b s h):=by
 have hq:=c;simp only[AB.sz] at hq;have hs:=bR4 b (R3 b s h);unfold Oy aUo;have d:(zH b (R3 b s h)).sz<=34359738368:=by simp only[AB.sz];omega
 rw[aB (show b.sz<=34359738368 by omega),aB (show b.sz<=34359738368 by omega)];simp only[aB (show b.sz<=34359738360 from c),aB (show b.sz<=34359738368 by omega),bd_s];cases a:decide (aP b s h>=0) with
 |true=>
  obtain⟨h1,h2,_,_⟩:=bIg a;have hv:R3 b s h=⟨s,h,IntKind.i64.wrap ((b.Entries.getD (aP b s h).toNat default).Version+1),false⟩:=by unfold R3 bQ7;rw[a];rfl
  rw[ac,h1,bd_s];cases hd:(b.Entries.getD (aP b s h).toNat default).Deleted with
  |false=>rfl
  |true=>rw[bd_s,ay,aa,nx_r,<-hv,aB d];cases aR b<;>cases aR (zH b (R3 b s h))<;>rfl
 |false=>
  have hv:R3 b s h=⟨s,h,1,false⟩:=by unfold R3 bQ7;rw[a];rfl
  rw[aa,nx_r,<-hv,aB d];cases aR b<;>cases aR (zH b (R3 b s h))<;>rfl
def Dt.of' {w:AA}(h:w.sz<=34359738368):Dt w:=by simp only[AA.sz] at h;unfold Dt;omega
def aMv (w:AA)(d:Int)(h:w.sz<=34359738368):Pj w d=some (aQ w&&aL w d):=by unfold Pj;rw[aB h,bd_s,Yj (Dt.of' h),aZz,bd_s]
def X4 (b:AB)(s h:Int)(c:b.sz<=34359738360):Az b s h=some (aUp b s h):=by
 unfold Az aUp;simp only[aB c,aB (show b.sz<=34359738368 by omega),bd_s];cases aR b with
 |false=>rfl
 |true=>
  by_cases a:aP b s h<0
  ·rw[ak a];rfl
  ·obtain⟨h1,h2,d,e⟩:=bIg (b:=b) (s:=s) (h:=h) (ak (by omega));rw[ao a,h1];simp only[bd_s];rw[show(⟨s,h,IntKind.i64.wrap ((b.Entries.getD (aP b s h).toNat default).Version+1),true⟩:AH)=bJ0 b s h from rfl];cases(b.Entries.getD (aP b s h).toNat default).Deleted<;>cases((b.Entries.getD (aP b s h).toNat default).Version==1000000)<;>rfl
def o5 (d:AD)(n:ByteArray)(h:Int)(rm:Bool)(a:d.sz<=34359738360/\n.size<=34359738300):xW d n h rm=some (dQ d n h rm):=by
 obtain⟨h1,h2⟩:=a;have hb:d.aAD.sz<=34359738360:=by simp only[AD.sz,AB.sz] at*;omega
 unfold xW dQ sG;simp only[aB (show d.sz<=34359738368 by omega),aB h2,aB hb,bd_s];cases rm with
 |true=>simp only[ac,bd_s];cases(aUp d.aAD (bI n) h).2<;>rfl
 |false=>simp only[aa,bd_s];cases(aUo d.aAD (bI n) h).2<;>rfl
def aYt {w:AA}{d:Int}(h:aL w d=true):0<=d/\d.toNat<w.Devices.length/\(aG w d).sz<=w.sz/\aG w d=w.Devices.getD d.toNat default:=by
 simp only[aL,ab,bq] at h;have hi:d.toNat<w.Devices.length:=by omega
 have:=wD (f:=AD.sz) hi;refine⟨h.1,hi,?_,rfl⟩;show(w.Devices.getD d.toNat default).sz<=_;simp only[AA.sz];omega
def bK6 {d:AD}{n:ByteArray}{h:Int}{rm:Bool}(e:(dQ d n h rm).2=false):dQ d n h rm=(d,false):=by
 unfold dQ at e ⊢;cases q:(sG d n h rm).2 with
 |true=>rw[q] at e;cases e
 |false=>rfl
def aDo (w:AA)(d:Int)(n:ByteArray)(h:Int)(rm:Bool)(a:w.sz<=34359738300/\n.size<=34359738300):Ey w d n h rm=some (rF w d n h rm):=by
 obtain⟨h1,h2⟩:=a;unfold Ey rF;rw[aB (show w.sz<=34359738368 by omega),bd_s,aB (show w.sz<=34359738368 by omega),bd_s];cases hc:(aQ w&&aL w d) with
 |false=>rfl
 |true=>
  have hd:=(jc.1 hc).2;obtain⟨k1,k2,k3,k4⟩:=aYt hd;rw[ay,aa,ac,lN hd,bd_s,aB ⟨by omega,h2⟩,bd_s,bd_s];cases e:(dQ (aG w d) n h rm).2 with
  |true=>rfl
  |false=>rw[bK6 e,aa,k4,aP2 k2]
def aR7 (l:List AF)(h:l.length<=34359738368):Ud l=some (aC l):=by
 unfold Ud;rw[gV (l:=l) (λn e=>bif e.Kind==2 then IntKind.i64.wrap (n+1) else n) (λ_ _=>True) (λs=>some s) (by omega) trivial (λ_ _ _ _=>trivial) (λrec i s hi _=>by
  simp only[dF hi,ac,aN hi,bd_s,lQ]) (λrec s _=>by simp only[dL,aa])]
 rfl
def aR8 (l:List AF)(h:l.length<=34359738368):Vh l=some (aC l):=by
 unfold Vh;rw[gV (l:=l) (λn e=>bif e.Kind==2 then IntKind.i64.wrap (n+1) else n) (λ_ _=>True) (λs=>some s) (by omega) trivial (λ_ _ _ _=>trivial) (λrec i s hi _=>by
  simp only[dF hi,ac,aN hi,bd_s,lQ]) (λrec s _=>by simp only[dL,aa])]
 rfl
def aU9 (p e:Int):O0 p e=some (iH p e):=by unfold O0;rw[aB (by simp)];rfl
def aVa (p e:Int):K7 p e=some (iH p e):=by unfold K7;rw[aB (by simp)];rfl
def aVb (k:Int)(b:AO)(h:b.Data.length<=34359738200):K8 k b=some (Sj k b):=by unfold K8 Sj;rw[aB (by omega),bd_s,aB (by simp[aV,zC];omega),aB (by simp[zC];omega)];rfl
def aVc (k:Int)(b:AO)(h:b.Data.length<=34359738200):O1 k b=some (Sj k b):=by unfold O1 Sj;rw[aB (by omega),bd_s,aB (by simp[Ac,zC];omega),bd_s,aB (by simp[zC,rY];omega)];simp[rY]
def aIq {α β:Type}{y:Nat->α->β}:∀{l:List α} {j i:Nat} (hi:i<l.length),Px (λi x=>[y i x]) j (l.take (i+1))=Px (λi x=>[y i x]) j (l.take i)++[y (j+i) l[i]]
 |x::xs,j,0,_=>by simp[Px]
 |x::xs,j,i+1,hi=>by
  have:=aIq (y:=y) (l:=xs) (j:=j+1) (i:=i) (by simpa using hi);simp only[jd,Px,fh,this,cI,bp];rw[show j+1+i=j+(i+1) by omega]
def bIh {k:Int}{b:List Int}(hl:b.length<=34359738368){F:(List Int×Nat->Option (List Int))->List Int×Nat->Option (List Int)}
  (a:∀rec i s (hi:i<b.length),s.length<=34359738368->F rec (s,i)=rec (s++[aPw k i b[i]],i+1)) (c:∀rec s,F rec (s,b.length)=some s):bU FUEL F ([],0)=some (Si k b):=by
 refine Gx (λi s=>i<=b.length/\s=(Px (λi z=>[aPw k i z]) 0 (b.take i),i)) b.length _ (by omega) ⟨by omega,by simp[Px]⟩ (λi s rec hi hv=> ?_) (λs rec hv=> ?_)
 ·obtain⟨_,rfl⟩:=hv;refine .inl ⟨_,⟨hi,rfl⟩,?_⟩;rw[a rec i _ hi (by rw[rZ,bw];omega),aIq hi,cg]
 ·obtain⟨_,rfl⟩:=hv;rw[c,di];rfl
def aR9 (k:Int)(b:List Int)(h:b.length<=34359738368):Ut k b=some (Si k b):=by
 unfold Ut;rw[bIh (k:=k) h (λrec i s hi hs=>by
  have e:=bNh k i b[i];have a:((256:Int)≠0)=True:=by simp
  simp only[dF hi,ac,aN hi,bd_s,aB (show([(i:Int)]:List Int).length<=34359738368 by simp),a,gd_T,e,gF hs]) (λrec s=>by simp only[dL,aa])]
 rfl
def aSa (k:Int)(b:List Int)(h:b.length<=34359738368):Vi k b=some (Si k b):=by
 unfold Vi;rw[bIh (k:=k) h (λrec i s hi hs=>by
  have e:=bNg k i b[i];simp only[dF hi,ac,aN hi,bd_s,aB (show([(i:Int)]:List Int).length<=34359738368 by simp),e,gF hs]) (λrec s=>by simp only[dL,aa])]
 rfl
def aSb (p:Int)(b:AO):Uu p b=some (gI p b):=by
 unfold Uu gI;by_cases hl:b.Data.length<=200
 ·simp only[aB (show b.Data.length<=34359738200 by omega),aB (show b.Data.length<=34359738368 by omega),bd_s,show decide ((b.Data.length:Int)>200)=false from ao (by omega)];cases bL p<;>cases(b.To !=cZ p)<;>cases bL b.Ephemeral<;>cases(b.MAC !=Sj (iH p b.Ephemeral) b)<;>rfl
 ·rw[show decide ((b.Data.length:Int)>200)=true from ak (by omega)];cases bL p<;>cases(b.To !=cZ p)<;>cases bL b.Ephemeral<;>rfl
def aDp {bs:List AO}{p:Int}(hl:bs.length<=34359738368){F:(Nat->Option ((List Int×Bool)⊕PUnit))->Nat->Option ((List Int×Bool)⊕PUnit)}
  (a:∀rec i (hi:i<bs.length),F rec i=bif (gI p bs[i]).2 then some (.inl ((gI p bs[i]).1,true)) else rec (i+1)) (b:∀rec,F rec bs.length=some (.inr ())):nx (bU FUEL F 0) (λ_=>some (([]:List Int),false))=some (gW bs p):=by
 have go:∀(k i n:Nat),i+k=bs.length->k<n->nx (bU n F i) (λ_=>some (([]:List Int),false))=some (gW (bs.drop i) p):=by
  intro k;induction k with
  |zero=>
   intro i n hk hn;obtain⟨n,rfl⟩:∃m,n=m+1:=⟨n-1,by omega⟩;have:i=bs.length:=by omega
   subst this;rw[jA,b,dq];rfl
  |succ k c=>
   intro i n hk hn;obtain⟨n,rfl⟩:∃m,n=m+1:=⟨n-1,by omega⟩;have hi:i<bs.length:=by omega
   rw[jA,a _ i hi,cq hi,gW];cases(gI p bs[i]).2 with
   |true=>rfl
   |false=>exact c (i+1) n (by omega) (by omega)
 exact go bs.length 0 FUEL (by omega) (by have:=gY;omega)
def aSc (bs:List AO)(p:Int)(h:bs.length<=34359738368):Uv bs p=some (gW bs p):=by unfold Uv;exact aDp h (λrec i hi=>by simp only[dF hi,ac,aN hi,bd_s]) (λrec=>by simp only[dL,aa])
def aSd (p:Int)(b:AO):Vj p b=some (gI p b):=by
 unfold Vj gI;by_cases hl:b.Data.length<=200
 ·simp only[aB (show b.Data.length<=34359738200 by omega),aB (show b.Data.length<=34359738368 by omega),bd_s,show decide ((b.Data.length:Int)>200)=false from ao (by omega)];cases bL p<;>cases(b.To !=cZ p)<;>cases bL b.Ephemeral<;>cases(b.MAC !=Sj (iH p b.Ephemeral) b)<;>rfl
 ·rw[show decide ((b.Data.length:Int)>200)=true from ak (by omega)];cases bL p<;>cases(b.To !=cZ p)<;>cases bL b.Ephemeral<;>rfl
def aSe (bs:List AO)(p:Int)(h:bs.length<=34359738368):Vk bs p=some (gW bs p):=by unfold Vk;exact aDp h (λrec i hi=>by simp only[dF hi,ac,aN hi,bd_s]) (λrec=>by simp only[dL,aa])
def aSf {c:AM}{b:Int}(a:c.sz<=34359738368)(h0:0<=b/\b<(c.History.length:Int)):bA c.History (IntKind.i64.wrap (IntKind.i64.wrap ((c.History.length:Int)-1)-b))=some (c.History.getD (c.History.length-1-b.toNat) default)/\(c.History.getD (c.History.length-1-b.toNat) default).sz<=34359738368:=by simp only[AM.sz] at a;have h1:=wD (f:=AJ.sz) (l:=c.History) (i:=c.History.length-1-b.toNat) (by omega);refine⟨?_,by omega⟩;rw[aI (n:=(c.History.length:Int)-1) (by omega) (by omega),aI (by omega) (by omega),sF (by omega) (by omega)];congr 2;omega
def X5 (c:AM)(b:Int)(a:c.sz<=34359738368):Bb c b=some (fA c b):=by
 unfold Bb fA;rw[aCt (by simp only[AM.sz] at a;omega)];cases e:(decide (b<0)||decide (b>=(c.History.length:Int))) with
 |true=>rfl
 |false=>obtain⟨h1,h2⟩:=aSf a (Mq e);rw[aa,aa,h1,bd_s,aB h2,bd_s]
def X6 (c:AM)(b:Int)(a:c.sz<=34359738368):Ca c b=some (fA c b):=by
 unfold Ca fA;rw[rE,bd_s];cases e:(decide (b<0)||decide (b>=(c.History.length:Int))) with
 |true=>rfl
 |false=>obtain⟨h1,h2⟩:=aSf a (Mq e);rw[aa,aa,h1,bd_s,aB h2,bd_s]
def bDo {a b:List AF}(f:a.length<=34359738368){F:(Nat->Option (Bool⊕PUnit))->Nat->Option (Bool⊕PUnit)}
  (c:∀rec i (hi:i<b.length) (j:i<a.length),F rec i=bif !bJ2 a[i] b[i] then some (.inl false) else rec (i+1)) (d:∀rec,F rec b.length=some (.inr ())):
  (bif decide ((a.length:Int)<(b.length:Int)) then some false else nx (bU FUEL F 0) λ_=>some true)=some (dG a b):=by
 unfold dG;by_cases h:b.length<=a.length
 ·rw[ao (show ¬(a.length:Int)<(b.length:Int) by omega),aa,ak h,cw,
   iF (l:=b) (λi e=> !bJ2 (a.getD i default) e) (.inl false) (.inr ()) (by omega) (λrec i hi=>by
    rw[c rec i hi (by omega),List.getD,ae (show i<a.length by omega)];rfl) d]
  cases gM (λi e=> !bJ2 (a.getD i default) e) 0 b<;>rfl
 ·rw[ak (show(a.length:Int)<(b.length:Int) by omega),ao h];rfl
def aDq (a b:List AF)(h:a.length<=34359738368):Eg a b=some (dG a b):=by unfold Eg;exact bDo h (λrec i hi c=>by simp only[dF hi,ac,aN hi,aN c,bd_s];rfl) (λrec=>by simp only[dL,aa])
def aDr (a b:List AF)(h:a.length<=34359738368):Fu a b=some (dG a b):=by unfold Fu;exact bDo h (λrec i hi c=>by simp only[dF hi,ac,aN hi,aN c,bd_s];rfl) (λrec=>by simp only[dL,aa])
def aIr (k:Int)(b:AJ)(h:b.Data.length<=34359738200):Ja k b=some (jB k b):=by unfold Ja jB;rw[aB (by omega),bd_s,aB (by simp[aV,zC];omega),aB (by simp[zC];omega)];rfl
def aIs (k:Int)(b:AJ)(h:b.Data.length<=34359738200):Ka k b=some (jB k b):=by unfold Ka jB;rw[aB (by omega),bd_s,aB (by simp[Ac,zC];omega),bd_s,aB (by simp[zC,rY];omega)];simp[rY]
def aMw (k e v:Int):Oz k e v=some (bL k&&(bK e 0 1000000&&bK v 0 1000000)):=by unfold Oz;cases bL k<;>cases bK e 0 1000000<;>rfl
def aVd (k e v:Int):L8 k e v=some (lX k e v):=by unfold L8;rw[aB (by simp)];rfl
def Ch (b:List Int)(hb:bD b)(p:Nat)(hp:p<=34359738368){F:(Int×Int×Nat->Option ((Int×Int×Bool)⊕PUnit))->Int×Int×Nat->Option ((Int×Int×Bool)⊕PUnit)}
  (j:∀rec (n q:Int) (i:Nat),F rec (n,q,i)=bif decide ((i:Int)<6) then(bif decide (IntKind.i64.wrap ((p:Int)+(i:Int))>=(b.length:Int)) then some (.inl (0,0,false)) else bd (bA b (IntKind.i64.wrap ((p:Int)+(i:Int)))) λz=>gd ((128:Int)≠0) (bif decide (IntKind.i64.wrap z<128) then(bd (bif decide ((i:Int)>0) then(bif IntKind.i64.wrap z==0 then some true else some (decide (IntKind.i64.wrap (n+IntKind.i64.wrap ((IntKind.i64.wrap z).tmod 128*q))>1000000000000))) else some (decide (IntKind.i64.wrap (n+IntKind.i64.wrap ((IntKind.i64.wrap z).tmod 128*q))>1000000000000))) λc=>bif c then some (.inl (0,0,false)) else some (.inl (IntKind.i64.wrap (n+IntKind.i64.wrap ((IntKind.i64.wrap z).tmod 128*q)),IntKind.i64.wrap (IntKind.i64.wrap ((p:Int)+(i:Int))+1),true))) else rec (IntKind.i64.wrap (n+IntKind.i64.wrap ((IntKind.i64.wrap z).tmod 128*q)),IntKind.i64.wrap (q*128),i+1))) else some (.inr ())):
  ∀(k i:Nat) (n:Int) (f:Nat),i+k=6->k<f->0<=n->n<128^i->nx (bU f F (n,(128:Int)^i,i)) (λ_=>some ((0:Int),(0:Int),false))=some (uvG b p k i n)
 |0,i,n,f+1,hk,w,h0,h1=>by
  rw[jA,j,show decide ((i:Int)<6)=false from ao (by omega)];rfl
 |k+1,i,n,f+1,hk,w,h0,h1=>by
  have l:=aZw (i:=i) (by omega);rw[jA,j,show decide ((i:Int)<6)=true from ak (by omega),ac];rw[show IntKind.i64.wrap ((p:Int)+(i:Int))=((p+i:Nat):Int) by rw[aI (by omega) (by omega)];omega];unfold uvG;by_cases a:p+i<b.length
  ·have m:=wM hb a;have hg:b.getD (p+i) 0=b[p+i]:=by simp[List.getD,ae a]
   rw[cQ a,hg,aN a];generalize b[p+i]=z at m;rw[show decide (((p+i:Nat):Int)>=(b.length:Int))=false from ao (by omega)];have hs:=aZx (z:=z) (n:=n) (i:=i) (by omega) m.1 h0 h1;have o:IntKind.i64.wrap z=z:=aI (by omega) (by omega);have r:z.tmod 128=z%128:=ct m.1;have s:IntKind.i64.wrap (z%128*128^i)=z%128*128^i:=aI (by omega) (by omega);have x:=aZw (i:=i+1) (by omega);have t:IntKind.i64.wrap (n+z%128*128^i)=n+z%128*128^i:=aI (by omega) (by omega);have u:IntKind.i64.wrap (((p+i:Nat):Int)+1)=((p+i+1:Nat):Int):=by rw[aI (by omega) (by omega)];omega
   have v:IntKind.i64.wrap ((128:Int)^i*128)=128^(i+1):=by rw[<-fi,aI (by omega) (by omega)]
   have h:((128:Int)≠0)=True:=by simp
   simp only[aa,bd_s,o,r,s,t,u,v,h,gd_T];by_cases d:z<128
   ·simp only[d,decide_true,ac];have e:(decide ((i:Int)>0))=decide (0<i):=cF.2 (by omega);rw[e];cases decide (0<i)<;>cases(z==0)<;>cases decide (n+z%128*128^i>1000000000000)<;>rfl
   ·simp only[d,decide_false,aa];exact Ch b hb p hp j k (i+1) _ f (by omega) (by omega) hs.1 hs.2.1
  ·rw[dk a,show decide (((p+i:Nat):Int)>=(b.length:Int))=true from ak (by omega)];rfl
def X7 (b:List Int)(a:Int)(hb:bD b):Cc b a=some (zD b a):=by
 unfold Cc zD;have c:=gY;have hlen:=hb.1;rw[rE,bd_s];by_cases h0:a<0
 ·simp[h0]
 ·rw[dk h0,ao h0,cx];by_cases h1:a>=b.length
  ·rw[ak h1];unfold uvG;rw[dk (by omega)];rfl
  ·rw[ao h1,aa];obtain⟨p,rfl⟩:=ee (show 0<=a by omega);exact Ch b hb p (by omega) (λrec n q i=>rfl) 6 0 0 FUEL rfl (by omega) (by omega) (by decide)
def Np (b:List Int)(c:Int)(hc:c<=100){F:(Int×List Int×Nat->Option ((List Int×Int×Bool)⊕(Int×List Int)))->Int×List Int×Nat->Option ((List Int×Int×Bool)⊕(Int×List Int))}
  (d:∀rec (a:Int) (s:List Int) (i:Nat),s.length<=34359738368->F rec (a,s,i)=bif decide ((i:Int)<c) then(bif !(zD b a).2.2 then some (.inl ([],0,false)) else rec ((zD b a).2.1,s++[(zD b a).1],i+1)) else some (.inr (a,s))):
  ∀(k i:Nat) (a:Int) (s:List Int) (f:Nat),((i+k:Nat):Int)=c->k<f->s.length<=i->nx (bU f F (a,s,i)) (λz=>some (z.2,z.1,true))=some (kZ b k a s)
 |0,i,a,s,f+1,hk,e,hs=>by
  rw[jA,d _ _ _ _ (by omega),show decide ((i:Int)<c)=false from ao (by omega)];rfl
 |k+1,i,a,s,f+1,hk,e,hs=>by
  rw[jA,d _ _ _ _ (by omega),show decide ((i:Int)<c)=true from ak (by omega),ac];unfold kZ;cases(zD b a).2.2 with
  |false=>rfl
  |true=>simp only[ay,aa,ac];exact Np b c hc d k (i+1) _ _ f (by omega) (by omega) (by simp;omega)
def aDs (b:List Int)(a c:Int)(hb:bD b):Fv b a c=some (jU b a c):=by
 unfold Fv jU bK;by_cases h1:c<0
 ·simp[h1,show ¬0<=c by omega]
 ·by_cases h2:c>100
  ·simp[h1,h2,show ¬c<=100 by omega]
  ·by_cases d:a<0
   ·simp[h1,h2,d,show ¬0<=a by omega]
   ·by_cases e:a>b.length
    ·simp[h1,h2,d,e,show ¬a<=b.length by omega]
    ·simp only[h1,h2,d,e,decide_false,aa,bd_s,show 0<=c by omega,show c<=100 by omega,show 0<=a by omega,show a<=b.length by omega,decide_true,gv,ay,Bool.or_self,aa];exact Np b c (by omega) (λrec a s i hs=>by simp only[aB hb,bd_s,gF hs]) c.toNat 0 a [] FUEL (by omega) (by have:=gY;omega) (by simp)
def aDt (b:List Int)(a c:Int)(hb:bD b):Ej b a c=some (jU b a c):=by
 unfold Ej jU;cases h1:bK c 0 100 with
 |false=>rfl
 |true=>
  cases h2:bK a 0 b.length with
  |false=>rfl
  |true=>have:=iC h1;simp only[ay,aa,bd_s,Bool.or_self];exact Np b c (by omega) (λrec a s i hs=>by simp only[aB hb,bd_s,gF hs]) c.toNat 0 a [] FUEL (by omega) (by have:=gY;omega) (by simp)
def Ci (b:List Int)(hb:bD b)(a:Int)(q:0<=a){F:(Int×Nat->Option ((Int×Int×Bool)⊕PUnit))->Int×Nat->Option ((Int×Int×Bool)⊕PUnit)}
  (l:∀rec (n:Int) (i:Nat),F rec (n,i)=bif decide ((i:Int)<6) then(bd (bif decide (a<0) then some true else some (decide (a>=IntKind.i64.wrap ((b.length:Int)-(i:Int))))) λc=>bif c then some (.inl (0,0,false)) else bd (bA b (IntKind.i64.wrap (a+(i:Int)))) λz=>gd ((0:Int)<=IntKind.i64.wrap (7*(i:Int))) (bif decide (IntKind.i64.wrap z<128) then(bd (bif IntKind.i64.wrap z==0 then(bif decide ((i:Int)>0) then some true else some (decide (orI .i64 n (aB1 .i64 (oQ .i64 (IntKind.i64.wrap z) 127) (IntKind.i64.wrap (7*(i:Int))))>1000000000000))) else some (decide (orI .i64 n (aB1 .i64 (oQ .i64 (IntKind.i64.wrap z) 127) (IntKind.i64.wrap (7*(i:Int))))>1000000000000))) λc=>bif c then some (.inl (0,0,false)) else some (.inl (orI .i64 n (aB1 .i64 (oQ .i64 (IntKind.i64.wrap z) 127) (IntKind.i64.wrap (7*(i:Int)))),IntKind.i64.wrap (IntKind.i64.wrap (a+(i:Int))+1),true))) else rec (orI .i64 n (aB1 .i64 (oQ .i64 (IntKind.i64.wrap z) 127) (IntKind.i64.wrap (7*(i:Int)))),i+1))) else some (.inr ())):
  ∀(k i:Nat) (n:Int) (f:Nat),i+k=6->k<f->0<=n->n<128^i->nx (bU f F (n,i)) (λ_=>some ((0:Int),(0:Int),false))=some (uvG b a.toNat k i n)
 |0,i,n,f+1,hk,r,h0,h1=>by
  rw[jA,l,show decide ((i:Int)<6)=false from ao (by omega)];rfl
 |k+1,i,n,f+1,hk,r,h0,h1=>by
  have hlen:=hb.1;rw[jA,l,show decide ((i:Int)<6)=true from ak (by omega),ac,rE,bd_s];rw[show IntKind.i64.wrap ((b.length:Int)-(i:Int))=(b.length:Int)-(i:Int) from aI (by omega) (by omega),show decide (a<0)=false from ao (by omega),cx];unfold uvG;by_cases d:a.toNat+i<b.length
  ·have j:=wM hb d;have hg:b.getD (a.toNat+i) 0=b[a.toNat+i]:=by simp[List.getD,ae d]
   have m:IntKind.i64.wrap (a+(i:Int))=((a.toNat+i:Nat):Int):=by rw[aI (by omega) (by omega)];omega
   rw[cQ d,hg,m,aN d];generalize b[a.toNat+i]=z at j;rw[show decide (a>=(b.length:Int)-(i:Int))=false from ao (by omega)];have hs:=aZx (z:=z) (n:=n) (i:=i) (by omega) j.1 h0 h1;have o:IntKind.i64.wrap z=z:=aI (by omega) (by omega);have ho:=bQ4 (z:=z) (n:=n) (i:=i) (by omega) j.1 j.2 h0 h1;have p:IntKind.i64.wrap (((a.toNat+i:Nat):Int)+1)=((a.toNat+i+1:Nat):Int):=by rw[aI (by omega) (by omega)];omega
   have s:0<=IntKind.i64.wrap ((7:Int)*(i:Int)):=by rw[aI (by omega) (by omega)];omega
   simp only[aa,bd_s,o,ho,p];rw[aB s];by_cases h:z<128
   ·simp only[h,decide_true,ac];have e:(decide ((i:Int)>0))=decide (0<i):=cF.2 (by omega);rw[e];cases decide (0<i)<;>cases(z==0)<;>cases decide (n+z%128*128^i>1000000000000)<;>rfl
   ·simp only[h,decide_false,aa];exact Ci b hb a q l k (i+1) _ f (by omega) (by omega) hs.1 hs.2.1
  ·rw[dk d,show decide (a>=(b.length:Int)-(i:Int))=true from ak (by omega)];rfl
def X8 (b:List Int)(a:Int)(hb:bD b):Bc b a=some (zD b a):=by
 unfold Bc zD;have d:=gY;by_cases h0:a<0
 ·rw[cQ h0];obtain⟨f,c⟩:∃f,FUEL=f+1:=⟨FUEL-1,by omega⟩;rw[c,jA];simp[h0,nx]
 ·rw[dk h0];exact Ci b hb a (by omega) (λrec n i=>rfl) 6 0 0 FUEL rfl (by omega) (by omega) (by decide)
def Qg (s:AK)(e:AN)(i:e.sz<=34359738368):uG s e=some (bM s e):=by
 simp only[AN.sz] at i;unfold uG bM;rw[aB (by omega),bd_s,aB (Q8 _ _),bd_s];generalize gW e.Boxes (iG s)=x;obtain⟨x1,x2⟩:=x;dsimp only;cases x2 with
 |false=>rfl
 |true=>
  have hl:=λh=>decode_len (b:=x1) (a:=0) (c:=2) (by omega) h;generalize jU x1 0 2=y at hl;obtain⟨d,j,k⟩:=y;unfold Ml;cases k with
  |false=>rfl
  |true=>
   have f:d.length=2:=hl rfl;obtain⟨a,c,rfl⟩:∃a c,d=[a,c]:=by
    match d,f with
    |[a,c],_=>exact⟨a,c,rfl⟩
   have e0:bA [a,c] 0=some a:=rfl;have l:bA [a,c] 1=some c:=rfl;simp only[e0,l,bd_s,ay,aa,cx];cases(j !=(x1.length:Int))<;>cases m:(a !=e.Epoch)<;>cases hc:bL c<;>simp[m,hc]
def Qh (s:AK)(e:AN)(i:e.sz<=34359738368):uQ s e=some (bM s e):=by
 simp only[AN.sz] at i;unfold uQ bM;rw[aB (by simp),bd_s,aB (by omega),bd_s,aB (Q8 _ _),show aY s.Seed [181]=iG s from rfl];generalize gW e.Boxes (iG s)=x;obtain⟨x1,x2⟩:=x;dsimp only;cases x2 with
 |false=>rfl
 |true=>
  have hl:=λh=>decode_len (b:=x1) (a:=0) (c:=2) (by omega) h;generalize jU x1 0 2=y at hl;obtain⟨d,j,k⟩:=y;unfold Ml;cases k with
  |false=>rfl
  |true=>
   have f:d.length=2:=hl rfl;obtain⟨a,c,rfl⟩:∃a c,d=[a,c]:=by
    match d,f with
    |[a,c],_=>exact⟨a,c,rfl⟩
   have e0:bA [a,c] 0=some a:=rfl;have l:bA [a,c] 1=some c:=rfl;simp only[e0,l,bd_s,ay,aa,cx];cases(j !=(x1.length:Int))<;>cases m:(a !=e.Epoch)<;>cases hc:bL c<;>simp[m,hc]
def bIi {F:(Int×List Int->Option (Int×List Int))->Int×List Int->Option (Int×List Int)}{n:Int}{b:List Int}(hk:0<=n/\n<=1000000000000)(hb:b.length<=34359738300)
  (c:∀rec (n:Int) (s:List Int),0<=n->n<9223372036854775807->s.length<=34359738368->F rec (n,s)=bif decide (n>127) then rec (n/128,s++[n%128+128]) else some (n,s)):
  (bd (EV.bU FUEL F (n,b)) λz=>gd (aV z.2 [IntKind.u8.wrap z.1]) (some (z.2++[IntKind.u8.wrap z.1])))=some (b++uvE 5 n):=by
 have f:(128:Int)^(5+1)=4398046511104:=by decide
 obtain⟨m,q,d,a,e,h⟩:=bCf c 5 n b FUEL (by have:=gY;omega) hk.1 (by omega) (by omega) (by omega);have hq:q.length<=34359738368:=by have h1:=congrArg List.length a;have h2:=(aZ2 5 n).2;simp only[aw,cr] at h1;omega
 rw[d,bd_s];simp only[aP6 e (show m<=255 by omega)];rw[gF (s:=q) hq,a]
def Vq (b:List Int)(n:Int)(h:b.length<=34359738300):wR b n=some (sH b n):=by
 unfold wR sH enc1;rw[oH (by omega)];cases hr:bK n 0 1000000000000 with
 |false=>simp
 |true=>
  rw[ay,aa,ac,bp];exact bIi (iC hr) h (λrec n s h0 h1 h2=>by
   show(bif decide (n>127) then gd (aV s [IntKind.u8.wrap (orI .i64 (oQ .i64 n 127) 128)]) (gd ((0:Int)<=7) (rec (Gu .i64 n 7,s++[IntKind.u8.wrap (orI .i64 (oQ .i64 n 127) 128)]))) else some (n,s))=_;rw[bRc h0 (by omega),bU2 (kg _ (by decide)) (jk _ (by decide)),bWr h0,aP6 (by omega) (by omega),gF (s:=s) h2,aB (show(0:Int)<=7 by decide)])
def aIt:∀(l s:List Int),l.foldl sH s=s++jG l
 |[],s=>by simp[jG]
 |x::l,s=>by rw[de,aIt l,vH,sH,cl]
def aDu (l:List Int)(h:l.length<=5000000000):Ed l=some (jG l):=by
 unfold Ed;rw[gV (l:=l) sH (λi s=>s.length<=6*i) (λs=>some s) (by omega) (by simp) (λi s hi hv=>by have:=Sy l[i];simp only[sH,aw];omega) (λrec i s hi hv=>by
  simp only[dF hi,ac,aN hi,bd_s,aB (show s.length<=34359738300 by omega)]) (λrec s _=>by simp only[dL,aa]),aIt]
 rfl
def X9:∀(l:List AH) (s:List Int),l.foldl (λs e=>s++aUs e) s=s++kJ l
 |[],s=>by simp[kJ]
 |x::l,s=>by rw[de,X9 l];simp[kJ]
def o6 (b:AB)(h:b.sz<=34359738368):xX b=some (nT b):=by
 unfold xX nT;rw[aB h,bd_s];cases hb:aR b with
 |false=>rfl
 |true=>
  have hl:=mQ hb;have hv:(qB b).length=1+4*b.Entries.length:=by simp[qB,vI];omega
  rw[ay,aa,ac,gV (l:=b.Entries) (λs e=>s++aUs e) (λi s=>s.length<=1+4*i) (λs=>some s) (by omega) (by simp) (λi s hi hv=>by simp only[aUs,aw,au,bm];omega) (λrec i s hi hv=>by
   have e:∀x y z w:Int,gd (aV s [x,y,z,w]) (some (s++[x,y,z,w]))=some (s++[x,y,z,w]):=λ_ _ _ _=>aB (by unfold aV;simp only[au,bm];omega);simp only[dF hi,ac,aN hi,bd_s,lQ,e];rfl) (λrec s _=>by simp only[dL,aa]),X9,bd_s]
  rw[aB (show([(b.Entries.length:Int)]++kJ b.Entries).length<=5000000000 by show(qB b).length<=_;omega),bd_s];rfl
def aDv (a b:List Int)(h:bD a/\bD b):Em a b=some (a==b):=by obtain⟨c,hb⟩:=h;have h1:=c.1;have h2:=hb.1;unfold Em;rw[aB (by omega),aB (by omega),aZ1,aZ1,ByteArray.toList_eq,ByteArray.toList_eq,aXy,aXy];congr 1;rw[en,cH,cH];exact⟨λh=>bytes_inj (Ta c) (Ta hb) h,λh=>by rw[h]⟩
def bW3 {v:List Int}{i:Nat}(h:4*i+3<v.length):v.drop (4*i)=v[4*i]::v[4*i+1]::v[4*i+2]::v[4*i+3]::v.drop (4*(i+1)):=by rw[cq (show 4*i<v.length by omega),cq (show 4*i+1<v.length by omega),cq (show 4*i+1+1<v.length by omega),cq (show 4*i+1+1+1<v.length by omega)];rfl
def bDp {v:List Int}{k:Nat}(hv:v.length=4*k)(hk:k<=20){τ:Type}{x:τ}{F:(Nat×List AH->Option (τ⊕List AH))->Nat×List AH->Option (τ⊕List AH)}
  (a:∀rec i s (hi:i<k) (h:4*i+3<v.length),s.length<=100->F rec (i,s)=bif decide (v[4*i+3]>1) then some (.inl x) else rec (i+1,s++[⟨v[4*i],v[4*i+1],v[4*i+2],v[4*i+3]==1⟩])) (b:∀rec s,F rec (k,s)=some (.inr s)):
  ∀(m i n:Nat) (s:List AH),i+m=k->m<n->s.length<=i->EV.bU n F (i,s)=some (bif lS (v.drop (4*i)) then .inr (s++mG (v.drop (4*i))) else .inl x)
 |0,i,n+1,s,h,_,_=>by
  have:i=k:=by omega
  subst this;rw[jA,b,gn (by omega)];simp[lS,mG]
 |m+1,i,n+1,s,h,hn,hs=>by
  have c:4*i+3<v.length:=by omega
  rw[jA,a _ i s (by omega) c (by omega),bW3 c];simp only[lS,mG];by_cases hg:v[4*i+3]>1
  ·rw[ak hg,ao (show ¬v[4*i+3]<=1 by omega)];rfl
  ·rw[ao hg,ak (show v[4*i+3]<=1 by omega),aa,cw,bDp hv hk a b m (i+1) n _ (by omega) (by omega) (by simp;omega)];simp
def bDq {a:List Int}(hb:bD a)(hc:(!(zD a 0).2.2||decide ((zD a 0).1>20))=false):∃(n:Int) (q:Nat),zD a 0=(n,(q:Int),true)/\0<=n/\n<=20/\q<=a.length:=by
 simp only[bo,cR,cu] at hc;cases b:zD a 0 with
 |mk n r=>obtain⟨e,ok⟩:=r;rw[b] at hc;obtain⟨rfl,hc2⟩:=hc;obtain⟨q,⟨_,c,h,d,f⟩,_⟩:=aZ3 hb b;exact⟨n,q,by rw[d],c,by simp only at hc2;omega,f⟩
def bDr {a:List Int}{e c:Int}(h0:0<=c)(h1:c<=100)(h2:0<=e)(b:e<=a.length):jU a e c=kZ a c.toNat e []:=by unfold jU bK;rw[ak h0,ak h1,ak h2,ak b];rfl
def bAi {v:List Int}{i j:Nat}{q:Int}(hq:q=(j:Int))(h:i+j<v.length):bA (v.drop i) q=some v[i+j]:=by subst hq;rw[aN (by rw[cy];omega),List.getElem_drop]
def o7 (a:List Int)(hb:bD a):yL a=some (Du a):=by
 unfold yL Du;rw[aB hb,bd_s,rE,bd_s];cases hc:(!(zD a 0).2.2||decide ((zD a 0).1>20)) with
 |true=>rfl
 |false=>
  obtain⟨n,q,b,h0,h1,h2⟩:=bDq hb hc;rw[b,aa,aa];dsimp only;rw[aI (n:=4*n) (by omega) (by omega),aB hb,bd_s,bDr (by omega) (by omega) (by omega) (by omega)];cases hd:kZ a (4*n).toNat (q:Int) [] with
  |mk v r=>
   obtain⟨e,ok⟩:=r;dsimp only;rw[rE,bd_s];unfold bCi;cases ok with
   |false=>rfl
   |true=>
    dsimp only;rw[ay,cx,cx];cases he:(e !=(a.length:Int)) with
    |true=>rfl
    |false=>
     obtain⟨t,q',⟨k1,k2,k3,k4,k5⟩,_⟩:=Sz hb _ _ _ _ _ (by omega) (by omega) hd;rw[bp] at k1;subst k1;have hv:v.length=4*n.toNat:=by omega
     rw[aa,cx,bDp (x:=((AB.mk [],false):AB×Bool)) hv (by omega) (λrec i s hi c hs=>by
      have d:decide ((i:Int)<n)=true:=ak (by omega);have f:IntKind.i64.wrap (4*(i:Int))=((4*i:Nat):Int):=by rw[aI (by omega) (by omega)];omega
      have h:bA (v.drop (4*i)) 0=some (v[4*i]'(by omega)):=bAi (j:=0) rfl (by omega);have k:bA (v.drop (4*i)) 1=some (v[4*i+1]'(by omega)):=bAi (j:=1) rfl (by omega);have l:bA (v.drop (4*i)) 2=some (v[4*i+2]'(by omega)):=bAi (j:=2) rfl (by omega);have m:bA (v.drop (4*i)) 3=some v[4*i+3]:=bAi (j:=3) rfl c;simp only[d,f,bv,ac,aB (show lV v ((4*i:Nat):Int) from⟨by omega,by omega⟩),h,k,l,m,bd_s,gF (show s.length<=34359738368 by omega)]) (λrec s=>by
      rw[show decide (((n.toNat:Nat):Int)<n)=false from ao (by omega)];rfl) n.toNat 0 FUEL [] (by omega) (by have:=gY;omega) (by simp)]
     simp only[Nat.mul_zero,gm,bp];cases o:lS v with
     |false=>rfl
     |true=>have hl:=aCw n.toNat v hv;simp only[ac,nx_r];rw[aB (show(AB.mk (mG v)).sz<=34359738368 by simp only[AB.sz];omega),bd_s];cases aR ⟨mG v⟩<;>rfl
def aYu {a:List Int}(hb:bD a){k:Nat}(hk:k<=20){τ:Type}{x:τ}{F:(Int×Nat×List AH->Option (τ⊕List AH))->Int×Nat×List AH->Option (τ⊕List AH)}
  (b:∀rec (q:Nat) i s (hi:i<k),q<=a.length->s.length<=100->F rec ((q:Int),i,s)=bif !(kZ a 4 q []).2.2 then some (.inl x) else rec ((kZ a 4 q []).2.1,i+1,s++mG (kZ a 4 q []).1)) (c:∀rec e s,F rec (e,k,s)=some (.inr s)):
  ∀(m i n q:Nat) (s:List AH),i+m=k->m<n->q<=a.length->s.length<=i->EV.bU n F ((q:Int),i,s)=some (bif (kZ a (4*m) q []).2.2 then .inr (s++mG (kZ a (4*m) q []).1) else .inl x)
 |0,i,n+1,q,s,h,_,_,_=>by
  have:i=k:=by omega
  subst this;rw[jA,c];simp[kZ,mG]
 |m+1,i,n+1,q,s,h,hn,hq,hs=>by
  rw[jA,b _ q i s (by omega) hq (by omega),show 4*(m+1)=4+4*m by omega,aP7 4 (4*m)];cases hd:kZ a 4 (q:Int) [] with
  |mk l r=>
   obtain⟨e,ok⟩:=r;cases ok with
   |false=>rfl
   |true=>
    obtain⟨t,q',⟨k1,k2,k3,k4,k5⟩,_⟩:=Sz hb _ _ _ _ _ (by omega) (by omega) hd;rw[bp] at k1;subst k1;subst k3;have hl:(mG l).length=1:=aCw 1 l (by omega);simp only[ay,aa,ac];rw[aYu hb hk b c m (i+1) n q' _ (by omega) (by omega) k4 (by simp[hl];omega),aP8 (4*m) (q':Int) l];cases(kZ a (4*m) (q':Int) []).2.2 with
    |false=>rfl
    |true=>simp[bCh 1 l _ (by omega)]
def four {l:List Int}(h:l.length=4):∃w x y z,l=[w,x,y,z]:=by
 match l,h with
 |[w,x,y,z],_=>exact⟨w,x,y,z,rfl⟩
def o8 (a:List Int)(hb:bD a):xY a=some (Du a):=by
 unfold xY Du;rw[aB hb,bd_s,rE,bd_s];cases hc:(!(zD a 0).2.2||decide ((zD a 0).1>20)) with
 |true=>rfl
 |false=>
  obtain⟨n,q,b,h0,h1,h2⟩:=bDq hb hc;rw[b,aa,aa];dsimp only;rw[aYu (x:=((AB.mk [],false):AB×Bool)) hb (k:=n.toNat) (by omega) (λrec q i s hi hq hs=>by
   have d:decide ((i:Int)<n)=true:=ak (by omega);simp only[d,ac,aB hb,bd_s,bDr (a:=a) (e:=(q:Int)) (c:=4) (by omega) (by omega) (by omega) (by omega),show Int.toNat 4=4 from rfl];cases hd:kZ a 4 (q:Int) [] with
   |mk l r=>
    obtain⟨e,ok⟩:=r;cases ok with
    |false=>rfl
    |true=>
     obtain⟨t,q',⟨k1,k2,_⟩,_⟩:=Sz hb _ _ _ _ _ (by omega) (by omega) hd;rw[bp] at k1;subst k1;obtain⟨w,x,y,z,rfl⟩:=four k2;simp only[ay,aa,show bA [w,x,y,z] 0=some w from rfl,show bA [w,x,y,z] 1=some x from rfl,show bA [w,x,y,z] 2=some y from rfl,show bA [w,x,y,z] 3=some z from rfl,bd_s,gF (show s.length<=34359738368 by omega)];rfl) (λrec e s=>by
   rw[show decide (((n.toNat:Nat):Int)<n)=false from ao (by omega)];rfl) n.toNat 0 FUEL q [] (by omega) (by have:=gY;omega) h2 (by simp)]
  rw[show(4*n).toNat=4*n.toNat by omega];unfold bCi;cases hd:kZ a (4*n.toNat) (q:Int) [] with
  |mk v r=>
   obtain⟨e,ok⟩:=r;cases ok with
   |false=>rfl
   |true=>
    obtain⟨b1,u,A,B⟩:=bNo hb b h1 (show kZ a (4*n).toNat (q:Int) []=(v,e,true) by rw[show(4*n).toNat=4*n.toNat by omega];exact hd);have f:(AB.mk (mG v)).sz<=34359738368:=by simp only[AB.sz];omega
    simp only[ac,nx_r,bp,aB f,bd_s,aB (show bD (nT ⟨mG v⟩)/\bD a from⟨aCx _,hb⟩),rE];unfold nT;cases h:aR ⟨mG v⟩ with
    |false=>simp
    |true=>
     rw[ac];by_cases hq:jG (qB ⟨mG v⟩)=a
     ·obtain⟨j,m⟩:=b1.1 hq;rw[hq,j,m];simp
     ·have:(e !=(a.length:Int)|| !lS v)=true:=by
       cases o:(e !=(a.length:Int)) with
       |true=>rfl
       |false=>
        cases p:lS v with
        |false=>rfl
        |true=>exact absurd (b1.2 ⟨by simpa using o,p⟩) hq
      rw[show(jG (qB ⟨mG v⟩)==a)=false by simpa using hq];simp only[ay,cY,ac,cx,gu,this]
def aDw (k:Int)(s:AJ)(h:s.Data.length<=34359738200):Fw k s=some (iB k s):=by unfold Fw iB;rw[aB h,aB (by simp)];simp only[bd_s,aB (show s.Data.length<=34359738368 by omega),aB (aZy (k:=aY k [223,s.Epoch,s.Version]) (show s.Data.length<=34359738368 by omega))];unfold lX;cases bL k<;>cases bK s.Epoch 0 1000000<;>cases bK s.Version 0 1000000<;>cases(s.MAC !=jB k s)<;>rfl
def aDx (k:Int)(s:AJ)(h:s.Data.length<=34359738200):En k s=some (iB k s):=by unfold En iB;rw[aB h,aB (show s.Data.length<=34359738368 by omega)];simp only[bd_s,aB (aZy (k:=lX k s.Epoch s.Version) (show s.Data.length<=34359738368 by omega))];cases bL k<;>cases bK s.Epoch 0 1000000<;>cases bK s.Version 0 1000000<;>cases(s.MAC !=jB k s)<;>rfl
def aDy (d:AD)(l:List AF)(bx:AN)(s:AJ)(h:d.sz<=34359738368/\l.length<=34359738368/\bx.sz<=34359738368/\s.Data.length<=34359738200):Fx d l bx s=some (bR d l bx s):=by
 obtain⟨h1,h2,a,b⟩:=h;have c:=iD l;have hb:d.aAD.sz<=34359738368:=by simp only[AD.sz,AB.sz] at*;omega
 unfold Fx bR jY;simp only[aB h1,aB h2,aB a,aB b,aB (show(aD l).length<=1099511627776 by omega),bd_s,rE,bif_and,bif_or,lQ];have ho:=aX0 (bM d.Store bx).1 s;generalize iB (bM d.Store bx).1 s=o at ho ⊢;simp only[aB (show d.aAD.sz<=34359738368/\o.1.sz<=34359738368 from⟨hb,by omega⟩),bd_s];cases !aZ l|| !dG l d.Log with
 |true=>rfl
 |false=>
  cases !jJ (aD l) (aT d.Store) with
  |true=>rfl
  |false=>
   cases bx.Epoch !=aC l|| !(bM d.Store bx).2 with
   |true=>rfl
   |false=>
    cases decide (s.Epoch<aC l)||(decide (s.Epoch<d.Epoch)||(s.Epoch==d.Epoch&&decide (s.Version<d.Version))) with
    |true=>rfl
    |false=>cases !o.2<;>cases !(dU d.aAD o.1).2<;>rfl
def aDz (d:AD)(l:List AF)(bx:AN)(s:AJ)(h:d.sz<=34359738368/\l.length<=34359738368/\bx.sz<=34359738368/\s.Data.length<=34359738200):Eo d l bx s=some (bR d l bx s):=by
 obtain⟨h1,h2,a,b⟩:=h;have c:=iD l;have hb:d.aAD.sz<=34359738368:=by simp only[AD.sz,AB.sz] at*;omega
 unfold Eo bR jY;simp only[aB h1,aB h2,aB a,aB b,aB (show(aD l).length<=1099511627776 by omega),bd_s,rE,bif_and,bif_or,lQ];have ho:=aX0 (bM d.Store bx).1 s;generalize iB (bM d.Store bx).1 s=o at ho ⊢;simp only[aB (show d.aAD.sz<=34359738368/\o.1.sz<=34359738368 from⟨hb,by omega⟩),bd_s];cases !aZ l|| !dG l d.Log with
 |true=>rfl
 |false=>
  cases !jJ (aD l) (aT d.Store) with
  |true=>rfl
  |false=>
   cases bx.Epoch !=aC l|| !(bM d.Store bx).2 with
   |true=>rfl
   |false=>
    cases decide (s.Epoch<aC l)||(decide (s.Epoch<d.Epoch)||(s.Epoch==d.Epoch&&decide (s.Version<d.Version))) with
    |true=>rfl
    |false=>cases !o.2<;>cases !(dU d.aAD o.1).2<;>rfl
def aYv {c:AM}(h:c.sz<=34359738100)(b:Int):c.Log.length<=34359738100/\c.Boxes.sz<=34359738100/\(fA c b).1.Data.length<=34359738100:=by
 have a:=h;simp only[AM.sz] at h;refine⟨by omega,by simp only[AN.sz] at*;omega,?_⟩;unfold fA;cases e:(decide (b<0)||decide (b>=(c.History.length:Int))) with
 |true=>simp
 |false=>have:=(aSf (b:=b) (show c.sz<=34359738368 by omega) (Mq e)).2;have h1:=wD (f:=AJ.sz) (l:=c.History) (i:=c.History.length-1-b.toNat) (by have:=Mq e;omega);simp only[aa];simp only[AJ.sz] at h1;omega
def aSg (d:AD)(c:AM)(b:Int)(h:d.sz<=34359738100/\c.sz<=34359738100):Uw d c b=some (bR d c.Log c.Boxes (fA c b).1):=by obtain⟨h1,h2⟩:=h;obtain⟨k1,k2,k3⟩:=aYv h2 b;unfold Uw;rw[aB (show c.sz<=34359738368 by omega),bd_s,aB ⟨by omega,by omega,by omega,by omega⟩,bd_s]
def aIu {w:AA}{d:Int}(h:aL w d=true):0<=d/\d.toNat<w.Devices.length/\(aG w d).sz<=w.sz/\aG w d=w.Devices.getD d.toNat default:=by
 simp only[aL,ab,bq] at h;have hi:d.toNat<w.Devices.length:=by omega
 have:=wD (f:=AD.sz) hi;refine⟨h.1,hi,?_,rfl⟩;show(w.Devices.getD d.toNat default).sz<=_;simp only[AA.sz];omega
def Vr (w:AA):w.aAC.sz<=w.sz:=by simp only[AA.sz,AM.sz,AN.sz];omega
def aSh (w:AA)(d b:Int)(c:w.sz<=34359738100):Vd w d b=some (aM w d b):=by
 have a:=Vr w;unfold Vd aM;rw[aB (show w.sz<=34359738368 by omega),bd_s,aB (show w.sz<=34359738368 by omega),bd_s];cases hc:(aQ w&&aL w d) with
 |false=>rfl
 |true=>have hd:=(jc.1 hc).2;obtain⟨k1,k2,k3,k4⟩:=aIu hd;rw[ay,aa,ac,lN hd,bd_s,aB ⟨by omega,by omega⟩,bd_s,bd_s]
def aSi (w:AA)(d b:Int)(c:w.sz<=34359738100):Vl w d b=some (aM w d b):=by
 have a:=Vr w;unfold Vl aM;rw[aB (show w.sz<=34359738368 by omega),bd_s,aB (show w.sz<=34359738368 by omega),bd_s,rE,bd_s,<-Bool.not_and];cases hc:(aQ w&&aL w d) with
 |false=>rfl
 |true=>have hd:=(jc.1 hc).2;obtain⟨k1,k2,k3,k4⟩:=aIu hd;obtain⟨l1,l2,e⟩:=aYv (show w.aAC.sz<=34359738100 by omega) b;rw[ay,aa,ac,aB (show w.aAC.sz<=34359738368 by omega),bd_s,lN hd,bd_s,aB ⟨by omega,by omega,by omega,by omega⟩,bd_s,bd_s]
def bIj {k:Int}{b:List Int}(hl:b.length<=34359738368){F:(List Int×Nat->Option (List Int))->List Int×Nat->Option (List Int)}
  (a:∀rec i s (hi:i<b.length),s.length<=34359738368->F rec (s,i)=rec (s++[bCj k i b[i]],i+1)) (c:∀rec s,F rec (s,b.length)=some s):EV.bU FUEL F ([],0)=some (mI k b):=by
 refine Gx (λi s=>i<=b.length/\s=(Px (λi z=>[bCj k i z]) 0 (b.take i),i)) b.length _ (by omega) ⟨by omega,by simp[Px]⟩ (λi s rec hi hv=> ?_) (λs rec hv=> ?_)
 ·obtain⟨_,rfl⟩:=hv;refine .inl ⟨_,⟨hi,rfl⟩,?_⟩;rw[a rec i _ hi (by rw[rZ,bw];omega),aIq hi,cg]
 ·obtain⟨_,rfl⟩:=hv;rw[c,di];rfl
def aSj (k:Int)(b:List Int)(h:bD b):Vm k b=some (mI k b):=by
 unfold Vm;rw[bIj (k:=k) h.1 (λrec i s hi hs=>by
  have e:=bNq (k:=k) i (wM h hi);have a:((256:Int)≠0)=True:=by simp
  simp only[dF hi,ac,aN hi,bd_s,aB (show([(i:Int)]:List Int).length<=34359738368 by simp),a,gd_T,e,gF hs]) (λrec s=>by simp only[dL,aa])]
 rfl
def aSk (k:Int)(b:List Int)(h:bD b):Ue k b=some (mI k b):=by
 unfold Ue;rw[bIj (k:=k) h.1 (λrec i s hi hs=>by
  have e:=bNr (k:=k) i (wM h hi);have a:((256:Int)≠0)=True:=by simp
  simp only[dF hi,ac,aN hi,bd_s,aB (show([(i:Int)]:List Int).length<=34359738368 by simp),a,gd_T,e,gF hs]) (λrec s=>by simp only[dL,aa])]
 rfl
def Vs (b:List Int)(n:Int)(h:b.length<=34359738300):xE b n=some (sH b n):=by
 unfold xE sH enc1;have e:(decide (n<0)||decide (n>1000000000000))= !bK n 0 1000000000000:=by unfold bK;rw[en];simp<;>omega
 rw[aB (show b.length<=34359738368 by omega),bd_s,rE,bd_s,e];cases hr:bK n 0 1000000000000 with
 |false=>simp
 |true=>
  rw[ay,aa,ac];exact bIi (iC hr) h (λrec n s h0 h1 h2=>by
   have a:((128:Int)≠0)=True:=by simp
   have c:decide (n>=128)=decide (n>127):=cF.2 (by omega);have d:IntKind.u8.wrap (IntKind.i64.wrap (n.tmod 128+128))=n%128+128:=by rw[ct h0,aI (by omega) (by omega),aP6 (by omega) (by omega)]
   have f:IntKind.i64.wrap (n.tdiv 128)=n/128:=by rw[ko h0,aI (by omega) (by omega)]
   simp only[a,gd_T,c,d,f,gF (s:=s) h2])
def aD0 (l:List Int)(h:l.length<=5000000000):Fy l=some (jG l):=by
 unfold Fy;rw[gV (l:=l) sH (λi s=>s.length<=6*i) (λs=>some s) (by omega) (by simp) (λi s hi hv=>by have:=Sy l[i];simp only[sH,aw];omega) (λrec i s hi hv=>by
  simp only[dF hi,ac,aN hi,bd_s,aB (show s.length<=34359738300 by omega)]) (λrec s _=>by simp only[dL,aa]),aIt]
 rfl
def o9 (b:AB)(h:b.sz<=34359738368):yM b=some (nT b):=by
 unfold yM nT;rw[aB h,bd_s];cases hb:aR b with
 |false=>rfl
 |true=>
  have hl:=mQ hb;have hv:(qB b).length=1+4*b.Entries.length:=by simp[qB,vI];omega
  rw[ay,aa,ac,gV (l:=b.Entries) (λs e=>s++aUs e) (λi s=>s.length<=1+4*i) (λs=>some s) (by omega) (by simp) (λi s hi hv=>by simp only[aUs,aw,au,bm];omega) (λrec i s hi hv=>by
   have e:∀x y z w:Int,gd (aV s [x,y,z,w]) (rec (s++[x,y,z,w],i+1))=rec (s++[x,y,z,w],i+1):=λ_ _ _ _=>aB (by unfold aV;simp only[au,bm];omega);simp only[dF hi,ac,aN hi,bd_s,U4,lQ,e];rfl) (λrec s _=>by simp only[dL,aa]),X9,bd_s]
  rw[aB (show([(b.Entries.length:Int)]++kJ b.Entries).length<=5000000000 by show(qB b).length<=_;omega),bd_s];rfl
def bPe (k:Int)(b:AB):(mI k (nT b)).length<=34359738200:=by have:=aX1 b;rw[Td];omega
def aD1 (k e v:Int)(b:AB)(h:b.sz<=34359738368):Ga k e v b=some (qC k e v b):=by unfold Ga qC gB lX;simp only[aB h,bd_s,aB (show[(223:Int),e,v].length<=34359738300 by simp),aB (aCx b),aB (bPe (aY k [223,e,v]) b)];cases bL k<;>cases bK e 0 1000000<;>cases bK v 0 1000000<;>cases aR b<;>rfl
def aD2 (k e v:Int)(b:AB)(h:b.sz<=34359738368):Ei k e v b=some (qC k e v b):=by unfold Ei qC gB;simp only[aB h,bd_s,aB (aCx b),aB (bPe (lX k e v) b)];cases bL k<;>cases bK e 0 1000000<;>cases bK v 0 1000000<;>cases aR b<;>rfl
def aIv (a b:AJ):Kb a b=some (pQ a b):=by unfold Kb pQ;cases decide (a.Epoch>b.Epoch)<;>cases(a.Epoch==b.Epoch)<;>rfl
def aIw (a b:AJ):Jb a b=some (pQ a b):=by unfold Jb pQ;cases decide (a.Epoch>b.Epoch)<;>cases(a.Epoch==b.Epoch)<;>rfl
def bIk {d:AD}(h:d.sz<=34359738368):d.aAD.sz<=34359738368:=by simp only[AD.sz,AB.sz] at*;omega
def Y1 (d:AD)(h:d.sz<=34359738368):Ce d=some (cK d):=by unfold Ce cK;simp only[aB h,aB (bIk h),bd_s];cases(qC d.Key d.Epoch (IntKind.i64.wrap (d.Version+1)) d.aAD).2<;>rfl
def Y2 (d:AD)(h:d.sz<=34359738368):Ba d=some (cK d):=by unfold Ba cK;simp only[aB h,aB (bIk h),bd_s];cases(qC d.Key d.Epoch (IntKind.i64.wrap (d.Version+1)) d.aAD).2<;>rfl
def aYw (c:AM)(s:AJ)(h:c.sz<=34359738300/\s.sz<=34359738300):(bd (gd (c.sz<=34359738368) (some c)) λa=>bd (gd (c.Log.length<=34359738368) (some (aC c.Log))) λd=>bd (bif (s.Epoch !=d) then some true else(bif decide ((c.History.length:Int)>0) then(bd (bA c.History (IntKind.i64.wrap ((c.History.length:Int)-1))) λb=>bd (some (pQ s b)) λe=>bif !e then some true else some (decide ((c.History.length:Int)>=60))) else some (decide ((c.History.length:Int)>=60)))) λf=>bif f then some (a,false) else bd (gd (s.sz<=34359738368) (some s)) λb=>gd (aV a.History [b]) (some (AM.mk a.Log a.Boxes (a.History++[b]),true)))=some (cB c s):=by
 obtain⟨h1,h2⟩:=h;have i:=h1;simp only[AM.sz] at i;unfold cB;simp only[aB (show c.sz<=34359738368 by omega),aB (show c.Log.length<=34359738368 by omega),aB (show s.sz<=34359738368 by omega),bd_s,gF (show c.History.length<=34359738368 by omega)];by_cases h0:0<c.History.length
 ·have j:bA c.History (IntKind.i64.wrap ((c.History.length:Int)-1))=some (c.History.getD (c.History.length-1) default):=by rw[aI (by omega) (by omega),sF (by omega) (by omega)];congr 2;omega
  rw[ak (show(c.History.length:Int)>0 by omega),j];generalize c.History.getD (c.History.length-1) default=x;simp only[bd_s,ac,cw];cases(s.Epoch !=aC c.Log)<;>cases pQ s x<;>cases decide ((c.History.length:Int)>=60)<;>rfl
 ·rw[ao (show ¬(c.History.length:Int)>0 by omega)];cases(s.Epoch !=aC c.Log)<;>cases decide ((c.History.length:Int)>=60)<;>rfl
def p8 (c:AM)(s:AJ)(h:c.sz<=34359738300/\s.sz<=34359738300):Zr c s=some (cB c s):=aYw c s h
def p9 (c:AM)(s:AJ)(h:c.sz<=34359738300/\s.sz<=34359738300):Zo c s=some (cB c s):=aYw c s h
def aBI {w:AA}{d:Int}(a:w.sz<=10000000000)(h:((aM w d 0).2==0)=true):(aL (aM w d 0).1 d=true/\(aG (aM w d 0).1 d).sz<=34359738368)/\((aM w d 0).1.aAC.sz<=34359738300/\(cK (aG (aM w d 0).1 d)).2.1.sz<=34359738300):=by
 obtain⟨⟨k1,k2⟩,k3,k4,k5⟩:=mR h;have hd:aL (aM w d 0).1 d=true:=by simp only[aL] at*;rw[k4];exact k2
 have h1:=(aIu hd).2.2.1;have h2:=Vr (aM w d 0).1;have b:=(zN (aG (aM w d 0).1 d)).2;have c:w.aAC.Log.length<=w.sz:=by simp only[AA.sz,AM.sz];omega
 exact⟨⟨hd,by omega⟩,by omega,by simp only[AJ.sz];omega⟩
def aD3 (w:AA)(d:Int)(a:w.sz<=10000000000):Ex w d=some (eX w d):=by
 unfold Ex eX;have b:w.sz<=34359738368:=by omega
 simp only[aB (show w.sz<=34359738100 by omega),aB b,bd_s,bne];cases hs:((aM w d 0).2==0) with
 |false=>rfl
 |true=>obtain⟨⟨k1,k2⟩,k3⟩:=aBI a hs;generalize(aM w d 0).1=x at*;simp only[ay,aa,lN k1,bd_s,aB k2,aB k3,rE];unfold Tc;cases(cK (aG x d)).2.2<;>cases(cB x.aAC (cK (aG x d)).2.1).2<;>rfl
def aD4 (w:AA)(d:Int)(a:w.sz<=10000000000):Gb w d=some (eX w d):=by
 unfold Gb eX;have b:w.sz<=34359738368:=by omega
 simp only[aB (show w.sz<=34359738100 by omega),aB b,bd_s,bne];cases hs:((aM w d 0).2==0) with
 |false=>rfl
 |true=>obtain⟨⟨k1,k2⟩,k3⟩:=aBI a hs;generalize(aM w d 0).1=x at*;simp only[ay,aa,lN k1,bd_s,aB k2,aB k3];unfold Tc;cases(cK (aG x d)).2.2<;>cases(cB x.aAC (cK (aG x d)).2.1).2<;>rfl
abbrev WT:=Int×Int×List AD×List Bool×List AF×Int×List AO×List AJ×List AC×Int×Int×Int×Int×List AG×Int×List AX
abbrev bDs (w:AA):WT:=(w.Now,w.Seed,w.Devices,w.Stolen,w.aAC.Log,w.aAC.Boxes.Epoch,w.aAC.Boxes.Boxes,w.aAC.History,w.Sites,w.aAO.Salt,w.aAO.Threshold,w.aAO.Check,w.aAO.Masked,w.Hosts,w.Pin,w.Mail.Notices)
def aSl {τ:Type}{x:τ}{l:List Int}{g:AA->Int->AA×Bool}{A:List Int->AA->AA×Bool}(a:∀w,A [] w=(w,true))(b:∀i l w,A (i::l) w=bif (g w i).2 then A l (g w i).1 else(w,false))(Inv:Nat->AA->Prop)(c:∀i w (hi:i<l.length),Inv i w->(g w l[i]).2=true->Inv (i+1) (g w l[i]).1)
  {F:(Nat×WT->Option (τ⊕WT))->Nat×WT->Option (τ⊕WT)} (d:∀rec i w (hi:i<l.length),Inv i w->F rec (i,bDs w)=bif !(g w l[i]).2 then some (.inl x) else rec (i+1,bDs (g w l[i]).1)) (e:∀rec t,F rec (l.length,t)=some (.inr t)):
  ∀(k i n:Nat) (w:AA),i+k=l.length->k<n->Inv i w->EV.bU n F (i,bDs w)=some (bif (A (l.drop i) w).2 then .inr (bDs (A (l.drop i) w).1) else .inl x)
 |0,i,n+1,w,h,_,_=>by
  have:i=l.length:=by omega
  subst this;rw[jA,e,dq,a];rfl
 |k+1,i,n+1,w,h,hn,hv=>by
  have hi:i<l.length:=by omega
  rw[jA,d _ i w hi hv,cq hi,b];cases hg:(g w l[i]).2 with
  |false=>rfl
  |true=>exact aSl a b Inv c d e k (i+1) n _ (by omega) (by omega) (c i w hi hv hg)
def bPf {w:AA}(h:aQ w=true):(aX w).length<=6:=by
 have h1:(aX w).length<=w.Devices.length:=by unfold aX;exact Kg
 simp only[aQ,ab] at h;have:=iC h.1.1.1.1.1.1.2;omega
def bYk (i:Nat)(w:AA):Prop:=w.aAC.Log.length<=1000000000/\w.sz<=1000000000+i*1000000521
def bYl (i:Nat)(w:AA):Prop:=w.aAC.Log.length<=1000000000/\w.sz<=7000003126+i*1000000020
def Y3 (w:AA)(h:w.sz<=1000000000):Cf w=some (kS w):=by
 unfold Cf kS;have e:w.sz<=34359738368:=by omega
 simp only[aB e,bd_s,aB (Dt.of' e)];cases hc:aQ w with
 |false=>rfl
 |true=>
  have f:=bPf hc;have j:w.aAC.Log.length<=w.sz:=by simp only[AA.sz,AM.sz];omega
  rw[ay,aa,cw];rw[aSl (x:=(w,false)) (l:=aX w) (g:=eX) (A:=lT) (λ_=>rfl) (λ_ _ _=>rfl) bYk (λi u hi hv hg=>by
   obtain⟨h1,h2⟩:=Yp hg;obtain⟨a,c⟩:=hv;exact⟨by rw[h1];exact a,by simp only[dm];omega⟩) (λrec i u hi hv=>by
   show(bif decide ((i:Int)<((aX w).length:Int)) then(bd (bA (aX w) (i:Int)) λd=>bd (gd (u.sz<=10000000000) (some (eX u d))) λb=>bif !b.2 then some (Sum.inl (w,false)) else rec (i+1,bDs b.1)) else some (Sum.inr (bDs u)))=_;obtain⟨a,c⟩:=hv;have:i*1000000521<=6*1000000521:=cW _ (by omega);rw[dF hi,ac,aN hi,bd_s,aB (show u.sz<=10000000000 by omega),bd_s]) (λrec t=>by simp only[dL,aa]) (aX w).length 0 FUEL w (by omega) (by have:=gY;omega) ⟨by omega,by omega⟩,gm]
  obtain⟨q1,q2⟩:=R5 (aX w) w;have q3:=cW (w.aAC.Log.length+521) f;cases hp:(lT (aX w) w).2 with
  |false=>rfl
  |true=>
   generalize(lT (aX w) w).1=v at q1 q2 ⊢;rw[ac,nx_r,aSl (x:=(w,false)) (l:=aX w) (g:=λu i=>((aM u i 0).1,(aM u i 0).2==0)) (A:=sI) (λ_=>rfl) (λ_ _ _=>rfl) bYl (λi u hi hv hg=>by
    obtain⟨_,h1,_,h2⟩:=mR hg;obtain⟨a,c⟩:=hv;exact⟨by show(aM u _ 0).1.aAC.Log.length<=_;rw[h1];exact a,by simp only[dm];omega⟩) (λrec i u hi hv=>by
    show(bif decide ((i:Int)<((aX w).length:Int)) then(bd (bA (aX w) (i:Int)) λd=>bd (gd (u.sz<=34359738100) (some (aM u d 0))) λb=>bif b.2 !=0 then some (Sum.inl (w,false)) else rec (i+1,bDs b.1)) else some (Sum.inr (bDs u)))=_;obtain⟨a,c⟩:=hv;have:i*1000000020<=6*1000000020:=cW _ (by omega);rw[dF hi,ac,aN hi,bd_s,aB (show u.sz<=34359738100 by omega),bd_s];rfl) (λrec t=>by simp only[dL,aa]) (aX w).length 0 FUEL v (by omega) (by have:=gY;omega) ⟨by rw[q2];omega,by omega⟩,gm]
   cases(sI (aX w) v).2<;>rfl
def bK7 (w:AA):(kS w).1.sz<=13*w.sz+4000:=by
 unfold kS;cases hc:(aQ w&&((lT (aX w) w).2&&(sI (aX w) (lT (aX w) w).1).2)) with
 |false=>simp only[aa];omega
 |true=>
  rw[ab] at hc;have a:=bPf hc.1;obtain⟨h1,h2⟩:=R5 (aX w) w;have b:=aQb (aX w) (lT (aX w) w).1;rw[h2] at b;have c:w.aAC.Log.length<=w.sz:=by simp only[AA.sz,AM.sz];omega
  have d:=cW (w.aAC.Log.length+521) a;have e:=cW (w.aAC.Log.length+20) a;simp only[ac];omega
def aD5 (s n:Int):Eb s n=some (aO s n):=by unfold Eb;rw[aB (by simp)];rfl
def aIx (s:AK):aH1 s=some (bG s):=rfl
def Y4 (s:AK)(n:ByteArray)(k:Int)(h:n.size<=34359738300):Av s n k=some (dH s n k):=by unfold Av;rw[aB h,bd_s,aB (by simp)];rfl
def aD6 (s:AK)(n:ByteArray)(k:Int)(h:n.size<=34359738300):Ef s n k=some (fD s n k):=by unfold Ef;rw[aB h];rfl
def q9 (s:AK)(l:List Int)(h:l.length<=34359738300):xV s l=some (sJ s l):=by unfold xV;rw[aB h];rfl
def aD7 (e:AN)(d:Int)(h:e.Boxes.length<=34359738368):Ee e d=some (sK e d):=by
 unfold Ee;rw[gV (l:=e.Boxes) (λn b=>bif b.To==d then IntKind.i64.wrap (n+1) else n) (λ_ _=>True) (λs=>some s) (by omega) trivial (λ_ _ _ _=>trivial) (λrec i s hi _=>by
  simp only[dF hi,ac,aN hi,bd_s,lQ]) (λrec s _=>by simp only[dL,aa])]
 rfl
def Y5 (l:List AF)(k d:Int)(s:AK)(h:l.length<=34359738300):Ao l k d s=some (eY l k d s):=by
 have h1:l.length<=34359738368:=by omega
 have e:∀x:AF,gd ((l++[x]).length<=34359738368) (some (aZ (l++[x])))=some (aZ (l++[x])):=λx=>aB (by simp;omega);have a:∀x:Int,gd ([x].length<=34359738300) (some (sJ s [x]))=some (sJ s [x]):=λx=>aB (by simp);unfold Ao eY Mr bE7;simp only[aB h1,bd_s,a,gF h1,e];generalize aZ (l++_)=q;cases decide ((l.length:Int)>0)<;>cases aZ l<;>cases q<;>rfl
def bF6 (p e:Int)(d:List Int)(h:bD d):(bd (bif gQ p==0 then some true else bif !bL e then some true else some (decide ((d.length:Int)>200))) λb=>bif b then some (AO.mk 0 0 [] 0,false) else bd (gd (bD d) (some (mI (iH (gQ p) e) d))) λa=>bd (gd (a.length<=34359738200) (some (Sj (iH (gQ p) e) (AO.mk p e a 0)))) λc=>some (AO.mk p e a c,true))=some (iM p e d):=by
 unfold iM jC;rw[rE,rE,bd_s];cases hc:(gQ p==0||(!bL e||decide ((d.length:Int)>200))) with
 |true=>rfl
 |false=>
  have hl:d.length<=200:=by simp only[bo,cu] at hc;omega
  rw[aa,aa,aB h,bd_s,aB (show(mI (iH (gQ p) e) d).length<=34359738200 by rw[Td];omega),bd_s]
def aSm (p e:Int)(d:List Int)(h:bD d):aRf p e d=some (iM p e d):=bF6 p e d h
def aIy (l:List Int)(e:Int)(d:List Int)(h:l.length<=34359738300/\bD d):Iw l e d=some (gX e d 0 l):=by
 obtain⟨h1,h2⟩:=h;unfold Iw;rw[aX8 (e:=e) (d:=d) (l:=l) (x:=(([],false):List AO×Bool)) (λrec i s hi hs=>by
  simp only[dF hi,ac,aN hi,bd_s,aB h2,gF (show s.length<=34359738368 by omega)]) (λrec s=>by simp only[dL,aa]) l.length 0 FUEL [] (by omega) (by have:=gY;omega) (by simp),gm]
 cases hs:(gX e d 0 l).2 with
 |true=>rw[ac,nx_r,bp,<-hs]
 |false=>rw[aa,bNx hs];rfl
def bR5 (a b:Int):bD (jG [a,b]):=aP9 (by have:=bCl a b;omega) (R4 _)
def Qi (l:List AF)(k e:Int)(h:l.length<=34359738300):uE l k e=some (bJ l k e):=by have hd:=iD l;unfold uE bJ;simp only[aB (show l.length<=34359738368 by omega),bd_s,aB (show[aC l,k].length<=5000000000 by simp),aB (show(aD l).length<=34359738300/\bD (jG [aC l,k]) from⟨by omega,bR5 _ _⟩)];cases aZ l<;>cases bL k<;>cases(gX e (jG [aC l,k]) 0 (aD l)).2<;>rfl
def bR6 (e:AN)(l:List Int):(l.all λd=>sK e d==1)= !(l.any λd=>sK e d !=1):=by
 induction l with
 |nil=>rfl
 |cons x l a=>simp only[ic,kt,a,bne];cases(sK e x==1)<;>simp
def aIz (e:AN)(l:List AF)(h:e.Boxes.length<=34359738368/\l.length<=34359738368):Iy e l=some (jV e l):=by
 obtain⟨h1,h2⟩:=h;have hd:=iD l;unfold Iy jV;rw[aB h2,bd_s,jT (l:=aD l) (λd=>sK e d !=1) (.inl false) (.inr PUnit.unit) (by omega) (λrec i hi=>by
  simp only[dF hi,ac,aN hi,bd_s,aB h1]) (λrec=>by simp only[dL,aa]),bR6]
 simp only[aB h2,bd_s];cases(aD l).any (λd=>sK e d !=1)<;>cases(e.Epoch==aC l)<;>cases((e.Boxes.length:Int)==((aD l).length:Int))<;>rfl
def bVl {e:AN}(h:e.sz<=34359738368):e.Boxes.length<=34359738368:=by simp only[AN.sz] at h;omega
def aI0 (c:AM)(l:List AF)(e:AN)(h:c.sz<=34359738368/\l.length<=34359738368/\e.sz<=34359738368):Jf c l e=some (kK c l e):=by obtain⟨h1,h2,a⟩:=h;unfold Jf kK;simp only[aB h1,aB h2,aB a,bd_s,aB (show e.Boxes.length<=34359738368/\l.length<=34359738368 from⟨bVl a,h2⟩)];cases aZ l<;>cases dG l c.Log<;>cases jV e l<;>rfl
def Y6 (s:AC)(i:Int)(h:s.Accounts.length<=34359738368):Aw s i=some (aF s i):=by unfold Aw;exact aCp (l:=s.Accounts) (λa=>a.Id==i) (by omega) (λrec j b=>by simp only[dF b,ac,aN b,bd_s]) (λrec=>by simp only[dL,aa])
def bW4 {l:List AV}{h p:Int}(a:l.length<=34359738300){β:Type}(k:List AV->Option β):gd (lV l ((Zl h l:Nat):Int)) (gd (lV l ((Zl h l:Nat):Int)) (gd (aV [] (List.take (Zl h l) l)) (gd (aV ([]++List.take (Zl h l) l) [AV.mk h p 0 false]) (gd (aV ([]++List.take (Zl h l) l++[AV.mk h p 0 false]) (List.drop (Zl h l) l)) (k ([]++List.take (Zl h l) l++[AV.mk h p 0 false]++List.drop (Zl h l) l))))))=k (aHg l h p):=by have hk:Zl h l<=l.length:=Te;have h1:lV l ((Zl h l:Nat):Int):=⟨by omega,by omega⟩;rw[aB h1,aB h1,aB (by unfold aV;simp;omega),aB (by unfold aV;simp;omega),aB (by unfold aV;simp;omega)];rfl
def bR7 {l:List AV}{h:Int}(a:l.length<=34359738300):EV.bU (α:=Int) FUEL (λrec (i:Int)=>bd (bif decide (i<(l.length:Int)) then(bd (bA l i) λz=>some (decide (z.Handle<h))) else some false) λz=>bif z then rec (IntKind.i64.wrap (i+1)) else some i) 0=some ((Zl h l:Nat):Int):=by
 have:=aX7 (l:=l) (λc=>decide (c.Handle<h)) (λi=>some (i:Int)) (λi=>(i:Int)) (F:=λrec (i:Int)=>bd (bif decide (i<(l.length:Int)) then(bd (bA l i) λz=>some (decide (z.Handle<h))) else some false) λz=>bif z then rec (IntKind.i64.wrap (i+1)) else some i) (by omega) (λrec i hi=>by
  simp only[dF hi,ac,aN hi,bd_s];rw[aI (by omega) (by omega)];rfl) (λrec=>by simp only[dL,aa,bd_s])
 exact this
def bW5 {a:AI}(b:a.sz<=34359738300)(h p:Int):(AI.mk a.Id a.Minimum (aHg a.Credentials h p)).sz<=34359738368:=by simp only[AI.sz,bCm] at*;omega
def Vt (a:AI)(h p:Int)(b:a.sz<=34359738300):wT a h p=some (iN a h p):=by
 have h1:a.sz<=34359738368:=by omega
 have hc:a.Credentials.length<=34359738300:=b;unfold wT iN;rw[aB h1,bd_s,bR7 hc];simp only[aB h1,bd_s,bv];rw[bW4 hc (λL=>bd (bif !bB a then some true else(bd (gd ((AI.mk a.Id a.Minimum L).sz<=34359738368) (some (bB (AI.mk a.Id a.Minimum L)))) λc=>some (!c))) λd=>bif d then some (a,false) else some (AI.mk a.Id a.Minimum L,true))];simp only[bd_s,aB (bW5 b h p)];cases bB a<;>cases bB {a with Credentials:=aHg a.Credentials h p}<;>rfl
def bF7 {a:AI}{h p:Int}(hn:(iN a h p).2=false):(iN a h p).1=a:=by
 unfold iN at*;cases hc: !bB a|| !bB {a with Credentials:=aHg a.Credentials h p} with
 |true=>rfl
 |false=>rw[hc] at hn;cases hn
def Y7 (s:AC)(i h p:Int)(a:s.sz<=34359738300):Ay s i h p=some (gD s i h p):=by
 have h1:s.sz<=34359738368:=by omega
 have hl:s.Accounts.length<=34359738368:=by simp only[AC.sz] at a;omega
 unfold Ay gD;simp only[aB h1,aB hl,bd_s];rw[rE,bd_s];cases hc:(!dK s||decide (aF s i<0)) with
 |true=>rfl
 |false=>
  rw[bo] at hc;obtain⟨b,c,d⟩:=bNy a hc.2;simp only[aa,b,bd_s,aB c];cases e:(iN (s.Accounts.getD (aF s i).toNat default) h p).2 with
  |true=>rfl
  |false=>rw[bF7 e,aP2 d];rfl
def aI1 (i:Int):(aA i).size<=34359738300:=by unfold aA;cases i==0<;>cases i==1<;>decide
def aD8 (d:AD)(h:Int)(rm:Bool)(c:d.sz<=34359738300):Ew d h rm=some (kL d h rm):=by have h1:=Ic d (aA 0) h rm;unfold Ew kL;rw[aB ⟨by omega,aI1 0⟩,bd_s,show FUEL=FUEL-2+1+1 from by have:=gY;omega];have e:∀{β:Type} (k:Option β),gd ((dQ d (aA 0) h rm).1.sz<=34359738360/\(aA 1).size<=34359738300) k=k:=λk=>aB ⟨by omega,aI1 1⟩;show(bd (bd (gd ((dQ d (aA 0) h rm).1.sz<=34359738360/\(aA 1).size<=34359738300) (some (dQ (dQ d (aA 0) h rm).1 (aA 1) h rm))) λa=>some (a.1.Store.Vendor,a.1.Store.Serial,a.1.Store.Seed,a.1.Store.Counter,a.1.Log,a.1.Key,a.1.Epoch,a.1.Version,a.1.aAD.Entries)) λb=>some (AD.mk (AK.mk b.1 b.2.1 b.2.2.1 b.2.2.2.1) b.2.2.2.2.1 b.2.2.2.2.2.1 b.2.2.2.2.2.2.1 b.2.2.2.2.2.2.2.1 (AB.mk b.2.2.2.2.2.2.2.2)))=_;rw[e,bd_s,bd_s]
def bPg {w:AA}{d:Int}(a:aQ w=true)(hd:aL w d=true):bA w.Stolen d=some (eT w d):=by
 have hl:w.Stolen.length=w.Devices.length:=by simp only[aQ,ab,cH] at a;omega
 simp only[aL,ab,bq] at hd;rw[qH hd.1 (by omega)];simp[eT,List.getD,ae (show d.toNat<w.Stolen.length by omega)]
def bIl {p r:List AC}{s:AC}:bA (p++s::r) ((p.length:Nat):Int)=some s:=by rw[aN (by simp)];simp
def bDt {p r:List AC}{s y:AC}:(p++s::r).set (Int.toNat ((p.length:Nat):Int)) y=p++y::r:=by rw[bv];simp
def bPh {w:AA}{b:Int}(a:w.sz<=100000000)(h1:aQ w=true)(hs:((aM w b 0).2==0)=true):((aL (aM w b 0).1 b=true/\(aM w b 0).1.Sites.length=2)/\(aM w b 0).1.sz<=300000000)/\(aM w b 0).1.aAC.Log.length<=100000000:=by
 obtain⟨⟨k1,k2⟩,k3,k4,k5⟩:=mR hs;have c:w.aAC.Log.length<=w.sz:=by simp only[AA.sz,AM.sz];omega
 refine⟨⟨⟨by simp only[aL] at*;rw[k4];exact k2,?_⟩,by omega⟩,by rw[k3];omega⟩;have e:(aM w b 0).1.Sites=w.Sites:=by unfold aM;cases(aQ w&&aL w b)<;>rfl
 rw[e];simp only[aQ,ab,cH] at h1;omega
def bK8 {L:List AX}(a:30<L.length)(b:L.length<=34359738301):gd (lV L ((Ae L:Nat):Int)) (gd (lV L (IntKind.i64.wrap (((Ae L:Nat):Int)+1))) (gd (aV [] (List.take (Int.toNat ((Ae L:Nat):Int)) L)) (gd (aV ([]++List.take (Int.toNat ((Ae L:Nat):Int)) L) (List.drop (Int.toNat (IntKind.i64.wrap (((Ae L:Nat):Int)+1))) L)) (some ([]++List.take (Int.toNat ((Ae L:Nat):Int)) L++List.drop (Int.toNat (IntKind.i64.wrap (((Ae L:Nat):Int)+1))) L)))))=some (Oe L):=by
 have hs:=bNw (l:=L) (by omega);have e:IntKind.i64.wrap (((Ae L:Nat):Int)+1)=((Ae L+1:Nat):Int):=by rw[aI (by omega) (by omega)];rfl
 rw[e,aB ⟨by omega,by omega⟩,aB ⟨by omega,by omega⟩,aB (by unfold aV;simp;omega),aB (by unfold aV;simp;omega),bv,bv];unfold Oe;rw[ak (show(L.length:Int)>30 by omega)];rfl
def bR8 (l:List AX)(x:AX)(h:l.length<=34359738300):(AS.mk (Oe (l++[x]))).sz<=34359738368:=by have:=aX2 (l++[x]);simp only[aw,cr] at this;simp only[AS.sz];omega
def bPi {L:List AX}(h:¬30<L.length):Oe L=L:=by unfold Oe;rw[ao (show ¬(L.length:Int)>30 by omega)];rfl
def aD9 (m:AS)(k a t:Int)(d:m.sz<=34359738300):Es m k a t=some (Dw m k a t):=by
 have h1:m.sz<=34359738368:=by omega
 have hm:m.Notices.length<=34359738300:=d;have j:(m.Notices++[(⟨k,a,t,false⟩:AX)]).length=m.Notices.length+1:=by simp
 have hn:=bR8 m.Notices ⟨k,a,t,false⟩ hm;unfold Es Dw;rw[aB (by unfold aV;simp;omega),bp,gF (show m.Notices.length<=34359738368 by omega)];simp only[aB h1,bd_s];generalize hg:m.Notices++[(⟨k,a,t,false⟩:AX)]=L at*;by_cases c:30<L.length
 ·have e:=aX9 (l:=L) (F:=λrec (b:Int×Int)=>bif (decide (b.2>=(0:Int))) then(bd (bd (bA L (b.2)) λf=>bif (f.Seen) then(some (b.2)) else(some (b.1))) λh=>rec ((h,IntKind.i64.wrap (b.2-(1:Int))))) else(some (b.1))) (λrec q i hi=>by
   simp only[ak (show((i:Int)>=0) by omega),ac,aN hi,bd_s,lQ,aI (show(-9223372036854775808:Int)<=(i:Int)-1 by omega) (show(i:Int)-1<=9223372036854775807 by omega)]) (λrec q=>rfl) L.length FUEL 0 (ai _) (by have:=gY;omega)
  rw[di] at e;rw[ak (show(L.length:Int)>30 by omega),ac,aI (by omega) (by omega),e,<-bNv,bd_s,bK8 c (by omega),bd_s,aB hn,bd_s];cases gG m<;>cases gG ⟨Oe L⟩<;>rfl
 ·rw[ao (show ¬(L.length:Int)>30 by omega),aa,bd_s];rw[bPi c] at hn ⊢;rw[aB hn,bd_s];cases gG m<;>cases gG ⟨L⟩<;>rfl
def bDu {τ:Type}{x:τ}{st:AK}{n:Int}{N:Nat}{F:(Nat×List AC->Option (τ⊕List AC))->Nat×List AC->Option (τ⊕List AC)}
  (a:∀rec (p:List AC) (s:AC) (r:List AC),p.length+r.length+1=N->s.sz<=34359738300->F rec (p.length,p++s::r)=bif !(gD s 1 n (fD st (aA (p.length:Int)) n)).2 then some (.inl x) else rec (p.length+1,p++(gD s 1 n (fD st (aA (p.length:Int)) n)).1::r)) (b:∀rec S,F rec (N,S)=some (.inr S)):
  ∀(r p:List AC) (m:Nat),p.length+r.length=N->r.length<m->(∀s∈r,s.sz<=34359738300)->EV.bU m F (p.length,p++r)=some (bif (gK st n p.length r).2 then .inr (p++(gK st n p.length r).1) else .inl x)
 |[],p,m+1,h,_,_=>by
  simp only[bm,eg] at h;rw[jA,h,b];simp[gK]
 |s::r,p,m+1,h,hm,hs=>by
  simp only[au] at h hm;rw[jA,a _ p s r (by omega) (hs s (by simp)),gK];cases hr:(gD s 1 n (fD st (aA (p.length:Int)) n)).2 with
  |false=>rfl
  |true=>have:=bDu a b r (p++[(gD s 1 n (fD st (aA (p.length:Int)) n)).1]) m (by simp;omega) (by omega) (λy c=>hs y (by simp[c]));simp only[aw,cr,cl,cI,bp] at this;rw[ay,aa,this];cases(gK st n (p.length+1) r).2<;>rfl
def bK9 {τ:Type}{x:τ}{st:AK}{n:Int}{N:Nat}{l:List AC}(d:l.length=N)(a:N<=100)(hs:∀s∈l,s.sz<=34359738300){F:(Nat×List AC->Option (τ⊕List AC))->Nat×List AC->Option (τ⊕List AC)}
  (b:∀rec (p:List AC) (s:AC) (r:List AC),p.length+r.length+1=N->s.sz<=34359738300->F rec (p.length,p++s::r)=bif !(gD s 1 n (fD st (aA (p.length:Int)) n)).2 then some (.inl x) else rec (p.length+1,p++(gD s 1 n (fD st (aA (p.length:Int)) n)).1::r)) (c:∀rec S,F rec (N,S)=some (.inr S)):EV.bU FUEL F (0,l)=some (bif (gK st n 0 l).2 then .inr (gK st n 0 l).1 else .inl x):=by
 have:=bDu b c l [] FUEL (by simp;omega) (by have:=gY;omega) hs;simpa using this
def Gf (w:AA)(b:Int):AA×Bool:=bif (add1 w b).2&&((aHh w b).2&&((rV w b).2&&(Af w b).2==0)) then(qD (Af w b).1 2,true) else(w,false)
def bLa {w:AA}{b:Int}(h1:aQ w=true)(h2:aL w b=true)(a:eT w b=false)(c:decide ((w.Devices.length:Int)>=6)=false)(d:((aM w b 0).2==0)=true):fK w b=Gf w b:=by unfold fK Ie Gf;rw[h1,h2,a,c,d];rfl
def Y8 {w:AA}{b:Int}(h:(add1 w b).2=false):Gf w b=(w,false):=by unfold Gf;rw[h];rfl
def Vu {w:AA}{b:Int}(h:(aHh w b).2=false\/(rV w b).2=false\/((Af w b).2==0)=false):Gf w b=(w,false):=by unfold Gf;rcases h with h|h|h<;>rw[h]<;>simp
def bDv {w:AA}{b:Int}(h1:(add1 w b).2=true)(h2:(aHh w b).2=true)(a:(rV w b).2=true)(c:((Af w b).2==0)=true):Gf w b=(qD (Af w b).1 2,true):=by unfold Gf;rw[h1,h2,a,c];rfl
def bR9 {w:AA}{b:Int}(f:w.sz<=100000000)(h0:((aM w b 0).2==0)=true)(a:(rV w b).2=true):(appW (rV w b).1 (bG (aO w.Seed (w.Devices.length:Int)))).sz<=34359738100/\((Af w b).2==0->(Af w b).1.Mail.sz<=34359738300):=by
 obtain⟨h,c⟩:=bRe h0 a;have i:(bG (aO w.Seed (w.Devices.length:Int))).sz=0:=rfl;refine⟨by rw[aCz];omega,λd=> ?_⟩;obtain⟨_,_,_,e⟩:=mR (w:=appW (rV w b).1 (bG (aO w.Seed (w.Devices.length:Int)))) d;rw[aCz] at e;have j:(appW (rV w b).1 (bG (aO w.Seed (w.Devices.length:Int)))).aAC.Log.length<=w.sz+1:=c;have k:(Af w b).1.sz<=34*w.sz+690:=by show(aM _ _ 0).1.sz<=_;omega
 have:(Af w b).1.Mail.sz<=(Af w b).1.sz:=by simp only[AS.sz,AA.sz];omega
 omega
def aI2 {w:AA}{b:Int}(h:(aQ w&&(aL w b&&(!eT w b&& !decide ((w.Devices.length:Int)>=6))))=false\/((aM w b 0).2==0)=false):fK w b=(w,false):=by
 unfold fK Ie;rcases h with h|h
 ·rw[h];rfl
 ·rw[h];simp
def bSa {w:AA}{d:Int}(h:(eX w d).2=false):(eX w d).1=w:=by
 unfold eX at*;cases hc:((aM w d 0).2==0&&(Tc (aM w d 0).1 d).2) with
 |true=>rw[hc] at h;cases h
 |false=>rfl
def r9 (w:AA)(b:Int)(k:w.sz<=100000000):yD w b=some (fK w b):=by
 have t:w.sz<=34359738368:=by omega
 unfold yD;simp only[bd_s,aB (show w.sz<=34359738100 by omega),aB t,bne];cases hs:((aM w b 0).2==0) with
 |false=>rw[aI2 (.inr hs)];rfl
 |true=>
 obtain⟨⟨h1,h2⟩,_⟩:=mR hs;rw[bPg h1 h2];cases u:eT w b with
 |true=>rw[aI2 (.inl (by rw[h1,h2,u];rfl))];rfl
 |false=>
 cases v:decide ((w.Devices.length:Int)>=6) with
 |true=>rw[aI2 (.inl (by rw[h1,h2,u,v];rfl))];rfl
 |false=>
 simp only[ay,aa,bd_s];rw[bLa h1 h2 u v hs];have O:w.Devices.length<6:=by have:=of_decide_eq_false v;omega
 obtain⟨⟨⟨y,Q⟩,J⟩,g4⟩:=bPh k h1 hs;have z:AK.mk (1:Int) (w.Devices.length:Int) (aY w.Seed [277,(w.Devices.length:Int)]) 0=aO w.Seed (w.Devices.length:Int):=rfl;simp only[z,lN y,bd_s,aB (show(aM w b 0).1.aAC.Log.length<=34359738300 by omega)];have A:=vL (aM w b 0).1.aAC.Log 1 (aT (aO w.Seed (w.Devices.length:Int))) (aG (aM w b 0).1 b).Store;obtain⟨l,hl⟩:∃l,l=eY (aM w b 0).1.aAC.Log 1 (aT (aO w.Seed (w.Devices.length:Int))) (aG (aM w b 0).1 b).Store:=⟨_,rfl⟩;obtain⟨e,he⟩:∃e,e=bJ l.1 (aG (aM w b 0).1 b).Key (IntKind.i64.wrap (1000+IntKind.i64.wrap (10*(l.1.length:Int)))):=⟨_,rfl⟩;obtain⟨c,j⟩:∃c,c=kK (aM w b 0).1.aAC l.1 e.1:=⟨_,rfl⟩;have m:add1 w b=bif l.2&&(e.2&&c.2) then({(aM w b 0).1 with aAC:=c.1},true) else((aM w b 0).1,false):=by rw[j,he,hl];rfl
 rw[<-hl] at A ⊢;have B:=Yq l.1 (aG (aM w b 0).1 b).Key (IntKind.i64.wrap (1000+IntKind.i64.wrap (10*(l.1.length:Int))));rw[aB (show l.1.length<=34359738300 by omega),bd_s];rw[<-he] at B ⊢;have R:=Vr (aM w b 0).1;rw[aB (show(aM w b 0).1.aAC.sz<=34359738368/\l.1.length<=34359738368/\e.1.sz<=34359738368 from⟨by omega,by omega,by omega⟩),bd_s,<-j];cases o:l.2 with
 |false=>rw[Y8 (by rw[m,o];rfl)];rfl
 |true=>
 cases D:e.2 with
 |false=>rw[Y8 (by rw[m,o,D];rfl)];rfl
 |true=>
 cases K:c.2 with
 |false=>rw[Y8 (by rw[m,o,D,K];rfl)];rfl
 |true=>
 have f:add1 w b=({(aM w b 0).1 with aAC:=c.1},true):=by rw[m,o,D,K];rfl
 have F:aHh w b=gK (aO w.Seed (w.Devices.length:Int)) (w.Devices.length:Int) 0 (aM w b 0).1.Sites:=by unfold aHh;rw[f]
 have G:∀s∈(aM w b 0).1.Sites,s.sz<=34359738300:=λs hs=>by
  have h1:=aHc (g:=AC.sz) hs;simp only[AA.sz] at J;omega
 simp only[ay,aa,bd_s];rw[bK9 (x:=((w,false):AA×Bool)) (st:=aO w.Seed (w.Devices.length:Int)) (n:=(w.Devices.length:Int)) (l:=(aM w b 0).1.Sites) (N:=2) Q (by omega) G (λrec p s r hp k=>by
  simp only[ak (show((p.length:Nat):Int)<2 by omega),ac,bIl,bd_s,aB (aI1 (p.length:Int)),aB k,bDt]) (λrec S=>rfl)]
 cases L:(gK (aO w.Seed (w.Devices.length:Int)) (w.Devices.length:Int) 0 (aM w b 0).1.Sites).2 with
 |false=>rw[Vu (.inl (by rw[F,L]))];rfl
 |true=>
 obtain⟨k1,k2,k3,k4⟩:=aIu y;have hg:=y;simp only[aL,ab,bq] at hg;have T:AA.mk (aM w b 0).1.Now (aM w b 0).1.Seed ((aM w b 0).1.Devices.set b.toNat (kL (aG (aM w b 0).1 b) (w.Devices.length:Int) false)) (aM w b 0).1.Stolen c.1 (gK (aO w.Seed (w.Devices.length:Int)) (w.Devices.length:Int) 0 (aM w b 0).1.Sites).1 (aM w b 0).1.aAO (aM w b 0).1.Hosts (aM w b 0).1.Pin (aM w b 0).1.Mail=aAU w b:=by unfold aAU;rw[F,f];rfl
 obtain⟨⟨V,z2⟩,z3,z4⟩:=bCo hs;have W:(aM w b 0).1.sz<=34359738368:=by omega
 have M:(aM w b 0).1.Devices.length<=34359738368/\(aM w b 0).1.Stolen.length<=34359738368:=by clear J;simp only[AA.sz] at W;omega
 simp only[ac,nx_r,aB (show(aG (aM w b 0).1 b).sz<=34359738300 by omega),bd_s,gF (show((aM w b 0).1.Devices.set b.toNat (kL (aG (aM w b 0).1 b) (w.Devices.length:Int) false)).length<=34359738368 by rw[ax];exact M.1),gF M.2];show(bd (gd ((appW (AA.mk (aM w b 0).1.Now (aM w b 0).1.Seed ((aM w b 0).1.Devices.set b.toNat (kL (aG (aM w b 0).1 b) (w.Devices.length:Int) false)) (aM w b 0).1.Stolen c.1 (gK (aO w.Seed (w.Devices.length:Int)) (w.Devices.length:Int) 0 (aM w b 0).1.Sites).1 (aM w b 0).1.aAO (aM w b 0).1.Hosts (aM w b 0).1.Pin (aM w b 0).1.Mail) (bG (aO w.Seed (w.Devices.length:Int)))).sz<=10000000000) (some (eX (appW (AA.mk (aM w b 0).1.Now (aM w b 0).1.Seed ((aM w b 0).1.Devices.set b.toNat (kL (aG (aM w b 0).1 b) (w.Devices.length:Int) false)) (aM w b 0).1.Stolen c.1 (gK (aO w.Seed (w.Devices.length:Int)) (w.Devices.length:Int) 0 (aM w b 0).1.Sites).1 (aM w b 0).1.aAO (aM w b 0).1.Hosts (aM w b 0).1.Pin (aM w b 0).1.Mail) (bG (aO w.Seed (w.Devices.length:Int)))) b))) λh=>bd (gd (h.1.sz<=34359738100) (some (aM h.1 (w.Devices.length:Int) 0))) λa=>bd (bif !h.2 then some true else some !(a.2==0)) λH=>bif H then some (w,false) else bd (gd (a.1.Mail.sz<=34359738300) (some (Dw a.1.Mail 2 1 a.1.Now))) λI=>some (AA.mk a.1.Now a.1.Seed a.1.Devices a.1.Stolen a.1.aAC a.1.Sites a.1.aAO a.1.Hosts a.1.Pin I.1,true))=_;have nz:(bG (aO w.Seed (w.Devices.length:Int))).sz=0:=rfl;rw[T,aB (show(appW (aAU w b) (bG (aO w.Seed (w.Devices.length:Int)))).sz<=10000000000 by rw[aCz];omega),bd_s,bNu _ V (by omega),show eX (aAU w b) b=rV w b from rfl];cases q:(rV w b).2 with
 |false=>have hp:(rV w b).1=aAU w b:=bSa (w:=aAU w b) (d:=b) q;rw[Vu (.inr (.inl q)),aB (show(appW (rV w b).1 (bG (aO w.Seed (w.Devices.length:Int)))).sz<=34359738100 by rw[hp,aCz];omega)];rfl
 |true=>
 obtain⟨X,Z⟩:=bR9 k hs q;rw[aB X,bd_s,show aM (appW (rV w b).1 (bG (aO w.Seed (w.Devices.length:Int)))) (w.Devices.length:Int) 0=Af w b from rfl];cases i:((Af w b).2==0) with
 |false=>rw[Vu (.inr (.inr i))];rfl
 |true=>rw[bDv (by rw[f]) (by rw[F,L]) q i,ay,aa,bd_s,aa,aB (Z i),bd_s];rfl
def aMx (s e:Int):Oo s e=some (bY s e):=by unfold Oo;rw[aB (by simp)];rfl
def aEa (d:AD)(l:List AF)(k:Int)(h:d.sz<=34359738368/\l.length<=34359738368):Eh d l k=some (mU d l k):=by unfold Eh mU;simp only[aB h.1,aB h.2,bd_s];cases aZ l<;>cases dG l d.Log<;>cases decide (aC l<d.Epoch)<;>cases bL k<;>rfl
def Qj (s:AI)(i:Int)(h:s.Credentials.length<=34359738368):uL s i=some (aS s i):=by unfold uL;exact aCp (l:=s.Credentials) (λa=>a.Handle==i) (by omega) (λrec j b=>by simp only[dF b,ac,aN b,bd_s]) (λrec=>by simp only[dL,aa])
def bSb {a:AI}{h:Int}(hk:decide (aS a h<0)=false):bA a.Credentials (aS a h)=some (gH a (aS a h)):=by have hr:=oI (p:=λc:AV=>c.Handle==h) (i:=0) (l:=a.Credentials) hk;exact sF (by unfold aS;omega) (by unfold aS;omega)
def Vv (a:AI)(h:Int)(b:a.sz<=34359738368):wZ a h=some (nE a h):=by
 have hl:a.Credentials.length<=34359738368:=b;unfold wZ nE;simp only[aB b,aB hl,bd_s];cases bB a with
 |false=>rfl
 |true=>
  cases hk:decide (aS a h<0) with
  |true=>rfl
  |false=>simp only[ay,aa,bSb hk,bd_s];cases(gH a (aS a h)).Cut<;>rfl
def bSc {s:AC}(a:s.sz<=34359738300)(h:decide (aF s 1>=0)=true):bA s.Accounts (aF s 1)=some (fU s (aF s 1))/\(fU s (aF s 1)).sz<=34359738368:=by
 have h0:decide (aF s 1<0)=false:=by rw[decide_eq_true_iff] at h;exact ao (by omega)
 obtain⟨b,c,_⟩:=bNy a h0;exact⟨b,by unfold fU;omega⟩
def bDw {h:Int}{N:Nat}{F:(Nat×List AC->Option (List AC))->Nat×List AC->Option (List AC)}
  (a:∀rec (p:List AC) (s:AC) (r:List AC),p.length+r.length+1=N->s.sz<=34359738300->F rec (p.length,p++s::r)=rec (p.length+1,p++gZ h s::r)) (b:∀rec S,F rec (N,S)=some S):
  ∀(r p:List AC) (m:Nat),p.length+r.length=N->r.length<m->(∀s∈r,s.sz<=34359738300)->EV.bU m F (p.length,p++r)=some (p++r.map (gZ h))
 |[],p,m+1,hl,_,_=>by
  simp only[bm,eg] at hl;rw[jA,hl,b];simp
 |s::r,p,m+1,hl,hm,hs=>by
  simp only[au] at hl hm;have:=bDw a b r (p++[gZ h s]) m (by simp;omega) (by omega) (λy c=>hs y (by simp[c]));simp only[aw,cr,cl,cI,bp] at this;rw[jA,a _ p s r (by omega) (hs s (by simp)),this];simp
def bLb {h:Int}{N:Nat}{l:List AC}(d:l.length=N)(a:N<=100)(hs:∀s∈l,s.sz<=34359738300){F:(Nat×List AC->Option (List AC))->Nat×List AC->Option (List AC)}
  (b:∀rec (p:List AC) (s:AC) (r:List AC),p.length+r.length+1=N->s.sz<=34359738300->F rec (p.length,p++s::r)=rec (p.length+1,p++gZ h s::r)) (c:∀rec S,F rec (N,S)=some S):EV.bU FUEL F (0,l)=some (l.map (gZ h)):=by
 have:=bDw b c l [] FUEL (by simp;omega) (by have:=gY;omega) hs;simpa using this
def Ze {w:AA}{b t:Int}(h:((aM w b 0).2==0&&(!eT w b&&(!(b==t)&&bC w t)))=false):fH w b t=(w,false):=by unfold fH;rw[h];rfl
def bF8 {w:AA}{b t:Int}(h:((aM w b 0).2==0&&(!eT w b&&(!(b==t)&&bC w t)))=true):fH w b t=oZ w b t:=by unfold fH;rw[h];rfl
def Nq {w:AA}{b t:Int}(h:(nG w b t).2=false\/(Mt w b t).2=false\/(Mv w b t).2=false):oZ w b t=(w,false):=by unfold oZ;rcases h with h|h|h<;>rw[h]<;>simp
def bVm {w:AA}{b:Int}(c:w.sz<=100000000)(h1:aQ w=true)(hs:((aM w b 0).2==0)=true):(aL (aM w b 0).1 b=true/\(aM w b 0).1.Sites.length=2)/\(aM w b 0).1.sz<=300000000/\(aM w b 0).1.aAC.Log.length<=100000000/\∀s∈(aM w b 0).1.Sites,s.sz<=34359738300:=by obtain⟨⟨d,a⟩,e⟩:=bPh c h1 hs;exact⟨d,a,e,λs hs=>by have h1:=aHc (g:=AC.sz) hs;simp only[AA.sz] at a;omega⟩
def bSd {w:AA}{b t:Int}(r:w.sz<=100000000)(hs:((aM w b 0).2==0)=true){o:AA}(ho:o=(aM w b 0).1){c:AM}(h1:nG w b t=({o with aAC:=c},true)){x:AD}(h2:Mt w b t=(x,true)):
  (x.sz<=34359738300/\(kL x t true).sz<=34359738368/\c.sz<=34359738300/\(cK (kL x t true)).2.1.sz<=34359738300/\o.Mail.sz<=34359738300)/\
  oZ w b t=bif (cK (kL x t true)).2.2&&(cB c (cK (kL x t true)).2.1).2 then(AA.mk o.Now o.Seed (o.Devices.set b.toNat (cK (kL x t true)).1) o.Stolen (cB c (cK (kL x t true)).2.1).1 (o.Sites.map (gZ t)) o.aAO o.Hosts o.Pin (Dw o.Mail 4 1 o.Now).1,true) else(w,false):=by
 obtain⟨⟨f,s,u,v⟩,y,⟨b1,z⟩,h,A⟩:=bJ6 (t:=t) hs;have hd:=f;simp only[aL,ab,bq] at hd;have hi:b.toNat<(jD w b).Devices.length:=by omega
 have a:o=jD w b:=ho;have j:(mU (aG (jD w b) b) (R6 w b t) (mV (aG (jD w b) b).Store (R6 w b t))).1=x:=by have:=congrArg Prod.fst h2;exact this
 have k:(aG (jD w b) b).sz<=(jD w b).sz:=(aIu f).2.2.1;have l:x.sz<=3*w.sz+21:=by have:=aQc (aG (jD w b) b) (R6 w b t) (mV (aG (jD w b) b).Store (R6 w b t));rw[j] at this;omega
 have m:=aOg x t true;have n:=zN (kL x t true);have i:Zm w b t=AA.mk o.Now o.Seed (o.Devices.set b.toNat (kL x t true)) o.Stolen c (o.Sites.map (gZ t)) o.aAO o.Hosts o.Pin o.Mail:=by unfold Zm;rw[h1,h2]
 have d:aG (Zm w b t) b=kL x t true:=by rw[i,a];simp only[aG,List.getD,bg hi,ci]
 have e:c.sz<=({o with aAC:=c}:AA).sz:=by simp only[AA.sz,AM.sz];omega
 have p:c.sz<=16*w.sz+34:=by rw[h1] at h;exact ca e h
 have q:o.Mail.sz<=2*w.sz+20:=by
  rw[a];have:(jD w b).Mail.sz<=(jD w b).sz:=by simp only[AS.sz,AA.sz];omega
  omega
 refine⟨⟨by omega,by omega,by omega,by simp only[AJ.sz];omega,by omega⟩,?_⟩;unfold oZ;rw[show Mv w b t=Tc (Zm w b t) b from rfl,h1,h2];unfold Tc;rw[d,i];simp only[cw];cases(cK (kL x t true)).2.2&&(cB c (cK (kL x t true)).2.1).2 with
 |false=>rfl
 |true=>simp only[ac,qD,gj]
def bLc {h:Int}{p r:List AC}{s:AC}(a:s.sz<=34359738300):s.Accounts.length<=34359738368:=by simp only[AC.sz] at a;omega
def aI3 (w:AA)(b t:Int)(v:w.sz<=100000000):Jg w b t=some (fH w b t):=by
 have a:w.sz<=34359738368:=by omega
 unfold Jg;simp only[bd_s,aB (show w.sz<=34359738100 by omega),aB a,bne];cases hs:((aM w b 0).2==0) with
 |false=>rw[Ze (by rw[hs];rfl)];rfl
 |true=>
 obtain⟨⟨h1,h2⟩,_⟩:=mR hs;rw[bPg h1 h2];simp only[ay,aa,bd_s];cases i:eT w b with
 |true=>rw[Ze (by rw[hs,i];rfl)];rfl
 |false=>
 cases m:(b==t) with
 |true=>rw[Ze (by rw[hs,i,m];rfl)];rfl
 |false=>
 rw[aB (Dt.of' a)];cases d:bC w t with
 |false=>rw[Ze (by rw[hs,i,m,d];rfl)];rfl
 |true=>
 rw[bF8 (by rw[hs,i,m,d];rfl)];have ht:aL w t=true:=by unfold bC at d;rw[ab] at d;exact d.1
 obtain⟨⟨z,G⟩,T,V,H⟩:=bVm v h1 hs;simp only[ay,aa,bd_s,lN ht,lN z,aB (show(aM w b 0).1.aAC.Log.length<=34359738300 by omega)];have n:=vL (aM w b 0).1.aAC.Log 2 (aT (aG w t).Store) (aG (aM w b 0).1 b).Store;obtain⟨l,hl⟩:∃l,l=eY (aM w b 0).1.aAC.Log 2 (aT (aG w t).Store) (aG (aM w b 0).1 b).Store:=⟨_,rfl⟩;obtain⟨e,he⟩:∃e,e=bJ l.1 (mV (aG (aM w b 0).1 b).Store l.1) (IntKind.i64.wrap (1000+IntKind.i64.wrap (10*(l.1.length:Int)))):=⟨_,rfl⟩;obtain⟨c,f⟩:∃c,c=kK (aM w b 0).1.aAC l.1 e.1:=⟨_,rfl⟩;have j:nG w b t=bif l.2&&(e.2&&c.2) then({(aM w b 0).1 with aAC:=c.1},true) else((aM w b 0).1,false):=by rw[f,he,hl];rfl
 have AL:R6 w b t=l.1:=by rw[hl];rfl
 rw[<-hl] at n ⊢;have o:=Yq l.1 (mV (aG (aM w b 0).1 b).Store l.1) (IntKind.i64.wrap (1000+IntKind.i64.wrap (10*(l.1.length:Int))));have I:=Vr (aM w b 0).1;rw[aB (show([311]:List Int).length<=34359738300 by simp),bd_s,aB (show l.1.length<=34359738368 by omega),bd_s,bd_s,aB (show l.1.length<=34359738300 by omega),bd_s];rw[show bY (aY (aG (aM w b 0).1 b).Store.Seed [311]) (aC l.1)=mV (aG (aM w b 0).1 b).Store l.1 from rfl];rw[<-he] at o ⊢;rw[aB (show(aM w b 0).1.aAC.sz<=34359738368/\l.1.length<=34359738368/\e.1.sz<=34359738368 from⟨by omega,by omega,by omega⟩),bd_s,<-f];cases k:l.2 with
 |false=>rw[Nq (.inl (by rw[j,k];rfl))];rfl
 |true=>
 cases q:e.2 with
 |false=>rw[Nq (.inl (by rw[j,k,q];rfl))];rfl
 |true=>
 cases A:c.2 with
 |false=>rw[Nq (.inl (by rw[j,k,q,A];rfl))];rfl
 |true=>
 have u:nG w b t=({(aM w b 0).1 with aAC:=c.1},true):=by rw[j,k,q,A];rfl
 obtain⟨k1,k2,k3,k4⟩:=aIu z;obtain⟨x,B⟩:∃x,x=mU (aG (aM w b 0).1 b) l.1 (mV (aG (aM w b 0).1 b).Store l.1):=⟨_,rfl⟩;have D:Mt w b t=x:=by rw[B,<-AL];rfl
 simp only[ay,aa,bd_s,aB (show(aG (aM w b 0).1 b).sz<=34359738368/\l.1.length<=34359738368 from⟨by omega,by omega⟩)];rw[<-B];cases F:x.2 with
 |false=>rw[Nq (.inr (.inl (by rw[D,F])))];rfl
 |true=>
 obtain⟨⟨J,K,L,M,O⟩,AE⟩:=bSd v hs rfl u (x:=x.1) (by rw[D,<-F]);have q1:∀y:AD,bA ((aM w b 0).1.Devices.set b.toNat y) b=some y:=λy=>by rw[qH k1 (by rw[ax];exact k2)];simp
 rw[ay,aa,bLb (h:=t) (l:=(aM w b 0).1.Sites) (N:=2) G (by omega) H (λrec p s r hp hzs=>by
  simp only[ak (show((p.length:Nat):Int)<2 by omega),ac,bIl,bd_s,aB (bLc (h:=t) (p:=p) (r:=r) hzs)];cases hc:decide (aF s 1>=0) with
  |false=>simp only[aa,bd_s,gZ,hc]
  |true=>
   obtain⟨Q,R⟩:=bSc hzs hc;simp only[ac,Q,bd_s,aB R,bDt,gZ,hc]) (λrec S=>rfl)]
 simp only[bd_s,q1,aB J,aB K,aB O,gj,aB (show c.1.sz<=34359738300/\(cK (kL x.1 t true)).2.1.sz<=34359738300 from⟨L,M⟩)];rw[AE];cases(cK (kL x.1 t true)).2.2<;>cases(cB c.1 (cK (kL x.1 t true)).2.1).2<;>rfl
def Qk (b:AP)(i:Int):uK b i=some (fJ b i):=by unfold uK;rw[aB (by simp)];rfl
def w9 (s:AK):yB s=some (lG s):=by unfold yB lG;cases bK s.Vendor 1 9<;>cases bK s.Serial 0 1000000<;>cases bL s.Seed<;>rfl
def Kk (a:AY)(h:a.Site.size<=34359738300/\a.aAK.size<=34359738300):rO a=some (bT a):=by unfold rO bT;rw[aB h.1,aB h.2];cases a.Present<;>rfl
def Vw (b:AP)(i:Int)(h:b.Open.length<=34359738368):wW b i=some (dS b i):=by unfold wW;exact aCp (l:=b.Open) (λc=>c.Id==i) (by omega) (λrec j a=>by simp only[dF a,ac,aN a,bd_s]) (λrec=>by simp only[dL,aa])
def Ql (b:AP)(i n:Int)(h:b.sz<=34359738368):uJ b i n=some (eH b i n):=by
 have hl:b.Open.length<=b.sz:=by simp only[AP.sz];omega
 have a:∀(x y:List A0),x.length+y.length<=34359738400->aV x y:=λx y h=>by unfold aV;omega
 unfold uJ eH;rw[aB h,bd_s,aB h,bd_s];cases eQ b with
 |false=>rfl
 |true=>
  cases b.Next==1000000 with
  |true=>rfl
  |false=>
   cases bK i 0 1000000 with
   |false=>rfl
   |true=>
    cases bK n 0 1000000 with
    |false=>rfl
    |true=>
     simp only[ay,cY,du,aa,ac,bd_s];cases hd:decide ((b.Open.length:Int)>=16) with
     |false=>rw[aa,aB (a _ _ (by simp only[au,bm];omega))];rfl
     |true=>have c:=of_decide_eq_true hd;rw[ac,aB (show lV b.Open 1 from⟨by omega,by omega⟩),aB (a _ _ (by simp only[cy,au,bm];omega))];rfl
def Vx (b:AP)(id acc now:Int)(h:b.sz<=34359738368):wX b id acc now=some (qE b id acc now):=by
 have hl:b.Open.length<=b.sz:=by simp only[AP.sz];omega
 have c:∀(x y:List A0),x.length+y.length<=34359738400->aV x y:=λx y h=>by unfold aV;omega
 unfold wX qE;rw[aB (show b.Open.length<=34359738368 by omega),bd_s,aB h,bd_s];cases eQ b with
 |false=>simp only[cY,ac,bd_s,jp];rw[aB h];rfl
 |true=>
  simp only[ay,aa,bd_s,cx];cases d:decide (dS b id<0) with
  |true=>rw[ac,ac,aB h];rfl
  |false=>
   obtain⟨h0,h1⟩:=oI (i:=0) d;have h0:0<=dS b id:=h0;have h1:dS b id<(b.Open.length:Int):=by have:dS b id<0+(b.Open.length:Int):=h1;omega
   have hk:IntKind.i64.wrap (dS b id+1)=(((dS b id).toNat+1:Nat):Int):=by rw[aI (by omega) (by omega)];omega
   have a:bA b.Open (dS b id)=some (aHj b (dS b id)):=sF h0 h1;rw[aa,aa,hk,a,aB (show lV b.Open (dS b id) from⟨by omega,by omega⟩),aB (show lV b.Open (((dS b id).toNat+1:Nat):Int) from⟨by omega,by omega⟩),
    aB (c _ _ (by simp only[bm,bw];omega)),aB (c _ _ (by simp only[bp,bw,cy];omega)),bd_s,bd_s,bv]
   cases(aHj b (dS b id)).aAH==acc<;>rfl
def Vy (s:AK)(z:ByteArray)(i:Int)(l:List Int)(h:z.size<=34359738300/\l.length<=34359738200):wU s z i l=some (gN s z i l):=by
 have a:∀(x y:List Int),x.length+y.length<=34359738400->aV x y:=λx y h=>by unfold aV;omega
 unfold wU gN;cases lG s with
 |false=>rfl
 |true=>
  simp only[ay,aa,bd_s,cw];cases s.Counter==1000000 with
  |true=>rfl
  |false=>simp only[aB h.1,bd_s,aa,cY,ac];rw[aB (a _ _ (by simp only[bm];omega)),aB (a _ _ (by simp only[bp,au,bm];omega)),aB (by simp only[bp,aw,au,bm];omega)];rfl
def aEb (s:AC)(id now:Int)(h:s.sz<=34359738368):Er s id now=some (lY s id now):=by
 have hb:s.Book.sz<=34359738368:=by simp only[AC.sz,AP.sz] at h ⊢;omega
 have hl:s.Accounts.length<=34359738368:=by simp only[AC.sz] at h;omega
 unfold Er lY;rw[aB h,bd_s,aB hb,bd_s,aB h,bd_s];cases dK s with
 |false=>rfl
 |true=>
  simp only[ay,aa,cw];rw[aB hl,bd_s];cases decide (aF s id<0) with
  |true=>rfl
  |false=>cases(eH s.Book id now).2.2<;>rfl
def x8 (a:AI)(m:Int)(h:a.sz<=34359738368):yC a m=some (sM a m):=by
 have hl:a.Credentials.length<=34359738368:=by simp only[AI.sz] at h;omega
 unfold yC sM;rw[aB h,bd_s,jT (l:=a.Credentials) (λc=> !c.Cut) (.inl true) (.inr ()) (by omega) (λrec i hi=>by simp only[dF hi,ac,aN hi,bd_s]) (λrec=>by simp only[dL,aa])];cases bB a with
 |false=>rfl
 |true=>
  simp only[ay,aa,bd_s,cw];rw[show bK m a.Minimum 3=(decide (a.Minimum<=m)&&decide (m<=3)) from rfl];cases decide (a.Minimum<=m)<;>cases decide (m<=3)<;>try rfl
  cases hm:m==3<;>cases a.Credentials.any λc=> !c.Cut<;>simp[hm,nx,bne]
def aMy (o:AQ)(h:o.Host.size<=34359738368):Ph o=some (rG o):=by unfold Ph rG;rw[aB h,bd_s];cases iK o.Host<;>rfl
def x9 (o:AQ)(h:nH o):Zq o=some (qF o):=by obtain⟨k,hk,rfl⟩:=h;rcases(show k=0\/k=1\/k=2\/k=3\/k=4\/k=5 by omega) with rfl|rfl|rfl|rfl|rfl|rfl<;>kernel_rfl
def aVe (o:AQ)(z:ByteArray)(h:Og o z):aUy o z=some (mW o z):=by obtain⟨⟨k,hk,rfl⟩,j,a,rfl⟩:=h;rcases a with rfl|rfl<;>rcases(show k=0\/k=1\/k=2\/k=3\/k=4\/k=5 by omega) with rfl|rfl|rfl|rfl|rfl|rfl<;>kernel_rfl
def fE {α β:Type}{x:Option α}{f:α->Option β}{a:α}{r:Option β}(h:x=some a)(h2:f a=r):bd x f=r:=by rw[h];exact h2
def aYx {α β:Type}{x:Option (α⊕β)}{f:β->Option α}{b:β}{r:Option α}(h:x=some (.inr b))(h2:f b=r):nx x f=r:=by rw[h];exact h2
def aI4 {τ:Type}(n:Nat){F:(Nat->Option τ)->Nat->Option τ}{b:τ}(hn:n<=18446744073709551616)(a:∀rec i,i<n->F rec i=rec (i+1))(c:∀rec,F rec n=some b):bU FUEL F 0=some b:=by have:=jT (l:=List.replicate n ()) (λ_=>false) b b (by simpa using hn) (F:=F) (λrec i hi=>by rw[a rec i (by simpa using hi)];rfl) (λrec=>by simpa using c rec);rw[this];cases(List.replicate n ()).any λ_=>false<;>rfl
def bW6 {p:Nat->Prop}(h:p 0/\p 1/\p 2/\p 3/\p 4/\p 5/\p 6/\p 7/\p 8/\p 9/\p 10/\p 11):∀i,i<12->p i:=λi hi=>by
 match i,hi with
 |0,_=>exact h.1
 |1,_=>exact h.2.1
 |2,_=>exact h.2.2.1
 |3,_=>exact h.2.2.2.1
 |4,_=>exact h.2.2.2.2.1
 |5,_=>exact h.2.2.2.2.2.1
 |6,_=>exact h.2.2.2.2.2.2.1
 |7,_=>exact h.2.2.2.2.2.2.2.1
 |8,_=>exact h.2.2.2.2.2.2.2.2.1
 |9,_=>exact h.2.2.2.2.2.2.2.2.2.1
 |10,_=>exact h.2.2.2.2.2.2.2.2.2.2.1
 |11,_=>exact h.2.2.2.2.2.2.2.2.2.2.2
 |n+12,h=>omega
def lt8 {p:Nat->Prop}(h:p 0/\p 1/\p 2/\p 3/\p 4/\p 5/\p 6/\p 7):∀i,i<8->p i:=λi hi=>by
 match i,hi with
 |0,_=>exact h.1
 |1,_=>exact h.2.1
 |2,_=>exact h.2.2.1
 |3,_=>exact h.2.2.2.1
 |4,_=>exact h.2.2.2.2.1
 |5,_=>exact h.2.2.2.2.2.1
 |6,_=>exact h.2.2.2.2.2.2.1
 |7,_=>exact h.2.2.2.2.2.2.2
 |n+8,h=>omega
def Zg (k:Nat)(h:nH (uB k))(a:rG (uB k)=true)(he:(qF (uB k)).toList=(Tf k).toList):
  (bd (bif (!rG (uB k)) then(some (true)) else(bd (gd (nH (uB k)) (some (qF (uB k)))) λb=>some (!b.toList==(Tf k).toList))) λc=>bif c then(some ((AQ.mk false (ByteArray.mk #[]) (0:Int),false))) else(some (uB k,true)))=some (uB k,true):=by
 rw[a,aB h,bd_s,he];simp[bd]
def Y9 (z:ByteArray)(h:bJ7 z):qU z=some (zO z):=by
 obtain rfl|⟨k,hk,rfl⟩:=h
 ·unfold qU;refine fE (a:=(⟨#[]⟩,false,⟨#[]⟩,0)) (by kernel_rfl) ?_;refine aYx (b:=(⟨#[]⟩,(0:Int))) (aI4 0 (by omega) (λrec i hi=>by omega) (λrec=>by kernel_rfl)) ?_
  kernel_rfl
 ·unfold qU;rcases(show k=0\/k=1\/k=2\/k=3 by omega) with rfl|rfl|rfl|rfl
  ·refine fE (a:=((uB 0).Host,true,⟨#[]⟩,443)) (by kernel_rfl) ?_;refine aYx (b:=((uB 0).Host,(443:Int))) (aI4 12 (by omega) (λrec=>bW6 (by refine⟨?_,?_,?_,?_,?_,?_,?_,?_,?_,?_,?_,?_⟩<;>kernel_rfl)) (λrec=>by kernel_rfl)) ?_;refine fE (a:=true) (by kernel_rfl) ?_;exact(Zg 0 ⟨0,by decide,rfl⟩ (by kernel_rfl) (by kernel_rfl)).trans (by kernel_rfl)
  ·refine fE (a:=((uB 1).Host,true,⟨#[]⟩,443)) (by kernel_rfl) ?_;refine aYx (b:=((uB 1).Host,(443:Int))) (aI4 12 (by omega) (λrec=>bW6 (by refine⟨?_,?_,?_,?_,?_,?_,?_,?_,?_,?_,?_,?_⟩<;>kernel_rfl)) (λrec=>by kernel_rfl)) ?_;refine fE (a:=true) (by kernel_rfl) ?_;exact(Zg 1 ⟨1,by decide,rfl⟩ (by kernel_rfl) (by kernel_rfl)).trans (by kernel_rfl)
  ·refine fE (a:=((uB 2).Host,true,⟨#[]⟩,443)) (by kernel_rfl) ?_;refine aYx (b:=((uB 2).Host,(443:Int))) (aI4 8 (by omega) (λrec=>lt8 (by refine⟨?_,?_,?_,?_,?_,?_,?_,?_⟩<;>kernel_rfl)) (λrec=>by kernel_rfl)) ?_;refine fE (a:=true) (by kernel_rfl) ?_;exact(Zg 2 ⟨2,by decide,rfl⟩ (by kernel_rfl) (by kernel_rfl)).trans (by kernel_rfl)
  ·refine fE (a:=((uB 3).Host,true,⟨#[]⟩,443)) (by kernel_rfl) ?_;refine aYx (b:=((uB 3).Host,(443:Int))) (aI4 8 (by omega) (λrec=>lt8 (by refine⟨?_,?_,?_,?_,?_,?_,?_,?_⟩<;>kernel_rfl)) (λrec=>by kernel_rfl)) ?_;refine fE (a:=true) (by kernel_rfl) ?_;exact(Zg 3 ⟨3,by decide,rfl⟩ (by kernel_rfl) (by kernel_rfl)).trans (by kernel_rfl)
def bPj {o:AQ}{z:ByteArray}(h:Og o z):nH o/\z.size<=34359738300/\(qF o).size<=34359738300:=by
 obtain⟨ho,j,a,rfl⟩:=h;refine⟨ho,?_,?_⟩
 ·rcases a with rfl|rfl<;>exact(show 8<=34359738300 by omega)
 ·obtain⟨k,hk,rfl⟩:=ho;have:(qF (uB k)).size<=40:=by rcases(show k=0\/k=1\/k=2\/k=3\/k=4\/k=5 by omega) with rfl|rfl|rfl|rfl|rfl|rfl<;>decide
  omega
def Vz (s:AK)(o:AQ)(z:ByteArray)(i c:Int)(b:Bool)(h:Og o z):wV s o z i c b=some (iO s o z i c b):=by
 obtain⟨h1,h2,d⟩:=bPj h;unfold wV iO Gz;have hm:∀a,(bT a).length<=34359738200:=λa=>by simp[bT]
 rw[aB h1,bd_s,aB ⟨h2,d⟩,bd_s,aB ⟨h2,hm _⟩,bd_s,aB h,bd_s];generalize gN s z i (bT (AY.mk z (qF o) c i b 0 0))=q;obtain⟨q1,q2,q3⟩:=q;cases mW o z<;>cases q3<;>rfl
def aYy {k:Nat}(hk:k<4):zO (Tf k)=(uB k,true)/\(Tf k).size<=34359738300:=by
 rcases(show k=0\/k=1\/k=2\/k=3 by omega) with rfl|rfl|rfl|rfl
 ·exact⟨by kernel_rfl,show 20<=34359738300 by omega⟩
 ·exact⟨by kernel_rfl,show 20<=34359738300 by omega⟩
 ·exact⟨by kernel_rfl,show 16<=34359738300 by omega⟩
 ·exact⟨by kernel_rfl,show 16<=34359738300 by omega⟩
def bF9 {j:Int}(a:j=0\/j=1){k:Nat}(hk:k<4):zO (Tf k)=(uB k,true)/\(aA j).size<=34359738300/\(Tf k).size<=34359738300:=by refine⟨(aYy hk).1,?_,(aYy hk).2⟩;rcases a with rfl|rfl<;>exact(show 8<=34359738300 by omega)
def Qm (pub:Int)(a:AY)(z:ByteArray)(b cnt:Int)(h:AsP a z):nQ pub a z b cnt=some (kM pub a z b cnt):=by
 obtain⟨j,c,rfl,rfl|⟨hs,k,hk,ho,d⟩⟩:=h
 ·unfold nQ;rw[aB (show bJ7 bJ8.aAK from .inl rfl)];rcases c with rfl|rfl<;>kernel_rfl
 ·obtain⟨h1,h2,e⟩:=bF9 c hk;have hm:(bT a).length=6:=by simp[bT]
  unfold nQ kM;rw[aB (show bJ7 a.aAK from .inr ⟨k,hk,ho⟩),bd_s,show zO a.aAK=(uB k,true) by rw[ho];exact h1,show(a.Site.toList==(aA j).toList)=true by rw[hs];simp];simp only[ay,aa];rw[aB (show Og (uB k) (aA j) from⟨⟨k,by omega,rfl⟩,j,c,rfl⟩),bd_s,d,bd_s];simp only[ay,aa,bne];rw[aB (show a.Site.size<=34359738300/\a.aAK.size<=34359738300 by rw[hs,ho];exact⟨h2,e⟩),bd_s,aB (show aV (bT a) [a.Counter] by unfold aV;simp only[hm,au,bm];omega),aB (show(bT a++[a.Counter]).length<=34359738300 by simp only[aw,hm,au,bm];omega),bd_s];cases a.Present<;>cases a.aAL==b<;>cases iI pub (bT a++[a.Counter]) a.Signature<;>cases decide (a.Counter<=cnt)<;>rfl
def bVn {a:AI}{h:Int}(hk:decide (aS a h<0)=false):bA a.Credentials (aS a h)=some (gH a (aS a h))/\(aS a h).toNat<a.Credentials.length:=by have hr:=oI (p:=λc:AV=>c.Handle==h) (i:=0) (l:=a.Credentials) hk;exact⟨sF (by unfold aS;omega) (by unfold aS;omega),by unfold aS;omega⟩
def Wd (a:AI)(x:AY)(z:ByteArray)(c:Int)(h:AsP x z/\a.sz<=34359738368):wY a x z c=some (jZ a x z c):=by
 obtain⟨hp,b⟩:=h;have hl:a.Credentials.length<=34359738368:=b;unfold wY jZ;simp only[aB b,aB hl,bd_s];cases bB a with
 |false=>rfl
 |true=>
  cases hk:decide (aS a x.Handle<0) with
  |true=>rfl
  |false=>
   simp only[ay,aa,(bVn hk).1,bd_s,cx];cases(gH a (aS a x.Handle)).Cut with
   |true=>rfl
   |false=>simp only[aB hp,bd_s,aa];generalize kM (gH a (aS a x.Handle)).Public x z c (gH a (aS a x.Handle)).Counter=k;cases k==0<;>cases k==4<;>rfl
def bSe {s:AC}{i:Int}(b:s.sz<=34359738300)(h:decide (aF s i<0)=false):bA s.Accounts (aF s i)=some (fU s (aF s i))/\(fU s (aF s i)).sz<=34359738300/\(aF s i).toNat<s.Accounts.length:=by
 have hr:=oI (p:=λa:AI=>a.Id==i) (i:=0) (l:=s.Accounts) h;have hi:(aF s i).toNat<s.Accounts.length:=by unfold aF;omega
 have h1:=wD (f:=AI.sz) hi;refine⟨sF (by unfold aF;omega) (by unfold aF;omega),?_,hi⟩;unfold fU;simp only[AC.sz] at b;omega
def Z0 (s:AC)(i c n:Int)(x:AY)(h:AsP x s.Name/\s.sz<=34359738300):Bg s i c n x=some (pE s i c n x):=by
 obtain⟨hp,a⟩:=h;have b:s.sz<=34359738368:=by omega
 have hb:s.Book.sz<=34359738368:=by simp only[AC.sz,AP.sz] at a ⊢;omega
 have hl:s.Accounts.length<=34359738368:=by simp only[AC.sz] at a;omega
 have d:aV s.Logins [i]:=by unfold aV;simp only[AC.sz] at a;simp only[au,bm];omega
 unfold Bg pE;simp only[aB b,aB hl,aB hb,bd_s];cases dK s with
 |false=>rfl
 |true=>
  simp only[ay,aa,bd_s,cx];cases hk:decide (aF s i<0) with
  |true=>rfl
  |false=>
   obtain⟨e,f,j⟩:=bSe a hk;simp only[aa];cases(qE s.Book c i n).2 with
   |false=>rfl
   |true=>
    simp only[ay,aa,e,bd_s,aB (show(fU s (aF s i)).sz<=34359738368 by omega)];cases sM (fU s (aF s i)) 3 with
    |false=>rfl
    |true=>
     simp only[ay,aa,aB (show AsP x s.Name/\(fU s (aF s i)).sz<=34359738368 from⟨hp,by omega⟩),bd_s,aB d,bne];cases hc:(jZ (fU s (aF s i)) x s.Name (fJ s.Book c)).2==0 with
     |false=>rfl
     |true=>rw[eq_of_beq hc];rfl
def Gg {w:AA}(h:aQ w=true):w.Sites.length=2/\w.Stolen.length=w.Devices.length/\w.Devices.length<=6/\gM nD 0 w.Sites=false:=by simp only[aQ,bK,ab,bq,cH,bz] at h;exact⟨by omega,by omega,by omega,h.2⟩
def aMz (w:AA)(d j:Int)(h:w.sz<=34359738368):Pg w d j=some (dV w d j):=by
 unfold Pg dV;rw[aB h,bd_s];cases a:aQ w with
 |false=>rfl
 |true=>
  obtain⟨h1,h2,c,_⟩:=Gg a;have e:bK d 0 (IntKind.i64.wrap ((w.Devices.length:Int)-1))=aL w d:=by
   rw[aI (by omega) (by omega)];unfold bK aL;by_cases hd:d<(w.Devices.length:Int)
   ·rw[ak hd,ak (show d<=(w.Devices.length:Int)-1 by omega)]
   ·rw[ao hd,ao (show ¬d<=(w.Devices.length:Int)-1 by omega)]
  have b:bK j 0 1=qA w j:=by
   unfold bK qA;rw[h1,show((2:Nat):Int)=2 from rfl];by_cases hd:j<(2:Int)
   ·rw[ak hd,ak (show j<=1 by omega)]
   ·rw[ao hd,ao (show ¬j<=1 by omega)]
  rw[e,b,ac];cases aL w d<;>cases qA w j<;>rfl
def Zh {w:AA}{d j:Int}(h:dV w d j=true):bA w.Stolen d=some (eT w d):=by simp only[dV,ab] at h;obtain⟨h1,h2,a,_⟩:=Gg h.1;have hd:=h.2.1;simp only[aL,ab,bq] at hd;unfold eT;rw[qH hd.1 (by omega)];simp[List.getD,ae (show d.toNat<w.Stolen.length by omega)]
def bIm (j:Int):(ByteArray.mk #[UInt8.ofNat 119,UInt8.ofNat 119,UInt8.ofNat 119,UInt8.ofNat 46]).size+(aA j).size<=9223372036854775807:=by unfold aA;cases j==0<;>cases j==1<;>decide
def aI5 (s:ByteArray):aH3 s=some (AQ.mk true s 443):=rfl
def bVo {a b:ByteArray}(h:a.toList=b.toList):a=b:=by rw[ByteArray.toList_eq,ByteArray.toList_eq] at h;exact ByteArray.ext (jz.1 h)
def bPk {l:List AC}{k:Nat}:∀{i:Nat},gM nD i l=false->∀(h:k<l.length),dK l[k]=true/\l[k].Name=aA ((i+k:Nat):Int):=by
 induction l generalizing k with
 |nil=>intro i _ h;simp at h
 |cons s l b=>
  intro i a h;simp only[gM,bo] at a;cases k with
  |zero=>have hb:=a.1;simp only[nD,bo,cR] at hb;refine⟨hb.1,?_⟩;have:=eq_of_beq hb.2;exact bVo this
  |succ k=>have:=b (k:=k) (i:=i+1) a.2 (by simpa using h);simp only[fh];refine⟨this.1,this.2.trans ?_⟩;congr 1;omega
def We {w:AA}{d j:Int}(h:dV w d j=true):bA w.Sites j=some (fB w j)/\(fB w j).sz<=w.sz/\(fB w j).Name=aA j/\(j=0\/j=1)/\j.toNat<w.Sites.length:=by
 simp only[dV,ab] at h;obtain⟨h1,h2,c,b⟩:=Gg h.1;have hd:=h.2.2;simp only[qA,ab,bq] at hd;have a:j.toNat<w.Sites.length:=by omega
 have hs:=wD (f:=AC.sz) a;have e:fB w j=w.Sites[j.toNat]:=by unfold fB;simp[List.getD,ae a]
 refine⟨by rw[qH hd.1 a,e],?_,?_,by omega,a⟩
 ·unfold fB;simp only[AA.sz];omega
 ·rw[e,(bPk b a).2];congr 1;omega
def bGa (s:AC)(i n:Int):(lY s i n).1.Name=s.Name/\(lY s i n).1.sz<=s.sz+1:=by
 unfold lY;cases dK s&&(!decide (aF s i<0)&&(eH s.Book i n).2.2) with
 |false=>exact⟨rfl,dy _⟩
 |true=>
  refine⟨rfl,?_⟩;have hb:(eH s.Book i n).1.Open.length<=s.Book.Open.length+1:=by
   unfold eH;cases eQ s.Book&&(!(s.Book.Next==1000000)&&(bK i 0 1000000&&bK n 0 1000000)) with
   |false=>simp only[aa];omega
   |true=>
    simp only[ac];cases decide ((s.Book.Open.length:Int)>=16) with
    |true=>simp only[ac,aw,cy,au,bm];omega
    |false=>simp only[aa,aw,au,bm];omega
  simp only[ac,AC.sz,AP.sz];omega
def bPl {k:Nat}(hk:k<6){j:Int}(a:j=0\/j=1)(h:mW (uB k) (aA j)=true):k<4:=by
 rcases(show k<4\/k=4\/k=5 by omega) with b|rfl|rfl
 ·exact b
 ·rcases a with rfl|rfl<;>exact absurd h (by decide)
 ·rcases a with rfl|rfl<;>exact absurd h (by decide)
def bGb (s:AK)(h c:Int)(p:Bool){o:AQ}(ho:nH o){j:Int}(a:j=0\/j=1):AsP (iO s o (aA j) h c p).2.1 (aA j):=by
 refine⟨j,a,rfl,?_⟩;obtain⟨k,hk,rfl⟩:=ho;unfold iO;cases hm:mW (uB k) (aA j) with
 |false=>exact .inl rfl
 |true=>
  cases(gN s (aA j) h (bT (Gz s (uB k) (aA j) h c p))).2.2 with
  |false=>exact .inl rfl
  |true=>exact .inr ⟨rfl,k,bPl hk a hm,rfl,hm⟩
def bW7 {w:AA}{d j:Int}{o:AQ}(ho:nH o)(h:dV w d j=true)(c:w.sz<=34359738200):AsP (aC1 w d j o).2.1 (aBA w j).1.Name/\(aBA w j).1.sz<=34359738300:=by obtain⟨_,h2,a,b,_⟩:=We h;obtain⟨b1,e⟩:=bGa (fB w j) 1 w.Now;exact⟨by unfold aC1 aBA;rw[b1,a];exact bGb _ _ _ _ ho b,by unfold aBA;omega⟩
def aVf (w:AA)(d j:Int)(o:AQ)(h:nH o/\w.sz<=34359738200):M5 w d j o=some (iP w d j o):=by
 obtain⟨ho,c⟩:=h;have b:w.sz<=34359738368:=by omega
 unfold M5 iP;simp only[aB b,bd_s];cases ht:dV w d j with
 |false=>rfl
 |true=>
  obtain⟨e,m,n,f,q⟩:=We ht;obtain⟨i,k⟩:=bW7 ho ht c;have a:=ht;simp only[dV,ab] at a;have l:=lN a.2.1;have hm:w.Mail.sz<=34359738300:=by simp only[AA.sz,AS.sz] at c ⊢;omega
  simp only[ay,aa,e,bd_s,aB (show(fB w j).sz<=34359738368 by omega)];rw[show lY (fB w j) 1 w.Now=aBA w j from rfl];cases hb:(aBA w j).2.2.2 with
  |false=>rfl
  |true=>simp only[ay,aa,l,bd_s,aB (show Og o (aA j) from ho.p f)];rw[show iO (aG w d).Store o (aA j) d (aBA w j).2.2.1 true=aC1 w d j o from rfl];simp only[aB (show AsP (aC1 w d j o).2.1 (aBA w j).1.Name/\(aBA w j).1.sz<=34359738300 from⟨i,k⟩),bd_s,aB hm,bne];rw[show pE (aBA w j).1 1 (aBA w j).2.1 w.Now (aC1 w d j o).2.1=Tg w d j o from rfl];cases(Tg w d j o).2.1==0<;>rfl
def aM0 (w:AA)(d j:Int)(o:AQ)(h:nH o/\w.sz<=34359738200):Pi w d j o=some (qJ w d j o):=by unfold Pi;rw[aB h];rfl
def Z4 (w:AA)(d j:Int)(b:w.sz<=34359738200):Bh w d j=some (Dx w d j):=by
 have a:w.sz<=34359738368:=by omega
 unfold Bh Dx;simp only[aB a,bd_s,aB (bIm j)];cases ht:dV w d j with
 |false=>rfl
 |true=>
  simp only[ay,aa,Zh ht,bd_s,cw];cases eT w d with
  |true=>rfl
  |false=>simp only[cY,aa,ac];exact(fE (aB (show nH (aQd j)/\w.sz<=34359738200 from⟨bNz (We ht).2.2.2.1,b⟩)) rfl)
def vR {σ τ:Type}{F:(σ->Option τ)->σ->Option τ}(S:Nat->σ)(N:Nat){r:τ}(d:N<=1000000)(a:∀rec i,i<N->F rec (S i)=rec (S (i+1)))(b:∀rec,F rec (S N)=some r){s:σ}(hs:s=S 0):EV.bU FUEL F s=some r:=by
 subst hs;have go:∀(k i n:Nat),i+k=N->k<n->EV.bU n F (S i)=some r:=by
  intro k;induction k with
  |zero=>intro i n h hn;obtain⟨m,rfl⟩:∃m,n=m+1:=⟨n-1,by omega⟩;rw[jA,show i=N by omega];exact b _
  |succ k c=>intro i n h hn;obtain⟨m,rfl⟩:∃m,n=m+1:=⟨n-1,by omega⟩;rw[jA,a _ i (by omega)];exact c (i+1) m (by omega) (by omega)
 exact go N 0 FUEL (by omega) (by have:=gY;omega)
def bDx {m:Int}{F:(Int×Int×Int->Option Int)->Int×Int×Int->Option Int}(a:∀rec (b n s:Int),0<=n->n<9223372036854775807->F rec (b,n,s)=bif decide (n>0) then rec ((IntKind.i64.wrap (b*b)).tmod m,n/2,bif n%2==1 then(IntKind.i64.wrap (s*b)).tmod m else s) else some s):
  ∀(k:Nat) (b n s:Int) (f:Nat),k<f->0<=n->n<2^k->k<=62->bU f F (b,n,s)=some (aHk m k b n s)
 |0,b,n,s,f+1,c,h0,h1,hk=>by
  have:n=0:=by simp at h1;omega
  subst this;rw[jA,a _ _ _ _ (by omega) (by omega)];rfl
 |k+1,b,n,s,f+1,c,h0,h1,hk=>by
  have h2:(2:Int)^(k+1)=2*2^k:=by rw[fi];omega
  have d:n<2^62:=Int.lt_of_lt_of_le h1 (by exact_mod_cast iy (by omega) hk);rw[jA,a _ _ _ _ h0 (by omega)];unfold aHk;by_cases hn:n>0
  ·rw[ak hn,ac,cQ hn];exact bDx a k _ (n/2) _ f (by omega) (by omega) (by omega) (by omega)
  ·rw[ao hn,aa,dk hn]
def bW8:((2039:Int)≠0)=True:=by simp
def aEc (b n:Int)(h:0<=n/\n<2048):sU b n=some (aHk 2039 11 b n 1):=by unfold sU;rw[bDx (m:=2039) (λrec b n s h0 h1=>by simp only[show oQ .i64 n 1=n%2 from and_one h0 (by omega),show Gu .i64 n 1=n/2 from bHi h0,bW8,gd_T,lQ,bd_s,aB (show(0:Int)<=1 by decide)]) 11 b n 1 FUEL (by have:=gY;omega) h.1 (by have:=h.2;omega) (by omega)];rfl
def Qn (x:Int):uH x=some (Db x):=by unfold uH Db;rw[aEc _ _ (by decide)];cases bK x 1 2038<;>rfl
def aM1 (g n:Int):Pb g n=some (pR g n):=by unfold Pb pR;have hr:=uZ (p:=n) (q:=1019) (by decide);rw[aEc _ _ ⟨hr.1,by omega⟩];cases Db g<;>rfl
def Z5 (a b:Int):Be a b=some (Yr a b):=by unfold Be;rw[aB (by simp),bd_s,aB (by decide),aB (by decide)];rfl
def y7 (a b c:Int):Zp a b c=some (Yt a b c):=rfl
def aI6 (a b:Int):Jc a b=some (zI a b):=by
 unfold Jc zI;rw[aB (by simp),bd_s];have h:=(mO a [157,b]).1;generalize bP a [157,b]=n at h ⊢;unfold aZu kH;by_cases h1:n>1
 ·rw[ak h1,show(n==0)=false by simp;omega];rfl
 ·rw[ao h1];by_cases h2:n=0
  ·subst h2;rfl
  ·have:n=1:=by omega
   subst this;rfl
def aEd (a b:Int):Ep a b=some (Mw a b):=by unfold Ep;rw[aB (by simp)];rfl
def aSn (a b:Int):Ux a b=some (aQf a b):=by unfold Ux aQf;rw[aB (by simp)];cases bK a 0 2147483647<;>rfl
def aI7 (k:AZ):aH2 k=some (Dy k):=rfl
def bGc {c n:Int}{l:List Int}(hn:1<=n/\n<=7)(hl:l.length<=34359738368){F:(List AU×Int->Option (List AU))->List AU×Int->Option (List AU)}(a:∀rec (s:List AU) (i:Int),1<=i->i<=8->s.length<=8->F rec (s,i)=bif decide (i<=n) then rec (s++[⟨i,Sw c l i⟩],i+1) else some s):EV.bU FUEL F ([],1)=some ((List.range n.toNat).map λ(i:Nat)=>(⟨(i:Int)+1,Sw c l ((i:Int)+1)⟩:AU)):=
 vR (λi=>((List.range i).map λ(i:Nat)=>(⟨(i:Int)+1,Sw c l ((i:Int)+1)⟩:AU),(i:Int)+1)) n.toNat (by omega) (λrec i hi=>by
  rw[a rec _ _ (by omega) (by omega) (by simp;omega),ak (by omega),ac,fm,dc];rfl) (λrec=>by
  rw[a rec _ _ (by omega) (by omega) (by simp;omega),ao (by omega),aa]) rfl
def Z6 (c:Int)(l:List Int)(n:Int)(h:l.length<=34359738368):Bd c l n=some (vM c l n):=by
 unfold Bd vM;cases h1:bK n 1 7 with
 |false=>rfl
 |true=>
  have hn:=iC h1;rw[bGc (c:=c) hn h (λrec s i h0 h1 h2=>by
   simp only[aB (show(0:Int)<=i/\i<=1000/\l.length<=34359738368 from⟨by omega,by omega,h⟩),bd_s,aB (show aV s [AU.mk i (Sw c l i)] by unfold aV;simp;omega),aI (show-9223372036854775808<=i+1 by omega) (show i+1<=9223372036854775807 by omega)])]
  by_cases h2:(l.length:Int)<n
  ·rw[ak h2,ao (show ¬(l.length:Int)>=n by omega)];rfl
  ·rw[ao h2,ak (show(l.length:Int)>=n by omega)];rfl
def aI8 (pin salt key sec:Int)(cs:List Int)(n lim:Int)(h:cs.length<=34359738368):Jd pin salt key sec cs n lim=some (Mx pin salt key sec cs n lim):=by
 unfold Jd Mx aOi;simp only[aB h,bd_s];have hl:=aYc sec cs n;generalize vM sec cs n=l at hl ⊢;cases bK pin 0 9999 with
 |false=>rfl
 |true=>
 cases bK salt 0 1000000 with
 |false=>rfl
 |true=>
 cases bL key with
 |false=>rfl
 |true=>
 cases dX sec 1019==0 with
 |true=>rfl
 |false=>
 cases bK lim 1 10 with
 |false=>rfl
 |true=>
 rw[bU1 (l:=l) (λs=>Dy ⟨s,0,0,lim⟩) (by omega) (λrec i s hi hs=>by
  have a:∀x:AG,aV s [x]:=λx=>by unfold aV;simp;omega
  simp only[dF hi,ac,aN hi,bd_s,aB (a _)];rfl) (λrec s=>by simp only[dL,aa])]
 cases l with
 |nil=>rfl
 |cons x l=>
  have e:(((x::l).length:Int)==0)=false:=by simp;omega
  have b:((x::l).length==0)=false:=by simp
  rw[e,b];rfl
def aM2 (l:List AF)(b:AN)(h:l.length<=34359738368/\b.sz<=34359738368):Oq l b=some (fO l b):=by
 unfold Oq fO;have hb:b.Boxes.length<=34359738368:=by have:=h.2;simp only[AN.sz] at this;omega
 simp only[aB h.1,aB h.2,aB (show b.Boxes.length<=34359738368/\l.length<=34359738368 from⟨hb,h.1⟩),bd_s];cases aZ l<;>cases jV b l<;>rfl
def bDy (s:AC)(id m:Int):(qG s id m).sz=s.sz+1:=by
 have e:(s.Accounts.map AI.sz).sum=((s.Accounts.take (sN id s.Accounts)).map AI.sz).sum+((s.Accounts.drop (sN id s.Accounts)).map AI.sz).sum:=by rw[<-fY,<-dc,cP]
 have el:(s.Accounts.take (sN id s.Accounts)).length+(s.Accounts.drop (sN id s.Accounts)).length=s.Accounts.length:=by rw[<-aw,cP]
 simp only[qG,AC.sz,aw,dc,fY,au,bm,bn,ez,dg,gC,AI.sz] at e el ⊢;omega
def bLd {l:List AI}{id:Int}{F:(Int->Option Int)->Int->Option Int}(hl:l.length<=34359738368)(b:∀rec (i:Nat) (hi:i<l.length),F rec (i:Int)=bif decide (l[i].Id<id) then rec ((i+1:Nat):Int) else some (i:Int))(c:∀rec,F rec (l.length:Int)=some (l.length:Int)):EV.bU FUEL F 0=some (sN id l:Int):=
 aX7 (λa:AI=>decide (a.Id<id)) (λi=>some (i:Int)) (λi=>(i:Int)) hl b c
def bPm (id:Int)(l:List AI):sN id l<=l.length:=Te
def Z7 (s:AC)(id m:Int)(h:s.sz<=34359738300):Au s id m=some (oJ s id m):=by
 unfold Au oJ;have hl:s.Accounts.length<=s.sz:=by simp only[AC.sz];omega
 have hk:=bPm id s.Accounts;have a:∀(x y:List AI),x.length+y.length<=34359738400->aV x y:=λx y h=>by unfold aV;omega
 have hs:s.sz<=34359738368:=by omega
 have h1:=bDy s id m;rw[aB hs,bd_s,bLd (id:=id) (l:=s.Accounts) (by omega) (λrec i hi=>by simp only[dF hi,ac,aN hi,bd_s,aI (show-9223372036854775808<=(i:Int)+1 by omega) (show(i:Int)+1<=9223372036854775807 by omega)];rfl) (λrec=>by simp only[dL,aa,bd_s]),bd_s];have b:lV s.Accounts (sN id s.Accounts:Int):=⟨by omega,by omega⟩;have he:(List.take (sN id s.Accounts) s.Accounts).length+(List.drop (sN id s.Accounts) s.Accounts).length=s.Accounts.length:=by rw[<-aw,cP]
 have ht:(List.take (sN id s.Accounts) s.Accounts).length<=s.Accounts.length:=by omega
 have hd:(List.drop (sN id s.Accounts) s.Accounts).length<=s.Accounts.length:=by omega
 rw[bv,aB b,aB b,aB (a _ _ (by simp only[bm];omega)),aB (a _ _ (by simp only[bp,au,bm];omega)),aB (a _ _ (by simp only[bp,aw,au,bm];omega)),aB hs,bd_s,bp];rw[show(AC.mk s.Name (List.take (sN id s.Accounts) s.Accounts++[AI.mk id m []]++List.drop (sN id s.Accounts) s.Accounts) s.Book s.Logins)=qG s id m from rfl,aB (show(qG s id m).sz<=34359738368 by omega)];cases dK s<;>cases dK (qG s id m)<;>rfl
def bSf {α:Type}{x y:List α}(h:x.length<=1000)(a:y.length<=1000):aV x y:=by unfold aV;omega
def Wh (seed:Int)(n:Nat):(dM seed n).length=n:=by simp[dM]
def aEe (seed:Int)(n:Nat):dM seed (n+1)=dM seed n++[bG (aO seed (n:Int))]:=by simp[dM,fm]
def bLe (seed:Int)(n:Nat):bA (dM seed (n+1)) 0=some (bG (aO seed 0)):=by rw[show(0:Int)=((0:Nat):Int) from rfl,aN (by rw[Wh];omega)];simp[dM]
def bAj (seed:Int)(n:Nat)(h:1<=n):dM seed n=bG (aO seed 0)::(dM seed n).drop 1:=by obtain⟨m,rfl⟩:∃m,n=m+1:=⟨n-1,by omega⟩;simp[dM,List.range_succ_eq_map]
abbrev sT (s:AC):ByteArray×List AI×Int×Int×List A0×List Int:=(s.Name,s.Accounts,s.Book.Seed,s.Book.Next,s.Book.Open,s.Logins)
def aEf (nm:ByteArray):∀(l:List AD) (k:Nat) (d:AD) (s:AC),wE nm k (l++[d]) s=(gD (wE nm k l s) 1 ((k+l.length:Nat):Int) (fD d.Store nm ((k+l.length:Nat):Int))).1
 |[],k,d,s=>rfl
 |x::l,k,d,s=>by
  rw[cI];show wE nm (k+1) (l++[d]) _=_;rw[aEf nm l (k+1) d,au,show k+1+l.length=k+(l.length+1) by omega];rfl
def bLf {nm:ByteArray}{l:List AD}{s0:AC}(hl:l.length<=3)(hs:s0.sz<=1000){F:(Nat×ByteArray×List AI×Int×Int×List A0×List Int->Option (ByteArray×List AI×Int×Int×List A0×List Int))->Nat×ByteArray×List AI×Int×Int×List A0×List Int->Option (ByteArray×List AI×Int×Int×List A0×List Int)}
  (a:∀rec (i:Nat) (hi:i<l.length) (s:AC),s.sz<=2000->F rec (i,sT s)=rec (i+1,sT (gD s 1 (i:Int) (fD l[i].Store nm (i:Int))).1)) (b:∀rec s,F rec (l.length,sT s)=some (sT s)):EV.bU FUEL F (0,sT s0)=some (sT (wE nm 0 l s0)):=
 vR (λi=>(i,sT (wE nm 0 (l.take i) s0))) l.length (by omega) (λrec i hi=>by
  have h1:=R7 nm 0 (l.take i) s0;have h2:(l.take i).length=i:=by rw[bw];omega
  rw[a rec i hi _ (by omega),gi hi,aEf,h2,cg]) (λrec=>by rw[b,dw (ai _)]) rfl
def bDz {α:Type}{p r:List α}{s:α}:bA (p++s::r) ((p.length:Nat):Int)=some s:=by rw[aN (by simp)];simp
def bPn {α ι:Type}(e:Nat->ι){p0 l:List α}(f:α->α){F:(ι×List α->Option (List α))->ι×List α->Option (List α)}(hl:l.length<=1000)
  (a:∀rec (p:List α) (d:α) (r:List α),p.length+1+r.length=p0.length+l.length->d∈l->F rec (e p.length,p++d::r)=rec (e (p.length+1),p++f d::r)) (b:∀rec (p:List α),p.length=p0.length+l.length->F rec (e (p0.length+l.length),p)=some p):EV.bU FUEL F (e p0.length,p0++l)=some (p0++l.map f):=
 vR (λi=>(e (p0.length+i),p0++(l.take i).map f++l.drop i)) l.length (by omega) (λrec i hi=>by
  have h2:(p0++(l.take i).map f).length=p0.length+i:=by rw[aw,bh,bw];omega
  have h:(l.drop (i+1)).length=l.length-(i+1):=cy;have c:l.drop i=l[i]::l.drop (i+1):=cq hi;have:=a rec (p0++(l.take i).map f) l[i] (l.drop (i+1)) (by omega) (cf hi);rw[h2,<-c] at this;show F rec (e (p0.length+i),p0++(l.take i).map f++l.drop i)=_;rw[this,gi hi,dc,List.map_singleton];simp only[cl,fo,gt]) (λrec=>by
  rw[dw (ai _),List.drop_of_length_le (ai _),cV];exact b rec _ (by rw[aw,bh])) (by simp)
def aSo (n:Nat)(d:AD):Nat->AD
 |0=>d
 |j+1=>Ig (aA (j:Int)) n (aSo n d j)
def Wi (j:Int):(aA j).size<=100:=by unfold aA;cases j==0<;>cases j==1<;>decide
def bLg {nm:ByteArray}{n:Nat}{d:AD}{r:List AD}(hn:n<=3)(hd:d.sz<=100){F:(Nat×List AD->Option (List AD))->Nat×List AD->Option (List AD)}
  (a:∀rec (i:Nat) (x:AD),i<n->x.sz<=1000->F rec (i,x::r)=rec (i+1,(dQ x nm (i:Int) false).1::r)) (b:∀rec x,F rec (n,x::r)=some (x::r)):EV.bU FUEL F (0,d::r)=some (Ig nm n d::r):=
 vR (λi=>(i,Ig nm i d::r)) n (by omega) (λrec i hi=>by
  have h1:=aC2 nm i d;rw[a rec i _ hi (by omega)];rfl) (λrec=>b rec _) rfl
def bLh {n:Nat}{d:AD}{r:List AD}{F:(Nat×List AD->Option (List AD))->Nat×List AD->Option (List AD)}(hn:n<=3)(hd:d.sz<=10)
  (a:∀rec (j:Nat) (x:AD),j<2->x.sz<=100->F rec (j,x::r)=rec (j+1,Ig (aA (j:Int)) n x::r)) (b:∀rec x,F rec (2,x::r)=some (x::r)):EV.bU FUEL F (0,d::r)=some (aSo n d 2::r):=
 vR (λj=>(j,aSo n d j::r)) 2 (by omega) (λrec j c=>by
  have h1:∀j:Nat,(aSo n d j).sz<=d.sz+j*n:=by
   intro j;induction j with
   |zero=>exact cM _ _
   |succ j e=>have:=aC2 (aA (j:Int)) n (aSo n d j);show(Ig (aA (j:Int)) n (aSo n d j)).sz<=_;rw[dm];omega
  have h2:=h1 j;have f:j*n<=2*3:=iS (by omega) hn;rw[a rec j _ c (by omega)];rfl) (λrec=>b rec _) rfl
def bGd {seed t:Int}(ht:1<=t/\t<=7){F:(List Int×Int->Option (List Int))->List Int×Int->Option (List Int)}(a:∀rec (s:List Int) (i:Int),1<=i->i<=8->s.length<=8->F rec (s,i)=bif decide (i<t) then rec (s++[aY seed [307,i]],i+1) else some s):EV.bU FUEL F ([],1)=some (Tj seed t):=
 vR (λi=>((List.range i).map λ(k:Nat)=>aY seed [307,(k:Int)+1],(i:Int)+1)) (t-1).toNat (by omega) (λrec i hi=>by
  rw[a rec _ _ (by omega) (by omega) (by simp;omega),ak (by omega),ac,fm,dc];rfl) (λrec=>by
  rw[a rec _ _ (by omega) (by omega) (by simp;omega),ao (by omega),aa];rfl) rfl
def bIn (s:AC):AC.mk s.Name s.Accounts (AP.mk s.Book.Seed s.Book.Next s.Book.Open) s.Logins=s:=rfl
def bVp (s:AK):AD.mk s [] (0:Int) (0:Int) (0:Int) (AB.mk [])=bG s:=rfl
def bW9 (seed:Int)(i:Nat):AK.mk (1:Int) (i:Int) (aY seed [277,(i:Int)]) (0:Int)=aO seed (i:Int):=rfl
def aM3 (n k t pin seed:Int):Pd n k t pin seed=some (bZ n k t pin seed):=by
 unfold Pd bZ Tn;cases h1:bK n 1 3 with
 |false=>rfl
 |true=>
 cases h2:bK k 1 7 with
 |false=>rfl
 |true=>
 cases A:bK t 1 k with
 |false=>rfl
 |true=>
 cases L:bK pin 0 9999 with
 |false=>rfl
 |true=>
 cases M:bL seed with
 |false=>rfl
 |true=>
 have hn:=iC h1;have hk:=iC h2;have ht:=iC A;obtain⟨N,rfl⟩:∃N:Nat,n=(N:Int):=⟨n.toNat,by omega⟩;rw[bv];have f:1<=N/\N<=3:=by omega
 have O:=qQ seed N;have Q:=aQi seed N;have S:=aQj seed N;simp only[ay,aa,du,ac,bd_s,bVp,bW9];rw[vR (r:=(aU seed N,dM seed N,List.replicate N false)) (λi=>(aU seed i,i,dM seed i,List.replicate i false)) N (s:=([],0,[],[])) (by omega) (λrec i hi=>by
  have u:=bLe seed i;have T:=qQ seed i;have V:=Wh seed i;rw[aEe] at u;simp only[dF hi,ac,aB (show aV (dM seed i) [bG (aO seed (i:Int))] from bSf (by omega) (by simp)),aB (show aV (List.replicate i false) [false] from bSf (by rw[fq];omega) (by simp)),u,bd_s,aB (show(aU seed i).length<=34359738300 by omega),aEe,List.replicate_succ'];rfl) (λrec=>by simp only[dL,aa]) rfl]
 have B:(bJ (aU seed N) (bY seed 0) 1000).1=iQ seed N:=rfl;simp only[bd_s,aB (show(aU seed N).length<=34359738300 by omega),B,aB (show(aU seed N).length<=34359738368/\(iQ seed N).sz<=34359738368 from⟨by omega,by omega⟩)];have v:=Wh seed N;rw[vR (r:=Ah (dM seed N) seed) (λj=>((Ah (dM seed N) seed).take j,j)) 2 (s:=([],0)) (by omega) (λrec j D=>by
  have hs:=Wi (j:Int);have W:=aLm (aA (j:Int)) (aY seed [281,(j:Int)]);have X:=aQk (iL (aA (j:Int)) (aY seed [281,(j:Int)])) 1 3;simp only[ak (show(j:Int)<2 by omega),ac,aB (show[281,(j:Int)].length<=34359738300 by simp),bd_s,aB (show(aA (j:Int)).size<=34359738368 by omega),aB (show(iL (aA (j:Int)) (aY seed [281,(j:Int)])).sz<=34359738300 by omega)];rw[bLf (nm:=aA (j:Int)) (l:=dM seed N) (s0:=(oJ (iL (aA (j:Int)) (aY seed [281,(j:Int)])) 1 3).1) (by omega) (by omega) (λrec i hi s hsz=>by
   simp only[dF hi,ac,aN hi,bd_s,aB (show(aA (j:Int)).size<=34359738300 by omega),bIn,aB (show s.sz<=34359738300 by omega)]) (λrec s=>by simp only[dL,aa])]
  have F:((Ah (dM seed N) seed).take j).length<=1000:=by rw[bw];omega
  have h:∀x:AC,aV ((Ah (dM seed N) seed).take j) [x]:=λx=>bSf F (by simp);simp only[bd_s,bIn,aB (h _)];have m:j=0\/j=1:=by omega
  rcases m with rfl|rfl<;>rfl) (λrec=>by rfl) rfl]
 simp only[bd_s];have a:∀d∈dM seed N,d.sz=0:=λd hd=>by
  simp only[dM,cb] at hd;obtain⟨i,_,rfl⟩:=hd;rfl
 rw[show(0,dM seed N)=((λi:Nat=>i) ([]:List AD).length,([]:List AD)++dM seed N) from rfl,bPn (λi:Nat=>i) (p0:=[]) (l:=dM seed N) (wP seed N) (by omega) (λrec p d r hp hd=>by
  have h0:=a d hd;simp only[bm] at hp;simp only[dF (show p.length<N by omega),ac,bDz,bd_s,aB (show d.sz<=34359738368/\(aU seed N).length<=34359738368 from⟨by omega,by omega⟩),bv,set_mid rfl,cl,fo];rfl) (λrec p hp=>by
  simp only[bm,v,cg,dL,aa])]
 obtain⟨R,c⟩:∃R,R=((dM seed N).drop 1).map (wP seed N):=⟨_,rfl⟩;have hm:(dM seed N).map (wP seed N)=wP seed N (bG (aO seed 0))::R:=by have:=congrArg (List.map (wP seed N)) (bAj seed N f.1);rw[this,c];rfl
 have G:R.length=N-1:=by rw[c,bh,cy,v]
 have o:∀d∈R,d.sz<=10:=λd hd=>by
  rw[c,cb] at hd;obtain⟨x,e,rfl⟩:=hd;have h0:=a x (cX e);have:=aOj seed N x;omega
 have H:=aOj seed N (bG (aO seed 0));rw[aHl] at H;have hq:∀x:AD,bA (x::R) 0=some x:=λx=>rfl;rw[bp,hm,bd_s,bLh (n:=N) (d:=wP seed N (bG (aO seed 0))) (r:=R) f.2 (by omega) (λrec j x D e=>by
  simp only[ak (show(j:Int)<2 by omega),ac];rw[bLg (nm:=aA (j:Int)) (n:=N) (d:=x) (r:=R) f.2 e (λrec i x hi e=>by
   have hs:=Wi (j:Int);simp only[dF hi,ac,hq,bd_s,aB (show x.sz<=34359738360/\(aA (j:Int)).size<=34359738300 from⟨by omega,by omega⟩)];rfl) (λrec x=>by simp only[dL,aa])]
  simp only[bd_s]) (λrec x=>by rfl)]
 have I:aSo N (wP seed N (bG (aO seed 0))) 2=lU seed N:=rfl;have w:cK (lU seed N)=nwW seed N:=rfl;have hc:(cB (fO (aU seed N) (iQ seed N)).1 (nwW seed N).2.1).1=jL seed N:=rfl;have Z:=aQh seed N;have z:=zN (lU seed N);rw[w] at z;have J:=aLl (aU seed N) (iQ seed N);have b:∀x y:AD,(x::R).set (0:Int).toNat y=y::R:=λ_ _=>rfl;simp only[bd_s,I,hq,aB (show(lU seed N).sz<=34359738368 by omega),w,aB (show(fO (aU seed N) (iQ seed N)).1.sz<=34359738300/\(nwW seed N).2.1.sz<=34359738300 from⟨by omega,by have:=z.2;simp only[AJ.sz];omega⟩),hc,b];rw[show((1:Int),(nwW seed N).1::R)=((λi:Nat=>(i:Int)) ([(nwW seed N).1]:List AD).length,[(nwW seed N).1]++R) from rfl,bPn (λi:Nat=>(i:Int)) (p0:=[(nwW seed N).1]) (l:=R) (λd=>(bR d (jL seed N).Log (jL seed N).Boxes (fA (jL seed N) 0).1).1) (by omega) (λrec p d r hp hd=>by
  have h0:=o d hd;simp only[au,bm] at hp;simp only[dF (show p.length<N by omega),ac,bDz,bd_s,aB (show d.sz<=34359738100/\(jL seed N).sz<=34359738100 from⟨by omega,by omega⟩),bv,set_mid rfl,cl,fo,aI (show-9223372036854775808<=(p.length:Int)+1 by omega) (show(p.length:Int)+1<=9223372036854775807 by omega)];rfl) (λrec p hp=>by
  simp only[show([(nwW seed N).1]:List AD).length+R.length=N by simp only[au,bm];omega,dL,aa])]
 have K:[(nwW seed N).1]++R.map (λd=>(bR d (jL seed N).Log (jL seed N).Boxes (fA (jL seed N) 0).1).1)=jH seed N:=by rw[c,io];show(nwW seed N).1::_=(nwW seed N).1::_;congr 1;exact gz λd _=>bRf seed N d
 rw[K];simp only[bd_s];rw[bGd (seed:=seed) (t:=t) ⟨by omega,by omega⟩ (λrec s i h0 h1 h2=>by
  have h:∀x:Int,aV s [x]:=λx=>bSf (by omega) (by simp);simp only[aB (show([307,i]:List Int).length<=34359738300 by simp),bd_s,aB (h _),aI (show-9223372036854775808<=i+1 by omega) (show i+1<=9223372036854775807 by omega)])]
 have q:(Tj seed t).length<=34359738368:=by simp only[Tj,bh,fc];omega
 simp only[bd_s,aB (show([283]:List Int).length<=34359738300 by simp),aB (show([293]:List Int).length<=34359738300 by simp),aB (show(1018:Int)≠0 by decide),aB q];rfl
def aEg (a b c:Int):Ez a b c=some (Ai a b c):=by unfold Ez Ai;cases dX c 1019==0<;>rfl
def Wj (s:AU)(e:Int):xB s e=some (Yv s e):=by unfold xB Yv;cases Db e<;>cases e==1<;>cases bK s.Value 0 1018<;>rfl
def aI9 (k:AZ)(e:Int):Jj k e=some (nI k e):=by unfold Jj nI;cases kC k<;>cases k.Guesses==k.Limit<;>cases Db e<;>cases e==1<;>rfl
def aM4 (a b:Int):Pk a b=some (aHn a b):=by unfold Pk aHn;rw[aB (show(2039:Int)≠0 by decide)];cases Db a<;>cases Db b<;>rfl
def aJa (v:A4)(o:Int):Jk v o=some (aQl v o):=by unfold Jk aQl;rw[bne];cases Mw o v.Salt==v.Check<;>rfl
def Nr (n:Int):sW n=some (Oi n):=by
 have hr:=uZ (p:=n) (q:=1019) (by decide);have hp:∀m:Int,0<=m->m<1019->((IntKind.i64.wrap (dX n 1019*m)).tmod 1019==1)=((dX n 1019*m)%1019==1):=λm h0 h1=>by
  have h2:0<=dX n 1019*m:=jb hr.1 h0;have d:dX n 1019*m<=1019*1019:=Int.mul_le_mul (by omega) (by omega) h0 (by omega);rw[aI (by omega) (by omega),ct h2]
 have step:∀m:Int,1<=m->m<1019->IntKind.i64.wrap (m+1)=m+1:=λm _ _=>aI (by omega) (by omega);unfold sW Oi;cases b:dX n 1019==0 with
 |true=>
  have h0:=eq_of_beq b;rw[Gx (s:=(1:Int)) (λi (s:Int)=>s=(i:Int)+1) 1018 (some (.inr ())) (by omega) (by show(1:Int)=((0:Nat):Int)+1;rfl) (λi s rec hi hv=> ?_) (λs rec hv=> ?_)]
  ·rfl
  ·left;have hv:s=(i:Int)+1:=hv;subst hv;refine⟨_,rfl,?_⟩;rw[ak (show(i:Int)+1<1019 by omega),ac,aB (by decide),hp _ (by omega) (by omega),h0,Int.zero_mul,step _ (by omega) (by omega)];rfl
  ·have hv:s=(1018:Nat)+1:=hv;subst hv;rfl
 |false=>
  have h0:0<dX n 1019:=by have:=cj.1 b;omega
  obtain⟨c,e,f⟩:=bU6 h0 hr.2;generalize aHk 1019 11 (dX n 1019) 1017 1=a at*;rw[Gx (s:=(1:Int)) (λi (s:Int)=>s=(i:Int)+1/\(i:Int)+1<=a) 1018 (some (.inl a)) (by omega) ⟨by show(1:Int)=((0:Nat):Int)+1;rfl,by omega⟩ (λi s rec hi hv=> ?_) (λs rec hv=> ?_)]
  ·rfl
  ·obtain⟨rfl,hv⟩:=hv;rw[ak (show(i:Int)+1<1019 by omega),ac,aB (by decide),hp _ (by omega) (by omega)];by_cases hm:(i:Int)+1=a
   ·right;rw[hm,c];rfl
   ·left;refine⟨_,⟨rfl,by omega⟩,?_⟩;rw[cj.2 (λh=>hm (bN5 (by omega) (by omega) h c)),aa,step _ (by omega) (by omega)];rfl
  ·obtain⟨rfl,hv⟩:=hv;omega
def y9 (a b:Int):yE a b=some (bCs a b):=by unfold yE bCs;cases dX b 1019==0<;>rfl
def aSp {σ:Type}(g:σ->Nat->σ)(s:σ)(i:Nat):(List.range (i+1)).foldl g s=g ((List.range i).foldl g s) i:=by rw[fm,fu];rfl
def getD_at {l:List Int}{i:Nat}(h:i<l.length):l.getD i 0=l[i]:=by simp[List.getD,ae h]
def bLi {l:List Int}{i:Int}(h0:0<=i)(h1:i<(l.length:Int)):bA l i=some (l.getD i.toNat 0):=by rw[qH h0 (by omega)];simp[List.getD,ae (show i.toNat<l.length by omega)]
def Qo (l:List Int)(k a:Int)(hl:l.length<=34359738368):uM l k a=some (bKd l k a):=by
 unfold uM bKd;rw[aCt hl];cases hk:(decide (k<0)||decide (k>=(l.length:Int))) with
 |true=>rfl
 |false=>
  have b:=Mq hk;rw[aa,cx];rw[Gx (τ:=Int⊕Int) (s:=((1:Int),(0:Nat))) (λi (s:Int×Nat)=>i<=l.length/\s=((List.range i).foldl (bRg l k a) 1,i)/\gM (aUv (λq=>dX q 1019) l) 0 (l.take i)=false) l.length
   (some (bif gM (aUv (λq=>dX q 1019) l) 0 l then .inl 0 else .inr ((List.range l.length).foldl (bRg l k a) 1))) (by omega) ⟨cC _,rfl,rfl⟩ (λi s rec hi hv=> ?_) (λs rec hv=> ?_)]
  ·cases gM (aUv (λq=>dX q 1019) l) 0 l<;>rfl
  ·obtain⟨_,rfl,hv⟩:=hv;simp only[dF hi,ac];rw[aQm (f:=λq=>dX q 1019) hi (by omega) (.inl (.inl (.inl 0))) (.inr ()) (λrec' j c=>by
    simp only[dF c,ac,aN (show j<l.length by omega),aN hi,bd_s]) (λrec'=>by simp only[dL,aa])]
   cases hd:aUv (λq=>dX q 1019) l i l[i] with
   |true=>right;rw[bU5 hi hd];rfl
   |false=>
    left;refine⟨_,⟨hi,rfl,bN4 hi hv hd⟩,?_⟩;rw[aSp];unfold bRg;simp only[aa,nx_r,bne];cases he:((i:Int)==k) with
    |true=>rfl
    |false=>simp only[cY,ac,aa,aN hi,bLi b.1 b.2,bd_s,aB (show(1019:Int)≠0 by decide),getD_at hi];rw[show Oi (dX (IntKind.i64.wrap (dX (l.getD k.toNat 0) 1019-dX l[i] 1019)) 1019)=Oi (IntKind.i64.wrap (dX (l.getD k.toNat 0) 1019-dX l[i] 1019)) from bKe (by rw[bN6,bN6];omega)];rfl
  ·obtain⟨_,rfl,hv⟩:=hv;simp only[dL,aa];rw[di] at hv;rw[hv];rfl
def bXa (a b:Nat):((a:Int)==(b:Int))=(a==b):=by rw[en];simp only[cH];omega
def De (ix vs:List Int)(h:ix.length<=34359738368/\vs.length<=34359738368):pK ix vs=some (aC4 ix vs):=by
 unfold pK aC4;rw[show((ix.length:Int) !=(vs.length:Int))= !(ix.length==vs.length) by rw[bne,bXa],rE,bd_s,show((ix.length:Int)==0)=(ix.length==0) by rw[show(0:Int)=((0:Nat):Int) from rfl,bXa]];cases hc:(!(ix.length==vs.length)||ix.length==0) with
 |true=>rfl
 |false=>
  simp only[bo,cR,cH,cj] at hc;have hlen:=hc.1;rw[aa,cx];rw[iF (l:=ix) (aOk ix vs) (.inl ((0:Int),false)) (.inr ()) (by omega) (λrec i hi=>by
   simp only[dF hi,ac,aN hi,aN (show i<vs.length by omega),bd_s,rE];unfold aOk;rw[getD_at (show i<vs.length by omega)];cases bK ix[i] 1 7 with
   |false=>rfl
   |true=>
    cases Db (vs[i]'(by omega)) with
    |false=>rfl
    |true=>
     simp only[ay,Bool.or_self,aa,cx];rw[aQm (f:=λq=>q) hi (by omega) (.inl (.inl ((0:Int),false))) (.inr ()) (λrec' j a=>by
      simp only[dF a,ac,aN (show j<ix.length by omega),bd_s]) (λrec'=>by simp only[dL,aa])]
     cases aUv (λq=>q) ix i ix[i]<;>rfl) (λrec=>by simp only[dL,aa])]
  cases gM (aOk ix vs) 0 ix with
  |true=>rfl
  |false=>
   simp only[aa,nx_r];rw[Gx (τ:=Int) (s:=((1:Int),(0:Nat))) (λi (s:Int×Nat)=>s=((List.range i).foldl (λo i=>aHn o (pR (vs.getD i 0) (bKd ix (i:Int) 0))) 1,i)) ix.length (some (bN2 ix vs)) (by omega) rfl (λi s rec hi hv=> ?_) (λs rec hv=> ?_)]
   ·rfl
   ·left;subst hv;refine⟨_,rfl,?_⟩;rw[aSp];simp only[dF hi,ac,aN (show i<vs.length by omega),bd_s,aB h.1,getD_at (show i<vs.length by omega)]
   ·subst hv;simp only[dL,aa];unfold bN2;rw[hlen]
def aJb (hs:List AG)(a:List Int)(h:hs.length<=34359738368/\a.length<=34359738368):Jh hs a=some (mX hs a):=by
 unfold Jh mX;rw[iF (l:=a) (aHm hs a) (.inl false) (.inr ()) (by omega) (λrec i hi=>by
  simp only[dF hi,ac,aN hi,bd_s];rw[aCt h.1];unfold aHm;cases(decide (a[i]<0)||decide (a[i]>=(hs.length:Int))) with
  |true=>rfl
  |false=>
   simp only[aa,cx];rw[aQm (f:=λq=>q) hi (by omega) (.inl (.inl false)) (.inr ()) (λrec' j b=>by
    simp only[dF b,ac,aN (show j<a.length by omega),bd_s]) (λrec'=>by simp only[dL,aa])]
   cases aUv (λq=>q) a i a[i]<;>rfl) (λrec=>by simp only[dL,aa])]
 cases gM (aHm hs a) 0 a<;>rfl
def aVg (hs:List AG)(a:List Int)(e:Int)(h:(Da AG.sz hs<=34000000000/\a.length<=100000000)/\mX hs a=true):M8 hs a e=some (qK hs a e):=by
 obtain⟨⟨h1,h2⟩,b⟩:=h;unfold M8;rw[aB (show Da AG.sz hs<=34359738368 by omega),bd_s];rw[Gx (τ:=List Int×List Int×List AG) (s:=(([]:List Int),([]:List Int),(0:Nat),hs)) (λi (s:List Int×List Int×Nat×List AG)=>s=((Dz e hs a i).2.1,(Dz e hs a i).2.2,i,(Dz e hs a i).1)) a.length
  (some ((qK hs a e).2.1,(qK hs a e).2.2,(qK hs a e).1)) (by omega) rfl (λi s rec hi hv=> ?_) (λs rec hv=> ?_)]
 ·rfl
 ·left;subst hv;refine⟨_,rfl,?_⟩;have c:=aQn (e:=e) b i (by omega);have hc:=aHo b hi;rw[R8 hi];generalize Dz e hs a i=s at*;obtain⟨q1,q2,q3,q4⟩:=c;have hk:a[i].toNat<s.1.length:=by omega
  have hg:s.1.getD a[i].toNat default=s.1[a[i].toNat]:=by simp[List.getD,ae hk]
  have d:bA s.1 a[i]=some s.1[a[i].toNat]:=qH hc.1 hk;have l:=q2 _ (cf hk);have f:=l;simp only[AG.sz] at f;simp only[dF hi,ac,aN hi,bd_s,d];unfold bFj Oh;rw[hg];generalize s.1[a[i].toNat]=x at*;simp only[rE,bd_s];cases hb:(decide (kG x.State<x.Monotonic)|| !(nI x.State e).2.2) with
  |true=>simp only[ac,aa,aB (show x.sz<=34359738368 by omega),bd_s]
  |false=>
   simp only[aa,ac,bp];rw[aB (show aV ([]:List AZ) x.Saved by unfold aV;simp only[bm];omega),aB (show aV x.Saved [x.State] by unfold aV;simp only[au,bm];omega)];have j:∀y:Int,aV s.2.1 [y]:=λy=>by unfold aV;simp only[au,bm];omega
   have k:∀y:Int,aV s.2.2 [y]:=λy=>by unfold aV;simp only[au,bm];omega
   unfold bN1;cases hd:decide (((x.Saved++[x.State]).length:Int)>30) with
   |false=>simp only[aa,aB (j _),aB (k _),bd_s]
   |true=>have:=of_decide_eq_true hd;simp only[ac,aB (show lV (x.Saved++[x.State]) 1 from⟨by omega,by omega⟩),aB (j _),aB (k _),bd_s];rfl
 ·subst hv;simp only[dL,aa];unfold Dz qK;rw[di]
def bSg {e:Int}{hs:List AG}{a:List Int}(h:mX hs a=true):AskIn (Da AG.sz hs) hs a.length (qK hs a e):=by have:=aQn (e:=e) h a.length (ai _);unfold Dz at this;rw[di] at this;exact this
def bSh (hs:List AG):hs.length<=Da AG.sz hs:=by unfold Da;omega
def aEh (v:A4)(hs:List AG)(a:List Int)(pin b:Int)(h:Da AG.sz hs<=34000000000/\a.length<=100000000):Fa v hs a pin b=some (Ih v hs a pin b):=by
 have hl:=bSh hs;unfold Fa Ih bN3;rw[aB (show hs.length<=34359738368/\a.length<=34359738368 by omega),bd_s];cases hc:mX hs a with
 |false=>simp only[aB (show Da AG.sz hs<=34359738368 by omega),bd_s];rfl
 |true=>
  simp only[ay,aa,rE,bd_s,cw];rw[show(!(!(dX b 1019==0)&&bK pin 0 9999))=(dX b 1019==0|| !bK pin 0 9999) by rw[Bool.not_and,Bool.not_not]];cases(dX b 1019==0|| !bK pin 0 9999) with
  |true=>simp only[aB (show Da AG.sz hs<=34359738368 by omega),bd_s,ac]
  |false=>obtain⟨q1,q2,q3,q4⟩:=bSg (e:=Ai v.Salt pin b) hc;simp only[aa];rw[aB ⟨⟨h.1,h.2⟩,trivial⟩,bd_s,aB (show(qK hs a (Ai v.Salt pin b)).2.1.length<=34359738368/\(qK hs a (Ai v.Salt pin b)).2.2.length<=34359738368 by omega),bd_s];unfold qR;generalize qK hs a (Ai v.Salt pin b)=r at*;rw[show decide ((r.2.2.length:Int)<(a.length:Int))=decide (r.2.2.length<a.length) by rw[cF];omega];cases decide ((a.length:Int)<v.Threshold)<;>cases decide (r.2.2.length<a.length)<;>cases(aC4 r.2.1 r.2.2).2<;>rfl
def bXb (w:AA):Da AG.sz w.Hosts<=w.sz/\w.Mail.sz<=w.sz:=by simp only[AA.sz,AS.sz,Da];omega
def A7 (w:AA)(a:List Int)(pin:Int)(h:w.sz<=34000000000/\a.length<=100000000):yF w a pin=some (fP w a pin):=by
 obtain⟨q1,q2⟩:=bXb w;unfold yF fP;rw[aB (show w.sz<=34359738368 by omega),bd_s,aB (show w.sz<=34359738368 by omega),bd_s];cases aQ w with
 |false=>rfl
 |true=>rw[aB (by simp),bd_s,aB (by decide),aB (show Da AG.sz w.Hosts<=34000000000/\a.length<=100000000 by omega),bd_s,aB (show w.Mail.sz<=34359738300 by omega),bd_s];rfl
def aEi (w:AA)(pin:Int)(h:w.sz<=33000000):Fb w pin=some (wF w pin):=by
 have hl:w.Hosts.length<=w.sz:=by simp only[AA.sz];omega
 have a:=aQo w;unfold Fb;have hn:(min w.aAO.Threshold ((w.Hosts.length:Int)+1)).toNat<=w.Hosts.length+1:=by omega
 rw[Gx (τ:=List Int) (s:=(([]:List Int),(0:Int))) (λi (s:List Int×Int)=>s=((List.range i).map (λ(k:Nat)=>(k:Int)),(i:Int))) (min w.aAO.Threshold ((w.Hosts.length:Int)+1)).toNat (some (vN w)) (by omega) rfl (λi s rec hi hv=> ?_) (λs rec hv=> ?_)]
 ·rw[bd_s,aB (show w.sz<=34000000000/\(vN w).length<=100000000 by omega)];rfl
 ·left;subst hv;refine⟨_,rfl,?_⟩;simp only[aZz,bd_s];rw[ak (show(i:Int)<w.aAO.Threshold by omega),ak (show(i:Int)<=(w.Hosts.length:Int) by omega),du,ac,aB (show aV ((List.range i).map (λ(k:Nat)=>(k:Int))) [(i:Int)] by unfold aV;simp only[bh,fc,au,bm];omega),aI (by omega) (by omega),fm,dc];rfl
 ·subst hv;simp only[aZz,bd_s];generalize hm:(min w.aAO.Threshold ((w.Hosts.length:Int)+1)).toNat=m;rw[show(decide ((m:Int)<w.aAO.Threshold)&&decide ((m:Int)<=(w.Hosts.length:Int)))=false by
   rw[Bool.and_eq_false_iff,cu,cu];omega,aa]
  unfold vN;rw[hm]
def Z8 (w:AA)(d:Int)(h:w.sz<=34359738368):Bi w d=some (oK w d):=by
 unfold Bi oK;simp only[aB h,bd_s];cases ht:dV w d 0 with
 |false=>rfl
 |true=>simp only[ay,aa,Zh ht,bd_s,cw];cases eT w d<;>rfl
def bGe (l:List Int):bFy l=some (bN7 l):=rfl
def A8 (a b:AB)(h:EqZ a.sz a b/\a.sz<=34359738368):yO a b=some true:=by obtain⟨⟨rfl,_⟩,c⟩:=h;have hl:a.Entries.length<=34359738368:=c;unfold yO;rw[dr,aa,bUw (a:=a.Entries) (by omega) (λrec i hi=>by simp[hi,aN hi]) (λrec=>by simp)];rfl
def bPo (x:Int):0<=oQ IntKind.i64 x 255/\oQ IntKind.i64 x 255<=255:=by unfold oQ;rw[BitVec.toNat_and];have h:((BitVec.ofInt IntKind.i64.bits x).toNat&&&(BitVec.ofInt IntKind.i64.bits 255).toNat)<=255:=ca Nat.and_le_right (by decide);rw[aI (by omega) (by omega)];omega
def aEj {c:AR}(h:dP c):dP (lK c).1/\0<=(lK c).2/\(lK c).2<=255:=by
 unfold lK;obtain⟨h1,h2⟩:=h;cases hc:decide (c.i<(c.b.length:Int)) with
 |true=>have hc:=of_decide_eq_true hc;refine⟨⟨?_,h2⟩,bPo _⟩;show 0<=IntKind.i64.wrap (c.i+1);rw[aI (by omega) (by omega)];omega
 |false=>exact⟨⟨h1,h2⟩,bPo _⟩
def bQ {c:AR}(h:dP c)(n:Int):dP (dZ c n).1/\0<=(dZ c n).2/\(0<n->(dZ c n).2<n)/\(n<=0->(dZ c n).2=0):=by
 obtain⟨h1,h2,a⟩:=aEj h;obtain⟨k1,k2,k3⟩:=aEj h1;obtain⟨l1,l2,b⟩:=aEj k1;unfold dZ;by_cases hn:n<=0
 ·rw[ak hn];exact⟨h,cJ _,λq=>absurd q (by omega),λ_=>rfl⟩
 ·rw[ao hn];have hn:0<n:=by omega
  simp only[aa];by_cases hb:n<=256
  ·rw[ak hb];exact⟨h1,gb n h2,λ_=>gf _ hn,λq=>absurd q (by omega)⟩
  ·rw[ao hb];simp only[aa];generalize(lK c).2=x at*;generalize(lK (lK c).1).2=y at*;generalize(lK (lK (lK c).1).1).2=z at*;rw[aI (show-9223372036854775808<=x*65536 by omega) (by omega),aI (show-9223372036854775808<=y*256 by omega) (by omega),aI (show-9223372036854775808<=x*65536+y*256 by omega) (by omega),aI (show-9223372036854775808<=x*65536+y*256+z by omega) (by omega)];exact⟨l1,gb n (by omega),λ_=>gf _ hn,λq=>absurd q (by omega)⟩
def bSi {a b c d e:Int}(h:0<=a)(i:a<4)(b1:0<=b)(j:b<3)(l:0<=c)(f:0<IntKind.i64.wrap (1+a)->c<IntKind.i64.wrap (1+a))(d1:0<=d)(d2:d<40)(m:0<=e)(o:e<999):
  ∃n k t p s,bZ (IntKind.i64.wrap (1+b)) (IntKind.i64.wrap (1+a)) (IntKind.i64.wrap (1+c)) d (IntKind.i64.wrap (1+e))=bZ n k t p s/\Tn n k t p s=true/\1<=s/\s<=999:=by
 rw[aI (show-9223372036854775808<=1+a by omega) (by omega)] at f ⊢;have f:=f (by omega);rw[aI (show-9223372036854775808<=1+b by omega) (by omega),aI (show-9223372036854775808<=1+c by omega) (by omega),aI (show-9223372036854775808<=1+e by omega) (by omega)];refine⟨_,_,_,_,_,rfl,?_,by omega,by omega⟩;unfold Tn;rw[show bL (1+e)=true from gT (by omega) (by omega),gT (show(1:Int)<=1+b by omega) (by omega),gT (show(1:Int)<=1+a by omega) (by omega),gT (show(1:Int)<=1+c by omega) (by omega),gT d1 (by omega)];rfl
def aSq {c:AR}(h:dP c):dP (oL c).1/\∃n k t p s,(oL c).2=bZ n k t p s/\Tn n k t p s=true/\1<=s/\s<=999:=by have a:dP (dA c).1:=(bQ h 4).1;have b:dP (dB c).1:=(bQ a 3).1;have d:dP (dC c).1:=(bQ b (IntKind.i64.wrap (1+(dA c).2))).1;have e:dP (dD c).1:=(bQ d 40).1;have f:dP (dE c).1:=(bQ e 999).1;have i:0<=(dA c).2:=(bQ h 4).2.1;have j:(dA c).2<4:=(bQ h 4).2.2.1 (by decide);have b1:0<=(dB c).2:=(bQ a 3).2.1;have l:(dB c).2<3:=(bQ a 3).2.2.1 (by decide);have m:0<=(dC c).2:=(bQ b (IntKind.i64.wrap (1+(dA c).2))).2.1;have o:0<IntKind.i64.wrap (1+(dA c).2)->(dC c).2<IntKind.i64.wrap (1+(dA c).2):=(bQ b (IntKind.i64.wrap (1+(dA c).2))).2.2.1;have d1:0<=(dD c).2:=(bQ d 40).2.1;have d2:(dD c).2<40:=(bQ d 40).2.2.1 (by decide);have q:0<=(dE c).2:=(bQ e 999).2.1;have r:(dE c).2<999:=(bQ e 999).2.2.1 (by decide);unfold oL;dsimp only;exact⟨f,bSi i j b1 l m o d1 d2 q r⟩
def bIo {l:List Int}(h:l.length<=1048576):3<=Ea l 14/\Ea l 14<=14:=by
 have h1:=Int.tdiv_nonneg (a:=(l.length:Int)) (b:=12) (by omega) (by decide);have h2:(l.length:Int).tdiv 12<=(l.length:Int):=Int.tdiv_le_self _ (by omega);unfold Ea;rw[aI (show-9223372036854775808<=(l.length:Int).tdiv 12 by omega) (by omega),aI (show-9223372036854775808<=3+(l.length:Int).tdiv 12 by omega) (by omega)];by_cases c:3+(l.length:Int).tdiv 12>14
 ·rw[ak c];exact⟨show(3:Int)<=14 by decide,show(14:Int)<=14 by decide⟩
 ·rw[ao c];show 3<=3+(l.length:Int).tdiv 12/\3+(l.length:Int).tdiv 12<=14;omega
def bPp {l:List Int}(h:l.length<=1048576):dP (bKf l):=⟨cJ _,h⟩
def aVh (c:AR)(h:dP c):K5 c=some (lK c):=by
 unfold K5 lK;rw[aB (by decide),aB (by decide)];cases hc:decide (c.i<(c.b.length:Int)) with
 |true=>have hc:=of_decide_eq_true hc;have h0:=h.1;rw[ac,ac,qH h0 (by omega),List.getD,ae (show c.i.toNat<c.b.length by omega)];rfl
 |false=>rfl
def aSr (c:AR)(n:Int)(h:dP c):Tz c n=some (dZ c n):=by
 have h1:=(aEj h).1;have h2:=(aEj h1).1;unfold Tz dZ;by_cases hn:n<=0
 ·rw[ak hn];rfl
 ·rw[ao hn];by_cases hb:n<=256
  ·rw[ak hb];simp only[aa,ac,aB h,bd_s,aB (show n≠0 by omega)]
  ·rw[ao hb];simp only[aa,aB h,aB h1,aB h2,bd_s,aB (show n≠0 by omega)]
def aVi (c:AR)(n:Int)(h:dP c):M4 c n=some (Oj c n):=by unfold M4;rw[aB h];rfl
def aVj (l:List Int)(m:Int):M3 l m=some (Ea l m):=by unfold M3 Ea;rw[aB (by decide)];cases decide (IntKind.i64.wrap (3+IntKind.i64.wrap ((l.length:Int).tdiv 12))>m)<;>rfl
def aVk (c:AR)(h:dP c):M0 c=some (oL c):=by have b:dP (dA c).1:=(bQ h 4).1;have d:dP (dB c).1:=(bQ b 3).1;have e:dP (dC c).1:=(bQ d (IntKind.i64.wrap (1+(dA c).2))).1;have f:dP (dD c).1:=(bQ e 40).1;unfold M0;exact fE (a:=dA c) (aB h) (fE (a:=dB c) (aB b) (fE (a:=dC c) (aB d) (fE (a:=dD c) (aB e) (fE (a:=dE c) (aB f) rfl))))
def bPq {c:AR}(h:dP c):dP (Na c).1/\aG9 (Na c).2:=by
 have e:dP (eA c).1:=(bQ h 13).1;have s:0<=(eA c).2:=(bQ h 13).2.1;have t:(eA c).2<13:=(bQ h 13).2.2.1 (by decide);have i:dP (eB c).1:=(bQ e 4).1;have j:0<=(eB c).2:=(bQ e 4).2.1;have u:(eB c).2<4:=(bQ e 4).2.2.1 (by decide);have l:dP (eC c).1:=(bQ i 3).1;have m:0<=(eC c).2:=(bQ i 3).2.1;have w:(eC c).2<3:=(bQ i 3).2.2.1 (by decide);have n:dP (eD c).1:=(bQ l 4).1;have d2:0<=(eD c).2:=(bQ l 4).2.1;have d3:(eD c).2<4:=(bQ l 4).2.2.1 (by decide);have a:dP (eE c).1:=(bQ n 3).1;have o:dP (dZ (eE c).1 40).1:=(bQ a 40).1;have p:0<=(dZ (eE c).1 40).2:=(bQ a 40).2.1;have f3:(dZ (eE c).1 40).2<40:=(bQ a 40).2.2.1 (by decide);have r:dP (Oj (eE c).1 2).1:=(bQ a 2).1;have hk:1<=eK c/\eK c<=13:=by unfold eK;rw[aI (by omega) (by omega)];omega
 unfold Na;generalize eK c=k at*;generalize(eB c).2=b at*;generalize(eC c).2=d at*;generalize(eD c).2=v at*;generalize(dZ (eE c).1 40)=f at*;generalize(Oj (eE c).1 2)=g at*;generalize eE c=q at*;cases h1:k==11 with
 |true=>rw[cH] at h1;exact⟨o,hk,⟨j,by show b<=3;omega⟩,⟨m,by show d<=2;omega⟩,⟨p,by show f.2<=39;omega⟩,λq=>absurd h1 q⟩
 |false=>
  cases h2:k==4||k==13 with
  |true=>
   refine⟨r,?_,⟨j,by show b<=3;omega⟩,⟨m,by show d<=2;omega⟩,⟨d2,by show v<=39;omega⟩,λ_=>by show v<=3;omega⟩;show 1<=(bif g.2 then(2:Int) else k)/\(bif g.2 then(2:Int) else k)<=13;cases g.2
   ·exact hk
   ·exact⟨show(1:Int)<=2 by decide,show(2:Int)<=13 by decide⟩
  |false=>exact⟨a,hk,⟨j,by show b<=3;omega⟩,⟨m,by show d<=2;omega⟩,⟨d2,by show v<=39;omega⟩,λ_=>by show v<=3;omega⟩
def bGf {c:AR}(h:dP c):∀n,dP (Dc c n).1/\(Dc c n).2.length=n/\∀e∈(Dc c n).2,aG9 e
 |0=>⟨h,rfl,λe he=>by simp[Dc] at he⟩
 |n+1=>by
  obtain⟨h1,h2,a⟩:=bGf h n;obtain⟨k1,k2⟩:=bPq h1;refine⟨k1,by simp[Dc,h2],λe he=> ?_⟩;simp only[Dc,bu,cm] at he;rcases he with he|rfl
  ·exact a e he
  ·exact k2
def bSj {l:List Int}(h:l.length<=1048576):(∃n k t p s,(aLo l).1=bZ n k t p s/\Tn n k t p s=true/\1<=s/\s<=999)/\(aLo l).2.length<=19/\∀e∈(aLo l).2,aG9 e:=by
 obtain⟨h1,h2⟩:=aSq (bPp h);have hs:=bIo h;have hm:IntKind.i64.wrap (6+Ea l 14)<=20/\0<IntKind.i64.wrap (6+Ea l 14):=by rw[aI (by omega) (by omega)];omega
 obtain⟨k1,k2,k3,_⟩:=bQ h1 (IntKind.i64.wrap (6+Ea l 14));obtain⟨_,a,b⟩:=bGf k1 (dZ (oL (bKf l)).1 (IntKind.i64.wrap (6+Ea l 14))).2.toNat;refine⟨h2,?_,b⟩;show(Dc _ _).2.length<=19;rw[a];have:=k3 hm.2;omega
def aM5 (c:AR)(h:dP c):Pe c=some (Na c):=by
 have d:dP (eA c).1:=(bQ h 13).1;have e:dP (eB c).1:=(bQ d 4).1;have f:dP (eC c).1:=(bQ e 3).1;have i:dP (eD c).1:=(bQ f 4).1;have b:dP (eE c).1:=(bQ i 3).1;unfold Pe;refine fE (a:=eA c) (aB h) (fE (a:=eB c) (aB d) (fE (a:=eC c) (aB e) (fE (a:=eD c) (aB f) (fE (a:=eE c) (aB i) ?_))));change bd (bif eK c==11 then _ else bd (bif eK c==4 then _ else some (eK c==13)) _) _=_;unfold Na;cases eK c==11 with
 |true=>simp only[ac];exact fE (fE (a:=dZ (eE c).1 40) (aB b) rfl) rfl
 |false=>
  simp only[aa];rw[show(bif eK c==4 then(some true:Option Bool) else some (eK c==13))=some (eK c==4||eK c==13) by cases eK c==4<;>rfl,bd_s];cases eK c==4||eK c==13 with
  |true=>
   simp only[ac];cases hq:(Oj (eE c).1 2).2 with
   |true=>exact fE (fE (a:=Oj (eE c).1 2) (aB b) (by rw[hq];rfl)) rfl
   |false=>exact fE (fE (a:=Oj (eE c).1 2) (aB b) (by rw[hq];rfl)) rfl
  |false=>rfl
def aJc (c:AR)(m:Int)(h:dP c/\m<=256):Je c m=some (Yw c m):=by
 obtain⟨h,hm⟩:=h;obtain⟨k1,k2,k3,k4⟩:=bQ h m;have hv:(dZ c m).2<=256:=by
  by_cases h0:0<m
  ·have:=k3 h0;omega
  ·rw[k4 (by omega)];decide
 unfold Je Yw;rw[aB h,bd_s];generalize(dZ c m).1=a at*;generalize(dZ c m).2=v at*;obtain⟨n,rfl⟩:=ee k2;rw[bv];refine fE (vR (r:=((Dc a n).2,(Dc a n).1.b,(Dc a n).1.i,(Dc a n).1.h)) (λi=>((Dc a i).2,((n-i:Nat):Int),(Dc a i).1.b,(Dc a i).1.i,(Dc a i).1.h)) n (by omega) (λrec i hi=> ?_) (λrec=> ?_) rfl) rfl
 ·obtain⟨q1,q2,_⟩:=bGf k1 i;simp only[ak (show((n-i:Nat):Int)>0 by omega),ac];rw[aB (show dP ⟨(Dc a i).1.b,(Dc a i).1.i,(Dc a i).1.h⟩ from q1),bd_s,aB (by unfold aV;rw[q2,cr];omega),show IntKind.i64.wrap (((n-i:Nat):Int)-1)=((n-(i+1):Nat):Int) by rw[aI (by omega) (by omega)];omega];rfl
 ·simp only[fx,ao (show ¬((0:Nat):Int)>0 by decide),aa]
def Z9 (l:List Int)(h:l.length<=1048576):Bf l=some (aLo l):=by
 unfold Bf;refine fE (a:=bS5 l) (vR (λi=>(bHy l i,(i:Int))) (min l.length 4000) (by omega) (λrec i hi=> ?_) (λrec=> ?_) rfl) ?_
 ·simp only[ak (show(i:Int)<(l.length:Int) by omega),ak (show(i:Int)<4000 by omega),ac,bd_s,aN (show i<l.length by omega)];rw[show IntKind.i64.wrap ((i:Int)+1)=((i+1:Nat):Int) by rw[aI (by omega) (by omega)];omega,bHy,List.getD,ae (show i<l.length by omega)];rfl
 ·by_cases hl:l.length<4000
  ·simp only[ao (show ¬((min l.length 4000:Nat):Int)<(l.length:Int) by omega),aa,bd_s];rfl
  ·simp only[ao (show ¬((min l.length 4000:Nat):Int)<4000 by omega),bLv,bd_s,aa];cases decide (((min l.length 4000:Nat):Int)<(l.length:Int))<;>rfl
 ·have hs:=bIo h;have h1:=bPp h;exact fE (a:=oL (bKf l)) (aB h1) (fE (a:=Yw (oL (bKf l)).1 (IntKind.i64.wrap (6+Ea l 14))) (aB ⟨(aSq h1).1,by rw[aI (by omega) (by omega)];omega⟩) rfl)
def Kl (b:AP)(now:Int)(h:b.sz<=34359738368):rM b now=some (nU b now):=by
 unfold rM nU;rw[aB h,bd_s];cases hb:eQ b with
 |false=>rw[cY,ac,aB h];rfl
 |true=>
  have hl:b.Open.length<=16:=by unfold eQ at hb;simp only[ab,bq] at hb;exact hb.1.2
  simp only[ay,aa,ac];refine fE (a:=b.Open.filter λc=>decide (c.Until>=now)) (vR (λi=>(i,(b.Open.take i).filter λc=>decide (c.Until>=now))) b.Open.length (by omega) (λrec i hi=> ?_) (λrec=> ?_) rfl) rfl
  ·simp only[dF hi,ac,aN hi,bd_s];have hk:((b.Open.take i).filter λc=>decide (c.Until>=now)).length<=16:=ca (e9 _ _) (by rw[bw];omega);rw[gi hi,jh];cases hc:decide (b.Open[i].Until>=now) with
   |true=>rw[ac,aB (by unfold aV;rw[cr];omega),bd_s,gr,hc];rfl
   |false=>rw[aa,bd_s,gr,hc];simp
  ·simp only[dL,aa,di]
def aSs (w:AA)(h:w.sz<=34359738368):Vb w=some (uD w):=by
 unfold Vb uD;rw[aB h,bd_s];refine fE (a:=aQ (sP w)) (aB (show(sP w).sz<=34359738368 from h)) ?_;cases c:aQ (sP w) with
 |false=>rfl
 |true=>
  obtain⟨h2,_⟩:=Gg c;change w.Sites.length=2 at h2;have b:∀s∈w.Sites,s.Book.sz<=34359738368:=λs hs=>by
   have h1:s.sz<=w.sz:=by obtain⟨i,hi,rfl⟩:=dh.1 hs;have:=wD (f:=AC.sz) hi;rw[List.getD,ae hi,ci] at this;simp only[AA.sz];omega
   have:s.Book.sz<=s.sz:=by simp only[AC.sz,AP.sz];omega
   omega
  obtain⟨s0,s1,e⟩:∃s0 s1,w.Sites=[s0,s1]:=by
   match hq:w.Sites,h2 with
   |[s0,s1],_=>exact⟨s0,s1,rfl⟩
  rw[e] at b;have d:=b s0 (by simp);have j:=b s1 (by simp);rw[ay,aa,ac];change bd (bU FUEL _ (0,w.Sites)) _=_;rw[e];refine fE (vR (λi=>(i,match i with|0=>[s0,s1]|1=>[{s0 with Book:=nU s0.Book (sP w).Now},s1]|_=>[{s0 with Book:=nU s0.Book (sP w).Now},{s1 with Book:=nU s1.Book (sP w).Now}])) 2 (by omega) (λrec i hi=> ?_) (λrec=> ?_) rfl) rfl
  ·rcases(show i=0\/i=1 by omega) with rfl|rfl
   ·exact fE (aB d) rfl
   ·exact fE (aB j) rfl
  ·rfl
def aEk (w:AA)(d j:Int)(o:ByteArray)(h:aHp w d j o/\w.sz<=34359738200):Et w d j o=some (aOl w d j o):=by
 have a:w.sz<=34359738368:=by omega
 unfold Et aOl;simp only[aB a,bd_s];cases ht:dV w d j with
 |false=>rfl
 |true=>
  simp only[ay,aa,Zh ht,bd_s,cw];cases eT w d with
  |true=>rfl
  |false=>simp only[cY,aa,ac];exact fE (aB (show nH (AQ.mk true o 443)/\w.sz<=34359738200 from⟨h.1 ht,h.2⟩)) rfl
def aEl (w:AA)(d j:Int)(b:w.sz<=34359738200):Eu w d j=some (Tq w d j):=by
 have a:w.sz<=34359738368:=by omega
 unfold Eu Tq;simp only[aB a,bd_s,aB (bIm j)];cases ht:dV w d j with
 |false=>rfl
 |true=>
  simp only[ay,aa,Zh ht,bd_s,cw];cases eT w d with
  |false=>rfl
  |true=>simp only[ay,aa,ac];exact fE (aB (show nH (aQd j)/\w.sz<=34359738200 from⟨bNz (We ht).2.2.2.1,b⟩)) rfl
def bSk (w:AA)(d j:Int):aHp w d j (aQe j).Host:=λht=>by
 rcases(We ht).2.2.2.1 with rfl|rfl
 ·exact⟨4,by decide,rfl⟩
 ·exact⟨5,by decide,rfl⟩
def aVl (w:AA)(e:A3)(b:w.sz<=34359738200):M6 w e=some (S9 w e):=by
 have hn:=Wi e.Other;unfold M6 S9;cases e.Kind==2 with
 |true=>rw[ac,aB b];rfl
 |false=>
  cases e.Kind==3 with
  |true=>rw[aa,ac,aB (by show 6+(aA e.Other).size<=_;omega),aB (by rw[ByteArray.size_append];show 6+(aA e.Other).size+9<=_;omega)];refine fE (a:=((lJ w e.Device e.Other).2,(lJ w e.Device e.Other).1.Now,(lJ w e.Device e.Other).1.Seed,(lJ w e.Device e.Other).1.Devices,(lJ w e.Device e.Other).1.Stolen,(lJ w e.Device e.Other).1.aAC.Log,(lJ w e.Device e.Other).1.aAC.Boxes.Epoch,(lJ w e.Device e.Other).1.aAC.Boxes.Boxes,(lJ w e.Device e.Other).1.aAC.History,(lJ w e.Device e.Other).1.Sites,(lJ w e.Device e.Other).1.aAO.Salt,(lJ w e.Device e.Other).1.aAO.Threshold,(lJ w e.Device e.Other).1.aAO.Check,(lJ w e.Device e.Other).1.aAO.Masked,(lJ w e.Device e.Other).1.Hosts,(lJ w e.Device e.Other).1.Pin,(lJ w e.Device e.Other).1.Mail.Notices)) (fE (aB (show aHp w e.Device e.Other (aQe e.Other).Host/\w.sz<=34359738200 from⟨bSk _ _ _,b⟩)) rfl) rfl
  |false=>rw[aa,aa,aB b];rfl
def aAa (w:AA)(e:A3)(h:w.sz<=33000000):Bj w e=some (aQp w e):=by
 have a:w.sz<=34359738368:=by omega
 unfold Bj aQp;cases e.Kind==11 with
 |true=>rw[ac,aB h];rfl
 |false=>
 cases e.Kind==12 with
 |true=>rw[aa,ac,aB a];rfl
 |false=>
 cases e.Kind==13 with
 |true=>rw[aa,aa,ac,aB a];rfl
 |false=>rw[aa,aa,aa,aB a];rfl
def aEm (w:AA)(e:A3)(h:w.sz<=33000000):Fg w e=some (evF w e):=by
 have a:w.sz<=34359738368:=by omega
 have d:w.sz<=34359738200:=by omega
 have f:w.sz<=100000000:=by omega
 have i:w.sz<=34359738300:=by omega
 have j:w.sz<=10000000000:=by omega
 have k:w.sz<=34359738100:=by omega
 unfold Fg evF R9;rw[aB a,bd_s];cases aQ w with
 |false=>rw[cY,ac,aB a];rfl
 |true=>
 simp only[ay,aa,aB a,aB d,aB f,aB j,aB k,aB h,bd_s];cases h1:e.Kind==1 with
 |true=>rfl
 |false=>
 simp only[aa];cases h2:e.Kind==2 with
 |true=>simp only[ac,bd_s];unfold S9;rw[h2];rfl
 |false=>
 cases b:e.Kind==3 with
 |true=>simp only[ac,aa,bd_s];unfold S9;rw[h2,b];rfl
 |false=>
 simp only[aa,bd_s];cases c:e.Kind==5 with
 |true=>rw[show(e.Kind==4)=false by rw[cH] at c;rw[c];rfl];simp only[ac,aa];unfold S9;rw[h2,b];rfl
 |false=>
 simp only[aa];cases m:e.Kind==4 with
 |true=>rfl
 |false=>
 cases n:e.Kind==6 with
 |true=>rfl
 |false=>
 cases o:e.Kind==7 with
 |true=>rfl
 |false=>
 cases p:e.Kind==8 with
 |true=>simp only[aa,ac];rw[aB (show w.sz<=34359738300/\_ from⟨i,by decide⟩)];rfl
 |false=>
 cases q:e.Kind==9 with
 |true=>rfl
 |false=>
 cases l:e.Kind==10 with
 |true=>rfl
 |false=>
 simp only[aa];show bd (some (aQp w e)) _=_;rw[bd_s];rfl
def aJd (w:AA)(l:List A3)(h:bCv w l):Jm w l=some (bKg w l):=by
 unfold Jm;rw[aB h.1,bd_s];refine fE (a:=((runN w l (min l.length 60)).Now,(runN w l (min l.length 60)).Seed,(runN w l (min l.length 60)).Devices,(runN w l (min l.length 60)).Stolen,(runN w l (min l.length 60)).aAC.Log,(runN w l (min l.length 60)).aAC.Boxes.Epoch,(runN w l (min l.length 60)).aAC.Boxes.Boxes,(runN w l (min l.length 60)).aAC.History,(runN w l (min l.length 60)).Sites,(runN w l (min l.length 60)).aAO.Salt,(runN w l (min l.length 60)).aAO.Threshold,(runN w l (min l.length 60)).aAO.Check,(runN w l (min l.length 60)).aAO.Masked,(runN w l (min l.length 60)).Hosts,(runN w l (min l.length 60)).Pin,(runN w l (min l.length 60)).Mail.Notices)) (vR (λi=>((i:Int),(runN w l i).Now,(runN w l i).Seed,(runN w l i).Devices,(runN w l i).Stolen,(runN w l i).aAC.Log,(runN w l i).aAC.Boxes.Epoch,(runN w l i).aAC.Boxes.Boxes,(runN w l i).aAC.History,(runN w l i).Sites,(runN w l i).aAO.Salt,(runN w l i).aAO.Threshold,(runN w l i).aAO.Check,(runN w l i).aAO.Masked,(runN w l i).Hosts,(runN w l i).Pin,(runN w l i).Mail.Notices)) (min l.length 60) (by omega) (λrec i hi=> ?_) (λrec=> ?_) rfl) rfl
 ·simp only[ak (show(i:Int)<(l.length:Int) by omega),ak (show(i:Int)<60 by omega),ac,bd_s,aN (show i<l.length by omega)];refine fE (aB (show(runN w l i).sz<=33000000 from h.2 i hi)) ?_;rw[show IntKind.i64.wrap ((i:Int)+1)=((i+1:Nat):Int) by rw[aI (by omega) (by omega)];omega];have:l[i]'(by omega)=l.getD i default:=by rw[List.getD,ae (show i<l.length by omega)];rfl
  rw[this];rfl
 ·by_cases hl:l.length<60
  ·simp only[ao (show ¬((min l.length 60:Nat):Int)<(l.length:Int) by omega),aa,bd_s]
  ·simp only[ao (show ¬((min l.length 60:Nat):Int)<60 by omega),bLv,bd_s,aa];cases decide (((min l.length 60:Nat):Int)<(l.length:Int))<;>rfl
def bVq (n k t pin seed:Int):(bZ n k t pin seed).Hosts.length<=7:=by
 unfold bZ;cases Tn n k t pin seed with
 |false=>exact cC _
 |true=>exact(aC3 pin 7 (aY seed [283]) (IntKind.i64.wrap (1+(aY seed [293]).tmod 1018)) (Tj seed t) k 5).1
def bD0 {w:AA}{l:List A3}(h:WIn w.Devices.length w)(a:w.Hosts.length<=400):∀k,WIn (runN w l k).Devices.length (runN w l k)/\(runN w l k).Hosts.length<=400/\(runN w l k).sz<=w.sz+3000*k/\(runN w l k).Seed=w.Seed
 |0=>⟨h,a,ai _,rfl⟩
 |k+1=>by
  obtain⟨h1,h2,c,b⟩:=bD0 (l:=l) h a k;have:=bFr h1 h2 (l.getD k default).Kind (l.getD k default).Device (l.getD k default).Other (l.getD k default).Value (l.getD k default).Flag;exact⟨this.kept.wi,ca this.hosts h2,by have:=this.kept.sz;show(R9 _ _ _ _ _ _).1.sz<=_;omega,this.kept.seed.trans b⟩
def A9 (a b:AB)(h:a.sz<=34359738368):yN a b=some (mP a b):=by
 unfold yN mP;have hl:a.Entries.length<=34359738368:=by simp only[AB.sz] at h;omega
 by_cases he:a.Entries.length=b.Entries.length
 ·rw[show((a.Entries.length:Int) !=(b.Entries.length:Int))=false by simp[he],aa,cH.2 he,cw];rw[jT (l:=a.Entries.zip b.Entries) (λp=> !AH.eqB p.1 p.2) (.inl false) (.inr ()) (by rw[kf];omega) (λrec i hi=>by
   rw[kf] at hi;simp only[dF (show i<a.Entries.length by omega),ac,aN (show i<a.Entries.length by omega),aN (show i<b.Entries.length by omega),bd_s,jy];rfl) (λrec=>by
   rw[kf,<-he,Nat.min_self];simp only[dL,aa]),bHg]
  cases(List.zipWith AH.eqB a.Entries b.Entries).all id<;>rfl
 ·rw[show((a.Entries.length:Int) !=(b.Entries.length:Int))=true by simp;omega,ac,cj.2 he];rfl
def Qp (w:AA)(h:Dt w):uR w=some (aZv w):=by unfold uR;rw[aB h];rfl
def aM6 (w:AA)(d:Int)(h:Dt w):Pt w d=some (Mk w d):=by
 unfold Pt Mk;rw[Yj h];cases hd:aL w d with
 |false=>rfl
 |true=>
  have a:=h.2.2.1;simp only[ay,aa,lN hd,bd_s];rw[jT (l:=w.aAC.Log) (λe=>e.Kind==2&&e.Device==aT (aG w d).Store) (.inl true) (.inr ()) (by omega) (λrec i hi=>by
   simp only[dF hi,ac,aN hi,bd_s];cases w.aAC.Log[i].Kind==2<;>rfl) (λrec=>by simp only[dL,aa])]
  unfold dY;cases w.aAC.Log.any _<;>rfl
def aJe (w:AA)(d:Int)(h:Dt w/\w.aAC.Boxes.sz<=34359738368):Kc w d=some (qO w d):=by
 unfold Kc qO;rw[Yj h.1];cases hd:aL w d with
 |false=>rfl
 |true=>
  simp only[ay,aa,lN hd,bd_s,aB h.1,aB h.2,aB h.1.2.2.1,cw];cases bC w d with
  |false=>rfl
  |true=>simp only[ay,aa,cx];cases(aG w d).Epoch !=aC w.aAC.Log<;>rfl
def Wl (w:AA)(h:w.Hosts.length<=34359738368):xG w=some (jN w):=by
 unfold xG;rw[jT (l:=w.Hosts) (λh=>decide (h.State.Guesses>h.State.Limit)||decide (kG h.State>h.Monotonic)) (.inl false) (.inr ()) (by omega) (λrec i hi=>by
  simp only[dF hi,ac,aN hi,bd_s];cases decide (w.Hosts[i].State.Guesses>w.Hosts[i].State.Limit)<;>rfl) (λrec=>by simp only[dL,aa])]
 unfold jN;cases w.Hosts.any _<;>rfl
def bLj (a b:AD):(bif !(mP a.aAD b.aAD) then some true else bif (a.Epoch !=b.Epoch) then some true else bif (a.Version !=b.Version) then some true else some (a.Key !=b.Key))=some (!aPv a b):=by unfold aPv;cases mP a.aAD b.aAD<;>cases h1:(a.Epoch==b.Epoch)<;>cases h2:(a.Version==b.Version)<;>cases c:(a.Key==b.Key)<;>simp[bne,h1,h2,c]
def bVr {w:AA}{d:Int}(h:w.sz<=34359738368)(hd:aL w d=true):(aG w d).aAD.sz<=34359738368:=by
 have h2:=(aYt hd).2.2.1;have a:(aG w d).aAD.sz<=(aG w d).sz:=by simp only[AD.sz,AB.sz];omega
 omega
def aAb (w:AA)(h:w.sz<=34359738368):Cg w=some (aXt w):=by
 unfold Cg aXt;rw[aB (U6 h),bd_s];have b:=aXu w;have hl:=aYp w;generalize aX w=l at*;rw[jT (l:=l) (λi=> !aPv (aG w (l.getD 0 0)) (aG w i)) (.inl false) (.inr ()) (by omega) (λrec i hi=>by
  have h0:l[0]'(by omega)=l.getD 0 0:=by rw[List.getD,ae (show 0<l.length by omega)];rfl
  have hd:=b _ (cf hi);have a:=b _ (cf (show 0<l.length by omega));have c:bA l 0=some (l.getD 0 0):=by rw[<-h0];exact aN (show 0<l.length by omega)
  rw[h0] at a;simp only[dF hi,ac,aN hi,bd_s,c,lN hd,lN a,aB (bVr h a),bLj]) (λrec=>by simp only[dL,aa])]
 rw[show(l.all λi=>aPv (aG w (l.getD 0 0)) (aG w i))= !(l.any λi=> !aPv (aG w (l.getD 0 0)) (aG w i)) by rw[List.any_eq_not_all_not];simp];cases l.any _<;>rfl
def Qq (a b:AB)(h:bCw a b):uT a b=some true:=by unfold uT;have c:=h.2.1;rw[aB h.2,bd_s,h.1];exact fE (fE (aB (show EqZ a.sz a a/\a.sz<=34359738368 from⟨⟨rfl,by omega⟩,h.2.1⟩)) rfl) rfl
def bPr {α τ:Type}{l:List α}(p:α->Bool)(a b:τ){F:(Int->Option τ)->Int->Option τ}(hl:l.length<=1000000)
  (d:∀rec i (hi:i<l.length),F rec (i:Int)=bif p l[i] then some a else rec ((i+1:Nat):Int)) (e:∀rec,F rec (l.length:Int)=some b):bU FUEL F 0=some (bif l.any p then a else b):=by
 have key:∀i (hi:i<l.length),p l[i]=true->l.any p=true:=λi hi h=>ey.2 ⟨_,cf hi,h⟩;refine Gx (λi s=>i<=l.length/\s=(i:Int)/\(l.take i).any p=false) l.length _ (by omega) ⟨cC _,rfl,rfl⟩ (λi s rec hi hv=> ?_) (λs rec hv=> ?_)
 ·obtain⟨_,rfl,c⟩:=hv;rw[d rec i hi];cases hp:p l[i] with
  |true=>exact .inr (by rw[key i hi hp];rfl)
  |false=>exact .inl ⟨_,⟨hi,rfl,by rw[dz,ae hi,ir,c];simp[hp]⟩,rfl⟩
 ·obtain⟨_,rfl,c⟩:=hv;rw[di] at c;rw[e,c];rfl
def bSl {w:AA}{i:Nat}(h:w.sz<=34359738368)(hi:i<w.Sites.length):w.Sites[i].Accounts.length<=34359738368/\∀k (hk:k<w.Sites[i].Accounts.length),w.Sites[i].Accounts[k].Credentials.length<=34359738368:=by
 have h1:w.Sites[i].sz<=w.sz:=by have:=wD (f:=AC.sz) hi;rw[List.getD,ae hi,ci] at this;simp only[AA.sz];omega
 refine⟨by simp only[AC.sz] at h1;omega,λk hk=> ?_⟩;have:=wD (f:=AI.sz) hk;rw[List.getD,ae hk,ci] at this;simp only[AC.sz] at h1;simp only[AI.sz] at*;omega
def aEn (w:AA)(d:Int)(h:w.sz<=34359738368):Gc w d=some (rD w d):=by
 have k:=U6 h;unfold Gc rD;rw[aB k,bd_s];cases Mk w d with
 |false=>rfl
 |true=>
  simp only[ay,aa,cx];rw[bPr (l:=w.Sites.take 2) (Yk d) (.inl false) (.inr ()) (by rw[bw];omega) (λrec i hi=>by
   rw[bw] at hi;have f:i<w.Sites.length:=by omega
   have e:(w.Sites.take 2)[i]'(by rw[bw];omega)=w.Sites[i]:=by simp
   obtain⟨m,n⟩:=bSl h f;have j:IntKind.i64.wrap ((i:Int)+1)=((i+1:Nat):Int):=by rw[aI (by omega) (by omega)];omega
   simp only[ak (show(i:Int)<(w.Sites.length:Int) by omega),ak (show(i:Int)<2 by omega),ac,bd_s,aN f,aB m,e,j];unfold Yk;generalize w.Sites[i]=s at m n;by_cases hk:aF s 1<0
   ·rw[ak hk];rfl
   ·obtain⟨k1,k2⟩:=aB2 (show 0<=aF s 1 by omega);have b:(aF s 1).toNat<s.Accounts.length:=by unfold aF at*;omega
    have o:=n _ b;simp only[ao hk,aa,qH (show 0<=aF s 1 by omega) b,bd_s,cY,cw,List.getD,ae b,ci];generalize s.Accounts[(aF s 1).toNat]=a at o;rw[jT (l:=a.Credentials) (λc=>c.Handle==d&& !c.Cut) (.inl (.inl false)) (.inr ()) (by omega) (λrec i hi=>by
     simp only[dF hi,ac,aN hi,bd_s];cases a.Credentials[i].Handle==d<;>rfl) (λrec=>by simp only[dL,aa])]
    cases a.Credentials.any _<;>rfl) (λrec=>by
   rw[bw];by_cases h1:w.Sites.length<2
   ·simp only[ao (show ¬((min 2 w.Sites.length:Nat):Int)<(w.Sites.length:Int) by omega),aa,bd_s]
   ·simp only[ao (show ¬((min 2 w.Sites.length:Nat):Int)<2 by omega)];cases decide (((min 2 w.Sites.length:Nat):Int)<(w.Sites.length:Int))<;>rfl)]
  cases(w.Sites.take 2).any (Yk d) with
  |true=>simp only[ac,ay,dl];rfl
  |false=>simp only[aa];exact fE (aB k) (by simp)
def aEo (w:AA)(h:w.sz<=34359738368):Gd w=some (aHd w):=by
 have a:=U6 h;have hb:w.aAC.Boxes.sz<=34359738368:=by simp only[AA.sz] at h;simp only[AN.sz];omega
 have b:w.Hosts.length<=34359738368:=by simp only[AA.sz] at h;omega
 have hd:w.Devices.length<=34359738368:=by simp only[AA.sz] at h;omega
 unfold Gd aHd;rw[iF (l:=w.Devices) (aPz w) (.inl false) (.inr ()) (by omega) (λrec i hi=>by
  simp only[dF hi,ac,bd_s,aB h,aB (show Dt w/\w.aAC.Boxes.sz<=34359738368 from⟨a,hb⟩)];unfold aPz;cases rD w (i:Int)<;>rfl) (λrec=>by simp only[dL,aa])]
 simp only[aB h,aB b,bd_s];cases aQ w<;>cases jN w<;>cases gM (aPz w) 0 w.Devices<;>rfl
def bYm:bI aZ5=387010709:=by kernel_rfl
def bSm:List (Int×Int):=[(387010709,0),(387010709,1),(387010709,2),(387010709,3)]
def bIp:KeyD (aUx++bSm):=bRv (by decide) (by decide)
def bVs {e:A3}(h:aG9 e):e.Kind=8->(bI aZ5,e.Value)∈aUx++bSm:=λq=>by
 have a:=h.2.2.2.1;have b:=h.2.2.2.2 (by omega);rw[bYm];rcases(show e.Value=0\/e.Value=1\/e.Value=2\/e.Value=3 by omega) with q|q|q|q<;>rw[q]<;>decide
def bSn {a u:AB}(h:dU a u=(a,true)):a.sz<=20/\u.sz<=20:=by
 have h2:(dU a u).2=true:=by rw[h]
 have h1:=aHf h2;rw[h] at h1;refine⟨h1,?_⟩;unfold dU at h2;cases hb:aR u with
 |true=>have:=mQ hb;simp only[AB.sz];omega
 |false=>rw[hb,dl] at h2;cases h2
def bIq {S:List (Int×Int)}(a:KeyD S){w:AA}{v:List A3}(h:All S 0 w)(hv:∀e∈v,e.Kind=8->(bI aZ5,e.Value)∈S):∀k,k<=v.length->k<=58->All S k (runN w v k)
 |0,_,_=>h
 |k+1,h1,h2=>by
  have hm:v.getD k default∈v:=by rw[List.getD,ae (show k<v.length by omega)];exact cf _
  exact(bIq a h hv k (by omega) (by omega)).apply a (by omega) _ _ _ _ _ (hv _ hm)
def aJf (l:List Int)(h:aZ6 l):Ke l=some true:=by
 unfold Ke;cases hb:bN7 l with
 |true=>rfl
 |false=>
  have hlen:l.length<=1048576:=by unfold bN7 at hb;rw[cu] at hb;omega
  obtain⟨⟨n,k,t,p,s,e,ok,s1,s2⟩,el,ev⟩:=bSj hlen;rw[aa,aB hlen,bd_s];have hi:=aLr ok;have j:All (aUx++bSm) 0 (bZ n k t p s):=bRy ok;have m:(bZ n k t p s).sz<=100000:=bCr ..;have o:=bVq n k t p s;rw[<-e] at hi m o j;generalize(aLo l).1=w at*;generalize(aLo l).2=v at*;obtain⟨r,z,G⟩:=hi;have A:WIn w.Devices.length w:=by rw[z];exact r
  have R:=bD0 (l:=v) A (by omega);have B:bCv w v:=⟨by omega,λq hq=>by have:=(R q).2.2.1;omega⟩;rw[aB B,bd_s];have hX:All (aUx++bSm) (min v.length 60) (bKg w v):=bIq bIp j (λe he=>bVs (ev e he)) _ (by omega) (by omega);have hX:=hX.mono (show min v.length 60<=19 by omega);obtain⟨_,_,D,_⟩:=R (min v.length 60);change (bKg w v).sz<=_ at D;generalize bKg w v=x at*;have H:x.sz<=300000:=by omega
  obtain⟨s1,s2,s3,s4,s5,s6,s7,s8,s9⟩:=bK3 bIp hX (by decide);have I:=bK7 x;have F:=s3.aDQ;have hr:=aYp x;have c:=aXu x;rw[aB (show x.sz<=34359738368 by omega),bd_s,aB (show x.sz<=1000000000 by omega),bd_s];generalize kS x=y at*;generalize Gy x=u at*;have yz2:y.1.sz<=34359738368:=by omega
  have xz2:x.sz<=34359738368:=by omega
  have d:y.1.aAC.Log.length<=34359738368:=by simp only[AA.sz] at yz2;omega
  have f:x.aAC.Log.length<=34359738368:=by simp only[AA.sz] at xz2;omega
  rw[s1,s2];refine fE (a:=false) ?_ ?_
  ·simp only[ay,aa];refine fE (aB yz2) ?_;rw[s4];simp only[ay,aa];refine fE (aB (U6 yz2)) (fE (aB (U6 xz2)) ?_);unfold aZv;rw[s5];simp
  ·refine fE (aB (U6 xz2)) (aYx (b:=PUnit.unit) (aI4 (aX x).length (by omega) (λrec i hi=> ?_) (λrec=>by simp only[dL,aa])) ?_)
   ·have hm:=cf hi;have hd:aL y.1 (aX x)[i]=true:=by unfold aL;rw[s6];exact c _ hm
    have q:=s9 _ hm;obtain⟨q1,q2⟩:=bSn q;simp only[dF hi,ac,s6,dr,aa,aN hi,bd_s,lN hd,aB (show bCw (aG y.1 (aX x)[i]).aAD u.1 from⟨q,by omega,by omega⟩),ay]
   ·refine fE (aB yz2) ?_;rw[F];refine fE (a:=true) ?_ rfl;rw[ac];refine fE (aB d) (fE (aB f) ?_);rw[s7];simp
end
end Go.VK
