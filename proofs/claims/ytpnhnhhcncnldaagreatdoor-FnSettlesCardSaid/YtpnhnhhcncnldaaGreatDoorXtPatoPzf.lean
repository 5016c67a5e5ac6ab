import Derived.Test.YtpnhnhhcncnldaaGreatDoorXtM
import Derived.Test.YtpnhnhhcncnldaaGreatDoorLKatol
/- Printed by wip/tools: models, walks, proofs. -/
set_option linter.all false
set_option maxRecDepth 100000
set_option maxHeartbeats 4000000
namespace Go.VK
open Go.RowKit Go.Proofs D
noncomputable section
open EV (bT)
def bDg (a b c:Int):aLu a b c=some (bI a b c):=by unfold aLu bI;show bd (bif decide (b<=a) then some (decide (a<=c)) else some false) _=_;cases decide (b<=a)<;>rfl
def aRf (a b c:Int):Ux a b c=some (bI a b c):=by unfold Ux bI;cases decide (b<=a)<;>rfl
def bFx (p q:Int):aQ9 p q=some (dW p q):=by
 unfold aQ9;by_cases h:1<=q/\q<=1000000000000
 ·simp[bI,h.1,h.2,aB (show q≠0 by omega),bTz h]
 ·rw[bLs h];rcases(show q<1\/q>1000000000000 by omega) with h|h
  ·simp[bI,show ¬1<=q by omega]
  ·simp[bI,show ¬q<=1000000000000 by omega]
def bFy (p q:Int):aRe p q=some (dW p q):=by
 unfold aRe;simp only[bd_bb];by_cases h:1<=q/\q<=1000000000000
 ·rw[aB (by omega)];by_cases ht:p.tmod q<0
  ·simp[h,ht,show ¬q<1 by omega,show ¬q>1000000000000 by omega,bTx h ht];rw[IntKind.wrap_i64];have:=Lm (p:=p) (q:=q) h.1;omega
  ·simp[h,ht,show ¬q<1 by omega,show ¬q>1000000000000 by omega,bTy h ht]
 ·rw[bLs h];rcases(show q<1\/q>1000000000000 by omega) with h|h<;>simp[h]
def aRg:((2147483647:Int)≠0)=True:=by simp
def bDh (l:List Int)(h:l.length<=1099511627776):aLv l=some (xP l):=by
 unfold aLv;rw[gT (l:=l) hstep (λ_ _=>True) (λs=>some s) (by omega) trivial (λ_ _ _ _=>trivial) (λrec i s hi _=>by
  simp only[cK hi,ac,aN hi,bd_s,aRg,gd_T];rfl) (λrec s _=>by simp only[dJ,aa])]
 rfl
def bDi (l:List Int)(h:l.length<=1099511627776):aLw l=some (xP l):=by
 unfold aLw;rw[gT (l:=l) hstep (λ_ _=>True) (λs=>some s) (by omega) trivial (λ_ _ _ _=>trivial) (λrec i s hi _=>by
  simp only[cK hi,ac,aN hi,bd_s,aRg,gd_T];rfl) (λrec s _=>by simp only[dJ,aa])]
 rfl
def aH0 (k:Int)(l:List Int)(h:l.length<=34359738368):Ih k l=some (bP k l):=by unfold Ih;rw[aB (by simp[aV];omega),aB (by simp[aV];omega),aB (by simp;omega)];simp[bP]
def M9 {α:Type}{r:List (List α)}{i:Nat}(hi:i<r.length):(r.take (i+1)).flatten=(r.take i).flatten++r[i]:=by rw[dz,ae hi,eh];simp only[eS,cR,gl,cY]
def aUv (a:List Int)(r:List (List Int))(h:Aa a r):M3 a r=some (rX a r):=by
 unfold M3;have hs:∀i,(r.take i).flatten.length<=r.flatten.length:=λi=>by
  conv=>rhs;rw[<-cJ i r,eh,ax]
  omega
 rw[aB (by simp[aV];omega),gT (l:=r) (λs x=>s++x) (λi s=>s=a++(r.take i).flatten) (λs=>some s) (by omega) (by simp)
  (λi s hi hv=>by rw[hv,M9 hi,cq])
  (λrec i s hi hv=>by
   have e:=M9 hi;have h1:=hs (i+1);rw[e,ax] at h1;simp only[cK hi,ac,aN hi,bd_s];rw[aB (by unfold aV;rw[hv,ax];omega)]) (λrec s _=>by simp only[dJ,aa])]
 have:r.foldl (λs x=>s++x) ([]++a)=a++r.flatten:=by rw[bu,aG5 (f:=λx:List Int=>x)];simp
 rw[this];rfl
def aH1 (k:Int)(l:List Int)(h:l.length<=34359738368):Jm k l=some (bP k l):=by unfold Jm;rw[aB (by unfold Aa;simp;omega),bd_s,aB (by simp[rX];omega)];simp[bP,rX]
def bFz (a b:Int):aRa a b=some (aZs a b):=by simp[aRa,aZs]
def bAb (n:Int):aC7 n=some (kF n):=by simp[aC7,kF]
def aH2 (k:Int)(l:List Int)(h:l.length<=34359738300):Ii k l=some (aZ k l):=by unfold Ii;rw[aB (by simp[aV];omega),aB (by simp;omega),bd_s,bB0 (mK _ _).1];rfl
def aH3 (k:Int)(l:List Int)(h:l.length<=34359738300):Jn k l=some (aZ k l):=by unfold Jn;rw[aB (by simp[Aa];omega),bd_s,aB (by simp[rX];omega)];simp[aZ,rX]
def aC9 (n:Int):aC6 n=some (bK n):=rfl
def aDa (n:Int):aC8 n=some (bK n):=rfl
def aH4 (n:Int):Ik n=some (dP n):=by unfold Ik dP;cases bK n<;>rfl
def aH5 (n:Int):Jo n=some (dP n):=by unfold Jo dP;cases bK n<;>rfl
def aH6 (s:AK):Ij s=some (iT s):=by unfold Ij;rw[aB (by simp)];rfl
def Zm (s:AK):Zh s=some (aT s):=rfl
def Zn (s:AK):yH s=some (aT s):=by unfold yH;rw[aB (by simp)];rfl
def aUw (l:List Int)(x:Int)(h:l.length<=1099511627776):J7 l x=some (jE l x):=by unfold J7;rw[jR (l:=l) (λe=>e==x) (.inl true) (.inr ()) (by omega) (λrec i hi=>by simp only[cK hi,ac,aN hi,bd_s]) (λrec=>by simp only[dJ,aa])];unfold jE;cases l.any _<;>rfl
def bF0 (l:List Int)(x:Int)(h:l.length<=1099511627776):aRd l x=some (jE l x):=by unfold aRd;rw[jR (l:=l) (λe=>e==x) (.inl true) (.inr ()) (by omega) (λrec i hi=>by simp only[cK hi,ac,aN hi,bd_s]) (λrec=>by simp only[dJ,aa])];unfold jE;cases l.any _<;>rfl
def bAc (s:List Int)(x:Int):jE s x=s.contains x:=by unfold jE;rw[List.contains_eq_any_beq];congr 1;funext e;exact Bool.beq_comm
def aYj {s:List Int}{e:AF}(h:(e.Kind==1)=true):jF s e=bif !jE s e.Device then s++[e.Device] else s:=by unfold jF;rw[h,bAc];cases s.contains e.Device<;>rfl
def aYk {s:List Int}{e:AF}(h:(e.Kind==1)=false):jF s e=bif e.Kind==2 then s.filter (λd=>d !=e.Device) else s:=by unfold jF;rw[h];rfl
def aH7 (l:List AF)(h:l.length<=34359738368):Io l=some (aC l):=by
 unfold Io;rw[gT (l:=l) jF (λi s=>s.length<=i) (λs=>some s) (by omega) (by simp) (λi s hi hv=>by have:=aLd s l[i];omega)
  (λrec i s hi hv=>by
   simp only[cK hi,ac,aN hi,bd_s];rw[aB (by omega)];have e:∀x:Int,bT (α:=List Int) FUEL (λa (i8:(List Int×Nat))=>bif (decide ((↑i8.2:Int)<(↑s.length:Int))) then(bd (bd (bA s (↑i8.2:Int)) λ(c:(Int))=>bif (c !=x) then(bd (bA s (↑i8.2:Int)) λ(b:(Int))=>gd (aV i8.1 [b]) (some (i8.1++[b]))) else(some (i8.1))) λ(f:(List Int))=>a ((f,(i8.2+1)))) else(some (i8.1))) ([],0)=some (s.filter λd=>d !=x):=λx=>by
    rw[gT (l:=s) (λq y=>bif y !=x then q++[y] else q) (λi q=>q.length<=i) (λq=>some q) (by omega) (by simp) (λi q hi hv=>by cases(s[i] !=x)<;>simp<;>omega)
     (λrec i q hi hv=>by
      simp only[cK hi,ac,aN hi,bd_s];rw[aB (by unfold aV;simp;omega)];cases(s[i] !=x)<;>rfl) (λrec q _=>by simp only[dJ,aa]),Lp]
    simp
   rw[e];cases h1:(l[i].Kind==1) with
   |true=>
    have h2:(l[i].Kind==2)=false:=by simp at h1 ⊢;omega
    rw[aYj h1,h2];rw[aB (by unfold aV;simp;omega)];cases jE s l[i].Device<;>rfl
   |false=>
    rw[aYk h1,aB (by unfold aV;simp;omega)];cases(l[i].Kind==2)<;>rfl) (λrec s _=>by simp only[dJ,aa])]
 rfl
def aH8 (l:List AF)(h:l.length<=34359738368):Jl l=some (aC l):=by
 unfold Jl;rw[gT (l:=l) jF (λi s=>s.length<=i) (λs=>some s) (by omega) (by simp) (λi s hi hv=>by have:=aLd s l[i];omega)
  (λrec i s hi hv=>by
   simp only[cK hi,ac,aN hi,bd_s];rw[aB (by omega)];have e:∀x:Int,bT (α:=List Int) FUEL (λb (a:(List Int×Nat))=>bif (decide ((↑a.2:Int)<(↑s.length:Int))) then(bd (bd (bA s (↑a.2:Int)) λ(c:(Int))=>bif (c !=x) then(gd (aV a.1 [c]) (some (a.1++[c]))) else(some (a.1))) λ(f:(List Int))=>b ((f,(a.2+1)))) else(some (a.1))) ([],0)=some (s.filter λd=>d !=x):=λx=>by
    rw[gT (l:=s) (λq y=>bif y !=x then q++[y] else q) (λi q=>q.length<=i) (λq=>some q) (by omega) (by simp) (λi q hi hv=>by cases(s[i] !=x)<;>simp<;>omega)
     (λrec i q hi hv=>by
      simp only[cK hi,ac,aN hi,bd_s];rw[aB (by unfold aV;simp;omega)];cases(s[i] !=x)<;>rfl) (λrec q _=>by simp only[dJ,aa]),Lp]
    simp
   rw[e];cases h1:(l[i].Kind==1) with
   |true=>rw[aYj h1,aB (by unfold aV;simp;omega)];cases jE s l[i].Device<;>rfl
   |false=>
    rw[aYk h1];cases(l[i].Kind==2)<;>rfl) (λrec s _=>by simp only[dJ,aa])]
 rfl
def aH9 (w:AA)(d:Int):Jk w d=some (aL w d):=by unfold Jk aL;show bd (bif decide (0<=d) then _ else _) _=_;cases decide (0<=d)<;>rfl
def aUx (w:AA)(d:Int)(h:Dq w):L9 w d=some (bC w d):=by
 unfold L9 bC;rw[Yd h];have hl:=iB w.aAC.Log;have a:=h.2.2.1;cases hd:aL w d with
 |false=>rfl
 |true=>simp only[ac,lM hd,bd_s,aB a,aB (show(aC w.aAC.Log).length<=1099511627776 by omega),cx]
def aUy (w:AA)(d:Int)(h:Dq w):M4 w d=some (bC w d):=by
 unfold M4 bC;have hl:=iB w.aAC.Log;have a:=h.2.2.1;cases hd:aL w d with
 |false=>rfl
 |true=>simp only[ac,lM hd,bd_s,aB a,aB (show(aC w.aAC.Log).length<=1099511627776 by omega),cx]
def aDb {p:Nat->Bool}{i:Nat}:((List.range (i+1)).filter p).map Int.ofNat=bif p i then((List.range i).filter p).map Int.ofNat++[(i:Int)] else((List.range i).filter p).map Int.ofNat:=by rw[fi,jc];cases h:p i<;>simp[h]
def Kb {p:Nat->Bool}{i:Nat}:(((List.range i).filter p).map Int.ofNat).length<=i:=by have:=eW p (List.range i);simpa using this
def Kc (w:AA)(h:Dq w):rQ w=some (aX w):=by
 have h1:=h.1;have h2:=h.2.1;unfold rQ;rw[Gw (s:=([],0)) (λi s=>i<=min w.Devices.length w.Stolen.length/\s=(((List.range i).filter (oF w)).map Int.ofNat,(i:Int))) (min w.Devices.length w.Stolen.length) (some (aX w)) (by omega) ⟨by omega,rfl⟩ (λi s rec hi hv=>by
  obtain⟨_,rfl⟩:=hv;have b:i<w.Devices.length:=by omega
  have a:i<w.Stolen.length:=by omega
  have hl:=Kb (p:=oF w) (i:=i);refine .inl ⟨_,⟨by omega,rfl⟩,?_⟩;simp only[cK b,cK a,ac,bd_s,aB h,aN a];rw[aB (by unfold aV;simp only[cp];omega),aDb,aJ (by omega) (by omega)];have e:oF w i=(bC w (i:Int)&& !w.Stolen[i]):=by unfold oF;rw[ak a,cx,List.getD,ae a];rfl
  rw[e];cases bC w (i:Int)<;>cases w.Stolen[i]<;>rfl) (λs rec hv=>by
  obtain⟨_,rfl⟩:=hv;have e:((List.range (min w.Devices.length w.Stolen.length)).filter (oF w)).map Int.ofNat=aX w:=by rw[bJw];rfl
  have hb:(bif decide (((min w.Devices.length w.Stolen.length:Nat):Int)<(w.Devices.length:Int)) then some (decide (((min w.Devices.length w.Stolen.length:Nat):Int)<(w.Stolen.length:Int))) else some false)=some false:=by
   rcases fa w.Stolen.length w.Devices.length with q|q
   ·rw[Nat.min_eq_right (by omega),bYi (ak (by omega))];simp
   ·rw[gr q,bYj (ao (by omega))]
  simp only[e];rw[hb];rfl)]
 rfl
def Ke (w:AA)(h:Dq w):rP w=some (aX w):=by
 have h1:=h.1;unfold rP;rw[Gw (s:=([],0)) (λi s=>i<=w.Devices.length/\s=(((List.range i).filter (oF w)).map Int.ofNat,i)) w.Devices.length (some (aX w)) (by omega) ⟨by omega,rfl⟩ (λi s rec hi hv=>by
  obtain⟨_,rfl⟩:=hv;have hl:=Kb (p:=oF w) (i:=i);refine .inl ⟨_,⟨by omega,rfl⟩,?_⟩;simp only[cK hi,ac,bd_s,aB h];rw[aB (by unfold aV;simp only[cp];omega),aDb];unfold oF;cases bC w (i:Int) with
  |false=>rfl
  |true=>
   by_cases a:i<w.Stolen.length
   ·rw[cK a,ak a,List.getD,ae a,aN a];simp only[ac,bd_s,ck,cx];cases w.Stolen[i]<;>rfl
   ·rw[show decide ((i:Int)<(w.Stolen.length:Int))=false from ao (by omega),ao a];rfl) (λs rec hv=>by
  obtain⟨_,rfl⟩:=hv;simp only[dJ,aa];rfl)]
 rfl
def aYl (w:AA):(aX w).length<=w.sz:=by
 have h1:(aX w).length<=w.Devices.length:=by unfold aX;exact Kb
 simp only[AA.sz];omega
def aRh (a:AH)(s h:Int):Uh a s h=some (wM a s h):=by unfold Uh wM;cases decide (a.Site<s)<;>cases(a.Site==s)<;>rfl
def S9 (a b:AH):Bi a b=some (dZ a b):=by unfold Bi dZ;cases decide (a.Site<b.Site)<;>cases(a.Site==b.Site)<;>rfl
def bDj {l:List AH}{i:Nat}(hi:i<l.length)(hl:l.length<=34359738368){q:AH->Bool}(hq:∀x,q x=dZ x l[i]):
  (bif (!bI l[i].Site (0:Int) (2147483646:Int)) then(some (true)) else(bif (!bI l[i].Handle (0:Int) (1000000:Int)) then(some (true)) else(bif (!bI l[i].Version (1:Int) (1000000:Int)) then(some (true)) else(bif (decide ((i:Int)>(0:Int))) then(bd (bA l (IntKind.i64.wrap ((i:Int)-(1:Int)))) λ(b:(AH))=>some (!q b)) else(some (false))))))=some (aPv l i l[i]):=by
 unfold aPv;cases bI l[i].Site 0 2147483646 with
 |false=>rfl
 |true=>
  cases bI l[i].Handle 0 1000000 with
  |false=>rfl
  |true=>
   cases bI l[i].Version 1 1000000 with
   |false=>rfl
   |true=>
    by_cases h0:(i:Int)>0
    ·rw[ak h0,aJ (by omega) (by omega)];have a:bA l ((i:Int)-1)=some l[i-1]:=by rw[show(i:Int)-1=((i-1:Nat):Int) by omega];exact aN (by omega)
     have hg:l.getD (i-1) default=l[i-1]:=by rw[List.getD,ae (by omega),ck]
     simp only[a,bd_s,hq,hg,ay,aa,ac,cu,cx]
    ·rw[ao h0];rfl
def aMe (b:AB)(h:b.sz<=34359738368):Oo b=some (aR b):=by
 simp only[AB.sz] at h;unfold Oo aR;rw[iD (l:=b.Entries) (aPv b.Entries) (.inl false) (.inr ()) (by omega) (λrec i hi=>by
  simp only[cK hi,ac,aN hi,bd_s];rw[bDj hi h (q:=λx=>wM x b.Entries[i].Site b.Entries[i].Handle) (λx=>rfl)];rfl) (λrec=>by simp only[dJ,aa])]
 cases gM (aPv b.Entries) 0 b.Entries with
 |true=>simp[nx]
 |false=>simp[nx]
def aMf (b:AB)(h:b.sz<=34359738368):Pg b=some (aR b):=by
 simp only[AB.sz] at h;unfold Pg aR;by_cases a:(b.Entries.length:Int)>20
 ·rw[ak a,show decide ((b.Entries.length:Int)<=20)=false from ao (by omega)];rfl
 ·rw[ao a,show decide ((b.Entries.length:Int)<=20)=true from ak (by omega),aa];rw[iD (l:=b.Entries) (aPv b.Entries) (.inl false) (.inr ()) (by omega) (λrec i hi=>by
   simp only[cK hi,ac,aN hi,bd_s];rw[bDj hi h (q:=λx=>dZ x b.Entries[i]) (λx=>rfl)];rfl) (λrec=>by simp only[dJ,aa])]
  cases gM (aPv b.Entries) 0 b.Entries<;>rfl
def aIa (b:AB)(s h:Int)(a:b.sz<=34359738368):Iu b s h=some (aQ b s h):=by
 simp only[AB.sz] at a;unfold Iu aQ;exact aCh (l:=b.Entries) (λ(e:AH)=>e.Site==s&&e.Handle==h) (by omega) (λrec i hi=>by
  simp only[cK hi,ac,aN hi,bd_s];cases(b.Entries[i].Site==s)<;>rfl) (λrec=>by simp only[dJ,aa])
def aRi (b:AB)(h:b.sz<=34359738368):Uf b=some (b):=by simp only[AB.sz] at h;unfold Uf;rw[aB (by unfold aV;simp only[bl];omega)];rfl
def aDc (b:AB)(h:b.sz<=34359738368):Fg b=some (b):=by simp only[AB.sz] at h;unfold Fg;rw[aB (by unfold aV;simp only[bl];omega)];rfl
def bIb (p:AH->Bool):∀(l:List AH) (i:Nat),i<=(l.takeWhile p).length->(∃hi:i<l.length,p l[i]=true/\i<(l.takeWhile p).length)\/(i=(l.takeWhile p).length/\∀hi:i<l.length,p l[i]=false)
 |[],i,h=> .inr ⟨by simpa using h,λhi=>by simp at hi⟩
 |x::l,i,h=>by
  rw[dn] at h ⊢;cases hp:p x with
  |false=>rw[hp] at h;simp at h;subst h;exact .inr ⟨by simp,λ_=>hp⟩
  |true=>
   rw[hp] at h;simp only[ia,au] at h ⊢;cases i with
   |zero=>exact .inl ⟨by simp,hp,by omega⟩
   |succ i=>
    rcases bIb p l i (by omega) with⟨h1,h2,a⟩|⟨h1,h2⟩
    ·exact .inl ⟨by simpa using h1,h2,by omega⟩
    ·exact .inr ⟨by omega,λhi=>h2 (by simpa using hi)⟩
def bIc (p:AH->Bool):∀l:List AH,l.take (l.takeWhile p).length=l.takeWhile p
 |[]=>rfl
 |x::l=>by
  rw[dn];cases p x with
  |false=>rfl
  |true=>simp only[ia,au,iy];rw[bIc p l]
def bId (p:AH->Bool):∀l:List AH,l.drop (l.takeWhile p).length=l.dropWhile p
 |[]=>rfl
 |x::l=>by
  rw[dn,List.dropWhile_cons];cases p x with
  |false=>rfl
  |true=>simp only[ia,au,gu];rw[bId p l]
def aUz (b:AB)(x:AH)(h:b.sz<=34359738360):K4 b x=some (zG b x):=by
 have k:=h;simp only[AB.sz] at h;unfold K4 zG;rw[aB (by omega),bd_s,aB (by omega),bd_s];by_cases c:aQ b x.Site x.Handle>=0
 ·rw[ak c,ac,ac];have:=aBv (show 0<=kD (λe=>e.Site==x.Site&&e.Handle==x.Handle) 0 b.Entries from c);have d:(aQ b x.Site x.Handle).toNat<b.Entries.length:=by unfold aQ;omega
  rw[qH c d];rfl
 ·rw[ao c,aa,aa];have a:(b.Entries.takeWhile λe=>wM e x.Site x.Handle).length<=b.Entries.length:=(List.takeWhile_sublist _).length_le;rw[Gw (λi s=>i<=(b.Entries.takeWhile λe=>wM e x.Site x.Handle).length/\s=(i:Int)) b.Entries.length (some ((b.Entries.takeWhile λe=>wM e x.Site x.Handle).length:Int)) (s:=(0:Int)) (by omega) ⟨by omega,rfl⟩ (λi s rec hi hv=>by
   obtain⟨h1,rfl⟩:=hv;rcases bIb _ _ i h1 with⟨j,f,l⟩|⟨j,f⟩
   ·refine .inl ⟨_,⟨by omega,rfl⟩,?_⟩;simp only[cK hi,ac,aN hi,bd_s,f];rw[aJ (by omega) (by omega)];rfl
   ·refine .inr ?_;simp only[cK hi,ac,aN hi,bd_s,f hi,aa];rw[<-j]) (λs rec hv=>by
   obtain⟨h1,rfl⟩:=hv;have e:b.Entries.length=(b.Entries.takeWhile λe=>wM e x.Site x.Handle).length:=by omega
   simp only[dJ,aa,bd_s];rw[<-e]),bd_s]
  rw[aB ⟨by omega,by simpa using a⟩,aB ⟨by omega,by simpa using a⟩,aB (by unfold aV;simp;omega),aB (by unfold aV;simp;omega),aB (by unfold aV;simp;omega)];rw[bq,bu];rw[bIc,bId]
def bK3 {l:List AH}{k:Int}(h0:0<=k)(h1:k.toNat<l.length)(x:AH):(bd (bA l k) λ(b:AH)=>bif (decide (x.Version>b.Version)) then(some (true)) else(bd (bA l k) λ(a:AH)=>bif (x.Version==a.Version) then(some (x.Deleted)) else(some (false))))=some (pO x (l.getD k.toNat default)):=by rw[qH h0 h1,List.getD,ae h1,ck];simp only[bd_s];unfold pO;cases decide (x.Version>l[k.toNat].Version)<;>cases(x.Version==l[k.toNat].Version)<;>rfl
def Zo (a b:AB)(h:a.sz<=34359738368/\b.sz<=34359738368):xY a b=some (dS a b):=by
 unfold xY dS;rw[aB h.1,bd_s];cases f:aR a with
 |false=>rw[aB h.1];rfl
 |true=>
  rw[aB h.2];cases hb:aR b with
  |false=>rw[aB h.1];rfl
  |true=>
   obtain⟨n,j⟩:=aG9 f;obtain⟨p,k⟩:=aG9 hb;rw[aB h.1];simp only[ay,aa,ac,bd_s,du];rw[aXn (l:=b.Entries) (s0:=a.Entries) (λo x=>bH o [x]) (λi o=>Yg o/\o.length<=20+i) (λo=>some o) (by omega) ⟨j,by omega⟩ (λi o hi hv=>by
     have:=zL _ o [b.Entries[i]] (ai _);exact⟨bHk hv.1,by simp only[cp] at this;omega⟩) (λrec i o hi hv=>by
     obtain⟨hs,hl⟩:=hv;simp only[cK hi,ac,aN hi,bd_s];rw[aB (by simp only[AB.sz];omega),bd_s,<-bB5 hs];have hk:(bif decide (aQ ⟨o⟩ b.Entries[i].Site b.Entries[i].Handle<0) then some true else bd (bA o (aQ ⟨o⟩ b.Entries[i].Site b.Entries[i].Handle)) λ(m:AH)=>bif (decide (b.Entries[i].Version>m.Version)) then(some (true)) else(bd (bA o (aQ ⟨o⟩ b.Entries[i].Site b.Entries[i].Handle)) λ(d:AH)=>bif (b.Entries[i].Version==d.Version) then(some (b.Entries[i].Deleted)) else(some (false))))=some (decide (aQ ⟨o⟩ b.Entries[i].Site b.Entries[i].Handle<0)||pO b.Entries[i] (o.getD (aQ ⟨o⟩ b.Entries[i].Site b.Entries[i].Handle).toNat default)):=by
      by_cases c:aQ ⟨o⟩ b.Entries[i].Site b.Entries[i].Handle<0
      ·rw[ak c];rfl
      ·rw[ao c,aa];have:=aBv (show 0<=kD (λ(e:AH)=>e.Site==b.Entries[i].Site&&e.Handle==b.Entries[i].Handle) 0 o from by unfold aQ at c;simp only at c;omega);rw[bK3 (by omega) (by unfold aQ;simp only;omega)];rfl
     rw[hk,bd_s];cases(decide (aQ ⟨o⟩ b.Entries[i].Site b.Entries[i].Handle<0)||pO b.Entries[i] (o.getD (aQ ⟨o⟩ b.Entries[i].Site b.Entries[i].Handle).toNat default)) with
     |false=>rfl
     |true=>rw[ac,ac,aB (by simp only[AB.sz];omega)];rfl) (λrec o _=>by simp only[dJ,aa])]
   rw[aPw _ _ k,bd_s];have hm:=zL _ a.Entries b.Entries (ai _);rw[aB (by simp only[AB.sz];omega),bd_s];cases aR ⟨bH a.Entries b.Entries⟩<;>rfl
def drop_at {l:List AH}{i:Nat}(h:i<l.length):l.drop i=l[i]::l.drop (i+1):=co h
def bF1 (e f:AH){X:Int×Int×Int×Bool->Option (List AH)}:(bd (bd (bif (decide (f.Version>e.Version)) then(some (true)) else(bif (f.Version==e.Version) then(some (f.Deleted)) else(some (false)))) λ(a:Bool)=>bif a then(some (f.Site,f.Handle,f.Version,f.Deleted)) else(some (e.Site,e.Handle,e.Version,e.Deleted))) X)=X ((pJ e f).Site,(pJ e f).Handle,(pJ e f).Version,(pJ e f).Deleted):=by unfold pJ pO;cases decide (f.Version>e.Version)<;>cases(f.Version==e.Version)<;>cases hd:f.Deleted<;>simp[bd,hd]
def Zp (a b:AB)(h:a.sz<=34359738368/\b.sz<=34359738368):yI a b=some (dS a b):=by
 unfold yI dS;rw[aB h.1,bd_s];cases m:aR a with
 |false=>rw[aB h.1];rfl
 |true=>
  rw[aB h.2];cases hb:aR b with
  |false=>rw[aB h.1];rfl
  |true=>
   obtain⟨r,t⟩:=aG9 m;obtain⟨u,v⟩:=aG9 hb;simp only[ay,aa,ac,bd_s,du];have hm:=zL _ a.Entries b.Entries (ai _);rw[Gw (λn s=>∃(i k:Nat) (o:List AH),s=((i:Int),(k:Int),o)/\i<=a.Entries.length/\k<=b.Entries.length/\n<=i+k/\o++bH (a.Entries.drop i) (b.Entries.drop k)=bH a.Entries b.Entries) (a.Entries.length+b.Entries.length) (some (bH a.Entries b.Entries)) (s:=((0:Int),(0:Int),([]:List AH))) (by omega) ⟨0,0,[],rfl,by omega,by omega,by omega,rfl⟩ (λn s rec hn hv=>by
     obtain⟨i,k,o,rfl,hi,hk,j,ho⟩:=hv;have p:o.length<=40:=by have:=congrArg List.length ho;rw[ax] at this;omega
     have f:∀x:AH,aV o [x]:=λx=>by unfold aV;simp only[cp];omega
     have wi:IntKind.i64.wrap ((i:Int)+1)=((i+1:Nat):Int):=by rw[aJ (by omega) (by omega)];rfl
     have wk:IntKind.i64.wrap ((k:Int)+1)=((k+1:Nat):Int):=by rw[aJ (by omega) (by omega)];rfl
     rcases fa i a.Entries.length with d|d
     ·have ne1:((i:Int)==(a.Entries.length:Int))=false:=by simp;omega
      rw[drop_at d] at ho;rcases fa k b.Entries.length with c|c
      ·have ne2:((k:Int)==(b.Entries.length:Int))=false:=by simp;omega
       rw[drop_at c,vF] at ho;simp only[cK d,cK c,ac,bd_s,ne2,aa,aN d,aN c,ne1,aB (f _),wi,wk,bF1];cases h1:dZ a.Entries[i] b.Entries[k] with
       |true=>rw[h1,ac,<-drop_at c] at ho;exact .inl ⟨_,⟨i+1,k,o++[a.Entries[i]],rfl,by omega,hk,by omega,by rw[<-ho];simp⟩,rfl⟩
       |false=>
        cases h2:dZ b.Entries[k] a.Entries[i] with
        |true=>rw[h1,aa,h2,ac,<-drop_at d] at ho;exact .inl ⟨_,⟨i,k+1,o++[b.Entries[k]],rfl,hi,by omega,by omega,by rw[<-ho];simp⟩,rfl⟩
        |false=>rw[h1,aa,h2,aa] at ho;exact .inl ⟨_,⟨i+1,k+1,o++[pJ a.Entries[i] b.Entries[k]],rfl,by omega,by omega,by omega,by rw[<-ho];simp⟩,rfl⟩
      ·have e:k=b.Entries.length:=by omega
       subst e;rw[dp,fE] at ho;simp only[cK d,ac,bd_s,eM,aN d,aB (f _),wi];exact .inl ⟨_,⟨i+1,_,o++[a.Entries[i]],rfl,by omega,ai _,by omega,by rw[dp,fE,<-ho];simp⟩,rfl⟩
     ·have e:i=a.Entries.length:=by omega
      subst e;rw[dp,jV] at ho;rcases fa k b.Entries.length with c|c
      ·have ne2:((k:Int)==(b.Entries.length:Int))=false:=by simp;omega
       simp only[dJ,aa,cK c,bd_s,ac,ne2,eM,aN c,aB (f _),wk];exact .inl ⟨_,⟨_,k+1,o++[b.Entries[k]],rfl,ai _,by omega,by omega,by rw[dp,jV,<-ho,drop_at c];simp⟩,rfl⟩
      ·have l:k=b.Entries.length:=by omega
       subst l;rw[dp,cY] at ho;refine .inr ?_;simp only[dJ,aa,bd_s];rw[ho]) (λs rec hv=>by
     obtain⟨i,k,o,rfl,hi,hk,j,ho⟩:=hv;have q:i=a.Entries.length:=by omega
     have l:k=b.Entries.length:=by omega
     subst q;subst l;rw[dp,dp,fE,cY] at ho;simp only[dJ,aa,bd_s];rw[ho])]
   rw[bd_s,aB (by simp only[AB.sz];omega),bd_s,aB h.1];cases aR ⟨bH a.Entries b.Entries⟩<;>rfl
def T9 {w:AA}(h:w.sz<=34359738368):Dq w:=by simp only[AA.sz] at h;unfold Dq;omega
def bPd {w:AA}{i:Nat}(hi:i<(aX w).length):∃d:Nat,(aX w)[i]=(d:Int)/\d<w.Devices.length:=by have hm:(aX w)[i]∈aX w:=cb hi;unfold aX at hm;obtain⟨d,hd,e⟩:=cg.1 hm;have:=(jw.1 hd).1;exact⟨d,e.symm,by simpa using this⟩
def bVj {w:AA}{d:Nat}(hd:d<w.Devices.length):w.Devices[d].aAD.sz<=w.sz:=by have:=jQ (f:=AD.sz) hd;simp only[AA.sz,AD.sz,AB.sz] at*;omega
def bF2 {w:AA}(h:w.sz<=34359738368){F:(Nat×List AH->Option ((AB×Bool)⊕List AH))->Nat×List AH->Option ((AB×Bool)⊕List AH)}
  (c:∀rec i o (hi:i<(aX w).length),o.length<=20->(aG w (aX w)[i]).aAD.sz<=34359738368->bA w.Devices (aX w)[i]=some (aG w (aX w)[i])->F rec (i,o)=bif (dS ⟨o⟩ (aG w (aX w)[i]).aAD).2 then rec (i+1,(dS ⟨o⟩ (aG w (aX w)[i]).aAD).1.Entries) else some (.inl (⟨[]⟩,false)))
  (f:∀rec o,F rec ((aX w).length,o)=some (.inr o)):nx (bT FUEL F (0,[])) (λo=>some (⟨o⟩,true))=some (Gx w):=by
 have hlen:(aX w).length<=w.Devices.length:=by unfold aX;exact Kb
 have hd:w.Devices.length<=34359738368:=by simp only[AA.sz] at h;omega
 rw[Gw (λi s=>∃o,s=(i,o)/\o.length<=20/\uS w ((aX w).drop i) o=uS w (aX w) []) (aX w).length (some (uS w (aX w) [])) (s:=(0,[])) (by omega) ⟨[],rfl,by simp,rfl⟩ (λi s rec hi hv=>by
  obtain⟨o,rfl,h1,h2⟩:=hv;obtain⟨d,e,b⟩:=bPd hi;have a:aG w (aX w)[i]=w.Devices[d]:=by rw[e];unfold aG;rw[bq,List.getD,ae b,ck]
  have hb:=bVj b;rw[c rec i o hi h1 (by rw[a];omega) (by rw[a,e];exact aN b)];rw[co hi] at h2;simp only[uS] at h2;cases hm:(dS ⟨o⟩ (aG w (aX w)[i]).aAD).2 with
  |true=>rw[hm,ac] at h2;exact .inl ⟨_,⟨_,rfl,(aG9 (bNj hm)).1,h2⟩,rfl⟩
  |false=>
   rw[hm,aa] at h2;exact .inr (by rw[aa,h2])) (λs rec hv=>by
  obtain⟨o,rfl,h1,h2⟩:=hv;rw[dp] at h2;rw[f,<-h2];rfl)]
 unfold Gx;cases uS w (aX w) []<;>rfl
def U0 (w:AA)(h:w.sz<=34359738368):Bj w=some (Gx w):=by
 unfold Bj;rw[aB (T9 h),bd_s];exact bF2 h (λrec i o hi h1 h2 a=>by
  simp only[cK hi,ac,aN hi,bd_s,a];rw[aB ⟨by simp only[AB.sz];omega,h2⟩,bd_s];cases(dS ⟨o⟩ (aG w (aX w)[i]).aAD).2<;>rfl) (λrec o=>by simp only[dJ,aa])
def aRj (l:List AF)(h:l.length<=34359738368):Tv l=some l:=by unfold Tv;rw[oH h];rfl
def aRk (l:List AF)(h:l.length<=34359738368):Uz l=some l:=by unfold Uz;rw[oH h];rfl
def aIb (l:List Int)(h:l.length<=34359738368):Jr l=some l:=by unfold Jr;rw[oH h];rfl
def aRl (d:AD)(h:d.sz<=34359738368):Ug d=some d:=by simp only[AD.sz] at h;unfold Ug;simp only[aB (show d.Log.length<=34359738368 by omega),aB (show d.aAD.sz<=34359738368 by simp only[AB.sz];omega),bd_s]
def aDd (d:AD)(h:d.sz<=34359738368):Fq d=some d:=by simp only[AD.sz] at h;unfold Fq;simp only[aB (show d.Log.length<=34359738368 by omega),aB (show d.aAD.sz<=34359738368 by simp only[AB.sz];omega),bd_s]
def aRm (e:AN)(h:e.sz<=34359738368):Tz e=some e:=by
 simp only[AN.sz] at h;unfold Tz;rw[aCk (l:=e.Boxes) (by omega) (λrec i s hi hs=>by
  have a:=jQ (f:=AO.sz) hi;simp only[AO.sz] at a h;simp only[cK hi,ac,aN hi,bd_s,oH (show e.Boxes[i].Data.length<=34359738368 by omega),gF hs,bu]) (λrec s=>by simp only[dJ,aa])]
 rfl
def aIc (l:List AO)(h:Cy AO.sz l<=34359738368):Js l=some l:=by
 unfold Js;unfold Cy at h;rw[bNk (l:=l) (by omega) (λrec i s hi hs=>by
  have a:=jQ (f:=AO.sz) hi;simp only[AO.sz] at a h;simp only[cK hi,ac,aN hi,bd_s,aB (show l[i].Data.length<=34359738368 by omega),gF hs]) (λrec s=>by simp only[dJ,aa])]
 rfl
def Px (e:AN)(h:e.sz<=34359738368):uO e=some e:=by unfold uO;simp only[aB (show Cy AO.sz e.Boxes<=34359738368 from h),bd_s]
def aRn (e:AI)(h:e.sz<=34359738368):Ui e=some e:=by unfold Ui;rw[oH h];rfl
def aDe (e:AI)(h:e.sz<=34359738368):Fp e=some e:=by unfold Fp;simp only[aB (show e.Data.length<=34359738368 from h),bd_s]
def aRo (c:AM)(h:c.sz<=34359738368):Uj c=some c:=by
 simp only[AM.sz] at h;unfold Uj;rw[aCk (l:=c.History) (by omega) (λrec i s hi hs=>by
  have a:=jQ (f:=AI.sz) hi;simp only[cK hi,ac,aN hi,bd_s,aB (show c.History[i].sz<=34359738368 by omega),gF hs]) (λrec s=>by simp only[dJ,aa])]
 simp only[aB (show c.Log.length<=34359738368 by omega),aB (show c.Boxes.sz<=34359738368 by simp only[AN.sz];omega),bd_s]
def aId (c:AM)(h:c.sz<=34359738368):Jt c=some c:=by
 simp only[AM.sz] at h;unfold Jt;rw[aCk (l:=c.History) (by omega) (λrec i s hi hs=>by
  have a:=jQ (f:=AI.sz) hi;simp only[cK hi,ac,aN hi,bd_s,aB (show c.History[i].sz<=34359738368 by omega),gF hs]) (λrec s=>by simp only[dJ,aa])]
 simp only[aB (show c.Log.length<=34359738368 by omega),aB (show c.Boxes.sz<=34359738368 by simp only[AN.sz];omega),bd_s]
def aRp (e:AJ)(h:e.sz<=34359738368):Uc e=some e:=by unfold Uc;rw[oH h];rfl
def U1 (e:AJ)(h:e.sz<=34359738368):Bu e=some e:=by unfold Bu;rw[oH h];rfl
def aRq (e:AP)(h:e.sz<=34359738368):Ud e=some e:=by unfold Ud;rw[oH h];rfl
def aMg (e:AP)(h:e.sz<=34359738368):Pk e=some e:=by unfold Pk;rw[oH h];rfl
def aRr (s:AC)(h:s.sz<=34359738368):Ue s=some s:=by
 simp only[AC.sz] at h;unfold Ue;rw[aCk (l:=s.Accounts) (by omega) (λrec i q hi hs=>by
  have a:=jQ (f:=AJ.sz) hi;simp only[cK hi,ac,aN hi,bd_s,aB (show s.Accounts[i].sz<=34359738368 by omega),gF hs]) (λrec q=>by simp only[dJ,aa])]
 simp only[aB (show s.Book.sz<=34359738368 by simp only[AP.sz];omega),bd_s,oH (show s.Logins.length<=34359738368 by omega),bu]
def aMh (s:AC)(h:s.sz<=34359738368):Pm s=some s:=by
 simp only[AC.sz] at h;unfold Pm;rw[aCk (l:=s.Accounts) (by omega) (λrec i q hi hs=>by
  have a:=jQ (f:=AJ.sz) hi;simp only[cK hi,ac,aN hi,bd_s,aB (show s.Accounts[i].sz<=34359738368 by omega),gF hs]) (λrec q=>by simp only[dJ,aa])]
 simp only[aB (show s.Book.sz<=34359738368 by simp only[AP.sz];omega),bd_s,aB (show Aa s.Logins [] by unfold Aa;simp;omega)];simp[rX]
def aRs (e:AG)(h:e.sz<=34359738368):Ur e=some e:=by unfold Ur;rw[oH h];rfl
def aMi (e:AG)(h:e.sz<=34359738368):Pi e=some e:=by unfold Pi;rw[oH h];rfl
def aMj (l:List AG)(h:Cy AG.sz l<=34359738368):Oy l=some l:=by
 unfold Oy;unfold Cy at h;rw[bNk (l:=l) (by omega) (λrec i s hi hs=>by
  have a:=jQ (f:=AG.sz) hi;simp only[cK hi,ac,aN hi,bd_s,aB (show l[i].sz<=34359738368 by omega),gF hs]) (λrec s=>by simp only[dJ,aa])]
 rfl
def aIe (l:List AG)(h:Cy AG.sz l<=34359738368):Ju l=some l:=by
 unfold Ju;unfold Cy at h;rw[bNk (l:=l) (by omega) (λrec i s hi hs=>by
  have a:=jQ (f:=AG.sz) hi;simp only[cK hi,ac,aN hi,bd_s,aB (show l[i].sz<=34359738368 by omega),gF hs]) (λrec s=>by simp only[dJ,aa])]
 rfl
def aRt (e:AS)(h:e.sz<=34359738368):Ut e=some e:=by unfold Ut;rw[oH h];rfl
def aMk (e:AS)(h:e.sz<=34359738368):Pj e=some e:=by unfold Pj;rw[oH h];rfl
def aRu (w:AA)(h:w.sz<=34359738368):Uu w=some w:=by
 simp only[AA.sz] at h;unfold Uu;rw[aCk (l:=w.Devices) (by omega) (λrec i q hi hs=>by
  have a:=jQ (f:=AD.sz) hi;simp only[cK hi,ac,aN hi,bd_s,aB (show w.Devices[i].sz<=34359738368 by omega),gF hs]) (λrec q=>by simp only[dJ,aa]),
  aCk (l:=w.Sites) (by omega) (λrec i q hi hs=>by
  have a:=jQ (f:=AC.sz) hi;simp only[cK hi,ac,aN hi,bd_s,aB (show w.Sites[i].sz<=34359738368 by omega),gF hs]) (λrec q=>by simp only[dJ,aa])]
 simp only[bd_s,oH (show w.Stolen.length<=34359738368 by omega),aB (show w.aAC.sz<=34359738368 by simp only[AM.sz];omega),aB (show Cy AG.sz w.Hosts<=34359738368 by unfold Cy;omega),aB (show w.Mail.sz<=34359738368 by simp only[AS.sz];omega),bu]
def aIf (w:AA)(h:w.sz<=34359738368):Jv w=some w:=by
 simp only[AA.sz] at h;unfold Jv;rw[aCk (l:=w.Devices) (by omega) (λrec i q hi hs=>by
  have a:=jQ (f:=AD.sz) hi;simp only[cK hi,ac,aN hi,bd_s,aB (show w.Devices[i].sz<=34359738368 by omega),gF hs]) (λrec q=>by simp only[dJ,aa]),
  aCk (l:=w.Sites) (by omega) (λrec i q hi hs=>by
  have a:=jQ (f:=AC.sz) hi;simp only[cK hi,ac,aN hi,bd_s,aB (show w.Sites[i].sz<=34359738368 by omega),gF hs]) (λrec q=>by simp only[dJ,aa])]
 simp only[bd_s,oH (show w.Stolen.length<=34359738368 by omega),aB (show w.aAC.sz<=34359738368 by simp only[AM.sz];omega),aB (show Cy AG.sz w.Hosts<=34359738368 by unfold Cy;omega),aB (show w.Mail.sz<=34359738368 by simp only[AS.sz];omega),bu]
def bAd {F:(Int×Int×Int->Option Int)->Int×Int×Int->Option Int}(a:∀rec (b n s:Int),0<=n->n<9223372036854775807->F rec (b,n,s)=bif decide (n>0) then rec ((IntKind.i64.wrap (b*b)).tmod 2147483647,n/2,bif n%2==1 then(IntKind.i64.wrap (s*b)).tmod 2147483647 else s) else some s):
  ∀(k:Nat) (b n s:Int) (f:Nat),k<f->0<=n->n<2^k->k<=62->bT f F (b,n,s)=some (bJx k b n s)
 |0,b,n,s,f+1,c,h0,h1,hk=>by
  have:n=0:=by simp at h1;omega
  subst this;rw[iZ,a _ _ _ _ (by omega) (by omega)];rfl
 |k+1,b,n,s,f+1,c,h0,h1,hk=>by
  have h2:(2:Int)^(k+1)=2*2^k:=by rw[fc];omega
  have d:n<2^62:=Int.lt_of_lt_of_le h1 (by exact_mod_cast io (by omega) hk);rw[iZ,a _ _ _ _ h0 (by omega)];unfold bJx;by_cases hn:n>0
  ·rw[ak hn,ac,cQ hn];exact bAd a k _ (n/2) _ f (by omega) (by omega) (by omega) (by omega)
  ·rw[ao hn,aa,dk hn]
def aRv (b n:Int)(h:0<=n/\n<2147483648):sP b n=some (bJx 31 b n 1):=by unfold sP;rw[bAd (λrec b n s h0 h1=>by simp only[show oQ .i64 n 1=n%2 from and_one h0 (by omega),show Gt .i64 n 1=n/2 from bHg h0,aRg,gd_T,lN,bd_s,aB (show(0:Int)<=1 by decide)]) 31 b n 1 FUEL (by have:=gW;omega) h.1 (by have:=h.2;omega) (by omega)];rfl
def aU0 (b n:Int)(h:0<=n/\n<2147483648)(hb:0<=b/\b<2147483647):zJ b n 2147483647=some (bJx 31 b n 1):=by
 unfold zJ;rw[show b.tmod 2147483647=b by rw[cr hb.1];omega,show(1:Int).tmod 2147483647=1 by decide,bAd (λrec b n s h0 h1=>by
  have a:((2:Int)≠0)=True:=by simp
  simp only[show n.tmod 2=n%2 from cr h0,show n.tdiv 2=n/2 from ki h0,show IntKind.i64.wrap (n/2)=n/2 from aJ (by omega) (by omega),aRg,a,gd_T,lN,bd_s]) 31 b n 1 FUEL (by have:=gW;omega) h.1 (by have:=h.2;omega) (by omega)]
 simp only[aRg,gd_T,bd_s]
def aDf (q:Int):Eb q=some (gP q):=by
 unfold Eb gP;rw[aRv _ _ (by decide),bHh,show bI q 1 2147483646=bK q from rfl];cases hk:bK q with
 |false=>rfl
 |true=>
  have hr:=iA hk;have b:IntKind.i64.wrap (q*1899818559)=q*1899818559:=aJ (by omega) (by omega);simp only[ay,aa,bd_s,b,aRg,gd_T,cr (show 0<=q*1899818559 by omega)];have hp:dP (q*1899818559%2147483647)=q:=by
   unfold dP bK bI;have h1:1<=q*1899818559%2147483647:=by omega
   have h2:q*1899818559%2147483647<=2147483646:=by omega
   have a:IntKind.i64.wrap (q*1899818559%2147483647*48271)=q*1899818559%2147483647*48271:=aJ (by omega) (by omega);simp only[h1,h2,decide_true,du,ay,aa,a];rw[cr (by omega)];omega
  rw[hp,dr];rfl
def aDg (q:Int):Fh q=some (gP q):=by
 unfold Fh gP;rw[aU0 _ _ (by decide) (by decide),bHh];cases hk:bK q with
 |false=>rfl
 |true=>have hr:=iA hk;have a:IntKind.i64.wrap (q*1899818559)=q*1899818559:=aJ (by omega) (by omega);simp only[ay,aa,bd_s,a,aRg,gd_T,cr (show 0<=q*1899818559 by omega)]
def U2 (p:Int)(l:List Int)(h:l.length<=34359738300):Aj p l=some (rZ p l):=by unfold Aj rZ;rw[aB (by simp[aV];omega),aB (by simp;omega)];cases bK p<;>rfl
def U3 (p:Int)(l:List Int)(h:l.length<=34359738300):Bt p l=some (rZ p l):=by unfold Bt rZ;rw[aB (by unfold Aa;simp;omega),bd_s,aB (by simp[rX];omega)];cases bK p<;>simp[rX]
def Nh (q:Int)(l:List Int)(g:Int)(h:l.length<=34359738300):sQ q l g=some (iE q l g):=by unfold sQ iE;simp only[aB h,bd_s,lN];cases(gP q !=0)<;>rfl
def Ni (q:Int)(l:List Int)(g:Int)(h:l.length<=34359738300):sW q l g=some (iE q l g):=by unfold sW iE;simp only[aB h,bd_s,lN];cases(gP q !=0)<;>rfl
def aYm (b:AP)(h:b.Open.length<=34359738368){τ:Type}(rec:Nat->Option τ)(r:Option τ)(i:Nat)(hi:i<b.Open.length):(bd (bif (!bI b.Open[i].Id (0:Int) (IntKind.i64.wrap (b.Next-(1:Int)))) then(some (true)) else(bif (decide ((↑i:Int)>(0:Int))) then(bd (bA (b.Open) (IntKind.i64.wrap ((↑i:Int)-(1:Int)))) λa=>bif (decide (a.Id>=b.Open[i].Id)) then(some (true)) else(bif (!bI b.Open[i].aAH (0:Int) (1000005:Int)) then(some (true)) else(some (!bI b.Open[i].Until (0:Int) (1000005:Int))))) else(bif (!bI b.Open[i].aAH (0:Int) (1000005:Int)) then(some (true)) else(some (!bI b.Open[i].Until (0:Int) (1000005:Int)))))) λc=>bif c then r else(rec (i+1)))=bif iF b i b.Open[i] then r else rec (i+1):=by
 unfold iF;by_cases h0:0<i
 ·rw[Sb h0 hi h,bd_s,show decide ((i:Int)>0)=true by simpa using h0,ak h0];cases bI b.Open[i].Id 0 (IntKind.i64.wrap (b.Next-1))<;>cases decide ((b.Open.getD (i-1) default).Id>=b.Open[i].Id)<;>cases bI b.Open[i].aAH 0 1000005<;>cases bI b.Open[i].Until 0 1000005<;>rfl
 ·rw[show decide ((i:Int)>0)=false by simpa using h0,ao h0];cases bI b.Open[i].Id 0 (IntKind.i64.wrap (b.Next-1))<;>cases bI b.Open[i].aAH 0 1000005<;>cases bI b.Open[i].Until 0 1000005<;>rfl
def U4 (b:AP)(h:b.sz<=34359738368):Ao b=some (eQ b):=by
 simp only[AP.sz] at h;unfold Ao eQ;rw[iD (l:=b.Open) (iF b) (.inl false) (.inr ()) (by omega) (λrec i hi=>by
  simp only[cK hi,ac,aN hi,bd_s];exact aYm b h rec _ i hi) (λrec=>by simp only[dJ,aa])]
 rw[show decide ((b.Open.length:Int)<=16)=decide (b.Open.length<=16) from cF.2 (by omega)];cases bI b.Next 0 1000000<;>cases decide (b.Open.length<=16)<;>cases gM (iF b) 0 b.Open<;>rfl
def U5 (b:AP)(h:b.sz<=34359738368):Bp b=some (eQ b):=by
 simp only[AP.sz] at h;unfold Bp eQ;rw[iD (l:=b.Open) (iF b) (.inl false) (.inr ()) (by omega) (λrec i hi=>by
  simp only[cK hi,ac,aN hi,bd_s];exact aYm b h rec _ i hi) (λrec=>by simp only[dJ,aa])]
 rw[show decide ((b.Open.length:Int)>16)= !decide (b.Open.length<=16) by rw[<-decide_not];exact cF.2 (by omega)];cases bI b.Next 0 1000000<;>cases decide (b.Open.length<=16)<;>cases gM (iF b) 0 b.Open<;>rfl
def aYn (m:AS)(h:m.Notices.length<=34359738368){τ:Type}(rec:Nat->Option τ)(r:Option τ)(i:Nat)(hi:i<m.Notices.length):(bd (bif (!bI m.Notices[i].Kind (1:Int) (5:Int)) then(some (true)) else(bif (!bI m.Notices[i].aAH (0:Int) (1000000:Int)) then(some (true)) else(bif (!bI m.Notices[i].Time (0:Int) (1000000:Int)) then(some (true)) else(bif (decide ((↑i:Int)>(0:Int))) then(bd (bA (m.Notices) (IntKind.i64.wrap ((↑i:Int)-(1:Int)))) λa=>some (decide (a.Time>m.Notices[i].Time))) else(some (false)))))) λb=>bif b then r else(rec (i+1)))=bif vD m.Notices i m.Notices[i] then r else rec (i+1):=by
 unfold vD;by_cases h0:0<i
 ·rw[Sb h0 hi h,bd_s,show decide ((i:Int)>0)=true by simpa using h0,ak h0];cases bI m.Notices[i].Kind 1 5<;>cases bI m.Notices[i].aAH 0 1000000<;>cases bI m.Notices[i].Time 0 1000000<;>cases decide ((m.Notices.getD (i-1) default).Time>m.Notices[i].Time)<;>rfl
 ·rw[show decide ((i:Int)>0)=false by simpa using h0,ao h0];cases bI m.Notices[i].Kind 1 5<;>cases bI m.Notices[i].aAH 0 1000000<;>cases bI m.Notices[i].Time 0 1000000<;>rfl
def Py (m:AS)(h:m.sz<=34359738368):uH m=some (gJ m):=by
 simp only[AS.sz] at h;unfold uH gJ;rw[iD (l:=m.Notices) (vD m.Notices) (.inl false) (.inr ()) (by omega) (λrec i hi=>by
  simp only[cK hi,ac,aN hi,bd_s];exact aYn m h rec _ i hi) (λrec=>by simp only[dJ,aa])]
 rw[show decide ((m.Notices.length:Int)<=30)=decide (m.Notices.length<=30) from cF.2 (by omega)];cases decide (m.Notices.length<=30)<;>cases gM (vD m.Notices) 0 m.Notices<;>rfl
def Pz (m:AS)(h:m.sz<=34359738368):uN m=some (gJ m):=by
 simp only[AS.sz] at h;unfold uN gJ;rw[iD (l:=m.Notices) (vD m.Notices) (.inl false) (.inr ()) (by omega) (λrec i hi=>by
  simp only[cK hi,ac,aN hi,bd_s];exact aYn m h rec _ i hi) (λrec=>by simp only[dJ,aa])]
 rw[show decide ((m.Notices.length:Int)>30)= !decide (m.Notices.length<=30) by rw[<-decide_not];exact cF.2 (by omega)];cases decide (m.Notices.length<=30)<;>cases gM (vD m.Notices) 0 m.Notices<;>rfl
def aMl (i:Int):Oj i=some (aA i):=by unfold Oj aA;cases i==0<;>cases i==1<;>rfl
def aMm (i:Int):Ph i=some (aA i):=by unfold Ph aA;cases i==0<;>cases i==1<;>rfl
def aIg (e:AF):Im e=some (dF e):=by unfold Im;rw[aB (by simp)];rfl
def aIh (e:AF):Jp e=some (dF e):=by unfold Jp;rw[aB (by simp)];rfl
def aRw (l:List AF)(h:l.length<=34359738368):Tu l=some (iY l):=by
 unfold Tu iY;cases hl:((l.length:Int)==0) with
 |true=>rfl
 |false=>
  have:l.length≠0:=by intro h0;rw[h0] at hl;simp at hl
  rw[aJ (by omega) (by omega),show(l.length:Int)-1=((l.length-1:Nat):Int) by omega,aN (by omega)];simp[List.getD,ae (show l.length-1<l.length by omega)]
def aRx (l:List AF)(h:l.length<=34359738368):Uy l=some (iY l):=by
 unfold Uy iY;cases hl:((l.length:Int)==0) with
 |true=>rfl
 |false=>
  have:l.length≠0:=by intro h0;rw[h0] at hl;simp at hl
  rw[aJ (by omega) (by omega),show(l.length:Int)-1=((l.length-1:Nat):Int) by omega,aN (by omega)];simp[List.getD,ae (show l.length-1<l.length by omega)]
def aDh (l:List AF)(p:Int)(h:l.length<=34359738368):Fj l p=some (dX l p):=by
 unfold Fj;rw[jR (l:=l) (λe=>e.Kind==2&&e.Device==p) (.inl true) (.inr ()) (by omega) (λrec i hi=>by
  simp only[cK hi,ac,aN hi,bd_s,lN];cases(l[i].Kind==2)<;>rfl) (λrec=>by simp only[dJ,aa])]
 unfold dX;cases l.any _<;>rfl
def aRy (l:List AV)(p:Int)(i:Nat)(hi:i<=l.length)(h:l.length<=34359738368){F:(Nat->Option ((Bool⊕PUnit)⊕PUnit))->Nat->Option ((Bool⊕PUnit)⊕PUnit)}(a:∀rec j (b:j<i),F rec j=bif (l[j]'(by omega)).Public==p then some (.inl (.inl false)) else rec (j+1))(c:∀rec,F rec i=some (.inr ())):
  bT FUEL F 0=some (bif (l.take i).any (λq=>q.Public==p) then .inl (.inl false) else .inr ()):=by
 have ht:(l.take i).length=i:=by rw[bv];omega
 exact jR (l:=l.take i) (λq=>q.Public==p) _ _ (by omega) (λrec j b=>by rw[a rec j (by omega),e9]) (λrec=>by rw[ht];exact c rec)
def bDk (a:AJ)(h:a.Credentials.length<=34359738368)(i:Nat)(hi:i<a.Credentials.length){τ:Type}{X:Option τ}{r:Option τ}{K:Option τ}(hX:X=bif (a.Credentials.take i).any (λq=>q.Public==a.Credentials[i].Public) then r else K):
  (bd (bif (!bI a.Credentials[i].Handle (0:Int) (1000000:Int)) then(some (true)) else(bif (decide ((↑i:Int)>(0:Int))) then(bd (bA (a.Credentials) (IntKind.i64.wrap ((↑i:Int)-(1:Int)))) λb=>bif (decide (b.Handle>=a.Credentials[i].Handle)) then(some (true)) else(bd (some (gP a.Credentials[i].Public)) λc=>bif (c==(0:Int)) then(some (true)) else(some (!bI a.Credentials[i].Counter (0:Int) (1000000:Int))))) else(bd (some (gP a.Credentials[i].Public)) λb=>bif (b==(0:Int)) then(some (true)) else(some (!bI a.Credentials[i].Counter (0:Int) (1000000:Int)))))) λd=>bif d then r else X)=bif vZ a i a.Credentials[i] then r else K:=by
 rw[hX];unfold vZ;by_cases h0:0<i
 ·rw[Sb h0 hi h,show decide ((i:Int)>0)=true by simpa using h0,ak h0];simp only[bd_s];cases bI a.Credentials[i].Handle 0 1000000<;>cases decide ((a.Credentials.getD (i-1) default).Handle>=a.Credentials[i].Handle)<;>cases(gP a.Credentials[i].Public==0)<;>cases bI a.Credentials[i].Counter 0 1000000<;>cases(a.Credentials.take i).any (λq=>q.Public==a.Credentials[i].Public)<;>rfl
 ·rw[show decide ((i:Int)>0)=false by simpa using h0,ao h0];simp only[bd_s];cases bI a.Credentials[i].Handle 0 1000000<;>cases(gP a.Credentials[i].Public==0)<;>cases bI a.Credentials[i].Counter 0 1000000<;>cases(a.Credentials.take i).any (λq=>q.Public==a.Credentials[i].Public)<;>rfl
def Qa (a:AJ)(h:a.sz<=34359738368):uE a=some (bB a):=by
 simp only[AJ.sz] at h;unfold uE bB;rw[iD (l:=a.Credentials) (vZ a) (.inl false) (.inr ()) (by omega) (λrec i hi=>by
  simp only[cK hi,ac,aN hi,bd_s];rw[aRy a.Credentials a.Credentials[i].Public i (by omega) h (λrec j c=>by simp only[cK c,ac,aN (show j<a.Credentials.length by omega),bd_s]) (λrec=>by simp only[dJ,aa])];have:=bDk a h i hi (X:=nx (some (bif (a.Credentials.take i).any (λq=>q.Public==a.Credentials[i].Public) then Sum.inl (Sum.inl false) else Sum.inr PUnit.unit)) λ_=>rec (i+1)) (r:=some (.inl false)) (K:=rec (i+1)) (by cases(a.Credentials.take i).any _<;>rfl);rw[<-this];simp only[bd_s];generalize(bif !bI a.Credentials[i].Handle 0 1000000 then _ else _:Option Bool)=q;cases q with
  |none=>rfl
  |some b=>cases b<;>rfl) (λrec=>by simp only[dJ,aa])]
 rw[show decide ((a.Credentials.length:Int)<=8)=decide (a.Credentials.length<=8) from cF.2 (by omega)];cases bI a.Id 0 1000000<;>cases bI a.Minimum 1 3<;>cases decide (a.Credentials.length<=8)<;>cases gM (vZ a) 0 a.Credentials<;>rfl
def Qb (a:AJ)(h:a.sz<=34359738368):uM a=some (bB a):=by
 simp only[AJ.sz] at h;unfold uM bB;rw[iD (l:=a.Credentials) (vZ a) (.inl false) (.inr ()) (by omega) (λrec i hi=>by
  have ht:(a.Credentials.take i).length=i:=by rw[bv];omega
  simp only[cK hi,ac,aN hi,bd_s,aZr];rw[aB (show lU a.Credentials (i:Int) by unfold lU;omega)];rw[aRy a.Credentials a.Credentials[i].Public i (by omega) h (λrec j c=>by simp only[ht,cK c,ac,aN (show j<(a.Credentials.take i).length by omega),bd_s,e9]) (λrec=>by simp only[ht,dJ,aa])];have:=bDk a h i hi (X:=nx (some (bif (a.Credentials.take i).any (λq=>q.Public==a.Credentials[i].Public) then Sum.inl (Sum.inl false) else Sum.inr PUnit.unit)) λ_=>rec (i+1)) (r:=some (.inl false)) (K:=rec (i+1)) (by cases(a.Credentials.take i).any _<;>rfl);rw[<-this];simp only[bd_s];generalize(bif !bI a.Credentials[i].Handle 0 1000000 then _ else _:Option Bool)=q;cases q with
  |none=>rfl
  |some b=>cases b<;>rfl) (λrec=>by simp only[dJ,aa])]
 rw[show decide ((a.Credentials.length:Int)>8)= !decide (a.Credentials.length<=8) by rw[<-decide_not];exact cF.2 (by omega)];cases bI a.Id 0 1000000<;>cases bI a.Minimum 1 3<;>cases decide (a.Credentials.length<=8)<;>cases gM (vZ a) 0 a.Credentials<;>rfl
def vO (s:ByteArray)(hs:s.size<=34359738368):∀(n f i st:Nat) (acc:List ByteArray),s.size-i=n->n+1<f->st<=i->i<=s.size->acc.length<=i->bT f (λc (b:(List ByteArray×Int×Int))=>bif (decide (b.2.2<=(↑s.size:Int))) then(bd (bd (bif (b.2.2==(↑s.size:Int)) then(some (true)) else(bd (bA (bW s) (b.2.2)) λk=>some (k==(46:Int)))) λm=>bif m then(gd (xQ s b.2.1 b.2.2) (gd (aV b.1 [s.extract b.2.1.toNat b.2.2.toNat]) (some ((b.1++[s.extract b.2.1.toNat b.2.2.toNat],IntKind.i64.wrap (b.2.2+(1:Int))))))) else(some (b.1,b.2.1))) λ(h:List ByteArray×Int)=>c ((h.1,h.2,IntKind.i64.wrap (b.2.2+(1:Int))))) else(some (b.1))) (acc,(st:Int),(i:Int))=some (acc++(kG ((s.data.toList.drop st).take (i-st)) (s.data.toList.drop i)).map λl=>(⟨l.toArray⟩:ByteArray))
 |n,f+1,i,st,acc,hn,t,h1,h2,u=>by
  rw[iZ];have e0:decide ((i:Int)<=(s.size:Int))=true:=by simpa using(show(i:Int)<=(s.size:Int) by omega)
  have es:xQ s (st:Int) (i:Int):=⟨by omega,by omega,by omega⟩;have j:aV acc ([s.extract (st:Int).toNat (i:Int).toNat]:List ByteArray):=by unfold aV;simp;omega
  have d:IntKind.i64.wrap ((i:Int)+1)=((i+1:Nat):Int):=by rw[aJ (by omega) (by omega)];omega
  simp only[e0,ac];rcases fa i s.size with a|o
  ·have e:((i:Int)==(s.size:Int))=false:=by simp;omega
   have hd:s.data.toList.drop i=s.data.toList[i]'a::s.data.toList.drop (i+1):=(co a);have hb:(bW s)[i]'(by rw[lG];exact a)=((s.data.toList[i]'a).toNat:Int):=by simp[bW]
   have hq:(((s.data.toList[i]'a).toNat:Int)==46)=(s.data.toList[i]'a==46):=by
    rw[en];simp only[cH];constructor
    ·intro q;apply UInt8.toNat_inj.1;show _=46;omega
    ·intro q;rw[q];rfl
   rw[e,aa,bB4 a,bd_s,bd_s,hb,hq,hd,kG];cases hc:(s.data.toList[i]'a==46) with
   |true=>rw[ac,aB es,aB j,bd_s];dsimp only;rw[d,ac,vO s hs (n-1) f (i+1) (i+1) _ (by omega) (by omega) (ai _) (by omega) (by simp;omega),bq,bq,ext_list];simp
   |false=>
    rw[aa,bd_s];dsimp only;rw[d,aa,vO s hs (n-1) f (i+1) st _ (by omega) (by omega) (by omega) (by omega) (by omega)];have:(s.data.toList.drop st).take (i+1-st)=(s.data.toList.drop st).take (i-st)++[s.data.toList[i]'a]:=by rw[show i+1-st=(i-st)+1 by omega,dz,dT,show st+(i-st)=i by omega,ae a];rfl
    rw[this]
  ·have e:((i:Int)==(s.size:Int))=true:=by simp;omega
   obtain⟨f,rfl⟩:∃g,f=g+1:=⟨f-1,by omega⟩;have p:s.data.toList.length<=i:=by have:s.data.toList.length=s.size:=rfl;omega
   have r:decide (((i+1:Nat):Int)<=(s.size:Int))=false:=by simp;omega
   rw[e,ac,bd_s,ac,aB es,aB j,bd_s,iZ];dsimp only;rw[d];simp only[r,aa];rw[gj p,kG,bq,bq,ext_list];rfl
def aMn (s:ByteArray)(h:s.size<=34359738368):Ol s=some (bO s):=by unfold Ol;have a:=gW;have:=vO s h s.size FUEL 0 0 [] rfl (by omega) (ai _) (cy _) (ai _);rw[show(0:Int)=((0:Nat):Int) from rfl];refine(congrArg (λx=>bd x some) this).trans ?_;simp[bO]
def aRz (s:ByteArray)(h:s.size<=34359738368):Ua s=some (wL s):=by
 unfold Ua wL;have hb:=lG s;rw[jR (l:=bW s) (λb=> !aCi b) (.inl false) (.inr ()) (by omega) (λrec i hi=>by
  have a:i<s.size:=by omega
  simp only[cK a,ac,bB4 a,bd_s];generalize(bW s)[i]'_=b;unfold aCi bI;have c:decide (b>=97)=decide (97<=b):=rfl;have d:decide (b>=48)=decide (48<=b):=rfl;rw[c,d];cases decide (97<=b)<;>cases decide (b<=122)<;>cases decide (48<=b)<;>cases decide (b<=57)<;>cases(b==45)<;>rfl) (λrec=>by simp only[hb,dJ,aa])]
 have e:bI (s.size:Int) 1 20=(decide (1<=s.size)&&decide (s.size<=20)):=by unfold bI;congr 1<;>exact cF.2 (by omega)
 rw[e];by_cases h0:0<s.size
 ·rw[show(0:Int)=((0:Nat):Int) from rfl,bB4 h0,aJ (by omega) (by omega),show(s.size:Int)-1=((s.size-1:Nat):Int) by omega,bB4 (show s.size-1<s.size by omega)];simp only[bd_s,bne,List.getD,ae (show 0<(bW s).length by rw[lG];exact h0),ae (show s.size-1<(bW s).length by rw[lG];omega),ck];cases((bW s)[0]'_==45)<;>cases((bW s)[s.size-1]'_==45)<;>cases decide (1<=s.size)<;>cases decide (s.size<=20)<;>cases(bW s).any _<;>rfl
 ·rw[show decide (1<=s.size)=false from ao (by omega)];cases(bW s).any _<;>rfl
def aU1 (s:ByteArray)(h:s.size<=34359738368):K3 s=some (iG s):=by
 unfold K3 iG;have hl:=Sd s;simp only[aB h,bd_s];rw[jR (l:=bO s) (λl=> !wL l) (.inl false) (.inr ()) (by omega) (λrec i hi=>by
  have a:(bO s)[i].size<=34359738368:=bz (zD s _ (cb _)) h;simp only[cK hi,ac,aN hi,bd_s,aB a]) (λrec=>by simp only[dJ,aa])]
 have e':decide ((s.size:Int)<=60)=decide (s.size<=60):=cF.2 (by omega);rw[e'];cases decide (s.size<=60)<;>cases(bO s).any _<;>rfl
def aU2 (s:ByteArray):M5 s=some (iG s):=by
 unfold M5 iG;by_cases a:s.size<=60
 ·have hl:=Sd s;rw[show decide ((s.size:Int)>60)=false from ao (by omega),aa,aB (show s.size<4294967281/\1<=(⟨#[UInt8.ofNat 46]⟩:ByteArray).size from⟨by omega,ai _⟩),bd_s];have es:lV s ⟨#[UInt8.ofNat 46]⟩=bO s:=aPt s;rw[es];rw[jR (l:=bO s) (λl=> !wL l) (.inl false) (.inr ()) (by omega) (λrec i hi=>by
   have d:(bO s)[i].size<=60:=bz (zD s _ (cb _)) a;simp only[cK hi,ac,aN hi,bd_s]
   revert d
   generalize(bO s)[i]=l;intro d;have hb:=lG l;rw[jR (l:=bW l) (λb=> !aCi b) (.inl (.inl false)) (.inr ()) (by omega) (λrec i hi=>by
    have c:i<l.size:=by omega
    simp only[cK c,ac,bB4 c,bd_s];generalize(bW l)[i]'_=b;unfold aCi bI;have e:decide (b>=97)=decide (97<=b):=rfl;have f:decide (b>=48)=decide (48<=b):=rfl;rw[e,f];cases decide (97<=b)<;>cases decide (b<=122)<;>cases decide (48<=b)<;>cases decide (b<=57)<;>cases(b==45)<;>rfl) (λrec=>by simp only[hb,dJ,aa])]
   unfold wL;by_cases h0:0<l.size
   ·rw[show(0:Int)=((0:Nat):Int) from rfl,bB4 h0,aJ (by omega) (by omega),show(l.size:Int)-1=((l.size-1:Nat):Int) by omega,bB4 (show l.size-1<l.size by omega)];have h:decide ((l.size:Int)<1)= !decide (1<=l.size):=by rw[<-decide_not];exact cF.2 (by omega)
    have j:decide ((l.size:Int)>20)= !decide (l.size<=20):=by rw[<-decide_not];exact cF.2 (by omega)
    rw[h,j];simp only[bd_s,bne,List.getD,ae (show 0<(bW l).length by rw[lG];exact h0),ae (show l.size-1<(bW l).length by rw[lG];omega),ck];cases((bW l)[0]'_==45)<;>cases((bW l)[l.size-1]'_==45)<;>cases decide (1<=l.size)<;>cases decide (l.size<=20)<;>cases(bW l).any _<;>rfl
   ·rw[show decide ((l.size:Int)<1)=true from ak (by omega),show decide (1<=l.size)=false from ao (by omega)];rfl) (λrec=>by simp only[dJ,aa])]
  rw[show decide (s.size<=60)=true by simpa using a];cases(bO s).any _<;>rfl
 ·rw[show decide ((s.size:Int)>60)=true from ak (by omega),show decide (s.size<=60)=false by simpa using a];rfl
def U6 (s:ByteArray):Bn s=some (bJy s):=by
 unfold Bn bJy;cases h:iG s with
 |false=>rfl
 |true=>
  have hs:=Sg h;have hp:=aLf s;have es:lV s ⟨#[UInt8.ofNat 46]⟩=bO s:=aPt s;rw[ay,aa,ac,aB (show s.size<4294967281/\1<=(⟨#[UInt8.ofNat 46]⟩:ByteArray).size from⟨by omega,ai _⟩),bd_s,es];rw[show(((bO s).length:Int)==1)=((bO s).length==1) by rw[en];simp only[cH];omega];cases h1:(bO s).length==1 with
  |true=>rfl
  |false=>
   have h2:(bO s).length≠1:=by simpa using h1
   have hl:=Sd s;obtain⟨a,c,b,hb,e⟩:=bS0 (l:=bO s) (by omega);have c:=zD s a c;have hb:=zD s b hb;rw[aa,aa,aJ (by omega) (by omega),show((bO s).length:Int)-2=(((bO s).length-2:Nat):Int) by omega,bq];have hd:((bO s).drop ((bO s).length-2)).length=2:=by rw[cz];omega
   have d:(rA ⟨#[UInt8.ofNat 46]⟩ ((bO s).drop ((bO s).length-2))).size<=140737488355328:=by have e:rA ⟨#[UInt8.ofNat 46]⟩ ((bO s).drop ((bO s).length-2))=_:=e;rw[e,ByteArray.size_append,ByteArray.size_append];have:(⟨#[46]⟩:ByteArray).size=1:=rfl;omega
   rw[aB (show lU (bO s) (((bO s).length-2:Nat):Int) by unfold lU;omega),aB ⟨by omega,d,by omega⟩];rfl
def aU3 (s:ByteArray)(h:s.size<=9223372036854775807):M6 s=some (Yf s):=by
 unfold M6 Yf;have hb:=lG s;rw[jR (l:=bW s) (λb=>b==46) (.inl true) (.inr ()) (by omega) (λrec i hi=>by
  have a:i<s.size:=by omega
  simp only[cK a,ac,bB4 a,bd_s]) (λrec=>by simp only[hb,dJ,aa])]
 cases(bW s).any _<;>rfl
def U7 (n:ByteArray)(seed:Int)(h:n.size<=9223372036854775807):Bo n seed=some (kZ n seed):=by
 unfold Bo kZ;simp only[aB h,bd_s];rw[bWp,aUj];cases h:iG n with
 |false=>rfl
 |true=>rw[bQ5 h];cases decide (2<=(bO n).length)<;>cases bK seed<;>rfl
def aR0 (n:ByteArray)(seed:Int)(h:n.size<=34359738368):Ub n seed=some (iH n seed):=by
 unfold Ub iH kZ;have e:decide (((bO n).length:Int)<2)= !decide (2<=(bO n).length):=by rw[<-decide_not];exact cF.2 (by omega)
 simp only[aB h,bd_s,e];cases iG n<;>cases decide (2<=(bO n).length)<;>cases bK seed<;>rfl
def U8 (s:AC)(h:s.sz<=34359738368):Ap s=some (dI s):=by
 simp only[AC.sz] at h;unfold Ap dI;rw[iD (l:=s.Accounts) (Mk s.Accounts) (.inl false) (.inr ()) (by omega) (λrec i hi=>by
  have b:=jQ (f:=AJ.sz) hi;simp only[cK hi,ac,aN hi,bd_s,aB (show s.Accounts[i].sz<=34359738368 by omega)];unfold Mk;by_cases h0:0<i
  ·rw[Sb h0 hi (by omega),show decide ((i:Int)>0)=true by simpa using h0,ak h0];simp only[bd_s];cases bB s.Accounts[i]<;>cases decide ((s.Accounts.getD (i-1) default).Id>=s.Accounts[i].Id)<;>rfl
  ·rw[show decide ((i:Int)>0)=false by simpa using h0,ao h0];cases bB s.Accounts[i]<;>rfl) (λrec=>by simp only[dJ,aa])]
 rw[show decide ((s.Accounts.length:Int)<=8)=decide (s.Accounts.length<=8) from cF.2 (by omega)];have a:(!((iH s.Name s.Book.Seed).Name.toList==(⟨#[]⟩:ByteArray).toList))=kZ s.Name s.Book.Seed:=by rw[bWp,bEz,Bool.not_not]
 simp only[aB (show s.Name.size<=34359738368 by omega),aB (show s.Book.sz<=34359738368 by simp only[AP.sz];omega),bd_s,a];cases kZ s.Name s.Book.Seed<;>cases decide (s.Accounts.length<=8)<;>cases eQ s.Book<;>cases gM (Mk s.Accounts) 0 s.Accounts<;>rfl
def U9 (s:AC)(h:s.sz<=34359738368):Bq s=some (dI s):=by
 simp only[AC.sz] at h;unfold Bq dI;rw[iD (l:=s.Accounts) (Mk s.Accounts) (.inl false) (.inr ()) (by omega) (λrec i hi=>by
  have a:=jQ (f:=AJ.sz) hi;simp only[cK hi,ac,aN hi,bd_s,aB (show s.Accounts[i].sz<=34359738368 by omega)];unfold Mk;by_cases h0:0<i
  ·rw[Sb h0 hi (by omega),show decide ((i:Int)>0)=true by simpa using h0,ak h0];simp only[bd_s];cases bB s.Accounts[i]<;>cases decide ((s.Accounts.getD (i-1) default).Id>=s.Accounts[i].Id)<;>rfl
  ·rw[show decide ((i:Int)>0)=false by simpa using h0,ao h0];cases bB s.Accounts[i]<;>rfl) (λrec=>by simp only[dJ,aa])]
 rw[show decide ((s.Accounts.length:Int)>8)= !decide (s.Accounts.length<=8) by rw[<-decide_not];exact cF.2 (by omega)];simp only[aB (show s.Name.size<=9223372036854775807 by omega),aB (show s.Book.sz<=34359738368 by simp only[AP.sz];omega),bd_s];cases kZ s.Name s.Book.Seed<;>cases decide (s.Accounts.length<=8)<;>cases eQ s.Book<;>cases gM (Mk s.Accounts) 0 s.Accounts<;>rfl
def aR1 (l:List AF)(e:AF)(h:l.length<=34359738368):Tw l e=some (kY l e):=by
 unfold Tw kY;have hd:=iB l;rw[jR (l:=l) (λq=>q.Kind==2&&q.Device==e.Device) (.inl false) (.inr ()) (by omega) (λrec i hi=>by
  simp only[cK hi,ac,aN hi,bd_s,lN];cases(l[i].Kind==2)<;>rfl) (λrec=>by simp only[dJ,aa])]
 rw[show(l.any λq=>q.Kind==2&&q.Device==e.Device)=dX l e.Device from rfl];simp only[aB h,aB (show(aC l).length<=1099511627776 by omega),aB (show([dF e]:List Int).length<=34359738300 by simp),bd_s,bne];cases(e.Index==(l.length:Int))<;>cases(e.Previous==iY l)<;>cases jE (aC l) e.By<;>cases((l.length:Int)==0)<;>cases(e.By==e.Device)<;>cases iE e.By [dF e] e.Signature<;>cases(e.Kind==2)<;>cases jE (aC l) e.Device<;>cases dX l e.Device<;>cases(e.Kind==1)<;>rfl
def aIi (l:List AF)(h:l.length<=34359738368):Ip l=some (aY l):=by
 unfold Ip aY;rw[iD (l:=l) (λi e=> !kY (l.take i) e) (.inl false) (.inr ()) (by omega) (λrec i hi=>by
  simp only[cK hi,ac,aN hi,bd_s,aZr];rw[aB (by unfold lU;simp;omega),aB (by rw[bv];omega)];rfl) (λrec=>by simp only[dJ,aa])]
 cases gM (λi e=> !kY (l.take i) e) 0 l<;>simp
def aIj (l:List AF)(h:l.length<=34359738368):Jq l=some (aY l):=by
 unfold Jq aY;rw[iD (l:=l) (λi e=> !kY (l.take i) e) (.inl false) (.inr ()) (by omega) (λrec i hi=>by
  have ht:(l.take i).length=i:=by rw[bv];omega
  have hb:(l.take i).length<=34359738368:=by omega
  have hd:=iB (l.take i);simp only[cK hi,ac,aN hi,bd_s,aZr,aB (show lU l (i:Int) by unfold lU;omega),aB hb,aB (show(aC (l.take i)).length<=1099511627776 by omega),aB (show([dF l[i]]:List Int).length<=34359738300 by simp)];unfold kY;rw[ht];generalize l[i]=e;have h1:decide (((aC (l.take i)).length:Int)>=6)= !decide (((aC (l.take i)).length:Int)<6):=by rw[<-decide_not];exact cF.2 (by omega)
  have h2:jE (aC (l.take i)) e.Device=true->decide (((aC (l.take i)).length:Int)>1)= !(((aC (l.take i)).length:Int)==1):=λa=>by
   have:=bNh a;rw[<-Bool.decide_eq_true (b:=(((aC (l.take i)).length:Int)==1)),<-decide_not];exact cF.2 (by simp;omega)
  simp only[h1,bne];cases c:(e.Kind==2) with
  |true=>
   have d:(e.Kind==1)=false:=by simp at c ⊢;omega
   rw[d];cases hd:jE (aC (l.take i)) e.Device with
   |true=>rw[h2 hd];cases(e.Index==(i:Int))<;>cases(e.Previous==iY (l.take i))<;>cases jE (aC (l.take i)) e.By<;>cases((i:Int)==0)<;>cases(e.By==e.Device)<;>cases iE e.By [dF e] e.Signature<;>cases(((aC (l.take i)).length:Int)==1)<;>rfl
   |false=>cases(e.Index==(i:Int))<;>cases(e.Previous==iY (l.take i))<;>cases jE (aC (l.take i)) e.By<;>cases((i:Int)==0)<;>cases(e.By==e.Device)<;>cases iE e.By [dF e] e.Signature<;>rfl
  |false=>
   cases(e.Kind==1) with
   |true=>cases(e.Index==(i:Int))<;>cases(e.Previous==iY (l.take i))<;>cases jE (aC (l.take i)) e.By<;>cases((i:Int)==0)<;>cases(e.By==e.Device)<;>cases iE e.By [dF e] e.Signature<;>cases jE (aC (l.take i)) e.Device<;>cases dX (l.take i) e.Device<;>cases decide (((aC (l.take i)).length:Int)<6)<;>rfl
   |false=>cases(e.Index==(i:Int))<;>cases(e.Previous==iY (l.take i))<;>cases jE (aC (l.take i)) e.By<;>cases((i:Int)==0)<;>cases(e.By==e.Device)<;>cases iE e.By [dF e] e.Signature<;>cases dX (l.take i) e.Device<;>rfl) (λrec=>by simp only[dJ,aa])]
 unfold bI;have f:decide ((l.length:Int)<1)= !decide (1<=(l.length:Int)):=by rw[<-decide_not];exact cF.2 (by omega)
 have j:decide ((l.length:Int)>40)= !decide ((l.length:Int)<=40):=by rw[<-decide_not];exact cF.2 (by omega)
 rw[f,j];cases decide (1<=(l.length:Int))<;>cases decide ((l.length:Int)<=40)<;>cases gM (λi e=> !kY (l.take i) e) 0 l<;>rfl
def Zq (w:AA)(h:w.sz<=34359738368):xZ w=some (aP w):=by
 simp only[AA.sz] at h;unfold xZ aP;rw[iD (l:=w.Sites) nA (.inl false) (.inr ()) (by omega) (λrec i hi=>by
  have a:=jQ (f:=AC.sz) hi;simp only[cK hi,ac,aN hi,bd_s,aB (show w.Sites[i].sz<=34359738368 by omega)];unfold nA;cases dI w.Sites[i]<;>cases(w.Sites[i].Name.toList==(aA (i:Int)).toList)<;>rfl) (λrec=>by simp only[dJ,aa])]
 simp only[aB (show w.Mail.sz<=34359738368 by simp only[AS.sz];omega),aB (show w.aAC.Log.length<=34359738368 by omega),bne,bd_s];cases gM nA 0 w.Sites<;>cases bI w.Now 0 999900<;>cases bI (w.Devices.length:Int) 1 6<;>cases((w.Stolen.length:Int)==(w.Devices.length:Int))<;>cases((w.Sites.length:Int)==2)<;>cases gJ w.Mail<;>cases aY w.aAC.Log<;>cases bK w.Seed<;>rfl
def Zr (w:AA)(h:w.sz<=34359738368):yJ w=some (aP w):=by
 simp only[AA.sz] at h;unfold yJ aP;rw[iD (l:=w.Sites) nA (.inl false) (.inr ()) (by omega) (λrec i hi=>by
  have a:=jQ (f:=AC.sz) hi;simp only[cK hi,ac,aN hi,bd_s,aB (show w.Sites[i].sz<=34359738368 by omega)];unfold nA;cases dI w.Sites[i]<;>cases(w.Sites[i].Name.toList==(aA (i:Int)).toList)<;>rfl) (λrec=>by simp only[dJ,aa])]
 simp only[aB (show w.Mail.sz<=34359738368 by simp only[AS.sz];omega),aB (show w.aAC.Log.length<=34359738368 by omega),bne,bd_s];cases gM nA 0 w.Sites<;>cases bI w.Now 0 999900<;>cases bI (w.Devices.length:Int) 1 6<;>cases((w.Stolen.length:Int)==(w.Devices.length:Int))<;>cases((w.Sites.length:Int)==2)<;>cases gJ w.Mail<;>cases aY w.aAC.Log<;>cases bK w.Seed<;>rfl
def bR2 (h:AG)(b:Int)(a:h.Saved.length<=34359738368)(h0:0<=b/\b<(h.Saved.length:Int)):bA h.Saved (IntKind.i64.wrap (IntKind.i64.wrap ((h.Saved.length:Int)-1)-b))=some (h.Saved.getD (h.Saved.length-1-b.toNat) default):=by rw[aJ (n:=(h.Saved.length:Int)-1) (by omega) (by omega),aJ (by omega) (by omega),sD (by omega) (by omega)];congr 2;omega
def Zt (h:AG)(b:Int)(a:h.sz<=34359738368):yG h b=some (fM h b):=by
 have hq:=a;simp only[AG.sz] at hq;unfold yG fM;rw[aB a,bd_s,aCl hq];cases e:(decide (b<0)||decide (b>=(h.Saved.length:Int))) with
 |true=>rfl
 |false=>rw[bR2 h b hq (Ml e)];rfl
def bR3 {h:AG}{b:Int}(e:(fM h b).2=false):fM h b=(h,false):=by
 unfold fM at e ⊢;cases q:(decide (b<0)||decide (b>=(h.Saved.length:Int))) with
 |true=>rfl
 |false=>rw[q] at e;cases e
def Vh (w:AA)(i b:Int)(h:w.sz<=34359738368):xA w i b=some (fT w i b):=by
 have c:=h;simp only[AA.sz] at c;unfold xA fT;rw[aB h,bd_s,aB h,bd_s,aCl (by omega),rE,bd_s];cases e:(!aP w||(decide (i<0)||decide (i>=(w.Hosts.length:Int)))) with
 |true=>rfl
 |false=>
  have a:=Ml (bn.1 e).2;have hi:i.toNat<w.Hosts.length:=by omega
  have hs:=jQ (f:=AG.sz) hi;have hg:w.Hosts.getD i.toNat default=w.Hosts[i.toNat]:=by simp[List.getD,ae hi]
  rw[aa,aa,sD a.1 a.2,bd_s,hg,aB (by omega),bd_s,bd_s];cases hr:(fM w.Hosts[i.toNat] b).2 with
  |true=>rfl
  |false=>rw[bR3 hr,aa,<-hg,aPx hi]
def aIk (l:List AU)(h:l.length<=34359738368):Jf l=some (Ze l):=by
 unfold Jf Ze;rw[iD (l:=l) (bE2 l) (.inl false) (.inr ()) (by omega) (λrec i hi=>by
  simp only[cK hi,ac,aN hi,bd_s,lN];rw[bQ6 (λq=>q.Index==l[i].Index) (.inl (.inl false)) (.inr ()) i (by omega) h (λrec j a=>by simp only[cK a,ac,aN (show j<l.length by omega),bd_s]) (λrec=>by simp only[dJ,aa])];unfold bE2;cases bI l[i].Index 1 7<;>cases bI l[i].Value 0 1018<;>cases(l.take i).any _<;>rfl) (λrec=>by simp only[dJ,aa])]
 cases bI (l.length:Int) 1 7<;>cases gM (bE2 l) 0 l<;>rfl
def bAe (a:Int):bAa a=some (dW a 1019):=rfl
def bVk:((1019:Int)≠0)=True:=by simp
def aU4 (c:Int)(l:List Int)(x:Int)(h:0<=x/\x<=1000/\l.length<=34359738368):K6 c l x=some (Sk c l x):=by
 obtain⟨h1,h2,a⟩:=h;have hr:=aPz ⟨h1,h2⟩ l;have hm:=uY (p:=c) (q:=1019) (by omega);unfold K6 Sk;rw[bNm (l:=l) (aPy x) some (by omega) (λrec s i hi=>by
  simp only[show decide ((i:Int)>=0)=true from ak (by omega),ac,aN hi,bd_s,bVk,gd_T,aJ (show-9223372036854775808<=(i:Int)-1 by omega) (by omega)];rfl) (λrec s=>rfl) (aJ (by omega) (by omega))]
 simp only[bd_s,bVk,gd_T];rw[aJ (by omega) (by omega),cr (by omega)]
def bK4 {l:List AU}(h:Ze l=true){i:Nat}(hi:i<l.length):1<=l[i].Index/\l[i].Index<=7:=by
 unfold Ze at h;rw[ab,ca] at h;have hb:bE2 l i l[i]=false:=by
  cases hc:bE2 l i l[i] with
  |false=>rfl
  |true=>rw[(Sj l 0).2 ⟨i,hi,by rw[cj];exact hc⟩] at h;exact absurd h.2 (by simp)
 unfold bE2 at hb;rw[bn,cL] at hb;exact iA hb.1
def Vi (l:List AU)(c:List Int)(h:l.length<=34359738368/\c.length<=34359738368):wZ l c=some (lC l c):=by
 unfold wZ lC;rw[aB h.1,bd_s];cases a:Ze l with
 |false=>rfl
 |true=>
  rw[ay,aa,bU1 (l:=l) (bNl c) (by omega) (λrec i s hi hs=>by
   have:=bK4 a hi;simp only[cK hi,ac,aN hi,bd_s,aB (show 0<=l[i].Index/\l[i].Index<=1000/\c.length<=34359738368 by omega),bVk,gd_T,gF hs];rfl) (λrec s=>by simp only[dJ,aa])]
  rfl
def aIl (l:List AG)(h:l.length<=34359738368):Ji l=some (l.map λh=>h.State.aAQ):=by unfold Ji;rw[bU1 (l:=l) (λh:AG=>h.State.aAQ) (by omega) (λrec i s hi hs=>by simp only[cK hi,ac,aN hi,bd_s,gF hs]) (λrec s=>by simp only[dJ,aa])];rfl
def aR2 (k:AZ):aRc k=some (kQ k):=rfl
def Vj (k:AZ):wX k=some (jY k):=by unfold wX jY;rw[aB (by simp),bd_s];cases Ze [k.aAQ]<;>cases bI k.Epoch 0 1000000<;>cases bI k.Limit 1 10<;>rfl
def Zu (h:AG)(s:AU)(a:h.sz<=34359738368):yF h s=some (aP0 h s):=by unfold yF aP0 jL;simp only[aB a,bd_s,aB (show([s]:List AU).length<=34359738368 by simp)];cases jY h.State<;>cases decide (kQ h.State<h.Monotonic)<;>cases(h.State.Epoch==1000000)<;>cases(s.Index !=h.State.aAQ.Index)<;>cases Ze [s]<;>rfl
def bF3 (hs:List AG)(a:List AU)(hl:a.length=hs.length)(t:hs.length<=34359738368){F:(List AG×Nat->Option (List AG×Bool⊕List AG))->List AG×Nat->Option (List AG×Bool⊕List AG)}
  (m:∀rec i s (hi:i<hs.length) (d:i<a.length),s.length<=34359738368->F rec (s,i)=bif jL hs[i] a[i] then some (.inl (hs,false)) else rec (s++[qP hs[i] a[i]],i+1)) (o:∀rec s,F rec (s,hs.length)=some (.inr s)):
  nx (bT FUEL F ([],0)) (λz=>some (z,true))=some (bif (hs.zip a).any (λp=>jL p.1 p.2) then(hs,false) else(List.zipWith qP hs a,true)):=by
 have hb:∀i (hi:i<hs.length),jL hs[i] (a[i]'(by omega))=true->(hs.zip a).any (λp=>jL p.1 p.2)=true:=λi hi h=>by
  refine ex.2 ⟨(hs[i],a[i]'(by omega)),?_,h⟩;have:=cb (l:=hs.zip a) (n:=i) (by simp;omega);rwa [jq] at this
 have ht:∀i (hi:i<hs.length),List.zipWith qP (hs.take (i+1)) (a.take (i+1))=List.zipWith qP (hs.take i) (a.take i)++[qP (hs[i]'(by omega)) (a[i]'(by omega))]:=λi hi=>by
  rw[dz,dz,ae hi,ae (show i<a.length by omega)];simp only[eS];rw[List.zipWith_append (by simp;omega)];rfl
 have key:=Gw (F:=F) (s:=([],0)) (λi s=>i<=hs.length/\s=(List.zipWith qP (hs.take i) (a.take i),i)/\∀j (d:j<hs.length),j<i->jL hs[j] (a[j]'(by omega))=false) hs.length (some (bif (hs.zip a).any (λp=>jL p.1 p.2) then .inl (hs,false) else .inr (List.zipWith qP hs a))) (by omega) ⟨by omega,by simp,λj _ h=>by omega⟩ (λi s rec hi hv=> ?_) (λs rec hv=> ?_)
 ·rw[key];cases(hs.zip a).any _<;>rfl
 ·obtain⟨_,rfl,f⟩:=hv;rw[m rec i _ hi (by omega) (by simp;omega)];cases hc:jL hs[i] (a[i]'(by omega)) with
  |true=>exact .inr (by rw[hb i hi hc];rfl)
  |false=>
   refine .inl ⟨_,⟨hi,by rw[ht i hi],λj d q=> ?_⟩,rfl⟩;rcases fa j i with k|k
   ·exact f j d k
   ·have:j=i:=by omega
    subst this;exact hc
 ·obtain⟨_,rfl,f⟩:=hv;have hn:(hs.zip a).any (λp=>jL p.1 p.2)=false:=by
   cases h:(hs.zip a).any (λp=>jL p.1 p.2) with
   |false=>rfl
   |true=>
    obtain⟨x,r,b⟩:=ex.1 h;obtain⟨i,hi,e⟩:=iS r;rw[jq] at e;have c:i<hs.length:=by simp at hi;omega
    rw[<-e] at b;simp only at b;rw[f i c c] at b;cases b
  rw[o,hn,dg,<-hl,dg];rfl
def aDi (hs:List AG)(c:List Int)(h:Cy AG.sz hs<=34359738368/\c.length<=34359738368):Fb hs c=some (fB hs c):=by
 obtain⟨h1,h2⟩:=h;have h0:hs.length<=34359738368:=by unfold Cy at h1;omega
 have hr:=bB9 (hs.map λh=>h.State.aAQ) c;unfold Fb fB aZy;rw[aB h0,bd_s,aB ⟨by simpa using h0,h2⟩,bd_s,aB h1];cases he:((lC (hs.map λh=>h.State.aAQ) c).length:Int)==0 with
 |true=>rfl
 |false=>
  have hl:=bCa (l:=hs.map λh=>h.State.aAQ) (c:=c) (by simpa using he);rw[bg] at hl;rw[aa,cu,bF3 hs _ hl h0 (λrec i s hi b a=>by
   have d:=jQ (f:=AG.sz) hi;unfold Cy at h1;simp only[cK hi,ac,aN hi,aN b,bd_s,aB (show hs[i].sz<=34359738368 by omega),gF a];unfold aP0;cases jL hs[i] (lC (hs.map λh=>h.State.aAQ) c)[i]<;>rfl) (λrec s=>by simp only[dJ,aa])]
def aYo (w:AA){F:(List Int×Int->Option (List Int))->List Int×Int->Option (List Int)}
  (a:∀rec (s:List Int) (k:Int),s.length<=100->0<=k->k<=100->F rec (s,k)=bif decide (k<w.aAO.Threshold)&&decide (k<=7) then rec (s++[aZ w.Seed [317,w.Now,k]],k+1) else some s):
  ∀(n f:Nat) (k:Int) (s:List Int),n<f->k=9-(n:Int)->n<=8->s.length<=100-n->bT f F (s,k)=some (s++aLg w n k)
 |0,f+1,k,s,b,hk,_,hs=>by
  rw[iZ,a _ _ _ (by omega) (by omega) (by omega),show decide (k<=7)=false from ao (by omega),dl,aa];unfold aLg;simp
 |n+1,f+1,k,s,b,hk,hn,hs=>by
  rw[iZ,a _ _ _ (by omega) (by omega) (by omega)];unfold aLg;cases(decide (k<w.aAO.Threshold)&&decide (k<=7)) with
  |true=>rw[ac,ac,aYo w a n f _ _ (by omega) (by omega) (by omega) (by simp;omega)];simp
  |false=>simp
def aDj (w:AA)(h:w.sz<=34359738368):Fe w=some (eO w):=by
 have a:=h;simp only[AA.sz] at a;have hc:=aXs w 8 1;unfold Fe eO;rw[aB h,bd_s,aYo w (λrec s k h1 h2 b=>by
  rw[aB (by simp),bd_s,gF (s:=s) (by omega),aJ (by omega) (by omega),aZx,bd_s]) 8 FUEL 1 [] (by have:=gW;omega) rfl (by omega) (by simp),bd_s,bu,aB ⟨by unfold Cy;omega,by omega⟩,bd_s,aB h,bd_s]
 unfold aCm;cases aP w<;>cases(fB w.Hosts (aLg w 8 1)).2<;>rfl
def V3 (b:List Int)(h:b.length<=34359738360):Al b=some (zB b):=by unfold Al zB;rw[bS1 (l:=b) IntKind.i64.wrap (by simp;omega) (λrec i s hi hs=>by simp only[cK hi,ac,aN hi,bd_s,gF hs]) (λrec s=>by simp only[dJ,aa])];rfl
def V4 (b:List Int)(h:b.length<=34359738360):Bw b=some (zB b):=by unfold Bw zB;rw[bS1 (l:=b) IntKind.i64.wrap (by simp;omega) (λrec i s hi hs=>by simp only[cK hi,ac,aN hi,bd_s,gF hs]) (λrec s=>by simp only[dJ,aa])];rfl
def Kg (k:Int)(s:ByteArray)(h:s.size<=34359738300):rJ k s=some (zZ k s):=by have hb:=lG s;unfold rJ zZ;rw[aZz,aB (by omega),bd_s,aB (by rw[bQ8];omega),bd_s,bB0 (mK _ _).1]
def aMo (s:ByteArray)(h:s.size<=34359738300):Om s=some (bM s):=by unfold Om;rw[aB h];rfl
def bIe {b:AB}{s h:Int}(f:decide (aQ b s h>=0)=true):bA b.Entries (aQ b s h)=some (b.Entries.getD (aQ b s h).toNat default)/\(aQ b s h).toNat<b.Entries.length/\(b.Entries.getD (aQ b s h).toNat default).Site=s/\(b.Entries.getD (aQ b s h).toNat default).Handle=h:=by
 have h0:=of_decide_eq_true f;obtain⟨l1,e,l2,d,c,a⟩:=Yh (p:=λe:AH=>e.Site==s&&e.Handle==h) (l:=b.Entries) (i:=0) h0;have a:aQ b s h=((0+l1.length:Nat):Int):=a;rw[cj] at a;have hl:l1.length<b.Entries.length:=by rw[d];simp
 have hg:b.Entries.getD l1.length default=e:=by rw[d];simp[List.getD]
 rw[a,bq,hg];simp only[ab,cH] at c;refine⟨?_,hl,c.1,c.2⟩;rw[aN hl];have:b.Entries[l1.length]=e:=by rw[<-hg,List.getD,ae hl];rfl
 rw[this]
def bR4 (b:AB)(x:AH):(zG b x).Entries.length<=b.Entries.length+1:=by
 unfold zG;cases decide (aQ b x.Site x.Handle>=0) with
 |true=>simp
 |false=>have:=congrArg List.length (jm (p:=λe=>wM e x.Site x.Handle) (l:=b.Entries));simp only[ax] at this;simp only[aa,ax,cp];omega
def aMp (b:AB)(s h:Int)(c:b.sz<=34359738360):Oq b s h=some (aUk b s h):=by
 have hq:=c;simp only[AB.sz] at hq;have hs:=bR4 b (Q4 b s h);unfold Oq aUk;have d:(zG b (Q4 b s h)).sz<=34359738368:=by simp only[AB.sz];omega
 rw[aB (show b.sz<=34359738368 by omega),aB (show b.sz<=34359738368 by omega)];simp only[aB (show b.sz<=34359738360 from c),aB (show b.sz<=34359738368 by omega),bd_s];cases a:decide (aQ b s h>=0) with
 |true=>
  obtain⟨h1,h2,_,_⟩:=bIe a;have hv:Q4 b s h=⟨s,h,IntKind.i64.wrap ((b.Entries.getD (aQ b s h).toNat default).Version+1),false⟩:=by unfold Q4 bQ7;rw[a];rfl
  rw[ac,h1,bd_s];cases hd:(b.Entries.getD (aQ b s h).toNat default).Deleted with
  |false=>rfl
  |true=>rw[bd_s,ay,aa,nx_r,<-hv,aB d];cases aR b<;>cases aR (zG b (Q4 b s h))<;>rfl
 |false=>
  have hv:Q4 b s h=⟨s,h,1,false⟩:=by unfold Q4 bQ7;rw[a];rfl
  rw[aa,nx_r,<-hv,aB d];cases aR b<;>cases aR (zG b (Q4 b s h))<;>rfl
def Dq.of' {w:AA}(h:w.sz<=34359738368):Dq w:=by simp only[AA.sz] at h;unfold Dq;omega
def aMq (w:AA)(d:Int)(h:w.sz<=34359738368):Pe w d=some (aP w&&aL w d):=by unfold Pe;rw[aB h,bd_s,Yd (Dq.of' h),aZx,bd_s]
def V5 (b:AB)(s h:Int)(c:b.sz<=34359738360):Aw b s h=some (aUl b s h):=by
 unfold Aw aUl;simp only[aB c,aB (show b.sz<=34359738368 by omega),bd_s];cases aR b with
 |false=>rfl
 |true=>
  by_cases a:aQ b s h<0
  ·rw[ak a];rfl
  ·obtain⟨h1,h2,d,e⟩:=bIe (b:=b) (s:=s) (h:=h) (ak (by omega));rw[ao a,h1];simp only[bd_s];rw[show(⟨s,h,IntKind.i64.wrap ((b.Entries.getD (aQ b s h).toNat default).Version+1),true⟩:AH)=bJz b s h from rfl];cases(b.Entries.getD (aQ b s h).toNat default).Deleted<;>cases((b.Entries.getD (aQ b s h).toNat default).Version==1000000)<;>rfl
def Zv (d:AD)(n:ByteArray)(h:Int)(rm:Bool)(a:d.sz<=34359738360/\n.size<=34359738300):xV d n h rm=some (dO d n h rm):=by
 obtain⟨h1,h2⟩:=a;have hb:d.aAD.sz<=34359738360:=by simp only[AD.sz,AB.sz] at*;omega
 unfold xV dO sF;simp only[aB (show d.sz<=34359738368 by omega),aB h2,aB hb,bd_s];cases rm with
 |true=>simp only[ac,bd_s];cases(aUl d.aAD (bM n) h).2<;>rfl
 |false=>simp only[aa,bd_s];cases(aUk d.aAD (bM n) h).2<;>rfl
def aYp {w:AA}{d:Int}(h:aL w d=true):0<=d/\d.toNat<w.Devices.length/\(aG w d).sz<=w.sz/\aG w d=w.Devices.getD d.toNat default:=by
 simp only[aL,ab,bp] at h;have hi:d.toNat<w.Devices.length:=by omega
 have:=wB (f:=AD.sz) hi;refine⟨h.1,hi,?_,rfl⟩;show(w.Devices.getD d.toNat default).sz<=_;simp only[AA.sz];omega
def bK5 {d:AD}{n:ByteArray}{h:Int}{rm:Bool}(e:(dO d n h rm).2=false):dO d n h rm=(d,false):=by
 unfold dO at e ⊢;cases q:(sF d n h rm).2 with
 |true=>rw[q] at e;cases e
 |false=>rfl
def aDk (w:AA)(d:Int)(n:ByteArray)(h:Int)(rm:Bool)(a:w.sz<=34359738300/\n.size<=34359738300):Ex w d n h rm=some (rF w d n h rm):=by
 obtain⟨h1,h2⟩:=a;unfold Ex rF;rw[aB (show w.sz<=34359738368 by omega),bd_s,aB (show w.sz<=34359738368 by omega),bd_s];cases hc:(aP w&&aL w d) with
 |false=>rfl
 |true=>
  have hd:=(iw.1 hc).2;obtain⟨k1,k2,k3,k4⟩:=aYp hd;rw[ay,aa,ac,lM hd,bd_s,aB ⟨by omega,h2⟩,bd_s,bd_s];cases e:(dO (aG w d) n h rm).2 with
  |true=>rfl
  |false=>rw[bK5 e,aa,k4,aPx k2]
def aR3 (l:List AF)(h:l.length<=34359738368):Tx l=some (aD l):=by
 unfold Tx;rw[gT (l:=l) (λn e=>bif e.Kind==2 then IntKind.i64.wrap (n+1) else n) (λ_ _=>True) (λs=>some s) (by omega) trivial (λ_ _ _ _=>trivial) (λrec i s hi _=>by
  simp only[cK hi,ac,aN hi,bd_s,lN]) (λrec s _=>by simp only[dJ,aa])]
 rfl
def aR4 (l:List AF)(h:l.length<=34359738368):Va l=some (aD l):=by
 unfold Va;rw[gT (l:=l) (λn e=>bif e.Kind==2 then IntKind.i64.wrap (n+1) else n) (λ_ _=>True) (λs=>some s) (by omega) trivial (λ_ _ _ _=>trivial) (λrec i s hi _=>by
  simp only[cK hi,ac,aN hi,bd_s,lN]) (λrec s _=>by simp only[dJ,aa])]
 rfl
def aU5 (p e:Int):M7 p e=some (iU p e):=by unfold M7;rw[aB (by simp)];rfl
def aU6 (p e:Int):J8 p e=some (iU p e):=by unfold J8;rw[aB (by simp)];rfl
def aU7 (k:Int)(b:AO)(h:b.Data.length<=34359738200):J9 k b=some (Zd k b):=by unfold J9 Zd;rw[aB (by omega),bd_s,aB (by simp[aV,zB];omega),aB (by simp[zB];omega)];rfl
def aU8 (k:Int)(b:AO)(h:b.Data.length<=34359738200):M8 k b=some (Zd k b):=by unfold M8 Zd;rw[aB (by omega),bd_s,aB (by simp[Aa,zB];omega),bd_s,aB (by simp[zB,rX];omega)];simp[rX]
def aIm {α β:Type}{y:Nat->α->β}:∀{l:List α} {j i:Nat} (hi:i<l.length),Pq (λi x=>[y i x]) j (l.take (i+1))=Pq (λi x=>[y i x]) j (l.take i)++[y (j+i) l[i]]
 |x::xs,j,0,_=>by simp[Pq]
 |x::xs,j,i+1,hi=>by
  have:=aIm (y:=y) (l:=xs) (j:=j+1) (i:=i) (by simpa using hi);simp only[iy,Pq,fb,this,cN,bu];rw[show j+1+i=j+(i+1) by omega]
def bIf {k:Int}{b:List Int}(hl:b.length<=34359738368){F:(List Int×Nat->Option (List Int))->List Int×Nat->Option (List Int)}
  (a:∀rec i s (hi:i<b.length),s.length<=34359738368->F rec (s,i)=rec (s++[aUi k i b[i]],i+1)) (c:∀rec s,F rec (s,b.length)=some s):bT FUEL F ([],0)=some (Sa k b):=by
 refine Gw (λi s=>i<=b.length/\s=(Pq (λi z=>[aUi k i z]) 0 (b.take i),i)) b.length _ (by omega) ⟨by omega,by simp[Pq]⟩ (λi s rec hi hv=> ?_) (λs rec hv=> ?_)
 ·obtain⟨_,rfl⟩:=hv;refine .inl ⟨_,⟨hi,rfl⟩,?_⟩;rw[a rec i _ hi (by rw[rY,bv];omega),aIm hi,cj]
 ·obtain⟨_,rfl⟩:=hv;rw[c,dg];rfl
def aR5 (k:Int)(b:List Int)(h:b.length<=34359738368):Uk k b=some (Sa k b):=by
 unfold Uk;rw[bIf (k:=k) h (λrec i s hi hs=>by
  have e:=bNg k i b[i];have a:((256:Int)≠0)=True:=by simp
  simp only[cK hi,ac,aN hi,bd_s,aB (show([(i:Int)]:List Int).length<=34359738368 by simp),a,gd_T,e,gF hs]) (λrec s=>by simp only[dJ,aa])]
 rfl
def aR6 (k:Int)(b:List Int)(h:b.length<=34359738368):Vb k b=some (Sa k b):=by
 unfold Vb;rw[bIf (k:=k) h (λrec i s hi hs=>by
  have e:=bNf k i b[i];simp only[cK hi,ac,aN hi,bd_s,aB (show([(i:Int)]:List Int).length<=34359738368 by simp),e,gF hs]) (λrec s=>by simp only[dJ,aa])]
 rfl
def aR7 (p:Int)(b:AO):Ul p b=some (gH p b):=by
 unfold Ul gH;by_cases hl:b.Data.length<=200
 ·simp only[aB (show b.Data.length<=34359738200 by omega),aB (show b.Data.length<=34359738368 by omega),bd_s,show decide ((b.Data.length:Int)>200)=false from ao (by omega)];cases bK p<;>cases(b.To !=dP p)<;>cases bK b.Ephemeral<;>cases(b.MAC !=Zd (iU p b.Ephemeral) b)<;>rfl
 ·rw[show decide ((b.Data.length:Int)>200)=true from ak (by omega)];cases bK p<;>cases(b.To !=dP p)<;>cases bK b.Ephemeral<;>rfl
def aDl {bs:List AO}{p:Int}(hl:bs.length<=34359738368){F:(Nat->Option ((List Int×Bool)⊕PUnit))->Nat->Option ((List Int×Bool)⊕PUnit)}
  (a:∀rec i (hi:i<bs.length),F rec i=bif (gH p bs[i]).2 then some (.inl ((gH p bs[i]).1,true)) else rec (i+1)) (b:∀rec,F rec bs.length=some (.inr ())):nx (bT FUEL F 0) (λ_=>some (([]:List Int),false))=some (gU bs p):=by
 have go:∀(k i n:Nat),i+k=bs.length->k<n->nx (bT n F i) (λ_=>some (([]:List Int),false))=some (gU (bs.drop i) p):=by
  intro k;induction k with
  |zero=>
   intro i n hk hn;obtain⟨n,rfl⟩:∃m,n=m+1:=⟨n-1,by omega⟩;have:i=bs.length:=by omega
   subst this;rw[iZ,b,dp];rfl
  |succ k c=>
   intro i n hk hn;obtain⟨n,rfl⟩:∃m,n=m+1:=⟨n-1,by omega⟩;have hi:i<bs.length:=by omega
   rw[iZ,a _ i hi,co hi,gU];cases(gH p bs[i]).2 with
   |true=>rfl
   |false=>exact c (i+1) n (by omega) (by omega)
 exact go bs.length 0 FUEL (by omega) (by have:=gW;omega)
def aR8 (bs:List AO)(p:Int)(h:bs.length<=34359738368):Um bs p=some (gU bs p):=by unfold Um;exact aDl h (λrec i hi=>by simp only[cK hi,ac,aN hi,bd_s]) (λrec=>by simp only[dJ,aa])
def aR9 (p:Int)(b:AO):Vd p b=some (gH p b):=by
 unfold Vd gH;by_cases hl:b.Data.length<=200
 ·simp only[aB (show b.Data.length<=34359738200 by omega),aB (show b.Data.length<=34359738368 by omega),bd_s,show decide ((b.Data.length:Int)>200)=false from ao (by omega)];cases bK p<;>cases(b.To !=dP p)<;>cases bK b.Ephemeral<;>cases(b.MAC !=Zd (iU p b.Ephemeral) b)<;>rfl
 ·rw[show decide ((b.Data.length:Int)>200)=true from ak (by omega)];cases bK p<;>cases(b.To !=dP p)<;>cases bK b.Ephemeral<;>rfl
def aSa (bs:List AO)(p:Int)(h:bs.length<=34359738368):Ve bs p=some (gU bs p):=by unfold Ve;exact aDl h (λrec i hi=>by simp only[cK hi,ac,aN hi,bd_s]) (λrec=>by simp only[dJ,aa])
def aSb {c:AM}{b:Int}(a:c.sz<=34359738368)(h0:0<=b/\b<(c.History.length:Int)):bA c.History (IntKind.i64.wrap (IntKind.i64.wrap ((c.History.length:Int)-1)-b))=some (c.History.getD (c.History.length-1-b.toNat) default)/\(c.History.getD (c.History.length-1-b.toNat) default).sz<=34359738368:=by simp only[AM.sz] at a;have h1:=wB (f:=AI.sz) (l:=c.History) (i:=c.History.length-1-b.toNat) (by omega);refine⟨?_,by omega⟩;rw[aJ (n:=(c.History.length:Int)-1) (by omega) (by omega),aJ (by omega) (by omega),sD (by omega) (by omega)];congr 2;omega
def V6 (c:AM)(b:Int)(a:c.sz<=34359738368):Az c b=some (eZ c b):=by
 unfold Az eZ;rw[aCl (by simp only[AM.sz] at a;omega)];cases e:(decide (b<0)||decide (b>=(c.History.length:Int))) with
 |true=>rfl
 |false=>obtain⟨h1,h2⟩:=aSb a (Ml e);rw[aa,aa,h1,bd_s,aB h2,bd_s]
def V7 (c:AM)(b:Int)(a:c.sz<=34359738368):Bv c b=some (eZ c b):=by
 unfold Bv eZ;rw[rE,bd_s];cases e:(decide (b<0)||decide (b>=(c.History.length:Int))) with
 |true=>rfl
 |false=>obtain⟨h1,h2⟩:=aSb a (Ml e);rw[aa,aa,h1,bd_s,aB h2,bd_s]
def bDl {a b:List AF}(f:a.length<=34359738368){F:(Nat->Option (Bool⊕PUnit))->Nat->Option (Bool⊕PUnit)}
  (c:∀rec i (hi:i<b.length) (j:i<a.length),F rec i=bif !bJ1 a[i] b[i] then some (.inl false) else rec (i+1)) (d:∀rec,F rec b.length=some (.inr ())):
  (bif decide ((a.length:Int)<(b.length:Int)) then some false else nx (bT FUEL F 0) λ_=>some true)=some (cZ a b):=by
 unfold cZ;by_cases h:b.length<=a.length
 ·rw[ao (show ¬(a.length:Int)<(b.length:Int) by omega),aa,ak h,cx,
   iD (l:=b) (λi e=> !bJ1 (a.getD i default) e) (.inl false) (.inr ()) (by omega) (λrec i hi=>by
    rw[c rec i hi (by omega),List.getD,ae (show i<a.length by omega)];rfl) d]
  cases gM (λi e=> !bJ1 (a.getD i default) e) 0 b<;>rfl
 ·rw[ak (show(a.length:Int)<(b.length:Int) by omega),ao h];rfl
def aDm (a b:List AF)(h:a.length<=34359738368):Ef a b=some (cZ a b):=by unfold Ef;exact bDl h (λrec i hi c=>by simp only[cK hi,ac,aN hi,aN c,bd_s];rfl) (λrec=>by simp only[dJ,aa])
def aDn (a b:List AF)(h:a.length<=34359738368):Fs a b=some (cZ a b):=by unfold Fs;exact bDl h (λrec i hi c=>by simp only[cK hi,ac,aN hi,aN c,bd_s];rfl) (λrec=>by simp only[dJ,aa])
def aIn (k:Int)(b:AI)(h:b.Data.length<=34359738200):Iw k b=some (jA k b):=by unfold Iw jA;rw[aB (by omega),bd_s,aB (by simp[aV,zB];omega),aB (by simp[zB];omega)];rfl
def aIo (k:Int)(b:AI)(h:b.Data.length<=34359738200):Jw k b=some (jA k b):=by unfold Jw jA;rw[aB (by omega),bd_s,aB (by simp[Aa,zB];omega),bd_s,aB (by simp[zB,rX];omega)];simp[rX]
def aMr (k e v:Int):Ot k e v=some (bK k&&(bI e 0 1000000&&bI v 0 1000000)):=by unfold Ot;cases bK k<;>cases bI e 0 1000000<;>rfl
def aU9 (k e v:Int):K5 k e v=some (lW k e v):=by unfold K5;rw[aB (by simp)];rfl
def Cf (b:List Int)(hb:bD b)(p:Nat)(hp:p<=34359738368){F:(Int×Int×Nat->Option ((Int×Int×Bool)⊕PUnit))->Int×Int×Nat->Option ((Int×Int×Bool)⊕PUnit)}
  (j:∀rec (n q:Int) (i:Nat),F rec (n,q,i)=bif decide ((i:Int)<6) then(bif decide (IntKind.i64.wrap ((p:Int)+(i:Int))>=(b.length:Int)) then some (.inl (0,0,false)) else bd (bA b (IntKind.i64.wrap ((p:Int)+(i:Int)))) λz=>gd ((128:Int)≠0) (bif decide (IntKind.i64.wrap z<128) then(bd (bif decide ((i:Int)>0) then(bif IntKind.i64.wrap z==0 then some true else some (decide (IntKind.i64.wrap (n+IntKind.i64.wrap ((IntKind.i64.wrap z).tmod 128*q))>1000000000000))) else some (decide (IntKind.i64.wrap (n+IntKind.i64.wrap ((IntKind.i64.wrap z).tmod 128*q))>1000000000000))) λc=>bif c then some (.inl (0,0,false)) else some (.inl (IntKind.i64.wrap (n+IntKind.i64.wrap ((IntKind.i64.wrap z).tmod 128*q)),IntKind.i64.wrap (IntKind.i64.wrap ((p:Int)+(i:Int))+1),true))) else rec (IntKind.i64.wrap (n+IntKind.i64.wrap ((IntKind.i64.wrap z).tmod 128*q)),IntKind.i64.wrap (q*128),i+1))) else some (.inr ())):
  ∀(k i:Nat) (n:Int) (f:Nat),i+k=6->k<f->0<=n->n<128^i->nx (bT f F (n,(128:Int)^i,i)) (λ_=>some ((0:Int),(0:Int),false))=some (uvG b p k i n)
 |0,i,n,f+1,hk,w,h0,h1=>by
  rw[iZ,j,show decide ((i:Int)<6)=false from ao (by omega)];rfl
 |k+1,i,n,f+1,hk,w,h0,h1=>by
  have l:=aZu (i:=i) (by omega);rw[iZ,j,show decide ((i:Int)<6)=true from ak (by omega),ac];rw[show IntKind.i64.wrap ((p:Int)+(i:Int))=((p+i:Nat):Int) by rw[aJ (by omega) (by omega)];omega];unfold uvG;by_cases a:p+i<b.length
  ·have m:=wK hb a;have hg:b.getD (p+i) 0=b[p+i]:=by simp[List.getD,ae a]
   rw[cQ a,hg,aN a];generalize b[p+i]=z at m;rw[show decide (((p+i:Nat):Int)>=(b.length:Int))=false from ao (by omega)];have hs:=aZv (z:=z) (n:=n) (i:=i) (by omega) m.1 h0 h1;have o:IntKind.i64.wrap z=z:=aJ (by omega) (by omega);have r:z.tmod 128=z%128:=cr m.1;have s:IntKind.i64.wrap (z%128*128^i)=z%128*128^i:=aJ (by omega) (by omega);have x:=aZu (i:=i+1) (by omega);have t:IntKind.i64.wrap (n+z%128*128^i)=n+z%128*128^i:=aJ (by omega) (by omega);have u:IntKind.i64.wrap (((p+i:Nat):Int)+1)=((p+i+1:Nat):Int):=by rw[aJ (by omega) (by omega)];omega
   have v:IntKind.i64.wrap ((128:Int)^i*128)=128^(i+1):=by rw[<-fc,aJ (by omega) (by omega)]
   have h:((128:Int)≠0)=True:=by simp
   simp only[aa,bd_s,o,r,s,t,u,v,h,gd_T];by_cases d:z<128
   ·simp only[d,decide_true,ac];have e:(decide ((i:Int)>0))=decide (0<i):=cF.2 (by omega);rw[e];cases decide (0<i)<;>cases(z==0)<;>cases decide (n+z%128*128^i>1000000000000)<;>rfl
   ·simp only[d,decide_false,aa];exact Cf b hb p hp j k (i+1) _ f (by omega) (by omega) hs.1 hs.2.1
  ·rw[dk a,show decide (((p+i:Nat):Int)>=(b.length:Int))=true from ak (by omega)];rfl
def V8 (b:List Int)(a:Int)(hb:bD b):Ca b a=some (zC b a):=by
 unfold Ca zC;have c:=gW;have hlen:=hb.1;rw[rE,bd_s];by_cases h0:a<0
 ·simp[h0]
 ·rw[dk h0,ao h0,cu];by_cases h1:a>=b.length
  ·rw[ak h1];unfold uvG;rw[dk (by omega)];rfl
  ·rw[ao h1,aa];obtain⟨p,rfl⟩:=ee (show 0<=a by omega);exact Cf b hb p (by omega) (λrec n q i=>rfl) 6 0 0 FUEL rfl (by omega) (by omega) (by decide)
def Nj (b:List Int)(c:Int)(hc:c<=100){F:(Int×List Int×Nat->Option ((List Int×Int×Bool)⊕(Int×List Int)))->Int×List Int×Nat->Option ((List Int×Int×Bool)⊕(Int×List Int))}
  (d:∀rec (a:Int) (s:List Int) (i:Nat),s.length<=34359738368->F rec (a,s,i)=bif decide ((i:Int)<c) then(bif !(zC b a).2.2 then some (.inl ([],0,false)) else rec ((zC b a).2.1,s++[(zC b a).1],i+1)) else some (.inr (a,s))):
  ∀(k i:Nat) (a:Int) (s:List Int) (f:Nat),((i+k:Nat):Int)=c->k<f->s.length<=i->nx (bT f F (a,s,i)) (λz=>some (z.2,z.1,true))=some (kX b k a s)
 |0,i,a,s,f+1,hk,e,hs=>by
  rw[iZ,d _ _ _ _ (by omega),show decide ((i:Int)<c)=false from ao (by omega)];rfl
 |k+1,i,a,s,f+1,hk,e,hs=>by
  rw[iZ,d _ _ _ _ (by omega),show decide ((i:Int)<c)=true from ak (by omega),ac];unfold kX;cases(zC b a).2.2 with
  |false=>rfl
  |true=>simp only[ay,aa,ac];exact Nj b c hc d k (i+1) _ _ f (by omega) (by omega) (by simp;omega)
def aDo (b:List Int)(a c:Int)(hb:bD b):Fu b a c=some (jS b a c):=by
 unfold Fu jS bI;by_cases h1:c<0
 ·simp[h1,show ¬0<=c by omega]
 ·by_cases h2:c>100
  ·simp[h1,h2,show ¬c<=100 by omega]
  ·by_cases d:a<0
   ·simp[h1,h2,d,show ¬0<=a by omega]
   ·by_cases e:a>b.length
    ·simp[h1,h2,d,e,show ¬a<=b.length by omega]
    ·simp only[h1,h2,d,e,decide_false,aa,bd_s,show 0<=c by omega,show c<=100 by omega,show 0<=a by omega,show a<=b.length by omega,decide_true,gp,ay,Bool.or_self,aa];exact Nj b c (by omega) (λrec a s i hs=>by simp only[aB hb,bd_s,gF hs]) c.toNat 0 a [] FUEL (by omega) (by have:=gW;omega) (by simp)
def aDp (b:List Int)(a c:Int)(hb:bD b):Ei b a c=some (jS b a c):=by
 unfold Ei jS;cases h1:bI c 0 100 with
 |false=>rfl
 |true=>
  cases h2:bI a 0 b.length with
  |false=>rfl
  |true=>have:=iA h1;simp only[ay,aa,bd_s,Bool.or_self];exact Nj b c (by omega) (λrec a s i hs=>by simp only[aB hb,bd_s,gF hs]) c.toNat 0 a [] FUEL (by omega) (by have:=gW;omega) (by simp)
def Cg (b:List Int)(hb:bD b)(a:Int)(q:0<=a){F:(Int×Nat->Option ((Int×Int×Bool)⊕PUnit))->Int×Nat->Option ((Int×Int×Bool)⊕PUnit)}
  (l:∀rec (n:Int) (i:Nat),F rec (n,i)=bif decide ((i:Int)<6) then(bd (bif decide (a<0) then some true else some (decide (a>=IntKind.i64.wrap ((b.length:Int)-(i:Int))))) λc=>bif c then some (.inl (0,0,false)) else bd (bA b (IntKind.i64.wrap (a+(i:Int)))) λz=>gd ((0:Int)<=IntKind.i64.wrap (7*(i:Int))) (bif decide (IntKind.i64.wrap z<128) then(bd (bif IntKind.i64.wrap z==0 then(bif decide ((i:Int)>0) then some true else some (decide (orI .i64 n (aBu .i64 (oQ .i64 (IntKind.i64.wrap z) 127) (IntKind.i64.wrap (7*(i:Int))))>1000000000000))) else some (decide (orI .i64 n (aBu .i64 (oQ .i64 (IntKind.i64.wrap z) 127) (IntKind.i64.wrap (7*(i:Int))))>1000000000000))) λc=>bif c then some (.inl (0,0,false)) else some (.inl (orI .i64 n (aBu .i64 (oQ .i64 (IntKind.i64.wrap z) 127) (IntKind.i64.wrap (7*(i:Int)))),IntKind.i64.wrap (IntKind.i64.wrap (a+(i:Int))+1),true))) else rec (orI .i64 n (aBu .i64 (oQ .i64 (IntKind.i64.wrap z) 127) (IntKind.i64.wrap (7*(i:Int)))),i+1))) else some (.inr ())):
  ∀(k i:Nat) (n:Int) (f:Nat),i+k=6->k<f->0<=n->n<128^i->nx (bT f F (n,i)) (λ_=>some ((0:Int),(0:Int),false))=some (uvG b a.toNat k i n)
 |0,i,n,f+1,hk,r,h0,h1=>by
  rw[iZ,l,show decide ((i:Int)<6)=false from ao (by omega)];rfl
 |k+1,i,n,f+1,hk,r,h0,h1=>by
  have hlen:=hb.1;rw[iZ,l,show decide ((i:Int)<6)=true from ak (by omega),ac,rE,bd_s];rw[show IntKind.i64.wrap ((b.length:Int)-(i:Int))=(b.length:Int)-(i:Int) from aJ (by omega) (by omega),show decide (a<0)=false from ao (by omega),cu];unfold uvG;by_cases d:a.toNat+i<b.length
  ·have j:=wK hb d;have hg:b.getD (a.toNat+i) 0=b[a.toNat+i]:=by simp[List.getD,ae d]
   have m:IntKind.i64.wrap (a+(i:Int))=((a.toNat+i:Nat):Int):=by rw[aJ (by omega) (by omega)];omega
   rw[cQ d,hg,m,aN d];generalize b[a.toNat+i]=z at j;rw[show decide (a>=(b.length:Int)-(i:Int))=false from ao (by omega)];have hs:=aZv (z:=z) (n:=n) (i:=i) (by omega) j.1 h0 h1;have o:IntKind.i64.wrap z=z:=aJ (by omega) (by omega);have ho:=bQ4 (z:=z) (n:=n) (i:=i) (by omega) j.1 j.2 h0 h1;have p:IntKind.i64.wrap (((a.toNat+i:Nat):Int)+1)=((a.toNat+i+1:Nat):Int):=by rw[aJ (by omega) (by omega)];omega
   have s:0<=IntKind.i64.wrap ((7:Int)*(i:Int)):=by rw[aJ (by omega) (by omega)];omega
   simp only[aa,bd_s,o,ho,p];rw[aB s];by_cases h:z<128
   ·simp only[h,decide_true,ac];have e:(decide ((i:Int)>0))=decide (0<i):=cF.2 (by omega);rw[e];cases decide (0<i)<;>cases(z==0)<;>cases decide (n+z%128*128^i>1000000000000)<;>rfl
   ·simp only[h,decide_false,aa];exact Cg b hb a q l k (i+1) _ f (by omega) (by omega) hs.1 hs.2.1
  ·rw[dk d,show decide (a>=(b.length:Int)-(i:Int))=true from ak (by omega)];rfl
def V9 (b:List Int)(a:Int)(hb:bD b):Ba b a=some (zC b a):=by
 unfold Ba zC;have d:=gW;by_cases h0:a<0
 ·rw[cQ h0];obtain⟨f,c⟩:∃f,FUEL=f+1:=⟨FUEL-1,by omega⟩;rw[c,iZ];simp[h0,nx]
 ·rw[dk h0];exact Cg b hb a (by omega) (λrec n i=>rfl) 6 0 0 FUEL rfl (by omega) (by omega) (by decide)
def Qc (s:AK)(e:AN)(i:e.sz<=34359738368):uF s e=some (bL s e):=by
 simp only[AN.sz] at i;unfold uF bL;rw[aB (by omega),bd_s,aB (Q0 _ _),bd_s];generalize gU e.Boxes (iT s)=x;obtain⟨x1,x2⟩:=x;dsimp only;cases x2 with
 |false=>rfl
 |true=>
  have hl:=λh=>decode_len (b:=x1) (a:=0) (c:=2) (by omega) h;generalize jS x1 0 2=y at hl;obtain⟨d,j,k⟩:=y;unfold Mj;cases k with
  |false=>rfl
  |true=>
   have f:d.length=2:=hl rfl;obtain⟨a,c,rfl⟩:∃a c,d=[a,c]:=by
    match d,f with
    |[a,c],_=>exact⟨a,c,rfl⟩
   have e0:bA [a,c] 0=some a:=rfl;have l:bA [a,c] 1=some c:=rfl;simp only[e0,l,bd_s,ay,aa,cu];cases(j !=(x1.length:Int))<;>cases m:(a !=e.Epoch)<;>cases hc:bK c<;>simp[m,hc]
def Qd (s:AK)(e:AN)(i:e.sz<=34359738368):uP s e=some (bL s e):=by
 simp only[AN.sz] at i;unfold uP bL;rw[aB (by simp),bd_s,aB (by omega),bd_s,aB (Q0 _ _),show aZ s.Seed [181]=iT s from rfl];generalize gU e.Boxes (iT s)=x;obtain⟨x1,x2⟩:=x;dsimp only;cases x2 with
 |false=>rfl
 |true=>
  have hl:=λh=>decode_len (b:=x1) (a:=0) (c:=2) (by omega) h;generalize jS x1 0 2=y at hl;obtain⟨d,j,k⟩:=y;unfold Mj;cases k with
  |false=>rfl
  |true=>
   have f:d.length=2:=hl rfl;obtain⟨a,c,rfl⟩:∃a c,d=[a,c]:=by
    match d,f with
    |[a,c],_=>exact⟨a,c,rfl⟩
   have e0:bA [a,c] 0=some a:=rfl;have l:bA [a,c] 1=some c:=rfl;simp only[e0,l,bd_s,ay,aa,cu];cases(j !=(x1.length:Int))<;>cases m:(a !=e.Epoch)<;>cases hc:bK c<;>simp[m,hc]
def bIg {F:(Int×List Int->Option (Int×List Int))->Int×List Int->Option (Int×List Int)}{n:Int}{b:List Int}(hk:0<=n/\n<=1000000000000)(hb:b.length<=34359738300)
  (c:∀rec (n:Int) (s:List Int),0<=n->n<9223372036854775807->s.length<=34359738368->F rec (n,s)=bif decide (n>127) then rec (n/128,s++[n%128+128]) else some (n,s)):
  (bd (EV.bT FUEL F (n,b)) λz=>gd (aV z.2 [IntKind.u8.wrap z.1]) (some (z.2++[IntKind.u8.wrap z.1])))=some (b++uvE 5 n):=by
 have f:(128:Int)^(5+1)=4398046511104:=by decide
 obtain⟨m,q,d,a,e,h⟩:=bCc c 5 n b FUEL (by have:=gW;omega) hk.1 (by omega) (by omega) (by omega);have hq:q.length<=34359738368:=by have h1:=congrArg List.length a;have h2:=(aZ0 5 n).2;simp only[ax,cp] at h1;omega
 rw[d,bd_s];simp only[aP1 e (show m<=255 by omega)];rw[gF (s:=q) hq,a]
def Vk (b:List Int)(n:Int)(h:b.length<=34359738300):wO b n=some (sG b n):=by
 unfold wO sG enc1;rw[oH (by omega)];cases hr:bI n 0 1000000000000 with
 |false=>simp
 |true=>
  rw[ay,aa,ac,bu];exact bIg (iA hr) h (λrec n s h0 h1 h2=>by
   show(bif decide (n>127) then gd (aV s [IntKind.u8.wrap (orI .i64 (oQ .i64 n 127) 128)]) (gd ((0:Int)<=7) (rec (Gt .i64 n 7,s++[IntKind.u8.wrap (orI .i64 (oQ .i64 n 127) 128)]))) else some (n,s))=_;rw[bRc h0 (by omega),bU2 (Int.emod_nonneg _ (by decide)) (Int.emod_lt_of_pos _ (by decide)),bWr h0,aP1 (by omega) (by omega),gF (s:=s) h2,aB (show(0:Int)<=7 by decide)])
def aIp:∀(l s:List Int),l.foldl sG s=s++jG l
 |[],s=>by simp[jG]
 |x::l,s=>by rw[dh,aIp l,vG,sG,cq]
def aDq (l:List Int)(h:l.length<=5000000000):Ec l=some (jG l):=by
 unfold Ec;rw[gT (l:=l) sG (λi s=>s.length<=6*i) (λs=>some s) (by omega) (by simp) (λi s hi hv=>by have:=aCn l[i];simp only[sG,ax];omega) (λrec i s hi hv=>by
  simp only[cK hi,ac,aN hi,bd_s,aB (show s.length<=34359738300 by omega)]) (λrec s _=>by simp only[dJ,aa]),aIp]
 rfl
def W9:∀(l:List AH) (s:List Int),l.foldl (λs e=>s++aUo e) s=s++kH l
 |[],s=>by simp[kH]
 |x::l,s=>by rw[dh,W9 l];simp[kH]
def Zw (b:AB)(h:b.sz<=34359738368):xW b=some (nS b):=by
 unfold xW nS;rw[aB h,bd_s];cases hb:aR b with
 |false=>rfl
 |true=>
  have hl:=mO hb;have hv:(qB b).length=1+4*b.Entries.length:=by simp[qB,vH];omega
  rw[ay,aa,ac,gT (l:=b.Entries) (λs e=>s++aUo e) (λi s=>s.length<=1+4*i) (λs=>some s) (by omega) (by simp) (λi s hi hv=>by simp only[aUo,ax,au,bl];omega) (λrec i s hi hv=>by
   have e:∀x y z w:Int,gd (aV s [x,y,z,w]) (some (s++[x,y,z,w]))=some (s++[x,y,z,w]):=λ_ _ _ _=>aB (by unfold aV;simp only[au,bl];omega);simp only[cK hi,ac,aN hi,bd_s,lN,e];rfl) (λrec s _=>by simp only[dJ,aa]),W9,bd_s]
  rw[aB (show([(b.Entries.length:Int)]++kH b.Entries).length<=5000000000 by show(qB b).length<=_;omega),bd_s];rfl
def aDr (a b:List Int)(h:bD a/\bD b):Ej a b=some (a==b):=by obtain⟨c,hb⟩:=h;have h1:=c.1;have h2:=hb.1;unfold Ej;rw[aB (by omega),aB (by omega),aZz,aZz,ByteArray.toList_eq,ByteArray.toList_eq,aXu,aXu];congr 1;rw[en,cH,cH];exact⟨λh=>bytes_inj (Sm c) (Sm hb) h,λh=>by rw[h]⟩
def bW3 {v:List Int}{i:Nat}(h:4*i+3<v.length):v.drop (4*i)=v[4*i]::v[4*i+1]::v[4*i+2]::v[4*i+3]::v.drop (4*(i+1)):=by rw[co (show 4*i<v.length by omega),co (show 4*i+1<v.length by omega),co (show 4*i+1+1<v.length by omega),co (show 4*i+1+1+1<v.length by omega)];rfl
def bDm {v:List Int}{k:Nat}(hv:v.length=4*k)(hk:k<=20){τ:Type}{x:τ}{F:(Nat×List AH->Option (τ⊕List AH))->Nat×List AH->Option (τ⊕List AH)}
  (a:∀rec i s (hi:i<k) (h:4*i+3<v.length),s.length<=100->F rec (i,s)=bif decide (v[4*i+3]>1) then some (.inl x) else rec (i+1,s++[⟨v[4*i],v[4*i+1],v[4*i+2],v[4*i+3]==1⟩])) (b:∀rec s,F rec (k,s)=some (.inr s)):
  ∀(m i n:Nat) (s:List AH),i+m=k->m<n->s.length<=i->EV.bT n F (i,s)=some (bif lQ (v.drop (4*i)) then .inr (s++mF (v.drop (4*i))) else .inl x)
 |0,i,n+1,s,h,_,_=>by
  have:i=k:=by omega
  subst this;rw[iZ,b,gj (by omega)];simp[lQ,mF]
 |m+1,i,n+1,s,h,hn,hs=>by
  have c:4*i+3<v.length:=by omega
  rw[iZ,a _ i s (by omega) c (by omega),bW3 c];simp only[lQ,mF];by_cases hg:v[4*i+3]>1
  ·rw[ak hg,ao (show ¬v[4*i+3]<=1 by omega)];rfl
  ·rw[ao hg,ak (show v[4*i+3]<=1 by omega),aa,cx,bDm hv hk a b m (i+1) n _ (by omega) (by omega) (by simp;omega)];simp
def bDn {a:List Int}(hb:bD a)(hc:(!(zC a 0).2.2||decide ((zC a 0).1>20))=false):∃(n:Int) (q:Nat),zC a 0=(n,(q:Int),true)/\0<=n/\n<=20/\q<=a.length:=by
 simp only[bn,cL,ct] at hc;cases b:zC a 0 with
 |mk n r=>obtain⟨e,ok⟩:=r;rw[b] at hc;obtain⟨rfl,hc2⟩:=hc;obtain⟨q,⟨_,c,h,d,f⟩,_⟩:=aZ1 hb b;exact⟨n,q,by rw[d],c,by simp only at hc2;omega,f⟩
def bDo {a:List Int}{e c:Int}(h0:0<=c)(h1:c<=100)(h2:0<=e)(b:e<=a.length):jS a e c=kX a c.toNat e []:=by unfold jS bI;rw[ak h0,ak h1,ak h2,ak b];rfl
def bAf {v:List Int}{i j:Nat}{q:Int}(hq:q=(j:Int))(h:i+j<v.length):bA (v.drop i) q=some v[i+j]:=by subst hq;rw[aN (by rw[cz];omega),List.getElem_drop]
def Zx (a:List Int)(hb:bD a):yK a=some (Dt a):=by
 unfold yK Dt;rw[aB hb,bd_s,rE,bd_s];cases hc:(!(zC a 0).2.2||decide ((zC a 0).1>20)) with
 |true=>rfl
 |false=>
  obtain⟨n,q,b,h0,h1,h2⟩:=bDn hb hc;rw[b,aa,aa];dsimp only;rw[aJ (n:=4*n) (by omega) (by omega),aB hb,bd_s,bDo (by omega) (by omega) (by omega) (by omega)];cases hd:kX a (4*n).toNat (q:Int) [] with
  |mk v r=>
   obtain⟨e,ok⟩:=r;dsimp only;rw[rE,bd_s];unfold bCf;cases ok with
   |false=>rfl
   |true=>
    dsimp only;rw[ay,cu,cu];cases he:(e !=(a.length:Int)) with
    |true=>rfl
    |false=>
     obtain⟨t,q',⟨k1,k2,k3,k4,k5⟩,_⟩:=Sl hb _ _ _ _ _ (by omega) (by omega) hd;rw[bu] at k1;subst k1;have hv:v.length=4*n.toNat:=by omega
     rw[aa,cu,bDm (x:=((AB.mk [],false):AB×Bool)) hv (by omega) (λrec i s hi c hs=>by
      have d:decide ((i:Int)<n)=true:=ak (by omega);have f:IntKind.i64.wrap (4*(i:Int))=((4*i:Nat):Int):=by rw[aJ (by omega) (by omega)];omega
      have h:bA (v.drop (4*i)) 0=some (v[4*i]'(by omega)):=bAf (j:=0) rfl (by omega);have k:bA (v.drop (4*i)) 1=some (v[4*i+1]'(by omega)):=bAf (j:=1) rfl (by omega);have l:bA (v.drop (4*i)) 2=some (v[4*i+2]'(by omega)):=bAf (j:=2) rfl (by omega);have m:bA (v.drop (4*i)) 3=some v[4*i+3]:=bAf (j:=3) rfl c;simp only[d,f,bq,ac,aB (show lU v ((4*i:Nat):Int) from⟨by omega,by omega⟩),h,k,l,m,bd_s,gF (show s.length<=34359738368 by omega)]) (λrec s=>by
      rw[show decide (((n.toNat:Nat):Int)<n)=false from ao (by omega)];rfl) n.toNat 0 FUEL [] (by omega) (by have:=gW;omega) (by simp)]
     simp only[Nat.mul_zero,gi,bu];cases o:lQ v with
     |false=>rfl
     |true=>have hl:=aCp n.toNat v hv;simp only[ac,nx_r];rw[aB (show(AB.mk (mF v)).sz<=34359738368 by simp only[AB.sz];omega),bd_s];cases aR ⟨mF v⟩<;>rfl
def aYq {a:List Int}(hb:bD a){k:Nat}(hk:k<=20){τ:Type}{x:τ}{F:(Int×Nat×List AH->Option (τ⊕List AH))->Int×Nat×List AH->Option (τ⊕List AH)}
  (b:∀rec (q:Nat) i s (hi:i<k),q<=a.length->s.length<=100->F rec ((q:Int),i,s)=bif !(kX a 4 q []).2.2 then some (.inl x) else rec ((kX a 4 q []).2.1,i+1,s++mF (kX a 4 q []).1)) (c:∀rec e s,F rec (e,k,s)=some (.inr s)):
  ∀(m i n q:Nat) (s:List AH),i+m=k->m<n->q<=a.length->s.length<=i->EV.bT n F ((q:Int),i,s)=some (bif (kX a (4*m) q []).2.2 then .inr (s++mF (kX a (4*m) q []).1) else .inl x)
 |0,i,n+1,q,s,h,_,_,_=>by
  have:i=k:=by omega
  subst this;rw[iZ,c];simp[kX,mF]
 |m+1,i,n+1,q,s,h,hn,hq,hs=>by
  rw[iZ,b _ q i s (by omega) hq (by omega),show 4*(m+1)=4+4*m by omega,aP2 4 (4*m)];cases hd:kX a 4 (q:Int) [] with
  |mk l r=>
   obtain⟨e,ok⟩:=r;cases ok with
   |false=>rfl
   |true=>
    obtain⟨t,q',⟨k1,k2,k3,k4,k5⟩,_⟩:=Sl hb _ _ _ _ _ (by omega) (by omega) hd;rw[bu] at k1;subst k1;subst k3;have hl:(mF l).length=1:=aCp 1 l (by omega);simp only[ay,aa,ac];rw[aYq hb hk b c m (i+1) n q' _ (by omega) (by omega) k4 (by simp[hl];omega),aP3 (4*m) (q':Int) l];cases(kX a (4*m) (q':Int) []).2.2 with
    |false=>rfl
    |true=>simp[bCe 1 l _ (by omega)]
def four {l:List Int}(h:l.length=4):∃w x y z,l=[w,x,y,z]:=by
 match l,h with
 |[w,x,y,z],_=>exact⟨w,x,y,z,rfl⟩
def Zy (a:List Int)(hb:bD a):xX a=some (Dt a):=by
 unfold xX Dt;rw[aB hb,bd_s,rE,bd_s];cases hc:(!(zC a 0).2.2||decide ((zC a 0).1>20)) with
 |true=>rfl
 |false=>
  obtain⟨n,q,b,h0,h1,h2⟩:=bDn hb hc;rw[b,aa,aa];dsimp only;rw[aYq (x:=((AB.mk [],false):AB×Bool)) hb (k:=n.toNat) (by omega) (λrec q i s hi hq hs=>by
   have d:decide ((i:Int)<n)=true:=ak (by omega);simp only[d,ac,aB hb,bd_s,bDo (a:=a) (e:=(q:Int)) (c:=4) (by omega) (by omega) (by omega) (by omega),show Int.toNat 4=4 from rfl];cases hd:kX a 4 (q:Int) [] with
   |mk l r=>
    obtain⟨e,ok⟩:=r;cases ok with
    |false=>rfl
    |true=>
     obtain⟨t,q',⟨k1,k2,_⟩,_⟩:=Sl hb _ _ _ _ _ (by omega) (by omega) hd;rw[bu] at k1;subst k1;obtain⟨w,x,y,z,rfl⟩:=four k2;simp only[ay,aa,show bA [w,x,y,z] 0=some w from rfl,show bA [w,x,y,z] 1=some x from rfl,show bA [w,x,y,z] 2=some y from rfl,show bA [w,x,y,z] 3=some z from rfl,bd_s,gF (show s.length<=34359738368 by omega)];rfl) (λrec e s=>by
   rw[show decide (((n.toNat:Nat):Int)<n)=false from ao (by omega)];rfl) n.toNat 0 FUEL q [] (by omega) (by have:=gW;omega) h2 (by simp)]
  rw[show(4*n).toNat=4*n.toNat by omega];unfold bCf;cases hd:kX a (4*n.toNat) (q:Int) [] with
  |mk v r=>
   obtain⟨e,ok⟩:=r;cases ok with
   |false=>rfl
   |true=>
    obtain⟨b1,u,A,B⟩:=bNn hb b h1 (show kX a (4*n).toNat (q:Int) []=(v,e,true) by rw[show(4*n).toNat=4*n.toNat by omega];exact hd);have f:(AB.mk (mF v)).sz<=34359738368:=by simp only[AB.sz];omega
    simp only[ac,nx_r,bu,aB f,bd_s,aB (show bD (nS ⟨mF v⟩)/\bD a from⟨aCq _,hb⟩),rE];unfold nS;cases h:aR ⟨mF v⟩ with
    |false=>simp
    |true=>
     rw[ac];by_cases hq:jG (qB ⟨mF v⟩)=a
     ·obtain⟨j,m⟩:=b1.1 hq;rw[hq,j,m];simp
     ·have:(e !=(a.length:Int)|| !lQ v)=true:=by
       cases o:(e !=(a.length:Int)) with
       |true=>rfl
       |false=>
        cases p:lQ v with
        |false=>rfl
        |true=>exact absurd (b1.2 ⟨by simpa using o,p⟩) hq
      rw[show(jG (qB ⟨mF v⟩)==a)=false by simpa using hq];simp only[ay,db,ac,cu,gn,this]
def aDs (k:Int)(s:AI)(h:s.Data.length<=34359738200):Fv k s=some (gZ k s):=by unfold Fv gZ;rw[aB h,aB (by simp)];simp only[bd_s,aB (show s.Data.length<=34359738368 by omega),aB (aZw (k:=aZ k [223,s.Epoch,s.Version]) (show s.Data.length<=34359738368 by omega))];unfold lW;cases bK k<;>cases bI s.Epoch 0 1000000<;>cases bI s.Version 0 1000000<;>cases(s.MAC !=jA k s)<;>rfl
def aDt (k:Int)(s:AI)(h:s.Data.length<=34359738200):Em k s=some (gZ k s):=by unfold Em gZ;rw[aB h,aB (show s.Data.length<=34359738368 by omega)];simp only[bd_s,aB (aZw (k:=lW k s.Epoch s.Version) (show s.Data.length<=34359738368 by omega))];cases bK k<;>cases bI s.Epoch 0 1000000<;>cases bI s.Version 0 1000000<;>cases(s.MAC !=jA k s)<;>rfl
def aDu (d:AD)(l:List AF)(bx:AN)(s:AI)(h:d.sz<=34359738368/\l.length<=34359738368/\bx.sz<=34359738368/\s.Data.length<=34359738200):Fw d l bx s=some (bR d l bx s):=by
 obtain⟨h1,h2,a,b⟩:=h;have c:=iB l;have hb:d.aAD.sz<=34359738368:=by simp only[AD.sz,AB.sz] at*;omega
 unfold Fw bR jW;simp only[aB h1,aB h2,aB a,aB b,aB (show(aC l).length<=1099511627776 by omega),bd_s,rE,bif_and,bif_or,lN];have ho:=aXw (bL d.Store bx).1 s;generalize gZ (bL d.Store bx).1 s=o at ho ⊢;simp only[aB (show d.aAD.sz<=34359738368/\o.1.sz<=34359738368 from⟨hb,by omega⟩),bd_s];cases !aY l|| !cZ l d.Log with
 |true=>rfl
 |false=>
  cases !jE (aC l) (aT d.Store) with
  |true=>rfl
  |false=>
   cases bx.Epoch !=aD l|| !(bL d.Store bx).2 with
   |true=>rfl
   |false=>
    cases decide (s.Epoch<aD l)||(decide (s.Epoch<d.Epoch)||(s.Epoch==d.Epoch&&decide (s.Version<d.Version))) with
    |true=>rfl
    |false=>cases !o.2<;>cases !(dS d.aAD o.1).2<;>rfl
def aDv (d:AD)(l:List AF)(bx:AN)(s:AI)(h:d.sz<=34359738368/\l.length<=34359738368/\bx.sz<=34359738368/\s.Data.length<=34359738200):En d l bx s=some (bR d l bx s):=by
 obtain⟨h1,h2,a,b⟩:=h;have c:=iB l;have hb:d.aAD.sz<=34359738368:=by simp only[AD.sz,AB.sz] at*;omega
 unfold En bR jW;simp only[aB h1,aB h2,aB a,aB b,aB (show(aC l).length<=1099511627776 by omega),bd_s,rE,bif_and,bif_or,lN];have ho:=aXw (bL d.Store bx).1 s;generalize gZ (bL d.Store bx).1 s=o at ho ⊢;simp only[aB (show d.aAD.sz<=34359738368/\o.1.sz<=34359738368 from⟨hb,by omega⟩),bd_s];cases !aY l|| !cZ l d.Log with
 |true=>rfl
 |false=>
  cases !jE (aC l) (aT d.Store) with
  |true=>rfl
  |false=>
   cases bx.Epoch !=aD l|| !(bL d.Store bx).2 with
   |true=>rfl
   |false=>
    cases decide (s.Epoch<aD l)||(decide (s.Epoch<d.Epoch)||(s.Epoch==d.Epoch&&decide (s.Version<d.Version))) with
    |true=>rfl
    |false=>cases !o.2<;>cases !(dS d.aAD o.1).2<;>rfl
def aYr {c:AM}(h:c.sz<=34359738100)(b:Int):c.Log.length<=34359738100/\c.Boxes.sz<=34359738100/\(eZ c b).1.Data.length<=34359738100:=by
 have a:=h;simp only[AM.sz] at h;refine⟨by omega,by simp only[AN.sz] at*;omega,?_⟩;unfold eZ;cases e:(decide (b<0)||decide (b>=(c.History.length:Int))) with
 |true=>simp
 |false=>have:=(aSb (b:=b) (show c.sz<=34359738368 by omega) (Ml e)).2;have h1:=wB (f:=AI.sz) (l:=c.History) (i:=c.History.length-1-b.toNat) (by have:=Ml e;omega);simp only[aa];simp only[AI.sz] at h1;omega
def aSc (d:AD)(c:AM)(b:Int)(h:d.sz<=34359738100/\c.sz<=34359738100):Uo d c b=some (bR d c.Log c.Boxes (eZ c b).1):=by obtain⟨h1,h2⟩:=h;obtain⟨k1,k2,k3⟩:=aYr h2 b;unfold Uo;rw[aB (show c.sz<=34359738368 by omega),bd_s,aB ⟨by omega,by omega,by omega,by omega⟩,bd_s]
def aIq {w:AA}{d:Int}(h:aL w d=true):0<=d/\d.toNat<w.Devices.length/\(aG w d).sz<=w.sz/\aG w d=w.Devices.getD d.toNat default:=by
 simp only[aL,ab,bp] at h;have hi:d.toNat<w.Devices.length:=by omega
 have:=wB (f:=AD.sz) hi;refine⟨h.1,hi,?_,rfl⟩;show(w.Devices.getD d.toNat default).sz<=_;simp only[AA.sz];omega
def Vl (w:AA):w.aAC.sz<=w.sz:=by simp only[AA.sz,AM.sz,AN.sz];omega
def aSd (w:AA)(d b:Int)(c:w.sz<=34359738100):Uw w d b=some (aM w d b):=by
 have a:=Vl w;unfold Uw aM;rw[aB (show w.sz<=34359738368 by omega),bd_s,aB (show w.sz<=34359738368 by omega),bd_s];cases hc:(aP w&&aL w d) with
 |false=>rfl
 |true=>have hd:=(iw.1 hc).2;obtain⟨k1,k2,k3,k4⟩:=aIq hd;rw[ay,aa,ac,lM hd,bd_s,aB ⟨by omega,by omega⟩,bd_s,bd_s]
def aSe (w:AA)(d b:Int)(c:w.sz<=34359738100):Vf w d b=some (aM w d b):=by
 have a:=Vl w;unfold Vf aM;rw[aB (show w.sz<=34359738368 by omega),bd_s,aB (show w.sz<=34359738368 by omega),bd_s,rE,bd_s,<-Bool.not_and];cases hc:(aP w&&aL w d) with
 |false=>rfl
 |true=>have hd:=(iw.1 hc).2;obtain⟨k1,k2,k3,k4⟩:=aIq hd;obtain⟨l1,l2,e⟩:=aYr (show w.aAC.sz<=34359738100 by omega) b;rw[ay,aa,ac,aB (show w.aAC.sz<=34359738368 by omega),bd_s,lM hd,bd_s,aB ⟨by omega,by omega,by omega,by omega⟩,bd_s,bd_s]
def bIh {k:Int}{b:List Int}(hl:b.length<=34359738368){F:(List Int×Nat->Option (List Int))->List Int×Nat->Option (List Int)}
  (a:∀rec i s (hi:i<b.length),s.length<=34359738368->F rec (s,i)=rec (s++[bE4 k i b[i]],i+1)) (c:∀rec s,F rec (s,b.length)=some s):EV.bT FUEL F ([],0)=some (nT k b):=by
 refine Gw (λi s=>i<=b.length/\s=(Pq (λi z=>[bE4 k i z]) 0 (b.take i),i)) b.length _ (by omega) ⟨by omega,by simp[Pq]⟩ (λi s rec hi hv=> ?_) (λs rec hv=> ?_)
 ·obtain⟨_,rfl⟩:=hv;refine .inl ⟨_,⟨hi,rfl⟩,?_⟩;rw[a rec i _ hi (by rw[rY,bv];omega),aIm hi,cj]
 ·obtain⟨_,rfl⟩:=hv;rw[c,dg];rfl
def aSf (k:Int)(b:List Int)(h:bD b):Vg k b=some (nT k b):=by
 unfold Vg;rw[bIh (k:=k) h.1 (λrec i s hi hs=>by
  have e:=bNp (k:=k) i (wK h hi);have a:((256:Int)≠0)=True:=by simp
  simp only[cK hi,ac,aN hi,bd_s,aB (show([(i:Int)]:List Int).length<=34359738368 by simp),a,gd_T,e,gF hs]) (λrec s=>by simp only[dJ,aa])]
 rfl
def aSg (k:Int)(b:List Int)(h:bD b):Ty k b=some (nT k b):=by
 unfold Ty;rw[bIh (k:=k) h.1 (λrec i s hi hs=>by
  have e:=bNq (k:=k) i (wK h hi);have a:((256:Int)≠0)=True:=by simp
  simp only[cK hi,ac,aN hi,bd_s,aB (show([(i:Int)]:List Int).length<=34359738368 by simp),a,gd_T,e,gF hs]) (λrec s=>by simp only[dJ,aa])]
 rfl
def Vm (b:List Int)(n:Int)(h:b.length<=34359738300):xB b n=some (sG b n):=by
 unfold xB sG enc1;have e:(decide (n<0)||decide (n>1000000000000))= !bI n 0 1000000000000:=by unfold bI;rw[en];simp<;>omega
 rw[aB (show b.length<=34359738368 by omega),bd_s,rE,bd_s,e];cases hr:bI n 0 1000000000000 with
 |false=>simp
 |true=>
  rw[ay,aa,ac];exact bIg (iA hr) h (λrec n s h0 h1 h2=>by
   have a:((128:Int)≠0)=True:=by simp
   have c:decide (n>=128)=decide (n>127):=cF.2 (by omega);have d:IntKind.u8.wrap (IntKind.i64.wrap (n.tmod 128+128))=n%128+128:=by rw[cr h0,aJ (by omega) (by omega),aP1 (by omega) (by omega)]
   have f:IntKind.i64.wrap (n.tdiv 128)=n/128:=by rw[ki h0,aJ (by omega) (by omega)]
   simp only[a,gd_T,c,d,f,gF (s:=s) h2])
def aDw (l:List Int)(h:l.length<=5000000000):Fx l=some (jG l):=by
 unfold Fx;rw[gT (l:=l) sG (λi s=>s.length<=6*i) (λs=>some s) (by omega) (by simp) (λi s hi hv=>by have:=aCn l[i];simp only[sG,ax];omega) (λrec i s hi hv=>by
  simp only[cK hi,ac,aN hi,bd_s,aB (show s.length<=34359738300 by omega)]) (λrec s _=>by simp only[dJ,aa]),aIp]
 rfl
def Zz (b:AB)(h:b.sz<=34359738368):yL b=some (nS b):=by
 unfold yL nS;rw[aB h,bd_s];cases hb:aR b with
 |false=>rfl
 |true=>
  have hl:=mO hb;have hv:(qB b).length=1+4*b.Entries.length:=by simp[qB,vH];omega
  rw[ay,aa,ac,gT (l:=b.Entries) (λs e=>s++aUo e) (λi s=>s.length<=1+4*i) (λs=>some s) (by omega) (by simp) (λi s hi hv=>by simp only[aUo,ax,au,bl];omega) (λrec i s hi hv=>by
   have e:∀x y z w:Int,gd (aV s [x,y,z,w]) (rec (s++[x,y,z,w],i+1))=rec (s++[x,y,z,w],i+1):=λ_ _ _ _=>aB (by unfold aV;simp only[au,bl];omega);simp only[cK hi,ac,aN hi,bd_s,R9,lN,e];rfl) (λrec s _=>by simp only[dJ,aa]),W9,bd_s]
  rw[aB (show([(b.Entries.length:Int)]++kH b.Entries).length<=5000000000 by show(qB b).length<=_;omega),bd_s];rfl
def bPe (k:Int)(b:AB):(nT k (nS b)).length<=34359738200:=by have:=aXx b;rw[Sr];omega
def aDx (k e v:Int)(b:AB)(h:b.sz<=34359738368):Fy k e v b=some (qC k e v b):=by unfold Fy qC gB lW;simp only[aB h,bd_s,aB (show[(223:Int),e,v].length<=34359738300 by simp),aB (aCq b),aB (bPe (aZ k [223,e,v]) b)];cases bK k<;>cases bI e 0 1000000<;>cases bI v 0 1000000<;>cases aR b<;>rfl
def aDy (k e v:Int)(b:AB)(h:b.sz<=34359738368):Eh k e v b=some (qC k e v b):=by unfold Eh qC gB;simp only[aB h,bd_s,aB (aCq b),aB (bPe (lW k e v) b)];cases bK k<;>cases bI e 0 1000000<;>cases bI v 0 1000000<;>cases aR b<;>rfl
def aIr (a b:AI):Jy a b=some (pQ a b):=by unfold Jy pQ;cases decide (a.Epoch>b.Epoch)<;>cases(a.Epoch==b.Epoch)<;>rfl
def aIs (a b:AI):Iy a b=some (pQ a b):=by unfold Iy pQ;cases decide (a.Epoch>b.Epoch)<;>cases(a.Epoch==b.Epoch)<;>rfl
def bIi {d:AD}(h:d.sz<=34359738368):d.aAD.sz<=34359738368:=by simp only[AD.sz,AB.sz] at*;omega
def X3 (d:AD)(h:d.sz<=34359738368):Cb d=some (cB d):=by unfold Cb cB;simp only[aB h,aB (bIi h),bd_s];cases(qC d.Key d.Epoch (IntKind.i64.wrap (d.Version+1)) d.aAD).2<;>rfl
def X4 (d:AD)(h:d.sz<=34359738368):Ay d=some (cB d):=by unfold Ay cB;simp only[aB h,aB (bIi h),bd_s];cases(qC d.Key d.Epoch (IntKind.i64.wrap (d.Version+1)) d.aAD).2<;>rfl
def aYs (c:AM)(s:AI)(h:c.sz<=34359738300/\s.sz<=34359738300):(bd (gd (c.sz<=34359738368) (some c)) λa=>bd (gd (c.Log.length<=34359738368) (some (aD c.Log))) λd=>bd (bif (s.Epoch !=d) then some true else(bif decide ((c.History.length:Int)>0) then(bd (bA c.History (IntKind.i64.wrap ((c.History.length:Int)-1))) λb=>bd (some (pQ s b)) λe=>bif !e then some true else some (decide ((c.History.length:Int)>=60))) else some (decide ((c.History.length:Int)>=60)))) λf=>bif f then some (a,false) else bd (gd (s.sz<=34359738368) (some s)) λb=>gd (aV a.History [b]) (some (AM.mk a.Log a.Boxes (a.History++[b]),true)))=some (bZ c s):=by
 obtain⟨h1,h2⟩:=h;have i:=h1;simp only[AM.sz] at i;unfold bZ;simp only[aB (show c.sz<=34359738368 by omega),aB (show c.Log.length<=34359738368 by omega),aB (show s.sz<=34359738368 by omega),bd_s,gF (show c.History.length<=34359738368 by omega)];by_cases h0:0<c.History.length
 ·have j:bA c.History (IntKind.i64.wrap ((c.History.length:Int)-1))=some (c.History.getD (c.History.length-1) default):=by rw[aJ (by omega) (by omega),sD (by omega) (by omega)];congr 2;omega
  rw[ak (show(c.History.length:Int)>0 by omega),j];generalize c.History.getD (c.History.length-1) default=x;simp only[bd_s,ac,cx];cases(s.Epoch !=aD c.Log)<;>cases pQ s x<;>cases decide ((c.History.length:Int)>=60)<;>rfl
 ·rw[ao (show ¬(c.History.length:Int)>0 by omega)];cases(s.Epoch !=aD c.Log)<;>cases decide ((c.History.length:Int)>=60)<;>rfl
def d9 (c:AM)(s:AI)(h:c.sz<=34359738300/\s.sz<=34359738300):Zl c s=some (bZ c s):=aYs c s h
def o5 (c:AM)(s:AI)(h:c.sz<=34359738300/\s.sz<=34359738300):Zi c s=some (bZ c s):=aYs c s h
def aBH {w:AA}{d:Int}(a:w.sz<=10000000000)(h:((aM w d 0).2==0)=true):(aL (aM w d 0).1 d=true/\(aG (aM w d 0).1 d).sz<=34359738368)/\((aM w d 0).1.aAC.sz<=34359738300/\(cB (aG (aM w d 0).1 d)).2.1.sz<=34359738300):=by
 obtain⟨⟨k1,k2⟩,k3,k4,k5⟩:=mP h;have hd:aL (aM w d 0).1 d=true:=by simp only[aL] at*;rw[k4];exact k2
 have h1:=(aIq hd).2.2.1;have h2:=Vl (aM w d 0).1;have b:=(zM (aG (aM w d 0).1 d)).2;have c:w.aAC.Log.length<=w.sz:=by simp only[AA.sz,AM.sz];omega
 exact⟨⟨hd,by omega⟩,by omega,by simp only[AI.sz];omega⟩
def aDz (w:AA)(d:Int)(a:w.sz<=10000000000):Ew w d=some (fH w d):=by
 unfold Ew fH;have b:w.sz<=34359738368:=by omega
 simp only[aB (show w.sz<=34359738100 by omega),aB b,bd_s,bne];cases hs:((aM w d 0).2==0) with
 |false=>rfl
 |true=>obtain⟨⟨k1,k2⟩,k3⟩:=aBH a hs;generalize(aM w d 0).1=x at*;simp only[ay,aa,lM k1,bd_s,aB k2,aB k3,rE];unfold Sq;cases(cB (aG x d)).2.2<;>cases(bZ x.aAC (cB (aG x d)).2.1).2<;>rfl
def aD0 (w:AA)(d:Int)(a:w.sz<=10000000000):Ga w d=some (fH w d):=by
 unfold Ga fH;have b:w.sz<=34359738368:=by omega
 simp only[aB (show w.sz<=34359738100 by omega),aB b,bd_s,bne];cases hs:((aM w d 0).2==0) with
 |false=>rfl
 |true=>obtain⟨⟨k1,k2⟩,k3⟩:=aBH a hs;generalize(aM w d 0).1=x at*;simp only[ay,aa,lM k1,bd_s,aB k2,aB k3];unfold Sq;cases(cB (aG x d)).2.2<;>cases(bZ x.aAC (cB (aG x d)).2.1).2<;>rfl
abbrev WT:=Int×Int×List AD×List Bool×List AF×Int×List AO×List AI×List AC×Int×Int×Int×Int×List AG×Int×List AX
abbrev bDp (w:AA):WT:=(w.Now,w.Seed,w.Devices,w.Stolen,w.aAC.Log,w.aAC.Boxes.Epoch,w.aAC.Boxes.Boxes,w.aAC.History,w.Sites,w.aAO.Salt,w.aAO.Threshold,w.aAO.Check,w.aAO.Masked,w.Hosts,w.Pin,w.Mail.Notices)
def aSh {τ:Type}{x:τ}{l:List Int}{g:AA->Int->AA×Bool}{A:List Int->AA->AA×Bool}(a:∀w,A [] w=(w,true))(b:∀i l w,A (i::l) w=bif (g w i).2 then A l (g w i).1 else(w,false))(Inv:Nat->AA->Prop)(c:∀i w (hi:i<l.length),Inv i w->(g w l[i]).2=true->Inv (i+1) (g w l[i]).1)
  {F:(Nat×WT->Option (τ⊕WT))->Nat×WT->Option (τ⊕WT)} (d:∀rec i w (hi:i<l.length),Inv i w->F rec (i,bDp w)=bif !(g w l[i]).2 then some (.inl x) else rec (i+1,bDp (g w l[i]).1)) (e:∀rec t,F rec (l.length,t)=some (.inr t)):
  ∀(k i n:Nat) (w:AA),i+k=l.length->k<n->Inv i w->EV.bT n F (i,bDp w)=some (bif (A (l.drop i) w).2 then .inr (bDp (A (l.drop i) w).1) else .inl x)
 |0,i,n+1,w,h,_,_=>by
  have:i=l.length:=by omega
  subst this;rw[iZ,e,dp,a];rfl
 |k+1,i,n+1,w,h,hn,hv=>by
  have hi:i<l.length:=by omega
  rw[iZ,d _ i w hi hv,co hi,b];cases hg:(g w l[i]).2 with
  |false=>rfl
  |true=>exact aSh a b Inv c d e k (i+1) n _ (by omega) (by omega) (c i w hi hv hg)
def bPf {w:AA}(h:aP w=true):(aX w).length<=6:=by
 have h1:(aX w).length<=w.Devices.length:=by unfold aX;exact Kb
 simp only[aP,ab] at h;have:=iA h.1.1.1.1.1.1.2;omega
def bYk (i:Nat)(w:AA):Prop:=w.aAC.Log.length<=1000000000/\w.sz<=1000000000+i*1000000521
def bYl (i:Nat)(w:AA):Prop:=w.aAC.Log.length<=1000000000/\w.sz<=7000003126+i*1000000020
def X5 (w:AA)(h:w.sz<=1000000000):Cc w=some (kP w):=by
 unfold Cc kP;have e:w.sz<=34359738368:=by omega
 simp only[aB e,bd_s,aB (Dq.of' e)];cases hc:aP w with
 |false=>rfl
 |true=>
  have f:=bPf hc;have j:w.aAC.Log.length<=w.sz:=by simp only[AA.sz,AM.sz];omega
  rw[ay,aa,cx];rw[aSh (x:=(w,false)) (l:=aX w) (g:=fH) (A:=lS) (λ_=>rfl) (λ_ _ _=>rfl) bYk (λi u hi hv hg=>by
   obtain⟨h1,h2⟩:=Yi hg;obtain⟨a,c⟩:=hv;exact⟨by rw[h1];exact a,by simp only[di];omega⟩) (λrec i u hi hv=>by
   show(bif decide ((i:Int)<((aX w).length:Int)) then(bd (bA (aX w) (i:Int)) λd=>bd (gd (u.sz<=10000000000) (some (fH u d))) λb=>bif !b.2 then some (Sum.inl (w,false)) else rec (i+1,bDp b.1)) else some (Sum.inr (bDp u)))=_;obtain⟨a,c⟩:=hv;have:i*1000000521<=6*1000000521:=dc _ (by omega);rw[cK hi,ac,aN hi,bd_s,aB (show u.sz<=10000000000 by omega),bd_s]) (λrec t=>by simp only[dJ,aa]) (aX w).length 0 FUEL w (by omega) (by have:=gW;omega) ⟨by omega,by omega⟩,gi]
  obtain⟨q1,q2⟩:=Q6 (aX w) w;have q3:=dc (w.aAC.Log.length+521) f;cases hp:(lS (aX w) w).2 with
  |false=>rfl
  |true=>
   generalize(lS (aX w) w).1=v at q1 q2 ⊢;rw[ac,nx_r,aSh (x:=(w,false)) (l:=aX w) (g:=λu i=>((aM u i 0).1,(aM u i 0).2==0)) (A:=sH) (λ_=>rfl) (λ_ _ _=>rfl) bYl (λi u hi hv hg=>by
    obtain⟨_,h1,_,h2⟩:=mP hg;obtain⟨a,c⟩:=hv;exact⟨by show(aM u _ 0).1.aAC.Log.length<=_;rw[h1];exact a,by simp only[di];omega⟩) (λrec i u hi hv=>by
    show(bif decide ((i:Int)<((aX w).length:Int)) then(bd (bA (aX w) (i:Int)) λd=>bd (gd (u.sz<=34359738100) (some (aM u d 0))) λb=>bif b.2 !=0 then some (Sum.inl (w,false)) else rec (i+1,bDp b.1)) else some (Sum.inr (bDp u)))=_;obtain⟨a,c⟩:=hv;have:i*1000000020<=6*1000000020:=dc _ (by omega);rw[cK hi,ac,aN hi,bd_s,aB (show u.sz<=34359738100 by omega),bd_s];rfl) (λrec t=>by simp only[dJ,aa]) (aX w).length 0 FUEL v (by omega) (by have:=gW;omega) ⟨by rw[q2];omega,by omega⟩,gi]
   cases(sH (aX w) v).2<;>rfl
def bK6 (w:AA):(kP w).1.sz<=13*w.sz+4000:=by
 unfold kP;cases hc:(aP w&&((lS (aX w) w).2&&(sH (aX w) (lS (aX w) w).1).2)) with
 |false=>simp only[aa];omega
 |true=>
  rw[ab] at hc;have a:=bPf hc.1;obtain⟨h1,h2⟩:=Q6 (aX w) w;have b:=aP6 (aX w) (lS (aX w) w).1;rw[h2] at b;have c:w.aAC.Log.length<=w.sz:=by simp only[AA.sz,AM.sz];omega
  have d:=dc (w.aAC.Log.length+521) a;have e:=dc (w.aAC.Log.length+20) a;simp only[ac];omega
def aD1 (s n:Int):Ea s n=some (aO s n):=by unfold Ea;rw[aB (by simp)];rfl
def aIt (s:AK):aHx s=some (bG s):=rfl
def X6 (s:AK)(n:ByteArray)(k:Int)(h:n.size<=34359738300):Ar s n k=some (dK s n k):=by unfold Ar;rw[aB h,bd_s,aB (by simp)];rfl
def aD2 (s:AK)(n:ByteArray)(k:Int)(h:n.size<=34359738300):Ee s n k=some (fC s n k):=by unfold Ee;rw[aB h];rfl
def o6 (s:AK)(l:List Int)(h:l.length<=34359738300):xU s l=some (sI s l):=by unfold xU;rw[aB h];rfl
def aD3 (e:AN)(d:Int)(h:e.Boxes.length<=34359738368):Ed e d=some (sJ e d):=by
 unfold Ed;rw[gT (l:=e.Boxes) (λn b=>bif b.To==d then IntKind.i64.wrap (n+1) else n) (λ_ _=>True) (λs=>some s) (by omega) trivial (λ_ _ _ _=>trivial) (λrec i s hi _=>by
  simp only[cK hi,ac,aN hi,bd_s,lN]) (λrec s _=>by simp only[dJ,aa])]
 rfl
def X7 (l:List AF)(k d:Int)(s:AK)(h:l.length<=34359738300):Ak l k d s=some (eX l k d s):=by
 have h1:l.length<=34359738368:=by omega
 have e:∀x:AF,gd ((l++[x]).length<=34359738368) (some (aY (l++[x])))=some (aY (l++[x])):=λx=>aB (by simp;omega);have a:∀x:Int,gd ([x].length<=34359738300) (some (sI s [x]))=some (sI s [x]):=λx=>aB (by simp);unfold Ak eX Mo bE5;simp only[aB h1,bd_s,a,gF h1,e];generalize aY (l++_)=q;cases decide ((l.length:Int)>0)<;>cases aY l<;>cases q<;>rfl
def bF4 (p e:Int)(d:List Int)(h:bD d):(bd (bif gP p==0 then some true else bif !bK e then some true else some (decide ((d.length:Int)>200))) λb=>bif b then some (AO.mk 0 0 [] 0,false) else bd (gd (bD d) (some (nT (iU (gP p) e) d))) λa=>bd (gd (a.length<=34359738200) (some (Zd (iU (gP p) e) (AO.mk p e a 0)))) λc=>some (AO.mk p e a c,true))=some (iI p e d):=by
 unfold iI nC;rw[rE,rE,bd_s];cases hc:(gP p==0||(!bK e||decide ((d.length:Int)>200))) with
 |true=>rfl
 |false=>
  have hl:d.length<=200:=by simp only[bn,ct] at hc;omega
  rw[aa,aa,aB h,bd_s,aB (show(nT (iU (gP p) e) d).length<=34359738200 by rw[Sr];omega),bd_s]
def aSi (p e:Int)(d:List Int)(h:bD d):aRb p e d=some (iI p e d):=bF4 p e d h
def aIu (l:List Int)(e:Int)(d:List Int)(h:l.length<=34359738300/\bD d):Iq l e d=some (gV e d 0 l):=by
 obtain⟨h1,h2⟩:=h;unfold Iq;rw[aX4 (e:=e) (d:=d) (l:=l) (x:=(([],false):List AO×Bool)) (λrec i s hi hs=>by
  simp only[cK hi,ac,aN hi,bd_s,aB h2,gF (show s.length<=34359738368 by omega)]) (λrec s=>by simp only[dJ,aa]) l.length 0 FUEL [] (by omega) (by have:=gW;omega) (by simp),gi]
 cases hs:(gV e d 0 l).2 with
 |true=>rw[ac,nx_r,bu,<-hs]
 |false=>rw[aa,bNw hs];rfl
def bR5 (a b:Int):bD (jG [a,b]):=aP4 (by have:=bCh a b;omega) (Q5 _)
def Qe (l:List AF)(k e:Int)(h:l.length<=34359738300):uD l k e=some (bJ l k e):=by have hd:=iB l;unfold uD bJ;simp only[aB (show l.length<=34359738368 by omega),bd_s,aB (show[aD l,k].length<=5000000000 by simp),aB (show(aC l).length<=34359738300/\bD (jG [aD l,k]) from⟨by omega,bR5 _ _⟩)];cases aY l<;>cases bK k<;>cases(gV e (jG [aD l,k]) 0 (aC l)).2<;>rfl
def bR6 (e:AN)(l:List Int):(l.all λd=>sJ e d==1)= !(l.any λd=>sJ e d !=1):=by
 induction l with
 |nil=>rfl
 |cons x l a=>simp only[gE,km,a,bne];cases(sJ e x==1)<;>simp
def aIv (e:AN)(l:List AF)(h:e.Boxes.length<=34359738368/\l.length<=34359738368):Ir e l=some (jT e l):=by
 obtain⟨h1,h2⟩:=h;have hd:=iB l;unfold Ir jT;rw[aB h2,bd_s,jR (l:=aC l) (λd=>sJ e d !=1) (.inl false) (.inr PUnit.unit) (by omega) (λrec i hi=>by
  simp only[cK hi,ac,aN hi,bd_s,aB h1]) (λrec=>by simp only[dJ,aa]),bR6]
 simp only[aB h2,bd_s];cases(aC l).any (λd=>sJ e d !=1)<;>cases(e.Epoch==aD l)<;>cases((e.Boxes.length:Int)==((aC l).length:Int))<;>rfl
def bVl {e:AN}(h:e.sz<=34359738368):e.Boxes.length<=34359738368:=by simp only[AN.sz] at h;omega
def aIw (c:AM)(l:List AF)(e:AN)(h:c.sz<=34359738368/\l.length<=34359738368/\e.sz<=34359738368):Jc c l e=some (lH c l e):=by obtain⟨h1,h2,a⟩:=h;unfold Jc lH;simp only[aB h1,aB h2,aB a,bd_s,aB (show e.Boxes.length<=34359738368/\l.length<=34359738368 from⟨bVl a,h2⟩)];cases aY l<;>cases cZ l c.Log<;>cases jT e l<;>rfl
def X8 (s:AC)(i:Int)(h:s.Accounts.length<=34359738368):Au s i=some (aF s i):=by unfold Au;exact aCh (l:=s.Accounts) (λa=>a.Id==i) (by omega) (λrec j b=>by simp only[cK b,ac,aN b,bd_s]) (λrec=>by simp only[dJ,aa])
def bW4 {l:List AV}{h p:Int}(a:l.length<=34359738300){β:Type}(k:List AV->Option β):gd (lU l ((Zg h l:Nat):Int)) (gd (lU l ((Zg h l:Nat):Int)) (gd (aV [] (List.take (Zg h l) l)) (gd (aV ([]++List.take (Zg h l) l) [AV.mk h p 0 false]) (gd (aV ([]++List.take (Zg h l) l++[AV.mk h p 0 false]) (List.drop (Zg h l) l)) (k ([]++List.take (Zg h l) l++[AV.mk h p 0 false]++List.drop (Zg h l) l))))))=k (aHb l h p):=by have hk:Zg h l<=l.length:=Su;have h1:lU l ((Zg h l:Nat):Int):=⟨by omega,by omega⟩;rw[aB h1,aB h1,aB (by unfold aV;simp;omega),aB (by unfold aV;simp;omega),aB (by unfold aV;simp;omega)];rfl
def bR7 {l:List AV}{h:Int}(a:l.length<=34359738300):EV.bT (α:=Int) FUEL (λrec (i:Int)=>bd (bif decide (i<(l.length:Int)) then(bd (bA l i) λz=>some (decide (z.Handle<h))) else some false) λz=>bif z then rec (IntKind.i64.wrap (i+1)) else some i) 0=some ((Zg h l:Nat):Int):=by
 have:=aX3 (l:=l) (λc=>decide (c.Handle<h)) (λi=>some (i:Int)) (λi=>(i:Int)) (F:=λrec (i:Int)=>bd (bif decide (i<(l.length:Int)) then(bd (bA l i) λz=>some (decide (z.Handle<h))) else some false) λz=>bif z then rec (IntKind.i64.wrap (i+1)) else some i) (by omega) (λrec i hi=>by
  simp only[cK hi,ac,aN hi,bd_s];rw[aJ (by omega) (by omega)];rfl) (λrec=>by simp only[dJ,aa,bd_s])
 exact this
def bW5 {a:AJ}(b:a.sz<=34359738300)(h p:Int):(AJ.mk a.Id a.Minimum (aHb a.Credentials h p)).sz<=34359738368:=by simp only[AJ.sz,bCi] at*;omega
def Vn (a:AJ)(h p:Int)(b:a.sz<=34359738300):wP a h p=some (iJ a h p):=by
 have h1:a.sz<=34359738368:=by omega
 have hc:a.Credentials.length<=34359738300:=b;unfold wP iJ;rw[aB h1,bd_s,bR7 hc];simp only[aB h1,bd_s,bq];rw[bW4 hc (λL=>bd (bif !bB a then some true else(bd (gd ((AJ.mk a.Id a.Minimum L).sz<=34359738368) (some (bB (AJ.mk a.Id a.Minimum L)))) λc=>some (!c))) λd=>bif d then some (a,false) else some (AJ.mk a.Id a.Minimum L,true))];simp only[bd_s,aB (bW5 b h p)];cases bB a<;>cases bB {a with Credentials:=aHb a.Credentials h p}<;>rfl
def bF5 {a:AJ}{h p:Int}(hn:(iJ a h p).2=false):(iJ a h p).1=a:=by
 unfold iJ at*;cases hc: !bB a|| !bB {a with Credentials:=aHb a.Credentials h p} with
 |true=>rfl
 |false=>rw[hc] at hn;cases hn
def X9 (s:AC)(i h p:Int)(a:s.sz<=34359738300):Av s i h p=some (gD s i h p):=by
 have h1:s.sz<=34359738368:=by omega
 have hl:s.Accounts.length<=34359738368:=by simp only[AC.sz] at a;omega
 unfold Av gD;simp only[aB h1,aB hl,bd_s];rw[rE,bd_s];cases hc:(!dI s||decide (aF s i<0)) with
 |true=>rfl
 |false=>
  rw[bn] at hc;obtain⟨b,c,d⟩:=bNx a hc.2;simp only[aa,b,bd_s,aB c];cases e:(iJ (s.Accounts.getD (aF s i).toNat default) h p).2 with
  |true=>rfl
  |false=>rw[bF5 e,aPx d];rfl
def aIx (i:Int):(aA i).size<=34359738300:=by unfold aA;cases i==0<;>cases i==1<;>decide
def aD4 (d:AD)(h:Int)(rm:Bool)(c:d.sz<=34359738300):Eu d h rm=some (kI d h rm):=by have h1:=Ia d (aA 0) h rm;unfold Eu kI;rw[aB ⟨by omega,aIx 0⟩,bd_s,show FUEL=FUEL-2+1+1 from by have:=gW;omega];have e:∀{β:Type} (k:Option β),gd ((dO d (aA 0) h rm).1.sz<=34359738360/\(aA 1).size<=34359738300) k=k:=λk=>aB ⟨by omega,aIx 1⟩;show(bd (bd (gd ((dO d (aA 0) h rm).1.sz<=34359738360/\(aA 1).size<=34359738300) (some (dO (dO d (aA 0) h rm).1 (aA 1) h rm))) λa=>some (a.1.Store.Vendor,a.1.Store.Serial,a.1.Store.Seed,a.1.Store.Counter,a.1.Log,a.1.Key,a.1.Epoch,a.1.Version,a.1.aAD.Entries)) λb=>some (AD.mk (AK.mk b.1 b.2.1 b.2.2.1 b.2.2.2.1) b.2.2.2.2.1 b.2.2.2.2.2.1 b.2.2.2.2.2.2.1 b.2.2.2.2.2.2.2.1 (AB.mk b.2.2.2.2.2.2.2.2)))=_;rw[e,bd_s,bd_s]
def bPg {w:AA}{d:Int}(a:aP w=true)(hd:aL w d=true):bA w.Stolen d=some (eT w d):=by
 have hl:w.Stolen.length=w.Devices.length:=by simp only[aP,ab,cH] at a;omega
 simp only[aL,ab,bp] at hd;rw[qH hd.1 (by omega)];simp[eT,List.getD,ae (show d.toNat<w.Stolen.length by omega)]
def bIj {p r:List AC}{s:AC}:bA (p++s::r) ((p.length:Nat):Int)=some s:=by rw[aN (by simp)];simp
def bDq {p r:List AC}{s y:AC}:(p++s::r).set (Int.toNat ((p.length:Nat):Int)) y=p++y::r:=by rw[bq];simp
def bPh {w:AA}{b:Int}(a:w.sz<=100000000)(h1:aP w=true)(hs:((aM w b 0).2==0)=true):((aL (aM w b 0).1 b=true/\(aM w b 0).1.Sites.length=2)/\(aM w b 0).1.sz<=300000000)/\(aM w b 0).1.aAC.Log.length<=100000000:=by
 obtain⟨⟨k1,k2⟩,k3,k4,k5⟩:=mP hs;have c:w.aAC.Log.length<=w.sz:=by simp only[AA.sz,AM.sz];omega
 refine⟨⟨⟨by simp only[aL] at*;rw[k4];exact k2,?_⟩,by omega⟩,by rw[k3];omega⟩;have e:(aM w b 0).1.Sites=w.Sites:=by unfold aM;cases(aP w&&aL w b)<;>rfl
 rw[e];simp only[aP,ab,cH] at h1;omega
def bK7 {L:List AX}(a:30<L.length)(b:L.length<=34359738301):gd (lU L ((Ac L:Nat):Int)) (gd (lU L (IntKind.i64.wrap (((Ac L:Nat):Int)+1))) (gd (aV [] (List.take (Int.toNat ((Ac L:Nat):Int)) L)) (gd (aV ([]++List.take (Int.toNat ((Ac L:Nat):Int)) L) (List.drop (Int.toNat (IntKind.i64.wrap (((Ac L:Nat):Int)+1))) L)) (some ([]++List.take (Int.toNat ((Ac L:Nat):Int)) L++List.drop (Int.toNat (IntKind.i64.wrap (((Ac L:Nat):Int)+1))) L)))))=some (Ny L):=by
 have hs:=bNv (l:=L) (by omega);have e:IntKind.i64.wrap (((Ac L:Nat):Int)+1)=((Ac L+1:Nat):Int):=by rw[aJ (by omega) (by omega)];rfl
 rw[e,aB ⟨by omega,by omega⟩,aB ⟨by omega,by omega⟩,aB (by unfold aV;simp;omega),aB (by unfold aV;simp;omega),bq,bq];unfold Ny;rw[ak (show(L.length:Int)>30 by omega)];rfl
def bR8 (l:List AX)(x:AX)(h:l.length<=34359738300):(AS.mk (Ny (l++[x]))).sz<=34359738368:=by have:=aXy (l++[x]);simp only[ax,cp] at this;simp only[AS.sz];omega
def bPi {L:List AX}(h:¬30<L.length):Ny L=L:=by unfold Ny;rw[ao (show ¬(L.length:Int)>30 by omega)];rfl
def aD5 (m:AS)(k a t:Int)(d:m.sz<=34359738300):Er m k a t=some (Du m k a t):=by
 have h1:m.sz<=34359738368:=by omega
 have hm:m.Notices.length<=34359738300:=d;have j:(m.Notices++[(⟨k,a,t,false⟩:AX)]).length=m.Notices.length+1:=by simp
 have hn:=bR8 m.Notices ⟨k,a,t,false⟩ hm;unfold Er Du;rw[aB (by unfold aV;simp;omega),bu,gF (show m.Notices.length<=34359738368 by omega)];simp only[aB h1,bd_s];generalize hg:m.Notices++[(⟨k,a,t,false⟩:AX)]=L at*;by_cases c:30<L.length
 ·have e:=aX5 (l:=L) (F:=λrec (b:Int×Int)=>bif (decide (b.2>=(0:Int))) then(bd (bd (bA L (b.2)) λf=>bif (f.Seen) then(some (b.2)) else(some (b.1))) λh=>rec ((h,IntKind.i64.wrap (b.2-(1:Int))))) else(some (b.1))) (λrec q i hi=>by
   simp only[ak (show((i:Int)>=0) by omega),ac,aN hi,bd_s,lN,aJ (show(-9223372036854775808:Int)<=(i:Int)-1 by omega) (show(i:Int)-1<=9223372036854775807 by omega)]) (λrec q=>rfl) L.length FUEL 0 (ai _) (by have:=gW;omega)
  rw[dg] at e;rw[ak (show(L.length:Int)>30 by omega),ac,aJ (by omega) (by omega),e,<-bNu,bd_s,bK7 c (by omega),bd_s,aB hn,bd_s];cases gJ m<;>cases gJ ⟨Ny L⟩<;>rfl
 ·rw[ao (show ¬(L.length:Int)>30 by omega),aa,bd_s];rw[bPi c] at hn ⊢;rw[aB hn,bd_s];cases gJ m<;>cases gJ ⟨L⟩<;>rfl
def bDr {τ:Type}{x:τ}{st:AK}{n:Int}{N:Nat}{F:(Nat×List AC->Option (τ⊕List AC))->Nat×List AC->Option (τ⊕List AC)}
  (a:∀rec (p:List AC) (s:AC) (r:List AC),p.length+r.length+1=N->s.sz<=34359738300->F rec (p.length,p++s::r)=bif !(gD s 1 n (fC st (aA (p.length:Int)) n)).2 then some (.inl x) else rec (p.length+1,p++(gD s 1 n (fC st (aA (p.length:Int)) n)).1::r)) (b:∀rec S,F rec (N,S)=some (.inr S)):
  ∀(r p:List AC) (m:Nat),p.length+r.length=N->r.length<m->(∀s∈r,s.sz<=34359738300)->EV.bT m F (p.length,p++r)=some (bif (gK st n p.length r).2 then .inr (p++(gK st n p.length r).1) else .inl x)
 |[],p,m+1,h,_,_=>by
  simp only[bl,eg] at h;rw[iZ,h,b];simp[gK]
 |s::r,p,m+1,h,hm,hs=>by
  simp only[au] at h hm;rw[iZ,a _ p s r (by omega) (hs s (by simp)),gK];cases hr:(gD s 1 n (fC st (aA (p.length:Int)) n)).2 with
  |false=>rfl
  |true=>have:=bDr a b r (p++[(gD s 1 n (fC st (aA (p.length:Int)) n)).1]) m (by simp;omega) (by omega) (λy c=>hs y (by simp[c]));simp only[ax,cp,cq,cN,bu] at this;rw[ay,aa,this];cases(gK st n (p.length+1) r).2<;>rfl
def bK8 {τ:Type}{x:τ}{st:AK}{n:Int}{N:Nat}{l:List AC}(d:l.length=N)(a:N<=100)(hs:∀s∈l,s.sz<=34359738300){F:(Nat×List AC->Option (τ⊕List AC))->Nat×List AC->Option (τ⊕List AC)}
  (b:∀rec (p:List AC) (s:AC) (r:List AC),p.length+r.length+1=N->s.sz<=34359738300->F rec (p.length,p++s::r)=bif !(gD s 1 n (fC st (aA (p.length:Int)) n)).2 then some (.inl x) else rec (p.length+1,p++(gD s 1 n (fC st (aA (p.length:Int)) n)).1::r)) (c:∀rec S,F rec (N,S)=some (.inr S)):EV.bT FUEL F (0,l)=some (bif (gK st n 0 l).2 then .inr (gK st n 0 l).1 else .inl x):=by
 have:=bDr b c l [] FUEL (by simp;omega) (by have:=gW;omega) hs;simpa using this
def Gd (w:AA)(b:Int):AA×Bool:=bif (add1 w b).2&&((aHc w b).2&&((sK w b).2&&(Cz w b).2==0)) then(qD (Cz w b).1 2,true) else(w,false)
def bK9 {w:AA}{b:Int}(h1:aP w=true)(h2:aL w b=true)(a:eT w b=false)(c:decide ((w.Devices.length:Int)>=6)=false)(d:((aM w b 0).2==0)=true):fK w b=Gd w b:=by unfold fK Ib Gd;rw[h1,h2,a,c,d];rfl
def Y1 {w:AA}{b:Int}(h:(add1 w b).2=false):Gd w b=(w,false):=by unfold Gd;rw[h];rfl
def Vo {w:AA}{b:Int}(h:(aHc w b).2=false\/(sK w b).2=false\/((Cz w b).2==0)=false):Gd w b=(w,false):=by unfold Gd;rcases h with h|h|h<;>rw[h]<;>simp
def bDs {w:AA}{b:Int}(h1:(add1 w b).2=true)(h2:(aHc w b).2=true)(a:(sK w b).2=true)(c:((Cz w b).2==0)=true):Gd w b=(qD (Cz w b).1 2,true):=by unfold Gd;rw[h1,h2,a,c];rfl
def bR9 {w:AA}{b:Int}(f:w.sz<=100000000)(h0:((aM w b 0).2==0)=true)(a:(sK w b).2=true):(appW (sK w b).1 (bG (aO w.Seed (w.Devices.length:Int)))).sz<=34359738100/\((Cz w b).2==0->(Cz w b).1.Mail.sz<=34359738300):=by
 obtain⟨h,c⟩:=bRe h0 a;have i:(bG (aO w.Seed (w.Devices.length:Int))).sz=0:=rfl;refine⟨by rw[aCs];omega,λd=> ?_⟩;obtain⟨_,_,_,e⟩:=mP (w:=appW (sK w b).1 (bG (aO w.Seed (w.Devices.length:Int)))) d;rw[aCs] at e;have j:(appW (sK w b).1 (bG (aO w.Seed (w.Devices.length:Int)))).aAC.Log.length<=w.sz+1:=c;have k:(Cz w b).1.sz<=34*w.sz+690:=by show(aM _ _ 0).1.sz<=_;omega
 have:(Cz w b).1.Mail.sz<=(Cz w b).1.sz:=by simp only[AS.sz,AA.sz];omega
 omega
def aIy {w:AA}{b:Int}(h:(aP w&&(aL w b&&(!eT w b&& !decide ((w.Devices.length:Int)>=6))))=false\/((aM w b 0).2==0)=false):fK w b=(w,false):=by
 unfold fK Ib;rcases h with h|h
 ·rw[h];rfl
 ·rw[h];simp
def bSa {w:AA}{d:Int}(h:(fH w d).2=false):(fH w d).1=w:=by
 unfold fH at*;cases hc:((aM w d 0).2==0&&(Sq (aM w d 0).1 d).2) with
 |true=>rw[hc] at h;cases h
 |false=>rfl
def o7 (w:AA)(b:Int)(k:w.sz<=100000000):yC w b=some (fK w b):=by
 have t:w.sz<=34359738368:=by omega
 unfold yC;simp only[bd_s,aB (show w.sz<=34359738100 by omega),aB t,bne];cases hs:((aM w b 0).2==0) with
 |false=>rw[aIy (.inr hs)];rfl
 |true=>
 obtain⟨⟨h1,h2⟩,_⟩:=mP hs;rw[bPg h1 h2];cases u:eT w b with
 |true=>rw[aIy (.inl (by rw[h1,h2,u];rfl))];rfl
 |false=>
 cases v:decide ((w.Devices.length:Int)>=6) with
 |true=>rw[aIy (.inl (by rw[h1,h2,u,v];rfl))];rfl
 |false=>
 simp only[ay,aa,bd_s];rw[bK9 h1 h2 u v hs];have O:w.Devices.length<6:=by have:=of_decide_eq_false v;omega
 obtain⟨⟨⟨y,Q⟩,J⟩,g4⟩:=bPh k h1 hs;have z:AK.mk (1:Int) (w.Devices.length:Int) (aZ w.Seed [277,(w.Devices.length:Int)]) 0=aO w.Seed (w.Devices.length:Int):=rfl;simp only[z,lM y,bd_s,aB (show(aM w b 0).1.aAC.Log.length<=34359738300 by omega)];have A:=vK (aM w b 0).1.aAC.Log 1 (aT (aO w.Seed (w.Devices.length:Int))) (aG (aM w b 0).1 b).Store;obtain⟨l,hl⟩:∃l,l=eX (aM w b 0).1.aAC.Log 1 (aT (aO w.Seed (w.Devices.length:Int))) (aG (aM w b 0).1 b).Store:=⟨_,rfl⟩;obtain⟨e,he⟩:∃e,e=bJ l.1 (aG (aM w b 0).1 b).Key (IntKind.i64.wrap (1000+IntKind.i64.wrap (10*(l.1.length:Int)))):=⟨_,rfl⟩;obtain⟨c,j⟩:∃c,c=lH (aM w b 0).1.aAC l.1 e.1:=⟨_,rfl⟩;have m:add1 w b=bif l.2&&(e.2&&c.2) then({(aM w b 0).1 with aAC:=c.1},true) else((aM w b 0).1,false):=by rw[j,he,hl];rfl
 rw[<-hl] at A ⊢;have B:=Yj l.1 (aG (aM w b 0).1 b).Key (IntKind.i64.wrap (1000+IntKind.i64.wrap (10*(l.1.length:Int))));rw[aB (show l.1.length<=34359738300 by omega),bd_s];rw[<-he] at B ⊢;have R:=Vl (aM w b 0).1;rw[aB (show(aM w b 0).1.aAC.sz<=34359738368/\l.1.length<=34359738368/\e.1.sz<=34359738368 from⟨by omega,by omega,by omega⟩),bd_s,<-j];cases o:l.2 with
 |false=>rw[Y1 (by rw[m,o];rfl)];rfl
 |true=>
 cases D:e.2 with
 |false=>rw[Y1 (by rw[m,o,D];rfl)];rfl
 |true=>
 cases K:c.2 with
 |false=>rw[Y1 (by rw[m,o,D,K];rfl)];rfl
 |true=>
 have f:add1 w b=({(aM w b 0).1 with aAC:=c.1},true):=by rw[m,o,D,K];rfl
 have F:aHc w b=gK (aO w.Seed (w.Devices.length:Int)) (w.Devices.length:Int) 0 (aM w b 0).1.Sites:=by unfold aHc;rw[f]
 have G:∀s∈(aM w b 0).1.Sites,s.sz<=34359738300:=λs hs=>by
  have h1:=aG7 (g:=AC.sz) hs;simp only[AA.sz] at J;omega
 simp only[ay,aa,bd_s];rw[bK8 (x:=((w,false):AA×Bool)) (st:=aO w.Seed (w.Devices.length:Int)) (n:=(w.Devices.length:Int)) (l:=(aM w b 0).1.Sites) (N:=2) Q (by omega) G (λrec p s r hp k=>by
  simp only[ak (show((p.length:Nat):Int)<2 by omega),ac,bIj,bd_s,aB (aIx (p.length:Int)),aB k,bDq]) (λrec S=>rfl)]
 cases L:(gK (aO w.Seed (w.Devices.length:Int)) (w.Devices.length:Int) 0 (aM w b 0).1.Sites).2 with
 |false=>rw[Vo (.inl (by rw[F,L]))];rfl
 |true=>
 obtain⟨k1,k2,k3,k4⟩:=aIq y;have hg:=y;simp only[aL,ab,bp] at hg;have T:AA.mk (aM w b 0).1.Now (aM w b 0).1.Seed ((aM w b 0).1.Devices.set b.toNat (kI (aG (aM w b 0).1 b) (w.Devices.length:Int) false)) (aM w b 0).1.Stolen c.1 (gK (aO w.Seed (w.Devices.length:Int)) (w.Devices.length:Int) 0 (aM w b 0).1.Sites).1 (aM w b 0).1.aAO (aM w b 0).1.Hosts (aM w b 0).1.Pin (aM w b 0).1.Mail=aAU w b:=by unfold aAU;rw[F,f];rfl
 obtain⟨⟨V,z2⟩,z3,z4⟩:=bCk hs;have W:(aM w b 0).1.sz<=34359738368:=by omega
 have M:(aM w b 0).1.Devices.length<=34359738368/\(aM w b 0).1.Stolen.length<=34359738368:=by clear J;simp only[AA.sz] at W;omega
 simp only[ac,nx_r,aB (show(aG (aM w b 0).1 b).sz<=34359738300 by omega),bd_s,gF (show((aM w b 0).1.Devices.set b.toNat (kI (aG (aM w b 0).1 b) (w.Devices.length:Int) false)).length<=34359738368 by rw[aw];exact M.1),gF M.2];show(bd (gd ((appW (AA.mk (aM w b 0).1.Now (aM w b 0).1.Seed ((aM w b 0).1.Devices.set b.toNat (kI (aG (aM w b 0).1 b) (w.Devices.length:Int) false)) (aM w b 0).1.Stolen c.1 (gK (aO w.Seed (w.Devices.length:Int)) (w.Devices.length:Int) 0 (aM w b 0).1.Sites).1 (aM w b 0).1.aAO (aM w b 0).1.Hosts (aM w b 0).1.Pin (aM w b 0).1.Mail) (bG (aO w.Seed (w.Devices.length:Int)))).sz<=10000000000) (some (fH (appW (AA.mk (aM w b 0).1.Now (aM w b 0).1.Seed ((aM w b 0).1.Devices.set b.toNat (kI (aG (aM w b 0).1 b) (w.Devices.length:Int) false)) (aM w b 0).1.Stolen c.1 (gK (aO w.Seed (w.Devices.length:Int)) (w.Devices.length:Int) 0 (aM w b 0).1.Sites).1 (aM w b 0).1.aAO (aM w b 0).1.Hosts (aM w b 0).1.Pin (aM w b 0).1.Mail) (bG (aO w.Seed (w.Devices.length:Int)))) b))) λh=>bd (gd (h.1.sz<=34359738100) (some (aM h.1 (w.Devices.length:Int) 0))) λa=>bd (bif !h.2 then some true else some !(a.2==0)) λH=>bif H then some (w,false) else bd (gd (a.1.Mail.sz<=34359738300) (some (Du a.1.Mail 2 1 a.1.Now))) λI=>some (AA.mk a.1.Now a.1.Seed a.1.Devices a.1.Stolen a.1.aAC a.1.Sites a.1.aAO a.1.Hosts a.1.Pin I.1,true))=_;have nz:(bG (aO w.Seed (w.Devices.length:Int))).sz=0:=rfl;rw[T,aB (show(appW (aAU w b) (bG (aO w.Seed (w.Devices.length:Int)))).sz<=10000000000 by rw[aCs];omega),bd_s,bNt _ V (by omega),show fH (aAU w b) b=sK w b from rfl];cases q:(sK w b).2 with
 |false=>have hp:(sK w b).1=aAU w b:=bSa (w:=aAU w b) (d:=b) q;rw[Vo (.inr (.inl q)),aB (show(appW (sK w b).1 (bG (aO w.Seed (w.Devices.length:Int)))).sz<=34359738100 by rw[hp,aCs];omega)];rfl
 |true=>
 obtain⟨X,Z⟩:=bR9 k hs q;rw[aB X,bd_s,show aM (appW (sK w b).1 (bG (aO w.Seed (w.Devices.length:Int)))) (w.Devices.length:Int) 0=Cz w b from rfl];cases i:((Cz w b).2==0) with
 |false=>rw[Vo (.inr (.inr i))];rfl
 |true=>rw[bDs (by rw[f]) (by rw[F,L]) q i,ay,aa,bd_s,aa,aB (Z i),bd_s];rfl
def aMs (s e:Int):Oh s e=some (bX s e):=by unfold Oh;rw[aB (by simp)];rfl
def aD6 (d:AD)(l:List AF)(k:Int)(h:d.sz<=34359738368/\l.length<=34359738368):Eg d l k=some (mQ d l k):=by unfold Eg mQ;simp only[aB h.1,aB h.2,bd_s];cases aY l<;>cases cZ l d.Log<;>cases decide (aD l<d.Epoch)<;>cases bK k<;>rfl
def Qf (s:AJ)(i:Int)(h:s.Credentials.length<=34359738368):uK s i=some (aS s i):=by unfold uK;exact aCh (l:=s.Credentials) (λa=>a.Handle==i) (by omega) (λrec j b=>by simp only[cK b,ac,aN b,bd_s]) (λrec=>by simp only[dJ,aa])
def bSb {a:AJ}{h:Int}(hk:decide (aS a h<0)=false):bA a.Credentials (aS a h)=some (gG a (aS a h)):=by have hr:=oI (p:=λc:AV=>c.Handle==h) (i:=0) (l:=a.Credentials) hk;exact sD (by unfold aS;omega) (by unfold aS;omega)
def Vp (a:AJ)(h:Int)(b:a.sz<=34359738368):wW a h=some (nD a h):=by
 have hl:a.Credentials.length<=34359738368:=b;unfold wW nD;simp only[aB b,aB hl,bd_s];cases bB a with
 |false=>rfl
 |true=>
  cases hk:decide (aS a h<0) with
  |true=>rfl
  |false=>simp only[ay,aa,bSb hk,bd_s];cases(gG a (aS a h)).Cut<;>rfl
def bSc {s:AC}(a:s.sz<=34359738300)(h:decide (aF s 1>=0)=true):bA s.Accounts (aF s 1)=some (fU s (aF s 1))/\(fU s (aF s 1)).sz<=34359738368:=by
 have h0:decide (aF s 1<0)=false:=by rw[decide_eq_true_iff] at h;exact ao (by omega)
 obtain⟨b,c,_⟩:=bNx a h0;exact⟨b,by unfold fU;omega⟩
def bDt {h:Int}{N:Nat}{F:(Nat×List AC->Option (List AC))->Nat×List AC->Option (List AC)}
  (a:∀rec (p:List AC) (s:AC) (r:List AC),p.length+r.length+1=N->s.sz<=34359738300->F rec (p.length,p++s::r)=rec (p.length+1,p++gX h s::r)) (b:∀rec S,F rec (N,S)=some S):
  ∀(r p:List AC) (m:Nat),p.length+r.length=N->r.length<m->(∀s∈r,s.sz<=34359738300)->EV.bT m F (p.length,p++r)=some (p++r.map (gX h))
 |[],p,m+1,hl,_,_=>by
  simp only[bl,eg] at hl;rw[iZ,hl,b];simp
 |s::r,p,m+1,hl,hm,hs=>by
  simp only[au] at hl hm;have:=bDt a b r (p++[gX h s]) m (by simp;omega) (by omega) (λy c=>hs y (by simp[c]));simp only[ax,cp,cq,cN,bu] at this;rw[iZ,a _ p s r (by omega) (hs s (by simp)),this];simp
def bLa {h:Int}{N:Nat}{l:List AC}(d:l.length=N)(a:N<=100)(hs:∀s∈l,s.sz<=34359738300){F:(Nat×List AC->Option (List AC))->Nat×List AC->Option (List AC)}
  (b:∀rec (p:List AC) (s:AC) (r:List AC),p.length+r.length+1=N->s.sz<=34359738300->F rec (p.length,p++s::r)=rec (p.length+1,p++gX h s::r)) (c:∀rec S,F rec (N,S)=some S):EV.bT FUEL F (0,l)=some (l.map (gX h)):=by
 have:=bDt b c l [] FUEL (by simp;omega) (by have:=gW;omega) hs;simpa using this
def Yx {w:AA}{b t:Int}(h:((aM w b 0).2==0&&(!eT w b&&(!(b==t)&&bC w t)))=false):fG w b t=(w,false):=by unfold fG;rw[h];rfl
def bF6 {w:AA}{b t:Int}(h:((aM w b 0).2==0&&(!eT w b&&(!(b==t)&&bC w t)))=true):fG w b t=oZ w b t:=by unfold fG;rw[h];rfl
def Nk {w:AA}{b t:Int}(h:(nE w b t).2=false\/(Pv w b t).2=false\/(Pw w b t).2=false):oZ w b t=(w,false):=by unfold oZ;rcases h with h|h|h<;>rw[h]<;>simp
def bVm {w:AA}{b:Int}(c:w.sz<=100000000)(h1:aP w=true)(hs:((aM w b 0).2==0)=true):(aL (aM w b 0).1 b=true/\(aM w b 0).1.Sites.length=2)/\(aM w b 0).1.sz<=300000000/\(aM w b 0).1.aAC.Log.length<=100000000/\∀s∈(aM w b 0).1.Sites,s.sz<=34359738300:=by obtain⟨⟨d,a⟩,e⟩:=bPh c h1 hs;exact⟨d,a,e,λs hs=>by have h1:=aG7 (g:=AC.sz) hs;simp only[AA.sz] at a;omega⟩
def bSd {w:AA}{b t:Int}(r:w.sz<=100000000)(hs:((aM w b 0).2==0)=true){o:AA}(ho:o=(aM w b 0).1){c:AM}(h1:nE w b t=({o with aAC:=c},true)){x:AD}(h2:Pv w b t=(x,true)):
  (x.sz<=34359738300/\(kI x t true).sz<=34359738368/\c.sz<=34359738300/\(cB (kI x t true)).2.1.sz<=34359738300/\o.Mail.sz<=34359738300)/\
  oZ w b t=bif (cB (kI x t true)).2.2&&(bZ c (cB (kI x t true)).2.1).2 then(AA.mk o.Now o.Seed (o.Devices.set b.toNat (cB (kI x t true)).1) o.Stolen (bZ c (cB (kI x t true)).2.1).1 (o.Sites.map (gX t)) o.aAO o.Hosts o.Pin (Du o.Mail 4 1 o.Now).1,true) else(w,false):=by
 obtain⟨⟨f,s,u,v⟩,y,⟨b1,z⟩,h,A⟩:=bJ5 (t:=t) hs;have hd:=f;simp only[aL,ab,bp] at hd;have hi:b.toNat<(jN w b).Devices.length:=by omega
 have a:o=jN w b:=ho;have j:(mQ (aG (jN w b) b) (aHe w b t) (mR (aG (jN w b) b).Store (aHe w b t))).1=x:=by have:=congrArg Prod.fst h2;exact this
 have k:(aG (jN w b) b).sz<=(jN w b).sz:=(aIq f).2.2.1;have l:x.sz<=3*w.sz+21:=by have:=aP7 (aG (jN w b) b) (aHe w b t) (mR (aG (jN w b) b).Store (aHe w b t));rw[j] at this;omega
 have m:=aOb x t true;have n:=zM (kI x t true);have i:aCt w b t=AA.mk o.Now o.Seed (o.Devices.set b.toNat (kI x t true)) o.Stolen c (o.Sites.map (gX t)) o.aAO o.Hosts o.Pin o.Mail:=by unfold aCt;rw[h1,h2]
 have d:aG (aCt w b t) b=kI x t true:=by rw[i,a];simp only[aG,List.getD,bh hi,ck]
 have e:c.sz<=({o with aAC:=c}:AA).sz:=by simp only[AA.sz,AM.sz];omega
 have p:c.sz<=16*w.sz+34:=by rw[h1] at h;exact bz e h
 have q:o.Mail.sz<=2*w.sz+20:=by
  rw[a];have:(jN w b).Mail.sz<=(jN w b).sz:=by simp only[AS.sz,AA.sz];omega
  omega
 refine⟨⟨by omega,by omega,by omega,by simp only[AI.sz];omega,by omega⟩,?_⟩;unfold oZ;rw[show Pw w b t=Sq (aCt w b t) b from rfl,h1,h2];unfold Sq;rw[d,i];simp only[cx];cases(cB (kI x t true)).2.2&&(bZ c (cB (kI x t true)).2.1).2 with
 |false=>rfl
 |true=>simp only[ac,qD,gf]
def bLb {h:Int}{p r:List AC}{s:AC}(a:s.sz<=34359738300):s.Accounts.length<=34359738368:=by simp only[AC.sz] at a;omega
def aIz (w:AA)(b t:Int)(v:w.sz<=100000000):Jd w b t=some (fG w b t):=by
 have a:w.sz<=34359738368:=by omega
 unfold Jd;simp only[bd_s,aB (show w.sz<=34359738100 by omega),aB a,bne];cases hs:((aM w b 0).2==0) with
 |false=>rw[Yx (by rw[hs];rfl)];rfl
 |true=>
 obtain⟨⟨h1,h2⟩,_⟩:=mP hs;rw[bPg h1 h2];simp only[ay,aa,bd_s];cases i:eT w b with
 |true=>rw[Yx (by rw[hs,i];rfl)];rfl
 |false=>
 cases m:(b==t) with
 |true=>rw[Yx (by rw[hs,i,m];rfl)];rfl
 |false=>
 rw[aB (Dq.of' a)];cases d:bC w t with
 |false=>rw[Yx (by rw[hs,i,m,d];rfl)];rfl
 |true=>
 rw[bF6 (by rw[hs,i,m,d];rfl)];have ht:aL w t=true:=by unfold bC at d;rw[ab] at d;exact d.1
 obtain⟨⟨z,G⟩,T,V,H⟩:=bVm v h1 hs;simp only[ay,aa,bd_s,lM ht,lM z,aB (show(aM w b 0).1.aAC.Log.length<=34359738300 by omega)];have n:=vK (aM w b 0).1.aAC.Log 2 (aT (aG w t).Store) (aG (aM w b 0).1 b).Store;obtain⟨l,hl⟩:∃l,l=eX (aM w b 0).1.aAC.Log 2 (aT (aG w t).Store) (aG (aM w b 0).1 b).Store:=⟨_,rfl⟩;obtain⟨e,he⟩:∃e,e=bJ l.1 (mR (aG (aM w b 0).1 b).Store l.1) (IntKind.i64.wrap (1000+IntKind.i64.wrap (10*(l.1.length:Int)))):=⟨_,rfl⟩;obtain⟨c,f⟩:∃c,c=lH (aM w b 0).1.aAC l.1 e.1:=⟨_,rfl⟩;have j:nE w b t=bif l.2&&(e.2&&c.2) then({(aM w b 0).1 with aAC:=c.1},true) else((aM w b 0).1,false):=by rw[f,he,hl];rfl
 have AL:aHe w b t=l.1:=by rw[hl];rfl
 rw[<-hl] at n ⊢;have o:=Yj l.1 (mR (aG (aM w b 0).1 b).Store l.1) (IntKind.i64.wrap (1000+IntKind.i64.wrap (10*(l.1.length:Int))));have I:=Vl (aM w b 0).1;rw[aB (show([311]:List Int).length<=34359738300 by simp),bd_s,aB (show l.1.length<=34359738368 by omega),bd_s,bd_s,aB (show l.1.length<=34359738300 by omega),bd_s];rw[show bX (aZ (aG (aM w b 0).1 b).Store.Seed [311]) (aD l.1)=mR (aG (aM w b 0).1 b).Store l.1 from rfl];rw[<-he] at o ⊢;rw[aB (show(aM w b 0).1.aAC.sz<=34359738368/\l.1.length<=34359738368/\e.1.sz<=34359738368 from⟨by omega,by omega,by omega⟩),bd_s,<-f];cases k:l.2 with
 |false=>rw[Nk (.inl (by rw[j,k];rfl))];rfl
 |true=>
 cases q:e.2 with
 |false=>rw[Nk (.inl (by rw[j,k,q];rfl))];rfl
 |true=>
 cases A:c.2 with
 |false=>rw[Nk (.inl (by rw[j,k,q,A];rfl))];rfl
 |true=>
 have u:nE w b t=({(aM w b 0).1 with aAC:=c.1},true):=by rw[j,k,q,A];rfl
 obtain⟨k1,k2,k3,k4⟩:=aIq z;obtain⟨x,B⟩:∃x,x=mQ (aG (aM w b 0).1 b) l.1 (mR (aG (aM w b 0).1 b).Store l.1):=⟨_,rfl⟩;have D:Pv w b t=x:=by rw[B,<-AL];rfl
 simp only[ay,aa,bd_s,aB (show(aG (aM w b 0).1 b).sz<=34359738368/\l.1.length<=34359738368 from⟨by omega,by omega⟩)];rw[<-B];cases F:x.2 with
 |false=>rw[Nk (.inr (.inl (by rw[D,F])))];rfl
 |true=>
 obtain⟨⟨J,K,L,M,O⟩,AE⟩:=bSd v hs rfl u (x:=x.1) (by rw[D,<-F]);have q1:∀y:AD,bA ((aM w b 0).1.Devices.set b.toNat y) b=some y:=λy=>by rw[qH k1 (by rw[aw];exact k2)];simp
 rw[ay,aa,bLa (h:=t) (l:=(aM w b 0).1.Sites) (N:=2) G (by omega) H (λrec p s r hp hzs=>by
  simp only[ak (show((p.length:Nat):Int)<2 by omega),ac,bIj,bd_s,aB (bLb (h:=t) (p:=p) (r:=r) hzs)];cases hc:decide (aF s 1>=0) with
  |false=>simp only[aa,bd_s,gX,hc]
  |true=>
   obtain⟨Q,R⟩:=bSc hzs hc;simp only[ac,Q,bd_s,aB R,bDq,gX,hc]) (λrec S=>rfl)]
 simp only[bd_s,q1,aB J,aB K,aB O,gf,aB (show c.1.sz<=34359738300/\(cB (kI x.1 t true)).2.1.sz<=34359738300 from⟨L,M⟩)];rw[AE];cases(cB (kI x.1 t true)).2.2<;>cases(bZ c.1 (cB (kI x.1 t true)).2.1).2<;>rfl
def Qg (b:AP)(i:Int):uJ b i=some (fJ b i):=by unfold uJ;rw[aB (by simp)];rfl
def o8 (s:AK):yA s=some (lD s):=by unfold yA lD;cases bI s.Vendor 1 9<;>cases bI s.Serial 0 1000000<;>cases bK s.Seed<;>rfl
def Kh (a:AY)(h:a.Site.size<=34359738300/\a.aAK.size<=34359738300):rO a=some (dG a):=by unfold rO dG;rw[aB h.1,aB h.2];cases a.Present<;>rfl
def Vq (b:AP)(i:Int)(h:b.Open.length<=34359738368):wT b i=some (dQ b i):=by unfold wT;exact aCh (l:=b.Open) (λc=>c.Id==i) (by omega) (λrec j a=>by simp only[cK a,ac,aN a,bd_s]) (λrec=>by simp only[dJ,aa])
def Qh (b:AP)(i n:Int)(h:b.sz<=34359738368):uI b i n=some (eH b i n):=by
 have hl:b.Open.length<=b.sz:=by simp only[AP.sz];omega
 have a:∀(x y:List A3),x.length+y.length<=34359738400->aV x y:=λx y h=>by unfold aV;omega
 unfold uI eH;rw[aB h,bd_s,aB h,bd_s];cases eQ b with
 |false=>rfl
 |true=>
  cases b.Next==1000000 with
  |true=>rfl
  |false=>
   cases bI i 0 1000000 with
   |false=>rfl
   |true=>
    cases bI n 0 1000000 with
    |false=>rfl
    |true=>
     simp only[ay,db,du,aa,ac,bd_s];cases hd:decide ((b.Open.length:Int)>=16) with
     |false=>rw[aa,aB (a _ _ (by simp only[au,bl];omega))];rfl
     |true=>have c:=of_decide_eq_true hd;rw[ac,aB (show lU b.Open 1 from⟨by omega,by omega⟩),aB (a _ _ (by simp only[cz,au,bl];omega))];rfl
def Vr (b:AP)(id acc now:Int)(h:b.sz<=34359738368):wU b id acc now=some (qE b id acc now):=by
 have hl:b.Open.length<=b.sz:=by simp only[AP.sz];omega
 have c:∀(x y:List A3),x.length+y.length<=34359738400->aV x y:=λx y h=>by unfold aV;omega
 unfold wU qE;rw[aB (show b.Open.length<=34359738368 by omega),bd_s,aB h,bd_s];cases eQ b with
 |false=>simp only[db,ac,bd_s,jk];rw[aB h];rfl
 |true=>
  simp only[ay,aa,bd_s,cu];cases d:decide (dQ b id<0) with
  |true=>rw[ac,ac,aB h];rfl
  |false=>
   obtain⟨h0,h1⟩:=oI (i:=0) d;have h0:0<=dQ b id:=h0;have h1:dQ b id<(b.Open.length:Int):=by have:dQ b id<0+(b.Open.length:Int):=h1;omega
   have hk:IntKind.i64.wrap (dQ b id+1)=(((dQ b id).toNat+1:Nat):Int):=by rw[aJ (by omega) (by omega)];omega
   have a:bA b.Open (dQ b id)=some (aHf b (dQ b id)):=sD h0 h1;rw[aa,aa,hk,a,aB (show lU b.Open (dQ b id) from⟨by omega,by omega⟩),aB (show lU b.Open (((dQ b id).toNat+1:Nat):Int) from⟨by omega,by omega⟩),
    aB (c _ _ (by simp only[bl,bv];omega)),aB (c _ _ (by simp only[bu,bv,cz];omega)),bd_s,bd_s,bq]
   cases(aHf b (dQ b id)).aAH==acc<;>rfl
def Vs (s:AK)(z:ByteArray)(i:Int)(l:List Int)(h:z.size<=34359738300/\l.length<=34359738200):wQ s z i l=some (jH s z i l):=by
 have a:∀(x y:List Int),x.length+y.length<=34359738400->aV x y:=λx y h=>by unfold aV;omega
 unfold wQ jH;cases lD s with
 |false=>rfl
 |true=>
  simp only[ay,aa,bd_s,cx];cases s.Counter==1000000 with
  |true=>rfl
  |false=>simp only[aB h.1,bd_s,aa,db,ac];rw[aB (a _ _ (by simp only[bl];omega)),aB (a _ _ (by simp only[bu,au,bl];omega)),aB (by simp only[bu,ax,au,bl];omega)];rfl
def aD7 (s:AC)(id now:Int)(h:s.sz<=34359738368):Ep s id now=some (lX s id now):=by
 have hb:s.Book.sz<=34359738368:=by simp only[AC.sz,AP.sz] at h ⊢;omega
 have hl:s.Accounts.length<=34359738368:=by simp only[AC.sz] at h;omega
 unfold Ep lX;rw[aB h,bd_s,aB hb,bd_s,aB h,bd_s];cases dI s with
 |false=>rfl
 |true=>
  simp only[ay,aa,cx];rw[aB hl,bd_s];cases decide (aF s id<0) with
  |true=>rfl
  |false=>cases(eH s.Book id now).2.2<;>rfl
def o9 (a:AJ)(m:Int)(h:a.sz<=34359738368):yB a m=some (sM a m):=by
 have hl:a.Credentials.length<=34359738368:=by simp only[AJ.sz] at h;omega
 unfold yB sM;rw[aB h,bd_s,jR (l:=a.Credentials) (λc=> !c.Cut) (.inl true) (.inr ()) (by omega) (λrec i hi=>by simp only[cK hi,ac,aN hi,bd_s]) (λrec=>by simp only[dJ,aa])];cases bB a with
 |false=>rfl
 |true=>
  simp only[ay,aa,bd_s,cx];rw[show bI m a.Minimum 3=(decide (a.Minimum<=m)&&decide (m<=3)) from rfl];cases decide (a.Minimum<=m)<;>cases decide (m<=3)<;>try rfl
  cases hm:m==3<;>cases a.Credentials.any λc=> !c.Cut<;>simp[hm,nx,bne]
def aMt (o:AQ)(h:o.Host.size<=34359738368):Pb o=some (rG o):=by unfold Pb rG;rw[aB h,bd_s];cases iG o.Host<;>rfl
def p8 (o:AQ)(h:nG o):Zk o=some (qF o):=by obtain⟨k,hk,rfl⟩:=h;rcases(show k=0\/k=1\/k=2\/k=3\/k=4\/k=5 by omega) with rfl|rfl|rfl|rfl|rfl|rfl<;>kernel_rfl
def aVa (o:AQ)(z:ByteArray)(h:Oa o z):aUu o z=some (mU o z):=by obtain⟨⟨k,hk,rfl⟩,j,a,rfl⟩:=h;rcases a with rfl|rfl<;>rcases(show k=0\/k=1\/k=2\/k=3\/k=4\/k=5 by omega) with rfl|rfl|rfl|rfl|rfl|rfl<;>kernel_rfl
def fD {α β:Type}{x:Option α}{f:α->Option β}{a:α}{r:Option β}(h:x=some a)(h2:f a=r):bd x f=r:=by rw[h];exact h2
def aYt {α β:Type}{x:Option (α⊕β)}{f:β->Option α}{b:β}{r:Option α}(h:x=some (.inr b))(h2:f b=r):nx x f=r:=by rw[h];exact h2
def aI0 {τ:Type}(n:Nat){F:(Nat->Option τ)->Nat->Option τ}{b:τ}(hn:n<=18446744073709551616)(a:∀rec i,i<n->F rec i=rec (i+1))(c:∀rec,F rec n=some b):bT FUEL F 0=some b:=by have:=jR (l:=List.replicate n ()) (λ_=>false) b b (by simpa using hn) (F:=F) (λrec i hi=>by rw[a rec i (by simpa using hi)];rfl) (λrec=>by simpa using c rec);rw[this];cases(List.replicate n ()).any λ_=>false<;>rfl
def bW6 {p:Nat->Prop}(h:p 0/\p 1/\p 2/\p 3/\p 4/\p 5/\p 6/\p 7/\p 8/\p 9/\p 10/\p 11):∀i,i<12->p i:=λi hi=>by
 match i,hi with
 |0,_=>exact h.1
 |1,_=>exact h.2.1
 |2,_=>exact h.2.2.1
 |3,_=>exact h.2.2.2.1
 |4,_=>exact h.2.2.2.2.1
 |5,_=>exact h.2.2.2.2.2.1
 |6,_=>exact h.2.2.2.2.2.2.1
 |7,_=>exact h.2.2.2.2.2.2.2.1
 |8,_=>exact h.2.2.2.2.2.2.2.2.1
 |9,_=>exact h.2.2.2.2.2.2.2.2.2.1
 |10,_=>exact h.2.2.2.2.2.2.2.2.2.2.1
 |11,_=>exact h.2.2.2.2.2.2.2.2.2.2.2
 |n+12,h=>omega
def lt8 {p:Nat->Prop}(h:p 0/\p 1/\p 2/\p 3/\p 4/\p 5/\p 6/\p 7):∀i,i<8->p i:=λi hi=>by
 match i,hi with
 |0,_=>exact h.1
 |1,_=>exact h.2.1
 |2,_=>exact h.2.2.1
 |3,_=>exact h.2.2.2.1
 |4,_=>exact h.2.2.2.2.1
 |5,_=>exact h.2.2.2.2.2.1
 |6,_=>exact h.2.2.2.2.2.2.1
 |7,_=>exact h.2.2.2.2.2.2.2
 |n+8,h=>omega
def Yy (k:Nat)(h:nG (uA k))(a:rG (uA k)=true)(he:(qF (uA k)).toList=(Sw k).toList):
  (bd (bif (!rG (uA k)) then(some (true)) else(bd (gd (nG (uA k)) (some (qF (uA k)))) λb=>some (!b.toList==(Sw k).toList))) λc=>bif c then(some ((AQ.mk false (ByteArray.mk #[]) (0:Int),false))) else(some (uA k,true)))=some (uA k,true):=by
 rw[a,aB h,bd_s,he];simp[bd]
def Y2 (z:ByteArray)(h:bJ6 z):qU z=some (zN z):=by
 obtain rfl|⟨k,hk,rfl⟩:=h
 ·unfold qU;refine fD (a:=(⟨#[]⟩,false,⟨#[]⟩,0)) (by kernel_rfl) ?_;refine aYt (b:=(⟨#[]⟩,(0:Int))) (aI0 0 (by omega) (λrec i hi=>by omega) (λrec=>by kernel_rfl)) ?_
  kernel_rfl
 ·unfold qU;rcases(show k=0\/k=1\/k=2\/k=3 by omega) with rfl|rfl|rfl|rfl
  ·refine fD (a:=((uA 0).Host,true,⟨#[]⟩,443)) (by kernel_rfl) ?_;refine aYt (b:=((uA 0).Host,(443:Int))) (aI0 12 (by omega) (λrec=>bW6 (by refine⟨?_,?_,?_,?_,?_,?_,?_,?_,?_,?_,?_,?_⟩<;>kernel_rfl)) (λrec=>by kernel_rfl)) ?_;refine fD (a:=true) (by kernel_rfl) ?_;exact(Yy 0 ⟨0,by decide,rfl⟩ (by kernel_rfl) (by kernel_rfl)).trans (by kernel_rfl)
  ·refine fD (a:=((uA 1).Host,true,⟨#[]⟩,443)) (by kernel_rfl) ?_;refine aYt (b:=((uA 1).Host,(443:Int))) (aI0 12 (by omega) (λrec=>bW6 (by refine⟨?_,?_,?_,?_,?_,?_,?_,?_,?_,?_,?_,?_⟩<;>kernel_rfl)) (λrec=>by kernel_rfl)) ?_;refine fD (a:=true) (by kernel_rfl) ?_;exact(Yy 1 ⟨1,by decide,rfl⟩ (by kernel_rfl) (by kernel_rfl)).trans (by kernel_rfl)
  ·refine fD (a:=((uA 2).Host,true,⟨#[]⟩,443)) (by kernel_rfl) ?_;refine aYt (b:=((uA 2).Host,(443:Int))) (aI0 8 (by omega) (λrec=>lt8 (by refine⟨?_,?_,?_,?_,?_,?_,?_,?_⟩<;>kernel_rfl)) (λrec=>by kernel_rfl)) ?_;refine fD (a:=true) (by kernel_rfl) ?_;exact(Yy 2 ⟨2,by decide,rfl⟩ (by kernel_rfl) (by kernel_rfl)).trans (by kernel_rfl)
  ·refine fD (a:=((uA 3).Host,true,⟨#[]⟩,443)) (by kernel_rfl) ?_;refine aYt (b:=((uA 3).Host,(443:Int))) (aI0 8 (by omega) (λrec=>lt8 (by refine⟨?_,?_,?_,?_,?_,?_,?_,?_⟩<;>kernel_rfl)) (λrec=>by kernel_rfl)) ?_;refine fD (a:=true) (by kernel_rfl) ?_;exact(Yy 3 ⟨3,by decide,rfl⟩ (by kernel_rfl) (by kernel_rfl)).trans (by kernel_rfl)
def bPj {o:AQ}{z:ByteArray}(h:Oa o z):nG o/\z.size<=34359738300/\(qF o).size<=34359738300:=by
 obtain⟨ho,j,a,rfl⟩:=h;refine⟨ho,?_,?_⟩
 ·rcases a with rfl|rfl<;>exact(show 8<=34359738300 by omega)
 ·obtain⟨k,hk,rfl⟩:=ho;have:(qF (uA k)).size<=40:=by rcases(show k=0\/k=1\/k=2\/k=3\/k=4\/k=5 by omega) with rfl|rfl|rfl|rfl|rfl|rfl<;>decide
  omega
def Vt (s:AK)(o:AQ)(z:ByteArray)(i c:Int)(b:Bool)(h:Oa o z):wR s o z i c b=some (iW s o z i c b):=by
 obtain⟨h1,h2,d⟩:=bPj h;unfold wR iW Sy;have hm:∀a,(dG a).length<=34359738200:=λa=>by simp[dG]
 rw[aB h1,bd_s,aB ⟨h2,d⟩,bd_s,aB ⟨h2,hm _⟩,bd_s,aB h,bd_s];generalize jH s z i (dG (AY.mk z (qF o) c i b 0 0))=q;obtain⟨q1,q2,q3⟩:=q;cases mU o z<;>cases q3<;>rfl
def aYu {k:Nat}(hk:k<4):zN (Sw k)=(uA k,true)/\(Sw k).size<=34359738300:=by
 rcases(show k=0\/k=1\/k=2\/k=3 by omega) with rfl|rfl|rfl|rfl
 ·exact⟨by kernel_rfl,show 20<=34359738300 by omega⟩
 ·exact⟨by kernel_rfl,show 20<=34359738300 by omega⟩
 ·exact⟨by kernel_rfl,show 16<=34359738300 by omega⟩
 ·exact⟨by kernel_rfl,show 16<=34359738300 by omega⟩
def bF7 {j:Int}(a:j=0\/j=1){k:Nat}(hk:k<4):zN (Sw k)=(uA k,true)/\(aA j).size<=34359738300/\(Sw k).size<=34359738300:=by refine⟨(aYu hk).1,?_,(aYu hk).2⟩;rcases a with rfl|rfl<;>exact(show 8<=34359738300 by omega)
def Qi (pub:Int)(a:AY)(z:ByteArray)(b cnt:Int)(h:AsP a z):nP pub a z b cnt=some (kJ pub a z b cnt):=by
 obtain⟨j,c,rfl,rfl|⟨hs,k,hk,ho,d⟩⟩:=h
 ·unfold nP;rw[aB (show bJ6 bJ7.aAK from .inl rfl)];rcases c with rfl|rfl<;>kernel_rfl
 ·obtain⟨h1,h2,e⟩:=bF7 c hk;have hm:(dG a).length=6:=by simp[dG]
  unfold nP kJ;rw[aB (show bJ6 a.aAK from .inr ⟨k,hk,ho⟩),bd_s,show zN a.aAK=(uA k,true) by rw[ho];exact h1,show(a.Site.toList==(aA j).toList)=true by rw[hs];simp];simp only[ay,aa];rw[aB (show Oa (uA k) (aA j) from⟨⟨k,by omega,rfl⟩,j,c,rfl⟩),bd_s,d,bd_s];simp only[ay,aa,bne];rw[aB (show a.Site.size<=34359738300/\a.aAK.size<=34359738300 by rw[hs,ho];exact⟨h2,e⟩),bd_s,aB (show aV (dG a) [a.Counter] by unfold aV;simp only[hm,au,bl];omega),aB (show(dG a++[a.Counter]).length<=34359738300 by simp only[ax,hm,au,bl];omega),bd_s];cases a.Present<;>cases a.aAL==b<;>cases iE pub (dG a++[a.Counter]) a.Signature<;>cases decide (a.Counter<=cnt)<;>rfl
def bVn {a:AJ}{h:Int}(hk:decide (aS a h<0)=false):bA a.Credentials (aS a h)=some (gG a (aS a h))/\(aS a h).toNat<a.Credentials.length:=by have hr:=oI (p:=λc:AV=>c.Handle==h) (i:=0) (l:=a.Credentials) hk;exact⟨sD (by unfold aS;omega) (by unfold aS;omega),by unfold aS;omega⟩
def Vu (a:AJ)(x:AY)(z:ByteArray)(c:Int)(h:AsP x z/\a.sz<=34359738368):wV a x z c=some (jX a x z c):=by
 obtain⟨hp,b⟩:=h;have hl:a.Credentials.length<=34359738368:=b;unfold wV jX;simp only[aB b,aB hl,bd_s];cases bB a with
 |false=>rfl
 |true=>
  cases hk:decide (aS a x.Handle<0) with
  |true=>rfl
  |false=>
   simp only[ay,aa,(bVn hk).1,bd_s,cu];cases(gG a (aS a x.Handle)).Cut with
   |true=>rfl
   |false=>simp only[aB hp,bd_s,aa];generalize kJ (gG a (aS a x.Handle)).Public x z c (gG a (aS a x.Handle)).Counter=k;cases k==0<;>cases k==4<;>rfl
def bSe {s:AC}{i:Int}(b:s.sz<=34359738300)(h:decide (aF s i<0)=false):bA s.Accounts (aF s i)=some (fU s (aF s i))/\(fU s (aF s i)).sz<=34359738300/\(aF s i).toNat<s.Accounts.length:=by
 have hr:=oI (p:=λa:AJ=>a.Id==i) (i:=0) (l:=s.Accounts) h;have hi:(aF s i).toNat<s.Accounts.length:=by unfold aF;omega
 have h1:=wB (f:=AJ.sz) hi;refine⟨sD (by unfold aF;omega) (by unfold aF;omega),?_,hi⟩;unfold fU;simp only[AC.sz] at b;omega
def Y3 (s:AC)(i c n:Int)(x:AY)(h:AsP x s.Name/\s.sz<=34359738300):Be s i c n x=some (pE s i c n x):=by
 obtain⟨hp,a⟩:=h;have b:s.sz<=34359738368:=by omega
 have hb:s.Book.sz<=34359738368:=by simp only[AC.sz,AP.sz] at a ⊢;omega
 have hl:s.Accounts.length<=34359738368:=by simp only[AC.sz] at a;omega
 have d:aV s.Logins [i]:=by unfold aV;simp only[AC.sz] at a;simp only[au,bl];omega
 unfold Be pE;simp only[aB b,aB hl,aB hb,bd_s];cases dI s with
 |false=>rfl
 |true=>
  simp only[ay,aa,bd_s,cu];cases hk:decide (aF s i<0) with
  |true=>rfl
  |false=>
   obtain⟨e,f,j⟩:=bSe a hk;simp only[aa];cases(qE s.Book c i n).2 with
   |false=>rfl
   |true=>
    simp only[ay,aa,e,bd_s,aB (show(fU s (aF s i)).sz<=34359738368 by omega)];cases sM (fU s (aF s i)) 3 with
    |false=>rfl
    |true=>
     simp only[ay,aa,aB (show AsP x s.Name/\(fU s (aF s i)).sz<=34359738368 from⟨hp,by omega⟩),bd_s,aB d,bne];cases hc:(jX (fU s (aF s i)) x s.Name (fJ s.Book c)).2==0 with
     |false=>rfl
     |true=>rw[eq_of_beq hc];rfl
def Gf {w:AA}(h:aP w=true):w.Sites.length=2/\w.Stolen.length=w.Devices.length/\w.Devices.length<=6/\gM nA 0 w.Sites=false:=by simp only[aP,bI,ab,bp,cH,ca] at h;exact⟨by omega,by omega,by omega,h.2⟩
def aMu (w:AA)(d j:Int)(h:w.sz<=34359738368):Oz w d j=some (dU w d j):=by
 unfold Oz dU;rw[aB h,bd_s];cases a:aP w with
 |false=>rfl
 |true=>
  obtain⟨h1,h2,c,_⟩:=Gf a;have e:bI d 0 (IntKind.i64.wrap ((w.Devices.length:Int)-1))=aL w d:=by
   rw[aJ (by omega) (by omega)];unfold bI aL;by_cases hd:d<(w.Devices.length:Int)
   ·rw[ak hd,ak (show d<=(w.Devices.length:Int)-1 by omega)]
   ·rw[ao hd,ao (show ¬d<=(w.Devices.length:Int)-1 by omega)]
  have b:bI j 0 1=qA w j:=by
   unfold bI qA;rw[h1,show((2:Nat):Int)=2 from rfl];by_cases hd:j<(2:Int)
   ·rw[ak hd,ak (show j<=1 by omega)]
   ·rw[ao hd,ao (show ¬j<=1 by omega)]
  rw[e,b,ac];cases aL w d<;>cases qA w j<;>rfl
def Yz {w:AA}{d j:Int}(h:dU w d j=true):bA w.Stolen d=some (eT w d):=by simp only[dU,ab] at h;obtain⟨h1,h2,a,_⟩:=Gf h.1;have hd:=h.2.1;simp only[aL,ab,bp] at hd;unfold eT;rw[qH hd.1 (by omega)];simp[List.getD,ae (show d.toNat<w.Stolen.length by omega)]
def bIk (j:Int):(ByteArray.mk #[UInt8.ofNat 119,UInt8.ofNat 119,UInt8.ofNat 119,UInt8.ofNat 46]).size+(aA j).size<=9223372036854775807:=by unfold aA;cases j==0<;>cases j==1<;>decide
def aI1 (s:ByteArray):aHz s=some (AQ.mk true s 443):=rfl
def bVo {a b:ByteArray}(h:a.toList=b.toList):a=b:=by rw[ByteArray.toList_eq,ByteArray.toList_eq] at h;exact ByteArray.ext (ju.1 h)
def bPk {l:List AC}{k:Nat}:∀{i:Nat},gM nA i l=false->∀(h:k<l.length),dI l[k]=true/\l[k].Name=aA ((i+k:Nat):Int):=by
 induction l generalizing k with
 |nil=>intro i _ h;simp at h
 |cons s l b=>
  intro i a h;simp only[gM,bn] at a;cases k with
  |zero=>have hb:=a.1;simp only[nA,bn,cL] at hb;refine⟨hb.1,?_⟩;have:=eq_of_beq hb.2;exact bVo this
  |succ k=>have:=b (k:=k) (i:=i+1) a.2 (by simpa using h);simp only[fb];refine⟨this.1,this.2.trans ?_⟩;congr 1;omega
def Vv {w:AA}{d j:Int}(h:dU w d j=true):bA w.Sites j=some (fA w j)/\(fA w j).sz<=w.sz/\(fA w j).Name=aA j/\(j=0\/j=1)/\j.toNat<w.Sites.length:=by
 simp only[dU,ab] at h;obtain⟨h1,h2,c,b⟩:=Gf h.1;have hd:=h.2.2;simp only[qA,ab,bp] at hd;have a:j.toNat<w.Sites.length:=by omega
 have hs:=wB (f:=AC.sz) a;have e:fA w j=w.Sites[j.toNat]:=by unfold fA;simp[List.getD,ae a]
 refine⟨by rw[qH hd.1 a,e],?_,?_,by omega,a⟩
 ·unfold fA;simp only[AA.sz];omega
 ·rw[e,(bPk b a).2];congr 1;omega
def bF8 (s:AC)(i n:Int):(lX s i n).1.Name=s.Name/\(lX s i n).1.sz<=s.sz+1:=by
 unfold lX;cases dI s&&(!decide (aF s i<0)&&(eH s.Book i n).2.2) with
 |false=>exact⟨rfl,dy _⟩
 |true=>
  refine⟨rfl,?_⟩;have hb:(eH s.Book i n).1.Open.length<=s.Book.Open.length+1:=by
   unfold eH;cases eQ s.Book&&(!(s.Book.Next==1000000)&&(bI i 0 1000000&&bI n 0 1000000)) with
   |false=>simp only[aa];omega
   |true=>
    simp only[ac];cases decide ((s.Book.Open.length:Int)>=16) with
    |true=>simp only[ac,ax,cz,au,bl];omega
    |false=>simp only[aa,ax,au,bl];omega
  simp only[ac,AC.sz,AP.sz];omega
def bPl {k:Nat}(hk:k<6){j:Int}(a:j=0\/j=1)(h:mU (uA k) (aA j)=true):k<4:=by
 rcases(show k<4\/k=4\/k=5 by omega) with b|rfl|rfl
 ·exact b
 ·rcases a with rfl|rfl<;>exact absurd h (by decide)
 ·rcases a with rfl|rfl<;>exact absurd h (by decide)
def bF9 (s:AK)(h c:Int)(p:Bool){o:AQ}(ho:nG o){j:Int}(a:j=0\/j=1):AsP (iW s o (aA j) h c p).2.1 (aA j):=by
 refine⟨j,a,rfl,?_⟩;obtain⟨k,hk,rfl⟩:=ho;unfold iW;cases hm:mU (uA k) (aA j) with
 |false=>exact .inl rfl
 |true=>
  cases(jH s (aA j) h (dG (Sy s (uA k) (aA j) h c p))).2.2 with
  |false=>exact .inl rfl
  |true=>exact .inr ⟨rfl,k,bPl hk a hm,rfl,hm⟩
def bW7 {w:AA}{d j:Int}{o:AQ}(ho:nG o)(h:dU w d j=true)(c:w.sz<=34359738200):AsP (aCv w d j o).2.1 (aBA w j).1.Name/\(aBA w j).1.sz<=34359738300:=by obtain⟨_,h2,a,b,_⟩:=Vv h;obtain⟨b1,e⟩:=bF8 (fA w j) 1 w.Now;exact⟨by unfold aCv aBA;rw[b1,a];exact bF9 _ _ _ _ ho b,by unfold aBA;omega⟩
def aVb (w:AA)(d j:Int)(o:AQ)(h:nG o/\w.sz<=34359738200):L6 w d j o=some (iK w d j o):=by
 obtain⟨ho,c⟩:=h;have b:w.sz<=34359738368:=by omega
 unfold L6 iK;simp only[aB b,bd_s];cases ht:dU w d j with
 |false=>rfl
 |true=>
  obtain⟨e,m,n,f,q⟩:=Vv ht;obtain⟨i,k⟩:=bW7 ho ht c;have a:=ht;simp only[dU,ab] at a;have l:=lM a.2.1;have hm:w.Mail.sz<=34359738300:=by simp only[AA.sz,AS.sz] at c ⊢;omega
  simp only[ay,aa,e,bd_s,aB (show(fA w j).sz<=34359738368 by omega)];rw[show lX (fA w j) 1 w.Now=aBA w j from rfl];cases hb:(aBA w j).2.2.2 with
  |false=>rfl
  |true=>simp only[ay,aa,l,bd_s,aB (show Oa o (aA j) from ho.p f)];rw[show iW (aG w d).Store o (aA j) d (aBA w j).2.2.1 true=aCv w d j o from rfl];simp only[aB (show AsP (aCv w d j o).2.1 (aBA w j).1.Name/\(aBA w j).1.sz<=34359738300 from⟨i,k⟩),bd_s,aB hm,bne];rw[show pE (aBA w j).1 1 (aBA w j).2.1 w.Now (aCv w d j o).2.1=Sz w d j o from rfl];cases(Sz w d j o).2.1==0<;>rfl
def aMv (w:AA)(d j:Int)(o:AQ)(h:nG o/\w.sz<=34359738200):Pd w d j o=some (qJ w d j o):=by unfold Pd;rw[aB h];rfl
def Y4 (w:AA)(d j:Int)(b:w.sz<=34359738200):Bf w d j=some (Dw w d j):=by
 have a:w.sz<=34359738368:=by omega
 unfold Bf Dw;simp only[aB a,bd_s,aB (bIk j)];cases ht:dU w d j with
 |false=>rfl
 |true=>
  simp only[ay,aa,Yz ht,bd_s,cx];cases eT w d with
  |true=>rfl
  |false=>simp only[db,aa,ac];exact(fD (aB (show nG (aP8 j)/\w.sz<=34359738200 from⟨bNz (Vv ht).2.2.2.1,b⟩)) rfl)
def vP {σ τ:Type}{F:(σ->Option τ)->σ->Option τ}(S:Nat->σ)(N:Nat){r:τ}(d:N<=1000000)(a:∀rec i,i<N->F rec (S i)=rec (S (i+1)))(b:∀rec,F rec (S N)=some r){s:σ}(hs:s=S 0):EV.bT FUEL F s=some r:=by
 subst hs;have go:∀(k i n:Nat),i+k=N->k<n->EV.bT n F (S i)=some r:=by
  intro k;induction k with
  |zero=>intro i n h hn;obtain⟨m,rfl⟩:∃m,n=m+1:=⟨n-1,by omega⟩;rw[iZ,show i=N by omega];exact b _
  |succ k c=>intro i n h hn;obtain⟨m,rfl⟩:∃m,n=m+1:=⟨n-1,by omega⟩;rw[iZ,a _ i (by omega)];exact c (i+1) m (by omega) (by omega)
 exact go N 0 FUEL (by omega) (by have:=gW;omega)
def bDu {m:Int}{F:(Int×Int×Int->Option Int)->Int×Int×Int->Option Int}(a:∀rec (b n s:Int),0<=n->n<9223372036854775807->F rec (b,n,s)=bif decide (n>0) then rec ((IntKind.i64.wrap (b*b)).tmod m,n/2,bif n%2==1 then(IntKind.i64.wrap (s*b)).tmod m else s) else some s):
  ∀(k:Nat) (b n s:Int) (f:Nat),k<f->0<=n->n<2^k->k<=62->bT f F (b,n,s)=some (aHg m k b n s)
 |0,b,n,s,f+1,c,h0,h1,hk=>by
  have:n=0:=by simp at h1;omega
  subst this;rw[iZ,a _ _ _ _ (by omega) (by omega)];rfl
 |k+1,b,n,s,f+1,c,h0,h1,hk=>by
  have h2:(2:Int)^(k+1)=2*2^k:=by rw[fc];omega
  have d:n<2^62:=Int.lt_of_lt_of_le h1 (by exact_mod_cast io (by omega) hk);rw[iZ,a _ _ _ _ h0 (by omega)];unfold aHg;by_cases hn:n>0
  ·rw[ak hn,ac,cQ hn];exact bDu a k _ (n/2) _ f (by omega) (by omega) (by omega) (by omega)
  ·rw[ao hn,aa,dk hn]
def bW8:((2039:Int)≠0)=True:=by simp
def aD8 (b n:Int)(h:0<=n/\n<2048):sS b n=some (aHg 2039 11 b n 1):=by unfold sS;rw[bDu (m:=2039) (λrec b n s h0 h1=>by simp only[show oQ .i64 n 1=n%2 from and_one h0 (by omega),show Gt .i64 n 1=n/2 from bHg h0,bW8,gd_T,lN,bd_s,aB (show(0:Int)<=1 by decide)]) 11 b n 1 FUEL (by have:=gW;omega) h.1 (by have:=h.2;omega) (by omega)];rfl
def Qj (x:Int):uG x=some (Da x):=by unfold uG Da;rw[aD8 _ _ (by decide)];cases bI x 1 2038<;>rfl
def aMw (g n:Int):Ou g n=some (pR g n):=by unfold Ou pR;have hr:=uY (p:=n) (q:=1019) (by decide);rw[aD8 _ _ ⟨hr.1,by omega⟩];cases Da g<;>rfl
def Y5 (a b:Int):Bc a b=some (Yk a b):=by unfold Bc;rw[aB (by simp),bd_s,aB (by decide),aB (by decide)];rfl
def p9 (a b c:Int):Zj a b c=some (Yl a b c):=rfl
def aI2 (a b:Int):Iz a b=some (zH a b):=by
 unfold Iz zH;rw[aB (by simp),bd_s];have h:=(mK a [157,b]).1;generalize bP a [157,b]=n at h ⊢;unfold aZs kF;by_cases h1:n>1
 ·rw[ak h1,show(n==0)=false by simp;omega];rfl
 ·rw[ao h1];by_cases h2:n=0
  ·subst h2;rfl
  ·have:n=1:=by omega
   subst this;rfl
def aD9 (a b:Int):Eo a b=some (Mq a b):=by unfold Eo;rw[aB (by simp)];rfl
def aSj (a b:Int):Uq a b=some (aQa a b):=by unfold Uq aQa;rw[aB (by simp)];cases bI a 0 2147483647<;>rfl
def aI3 (k:AZ):aHy k=some (Dx k):=rfl
def bGa {c n:Int}{l:List Int}(hn:1<=n/\n<=7)(hl:l.length<=34359738368){F:(List AU×Int->Option (List AU))->List AU×Int->Option (List AU)}(a:∀rec (s:List AU) (i:Int),1<=i->i<=8->s.length<=8->F rec (s,i)=bif decide (i<=n) then rec (s++[⟨i,Sk c l i⟩],i+1) else some s):EV.bT FUEL F ([],1)=some ((List.range n.toNat).map λ(i:Nat)=>(⟨(i:Int)+1,Sk c l ((i:Int)+1)⟩:AU)):=
 vP (λi=>((List.range i).map λ(i:Nat)=>(⟨(i:Int)+1,Sk c l ((i:Int)+1)⟩:AU),(i:Int)+1)) n.toNat (by omega) (λrec i hi=>by
  rw[a rec _ _ (by omega) (by omega) (by simp;omega),ak (by omega),ac,fi,cX];rfl) (λrec=>by
  rw[a rec _ _ (by omega) (by omega) (by simp;omega),ao (by omega),aa]) rfl
def Y6 (c:Int)(l:List Int)(n:Int)(h:l.length<=34359738368):Bb c l n=some (xG c l n):=by
 unfold Bb xG;cases h1:bI n 1 7 with
 |false=>rfl
 |true=>
  have hn:=iA h1;rw[bGa (c:=c) hn h (λrec s i h0 h1 h2=>by
   simp only[aB (show(0:Int)<=i/\i<=1000/\l.length<=34359738368 from⟨by omega,by omega,h⟩),bd_s,aB (show aV s [AU.mk i (Sk c l i)] by unfold aV;simp;omega),aJ (show-9223372036854775808<=i+1 by omega) (show i+1<=9223372036854775807 by omega)])]
  by_cases h2:(l.length:Int)<n
  ·rw[ak h2,ao (show ¬(l.length:Int)>=n by omega)];rfl
  ·rw[ao h2,ak (show(l.length:Int)>=n by omega)];rfl
def aI4 (pin salt key sec:Int)(cs:List Int)(n lim:Int)(h:cs.length<=34359738368):Ja pin salt key sec cs n lim=some (Mr pin salt key sec cs n lim):=by
 unfold Ja Mr aOd;simp only[aB h,bd_s];have hl:=aX8 sec cs n;generalize xG sec cs n=l at hl ⊢;cases bI pin 0 9999 with
 |false=>rfl
 |true=>
 cases bI salt 0 1000000 with
 |false=>rfl
 |true=>
 cases bK key with
 |false=>rfl
 |true=>
 cases dW sec 1019==0 with
 |true=>rfl
 |false=>
 cases bI lim 1 10 with
 |false=>rfl
 |true=>
 rw[bU1 (l:=l) (λs=>Dx ⟨s,0,0,lim⟩) (by omega) (λrec i s hi hs=>by
  have a:∀x:AG,aV s [x]:=λx=>by unfold aV;simp;omega
  simp only[cK hi,ac,aN hi,bd_s,aB (a _)];rfl) (λrec s=>by simp only[dJ,aa])]
 cases l with
 |nil=>rfl
 |cons x l=>
  have e:(((x::l).length:Int)==0)=false:=by simp;omega
  have b:((x::l).length==0)=false:=by simp
  rw[e,b];rfl
def aMx (l:List AF)(b:AN)(h:l.length<=34359738368/\b.sz<=34359738368):Oi l b=some (fO l b):=by
 unfold Oi fO;have hb:b.Boxes.length<=34359738368:=by have:=h.2;simp only[AN.sz] at this;omega
 simp only[aB h.1,aB h.2,aB (show b.Boxes.length<=34359738368/\l.length<=34359738368 from⟨hb,h.1⟩),bd_s];cases aY l<;>cases jT b l<;>rfl
def bDv (s:AC)(id m:Int):(qG s id m).sz=s.sz+1:=by
 have e:(s.Accounts.map AJ.sz).sum=((s.Accounts.take (sN id s.Accounts)).map AJ.sz).sum+((s.Accounts.drop (sN id s.Accounts)).map AJ.sz).sum:=by rw[<-fR,<-cX,cJ]
 have el:(s.Accounts.take (sN id s.Accounts)).length+(s.Accounts.drop (sN id s.Accounts)).length=s.Accounts.length:=by rw[<-ax,cJ]
 simp only[qG,AC.sz,ax,cX,fR,au,bl,bo,eJ,de,gv,AJ.sz] at e el ⊢;omega
def bLc {l:List AJ}{id:Int}{F:(Int->Option Int)->Int->Option Int}(hl:l.length<=34359738368)(b:∀rec (i:Nat) (hi:i<l.length),F rec (i:Int)=bif decide (l[i].Id<id) then rec ((i+1:Nat):Int) else some (i:Int))(c:∀rec,F rec (l.length:Int)=some (l.length:Int)):EV.bT FUEL F 0=some (sN id l:Int):=
 aX3 (λa:AJ=>decide (a.Id<id)) (λi=>some (i:Int)) (λi=>(i:Int)) hl b c
def bPm (id:Int)(l:List AJ):sN id l<=l.length:=Su
def Y7 (s:AC)(id m:Int)(h:s.sz<=34359738300):Aq s id m=some (oJ s id m):=by
 unfold Aq oJ;have hl:s.Accounts.length<=s.sz:=by simp only[AC.sz];omega
 have hk:=bPm id s.Accounts;have a:∀(x y:List AJ),x.length+y.length<=34359738400->aV x y:=λx y h=>by unfold aV;omega
 have hs:s.sz<=34359738368:=by omega
 have h1:=bDv s id m;rw[aB hs,bd_s,bLc (id:=id) (l:=s.Accounts) (by omega) (λrec i hi=>by simp only[cK hi,ac,aN hi,bd_s,aJ (show-9223372036854775808<=(i:Int)+1 by omega) (show(i:Int)+1<=9223372036854775807 by omega)];rfl) (λrec=>by simp only[dJ,aa,bd_s]),bd_s];have b:lU s.Accounts (sN id s.Accounts:Int):=⟨by omega,by omega⟩;have he:(List.take (sN id s.Accounts) s.Accounts).length+(List.drop (sN id s.Accounts) s.Accounts).length=s.Accounts.length:=by rw[<-ax,cJ]
 have ht:(List.take (sN id s.Accounts) s.Accounts).length<=s.Accounts.length:=by omega
 have hd:(List.drop (sN id s.Accounts) s.Accounts).length<=s.Accounts.length:=by omega
 rw[bq,aB b,aB b,aB (a _ _ (by simp only[bl];omega)),aB (a _ _ (by simp only[bu,au,bl];omega)),aB (a _ _ (by simp only[bu,ax,au,bl];omega)),aB hs,bd_s,bu];rw[show(AC.mk s.Name (List.take (sN id s.Accounts) s.Accounts++[AJ.mk id m []]++List.drop (sN id s.Accounts) s.Accounts) s.Book s.Logins)=qG s id m from rfl,aB (show(qG s id m).sz<=34359738368 by omega)];cases dI s<;>cases dI (qG s id m)<;>rfl
def bSf {α:Type}{x y:List α}(h:x.length<=1000)(a:y.length<=1000):aV x y:=by unfold aV;omega
def Vw (seed:Int)(n:Nat):(dR seed n).length=n:=by simp[dR]
def aEa (seed:Int)(n:Nat):dR seed (n+1)=dR seed n++[bG (aO seed (n:Int))]:=by simp[dR,fi]
def bLd (seed:Int)(n:Nat):bA (dR seed (n+1)) 0=some (bG (aO seed 0)):=by rw[show(0:Int)=((0:Nat):Int) from rfl,aN (by rw[Vw];omega)];simp[dR]
def bAg (seed:Int)(n:Nat)(h:1<=n):dR seed n=bG (aO seed 0)::(dR seed n).drop 1:=by obtain⟨m,rfl⟩:∃m,n=m+1:=⟨n-1,by omega⟩;simp[dR,List.range_succ_eq_map]
abbrev sT (s:AC):ByteArray×List AJ×Int×Int×List A3×List Int:=(s.Name,s.Accounts,s.Book.Seed,s.Book.Next,s.Book.Open,s.Logins)
def aEb (nm:ByteArray):∀(l:List AD) (k:Nat) (d:AD) (s:AC),wC nm k (l++[d]) s=(gD (wC nm k l s) 1 ((k+l.length:Nat):Int) (fC d.Store nm ((k+l.length:Nat):Int))).1
 |[],k,d,s=>rfl
 |x::l,k,d,s=>by
  rw[cN];show wC nm (k+1) (l++[d]) _=_;rw[aEb nm l (k+1) d,au,show k+1+l.length=k+(l.length+1) by omega];rfl
def bLe {nm:ByteArray}{l:List AD}{s0:AC}(hl:l.length<=3)(hs:s0.sz<=1000){F:(Nat×ByteArray×List AJ×Int×Int×List A3×List Int->Option (ByteArray×List AJ×Int×Int×List A3×List Int))->Nat×ByteArray×List AJ×Int×Int×List A3×List Int->Option (ByteArray×List AJ×Int×Int×List A3×List Int)}
  (a:∀rec (i:Nat) (hi:i<l.length) (s:AC),s.sz<=2000->F rec (i,sT s)=rec (i+1,sT (gD s 1 (i:Int) (fC l[i].Store nm (i:Int))).1)) (b:∀rec s,F rec (l.length,sT s)=some (sT s)):EV.bT FUEL F (0,sT s0)=some (sT (wC nm 0 l s0)):=
 vP (λi=>(i,sT (wC nm 0 (l.take i) s0))) l.length (by omega) (λrec i hi=>by
  have h1:=Q8 nm 0 (l.take i) s0;have h2:(l.take i).length=i:=by rw[bv];omega
  rw[a rec i hi _ (by omega),gb hi,aEb,h2,cj]) (λrec=>by rw[b,dw (ai _)]) rfl
def bDw {α:Type}{p r:List α}{s:α}:bA (p++s::r) ((p.length:Nat):Int)=some s:=by rw[aN (by simp)];simp
def bPn {α ι:Type}(e:Nat->ι){p0 l:List α}(f:α->α){F:(ι×List α->Option (List α))->ι×List α->Option (List α)}(hl:l.length<=1000)
  (a:∀rec (p:List α) (d:α) (r:List α),p.length+1+r.length=p0.length+l.length->d∈l->F rec (e p.length,p++d::r)=rec (e (p.length+1),p++f d::r)) (b:∀rec (p:List α),p.length=p0.length+l.length->F rec (e (p0.length+l.length),p)=some p):EV.bT FUEL F (e p0.length,p0++l)=some (p0++l.map f):=
 vP (λi=>(e (p0.length+i),p0++(l.take i).map f++l.drop i)) l.length (by omega) (λrec i hi=>by
  have h2:(p0++(l.take i).map f).length=p0.length+i:=by rw[ax,bg,bv];omega
  have h:(l.drop (i+1)).length=l.length-(i+1):=cz;have c:l.drop i=l[i]::l.drop (i+1):=co hi;have:=a rec (p0++(l.take i).map f) l[i] (l.drop (i+1)) (by omega) (cb hi);rw[h2,<-c] at this;show F rec (e (p0.length+i),p0++(l.take i).map f++l.drop i)=_;rw[this,gb hi,cX,List.map_singleton];simp only[cq,fj,gm]) (λrec=>by
  rw[dw (ai _),List.drop_of_length_le (ai _),cY];exact b rec _ (by rw[ax,bg])) (by simp)
def aSk (n:Nat)(d:AD):Nat->AD
 |0=>d
 |j+1=>Ic (aA (j:Int)) n (aSk n d j)
def Vx (j:Int):(aA j).size<=100:=by unfold aA;cases j==0<;>cases j==1<;>decide
def bLf {nm:ByteArray}{n:Nat}{d:AD}{r:List AD}(hn:n<=3)(hd:d.sz<=100){F:(Nat×List AD->Option (List AD))->Nat×List AD->Option (List AD)}
  (a:∀rec (i:Nat) (x:AD),i<n->x.sz<=1000->F rec (i,x::r)=rec (i+1,(dO x nm (i:Int) false).1::r)) (b:∀rec x,F rec (n,x::r)=some (x::r)):EV.bT FUEL F (0,d::r)=some (Ic nm n d::r):=
 vP (λi=>(i,Ic nm i d::r)) n (by omega) (λrec i hi=>by
  have h1:=aCx nm i d;rw[a rec i _ hi (by omega)];rfl) (λrec=>b rec _) rfl
def bLg {n:Nat}{d:AD}{r:List AD}{F:(Nat×List AD->Option (List AD))->Nat×List AD->Option (List AD)}(hn:n<=3)(hd:d.sz<=10)
  (a:∀rec (j:Nat) (x:AD),j<2->x.sz<=100->F rec (j,x::r)=rec (j+1,Ic (aA (j:Int)) n x::r)) (b:∀rec x,F rec (2,x::r)=some (x::r)):EV.bT FUEL F (0,d::r)=some (aSk n d 2::r):=
 vP (λj=>(j,aSk n d j::r)) 2 (by omega) (λrec j c=>by
  have h1:∀j:Nat,(aSk n d j).sz<=d.sz+j*n:=by
   intro j;induction j with
   |zero=>exact cM _ _
   |succ j e=>have:=aCx (aA (j:Int)) n (aSk n d j);show(Ic (aA (j:Int)) n (aSk n d j)).sz<=_;rw[di];omega
  have h2:=h1 j;have f:j*n<=2*3:=ip (by omega) hn;rw[a rec j _ c (by omega)];rfl) (λrec=>b rec _) rfl
def bGb {seed t:Int}(ht:1<=t/\t<=7){F:(List Int×Int->Option (List Int))->List Int×Int->Option (List Int)}(a:∀rec (s:List Int) (i:Int),1<=i->i<=8->s.length<=8->F rec (s,i)=bif decide (i<t) then rec (s++[aZ seed [307,i]],i+1) else some s):EV.bT FUEL F ([],1)=some (Q7 seed t):=
 vP (λi=>((List.range i).map λ(k:Nat)=>aZ seed [307,(k:Int)+1],(i:Int)+1)) (t-1).toNat (by omega) (λrec i hi=>by
  rw[a rec _ _ (by omega) (by omega) (by simp;omega),ak (by omega),ac,fi,cX];rfl) (λrec=>by
  rw[a rec _ _ (by omega) (by omega) (by simp;omega),ao (by omega),aa];rfl) rfl
def bIl (s:AC):AC.mk s.Name s.Accounts (AP.mk s.Book.Seed s.Book.Next s.Book.Open) s.Logins=s:=rfl
def bVp (s:AK):AD.mk s [] (0:Int) (0:Int) (0:Int) (AB.mk [])=bG s:=rfl
def bW9 (seed:Int)(i:Nat):AK.mk (1:Int) (i:Int) (aZ seed [277,(i:Int)]) (0:Int)=aO seed (i:Int):=rfl
def aMy (n k t pin seed:Int):Ov n k t pin seed=some (bY n k t pin seed):=by
 unfold Ov bY Tc;cases h1:bI n 1 3 with
 |false=>rfl
 |true=>
 cases h2:bI k 1 7 with
 |false=>rfl
 |true=>
 cases A:bI t 1 k with
 |false=>rfl
 |true=>
 cases L:bI pin 0 9999 with
 |false=>rfl
 |true=>
 cases M:bK seed with
 |false=>rfl
 |true=>
 have hn:=iA h1;have hk:=iA h2;have ht:=iA A;obtain⟨N,rfl⟩:∃N:Nat,n=(N:Int):=⟨n.toNat,by omega⟩;rw[bq];have f:1<=N/\N<=3:=by omega
 have O:=qQ seed N;have Q:=aQd seed N;have S:=aQe seed N;simp only[ay,aa,du,ac,bd_s,bVp,bW9];rw[vP (r:=(aU seed N,dR seed N,List.replicate N false)) (λi=>(aU seed i,i,dR seed i,List.replicate i false)) N (s:=([],0,[],[])) (by omega) (λrec i hi=>by
  have u:=bLd seed i;have T:=qQ seed i;have V:=Vw seed i;rw[aEa] at u;simp only[cK hi,ac,aB (show aV (dR seed i) [bG (aO seed (i:Int))] from bSf (by omega) (by simp)),aB (show aV (List.replicate i false) [false] from bSf (by rw[fm];omega) (by simp)),u,bd_s,aB (show(aU seed i).length<=34359738300 by omega),aEa,List.replicate_succ'];rfl) (λrec=>by simp only[dJ,aa]) rfl]
 have B:(bJ (aU seed N) (bX seed 0) 1000).1=iL seed N:=rfl;simp only[bd_s,aB (show(aU seed N).length<=34359738300 by omega),B,aB (show(aU seed N).length<=34359738368/\(iL seed N).sz<=34359738368 from⟨by omega,by omega⟩)];have v:=Vw seed N;rw[vP (r:=Ad (dR seed N) seed) (λj=>((Ad (dR seed N) seed).take j,j)) 2 (s:=([],0)) (by omega) (λrec j D=>by
  have hs:=Vx (j:Int);have W:=aLi (aA (j:Int)) (aZ seed [281,(j:Int)]);have X:=aQf (iH (aA (j:Int)) (aZ seed [281,(j:Int)])) 1 3;simp only[ak (show(j:Int)<2 by omega),ac,aB (show[281,(j:Int)].length<=34359738300 by simp),bd_s,aB (show(aA (j:Int)).size<=34359738368 by omega),aB (show(iH (aA (j:Int)) (aZ seed [281,(j:Int)])).sz<=34359738300 by omega)];rw[bLe (nm:=aA (j:Int)) (l:=dR seed N) (s0:=(oJ (iH (aA (j:Int)) (aZ seed [281,(j:Int)])) 1 3).1) (by omega) (by omega) (λrec i hi s hsz=>by
   simp only[cK hi,ac,aN hi,bd_s,aB (show(aA (j:Int)).size<=34359738300 by omega),bIl,aB (show s.sz<=34359738300 by omega)]) (λrec s=>by simp only[dJ,aa])]
  have F:((Ad (dR seed N) seed).take j).length<=1000:=by rw[bv];omega
  have h:∀x:AC,aV ((Ad (dR seed N) seed).take j) [x]:=λx=>bSf F (by simp);simp only[bd_s,bIl,aB (h _)];have m:j=0\/j=1:=by omega
  rcases m with rfl|rfl<;>rfl) (λrec=>by rfl) rfl]
 simp only[bd_s];have a:∀d∈dR seed N,d.sz=0:=λd hd=>by
  simp only[dR,cg] at hd;obtain⟨i,_,rfl⟩:=hd;rfl
 rw[show(0,dR seed N)=((λi:Nat=>i) ([]:List AD).length,([]:List AD)++dR seed N) from rfl,bPn (λi:Nat=>i) (p0:=[]) (l:=dR seed N) (xH seed N) (by omega) (λrec p d r hp hd=>by
  have h0:=a d hd;simp only[bl] at hp;simp only[cK (show p.length<N by omega),ac,bDw,bd_s,aB (show d.sz<=34359738368/\(aU seed N).length<=34359738368 from⟨by omega,by omega⟩),bq,set_mid rfl,cq,fj];rfl) (λrec p hp=>by
  simp only[bl,v,cj,dJ,aa])]
 obtain⟨R,c⟩:∃R,R=((dR seed N).drop 1).map (xH seed N):=⟨_,rfl⟩;have hm:(dR seed N).map (xH seed N)=xH seed N (bG (aO seed 0))::R:=by have:=congrArg (List.map (xH seed N)) (bAg seed N f.1);rw[this,c];rfl
 have G:R.length=N-1:=by rw[c,bg,cz,v]
 have o:∀d∈R,d.sz<=10:=λd hd=>by
  rw[c,cg] at hd;obtain⟨x,e,rfl⟩:=hd;have h0:=a x (dq e);have:=aOf seed N x;omega
 have H:=aOf seed N (bG (aO seed 0));rw[aHh] at H;have hq:∀x:AD,bA (x::R) 0=some x:=λx=>rfl;rw[bu,hm,bd_s,bLg (n:=N) (d:=xH seed N (bG (aO seed 0))) (r:=R) f.2 (by omega) (λrec j x D e=>by
  simp only[ak (show(j:Int)<2 by omega),ac];rw[bLf (nm:=aA (j:Int)) (n:=N) (d:=x) (r:=R) f.2 e (λrec i x hi e=>by
   have hs:=Vx (j:Int);simp only[cK hi,ac,hq,bd_s,aB (show x.sz<=34359738360/\(aA (j:Int)).size<=34359738300 from⟨by omega,by omega⟩)];rfl) (λrec x=>by simp only[dJ,aa])]
  simp only[bd_s]) (λrec x=>by rfl)]
 have I:aSk N (xH seed N (bG (aO seed 0))) 2=lT seed N:=rfl;have w:cB (lT seed N)=nwW seed N:=rfl;have hc:(bZ (fO (aU seed N) (iL seed N)).1 (nwW seed N).2.1).1=jI seed N:=rfl;have Z:=aQc seed N;have z:=zM (lT seed N);rw[w] at z;have J:=aLh (aU seed N) (iL seed N);have b:∀x y:AD,(x::R).set (0:Int).toNat y=y::R:=λ_ _=>rfl;simp only[bd_s,I,hq,aB (show(lT seed N).sz<=34359738368 by omega),w,aB (show(fO (aU seed N) (iL seed N)).1.sz<=34359738300/\(nwW seed N).2.1.sz<=34359738300 from⟨by omega,by have:=z.2;simp only[AI.sz];omega⟩),hc,b];rw[show((1:Int),(nwW seed N).1::R)=((λi:Nat=>(i:Int)) ([(nwW seed N).1]:List AD).length,[(nwW seed N).1]++R) from rfl,bPn (λi:Nat=>(i:Int)) (p0:=[(nwW seed N).1]) (l:=R) (λd=>(bR d (jI seed N).Log (jI seed N).Boxes (eZ (jI seed N) 0).1).1) (by omega) (λrec p d r hp hd=>by
  have h0:=o d hd;simp only[au,bl] at hp;simp only[cK (show p.length<N by omega),ac,bDw,bd_s,aB (show d.sz<=34359738100/\(jI seed N).sz<=34359738100 from⟨by omega,by omega⟩),bq,set_mid rfl,cq,fj,aJ (show-9223372036854775808<=(p.length:Int)+1 by omega) (show(p.length:Int)+1<=9223372036854775807 by omega)];rfl) (λrec p hp=>by
  simp only[show([(nwW seed N).1]:List AD).length+R.length=N by simp only[au,bl];omega,dJ,aa])]
 have K:[(nwW seed N).1]++R.map (λd=>(bR d (jI seed N).Log (jI seed N).Boxes (eZ (jI seed N) 0).1).1)=jZ seed N:=by rw[c,ib];show(nwW seed N).1::_=(nwW seed N).1::_;congr 1;exact gt λd _=>bRf seed N d
 rw[K];simp only[bd_s];rw[bGb (seed:=seed) (t:=t) ⟨by omega,by omega⟩ (λrec s i h0 h1 h2=>by
  have h:∀x:Int,aV s [x]:=λx=>bSf (by omega) (by simp);simp only[aB (show([307,i]:List Int).length<=34359738300 by simp),bd_s,aB (h _),aJ (show-9223372036854775808<=i+1 by omega) (show i+1<=9223372036854775807 by omega)])]
 have q:(Q7 seed t).length<=34359738368:=by simp only[Q7,bg,fo];omega
 simp only[bd_s,aB (show([283]:List Int).length<=34359738300 by simp),aB (show([293]:List Int).length<=34359738300 by simp),aB (show(1018:Int)≠0 by decide),aB q];rfl
def aEc (a b c:Int):Ey a b c=some (Af a b c):=by unfold Ey Af;cases dW c 1019==0<;>rfl
def Vy (s:AU)(e:Int):wY s e=some (Ym s e):=by unfold wY Ym;cases Da e<;>cases e==1<;>cases bI s.Value 0 1018<;>rfl
def aI5 (k:AZ)(e:Int):Jg k e=some (nH k e):=by unfold Jg nH;cases jY k<;>cases k.Guesses==k.Limit<;>cases Da e<;>cases e==1<;>rfl
def aMz (a b:Int):Pf a b=some (aHj a b):=by unfold Pf aHj;rw[aB (show(2039:Int)≠0 by decide)];cases Da a<;>cases Da b<;>rfl
def aI6 (v:A4)(o:Int):Jh v o=some (aQg v o):=by unfold Jh aQg;rw[bne];cases Mq o v.Salt==v.Check<;>rfl
def Nl (n:Int):sU n=some (Od n):=by
 have hr:=uY (p:=n) (q:=1019) (by decide);have hp:∀m:Int,0<=m->m<1019->((IntKind.i64.wrap (dW n 1019*m)).tmod 1019==1)=((dW n 1019*m)%1019==1):=λm h0 h1=>by
  have h2:0<=dW n 1019*m:=iv hr.1 h0;have d:dW n 1019*m<=1019*1019:=Int.mul_le_mul (by omega) (by omega) h0 (by omega);rw[aJ (by omega) (by omega),cr h2]
 have step:∀m:Int,1<=m->m<1019->IntKind.i64.wrap (m+1)=m+1:=λm _ _=>aJ (by omega) (by omega);unfold sU Od;cases b:dW n 1019==0 with
 |true=>
  have h0:=eq_of_beq b;rw[Gw (s:=(1:Int)) (λi (s:Int)=>s=(i:Int)+1) 1018 (some (.inr ())) (by omega) (by show(1:Int)=((0:Nat):Int)+1;rfl) (λi s rec hi hv=> ?_) (λs rec hv=> ?_)]
  ·rfl
  ·left;have hv:s=(i:Int)+1:=hv;subst hv;refine⟨_,rfl,?_⟩;rw[ak (show(i:Int)+1<1019 by omega),ac,aB (by decide),hp _ (by omega) (by omega),h0,Int.zero_mul,step _ (by omega) (by omega)];rfl
  ·have hv:s=(1018:Nat)+1:=hv;subst hv;rfl
 |false=>
  have h0:0<dW n 1019:=by have:=cf.1 b;omega
  obtain⟨c,e,f⟩:=bU6 h0 hr.2;generalize aHg 1019 11 (dW n 1019) 1017 1=a at*;rw[Gw (s:=(1:Int)) (λi (s:Int)=>s=(i:Int)+1/\(i:Int)+1<=a) 1018 (some (.inl a)) (by omega) ⟨by show(1:Int)=((0:Nat):Int)+1;rfl,by omega⟩ (λi s rec hi hv=> ?_) (λs rec hv=> ?_)]
  ·rfl
  ·obtain⟨rfl,hv⟩:=hv;rw[ak (show(i:Int)+1<1019 by omega),ac,aB (by decide),hp _ (by omega) (by omega)];by_cases hm:(i:Int)+1=a
   ·right;rw[hm,c];rfl
   ·left;refine⟨_,⟨rfl,by omega⟩,?_⟩;rw[cf.2 (λh=>hm (bN5 (by omega) (by omega) h c)),aa,step _ (by omega) (by omega)];rfl
  ·obtain⟨rfl,hv⟩:=hv;omega
def q9 (a b:Int):yD a b=some (bCo a b):=by unfold yD bCo;cases dW b 1019==0<;>rfl
def aSl {σ:Type}(g:σ->Nat->σ)(s:σ)(i:Nat):(List.range (i+1)).foldl g s=g ((List.range i).foldl g s) i:=by rw[fi,fp];rfl
def getD_at {l:List Int}{i:Nat}(h:i<l.length):l.getD i 0=l[i]:=by simp[List.getD,ae h]
def bLh {l:List Int}{i:Int}(h0:0<=i)(h1:i<(l.length:Int)):bA l i=some (l.getD i.toNat 0):=by rw[qH h0 (by omega)];simp[List.getD,ae (show i.toNat<l.length by omega)]
def Qk (l:List Int)(k a:Int)(hl:l.length<=34359738368):uL l k a=some (bKc l k a):=by
 unfold uL bKc;rw[aCl hl];cases hk:(decide (k<0)||decide (k>=(l.length:Int))) with
 |true=>rfl
 |false=>
  have b:=Ml hk;rw[aa,cu];rw[Gw (τ:=Int⊕Int) (s:=((1:Int),(0:Nat))) (λi (s:Int×Nat)=>i<=l.length/\s=((List.range i).foldl (bRg l k a) 1,i)/\gM (aUr (λq=>dW q 1019) l) 0 (l.take i)=false) l.length
   (some (bif gM (aUr (λq=>dW q 1019) l) 0 l then .inl 0 else .inr ((List.range l.length).foldl (bRg l k a) 1))) (by omega) ⟨cy _,rfl,rfl⟩ (λi s rec hi hv=> ?_) (λs rec hv=> ?_)]
  ·cases gM (aUr (λq=>dW q 1019) l) 0 l<;>rfl
  ·obtain⟨_,rfl,hv⟩:=hv;simp only[cK hi,ac];rw[aQh (f:=λq=>dW q 1019) hi (by omega) (.inl (.inl (.inl 0))) (.inr ()) (λrec' j c=>by
    simp only[cK c,ac,aN (show j<l.length by omega),aN hi,bd_s]) (λrec'=>by simp only[dJ,aa])]
   cases hd:aUr (λq=>dW q 1019) l i l[i] with
   |true=>right;rw[bU5 hi hd];rfl
   |false=>
    left;refine⟨_,⟨hi,rfl,bN4 hi hv hd⟩,?_⟩;rw[aSl];unfold bRg;simp only[aa,nx_r,bne];cases he:((i:Int)==k) with
    |true=>rfl
    |false=>simp only[db,ac,aa,aN hi,bLh b.1 b.2,bd_s,aB (show(1019:Int)≠0 by decide),getD_at hi];rw[show Od (dW (IntKind.i64.wrap (dW (l.getD k.toNat 0) 1019-dW l[i] 1019)) 1019)=Od (IntKind.i64.wrap (dW (l.getD k.toNat 0) 1019-dW l[i] 1019)) from bKd (by rw[bN6,bN6];omega)];rfl
  ·obtain⟨_,rfl,hv⟩:=hv;simp only[dJ,aa];rw[dg] at hv;rw[hv];rfl
def bXa (a b:Nat):((a:Int)==(b:Int))=(a==b):=by rw[en];simp only[cH];omega
def Dc (ix vs:List Int)(h:ix.length<=34359738368/\vs.length<=34359738368):pK ix vs=some (aCz ix vs):=by
 unfold pK aCz;rw[show((ix.length:Int) !=(vs.length:Int))= !(ix.length==vs.length) by rw[bne,bXa],rE,bd_s,show((ix.length:Int)==0)=(ix.length==0) by rw[show(0:Int)=((0:Nat):Int) from rfl,bXa]];cases hc:(!(ix.length==vs.length)||ix.length==0) with
 |true=>rfl
 |false=>
  simp only[bn,cL,cH,cf] at hc;have hlen:=hc.1;rw[aa,cu];rw[iD (l:=ix) (aOg ix vs) (.inl ((0:Int),false)) (.inr ()) (by omega) (λrec i hi=>by
   simp only[cK hi,ac,aN hi,aN (show i<vs.length by omega),bd_s,rE];unfold aOg;rw[getD_at (show i<vs.length by omega)];cases bI ix[i] 1 7 with
   |false=>rfl
   |true=>
    cases Da (vs[i]'(by omega)) with
    |false=>rfl
    |true=>
     simp only[ay,Bool.or_self,aa,cu];rw[aQh (f:=λq=>q) hi (by omega) (.inl (.inl ((0:Int),false))) (.inr ()) (λrec' j a=>by
      simp only[cK a,ac,aN (show j<ix.length by omega),bd_s]) (λrec'=>by simp only[dJ,aa])]
     cases aUr (λq=>q) ix i ix[i]<;>rfl) (λrec=>by simp only[dJ,aa])]
  cases gM (aOg ix vs) 0 ix with
  |true=>rfl
  |false=>
   simp only[aa,nx_r];rw[Gw (τ:=Int) (s:=((1:Int),(0:Nat))) (λi (s:Int×Nat)=>s=((List.range i).foldl (λo i=>aHj o (pR (vs.getD i 0) (bKc ix (i:Int) 0))) 1,i)) ix.length (some (bN2 ix vs)) (by omega) rfl (λi s rec hi hv=> ?_) (λs rec hv=> ?_)]
   ·rfl
   ·left;subst hv;refine⟨_,rfl,?_⟩;rw[aSl];simp only[cK hi,ac,aN (show i<vs.length by omega),bd_s,aB h.1,getD_at (show i<vs.length by omega)]
   ·subst hv;simp only[dJ,aa];unfold bN2;rw[hlen]
def aI7 (hs:List AG)(a:List Int)(h:hs.length<=34359738368/\a.length<=34359738368):Je hs a=some (mV hs a):=by
 unfold Je mV;rw[iD (l:=a) (aHi hs a) (.inl false) (.inr ()) (by omega) (λrec i hi=>by
  simp only[cK hi,ac,aN hi,bd_s];rw[aCl h.1];unfold aHi;cases(decide (a[i]<0)||decide (a[i]>=(hs.length:Int))) with
  |true=>rfl
  |false=>
   simp only[aa,cu];rw[aQh (f:=λq=>q) hi (by omega) (.inl (.inl false)) (.inr ()) (λrec' j b=>by
    simp only[cK b,ac,aN (show j<a.length by omega),bd_s]) (λrec'=>by simp only[dJ,aa])]
   cases aUr (λq=>q) a i a[i]<;>rfl) (λrec=>by simp only[dJ,aa])]
 cases gM (aHi hs a) 0 a<;>rfl
def aVc (hs:List AG)(a:List Int)(e:Int)(h:(Cy AG.sz hs<=34000000000/\a.length<=100000000)/\mV hs a=true):M0 hs a e=some (qK hs a e):=by
 obtain⟨⟨h1,h2⟩,b⟩:=h;unfold M0;rw[aB (show Cy AG.sz hs<=34359738368 by omega),bd_s];rw[Gw (τ:=List Int×List Int×List AG) (s:=(([]:List Int),([]:List Int),(0:Nat),hs)) (λi (s:List Int×List Int×Nat×List AG)=>s=((Dy e hs a i).2.1,(Dy e hs a i).2.2,i,(Dy e hs a i).1)) a.length
  (some ((qK hs a e).2.1,(qK hs a e).2.2,(qK hs a e).1)) (by omega) rfl (λi s rec hi hv=> ?_) (λs rec hv=> ?_)]
 ·rfl
 ·left;subst hv;refine⟨_,rfl,?_⟩;have c:=aQi (e:=e) b i (by omega);have hc:=aHk b hi;rw[Q9 hi];generalize Dy e hs a i=s at*;obtain⟨q1,q2,q3,q4⟩:=c;have hk:a[i].toNat<s.1.length:=by omega
  have hg:s.1.getD a[i].toNat default=s.1[a[i].toNat]:=by simp[List.getD,ae hk]
  have d:bA s.1 a[i]=some s.1[a[i].toNat]:=qH hc.1 hk;have l:=q2 _ (cb hk);have f:=l;simp only[AG.sz] at f;simp only[cK hi,ac,aN hi,bd_s,d];unfold bFh Oc;rw[hg];generalize s.1[a[i].toNat]=x at*;simp only[rE,bd_s];cases hb:(decide (kQ x.State<x.Monotonic)|| !(nH x.State e).2.2) with
  |true=>simp only[ac,aa,aB (show x.sz<=34359738368 by omega),bd_s]
  |false=>
   simp only[aa,ac,bu];rw[aB (show aV ([]:List AZ) x.Saved by unfold aV;simp only[bl];omega),aB (show aV x.Saved [x.State] by unfold aV;simp only[au,bl];omega)];have j:∀y:Int,aV s.2.1 [y]:=λy=>by unfold aV;simp only[au,bl];omega
   have k:∀y:Int,aV s.2.2 [y]:=λy=>by unfold aV;simp only[au,bl];omega
   unfold bN1;cases hd:decide (((x.Saved++[x.State]).length:Int)>30) with
   |false=>simp only[aa,aB (j _),aB (k _),bd_s]
   |true=>have:=of_decide_eq_true hd;simp only[ac,aB (show lU (x.Saved++[x.State]) 1 from⟨by omega,by omega⟩),aB (j _),aB (k _),bd_s];rfl
 ·subst hv;simp only[dJ,aa];unfold Dy qK;rw[dg]
def bSg {e:Int}{hs:List AG}{a:List Int}(h:mV hs a=true):AskIn (Cy AG.sz hs) hs a.length (qK hs a e):=by have:=aQi (e:=e) h a.length (ai _);unfold Dy at this;rw[dg] at this;exact this
def bSh (hs:List AG):hs.length<=Cy AG.sz hs:=by unfold Cy;omega
def aEd (v:A4)(hs:List AG)(a:List Int)(pin b:Int)(h:Cy AG.sz hs<=34000000000/\a.length<=100000000):Ez v hs a pin b=some (Ie v hs a pin b):=by
 have hl:=bSh hs;unfold Ez Ie bN3;rw[aB (show hs.length<=34359738368/\a.length<=34359738368 by omega),bd_s];cases hc:mV hs a with
 |false=>simp only[aB (show Cy AG.sz hs<=34359738368 by omega),bd_s];rfl
 |true=>
  simp only[ay,aa,rE,bd_s,cx];rw[show(!(!(dW b 1019==0)&&bI pin 0 9999))=(dW b 1019==0|| !bI pin 0 9999) by rw[Bool.not_and,Bool.not_not]];cases(dW b 1019==0|| !bI pin 0 9999) with
  |true=>simp only[aB (show Cy AG.sz hs<=34359738368 by omega),bd_s,ac]
  |false=>obtain⟨q1,q2,q3,q4⟩:=bSg (e:=Af v.Salt pin b) hc;simp only[aa];rw[aB ⟨⟨h.1,h.2⟩,trivial⟩,bd_s,aB (show(qK hs a (Af v.Salt pin b)).2.1.length<=34359738368/\(qK hs a (Af v.Salt pin b)).2.2.length<=34359738368 by omega),bd_s];unfold qR;generalize qK hs a (Af v.Salt pin b)=r at*;rw[show decide ((r.2.2.length:Int)<(a.length:Int))=decide (r.2.2.length<a.length) by rw[cF];omega];cases decide ((a.length:Int)<v.Threshold)<;>cases decide (r.2.2.length<a.length)<;>cases(aCz r.2.1 r.2.2).2<;>rfl
def bXb (w:AA):Cy AG.sz w.Hosts<=w.sz/\w.Mail.sz<=w.sz:=by simp only[AA.sz,AS.sz,Cy];omega
def r9 (w:AA)(a:List Int)(pin:Int)(h:w.sz<=34000000000/\a.length<=100000000):yE w a pin=some (fP w a pin):=by
 obtain⟨q1,q2⟩:=bXb w;unfold yE fP;rw[aB (show w.sz<=34359738368 by omega),bd_s,aB (show w.sz<=34359738368 by omega),bd_s];cases aP w with
 |false=>rfl
 |true=>rw[aB (by simp),bd_s,aB (by decide),aB (show Cy AG.sz w.Hosts<=34000000000/\a.length<=100000000 by omega),bd_s,aB (show w.Mail.sz<=34359738300 by omega),bd_s];rfl
def aEe (w:AA)(pin:Int)(h:w.sz<=33000000):Fa w pin=some (wD w pin):=by
 have hl:w.Hosts.length<=w.sz:=by simp only[AA.sz];omega
 have a:=aQj w;unfold Fa;have hn:(min w.aAO.Threshold ((w.Hosts.length:Int)+1)).toNat<=w.Hosts.length+1:=by omega
 rw[Gw (τ:=List Int) (s:=(([]:List Int),(0:Int))) (λi (s:List Int×Int)=>s=((List.range i).map (λ(k:Nat)=>(k:Int)),(i:Int))) (min w.aAO.Threshold ((w.Hosts.length:Int)+1)).toNat (some (vL w)) (by omega) rfl (λi s rec hi hv=> ?_) (λs rec hv=> ?_)]
 ·rw[bd_s,aB (show w.sz<=34000000000/\(vL w).length<=100000000 by omega)];rfl
 ·left;subst hv;refine⟨_,rfl,?_⟩;simp only[aZx,bd_s];rw[ak (show(i:Int)<w.aAO.Threshold by omega),ak (show(i:Int)<=(w.Hosts.length:Int) by omega),du,ac,aB (show aV ((List.range i).map (λ(k:Nat)=>(k:Int))) [(i:Int)] by unfold aV;simp only[bg,fo,au,bl];omega),aJ (by omega) (by omega),fi,cX];rfl
 ·subst hv;simp only[aZx,bd_s];generalize hm:(min w.aAO.Threshold ((w.Hosts.length:Int)+1)).toNat=m;rw[show(decide ((m:Int)<w.aAO.Threshold)&&decide ((m:Int)<=(w.Hosts.length:Int)))=false by
   rw[Bool.and_eq_false_iff,ct,ct];omega,aa]
  unfold vL;rw[hm]
def Y8 (w:AA)(d:Int)(h:w.sz<=34359738368):Bg w d=some (oK w d):=by
 unfold Bg oK;simp only[aB h,bd_s];cases ht:dU w d 0 with
 |false=>rfl
 |true=>simp only[ay,aa,Yz ht,bd_s,cx];cases eT w d<;>rfl
def bGc (l:List Int):bFw l=some (bN7 l):=rfl
def w9 (a b:AB)(h:EqZ a.sz a b/\a.sz<=34359738368):yN a b=some true:=by obtain⟨⟨rfl,_⟩,c⟩:=h;have hl:a.Entries.length<=34359738368:=c;unfold yN;rw[dr,aa,bUw (a:=a.Entries) (by omega) (λrec i hi=>by simp[hi,aN hi]) (λrec=>by simp)];rfl
def bPo (x:Int):0<=oQ IntKind.i64 x 255/\oQ IntKind.i64 x 255<=255:=by unfold oQ;rw[BitVec.toNat_and];have h:((BitVec.ofInt IntKind.i64.bits x).toNat&&&(BitVec.ofInt IntKind.i64.bits 255).toNat)<=255:=bz Nat.and_le_right (by decide);rw[aJ (by omega) (by omega)];omega
def aEf {c:AR}(h:dN c):dN (lJ c).1/\0<=(lJ c).2/\(lJ c).2<=255:=by
 unfold lJ;obtain⟨h1,h2⟩:=h;cases hc:decide (c.i<(c.b.length:Int)) with
 |true=>have hc:=of_decide_eq_true hc;refine⟨⟨?_,h2⟩,bPo _⟩;show 0<=IntKind.i64.wrap (c.i+1);rw[aJ (by omega) (by omega)];omega
 |false=>exact⟨⟨h1,h2⟩,bPo _⟩
def bQ {c:AR}(h:dN c)(n:Int):dN (dY c n).1/\0<=(dY c n).2/\(0<n->(dY c n).2<n)/\(n<=0->(dY c n).2=0):=by
 obtain⟨h1,h2,a⟩:=aEf h;obtain⟨k1,k2,k3⟩:=aEf h1;obtain⟨l1,l2,b⟩:=aEf k1;unfold dY;by_cases hn:n<=0
 ·rw[ak hn];exact⟨h,cP _,λq=>absurd q (by omega),λ_=>rfl⟩
 ·rw[ao hn];have hn:0<n:=by omega
  simp only[aa];by_cases hb:n<=256
  ·rw[ak hb];exact⟨h1,fW n h2,λ_=>fX _ hn,λq=>absurd q (by omega)⟩
  ·rw[ao hb];simp only[aa];generalize(lJ c).2=x at*;generalize(lJ (lJ c).1).2=y at*;generalize(lJ (lJ (lJ c).1).1).2=z at*;rw[aJ (show-9223372036854775808<=x*65536 by omega) (by omega),aJ (show-9223372036854775808<=y*256 by omega) (by omega),aJ (show-9223372036854775808<=x*65536+y*256 by omega) (by omega),aJ (show-9223372036854775808<=x*65536+y*256+z by omega) (by omega)];exact⟨l1,fW n (by omega),λ_=>fX _ hn,λq=>absurd q (by omega)⟩
def bSi {a b c d e:Int}(h:0<=a)(i:a<4)(b1:0<=b)(j:b<3)(l:0<=c)(f:0<IntKind.i64.wrap (1+a)->c<IntKind.i64.wrap (1+a))(d1:0<=d)(d2:d<40)(m:0<=e)(o:e<999):
  ∃n k t p s,bY (IntKind.i64.wrap (1+b)) (IntKind.i64.wrap (1+a)) (IntKind.i64.wrap (1+c)) d (IntKind.i64.wrap (1+e))=bY n k t p s/\Tc n k t p s=true/\1<=s/\s<=999:=by
 rw[aJ (show-9223372036854775808<=1+a by omega) (by omega)] at f ⊢;have f:=f (by omega);rw[aJ (show-9223372036854775808<=1+b by omega) (by omega),aJ (show-9223372036854775808<=1+c by omega) (by omega),aJ (show-9223372036854775808<=1+e by omega) (by omega)];refine⟨_,_,_,_,_,rfl,?_,by omega,by omega⟩;unfold Tc;rw[show bK (1+e)=true from iN (by omega) (by omega),iN (show(1:Int)<=1+b by omega) (by omega),iN (show(1:Int)<=1+a by omega) (by omega),iN (show(1:Int)<=1+c by omega) (by omega),iN d1 (by omega)];rfl
def aSm {c:AR}(h:dN c):dN (oL c).1/\∃n k t p s,(oL c).2=bY n k t p s/\Tc n k t p s=true/\1<=s/\s<=999:=by have a:dN (dA c).1:=(bQ h 4).1;have b:dN (dB c).1:=(bQ a 3).1;have d:dN (dC c).1:=(bQ b (IntKind.i64.wrap (1+(dA c).2))).1;have e:dN (dD c).1:=(bQ d 40).1;have f:dN (dE c).1:=(bQ e 999).1;have i:0<=(dA c).2:=(bQ h 4).2.1;have j:(dA c).2<4:=(bQ h 4).2.2.1 (by decide);have b1:0<=(dB c).2:=(bQ a 3).2.1;have l:(dB c).2<3:=(bQ a 3).2.2.1 (by decide);have m:0<=(dC c).2:=(bQ b (IntKind.i64.wrap (1+(dA c).2))).2.1;have o:0<IntKind.i64.wrap (1+(dA c).2)->(dC c).2<IntKind.i64.wrap (1+(dA c).2):=(bQ b (IntKind.i64.wrap (1+(dA c).2))).2.2.1;have d1:0<=(dD c).2:=(bQ d 40).2.1;have d2:(dD c).2<40:=(bQ d 40).2.2.1 (by decide);have q:0<=(dE c).2:=(bQ e 999).2.1;have r:(dE c).2<999:=(bQ e 999).2.2.1 (by decide);unfold oL;dsimp only;exact⟨f,bSi i j b1 l m o d1 d2 q r⟩
def bIm {l:List Int}(h:l.length<=1048576):3<=Dz l 14/\Dz l 14<=14:=by
 have h1:=Int.tdiv_nonneg (a:=(l.length:Int)) (b:=12) (by omega) (by decide);have h2:(l.length:Int).tdiv 12<=(l.length:Int):=Int.tdiv_le_self _ (by omega);unfold Dz;rw[aJ (show-9223372036854775808<=(l.length:Int).tdiv 12 by omega) (by omega),aJ (show-9223372036854775808<=3+(l.length:Int).tdiv 12 by omega) (by omega)];by_cases c:3+(l.length:Int).tdiv 12>14
 ·rw[ak c];exact⟨show(3:Int)<=14 by decide,show(14:Int)<=14 by decide⟩
 ·rw[ao c];show 3<=3+(l.length:Int).tdiv 12/\3+(l.length:Int).tdiv 12<=14;omega
def bPp {l:List Int}(h:l.length<=1048576):dN (bKe l):=⟨cP _,h⟩
def aVd (c:AR)(h:dN c):J6 c=some (lJ c):=by
 unfold J6 lJ;rw[aB (by decide),aB (by decide)];cases hc:decide (c.i<(c.b.length:Int)) with
 |true=>have hc:=of_decide_eq_true hc;have h0:=h.1;rw[ac,ac,qH h0 (by omega),List.getD,ae (show c.i.toNat<c.b.length by omega)];rfl
 |false=>rfl
def aSn (c:AR)(n:Int)(h:dN c):Tt c n=some (dY c n):=by
 have h1:=(aEf h).1;have h2:=(aEf h1).1;unfold Tt dY;by_cases hn:n<=0
 ·rw[ak hn];rfl
 ·rw[ao hn];by_cases hb:n<=256
  ·rw[ak hb];simp only[aa,ac,aB h,bd_s,aB (show n≠0 by omega)]
  ·rw[ao hb];simp only[aa,aB h,aB h1,aB h2,bd_s,aB (show n≠0 by omega)]
def aVe (c:AR)(n:Int)(h:dN c):K9 c n=some (Oe c n):=by unfold K9;rw[aB h];rfl
def aVf (l:List Int)(m:Int):K8 l m=some (Dz l m):=by unfold K8 Dz;rw[aB (by decide)];cases decide (IntKind.i64.wrap (3+IntKind.i64.wrap ((l.length:Int).tdiv 12))>m)<;>rfl
def aVg (c:AR)(h:dN c):K7 c=some (oL c):=by have b:dN (dA c).1:=(bQ h 4).1;have d:dN (dB c).1:=(bQ b 3).1;have e:dN (dC c).1:=(bQ d (IntKind.i64.wrap (1+(dA c).2))).1;have f:dN (dD c).1:=(bQ e 40).1;unfold K7;exact fD (a:=dA c) (aB h) (fD (a:=dB c) (aB b) (fD (a:=dC c) (aB d) (fD (a:=dD c) (aB e) (fD (a:=dE c) (aB f) rfl))))
def bPq {c:AR}(h:dN c):dN (Mt c).1/\aG4 (Mt c).2:=by
 have e:dN (eA c).1:=(bQ h 13).1;have s:0<=(eA c).2:=(bQ h 13).2.1;have t:(eA c).2<13:=(bQ h 13).2.2.1 (by decide);have i:dN (eB c).1:=(bQ e 4).1;have j:0<=(eB c).2:=(bQ e 4).2.1;have u:(eB c).2<4:=(bQ e 4).2.2.1 (by decide);have l:dN (eC c).1:=(bQ i 3).1;have m:0<=(eC c).2:=(bQ i 3).2.1;have w:(eC c).2<3:=(bQ i 3).2.2.1 (by decide);have n:dN (eD c).1:=(bQ l 4).1;have d2:0<=(eD c).2:=(bQ l 4).2.1;have d3:(eD c).2<4:=(bQ l 4).2.2.1 (by decide);have a:dN (eE c).1:=(bQ n 3).1;have o:dN (dY (eE c).1 40).1:=(bQ a 40).1;have p:0<=(dY (eE c).1 40).2:=(bQ a 40).2.1;have f3:(dY (eE c).1 40).2<40:=(bQ a 40).2.2.1 (by decide);have r:dN (Oe (eE c).1 2).1:=(bQ a 2).1;have hk:1<=eK c/\eK c<=13:=by unfold eK;rw[aJ (by omega) (by omega)];omega
 unfold Mt;generalize eK c=k at*;generalize(eB c).2=b at*;generalize(eC c).2=d at*;generalize(eD c).2=v at*;generalize(dY (eE c).1 40)=f at*;generalize(Oe (eE c).1 2)=g at*;generalize eE c=q at*;cases h1:k==11 with
 |true=>rw[cH] at h1;exact⟨o,hk,⟨j,by show b<=3;omega⟩,⟨m,by show d<=2;omega⟩,⟨p,by show f.2<=39;omega⟩,λq=>absurd h1 q⟩
 |false=>
  cases h2:k==4||k==13 with
  |true=>
   refine⟨r,?_,⟨j,by show b<=3;omega⟩,⟨m,by show d<=2;omega⟩,⟨d2,by show v<=39;omega⟩,λ_=>by show v<=3;omega⟩;show 1<=(bif g.2 then(2:Int) else k)/\(bif g.2 then(2:Int) else k)<=13;cases g.2
   ·exact hk
   ·exact⟨show(1:Int)<=2 by decide,show(2:Int)<=13 by decide⟩
  |false=>exact⟨a,hk,⟨j,by show b<=3;omega⟩,⟨m,by show d<=2;omega⟩,⟨d2,by show v<=39;omega⟩,λ_=>by show v<=3;omega⟩
def bGd {c:AR}(h:dN c):∀n,dN (Db c n).1/\(Db c n).2.length=n/\∀e∈(Db c n).2,aG4 e
 |0=>⟨h,rfl,λe he=>by simp[Db] at he⟩
 |n+1=>by
  obtain⟨h1,h2,a⟩:=bGd h n;obtain⟨k1,k2⟩:=bPq h1;refine⟨k1,by simp[Db,h2],λe he=> ?_⟩;simp only[Db,bw,cA] at he;rcases he with he|rfl
  ·exact a e he
  ·exact k2
def bSj {l:List Int}(h:l.length<=1048576):(∃n k t p s,(aLk l).1=bY n k t p s/\Tc n k t p s=true/\1<=s/\s<=999)/\(aLk l).2.length<=19/\∀e∈(aLk l).2,aG4 e:=by
 obtain⟨h1,h2⟩:=aSm (bPp h);have hs:=bIm h;have hm:IntKind.i64.wrap (6+Dz l 14)<=20/\0<IntKind.i64.wrap (6+Dz l 14):=by rw[aJ (by omega) (by omega)];omega
 obtain⟨k1,k2,k3,_⟩:=bQ h1 (IntKind.i64.wrap (6+Dz l 14));obtain⟨_,a,b⟩:=bGd k1 (dY (oL (bKe l)).1 (IntKind.i64.wrap (6+Dz l 14))).2.toNat;refine⟨h2,?_,b⟩;show(Db _ _).2.length<=19;rw[a];have:=k3 hm.2;omega
def aM0 (c:AR)(h:dN c):Ox c=some (Mt c):=by
 have d:dN (eA c).1:=(bQ h 13).1;have e:dN (eB c).1:=(bQ d 4).1;have f:dN (eC c).1:=(bQ e 3).1;have i:dN (eD c).1:=(bQ f 4).1;have b:dN (eE c).1:=(bQ i 3).1;unfold Ox;refine fD (a:=eA c) (aB h) (fD (a:=eB c) (aB d) (fD (a:=eC c) (aB e) (fD (a:=eD c) (aB f) (fD (a:=eE c) (aB i) ?_))));change bd (bif eK c==11 then _ else bd (bif eK c==4 then _ else some (eK c==13)) _) _=_;unfold Mt;cases eK c==11 with
 |true=>simp only[ac];exact fD (fD (a:=dY (eE c).1 40) (aB b) rfl) rfl
 |false=>
  simp only[aa];rw[show(bif eK c==4 then(some true:Option Bool) else some (eK c==13))=some (eK c==4||eK c==13) by cases eK c==4<;>rfl,bd_s];cases eK c==4||eK c==13 with
  |true=>
   simp only[ac];cases hq:(Oe (eE c).1 2).2 with
   |true=>exact fD (fD (a:=Oe (eE c).1 2) (aB b) (by rw[hq];rfl)) rfl
   |false=>exact fD (fD (a:=Oe (eE c).1 2) (aB b) (by rw[hq];rfl)) rfl
  |false=>rfl
def aI8 (c:AR)(m:Int)(h:dN c/\m<=256):Jb c m=some (Yo c m):=by
 obtain⟨h,hm⟩:=h;obtain⟨k1,k2,k3,k4⟩:=bQ h m;have hv:(dY c m).2<=256:=by
  by_cases h0:0<m
  ·have:=k3 h0;omega
  ·rw[k4 (by omega)];decide
 unfold Jb Yo;rw[aB h,bd_s];generalize(dY c m).1=a at*;generalize(dY c m).2=v at*;obtain⟨n,rfl⟩:=ee k2;rw[bq];refine fD (vP (r:=((Db a n).2,(Db a n).1.b,(Db a n).1.i,(Db a n).1.h)) (λi=>((Db a i).2,((n-i:Nat):Int),(Db a i).1.b,(Db a i).1.i,(Db a i).1.h)) n (by omega) (λrec i hi=> ?_) (λrec=> ?_) rfl) rfl
 ·obtain⟨q1,q2,_⟩:=bGd k1 i;simp only[ak (show((n-i:Nat):Int)>0 by omega),ac];rw[aB (show dN ⟨(Db a i).1.b,(Db a i).1.i,(Db a i).1.h⟩ from q1),bd_s,aB (by unfold aV;rw[q2,cp];omega),show IntKind.i64.wrap (((n-i:Nat):Int)-1)=((n-(i+1):Nat):Int) by rw[aJ (by omega) (by omega)];omega];rfl
 ·simp only[ga,ao (show ¬((0:Nat):Int)>0 by decide),aa]
def Y9 (l:List Int)(h:l.length<=1048576):Bd l=some (aLk l):=by
 unfold Bd;refine fD (a:=bS5 l) (vP (λi=>(bHv l i,(i:Int))) (min l.length 4000) (by omega) (λrec i hi=> ?_) (λrec=> ?_) rfl) ?_
 ·simp only[ak (show(i:Int)<(l.length:Int) by omega),ak (show(i:Int)<4000 by omega),ac,bd_s,aN (show i<l.length by omega)];rw[show IntKind.i64.wrap ((i:Int)+1)=((i+1:Nat):Int) by rw[aJ (by omega) (by omega)];omega,bHv,List.getD,ae (show i<l.length by omega)];rfl
 ·by_cases hl:l.length<4000
  ·simp only[ao (show ¬((min l.length 4000:Nat):Int)<(l.length:Int) by omega),aa,bd_s];rfl
  ·simp only[ao (show ¬((min l.length 4000:Nat):Int)<4000 by omega),bLu,bd_s,aa];cases decide (((min l.length 4000:Nat):Int)<(l.length:Int))<;>rfl
 ·have hs:=bIm h;have h1:=bPp h;exact fD (a:=oL (bKe l)) (aB h1) (fD (a:=Yo (oL (bKe l)).1 (IntKind.i64.wrap (6+Dz l 14))) (aB ⟨(aSm h1).1,by rw[aJ (by omega) (by omega)];omega⟩) rfl)
def Ki (b:AP)(now:Int)(h:b.sz<=34359738368):rM b now=some (nU b now):=by
 unfold rM nU;rw[aB h,bd_s];cases hb:eQ b with
 |false=>rw[db,ac,aB h];rfl
 |true=>
  have hl:b.Open.length<=16:=by unfold eQ at hb;simp only[ab,bp] at hb;exact hb.1.2
  simp only[ay,aa,ac];refine fD (a:=b.Open.filter λc=>decide (c.Until>=now)) (vP (λi=>(i,(b.Open.take i).filter λc=>decide (c.Until>=now))) b.Open.length (by omega) (λrec i hi=> ?_) (λrec=> ?_) rfl) rfl
  ·simp only[cK hi,ac,aN hi,bd_s];have hk:((b.Open.take i).filter λc=>decide (c.Until>=now)).length<=16:=bz (eW _ _) (by rw[bv];omega);rw[gb hi,jc];cases hc:decide (b.Open[i].Until>=now) with
   |true=>rw[ac,aB (by unfold aV;rw[cp];omega),bd_s,jt,hc];rfl
   |false=>rw[aa,bd_s,jt,hc];simp
  ·simp only[dJ,aa,dg]
def aSo (w:AA)(h:w.sz<=34359738368):Uv w=some (uC w):=by
 unfold Uv uC;rw[aB h,bd_s];refine fD (a:=aP (sO w)) (aB (show(sO w).sz<=34359738368 from h)) ?_;cases c:aP (sO w) with
 |false=>rfl
 |true=>
  obtain⟨h2,_⟩:=Gf c;change w.Sites.length=2 at h2;have b:∀s∈w.Sites,s.Book.sz<=34359738368:=λs hs=>by
   have h1:s.sz<=w.sz:=by obtain⟨i,hi,rfl⟩:=df.1 hs;have:=wB (f:=AC.sz) hi;rw[List.getD,ae hi,ck] at this;simp only[AA.sz];omega
   have:s.Book.sz<=s.sz:=by simp only[AC.sz,AP.sz];omega
   omega
  obtain⟨s0,s1,e⟩:∃s0 s1,w.Sites=[s0,s1]:=by
   match hq:w.Sites,h2 with
   |[s0,s1],_=>exact⟨s0,s1,rfl⟩
  rw[e] at b;have d:=b s0 (by simp);have j:=b s1 (by simp);rw[ay,aa,ac];change bd (bT FUEL _ (0,w.Sites)) _=_;rw[e];refine fD (vP (λi=>(i,match i with|0=>[s0,s1]|1=>[{s0 with Book:=nU s0.Book (sO w).Now},s1]|_=>[{s0 with Book:=nU s0.Book (sO w).Now},{s1 with Book:=nU s1.Book (sO w).Now}])) 2 (by omega) (λrec i hi=> ?_) (λrec=> ?_) rfl) rfl
  ·rcases(show i=0\/i=1 by omega) with rfl|rfl
   ·exact fD (aB d) rfl
   ·exact fD (aB j) rfl
  ·rfl
def aEg (w:AA)(d j:Int)(o:ByteArray)(h:aHl w d j o/\w.sz<=34359738200):Es w d j o=some (aOh w d j o):=by
 have a:w.sz<=34359738368:=by omega
 unfold Es aOh;simp only[aB a,bd_s];cases ht:dU w d j with
 |false=>rfl
 |true=>
  simp only[ay,aa,Yz ht,bd_s,cx];cases eT w d with
  |true=>rfl
  |false=>simp only[db,aa,ac];exact fD (aB (show nG (AQ.mk true o 443)/\w.sz<=34359738200 from⟨h.1 ht,h.2⟩)) rfl
def aEh (w:AA)(d j:Int)(b:w.sz<=34359738200):Et w d j=some (Td w d j):=by
 have a:w.sz<=34359738368:=by omega
 unfold Et Td;simp only[aB a,bd_s,aB (bIk j)];cases ht:dU w d j with
 |false=>rfl
 |true=>
  simp only[ay,aa,Yz ht,bd_s,cx];cases eT w d with
  |false=>rfl
  |true=>simp only[ay,aa,ac];exact fD (aB (show nG (aP8 j)/\w.sz<=34359738200 from⟨bNz (Vv ht).2.2.2.1,b⟩)) rfl
def bSk (w:AA)(d j:Int):aHl w d j (aP9 j).Host:=λht=>by
 rcases(Vv ht).2.2.2.1 with rfl|rfl
 ·exact⟨4,by decide,rfl⟩
 ·exact⟨5,by decide,rfl⟩
def aVh (w:AA)(e:A0)(b:w.sz<=34359738200):L8 w e=some (R4 w e):=by
 have hn:=Vx e.Other;unfold L8 R4;cases e.Kind==2 with
 |true=>rw[ac,aB b];rfl
 |false=>
  cases e.Kind==3 with
  |true=>rw[aa,ac,aB (by show 6+(aA e.Other).size<=_;omega),aB (by rw[ByteArray.size_append];show 6+(aA e.Other).size+9<=_;omega)];refine fD (a:=((lI w e.Device e.Other).2,(lI w e.Device e.Other).1.Now,(lI w e.Device e.Other).1.Seed,(lI w e.Device e.Other).1.Devices,(lI w e.Device e.Other).1.Stolen,(lI w e.Device e.Other).1.aAC.Log,(lI w e.Device e.Other).1.aAC.Boxes.Epoch,(lI w e.Device e.Other).1.aAC.Boxes.Boxes,(lI w e.Device e.Other).1.aAC.History,(lI w e.Device e.Other).1.Sites,(lI w e.Device e.Other).1.aAO.Salt,(lI w e.Device e.Other).1.aAO.Threshold,(lI w e.Device e.Other).1.aAO.Check,(lI w e.Device e.Other).1.aAO.Masked,(lI w e.Device e.Other).1.Hosts,(lI w e.Device e.Other).1.Pin,(lI w e.Device e.Other).1.Mail.Notices)) (fD (aB (show aHl w e.Device e.Other (aP9 e.Other).Host/\w.sz<=34359738200 from⟨bSk _ _ _,b⟩)) rfl) rfl
  |false=>rw[aa,aa,aB b];rfl
def Z0 (w:AA)(e:A0)(h:w.sz<=33000000):Bh w e=some (aQk w e):=by
 have a:w.sz<=34359738368:=by omega
 unfold Bh aQk;cases e.Kind==11 with
 |true=>rw[ac,aB h];rfl
 |false=>
 cases e.Kind==12 with
 |true=>rw[aa,ac,aB a];rfl
 |false=>
 cases e.Kind==13 with
 |true=>rw[aa,aa,ac,aB a];rfl
 |false=>rw[aa,aa,aa,aB a];rfl
def aEi (w:AA)(e:A0)(h:w.sz<=33000000):Ff w e=some (evF w e):=by
 have a:w.sz<=34359738368:=by omega
 have d:w.sz<=34359738200:=by omega
 have f:w.sz<=100000000:=by omega
 have i:w.sz<=34359738300:=by omega
 have j:w.sz<=10000000000:=by omega
 have k:w.sz<=34359738100:=by omega
 unfold Ff evF R3;rw[aB a,bd_s];cases aP w with
 |false=>rw[db,ac,aB a];rfl
 |true=>
 simp only[ay,aa,aB a,aB d,aB f,aB j,aB k,aB h,bd_s];cases h1:e.Kind==1 with
 |true=>rfl
 |false=>
 simp only[aa];cases h2:e.Kind==2 with
 |true=>simp only[ac,bd_s];unfold R4;rw[h2];rfl
 |false=>
 cases b:e.Kind==3 with
 |true=>simp only[ac,aa,bd_s];unfold R4;rw[h2,b];rfl
 |false=>
 simp only[aa,bd_s];cases c:e.Kind==5 with
 |true=>rw[show(e.Kind==4)=false by rw[cH] at c;rw[c];rfl];simp only[ac,aa];unfold R4;rw[h2,b];rfl
 |false=>
 simp only[aa];cases m:e.Kind==4 with
 |true=>rfl
 |false=>
 cases n:e.Kind==6 with
 |true=>rfl
 |false=>
 cases o:e.Kind==7 with
 |true=>rfl
 |false=>
 cases p:e.Kind==8 with
 |true=>simp only[aa,ac];rw[aB (show w.sz<=34359738300/\_ from⟨i,by decide⟩)];rfl
 |false=>
 cases q:e.Kind==9 with
 |true=>rfl
 |false=>
 cases l:e.Kind==10 with
 |true=>rfl
 |false=>
 simp only[aa];show bd (some (aQk w e)) _=_;rw[bd_s];rfl
def aI9 (w:AA)(l:List A0)(h:bCr w l):Jj w l=some (bKf w l):=by
 unfold Jj;rw[aB h.1,bd_s];refine fD (a:=((runN w l (min l.length 60)).Now,(runN w l (min l.length 60)).Seed,(runN w l (min l.length 60)).Devices,(runN w l (min l.length 60)).Stolen,(runN w l (min l.length 60)).aAC.Log,(runN w l (min l.length 60)).aAC.Boxes.Epoch,(runN w l (min l.length 60)).aAC.Boxes.Boxes,(runN w l (min l.length 60)).aAC.History,(runN w l (min l.length 60)).Sites,(runN w l (min l.length 60)).aAO.Salt,(runN w l (min l.length 60)).aAO.Threshold,(runN w l (min l.length 60)).aAO.Check,(runN w l (min l.length 60)).aAO.Masked,(runN w l (min l.length 60)).Hosts,(runN w l (min l.length 60)).Pin,(runN w l (min l.length 60)).Mail.Notices)) (vP (λi=>((i:Int),(runN w l i).Now,(runN w l i).Seed,(runN w l i).Devices,(runN w l i).Stolen,(runN w l i).aAC.Log,(runN w l i).aAC.Boxes.Epoch,(runN w l i).aAC.Boxes.Boxes,(runN w l i).aAC.History,(runN w l i).Sites,(runN w l i).aAO.Salt,(runN w l i).aAO.Threshold,(runN w l i).aAO.Check,(runN w l i).aAO.Masked,(runN w l i).Hosts,(runN w l i).Pin,(runN w l i).Mail.Notices)) (min l.length 60) (by omega) (λrec i hi=> ?_) (λrec=> ?_) rfl) rfl
 ·simp only[ak (show(i:Int)<(l.length:Int) by omega),ak (show(i:Int)<60 by omega),ac,bd_s,aN (show i<l.length by omega)];refine fD (aB (show(runN w l i).sz<=33000000 from h.2 i hi)) ?_;rw[show IntKind.i64.wrap ((i:Int)+1)=((i+1:Nat):Int) by rw[aJ (by omega) (by omega)];omega];have:l[i]'(by omega)=l.getD i default:=by rw[List.getD,ae (show i<l.length by omega)];rfl
  rw[this];rfl
 ·by_cases hl:l.length<60
  ·simp only[ao (show ¬((min l.length 60:Nat):Int)<(l.length:Int) by omega),aa,bd_s]
  ·simp only[ao (show ¬((min l.length 60:Nat):Int)<60 by omega),bLu,bd_s,aa];cases decide (((min l.length 60:Nat):Int)<(l.length:Int))<;>rfl
def bVq (n k t pin seed:Int):(bY n k t pin seed).Hosts.length<=7:=by
 unfold bY;cases Tc n k t pin seed with
 |false=>exact cy _
 |true=>exact(aCy pin 7 (aZ seed [283]) (IntKind.i64.wrap (1+(aZ seed [293]).tmod 1018)) (Q7 seed t) k 5).1
def bDx {w:AA}{l:List A0}(h:WIn w.Devices.length w)(a:w.Hosts.length<=400):∀k,WIn (runN w l k).Devices.length (runN w l k)/\(runN w l k).Hosts.length<=400/\(runN w l k).sz<=w.sz+3000*k/\(runN w l k).Seed=w.Seed
 |0=>⟨h,a,ai _,rfl⟩
 |k+1=>by
  obtain⟨h1,h2,c,b⟩:=bDx (l:=l) h a k;have:=bFp h1 h2 (l.getD k default).Kind (l.getD k default).Device (l.getD k default).Other (l.getD k default).Value (l.getD k default).Flag;exact⟨this.kept.wi,bz this.hosts h2,by have:=this.kept.sz;show(R3 _ _ _ _ _ _).1.sz<=_;omega,this.kept.seed.trans b⟩
def x8 (a b:AB)(h:a.sz<=34359738368):yM a b=some (mM a b):=by
 unfold yM mM;have hl:a.Entries.length<=34359738368:=by simp only[AB.sz] at h;omega
 by_cases he:a.Entries.length=b.Entries.length
 ·rw[show((a.Entries.length:Int) !=(b.Entries.length:Int))=false by simp[he],aa,cH.2 he,cx];rw[jR (l:=a.Entries.zip b.Entries) (λp=> !AH.eqB p.1 p.2) (.inl false) (.inr ()) (by rw[jy];omega) (λrec i hi=>by
   rw[jy] at hi;simp only[cK (show i<a.Entries.length by omega),ac,aN (show i<a.Entries.length by omega),aN (show i<b.Entries.length by omega),bd_s,jq];rfl) (λrec=>by
   rw[jy,<-he,Nat.min_self];simp only[dJ,aa]),bHe]
  cases(List.zipWith AH.eqB a.Entries b.Entries).all id<;>rfl
 ·rw[show((a.Entries.length:Int) !=(b.Entries.length:Int))=true by simp;omega,ac,cf.2 he];rfl
def Ql (w:AA)(h:Dq w):uQ w=some (aZt w):=by unfold uQ;rw[aB h];rfl
def aM1 (w:AA)(d:Int)(h:Dq w):Pn w d=some (Mi w d):=by
 unfold Pn Mi;rw[Yd h];cases hd:aL w d with
 |false=>rfl
 |true=>
  have a:=h.2.2.1;simp only[ay,aa,lM hd,bd_s];rw[jR (l:=w.aAC.Log) (λe=>e.Kind==2&&e.Device==aT (aG w d).Store) (.inl true) (.inr ()) (by omega) (λrec i hi=>by
   simp only[cK hi,ac,aN hi,bd_s];cases w.aAC.Log[i].Kind==2<;>rfl) (λrec=>by simp only[dJ,aa])]
  unfold dX;cases w.aAC.Log.any _<;>rfl
def aJa (w:AA)(d:Int)(h:Dq w/\w.aAC.Boxes.sz<=34359738368):Jz w d=some (qO w d):=by
 unfold Jz qO;rw[Yd h.1];cases hd:aL w d with
 |false=>rfl
 |true=>
  simp only[ay,aa,lM hd,bd_s,aB h.1,aB h.2,aB h.1.2.2.1,cx];cases bC w d with
  |false=>rfl
  |true=>simp only[ay,aa,cu];cases(aG w d).Epoch !=aD w.aAC.Log<;>rfl
def Vz (w:AA)(h:w.Hosts.length<=34359738368):xC w=some (jK w):=by
 unfold xC;rw[jR (l:=w.Hosts) (λh=>decide (h.State.Guesses>h.State.Limit)||decide (kQ h.State>h.Monotonic)) (.inl false) (.inr ()) (by omega) (λrec i hi=>by
  simp only[cK hi,ac,aN hi,bd_s];cases decide (w.Hosts[i].State.Guesses>w.Hosts[i].State.Limit)<;>rfl) (λrec=>by simp only[dJ,aa])]
 unfold jK;cases w.Hosts.any _<;>rfl
def bLi (a b:AD):(bif !(mM a.aAD b.aAD) then some true else bif (a.Epoch !=b.Epoch) then some true else bif (a.Version !=b.Version) then some true else some (a.Key !=b.Key))=some (!aPr a b):=by unfold aPr;cases mM a.aAD b.aAD<;>cases h1:(a.Epoch==b.Epoch)<;>cases h2:(a.Version==b.Version)<;>cases c:(a.Key==b.Key)<;>simp[bne,h1,h2,c]
def bVr {w:AA}{d:Int}(h:w.sz<=34359738368)(hd:aL w d=true):(aG w d).aAD.sz<=34359738368:=by
 have h2:=(aYp hd).2.2.1;have a:(aG w d).aAD.sz<=(aG w d).sz:=by simp only[AD.sz,AB.sz];omega
 omega
def Z4 (w:AA)(h:w.sz<=34359738368):Ce w=some (aXp w):=by
 unfold Ce aXp;rw[aB (T9 h),bd_s];have b:=aXq w;have hl:=aYl w;generalize aX w=l at*;rw[jR (l:=l) (λi=> !aPr (aG w (l.getD 0 0)) (aG w i)) (.inl false) (.inr ()) (by omega) (λrec i hi=>by
  have h0:l[0]'(by omega)=l.getD 0 0:=by rw[List.getD,ae (show 0<l.length by omega)];rfl
  have hd:=b _ (cb hi);have a:=b _ (cb (show 0<l.length by omega));have c:bA l 0=some (l.getD 0 0):=by rw[<-h0];exact aN (show 0<l.length by omega)
  rw[h0] at a;simp only[cK hi,ac,aN hi,bd_s,c,lM hd,lM a,aB (bVr h a),bLi]) (λrec=>by simp only[dJ,aa])]
 rw[show(l.all λi=>aPr (aG w (l.getD 0 0)) (aG w i))= !(l.any λi=> !aPr (aG w (l.getD 0 0)) (aG w i)) by rw[List.any_eq_not_all_not];simp];cases l.any _<;>rfl
def Qm (a b:AB)(h:bCs a b):uR a b=some true:=by unfold uR;have c:=h.2.1;rw[aB h.2,bd_s,h.1];exact fD (fD (aB (show EqZ a.sz a a/\a.sz<=34359738368 from⟨⟨rfl,by omega⟩,h.2.1⟩)) rfl) rfl
def bPr {α τ:Type}{l:List α}(p:α->Bool)(a b:τ){F:(Int->Option τ)->Int->Option τ}(hl:l.length<=1000000)
  (d:∀rec i (hi:i<l.length),F rec (i:Int)=bif p l[i] then some a else rec ((i+1:Nat):Int)) (e:∀rec,F rec (l.length:Int)=some b):bT FUEL F 0=some (bif l.any p then a else b):=by
 have key:∀i (hi:i<l.length),p l[i]=true->l.any p=true:=λi hi h=>ex.2 ⟨_,cb hi,h⟩;refine Gw (λi s=>i<=l.length/\s=(i:Int)/\(l.take i).any p=false) l.length _ (by omega) ⟨cy _,rfl,rfl⟩ (λi s rec hi hv=> ?_) (λs rec hv=> ?_)
 ·obtain⟨_,rfl,c⟩:=hv;rw[d rec i hi];cases hp:p l[i] with
  |true=>exact .inr (by rw[key i hi hp];rfl)
  |false=>exact .inl ⟨_,⟨hi,rfl,by rw[dz,ae hi,ig,c];simp[hp]⟩,rfl⟩
 ·obtain⟨_,rfl,c⟩:=hv;rw[dg] at c;rw[e,c];rfl
def bSl {w:AA}{i:Nat}(h:w.sz<=34359738368)(hi:i<w.Sites.length):w.Sites[i].Accounts.length<=34359738368/\∀k (hk:k<w.Sites[i].Accounts.length),w.Sites[i].Accounts[k].Credentials.length<=34359738368:=by
 have h1:w.Sites[i].sz<=w.sz:=by have:=wB (f:=AC.sz) hi;rw[List.getD,ae hi,ck] at this;simp only[AA.sz];omega
 refine⟨by simp only[AC.sz] at h1;omega,λk hk=> ?_⟩;have:=wB (f:=AJ.sz) hk;rw[List.getD,ae hk,ck] at this;simp only[AC.sz] at h1;simp only[AJ.sz] at*;omega
def aEj (w:AA)(d:Int)(h:w.sz<=34359738368):Gb w d=some (rD w d):=by
 have k:=T9 h;unfold Gb rD;rw[aB k,bd_s];cases Mi w d with
 |false=>rfl
 |true=>
  simp only[ay,aa,cu];rw[bPr (l:=w.Sites.take 2) (Ye d) (.inl false) (.inr ()) (by rw[bv];omega) (λrec i hi=>by
   rw[bv] at hi;have f:i<w.Sites.length:=by omega
   have e:(w.Sites.take 2)[i]'(by rw[bv];omega)=w.Sites[i]:=by simp
   obtain⟨m,n⟩:=bSl h f;have j:IntKind.i64.wrap ((i:Int)+1)=((i+1:Nat):Int):=by rw[aJ (by omega) (by omega)];omega
   simp only[ak (show(i:Int)<(w.Sites.length:Int) by omega),ak (show(i:Int)<2 by omega),ac,bd_s,aN f,aB m,e,j];unfold Ye;generalize w.Sites[i]=s at m n;by_cases hk:aF s 1<0
   ·rw[ak hk];rfl
   ·obtain⟨k1,k2⟩:=aBv (show 0<=aF s 1 by omega);have b:(aF s 1).toNat<s.Accounts.length:=by unfold aF at*;omega
    have o:=n _ b;simp only[ao hk,aa,qH (show 0<=aF s 1 by omega) b,bd_s,db,cx,List.getD,ae b,ck];generalize s.Accounts[(aF s 1).toNat]=a at o;rw[jR (l:=a.Credentials) (λc=>c.Handle==d&& !c.Cut) (.inl (.inl false)) (.inr ()) (by omega) (λrec i hi=>by
     simp only[cK hi,ac,aN hi,bd_s];cases a.Credentials[i].Handle==d<;>rfl) (λrec=>by simp only[dJ,aa])]
    cases a.Credentials.any _<;>rfl) (λrec=>by
   rw[bv];by_cases h1:w.Sites.length<2
   ·simp only[ao (show ¬((min 2 w.Sites.length:Nat):Int)<(w.Sites.length:Int) by omega),aa,bd_s]
   ·simp only[ao (show ¬((min 2 w.Sites.length:Nat):Int)<2 by omega)];cases decide (((min 2 w.Sites.length:Nat):Int)<(w.Sites.length:Int))<;>rfl)]
  cases(w.Sites.take 2).any (Ye d) with
  |true=>simp only[ac,ay,dl];rfl
  |false=>simp only[aa];exact fD (aB k) (by simp)
def aEk (w:AA)(h:w.sz<=34359738368):Gc w=some (aG8 w):=by
 have a:=T9 h;have hb:w.aAC.Boxes.sz<=34359738368:=by simp only[AA.sz] at h;simp only[AN.sz];omega
 have b:w.Hosts.length<=34359738368:=by simp only[AA.sz] at h;omega
 have hd:w.Devices.length<=34359738368:=by simp only[AA.sz] at h;omega
 unfold Gc aG8;rw[iD (l:=w.Devices) (aPu w) (.inl false) (.inr ()) (by omega) (λrec i hi=>by
  simp only[cK hi,ac,bd_s,aB h,aB (show Dq w/\w.aAC.Boxes.sz<=34359738368 from⟨a,hb⟩)];unfold aPu;cases rD w (i:Int)<;>rfl) (λrec=>by simp only[dJ,aa])]
 simp only[aB h,aB b,bd_s];cases aP w<;>cases jK w<;>cases gM (aPu w) 0 w.Devices<;>rfl
def bYm:bM aZ3=387010709:=by kernel_rfl
def bSm:List (Int×Int):=[(387010709,0),(387010709,1),(387010709,2),(387010709,3)]
def bIn:KeyD (aUt++bSm):=bRv (by decide) (by decide)
def bVs {e:A0}(h:aG4 e):e.Kind=8->(bM aZ3,e.Value)∈aUt++bSm:=λq=>by
 have a:=h.2.2.2.1;have b:=h.2.2.2.2 (by omega);rw[bYm];rcases(show e.Value=0\/e.Value=1\/e.Value=2\/e.Value=3 by omega) with q|q|q|q<;>rw[q]<;>decide
def bSn {a u:AB}(h:dS a u=(a,true)):a.sz<=20/\u.sz<=20:=by
 have h2:(dS a u).2=true:=by rw[h]
 have h1:=aHa h2;rw[h] at h1;refine⟨h1,?_⟩;unfold dS at h2;cases hb:aR u with
 |true=>have:=mO hb;simp only[AB.sz];omega
 |false=>rw[hb,dl] at h2;cases h2
def bIo {S:List (Int×Int)}(a:KeyD S){w:AA}{v:List A0}(h:All S 0 w)(hv:∀e∈v,e.Kind=8->(bM aZ3,e.Value)∈S):∀k,k<=v.length->k<=58->All S k (runN w v k)
 |0,_,_=>h
 |k+1,h1,h2=>by
  have hm:v.getD k default∈v:=by rw[List.getD,ae (show k<v.length by omega)];exact cb _
  exact(bIo a h hv k (by omega) (by omega)).apply a (by omega) _ _ _ _ _ (hv _ hm)
def aJb (l:List Int)(h:aZ4 l):Ka l=some true:=by
 unfold Ka;cases hb:bN7 l with
 |true=>rfl
 |false=>
  have hlen:l.length<=1048576:=by unfold bN7 at hb;rw[ct] at hb;omega
  obtain⟨⟨n,k,t,p,s,e,ok,s1,s2⟩,el,ev⟩:=bSj hlen;rw[aa,aB hlen,bd_s];have hi:=aLn ok;have j:All (aUt++bSm) 0 (bY n k t p s):=bRy ok;have m:(bY n k t p s).sz<=100000:=bCn ..;have o:=bVq n k t p s;rw[<-e] at hi m o j;generalize(aLk l).1=w at*;generalize(aLk l).2=v at*;obtain⟨r,z,G⟩:=hi;have A:WIn w.Devices.length w:=by rw[z];exact r
  have R:=bDx (l:=v) A (by omega);have B:bCr w v:=⟨by omega,λq hq=>by have:=(R q).2.2.1;omega⟩;rw[aB B,bd_s];have hX:All (aUt++bSm) (min v.length 60) (bKf w v):=bIo bIn j (λe he=>bVs (ev e he)) _ (by omega) (by omega);have hX:=hX.mono (show min v.length 60<=19 by omega);obtain⟨_,_,D,_⟩:=R (min v.length 60);change (bKf w v).sz<=_ at D;generalize bKf w v=x at*;have H:x.sz<=300000:=by omega
  obtain⟨s1,s2,s3,s4,s5,s6,s7,s8,s9⟩:=bK2 bIn hX (by decide);have I:=bK6 x;have F:=s3.aDV;have hr:=aYl x;have c:=aXq x;rw[aB (show x.sz<=34359738368 by omega),bd_s,aB (show x.sz<=1000000000 by omega),bd_s];generalize kP x=y at*;generalize Gx x=u at*;have yz2:y.1.sz<=34359738368:=by omega
  have xz2:x.sz<=34359738368:=by omega
  have d:y.1.aAC.Log.length<=34359738368:=by simp only[AA.sz] at yz2;omega
  have f:x.aAC.Log.length<=34359738368:=by simp only[AA.sz] at xz2;omega
  rw[s1,s2];refine fD (a:=false) ?_ ?_
  ·simp only[ay,aa];refine fD (aB yz2) ?_;rw[s4];simp only[ay,aa];refine fD (aB (T9 yz2)) (fD (aB (T9 xz2)) ?_);unfold aZt;rw[s5];simp
  ·refine fD (aB (T9 xz2)) (aYt (b:=PUnit.unit) (aI0 (aX x).length (by omega) (λrec i hi=> ?_) (λrec=>by simp only[dJ,aa])) ?_)
   ·have hm:=cb hi;have hd:aL y.1 (aX x)[i]=true:=by unfold aL;rw[s6];exact c _ hm
    have q:=s9 _ hm;obtain⟨q1,q2⟩:=bSn q;simp only[cK hi,ac,s6,dr,aa,aN hi,bd_s,lM hd,aB (show bCs (aG y.1 (aX x)[i]).aAD u.1 from⟨q,by omega,by omega⟩),ay]
   ·refine fD (aB yz2) ?_;rw[F];refine fD (a:=true) ?_ rfl;rw[ac];refine fD (aB d) (fD (aB f) ?_);rw[s7];simp
end
end Go.VK
