import Derived.Test.YtkkjfhgcpofjbaaGreatDoorXyM
import Derived.Test.YtkkjfhgcpofjbaaGreatDoorLKatoz
/- Printed by wip/tools: models, walks, proofs. -/
set_option linter.all false
set_option maxRecDepth 100000
set_option maxHeartbeats 4000000
namespace Go.VK
open Go.RowKit Go.Proofs D
noncomputable section
open EV (cO)
def aY5 (a b c:Int):aIy a b c=some (bU a b c):=by unfold aIy bU;show bd (bif decide (b<=a) then some (decide (a<=c)) else some false) _=_;cases decide (b<=a)<;>rfl
def aOd (a b c:Int):Wh a b c=some (bU a b c):=by unfold Wh bU;cases decide (b<=a)<;>rfl
def bBl (p q:Int):aN8 p q=some (jO p q):=by
 grind[bHm,bU,aD,bQd,aN8]
def bBm (p q:Int):aOc p q=some (jO p q):=by
 unfold aOc;simp only[bd_bb];by_cases h:1<=q/\q<=1000000000000
 ·rw[aD (by omega)];by_cases ht:p.tmod q<0
  ·simp[h,ht,show ¬q<1 by omega,show ¬q>1000000000000 by omega,bQb h ht];rw[IntKind.wrap_i64];have:=Np (p:=p) (q:=q) h.1;omega
  grind[bQc]
 grind[bHm]
theorem aY6:((2147483647:Int)≠0)=True:=by simp
def aI0 (l:List Int)(h:l.length<=1099511627776):aIz l=some (Jg l):=by
 unfold aIz;rw[jK (l:=l) hstep (λ_ _=>True) (λs=>some s) (by omega) trivial (by simp) (λrec i s hi _=>by
  simp only[fO hi,ac,aQ hi,bd_s,aY6,gd_T];rfl) (by simp)]
 rfl
def aY7:= @aI0
def aGj (k:Int)(l:List Int)(h:l.length<=34359738368):Ke k l=some (bS k l):=by unfold Ke;rw[aD (by grind[bB]),aD (by grind[bB]),aD (by simp;omega)];simp[bS]
theorem O6 {α:Type}{r:List (List α)}{i:Nat}(hi:i<r.length):(r.take (i+1)).flatten=(r.take i).flatten++r[i]:=by
 grind[Option.toList_some,List.flatten_cons,List.flatten_nil,List.take_add_one,List.getElem?_eq_getElem,List.flatten_append]
def aQq (a:List Int)(r:List (List Int))(h:M3 a r):O4 a r=some (Al a r):=by
 unfold O4;have hs:∀i,(r.take i).flatten.length<=r.flatten.length:=(by grind[List.take_append_drop,List.flatten_append,List.length_append]);rw[aD (by grind[bB]),jK (l:=r) (λs x=>s++x) (λi s=>s=a++(r.take i).flatten) (λs=>some s) (by omega) (by simp)
  (by grind[O6,List.append_assoc])
  (λrec i s hi hv=>by
   have e:=O6 hi;have h1:=hs (i+1);rw[e,ax] at h1;simp only[fO hi,ac,aQ hi,bd_s];rw[aD (by grind[List.length_append,bB])]) (by simp)]
 have:r.foldl (λs x=>s++x) ([]++a)=a++r.flatten:=by rw[bv,aFv (f:=λx:List Int=>x)];simp
 rw[this];rfl
def aGk (k:Int)(l:List Int)(h:l.length<=34359738368):Kw k l=some (bS k l):=by
 grind[bS,Al,aD,bd_s,Kw]
def bBn (a b:Int):aN9 a b=some (aU1 a b):=by simp[aN9,aU1]
def aVp (n:Int):aDb n=some (jV n):=by simp[aDb,jV]
def aGl (k:Int)(l:List Int)(h:l.length<=34359738300):Kg k l=some (aV k l):=by unfold Kg;rw[aD (by grind[bB]),aD (by simp;omega),bd_s,aXs (mU _ _).1];rfl
def aGm (k:Int)(l:List Int)(h:l.length<=34359738300):Lg k l=some (aV k l):=by
 grind[aV,Al,aD,bd_s,Lg]
def Gr (n:Int):aC6 n=some (bN n):=rfl
def aDc:= @Gr
def Lm (n:Int):Kh n=some (fP n):=by unfold Kh fP;cases bN n<;>rfl
def aGn:= @Lm
def aGo (s:AI):aGf s=some (iH s):=by rfl
def F3 (s:AI):D8 s=some (aS s):=rfl
def F4 (s:AI):E9 s=some (aS s):=by rfl
def O7 (l:List Int)(x:Int)(h:l.length<=1099511627776):M6 l x=some (jJ l x):=by unfold M6;rw[pM (l:=l) (λe=>e==x) (.inl true) (.inr ()) (by omega) (by grind[fO,aQ,bd_s]) (by simp)];unfold jJ;cases l.any _<;>rfl
def bBo:= @O7
def aVq (s:List Int)(x:Int):jJ s x=s.contains x:=by
 grind[Bool.beq_comm,List.contains_eq_any_beq,jJ]
def aTr {s:List Int}{e:AF}(h:(e.Kind==1)=true):iY s e=bif !jJ s e.Device then s++[e.Device] else s:=by unfold iY;rw[h,aVq];cases s.contains e.Device<;>rfl
def aTs {s:List Int}{e:AF}(h:(e.Kind==1)=false):iY s e=bif e.Kind==2 then s.filter (λd=>d !=e.Device) else s:=by
 grind[iY]
def aGp (l:List AF)(h:l.length<=34359738368):Ki l=some (aC l):=by
 unfold Ki;rw[jK (l:=l) iY (λi s=>s.length<=i) (λs=>some s) (by omega) (by simp) (by grind[aIj])
  (λrec i s hi hv=>by
   simp only[fO hi,ac,aQ hi,bd_s];rw[aD (by omega)];have e:∀x:Int,cO (α:=List Int) FUEL (λa (i8:(List Int×Nat))=>bif (decide ((↑i8.2:Int)<(↑s.length:Int))) then(bd (bd (bC s (↑i8.2:Int)) λ(c:(Int))=>bif (c !=x) then(bd (bC s (↑i8.2:Int)) λ(b:(Int))=>gd (bB i8.1 [b]) (some (i8.1++[b]))) else(some (i8.1))) λ(f:(List Int))=>a ((f,(i8.2+1)))) else(some (i8.1))) ([],0)=some (s.filter λd=>d !=x):=λx=>by
    rw[jK (l:=s) (λq y=>bif y !=x then q++[y] else q) (λi q=>q.length<=i) (λq=>some q) (by omega) (by simp) (λi q hi hv=>by cases(s[i] !=x)<;>simp<;>omega)
     (by grind[fO,aQ,bd_s,aD,bB]) (by simp),Nq]
    simp
   rw[e];cases h1:(l[i].Kind==1) with
   |true=>
    have h2:(l[i].Kind==2)=false:=by simp_all
    rw[aTr h1,h2];rw[aD (by grind[bB])];cases jJ s l[i].Device<;>rfl
   |false=>
    rw[aTs h1,aD (by grind[bB])];cases(l[i].Kind==2)<;>rfl) (by simp)]
 rfl
def aGq (l:List AF)(h:l.length<=34359738368):Kv l=some (aC l):=by
 unfold Kv;rw[jK (l:=l) iY (λi s=>s.length<=i) (λs=>some s) (by omega) (by simp) (by grind[aIj])
  (λrec i s hi hv=>by
   simp only[fO hi,ac,aQ hi,bd_s];rw[aD (by omega)];have e:∀x:Int,cO (α:=List Int) FUEL (λb (a:(List Int×Nat))=>bif (decide ((↑a.2:Int)<(↑s.length:Int))) then(bd (bd (bC s (↑a.2:Int)) λ(c:(Int))=>bif (c !=x) then(gd (bB a.1 [c]) (some (a.1++[c]))) else(some (a.1))) λ(f:(List Int))=>b ((f,(a.2+1)))) else(some (a.1))) ([],0)=some (s.filter λd=>d !=x):=λx=>by
    rw[jK (l:=s) (λq y=>bif y !=x then q++[y] else q) (λi q=>q.length<=i) (λq=>some q) (by omega) (by simp) (λi q hi hv=>by cases(s[i] !=x)<;>simp<;>omega)
     (by grind[fO,aQ,bd_s,aD,bB]) (by simp),Nq]
    simp
   rw[e];cases h1:(l[i].Kind==1) with
   |true=>rw[aTr h1,aD (by grind[bB])];cases jJ s l[i].Device<;>rfl
   |false=>
    rw[aTs h1];cases(l[i].Kind==2)<;>rfl) (by simp)]
 rfl
def aGr (w:AA)(d:Int):La w d=some (aO w d):=by unfold La aO;show bd (bif decide (0<=d) then _ else _) _=_;cases decide (0<=d)<;>rfl
def aQr (w:AA)(d:Int)(h:WOk w):O0 w d=some (bZ w d):=by
 unfold O0 bZ;rw[aSw h];have hl:=gP w.aAA.Log;have a:=h.2.2.1;cases hd:aO w d with
 |false=>rfl
 |true=>simp only[ac,nX hd,bd_s,aD a,aD (show(aC w.aAA.Log).length<=1099511627776 by omega),db]
def aOe (a:AG)(s h:Int):Vq a s h=some (mP a s h):=by unfold Vq mP;cases decide (a.Site<s)<;>cases(a.Site==s)<;>rfl
def X4 (a b:AG):Cj a b=some (eX a b):=by unfold Cj eX;cases decide (a.Site<b.Site)<;>cases(a.Site==b.Site)<;>rfl
def aY8 {l:List AG}{i:Nat}(hi:i<l.length)(hl:l.length<=34359738368){q:AG->Bool}(hq:∀x,q x=eX x l[i]):
  (bif (!bU l[i].Site (0:Int) (2147483646:Int)) then(some (true)) else(bif (!bU l[i].Handle (0:Int) (1000000:Int)) then(some (true)) else(bif (!bU l[i].Version (1:Int) (1000000:Int)) then(some (true)) else(bif (decide ((i:Int)>(0:Int))) then(bd (bC l (IntKind.i64.wrap ((i:Int)-(1:Int)))) λ(a:(AG))=>some (!q a)) else(some (false))))))=some (Ui l i l[i]):=by
 unfold Ui;cases bU l[i].Site 0 2147483646 with
 |false=>rfl
 |true=>
  cases bU l[i].Handle 0 1000000 with
  |false=>rfl
  |true=>
   cases bU l[i].Version 1 1000000 with
   |false=>rfl
   |true=>
    by_cases h0:(i:Int)>0
    ·rw[au h0,aL (by omega) (by omega)];have b:bC l ((i:Int)-1)=some l[i-1]:=by
      grind[aQ]
     grind[bd_s,Bool.not_true,default,List.getD,List.getElem?_eq_getElem]
    simp_all
def aJp (b:AB)(h:b.sz<=34359738368):Pz b=some (aP b):=by
 simp only[AB.sz] at h;unfold Pz aP;rw[kG (l:=b.Entries) (Ui b.Entries) (.inl false) (.inr ()) (by omega) (λrec i hi=>by
  simp only[fO hi,ac,aQ hi,bd_s];rw[aY8 hi h (q:=λx=>mP x b.Entries[i].Site b.Entries[i].Handle) (λx=>rfl)];rfl) (by simp)]
 grind[iG,Ui,nx]
def aJq (b:AB)(h:b.sz<=34359738368):Qj b=some (aP b):=by
 simp only[AB.sz] at h;unfold Qj aP;by_cases a:(b.Entries.length:Int)>20
 ·grind
 ·rw[av a,show decide ((b.Entries.length:Int)<=20)=true from au (by omega),ae];rw[kG (l:=b.Entries) (Ui b.Entries) (.inl false) (.inr ()) (by omega) (λrec i hi=>by
   simp only[fO hi,ac,aQ hi,bd_s];rw[aY8 hi h (q:=λx=>eX x b.Entries[i]) (λx=>rfl)];rfl) (by simp)]
  cases iG (Ui b.Entries) 0 b.Entries<;>rfl
def aGs (b:AB)(s h:Int)(a:b.sz<=34359738368):Km b s h=some (aN b s h):=by simp only[AB.sz] at a;unfold Km aN;exact Uc (l:=b.Entries) (λ(e:AG)=>e.Site==s&&e.Handle==h) (by omega) (by grind[fO,aQ,bd_s]) (by simp)
def Wp (b:AB)(h:b.sz<=34359738368):Vo b=some (b):=by simp only[AB.sz] at h;unfold Vo;rw[aD (by grind[List.length_nil,bB])];rfl
def aDd:= @Wp
theorem aVr (p:AG->Bool):∀(l:List AG) (i:Nat),i<=(l.takeWhile p).length->(∃hi:i<l.length,p l[i]=true/\i<(l.takeWhile p).length)\/(i=(l.takeWhile p).length/\∀hi:i<l.length,p l[i]=false)
 |[],i,h=> .inr ⟨by simpa using h,λhi=>by simp at hi⟩
 |x::l,i,h=>by
  rw[dc] at h ⊢;cases hp:p x with
  |false=>rw[hp] at h;simp at h;subst h;exact .inr ⟨by simp,λ_=>hp⟩
  |true=>
   rw[hp] at h;simp only[io,aw] at h ⊢;cases i with
   |zero=>exact .inl ⟨by simp,hp,by omega⟩
   |succ i=>
    rcases aVr p l i (by omega) with⟨h1,h2,a⟩|⟨h1,h2⟩
    ·exact .inl ⟨by simpa using h1,h2,by omega⟩
    ·exact .inr ⟨by omega,λhi=>h2 (by simpa using hi)⟩
def bDx (p:AG->Bool):∀l:List AG,l.take (l.takeWhile p).length=l.takeWhile p
 |[]=>rfl
 |x::l=>by
  rw[dc];cases p x with
  |false=>rfl
  |true=>simp only[io,aw,ip];rw[bDx p l]
def bDy (p:AG->Bool):∀l:List AG,l.drop (l.takeWhile p).length=l.dropWhile p
 |[]=>rfl
 |x::l=>by
  rw[dc,List.dropWhile_cons];cases p x with
  |false=>rfl
  |true=>simp only[io,aw,gl];rw[bDy p l]
def aQs (b:AB)(x:AG)(h:b.sz<=34359738360):M9 b x=some (pO b x):=by
 have d:=h;simp only[AB.sz] at h;unfold M9 pO;rw[aD (by omega),bd_s,aD (by omega),bd_s];by_cases c:aN b x.Site x.Handle>=0
 ·rw[au c,ac,ac];have:=aLo (by assumption);simp_all[nV,aN]
 ·rw[av c,ae,ae];have a:(b.Entries.takeWhile λe=>mP e x.Site x.Handle).length<=b.Entries.length:=(List.takeWhile_sublist _).length_le;rw[aJf (λi s=>i<=(b.Entries.takeWhile λe=>mP e x.Site x.Handle).length/\s=(i:Int)) b.Entries.length (some ((b.Entries.takeWhile λe=>mP e x.Site x.Handle).length:Int)) (s:=(0:Int)) (by omega) ⟨by omega,rfl⟩ (by grind[aVr,fO,aQ,bd_s,aL]) (by grind[mP,bd_s]),bd_s];rw[aD ⟨by omega,by simpa using a⟩,aD ⟨by omega,by simpa using a⟩,aD (by grind[bB]),aD (by grind[bB]),aD (by grind[bB])];rw[bm,bv];rw[bDx,bDy]
theorem bGw {l:List AG}{k:Int}(h0:0<=k)(h1:k.toNat<l.length)(x:AG):(bd (bC l k) λ(b:AG)=>bif (decide (x.Version>b.Version)) then(some (true)) else(bd (bC l k) λ(a:AG)=>bif (x.Version==a.Version) then(some (x.Deleted)) else(some (false))))=some (qD x (l.getD k.toNat default)):=by rw[nV h0 h1,List.getD,ab h1,cM];simp only[bd_s];unfold qD;cases decide (x.Version>l[k.toNat].Version)<;>cases(x.Version==l[k.toNat].Version)<;>rfl
def F5 (a b:AB)(h:a.sz<=34359738368/\b.sz<=34359738368):xX a b=some (fZ a b):=by
 unfold xX fZ;rw[aD h.1,bd_s];cases f:aP a with
 |false=>simp[*]
 |true=>
  rw[aD h.2];cases hb:aP b with
  |false=>simp[*]
  |true=>
   obtain⟨n,j⟩:=aMx f;obtain⟨p,k⟩:=aMx hb;rw[aD h.1];simp only[ay,ae,ac,bd_s,dl];rw[aSu (l:=b.Entries) (s0:=a.Entries) (λo x=>bM o [x]) (λi o=>srt o/\o.length<=20+i) (λo=>some o) (by omega) ⟨j,by omega⟩ (λi o hi hv=>by
     have:=zT _ o [b.Entries[i]] (ak _)
     grind[bC8,List.length_singleton]) (λrec i o hi hv=>by
     obtain⟨hs,hl⟩:=hv;simp only[fO hi,ac,aQ hi,bd_s];rw[aD (by grind[AB.sz]),bd_s,<-aXx hs];have hk:(bif decide (aN ⟨o⟩ b.Entries[i].Site b.Entries[i].Handle<0) then some true else bd (bC o (aN ⟨o⟩ b.Entries[i].Site b.Entries[i].Handle)) λ(m:AG)=>bif (decide (b.Entries[i].Version>m.Version)) then(some (true)) else(bd (bC o (aN ⟨o⟩ b.Entries[i].Site b.Entries[i].Handle)) λ(c:AG)=>bif (b.Entries[i].Version==c.Version) then(some (b.Entries[i].Deleted)) else(some (false))))=some (decide (aN ⟨o⟩ b.Entries[i].Site b.Entries[i].Handle<0)||qD b.Entries[i] (o.getD (aN ⟨o⟩ b.Entries[i].Site b.Entries[i].Handle).toNat default)):=by
      by_cases d:aN ⟨o⟩ b.Entries[i].Site b.Entries[i].Handle<0
      ·simp[*]
      ·rw[av d,ae];have:=aLo (show 0<=kV (λ(e:AG)=>e.Site==b.Entries[i].Site&&e.Handle==b.Entries[i].Handle) 0 o from by unfold aN at d;simp only at d;omega)
       grind[bGw,aN]
     grind[decide,aN,qD,default,aD,AB.sz,bd_s]) (by simp)]
   rw[aMw _ _ k,bd_s];have hm:=zT _ a.Entries b.Entries (ak _);rw[aD (by grind[AB.sz]),bd_s];cases aP ⟨bM a.Entries b.Entries⟩<;>rfl
def drop_at {l:List AG}{i:Nat}(h:i<l.length):l.drop i=l[i]::l.drop (i+1):=cG h
def bBp (e f:AG){X:Int×Int×Int×Bool->Option (List AG)}:(bd (bd (bif (decide (f.Version>e.Version)) then(some (true)) else(bif (f.Version==e.Version) then(some (f.Deleted)) else(some (false)))) λ(a:Bool)=>bif a then(some (f.Site,f.Handle,f.Version,f.Deleted)) else(some (e.Site,e.Handle,e.Version,e.Deleted))) X)=X ((qM e f).Site,(qM e f).Handle,(qM e f).Version,(qM e f).Deleted):=by unfold qM qD;cases decide (f.Version>e.Version)<;>cases(f.Version==e.Version)<;>cases hd:f.Deleted<;>simp[bd,hd]
def F6 (a b:AB)(h:a.sz<=34359738368/\b.sz<=34359738368):yE a b=some (fZ a b):=by
 unfold yE fZ;rw[aD h.1,bd_s];cases j:aP a with
 |false=>simp[*]
 |true=>
  rw[aD h.2];cases hb:aP b with
  |false=>simp[*]
  |true=>
   obtain⟨p,q⟩:=aMx j;obtain⟨r,t⟩:=aMx hb;simp only[ay,ae,ac,bd_s,dl];have hm:=zT _ a.Entries b.Entries (ak _);rw[aJf (λn s=>∃(i k:Nat) (o:List AG),s=((i:Int),(k:Int),o)/\i<=a.Entries.length/\k<=b.Entries.length/\n<=i+k/\o++bM (a.Entries.drop i) (b.Entries.drop k)=bM a.Entries b.Entries) (a.Entries.length+b.Entries.length) (some (bM a.Entries b.Entries)) (s:=((0:Int),(0:Int),([]:List AG))) (by omega) ⟨0,0,[],rfl,by omega,by omega,by omega,rfl⟩ (λn s rec hn hv=>by
     obtain⟨i,k,o,rfl,hi,hk,l,ho⟩:=hv;have m:o.length<=40:=by grind
     have f:∀x:AG,bB o [x]:=(by grind[bB,List.length_singleton]);have wi:IntKind.i64.wrap ((i:Int)+1)=((i+1:Nat):Int):=by grind[aL]
     have wk:IntKind.i64.wrap ((k:Int)+1)=((k+1:Nat):Int):=by grind[aL]
     rcases fY i a.Entries.length with d|d
     ·have ne1:((i:Int)==(a.Entries.length:Int))=false:=by simp;omega
      rw[drop_at d] at ho;rcases fY k b.Entries.length with c|c
      ·have ne2:((k:Int)==(b.Entries.length:Int))=false:=by simp;omega
       rw[drop_at c,vI] at ho;simp only[fO d,fO c,ac,bd_s,ne2,ae,aQ d,aQ c,ne1,aD (f _),wi,wk,bBp];cases h1:eX a.Entries[i] b.Entries[k] with
       |true=>rw[h1,ac,<-drop_at c] at ho;exact .inl ⟨_,⟨i+1,k,o++[a.Entries[i]],rfl,by omega,hk,by omega,by rw[<-ho];simp⟩,rfl⟩
       |false=>
        cases h2:eX b.Entries[k] a.Entries[i] with
        |true=>rw[h1,ae,h2,ac,<-drop_at d] at ho;exact .inl ⟨_,⟨i,k+1,o++[b.Entries[k]],rfl,hi,by omega,by omega,by rw[<-ho];simp⟩,rfl⟩
        |false=>rw[h1,ae,h2,ae] at ho;exact .inl ⟨_,⟨i+1,k+1,o++[qM a.Entries[i] b.Entries[k]],rfl,by omega,by omega,by omega,by rw[<-ho];simp⟩,rfl⟩
      ·have e:k=b.Entries.length:=by omega
       subst e;rw[dz,fJ] at ho;simp only[fO d,ac,bd_s,dk,aQ d,aD (f _),wi];exact .inl ⟨_,⟨i+1,_,o++[a.Entries[i]],rfl,by omega,ak _,by omega,by rw[dz,fJ,<-ho];simp⟩,rfl⟩
     ·have e:i=a.Entries.length:=by omega
      subst e;rw[dz,iQ] at ho;rcases fY k b.Entries.length with c|c
      ·have ne2:((k:Int)==(b.Entries.length:Int))=false:=by simp;omega
       simp only[U0,ae,fO c,bd_s,ac,ne2,dk,aQ c,aD (f _),wk];exact .inl ⟨_,⟨_,k+1,o++[b.Entries[k]],rfl,ak _,by omega,by omega,by rw[dz,iQ,<-ho,drop_at c];simp⟩,rfl⟩
      grind[List.drop_length,bd_s]) (by grind[List.drop_length,fJ,bd_s])]
   rw[bd_s,aD (by grind[AB.sz]),bd_s,aD h.1];cases aP ⟨bM a.Entries b.Entries⟩<;>rfl
def Wq (l:List AF)(h:l.length<=34359738368):Ve l=some l:=by
 grind[xH,Ve]
def aOf:= @Wq
def aGt (l:List Int)(h:l.length<=34359738368):Lb l=some l:=by
 grind[xH,Lb]
def Ws (d:AC)(h:d.sz<=34359738368):Vp d=some d:=by simp only[AC.sz] at h;unfold Vp;simp only[aD (show d.Log.length<=34359738368 by omega),aD (show d.aAC.sz<=34359738368 by simp only[AB.sz];omega),bd_s]
def aDe:= @Ws
def aOg (e:AK)(h:e.sz<=34359738368):Vi e=some e:=by
 simp only[AK.sz] at h;unfold Vi;rw[aIm (l:=e.Boxes) (by omega) (λrec i s hi hs=>by
  have a:=mR (f:=AQ.sz) hi;simp only[AQ.sz] at a h;simp only[fO hi,ac,aQ hi,bd_s,xH (show e.Boxes[i].Data.length<=34359738368 by omega),gQ hs,bv]) (by simp)]
 rfl
def aGu (l:List AQ)(h:szL AQ.sz l<=34359738368):Lc l=some l:=by
 unfold Lc;unfold szL at h;rw[bOu (l:=l) (by omega) (λrec i s hi hs=>by
  have a:=mR (f:=AQ.sz) hi;simp only[AQ.sz] at a h;simp only[fO hi,ac,aQ hi,bd_s,aD (show l[i].Data.length<=34359738368 by omega),gQ hs]) (by simp)]
 rfl
def Ri (e:AK)(h:e.sz<=34359738368):uJ e=some e:=by unfold uJ;simp only[aD (show szL AQ.sz e.Boxes<=34359738368 from h),bd_s]
def aOh (e:AJ)(h:e.sz<=34359738368):Vr e=some e:=by unfold Vr;rw[xH h];rfl
def aDf (e:AJ)(h:e.sz<=34359738368):Gd e=some e:=by unfold Gd;simp only[aD (show e.Data.length<=34359738368 from h),bd_s]
def Wt (c:AM)(h:c.sz<=34359738368):Vs c=some c:=by simp only[AM.sz] at h;unfold Vs;rw[aIm (l:=c.History) (by omega) (by grind[mR,AJ.sz,fO,aQ,bd_s,aD,gQ]) (by simp)];simp only[aD (show c.Log.length<=34359738368 by omega),aD (show c.Boxes.sz<=34359738368 by simp only[AK.sz];omega),bd_s]
def aGv:= @Wt
def Wu (e:AH)(h:e.sz<=34359738368):Vl e=some e:=by unfold Vl;rw[xH h];rfl
def X5:= @Wu
def Ww (e:AR)(h:e.sz<=34359738368):Vm e=some e:=by unfold Vm;rw[xH h];rfl
def aJr:= @Ww
def aOi (s:AD)(h:s.sz<=34359738368):Vn s=some s:=by simp only[AD.sz] at h;unfold Vn;rw[aIm (l:=s.Accounts) (by omega) (by grind[mR,AH.sz,fO,aQ,bd_s,aD,gQ]) (by simp)];simp only[aD (show s.Book.sz<=34359738368 by simp only[AR.sz];omega),bd_s,xH (show s.Logins.length<=34359738368 by omega),bv]
def aJs (s:AD)(h:s.sz<=34359738368):Qi s=some s:=by simp only[AD.sz] at h;unfold Qi;rw[aIm (l:=s.Accounts) (by omega) (by grind[mR,AH.sz,fO,aQ,bd_s,aD,gQ]) (by simp)];simp only[aD (show s.Book.sz<=34359738368 by simp only[AR.sz];omega),bd_s,aD (show M3 s.Logins [] by unfold M3;simp;omega)];simp[Al]
def Wx (e:AO)(h:e.sz<=34359738368):Vy e=some e:=by unfold Vy;rw[xH h];rfl
def aJt:= @Wx
def Ql (l:List AO)(h:szL AO.sz l<=34359738368):Qd l=some l:=by
 unfold Qd;unfold szL at h;rw[bOu (l:=l) (by omega) (λrec i s hi hs=>by
  have a:=mR (f:=AO.sz) hi;simp only[fO hi,ac,aQ hi,bd_s,aD (show l[i].sz<=34359738368 by omega),gQ hs]) (λrec s=>by simp only[U0,ae])]
 rfl
def aGw:= @Ql
def Wy (e:AP)(h:e.sz<=34359738368):Vz e=some e:=by unfold Vz;rw[xH h];rfl
def aJu:= @Wy
def aOj (w:AA)(h:w.sz<=34359738368):Wd w=some w:=by
 simp only[AA.sz] at h;unfold Wd;rw[aIm (l:=w.Devices) (by omega) (λrec i q hi hs=>by
  have a:=mR (f:=AC.sz) hi;simp only[fO hi,ac,aQ hi,bd_s,aD (show w.Devices[i].sz<=34359738368 by omega),gQ hs]) (λrec q=>by simp only[U0,ae]),
  aIm (l:=w.Sites) (by omega) (λrec i q hi hs=>by
  have a:=mR (f:=AD.sz) hi;simp only[fO hi,ac,aQ hi,bd_s,aD (show w.Sites[i].sz<=34359738368 by omega),gQ hs]) (λrec q=>by simp only[U0,ae])]
 simp only[bd_s,xH (show w.Stolen.length<=34359738368 by omega),aD (show w.aAA.sz<=34359738368 by simp only[AM.sz];omega),aD (show szL AO.sz w.Hosts<=34359738368 by unfold szL;omega),aD (show w.Mail.sz<=34359738368 by simp only[AP.sz];omega),bv]
def aGx (w:AA)(h:w.sz<=34359738368):Ld w=some w:=by
 simp only[AA.sz] at h;unfold Ld;rw[aIm (l:=w.Devices) (by omega) (by grind[mR,AC.sz,fO,aQ,bd_s,aD,gQ]) (by simp),
  aIm (l:=w.Sites) (by omega) (by grind[mR,AD.sz,fO,aQ,bd_s,aD,gQ]) (by simp)]
 simp only[bd_s,xH (show w.Stolen.length<=34359738368 by omega),aD (show w.aAA.sz<=34359738368 by simp only[AM.sz];omega),aD (show szL AO.sz w.Hosts<=34359738368 by unfold szL;omega),aD (show w.Mail.sz<=34359738368 by simp only[AP.sz];omega),bv]
theorem aVs {F:(Int×Int×Int->Option Int)->Int×Int×Int->Option Int}(a:∀rec (b n s:Int),0<=n->n<9223372036854775807->F rec (b,n,s)=bif decide (n>0) then rec ((IntKind.i64.wrap (b*b)).tmod 2147483647,n/2,bif n%2==1 then(IntKind.i64.wrap (s*b)).tmod 2147483647 else s) else some s):
  ∀(k:Nat) (b n s:Int) (f:Nat),k<f->0<=n->n<2^k->k<=62->cO f F (b,n,s)=some (bFh k b n s)
 |0,b,n,s,f+1,c,h0,h1,hk=>by
  have:n=0:=by simp at h1;omega
  subst this;rw[iW,a _ _ _ _ (by omega) (by omega)];rfl
 |k+1,b,n,s,f+1,c,h0,h1,hk=>by
  have h2:(2:Int)^(k+1)=2*2^k:=by rw[fq];omega
  have d:n<2^62:=Int.lt_of_lt_of_le h1 (by exact_mod_cast ia (by omega) hk);rw[iW,a _ _ _ _ h0 (by omega)];unfold bFh;by_cases hn:n>0
  ·rw[au hn,ac,cW hn];exact aVs a k _ (n/2) _ f (by omega) (by omega) (by omega) (by omega)
  ·rw[av hn,ae,dm hn]
def aOk (b n:Int)(h:0<=n/\n<2147483648):sO b n=some (bFh 31 b n 1):=by
 grind[aVs,qB,and_one,Ik,bC4,aY6,gd_T,bd_s,aD,FUEL,iB,sO]
def aQt (b n:Int)(h:0<=n/\n<2147483648)(hb:0<=b/\b<2147483647):zO b n 2147483647=some (bFh 31 b n 1):=by unfold zO;rw[show b.tmod 2147483647=b by rw[cz hb.1];omega,show(1:Int).tmod 2147483647=1 by decide,aVs (by grind[Int.tmod_eq_emod_of_nonneg,Int.tdiv_eq_ediv_of_nonneg,aL,aY6,gd_T,bd_s]) 31 b n 1 FUEL (by grind[iB]) h.1 (by omega) (by omega)];rfl
def aDg (q:Int):Fa q=some (iM q):=by
 unfold Fa iM;rw[aOk _ _ (by decide),bC5,show bU q 1 2147483646=bN q from rfl]
 grind[bN,iA,aL,Bool.not_true,bd_s,aY6,gd_T,Int.tmod_eq_emod_of_nonneg,fP,bU,decide_true,Bool.and_self,bne_self_eq_false]
def aDh (q:Int):Gb q=some (iM q):=by
 unfold Gb iM;rw[aQt _ _ (by decide) (by decide),bC5];cases hk:bN q with
 |false=>rfl
 |true=>
  have hr:=iA hk
  grind[Bool.not_true,bd_s,aY6,gd_T,Int.tmod_eq_emod_of_nonneg,aL]
def X6 (p:Int)(l:List Int)(h:l.length<=34359738300):Bc p l=some (qL p l):=by unfold Bc qL;rw[aD (by grind[bB]),aD (by simp;omega)];cases bN p<;>rfl
def X7 (p:Int)(l:List Int)(h:l.length<=34359738300):Cg p l=some (qL p l):=by unfold Cg qL;rw[aD (by grind),bd_s,aD (by grind[Al])];cases bN p<;>simp[Al]
def sW (q:Int)(l:List Int)(g:Int)(h:l.length<=34359738300):sP q l g=some (iI q l g):=by unfold sP iI;simp only[aD h,bd_s,p8];cases(iM q !=0)<;>rfl
def Oy:= @sW
def aTt (b:AR)(h:b.Open.length<=34359738368){τ:Type}(rec:Nat->Option τ)(r:Option τ)(i:Nat)(hi:i<b.Open.length):(bd (bif (!bU b.Open[i].Id (0:Int) (IntKind.i64.wrap (b.Next-(1:Int)))) then(some (true)) else(bif (decide ((↑i:Int)>(0:Int))) then(bd (bC (b.Open) (IntKind.i64.wrap ((↑i:Int)-(1:Int)))) λa=>bif (decide (a.Id>=b.Open[i].Id)) then(some (true)) else(bif (!bU b.Open[i].aAH (0:Int) (1000005:Int)) then(some (true)) else(some (!bU b.Open[i].Until (0:Int) (1000005:Int))))) else(bif (!bU b.Open[i].aAH (0:Int) (1000005:Int)) then(some (true)) else(some (!bU b.Open[i].Until (0:Int) (1000005:Int)))))) λc=>bif c then r else(rec (i+1)))=bif iC b i b.Open[i] then r else rec (i+1):=by
 grind[decide,decide_eq_false,bU,Ue,bd_s,decide_eq_true,default,iC]
def X8 (b:AR)(h:b.sz<=34359738368):Bf b=some (fQ b):=by
 simp only[AR.sz] at h;unfold Bf fQ;rw[kG (l:=b.Open) (iC b) (.inl false) (.inr ()) (by omega) (λrec i hi=>by
  simp only[fO hi,ac,aQ hi,bd_s];exact aTt b h rec _ i hi) (by simp)]
 rw[show decide ((b.Open.length:Int)<=16)=decide (b.Open.length<=16) from di.2 (by omega)];cases bU b.Next 0 1000000<;>cases decide (b.Open.length<=16)<;>cases iG (iC b) 0 b.Open<;>rfl
def X9 (b:AR)(h:b.sz<=34359738368):Ce b=some (fQ b):=by
 simp only[AR.sz] at h;unfold Ce fQ;rw[kG (l:=b.Open) (iC b) (.inl false) (.inr ()) (by omega) (λrec i hi=>by
  simp only[fO hi,ac,aQ hi,bd_s];exact aTt b h rec _ i hi) (by simp)]
 rw[show decide ((b.Open.length:Int)>16)= !decide (b.Open.length<=16) by rw[<-decide_not];exact di.2 (by omega)];cases bU b.Next 0 1000000<;>cases decide (b.Open.length<=16)<;>cases iG (iC b) 0 b.Open<;>rfl
def aTu (m:AP)(h:m.Notices.length<=34359738368){τ:Type}(rec:Nat->Option τ)(r:Option τ)(i:Nat)(hi:i<m.Notices.length):(bd (bif (!bU m.Notices[i].Kind (1:Int) (5:Int)) then(some (true)) else(bif (!bU m.Notices[i].aAH (0:Int) (1000000:Int)) then(some (true)) else(bif (!bU m.Notices[i].Time (0:Int) (1000000:Int)) then(some (true)) else(bif (decide ((↑i:Int)>(0:Int))) then(bd (bC (m.Notices) (IntKind.i64.wrap ((↑i:Int)-(1:Int)))) λa=>some (decide (a.Time>m.Notices[i].Time))) else(some (false)))))) λb=>bif b then r else(rec (i+1)))=bif vH m.Notices i m.Notices[i] then r else rec (i+1):=by
 grind[decide,decide_eq_false,bU,Ue,bd_s,decide_eq_true,default,vH]
def Rj (m:AP)(h:m.sz<=34359738368):uD m=some (eY m):=by
 simp only[AP.sz] at h;unfold uD eY;rw[kG (l:=m.Notices) (vH m.Notices) (.inl false) (.inr ()) (by omega) (λrec i hi=>by
  simp only[fO hi,ac,aQ hi,bd_s];exact aTu m h rec _ i hi) (λrec=>by simp only[U0,ae])]
 rw[show decide ((m.Notices.length:Int)<=30)=decide (m.Notices.length<=30) from di.2 (by omega)];cases decide (m.Notices.length<=30)<;>cases iG (vH m.Notices) 0 m.Notices<;>rfl
def Rk (m:AP)(h:m.sz<=34359738368):uI m=some (eY m):=by
 simp only[AP.sz] at h;unfold uI eY;rw[kG (l:=m.Notices) (vH m.Notices) (.inl false) (.inr ()) (by omega) (λrec i hi=>by
  simp only[fO hi,ac,aQ hi,bd_s];exact aTu m h rec _ i hi) (by simp)]
 rw[show decide ((m.Notices.length:Int)>30)= !decide (m.Notices.length<=30) by rw[<-decide_not];exact di.2 (by omega)];cases decide (m.Notices.length<=30)<;>cases iG (vH m.Notices) 0 m.Notices<;>rfl
def Qm (i:Int):Pw i=some (aA i):=by unfold Pw aA;cases i==0<;>cases i==1<;>rfl
def aJv:= @Qm
def Lp (e:AF):aGg e=some (dZ e):=by rfl
def aGy:= @Lp
def Wz (l:List AF)(h:l.length<=34359738368):Vd l=some (jQ l):=by
 unfold Vd jQ;cases hl:((l.length:Int)==0) with
 |true=>rfl
 |false=>
  have:l.length≠0:=by simp_all
  rw[aL (by omega) (by omega),show(l.length:Int)-1=((l.length-1:Nat):Int) by omega,aQ (by omega)];simp[List.getD,ab (show l.length-1<l.length by omega)]
def aOl:= @Wz
def aDi (l:List AF)(p:Int)(h:l.length<=34359738368):Gc l p=some (gD l p):=by unfold Gc;rw[pM (l:=l) (λe=>e.Kind==2&&e.Device==p) (.inl true) (.inr ()) (by omega) (by grind[fO,aQ,bd_s]) (by simp)];unfold gD;cases l.any _<;>rfl
def aOm (l:List AV)(p:Int)(i:Nat)(hi:i<=l.length)(h:l.length<=34359738368){F:(Nat->Option ((Bool⊕PUnit)⊕PUnit))->Nat->Option ((Bool⊕PUnit)⊕PUnit)}(a:∀rec j (hj:j<i),F rec j=bif (l[j]'(by omega)).Public==p then some (.inl (.inl false)) else rec (j+1))(b:∀rec,F rec i=some (.inr ())):
  cO FUEL F 0=some (bif (l.take i).any (λq=>q.Public==p) then .inl (.inl false) else .inr ()):=by
 have ht:(l.take i).length=i:=by simp[*]
 exact pM (l:=l.take i) (λq=>q.Public==p) _ _ (by omega) (by simp_all) (by simp[*])
def aY9 (a:AH)(h:a.Credentials.length<=34359738368)(i:Nat)(hi:i<a.Credentials.length){τ:Type}{X:Option τ}{r:Option τ}{K:Option τ}(hX:X=bif (a.Credentials.take i).any (λq=>q.Public==a.Credentials[i].Public) then r else K):
  (bd (bif (!bU a.Credentials[i].Handle (0:Int) (1000000:Int)) then(some (true)) else(bif (decide ((↑i:Int)>(0:Int))) then(bd (bC (a.Credentials) (IntKind.i64.wrap ((↑i:Int)-(1:Int)))) λb=>bif (decide (b.Handle>=a.Credentials[i].Handle)) then(some (true)) else(bd (some (iM a.Credentials[i].Public)) λc=>bif (c==(0:Int)) then(some (true)) else(some (!bU a.Credentials[i].Counter (0:Int) (1000000:Int))))) else(bd (some (iM a.Credentials[i].Public)) λb=>bif (b==(0:Int)) then(some (true)) else(some (!bU a.Credentials[i].Counter (0:Int) (1000000:Int)))))) λd=>bif d then r else X)=bif wB a i a.Credentials[i] then r else K:=by
 grind[decide,decide_eq_false,bd_s,bU,iM,Ue,decide_eq_true,default,wB]
def Rl (a:AH)(h:a.sz<=34359738368):uA a=some (bA a):=by
 simp only[AH.sz] at h;unfold uA bA;rw[kG (l:=a.Credentials) (wB a) (.inl false) (.inr ()) (by omega) (λrec i hi=>by
  simp only[fO hi,ac,aQ hi,bd_s];rw[aOm a.Credentials a.Credentials[i].Public i (by omega) h (by grind[fO,aQ,bd_s]) (by simp)];have:=aY9 a h i hi (X:=nx (some (bif (a.Credentials.take i).any (λq=>q.Public==a.Credentials[i].Public) then Sum.inl (Sum.inl false) else Sum.inr PUnit.unit)) λ_=>rec (i+1)) (r:=some (.inl false)) (K:=rec (i+1)) (by cases(a.Credentials.take i).any _<;>rfl);rw[<-this];simp only[bd_s];generalize(bif !bU a.Credentials[i].Handle 0 1000000 then _ else _:Option Bool)=q;cases q with
  |none=>rfl
  |some b=>cases b<;>rfl) (by simp)]
 rw[show decide ((a.Credentials.length:Int)<=8)=decide (a.Credentials.length<=8) from di.2 (by omega)];cases bU a.Id 0 1000000<;>cases bU a.Minimum 1 3<;>cases decide (a.Credentials.length<=8)<;>cases iG (wB a) 0 a.Credentials<;>rfl
def Rm (a:AH)(h:a.sz<=34359738368):uH a=some (bA a):=by
 simp only[AH.sz] at h;unfold uH bA;rw[kG (l:=a.Credentials) (wB a) (.inl false) (.inr ()) (by omega) (λrec i hi=>by
  have ht:(a.Credentials.take i).length=i:=by grind
  simp only[fO hi,ac,aQ hi,bd_s,aK0];rw[aD (by grind[jU])];rw[aOm a.Credentials a.Credentials[i].Public i (by omega) h (by grind[fO,aQ,bd_s]) (by simp[*])];have:=aY9 a h i hi (X:=nx (some (bif (a.Credentials.take i).any (λq=>q.Public==a.Credentials[i].Public) then Sum.inl (Sum.inl false) else Sum.inr PUnit.unit)) λ_=>rec (i+1)) (r:=some (.inl false)) (K:=rec (i+1)) (by cases(a.Credentials.take i).any _<;>rfl);rw[<-this];simp only[bd_s];generalize(bif !bU a.Credentials[i].Handle 0 1000000 then _ else _:Option Bool)=q;cases q with
  |none=>rfl
  |some b=>cases b<;>rfl) (by simp)]
 rw[show decide ((a.Credentials.length:Int)>8)= !decide (a.Credentials.length<=8) by rw[<-decide_not];exact di.2 (by omega)];cases bU a.Id 0 1000000<;>cases bU a.Minimum 1 3<;>cases decide (a.Credentials.length<=8)<;>cases iG (wB a) 0 a.Credentials<;>rfl
def vO (s:ByteArray)(hs:s.size<=34359738368):∀(n f i st:Nat) (acc:List ByteArray),s.size-i=n->n+1<f->st<=i->i<=s.size->acc.length<=i->cO f (λc (b:(List ByteArray×Int×Int))=>bif (decide (b.2.2<=(↑s.size:Int))) then(bd (bd (bif (b.2.2==(↑s.size:Int)) then(some (true)) else(bd (bC (cB s) (b.2.2)) λj=>some (j==(46:Int)))) λk=>bif k then(gd (xP s b.2.1 b.2.2) (gd (bB b.1 [s.extract b.2.1.toNat b.2.2.toNat]) (some ((b.1++[s.extract b.2.1.toNat b.2.2.toNat],IntKind.i64.wrap (b.2.2+(1:Int))))))) else(some (b.1,b.2.1))) λ(z2:List ByteArray×Int)=>c ((z2.1,z2.2,IntKind.i64.wrap (b.2.2+(1:Int))))) else(some (b.1))) (acc,(st:Int),(i:Int))=some (acc++(kH ((s.data.toList.drop st).take (i-st)) (s.data.toList.drop i)).map λl=>(⟨l.toArray⟩:ByteArray))
 |n,f+1,i,st,acc,hn,r,h1,h2,t=>by
  rw[iW];have e0:decide ((i:Int)<=(s.size:Int))=true:=by simpa using(show(i:Int)<=(s.size:Int) by omega)
  have es:xP s (st:Int) (i:Int):=⟨by omega,by omega,by omega⟩;have h:bB acc ([s.extract (st:Int).toNat (i:Int).toNat]:List ByteArray):=by unfold bB;simp;omega
  have d:IntKind.i64.wrap ((i:Int)+1)=((i+1:Nat):Int):=by rw[aL (by omega) (by omega)];omega
  simp only[e0,ac];rcases fY i s.size with a|m
  ·have e:((i:Int)==(s.size:Int))=false:=by simp;omega
   have hd:s.data.toList.drop i=s.data.toList[i]'a::s.data.toList.drop (i+1):=(cG a);have hb:(cB s)[i]'(by rw[kI];exact a)=((s.data.toList[i]'a).toNat:Int):=by simp[cB]
   have hq:(((s.data.toList[i]'a).toNat:Int)==46)=(s.data.toList[i]'a==46):=by
    rw[fL];simp only[de];constructor
    ·intro q;apply UInt8.toNat_inj.1;show _=46;omega
    ·intro q;rw[q];rfl
   rw[e,ae,aXw a,bd_s,bd_s,hb,hq,hd,kH];cases hc:(s.data.toList[i]'a==46) with
   |true=>rw[ac,aD es,aD h,bd_s];dsimp only;rw[d,ac,vO s hs (n-1) f (i+1) (i+1) _ (by omega) (by omega) (ak _) (by omega) (by simp;omega),bm,bm,ext_list];simp
   |false=>
    rw[ae,bd_s];dsimp only;rw[d,ae,vO s hs (n-1) f (i+1) st _ (by omega) (by omega) (by omega) (by omega) (by omega)];have:(s.data.toList.drop st).take (i+1-st)=(s.data.toList.drop st).take (i-st)++[s.data.toList[i]'a]:=by rw[show i+1-st=(i-st)+1 by omega,fm,eM,show st+(i-st)=i by omega,ab a];rfl
    rw[this]
  ·have e:((i:Int)==(s.size:Int))=true:=by simp;omega
   obtain⟨f,rfl⟩:∃g,f=g+1:=⟨f-1,by omega⟩;have o:s.data.toList.length<=i:=by have:s.data.toList.length=s.size:=rfl;omega
   have p:decide (((i+1:Nat):Int)<=(s.size:Int))=false:=by simp;omega
   rw[e,ac,bd_s,ac,aD es,aD h,bd_s,iW];dsimp only;rw[d];simp only[p,ae];rw[gb o,kH,bm,bm,ext_list];rfl
def aJw (s:ByteArray)(h:s.size<=34359738368):Px s=some (bP s):=by
 unfold Px;have a:=iB;have:=vO s h s.size FUEL 0 0 [] rfl (by omega) (ak _) (cD _) (ak _)
 grind[bP,bd,trans]
def aOn (s:ByteArray)(h:s.size<=34359738368):Vj s=some (wJ s):=by
 unfold Vj wJ;have hb:=kI s;rw[pM (l:=cB s) (λb=> !aCl b) (.inl false) (.inr ()) (by omega) (by grind[fO,aXw,bd_s,cB,aCl,bU,decide]) (by simp[*])];have e:bU (s.size:Int) 1 20=(decide (1<=s.size)&&decide (s.size<=20)):=by unfold bU;congr 1<;>exact di.2 (by omega)
 rw[e];by_cases h0:0<s.size
 ·rw[show(0:Int)=((0:Nat):Int) from rfl,aXw h0,aL (by omega) (by omega),show(s.size:Int)-1=((s.size-1:Nat):Int) by omega,aXw (by omega)];simp only[bd_s,bne,List.getD,ab (show 0<(cB s).length by rw[kI];exact h0),ab (show s.size-1<(cB s).length by rw[kI];omega),cM];cases((cB s)[0]'_==45)<;>cases((cB s)[s.size-1]'_==45)<;>cases decide (1<=s.size)<;>cases decide (s.size<=20)<;>cases(cB s).any _<;>rfl
 simp_all
def aQu (s:ByteArray)(h:s.size<=34359738368):M8 s=some (iD s):=by
 unfold M8 iD;have hl:=Ug s;simp only[aD h,bd_s];rw[pM (l:=bP s) (λl=> !wJ l) (.inl false) (.inr ()) (by omega) (λrec i hi=>by
  have a:(bP s)[i].size<=34359738368:=bz (zJ s _ (ce _)) h
  grind[fO,aQ,bd_s,aD]) (by simp)]
 have e':decide ((s.size:Int)<=60)=decide (s.size<=60):=di.2 (by omega);rw[e'];cases decide (s.size<=60)<;>cases(bP s).any _<;>rfl
def aQv (s:ByteArray):O1 s=some (iD s):=by
 unfold O1 iD;by_cases a:s.size<=60
 ·have hl:=Ug s;rw[show decide ((s.size:Int)>60)=false from av (by omega),ae,aD (show s.size<4294967281/\1<=(⟨#[UInt8.ofNat 46]⟩:ByteArray).size from⟨by omega,ak _⟩),bd_s];have es:lV s ⟨#[UInt8.ofNat 46]⟩=bP s:=aMu s;rw[es];rw[pM (l:=bP s) (λl=> !wJ l) (.inl false) (.inr ()) (by omega) (λrec i hi=>by
   have c:(bP s)[i].size<=60:=bz (zJ s _ (ce _)) a;simp only[fO hi,ac,aQ hi,bd_s]
   revert c
   generalize(bP s)[i]=l;intro c;have hb:=kI l;rw[pM (l:=cB l) (λb=> !aCl b) (.inl (.inl false)) (.inr ()) (by omega) (by grind[fO,aXw,bd_s,cB,aCl,bU,decide]) (by simp[*])];unfold wJ;by_cases h0:0<l.size
   ·rw[show(0:Int)=((0:Nat):Int) from rfl,aXw h0,aL (by omega) (by omega),show(l.size:Int)-1=((l.size-1:Nat):Int) by omega,aXw (by omega)];have d:decide ((l.size:Int)<1)= !decide (1<=l.size):=by grind
    have e:decide ((l.size:Int)>20)= !decide (l.size<=20):=by grind
    rw[d,e];simp only[bd_s,bne,List.getD,ab (show 0<(cB l).length by rw[kI];exact h0),ab (show l.size-1<(cB l).length by rw[kI];omega),cM];cases((cB l)[0]'_==45)<;>cases((cB l)[l.size-1]'_==45)<;>cases decide (1<=l.size)<;>cases decide (l.size<=20)<;>cases(cB l).any _<;>rfl
   simp_all) (by simp)]
  rw[show decide (s.size<=60)=true by simpa using a];cases(bP s).any _<;>rfl
 grind
def Y1 (s:ByteArray):Cb s=some (bFi s):=by
 unfold Cb bFi;cases h:iD s with
 |false=>rfl
 |true=>
  have hs:=Uh h;have hp:=aIl s;have es:lV s ⟨#[UInt8.ofNat 46]⟩=bP s:=aMu s;rw[ay,ae,ac,aD (show s.size<4294967281/\1<=(⟨#[UInt8.ofNat 46]⟩:ByteArray).size from⟨by omega,ak _⟩),bd_s,es];rw[show(((bP s).length:Int)==1)=((bP s).length==1) by rw[fL];simp only[de];omega];cases h1:(bP s).length==1 with
  |true=>rfl
  |false=>
   have h2:(bP s).length≠1:=by simp_all
   have hl:=Ug s;obtain⟨a,c,b,hb,e⟩:=bOt (l:=bP s) (by omega);have c:=zJ s a c;have hb:=zJ s b hb;rw[ae,ae,aL (by omega) (by omega),show((bP s).length:Int)-2=(((bP s).length-2:Nat):Int) by omega,bm];have hd:((bP s).drop ((bP s).length-2)).length=2:=by grind
   have hj:(rG ⟨#[UInt8.ofNat 46]⟩ ((bP s).drop ((bP s).length-2))).size<=140737488355328:=by have e:rG ⟨#[UInt8.ofNat 46]⟩ ((bP s).drop ((bP s).length-2))=_:=e;rw[e,ByteArray.size_append,ByteArray.size_append];have:(⟨#[46]⟩:ByteArray).size=1:=rfl;omega
   simp_all[aD,jU,bP]
def aQw (s:ByteArray)(h:s.size<=9223372036854775807):O3 s=some (o8 s):=by unfold O3 o8;have hb:=kI s;rw[pM (l:=cB s) (λb=>b==46) (.inl true) (.inr ()) (by omega) (by grind[fO,aXw,bd_s]) (by simp[*])];cases(cB s).any _<;>rfl
def Y2 (n:ByteArray)(seed:Int)(h:n.size<=9223372036854775807):Cc n seed=some (kM n seed):=by
 grind[iD,bMy,decide,bP,bN,bS9,aQe,aD,bd_s,Cc,kM]
def aOo (n:ByteArray)(seed:Int)(h:n.size<=34359738368):Vk n seed=some (gJ n seed):=by
 unfold Vk gJ kM;have e:decide (((bP n).length:Int)<2)= !decide (2<=(bP n).length):=by grind
 simp only[aD h,bd_s,e];cases iD n<;>cases decide (2<=(bP n).length)<;>cases bN seed<;>rfl
def Y3 (s:AD)(h:s.sz<=34359738368):Bg s=some (bI s):=by
 simp only[AD.sz] at h;unfold Bg bI;rw[kG (l:=s.Accounts) (Ir s.Accounts) (.inl false) (.inr ()) (by omega) (by grind[mR,AH.sz,fO,aQ,bd_s,aD,Ir,Ue,decide,decide_eq_true,bA,default,decide_eq_false]) (by simp)];rw[show decide ((s.Accounts.length:Int)<=8)=decide (s.Accounts.length<=8) from di.2 (by omega)];have a:(!((gJ s.Name s.Book.Seed).Name.toList==(⟨#[]⟩:ByteArray).toList))=kM s.Name s.Book.Seed:=by rw[bS9,bAn,Bool.not_not]
 simp only[aD (show s.Name.size<=34359738368 by omega),aD (show s.Book.sz<=34359738368 by simp only[AR.sz];omega),bd_s,a];cases kM s.Name s.Book.Seed<;>cases decide (s.Accounts.length<=8)<;>cases fQ s.Book<;>cases iG (Ir s.Accounts) 0 s.Accounts<;>rfl
def Y4 (s:AD)(h:s.sz<=34359738368):Cf s=some (bI s):=by simp only[AD.sz] at h;unfold Cf bI;rw[kG (l:=s.Accounts) (Ir s.Accounts) (.inl false) (.inr ()) (by omega) (by grind[mR,AH.sz,fO,aQ,bd_s,aD,Ir,Ue,decide,decide_eq_true,bA,default,decide_eq_false]) (by simp)];rw[show decide ((s.Accounts.length:Int)>8)= !decide (s.Accounts.length<=8) by rw[<-decide_not];exact di.2 (by omega)];simp only[aD (show s.Name.size<=9223372036854775807 by omega),aD (show s.Book.sz<=34359738368 by simp only[AR.sz];omega),bd_s];cases kM s.Name s.Book.Seed<;>cases decide (s.Accounts.length<=8)<;>cases fQ s.Book<;>cases iG (Ir s.Accounts) 0 s.Accounts<;>rfl
def aOp (l:List AF)(e:AF)(h:l.length<=34359738368):Vf l e=some (kZ l e):=by unfold Vf kZ;have hd:=gP l;rw[pM (l:=l) (λq=>q.Kind==2&&q.Device==e.Device) (.inl false) (.inr ()) (by omega) (by grind[fO,aQ,bd_s]) (by simp)];rw[show(l.any λq=>q.Kind==2&&q.Device==e.Device)=gD l e.Device from rfl];simp only[aD h,aD (show(aC l).length<=1099511627776 by omega),aD (show([dZ e]:List Int).length<=34359738300 by simp),bd_s,bne];cases(e.Index==(l.length:Int))<;>cases(e.Previous==jQ l)<;>cases jJ (aC l) e.By<;>cases((l.length:Int)==0)<;>cases(e.By==e.Device)<;>cases iI e.By [dZ e] e.Signature<;>cases(e.Kind==2)<;>cases jJ (aC l) e.Device<;>cases gD l e.Device<;>cases(e.Kind==1)<;>rfl
def aGz (l:List AF)(h:l.length<=34359738368):Kj l=some (aW l):=by unfold Kj aW;rw[kG (l:=l) (λi e=> !kZ (l.take i) e) (.inl false) (.inr ()) (by omega) (by grind[fO,aQ,bd_s,aK0,aD,jU,List.length_take]) (by simp)];cases iG (λi e=> !kZ (l.take i) e) 0 l<;>simp
def aG0 (l:List AF)(h:l.length<=34359738368):Ky l=some (aW l):=by
 unfold Ky aW;rw[kG (l:=l) (λi e=> !kZ (l.take i) e) (.inl false) (.inr ()) (by omega) (λrec i hi=>by
  have ht:(l.take i).length=i:=by grind
  have hb:(l.take i).length<=34359738368:=by omega
  have hd:=gP (l.take i);simp only[fO hi,ac,aQ hi,bd_s,aK0,aD (show jU l (i:Int) by unfold jU;omega),aD hb,aD (show(aC (l.take i)).length<=1099511627776 by omega),aD (show([dZ l[i]]:List Int).length<=34359738300 by simp)];unfold kZ;rw[ht];generalize l[i]=e;have h1:decide (((aC (l.take i)).length:Int)>=6)= !decide (((aC (l.take i)).length:Int)<6):=by grind
  have h2:jJ (aC (l.take i)) e.Device=true->decide (((aC (l.take i)).length:Int)>1)= !(((aC (l.take i)).length:Int)==1):=(by grind[bJe,Bool.decide_eq_true,aC,decide_not]);simp only[h1,bne];cases d:(e.Kind==2) with
  |true=>
   have a:(e.Kind==1)=false:=by simp_all
   rw[a];cases hd:jJ (aC (l.take i)) e.Device with
   |true=>rw[h2 hd];cases(e.Index==(i:Int))<;>cases(e.Previous==jQ (l.take i))<;>cases jJ (aC (l.take i)) e.By<;>cases((i:Int)==0)<;>cases(e.By==e.Device)<;>cases iI e.By [dZ e] e.Signature<;>cases(((aC (l.take i)).length:Int)==1)<;>rfl
   |false=>cases(e.Index==(i:Int))<;>cases(e.Previous==jQ (l.take i))<;>cases jJ (aC (l.take i)) e.By<;>cases((i:Int)==0)<;>cases(e.By==e.Device)<;>cases iI e.By [dZ e] e.Signature<;>rfl
  |false=>
   cases(e.Kind==1) with
   |true=>cases(e.Index==(i:Int))<;>cases(e.Previous==jQ (l.take i))<;>cases jJ (aC (l.take i)) e.By<;>cases((i:Int)==0)<;>cases(e.By==e.Device)<;>cases iI e.By [dZ e] e.Signature<;>cases jJ (aC (l.take i)) e.Device<;>cases gD (l.take i) e.Device<;>cases decide (((aC (l.take i)).length:Int)<6)<;>rfl
   |false=>cases(e.Index==(i:Int))<;>cases(e.Previous==jQ (l.take i))<;>cases jJ (aC (l.take i)) e.By<;>cases((i:Int)==0)<;>cases(e.By==e.Device)<;>cases iI e.By [dZ e] e.Signature<;>cases gD (l.take i) e.Device<;>rfl) (by simp)]
 unfold bU;have b:decide ((l.length:Int)<1)= !decide (1<=(l.length:Int)):=by grind
 have c:decide ((l.length:Int)>40)= !decide ((l.length:Int)<=40):=by grind
 rw[b,c];cases decide (1<=(l.length:Int))<;>cases decide ((l.length:Int)<=40)<;>cases iG (λi e=> !kZ (l.take i) e) 0 l<;>rfl
def F7 (w:AA)(h:w.sz<=34359738368):xY w=some (aR w):=by
 simp only[AA.sz] at h;unfold xY aR;rw[kG (l:=w.Sites) lW (.inl false) (.inr ()) (by omega) (λrec i hi=>by
  have a:=mR (f:=AD.sz) hi;simp only[fO hi,ac,aQ hi,bd_s,aD (show w.Sites[i].sz<=34359738368 by omega)];unfold lW;cases bI w.Sites[i]<;>cases(w.Sites[i].Name.toList==(aA (i:Int)).toList)<;>rfl) (λrec=>by simp only[U0,ae])]
 simp only[aD (show w.Mail.sz<=34359738368 by simp only[AP.sz];omega),aD (show w.aAA.Log.length<=34359738368 by omega),bne,bd_s];cases iG lW 0 w.Sites<;>cases bU w.Now 0 999900<;>cases bU (w.Devices.length:Int) 1 6<;>cases((w.Stolen.length:Int)==(w.Devices.length:Int))<;>cases((w.Sites.length:Int)==2)<;>cases eY w.Mail<;>cases aW w.aAA.Log<;>cases bN w.Seed<;>rfl
def F8 (w:AA)(h:w.sz<=34359738368):yC w=some (aR w):=by simp only[AA.sz] at h;unfold yC aR;rw[kG (l:=w.Sites) lW (.inl false) (.inr ()) (by omega) (by grind[mR,AD.sz,fO,aQ,bd_s,aD,lW,bI,aA]) (by simp)];simp only[aD (show w.Mail.sz<=34359738368 by simp only[AP.sz];omega),aD (show w.aAA.Log.length<=34359738368 by omega),bne,bd_s];cases iG lW 0 w.Sites<;>cases bU w.Now 0 999900<;>cases bU (w.Devices.length:Int) 1 6<;>cases((w.Stolen.length:Int)==(w.Devices.length:Int))<;>cases((w.Sites.length:Int)==2)<;>cases eY w.Mail<;>cases aW w.aAA.Log<;>cases bN w.Seed<;>rfl
def aVt (a:Int):aVo a=some (jO a 1019):=rfl
def bTq:((1019:Int)≠0)=True:=by simp
def aQx (c:Int)(l:List Int)(x:Int)(h:0<=x/\x<=1000/\l.length<=34359738368):N7 c l x=some (Uj c l x):=by
 obtain⟨h1,h2,a⟩:=h;have hr:=aM0 ⟨h1,h2⟩ l;have hm:=Ac (p:=c) (q:=1019) (by omega);unfold N7 Uj;rw[bJi (l:=l) (aMz x) some (by omega) (λrec s i hi=>by
  simp only[show decide ((i:Int)>=0)=true from au (by omega),ac,aQ hi,bd_s,bTq,gd_T,aL (show-9223372036854775808<=(i:Int)-1 by omega) (by omega)];rfl) (λrec s=>rfl) (aL (by omega) (by omega))]
 simp only[bd_s,bTq,gd_T];rw[aL (by omega) (by omega),cz (by omega)]
def aOq (k:A3):aOb k=some (Ud k):=rfl
def Ct (b:List Int)(h:b.length<=34359738360):Be b=some (Re b):=by unfold Be Re;rw[bTb (l:=b) IntKind.i64.wrap (by simp;omega) (by grind[fO,aQ,bd_s,gQ]) (by simp)];rfl
def Y5:= @Ct
def Lr (k:Int)(s:ByteArray)(h:s.size<=34359738300):rR k s=some (sK k s):=by have hb:=kI s;unfold rR sK;rw[aK1,aD (by omega),bd_s,aD (by rw[bDc];omega),bd_s,aXs (mU _ _).1]
def Ls (k:Int)(s:ByteArray)(h:s.size<=34359738300):rU k s=some (sK k s):=by have hb:=kI s;unfold rU sK;rw[aK1,aD (by omega),bd_s,aD (by rw[bDc];omega),bd_s]
def Qn (s:ByteArray)(h:s.size<=34359738300):Py s=some (bH s):=by unfold Py;rw[aD h];rfl
def aJx:= @Qn
def aG1 (b:AB)(s h:Int)(a:b.sz<=34359738368):Lj b s h=some (aN b s h):=by simp only[AB.sz] at a;unfold Lj aN;rw[Uc (l:=b.Entries) (λe=>e.Site==s&&e.Handle==h) (by omega) (by grind[fO,aQ,bd_s]) (by simp)]
theorem aLf {b:AB}{s h:Int}(d:decide (aN b s h>=0)=true):bC b.Entries (aN b s h)=some (b.Entries.getD (aN b s h).toNat default)/\(aN b s h).toNat<b.Entries.length/\(b.Entries.getD (aN b s h).toNat default).Site=s/\(b.Entries.getD (aN b s h).toNat default).Handle=h:=by
 have h0:=of_decide_eq_true d;obtain⟨l1,e,l2,f,c,a⟩:=o9 (p:=λe:AG=>e.Site==s&&e.Handle==h) (l:=b.Entries) (i:=0) h0;have a:aN b s h=((0+l1.length:Nat):Int):=a;rw[cx] at a;have hl:l1.length<b.Entries.length:=by simp[*]
 have hg:b.Entries.getD l1.length default=e:=by simp[*]
 rw[a,bm,hg];simp only[aa,de] at c;refine⟨?_,hl,c.1,c.2⟩;rw[aQ hl];have:b.Entries[l1.length]=e:=by simp[*]
 rw[this]
theorem aVu (b:AB)(x:AG):(pO b x).Entries.length<=b.Entries.length+1:=by
 grind[decide,aN,List.length,List.takeWhile_append_dropWhile,mP,List.length_append,List.length_singleton,pO]
def aJy (b:AB)(s h:Int)(a:b.sz<=34359738360):Qa b s h=some (aFz b s h):=by
 have hq:=a;simp only[AB.sz] at hq;have hs:=aVu b (qU b s h);unfold Qa aFz;have c:(pO b (qU b s h)).sz<=34359738368:=by grind[AB.sz]
 rw[aD (by omega),aD (by omega)];simp only[aD (show b.sz<=34359738360 from a),aD (show b.sz<=34359738368 by omega),bd_s];cases d:decide (aN b s h>=0) with
 |true=>
  obtain⟨h1,h2,_,_⟩:=aLf d;have hv:qU b s h=⟨s,h,IntKind.i64.wrap ((b.Entries.getD (aN b s h).toNat default).Version+1),false⟩:=by grind[qU,bFj]
  rw[ac,h1,bd_s];cases hd:(b.Entries.getD (aN b s h).toNat default).Deleted with
  |false=>rfl
  |true=>rw[bd_s,ay,ae,nx_r,<-hv,aD c];cases aP b<;>cases aP (pO b (qU b s h))<;>rfl
 |false=>
  have hv:qU b s h=⟨s,h,1,false⟩:=by grind[qU,bFj]
  rw[ae,nx_r,<-hv,aD c];cases aP b<;>cases aP (pO b (qU b s h))<;>rfl
theorem bBq {α:Type}{p:α->Bool}{l:List α}:(l.takeWhile p).length<=l.length:=by
 grind[List.length_append,List.length,List.takeWhile_append_dropWhile]
def bTr {α:Type}{p:α->Bool}{l:List α}:l.takeWhile p=l.take (l.takeWhile p).length/\l.dropWhile p=l.drop (l.takeWhile p).length:=by
 grind[List.drop_left,List.take_left,List.drop,List.take,List.takeWhile_append_dropWhile]
def bK4 (b:AB)(x:AG)(a:b.Entries.length<=34359738360){F:(Int->Option Int)->Int->Option Int}
  (c:∀rec i (hi:i<b.Entries.length),F rec (i:Int)=bif eX b.Entries[i] x then rec (((i+1:Nat):Int)) else some (i:Int)) (d:∀rec,F rec (b.Entries.length:Int)=some (b.Entries.length:Int)):cO FUEL F 0=some (((b.Entries.takeWhile λe=>mP e x.Site x.Handle).length:Nat):Int):=by
 refine aJf (λi s=>i<=(b.Entries.takeWhile λe=>mP e x.Site x.Handle).length/\s=(i:Int)) (b.Entries.takeWhile λe=>mP e x.Site x.Handle).length _ (by grind[bBq,mP]) ⟨by omega,rfl⟩ (λi s rec hi hv=> ?_) (λs rec hv=> ?_)
 all_goals grind[aVr,mP,Nat.lt_or_ge,eX,bBq]
def aJz (b:AB)(s h:Int)(f:b.sz<=34359738360):Qk b s h=some (aFz b s h):=by
 have hq:=f;simp only[AB.sz] at hq;have hs:=aVu b (qU b s h);have c:(pO b (qU b s h)).sz<=34359738368:=by grind[AB.sz]
 unfold Qk aFz;simp only[aD (show b.sz<=34359738368 by omega),bd_s];cases hb:aP b with
 |false=>simp
 |true=>
  rw[ay,ae];cases d:decide (aN b s h>=0) with
  |true=>
   obtain⟨h1,h2,j,k⟩:=aLf d;have h0:=of_decide_eq_true d;have hv:qU b s h=⟨s,h,IntKind.i64.wrap ((b.Entries.getD (aN b s h).toNat default).Version+1),false⟩:=by grind[qU,bFj]
   have a:pO b (qU b s h)=⟨b.Entries.set (aN b s h).toNat (qU b s h)⟩:=by
    grind[qU,pO]
   rw[ac,h1,bd_s];cases hd:(b.Entries.getD (aN b s h).toNat default).Deleted with
   |false=>rfl
   |true=>rw[bd_s,ay,ae];rw[nV h0 (by rw[aq];exact h2),bd_s,gS,bd_s,nx_r,d8,j,k,<-hv,<-a,aD c,bd_s];cases aP (pO b (qU b s h))<;>rfl
  |false=>
   have hv:qU b s h=⟨s,h,1,false⟩:=by grind[qU,bFj]
   have a:pO b (qU b s h)=⟨b.Entries.takeWhile (λe=>mP e s h)++[qU b s h]++b.Entries.dropWhile (λe=>mP e s h)⟩:=by
    grind[qU,pO]
   have hl:=bBq (p:=λe=>mP e s h) (l:=b.Entries);obtain⟨m,n⟩:=bTr (p:=λe=>mP e s h) (l:=b.Entries);rw[<-hv,ae,bK4 b (qU b s h) hq (by grind[fO,aQ,bd_s,aL]) (by simp)];rw[show(qU b s h).Site=s from rfl,show(qU b s h).Handle=h from rfl,bd_s,aK0];rw[aD (by grind[jU]),aD (by grind[jU]),aD (by grind[bB]),aD (by grind[bB]),aD (by grind[bB]),nx_r,bv,<-m,<-n,<-a,aD c,bd_s];cases aP (pO b (qU b s h))<;>rfl
def WOk.of' {w:AA}(h:w.sz<=34359738368):WOk w:=by
 grind[WOk,AA.sz]
def aJ0 (w:AA)(d:Int)(h:w.sz<=34359738368):Qh w d=some (aR w&&aO w d):=by unfold Qh;rw[aD h,bd_s,aSw (WOk.of' h),bRf,bd_s]
def Y6 (b:AB)(s h:Int)(a:b.sz<=34359738360):Bo b s h=some (aF0 b s h):=by
 grind[aP,aN,decide_eq_true,aLf,decide_eq_false,bd_s,default,aM1,aD,Bo,aF0]
def bK5 {l l':List AG}{i:Nat}{e e':AG}(he:e'.Site=e.Site/\e'.Handle=e.Handle)(hp:(l'.getD (i-1) default).Site=(l.getD (i-1) default).Site/\(l'.getD (i-1) default).Handle=(l.getD (i-1) default).Handle)(h:Ui l i e=false):Ui l' i e'= !bU e'.Version 1 1000000:=by unfold Ui at h ⊢;rw[bj,bj,bj] at h;obtain⟨h1,h2,b,a⟩:=h;rw[he.1,he.2,h1,h2,aMv he,zS hp,a];simp
def bR7 {b:AB}{j:Nat}{x:AG}(hj:j<b.Entries.length)(hx:x.Site=b.Entries[j].Site/\x.Handle=b.Entries[j].Handle)(h:aP b=true):aP ⟨b.Entries.set j x⟩=bU x.Version 1 1000000:=by
 unfold aP at h ⊢;rw[aa,bo] at h;obtain⟨h1,h2⟩:=h;rw[aq,h1,db];have hg:∀i,((b.Entries.set j x).getD i default).Site=(b.Entries.getD i default).Site/\((b.Entries.set j x).getD i default).Handle=(b.Entries.getD i default).Handle:=(by grind[List.getD,List.getElem?_set_self,List.getElem?_eq_getElem,List.getElem?_set_ne]);have h2:=U5.1 h2;have hb:∀(i:Nat) (hi:i<(b.Entries.set j x).length),Ui (b.Entries.set j x) i (b.Entries.set j x)[i]= !bU (b.Entries.set j x)[i].Version 1 1000000:=λi hi=>by
  have a:i<b.Entries.length:=by simp_all
  have g:=hg i;simp only[List.getD,ab hi,ab a,cM] at g;exact bK5 g (hg (i-1)) (h2 i a)
 have hv:∀(i:Nat) (hi:i<b.Entries.length),bU b.Entries[i].Version 1 1000000=true:=(by grind[Ui,Bool.or_eq_false_iff])
 grind[bU,Bool.not_eq_true',U5,List.getElem_set_self,List.getElem_set_ne,Bool.not_eq_false',aMy]
def bBr {b:AB}(h:aP b=true){i:Nat}(hi:i<b.Entries.length):bU b.Entries[i].Version 1 1000000=true:=by
 grind[Bool.or_eq_false_iff,Ui,U5,Bool.not_eq_true',aP]
def Y7 (b:AB)(s h:Int)(d:b.sz<=34359738360):Cn b s h=some (aF0 b s h):=by
 have hq:=d;simp only[AB.sz] at hq;unfold Cn aF0;simp only[aD (show b.sz<=34359738368 by omega),bd_s];cases hb:aP b with
 |false=>rfl
 |true=>
  by_cases e:aN b s h<0
  ·simp[*]
  ·have a:decide (aN b s h>=0)=true:=au (by omega);obtain⟨h1,h2,f,j⟩:=aLf a;have c:pO b (aM1 b s h)=⟨b.Entries.set (aN b s h).toNat (aM1 b s h)⟩:=by
    grind[aM1,pO]
   have hg:b.Entries.getD (aN b s h).toNat default=b.Entries[(aN b s h).toNat]:=by simp[*]
   have k:=bR7 (x:=aM1 b s h) h2 ⟨by rw[<-hg,f];rfl,by rw[<-hg,j];rfl⟩ hb;have hv:=bBr hb h2;rw[av e,h1]
   grind[aN,default,aM1,nV,List.length_set,List.getElem_set_self,bd_s,List.set_set,pO,aVu,AB.sz,aD,iA,aL,bU,decide_eq_true]
def F9 (d:AC)(n:ByteArray)(h:Int)(rm:Bool)(a:d.sz<=34359738360/\n.size<=34359738300):xU d n h rm=some (bO d n h rm):=by
 obtain⟨h1,h2⟩:=a;have hb:d.aAC.sz<=34359738360:=by grind[AC.sz,AB.sz]
 unfold xU bO wC;simp only[aD (show d.sz<=34359738368 by omega),aD h2,aD hb,bd_s];cases rm with
 |true=>simp only[ac,bd_s];cases(aF0 d.aAC (bH n) h).2<;>rfl
 |false=>simp only[ae,bd_s];cases(aFz d.aAC (bH n) h).2<;>rfl
def G5 (d:AC)(n:ByteArray)(h:Int)(rm:Bool)(a:d.sz<=34359738360/\n.size<=34359738300):yG d n h rm=some (bO d n h rm):=by
 obtain⟨h1,h2⟩:=a;have hb:d.aAC.sz<=34359738360:=by grind[AC.sz,AB.sz]
 unfold yG bO wC;simp only[aD (show d.sz<=34359738368 by omega),aD h2,aD hb,bd_s];cases rm<;>simp
def bGx {w:AA}{d:Int}(h:aO w d=true):0<=d/\d.toNat<w.Devices.length/\(aF w d).sz<=w.sz/\aF w d=w.Devices.getD d.toNat default:=by
 simp only[aO,aa,cu] at h;have hi:d.toNat<w.Devices.length:=by omega
 have:=Oi (f:=AC.sz) hi;refine⟨h.1,hi,?_,rfl⟩;show(w.Devices.getD d.toNat default).sz<=_
 grind[AA.sz]
def bGy {d:AC}{n:ByteArray}{h:Int}{rm:Bool}(e:(bO d n h rm).2=false):bO d n h rm=(d,false):=by
 grind[wC,bO]
def aDj (w:AA)(d:Int)(n:ByteArray)(h:Int)(rm:Bool)(a:w.sz<=34359738300/\n.size<=34359738300):Fx w d n h rm=some (lX w d n h rm):=by
 obtain⟨h1,h2⟩:=a;unfold Fx lX;rw[aD (show w.sz<=34359738368 by omega),bd_s,aD (show w.sz<=34359738368 by omega),bd_s];cases hc:(aR w&&aO w d) with
 |false=>rfl
 |true=>
  have hd:=(Bool.and_eq_true_iff.1 hc).2;obtain⟨k1,k2,k3,k4⟩:=bGx hd;rw[ay,ae,ac,nX hd,bd_s,aD ⟨by omega,h2⟩,bd_s,bd_s];cases e:(bO (aF w d) n h rm).2 with
  |true=>rfl
  |false=>rw[bGy e,ae,k4,aXz k2]
def Xa (l:List AF)(h:l.length<=34359738368):Vg l=some (aB l):=by unfold Vg;rw[jK (l:=l) (λn e=>bif e.Kind==2 then IntKind.i64.wrap (n+1) else n) (λ_ _=>True) (λs=>some s) (by omega) trivial (by simp) (by grind[fO,aQ,bd_s]) (by simp)];rfl
def aOr:= @Xa
def O8 (p e:Int):aQn p e=some (kX p e):=by rfl
def aQy:= @O8
def aQz (k:Int)(b:AQ)(h:b.Data.length<=34359738200):M7 k b=some (aFx k b):=by
 grind[aD,bd_s,bB,Re,M7,aFx]
def aQ0 (k:Int)(b:AQ)(h:b.Data.length<=34359738200):O5 k b=some (aFx k b):=by
 grind[Al,aD,bd_s,Re,O5,aFx]
def aG2 {α β:Type}{y:Nat->α->β}:∀{l:List α} {j i:Nat} (hi:i<l.length),Ra (λi x=>[y i x]) j (l.take (i+1))=Ra (λi x=>[y i x]) j (l.take i)++[y (j+i) l[i]]
 |x::xs,j,0,_=>by simp[Ra]
 |x::xs,j,i+1,hi=>by
  have:=aG2 (y:=y) (l:=xs) (j:=j+1) (i:=i) (by simpa using hi);simp only[ip,Ra,fc,this,cP,bv];rw[show j+1+i=j+(i+1) by omega]
def bDz {k:Int}{b:List Int}(hl:b.length<=34359738368){F:(List Int×Nat->Option (List Int))->List Int×Nat->Option (List Int)}
  (a:∀rec i s (hi:i<b.length),s.length<=34359738368->F rec (s,i)=rec (s++[aU2 k i b[i]],i+1)) (c:∀rec s,F rec (s,b.length)=some s):cO FUEL F ([],0)=some (U2 k b):=by
 refine aJf (λi s=>i<=b.length/\s=(Ra (λi z=>[aU2 k i z]) 0 (b.take i),i)) b.length _ (by omega) ⟨by omega,by simp[Ra]⟩ (λi s rec hi hv=> ?_) (λs rec hv=> ?_)
 ·obtain⟨_,rfl⟩:=hv;refine .inl ⟨_,⟨hi,rfl⟩,?_⟩;rw[a rec i _ hi (by rw[sM,cq];omega),aG2 hi,cx]
 ·obtain⟨_,rfl⟩:=hv;rw[c,fa];rfl
def aOs (k:Int)(b:List Int)(h:b.length<=34359738368):Vt k b=some (U2 k b):=by unfold Vt;rw[bDz (k:=k) h (by grind[bJd,fO,aQ,bd_s,aD,gd_T,gQ]) (by simp)];rfl
def aOt (k:Int)(b:List Int)(h:b.length<=34359738368):Wi k b=some (U2 k b):=by unfold Wi;rw[bDz (k:=k) h (by grind[bJc,fO,aQ,bd_s,aD,gQ]) (by simp)];rfl
def Xb (p:Int)(b:AQ):Vu p b=some (jA p b):=by
 grind[decide,decide_eq_true,bN,fP,aD,bd_s,decide_eq_false,aFx,kX,Vu,jA]
def aVv {bs:List AQ}{p:Int}(hl:bs.length<=34359738368){F:(Nat->Option ((List Int×Bool)⊕PUnit))->Nat->Option ((List Int×Bool)⊕PUnit)}
  (a:∀rec i (hi:i<bs.length),F rec i=bif (jA p bs[i]).2 then some (.inl ((jA p bs[i]).1,true)) else rec (i+1)) (b:∀rec,F rec bs.length=some (.inr ())):nx (cO FUEL F 0) (λ_=>some (([]:List Int),false))=some (iL bs p):=by
 have go:∀(k i n:Nat),i+k=bs.length->k<n->nx (cO n F i) (λ_=>some (([]:List Int),false))=some (iL (bs.drop i) p):=by
  intro k;induction k with
  |zero=>
   intro i n hk hn;obtain⟨n,rfl⟩:∃m,n=m+1:=⟨n-1,by omega⟩;have:i=bs.length:=by omega
   subst this;rw[iW,b,dz];rfl
  |succ k c=>
   intro i n hk hn;obtain⟨n,rfl⟩:∃m,n=m+1:=⟨n-1,by omega⟩;have hi:i<bs.length:=by omega
   rw[iW,a _ i hi,cG hi,iL];cases(jA p bs[i]).2 with
   |true=>rfl
   |false=>grind
 exact go bs.length 0 FUEL (by omega) (by grind[iB])
def Xc (bs:List AQ)(p:Int)(h:bs.length<=34359738368):Vv bs p=some (iL bs p):=by unfold Vv;exact aVv h (by grind[fO,aQ,bd_s]) (by simp)
def aOu:= @Xb
def aOv:= @Xc
theorem aOw {c:AM}{b:Int}(a:c.sz<=34359738368)(h0:0<=b/\b<(c.History.length:Int)):bC c.History (IntKind.i64.wrap (IntKind.i64.wrap ((c.History.length:Int)-1)-b))=some (c.History.getD (c.History.length-1-b.toNat) default)/\(c.History.getD (c.History.length-1-b.toNat) default).sz<=34359738368:=by simp only[AM.sz] at a;have h1:=Oi (f:=AJ.sz) (l:=c.History) (i:=c.History.length-1-b.toNat) (by omega);refine⟨?_,by omega⟩;rw[aL (n:=(c.History.length:Int)-1) (by omega) (by omega),aL (by omega) (by omega),wK (by omega) (by omega)];congr 2;omega
def Y8 (c:AM)(b:Int)(a:c.sz<=34359738368):Bq c b=some (eZ c b):=by
 grind[decide,aOw,bAq,bd_s,aD,bMz,AM.sz,Bq,eZ]
def Y9 (c:AM)(b:Int)(a:c.sz<=34359738368):Ch c b=some (eZ c b):=by
 grind[decide,aOw,bAq,bd_s,aD,Aq,Ch,eZ]
def bK6 {a b:List AF}(d:a.length<=34359738368){F:(Nat->Option (Bool⊕PUnit))->Nat->Option (Bool⊕PUnit)}
  (f:∀rec i (hi:i<b.length) (hj:i<a.length),F rec i=bif !aU6 a[i] b[i] then some (.inl false) else rec (i+1)) (c:∀rec,F rec b.length=some (.inr ())):
  (bif decide ((a.length:Int)<(b.length:Int)) then some false else nx (cO FUEL F 0) λ_=>some true)=some (dJ a b):=by
 unfold dJ;by_cases h:b.length<=a.length
 ·rw[av (show ¬(a.length:Int)<(b.length:Int) by omega),ae,au h,db,
   kG (l:=b) (λi e=> !aU6 (a.getD i default) e) (.inl false) (.inr ()) (by omega) (by grind[List.getD,List.getElem?_eq_getElem]) c]
  cases iG (λi e=> !aU6 (a.getD i default) e) 0 b<;>rfl
 grind
def Gs (a b:List AF)(h:a.length<=34359738368):Fg a b=some (dJ a b):=by unfold Fg;exact bK6 h (λrec i hi hj=>by simp only[fO hi,ac,aQ hi,aQ hj,bd_s];rfl) (by simp)
def aDk:= @Gs
def aG3 (k:Int)(b:AJ)(h:b.Data.length<=34359738200):Kn k b=some (jB k b):=by
 grind[aD,bd_s,bB,Re,Kn,jB]
def aG4 (k:Int)(b:AJ)(h:b.Data.length<=34359738200):Lh k b=some (jB k b):=by
 grind[Al,aD,bd_s,Re,Lh,jB]
def aJ1 (k e v:Int):Qb k e v=some (bN k&&(bU e 0 1000000&&bU v 0 1000000)):=by unfold Qb;cases bN k<;>cases bU e 0 1000000<;>rfl
def aQ1 (k e v:Int):aQo k e v=some (lY k e v):=by rfl
def Cu (b:List Int)(hb:aT b)(p:Nat)(hp:p<=34359738368){F:(Int×Int×Nat->Option ((Int×Int×Bool)⊕PUnit))->Int×Int×Nat->Option ((Int×Int×Bool)⊕PUnit)}
  (j:∀rec (n q:Int) (i:Nat),F rec (n,q,i)=bif decide ((i:Int)<6) then(bif decide (IntKind.i64.wrap ((p:Int)+(i:Int))>=(b.length:Int)) then some (.inl (0,0,false)) else bd (bC b (IntKind.i64.wrap ((p:Int)+(i:Int)))) λz=>gd ((128:Int)≠0) (bif decide (IntKind.i64.wrap z<128) then(bd (bif decide ((i:Int)>0) then(bif IntKind.i64.wrap z==0 then some true else some (decide (IntKind.i64.wrap (n+IntKind.i64.wrap ((IntKind.i64.wrap z).tmod 128*q))>1000000000000))) else some (decide (IntKind.i64.wrap (n+IntKind.i64.wrap ((IntKind.i64.wrap z).tmod 128*q))>1000000000000))) λc=>bif c then some (.inl (0,0,false)) else some (.inl (IntKind.i64.wrap (n+IntKind.i64.wrap ((IntKind.i64.wrap z).tmod 128*q)),IntKind.i64.wrap (IntKind.i64.wrap ((p:Int)+(i:Int))+1),true))) else rec (IntKind.i64.wrap (n+IntKind.i64.wrap ((IntKind.i64.wrap z).tmod 128*q)),IntKind.i64.wrap (q*128),i+1))) else some (.inr ())):
  ∀(k i:Nat) (n:Int) (f:Nat),i+k=6->k<f->0<=n->n<128^i->nx (cO f F (n,(128:Int)^i,i)) (λ_=>some ((0:Int),(0:Int),false))=some (uvG b p k i n)
 |0,i,n,f+1,hk,w,h0,h1=>by
  rw[iW,j,show decide ((i:Int)<6)=false from av (by omega)];rfl
 |k+1,i,n,f+1,hk,w,h0,h1=>by
  have l:=aU3 (i:=i) (by omega);rw[iW,j,show decide ((i:Int)<6)=true from au (by omega),ac];rw[show IntKind.i64.wrap ((p:Int)+(i:Int))=((p+i:Nat):Int) by rw[aL (by omega) (by omega)];omega];unfold uvG;by_cases a:p+i<b.length
  ·have m:=wI hb a;have hg:b.getD (p+i) 0=b[p+i]:=by simp[List.getD,ab a]
   rw[cW a,hg,aQ a];generalize b[p+i]=z at m;rw[show decide (((p+i:Nat):Int)>=(b.length:Int))=false from av (by omega)];have hs:=aU4 (z:=z) (n:=n) (i:=i) (by omega) m.1 h0 h1;have o:IntKind.i64.wrap z=z:=aL (by omega) (by omega);have r:z.tmod 128=z%128:=cz m.1;have s:IntKind.i64.wrap (z%128*128^i)=z%128*128^i:=aL (by omega) (by omega);have x:=aU3 (i:=i+1) (by omega);have t:IntKind.i64.wrap (n+z%128*128^i)=n+z%128*128^i:=aL (by omega) (by omega);have u:IntKind.i64.wrap (((p+i:Nat):Int)+1)=((p+i+1:Nat):Int):=by rw[aL (by omega) (by omega)];omega
   have v:IntKind.i64.wrap ((128:Int)^i*128)=128^(i+1):=by rw[<-fq,aL (by omega) (by omega)]
   have h:((128:Int)≠0)=True:=by simp
   simp only[ae,bd_s,o,r,s,t,u,v,h,gd_T];by_cases d:z<128
   ·simp only[d,decide_true,ac];have e:(decide ((i:Int)>0))=decide (0<i):=di.2 (by omega);rw[e];cases decide (0<i)<;>cases(z==0)<;>cases decide (n+z%128*128^i>1000000000000)<;>rfl
   ·simp only[d,decide_false,ae];exact Cu b hb p hp j k (i+1) _ f (by omega) (by omega) hs.1 hs.2.1
  ·rw[dm a,show decide (((p+i:Nat):Int)>=(b.length:Int))=true from au (by omega)];rfl
def Z0 (b:List Int)(a:Int)(hb:aT b):Ci b a=some (Ej b a):=by
 unfold Ci Ej;have c:=iB;have hlen:=hb.1;rw[Aq,bd_s];by_cases h0:a<0
 ·simp[h0]
 ·rw[dm h0,av h0,cX];by_cases h1:a>=b.length
  ·grind[uvG,decide_eq_true]
  ·rw[av h1,ae];obtain⟨p,rfl⟩:=ey (show 0<=a by omega);exact Cu b hb p (by omega) (λrec n q i=>rfl) 6 0 0 FUEL rfl (by omega) (by omega) (by decide)
theorem Oz (b:List Int)(c:Int)(hc:c<=100){F:(Int×List Int×Nat->Option ((List Int×Int×Bool)⊕(Int×List Int)))->Int×List Int×Nat->Option ((List Int×Int×Bool)⊕(Int×List Int))}
  (d:∀rec (a:Int) (s:List Int) (i:Nat),s.length<=34359738368->F rec (a,s,i)=bif decide ((i:Int)<c) then(bif !(Ej b a).2.2 then some (.inl ([],0,false)) else rec ((Ej b a).2.1,s++[(Ej b a).1],i+1)) else some (.inr (a,s))):
  ∀(k i:Nat) (a:Int) (s:List Int) (f:Nat),((i+k:Nat):Int)=c->k<f->s.length<=i->nx (cO f F (a,s,i)) (λz=>some (z.2,z.1,true))=some (kY b k a s)
 |0,i,a,s,f+1,hk,e,hs=>by
  rw[iW,d _ _ _ _ (by omega),show decide ((i:Int)<c)=false from av (by omega)];rfl
 |k+1,i,a,s,f+1,hk,e,hs=>by
  rw[iW,d _ _ _ _ (by omega),show decide ((i:Int)<c)=true from au (by omega),ac];unfold kY;cases(Ej b a).2.2 with
  |false=>rfl
  |true=>simp only[ay,ae,ac];exact Oz b c hc d k (i+1) _ _ f (by omega) (by omega) (by simp;omega)
def aDl (b:List Int)(a c:Int)(hb:aT b):Gf b a c=some (jW b a c):=by
 grind[decide_false,bd_s,decide_true,Bool.not_true,Bool.or_self,Oz,aD,gQ,FUEL,iB,Gf,jW,bU]
def aDm (b:List Int)(a c:Int)(hb:aT b):Fp b a c=some (jW b a c):=by
 grind[bU,iA,Bool.not_true,bd_s,Bool.or_self,Oz,aD,gQ,FUEL,iB,Fp,jW]
theorem Cw (b:List Int)(hb:aT b)(a:Int)(q:0<=a){F:(Int×Nat->Option ((Int×Int×Bool)⊕PUnit))->Int×Nat->Option ((Int×Int×Bool)⊕PUnit)}
  (l:∀rec (n:Int) (i:Nat),F rec (n,i)=bif decide ((i:Int)<6) then(bd (bif decide (a<0) then some true else some (decide (a>=IntKind.i64.wrap ((b.length:Int)-(i:Int))))) λc=>bif c then some (.inl (0,0,false)) else bd (bC b (IntKind.i64.wrap (a+(i:Int)))) λz=>gd ((0:Int)<=IntKind.i64.wrap (7*(i:Int))) (bif decide (IntKind.i64.wrap z<128) then(bd (bif IntKind.i64.wrap z==0 then(bif decide ((i:Int)>0) then some true else some (decide (orI .i64 n (aBy .i64 (qB .i64 (IntKind.i64.wrap z) 127) (IntKind.i64.wrap (7*(i:Int))))>1000000000000))) else some (decide (orI .i64 n (aBy .i64 (qB .i64 (IntKind.i64.wrap z) 127) (IntKind.i64.wrap (7*(i:Int))))>1000000000000))) λc=>bif c then some (.inl (0,0,false)) else some (.inl (orI .i64 n (aBy .i64 (qB .i64 (IntKind.i64.wrap z) 127) (IntKind.i64.wrap (7*(i:Int)))),IntKind.i64.wrap (IntKind.i64.wrap (a+(i:Int))+1),true))) else rec (orI .i64 n (aBy .i64 (qB .i64 (IntKind.i64.wrap z) 127) (IntKind.i64.wrap (7*(i:Int)))),i+1))) else some (.inr ())):
  ∀(k i:Nat) (n:Int) (f:Nat),i+k=6->k<f->0<=n->n<128^i->nx (cO f F (n,i)) (λ_=>some ((0:Int),(0:Int),false))=some (uvG b a.toNat k i n)
 |0,i,n,f+1,hk,r,h0,h1=>by
  rw[iW,l,show decide ((i:Int)<6)=false from av (by omega)];rfl
 |k+1,i,n,f+1,hk,r,h0,h1=>by
  have hlen:=hb.1;rw[iW,l,show decide ((i:Int)<6)=true from au (by omega),ac,Aq,bd_s];rw[show IntKind.i64.wrap ((b.length:Int)-(i:Int))=(b.length:Int)-(i:Int) from aL (by omega) (by omega),show decide (a<0)=false from av (by omega),cX];unfold uvG;by_cases d:a.toNat+i<b.length
  ·have j:=wI hb d;have hg:b.getD (a.toNat+i) 0=b[a.toNat+i]:=by simp[List.getD,ab d]
   have m:IntKind.i64.wrap (a+(i:Int))=((a.toNat+i:Nat):Int):=by rw[aL (by omega) (by omega)];omega
   rw[cW d,hg,m,aQ d];generalize b[a.toNat+i]=z at j;rw[show decide (a>=(b.length:Int)-(i:Int))=false from av (by omega)];have hs:=aU4 (z:=z) (n:=n) (i:=i) (by omega) j.1 h0 h1;have o:IntKind.i64.wrap z=z:=aL (by omega) (by omega);have ho:=bMx (z:=z) (n:=n) (i:=i) (by omega) j.1 j.2 h0 h1;have p:IntKind.i64.wrap (((a.toNat+i:Nat):Int)+1)=((a.toNat+i+1:Nat):Int):=by rw[aL (by omega) (by omega)];omega
   have s:0<=IntKind.i64.wrap ((7:Int)*(i:Int)):=by rw[aL (by omega) (by omega)];omega
   simp only[ae,bd_s,o,ho,p];rw[aD s];by_cases h:z<128
   ·simp only[h,decide_true,ac];have e:(decide ((i:Int)>0))=decide (0<i):=di.2 (by omega);rw[e];cases decide (0<i)<;>cases(z==0)<;>cases decide (n+z%128*128^i>1000000000000)<;>rfl
   ·simp only[h,decide_false,ae];exact Cw b hb a q l k (i+1) _ f (by omega) (by omega) hs.1 hs.2.1
  ·rw[dm d,show decide (a>=(b.length:Int)-(i:Int))=true from au (by omega)];rfl
def Z4 (b:List Int)(a:Int)(hb:aT b):Bt b a=some (Ej b a):=by
 unfold Bt Ej;have d:=iB;by_cases h0:a<0
 ·rw[cW h0];obtain⟨f,c⟩:∃f,FUEL=f+1:=⟨FUEL-1,by omega⟩;simp_all[nx,iW]
 grind[Cw,FUEL]
def Rn (s:AI)(e:AK)(a:e.sz<=34359738368):uB s e=some (eQ s e):=by
 simp only[AK.sz] at a;unfold uB eQ
 grind[decode_len,jW,Oh,bC,bd_s,Bool.not_true,bN,iL,iH,aD,U3]
def Ro (s:AI)(e:AK)(a:e.sz<=34359738368):uK s e=some (eQ s e):=by
 simp only[AK.sz] at a;unfold uK eQ;rw[aD (by simp),bd_s,aD (by omega),bd_s,aD (U3 _ _),show aV s.Seed [181]=iH s from rfl]
 grind[decode_len,jW,Oh,bC,bd_s,Bool.not_true,bN,iL,iH]
theorem bD0 {F:(Int×List Int->Option (Int×List Int))->Int×List Int->Option (Int×List Int)}{n:Int}{b:List Int}(hk:0<=n/\n<=1000000000000)(hb:b.length<=34359738300)
  (a:∀rec (n:Int) (s:List Int),0<=n->n<9223372036854775807->s.length<=34359738368->F rec (n,s)=bif decide (n>127) then rec (n/128,s++[n%128+128]) else some (n,s)):
  (bd (EV.cO FUEL F (n,b)) λz=>gd (bB z.2 [IntKind.u8.wrap z.1]) (some (z.2++[IntKind.u8.wrap z.1])))=some (b++uvE 5 n):=by
 have f:(128:Int)^(5+1)=4398046511104:=by decide
 obtain⟨m,q,c,d,e,h⟩:=aX3 a 5 n b FUEL (by grind[iB]) hk.1 (by omega) (by omega) (by omega);have hq:q.length<=34359738368:=by
  grind[List.length_append,List.length_singleton,aU7,List.length]
 rw[c,bd_s];simp only[aM2 e (by omega)];rw[gQ (s:=q) hq,d]
def Xd (b:List Int)(n:Int)(h:b.length<=34359738300):wP b n=some (Iu b n):=by
 unfold wP Iu enc1;rw[xH (by omega)];cases hr:bU n 0 1000000000000 with
 |false=>simp
 |true=>rw[ay,ae,ac,bv];exact bD0 (iA hr) h (by grind[decide,gd,bB,orI,qB,Ik,bM3,bRi,Int.emod_nonneg,Int.emod_lt_of_pos,bTc,aM2,gQ,aD])
def aTv:∀(l s:List Int),l.foldl Iu s=s++iR l
 |[],s=>by simp[iR]
 |x::l,s=>by rw[dp,aTv l,vJ,Iu,ck]
def Gt (l:List Int)(h:l.length<=5000000000):Fb l=some (iR l):=by unfold Fb;rw[jK (l:=l) Iu (λi s=>s.length<=6*i) (λs=>some s) (by omega) (by simp) (by grind[aM3,Iu,List.length_append]) (by grind[fO,aQ,bd_s,aD]) (by simp),aTv];rfl
def Z5:∀(l:List AG) (s:List Int),l.foldl (λs e=>s++aQg e) s=s++kJ l
 |[],s=>by simp[kJ]
 |x::l,s=>by rw[dp,Z5 l];simp[kJ]
def G6 (b:AB)(h:b.sz<=34359738368):xV b=some (oO b):=by
 unfold xV oO;rw[aD h,bd_s];cases hb:aP b with
 |false=>rfl
 |true=>
  have hl:=mW hb;have hv:(tY b).length=1+4*b.Entries.length:=by grind[tY,vK]
  rw[ay,ae,ac,jK (l:=b.Entries) (λs e=>s++aQg e) (λi s=>s.length<=1+4*i) (λs=>some s) (by omega) (by simp) (by grind[aQg,List.length_append,List.length_cons,List.length_nil]) (λrec i s hi hv=>by
   have e:∀x y z w:Int,gd (bB s [x,y,z,w]) (some (s++[x,y,z,w]))=some (s++[x,y,z,w]):=(by grind[aD,bB,List.length_cons,List.length_nil]);simp only[fO hi,ac,aQ hi,bd_s,p8,e];rfl) (by simp),Z5,bd_s]
  grind[aD,kJ,tY,bd_s]
def aDn (a b:List Int)(h:aT a/\aT b):Fq a b=some (a==b):=by obtain⟨c,hb⟩:=h;have h1:=c.1;have h2:=hb.1;unfold Fq;rw[aD (by omega),aD (by omega),aK1,aK1,ByteArray.toList_eq,ByteArray.toList_eq,aS1,aS1];congr 1;rw[fL,de,de];exact⟨λh=>bytes_inj (Ul c) (Ul hb) h,λh=>by rw[h]⟩
def bTs {v:List Int}{i:Nat}(h:4*i+3<v.length):v.drop (4*i)=v[4*i]::v[4*i+1]::v[4*i+2]::v[4*i+3]::v.drop (4*(i+1)):=by
 grind[List.drop_eq_getElem_cons]
def aZa {v:List Int}{k:Nat}(hv:v.length=4*k)(hk:k<=20){τ:Type}{x:τ}{F:(Nat×List AG->Option (τ⊕List AG))->Nat×List AG->Option (τ⊕List AG)}
  (a:∀rec i s (hi:i<k) (h:4*i+3<v.length),s.length<=100->F rec (i,s)=bif decide (v[4*i+3]>1) then some (.inl x) else rec (i+1,s++[⟨v[4*i],v[4*i+1],v[4*i+2],v[4*i+3]==1⟩])) (b:∀rec s,F rec (k,s)=some (.inr s)):
  ∀(m i n:Nat) (s:List AG),i+m=k->m<n->s.length<=i->EV.cO n F (i,s)=some (bif mV (v.drop (4*i)) then .inr (s++nJ (v.drop (4*i))) else .inl x)
 |0,i,n+1,s,h,_,_=>by
  have:i=k:=by omega
  subst this;rw[iW,b,gb (by omega)];simp[mV,nJ]
 |m+1,i,n+1,s,h,hn,hs=>by
  have c:4*i+3<v.length:=by omega
  rw[iW,a _ i s (by omega) c (by omega),bTs c];simp only[mV,nJ];by_cases hg:v[4*i+3]>1
  ·rw[au hg,av (show ¬v[4*i+3]<=1 by omega)];rfl
  ·rw[av hg,au (show v[4*i+3]<=1 by omega),ae,db,aZa hv hk a b m (i+1) n _ (by omega) (by omega) (by simp;omega)];simp
def aZb {a:List Int}(hb:aT a)(hc:(!(Ej a 0).2.2||decide ((Ej a 0).1>20))=false):∃(n:Int) (q:Nat),Ej a 0=(n,(q:Int),true)/\0<=n/\n<=20/\q<=a.length:=by
 simp only[bj,cF,cC] at hc;cases b:Ej a 0 with
 |mk n r=>
  obtain⟨e,ok⟩:=r;rw[b] at hc;obtain⟨rfl,hc2⟩:=hc;obtain⟨q,⟨_,c,d,f,h⟩,_⟩:=aU8 hb b
  grind
def aZc {a:List Int}{e c:Int}(h0:0<=c)(h1:c<=100)(h2:0<=e)(b:e<=a.length):jW a e c=kY a c.toNat e []:=by
 grind[decide_eq_true,jW,bU]
theorem aVw {v:List Int}{i j:Nat}{q:Int}(hq:q=(j:Int))(h:i+j<v.length):bC (v.drop i) q=some v[i+j]:=by subst hq;rw[aQ (by grind),List.getElem_drop]
def G7 (a:List Int)(hb:aT a):yD a=some (Ju a):=by
 unfold yD Ju;rw[aD hb,bd_s,Aq,bd_s];cases hc:(!(Ej a 0).2.2||decide ((Ej a 0).1>20)) with
 |true=>rfl
 |false=>
  obtain⟨n,q,b,h0,h1,h2⟩:=aZb hb hc;rw[b,ae,ae];dsimp only;rw[aL (n:=4*n) (by omega) (by omega),aD hb,bd_s,aZc (by omega) (by omega) (by omega) (by omega)];cases hd:kY a (4*n).toNat (q:Int) [] with
  |mk v r=>
   obtain⟨e,ok⟩:=r;dsimp only;rw[Aq,bd_s];unfold aX6;cases ok with
   |false=>rfl
   |true=>
    dsimp only;rw[ay,cX,cX];cases he:(e !=(a.length:Int)) with
    |true=>rfl
    |false=>
     obtain⟨t,q',⟨k1,k2,k3,k4,k5⟩,_⟩:=Uk hb _ _ _ _ _ (by omega) (by omega) hd;rw[bv] at k1;subst k1;have hv:v.length=4*n.toNat:=by omega
     rw[ae,cX,aZa (x:=((AB.mk [],false):AB×Bool)) hv (by omega) (λrec i s hi c hs=>by
      have d:decide ((i:Int)<n)=true:=au (by omega);have f:IntKind.i64.wrap (4*(i:Int))=((4*i:Nat):Int):=by grind[aL]
      have h:bC (v.drop (4*i)) 0=some (v[4*i]'(by omega)):=aVw (j:=0) rfl (by omega);have k:bC (v.drop (4*i)) 1=some (v[4*i+1]'(by omega)):=(by grind[aVw]);have l:bC (v.drop (4*i)) 2=some (v[4*i+2]'(by omega)):=(by grind[aVw]);have m:bC (v.drop (4*i)) 3=some v[4*i+3]:=aVw (j:=3) rfl c;simp only[d,f,bm,ac,aD (show jU v ((4*i:Nat):Int) from⟨by omega,by omega⟩),h,k,l,m,bd_s,gQ (show s.length<=34359738368 by omega)]) (by grind) n.toNat 0 FUEL [] (by omega) (by grind[iB]) (by simp)]
     simp only[Nat.mul_zero,im,bv];cases o:mV v with
     |false=>rfl
     |true=>have hl:=aCo n.toNat v hv;simp only[ac,nx_r];rw[aD (by grind[nJ,AB.sz]),bd_s];cases aP ⟨nJ v⟩<;>rfl
def aTw {a:List Int}(hb:aT a){k:Nat}(hk:k<=20){τ:Type}{x:τ}{F:(Int×Nat×List AG->Option (τ⊕List AG))->Int×Nat×List AG->Option (τ⊕List AG)}
  (b:∀rec (q:Nat) i s (hi:i<k),q<=a.length->s.length<=100->F rec ((q:Int),i,s)=bif !(kY a 4 q []).2.2 then some (.inl x) else rec ((kY a 4 q []).2.1,i+1,s++nJ (kY a 4 q []).1)) (c:∀rec e s,F rec (e,k,s)=some (.inr s)):
  ∀(m i n q:Nat) (s:List AG),i+m=k->m<n->q<=a.length->s.length<=i->EV.cO n F ((q:Int),i,s)=some (bif (kY a (4*m) q []).2.2 then .inr (s++nJ (kY a (4*m) q []).1) else .inl x)
 |0,i,n+1,q,s,h,_,_,_=>by
  have:i=k:=by omega
  subst this;rw[iW,c];simp[kY,nJ]
 |m+1,i,n+1,q,s,h,hn,hq,hs=>by
  rw[iW,b _ q i s (by omega) hq (by omega),show 4*(m+1)=4+4*m by omega,aM4 4 (4*m)];cases hd:kY a 4 (q:Int) [] with
  |mk l r=>
   obtain⟨e,ok⟩:=r;cases ok with
   |false=>rfl
   |true=>
    obtain⟨t,q',⟨k1,k2,k3,k4,k5⟩,_⟩:=Uk hb _ _ _ _ _ (by omega) (by omega) hd;rw[bv] at k1;subst k1;subst k3;have hl:(nJ l).length=1:=aCo 1 l (by omega);simp only[ay,ae,ac];rw[aTw hb hk b c m (i+1) n q' _ (by omega) (by omega) k4 (by simp[hl];omega),aM5 (4*m) (q':Int) l];cases(kY a (4*m) (q':Int) []).2.2 with
    |false=>rfl
    |true=>simp[aX5 1 l _ (by omega)]
def four {l:List Int}(h:l.length=4):∃w x y z,l=[w,x,y,z]:=by
 match l,h with
 |[w,x,y,z],_=>exact⟨w,x,y,z,rfl⟩
def G8 (a:List Int)(hb:aT a):xW a=some (Ju a):=by
 unfold xW Ju;rw[aD hb,bd_s,Aq,bd_s];cases hc:(!(Ej a 0).2.2||decide ((Ej a 0).1>20)) with
 |true=>rfl
 |false=>
  obtain⟨n,q,b,h0,h1,h2⟩:=aZb hb hc;rw[b,ae,ae];dsimp only;rw[aTw (x:=((AB.mk [],false):AB×Bool)) hb (k:=n.toNat) (by omega) (λrec q i s hi hq hs=>by
   have d:decide ((i:Int)<n)=true:=au (by omega);simp only[d,ac,aD hb,bd_s,aZc (a:=a) (e:=(q:Int)) (c:=4) (by omega) (by omega) (by omega) (by omega),show Int.toNat 4=4 from rfl];cases hd:kY a 4 (q:Int) [] with
   |mk l r=>
    obtain⟨e,ok⟩:=r;cases ok with
    |false=>rfl
    |true=>
     obtain⟨t,q',⟨k1,k2,_⟩,_⟩:=Uk hb _ _ _ _ _ (by omega) (by omega) hd;rw[bv] at k1;subst k1;obtain⟨w,x,y,z,rfl⟩:=four k2;simp only[ay,ae,(by assumption),(by assumption),(by assumption),(by assumption),bd_s,gQ (show s.length<=34359738368 by omega)];rfl) (by grind) n.toNat 0 FUEL q [] (by omega) (by grind[iB]) h2 (by simp)]
  rw[show(4*n).toNat=4*n.toNat by omega];unfold aX6;cases hd:kY a (4*n.toNat) (q:Int) [] with
  |mk v r=>
   obtain⟨e,ok⟩:=r;cases ok with
   |false=>rfl
   |true=>
    obtain⟨b1,h,j,m⟩:=bJk hb b h1 (show kY a (4*n).toNat (q:Int) []=(v,e,true) by rw[show(4*n).toNat=4*n.toNat by omega];exact hd);have f:(AB.mk (nJ v)).sz<=34359738368:=by grind[AB.sz]
    simp only[ac,nx_r,bv,aD f,bd_s,aD (show aT (oO ⟨nJ v⟩)/\aT a from⟨aCp _,hb⟩),Aq]
    grind[aP,nJ,iR,tY,mV,absurd,Bool.not_true,Bool.not_false,oO]
def aDo (k:Int)(s:AJ)(h:s.Data.length<=34359738200):Gg k s=some (jC k s):=by unfold Gg jC;rw[aD h,aD (by simp)];simp only[bd_s,aD (show s.Data.length<=34359738368 by omega),aD (aU5 (k:=aV k [223,s.Epoch,s.Version]) (show s.Data.length<=34359738368 by omega))];unfold lY;cases bN k<;>cases bU s.Epoch 0 1000000<;>cases bU s.Version 0 1000000<;>cases(s.MAC !=jB k s)<;>rfl
def aDp (k:Int)(s:AJ)(h:s.Data.length<=34359738200):Fs k s=some (jC k s):=by unfold Fs jC;rw[aD h,aD (by omega)];simp only[bd_s,aD (aU5 (k:=lY k s.Epoch s.Version) (show s.Data.length<=34359738368 by omega))];cases bN k<;>cases bU s.Epoch 0 1000000<;>cases bU s.Version 0 1000000<;>cases(s.MAC !=jB k s)<;>rfl
def aDq (d:AC)(l:List AF)(bx:AK)(s:AJ)(h:d.sz<=34359738368/\l.length<=34359738368/\bx.sz<=34359738368/\s.Data.length<=34359738200):Gh d l bx s=some (bR d l bx s):=by
 obtain⟨h1,h2,a,b⟩:=h;have c:=gP l;have hb:d.aAC.sz<=34359738368:=by grind[AC.sz,AB.sz]
 unfold Gh bR jL;simp only[aD h1,aD h2,aD a,aD b,aD (by omega),bd_s,Aq,bif_and,bif_or,p8]
 grind[aW,dJ,jJ,aC,aS,aB,eQ,bx,decide,fZ,aD,bd_s,jC,aS3]
def aDr (d:AC)(l:List AF)(bx:AK)(s:AJ)(h:d.sz<=34359738368/\l.length<=34359738368/\bx.sz<=34359738368/\s.Data.length<=34359738200):Fu d l bx s=some (bR d l bx s):=by
 obtain⟨h1,h2,a,b⟩:=h;have c:=gP l;have hb:d.aAC.sz<=34359738368:=by grind[AC.sz,AB.sz]
 unfold Fu bR jL;simp only[aD h1,aD h2,aD a,aD b,aD (by omega),bd_s,Aq,bif_and,bif_or,p8]
 grind[aW,dJ,jJ,aC,aS,aB,eQ,bx,decide,fZ,aD,bd_s,jC,aS3]
theorem aTx {c:AM}(h:c.sz<=34359738100)(b:Int):c.Log.length<=34359738100/\c.Boxes.sz<=34359738100/\(eZ c b).1.Data.length<=34359738100:=by
 grind[decide,aOw,bAq,Oi,AJ.sz,eZ,AK.sz,AM.sz]
def aOx (d:AC)(c:AM)(b:Int)(h:d.sz<=34359738100/\c.sz<=34359738100):Vw d c b=some (bR d c.Log c.Boxes (eZ c b).1):=by obtain⟨h1,h2⟩:=h;obtain⟨k1,k2,k3⟩:=aTx h2 b;unfold Vw;rw[aD (by omega),bd_s,aD (by grind),bd_s]
theorem Z6 {w:AA}{d:Int}(h:aO w d=true):0<=d/\d.toNat<w.Devices.length/\(aF w d).sz<=w.sz/\aF w d=w.Devices.getD d.toNat default:=by
 simp only[aO,aa,cu] at h;have hi:d.toNat<w.Devices.length:=by omega
 have:=Oi (f:=AC.sz) hi;refine⟨h.1,hi,?_,rfl⟩;show(w.Devices.getD d.toNat default).sz<=_
 grind[AA.sz]
theorem Lt (w:AA):w.aAA.sz<=w.sz:=by grind[AA.sz,AM.sz,AK.sz]
def aOy (w:AA)(d b:Int)(c:w.sz<=34359738100):We w d b=some (aH w d b):=by
 have a:=Lt w;unfold We aH;rw[aD (show w.sz<=34359738368 by omega),bd_s,aD (show w.sz<=34359738368 by omega),bd_s];cases hc:(aR w&&aO w d) with
 |false=>rfl
 |true=>have hd:=(Bool.and_eq_true_iff.1 hc).2;obtain⟨k1,k2,k3,k4⟩:=Z6 hd;rw[ay,ae,ac,nX hd,bd_s,aD ⟨by omega,by omega⟩,bd_s,bd_s]
def aOz (w:AA)(d b:Int)(c:w.sz<=34359738100):Wj w d b=some (aH w d b):=by have a:=Lt w;unfold Wj aH;rw[aD (by omega),bd_s,aD (by omega),bd_s,Aq,bd_s,<-Bool.not_and];cases hc:(aR w&&aO w d)<;>grind[aR,aO,k1,k2,k3,k4,Z6,aTx,Bool.not_true,aD,bd_s,nX]
def bD1 {k:Int}{b:List Int}(hl:b.length<=34359738368){F:(List Int×Nat->Option (List Int))->List Int×Nat->Option (List Int)}
  (a:∀rec i s (hi:i<b.length),s.length<=34359738368->F rec (s,i)=rec (s++[aX7 k i b[i]],i+1)) (c:∀rec s,F rec (s,b.length)=some s):EV.cO FUEL F ([],0)=some (lZ k b):=by
 refine aJf (λi s=>i<=b.length/\s=(Ra (λi z=>[aX7 k i z]) 0 (b.take i),i)) b.length _ (by omega) ⟨by omega,by simp[Ra]⟩ (λi s rec hi hv=> ?_) (λs rec hv=> ?_)
 ·obtain⟨_,rfl⟩:=hv;refine .inl ⟨_,⟨hi,rfl⟩,?_⟩;rw[a rec i _ hi (by rw[sM,cq];omega),aG2 hi,cx]
 ·obtain⟨_,rfl⟩:=hv;rw[c,fa];rfl
def aO0 (k:Int)(b:List Int)(h:aT b):Wl k b=some (lZ k b):=by unfold Wl;rw[bD1 (k:=k) h.1 (by grind[bJm,wI,fO,aQ,bd_s,aD,gd_T,gQ]) (by simp)];rfl
def aO1 (k:Int)(b:List Int)(h:aT b):Vh k b=some (lZ k b):=by unfold Vh;rw[bD1 (k:=k) h.1 (by grind[bJn,wI,fO,aQ,bd_s,aD,gd_T,gQ]) (by simp)];rfl
def Xe (b:List Int)(n:Int)(h:b.length<=34359738300):wZ b n=some (Iu b n):=by
 unfold wZ Iu enc1;have e:(decide (n<0)||decide (n>1000000000000))= !bU n 0 1000000000000:=by
  grind[bU]
 rw[aD (by omega),bd_s,Aq,bd_s,e]
 grind[bU,Bool.not_true,bD0,iA,decide,Int.tmod_eq_emod_of_nonneg,aL,aM2,Int.tdiv_eq_ediv_of_nonneg,gd_T,gQ]
def aDs:= @Gt
def G9 (b:AB)(h:b.sz<=34359738368):yH b=some (oO b):=by
 unfold yH oO;rw[aD h,bd_s];cases hb:aP b with
 |false=>rfl
 |true=>
  have hl:=mW hb;have hv:(tY b).length=1+4*b.Entries.length:=by grind[tY,vK]
  rw[ay,ae,ac,jK (l:=b.Entries) (λs e=>s++aQg e) (λi s=>s.length<=1+4*i) (λs=>some s) (by omega) (by simp) (by grind[aQg,List.length_append,List.length_cons,List.length_nil]) (λrec i s hi hv=>by
   have e:∀x y z w:Int,gd (bB s [x,y,z,w]) (rec (s++[x,y,z,w],i+1))=rec (s++[x,y,z,w],i+1):=(by grind[aD,bB,List.length_cons,List.length_nil]);simp only[fO hi,ac,aQ hi,bd_s,X3,p8,e];rfl) (by simp),Z5,bd_s]
  grind[aD,kJ,tY,bd_s]
def bK7 (k:Int)(b:AB):(lZ k (oO b)).length<=34359738200:=by grind[Ar,Jv]
def aDt (k e v:Int)(b:AB)(h:b.sz<=34359738368):Gi k e v b=some (kN k e v b):=by unfold Gi kN fA lY;simp only[aD h,bd_s,aD (show[(223:Int),e,v].length<=34359738300 by simp),aD (aCp b),aD (bK7 (aV k [223,e,v]) b)];cases bN k<;>cases bU e 0 1000000<;>cases bU v 0 1000000<;>cases aP b<;>rfl
def aDu (k e v:Int)(b:AB)(h:b.sz<=34359738368):Fj k e v b=some (kN k e v b):=by unfold Fj kN fA;simp only[aD h,bd_s,aD (aCp b),aD (bK7 (lY k e v) b)];cases bN k<;>cases bU e 0 1000000<;>cases bU v 0 1000000<;>cases aP b<;>rfl
def Lu (a b:AJ):Ko a b=some (lH a b):=by unfold Ko lH;cases decide (a.Epoch>b.Epoch)<;>cases(a.Epoch==b.Epoch)<;>rfl
def aG5:= @Lu
def bD2 {d:AC}(h:d.sz<=34359738368):d.aAC.sz<=34359738368:=by grind[AC.sz,AB.sz]
def Z7 (d:AC)(h:d.sz<=34359738368):Co d=some (dO d):=by unfold Co dO;simp only[aD h,aD (bD2 h),bd_s];cases(kN d.Key d.Epoch (IntKind.i64.wrap (d.Version+1)) d.aAC).2<;>rfl
def Z8 (d:AC)(h:d.sz<=34359738368):Bp d=some (dO d):=by unfold Bp dO;simp only[aD h,aD (bD2 h),bd_s];cases(kN d.Key d.Epoch (IntKind.i64.wrap (d.Version+1)) d.aAC).2<;>rfl
def bGz (c:AM)(s:AJ)(h:c.sz<=34359738300/\s.sz<=34359738300):(bd (gd (c.sz<=34359738368) (some c)) λa=>bd (gd (c.Log.length<=34359738368) (some (aB c.Log))) λd=>bd (bif (s.Epoch !=d) then some true else(bif decide ((c.History.length:Int)>0) then(bd (bC c.History (IntKind.i64.wrap ((c.History.length:Int)-1))) λb=>bd (some (lH s b)) λe=>bif !e then some true else some (decide ((c.History.length:Int)>=60))) else some (decide ((c.History.length:Int)>=60)))) λz2=>bif z2 then some (a,false) else bd (gd (s.sz<=34359738368) (some s)) λb=>gd (bB a.History [b]) (some (AM.mk a.Log a.Boxes (a.History++[b]),true)))=some (bQ c s):=by
 obtain⟨h1,h2⟩:=h;have f:=h1;simp only[AM.sz] at f;unfold bQ;simp only[aD (show c.sz<=34359738368 by omega),aD (show c.Log.length<=34359738368 by omega),aD (show s.sz<=34359738368 by omega),bd_s,gQ (show c.History.length<=34359738368 by omega)];by_cases h0:0<c.History.length
 ·have j:bC c.History (IntKind.i64.wrap ((c.History.length:Int)-1))=some (c.History.getD (c.History.length-1) default):=by rw[aL (by omega) (by omega),wK (by omega) (by omega)];simp
  rw[au (show(c.History.length:Int)>0 by omega),j];generalize c.History.getD (c.History.length-1) default=x;simp only[bd_s,ac,db];cases(s.Epoch !=aB c.Log)<;>cases lH s x<;>cases decide ((c.History.length:Int)>=60)<;>rfl
 simp[*]
def yL (c:AM)(s:AJ)(h:c.sz<=34359738300/\s.sz<=34359738300):D9 c s=some (bQ c s):=bGz c s h
def H5:= @yL
theorem aBH {w:AA}{d:Int}(a:w.sz<=10000000000)(h:((aH w d 0).2==0)=true):(aO (aH w d 0).1 d=true/\(aF (aH w d 0).1 d).sz<=34359738368)/\((aH w d 0).1.aAA.sz<=34359738300/\(dO (aF (aH w d 0).1 d)).2.1.sz<=34359738300):=by
 grind[AJ.sz,AA.sz,AM.sz,zU,aF,aH,Lt,Z6,aO,k4,k2,k1,k3,k5,lN]
def aDv (w:AA)(d:Int)(a:w.sz<=10000000000):Fy w d=some (fD w d):=by
 unfold Fy fD;have b:w.sz<=34359738368:=by omega
 simp only[aD (show w.sz<=34359738100 by omega),aD b,bd_s,bne];cases hs:((aH w d 0).2==0) with
 |false=>rfl
 |true=>obtain⟨⟨k1,k2⟩,k3⟩:=aBH a hs;generalize(aH w d 0).1=x at*;simp only[ay,ae,nX k1,bd_s,aD k2,aD k3,Aq];unfold Nl;cases(dO (aF x d)).2.2<;>cases(bQ x.aAA (dO (aF x d)).2.1).2<;>rfl
def aDw (w:AA)(d:Int)(a:w.sz<=10000000000):Gj w d=some (fD w d):=by
 unfold Gj fD
 grind[aH,k1,k2,k3,aBH,Bool.not_true,nX,bd_s,aD,Nl,dO,aF,bQ,bne]
def Gu (s n:Int):aC7 s n=some (aM s n):=by rfl
def aDx:= @Gu
def Lv (s:AI):aGe s=some (aY s):=rfl
def aG6:= @Lv
def Cx (s:AI)(n:ByteArray)(k:Int)(h:n.size<=34359738300):Bi s n k=some (dH s n k):=by unfold Bi;rw[aD h,bd_s,aD (by simp)];rfl
def Z9:= @Cx
def Gv (s:AI)(n:ByteArray)(k:Int)(h:n.size<=34359738300):Ff s n k=some (cK s n k):=by unfold Ff;rw[aD h];rfl
def aDy:= @Gv
def H6 (s:AI)(l:List Int)(h:l.length<=34359738300):xS s l=some (mD s l):=by unfold xS;rw[aD h];rfl
def H7 (s:AI)(l:List Int)(h:l.length<=34359738300):yF s l=some (mD s l):=by unfold yF;rw[aD (by simp),bd_s,aD h];rfl
def Gw (e:AK)(d:Int)(h:e.Boxes.length<=34359738368):Fe e d=some (pQ e d):=by unfold Fe;rw[jK (l:=e.Boxes) (λn b=>bif b.To==d then IntKind.i64.wrap (n+1) else n) (λ_ _=>True) (λs=>some s) (by omega) trivial (by simp) (by grind[fO,aQ,bd_s]) (by simp)];rfl
def aDz:= @Gw
def aAa (l:List AF)(k d:Int)(s:AI)(h:l.length<=34359738300):Bd l k d s=some (bW l k d s):=by
 have h1:l.length<=34359738368:=by omega
 have e:∀x:AF,gd ((l++[x]).length<=34359738368) (some (aW (l++[x])))=some (aW (l++[x])):=(by grind[aD]);have a:∀x:Int,gd ([x].length<=34359738300) (some (mD s [x]))=some (mD s [x]):=λx=>aD (by simp);unfold Bd bW vM aX8;simp only[aD h1,bd_s,a,gQ h1,e];generalize aW (l++_)=q;cases decide ((l.length:Int)>0)<;>cases aW l<;>cases q<;>rfl
def aAb (l:List AF)(k d:Int)(s:AI)(h:l.length<=34359738300):Ck l k d s=some (bW l k d s):=by
 have h1:l.length<=34359738368:=by omega
 have e:∀x:AF,gd ((l++[x]).length<=34359738368) (some (aW (l++[x])))=some (aW (l++[x])):=(by grind[aD]);have a:∀x:Int,gd ([x].length<=34359738300) (some (mD s [x]))=some (mD s [x]):=λx=>aD (by simp);unfold Ck bW vM aX8;simp only[aD h1,bd_s,a,gQ h1,e];generalize aW (l++_)=q;cases decide ((l.length:Int)>0)<;>cases aW l<;>cases q<;>rfl
def bBs (p e:Int)(d:List Int)(h:aT d):(bd (bif iM p==0 then some true else bif !bN e then some true else some (decide ((d.length:Int)>200))) λb=>bif b then some (AQ.mk 0 0 [] 0,false) else bd (gd (aT d) (some (lZ (kX (iM p) e) d))) λa=>bd (gd (a.length<=34359738200) (some (aFx (kX (iM p) e) (AQ.mk p e a 0)))) λz2=>some (AQ.mk p e a z2,true))=some (gL p e d):=by
 grind[iM,bN,decide,Bool.or_eq_false_iff,decide_eq_false_iff_not,aD,bd_s,lZ,kX,Ar,Aq,gL,nK]
def Xf (p e:Int)(d:List Int)(h:aT d):aOa p e d=some (gL p e d):=bBs p e d h
def aO2:= @Xf
def Lx (l:List Int)(e:Int)(d:List Int)(h:l.length<=34359738300/\aT d):Kk l e d=some (gF e d 0 l):=by
 obtain⟨h1,h2⟩:=h;unfold Kk;rw[aTa (e:=e) (d:=d) (l:=l) (x:=(([],false):List AQ×Bool)) (by grind[fO,aQ,bd_s,aD,gQ]) (by simp) l.length 0 FUEL [] (by omega) (by grind[iB]) (by simp),im];cases hs:(gF e d 0 l).2 with
 |true=>rw[ac,nx_r,bv,<-hs]
 |false=>rw[ae,bJr hs];rfl
def aG7:= @Lx
def bD3 (a b:Int):aT (iR [a,b]):=aM6 (by grind[aYa]) (U6 _)
def Rp (l:List AF)(k e:Int)(h:l.length<=34359738300):tZ l k e=some (bE l k e):=by have hd:=gP l;unfold tZ bE;simp only[aD (show l.length<=34359738368 by omega),bd_s,aD (show[aB l,k].length<=5000000000 by simp),aD (show(aC l).length<=34359738300/\aT (iR [aB l,k]) from⟨by omega,bD3 _ _⟩)];cases aW l<;>cases bN k<;>cases(gF e (iR [aB l,k]) 0 (aC l)).2<;>rfl
def Rq (l:List AF)(k e:Int)(h:l.length<=34359738300):uL l k e=some (bE l k e):=by have hd:=gP l;unfold uL bE;simp only[aD (show l.length<=34359738368 by omega),bd_s,aD (show[aB l,k].length<=5000000000 by simp),aD (show(aC l).length<=34359738300/\aT (iR [aB l,k]) from⟨by omega,bD3 _ _⟩)];cases aW l<;>cases bN k<;>cases(gF e (iR [aB l,k]) 0 (aC l)).2<;>rfl
def bD4 (e:AK)(l:List Int):(l.all λd=>pQ e d==1)= !(l.any λd=>pQ e d !=1):=by
 grind
def aG8 (e:AK)(l:List AF)(h:e.Boxes.length<=34359738368/\l.length<=34359738368):Kl e l=some (gT e l):=by obtain⟨h1,h2⟩:=h;have hd:=gP l;unfold Kl gT;rw[aD h2,bd_s,pM (l:=aC l) (λd=>pQ e d !=1) (.inl false) (.inr PUnit.unit) (by omega) (by grind[fO,aQ,bd_s,aD]) (by simp),bD4];simp only[aD h2,bd_s];cases(aC l).any (λd=>pQ e d !=1)<;>cases(e.Epoch==aB l)<;>cases((e.Boxes.length:Int)==((aC l).length:Int))<;>rfl
def aG9 (e:AK)(l:List AF)(h:e.Boxes.length<=34359738368/\l.length<=34359738368):Li e l=some (gT e l):=by obtain⟨h1,h2⟩:=h;have hd:=gP l;unfold Li gT;rw[aD h2,bd_s,aD h2,bd_s,pM (l:=aC l) (λd=>pQ e d !=1) (.inl false) (.inr PUnit.unit) (by omega) (by grind[fO,aQ,bd_s,aD]) (by simp),bD4];simp only[bne];cases(aC l).any (λd=> !(pQ e d==1))<;>cases(e.Epoch==aB l)<;>cases((e.Boxes.length:Int)==((aC l).length:Int))<;>rfl
def bR8 {e:AK}(h:e.sz<=34359738368):e.Boxes.length<=34359738368:=by grind[AK.sz]
def Ma (c:AM)(l:List AF)(e:AK)(h:c.sz<=34359738368/\l.length<=34359738368/\e.sz<=34359738368):Kt c l e=some (jN c l e):=by obtain⟨h1,h2,a⟩:=h;unfold Kt jN;simp only[aD h1,aD h2,aD a,bd_s,aD (show e.Boxes.length<=34359738368/\l.length<=34359738368 from⟨bR8 a,h2⟩)];cases aW l<;>cases dJ l c.Log<;>cases gT e l<;>rfl
def aHa:= @Ma
def Cy (s:AD)(i:Int)(h:s.Accounts.length<=34359738368):Bj s i=some (aJ s i):=by unfold Bj;exact Uc (l:=s.Accounts) (λa=>a.Id==i) (by omega) (by grind[fO,aQ,bd_s]) (by simp)
def aAc:= @Cy
def bO9 {l:List AV}{h p:Int}(a:l.length<=34359738300){β:Type}(k:List AV->Option β):gd (jU l ((D6 h l:Nat):Int)) (gd (jU l ((D6 h l:Nat):Int)) (gd (bB [] (List.take (D6 h l) l)) (gd (bB ([]++List.take (D6 h l) l) [AV.mk h p 0 false]) (gd (bB ([]++List.take (D6 h l) l++[AV.mk h p 0 false]) (List.drop (D6 h l) l)) (k ([]++List.take (D6 h l) l++[AV.mk h p 0 false]++List.drop (D6 h l) l))))))=k (D7 l h p):=by have hk:D6 h l<=l.length:=Um;have h1:jU l ((D6 h l:Nat):Int):=⟨by omega,by omega⟩;rw[aD h1,aD h1,aD (by grind[bB]),aD (by grind[bB]),aD (by grind[bB])];rfl
def bD5 {l:List AV}{h:Int}(a:l.length<=34359738300):EV.cO (α:=Int) FUEL (λrec (i:Int)=>bd (bif decide (i<(l.length:Int)) then(bd (bC l i) λz=>some (decide (z.Handle<h))) else some false) λz=>bif z then rec (IntKind.i64.wrap (i+1)) else some i) 0=some ((D6 h l:Nat):Int):=by have:=aF3 (l:=l) (λc=>decide (c.Handle<h)) (λi=>some (i:Int)) (λi=>(i:Int)) (F:=λrec (i:Int)=>bd (bif decide (i<(l.length:Int)) then(bd (bC l i) λz=>some (decide (z.Handle<h))) else some false) λz=>bif z then rec (IntKind.i64.wrap (i+1)) else some i) (by omega) (by grind[fO,aQ,bd_s,aL]) (by simp);exact this
def bPa {a:AH}(b:a.sz<=34359738300)(h p:Int):(AH.mk a.Id a.Minimum (D7 a.Credentials h p)).sz<=34359738368:=by
 grind[AH.sz,aYb]
def Xg (a:AH)(h p:Int)(b:a.sz<=34359738300):wQ a h p=some (fE a h p):=by
 have h1:a.sz<=34359738368:=by omega
 have hc:a.Credentials.length<=34359738300:=b;unfold wQ fE;rw[aD h1,bd_s,bD5 hc];simp only[aD h1,bd_s,bm];rw[bO9 hc (λL=>bd (bif !bA a then some true else(bd (gd ((AH.mk a.Id a.Minimum L).sz<=34359738368) (some (bA (AH.mk a.Id a.Minimum L)))) λc=>some (!c))) λd=>bif d then some (a,false) else some (AH.mk a.Id a.Minimum L,true))];simp only[bd_s,aD (bPa b h p)];cases bA a<;>cases bA {a with Credentials:=D7 a.Credentials h p}<;>rfl
def Xh (a:AH)(h p:Int)(b:a.sz<=34359738300):xA a h p=some (fE a h p):=by
 have h1:a.sz<=34359738368:=by omega
 have hc:a.Credentials.length<=34359738300:=b;unfold xA fE;rw[aD h1,bd_s,bD5 hc];simp only[aD h1,bd_s,bm];rw[bO9 hc (λL=>bd (gd ((AH.mk a.Id a.Minimum L).sz<=34359738368) (some (bA (AH.mk a.Id a.Minimum L)))) λc=>bif (!c) then some (a,false) else some (AH.mk a.Id a.Minimum L,true))];simp only[bd_s,aD (bPa b h p)];cases bA a<;>cases bA {a with Credentials:=D7 a.Credentials h p}<;>rfl
def bBt {a:AH}{h p:Int}(hn:(fE a h p).2=false):(fE a h p).1=a:=by
 grind[bA,D7,fE]
def aAd (s:AD)(i h p:Int)(a:s.sz<=34359738300):Bn s i h p=some (dI s i h p):=by
 have h1:s.sz<=34359738368:=by omega
 have hl:s.Accounts.length<=34359738368:=by grind[AD.sz]
 unfold Bn dI;simp only[aD h1,aD hl,bd_s];rw[Aq,bd_s];cases hc:(!bI s||decide (aJ s i<0)) with
 |true=>rfl
 |false=>
  rw[bj] at hc;obtain⟨b,c,d⟩:=bAw a hc.2;simp only[ae,b,bd_s,aD c];cases e:(fE (s.Accounts.getD (aJ s i).toNat default) h p).2 with
  |true=>rfl
  |false=>simp_all[bBt,aXz]
def aAe (s:AD)(i h p:Int)(a:s.sz<=34359738300):Cm s i h p=some (dI s i h p):=by
 grind[bI,decide,aJ,Bool.or_eq_false_iff,bAw,bd_s,aD,fE,default,Aq,Cm,dI,AD.sz]
def zZ (i:Int):(aA i).size<=34359738300:=by unfold aA;cases i==0<;>cases i==1<;>decide
def aD0 (d:AC)(h:Int)(rm:Bool)(c:d.sz<=34359738300):Ga d h rm=some (jX d h rm):=by have h1:=Jt d (aA 0) h rm;unfold Ga jX;rw[aD ⟨by omega,zZ 0⟩,bd_s,show FUEL=FUEL-2+1+1 from by have:=iB;omega];have e:∀{β:Type} (k:Option β),gd ((bO d (aA 0) h rm).1.sz<=34359738360/\(aA 1).size<=34359738300) k=k:=λk=>aD ⟨by omega,zZ 1⟩;show(bd (bd (gd ((bO d (aA 0) h rm).1.sz<=34359738360/\(aA 1).size<=34359738300) (some (bO (bO d (aA 0) h rm).1 (aA 1) h rm))) λa=>some (a.1.Store.Vendor,a.1.Store.Serial,a.1.Store.Seed,a.1.Store.Counter,a.1.Log,a.1.Key,a.1.Epoch,a.1.Version,a.1.aAC.Entries)) λb=>some (AC.mk (AI.mk b.1 b.2.1 b.2.2.1 b.2.2.2.1) b.2.2.2.2.1 b.2.2.2.2.2.1 b.2.2.2.2.2.2.1 b.2.2.2.2.2.2.2.1 (AB.mk b.2.2.2.2.2.2.2.2)))=_;rw[e,bd_s,bd_s]
def bBu {w:AA}{d:Int}(a:aR w=true)(hd:aO w d=true):bC w.Stolen d=some (dV w d):=by
 grind[dV,List.getD,List.getElem?_eq_getElem,nV,aO,aR]
def aVx {p r:List AD}{s:AD}:bC (p++s::r) ((p.length:Nat):Int)=some s:=by simp[aQ]
def aO3 {p r:List AD}{s y:AD}:(p++s::r).set (Int.toNat ((p.length:Nat):Int)) y=p++y::r:=by simp
def bN5 {c:List AC}{d:AC}{b n:Int}{rm:Bool}(hb:0<=b)(hi:b.toNat<c.length)(hd:c[b.toNat]=d)(k:d.sz<=34359738300):EV.cO (α:=List AC) FUEL (λrec (i:Nat×List AC)=>bif decide ((i.1:Int)<2) then(bd (bC i.2 b) λa=>bd (gd (a.sz<=34359738360/\(aA (i.1:Int)).size<=34359738300) (some (bO a (aA (i.1:Int)) n rm))) λe=>bd (bC i.2 b) λf=>rec (i.1+1,i.2.set b.toNat e.1)) else some i.2) (0,c)=some (c.set b.toNat (jX d n rm)):=by
 have h1:=Jt d (aA 0) n rm;have h:bC c b=some d:=by rw[nV hb (by omega),hd]
 have j:bC (c.set b.toNat (bO d (aA 0) n rm).1) b=some (bO d (aA 0) n rm).1:=by grind[nV]
 rw[show FUEL=FUEL-3+1+1+1 from by have:=iB;omega,iW];show(bd (bC c b) λa=>bd (gd (a.sz<=34359738360/\(aA 0).size<=34359738300) (some (bO a (aA 0) n rm))) λe=>bd (bC c b) λf=>EV.cO (FUEL-3+1+1) _ (1,c.set b.toNat e.1))=_;rw[h,bd_s,aD ⟨by omega,zZ 0⟩,bd_s,bd_s,iW];show(bd (bC (c.set b.toNat (bO d (aA 0) n rm).1) b) λa=>bd (gd (a.sz<=34359738360/\(aA 1).size<=34359738300) (some (bO a (aA 1) n rm))) λe=>bd (bC (c.set b.toNat (bO d (aA 0) n rm).1) b) λf=>EV.cO (FUEL-3+1) _ (2,(c.set b.toNat (bO d (aA 0) n rm).1).set b.toNat e.1))=_;rw[j,bd_s,aD ⟨by omega,zZ 1⟩,bd_s,bd_s,iW,d8];rfl
theorem bBv {w:AA}{b:Int}(a:w.sz<=100000000)(h1:aR w=true)(hs:((aH w b 0).2==0)=true):((aO (aH w b 0).1 b=true/\(aH w b 0).1.Sites.length=2)/\(aH w b 0).1.sz<=300000000)/\(aH w b 0).1.aAA.Log.length<=100000000:=by
 grind[aR,aH,aO,k4,k2,k3,AA.sz,AM.sz,k1,k5,lN]
def aTy {L:List AU}(a:30<L.length)(b:L.length<=34359738301):gd (jU L ((wL L:Nat):Int)) (gd (jU L (IntKind.i64.wrap (((wL L:Nat):Int)+1))) (gd (bB [] (List.take (Int.toNat ((wL L:Nat):Int)) L)) (gd (bB ([]++List.take (Int.toNat ((wL L:Nat):Int)) L) (List.drop (Int.toNat (IntKind.i64.wrap (((wL L:Nat):Int)+1))) L)) (some ([]++List.take (Int.toNat ((wL L:Nat):Int)) L++List.drop (Int.toNat (IntKind.i64.wrap (((wL L:Nat):Int)+1))) L)))))=some (Eu L):=by
 have hs:=aYe (l:=L) (by omega);have e:IntKind.i64.wrap (((wL L:Nat):Int)+1)=((wL L+1:Nat):Int):=by grind[aL]
 rw[e,aD ⟨by omega,by omega⟩,aD ⟨by omega,by omega⟩,aD (by grind[bB]),aD (by grind[bB]),bm,bm]
 grind[decide_eq_true,Eu]
def bD6 (l:List AU)(x:AU)(h:l.length<=34359738300):(AP.mk (Eu (l++[x]))).sz<=34359738368:=by
 grind[AP.sz,List.length_append,List.length_singleton,aS5]
theorem aZd {L:List AU}(h:¬30<L.length):Eu L=L:=by
 grind[decide_eq_false,Eu]
def aD1 (m:AP)(k a t:Int)(c:m.sz<=34359738300):Gl m k a t=some (pY m k a t):=by
 have h1:m.sz<=34359738368:=by omega
 have hm:m.Notices.length<=34359738300:=c;have d:(m.Notices++[(⟨k,a,t,false⟩:AU)]).length=m.Notices.length+1:=by simp
 have hn:=bD6 m.Notices ⟨k,a,t,false⟩ hm;unfold Gl pY;simp only[aD h1,bd_s,gQ (show m.Notices.length<=34359738368 by omega)];generalize hg:m.Notices++[(⟨k,a,t,false⟩:AU)]=L at*;by_cases b:30<L.length
 ·rw[au (show(L.length:Int)>30 by omega),bM5 (l:=L) (λi=>some i) (λi=>((0:Int),i)) (by omega) (by grind[fO,aQ,bd_s]) (by simp),ac,bd_s,aTy b (by omega),bd_s,aD hn,bd_s];cases eY m<;>cases eY ⟨Eu L⟩<;>rfl
 grind[decide_eq_false,bd_s,aZd,aD,eY]
def aD2 (m:AP)(k a t:Int)(d:m.sz<=34359738300):Fw m k a t=some (pY m k a t):=by
 have h1:m.sz<=34359738368:=by omega
 have hm:m.Notices.length<=34359738300:=d;have j:(m.Notices++[(⟨k,a,t,false⟩:AU)]).length=m.Notices.length+1:=by simp
 have hn:=bD6 m.Notices ⟨k,a,t,false⟩ hm;unfold Fw pY;rw[aD (by unfold bB;simp;omega),bv,gQ (show m.Notices.length<=34359738368 by omega)];simp only[aD h1,bd_s];generalize hg:m.Notices++[(⟨k,a,t,false⟩:AU)]=L at*;by_cases c:30<L.length
 ·have e:=aTb (l:=L) (F:=λrec (b:Int×Int)=>bif (decide (b.2>=(0:Int))) then(bd (bd (bC L (b.2)) λf=>bif (f.Seen) then(some (b.2)) else(some (b.1))) λh=>rec ((h,IntKind.i64.wrap (b.2-(1:Int))))) else(some (b.1))) (λrec q i hi=>by
   simp only[au (show((i:Int)>=0) by omega),ac,aQ hi,bd_s,p8,aL (show(-9223372036854775808:Int)<=(i:Int)-1 by omega) (show(i:Int)-1<=9223372036854775807 by omega)]) (λrec q=>rfl) L.length FUEL 0 (ak _) (by have:=iB;omega)
  rw[fa] at e;rw[au (show(L.length:Int)>30 by omega),ac,aL (by omega) (by omega),e,<-aYd,bd_s,aTy c (by omega),bd_s,aD hn,bd_s];cases eY m<;>cases eY ⟨Eu L⟩<;>rfl
 ·rw[av (show ¬(L.length:Int)>30 by omega),ae,bd_s];rw[aZd c] at hn ⊢;rw[aD hn,bd_s];cases eY m<;>cases eY ⟨L⟩<;>rfl
def aZe {τ:Type}{x:τ}{st:AI}{n:Int}{N:Nat}{F:(Nat×List AD->Option (τ⊕List AD))->Nat×List AD->Option (τ⊕List AD)}
  (a:∀rec (p:List AD) (s:AD) (r:List AD),p.length+r.length+1=N->s.sz<=34359738300->F rec (p.length,p++s::r)=bif !(dI s 1 n (cK st (aA (p.length:Int)) n)).2 then some (.inl x) else rec (p.length+1,p++(dI s 1 n (cK st (aA (p.length:Int)) n)).1::r)) (b:∀rec S,F rec (N,S)=some (.inr S)):
  ∀(r p:List AD) (m:Nat),p.length+r.length=N->r.length<m->(∀s∈r,s.sz<=34359738300)->EV.cO m F (p.length,p++r)=some (bif (eH st n p.length r).2 then .inr (p++(eH st n p.length r).1) else .inl x)
 |[],p,m+1,h,_,_=>by
  simp only[bu,dT] at h;rw[iW,h,b];simp[eH]
 |s::r,p,m+1,h,hm,hs=>by
  simp only[aw] at h hm;rw[iW,a _ p s r (by omega) (hs s (by simp)),eH];cases hr:(dI s 1 n (cK st (aA (p.length:Int)) n)).2 with
  |false=>rfl
  |true=>have:=aZe a b r (p++[(dI s 1 n (cK st (aA (p.length:Int)) n)).1]) m (by simp;omega) (by omega) (λy c=>hs y (by simp[c]));simp only[ax,cn,ck,cP,bv] at this;rw[ay,ae,this];cases(eH st n (p.length+1) r).2<;>rfl
def aTz {τ:Type}{x:τ}{st:AI}{n:Int}{N:Nat}{l:List AD}(d:l.length=N)(a:N<=100)(hs:∀s∈l,s.sz<=34359738300){F:(Nat×List AD->Option (τ⊕List AD))->Nat×List AD->Option (τ⊕List AD)}
  (b:∀rec (p:List AD) (s:AD) (r:List AD),p.length+r.length+1=N->s.sz<=34359738300->F rec (p.length,p++s::r)=bif !(dI s 1 n (cK st (aA (p.length:Int)) n)).2 then some (.inl x) else rec (p.length+1,p++(dI s 1 n (cK st (aA (p.length:Int)) n)).1::r)) (c:∀rec S,F rec (N,S)=some (.inr S)):EV.cO FUEL F (0,l)=some (bif (eH st n 0 l).2 then .inr (eH st n 0 l).1 else .inl x):=by
 have:=aZe b c l [] FUEL (by simp;omega) (by have:=iB;omega) hs;assumption
def Gx (w:AA)(b:Int):AA×Bool:=bif (add1 w b).2&&((Rf w b).2&&((lI w b).2&&(sG w b).2==0)) then(nY (sG w b).1 2,true) else(w,false)
def aT0 {w:AA}{b:Int}(h1:aR w=true)(h2:aO w b=true)(a:dV w b=false)(c:decide ((w.Devices.length:Int)>=6)=false)(d:((aH w b 0).2==0)=true):bY w b=Gx w b:=by
 grind[bY,qN,Gx]
theorem vP {w:AA}{b:Int}(h:(add1 w b).2=false):Gx w b=(w,false):=by grind[Gx]
theorem rV {w:AA}{b:Int}(h:(Rf w b).2=false\/(lI w b).2=false\/((sG w b).2==0)=false):Gx w b=(w,false):=by unfold Gx;rcases h with h|h|h<;>rw[h]<;>simp
def aI1 {w:AA}{b:Int}(h1:(add1 w b).2=true)(h2:(Rf w b).2=true)(a:(lI w b).2=true)(c:((sG w b).2==0)=true):Gx w b=(nY (sG w b).1 2,true):=by
 grind[Gx]
def bD7 {w:AA}{b:Int}(c:w.sz<=100000000)(h0:((aH w b 0).2==0)=true)(a:(lI w b).2=true):(appW (lI w b).1 (aY (aM w.Seed (w.Devices.length:Int)))).sz<=34359738100/\((sG w b).2==0->(sG w b).1.Mail.sz<=34359738300):=by
 obtain⟨d,e⟩:=aVa h0 a;have f:(aY (aM w.Seed (w.Devices.length:Int))).sz=0:=rfl
 grind[sG,AP.sz,AA.sz,aH,appW,lI,aY,aM,aCr,lN]
theorem rW {w:AA}{b:Int}(h:(aR w&&(aO w b&&(!dV w b&& !decide ((w.Devices.length:Int)>=6))))=false\/((aH w b 0).2==0)=false):bY w b=(w,false):=by
 grind[bY,qN]
def H8 (w:AA)(b:Int)(m:w.sz<=100000000):yI w b=some (bY w b):=by
 have h:w.sz<=34359738368:=by omega
 unfold yI;rw[aD h,bd_s];cases h1:aR w with
 |false=>grind[Bool.not_false,bd_s,aD,rW]
 |true=>
 cases h2:aO w b with
 |false=>grind[Bool.not_false,Bool.not_true,bd_s,aD,rW]
 |true=>
 rw[bBu h1 h2];cases F:dV w b with
 |true=>grind[Bool.not_true,bd_s,aD,rW]
 |false=>
 cases G:decide ((w.Devices.length:Int)>=6) with
 |true=>grind[Bool.not_true,bd_s,aD,rW]
 |false=>
 simp only[ay,ae,bd_s,aD (show w.sz<=34359738100 by omega),bne];cases hs:((aH w b 0).2==0) with
 |false=>grind[Bool.not_false,bd_s,aD,rW]
 |true=>
 rw[aT0 h1 h2 F G hs];obtain⟨⟨⟨o,L⟩,M⟩,O⟩:=bBv m h1 hs;have q:AI.mk (1:Int) (w.Devices.length:Int) (aV w.Seed [277,(w.Devices.length:Int)]) 0=aM w.Seed (w.Devices.length:Int):=rfl;simp only[q,nX o,bd_s,aD (show(aH w b 0).1.aAA.Log.length<=34359738300 by omega),aD h,ay,ae];have t:=oP (aH w b 0).1.aAA.Log 1 (aS (aM w.Seed (w.Devices.length:Int))) (aF (aH w b 0).1 b).Store;obtain⟨l,hl⟩:∃l,l=bW (aH w b 0).1.aAA.Log 1 (aS (aM w.Seed (w.Devices.length:Int))) (aF (aH w b 0).1 b).Store:=⟨_,rfl⟩;obtain⟨e,he⟩:∃e,e=bE l.1 (aF (aH w b 0).1 b).Key (IntKind.i64.wrap (1000+IntKind.i64.wrap (10*(l.1.length:Int)))):=⟨_,rfl⟩;obtain⟨c,j⟩:∃c,c=jN (aH w b 0).1.aAA l.1 e.1:=⟨_,rfl⟩;have R:add1 w b=bif l.2&&(e.2&&c.2) then({(aH w b 0).1 with aAA:=c.1},true) else((aH w b 0).1,false):=by rw[j,he,hl];rfl
 rw[<-hl] at t ⊢;have u:=zW l.1 (aF (aH w b 0).1 b).Key (IntKind.i64.wrap (1000+IntKind.i64.wrap (10*(l.1.length:Int))));rw[<-he] at u;have H:=Lt (aH w b 0).1;cases T:l.2 with
 |false=>grind[vP]
 |true=>
 rw[ay,ae,aD (by omega),bd_s,<-he];cases W:e.2 with
 |false=>grind[vP]
 |true=>
 rw[ay,ae,aD (by omega),bd_s,<-j];cases X:c.2 with
 |false=>grind[vP]
 |true=>
 have f:add1 w b=({(aH w b 0).1 with aAA:=c.1},true):=by simp_all
 have v:Rf w b=eH (aM w.Seed (w.Devices.length:Int)) (w.Devices.length:Int) 0 (aH w b 0).1.Sites:=by unfold Rf;rw[f]
 have y:∀s∈(aH w b 0).1.Sites,s.sz<=34359738300:=(by grind[aFy,AD.sz,AA.sz]);rw[ay,ae,aTz (x:=((w,false):AA×Bool)) (st:=aM w.Seed (w.Devices.length:Int)) (n:=(w.Devices.length:Int)) (l:=(aH w b 0).1.Sites) (N:=(aH w b 0).1.Sites.length) rfl (by omega) y (λrec p s r hp m=>by
  simp only[fO (show p.length<(aH w b 0).1.Sites.length by omega),ac,aVx,bd_s,aD (zZ (p.length:Int)),aD m,aO3]) (by simp)]
 cases B:(eH (aM w.Seed (w.Devices.length:Int)) (w.Devices.length:Int) 0 (aH w b 0).1.Sites).2 with
 |false=>rw[rV (.inl (by rw[v,B]))];rfl
 |true=>
 obtain⟨k1,k2,k3,k4⟩:=Z6 o;have hg:=o;simp only[aO,aa,cu] at hg;have I:AA.mk (aH w b 0).1.Now (aH w b 0).1.Seed ((aH w b 0).1.Devices.set b.toNat (jX (aF (aH w b 0).1 b) (w.Devices.length:Int) false)) (aH w b 0).1.Stolen c.1 (eH (aM w.Seed (w.Devices.length:Int)) (w.Devices.length:Int) 0 (aH w b 0).1.Sites).1 (aH w b 0).1.aAO (aH w b 0).1.Hosts (aH w b 0).1.Pin (aH w b 0).1.Mail=aAS w b:=by unfold aAS;rw[v,f];rfl
 obtain⟨⟨Z,z2⟩,z3,z4⟩:=aM8 hs;rw[ac,nx_r,bN5 (d:=aF (aH w b 0).1 b) hg.1 k2 (by simp[*]) (by omega),bd_s,I,aD (by omega),bd_s,show fD (aAS w b) b=lI w b from rfl];cases z:(lI w b).2 with
 |false=>grind[rV]
 |true=>
 obtain⟨y1,y2⟩:=aVa hs z;obtain⟨J,K⟩:=bD7 m hs z;have y0:(lI w b).1.sz<=34359738368:=by omega
 have D:(lI w b).1.Devices.length<=34359738368/\(lI w b).1.Stolen.length<=34359738368:=by grind[AA.sz]
 rw[ay,ae,gQ D.1,gQ D.2];show(bd (gd ((appW (lI w b).1 (aY (aM w.Seed (w.Devices.length:Int)))).sz<=34359738100) (some (sG w b))) λa=>bif !(a.2==0) then some (w,false) else bd (gd (a.1.Mail.sz<=34359738300) (some (pY a.1.Mail 2 1 a.1.Now))) λA=>some (AA.mk a.1.Now a.1.Seed a.1.Devices a.1.Stolen a.1.aAA a.1.Sites a.1.aAO a.1.Hosts a.1.Pin A.1,true))=_;rw[aD J,bd_s];cases k:((sG w b).2==0) with
 |false=>grind[rV]
 |true=>rw[aI1 (by rw[f]) (by rw[v,B]) z k,ay,ae,aD (K k),bd_s];rfl
def bN6 {w:AA}{d:Int}(h:(fD w d).2=false):(fD w d).1=w:=by
 grind[aH,Nl,fD]
def H9 (w:AA)(b:Int)(m:w.sz<=100000000):yB w b=some (bY w b):=by
 have u:w.sz<=34359738368:=by omega
 unfold yB;simp only[bd_s,aD (show w.sz<=34359738100 by omega),aD u,bne];cases hs:((aH w b 0).2==0) with
 |false=>rw[rW (.inr hs)];rfl
 |true=>
 obtain⟨⟨h1,h2⟩,_⟩:=lN hs;rw[bBu h1 h2];cases v:dV w b with
 |true=>rw[rW (.inl (by rw[h1,h2,v];rfl))];rfl
 |false=>
 cases y:decide ((w.Devices.length:Int)>=6) with
 |true=>rw[rW (.inl (by rw[h1,h2,v,y];rfl))];rfl
 |false=>
 simp only[ay,ae,bd_s];rw[aT0 h1 h2 v y hs];have R:w.Devices.length<6:=by have:=of_decide_eq_false y;omega
 obtain⟨⟨⟨z,T⟩,K⟩,g4⟩:=bBv m h1 hs;have A:AI.mk (1:Int) (w.Devices.length:Int) (aV w.Seed [277,(w.Devices.length:Int)]) 0=aM w.Seed (w.Devices.length:Int):=rfl;simp only[A,nX z,bd_s,aD (show(aH w b 0).1.aAA.Log.length<=34359738300 by omega)];have B:=oP (aH w b 0).1.aAA.Log 1 (aS (aM w.Seed (w.Devices.length:Int))) (aF (aH w b 0).1 b).Store;obtain⟨l,hl⟩:∃l,l=bW (aH w b 0).1.aAA.Log 1 (aS (aM w.Seed (w.Devices.length:Int))) (aF (aH w b 0).1 b).Store:=⟨_,rfl⟩;obtain⟨e,he⟩:∃e,e=bE l.1 (aF (aH w b 0).1 b).Key (IntKind.i64.wrap (1000+IntKind.i64.wrap (10*(l.1.length:Int)))):=⟨_,rfl⟩;obtain⟨c,k⟩:∃c,c=jN (aH w b 0).1.aAA l.1 e.1:=⟨_,rfl⟩;have o:add1 w b=bif l.2&&(e.2&&c.2) then({(aH w b 0).1 with aAA:=c.1},true) else((aH w b 0).1,false):=by rw[k,he,hl];rfl
 rw[<-hl] at B ⊢;have D:=zW l.1 (aF (aH w b 0).1 b).Key (IntKind.i64.wrap (1000+IntKind.i64.wrap (10*(l.1.length:Int))));rw[aD (show l.1.length<=34359738300 by omega),bd_s];rw[<-he] at D ⊢;have W:=Lt (aH w b 0).1;rw[aD (show(aH w b 0).1.aAA.sz<=34359738368/\l.1.length<=34359738368/\e.1.sz<=34359738368 from⟨by omega,by omega,by omega⟩),bd_s,<-k];cases q:l.2 with
 |false=>rw[vP (by rw[o,q];rfl)];rfl
 |true=>
 cases F:e.2 with
 |false=>rw[vP (by rw[o,q,F];rfl)];rfl
 |true=>
 cases L:c.2 with
 |false=>rw[vP (by rw[o,q,F,L];rfl)];rfl
 |true=>
 have f:add1 w b=({(aH w b 0).1 with aAA:=c.1},true):=by rw[o,q,F,L];rfl
 have G:Rf w b=eH (aM w.Seed (w.Devices.length:Int)) (w.Devices.length:Int) 0 (aH w b 0).1.Sites:=by unfold Rf;rw[f]
 have H:∀s∈(aH w b 0).1.Sites,s.sz<=34359738300:=λs hs=>by
  have h1:=aFy (g:=AD.sz) hs;simp only[AA.sz] at K;omega
 simp only[ay,ae,bd_s];rw[aTz (x:=((w,false):AA×Bool)) (st:=aM w.Seed (w.Devices.length:Int)) (n:=(w.Devices.length:Int)) (l:=(aH w b 0).1.Sites) (N:=2) T (by omega) H (λrec p s r hp m=>by
  simp only[au (show((p.length:Nat):Int)<2 by omega),ac,aVx,bd_s,aD (zZ (p.length:Int)),aD m,aO3]) (λrec S=>rfl)]
 cases M:(eH (aM w.Seed (w.Devices.length:Int)) (w.Devices.length:Int) 0 (aH w b 0).1.Sites).2 with
 |false=>rw[rV (.inl (by rw[G,M]))];rfl
 |true=>
 obtain⟨k1,k2,k3,k4⟩:=Z6 z;have hg:=z;simp only[aO,aa,cu] at hg;have X:AA.mk (aH w b 0).1.Now (aH w b 0).1.Seed ((aH w b 0).1.Devices.set b.toNat (jX (aF (aH w b 0).1 b) (w.Devices.length:Int) false)) (aH w b 0).1.Stolen c.1 (eH (aM w.Seed (w.Devices.length:Int)) (w.Devices.length:Int) 0 (aH w b 0).1.Sites).1 (aH w b 0).1.aAO (aH w b 0).1.Hosts (aH w b 0).1.Pin (aH w b 0).1.Mail=aAS w b:=by unfold aAS;rw[G,f];rfl
 obtain⟨⟨Z,z2⟩,z3,z4⟩:=aM8 hs;have y0:(aH w b 0).1.sz<=34359738368:=by omega
 have O:(aH w b 0).1.Devices.length<=34359738368/\(aH w b 0).1.Stolen.length<=34359738368:=by clear K;simp only[AA.sz] at y0;omega
 simp only[ac,nx_r,aD (show(aF (aH w b 0).1 b).sz<=34359738300 by omega),bd_s,gQ (show((aH w b 0).1.Devices.set b.toNat (jX (aF (aH w b 0).1 b) (w.Devices.length:Int) false)).length<=34359738368 by rw[aq];exact O.1),gQ O.2];show(bd (gd ((appW (AA.mk (aH w b 0).1.Now (aH w b 0).1.Seed ((aH w b 0).1.Devices.set b.toNat (jX (aF (aH w b 0).1 b) (w.Devices.length:Int) false)) (aH w b 0).1.Stolen c.1 (eH (aM w.Seed (w.Devices.length:Int)) (w.Devices.length:Int) 0 (aH w b 0).1.Sites).1 (aH w b 0).1.aAO (aH w b 0).1.Hosts (aH w b 0).1.Pin (aH w b 0).1.Mail) (aY (aM w.Seed (w.Devices.length:Int)))).sz<=10000000000) (some (fD (appW (AA.mk (aH w b 0).1.Now (aH w b 0).1.Seed ((aH w b 0).1.Devices.set b.toNat (jX (aF (aH w b 0).1 b) (w.Devices.length:Int) false)) (aH w b 0).1.Stolen c.1 (eH (aM w.Seed (w.Devices.length:Int)) (w.Devices.length:Int) 0 (aH w b 0).1.Sites).1 (aH w b 0).1.aAO (aH w b 0).1.Hosts (aH w b 0).1.Pin (aH w b 0).1.Mail) (aY (aM w.Seed (w.Devices.length:Int)))) b))) λh=>bd (gd (h.1.sz<=34359738100) (some (aH h.1 (w.Devices.length:Int) 0))) λa=>bd (bif !h.2 then some true else some !(a.2==0)) λI=>bif I then some (w,false) else bd (gd (a.1.Mail.sz<=34359738300) (some (pY a.1.Mail 2 1 a.1.Now))) λJ=>some (AA.mk a.1.Now a.1.Seed a.1.Devices a.1.Stolen a.1.aAA a.1.Sites a.1.aAO a.1.Hosts a.1.Pin J.1,true))=_;have nz:(aY (aM w.Seed (w.Devices.length:Int))).sz=0:=rfl;rw[X,aD (show(appW (aAS w b) (aY (aM w.Seed (w.Devices.length:Int)))).sz<=10000000000 by rw[aCr];omega),bd_s,bJq _ Z (by omega),show fD (aAS w b) b=lI w b from rfl];cases t:(lI w b).2 with
 |false=>have hp:(lI w b).1=aAS w b:=bN6 (w:=aAS w b) (d:=b) t;rw[rV (.inr (.inl t)),aD (show(appW (lI w b).1 (aY (aM w.Seed (w.Devices.length:Int)))).sz<=34359738100 by rw[hp,aCr];omega)];rfl
 |true=>
 obtain⟨v1,v2⟩:=bD7 m hs t;rw[aD v1,bd_s,show aH (appW (lI w b).1 (aY (aM w.Seed (w.Devices.length:Int)))) (w.Devices.length:Int) 0=sG w b from rfl];cases j:((sG w b).2==0) with
 |false=>rw[rV (.inr (.inr j))];rfl
 |true=>rw[aI1 (by rw[f]) (by rw[G,M]) t j,ay,ae,bd_s,ae,aD (v2 j),bd_s];rfl
def aJ2 (s e:Int):aJo s e=some (bK s e):=by rfl
def aD3 (d:AC)(l:List AF)(k:Int)(h:d.sz<=34359738368/\l.length<=34359738368):Fh d l k=some (mE d l k):=by unfold Fh mE;simp only[aD h.1,aD h.2,bd_s];cases aW l<;>cases dJ l d.Log<;>cases decide (aB l<d.Epoch)<;>cases bN k<;>rfl
def Rt (s:AH)(i:Int)(h:s.Credentials.length<=34359738368):uG s i=some (aU s i):=by unfold uG;exact Uc (l:=s.Credentials) (λa=>a.Handle==i) (by omega) (λrec j hj=>by simp only[fO hj,ac,aQ hj,bd_s]) (λrec=>by simp only[U0,ae])
def bN7 {a:AH}{h:Int}(hk:decide (aU a h<0)=false):bC a.Credentials (aU a h)=some (gB a (aU a h)):=by have hr:=oQ (p:=λc:AV=>c.Handle==h) (i:=0) (l:=a.Credentials) hk;exact wK (by unfold aU;omega) (by unfold aU;omega)
def Xi (a:AH)(h:Int)(b:a.sz<=34359738368):wY a h=some (nL a h):=by
 have hl:a.Credentials.length<=34359738368:=b;unfold wY nL;simp only[aD b,aD hl,bd_s];cases bA a with
 |false=>rfl
 |true=>
  cases hk:decide (aU a h<0) with
  |true=>rfl
  |false=>simp only[ay,ae,bN7 hk,bd_s];cases(gB a (aU a h)).Cut<;>rfl
def bN8 {s:AD}(a:s.sz<=34359738300)(h:decide (aJ s 1>=0)=true):bC s.Accounts (aJ s 1)=some (fI s (aJ s 1))/\(fI s (aJ s 1)).sz<=34359738368:=by
 grind[fI,bAw,decide,aJ,decide_eq_false]
def aZf {h:Int}{N:Nat}{F:(Nat×List AD->Option (List AD))->Nat×List AD->Option (List AD)}
  (a:∀rec (p:List AD) (s:AD) (r:List AD),p.length+r.length+1=N->s.sz<=34359738300->F rec (p.length,p++s::r)=rec (p.length+1,p++gG h s::r)) (b:∀rec S,F rec (N,S)=some S):
  ∀(r p:List AD) (m:Nat),p.length+r.length=N->r.length<m->(∀s∈r,s.sz<=34359738300)->EV.cO m F (p.length,p++r)=some (p++r.map (gG h))
 |[],p,m+1,hl,_,_=>by
  simp only[bu,dT] at hl;rw[iW,hl,b];simp
 |s::r,p,m+1,hl,hm,hs=>by
  simp only[aw] at hl hm;have:=aZf a b r (p++[gG h s]) m (by simp;omega) (by omega) (λy c=>hs y (by simp[c]));simp only[ax,cn,ck,cP,bv] at this;rw[iW,a _ p s r (by omega) (hs s (by simp)),this];simp
def bG0 {h:Int}{N:Nat}{l:List AD}(d:l.length=N)(a:N<=100)(hs:∀s∈l,s.sz<=34359738300){F:(Nat×List AD->Option (List AD))->Nat×List AD->Option (List AD)}
  (b:∀rec (p:List AD) (s:AD) (r:List AD),p.length+r.length+1=N->s.sz<=34359738300->F rec (p.length,p++s::r)=rec (p.length+1,p++gG h s::r)) (c:∀rec S,F rec (N,S)=some S):EV.cO FUEL F (0,l)=some (l.map (gG h)):=by
 have:=aZf b c l [] FUEL (by simp;omega) (by have:=iB;omega) hs;assumption
def A9 {w:AA}{b t:Int}(h:((aH w b 0).2==0&&(!dV w b&&(!(b==t)&&bZ w t)))=false):eO w b t=(w,false):=by grind[eO]
def bBw {w:AA}{b t:Int}(h:((aH w b 0).2==0&&(!dV w b&&(!(b==t)&&bZ w t)))=true):eO w b t=lQ w b t:=by grind[eO]
def Pb {w:AA}{b t:Int}(h:(lK w b t).2=false\/(Jw w b t).2=false\/(Iw w b t).2=false):lQ w b t=(w,false):=by unfold lQ;rcases h with h|h|h<;>rw[h]<;>simp
def bR9 {w:AA}{b:Int}(a:w.sz<=100000000)(h1:aR w=true)(hs:((aH w b 0).2==0)=true):(aO (aH w b 0).1 b=true/\(aH w b 0).1.Sites.length=2)/\(aH w b 0).1.sz<=300000000/\(aH w b 0).1.aAA.Log.length<=100000000/\∀s∈(aH w b 0).1.Sites,s.sz<=34359738300:=by
 grind[aFy,AD.sz,AA.sz,bBv]
def bN9 {w:AA}{b t:Int}(n:w.sz<=100000000)(hs:((aH w b 0).2==0)=true){o:AA}(ho:o=(aH w b 0).1){c:AM}(h1:lK w b t=({o with aAA:=c},true)){x:AC}(h2:Jw w b t=(x,true)):
  (x.sz<=34359738300/\(jX x t true).sz<=34359738368/\c.sz<=34359738300/\(dO (jX x t true)).2.1.sz<=34359738300/\o.Mail.sz<=34359738300)/\
  lQ w b t=bif (dO (jX x t true)).2.2&&(bQ c (dO (jX x t true)).2.1).2 then(AA.mk o.Now o.Seed (o.Devices.set b.toNat (dO (jX x t true)).1) o.Stolen (bQ c (dO (jX x t true)).2.1).1 (o.Sites.map (gG t)) o.aAO o.Hosts o.Pin (pY o.Mail 4 1 o.Now).1,true) else(w,false):=by
 obtain⟨⟨a,p,q,r⟩,s,⟨b1,u⟩,v,y⟩:=bFn (t:=t) hs;have hd:=a;simp only[aO,aa,cu] at hd;have hi:b.toNat<(kP w b).Devices.length:=by omega
 have d:o=kP w b:=ho;have hx:(mE (aF (kP w b) b) (aJg w b t) (nZ (aF (kP w b) b).Store (aJg w b t))).1=x:=by have:=congrArg Prod.fst h2;exact this
 have e:(aF (kP w b) b).sz<=(kP w b).sz:=(Z6 a).2.2.1;have f:x.sz<=3*w.sz+21:=by
  grind[aM9,aF,kP,aJg,nZ]
 have h:=aK5 x t true;have j:=zU (jX x t true);have z:U7 w b t=AA.mk o.Now o.Seed (o.Devices.set b.toNat (jX x t true)) o.Stolen c (o.Sites.map (gG t)) o.aAO o.Hosts o.Pin o.Mail:=by unfold U7;rw[h1,h2]
 have k:aF (U7 w b t) b=jX x t true:=by
  grind[aF,List.getD,List.getElem?_set_self]
 have l:c.sz<=({o with aAA:=c}:AA).sz:=by grind[AA.sz,AM.sz]
 have m:c.sz<=16*w.sz+34:=by grind
 grind[dO,jX,bQ,nY,List.set_set,Nl,Iw,U7,lQ,AJ.sz,kP,AP.sz,AA.sz]
def bG1 {h:Int}{p r:List AD}{s:AD}(a:s.sz<=34359738300):s.Accounts.length<=34359738368:=by grind[AD.sz]
def aHb (w:AA)(b t:Int)(z:w.sz<=100000000):Ku w b t=some (eO w b t):=by
 have a:w.sz<=34359738368:=by omega
 unfold Ku;simp only[bd_s,aD (show w.sz<=34359738100 by omega),aD a,bne];cases hs:((aH w b 0).2==0) with
 |false=>rw[A9 (by rw[hs];rfl)];rfl
 |true=>
 obtain⟨⟨h1,h2⟩,_⟩:=lN hs;rw[bBu h1 h2];simp only[ay,ae,bd_s];cases j:dV w b with
 |true=>rw[A9 (by rw[hs,j];rfl)];rfl
 |false=>
 cases n:(b==t) with
 |true=>rw[A9 (by rw[hs,j,n];rfl)];rfl
 |false=>
 rw[aD (WOk.of' a)];cases d:bZ w t with
 |false=>rw[A9 (by rw[hs,j,n,d];rfl)];rfl
 |true=>
 rw[bBw (by rw[hs,j,n,d];rfl)];have ht:aO w t=true:=by unfold bZ at d;rw[aa] at d;exact d.1
 obtain⟨⟨A,G⟩,T,W,H⟩:=bR9 z h1 hs;simp only[ay,ae,bd_s,nX ht,nX A,aD (show(aH w b 0).1.aAA.Log.length<=34359738300 by omega)];have o:=oP (aH w b 0).1.aAA.Log 2 (aS (aF w t).Store) (aF (aH w b 0).1 b).Store;obtain⟨l,hl⟩:∃l,l=bW (aH w b 0).1.aAA.Log 2 (aS (aF w t).Store) (aF (aH w b 0).1 b).Store:=⟨_,rfl⟩;obtain⟨e,he⟩:∃e,e=bE l.1 (nZ (aF (aH w b 0).1 b).Store l.1) (IntKind.i64.wrap (1000+IntKind.i64.wrap (10*(l.1.length:Int)))):=⟨_,rfl⟩;obtain⟨c,f⟩:∃c,c=jN (aH w b 0).1.aAA l.1 e.1:=⟨_,rfl⟩;have k:lK w b t=bif l.2&&(e.2&&c.2) then({(aH w b 0).1 with aAA:=c.1},true) else((aH w b 0).1,false):=by rw[f,he,hl];rfl
 have AL:aJg w b t=l.1:=by rw[hl];rfl
 rw[<-hl] at o ⊢;have q:=zW l.1 (nZ (aF (aH w b 0).1 b).Store l.1) (IntKind.i64.wrap (1000+IntKind.i64.wrap (10*(l.1.length:Int))));have I:=Lt (aH w b 0).1;rw[aD (show([311]:List Int).length<=34359738300 by simp),bd_s,aD (show l.1.length<=34359738368 by omega),bd_s,bd_s,aD (show l.1.length<=34359738300 by omega),bd_s];rw[show bK (aV (aF (aH w b 0).1 b).Store.Seed [311]) (aB l.1)=nZ (aF (aH w b 0).1 b).Store l.1 from rfl];rw[<-he] at q ⊢;rw[aD (show(aH w b 0).1.aAA.sz<=34359738368/\l.1.length<=34359738368/\e.1.sz<=34359738368 from⟨by omega,by omega,by omega⟩),bd_s,<-f];cases m:l.2 with
 |false=>rw[Pb (.inl (by rw[k,m];rfl))];rfl
 |true=>
 cases u:e.2 with
 |false=>rw[Pb (.inl (by rw[k,m,u];rfl))];rfl
 |true=>
 cases B:c.2 with
 |false=>rw[Pb (.inl (by rw[k,m,u,B];rfl))];rfl
 |true=>
 have v:lK w b t=({(aH w b 0).1 with aAA:=c.1},true):=by rw[k,m,u,B];rfl
 obtain⟨k1,k2,k3,k4⟩:=Z6 A;obtain⟨x,hx⟩:∃x,x=mE (aF (aH w b 0).1 b) l.1 (nZ (aF (aH w b 0).1 b).Store l.1):=⟨_,rfl⟩;have D:Jw w b t=x:=by rw[hx,<-AL];rfl
 simp only[ay,ae,bd_s,aD (show(aF (aH w b 0).1 b).sz<=34359738368/\l.1.length<=34359738368 from⟨by omega,by omega⟩)];rw[<-hx];cases F:x.2 with
 |false=>rw[Pb (.inr (.inl (by rw[D,F])))];rfl
 |true=>
 obtain⟨⟨J,z2,K,L,M⟩,AE⟩:=bN9 z hs rfl v (x:=x.1) (by rw[D,<-F]);have q1:∀y:AC,bC ((aH w b 0).1.Devices.set b.toNat y) b=some y:=λy=>by rw[nV k1 (by rw[aq];exact k2)];simp
 rw[ay,ae,bG0 (h:=t) (l:=(aH w b 0).1.Sites) (N:=2) G (by omega) H (λrec p s r hp hzs=>by
  simp only[au (show((p.length:Nat):Int)<2 by omega),ac,aVx,bd_s,aD (bG1 (h:=t) (p:=p) (r:=r) hzs)];cases hc:decide (aJ s 1>=0) with
  |false=>simp only[ae,bd_s,gG,hc]
  |true=>
   obtain⟨O,R⟩:=bN8 hzs hc;simp only[ac,O,bd_s,aD R,aO3,gG,hc]) (λrec S=>rfl)]
 simp only[bd_s,q1,aD J,aD z2,aD M,d8,aD (show c.1.sz<=34359738300/\(dO (jX x.1 t true)).2.1.sz<=34359738300 from⟨K,L⟩)];rw[AE];cases(dO (jX x.1 t true)).2.2<;>cases(bQ c.1 (dO (jX x.1 t true)).2.1).2<;>rfl
def Ru (b:AR)(i:Int):uF b i=some (eF b i):=by unfold uF;rw[aD (by simp)];rfl
def I1 (s:AI):xZ s=some (jR s):=by unfold xZ jR;cases bU s.Vendor 1 9<;>cases bU s.Serial 0 1000000<;>cases bN s.Seed<;>rfl
def Mc (a:AX)(h:a.Site.size<=34359738300/\a.aAL.size<=34359738300):rT a=some (dG a):=by unfold rT dG;rw[aD h.1,aD h.2];cases a.Present<;>rfl
def Xj (b:AR)(i:Int)(h:b.Open.length<=34359738368):wV b i=some (eG b i):=by unfold wV;exact Uc (l:=b.Open) (λc=>c.Id==i) (by omega) (λrec j hj=>by simp only[fO hj,ac,aQ hj,bd_s]) (λrec=>by simp only[U0,ae])
def Rv (b:AR)(i n:Int)(h:b.sz<=34359738368):uE b i n=some (eU b i n):=by
 have hl:b.Open.length<=b.sz:=by simp only[AR.sz];omega
 have a:∀(x y:List AZ),x.length+y.length<=34359738400->bB x y:=λx y h=>by unfold bB;omega
 unfold uE eU;rw[aD h,bd_s,aD h,bd_s];cases fQ b with
 |false=>rfl
 |true=>
  cases b.Next==1000000 with
  |true=>rfl
  |false=>
   cases bU i 0 1000000 with
   |false=>rfl
   |true=>
    cases bU n 0 1000000 with
    |false=>rfl
    |true=>
     simp only[ay,da,dl,ae,ac,bd_s];cases hd:decide ((b.Open.length:Int)>=16) with
     |false=>rw[ae,aD (a _ _ (by simp only[aw,bu];omega))];rfl
     |true=>have c:=of_decide_eq_true hd;rw[ac,aD (show jU b.Open 1 from⟨by omega,by omega⟩),aD (a _ _ (by simp only[cE,aw,bu];omega))];rfl
def Xk (b:AR)(id acc now:Int)(h:b.sz<=34359738368):wW b id acc now=some (nM b id acc now):=by
 have hl:b.Open.length<=b.sz:=by simp only[AR.sz];omega
 have c:∀(x y:List AZ),x.length+y.length<=34359738400->bB x y:=λx y h=>by unfold bB;omega
 unfold wW nM;rw[aD (show b.Open.length<=34359738368 by omega),bd_s,aD h,bd_s];cases fQ b with
 |false=>simp only[da,ac,bd_s,Bool.true_or];rw[aD h];rfl
 |true=>
  simp only[ay,ae,bd_s,cX];cases d:decide (eG b id<0) with
  |true=>rw[ac,ac,aD h];rfl
  |false=>
   obtain⟨h0,h1⟩:=oQ (i:=0) d;have h0:0<=eG b id:=h0;have h1:eG b id<(b.Open.length:Int):=by have:eG b id<0+(b.Open.length:Int):=h1;omega
   have hk:IntKind.i64.wrap (eG b id+1)=(((eG b id).toNat+1:Nat):Int):=by rw[aL (by omega) (by omega)];omega
   have a:bC b.Open (eG b id)=some (aF4 b (eG b id)):=wK h0 h1;rw[ae,ae,hk,a,aD (show jU b.Open (eG b id) from⟨by omega,by omega⟩),aD (show jU b.Open (((eG b id).toNat+1:Nat):Int) from⟨by omega,by omega⟩),
    aD (c _ _ (by simp only[bu,cq];omega)),aD (c _ _ (by simp only[bv,cq,cE];omega)),bd_s,bd_s,bm]
   cases(aF4 b (eG b id)).aAH==acc<;>rfl
def Xl (s:AI)(z:ByteArray)(i:Int)(l:List Int)(h:z.size<=34359738300/\l.length<=34359738200):wR s z i l=some (iZ s z i l):=by
 have a:∀(x y:List Int),x.length+y.length<=34359738400->bB x y:=λx y h=>by unfold bB;omega
 unfold wR iZ;cases jR s with
 |false=>rfl
 |true=>
  simp only[ay,ae,bd_s,db];cases s.Counter==1000000 with
  |true=>rfl
  |false=>simp only[aD h.1,bd_s,ae,da,ac];rw[aD (a _ _ (by simp only[bu];omega)),aD (a _ _ (by simp only[bv,aw,bu];omega)),aD (by simp only[bv,ax,aw,bu];omega)];rfl
def aD4 (s:AD)(id now:Int)(h:s.sz<=34359738368):Fv s id now=some (jY s id now):=by
 have hb:s.Book.sz<=34359738368:=by simp only[AD.sz,AR.sz] at h ⊢;omega
 have hl:s.Accounts.length<=34359738368:=by simp only[AD.sz] at h;omega
 unfold Fv jY;rw[aD h,bd_s,aD hb,bd_s,aD h,bd_s];cases bI s with
 |false=>rfl
 |true=>
  simp only[ay,ae,db];rw[aD hl,bd_s];cases decide (aJ s id<0) with
  |true=>rfl
  |false=>cases(eU s.Book id now).2.2<;>rfl
def I4 (a:AH)(m:Int)(h:a.sz<=34359738368):yA a m=some (oC a m):=by
 have hl:a.Credentials.length<=34359738368:=by simp only[AH.sz] at h;omega
 unfold yA oC;rw[aD h,bd_s,pM (l:=a.Credentials) (λc=> !c.Cut) (.inl true) (.inr ()) (by omega) (λrec i hi=>by simp only[fO hi,ac,aQ hi,bd_s]) (λrec=>by simp only[U0,ae])];cases bA a with
 |false=>rfl
 |true=>
  simp only[ay,ae,bd_s,db];rw[show bU m a.Minimum 3=(decide (a.Minimum<=m)&&decide (m<=3)) from rfl];cases decide (a.Minimum<=m)<;>cases decide (m<=3)<;>try rfl
  cases hm:m==3<;>cases a.Credentials.any λc=> !c.Cut<;>simp[hm,nx,bne]
def aJ3 (o:AS)(h:o.Host.size<=34359738368):Qf o=some (rM o):=by unfold Qf rM;rw[aD h,bd_s];cases iD o.Host<;>rfl
def I5 (o:AS)(h:rJ o):E8 o=some (qO o):=by obtain⟨k,hk,rfl⟩:=h;rcases(show k=0\/k=1\/k=2\/k=3\/k=4\/k=5 by omega) with rfl|rfl|rfl|rfl|rfl|rfl<;>kernel_rfl
def aQ2 (o:AS)(z:ByteArray)(h:Pq o z):aQp o z=some (jZ o z):=by obtain⟨⟨k,hk,rfl⟩,j,hj,rfl⟩:=h;rcases hj with rfl|rfl<;>rcases(show k=0\/k=1\/k=2\/k=3\/k=4\/k=5 by omega) with rfl|rfl|rfl|rfl|rfl|rfl<;>kernel_rfl
def Cz {α β:Type}{x:Option α}{f:α->Option β}{a:α}{r:Option β}(h:x=some a)(h2:f a=r):bd x f=r:=by simp[*]
def aZg {α β:Type}{x:Option (α⊕β)}{f:β->Option α}{b:β}{r:Option α}(h:x=some (.inr b))(h2:f b=r):nx x f=r:=by simp[*]
def aO4 {τ:Type}(n:Nat){F:(Nat->Option τ)->Nat->Option τ}{b:τ}(hn:n<=18446744073709551616)(a:∀rec i,i<n->F rec i=rec (i+1))(c:∀rec,F rec n=some b):cO FUEL F 0=some b:=by have:=pM (l:=List.replicate n ()) (λ_=>false) b b (by simpa using hn) (F:=F) (λrec i hi=>by rw[a rec i (by simpa using hi)];rfl) (λrec=>by simpa using c rec);rw[this];cases(List.replicate n ()).any λ_=>false<;>rfl
def bTt {p:Nat->Prop}(h:p 0/\p 1/\p 2/\p 3/\p 4/\p 5/\p 6/\p 7/\p 8/\p 9/\p 10/\p 11):∀i,i<12->p i:=λi hi=>by
 match i,hi with
 |0,_=>exact h.1
 |1,_=>exact h.2.1
 |2,_=>exact h.2.2.1
 |3,_=>exact h.2.2.2.1
 |4,_=>exact h.2.2.2.2.1
 |5,_=>exact h.2.2.2.2.2.1
 |6,_=>exact h.2.2.2.2.2.2.1
 |7,_=>exact h.2.2.2.2.2.2.2.1
 |8,_=>exact h.2.2.2.2.2.2.2.2.1
 |9,_=>exact h.2.2.2.2.2.2.2.2.2.1
 |10,_=>exact h.2.2.2.2.2.2.2.2.2.2.1
 |11,_=>exact h.2.2.2.2.2.2.2.2.2.2.2
 |n+12,h=>omega
def lt8 {p:Nat->Prop}(h:p 0/\p 1/\p 2/\p 3/\p 4/\p 5/\p 6/\p 7):∀i,i<8->p i:=λi hi=>by
 match i,hi with
 |0,_=>exact h.1
 |1,_=>exact h.2.1
 |2,_=>exact h.2.2.1
 |3,_=>exact h.2.2.2.1
 |4,_=>exact h.2.2.2.2.1
 |5,_=>exact h.2.2.2.2.2.1
 |6,_=>exact h.2.2.2.2.2.2.1
 |7,_=>exact h.2.2.2.2.2.2.2
 |n+8,h=>omega
def C8 (k:Nat)(h:rJ (tX k))(hx:rM (tX k)=true)(he:(qO (tX k)).toList=(Uo k).toList):
  (bd (bif (!rM (tX k)) then(some (true)) else(bd (gd (rJ (tX k)) (some (qO (tX k)))) λa=>some (!a.toList==(Uo k).toList))) λb=>bif b then(some ((AS.mk false (ByteArray.mk #[]) (0:Int),false))) else(some (tX k,true)))=some (tX k,true):=by
 simp[*]
def aAf (z:ByteArray)(h:bFo z):qX z=some (zX z):=by
 obtain rfl|⟨k,hk,rfl⟩:=h
 ·unfold qX;refine Cz (a:=(⟨#[]⟩,false,⟨#[]⟩,0)) (by kernel_rfl) ?_;refine aZg (b:=(⟨#[]⟩,(0:Int))) (aO4 0 (by omega) (λrec i hi=>by omega) (λrec=>by kernel_rfl)) ?_
  kernel_rfl
 ·unfold qX;rcases(show k=0\/k=1\/k=2\/k=3 by omega) with rfl|rfl|rfl|rfl
  ·refine Cz (a:=((tX 0).Host,true,⟨#[]⟩,443)) (by kernel_rfl) ?_;refine aZg (b:=((tX 0).Host,(443:Int))) (aO4 12 (by omega) (λrec=>bTt (by refine⟨?_,?_,?_,?_,?_,?_,?_,?_,?_,?_,?_,?_⟩<;>kernel_rfl)) (λrec=>by kernel_rfl)) ?_;refine Cz (a:=true) (by kernel_rfl) ?_;exact(C8 0 ⟨0,by decide,rfl⟩ (by kernel_rfl) (by kernel_rfl)).trans (by kernel_rfl)
  ·refine Cz (a:=((tX 1).Host,true,⟨#[]⟩,443)) (by kernel_rfl) ?_;refine aZg (b:=((tX 1).Host,(443:Int))) (aO4 12 (by omega) (λrec=>bTt (by refine⟨?_,?_,?_,?_,?_,?_,?_,?_,?_,?_,?_,?_⟩<;>kernel_rfl)) (λrec=>by kernel_rfl)) ?_;refine Cz (a:=true) (by kernel_rfl) ?_;exact(C8 1 ⟨1,by decide,rfl⟩ (by kernel_rfl) (by kernel_rfl)).trans (by kernel_rfl)
  ·refine Cz (a:=((tX 2).Host,true,⟨#[]⟩,443)) (by kernel_rfl) ?_;refine aZg (b:=((tX 2).Host,(443:Int))) (aO4 8 (by omega) (λrec=>lt8 (by refine⟨?_,?_,?_,?_,?_,?_,?_,?_⟩<;>kernel_rfl)) (λrec=>by kernel_rfl)) ?_;refine Cz (a:=true) (by kernel_rfl) ?_;exact(C8 2 ⟨2,by decide,rfl⟩ (by kernel_rfl) (by kernel_rfl)).trans (by kernel_rfl)
  ·refine Cz (a:=((tX 3).Host,true,⟨#[]⟩,443)) (by kernel_rfl) ?_;refine aZg (b:=((tX 3).Host,(443:Int))) (aO4 8 (by omega) (λrec=>lt8 (by refine⟨?_,?_,?_,?_,?_,?_,?_,?_⟩<;>kernel_rfl)) (λrec=>by kernel_rfl)) ?_;refine Cz (a:=true) (by kernel_rfl) ?_;exact(C8 3 ⟨3,by decide,rfl⟩ (by kernel_rfl) (by kernel_rfl)).trans (by kernel_rfl)
def bK8 {o:AS}{z:ByteArray}(h:Pq o z):rJ o/\z.size<=34359738300/\(qO o).size<=34359738300:=by
 obtain⟨ho,j,hj,rfl⟩:=h;refine⟨ho,?_,?_⟩
 ·rcases hj with rfl|rfl<;>exact(show 8<=34359738300 by omega)
 ·obtain⟨k,hk,rfl⟩:=ho;have:(qO (tX k)).size<=40:=by rcases(show k=0\/k=1\/k=2\/k=3\/k=4\/k=5 by omega) with rfl|rfl|rfl|rfl|rfl|rfl<;>decide
  omega
def Xm (s:AI)(o:AS)(z:ByteArray)(i c:Int)(b:Bool)(h:Pq o z):wU s o z i c b=some (iJ s o z i c b):=by
 obtain⟨h1,h2,d⟩:=bK8 h;unfold wU iJ Iy;have hm:∀a,(dG a).length<=34359738200:=λa=>by simp[dG]
 rw[aD h1,bd_s,aD ⟨h2,d⟩,bd_s,aD ⟨h2,hm _⟩,bd_s,aD h,bd_s];generalize iZ s z i (dG (AX.mk z (qO o) c i b 0 0))=q;obtain⟨q1,q2,q3⟩:=q;cases jZ o z<;>cases q3<;>rfl
def aT1 {k:Nat}(hk:k<4):zX (Uo k)=(tX k,true)/\(Uo k).size<=34359738300:=by
 rcases(show k=0\/k=1\/k=2\/k=3 by omega) with rfl|rfl|rfl|rfl
 ·exact⟨by kernel_rfl,show 20<=34359738300 by omega⟩
 ·exact⟨by kernel_rfl,show 20<=34359738300 by omega⟩
 ·exact⟨by kernel_rfl,show 16<=34359738300 by omega⟩
 ·exact⟨by kernel_rfl,show 16<=34359738300 by omega⟩
def bBx {j:Int}(hj:j=0\/j=1){k:Nat}(hk:k<4):zX (Uo k)=(tX k,true)/\(aA j).size<=34359738300/\(Uo k).size<=34359738300:=by refine⟨(aT1 hk).1,?_,(aT1 hk).2⟩;rcases hj with rfl|rfl<;>exact(show 8<=34359738300 by omega)
def Rw (pub:Int)(a:AX)(z:ByteArray)(b cnt:Int)(h:AsP a z):nS pub a z b cnt=some (jD pub a z b cnt):=by
 obtain⟨j,hj,rfl,rfl|⟨hs,k,hk,ho,c⟩⟩:=h
 ·unfold nS;rw[aD (show bFo bFp.aAL from .inl rfl)];rcases hj with rfl|rfl<;>kernel_rfl
 ·obtain⟨h1,h2,d⟩:=bBx hj hk;have hm:(dG a).length=6:=by simp[dG]
  unfold nS jD;rw[aD (show bFo a.aAL from .inr ⟨k,hk,ho⟩),bd_s,show zX a.aAL=(tX k,true) by rw[ho];exact h1,show(a.Site.toList==(aA j).toList)=true by rw[hs];simp];simp only[ay,ae];rw[aD (show Pq (tX k) (aA j) from⟨⟨k,by omega,rfl⟩,j,hj,rfl⟩),bd_s,c,bd_s];simp only[ay,ae,bne];rw[aD (show a.Site.size<=34359738300/\a.aAL.size<=34359738300 by rw[hs,ho];exact⟨h2,d⟩),bd_s,aD (show bB (dG a) [a.Counter] by unfold bB;simp only[hm,aw,bu];omega),aD (show(dG a++[a.Counter]).length<=34359738300 by simp only[ax,hm,aw,bu];omega),bd_s];cases a.Present<;>cases a.aAN==b<;>cases iI pub (dG a++[a.Counter]) a.Signature<;>cases decide (a.Counter<=cnt)<;>rfl
def bSa {a:AH}{h:Int}(hk:decide (aU a h<0)=false):bC a.Credentials (aU a h)=some (gB a (aU a h))/\(aU a h).toNat<a.Credentials.length:=by have hr:=oQ (p:=λc:AV=>c.Handle==h) (i:=0) (l:=a.Credentials) hk;exact⟨wK (by unfold aU;omega) (by unfold aU;omega),by unfold aU;omega⟩
def Xn (a:AH)(x:AX)(z:ByteArray)(c:Int)(h:AsP x z/\a.sz<=34359738368):wX a x z c=some (jE a x z c):=by
 obtain⟨hp,b⟩:=h;have hl:a.Credentials.length<=34359738368:=b;unfold wX jE;simp only[aD b,aD hl,bd_s];cases bA a with
 |false=>rfl
 |true=>
  cases hk:decide (aU a x.Handle<0) with
  |true=>rfl
  |false=>
   simp only[ay,ae,(bSa hk).1,bd_s,cX];cases(gB a (aU a x.Handle)).Cut with
   |true=>rfl
   |false=>simp only[aD hp,bd_s,ae];generalize jD (gB a (aU a x.Handle)).Public x z c (gB a (aU a x.Handle)).Counter=k;cases k==0<;>cases k==4<;>rfl
def bOa {s:AD}{i:Int}(b:s.sz<=34359738300)(h:decide (aJ s i<0)=false):bC s.Accounts (aJ s i)=some (fI s (aJ s i))/\(fI s (aJ s i)).sz<=34359738300/\(aJ s i).toNat<s.Accounts.length:=by
 have hr:=oQ (p:=λa:AH=>a.Id==i) (i:=0) (l:=s.Accounts) h
 grind[AD.sz,fI,wK,aJ,Oi,AH.sz]
def aAg (s:AD)(i c n:Int)(x:AX)(h:AsP x s.Name/\s.sz<=34359738300):Bw s i c n x=some (lS s i c n x):=by
 obtain⟨hp,a⟩:=h;have b:s.sz<=34359738368:=by omega
 have hb:s.Book.sz<=34359738368:=by simp only[AD.sz,AR.sz] at a ⊢;omega
 have hl:s.Accounts.length<=34359738368:=by simp only[AD.sz] at a;omega
 have d:bB s.Logins [i]:=by unfold bB;simp only[AD.sz] at a;simp only[aw,bu];omega
 unfold Bw lS;simp only[aD b,aD hl,aD hb,bd_s];cases bI s with
 |false=>rfl
 |true=>
  simp only[ay,ae,bd_s,cX];cases hk:decide (aJ s i<0) with
  |true=>rfl
  |false=>
   obtain⟨e,f,j⟩:=bOa a hk;simp only[ae];cases(nM s.Book c i n).2 with
   |false=>rfl
   |true=>
    simp only[ay,ae,e,bd_s,aD (show(fI s (aJ s i)).sz<=34359738368 by omega)];cases oC (fI s (aJ s i)) 3 with
    |false=>rfl
    |true=>
     simp only[ay,ae,aD (show AsP x s.Name/\(fI s (aJ s i)).sz<=34359738368 from⟨hp,by omega⟩),bd_s,aD d,bne];cases hc:(jE (fI s (aJ s i)) x s.Name (eF s.Book c)).2==0 with
     |false=>rfl
     |true=>rw[eq_of_beq hc];rfl
def Xo {w:AA}(h:aR w=true):w.Sites.length=2/\w.Stolen.length=w.Devices.length/\w.Devices.length<=6/\iG lW 0 w.Sites=false:=by
 grind[aR,bU,Bool.not_eq_true']
def aJ4 (w:AA)(d j:Int)(h:w.sz<=34359738368):Qe w d j=some (dS w d j):=by
 unfold Qe dS;rw[aD h,bd_s];cases a:aR w with
 |false=>rfl
 |true=>
  obtain⟨h1,h2,c,_⟩:=Xo a;have e:bU d 0 (IntKind.i64.wrap ((w.Devices.length:Int)-1))=aO w d:=by
   rw[aL (by omega) (by omega)];unfold bU aO;by_cases hd:d<(w.Devices.length:Int)
   ·rw[au hd,au (show d<=(w.Devices.length:Int)-1 by omega)]
   ·rw[av hd,av (show ¬d<=(w.Devices.length:Int)-1 by omega)]
  have b:bU j 0 1=nI w j:=by
   unfold bU nI;rw[h1,show((2:Nat):Int)=2 from rfl];by_cases hd:j<(2:Int)
   ·rw[au hd,au (show j<=1 by omega)]
   ·rw[av hd,av (show ¬j<=1 by omega)]
  rw[e,b,ac];cases aO w d<;>cases nI w j<;>rfl
def aT2 {w:AA}{d j:Int}(h:dS w d j=true):bC w.Stolen d=some (dV w d):=by simp_all[List.getD,ab,nV,dV,aO,aa,cu,Xo,dS]
def bOb (j:Int):(ByteArray.mk #[UInt8.ofNat 119,UInt8.ofNat 119,UInt8.ofNat 119,UInt8.ofNat 46]).size+(aA j).size<=9223372036854775807:=by unfold aA;cases j==0<;>cases j==1<;>decide
def aHc (s:ByteArray):aGi s=some (AS.mk true s 443):=rfl
theorem bSb {a b:ByteArray}(h:a.toList=b.toList):a=b:=by
 grind[ByteArray.ext,Array.toList_inj,ByteArray.toList_eq]
def bK9 {l:List AD}{k:Nat}:∀{i:Nat},iG lW i l=false->∀(h:k<l.length),bI l[k]=true/\l[k].Name=aA ((i+k:Nat):Int):=by induction l generalizing k<;>grind[iG,Bool.or_eq_false_iff,lW,Bool.not_eq_false',bSb,trans]
def aO5 {w:AA}{d j:Int}(h:dS w d j=true):bC w.Sites j=some (bT w j)/\(bT w j).sz<=w.sz/\(bT w j).Name=aA j/\(j=0\/j=1)/\j.toNat<w.Sites.length:=by
 simp only[dS,aa] at h;obtain⟨h1,h2,b,a⟩:=Xo h.1;have hd:=h.2.2;simp only[nI,aa,cu] at hd;have hj:j.toNat<w.Sites.length:=by omega
 have hs:=Oi (f:=AD.sz) hj;have e:bT w j=w.Sites[j.toNat]:=by grind[List.getD,List.getElem?_eq_getElem,bT]
 refine⟨by rw[nV hd.1 hj,e],?_,?_,by omega,hj⟩
 ·grind[AA.sz,bT]
 ·rw[e,(bK9 a hj).2];grind
theorem bBy (s:AD)(i n:Int):(jY s i n).1.Name=s.Name/\(jY s i n).1.sz<=s.sz+1:=by
 unfold jY
 grind[bI,decide,aJ,eU,fQ,bU,List.length_append,List.length_drop,List.length_cons,List.length_nil,AD.sz,AR.sz]
def bLa {k:Nat}(hk:k<6){j:Int}(hj:j=0\/j=1)(h:jZ (tX k) (aA j)=true):k<4:=by
 rcases(show k<4\/k=4\/k=5 by omega) with a|rfl|rfl
 ·exact a
 ·rcases hj with rfl|rfl<;>exact absurd h (by decide)
 ·rcases hj with rfl|rfl<;>exact absurd h (by decide)
theorem bBz (s:AI)(h c:Int)(p:Bool){o:AS}(ho:rJ o){j:Int}(hj:j=0\/j=1):AsP (iJ s o (aA j) h c p).2.1 (aA j):=by
 refine⟨j,hj,rfl,?_⟩;obtain⟨k,hk,rfl⟩:=ho;unfold iJ;cases hm:jZ (tX k) (aA j) with
 |false=>simp
 |true=>
  cases(iZ s (aA j) h (dG (Iy s (tX k) (aA j) h c p))).2.2 with
  |false=>simp
  |true=>exact .inr ⟨rfl,k,bLa hk hj hm,rfl,hm⟩
def bTu {w:AA}{d j:Int}{o:AS}(ho:rJ o)(h:dS w d j=true)(a:w.sz<=34359738200):AsP (Rh w d j o).2.1 (gZ w j).1.Name/\(gZ w j).1.sz<=34359738300:=by
 obtain⟨_,h2,b,c,_⟩:=aO5 h
 grind[Rh,gZ,bBz,bBy,bT]
def aQ3 (w:AA)(d j:Int)(o:AS)(h:rJ o/\w.sz<=34359738200):N8 w d j o=some (fT w d j o):=by
 obtain⟨ho,c⟩:=h;have b:w.sz<=34359738368:=by omega
 unfold N8 fT;simp only[aD b,bd_s];cases ht:dS w d j with
 |false=>rfl
 |true=>
  obtain⟨e,n,q,f,r⟩:=aO5 ht;obtain⟨k,l⟩:=bTu ho ht c;have a:=ht;simp only[dS,aa] at a;have m:=nX a.2.1;have hm:w.Mail.sz<=34359738300:=by simp only[AA.sz,AP.sz] at c ⊢;omega
  simp only[ay,ae,e,bd_s,aD (show(bT w j).sz<=34359738368 by omega)];rw[show jY (bT w j) 1 w.Now=gZ w j from rfl];cases hb:(gZ w j).2.2.2 with
  |false=>rfl
  |true=>simp only[ay,ae,m,bd_s,aD (show Pq o (aA j) from ho.p f)];rw[show iJ (aF w d).Store o (aA j) d (gZ w j).2.2.1 true=Rh w d j o from rfl];simp only[aD (show AsP (Rh w d j o).2.1 (gZ w j).1.Name/\(gZ w j).1.sz<=34359738300 from⟨k,l⟩),bd_s,aD hm,bne];rw[show lS (gZ w j).1 1 (gZ w j).2.1 w.Now (Rh w d j o).2.1=Au w d j o from rfl];cases(Au w d j o).2.1==0<;>rfl
def aJ5 (w:AA)(d j:Int)(o:AS)(h:rJ o/\w.sz<=34359738200):Qg w d j o=some (Oj w d j o):=by unfold Qg;rw[aD h];rfl
def aAh (w:AA)(d j:Int)(b:w.sz<=34359738200):Ca w d j=some (lT w d j):=by
 have a:w.sz<=34359738368:=by omega
 unfold Ca lT;simp only[aD a,bd_s,aD (bOb j)];cases ht:dS w d j with
 |false=>rfl
 |true=>
  simp only[ay,ae,aT2 ht,bd_s,db];cases dV w d with
  |true=>rfl
  |false=>simp only[da,ae,ac];exact(Cz (aD (show rJ (Ew j)/\w.sz<=34359738200 from⟨bRk (aO5 ht).2.2.2.1,b⟩)) rfl)
def Xp {σ τ:Type}{F:(σ->Option τ)->σ->Option τ}(S:Nat->σ)(N:Nat){r:τ}(a:N<=1000000)(b:∀rec i,i<N->F rec (S i)=rec (S (i+1)))(c:∀rec,F rec (S N)=some r){s:σ}(hs:s=S 0):EV.cO FUEL F s=some r:=by
 subst hs;have go:∀(k i n:Nat),i+k=N->k<n->EV.cO n F (S i)=some r:=by
  intro k;induction k with
  |zero=>
   intro i n h hn;obtain⟨m,rfl⟩:∃m,n=m+1:=⟨n-1,by omega⟩
   grind[iW]
  |succ k d=>
   intro i n h hn;obtain⟨m,rfl⟩:∃m,n=m+1:=⟨n-1,by omega⟩
   grind[iW]
 exact go N 0 FUEL (by omega) (by grind[iB])
theorem aZh {m:Int}{F:(Int×Int×Int->Option Int)->Int×Int×Int->Option Int}(a:∀rec (b n s:Int),0<=n->n<9223372036854775807->F rec (b,n,s)=bif decide (n>0) then rec ((IntKind.i64.wrap (b*b)).tmod m,n/2,bif n%2==1 then(IntKind.i64.wrap (s*b)).tmod m else s) else some s):
  ∀(k:Nat) (b n s:Int) (f:Nat),k<f->0<=n->n<2^k->k<=62->cO f F (b,n,s)=some (bA0 m k b n s)
 |0,b,n,s,f+1,c,h0,h1,hk=>by
  have:n=0:=by simp at h1;omega
  subst this;rw[iW,a _ _ _ _ (by omega) (by omega)];rfl
 |k+1,b,n,s,f+1,c,h0,h1,hk=>by
  have h2:(2:Int)^(k+1)=2*2^k:=by rw[fq];omega
  have d:n<2^62:=Int.lt_of_lt_of_le h1 (by exact_mod_cast ia (by omega) hk);rw[iW,a _ _ _ _ h0 (by omega)];unfold bA0;by_cases hn:n>0
  ·rw[au hn,ac,cW hn];exact aZh a k _ (n/2) _ f (by omega) (by omega) (by omega) (by omega)
  ·rw[av hn,ae,dm hn]
theorem bTv:((2039:Int)≠0)=True:=by simp
def aD5 (b n:Int)(h:0<=n/\n<2048):sQ b n=some (bA0 2039 11 b n 1):=by
 grind[aZh,qB,and_one,Ik,bC4,bTv,gd_T,bd_s,aD,FUEL,iB,sQ]
def Rx (x:Int):uC x=some (aNa x):=by unfold uC aNa;rw[aD5 _ _ (by decide)];cases bU x 1 2038<;>rfl
def aJ6 (g n:Int):Qc g n=some (Av g n):=by unfold Qc Av;have hr:=Ac (p:=n) (q:=1019) (by decide);rw[aD5 _ _ ⟨hr.1,by omega⟩];cases aNa g<;>rfl
def aAi (a b:Int):W9 a b=some (aCt a b):=by rfl
def I6 (a b c:Int):E5 a b c=some (p9 a b c):=rfl
def aHd (a b:Int):Kq a b=some (Ey a b):=by
 unfold Kq Ey;rw[aD (by simp),bd_s];have h:=(mU a [157,b]).1
 grind[decide_eq_false,decide_eq_true,aU1,jV,bS]
def aD6 (a b:Int):aC8 a b=some (aCu a b):=by rfl
def aO6 (a b:Int):Vx a b=some (aTc a b):=by unfold Vx aTc;rw[aD (by simp)];cases bU a 0 2147483647<;>rfl
def aHe (k:A3):aGh k=some (Ez k):=rfl
def bB0 {c n:Int}{l:List Int}(hn:1<=n/\n<=7)(hl:l.length<=34359738368){F:(List A0×Int->Option (List A0))->List A0×Int->Option (List A0)}(a:∀rec (s:List A0) (i:Int),1<=i->i<=8->s.length<=8->F rec (s,i)=bif decide (i<=n) then rec (s++[⟨i,Uj c l i⟩],i+1) else some s):EV.cO FUEL F ([],1)=some ((List.range n.toNat).map λ(i:Nat)=>(⟨(i:Int)+1,Uj c l ((i:Int)+1)⟩:A0)):=
 Xp (λi=>((List.range i).map λ(i:Nat)=>(⟨(i:Int)+1,Uj c l ((i:Int)+1)⟩:A0),(i:Int)+1)) n.toNat (by omega) (by grind[decide_eq_true,List.range_succ]) (by grind[decide_eq_false]) rfl
def aAj (c:Int)(l:List Int)(n:Int)(h:l.length<=34359738368):Bu c l n=some (xI c l n):=by
 unfold Bu xI;cases h1:bU n 1 7 with
 |false=>rfl
 |true=>
  have hn:=iA h1;rw[bB0 (c:=c) hn h (by grind[aD,bd_s,bB,Uj,aL])];by_cases h2:(l.length:Int)<n
  all_goals simp_all[av,au]
def aHf (pin salt key sec:Int)(cs:List Int)(n lim:Int)(h:cs.length<=34359738368):Kr pin salt key sec cs n lim=some (Iz pin salt key sec cs n lim):=by
 unfold Kr Iz aK7;simp only[aD h,bd_s];have hl:=aTf sec cs n;generalize xI sec cs n=l at hl ⊢;cases bU pin 0 9999 with
 |false=>rfl
 |true=>
 cases bU salt 0 1000000 with
 |false=>rfl
 |true=>
 cases bN key with
 |false=>rfl
 |true=>
 cases jO sec 1019==0 with
 |true=>rfl
 |false=>
 cases bU lim 1 10 with
 |false=>rfl
 |true=>
 rw[bU9 (l:=l) (λs=>Ez ⟨s,0,0,lim⟩) (by omega) (λrec i s hi hs=>by
  have a:∀x:AO,bB s [x]:=(by grind[bB]);simp only[fO hi,ac,aQ hi,bd_s,aD (a _)];rfl) (by simp)]
 cases l with
 |nil=>rfl
 |cons x l=>rfl
def aJ7 (l:List AF)(b:AK)(h:l.length<=34359738368/\b.sz<=34359738368):Pv l b=some (dP l b):=by
 unfold Pv dP;have hb:b.Boxes.length<=34359738368:=by grind[AK.sz]
 simp only[aD h.1,aD h.2,aD (show b.Boxes.length<=34359738368/\l.length<=34359738368 from⟨hb,h.1⟩),bd_s];cases aW l<;>cases gT b l<;>rfl
def aZi (s:AD)(id m:Int):(qP s id m).sz=s.sz+1:=by
 grind[qP,AD.sz,List.length_append,List.length_cons,List.length_nil,AH.sz,Jy,id,List.take_append_drop]
def bG2 {l:List AH}{id:Int}{F:(Int->Option Int)->Int->Option Int}(hl:l.length<=34359738368)(b:∀rec (i:Nat) (hi:i<l.length),F rec (i:Int)=bif decide (l[i].Id<id) then rec ((i+1:Nat):Int) else some (i:Int))(c:∀rec,F rec (l.length:Int)=some (l.length:Int)):EV.cO FUEL F 0=some (Jy id l:Int):=
 aF3 (λa:AH=>decide (a.Id<id)) (λi=>some (i:Int)) (λi=>(i:Int)) hl b c
def bLb (id:Int)(l:List AH):Jy id l<=l.length:=Um
def aAk (s:AD)(id m:Int)(h:s.sz<=34359738300):Bh s id m=some (mF s id m):=by
 unfold Bh mF;have hl:s.Accounts.length<=s.sz:=by grind[AD.sz]
 have hk:=bLb id s.Accounts;have b:∀(x y:List AH),x.length+y.length<=34359738400->bB x y:=(by grind[bB]);have hs:s.sz<=34359738368:=by omega
 have h1:=aZi s id m;rw[aD hs,bd_s,bG2 (id:=id) (l:=s.Accounts) (by omega) (by grind[fO,aQ,bd_s,aL]) (by simp),bd_s];have a:jU s.Accounts (Jy id s.Accounts:Int):=⟨by omega,by omega⟩;have he:(List.take (Jy id s.Accounts) s.Accounts).length+(List.drop (Jy id s.Accounts) s.Accounts).length=s.Accounts.length:=by rw[<-ax,cL]
 have ht:(List.take (Jy id s.Accounts) s.Accounts).length<=s.Accounts.length:=by omega
 have hd:(List.drop (Jy id s.Accounts) s.Accounts).length<=s.Accounts.length:=by omega
 rw[bm,aD a,aD a,aD (by grind),aD (by grind),aD (by grind),aD hs,bd_s,bv];rw[show(AD.mk s.Name (List.take (Jy id s.Accounts) s.Accounts++[AH.mk id m []]++List.drop (Jy id s.Accounts) s.Accounts) s.Book s.Logins)=qP s id m from rfl,aD (by omega)];cases bI s<;>cases bI (qP s id m)<;>rfl
def bOc {α:Type}{x y:List α}(h:x.length<=1000)(a:y.length<=1000):bB x y:=by grind[bB]
def Xq (seed:Int)(n:Nat):(dR seed n).length=n:=by simp[dR]
def aD7 (seed:Int)(n:Nat):dR seed (n+1)=dR seed n++[aY (aM seed (n:Int))]:=by simp[dR,gR]
def bG3 (seed:Int)(n:Nat):bC (dR seed (n+1)) 0=some (aY (aM seed 0)):=by rw[show(0:Int)=((0:Nat):Int) from rfl,aQ (by simp[Xq])];simp[dR]
def aVy (seed:Int)(n:Nat)(h:1<=n):dR seed n=aY (aM seed 0)::(dR seed n).drop 1:=by obtain⟨m,rfl⟩:∃m,n=m+1:=⟨n-1,by omega⟩;simp[dR,List.range_succ_eq_map]
abbrev sT (s:AD):ByteArray×List AH×Int×Int×List AZ×List Int:=(s.Name,s.Accounts,s.Book.Seed,s.Book.Next,s.Book.Open,s.Logins)
theorem aD8 (nm:ByteArray):∀(l:List AC) (k:Nat) (d:AC) (s:AD),pR nm k (l++[d]) s=(dI (pR nm k l s) 1 ((k+l.length:Nat):Int) (cK d.Store nm ((k+l.length:Nat):Int))).1
 |[],k,d,s=>rfl
 |x::l,k,d,s=>by
  rw[cP];show pR nm (k+1) (l++[d]) _=_;rw[aD8 nm l (k+1) d,aw,show k+1+l.length=k+(l.length+1) by omega];rfl
def bG4 {nm:ByteArray}{l:List AC}{s0:AD}(hl:l.length<=3)(hs:s0.sz<=1000){F:(Nat×ByteArray×List AH×Int×Int×List AZ×List Int->Option (ByteArray×List AH×Int×Int×List AZ×List Int))->Nat×ByteArray×List AH×Int×Int×List AZ×List Int->Option (ByteArray×List AH×Int×Int×List AZ×List Int)}
  (a:∀rec (i:Nat) (hi:i<l.length) (s:AD),s.sz<=2000->F rec (i,sT s)=rec (i+1,sT (dI s 1 (i:Int) (cK l[i].Store nm (i:Int))).1)) (b:∀rec s,F rec (l.length,sT s)=some (sT s)):EV.cO FUEL F (0,sT s0)=some (sT (pR nm 0 l s0)):=
 Xp (λi=>(i,sT (pR nm 0 (l.take i) s0))) l.length (by omega) (by grind[U9,s0,List.length_take,List.take_succ_eq_append_getElem,aD8]) (by simp[*]) rfl
def aZj {α:Type}{p r:List α}{s:α}:bC (p++s::r) ((p.length:Nat):Int)=some s:=by simp[aQ]
def bLc {α ι:Type}(e:Nat->ι){p0 l:List α}(f:α->α){F:(ι×List α->Option (List α))->ι×List α->Option (List α)}(hl:l.length<=1000)
  (a:∀rec (p:List α) (d:α) (r:List α),p.length+1+r.length=p0.length+l.length->d∈l->F rec (e p.length,p++d::r)=rec (e (p.length+1),p++f d::r)) (b:∀rec (p:List α),p.length=p0.length+l.length->F rec (e (p0.length+l.length),p)=some p):EV.cO FUEL F (e p0.length,p0++l)=some (p0++l.map f):=
 Xp (λi=>(e (p0.length+i),p0++(l.take i).map f++l.drop i)) l.length (by omega) (λrec i hi=>by
  have h2:(p0++(l.take i).map f).length=p0.length+i:=by grind
  grind[List.append_assoc,List.singleton_append,Nat.add_assoc,List.take_succ_eq_append_getElem,List.map_singleton,List.getElem_mem,List.drop_eq_getElem_cons,List.length_drop]) (by simp[*]) (by simp)
def aT3 (n:Nat)(d:AC):Nat->AC
 |0=>d
 |j+1=>Ol (aA (j:Int)) n (aT3 n d j)
def aI2 (j:Int):(aA j).size<=100:=by unfold aA;cases j==0<;>cases j==1<;>decide
def bG5 {nm:ByteArray}{n:Nat}{d:AC}{r:List AC}(hn:n<=3)(hd:d.sz<=100){F:(Nat×List AC->Option (List AC))->Nat×List AC->Option (List AC)}
  (a:∀rec (i:Nat) (x:AC),i<n->x.sz<=1000->F rec (i,x::r)=rec (i+1,(bO x nm (i:Int) false).1::r)) (b:∀rec x,F rec (n,x::r)=some (x::r)):EV.cO FUEL F (0,d::r)=some (Ol nm n d::r):=
 Xp (λi=>(i,Ol nm i d::r)) n (by omega) (λrec i hi=>by
  have h1:=aK9 nm i d;rw[a rec i _ hi (by omega)];rfl) (λrec=>b rec _) rfl
def bG6 {n:Nat}{d:AC}{r:List AC}{F:(Nat×List AC->Option (List AC))->Nat×List AC->Option (List AC)}(hn:n<=3)(hd:d.sz<=10)
  (a:∀rec (j:Nat) (x:AC),j<2->x.sz<=100->F rec (j,x::r)=rec (j+1,Ol (aA (j:Int)) n x::r)) (b:∀rec x,F rec (2,x::r)=some (x::r)):EV.cO FUEL F (0,d::r)=some (aT3 n d 2::r):=
 Xp (λj=>(j,aT3 n d j::r)) 2 (by omega) (λrec j hj=>by
  have h1:∀j:Nat,(aT3 n d j).sz<=d.sz+j*n:=by intro j;induction j<;>grind[aK9,aA,aT3,Ol,Nat.add_mul]
  have h2:=h1 j;have c:j*n<=2*3:=ib (by omega) hn;rw[a rec j _ hj (by omega)];rfl) (λrec=>b rec _) rfl
def bB1 {seed t:Int}(ht:1<=t/\t<=7){F:(List Int×Int->Option (List Int))->List Int×Int->Option (List Int)}(a:∀rec (s:List Int) (i:Int),1<=i->i<=8->s.length<=8->F rec (s,i)=bif decide (i<t) then rec (s++[aV seed [307,i]],i+1) else some s):EV.cO FUEL F ([],1)=some (U8 seed t):=
 Xp (λi=>((List.range i).map λ(k:Nat)=>aV seed [307,(k:Int)+1],(i:Int)+1)) (t-1).toNat (by omega) (by grind[decide_eq_true,List.range_succ]) (λrec=>by
  rw[a rec _ _ (by omega) (by omega) (by simp;omega),av (by omega),ae];rfl) rfl
def bD8 (s:AD):AD.mk s.Name s.Accounts (AR.mk s.Book.Seed s.Book.Next s.Book.Open) s.Logins=s:=rfl
def bSc (s:AI):AC.mk s [] (0:Int) (0:Int) (0:Int) (AB.mk [])=aY s:=rfl
def bTw (seed:Int)(i:Nat):AI.mk (1:Int) (i:Int) (aV seed [277,(i:Int)]) (0:Int)=aM seed (i:Int):=rfl
def aAl (w:AA)(d:Int)(h:w.sz<=34359738368):Bv w d=some (jF w d):=by
 unfold Bv jF;simp only[aD h,bd_s];cases ht:dS w d 0 with
 |false=>rfl
 |true=>simp only[ay,ae,aT2 ht,bd_s,db];cases dV w d<;>rfl
def bB2 (l:List Int):bBk l=some (bFu l):=rfl
def aO7 (a b:List AF)(h:qC a.length a b/\a.length<=34359738368):Wm a b=some true:=by
 obtain⟨⟨rfl,_⟩,hl⟩:=h;unfold Wm;have:dJ a a=true:=by
  unfold dJ;rw[au (ak _),db,bo];have key:∀(l r:List AF) (i:Nat),a=l++r->l.length=i->iG (λi e=> !aU6 (a.getD i default) e) i r=false:=by
   intro l r;induction r generalizing l with
   |nil=>intro i _ _;rfl
   |cons x r c=>
    intro i he hi;have hx:a.getD i default=x:=by rw[he,<-hi];simp
    have hr:aU6 x x=true:=by unfold aU6;simp
    rw[iG,hx,hr];simpa using c (l++[x]) (i+1) (by simpa using he) (by simp[hi])
  exact key [] a 0 rfl rfl
 rw[dk,ac,aD hl,this];rfl
def I7 (a b:AB)(h:qC a.sz a b/\a.sz<=34359738368):yJ a b=some true:=by obtain⟨⟨rfl,_⟩,c⟩:=h;have hl:a.Entries.length<=34359738368:=c;unfold yJ;rw[cy,ae,vG (a:=a.Entries) (by omega) (λrec i hi=>by simp[hi,aQ hi]) (λrec=>by simp)];rfl
def I8 (a b:AC)(h:qC a.sz a b/\a.sz<=34359738368):yK a b=some true:=by
 obtain⟨⟨rfl,_⟩,c⟩:=h;have h1:a.Log.length<=34359738368:=by simp only[AC.sz] at c;omega
 have h2:a.aAC.sz<=34359738368:=by simp only[AC.sz,AB.sz] at c ⊢;omega
 unfold yK;simp[aD (show qC a.Log.length a.Log a.Log/\a.Log.length<=34359738368 from⟨⟨rfl,by omega⟩,h1⟩),aD (show qC a.aAC.sz a.aAC a.aAC/\a.aAC.sz<=34359738368 from⟨⟨rfl,by omega⟩,h2⟩),bd]
def aD9 (a b:AR)(h:qC a.sz a b/\a.sz<=34359738368):Gm a b=some true:=by obtain⟨⟨rfl,_⟩,c⟩:=h;have hl:a.Open.length<=34359738368:=c;unfold Gm;simp only[cy,ae,bd_s];rw[vG (a:=a.Open) (by omega) (λrec i hi=>by simp[hi,aQ hi]) (λrec=>by simp)];rfl
def aHg (a b:List Int)(h:qC a.length a b/\a.length<=34359738368):Ll a b=some true:=by obtain⟨⟨rfl,_⟩,hl⟩:=h;unfold Ll;rw[cy,ae,vG (a:=a) (by omega) (λrec i hi=>by simp[hi,aQ hi]) (λrec=>by simp)];rfl
def Xr (a b:AH)(h:qC a.sz a b/\a.sz<=34359738368):xB a b=some true:=by obtain⟨⟨rfl,_⟩,c⟩:=h;have hl:a.Credentials.length<=34359738368:=c;unfold xB;simp only[cy,ae,bd_s];rw[vG (a:=a.Credentials) (by omega) (λrec i hi=>by simp[hi,aQ hi]) (λrec=>by simp)];rfl
def aT4 {α:Type}{f:α->Nat}{l:List α}{i:Nat}(hi:i<l.length):f l[i]<=(l.map f).sum:=by
 induction l generalizing i with
 |nil=>simp at hi
 |cons x l a=>
  cases i with
  |zero=>simp
  |succ i=>have:=a (i:=i) (by simpa using hi);simp only[fc,bw,eJ];omega
def aEa (a b:AD)(h:qC a.sz a b/\a.sz<=34359738368):Gn a b=some true:=by
 obtain⟨⟨rfl,_⟩,c⟩:=h;have h1:a.Book.sz<=34359738368:=by simp only[AD.sz,AR.sz] at c ⊢;omega
 have h2:a.Logins.length<=34359738368:=by simp only[AD.sz] at c;omega
 have e:a.Accounts.length<=34359738368:=by simp only[AD.sz] at c;omega
 have d:∀i (hi:i<a.Accounts.length),a.Accounts[i].sz<=34359738368:=λi hi=>by
  have:=aT4 (f:=AH.sz) hi;simp only[AD.sz] at c;omega
 unfold Gn;simp only[dk,ay,cy,ae,bd_s,aD (show qC a.Book.sz a.Book a.Book/\a.Book.sz<=34359738368 from⟨⟨rfl,by omega⟩,h1⟩),aD (show qC a.Logins.length a.Logins a.Logins/\a.Logins.length<=34359738368 from⟨⟨rfl,by omega⟩,h2⟩)];rw[vG (a:=a.Accounts) (by omega) (λrec i hi=>by
  have:=d i hi;simp[hi,aQ hi,aD (show qC a.Accounts[i].sz a.Accounts[i] a.Accounts[i]/\a.Accounts[i].sz<=34359738368 from⟨⟨rfl,by omega⟩,this⟩),bd]) (λrec=>by simp)];rfl
def aEb (a b:AQ)(h:qC a.sz a b/\aT a.Data):Gp a b=some true:=by obtain⟨⟨rfl,_⟩,hb⟩:=h;unfold Gp;simp[aD hb,bd]
def Pd (a b:AK)(h:qC a.sz a b/\(a.sz<=34359738368/\aVe a)):sS a b=some true:=by
 obtain⟨⟨rfl,_⟩,c,hb⟩:=h;have e:a.Boxes.length<=34359738368:=by simp only[AK.sz] at c;omega
 have d:∀i (hi:i<a.Boxes.length),a.Boxes[i].sz<=34359738368:=λi hi=>by
  have:=aT4 (f:=AQ.sz) hi;simp only[AK.sz] at c;omega
 unfold sS;simp only[cy,ae,bd_s];rw[vG (a:=a.Boxes) (by omega) (λrec i hi=>by
  have:=d i hi;simp[hi,aQ hi,aD (show qC a.Boxes[i].sz a.Boxes[i] a.Boxes[i]/\aT a.Boxes[i].Data from⟨⟨rfl,by omega⟩,hb _ (ce hi)⟩),bd]) (λrec=>by simp)];rfl
def aAm (a b:AJ)(h:qC a.sz a b/\aT a.Data):Cq a b=some true:=by obtain⟨⟨rfl,_⟩,hb⟩:=h;unfold Cq;simp[aD hb,bd]
def aAn (a b:AM)(h:qC a.sz a b/\(a.sz<=34359738368/\Ay a)):Cr a b=some true:=by
 obtain⟨⟨rfl,_⟩,c,hb⟩:=h;have h1:a.Log.length<=34359738368:=by simp only[AM.sz] at c;omega
 have h2:a.Boxes.sz<=34359738368:=by simp only[AM.sz,AK.sz] at c ⊢;omega
 have e:a.History.length<=34359738368:=by simp only[AM.sz] at c;omega
 have d:∀i (hi:i<a.History.length),a.History[i].sz<=34359738368:=λi hi=>by
  have:=aT4 (f:=AJ.sz) hi;simp only[AM.sz] at c;omega
 unfold Cr;simp only[aD (show qC a.Log.length a.Log a.Log/\a.Log.length<=34359738368 from⟨⟨rfl,by omega⟩,h1⟩),aD (show qC a.Boxes.sz a.Boxes a.Boxes/\(a.Boxes.sz<=34359738368/\aVe a.Boxes) from⟨⟨rfl,by omega⟩,h2,hb.1⟩),bd_s,ay,ae,cy];rw[vG (a:=a.History) (by omega) (λrec i hi=>by
  have:=d i hi;simp[hi,aQ hi,aD (show qC a.History[i].sz a.History[i] a.History[i]/\aT a.History[i].Data from⟨⟨rfl,by omega⟩,hb.2 _ (ce hi)⟩),bd]) (λrec=>by simp)];rfl
def aEc (a b:AO)(h:qC a.sz a b/\a.sz<=34359738368):Gq a b=some true:=by obtain⟨⟨rfl,_⟩,c⟩:=h;have hl:a.Saved.length<=34359738368:=c;unfold Gq;simp only[dk,dl,gi,ay,cy,ae,bd_s];rw[vG (a:=a.Saved) (by omega) (λrec i hi=>by simp[hi,aQ hi]) (λrec=>by simp)];rfl
def Pe (a b:List AO)(h:qC (szL AO.sz a) a b/\szL AO.sz a<=34359738368):sU a b=some true:=by
 obtain⟨⟨rfl,_⟩,c⟩:=h;have hl:a.length<=34359738368:=by unfold szL at c;omega
 have d:∀i (hi:i<a.length),a[i].sz<=34359738368:=λi hi=>by
  have:=aT4 (f:=AO.sz) hi;unfold szL at c;omega
 unfold sU;rw[cy,ae,vG (a:=a) (by omega) (λrec i hi=>by
  have:=d i hi;simp[hi,aQ hi,aD (show qC a[i].sz a[i] a[i]/\a[i].sz<=34359738368 from⟨⟨rfl,by omega⟩,this⟩),bd]) (λrec=>by simp)];rfl
def Ry (a b:AP)(h:qC a.sz a b/\a.sz<=34359738368):uM a b=some true:=by obtain⟨⟨rfl,_⟩,c⟩:=h;have hl:a.Notices.length<=34359738368:=c;unfold uM;rw[cy,ae,vG (a:=a.Notices) (by omega) (λrec i hi=>by simp[hi,aQ hi]) (λrec=>by simp)];rfl
def aAo (a b:AA)(h:qC a.sz a b/\(a.sz<=34359738368/\Ay a.aAA)):Cs a b=some true:=by
 obtain⟨⟨rfl,_⟩,c,hb⟩:=h;have h1:a.Devices.length<=34359738368/\a.Stolen.length<=34359738368/\a.Sites.length<=34359738368/\a.aAA.sz<=34359738368/\szL AO.sz a.Hosts<=34359738368/\a.Mail.sz<=34359738368:=by simp only[AA.sz,AM.sz,AK.sz,AP.sz,szL] at c ⊢;omega
 have d:∀i (hi:i<a.Devices.length),a.Devices[i].sz<=34359738368:=λi hi=>by
  have:=aT4 (f:=AC.sz) hi;simp only[AA.sz] at c;omega
 have e:∀i (hi:i<a.Sites.length),a.Sites[i].sz<=34359738368:=λi hi=>by
  have:=aT4 (f:=AD.sz) hi;simp only[AA.sz] at c;omega
 unfold Cs;simp only[cy,dk,dl,gi,ay,ae,bd_s];rw[vG (a:=a.Devices) (by omega) (λrec i hi=>by
  have:=d i hi;simp[hi,aQ hi,aD (show qC a.Devices[i].sz a.Devices[i] a.Devices[i]/\a.Devices[i].sz<=34359738368 from⟨⟨rfl,by omega⟩,this⟩),bd]) (λrec=>by simp),nx_r]
 rw[vG (a:=a.Stolen) (by omega) (λrec i hi=>by simp[hi,aQ hi]) (λrec=>by simp),nx_r];rw[vG (a:=a.Sites) (by omega) (λrec i hi=>by
  have:=e i hi;simp[hi,aQ hi,aD (show qC a.Sites[i].sz a.Sites[i] a.Sites[i]/\a.Sites[i].sz<=34359738368 from⟨⟨rfl,by omega⟩,this⟩),bd]) (λrec=>by simp),nx_r]
 simp only[aD (show qC a.aAA.sz a.aAA a.aAA/\(a.aAA.sz<=34359738368/\Ay a.aAA) from⟨⟨rfl,by omega⟩,h1.2.2.2.1,hb⟩),aD (show qC (szL AO.sz a.Hosts) a.Hosts a.Hosts/\szL AO.sz a.Hosts<=34359738368 from⟨⟨rfl,by omega⟩,h1.2.2.2.2.1⟩),aD (show qC a.Mail.sz a.Mail a.Mail/\a.Mail.sz<=34359738368 from⟨⟨rfl,by omega⟩,h1.2.2.2.2.2⟩),bd_s,ac]
def bLd (x:Int):0<=qB IntKind.i64 x 255/\qB IntKind.i64 x 255<=255:=by
 unfold qB;rw[BitVec.toNat_and];have h:((BitVec.ofInt IntKind.i64.bits x).toNat&&&(BitVec.ofInt IntKind.i64.bits 255).toNat)<=255:=bz Nat.and_le_right (by decide)
 grind[aL]
theorem aLg {c:AN}(h:bD c):bD (lJ c).1/\0<=(lJ c).2/\(lJ c).2<=255:=by
 unfold lJ;obtain⟨h1,h2⟩:=h;cases hc:decide (c.i<(c.b.length:Int)) with
 |true=>
  have hc:=of_decide_eq_true hc;refine⟨⟨?_,h2⟩,bLd _⟩
  grind[aL]
 |false=>exact⟨⟨h1,h2⟩,bLd _⟩
theorem oV {c:AN}(h:bD c)(n:Int):bD (bJ c n).1/\0<=(bJ c n).2/\(0<n->(bJ c n).2<n)/\(n<=0->(bJ c n).2=0):=by
 obtain⟨h1,h2,a⟩:=aLg h;obtain⟨k1,k2,k3⟩:=aLg h1;obtain⟨l1,l2,b⟩:=aLg k1;unfold bJ;by_cases hn:n<=0
 ·simp[*]
 ·rw[av hn];have hn:0<n:=by omega
  simp only[ae];by_cases hb:n<=256
  ·simp_all[fy,fR,absurd,au];omega
  ·rw[av hb];simp only[ae];generalize(lJ c).2=x at*;generalize(lJ (lJ c).1).2=y at*;generalize(lJ (lJ (lJ c).1).1).2=z at*;rw[aL (show-9223372036854775808<=x*65536 by omega) (by omega),aL (show-9223372036854775808<=y*256 by omega) (by omega),aL (show-9223372036854775808<=x*65536+y*256 by omega) (by omega),aL (by omega) (by omega)];exact⟨l1,fy n (by omega),λ_=>fR _ hn,λq=>absurd q (by omega)⟩
def aQ4 (c:AN)(h:bD c):M5 c=some (lJ c):=by
 unfold M5 lJ;rw[aD (by decide),aD (by decide)];cases hc:decide (c.i<(c.b.length:Int)) with
 |true=>have hc:=of_decide_eq_true hc;have h0:=h.1;rw[ac,ac,nV h0 (by omega),List.getD,ab (show c.i.toNat<c.b.length by omega)];rfl
 |false=>rfl
def aO8 (c:AN)(n:Int)(h:bD c):Vb c n=some (bJ c n):=by
 grind[decide_eq_false,decide_eq_true,aD,bd_s,Vb,bJ,aLg]
def aQ5 (c:AN)(n:Int)(h:bD c):N9 c n=some (sN c n):=by unfold N9;rw[aD h];rfl
theorem bB3 {c:AN}(h:bD c)(l:List Int):bD (V4 c l).1/\(0<l.length->(V4 c l).2∈l):=by
 grind[List.getElem_mem,List.getD,List.getElem?_eq_getElem,bJ,V4,oV]
def aVz (c:AN)(l:List Int)(h:bD c/\0<l.length):aC9 c l=some (V4 c l):=by obtain⟨_,h2,a,_⟩:=oV h.1 (l.length:Int);have a:=a (by have:=h.2;omega);unfold aC9;rw[aD h.1,bd_s,wK h2 a];rfl
def bOd {c:AN}(h:bD c):bD (aIr c).1:=by
 grind[sN,bB3,oV,aIr,bD]
def aV0 (c:AN)(h:bD c):aDa c=some (aIr c):=by
 have h1:bD (sN c 10).1:=(oV h 10).1;unfold aDa;refine Cz (a:=sN c 10) (aD h) ?_;unfold aIr;cases(sN c 10).2 with
 |true=>exact Cz (a:=V4 (sN c 10).1 [0,-1,1,2147483646,2147483647]) (aD ⟨h1,by decide⟩) rfl
 |false=>exact Cz (a:=bJ (sN c 10).1 99999) (aD h1) rfl
def Rz (a b:AB)(h:aYj a b):uN a b=some true:=by unfold uN;have c:=h.2.1;rw[aD h.2,bd_s,h.1];exact Cz (Cz (aD (show qC a.sz a a/\a.sz<=34359738368 from⟨⟨rfl,by omega⟩,h.2.1⟩)) rfl) rfl
def bOe {a u:AB}(h:fZ a u=(a,true)):a.sz<=20/\u.sz<=20:=by
 grind[aP,mW,AB.sz,fZ,aF1]
structure NewIn (n:Nat) (s:Int) (w:AA):Prop where
 ok:aR w=true
 len:w.Devices.length=n
 dev:∀i (hi:i<n),w.Devices[i]? =some (Ps s n i 1 (nwB n))
 acc:∀j (hj:j<2),∃x l,w.Sites[j]? =some x/\x.Accounts=[⟨1,3,l⟩]/\l.length=n
 two:w.Sites.length=2
 list:∀i:Nat,i<n->bZ w (i:Int)=true
 no:bZ w (n:Int)=false
section
variable {ρ σ τ S:Type}
def Ex (x:Option τ)(Q:τ->Prop):Prop:=∃r,x=some r/\Q r
def gW {Q:τ->Prop}{r:τ}(h:Q r):Ex (some r) Q:=⟨r,rfl,h⟩
def bdE {x:Option σ}{f:σ->Option τ}(P:σ->Prop){Q:τ->Prop}(h:Ex x P)(k:∀r,P r->Ex (f r) Q):Ex (bd x f) Q:=by obtain⟨r,rfl,p⟩:=h;exact k r p
def gdE {c:Prop}[Decidable c]{x:Option τ}{Q:τ->Prop}(h:c)(k:Ex x Q):Ex (gd c x) Q:=by rw[aD h];exact k
def bgE {c:Prop}[Decidable c]{v:σ}{f:σ->Option τ}{Q:τ->Prop}(h:c)(k:Ex (f v) Q):Ex (bd (gd c (some v)) f) Q:=by rw[aD h];exact k
def vQ {c:Bool}{x y:Option τ}{Q:τ->Prop}(h:c=true->Ex x Q)(k:c=false->Ex y Q):Ex (bif c then x else y) Q:=by
 cases c with
 |true=>exact h rfl
 |false=>exact k rfl
def blE {c:AN}{n:Int}{f:AN×Int->Option τ}{Q:τ->Prop}(h:bD c)(k:∀a v,bD a->0<=v->(0<n->v<n)->Ex (f (a,v)) Q):Ex (bd (gd (bD c) (some (bJ c n))) f) Q:=
 bgE h (k _ _ (oV h n).1 (oV h n).2.1 (oV h n).2.2.1)
def onE {c:AN}{n:Int}{f:AN×Bool->Option τ}{Q:τ->Prop}(h:bD c)(k:∀a v,bD a->Ex (f (a,v)) Q):Ex (bd (gd (bD c) (some (sN c n))) f) Q:=
 bgE h (k (sN c n).1 (sN c n).2 (oV h n).1)
def inE {c:AN}{l:List Int}{f:AN×Int->Option τ}{Q:τ->Prop}(h:bD c)(hl:0<l.length)(k:∀a v,bD a->v∈l->Ex (f (a,v)) Q):Ex (bd (gd (bD c/\0<l.length) (some (V4 c l))) f) Q:=
 bgE ⟨h,hl⟩ (k _ _ (bB3 h l).1 ((bB3 h l).2 hl))
def St (V:Nat->S->Prop)(Q:τ->Prop)(i:Nat)(rec:S->Option τ)(x:Option τ):Prop:=(∃s',V (i+1) s'/\x=rec s')\/Ex x Q
section
variable {V:Nat->S->Prop} {Q:τ->Prop} {i:Nat} {rec:S->Option τ}
def bG7 {s:S}(h:V (i+1) s):St V Q i rec (rec s):= .inl ⟨s,h,rfl⟩
def bdS {x:Option σ}{f:σ->Option τ}(P:σ->Prop)(h:Ex x P)(k:∀r,P r->St V Q i rec (f r)):St V Q i rec (bd x f):=by obtain⟨r,rfl,p⟩:=h;exact k r p
def bgS {c:Prop}[Decidable c]{v:σ}{f:σ->Option τ}(h:c)(k:St V Q i rec (f v)):St V Q i rec (bd (gd c (some v)) f):=by rw[aD h];exact k
def bLe {c:Bool}{x y:Option τ}(h:c=true)(k:St V Q i rec x):St V Q i rec (bif c then x else y):=by rw[h];exact k
def blS {c:AN}{n:Int}{f:AN×Int->Option τ}(h:bD c)(k:∀a v,bD a->0<=v->(0<n->v<n)->St V Q i rec (f (a,v))):St V Q i rec (bd (gd (bD c) (some (bJ c n))) f):=
 bgS h (k _ _ (oV h n).1 (oV h n).2.1 (oV h n).2.2.1)
end
def bG8 {F:(S->Option τ)->S->Option τ}(V:Nat->S->Prop)(N:Nat){Q:τ->Prop}{s:S}(a:N<=18446744073709551616)(h0:V 0 s)(step:∀i s rec,i<N->V i s->St V Q i rec (F rec s))(last:∀s rec,V N s->Ex (F rec s) Q):Ex (cO FUEL F s) Q:=
 bJa V N Q step last N 0 FUEL s (by omega) (by have:=iB;omega) h0
end
abbrev WU:=Int×Int×List AC×List Bool×List AF×Int×List AQ×List AJ×List AD×Int×Int×Int×Int×List AO×Int×List AU
def wT (w:AA):WU:=(w.Now,w.Seed,w.Devices,w.Stolen,w.aAA.Log,w.aAA.Boxes.Epoch,w.aAA.Boxes.Boxes,w.aAA.History,w.Sites,w.aAO.Salt,w.aAO.Threshold,w.aAO.Check,w.aAO.Masked,w.Hosts,w.Pin,w.Mail.Notices)
def bD9 (n k t pin seed:Int)(K:List Int)(L M:Int):Option (List Int×Int×Int×WU):=bd (bif !bU n 1 3 then some true else bif !bU k 1 7 then some true else bif !bU t 1 k then some true else bif !bU pin 0 9999 then some true else some (!bN seed)) λO=>bif O then some (K,L,M,(0:Int),(0:Int),[],[],[],(0:Int),[],[],[],(0:Int),(0:Int),(0:Int),(0:Int),[],(0:Int),[]) else bd (cO (α:=List AF×List AC×List Bool) FUEL (λI (f:(List AF×Nat×List AC×List Bool))=>bif (↑f.2.1:Int)<n then gd (bB f.2.2.1 [AC.mk (AI.mk 1 ↑f.2.1 (aV seed [277,↑f.2.1]) 0) [] 0 0 0 (AB.mk [])]) (gd (bB f.2.2.2 [false]) (bd (bC (f.2.2.1++[AC.mk (AI.mk 1 ↑f.2.1 (aV seed [277,↑f.2.1]) 0) [] 0 0 0 (AB.mk [])]) 0) λw=>bd (gd (f.1.length<=34359738300) (some (bW f.1 1 (aS (AI.mk 1 ↑f.2.1 (aV seed [277,↑f.2.1]) 0)) w.Store))) λx=>I (x.1,(f.2.1+1),f.2.2.1++[AC.mk (AI.mk 1 ↑f.2.1 (aV seed [277,↑f.2.1]) 0) [] 0 0 0 (AB.mk [])],f.2.2.2++[false]))) else some (f.1,f.2.2)) ([],0,[],[])) λv=>bd (gd (v.1.length<=34359738300) (some (bE v.1 (bK seed 0) 1000))) λN=>bd (gd (v.1.length<=34359738368/\N.1.sz<=34359738368) (some (dP v.1 N.1))) λw=>bd (cO (α:=List AD) FUEL (λy (d:(List AD×Nat))=>bif (↑d.2:Int)<2 then bd (bd (gd ([(281:Int),(↑d.2:Int)].length<=34359738300) (some (aV seed [281,↑d.2]))) λm=>bd (gd ((aA ↑d.2).size<=34359738368) (some (gJ (aA ↑d.2) m))) λe=>bd (gd (e.sz<=34359738300) (some (mF e 1 3))) λl=>bd (cO (α:=ByteArray×List AH×Int×Int×List AZ×List Int) FUEL (λz (b:(Nat×ByteArray×List AH×Int×Int×List AZ×List Int))=>bif (↑b.1:Int)<v.2.1.length then bd (bC v.2.1 ↑b.1) λs=>bd (gd ((aA ↑d.2).size<=34359738300) (some (cK s.Store (aA ↑d.2) ↑b.1))) λp=>bd (gd ((AD.mk b.2.1 b.2.2.1 (AR.mk b.2.2.2.1 b.2.2.2.2.1 b.2.2.2.2.2.1) b.2.2.2.2.2.2).sz<=34359738300) (some (dI (AD.mk b.2.1 b.2.2.1 (AR.mk b.2.2.2.1 b.2.2.2.2.1 b.2.2.2.2.2.1) b.2.2.2.2.2.2) 1 ↑b.1 p))) λc=>z ((b.1+1),c.1.Name,c.1.Accounts,c.1.Book.Seed,c.1.Book.Next,c.1.Book.Open,c.1.Logins) else some b.2) (0,l.1.Name,l.1.Accounts,l.1.Book.Seed,l.1.Book.Next,l.1.Book.Open,l.1.Logins)) λa=>gd (bB d.1 [AD.mk a.1 a.2.1 (AR.mk a.2.2.1 a.2.2.2.1 a.2.2.2.2.1) a.2.2.2.2.2]) (some (d.1++[AD.mk a.1 a.2.1 (AR.mk a.2.2.1 a.2.2.2.1 a.2.2.2.2.1) a.2.2.2.2.2]))) λu=>y (u,(d.2+1)) else some d.1) ([],0)) λx=>bd (cO (α:=List AC) FUEL (λA (h:(Nat×List AC))=>bif (↑h.1:Int)<n then bd (bC h.2 ↑h.1) λm=>bd (gd (m.sz<=34359738368/\v.1.length<=34359738368) (some (mE m v.1 (bK seed 0)))) λe=>bd (bC h.2 ↑h.1) λl=>A ((h.1+1),h.2.set (↑h.1:Int).toNat e.1) else some h.2) (0,v.2.1)) λJ=>bd (cO (α:=List AC) FUEL (λB (q:(Nat×List AC))=>bif (↑q.1:Int)<2 then bd (cO (α:=List AC) FUEL (λD (i16:(Nat×List AC))=>bif (↑i16.1:Int)<n then bd (bC i16.2 0) λa=>bd (gd (a.sz<=34359738360/\(aA ↑q.1).size<=34359738300) (some (bO a (aA ↑q.1) ↑i16.1 false))) λF=>bd (bC i16.2 0) λs=>D ((i16.1+1),i16.2.set (0:Int).toNat F.1) else some i16.2) (0,q.2)) λe=>B ((q.1+1),e) else some q.2) (0,J)) λu=>bd (bC u 0) λm=>bd (gd (m.sz<=34359738368) (some (dO m))) λe=>bd (bC u 0) λl=>bd (gd (w.1.sz<=34359738300/\e.2.1.sz<=34359738300) (some (bQ w.1 e.2.1))) λa=>bd (cO (α:=List AC) FUEL (λG (j:(Int×List AC))=>bif j.1<n then bd (bC j.2 j.1) λp=>bd (gd (p.sz<=34359738100/\a.1.sz<=34359738100) (some (bR p a.1.Log a.1.Boxes (eZ a.1 0).1))) λc=>bd (bC j.2 j.1) λr=>G (IntKind.i64.wrap (j.1+1),j.2.set j.1.toNat c.1) else some j.2) ((1:Int),u.set (0:Int).toNat e.1)) λF=>bd (cO (α:=List Int) FUEL (λH (o:(List Int×Int))=>bif o.2<t then bd (gd ([(307:Int),o.2].length<=34359738300) (some (aV seed [307,o.2]))) λc=>gd (bB o.1 [c]) (H (o.1++[c],IntKind.i64.wrap (o.2+1))) else some o.1) ([],(1:Int))) λs=>bd (gd ([(283:Int)].length<=34359738300) (some (aV seed [283]))) λp=>bd (gd ([(293:Int)].length<=34359738300) (some (aV seed [293]))) λc=>gd ((1018:Int)≠(0:Int)) (bd (gd (s.length<=34359738368) (some (Iz pin 7 p (IntKind.i64.wrap ((1:Int)+c.tmod (1018:Int))) s k 5))) λr=>some (K,L,M,(0:Int),seed,F,v.2.2,a.1.Log,a.1.Boxes.Epoch,a.1.Boxes.Boxes,a.1.History,x,r.1.Salt,r.1.Threshold,r.1.Check,r.1.Masked,r.2.1,pin,[]))
def bLf (n k t pin seed:Int)(q:List Int)(u v:Int):bD9 n k t pin seed q u v=some (q,u,v,wT (bG n k t pin seed)):=by
 unfold bD9 bG zM;cases h1:bU n 1 3 with
 |false=>rfl
 |true=>
 cases h2:bU k 1 7 with
 |false=>rfl
 |true=>
 cases D:bU t 1 k with
 |false=>rfl
 |true=>
 cases M:bU pin 0 9999 with
 |false=>rfl
 |true=>
 cases O:bN seed with
 |false=>rfl
 |true=>
 have hn:=iA h1;have hk:=iA h2;have ht:=iA D;obtain⟨N,rfl⟩:∃N:Nat,n=(N:Int):=⟨n.toNat,by omega⟩;rw[bm];have e:1<=N/\N<=3:=by omega
 have T:=qW seed N;have W:=aNe seed N;have X:=aNf seed N;simp only[ay,ae,dl,ac,bd_s,bSc,bTw];rw[Xp (r:=(aX seed N,dR seed N,List.replicate N false)) (λi=>(aX seed i,i,dR seed i,List.replicate i false)) N (s:=([],0,[],[])) (by omega) (λrec i hi=>by
  have w:=bG3 seed i;have Z:=qW seed i;have e4:=Xq seed i;rw[aD7] at w;simp only[fO hi,ac,aD (show bB (dR seed i) [aY (aM seed (i:Int))] from bOc (by omega) (by simp)),aD (show bB (List.replicate i false) [false] from bOc (by rw[fj];omega) (by simp)),w,bd_s,aD (show(aX seed i).length<=34359738300 by omega),aD7,List.replicate_succ'];rfl) (λrec=>by simp only[U0,ae]) rfl]
 have F:(bE (aX seed N) (bK seed 0) 1000).1=gU seed N:=rfl;simp only[bd_s,aD (show(aX seed N).length<=34359738300 by omega),F,aD (show(aX seed N).length<=34359738368/\(gU seed N).sz<=34359738368 from⟨by omega,by omega⟩)];have z:=Xq seed N;rw[Xp (r:=wN (dR seed N) seed) (λj=>((wN (dR seed N) seed).take j,j)) 2 (s:=([],0)) (by omega) (λrec j hj=>by
  have hs:=aI2 (j:Int);have h6:=aIp (aA (j:Int)) (aV seed [281,(j:Int)]);have h7:=aNg (gJ (aA (j:Int)) (aV seed [281,(j:Int)])) 1 3;simp only[au (show(j:Int)<2 by omega),ac,aD (show[281,(j:Int)].length<=34359738300 by simp),bd_s,aD (show(aA (j:Int)).size<=34359738368 by omega),aD (show(gJ (aA (j:Int)) (aV seed [281,(j:Int)])).sz<=34359738300 by omega)];rw[bG4 (nm:=aA (j:Int)) (l:=dR seed N) (s0:=(mF (gJ (aA (j:Int)) (aV seed [281,(j:Int)])) 1 3).1) (by omega) (by omega) (λrec i hi s hsz=>by
   simp only[fO hi,ac,aQ hi,bd_s,aD (show(aA (j:Int)).size<=34359738300 by omega),bD8,aD (show s.sz<=34359738300 by omega)]) (λrec s=>by simp only[U0,ae])]
  have G:((wN (dR seed N) seed).take j).length<=1000:=by rw[cq];omega
  have f:∀x:AD,bB ((wN (dR seed N) seed).take j) [x]:=λx=>bOc G (by simp);simp only[bd_s,bD8,aD (f _)];have h:j=0\/j=1:=by omega
  rcases h with rfl|rfl<;>rfl) (λrec=>by rfl) rfl]
 simp only[bd_s];have a:∀d∈dR seed N,d.sz=0:=λd hd=>by
  simp only[dR,cr] at hd;obtain⟨i,_,rfl⟩:=hd;rfl
 rw[show(0,dR seed N)=((λi:Nat=>i) ([]:List AC).length,([]:List AC)++dR seed N) from rfl,bLc (λi:Nat=>i) (p0:=[]) (l:=dR seed N) (zL seed N) (by omega) (λrec p d r hp hd=>by
  have h0:=a d hd;simp only[bu] at hp;simp only[fO (show p.length<N by omega),ac,aZj,bd_s,aD (show d.sz<=34359738368/\(aX seed N).length<=34359738368 from⟨by omega,by omega⟩),bm,set_mid rfl,ck,fi];rfl) (λrec p hp=>by
  simp only[bu,z,cx,U0,ae])]
 obtain⟨R,c⟩:∃R,R=((dR seed N).drop 1).map (zL seed N):=⟨_,rfl⟩;have hm:(dR seed N).map (zL seed N)=zL seed N (aY (aM seed 0))::R:=by have:=congrArg (List.map (zL seed N)) (aVy seed N e.1);rw[this,c];rfl
 have H:R.length=N-1:=by rw[c,bl,cE,z]
 have m:∀d∈R,d.sz<=10:=λd hd=>by
  rw[c,cr] at hd;obtain⟨x,hx,rfl⟩:=hd;have h0:=a x (df hx);have:=aLa seed N x;omega
 have I:=aLa seed N (aY (aM seed 0));rw[aF5] at I;have hq:∀x:AC,bC (x::R) 0=some x:=λx=>rfl;rw[bv,hm,bd_s,bG6 (n:=N) (d:=zL seed N (aY (aM seed 0))) (r:=R) e.2 (by omega) (λrec j x hj hx=>by
  simp only[au (show(j:Int)<2 by omega),ac];rw[bG5 (nm:=aA (j:Int)) (n:=N) (d:=x) (r:=R) e.2 hx (λrec i x hi hx=>by
   have hs:=aI2 (j:Int);simp only[fO hi,ac,hq,bd_s,aD (show x.sz<=34359738360/\(aA (j:Int)).size<=34359738300 from⟨by omega,by omega⟩)];rfl) (λrec x=>by simp only[U0,ae])]
  simp only[bd_s]) (λrec x=>by rfl)]
 have J:aT3 N (zL seed N (aY (aM seed 0))) 2=lU seed N:=rfl;have A:dO (lU seed N)=nwW seed N:=rfl;have hc:(bQ (dP (aX seed N) (gU seed N)).1 (nwW seed N).2.1).1=iK seed N:=rfl;have hF:=aNd seed N;have B:=zU (lU seed N);rw[A] at B;have K:=Uq (aX seed N) (gU seed N);have b:∀x y:AC,(x::R).set (0:Int).toNat y=y::R:=λ_ _=>rfl;simp only[bd_s,J,hq,aD (show(lU seed N).sz<=34359738368 by omega),A,aD (show(dP (aX seed N) (gU seed N)).1.sz<=34359738300/\(nwW seed N).2.1.sz<=34359738300 from⟨by omega,by have:=B.2;simp only[AJ.sz];omega⟩),hc,b];rw[show((1:Int),(nwW seed N).1::R)=((λi:Nat=>(i:Int)) ([(nwW seed N).1]:List AC).length,[(nwW seed N).1]++R) from rfl,bLc (λi:Nat=>(i:Int)) (p0:=[(nwW seed N).1]) (l:=R) (λd=>(bR d (iK seed N).Log (iK seed N).Boxes (eZ (iK seed N) 0).1).1) (by omega) (λrec p d r hp hd=>by
  have h0:=m d hd;simp only[aw,bu] at hp;simp only[fO (show p.length<N by omega),ac,aZj,bd_s,aD (show d.sz<=34359738100/\(iK seed N).sz<=34359738100 from⟨by omega,by omega⟩),bm,set_mid rfl,ck,fi,aL (show-9223372036854775808<=(p.length:Int)+1 by omega) (show(p.length:Int)+1<=9223372036854775807 by omega)];rfl) (λrec p hp=>by
  simp only[show([(nwW seed N).1]:List AC).length+R.length=N by simp only[aw,bu];omega,U0,ae])]
 have L:[(nwW seed N).1]++R.map (λd=>(bR d (iK seed N).Log (iK seed N).Boxes (eZ (iK seed N) 0).1).1)=kE seed N:=by rw[c,gC];show(nwW seed N).1::_=(nwW seed N).1::_;congr 1;exact gk λd _=>bM6 seed N d
 rw[L];simp only[bd_s];rw[bB1 (seed:=seed) (t:=t) ⟨by omega,by omega⟩ (λrec s i h0 h1 h2=>by
  have f:∀x:Int,bB s [x]:=λx=>bOc (by omega) (by simp);simp only[aD (show([307,i]:List Int).length<=34359738300 by simp),bd_s,aD (f _),aL (show-9223372036854775808<=i+1 by omega) (show i+1<=9223372036854775807 by omega)])]
 have o:(U8 seed t).length<=34359738368:=by simp only[U8,bl,gr];omega
 simp only[bd_s,aD (show([283]:List Int).length<=34359738300 by simp),aD (show([293]:List Int).length<=34359738300 by simp),aD (show(1018:Int)≠0 by decide),aD o];rfl
def bG9 (w:AA)(d j:Int)(o:AS):(fT w d j o).1.Now=w.Now:=by
 unfold fT;cases !dS w d j with
 |true=>rfl
 |false=>
  cases !(gZ w j).2.2.2 with
  |true=>rfl
  |false=>cases !((Au w d j o).2.1==0)<;>rfl
def bLg (w:AA)(d:Int)(n:ByteArray)(a:Int)(r:Bool):(lX w d n a r).1.Now=w.Now:=by
 unfold lX;cases aR w&&aO w d with
 |false=>rfl
 |true=>cases(bO (aF w d) n a r).2<;>rfl
def aT5 (w:AA)(b k p:Int)(key:List AF->Int):(gY w b k p key).1.Now=w.Now:=by unfold gY;simp only[];generalize bW w.aAA.Log k p (aF w b).Store=l;generalize bE l.1 (key l.1) (IntKind.i64.wrap (1000+IntKind.i64.wrap (10*(l.1.length:Int))))=e;cases l.2&&(e.2&&(jN w.aAA l.1 e.1).2)<;>rfl
def aEd (w:AA)(d b:Int):(aH w d b).1.Now=w.Now:=(fK w d b).2.1
def aZk (w:AA)(d:Int):(fD w d).1.Now=w.Now:=(rO w d).2.1
def bOf (w:AA)(b:Int):(bY w b).1.Now=w.Now:=by
 unfold bY;cases qN w b with
 |false=>rfl
 |true=>
  show(sG w b).1.Now=w.Now;have a:(lI w b).1.Now=w.Now:=by unfold lI;rw[aZk];exact(aT5 _ _ _ _ _).trans (aEd _ _ _)
  unfold sG
  first
   |exact a
   |exact(aEd _ _ _).trans a
def bHa (w:AA)(d:Int):(jF w d).1.Now=w.Now:=by unfold jF;cases dS w d 0&& !dV w d<;>rfl
def bOg (w:AA)(b t:Int):(eO w b t).1.Now=w.Now:=by
 unfold eO;generalize((aH w b 0).2==0&&(!dV w b&&(!(b==t)&&bZ w t)))=q;cases q with
 |false=>rfl
 |true=>
  show(lQ w b t).1.Now=w.Now;have h1:(lK w b t).1.Now=w.Now:=(aT5 _ _ _ _ _).trans (aEd _ _ _);have a:(Iw w b t).1.Now=w.Now:=(aVg _ _).2.1.trans h1;unfold lQ;cases(lK w b t).2&&((Jw w b t).2&&(Iw w b t).2) with
  |false=>rfl
  |true=>exact a
def bB4 (w:AA)(d j:Int):(lT w d j).1.Now=w.Now:=by
 unfold lT;cases dS w d j&& !dV w d with
 |false=>rfl
 |true=>exact bG9 ..
def bB5 {w:AA}(h:CldOk w.aAA)(d j:Int):CldOk (lT w d j).1.aAA:=by
 unfold lT;cases dS w d j&& !dV w d with
 |false=>exact h
 |true=>exact bGo h ..
def bLh {w:AA}(h:CldOk w.aAA)(d b:Int):CldOk (aH w d b).1.aAA:=by rw[(fK w d b).2.2.2.2.2];exact h
def bB6 (k e v:Int)(b:AB):aT (kN k e v b).1.Data/\(kN k e v b).1.Data.length<=500:=by
 refine⟨?_,aS4 k e v b⟩;unfold kN;cases bN k&&(bU e 0 1000000&&bU v 0 1000000)&&aP b with
 |false=>exact⟨by show 0<=_;omega,rfl⟩
 |true=>refine aC4 ?_;have:=Jv b;omega
structure Wv (i:Nat) (w:AA):Prop where
 inn:WIn w.Devices.length w
 now:w.Now<=(i:Int)
 sz:w.sz<=100000+3000*i
 cld:CldOk w.aAA
def Wv.next {i:Nat}{w v:AA}(h:Wv i w)(k:Kept w v)(n:v.Now=w.Now)(c:CldOk v.aAA):Wv (i+1) v:=
 ⟨k.wi,by rw[n];have:=h.now;omega,by have:=h.sz;have:=k.sz;omega,c⟩
def PW (p:AA->Prop)(r:List Int×Int×Int×WU):Prop:=∃c w,bD c/\p w/\r=(c.b,c.i,c.h,wT w)
def aEe {k i:Nat}(h:i<k):decide ((k:Int)-(i:Int)>0)=true:=by simp;omega
def aV1 {k:Nat}:decide ((k:Int)-(k:Int)>0)=false:=by simp
def aV2 {k i:Nat}(h:k<=1000)(h1:i<k):IntKind.i64.wrap ((k:Int)-(i:Int)-1)=(k:Int)-((i+1:Nat):Int):=by rw[aL (by omega) (by omega)];omega
def bVl (l:List Int):Ex (cO (α:=Int) FUEL (λb (a:(Int×Int))=>bd (bif a.2<(l.length:Int) then some (decide (a.2<4000)) else some false) λz2=>bif z2 then bd (bC l a.2) λc=>b (qB IntKind.i64 (IntKind.i64.wrap (IntKind.i64.wrap (IntKind.i64.wrap (a.1*137)+IntKind.i64.wrap c)+11)) (1073741823:Int),IntKind.i64.wrap (a.2+1)) else some a.1) (IntKind.i64.wrap ((193017:Int)+(l.length:Int)),(0:Int))) λ_=>True:=by
 refine bG8 (λi (s:Int×Int)=>s.2=(i:Int)) (min l.length 4000) (by omega) rfl (λi s rec hi hv=> ?_) (λs rec hv=> ?_)
 ·obtain⟨x,y⟩:=s;have hv:y=(i:Int):=hv;subst hv;simp only[au (show(i:Int)<(l.length:Int) by omega),au (show(i:Int)<4000 by omega),ac,bd_s,aQ (show i<l.length by omega)];exact bG7 (by show IntKind.i64.wrap ((i:Int)+1)=((i+1:Nat):Int);rw[aL (by omega) (by omega)];omega)
 ·obtain⟨x,y⟩:=s;have hv:y=((min l.length 4000:Nat):Int):=hv;subst hv;refine bdE (λr=>r=false) (vQ (λq=>gW ?_) λ_=>gW rfl) λr hr=>by subst hr;exact gW trivial
  have q:=of_decide_eq_true q;exact av (by omega)
def Wv.tick {i:Nat}{w:AA}(h:Wv i w)(hi:i<5):Wv (i+1) {w with Now:=IntKind.i64.wrap (w.Now+1)}:=by have h0:=h.inn.now;have hn:=h.now;have e:IntKind.i64.wrap (w.Now+1)=w.Now+1:=aL (by omega) (by omega);rw[e];exact⟨⟨h.inn.seed,show 0<=w.Now+1/\w.Now+1<=999900 by omega,h.inn.dlen,h.inn.slen,h.inn.dev,h.inn.two,h.inn.mle,h.inn.site,h.inn.mail,h.inn.log⟩,by show w.Now+1<=_;omega,by have:=h.sz;show w.sz<=_;omega,h.cld⟩
def bHb {w:AA}{c:AM}:({w with aAA:=c}:AA).sz<=w.sz+c.sz:=by simp only[AA.sz,AM.sz];omega
def bOh {α:Type}(f:α->Nat)(l:List α)(n:Nat):((l.take n).map f).sum<=(l.map f).sum:=by
 have:(l.map f).sum=((l.take n).map f).sum+((l.drop n).map f).sum:=by rw[<-List.sum_append,<-ez,cL]
 omega
def aV3 {l:List AF}{b:AK}(h:aVe b):CldOk (dP l b).1:=by
 unfold dP;cases aW l&&gT b l with
 |true=>exact⟨⟨h,λs hs=>absurd hs dy⟩, .nil⟩
 |false=>exact⟨⟨λs hs=>absurd hs dy,λs hs=>absurd hs dy⟩, .nil⟩
def bOi {l:List Int}(hb:bFu l=false):l.length<=1048576:=by unfold bFu at hb;rw[cC] at hb;omega
def eqT {w:AA}(a:w.sz<=34359738368)(h:CldOk w.aAA):qC w.sz w w/\w.sz<=34359738368/\Ay w.aAA:=⟨⟨rfl,by omega⟩,a,h.bytes⟩
end
end Go.VK
set_option maxRecDepth 100000
set_option maxHeartbeats 4000000
namespace Go.VK
open Go.RowKit Go.Proofs D
noncomputable section
open EV (cO)
def Wn (i:Nat)(w:AA):Prop:=Wv i w/\DrV i w
def bTy {n k t pin seed:Int}{c:AN}(hc:bD c)(hs:1<=seed/\seed<=1000)(h:zM n k t pin seed=true):Ex (bD9 n k t pin seed c.b c.i c.h) (PW (Wn 0)):=by rw[bLf];obtain⟨a,d,e⟩:=Uw h;have f:=aYh n k t pin seed;refine gW ⟨c,bG n k t pin seed,hc,⟨⟨by rw[d];exact a,?_,by omega,bNs⟩,DrV.new h hs⟩,rfl⟩;unfold bG;rw[h];exact cI _
def bPb (r:AA×Int×Int):Prop:=∃w0 w d b,r=(w,d,b)/\DrV 4 w0/\aN2 w0 w/\w.sz<=1000000/\CldOk w.aAA
def aI3 {w:AA}(e:DrV 4 w){W:AA}(f:aN2 w W){c:AN}{n:Int}(hc:bD c)(h:W.sz<=1000000)(hd:CldOk W.aAA):
  Ex (bd (gd (bD c) (some (bJ c n))) λd=>bd (gd (bD d.1) (some (bJ d.1 4))) λj=>some (W,IntKind.i64.wrap (d.2-1),IntKind.i64.wrap (j.2-1))) bPb:=
 blE hc λk l h1 _ _=>blE h1 λm o h2 a b=>gW ⟨w,W,_,_,rfl,e,f,h,hd⟩
def bTz {m:AP}(h:m.Notices.length<=34359738368):Ex (mZ m) λr=>r.1.Notices.length=m.Notices.length:=by
 unfold mZ;refine bgE h (bdE (λr=>r.2.length=m.Notices.length) ?_ λr hr=>gW hr);refine bG8 (λi (s:List AU×Nat×List AU)=>∃a ns,a.length<=i/\ns.length=m.Notices.length/\s=(a,i,ns)) m.Notices.length (by omega) ⟨[],m.Notices,ak _,rfl,rfl⟩ (λi s rec hi hv=> ?_) (λs rec hv=> ?_)
 ·obtain⟨a,ns,h1,h2,rfl⟩:=hv;refine bLe (fO hi) (bdS (λr=>r.1.length<=i+1/\r.2.length=m.Notices.length) (bdE (λr=>r.length<=i+1) ?_ λr hr=> ?_) λr hr=>bG7 ⟨r.1,r.2,hr.1,hr.2,rfl⟩)
  ·show Ex (bd (bC m.Notices (i:Int)) _) _;rw[aQ hi];refine bdE (λ_=>True) (gW trivial) λr _=> ?_
   refine vQ (λ_=> ?_) λ_=>gW (show a.length<=i+1 by omega);exact gdE (by unfold bB;show a.length+1<=_;omega) (gW (by simp only[ax,cn];omega))
  ·show Ex (bd (bC ns (i:Int)) _) _;rw[aQ (by omega)];exact gW ⟨hr,by simp only[aq];exact h2⟩
 ·obtain⟨a,ns,h1,h2,rfl⟩:=hv;exact vQ (λq=>absurd (q.symm.trans U0) (by decide)) λ_=>gW h2
def bVm {c:AN}(h:bD c):Ex (wD c 10) λr=>bD r.1/\r.2.length<=10/\oU r.2:=by
 unfold wD;refine bdE (λr=>∃(c:AN) (l:List AF),bD c/\(l.length<=10/\oU l)/\r=(l,c.b,c.i,c.h)) ?_ λr hr=> ?_
 ·refine blE h λt v h1 a b=> ?_;have b:=b (by decide);obtain⟨k,rfl⟩:∃k:Nat,v=(k:Int):=⟨v.toNat,by omega⟩;refine bG8 (λi (s:List AF×Int×List Int×Int×Int)=>∃(c:AN) (l:List AF),bD c/\(l.length<=i/\oU l)/\s=(l,(k:Int)-(i:Int),c.b,c.i,c.h)) k (by omega) ⟨t,[],h1,⟨ak _,λe he=>absurd he dy⟩,by simp⟩ (λi s rec hi hv=> ?_) (λs rec hv=> ?_)
  ·obtain⟨c,l,q1,⟨q2,f⟩,rfl⟩:=hv;refine bLe (aEe hi) (bdS (λr=>∃(c:AN) (l:List AF),bD c/\(l.length<=i+1/\oU l)/\r=(l,c.b,c.i,c.h)) ?_ λr hr=> ?_)
   ·refine blE q1 λH u w x y=>blE w λA I p _ _=>bdE (λ_=>True) (vQ (λ_=>gW trivial) λ_=>gW trivial) λJ _=> ?_;refine bdE (λr=>∃(n:Int) (c:AN),bD c/\r=(n,c.b,c.i,c.h)) (bdE (λr=>∃(n:Bool) (c:AN),bD c/\r=(n,c.b,c.i,c.h)) (vQ (λ_=>onE p λB D F=>gW ⟨D,B,F,rfl⟩) λ_=>gW ⟨_,A,p,rfl⟩) ?_) ?_
    ·rintro _ ⟨n,c,hc,rfl⟩;exact vQ (λ_=>gW ⟨_,c,hc,rfl⟩) λ_=>gW ⟨_,c,hc,rfl⟩
    ·rintro _ ⟨n,c,hc,rfl⟩;refine bdE (λz=>z=aTn u) (by unfold nN;exact gW rfl) λj G=>bdE (λ_=>True) (by unfold nN;exact gW trivial) λd _=>bgE (show l.length<=34359738300 by omega) (gW ⟨c,_,hc,?_,rfl⟩);have:=oP l n (aS j) d;refine⟨by show(bW l n (aS j) d).1.length<=_;omega,?_⟩;show oU (bW l n (aS j) d).1;rw[G];exact bNv f ⟨x,y (by decide)⟩ n d
   ·obtain⟨c,l,m,o,rfl⟩:=hr;exact bG7 ⟨c,l,m,o,by show(l,IntKind.i64.wrap ((k:Int)-(i:Int)-1),c.b,c.i,c.h)=_;rw[aV2 (by omega) hi]⟩
  ·obtain⟨c,l,q1,⟨q2,f⟩,rfl⟩:=hv;exact vQ (λq=>absurd (q.symm.trans aV1) (by decide)) λ_=>gW ⟨c,l,q1,⟨by omega,f⟩,rfl⟩
 ·obtain⟨c,l,m,o,rfl⟩:=hr;exact gW ⟨m,o⟩
def bVn {c:AN}{l:List ByteArray}(h:bD c)(h0:0<l.length):Ex (zN c l) λr=>bD r.1/\r.2∈l:=by
 unfold zN;refine blE h λd v h1 a b=> ?_
 have b:=b (by omega);show Ex (bd (bC l v) _) _;rw[nV a (by omega)];exact gW ⟨h1,ce _⟩
def bB7 {l:List Int}(hl:l.length<=1048576):Ex (nA l) bPb:=by
 unfold nA;refine bdE (λ_=>True) (bVl l) λz0 _=> ?_
 refine blE (c:=AN.mk l 0 z0) ⟨cI _,hl⟩ λc1 O h1 a1 b1=> ?_;have b1:=b1 (by decide);refine bdE (PW (Wn 0)) (blE h1 λc3 v3 h3 a3 b3=>blE h3 λR H u a4 z=>blE u λc5 v5 I a5 b5=>blE I λJ a K a6 b6=> ?_) ?_
 ·have b3:=b3 (by decide);have b5:=b5 (by decide);have b6:=b6 (by decide);show Ex (bD9 (IntKind.i64.wrap ((1:Int)+v3)) (IntKind.i64.wrap ((1:Int)+O)) (IntKind.i64.wrap ((1:Int)+H)) v5 (IntKind.i64.wrap ((1:Int)+a)) J.b J.i J.h) _;refine bTy K (by rw[aL (by omega) (by omega)];omega) ?_;have z:0<IntKind.i64.wrap (1+O)->H<IntKind.i64.wrap (1+O):=z;rw[aL (show-9223372036854775808<=1+O by omega) (by omega)] at z ⊢;have z:=z (by omega);rw[aL (show-9223372036854775808<=1+v3 by omega) (by omega),aL (show-9223372036854775808<=1+H by omega) (by omega),aL (show-9223372036854775808<=1+a by omega) (by omega)];unfold zM;rw[show bN (1+a)=true from iE (by omega) (by omega),iE (show(1:Int)<=1+v3 by omega) (by omega),iE (show(1:Int)<=1+O by omega) (by omega),iE (show(1:Int)<=1+H by omega) (by omega),iE a5 (by omega)];rfl
 rintro _ ⟨c,w,hc,f,rfl⟩;refine bdE (PW λw=>(w.sz<=200000/\CldOk w.aAA/\w.Sites.length=2)/\DrV 4 w) ?_ ?_
 ·refine blE hc λR H u a4 z=> ?_;have z:=z (by decide);obtain⟨k,rfl⟩:∃k:Nat,H=(k:Int):=⟨H.toNat,by omega⟩;refine bG8 (λi (s:Int×List Int×Int×Int×WU)=>∃c w,bD c/\Wn i w/\s=((k:Int)-(i:Int),c.b,c.i,c.h,wT w)) k (by omega) ⟨R,w,u,f,by simp⟩ (λi s rec hi hv=> ?_) (λs rec hv=> ?_)
  ·obtain⟨c,w,hc,f,rfl⟩:=hv;have n:=f.2;have f:=f.1;have M:w.sz<=120000:=by have:=f.sz;omega
   refine bLe (aEe hi) (blS hc λJ a K a6 b6=>bdS (PW (Wn (i+1))) (blE K λT v8 y a8 b8=> ?_) ?_)
   ·refine vQ (λ_=> ?_) λ_=>vQ (λ_=> ?_) λ_=>vQ (λ_=> ?_) λ_=>bdE (λ_=>True) (vQ (λ_=>gW trivial) λ_=>gW trivial) λq9 _=>vQ (λ_=> ?_) λ_=>vQ (λ_=> ?_) λ_=>vQ (λ_=> ?_) λ_=>vQ (λ_=> ?_) λ_=> ?_
    ·exact bgE (show w.sz<=34359738368 by omega) (gW ⟨T,(jF w a).1,y,⟨f.next (.of (f.inn.aBS a) (by rw[bKe];omega)) (bHa w a) (bGp f.cld a),n.aBS a⟩,rfl⟩)
    ·refine blE y λc9 A B _ _=>bgE (show w.sz<=34359738200 by omega) (gW ⟨c9,(lT w a A).1,B,⟨f.next ?_ (bB4 w a A) (bB5 f.cld a A),n.person a A⟩,rfl⟩);exact bJ9 f.inn _ _ _ _
    ·refine bdE _ (bVn y (by decide)) λr9 B=>blE B.1 λp d o X Z=>onE o λD j x=>bgE ⟨show w.sz<=34359738300 by omega,by have:=(bO7 B.2 ⟨X,Z (by decide)⟩).2;omega⟩ (gW ⟨D,(lX w a r9.2 d j).1,x,⟨f.next ?_ (bLg ..) (bKy f.cld ..),n.aCQ (by omega) a (bO7 B.2 ⟨X,Z (by decide)⟩).1 j⟩,rfl⟩);exact .of ⟨f.inn.aCQ a r9.2 d j,y7 w a r9.2 d j⟩ (by have:=bJ7 w a r9.2 d j;omega)
    ·refine bgE (show w.sz<=10000000000 by omega) (gW ⟨T,(fD w a).1,y,⟨f.next ?_ (aZk ..) (aY3 f.cld ..),n.push (by omega) a⟩,rfl⟩);exact .of ⟨f.inn.push a,(rO w a).1,(rO w a).2.2.1⟩ (by have:=bJ8 f.inn a;omega)
    ·refine bgE (show w.sz<=100000000 by omega) (gW ⟨T,(bY w a).1,y,⟨f.next ?_ (bOf ..) (bNq f.cld ..),n.add (by omega) a⟩,rfl⟩);exact⟨(f.inn.add a).1,(f.inn.add a).2,by have:=add_add f.inn a;omega⟩
    ·refine blE y λp d o _ _=>bgE (show w.sz<=100000000 by omega) (gW ⟨p,(eO w a d).1,o,⟨f.next ?_ (bOg ..) (bNr f.cld ..),n.cut (by omega) a d⟩,rfl⟩);exact .of (f.inn.cut a d) (by have:=bNh f.inn a d;omega)
    ·exact gW ⟨T,{w with Now:=IntKind.i64.wrap (w.Now+1)},y,⟨f.tick (by omega),n.now (by have h1:=f.inn.now;have h2:=f.now;rw[aL (by omega) (by omega)];omega)⟩,rfl⟩
    ·refine blE y λp d o _ _=>bgE (show w.sz<=34359738100 by omega) (gW ⟨p,(aH w a d).1,o,⟨f.next ?_ (aEd ..) (bLh f.cld ..),n.sync (by omega) a d⟩,rfl⟩);exact .of ⟨f.inn.sync a d,(fK w a d).1,(fK w a d).2.2.1⟩ (by have:=aYs f.inn a d;omega)
   ·rintro _ ⟨c,w,hc,f,rfl⟩;exact bG7 ⟨c,w,hc,f,by show(IntKind.i64.wrap ((k:Int)-(i:Int)-1),c.b,c.i,c.h,wT w)=_;rw[aV2 (by omega) hi]⟩
  ·obtain⟨c,w,hc,f,rfl⟩:=hv;exact vQ (λq=>absurd (q.symm.trans aV1) (by decide)) λ_=>gW ⟨c,w,hc,⟨⟨by have:=f.1.sz;omega,f.1.cld,f.1.inn.two⟩,f.2.mono (by omega)⟩,rfl⟩
 rintro _ ⟨c,w,hc,⟨⟨M,hd,ho⟩,n⟩,rfl⟩;have hdl:=n.all.wi.dlen;have hsl:=n.all.wi.slen;refine blE hc λR H u a4 z=>vQ (λ_=> ?_) λ_=>vQ (λ_=> ?_) λ_=>vQ (λ_=> ?_) λ_=>vQ (λ_=> ?_) λ_=>vQ (λ_=> ?_) λ_=>vQ (λ_=> ?_) λ_=>vQ (λ_=> ?_) λ_=> ?_
 ·exact inE u (by decide) λc5 v5 I _=>aI3 n (.inl ⟨v5,w.Seed,w.Mail,rfl⟩) (W:={w with Now:=v5}) I (by show w.sz<=_;omega) hd
 ·exact gdE (by unfold jU;show(0:Int)<=0/\_;omega) (aI3 n (.inr (.inl (bDv (by show(w.Stolen.take 0).length≠w.Devices.length;rw[cq];omega)))) (W:={w with Stolen:=w.Stolen.take 0}) u (by simp only[AA.sz] at M ⊢;simp only[cq];omega) hd)
 ·refine gdE (show jU w.Sites 1 from⟨by decide,by show 1<=_;omega⟩) (aI3 n (.inr (.inl (bNx (by show(w.Sites.take 1).length≠2;rw[cq];omega)))) (W:={w with Sites:=w.Sites.take 1}) u ?_ hd);have e:=bOh AD.sz w.Sites 1;simp only[AA.sz] at M ⊢;simp only[cq,show(1:Int).toNat=1 from rfl] at*;omega
 ·refine bdE (λr=>∃(c:AN) (m:List AU),bD c/\m.length<=1000/\r=(c.b,c.i,c.h,m)) (inE u (by decide) λJ a K m6=> ?_) ?_
  ·obtain⟨k,rfl,hk⟩:∃k:Nat,a=(k:Int)/\k<=32:=⟨a.toNat,by simp at m6;omega,by simp at m6;omega⟩;refine bG8 (λi (s:Int×Int×List Int×Int×Int×List AU)=>∃(t:Int) (c:AN) (m:List AU),bD c/\m.length<=i/\s=(t,(k:Int)-(i:Int),c.b,c.i,c.h,m)) k (by omega) ⟨0,J,[],K,ak _,by simp⟩ (λi s rec hi hv=> ?_) (λs rec hv=> ?_)
   ·obtain⟨t,c,m,hc,hm,rfl⟩:=hv;refine bLe (aEe hi) (bdS (λr=>∃(t:Int) (c:AN) (m:List AU),bD c/\m.length<=i+1/\r=(t,c.b,c.i,c.h,m)) ?_ ?_)
    ·refine blE hc λc9 A B _ _=>blE B λp d o _ _=>blE o λD j x _ _=>bgE (show m.length<=34359738300 by omega) (onE x λL v F=> ?_);have hs:(pY (AP.mk m) (IntKind.i64.wrap ((1:Int)+d)) j (IntKind.i64.wrap (t+A))).1.Notices.length<=m.length+1:=bDf (AP.mk m) (IntKind.i64.wrap ((1:Int)+d)) j (IntKind.i64.wrap (t+A));exact vQ (λ_=>bdE _ (bTz (by show(pY (AP.mk m) (IntKind.i64.wrap ((1:Int)+d)) j (IntKind.i64.wrap (t+A))).1.Notices.length<=_;omega)) λz14 h14=>gW ⟨_,L,_,F,bz (Nat.le_of_eq h14) (bz hs (by omega)),rfl⟩) λ_=>gW ⟨_,L,_,F,bz hs (by omega),rfl⟩
    ·rintro _ ⟨t,c,m,hc,hm,rfl⟩;exact bG7 ⟨t,c,m,hc,hm,by show(t,IntKind.i64.wrap ((k:Int)-(i:Int)-1),c.b,c.i,c.h,m)=_;rw[aV2 (by omega) hi]⟩
   ·obtain⟨t,c,m,hc,hm,rfl⟩:=hv;exact vQ (λq=>absurd (q.symm.trans aV1) (by decide)) λ_=>gW ⟨c,m,hc,by omega,rfl⟩
  rintro _ ⟨c,m,hc,hm,rfl⟩;refine bdE (λr=>∃(c:AN) (m:List AU),bD c/\m.length<=1001/\r=(c.b,c.i,c.h,m)) (blE hc λc7 N h7 _ _=>vQ (λ_=>inE h7 (by decide) λT v8 y _=>inE y (by decide) λc9 A B _=>inE B (by decide) λp d o _=>gdE (by unfold bB;show m.length+1<=_;omega) (gW ⟨p,_,o,by rw[ax];show m.length+1<=_;omega,rfl⟩)) λ_=>gW ⟨c7,m,h7,by omega,rfl⟩) ?_;rintro _ ⟨c,m,hc,hm,rfl⟩;refine aI3 n (.inl ⟨w.Now,w.Seed,⟨m⟩,rfl⟩) (W:={w with Mail:=⟨m⟩}) hc ?_ hd;simp only[AA.sz] at M ⊢;omega
 ·exact bgE u (aI3 n (.inl ⟨w.Now,(aIr R).2,w.Mail,rfl⟩) (W:={w with Seed:=(aIr R).2}) (bOd u) (by show w.sz<=_;omega) hd)
 ·refine bdE _ (bVm u) λr5 I=>blE I.1 λJ a K _ _=>blE K λc7 N h7 _ _=> ?_;obtain⟨c5,log⟩:=r5;obtain⟨I,hl,hf⟩:=I;have hl:log.length<=10:=hl;have he:=zW log (IntKind.i64.wrap ((1:Int)+a)) (IntKind.i64.wrap ((1:Int)+N));have heb:=aC5 log (IntKind.i64.wrap ((1:Int)+a)) (IntKind.i64.wrap ((1:Int)+N));refine bgE (show log.length<=34359738300 by omega) ?_;show Ex (bd (gd (log.length<=34359738368/\(bE log (IntKind.i64.wrap ((1:Int)+a)) (IntKind.i64.wrap ((1:Int)+N))).1.sz<=34359738368) (some (dP log (bE log (IntKind.i64.wrap ((1:Int)+a)) (IntKind.i64.wrap ((1:Int)+N))).1))) _) _;generalize(bE log (IntKind.i64.wrap ((1:Int)+a)) (IntKind.i64.wrap ((1:Int)+N))).1=bx at he heb;have hn:=Uq log bx;have hnc:=aV3 (l:=log) heb;refine bgE ⟨by omega,by omega⟩ ?_;have hnf:oU (dP log bx).1.Log:=bNy hf;generalize dP log bx=cl at hn hnc hnf;obtain⟨cl,clb⟩:=cl;have hn:cl.sz<=log.length+bx.sz:=hn;refine bdE (λr=>∃(c:AN) (q:AM),bD c/\(q.sz<=100000/\CldOk q/\oU q.Log)/\r=(c.b,c.i,c.h,q.Log,q.Boxes.Epoch,q.Boxes.Boxes,q.History)) (inE h7 (by decide) λD j x m11=> ?_) ?_
  ·obtain⟨k,rfl,hk⟩:∃k:Nat,j=(k:Int)/\k<=61:=⟨j.toNat,by simp at m11;omega,by simp at m11;omega⟩;refine bG8 (λi (s:Int×Int×List Int×Int×Int×List AF×Int×List AQ×List AJ)=>∃(t:Int) (c:AN) (q:AM),bD c/\(q.sz<=1000+600*i/\CldOk q/\oU q.Log)/\s=(t,(k:Int)-(i:Int),c.b,c.i,c.h,q.Log,q.Boxes.Epoch,q.Boxes.Boxes,q.History)) k (by omega) ⟨0,D,cl,x,⟨by omega,hnc,hnf⟩,by simp⟩ (λi s rec hi hv=> ?_) (λs rec hv=> ?_)
   ·obtain⟨t,c,q,hc,⟨hq,hqc,hqf⟩,rfl⟩:=hv;refine bLe (aEe hi) (blS hc λL v F _ _=>bgS (show log.length<=34359738368 by omega) (blS F λc15 G h15 _ _=>bgS (show(1:Nat)<=34359738368 by decide) ?_));show St _ _ _ _ (bd (gd (q.sz<=34359738300/\(kN (IntKind.i64.wrap ((1:Int)+a)) (aB log) (IntKind.i64.wrap (IntKind.i64.wrap (t+1)+v)) (AB.mk [AG.mk (IntKind.i64.wrap ((1:Int)+G)) 0 1 false])).1.sz<=34359738300) (some (bQ q (kN (IntKind.i64.wrap ((1:Int)+a)) (aB log) (IntKind.i64.wrap (IntKind.i64.wrap (t+1)+v)) (AB.mk [AG.mk (IntKind.i64.wrap ((1:Int)+G)) 0 1 false])).1))) _);have hb:=bB6 (IntKind.i64.wrap ((1:Int)+a)) (aB log) (IntKind.i64.wrap (IntKind.i64.wrap (t+1)+v)) (AB.mk [AG.mk (IntKind.i64.wrap ((1:Int)+G)) 0 1 false]);generalize(kN (IntKind.i64.wrap ((1:Int)+a)) (aB log) (IntKind.i64.wrap (IntKind.i64.wrap (t+1)+v)) (AB.mk [AG.mk (IntKind.i64.wrap ((1:Int)+G)) 0 1 false])).1=sl at hb;have hu:=(qV q sl).1;refine bgS ⟨by omega,by show sl.Data.length<=_;omega⟩ (bG7 ⟨IntKind.i64.wrap (IntKind.i64.wrap (t+1)+v),c15,(bQ q sl).1,h15,⟨by omega,aN0 hqc hb.1,bR4 hqf⟩,?_⟩);show(_,IntKind.i64.wrap ((k:Int)-(i:Int)-1),_,_,_,_,_,_,_)=_;rw[aV2 (by omega) hi]
   ·obtain⟨t,c,q,hc,hq,rfl⟩:=hv;exact vQ (λq=>absurd (q.symm.trans aV1) (by decide)) λ_=>gW ⟨c,q,hc,⟨by omega,hq.2⟩,rfl⟩
  ·rintro _ ⟨c,q,hc,hq,rfl⟩;exact aI3 n (.inr (.inr ⟨q,rfl,hq.2.2⟩)) (W:={w with aAA:=q}) hc (bz bHb (by omega)) hq.2.1
 ·refine gdE ?_ (aI3 n (.inr (.inl (bDv (by show w.Stolen.length≠(w.Devices++[_]).length;rw[ax,hsl];show _≠w.Devices.length+1;omega)))) (W:={w with Devices:=w.Devices++[AC.mk (AI.mk 0 0 0 0) [] 0 0 0 (AB.mk [])]}) u ?_ hd)
  ·simp only[AA.sz] at M;unfold bB;show w.Devices.length+1<=_;omega
  ·simp only[AA.sz] at M ⊢;simp only[ax,ez,List.sum_append,cn,bw,ga,eJ,List.sum_nil,AC.sz,bu];omega
 ·exact aI3 n (.inl ⟨w.Now,w.Seed,w.Mail,rfl⟩) (W:=w) u (by omega) hd
def bHc {l:List Int}(hl:l.length<=1048576):Ex (jM l) λr=>∃w0 w d,r=(w,d)/\DrV 4 w0/\aN2 w0 w/\w.sz<=1000000/\CldOk w.aAA:=by
 unfold jM;refine bdE (λr=>∃w0 w d,r=(w,d)/\DrV 4 w0/\aN2 w0 w/\w.sz<=1000000/\CldOk w.aAA) ?_ λr hr=>gW hr
 unfold nT;refine bdE _ (bB7 hl) ?_;rintro _ ⟨w0,w,d,b,rfl,h1,h2,a,c⟩;exact gW ⟨w0,w,d,rfl,h1,h2,a,c⟩
def Sa (l:List Int)(h:aVd l):uO l=some true:=by
 unfold uO;cases hb:bFu l with
 |true=>rfl
 |false=>
  obtain⟨_,e,w0,w,c,rfl,b,d,f,hd⟩:=bHc (bOi hb);have hx:=bFl w c;rw[ae,e,bd_s];dsimp only;rw[aD (show w.sz<=100000000 by omega),bd_s,bd_s,bJg,ae];cases hc:(bY w c).2 with
  |false=>rw[da,ac,aVm hc,aD (eqT (by omega) hd)];rfl
  |true=>
   have g:=bN4 b d hc;generalize(bY w c).1=x at g hx;have hl:w.Devices.length<=w.sz:=by simp only[AA.sz];omega
   have a:((x.Devices.length:Int) !=IntKind.i64.wrap ((w.Devices.length:Int)+1))=false:=by rw[g.len,aL (by omega) (by omega),show((w.Devices.length+1:Nat):Int)=(w.Devices.length:Int)+1 by omega,cy]
   have hs:=bOe g.inc;rw[ay,ae,a,ae,aD (show WOk x from WOk.of' (by omega)),bd_s,g.inl,ay,ae,nX g.hn,bd_s,nX g.hx,bd_s,aD (show qC (aF x (w.Devices.length:Int)).aAC.sz (aF x (w.Devices.length:Int)).aAC (aF x c).aAC/\(aF x (w.Devices.length:Int)).aAC.sz<=34359738368 from⟨⟨g.bun,by omega⟩,by omega⟩),bd_s,ay,ae,bd_s,bd_s,g.key,cy,bd_s,ae];rw[aJf (τ:=Bool⊕PUnit) (λi s=>s=i) 2 (some (.inr ())) (by omega) rfl (λi s rec hi hv=> .inl ⟨i+1,rfl,by
    subst hv;rw[au (show(s:Int)<2 by omega),ac,aD (show x.sz<=34359738200 by omega),bd_s,g.login (s:Int) (by omega)];rfl⟩) (λs rec hv=>by subst hv;rfl)]
   show bd (gd (x.sz<=34359738368) (some (aR x))) _=_;rw[aD (show x.sz<=34359738368 by omega),bd_s,g.ok,ac,bd_s,nX g.hc,bd_s,aD (show aYj _ _ from⟨g.inc,by omega,by omega⟩)];rfl
end
end Go.VK
