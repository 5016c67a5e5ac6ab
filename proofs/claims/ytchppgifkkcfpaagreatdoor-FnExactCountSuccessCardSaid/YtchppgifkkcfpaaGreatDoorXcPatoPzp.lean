import Derived.Test.YtchppgifkkcfpaaGreatDoorXcM
import Derived.Test.YtchppgifkkcfpaaGreatDoorXcQ
import Derived.Test.YtchppgifkkcfpaaGreatDoorLKatoa
/- Printed by wip/tools: models, walks, proofs. -/
set_option linter.all false
set_option maxRecDepth 100000
set_option maxHeartbeats 4000000
namespace Go.VK
open Go.RowKit Go.Proofs D
noncomputable section
open EV (bF)
def bN3 (a b c:Int):aUq a b c=some (bE a b c):=by unfold aUq bE;show bd (bif decide (b<=a) then some (decide (a<=c)) else some false) _=_;cases decide (b<=a)<;>rfl
def bBh (a b c:Int):U7 a b c=some (bE a b c):=by unfold U7 bE;cases decide (b<=a)<;>rfl
def bP8 (p q:Int):bAm p q=some (bQ p q):=by
 grind[bU2,bE,aA,cAy,bAm]
def bP9 (p q:Int):bAq p q=some (bQ p q):=by
 unfold bAq;simp only[bd_bb];by_cases h:1<=q/\q<=1000000000000
 ·rw[aA (by omega)];by_cases ht:p.tmod q<0
  ·simp[h,ht,show ¬q<1 by omega,show ¬q>1000000000000 by omega,cAw h ht];rw[IntKind.wrap_i64];have:=nL (p:=p) (q:=q) h.1;omega
  grind[cAx]
 grind[bU2]
theorem bN4:((2147483647:Int)≠0)=True:=by simp
def aUv (l:List Int)(h:l.length<=1099511627776):aUr l=some (Yd l):=by
 unfold aUr;rw[gW (l:=l) hstep (λ_ _=>True) (λs=>some s) (by omega) trivial (by simp) (λrec i s hi _=>by
  simp only[bD hi,ae,aD hi,bd_s,bN4,gd_T];rfl) (by simp)]
 rfl
def bN5:= @aUv
def aRj (k:Int)(l:List Int)(h:Qa l.length):Sc k l=some (bN k l):=by unfold Sc;rw[aA (by grind[aO]),aA (by grind[aO]),aA (by simp;omega)];simp[bN]
theorem aG8 {α:Type}{r:List (List α)}{i:Nat}(hi:i<r.length):(r.take (i+1)).flatten=(r.take i).flatten++r[i]:=by
 grind[Option.toList_some,List.flatten_cons,List.flatten_nil,List.take_add_one,List.getElem?_eq_getElem,List.flatten_append]
def bFc (a:List Int)(r:List (List Int))(h:Kw a r):aGz a r=some (pX a r):=by
 unfold aGz;have hs:∀i,(r.take i).flatten.length<=r.flatten.length:=(by grind[List.take_append_drop,List.flatten_append,List.length_append]);rw[aA (by grind[aO]),gW (l:=r) (λs x=>s++x) (λi s=>s=a++(r.take i).flatten) (λs=>some s) (by omega) (by simp)
  (by grind[aG8,List.append_assoc])
  (λrec i s hi hv=>by
   have e:=aG8 hi;have h1:=hs (i+1);rw[e,az] at h1;simp only[bD hi,ae,aD hi,bd_s];rw[aA (by grind[List.length_append,aO])]) (by simp)]
 have:r.foldl (λs x=>s++x) ([]++a)=a++r.flatten:=by rw[bp,aQh (f:=λx:List Int=>x)];simp
 rw[this];rfl
def aRk (k:Int)(l:List Int)(h:Qa l.length):Te k l=some (bN k l):=by
 grind[bN,pX,aA,bd_s,Te]
def bQa (a b:Int):bAn a b=some (bKd a b):=by simp[bAn,bKd]
def bKy (n:Int):aL6 n=some (jF n):=by simp[aL6,jF]
def aRl (k:Int)(l:List Int)(h:Qb l.length):Sg k l=some (bJ k l):=by unfold Sg;rw[aA (by grind[aO]),aA (by simp;omega),bd_s,bMw (lU _ _).1];rfl
def aRm (k:Int)(l:List Int)(h:Qb l.length):Tq k l=some (bJ k l):=by
 grind[bJ,pX,aA,bd_s,Tq]
def Ny (n:Int):aL3 n=some (dH n):=rfl
def aMi:= @Ny
def Uf (n:Int):Sa n=some (gX n):=by unfold Sa gX;cases dH n<;>rfl
def aRn:= @Uf
def aRo (s:AN):aQz s=some (qE s):=by rfl
def aD3 (s:AN):aDn s=some (bI s):=rfl
def aD4 (s:AN):aDq s=some (bI s):=by rfl
def aG9 (l:List Int)(x:Int)(h:l.length<=1099511627776):aGp l x=some (kL l x):=by unfold aGp;rw[kN (l:=l) (λe=>e==x) (.inl true) (.inr ()) (by omega) (by grind[bD,aD,bd_s]) (by simp)];unfold kL;cases l.any _<;>rfl
def bQb:= @aG9
def bKz (s:List Int)(x:Int):kL s x=s.contains x:=by
 grind[Bool.beq_comm,List.contains_eq_any_beq,kL]
def bIx {s:List Int}{e:AG}(h:(e.Kind==1)=true):sK s e=bif !kL s e.Device then s++[e.Device] else s:=by unfold sK;rw[h,bKz];cases s.contains e.Device<;>rfl
def bIy {s:List Int}{e:AG}(h:(e.Kind==1)=false):sK s e=bif e.Kind==2 then s.filter (λd=>d !=e.Device) else s:=by
 grind[sK]
def aRp (l:List AG)(h:Qa l.length):Sb l=some (aK l):=by
 unfold Sb;rw[gW (l:=l) sK (λi s=>s.length<=i) (λs=>some s) (by omega) (by simp) (by grind[aUi])
  (λrec i s hi hv=>by
   simp only[bD hi,ae,aD hi,bd_s];rw[aA (by omega)];have e:∀x:Int,bF (α:=List Int) FUEL (λa (i8:(List Int×Nat))=>bif (decide ((↑i8.2:Int)<(↑s.length:Int))) then(bd (bd (aN s (↑i8.2:Int)) λ(c:(Int))=>bif (c !=x) then(bd (aN s (↑i8.2:Int)) λ(b:(Int))=>gd (aO i8.1 [b]) (some (i8.1++[b]))) else(some (i8.1))) λ(f:(List Int))=>a ((f,(i8.2+1)))) else(some (i8.1))) ([],0)=some (s.filter λd=>d !=x):=λx=>by
    rw[gW (l:=s) (λq y=>bif y !=x then q++[y] else q) (λi q=>q.length<=i) (λq=>some q) (by omega) (by simp) (λi q hi hv=>by cases(s[i] !=x)<;>simp<;>omega)
     (by grind[bD,aD,bd_s,aA,aO]) (by simp),Wm]
    simp
   rw[e];cases h1:(l[i].Kind==1) with
   |true=>
    have h2:(l[i].Kind==2)=false:=by simp_all
    rw[bIx h1,h2];rw[aA (by grind[aO])];cases kL s l[i].Device<;>rfl
   |false=>
    rw[bIy h1,aA (by grind[aO])];cases(l[i].Kind==2)<;>rfl) (by simp)]
 rfl
def aRq (l:List AG)(h:Qa l.length):Td l=some (aK l):=by
 unfold Td;rw[gW (l:=l) sK (λi s=>s.length<=i) (λs=>some s) (by omega) (by simp) (by grind[aUi])
  (λrec i s hi hv=>by
   simp only[bD hi,ae,aD hi,bd_s];rw[aA (by omega)];have e:∀x:Int,bF (α:=List Int) FUEL (λb (a:(List Int×Nat))=>bif (decide ((↑a.2:Int)<(↑s.length:Int))) then(bd (bd (aN s (↑a.2:Int)) λ(c:(Int))=>bif (c !=x) then(gd (aO a.1 [c]) (some (a.1++[c]))) else(some (a.1))) λ(f:(List Int))=>b ((f,(a.2+1)))) else(some (a.1))) ([],0)=some (s.filter λd=>d !=x):=λx=>by
    rw[gW (l:=s) (λq y=>bif y !=x then q++[y] else q) (λi q=>q.length<=i) (λq=>some q) (by omega) (by simp) (λi q hi hv=>by cases(s[i] !=x)<;>simp<;>omega)
     (by grind[bD,aD,bd_s,aA,aO]) (by simp),Wm]
    simp
   rw[e];cases h1:(l[i].Kind==1) with
   |true=>rw[bIx h1,aA (by grind[aO])];cases kL s l[i].Device<;>rfl
   |false=>
    rw[bIy h1];cases(l[i].Kind==2)<;>rfl) (by simp)]
 rfl
def aRr (w:AA)(d:Int):Tn w d=some (aJ w d):=by unfold Tn aJ;show bd (bif decide (0<=d) then _ else _) _=_;cases decide (0<=d)<;>rfl
def bFd (w:AA)(d:Int)(h:WOk w):aGu w d=some (jS w d):=by
 unfold aGu jS;rw[bIc h];have hl:=fG w.aAH.Log;have a:=h.2.2.1;cases hd:aJ w d with
 |false=>rfl
 |true=>simp only[ae,kP hd,bd_s,aA a,aA (show(aK w.aAH.Log).length<=1099511627776 by omega),cA]
def bFe (w:AA)(d:Int)(h:WOk w):aG3 w d=some (jS w d):=by
 unfold aG3 jS;have hl:=fG w.aAH.Log;have a:=h.2.2.1;cases hd:aJ w d with
 |false=>rfl
 |true=>simp only[ae,kP hd,bd_s,aA a,aA (show(aK w.aAH.Log).length<=1099511627776 by omega),cA]
def bBi (w:AA)(d:Int):U8 w d=some (iT w d):=by unfold U8 iT;show bd (bif decide (0<=d) then _ else _) _=_;cases decide (0<=d)<;>rfl
def bBj (a:AI)(s h:Int):U2 a s h=some (lK a s h):=by unfold U2 lK;cases decide (a.Site<s)<;>cases(a.Site==s)<;>rfl
def aIs (a b:AI):Hu a b=some (dW a b):=by unfold Hu dW;cases decide (a.Site<b.Site)<;>cases(a.Site==b.Site)<;>rfl
def bN6 {l:List AI}{i:Nat}(hi:i<l.length)(hl:Qa l.length){q:AI->Bool}(hq:∀x,q x=dW x l[i]):
  (bif (!bE l[i].Site (0:Int) (2147483646:Int)) then(some (true)) else(bif (!bE l[i].Handle (0:Int) (1000000:Int)) then(some (true)) else(bif (!bE l[i].Version (1:Int) (1000000:Int)) then(some (true)) else(bif (decide ((i:Int)>(0:Int))) then(bd (aN l (IntKind.i64.wrap ((i:Int)-(1:Int)))) λ(a:(AI))=>some (!q a)) else(some (false))))))=some (aLm l i l[i]):=by
 unfold aLm;cases bE l[i].Site 0 2147483646 with
 |false=>rfl
 |true=>
  cases bE l[i].Handle 0 1000000 with
  |false=>rfl
  |true=>
   cases bE l[i].Version 1 1000000 with
   |false=>rfl
   |true=>
    by_cases h0:(i:Int)>0
    ·rw[au h0,aI (by omega) (by omega)];have b:aN l ((i:Int)-1)=some l[i-1]:=by
      grind[aD]
     grind[bd_s,Bool.not_true,default,List.getD,List.getElem?_eq_getElem]
    simp_all
def aV8 (b:AD)(h:Qa b.sz):Zd b=some (aM b):=by
 simp only[AD.sz] at h;unfold Zd aM;rw[fI (l:=b.Entries) (aLm b.Entries) (.inl false) (.inr ()) (by omega) (λrec i hi=>by
  simp only[bD hi,ae,aD hi,bd_s];rw[bN6 hi h (q:=λx=>lK x b.Entries[i].Site b.Entries[i].Handle) (λx=>rfl)];rfl) (by simp)]
 grind[dR,aLm,nx]
def aV9 (b:AD)(h:Qa b.sz):Zl b=some (aM b):=by
 simp only[AD.sz] at h;unfold Zl aM;by_cases a:(b.Entries.length:Int)>20
 ·grind
 ·rw[av a,show decide ((b.Entries.length:Int)<=20)=true from au (by omega),ac];rw[fI (l:=b.Entries) (aLm b.Entries) (.inl false) (.inr ()) (by omega) (λrec i hi=>by
   simp only[bD hi,ae,aD hi,bd_s];rw[bN6 hi h (q:=λx=>dW x b.Entries[i]) (λx=>rfl)];rfl) (by simp)]
  cases dR (aLm b.Entries) 0 b.Entries<;>rfl
def aRs (b:AD)(s h:Int)(a:Qa b.sz):Sj b s h=some (aL b s h):=by simp only[AD.sz] at a;unfold Sj aL;exact L8 (l:=b.Entries) (λ(e:AI)=>e.Site==s&&e.Handle==h) (by omega) (by grind[bD,aD,bd_s]) (by simp)
def Y5 (b:AD)(h:Qa b.sz):P9 b=some (b):=by simp only[AD.sz] at h;unfold P9;rw[aA (by grind[List.length_nil,aO])];rfl
def aMj:= @Y5
theorem bK0 (p:AI->Bool):∀(l:List AI) (i:Nat),i<=(l.takeWhile p).length->(∃hi:i<l.length,p l[i]=true/\i<(l.takeWhile p).length)\/(i=(l.takeWhile p).length/\∀hi:i<l.length,p l[i]=false)
 |[],i,h=> .inr ⟨by simpa using h,λhi=>by simp at hi⟩
 |x::l,i,h=>by
  rw[cR] at h ⊢;cases hp:p x with
  |false=>rw[hp] at h;simp at h;subst h;exact .inr ⟨by simp,λ_=>hp⟩
  |true=>
   rw[hp] at h;simp only[gi,aw] at h ⊢;cases i with
   |zero=>exact .inl ⟨by simp,hp,by omega⟩
   |succ i=>
    rcases bK0 p l i (by omega) with⟨h1,h2,a⟩|⟨h1,h2⟩
    ·exact .inl ⟨by simpa using h1,h2,by omega⟩
    ·exact .inr ⟨by omega,λhi=>h2 (by simpa using hi)⟩
def bSb (p:AI->Bool):∀l:List AI,l.take (l.takeWhile p).length=l.takeWhile p
 |[]=>rfl
 |x::l=>by
  rw[cR];cases p x with
  |false=>rfl
  |true=>simp only[gi,aw,gj];rw[bSb p l]
def bSc (p:AI->Bool):∀l:List AI,l.drop (l.takeWhile p).length=l.dropWhile p
 |[]=>rfl
 |x::l=>by
  rw[cR,List.dropWhile_cons];cases p x with
  |false=>rfl
  |true=>simp only[gi,aw,fk];rw[bSc p l]
def bFf (b:AD)(x:AI)(h:Qe b.sz):aGt b x=some (sM b x):=by
 have d:=h;simp only[AD.sz] at h;unfold aGt sM;rw[aA (by omega),bd_s,aA (by omega),bd_s];by_cases c:aL b x.Site x.Handle>=0
 ·rw[au c,ae,ae];have:=aYr (by assumption);simp_all[jO,aL]
 ·rw[av c,ac,ac];have a:(b.Entries.takeWhile λe=>lK e x.Site x.Handle).length<=b.Entries.length:=(List.takeWhile_sublist _).length_le;rw[Ae (λi s=>i<=(b.Entries.takeWhile λe=>lK e x.Site x.Handle).length/\s=(i:Int)) b.Entries.length (some ((b.Entries.takeWhile λe=>lK e x.Site x.Handle).length:Int)) (s:=(0:Int)) (by omega) ⟨by omega,rfl⟩ (by grind[bK0,bD,aD,bd_s,aI]) (by grind[lK,bd_s]),bd_s];rw[aA ⟨by omega,by simpa using a⟩,aA ⟨by omega,by simpa using a⟩,aA (by grind[aO]),aA (by grind[aO]),aA (by grind[aO])];rw[ci,bp];rw[bSb,bSc]
theorem bUp {l:List AI}{k:Int}(h0:0<=k)(h1:k.toNat<l.length)(x:AI):(bd (aN l k) λ(b:AI)=>bif (decide (x.Version>b.Version)) then(some (true)) else(bd (aN l k) λ(a:AI)=>bif (x.Version==a.Version) then(some (x.Deleted)) else(some (false))))=some (Fs x (l.getD k.toNat default)):=by rw[jO h0 h1,List.getD,aa h1,cV];simp only[bd_s];unfold Fs;cases decide (x.Version>l[k.toNat].Version)<;>cases(x.Version==l[k.toNat].Version)<;>rfl
def aD5 (a b:AD)(h:Qa a.sz/\Qa b.sz):Bq a b=some (nO a b):=by
 unfold Bq nO;rw[aA h.1,bd_s];cases f:aM a with
 |false=>simp[*]
 |true=>
  rw[aA h.2];cases hb:aM b with
  |false=>simp[*]
  |true=>
   obtain⟨n,j⟩:=bKh f;obtain⟨p,k⟩:=bKh hb;rw[aA h.1];simp only[ah,ac,ae,bd_s,dl];rw[bIb (l:=b.Entries) (s0:=a.Entries) (λo x=>dJ o [x]) (λi o=>srt o/\o.length<=20+i) (λo=>some o) (by omega) ⟨j,by omega⟩ (λi o hi hv=>by
     have:=Eu _ o [b.Entries[i]] (ao _)
     grind[bRm,List.length_singleton]) (λrec i o hi hv=>by
     obtain⟨hs,hl⟩:=hv;simp only[bD hi,ae,aD hi,bd_s];rw[aA (by grind[AD.sz]),bd_s,<-bWt hs];have hk:(bif decide (aL ⟨o⟩ b.Entries[i].Site b.Entries[i].Handle<0) then some true else bd (aN o (aL ⟨o⟩ b.Entries[i].Site b.Entries[i].Handle)) λ(m:AI)=>bif (decide (b.Entries[i].Version>m.Version)) then(some (true)) else(bd (aN o (aL ⟨o⟩ b.Entries[i].Site b.Entries[i].Handle)) λ(c:AI)=>bif (b.Entries[i].Version==c.Version) then(some (b.Entries[i].Deleted)) else(some (false))))=some (decide (aL ⟨o⟩ b.Entries[i].Site b.Entries[i].Handle<0)||Fs b.Entries[i] (o.getD (aL ⟨o⟩ b.Entries[i].Site b.Entries[i].Handle).toNat default)):=by
      by_cases d:aL ⟨o⟩ b.Entries[i].Site b.Entries[i].Handle<0
      ·simp[*]
      ·rw[av d,ac];have:=aYr (show 0<=jP (λ(e:AI)=>e.Site==b.Entries[i].Site&&e.Handle==b.Entries[i].Handle) 0 o from by unfold aL at d;simp only at d;omega)
       grind[bUp,aL]
     grind[decide,aL,Fs,default,aA,AD.sz,bd_s]) (by simp)]
   rw[aZt _ _ k,bd_s];have hm:=Eu _ a.Entries b.Entries (ao _);rw[aA (by grind[AD.sz]),bd_s];cases aM ⟨dJ a.Entries b.Entries⟩<;>rfl
def drop_at {l:List AI}{i:Nat}(h:i<l.length):l.drop i=l[i]::l.drop (i+1):=cF h
def bQc (e f:AI){X:Int×Int×Int×Bool->Option (List AI)}:(bd (bd (bif (decide (f.Version>e.Version)) then(some (true)) else(bif (f.Version==e.Version) then(some (f.Deleted)) else(some (false)))) λ(a:Bool)=>bif a then(some (f.Site,f.Handle,f.Version,f.Deleted)) else(some (e.Site,e.Handle,e.Version,e.Deleted))) X)=X ((Ay e f).Site,(Ay e f).Handle,(Ay e f).Version,(Ay e f).Deleted):=by unfold Ay Fs;cases decide (f.Version>e.Version)<;>cases(f.Version==e.Version)<;>cases hd:f.Deleted<;>simp[bd,hd]
def aD6 (a b:AD)(h:Qa a.sz/\Qa b.sz):Cj a b=some (nO a b):=by
 unfold Cj nO;rw[aA h.1,bd_s];cases j:aM a with
 |false=>simp[*]
 |true=>
  rw[aA h.2];cases hb:aM b with
  |false=>simp[*]
  |true=>
   obtain⟨p,q⟩:=bKh j;obtain⟨r,t⟩:=bKh hb;simp only[ah,ac,ae,bd_s,dl];have hm:=Eu _ a.Entries b.Entries (ao _);rw[Ae (λn s=>∃(i k:Nat) (o:List AI),s=((i:Int),(k:Int),o)/\i<=a.Entries.length/\k<=b.Entries.length/\n<=i+k/\o++dJ (a.Entries.drop i) (b.Entries.drop k)=dJ a.Entries b.Entries) (a.Entries.length+b.Entries.length) (some (dJ a.Entries b.Entries)) (s:=((0:Int),(0:Int),([]:List AI))) (by omega) ⟨0,0,[],rfl,by omega,by omega,by omega,rfl⟩ (λn s rec hn hv=>by
     obtain⟨i,k,o,rfl,hi,hk,l,ho⟩:=hv;have m:o.length<=40:=by grind
     have f:∀x:AI,aO o [x]:=(by grind[aO,List.length_singleton]);have wi:IntKind.i64.wrap ((i:Int)+1)=((i+1:Nat):Int):=by grind[aI]
     have wk:IntKind.i64.wrap ((k:Int)+1)=((k+1:Nat):Int):=by grind[aI]
     rcases eu i a.Entries.length with d|d
     ·have ne1:((i:Int)==(a.Entries.length:Int))=false:=by simp;omega
      rw[drop_at d] at ho;rcases eu k b.Entries.length with c|c
      ·have ne2:((k:Int)==(b.Entries.length:Int))=false:=by simp;omega
       rw[drop_at c,aH8] at ho;simp only[bD d,bD c,ae,bd_s,ne2,ac,aD d,aD c,ne1,aA (f _),wi,wk,bQc];cases h1:dW a.Entries[i] b.Entries[k] with
       |true=>rw[h1,ae,<-drop_at c] at ho;exact .inl ⟨_,⟨i+1,k,o++[a.Entries[i]],rfl,by omega,hk,by omega,by rw[<-ho];simp⟩,rfl⟩
       |false=>
        cases h2:dW b.Entries[k] a.Entries[i] with
        |true=>rw[h1,ac,h2,ae,<-drop_at d] at ho;exact .inl ⟨_,⟨i,k+1,o++[b.Entries[k]],rfl,hi,by omega,by omega,by rw[<-ho];simp⟩,rfl⟩
        |false=>rw[h1,ac,h2,ac] at ho;exact .inl ⟨_,⟨i+1,k+1,o++[Ay a.Entries[i] b.Entries[k]],rfl,by omega,by omega,by omega,by rw[<-ho];simp⟩,rfl⟩
      ·have e:k=b.Entries.length:=by omega
       subst e;rw[dk,eQ] at ho;simp only[bD d,ae,bd_s,fg,aD d,aA (f _),wi];exact .inl ⟨_,⟨i+1,_,o++[a.Entries[i]],rfl,by omega,ao _,by omega,by rw[dk,eQ,<-ho];simp⟩,rfl⟩
     ·have e:i=a.Entries.length:=by omega
      subst e;rw[dk,lV] at ho;rcases eu k b.Entries.length with c|c
      ·have ne2:((k:Int)==(b.Entries.length:Int))=false:=by simp;omega
       simp only[uT,ac,bD c,bd_s,ae,ne2,fg,aD c,aA (f _),wk];exact .inl ⟨_,⟨_,k+1,o++[b.Entries[k]],rfl,ao _,by omega,by omega,by rw[dk,lV,<-ho,drop_at c];simp⟩,rfl⟩
      grind[List.drop_length,bd_s]) (by grind[List.drop_length,eQ,bd_s])]
   rw[bd_s,aA (by grind[AD.sz]),bd_s,aA h.1];cases aM ⟨dJ a.Entries b.Entries⟩<;>rfl
def Y6 (l:List AG)(h:Qa l.length):P8 l=some l:=by
 grind[Af,P8]
def bBk:= @Y6
def aRt (l:List Int)(h:Qa l.length):Tg l=some l:=by
 grind[Af,Tg]
def Y7 (d:AF)(h:Qa d.sz):Q0 d=some d:=by simp only[AF.sz] at h;unfold Q0;simp only[aA (show Qa d.Log.length by omega),aA (show Qa d.aAE.sz by simp only[AD.sz];omega),bd_s]
def aMk:= @Y7
def bBl (e:AO)(h:Qa e.sz):Q3 e=some e:=by
 simp only[AO.sz] at h;unfold Q3;rw[aUl (l:=e.Boxes) (by omega) (λrec i s hi hs=>by
  have a:=dU (f:=AK.sz) hi;simp only[AK.sz] at a h;simp only[bD hi,ae,aD hi,bd_s,Af (show Qa (e.Boxes[i].Data.length) by omega),dS hs,bp]) (by simp)]
 rfl
def aRu (l:List AK)(h:Qa (Fu AK.sz l)):Ti l=some l:=by
 unfold Ti;unfold Fu at h;rw[cAf (l:=l) (by omega) (λrec i s hi hs=>by
  have a:=dU (f:=AK.sz) hi;simp only[AK.sz] at a h;simp only[bD hi,ae,aD hi,bd_s,aA (show Qa (l[i].Data.length) by omega),dS hs]) (by simp)]
 rfl
def D7 (e:AO)(h:Qa e.sz):vM e=some e:=by unfold vM;simp only[aA (show Qa (Fu AK.sz e.Boxes) from h),bd_s]
def bBm (e:AJ)(h:Qa e.sz):Q4 e=some e:=by unfold Q4;rw[Af h];rfl
def aMl (e:AJ)(h:Qa e.sz):Mv e=some e:=by unfold Mv;simp only[aA (show Qa e.Data.length from h),bd_s]
def Y8 (c:AP)(h:Qa c.sz):Q5 c=some c:=by simp only[AP.sz] at h;unfold Q5;rw[aUl (l:=c.History) (by omega) (by grind[dU,AJ.sz,bD,aD,bd_s,aA,dS]) (by simp)];simp only[aA (show Qa c.Log.length by omega),aA (show Qa c.Boxes.sz by simp only[AO.sz];omega),bd_s]
def aRv:= @Y8
def Y9 (e:AH)(h:Qa e.sz):Q6 e=some e:=by unfold Q6;rw[Af h];rfl
def aIt:= @Y9
def Z0 (e:AM)(h:Qa e.sz):Q7 e=some e:=by unfold Q7;rw[Af h];rfl
def aWa:= @Z0
def bBn (s:AB)(h:Qa s.sz):Q8 s=some s:=by simp only[AB.sz] at h;unfold Q8;rw[aUl (l:=s.Accounts) (by omega) (by grind[dU,AH.sz,bD,aD,bd_s,aA,dS]) (by simp)];simp only[aA (show Qa s.Book.sz by simp only[AM.sz];omega),bd_s,Af (show Qa s.Logins.length by omega),bp]
def aWb (s:AB)(h:Qa s.sz):Zi s=some s:=by simp only[AB.sz] at h;unfold Zi;rw[aUl (l:=s.Accounts) (by omega) (by grind[dU,AH.sz,bD,aD,bd_s,aA,dS]) (by simp)];simp only[aA (show Qa s.Book.sz by simp only[AM.sz];omega),bd_s,aA (show Kw s.Logins [] by unfold Kw;simp;omega)];simp[pX]
def Z4 (e:AC)(h:Qa e.sz):Q9 e=some e:=by unfold Q9;rw[Af h];rfl
def aWc:= @Z4
def Zv (l:List AC)(h:Qa (Fu AC.sz l)):Yu l=some l:=by
 unfold Yu;unfold Fu at h;rw[cAf (l:=l) (by omega) (λrec i s hi hs=>by
  have a:=dU (f:=AC.sz) hi;simp only[bD hi,ae,aD hi,bd_s,aA (show Qa (l[i].sz) by omega),dS hs]) (λrec s=>by simp only[uT,ac])]
 rfl
def aRw:= @Zv
def Z5 (e:AU)(h:Qa e.sz):R3 e=some e:=by unfold R3;rw[Af h];rfl
def aWd:= @Z5
def bBo (w:AA)(h:Qa w.sz):R4 w=some w:=by
 simp only[AA.sz] at h;unfold R4;rw[aUl (l:=w.Devices) (by omega) (λrec i q hi hs=>by
  have a:=dU (f:=AF.sz) hi;simp only[bD hi,ae,aD hi,bd_s,aA (show Qa (w.Devices[i].sz) by omega),dS hs]) (λrec q=>by simp only[uT,ac]),
  aUl (l:=w.Sites) (by omega) (λrec i q hi hs=>by
  have a:=dU (f:=AB.sz) hi;simp only[bD hi,ae,aD hi,bd_s,aA (show Qa (w.Sites[i].sz) by omega),dS hs]) (λrec q=>by simp only[uT,ac])]
 simp only[bd_s,Af (show Qa w.Stolen.length by omega),aA (show Qa w.aAH.sz by simp only[AP.sz];omega),aA (show Qa (Fu AC.sz w.Hosts) by unfold Fu;omega),aA (show Qa w.Mail.sz by simp only[AU.sz];omega),bp]
def aRx (w:AA)(h:Qa w.sz):Tj w=some w:=by
 simp only[AA.sz] at h;unfold Tj;rw[aUl (l:=w.Devices) (by omega) (by grind[dU,AF.sz,bD,aD,bd_s,aA,dS]) (by simp),
  aUl (l:=w.Sites) (by omega) (by grind[dU,AB.sz,bD,aD,bd_s,aA,dS]) (by simp)]
 simp only[bd_s,Af (show Qa w.Stolen.length by omega),aA (show Qa w.aAH.sz by simp only[AP.sz];omega),aA (show Qa (Fu AC.sz w.Hosts) by unfold Fu;omega),aA (show Qa w.Mail.sz by simp only[AU.sz];omega),bp]
theorem bK1 {F:(Int×Int×Int->Option Int)->Int×Int×Int->Option Int}(a:∀rec (b n s:Int),0<=n->n<9223372036854775807->F rec (b,n,s)=bif decide (n>0) then rec ((IntKind.i64.wrap (b*b)).tmod 2147483647,n/2,bif n%2==1 then(IntKind.i64.wrap (s*b)).tmod 2147483647 else s) else some s):
  ∀(k:Nat) (b n s:Int) (f:Nat),k<f->0<=n->n<2^k->k<=62->bF f F (b,n,s)=some (bT1 k b n s)
 |0,b,n,s,f+1,c,h0,h1,hk=>by
  have:n=0:=by simp at h1;omega
  subst this;rw[gD,a _ _ _ _ (by omega) (by omega)];rfl
 |k+1,b,n,s,f+1,c,h0,h1,hk=>by
  have h2:(2:Int)^(k+1)=2*2^k:=by rw[fm];omega
  have d:n<2^62:=Int.lt_of_lt_of_le h1 (by exact_mod_cast gb (by omega) hk);rw[gD,a _ _ _ _ h0 (by omega)];unfold bT1;by_cases hn:n>0
  ·rw[au hn,ae,cu hn];exact bK1 a k _ (n/2) _ f (by omega) (by omega) (by omega) (by omega)
  ·rw[av hn,ac,cG hn]
def bBp (b n:Int)(h:0<=n/\n<2147483648):tJ b n=some (bT1 31 b n 1):=by
 grind[bK1,Fe,and_one,aHr,bRj,bN4,gd_T,bd_s,aA,FUEL,fA,tJ]
def bFg (b n:Int)(h:0<=n/\n<2147483648)(hb:0<=b/\b<2147483647):fZ b n 2147483647=some (bT1 31 b n 1):=by unfold fZ;rw[show b.tmod 2147483647=b by rw[bv hb.1];omega,show(1:Int).tmod 2147483647=1 by decide,bK1 (by grind[Int.tmod_eq_emod_of_nonneg,Int.tdiv_eq_ediv_of_nonneg,aI,bN4,gd_T,bd_s]) 31 b n 1 FUEL (by grind[fA]) h.1 (by omega) (by omega)];rfl
def aMm (q:Int):Lh q=some (iF q):=by
 unfold Lh iF;rw[bBp _ _ (by decide),bRk,show bE q 1 2147483646=dH q from rfl]
 grind[dH,sG,aI,Bool.not_true,bd_s,bN4,gd_T,Int.tmod_eq_emod_of_nonneg,gX,bE,decide_true,Bool.and_self,bne_self_eq_false]
def aMn (q:Int):Mr q=some (iF q):=by
 unfold Mr iF;rw[bFg _ _ (by decide) (by decide),bRk];cases hk:dH q with
 |false=>rfl
 |true=>
  have hr:=sG hk
  grind[Bool.not_true,bd_s,bN4,gd_T,Int.tmod_eq_emod_of_nonneg,aI]
def aIu (p:Int)(l:List Int)(h:Qb l.length):Gg p l=some (Rh p l):=by unfold Gg Rh;rw[aA (by grind[aO]),aA (by simp;omega)];cases dH p<;>rfl
def aIv (p:Int)(l:List Int)(h:Qb l.length):He p l=some (Rh p l):=by unfold He Rh;rw[aA (by grind),bd_s,aA (by grind[pX])];cases dH p<;>simp[pX]
def tX (q:Int)(l:List Int)(g:Int)(h:Qb l.length):tK q l g=some (kR q l g):=by unfold tK kR;simp only[aA h,bd_s,Ky];cases(iF q !=0)<;>rfl
def Xk:= @tX
def bIz (b:AM)(h:Qa b.Open.length){τ:Type}(rec:Nat->Option τ)(r:Option τ)(i:Nat)(hi:i<b.Open.length):(bd (bif (!bE b.Open[i].Id (0:Int) (IntKind.i64.wrap (b.Next-(1:Int)))) then(some (true)) else(bif (decide ((↑i:Int)>(0:Int))) then(bd (aN (b.Open) (IntKind.i64.wrap ((↑i:Int)-(1:Int)))) λa=>bif (decide (a.Id>=b.Open[i].Id)) then(some (true)) else(bif (!bE b.Open[i].aAF (0:Int) (1000005:Int)) then(some (true)) else(some (!bE b.Open[i].Until (0:Int) (1000005:Int))))) else(bif (!bE b.Open[i].aAF (0:Int) (1000005:Int)) then(some (true)) else(some (!bE b.Open[i].Until (0:Int) (1000005:Int)))))) λc=>bif c then r else(rec (i+1)))=bif gQ b i b.Open[i] then r else rec (i+1):=by
 grind[decide,decide_eq_false,bE,M0,bd_s,decide_eq_true,default,gQ]
def aIw (b:AM)(h:Qa b.sz):Gd b=some (dB b):=by
 simp only[AM.sz] at h;unfold Gd dB;rw[fI (l:=b.Open) (gQ b) (.inl false) (.inr ()) (by omega) (λrec i hi=>by
  simp only[bD hi,ae,aD hi,bd_s];exact bIz b h rec _ i hi) (by simp)]
 rw[show decide ((b.Open.length:Int)<=16)=decide (b.Open.length<=16) from cU.2 (by omega)];cases bE b.Next 0 1000000<;>cases decide (b.Open.length<=16)<;>cases dR (gQ b) 0 b.Open<;>rfl
def aIx (b:AM)(h:Qa b.sz):Gz b=some (dB b):=by
 simp only[AM.sz] at h;unfold Gz dB;rw[fI (l:=b.Open) (gQ b) (.inl false) (.inr ()) (by omega) (λrec i hi=>by
  simp only[bD hi,ae,aD hi,bd_s];exact bIz b h rec _ i hi) (by simp)]
 rw[show decide ((b.Open.length:Int)>16)= !decide (b.Open.length<=16) by rw[<-decide_not];exact cU.2 (by omega)];cases bE b.Next 0 1000000<;>cases decide (b.Open.length<=16)<;>cases dR (gQ b) 0 b.Open<;>rfl
def bI0 (m:AU)(h:Qa m.Notices.length){τ:Type}(rec:Nat->Option τ)(r:Option τ)(i:Nat)(hi:i<m.Notices.length):(bd (bif (!bE m.Notices[i].Kind (1:Int) (5:Int)) then(some (true)) else(bif (!bE m.Notices[i].aAF (0:Int) (1000000:Int)) then(some (true)) else(bif (!bE m.Notices[i].Time (0:Int) (1000000:Int)) then(some (true)) else(bif (decide ((↑i:Int)>(0:Int))) then(bd (aN (m.Notices) (IntKind.i64.wrap ((↑i:Int)-(1:Int)))) λa=>some (decide (a.Time>m.Notices[i].Time))) else(some (false)))))) λb=>bif b then r else(rec (i+1)))=bif wQ m.Notices i m.Notices[i] then r else rec (i+1):=by
 grind[decide,decide_eq_false,bE,M0,bd_s,decide_eq_true,default,wQ]
def D8 (m:AU)(h:Qa m.sz):vC m=some (eH m):=by
 simp only[AU.sz] at h;unfold vC eH;rw[fI (l:=m.Notices) (wQ m.Notices) (.inl false) (.inr ()) (by omega) (λrec i hi=>by
  simp only[bD hi,ae,aD hi,bd_s];exact bI0 m h rec _ i hi) (λrec=>by simp only[uT,ac])]
 rw[show decide ((m.Notices.length:Int)<=30)=decide (m.Notices.length<=30) from cU.2 (by omega)];cases decide (m.Notices.length<=30)<;>cases dR (wQ m.Notices) 0 m.Notices<;>rfl
def D9 (m:AU)(h:Qa m.sz):vL m=some (eH m):=by
 simp only[AU.sz] at h;unfold vL eH;rw[fI (l:=m.Notices) (wQ m.Notices) (.inl false) (.inr ()) (by omega) (λrec i hi=>by
  simp only[bD hi,ae,aD hi,bd_s];exact bI0 m h rec _ i hi) (by simp)]
 rw[show decide ((m.Notices.length:Int)>30)= !decide (m.Notices.length<=30) by rw[<-decide_not];exact cU.2 (by omega)];cases decide (m.Notices.length<=30)<;>cases dR (wQ m.Notices) 0 m.Notices<;>rfl
def Zw (i:Int):Yw i=some (aC i):=by unfold Yw aC;cases i==0<;>cases i==1<;>rfl
def aWe:= @Zw
def Ug (e:AG):aQx e=some (dG e):=by rfl
def aRy:= @Ug
def Z6 (l:List AG)(h:Qa l.length):R7 l=some (jV l):=by
 unfold R7 jV;cases hl:((l.length:Int)==0) with
 |true=>rfl
 |false=>
  have:l.length≠0:=by simp_all
  rw[aI (by omega) (by omega),show(l.length:Int)-1=((l.length-1:Nat):Int) by omega,aD (by omega)];simp[List.getD,aa (show l.length-1<l.length by omega)]
def bBq:= @Z6
def aMo (l:List AG)(p:Int)(h:Qa l.length):Mt l p=some (qA l p):=by unfold Mt;rw[kN (l:=l) (λe=>e.Kind==2&&e.Device==p) (.inl true) (.inr ()) (by omega) (by grind[bD,aD,bd_s]) (by simp)];unfold qA;cases l.any _<;>rfl
def bBr (l:List AV)(p:Int)(i:Nat)(hi:i<=l.length)(h:Qa l.length){F:(Nat->Option ((Bool⊕PUnit)⊕PUnit))->Nat->Option ((Bool⊕PUnit)⊕PUnit)}(a:∀rec j (b:j<i),F rec j=bif (l[j]'(by omega)).Public==p then some (.inl (.inl false)) else rec (j+1))(c:∀rec,F rec i=some (.inr ())):
  bF FUEL F 0=some (bif (l.take i).any (λq=>q.Public==p) then .inl (.inl false) else .inr ()):=by
 have ht:(l.take i).length=i:=by simp[*]
 exact kN (l:=l.take i) (λq=>q.Public==p) _ _ (by omega) (by simp_all) (by simp[*])
def bN7 (a:AH)(h:Qa a.Credentials.length)(i:Nat)(hi:i<a.Credentials.length){τ:Type}{X:Option τ}{r:Option τ}{K:Option τ}(hX:X=bif (a.Credentials.take i).any (λq=>q.Public==a.Credentials[i].Public) then r else K):
  (bd (bif (!bE a.Credentials[i].Handle (0:Int) (1000000:Int)) then(some (true)) else(bif (decide ((↑i:Int)>(0:Int))) then(bd (aN (a.Credentials) (IntKind.i64.wrap ((↑i:Int)-(1:Int)))) λb=>bif (decide (b.Handle>=a.Credentials[i].Handle)) then(some (true)) else(bd (some (iF a.Credentials[i].Public)) λc=>bif (c==(0:Int)) then(some (true)) else(some (!bE a.Credentials[i].Counter (0:Int) (1000000:Int))))) else(bd (some (iF a.Credentials[i].Public)) λb=>bif (b==(0:Int)) then(some (true)) else(some (!bE a.Credentials[i].Counter (0:Int) (1000000:Int)))))) λd=>bif d then r else X)=bif xN a i a.Credentials[i] then r else K:=by
 grind[decide,decide_eq_false,bd_s,bE,iF,M0,decide_eq_true,default,xN]
def E5 (a:AH)(h:Qa a.sz):vB a=some (aS a):=by
 simp only[AH.sz] at h;unfold vB aS;rw[fI (l:=a.Credentials) (xN a) (.inl false) (.inr ()) (by omega) (λrec i hi=>by
  simp only[bD hi,ae,aD hi,bd_s];rw[bBr a.Credentials a.Credentials[i].Public i (by omega) h (by grind[bD,aD,bd_s]) (by simp)];have:=bN7 a h i hi (X:=nx (some (bif (a.Credentials.take i).any (λq=>q.Public==a.Credentials[i].Public) then Sum.inl (Sum.inl false) else Sum.inr PUnit.unit)) λ_=>rec (i+1)) (r:=some (.inl false)) (K:=rec (i+1)) (by cases(a.Credentials.take i).any _<;>rfl);rw[<-this];simp only[bd_s];generalize(bif !bE a.Credentials[i].Handle 0 1000000 then _ else _:Option Bool)=q;cases q with
  |none=>rfl
  |some b=>cases b<;>rfl) (by simp)]
 rw[show decide ((a.Credentials.length:Int)<=8)=decide (a.Credentials.length<=8) from cU.2 (by omega)];cases bE a.Id 0 1000000<;>cases bE a.Minimum 1 3<;>cases decide (a.Credentials.length<=8)<;>cases dR (xN a) 0 a.Credentials<;>rfl
def E8 (a:AH)(h:Qa a.sz):vK a=some (aS a):=by
 simp only[AH.sz] at h;unfold vK aS;rw[fI (l:=a.Credentials) (xN a) (.inl false) (.inr ()) (by omega) (λrec i hi=>by
  have ht:(a.Credentials.take i).length=i:=by grind
  simp only[bD hi,ae,aD hi,bd_s,dC];rw[aA (by grind[gI])];rw[bBr a.Credentials a.Credentials[i].Public i (by omega) h (by grind[bD,aD,bd_s]) (by simp[*])];have:=bN7 a h i hi (X:=nx (some (bif (a.Credentials.take i).any (λq=>q.Public==a.Credentials[i].Public) then Sum.inl (Sum.inl false) else Sum.inr PUnit.unit)) λ_=>rec (i+1)) (r:=some (.inl false)) (K:=rec (i+1)) (by cases(a.Credentials.take i).any _<;>rfl);rw[<-this];simp only[bd_s];generalize(bif !bE a.Credentials[i].Handle 0 1000000 then _ else _:Option Bool)=q;cases q with
  |none=>rfl
  |some b=>cases b<;>rfl) (by simp)]
 rw[show decide ((a.Credentials.length:Int)>8)= !decide (a.Credentials.length<=8) by rw[<-decide_not];exact cU.2 (by omega)];cases bE a.Id 0 1000000<;>cases bE a.Minimum 1 3<;>cases decide (a.Credentials.length<=8)<;>cases dR (xN a) 0 a.Credentials<;>rfl
def wY (s:ByteArray)(hs:Qa s.size):∀(n f i st:Nat) (acc:List ByteArray),s.size-i=n->n+1<f->st<=i->i<=s.size->acc.length<=i->bF f (λc (b:(List ByteArray×Int×Int))=>bif (decide (b.2.2<=(↑s.size:Int))) then(bd (bd (bif (b.2.2==(↑s.size:Int)) then(some (true)) else(bd (aN (bK s) (b.2.2)) λk=>some (k==(46:Int)))) λm=>bif m then(gd (pV s b.2.1 b.2.2) (gd (aO b.1 [s.extract b.2.1.toNat b.2.2.toNat]) (some ((b.1++[s.extract b.2.1.toNat b.2.2.toNat],IntKind.i64.wrap (b.2.2+(1:Int))))))) else(some (b.1,b.2.1))) λ(h:List ByteArray×Int)=>c ((h.1,h.2,IntKind.i64.wrap (b.2.2+(1:Int))))) else(some (b.1))) (acc,(st:Int),(i:Int))=some (acc++(iQ ((s.data.toList.drop st).take (i-st)) (s.data.toList.drop i)).map λl=>(⟨l.toArray⟩:ByteArray))
 |n,f+1,i,st,acc,hn,t,h1,h2,u=>by
  rw[gD];have e0:decide ((i:Int)<=(s.size:Int))=true:=by simpa using(show(i:Int)<=(s.size:Int) by omega)
  have es:pV s (st:Int) (i:Int):=⟨by omega,by omega,by omega⟩;have j:aO acc ([s.extract (st:Int).toNat (i:Int).toNat]:List ByteArray):=by unfold aO;simp;omega
  have d:IntKind.i64.wrap ((i:Int)+1)=((i+1:Nat):Int):=by rw[aI (by omega) (by omega)];omega
  simp only[e0,ae];rcases eu i s.size with a|o
  ·have e:((i:Int)==(s.size:Int))=false:=by simp;omega
   have hd:s.data.toList.drop i=s.data.toList[i]'a::s.data.toList.drop (i+1):=(cF a);have hb:(bK s)[i]'(by rw[iR];exact a)=((s.data.toList[i]'a).toNat:Int):=by simp[bK]
   have hq:(((s.data.toList[i]'a).toNat:Int)==46)=(s.data.toList[i]'a==46):=by
    rw[eS];simp only[cN];constructor
    ·intro q;apply UInt8.toNat_inj.1;show _=46;omega
    ·intro q;rw[q];rfl
   rw[e,ac,bM1 a,bd_s,bd_s,hb,hq,hd,iQ];cases hc:(s.data.toList[i]'a==46) with
   |true=>rw[ae,aA es,aA j,bd_s];dsimp only;rw[d,ae,wY s hs (n-1) f (i+1) (i+1) _ (by omega) (by omega) (ao _) (by omega) (by simp;omega),ci,ci,ext_list];simp
   |false=>
    rw[ac,bd_s];dsimp only;rw[d,ac,wY s hs (n-1) f (i+1) st _ (by omega) (by omega) (by omega) (by omega) (by omega)];have:(s.data.toList.drop st).take (i+1-st)=(s.data.toList.drop st).take (i-st)++[s.data.toList[i]'a]:=by rw[show i+1-st=(i-st)+1 by omega,cJ,eW,show st+(i-st)=i by omega,aa a];rfl
    rw[this]
  ·have e:((i:Int)==(s.size:Int))=true:=by simp;omega
   obtain⟨f,rfl⟩:∃g,f=g+1:=⟨f-1,by omega⟩;have p:s.data.toList.length<=i:=by have:s.data.toList.length=s.size:=rfl;omega
   have r:decide (((i+1:Nat):Int)<=(s.size:Int))=false:=by simp;omega
   rw[e,ae,bd_s,ae,aA es,aA j,bd_s,gD];dsimp only;rw[d];simp only[r,ac];rw[fe p,iQ,ci,ci,ext_list];rfl
def aWf (s:ByteArray)(h:Qa s.size):Yv s=some (bC s):=by
 unfold Yv;have a:=fA;have:=wY s h s.size FUEL 0 0 [] rfl (by omega) (ao _) (cm _) (ao _)
 grind[bC,bd,trans]
def bBs (s:ByteArray)(h:Qa s.size):R5 s=some (xZ s):=by
 unfold R5 xZ;have hb:=iR s;rw[kN (l:=bK s) (λb=> !aLl b) (.inl false) (.inr ()) (by omega) (by grind[bD,bM1,bd_s,bK,aLl,bE,decide]) (by simp[*])];have e:bE (s.size:Int) 1 20=(decide (1<=s.size)&&decide (s.size<=20)):=by unfold bE;congr 1<;>exact cU.2 (by omega)
 rw[e];by_cases h0:0<s.size
 ·rw[show(0:Int)=((0:Nat):Int) from rfl,bM1 h0,aI (by omega) (by omega),show(s.size:Int)-1=((s.size-1:Nat):Int) by omega,bM1 (by omega)];simp only[bd_s,bne,List.getD,aa (show 0<(bK s).length by rw[iR];exact h0),aa (show s.size-1<(bK s).length by rw[iR];omega),cV];cases((bK s)[0]'_==45)<;>cases((bK s)[s.size-1]'_==45)<;>cases decide (1<=s.size)<;>cases decide (s.size<=20)<;>cases(bK s).any _<;>rfl
 simp_all
def bFh (s:ByteArray)(h:Qa s.size):aGo s=some (fB s):=by
 unfold aGo fB;have hl:=M4 s;simp only[aA h,bd_s];rw[kN (l:=bC s) (λl=> !xZ l) (.inl false) (.inr ()) (by omega) (λrec i hi=>by
  have a:Qa ((bC s)[i].size):=bo (Eh s _ (cx _)) h
  grind[bD,aD,bd_s,aA]) (by simp)]
 have e':decide ((s.size:Int)<=60)=decide (s.size<=60):=cU.2 (by omega);rw[e'];cases decide (s.size<=60)<;>cases(bC s).any _<;>rfl
def bFi (s:ByteArray):aGx s=some (fB s):=by
 unfold aGx fB;by_cases a:s.size<=60
 ·have hl:=M4 s;rw[show decide ((s.size:Int)>60)=false from av (by omega),ac,aA (show s.size<4294967281/\1<=(⟨#[UInt8.ofNat 46]⟩:ByteArray).size from⟨by omega,ao _⟩),bd_s];have es:kT s ⟨#[UInt8.ofNat 46]⟩=bC s:=aZr s;rw[es];rw[kN (l:=bC s) (λl=> !xZ l) (.inl false) (.inr ()) (by omega) (λrec i hi=>by
   have c:(bC s)[i].size<=60:=bo (Eh s _ (cx _)) a;simp only[bD hi,ae,aD hi,bd_s]
   revert c
   generalize(bC s)[i]=l;intro c;have hb:=iR l;rw[kN (l:=bK l) (λb=> !aLl b) (.inl (.inl false)) (.inr ()) (by omega) (by grind[bD,bM1,bd_s,bK,aLl,bE,decide]) (by simp[*])];unfold xZ;by_cases h0:0<l.size
   ·rw[show(0:Int)=((0:Nat):Int) from rfl,bM1 h0,aI (by omega) (by omega),show(l.size:Int)-1=((l.size-1:Nat):Int) by omega,bM1 (by omega)];have d:decide ((l.size:Int)<1)= !decide (1<=l.size):=by grind
    have e:decide ((l.size:Int)>20)= !decide (l.size<=20):=by grind
    rw[d,e];simp only[bd_s,bne,List.getD,aa (show 0<(bK l).length by rw[iR];exact h0),aa (show l.size-1<(bK l).length by rw[iR];omega),cV];cases((bK l)[0]'_==45)<;>cases((bK l)[l.size-1]'_==45)<;>cases decide (1<=l.size)<;>cases decide (l.size<=20)<;>cases(bK l).any _<;>rfl
   simp_all) (by simp)]
  rw[show decide (s.size<=60)=true by simpa using a];cases(bC s).any _<;>rfl
 grind
def aIy (s:ByteArray):Gx s=some (bT2 s):=by
 unfold Gx bT2;cases h:fB s with
 |false=>rfl
 |true=>
  have hs:=M5 h;have hp:=aUk s;have es:kT s ⟨#[UInt8.ofNat 46]⟩=bC s:=aZr s;rw[ah,ac,ae,aA (show s.size<4294967281/\1<=(⟨#[UInt8.ofNat 46]⟩:ByteArray).size from⟨by omega,ao _⟩),bd_s,es];rw[show(((bC s).length:Int)==1)=((bC s).length==1) by rw[eS];simp only[cN];omega];cases h1:(bC s).length==1 with
  |true=>rfl
  |false=>
   have h2:(bC s).length≠1:=by simp_all
   have hl:=M4 s;obtain⟨a,c,b,hb,e⟩:=cAd (l:=bC s) (by omega);have c:=Eh s a c;have hb:=Eh s b hb;rw[ac,ac,aI (by omega) (by omega),show((bC s).length:Int)-2=(((bC s).length-2:Nat):Int) by omega,ci];have hd:((bC s).drop ((bC s).length-2)).length=2:=by grind
   have d:(qY ⟨#[UInt8.ofNat 46]⟩ ((bC s).drop ((bC s).length-2))).size<=140737488355328:=by have e:qY ⟨#[UInt8.ofNat 46]⟩ ((bC s).drop ((bC s).length-2))=_:=e;rw[e,ByteArray.size_append,ByteArray.size_append];have:(⟨#[46]⟩:ByteArray).size=1:=rfl;omega
   simp_all[aA,gI,bC]
def bFj (s:ByteArray)(h:s.size<=9223372036854775807):aGy s=some (aC6 s):=by unfold aGy aC6;have hb:=iR s;rw[kN (l:=bK s) (λb=>b==46) (.inl true) (.inr ()) (by omega) (by grind[bD,bM1,bd_s]) (by simp[*])];cases(bK s).any _<;>rfl
def aIz (n:ByteArray)(seed:Int)(h:n.size<=9223372036854775807):Gy n seed=some (nD n seed):=by
 grind[fB,bY8,decide,bC,dH,cDl,bEs,aA,bd_s,Gy,nD]
def bBt (n:ByteArray)(seed:Int)(h:Qa n.size):R6 n seed=some (Fq n seed):=by
 unfold R6 Fq nD;have e:decide (((bC n).length:Int)<2)= !decide (2<=(bC n).length):=by grind
 simp only[aA h,bd_s,e];cases fB n<;>cases decide (2<=(bC n).length)<;>cases dH seed<;>rfl
def aI0 (s:AB)(h:Qa s.sz):Gf s=some (dN s):=by
 simp only[AB.sz] at h;unfold Gf dN;rw[fI (l:=s.Accounts) (Xa s.Accounts) (.inl false) (.inr ()) (by omega) (by grind[dU,AH.sz,bD,aD,bd_s,aA,Xa,M0,decide,decide_eq_true,aS,default,decide_eq_false]) (by simp)];rw[show decide ((s.Accounts.length:Int)<=8)=decide (s.Accounts.length<=8) from cU.2 (by omega)];have a:(!((Fq s.Name s.Book.Seed).Name.toList==(⟨#[]⟩:ByteArray).toList))=nD s.Name s.Book.Seed:=by rw[cDl,bPj,Bool.not_not]
 simp only[aA (show Qa s.Name.size by omega),aA (show Qa s.Book.sz by simp only[AM.sz];omega),bd_s,a];cases nD s.Name s.Book.Seed<;>cases decide (s.Accounts.length<=8)<;>cases dB s.Book<;>cases dR (Xa s.Accounts) 0 s.Accounts<;>rfl
def aI1 (s:AB)(h:Qa s.sz):Ha s=some (dN s):=by simp only[AB.sz] at h;unfold Ha dN;rw[fI (l:=s.Accounts) (Xa s.Accounts) (.inl false) (.inr ()) (by omega) (by grind[dU,AH.sz,bD,aD,bd_s,aA,Xa,M0,decide,decide_eq_true,aS,default,decide_eq_false]) (by simp)];rw[show decide ((s.Accounts.length:Int)>8)= !decide (s.Accounts.length<=8) by rw[<-decide_not];exact cU.2 (by omega)];simp only[aA (show s.Name.size<=9223372036854775807 by omega),aA (show Qa s.Book.sz by simp only[AM.sz];omega),bd_s];cases nD s.Name s.Book.Seed<;>cases decide (s.Accounts.length<=8)<;>cases dB s.Book<;>cases dR (Xa s.Accounts) 0 s.Accounts<;>rfl
def bBu (l:List AG)(e:AG)(h:Qa l.length):R8 l e=some (xO l e):=by unfold R8 xO;have hd:=fG l;rw[kN (l:=l) (λq=>q.Kind==2&&q.Device==e.Device) (.inl false) (.inr ()) (by omega) (by grind[bD,aD,bd_s]) (by simp)];rw[show(l.any λq=>q.Kind==2&&q.Device==e.Device)=qA l e.Device from rfl];simp only[aA h,aA (show(aK l).length<=1099511627776 by omega),aA (show([dG e]:List Int).length<=34359738300 by simp),bd_s,bne];cases(e.Index==(l.length:Int))<;>cases(e.Previous==jV l)<;>cases kL (aK l) e.By<;>cases((l.length:Int)==0)<;>cases(e.By==e.Device)<;>cases kR e.By [dG e] e.Signature<;>cases(e.Kind==2)<;>cases kL (aK l) e.Device<;>cases qA l e.Device<;>cases(e.Kind==1)<;>rfl
def aRz (l:List AG)(h:Qa l.length):Sd l=some (bO l):=by unfold Sd bO;rw[fI (l:=l) (λi e=> !xO (l.take i) e) (.inl false) (.inr ()) (by omega) (by grind[bD,aD,bd_s,dC,aA,gI,List.length_take]) (by simp)];cases dR (λi e=> !xO (l.take i) e) 0 l<;>simp
def aR0 (l:List AG)(h:Qa l.length):Tf l=some (bO l):=by
 unfold Tf bO;rw[fI (l:=l) (λi e=> !xO (l.take i) e) (.inl false) (.inr ()) (by omega) (λrec i hi=>by
  have ht:(l.take i).length=i:=by grind
  have hb:Qa ((l.take i).length):=by omega
  have hd:=fG (l.take i);simp only[bD hi,ae,aD hi,bd_s,dC,aA (show gI l (i:Int) by unfold gI;omega),aA hb,aA (show(aK (l.take i)).length<=1099511627776 by omega),aA (show([dG l[i]]:List Int).length<=34359738300 by simp)];unfold xO;rw[ht];generalize l[i]=e;have h1:decide (((aK (l.take i)).length:Int)>=6)= !decide (((aK (l.take i)).length:Int)<6):=by grind
  have h2:kL (aK (l.take i)) e.Device=true->decide (((aK (l.take i)).length:Int)>1)= !(((aK (l.take i)).length:Int)==1):=(by grind[bWr,Bool.decide_eq_true,aK,decide_not]);simp only[h1,bne];cases d:(e.Kind==2) with
  |true=>
   have a:(e.Kind==1)=false:=by simp_all
   rw[a];cases hd:kL (aK (l.take i)) e.Device with
   |true=>rw[h2 hd];cases(e.Index==(i:Int))<;>cases(e.Previous==jV (l.take i))<;>cases kL (aK (l.take i)) e.By<;>cases((i:Int)==0)<;>cases(e.By==e.Device)<;>cases kR e.By [dG e] e.Signature<;>cases(((aK (l.take i)).length:Int)==1)<;>rfl
   |false=>cases(e.Index==(i:Int))<;>cases(e.Previous==jV (l.take i))<;>cases kL (aK (l.take i)) e.By<;>cases((i:Int)==0)<;>cases(e.By==e.Device)<;>cases kR e.By [dG e] e.Signature<;>rfl
  |false=>
   cases(e.Kind==1) with
   |true=>cases(e.Index==(i:Int))<;>cases(e.Previous==jV (l.take i))<;>cases kL (aK (l.take i)) e.By<;>cases((i:Int)==0)<;>cases(e.By==e.Device)<;>cases kR e.By [dG e] e.Signature<;>cases kL (aK (l.take i)) e.Device<;>cases qA (l.take i) e.Device<;>cases decide (((aK (l.take i)).length:Int)<6)<;>rfl
   |false=>cases(e.Index==(i:Int))<;>cases(e.Previous==jV (l.take i))<;>cases kL (aK (l.take i)) e.By<;>cases((i:Int)==0)<;>cases(e.By==e.Device)<;>cases kR e.By [dG e] e.Signature<;>cases qA (l.take i) e.Device<;>rfl) (by simp)]
 unfold bE;have b:decide ((l.length:Int)<1)= !decide (1<=(l.length:Int)):=by grind
 have c:decide ((l.length:Int)>40)= !decide ((l.length:Int)<=40):=by grind
 rw[b,c];cases decide (1<=(l.length:Int))<;>cases decide ((l.length:Int)<=40)<;>cases dR (λi e=> !xO (l.take i) e) 0 l<;>rfl
def aD7 (w:AA)(h:Qa w.sz):Bi w=some (aH w):=by
 simp only[AA.sz] at h;unfold Bi aH;rw[fI (l:=w.Sites) mK (.inl false) (.inr ()) (by omega) (λrec i hi=>by
  have a:=dU (f:=AB.sz) hi;simp only[bD hi,ae,aD hi,bd_s,aA (show Qa (w.Sites[i].sz) by omega)];unfold mK;cases dN w.Sites[i]<;>cases(w.Sites[i].Name.toList==(aC (i:Int)).toList)<;>rfl) (λrec=>by simp only[uT,ac])]
 simp only[aA (show Qa w.Mail.sz by simp only[AU.sz];omega),aA (show Qa w.aAH.Log.length by omega),bne,bd_s];cases dR mK 0 w.Sites<;>cases bE w.Now 0 999900<;>cases bE (w.Devices.length:Int) 1 6<;>cases((w.Stolen.length:Int)==(w.Devices.length:Int))<;>cases((w.Sites.length:Int)==2)<;>cases eH w.Mail<;>cases bO w.aAH.Log<;>cases dH w.Seed<;>rfl
def aD8 (w:AA)(h:Qa w.sz):Cf w=some (aH w):=by simp only[AA.sz] at h;unfold Cf aH;rw[fI (l:=w.Sites) mK (.inl false) (.inr ()) (by omega) (by grind[dU,AB.sz,bD,aD,bd_s,aA,mK,dN,aC]) (by simp)];simp only[aA (show Qa w.Mail.sz by simp only[AU.sz];omega),aA (show Qa w.aAH.Log.length by omega),bne,bd_s];cases dR mK 0 w.Sites<;>cases bE w.Now 0 999900<;>cases bE (w.Devices.length:Int) 1 6<;>cases((w.Stolen.length:Int)==(w.Devices.length:Int))<;>cases((w.Sites.length:Int)==2)<;>cases eH w.Mail<;>cases bO w.aAH.Log<;>cases dH w.Seed<;>rfl
def bSd (h:AC)(b:Int)(a:Qa h.Saved.length)(h0:0<=b/\b<(h.Saved.length:Int)):aN h.Saved (IntKind.i64.wrap (IntKind.i64.wrap ((h.Saved.length:Int)-1)-b))=some (h.Saved.getD (h.Saved.length-1-b.toNat) default):=by rw[aI (n:=(h.Saved.length:Int)-1) (by omega) (by omega),aI (by omega) (by omega),nP (by omega) (by omega)];congr 2;omega
def aD9 (h:AC)(b:Int)(a:Qa h.sz):Cc h b=some (eT h b):=by
 have hq:=a;simp only[AC.sz] at hq;unfold Cc eT;rw[aA a,bd_s,aLn hq];cases e:(decide (b<0)||decide (b>=(h.Saved.length:Int))) with
 |true=>rfl
 |false=>rw[bSd h b hq (Fv e)];rfl
def aEa (h:AC)(b:Int)(a:Qa h.sz):Cs h b=some (eT h b):=by
 have hq:=a;simp only[AC.sz] at hq;unfold Cs eT;rw[aA a,bd_s,lL,bd_s];cases e:(decide (b<0)||decide (b>=(h.Saved.length:Int))) with
 |true=>rfl
 |false=>rw[bSd h b hq (Fv e)];rfl
def bZy {h:AC}{b:Int}(e:(eT h b).2=false):eT h b=(h,false):=by
 unfold eT at e ⊢;cases q:(decide (b<0)||decide (b>=(h.Saved.length:Int))) with
 |true=>rfl
 |false=>rw[q] at e;cases e
def Z7 (w:AA)(i b:Int)(h:Qa w.sz):yY w i b=some (fU w i b):=by
 have c:=h;simp only[AA.sz] at c;unfold yY fU;rw[aA h,bd_s,aA h,bd_s,aLn (by omega),lL,bd_s];cases e:(!aH w||(decide (i<0)||decide (i>=(w.Hosts.length:Int)))) with
 |true=>rfl
 |false=>
  have a:=Fv (bu.1 e).2;have hi:i.toNat<w.Hosts.length:=by omega
  have hs:=dU (f:=AC.sz) hi;have hg:w.Hosts.getD i.toNat default=w.Hosts[i.toNat]:=by simp[List.getD,aa hi]
  rw[ac,ac,nP a.1 a.2,bd_s,hg,aA (by omega),bd_s,bd_s];cases hr:(eT w.Hosts[i.toNat] b).2 with
  |true=>rfl
  |false=>rw[bZy hr,ac,<-hg,aZu hi]
def Z8 (w:AA)(i b:Int)(h:Qa w.sz):zI w i b=some (fU w i b):=by
 have c:=h;simp only[AA.sz] at c;unfold zI fU;rw[aA h,bd_s,aA h,bd_s,lL,lL,bd_s];cases e:(!aH w||(decide (i<0)||decide (i>=(w.Hosts.length:Int)))) with
 |true=>rfl
 |false=>
  have a:=Fv (bu.1 e).2;have hi:i.toNat<w.Hosts.length:=by omega
  have hs:=dU (f:=AC.sz) hi;have hg:w.Hosts.getD i.toNat default=w.Hosts[i.toNat]:=by simp[List.getD,aa hi]
  rw[ac,ac,nP a.1 a.2,bd_s,hg,aA (by omega),bd_s,bd_s];cases hr:(eT w.Hosts[i.toNat] b).2<;>rfl
def szW {w:AA}(h:w.ok):(∀{k:Option Int},gd (gJ AA.ok w (1048576:Int)) k=k)/\((w.sz<=1048576/\dY w.sz 1048576=1048576-(w.sz:Int))\/dY w.sz 1048576= -1):=by
 refine⟨λ{k}=>aA ⟨h,by unfold szP;omega⟩,?_⟩;unfold dY;by_cases h:(w.sz:Int)<=1048576
 ·exact .inl ⟨by omega,cu h⟩
 ·exact .inr (cG h)
def cDy {n:Nat}{k:Option Bool}(h:n<=1048576):(bif decide ((1048576:Int)-(n:Int)<0) then some true else k)=k:=bEq (av (by omega))
def aR1 (l:List AX)(h:Qa l.length):Sw l=some (Ah l):=by
 unfold Sw Ah;rw[fI (l:=l) (Kh l) (.inl false) (.inr ()) (by omega) (λrec i hi=>by
  simp only[bD hi,ae,aD hi,bd_s,Ky];rw[bZa (λq=>q.Index==l[i].Index) (.inl (.inl false)) (.inr ()) i (by omega) h (λrec j a=>by simp only[bD a,ae,aD (show j<l.length by omega),bd_s]) (λrec=>by simp only[uT,ac])];unfold Kh;cases bE l[i].Index 1 7<;>cases bE l[i].Value 0 1018<;>cases(l.take i).any _<;>rfl) (λrec=>by simp only[uT,ac])]
 cases bE (l.length:Int) 1 7<;>cases dR (Kh l) 0 l<;>rfl
def aR2 (l:List AX):Tx l=some (Ah l):=by
 unfold Tx Ah;cases hr:bE (l.length:Int) 1 7 with
 |false=>rfl
 |true=>
  have hlen:l.length<=7:=by have:=sG hr;omega
  rw[ah,ac,cA];rw[Ae (s:=((0:Nat),false,false,false,false,false,false,false,false)) (λi s=>i<=l.length/\s=(i,cS l i 0,cS l i 1,cS l i 2,cS l i 3,cS l i 4,cS l i 5,cS l i 6,cS l i 7)/\∀(j:Nat) (b:j<l.length),j<i->Kh l j l[j]=false) l.length (some (bif dR (Kh l) 0 l then .inl false else .inr ())) (by omega) ⟨by omega,by simp[cS],λj _ h=>by omega⟩ (λi s rec hi hv=> ?_) (λs rec hv=> ?_)]
  ·cases dR (Kh l) 0 l<;>rfl
  ·obtain⟨_,rfl,c⟩:=hv;have a:Kh l i l[i]=true->dR (Kh l) 0 l=true:=λh=>(qB l 0).2 ⟨i,hi,by rw[cl];exact h⟩;have d:Kh l i l[i]=false->∀(j:Nat) (b:j<l.length),j<i+1->Kh l j l[j]=false:=λh j b m=>by
    rcases eu j i with f|f
    ·exact c j b f
    ·have:j=i:=by omega
     subst this;exact h
   simp only[bD hi,ae,aD hi,bd_s];cases h1:bE l[i].Index 1 7 with
   |false=>exact .inr (by rw[a (by unfold Kh;rw[h1];rfl)];rfl)
   |true=>
    cases h2:bE l[i].Value 0 1018 with
    |false=>exact .inr (by rw[a (by unfold Kh;rw[h1,h2];rfl)];rfl)
    |true=>
     have hk:=sG h1;have hc:Kh l i l[i]=cS l i l[i].Index:=by unfold Kh cS;rw[h1,h2];rfl
     have go:∀n:Int,l[i].Index=n->(cS l i n=true/\dR (Kh l) 0 l=true)\/(cS l i n=false/\∀(j:Nat) (b:j<l.length),j<i+1->Kh l j l[j]=false):=λn e=>by
      cases hb:cS l i n with
      |true=>exact .inl ⟨rfl,a (by rw[hc,e];exact hb)⟩
      |false=>exact .inr ⟨rfl,d (by rw[hc,e];exact hb)⟩
     have hs:=λk=>cE8 (l:=l) (k:=k) hi;simp only[hs];obtain e|e|e|e|e|e|e:l[i].Index=1\/l[i].Index=2\/l[i].Index=3\/l[i].Index=4\/l[i].Index=5\/l[i].Index=6\/l[i].Index=7:=by omega
     all_goals
      rcases go _ e with⟨hb,g⟩|⟨hb,g⟩
      ·exact .inr (by rw[e,g,hb];rfl)
      ·refine .inl ⟨_,⟨by omega,rfl,g⟩,?_⟩;rw[e,hb];simp
  ·obtain⟨_,rfl,c⟩:=hv;have:dR (Kh l) 0 l=false:=by
    cases h:dR (Kh l) 0 l with
    |false=>rfl
    |true=>obtain⟨i,hi,hp⟩:=(qB l 0).1 h;rw[cl,c i hi hi] at hp;cases hp
   simp only[uT,ac,this]
def bK2 (a:Int):bKt a=some (bQ a 1019):=rfl
def bXs:((1019:Int)≠0)=True:=by simp
def bFk (c:Int)(l:List Int)(x:Int)(h:0<=x/\x<=1000/\Qa l.length):aGw c l x=some (aUn c l x):=by
 obtain⟨h1,h2,a⟩:=h;have hr:=aIa ⟨h1,h2⟩ l;have hm:=lS (p:=c) (q:=1019) (by omega);unfold aGw aUn;rw[bM7 (l:=l) (aUm x) some (by omega) (λrec s i hi=>by
  simp only[show decide ((i:Int)>=0)=true from au (by omega),ae,aD hi,bd_s,bXs,gd_T,aI (show-9223372036854775808<=(i:Int)-1 by omega) (by omega)];rfl) (λrec s=>rfl) (aI (by omega) (by omega))]
 simp only[bd_s,bXs,gd_T];rw[aI (by omega) (by omega),bv (by omega)]
def aMp (c:Int)(l:List Int)(x:Int)(h:0<=x/\x<=1000/\Qa l.length):Nq c l x=some (aUn c l x):=by
 obtain⟨h1,h2,a⟩:=h;have hr:=aIa ⟨h1,h2⟩ l;have hm:=lS (p:=c) (q:=1019) (by omega);unfold Nq aUn;rw[bM7 (l:=l) (aUm x) some (by omega) (λrec s i hi=>by
  simp only[show decide ((i:Int)>=0)=true from au (by omega),ae,aD hi,bd_s,bXs,gd_T,aI (show-9223372036854775808<=(i:Int)-1 by omega) (by omega)];rfl) (λrec s=>rfl) (aI (by omega) (by omega))]
 simp only[bd_s];rw[aI (by omega) (by omega),bQ,cu (by omega)]
def bI1 {l:List AX}(h:Ah l=true){i:Nat}(hi:i<l.length):1<=l[i].Index/\l[i].Index<=7:=by
 unfold Ah at h;rw[ab,cn] at h;have hb:Kh l i l[i]=false:=by
  cases hc:Kh l i l[i] with
  |false=>rfl
  |true=>rw[(qB l 0).2 ⟨i,hi,by rw[cl];exact hc⟩] at h;exact absurd h.2 (by simp)
 unfold Kh at hb;rw[bu,dr] at hb;exact sG hb.1
def Z9 (l:List AX)(c:List Int)(h:Qa l.length/\Qa c.length):yX l c=some (iU l c):=by
 unfold yX iU;rw[aA h.1,bd_s];cases a:Ah l with
 |false=>rfl
 |true=>
  rw[ah,ac,cBv (l:=l) (bPl c) (by omega) (λrec i s hi hs=>by
   have:=bI1 a hi;simp only[bD hi,ae,aD hi,bd_s,aA (show 0<=l[i].Index/\l[i].Index<=1000/\Qa c.length by omega),bXs,gd_T,dS hs];rfl) (λrec s=>by simp only[uT,ac])]
  rfl
def aAa (l:List AX)(c:List Int)(h:Qa l.length/\Qa c.length):zH l c=some (iU l c):=by
 unfold zH iU;cases a:Ah l with
 |false=>rfl
 |true=>
  rw[ah,ac,cBv (l:=l) (bPl c) (by omega) (λrec i s hi hs=>by
   have:=bI1 a hi;simp only[bD hi,ae,aD hi,bd_s,aA (show 0<=l[i].Index/\l[i].Index<=1000/\Qa c.length by omega),bXs,gd_T,dS hs];rfl) (λrec s=>by simp only[uT,ac])]
  rfl
def Uh (l:List AC)(h:Qa l.length):Tc l=some (l.map λh=>h.State.aAQ):=by unfold Tc;rw[cBv (l:=l) (λh:AC=>h.State.aAQ) (by omega) (λrec i s hi hs=>by simp only[bD hi,ae,aD hi,bd_s,dS hs]) (λrec s=>by simp only[uT,ac])];rfl
def aWg:= @Uh
def aAb (k:AZ):bAp k=some (qZ k):=rfl
def aWh:= @aAb
def aAc (k:AZ):yT k=some (iM k):=by unfold yT iM;rw[aA (by simp),bd_s];cases Ah [k.aAQ]<;>cases bE k.Epoch 0 1000000<;>cases bE k.Limit 1 10<;>rfl
def aAd (k:AZ):zG k=some (iM k):=by unfold zG iM;cases Ah [k.aAQ]<;>cases bE k.Epoch 0 1000000<;>cases bE k.Limit 1 10<;>rfl
def aEb (h:AC)(s:AX)(a:Qa h.sz):Cb h s=some (aIb h s):=by unfold Cb aIb iW;simp only[aA a,bd_s,aA (show Qa (([s]:List AX).length) by simp)];cases iM h.State<;>cases decide (qZ h.State<h.Monotonic)<;>cases(h.State.Epoch==1000000)<;>cases(s.Index !=h.State.aAQ.Index)<;>cases Ah [s]<;>rfl
def aEc (h:AC)(s:AX)(a:Qa h.sz):Cr h s=some (aIb h s):=by unfold Cr aIb iW;simp only[aA a,bd_s];cases iM h.State<;>cases decide (qZ h.State<h.Monotonic)<;>cases(h.State.Epoch==1000000)<;>cases(s.Index !=h.State.aAQ.Index)<;>cases Ah [s]<;>rfl
def bQd (hs:List AC)(a:List AX)(hl:a.length=hs.length)(t:Qa hs.length){F:(List AC×Nat->Option (List AC×Bool⊕List AC))->List AC×Nat->Option (List AC×Bool⊕List AC)}
  (m:∀rec i s (hi:i<hs.length) (d:i<a.length),Qa s.length->F rec (s,i)=bif iW hs[i] a[i] then some (.inl (hs,false)) else rec (s++[Ai hs[i] a[i]],i+1)) (o:∀rec s,F rec (s,hs.length)=some (.inr s)):
  nx (bF FUEL F ([],0)) (λz=>some (z,true))=some (bif (hs.zip a).any (λp=>iW p.1 p.2) then(hs,false) else(List.zipWith Ai hs a,true)):=by
 have hb:∀i (hi:i<hs.length),iW hs[i] (a[i]'(by omega))=true->(hs.zip a).any (λp=>iW p.1 p.2)=true:=λi hi h=>by
  refine fi.2 ⟨(hs[i],a[i]'(by omega)),?_,h⟩;have:=cx (l:=hs.zip a) (n:=i) (by simp;omega);rwa [List.getElem_zip] at this
 have ht:∀i (hi:i<hs.length),List.zipWith Ai (hs.take (i+1)) (a.take (i+1))=List.zipWith Ai (hs.take i) (a.take i)++[Ai (hs[i]'(by omega)) (a[i]'(by omega))]:=λi hi=>by
  rw[cJ,cJ,aa hi,aa (show i<a.length by omega)];simp only[cX];rw[List.zipWith_append (by simp;omega)];rfl
 have key:=Ae (F:=F) (s:=([],0)) (λi s=>i<=hs.length/\s=(List.zipWith Ai (hs.take i) (a.take i),i)/\∀j (d:j<hs.length),j<i->iW hs[j] (a[j]'(by omega))=false) hs.length (some (bif (hs.zip a).any (λp=>iW p.1 p.2) then .inl (hs,false) else .inr (List.zipWith Ai hs a))) (by omega) ⟨by omega,by simp,λj _ h=>by omega⟩ (λi s rec hi hv=> ?_) (λs rec hv=> ?_)
 ·rw[key];cases(hs.zip a).any _<;>rfl
 ·obtain⟨_,rfl,f⟩:=hv;rw[m rec i _ hi (by omega) (by simp;omega)];cases hc:iW hs[i] (a[i]'(by omega)) with
  |true=>exact .inr (by rw[hb i hi hc];rfl)
  |false=>
   refine .inl ⟨_,⟨hi,by rw[ht i hi],λj d q=> ?_⟩,rfl⟩;rcases eu j i with k|k
   ·exact f j d k
   ·have:j=i:=by omega
    subst this;exact hc
 ·obtain⟨_,rfl,f⟩:=hv;have hn:(hs.zip a).any (λp=>iW p.1 p.2)=false:=by
   cases h:(hs.zip a).any (λp=>iW p.1 p.2) with
   |false=>rfl
   |true=>
    obtain⟨x,r,b⟩:=fi.1 h;obtain⟨i,hi,e⟩:=gl r;rw[List.getElem_zip] at e;have c:i<hs.length:=by simp at hi;omega
    rw[<-e] at b;simp only at b;rw[f i c c] at b;cases b
  rw[o,hn,cq,<-hl,cq];rfl
def Oa (hs:List AC)(c:List Int)(h:Qa (Fu AC.sz hs)/\Qa c.length):Mk hs c=some (fC hs c):=by
 obtain⟨h1,h2⟩:=h;have h0:Qa hs.length:=by unfold Fu at h1;omega
 have hr:=bM8 (hs.map λh=>h.State.aAQ) c;unfold Mk fC bPm;rw[aA h0,bd_s,aA ⟨by simpa using h0,h2⟩,bd_s,aA h1];cases he:((iU (hs.map λh=>h.State.aAQ) c).length:Int)==0 with
 |true=>rfl
 |false=>
  have hl:=bM9 (l:=hs.map λh=>h.State.aAQ) (c:=c) (by simpa using he);rw[bn] at hl;rw[ac,cy,bQd hs _ hl h0 (λrec i s hi b a=>by
   have d:=dU (f:=AC.sz) hi;unfold Fu at h1;simp only[bD hi,ae,aD hi,aD b,bd_s,aA (show Qa (hs[i].sz) by omega),dS a];unfold aIb;cases iW hs[i] (iU (hs.map λh=>h.State.aAQ) c)[i]<;>rfl) (λrec s=>by simp only[uT,ac])]
def aMq:= @Oa
def aR3 (w:AA){F:(List Int×Int->Option (List Int))->List Int×Int->Option (List Int)}
  (a:∀rec (s:List Int) (k:Int),s.length<=100->0<=k->k<=100->F rec (s,k)=bif decide (k<w.aAP.Threshold)&&decide (k<=7) then rec (s++[bJ w.Seed [317,w.Now,k]],k+1) else some s):
  ∀(n f:Nat) (k:Int) (s:List Int),n<f->k=9-(n:Int)->n<=8->s.length<=100-n->bF f F (s,k)=some (s++aLo w n k)
 |0,f+1,k,s,b,hk,_,hs=>by
  rw[gD,a _ _ _ (by omega) (by omega) (by omega),show decide (k<=7)=false from av (by omega),dm,ac];unfold aLo;simp
 |n+1,f+1,k,s,b,hk,hn,hs=>by
  rw[gD,a _ _ _ (by omega) (by omega) (by omega)];unfold aLo;cases(decide (k<w.aAP.Threshold)&&decide (k<=7)) with
  |true=>rw[ae,ae,aR3 w a n f _ _ (by omega) (by omega) (by omega) (by simp;omega)];simp
  |false=>simp
def aMr (w:AA)(h:Qa w.sz):Ml w=some (fD w):=by
 have a:=h;simp only[AA.sz] at a;have hc:=aQk w 8 1;unfold Ml fD;rw[aA h,bd_s,aR3 w (λrec s k h1 h2 b=>by
  rw[aA (by simp),bd_s,dS (s:=s) (by omega),aI (by omega) (by omega),aZv,bd_s]) 8 FUEL 1 [] (by have:=fA;omega) rfl (by omega) (by simp),bd_s,bp,aA ⟨by unfold Fu;omega,by omega⟩,bd_s,aA h,bd_s]
 unfold bIe;cases aH w<;>cases(fC w.Hosts (aLo w 8 1)).2<;>rfl
def aMs (w:AA)(h:Qa w.sz):Nr w=some (fD w):=by
 have a:=h;simp only[AA.sz] at a;have hc:=aQk w 8 1;unfold Nr fD;rw[aA h,bd_s,aA h,bd_s,aR3 w (λrec s k h1 h2 b=>by
  rw[aA (by simp),bd_s,dS (s:=s) (by omega),aI (by omega) (by omega),aZv,bd_s]) 8 FUEL 1 [] (by have:=fA;omega) rfl (by omega) (by simp),bd_s,bp,aA ⟨by unfold Fu;omega,by omega⟩,bd_s]
 unfold bIe;cases aH w<;>cases(fC w.Hosts (aLo w 8 1)).2<;>rfl
def Ig (b:List Int)(h:Qe b.length):Gi b=some (A9 b):=by unfold Gi A9;rw[cDn (l:=b) IntKind.i64.wrap (by simp;omega) (by grind[bD,aD,bd_s,dS]) (by simp)];rfl
def aI2:= @Ig
def Ui (k:Int)(s:ByteArray)(h:Qb s.size):rE k s=some (pY k s):=by have hb:=iR s;unfold rE pY;rw[aYb,aA (by omega),bd_s,aA (by rw[bRq];omega),bd_s,bMw (lU _ _).1]
def Uj (k:Int)(s:ByteArray)(h:Qb s.size):rJ k s=some (pY k s):=by have hb:=iR s;unfold rJ pY;rw[aYb,aA (by omega),bd_s,aA (by rw[bRq];omega),bd_s]
def Zx (s:ByteArray)(h:Qb s.size):Yz s=some (cO s):=by unfold Yz;rw[aA h];rfl
def aWi:= @Zx
def aR4 (b:AD)(s h:Int)(a:Qa b.sz):Tv b s h=some (aL b s h):=by simp only[AD.sz] at a;unfold Tv aL;rw[L8 (l:=b.Entries) (λe=>e.Site==s&&e.Handle==h) (by omega) (by grind[bD,aD,bd_s]) (by simp)]
theorem aYi {b:AD}{s h:Int}(d:decide (aL b s h>=0)=true):aN b.Entries (aL b s h)=some (b.Entries.getD (aL b s h).toNat default)/\(aL b s h).toNat<b.Entries.length/\(b.Entries.getD (aL b s h).toNat default).Site=s/\(b.Entries.getD (aL b s h).toNat default).Handle=h:=by
 have h0:=of_decide_eq_true d;obtain⟨l1,e,l2,f,c,a⟩:=aQj (p:=λe:AI=>e.Site==s&&e.Handle==h) (l:=b.Entries) (i:=0) h0;have a:aL b s h=((0+l1.length:Nat):Int):=a;rw[cl] at a;have hl:l1.length<b.Entries.length:=by simp[*]
 have hg:b.Entries.getD l1.length default=e:=by simp[*]
 rw[a,ci,hg];simp only[ab,cN] at c;refine⟨?_,hl,c.1,c.2⟩;rw[aD hl];have:b.Entries[l1.length]=e:=by simp[*]
 rw[this]
theorem bK3 (b:AD)(x:AI):(sM b x).Entries.length<=b.Entries.length+1:=by
 grind[decide,aL,List.length,List.takeWhile_append_dropWhile,lK,List.length_append,List.length_singleton,sM]
def aWj (b:AD)(s h:Int)(a:Qe b.sz):Ze b s h=some (aZw b s h):=by
 have hq:=a;simp only[AD.sz] at hq;have hs:=bK3 b (uU b s h);unfold Ze aZw;have c:Qa ((sM b (uU b s h)).sz):=by grind[AD.sz]
 rw[aA (by omega),aA (by omega)];simp only[aA (show Qe b.sz from a),aA (show Qa b.sz by omega),bd_s];cases d:decide (aL b s h>=0) with
 |true=>
  obtain⟨h1,h2,_,_⟩:=aYi d;have hv:uU b s h=⟨s,h,IntKind.i64.wrap ((b.Entries.getD (aL b s h).toNat default).Version+1),false⟩:=by grind[uU,bWv]
  rw[ae,h1,bd_s];cases hd:(b.Entries.getD (aL b s h).toNat default).Deleted with
  |false=>rfl
  |true=>rw[bd_s,ah,ac,nx_r,<-hv,aA c];cases aM b<;>cases aM (sM b (uU b s h))<;>rfl
 |false=>
  have hv:uU b s h=⟨s,h,1,false⟩:=by grind[uU,bWv]
  rw[ac,nx_r,<-hv,aA c];cases aM b<;>cases aM (sM b (uU b s h))<;>rfl
theorem bQe {α:Type}{p:α->Bool}{l:List α}:(l.takeWhile p).length<=l.length:=by
 grind[List.length_append,List.length,List.takeWhile_append_dropWhile]
def cDz {α:Type}{p:α->Bool}{l:List α}:l.takeWhile p=l.take (l.takeWhile p).length/\l.dropWhile p=l.drop (l.takeWhile p).length:=by
 grind[List.drop_left,List.take_left,List.drop,List.take,List.takeWhile_append_dropWhile]
def bXt (b:AD)(x:AI)(a:Qe b.Entries.length){F:(Int->Option Int)->Int->Option Int}
  (c:∀rec i (hi:i<b.Entries.length),F rec (i:Int)=bif dW b.Entries[i] x then rec (((i+1:Nat):Int)) else some (i:Int)) (d:∀rec,F rec (b.Entries.length:Int)=some (b.Entries.length:Int)):bF FUEL F 0=some (((b.Entries.takeWhile λe=>lK e x.Site x.Handle).length:Nat):Int):=by
 refine Ae (λi s=>i<=(b.Entries.takeWhile λe=>lK e x.Site x.Handle).length/\s=(i:Int)) (b.Entries.takeWhile λe=>lK e x.Site x.Handle).length _ (by grind[bQe,lK]) ⟨by omega,rfl⟩ (λi s rec hi hv=> ?_) (λs rec hv=> ?_)
 all_goals grind[bK0,lK,Nat.lt_or_ge,dW,bQe]
def aWk (b:AD)(s h:Int)(f:Qe b.sz):Zm b s h=some (aZw b s h):=by
 have hq:=f;simp only[AD.sz] at hq;have hs:=bK3 b (uU b s h);have c:Qa ((sM b (uU b s h)).sz):=by grind[AD.sz]
 unfold Zm aZw;simp only[aA (show Qa b.sz by omega),bd_s];cases hb:aM b with
 |false=>simp
 |true=>
  rw[ah,ac];cases d:decide (aL b s h>=0) with
  |true=>
   obtain⟨h1,h2,i,j⟩:=aYi d;have h0:=of_decide_eq_true d;have hv:uU b s h=⟨s,h,IntKind.i64.wrap ((b.Entries.getD (aL b s h).toNat default).Version+1),false⟩:=by grind[uU,bWv]
   have a:sM b (uU b s h)=⟨b.Entries.set (aL b s h).toNat (uU b s h)⟩:=by
    grind[uU,sM]
   rw[ae,h1,bd_s];cases hd:(b.Entries.getD (aL b s h).toNat default).Deleted with
   |false=>rfl
   |true=>rw[bd_s,ah,ac];rw[jO h0 (by rw[ay];exact h2),bd_s,ga,bd_s,nx_r,eK,i,j,<-hv,<-a,aA c,bd_s];cases aM (sM b (uU b s h))<;>rfl
  |false=>
   have hv:uU b s h=⟨s,h,1,false⟩:=by grind[uU,bWv]
   have a:sM b (uU b s h)=⟨b.Entries.takeWhile (λe=>lK e s h)++[uU b s h]++b.Entries.dropWhile (λe=>lK e s h)⟩:=by
    grind[uU,sM]
   have hl:=bQe (p:=λe=>lK e s h) (l:=b.Entries);obtain⟨k,m⟩:=cDz (p:=λe=>lK e s h) (l:=b.Entries);rw[<-hv,ac,bXt b (uU b s h) hq (by grind[bD,aD,bd_s,aI]) (by simp)];rw[show(uU b s h).Site=s from rfl,show(uU b s h).Handle=h from rfl,bd_s,dC];rw[aA (by grind[gI]),aA (by grind[gI]),aA (by grind[aO]),aA (by grind[aO]),aA (by grind[aO]),nx_r,bp,<-k,<-m,<-a,aA c,bd_s];cases aM (sM b (uU b s h))<;>rfl
def WOk.of' {w:AA}(h:Qa w.sz):WOk w:=by
 grind[WOk,AA.sz]
def aWl (w:AA)(d:Int)(h:Qa w.sz):Zb w d=some (aH w&&aJ w d):=by unfold Zb;rw[aA h,bd_s,bIc (WOk.of' h),aZv,bd_s]
def aI3 (b:AD)(s h:Int)(a:Qe b.sz):Gt b s h=some (aZx b s h):=by
 grind[aM,aL,decide_eq_true,aYi,decide_eq_false,bd_s,default,bNa,aA,Gt,aZx]
def bXu {l l':List AI}{i:Nat}{e e':AI}(he:e'.Site=e.Site/\e'.Handle=e.Handle)(hp:(l'.getD (i-1) default).Site=(l.getD (i-1) default).Site/\(l'.getD (i-1) default).Handle=(l.getD (i-1) default).Handle)(h:aLm l i e=false):aLm l' i e'= !bE e'.Version 1 1000000:=by unfold aLm at h ⊢;rw[bu,bu,bu] at h;obtain⟨h1,h2,b,a⟩:=h;rw[he.1,he.2,h1,h2,aZs he,aC8 hp,a];simp
def cCe {b:AD}{j:Nat}{x:AI}(c:j<b.Entries.length)(d:x.Site=b.Entries[j].Site/\x.Handle=b.Entries[j].Handle)(h:aM b=true):aM ⟨b.Entries.set j x⟩=bE x.Version 1 1000000:=by
 unfold aM at h ⊢;rw[ab,cn] at h;obtain⟨h1,h2⟩:=h;rw[ay,h1,cA];have hg:∀i,((b.Entries.set j x).getD i default).Site=(b.Entries.getD i default).Site/\((b.Entries.set j x).getD i default).Handle=(b.Entries.getD i default).Handle:=(by grind[List.getD,List.getElem?_set_self,List.getElem?_eq_getElem,List.getElem?_set_ne]);have h2:=aH9.1 h2;have hb:∀(i:Nat) (hi:i<(b.Entries.set j x).length),aLm (b.Entries.set j x) i (b.Entries.set j x)[i]= !bE (b.Entries.set j x)[i].Version 1 1000000:=λi hi=>by
  have a:i<b.Entries.length:=by simp_all
  have g:=hg i;simp only[List.getD,aa hi,aa a,cV] at g;exact bXu g (hg (i-1)) (h2 i a)
 have hv:∀(i:Nat) (hi:i<b.Entries.length),bE b.Entries[i].Version 1 1000000=true:=(by grind[aLm,Bool.or_eq_false_iff])
 grind[bE,Bool.not_eq_true',aH9,List.getElem_set_self,List.getElem_set_ne,Bool.not_eq_false',qB]
def bQf {b:AD}(h:aM b=true){i:Nat}(hi:i<b.Entries.length):bE b.Entries[i].Version 1 1000000=true:=by
 grind[Bool.or_eq_false_iff,aLm,aH9,Bool.not_eq_true',aM]
def aI4 (b:AD)(s h:Int)(d:Qe b.sz):Hz b s h=some (aZx b s h):=by
 have hq:=d;simp only[AD.sz] at hq;unfold Hz aZx;simp only[aA (show Qa b.sz by omega),bd_s];cases hb:aM b with
 |false=>rfl
 |true=>
  by_cases e:aL b s h<0
  ·simp[*]
  ·have a:decide (aL b s h>=0)=true:=au (by omega);obtain⟨h1,h2,f,i⟩:=aYi a;have c:sM b (bNa b s h)=⟨b.Entries.set (aL b s h).toNat (bNa b s h)⟩:=by
    grind[bNa,sM]
   have hg:b.Entries.getD (aL b s h).toNat default=b.Entries[(aL b s h).toNat]:=by simp[*]
   have j:=cCe (x:=bNa b s h) h2 ⟨by rw[<-hg,f];rfl,by rw[<-hg,i];rfl⟩ hb;have hv:=bQf hb h2;rw[av e,h1]
   grind[aL,default,bNa,jO,List.length_set,List.getElem_set_self,bd_s,List.set_set,sM,bK3,AD.sz,aA,sG,aI,bE,decide_eq_true]
def aEd (d:AF)(n:ByteArray)(h:Int)(rm:Bool)(a:Qe d.sz/\Qb n.size):Bu d n h rm=some (cB d n h rm):=by
 obtain⟨h1,h2⟩:=a;have hb:Qe d.aAE.sz:=by grind[AF.sz,AD.sz]
 unfold Bu cB Xb;simp only[aA (show Qa d.sz by omega),aA h2,aA hb,bd_s];cases rm with
 |true=>simp only[ae,bd_s];cases(aZx d.aAE (cO n) h).2<;>rfl
 |false=>simp only[ac,bd_s];cases(aZw d.aAE (cO n) h).2<;>rfl
def aEe (d:AF)(n:ByteArray)(h:Int)(rm:Bool)(a:Qe d.sz/\Qb n.size):Cm d n h rm=some (cB d n h rm):=by
 obtain⟨h1,h2⟩:=a;have hb:Qe d.aAE.sz:=by grind[AF.sz,AD.sz]
 unfold Cm cB Xb;simp only[aA (show Qa d.sz by omega),aA h2,aA hb,bd_s];cases rm<;>simp
theorem bI2 {w:AA}{d:Int}(h:aJ w d=true):0<=d/\d.toNat<w.Devices.length/\(aQ w d).sz<=w.sz/\aQ w d=w.Devices.getD d.toNat default:=by
 simp only[aJ,ab,cg] at h;have hi:d.toNat<w.Devices.length:=by omega
 have:=Ej (f:=AF.sz) hi;refine⟨h.1,hi,?_,rfl⟩;show(w.Devices.getD d.toNat default).sz<=_
 grind[AA.sz]
def bUq {d:AF}{n:ByteArray}{h:Int}{rm:Bool}(e:(cB d n h rm).2=false):cB d n h rm=(d,false):=by
 grind[Xb,cB]
def aMt (w:AA)(d:Int)(n:ByteArray)(h:Int)(rm:Bool)(a:Qb w.sz/\Qb n.size):Mg w d n h rm=some (Ri w d n h rm):=by
 obtain⟨h1,h2⟩:=a;unfold Mg Ri;rw[aA (show Qa w.sz by omega),bd_s,aA (show Qa w.sz by omega),bd_s];cases hc:(aH w&&aJ w d) with
 |false=>rfl
 |true=>
  have hd:=(Bool.and_eq_true_iff.1 hc).2;obtain⟨k1,k2,k3,k4⟩:=bI2 hd;rw[ah,ac,ae,kP hd,bd_s,aA ⟨by omega,h2⟩,bd_s,bd_s];cases e:(cB (aQ w d) n h rm).2 with
  |true=>rfl
  |false=>rw[bUq e,ac,k4,aZu k2]
def aMu (w:AA)(d:Int)(n:ByteArray)(h:Int)(rm:Bool)(a:Qb w.sz/\Qb n.size):Nk w d n h rm=some (Ri w d n h rm):=by
 obtain⟨h1,h2⟩:=a;unfold Nk Ri;rw[aA (by omega),bd_s,aA (by omega),bd_s,lL,bd_s,<-Bool.not_and]
 grind[aH,aJ,k1,k2,k3,k4,bI2,Bool.not_true,kP,bd_s,aA,cB,aQ]
def aAe (l:List AG)(h:Qa l.length):S9 l=some (bA l):=by unfold S9;rw[gW (l:=l) (λn e=>bif e.Kind==2 then IntKind.i64.wrap (n+1) else n) (λ_ _=>True) (λs=>some s) (by omega) trivial (by simp) (by grind[bD,aD,bd_s]) (by simp)];rfl
def bBv:= @aAe
def aHa (p e:Int):bEz p e=some (kQ p e):=by rfl
def bFl:= @aHa
def bFm (k:Int)(b:AK)(h:Qc b.Data.length):aGs k b=some (aVd k b):=by
 grind[aA,bd_s,aO,A9,aGs,aVd]
def bFn (k:Int)(b:AK)(h:Qc b.Data.length):aG2 k b=some (aVd k b):=by
 grind[pX,aA,bd_s,A9,aG2,aVd]
def aR5 {α β:Type}{y:Nat->α->β}:∀{l:List α} {j i:Nat} (hi:i<l.length),aDd (λi x=>[y i x]) j (l.take (i+1))=aDd (λi x=>[y i x]) j (l.take i)++[y (j+i) l[i]]
 |x::xs,j,0,_=>by simp[aDd]
 |x::xs,j,i+1,hi=>by
  have:=aR5 (y:=y) (l:=xs) (j:=j+1) (i:=i) (by simpa using hi);simp only[gj,aDd,fR,this,cH,bp];rw[show j+1+i=j+(i+1) by omega]
def bSe {k:Int}{b:List Int}(hl:Qa b.length){F:(List Int×Nat->Option (List Int))->List Int×Nat->Option (List Int)}
  (a:∀rec i s (hi:i<b.length),Qa s.length->F rec (s,i)=rec (s++[bMx k i b[i]],i+1)) (c:∀rec s,F rec (s,b.length)=some s):bF FUEL F ([],0)=some (aZp k b):=by
 refine Ae (λi s=>i<=b.length/\s=(aDd (λi z=>[bMx k i z]) 0 (b.take i),i)) b.length _ (by omega) ⟨by omega,by simp[aDd]⟩ (λi s rec hi hv=> ?_) (λs rec hv=> ?_)
 ·obtain⟨_,rfl⟩:=hv;refine .inl ⟨_,⟨hi,rfl⟩,?_⟩;rw[a rec i _ hi (by rw[L9,cb];omega),aR5 hi,cl]
 ·obtain⟨_,rfl⟩:=hv;rw[c,cq];rfl
def bBw (k:Int)(b:List Int)(h:Qa b.length):T9 k b=some (aZp k b):=by unfold T9;rw[bSe (k:=k) h (by grind[bWq,bD,aD,bd_s,aA,gd_T,dS]) (by simp)];rfl
def bBx (k:Int)(b:List Int)(h:Qa b.length):U9 k b=some (aZp k b):=by unfold U9;rw[bSe (k:=k) h (by grind[bWp,bD,aD,bd_s,aA,dS]) (by simp)];rfl
def aAf (p:Int)(b:AK):U0 p b=some (kV p b):=by
 grind[decide,decide_eq_true,dH,gX,aA,bd_s,decide_eq_false,aVd,kQ,U0,kV]
def bK4 {bs:List AK}{p:Int}(hl:Qa bs.length){F:(Nat->Option ((List Int×Bool)⊕PUnit))->Nat->Option ((List Int×Bool)⊕PUnit)}
  (a:∀rec i (hi:i<bs.length),F rec i=bif (kV p bs[i]).2 then some (.inl ((kV p bs[i]).1,true)) else rec (i+1)) (b:∀rec,F rec bs.length=some (.inr ())):nx (bF FUEL F 0) (λ_=>some (([]:List Int),false))=some (jT bs p):=by
 have go:∀(k i n:Nat),i+k=bs.length->k<n->nx (bF n F i) (λ_=>some (([]:List Int),false))=some (jT (bs.drop i) p):=by
  intro k;induction k with
  |zero=>
   intro i n hk hn;obtain⟨n,rfl⟩:∃m,n=m+1:=⟨n-1,by omega⟩;have:i=bs.length:=by omega
   subst this;rw[gD,b,dk];rfl
  |succ k c=>
   intro i n hk hn;obtain⟨n,rfl⟩:∃m,n=m+1:=⟨n-1,by omega⟩;have hi:i<bs.length:=by omega
   rw[gD,a _ i hi,cF hi,jT];cases(kV p bs[i]).2 with
   |true=>rfl
   |false=>grind
 exact go bs.length 0 FUEL (by omega) (by grind[fA])
def aAg (bs:List AK)(p:Int)(h:Qa bs.length):U1 bs p=some (jT bs p):=by unfold U1;exact bK4 h (by grind[bD,aD,bd_s]) (by simp)
def bBy:= @aAf
def bBz:= @aAg
theorem bB0 {c:AP}{b:Int}(a:Qa c.sz)(h0:0<=b/\b<(c.History.length:Int)):aN c.History (IntKind.i64.wrap (IntKind.i64.wrap ((c.History.length:Int)-1)-b))=some (c.History.getD (c.History.length-1-b.toNat) default)/\Qa ((c.History.getD (c.History.length-1-b.toNat) default).sz):=by simp only[AP.sz] at a;have h1:=Ej (f:=AJ.sz) (l:=c.History) (i:=c.History.length-1-b.toNat) (by omega);refine⟨?_,by omega⟩;rw[aI (n:=(c.History.length:Int)-1) (by omega) (by omega),aI (by omega) (by omega),nP (by omega) (by omega)];congr 2;omega
def aI5 (c:AP)(b:Int)(a:Qa c.sz):Gp c b=some (kI c b):=by
 grind[decide,bB0,Fv,bd_s,aA,aLn,AP.sz,Gp,kI]
def aI6 (c:AP)(b:Int)(a:Qa c.sz):Hr c b=some (kI c b):=by
 grind[decide,bB0,Fv,bd_s,aA,lL,Hr,kI]
def bXv {a b:List AG}(d:Qa a.length){F:(Nat->Option (Bool⊕PUnit))->Nat->Option (Bool⊕PUnit)}
  (f:∀rec i (hi:i<b.length) (j:i<a.length),F rec i=bif !bZd a[i] b[i] then some (.inl false) else rec (i+1)) (c:∀rec,F rec b.length=some (.inr ())):
  (bif decide ((a.length:Int)<(b.length:Int)) then some false else nx (bF FUEL F 0) λ_=>some true)=some (eX a b):=by
 unfold eX;by_cases h:b.length<=a.length
 ·rw[av (show ¬(a.length:Int)<(b.length:Int) by omega),ac,au h,cA,
   fI (l:=b) (λi e=> !bZd (a.getD i default) e) (.inl false) (.inr ()) (by omega) (by grind[List.getD,List.getElem?_eq_getElem]) c]
  cases dR (λi e=> !bZd (a.getD i default) e) 0 b<;>rfl
 grind
def Oc (a b:List AG)(h:Qa a.length):Lp a b=some (eX a b):=by unfold Lp;exact bXv h (λrec i hi c=>by simp only[bD hi,ae,aD hi,aD c,bd_s];rfl) (by simp)
def aMv:= @Oc
def aR6 (k:Int)(b:AJ)(h:Qc b.Data.length):Si k b=some (jW k b):=by
 grind[aA,bd_s,aO,A9,Si,jW]
def aR7 (k:Int)(b:AJ)(h:Qc b.Data.length):Tt k b=some (jW k b):=by
 grind[pX,aA,bd_s,A9,Tt,jW]
def aWm (k e v:Int):Zc k e v=some (dH k&&(bE e 0 1000000&&bE v 0 1000000)):=by unfold Zc;cases dH k<;>cases bE e 0 1000000<;>rfl
def bFo (k e v:Int):bE0 k e v=some (nQ k e v):=by rfl
def Ih (b:List Int)(hb:aT b)(p:Nat)(hp:Qa p){F:(Int×Int×Nat->Option ((Int×Int×Bool)⊕PUnit))->Int×Int×Nat->Option ((Int×Int×Bool)⊕PUnit)}
  (j:∀rec (n q:Int) (i:Nat),F rec (n,q,i)=bif decide ((i:Int)<6) then(bif decide (IntKind.i64.wrap ((p:Int)+(i:Int))>=(b.length:Int)) then some (.inl (0,0,false)) else bd (aN b (IntKind.i64.wrap ((p:Int)+(i:Int)))) λz=>gd ((128:Int)≠0) (bif decide (IntKind.i64.wrap z<128) then(bd (bif decide ((i:Int)>0) then(bif IntKind.i64.wrap z==0 then some true else some (decide (IntKind.i64.wrap (n+IntKind.i64.wrap ((IntKind.i64.wrap z).tmod 128*q))>1000000000000))) else some (decide (IntKind.i64.wrap (n+IntKind.i64.wrap ((IntKind.i64.wrap z).tmod 128*q))>1000000000000))) λc=>bif c then some (.inl (0,0,false)) else some (.inl (IntKind.i64.wrap (n+IntKind.i64.wrap ((IntKind.i64.wrap z).tmod 128*q)),IntKind.i64.wrap (IntKind.i64.wrap ((p:Int)+(i:Int))+1),true))) else rec (IntKind.i64.wrap (n+IntKind.i64.wrap ((IntKind.i64.wrap z).tmod 128*q)),IntKind.i64.wrap (q*128),i+1))) else some (.inr ())):
  ∀(k i:Nat) (n:Int) (f:Nat),i+k=6->k<f->0<=n->n<128^i->nx (bF f F (n,(128:Int)^i,i)) (λ_=>some ((0:Int),(0:Int),false))=some (uvG b p k i n)
 |0,i,n,f+1,hk,w,h0,h1=>by
  rw[gD,j,show decide ((i:Int)<6)=false from av (by omega)];rfl
 |k+1,i,n,f+1,hk,w,h0,h1=>by
  have l:=bKe (i:=i) (by omega);rw[gD,j,show decide ((i:Int)<6)=true from au (by omega),ae];rw[show IntKind.i64.wrap ((p:Int)+(i:Int))=((p+i:Nat):Int) by rw[aI (by omega) (by omega)];omega];unfold uvG;by_cases a:p+i<b.length
  ·have m:=xY hb a;have hg:b.getD (p+i) 0=b[p+i]:=by simp[List.getD,aa a]
   rw[cu a,hg,aD a];generalize b[p+i]=z at m;rw[show decide (((p+i:Nat):Int)>=(b.length:Int))=false from av (by omega)];have hs:=bKf (z:=z) (n:=n) (i:=i) (by omega) m.1 h0 h1;have o:IntKind.i64.wrap z=z:=aI (by omega) (by omega);have r:z.tmod 128=z%128:=bv m.1;have s:IntKind.i64.wrap (z%128*128^i)=z%128*128^i:=aI (by omega) (by omega);have x:=bKe (i:=i+1) (by omega);have t:IntKind.i64.wrap (n+z%128*128^i)=n+z%128*128^i:=aI (by omega) (by omega);have u:IntKind.i64.wrap (((p+i:Nat):Int)+1)=((p+i+1:Nat):Int):=by rw[aI (by omega) (by omega)];omega
   have v:IntKind.i64.wrap ((128:Int)^i*128)=128^(i+1):=by rw[<-fm,aI (by omega) (by omega)]
   have h:((128:Int)≠0)=True:=by simp
   simp only[ac,bd_s,o,r,s,t,u,v,h,gd_T];by_cases d:z<128
   ·simp only[d,decide_true,ae];have e:(decide ((i:Int)>0))=decide (0<i):=cU.2 (by omega);rw[e];cases decide (0<i)<;>cases(z==0)<;>cases decide (n+z%128*128^i>1000000000000)<;>rfl
   ·simp only[d,decide_false,ac];exact Ih b hb p hp j k (i+1) _ f (by omega) (by omega) hs.1 hs.2.1
  ·rw[cG a,show decide (((p+i:Nat):Int)>=(b.length:Int))=true from au (by omega)];rfl
def aI7 (b:List Int)(a:Int)(hb:aT b):Ht b a=some (Qt b a):=by
 unfold Ht Qt;have c:=fA;have hlen:=hb.1;rw[lL,bd_s];by_cases h0:a<0
 ·simp[h0]
 ·rw[cG h0,av h0,cy];by_cases h1:a>=b.length
  ·grind[uvG,decide_eq_true]
  ·rw[av h1,ac];obtain⟨p,rfl⟩:=dw (show 0<=a by omega);exact Ih b hb p (by omega) (λrec n q i=>rfl) 6 0 0 FUEL rfl (by omega) (by omega) (by decide)
theorem Xl (b:List Int)(c:Int)(hc:c<=100){F:(Int×List Int×Nat->Option ((List Int×Int×Bool)⊕(Int×List Int)))->Int×List Int×Nat->Option ((List Int×Int×Bool)⊕(Int×List Int))}
  (d:∀rec (a:Int) (s:List Int) (i:Nat),Qa s.length->F rec (a,s,i)=bif decide ((i:Int)<c) then(bif !(Qt b a).2.2 then some (.inl ([],0,false)) else rec ((Qt b a).2.1,s++[(Qt b a).1],i+1)) else some (.inr (a,s))):
  ∀(k i:Nat) (a:Int) (s:List Int) (f:Nat),((i+k:Nat):Int)=c->k<f->s.length<=i->nx (bF f F (a,s,i)) (λz=>some (z.2,z.1,true))=some (lJ b k a s)
 |0,i,a,s,f+1,hk,e,hs=>by
  rw[gD,d _ _ _ _ (by omega),show decide ((i:Int)<c)=false from av (by omega)];rfl
 |k+1,i,a,s,f+1,hk,e,hs=>by
  rw[gD,d _ _ _ _ (by omega),show decide ((i:Int)<c)=true from au (by omega),ae];unfold lJ;cases(Qt b a).2.2 with
  |false=>rfl
  |true=>simp only[ah,ac,ae];exact Xl b c hc d k (i+1) _ _ f (by omega) (by omega) (by simp;omega)
def aMw (b:List Int)(a c:Int)(hb:aT b):Nf b a c=some (jU b a c):=by
 grind[decide_false,bd_s,decide_true,Bool.not_true,Bool.or_self,Xl,aA,dS,FUEL,fA,Nf,jU,bE]
def aMx (b:List Int)(a c:Int)(hb:aT b):Lr b a c=some (jU b a c):=by
 grind[bE,sG,Bool.not_true,bd_s,Bool.or_self,Xl,aA,dS,FUEL,fA,Lr,jU]
theorem Ii (b:List Int)(hb:aT b)(a:Int)(q:0<=a){F:(Int×Nat->Option ((Int×Int×Bool)⊕PUnit))->Int×Nat->Option ((Int×Int×Bool)⊕PUnit)}
  (l:∀rec (n:Int) (i:Nat),F rec (n,i)=bif decide ((i:Int)<6) then(bd (bif decide (a<0) then some true else some (decide (a>=IntKind.i64.wrap ((b.length:Int)-(i:Int))))) λc=>bif c then some (.inl (0,0,false)) else bd (aN b (IntKind.i64.wrap (a+(i:Int)))) λz=>gd ((0:Int)<=IntKind.i64.wrap (7*(i:Int))) (bif decide (IntKind.i64.wrap z<128) then(bd (bif IntKind.i64.wrap z==0 then(bif decide ((i:Int)>0) then some true else some (decide (orI .i64 n (aKx .i64 (Fe .i64 (IntKind.i64.wrap z) 127) (IntKind.i64.wrap (7*(i:Int))))>1000000000000))) else some (decide (orI .i64 n (aKx .i64 (Fe .i64 (IntKind.i64.wrap z) 127) (IntKind.i64.wrap (7*(i:Int))))>1000000000000))) λc=>bif c then some (.inl (0,0,false)) else some (.inl (orI .i64 n (aKx .i64 (Fe .i64 (IntKind.i64.wrap z) 127) (IntKind.i64.wrap (7*(i:Int)))),IntKind.i64.wrap (IntKind.i64.wrap (a+(i:Int))+1),true))) else rec (orI .i64 n (aKx .i64 (Fe .i64 (IntKind.i64.wrap z) 127) (IntKind.i64.wrap (7*(i:Int)))),i+1))) else some (.inr ())):
  ∀(k i:Nat) (n:Int) (f:Nat),i+k=6->k<f->0<=n->n<128^i->nx (bF f F (n,i)) (λ_=>some ((0:Int),(0:Int),false))=some (uvG b a.toNat k i n)
 |0,i,n,f+1,hk,r,h0,h1=>by
  rw[gD,l,show decide ((i:Int)<6)=false from av (by omega)];rfl
 |k+1,i,n,f+1,hk,r,h0,h1=>by
  have hlen:=hb.1;rw[gD,l,show decide ((i:Int)<6)=true from au (by omega),ae,lL,bd_s];rw[show IntKind.i64.wrap ((b.length:Int)-(i:Int))=(b.length:Int)-(i:Int) from aI (by omega) (by omega),show decide (a<0)=false from av (by omega),cy];unfold uvG;by_cases d:a.toNat+i<b.length
  ·have j:=xY hb d;have hg:b.getD (a.toNat+i) 0=b[a.toNat+i]:=by simp[List.getD,aa d]
   have m:IntKind.i64.wrap (a+(i:Int))=((a.toNat+i:Nat):Int):=by rw[aI (by omega) (by omega)];omega
   rw[cu d,hg,m,aD d];generalize b[a.toNat+i]=z at j;rw[show decide (a>=(b.length:Int)-(i:Int))=false from av (by omega)];have hs:=bKf (z:=z) (n:=n) (i:=i) (by omega) j.1 h0 h1;have o:IntKind.i64.wrap z=z:=aI (by omega) (by omega);have ho:=bY7 (z:=z) (n:=n) (i:=i) (by omega) j.1 j.2 h0 h1;have p:IntKind.i64.wrap (((a.toNat+i:Nat):Int)+1)=((a.toNat+i+1:Nat):Int):=by rw[aI (by omega) (by omega)];omega
   have s:0<=IntKind.i64.wrap ((7:Int)*(i:Int)):=by rw[aI (by omega) (by omega)];omega
   simp only[ac,bd_s,o,ho,p];rw[aA s];by_cases h:z<128
   ·simp only[h,decide_true,ae];have e:(decide ((i:Int)>0))=decide (0<i):=cU.2 (by omega);rw[e];cases decide (0<i)<;>cases(z==0)<;>cases decide (n+z%128*128^i>1000000000000)<;>rfl
   ·simp only[h,decide_false,ac];exact Ii b hb a q l k (i+1) _ f (by omega) (by omega) hs.1 hs.2.1
  ·rw[cG d,show decide (a>=(b.length:Int)-(i:Int))=true from au (by omega)];rfl
def aI8 (b:List Int)(a:Int)(hb:aT b):Gq b a=some (Qt b a):=by
 unfold Gq Qt;have d:=fA;by_cases h0:a<0
 ·rw[cu h0];obtain⟨f,c⟩:∃f,FUEL=f+1:=⟨FUEL-1,by omega⟩;simp_all[nx,gD]
 grind[Ii,FUEL]
def E9 (s:AN)(e:AO)(a:Qa e.sz):vG s e=some (eO s e):=by
 simp only[AO.sz] at a;unfold vG eO
 grind[decode_len,jU,aH4,aN,bd_s,Bool.not_true,dH,jT,qE,aA,aH3]
def F3 (s:AN)(e:AO)(a:Qa e.sz):vO s e=some (eO s e):=by
 simp only[AO.sz] at a;unfold vO eO;rw[aA (by simp),bd_s,aA (by omega),bd_s,aA (aH3 _ _),show bJ s.Seed [181]=qE s from rfl]
 grind[decode_len,jU,aH4,aN,bd_s,Bool.not_true,dH,jT,qE]
theorem bSf {F:(Int×List Int->Option (Int×List Int))->Int×List Int->Option (Int×List Int)}{n:Int}{b:List Int}(hk:0<=n/\n<=1000000000000)(hb:Qb b.length)
  (a:∀rec (n:Int) (s:List Int),0<=n->n<9223372036854775807->Qa s.length->F rec (n,s)=bif decide (n>127) then rec (n/128,s++[n%128+128]) else some (n,s)):
  (bd (EV.bF FUEL F (n,b)) λz=>gd (aO z.2 [IntKind.u8.wrap z.1]) (some (z.2++[IntKind.u8.wrap z.1])))=some (b++uvE 5 n):=by
 have f:(128:Int)^(5+1)=4398046511104:=by decide
 obtain⟨m,q,c,d,e,h⟩:=bNc a 5 n b FUEL (by grind[fA]) hk.1 (by omega) (by omega) (by omega);have hq:Qa q.length:=by
  grind[List.length_append,List.length_singleton,bKi,List.length]
 rw[c,bd_s];simp only[aZz e (by omega)];rw[dS (s:=q) hq,d]
def aAh (b:List Int)(n:Int)(h:Qb b.length):yQ b n=some (Qm b n):=by
 unfold yQ Qm enc1;rw[Af (by omega)];cases hr:bE n 0 1000000000000 with
 |false=>simp
 |true=>rw[ah,ac,ae,bp];exact bSf (sG hr) h (by grind[decide,gd,aO,orI,Fe,aHr,bZf,cBw,Int.emod_nonneg,Int.emod_lt_of_pos,cDo,aZz,dS,aA])
def bI3:∀(l s:List Int),l.foldl Qm s=s++pO l
 |[],s=>by simp[pO]
 |x::l,s=>by rw[db,bI3 l,Ew,Qm,cw]
def Od (l:List Int)(h:l.length<=5000000000):Ls l=some (pO l):=by unfold Ls;rw[gW (l:=l) Qm (λi s=>s.length<=6*i) (λs=>some s) (by omega) (by simp) (by grind[bNd,Qm,List.length_append]) (by grind[bD,aD,bd_s,aA]) (by simp),bI3];rfl
def aI9:∀(l:List AI) (s:List Int),l.foldl (λs e=>s++bNg e) s=s++yA l
 |[],s=>by simp[yA]
 |x::l,s=>by rw[db,aI9 l];simp[yA]
def aEf (b:AD)(h:Qa b.sz):Bo b=some (yB b):=by
 unfold Bo yB;rw[aA h,bd_s];cases hb:aM b with
 |false=>rfl
 |true=>
  have hl:=wR hb;have hv:(La b).length=1+4*b.Entries.length:=by grind[La,Ex]
  rw[ah,ac,ae,gW (l:=b.Entries) (λs e=>s++bNg e) (λi s=>s.length<=1+4*i) (λs=>some s) (by omega) (by simp) (by grind[bNg,List.length_append,List.length_cons,List.length_nil]) (λrec i s hi hv=>by
   have e:∀x y z w:Int,gd (aO s [x,y,z,w]) (some (s++[x,y,z,w]))=some (s++[x,y,z,w]):=(by grind[aA,aO,List.length_cons,List.length_nil]);simp only[bD hi,ae,aD hi,bd_s,Ky,e];rfl) (by simp),aI9,bd_s]
  grind[aA,yA,La,bd_s]
def aMy (a b:List Int)(h:aT a/\aT b):Lt a b=some (a==b):=by obtain⟨c,hb⟩:=h;have h1:=c.1;have h2:=hb.1;unfold Lt;rw[aA (by omega),aA (by omega),aYb,aYb,ByteArray.toList_eq,ByteArray.toList_eq,bIg,bIg];congr 1;rw[eS,cN,cN];exact⟨λh=>bytes_inj (aUo c) (aUo hb) h,λh=>by rw[h]⟩
def cD0 {v:List Int}{i:Nat}(h:4*i+3<v.length):v.drop (4*i)=v[4*i]::v[4*i+1]::v[4*i+2]::v[4*i+3]::v.drop (4*(i+1)):=by
 grind[List.drop_eq_getElem_cons]
def bN8 {v:List Int}{k:Nat}(hv:v.length=4*k)(hk:k<=20){τ:Type}{x:τ}{F:(Nat×List AI->Option (τ⊕List AI))->Nat×List AI->Option (τ⊕List AI)}
  (a:∀rec i s (hi:i<k) (h:4*i+3<v.length),s.length<=100->F rec (i,s)=bif decide (v[4*i+3]>1) then some (.inl x) else rec (i+1,s++[⟨v[4*i],v[4*i+1],v[4*i+2],v[4*i+3]==1⟩])) (b:∀rec s,F rec (k,s)=some (.inr s)):
  ∀(m i n:Nat) (s:List AI),i+m=k->m<n->s.length<=i->EV.bF n F (i,s)=some (bif qF (v.drop (4*i)) then .inr (s++nR (v.drop (4*i))) else .inl x)
 |0,i,n+1,s,h,_,_=>by
  have:i=k:=by omega
  subst this;rw[gD,b,fe (by omega)];simp[qF,nR]
 |m+1,i,n+1,s,h,hn,hs=>by
  have c:4*i+3<v.length:=by omega
  rw[gD,a _ i s (by omega) c (by omega),cD0 c];simp only[qF,nR];by_cases hg:v[4*i+3]>1
  ·rw[au hg,av (show ¬v[4*i+3]<=1 by omega)];rfl
  ·rw[av hg,au (show v[4*i+3]<=1 by omega),ac,cA,bN8 hv hk a b m (i+1) n _ (by omega) (by omega) (by simp;omega)];simp
def bN9 {a:List Int}(hb:aT a)(hc:(!(Qt a 0).2.2||decide ((Qt a 0).1>20))=false):∃(n:Int) (q:Nat),Qt a 0=(n,(q:Int),true)/\0<=n/\n<=20/\q<=a.length:=by
 simp only[bu,dr,di] at hc;cases b:Qt a 0 with
 |mk n r=>
  obtain⟨e,ok⟩:=r;rw[b] at hc;obtain⟨rfl,hc2⟩:=hc;obtain⟨q,⟨_,c,d,f,h⟩,_⟩:=bKk hb b
  grind
def bOa {a:List Int}{e c:Int}(h0:0<=c)(h1:c<=100)(h2:0<=e)(b:e<=a.length):jU a e c=lJ a c.toNat e []:=by
 grind[decide_eq_true,jU,bE]
theorem bK5 {v:List Int}{i j:Nat}{q:Int}(hq:q=(j:Int))(h:i+j<v.length):aN (v.drop i) q=some v[i+j]:=by subst hq;rw[aD (by grind),List.getElem_drop]
def aEg (a:List Int)(hb:aT a):Ci a=some (aGg a):=by
 unfold Ci aGg;rw[aA hb,bd_s,lL,bd_s];cases hc:(!(Qt a 0).2.2||decide ((Qt a 0).1>20)) with
 |true=>rfl
 |false=>
  obtain⟨n,q,b,h0,h1,h2⟩:=bN9 hb hc;rw[b,ac,ac];dsimp only;rw[aI (n:=4*n) (by omega) (by omega),aA hb,bd_s,bOa (by omega) (by omega) (by omega) (by omega)];cases hd:lJ a (4*n).toNat (q:Int) [] with
  |mk v r=>
   obtain⟨e,ok⟩:=r;dsimp only;rw[lL,bd_s];unfold bRt;cases ok with
   |false=>rfl
   |true=>
    dsimp only;rw[ah,cy,cy];cases he:(e !=(a.length:Int)) with
    |true=>rfl
    |false=>
     obtain⟨t,q',⟨k1,k2,k3,k4,k5⟩,_⟩:=M7 hb _ _ _ _ _ (by omega) (by omega) hd;rw[bp] at k1;subst k1;have hv:v.length=4*n.toNat:=by omega
     rw[ac,cy,bN8 (x:=((AD.mk [],false):AD×Bool)) hv (by omega) (λrec i s hi c hs=>by
      have d:decide ((i:Int)<n)=true:=au (by omega);have f:IntKind.i64.wrap (4*(i:Int))=((4*i:Nat):Int):=by grind[aI]
      have h:aN (v.drop (4*i)) 0=some (v[4*i]'(by omega)):=bK5 (j:=0) rfl (by omega);have k:aN (v.drop (4*i)) 1=some (v[4*i+1]'(by omega)):=(by grind[bK5]);have l:aN (v.drop (4*i)) 2=some (v[4*i+2]'(by omega)):=(by grind[bK5]);have m:aN (v.drop (4*i)) 3=some v[4*i+3]:=bK5 (j:=3) rfl c;simp only[d,f,ci,ae,aA (show gI v ((4*i:Nat):Int) from⟨by omega,by omega⟩),h,k,l,m,bd_s,dS (show Qa s.length by omega)]) (by grind) n.toNat 0 FUEL [] (by omega) (by grind[fA]) (by simp)]
     simp only[Nat.mul_zero,gh,bp];cases o:qF v with
     |false=>rfl
     |true=>have hl:=aLq n.toNat v hv;simp only[ae,nx_r];rw[aA (by grind[nR,AD.sz]),bd_s];cases aM ⟨nR v⟩<;>rfl
def bI4 {a:List Int}(hb:aT a){k:Nat}(hk:k<=20){τ:Type}{x:τ}{F:(Int×Nat×List AI->Option (τ⊕List AI))->Int×Nat×List AI->Option (τ⊕List AI)}
  (b:∀rec (q:Nat) i s (hi:i<k),q<=a.length->s.length<=100->F rec ((q:Int),i,s)=bif !(lJ a 4 q []).2.2 then some (.inl x) else rec ((lJ a 4 q []).2.1,i+1,s++nR (lJ a 4 q []).1)) (c:∀rec e s,F rec (e,k,s)=some (.inr s)):
  ∀(m i n q:Nat) (s:List AI),i+m=k->m<n->q<=a.length->s.length<=i->EV.bF n F ((q:Int),i,s)=some (bif (lJ a (4*m) q []).2.2 then .inr (s++nR (lJ a (4*m) q []).1) else .inl x)
 |0,i,n+1,q,s,h,_,_,_=>by
  have:i=k:=by omega
  subst this;rw[gD,c];simp[lJ,nR]
 |m+1,i,n+1,q,s,h,hn,hq,hs=>by
  rw[gD,b _ q i s (by omega) hq (by omega),show 4*(m+1)=4+4*m by omega,aZ0 4 (4*m)];cases hd:lJ a 4 (q:Int) [] with
  |mk l r=>
   obtain⟨e,ok⟩:=r;cases ok with
   |false=>rfl
   |true=>
    obtain⟨t,q',⟨k1,k2,k3,k4,k5⟩,_⟩:=M7 hb _ _ _ _ _ (by omega) (by omega) hd;rw[bp] at k1;subst k1;subst k3;have hl:(nR l).length=1:=aLq 1 l (by omega);simp only[ah,ac,ae];rw[bI4 hb hk b c m (i+1) n q' _ (by omega) (by omega) k4 (by simp[hl];omega),aZ1 (4*m) (q':Int) l];cases(lJ a (4*m) (q':Int) []).2.2 with
    |false=>rfl
    |true=>simp[bNh 1 l _ (by omega)]
def four {l:List Int}(h:l.length=4):∃w x y z,l=[w,x,y,z]:=by
 match l,h with
 |[w,x,y,z],_=>exact⟨w,x,y,z,rfl⟩
def aEh (a:List Int)(hb:aT a):Bp a=some (aGg a):=by
 unfold Bp aGg;rw[aA hb,bd_s,lL,bd_s];cases hc:(!(Qt a 0).2.2||decide ((Qt a 0).1>20)) with
 |true=>rfl
 |false=>
  obtain⟨n,q,b,h0,h1,h2⟩:=bN9 hb hc;rw[b,ac,ac];dsimp only;rw[bI4 (x:=((AD.mk [],false):AD×Bool)) hb (k:=n.toNat) (by omega) (λrec q i s hi hq hs=>by
   have d:decide ((i:Int)<n)=true:=au (by omega);simp only[d,ae,aA hb,bd_s,bOa (a:=a) (e:=(q:Int)) (c:=4) (by omega) (by omega) (by omega) (by omega),show Int.toNat 4=4 from rfl];cases hd:lJ a 4 (q:Int) [] with
   |mk l r=>
    obtain⟨e,ok⟩:=r;cases ok with
    |false=>rfl
    |true=>
     obtain⟨t,q',⟨k1,k2,_⟩,_⟩:=M7 hb _ _ _ _ _ (by omega) (by omega) hd;rw[bp] at k1;subst k1;obtain⟨w,x,y,z,rfl⟩:=four k2;simp only[ah,ac,(by assumption),(by assumption),(by assumption),(by assumption),bd_s,dS (show Qa s.length by omega)];rfl) (by grind) n.toNat 0 FUEL q [] (by omega) (by grind[fA]) h2 (by simp)]
  rw[show(4*n).toNat=4*n.toNat by omega];unfold bRt;cases hd:lJ a (4*n.toNat) (q:Int) [] with
  |mk v r=>
   obtain⟨e,ok⟩:=r;cases ok with
   |false=>rfl
   |true=>
    obtain⟨b1,h,j,m⟩:=bWw hb b h1 (show lJ a (4*n).toNat (q:Int) []=(v,e,true) by rw[show(4*n).toNat=4*n.toNat by omega];exact hd);have f:Qa ((AD.mk (nR v)).sz):=by grind[AD.sz]
    simp only[ae,nx_r,bp,aA f,bd_s,aA (show aT (yB ⟨nR v⟩)/\aT a from⟨aZ4 _,hb⟩),lL]
    grind[aM,nR,pO,La,qF,absurd,Bool.not_true,Bool.not_false,yB]
def aMz (k:Int)(s:AJ)(h:Qc s.Data.length):Ng k s=some (nS k s):=by unfold Ng nS;rw[aA h,aA (by simp)];simp only[bd_s,aA (show Qa s.Data.length by omega),aA (bKg (k:=bJ k [223,s.Epoch,s.Version]) (show Qa s.Data.length by omega))];unfold nQ;cases dH k<;>cases bE s.Epoch 0 1000000<;>cases bE s.Version 0 1000000<;>cases(s.MAC !=jW k s)<;>rfl
def aM0 (k:Int)(s:AJ)(h:Qc s.Data.length):Lu k s=some (nS k s):=by unfold Lu nS;rw[aA h,aA (by omega)];simp only[bd_s,aA (bKg (k:=nQ k s.Epoch s.Version) (show Qa s.Data.length by omega))];cases dH k<;>cases bE s.Epoch 0 1000000<;>cases bE s.Version 0 1000000<;>cases(s.MAC !=jW k s)<;>rfl
def aM1 (d:AF)(l:List AG)(bx:AO)(s:AJ)(h:Qa d.sz/\Qa l.length/\Qa bx.sz/\Qc s.Data.length):Nh d l bx s=some (gK d l bx s):=by
 obtain⟨h1,h2,a,b⟩:=h;have c:=fG l;have hb:Qa d.aAE.sz:=by grind[AF.sz,AD.sz]
 unfold Nh gK Em;simp only[aA h1,aA h2,aA a,aA b,aA (by omega),bd_s,lL,bif_and,bif_or,Ky]
 grind[bO,eX,kL,aK,bI,bA,eO,bx,decide,nO,aA,bd_s,nS,bIi]
def aM2 (d:AF)(l:List AG)(bx:AO)(s:AJ)(h:Qa d.sz/\Qa l.length/\Qa bx.sz/\Qc s.Data.length):Lv d l bx s=some (gK d l bx s):=by
 obtain⟨h1,h2,a,b⟩:=h;have c:=fG l;have hb:Qa d.aAE.sz:=by grind[AF.sz,AD.sz]
 unfold Lv gK Em;simp only[aA h1,aA h2,aA a,aA b,aA (by omega),bd_s,lL,bif_and,bif_or,Ky]
 grind[bO,eX,kL,aK,bI,bA,eO,bx,decide,nO,aA,bd_s,nS,bIi]
theorem bI5 {c:AP}(h:Qd c.sz)(b:Int):Qd c.Log.length/\Qd c.Boxes.sz/\Qd ((kI c b).1.Data.length):=by
 grind[decide,bB0,Fv,Ej,AJ.sz,kI,AO.sz,AP.sz]
def bB1 (d:AF)(c:AP)(b:Int)(h:Qd d.sz/\Qd c.sz):U3 d c b=some (gK d c.Log c.Boxes (kI c b).1):=by obtain⟨h1,h2⟩:=h;obtain⟨k1,k2,k3⟩:=bI5 h2 b;unfold U3;rw[aA (by omega),bd_s,aA (by grind),bd_s]
theorem aAi {w:AA}{d:Int}(h:aJ w d=true):0<=d/\d.toNat<w.Devices.length/\(aQ w d).sz<=w.sz/\aQ w d=w.Devices.getD d.toNat default:=by
 simp only[aJ,ab,cg] at h;have hi:d.toNat<w.Devices.length:=by omega
 have:=Ej (f:=AF.sz) hi;refine⟨h.1,hi,?_,rfl⟩;show(w.Devices.getD d.toNat default).sz<=_
 grind[AA.sz]
theorem Ij (w:AA):w.aAH.sz<=w.sz:=by grind[AA.sz,AP.sz,AO.sz]
def bB2 (w:AA)(d b:Int)(c:Qd w.sz):U4 w d b=some (aG w d b):=by
 have a:=Ij w;unfold U4 aG;rw[aA (show Qa w.sz by omega),bd_s,aA (show Qa w.sz by omega),bd_s];cases hc:(aH w&&aJ w d) with
 |false=>rfl
 |true=>have hd:=(Bool.and_eq_true_iff.1 hc).2;obtain⟨k1,k2,k3,k4⟩:=aAi hd;rw[ah,ac,ae,kP hd,bd_s,aA ⟨by omega,by omega⟩,bd_s,bd_s]
def bB3 (w:AA)(d b:Int)(c:Qd w.sz):V3 w d b=some (aG w d b):=by have a:=Ij w;unfold V3 aG;rw[aA (by omega),bd_s,aA (by omega),bd_s,lL,bd_s,<-Bool.not_and];cases hc:(aH w&&aJ w d)<;>grind[aH,aJ,k1,k2,k3,k4,aAi,bI5,Bool.not_true,aA,bd_s,kP]
def bSg {k:Int}{b:List Int}(hl:Qa b.length){F:(List Int×Nat->Option (List Int))->List Int×Nat->Option (List Int)}
  (a:∀rec i s (hi:i<b.length),Qa s.length->F rec (s,i)=rec (s++[bT4 k i b[i]],i+1)) (c:∀rec s,F rec (s,b.length)=some s):EV.bF FUEL F ([],0)=some (Az k b):=by
 refine Ae (λi s=>i<=b.length/\s=(aDd (λi z=>[bT4 k i z]) 0 (b.take i),i)) b.length _ (by omega) ⟨by omega,by simp[aDd]⟩ (λi s rec hi hv=> ?_) (λs rec hv=> ?_)
 ·obtain⟨_,rfl⟩:=hv;refine .inl ⟨_,⟨hi,rfl⟩,?_⟩;rw[a rec i _ hi (by rw[L9,cb];omega),aR5 hi,cl]
 ·obtain⟨_,rfl⟩:=hv;rw[c,cq];rfl
def bB4 (k:Int)(b:List Int)(h:aT b):V4 k b=some (Az k b):=by unfold V4;rw[bSg (k:=k) h.1 (by grind[bWy,xY,bD,aD,bd_s,aA,gd_T,dS]) (by simp)];rfl
def bB5 (k:Int)(b:List Int)(h:aT b):U5 k b=some (Az k b):=by unfold U5;rw[bSg (k:=k) h.1 (by grind[bWz,xY,bD,aD,bd_s,aA,gd_T,dS]) (by simp)];rfl
def aAj (b:List Int)(n:Int)(h:Qb b.length):zD b n=some (Qm b n):=by
 unfold zD Qm enc1;have e:(decide (n<0)||decide (n>1000000000000))= !bE n 0 1000000000000:=by
  grind[bE]
 rw[aA (by omega),bd_s,lL,bd_s,e]
 grind[bE,Bool.not_true,bSf,sG,decide,Int.tmod_eq_emod_of_nonneg,aI,aZz,Int.tdiv_eq_ediv_of_nonneg,gd_T,dS]
def aM3:= @Od
def aEi (b:AD)(h:Qa b.sz):Cn b=some (yB b):=by
 unfold Cn yB;rw[aA h,bd_s];cases hb:aM b with
 |false=>rfl
 |true=>
  have hl:=wR hb;have hv:(La b).length=1+4*b.Entries.length:=by grind[La,Ex]
  rw[ah,ac,ae,gW (l:=b.Entries) (λs e=>s++bNg e) (λi s=>s.length<=1+4*i) (λs=>some s) (by omega) (by simp) (by grind[bNg,List.length_append,List.length_cons,List.length_nil]) (λrec i s hi hv=>by
   have e:∀x y z w:Int,gd (aO s [x,y,z,w]) (rec (s++[x,y,z,w],i+1))=rec (s++[x,y,z,w],i+1):=(by grind[aA,aO,List.length_cons,List.length_nil]);simp only[bD hi,ae,aD hi,bd_s,Hg,Ky,e];rfl) (by simp),aI9,bd_s]
  grind[aA,yA,La,bd_s]
def bXw (k:Int)(b:AD):Qc ((Az k (yB b)).length):=by grind[aLr,bIk]
def aM4 (k e v:Int)(b:AD)(h:Qa b.sz):Ni k e v b=some (Fw k e v b):=by unfold Ni Fw bRu nQ;simp only[aA h,bd_s,aA (show[(223:Int),e,v].length<=34359738300 by simp),aA (aZ4 b),aA (bXw (bJ k [223,e,v]) b)];cases dH k<;>cases bE e 0 1000000<;>cases bE v 0 1000000<;>cases aM b<;>rfl
def aM5 (k e v:Int)(b:AD)(h:Qa b.sz):Me k e v b=some (Fw k e v b):=by unfold Me Fw bRu;simp only[aA h,bd_s,aA (aZ4 b),aA (bXw (nQ k e v) b)];cases dH k<;>cases bE e 0 1000000<;>cases bE v 0 1000000<;>cases aM b<;>rfl
def Uk (a b:AJ):Sq a b=some (M8 a b):=by unfold Sq M8;cases decide (a.Epoch>b.Epoch)<;>cases(a.Epoch==b.Epoch)<;>rfl
def aR8:= @Uk
def bSh {d:AF}(h:Qa d.sz):Qa d.aAE.sz:=by grind[AF.sz,AD.sz]
def aJa (d:AF)(h:Qa d.sz):Ia d=some (dD d):=by unfold Ia dD;simp only[aA h,aA (bSh h),bd_s];cases(Fw d.Key d.Epoch (IntKind.i64.wrap (d.Version+1)) d.aAE).2<;>rfl
def aJb (d:AF)(h:Qa d.sz):Gu d=some (dD d):=by unfold Gu dD;simp only[aA h,aA (bSh h),bd_s];cases(Fw d.Key d.Epoch (IntKind.i64.wrap (d.Version+1)) d.aAE).2<;>rfl
def bUr (c:AP)(s:AJ)(h:Qb c.sz/\Qb s.sz):(bd (gd (Qa c.sz) (some c)) λa=>bd (gd (Qa c.Log.length) (some (bA c.Log))) λd=>bd (bif (s.Epoch !=d) then some true else(bif decide ((c.History.length:Int)>0) then(bd (aN c.History (IntKind.i64.wrap ((c.History.length:Int)-1))) λb=>bd (some (M8 s b)) λe=>bif !e then some true else some (decide ((c.History.length:Int)>=60))) else some (decide ((c.History.length:Int)>=60)))) λf=>bif f then some (a,false) else bd (gd (Qa s.sz) (some s)) λb=>gd (aO a.History [b]) (some (AP.mk a.Log a.Boxes (a.History++[b]),true)))=some (eU c s):=by
 obtain⟨h1,h2⟩:=h;have i:=h1;simp only[AP.sz] at i;unfold eU;simp only[aA (show Qa c.sz by omega),aA (show Qa c.Log.length by omega),aA (show Qa s.sz by omega),bd_s,dS (show Qa c.History.length by omega)];by_cases h0:0<c.History.length
 ·have j:aN c.History (IntKind.i64.wrap ((c.History.length:Int)-1))=some (c.History.getD (c.History.length-1) default):=by rw[aI (by omega) (by omega),nP (by omega) (by omega)];simp
  rw[au (show(c.History.length:Int)>0 by omega),j];generalize c.History.getD (c.History.length-1) default=x;simp only[bd_s,ae,cA];cases(s.Epoch !=bA c.Log)<;>cases M8 s x<;>cases decide ((c.History.length:Int)>=60)<;>rfl
 simp[*]
def Cz (c:AP)(s:AJ)(h:Qb c.sz/\Qb s.sz):aDo c s=some (eU c s):=bUr c s h
def aEj:= @Cz
theorem bSi {w:AA}{d:Int}(a:w.sz<=10000000000)(h:((aG w d 0).2==0)=true):(aJ (aG w d 0).1 d=true/\Qa ((aQ (aG w d 0).1 d).sz))/\(Qb ((aG w d 0).1.aAH.sz)/\Qb ((dD (aQ (aG w d 0).1 d)).2.1.sz)):=by
 grind[AJ.sz,AA.sz,AP.sz,aQl,aQ,aG,Ij,aAi,aJ,k4,k2,k1,k3,k5,lW]
def aM6 (w:AA)(d:Int)(a:w.sz<=10000000000):Mf w d=some (fJ w d):=by
 unfold Mf fJ;have b:Qa w.sz:=by omega
 simp only[aA (show Qd w.sz by omega),aA b,bd_s,bne];cases hs:((aG w d 0).2==0) with
 |false=>rfl
 |true=>obtain⟨⟨k1,k2⟩,k3⟩:=bSi a hs;generalize(aG w d 0).1=x at*;simp only[ah,ac,kP k1,bd_s,aA k2,aA k3,lL];unfold upF;cases(dD (aQ x d)).2.2<;>cases(eU x.aAH (dD (aQ x d)).2.1).2<;>rfl
def aM7 (w:AA)(d:Int)(a:w.sz<=10000000000):Nj w d=some (fJ w d):=by
 unfold Nj fJ
 grind[aG,k1,k2,k3,bSi,Bool.not_true,kP,bd_s,aA,upF,dD,aQ,eU,bne]
def Oe (s n:Int):aL4 s n=some (aX s n):=by rfl
def aM8:= @Oe
def Ul (s:AN):aQ0 s=some (gT s):=rfl
def aR9:= @Ul
def Ik (s:AN)(n:ByteArray)(k:Int)(h:Qb n.size):Gj s n k=some (dV s n k):=by unfold Gj;rw[aA h,bd_s,aA (by simp)];rfl
def aJc:= @Ik
def Og (s:AN)(n:ByteArray)(k:Int)(h:Qb n.size):Mc s n k=some (gL s n k):=by unfold Mc;rw[aA h];rfl
def aM9:= @Og
def aEk (s:AN)(l:List Int)(h:Qb l.length):Bt s l=some (qC s l):=by unfold Bt;rw[aA h];rfl
def aEl (s:AN)(l:List Int)(h:Qb l.length):Ck s l=some (qC s l):=by unfold Ck;rw[aA (by simp),bd_s,aA h];rfl
def Oh (e:AO)(d:Int)(h:Qa e.Boxes.length):Lx e d=some (sN e d):=by unfold Lx;rw[gW (l:=e.Boxes) (λn b=>bif b.To==d then IntKind.i64.wrap (n+1) else n) (λ_ _=>True) (λs=>some s) (by omega) trivial (by simp) (by grind[bD,aD,bd_s]) (by simp)];rfl
def aNa:= @Oh
def aJd (l:List AG)(k d:Int)(s:AN)(h:Qb l.length):Gr l k d s=some (gY l k d s):=by
 have h1:Qa l.length:=by omega
 have e:∀x:AG,gd (Qa ((l++[x]).length)) (some (bO (l++[x])))=some (bO (l++[x])):=(by grind[aA]);have a:∀x:Int,gd (Qb ([x].length)) (some (qC s [x]))=some (qC s [x]):=λx=>aA (by simp);unfold Gr gY bW0 bZg;simp only[aA h1,bd_s,a,dS h1,e];generalize bO (l++_)=q;cases decide ((l.length:Int)>0)<;>cases bO l<;>cases q<;>rfl
def aJe (l:List AG)(k d:Int)(s:AN)(h:Qb l.length):Hw l k d s=some (gY l k d s):=by
 have h1:Qa l.length:=by omega
 have e:∀x:AG,gd (Qa ((l++[x]).length)) (some (bO (l++[x])))=some (bO (l++[x])):=(by grind[aA]);have a:∀x:Int,gd (Qb ([x].length)) (some (qC s [x]))=some (qC s [x]):=λx=>aA (by simp);unfold Hw gY bW0 bZg;simp only[aA h1,bd_s,a,dS h1,e];generalize bO (l++_)=q;cases decide ((l.length:Int)>0)<;>cases bO l<;>cases q<;>rfl
def bQg (p e:Int)(d:List Int)(h:aT d):(bd (bif iF p==0 then some true else bif !dH e then some true else some (decide ((d.length:Int)>200))) λb=>bif b then some (AK.mk 0 0 [] 0,false) else bd (gd (aT d) (some (Az (kQ (iF p) e) d))) λa=>bd (gd (Qc a.length) (some (aVd (kQ (iF p) e) (AK.mk p e a 0)))) λc=>some (AK.mk p e a c,true))=some (jX p e d):=by
 grind[iF,dH,decide,Bool.or_eq_false_iff,decide_eq_false_iff_not,aA,bd_s,Az,kQ,aLr,lL,jX,aZ5]
def aAk (p e:Int)(d:List Int)(h:aT d):bAo p e d=some (jX p e d):=bQg p e d h
def bB6:= @aAk
def Um (l:List Int)(e:Int)(d:List Int)(h:Qb l.length/\aT d):Sk l e d=some (nE e d 0 l):=by
 obtain⟨h1,h2⟩:=h;unfold Sk;rw[bIq (e:=e) (d:=d) (l:=l) (x:=(([],false):List AK×Bool)) (by grind[bD,aD,bd_s,aA,dS]) (by simp) l.length 0 FUEL [] (by omega) (by grind[fA]) (by simp),gh];cases hs:(nE e d 0 l).2 with
 |true=>rw[ae,nx_r,bp,<-hs]
 |false=>rw[ac,bW4 hs];rfl
def aSa:= @Um
def bSj (a b:Int):aT (pO [a,b]):=aZ2 (by grind[bNj]) (aZ3 _)
def F4 (l:List AG)(k e:Int)(h:Qb l.length):vH l k e=some (iI l k e):=by have hd:=fG l;unfold vH iI;simp only[aA (show Qa l.length by omega),bd_s,aA (show[bA l,k].length<=5000000000 by simp),aA (show Qb ((aK l).length)/\aT (pO [bA l,k]) from⟨by omega,bSj _ _⟩)];cases bO l<;>cases dH k<;>cases(nE e (pO [bA l,k]) 0 (aK l)).2<;>rfl
def F5 (l:List AG)(k e:Int)(h:Qb l.length):vP l k e=some (iI l k e):=by have hd:=fG l;unfold vP iI;simp only[aA (show Qa l.length by omega),bd_s,aA (show[bA l,k].length<=5000000000 by simp),aA (show Qb ((aK l).length)/\aT (pO [bA l,k]) from⟨by omega,bSj _ _⟩)];cases bO l<;>cases dH k<;>cases(nE e (pO [bA l,k]) 0 (aK l)).2<;>rfl
def bSk (e:AO)(l:List Int):(l.all λd=>sN e d==1)= !(l.any λd=>sN e d !=1):=by
 grind
def aSb (e:AO)(l:List AG)(h:Qa e.Boxes.length/\Qa l.length):Sl e l=some (sO e l):=by obtain⟨h1,h2⟩:=h;have hd:=fG l;unfold Sl sO;rw[aA h2,bd_s,kN (l:=aK l) (λd=>sN e d !=1) (.inl false) (.inr PUnit.unit) (by omega) (by grind[bD,aD,bd_s,aA]) (by simp),bSk];simp only[aA h2,bd_s];cases(aK l).any (λd=>sN e d !=1)<;>cases(e.Epoch==bA l)<;>cases((e.Boxes.length:Int)==((aK l).length:Int))<;>rfl
def aSc (e:AO)(l:List AG)(h:Qa e.Boxes.length/\Qa l.length):Tu e l=some (sO e l):=by obtain⟨h1,h2⟩:=h;have hd:=fG l;unfold Tu sO;rw[aA h2,bd_s,aA h2,bd_s,kN (l:=aK l) (λd=>sN e d !=1) (.inl false) (.inr PUnit.unit) (by omega) (by grind[bD,aD,bd_s,aA]) (by simp),bSk];simp only[bne];cases(aK l).any (λd=> !(sN e d==1))<;>cases(e.Epoch==bA l)<;>cases((e.Boxes.length:Int)==((aK l).length:Int))<;>rfl
def cCf {e:AO}(h:Qa e.sz):Qa e.Boxes.length:=by grind[AO.sz]
def Uo (c:AP)(l:List AG)(e:AO)(h:Qa c.sz/\Qa l.length/\Qa e.sz):Sm c l e=some (mZ c l e):=by obtain⟨h1,h2,a⟩:=h;unfold Sm mZ;simp only[aA h1,aA h2,aA a,bd_s,aA (show Qa e.Boxes.length/\Qa l.length from⟨cCf a,h2⟩)];cases bO l<;>cases eX l c.Log<;>cases sO e l<;>rfl
def aSd:= @Uo
def Im (s:AB)(i:Int)(h:Qa s.Accounts.length):Gh s i=some (aF s i):=by unfold Gh;exact L8 (l:=s.Accounts) (λa=>a.Id==i) (by omega) (by grind[bD,aD,bd_s]) (by simp)
def aJf:= @Im
def cAm {l:List AV}{h p:Int}(a:Qb l.length){β:Type}(k:List AV->Option β):gd (gI l ((aId h l:Nat):Int)) (gd (gI l ((aId h l:Nat):Int)) (gd (aO [] (List.take (aId h l) l)) (gd (aO ([]++List.take (aId h l) l) [AV.mk h p 0 false]) (gd (aO ([]++List.take (aId h l) l++[AV.mk h p 0 false]) (List.drop (aId h l) l)) (k ([]++List.take (aId h l) l++[AV.mk h p 0 false]++List.drop (aId h l) l))))))=k (aQm l h p):=by have hk:aId h l<=l.length:=aLt;have h1:gI l ((aId h l:Nat):Int):=⟨by omega,by omega⟩;rw[aA h1,aA h1,aA (by grind[aO]),aA (by grind[aO]),aA (by grind[aO])];rfl
def bSl {l:List AV}{h:Int}(a:Qb l.length):EV.bF (α:=Int) FUEL (λrec (i:Int)=>bd (bif decide (i<(l.length:Int)) then(bd (aN l i) λz=>some (decide (z.Handle<h))) else some false) λz=>bif z then rec (IntKind.i64.wrap (i+1)) else some i) 0=some ((aId h l:Nat):Int):=by have:=bIp (l:=l) (λc=>decide (c.Handle<h)) (λi=>some (i:Int)) (λi=>(i:Int)) (F:=λrec (i:Int)=>bd (bif decide (i<(l.length:Int)) then(bd (aN l i) λz=>some (decide (z.Handle<h))) else some false) λz=>bif z then rec (IntKind.i64.wrap (i+1)) else some i) (by omega) (by grind[bD,aD,bd_s,aI]) (by simp);exact this
def cAn {a:AH}(b:Qb a.sz)(h p:Int):Qa ((AH.mk a.Id a.Minimum (aQm a.Credentials h p)).sz):=by
 grind[AH.sz,bNk]
def aAl (a:AH)(h p:Int)(b:Qb a.sz):yR a h p=some (fV a h p):=by
 have h1:Qa a.sz:=by omega
 have hc:Qb a.Credentials.length:=b;unfold yR fV;rw[aA h1,bd_s,bSl hc];simp only[aA h1,bd_s,ci];rw[cAm hc (λL=>bd (bif !aS a then some true else(bd (gd (Qa ((AH.mk a.Id a.Minimum L).sz)) (some (aS (AH.mk a.Id a.Minimum L)))) λc=>some (!c))) λd=>bif d then some (a,false) else some (AH.mk a.Id a.Minimum L,true))];simp only[bd_s,aA (cAn b h p)];cases aS a<;>cases aS {a with Credentials:=aQm a.Credentials h p}<;>rfl
def aAm (a:AH)(h p:Int)(b:Qb a.sz):zF a h p=some (fV a h p):=by
 have h1:Qa a.sz:=by omega
 have hc:Qb a.Credentials.length:=b;unfold zF fV;rw[aA h1,bd_s,bSl hc];simp only[aA h1,bd_s,ci];rw[cAm hc (λL=>bd (gd (Qa ((AH.mk a.Id a.Minimum L).sz)) (some (aS (AH.mk a.Id a.Minimum L)))) λc=>bif (!c) then some (a,false) else some (AH.mk a.Id a.Minimum L,true))];simp only[bd_s,aA (cAn b h p)];cases aS a<;>cases aS {a with Credentials:=aQm a.Credentials h p}<;>rfl
def bQh {a:AH}{h p:Int}(hn:(fV a h p).2=false):(fV a h p).1=a:=by
 grind[aS,aQm,fV]
def aJg (s:AB)(i h p:Int)(a:Qb s.sz):Gs s i h p=some (gG s i h p):=by
 have h1:Qa s.sz:=by omega
 have hl:Qa s.Accounts.length:=by grind[AB.sz]
 unfold Gs gG;simp only[aA h1,aA hl,bd_s];rw[lL,bd_s];cases hc:(!dN s||decide (aF s i<0)) with
 |true=>rfl
 |false=>
  rw[bu] at hc;obtain⟨b,c,d⟩:=bPt a hc.2;simp only[ac,b,bd_s,aA c];cases e:(fV (s.Accounts.getD (aF s i).toNat default) h p).2 with
  |true=>rfl
  |false=>simp_all[bQh,aZu]
def aJh (s:AB)(i h p:Int)(a:Qb s.sz):Hy s i h p=some (gG s i h p):=by
 grind[dN,decide,aF,Bool.or_eq_false_iff,bPt,bd_s,aA,fV,default,lL,Hy,gG,AB.sz]
def Ey (i:Int):Qb ((aC i).size):=by unfold aC;cases i==0<;>cases i==1<;>decide
def aNb (d:AF)(h:Int)(rm:Bool)(c:Qb d.sz):Md d h rm=some (mM d h rm):=by have h1:=aC9 d (aC 0) h rm;unfold Md mM;rw[aA ⟨by omega,Ey 0⟩,bd_s,show FUEL=FUEL-2+1+1 from by have:=fA;omega];have e:∀{β:Type} (k:Option β),gd (Qe ((cB d (aC 0) h rm).1.sz)/\Qb ((aC 1).size)) k=k:=λk=>aA ⟨by omega,Ey 1⟩;show(bd (bd (gd (Qe ((cB d (aC 0) h rm).1.sz)/\Qb ((aC 1).size)) (some (cB (cB d (aC 0) h rm).1 (aC 1) h rm))) λa=>some (a.1.Store.Vendor,a.1.Store.Serial,a.1.Store.Seed,a.1.Store.Counter,a.1.Log,a.1.Key,a.1.Epoch,a.1.Version,a.1.aAE.Entries)) λb=>some (AF.mk (AN.mk b.1 b.2.1 b.2.2.1 b.2.2.2.1) b.2.2.2.2.1 b.2.2.2.2.2.1 b.2.2.2.2.2.2.1 b.2.2.2.2.2.2.2.1 (AD.mk b.2.2.2.2.2.2.2.2)))=_;rw[e,bd_s,bd_s]
def bK6 {w:AA}{d:Int}(a:aH w=true)(hd:aJ w d=true):aN w.Stolen d=some (bU w d):=by
 grind[bU,List.getD,List.getElem?_eq_getElem,jO,aJ,aH]
def aYj {p r:List AB}{s:AB}:aN (p++s::r) ((p.length:Nat):Int)=some s:=by simp[aD]
theorem aNc {p r:List AB}{s y:AB}:(p++s::r).set (Int.toNat ((p.length:Nat):Int)) y=p++y::r:=by simp
def bSm {c:List AF}{d:AF}{b n:Int}{rm:Bool}(hb:0<=b)(hi:b.toNat<c.length)(hd:c[b.toNat]=d)(k:Qb d.sz):EV.bF (α:=List AF) FUEL (λrec (i:Nat×List AF)=>bif decide ((i.1:Int)<2) then(bd (aN i.2 b) λa=>bd (gd (Qe a.sz/\(aC (i.1:Int)).size<=34359738300) (some (cB a (aC (i.1:Int)) n rm))) λe=>bd (aN i.2 b) λf=>rec (i.1+1,i.2.set b.toNat e.1)) else some i.2) (0,c)=some (c.set b.toNat (mM d n rm)):=by
 have h1:=aC9 d (aC 0) n rm;have h:aN c b=some d:=by rw[jO hb (by omega),hd]
 have j:aN (c.set b.toNat (cB d (aC 0) n rm).1) b=some (cB d (aC 0) n rm).1:=by grind[jO]
 rw[show FUEL=FUEL-3+1+1+1 from by have:=fA;omega,gD];show(bd (aN c b) λa=>bd (gd (Qe a.sz/\Qb ((aC 0).size)) (some (cB a (aC 0) n rm))) λe=>bd (aN c b) λf=>EV.bF (FUEL-3+1+1) _ (1,c.set b.toNat e.1))=_;rw[h,bd_s,aA ⟨by omega,Ey 0⟩,bd_s,bd_s,gD];show(bd (aN (c.set b.toNat (cB d (aC 0) n rm).1) b) λa=>bd (gd (Qe a.sz/\Qb ((aC 1).size)) (some (cB a (aC 1) n rm))) λe=>bd (aN (c.set b.toNat (cB d (aC 0) n rm).1) b) λf=>EV.bF (FUEL-3+1) _ (2,(c.set b.toNat (cB d (aC 0) n rm).1).set b.toNat e.1))=_;rw[j,bd_s,aA ⟨by omega,Ey 1⟩,bd_s,bd_s,gD,eK];rfl
theorem bQi {w:AA}{b:Int}(a:w.sz<=100000000)(h1:aH w=true)(hs:((aG w b 0).2==0)=true):((aJ (aG w b 0).1 b=true/\(aG w b 0).1.Sites.length=2)/\(aG w b 0).1.sz<=300000000)/\(aG w b 0).1.aAH.Log.length<=100000000:=by
 grind[aH,aG,aJ,k4,k2,k3,AA.sz,AP.sz,k1,k5,lW]
def bI6 {L:List AR}(a:30<L.length)(b:L.length<=34359738301):gd (gI L ((yC L:Nat):Int)) (gd (gI L (IntKind.i64.wrap (((yC L:Nat):Int)+1))) (gd (aO [] (List.take (Int.toNat ((yC L:Nat):Int)) L)) (gd (aO ([]++List.take (Int.toNat ((yC L:Nat):Int)) L) (List.drop (Int.toNat (IntKind.i64.wrap (((yC L:Nat):Int)+1))) L)) (some ([]++List.take (Int.toNat ((yC L:Nat):Int)) L++List.drop (Int.toNat (IntKind.i64.wrap (((yC L:Nat):Int)+1))) L)))))=some (Rj L):=by
 have hs:=bNn (l:=L) (by omega);have e:IntKind.i64.wrap (((yC L:Nat):Int)+1)=((yC L+1:Nat):Int):=by grind[aI]
 rw[e,aA ⟨by omega,by omega⟩,aA ⟨by omega,by omega⟩,aA (by grind[aO]),aA (by grind[aO]),ci,ci]
 grind[decide_eq_true,Rj]
def bSn (l:List AR)(x:AR)(h:Qb l.length):Qa ((AU.mk (Rj (l++[x]))).sz):=by
 grind[AU.sz,List.length_append,List.length_singleton,bIl]
theorem bOb {L:List AR}(h:¬30<L.length):Rj L=L:=by
 grind[decide_eq_false,Rj]
def aNd (m:AU)(k a t:Int)(c:Qb m.sz):Na m k a t=some (rA m k a t):=by
 have h1:Qa m.sz:=by omega
 have hm:Qb m.Notices.length:=c;have d:(m.Notices++[(⟨k,a,t,false⟩:AR)]).length=m.Notices.length+1:=by simp
 have hn:=bSn m.Notices ⟨k,a,t,false⟩ hm;unfold Na rA;simp only[aA h1,bd_s,dS (show Qa m.Notices.length by omega)];generalize hg:m.Notices++[(⟨k,a,t,false⟩:AR)]=L at*;by_cases b:30<L.length
 ·rw[au (show(L.length:Int)>30 by omega),bZi (l:=L) (λi=>some i) (λi=>((0:Int),i)) (by omega) (by grind[bD,aD,bd_s]) (by simp),ae,bd_s,bI6 b (by omega),bd_s,aA hn,bd_s];cases eH m<;>cases eH ⟨Rj L⟩<;>rfl
 grind[decide_eq_false,bd_s,bOb,aA,eH]
def aNe (m:AU)(k a t:Int)(d:Qb m.sz):Lj m k a t=some (rA m k a t):=by
 have h1:Qa m.sz:=by omega
 have hm:Qb m.Notices.length:=d;have j:(m.Notices++[(⟨k,a,t,false⟩:AR)]).length=m.Notices.length+1:=by simp
 have hn:=bSn m.Notices ⟨k,a,t,false⟩ hm;unfold Lj rA;rw[aA (by unfold aO;simp;omega),bp,dS (show Qa m.Notices.length by omega)];simp only[aA h1,bd_s];generalize hg:m.Notices++[(⟨k,a,t,false⟩:AR)]=L at*;by_cases c:30<L.length
 ·have e:=bIr (l:=L) (F:=λrec (b:Int×Int)=>bif (decide (b.2>=(0:Int))) then(bd (bd (aN L (b.2)) λf=>bif (f.Seen) then(some (b.2)) else(some (b.1))) λh=>rec ((h,IntKind.i64.wrap (b.2-(1:Int))))) else(some (b.1))) (λrec q i hi=>by
   simp only[au (show((i:Int)>=0) by omega),ae,aD hi,bd_s,Ky,aI (show(-9223372036854775808:Int)<=(i:Int)-1 by omega) (show(i:Int)-1<=9223372036854775807 by omega)]) (λrec q=>rfl) L.length FUEL 0 (ao _) (by have:=fA;omega)
  rw[cq] at e;rw[au (show(L.length:Int)>30 by omega),ae,aI (by omega) (by omega),e,<-bNm,bd_s,bI6 c (by omega),bd_s,aA hn,bd_s];cases eH m<;>cases eH ⟨Rj L⟩<;>rfl
 ·rw[av (show ¬(L.length:Int)>30 by omega),ac,bd_s];rw[bOb c] at hn ⊢;rw[aA hn,bd_s];cases eH m<;>cases eH ⟨L⟩<;>rfl
def bOc {τ:Type}{x:τ}{st:AN}{n:Int}{N:Nat}{F:(Nat×List AB->Option (τ⊕List AB))->Nat×List AB->Option (τ⊕List AB)}
  (a:∀rec (p:List AB) (s:AB) (r:List AB),p.length+r.length+1=N->Qb s.sz->F rec (p.length,p++s::r)=bif !(gG s 1 n (gL st (aC (p.length:Int)) n)).2 then some (.inl x) else rec (p.length+1,p++(gG s 1 n (gL st (aC (p.length:Int)) n)).1::r)) (b:∀rec S,F rec (N,S)=some (.inr S)):
  ∀(r p:List AB) (m:Nat),p.length+r.length=N->r.length<m->(∀s∈r,Qb s.sz)->EV.bF m F (p.length,p++r)=some (bif (fO st n p.length r).2 then .inr (p++(fO st n p.length r).1) else .inl x)
 |[],p,m+1,h,_,_=>by
  simp only[bj,dg] at h;rw[gD,h,b];simp[fO]
 |s::r,p,m+1,h,hm,hs=>by
  simp only[aw] at h hm;rw[gD,a _ p s r (by omega) (hs s (by simp)),fO];cases hr:(gG s 1 n (gL st (aC (p.length:Int)) n)).2 with
  |false=>rfl
  |true=>have:=bOc a b r (p++[(gG s 1 n (gL st (aC (p.length:Int)) n)).1]) m (by simp;omega) (by omega) (λy c=>hs y (by simp[c]));simp only[az,cf,cw,cH,bp] at this;rw[ah,ac,this];cases(fO st n (p.length+1) r).2<;>rfl
def bI7 {τ:Type}{x:τ}{st:AN}{n:Int}{N:Nat}{l:List AB}(d:l.length=N)(a:N<=100)(hs:∀s∈l,Qb s.sz){F:(Nat×List AB->Option (τ⊕List AB))->Nat×List AB->Option (τ⊕List AB)}
  (b:∀rec (p:List AB) (s:AB) (r:List AB),p.length+r.length+1=N->Qb s.sz->F rec (p.length,p++s::r)=bif !(gG s 1 n (gL st (aC (p.length:Int)) n)).2 then some (.inl x) else rec (p.length+1,p++(gG s 1 n (gL st (aC (p.length:Int)) n)).1::r)) (c:∀rec S,F rec (N,S)=some (.inr S)):EV.bF FUEL F (0,l)=some (bif (fO st n 0 l).2 then .inr (fO st n 0 l).1 else .inl x):=by
 have:=bOc b c l [] FUEL (by simp;omega) (by have:=fA;omega) hs;assumption
def Oi (w:AA)(b:Int):AA×Bool:=bif (add1 w b).2&&((aQn w b).2&&((oK w b).2&&(Qn w b).2==0)) then(M9 (Qn w b).1 2,true) else(w,false)
def bI8 {w:AA}{b:Int}(h1:aH w=true)(h2:aJ w b=true)(a:bU w b=false)(c:decide ((w.Devices.length:Int)>=6)=false)(d:((aG w b 0).2==0)=true):iJ w b=Oi w b:=by
 grind[iJ,aUp,Oi]
theorem wZ {w:AA}{b:Int}(h:(add1 w b).2=false):Oi w b=(w,false):=by grind[Oi]
theorem rQ {w:AA}{b:Int}(h:(aQn w b).2=false\/(oK w b).2=false\/((Qn w b).2==0)=false):Oi w b=(w,false):=by unfold Oi;rcases h with h|h|h<;>rw[h]<;>simp
def aUw {w:AA}{b:Int}(h1:(add1 w b).2=true)(h2:(aQn w b).2=true)(a:(oK w b).2=true)(c:((Qn w b).2==0)=true):Oi w b=(M9 (Qn w b).1 2,true):=by
 grind[Oi]
def bSo {w:AA}{b:Int}(c:w.sz<=100000000)(h0:((aG w b 0).2==0)=true)(a:(oK w b).2=true):(appW (oK w b).1 (gT (aX w.Seed (w.Devices.length:Int)))).sz<=34359738100/\((Qn w b).2==0->Qb ((Qn w b).1.Mail.sz)):=by
 obtain⟨d,e⟩:=bRv h0 a;have f:(gT (aX w.Seed (w.Devices.length:Int))).sz=0:=rfl
 grind[Qn,AU.sz,AA.sz,aG,appW,oK,gT,aX,aYe,lW]
theorem rR {w:AA}{b:Int}(h:(aH w&&(aJ w b&&(!bU w b&& !decide ((w.Devices.length:Int)>=6))))=false\/((aG w b 0).2==0)=false):iJ w b=(w,false):=by
 grind[iJ,aUp]
def aEm (w:AA)(b:Int)(k:w.sz<=100000000):Co w b=some (iJ w b):=by
 have h:Qa w.sz:=by omega
 unfold Co;rw[aA h,bd_s];cases h1:aH w with
 |false=>grind[Bool.not_false,bd_s,aA,rR]
 |true=>
 cases h2:aJ w b with
 |false=>grind[Bool.not_false,Bool.not_true,bd_s,aA,rR]
 |true=>
 rw[bK6 h1 h2];cases D:bU w b with
 |true=>grind[Bool.not_true,bd_s,aA,rR]
 |false=>
 cases F:decide ((w.Devices.length:Int)>=6) with
 |true=>grind[Bool.not_true,bd_s,aA,rR]
 |false=>
 simp only[ah,ac,bd_s,aA (show Qd w.sz by omega),bne];cases hs:((aG w b 0).2==0) with
 |false=>grind[Bool.not_false,bd_s,aA,rR]
 |true=>
 rw[bI8 h1 h2 D F hs];obtain⟨⟨⟨m,K⟩,L⟩,M⟩:=bQi k h1 hs;have o:AN.mk (1:Int) (w.Devices.length:Int) (bJ w.Seed [277,(w.Devices.length:Int)]) 0=aX w.Seed (w.Devices.length:Int):=rfl;simp only[o,kP m,bd_s,aA (show Qb ((aG w b 0).1.aAH.Log.length) by omega),aA h,ah,ac];have q:=qN (aG w b 0).1.aAH.Log 1 (bI (aX w.Seed (w.Devices.length:Int))) (aQ (aG w b 0).1 b).Store;obtain⟨l,hl⟩:∃l,l=gY (aG w b 0).1.aAH.Log 1 (bI (aX w.Seed (w.Devices.length:Int))) (aQ (aG w b 0).1 b).Store:=⟨_,rfl⟩;obtain⟨e,he⟩:∃e,e=iI l.1 (aQ (aG w b 0).1 b).Key (IntKind.i64.wrap (1000+IntKind.i64.wrap (10*(l.1.length:Int)))):=⟨_,rfl⟩;obtain⟨c,i⟩:∃c,c=mZ (aG w b 0).1.aAH l.1 e.1:=⟨_,rfl⟩;have O:add1 w b=bif l.2&&(e.2&&c.2) then({(aG w b 0).1 with aAH:=c.1},true) else((aG w b 0).1,false):=by rw[i,he,hl];rfl
 rw[<-hl] at q ⊢;have t:=Rk l.1 (aQ (aG w b 0).1 b).Key (IntKind.i64.wrap (1000+IntKind.i64.wrap (10*(l.1.length:Int))));rw[<-he] at t;have G:=Ij (aG w b 0).1;cases Q:l.2 with
 |false=>grind[wZ]
 |true=>
 rw[ah,ac,aA (by omega),bd_s,<-he];cases R:e.2 with
 |false=>grind[wZ]
 |true=>
 rw[ah,ac,aA (by omega),bd_s,<-i];cases S:c.2 with
 |false=>grind[wZ]
 |true=>
 have f:add1 w b=({(aG w b 0).1 with aAH:=c.1},true):=by simp_all
 have u:aQn w b=fO (aX w.Seed (w.Devices.length:Int)) (w.Devices.length:Int) 0 (aG w b 0).1.Sites:=by unfold aQn;rw[f]
 have v:∀s∈(aG w b 0).1.Sites,Qb s.sz:=(by grind[aH6,AB.sz,AA.sz]);rw[ah,ac,bI7 (x:=((w,false):AA×Bool)) (st:=aX w.Seed (w.Devices.length:Int)) (n:=(w.Devices.length:Int)) (l:=(aG w b 0).1.Sites) (N:=(aG w b 0).1.Sites.length) rfl (by omega) v (λrec p s r hp k=>by
  simp only[bD (show p.length<(aG w b 0).1.Sites.length by omega),ae,aYj,bd_s,aA (Ey (p.length:Int)),aA k,aNc]) (by simp)]
 cases A:(fO (aX w.Seed (w.Devices.length:Int)) (w.Devices.length:Int) 0 (aG w b 0).1.Sites).2 with
 |false=>rw[rQ (.inl (by rw[u,A]))];rfl
 |true=>
 obtain⟨k1,k2,k3,k4⟩:=aAi m;have hg:=m;simp only[aJ,ab,cg] at hg;have H:AA.mk (aG w b 0).1.Now (aG w b 0).1.Seed ((aG w b 0).1.Devices.set b.toNat (mM (aQ (aG w b 0).1 b) (w.Devices.length:Int) false)) (aG w b 0).1.Stolen c.1 (fO (aX w.Seed (w.Devices.length:Int)) (w.Devices.length:Int) 0 (aG w b 0).1.Sites).1 (aG w b 0).1.aAP (aG w b 0).1.Hosts (aG w b 0).1.Pin (aG w b 0).1.Mail=jY w b:=by unfold jY;rw[u,f];rfl
 obtain⟨⟨T,V⟩,W,X⟩:=aZ6 hs;rw[ae,nx_r,bSm (d:=aQ (aG w b 0).1 b) hg.1 k2 (by simp[*]) (by omega),bd_s,H,aA (by omega),bd_s,show fJ (jY w b) b=oK w b from rfl];cases y:(oK w b).2 with
 |false=>grind[rQ]
 |true=>
 obtain⟨Z,y2⟩:=bRv hs y;obtain⟨I,J⟩:=bSo k hs y;have y0:Qa ((oK w b).1.sz):=by omega
 have B:Qa ((oK w b).1.Devices.length)/\Qa ((oK w b).1.Stolen.length):=by grind[AA.sz]
 rw[ah,ac,dS B.1,dS B.2];show(bd (gd ((appW (oK w b).1 (gT (aX w.Seed (w.Devices.length:Int)))).sz<=34359738100) (some (Qn w b))) λa=>bif !(a.2==0) then some (w,false) else bd (gd (Qb a.1.Mail.sz) (some (rA a.1.Mail 2 1 a.1.Now))) λz=>some (AA.mk a.1.Now a.1.Seed a.1.Devices a.1.Stolen a.1.aAH a.1.Sites a.1.aAP a.1.Hosts a.1.Pin z.1,true))=_;rw[aA I,bd_s];cases j:((Qn w b).2==0) with
 |false=>grind[rQ]
 |true=>rw[aUw (by rw[f]) (by rw[u,A]) y j,ah,ac,aA (J j),bd_s];rfl
def bZz {w:AA}{d:Int}(h:(fJ w d).2=false):(fJ w d).1=w:=by
 grind[aG,upF,fJ]
def aEn (w:AA)(b:Int)(k:w.sz<=100000000):Bv w b=some (iJ w b):=by
 have t:Qa w.sz:=by omega
 unfold Bv;simp only[bd_s,aA (show Qd w.sz by omega),aA t,bne];cases hs:((aG w b 0).2==0) with
 |false=>rw[rR (.inr hs)];rfl
 |true=>
 obtain⟨⟨h1,h2⟩,_⟩:=lW hs;rw[bK6 h1 h2];cases u:bU w b with
 |true=>rw[rR (.inl (by rw[h1,h2,u];rfl))];rfl
 |false=>
 cases v:decide ((w.Devices.length:Int)>=6) with
 |true=>rw[rR (.inl (by rw[h1,h2,u,v];rfl))];rfl
 |false=>
 simp only[ah,ac,bd_s];rw[bI8 h1 h2 u v hs];have O:w.Devices.length<6:=by have:=of_decide_eq_false v;omega
 obtain⟨⟨⟨y,Q⟩,J⟩,g4⟩:=bQi k h1 hs;have z:AN.mk (1:Int) (w.Devices.length:Int) (bJ w.Seed [277,(w.Devices.length:Int)]) 0=aX w.Seed (w.Devices.length:Int):=rfl;simp only[z,kP y,bd_s,aA (show Qb ((aG w b 0).1.aAH.Log.length) by omega)];have A:=qN (aG w b 0).1.aAH.Log 1 (bI (aX w.Seed (w.Devices.length:Int))) (aQ (aG w b 0).1 b).Store;obtain⟨l,hl⟩:∃l,l=gY (aG w b 0).1.aAH.Log 1 (bI (aX w.Seed (w.Devices.length:Int))) (aQ (aG w b 0).1 b).Store:=⟨_,rfl⟩;obtain⟨e,he⟩:∃e,e=iI l.1 (aQ (aG w b 0).1 b).Key (IntKind.i64.wrap (1000+IntKind.i64.wrap (10*(l.1.length:Int)))):=⟨_,rfl⟩;obtain⟨c,j⟩:∃c,c=mZ (aG w b 0).1.aAH l.1 e.1:=⟨_,rfl⟩;have m:add1 w b=bif l.2&&(e.2&&c.2) then({(aG w b 0).1 with aAH:=c.1},true) else((aG w b 0).1,false):=by rw[j,he,hl];rfl
 rw[<-hl] at A ⊢;have B:=Rk l.1 (aQ (aG w b 0).1 b).Key (IntKind.i64.wrap (1000+IntKind.i64.wrap (10*(l.1.length:Int))));rw[aA (show Qb l.1.length by omega),bd_s];rw[<-he] at B ⊢;have R:=Ij (aG w b 0).1;rw[aA (show Qa ((aG w b 0).1.aAH.sz)/\Qa l.1.length/\Qa e.1.sz from⟨by omega,by omega,by omega⟩),bd_s,<-j];cases o:l.2 with
 |false=>rw[wZ (by rw[m,o];rfl)];rfl
 |true=>
 cases D:e.2 with
 |false=>rw[wZ (by rw[m,o,D];rfl)];rfl
 |true=>
 cases K:c.2 with
 |false=>rw[wZ (by rw[m,o,D,K];rfl)];rfl
 |true=>
 have f:add1 w b=({(aG w b 0).1 with aAH:=c.1},true):=by rw[m,o,D,K];rfl
 have F:aQn w b=fO (aX w.Seed (w.Devices.length:Int)) (w.Devices.length:Int) 0 (aG w b 0).1.Sites:=by unfold aQn;rw[f]
 have G:∀s∈(aG w b 0).1.Sites,Qb s.sz:=λs hs=>by
  have h1:=aH6 (g:=AB.sz) hs;simp only[AA.sz] at J;omega
 simp only[ah,ac,bd_s];rw[bI7 (x:=((w,false):AA×Bool)) (st:=aX w.Seed (w.Devices.length:Int)) (n:=(w.Devices.length:Int)) (l:=(aG w b 0).1.Sites) (N:=2) Q (by omega) G (λrec p s r hp k=>by
  simp only[au (show((p.length:Nat):Int)<2 by omega),ae,aYj,bd_s,aA (Ey (p.length:Int)),aA k,aNc]) (λrec S=>rfl)]
 cases L:(fO (aX w.Seed (w.Devices.length:Int)) (w.Devices.length:Int) 0 (aG w b 0).1.Sites).2 with
 |false=>rw[rQ (.inl (by rw[F,L]))];rfl
 |true=>
 obtain⟨k1,k2,k3,k4⟩:=aAi y;have hg:=y;simp only[aJ,ab,cg] at hg;have T:AA.mk (aG w b 0).1.Now (aG w b 0).1.Seed ((aG w b 0).1.Devices.set b.toNat (mM (aQ (aG w b 0).1 b) (w.Devices.length:Int) false)) (aG w b 0).1.Stolen c.1 (fO (aX w.Seed (w.Devices.length:Int)) (w.Devices.length:Int) 0 (aG w b 0).1.Sites).1 (aG w b 0).1.aAP (aG w b 0).1.Hosts (aG w b 0).1.Pin (aG w b 0).1.Mail=jY w b:=by unfold jY;rw[F,f];rfl
 obtain⟨⟨V,z2⟩,z3,z4⟩:=aZ6 hs;have W:Qa ((aG w b 0).1.sz):=by omega
 have M:Qa ((aG w b 0).1.Devices.length)/\Qa ((aG w b 0).1.Stolen.length):=by clear J;simp only[AA.sz] at W;omega
 simp only[ae,nx_r,aA (show Qb ((aQ (aG w b 0).1 b).sz) by omega),bd_s,dS (show((aG w b 0).1.Devices.set b.toNat (mM (aQ (aG w b 0).1 b) (w.Devices.length:Int) false)).length<=34359738368 by rw[ay];exact M.1),dS M.2];show(bd (gd ((appW (AA.mk (aG w b 0).1.Now (aG w b 0).1.Seed ((aG w b 0).1.Devices.set b.toNat (mM (aQ (aG w b 0).1 b) (w.Devices.length:Int) false)) (aG w b 0).1.Stolen c.1 (fO (aX w.Seed (w.Devices.length:Int)) (w.Devices.length:Int) 0 (aG w b 0).1.Sites).1 (aG w b 0).1.aAP (aG w b 0).1.Hosts (aG w b 0).1.Pin (aG w b 0).1.Mail) (gT (aX w.Seed (w.Devices.length:Int)))).sz<=10000000000) (some (fJ (appW (AA.mk (aG w b 0).1.Now (aG w b 0).1.Seed ((aG w b 0).1.Devices.set b.toNat (mM (aQ (aG w b 0).1 b) (w.Devices.length:Int) false)) (aG w b 0).1.Stolen c.1 (fO (aX w.Seed (w.Devices.length:Int)) (w.Devices.length:Int) 0 (aG w b 0).1.Sites).1 (aG w b 0).1.aAP (aG w b 0).1.Hosts (aG w b 0).1.Pin (aG w b 0).1.Mail) (gT (aX w.Seed (w.Devices.length:Int)))) b))) λh=>bd (gd (Qd h.1.sz) (some (aG h.1 (w.Devices.length:Int) 0))) λa=>bd (bif !h.2 then some true else some !(a.2==0)) λH=>bif H then some (w,false) else bd (gd (Qb a.1.Mail.sz) (some (rA a.1.Mail 2 1 a.1.Now))) λI=>some (AA.mk a.1.Now a.1.Seed a.1.Devices a.1.Stolen a.1.aAH a.1.Sites a.1.aAP a.1.Hosts a.1.Pin I.1,true))=_;have nz:(gT (aX w.Seed (w.Devices.length:Int))).sz=0:=rfl;rw[T,aA (show(appW (jY w b) (gT (aX w.Seed (w.Devices.length:Int)))).sz<=10000000000 by rw[aYe];omega),bd_s,bW3 _ V (by omega),show fJ (jY w b) b=oK w b from rfl];cases q:(oK w b).2 with
 |false=>have hp:(oK w b).1=jY w b:=bZz (w:=jY w b) (d:=b) q;rw[rQ (.inr (.inl q)),aA (show(appW (oK w b).1 (gT (aX w.Seed (w.Devices.length:Int)))).sz<=34359738100 by rw[hp,aYe];omega)];rfl
 |true=>
 obtain⟨X,Z⟩:=bSo k hs q;rw[aA X,bd_s,show aG (appW (oK w b).1 (gT (aX w.Seed (w.Devices.length:Int)))) (w.Devices.length:Int) 0=Qn w b from rfl];cases i:((Qn w b).2==0) with
 |false=>rw[rQ (.inr (.inr i))];rfl
 |true=>rw[aUw (by rw[f]) (by rw[F,L]) q i,ah,ac,bd_s,ac,aA (Z i),bd_s];rfl
def Zy (s e:Int):aVr s e=some (rC s e):=by rfl
def aWn:= @Zy
def Oj (d:AF)(l:List AG)(k:Int)(h:Qa d.sz/\Qa l.length):Ma d l k=some (wU d l k):=by unfold Ma wU;simp only[aA h.1,aA h.2,bd_s];cases bO l<;>cases eX l d.Log<;>cases decide (bA l<d.Epoch)<;>cases dH k<;>rfl
def aNf:= @Oj
def vT (s:AH)(i:Int)(h:Qa s.Credentials.length):vF s i=some (aU s i):=by unfold vF;exact L8 (l:=s.Credentials) (λa=>a.Handle==i) (by omega) (λrec j b=>by simp only[bD b,ae,aD b,bd_s]) (λrec=>by simp only[uT,ac])
def F6:= @vT
def bZ0 {a:AH}{h:Int}(hk:decide (aU a h<0)=false):aN a.Credentials (aU a h)=some (iX a (aU a h)):=by have hr:=lM (p:=λc:AV=>c.Handle==h) (i:=0) (l:=a.Credentials) hk;exact nP (by unfold aU;omega) (by unfold aU;omega)
def zL (a:AH)(h:Int)(b:Qa a.sz):yS a h=some (nT a h):=by
 have hl:Qa a.Credentials.length:=b;unfold yS nT;simp only[aA b,aA hl,bd_s];cases aS a with
 |false=>rfl
 |true=>
  cases hk:decide (aU a h<0) with
  |true=>rfl
  |false=>simp only[ah,ac,bZ0 hk,bd_s];cases(iX a (aU a h)).Cut<;>rfl
def aAn:= @zL
theorem bSp {s:AB}(a:Qb s.sz)(h:decide (aF s 1>=0)=true):aN s.Accounts (aF s 1)=some (iK s (aF s 1))/\Qa ((iK s (aF s 1)).sz):=by
 grind[iK,bPt,decide,aF,decide_eq_false]
def bOd {h:Int}{N:Nat}{F:(Nat×List AB->Option (List AB))->Nat×List AB->Option (List AB)}
  (a:∀rec (p:List AB) (s:AB) (r:List AB),p.length+r.length+1=N->Qb s.sz->F rec (p.length,p++s::r)=rec (p.length+1,p++jZ h s::r)) (b:∀rec S,F rec (N,S)=some S):
  ∀(r p:List AB) (m:Nat),p.length+r.length=N->r.length<m->(∀s∈r,Qb s.sz)->EV.bF m F (p.length,p++r)=some (p++r.map (jZ h))
 |[],p,m+1,hl,_,_=>by
  simp only[bj,dg] at hl;rw[gD,hl,b];simp
 |s::r,p,m+1,hl,hm,hs=>by
  simp only[aw] at hl hm;have:=bOd a b r (p++[jZ h s]) m (by simp;omega) (by omega) (λy c=>hs y (by simp[c]));simp only[az,cf,cw,cH,bp] at this;rw[gD,a _ p s r (by omega) (hs s (by simp)),this];simp
def bI9 {h:Int}{N:Nat}{l:List AB}(d:l.length=N)(a:N<=100)(hs:∀s∈l,Qb s.sz){F:(Nat×List AB->Option (List AB))->Nat×List AB->Option (List AB)}
  (b:∀rec (p:List AB) (s:AB) (r:List AB),p.length+r.length+1=N->Qb s.sz->F rec (p.length,p++s::r)=rec (p.length+1,p++jZ h s::r)) (c:∀rec S,F rec (N,S)=some S):EV.bF FUEL F (0,l)=some (l.map (jZ h)):=by
 have:=bOd b c l [] FUEL (by simp;omega) (by have:=fA;omega) hs;assumption
theorem oU {w:AA}{b t:Int}(h:((aG w b 0).2==0&&(!bU w b&&(!(b==t)&&jS w t)))=false):gZ w b t=(w,false):=by grind[gZ]
def bB7 {w:AA}{b t:Int}(h:((aG w b 0).2==0&&(!bU w b&&(!(b==t)&&jS w t)))=true):gZ w b t=xP w b t:=by grind[gZ]
theorem nY {w:AA}{b t:Int}(h:(nV w b t).2=false\/(aQp w b t).2=false\/(aVf w b t).2=false):xP w b t=(w,false):=by unfold xP;rcases h with h|h|h<;>rw[h]<;>simp
def bXx {w:AA}{b:Int}(a:w.sz<=100000000)(h1:aH w=true)(hs:((aG w b 0).2==0)=true):(aJ (aG w b 0).1 b=true/\(aG w b 0).1.Sites.length=2)/\(aG w b 0).1.sz<=300000000/\(aG w b 0).1.aAH.Log.length<=100000000/\∀s∈(aG w b 0).1.Sites,Qb s.sz:=by
 grind[aH6,AB.sz,AA.sz,bQi]
def bSq {w:AA}{b t:Int}(m:w.sz<=100000000)(hs:((aG w b 0).2==0)=true){o:AA}(ho:o=(aG w b 0).1){c:AP}(h1:nV w b t=({o with aAH:=c},true)){x:AF}(h2:aQp w b t=(x,true)):
  (Qb x.sz/\Qa ((mM x t true).sz)/\Qb c.sz/\Qb ((dD (mM x t true)).2.1.sz)/\Qb o.Mail.sz)/\
  xP w b t=bif (dD (mM x t true)).2.2&&(eU c (dD (mM x t true)).2.1).2 then(AA.mk o.Now o.Seed (o.Devices.set b.toNat (dD (mM x t true)).1) o.Stolen (eU c (dD (mM x t true)).2.1).1 (o.Sites.map (jZ t)) o.aAP o.Hosts o.Pin (rA o.Mail 4 1 o.Now).1,true) else(w,false):=by
 obtain⟨⟨a,n,p,q⟩,r,⟨b1,s⟩,u,v⟩:=bT9 (t:=t) hs;have hd:=a;simp only[aJ,ab,cg] at hd;have hi:b.toNat<(nU w b).Devices.length:=by omega
 have d:o=nU w b:=ho;have y:(wU (aQ (nU w b) b) (aVe w b t) (kS (aQ (nU w b) b).Store (aVe w b t))).1=x:=by have:=congrArg Prod.fst h2;exact this
 have e:(aQ (nU w b) b).sz<=(nU w b).sz:=(aAi a).2.2.1;have f:x.sz<=3*w.sz+21:=by
  grind[bNo,aQ,nU,aVe,kS]
 have h:=aYd x t true;have i:=aQl (mM x t true);have z:aZ7 w b t=AA.mk o.Now o.Seed (o.Devices.set b.toNat (mM x t true)) o.Stolen c (o.Sites.map (jZ t)) o.aAP o.Hosts o.Pin o.Mail:=by unfold aZ7;rw[h1,h2]
 have j:aQ (aZ7 w b t) b=mM x t true:=by
  grind[aQ,List.getD,List.getElem?_set_self]
 have k:c.sz<=({o with aAH:=c}:AA).sz:=by grind[AA.sz,AP.sz]
 have l:c.sz<=16*w.sz+34:=by grind
 grind[dD,mM,eU,M9,List.set_set,upF,aVf,aZ7,xP,AJ.sz,nU,AU.sz,AA.sz]
def bJa {h:Int}{p r:List AB}{s:AB}(a:Qb s.sz):Qa s.Accounts.length:=by grind[AB.sz]
def aSe (w:AA)(b t:Int)(v:w.sz<=100000000):Sr w b t=some (gZ w b t):=by
 have a:Qa w.sz:=by omega
 unfold Sr;simp only[bd_s,aA (show Qd w.sz by omega),aA a,bne];cases hs:((aG w b 0).2==0) with
 |false=>rw[oU (by rw[hs];rfl)];rfl
 |true=>
 obtain⟨⟨h1,h2⟩,_⟩:=lW hs;rw[bK6 h1 h2];simp only[ah,ac,bd_s];cases i:bU w b with
 |true=>rw[oU (by rw[hs,i];rfl)];rfl
 |false=>
 cases m:(b==t) with
 |true=>rw[oU (by rw[hs,i,m];rfl)];rfl
 |false=>
 rw[aA (WOk.of' a)];cases d:jS w t with
 |false=>rw[oU (by rw[hs,i,m,d];rfl)];rfl
 |true=>
 rw[bB7 (by rw[hs,i,m,d];rfl)];have ht:aJ w t=true:=by unfold jS at d;rw[ab] at d;exact d.1
 obtain⟨⟨z,G⟩,T,V,H⟩:=bXx v h1 hs;simp only[ah,ac,bd_s,kP ht,kP z,aA (show Qb ((aG w b 0).1.aAH.Log.length) by omega)];have n:=qN (aG w b 0).1.aAH.Log 2 (bI (aQ w t).Store) (aQ (aG w b 0).1 b).Store;obtain⟨l,hl⟩:∃l,l=gY (aG w b 0).1.aAH.Log 2 (bI (aQ w t).Store) (aQ (aG w b 0).1 b).Store:=⟨_,rfl⟩;obtain⟨e,he⟩:∃e,e=iI l.1 (kS (aQ (aG w b 0).1 b).Store l.1) (IntKind.i64.wrap (1000+IntKind.i64.wrap (10*(l.1.length:Int)))):=⟨_,rfl⟩;obtain⟨c,f⟩:∃c,c=mZ (aG w b 0).1.aAH l.1 e.1:=⟨_,rfl⟩;have j:nV w b t=bif l.2&&(e.2&&c.2) then({(aG w b 0).1 with aAH:=c.1},true) else((aG w b 0).1,false):=by rw[f,he,hl];rfl
 have AL:aVe w b t=l.1:=by rw[hl];rfl
 rw[<-hl] at n ⊢;have o:=Rk l.1 (kS (aQ (aG w b 0).1 b).Store l.1) (IntKind.i64.wrap (1000+IntKind.i64.wrap (10*(l.1.length:Int))));have I:=Ij (aG w b 0).1;rw[aA (show([311]:List Int).length<=34359738300 by simp),bd_s,aA (show Qa l.1.length by omega),bd_s,bd_s,aA (show Qb l.1.length by omega),bd_s];rw[show rC (bJ (aQ (aG w b 0).1 b).Store.Seed [311]) (bA l.1)=kS (aQ (aG w b 0).1 b).Store l.1 from rfl];rw[<-he] at o ⊢;rw[aA (show Qa ((aG w b 0).1.aAH.sz)/\Qa l.1.length/\Qa e.1.sz from⟨by omega,by omega,by omega⟩),bd_s,<-f];cases k:l.2 with
 |false=>rw[nY (.inl (by rw[j,k];rfl))];rfl
 |true=>
 cases q:e.2 with
 |false=>rw[nY (.inl (by rw[j,k,q];rfl))];rfl
 |true=>
 cases A:c.2 with
 |false=>rw[nY (.inl (by rw[j,k,q,A];rfl))];rfl
 |true=>
 have u:nV w b t=({(aG w b 0).1 with aAH:=c.1},true):=by rw[j,k,q,A];rfl
 obtain⟨k1,k2,k3,k4⟩:=aAi z;obtain⟨x,B⟩:∃x,x=wU (aQ (aG w b 0).1 b) l.1 (kS (aQ (aG w b 0).1 b).Store l.1):=⟨_,rfl⟩;have D:aQp w b t=x:=by rw[B,<-AL];rfl
 simp only[ah,ac,bd_s,aA (show Qa ((aQ (aG w b 0).1 b).sz)/\Qa l.1.length from⟨by omega,by omega⟩)];rw[<-B];cases F:x.2 with
 |false=>rw[nY (.inr (.inl (by rw[D,F])))];rfl
 |true=>
 obtain⟨⟨J,K,L,M,O⟩,AE⟩:=bSq v hs rfl u (x:=x.1) (by rw[D,<-F]);have q1:∀y:AF,aN ((aG w b 0).1.Devices.set b.toNat y) b=some y:=λy=>by rw[jO k1 (by rw[ay];exact k2)];simp
 rw[ah,ac,bI9 (h:=t) (l:=(aG w b 0).1.Sites) (N:=2) G (by omega) H (λrec p s r hp hzs=>by
  simp only[au (show((p.length:Nat):Int)<2 by omega),ae,aYj,bd_s,aA (bJa (h:=t) (p:=p) (r:=r) hzs)];cases hc:decide (aF s 1>=0) with
  |false=>simp only[ac,bd_s,jZ,hc]
  |true=>
   obtain⟨Q,R⟩:=bSp hzs hc;simp only[ae,Q,bd_s,aA R,aNc,jZ,hc]) (λrec S=>rfl)]
 simp only[bd_s,q1,aA J,aA K,aA O,eK,aA (show Qb c.1.sz/\Qb ((dD (mM x.1 t true)).2.1.sz) from⟨L,M⟩)];rw[AE];cases(dD (mM x.1 t true)).2.2<;>cases(eU c.1 (dD (mM x.1 t true)).2.1).2<;>rfl
def bXy {w:AA}{b t:Int}(h2:aJ w b=true)(ht:aJ w t=true)(a:(b==t)=false):aJ (aG w b 0).1 t=true/\aQ (aG w b 0).1 t=aQ w t:=by
 grind[aH,aJ,List.length_set,aQ,List.getD,List.getElem?_set_ne,aG]
def bB8 {w:AA}{b t:Int}(h:(aH w&&aJ w b)=false):gZ w b t=(w,false):=by
 grind[aG,lW,oU]
def aSf (w:AA)(b t:Int)(m:w.sz<=100000000):Tw w b t=some (gZ w b t):=by
 have a:Qa w.sz:=by omega
 unfold Tw;simp only[aA a,bd_s];cases h1:aH w with
 |false=>simp_all[bB8]
 |true=>
 cases h2:aJ w b with
 |false=>simp_all[bB8]
 |true=>
 cases n:(b==t) with
 |true=>simp_all[oU]
 |false=>
 rw[bK6 h1 h2];cases u:bU w b with
 |true=>simp_all[oU]
 |false=>
 rw[aA (WOk.of' a)];cases v:jS w t with
 |false=>simp_all[oU]
 |true=>
 simp only[ah,ac,bd_s,aA (show Qd w.sz by omega),bne];cases hs:((aG w b 0).2==0) with
 |false=>grind[oU]
 |true=>
 rw[bB7 (by rw[hs,u,n,v];rfl)];have ht:aJ w t=true:=by grind[jS]
 obtain⟨⟨o,J⟩,K,L,z⟩:=bXx m h1 hs;obtain⟨d1,d2⟩:=bXy h2 ht n;simp only[ah,ac,bd_s,kP d1,kP o,d2,aA (show Qb ((aG w b 0).1.aAH.Log.length) by omega)];have i:=qN (aG w b 0).1.aAH.Log 2 (bI (aQ w t).Store) (aQ (aG w b 0).1 b).Store;obtain⟨l,hl⟩:∃l,l=gY (aG w b 0).1.aAH.Log 2 (bI (aQ w t).Store) (aQ (aG w b 0).1 b).Store:=⟨_,rfl⟩;obtain⟨e,he⟩:∃e,e=iI l.1 (kS (aQ (aG w b 0).1 b).Store l.1) (IntKind.i64.wrap (1000+IntKind.i64.wrap (10*(l.1.length:Int)))):=⟨_,rfl⟩;obtain⟨c,f⟩:∃c,c=mZ (aG w b 0).1.aAH l.1 e.1:=⟨_,rfl⟩;have M:nV w b t=bif l.2&&(e.2&&c.2) then({(aG w b 0).1 with aAH:=c.1},true) else((aG w b 0).1,false):=by rw[f,he,hl];rfl
 have AL:aVe w b t=l.1:=by rw[hl];rfl
 rw[<-hl] at i ⊢;have j:=Rk l.1 (kS (aQ (aG w b 0).1 b).Store l.1) (IntKind.i64.wrap (1000+IntKind.i64.wrap (10*(l.1.length:Int))));have A:=Ij (aG w b 0).1;cases O:l.2 with
 |false=>grind[nY]
 |true=>
 rw[ah,ac,aA (show([311]:List Int).length<=34359738300 by simp),bd_s,aA (by omega),bd_s,aA (by omega),bd_s];rw[show rC (bJ (aQ (aG w b 0).1 b).Store.Seed [311]) (bA l.1)=kS (aQ (aG w b 0).1 b).Store l.1 from rfl];rw[<-he] at j ⊢;cases Q:e.2 with
 |false=>grind[nY]
 |true=>
 rw[ah,ac,aA (by omega),bd_s,<-f];cases R:c.2 with
 |false=>grind[nY]
 |true=>
 have k:nV w b t=({(aG w b 0).1 with aAH:=c.1},true):=by simp_all
 obtain⟨k1,k2,k3,k4⟩:=aAi o;obtain⟨x,q⟩:∃x,x=wU (aQ (aG w b 0).1 b) l.1 (kS (aQ (aG w b 0).1 b).Store l.1):=⟨_,rfl⟩;have B:aQp w b t=x:=by rw[q,<-AL];rfl
 simp only[ah,ac,bd_s,aA (show Qa ((aQ (aG w b 0).1 b).sz)/\Qa l.1.length from⟨by omega,by omega⟩)];rw[<-q];cases D:x.2 with
 |false=>grind[nY]
 |true=>
 obtain⟨⟨S,F,G,H,I⟩,AE⟩:=bSq m hs rfl k (x:=x.1) (by rw[B,<-D]);have q1:∀y:AF,aN ((aG w b 0).1.Devices.set b.toNat y) b=some y:=(by simp[jO,k1,ay,k2]);rw[ah,ac,bI9 (h:=t) (l:=(aG w b 0).1.Sites) (N:=(aG w b 0).1.Sites.length) rfl (by omega) z (λrec p s r hp hzs=>by
  simp only[bD (show p.length<(aG w b 0).1.Sites.length by omega),ae,aYj,bd_s,aA (bJa (h:=t) (p:=p) (r:=r) hzs)]
  grind[decide,aF,bd_s,jZ,bSp,hzs,aA,aNc]) (by simp)]
 rw[bd_s,bSm (d:=x.1) k1 (by simp[*]) (by simp) (by omega),eK];simp only[bd_s,q1,aA F,aA I,eK,aA (show Qb c.1.sz/\Qb ((dD (mM x.1 t true)).2.1.sz) from⟨G,H⟩)];rw[AE];cases(dD (mM x.1 t true)).2.2<;>cases(eU c.1 (dD (mM x.1 t true)).2.1).2<;>rfl
def vU (b:AM)(i:Int):vE b i=some (iY b i):=by unfold vE;rw[aA (by simp)];rfl
def F7:= @vU
def Da (s:AN):Bj s=some (yE s):=by unfold Bj yE;cases bE s.Vendor 1 9<;>cases bE s.Serial 0 1000000<;>cases dH s.Seed<;>rfl
def aEo:= @Da
def Uq (a:A0)(h:Qb a.Site.size/\Qb a.aAL.size):rF a=some (aW a):=by unfold rF aW;rw[aA h.1,aA h.2];cases a.Present<;>rfl
def Ur (a:A0)(h:Qb a.Site.size/\Qb a.aAL.size):rM a=some (aW a):=by unfold rM aW Hg;rw[aA h.1,aA h.2];cases a.Present<;>rfl
def zM (b:AM)(i:Int)(h:Qa b.Open.length):yN b i=some (bP b i):=by unfold yN;exact L8 (l:=b.Open) (λc=>c.Id==i) (by omega) (λrec j a=>by simp only[bD a,ae,aD a,bd_s]) (λrec=>by simp only[uT,ac])
def aAo:= @zM
def F8 (b:AM)(i n:Int)(h:Qa b.sz):vD b i n=some (lX b i n):=by
 have hl:b.Open.length<=b.sz:=by simp only[AM.sz];omega
 have a:∀(x y:List AY),x.length+y.length<=34359738400->aO x y:=λx y h=>by unfold aO;omega
 unfold vD lX;rw[aA h,bd_s,aA h,bd_s];cases dB b with
 |false=>rfl
 |true=>
  cases b.Next==1000000 with
  |true=>rfl
  |false=>
   cases bE i 0 1000000 with
   |false=>rfl
   |true=>
    cases bE n 0 1000000 with
    |false=>rfl
    |true=>
     simp only[ah,bc,dl,ac,ae,bd_s];cases hd:decide ((b.Open.length:Int)>=16) with
     |false=>rw[ac,aA (a _ _ (by simp only[aw,bj];omega))];rfl
     |true=>have c:=of_decide_eq_true hd;rw[ae,aA (show gI b.Open 1 from⟨by omega,by omega⟩),aA (a _ _ (by simp only[cr,aw,bj];omega))];rfl
def F9 (b:AM)(i n:Int)(h:Qa b.sz):vN b i n=some (lX b i n):=by
 have hl:b.Open.length<=b.sz:=by simp[AM.sz]
 have a:∀(x y:List AY),x.length+y.length<=34359738400->aO x y:=(by grind[aO]);unfold vN lX;rw[aA h,bd_s,aA h,bd_s];cases hb:dB b with
 |false=>rfl
 |true=>
  have c:b.Open.length<=16:=by
   grind[dB]
  cases b.Next==1000000 with
  |true=>rfl
  |false=>
   cases bE i 0 1000000 with
   |false=>rfl
   |true=>
    cases bE n 0 1000000 with
    |false=>rfl
    |true=>
     simp only[ah,bc,dl,ac,ae,bd_s];by_cases hd:b.Open.length=16
     ·rw[show((b.Open.length:Int)==16)=true by rw[hd];rfl,show decide ((b.Open.length:Int)>=16)=true from au (by omega),ae,ae,aA (show gI b.Open 1 from⟨by omega,by omega⟩),aA (a _ _ (by simp only[bj,cr];omega)),bd_s,aA (a _ _ (by simp only[bp,cr,aw,bj];omega))];rfl
     ·rw[show((b.Open.length:Int)==16)=false from cp.2 (by omega),show decide ((b.Open.length:Int)>=16)=false from av (by omega),ac,ac,bd_s,aA (by grind)];rfl
def aAp (b:AM)(id acc now:Int)(h:Qa b.sz):yO b id acc now=some (yD b id acc now):=by
 have hl:b.Open.length<=b.sz:=by simp only[AM.sz];omega
 have c:∀(x y:List AY),x.length+y.length<=34359738400->aO x y:=λx y h=>by unfold aO;omega
 unfold yO yD;rw[aA (show Qa b.Open.length by omega),bd_s,aA h,bd_s];cases dB b with
 |false=>simp only[bc,ae,bd_s,Bool.true_or];rw[aA h];rfl
 |true=>
  simp only[ah,ac,bd_s,cy];cases d:decide (bP b id<0) with
  |true=>rw[ae,ae,aA h];rfl
  |false=>
   obtain⟨h0,h1⟩:=lM (i:=0) d;have h0:0<=bP b id:=h0;have h1:bP b id<(b.Open.length:Int):=by have:bP b id<0+(b.Open.length:Int):=h1;omega
   have hk:IntKind.i64.wrap (bP b id+1)=(((bP b id).toNat+1:Nat):Int):=by rw[aI (by omega) (by omega)];omega
   have a:aN b.Open (bP b id)=some (aQq b (bP b id)):=nP h0 h1;rw[ac,ac,hk,a,aA (show gI b.Open (bP b id) from⟨by omega,by omega⟩),aA (show gI b.Open (((bP b id).toNat+1:Nat):Int) from⟨by omega,by omega⟩),
    aA (c _ _ (by simp only[bj,cb];omega)),aA (c _ _ (by simp only[bp,cb,cr];omega)),bd_s,bd_s,ci]
   cases(aQq b (bP b id)).aAF==acc<;>rfl
def aAq (b:AM)(id acc now:Int)(h:Qa b.sz):zB b id acc now=some (yD b id acc now):=by
 have hl:b.Open.length<=b.sz:=by simp[AM.sz]
 have d:∀(x y:List AY),x.length+y.length<=34359738400->aO x y:=(by grind[aO]);unfold zB yD;rw[aA h,bd_s,aA (by assumption),bd_s,aA h,bd_s];cases dB b with
 |false=>rfl
 |true=>
  simp only[ah,ac,bd_s,cy];cases c:decide (bP b id<0) with
  |true=>rfl
  |false=>
   obtain⟨h0,h1⟩:=lM (i:=0) c;have h0:0<=bP b id:=h0;have h1:bP b id<(b.Open.length:Int):=by grind[bP,id]
   have hk:IntKind.i64.wrap (bP b id+1)=(((bP b id).toNat+1:Nat):Int):=by grind[aI]
   have a:aN b.Open (bP b id)=some (aQq b (bP b id)):=nP h0 h1;rw[ac,ac,hk,a,bd_s,aA (by grind[gI,bP,id]),aA (by grind[gI,bP,id]),
    aA (by grind),aA (by grind),ci]
   cases(aQq b (bP b id)).aAF==acc<;>rfl
def aAr (s:AN)(z:ByteArray)(i:Int)(l:List Int)(h:Qb z.size/\Qc l.length):yL s z i l=some (lY s z i l):=by
 have a:∀(x y:List Int),x.length+y.length<=34359738400->aO x y:=λx y h=>by unfold aO;omega
 unfold yL lY;cases yE s with
 |false=>rfl
 |true=>
  simp only[ah,ac,bd_s,cA];cases s.Counter==1000000 with
  |true=>rfl
  |false=>simp only[aA h.1,bd_s,ac,bc,ae];rw[aA (a _ _ (by simp only[bj];omega)),aA (a _ _ (by simp only[bp,aw,bj];omega)),aA (by simp only[bp,az,aw,bj];omega)];rfl
def aAs (s:AN)(z:ByteArray)(i:Int)(l:List Int)(h:Qb z.size/\Qc l.length):yZ s z i l=some (lY s z i l):=by
 unfold yZ lY;cases yE s with
 |false=>rfl
 |true=>
  simp only[ah,ac,bd_s,cA];cases s.Counter==1000000 with
  |true=>rfl
  |false=>
   simp only[aA h.1,bd_s,ac,bc,ae];have e:pX l [[IntKind.i64.wrap (s.Counter+1)]]=l++[IntKind.i64.wrap (s.Counter+1)]:=by simp[pX]
   rw[aA (by grind),bd_s,e,aA (by grind)];rfl
def aNg (s:AB)(id now:Int)(h:Qa s.sz):Li s id now=some (pQ s id now):=by
 have hb:Qa s.Book.sz:=by simp only[AB.sz,AM.sz] at h ⊢;omega
 have hl:Qa s.Accounts.length:=by simp only[AB.sz] at h;omega
 unfold Li pQ;rw[aA h,bd_s,aA hb,bd_s,aA h,bd_s];cases dN s with
 |false=>rfl
 |true=>
  simp only[ah,ac,cA];rw[aA hl,bd_s];cases decide (aF s id<0) with
  |true=>rfl
  |false=>cases(lX s.Book id now).2.2<;>rfl
def aNh (s:AB)(id now:Int)(h:Qa s.sz):Mw s id now=some (pQ s id now):=by
 grind[dN,Bool.not_true,aA,bd_s,decide,aF,id,lX,Mw,pQ,AB.sz,AM.sz]
def aEp (a:AH)(m:Int)(h:Qa a.sz):Bn a m=some (sQ a m):=by
 have hl:Qa a.Credentials.length:=by simp only[AH.sz] at h;omega
 unfold Bn sQ;rw[aA h,bd_s,kN (l:=a.Credentials) (λc=> !c.Cut) (.inl true) (.inr ()) (by omega) (λrec i hi=>by simp only[bD hi,ae,aD hi,bd_s]) (λrec=>by simp only[uT,ac])];cases aS a with
 |false=>rfl
 |true=>
  simp only[ah,ac,bd_s,cA];rw[show bE m a.Minimum 3=(decide (a.Minimum<=m)&&decide (m<=3)) from rfl];cases decide (a.Minimum<=m)<;>cases decide (m<=3)<;>try rfl
  cases hm:m==3<;>cases a.Credentials.any λc=> !c.Cut<;>simp[hm,nx,bne]
def aEq (a:AH)(m:Int)(h:Qa a.sz):Ch a m=some (sQ a m):=by
 have hl:Qa a.Credentials.length:=by assumption
 unfold Ch sQ;rw[aA h,bd_s,kN (l:=a.Credentials) (λc=> !c.Cut) (.inl true) (.inr ()) (by omega) (by grind[bD,aD,bd_s]) (by simp)]
 grind[aS,bE,Bool.not_true,bd_s,decide,decide_eq_true,decide_eq_false,nx,bne]
def aWo (o:AQ)(h:Qa o.Host.size):Yy o=some (iA o):=by unfold Yy iA;rw[aA h,bd_s];cases fB o.Host<;>rfl
def aWp (o:AQ):Zj o=some (iA o):=by unfold Zj iA;cases fB o.Host<;>rfl
def aEr (o:AQ)(h:gU o):aDm o=some (kW o):=by obtain⟨k,hk,rfl⟩:=h;rcases(show k=0\/k=1\/k=2\/k=3\/k=4\/k=5 by omega) with rfl|rfl|rfl|rfl|rfl|rfl<;>kernel_rfl
def aEs (o:AQ)(h:gU o):aDp o=some (kW o):=by obtain⟨k,hk,rfl⟩:=h;rcases(show k=0\/k=1\/k=2\/k=3\/k=4\/k=5 by omega) with rfl|rfl|rfl|rfl|rfl|rfl<;>kernel_rfl
def bFp (o:AQ)(z:ByteArray)(h:sP o z):bEy o z=some (oM o z):=by obtain⟨⟨k,hk,rfl⟩,j,a,rfl⟩:=h;rcases a with rfl|rfl<;>rcases(show k=0\/k=1\/k=2\/k=3\/k=4\/k=5 by omega) with rfl|rfl|rfl|rfl|rfl|rfl<;>kernel_rfl
def bFq (o:AQ)(z:ByteArray)(h:sP o z):bE1 o z=some (oM o z):=by obtain⟨⟨k,hk,rfl⟩,j,a,rfl⟩:=h;rcases a with rfl|rfl<;>rcases(show k=0\/k=1\/k=2\/k=3\/k=4\/k=5 by omega) with rfl|rfl|rfl|rfl|rfl|rfl<;>kernel_rfl
def dX {α β:Type}{x:Option α}{f:α->Option β}{a:α}{r:Option β}(h:x=some a)(h2:f a=r):bd x f=r:=by simp[*]
def aHb {α β:Type}{x:Option (α⊕β)}{f:β->Option α}{b:β}{r:Option α}(h:x=some (.inr b))(h2:f b=r):nx x f=r:=by simp[*]
def bB9 {τ:Type}(n:Nat){F:(Nat->Option τ)->Nat->Option τ}{b:τ}(hn:n<=18446744073709551616)(a:∀rec i,i<n->F rec i=rec (i+1))(c:∀rec,F rec n=some b):bF FUEL F 0=some b:=by have:=kN (l:=List.replicate n ()) (λ_=>false) b b (by simpa using hn) (F:=F) (λrec i hi=>by rw[a rec i (by simpa using hi)];rfl) (λrec=>by simpa using c rec);rw[this];cases(List.replicate n ()).any λ_=>false<;>rfl
def cD1 {p:Nat->Prop}(h:p 0/\p 1/\p 2/\p 3/\p 4/\p 5/\p 6/\p 7/\p 8/\p 9/\p 10/\p 11):∀i,i<12->p i:=λi hi=>by
 match i,hi with
 |0,_=>exact h.1
 |1,_=>exact h.2.1
 |2,_=>exact h.2.2.1
 |3,_=>exact h.2.2.2.1
 |4,_=>exact h.2.2.2.2.1
 |5,_=>exact h.2.2.2.2.2.1
 |6,_=>exact h.2.2.2.2.2.2.1
 |7,_=>exact h.2.2.2.2.2.2.2.1
 |8,_=>exact h.2.2.2.2.2.2.2.2.1
 |9,_=>exact h.2.2.2.2.2.2.2.2.2.1
 |10,_=>exact h.2.2.2.2.2.2.2.2.2.2.1
 |11,_=>exact h.2.2.2.2.2.2.2.2.2.2.2
 |n+12,h=>omega
def lt8 {p:Nat->Prop}(h:p 0/\p 1/\p 2/\p 3/\p 4/\p 5/\p 6/\p 7):∀i,i<8->p i:=λi hi=>by
 match i,hi with
 |0,_=>exact h.1
 |1,_=>exact h.2.1
 |2,_=>exact h.2.2.1
 |3,_=>exact h.2.2.2.1
 |4,_=>exact h.2.2.2.2.1
 |5,_=>exact h.2.2.2.2.2.1
 |6,_=>exact h.2.2.2.2.2.2.1
 |7,_=>exact h.2.2.2.2.2.2.2
 |n+8,h=>omega
def rT (k:Nat)(h:gU (mO k))(c:iA (mO k)=true)(he:(kW (mO k)).toList=(Aj k).toList):
  (bd (bif (!iA (mO k)) then(some (true)) else(bd (gd (gU (mO k)) (some (kW (mO k)))) λa=>some (!a.toList==(Aj k).toList))) λb=>bif b then(some ((AQ.mk false (ByteArray.mk #[]) (0:Int),false))) else(some (mO k,true)))=some (mO k,true):=by
 simp[*]
def aJi (z:ByteArray)(h:bEu z):qP z=some (oN z):=by
 obtain rfl|⟨k,hk,rfl⟩:=h
 ·unfold qP;refine dX (a:=(⟨#[]⟩,false,⟨#[]⟩,0)) (by kernel_rfl) ?_;refine aHb (b:=(⟨#[]⟩,(0:Int))) (bB9 0 (by omega) (λrec i hi=>by omega) (λrec=>by kernel_rfl)) ?_
  kernel_rfl
 ·unfold qP;rcases(show k=0\/k=1\/k=2\/k=3 by omega) with rfl|rfl|rfl|rfl
  ·refine dX (a:=((mO 0).Host,true,⟨#[]⟩,443)) (by kernel_rfl) ?_;refine aHb (b:=((mO 0).Host,(443:Int))) (bB9 12 (by omega) (λrec=>cD1 (by refine⟨?_,?_,?_,?_,?_,?_,?_,?_,?_,?_,?_,?_⟩<;>kernel_rfl)) (λrec=>by kernel_rfl)) ?_;refine dX (a:=true) (by kernel_rfl) ?_;exact(rT 0 ⟨0,by decide,rfl⟩ (by kernel_rfl) (by kernel_rfl)).trans (by kernel_rfl)
  ·refine dX (a:=((mO 1).Host,true,⟨#[]⟩,443)) (by kernel_rfl) ?_;refine aHb (b:=((mO 1).Host,(443:Int))) (bB9 12 (by omega) (λrec=>cD1 (by refine⟨?_,?_,?_,?_,?_,?_,?_,?_,?_,?_,?_,?_⟩<;>kernel_rfl)) (λrec=>by kernel_rfl)) ?_;refine dX (a:=true) (by kernel_rfl) ?_;exact(rT 1 ⟨1,by decide,rfl⟩ (by kernel_rfl) (by kernel_rfl)).trans (by kernel_rfl)
  ·refine dX (a:=((mO 2).Host,true,⟨#[]⟩,443)) (by kernel_rfl) ?_;refine aHb (b:=((mO 2).Host,(443:Int))) (bB9 8 (by omega) (λrec=>lt8 (by refine⟨?_,?_,?_,?_,?_,?_,?_,?_⟩<;>kernel_rfl)) (λrec=>by kernel_rfl)) ?_;refine dX (a:=true) (by kernel_rfl) ?_;exact(rT 2 ⟨2,by decide,rfl⟩ (by kernel_rfl) (by kernel_rfl)).trans (by kernel_rfl)
  ·refine dX (a:=((mO 3).Host,true,⟨#[]⟩,443)) (by kernel_rfl) ?_;refine aHb (b:=((mO 3).Host,(443:Int))) (bB9 8 (by omega) (λrec=>lt8 (by refine⟨?_,?_,?_,?_,?_,?_,?_,?_⟩<;>kernel_rfl)) (λrec=>by kernel_rfl)) ?_;refine dX (a:=true) (by kernel_rfl) ?_;exact(rT 3 ⟨3,by decide,rfl⟩ (by kernel_rfl) (by kernel_rfl)).trans (by kernel_rfl)
def aJj (z:ByteArray)(h:bEu z):Hl z=some (oN z):=by
 obtain rfl|⟨k,hk,rfl⟩:=h
 ·kernel_rfl
 ·unfold Hl;rcases(show k=0\/k=1\/k=2\/k=3 by omega) with rfl|rfl|rfl|rfl
  ·refine dX (a:=(Aj 0,false)) (by kernel_rfl) ?_;refine dX (a:=((mO 0).Host,true,true,⟨#[]⟩,443)) (by kernel_rfl) ?_;simp only[ah,ac];refine dX (a:=((mO 0).Host,⟨#[]⟩,false)) (by kernel_rfl) ?_;refine aHb (b:=(443:Int)) (by kernel_rfl) ?_;exact(rT 0 ⟨0,by decide,rfl⟩ (by kernel_rfl) (by kernel_rfl)).trans (by kernel_rfl)
  ·refine dX (a:=(Aj 1,false)) (by kernel_rfl) ?_;refine dX (a:=((mO 1).Host,true,true,⟨#[]⟩,443)) (by kernel_rfl) ?_;simp only[ah,ac];refine dX (a:=((mO 1).Host,⟨#[]⟩,false)) (by kernel_rfl) ?_;refine aHb (b:=(443:Int)) (by kernel_rfl) ?_;exact(rT 1 ⟨1,by decide,rfl⟩ (by kernel_rfl) (by kernel_rfl)).trans (by kernel_rfl)
  ·refine dX (a:=(Aj 2,false)) (by kernel_rfl) ?_;refine dX (a:=((mO 2).Host,true,true,⟨#[]⟩,443)) (by kernel_rfl) ?_;simp only[ah,ac];refine dX (a:=((mO 2).Host,⟨#[]⟩,false)) (by kernel_rfl) ?_;refine aHb (b:=(443:Int)) (by kernel_rfl) ?_;exact(rT 2 ⟨2,by decide,rfl⟩ (by kernel_rfl) (by kernel_rfl)).trans (by kernel_rfl)
  ·refine dX (a:=(Aj 3,false)) (by kernel_rfl) ?_;refine dX (a:=((mO 3).Host,true,true,⟨#[]⟩,443)) (by kernel_rfl) ?_;simp only[ah,ac];refine dX (a:=((mO 3).Host,⟨#[]⟩,false)) (by kernel_rfl) ?_;refine aHb (b:=(443:Int)) (by kernel_rfl) ?_;exact(rT 3 ⟨3,by decide,rfl⟩ (by kernel_rfl) (by kernel_rfl)).trans (by kernel_rfl)
def bOe {o:AQ}{z:ByteArray}(h:sP o z):gU o/\Qb z.size/\Qb ((kW o).size):=by
 obtain⟨ho,j,a,rfl⟩:=h;refine⟨ho,?_,?_⟩
 ·rcases a with rfl|rfl<;>exact(show Qb 8 by omega)
 ·obtain⟨k,hk,rfl⟩:=ho;have:(kW (mO k)).size<=40:=by rcases(show k=0\/k=1\/k=2\/k=3\/k=4\/k=5 by omega) with rfl|rfl|rfl|rfl|rfl|rfl<;>decide
  omega
def aAt (s:AN)(o:AQ)(z:ByteArray)(i c:Int)(b:Bool)(h:sP o z):yM s o z i c b=some (qG s o z i c b):=by
 obtain⟨h1,h2,d⟩:=bOe h;unfold yM qG bKm;have hm:∀a,Qc ((aW a).length):=λa=>by simp[aW]
 rw[aA h1,bd_s,aA ⟨h2,d⟩,bd_s,aA ⟨h2,hm _⟩,bd_s,aA h,bd_s];generalize lY s z i (aW (A0.mk z (kW o) c i b 0 0))=q;obtain⟨q1,q2,q3⟩:=q;cases oM o z<;>cases q3<;>rfl
def aAu (s:AN)(o:AQ)(z:ByteArray)(i c:Int)(b:Bool)(h:sP o z):zA s o z i c b=some (qG s o z i c b):=by
 obtain⟨h1,h2,d⟩:=bOe h;have hm:∀a,Qc ((aW a).length):=(by simp[aW]);unfold zA qG;rw[aA h,bd_s];cases oM o z with
 |false=>rfl
 |true=>simp only[ah,ac,cA];rw[aA h1,bd_s,aA ⟨h2,d⟩,bd_s,aA ⟨h2,hm _⟩,bd_s];show(bif !(lY s z i (aW (bKm s o z i c b))).2.2 then _ else _)=_;cases(lY s z i (aW (bKm s o z i c b))).2.2<;>rfl
def bJb {k:Nat}(hk:k<4):oN (Aj k)=(mO k,true)/\Qb ((Aj k).size):=by
 rcases(show k=0\/k=1\/k=2\/k=3 by omega) with rfl|rfl|rfl|rfl
 ·exact⟨by kernel_rfl,show Qb 20 by omega⟩
 ·exact⟨by kernel_rfl,show Qb 20 by omega⟩
 ·exact⟨by kernel_rfl,show Qb 16 by omega⟩
 ·exact⟨by kernel_rfl,show Qb 16 by omega⟩
def bCa {j:Int}(a:j=0\/j=1){k:Nat}(hk:k<4):oN (Aj k)=(mO k,true)/\Qb ((aC j).size)/\Qb ((Aj k).size):=by refine⟨(bJb hk).1,?_,(bJb hk).2⟩;rcases a with rfl|rfl<;>exact(show Qb 8 by omega)
def G5 (b:Int)(a:A0)(z:ByteArray)(c cnt:Int)(h:AsP a z):nA b a z c cnt=some (kX b a z c cnt):=by
 obtain⟨j,d,rfl,rfl|⟨hs,k,hk,ho,e⟩⟩:=h
 ·unfold nA;rw[aA (show bEu bUa.aAL from .inl rfl)];rcases d with rfl|rfl<;>kernel_rfl
 ·obtain⟨h1,h2,f⟩:=bCa d hk;have hm:(aW a).length=6:=by simp[aW]
  unfold nA kX;rw[aA (show bEu a.aAL from .inr ⟨k,hk,ho⟩),bd_s,show oN a.aAL=(mO k,true) by rw[ho];exact h1,show(a.Site.toList==(aC j).toList)=true by rw[hs];simp];simp only[ah,ac];rw[aA (show sP (mO k) (aC j) from⟨⟨k,by omega,rfl⟩,j,d,rfl⟩),bd_s,e,bd_s];simp only[ah,ac,bne];rw[aA (show Qb a.Site.size/\Qb a.aAL.size by rw[hs,ho];exact⟨h2,f⟩),bd_s,aA (show aO (aW a) [a.Counter] by unfold aO;simp only[hm,aw,bj];omega),aA (show Qb ((aW a++[a.Counter]).length) by simp only[az,hm,aw,bj];omega),bd_s];cases a.Present<;>cases a.aAK==c<;>cases kR b (aW a++[a.Counter]) a.Signature<;>cases decide (a.Counter<=cnt)<;>rfl
def G6 (b:Int)(a:A0)(z:ByteArray)(c cnt:Int)(h:AsP a z):nC b a z c cnt=some (kX b a z c cnt):=by
 obtain⟨j,d,rfl,rfl|⟨hs,k,hk,ho,f⟩⟩:=h
 ·unfold nC;rw[aA (show bEu bUa.aAL from .inl rfl)];rcases d with rfl|rfl<;>kernel_rfl
 ·obtain⟨h1,h2,l⟩:=bCa d hk;have hm:(aW a).length=6:=by simp[aW]
  have e:pX (aW a) [[a.Counter]]=aW a++[a.Counter]:=by simp[pX]
  have i:Qb a.Site.size/\Qb a.aAL.size:=by simp[*]
  unfold nC kX;rw[aA (by grind[bEu]),bd_s,show oN a.aAL=(mO k,true) by rw[ho];exact h1,show(a.Site.toList==(aC j).toList)=true by rw[hs];simp];simp only[ah,ac];rw[aA (by grind[sP,mO,aC]),bd_s,f,bd_s];simp only[ah,ac,bne,aA i,bd_s];rw[aA (show Kw (aW a) [[a.Counter]] by simp[Kw,hm]),bd_s,e,aA (show Qb ((aW a++[a.Counter]).length) by simp only[az,hm,aw,bj];omega),bd_s];cases a.Present<;>cases a.aAK==c<;>cases kR b (aW a++[a.Counter]) a.Signature<;>cases decide (a.Counter<=cnt)<;>rfl
theorem bQj {a:AH}{h:Int}(hk:decide (aU a h<0)=false):aN a.Credentials (aU a h)=some (iX a (aU a h))/\(aU a h).toNat<a.Credentials.length:=by have hr:=lM (p:=λc:AV=>c.Handle==h) (i:=0) (l:=a.Credentials) hk;exact⟨nP (by unfold aU;omega) (by unfold aU;omega),by unfold aU;omega⟩
def aAv (a:AH)(x:A0)(z:ByteArray)(c:Int)(h:AsP x z/\Qa a.sz):yP a x z c=some (nW a x z c):=by
 obtain⟨hp,b⟩:=h;have hl:Qa a.Credentials.length:=b;unfold yP nW;simp only[aA b,aA hl,bd_s];cases aS a with
 |false=>rfl
 |true=>
  cases hk:decide (aU a x.Handle<0) with
  |true=>rfl
  |false=>
   simp only[ah,ac,(bQj hk).1,bd_s,cy];cases(iX a (aU a x.Handle)).Cut with
   |true=>rfl
   |false=>simp only[aA hp,bd_s,ac];generalize kX (iX a (aU a x.Handle)).Public x z c (iX a (aU a x.Handle)).Counter=k;cases k==0<;>cases k==4<;>rfl
def aAw (a:AH)(x:A0)(z:ByteArray)(c:Int)(h:AsP x z/\Qa a.sz):zC a x z c=some (nW a x z c):=by
 obtain⟨hp,b⟩:=h;have hl:Qa a.Credentials.length:=b;unfold zC nW;simp only[aA b,aA hl,bd_s];cases aS a with
 |false=>rfl
 |true=>
  cases hk:decide (aU a x.Handle<0) with
  |true=>rfl
  |false=>
   simp only[ah,ac,(bQj hk).1,bd_s,cy]
   grind[iX,aU,aA,bd_s,kX,beq_eq_false_iff_ne,bQj]
theorem bSr {s:AB}{i:Int}(b:Qb s.sz)(h:decide (aF s i<0)=false):aN s.Accounts (aF s i)=some (iK s (aF s i))/\Qb ((iK s (aF s i)).sz)/\(aF s i).toNat<s.Accounts.length:=by
 have hr:=lM (p:=λa:AH=>a.Id==i) (i:=0) (l:=s.Accounts) h
 grind[AB.sz,iK,nP,aF,Ej,AH.sz]
def aJk (s:AB)(i c n:Int)(x:A0)(h:AsP x s.Name/\Qb s.sz):Gl s i c n x=some (qH s i c n x):=by
 obtain⟨hp,a⟩:=h;have b:Qa s.sz:=by omega
 have hb:Qa s.Book.sz:=by simp only[AB.sz,AM.sz] at a ⊢;omega
 have hl:Qa s.Accounts.length:=by simp only[AB.sz] at a;omega
 have d:aO s.Logins [i]:=by unfold aO;simp only[AB.sz] at a;simp only[aw,bj];omega
 unfold Gl qH;simp only[aA b,aA hl,aA hb,bd_s];cases dN s with
 |false=>rfl
 |true=>
  simp only[ah,ac,bd_s,cy];cases hk:decide (aF s i<0) with
  |true=>rfl
  |false=>
   obtain⟨e,f,j⟩:=bSr a hk;simp only[ac];cases(yD s.Book c i n).2 with
   |false=>rfl
   |true=>
    simp only[ah,ac,e,bd_s,aA (show Qa ((iK s (aF s i)).sz) by omega)];cases sQ (iK s (aF s i)) 3 with
    |false=>rfl
    |true=>
     simp only[ah,ac,aA (show AsP x s.Name/\Qa ((iK s (aF s i)).sz) from⟨hp,by omega⟩),bd_s,aA d,bne];cases hc:(nW (iK s (aF s i)) x s.Name (iY s.Book c)).2==0 with
     |false=>rfl
     |true=>rw[eq_of_beq hc];rfl
def aJl (s:AB)(i c n:Int)(x:A0)(h:AsP x s.Name/\Qb s.sz):Hm s i c n x=some (qH s i c n x):=by
 obtain⟨hp,b⟩:=h;have a:Qa s.sz:=by omega
 have hb:Qa s.Book.sz:=by grind[AB.sz,AM.sz]
 have hl:Qa s.Accounts.length:=by grind[AB.sz]
 have d:aO s.Logins [i]:=by grind[List.length_cons,List.length_nil,AB.sz,aO]
 unfold Hm qH;simp only[aA a,aA hl,aA hb,bd_s]
 grind[dN,Bool.not_true,bd_s,decide,aF,bSr,yD,aA,iK,sQ,AsP,bne,nW,iY]
def rU {w:AA}(h:aH w=true):w.Sites.length=2/\w.Stolen.length=w.Devices.length/\w.Devices.length<=6/\dR mK 0 w.Sites=false:=by
 grind[aH,bE,Bool.not_eq_true']
def aWq (w:AA)(d j:Int)(h:Qa w.sz):Yx w d j=some (dA w d j):=by
 unfold Yx dA;rw[aA h,bd_s];cases a:aH w with
 |false=>rfl
 |true=>
  obtain⟨h1,h2,c,_⟩:=rU a;have e:bE d 0 (IntKind.i64.wrap ((w.Devices.length:Int)-1))=aJ w d:=by
   rw[aI (by omega) (by omega)];unfold bE aJ;by_cases hd:d<(w.Devices.length:Int)
   ·rw[au hd,au (show d<=(w.Devices.length:Int)-1 by omega)]
   ·rw[av hd,av (show ¬d<=(w.Devices.length:Int)-1 by omega)]
  have b:bE j 0 1=iT w j:=by
   unfold bE iT;rw[h1,show((2:Nat):Int)=2 from rfl];by_cases hd:j<(2:Int)
   ·rw[au hd,au (show j<=1 by omega)]
   ·rw[av hd,av (show ¬j<=1 by omega)]
  rw[e,b,ae];cases aJ w d<;>cases iT w j<;>rfl
theorem Ez {w:AA}{d j:Int}(h:dA w d j=true):aN w.Stolen d=some (bU w d):=by simp_all[List.getD,aa,jO,bU,aJ,ab,cg,rU,dA]
def bFr (w:AA)(d j:Int)(b:Bool)(h:Qa w.sz):aG0 w d j b=some (dA w d j&&bU w d==b):=by
 grind[dA,Ez,aH,aJ,iT,aA,bd_s,aG0]
def bK7 (j:Int):(ByteArray.mk #[UInt8.ofNat 119,UInt8.ofNat 119,UInt8.ofNat 119,UInt8.ofNat 46]).size+(aC j).size<=9223372036854775807:=by unfold aC;cases j==0<;>cases j==1<;>decide
def bOf (j:Int):aUt j=some (N7 j):=by unfold aUt;rw[aA (bK7 j)];rfl
def aSg (s:ByteArray):aQy s=some (AQ.mk true s 443):=rfl
theorem cCg {a b:ByteArray}(h:a.toList=b.toList):a=b:=by
 grind[ByteArray.ext,Array.toList_inj,ByteArray.toList_eq]
def bXz {l:List AB}{k:Nat}:∀{i:Nat},dR mK i l=false->∀(h:k<l.length),dN l[k]=true/\l[k].Name=aC ((i+k:Nat):Int):=by induction l generalizing k<;>grind[dR,Bool.or_eq_false_iff,mK,Bool.not_eq_false',cCg,trans]
def tY {w:AA}{d j:Int}(h:dA w d j=true):aN w.Sites j=some (qO w j)/\(qO w j).sz<=w.sz/\(qO w j).Name=aC j/\(j=0\/j=1)/\j.toNat<w.Sites.length:=by
 simp only[dA,ab] at h;obtain⟨h1,h2,c,b⟩:=rU h.1;have hd:=h.2.2;simp only[iT,ab,cg] at hd;have a:j.toNat<w.Sites.length:=by omega
 have hs:=Ej (f:=AB.sz) a;have e:qO w j=w.Sites[j.toNat]:=by grind[List.getD,List.getElem?_eq_getElem,qO]
 refine⟨by rw[jO hd.1 a,e],?_,?_,by omega,a⟩
 ·grind[AA.sz,qO]
 ·rw[e,(bXz b a).2];grind
theorem bQk (s:AB)(i n:Int):(pQ s i n).1.Name=s.Name/\(pQ s i n).1.sz<=s.sz+1:=by
 unfold pQ
 grind[dN,decide,aF,lX,dB,bE,List.length_append,List.length_drop,List.length_cons,List.length_nil,AB.sz,AM.sz]
def bX0 {k:Nat}(hk:k<6){j:Int}(a:j=0\/j=1)(h:oM (mO k) (aC j)=true):k<4:=by
 rcases(show k<4\/k=4\/k=5 by omega) with b|rfl|rfl
 ·exact b
 ·rcases a with rfl|rfl<;>exact absurd h (by decide)
 ·rcases a with rfl|rfl<;>exact absurd h (by decide)
theorem bQl (s:AN)(h c:Int)(p:Bool){o:AQ}(ho:gU o){j:Int}(a:j=0\/j=1):AsP (qG s o (aC j) h c p).2.1 (aC j):=by
 refine⟨j,a,rfl,?_⟩;obtain⟨k,hk,rfl⟩:=ho;unfold qG;cases hm:oM (mO k) (aC j) with
 |false=>simp
 |true=>
  cases(lY s (aC j) h (aW (bKm s (mO k) (aC j) h c p))).2.2 with
  |false=>simp
  |true=>exact .inr ⟨rfl,k,bX0 hk a hm,rfl,hm⟩
def cAo {w:AA}{d j:Int}{o:AQ}(ho:gU o)(h:dA w d j=true)(a:Qc w.sz):AsP (aQr w d j o).2.1 (wV w j).1.Name/\Qb ((wV w j).1.sz):=by
 obtain⟨_,h2,b,c,_⟩:=tY h
 grind[aQr,wV,bQl,bQk,qO]
def bFs (w:AA)(d j:Int)(o:AQ)(h:gU o/\Qc w.sz):aGq w d j o=some (wW w d j o):=by
 obtain⟨ho,c⟩:=h;have b:Qa w.sz:=by omega
 unfold aGq wW;simp only[aA b,bd_s];cases ht:dA w d j with
 |false=>rfl
 |true=>
  obtain⟨e,m,n,f,q⟩:=tY ht;obtain⟨i,k⟩:=cAo ho ht c;have a:=ht;simp only[dA,ab] at a;have l:=kP a.2.1;have hm:Qb w.Mail.sz:=by simp only[AA.sz,AU.sz] at c ⊢;omega
  simp only[ah,ac,e,bd_s,aA (show Qa ((qO w j).sz) by omega)];rw[show pQ (qO w j) 1 w.Now=wV w j from rfl];cases hb:(wV w j).2.2.2 with
  |false=>rfl
  |true=>simp only[ah,ac,l,bd_s,aA (show sP o (aC j) from ho.p f)];rw[show qG (aQ w d).Store o (aC j) d (wV w j).2.2.1 true=aQr w d j o from rfl];simp only[aA (show AsP (aQr w d j o).2.1 (wV w j).1.Name/\Qb ((wV w j).1.sz) from⟨i,k⟩),bd_s,aA hm,bne];rw[show qH (wV w j).1 1 (wV w j).2.1 w.Now (aQr w d j o).2.1=bEv w d j o from rfl];cases(bEv w d j o).2.1==0<;>rfl
def bK8 (w:AA)(d j:Int)(o:AQ)(h:gU o/\Qc w.sz):aL7 w d j o=some (wW w d j o):=by
 obtain⟨ho,c⟩:=h;have b:Qa w.sz:=by omega
 unfold aL7 wW;simp only[aA b,bd_s];cases ht:dA w d j with
 |false=>
  unfold dA at ht;cases n:aH w with
  |false=>rfl
  |true=>
   cases hd:aJ w d with
   |false=>rfl
   |true=>
    cases hs:iT w j with
    |false=>rfl
    |true=>simp_all
 |true=>
  obtain⟨e,q,r,f,s⟩:=tY ht;obtain⟨i,k⟩:=cAo ho ht c;have a:=ht;simp only[dA,ab] at a;have l:=kP a.2.1;have hm:Qb w.Mail.sz:=by grind[AA.sz,AU.sz]
  have m:0<=j:=by omega
  have es:aN (w.Sites.set j.toNat (wV w j).1) j=some (wV w j).1:=by
   grind[jO]
  rw[a.1,a.2.1,a.2.2];simp only[ah,ac,e,bd_s,aA (show Qa ((qO w j).sz) by omega)];rw[show pQ (qO w j) 1 w.Now=wV w j from rfl];cases hb:(wV w j).2.2.2 with
  |false=>rfl
  |true=>simp only[ah,ac,l,es,bd_s,aA (show sP o (aC j) from ho.p f)];rw[show qG (aQ w d).Store o (aC j) d (wV w j).2.2.1 true=aQr w d j o from rfl];simp only[aA (show AsP (aQr w d j o).2.1 (wV w j).1.Name/\Qb ((wV w j).1.sz) from⟨i,k⟩),bd_s,aA hm,bne];rw[show qH (wV w j).1 1 (wV w j).2.1 w.Now (aQr w d j o).2.1=bEv w d j o from rfl,eK];cases(bEv w d j o).2.1==0<;>rfl
def Zz (w:AA)(d j:Int)(o:AQ)(h:gU o/\Qc w.sz):Za w d j o=some (oO w d j o):=by unfold Za;rw[aA h];rfl
def aWr:= @Zz
def aJm (w:AA)(d j:Int)(b:Qc w.sz):Gm w d j=some (sS w d j):=by
 have a:Qa w.sz:=by omega
 unfold Gm sS;simp only[aA a,bd_s,aA (bK7 j)];cases ht:dA w d j with
 |false=>rfl
 |true=>
  simp only[ah,ac,Ez ht,bd_s,cA];cases bU w d with
  |true=>rfl
  |false=>simp only[bc,ac,ae];exact(dX (aA (show gU (N7 j)/\Qc w.sz from⟨bKl (tY ht).2.2.2.1,b⟩)) rfl)
def aJn (w:AA)(d j:Int)(b:Qc w.sz):Ho w d j=some (sS w d j):=by
 have a:Qa w.sz:=by omega
 unfold Ho sS;simp only[aA a,bd_s];rw[show(bU w d==false)= !bU w d by cases bU w d<;>rfl];cases hq:dA w d j&& !bU w d with
 |false=>rfl
 |true=>rw[ab] at hq;simp only[ah,ac,ae];exact(dX (aA (show gU (N7 j)/\Qc w.sz from⟨bKl (tY hq.1).2.2.2.1,b⟩)) rfl)
def aAx {σ τ:Type}{F:(σ->Option τ)->σ->Option τ}(S:Nat->σ)(N:Nat){r:τ}(a:N<=1000000)(b:∀rec i,i<N->F rec (S i)=rec (S (i+1)))(c:∀rec,F rec (S N)=some r){s:σ}(hs:s=S 0):EV.bF FUEL F s=some r:=by
 subst hs;have go:∀(k i n:Nat),i+k=N->k<n->EV.bF n F (S i)=some r:=by
  intro k;induction k with
  |zero=>
   intro i n h hn;obtain⟨m,rfl⟩:∃m,n=m+1:=⟨n-1,by omega⟩
   grind[gD]
  |succ k d=>
   intro i n h hn;obtain⟨m,rfl⟩:∃m,n=m+1:=⟨n-1,by omega⟩
   grind[gD]
 exact go N 0 FUEL (by omega) (by grind[fA])
theorem aNi {m:Int}{F:(Int×Int×Int->Option Int)->Int×Int×Int->Option Int}(a:∀rec (b n s:Int),0<=n->n<9223372036854775807->F rec (b,n,s)=bif decide (n>0) then rec ((IntKind.i64.wrap (b*b)).tmod m,n/2,bif n%2==1 then(IntKind.i64.wrap (s*b)).tmod m else s) else some s):
  ∀(k:Nat) (b n s:Int) (f:Nat),k<f->0<=n->n<2^k->k<=62->bF f F (b,n,s)=some (C8 m k b n s)
 |0,b,n,s,f+1,c,h0,h1,hk=>by
  have:n=0:=by simp at h1;omega
  subst this;rw[gD,a _ _ _ _ (by omega) (by omega)];rfl
 |k+1,b,n,s,f+1,c,h0,h1,hk=>by
  have h2:(2:Int)^(k+1)=2*2^k:=by rw[fm];omega
  have d:n<2^62:=Int.lt_of_lt_of_le h1 (by exact_mod_cast gb (by omega) hk);rw[gD,a _ _ _ _ h0 (by omega)];unfold C8;by_cases hn:n>0
  ·rw[au hn,ae,cu hn];exact aNi a k _ (n/2) _ f (by omega) (by omega) (by omega) (by omega)
  ·rw[av hn,ac,cG hn]
theorem cAp:((2039:Int)≠0)=True:=by simp
def aNj (b n:Int)(h:0<=n/\n<2048):tL b n=some (C8 2039 11 b n 1):=by
 grind[aNi,Fe,and_one,aHr,bRj,cAp,gd_T,bd_s,aA,FUEL,fA,tL]
def aHc (b n:Int)(h:0<=n/\n<2048)(hb:0<=b/\b<2039):fZ b n 2039=some (C8 2039 11 b n 1):=by unfold fZ;rw[show b.tmod 2039=b by rw[bv hb.1];omega,show(1:Int).tmod 2039=1 by decide,aNi (m:=2039) (by grind[Int.tmod_eq_emod_of_nonneg,Int.tdiv_eq_ediv_of_nonneg,aI,cAp,gd_T,bd_s]) 11 b n 1 FUEL (by grind[fA]) h.1 (by omega) (by omega)];rfl
def G7 (x:Int):vI x=some (mP x):=by unfold vI mP;rw[aNj _ _ (by decide)];cases bE x 1 2038<;>rfl
def G8 (x:Int):vQ x=some (mP x):=by
 unfold vQ mP;cases h:bE x 1 2038 with
 |false=>rfl
 |true=>have:=sG h;rw[aHc _ _ (by decide) (by grind)];rfl
def aWs (g n:Int):Zg g n=some (eY g n):=by unfold Zg eY;have hr:=lS (p:=n) (q:=1019) (by decide);rw[aNj _ _ ⟨hr.1,by omega⟩];cases mP g<;>rfl
def aWt (g n:Int):Zn g n=some (eY g n):=by
 unfold Zn eY;have hr:=lS (p:=n) (q:=1019) (by decide);cases h:mP g with
 |false=>rfl
 |true=>have a:=h;unfold mP at a;rw[ab] at a;have:=sG a.1;rw[aHc _ _ ⟨hr.1,by omega⟩ (by grind)];rfl
def Io (a b:Int):aIk a b=some (aYg a b):=by rfl
def aJo:= @Io
def aSh (a b:Int):Sz a b=some (Lb a b):=by
 unfold Sz Lb;rw[aA (by simp),bd_s];have h:=(lU a [157,b]).1
 grind[decide_eq_false,decide_eq_true,bKd,jF,bN]
def aSi (a b:Int):aQ1 a b=some (Lb a b):=by rfl
def Ol (a b:Int):aL5 a b=some (aLu a b):=by rfl
def aNk:= @Ol
def aAy (a b:Int):U6 a b=some (bNq a b):=by unfold U6 bNq;rw[aA (by simp)];cases bE a 0 2147483647<;>rfl
def bCb:= @aAy
def aUx (j:Int):(aC j).size<=100:=by unfold aC;cases j==0<;>cases j==1<;>decide
def Om (a b c:Int):Mh a b c=some (eP a b c):=by unfold Mh eP;cases bQ c 1019==0<;>rfl
def aNl:= @Om
def zN (s:AX)(e:Int):yU s e=some (aLv s e):=by unfold yU aLv;cases mP e<;>cases e==1<;>cases bE s.Value 0 1018<;>rfl
def aAz:= @zN
def Ut (k:AZ)(e:Int):Sy k e=some (kY k e):=by unfold Sy kY;cases iM k<;>cases k.Guesses==k.Limit<;>cases mP e<;>cases e==1<;>rfl
def aSj:= @Ut
def d9 (a b:Int):Zh a b=some (kJ a b):=by unfold Zh kJ;rw[aA (show(2039:Int)≠0 by decide)];cases mP a<;>cases mP b<;>rfl
def aWu:= @d9
def Uu (v:A3)(o:Int):Ta v o=some (aIf v o):=by unfold Ta aIf;rw[bne];cases aLu o v.Salt==v.Check<;>rfl
def aSk:= @Uu
def bCc (h:AC)(e:Int)(a:Qb h.sz):V5 h e=some (pF h e):=by
 have hq:=a;simp only[AC.sz] at hq;have b:aO h.Saved [h.State]:=by grind[List.length_cons,List.length_nil,aO]
 unfold V5 pF;rw[aA (by omega),bd_s];cases decide (qZ h.State<h.Monotonic) with
 |true=>rfl
 |false=>
  rw[ac];cases(kY h.State e).2.2 with
  |false=>rfl
  |true=>
   simp only[ah,ac,aA b,gA];unfold bZj;cases hd:decide (((h.Saved++[h.State]).length:Int)>30) with
   |false=>rfl
   |true=>have:=of_decide_eq_true hd;rw[ae,aA (show gI (h.Saved++[h.State]) 1 from⟨by omega,by omega⟩),aA (by grind[aO,List.drop,Int.toNat,List.length_nil,List.length_drop,List.length_append,List.length_cons])];rfl
def Xm (n:Int):tN n=some (yF n):=by
 have hr:=lS (p:=n) (q:=1019) (by decide);have hp:∀m:Int,0<=m->m<1019->((IntKind.i64.wrap (bQ n 1019*m)).tmod 1019==1)=((bQ n 1019*m)%1019==1):=λm h0 h1=>by
  have h2:0<=bQ n 1019*m:=iq hr.1 h0;have d:bQ n 1019*m<=1019*1019:=Int.mul_le_mul (by omega) (by omega) h0 (by omega);rw[aI (by omega) (by omega),bv h2]
 have step:∀m:Int,1<=m->m<1019->IntKind.i64.wrap (m+1)=m+1:=λm _ _=>aI (by omega) (by omega);unfold tN yF;cases b:bQ n 1019==0 with
 |true=>
  have h0:=eq_of_beq b;rw[Ae (s:=(1:Int)) (λi (s:Int)=>s=(i:Int)+1) 1018 (some (.inr ())) (by omega) (by show(1:Int)=((0:Nat):Int)+1;rfl) (λi s rec hi hv=> ?_) (λs rec hv=> ?_)]
  ·rfl
  ·left;have hv:s=(i:Int)+1:=hv;subst hv;refine⟨_,rfl,?_⟩;rw[au (show(i:Int)+1<1019 by omega),ae,aA (by decide),hp _ (by omega) (by omega),h0,Int.zero_mul,step _ (by omega) (by omega)];rfl
  ·have hv:s=(1018:Nat)+1:=hv;subst hv;rfl
 |false=>
  have h0:0<bQ n 1019:=by have:=cp.1 b;omega
  obtain⟨c,e,f⟩:=cBz h0 hr.2;generalize C8 1019 11 (bQ n 1019) 1017 1=a at*;rw[Ae (s:=(1:Int)) (λi (s:Int)=>s=(i:Int)+1/\(i:Int)+1<=a) 1018 (some (.inl a)) (by omega) ⟨by show(1:Int)=((0:Nat):Int)+1;rfl,by omega⟩ (λi s rec hi hv=> ?_) (λs rec hv=> ?_)]
  ·rfl
  ·obtain⟨rfl,hv⟩:=hv;rw[au (show(i:Int)+1<1019 by omega),ae,aA (by decide),hp _ (by omega) (by omega)];by_cases hm:(i:Int)+1=a
   ·right;rw[hm,c];rfl
   ·left;refine⟨_,⟨rfl,by omega⟩,?_⟩;rw[cp.2 (λh=>hm (bW9 (by omega) (by omega) h c)),ac,step _ (by omega) (by omega)];rfl
  ·obtain⟨rfl,hv⟩:=hv;omega
theorem cD2:((1019:Int)≠0)=True:=by simp
def bFt (b n:Int)(h:0<=n/\n<2048)(hb:0<=b/\b<1019):fZ b n 1019=some (C8 1019 11 b n 1):=by unfold fZ;rw[show b.tmod 1019=b by rw[bv hb.1];omega,show(1:Int).tmod 1019=1 by decide,aNi (m:=1019) (by grind[Int.tmod_eq_emod_of_nonneg,Int.tdiv_eq_ediv_of_nonneg,aI,cD2,gd_T,bd_s]) 11 b n 1 FUEL (by grind[fA]) h.1 (by omega) (by omega)];rfl
def Xn (n:Int):tO n=some (yF n):=by have hr:=lS (p:=n) (q:=1019) (by decide);unfold tO yF;rw[bFt _ _ (by decide) ⟨hr.1,hr.2⟩];cases bQ n 1019==0<;>rfl
def aEt (a b:Int):Bw a b=some (aLx a b):=by unfold Bw aLx;cases bQ b 1019==0<;>rfl
def aEu (a b:Int):Cq a b=some (aLx a b):=by unfold Cq aLx eY;cases mP a<;>cases bQ b 1019==0<;>rfl
theorem aJp {σ:Type}(g:σ->Nat->σ)(s:σ)(i:Nat):(List.range (i+1)).foldl g s=g ((List.range i).foldl g s) i:=by rw[dq,fc];rfl
theorem getD_at {l:List Int}{i:Nat}(h:i<l.length):l.getD i 0=l[i]:=by simp[*]
def bJc {l:List Int}{i:Int}(h0:0<=i)(h1:i<(l.length:Int)):aN l i=some (l.getD i.toNat 0):=by
 grind[List.getD,List.getElem?_eq_getElem,jO]
def G9 (l:List Int)(k a:Int)(hl:Qa l.length):vJ l k a=some (En l k a):=by
 unfold vJ En;rw[aLn hl];cases hk:(decide (k<0)||decide (k>=(l.length:Int))) with
 |true=>rfl
 |false=>
  have b:=Fv hk;rw[ac,cy];rw[Ae (τ:=Int⊕Int) (s:=((1:Int),(0:Nat))) (λi (s:Int×Nat)=>i<=l.length/\s=((List.range i).foldl (aLw l k a) 1,i)/\dR (Rl (λq=>bQ q 1019) l) 0 (l.take i)=false) l.length
   (some (bif dR (Rl (λq=>bQ q 1019) l) 0 l then .inl 0 else .inr ((List.range l.length).foldl (aLw l k a) 1))) (by omega) ⟨cm _,rfl,rfl⟩ (λi s rec hi hv=> ?_) (λs rec hv=> ?_)]
  ·cases dR (Rl (λq=>bQ q 1019) l) 0 l<;>rfl
  ·obtain⟨_,rfl,hv⟩:=hv;simp only[bD hi,ae];rw[aLy (f:=λq=>bQ q 1019) hi (by omega) (.inl (.inl (.inl 0))) (.inr ()) (λrec' j c=>by
    simp only[bD c,ae,aD (show j<l.length by omega),aD hi,bd_s]) (λrec'=>by simp only[uT,ac])]
   cases hd:Rl (λq=>bQ q 1019) l i l[i] with
   |true=>right;rw[cBy hi hd];rfl
   |false=>
    left;refine⟨_,⟨hi,rfl,bW8 hi hv hd⟩,?_⟩;rw[aJp];unfold aLw;simp only[ac,nx_r,bne];cases he:((i:Int)==k) with
    |true=>rfl
    |false=>simp only[bc,ae,ac,aD hi,bJc b.1 b.2,bd_s,aA (show(1019:Int)≠0 by decide),getD_at hi];rw[show yF (bQ (IntKind.i64.wrap (bQ (l.getD k.toNat 0) 1019-bQ l[i] 1019)) 1019)=yF (IntKind.i64.wrap (bQ (l.getD k.toNat 0) 1019-bQ l[i] 1019)) from bUb (by rw[bXa,bXa];omega)];rfl
  ·obtain⟨_,rfl,hv⟩:=hv;simp only[uT,ac];rw[cq] at hv;rw[hv];rfl
def H5 (l:List Int)(k a:Int)(hl:Qa l.length):vR l k a=some (En l k a):=by
 unfold vR En;rw[lL,bd_s];cases hk:(decide (k<0)||decide (k>=(l.length:Int))) with
 |true=>rfl
 |false=>
  have b:=Fv hk;rw[ac,cy];rw[fI (l:=l) (Rl (λq=>bQ q 1019) l) (.inl (0:Int)) (.inr ()) (by omega) (λrec i hi=>by
   simp only[bD hi,ae];rw[aLy (f:=λq=>bQ q 1019) hi (by omega) (.inl (.inl (0:Int))) (.inr ()) (by grind[bD,aD,bd_s,BEq.comm]) (by simp)];cases Rl (λq=>bQ q 1019) l i l[i]<;>rfl) (by simp)]
  cases dR (Rl (λq=>bQ q 1019) l) 0 l with
  |true=>rfl
  |false=>
   simp only[ac,nx_r,bJc b.1 b.2,bd_s];rw[Ae (τ:=Int) (s:=((1:Int),(0:Nat))) (λi (s:Int×Nat)=>s=((List.range i).foldl (aLw l k a) 1,i)) l.length (some ((List.range l.length).foldl (aLw l k a) 1)) (by omega) rfl (λi s rec hi hv=> ?_) (λs rec hv=> ?_)]
   all_goals grind[aJp,bD,aLw,bne,Bool.not_true,bd_s,Bool.not_false,aD,aA,getD_at]
def cD3 (a b:Nat):((a:Int)==(b:Int))=(a==b):=by
 grind
def Ki (ix vs:List Int)(h:Qa ix.length/\Qa vs.length):pG ix vs=some (kZ ix vs):=by
 unfold pG kZ;rw[show((ix.length:Int) !=(vs.length:Int))= !(ix.length==vs.length) by rw[bne,cD3],lL,bd_s,show((ix.length:Int)==0)=(ix.length==0) by rw[show(0:Int)=((0:Nat):Int) from rfl,cD3]];cases hc:(!(ix.length==vs.length)||ix.length==0) with
 |true=>rfl
 |false=>
  simp only[bu,dr,cN,cp] at hc;have hlen:=hc.1;rw[ac,cy];rw[fI (l:=ix) (oQ ix vs) (.inl ((0:Int),false)) (.inr ()) (by omega) (λrec i hi=>by
   simp only[bD hi,ae,aD hi,aD (show i<vs.length by omega),bd_s,lL];unfold oQ;rw[getD_at (show i<vs.length by omega)];cases bE ix[i] 1 7 with
   |false=>rfl
   |true=>
    cases mP (vs[i]'(by omega)) with
    |false=>rfl
    |true=>
     simp only[ah,gA,ac,cy];rw[aLy (f:=λq=>q) hi (by omega) (.inl (.inl ((0:Int),false))) (.inr ()) (λrec' j a=>by
      simp only[bD a,ae,aD (show j<ix.length by omega),bd_s]) (λrec'=>by simp only[uT,ac])]
     cases Rl (λq=>q) ix i ix[i]<;>rfl) (λrec=>by simp only[uT,ac])]
  cases dR (oQ ix vs) 0 ix with
  |true=>rfl
  |false=>
   simp only[ac,nx_r];rw[Ae (τ:=Int) (s:=((1:Int),(0:Nat))) (λi (s:Int×Nat)=>s=((List.range i).foldl (λo i=>kJ o (eY (vs.getD i 0) (En ix (i:Int) 0))) 1,i)) ix.length (some (bRx ix vs)) (by omega) rfl (λi s rec hi hv=> ?_) (λs rec hv=> ?_)]
   ·rfl
   ·left;subst hv;refine⟨_,rfl,?_⟩;rw[aJp];simp only[bD hi,ae,aD (show i<vs.length by omega),bd_s,aA h.1,getD_at (show i<vs.length by omega)]
   ·subst hv;simp only[uT,ac];unfold bRx;rw[hlen]
def aSl (hs:List AC)(a:List Int)(h:Qa hs.length/\Qa a.length):Su hs a=some (kC hs a):=by
 unfold Su kC;rw[fI (l:=a) (N8 hs a) (.inl false) (.inr ()) (by omega) (λrec i hi=>by
  simp only[bD hi,ae,aD hi,bd_s];rw[aLn h.1];unfold N8;cases(decide (a[i]<0)||decide (a[i]>=(hs.length:Int))) with
  |true=>rfl
  |false=>
   simp only[ac,cy];rw[aLy (f:=λq=>q) hi (by omega) (.inl (.inl false)) (.inr ()) (λrec' j b=>by
    simp only[bD b,ae,aD (show j<a.length by omega),bd_s]) (λrec'=>by simp only[uT,ac])]
   cases Rl (λq=>q) a i a[i]<;>rfl) (λrec=>by simp only[uT,ac])]
 cases dR (N8 hs a) 0 a<;>rfl
def bFu (hs:List AC)(a:List Int)(pin b:Int)(h:Qa hs.length/\Qa a.length):aG4 hs a pin b=some (aZ8 hs a pin b):=by unfold aG4 aZ8 kC;rw[fI (l:=a) (N8 hs a) (.inl false) (.inr ()) (by omega) (by grind[bD,aD,bd_s,aA,gI,Int.toNat_natCast,List.take,List.length_take,N8,Rl,bd,decide,kL]) (by simp)];rw[bne];cases dR (N8 hs a) 0 a<;>cases bQ b 1019==0<;>rfl
def bFv (hs:List AC)(a:List Int)(e:Int)(h:(Fu AC.sz hs<=34000000000/\a.length<=100000000)/\kC hs a=true):aGv hs a e=some (oP hs a e):=by
 obtain⟨⟨h1,h2⟩,b⟩:=h;unfold aGv;rw[aA (show Qa (Fu AC.sz hs) by omega),bd_s];rw[Ae (τ:=List Int×List Int×List AC) (s:=(([]:List Int),([]:List Int),(0:Nat),hs)) (λi (s:List Int×List Int×Nat×List AC)=>s=((lN e hs a i).2.1,(lN e hs a i).2.2,i,(lN e hs a i).1)) a.length
  (some ((oP hs a e).2.1,(oP hs a e).2.2,(oP hs a e).1)) (by omega) rfl (λi s rec hi hv=> ?_) (λs rec hv=> ?_)]
 ·rfl
 ·left;subst hv;refine⟨_,rfl,?_⟩;have c:=N9 (e:=e) b i (by omega);have hc:=aDa b hi;rw[Fy hi];generalize lN e hs a i=s at*;obtain⟨q1,q2,q3,q4⟩:=c;have hk:a[i].toNat<s.1.length:=by omega
  have hg:s.1.getD a[i].toNat default=s.1[a[i].toNat]:=by simp[List.getD,aa hk]
  have d:aN s.1 a[i]=some s.1[a[i].toNat]:=jO hc.1 hk;have l:=q2 _ (cx hk);have f:=l;simp only[AC.sz] at f;simp only[bD hi,ae,aD hi,bd_s,d];unfold bKn pF;rw[hg];generalize s.1[a[i].toNat]=x at*;simp only[lL,bd_s];cases hb:(decide (qZ x.State<x.Monotonic)|| !(kY x.State e).2.2) with
  |true=>simp only[ae,ac,aA (show Qa x.sz by omega),bd_s]
  |false=>
   simp only[ac,ae,bp];rw[aA (show aO ([]:List AZ) x.Saved by unfold aO;simp only[bj];omega),aA (show aO x.Saved [x.State] by unfold aO;simp only[aw,bj];omega)];have j:∀y:Int,aO s.2.1 [y]:=λy=>by unfold aO;simp only[aw,bj];omega
   have k:∀y:Int,aO s.2.2 [y]:=λy=>by unfold aO;simp only[aw,bj];omega
   unfold bZj;cases hd:decide (((x.Saved++[x.State]).length:Int)>30) with
   |false=>simp only[ac,aA (j _),aA (k _),bd_s]
   |true=>have:=of_decide_eq_true hd;simp only[ae,aA (show gI (x.Saved++[x.State]) 1 from⟨by omega,by omega⟩),aA (j _),aA (k _),bd_s];rfl
 ·subst hv;simp only[uT,ac];unfold lN oP;rw[cq]
def bSs {e:Int}{hs:List AC}{a:List Int}(h:kC hs a=true):AskIn (Fu AC.sz hs) hs a.length (oP hs a e):=by have:=N9 (e:=e) h a.length (ao _);unfold lN at this;rw[cq] at this;exact this
def bSt (hs:List AC):hs.length<=Fu AC.sz hs:=by simp
def aNm (v:A3)(hs:List AC)(a:List Int)(pin b:Int)(h:Fu AC.sz hs<=34000000000/\a.length<=100000000):Mi v hs a pin b=some (Ba v hs a pin b):=by
 have hl:=bSt hs;unfold Mi Ba aZ8;rw[aA (show Qa hs.length/\Qa a.length by omega),bd_s];cases hc:kC hs a with
 |false=>simp only[aA (show Qa (Fu AC.sz hs) by omega),bd_s];rfl
 |true=>
  simp only[ah,ac,lL,bd_s,cA];rw[show(!(!(bQ b 1019==0)&&bE pin 0 9999))=(bQ b 1019==0|| !bE pin 0 9999) by rw[Bool.not_and,Bool.not_not]];cases(bQ b 1019==0|| !bE pin 0 9999) with
  |true=>simp only[aA (show Qa (Fu AC.sz hs) by omega),bd_s,ae]
  |false=>obtain⟨q1,q2,q3,q4⟩:=bSs (e:=eP v.Salt pin b) hc;simp only[ac];rw[aA ⟨⟨h.1,h.2⟩,trivial⟩,bd_s,aA (show Qa ((oP hs a (eP v.Salt pin b)).2.1.length)/\Qa ((oP hs a (eP v.Salt pin b)).2.2.length) by omega),bd_s];unfold iZ;generalize oP hs a (eP v.Salt pin b)=r at*;rw[show decide ((r.2.2.length:Int)<(a.length:Int))=decide (r.2.2.length<a.length) by rw[cU];omega];cases decide ((a.length:Int)<v.Threshold)<;>cases decide (r.2.2.length<a.length)<;>cases(kZ r.2.1 r.2.2).2<;>rfl
def aNn (v:A3)(hs:List AC)(a:List Int)(pin b:Int)(h:Fu AC.sz hs<=34000000000/\a.length<=100000000):Nl v hs a pin b=some (bR0 v hs a pin b):=by
 have hl:=bSt hs;unfold Nl bR0 Ba bW6;rw[aA (by omega),bd_s,aA (by omega),bd_s];cases hm:aZ8 hs a pin b with
 |false=>rfl
 |true=>
  have hc:kC hs a=true:=by
   grind[aZ8]
  simp only[ah,ac,bd_s,cA];have main:EV.bF (α:=List Int×List Int×Bool×List AC) FUEL (λj (c:(List Int×List Int×Bool×Nat×List AC))=>bif (decide ((↑c.2.2.2.1:Int)<(↑a.length:Int))) then(bd (aN a (↑c.2.2.2.1:Int)) λk=>bd (aN (c.2.2.2.2) k) λp=>bd (gd (Qb p.sz) (some (pF p (eP v.Salt pin b)))) λf=>bd (aN (c.2.2.2.2) k) λG=>bd (bif (c.2.2.1) then(some (f.2.2)) else(some (false))) λt=>gd (aO c.1 [f.1.State.aAQ.Index]) (gd (aO c.2.1 [f.2.1]) (j ((c.1++[f.1.State.aAQ.Index],c.2.1++[f.2.1],t,(c.2.2.2.1+1),c.2.2.2.2.set k.toNat f.1))))) else(some (c.1,c.2.1,c.2.2.1,c.2.2.2.2))) ([],[],true,0,hs)
    =some (bRy v hs a pin b,bRz v hs a pin b,(iZ v hs a pin b).2.2.length==a.length,(iZ v hs a pin b).1)/\((iZ v hs a pin b).2.2.length=a.length->bRy v hs a pin b=(iZ v hs a pin b).2.1/\bRz v hs a pin b=(iZ v hs a pin b).2.2)/\(bRy v hs a pin b).length=a.length/\(bRz v hs a pin b).length=a.length:=by
   have st:∀i,i<=a.length->∃ix vs,EV.bF (α:=List Int×List Int×Bool×List AC) 0 (λ_ _=>none) (ix,vs,true,0,hs)=none/\ix.length=i/\vs.length=i/\(((lN (eP v.Salt pin b) hs a i).2.2.length=i)->ix=(lN (eP v.Salt pin b) hs a i).2.1/\vs=(lN (eP v.Salt pin b) hs a i).2.2)/\ix=sU v hs a pin b i/\vs=sW v hs a pin b i:=λi hi=>by
    refine⟨sU v hs a pin b i,sW v hs a pin b i,rfl,?_,?_,?_,rfl,rfl⟩
    ·simp[sU]
    ·simp[sW]
    ·intro he;induction i with
     |zero=>exact⟨rfl,rfl⟩
     |succ i H=>
      have d:=N9 (e:=eP v.Salt pin b) hc i (by omega);rw[Fy hi] at he ⊢;unfold sU sW;rw[dq,cE,cE];simp only[bw,eL];have l:Lc v hs a pin b i=pF ((lN (eP v.Salt pin b) hs a i).1.getD (a[i]).toNat default) (eP v.Salt pin b):=by unfold Lc;rw[getD_at hi];rfl
      rw[l];unfold bKn at he ⊢;cases hb:(pF ((lN (eP v.Salt pin b) hs a i).1.getD (a[i]).toNat default) (eP v.Salt pin b)).2.2 with
      |false=>
       rw[hb] at he;have:=d.le
       grind
      |true=>
       grind[sW,sU,List.length_append,List.length_cons,List.length_nil]
   have all:∀i,i<=a.length->(lN (eP v.Salt pin b) hs a i).2.2.length<=i:=λi hi=>(N9 hc i hi).le;have eAll:lN (eP v.Salt pin b) hs a a.length=iZ v hs a pin b:=by unfold lN iZ oP;rw[cq]
   refine⟨?_,?_,?_,?_⟩
   ·rw[Ae (τ:=List Int×List Int×Bool×List AC) (s:=(([]:List Int),([]:List Int),true,(0:Nat),hs)) (λi (s:List Int×List Int×Bool×Nat×List AC)=>s=(sU v hs a pin b i,sW v hs a pin b i,(lN (eP v.Salt pin b) hs a i).2.2.length==i,i,(lN (eP v.Salt pin b) hs a i).1)) a.length
     (some (bRy v hs a pin b,bRz v hs a pin b,(iZ v hs a pin b).2.2.length==a.length,(iZ v hs a pin b).1)) (by omega) rfl (λi s rec hi hv=> ?_) (λs rec hv=> ?_)]
    ·left;subst hv;refine⟨_,rfl,?_⟩;have d:=N9 (e:=eP v.Salt pin b) hc i (by omega);have m:=aDa hc hi;have l:Lc v hs a pin b i=pF ((lN (eP v.Salt pin b) hs a i).1.getD (a[i]).toNat default) (eP v.Salt pin b):=by unfold Lc;rw[getD_at hi];rfl
     have u:sU v hs a pin b (i+1)=sU v hs a pin b i++[(Lc v hs a pin b i).1.State.aAQ.Index]:=by simp[dq,cE,sU]
     have w:sW v hs a pin b (i+1)=sW v hs a pin b i++[(Lc v hs a pin b i).2.1]:=by simp[dq,cE,sW]
     have l1:(sU v hs a pin b i).length=i:=by grind
     have l2:(sW v hs a pin b i).length=i:=by grind
     rw[u,w,l,Fy hi];generalize sU v hs a pin b i=ix at*;generalize sW v hs a pin b i=vs at*;generalize lN (eP v.Salt pin b) hs a i=s at*;obtain⟨q1,q2,q3,q4⟩:=d;have hk:a[i].toNat<s.1.length:=by omega
     have hg:s.1.getD a[i].toNat default=s.1[a[i].toNat]:=by simp[*]
     have n:aN s.1 a[i]=some s.1[a[i].toNat]:=jO m.1 hk;have I:=q2 _ (cx hk);simp only[bD hi,ae,aD hi,bd_s,n];unfold bKn;rw[hg];generalize s.1[a[i].toNat]=x at*;rw[aA (by omega),bd_s];have z:∀y:Int,aO ix [y]:=(by grind[aO,List.length_cons,List.length_nil]);have A:∀y:Int,aO vs [y]:=(by grind[aO,List.length_cons,List.length_nil]);rw[Ky,bd_s,aA (z _),aA (A _)];have o:(bif s.2.2.length==i then(pF x (eP v.Salt pin b)).2.2 else false)=((bif (pF x (eP v.Salt pin b)).2.2 then s.2.2++[(pF x (eP v.Salt pin b)).2.1] else s.2.2).length==i+1):=by
      grind
     rw[o]
    ·subst hv;simp only[uT,ac];rw[eAll];rfl
   ·intro he;obtain⟨ix,vs,_,_,_,r,B,D⟩:=st a.length (ao _);rw[eAll] at r;have:=r he;rw[B,D] at this;exact this
   ·show(sU v hs a pin b a.length).length=_;simp[sU]
   ·show(sW v hs a pin b a.length).length=_;simp[sW]
  obtain⟨F,J,K,L⟩:=main;rw[F,bd_s];have q:=bSs (e:=eP v.Salt pin b) hc;have hq:(iZ v hs a pin b).2.2.length<=a.length:=q.le
  grind[iZ,beq_eq_false_iff_ne,decide_eq_true,decide,n1,n2,decide_eq_false,aA,bd_s,kZ,lL]
def aNo (v:A3)(hs:List AC)(a:List Int)(pin b:Int)(h:Fu AC.sz hs<=34000000000/\a.length<=100000000):Nn v hs a pin b=some (Ba v hs a pin b):=by unfold Nn;rw[aA h];rfl
def cD4 (w:AA):Fu AC.sz w.Hosts<=w.sz/\w.Mail.sz<=w.sz:=by
 grind[AA.sz,AU.sz]
def Db (w:AA)(a:List Int)(pin:Int)(h:w.sz<=34000000000/\a.length<=100000000):Ca w a pin=some (iN w a pin):=by
 obtain⟨q1,q2⟩:=cD4 w;unfold Ca iN;rw[aA (show Qa w.sz by omega),bd_s,aA (show Qa w.sz by omega),bd_s];cases aH w with
 |false=>rfl
 |true=>rw[aA (by simp),bd_s,aA (by decide),aA (show Fu AC.sz w.Hosts<=34000000000/\a.length<=100000000 by omega),bd_s,aA (show Qb w.Mail.sz by omega),bd_s];rfl
def aEv:= @Db
def aNp (w:AA)(pin:Int)(h:w.sz<=99000000):Mj w pin=some (xQ w pin):=by
 have hl:w.Hosts.length<=w.sz:=by simp only[AA.sz];omega
 have a:=aIg w;unfold Mj;have hn:(min w.aAP.Threshold ((w.Hosts.length:Int)+1)).toNat<=w.Hosts.length+1:=by omega
 rw[Ae (τ:=List Int) (s:=(([]:List Int),(0:Int))) (λi (s:List Int×Int)=>s=((List.range i).map (λ(k:Nat)=>(k:Int)),(i:Int))) (min w.aAP.Threshold ((w.Hosts.length:Int)+1)).toNat (some (Fx w)) (by omega) rfl (λi s rec hi hv=> ?_) (λs rec hv=> ?_)]
 ·rw[bd_s,aA (show w.sz<=34000000000/\(Fx w).length<=100000000 by omega)];rfl
 ·left;subst hv;refine⟨_,rfl,?_⟩;simp only[aZv,bd_s];rw[au (show(i:Int)<w.aAP.Threshold by omega),au (show(i:Int)<=(w.Hosts.length:Int) by omega),dl,ae,aA (show aO ((List.range i).map (λ(k:Nat)=>(k:Int))) [(i:Int)] by unfold aO;simp only[bn,en,aw,bj];omega),aI (by omega) (by omega),dq,cE];rfl
 ·subst hv;simp only[aZv,bd_s];generalize hm:(min w.aAP.Threshold ((w.Hosts.length:Int)+1)).toNat=m;rw[show(decide ((m:Int)<w.aAP.Threshold)&&decide ((m:Int)<=(w.Hosts.length:Int)))=false by
   rw[Bool.and_eq_false_iff,di,di];omega,ac]
  unfold Fx;rw[hm]
def aNq (w:AA)(pin:Int)(h:w.sz<=99000000):Np w pin=some (xQ w pin):=by
 have hl:w.Hosts.length<=w.sz:=by grind[AA.sz]
 have b:=aIg w;unfold Np;have c:IntKind.i64.wrap ((w.Hosts.length:Int)+1)=(w.Hosts.length:Int)+1:=(by grind[aI]);have a:(if IntKind.i64.wrap ((w.Hosts.length:Int)+(1:Int))<w.aAP.Threshold then IntKind.i64.wrap ((w.Hosts.length:Int)+(1:Int)) else w.aAP.Threshold)=min w.aAP.Threshold ((w.Hosts.length:Int)+1):=by rw[c];split<;>omega
 rw[a];rw[Ae (τ:=List Int) (s:=(([]:List Int),(0:Nat))) (λi (s:List Int×Nat)=>s=((List.range i).map (λ(k:Nat)=>(k:Int)),i)) (min w.aAP.Threshold ((w.Hosts.length:Int)+1)).toNat (some (Fx w)) (by omega) rfl (λi s rec hi hv=> ?_) (λs rec hv=> ?_)]
 ·rw[bd_s,aA (by omega)];rfl
 ·grind[decide_eq_true,min,aA,aO,List.range,List.length_map,List.length_range,List.length_cons,List.length_nil,List.range_succ]
 ·subst hv;simp only;rw[av (by omega),ac];rfl
def aJq (w:AA)(d:Int)(h:Qa w.sz):Hq w d=some (wX w d):=by
 unfold Hq wX;simp only[aA h,bd_s];cases a:aH w with
 |false=>unfold dA;rw[a];rfl
 |true=>
  cases hd:aJ w d with
  |false=>unfold dA;rw[a,hd];rfl
  |true=>
   have ht:dA w d 0=true:=by obtain⟨_,_,b,_⟩:=rU a;unfold dA;rw[a,hd];unfold iT;rw[au (show(0:Int)<=0 by decide),au (show(0:Int)<(w.Sites.length:Int) by omega)];rfl
   simp only[ah,ac,Ez ht,bd_s,ht,cA];cases bU w d<;>rfl
def aJr (w:AA)(d:Int)(h:Qa w.sz):Gn w d=some (wX w d):=by
 unfold Gn wX;simp only[aA h,bd_s];cases ht:dA w d 0 with
 |false=>rfl
 |true=>simp only[ah,ac,Ez ht,bd_s,cA];cases bU w d<;>rfl
def aNr (w:AA)(d j:Int)(b:Qc w.sz):Nc w d j=some (Ga w d j):=by
 have a:Qa w.sz:=by omega
 unfold Nc Ga;simp only[aA a,bd_s];rw[show(bU w d==true)=bU w d by cases bU w d<;>rfl];cases hq:dA w d j&&bU w d with
 |false=>rfl
 |true=>rw[ab] at hq;simp only[ah,ac,ae];exact(dX (aA (show gU (N7 j)/\Qc w.sz from⟨bKl (tY hq.1).2.2.2.1,b⟩)) rfl)
def Uv (b:AM)(now:Int)(h:Qa b.sz):rD b now=some (kD b now):=by
 unfold rD kD;rw[aA h,bd_s];cases hb:dB b with
 |false=>rw[bc,ae,aA h];rfl
 |true=>
  have hl:b.Open.length<=16:=by unfold dB at hb;simp only[ab,cg] at hb;exact hb.1.2
  simp only[ah,ac,ae];refine dX (a:=b.Open.filter λc=>decide (c.Until>=now)) (aAx (λi=>(i,(b.Open.take i).filter λc=>decide (c.Until>=now))) b.Open.length (by omega) (λrec i hi=> ?_) (λrec=> ?_) rfl) rfl
  ·simp only[bD hi,ae,aD hi,bd_s];have hk:((b.Open.take i).filter λc=>decide (c.Until>=now)).length<=16:=bo (eC _ _) (by rw[cb];omega);rw[gx hi,List.filter_append];cases hc:decide (b.Open[i].Until>=now) with
   |true=>rw[ae,aA (by unfold aO;rw[cf];omega),bd_s,hH,hc];rfl
   |false=>rw[ac,bd_s,hH,hc];simp
  ·simp only[uT,ac,cq]
def bCd (w:AA)(h:Qa w.sz):R9 w=some (Rm w):=by
 unfold R9 Rm;rw[aA h,bd_s];refine dX (a:=aH (uV w)) (aA (show Qa ((uV w).sz) from h)) ?_;cases c:aH (uV w) with
 |false=>rfl
 |true=>
  obtain⟨h2,_⟩:=rU c;change w.Sites.length=2 at h2;have b:∀s∈w.Sites,Qa s.Book.sz:=λs hs=>by
   have h1:s.sz<=w.sz:=by obtain⟨i,hi,rfl⟩:=du.1 hs;have:=Ej (f:=AB.sz) hi;rw[List.getD,aa hi,cV] at this;simp only[AA.sz];omega
   have:s.Book.sz<=s.sz:=by simp only[AB.sz,AM.sz];omega
   omega
  obtain⟨s0,s1,e⟩:∃s0 s1,w.Sites=[s0,s1]:=by
   match hq:w.Sites,h2 with
   |[s0,s1],_=>exact⟨s0,s1,rfl⟩
  rw[e] at b;have d:=b s0 (by simp);have j:=b s1 (by simp);rw[ah,ac,ae];change bd (bF FUEL _ (0,w.Sites)) _=_;rw[e];refine dX (aAx (λi=>(i,match i with|0=>[s0,s1]|1=>[{s0 with Book:=kD s0.Book (uV w).Now},s1]|_=>[{s0 with Book:=kD s0.Book (uV w).Now},{s1 with Book:=kD s1.Book (uV w).Now}])) 2 (by omega) (λrec i hi=> ?_) (λrec=> ?_) rfl) rfl
  ·rcases(show i=0\/i=1 by omega) with rfl|rfl
   ·exact dX (aA d) rfl
   ·exact dX (aA j) rfl
  ·rfl
def aNs (w:AA)(d j:Int)(o:ByteArray)(h:Qo w d j o/\Qc w.sz):Ll w d j o=some (Xc w d j o):=by
 have a:Qa w.sz:=by omega
 unfold Ll Xc;simp only[aA a,bd_s];cases ht:dA w d j with
 |false=>rfl
 |true=>
  simp only[ah,ac,Ez ht,bd_s,cA];cases bU w d with
  |true=>rfl
  |false=>simp only[bc,ac,ae];exact dX (aA (show gU (AQ.mk true o 443)/\Qc w.sz from⟨h.1 ht,h.2⟩)) rfl
def aNt (w:AA)(d j:Int)(b:Qc w.sz):Lm w d j=some (Ga w d j):=by
 have a:Qa w.sz:=by omega
 unfold Lm Ga;simp only[aA a,bd_s,aA (bK7 j)];cases ht:dA w d j with
 |false=>rfl
 |true=>
  simp only[ah,ac,Ez ht,bd_s,cA];cases bU w d with
  |false=>rfl
  |true=>simp only[ah,ac,ae];exact dX (aA (show gU (N7 j)/\Qc w.sz from⟨bKl (tY ht).2.2.2.1,b⟩)) rfl
def bZ1 (w:AA)(d j:Int):Qo w d j (aIe j).Host:=λht=>by
 rcases(tY ht).2.2.2.1 with rfl|rfl
 ·exact⟨4,by decide,rfl⟩
 ·exact⟨5,by decide,rfl⟩
def bFw (w:AA)(e:AS)(b:Qc w.sz):aGr w e=some (aIh w e):=by
 have hn:=aUx e.Other;unfold aGr aIh;cases e.Kind==2 with
 |true=>rw[ae,aA b];rfl
 |false=>
  cases e.Kind==3 with
  |true=>rw[ac,ae,aA (by show 6+(aC e.Other).size<=_;omega),aA (by rw[ByteArray.size_append];show 6+(aC e.Other).size+9<=_;omega)];refine dX (a:=((kK w e.Device e.Other).2,(kK w e.Device e.Other).1.Now,(kK w e.Device e.Other).1.Seed,(kK w e.Device e.Other).1.Devices,(kK w e.Device e.Other).1.Stolen,(kK w e.Device e.Other).1.aAH.Log,(kK w e.Device e.Other).1.aAH.Boxes.Epoch,(kK w e.Device e.Other).1.aAH.Boxes.Boxes,(kK w e.Device e.Other).1.aAH.History,(kK w e.Device e.Other).1.Sites,(kK w e.Device e.Other).1.aAP.Salt,(kK w e.Device e.Other).1.aAP.Threshold,(kK w e.Device e.Other).1.aAP.Check,(kK w e.Device e.Other).1.aAP.Masked,(kK w e.Device e.Other).1.Hosts,(kK w e.Device e.Other).1.Pin,(kK w e.Device e.Other).1.Mail.Notices)) (dX (aA (show Qo w e.Device e.Other (aIe e.Other).Host/\Qc w.sz from⟨bZ1 _ _ _,b⟩)) rfl) rfl
  |false=>rw[ac,ac,aA b];rfl
def aJs (w:AA)(e:AS)(h:w.sz<=99000000):Gv w e=some (aZ9 w e):=by
 have a:Qa w.sz:=by omega
 unfold Gv aZ9;cases e.Kind==11 with
 |true=>rw[ae,aA h];rfl
 |false=>
 cases e.Kind==12 with
 |true=>rw[ac,ae,aA a];rfl
 |false=>
 cases e.Kind==13 with
 |true=>rw[ac,ac,ae,aA a];rfl
 |false=>rw[ac,ac,ac,aA a];rfl
def aNu (w:AA)(e:AS)(h:w.sz<=99000000):Mo w e=some (evF w e):=by
 have a:Qa w.sz:=by omega
 have d:Qc w.sz:=by omega
 have f:w.sz<=100000000:=by omega
 have i:Qb w.sz:=by omega
 have j:w.sz<=10000000000:=by omega
 have k:Qd w.sz:=by omega
 unfold Mo evF bKo;rw[aA a,bd_s];cases aH w with
 |false=>rw[bc,ae,aA a];rfl
 |true=>
 simp only[ah,ac,aA a,aA d,aA f,aA j,aA k,aA h,bd_s];cases h1:e.Kind==1 with
 |true=>rfl
 |false=>
 simp only[ac];cases h2:e.Kind==2 with
 |true=>simp only[ae,bd_s];unfold aIh;rw[h2];rfl
 |false=>
 cases b:e.Kind==3 with
 |true=>simp only[ae,ac,bd_s];unfold aIh;rw[h2,b];rfl
 |false=>
 simp only[ac,bd_s];cases c:e.Kind==5 with
 |true=>rw[show(e.Kind==4)=false by rw[cN] at c;rw[c];rfl];simp only[ae,ac];unfold aIh;rw[h2,b];rfl
 |false=>
 simp only[ac];cases m:e.Kind==4 with
 |true=>rfl
 |false=>
 cases n:e.Kind==6 with
 |true=>rfl
 |false=>
 cases o:e.Kind==7 with
 |true=>rfl
 |false=>
 cases p:e.Kind==8 with
 |true=>simp only[ac,ae];rw[aA (show Qb w.sz/\_ from⟨i,by decide⟩)];rfl
 |false=>
 cases q:e.Kind==9 with
 |true=>rfl
 |false=>
 cases l:e.Kind==10 with
 |true=>rfl
 |false=>
 simp only[ac];show bd (some (aZ9 w e)) _=_;rw[bd_s];rfl
def aJt (l:List AS):Gw l=some (List.take 60 l):=by
 grind[aA,gI,Int.toNat_natCast,List.take_length,List.take_of_length_le,Gw]
def Uw (b:AM)(now:Int)(h:Qa b.sz):rG b now=some (kD b now):=by
 unfold rG kD;rw[aA h,bd_s,aA h,bd_s];cases hb:dB b with
 |false=>rfl
 |true=>
  have hl:b.Open.length<=16:=by
   grind[dB]
  simp only[ah,ac,ae];refine dX (a:=b.Open.filter λc=>decide (c.Until>=now)) (aAx (λi=>(i,(b.Open.take i).filter λc=>decide (c.Until>=now))) b.Open.length (by omega) (λrec i hi=> ?_) (λrec=> ?_) rfl) rfl
  ·grind[decide,aA,aO,List.length_singleton,bd_s,List.take_succ_eq_append_getElem,Nat.le_trans,List.length_filter_le,List.length_take,bD,aD]
  simp
def bOg (w:AA)(h:Qa w.sz):aUs w=some (Rm w):=by
 unfold aUs Rm;rw[aA h,bd_s];refine dX (a:=aH (uV w)) (aA (by assumption)) ?_;cases c:aH (uV w) with
 |false=>rfl
 |true=>
  obtain⟨h2,_⟩:=rU c;change w.Sites.length=2 at h2;have b:∀s∈w.Sites,Qa s.Book.sz:=λs hs=>by
   have h1:s.sz<=w.sz:=by
    obtain⟨i,hi,rfl⟩:=du.1 hs;have:=Ej (f:=AB.sz) hi
    grind[AA.sz,List.getD,List.getElem?_eq_getElem]
   grind[AB.sz,AM.sz]
  obtain⟨s0,s1,e⟩:∃s0 s1,w.Sites=[s0,s1]:=by
   match hq:w.Sites,h2 with
   |[s0,s1],_=>exact⟨s0,s1,rfl⟩
  rw[e] at b;have d:=b s0 (by simp);have j:=b s1 (by simp);rw[ah,ac,ae];rw[e];refine dX (aAx (λi=>(i,match i with|0=>[s0,s1]|1=>[{s0 with Book:=kD s0.Book (uV w).Now},s1]|_=>[{s0 with Book:=kD s0.Book (uV w).Now},{s1 with Book:=kD s1.Book (uV w).Now}])) 2 (by omega) (λrec i hi=> ?_) (λrec=> ?_) rfl) rfl
  ·rcases(show i=0\/i=1 by omega) with rfl|rfl
   ·exact dX (aA d) rfl
   ·exact dX (aA j) rfl
  ·rfl
def aNv (w:AA)(d j:Int)(o:ByteArray)(h:Qo w d j o/\Qc w.sz):Nb w d j o=some (Xc w d j o):=by
 have a:Qa w.sz:=by omega
 unfold Nb Xc;rw[aA a,bd_s,aA a];cases ht:dA w d j with
 |false=>rfl
 |true=>
  cases bU w d with
  |true=>rfl
  |false=>exact dX (aA (show gU (AQ.mk true o 443)/\Qc w.sz from⟨h.1 ht,h.2⟩)) rfl
def bX1 (w:AA)(d j:Int):Qo w d j (aIe j).Host:=λht=>by
 rcases(tY ht).2.2.2.1 with rfl|rfl
 ·exact⟨4,by decide,rfl⟩
 ·exact⟨5,by decide,rfl⟩
def aNw (w:AA)(e:AS)(h:w.sz<=99000000):Ns w e=some (evF w e):=by
 have a:Qa w.sz:=by omega
 have b:Qc w.sz:=by omega
 have k:w.sz<=100000000:=by omega
 have c:Qb w.sz:=by omega
 have l:w.sz<=10000000000:=by omega
 have m:Qd w.sz:=by omega
 have hn:=aUx e.Other;unfold Ns evF bKo;rw[aA a,bd_s];cases aH w with
 |false=>simp[*,flW,unW]
 |true=>
 rw[ah,ac];cases h1:e.Kind==1 with
 |true=>simp[*,flW,unW]
 |false=>
 cases h2:e.Kind==2 with
 |true=>simp[*,flW,unW]
 |false=>
 cases n:e.Kind==3 with
 |true=>rw[ac,ac,ae,aA (by show 6+(aC e.Other).size<=_;omega),aA (by rw[ByteArray.size_append];show 6+(aC e.Other).size+9<=_;omega)];exact aHb (dX (aA (show Qo w e.Device e.Other (aIe e.Other).Host/\Qc w.sz from⟨bX1 _ _ _,b⟩)) rfl) rfl
 |false=>
 cases o:e.Kind==4 with
 |true=>simp[*,flW,unW]
 |false=>
 cases p:e.Kind==5 with
 |true=>simp[*,flW,unW]
 |false=>
 cases q:e.Kind==6 with
 |true=>simp[*,flW,unW]
 |false=>
 cases r:e.Kind==7 with
 |true=>simp[*,flW,unW]
 |false=>
 cases s:e.Kind==8 with
 |true=>simp only[ac,ae];rw[aA (show Qb w.sz/\_ from⟨c,by decide⟩)];rfl
 |false=>
 cases t:e.Kind==9 with
 |true=>simp[*,flW,unW]
 |false=>
 cases d:e.Kind==10 with
 |true=>simp[*,flW,unW]
 |false=>
 cases f:e.Kind==11 with
 |true=>simp[*,flW,unW]
 |false=>
 cases i:e.Kind==12 with
 |true=>simp[*,flW,unW]
 |false=>
 cases j:e.Kind==13<;>simp_all[flW,unW]
theorem cAq {l:List AS}{i:Nat}(h:i<(l.take 60).length):(l.take 60)[i]=l.getD i default:=by
 have:i<l.length:=by grind
 rw[List.getD,aa this,cV,fb]
def aNx (w:AA)(l:List AS)(h:Yi w l):Nt w l=some (uW w l):=by
 unfold Nt;refine dX (a:=uW w l) ?_ rfl;have hlen:(l.take 60).length=min 60 l.length:=cb;by_cases h0:l.length=0
 ·grind[uW,decide_eq_false]
 ·have hp:0<(l.take 60).length:=by omega
  rw[au (show(0:Int)<((l.take 60).length:Int) by omega),ae];refine dX (a:=l.getD 0 default) (by grind[aD,trans,cAq]) (dX (aA (show w.sz<=99000000 from h.2 0 (by omega))) ?_);rw[aA (by show 0+1<=_;decide)];refine aAx (λi=>((List.range (i+1)).map (bAa w l),((i+1:Nat):Int),flW (runN w l (i+1)))) (min l.length 60-1) (by omega) (λrec i hi=> ?_) (λrec=> ?_) rfl
  ·have b:i+1<(l.take 60).length:=by omega
   simp only[bD b,ae,aD b,bd_s,cAq b];refine dX (aA (show(runN w l (i+1)).sz<=99000000 from h.2 (i+1) (by omega))) ?_;rw[aA (by grind[List.length_map,List.length_range,List.length_singleton,aO])];rw[dq (n:=i+1),cE,show(((i+1+1:Nat)):Int)=IntKind.i64.wrap (((i+1:Nat):Int)+1) by rw[aI (by omega) (by omega)];omega];rfl
  grind[min,uW,Nat.min_comm]
theorem bK9 {q:Int}{w:AA}{l:List AS}:∀k,bEw q w l k<=k
 |0=>ao _
 |k+1=>by
  have:=bK9 (q:=q) (w:=w) (l:=l) k
  grind[Nat.succ_le_succ,Nat.le_succ_of_le,bAa,default,bEw]
def aEw (w:AA)(l:List AS)(q:Int)(h:Yi w l):Ct w l q=some (bPw w l q):=by
 unfold Ct;refine dX (a:=bPw w l q) (dX (aA h) ?_) rfl;have hlen:(uW w l).length=min l.length 60:=by unfold uW;rw[bn,en]
 refine aAx (λi=>((bEw q w l i:Int),i)) (min l.length 60) (by omega) (λrec i hi=> ?_) (λrec=> ?_) rfl
 ·grind[bAa,bd_s,default,aI,bEw,bD,aD,bK9,List.getD,List.getElem?_eq_getElem,uW]
 ·rw[<-hlen];simp only[uT,ac];rw[hlen];rfl
def aNy (w:AA)(l:List AS)(h:Yi w l):Mq w l=some (uW w l):=by
 unfold Mq;rw[aA h.1,bd_s];refine dX (a:=uW w l) (aAx (λi=>((List.range i).map (bAa w l),(i:Int),flW (runN w l i))) (min l.length 60) (by omega) (λrec i hi=> ?_) (λrec=> ?_) rfl) rfl
 ·simp only[au (show(i:Int)<(l.length:Int) by omega),au (show(i:Int)<60 by omega),ae,bd_s,aD (show i<l.length by omega)];refine dX (aA (show(runN w l i).sz<=99000000 from h.2 i hi)) ?_;rw[aA (by unfold aO;simp only[bn,en,cf];omega)];have e:l[i]'(by omega)=l.getD i default:=by rw[List.getD,aa (show i<l.length by omega)];rfl
  rw[show IntKind.i64.wrap ((i:Int)+1)=((i+1:Nat):Int) by rw[aI (by omega) (by omega)];omega,e,dq,cE];rfl
 ·by_cases hl:l.length<60
  ·simp only[av (show ¬((min l.length 60:Nat):Int)<(l.length:Int) by omega),ac,bd_s];rfl
  ·simp only[av (show ¬((min l.length 60:Nat):Int)<60 by omega),cA2,bd_s,ac];cases decide (((min l.length 60:Nat):Int)<(l.length:Int))<;>rfl
def aEx (w:AA)(l:List AS)(q:Int)(h:Yi w l):Ce w l q=some (bPw w l q):=by
 unfold Ce;refine dX (a:=uW w l) (aA h) (dX (a:=bPw w l q) ?_ rfl);have hlen:(uW w l).length=min l.length 60:=by unfold uW;rw[bn,en]
 refine aAx (λi=>((bEw q w l i:Int),i)) (min l.length 60) (by omega) (λrec i hi=> ?_) (λrec=> ?_) rfl
 ·have b:i<(uW w l).length:=by omega
  have c:i<l.length:=by omega
  have e:(uW w l)[i]=bAa w l i:=by simp[uW]
  have d:l[i]=l.getD i default:=by rw[List.getD,aa c];rfl
  have hs:=bK9 (q:=q) (w:=w) (l:=l) i;simp only[bD b,ae,aD b,aD c,bd_s,e,d];rw[show((bEw q w l (i+1):Nat):Int)=bEw q w l i+(bif bAa w l i&&(l.getD i default).Kind==q then 1 else 0) by
   show((bEw q w l i+bif bAa w l i&&(l.getD i default).Kind==q then 1 else 0:Nat):Int)=_;cases bAa w l i&&(l.getD i default).Kind==q<;>rfl]
  cases bAa w l i with
  |false=>simp only[ac,bd_s,ir,Int.add_zero]
  |true=>
   simp only[ae,bd_s,cA];cases(l.getD i default).Kind==q with
   |false=>simp only[ac,bd_s,Int.add_zero]
   |true=>simp only[ae,bd_s];rw[aI (by omega) (by omega)]
 ·rw[<-hlen];simp only[uT,ac];rw[hlen];rfl
noncomputable instance {α:Type} {p:α->Prop} {l:List α}:Decidable (jD p l):=Classical.propDecidable _
def cFm {l:List AS}{z:Int}(h:jD (λ(x:AS)=>True) l)(h0:0<=z)(h1:z<=1048576){k:Option Int}:gd (gJ (jD λ(x:AS)=>True) l z) k=k:=aA ⟨h,h0,h1⟩
def cD5 {n:Nat}{z:Int}{k:Option Bool}(h:¬(n:Int)<=z):(bif decide (dY n z<0) then some true else k)=some true:=by rw[dY,cG h];rfl
def cD6 {n:Nat}{z:Int}{k:Option Bool}(h:(n:Int)<=z):(bif decide (dY n z<0) then some true else k)=k:=by rw[dY,cu h,av (by omega),ac]
def Ip (w:AA)(l:List AS)(q:Int)(h:w.ok/\jD (λ(x:AS)=>True) l):nX w l q=some true:=by
 unfold nX;obtain⟨e0,⟨hs,e⟩|e⟩:=szW h.1
 ·rw[e0,bd_s,e,cDy hs,cFm h.2 (by omega) (by omega),bd_s];by_cases hl:(l.length:Int)<=1048576-(w.sz:Int)
  ·have hr:=cCd hs l;have a:l.length<=1048576:=by omega
   rw[cD6 hl];simp only[aA hs,aA a,aA hr,bd_s,bh,ac,bWu (show w.sz<=68719476736 by omega),bWu (show l.length<=68719476736 by omega),ah]
  ·rw[cD5 hl]
 ·simp only[e0,bd_s,e];rfl
end
end Go.VK
