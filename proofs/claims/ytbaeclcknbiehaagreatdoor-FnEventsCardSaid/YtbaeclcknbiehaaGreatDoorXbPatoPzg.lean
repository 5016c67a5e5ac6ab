import Derived.Test.YtbaeclcknbiehaaGreatDoorXbM
import Derived.Test.YtbaeclcknbiehaaGreatDoorLKatoa
/- Printed by wip/tools: models, walks, proofs. -/
set_option linter.all false
set_option maxRecDepth 100000
set_option maxHeartbeats 4000000
namespace Go.VK
open Go.RowKit Go.Proofs D
noncomputable section
open EV (bI)
def bI5 (a b c:Int):aR6 a b c=some (bG a b c):=by unfold aR6 bG;show bd (bif decide (b<=a) then some (decide (a<=c)) else some false) _=_;cases decide (b<=a)<;>rfl
def aXi (a b c:Int):V3 a b c=some (bG a b c):=by unfold V3 bG;cases decide (b<=a)<;>rfl
def bLt (p q:Int):aXd p q=some (cO p q):=by
 grind[bRv,bG,aA,bZ7,aXd]
def bLu (p q:Int):aXh p q=some (cO p q):=by
 unfold aXh;simp only[bd_bb];by_cases h:1<=q/\q<=1000000000000
 ·rw[aA (by omega)];by_cases ht:p.tmod q<0
  ·simp[h,ht,show ¬q<1 by omega,show ¬q>1000000000000 by omega,bZ5 h ht];rw[IntKind.wrap_i64];have:=qD (p:=p) (q:=q) h.1;omega
  grind[bZ6]
 grind[bRv]
theorem bI6:((2147483647:Int)≠0)=True:=by simp
def aSa (l:List Int)(h:l.length<=1099511627776):aR7 l=some (Rx l):=by
 unfold aR7;rw[jA (l:=l) hstep (λ_ _=>True) (λs=>some s) (by omega) trivial (by simp) (λrec i s hi _=>by
  simp only[dD hi,ae,aL hi,bd_s,bI6,gd_T];rfl) (by simp)]
 rfl
def bI7:= @aSa
def aPb (k:Int)(l:List Int)(h:l.length<=34359738368):Tj k l=some (bO k l):=by unfold Tj;rw[aA (by grind[aS]),aA (by grind[aS]),aA (by simp;omega)];simp[bO]
theorem aFp {α:Type}{r:List (List α)}{i:Nat}(hi:i<r.length):(r.take (i+1)).flatten=(r.take i).flatten++r[i]:=by
 grind[Option.toList_some,List.flatten_cons,List.flatten_nil,List.take_add_one,List.getElem?_eq_getElem,List.flatten_append]
def aZz (a:List Int)(r:List (List Int))(h:Mh a r):aFh a r=some (sG a r):=by
 unfold aFh;have hs:∀i,(r.take i).flatten.length<=r.flatten.length:=(by grind[List.take_append_drop,List.flatten_append,List.length_append]);rw[aA (by grind[aS]),jA (l:=r) (λs x=>s++x) (λi s=>s=a++(r.take i).flatten) (λs=>some s) (by omega) (by simp)
  (by grind[aFp,List.append_assoc])
  (λrec i s hi hv=>by
   have e:=aFp hi;have h1:=hs (i+1);rw[e,ax] at h1;simp only[dD hi,ae,aL hi,bd_s];rw[aA (by grind[List.length_append,aS])]) (by simp)]
 have:r.foldl (λs x=>s++x) ([]++a)=a++r.flatten:=by rw[bo,aOo (f:=λx:List Int=>x)];simp
 rw[this];rfl
def aPc (k:Int)(l:List Int)(h:l.length<=34359738368):Uf k l=some (bO k l):=by
 grind[bO,sG,aA,bd_s,Uf]
def bLv (a b:Int):aXe a b=some (bEv a b):=by simp[aXe,bEv]
def bFh (n:Int):aKt n=some (jF n):=by simp[aKt,jF]
def aPd (k:Int)(l:List Int)(h:l.length<=34359738300):Tn k l=some (aV k l):=by unfold Tn;rw[aA (by grind[aS]),aA (by simp;omega),bd_s,bHo (nS _ _).1];rfl
def aPe (k:Int)(l:List Int)(h:l.length<=34359738300):Ul k l=some (aV k l):=by
 grind[aV,sG,aA,bd_s,Ul]
def Pi (n:Int):aKo n=some (bZ n):=rfl
def aKv:= @Pi
def Vb (n:Int):Tq n=some (iR n):=by unfold Tq iR;cases bZ n<;>rfl
def aPf:= @Vb
def aPg (s:AJ):aO6 s=some (jQ s):=by rfl
def aC7 (s:AJ):aC1 s=some (aZ s):=rfl
def aC8 (s:AJ):aC6 s=some (aZ s):=by rfl
def aFq (l:List Int)(x:Int)(h:l.length<=1099511627776):aE7 l x=some (jM l x):=by unfold aE7;rw[mJ (l:=l) (λe=>e==x) (.inl true) (.inr ()) (by omega) (by grind[dD,aL,bd_s]) (by simp)];unfold jM;cases l.any _<;>rfl
def bLw:= @aFq
def bFi (s:List Int)(x:Int):jM s x=s.contains x:=by
 grind[Bool.beq_comm,List.contains_eq_any_beq,jM]
def bDf {s:List Int}{e:AG}(h:(e.Kind==1)=true):mK s e=bif !jM s e.Device then s++[e.Device] else s:=by unfold mK;rw[h,bFi];cases s.contains e.Device<;>rfl
def bDg {s:List Int}{e:AG}(h:(e.Kind==1)=false):mK s e=bif e.Kind==2 then s.filter (λd=>d !=e.Device) else s:=by
 grind[mK]
def aPh (l:List AG)(h:l.length<=34359738368):Tt l=some (aG l):=by
 unfold Tt;rw[jA (l:=l) mK (λi s=>s.length<=i) (λs=>some s) (by omega) (by simp) (by grind[aRt])
  (λrec i s hi hv=>by
   simp only[dD hi,ae,aL hi,bd_s];rw[aA (by omega)];have e:∀x:Int,bI (α:=List Int) FUEL (λa (i8:(List Int×Nat))=>bif (decide ((↑i8.2:Int)<(↑s.length:Int))) then(bd (bd (aT s (↑i8.2:Int)) λ(c:(Int))=>bif (c !=x) then(bd (aT s (↑i8.2:Int)) λ(b:(Int))=>gd (aS i8.1 [b]) (some (i8.1++[b]))) else(some (i8.1))) λ(f:(List Int))=>a ((f,(i8.2+1)))) else(some (i8.1))) ([],0)=some (s.filter λd=>d !=x):=λx=>by
    rw[jA (l:=s) (λq y=>bif y !=x then q++[y] else q) (λi q=>q.length<=i) (λq=>some q) (by omega) (by simp) (λi q hi hv=>by cases(s[i] !=x)<;>simp<;>omega)
     (by grind[dD,aL,bd_s,aA,aS]) (by simp),Xm]
    simp
   rw[e];cases h1:(l[i].Kind==1) with
   |true=>
    have h2:(l[i].Kind==2)=false:=by simp_all
    rw[bDf h1,h2];rw[aA (by grind[aS])];cases jM s l[i].Device<;>rfl
   |false=>
    rw[bDg h1,aA (by grind[aS])];cases(l[i].Kind==2)<;>rfl) (by simp)]
 rfl
def aPi (l:List AG)(h:l.length<=34359738368):Ue l=some (aG l):=by
 unfold Ue;rw[jA (l:=l) mK (λi s=>s.length<=i) (λs=>some s) (by omega) (by simp) (by grind[aRt])
  (λrec i s hi hv=>by
   simp only[dD hi,ae,aL hi,bd_s];rw[aA (by omega)];have e:∀x:Int,bI (α:=List Int) FUEL (λb (a:(List Int×Nat))=>bif (decide ((↑a.2:Int)<(↑s.length:Int))) then(bd (bd (aT s (↑a.2:Int)) λ(c:(Int))=>bif (c !=x) then(gd (aS a.1 [c]) (some (a.1++[c]))) else(some (a.1))) λ(f:(List Int))=>b ((f,(a.2+1)))) else(some (a.1))) ([],0)=some (s.filter λd=>d !=x):=λx=>by
    rw[jA (l:=s) (λq y=>bif y !=x then q++[y] else q) (λi q=>q.length<=i) (λq=>some q) (by omega) (by simp) (λi q hi hv=>by cases(s[i] !=x)<;>simp<;>omega)
     (by grind[dD,aL,bd_s,aA,aS]) (by simp),Xm]
    simp
   rw[e];cases h1:(l[i].Kind==1) with
   |true=>rw[bDf h1,aA (by grind[aS])];cases jM s l[i].Device<;>rfl
   |false=>
    rw[bDg h1];cases(l[i].Kind==2)<;>rfl) (by simp)]
 rfl
def aPj (w:AA)(d:Int):Uk w d=some (aM w d):=by unfold Uk aM;show bd (bif decide (0<=d) then _ else _) _=_;cases decide (0<=d)<;>rfl
def aZ0 (w:AA)(d:Int)(h:WOk w):aFe w d=some (iH w d):=by
 unfold aFe iH;rw[bCl h];have hl:=gG w.aAF.Log;have a:=h.2.2.1;cases hd:aM w d with
 |false=>rfl
 |true=>simp only[ae,mM hd,bd_s,aA a,aA (show(aG w.aAF.Log).length<=1099511627776 by omega),cA]
def aZ1 (w:AA)(d:Int)(h:WOk w):aFl w d=some (iH w d):=by
 unfold aFl iH;have hl:=gG w.aAF.Log;have a:=h.2.2.1;cases hd:aM w d with
 |false=>rfl
 |true=>simp only[ae,mM hd,bd_s,aA a,aA (show(aG w.aAF.Log).length<=1099511627776 by omega),cA]
def aXj (w:AA)(d:Int):V4 w d=some (iW w d):=by unfold V4 iW;show bd (bif decide (0<=d) then _ else _) _=_;cases decide (0<=d)<;>rfl
def aXk (a:AH)(s h:Int):S9 a s h=some (nJ a s h):=by unfold S9 nJ;cases decide (a.Site<s)<;>cases(a.Site==s)<;>rfl
def aG4 (a b:AH):Jb a b=some (eH a b):=by unfold Jb eH;cases decide (a.Site<b.Site)<;>cases(a.Site==b.Site)<;>rfl
def bI8 {l:List AH}{i:Nat}(hi:i<l.length)(hl:l.length<=34359738368){q:AH->Bool}(hq:∀x,q x=eH x l[i]):
  (bif (!bG l[i].Site (0:Int) (2147483646:Int)) then(some (true)) else(bif (!bG l[i].Handle (0:Int) (1000000:Int)) then(some (true)) else(bif (!bG l[i].Version (1:Int) (1000000:Int)) then(some (true)) else(bif (decide ((i:Int)>(0:Int))) then(bd (aT l (IntKind.i64.wrap ((i:Int)-(1:Int)))) λ(a:(AH))=>some (!q a)) else(some (false))))))=some (aCw l i l[i]):=by
 unfold aCw;cases bG l[i].Site 0 2147483646 with
 |false=>rfl
 |true=>
  cases bG l[i].Handle 0 1000000 with
  |false=>rfl
  |true=>
   cases bG l[i].Version 1 1000000 with
   |false=>rfl
   |true=>
    by_cases h0:(i:Int)>0
    ·rw[au h0,aJ (by omega) (by omega)];have b:aT l ((i:Int)-1)=some l[i-1]:=by
      grind[aL]
     grind[bd_s,Bool.not_true,default,List.getD,List.getElem?_eq_getElem]
    simp_all
def aS3 (b:AF)(h:b.sz<=34359738368):Zk b=some (aO b):=by
 simp only[AF.sz] at h;unfold Zk aO;rw[gL (l:=b.Entries) (aCw b.Entries) (.inl false) (.inr ()) (by omega) (λrec i hi=>by
  simp only[dD hi,ae,aL hi,bd_s];rw[bI8 hi h (q:=λx=>nJ x b.Entries[i].Site b.Entries[i].Handle) (λx=>rfl)];rfl) (by simp)]
 grind[eF,aCw,nx]
def aS4 (b:AF)(h:b.sz<=34359738368):Zy b=some (aO b):=by
 simp only[AF.sz] at h;unfold Zy aO;by_cases a:(b.Entries.length:Int)>20
 ·grind
 ·rw[ay a,show decide ((b.Entries.length:Int)<=20)=true from au (by omega),aa];rw[gL (l:=b.Entries) (aCw b.Entries) (.inl false) (.inr ()) (by omega) (λrec i hi=>by
   simp only[dD hi,ae,aL hi,bd_s];rw[bI8 hi h (q:=λx=>eH x b.Entries[i]) (λx=>rfl)];rfl) (by simp)]
  cases eF (aCw b.Entries) 0 b.Entries<;>rfl
def aPk (b:AF)(s h:Int)(a:b.sz<=34359738368):Tx b s h=some (aP b s h):=by simp only[AF.sz] at a;unfold Tx aP;exact M9 (l:=b.Entries) (λ(e:AH)=>e.Site==s&&e.Handle==h) (by omega) (by grind[dD,aL,bd_s]) (by simp)
def X3 (b:AF)(h:b.sz<=34359738368):R8 b=some (b):=by simp only[AF.sz] at h;unfold R8;rw[aA (by grind[List.length_nil,aS])];rfl
def aKw:= @X3
theorem bFj (p:AH->Bool):∀(l:List AH) (i:Nat),i<=(l.takeWhile p).length->(∃hi:i<l.length,p l[i]=true/\i<(l.takeWhile p).length)\/(i=(l.takeWhile p).length/\∀hi:i<l.length,p l[i]=false)
 |[],i,h=> .inr ⟨by simpa using h,λhi=>by simp at hi⟩
 |x::l,i,h=>by
  rw[cX] at h ⊢;cases hp:p x with
  |false=>rw[hp] at h;simp at h;subst h;exact .inr ⟨by simp,λ_=>hp⟩
  |true=>
   rw[hp] at h;simp only[gS,aq] at h ⊢;cases i with
   |zero=>exact .inl ⟨by simp,hp,by omega⟩
   |succ i=>
    rcases bFj p l i (by omega) with⟨h1,h2,a⟩|⟨h1,h2⟩
    ·exact .inl ⟨by simpa using h1,h2,by omega⟩
    ·exact .inr ⟨by omega,λhi=>h2 (by simpa using hi)⟩
def bN7 (p:AH->Bool):∀l:List AH,l.take (l.takeWhile p).length=l.takeWhile p
 |[]=>rfl
 |x::l=>by
  rw[cX];cases p x with
  |false=>rfl
  |true=>simp only[gS,aq,ia];rw[bN7 p l]
def bN8 (p:AH->Bool):∀l:List AH,l.drop (l.takeWhile p).length=l.dropWhile p
 |[]=>rfl
 |x::l=>by
  rw[cX,List.dropWhile_cons];cases p x with
  |false=>rfl
  |true=>simp only[gS,aq,gi];rw[bN8 p l]
def aZ2 (b:AF)(x:AH)(h:b.sz<=34359738360):aFa b x=some (uX b x):=by
 have d:=h;simp only[AF.sz] at h;unfold aFa uX;rw[aA (by omega),bd_s,aA (by omega),bd_s];by_cases c:aP b x.Site x.Handle>=0
 ·rw[au c,ae,ae];have:=aU5 (by assumption);simp_all[jP,aP]
 ·rw[ay c,aa,aa];have a:(b.Entries.takeWhile λe=>nJ e x.Site x.Handle).length<=b.Entries.length:=(List.takeWhile_sublist _).length_le;rw[Lm (λi s=>i<=(b.Entries.takeWhile λe=>nJ e x.Site x.Handle).length/\s=(i:Int)) b.Entries.length (some ((b.Entries.takeWhile λe=>nJ e x.Site x.Handle).length:Int)) (s:=(0:Int)) (by omega) ⟨by omega,rfl⟩ (by grind[bFj,dD,aL,bd_s,aJ]) (by grind[nJ,bd_s]),bd_s];rw[aA ⟨by omega,by simpa using a⟩,aA ⟨by omega,by simpa using a⟩,aA (by grind[aS]),aA (by grind[aS]),aA (by grind[aS])];rw[bw,bo];rw[bN7,bN8]
theorem bQ6 {l:List AH}{k:Int}(h0:0<=k)(h1:k.toNat<l.length)(x:AH):(bd (aT l k) λ(b:AH)=>bif (decide (x.Version>b.Version)) then(some (true)) else(bd (aT l k) λ(a:AH)=>bif (x.Version==a.Version) then(some (x.Deleted)) else(some (false))))=some (Gv x (l.getD k.toNat default)):=by rw[jP h0 h1,List.getD,ab h1,cJ];simp only[bd_s];unfold Gv;cases decide (x.Version>l[k.toNat].Version)<;>cases(x.Version==l[k.toNat].Version)<;>rfl
def aC9 (a b:AF)(h:a.sz<=34359738368/\b.sz<=34359738368):Cz a b=some (nT a b):=by
 unfold Cz nT;rw[aA h.1,bd_s];cases f:aO a with
 |false=>simp[*]
 |true=>
  rw[aA h.2];cases hb:aO b with
  |false=>simp[*]
  |true=>
   obtain⟨n,j⟩:=bEz f;obtain⟨p,k⟩:=bEz hb;rw[aA h.1];simp only[aj,aa,ae,bd_s,dc];rw[bCj (l:=b.Entries) (s0:=a.Entries) (λo x=>dX o [x]) (λi o=>srt o/\o.length<=20+i) (λo=>some o) (by omega) ⟨j,by omega⟩ (λi o hi hv=>by
     have:=Gf _ o [b.Entries[i]] (ak _)
     grind[bNg,List.length_singleton]) (λrec i o hi hv=>by
     obtain⟨hs,hl⟩:=hv;simp only[dD hi,ae,aL hi,bd_s];rw[aA (by grind[AF.sz]),bd_s,<-bTm hs];have hk:(bif decide (aP ⟨o⟩ b.Entries[i].Site b.Entries[i].Handle<0) then some true else bd (aT o (aP ⟨o⟩ b.Entries[i].Site b.Entries[i].Handle)) λ(m:AH)=>bif (decide (b.Entries[i].Version>m.Version)) then(some (true)) else(bd (aT o (aP ⟨o⟩ b.Entries[i].Site b.Entries[i].Handle)) λ(c:AH)=>bif (b.Entries[i].Version==c.Version) then(some (b.Entries[i].Deleted)) else(some (false))))=some (decide (aP ⟨o⟩ b.Entries[i].Site b.Entries[i].Handle<0)||Gv b.Entries[i] (o.getD (aP ⟨o⟩ b.Entries[i].Site b.Entries[i].Handle).toNat default)):=by
      by_cases d:aP ⟨o⟩ b.Entries[i].Site b.Entries[i].Handle<0
      ·simp[*]
      ·rw[ay d,aa];have:=aU5 (show 0<=lD (λ(e:AH)=>e.Site==b.Entries[i].Site&&e.Handle==b.Entries[i].Handle) 0 o from by unfold aP at d;simp only at d;omega)
       grind[bQ6,aP]
     grind[decide,aP,Gv,default,aA,AF.sz,bd_s]) (by simp)]
   rw[aV8 _ _ k,bd_s];have hm:=Gf _ a.Entries b.Entries (ak _);rw[aA (by grind[AF.sz]),bd_s];cases aO ⟨dX a.Entries b.Entries⟩<;>rfl
def drop_at {l:List AH}{i:Nat}(h:i<l.length):l.drop i=l[i]::l.drop (i+1):=cE h
def bLx (e f:AH){X:Int×Int×Int×Bool->Option (List AH)}:(bd (bd (bif (decide (f.Version>e.Version)) then(some (true)) else(bif (f.Version==e.Version) then(some (f.Deleted)) else(some (false)))) λ(a:Bool)=>bif a then(some (f.Site,f.Handle,f.Version,f.Deleted)) else(some (e.Site,e.Handle,e.Version,e.Deleted))) X)=X ((Cr e f).Site,(Cr e f).Handle,(Cr e f).Version,(Cr e f).Deleted):=by unfold Cr Gv;cases decide (f.Version>e.Version)<;>cases(f.Version==e.Version)<;>cases hd:f.Deleted<;>simp[bd,hd]
def aDa (a b:AF)(h:a.sz<=34359738368/\b.sz<=34359738368):Dk a b=some (nT a b):=by
 unfold Dk nT;rw[aA h.1,bd_s];cases j:aO a with
 |false=>simp[*]
 |true=>
  rw[aA h.2];cases hb:aO b with
  |false=>simp[*]
  |true=>
   obtain⟨p,q⟩:=bEz j;obtain⟨r,t⟩:=bEz hb;simp only[aj,aa,ae,bd_s,dc];have hm:=Gf _ a.Entries b.Entries (ak _);rw[Lm (λn s=>∃(i k:Nat) (o:List AH),s=((i:Int),(k:Int),o)/\i<=a.Entries.length/\k<=b.Entries.length/\n<=i+k/\o++dX (a.Entries.drop i) (b.Entries.drop k)=dX a.Entries b.Entries) (a.Entries.length+b.Entries.length) (some (dX a.Entries b.Entries)) (s:=((0:Int),(0:Int),([]:List AH))) (by omega) ⟨0,0,[],rfl,by omega,by omega,by omega,rfl⟩ (λn s rec hn hv=>by
     obtain⟨i,k,o,rfl,hi,hk,l,ho⟩:=hv;have m:o.length<=40:=by grind
     have f:∀x:AH,aS o [x]:=(by grind[aS,List.length_singleton]);have wi:IntKind.i64.wrap ((i:Int)+1)=((i+1:Nat):Int):=by grind[aJ]
     have wk:IntKind.i64.wrap ((k:Int)+1)=((k+1:Nat):Int):=by grind[aJ]
     rcases e8 i a.Entries.length with d|d
     ·have ne1:((i:Int)==(a.Entries.length:Int))=false:=by simp;omega
      rw[drop_at d] at ho;rcases e8 k b.Entries.length with c|c
      ·have ne2:((k:Int)==(b.Entries.length:Int))=false:=by simp;omega
       rw[drop_at c,aGo] at ho;simp only[dD d,dD c,ae,bd_s,ne2,aa,aL d,aL c,ne1,aA (f _),wi,wk,bLx];cases h1:eH a.Entries[i] b.Entries[k] with
       |true=>rw[h1,ae,<-drop_at c] at ho;exact .inl ⟨_,⟨i+1,k,o++[a.Entries[i]],rfl,by omega,hk,by omega,by rw[<-ho];simp⟩,rfl⟩
       |false=>
        cases h2:eH b.Entries[k] a.Entries[i] with
        |true=>rw[h1,aa,h2,ae,<-drop_at d] at ho;exact .inl ⟨_,⟨i,k+1,o++[b.Entries[k]],rfl,hi,by omega,by omega,by rw[<-ho];simp⟩,rfl⟩
        |false=>rw[h1,aa,h2,aa] at ho;exact .inl ⟨_,⟨i+1,k+1,o++[Cr a.Entries[i] b.Entries[k]],rfl,by omega,by omega,by omega,by rw[<-ho];simp⟩,rfl⟩
      ·have e:k=b.Entries.length:=by omega
       subst e;rw[dy,fO] at ho;simp only[dD d,ae,bd_s,dh,aL d,aA (f _),wi];exact .inl ⟨_,⟨i+1,_,o++[a.Entries[i]],rfl,by omega,ak _,by omega,by rw[dy,fO,<-ho];simp⟩,rfl⟩
     ·have e:i=a.Entries.length:=by omega
      subst e;rw[dy,nU] at ho;rcases e8 k b.Entries.length with c|c
      ·have ne2:((k:Int)==(b.Entries.length:Int))=false:=by simp;omega
       simp only[rU,aa,dD c,bd_s,ae,ne2,dh,aL c,aA (f _),wk];exact .inl ⟨_,⟨_,k+1,o++[b.Entries[k]],rfl,ak _,by omega,by omega,by rw[dy,nU,<-ho,drop_at c];simp⟩,rfl⟩
      grind[List.drop_length,bd_s]) (by grind[List.drop_length,fO,bd_s])]
   rw[bd_s,aA (by grind[AF.sz]),bd_s,aA h.1];cases aO ⟨dX a.Entries b.Entries⟩<;>rfl
def X4 (l:List AG)(h:l.length<=34359738368):Q5 l=some l:=by
 grind[Bt,Q5]
def aXl:= @X4
def aPl (l:List Int)(h:l.length<=34359738368):Uh l=some l:=by
 grind[Bt,Uh]
def X5 (d:AD)(h:d.sz<=34359738368):R9 d=some d:=by simp only[AD.sz] at h;unfold R9;simp only[aA (show d.Log.length<=34359738368 by omega),aA (show d.aAE.sz<=34359738368 by simp only[AF.sz];omega),bd_s]
def aKx:= @X5
def aXm (e:AP)(h:e.sz<=34359738368):Q9 e=some e:=by
 simp only[AP.sz] at h;unfold Q9;rw[aRw (l:=e.Boxes) (by omega) (λrec i s hi hs=>by
  have a:=kM (f:=AQ.sz) hi;simp only[AQ.sz] at a h;simp only[dD hi,ae,aL hi,bd_s,Bt (show e.Boxes[i].Data.length<=34359738368 by omega),eO hs,bo]) (by simp)]
 rfl
def aPm (l:List AQ)(h:uY AQ.sz l<=34359738368):Ui l=some l:=by
 unfold Ui;unfold uY at h;rw[bYd (l:=l) (by omega) (λrec i s hi hs=>by
  have a:=kM (f:=AQ.sz) hi;simp only[AQ.sz] at a h;simp only[dD hi,ae,aL hi,bd_s,aA (show l[i].Data.length<=34359738368 by omega),eO hs]) (by simp)]
 rfl
def F7 (e:AP)(h:e.sz<=34359738368):wY e=some e:=by unfold wY;simp only[aA (show uY AQ.sz e.Boxes<=34359738368 from h),bd_s]
def aXn (e:AK)(h:e.sz<=34359738368):T9 e=some e:=by unfold T9;rw[Bt h];rfl
def aKy (e:AK)(h:e.sz<=34359738368):Nq e=some e:=by unfold Nq;simp only[aA (show e.Data.length<=34359738368 from h),bd_s]
def X6 (c:AR)(h:c.sz<=34359738368):U0 c=some c:=by simp only[AR.sz] at h;unfold U0;rw[aRw (l:=c.History) (by omega) (by grind[kM,AK.sz,dD,aL,bd_s,aA,eO]) (by simp)];simp only[aA (show c.Log.length<=34359738368 by omega),aA (show c.Boxes.sz<=34359738368 by simp only[AP.sz];omega),bd_s]
def aPn:= @X6
def X7 (e:AI)(h:e.sz<=34359738368):R5 e=some e:=by unfold R5;rw[Bt h];rfl
def aG5:= @X7
def X8 (e:AN)(h:e.sz<=34359738368):R6 e=some e:=by unfold R6;rw[Bt h];rfl
def aS5:= @X8
def aXo (s:AB)(h:s.sz<=34359738368):R7 s=some s:=by simp only[AB.sz] at h;unfold R7;rw[aRw (l:=s.Accounts) (by omega) (by grind[kM,AI.sz,dD,aL,bd_s,aA,eO]) (by simp)];simp only[aA (show s.Book.sz<=34359738368 by simp only[AN.sz];omega),bd_s,Bt (show s.Logins.length<=34359738368 by omega),bo]
def aS6 (s:AB)(h:s.sz<=34359738368):Zv s=some s:=by simp only[AB.sz] at h;unfold Zv;rw[aRw (l:=s.Accounts) (by omega) (by grind[kM,AI.sz,dD,aL,bd_s,aA,eO]) (by simp)];simp only[aA (show s.Book.sz<=34359738368 by simp only[AN.sz];omega),bd_s,aA (show Mh s.Logins [] by unfold Mh;simp;omega)];simp[sG]
def X9 (e:AC)(h:e.sz<=34359738368):U6 e=some e:=by unfold U6;rw[Bt h];rfl
def aS7:= @X9
def o7 (l:List AC)(h:uY AC.sz l<=34359738368):Zo l=some l:=by
 unfold Zo;unfold uY at h;rw[bYd (l:=l) (by omega) (λrec i s hi hs=>by
  have a:=kM (f:=AC.sz) hi;simp only[dD hi,ae,aL hi,bd_s,aA (show l[i].sz<=34359738368 by omega),eO hs]) (λrec s=>by simp only[rU,aa])]
 rfl
def aPo:= @o7
def Y1 (e:AV)(h:e.sz<=34359738368):U7 e=some e:=by unfold U7;rw[Bt h];rfl
def aS8:= @Y1
def aXp (w:AA)(h:w.sz<=34359738368):U8 w=some w:=by
 simp only[AA.sz] at h;unfold U8;rw[aRw (l:=w.Devices) (by omega) (λrec i q hi hs=>by
  have a:=kM (f:=AD.sz) hi;simp only[dD hi,ae,aL hi,bd_s,aA (show w.Devices[i].sz<=34359738368 by omega),eO hs]) (λrec q=>by simp only[rU,aa]),
  aRw (l:=w.Sites) (by omega) (λrec i q hi hs=>by
  have a:=kM (f:=AB.sz) hi;simp only[dD hi,ae,aL hi,bd_s,aA (show w.Sites[i].sz<=34359738368 by omega),eO hs]) (λrec q=>by simp only[rU,aa])]
 simp only[bd_s,Bt (show w.Stolen.length<=34359738368 by omega),aA (show w.aAF.sz<=34359738368 by simp only[AR.sz];omega),aA (show uY AC.sz w.Hosts<=34359738368 by unfold uY;omega),aA (show w.Mail.sz<=34359738368 by simp only[AV.sz];omega),bo]
def aPp (w:AA)(h:w.sz<=34359738368):Uj w=some w:=by
 simp only[AA.sz] at h;unfold Uj;rw[aRw (l:=w.Devices) (by omega) (by grind[kM,AD.sz,dD,aL,bd_s,aA,eO]) (by simp),
  aRw (l:=w.Sites) (by omega) (by grind[kM,AB.sz,dD,aL,bd_s,aA,eO]) (by simp)]
 simp only[bd_s,Bt (show w.Stolen.length<=34359738368 by omega),aA (show w.aAF.sz<=34359738368 by simp only[AR.sz];omega),aA (show uY AC.sz w.Hosts<=34359738368 by unfold uY;omega),aA (show w.Mail.sz<=34359738368 by simp only[AV.sz];omega),bo]
theorem bFk {F:(Int×Int×Int->Option Int)->Int×Int×Int->Option Int}(a:∀rec (b n s:Int),0<=n->n<9223372036854775807->F rec (b,n,s)=bif decide (n>0) then rec ((IntKind.i64.wrap (b*b)).tmod 2147483647,n/2,bif n%2==1 then(IntKind.i64.wrap (s*b)).tmod 2147483647 else s) else some s):
  ∀(k:Nat) (b n s:Int) (f:Nat),k<f->0<=n->n<2^k->k<=62->bI f F (b,n,s)=some (bP8 k b n s)
 |0,b,n,s,f+1,c,h0,h1,hk=>by
  have:n=0:=by simp at h1;omega
  subst this;rw[iD,a _ _ _ _ (by omega) (by omega)];rfl
 |k+1,b,n,s,f+1,c,h0,h1,hk=>by
  have h2:(2:Int)^(k+1)=2*2^k:=by rw[gj];omega
  have d:n<2^62:=Int.lt_of_lt_of_le h1 (by exact_mod_cast gC (by omega) hk);rw[iD,a _ _ _ _ h0 (by omega)];unfold bP8;by_cases hn:n>0
  ·rw[au hn,ae,cR hn];exact bFk a k _ (n/2) _ f (by omega) (by omega) (by omega) (by omega)
  ·rw[ay hn,aa,dk hn]
def aXq (b n:Int)(h:0<=n/\n<2147483648):vF b n=some (bP8 31 b n 1):=by
 grind[bFk,rT,and_one,Ri,bNd,bI6,gd_T,bd_s,aA,FUEL,fM,vF]
def aZ3 (b n:Int)(h:0<=n/\n<2147483648)(hb:0<=b/\b<2147483647):iB b n 2147483647=some (bP8 31 b n 1):=by unfold iB;rw[show b.tmod 2147483647=b by rw[bv hb.1];omega,show(1:Int).tmod 2147483647=1 by decide,bFk (by grind[Int.tmod_eq_emod_of_nonneg,Int.tdiv_eq_ediv_of_nonneg,aJ,bI6,gd_T,bd_s]) 31 b n 1 FUEL (by grind[fM]) h.1 (by omega) (by omega)];rfl
def aKz (q:Int):Mq q=some (iJ q):=by
 unfold Mq iJ;rw[aXq _ _ (by decide),bNe,show bG q 1 2147483646=bZ q from rfl]
 grind[bZ,jK,aJ,Bool.not_true,bd_s,bI6,gd_T,Int.tmod_eq_emod_of_nonneg,iR,bG,decide_true,Bool.and_self,bne_self_eq_false]
def aK0 (q:Int):Nn q=some (iJ q):=by
 unfold Nn iJ;rw[aZ3 _ _ (by decide) (by decide),bNe];cases hk:bZ q with
 |false=>rfl
 |true=>
  have hr:=jK hk
  grind[Bool.not_true,bd_s,bI6,gd_T,Int.tmod_eq_emod_of_nonneg,aJ]
def aG6 (p:Int)(l:List Int)(h:l.length<=34359738300):Hg p l=some (Mg p l):=by unfold Hg Mg;rw[aA (by grind[aS]),aA (by simp;omega)];cases bZ p<;>rfl
def aG7 (p:Int)(l:List Int)(h:l.length<=34359738300):Io p l=some (Mg p l):=by unfold Io Mg;rw[aA (by grind),bd_s,aA (by grind[sG])];cases bZ p<;>simp[sG]
def vM (q:Int)(l:List Int)(g:Int)(h:l.length<=34359738300):vG q l g=some (jB q l g):=by unfold vG jB;simp only[aA h,bd_s,Mi];cases(iJ q !=0)<;>rfl
def Ym:= @vM
def bDh (b:AN)(h:b.Open.length<=34359738368){τ:Type}(rec:Nat->Option τ)(r:Option τ)(i:Nat)(hi:i<b.Open.length):(bd (bif (!bG b.Open[i].Id (0:Int) (IntKind.i64.wrap (b.Next-(1:Int)))) then(some (true)) else(bif (decide ((↑i:Int)>(0:Int))) then(bd (aT (b.Open) (IntKind.i64.wrap ((↑i:Int)-(1:Int)))) λa=>bif (decide (a.Id>=b.Open[i].Id)) then(some (true)) else(bif (!bG b.Open[i].aAH (0:Int) (1000005:Int)) then(some (true)) else(some (!bG b.Open[i].Until (0:Int) (1000005:Int))))) else(bif (!bG b.Open[i].aAH (0:Int) (1000005:Int)) then(some (true)) else(some (!bG b.Open[i].Until (0:Int) (1000005:Int)))))) λc=>bif c then r else(rec (i+1)))=bif iT b i b.Open[i] then r else rec (i+1):=by
 grind[decide,decide_eq_false,bG,N7,bd_s,decide_eq_true,default,iT]
def aG8 (b:AN)(h:b.sz<=34359738368):Ho b=some (dK b):=by
 simp only[AN.sz] at h;unfold Ho dK;rw[gL (l:=b.Open) (iT b) (.inl false) (.inr ()) (by omega) (λrec i hi=>by
  simp only[dD hi,ae,aL hi,bd_s];exact bDh b h rec _ i hi) (by simp)]
 rw[show decide ((b.Open.length:Int)<=16)=decide (b.Open.length<=16) from da.2 (by omega)];cases bG b.Next 0 1000000<;>cases decide (b.Open.length<=16)<;>cases eF (iT b) 0 b.Open<;>rfl
def aG9 (b:AN)(h:b.sz<=34359738368):Ik b=some (dK b):=by
 simp only[AN.sz] at h;unfold Ik dK;rw[gL (l:=b.Open) (iT b) (.inl false) (.inr ()) (by omega) (λrec i hi=>by
  simp only[dD hi,ae,aL hi,bd_s];exact bDh b h rec _ i hi) (by simp)]
 rw[show decide ((b.Open.length:Int)>16)= !decide (b.Open.length<=16) by rw[<-decide_not];exact da.2 (by omega)];cases bG b.Next 0 1000000<;>cases decide (b.Open.length<=16)<;>cases eF (iT b) 0 b.Open<;>rfl
def bDi (m:AV)(h:m.Notices.length<=34359738368){τ:Type}(rec:Nat->Option τ)(r:Option τ)(i:Nat)(hi:i<m.Notices.length):(bd (bif (!bG m.Notices[i].Kind (1:Int) (5:Int)) then(some (true)) else(bif (!bG m.Notices[i].aAH (0:Int) (1000000:Int)) then(some (true)) else(bif (!bG m.Notices[i].Time (0:Int) (1000000:Int)) then(some (true)) else(bif (decide ((↑i:Int)>(0:Int))) then(bd (aT (m.Notices) (IntKind.i64.wrap ((↑i:Int)-(1:Int)))) λa=>some (decide (a.Time>m.Notices[i].Time))) else(some (false)))))) λb=>bif b then r else(rec (i+1)))=bif yE m.Notices i m.Notices[i] then r else rec (i+1):=by
 grind[decide,decide_eq_false,bG,N7,bd_s,decide_eq_true,default,yE]
def F8 (m:AV)(h:m.sz<=34359738368):wQ m=some (fB m):=by
 simp only[AV.sz] at h;unfold wQ fB;rw[gL (l:=m.Notices) (yE m.Notices) (.inl false) (.inr ()) (by omega) (λrec i hi=>by
  simp only[dD hi,ae,aL hi,bd_s];exact bDi m h rec _ i hi) (λrec=>by simp only[rU,aa])]
 rw[show decide ((m.Notices.length:Int)<=30)=decide (m.Notices.length<=30) from da.2 (by omega)];cases decide (m.Notices.length<=30)<;>cases eF (yE m.Notices) 0 m.Notices<;>rfl
def F9 (m:AV)(h:m.sz<=34359738368):wX m=some (fB m):=by
 simp only[AV.sz] at h;unfold wX fB;rw[gL (l:=m.Notices) (yE m.Notices) (.inl false) (.inr ()) (by omega) (λrec i hi=>by
  simp only[dD hi,ae,aL hi,bd_s];exact bDi m h rec _ i hi) (by simp)]
 rw[show decide ((m.Notices.length:Int)>30)= !decide (m.Notices.length<=30) by rw[<-decide_not];exact da.2 (by omega)];cases decide (m.Notices.length<=30)<;>cases eF (yE m.Notices) 0 m.Notices<;>rfl
def o8 (i:Int):Zh i=some (aB i):=by unfold Zh aB;cases i==0<;>cases i==1<;>rfl
def aS9:= @o8
def Vd (e:AG):aO7 e=some (dG e):=by rfl
def aPq:= @Vd
def Y2 (l:List AG)(h:l.length<=34359738368):Q4 l=some (jN l):=by
 unfold Q4 jN;cases hl:((l.length:Int)==0) with
 |true=>rfl
 |false=>
  have:l.length≠0:=by simp_all
  rw[aJ (by omega) (by omega),show(l.length:Int)-1=((l.length-1:Nat):Int) by omega,aL (by omega)];simp[List.getD,ab (show l.length-1<l.length by omega)]
def aXr:= @Y2
def aK1 (l:List AG)(p:Int)(h:l.length<=34359738368):Np l p=some (jZ l p):=by unfold Np;rw[mJ (l:=l) (λe=>e.Kind==2&&e.Device==p) (.inl true) (.inr ()) (by omega) (by grind[dD,aL,bd_s]) (by simp)];unfold jZ;cases l.any _<;>rfl
def aXs (l:List AZ)(p:Int)(i:Nat)(hi:i<=l.length)(h:l.length<=34359738368){F:(Nat->Option ((Bool⊕PUnit)⊕PUnit))->Nat->Option ((Bool⊕PUnit)⊕PUnit)}(a:∀rec j (hj:j<i),F rec j=bif (l[j]'(by omega)).Public==p then some (.inl (.inl false)) else rec (j+1))(b:∀rec,F rec i=some (.inr ())):
  bI FUEL F 0=some (bif (l.take i).any (λq=>q.Public==p) then .inl (.inl false) else .inr ()):=by
 have ht:(l.take i).length=i:=by simp[*]
 exact mJ (l:=l.take i) (λq=>q.Public==p) _ _ (by omega) (by simp_all) (by simp[*])
def bI9 (a:AI)(h:a.Credentials.length<=34359738368)(i:Nat)(hi:i<a.Credentials.length){τ:Type}{X:Option τ}{r:Option τ}{K:Option τ}(hX:X=bif (a.Credentials.take i).any (λq=>q.Public==a.Credentials[i].Public) then r else K):
  (bd (bif (!bG a.Credentials[i].Handle (0:Int) (1000000:Int)) then(some (true)) else(bif (decide ((↑i:Int)>(0:Int))) then(bd (aT (a.Credentials) (IntKind.i64.wrap ((↑i:Int)-(1:Int)))) λb=>bif (decide (b.Handle>=a.Credentials[i].Handle)) then(some (true)) else(bd (some (iJ a.Credentials[i].Public)) λc=>bif (c==(0:Int)) then(some (true)) else(some (!bG a.Credentials[i].Counter (0:Int) (1000000:Int))))) else(bd (some (iJ a.Credentials[i].Public)) λb=>bif (b==(0:Int)) then(some (true)) else(some (!bG a.Credentials[i].Counter (0:Int) (1000000:Int)))))) λd=>bif d then r else X)=bif zA a i a.Credentials[i] then r else K:=by
 grind[decide,decide_eq_false,bd_s,bG,iJ,N7,decide_eq_true,default,zA]
def G5 (a:AI)(h:a.sz<=34359738368):wN a=some (bC a):=by
 simp only[AI.sz] at h;unfold wN bC;rw[gL (l:=a.Credentials) (zA a) (.inl false) (.inr ()) (by omega) (λrec i hi=>by
  simp only[dD hi,ae,aL hi,bd_s];rw[aXs a.Credentials a.Credentials[i].Public i (by omega) h (by grind[dD,aL,bd_s]) (by simp)];have:=bI9 a h i hi (X:=nx (some (bif (a.Credentials.take i).any (λq=>q.Public==a.Credentials[i].Public) then Sum.inl (Sum.inl false) else Sum.inr PUnit.unit)) λ_=>rec (i+1)) (r:=some (.inl false)) (K:=rec (i+1)) (by cases(a.Credentials.take i).any _<;>rfl);rw[<-this];simp only[bd_s];generalize(bif !bG a.Credentials[i].Handle 0 1000000 then _ else _:Option Bool)=q;cases q with
  |none=>rfl
  |some b=>cases b<;>rfl) (by simp)]
 rw[show decide ((a.Credentials.length:Int)<=8)=decide (a.Credentials.length<=8) from da.2 (by omega)];cases bG a.Id 0 1000000<;>cases bG a.Minimum 1 3<;>cases decide (a.Credentials.length<=8)<;>cases eF (zA a) 0 a.Credentials<;>rfl
def G6 (a:AI)(h:a.sz<=34359738368):wW a=some (bC a):=by
 simp only[AI.sz] at h;unfold wW bC;rw[gL (l:=a.Credentials) (zA a) (.inl false) (.inr ()) (by omega) (λrec i hi=>by
  have ht:(a.Credentials.take i).length=i:=by grind
  simp only[dD hi,ae,aL hi,bd_s,aUq];rw[aA (by grind[gH])];rw[aXs a.Credentials a.Credentials[i].Public i (by omega) h (by grind[dD,aL,bd_s]) (by simp[*])];have:=bI9 a h i hi (X:=nx (some (bif (a.Credentials.take i).any (λq=>q.Public==a.Credentials[i].Public) then Sum.inl (Sum.inl false) else Sum.inr PUnit.unit)) λ_=>rec (i+1)) (r:=some (.inl false)) (K:=rec (i+1)) (by cases(a.Credentials.take i).any _<;>rfl);rw[<-this];simp only[bd_s];generalize(bif !bG a.Credentials[i].Handle 0 1000000 then _ else _:Option Bool)=q;cases q with
  |none=>rfl
  |some b=>cases b<;>rfl) (by simp)]
 rw[show decide ((a.Credentials.length:Int)>8)= !decide (a.Credentials.length<=8) by rw[<-decide_not];exact da.2 (by omega)];cases bG a.Id 0 1000000<;>cases bG a.Minimum 1 3<;>cases decide (a.Credentials.length<=8)<;>cases eF (zA a) 0 a.Credentials<;>rfl
def yJ (s:ByteArray)(hs:s.size<=34359738368):∀(n f i st:Nat) (acc:List ByteArray),s.size-i=n->n+1<f->st<=i->i<=s.size->acc.length<=i->bI f (λc (b:(List ByteArray×Int×Int))=>bif (decide (b.2.2<=(↑s.size:Int))) then(bd (bd (bif (b.2.2==(↑s.size:Int)) then(some (true)) else(bd (aT (bU s) (b.2.2)) λk=>some (k==(46:Int)))) λm=>bif m then(gd (rZ s b.2.1 b.2.2) (gd (aS b.1 [s.extract b.2.1.toNat b.2.2.toNat]) (some ((b.1++[s.extract b.2.1.toNat b.2.2.toNat],IntKind.i64.wrap (b.2.2+(1:Int))))))) else(some (b.1,b.2.1))) λ(h:List ByteArray×Int)=>c ((h.1,h.2,IntKind.i64.wrap (b.2.2+(1:Int))))) else(some (b.1))) (acc,(st:Int),(i:Int))=some (acc++(kC ((s.data.toList.drop st).take (i-st)) (s.data.toList.drop i)).map λl=>(⟨l.toArray⟩:ByteArray))
 |n,f+1,i,st,acc,hn,t,h1,h2,u=>by
  rw[iD];have e0:decide ((i:Int)<=(s.size:Int))=true:=by simpa using(show(i:Int)<=(s.size:Int) by omega)
  have es:rZ s (st:Int) (i:Int):=⟨by omega,by omega,by omega⟩;have j:aS acc ([s.extract (st:Int).toNat (i:Int).toNat]:List ByteArray):=by unfold aS;simp;omega
  have d:IntKind.i64.wrap ((i:Int)+1)=((i+1:Nat):Int):=by rw[aJ (by omega) (by omega)];omega
  simp only[e0,ae];rcases e8 i s.size with a|o
  ·have e:((i:Int)==(s.size:Int))=false:=by simp;omega
   have hd:s.data.toList.drop i=s.data.toList[i]'a::s.data.toList.drop (i+1):=(cE a);have hb:(bU s)[i]'(by rw[kD];exact a)=((s.data.toList[i]'a).toNat:Int):=by simp[bU]
   have hq:(((s.data.toList[i]'a).toNat:Int)==46)=(s.data.toList[i]'a==46):=by
    rw[fv];simp only[cT];constructor
    ·intro q;apply UInt8.toNat_inj.1;show _=46;omega
    ·intro q;rw[q];rfl
   rw[e,aa,bHt a,bd_s,bd_s,hb,hq,hd,kC];cases hc:(s.data.toList[i]'a==46) with
   |true=>rw[ae,aA es,aA j,bd_s];dsimp only;rw[d,ae,yJ s hs (n-1) f (i+1) (i+1) _ (by omega) (by omega) (ak _) (by omega) (by simp;omega),bw,bw,ext_list];simp
   |false=>
    rw[aa,bd_s];dsimp only;rw[d,aa,yJ s hs (n-1) f (i+1) st _ (by omega) (by omega) (by omega) (by omega) (by omega)];have:(s.data.toList.drop st).take (i+1-st)=(s.data.toList.drop st).take (i-st)++[s.data.toList[i]'a]:=by rw[show i+1-st=(i-st)+1 by omega,db,fx,show st+(i-st)=i by omega,ab a];rfl
    rw[this]
  ·have e:((i:Int)==(s.size:Int))=true:=by simp;omega
   obtain⟨f,rfl⟩:∃g,f=g+1:=⟨f-1,by omega⟩;have p:s.data.toList.length<=i:=by have:s.data.toList.length=s.size:=rfl;omega
   have r:decide (((i+1:Nat):Int)<=(s.size:Int))=false:=by simp;omega
   rw[e,ae,bd_s,ae,aA es,aA j,bd_s,iD];dsimp only;rw[d];simp only[r,aa];rw[fX p,kC,bw,bw,ext_list];rfl
def aTa (s:ByteArray)(h:s.size<=34359738368):Zi s=some (bM s):=by
 unfold Zi;have a:=fM;have:=yJ s h s.size FUEL 0 0 [] rfl (by omega) (ak _) (ct _) (ak _)
 grind[bM,bd,trans]
def aXt (s:ByteArray)(h:s.size<=34359738368):R3 s=some (zN s):=by
 unfold R3 zN;have hb:=kD s;rw[mJ (l:=bU s) (λb=> !aJ2 b) (.inl false) (.inr ()) (by omega) (by grind[dD,bHt,bd_s,bU,aJ2,bG,decide]) (by simp[*])];have e:bG (s.size:Int) 1 20=(decide (1<=s.size)&&decide (s.size<=20)):=by unfold bG;congr 1<;>exact da.2 (by omega)
 rw[e];by_cases h0:0<s.size
 ·rw[show(0:Int)=((0:Nat):Int) from rfl,bHt h0,aJ (by omega) (by omega),show(s.size:Int)-1=((s.size-1:Nat):Int) by omega,bHt (by omega)];simp only[bd_s,bne,List.getD,ab (show 0<(bU s).length by rw[kD];exact h0),ab (show s.size-1<(bU s).length by rw[kD];omega),cJ];cases((bU s)[0]'_==45)<;>cases((bU s)[s.size-1]'_==45)<;>cases decide (1<=s.size)<;>cases decide (s.size<=20)<;>cases(bU s).any _<;>rfl
 simp_all
def aZ4 (s:ByteArray)(h:s.size<=34359738368):aE9 s=some (fV s):=by
 unfold aE9 fV;have hl:=N9 s;simp only[aA h,bd_s];rw[mJ (l:=bM s) (λl=> !zN l) (.inl false) (.inr ()) (by omega) (λrec i hi=>by
  have a:(bM s)[i].size<=34359738368:=bm (Fu s _ (cp _)) h
  grind[dD,aL,bd_s,aA]) (by simp)]
 have e':decide ((s.size:Int)<=60)=decide (s.size<=60):=da.2 (by omega);rw[e'];cases decide (s.size<=60)<;>cases(bM s).any _<;>rfl
def aZ5 (s:ByteArray):aFf s=some (fV s):=by
 unfold aFf fV;by_cases a:s.size<=60
 ·have hl:=N9 s;rw[show decide ((s.size:Int)>60)=false from ay (by omega),aa,aA (show s.size<4294967281/\1<=(⟨#[UInt8.ofNat 46]⟩:ByteArray).size from⟨by omega,ak _⟩),bd_s];have es:mR s ⟨#[UInt8.ofNat 46]⟩=bM s:=aV6 s;rw[es];rw[mJ (l:=bM s) (λl=> !zN l) (.inl false) (.inr ()) (by omega) (λrec i hi=>by
   have c:(bM s)[i].size<=60:=bm (Fu s _ (cp _)) a;simp only[dD hi,ae,aL hi,bd_s]
   revert c
   generalize(bM s)[i]=l;intro c;have hb:=kD l;rw[mJ (l:=bU l) (λb=> !aJ2 b) (.inl (.inl false)) (.inr ()) (by omega) (by grind[dD,bHt,bd_s,bU,aJ2,bG,decide]) (by simp[*])];unfold zN;by_cases h0:0<l.size
   ·rw[show(0:Int)=((0:Nat):Int) from rfl,bHt h0,aJ (by omega) (by omega),show(l.size:Int)-1=((l.size-1:Nat):Int) by omega,bHt (by omega)];have d:decide ((l.size:Int)<1)= !decide (1<=l.size):=by grind
    have e:decide ((l.size:Int)>20)= !decide (l.size<=20):=by grind
    rw[d,e];simp only[bd_s,bne,List.getD,ab (show 0<(bU l).length by rw[kD];exact h0),ab (show l.size-1<(bU l).length by rw[kD];omega),cJ];cases((bU l)[0]'_==45)<;>cases((bU l)[l.size-1]'_==45)<;>cases decide (1<=l.size)<;>cases decide (l.size<=20)<;>cases(bU l).any _<;>rfl
   simp_all) (by simp)]
  rw[show decide (s.size<=60)=true by simpa using a];cases(bM s).any _<;>rfl
 grind
def aHa (s:ByteArray):Ii s=some (bP9 s):=by
 unfold Ii bP9;cases h:fV s with
 |false=>rfl
 |true=>
  have hs:=O0 h;have hp:=aRv s;have es:mR s ⟨#[UInt8.ofNat 46]⟩=bM s:=aV6 s;rw[aj,aa,ae,aA (show s.size<4294967281/\1<=(⟨#[UInt8.ofNat 46]⟩:ByteArray).size from⟨by omega,ak _⟩),bd_s,es];rw[show(((bM s).length:Int)==1)=((bM s).length==1) by rw[fv];simp only[cT];omega];cases h1:(bM s).length==1 with
  |true=>rfl
  |false=>
   have h2:(bM s).length≠1:=by simp_all
   have hl:=N9 s;obtain⟨a,c,b,hb,e⟩:=bYc (l:=bM s) (by omega);have c:=Fu s a c;have hb:=Fu s b hb;rw[aa,aa,aJ (by omega) (by omega),show((bM s).length:Int)-2=(((bM s).length-2:Nat):Int) by omega,bw];have hd:((bM s).drop ((bM s).length-2)).length=2:=by grind
   have hj:(tX ⟨#[UInt8.ofNat 46]⟩ ((bM s).drop ((bM s).length-2))).size<=140737488355328:=by have e:tX ⟨#[UInt8.ofNat 46]⟩ ((bM s).drop ((bM s).length-2))=_:=e;rw[e,ByteArray.size_append,ByteArray.size_append];have:(⟨#[46]⟩:ByteArray).size=1:=rfl;omega
   simp_all[aA,gH,bM]
def aZ6 (s:ByteArray)(h:s.size<=9223372036854775807):aFg s=some (aCk s):=by unfold aFg aCk;have hb:=kD s;rw[mJ (l:=bU s) (λb=>b==46) (.inl true) (.inr ()) (by omega) (by grind[dD,bHt,bd_s]) (by simp[*])];cases(bU s).any _<;>rfl
def aHb (n:ByteArray)(seed:Int)(h:n.size<=9223372036854775807):Ij n seed=some (lJ n seed):=by
 grind[fV,bW0,decide,bM,bZ,cCt,aZp,aA,bd_s,Ij,lJ]
def aXu (n:ByteArray)(seed:Int)(h:n.size<=34359738368):R4 n seed=some (gM n seed):=by
 unfold R4 gM lJ;have e:decide (((bM n).length:Int)<2)= !decide (2<=(bM n).length):=by grind
 simp only[aA h,bd_s,e];cases fV n<;>cases decide (2<=(bM n).length)<;>cases bZ seed<;>rfl
def aHc (s:AB)(h:s.sz<=34359738368):Hq s=some (cZ s):=by
 simp only[AB.sz] at h;unfold Hq cZ;rw[gL (l:=s.Accounts) (Yc s.Accounts) (.inl false) (.inr ()) (by omega) (by grind[kM,AI.sz,dD,aL,bd_s,aA,Yc,N7,decide,decide_eq_true,bC,default,decide_eq_false]) (by simp)];rw[show decide ((s.Accounts.length:Int)<=8)=decide (s.Accounts.length<=8) from da.2 (by omega)];have a:(!((gM s.Name s.Book.Seed).Name.toList==(⟨#[]⟩:ByteArray).toList))=lJ s.Name s.Book.Seed:=by rw[cCt,bKu,Bool.not_not]
 simp only[aA (show s.Name.size<=34359738368 by omega),aA (show s.Book.sz<=34359738368 by simp only[AN.sz];omega),bd_s,a];cases lJ s.Name s.Book.Seed<;>cases decide (s.Accounts.length<=8)<;>cases dK s.Book<;>cases eF (Yc s.Accounts) 0 s.Accounts<;>rfl
def aHd (s:AB)(h:s.sz<=34359738368):Im s=some (cZ s):=by simp only[AB.sz] at h;unfold Im cZ;rw[gL (l:=s.Accounts) (Yc s.Accounts) (.inl false) (.inr ()) (by omega) (by grind[kM,AI.sz,dD,aL,bd_s,aA,Yc,N7,decide,decide_eq_true,bC,default,decide_eq_false]) (by simp)];rw[show decide ((s.Accounts.length:Int)>8)= !decide (s.Accounts.length<=8) by rw[<-decide_not];exact da.2 (by omega)];simp only[aA (show s.Name.size<=9223372036854775807 by omega),aA (show s.Book.sz<=34359738368 by simp only[AN.sz];omega),bd_s];cases lJ s.Name s.Book.Seed<;>cases decide (s.Accounts.length<=8)<;>cases dK s.Book<;>cases eF (Yc s.Accounts) 0 s.Accounts<;>rfl
def aXv (l:List AG)(e:AG)(h:l.length<=34359738368):Q6 l e=some (pQ l e):=by unfold Q6 pQ;have hd:=gG l;rw[mJ (l:=l) (λq=>q.Kind==2&&q.Device==e.Device) (.inl false) (.inr ()) (by omega) (by grind[dD,aL,bd_s]) (by simp)];rw[show(l.any λq=>q.Kind==2&&q.Device==e.Device)=jZ l e.Device from rfl];simp only[aA h,aA (show(aG l).length<=1099511627776 by omega),aA (show([dG e]:List Int).length<=34359738300 by simp),bd_s,bne];cases(e.Index==(l.length:Int))<;>cases(e.Previous==jN l)<;>cases jM (aG l) e.By<;>cases((l.length:Int)==0)<;>cases(e.By==e.Device)<;>cases jB e.By [dG e] e.Signature<;>cases(e.Kind==2)<;>cases jM (aG l) e.Device<;>cases jZ l e.Device<;>cases(e.Kind==1)<;>rfl
def aPr (l:List AG)(h:l.length<=34359738368):Tu l=some (bD l):=by unfold Tu bD;rw[gL (l:=l) (λi e=> !pQ (l.take i) e) (.inl false) (.inr ()) (by omega) (by grind[dD,aL,bd_s,aUq,aA,gH,List.length_take]) (by simp)];cases eF (λi e=> !pQ (l.take i) e) 0 l<;>simp
def aPs (l:List AG)(h:l.length<=34359738368):Ug l=some (bD l):=by
 unfold Ug bD;rw[gL (l:=l) (λi e=> !pQ (l.take i) e) (.inl false) (.inr ()) (by omega) (λrec i hi=>by
  have ht:(l.take i).length=i:=by grind
  have hb:(l.take i).length<=34359738368:=by omega
  have hd:=gG (l.take i);simp only[dD hi,ae,aL hi,bd_s,aUq,aA (show gH l (i:Int) by unfold gH;omega),aA hb,aA (show(aG (l.take i)).length<=1099511627776 by omega),aA (show([dG l[i]]:List Int).length<=34359738300 by simp)];unfold pQ;rw[ht];generalize l[i]=e;have h1:decide (((aG (l.take i)).length:Int)>=6)= !decide (((aG (l.take i)).length:Int)<6):=by grind
  have h2:jM (aG (l.take i)) e.Device=true->decide (((aG (l.take i)).length:Int)>1)= !(((aG (l.take i)).length:Int)==1):=(by grind[bTk,Bool.decide_eq_true,aG,decide_not]);simp only[h1,bne];cases d:(e.Kind==2) with
  |true=>
   have a:(e.Kind==1)=false:=by simp_all
   rw[a];cases hd:jM (aG (l.take i)) e.Device with
   |true=>rw[h2 hd];cases(e.Index==(i:Int))<;>cases(e.Previous==jN (l.take i))<;>cases jM (aG (l.take i)) e.By<;>cases((i:Int)==0)<;>cases(e.By==e.Device)<;>cases jB e.By [dG e] e.Signature<;>cases(((aG (l.take i)).length:Int)==1)<;>rfl
   |false=>cases(e.Index==(i:Int))<;>cases(e.Previous==jN (l.take i))<;>cases jM (aG (l.take i)) e.By<;>cases((i:Int)==0)<;>cases(e.By==e.Device)<;>cases jB e.By [dG e] e.Signature<;>rfl
  |false=>
   cases(e.Kind==1) with
   |true=>cases(e.Index==(i:Int))<;>cases(e.Previous==jN (l.take i))<;>cases jM (aG (l.take i)) e.By<;>cases((i:Int)==0)<;>cases(e.By==e.Device)<;>cases jB e.By [dG e] e.Signature<;>cases jM (aG (l.take i)) e.Device<;>cases jZ (l.take i) e.Device<;>cases decide (((aG (l.take i)).length:Int)<6)<;>rfl
   |false=>cases(e.Index==(i:Int))<;>cases(e.Previous==jN (l.take i))<;>cases jM (aG (l.take i)) e.By<;>cases((i:Int)==0)<;>cases(e.By==e.Device)<;>cases jB e.By [dG e] e.Signature<;>cases jZ (l.take i) e.Device<;>rfl) (by simp)]
 unfold bG;have b:decide ((l.length:Int)<1)= !decide (1<=(l.length:Int)):=by grind
 have c:decide ((l.length:Int)>40)= !decide ((l.length:Int)<=40):=by grind
 rw[b,c];cases decide (1<=(l.length:Int))<;>cases decide ((l.length:Int)<=40)<;>cases eF (λi e=> !pQ (l.take i) e) 0 l<;>rfl
def aDb (w:AA)(h:w.sz<=34359738368):Da w=some (aK w):=by
 simp only[AA.sz] at h;unfold Da aK;rw[gL (l:=w.Sites) oK (.inl false) (.inr ()) (by omega) (λrec i hi=>by
  have a:=kM (f:=AB.sz) hi;simp only[dD hi,ae,aL hi,bd_s,aA (show w.Sites[i].sz<=34359738368 by omega)];unfold oK;cases cZ w.Sites[i]<;>cases(w.Sites[i].Name.toList==(aB (i:Int)).toList)<;>rfl) (λrec=>by simp only[rU,aa])]
 simp only[aA (show w.Mail.sz<=34359738368 by simp only[AV.sz];omega),aA (show w.aAF.Log.length<=34359738368 by omega),bne,bd_s];cases eF oK 0 w.Sites<;>cases bG w.Now 0 999900<;>cases bG (w.Devices.length:Int) 1 6<;>cases((w.Stolen.length:Int)==(w.Devices.length:Int))<;>cases((w.Sites.length:Int)==2)<;>cases fB w.Mail<;>cases bD w.aAF.Log<;>cases bZ w.Seed<;>rfl
def aDc (w:AA)(h:w.sz<=34359738368):Df w=some (aK w):=by simp only[AA.sz] at h;unfold Df aK;rw[gL (l:=w.Sites) oK (.inl false) (.inr ()) (by omega) (by grind[kM,AB.sz,dD,aL,bd_s,aA,oK,cZ,aB]) (by simp)];simp only[aA (show w.Mail.sz<=34359738368 by simp only[AV.sz];omega),aA (show w.aAF.Log.length<=34359738368 by omega),bne,bd_s];cases eF oK 0 w.Sites<;>cases bG w.Now 0 999900<;>cases bG (w.Devices.length:Int) 1 6<;>cases((w.Stolen.length:Int)==(w.Devices.length:Int))<;>cases((w.Sites.length:Int)==2)<;>cases fB w.Mail<;>cases bD w.aAF.Log<;>cases bZ w.Seed<;>rfl
def bN9 (h:AC)(b:Int)(a:h.Saved.length<=34359738368)(h0:0<=b/\b<(h.Saved.length:Int)):aT h.Saved (IntKind.i64.wrap (IntKind.i64.wrap ((h.Saved.length:Int)-1)-b))=some (h.Saved.getD (h.Saved.length-1-b.toNat) default):=by rw[aJ (n:=(h.Saved.length:Int)-1) (by omega) (by omega),aJ (by omega) (by omega),oL (by omega) (by omega)];congr 2;omega
def aDd (h:AC)(b:Int)(a:h.sz<=34359738368):Ea h b=some (fE h b):=by
 have hq:=a;simp only[AC.sz] at hq;unfold Ea fE;rw[aA a,bd_s,aJ3 hq];cases e:(decide (b<0)||decide (b>=(h.Saved.length:Int))) with
 |true=>rfl
 |false=>rw[bN9 h b hq (Gw e)];rfl
def aDe (h:AC)(b:Int)(a:h.sz<=34359738368):Dx h b=some (fE h b):=by
 have hq:=a;simp only[AC.sz] at hq;unfold Dx fE;rw[aA a,bd_s,nK,bd_s];cases e:(decide (b<0)||decide (b>=(h.Saved.length:Int))) with
 |true=>rfl
 |false=>rw[bN9 h b hq (Gw e)];rfl
def bXm {h:AC}{b:Int}(e:(fE h b).2=false):fE h b=(h,false):=by
 unfold fE at e ⊢;cases q:(decide (b<0)||decide (b>=(h.Saved.length:Int))) with
 |true=>rfl
 |false=>rw[q] at e;cases e
def Y3 (w:AA)(i b:Int)(h:w.sz<=34359738368):Ar w i b=some (gI w i b):=by
 have c:=h;simp only[AA.sz] at c;unfold Ar gI;rw[aA h,bd_s,aA h,bd_s,aJ3 (by omega),nK,bd_s];cases e:(!aK w||(decide (i<0)||decide (i>=(w.Hosts.length:Int)))) with
 |true=>rfl
 |false=>
  have a:=Gw (bp.1 e).2;have hi:i.toNat<w.Hosts.length:=by omega
  have hs:=kM (f:=AC.sz) hi;have hg:w.Hosts.getD i.toNat default=w.Hosts[i.toNat]:=by simp[List.getD,ab hi]
  rw[aa,aa,oL a.1 a.2,bd_s,hg,aA (by omega),bd_s,bd_s];cases hr:(fE w.Hosts[i.toNat] b).2 with
  |true=>rfl
  |false=>rw[bXm hr,aa,<-hg,aV9 hi]
def Y4 (w:AA)(i b:Int)(h:w.sz<=34359738368):Ao w i b=some (gI w i b):=by
 have c:=h;simp only[AA.sz] at c;unfold Ao gI;rw[aA h,bd_s,aA h,bd_s,nK,nK,bd_s];cases e:(!aK w||(decide (i<0)||decide (i>=(w.Hosts.length:Int)))) with
 |true=>rfl
 |false=>
  have a:=Gw (bp.1 e).2;have hi:i.toNat<w.Hosts.length:=by omega
  have hs:=kM (f:=AC.sz) hi;have hg:w.Hosts.getD i.toNat default=w.Hosts[i.toNat]:=by simp[List.getD,ab hi]
  rw[aa,aa,oL a.1 a.2,bd_s,hg,aA (by omega),bd_s,bd_s];cases hr:(fE w.Hosts[i.toNat] b).2<;>rfl
def aPt (l:List AX)(h:l.length<=34359738368):Uy l=some (Bu l):=by
 unfold Uy Bu;rw[gL (l:=l) (Lp l) (.inl false) (.inr ()) (by omega) (λrec i hi=>by
  simp only[dD hi,ae,aL hi,bd_s,Mi];rw[bW3 (λq=>q.Index==l[i].Index) (.inl (.inl false)) (.inr ()) i (by omega) h (λrec j hj=>by simp only[dD hj,ae,aL (show j<l.length by omega),bd_s]) (λrec=>by simp only[rU,aa])];unfold Lp;cases bG l[i].Index 1 7<;>cases bG l[i].Value 0 1018<;>cases(l.take i).any _<;>rfl) (λrec=>by simp only[rU,aa])]
 cases bG (l.length:Int) 1 7<;>cases eF (Lp l) 0 l<;>rfl
def aPu (l:List AX):Ut l=some (Bu l):=by
 unfold Ut Bu;cases hr:bG (l.length:Int) 1 7 with
 |false=>rfl
 |true=>
  have hlen:l.length<=7:=by have:=jK hr;omega
  rw[aj,aa,cA];rw[Lm (s:=((0:Nat),false,false,false,false,false,false,false,false)) (λi s=>i<=l.length/\s=(i,cS l i 0,cS l i 1,cS l i 2,cS l i 3,cS l i 4,cS l i 5,cS l i 6,cS l i 7)/\∀(j:Nat) (hj:j<l.length),j<i->Lp l j l[j]=false) l.length (some (bif eF (Lp l) 0 l then .inl false else .inr ())) (by omega) ⟨by omega,by simp[cS],λj _ h=>by omega⟩ (λi s rec hi hv=> ?_) (λs rec hv=> ?_)]
  ·cases eF (Lp l) 0 l<;>rfl
  ·obtain⟨_,rfl,b⟩:=hv;have a:Lp l i l[i]=true->eF (Lp l) 0 l=true:=λh=>(sI l 0).2 ⟨i,hi,by rw[co];exact h⟩;have c:Lp l i l[i]=false->∀(j:Nat) (hj:j<l.length),j<i+1->Lp l j l[j]=false:=λh j hj f=>by
    rcases e8 j i with d|d
    ·exact b j hj d
    ·have:j=i:=by omega
     subst this;exact h
   simp only[dD hi,ae,aL hi,bd_s];cases h1:bG l[i].Index 1 7 with
   |false=>exact .inr (by rw[a (by unfold Lp;rw[h1];rfl)];rfl)
   |true=>
    cases h2:bG l[i].Value 0 1018 with
    |false=>exact .inr (by rw[a (by unfold Lp;rw[h1,h2];rfl)];rfl)
    |true=>
     have hk:=jK h1;have hc:Lp l i l[i]=cS l i l[i].Index:=by unfold Lp cS;rw[h1,h2];rfl
     have go:∀n:Int,l[i].Index=n->(cS l i n=true/\eF (Lp l) 0 l=true)\/(cS l i n=false/\∀(j:Nat) (hj:j<l.length),j<i+1->Lp l j l[j]=false):=λn e=>by
      cases hb:cS l i n with
      |true=>exact .inl ⟨rfl,a (by rw[hc,e];exact hb)⟩
      |false=>exact .inr ⟨rfl,c (by rw[hc,e];exact hb)⟩
     have hs:=λk=>cEr (l:=l) (k:=k) hi;simp only[hs];obtain e|e|e|e|e|e|e:l[i].Index=1\/l[i].Index=2\/l[i].Index=3\/l[i].Index=4\/l[i].Index=5\/l[i].Index=6\/l[i].Index=7:=by omega
     all_goals
      rcases go _ e with⟨hb,g⟩|⟨hb,g⟩
      ·exact .inr (by rw[e,g,hb];rfl)
      ·refine .inl ⟨_,⟨by omega,rfl,g⟩,?_⟩;rw[e,hb];simp
  ·obtain⟨_,rfl,b⟩:=hv;have:eF (Lp l) 0 l=false:=by
    cases h:eF (Lp l) 0 l with
    |false=>rfl
    |true=>obtain⟨i,hi,hp⟩:=(sI l 0).1 h;rw[co,b i hi hi] at hp;cases hp
   simp only[rU,aa,this]
def bFl (a:Int):bFg a=some (cO a 1019):=rfl
def bUw:((1019:Int)≠0)=True:=by simp
def aZ7 (c:Int)(l:List Int)(x:Int)(h:0<=x/\x<=1000/\l.length<=34359738368):aFb c l x=some (Gx c l x):=by
 obtain⟨h1,h2,a⟩:=h;have hr:=aGq ⟨h1,h2⟩ l;have hm:=nP (p:=c) (q:=1019) (by omega);unfold aFb Gx;rw[bHz (l:=l) (aRx x) some (by omega) (λrec s i hi=>by
  simp only[show decide ((i:Int)>=0)=true from au (by omega),ae,aL hi,bd_s,bUw,gd_T,aJ (show-9223372036854775808<=(i:Int)-1 by omega) (by omega)];rfl) (λrec s=>rfl) (aJ (by omega) (by omega))]
 simp only[bd_s,bUw,gd_T];rw[aJ (by omega) (by omega),bv (by omega)]
def aK2 (c:Int)(l:List Int)(x:Int)(h:0<=x/\x<=1000/\l.length<=34359738368):Ol c l x=some (Gx c l x):=by
 obtain⟨h1,h2,a⟩:=h;have hr:=aGq ⟨h1,h2⟩ l;have hm:=nP (p:=c) (q:=1019) (by omega);unfold Ol Gx;rw[bHz (l:=l) (aRx x) some (by omega) (λrec s i hi=>by
  simp only[show decide ((i:Int)>=0)=true from au (by omega),ae,aL hi,bd_s,bUw,gd_T,aJ (show-9223372036854775808<=(i:Int)-1 by omega) (by omega)];rfl) (λrec s=>rfl) (aJ (by omega) (by omega))]
 simp only[bd_s];rw[aJ (by omega) (by omega),cO,cR (by omega)]
def bDj {l:List AX}(h:Bu l=true){i:Nat}(hi:i<l.length):1<=l[i].Index/\l[i].Index<=7:=by
 unfold Bu at h;rw[ac,cj] at h;have hb:Lp l i l[i]=false:=by
  cases hc:Lp l i l[i] with
  |false=>rfl
  |true=>rw[(sI l 0).2 ⟨i,hi,by rw[co];exact hc⟩] at h;exact absurd h.2 (by simp)
 unfold Lp at hb;rw[bp,dm] at hb;exact jK hb.1
def Y5 (l:List AX)(c:List Int)(h:l.length<=34359738368/\c.length<=34359738368):Aq l c=some (kE l c):=by
 unfold Aq kE;rw[aA h.1,bd_s];cases a:Bu l with
 |false=>rfl
 |true=>
  rw[aj,aa,bW4 (l:=l) (bKw c) (by omega) (λrec i s hi hs=>by
   have:=bDj a hi;simp only[dD hi,ae,aL hi,bd_s,aA (show 0<=l[i].Index/\l[i].Index<=1000/\c.length<=34359738368 by omega),bUw,gd_T,eO hs];rfl) (λrec s=>by simp only[rU,aa])]
  rfl
def Y6 (l:List AX)(c:List Int)(h:l.length<=34359738368/\c.length<=34359738368):Al l c=some (kE l c):=by
 unfold Al kE;cases a:Bu l with
 |false=>rfl
 |true=>
  rw[aj,aa,bW4 (l:=l) (bKw c) (by omega) (λrec i s hi hs=>by
   have:=bDj a hi;simp only[dD hi,ae,aL hi,bd_s,aA (show 0<=l[i].Index/\l[i].Index<=1000/\c.length<=34359738368 by omega),bUw,gd_T,eO hs];rfl) (λrec s=>by simp only[rU,aa])]
  rfl
def Ve (l:List AC)(h:l.length<=34359738368):Uw l=some (l.map λh=>h.State.aAP):=by unfold Uw;rw[bW4 (l:=l) (λh:AC=>h.State.aAP) (by omega) (λrec i s hi hs=>by simp only[dD hi,ae,aL hi,bd_s,eO hs]) (λrec s=>by simp only[rU,aa])];rfl
def aTb:= @Ve
def Y7 (k:A3):aXg k=some (pO k):=rfl
def aTc:= @Y7
def Y8 (k:A3):Ap k=some (jW k):=by unfold Ap jW;rw[aA (by simp),bd_s];cases Bu [k.aAP]<;>cases bG k.Epoch 0 1000000<;>cases bG k.Limit 1 10<;>rfl
def Y9 (k:A3):Aj k=some (jW k):=by unfold Aj jW;cases Bu [k.aAP]<;>cases bG k.Epoch 0 1000000<;>cases bG k.Limit 1 10<;>rfl
def aDf (h:AC)(s:AX)(a:h.sz<=34359738368):Dz h s=some (aGr h s):=by unfold Dz aGr kF;simp only[aA a,bd_s,aA (show([s]:List AX).length<=34359738368 by simp)];cases jW h.State<;>cases decide (pO h.State<h.Monotonic)<;>cases(h.State.Epoch==1000000)<;>cases(s.Index !=h.State.aAP.Index)<;>cases Bu [s]<;>rfl
def aDg (h:AC)(s:AX)(a:h.sz<=34359738368):Dw h s=some (aGr h s):=by unfold Dw aGr kF;simp only[aA a,bd_s];cases jW h.State<;>cases decide (pO h.State<h.Monotonic)<;>cases(h.State.Epoch==1000000)<;>cases(s.Index !=h.State.aAP.Index)<;>cases Bu [s]<;>rfl
def bLy (hs:List AC)(a:List AX)(hl:a.length=hs.length)(r:hs.length<=34359738368){F:(List AC×Nat->Option (List AC×Bool⊕List AC))->List AC×Nat->Option (List AC×Bool⊕List AC)}
  (k:∀rec i s (hi:i<hs.length) (hj:i<a.length),s.length<=34359738368->F rec (s,i)=bif kF hs[i] a[i] then some (.inl (hs,false)) else rec (s++[Bv hs[i] a[i]],i+1)) (m:∀rec s,F rec (s,hs.length)=some (.inr s)):
  nx (bI FUEL F ([],0)) (λz=>some (z,true))=some (bif (hs.zip a).any (λp=>kF p.1 p.2) then(hs,false) else(List.zipWith Bv hs a,true)):=by
 have hb:∀i (hi:i<hs.length),kF hs[i] (a[i]'(by omega))=true->(hs.zip a).any (λp=>kF p.1 p.2)=true:=λi hi h=>by
  refine fm.2 ⟨(hs[i],a[i]'(by omega)),?_,h⟩;have:=cp (l:=hs.zip a) (n:=i) (by simp;omega);rwa [List.getElem_zip] at this
 have ht:∀i (hi:i<hs.length),List.zipWith Bv (hs.take (i+1)) (a.take (i+1))=List.zipWith Bv (hs.take i) (a.take i)++[Bv (hs[i]'(by omega)) (a[i]'(by omega))]:=λi hi=>by
  rw[db,db,ab hi,ab (show i<a.length by omega)];simp only[du];rw[List.zipWith_append (by simp;omega)];rfl
 have key:=Lm (F:=F) (s:=([],0)) (λi s=>i<=hs.length/\s=(List.zipWith Bv (hs.take i) (a.take i),i)/\∀j (hj:j<hs.length),j<i->kF hs[j] (a[j]'(by omega))=false) hs.length (some (bif (hs.zip a).any (λp=>kF p.1 p.2) then .inl (hs,false) else .inr (List.zipWith Bv hs a))) (by omega) ⟨by omega,by simp,λj _ h=>by omega⟩ (λi s rec hi hv=> ?_) (λs rec hv=> ?_)
 ·rw[key];cases(hs.zip a).any _<;>rfl
 ·obtain⟨_,rfl,d⟩:=hv;rw[k rec i _ hi (by omega) (by simp;omega)];cases hc:kF hs[i] (a[i]'(by omega)) with
  |true=>exact .inr (by rw[hb i hi hc];rfl)
  |false=>
   refine .inl ⟨_,⟨hi,by rw[ht i hi],λj hj o=> ?_⟩,rfl⟩;rcases e8 j i with f|f
   ·exact d j hj f
   ·have:j=i:=by omega
    subst this;exact hc
 ·obtain⟨_,rfl,d⟩:=hv;have hn:(hs.zip a).any (λp=>kF p.1 p.2)=false:=by
   cases h:(hs.zip a).any (λp=>kF p.1 p.2) with
   |false=>rfl
   |true=>
    obtain⟨x,q,b⟩:=fm.1 h;obtain⟨i,hi,e⟩:=ib q;rw[List.getElem_zip] at e;have c:i<hs.length:=by simp at hi;omega
    rw[<-e] at b;simp only at b;rw[d i c c] at b;cases b
  rw[m,hn,cG,<-hl,cG];rfl
def Pj (hs:List AC)(c:List Int)(h:uY AC.sz hs<=34359738368/\c.length<=34359738368):Om hs c=some (fG hs c):=by
 obtain⟨h1,h2⟩:=h;have h0:hs.length<=34359738368:=by unfold uY at h1;omega
 have hr:=bH0 (hs.map λh=>h.State.aAP) c;unfold Om fG bKx;rw[aA h0,bd_s,aA ⟨by simpa using h0,h2⟩,bd_s,aA h1];cases he:((kE (hs.map λh=>h.State.aAP) c).length:Int)==0 with
 |true=>rfl
 |false=>
  have hl:=bH1 (l:=hs.map λh=>h.State.aAP) (c:=c) (by simpa using he);rw[bf] at hl;rw[aa,cC,bLy hs _ hl h0 (λrec i s hi hj a=>by
   have b:=kM (f:=AC.sz) hi;unfold uY at h1;simp only[dD hi,ae,aL hi,aL hj,bd_s,aA (show hs[i].sz<=34359738368 by omega),eO a];unfold aGr;cases kF hs[i] (kE (hs.map λh=>h.State.aAP) c)[i]<;>rfl) (λrec s=>by simp only[rU,aa])]
def aK3:= @Pj
def aPv (w:AA){F:(List Int×Int->Option (List Int))->List Int×Int->Option (List Int)}
  (a:∀rec (s:List Int) (k:Int),s.length<=100->0<=k->k<=100->F rec (s,k)=bif decide (k<w.aAO.Threshold)&&decide (k<=7) then rec (s++[aV w.Seed [317,w.Now,k]],k+1) else some s):
  ∀(n f:Nat) (k:Int) (s:List Int),n<f->k=9-(n:Int)->n<=8->s.length<=100-n->bI f F (s,k)=some (s++aJ4 w n k)
 |0,f+1,k,s,b,hk,_,hs=>by
  rw[iD,a _ _ _ (by omega) (by omega) (by omega),show decide (k<=7)=false from ay (by omega),ee,aa];unfold aJ4;simp
 |n+1,f+1,k,s,b,hk,hn,hs=>by
  rw[iD,a _ _ _ (by omega) (by omega) (by omega)];unfold aJ4;cases(decide (k<w.aAO.Threshold)&&decide (k<=7)) with
  |true=>rw[ae,ae,aPv w a n f _ _ (by omega) (by omega) (by omega) (by simp;omega)];simp
  |false=>simp
def aK4 (w:AA)(h:w.sz<=34359738368):Oy w=some (fH w):=by
 have a:=h;simp only[AA.sz] at a;have hc:=aOr w 8 1;unfold Oy fH;rw[aA h,bd_s,aPv w (λrec s k h1 h2 b=>by
  rw[aA (by simp),bd_s,eO (s:=s) (by omega),aJ (by omega) (by omega),aWa,bd_s]) 8 FUEL 1 [] (by have:=fM;omega) rfl (by omega) (by simp),bd_s,bo,aA ⟨by unfold uY;omega,by omega⟩,bd_s,aA h,bd_s]
 unfold aWb;cases aK w<;>cases(fG w.Hosts (aJ4 w 8 1)).2<;>rfl
def aK5 (w:AA)(h:w.sz<=34359738368):Oo w=some (fH w):=by
 have a:=h;simp only[AA.sz] at a;have hc:=aOr w 8 1;unfold Oo fH;rw[aA h,bd_s,aA h,bd_s,aPv w (λrec s k h1 h2 b=>by
  rw[aA (by simp),bd_s,eO (s:=s) (by omega),aJ (by omega) (by omega),aWa,bd_s]) 8 FUEL 1 [] (by have:=fM;omega) rfl (by omega) (by simp),bd_s,bo,aA ⟨by unfold uY;omega,by omega⟩,bd_s]
 unfold aWb;cases aK w<;>cases(fG w.Hosts (aJ4 w 8 1)).2<;>rfl
def Jl (b:List Int)(h:b.length<=34359738360):Hm b=some (E9 b):=by unfold Hm E9;rw[cCv (l:=b) IntKind.i64.wrap (by simp;omega) (by grind[dD,aL,bd_s,eO]) (by simp)];rfl
def aHe:= @Jl
def Vf (k:Int)(s:ByteArray)(h:s.size<=34359738300):uA k s=some (sH k s):=by have hb:=kD s;unfold uA sH;rw[aUr,aA (by omega),bd_s,aA (by rw[bNk];omega),bd_s,bHo (nS _ _).1]
def Vg (k:Int)(s:ByteArray)(h:s.size<=34359738300):uE k s=some (sH k s):=by have hb:=kD s;unfold uE sH;rw[aUr,aA (by omega),bd_s,aA (by rw[bNk];omega),bd_s]
def o9 (s:ByteArray)(h:s.size<=34359738300):Zj s=some (dL s):=by unfold Zj;rw[aA h];rfl
def aTd:= @o9
def aPw (b:AF)(s h:Int)(a:b.sz<=34359738368):Uq b s h=some (aP b s h):=by simp only[AF.sz] at a;unfold Uq aP;rw[M9 (l:=b.Entries) (λe=>e.Site==s&&e.Handle==h) (by omega) (by grind[dD,aL,bd_s]) (by simp)]
theorem aUv {b:AF}{s h:Int}(d:decide (aP b s h>=0)=true):aT b.Entries (aP b s h)=some (b.Entries.getD (aP b s h).toNat default)/\(aP b s h).toNat<b.Entries.length/\(b.Entries.getD (aP b s h).toNat default).Site=s/\(b.Entries.getD (aP b s h).toNat default).Handle=h:=by
 have h0:=of_decide_eq_true d;obtain⟨l1,e,l2,f,c,a⟩:=aOq (p:=λe:AH=>e.Site==s&&e.Handle==h) (l:=b.Entries) (i:=0) h0;have a:aP b s h=((0+l1.length:Nat):Int):=a;rw[co] at a;have hl:l1.length<b.Entries.length:=by simp[*]
 have hg:b.Entries.getD l1.length default=e:=by simp[*]
 rw[a,bw,hg];simp only[ac,cT] at c;refine⟨?_,hl,c.1,c.2⟩;rw[aL hl];have:b.Entries[l1.length]=e:=by simp[*]
 rw[this]
theorem bFm (b:AF)(x:AH):(uX b x).Entries.length<=b.Entries.length+1:=by
 grind[decide,aP,List.length,List.takeWhile_append_dropWhile,nJ,List.length_append,List.length_singleton,uX]
def aTe (b:AF)(s h:Int)(a:b.sz<=34359738360):Zl b s h=some (aWc b s h):=by
 have hq:=a;simp only[AF.sz] at hq;have hs:=bFm b (wK b s h);unfold Zl aWc;have c:(uX b (wK b s h)).sz<=34359738368:=by grind[AF.sz]
 rw[aA (by omega),aA (by omega)];simp only[aA (show b.sz<=34359738360 from a),aA (show b.sz<=34359738368 by omega),bd_s];cases d:decide (aP b s h>=0) with
 |true=>
  obtain⟨h1,h2,_,_⟩:=aUv d;have hv:wK b s h=⟨s,h,IntKind.i64.wrap ((b.Entries.getD (aP b s h).toNat default).Version+1),false⟩:=by grind[wK,bTo]
  rw[ae,h1,bd_s];cases hd:(b.Entries.getD (aP b s h).toNat default).Deleted with
  |false=>rfl
  |true=>rw[bd_s,aj,aa,nx_r,<-hv,aA c];cases aO b<;>cases aO (uX b (wK b s h))<;>rfl
 |false=>
  have hv:wK b s h=⟨s,h,1,false⟩:=by grind[wK,bTo]
  rw[aa,nx_r,<-hv,aA c];cases aO b<;>cases aO (uX b (wK b s h))<;>rfl
theorem bLz {α:Type}{p:α->Bool}{l:List α}:(l.takeWhile p).length<=l.length:=by
 grind[List.length_append,List.length,List.takeWhile_append_dropWhile]
def cC5 {α:Type}{p:α->Bool}{l:List α}:l.takeWhile p=l.take (l.takeWhile p).length/\l.dropWhile p=l.drop (l.takeWhile p).length:=by
 grind[List.drop_left,List.take_left,List.drop,List.take,List.takeWhile_append_dropWhile]
def bUx (b:AF)(x:AH)(a:b.Entries.length<=34359738360){F:(Int->Option Int)->Int->Option Int}
  (c:∀rec i (hi:i<b.Entries.length),F rec (i:Int)=bif eH b.Entries[i] x then rec (((i+1:Nat):Int)) else some (i:Int)) (d:∀rec,F rec (b.Entries.length:Int)=some (b.Entries.length:Int)):bI FUEL F 0=some (((b.Entries.takeWhile λe=>nJ e x.Site x.Handle).length:Nat):Int):=by
 refine Lm (λi s=>i<=(b.Entries.takeWhile λe=>nJ e x.Site x.Handle).length/\s=(i:Int)) (b.Entries.takeWhile λe=>nJ e x.Site x.Handle).length _ (by grind[bLz,nJ]) ⟨by omega,rfl⟩ (λi s rec hi hv=> ?_) (λs rec hv=> ?_)
 all_goals grind[bFj,nJ,Nat.lt_or_ge,eH,bLz]
def aTf (b:AF)(s h:Int)(f:b.sz<=34359738360):Zz b s h=some (aWc b s h):=by
 have hq:=f;simp only[AF.sz] at hq;have hs:=bFm b (wK b s h);have c:(uX b (wK b s h)).sz<=34359738368:=by grind[AF.sz]
 unfold Zz aWc;simp only[aA (show b.sz<=34359738368 by omega),bd_s];cases hb:aO b with
 |false=>simp
 |true=>
  rw[aj,aa];cases d:decide (aP b s h>=0) with
  |true=>
   obtain⟨h1,h2,i,j⟩:=aUv d;have h0:=of_decide_eq_true d;have hv:wK b s h=⟨s,h,IntKind.i64.wrap ((b.Entries.getD (aP b s h).toNat default).Version+1),false⟩:=by grind[wK,bTo]
   have a:uX b (wK b s h)=⟨b.Entries.set (aP b s h).toNat (wK b s h)⟩:=by
    grind[wK,uX]
   rw[ae,h1,bd_s];cases hd:(b.Entries.getD (aP b s h).toNat default).Deleted with
   |false=>rfl
   |true=>rw[bd_s,aj,aa];rw[jP h0 (by rw[aw];exact h2),bd_s,gA,bd_s,nx_r,fk,i,j,<-hv,<-a,aA c,bd_s];cases aO (uX b (wK b s h))<;>rfl
  |false=>
   have hv:wK b s h=⟨s,h,1,false⟩:=by grind[wK,bTo]
   have a:uX b (wK b s h)=⟨b.Entries.takeWhile (λe=>nJ e s h)++[wK b s h]++b.Entries.dropWhile (λe=>nJ e s h)⟩:=by
    grind[wK,uX]
   have hl:=bLz (p:=λe=>nJ e s h) (l:=b.Entries);obtain⟨k,m⟩:=cC5 (p:=λe=>nJ e s h) (l:=b.Entries);rw[<-hv,aa,bUx b (wK b s h) hq (by grind[dD,aL,bd_s,aJ]) (by simp)];rw[show(wK b s h).Site=s from rfl,show(wK b s h).Handle=h from rfl,bd_s,aUq];rw[aA (by grind[gH]),aA (by grind[gH]),aA (by grind[aS]),aA (by grind[aS]),aA (by grind[aS]),nx_r,bo,<-k,<-m,<-a,aA c,bd_s];cases aO (uX b (wK b s h))<;>rfl
def WOk.of' {w:AA}(h:w.sz<=34359738368):WOk w:=by
 grind[WOk,AA.sz]
def aTg (w:AA)(d:Int)(h:w.sz<=34359738368):Zt w d=some (aK w&&aM w d):=by unfold Zt;rw[aA h,bd_s,bCl (WOk.of' h),aWa,bd_s]
def aHf (b:AF)(s h:Int)(a:b.sz<=34359738360):Hy b s h=some (aWd b s h):=by
 grind[aO,aP,decide_eq_true,aUv,decide_eq_false,bd_s,default,bH2,aA,Hy,aWd]
def bUy {l l':List AH}{i:Nat}{e e':AH}(he:e'.Site=e.Site/\e'.Handle=e.Handle)(hp:(l'.getD (i-1) default).Site=(l.getD (i-1) default).Site/\(l'.getD (i-1) default).Handle=(l.getD (i-1) default).Handle)(h:aCw l i e=false):aCw l' i e'= !bG e'.Version 1 1000000:=by unfold aCw at h ⊢;rw[bp,bp,bp] at h;obtain⟨h1,h2,b,a⟩:=h;rw[he.1,he.2,h1,h2,aV7 he,aCl hp,a];simp
def cBj {b:AF}{j:Nat}{x:AH}(hj:j<b.Entries.length)(c:x.Site=b.Entries[j].Site/\x.Handle=b.Entries[j].Handle)(h:aO b=true):aO ⟨b.Entries.set j x⟩=bG x.Version 1 1000000:=by
 unfold aO at h ⊢;rw[ac,cj] at h;obtain⟨h1,h2⟩:=h;rw[aw,h1,cA];have hg:∀i,((b.Entries.set j x).getD i default).Site=(b.Entries.getD i default).Site/\((b.Entries.set j x).getD i default).Handle=(b.Entries.getD i default).Handle:=(by grind[List.getD,List.getElem?_set_self,List.getElem?_eq_getElem,List.getElem?_set_ne]);have h2:=aGp.1 h2;have hb:∀(i:Nat) (hi:i<(b.Entries.set j x).length),aCw (b.Entries.set j x) i (b.Entries.set j x)[i]= !bG (b.Entries.set j x)[i].Version 1 1000000:=λi hi=>by
  have a:i<b.Entries.length:=by simp_all
  have g:=hg i;simp only[List.getD,ab hi,ab a,cJ] at g;exact bUy g (hg (i-1)) (h2 i a)
 have hv:∀(i:Nat) (hi:i<b.Entries.length),bG b.Entries[i].Version 1 1000000=true:=(by grind[aCw,Bool.or_eq_false_iff])
 grind[bG,Bool.not_eq_true',aGp,List.getElem_set_self,List.getElem_set_ne,Bool.not_eq_false',sI]
def bL0 {b:AF}(h:aO b=true){i:Nat}(hi:i<b.Entries.length):bG b.Entries[i].Version 1 1000000=true:=by
 grind[Bool.or_eq_false_iff,aCw,aGp,Bool.not_eq_true',aO]
def aHg (b:AF)(s h:Int)(d:b.sz<=34359738360):Je b s h=some (aWd b s h):=by
 have hq:=d;simp only[AF.sz] at hq;unfold Je aWd;simp only[aA (show b.sz<=34359738368 by omega),bd_s];cases hb:aO b with
 |false=>rfl
 |true=>
  by_cases e:aP b s h<0
  ·simp[*]
  ·have a:decide (aP b s h>=0)=true:=au (by omega);obtain⟨h1,h2,f,i⟩:=aUv a;have c:uX b (bH2 b s h)=⟨b.Entries.set (aP b s h).toNat (bH2 b s h)⟩:=by
    grind[bH2,uX]
   have hg:b.Entries.getD (aP b s h).toNat default=b.Entries[(aP b s h).toNat]:=by simp[*]
   have j:=cBj (x:=bH2 b s h) h2 ⟨by rw[<-hg,f];rfl,by rw[<-hg,i];rfl⟩ hb;have hv:=bL0 hb h2;rw[ay e,h1]
   grind[aP,default,bH2,jP,List.length_set,List.getElem_set_self,bd_s,List.set_set,uX,bFm,AF.sz,aA,jK,aJ,bG,decide_eq_true]
def aDh (d:AD)(n:ByteArray)(h:Int)(rm:Bool)(a:d.sz<=34359738360/\n.size<=34359738300):Cw d n h rm=some (bN d n h rm):=by
 obtain⟨h1,h2⟩:=a;have hb:d.aAE.sz<=34359738360:=by grind[AD.sz,AF.sz]
 unfold Cw bN Fx;simp only[aA (show d.sz<=34359738368 by omega),aA h2,aA hb,bd_s];cases rm with
 |true=>simp only[ae,bd_s];cases(aWd d.aAE (dL n) h).2<;>rfl
 |false=>simp only[aa,bd_s];cases(aWc d.aAE (dL n) h).2<;>rfl
def aDi (d:AD)(n:ByteArray)(h:Int)(rm:Bool)(a:d.sz<=34359738360/\n.size<=34359738300):Dm d n h rm=some (bN d n h rm):=by
 obtain⟨h1,h2⟩:=a;have hb:d.aAE.sz<=34359738360:=by grind[AD.sz,AF.sz]
 unfold Dm bN Fx;simp only[aA (show d.sz<=34359738368 by omega),aA h2,aA hb,bd_s];cases rm<;>simp
theorem bDk {w:AA}{d:Int}(h:aM w d=true):0<=d/\d.toNat<w.Devices.length/\(aR w d).sz<=w.sz/\aR w d=w.Devices.getD d.toNat default:=by
 simp only[aM,ac,cn] at h;have hi:d.toNat<w.Devices.length:=by omega
 have:=Fw (f:=AD.sz) hi;refine⟨h.1,hi,?_,rfl⟩;show(w.Devices.getD d.toNat default).sz<=_
 grind[AA.sz]
def bQ7 {d:AD}{n:ByteArray}{h:Int}{rm:Bool}(e:(bN d n h rm).2=false):bN d n h rm=(d,false):=by
 grind[Fx,bN]
def aK6 (w:AA)(d:Int)(n:ByteArray)(h:Int)(rm:Bool)(a:w.sz<=34359738300/\n.size<=34359738300):Nj w d n h rm=some (pR w d n h rm):=by
 obtain⟨h1,h2⟩:=a;unfold Nj pR;rw[aA (show w.sz<=34359738368 by omega),bd_s,aA (show w.sz<=34359738368 by omega),bd_s];cases hc:(aK w&&aM w d) with
 |false=>rfl
 |true=>
  have hd:=(Bool.and_eq_true_iff.1 hc).2;obtain⟨k1,k2,k3,k4⟩:=bDk hd;rw[aj,aa,ae,mM hd,bd_s,aA ⟨by omega,h2⟩,bd_s,bd_s];cases e:(bN (aR w d) n h rm).2 with
  |true=>rfl
  |false=>rw[bQ7 e,aa,k4,aV9 k2]
def aK7 (w:AA)(d:Int)(n:ByteArray)(h:Int)(rm:Bool)(a:w.sz<=34359738300/\n.size<=34359738300):Oe w d n h rm=some (pR w d n h rm):=by
 obtain⟨h1,h2⟩:=a;unfold Oe pR;rw[aA (by omega),bd_s,aA (by omega),bd_s,nK,bd_s,<-Bool.not_and]
 grind[aK,aM,k1,k2,k3,k4,bDk,Bool.not_true,mM,bd_s,aA,bN,aR]
def Z0 (l:List AG)(h:l.length<=34359738368):Q7 l=some (aQ l):=by unfold Q7;rw[jA (l:=l) (λn e=>bif e.Kind==2 then IntKind.i64.wrap (n+1) else n) (λ_ _=>True) (λs=>some s) (by omega) trivial (by simp) (by grind[dD,aL,bd_s]) (by simp)];rfl
def aXw:= @Z0
def aFr (p e:Int):aZv p e=some (mO p e):=by rfl
def aZ8:= @aFr
def aZ9 (k:Int)(b:AQ)(h:b.Data.length<=34359738200):aE8 k b=some (aSs k b):=by
 grind[aA,bd_s,aS,E9,aE8,aSs]
def bAa (k:Int)(b:AQ)(h:b.Data.length<=34359738200):aFk k b=some (aSs k b):=by
 grind[sG,aA,bd_s,E9,aFk,aSs]
def aPx {α β:Type}{y:Nat->α->β}:∀{l:List α} {j i:Nat} (hi:i<l.length),D9 (λi x=>[y i x]) j (l.take (i+1))=D9 (λi x=>[y i x]) j (l.take i)++[y (j+i) l[i]]
 |x::xs,j,0,_=>by simp[D9]
 |x::xs,j,i+1,hi=>by
  have:=aPx (y:=y) (l:=xs) (j:=j+1) (i:=i) (by simpa using hi);simp only[ia,D9,fa,this,cI,bo];rw[show j+1+i=j+(i+1) by omega]
def bOa {k:Int}{b:List Int}(hl:b.length<=34359738368){F:(List Int×Nat->Option (List Int))->List Int×Nat->Option (List Int)}
  (a:∀rec i s (hi:i<b.length),s.length<=34359738368->F rec (s,i)=rec (s++[bHp k i b[i]],i+1)) (c:∀rec s,F rec (s,b.length)=some s):bI FUEL F ([],0)=some (aV4 k b):=by
 refine Lm (λi s=>i<=b.length/\s=(D9 (λi z=>[bHp k i z]) 0 (b.take i),i)) b.length _ (by omega) ⟨by omega,by simp[D9]⟩ (λi s rec hi hv=> ?_) (λs rec hv=> ?_)
 ·obtain⟨_,rfl⟩:=hv;refine .inl ⟨_,⟨hi,rfl⟩,?_⟩;rw[a rec i _ hi (by rw[Sr,bu];omega),aPx hi,co]
 ·obtain⟨_,rfl⟩:=hv;rw[c,cG];rfl
def aXx (k:Int)(b:List Int)(h:b.length<=34359738368):U1 k b=some (aV4 k b):=by unfold U1;rw[bOa (k:=k) h (by grind[bTj,dD,aL,bd_s,aA,gd_T,eO]) (by simp)];rfl
def aXy (k:Int)(b:List Int)(h:b.length<=34359738368):V5 k b=some (aV4 k b):=by unfold V5;rw[bOa (k:=k) h (by grind[bTi,dD,aL,bd_s,aA,eO]) (by simp)];rfl
def Z4 (p:Int)(b:AQ):U2 p b=some (mU p b):=by
 grind[decide,decide_eq_true,bZ,iR,aA,bd_s,decide_eq_false,aSs,mO,U2,mU]
def bFn {bs:List AQ}{p:Int}(hl:bs.length<=34359738368){F:(Nat->Option ((List Int×Bool)⊕PUnit))->Nat->Option ((List Int×Bool)⊕PUnit)}
  (a:∀rec i (hi:i<bs.length),F rec i=bif (mU p bs[i]).2 then some (.inl ((mU p bs[i]).1,true)) else rec (i+1)) (b:∀rec,F rec bs.length=some (.inr ())):nx (bI FUEL F 0) (λ_=>some (([]:List Int),false))=some (lH bs p):=by
 have go:∀(k i n:Nat),i+k=bs.length->k<n->nx (bI n F i) (λ_=>some (([]:List Int),false))=some (lH (bs.drop i) p):=by
  intro k;induction k with
  |zero=>
   intro i n hk hn;obtain⟨n,rfl⟩:∃m,n=m+1:=⟨n-1,by omega⟩;have:i=bs.length:=by omega
   subst this;rw[iD,b,dy];rfl
  |succ k c=>
   intro i n hk hn;obtain⟨n,rfl⟩:∃m,n=m+1:=⟨n-1,by omega⟩;have hi:i<bs.length:=by omega
   rw[iD,a _ i hi,cE hi,lH];cases(mU p bs[i]).2 with
   |true=>rfl
   |false=>grind
 exact go bs.length 0 FUEL (by omega) (by grind[fM])
def Z5 (bs:List AQ)(p:Int)(h:bs.length<=34359738368):U3 bs p=some (lH bs p):=by unfold U3;exact bFn h (by grind[dD,aL,bd_s]) (by simp)
def aXz:= @Z4
def aX0:= @Z5
theorem aX1 {c:AR}{b:Int}(a:c.sz<=34359738368)(h0:0<=b/\b<(c.History.length:Int)):aT c.History (IntKind.i64.wrap (IntKind.i64.wrap ((c.History.length:Int)-1)-b))=some (c.History.getD (c.History.length-1-b.toNat) default)/\(c.History.getD (c.History.length-1-b.toNat) default).sz<=34359738368:=by simp only[AR.sz] at a;have h1:=Fw (f:=AK.sz) (l:=c.History) (i:=c.History.length-1-b.toNat) (by omega);refine⟨?_,by omega⟩;rw[aJ (n:=(c.History.length:Int)-1) (by omega) (by omega),aJ (by omega) (by omega),oL (by omega) (by omega)];congr 2;omega
def aHh (c:AR)(b:Int)(a:c.sz<=34359738368):Ia c b=some (iG c b):=by
 grind[decide,aX1,Gw,bd_s,aA,aJ3,AR.sz,Ia,iG]
def aHi (c:AR)(b:Int)(a:c.sz<=34359738368):Iz c b=some (iG c b):=by
 grind[decide,aX1,Gw,bd_s,aA,nK,Iz,iG]
def bUz {a b:List AG}(d:a.length<=34359738368){F:(Nat->Option (Bool⊕PUnit))->Nat->Option (Bool⊕PUnit)}
  (f:∀rec i (hi:i<b.length) (hj:i<a.length),F rec i=bif !bKy a[i] b[i] then some (.inl false) else rec (i+1)) (c:∀rec,F rec b.length=some (.inr ())):
  (bif decide ((a.length:Int)<(b.length:Int)) then some false else nx (bI FUEL F 0) λ_=>some true)=some (dR a b):=by
 unfold dR;by_cases h:b.length<=a.length
 ·rw[ay (show ¬(a.length:Int)<(b.length:Int) by omega),aa,au h,cA,
   gL (l:=b) (λi e=> !bKy (a.getD i default) e) (.inl false) (.inr ()) (by omega) (by grind[List.getD,List.getElem?_eq_getElem]) c]
  cases eF (λi e=> !bKy (a.getD i default) e) 0 b<;>rfl
 grind
def Pk (a b:List AG)(h:a.length<=34359738368):Mw a b=some (dR a b):=by unfold Mw;exact bUz h (λrec i hi hj=>by simp only[dD hi,ae,aL hi,aL hj,bd_s];rfl) (by simp)
def aK8:= @Pk
def aPy (k:Int)(b:AK)(h:b.Data.length<=34359738200):Ty k b=some (lK k b):=by
 grind[aA,bd_s,aS,E9,Ty,lK]
def aPz (k:Int)(b:AK)(h:b.Data.length<=34359738200):Um k b=some (lK k b):=by
 grind[sG,aA,bd_s,E9,Um,lK]
def aTh (k e v:Int):Zm k e v=some (bZ k&&(bG e 0 1000000&&bG v 0 1000000)):=by unfold Zm;cases bZ k<;>cases bG e 0 1000000<;>rfl
def bAb (k e v:Int):aZw k e v=some (qH k e v):=by rfl
def Jm (b:List Int)(hb:aU b)(p:Nat)(hp:p<=34359738368){F:(Int×Int×Nat->Option ((Int×Int×Bool)⊕PUnit))->Int×Int×Nat->Option ((Int×Int×Bool)⊕PUnit)}
  (j:∀rec (n q:Int) (i:Nat),F rec (n,q,i)=bif decide ((i:Int)<6) then(bif decide (IntKind.i64.wrap ((p:Int)+(i:Int))>=(b.length:Int)) then some (.inl (0,0,false)) else bd (aT b (IntKind.i64.wrap ((p:Int)+(i:Int)))) λz=>gd ((128:Int)≠0) (bif decide (IntKind.i64.wrap z<128) then(bd (bif decide ((i:Int)>0) then(bif IntKind.i64.wrap z==0 then some true else some (decide (IntKind.i64.wrap (n+IntKind.i64.wrap ((IntKind.i64.wrap z).tmod 128*q))>1000000000000))) else some (decide (IntKind.i64.wrap (n+IntKind.i64.wrap ((IntKind.i64.wrap z).tmod 128*q))>1000000000000))) λc=>bif c then some (.inl (0,0,false)) else some (.inl (IntKind.i64.wrap (n+IntKind.i64.wrap ((IntKind.i64.wrap z).tmod 128*q)),IntKind.i64.wrap (IntKind.i64.wrap ((p:Int)+(i:Int))+1),true))) else rec (IntKind.i64.wrap (n+IntKind.i64.wrap ((IntKind.i64.wrap z).tmod 128*q)),IntKind.i64.wrap (q*128),i+1))) else some (.inr ())):
  ∀(k i:Nat) (n:Int) (f:Nat),i+k=6->k<f->0<=n->n<128^i->nx (bI f F (n,(128:Int)^i,i)) (λ_=>some ((0:Int),(0:Int),false))=some (uvG b p k i n)
 |0,i,n,f+1,hk,w,h0,h1=>by
  rw[iD,j,show decide ((i:Int)<6)=false from ay (by omega)];rfl
 |k+1,i,n,f+1,hk,w,h0,h1=>by
  have l:=bEw (i:=i) (by omega);rw[iD,j,show decide ((i:Int)<6)=true from au (by omega),ae];rw[show IntKind.i64.wrap ((p:Int)+(i:Int))=((p+i:Nat):Int) by rw[aJ (by omega) (by omega)];omega];unfold uvG;by_cases a:p+i<b.length
  ·have m:=zM hb a;have hg:b.getD (p+i) 0=b[p+i]:=by simp[List.getD,ab a]
   rw[cR a,hg,aL a];generalize b[p+i]=z at m;rw[show decide (((p+i:Nat):Int)>=(b.length:Int))=false from ay (by omega)];have hs:=bEx (z:=z) (n:=n) (i:=i) (by omega) m.1 h0 h1;have o:IntKind.i64.wrap z=z:=aJ (by omega) (by omega);have r:z.tmod 128=z%128:=bv m.1;have s:IntKind.i64.wrap (z%128*128^i)=z%128*128^i:=aJ (by omega) (by omega);have x:=bEw (i:=i+1) (by omega);have t:IntKind.i64.wrap (n+z%128*128^i)=n+z%128*128^i:=aJ (by omega) (by omega);have u:IntKind.i64.wrap (((p+i:Nat):Int)+1)=((p+i+1:Nat):Int):=by rw[aJ (by omega) (by omega)];omega
   have v:IntKind.i64.wrap ((128:Int)^i*128)=128^(i+1):=by rw[<-gj,aJ (by omega) (by omega)]
   have h:((128:Int)≠0)=True:=by simp
   simp only[aa,bd_s,o,r,s,t,u,v,h,gd_T];by_cases d:z<128
   ·simp only[d,decide_true,ae];have e:(decide ((i:Int)>0))=decide (0<i):=da.2 (by omega);rw[e];cases decide (0<i)<;>cases(z==0)<;>cases decide (n+z%128*128^i>1000000000000)<;>rfl
   ·simp only[d,decide_false,aa];exact Jm b hb p hp j k (i+1) _ f (by omega) (by omega) hs.1 hs.2.1
  ·rw[dk a,show decide (((p+i:Nat):Int)>=(b.length:Int))=true from au (by omega)];rfl
def aHj (b:List Int)(a:Int)(hb:aU b):Ja b a=some (Rw b a):=by
 unfold Ja Rw;have c:=fM;have hlen:=hb.1;rw[nK,bd_s];by_cases h0:a<0
 ·simp[h0]
 ·rw[dk h0,ay h0,cC];by_cases h1:a>=b.length
  ·grind[uvG,decide_eq_true]
  ·rw[ay h1,aa];obtain⟨p,rfl⟩:=ey (show 0<=a by omega);exact Jm b hb p (by omega) (λrec n q i=>rfl) 6 0 0 FUEL rfl (by omega) (by omega) (by decide)
theorem Yo (b:List Int)(c:Int)(hc:c<=100){F:(Int×List Int×Nat->Option ((List Int×Int×Bool)⊕(Int×List Int)))->Int×List Int×Nat->Option ((List Int×Int×Bool)⊕(Int×List Int))}
  (d:∀rec (a:Int) (s:List Int) (i:Nat),s.length<=34359738368->F rec (a,s,i)=bif decide ((i:Int)<c) then(bif !(Rw b a).2.2 then some (.inl ([],0,false)) else rec ((Rw b a).2.1,s++[(Rw b a).1],i+1)) else some (.inr (a,s))):
  ∀(k i:Nat) (a:Int) (s:List Int) (f:Nat),((i+k:Nat):Int)=c->k<f->s.length<=i->nx (bI f F (a,s,i)) (λz=>some (z.2,z.1,true))=some (nH b k a s)
 |0,i,a,s,f+1,hk,e,hs=>by
  rw[iD,d _ _ _ _ (by omega),show decide ((i:Int)<c)=false from ay (by omega)];rfl
 |k+1,i,a,s,f+1,hk,e,hs=>by
  rw[iD,d _ _ _ _ (by omega),show decide ((i:Int)<c)=true from au (by omega),ae];unfold nH;cases(Rw b a).2.2 with
  |false=>rfl
  |true=>simp only[aj,aa,ae];exact Yo b c hc d k (i+1) _ _ f (by omega) (by omega) (by simp;omega)
def aK9 (b:List Int)(a c:Int)(hb:aU b):Nw b a c=some (lI b a c):=by
 grind[decide_false,bd_s,decide_true,Bool.not_true,Bool.or_self,Yo,aA,eO,FUEL,fM,Nw,lI,bG]
def aLa (b:List Int)(a c:Int)(hb:aU b):Nb b a c=some (lI b a c):=by
 grind[bG,jK,Bool.not_true,bd_s,Bool.or_self,Yo,aA,eO,FUEL,fM,Nb,lI]
theorem Jn (b:List Int)(hb:aU b)(a:Int)(q:0<=a){F:(Int×Nat->Option ((Int×Int×Bool)⊕PUnit))->Int×Nat->Option ((Int×Int×Bool)⊕PUnit)}
  (l:∀rec (n:Int) (i:Nat),F rec (n,i)=bif decide ((i:Int)<6) then(bd (bif decide (a<0) then some true else some (decide (a>=IntKind.i64.wrap ((b.length:Int)-(i:Int))))) λc=>bif c then some (.inl (0,0,false)) else bd (aT b (IntKind.i64.wrap (a+(i:Int)))) λz=>gd ((0:Int)<=IntKind.i64.wrap (7*(i:Int))) (bif decide (IntKind.i64.wrap z<128) then(bd (bif IntKind.i64.wrap z==0 then(bif decide ((i:Int)>0) then some true else some (decide (orI .i64 n (aJg .i64 (rT .i64 (IntKind.i64.wrap z) 127) (IntKind.i64.wrap (7*(i:Int))))>1000000000000))) else some (decide (orI .i64 n (aJg .i64 (rT .i64 (IntKind.i64.wrap z) 127) (IntKind.i64.wrap (7*(i:Int))))>1000000000000))) λc=>bif c then some (.inl (0,0,false)) else some (.inl (orI .i64 n (aJg .i64 (rT .i64 (IntKind.i64.wrap z) 127) (IntKind.i64.wrap (7*(i:Int)))),IntKind.i64.wrap (IntKind.i64.wrap (a+(i:Int))+1),true))) else rec (orI .i64 n (aJg .i64 (rT .i64 (IntKind.i64.wrap z) 127) (IntKind.i64.wrap (7*(i:Int)))),i+1))) else some (.inr ())):
  ∀(k i:Nat) (n:Int) (f:Nat),i+k=6->k<f->0<=n->n<128^i->nx (bI f F (n,i)) (λ_=>some ((0:Int),(0:Int),false))=some (uvG b a.toNat k i n)
 |0,i,n,f+1,hk,r,h0,h1=>by
  rw[iD,l,show decide ((i:Int)<6)=false from ay (by omega)];rfl
 |k+1,i,n,f+1,hk,r,h0,h1=>by
  have hlen:=hb.1;rw[iD,l,show decide ((i:Int)<6)=true from au (by omega),ae,nK,bd_s];rw[show IntKind.i64.wrap ((b.length:Int)-(i:Int))=(b.length:Int)-(i:Int) from aJ (by omega) (by omega),show decide (a<0)=false from ay (by omega),cC];unfold uvG;by_cases d:a.toNat+i<b.length
  ·have j:=zM hb d;have hg:b.getD (a.toNat+i) 0=b[a.toNat+i]:=by simp[List.getD,ab d]
   have m:IntKind.i64.wrap (a+(i:Int))=((a.toNat+i:Nat):Int):=by rw[aJ (by omega) (by omega)];omega
   rw[cR d,hg,m,aL d];generalize b[a.toNat+i]=z at j;rw[show decide (a>=(b.length:Int)-(i:Int))=false from ay (by omega)];have hs:=bEx (z:=z) (n:=n) (i:=i) (by omega) j.1 h0 h1;have o:IntKind.i64.wrap z=z:=aJ (by omega) (by omega);have ho:=bWz (z:=z) (n:=n) (i:=i) (by omega) j.1 j.2 h0 h1;have p:IntKind.i64.wrap (((a.toNat+i:Nat):Int)+1)=((a.toNat+i+1:Nat):Int):=by rw[aJ (by omega) (by omega)];omega
   have s:0<=IntKind.i64.wrap ((7:Int)*(i:Int)):=by rw[aJ (by omega) (by omega)];omega
   simp only[aa,bd_s,o,ho,p];rw[aA s];by_cases h:z<128
   ·simp only[h,decide_true,ae];have e:(decide ((i:Int)>0))=decide (0<i):=da.2 (by omega);rw[e];cases decide (0<i)<;>cases(z==0)<;>cases decide (n+z%128*128^i>1000000000000)<;>rfl
   ·simp only[h,decide_false,aa];exact Jn b hb a q l k (i+1) _ f (by omega) (by omega) hs.1 hs.2.1
  ·rw[dk d,show decide (a>=(b.length:Int)-(i:Int))=true from au (by omega)];rfl
def aHk (b:List Int)(a:Int)(hb:aU b):Ib b a=some (Rw b a):=by
 unfold Ib Rw;have d:=fM;by_cases h0:a<0
 ·rw[cR h0];obtain⟨f,c⟩:∃f,FUEL=f+1:=⟨FUEL-1,by omega⟩;simp_all[nx,iD]
 grind[Jn,FUEL]
def G7 (s:AJ)(e:AP)(a:e.sz<=34359738368):wO s e=some (eY s e):=by
 simp only[AP.sz] at a;unfold wO eY
 grind[decode_len,lI,aGk,aT,bd_s,Bool.not_true,bZ,lH,jQ,aA,aGj]
def G8 (s:AJ)(e:AP)(a:e.sz<=34359738368):xA s e=some (eY s e):=by
 simp only[AP.sz] at a;unfold xA eY;rw[aA (by simp),bd_s,aA (by omega),bd_s,aA (aGj _ _),show aV s.Seed [181]=jQ s from rfl]
 grind[decode_len,lI,aGk,aT,bd_s,Bool.not_true,bZ,lH,jQ]
theorem bOb {F:(Int×List Int->Option (Int×List Int))->Int×List Int->Option (Int×List Int)}{n:Int}{b:List Int}(hk:0<=n/\n<=1000000000000)(hb:b.length<=34359738300)
  (a:∀rec (n:Int) (s:List Int),0<=n->n<9223372036854775807->s.length<=34359738368->F rec (n,s)=bif decide (n>127) then rec (n/128,s++[n%128+128]) else some (n,s)):
  (bd (EV.bI FUEL F (n,b)) λz=>gd (aS z.2 [IntKind.u8.wrap z.1]) (some (z.2++[IntKind.u8.wrap z.1])))=some (b++uvE 5 n):=by
 have f:(128:Int)^(5+1)=4398046511104:=by decide
 obtain⟨m,q,c,d,e,h⟩:=bH4 a 5 n b FUEL (by grind[fM]) hk.1 (by omega) (by omega) (by omega);have hq:q.length<=34359738368:=by
  grind[List.length_append,List.length_singleton,bE0,List.length]
 rw[c,bd_s];simp only[aWf e (by omega)];rw[eO (s:=q) hq,d]
def Z6 (b:List Int)(n:Int)(h:b.length<=34359738300):zT b n=some (Rn b n):=by
 unfold zT Rn enc1;rw[Bt (by omega)];cases hr:bG n 0 1000000000000 with
 |false=>simp
 |true=>rw[aj,aa,ae,bo];exact bOb (jK hr) h (by grind[decide,gd,aS,orI,rT,Ri,bW8,cA7,Int.emod_nonneg,Int.emod_lt_of_pos,cCw,aWf,eO,aA])
def bDl:∀(l s:List Int),l.foldl Rn s=s++mV l
 |[],s=>by simp[mV]
 |x::l,s=>by rw[cU,bDl l,Gg,Rn,cw]
def Pm (l:List Int)(h:l.length<=5000000000):Mr l=some (mV l):=by unfold Mr;rw[jA (l:=l) Rn (λi s=>s.length<=6*i) (λs=>some s) (by omega) (by simp) (by grind[aWg,Rn,List.length_append]) (by grind[dD,aL,bd_s,aA]) (by simp),bDl];rfl
def aHl:∀(l:List AH) (s:List Int),l.foldl (λs e=>s++bH7 e) s=s++zO l
 |[],s=>by simp[zO]
 |x::l,s=>by rw[cU,aHl l];simp[zO]
def aDj (b:AF)(h:b.sz<=34359738368):Cx b=some (zP b):=by
 unfold Cx zP;rw[aA h,bd_s];cases hb:aO b with
 |false=>rfl
 |true=>
  have hl:=yF hb;have hv:(Mj b).length=1+4*b.Entries.length:=by grind[Mj,Gh]
  rw[aj,aa,ae,jA (l:=b.Entries) (λs e=>s++bH7 e) (λi s=>s.length<=1+4*i) (λs=>some s) (by omega) (by simp) (by grind[bH7,List.length_append,List.length_cons,List.length_nil]) (λrec i s hi hv=>by
   have e:∀x y z w:Int,gd (aS s [x,y,z,w]) (some (s++[x,y,z,w]))=some (s++[x,y,z,w]):=(by grind[aA,aS,List.length_cons,List.length_nil]);simp only[dD hi,ae,aL hi,bd_s,Mi,e];rfl) (by simp),aHl,bd_s]
  grind[aA,zO,Mj,bd_s]
def aLb (a b:List Int)(h:aU a/\aU b):Nc a b=some (a==b):=by obtain⟨c,hb⟩:=h;have h1:=c.1;have h2:=hb.1;unfold Nc;rw[aA (by omega),aA (by omega),aUr,aUr,ByteArray.toList_eq,ByteArray.toList_eq,bCo,bCo];congr 1;rw[fv,cT,cT];exact⟨λh=>bytes_inj (aRy c) (aRy hb) h,λh=>by rw[h]⟩
def cC6 {v:List Int}{i:Nat}(h:4*i+3<v.length):v.drop (4*i)=v[4*i]::v[4*i+1]::v[4*i+2]::v[4*i+3]::v.drop (4*(i+1)):=by
 grind[List.drop_eq_getElem_cons]
def bJa {v:List Int}{k:Nat}(hv:v.length=4*k)(hk:k<=20){τ:Type}{x:τ}{F:(Nat×List AH->Option (τ⊕List AH))->Nat×List AH->Option (τ⊕List AH)}
  (a:∀rec i s (hi:i<k) (h:4*i+3<v.length),s.length<=100->F rec (i,s)=bif decide (v[4*i+3]>1) then some (.inl x) else rec (i+1,s++[⟨v[4*i],v[4*i+1],v[4*i+2],v[4*i+3]==1⟩])) (b:∀rec s,F rec (k,s)=some (.inr s)):
  ∀(m i n:Nat) (s:List AH),i+m=k->m<n->s.length<=i->EV.bI n F (i,s)=some (bif sM (v.drop (4*i)) then .inr (s++qI (v.drop (4*i))) else .inl x)
 |0,i,n+1,s,h,_,_=>by
  have:i=k:=by omega
  subst this;rw[iD,b,fX (by omega)];simp[sM,qI]
 |m+1,i,n+1,s,h,hn,hs=>by
  have c:4*i+3<v.length:=by omega
  rw[iD,a _ i s (by omega) c (by omega),cC6 c];simp only[sM,qI];by_cases hg:v[4*i+3]>1
  ·rw[au hg,ay (show ¬v[4*i+3]<=1 by omega)];rfl
  ·rw[ay hg,au (show v[4*i+3]<=1 by omega),aa,cA,bJa hv hk a b m (i+1) n _ (by omega) (by omega) (by simp;omega)];simp
def bJb {a:List Int}(hb:aU a)(hc:(!(Rw a 0).2.2||decide ((Rw a 0).1>20))=false):∃(n:Int) (q:Nat),Rw a 0=(n,(q:Int),true)/\0<=n/\n<=20/\q<=a.length:=by
 simp only[bp,dm,cY] at hc;cases b:Rw a 0 with
 |mk n r=>
  obtain⟨e,ok⟩:=r;rw[b] at hc;obtain⟨rfl,hc2⟩:=hc;obtain⟨q,⟨_,c,d,f,h⟩,_⟩:=bE2 hb b
  grind
def bJc {a:List Int}{e c:Int}(h0:0<=c)(h1:c<=100)(h2:0<=e)(b:e<=a.length):lI a e c=nH a c.toNat e []:=by
 grind[decide_eq_true,lI,bG]
theorem bFo {v:List Int}{i j:Nat}{q:Int}(hq:q=(j:Int))(h:i+j<v.length):aT (v.drop i) q=some v[i+j]:=by subst hq;rw[aL (by grind),List.getElem_drop]
def aDk (a:List Int)(hb:aU a):Dj a=some (aE5 a):=by
 unfold Dj aE5;rw[aA hb,bd_s,nK,bd_s];cases hc:(!(Rw a 0).2.2||decide ((Rw a 0).1>20)) with
 |true=>rfl
 |false=>
  obtain⟨n,q,b,h0,h1,h2⟩:=bJb hb hc;rw[b,aa,aa];dsimp only;rw[aJ (n:=4*n) (by omega) (by omega),aA hb,bd_s,bJc (by omega) (by omega) (by omega) (by omega)];cases hd:nH a (4*n).toNat (q:Int) [] with
  |mk v r=>
   obtain⟨e,ok⟩:=r;dsimp only;rw[nK,bd_s];unfold bNn;cases ok with
   |false=>rfl
   |true=>
    dsimp only;rw[aj,cC,cC];cases he:(e !=(a.length:Int)) with
    |true=>rfl
    |false=>
     obtain⟨t,q',⟨k1,k2,k3,k4,k5⟩,_⟩:=O3 hb _ _ _ _ _ (by omega) (by omega) hd;rw[bo] at k1;subst k1;have hv:v.length=4*n.toNat:=by omega
     rw[aa,cC,bJa (x:=((AF.mk [],false):AF×Bool)) hv (by omega) (λrec i s hi c hs=>by
      have d:decide ((i:Int)<n)=true:=au (by omega);have f:IntKind.i64.wrap (4*(i:Int))=((4*i:Nat):Int):=by grind[aJ]
      have h:aT (v.drop (4*i)) 0=some (v[4*i]'(by omega)):=bFo (j:=0) rfl (by omega);have k:aT (v.drop (4*i)) 1=some (v[4*i+1]'(by omega)):=(by grind[bFo]);have l:aT (v.drop (4*i)) 2=some (v[4*i+2]'(by omega)):=(by grind[bFo]);have m:aT (v.drop (4*i)) 3=some v[4*i+3]:=bFo (j:=3) rfl c;simp only[d,f,bw,ae,aA (show gH v ((4*i:Nat):Int) from⟨by omega,by omega⟩),h,k,l,m,bd_s,eO (show s.length<=34359738368 by omega)]) (by grind) n.toNat 0 FUEL [] (by omega) (by grind[fM]) (by simp)]
     simp only[Nat.mul_zero,jl,bo];cases o:sM v with
     |false=>rfl
     |true=>have hl:=aJ6 n.toNat v hv;simp only[ae,nx_r];rw[aA (by grind[qI,AF.sz]),bd_s];cases aO ⟨qI v⟩<;>rfl
def bDm {a:List Int}(hb:aU a){k:Nat}(hk:k<=20){τ:Type}{x:τ}{F:(Int×Nat×List AH->Option (τ⊕List AH))->Int×Nat×List AH->Option (τ⊕List AH)}
  (b:∀rec (q:Nat) i s (hi:i<k),q<=a.length->s.length<=100->F rec ((q:Int),i,s)=bif !(nH a 4 q []).2.2 then some (.inl x) else rec ((nH a 4 q []).2.1,i+1,s++qI (nH a 4 q []).1)) (c:∀rec e s,F rec (e,k,s)=some (.inr s)):
  ∀(m i n q:Nat) (s:List AH),i+m=k->m<n->q<=a.length->s.length<=i->EV.bI n F ((q:Int),i,s)=some (bif (nH a (4*m) q []).2.2 then .inr (s++qI (nH a (4*m) q []).1) else .inl x)
 |0,i,n+1,q,s,h,_,_,_=>by
  have:i=k:=by omega
  subst this;rw[iD,c];simp[nH,qI]
 |m+1,i,n+1,q,s,h,hn,hq,hs=>by
  rw[iD,b _ q i s (by omega) hq (by omega),show 4*(m+1)=4+4*m by omega,aWh 4 (4*m)];cases hd:nH a 4 (q:Int) [] with
  |mk l r=>
   obtain⟨e,ok⟩:=r;cases ok with
   |false=>rfl
   |true=>
    obtain⟨t,q',⟨k1,k2,k3,k4,k5⟩,_⟩:=O3 hb _ _ _ _ _ (by omega) (by omega) hd;rw[bo] at k1;subst k1;subst k3;have hl:(qI l).length=1:=aJ6 1 l (by omega);simp only[aj,aa,ae];rw[bDm hb hk b c m (i+1) n q' _ (by omega) (by omega) k4 (by simp[hl];omega),aWi (4*m) (q':Int) l];cases(nH a (4*m) (q':Int) []).2.2 with
    |false=>rfl
    |true=>simp[bH8 1 l _ (by omega)]
def four {l:List Int}(h:l.length=4):∃w x y z,l=[w,x,y,z]:=by
 match l,h with
 |[w,x,y,z],_=>exact⟨w,x,y,z,rfl⟩
def aDl (a:List Int)(hb:aU a):Cy a=some (aE5 a):=by
 unfold Cy aE5;rw[aA hb,bd_s,nK,bd_s];cases hc:(!(Rw a 0).2.2||decide ((Rw a 0).1>20)) with
 |true=>rfl
 |false=>
  obtain⟨n,q,b,h0,h1,h2⟩:=bJb hb hc;rw[b,aa,aa];dsimp only;rw[bDm (x:=((AF.mk [],false):AF×Bool)) hb (k:=n.toNat) (by omega) (λrec q i s hi hq hs=>by
   have d:decide ((i:Int)<n)=true:=au (by omega);simp only[d,ae,aA hb,bd_s,bJc (a:=a) (e:=(q:Int)) (c:=4) (by omega) (by omega) (by omega) (by omega),show Int.toNat 4=4 from rfl];cases hd:nH a 4 (q:Int) [] with
   |mk l r=>
    obtain⟨e,ok⟩:=r;cases ok with
    |false=>rfl
    |true=>
     obtain⟨t,q',⟨k1,k2,_⟩,_⟩:=O3 hb _ _ _ _ _ (by omega) (by omega) hd;rw[bo] at k1;subst k1;obtain⟨w,x,y,z,rfl⟩:=four k2;simp only[aj,aa,(by assumption),(by assumption),(by assumption),(by assumption),bd_s,eO (show s.length<=34359738368 by omega)];rfl) (by grind) n.toNat 0 FUEL q [] (by omega) (by grind[fM]) h2 (by simp)]
  rw[show(4*n).toNat=4*n.toNat by omega];unfold bNn;cases hd:nH a (4*n.toNat) (q:Int) [] with
  |mk v r=>
   obtain⟨e,ok⟩:=r;cases ok with
   |false=>rfl
   |true=>
    obtain⟨b1,h,j,m⟩:=bTp hb b h1 (show nH a (4*n).toNat (q:Int) []=(v,e,true) by rw[show(4*n).toNat=4*n.toNat by omega];exact hd);have f:(AF.mk (qI v)).sz<=34359738368:=by grind[AF.sz]
    simp only[ae,nx_r,bo,aA f,bd_s,aA (show aU (zP ⟨qI v⟩)/\aU a from⟨aWl _,hb⟩),nK]
    grind[aO,qI,mV,Mj,sM,absurd,Bool.not_true,Bool.not_false,zP]
def aLc (k:Int)(s:AK)(h:s.Data.length<=34359738200):Ny k s=some (qJ k s):=by unfold Ny qJ;rw[aA h,aA (by simp)];simp only[bd_s,aA (show s.Data.length<=34359738368 by omega),aA (bEy (k:=aV k [223,s.Epoch,s.Version]) (show s.Data.length<=34359738368 by omega))];unfold qH;cases bZ k<;>cases bG s.Epoch 0 1000000<;>cases bG s.Version 0 1000000<;>cases(s.MAC !=lK k s)<;>rfl
def aLd (k:Int)(s:AK)(h:s.Data.length<=34359738200):Nf k s=some (qJ k s):=by unfold Nf qJ;rw[aA h,aA (by omega)];simp only[bd_s,aA (bEy (k:=qH k s.Epoch s.Version) (show s.Data.length<=34359738368 by omega))];cases bZ k<;>cases bG s.Epoch 0 1000000<;>cases bG s.Version 0 1000000<;>cases(s.MAC !=lK k s)<;>rfl
def aLe (d:AD)(l:List AG)(bx:AP)(s:AK)(h:d.sz<=34359738368/\l.length<=34359738368/\bx.sz<=34359738368/\s.Data.length<=34359738200):Oa d l bx s=some (dO d l bx s):=by
 obtain⟨h1,h2,a,b⟩:=h;have c:=gG l;have hb:d.aAE.sz<=34359738368:=by grind[AD.sz,AF.sz]
 unfold Oa dO qX;simp only[aA h1,aA h2,aA a,aA b,aA (by omega),bd_s,nK,bif_and,bif_or,Mi]
 grind[bD,dR,jM,aG,aZ,aQ,eY,bx,decide,nT,aA,bd_s,qJ,bCq]
def aLf (d:AD)(l:List AG)(bx:AP)(s:AK)(h:d.sz<=34359738368/\l.length<=34359738368/\bx.sz<=34359738368/\s.Data.length<=34359738200):Ng d l bx s=some (dO d l bx s):=by
 obtain⟨h1,h2,a,b⟩:=h;have c:=gG l;have hb:d.aAE.sz<=34359738368:=by grind[AD.sz,AF.sz]
 unfold Ng dO qX;simp only[aA h1,aA h2,aA a,aA b,aA (by omega),bd_s,nK,bif_and,bif_or,Mi]
 grind[bD,dR,jM,aG,aZ,aQ,eY,bx,decide,nT,aA,bd_s,qJ,bCq]
theorem bDn {c:AR}(h:c.sz<=34359738100)(b:Int):c.Log.length<=34359738100/\c.Boxes.sz<=34359738100/\(iG c b).1.Data.length<=34359738100:=by
 grind[decide,aX1,Gw,Fw,AK.sz,iG,AP.sz,AR.sz]
def aX2 (d:AD)(c:AR)(b:Int)(h:d.sz<=34359738100/\c.sz<=34359738100):U4 d c b=some (dO d c.Log c.Boxes (iG c b).1):=by obtain⟨h1,h2⟩:=h;obtain⟨k1,k2,k3⟩:=bDn h2 b;unfold U4;rw[aA (by omega),bd_s,aA (by grind),bd_s]
theorem Z7 {w:AA}{d:Int}(h:aM w d=true):0<=d/\d.toNat<w.Devices.length/\(aR w d).sz<=w.sz/\aR w d=w.Devices.getD d.toNat default:=by
 simp only[aM,ac,cn] at h;have hi:d.toNat<w.Devices.length:=by omega
 have:=Fw (f:=AD.sz) hi;refine⟨h.1,hi,?_,rfl⟩;show(w.Devices.getD d.toNat default).sz<=_
 grind[AA.sz]
theorem Jo (w:AA):w.aAF.sz<=w.sz:=by grind[AA.sz,AR.sz,AP.sz]
def aX3 (w:AA)(d b:Int)(c:w.sz<=34359738100):U9 w d b=some (aH w d b):=by
 have a:=Jo w;unfold U9 aH;rw[aA (show w.sz<=34359738368 by omega),bd_s,aA (show w.sz<=34359738368 by omega),bd_s];cases hc:(aK w&&aM w d) with
 |false=>rfl
 |true=>have hd:=(Bool.and_eq_true_iff.1 hc).2;obtain⟨k1,k2,k3,k4⟩:=Z7 hd;rw[aj,aa,ae,mM hd,bd_s,aA ⟨by omega,by omega⟩,bd_s,bd_s]
def aX4 (w:AA)(d b:Int)(c:w.sz<=34359738100):V6 w d b=some (aH w d b):=by have a:=Jo w;unfold V6 aH;rw[aA (by omega),bd_s,aA (by omega),bd_s,nK,bd_s,<-Bool.not_and];cases hc:(aK w&&aM w d)<;>grind[aK,aM,k1,k2,k3,k4,Z7,bDn,Bool.not_true,aA,bd_s,mM]
def bOc {k:Int}{b:List Int}(hl:b.length<=34359738368){F:(List Int×Nat->Option (List Int))->List Int×Nat->Option (List Int)}
  (a:∀rec i s (hi:i<b.length),s.length<=34359738368->F rec (s,i)=rec (s++[bK0 k i b[i]],i+1)) (c:∀rec s,F rec (s,b.length)=some s):EV.bI FUEL F ([],0)=some (tZ k b):=by
 refine Lm (λi s=>i<=b.length/\s=(D9 (λi z=>[bK0 k i z]) 0 (b.take i),i)) b.length _ (by omega) ⟨by omega,by simp[D9]⟩ (λi s rec hi hv=> ?_) (λs rec hv=> ?_)
 ·obtain⟨_,rfl⟩:=hv;refine .inl ⟨_,⟨hi,rfl⟩,?_⟩;rw[a rec i _ hi (by rw[Sr,bu];omega),aPx hi,co]
 ·obtain⟨_,rfl⟩:=hv;rw[c,cG];rfl
def aX5 (k:Int)(b:List Int)(h:aU b):V7 k b=some (tZ k b):=by unfold V7;rw[bOc (k:=k) h.1 (by grind[bTs,zM,dD,aL,bd_s,aA,gd_T,eO]) (by simp)];rfl
def aX6 (k:Int)(b:List Int)(h:aU b):Q8 k b=some (tZ k b):=by unfold Q8;rw[bOc (k:=k) h.1 (by grind[bTt,zM,dD,aL,bd_s,aA,gd_T,eO]) (by simp)];rfl
def Z8 (b:List Int)(n:Int)(h:b.length<=34359738300):Ah b n=some (Rn b n):=by
 unfold Ah Rn enc1;have e:(decide (n<0)||decide (n>1000000000000))= !bG n 0 1000000000000:=by
  grind[bG]
 rw[aA (by omega),bd_s,nK,bd_s,e]
 grind[bG,Bool.not_true,bOb,jK,decide,Int.tmod_eq_emod_of_nonneg,aJ,aWf,Int.tdiv_eq_ediv_of_nonneg,gd_T,eO]
def aLg:= @Pm
def aDm (b:AF)(h:b.sz<=34359738368):Dp b=some (zP b):=by
 unfold Dp zP;rw[aA h,bd_s];cases hb:aO b with
 |false=>rfl
 |true=>
  have hl:=yF hb;have hv:(Mj b).length=1+4*b.Entries.length:=by grind[Mj,Gh]
  rw[aj,aa,ae,jA (l:=b.Entries) (λs e=>s++bH7 e) (λi s=>s.length<=1+4*i) (λs=>some s) (by omega) (by simp) (by grind[bH7,List.length_append,List.length_cons,List.length_nil]) (λrec i s hi hv=>by
   have e:∀x y z w:Int,gd (aS s [x,y,z,w]) (rec (s++[x,y,z,w],i+1))=rec (s++[x,y,z,w],i+1):=(by grind[aA,aS,List.length_cons,List.length_nil]);simp only[dD hi,ae,aL hi,bd_s,Iq,Mi,e];rfl) (by simp),aHl,bd_s]
  grind[aA,zO,Mj,bd_s]
def bU0 (k:Int)(b:AF):(tZ k (zP b)).length<=34359738200:=by grind[Sz,Sy]
def aLh (k e v:Int)(b:AF)(h:b.sz<=34359738368):Oc k e v b=some (mE k e v b):=by unfold Oc mE Mk qH;simp only[aA h,bd_s,aA (show[(223:Int),e,v].length<=34359738300 by simp),aA (aWl b),aA (bU0 (aV k [223,e,v]) b)];cases bZ k<;>cases bG e 0 1000000<;>cases bG v 0 1000000<;>cases aO b<;>rfl
def aLi (k e v:Int)(b:AF)(h:b.sz<=34359738368):Na k e v b=some (mE k e v b):=by unfold Na mE Mk;simp only[aA h,bd_s,aA (aWl b),aA (bU0 (qH k e v) b)];cases bZ k<;>cases bG e 0 1000000<;>cases bG v 0 1000000<;>cases aO b<;>rfl
def Vh (a b:AK):Tz a b=some (sZ a b):=by unfold Tz sZ;cases decide (a.Epoch>b.Epoch)<;>cases(a.Epoch==b.Epoch)<;>rfl
def aP0:= @Vh
def bOd {d:AD}(h:d.sz<=34359738368):d.aAE.sz<=34359738368:=by grind[AD.sz,AF.sz]
def aHm (d:AD)(h:d.sz<=34359738368):Jf d=some (dC d):=by unfold Jf dC;simp only[aA h,aA (bOd h),bd_s];cases(mE d.Key d.Epoch (IntKind.i64.wrap (d.Version+1)) d.aAE).2<;>rfl
def aHn (d:AD)(h:d.sz<=34359738368):Hz d=some (dC d):=by unfold Hz dC;simp only[aA h,aA (bOd h),bd_s];cases(mE d.Key d.Epoch (IntKind.i64.wrap (d.Version+1)) d.aAE).2<;>rfl
def bQ8 (c:AR)(s:AK)(h:c.sz<=34359738300/\s.sz<=34359738300):(bd (gd (c.sz<=34359738368) (some c)) λa=>bd (gd (c.Log.length<=34359738368) (some (aQ c.Log))) λd=>bd (bif (s.Epoch !=d) then some true else(bif decide ((c.History.length:Int)>0) then(bd (aT c.History (IntKind.i64.wrap ((c.History.length:Int)-1))) λb=>bd (some (sZ s b)) λe=>bif !e then some true else some (decide ((c.History.length:Int)>=60))) else some (decide ((c.History.length:Int)>=60)))) λf=>bif f then some (a,false) else bd (gd (s.sz<=34359738368) (some s)) λb=>gd (aS a.History [b]) (some (AR.mk a.Log a.Boxes (a.History++[b]),true)))=some (bW c s):=by
 obtain⟨h1,h2⟩:=h;have i:=h1;simp only[AR.sz] at i;unfold bW;simp only[aA (show c.sz<=34359738368 by omega),aA (show c.Log.length<=34359738368 by omega),aA (show s.sz<=34359738368 by omega),bd_s,eO (show c.History.length<=34359738368 by omega)];by_cases h0:0<c.History.length
 ·have j:aT c.History (IntKind.i64.wrap ((c.History.length:Int)-1))=some (c.History.getD (c.History.length-1) default):=by rw[aJ (by omega) (by omega),oL (by omega) (by omega)];simp
  rw[au (show(c.History.length:Int)>0 by omega),j];generalize c.History.getD (c.History.length-1) default=x;simp only[bd_s,ae,cA];cases(s.Epoch !=aQ c.Log)<;>cases sZ s x<;>cases decide ((c.History.length:Int)>=60)<;>rfl
 simp[*]
def Ee (c:AR)(s:AK)(h:c.sz<=34359738300/\s.sz<=34359738300):aC2 c s=some (bW c s):=bQ8 c s h
def aDn:= @Ee
theorem bOe {w:AA}{d:Int}(a:w.sz<=10000000000)(h:((aH w d 0).2==0)=true):(aM (aH w d 0).1 d=true/\(aR (aH w d 0).1 d).sz<=34359738368)/\((aH w d 0).1.aAF.sz<=34359738300/\(dC (aR (aH w d 0).1 d)).2.1.sz<=34359738300):=by
 grind[AK.sz,AA.sz,AR.sz,Gi,aR,aH,Jo,Z7,aM,k4,k2,k1,k3,k5,lL]
def aLj (w:AA)(d:Int)(a:w.sz<=10000000000):Nk w d=some (eP w d):=by
 unfold Nk eP;have b:w.sz<=34359738368:=by omega
 simp only[aA (show w.sz<=34359738100 by omega),aA b,bd_s,bne];cases hs:((aH w d 0).2==0) with
 |false=>rfl
 |true=>obtain⟨⟨k1,k2⟩,k3⟩:=bOe a hs;generalize(aH w d 0).1=x at*;simp only[aj,aa,mM k1,bd_s,aA k2,aA k3,nK];unfold K9;cases(dC (aR x d)).2.2<;>cases(bW x.aAF (dC (aR x d)).2.1).2<;>rfl
def aLk (w:AA)(d:Int)(a:w.sz<=10000000000):Od w d=some (eP w d):=by
 unfold Od eP
 grind[aH,k1,k2,k3,bOe,Bool.not_true,mM,bd_s,aA,K9,dC,aR,bW,bne]
def Pn (s n:Int):aKp s n=some (aN s n):=by rfl
def aLl:= @Pn
def Vi (s:AJ):aO5 s=some (bQ s):=rfl
def aP1:= @Vi
def Jp (s:AJ)(n:ByteArray)(k:Int)(h:n.size<=34359738300):Ht s n k=some (eU s n k):=by unfold Ht;rw[aA h,bd_s,aA (by simp)];rfl
def aHo:= @Jp
def Po (s:AJ)(n:ByteArray)(k:Int)(h:n.size<=34359738300):Mv s n k=some (eQ s n k):=by unfold Mv;rw[aA h];rfl
def aLm:= @Po
def aDo (s:AJ)(l:List Int)(h:l.length<=34359738300):Cu s l=some (mW s l):=by unfold Cu;rw[aA h];rfl
def aDp (s:AJ)(l:List Int)(h:l.length<=34359738300):Dl s l=some (mW s l):=by unfold Dl;rw[aA (by simp),bd_s,aA h];rfl
def Pp (e:AP)(d:Int)(h:e.Boxes.length<=34359738368):Mt e d=some (qY e d):=by unfold Mt;rw[jA (l:=e.Boxes) (λn b=>bif b.To==d then IntKind.i64.wrap (n+1) else n) (λ_ _=>True) (λs=>some s) (by omega) trivial (by simp) (by grind[dD,aL,bd_s]) (by simp)];rfl
def aLn:= @Pp
def aHp (l:List AG)(k d:Int)(s:AJ)(h:l.length<=34359738300):Hl l k d s=some (dP l k d s):=by
 have h1:l.length<=34359738368:=by omega
 have e:∀x:AG,gd ((l++[x]).length<=34359738368) (some (bD (l++[x])))=some (bD (l++[x])):=(by grind[aA]);have a:∀x:Int,gd ([x].length<=34359738300) (some (mW s [x]))=some (mW s [x]):=λx=>aA (by simp);unfold Hl dP bK1 bH9;simp only[aA h1,bd_s,a,eO h1,e];generalize bD (l++_)=q;cases decide ((l.length:Int)>0)<;>cases bD l<;>cases q<;>rfl
def aHq (l:List AG)(k d:Int)(s:AJ)(h:l.length<=34359738300):Jc l k d s=some (dP l k d s):=by
 have h1:l.length<=34359738368:=by omega
 have e:∀x:AG,gd ((l++[x]).length<=34359738368) (some (bD (l++[x])))=some (bD (l++[x])):=(by grind[aA]);have a:∀x:Int,gd ([x].length<=34359738300) (some (mW s [x]))=some (mW s [x]):=λx=>aA (by simp);unfold Jc dP bK1 bH9;simp only[aA h1,bd_s,a,eO h1,e];generalize bD (l++_)=q;cases decide ((l.length:Int)>0)<;>cases bD l<;>cases q<;>rfl
def bL1 (p e:Int)(d:List Int)(h:aU d):(bd (bif iJ p==0 then some true else bif !bZ e then some true else some (decide ((d.length:Int)>200))) λb=>bif b then some (AQ.mk 0 0 [] 0,false) else bd (gd (aU d) (some (tZ (mO (iJ p) e) d))) λa=>bd (gd (a.length<=34359738200) (some (aSs (mO (iJ p) e) (AQ.mk p e a 0)))) λc=>some (AQ.mk p e a c,true))=some (fQ p e d):=by
 grind[iJ,bZ,decide,Bool.or_eq_false_iff,decide_eq_false_iff_not,aA,bd_s,tZ,mO,Sz,nK,fQ,zQ]
def Z9 (p e:Int)(d:List Int)(h:aU d):aXf p e d=some (fQ p e d):=bL1 p e d h
def aX7:= @Z9
def Vj (l:List Int)(e:Int)(d:List Int)(h:l.length<=34359738300/\aU d):Tv l e d=some (fT e d 0 l):=by
 obtain⟨h1,h2⟩:=h;unfold Tv;rw[bCy (e:=e) (d:=d) (l:=l) (x:=(([],false):List AQ×Bool)) (by grind[dD,aL,bd_s,aA,eO]) (by simp) l.length 0 FUEL [] (by omega) (by grind[fM]) (by simp),jl];cases hs:(fT e d 0 l).2 with
 |true=>rw[ae,nx_r,bo,<-hs]
 |false=>rw[aa,bTx hs];rfl
def aP2:= @Vj
def bOf (a b:Int):aU (mV [a,b]):=aWj (by grind[bIb]) (aWk _)
def G9 (l:List AG)(k e:Int)(h:l.length<=34359738300):wM l k e=some (bH l k e):=by have hd:=gG l;unfold wM bH;simp only[aA (show l.length<=34359738368 by omega),bd_s,aA (show[aQ l,k].length<=5000000000 by simp),aA (show(aG l).length<=34359738300/\aU (mV [aQ l,k]) from⟨by omega,bOf _ _⟩)];cases bD l<;>cases bZ k<;>cases(fT e (mV [aQ l,k]) 0 (aG l)).2<;>rfl
def H5 (l:List AG)(k e:Int)(h:l.length<=34359738300):xB l k e=some (bH l k e):=by have hd:=gG l;unfold xB bH;simp only[aA (show l.length<=34359738368 by omega),bd_s,aA (show[aQ l,k].length<=5000000000 by simp),aA (show(aG l).length<=34359738300/\aU (mV [aQ l,k]) from⟨by omega,bOf _ _⟩)];cases bD l<;>cases bZ k<;>cases(fT e (mV [aQ l,k]) 0 (aG l)).2<;>rfl
def bOg (e:AP)(l:List Int):(l.all λd=>qY e d==1)= !(l.any λd=>qY e d !=1):=by
 grind
def aP3 (e:AP)(l:List AG)(h:e.Boxes.length<=34359738368/\l.length<=34359738368):Tw e l=some (gY e l):=by obtain⟨h1,h2⟩:=h;have hd:=gG l;unfold Tw gY;rw[aA h2,bd_s,mJ (l:=aG l) (λd=>qY e d !=1) (.inl false) (.inr PUnit.unit) (by omega) (by grind[dD,aL,bd_s,aA]) (by simp),bOg];simp only[aA h2,bd_s];cases(aG l).any (λd=>qY e d !=1)<;>cases(e.Epoch==aQ l)<;>cases((e.Boxes.length:Int)==((aG l).length:Int))<;>rfl
def aP4 (e:AP)(l:List AG)(h:e.Boxes.length<=34359738368/\l.length<=34359738368):Uo e l=some (gY e l):=by obtain⟨h1,h2⟩:=h;have hd:=gG l;unfold Uo gY;rw[aA h2,bd_s,aA h2,bd_s,mJ (l:=aG l) (λd=>qY e d !=1) (.inl false) (.inr PUnit.unit) (by omega) (by grind[dD,aL,bd_s,aA]) (by simp),bOg];simp only[bne];cases(aG l).any (λd=> !(qY e d==1))<;>cases(e.Epoch==aQ l)<;>cases((e.Boxes.length:Int)==((aG l).length:Int))<;>rfl
def cBk {e:AP}(h:e.sz<=34359738368):e.Boxes.length<=34359738368:=by grind[AP.sz]
def Vk (c:AR)(l:List AG)(e:AP)(h:c.sz<=34359738368/\l.length<=34359738368/\e.sz<=34359738368):Uc c l e=some (kS c l e):=by obtain⟨h1,h2,a⟩:=h;unfold Uc kS;simp only[aA h1,aA h2,aA a,bd_s,aA (show e.Boxes.length<=34359738368/\l.length<=34359738368 from⟨cBk a,h2⟩)];cases bD l<;>cases dR l c.Log<;>cases gY e l<;>rfl
def aP5:= @Vk
def Jq (s:AB)(i:Int)(h:s.Accounts.length<=34359738368):Hu s i=some (aI s i):=by unfold Hu;exact M9 (l:=s.Accounts) (λa=>a.Id==i) (by omega) (by grind[dD,aL,bd_s]) (by simp)
def aHr:= @Jq
def bYk {l:List AZ}{h p:Int}(a:l.length<=34359738300){β:Type}(k:List AZ->Option β):gd (gH l ((aGt h l:Nat):Int)) (gd (gH l ((aGt h l:Nat):Int)) (gd (aS [] (List.take (aGt h l) l)) (gd (aS ([]++List.take (aGt h l) l) [AZ.mk h p 0 false]) (gd (aS ([]++List.take (aGt h l) l++[AZ.mk h p 0 false]) (List.drop (aGt h l) l)) (k ([]++List.take (aGt h l) l++[AZ.mk h p 0 false]++List.drop (aGt h l) l))))))=k (aOs l h p):=by have hk:aGt h l<=l.length:=O5;have h1:gH l ((aGt h l:Nat):Int):=⟨by omega,by omega⟩;rw[aA h1,aA h1,aA (by grind[aS]),aA (by grind[aS]),aA (by grind[aS])];rfl
def bOh {l:List AZ}{h:Int}(a:l.length<=34359738300):EV.bI (α:=Int) FUEL (λrec (i:Int)=>bd (bif decide (i<(l.length:Int)) then(bd (aT l i) λz=>some (decide (z.Handle<h))) else some false) λz=>bif z then rec (IntKind.i64.wrap (i+1)) else some i) 0=some ((aGt h l:Nat):Int):=by have:=aOt (l:=l) (λc=>decide (c.Handle<h)) (λi=>some (i:Int)) (λi=>(i:Int)) (F:=λrec (i:Int)=>bd (bif decide (i<(l.length:Int)) then(bd (aT l i) λz=>some (decide (z.Handle<h))) else some false) λz=>bif z then rec (IntKind.i64.wrap (i+1)) else some i) (by omega) (by grind[dD,aL,bd_s,aJ]) (by simp);exact this
def bYl {a:AI}(b:a.sz<=34359738300)(h p:Int):(AI.mk a.Id a.Minimum (aOs a.Credentials h p)).sz<=34359738368:=by
 grind[AI.sz,bIc]
def aAa (a:AI)(h p:Int)(b:a.sz<=34359738300):zU a h p=some (gZ a h p):=by
 have h1:a.sz<=34359738368:=by omega
 have hc:a.Credentials.length<=34359738300:=b;unfold zU gZ;rw[aA h1,bd_s,bOh hc];simp only[aA h1,bd_s,bw];rw[bYk hc (λL=>bd (bif !bC a then some true else(bd (gd ((AI.mk a.Id a.Minimum L).sz<=34359738368) (some (bC (AI.mk a.Id a.Minimum L)))) λc=>some (!c))) λd=>bif d then some (a,false) else some (AI.mk a.Id a.Minimum L,true))];simp only[bd_s,aA (bYl b h p)];cases bC a<;>cases bC {a with Credentials:=aOs a.Credentials h p}<;>rfl
def aAb (a:AI)(h p:Int)(b:a.sz<=34359738300):Ai a h p=some (gZ a h p):=by
 have h1:a.sz<=34359738368:=by omega
 have hc:a.Credentials.length<=34359738300:=b;unfold Ai gZ;rw[aA h1,bd_s,bOh hc];simp only[aA h1,bd_s,bw];rw[bYk hc (λL=>bd (gd ((AI.mk a.Id a.Minimum L).sz<=34359738368) (some (bC (AI.mk a.Id a.Minimum L)))) λc=>bif (!c) then some (a,false) else some (AI.mk a.Id a.Minimum L,true))];simp only[bd_s,aA (bYl b h p)];cases bC a<;>cases bC {a with Credentials:=aOs a.Credentials h p}<;>rfl
def bL2 {a:AI}{h p:Int}(hn:(gZ a h p).2=false):(gZ a h p).1=a:=by
 grind[bC,aOs,gZ]
def aHs (s:AB)(i h p:Int)(a:s.sz<=34359738300):Hw s i h p=some (fC s i h p):=by
 have h1:s.sz<=34359738368:=by omega
 have hl:s.Accounts.length<=34359738368:=by grind[AB.sz]
 unfold Hw fC;simp only[aA h1,aA hl,bd_s];rw[nK,bd_s];cases hc:(!cZ s||decide (aI s i<0)) with
 |true=>rfl
 |false=>
  rw[bp] at hc;obtain⟨b,c,d⟩:=bK6 a hc.2;simp only[aa,b,bd_s,aA c];cases e:(gZ (s.Accounts.getD (aI s i).toNat default) h p).2 with
  |true=>rfl
  |false=>simp_all[bL2,aV9]
def aHt (s:AB)(i h p:Int)(a:s.sz<=34359738300):Jd s i h p=some (fC s i h p):=by
 grind[cZ,decide,aI,Bool.or_eq_false_iff,bK6,bd_s,aA,gZ,default,nK,Jd,fC,AB.sz]
def Gj (i:Int):(aB i).size<=34359738300:=by unfold aB;cases i==0<;>cases i==1<;>decide
def aLo (d:AD)(h:Int)(rm:Bool)(c:d.sz<=34359738300):Nl d h rm=some (nI d h rm):=by have h1:=Sw d (aB 0) h rm;unfold Nl nI;rw[aA ⟨by omega,Gj 0⟩,bd_s,show FUEL=FUEL-2+1+1 from by have:=fM;omega];have e:∀{β:Type} (k:Option β),gd ((bN d (aB 0) h rm).1.sz<=34359738360/\(aB 1).size<=34359738300) k=k:=λk=>aA ⟨by omega,Gj 1⟩;show(bd (bd (gd ((bN d (aB 0) h rm).1.sz<=34359738360/\(aB 1).size<=34359738300) (some (bN (bN d (aB 0) h rm).1 (aB 1) h rm))) λa=>some (a.1.Store.Vendor,a.1.Store.Serial,a.1.Store.Seed,a.1.Store.Counter,a.1.Log,a.1.Key,a.1.Epoch,a.1.Version,a.1.aAE.Entries)) λb=>some (AD.mk (AJ.mk b.1 b.2.1 b.2.2.1 b.2.2.2.1) b.2.2.2.2.1 b.2.2.2.2.2.1 b.2.2.2.2.2.2.1 b.2.2.2.2.2.2.2.1 (AF.mk b.2.2.2.2.2.2.2.2)))=_;rw[e,bd_s,bd_s]
def bFp {w:AA}{d:Int}(a:aK w=true)(hd:aM w d=true):aT w.Stolen d=some (bR w d):=by
 grind[bR,List.getD,List.getElem?_eq_getElem,jP,aM,aK]
def aUw {p r:List AB}{s:AB}:aT (p++s::r) ((p.length:Nat):Int)=some s:=by simp[aL]
theorem aLp {p r:List AB}{s y:AB}:(p++s::r).set (Int.toNat ((p.length:Nat):Int)) y=p++y::r:=by simp
def bOi {c:List AD}{d:AD}{b n:Int}{rm:Bool}(hb:0<=b)(hi:b.toNat<c.length)(hd:c[b.toNat]=d)(k:d.sz<=34359738300):EV.bI (α:=List AD) FUEL (λrec (i:Nat×List AD)=>bif decide ((i.1:Int)<2) then(bd (aT i.2 b) λa=>bd (gd (a.sz<=34359738360/\(aB (i.1:Int)).size<=34359738300) (some (bN a (aB (i.1:Int)) n rm))) λe=>bd (aT i.2 b) λf=>rec (i.1+1,i.2.set b.toNat e.1)) else some i.2) (0,c)=some (c.set b.toNat (nI d n rm)):=by
 have h1:=Sw d (aB 0) n rm;have h:aT c b=some d:=by rw[jP hb (by omega),hd]
 have j:aT (c.set b.toNat (bN d (aB 0) n rm).1) b=some (bN d (aB 0) n rm).1:=by grind[jP]
 rw[show FUEL=FUEL-3+1+1+1 from by have:=fM;omega,iD];show(bd (aT c b) λa=>bd (gd (a.sz<=34359738360/\(aB 0).size<=34359738300) (some (bN a (aB 0) n rm))) λe=>bd (aT c b) λf=>EV.bI (FUEL-3+1+1) _ (1,c.set b.toNat e.1))=_;rw[h,bd_s,aA ⟨by omega,Gj 0⟩,bd_s,bd_s,iD];show(bd (aT (c.set b.toNat (bN d (aB 0) n rm).1) b) λa=>bd (gd (a.sz<=34359738360/\(aB 1).size<=34359738300) (some (bN a (aB 1) n rm))) λe=>bd (aT (c.set b.toNat (bN d (aB 0) n rm).1) b) λf=>EV.bI (FUEL-3+1) _ (2,(c.set b.toNat (bN d (aB 0) n rm).1).set b.toNat e.1))=_;rw[j,bd_s,aA ⟨by omega,Gj 1⟩,bd_s,bd_s,iD,fk];rfl
theorem bL3 {w:AA}{b:Int}(a:w.sz<=100000000)(h1:aK w=true)(hs:((aH w b 0).2==0)=true):((aM (aH w b 0).1 b=true/\(aH w b 0).1.Sites.length=2)/\(aH w b 0).1.sz<=300000000)/\(aH w b 0).1.aAF.Log.length<=100000000:=by
 grind[aK,aH,aM,k4,k2,k3,AA.sz,AR.sz,k1,k5,lL]
def bDo {L:List AU}(a:30<L.length)(b:L.length<=34359738301):gd (gH L ((zR L:Nat):Int)) (gd (gH L (IntKind.i64.wrap (((zR L:Nat):Int)+1))) (gd (aS [] (List.take (Int.toNat ((zR L:Nat):Int)) L)) (gd (aS ([]++List.take (Int.toNat ((zR L:Nat):Int)) L) (List.drop (Int.toNat (IntKind.i64.wrap (((zR L:Nat):Int)+1))) L)) (some ([]++List.take (Int.toNat ((zR L:Nat):Int)) L++List.drop (Int.toNat (IntKind.i64.wrap (((zR L:Nat):Int)+1))) L)))))=some (Ta L):=by
 have hs:=bIf (l:=L) (by omega);have e:IntKind.i64.wrap (((zR L:Nat):Int)+1)=((zR L+1:Nat):Int):=by grind[aJ]
 rw[e,aA ⟨by omega,by omega⟩,aA ⟨by omega,by omega⟩,aA (by grind[aS]),aA (by grind[aS]),bw,bw]
 grind[decide_eq_true,Ta]
def bOj (l:List AU)(x:AU)(h:l.length<=34359738300):(AV.mk (Ta (l++[x]))).sz<=34359738368:=by
 grind[AV.sz,List.length_append,List.length_singleton,bCt]
theorem bJd {L:List AU}(h:¬30<L.length):Ta L=L:=by
 grind[decide_eq_false,Ta]
def aLq (m:AV)(k a t:Int)(c:m.sz<=34359738300):Nt m k a t=some (qK m k a t):=by
 have h1:m.sz<=34359738368:=by omega
 have hm:m.Notices.length<=34359738300:=c;have d:(m.Notices++[(⟨k,a,t,false⟩:AU)]).length=m.Notices.length+1:=by simp
 have hn:=bOj m.Notices ⟨k,a,t,false⟩ hm;unfold Nt qK;simp only[aA h1,bd_s,eO (show m.Notices.length<=34359738368 by omega)];generalize hg:m.Notices++[(⟨k,a,t,false⟩:AU)]=L at*;by_cases b:30<L.length
 ·rw[au (show(L.length:Int)>30 by omega),bW9 (l:=L) (λi=>some i) (λi=>((0:Int),i)) (by omega) (by grind[dD,aL,bd_s]) (by simp),ae,bd_s,bDo b (by omega),bd_s,aA hn,bd_s];cases fB m<;>cases fB ⟨Ta L⟩<;>rfl
 grind[decide_eq_false,bd_s,bJd,aA,fB]
def aLr (m:AV)(k a t:Int)(d:m.sz<=34359738300):Ni m k a t=some (qK m k a t):=by
 have h1:m.sz<=34359738368:=by omega
 have hm:m.Notices.length<=34359738300:=d;have j:(m.Notices++[(⟨k,a,t,false⟩:AU)]).length=m.Notices.length+1:=by simp
 have hn:=bOj m.Notices ⟨k,a,t,false⟩ hm;unfold Ni qK;rw[aA (by unfold aS;simp;omega),bo,eO (show m.Notices.length<=34359738368 by omega)];simp only[aA h1,bd_s];generalize hg:m.Notices++[(⟨k,a,t,false⟩:AU)]=L at*;by_cases c:30<L.length
 ·have e:=bCz (l:=L) (F:=λrec (b:Int×Int)=>bif (decide (b.2>=(0:Int))) then(bd (bd (aT L (b.2)) λf=>bif (f.Seen) then(some (b.2)) else(some (b.1))) λh=>rec ((h,IntKind.i64.wrap (b.2-(1:Int))))) else(some (b.1))) (λrec q i hi=>by
   simp only[au (show((i:Int)>=0) by omega),ae,aL hi,bd_s,Mi,aJ (show(-9223372036854775808:Int)<=(i:Int)-1 by omega) (show(i:Int)-1<=9223372036854775807 by omega)]) (λrec q=>rfl) L.length FUEL 0 (ak _) (by have:=fM;omega)
  rw[cG] at e;rw[au (show(L.length:Int)>30 by omega),ae,aJ (by omega) (by omega),e,<-bIe,bd_s,bDo c (by omega),bd_s,aA hn,bd_s];cases fB m<;>cases fB ⟨Ta L⟩<;>rfl
 ·rw[ay (show ¬(L.length:Int)>30 by omega),aa,bd_s];rw[bJd c] at hn ⊢;rw[aA hn,bd_s];cases fB m<;>cases fB ⟨L⟩<;>rfl
def bJe {τ:Type}{x:τ}{st:AJ}{n:Int}{N:Nat}{F:(Nat×List AB->Option (τ⊕List AB))->Nat×List AB->Option (τ⊕List AB)}
  (a:∀rec (p:List AB) (s:AB) (r:List AB),p.length+r.length+1=N->s.sz<=34359738300->F rec (p.length,p++s::r)=bif !(fC s 1 n (eQ st (aB (p.length:Int)) n)).2 then some (.inl x) else rec (p.length+1,p++(fC s 1 n (eQ st (aB (p.length:Int)) n)).1::r)) (b:∀rec S,F rec (N,S)=some (.inr S)):
  ∀(r p:List AB) (m:Nat),p.length+r.length=N->r.length<m->(∀s∈r,s.sz<=34359738300)->EV.bI m F (p.length,p++r)=some (bif (gW st n p.length r).2 then .inr (p++(gW st n p.length r).1) else .inl x)
 |[],p,m+1,h,_,_=>by
  simp only[bc,dz] at h;rw[iD,h,b];simp[gW]
 |s::r,p,m+1,h,hm,hs=>by
  simp only[aq] at h hm;rw[iD,a _ p s r (by omega) (hs s (by simp)),gW];cases hr:(fC s 1 n (eQ st (aB (p.length:Int)) n)).2 with
  |false=>rfl
  |true=>have:=bJe a b r (p++[(fC s 1 n (eQ st (aB (p.length:Int)) n)).1]) m (by simp;omega) (by omega) (λy c=>hs y (by simp[c]));simp only[ax,ck,cw,cI,bo] at this;rw[aj,aa,this];cases(gW st n (p.length+1) r).2<;>rfl
def bDp {τ:Type}{x:τ}{st:AJ}{n:Int}{N:Nat}{l:List AB}(d:l.length=N)(a:N<=100)(hs:∀s∈l,s.sz<=34359738300){F:(Nat×List AB->Option (τ⊕List AB))->Nat×List AB->Option (τ⊕List AB)}
  (b:∀rec (p:List AB) (s:AB) (r:List AB),p.length+r.length+1=N->s.sz<=34359738300->F rec (p.length,p++s::r)=bif !(fC s 1 n (eQ st (aB (p.length:Int)) n)).2 then some (.inl x) else rec (p.length+1,p++(fC s 1 n (eQ st (aB (p.length:Int)) n)).1::r)) (c:∀rec S,F rec (N,S)=some (.inr S)):EV.bI FUEL F (0,l)=some (bif (gW st n 0 l).2 then .inr (gW st n 0 l).1 else .inl x):=by
 have:=bJe b c l [] FUEL (by simp;omega) (by have:=fM;omega) hs;assumption
def Pq (w:AA)(b:Int):AA×Bool:=bif (add1 w b).2&&((aJ7 w b).2&&((lY w b).2&&(Bw w b).2==0)) then(O4 (Bw w b).1 2,true) else(w,false)
def bDq {w:AA}{b:Int}(h1:aK w=true)(h2:aM w b=true)(a:bR w b=false)(c:decide ((w.Devices.length:Int)>=6)=false)(d:((aH w b 0).2==0)=true):fP w b=Pq w b:=by
 grind[fP,Zc,Pq]
theorem yK {w:AA}{b:Int}(h:(add1 w b).2=false):Pq w b=(w,false):=by grind[Pq]
theorem uJ {w:AA}{b:Int}(h:(aJ7 w b).2=false\/(lY w b).2=false\/((Bw w b).2==0)=false):Pq w b=(w,false):=by unfold Pq;rcases h with h|h|h<;>rw[h]<;>simp
def aSb {w:AA}{b:Int}(h1:(add1 w b).2=true)(h2:(aJ7 w b).2=true)(a:(lY w b).2=true)(c:((Bw w b).2==0)=true):Pq w b=(O4 (Bw w b).1 2,true):=by
 grind[Pq]
def bOk {w:AA}{b:Int}(c:w.sz<=100000000)(h0:((aH w b 0).2==0)=true)(a:(lY w b).2=true):(appW (lY w b).1 (bQ (aN w.Seed (w.Devices.length:Int)))).sz<=34359738100/\((Bw w b).2==0->(Bw w b).1.Mail.sz<=34359738300):=by
 obtain⟨d,e⟩:=bNp h0 a;have f:(bQ (aN w.Seed (w.Devices.length:Int))).sz=0:=rfl
 grind[Bw,AV.sz,AA.sz,aH,appW,lY,bQ,aN,aJ8,lL]
theorem uK {w:AA}{b:Int}(h:(aK w&&(aM w b&&(!bR w b&& !decide ((w.Devices.length:Int)>=6))))=false\/((aH w b 0).2==0)=false):fP w b=(w,false):=by
 grind[fP,Zc]
def aDq (w:AA)(b:Int)(k:w.sz<=100000000):Dq w b=some (fP w b):=by
 have h:w.sz<=34359738368:=by omega
 unfold Dq;rw[aA h,bd_s];cases h1:aK w with
 |false=>grind[Bool.not_false,bd_s,aA,uK]
 |true=>
 cases h2:aM w b with
 |false=>grind[Bool.not_false,Bool.not_true,bd_s,aA,uK]
 |true=>
 rw[bFp h1 h2];cases D:bR w b with
 |true=>grind[Bool.not_true,bd_s,aA,uK]
 |false=>
 cases F:decide ((w.Devices.length:Int)>=6) with
 |true=>grind[Bool.not_true,bd_s,aA,uK]
 |false=>
 simp only[aj,aa,bd_s,aA (show w.sz<=34359738100 by omega),bne];cases hs:((aH w b 0).2==0) with
 |false=>grind[Bool.not_false,bd_s,aA,uK]
 |true=>
 rw[bDq h1 h2 D F hs];obtain⟨⟨⟨m,K⟩,L⟩,M⟩:=bL3 k h1 hs;have o:AJ.mk (1:Int) (w.Devices.length:Int) (aV w.Seed [277,(w.Devices.length:Int)]) 0=aN w.Seed (w.Devices.length:Int):=rfl;simp only[o,mM m,bd_s,aA (show(aH w b 0).1.aAF.Log.length<=34359738300 by omega),aA h,aj,aa];have q:=lX (aH w b 0).1.aAF.Log 1 (aZ (aN w.Seed (w.Devices.length:Int))) (aR (aH w b 0).1 b).Store;obtain⟨l,hl⟩:∃l,l=dP (aH w b 0).1.aAF.Log 1 (aZ (aN w.Seed (w.Devices.length:Int))) (aR (aH w b 0).1 b).Store:=⟨_,rfl⟩;obtain⟨e,he⟩:∃e,e=bH l.1 (aR (aH w b 0).1 b).Key (IntKind.i64.wrap (1000+IntKind.i64.wrap (10*(l.1.length:Int)))):=⟨_,rfl⟩;obtain⟨c,i⟩:∃c,c=kS (aH w b 0).1.aAF l.1 e.1:=⟨_,rfl⟩;have O:add1 w b=bif l.2&&(e.2&&c.2) then({(aH w b 0).1 with aAF:=c.1},true) else((aH w b 0).1,false):=by rw[i,he,hl];rfl
 rw[<-hl] at q ⊢;have t:=yH l.1 (aR (aH w b 0).1 b).Key (IntKind.i64.wrap (1000+IntKind.i64.wrap (10*(l.1.length:Int))));rw[<-he] at t;have G:=Jo (aH w b 0).1;cases Q:l.2 with
 |false=>grind[yK]
 |true=>
 rw[aj,aa,aA (by omega),bd_s,<-he];cases R:e.2 with
 |false=>grind[yK]
 |true=>
 rw[aj,aa,aA (by omega),bd_s,<-i];cases S:c.2 with
 |false=>grind[yK]
 |true=>
 have f:add1 w b=({(aH w b 0).1 with aAF:=c.1},true):=by simp_all
 have u:aJ7 w b=gW (aN w.Seed (w.Devices.length:Int)) (w.Devices.length:Int) 0 (aH w b 0).1.Sites:=by unfold aJ7;rw[f]
 have v:∀s∈(aH w b 0).1.Sites,s.sz<=34359738300:=(by grind[aGm,AB.sz,AA.sz]);rw[aj,aa,bDp (x:=((w,false):AA×Bool)) (st:=aN w.Seed (w.Devices.length:Int)) (n:=(w.Devices.length:Int)) (l:=(aH w b 0).1.Sites) (N:=(aH w b 0).1.Sites.length) rfl (by omega) v (λrec p s r hp k=>by
  simp only[dD (show p.length<(aH w b 0).1.Sites.length by omega),ae,aUw,bd_s,aA (Gj (p.length:Int)),aA k,aLp]) (by simp)]
 cases A:(gW (aN w.Seed (w.Devices.length:Int)) (w.Devices.length:Int) 0 (aH w b 0).1.Sites).2 with
 |false=>rw[uJ (.inl (by rw[u,A]))];rfl
 |true=>
 obtain⟨k1,k2,k3,k4⟩:=Z7 m;have hg:=m;simp only[aM,ac,cn] at hg;have H:AA.mk (aH w b 0).1.Now (aH w b 0).1.Seed ((aH w b 0).1.Devices.set b.toNat (nI (aR (aH w b 0).1 b) (w.Devices.length:Int) false)) (aH w b 0).1.Stolen c.1 (gW (aN w.Seed (w.Devices.length:Int)) (w.Devices.length:Int) 0 (aH w b 0).1.Sites).1 (aH w b 0).1.aAO (aH w b 0).1.Hosts (aH w b 0).1.Pin (aH w b 0).1.Mail=iE w b:=by unfold iE;rw[u,f];rfl
 obtain⟨⟨T,V⟩,W,X⟩:=aWm hs;rw[ae,nx_r,bOi (d:=aR (aH w b 0).1 b) hg.1 k2 (by simp[*]) (by omega),bd_s,H,aA (by omega),bd_s,show eP (iE w b) b=lY w b from rfl];cases y:(lY w b).2 with
 |false=>grind[uJ]
 |true=>
 obtain⟨Z,y2⟩:=bNp hs y;obtain⟨I,J⟩:=bOk k hs y;have y0:(lY w b).1.sz<=34359738368:=by omega
 have B:(lY w b).1.Devices.length<=34359738368/\(lY w b).1.Stolen.length<=34359738368:=by grind[AA.sz]
 rw[aj,aa,eO B.1,eO B.2];show(bd (gd ((appW (lY w b).1 (bQ (aN w.Seed (w.Devices.length:Int)))).sz<=34359738100) (some (Bw w b))) λa=>bif !(a.2==0) then some (w,false) else bd (gd (a.1.Mail.sz<=34359738300) (some (qK a.1.Mail 2 1 a.1.Now))) λz=>some (AA.mk a.1.Now a.1.Seed a.1.Devices a.1.Stolen a.1.aAF a.1.Sites a.1.aAO a.1.Hosts a.1.Pin z.1,true))=_;rw[aA I,bd_s];cases j:((Bw w b).2==0) with
 |false=>grind[uJ]
 |true=>rw[aSb (by rw[f]) (by rw[u,A]) y j,aj,aa,aA (J j),bd_s];rfl
def bXn {w:AA}{d:Int}(h:(eP w d).2=false):(eP w d).1=w:=by
 grind[aH,K9,eP]
def aDr (w:AA)(b:Int)(k:w.sz<=100000000):De w b=some (fP w b):=by
 have t:w.sz<=34359738368:=by omega
 unfold De;simp only[bd_s,aA (show w.sz<=34359738100 by omega),aA t,bne];cases hs:((aH w b 0).2==0) with
 |false=>rw[uK (.inr hs)];rfl
 |true=>
 obtain⟨⟨h1,h2⟩,_⟩:=lL hs;rw[bFp h1 h2];cases u:bR w b with
 |true=>rw[uK (.inl (by rw[h1,h2,u];rfl))];rfl
 |false=>
 cases v:decide ((w.Devices.length:Int)>=6) with
 |true=>rw[uK (.inl (by rw[h1,h2,u,v];rfl))];rfl
 |false=>
 simp only[aj,aa,bd_s];rw[bDq h1 h2 u v hs];have O:w.Devices.length<6:=by have:=of_decide_eq_false v;omega
 obtain⟨⟨⟨y,Q⟩,J⟩,g4⟩:=bL3 k h1 hs;have z:AJ.mk (1:Int) (w.Devices.length:Int) (aV w.Seed [277,(w.Devices.length:Int)]) 0=aN w.Seed (w.Devices.length:Int):=rfl;simp only[z,mM y,bd_s,aA (show(aH w b 0).1.aAF.Log.length<=34359738300 by omega)];have A:=lX (aH w b 0).1.aAF.Log 1 (aZ (aN w.Seed (w.Devices.length:Int))) (aR (aH w b 0).1 b).Store;obtain⟨l,hl⟩:∃l,l=dP (aH w b 0).1.aAF.Log 1 (aZ (aN w.Seed (w.Devices.length:Int))) (aR (aH w b 0).1 b).Store:=⟨_,rfl⟩;obtain⟨e,he⟩:∃e,e=bH l.1 (aR (aH w b 0).1 b).Key (IntKind.i64.wrap (1000+IntKind.i64.wrap (10*(l.1.length:Int)))):=⟨_,rfl⟩;obtain⟨c,j⟩:∃c,c=kS (aH w b 0).1.aAF l.1 e.1:=⟨_,rfl⟩;have m:add1 w b=bif l.2&&(e.2&&c.2) then({(aH w b 0).1 with aAF:=c.1},true) else((aH w b 0).1,false):=by rw[j,he,hl];rfl
 rw[<-hl] at A ⊢;have B:=yH l.1 (aR (aH w b 0).1 b).Key (IntKind.i64.wrap (1000+IntKind.i64.wrap (10*(l.1.length:Int))));rw[aA (show l.1.length<=34359738300 by omega),bd_s];rw[<-he] at B ⊢;have R:=Jo (aH w b 0).1;rw[aA (show(aH w b 0).1.aAF.sz<=34359738368/\l.1.length<=34359738368/\e.1.sz<=34359738368 from⟨by omega,by omega,by omega⟩),bd_s,<-j];cases o:l.2 with
 |false=>rw[yK (by rw[m,o];rfl)];rfl
 |true=>
 cases D:e.2 with
 |false=>rw[yK (by rw[m,o,D];rfl)];rfl
 |true=>
 cases K:c.2 with
 |false=>rw[yK (by rw[m,o,D,K];rfl)];rfl
 |true=>
 have f:add1 w b=({(aH w b 0).1 with aAF:=c.1},true):=by rw[m,o,D,K];rfl
 have F:aJ7 w b=gW (aN w.Seed (w.Devices.length:Int)) (w.Devices.length:Int) 0 (aH w b 0).1.Sites:=by unfold aJ7;rw[f]
 have G:∀s∈(aH w b 0).1.Sites,s.sz<=34359738300:=λs hs=>by
  have h1:=aGm (g:=AB.sz) hs;simp only[AA.sz] at J;omega
 simp only[aj,aa,bd_s];rw[bDp (x:=((w,false):AA×Bool)) (st:=aN w.Seed (w.Devices.length:Int)) (n:=(w.Devices.length:Int)) (l:=(aH w b 0).1.Sites) (N:=2) Q (by omega) G (λrec p s r hp k=>by
  simp only[au (show((p.length:Nat):Int)<2 by omega),ae,aUw,bd_s,aA (Gj (p.length:Int)),aA k,aLp]) (λrec S=>rfl)]
 cases L:(gW (aN w.Seed (w.Devices.length:Int)) (w.Devices.length:Int) 0 (aH w b 0).1.Sites).2 with
 |false=>rw[uJ (.inl (by rw[F,L]))];rfl
 |true=>
 obtain⟨k1,k2,k3,k4⟩:=Z7 y;have hg:=y;simp only[aM,ac,cn] at hg;have T:AA.mk (aH w b 0).1.Now (aH w b 0).1.Seed ((aH w b 0).1.Devices.set b.toNat (nI (aR (aH w b 0).1 b) (w.Devices.length:Int) false)) (aH w b 0).1.Stolen c.1 (gW (aN w.Seed (w.Devices.length:Int)) (w.Devices.length:Int) 0 (aH w b 0).1.Sites).1 (aH w b 0).1.aAO (aH w b 0).1.Hosts (aH w b 0).1.Pin (aH w b 0).1.Mail=iE w b:=by unfold iE;rw[F,f];rfl
 obtain⟨⟨V,z2⟩,z3,z4⟩:=aWm hs;have W:(aH w b 0).1.sz<=34359738368:=by omega
 have M:(aH w b 0).1.Devices.length<=34359738368/\(aH w b 0).1.Stolen.length<=34359738368:=by clear J;simp only[AA.sz] at W;omega
 simp only[ae,nx_r,aA (show(aR (aH w b 0).1 b).sz<=34359738300 by omega),bd_s,eO (show((aH w b 0).1.Devices.set b.toNat (nI (aR (aH w b 0).1 b) (w.Devices.length:Int) false)).length<=34359738368 by rw[aw];exact M.1),eO M.2];show(bd (gd ((appW (AA.mk (aH w b 0).1.Now (aH w b 0).1.Seed ((aH w b 0).1.Devices.set b.toNat (nI (aR (aH w b 0).1 b) (w.Devices.length:Int) false)) (aH w b 0).1.Stolen c.1 (gW (aN w.Seed (w.Devices.length:Int)) (w.Devices.length:Int) 0 (aH w b 0).1.Sites).1 (aH w b 0).1.aAO (aH w b 0).1.Hosts (aH w b 0).1.Pin (aH w b 0).1.Mail) (bQ (aN w.Seed (w.Devices.length:Int)))).sz<=10000000000) (some (eP (appW (AA.mk (aH w b 0).1.Now (aH w b 0).1.Seed ((aH w b 0).1.Devices.set b.toNat (nI (aR (aH w b 0).1 b) (w.Devices.length:Int) false)) (aH w b 0).1.Stolen c.1 (gW (aN w.Seed (w.Devices.length:Int)) (w.Devices.length:Int) 0 (aH w b 0).1.Sites).1 (aH w b 0).1.aAO (aH w b 0).1.Hosts (aH w b 0).1.Pin (aH w b 0).1.Mail) (bQ (aN w.Seed (w.Devices.length:Int)))) b))) λh=>bd (gd (h.1.sz<=34359738100) (some (aH h.1 (w.Devices.length:Int) 0))) λa=>bd (bif !h.2 then some true else some !(a.2==0)) λH=>bif H then some (w,false) else bd (gd (a.1.Mail.sz<=34359738300) (some (qK a.1.Mail 2 1 a.1.Now))) λI=>some (AA.mk a.1.Now a.1.Seed a.1.Devices a.1.Stolen a.1.aAF a.1.Sites a.1.aAO a.1.Hosts a.1.Pin I.1,true))=_;have nz:(bQ (aN w.Seed (w.Devices.length:Int))).sz=0:=rfl;rw[T,aA (show(appW (iE w b) (bQ (aN w.Seed (w.Devices.length:Int)))).sz<=10000000000 by rw[aJ8];omega),bd_s,bTw _ V (by omega),show eP (iE w b) b=lY w b from rfl];cases q:(lY w b).2 with
 |false=>have hp:(lY w b).1=iE w b:=bXn (w:=iE w b) (d:=b) q;rw[uJ (.inr (.inl q)),aA (show(appW (lY w b).1 (bQ (aN w.Seed (w.Devices.length:Int)))).sz<=34359738100 by rw[hp,aJ8];omega)];rfl
 |true=>
 obtain⟨X,Z⟩:=bOk k hs q;rw[aA X,bd_s,show aH (appW (lY w b).1 (bQ (aN w.Seed (w.Devices.length:Int)))) (w.Devices.length:Int) 0=Bw w b from rfl];cases i:((Bw w b).2==0) with
 |false=>rw[uJ (.inr (.inr i))];rfl
 |true=>rw[aSb (by rw[f]) (by rw[F,L]) q i,aj,aa,bd_s,aa,aA (Z i),bd_s];rfl
def p8 (s e:Int):aS2 s e=some (bL s e):=by rfl
def aTi:= @p8
def Ps (d:AD)(l:List AG)(k:Int)(h:d.sz<=34359738368/\l.length<=34359738368):Mx d l k=some (nV d l k):=by unfold Mx nV;simp only[aA h.1,aA h.2,bd_s];cases bD l<;>cases dR l d.Log<;>cases decide (aQ l<d.Epoch)<;>cases bZ k<;>rfl
def aLs:= @Ps
def xH (s:AI)(i:Int)(h:s.Credentials.length<=34359738368):wV s i=some (aW s i):=by unfold wV;exact M9 (l:=s.Credentials) (λa=>a.Handle==i) (by omega) (λrec j hj=>by simp only[dD hj,ae,aL hj,bd_s]) (λrec=>by simp only[rU,aa])
def H6:= @xH
def bXo {a:AI}{h:Int}(hk:decide (aW a h<0)=false):aT a.Credentials (aW a h)=some (fI a (aW a h)):=by have hr:=nL (p:=λc:AZ=>c.Handle==h) (i:=0) (l:=a.Credentials) hk;exact oL (by unfold aW;omega) (by unfold aW;omega)
def Av (a:AI)(h:Int)(b:a.sz<=34359738368):Ab a h=some (qL a h):=by
 have hl:a.Credentials.length<=34359738368:=b;unfold Ab qL;simp only[aA b,aA hl,bd_s];cases bC a with
 |false=>rfl
 |true=>
  cases hk:decide (aW a h<0) with
  |true=>rfl
  |false=>simp only[aj,aa,bXo hk,bd_s];cases(fI a (aW a h)).Cut<;>rfl
def aAc:= @Av
theorem bOl {s:AB}(a:s.sz<=34359738300)(h:decide (aI s 1>=0)=true):aT s.Accounts (aI s 1)=some (gJ s (aI s 1))/\(gJ s (aI s 1)).sz<=34359738368:=by
 grind[gJ,bK6,decide,aI,decide_eq_false]
def bJf {h:Int}{N:Nat}{F:(Nat×List AB->Option (List AB))->Nat×List AB->Option (List AB)}
  (a:∀rec (p:List AB) (s:AB) (r:List AB),p.length+r.length+1=N->s.sz<=34359738300->F rec (p.length,p++s::r)=rec (p.length+1,p++lM h s::r)) (b:∀rec S,F rec (N,S)=some S):
  ∀(r p:List AB) (m:Nat),p.length+r.length=N->r.length<m->(∀s∈r,s.sz<=34359738300)->EV.bI m F (p.length,p++r)=some (p++r.map (lM h))
 |[],p,m+1,hl,_,_=>by
  simp only[bc,dz] at hl;rw[iD,hl,b];simp
 |s::r,p,m+1,hl,hm,hs=>by
  simp only[aq] at hl hm;have:=bJf a b r (p++[lM h s]) m (by simp;omega) (by omega) (λy c=>hs y (by simp[c]));simp only[ax,ck,cw,cI,bo] at this;rw[iD,a _ p s r (by omega) (hs s (by simp)),this];simp
def bDr {h:Int}{N:Nat}{l:List AB}(d:l.length=N)(a:N<=100)(hs:∀s∈l,s.sz<=34359738300){F:(Nat×List AB->Option (List AB))->Nat×List AB->Option (List AB)}
  (b:∀rec (p:List AB) (s:AB) (r:List AB),p.length+r.length+1=N->s.sz<=34359738300->F rec (p.length,p++s::r)=rec (p.length+1,p++lM h s::r)) (c:∀rec S,F rec (N,S)=some S):EV.bI FUEL F (0,l)=some (l.map (lM h)):=by
 have:=bJf b c l [] FUEL (by simp;omega) (by have:=fM;omega) hs;assumption
theorem rG {w:AA}{b t:Int}(h:((aH w b 0).2==0&&(!bR w b&&(!(b==t)&&iH w t)))=false):fF w b t=(w,false):=by grind[fF]
def aX8 {w:AA}{b t:Int}(h:((aH w b 0).2==0&&(!bR w b&&(!(b==t)&&iH w t)))=true):fF w b t=pU w b t:=by grind[fF]
theorem qM {w:AA}{b t:Int}(h:(jX w b t).2=false\/(Yf w b t).2=false\/(F3 w b t).2=false):pU w b t=(w,false):=by unfold pU;rcases h with h|h|h<;>rw[h]<;>simp
def bU1 {w:AA}{b:Int}(a:w.sz<=100000000)(h1:aK w=true)(hs:((aH w b 0).2==0)=true):(aM (aH w b 0).1 b=true/\(aH w b 0).1.Sites.length=2)/\(aH w b 0).1.sz<=300000000/\(aH w b 0).1.aAF.Log.length<=100000000/\∀s∈(aH w b 0).1.Sites,s.sz<=34359738300:=by
 grind[aGm,AB.sz,AA.sz,bL3]
def bOm {w:AA}{b t:Int}(m:w.sz<=100000000)(hs:((aH w b 0).2==0)=true){o:AA}(ho:o=(aH w b 0).1){c:AR}(h1:jX w b t=({o with aAF:=c},true)){x:AD}(h2:Yf w b t=(x,true)):
  (x.sz<=34359738300/\(nI x t true).sz<=34359738368/\c.sz<=34359738300/\(dC (nI x t true)).2.1.sz<=34359738300/\o.Mail.sz<=34359738300)/\
  pU w b t=bif (dC (nI x t true)).2.2&&(bW c (dC (nI x t true)).2.1).2 then(AA.mk o.Now o.Seed (o.Devices.set b.toNat (dC (nI x t true)).1) o.Stolen (bW c (dC (nI x t true)).2.1).1 (o.Sites.map (lM t)) o.aAO o.Hosts o.Pin (qK o.Mail 4 1 o.Now).1,true) else(w,false):=by
 obtain⟨⟨a,n,p,q⟩,r,⟨b1,s⟩,u,v⟩:=bQd (t:=t) hs;have hd:=a;simp only[aM,ac,cn] at hd;have hi:b.toNat<(jR w b).Devices.length:=by omega
 have d:o=jR w b:=ho;have y:(nV (aR (jR w b) b) (O6 w b t) (kN (aR (jR w b) b).Store (O6 w b t))).1=x:=by have:=congrArg Prod.fst h2;exact this
 have e:(aR (jR w b) b).sz<=(jR w b).sz:=(Z7 a).2.2.1;have f:x.sz<=3*w.sz+21:=by
  grind[aJ9,aR,jR,O6,kN]
 have h:=aCm x t true;have i:=Gi (nI x t true);have z:O7 w b t=AA.mk o.Now o.Seed (o.Devices.set b.toNat (nI x t true)) o.Stolen c (o.Sites.map (lM t)) o.aAO o.Hosts o.Pin o.Mail:=by unfold O7;rw[h1,h2]
 have j:aR (O7 w b t) b=nI x t true:=by
  grind[aR,List.getD,List.getElem?_set_self]
 have k:c.sz<=({o with aAF:=c}:AA).sz:=by grind[AA.sz,AR.sz]
 have l:c.sz<=16*w.sz+34:=by grind
 grind[dC,nI,bW,O4,List.set_set,K9,F3,O7,pU,AK.sz,jR,AV.sz,AA.sz]
def bDs {h:Int}{p r:List AB}{s:AB}(a:s.sz<=34359738300):s.Accounts.length<=34359738368:=by grind[AB.sz]
def aP6 (w:AA)(b t:Int)(v:w.sz<=100000000):Ud w b t=some (fF w b t):=by
 have a:w.sz<=34359738368:=by omega
 unfold Ud;simp only[bd_s,aA (show w.sz<=34359738100 by omega),aA a,bne];cases hs:((aH w b 0).2==0) with
 |false=>rw[rG (by rw[hs];rfl)];rfl
 |true=>
 obtain⟨⟨h1,h2⟩,_⟩:=lL hs;rw[bFp h1 h2];simp only[aj,aa,bd_s];cases i:bR w b with
 |true=>rw[rG (by rw[hs,i];rfl)];rfl
 |false=>
 cases m:(b==t) with
 |true=>rw[rG (by rw[hs,i,m];rfl)];rfl
 |false=>
 rw[aA (WOk.of' a)];cases d:iH w t with
 |false=>rw[rG (by rw[hs,i,m,d];rfl)];rfl
 |true=>
 rw[aX8 (by rw[hs,i,m,d];rfl)];have ht:aM w t=true:=by unfold iH at d;rw[ac] at d;exact d.1
 obtain⟨⟨z,G⟩,T,V,H⟩:=bU1 v h1 hs;simp only[aj,aa,bd_s,mM ht,mM z,aA (show(aH w b 0).1.aAF.Log.length<=34359738300 by omega)];have n:=lX (aH w b 0).1.aAF.Log 2 (aZ (aR w t).Store) (aR (aH w b 0).1 b).Store;obtain⟨l,hl⟩:∃l,l=dP (aH w b 0).1.aAF.Log 2 (aZ (aR w t).Store) (aR (aH w b 0).1 b).Store:=⟨_,rfl⟩;obtain⟨e,he⟩:∃e,e=bH l.1 (kN (aR (aH w b 0).1 b).Store l.1) (IntKind.i64.wrap (1000+IntKind.i64.wrap (10*(l.1.length:Int)))):=⟨_,rfl⟩;obtain⟨c,f⟩:∃c,c=kS (aH w b 0).1.aAF l.1 e.1:=⟨_,rfl⟩;have j:jX w b t=bif l.2&&(e.2&&c.2) then({(aH w b 0).1 with aAF:=c.1},true) else((aH w b 0).1,false):=by rw[f,he,hl];rfl
 have AL:O6 w b t=l.1:=by rw[hl];rfl
 rw[<-hl] at n ⊢;have o:=yH l.1 (kN (aR (aH w b 0).1 b).Store l.1) (IntKind.i64.wrap (1000+IntKind.i64.wrap (10*(l.1.length:Int))));have I:=Jo (aH w b 0).1;rw[aA (show([311]:List Int).length<=34359738300 by simp),bd_s,aA (show l.1.length<=34359738368 by omega),bd_s,bd_s,aA (show l.1.length<=34359738300 by omega),bd_s];rw[show bL (aV (aR (aH w b 0).1 b).Store.Seed [311]) (aQ l.1)=kN (aR (aH w b 0).1 b).Store l.1 from rfl];rw[<-he] at o ⊢;rw[aA (show(aH w b 0).1.aAF.sz<=34359738368/\l.1.length<=34359738368/\e.1.sz<=34359738368 from⟨by omega,by omega,by omega⟩),bd_s,<-f];cases k:l.2 with
 |false=>rw[qM (.inl (by rw[j,k];rfl))];rfl
 |true=>
 cases q:e.2 with
 |false=>rw[qM (.inl (by rw[j,k,q];rfl))];rfl
 |true=>
 cases A:c.2 with
 |false=>rw[qM (.inl (by rw[j,k,q,A];rfl))];rfl
 |true=>
 have u:jX w b t=({(aH w b 0).1 with aAF:=c.1},true):=by rw[j,k,q,A];rfl
 obtain⟨k1,k2,k3,k4⟩:=Z7 z;obtain⟨x,B⟩:∃x,x=nV (aR (aH w b 0).1 b) l.1 (kN (aR (aH w b 0).1 b).Store l.1):=⟨_,rfl⟩;have D:Yf w b t=x:=by rw[B,<-AL];rfl
 simp only[aj,aa,bd_s,aA (show(aR (aH w b 0).1 b).sz<=34359738368/\l.1.length<=34359738368 from⟨by omega,by omega⟩)];rw[<-B];cases F:x.2 with
 |false=>rw[qM (.inr (.inl (by rw[D,F])))];rfl
 |true=>
 obtain⟨⟨J,K,L,M,O⟩,AE⟩:=bOm v hs rfl u (x:=x.1) (by rw[D,<-F]);have q1:∀y:AD,aT ((aH w b 0).1.Devices.set b.toNat y) b=some y:=λy=>by rw[jP k1 (by rw[aw];exact k2)];simp
 rw[aj,aa,bDr (h:=t) (l:=(aH w b 0).1.Sites) (N:=2) G (by omega) H (λrec p s r hp hzs=>by
  simp only[au (show((p.length:Nat):Int)<2 by omega),ae,aUw,bd_s,aA (bDs (h:=t) (p:=p) (r:=r) hzs)];cases hc:decide (aI s 1>=0) with
  |false=>simp only[aa,bd_s,lM,hc]
  |true=>
   obtain⟨Q,R⟩:=bOl hzs hc;simp only[ae,Q,bd_s,aA R,aLp,lM,hc]) (λrec S=>rfl)]
 simp only[bd_s,q1,aA J,aA K,aA O,fk,aA (show c.1.sz<=34359738300/\(dC (nI x.1 t true)).2.1.sz<=34359738300 from⟨L,M⟩)];rw[AE];cases(dC (nI x.1 t true)).2.2<;>cases(bW c.1 (dC (nI x.1 t true)).2.1).2<;>rfl
def bU2 {w:AA}{b t:Int}(h2:aM w b=true)(ht:aM w t=true)(a:(b==t)=false):aM (aH w b 0).1 t=true/\aR (aH w b 0).1 t=aR w t:=by
 grind[aK,aM,List.length_set,aR,List.getD,List.getElem?_set_ne,aH]
def aX9 {w:AA}{b t:Int}(h:(aK w&&aM w b)=false):fF w b t=(w,false):=by
 grind[aH,lL,rG]
def aP7 (w:AA)(b t:Int)(m:w.sz<=100000000):Ur w b t=some (fF w b t):=by
 have a:w.sz<=34359738368:=by omega
 unfold Ur;simp only[aA a,bd_s];cases h1:aK w with
 |false=>simp_all[aX9]
 |true=>
 cases h2:aM w b with
 |false=>simp_all[aX9]
 |true=>
 cases n:(b==t) with
 |true=>simp_all[rG]
 |false=>
 rw[bFp h1 h2];cases u:bR w b with
 |true=>simp_all[rG]
 |false=>
 rw[aA (WOk.of' a)];cases v:iH w t with
 |false=>simp_all[rG]
 |true=>
 simp only[aj,aa,bd_s,aA (show w.sz<=34359738100 by omega),bne];cases hs:((aH w b 0).2==0) with
 |false=>grind[rG]
 |true=>
 rw[aX8 (by rw[hs,u,n,v];rfl)];have ht:aM w t=true:=by grind[iH]
 obtain⟨⟨o,J⟩,K,L,z⟩:=bU1 m h1 hs;obtain⟨d1,d2⟩:=bU2 h2 ht n;simp only[aj,aa,bd_s,mM d1,mM o,d2,aA (show(aH w b 0).1.aAF.Log.length<=34359738300 by omega)];have i:=lX (aH w b 0).1.aAF.Log 2 (aZ (aR w t).Store) (aR (aH w b 0).1 b).Store;obtain⟨l,hl⟩:∃l,l=dP (aH w b 0).1.aAF.Log 2 (aZ (aR w t).Store) (aR (aH w b 0).1 b).Store:=⟨_,rfl⟩;obtain⟨e,he⟩:∃e,e=bH l.1 (kN (aR (aH w b 0).1 b).Store l.1) (IntKind.i64.wrap (1000+IntKind.i64.wrap (10*(l.1.length:Int)))):=⟨_,rfl⟩;obtain⟨c,f⟩:∃c,c=kS (aH w b 0).1.aAF l.1 e.1:=⟨_,rfl⟩;have M:jX w b t=bif l.2&&(e.2&&c.2) then({(aH w b 0).1 with aAF:=c.1},true) else((aH w b 0).1,false):=by rw[f,he,hl];rfl
 have AL:O6 w b t=l.1:=by rw[hl];rfl
 rw[<-hl] at i ⊢;have j:=yH l.1 (kN (aR (aH w b 0).1 b).Store l.1) (IntKind.i64.wrap (1000+IntKind.i64.wrap (10*(l.1.length:Int))));have A:=Jo (aH w b 0).1;cases O:l.2 with
 |false=>grind[qM]
 |true=>
 rw[aj,aa,aA (show([311]:List Int).length<=34359738300 by simp),bd_s,aA (by omega),bd_s,aA (by omega),bd_s];rw[show bL (aV (aR (aH w b 0).1 b).Store.Seed [311]) (aQ l.1)=kN (aR (aH w b 0).1 b).Store l.1 from rfl];rw[<-he] at j ⊢;cases Q:e.2 with
 |false=>grind[qM]
 |true=>
 rw[aj,aa,aA (by omega),bd_s,<-f];cases R:c.2 with
 |false=>grind[qM]
 |true=>
 have k:jX w b t=({(aH w b 0).1 with aAF:=c.1},true):=by simp_all
 obtain⟨k1,k2,k3,k4⟩:=Z7 o;obtain⟨x,q⟩:∃x,x=nV (aR (aH w b 0).1 b) l.1 (kN (aR (aH w b 0).1 b).Store l.1):=⟨_,rfl⟩;have B:Yf w b t=x:=by rw[q,<-AL];rfl
 simp only[aj,aa,bd_s,aA (show(aR (aH w b 0).1 b).sz<=34359738368/\l.1.length<=34359738368 from⟨by omega,by omega⟩)];rw[<-q];cases D:x.2 with
 |false=>grind[qM]
 |true=>
 obtain⟨⟨S,F,G,H,I⟩,AE⟩:=bOm m hs rfl k (x:=x.1) (by rw[B,<-D]);have q1:∀y:AD,aT ((aH w b 0).1.Devices.set b.toNat y) b=some y:=(by simp[jP,k1,aw,k2]);rw[aj,aa,bDr (h:=t) (l:=(aH w b 0).1.Sites) (N:=(aH w b 0).1.Sites.length) rfl (by omega) z (λrec p s r hp hzs=>by
  simp only[dD (show p.length<(aH w b 0).1.Sites.length by omega),ae,aUw,bd_s,aA (bDs (h:=t) (p:=p) (r:=r) hzs)]
  grind[decide,aI,bd_s,lM,bOl,hzs,aA,aLp]) (by simp)]
 rw[bd_s,bOi (d:=x.1) k1 (by simp[*]) (by simp) (by omega),fk];simp only[bd_s,q1,aA F,aA I,fk,aA (show c.1.sz<=34359738300/\(dC (nI x.1 t true)).2.1.sz<=34359738300 from⟨G,H⟩)];rw[AE];cases(dC (nI x.1 t true)).2.2<;>cases(bW c.1 (dC (nI x.1 t true)).2.1).2<;>rfl
def xI (b:AN)(i:Int):wU b i=some (iA b i):=by unfold wU;rw[aA (by simp)];rfl
def H7:= @xI
def Ef (s:AJ):Db s=some (sJ s):=by unfold Db sJ;cases bG s.Vendor 1 9<;>cases bG s.Serial 0 1000000<;>cases bZ s.Seed<;>rfl
def aDs:= @Ef
def Vl (a:AY)(h:a.Site.size<=34359738300/\a.aAJ.size<=34359738300):uB a=some (bF a):=by unfold uB bF;rw[aA h.1,aA h.2];cases a.Present<;>rfl
def Vm (a:AY)(h:a.Site.size<=34359738300/\a.aAJ.size<=34359738300):uF a=some (bF a):=by unfold uF bF Iq;rw[aA h.1,aA h.2];cases a.Present<;>rfl
def Aw (b:AN)(i:Int)(h:b.Open.length<=34359738368):zY b i=some (bP b i):=by unfold zY;exact M9 (l:=b.Open) (λc=>c.Id==i) (by omega) (λrec j hj=>by simp only[dD hj,ae,aL hj,bd_s]) (λrec=>by simp only[rU,aa])
def aAd:= @Aw
def H8 (b:AN)(i n:Int)(h:b.sz<=34359738368):wR b i n=some (jG b i n):=by
 have hl:b.Open.length<=b.sz:=by simp only[AN.sz];omega
 have a:∀(x y:List A0),x.length+y.length<=34359738400->aS x y:=λx y h=>by unfold aS;omega
 unfold wR jG;rw[aA h,bd_s,aA h,bd_s];cases dK b with
 |false=>rfl
 |true=>
  cases b.Next==1000000 with
  |true=>rfl
  |false=>
   cases bG i 0 1000000 with
   |false=>rfl
   |true=>
    cases bG n 0 1000000 with
    |false=>rfl
    |true=>
     simp only[aj,cy,dc,aa,ae,bd_s];cases hd:decide ((b.Open.length:Int)>=16) with
     |false=>rw[aa,aA (a _ _ (by simp only[aq,bc];omega))];rfl
     |true=>have c:=of_decide_eq_true hd;rw[ae,aA (show gH b.Open 1 from⟨by omega,by omega⟩),aA (a _ _ (by simp only[cm,aq,bc];omega))];rfl
def H9 (b:AN)(i n:Int)(h:b.sz<=34359738368):wZ b i n=some (jG b i n):=by
 have hl:b.Open.length<=b.sz:=by simp[AN.sz]
 have a:∀(x y:List A0),x.length+y.length<=34359738400->aS x y:=(by grind[aS]);unfold wZ jG;rw[aA h,bd_s,aA h,bd_s];cases hb:dK b with
 |false=>rfl
 |true=>
  have c:b.Open.length<=16:=by
   grind[dK]
  cases b.Next==1000000 with
  |true=>rfl
  |false=>
   cases bG i 0 1000000 with
   |false=>rfl
   |true=>
    cases bG n 0 1000000 with
    |false=>rfl
    |true=>
     simp only[aj,cy,dc,aa,ae,bd_s];by_cases hd:b.Open.length=16
     ·rw[show((b.Open.length:Int)==16)=true by rw[hd];rfl,show decide ((b.Open.length:Int)>=16)=true from au (by omega),ae,ae,aA (show gH b.Open 1 from⟨by omega,by omega⟩),aA (a _ _ (by simp only[bc,cm];omega)),bd_s,aA (a _ _ (by simp only[bo,cm,aq,bc];omega))];rfl
     ·rw[show((b.Open.length:Int)==16)=false from cf.2 (by omega),show decide ((b.Open.length:Int)>=16)=false from ay (by omega),aa,aa,bd_s,aA (by grind)];rfl
def aAe (b:AN)(id acc now:Int)(h:b.sz<=34359738368):zZ b id acc now=some (pV b id acc now):=by
 have hl:b.Open.length<=b.sz:=by simp only[AN.sz];omega
 have c:∀(x y:List A0),x.length+y.length<=34359738400->aS x y:=λx y h=>by unfold aS;omega
 unfold zZ pV;rw[aA (show b.Open.length<=34359738368 by omega),bd_s,aA h,bd_s];cases dK b with
 |false=>simp only[cy,ae,bd_s,Bool.true_or];rw[aA h];rfl
 |true=>
  simp only[aj,aa,bd_s,cC];cases d:decide (bP b id<0) with
  |true=>rw[ae,ae,aA h];rfl
  |false=>
   obtain⟨h0,h1⟩:=nL (i:=0) d;have h0:0<=bP b id:=h0;have h1:bP b id<(b.Open.length:Int):=by have:bP b id<0+(b.Open.length:Int):=h1;omega
   have hk:IntKind.i64.wrap (bP b id+1)=(((bP b id).toNat+1:Nat):Int):=by rw[aJ (by omega) (by omega)];omega
   have a:aT b.Open (bP b id)=some (aOu b (bP b id)):=oL h0 h1;rw[aa,aa,hk,a,aA (show gH b.Open (bP b id) from⟨by omega,by omega⟩),aA (show gH b.Open (((bP b id).toNat+1:Nat):Int) from⟨by omega,by omega⟩),
    aA (c _ _ (by simp only[bc,bu];omega)),aA (c _ _ (by simp only[bo,bu,cm];omega)),bd_s,bd_s,bw]
   cases(aOu b (bP b id)).aAH==acc<;>rfl
def aAf (b:AN)(id acc now:Int)(h:b.sz<=34359738368):Ae b id acc now=some (pV b id acc now):=by
 have hl:b.Open.length<=b.sz:=by simp[AN.sz]
 have d:∀(x y:List A0),x.length+y.length<=34359738400->aS x y:=(by grind[aS]);unfold Ae pV;rw[aA h,bd_s,aA (by assumption),bd_s,aA h,bd_s];cases dK b with
 |false=>rfl
 |true=>
  simp only[aj,aa,bd_s,cC];cases c:decide (bP b id<0) with
  |true=>rfl
  |false=>
   obtain⟨h0,h1⟩:=nL (i:=0) c;have h0:0<=bP b id:=h0;have h1:bP b id<(b.Open.length:Int):=by grind[bP,id]
   have hk:IntKind.i64.wrap (bP b id+1)=(((bP b id).toNat+1:Nat):Int):=by grind[aJ]
   have a:aT b.Open (bP b id)=some (aOu b (bP b id)):=oL h0 h1;rw[aa,aa,hk,a,bd_s,aA (by grind[gH,bP,id]),aA (by grind[gH,bP,id]),
    aA (by grind),aA (by grind),bw]
   cases(aOu b (bP b id)).aAH==acc<;>rfl
def aAg (s:AJ)(z:ByteArray)(i:Int)(l:List Int)(h:z.size<=34359738300/\l.length<=34359738200):zW s z i l=some (gT s z i l):=by
 have a:∀(x y:List Int),x.length+y.length<=34359738400->aS x y:=λx y h=>by unfold aS;omega
 unfold zW gT;cases sJ s with
 |false=>rfl
 |true=>
  simp only[aj,aa,bd_s,cA];cases s.Counter==1000000 with
  |true=>rfl
  |false=>simp only[aA h.1,bd_s,aa,cy,ae];rw[aA (a _ _ (by simp only[bc];omega)),aA (a _ _ (by simp only[bo,aq,bc];omega)),aA (by simp only[bo,ax,aq,bc];omega)];rfl
def aAh (s:AJ)(z:ByteArray)(i:Int)(l:List Int)(h:z.size<=34359738300/\l.length<=34359738200):Ac s z i l=some (gT s z i l):=by
 unfold Ac gT;cases sJ s with
 |false=>rfl
 |true=>
  simp only[aj,aa,bd_s,cA];cases s.Counter==1000000 with
  |true=>rfl
  |false=>
   simp only[aA h.1,bd_s,aa,cy,ae];have e:sG l [[IntKind.i64.wrap (s.Counter+1)]]=l++[IntKind.i64.wrap (s.Counter+1)]:=by simp[sG]
   rw[aA (by grind),bd_s,e,aA (by grind)];rfl
def aLt (s:AB)(id now:Int)(h:s.sz<=34359738368):Nh s id now=some (pF s id now):=by
 have hb:s.Book.sz<=34359738368:=by simp only[AB.sz,AN.sz] at h ⊢;omega
 have hl:s.Accounts.length<=34359738368:=by simp only[AB.sz] at h;omega
 unfold Nh pF;rw[aA h,bd_s,aA hb,bd_s,aA h,bd_s];cases cZ s with
 |false=>rfl
 |true=>
  simp only[aj,aa,cA];rw[aA hl,bd_s];cases decide (aI s id<0) with
  |true=>rfl
  |false=>cases(jG s.Book id now).2.2<;>rfl
def aLu (s:AB)(id now:Int)(h:s.sz<=34359738368):Nr s id now=some (pF s id now):=by
 grind[cZ,Bool.not_true,aA,bd_s,decide,aI,id,jG,Nr,pF,AB.sz,AN.sz]
def aDt (a:AI)(m:Int)(h:a.sz<=34359738368):Dc a m=some (rA a m):=by
 have hl:a.Credentials.length<=34359738368:=by simp only[AI.sz] at h;omega
 unfold Dc rA;rw[aA h,bd_s,mJ (l:=a.Credentials) (λc=> !c.Cut) (.inl true) (.inr ()) (by omega) (λrec i hi=>by simp only[dD hi,ae,aL hi,bd_s]) (λrec=>by simp only[rU,aa])];cases bC a with
 |false=>rfl
 |true=>
  simp only[aj,aa,bd_s,cA];rw[show bG m a.Minimum 3=(decide (a.Minimum<=m)&&decide (m<=3)) from rfl];cases decide (a.Minimum<=m)<;>cases decide (m<=3)<;>try rfl
  cases hm:m==3<;>cases a.Credentials.any λc=> !c.Cut<;>simp[hm,nx,bne]
def aDu (a:AI)(m:Int)(h:a.sz<=34359738368):Di a m=some (rA a m):=by
 have hl:a.Credentials.length<=34359738368:=by assumption
 unfold Di rA;rw[aA h,bd_s,mJ (l:=a.Credentials) (λc=> !c.Cut) (.inl true) (.inr ()) (by omega) (by grind[dD,aL,bd_s]) (by simp)]
 grind[bC,bG,Bool.not_true,bd_s,decide,decide_eq_true,decide_eq_false,nx,bne]
def aTj (o:AO)(h:o.Host.size<=34359738368):Zq o=some (jC o):=by unfold Zq jC;rw[aA h,bd_s];cases fV o.Host<;>rfl
def aTk (o:AO):Zw o=some (jC o):=by unfold Zw jC;cases fV o.Host<;>rfl
def aDv (o:AO)(h:iX o):aC4 o=some (mX o):=by obtain⟨k,hk,rfl⟩:=h;rcases(show k=0\/k=1\/k=2\/k=3\/k=4\/k=5 by omega) with rfl|rfl|rfl|rfl|rfl|rfl<;>kernel_rfl
def aDw (o:AO)(h:iX o):aC5 o=some (mX o):=by obtain⟨k,hk,rfl⟩:=h;rcases(show k=0\/k=1\/k=2\/k=3\/k=4\/k=5 by omega) with rfl|rfl|rfl|rfl|rfl|rfl<;>kernel_rfl
def bAc (o:AO)(z:ByteArray)(h:uZ o z):aZx o z=some (pW o z):=by obtain⟨⟨k,hk,rfl⟩,j,hj,rfl⟩:=h;rcases hj with rfl|rfl<;>rcases(show k=0\/k=1\/k=2\/k=3\/k=4\/k=5 by omega) with rfl|rfl|rfl|rfl|rfl|rfl<;>kernel_rfl
def bAd (o:AO)(z:ByteArray)(h:uZ o z):aZy o z=some (pW o z):=by obtain⟨⟨k,hk,rfl⟩,j,hj,rfl⟩:=h;rcases hj with rfl|rfl<;>rcases(show k=0\/k=1\/k=2\/k=3\/k=4\/k=5 by omega) with rfl|rfl|rfl|rfl|rfl|rfl<;>kernel_rfl
def cK {α β:Type}{x:Option α}{f:α->Option β}{a:α}{r:Option β}(h:x=some a)(h2:f a=r):bd x f=r:=by simp[*]
def aFs {α β:Type}{x:Option (α⊕β)}{f:β->Option α}{b:β}{r:Option α}(h:x=some (.inr b))(h2:f b=r):nx x f=r:=by simp[*]
def aYa {τ:Type}(n:Nat){F:(Nat->Option τ)->Nat->Option τ}{b:τ}(hn:n<=18446744073709551616)(a:∀rec i,i<n->F rec i=rec (i+1))(c:∀rec,F rec n=some b):bI FUEL F 0=some b:=by have:=mJ (l:=List.replicate n ()) (λ_=>false) b b (by simpa using hn) (F:=F) (λrec i hi=>by rw[a rec i (by simpa using hi)];rfl) (λrec=>by simpa using c rec);rw[this];cases(List.replicate n ()).any λ_=>false<;>rfl
def cC7 {p:Nat->Prop}(h:p 0/\p 1/\p 2/\p 3/\p 4/\p 5/\p 6/\p 7/\p 8/\p 9/\p 10/\p 11):∀i,i<12->p i:=λi hi=>by
 match i,hi with
 |0,_=>exact h.1
 |1,_=>exact h.2.1
 |2,_=>exact h.2.2.1
 |3,_=>exact h.2.2.2.1
 |4,_=>exact h.2.2.2.2.1
 |5,_=>exact h.2.2.2.2.2.1
 |6,_=>exact h.2.2.2.2.2.2.1
 |7,_=>exact h.2.2.2.2.2.2.2.1
 |8,_=>exact h.2.2.2.2.2.2.2.2.1
 |9,_=>exact h.2.2.2.2.2.2.2.2.2.1
 |10,_=>exact h.2.2.2.2.2.2.2.2.2.2.1
 |11,_=>exact h.2.2.2.2.2.2.2.2.2.2.2
 |n+12,h=>omega
def lt8 {p:Nat->Prop}(h:p 0/\p 1/\p 2/\p 3/\p 4/\p 5/\p 6/\p 7):∀i,i<8->p i:=λi hi=>by
 match i,hi with
 |0,_=>exact h.1
 |1,_=>exact h.2.1
 |2,_=>exact h.2.2.1
 |3,_=>exact h.2.2.2.1
 |4,_=>exact h.2.2.2.2.1
 |5,_=>exact h.2.2.2.2.2.1
 |6,_=>exact h.2.2.2.2.2.2.1
 |7,_=>exact h.2.2.2.2.2.2.2
 |n+8,h=>omega
def uL (k:Nat)(h:iX (oM k))(c:jC (oM k)=true)(he:(mX (oM k)).toList=(Ca k).toList):
  (bd (bif (!jC (oM k)) then(some (true)) else(bd (gd (iX (oM k)) (some (mX (oM k)))) λa=>some (!a.toList==(Ca k).toList))) λb=>bif b then(some ((AO.mk false (ByteArray.mk #[]) (0:Int),false))) else(some (oM k,true)))=some (oM k,true):=by
 simp[*]
def aHu (z:ByteArray)(h:aZr z):tH z=some (qZ z):=by
 obtain rfl|⟨k,hk,rfl⟩:=h
 ·unfold tH;refine cK (a:=(⟨#[]⟩,false,⟨#[]⟩,0)) (by kernel_rfl) ?_;refine aFs (b:=(⟨#[]⟩,(0:Int))) (aYa 0 (by omega) (λrec i hi=>by omega) (λrec=>by kernel_rfl)) ?_
  kernel_rfl
 ·unfold tH;rcases(show k=0\/k=1\/k=2\/k=3 by omega) with rfl|rfl|rfl|rfl
  ·refine cK (a:=((oM 0).Host,true,⟨#[]⟩,443)) (by kernel_rfl) ?_;refine aFs (b:=((oM 0).Host,(443:Int))) (aYa 12 (by omega) (λrec=>cC7 (by refine⟨?_,?_,?_,?_,?_,?_,?_,?_,?_,?_,?_,?_⟩<;>kernel_rfl)) (λrec=>by kernel_rfl)) ?_;refine cK (a:=true) (by kernel_rfl) ?_;exact(uL 0 ⟨0,by decide,rfl⟩ (by kernel_rfl) (by kernel_rfl)).trans (by kernel_rfl)
  ·refine cK (a:=((oM 1).Host,true,⟨#[]⟩,443)) (by kernel_rfl) ?_;refine aFs (b:=((oM 1).Host,(443:Int))) (aYa 12 (by omega) (λrec=>cC7 (by refine⟨?_,?_,?_,?_,?_,?_,?_,?_,?_,?_,?_,?_⟩<;>kernel_rfl)) (λrec=>by kernel_rfl)) ?_;refine cK (a:=true) (by kernel_rfl) ?_;exact(uL 1 ⟨1,by decide,rfl⟩ (by kernel_rfl) (by kernel_rfl)).trans (by kernel_rfl)
  ·refine cK (a:=((oM 2).Host,true,⟨#[]⟩,443)) (by kernel_rfl) ?_;refine aFs (b:=((oM 2).Host,(443:Int))) (aYa 8 (by omega) (λrec=>lt8 (by refine⟨?_,?_,?_,?_,?_,?_,?_,?_⟩<;>kernel_rfl)) (λrec=>by kernel_rfl)) ?_;refine cK (a:=true) (by kernel_rfl) ?_;exact(uL 2 ⟨2,by decide,rfl⟩ (by kernel_rfl) (by kernel_rfl)).trans (by kernel_rfl)
  ·refine cK (a:=((oM 3).Host,true,⟨#[]⟩,443)) (by kernel_rfl) ?_;refine aFs (b:=((oM 3).Host,(443:Int))) (aYa 8 (by omega) (λrec=>lt8 (by refine⟨?_,?_,?_,?_,?_,?_,?_,?_⟩<;>kernel_rfl)) (λrec=>by kernel_rfl)) ?_;refine cK (a:=true) (by kernel_rfl) ?_;exact(uL 3 ⟨3,by decide,rfl⟩ (by kernel_rfl) (by kernel_rfl)).trans (by kernel_rfl)
def aHv (z:ByteArray)(h:aZr z):Ir z=some (qZ z):=by
 obtain rfl|⟨k,hk,rfl⟩:=h
 ·kernel_rfl
 ·unfold Ir;rcases(show k=0\/k=1\/k=2\/k=3 by omega) with rfl|rfl|rfl|rfl
  ·refine cK (a:=(Ca 0,false)) (by kernel_rfl) ?_;refine cK (a:=((oM 0).Host,true,true,⟨#[]⟩,443)) (by kernel_rfl) ?_;simp only[aj,aa];refine cK (a:=((oM 0).Host,⟨#[]⟩,false)) (by kernel_rfl) ?_;refine aFs (b:=(443:Int)) (by kernel_rfl) ?_;exact(uL 0 ⟨0,by decide,rfl⟩ (by kernel_rfl) (by kernel_rfl)).trans (by kernel_rfl)
  ·refine cK (a:=(Ca 1,false)) (by kernel_rfl) ?_;refine cK (a:=((oM 1).Host,true,true,⟨#[]⟩,443)) (by kernel_rfl) ?_;simp only[aj,aa];refine cK (a:=((oM 1).Host,⟨#[]⟩,false)) (by kernel_rfl) ?_;refine aFs (b:=(443:Int)) (by kernel_rfl) ?_;exact(uL 1 ⟨1,by decide,rfl⟩ (by kernel_rfl) (by kernel_rfl)).trans (by kernel_rfl)
  ·refine cK (a:=(Ca 2,false)) (by kernel_rfl) ?_;refine cK (a:=((oM 2).Host,true,true,⟨#[]⟩,443)) (by kernel_rfl) ?_;simp only[aj,aa];refine cK (a:=((oM 2).Host,⟨#[]⟩,false)) (by kernel_rfl) ?_;refine aFs (b:=(443:Int)) (by kernel_rfl) ?_;exact(uL 2 ⟨2,by decide,rfl⟩ (by kernel_rfl) (by kernel_rfl)).trans (by kernel_rfl)
  ·refine cK (a:=(Ca 3,false)) (by kernel_rfl) ?_;refine cK (a:=((oM 3).Host,true,true,⟨#[]⟩,443)) (by kernel_rfl) ?_;simp only[aj,aa];refine cK (a:=((oM 3).Host,⟨#[]⟩,false)) (by kernel_rfl) ?_;refine aFs (b:=(443:Int)) (by kernel_rfl) ?_;exact(uL 3 ⟨3,by decide,rfl⟩ (by kernel_rfl) (by kernel_rfl)).trans (by kernel_rfl)
def bJg {o:AO}{z:ByteArray}(h:uZ o z):iX o/\z.size<=34359738300/\(mX o).size<=34359738300:=by
 obtain⟨ho,j,hj,rfl⟩:=h;refine⟨ho,?_,?_⟩
 ·rcases hj with rfl|rfl<;>exact(show 8<=34359738300 by omega)
 ·obtain⟨k,hk,rfl⟩:=ho;have:(mX (oM k)).size<=40:=by rcases(show k=0\/k=1\/k=2\/k=3\/k=4\/k=5 by omega) with rfl|rfl|rfl|rfl|rfl|rfl<;>decide
  omega
def aAi (s:AJ)(o:AO)(z:ByteArray)(i c:Int)(b:Bool)(h:uZ o z):zX s o z i c b=some (iU s o z i c b):=by
 obtain⟨h1,h2,d⟩:=bJg h;unfold zX iU aWn;have hm:∀a,(bF a).length<=34359738200:=λa=>by simp[bF]
 rw[aA h1,bd_s,aA ⟨h2,d⟩,bd_s,aA ⟨h2,hm _⟩,bd_s,aA h,bd_s];generalize gT s z i (bF (AY.mk z (mX o) c i b 0 0))=q;obtain⟨q1,q2,q3⟩:=q;cases pW o z<;>cases q3<;>rfl
def aAj (s:AJ)(o:AO)(z:ByteArray)(i c:Int)(b:Bool)(h:uZ o z):Ad s o z i c b=some (iU s o z i c b):=by
 obtain⟨h1,h2,d⟩:=bJg h;have hm:∀a,(bF a).length<=34359738200:=(by simp[bF]);unfold Ad iU;rw[aA h,bd_s];cases pW o z with
 |false=>rfl
 |true=>simp only[aj,aa,cA];rw[aA h1,bd_s,aA ⟨h2,d⟩,bd_s,aA ⟨h2,hm _⟩,bd_s];show(bif !(gT s z i (bF (aWn s o z i c b))).2.2 then _ else _)=_;cases(gT s z i (bF (aWn s o z i c b))).2.2<;>rfl
def bDt {k:Nat}(hk:k<4):qZ (Ca k)=(oM k,true)/\(Ca k).size<=34359738300:=by
 rcases(show k=0\/k=1\/k=2\/k=3 by omega) with rfl|rfl|rfl|rfl
 ·exact⟨by kernel_rfl,show 20<=34359738300 by omega⟩
 ·exact⟨by kernel_rfl,show 20<=34359738300 by omega⟩
 ·exact⟨by kernel_rfl,show 16<=34359738300 by omega⟩
 ·exact⟨by kernel_rfl,show 16<=34359738300 by omega⟩
def aYb {j:Int}(hj:j=0\/j=1){k:Nat}(hk:k<4):qZ (Ca k)=(oM k,true)/\(aB j).size<=34359738300/\(Ca k).size<=34359738300:=by refine⟨(bDt hk).1,?_,(bDt hk).2⟩;rcases hj with rfl|rfl<;>exact(show 8<=34359738300 by omega)
def I1 (b:Int)(a:AY)(z:ByteArray)(c cnt:Int)(h:AsP a z):pI b a z c cnt=some (iK b a z c cnt):=by
 obtain⟨j,hj,rfl,rfl|⟨hs,k,hk,ho,d⟩⟩:=h
 ·unfold pI;rw[aA (show aZr bQe.aAJ from .inl rfl)];rcases hj with rfl|rfl<;>kernel_rfl
 ·obtain⟨h1,h2,e⟩:=aYb hj hk;have hm:(bF a).length=6:=by simp[bF]
  unfold pI iK;rw[aA (show aZr a.aAJ from .inr ⟨k,hk,ho⟩),bd_s,show qZ a.aAJ=(oM k,true) by rw[ho];exact h1,show(a.Site.toList==(aB j).toList)=true by rw[hs];simp];simp only[aj,aa];rw[aA (show uZ (oM k) (aB j) from⟨⟨k,by omega,rfl⟩,j,hj,rfl⟩),bd_s,d,bd_s];simp only[aj,aa,bne];rw[aA (show a.Site.size<=34359738300/\a.aAJ.size<=34359738300 by rw[hs,ho];exact⟨h2,e⟩),bd_s,aA (show aS (bF a) [a.Counter] by unfold aS;simp only[hm,aq,bc];omega),aA (show(bF a++[a.Counter]).length<=34359738300 by simp only[ax,hm,aq,bc];omega),bd_s];cases a.Present<;>cases a.aAM==c<;>cases jB b (bF a++[a.Counter]) a.Signature<;>cases decide (a.Counter<=cnt)<;>rfl
def I4 (b:Int)(a:AY)(z:ByteArray)(c cnt:Int)(h:AsP a z):pJ b a z c cnt=some (iK b a z c cnt):=by
 obtain⟨j,hj,rfl,rfl|⟨hs,k,hk,ho,d⟩⟩:=h
 ·unfold pJ;rw[aA (show aZr bQe.aAJ from .inl rfl)];rcases hj with rfl|rfl<;>kernel_rfl
 ·obtain⟨h1,h2,i⟩:=aYb hj hk;have hm:(bF a).length=6:=by simp[bF]
  have e:sG (bF a) [[a.Counter]]=bF a++[a.Counter]:=by simp[sG]
  have f:a.Site.size<=34359738300/\a.aAJ.size<=34359738300:=by simp[*]
  unfold pJ iK;rw[aA (by grind[aZr]),bd_s,show qZ a.aAJ=(oM k,true) by rw[ho];exact h1,show(a.Site.toList==(aB j).toList)=true by rw[hs];simp];simp only[aj,aa];rw[aA (by grind[uZ,oM,aB]),bd_s,d,bd_s];simp only[aj,aa,bne,aA f,bd_s];rw[aA (show Mh (bF a) [[a.Counter]] by simp[Mh,hm]),bd_s,e,aA (show(bF a++[a.Counter]).length<=34359738300 by simp only[ax,hm,aq,bc];omega),bd_s];cases a.Present<;>cases a.aAM==c<;>cases jB b (bF a++[a.Counter]) a.Signature<;>cases decide (a.Counter<=cnt)<;>rfl
theorem bL4 {a:AI}{h:Int}(hk:decide (aW a h<0)=false):aT a.Credentials (aW a h)=some (fI a (aW a h))/\(aW a h).toNat<a.Credentials.length:=by have hr:=nL (p:=λc:AZ=>c.Handle==h) (i:=0) (l:=a.Credentials) hk;exact⟨oL (by unfold aW;omega) (by unfold aW;omega),by unfold aW;omega⟩
def aAk (a:AI)(x:AY)(z:ByteArray)(c:Int)(h:AsP x z/\a.sz<=34359738368):Aa a x z c=some (jS a x z c):=by
 obtain⟨hp,b⟩:=h;have hl:a.Credentials.length<=34359738368:=b;unfold Aa jS;simp only[aA b,aA hl,bd_s];cases bC a with
 |false=>rfl
 |true=>
  cases hk:decide (aW a x.Handle<0) with
  |true=>rfl
  |false=>
   simp only[aj,aa,(bL4 hk).1,bd_s,cC];cases(fI a (aW a x.Handle)).Cut with
   |true=>rfl
   |false=>simp only[aA hp,bd_s,aa];generalize iK (fI a (aW a x.Handle)).Public x z c (fI a (aW a x.Handle)).Counter=k;cases k==0<;>cases k==4<;>rfl
def aAl (a:AI)(x:AY)(z:ByteArray)(c:Int)(h:AsP x z/\a.sz<=34359738368):Af a x z c=some (jS a x z c):=by
 obtain⟨hp,b⟩:=h;have hl:a.Credentials.length<=34359738368:=b;unfold Af jS;simp only[aA b,aA hl,bd_s];cases bC a with
 |false=>rfl
 |true=>
  cases hk:decide (aW a x.Handle<0) with
  |true=>rfl
  |false=>
   simp only[aj,aa,(bL4 hk).1,bd_s,cC]
   grind[fI,aW,aA,bd_s,iK,beq_eq_false_iff_ne,bL4]
theorem bOn {s:AB}{i:Int}(b:s.sz<=34359738300)(h:decide (aI s i<0)=false):aT s.Accounts (aI s i)=some (gJ s (aI s i))/\(gJ s (aI s i)).sz<=34359738300/\(aI s i).toNat<s.Accounts.length:=by
 have hr:=nL (p:=λa:AI=>a.Id==i) (i:=0) (l:=s.Accounts) h
 grind[AB.sz,gJ,oL,aI,Fw,AI.sz]
def aHw (s:AB)(i c n:Int)(x:AY)(h:AsP x s.Name/\s.sz<=34359738300):Ig s i c n x=some (mP s i c n x):=by
 obtain⟨hp,a⟩:=h;have b:s.sz<=34359738368:=by omega
 have hb:s.Book.sz<=34359738368:=by simp only[AB.sz,AN.sz] at a ⊢;omega
 have hl:s.Accounts.length<=34359738368:=by simp only[AB.sz] at a;omega
 have d:aS s.Logins [i]:=by unfold aS;simp only[AB.sz] at a;simp only[aq,bc];omega
 unfold Ig mP;simp only[aA b,aA hl,aA hb,bd_s];cases cZ s with
 |false=>rfl
 |true=>
  simp only[aj,aa,bd_s,cC];cases hk:decide (aI s i<0) with
  |true=>rfl
  |false=>
   obtain⟨e,f,j⟩:=bOn a hk;simp only[aa];cases(pV s.Book c i n).2 with
   |false=>rfl
   |true=>
    simp only[aj,aa,e,bd_s,aA (show(gJ s (aI s i)).sz<=34359738368 by omega)];cases rA (gJ s (aI s i)) 3 with
    |false=>rfl
    |true=>
     simp only[aj,aa,aA (show AsP x s.Name/\(gJ s (aI s i)).sz<=34359738368 from⟨hp,by omega⟩),bd_s,aA d,bne];cases hc:(jS (gJ s (aI s i)) x s.Name (iA s.Book c)).2==0 with
     |false=>rfl
     |true=>rw[eq_of_beq hc];rfl
def aHx (s:AB)(i c n:Int)(x:AY)(h:AsP x s.Name/\s.sz<=34359738300):Iu s i c n x=some (mP s i c n x):=by
 obtain⟨hp,b⟩:=h;have a:s.sz<=34359738368:=by omega
 have hb:s.Book.sz<=34359738368:=by grind[AB.sz,AN.sz]
 have hl:s.Accounts.length<=34359738368:=by grind[AB.sz]
 have d:aS s.Logins [i]:=by grind[List.length_cons,List.length_nil,AB.sz,aS]
 unfold Iu mP;simp only[aA a,aA hl,aA hb,bd_s]
 grind[cZ,Bool.not_true,bd_s,decide,aI,bOn,pV,aA,gJ,rA,AsP,bne,jS,iA]
def uM {w:AA}(h:aK w=true):w.Sites.length=2/\w.Stolen.length=w.Devices.length/\w.Devices.length<=6/\eF oK 0 w.Sites=false:=by
 grind[aK,bG,Bool.not_eq_true']
def aTl (w:AA)(d j:Int)(h:w.sz<=34359738368):Zp w d j=some (bX w d j):=by
 unfold Zp bX;rw[aA h,bd_s];cases a:aK w with
 |false=>rfl
 |true=>
  obtain⟨h1,h2,c,_⟩:=uM a;have e:bG d 0 (IntKind.i64.wrap ((w.Devices.length:Int)-1))=aM w d:=by
   rw[aJ (by omega) (by omega)];unfold bG aM;by_cases hd:d<(w.Devices.length:Int)
   ·rw[au hd,au (show d<=(w.Devices.length:Int)-1 by omega)]
   ·rw[ay hd,ay (show ¬d<=(w.Devices.length:Int)-1 by omega)]
  have b:bG j 0 1=iW w j:=by
   unfold bG iW;rw[h1,show((2:Nat):Int)=2 from rfl];by_cases hd:j<(2:Int)
   ·rw[au hd,au (show j<=1 by omega)]
   ·rw[ay hd,ay (show ¬j<=1 by omega)]
  rw[e,b,ae];cases aM w d<;>cases iW w j<;>rfl
theorem Gl {w:AA}{d j:Int}(h:bX w d j=true):aT w.Stolen d=some (bR w d):=by simp_all[List.getD,ab,jP,bR,aM,ac,cn,uM,bX]
def bAe (w:AA)(d j:Int)(b:Bool)(h:w.sz<=34359738368):aFi w d j b=some (bX w d j&&bR w d==b):=by
 grind[bX,Gl,aK,aM,iW,aA,bd_s,aFi]
def bFq (j:Int):(ByteArray.mk #[UInt8.ofNat 119,UInt8.ofNat 119,UInt8.ofNat 119,UInt8.ofNat 46]).size+(aB j).size<=9223372036854775807:=by unfold aB;cases j==0<;>cases j==1<;>decide
def bJh (j:Int):aR9 j=some (O8 j):=by unfold aR9;rw[aA (bFq j)];rfl
def aP8 (s:ByteArray):aO9 s=some (AO.mk true s 443):=rfl
theorem cBl {a b:ByteArray}(h:a.toList=b.toList):a=b:=by
 grind[ByteArray.ext,Array.toList_inj,ByteArray.toList_eq]
def bU3 {l:List AB}{k:Nat}:∀{i:Nat},eF oK i l=false->∀(h:k<l.length),cZ l[k]=true/\l[k].Name=aB ((i+k:Nat):Int):=by induction l generalizing k<;>grind[eF,Bool.or_eq_false_iff,oK,Bool.not_eq_false',cBl,trans]
def vN {w:AA}{d j:Int}(h:bX w d j=true):aT w.Sites j=some (kT w j)/\(kT w j).sz<=w.sz/\(kT w j).Name=aB j/\(j=0\/j=1)/\j.toNat<w.Sites.length:=by
 simp only[bX,ac] at h;obtain⟨h1,h2,b,a⟩:=uM h.1;have hd:=h.2.2;simp only[iW,ac,cn] at hd;have hj:j.toNat<w.Sites.length:=by omega
 have hs:=Fw (f:=AB.sz) hj;have e:kT w j=w.Sites[j.toNat]:=by grind[List.getD,List.getElem?_eq_getElem,kT]
 refine⟨by rw[jP hd.1 hj,e],?_,?_,by omega,hj⟩
 ·grind[AA.sz,kT]
 ·rw[e,(bU3 a hj).2];grind
theorem bL5 (s:AB)(i n:Int):(pF s i n).1.Name=s.Name/\(pF s i n).1.sz<=s.sz+1:=by
 unfold pF
 grind[cZ,decide,aI,jG,dK,bG,List.length_append,List.length_drop,List.length_cons,List.length_nil,AB.sz,AN.sz]
def bU4 {k:Nat}(hk:k<6){j:Int}(hj:j=0\/j=1)(h:pW (oM k) (aB j)=true):k<4:=by
 rcases(show k<4\/k=4\/k=5 by omega) with a|rfl|rfl
 ·exact a
 ·rcases hj with rfl|rfl<;>exact absurd h (by decide)
 ·rcases hj with rfl|rfl<;>exact absurd h (by decide)
theorem bL6 (s:AJ)(h c:Int)(p:Bool){o:AO}(ho:iX o){j:Int}(hj:j=0\/j=1):AsP (iU s o (aB j) h c p).2.1 (aB j):=by
 refine⟨j,hj,rfl,?_⟩;obtain⟨k,hk,rfl⟩:=ho;unfold iU;cases hm:pW (oM k) (aB j) with
 |false=>simp
 |true=>
  cases(gT s (aB j) h (bF (aWn s (oM k) (aB j) h c p))).2.2 with
  |false=>simp
  |true=>exact .inr ⟨rfl,k,bU4 hk hj hm,rfl,hm⟩
def bYm {w:AA}{d j:Int}{o:AO}(ho:iX o)(h:bX w d j=true)(a:w.sz<=34359738200):AsP (aKa w d j o).2.1 (oN w j).1.Name/\(oN w j).1.sz<=34359738300:=by
 obtain⟨_,h2,b,c,_⟩:=vN h
 grind[aKa,oN,bL6,bL5,kT]
def bAf (w:AA)(d j:Int)(o:AO)(h:iX o/\w.sz<=34359738200):aFc w d j o=some (jH w d j o):=by
 obtain⟨ho,c⟩:=h;have b:w.sz<=34359738368:=by omega
 unfold aFc jH;simp only[aA b,bd_s];cases ht:bX w d j with
 |false=>rfl
 |true=>
  obtain⟨e,m,n,f,q⟩:=vN ht;obtain⟨i,k⟩:=bYm ho ht c;have a:=ht;simp only[bX,ac] at a;have l:=mM a.2.1;have hm:w.Mail.sz<=34359738300:=by simp only[AA.sz,AV.sz] at c ⊢;omega
  simp only[aj,aa,e,bd_s,aA (show(kT w j).sz<=34359738368 by omega)];rw[show pF (kT w j) 1 w.Now=oN w j from rfl];cases hb:(oN w j).2.2.2 with
  |false=>rfl
  |true=>simp only[aj,aa,l,bd_s,aA (show uZ o (aB j) from ho.p f)];rw[show iU (aR w d).Store o (aB j) d (oN w j).2.2.1 true=aKa w d j o from rfl];simp only[aA (show AsP (aKa w d j o).2.1 (oN w j).1.Name/\(oN w j).1.sz<=34359738300 from⟨i,k⟩),bd_s,aA hm,bne];rw[show mP (oN w j).1 1 (oN w j).2.1 w.Now (aKa w d j o).2.1=F4 w d j o from rfl];cases(F4 w d j o).2.1==0<;>rfl
def bFr (w:AA)(d j:Int)(o:AO)(h:iX o/\w.sz<=34359738200):aKu w d j o=some (jH w d j o):=by
 obtain⟨ho,c⟩:=h;have b:w.sz<=34359738368:=by omega
 unfold aKu jH;simp only[aA b,bd_s];cases ht:bX w d j with
 |false=>
  unfold bX at ht;cases n:aK w with
  |false=>rfl
  |true=>
   cases hd:aM w d with
   |false=>rfl
   |true=>
    cases hs:iW w j with
    |false=>rfl
    |true=>simp_all
 |true=>
  obtain⟨e,q,r,f,s⟩:=vN ht;obtain⟨i,k⟩:=bYm ho ht c;have a:=ht;simp only[bX,ac] at a;have l:=mM a.2.1;have hm:w.Mail.sz<=34359738300:=by grind[AA.sz,AV.sz]
  have m:0<=j:=by omega
  have es:aT (w.Sites.set j.toNat (oN w j).1) j=some (oN w j).1:=by
   grind[jP]
  rw[a.1,a.2.1,a.2.2];simp only[aj,aa,e,bd_s,aA (show(kT w j).sz<=34359738368 by omega)];rw[show pF (kT w j) 1 w.Now=oN w j from rfl];cases hb:(oN w j).2.2.2 with
  |false=>rfl
  |true=>simp only[aj,aa,l,es,bd_s,aA (show uZ o (aB j) from ho.p f)];rw[show iU (aR w d).Store o (aB j) d (oN w j).2.2.1 true=aKa w d j o from rfl];simp only[aA (show AsP (aKa w d j o).2.1 (oN w j).1.Name/\(oN w j).1.sz<=34359738300 from⟨i,k⟩),bd_s,aA hm,bne];rw[show mP (oN w j).1 1 (oN w j).2.1 w.Now (aKa w d j o).2.1=F4 w d j o from rfl,fk];cases(F4 w d j o).2.1==0<;>rfl
def p9 (w:AA)(d j:Int)(o:AO)(h:iX o/\w.sz<=34359738200):Zr w d j o=some (pX w d j o):=by unfold Zr;rw[aA h];rfl
def aTm:= @p9
def aHy (w:AA)(d j:Int)(b:w.sz<=34359738200):Ih w d j=some (lN w d j):=by
 have a:w.sz<=34359738368:=by omega
 unfold Ih lN;simp only[aA a,bd_s,aA (bFq j)];cases ht:bX w d j with
 |false=>rfl
 |true=>
  simp only[aj,aa,Gl ht,bd_s,cA];cases bR w d with
  |true=>rfl
  |false=>simp only[cy,aa,ae];exact(cK (aA (show iX (O8 j)/\w.sz<=34359738200 from⟨bE3 (vN ht).2.2.2.1,b⟩)) rfl)
def aHz (w:AA)(d j:Int)(b:w.sz<=34359738200):Iw w d j=some (lN w d j):=by
 have a:w.sz<=34359738368:=by omega
 unfold Iw lN;simp only[aA a,bd_s];rw[show(bR w d==false)= !bR w d by cases bR w d<;>rfl];cases hq:bX w d j&& !bR w d with
 |false=>rfl
 |true=>rw[ac] at hq;simp only[aj,aa,ae];exact(cK (aA (show iX (O8 j)/\w.sz<=34359738200 from⟨bE3 (vN hq.1).2.2.2.1,b⟩)) rfl)
def tJ {σ τ:Type}{F:(σ->Option τ)->σ->Option τ}(S:Nat->σ)(N:Nat){r:τ}(a:N<=1000000)(b:∀rec i,i<N->F rec (S i)=rec (S (i+1)))(c:∀rec,F rec (S N)=some r){s:σ}(hs:s=S 0):EV.bI FUEL F s=some r:=by
 subst hs;have go:∀(k i n:Nat),i+k=N->k<n->EV.bI n F (S i)=some r:=by
  intro k;induction k with
  |zero=>
   intro i n h hn;obtain⟨m,rfl⟩:∃m,n=m+1:=⟨n-1,by omega⟩
   grind[iD]
  |succ k d=>
   intro i n h hn;obtain⟨m,rfl⟩:∃m,n=m+1:=⟨n-1,by omega⟩
   grind[iD]
 exact go N 0 FUEL (by omega) (by grind[fM])
theorem aLv {m:Int}{F:(Int×Int×Int->Option Int)->Int×Int×Int->Option Int}(a:∀rec (b n s:Int),0<=n->n<9223372036854775807->F rec (b,n,s)=bif decide (n>0) then rec ((IntKind.i64.wrap (b*b)).tmod m,n/2,bif n%2==1 then(IntKind.i64.wrap (s*b)).tmod m else s) else some s):
  ∀(k:Nat) (b n s:Int) (f:Nat),k<f->0<=n->n<2^k->k<=62->bI f F (b,n,s)=some (F5 m k b n s)
 |0,b,n,s,f+1,c,h0,h1,hk=>by
  have:n=0:=by simp at h1;omega
  subst this;rw[iD,a _ _ _ _ (by omega) (by omega)];rfl
 |k+1,b,n,s,f+1,c,h0,h1,hk=>by
  have h2:(2:Int)^(k+1)=2*2^k:=by rw[gj];omega
  have d:n<2^62:=Int.lt_of_lt_of_le h1 (by exact_mod_cast gC (by omega) hk);rw[iD,a _ _ _ _ h0 (by omega)];unfold F5;by_cases hn:n>0
  ·rw[au hn,ae,cR hn];exact aLv a k _ (n/2) _ f (by omega) (by omega) (by omega) (by omega)
  ·rw[ay hn,aa,dk hn]
theorem bYn:((2039:Int)≠0)=True:=by simp
def aLw (b n:Int)(h:0<=n/\n<2048):vH b n=some (F5 2039 11 b n 1):=by
 grind[aLv,rT,and_one,Ri,bNd,bYn,gd_T,bd_s,aA,FUEL,fM,vH]
def aFt (b n:Int)(h:0<=n/\n<2048)(hb:0<=b/\b<2039):iB b n 2039=some (F5 2039 11 b n 1):=by unfold iB;rw[show b.tmod 2039=b by rw[bv hb.1];omega,show(1:Int).tmod 2039=1 by decide,aLv (m:=2039) (by grind[Int.tmod_eq_emod_of_nonneg,Int.tdiv_eq_ediv_of_nonneg,aJ,bYn,gd_T,bd_s]) 11 b n 1 FUEL (by grind[fM]) h.1 (by omega) (by omega)];rfl
def I5 (x:Int):wP x=some (oO x):=by unfold wP oO;rw[aLw _ _ (by decide)];cases bG x 1 2038<;>rfl
def I6 (x:Int):xC x=some (oO x):=by
 unfold xC oO;cases h:bG x 1 2038 with
 |false=>rfl
 |true=>have:=jK h;rw[aFt _ _ (by decide) (by grind)];rfl
def aTn (g n:Int):Zn g n=some (fJ g n):=by unfold Zn fJ;have hr:=nP (p:=n) (q:=1019) (by decide);rw[aLw _ _ ⟨hr.1,by omega⟩];cases oO g<;>rfl
def aTo (g n:Int):d9 g n=some (fJ g n):=by
 unfold d9 fJ;have hr:=nP (p:=n) (q:=1019) (by decide);cases h:oO g with
 |false=>rfl
 |true=>have a:=h;unfold oO at a;rw[ac] at a;have:=jK a.1;rw[aFt _ _ ⟨hr.1,by omega⟩ (by grind)];rfl
def Jr (a b:Int):aG3 a b=some (aCo a b):=by rfl
def aH0:= @Jr
def aDx (a b c:Int):aC3 a b c=some (aCp a b c):=rfl
def aP9 (a b:Int):Ua a b=some (sN a b):=by
 unfold Ua sN;rw[aA (by simp),bd_s];have h:=(nS a [157,b]).1
 grind[decide_eq_false,decide_eq_true,bEv,jF,bO]
def aQa (a b:Int):aPa a b=some (sN a b):=by rfl
def Pt (a b:Int):aKq a b=some (Yg a b):=by rfl
def aLx:= @Pt
def aAm (a b:Int):U5 a b=some (aWo a b):=by unfold U5 aWo;rw[aA (by simp)];cases bG a 0 2147483647<;>rfl
def aYc:= @aAm
def aQb (k:A3):aO8 k=some (aKb k):=rfl
def bL7 {c n:Int}{l:List Int}(hn:1<=n/\n<=7)(hl:l.length<=34359738368){F:(List AX×Int->Option (List AX))->List AX×Int->Option (List AX)}(a:∀rec (s:List AX) (i:Int),1<=i->i<=8->s.length<=8->F rec (s,i)=bif decide (i<=n) then rec (s++[⟨i,Gx c l i⟩],i+1) else some s):EV.bI FUEL F ([],1)=some ((List.range n.toNat).map λ(i:Nat)=>(⟨(i:Int)+1,Gx c l ((i:Int)+1)⟩:AX)):=
 tJ (λi=>((List.range i).map λ(i:Nat)=>(⟨(i:Int)+1,Gx c l ((i:Int)+1)⟩:AX),(i:Int)+1)) n.toNat (by omega) (by grind[decide_eq_true,List.range_succ]) (by grind[decide_eq_false]) rfl
def aH1 (c:Int)(l:List Int)(n:Int)(h:l.length<=34359738368):Ic c l n=some (Gy c l n):=by
 unfold Ic Gy;cases h1:bG n 1 7 with
 |false=>rfl
 |true=>
  have hn:=jK h1;rw[bL7 (c:=c) hn h (by grind[aA,bd_s,aS,Gx,aJ])];by_cases h2:(l.length:Int)<n
  all_goals simp_all[ay,au]
def aQc (pin salt key sec:Int)(cs:List Int)(n lim:Int)(h:cs.length<=34359738368):Ub pin salt key sec cs n lim=some (Yh pin salt key sec cs n lim):=by
 unfold Ub Yh bE5;simp only[aA h,bd_s];have hl:=bC2 sec cs n;generalize Gy sec cs n=l at hl ⊢;cases bG pin 0 9999 with
 |false=>rfl
 |true=>
 cases bG salt 0 1000000 with
 |false=>rfl
 |true=>
 cases bZ key with
 |false=>rfl
 |true=>
 cases cO sec 1019==0 with
 |true=>rfl
 |false=>
 cases bG lim 1 10 with
 |false=>rfl
 |true=>
 rw[bW4 (l:=l) (λs=>aKb ⟨s,0,0,lim⟩) (by omega) (λrec i s hi hs=>by
  have a:∀x:AC,aS s [x]:=(by grind[aS]);simp only[dD hi,ae,aL hi,bd_s,aA (a _)];rfl) (by simp)]
 cases l with
 |nil=>rfl
 |cons x l=>rfl
def aTp (l:List AG)(b:AP)(h:l.length<=34359738368/\b.sz<=34359738368):Zg l b=some (dM l b):=by
 unfold Zg dM;have hb:b.Boxes.length<=34359738368:=by grind[AP.sz]
 simp only[aA h.1,aA h.2,aA (show b.Boxes.length<=34359738368/\l.length<=34359738368 from⟨hb,h.1⟩),bd_s];cases bD l<;>cases gY b l<;>rfl
def bJi (s:AB)(id m:Int):(vB s id m).sz=s.sz+1:=by
 grind[vB,AB.sz,List.length_append,List.length_cons,List.length_nil,AI.sz,Td,id,List.take_append_drop]
def bQ9 {l:List AI}{id:Int}{F:(Int->Option Int)->Int->Option Int}(hl:l.length<=34359738368)(b:∀rec (i:Nat) (hi:i<l.length),F rec (i:Int)=bif decide (l[i].Id<id) then rec ((i+1:Nat):Int) else some (i:Int))(c:∀rec,F rec (l.length:Int)=some (l.length:Int)):EV.bI FUEL F 0=some (Td id l:Int):=
 aOt (λa:AI=>decide (a.Id<id)) (λi=>some (i:Int)) (λi=>(i:Int)) hl b c
def bU5 (id:Int)(l:List AI):Td id l<=l.length:=O5
def aH2 (s:AB)(id m:Int)(h:s.sz<=34359738300):Hr s id m=some (oP s id m):=by
 unfold Hr oP;have hl:s.Accounts.length<=s.sz:=by grind[AB.sz]
 have hk:=bU5 id s.Accounts;have b:∀(x y:List AI),x.length+y.length<=34359738400->aS x y:=(by grind[aS]);have hs:s.sz<=34359738368:=by omega
 have h1:=bJi s id m;rw[aA hs,bd_s,bQ9 (id:=id) (l:=s.Accounts) (by omega) (by grind[dD,aL,bd_s,aJ]) (by simp),bd_s];have a:gH s.Accounts (Td id s.Accounts:Int):=⟨by omega,by omega⟩;have he:(List.take (Td id s.Accounts) s.Accounts).length+(List.drop (Td id s.Accounts) s.Accounts).length=s.Accounts.length:=by rw[<-ax,cF]
 have ht:(List.take (Td id s.Accounts) s.Accounts).length<=s.Accounts.length:=by omega
 have hd:(List.drop (Td id s.Accounts) s.Accounts).length<=s.Accounts.length:=by omega
 rw[bw,aA a,aA a,aA (by grind),aA (by grind),aA (by grind),aA hs,bd_s,bo];rw[show(AB.mk s.Name (List.take (Td id s.Accounts) s.Accounts++[AI.mk id m []]++List.drop (Td id s.Accounts) s.Accounts) s.Book s.Logins)=vB s id m from rfl,aA (by omega)];cases cZ s<;>cases cZ (vB s id m)<;>rfl
def bXp {α:Type}{x y:List α}(h:x.length<=1000)(a:y.length<=1000):aS x y:=by grind[aS]
def aAn (seed:Int)(n:Nat):(dQ seed n).length=n:=by simp[dQ]
def aLy (seed:Int)(n:Nat):dQ seed (n+1)=dQ seed n++[bQ (aN seed (n:Int))]:=by simp[dQ,dg]
def bRa (seed:Int)(n:Nat):aT (dQ seed (n+1)) 0=some (bQ (aN seed 0)):=by rw[show(0:Int)=((0:Nat):Int) from rfl,aL (by simp[aAn])];simp[dQ]
def bFs (seed:Int)(n:Nat)(h:1<=n):dQ seed n=bQ (aN seed 0)::(dQ seed n).drop 1:=by obtain⟨m,rfl⟩:∃m,n=m+1:=⟨n-1,by omega⟩;simp[dQ,List.range_succ_eq_map]
abbrev sT (s:AB):ByteArray×List AI×Int×Int×List A0×List Int:=(s.Name,s.Accounts,s.Book.Seed,s.Book.Next,s.Book.Open,s.Logins)
theorem aLz (nm:ByteArray):∀(l:List AD) (k:Nat) (d:AD) (s:AB),zB nm k (l++[d]) s=(fC (zB nm k l s) 1 ((k+l.length:Nat):Int) (eQ d.Store nm ((k+l.length:Nat):Int))).1
 |[],k,d,s=>rfl
 |x::l,k,d,s=>by
  rw[cI];show zB nm (k+1) (l++[d]) _=_;rw[aLz nm l (k+1) d,aq,show k+1+l.length=k+(l.length+1) by omega];rfl
def bRb {nm:ByteArray}{l:List AD}{s0:AB}(hl:l.length<=3)(hs:s0.sz<=1000){F:(Nat×ByteArray×List AI×Int×Int×List A0×List Int->Option (ByteArray×List AI×Int×Int×List A0×List Int))->Nat×ByteArray×List AI×Int×Int×List A0×List Int->Option (ByteArray×List AI×Int×Int×List A0×List Int)}
  (a:∀rec (i:Nat) (hi:i<l.length) (s:AB),s.sz<=2000->F rec (i,sT s)=rec (i+1,sT (fC s 1 (i:Int) (eQ l[i].Store nm (i:Int))).1)) (b:∀rec s,F rec (l.length,sT s)=some (sT s)):EV.bI FUEL F (0,sT s0)=some (sT (zB nm 0 l s0)):=
 tJ (λi=>(i,sT (zB nm 0 (l.take i) s0))) l.length (by omega) (by grind[aGv,s0,List.length_take,List.take_succ_eq_append_getElem,aLz]) (by simp[*]) rfl
def bJj {α:Type}{p r:List α}{s:α}:aT (p++s::r) ((p.length:Nat):Int)=some s:=by simp[aL]
def bU6 {α ι:Type}(e:Nat->ι){p0 l:List α}(f:α->α){F:(ι×List α->Option (List α))->ι×List α->Option (List α)}(hl:l.length<=1000)
  (a:∀rec (p:List α) (d:α) (r:List α),p.length+1+r.length=p0.length+l.length->d∈l->F rec (e p.length,p++d::r)=rec (e (p.length+1),p++f d::r)) (b:∀rec (p:List α),p.length=p0.length+l.length->F rec (e (p0.length+l.length),p)=some p):EV.bI FUEL F (e p0.length,p0++l)=some (p0++l.map f):=
 tJ (λi=>(e (p0.length+i),p0++(l.take i).map f++l.drop i)) l.length (by omega) (λrec i hi=>by
  have h2:(p0++(l.take i).map f).length=p0.length+i:=by grind
  grind[List.append_assoc,List.singleton_append,Nat.add_assoc,List.take_succ_eq_append_getElem,List.map_singleton,List.getElem_mem,List.drop_eq_getElem_cons,List.length_drop]) (by simp[*]) (by simp)
def bDu (n:Nat)(d:AD):Nat->AD
 |0=>d
 |j+1=>Yi (aB (j:Int)) n (bDu n d j)
def Pv (j:Int):(aB j).size<=100:=by unfold aB;cases j==0<;>cases j==1<;>decide
def bRc {nm:ByteArray}{n:Nat}{d:AD}{r:List AD}(hn:n<=3)(hd:d.sz<=100){F:(Nat×List AD->Option (List AD))->Nat×List AD->Option (List AD)}
  (a:∀rec (i:Nat) (x:AD),i<n->x.sz<=1000->F rec (i,x::r)=rec (i+1,(bN x nm (i:Int) false).1::r)) (b:∀rec x,F rec (n,x::r)=some (x::r)):EV.bI FUEL F (0,d::r)=some (Yi nm n d::r):=
 tJ (λi=>(i,Yi nm i d::r)) n (by omega) (λrec i hi=>by
  have h1:=aUt nm i d;rw[a rec i _ hi (by omega)];rfl) (λrec=>b rec _) rfl
def bRd {n:Nat}{d:AD}{r:List AD}{F:(Nat×List AD->Option (List AD))->Nat×List AD->Option (List AD)}(hn:n<=3)(hd:d.sz<=10)
  (a:∀rec (j:Nat) (x:AD),j<2->x.sz<=100->F rec (j,x::r)=rec (j+1,Yi (aB (j:Int)) n x::r)) (b:∀rec x,F rec (2,x::r)=some (x::r)):EV.bI FUEL F (0,d::r)=some (bDu n d 2::r):=
 tJ (λj=>(j,bDu n d j::r)) 2 (by omega) (λrec j hj=>by
  have h1:∀j:Nat,(bDu n d j).sz<=d.sz+j*n:=by intro j;induction j<;>grind[aUt,aB,bDu,Yi,Nat.add_mul]
  have h2:=h1 j;have c:j*n<=2*3:=gE (by omega) hn;rw[a rec j _ hj (by omega)];rfl) (λrec=>b rec _) rfl
def bL8 {seed t:Int}(ht:1<=t/\t<=7){F:(List Int×Int->Option (List Int))->List Int×Int->Option (List Int)}(a:∀rec (s:List Int) (i:Int),1<=i->i<=8->s.length<=8->F rec (s,i)=bif decide (i<t) then rec (s++[aV seed [307,i]],i+1) else some s):EV.bI FUEL F ([],1)=some (aOw seed t):=
 tJ (λi=>((List.range i).map λ(k:Nat)=>aV seed [307,(k:Int)+1],(i:Int)+1)) (t-1).toNat (by omega) (by grind[decide_eq_true,List.range_succ]) (λrec=>by
  rw[a rec _ _ (by omega) (by omega) (by simp;omega),ay (by omega),aa];rfl) rfl
def bOo (s:AB):AB.mk s.Name s.Accounts (AN.mk s.Book.Seed s.Book.Next s.Book.Open) s.Logins=s:=rfl
def cBm (s:AJ):AD.mk s [] (0:Int) (0:Int) (0:Int) (AF.mk [])=bQ s:=rfl
def cC8 (seed:Int)(i:Nat):AJ.mk (1:Int) (i:Int) (aV seed [277,(i:Int)]) (0:Int)=aN seed (i:Int):=rfl
def Pw (a b c:Int):Og a b c=some (fK a b c):=by unfold Og fK;cases cO c 1019==0<;>rfl
def aL0:= @Pw
def Ay (s:AX)(e:Int):Ak s e=some (aKd s e):=by unfold Ak aKd;cases oO e<;>cases e==1<;>cases bG s.Value 0 1018<;>rfl
def aAo:= @Ay
def Vn (k:A3)(e:Int):Uu k e=some (mZ k e):=by unfold Uu mZ;cases jW k<;>cases k.Guesses==k.Limit<;>cases oO e<;>cases e==1<;>rfl
def aQd:= @Vn
def w9 (a b:Int):o5 a b=some (lZ a b):=by unfold o5 lZ;rw[aA (show(2039:Int)≠0 by decide)];cases oO a<;>cases oO b<;>rfl
def aTq:= @w9
def Vo (v:A4)(o:Int):Uv v o=some (aGw v o):=by unfold Uv aGw;rw[bne];cases Yg o v.Salt==v.Check<;>rfl
def aQe:= @Vo
def aYd (h:AC)(e:Int)(a:h.sz<=34359738300):V8 h e=some (rP h e):=by
 have hq:=a;simp only[AC.sz] at hq;have b:aS h.Saved [h.State]:=by grind[List.length_cons,List.length_nil,aS]
 unfold V8 rP;rw[aA (by omega),bd_s];cases decide (pO h.State<h.Monotonic) with
 |true=>rfl
 |false=>
  rw[aa];cases(mZ h.State e).2.2 with
  |false=>rfl
  |true=>
   simp only[aj,aa,aA b,iv];unfold bXb;cases hd:decide (((h.Saved++[h.State]).length:Int)>30) with
   |false=>rfl
   |true=>have:=of_decide_eq_true hd;rw[ae,aA (show gH (h.Saved++[h.State]) 1 from⟨by omega,by omega⟩),aA (by grind[aS,List.drop,Int.toNat,List.length_nil,List.length_drop,List.length_append,List.length_cons])];rfl
def Yp (n:Int):vJ n=some (zS n):=by
 have hr:=nP (p:=n) (q:=1019) (by decide);have hp:∀m:Int,0<=m->m<1019->((IntKind.i64.wrap (cO n 1019*m)).tmod 1019==1)=((cO n 1019*m)%1019==1):=λm h0 h1=>by
  have h2:0<=cO n 1019*m:=jn hr.1 h0;have d:cO n 1019*m<=1019*1019:=Int.mul_le_mul (by omega) (by omega) h0 (by omega);rw[aJ (by omega) (by omega),bv h2]
 have step:∀m:Int,1<=m->m<1019->IntKind.i64.wrap (m+1)=m+1:=λm _ _=>aJ (by omega) (by omega);unfold vJ zS;cases b:cO n 1019==0 with
 |true=>
  have h0:=eq_of_beq b;rw[Lm (s:=(1:Int)) (λi (s:Int)=>s=(i:Int)+1) 1018 (some (.inr ())) (by omega) (by show(1:Int)=((0:Nat):Int)+1;rfl) (λi s rec hi hv=> ?_) (λs rec hv=> ?_)]
  ·rfl
  ·left;have hv:s=(i:Int)+1:=hv;subst hv;refine⟨_,rfl,?_⟩;rw[au (show(i:Int)+1<1019 by omega),ae,aA (by decide),hp _ (by omega) (by omega),h0,Int.zero_mul,step _ (by omega) (by omega)];rfl
  ·have hv:s=(1018:Nat)+1:=hv;subst hv;rfl
 |false=>
  have h0:0<cO n 1019:=by have:=cf.1 b;omega
  obtain⟨c,e,f⟩:=cBb h0 hr.2;generalize F5 1019 11 (cO n 1019) 1017 1=a at*;rw[Lm (s:=(1:Int)) (λi (s:Int)=>s=(i:Int)+1/\(i:Int)+1<=a) 1018 (some (.inl a)) (by omega) ⟨by show(1:Int)=((0:Nat):Int)+1;rfl,by omega⟩ (λi s rec hi hv=> ?_) (λs rec hv=> ?_)]
  ·rfl
  ·obtain⟨rfl,hv⟩:=hv;rw[au (show(i:Int)+1<1019 by omega),ae,aA (by decide),hp _ (by omega) (by omega)];by_cases hm:(i:Int)+1=a
   ·right;rw[hm,c];rfl
   ·left;refine⟨_,⟨rfl,by omega⟩,?_⟩;rw[cf.2 (λh=>hm (bT2 (by omega) (by omega) h c)),aa,step _ (by omega) (by omega)];rfl
  ·obtain⟨rfl,hv⟩:=hv;omega
theorem cC9:((1019:Int)≠0)=True:=by simp
def bAg (b n:Int)(h:0<=n/\n<2048)(hb:0<=b/\b<1019):iB b n 1019=some (F5 1019 11 b n 1):=by unfold iB;rw[show b.tmod 1019=b by rw[bv hb.1];omega,show(1:Int).tmod 1019=1 by decide,aLv (m:=1019) (by grind[Int.tmod_eq_emod_of_nonneg,Int.tdiv_eq_ediv_of_nonneg,aJ,cC9,gd_T,bd_s]) 11 b n 1 FUEL (by grind[fM]) h.1 (by omega) (by omega)];rfl
def Yq (n:Int):vI n=some (zS n):=by have hr:=nP (p:=n) (q:=1019) (by decide);unfold vI zS;rw[bAg _ _ (by decide) ⟨hr.1,hr.2⟩];cases cO n 1019==0<;>rfl
def aDy (a b:Int):Dy a b=some (aKf a b):=by unfold Dy aKf;cases cO b 1019==0<;>rfl
def aDz (a b:Int):Dt a b=some (aKf a b):=by unfold Dt aKf fJ;cases oO a<;>cases cO b 1019==0<;>rfl
theorem aH3 {σ:Type}(g:σ->Nat->σ)(s:σ)(i:Nat):(List.range (i+1)).foldl g s=g ((List.range i).foldl g s) i:=by rw[dg,eR];rfl
theorem getD_at {l:List Int}{i:Nat}(h:i<l.length):l.getD i 0=l[i]:=by simp[*]
def bDv {l:List Int}{i:Int}(h0:0<=i)(h1:i<(l.length:Int)):aT l i=some (l.getD i.toNat 0):=by
 grind[List.getD,List.getElem?_eq_getElem,jP]
def I7 (l:List Int)(k a:Int)(hl:l.length<=34359738368):xE l k a=some (Ga l k a):=by
 unfold xE Ga;rw[aJ3 hl];cases hk:(decide (k<0)||decide (k>=(l.length:Int))) with
 |true=>rfl
 |false=>
  have b:=Gw hk;rw[aa,cC];rw[Lm (τ:=Int⊕Int) (s:=((1:Int),(0:Nat))) (λi (s:Int×Nat)=>i<=l.length/\s=((List.range i).foldl (aKe l k a) 1,i)/\eF (Te (λq=>cO q 1019) l) 0 (l.take i)=false) l.length
   (some (bif eF (Te (λq=>cO q 1019) l) 0 l then .inl 0 else .inr ((List.range l.length).foldl (aKe l k a) 1))) (by omega) ⟨ct _,rfl,rfl⟩ (λi s rec hi hv=> ?_) (λs rec hv=> ?_)]
  ·cases eF (Te (λq=>cO q 1019) l) 0 l<;>rfl
  ·obtain⟨_,rfl,hv⟩:=hv;simp only[dD hi,ae];rw[aKg (f:=λq=>cO q 1019) hi (by omega) (.inl (.inl (.inl 0))) (.inr ()) (λrec' j hj=>by
    simp only[dD hj,ae,aL (show j<l.length by omega),aL hi,bd_s]) (λrec'=>by simp only[rU,aa])]
   cases hd:Te (λq=>cO q 1019) l i l[i] with
   |true=>right;rw[cBa hi hd];rfl
   |false=>
    left;refine⟨_,⟨hi,rfl,bT1 hi hv hd⟩,?_⟩;rw[aH3];unfold aKe;simp only[aa,nx_r,bne];cases he:((i:Int)==k) with
    |true=>rfl
    |false=>simp only[cy,ae,aa,aL hi,bDv b.1 b.2,bd_s,aA (show(1019:Int)≠0 by decide),getD_at hi];rw[show zS (cO (IntKind.i64.wrap (cO (l.getD k.toNat 0) 1019-cO l[i] 1019)) 1019)=zS (IntKind.i64.wrap (cO (l.getD k.toNat 0) 1019-cO l[i] 1019)) from bQj (by rw[bT3,bT3];omega)];rfl
  ·obtain⟨_,rfl,hv⟩:=hv;simp only[rU,aa];rw[cG] at hv;rw[hv];rfl
def I8 (l:List Int)(k a:Int)(hl:l.length<=34359738368):xD l k a=some (Ga l k a):=by
 unfold xD Ga;rw[nK,bd_s];cases hk:(decide (k<0)||decide (k>=(l.length:Int))) with
 |true=>rfl
 |false=>
  have b:=Gw hk;rw[aa,cC];rw[gL (l:=l) (Te (λq=>cO q 1019) l) (.inl (0:Int)) (.inr ()) (by omega) (λrec i hi=>by
   simp only[dD hi,ae];rw[aKg (f:=λq=>cO q 1019) hi (by omega) (.inl (.inl (0:Int))) (.inr ()) (by grind[dD,aL,bd_s,BEq.comm]) (by simp)];cases Te (λq=>cO q 1019) l i l[i]<;>rfl) (by simp)]
  cases eF (Te (λq=>cO q 1019) l) 0 l with
  |true=>rfl
  |false=>
   simp only[aa,nx_r,bDv b.1 b.2,bd_s];rw[Lm (τ:=Int) (s:=((1:Int),(0:Nat))) (λi (s:Int×Nat)=>s=((List.range i).foldl (aKe l k a) 1,i)) l.length (some ((List.range l.length).foldl (aKe l k a) 1)) (by omega) rfl (λi s rec hi hv=> ?_) (λs rec hv=> ?_)]
   all_goals grind[aH3,dD,aKe,bne,Bool.not_true,bd_s,Bool.not_false,aL,aA,getD_at]
def cDa (a b:Nat):((a:Int)==(b:Int))=(a==b):=by
 grind
def Lr (ix vs:List Int)(h:ix.length<=34359738368/\vs.length<=34359738368):rQ ix vs=some (nM ix vs):=by
 unfold rQ nM;rw[show((ix.length:Int) !=(vs.length:Int))= !(ix.length==vs.length) by rw[bne,cDa],nK,bd_s,show((ix.length:Int)==0)=(ix.length==0) by rw[show(0:Int)=((0:Nat):Int) from rfl,cDa]];cases hc:(!(ix.length==vs.length)||ix.length==0) with
 |true=>rfl
 |false=>
  simp only[bp,dm,cT,cf] at hc;have hlen:=hc.1;rw[aa,cC];rw[gL (l:=ix) (rD ix vs) (.inl ((0:Int),false)) (.inr ()) (by omega) (λrec i hi=>by
   simp only[dD hi,ae,aL hi,aL (show i<vs.length by omega),bd_s,nK];unfold rD;rw[getD_at (show i<vs.length by omega)];cases bG ix[i] 1 7 with
   |false=>rfl
   |true=>
    cases oO (vs[i]'(by omega)) with
    |false=>rfl
    |true=>
     simp only[aj,iv,aa,cC];rw[aKg (f:=λq=>q) hi (by omega) (.inl (.inl ((0:Int),false))) (.inr ()) (λrec' j hj=>by
      simp only[dD hj,ae,aL (show j<ix.length by omega),bd_s]) (λrec'=>by simp only[rU,aa])]
     cases Te (λq=>q) ix i ix[i]<;>rfl) (λrec=>by simp only[rU,aa])]
  cases eF (rD ix vs) 0 ix with
  |true=>rfl
  |false=>
   simp only[aa,nx_r];rw[Lm (τ:=Int) (s:=((1:Int),(0:Nat))) (λi (s:Int×Nat)=>s=((List.range i).foldl (λo i=>lZ o (fJ (vs.getD i 0) (Ga ix (i:Int) 0))) 1,i)) ix.length (some (bNq ix vs)) (by omega) rfl (λi s rec hi hv=> ?_) (λs rec hv=> ?_)]
   ·rfl
   ·left;subst hv;refine⟨_,rfl,?_⟩;rw[aH3];simp only[dD hi,ae,aL (show i<vs.length by omega),bd_s,aA h.1,getD_at (show i<vs.length by omega)]
   ·subst hv;simp only[rU,aa];unfold bNq;rw[hlen]
def aQf (hs:List AC)(a:List Int)(h:hs.length<=34359738368/\a.length<=34359738368):Ux hs a=some (lQ hs a):=by
 unfold Ux lQ;rw[gL (l:=a) (P6 hs a) (.inl false) (.inr ()) (by omega) (λrec i hi=>by
  simp only[dD hi,ae,aL hi,bd_s];rw[aJ3 h.1];unfold P6;cases(decide (a[i]<0)||decide (a[i]>=(hs.length:Int))) with
  |true=>rfl
  |false=>
   simp only[aa,cC];rw[aKg (f:=λq=>q) hi (by omega) (.inl (.inl false)) (.inr ()) (λrec' j hj=>by
    simp only[dD hj,ae,aL (show j<a.length by omega),bd_s]) (λrec'=>by simp only[rU,aa])]
   cases Te (λq=>q) a i a[i]<;>rfl) (λrec=>by simp only[rU,aa])]
 cases eF (P6 hs a) 0 a<;>rfl
def bAh (hs:List AC)(a:List Int)(pin b:Int)(h:hs.length<=34359738368/\a.length<=34359738368):aFm hs a pin b=some (aWu hs a pin b):=by unfold aFm aWu lQ;rw[gL (l:=a) (P6 hs a) (.inl false) (.inr ()) (by omega) (by grind[dD,aL,bd_s,aA,gH,Int.toNat_natCast,List.take,List.length_take,P6,Te,bd,decide,jM]) (by simp)];rw[bne];cases eF (P6 hs a) 0 a<;>cases cO b 1019==0<;>rfl
def bAi (hs:List AC)(a:List Int)(e:Int)(h:(uY AC.sz hs<=34000000000/\a.length<=100000000)/\lQ hs a=true):aFo hs a e=some (rC hs a e):=by
 obtain⟨⟨h1,h2⟩,b⟩:=h;unfold aFo;rw[aA (show uY AC.sz hs<=34359738368 by omega),bd_s];rw[Lm (τ:=List Int×List Int×List AC) (s:=(([]:List Int),([]:List Int),(0:Nat),hs)) (λi (s:List Int×List Int×Nat×List AC)=>s=((nN e hs a i).2.1,(nN e hs a i).2.2,i,(nN e hs a i).1)) a.length
  (some ((rC hs a e).2.1,(rC hs a e).2.2,(rC hs a e).1)) (by omega) rfl (λi s rec hi hv=> ?_) (λs rec hv=> ?_)]
 ·rfl
 ·left;subst hv;refine⟨_,rfl,?_⟩;have c:=P7 (e:=e) b i (by omega);have hc:=aCq b hi;rw[Ha hi];generalize nN e hs a i=s at*;obtain⟨q1,q2,q3,q4⟩:=c;have hk:a[i].toNat<s.1.length:=by omega
  have hg:s.1.getD a[i].toNat default=s.1[a[i].toNat]:=by simp[List.getD,ab hk]
  have d:aT s.1 a[i]=some s.1[a[i].toNat]:=jP hc.1 hk;have l:=q2 _ (cp hk);have f:=l;simp only[AC.sz] at f;simp only[dD hi,ae,aL hi,bd_s,d];unfold bE9 rP;rw[hg];generalize s.1[a[i].toNat]=x at*;simp only[nK,bd_s];cases hb:(decide (pO x.State<x.Monotonic)|| !(mZ x.State e).2.2) with
  |true=>simp only[ae,aa,aA (show x.sz<=34359738368 by omega),bd_s]
  |false=>
   simp only[aa,ae,bo];rw[aA (show aS ([]:List A3) x.Saved by unfold aS;simp only[bc];omega),aA (show aS x.Saved [x.State] by unfold aS;simp only[aq,bc];omega)];have j:∀y:Int,aS s.2.1 [y]:=λy=>by unfold aS;simp only[aq,bc];omega
   have k:∀y:Int,aS s.2.2 [y]:=λy=>by unfold aS;simp only[aq,bc];omega
   unfold bXb;cases hd:decide (((x.Saved++[x.State]).length:Int)>30) with
   |false=>simp only[aa,aA (j _),aA (k _),bd_s]
   |true=>have:=of_decide_eq_true hd;simp only[ae,aA (show gH (x.Saved++[x.State]) 1 from⟨by omega,by omega⟩),aA (j _),aA (k _),bd_s];rfl
 ·subst hv;simp only[rU,aa];unfold nN rC;rw[cG]
def bOp {e:Int}{hs:List AC}{a:List Int}(h:lQ hs a=true):AskIn (uY AC.sz hs) hs a.length (rC hs a e):=by have:=P7 (e:=e) h a.length (ak _);unfold nN at this;rw[cG] at this;exact this
def bOq (hs:List AC):hs.length<=uY AC.sz hs:=by simp
def aL1 (v:A4)(hs:List AC)(a:List Int)(pin b:Int)(h:uY AC.sz hs<=34000000000/\a.length<=100000000):Ov v hs a pin b=some (Cs v hs a pin b):=by
 have hl:=bOq hs;unfold Ov Cs aWu;rw[aA (show hs.length<=34359738368/\a.length<=34359738368 by omega),bd_s];cases hc:lQ hs a with
 |false=>simp only[aA (show uY AC.sz hs<=34359738368 by omega),bd_s];rfl
 |true=>
  simp only[aj,aa,nK,bd_s,cA];rw[show(!(!(cO b 1019==0)&&bG pin 0 9999))=(cO b 1019==0|| !bG pin 0 9999) by rw[Bool.not_and,Bool.not_not]];cases(cO b 1019==0|| !bG pin 0 9999) with
  |true=>simp only[aA (show uY AC.sz hs<=34359738368 by omega),bd_s,ae]
  |false=>obtain⟨q1,q2,q3,q4⟩:=bOp (e:=fK v.Salt pin b) hc;simp only[aa];rw[aA ⟨⟨h.1,h.2⟩,trivial⟩,bd_s,aA (show(rC hs a (fK v.Salt pin b)).2.1.length<=34359738368/\(rC hs a (fK v.Salt pin b)).2.2.length<=34359738368 by omega),bd_s];unfold kG;generalize rC hs a (fK v.Salt pin b)=r at*;rw[show decide ((r.2.2.length:Int)<(a.length:Int))=decide (r.2.2.length<a.length) by rw[da];omega];cases decide ((a.length:Int)<v.Threshold)<;>cases decide (r.2.2.length<a.length)<;>cases(nM r.2.1 r.2.2).2<;>rfl
def aL2 (v:A4)(hs:List AC)(a:List Int)(pin b:Int)(h:uY AC.sz hs<=34000000000/\a.length<=100000000):Oh v hs a pin b=some (bNt v hs a pin b):=by
 have hl:=bOq hs;unfold Oh bNt Cs bTz;rw[aA (by omega),bd_s,aA (by omega),bd_s];cases hm:aWu hs a pin b with
 |false=>rfl
 |true=>
  have hc:lQ hs a=true:=by
   grind[aWu]
  simp only[aj,aa,bd_s,cA];have main:EV.bI (α:=List Int×List Int×Bool×List AC) FUEL (λj (c:(List Int×List Int×Bool×Nat×List AC))=>bif (decide ((↑c.2.2.2.1:Int)<(↑a.length:Int))) then(bd (aT a (↑c.2.2.2.1:Int)) λk=>bd (aT (c.2.2.2.2) k) λp=>bd (gd (p.sz<=34359738300) (some (rP p (fK v.Salt pin b)))) λf=>bd (aT (c.2.2.2.2) k) λG=>bd (bif (c.2.2.1) then(some (f.2.2)) else(some (false))) λt=>gd (aS c.1 [f.1.State.aAP.Index]) (gd (aS c.2.1 [f.2.1]) (j ((c.1++[f.1.State.aAP.Index],c.2.1++[f.2.1],t,(c.2.2.2.1+1),c.2.2.2.2.set k.toNat f.1))))) else(some (c.1,c.2.1,c.2.2.1,c.2.2.2.2))) ([],[],true,0,hs)
    =some (bNr v hs a pin b,bNs v hs a pin b,(kG v hs a pin b).2.2.length==a.length,(kG v hs a pin b).1)/\((kG v hs a pin b).2.2.length=a.length->bNr v hs a pin b=(kG v hs a pin b).2.1/\bNs v hs a pin b=(kG v hs a pin b).2.2)/\(bNr v hs a pin b).length=a.length/\(bNs v hs a pin b).length=a.length:=by
   have st:∀i,i<=a.length->∃ix vs,EV.bI (α:=List Int×List Int×Bool×List AC) 0 (λ_ _=>none) (ix,vs,true,0,hs)=none/\ix.length=i/\vs.length=i/\(((nN (fK v.Salt pin b) hs a i).2.2.length=i)->ix=(nN (fK v.Salt pin b) hs a i).2.1/\vs=(nN (fK v.Salt pin b) hs a i).2.2)/\ix=vC v hs a pin b i/\vs=vD v hs a pin b i:=λi hi=>by
    refine⟨vC v hs a pin b i,vD v hs a pin b i,rfl,?_,?_,?_,rfl,rfl⟩
    ·simp[vC]
    ·simp[vD]
    ·intro he;induction i with
     |zero=>exact⟨rfl,rfl⟩
     |succ i H=>
      have d:=P7 (e:=fK v.Salt pin b) hc i (by omega);rw[Ha hi] at he ⊢;unfold vC vD;rw[dg,cQ,cQ];simp only[bn,e9];have l:Ml v hs a pin b i=rP ((nN (fK v.Salt pin b) hs a i).1.getD (a[i]).toNat default) (fK v.Salt pin b):=by unfold Ml;rw[getD_at hi];rfl
      rw[l];unfold bE9 at he ⊢;cases hb:(rP ((nN (fK v.Salt pin b) hs a i).1.getD (a[i]).toNat default) (fK v.Salt pin b)).2.2 with
      |false=>
       rw[hb] at he;have:=d.le
       grind
      |true=>
       grind[vD,vC,List.length_append,List.length_cons,List.length_nil]
   have all:∀i,i<=a.length->(nN (fK v.Salt pin b) hs a i).2.2.length<=i:=λi hi=>(P7 hc i hi).le;have eAll:nN (fK v.Salt pin b) hs a a.length=kG v hs a pin b:=by unfold nN kG rC;rw[cG]
   refine⟨?_,?_,?_,?_⟩
   ·rw[Lm (τ:=List Int×List Int×Bool×List AC) (s:=(([]:List Int),([]:List Int),true,(0:Nat),hs)) (λi (s:List Int×List Int×Bool×Nat×List AC)=>s=(vC v hs a pin b i,vD v hs a pin b i,(nN (fK v.Salt pin b) hs a i).2.2.length==i,i,(nN (fK v.Salt pin b) hs a i).1)) a.length
     (some (bNr v hs a pin b,bNs v hs a pin b,(kG v hs a pin b).2.2.length==a.length,(kG v hs a pin b).1)) (by omega) rfl (λi s rec hi hv=> ?_) (λs rec hv=> ?_)]
    ·left;subst hv;refine⟨_,rfl,?_⟩;have d:=P7 (e:=fK v.Salt pin b) hc i (by omega);have m:=aCq hc hi;have l:Ml v hs a pin b i=rP ((nN (fK v.Salt pin b) hs a i).1.getD (a[i]).toNat default) (fK v.Salt pin b):=by unfold Ml;rw[getD_at hi];rfl
     have u:vC v hs a pin b (i+1)=vC v hs a pin b i++[(Ml v hs a pin b i).1.State.aAP.Index]:=by simp[dg,cQ,vC]
     have w:vD v hs a pin b (i+1)=vD v hs a pin b i++[(Ml v hs a pin b i).2.1]:=by simp[dg,cQ,vD]
     have l1:(vC v hs a pin b i).length=i:=by grind
     have l2:(vD v hs a pin b i).length=i:=by grind
     rw[u,w,l,Ha hi];generalize vC v hs a pin b i=ix at*;generalize vD v hs a pin b i=vs at*;generalize nN (fK v.Salt pin b) hs a i=s at*;obtain⟨q1,q2,q3,q4⟩:=d;have hk:a[i].toNat<s.1.length:=by omega
     have hg:s.1.getD a[i].toNat default=s.1[a[i].toNat]:=by simp[*]
     have n:aT s.1 a[i]=some s.1[a[i].toNat]:=jP m.1 hk;have I:=q2 _ (cp hk);simp only[dD hi,ae,aL hi,bd_s,n];unfold bE9;rw[hg];generalize s.1[a[i].toNat]=x at*;rw[aA (by omega),bd_s];have z:∀y:Int,aS ix [y]:=(by grind[aS,List.length_cons,List.length_nil]);have A:∀y:Int,aS vs [y]:=(by grind[aS,List.length_cons,List.length_nil]);rw[Mi,bd_s,aA (z _),aA (A _)];have o:(bif s.2.2.length==i then(rP x (fK v.Salt pin b)).2.2 else false)=((bif (rP x (fK v.Salt pin b)).2.2 then s.2.2++[(rP x (fK v.Salt pin b)).2.1] else s.2.2).length==i+1):=by
      grind
     rw[o]
    ·subst hv;simp only[rU,aa];rw[eAll];rfl
   ·intro he;obtain⟨ix,vs,_,_,_,r,B,D⟩:=st a.length (ak _);rw[eAll] at r;have:=r he;rw[B,D] at this;exact this
   ·show(vC v hs a pin b a.length).length=_;simp[vC]
   ·show(vD v hs a pin b a.length).length=_;simp[vD]
  obtain⟨F,J,K,L⟩:=main;rw[F,bd_s];have q:=bOp (e:=fK v.Salt pin b) hc;have hq:(kG v hs a pin b).2.2.length<=a.length:=q.le
  grind[kG,beq_eq_false_iff_ne,decide_eq_true,decide,n1,n2,decide_eq_false,aA,bd_s,nM,nK]
def aL3 (v:A4)(hs:List AC)(a:List Int)(pin b:Int)(h:uY AC.sz hs<=34000000000/\a.length<=100000000):Oi v hs a pin b=some (Cs v hs a pin b):=by unfold Oi;rw[aA h];rfl
def cDb (w:AA):uY AC.sz w.Hosts<=w.sz/\w.Mail.sz<=w.sz:=by
 grind[AA.sz,AV.sz]
def Eg (w:AA)(a:List Int)(pin:Int)(h:w.sz<=34000000000/\a.length<=100000000):Du w a pin=some (iP w a pin):=by
 obtain⟨q1,q2⟩:=cDb w;unfold Du iP;rw[aA (show w.sz<=34359738368 by omega),bd_s,aA (show w.sz<=34359738368 by omega),bd_s];cases aK w with
 |false=>rfl
 |true=>rw[aA (by simp),bd_s,aA (by decide),aA (show uY AC.sz w.Hosts<=34000000000/\a.length<=100000000 by omega),bd_s,aA (show w.Mail.sz<=34359738300 by omega),bd_s];rfl
def aD0:= @Eg
def aL4 (w:AA)(pin:Int)(h:w.sz<=99000000):Ox w pin=some (zC w pin):=by
 have hl:w.Hosts.length<=w.sz:=by simp only[AA.sz];omega
 have a:=aGx w;unfold Ox;have hn:(min w.aAO.Threshold ((w.Hosts.length:Int)+1)).toNat<=w.Hosts.length+1:=by omega
 rw[Lm (τ:=List Int) (s:=(([]:List Int),(0:Int))) (λi (s:List Int×Int)=>s=((List.range i).map (λ(k:Nat)=>(k:Int)),(i:Int))) (min w.aAO.Threshold ((w.Hosts.length:Int)+1)).toNat (some (Cb w)) (by omega) rfl (λi s rec hi hv=> ?_) (λs rec hv=> ?_)]
 ·rw[bd_s,aA (show w.sz<=34000000000/\(Cb w).length<=100000000 by omega)];rfl
 ·left;subst hv;refine⟨_,rfl,?_⟩;simp only[aWa,bd_s];rw[au (show(i:Int)<w.aAO.Threshold by omega),au (show(i:Int)<=(w.Hosts.length:Int) by omega),dc,ae,aA (show aS ((List.range i).map (λ(k:Nat)=>(k:Int))) [(i:Int)] by unfold aS;simp only[bf,d8,aq,bc];omega),aJ (by omega) (by omega),dg,cQ];rfl
 ·subst hv;simp only[aWa,bd_s];generalize hm:(min w.aAO.Threshold ((w.Hosts.length:Int)+1)).toNat=m;rw[show(decide ((m:Int)<w.aAO.Threshold)&&decide ((m:Int)<=(w.Hosts.length:Int)))=false by
   rw[Bool.and_eq_false_iff,cY,cY];omega,aa]
  unfold Cb;rw[hm]
def aL5 (w:AA)(pin:Int)(h:w.sz<=99000000):Oj w pin=some (zC w pin):=by
 have hl:w.Hosts.length<=w.sz:=by grind[AA.sz]
 have b:=aGx w;unfold Oj;have c:IntKind.i64.wrap ((w.Hosts.length:Int)+1)=(w.Hosts.length:Int)+1:=(by grind[aJ]);have a:(if IntKind.i64.wrap ((w.Hosts.length:Int)+(1:Int))<w.aAO.Threshold then IntKind.i64.wrap ((w.Hosts.length:Int)+(1:Int)) else w.aAO.Threshold)=min w.aAO.Threshold ((w.Hosts.length:Int)+1):=by rw[c];split<;>omega
 rw[a];rw[Lm (τ:=List Int) (s:=(([]:List Int),(0:Nat))) (λi (s:List Int×Nat)=>s=((List.range i).map (λ(k:Nat)=>(k:Int)),i)) (min w.aAO.Threshold ((w.Hosts.length:Int)+1)).toNat (some (Cb w)) (by omega) rfl (λi s rec hi hv=> ?_) (λs rec hv=> ?_)]
 ·rw[bd_s,aA (by omega)];rfl
 ·grind[decide_eq_true,min,aA,aS,List.range,List.length_map,List.length_range,List.length_cons,List.length_nil,List.range_succ]
 ·subst hv;simp only;rw[ay (by omega),aa];rfl
def aH4 (w:AA)(d:Int)(h:w.sz<=34359738368):Iy w d=some (kH w d):=by
 unfold Iy kH;simp only[aA h,bd_s];cases a:aK w with
 |false=>unfold bX;rw[a];rfl
 |true=>
  cases hd:aM w d with
  |false=>unfold bX;rw[a,hd];rfl
  |true=>
   have ht:bX w d 0=true:=by obtain⟨_,_,b,_⟩:=uM a;unfold bX;rw[a,hd];unfold iW;rw[au (show(0:Int)<=0 by decide),au (show(0:Int)<(w.Sites.length:Int) by omega)];rfl
   simp only[aj,aa,Gl ht,bd_s,ht,cA];cases bR w d<;>rfl
def aH5 (w:AA)(d:Int)(h:w.sz<=34359738368):Ie w d=some (kH w d):=by
 unfold Ie kH;simp only[aA h,bd_s];cases ht:bX w d 0 with
 |false=>rfl
 |true=>simp only[aj,aa,Gl ht,bd_s,cA];cases bR w d<;>rfl
def aL6 (w:AA)(d j:Int)(b:w.sz<=34359738200):Nv w d j=some (He w d j):=by
 have a:w.sz<=34359738368:=by omega
 unfold Nv He;simp only[aA a,bd_s];rw[show(bR w d==true)=bR w d by cases bR w d<;>rfl];cases hq:bX w d j&&bR w d with
 |false=>rfl
 |true=>rw[ac] at hq;simp only[aj,aa,ae];exact(cK (aA (show iX (O8 j)/\w.sz<=34359738200 from⟨bE3 (vN hq.1).2.2.2.1,b⟩)) rfl)
def bL9 (l:List Int):bLs l=some (bQk l):=rfl
def aYe (a b:List AG)(h:rO a.length a b/\a.length<=34359738368):W9 a b=some true:=by
 obtain⟨⟨rfl,_⟩,hl⟩:=h;unfold W9;have:dR a a=true:=by
  unfold dR;rw[au (ak _),cA,cj];have key:∀(l r:List AG) (i:Nat),a=l++r->l.length=i->eF (λi e=> !bKy (a.getD i default) e) i r=false:=by
   intro l r;induction r generalizing l with
   |nil=>intro i _ _;rfl
   |cons x r c=>
    intro i he hi;have d:a.getD i default=x:=by rw[he,<-hi];simp
    have hr:bKy x x=true:=by unfold bKy;simp
    rw[eF,d,hr];simpa using c (l++[x]) (i+1) (by simpa using he) (by simp[hi])
  exact key [] a 0 rfl rfl
 rw[dh,ae,aA hl,this];rfl
def aD1 (a b:AF)(h:rO a.sz a b/\a.sz<=34359738368):Eb a b=some true:=by obtain⟨⟨rfl,_⟩,c⟩:=h;have hl:a.Entries.length<=34359738368:=c;unfold Eb;rw[cV,aa,yD (a:=a.Entries) (by omega) (λrec i hi=>by simp[hi,aL hi]) (λrec=>by simp)];rfl
def aD2 (a b:AD)(h:rO a.sz a b/\a.sz<=34359738368):Ec a b=some true:=by
 obtain⟨⟨rfl,_⟩,c⟩:=h;have h1:a.Log.length<=34359738368:=by simp only[AD.sz] at c;omega
 have h2:a.aAE.sz<=34359738368:=by simp only[AD.sz,AF.sz] at c ⊢;omega
 unfold Ec;simp[aA (show rO a.Log.length a.Log a.Log/\a.Log.length<=34359738368 from⟨⟨rfl,by omega⟩,h1⟩),aA (show rO a.aAE.sz a.aAE a.aAE/\a.aAE.sz<=34359738368 from⟨⟨rfl,by omega⟩,h2⟩),bd]
def aL7 (a b:AN)(h:rO a.sz a b/\a.sz<=34359738368):Pb a b=some true:=by obtain⟨⟨rfl,_⟩,c⟩:=h;have hl:a.Open.length<=34359738368:=c;unfold Pb;simp only[cV,aa,bd_s];rw[yD (a:=a.Open) (by omega) (λrec i hi=>by simp[hi,aL hi]) (λrec=>by simp)];rfl
def aQg (a b:List Int)(h:rO a.length a b/\a.length<=34359738368):Uz a b=some true:=by obtain⟨⟨rfl,_⟩,hl⟩:=h;unfold Uz;rw[cV,aa,yD (a:=a) (by omega) (λrec i hi=>by simp[hi,aL hi]) (λrec=>by simp)];rfl
def aAp (a b:AI)(h:rO a.sz a b/\a.sz<=34359738368):Au a b=some true:=by obtain⟨⟨rfl,_⟩,c⟩:=h;have hl:a.Credentials.length<=34359738368:=c;unfold Au;simp only[cV,aa,bd_s];rw[yD (a:=a.Credentials) (by omega) (λrec i hi=>by simp[hi,aL hi]) (λrec=>by simp)];rfl
def bDw {α:Type}{f:α->Nat}{l:List α}{i:Nat}(hi:i<l.length):f l[i]<=(l.map f).sum:=by
 induction l generalizing i with
 |nil=>simp at hi
 |cons x l a=>
  cases i with
  |zero=>simp
  |succ i=>have:=a (i:=i) (by simpa using hi);simp only[fa,bn,dt];omega
def aL8 (a b:AB)(h:rO a.sz a b/\a.sz<=34359738368):Pd a b=some true:=by
 obtain⟨⟨rfl,_⟩,c⟩:=h;have h1:a.Book.sz<=34359738368:=by simp only[AB.sz,AN.sz] at c ⊢;omega
 have h2:a.Logins.length<=34359738368:=by simp only[AB.sz] at c;omega
 have e:a.Accounts.length<=34359738368:=by simp only[AB.sz] at c;omega
 have d:∀i (hi:i<a.Accounts.length),a.Accounts[i].sz<=34359738368:=λi hi=>by
  have:=bDw (f:=AI.sz) hi;simp only[AB.sz] at c;omega
 unfold Pd;simp only[dh,aj,cV,aa,bd_s,aA (show rO a.Book.sz a.Book a.Book/\a.Book.sz<=34359738368 from⟨⟨rfl,by omega⟩,h1⟩),aA (show rO a.Logins.length a.Logins a.Logins/\a.Logins.length<=34359738368 from⟨⟨rfl,by omega⟩,h2⟩)];rw[yD (a:=a.Accounts) (by omega) (λrec i hi=>by
  have:=d i hi;simp[hi,aL hi,aA (show rO a.Accounts[i].sz a.Accounts[i] a.Accounts[i]/\a.Accounts[i].sz<=34359738368 from⟨⟨rfl,by omega⟩,this⟩),bd]) (λrec=>by simp)];rfl
def aL9 (a b:AQ)(h:rO a.sz a b/\aU a.Data):Pe a b=some true:=by obtain⟨⟨rfl,_⟩,hb⟩:=h;unfold Pe;simp[aA hb,bd]
def Yr (a b:AP)(h:rO a.sz a b/\(a.sz<=34359738368/\bFb a)):vK a b=some true:=by
 obtain⟨⟨rfl,_⟩,c,hb⟩:=h;have e:a.Boxes.length<=34359738368:=by simp only[AP.sz] at c;omega
 have d:∀i (hi:i<a.Boxes.length),a.Boxes[i].sz<=34359738368:=λi hi=>by
  have:=bDw (f:=AQ.sz) hi;simp only[AP.sz] at c;omega
 unfold vK;simp only[cV,aa,bd_s];rw[yD (a:=a.Boxes) (by omega) (λrec i hi=>by
  have:=d i hi;simp[hi,aL hi,aA (show rO a.Boxes[i].sz a.Boxes[i] a.Boxes[i]/\aU a.Boxes[i].Data from⟨⟨rfl,by omega⟩,hb _ (cp hi)⟩),bd]) (λrec=>by simp)];rfl
def aH6 (a b:AK)(h:rO a.sz a b/\aU a.Data):Jh a b=some true:=by obtain⟨⟨rfl,_⟩,hb⟩:=h;unfold Jh;simp[aA hb,bd]
def aH7 (a b:AR)(h:rO a.sz a b/\(a.sz<=34359738368/\yI a)):Ji a b=some true:=by
 obtain⟨⟨rfl,_⟩,c,hb⟩:=h;have h1:a.Log.length<=34359738368:=by simp only[AR.sz] at c;omega
 have h2:a.Boxes.sz<=34359738368:=by simp only[AR.sz,AP.sz] at c ⊢;omega
 have e:a.History.length<=34359738368:=by simp only[AR.sz] at c;omega
 have d:∀i (hi:i<a.History.length),a.History[i].sz<=34359738368:=λi hi=>by
  have:=bDw (f:=AK.sz) hi;simp only[AR.sz] at c;omega
 unfold Ji;simp only[aA (show rO a.Log.length a.Log a.Log/\a.Log.length<=34359738368 from⟨⟨rfl,by omega⟩,h1⟩),aA (show rO a.Boxes.sz a.Boxes a.Boxes/\(a.Boxes.sz<=34359738368/\bFb a.Boxes) from⟨⟨rfl,by omega⟩,h2,hb.1⟩),bd_s,aj,aa,cV];rw[yD (a:=a.History) (by omega) (λrec i hi=>by
  have:=d i hi;simp[hi,aL hi,aA (show rO a.History[i].sz a.History[i] a.History[i]/\aU a.History[i].Data from⟨⟨rfl,by omega⟩,hb.2 _ (cp hi)⟩),bd]) (λrec=>by simp)];rfl
def aMa (a b:AC)(h:rO a.sz a b/\a.sz<=34359738368):Pf a b=some true:=by obtain⟨⟨rfl,_⟩,c⟩:=h;have hl:a.Saved.length<=34359738368:=c;unfold Pf;simp only[dh,dc,gf,aj,cV,aa,bd_s];rw[yD (a:=a.Saved) (by omega) (λrec i hi=>by simp[hi,aL hi]) (λrec=>by simp)];rfl
def Yt (a b:List AC)(h:rO (uY AC.sz a) a b/\uY AC.sz a<=34359738368):vL a b=some true:=by
 obtain⟨⟨rfl,_⟩,c⟩:=h;have hl:a.length<=34359738368:=by unfold uY at c;omega
 have d:∀i (hi:i<a.length),a[i].sz<=34359738368:=λi hi=>by
  have:=bDw (f:=AC.sz) hi;unfold uY at c;omega
 unfold vL;rw[cV,aa,yD (a:=a) (by omega) (λrec i hi=>by
  have:=d i hi;simp[hi,aL hi,aA (show rO a[i].sz a[i] a[i]/\a[i].sz<=34359738368 from⟨⟨rfl,by omega⟩,this⟩),bd]) (λrec=>by simp)];rfl
def I9 (a b:AV)(h:rO a.sz a b/\a.sz<=34359738368):xG a b=some true:=by obtain⟨⟨rfl,_⟩,c⟩:=h;have hl:a.Notices.length<=34359738368:=c;unfold xG;rw[cV,aa,yD (a:=a.Notices) (by omega) (λrec i hi=>by simp[hi,aL hi]) (λrec=>by simp)];rfl
def aH8 (a b:AA)(h:rO a.sz a b/\(a.sz<=34359738368/\yI a.aAF)):Jj a b=some true:=by
 obtain⟨⟨rfl,_⟩,c,hb⟩:=h;have h1:a.Devices.length<=34359738368/\a.Stolen.length<=34359738368/\a.Sites.length<=34359738368/\a.aAF.sz<=34359738368/\uY AC.sz a.Hosts<=34359738368/\a.Mail.sz<=34359738368:=by simp only[AA.sz,AR.sz,AP.sz,AV.sz,uY] at c ⊢;omega
 have d:∀i (hi:i<a.Devices.length),a.Devices[i].sz<=34359738368:=λi hi=>by
  have:=bDw (f:=AD.sz) hi;simp only[AA.sz] at c;omega
 have e:∀i (hi:i<a.Sites.length),a.Sites[i].sz<=34359738368:=λi hi=>by
  have:=bDw (f:=AB.sz) hi;simp only[AA.sz] at c;omega
 unfold Jj;simp only[cV,dh,dc,gf,aj,aa,bd_s];rw[yD (a:=a.Devices) (by omega) (λrec i hi=>by
  have:=d i hi;simp[hi,aL hi,aA (show rO a.Devices[i].sz a.Devices[i] a.Devices[i]/\a.Devices[i].sz<=34359738368 from⟨⟨rfl,by omega⟩,this⟩),bd]) (λrec=>by simp),nx_r]
 rw[yD (a:=a.Stolen) (by omega) (λrec i hi=>by simp[hi,aL hi]) (λrec=>by simp),nx_r];rw[yD (a:=a.Sites) (by omega) (λrec i hi=>by
  have:=e i hi;simp[hi,aL hi,aA (show rO a.Sites[i].sz a.Sites[i] a.Sites[i]/\a.Sites[i].sz<=34359738368 from⟨⟨rfl,by omega⟩,this⟩),bd]) (λrec=>by simp),nx_r]
 simp only[aA (show rO a.aAF.sz a.aAF a.aAF/\(a.aAF.sz<=34359738368/\yI a.aAF) from⟨⟨rfl,by omega⟩,h1.2.2.2.1,hb⟩),aA (show rO (uY AC.sz a.Hosts) a.Hosts a.Hosts/\uY AC.sz a.Hosts<=34359738368 from⟨⟨rfl,by omega⟩,h1.2.2.2.2.1⟩),aA (show rO a.Mail.sz a.Mail a.Mail/\a.Mail.sz<=34359738368 from⟨⟨rfl,by omega⟩,h1.2.2.2.2.2⟩),bd_s,ae]
def bU7 (x:Int):0<=rT IntKind.i64 x 255/\rT IntKind.i64 x 255<=255:=by
 unfold rT;rw[BitVec.toNat_and];have h:((BitVec.ofInt IntKind.i64.bits x).toNat&&&(BitVec.ofInt IntKind.i64.bits 255).toNat)<=255:=bm Nat.and_le_right (by decide)
 grind[aJ]
theorem aUx {c:AM}(h:bB c):bB (mF c).1/\0<=(mF c).2/\(mF c).2<=255:=by
 unfold mF;obtain⟨h1,h2⟩:=h;cases hc:decide (c.i<(c.b.length:Int)) with
 |true=>
  have hc:=of_decide_eq_true hc;refine⟨⟨?_,h2⟩,bU7 _⟩
  grind[aJ]
 |false=>exact⟨⟨h1,h2⟩,bU7 _⟩
theorem dH {c:AM}(h:bB c)(n:Int):bB (bS c n).1/\0<=(bS c n).2/\(0<n->(bS c n).2<n)/\(n<=0->(bS c n).2=0):=by
 obtain⟨h1,h2,a⟩:=aUx h;obtain⟨k1,k2,k3⟩:=aUx h1;obtain⟨l1,l2,b⟩:=aUx k1;unfold bS;by_cases hn:n<=0
 ·simp[*]
 ·rw[ay hn];have hn:0<n:=by omega
  simp only[aa];by_cases hb:n<=256
  ·simp_all[fu,fy,absurd,au];omega
  ·rw[ay hb];simp only[aa];generalize(mF c).2=x at*;generalize(mF (mF c).1).2=y at*;generalize(mF (mF (mF c).1).1).2=z at*;rw[aJ (show-9223372036854775808<=x*65536 by omega) (by omega),aJ (show-9223372036854775808<=y*256 by omega) (by omega),aJ (show-9223372036854775808<=x*65536+y*256 by omega) (by omega),aJ (by omega) (by omega)];exact⟨l1,fu n (by omega),λ_=>fy _ hn,λq=>absurd q (by omega)⟩
def bAj (c:AM)(h:bB c):aE6 c=some (mF c):=by
 unfold aE6 mF;rw[aA (by decide),aA (by decide)];cases hc:decide (c.i<(c.b.length:Int)) with
 |true=>have hc:=of_decide_eq_true hc;have h0:=h.1;rw[ae,ae,jP h0 (by omega),List.getD,ab (show c.i.toNat<c.b.length by omega)];rfl
 |false=>rfl
def aYf (c:AM)(n:Int)(h:bB c):Q3 c n=some (bS c n):=by
 grind[decide_eq_false,decide_eq_true,aA,bd_s,Q3,bS,aUx]
def bAk (c:AM)(n:Int)(h:bB c):aFd c n=some (mG c n):=by unfold aFd;rw[aA h];rfl
theorem bMa {c:AM}(h:bB c)(l:List Int):bB (F6 c l).1/\(0<l.length->(F6 c l).2∈l):=by
 grind[List.getElem_mem,List.getD,List.getElem?_eq_getElem,bS,F6,dH]
def bFt (c:AM)(l:List Int)(h:bB c/\0<l.length):aKr c l=some (F6 c l):=by obtain⟨_,h2,a,_⟩:=dH h.1 (l.length:Int);have a:=a (by have:=h.2;omega);unfold aKr;rw[aA h.1,bd_s,oL h2 a];rfl
def bXq {c:AM}(h:bB c):bB (aWw c).1:=by
 grind[mG,bMa,dH,aWw,bB]
def bFu (c:AM)(h:bB c):aKs c=some (aWw c):=by
 have h1:bB (mG c 10).1:=(dH h 10).1;unfold aKs;refine cK (a:=mG c 10) (aA h) ?_;unfold aWw;cases(mG c 10).2 with
 |true=>exact cK (a:=F6 (mG c 10).1 [0,-1,1,2147483646,2147483647]) (aA ⟨h1,by decide⟩) rfl
 |false=>exact cK (a:=bS (mG c 10).1 99999) (aA h1) rfl
def bU8 {c:AM}(h:bB c):bB (aGy c).1/\aZo (aGy c).2:=by
 have e:bB (eA c).1:=(dH h 13).1;have s:0<=(eA c).2:=(dH h 13).2.1;have t:(eA c).2<13:=(dH h 13).2.2.1 (by decide);have i:bB (eB c).1:=(dH e 4).1;have j:0<=(eB c).2:=(dH e 4).2.1;have u:(eB c).2<4:=(dH e 4).2.2.1 (by decide);have l:bB (eC c).1:=(dH i 3).1;have m:0<=(eC c).2:=(dH i 3).2.1;have w:(eC c).2<3:=(dH i 3).2.2.1 (by decide);have n:bB (eD c).1:=(dH l 4).1;have d2:0<=(eD c).2:=(dH l 4).2.1;have d3:(eD c).2<4:=(dH l 4).2.2.1 (by decide);have a:bB (eE c).1:=(dH n 3).1;have o:bB (bS (eE c).1 40).1:=(dH a 40).1;have p:0<=(bS (eE c).1 40).2:=(dH a 40).2.1;have f3:(bS (eE c).1 40).2<40:=(by grind[dH]);have r:bB (mG (eE c).1 2).1:=(dH a 2).1;have hk:1<=eK c/\eK c<=13:=by grind[aJ,eK]
 unfold aGy;generalize eK c=k at*;generalize(eB c).2=b at*;generalize(eC c).2=d at*;generalize(eD c).2=v at*;generalize(bS (eE c).1 40)=f at*;generalize(mG (eE c).1 2)=g at*;generalize eE c=q at*;cases h1:k==11 with
 |true=>rw[cT] at h1;exact⟨o,hk,⟨j,by show b<=3;omega⟩,⟨m,by show d<=2;omega⟩,⟨p,by show f.2<=39;omega⟩,λq=>absurd h1 q⟩
 |false=>
  cases h2:k==4||k==13 with
  |true=>
   refine⟨r,?_,⟨j,by show b<=3;omega⟩,⟨m,by show d<=2;omega⟩,⟨d2,by show v<=39;omega⟩,λ_=>by show v<=3;omega⟩
   grind
  |false=>exact⟨a,hk,⟨j,by show b<=3;omega⟩,⟨m,by show d<=2;omega⟩,⟨d2,by show v<=39;omega⟩,λ_=>by show v<=3;omega⟩
def aTr (c:AM)(h:bB c):Zu c=some (aGy c):=by
 have b:bB (eA c).1:=(dH h 13).1;have d:bB (eB c).1:=(dH b 4).1;have e:bB (eC c).1:=(dH d 3).1;have f:bB (eD c).1:=(dH e 4).1;have i:bB (eE c).1:=(dH f 3).1;unfold Zu;refine cK (a:=eA c) (aA h) (cK (a:=eB c) (aA b) (cK (a:=eC c) (aA d) (cK (a:=eD c) (aA e) (cK (a:=eE c) (aA f) ?_))));change bd (bif eK c==11 then _ else bd (bif eK c==4 then _ else some (eK c==13)) _) _=_;unfold aGy;cases eK c==11 with
 |true=>simp only[ae];exact cK (cK (a:=bS (eE c).1 40) (aA i) rfl) rfl
 |false=>
  simp only[aa];rw[show(bif eK c==4 then(some true:Option Bool) else some (eK c==13))=some (eK c==4||eK c==13) by cases eK c==4<;>rfl,bd_s];cases eK c==4||eK c==13 with
  |true=>
   simp only[ae];cases hq:(mG (eE c).1 2).2 with
   |true=>simp[*]
   |false=>exact cK (cK (a:=mG (eE c).1 2) (aA i) (by rw[hq];rfl)) rfl
  |false=>rfl
def Vp (b:AN)(now:Int)(h:b.sz<=34359738368):uI b now=some (lS b now):=by
 unfold uI lS;rw[aA h,bd_s];cases hb:dK b with
 |false=>rw[cy,ae,aA h];rfl
 |true=>
  have hl:b.Open.length<=16:=by unfold dK at hb;simp only[ac,cn] at hb;exact hb.1.2
  simp only[aj,aa,ae];refine cK (a:=b.Open.filter λc=>decide (c.Until>=now)) (tJ (λi=>(i,(b.Open.take i).filter λc=>decide (c.Until>=now))) b.Open.length (by omega) (λrec i hi=> ?_) (λrec=> ?_) rfl) rfl
  ·simp only[dD hi,ae,aL hi,bd_s];have hk:((b.Open.take i).filter λc=>decide (c.Until>=now)).length<=16:=bm (fg _ _) (by rw[bu];omega);rw[eN hi,List.filter_append];cases hc:decide (b.Open[i].Until>=now) with
   |true=>rw[ae,aA (by unfold aS;rw[ck];omega),bd_s,jc,hc];rfl
   |false=>rw[aa,bd_s,jc,hc];simp
  ·simp only[rU,aa,cG]
def aYg (w:AA)(h:w.sz<=34359738368):V9 w=some (Mo w):=by
 unfold V9 Mo;rw[aA h,bd_s];refine cK (a:=aK (vE w)) (aA (show(vE w).sz<=34359738368 from h)) ?_;cases c:aK (vE w) with
 |false=>rfl
 |true=>
  obtain⟨h2,_⟩:=uM c;change w.Sites.length=2 at h2;have b:∀s∈w.Sites,s.Book.sz<=34359738368:=λs hs=>by
   have h1:s.sz<=w.sz:=by obtain⟨i,hi,rfl⟩:=de.1 hs;have:=Fw (f:=AB.sz) hi;rw[List.getD,ab hi,cJ] at this;simp only[AA.sz];omega
   have:s.Book.sz<=s.sz:=by simp only[AB.sz,AN.sz];omega
   omega
  obtain⟨s0,s1,e⟩:∃s0 s1,w.Sites=[s0,s1]:=by
   match hq:w.Sites,h2 with
   |[s0,s1],_=>exact⟨s0,s1,rfl⟩
  rw[e] at b;have d:=b s0 (by simp);have j:=b s1 (by simp);rw[aj,aa,ae];change bd (bI FUEL _ (0,w.Sites)) _=_;rw[e];refine cK (tJ (λi=>(i,match i with|0=>[s0,s1]|1=>[{s0 with Book:=lS s0.Book (vE w).Now},s1]|_=>[{s0 with Book:=lS s0.Book (vE w).Now},{s1 with Book:=lS s1.Book (vE w).Now}])) 2 (by omega) (λrec i hi=> ?_) (λrec=> ?_) rfl) rfl
  ·rcases(show i=0\/i=1 by omega) with rfl|rfl
   ·exact cK (aA d) rfl
   ·exact cK (aA j) rfl
  ·rfl
def aMb (w:AA)(d j:Int)(o:ByteArray)(h:Ro w d j o/\w.sz<=34359738200):Ot w d j o=some (Yj w d j o):=by
 have a:w.sz<=34359738368:=by omega
 unfold Ot Yj;simp only[aA a,bd_s];cases ht:bX w d j with
 |false=>rfl
 |true=>
  simp only[aj,aa,Gl ht,bd_s,cA];cases bR w d with
  |true=>rfl
  |false=>simp only[cy,aa,ae];exact cK (aA (show iX (AO.mk true o 443)/\w.sz<=34359738200 from⟨h.1 ht,h.2⟩)) rfl
def aMc (w:AA)(d j:Int)(b:w.sz<=34359738200):Ou w d j=some (He w d j):=by
 have a:w.sz<=34359738368:=by omega
 unfold Ou He;simp only[aA a,bd_s,aA (bFq j)];cases ht:bX w d j with
 |false=>rfl
 |true=>
  simp only[aj,aa,Gl ht,bd_s,cA];cases bR w d with
  |false=>rfl
  |true=>simp only[aj,aa,ae];exact cK (aA (show iX (O8 j)/\w.sz<=34359738200 from⟨bE3 (vN ht).2.2.2.1,b⟩)) rfl
def bXr (w:AA)(d j:Int):Ro w d j (aGu j).Host:=λht=>by
 rcases(vN ht).2.2.2.1 with rfl|rfl
 ·exact⟨4,by decide,rfl⟩
 ·exact⟨5,by decide,rfl⟩
def bAl (w:AA)(e:AS)(b:w.sz<=34359738200):aFn w e=some (aGz w e):=by
 have hn:=Pv e.Other;unfold aFn aGz;cases e.Kind==2 with
 |true=>rw[ae,aA b];rfl
 |false=>
  cases e.Kind==3 with
  |true=>rw[aa,ae,aA (by show 6+(aB e.Other).size<=_;omega),aA (by rw[ByteArray.size_append];show 6+(aB e.Other).size+9<=_;omega)];refine cK (a:=((mD w e.Device e.Other).2,(mD w e.Device e.Other).1.Now,(mD w e.Device e.Other).1.Seed,(mD w e.Device e.Other).1.Devices,(mD w e.Device e.Other).1.Stolen,(mD w e.Device e.Other).1.aAF.Log,(mD w e.Device e.Other).1.aAF.Boxes.Epoch,(mD w e.Device e.Other).1.aAF.Boxes.Boxes,(mD w e.Device e.Other).1.aAF.History,(mD w e.Device e.Other).1.Sites,(mD w e.Device e.Other).1.aAO.Salt,(mD w e.Device e.Other).1.aAO.Threshold,(mD w e.Device e.Other).1.aAO.Check,(mD w e.Device e.Other).1.aAO.Masked,(mD w e.Device e.Other).1.Hosts,(mD w e.Device e.Other).1.Pin,(mD w e.Device e.Other).1.Mail.Notices)) (cK (aA (show Ro w e.Device e.Other (aGu e.Other).Host/\w.sz<=34359738200 from⟨bXr _ _ _,b⟩)) rfl) rfl
  |false=>rw[aa,aa,aA b];rfl
def aH9 (w:AA)(e:AS)(h:w.sz<=99000000):Jg w e=some (aWx w e):=by
 have a:w.sz<=34359738368:=by omega
 unfold Jg aWx;cases e.Kind==11 with
 |true=>rw[ae,aA h];rfl
 |false=>
 cases e.Kind==12 with
 |true=>rw[aa,ae,aA a];rfl
 |false=>
 cases e.Kind==13 with
 |true=>rw[aa,aa,ae,aA a];rfl
 |false=>rw[aa,aa,aa,aA a];rfl
def aMd (w:AA)(e:AS)(h:w.sz<=99000000):Oz w e=some (yZ w e):=by
 have a:w.sz<=34359738368:=by omega
 have d:w.sz<=34359738200:=by omega
 have f:w.sz<=100000000:=by omega
 have i:w.sz<=34359738300:=by omega
 have j:w.sz<=10000000000:=by omega
 have k:w.sz<=34359738100:=by omega
 unfold Oz yZ aWv;rw[aA a,bd_s];cases aK w with
 |false=>rw[cy,ae,aA a];rfl
 |true=>
 simp only[aj,aa,aA a,aA d,aA f,aA j,aA k,aA h,bd_s];cases h1:e.Kind==1 with
 |true=>rfl
 |false=>
 simp only[aa];cases h2:e.Kind==2 with
 |true=>simp only[ae,bd_s];unfold aGz;rw[h2];rfl
 |false=>
 cases b:e.Kind==3 with
 |true=>simp only[ae,aa,bd_s];unfold aGz;rw[h2,b];rfl
 |false=>
 simp only[aa,bd_s];cases c:e.Kind==5 with
 |true=>rw[show(e.Kind==4)=false by rw[cT] at c;rw[c];rfl];simp only[ae,aa];unfold aGz;rw[h2,b];rfl
 |false=>
 simp only[aa];cases m:e.Kind==4 with
 |true=>rfl
 |false=>
 cases n:e.Kind==6 with
 |true=>rfl
 |false=>
 cases o:e.Kind==7 with
 |true=>rfl
 |false=>
 cases p:e.Kind==8 with
 |true=>simp only[aa,ae];rw[aA (show w.sz<=34359738300/\_ from⟨i,by decide⟩)];rfl
 |false=>
 cases q:e.Kind==9 with
 |true=>rfl
 |false=>
 cases l:e.Kind==10 with
 |true=>rfl
 |false=>
 simp only[aa];show bd (some (aWx w e)) _=_;rw[bd_s];rfl
def cEx:List (Int×Int):=[(387010709,0),(387010709,1),(387010709,2),(387010709,3)]
structure NewIn (n:Nat) (s:Int) (w:AA):Prop where
 ok:aK w=true
 len:w.Devices.length=n
 dev:∀i (hi:i<n),w.Devices[i]? =some (bIv s n i 1 (nwB n))
 acc:∀j (hj:j<2),∃x l,w.Sites[j]? =some x/\x.Accounts=[⟨1,3,l⟩]/\l.length=n
 two:w.Sites.length=2
 list:∀i:Nat,i<n->iH w (i:Int)=true
 no:iH w (n:Int)=false
end
end Go.VK
