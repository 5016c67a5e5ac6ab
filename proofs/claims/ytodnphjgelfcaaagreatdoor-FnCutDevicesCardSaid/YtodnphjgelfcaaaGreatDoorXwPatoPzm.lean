import Derived.Test.YtodnphjgelfcaaaGreatDoorXwM
import Derived.Test.YtodnphjgelfcaaaGreatDoorLKatox
/- Printed by wip/tools: models, walks, proofs. -/
set_option linter.all false
set_option maxRecDepth 100000
set_option maxHeartbeats 4000000
namespace Go.VK
open Go.RowKit Go.Proofs D
noncomputable section
open EV (bY)
def bCw (a b c:Int):aKt a b c=some (bX a b c):=by unfold aKt bX;show bd (bif decide (b<=a) then some (decide (a<=c)) else some false) _=_;cases decide (b<=a)<;>rfl
def aQl (a b c:Int):Ui a b c=some (bX a b c):=by unfold Ui bX;cases decide (b<=a)<;>rfl
def bFd (p q:Int):aQe p q=some (jH p q):=by
 grind[bK8,bX,aD,bUc,aQe]
def bFe (p q:Int):aQj p q=some (jH p q):=by
 unfold aQj;simp only[bd_bb];by_cases h:1<=q/\q<=1000000000000
 ·rw[aD (by omega)];by_cases ht:p.tmod q<0
  ·simp[h,ht,show ¬q<1 by omega,show ¬q>1000000000000 by omega,bUa h ht];rw[IntKind.wrap_i64];have:=La (p:=p) (q:=q) h.1;omega
  grind[bUb]
 grind[bK8]
theorem aXk:((2147483647:Int)≠0)=True:=by simp
def bCx (l:List Int)(h:l.length<=1099511627776):aKu l=some (xH l):=by
 unfold aKu;rw[gJ (l:=l) hstep (λ_ _=>True) (λs=>some s) (by omega) trivial (by simp) (λrec i s hi _=>by
  simp only[dS hi,ac,aQ hi,bd_s,aXk,gd_T];rfl) (by simp)]
 rfl
def bCy (l:List Int)(h:l.length<=1099511627776):aKv l=some (xH l):=by
 unfold aKv;rw[gJ (l:=l) hstep (λ_ _=>True) (λs=>some s) (by omega) trivial (by simp) (λrec i s hi _=>by
  simp only[dS hi,ac,aQ hi,bd_s,aXk,gd_T];rfl) (by simp)]
 rfl
def aHe (k:Int)(l:List Int)(h:l.length<=34359738368):Iq k l=some (bU k l):=by unfold Iq;rw[aD (by grind[aZ]),aD (by grind[aZ]),aD (by simp;omega)];simp[bU]
theorem I8 {α:Type}{r:List (List α)}{i:Nat}(hi:i<r.length):(r.take (i+1)).flatten=(r.take i).flatten++r[i]:=by
 grind[Option.toList_some,List.flatten_cons,List.flatten_nil,List.take_add_one,List.getElem?_eq_getElem,List.flatten_append]
def aT6 (a:List Int)(r:List (List Int))(h:G5 a r):I5 a r=some (zX a r):=by
 unfold I5;have hs:∀i,(r.take i).flatten.length<=r.flatten.length:=(by grind[List.take_append_drop,List.flatten_append,List.length_append]);rw[aD (by grind[aZ]),gJ (l:=r) (λs x=>s++x) (λi s=>s=a++(r.take i).flatten) (λs=>some s) (by omega) (by simp)
  (by grind[I8,List.append_assoc])
  (λrec i s hi hv=>by
   have e:=I8 hi;have h1:=hs (i+1);rw[e,ay] at h1;simp only[dS hi,ac,aQ hi,bd_s];rw[aD (by grind[List.length_append,aZ])]) (by simp)]
 have:r.foldl (λs x=>s++x) ([]++a)=a++r.flatten:=by rw[bu,aGp (f:=λx:List Int=>x)];simp
 rw[this];rfl
def aHf (k:Int)(l:List Int)(h:l.length<=34359738368):Jj k l=some (bU k l):=by
 grind[bU,zX,aD,bd_s,Jj]
def bFf (a b:Int):aQf a b=some (aYx a b):=by simp[aQf,aYx]
def aZi (n:Int):aC2 n=some (jX n):=by simp[aC2,jX]
def aHg (k:Int)(l:List Int)(h:l.length<=34359738300):Ir k l=some (aV k l):=by unfold Ir;rw[aD (by grind[aZ]),aD (by simp;omega),bd_s,bBj (mR _ _).1];rfl
def aHh (k:Int)(l:List Int)(h:l.length<=34359738300):Jm k l=some (aV k l):=by
 grind[aV,zX,aD,bd_s,Jm]
def aC4 (n:Int):aCw n=some (bL n):=rfl
def aC5 (n:Int):aC1 n=some (bL n):=rfl
def aHi (n:Int):Iu n=some (dQ n):=by unfold Iu dQ;cases bL n<;>rfl
def aHj (n:Int):Jn n=some (dQ n):=by unfold Jn dQ;cases bL n<;>rfl
def aHk (s:AJ):aG8 s=some (iO s):=by rfl
def Yp (s:AJ):Yi s=some (aS s):=rfl
def Yq (s:AJ):Ym s=some (aS s):=by rfl
def aT7 (l:List Int)(x:Int)(h:l.length<=1099511627776):G7 l x=some (iW l x):=by unfold G7;rw[nW (l:=l) (λe=>e==x) (.inl true) (.inr ()) (by omega) (by grind[dS,aQ,bd_s]) (by simp)];unfold iW;cases l.any _<;>rfl
def bFg (l:List Int)(x:Int)(h:l.length<=1099511627776):aQi l x=some (iW l x):=by unfold aQi;rw[nW (l:=l) (λe=>e==x) (.inl true) (.inr ()) (by omega) (by grind[dS,aQ,bd_s]) (by simp)];unfold iW;cases l.any _<;>rfl
def aZj (s:List Int)(x:Int):iW s x=s.contains x:=by
 grind[Bool.beq_comm,List.contains_eq_any_beq,iW]
def aXl {s:List Int}{e:AD}(h:(e.Kind==1)=true):jC s e=bif !iW s e.Device then s++[e.Device] else s:=by unfold jC;rw[h,aZj];cases s.contains e.Device<;>rfl
def aXm {s:List Int}{e:AD}(h:(e.Kind==1)=false):jC s e=bif e.Kind==2 then s.filter (λd=>d !=e.Device) else s:=by
 grind[jC]
def aHl (l:List AD)(h:l.length<=34359738368):Iw l=some (aC l):=by
 unfold Iw;rw[gJ (l:=l) jC (λi s=>s.length<=i) (λs=>some s) (by omega) (by simp) (by grind[aKf])
  (λrec i s hi hv=>by
   simp only[dS hi,ac,aQ hi,bd_s];rw[aD (by omega)];have e:∀x:Int,bY (α:=List Int) FUEL (λa (i8:(List Int×Nat))=>bif (decide ((↑i8.2:Int)<(↑s.length:Int))) then(bd (bd (bB s (↑i8.2:Int)) λ(c:(Int))=>bif (c !=x) then(bd (bB s (↑i8.2:Int)) λ(b:(Int))=>gd (aZ i8.1 [b]) (some (i8.1++[b]))) else(some (i8.1))) λ(f:(List Int))=>a ((f,(i8.2+1)))) else(some (i8.1))) ([],0)=some (s.filter λd=>d !=x):=λx=>by
    rw[gJ (l:=s) (λq y=>bif y !=x then q++[y] else q) (λi q=>q.length<=i) (λq=>some q) (by omega) (by simp) (λi q hi hv=>by cases(s[i] !=x)<;>simp<;>omega)
     (by grind[dS,aQ,bd_s,aD,aZ]) (by simp),Lb]
    simp
   rw[e];cases h1:(l[i].Kind==1) with
   |true=>
    have h2:(l[i].Kind==2)=false:=by simp_all
    rw[aXl h1,h2];rw[aD (by grind[aZ])];cases iW s l[i].Device<;>rfl
   |false=>
    rw[aXm h1,aD (by grind[aZ])];cases(l[i].Kind==2)<;>rfl) (by simp)]
 rfl
def aHm (l:List AD)(h:l.length<=34359738368):Ji l=some (aC l):=by
 unfold Ji;rw[gJ (l:=l) jC (λi s=>s.length<=i) (λs=>some s) (by omega) (by simp) (by grind[aKf])
  (λrec i s hi hv=>by
   simp only[dS hi,ac,aQ hi,bd_s];rw[aD (by omega)];have e:∀x:Int,bY (α:=List Int) FUEL (λb (a:(List Int×Nat))=>bif (decide ((↑a.2:Int)<(↑s.length:Int))) then(bd (bd (bB s (↑a.2:Int)) λ(c:(Int))=>bif (c !=x) then(gd (aZ a.1 [c]) (some (a.1++[c]))) else(some (a.1))) λ(f:(List Int))=>b ((f,(a.2+1)))) else(some (a.1))) ([],0)=some (s.filter λd=>d !=x):=λx=>by
    rw[gJ (l:=s) (λq y=>bif y !=x then q++[y] else q) (λi q=>q.length<=i) (λq=>some q) (by omega) (by simp) (λi q hi hv=>by cases(s[i] !=x)<;>simp<;>omega)
     (by grind[dS,aQ,bd_s,aD,aZ]) (by simp),Lb]
    simp
   rw[e];cases h1:(l[i].Kind==1) with
   |true=>rw[aXl h1,aD (by grind[aZ])];cases iW s l[i].Device<;>rfl
   |false=>
    rw[aXm h1];cases(l[i].Kind==2)<;>rfl) (by simp)]
 rfl
def aHn (w:AA)(d:Int):Jl w d=some (aK w d):=by unfold Jl aK;show bd (bif decide (0<=d) then _ else _) _=_;cases decide (0<=d)<;>rfl
def aT8 (w:AA)(d:Int)(h:WOk w):H9 w d=some (bK w d):=by
 unfold H9 bK;rw[aWm h];have hl:=fU w.aAA.Log;have a:=h.2.2.1;cases hd:aK w d with
 |false=>rfl
 |true=>simp only[ac,lV hd,bd_s,aD a,aD (show(aC w.aAA.Log).length<=1099511627776 by omega),cY]
def aT9 (w:AA)(d:Int)(h:WOk w):I6 w d=some (bK w d):=by
 unfold I6 bK;have hl:=fU w.aAA.Log;have a:=h.2.2.1;cases hd:aK w d with
 |false=>rfl
 |true=>simp only[ac,lV hd,bd_s,aD a,aD (show(aC w.aAA.Log).length<=1099511627776 by omega),cY]
def aQm (a:AG)(s h:Int):Tw a s h=some (mM a s h):=by unfold Tw mM;cases decide (a.Site<s)<;>cases(a.Site==s)<;>rfl
def O7 (a b:AG):Bv a b=some (dZ a b):=by unfold Bv dZ;cases decide (a.Site<b.Site)<;>cases(a.Site==b.Site)<;>rfl
def bCz {l:List AG}{i:Nat}(hi:i<l.length)(hl:l.length<=34359738368){q:AG->Bool}(hq:∀x,q x=dZ x l[i]):
  (bif (!bX l[i].Site (0:Int) (2147483646:Int)) then(some (true)) else(bif (!bX l[i].Handle (0:Int) (1000000:Int)) then(some (true)) else(bif (!bX l[i].Version (1:Int) (1000000:Int)) then(some (true)) else(bif (decide ((i:Int)>(0:Int))) then(bd (bB l (IntKind.i64.wrap ((i:Int)-(1:Int)))) λ(a:(AG))=>some (!q a)) else(some (false))))))=some (Rz l i l[i]):=by
 unfold Rz;cases bX l[i].Site 0 2147483646 with
 |false=>rfl
 |true=>
  cases bX l[i].Handle 0 1000000 with
  |false=>rfl
  |true=>
   cases bX l[i].Version 1 1000000 with
   |false=>rfl
   |true=>
    by_cases h0:(i:Int)>0
    ·rw[au h0,aM (by omega) (by omega)];have b:bB l ((i:Int)-1)=some l[i-1]:=by
      grind[aQ]
     grind[bd_s,Bool.not_true,default,List.getD,List.getElem?_eq_getElem]
    simp_all
def aLg (b:AC)(h:b.sz<=34359738368):Nu b=some (aP b):=by
 simp only[AC.sz] at h;unfold Nu aP;rw[kG (l:=b.Entries) (Rz b.Entries) (.inl false) (.inr ()) (by omega) (λrec i hi=>by
  simp only[dS hi,ac,aQ hi,bd_s];rw[bCz hi h (q:=λx=>mM x b.Entries[i].Site b.Entries[i].Handle) (λx=>rfl)];rfl) (by simp)]
 grind[iM,Rz,nx]
def aLh (b:AC)(h:b.sz<=34359738368):Oo b=some (aP b):=by
 simp only[AC.sz] at h;unfold Oo aP;by_cases a:(b.Entries.length:Int)>20
 ·grind
 ·rw[av a,show decide ((b.Entries.length:Int)<=20)=true from au (by omega),ae];rw[kG (l:=b.Entries) (Rz b.Entries) (.inl false) (.inr ()) (by omega) (λrec i hi=>by
   simp only[dS hi,ac,aQ hi,bd_s];rw[bCz hi h (q:=λx=>dZ x b.Entries[i]) (λx=>rfl)];rfl) (by simp)]
  cases iM (Rz b.Entries) 0 b.Entries<;>rfl
def aHo (b:AC)(s h:Int)(a:b.sz<=34359738368):Jb b s h=some (aN b s h):=by simp only[AC.sz] at a;unfold Jb aN;exact zW (l:=b.Entries) (λ(e:AG)=>e.Site==s&&e.Handle==h) (by omega) (by grind[dS,aQ,bd_s]) (by simp)
def aQn (b:AC)(h:b.sz<=34359738368):Tu b=some (b):=by simp only[AC.sz] at h;unfold Tu;rw[aD (by grind[List.length_nil,aZ])];rfl
def aC6 (b:AC)(h:b.sz<=34359738368):Ez b=some (b):=by simp only[AC.sz] at h;unfold Ez;rw[aD (by grind[List.length_nil,aZ])];rfl
theorem aZk (p:AG->Bool):∀(l:List AG) (i:Nat),i<=(l.takeWhile p).length->(∃hi:i<l.length,p l[i]=true/\i<(l.takeWhile p).length)\/(i=(l.takeWhile p).length/\∀hi:i<l.length,p l[i]=false)
 |[],i,h=> .inr ⟨by simpa using h,λhi=>by simp at hi⟩
 |x::l,i,h=>by
  rw[de] at h ⊢;cases hp:p x with
  |false=>rw[hp] at h;simp at h;subst h;exact .inr ⟨by simp,λ_=>hp⟩
  |true=>
   rw[hp] at h;simp only[ij,aw] at h ⊢;cases i with
   |zero=>exact .inl ⟨by simp,hp,by omega⟩
   |succ i=>
    rcases aZk p l i (by omega) with⟨h1,h2,a⟩|⟨h1,h2⟩
    ·exact .inl ⟨by simpa using h1,h2,by omega⟩
    ·exact .inr ⟨by omega,λhi=>h2 (by simpa using hi)⟩
def bHp (p:AG->Bool):∀l:List AG,l.take (l.takeWhile p).length=l.takeWhile p
 |[]=>rfl
 |x::l=>by
  rw[de];cases p x with
  |false=>rfl
  |true=>simp only[ij,aw,im];rw[bHp p l]
def bHq (p:AG->Bool):∀l:List AG,l.drop (l.takeWhile p).length=l.dropWhile p
 |[]=>rfl
 |x::l=>by
  rw[de,List.dropWhile_cons];cases p x with
  |false=>rfl
  |true=>simp only[ij,aw,gk];rw[bHq p l]
def aUa (b:AC)(x:AG)(h:b.sz<=34359738360):H5 b x=some (pM b x):=by
 have d:=h;simp only[AC.sz] at h;unfold H5 pM;rw[aD (by omega),bd_s,aD (by omega),bd_s];by_cases c:aN b x.Site x.Handle>=0
 ·rw[au c,ac,ac];have:=aNx (by assumption);simp_all[mO,aN]
 ·rw[av c,ae,ae];have a:(b.Entries.takeWhile λe=>mM e x.Site x.Handle).length<=b.Entries.length:=(List.takeWhile_sublist _).length_le;rw[aK7 (λi s=>i<=(b.Entries.takeWhile λe=>mM e x.Site x.Handle).length/\s=(i:Int)) b.Entries.length (some ((b.Entries.takeWhile λe=>mM e x.Site x.Handle).length:Int)) (s:=(0:Int)) (by omega) ⟨by omega,rfl⟩ (by grind[aZk,dS,aQ,bd_s,aM]) (by grind[mM,bd_s]),bd_s];rw[aD ⟨by omega,by simpa using a⟩,aD ⟨by omega,by simpa using a⟩,aD (by grind[aZ]),aD (by grind[aZ]),aD (by grind[aZ])];rw[bo,bu];rw[bHp,bHq]
theorem bKk {l:List AG}{k:Int}(h0:0<=k)(h1:k.toNat<l.length)(x:AG):(bd (bB l k) λ(b:AG)=>bif (decide (x.Version>b.Version)) then(some (true)) else(bd (bB l k) λ(a:AG)=>bif (x.Version==a.Version) then(some (x.Deleted)) else(some (false))))=some (qD x (l.getD k.toNat default)):=by rw[mO h0 h1,List.getD,ab h1,cI];simp only[bd_s];unfold qD;cases decide (x.Version>l[k.toNat].Version)<;>cases(x.Version==l[k.toNat].Version)<;>rfl
def Yr (a b:AC)(h:a.sz<=34359738368/\b.sz<=34359738368):xQ a b=some (iG a b):=by
 unfold xQ iG;rw[aD h.1,bd_s];cases f:aP a with
 |false=>simp[*]
 |true=>
  rw[aD h.2];cases hb:aP b with
  |false=>simp[*]
  |true=>
   obtain⟨n,j⟩:=aO6 f;obtain⟨p,k⟩:=aO6 hb;rw[aD h.1];simp only[ax,ae,ac,bd_s,dl];rw[aWk (l:=b.Entries) (s0:=a.Entries) (λo x=>bR o [x]) (λi o=>srt o/\o.length<=20+i) (λo=>some o) (by omega) ⟨j,by omega⟩ (λi o hi hv=>by
     have:=zG _ o [b.Entries[i]] (ak _)
     grind[bG0,List.length_singleton]) (λrec i o hi hv=>by
     obtain⟨hs,hl⟩:=hv;simp only[dS hi,ac,aQ hi,bd_s];rw[aD (by grind[AC.sz]),bd_s,<-bBo hs];have hk:(bif decide (aN ⟨o⟩ b.Entries[i].Site b.Entries[i].Handle<0) then some true else bd (bB o (aN ⟨o⟩ b.Entries[i].Site b.Entries[i].Handle)) λ(m:AG)=>bif (decide (b.Entries[i].Version>m.Version)) then(some (true)) else(bd (bB o (aN ⟨o⟩ b.Entries[i].Site b.Entries[i].Handle)) λ(c:AG)=>bif (b.Entries[i].Version==c.Version) then(some (b.Entries[i].Deleted)) else(some (false))))=some (decide (aN ⟨o⟩ b.Entries[i].Site b.Entries[i].Handle<0)||qD b.Entries[i] (o.getD (aN ⟨o⟩ b.Entries[i].Site b.Entries[i].Handle).toNat default)):=by
      by_cases d:aN ⟨o⟩ b.Entries[i].Site b.Entries[i].Handle<0
      ·simp[*]
      ·rw[av d,ae];have:=aNx (show 0<=kW (λ(e:AG)=>e.Site==b.Entries[i].Site&&e.Handle==b.Entries[i].Handle) 0 o from by unfold aN at d;simp only at d;omega)
       grind[bKk,aN]
     grind[decide,aN,qD,default,aD,AC.sz,bd_s]) (by simp)]
   rw[aO5 _ _ k,bd_s];have hm:=zG _ a.Entries b.Entries (ak _);rw[aD (by grind[AC.sz]),bd_s];cases aP ⟨bR a.Entries b.Entries⟩<;>rfl
def drop_at {l:List AG}{i:Nat}(h:i<l.length):l.drop i=l[i]::l.drop (i+1):=cG h
def bFh (e f:AG){X:Int×Int×Int×Bool->Option (List AG)}:(bd (bd (bif (decide (f.Version>e.Version)) then(some (true)) else(bif (f.Version==e.Version) then(some (f.Deleted)) else(some (false)))) λ(a:Bool)=>bif a then(some (f.Site,f.Handle,f.Version,f.Deleted)) else(some (e.Site,e.Handle,e.Version,e.Deleted))) X)=X ((rO e f).Site,(rO e f).Handle,(rO e f).Version,(rO e f).Deleted):=by unfold rO qD;cases decide (f.Version>e.Version)<;>cases(f.Version==e.Version)<;>cases hd:f.Deleted<;>simp[bd,hd]
def Yt (a b:AC)(h:a.sz<=34359738368/\b.sz<=34359738368):xY a b=some (iG a b):=by
 unfold xY iG;rw[aD h.1,bd_s];cases j:aP a with
 |false=>simp[*]
 |true=>
  rw[aD h.2];cases hb:aP b with
  |false=>simp[*]
  |true=>
   obtain⟨p,q⟩:=aO6 j;obtain⟨r,t⟩:=aO6 hb;simp only[ax,ae,ac,bd_s,dl];have hm:=zG _ a.Entries b.Entries (ak _);rw[aK7 (λn s=>∃(i k:Nat) (o:List AG),s=((i:Int),(k:Int),o)/\i<=a.Entries.length/\k<=b.Entries.length/\n<=i+k/\o++bR (a.Entries.drop i) (b.Entries.drop k)=bR a.Entries b.Entries) (a.Entries.length+b.Entries.length) (some (bR a.Entries b.Entries)) (s:=((0:Int),(0:Int),([]:List AG))) (by omega) ⟨0,0,[],rfl,by omega,by omega,by omega,rfl⟩ (λn s rec hn hv=>by
     obtain⟨i,k,o,rfl,hi,hk,l,ho⟩:=hv;have m:o.length<=40:=by grind
     have f:∀x:AG,aZ o [x]:=(by grind[aZ,List.length_singleton]);have wi:IntKind.i64.wrap ((i:Int)+1)=((i+1:Nat):Int):=by grind[aM]
     have wk:IntKind.i64.wrap ((k:Int)+1)=((k+1:Nat):Int):=by grind[aM]
     rcases fY i a.Entries.length with d|d
     ·have ne1:((i:Int)==(a.Entries.length:Int))=false:=by simp;omega
      rw[drop_at d] at ho;rcases fY k b.Entries.length with c|c
      ·have ne2:((k:Int)==(b.Entries.length:Int))=false:=by simp;omega
       rw[drop_at c,vE] at ho;simp only[dS d,dS c,ac,bd_s,ne2,ae,aQ d,aQ c,ne1,aD (f _),wi,wk,bFh];cases h1:dZ a.Entries[i] b.Entries[k] with
       |true=>rw[h1,ac,<-drop_at c] at ho;exact .inl ⟨_,⟨i+1,k,o++[a.Entries[i]],rfl,by omega,hk,by omega,by rw[<-ho];simp⟩,rfl⟩
       |false=>
        cases h2:dZ b.Entries[k] a.Entries[i] with
        |true=>rw[h1,ae,h2,ac,<-drop_at d] at ho;exact .inl ⟨_,⟨i,k+1,o++[b.Entries[k]],rfl,hi,by omega,by omega,by rw[<-ho];simp⟩,rfl⟩
        |false=>rw[h1,ae,h2,ae] at ho;exact .inl ⟨_,⟨i+1,k+1,o++[rO a.Entries[i] b.Entries[k]],rfl,by omega,by omega,by omega,by rw[<-ho];simp⟩,rfl⟩
      ·have e:k=b.Entries.length:=by omega
       subst e;rw[dy,fB] at ho;simp only[dS d,ac,bd_s,dq,aQ d,aD (f _),wi];exact .inl ⟨_,⟨i+1,_,o++[a.Entries[i]],rfl,by omega,ak _,by omega,by rw[dy,fB,<-ho];simp⟩,rfl⟩
     ·have e:i=a.Entries.length:=by omega
      subst e;rw[dy,jM] at ho;rcases fY k b.Entries.length with c|c
      ·have ne2:((k:Int)==(b.Entries.length:Int))=false:=by simp;omega
       simp only[M3,ae,dS c,bd_s,ac,ne2,dq,aQ c,aD (f _),wk];exact .inl ⟨_,⟨_,k+1,o++[b.Entries[k]],rfl,ak _,by omega,by omega,by rw[dy,jM,<-ho,drop_at c];simp⟩,rfl⟩
      grind[List.drop_length,bd_s]) (by grind[List.drop_length,fB,bd_s])]
   rw[bd_s,aD (by grind[AC.sz]),bd_s,aD h.1];cases aP ⟨bR a.Entries b.Entries⟩<;>rfl
def aQo (l:List AD)(h:l.length<=34359738368):Tc l=some l:=by
 grind[oM,Tc]
def aQp (l:List AD)(h:l.length<=34359738368):Uk l=some l:=by
 grind[oM,Uk]
def aHp (l:List Int)(h:l.length<=34359738368):Jo l=some l:=by
 grind[oM,Jo]
def aQq (d:AB)(h:d.sz<=34359738368):Tv d=some d:=by simp only[AB.sz] at h;unfold Tv;simp only[aD (show d.Log.length<=34359738368 by omega),aD (show d.aAD.sz<=34359738368 by simp only[AC.sz];omega),bd_s]
def aC7 (d:AB)(h:d.sz<=34359738368):Fa d=some d:=by simp only[AB.sz] at h;unfold Fa;simp only[aD (show d.Log.length<=34359738368 by omega),aD (show d.aAD.sz<=34359738368 by simp only[AC.sz];omega),bd_s]
def aQr (e:AK)(h:e.sz<=34359738368):Tg e=some e:=by
 simp only[AK.sz] at h;unfold Tg;rw[aB3 (l:=e.Boxes) (by omega) (λrec i s hi hs=>by
  have a:=kY (f:=AO.sz) hi;simp only[AO.sz] at a h;simp only[dS hi,ac,aQ hi,bd_s,oM (show e.Boxes[i].Data.length<=34359738368 by omega),fM hs,bu]) (by simp)]
 rfl
def aHq (l:List AO)(h:szL AO.sz l<=34359738368):Jp l=some l:=by
 unfold Jp;unfold szL at h;rw[bM2 (l:=l) (by omega) (λrec i s hi hs=>by
  have a:=kY (f:=AO.sz) hi;simp only[AO.sz] at a h;simp only[dS hi,ac,aQ hi,bd_s,aD (show l[i].Data.length<=34359738368 by omega),fM hs]) (by simp)]
 rfl
def Pi (e:AK)(h:e.sz<=34359738368):uL e=some e:=by unfold uL;simp only[aD (show szL AO.sz e.Boxes<=34359738368 from h),bd_s]
def aQs (e:AI)(h:e.sz<=34359738368):Tx e=some e:=by unfold Tx;rw[oM h];rfl
def aC8 (e:AI)(h:e.sz<=34359738368):Ey e=some e:=by unfold Ey;simp only[aD (show e.Data.length<=34359738368 from h),bd_s]
def aQt (c:AM)(h:c.sz<=34359738368):Ty c=some c:=by simp only[AM.sz] at h;unfold Ty;rw[aB3 (l:=c.History) (by omega) (by grind[kY,AI.sz,dS,aQ,bd_s,aD,fM]) (by simp)];simp only[aD (show c.Log.length<=34359738368 by omega),aD (show c.Boxes.sz<=34359738368 by simp only[AK.sz];omega),bd_s]
def aHr (c:AM)(h:c.sz<=34359738368):Jq c=some c:=by simp only[AM.sz] at h;unfold Jq;rw[aB3 (l:=c.History) (by omega) (by grind[kY,AI.sz,dS,aQ,bd_s,aD,fM]) (by simp)];simp only[aD (show c.Log.length<=34359738368 by omega),aD (show c.Boxes.sz<=34359738368 by simp only[AK.sz];omega),bd_s]
def aQu (e:AH)(h:e.sz<=34359738368):Tn e=some e:=by unfold Tn;rw[oM h];rfl
def O8 (e:AH)(h:e.sz<=34359738368):Bp e=some e:=by unfold Bp;rw[oM h];rfl
def aQv (e:AR)(h:e.sz<=34359738368):Tq e=some e:=by unfold Tq;rw[oM h];rfl
def aLi (e:AR)(h:e.sz<=34359738368):Ol e=some e:=by unfold Ol;rw[oM h];rfl
def aQw (s:AF)(h:s.sz<=34359738368):Tt s=some s:=by simp only[AF.sz] at h;unfold Tt;rw[aB3 (l:=s.Accounts) (by omega) (by grind[kY,AH.sz,dS,aQ,bd_s,aD,fM]) (by simp)];simp only[aD (show s.Book.sz<=34359738368 by simp only[AR.sz];omega),bd_s,oM (show s.Logins.length<=34359738368 by omega),bu]
def aLj (s:AF)(h:s.sz<=34359738368):Om s=some s:=by simp only[AF.sz] at h;unfold Om;rw[aB3 (l:=s.Accounts) (by omega) (by grind[kY,AH.sz,dS,aQ,bd_s,aD,fM]) (by simp)];simp only[aD (show s.Book.sz<=34359738368 by simp only[AR.sz];omega),bd_s,aD (show G5 s.Logins [] by unfold G5;simp;omega)];simp[zX]
def aQx (e:AN)(h:e.sz<=34359738368):Ue e=some e:=by unfold Ue;rw[oM h];rfl
def aLk (e:AN)(h:e.sz<=34359738368):Oi e=some e:=by unfold Oi;rw[oM h];rfl
def aLl (l:List AN)(h:szL AN.sz l<=34359738368):Oa l=some l:=by
 unfold Oa;unfold szL at h;rw[bM2 (l:=l) (by omega) (λrec i s hi hs=>by
  have a:=kY (f:=AN.sz) hi;simp only[dS hi,ac,aQ hi,bd_s,aD (show l[i].sz<=34359738368 by omega),fM hs]) (λrec s=>by simp only[M3,ae])]
 rfl
def aHs (l:List AN)(h:szL AN.sz l<=34359738368):Jr l=some l:=by unfold Jr;unfold szL at h;rw[bM2 (l:=l) (by omega) (by grind[kY,AN.sz,dS,aQ,bd_s,aD,fM]) (by simp)];rfl
def aQy (e:AP)(h:e.sz<=34359738368):Uf e=some e:=by unfold Uf;rw[oM h];rfl
def aLm (e:AP)(h:e.sz<=34359738368):Oj e=some e:=by unfold Oj;rw[oM h];rfl
def aQz (w:AA)(h:w.sz<=34359738368):Ug w=some w:=by
 simp only[AA.sz] at h;unfold Ug;rw[aB3 (l:=w.Devices) (by omega) (λrec i q hi hs=>by
  have a:=kY (f:=AB.sz) hi;simp only[dS hi,ac,aQ hi,bd_s,aD (show w.Devices[i].sz<=34359738368 by omega),fM hs]) (λrec q=>by simp only[M3,ae]),
  aB3 (l:=w.Sites) (by omega) (λrec i q hi hs=>by
  have a:=kY (f:=AF.sz) hi;simp only[dS hi,ac,aQ hi,bd_s,aD (show w.Sites[i].sz<=34359738368 by omega),fM hs]) (λrec q=>by simp only[M3,ae])]
 simp only[bd_s,oM (show w.Stolen.length<=34359738368 by omega),aD (show w.aAA.sz<=34359738368 by simp only[AM.sz];omega),aD (show szL AN.sz w.Hosts<=34359738368 by unfold szL;omega),aD (show w.Mail.sz<=34359738368 by simp only[AP.sz];omega),bu]
def aHt (w:AA)(h:w.sz<=34359738368):Js w=some w:=by
 simp only[AA.sz] at h;unfold Js;rw[aB3 (l:=w.Devices) (by omega) (by grind[kY,AB.sz,dS,aQ,bd_s,aD,fM]) (by simp),
  aB3 (l:=w.Sites) (by omega) (by grind[kY,AF.sz,dS,aQ,bd_s,aD,fM]) (by simp)]
 simp only[bd_s,oM (show w.Stolen.length<=34359738368 by omega),aD (show w.aAA.sz<=34359738368 by simp only[AM.sz];omega),aD (show szL AN.sz w.Hosts<=34359738368 by unfold szL;omega),aD (show w.Mail.sz<=34359738368 by simp only[AP.sz];omega),bu]
theorem aZl {F:(Int×Int×Int->Option Int)->Int×Int×Int->Option Int}(a:∀rec (b n s:Int),0<=n->n<9223372036854775807->F rec (b,n,s)=bif decide (n>0) then rec ((IntKind.i64.wrap (b*b)).tmod 2147483647,n/2,bif n%2==1 then(IntKind.i64.wrap (s*b)).tmod 2147483647 else s) else some s):
  ∀(k:Nat) (b n s:Int) (f:Nat),k<f->0<=n->n<2^k->k<=62->bY f F (b,n,s)=some (bJd k b n s)
 |0,b,n,s,f+1,c,h0,h1,hk=>by
  have:n=0:=by simp at h1;omega
  subst this;rw[jA,a _ _ _ _ (by omega) (by omega)];rfl
 |k+1,b,n,s,f+1,c,h0,h1,hk=>by
  have h2:(2:Int)^(k+1)=2*2^k:=by rw[fq];omega
  have d:n<2^62:=Int.lt_of_lt_of_le h1 (by exact_mod_cast ib (by omega) hk);rw[jA,a _ _ _ _ h0 (by omega)];unfold bJd;by_cases hn:n>0
  ·rw[au hn,ac,cW hn];exact aZl a k _ (n/2) _ f (by omega) (by omega) (by omega) (by omega)
  ·rw[av hn,ae,dm hn]
def aQ0 (b n:Int)(h:0<=n/\n<2147483648):sQ b n=some (bJd 31 b n 1):=by
 grind[aZl,pI,and_one,Gs,bGw,aXk,gd_T,bd_s,aD,FUEL,gW,sQ]
def aUb (b n:Int)(h:0<=n/\n<2147483648)(hb:0<=b/\b<2147483647):zB b n 2147483647=some (bJd 31 b n 1):=by unfold zB;rw[show b.tmod 2147483647=b by rw[cz hb.1];omega,show(1:Int).tmod 2147483647=1 by decide,aZl (by grind[Int.tmod_eq_emod_of_nonneg,Int.tdiv_eq_ediv_of_nonneg,aM,aXk,gd_T,bd_s]) 31 b n 1 FUEL (by grind[gW]) h.1 (by omega) (by omega)];rfl
def aC9 (q:Int):Eb q=some (gI q):=by
 unfold Eb gI;rw[aQ0 _ _ (by decide),bGx,show bX q 1 2147483646=bL q from rfl]
 grind[bL,iA,aM,Bool.not_true,bd_s,aXk,gd_T,Int.tmod_eq_emod_of_nonneg,dQ,bX,decide_true,Bool.and_self,bne_self_eq_false]
def aDa (q:Int):Eu q=some (gI q):=by
 unfold Eu gI;rw[aUb _ _ (by decide) (by decide),bGx];cases hk:bL q with
 |false=>rfl
 |true=>
  have hr:=iA hk
  grind[Bool.not_true,bd_s,aXk,gd_T,Int.tmod_eq_emod_of_nonneg,aM]
def O9 (p:Int)(l:List Int)(h:l.length<=34359738300):Al p l=some (rM p l):=by unfold Al rM;rw[aD (by grind[aZ]),aD (by simp;omega)];cases bL p<;>rfl
def P5 (p:Int)(l:List Int)(h:l.length<=34359738300):Bo p l=some (rM p l):=by unfold Bo rM;rw[aD (by grind),bd_s,aD (by grind[zX])];cases bL p<;>simp[zX]
def Mo (q:Int)(l:List Int)(g:Int)(h:l.length<=34359738300):sS q l g=some (iC q l g):=by unfold sS iC;simp only[aD h,bd_s,Lx];cases(gI q !=0)<;>rfl
def Mq (q:Int)(l:List Int)(g:Int)(h:l.length<=34359738300):sW q l g=some (iC q l g):=by unfold sW iC;simp only[aD h,bd_s,Lx];cases(gI q !=0)<;>rfl
def aXn (b:AR)(h:b.Open.length<=34359738368){τ:Type}(rec:Nat->Option τ)(r:Option τ)(i:Nat)(hi:i<b.Open.length):(bd (bif (!bX b.Open[i].Id (0:Int) (IntKind.i64.wrap (b.Next-(1:Int)))) then(some (true)) else(bif (decide ((↑i:Int)>(0:Int))) then(bd (bB (b.Open) (IntKind.i64.wrap ((↑i:Int)-(1:Int)))) λa=>bif (decide (a.Id>=b.Open[i].Id)) then(some (true)) else(bif (!bX b.Open[i].aAH (0:Int) (1000005:Int)) then(some (true)) else(some (!bX b.Open[i].Until (0:Int) (1000005:Int))))) else(bif (!bX b.Open[i].aAH (0:Int) (1000005:Int)) then(some (true)) else(some (!bX b.Open[i].Until (0:Int) (1000005:Int)))))) λc=>bif c then r else(rec (i+1)))=bif iD b i b.Open[i] then r else rec (i+1):=by
 grind[decide,decide_eq_false,bX,Rv,bd_s,decide_eq_true,default,iD]
def P6 (b:AR)(h:b.sz<=34359738368):Aq b=some (fJ b):=by
 simp only[AR.sz] at h;unfold Aq fJ;rw[kG (l:=b.Open) (iD b) (.inl false) (.inr ()) (by omega) (λrec i hi=>by
  simp only[dS hi,ac,aQ hi,bd_s];exact aXn b h rec _ i hi) (by simp)]
 rw[show decide ((b.Open.length:Int)<=16)=decide (b.Open.length<=16) from dk.2 (by omega)];cases bX b.Next 0 1000000<;>cases decide (b.Open.length<=16)<;>cases iM (iD b) 0 b.Open<;>rfl
def P7 (b:AR)(h:b.sz<=34359738368):Bj b=some (fJ b):=by
 simp only[AR.sz] at h;unfold Bj fJ;rw[kG (l:=b.Open) (iD b) (.inl false) (.inr ()) (by omega) (λrec i hi=>by
  simp only[dS hi,ac,aQ hi,bd_s];exact aXn b h rec _ i hi) (by simp)]
 rw[show decide ((b.Open.length:Int)>16)= !decide (b.Open.length<=16) by rw[<-decide_not];exact dk.2 (by omega)];cases bX b.Next 0 1000000<;>cases decide (b.Open.length<=16)<;>cases iM (iD b) 0 b.Open<;>rfl
def aXo (m:AP)(h:m.Notices.length<=34359738368){τ:Type}(rec:Nat->Option τ)(r:Option τ)(i:Nat)(hi:i<m.Notices.length):(bd (bif (!bX m.Notices[i].Kind (1:Int) (5:Int)) then(some (true)) else(bif (!bX m.Notices[i].aAH (0:Int) (1000000:Int)) then(some (true)) else(bif (!bX m.Notices[i].Time (0:Int) (1000000:Int)) then(some (true)) else(bif (decide ((↑i:Int)>(0:Int))) then(bd (bB (m.Notices) (IntKind.i64.wrap ((↑i:Int)-(1:Int)))) λa=>some (decide (a.Time>m.Notices[i].Time))) else(some (false)))))) λb=>bif b then r else(rec (i+1)))=bif vD m.Notices i m.Notices[i] then r else rec (i+1):=by
 grind[decide,decide_eq_false,bX,Rv,bd_s,decide_eq_true,default,vD]
def Pj (m:AP)(h:m.sz<=34359738368):uF m=some (dR m):=by
 simp only[AP.sz] at h;unfold uF dR;rw[kG (l:=m.Notices) (vD m.Notices) (.inl false) (.inr ()) (by omega) (λrec i hi=>by
  simp only[dS hi,ac,aQ hi,bd_s];exact aXo m h rec _ i hi) (λrec=>by simp only[M3,ae])]
 rw[show decide ((m.Notices.length:Int)<=30)=decide (m.Notices.length<=30) from dk.2 (by omega)];cases decide (m.Notices.length<=30)<;>cases iM (vD m.Notices) 0 m.Notices<;>rfl
def Pk (m:AP)(h:m.sz<=34359738368):uK m=some (dR m):=by
 simp only[AP.sz] at h;unfold uK dR;rw[kG (l:=m.Notices) (vD m.Notices) (.inl false) (.inr ()) (by omega) (λrec i hi=>by
  simp only[dS hi,ac,aQ hi,bd_s];exact aXo m h rec _ i hi) (by simp)]
 rw[show decide ((m.Notices.length:Int)>30)= !decide (m.Notices.length<=30) by rw[<-decide_not];exact dk.2 (by omega)];cases decide (m.Notices.length<=30)<;>cases iM (vD m.Notices) 0 m.Notices<;>rfl
def aLn (i:Int):Nr i=some (aA i):=by unfold Nr aA;cases i==0<;>cases i==1<;>rfl
def aLo (i:Int):Oh i=some (aA i):=by unfold Oh aA;cases i==0<;>cases i==1<;>rfl
def aHu (e:AD):aG9 e=some (dB e):=by rfl
def aHv (e:AD):aHc e=some (dB e):=by rfl
def aQ1 (l:List AD)(h:l.length<=34359738368):Ta l=some (iE l):=by
 unfold Ta iE;cases hl:((l.length:Int)==0) with
 |true=>rfl
 |false=>
  have:l.length≠0:=by simp_all
  rw[aM (by omega) (by omega),show(l.length:Int)-1=((l.length-1:Nat):Int) by omega,aQ (by omega)];simp[List.getD,ab (show l.length-1<l.length by omega)]
def aQ2 (l:List AD)(h:l.length<=34359738368):Uj l=some (iE l):=by
 unfold Uj iE;cases hl:((l.length:Int)==0) with
 |true=>rfl
 |false=>
  have:l.length≠0:=by simp_all
  rw[aM (by omega) (by omega),show(l.length:Int)-1=((l.length-1:Nat):Int) by omega,aQ (by omega)];simp[List.getD,ab (show l.length-1<l.length by omega)]
def aDb (l:List AD)(p:Int)(h:l.length<=34359738368):Ew l p=some (dW l p):=by unfold Ew;rw[nW (l:=l) (λe=>e.Kind==2&&e.Device==p) (.inl true) (.inr ()) (by omega) (by grind[dS,aQ,bd_s]) (by simp)];unfold dW;cases l.any _<;>rfl
def aQ3 (l:List AV)(p:Int)(i:Nat)(hi:i<=l.length)(h:l.length<=34359738368){F:(Nat->Option ((Bool⊕PUnit)⊕PUnit))->Nat->Option ((Bool⊕PUnit)⊕PUnit)}(a:∀rec j (hj:j<i),F rec j=bif (l[j]'(by omega)).Public==p then some (.inl (.inl false)) else rec (j+1))(b:∀rec,F rec i=some (.inr ())):
  bY FUEL F 0=some (bif (l.take i).any (λq=>q.Public==p) then .inl (.inl false) else .inr ()):=by
 have ht:(l.take i).length=i:=by simp[*]
 exact nW (l:=l.take i) (λq=>q.Public==p) _ _ (by omega) (by simp_all) (by simp[*])
def bC0 (a:AH)(h:a.Credentials.length<=34359738368)(i:Nat)(hi:i<a.Credentials.length){τ:Type}{X:Option τ}{r:Option τ}{K:Option τ}(hX:X=bif (a.Credentials.take i).any (λq=>q.Public==a.Credentials[i].Public) then r else K):
  (bd (bif (!bX a.Credentials[i].Handle (0:Int) (1000000:Int)) then(some (true)) else(bif (decide ((↑i:Int)>(0:Int))) then(bd (bB (a.Credentials) (IntKind.i64.wrap ((↑i:Int)-(1:Int)))) λb=>bif (decide (b.Handle>=a.Credentials[i].Handle)) then(some (true)) else(bd (some (gI a.Credentials[i].Public)) λc=>bif (c==(0:Int)) then(some (true)) else(some (!bX a.Credentials[i].Counter (0:Int) (1000000:Int))))) else(bd (some (gI a.Credentials[i].Public)) λb=>bif (b==(0:Int)) then(some (true)) else(some (!bX a.Credentials[i].Counter (0:Int) (1000000:Int)))))) λd=>bif d then r else X)=bif vV a i a.Credentials[i] then r else K:=by
 grind[decide,decide_eq_false,bd_s,bX,gI,Rv,decide_eq_true,default,vV]
def Pm (a:AH)(h:a.sz<=34359738368):uC a=some (bA a):=by
 simp only[AH.sz] at h;unfold uC bA;rw[kG (l:=a.Credentials) (vV a) (.inl false) (.inr ()) (by omega) (λrec i hi=>by
  simp only[dS hi,ac,aQ hi,bd_s];rw[aQ3 a.Credentials a.Credentials[i].Public i (by omega) h (by grind[dS,aQ,bd_s]) (by simp)];have:=bC0 a h i hi (X:=nx (some (bif (a.Credentials.take i).any (λq=>q.Public==a.Credentials[i].Public) then Sum.inl (Sum.inl false) else Sum.inr PUnit.unit)) λ_=>rec (i+1)) (r:=some (.inl false)) (K:=rec (i+1)) (by cases(a.Credentials.take i).any _<;>rfl);rw[<-this];simp only[bd_s];generalize(bif !bX a.Credentials[i].Handle 0 1000000 then _ else _:Option Bool)=q;cases q with
  |none=>rfl
  |some b=>cases b<;>rfl) (by simp)]
 rw[show decide ((a.Credentials.length:Int)<=8)=decide (a.Credentials.length<=8) from dk.2 (by omega)];cases bX a.Id 0 1000000<;>cases bX a.Minimum 1 3<;>cases decide (a.Credentials.length<=8)<;>cases iM (vV a) 0 a.Credentials<;>rfl
def Pn (a:AH)(h:a.sz<=34359738368):uJ a=some (bA a):=by
 simp only[AH.sz] at h;unfold uJ bA;rw[kG (l:=a.Credentials) (vV a) (.inl false) (.inr ()) (by omega) (λrec i hi=>by
  have ht:(a.Credentials.take i).length=i:=by grind
  simp only[dS hi,ac,aQ hi,bd_s,aNa];rw[aD (by grind[jW])];rw[aQ3 a.Credentials a.Credentials[i].Public i (by omega) h (by grind[dS,aQ,bd_s]) (by simp[*])];have:=bC0 a h i hi (X:=nx (some (bif (a.Credentials.take i).any (λq=>q.Public==a.Credentials[i].Public) then Sum.inl (Sum.inl false) else Sum.inr PUnit.unit)) λ_=>rec (i+1)) (r:=some (.inl false)) (K:=rec (i+1)) (by cases(a.Credentials.take i).any _<;>rfl);rw[<-this];simp only[bd_s];generalize(bif !bX a.Credentials[i].Handle 0 1000000 then _ else _:Option Bool)=q;cases q with
  |none=>rfl
  |some b=>cases b<;>rfl) (by simp)]
 rw[show decide ((a.Credentials.length:Int)>8)= !decide (a.Credentials.length<=8) by rw[<-decide_not];exact dk.2 (by omega)];cases bX a.Id 0 1000000<;>cases bX a.Minimum 1 3<;>cases decide (a.Credentials.length<=8)<;>cases iM (vV a) 0 a.Credentials<;>rfl
def vK (s:ByteArray)(hs:s.size<=34359738368):∀(n f i st:Nat) (acc:List ByteArray),s.size-i=n->n+1<f->st<=i->i<=s.size->acc.length<=i->bY f (λc (b:(List ByteArray×Int×Int))=>bif (decide (b.2.2<=(↑s.size:Int))) then(bd (bd (bif (b.2.2==(↑s.size:Int)) then(some (true)) else(bd (bB (cO s) (b.2.2)) λj=>some (j==(46:Int)))) λk=>bif k then(gd (xI s b.2.1 b.2.2) (gd (aZ b.1 [s.extract b.2.1.toNat b.2.2.toNat]) (some ((b.1++[s.extract b.2.1.toNat b.2.2.toNat],IntKind.i64.wrap (b.2.2+(1:Int))))))) else(some (b.1,b.2.1))) λ(z2:List ByteArray×Int)=>c ((z2.1,z2.2,IntKind.i64.wrap (b.2.2+(1:Int))))) else(some (b.1))) (acc,(st:Int),(i:Int))=some (acc++(kH ((s.data.toList.drop st).take (i-st)) (s.data.toList.drop i)).map λl=>(⟨l.toArray⟩:ByteArray))
 |n,f+1,i,st,acc,hn,r,h1,h2,t=>by
  rw[jA];have e0:decide ((i:Int)<=(s.size:Int))=true:=by simpa using(show(i:Int)<=(s.size:Int) by omega)
  have es:xI s (st:Int) (i:Int):=⟨by omega,by omega,by omega⟩;have h:aZ acc ([s.extract (st:Int).toNat (i:Int).toNat]:List ByteArray):=by unfold aZ;simp;omega
  have d:IntKind.i64.wrap ((i:Int)+1)=((i+1:Nat):Int):=by rw[aM (by omega) (by omega)];omega
  simp only[e0,ac];rcases fY i s.size with a|m
  ·have e:((i:Int)==(s.size:Int))=false:=by simp;omega
   have hd:s.data.toList.drop i=s.data.toList[i]'a::s.data.toList.drop (i+1):=(cG a);have hb:(cO s)[i]'(by rw[kI];exact a)=((s.data.toList[i]'a).toNat:Int):=by simp[cO]
   have hq:(((s.data.toList[i]'a).toNat:Int)==46)=(s.data.toList[i]'a==46):=by
    rw[fL];simp only[df];constructor
    ·intro q;apply UInt8.toNat_inj.1;show _=46;omega
    ·intro q;rw[q];rfl
   rw[e,ae,bBn a,bd_s,bd_s,hb,hq,hd,kH];cases hc:(s.data.toList[i]'a==46) with
   |true=>rw[ac,aD es,aD h,bd_s];dsimp only;rw[d,ac,vK s hs (n-1) f (i+1) (i+1) _ (by omega) (by omega) (ak _) (by omega) (by simp;omega),bo,bo,ext_list];simp
   |false=>
    rw[ae,bd_s];dsimp only;rw[d,ae,vK s hs (n-1) f (i+1) st _ (by omega) (by omega) (by omega) (by omega) (by omega)];have:(s.data.toList.drop st).take (i+1-st)=(s.data.toList.drop st).take (i-st)++[s.data.toList[i]'a]:=by rw[show i+1-st=(i-st)+1 by omega,fk,eJ,show st+(i-st)=i by omega,ab a];rfl
    rw[this]
  ·have e:((i:Int)==(s.size:Int))=true:=by simp;omega
   obtain⟨f,rfl⟩:∃g,f=g+1:=⟨f-1,by omega⟩;have o:s.data.toList.length<=i:=by have:s.data.toList.length=s.size:=rfl;omega
   have p:decide (((i+1:Nat):Int)<=(s.size:Int))=false:=by simp;omega
   rw[e,ac,bd_s,ac,aD es,aD h,bd_s,jA];dsimp only;rw[d];simp only[p,ae];rw[gb o,kH,bo,bo,ext_list];rfl
def aLp (s:ByteArray)(h:s.size<=34359738368):Ns s=some (bT s):=by
 unfold Ns;have a:=gW;have:=vK s h s.size FUEL 0 0 [] rfl (by omega) (ak _) (cD _) (ak _)
 grind[bT,bd,trans]
def aQ4 (s:ByteArray)(h:s.size<=34359738368):Ti s=some (wE s):=by
 unfold Ti wE;have hb:=kI s;rw[nW (l:=cO s) (λb=> !aB1 b) (.inl false) (.inr ()) (by omega) (by grind[dS,bBn,bd_s,cO,aB1,bX,decide]) (by simp[*])];have e:bX (s.size:Int) 1 20=(decide (1<=s.size)&&decide (s.size<=20)):=by unfold bX;congr 1<;>exact dk.2 (by omega)
 rw[e];by_cases h0:0<s.size
 ·rw[show(0:Int)=((0:Nat):Int) from rfl,bBn h0,aM (by omega) (by omega),show(s.size:Int)-1=((s.size-1:Nat):Int) by omega,bBn (by omega)];simp only[bd_s,bne,List.getD,ab (show 0<(cO s).length by rw[kI];exact h0),ab (show s.size-1<(cO s).length by rw[kI];omega),cI];cases((cO s)[0]'_==45)<;>cases((cO s)[s.size-1]'_==45)<;>cases decide (1<=s.size)<;>cases decide (s.size<=20)<;>cases(cO s).any _<;>rfl
 simp_all
def aUc (s:ByteArray)(h:s.size<=34359738368):G9 s=some (iF s):=by
 unfold G9 iF;have hl:=Rx s;simp only[aD h,bd_s];rw[nW (l:=bT s) (λl=> !wE l) (.inl false) (.inr ()) (by omega) (λrec i hi=>by
  have a:(bT s)[i].size<=34359738368:=bz (yR s _ (cf _)) h
  grind[dS,aQ,bd_s,aD]) (by simp)]
 have e':decide ((s.size:Int)<=60)=decide (s.size<=60):=dk.2 (by omega);rw[e'];cases decide (s.size<=60)<;>cases(bT s).any _<;>rfl
def aUd (s:ByteArray):I1 s=some (iF s):=by
 unfold I1 iF;by_cases a:s.size<=60
 ·have hl:=Rx s;rw[show decide ((s.size:Int)>60)=false from av (by omega),ae,aD (show s.size<4294967281/\1<=(⟨#[UInt8.ofNat 46]⟩:ByteArray).size from⟨by omega,ak _⟩),bd_s];have es:lY s ⟨#[UInt8.ofNat 46]⟩=bT s:=aO3 s;rw[es];rw[nW (l:=bT s) (λl=> !wE l) (.inl false) (.inr ()) (by omega) (λrec i hi=>by
   have c:(bT s)[i].size<=60:=bz (yR s _ (cf _)) a;simp only[dS hi,ac,aQ hi,bd_s]
   revert c
   generalize(bT s)[i]=l;intro c;have hb:=kI l;rw[nW (l:=cO l) (λb=> !aB1 b) (.inl (.inl false)) (.inr ()) (by omega) (by grind[dS,bBn,bd_s,cO,aB1,bX,decide]) (by simp[*])];unfold wE;by_cases h0:0<l.size
   ·rw[show(0:Int)=((0:Nat):Int) from rfl,bBn h0,aM (by omega) (by omega),show(l.size:Int)-1=((l.size-1:Nat):Int) by omega,bBn (by omega)];have d:decide ((l.size:Int)<1)= !decide (1<=l.size):=by grind
    have e:decide ((l.size:Int)>20)= !decide (l.size<=20):=by grind
    rw[d,e];simp only[bd_s,bne,List.getD,ab (show 0<(cO l).length by rw[kI];exact h0),ab (show l.size-1<(cO l).length by rw[kI];omega),cI];cases((cO l)[0]'_==45)<;>cases((cO l)[l.size-1]'_==45)<;>cases decide (1<=l.size)<;>cases decide (l.size<=20)<;>cases(cO l).any _<;>rfl
   simp_all) (by simp)]
  rw[show decide (s.size<=60)=true by simpa using a];cases(bT s).any _<;>rfl
 grind
def P8 (s:ByteArray):Bh s=some (bJe s):=by
 unfold Bh bJe;cases h:iF s with
 |false=>rfl
 |true=>
  have hs:=Ry h;have hp:=aKh s;have es:lY s ⟨#[UInt8.ofNat 46]⟩=bT s:=aO3 s;rw[ax,ae,ac,aD (show s.size<4294967281/\1<=(⟨#[UInt8.ofNat 46]⟩:ByteArray).size from⟨by omega,ak _⟩),bd_s,es];rw[show(((bT s).length:Int)==1)=((bT s).length==1) by rw[fL];simp only[df];omega];cases h1:(bT s).length==1 with
  |true=>rfl
  |false=>
   have h2:(bT s).length≠1:=by simp_all
   have hl:=Rx s;obtain⟨a,c,b,hb,e⟩:=bSq (l:=bT s) (by omega);have c:=yR s a c;have hb:=yR s b hb;rw[ae,ae,aM (by omega) (by omega),show((bT s).length:Int)-2=(((bT s).length-2:Nat):Int) by omega,bo];have hd:((bT s).drop ((bT s).length-2)).length=2:=by grind
   have hj:(rH ⟨#[UInt8.ofNat 46]⟩ ((bT s).drop ((bT s).length-2))).size<=140737488355328:=by have e:rH ⟨#[UInt8.ofNat 46]⟩ ((bT s).drop ((bT s).length-2))=_:=e;rw[e,ByteArray.size_append,ByteArray.size_append];have:(⟨#[46]⟩:ByteArray).size=1:=rfl;omega
   simp_all[aD,jW,bT]
def aUe (s:ByteArray)(h:s.size<=9223372036854775807):I4 s=some (Xr s):=by unfold I4 Xr;have hb:=kI s;rw[nW (l:=cO s) (λb=>b==46) (.inl true) (.inr ()) (by omega) (by grind[dS,bBn,bd_s]) (by simp[*])];cases(cO s).any _<;>rfl
def P9 (n:ByteArray)(seed:Int)(h:n.size<=9223372036854775807):Bi n seed=some (lD n seed):=by
 grind[iF,bQv,decide,bT,bL,bXg,aTv,aD,bd_s,Bi,lD]
def aQ5 (n:ByteArray)(seed:Int)(h:n.size<=34359738368):Tj n seed=some (gT n seed):=by
 unfold Tj gT lD;have e:decide (((bT n).length:Int)<2)= !decide (2<=(bT n).length):=by grind
 simp only[aD h,bd_s,e];cases iF n<;>cases decide (2<=(bT n).length)<;>cases bL seed<;>rfl
def Q0 (s:AF)(h:s.sz<=34359738368):Ar s=some (dD s):=by
 simp only[AF.sz] at h;unfold Ar dD;rw[kG (l:=s.Accounts) (Lv s.Accounts) (.inl false) (.inr ()) (by omega) (by grind[kY,AH.sz,dS,aQ,bd_s,aD,Lv,Rv,decide,decide_eq_true,bA,default,decide_eq_false]) (by simp)];rw[show decide ((s.Accounts.length:Int)<=8)=decide (s.Accounts.length<=8) from dk.2 (by omega)];have a:(!((gT s.Name s.Book.Seed).Name.toList==(⟨#[]⟩:ByteArray).toList))=lD s.Name s.Book.Seed:=by rw[bXg,bEi,Bool.not_not]
 simp only[aD (show s.Name.size<=34359738368 by omega),aD (show s.Book.sz<=34359738368 by simp only[AR.sz];omega),bd_s,a];cases lD s.Name s.Book.Seed<;>cases decide (s.Accounts.length<=8)<;>cases fJ s.Book<;>cases iM (Lv s.Accounts) 0 s.Accounts<;>rfl
def Q3 (s:AF)(h:s.sz<=34359738368):Bn s=some (dD s):=by simp only[AF.sz] at h;unfold Bn dD;rw[kG (l:=s.Accounts) (Lv s.Accounts) (.inl false) (.inr ()) (by omega) (by grind[kY,AH.sz,dS,aQ,bd_s,aD,Lv,Rv,decide,decide_eq_true,bA,default,decide_eq_false]) (by simp)];rw[show decide ((s.Accounts.length:Int)>8)= !decide (s.Accounts.length<=8) by rw[<-decide_not];exact dk.2 (by omega)];simp only[aD (show s.Name.size<=9223372036854775807 by omega),aD (show s.Book.sz<=34359738368 by simp only[AR.sz];omega),bd_s];cases lD s.Name s.Book.Seed<;>cases decide (s.Accounts.length<=8)<;>cases fJ s.Book<;>cases iM (Lv s.Accounts) 0 s.Accounts<;>rfl
def aQ6 (l:List AD)(e:AD)(h:l.length<=34359738368):Td l e=some (lC l e):=by unfold Td lC;have hd:=fU l;rw[nW (l:=l) (λq=>q.Kind==2&&q.Device==e.Device) (.inl false) (.inr ()) (by omega) (by grind[dS,aQ,bd_s]) (by simp)];rw[show(l.any λq=>q.Kind==2&&q.Device==e.Device)=dW l e.Device from rfl];simp only[aD h,aD (show(aC l).length<=1099511627776 by omega),aD (show([dB e]:List Int).length<=34359738300 by simp),bd_s,bne];cases(e.Index==(l.length:Int))<;>cases(e.Previous==iE l)<;>cases iW (aC l) e.By<;>cases((l.length:Int)==0)<;>cases(e.By==e.Device)<;>cases iC e.By [dB e] e.Signature<;>cases(e.Kind==2)<;>cases iW (aC l) e.Device<;>cases dW l e.Device<;>cases(e.Kind==1)<;>rfl
def aHw (l:List AD)(h:l.length<=34359738368):Iy l=some (aU l):=by unfold Iy aU;rw[kG (l:=l) (λi e=> !lC (l.take i) e) (.inl false) (.inr ()) (by omega) (by grind[dS,aQ,bd_s,aNa,aD,jW,List.length_take]) (by simp)];cases iM (λi e=> !lC (l.take i) e) 0 l<;>simp
def aHx (l:List AD)(h:l.length<=34359738368):Jk l=some (aU l):=by
 unfold Jk aU;rw[kG (l:=l) (λi e=> !lC (l.take i) e) (.inl false) (.inr ()) (by omega) (λrec i hi=>by
  have ht:(l.take i).length=i:=by grind
  have hb:(l.take i).length<=34359738368:=by omega
  have hd:=fU (l.take i);simp only[dS hi,ac,aQ hi,bd_s,aNa,aD (show jW l (i:Int) by unfold jW;omega),aD hb,aD (show(aC (l.take i)).length<=1099511627776 by omega),aD (show([dB l[i]]:List Int).length<=34359738300 by simp)];unfold lC;rw[ht];generalize l[i]=e;have h1:decide (((aC (l.take i)).length:Int)>=6)= !decide (((aC (l.take i)).length:Int)<6):=by grind
  have h2:iW (aC (l.take i)) e.Device=true->decide (((aC (l.take i)).length:Int)>1)= !(((aC (l.take i)).length:Int)==1):=(by grind[bM0,Bool.decide_eq_true,aC,decide_not]);simp only[h1,bne];cases d:(e.Kind==2) with
  |true=>
   have a:(e.Kind==1)=false:=by simp_all
   rw[a];cases hd:iW (aC (l.take i)) e.Device with
   |true=>rw[h2 hd];cases(e.Index==(i:Int))<;>cases(e.Previous==iE (l.take i))<;>cases iW (aC (l.take i)) e.By<;>cases((i:Int)==0)<;>cases(e.By==e.Device)<;>cases iC e.By [dB e] e.Signature<;>cases(((aC (l.take i)).length:Int)==1)<;>rfl
   |false=>cases(e.Index==(i:Int))<;>cases(e.Previous==iE (l.take i))<;>cases iW (aC (l.take i)) e.By<;>cases((i:Int)==0)<;>cases(e.By==e.Device)<;>cases iC e.By [dB e] e.Signature<;>rfl
  |false=>
   cases(e.Kind==1) with
   |true=>cases(e.Index==(i:Int))<;>cases(e.Previous==iE (l.take i))<;>cases iW (aC (l.take i)) e.By<;>cases((i:Int)==0)<;>cases(e.By==e.Device)<;>cases iC e.By [dB e] e.Signature<;>cases iW (aC (l.take i)) e.Device<;>cases dW (l.take i) e.Device<;>cases decide (((aC (l.take i)).length:Int)<6)<;>rfl
   |false=>cases(e.Index==(i:Int))<;>cases(e.Previous==iE (l.take i))<;>cases iW (aC (l.take i)) e.By<;>cases((i:Int)==0)<;>cases(e.By==e.Device)<;>cases iC e.By [dB e] e.Signature<;>cases dW (l.take i) e.Device<;>rfl) (by simp)]
 unfold bX;have b:decide ((l.length:Int)<1)= !decide (1<=(l.length:Int)):=by grind
 have c:decide ((l.length:Int)>40)= !decide ((l.length:Int)<=40):=by grind
 rw[b,c];cases decide (1<=(l.length:Int))<;>cases decide ((l.length:Int)<=40)<;>cases iM (λi e=> !lC (l.take i) e) 0 l<;>rfl
def Yu (w:AA)(h:w.sz<=34359738368):xR w=some (aR w):=by
 simp only[AA.sz] at h;unfold xR aR;rw[kG (l:=w.Sites) nH (.inl false) (.inr ()) (by omega) (λrec i hi=>by
  have a:=kY (f:=AF.sz) hi;simp only[dS hi,ac,aQ hi,bd_s,aD (show w.Sites[i].sz<=34359738368 by omega)];unfold nH;cases dD w.Sites[i]<;>cases(w.Sites[i].Name.toList==(aA (i:Int)).toList)<;>rfl) (λrec=>by simp only[M3,ae])]
 simp only[aD (show w.Mail.sz<=34359738368 by simp only[AP.sz];omega),aD (show w.aAA.Log.length<=34359738368 by omega),bne,bd_s];cases iM nH 0 w.Sites<;>cases bX w.Now 0 999900<;>cases bX (w.Devices.length:Int) 1 6<;>cases((w.Stolen.length:Int)==(w.Devices.length:Int))<;>cases((w.Sites.length:Int)==2)<;>cases dR w.Mail<;>cases aU w.aAA.Log<;>cases bL w.Seed<;>rfl
def Yv (w:AA)(h:w.sz<=34359738368):xW w=some (aR w):=by simp only[AA.sz] at h;unfold xW aR;rw[kG (l:=w.Sites) nH (.inl false) (.inr ()) (by omega) (by grind[kY,AF.sz,dS,aQ,bd_s,aD,nH,dD,aA]) (by simp)];simp only[aD (show w.Mail.sz<=34359738368 by simp only[AP.sz];omega),aD (show w.aAA.Log.length<=34359738368 by omega),bne,bd_s];cases iM nH 0 w.Sites<;>cases bX w.Now 0 999900<;>cases bX (w.Devices.length:Int) 1 6<;>cases((w.Stolen.length:Int)==(w.Devices.length:Int))<;>cases((w.Sites.length:Int)==2)<;>cases dR w.Mail<;>cases aU w.aAA.Log<;>cases bL w.Seed<;>rfl
def aZm (a:Int):aZh a=some (jH a 1019):=rfl
def bXx:((1019:Int)≠0)=True:=by simp
def aUf (c:Int)(l:List Int)(x:Int)(h:0<=x/\x<=1000/\l.length<=34359738368):H6 c l x=some (Sb c l x):=by
 obtain⟨h1,h2,a⟩:=h;have hr:=aO9 ⟨h1,h2⟩ l;have hm:=zN (p:=c) (q:=1019) (by omega);unfold H6 Sb;rw[bM5 (l:=l) (aO8 x) some (by omega) (λrec s i hi=>by
  simp only[show decide ((i:Int)>=0)=true from au (by omega),ac,aQ hi,bd_s,bXx,gd_T,aM (show-9223372036854775808<=(i:Int)-1 by omega) (by omega)];rfl) (λrec s=>rfl) (aM (by omega) (by omega))]
 simp only[bd_s,bXx,gd_T];rw[aM (by omega) (by omega),cz (by omega)]
def aQ7 (k:A3):aQh k=some (Rq k):=rfl
def Q4 (b:List Int)(h:b.length<=34359738360):Ap b=some (Gx b):=by unfold Ap Gx;rw[bSr (l:=b) IntKind.i64.wrap (by simp;omega) (by grind[dS,aQ,bd_s,fM]) (by simp)];rfl
def Q5 (b:List Int)(h:b.length<=34359738360):Bt b=some (Gx b):=by unfold Bt Gx;rw[bSr (l:=b) IntKind.i64.wrap (by simp;omega) (by grind[dS,aQ,bd_s,fM]) (by simp)];rfl
def Kc (k:Int)(s:ByteArray)(h:s.size<=34359738300):rU k s=some (oK k s):=by have hb:=kI s;unfold rU oK;rw[aNb,aD (by omega),bd_s,aD (by rw[bG4];omega),bd_s,bBj (mR _ _).1]
def Ke (k:Int)(s:ByteArray)(h:s.size<=34359738300):rW k s=some (oK k s):=by have hb:=kI s;unfold rW oK;rw[aNb,aD (by omega),bd_s,aD (by rw[bG4];omega),bd_s]
def aLq (s:ByteArray)(h:s.size<=34359738300):Nt s=some (bG s):=by unfold Nt;rw[aD h];rfl
def aLr (s:ByteArray)(h:s.size<=34359738300):Oq s=some (bG s):=by unfold Oq;rw[aD h];rfl
def aHy (b:AC)(s h:Int)(a:b.sz<=34359738368):Jy b s h=some (aN b s h):=by simp only[AC.sz] at a;unfold Jy aN;rw[zW (l:=b.Entries) (λe=>e.Site==s&&e.Handle==h) (by omega) (by grind[dS,aQ,bd_s]) (by simp)]
theorem aNo {b:AC}{s h:Int}(d:decide (aN b s h>=0)=true):bB b.Entries (aN b s h)=some (b.Entries.getD (aN b s h).toNat default)/\(aN b s h).toNat<b.Entries.length/\(b.Entries.getD (aN b s h).toNat default).Site=s/\(b.Entries.getD (aN b s h).toNat default).Handle=h:=by
 have h0:=of_decide_eq_true d;obtain⟨l1,e,l2,f,c,a⟩:=Xt (p:=λe:AG=>e.Site==s&&e.Handle==h) (l:=b.Entries) (i:=0) h0;have a:aN b s h=((0+l1.length:Nat):Int):=a;rw[cy] at a;have hl:l1.length<b.Entries.length:=by simp[*]
 have hg:b.Entries.getD l1.length default=e:=by simp[*]
 rw[a,bo,hg];simp only[aa,df] at c;refine⟨?_,hl,c.1,c.2⟩;rw[aQ hl];have:b.Entries[l1.length]=e:=by simp[*]
 rw[this]
theorem aZn (b:AC)(x:AG):(pM b x).Entries.length<=b.Entries.length+1:=by
 grind[decide,aN,List.length,List.takeWhile_append_dropWhile,mM,List.length_append,List.length_singleton,pM]
def aLs (b:AC)(s h:Int)(a:b.sz<=34359738360):Nv b s h=some (aB5 b s h):=by
 have hq:=a;simp only[AC.sz] at hq;have hs:=aZn b (qP b s h);unfold Nv aB5;have c:(pM b (qP b s h)).sz<=34359738368:=by grind[AC.sz]
 rw[aD (by omega),aD (by omega)];simp only[aD (show b.sz<=34359738360 from a),aD (show b.sz<=34359738368 by omega),bd_s];cases d:decide (aN b s h>=0) with
 |true=>
  obtain⟨h1,h2,_,_⟩:=aNo d;have hv:qP b s h=⟨s,h,IntKind.i64.wrap ((b.Entries.getD (aN b s h).toNat default).Version+1),false⟩:=by grind[qP,bJf]
  rw[ac,h1,bd_s];cases hd:(b.Entries.getD (aN b s h).toNat default).Deleted with
  |false=>rfl
  |true=>rw[bd_s,ax,ae,nx_r,<-hv,aD c];cases aP b<;>cases aP (pM b (qP b s h))<;>rfl
 |false=>
  have hv:qP b s h=⟨s,h,1,false⟩:=by grind[qP,bJf]
  rw[ae,nx_r,<-hv,aD c];cases aP b<;>cases aP (pM b (qP b s h))<;>rfl
theorem bFi {α:Type}{p:α->Bool}{l:List α}:(l.takeWhile p).length<=l.length:=by
 grind[List.length_append,List.length,List.takeWhile_append_dropWhile]
def bXy {α:Type}{p:α->Bool}{l:List α}:l.takeWhile p=l.take (l.takeWhile p).length/\l.dropWhile p=l.drop (l.takeWhile p).length:=by
 grind[List.drop_left,List.take_left,List.drop,List.take,List.takeWhile_append_dropWhile]
def bOx (b:AC)(x:AG)(a:b.Entries.length<=34359738360){F:(Int->Option Int)->Int->Option Int}
  (c:∀rec i (hi:i<b.Entries.length),F rec (i:Int)=bif dZ b.Entries[i] x then rec (((i+1:Nat):Int)) else some (i:Int)) (d:∀rec,F rec (b.Entries.length:Int)=some (b.Entries.length:Int)):bY FUEL F 0=some (((b.Entries.takeWhile λe=>mM e x.Site x.Handle).length:Nat):Int):=by
 refine aK7 (λi s=>i<=(b.Entries.takeWhile λe=>mM e x.Site x.Handle).length/\s=(i:Int)) (b.Entries.takeWhile λe=>mM e x.Site x.Handle).length _ (by grind[bFi,mM]) ⟨by omega,rfl⟩ (λi s rec hi hv=> ?_) (λs rec hv=> ?_)
 all_goals grind[aZk,mM,Nat.lt_or_ge,dZ,bFi]
def aLt (b:AC)(s h:Int)(f:b.sz<=34359738360):Ot b s h=some (aB5 b s h):=by
 have hq:=f;simp only[AC.sz] at hq;have hs:=aZn b (qP b s h);have c:(pM b (qP b s h)).sz<=34359738368:=by grind[AC.sz]
 unfold Ot aB5;simp only[aD (show b.sz<=34359738368 by omega),bd_s];cases hb:aP b with
 |false=>simp
 |true=>
  rw[ax,ae];cases d:decide (aN b s h>=0) with
  |true=>
   obtain⟨h1,h2,j,k⟩:=aNo d;have h0:=of_decide_eq_true d;have hv:qP b s h=⟨s,h,IntKind.i64.wrap ((b.Entries.getD (aN b s h).toNat default).Version+1),false⟩:=by grind[qP,bJf]
   have a:pM b (qP b s h)=⟨b.Entries.set (aN b s h).toNat (qP b s h)⟩:=by
    grind[qP,pM]
   rw[ac,h1,bd_s];cases hd:(b.Entries.getD (aN b s h).toNat default).Deleted with
   |false=>rfl
   |true=>rw[bd_s,ax,ae];rw[mO h0 (by rw[ao];exact h2),bd_s,ia,bd_s,nx_r,eo,j,k,<-hv,<-a,aD c,bd_s];cases aP (pM b (qP b s h))<;>rfl
  |false=>
   have hv:qP b s h=⟨s,h,1,false⟩:=by grind[qP,bJf]
   have a:pM b (qP b s h)=⟨b.Entries.takeWhile (λe=>mM e s h)++[qP b s h]++b.Entries.dropWhile (λe=>mM e s h)⟩:=by
    grind[qP,pM]
   have hl:=bFi (p:=λe=>mM e s h) (l:=b.Entries);obtain⟨m,n⟩:=bXy (p:=λe=>mM e s h) (l:=b.Entries);rw[<-hv,ae,bOx b (qP b s h) hq (by grind[dS,aQ,bd_s,aM]) (by simp)];rw[show(qP b s h).Site=s from rfl,show(qP b s h).Handle=h from rfl,bd_s,aNa];rw[aD (by grind[jW]),aD (by grind[jW]),aD (by grind[aZ]),aD (by grind[aZ]),aD (by grind[aZ]),nx_r,bu,<-m,<-n,<-a,aD c,bd_s];cases aP (pM b (qP b s h))<;>rfl
def WOk.of' {w:AA}(h:w.sz<=34359738368):WOk w:=by
 grind[WOk,AA.sz]
def aLu (w:AA)(d:Int)(h:w.sz<=34359738368):Og w d=some (aR w&&aK w d):=by unfold Og;rw[aD h,bd_s,aWm (WOk.of' h),bVe,bd_s]
def Q6 (b:AC)(s h:Int)(a:b.sz<=34359738360):Az b s h=some (aB6 b s h):=by
 grind[aP,aN,decide_eq_true,aNo,decide_eq_false,bd_s,default,aPa,aD,Az,aB6]
def bOy {l l':List AG}{i:Nat}{e e':AG}(he:e'.Site=e.Site/\e'.Handle=e.Handle)(hp:(l'.getD (i-1) default).Site=(l.getD (i-1) default).Site/\(l'.getD (i-1) default).Handle=(l.getD (i-1) default).Handle)(h:Rz l i e=false):Rz l' i e'= !bX e'.Version 1 1000000:=by unfold Rz at h ⊢;rw[bl,bl,bl] at h;obtain⟨h1,h2,b,a⟩:=h;rw[he.1,he.2,h1,h2,aO4 he,zF hp,a];simp
def bWg {b:AC}{j:Nat}{x:AG}(hj:j<b.Entries.length)(c:x.Site=b.Entries[j].Site/\x.Handle=b.Entries[j].Handle)(h:aP b=true):aP ⟨b.Entries.set j x⟩=bX x.Version 1 1000000:=by
 unfold aP at h ⊢;rw[aa,bv] at h;obtain⟨h1,h2⟩:=h;rw[ao,h1,cY];have hg:∀i,((b.Entries.set j x).getD i default).Site=(b.Entries.getD i default).Site/\((b.Entries.set j x).getD i default).Handle=(b.Entries.getD i default).Handle:=(by grind[List.getD,List.getElem?_set_self,List.getElem?_eq_getElem,List.getElem?_set_ne]);have h2:=M7.1 h2;have hb:∀(i:Nat) (hi:i<(b.Entries.set j x).length),Rz (b.Entries.set j x) i (b.Entries.set j x)[i]= !bX (b.Entries.set j x)[i].Version 1 1000000:=λi hi=>by
  have a:i<b.Entries.length:=by simp_all
  have g:=hg i;simp only[List.getD,ab hi,ab a,cI] at g;exact bOy g (hg (i-1)) (h2 i a)
 have hv:∀(i:Nat) (hi:i<b.Entries.length),bX b.Entries[i].Version 1 1000000=true:=(by grind[Rz,Bool.or_eq_false_iff])
 grind[bX,Bool.not_eq_true',M7,List.getElem_set_self,List.getElem_set_ne,Bool.not_eq_false',aO7]
def bFj {b:AC}(h:aP b=true){i:Nat}(hi:i<b.Entries.length):bX b.Entries[i].Version 1 1000000=true:=by
 grind[Bool.or_eq_false_iff,Rz,M7,Bool.not_eq_true',aP]
def Q7 (b:AC)(s h:Int)(d:b.sz<=34359738360):Cb b s h=some (aB6 b s h):=by
 have hq:=d;simp only[AC.sz] at hq;unfold Cb aB6;simp only[aD (show b.sz<=34359738368 by omega),bd_s];cases hb:aP b with
 |false=>rfl
 |true=>
  by_cases e:aN b s h<0
  ·simp[*]
  ·have a:decide (aN b s h>=0)=true:=au (by omega);obtain⟨h1,h2,f,j⟩:=aNo a;have c:pM b (aPa b s h)=⟨b.Entries.set (aN b s h).toNat (aPa b s h)⟩:=by
    grind[aPa,pM]
   have hg:b.Entries.getD (aN b s h).toNat default=b.Entries[(aN b s h).toNat]:=by simp[*]
   have k:=bWg (x:=aPa b s h) h2 ⟨by rw[<-hg,f];rfl,by rw[<-hg,j];rfl⟩ hb;have hv:=bFj hb h2;rw[av e,h1]
   grind[aN,default,aPa,mO,List.length_set,List.getElem_set_self,bd_s,List.set_set,pM,aZn,AC.sz,aD,iA,aM,bX,decide_eq_true]
def Yw (d:AB)(n:ByteArray)(h:Int)(rm:Bool)(a:d.sz<=34359738360/\n.size<=34359738300):xN d n h rm=some (bO d n h rm):=by
 obtain⟨h1,h2⟩:=a;have hb:d.aAD.sz<=34359738360:=by grind[AB.sz,AC.sz]
 unfold xN bO pO;simp only[aD (show d.sz<=34359738368 by omega),aD h2,aD hb,bd_s];cases rm with
 |true=>simp only[ac,bd_s];cases(aB6 d.aAD (bG n) h).2<;>rfl
 |false=>simp only[ae,bd_s];cases(aB5 d.aAD (bG n) h).2<;>rfl
def Yx (d:AB)(n:ByteArray)(h:Int)(rm:Bool)(a:d.sz<=34359738360/\n.size<=34359738300):yA d n h rm=some (bO d n h rm):=by
 obtain⟨h1,h2⟩:=a;have hb:d.aAD.sz<=34359738360:=by grind[AB.sz,AC.sz]
 unfold yA bO pO;simp only[aD (show d.sz<=34359738368 by omega),aD h2,aD hb,bd_s];cases rm<;>simp
def bKl {w:AA}{d:Int}(h:aK w d=true):0<=d/\d.toNat<w.Devices.length/\(aG w d).sz<=w.sz/\aG w d=w.Devices.getD d.toNat default:=by
 simp only[aK,aa,cq] at h;have hi:d.toNat<w.Devices.length:=by omega
 have:=Ma (f:=AB.sz) hi;refine⟨h.1,hi,?_,rfl⟩;show(w.Devices.getD d.toNat default).sz<=_
 grind[AA.sz]
def bKm {d:AB}{n:ByteArray}{h:Int}{rm:Bool}(e:(bO d n h rm).2=false):bO d n h rm=(d,false):=by
 grind[pO,bO]
def aDc (w:AA)(d:Int)(n:ByteArray)(h:Int)(rm:Bool)(a:w.sz<=34359738300/\n.size<=34359738300):Er w d n h rm=some (lS w d n h rm):=by
 obtain⟨h1,h2⟩:=a;unfold Er lS;rw[aD (show w.sz<=34359738368 by omega),bd_s,aD (show w.sz<=34359738368 by omega),bd_s];cases hc:(aR w&&aK w d) with
 |false=>rfl
 |true=>
  have hd:=(Bool.and_eq_true_iff.1 hc).2;obtain⟨k1,k2,k3,k4⟩:=bKl hd;rw[ax,ae,ac,lV hd,bd_s,aD ⟨by omega,h2⟩,bd_s,bd_s];cases e:(bO (aG w d) n h rm).2 with
  |true=>rfl
  |false=>rw[bKm e,ae,k4,bBq k2]
def aQ8 (l:List AD)(h:l.length<=34359738368):Te l=some (aB l):=by unfold Te;rw[gJ (l:=l) (λn e=>bif e.Kind==2 then IntKind.i64.wrap (n+1) else n) (λ_ _=>True) (λs=>some s) (by omega) trivial (by simp) (by grind[dS,aQ,bd_s]) (by simp)];rfl
def aQ9 (l:List AD)(h:l.length<=34359738368):Ul l=some (aB l):=by unfold Ul;rw[gJ (l:=l) (λn e=>bif e.Kind==2 then IntKind.i64.wrap (n+1) else n) (λ_ _=>True) (λs=>some s) (by omega) trivial (by simp) (by grind[dS,aQ,bd_s]) (by simp)];rfl
def aUg (p e:Int):aT5 p e=some (gX p e):=by rfl
def aUh (p e:Int):aT2 p e=some (gX p e):=by rfl
def aUi (k:Int)(b:AO)(h:b.Data.length<=34359738200):G8 k b=some (Ru k b):=by
 grind[aD,bd_s,aZ,Gx,G8,Ru]
def aUj (k:Int)(b:AO)(h:b.Data.length<=34359738200):I7 k b=some (Ru k b):=by
 grind[zX,aD,bd_s,Gx,I7,Ru]
def aHz {α β:Type}{y:Nat->α->β}:∀{l:List α} {j i:Nat} (hi:i<l.length),Pe (λi x=>[y i x]) j (l.take (i+1))=Pe (λi x=>[y i x]) j (l.take i)++[y (j+i) l[i]]
 |x::xs,j,0,_=>by simp[Pe]
 |x::xs,j,i+1,hi=>by
  have:=aHz (y:=y) (l:=xs) (j:=j+1) (i:=i) (by simpa using hi);simp only[im,Pe,fb,this,cM,bu];rw[show j+1+i=j+(i+1) by omega]
def bHr {k:Int}{b:List Int}(hl:b.length<=34359738368){F:(List Int×Nat->Option (List Int))->List Int×Nat->Option (List Int)}
  (a:∀rec i s (hi:i<b.length),s.length<=34359738368->F rec (s,i)=rec (s++[aYy k i b[i]],i+1)) (c:∀rec s,F rec (s,b.length)=some s):bY FUEL F ([],0)=some (Rt k b):=by
 refine aK7 (λi s=>i<=b.length/\s=(Pe (λi z=>[aYy k i z]) 0 (b.take i),i)) b.length _ (by omega) ⟨by omega,by simp[Pe]⟩ (λi s rec hi hv=> ?_) (λs rec hv=> ?_)
 ·obtain⟨_,rfl⟩:=hv;refine .inl ⟨_,⟨hi,rfl⟩,?_⟩;rw[a rec i _ hi (by rw[sK,cp];omega),aHz hi,cy]
 ·obtain⟨_,rfl⟩:=hv;rw[c,e8];rfl
def aRa (k:Int)(b:List Int)(h:b.length<=34359738368):Tz k b=some (Rt k b):=by unfold Tz;rw[bHr (k:=k) h (by grind[bMz,dS,aQ,bd_s,aD,gd_T,fM]) (by simp)];rfl
def aRb (k:Int)(b:List Int)(h:b.length<=34359738368):Um k b=some (Rt k b):=by unfold Um;rw[bHr (k:=k) h (by grind[bMy,dS,aQ,bd_s,aD,fM]) (by simp)];rfl
def aRc (p:Int)(b:AO):Ua p b=some (gF p b):=by
 grind[decide,decide_eq_true,bL,dQ,aD,bd_s,decide_eq_false,Ru,gX,Ua,gF]
def aDd {bs:List AO}{p:Int}(hl:bs.length<=34359738368){F:(Nat->Option ((List Int×Bool)⊕PUnit))->Nat->Option ((List Int×Bool)⊕PUnit)}
  (a:∀rec i (hi:i<bs.length),F rec i=bif (gF p bs[i]).2 then some (.inl ((gF p bs[i]).1,true)) else rec (i+1)) (b:∀rec,F rec bs.length=some (.inr ())):nx (bY FUEL F 0) (λ_=>some (([]:List Int),false))=some (gQ bs p):=by
 have go:∀(k i n:Nat),i+k=bs.length->k<n->nx (bY n F i) (λ_=>some (([]:List Int),false))=some (gQ (bs.drop i) p):=by
  intro k;induction k with
  |zero=>
   intro i n hk hn;obtain⟨n,rfl⟩:∃m,n=m+1:=⟨n-1,by omega⟩;have:i=bs.length:=by omega
   subst this;rw[jA,b,dy];rfl
  |succ k c=>
   intro i n hk hn;obtain⟨n,rfl⟩:∃m,n=m+1:=⟨n-1,by omega⟩;have hi:i<bs.length:=by omega
   rw[jA,a _ i hi,cG hi,gQ];cases(gF p bs[i]).2 with
   |true=>rfl
   |false=>grind
 exact go bs.length 0 FUEL (by omega) (by grind[gW])
def aRd (bs:List AO)(p:Int)(h:bs.length<=34359738368):Ub bs p=some (gQ bs p):=by unfold Ub;exact aDd h (by grind[dS,aQ,bd_s]) (by simp)
def aRe (p:Int)(b:AO):Uo p b=some (gF p b):=by
 grind[decide,decide_eq_true,bL,dQ,aD,bd_s,decide_eq_false,Ru,gX,Uo,gF]
def aRf (bs:List AO)(p:Int)(h:bs.length<=34359738368):Uq bs p=some (gQ bs p):=by unfold Uq;exact aDd h (by grind[dS,aQ,bd_s]) (by simp)
theorem aRg {c:AM}{b:Int}(a:c.sz<=34359738368)(h0:0<=b/\b<(c.History.length:Int)):bB c.History (IntKind.i64.wrap (IntKind.i64.wrap ((c.History.length:Int)-1)-b))=some (c.History.getD (c.History.length-1-b.toNat) default)/\(c.History.getD (c.History.length-1-b.toNat) default).sz<=34359738368:=by simp only[AM.sz] at a;have h1:=Ma (f:=AI.sz) (l:=c.History) (i:=c.History.length-1-b.toNat) (by omega);refine⟨?_,by omega⟩;rw[aM (n:=(c.History.length:Int)-1) (by omega) (by omega),aM (by omega) (by omega),wF (by omega) (by omega)];congr 2;omega
def Q8 (c:AM)(b:Int)(a:c.sz<=34359738368):Bb c b=some (eF c b):=by
 grind[decide,aRg,bEl,bd_s,aD,bQw,AM.sz,Bb,eF]
def Q9 (c:AM)(b:Int)(a:c.sz<=34359738368):Bq c b=some (eF c b):=by
 grind[decide,aRg,bEl,bd_s,aD,Aa,Bq,eF]
def bC1 {a b:List AD}(d:a.length<=34359738368){F:(Nat->Option (Bool⊕PUnit))->Nat->Option (Bool⊕PUnit)}
  (f:∀rec i (hi:i<b.length) (hj:i<a.length),F rec i=bif !aY2 a[i] b[i] then some (.inl false) else rec (i+1)) (c:∀rec,F rec b.length=some (.inr ())):
  (bif decide ((a.length:Int)<(b.length:Int)) then some false else nx (bY FUEL F 0) λ_=>some true)=some (bS a b):=by
 unfold bS;by_cases h:b.length<=a.length
 ·rw[av (show ¬(a.length:Int)<(b.length:Int) by omega),ae,au h,cY,
   kG (l:=b) (λi e=> !aY2 (a.getD i default) e) (.inl false) (.inr ()) (by omega) (by grind[List.getD,List.getElem?_eq_getElem]) c]
  cases iM (λi e=> !aY2 (a.getD i default) e) 0 b<;>rfl
 grind
def aDe (a b:List AD)(h:a.length<=34359738368):Ef a b=some (bS a b):=by unfold Ef;exact bC1 h (λrec i hi hj=>by simp only[dS hi,ac,aQ hi,aQ hj,bd_s];rfl) (by simp)
def aDf (a b:List AD)(h:a.length<=34359738368):Fb a b=some (bS a b):=by unfold Fb;exact bC1 h (λrec i hi hj=>by simp only[dS hi,ac,aQ hi,aQ hj,bd_s];rfl) (by simp)
def aH0 (k:Int)(b:AI)(h:b.Data.length<=34359738200):Jc k b=some (iR k b):=by
 grind[aD,bd_s,aZ,Gx,Jc,iR]
def aH1 (k:Int)(b:AI)(h:b.Data.length<=34359738200):Jt k b=some (iR k b):=by
 grind[zX,aD,bd_s,Gx,Jt,iR]
def aLv (k e v:Int):Nw k e v=some (bL k&&(bX e 0 1000000&&bX v 0 1000000)):=by unfold Nw;cases bL k<;>cases bX e 0 1000000<;>rfl
def aUk (k e v:Int):aT3 k e v=some (lZ k e v):=by rfl
def Cj (b:List Int)(hb:aT b)(p:Nat)(hp:p<=34359738368){F:(Int×Int×Nat->Option ((Int×Int×Bool)⊕PUnit))->Int×Int×Nat->Option ((Int×Int×Bool)⊕PUnit)}
  (j:∀rec (n q:Int) (i:Nat),F rec (n,q,i)=bif decide ((i:Int)<6) then(bif decide (IntKind.i64.wrap ((p:Int)+(i:Int))>=(b.length:Int)) then some (.inl (0,0,false)) else bd (bB b (IntKind.i64.wrap ((p:Int)+(i:Int)))) λz=>gd ((128:Int)≠0) (bif decide (IntKind.i64.wrap z<128) then(bd (bif decide ((i:Int)>0) then(bif IntKind.i64.wrap z==0 then some true else some (decide (IntKind.i64.wrap (n+IntKind.i64.wrap ((IntKind.i64.wrap z).tmod 128*q))>1000000000000))) else some (decide (IntKind.i64.wrap (n+IntKind.i64.wrap ((IntKind.i64.wrap z).tmod 128*q))>1000000000000))) λc=>bif c then some (.inl (0,0,false)) else some (.inl (IntKind.i64.wrap (n+IntKind.i64.wrap ((IntKind.i64.wrap z).tmod 128*q)),IntKind.i64.wrap (IntKind.i64.wrap ((p:Int)+(i:Int))+1),true))) else rec (IntKind.i64.wrap (n+IntKind.i64.wrap ((IntKind.i64.wrap z).tmod 128*q)),IntKind.i64.wrap (q*128),i+1))) else some (.inr ())):
  ∀(k i:Nat) (n:Int) (f:Nat),i+k=6->k<f->0<=n->n<128^i->nx (bY f F (n,(128:Int)^i,i)) (λ_=>some ((0:Int),(0:Int),false))=some (uvG b p k i n)
 |0,i,n,f+1,hk,w,h0,h1=>by
  rw[jA,j,show decide ((i:Int)<6)=false from av (by omega)];rfl
 |k+1,i,n,f+1,hk,w,h0,h1=>by
  have l:=aYz (i:=i) (by omega);rw[jA,j,show decide ((i:Int)<6)=true from au (by omega),ac];rw[show IntKind.i64.wrap ((p:Int)+(i:Int))=((p+i:Nat):Int) by rw[aM (by omega) (by omega)];omega];unfold uvG;by_cases a:p+i<b.length
  ·have m:=wD hb a;have hg:b.getD (p+i) 0=b[p+i]:=by simp[List.getD,ab a]
   rw[cW a,hg,aQ a];generalize b[p+i]=z at m;rw[show decide (((p+i:Nat):Int)>=(b.length:Int))=false from av (by omega)];have hs:=aY0 (z:=z) (n:=n) (i:=i) (by omega) m.1 h0 h1;have o:IntKind.i64.wrap z=z:=aM (by omega) (by omega);have r:z.tmod 128=z%128:=cz m.1;have s:IntKind.i64.wrap (z%128*128^i)=z%128*128^i:=aM (by omega) (by omega);have x:=aYz (i:=i+1) (by omega);have t:IntKind.i64.wrap (n+z%128*128^i)=n+z%128*128^i:=aM (by omega) (by omega);have u:IntKind.i64.wrap (((p+i:Nat):Int)+1)=((p+i+1:Nat):Int):=by rw[aM (by omega) (by omega)];omega
   have v:IntKind.i64.wrap ((128:Int)^i*128)=128^(i+1):=by rw[<-fq,aM (by omega) (by omega)]
   have h:((128:Int)≠0)=True:=by simp
   simp only[ae,bd_s,o,r,s,t,u,v,h,gd_T];by_cases d:z<128
   ·simp only[d,decide_true,ac];have e:(decide ((i:Int)>0))=decide (0<i):=dk.2 (by omega);rw[e];cases decide (0<i)<;>cases(z==0)<;>cases decide (n+z%128*128^i>1000000000000)<;>rfl
   ·simp only[d,decide_false,ae];exact Cj b hb p hp j k (i+1) _ f (by omega) (by omega) hs.1 hs.2.1
  ·rw[dm a,show decide (((p+i:Nat):Int)>=(b.length:Int))=true from au (by omega)];rfl
def R3 (b:List Int)(a:Int)(hb:aT b):Bu b a=some (Dh b a):=by
 unfold Bu Dh;have c:=gW;have hlen:=hb.1;rw[Aa,bd_s];by_cases h0:a<0
 ·simp[h0]
 ·rw[dm h0,av h0,da];by_cases h1:a>=b.length
  ·grind[uvG,decide_eq_true]
  ·rw[av h1,ae];obtain⟨p,rfl⟩:=ex (show 0<=a by omega);exact Cj b hb p (by omega) (λrec n q i=>rfl) 6 0 0 FUEL rfl (by omega) (by omega) (by decide)
theorem Mr (b:List Int)(c:Int)(hc:c<=100){F:(Int×List Int×Nat->Option ((List Int×Int×Bool)⊕(Int×List Int)))->Int×List Int×Nat->Option ((List Int×Int×Bool)⊕(Int×List Int))}
  (d:∀rec (a:Int) (s:List Int) (i:Nat),s.length<=34359738368->F rec (a,s,i)=bif decide ((i:Int)<c) then(bif !(Dh b a).2.2 then some (.inl ([],0,false)) else rec ((Dh b a).2.1,s++[(Dh b a).1],i+1)) else some (.inr (a,s))):
  ∀(k i:Nat) (a:Int) (s:List Int) (f:Nat),((i+k:Nat):Int)=c->k<f->s.length<=i->nx (bY f F (a,s,i)) (λz=>some (z.2,z.1,true))=some (kZ b k a s)
 |0,i,a,s,f+1,hk,e,hs=>by
  rw[jA,d _ _ _ _ (by omega),show decide ((i:Int)<c)=false from av (by omega)];rfl
 |k+1,i,a,s,f+1,hk,e,hs=>by
  rw[jA,d _ _ _ _ (by omega),show decide ((i:Int)<c)=true from au (by omega),ac];unfold kZ;cases(Dh b a).2.2 with
  |false=>rfl
  |true=>simp only[ax,ae,ac];exact Mr b c hc d k (i+1) _ _ f (by omega) (by omega) (by simp;omega)
def aDg (b:List Int)(a c:Int)(hb:aT b):Fe b a c=some (jK b a c):=by
 grind[decide_false,bd_s,decide_true,Bool.not_true,Bool.or_self,Mr,aD,fM,FUEL,gW,Fe,jK,bX]
def aDh (b:List Int)(a c:Int)(hb:aT b):Ei b a c=some (jK b a c):=by
 grind[bX,iA,Bool.not_true,bd_s,Bool.or_self,Mr,aD,fM,FUEL,gW,Ei,jK]
theorem Ck (b:List Int)(hb:aT b)(a:Int)(q:0<=a){F:(Int×Nat->Option ((Int×Int×Bool)⊕PUnit))->Int×Nat->Option ((Int×Int×Bool)⊕PUnit)}
  (l:∀rec (n:Int) (i:Nat),F rec (n,i)=bif decide ((i:Int)<6) then(bd (bif decide (a<0) then some true else some (decide (a>=IntKind.i64.wrap ((b.length:Int)-(i:Int))))) λc=>bif c then some (.inl (0,0,false)) else bd (bB b (IntKind.i64.wrap (a+(i:Int)))) λz=>gd ((0:Int)<=IntKind.i64.wrap (7*(i:Int))) (bif decide (IntKind.i64.wrap z<128) then(bd (bif IntKind.i64.wrap z==0 then(bif decide ((i:Int)>0) then some true else some (decide (orI .i64 n (aBe .i64 (pI .i64 (IntKind.i64.wrap z) 127) (IntKind.i64.wrap (7*(i:Int))))>1000000000000))) else some (decide (orI .i64 n (aBe .i64 (pI .i64 (IntKind.i64.wrap z) 127) (IntKind.i64.wrap (7*(i:Int))))>1000000000000))) λc=>bif c then some (.inl (0,0,false)) else some (.inl (orI .i64 n (aBe .i64 (pI .i64 (IntKind.i64.wrap z) 127) (IntKind.i64.wrap (7*(i:Int)))),IntKind.i64.wrap (IntKind.i64.wrap (a+(i:Int))+1),true))) else rec (orI .i64 n (aBe .i64 (pI .i64 (IntKind.i64.wrap z) 127) (IntKind.i64.wrap (7*(i:Int)))),i+1))) else some (.inr ())):
  ∀(k i:Nat) (n:Int) (f:Nat),i+k=6->k<f->0<=n->n<128^i->nx (bY f F (n,i)) (λ_=>some ((0:Int),(0:Int),false))=some (uvG b a.toNat k i n)
 |0,i,n,f+1,hk,r,h0,h1=>by
  rw[jA,l,show decide ((i:Int)<6)=false from av (by omega)];rfl
 |k+1,i,n,f+1,hk,r,h0,h1=>by
  have hlen:=hb.1;rw[jA,l,show decide ((i:Int)<6)=true from au (by omega),ac,Aa,bd_s];rw[show IntKind.i64.wrap ((b.length:Int)-(i:Int))=(b.length:Int)-(i:Int) from aM (by omega) (by omega),show decide (a<0)=false from av (by omega),da];unfold uvG;by_cases d:a.toNat+i<b.length
  ·have j:=wD hb d;have hg:b.getD (a.toNat+i) 0=b[a.toNat+i]:=by simp[List.getD,ab d]
   have m:IntKind.i64.wrap (a+(i:Int))=((a.toNat+i:Nat):Int):=by rw[aM (by omega) (by omega)];omega
   rw[cW d,hg,m,aQ d];generalize b[a.toNat+i]=z at j;rw[show decide (a>=(b.length:Int)-(i:Int))=false from av (by omega)];have hs:=aY0 (z:=z) (n:=n) (i:=i) (by omega) j.1 h0 h1;have o:IntKind.i64.wrap z=z:=aM (by omega) (by omega);have ho:=bQu (z:=z) (n:=n) (i:=i) (by omega) j.1 j.2 h0 h1;have p:IntKind.i64.wrap (((a.toNat+i:Nat):Int)+1)=((a.toNat+i+1:Nat):Int):=by rw[aM (by omega) (by omega)];omega
   have s:0<=IntKind.i64.wrap ((7:Int)*(i:Int)):=by rw[aM (by omega) (by omega)];omega
   simp only[ae,bd_s,o,ho,p];rw[aD s];by_cases h:z<128
   ·simp only[h,decide_true,ac];have e:(decide ((i:Int)>0))=decide (0<i):=dk.2 (by omega);rw[e];cases decide (0<i)<;>cases(z==0)<;>cases decide (n+z%128*128^i>1000000000000)<;>rfl
   ·simp only[h,decide_false,ae];exact Ck b hb a q l k (i+1) _ f (by omega) (by omega) hs.1 hs.2.1
  ·rw[dm d,show decide (a>=(b.length:Int)-(i:Int))=true from au (by omega)];rfl
def R4 (b:List Int)(a:Int)(hb:aT b):Bc b a=some (Dh b a):=by
 unfold Bc Dh;have d:=gW;by_cases h0:a<0
 ·rw[cW h0];obtain⟨f,c⟩:∃f,FUEL=f+1:=⟨FUEL-1,by omega⟩;simp_all[nx,jA]
 grind[Ck,FUEL]
def Po (s:AJ)(e:AK)(a:e.sz<=34359738368):uD s e=some (dL s e):=by
 simp only[AK.sz] at a;unfold uD dL
 grind[decode_len,jK,Lu,bB,bd_s,Bool.not_true,bL,gQ,iO,aD,M5]
def Pp (s:AJ)(e:AK)(a:e.sz<=34359738368):uM s e=some (dL s e):=by
 simp only[AK.sz] at a;unfold uM dL;rw[aD (by simp),bd_s,aD (by omega),bd_s,aD (M5 _ _),show aV s.Seed [181]=iO s from rfl]
 grind[decode_len,jK,Lu,bB,bd_s,Bool.not_true,bL,gQ,iO]
theorem bHs {F:(Int×List Int->Option (Int×List Int))->Int×List Int->Option (Int×List Int)}{n:Int}{b:List Int}(hk:0<=n/\n<=1000000000000)(hb:b.length<=34359738300)
  (a:∀rec (n:Int) (s:List Int),0<=n->n<9223372036854775807->s.length<=34359738368->F rec (n,s)=bif decide (n>127) then rec (n/128,s++[n%128+128]) else some (n,s)):
  (bd (EV.bY FUEL F (n,b)) λz=>gd (aZ z.2 [IntKind.u8.wrap z.1]) (some (z.2++[IntKind.u8.wrap z.1])))=some (b++uvE 5 n):=by
 have f:(128:Int)^(5+1)=4398046511104:=by decide
 obtain⟨m,q,c,d,e,h⟩:=bBu a 5 n b FUEL (by grind[gW]) hk.1 (by omega) (by omega) (by omega);have hq:q.length<=34359738368:=by
  grind[List.length_append,List.length_singleton,aY3,List.length]
 rw[c,bd_s];simp only[aPb e (by omega)];rw[fM (s:=q) hq,d]
def Uv (b:List Int)(n:Int)(h:b.length<=34359738300):wI b n=some (sM b n):=by
 unfold wI sM enc1;rw[oM (by omega)];cases hr:bX n 0 1000000000000 with
 |false=>simp
 |true=>rw[ax,ae,ac,bu];exact bHs (iA hr) h (by grind[decide,gd,aZ,orI,pI,Gs,bQ0,bVh,Int.emod_nonneg,Int.emod_lt_of_pos,bXi,aPb,fM,aD])
def aH2:∀(l s:List Int),l.foldl sM s=s++iN l
 |[],s=>by simp[iN]
 |x::l,s=>by rw[dp,aH2 l,vF,sM,ck]
def aDi (l:List Int)(h:l.length<=5000000000):Ec l=some (iN l):=by unfold Ec;rw[gJ (l:=l) sM (λi s=>s.length<=6*i) (λs=>some s) (by omega) (by simp) (by grind[aB7,sM,List.length_append]) (by grind[dS,aQ,bd_s,aD]) (by simp),aH2];rfl
def R5:∀(l:List AG) (s:List Int),l.foldl (λs e=>s++aTx e) s=s++kJ l
 |[],s=>by simp[kJ]
 |x::l,s=>by rw[dp,R5 l];simp[kJ]
def Yy (b:AC)(h:b.sz<=34359738368):xO b=some (nX b):=by
 unfold xO nX;rw[aD h,bd_s];cases hb:aP b with
 |false=>rfl
 |true=>
  have hl:=oN hb;have hv:(uA b).length=1+4*b.Entries.length:=by grind[uA,vG]
  rw[ax,ae,ac,gJ (l:=b.Entries) (λs e=>s++aTx e) (λi s=>s.length<=1+4*i) (λs=>some s) (by omega) (by simp) (by grind[aTx,List.length_append,List.length_cons,List.length_nil]) (λrec i s hi hv=>by
   have e:∀x y z w:Int,gd (aZ s [x,y,z,w]) (some (s++[x,y,z,w]))=some (s++[x,y,z,w]):=(by grind[aD,aZ,List.length_cons,List.length_nil]);simp only[dS hi,ac,aQ hi,bd_s,Lx,e];rfl) (by simp),R5,bd_s]
  grind[aD,kJ,uA,bd_s]
def aDj (a b:List Int)(h:aT a/\aT b):Ej a b=some (a==b):=by obtain⟨c,hb⟩:=h;have h1:=c.1;have h2:=hb.1;unfold Ej;rw[aD (by omega),aD (by omega),aNb,aNb,ByteArray.toList_eq,ByteArray.toList_eq,aWr,aWr];congr 1;rw[fL,df,df];exact⟨λh=>bytes_inj (Sd c) (Sd hb) h,λh=>by rw[h]⟩
def bXz {v:List Int}{i:Nat}(h:4*i+3<v.length):v.drop (4*i)=v[4*i]::v[4*i+1]::v[4*i+2]::v[4*i+3]::v.drop (4*(i+1)):=by
 grind[List.drop_eq_getElem_cons]
def bC2 {v:List Int}{k:Nat}(hv:v.length=4*k)(hk:k<=20){τ:Type}{x:τ}{F:(Nat×List AG->Option (τ⊕List AG))->Nat×List AG->Option (τ⊕List AG)}
  (a:∀rec i s (hi:i<k) (h:4*i+3<v.length),s.length<=100->F rec (i,s)=bif decide (v[4*i+3]>1) then some (.inl x) else rec (i+1,s++[⟨v[4*i],v[4*i+1],v[4*i+2],v[4*i+3]==1⟩])) (b:∀rec s,F rec (k,s)=some (.inr s)):
  ∀(m i n:Nat) (s:List AG),i+m=k->m<n->s.length<=i->EV.bY n F (i,s)=some (bif mU (v.drop (4*i)) then .inr (s++nI (v.drop (4*i))) else .inl x)
 |0,i,n+1,s,h,_,_=>by
  have:i=k:=by omega
  subst this;rw[jA,b,gb (by omega)];simp[mU,nI]
 |m+1,i,n+1,s,h,hn,hs=>by
  have c:4*i+3<v.length:=by omega
  rw[jA,a _ i s (by omega) c (by omega),bXz c];simp only[mU,nI];by_cases hg:v[4*i+3]>1
  ·rw[au hg,av (show ¬v[4*i+3]<=1 by omega)];rfl
  ·rw[av hg,au (show v[4*i+3]<=1 by omega),ae,cY,bC2 hv hk a b m (i+1) n _ (by omega) (by omega) (by simp;omega)];simp
def bC3 {a:List Int}(hb:aT a)(hc:(!(Dh a 0).2.2||decide ((Dh a 0).1>20))=false):∃(n:Int) (q:Nat),Dh a 0=(n,(q:Int),true)/\0<=n/\n<=20/\q<=a.length:=by
 simp only[bl,cN,cR] at hc;cases b:Dh a 0 with
 |mk n r=>
  obtain⟨e,ok⟩:=r;rw[b] at hc;obtain⟨rfl,hc2⟩:=hc;obtain⟨q,⟨_,c,d,f,h⟩,_⟩:=aY4 hb b
  grind
def bC4 {a:List Int}{e c:Int}(h0:0<=c)(h1:c<=100)(h2:0<=e)(b:e<=a.length):jK a e c=kZ a c.toNat e []:=by
 grind[decide_eq_true,jK,bX]
theorem aZo {v:List Int}{i j:Nat}{q:Int}(hq:q=(j:Int))(h:i+j<v.length):bB (v.drop i) q=some v[i+j]:=by subst hq;rw[aQ (by grind),List.getElem_drop]
def Yz (a:List Int)(hb:aT a):xX a=some (Dw a):=by
 unfold xX Dw;rw[aD hb,bd_s,Aa,bd_s];cases hc:(!(Dh a 0).2.2||decide ((Dh a 0).1>20)) with
 |true=>rfl
 |false=>
  obtain⟨n,q,b,h0,h1,h2⟩:=bC3 hb hc;rw[b,ae,ae];dsimp only;rw[aM (n:=4*n) (by omega) (by omega),aD hb,bd_s,bC4 (by omega) (by omega) (by omega) (by omega)];cases hd:kZ a (4*n).toNat (q:Int) [] with
  |mk v r=>
   obtain⟨e,ok⟩:=r;dsimp only;rw[Aa,bd_s];unfold bBx;cases ok with
   |false=>rfl
   |true=>
    dsimp only;rw[ax,da,da];cases he:(e !=(a.length:Int)) with
    |true=>rfl
    |false=>
     obtain⟨t,q',⟨k1,k2,k3,k4,k5⟩,_⟩:=Sc hb _ _ _ _ _ (by omega) (by omega) hd;rw[bu] at k1;subst k1;have hv:v.length=4*n.toNat:=by omega
     rw[ae,da,bC2 (x:=((AC.mk [],false):AC×Bool)) hv (by omega) (λrec i s hi c hs=>by
      have d:decide ((i:Int)<n)=true:=au (by omega);have f:IntKind.i64.wrap (4*(i:Int))=((4*i:Nat):Int):=by grind[aM]
      have h:bB (v.drop (4*i)) 0=some (v[4*i]'(by omega)):=aZo (j:=0) rfl (by omega);have k:bB (v.drop (4*i)) 1=some (v[4*i+1]'(by omega)):=(by grind[aZo]);have l:bB (v.drop (4*i)) 2=some (v[4*i+2]'(by omega)):=(by grind[aZo]);have m:bB (v.drop (4*i)) 3=some v[4*i+3]:=aZo (j:=3) rfl c;simp only[d,f,bo,ac,aD (show jW v ((4*i:Nat):Int) from⟨by omega,by omega⟩),h,k,l,m,bd_s,fM (show s.length<=34359738368 by omega)]) (by grind) n.toNat 0 FUEL [] (by omega) (by grind[gW]) (by simp)]
     simp only[Nat.mul_zero,gm,bu];cases o:mU v with
     |false=>rfl
     |true=>have hl:=aB9 n.toNat v hv;simp only[ac,nx_r];rw[aD (by grind[nI,AC.sz]),bd_s];cases aP ⟨nI v⟩<;>rfl
def aXp {a:List Int}(hb:aT a){k:Nat}(hk:k<=20){τ:Type}{x:τ}{F:(Int×Nat×List AG->Option (τ⊕List AG))->Int×Nat×List AG->Option (τ⊕List AG)}
  (b:∀rec (q:Nat) i s (hi:i<k),q<=a.length->s.length<=100->F rec ((q:Int),i,s)=bif !(kZ a 4 q []).2.2 then some (.inl x) else rec ((kZ a 4 q []).2.1,i+1,s++nI (kZ a 4 q []).1)) (c:∀rec e s,F rec (e,k,s)=some (.inr s)):
  ∀(m i n q:Nat) (s:List AG),i+m=k->m<n->q<=a.length->s.length<=i->EV.bY n F ((q:Int),i,s)=some (bif (kZ a (4*m) q []).2.2 then .inr (s++nI (kZ a (4*m) q []).1) else .inl x)
 |0,i,n+1,q,s,h,_,_,_=>by
  have:i=k:=by omega
  subst this;rw[jA,c];simp[kZ,nI]
 |m+1,i,n+1,q,s,h,hn,hq,hs=>by
  rw[jA,b _ q i s (by omega) hq (by omega),show 4*(m+1)=4+4*m by omega,aPc 4 (4*m)];cases hd:kZ a 4 (q:Int) [] with
  |mk l r=>
   obtain⟨e,ok⟩:=r;cases ok with
   |false=>rfl
   |true=>
    obtain⟨t,q',⟨k1,k2,k3,k4,k5⟩,_⟩:=Sc hb _ _ _ _ _ (by omega) (by omega) hd;rw[bu] at k1;subst k1;subst k3;have hl:(nI l).length=1:=aB9 1 l (by omega);simp only[ax,ae,ac];rw[aXp hb hk b c m (i+1) n q' _ (by omega) (by omega) k4 (by simp[hl];omega),aPd (4*m) (q':Int) l];cases(kZ a (4*m) (q':Int) []).2.2 with
    |false=>rfl
    |true=>simp[bBw 1 l _ (by omega)]
def four {l:List Int}(h:l.length=4):∃w x y z,l=[w,x,y,z]:=by
 match l,h with
 |[w,x,y,z],_=>exact⟨w,x,y,z,rfl⟩
def Za (a:List Int)(hb:aT a):xP a=some (Dw a):=by
 unfold xP Dw;rw[aD hb,bd_s,Aa,bd_s];cases hc:(!(Dh a 0).2.2||decide ((Dh a 0).1>20)) with
 |true=>rfl
 |false=>
  obtain⟨n,q,b,h0,h1,h2⟩:=bC3 hb hc;rw[b,ae,ae];dsimp only;rw[aXp (x:=((AC.mk [],false):AC×Bool)) hb (k:=n.toNat) (by omega) (λrec q i s hi hq hs=>by
   have d:decide ((i:Int)<n)=true:=au (by omega);simp only[d,ac,aD hb,bd_s,bC4 (a:=a) (e:=(q:Int)) (c:=4) (by omega) (by omega) (by omega) (by omega),show Int.toNat 4=4 from rfl];cases hd:kZ a 4 (q:Int) [] with
   |mk l r=>
    obtain⟨e,ok⟩:=r;cases ok with
    |false=>rfl
    |true=>
     obtain⟨t,q',⟨k1,k2,_⟩,_⟩:=Sc hb _ _ _ _ _ (by omega) (by omega) hd;rw[bu] at k1;subst k1;obtain⟨w,x,y,z,rfl⟩:=four k2;simp only[ax,ae,(by assumption),(by assumption),(by assumption),(by assumption),bd_s,fM (show s.length<=34359738368 by omega)];rfl) (by grind) n.toNat 0 FUEL q [] (by omega) (by grind[gW]) h2 (by simp)]
  rw[show(4*n).toNat=4*n.toNat by omega];unfold bBx;cases hd:kZ a (4*n.toNat) (q:Int) [] with
  |mk v r=>
   obtain⟨e,ok⟩:=r;cases ok with
   |false=>rfl
   |true=>
    obtain⟨b1,h,j,m⟩:=bM7 hb b h1 (show kZ a (4*n).toNat (q:Int) []=(v,e,true) by rw[show(4*n).toNat=4*n.toNat by omega];exact hd);have f:(AC.mk (nI v)).sz<=34359738368:=by grind[AC.sz]
    simp only[ac,nx_r,bu,aD f,bd_s,aD (show aT (nX ⟨nI v⟩)/\aT a from⟨aCa _,hb⟩),Aa]
    grind[aP,nI,iN,uA,mU,absurd,Bool.not_true,Bool.not_false,nX]
def aDk (k:Int)(s:AI)(h:s.Data.length<=34359738200):Ff k s=some (iX k s):=by unfold Ff iX;rw[aD h,aD (by simp)];simp only[bd_s,aD (show s.Data.length<=34359738368 by omega),aD (aY1 (k:=aV k [223,s.Epoch,s.Version]) (show s.Data.length<=34359738368 by omega))];unfold lZ;cases bL k<;>cases bX s.Epoch 0 1000000<;>cases bX s.Version 0 1000000<;>cases(s.MAC !=iR k s)<;>rfl
def aDl (k:Int)(s:AI)(h:s.Data.length<=34359738200):Em k s=some (iX k s):=by unfold Em iX;rw[aD h,aD (by omega)];simp only[bd_s,aD (aY1 (k:=lZ k s.Epoch s.Version) (show s.Data.length<=34359738368 by omega))];cases bL k<;>cases bX s.Epoch 0 1000000<;>cases bX s.Version 0 1000000<;>cases(s.MAC !=iR k s)<;>rfl
def aDm (d:AB)(l:List AD)(bx:AK)(s:AI)(h:d.sz<=34359738368/\l.length<=34359738368/\bx.sz<=34359738368/\s.Data.length<=34359738200):Fg d l bx s=some (bQ d l bx s):=by
 obtain⟨h1,h2,a,b⟩:=h;have c:=fU l;have hb:d.aAD.sz<=34359738368:=by grind[AB.sz,AC.sz]
 unfold Fg bQ iH;simp only[aD h1,aD h2,aD a,aD b,aD (by omega),bd_s,Aa,bif_and,bif_or,Lx]
 grind[aU,bS,iW,aC,aS,aB,dL,bx,decide,iG,aD,bd_s,iX,aWt]
def aDn (d:AB)(l:List AD)(bx:AK)(s:AI)(h:d.sz<=34359738368/\l.length<=34359738368/\bx.sz<=34359738368/\s.Data.length<=34359738200):En d l bx s=some (bQ d l bx s):=by
 obtain⟨h1,h2,a,b⟩:=h;have c:=fU l;have hb:d.aAD.sz<=34359738368:=by grind[AB.sz,AC.sz]
 unfold En bQ iH;simp only[aD h1,aD h2,aD a,aD b,aD (by omega),bd_s,Aa,bif_and,bif_or,Lx]
 grind[aU,bS,iW,aC,aS,aB,dL,bx,decide,iG,aD,bd_s,iX,aWt]
theorem aXq {c:AM}(h:c.sz<=34359738100)(b:Int):c.Log.length<=34359738100/\c.Boxes.sz<=34359738100/\(eF c b).1.Data.length<=34359738100:=by
 grind[decide,aRg,bEl,Ma,AI.sz,eF,AK.sz,AM.sz]
def aRh (d:AB)(c:AM)(b:Int)(h:d.sz<=34359738100/\c.sz<=34359738100):Uc d c b=some (bQ d c.Log c.Boxes (eF c b).1):=by obtain⟨h1,h2⟩:=h;obtain⟨k1,k2,k3⟩:=aXq h2 b;unfold Uc;rw[aD (by omega),bd_s,aD (by grind),bd_s]
theorem Uw {w:AA}{d:Int}(h:aK w d=true):0<=d/\d.toNat<w.Devices.length/\(aG w d).sz<=w.sz/\aG w d=w.Devices.getD d.toNat default:=by
 simp only[aK,aa,cq] at h;have hi:d.toNat<w.Devices.length:=by omega
 have:=Ma (f:=AB.sz) hi;refine⟨h.1,hi,?_,rfl⟩;show(w.Devices.getD d.toNat default).sz<=_
 grind[AA.sz]
theorem Cm (w:AA):w.aAA.sz<=w.sz:=by grind[AA.sz,AM.sz,AK.sz]
def aRi (w:AA)(d b:Int)(c:w.sz<=34359738100):Uh w d b=some (aF w d b):=by
 have a:=Cm w;unfold Uh aF;rw[aD (show w.sz<=34359738368 by omega),bd_s,aD (show w.sz<=34359738368 by omega),bd_s];cases hc:(aR w&&aK w d) with
 |false=>rfl
 |true=>have hd:=(Bool.and_eq_true_iff.1 hc).2;obtain⟨k1,k2,k3,k4⟩:=Uw hd;rw[ax,ae,ac,lV hd,bd_s,aD ⟨by omega,by omega⟩,bd_s,bd_s]
def aRj (w:AA)(d b:Int)(c:w.sz<=34359738100):Ur w d b=some (aF w d b):=by have a:=Cm w;unfold Ur aF;rw[aD (by omega),bd_s,aD (by omega),bd_s,Aa,bd_s,<-Bool.not_and];cases hc:(aR w&&aK w d)<;>grind[aR,aK,k1,k2,k3,k4,Uw,aXq,Bool.not_true,aD,bd_s,lV]
def bHt {k:Int}{b:List Int}(hl:b.length<=34359738368){F:(List Int×Nat->Option (List Int))->List Int×Nat->Option (List Int)}
  (a:∀rec i s (hi:i<b.length),s.length<=34359738368->F rec (s,i)=rec (s++[bBy k i b[i]],i+1)) (c:∀rec s,F rec (s,b.length)=some s):EV.bY FUEL F ([],0)=some (lG k b):=by
 refine aK7 (λi s=>i<=b.length/\s=(Pe (λi z=>[bBy k i z]) 0 (b.take i),i)) b.length _ (by omega) ⟨by omega,by simp[Pe]⟩ (λi s rec hi hv=> ?_) (λs rec hv=> ?_)
 ·obtain⟨_,rfl⟩:=hv;refine .inl ⟨_,⟨hi,rfl⟩,?_⟩;rw[a rec i _ hi (by rw[sK,cp];omega),aHz hi,cy]
 ·obtain⟨_,rfl⟩:=hv;rw[c,e8];rfl
def aRk (k:Int)(b:List Int)(h:aT b):Ut k b=some (lG k b):=by unfold Ut;rw[bHt (k:=k) h.1 (by grind[bNa,wD,dS,aQ,bd_s,aD,gd_T,fM]) (by simp)];rfl
def aRl (k:Int)(b:List Int)(h:aT b):Tf k b=some (lG k b):=by unfold Tf;rw[bHt (k:=k) h.1 (by grind[bNb,wD,dS,aQ,bd_s,aD,gd_T,fM]) (by simp)];rfl
def Ux (b:List Int)(n:Int)(h:b.length<=34359738300):wQ b n=some (sM b n):=by
 unfold wQ sM enc1;have e:(decide (n<0)||decide (n>1000000000000))= !bX n 0 1000000000000:=by
  grind[bX]
 rw[aD (by omega),bd_s,Aa,bd_s,e]
 grind[bX,Bool.not_true,bHs,iA,decide,Int.tmod_eq_emod_of_nonneg,aM,aPb,Int.tdiv_eq_ediv_of_nonneg,gd_T,fM]
def aDo (l:List Int)(h:l.length<=5000000000):Fh l=some (iN l):=by unfold Fh;rw[gJ (l:=l) sM (λi s=>s.length<=6*i) (λs=>some s) (by omega) (by simp) (by grind[aB7,sM,List.length_append]) (by grind[dS,aQ,bd_s,aD]) (by simp),aH2];rfl
def Zb (b:AC)(h:b.sz<=34359738368):yB b=some (nX b):=by
 unfold yB nX;rw[aD h,bd_s];cases hb:aP b with
 |false=>rfl
 |true=>
  have hl:=oN hb;have hv:(uA b).length=1+4*b.Entries.length:=by grind[uA,vG]
  rw[ax,ae,ac,gJ (l:=b.Entries) (λs e=>s++aTx e) (λi s=>s.length<=1+4*i) (λs=>some s) (by omega) (by simp) (by grind[aTx,List.length_append,List.length_cons,List.length_nil]) (λrec i s hi hv=>by
   have e:∀x y z w:Int,gd (aZ s [x,y,z,w]) (rec (s++[x,y,z,w],i+1))=rec (s++[x,y,z,w],i+1):=(by grind[aD,aZ,List.length_cons,List.length_nil]);simp only[dS hi,ac,aQ hi,bd_s,O6,Lx,e];rfl) (by simp),R5,bd_s]
  grind[aD,kJ,uA,bd_s]
def bOz (k:Int)(b:AC):(lG k (nX b)).length<=34359738200:=by grind[Ab,Ii]
def aDp (k e v:Int)(b:AC)(h:b.sz<=34359738368):Fq k e v b=some (kK k e v b):=by unfold Fq kK eY lZ;simp only[aD h,bd_s,aD (show[(223:Int),e,v].length<=34359738300 by simp),aD (aCa b),aD (bOz (aV k [223,e,v]) b)];cases bL k<;>cases bX e 0 1000000<;>cases bX v 0 1000000<;>cases aP b<;>rfl
def aDq (k e v:Int)(b:AC)(h:b.sz<=34359738368):Eh k e v b=some (kK k e v b):=by unfold Eh kK eY;simp only[aD h,bd_s,aD (aCa b),aD (bOz (lZ k e v) b)];cases bL k<;>cases bX e 0 1000000<;>cases bX v 0 1000000<;>cases aP b<;>rfl
def aH3 (a b:AI):Jz a b=some (jY a b):=by unfold Jz jY;cases decide (a.Epoch>b.Epoch)<;>cases(a.Epoch==b.Epoch)<;>rfl
def aH4 (a b:AI):Jd a b=some (jY a b):=by unfold Jd jY;cases decide (a.Epoch>b.Epoch)<;>cases(a.Epoch==b.Epoch)<;>rfl
def bHu {d:AB}(h:d.sz<=34359738368):d.aAD.sz<=34359738368:=by grind[AB.sz,AC.sz]
def R6 (d:AB)(h:d.sz<=34359738368):Cc d=some (bZ d):=by unfold Cc bZ;simp only[aD h,aD (bHu h),bd_s];cases(kK d.Key d.Epoch (IntKind.i64.wrap (d.Version+1)) d.aAD).2<;>rfl
def R7 (d:AB)(h:d.sz<=34359738368):Ba d=some (bZ d):=by unfold Ba bZ;simp only[aD h,aD (bHu h),bd_s];cases(kK d.Key d.Epoch (IntKind.i64.wrap (d.Version+1)) d.aAD).2<;>rfl
def aXr (c:AM)(s:AI)(h:c.sz<=34359738300/\s.sz<=34359738300):(bd (gd (c.sz<=34359738368) (some c)) λa=>bd (gd (c.Log.length<=34359738368) (some (aB c.Log))) λd=>bd (bif (s.Epoch !=d) then some true else(bif decide ((c.History.length:Int)>0) then(bd (bB c.History (IntKind.i64.wrap ((c.History.length:Int)-1))) λb=>bd (some (jY s b)) λe=>bif !e then some true else some (decide ((c.History.length:Int)>=60))) else some (decide ((c.History.length:Int)>=60)))) λz2=>bif z2 then some (a,false) else bd (gd (s.sz<=34359738368) (some s)) λb=>gd (aZ a.History [b]) (some (AM.mk a.Log a.Boxes (a.History++[b]),true)))=some (bM c s):=by
 obtain⟨h1,h2⟩:=h;have f:=h1;simp only[AM.sz] at f;unfold bM;simp only[aD (show c.sz<=34359738368 by omega),aD (show c.Log.length<=34359738368 by omega),aD (show s.sz<=34359738368 by omega),bd_s,fM (show c.History.length<=34359738368 by omega)];by_cases h0:0<c.History.length
 ·have j:bB c.History (IntKind.i64.wrap ((c.History.length:Int)-1))=some (c.History.getD (c.History.length-1) default):=by rw[aM (by omega) (by omega),wF (by omega) (by omega)];simp
  rw[au (show(c.History.length:Int)>0 by omega),j];generalize c.History.getD (c.History.length-1) default=x;simp only[bd_s,ac,cY];cases(s.Epoch !=aB c.Log)<;>cases jY s x<;>cases decide ((c.History.length:Int)>=60)<;>rfl
 simp[*]
def Zc (c:AM)(s:AI)(h:c.sz<=34359738300/\s.sz<=34359738300):Yo c s=some (bM c s):=aXr c s h
def Zd (c:AM)(s:AI)(h:c.sz<=34359738300/\s.sz<=34359738300):Yj c s=some (bM c s):=aXr c s h
theorem aBC {w:AA}{d:Int}(a:w.sz<=10000000000)(h:((aF w d 0).2==0)=true):(aK (aF w d 0).1 d=true/\(aG (aF w d 0).1 d).sz<=34359738368)/\((aF w d 0).1.aAA.sz<=34359738300/\(bZ (aG (aF w d 0).1 d)).2.1.sz<=34359738300):=by
 grind[AI.sz,AA.sz,AM.sz,zH,aG,aF,Cm,Uw,aK,k4,k2,k1,k3,k5,nY]
def aDr (w:AA)(d:Int)(a:w.sz<=10000000000):Es w d=some (dI w d):=by
 unfold Es dI;have b:w.sz<=34359738368:=by omega
 simp only[aD (show w.sz<=34359738100 by omega),aD b,bd_s,bne];cases hs:((aF w d 0).2==0) with
 |false=>rfl
 |true=>obtain⟨⟨k1,k2⟩,k3⟩:=aBC a hs;generalize(aF w d 0).1=x at*;simp only[ax,ae,lV k1,bd_s,aD k2,aD k3,Aa];unfold Dj;cases(bZ (aG x d)).2.2<;>cases(bM x.aAA (bZ (aG x d)).2.1).2<;>rfl
def aDs (w:AA)(d:Int)(a:w.sz<=10000000000):Fy w d=some (dI w d):=by
 unfold Fy dI
 grind[aF,k1,k2,k3,aBC,Bool.not_true,lV,bd_s,aD,Dj,bZ,aG,bM,bne]
def bO0 (w:AA)(d:Int):(dI w d).1.sz<=2*w.sz+521:=by
 cases h:(dI w d).2 with
 |true=>
  have h1:=(aCb h).2;have h2:w.aAA.Log.length<=w.sz:=by simp only[AA.sz,AM.sz];omega
  omega
 |false=>
  unfold dI at*;cases hc:((aF w d 0).2==0&&(Dj (aF w d 0).1 d).2) with
  |true=>rw[hc] at h;cases h
  |false=>simp only[ae];omega
def aDt (s n:Int):aCx s n=some (aO s n):=by rfl
def aDu (s n:Int):aC3 s n=some (aO s n):=by rfl
def aH5 (s:AJ):aG7 s=some (bH s):=rfl
def aH6 (s:AJ):aHd s=some (bH s):=rfl
def R8 (s:AJ)(n:ByteArray)(k:Int)(h:n.size<=34359738300):Av s n k=some (dC s n k):=by unfold Av;rw[aD h,bd_s,aD (by simp)];rfl
def R9 (s:AJ)(n:ByteArray)(k:Int)(h:n.size<=34359738300):Ch s n k=some (dC s n k):=by unfold Ch;rw[aD h,bd_s,aD (by simp)];rfl
def aDv (s:AJ)(n:ByteArray)(k:Int)(h:n.size<=34359738300):Ee s n k=some (eG s n k):=by unfold Ee;rw[aD h];rfl
def aDw (s:AJ)(n:ByteArray)(k:Int)(h:n.size<=34359738300):Ga s n k=some (eG s n k):=by unfold Ga;rw[aD h];rfl
def Ze (s:AJ)(l:List Int)(h:l.length<=34359738300):xM s l=some (lH s l):=by unfold xM;rw[aD h];rfl
def Zg (s:AJ)(l:List Int)(h:l.length<=34359738300):xZ s l=some (lH s l):=by unfold xZ;rw[aD (by simp),bd_s,aD h];rfl
def aDx (e:AK)(d:Int)(h:e.Boxes.length<=34359738368):Ed e d=some (mV e d):=by unfold Ed;rw[gJ (l:=e.Boxes) (λn b=>bif b.To==d then IntKind.i64.wrap (n+1) else n) (λ_ _=>True) (λs=>some s) (by omega) trivial (by simp) (by grind[dS,aQ,bd_s]) (by simp)];rfl
def aDy (e:AK)(d:Int)(h:e.Boxes.length<=34359738368):Fj e d=some (mV e d):=by unfold Fj;rw[gJ (l:=e.Boxes) (λn b=>bif b.To==d then IntKind.i64.wrap (n+1) else n) (λ_ _=>True) (λs=>some s) (by omega) trivial (by simp) (by grind[dS,aQ,bd_s]) (by simp)];rfl
def S9 (l:List AD)(k d:Int)(s:AJ)(h:l.length<=34359738300):Ao l k d s=some (bP l k d s):=by
 have h1:l.length<=34359738368:=by omega
 have e:∀x:AD,gd ((l++[x]).length<=34359738368) (some (aU (l++[x])))=some (aU (l++[x])):=(by grind[aD]);have a:∀x:Int,gd ([x].length<=34359738300) (some (lH s [x]))=some (lH s [x]):=λx=>aD (by simp);unfold Ao bP Gy bBz;simp only[aD h1,bd_s,a,fM h1,e];generalize aU (l++_)=q;cases decide ((l.length:Int)>0)<;>cases aU l<;>cases q<;>rfl
def T9 (l:List AD)(k d:Int)(s:AJ)(h:l.length<=34359738300):Bw l k d s=some (bP l k d s):=by
 have h1:l.length<=34359738368:=by omega
 have e:∀x:AD,gd ((l++[x]).length<=34359738368) (some (aU (l++[x])))=some (aU (l++[x])):=(by grind[aD]);have a:∀x:Int,gd ([x].length<=34359738300) (some (lH s [x]))=some (lH s [x]):=λx=>aD (by simp);unfold Bw bP Gy bBz;simp only[aD h1,bd_s,a,fM h1,e];generalize aU (l++_)=q;cases decide ((l.length:Int)>0)<;>cases aU l<;>cases q<;>rfl
def aRm (p e:Int)(d:List Int)(h:aT d):(bd (bif gI p==0 then some true else bif !bL e then some true else some (decide ((d.length:Int)>200))) λb=>bif b then some (AO.mk 0 0 [] 0,false) else bd (gd (aT d) (some (lG (gX (gI p) e) d))) λa=>bd (gd (a.length<=34359738200) (some (Ru (gX (gI p) e) (AO.mk p e a 0)))) λz2=>some (AO.mk p e a z2,true))=some (fE p e d):=by
 grind[gI,bL,decide,Bool.or_eq_false_iff,decide_eq_false_iff_not,aD,bd_s,lG,gX,Ab,Aa,fE,nJ]
def aRn (p e:Int)(d:List Int)(h:aT d):aQg p e d=some (fE p e d):=aRm p e d h
def aRo (p e:Int)(d:List Int)(h:aT d):aQk p e d=some (fE p e d):=aRm p e d h
def aH7 (l:List Int)(e:Int)(d:List Int)(h:l.length<=34359738300/\aT d):Iz l e d=some (fK e d 0 l):=by
 obtain⟨h1,h2⟩:=h;unfold Iz;rw[aGv (e:=e) (d:=d) (l:=l) (x:=(([],false):List AO×Bool)) (by grind[dS,aQ,bd_s,aD,fM]) (by simp) l.length 0 FUEL [] (by omega) (by grind[gW]) (by simp),gm];cases hs:(fK e d 0 l).2 with
 |true=>rw[ac,nx_r,bu,<-hs]
 |false=>rw[ae,bB6 hs];rfl
def aH8 (l:List Int)(e:Int)(d:List Int)(h:l.length<=34359738300/\aT d):Ju l e d=some (fK e d 0 l):=by
 obtain⟨h1,h2⟩:=h;unfold Ju;rw[aGv (e:=e) (d:=d) (l:=l) (x:=(([],false):List AO×Bool)) (by grind[dS,aQ,bd_s,aD,fM]) (by simp) l.length 0 FUEL [] (by omega) (by grind[gW]) (by simp),gm];cases hs:(fK e d 0 l).2 with
 |true=>rw[ac,nx_r,bu,<-hs]
 |false=>rw[ae,bB6 hs];rfl
def bHv (a b:Int):aT (iN [a,b]):=aPe (by grind[bB1]) (M8 _)
def Pq (l:List AD)(k e:Int)(h:l.length<=34359738300):uB l k e=some (bC l k e):=by have hd:=fU l;unfold uB bC;simp only[aD (show l.length<=34359738368 by omega),bd_s,aD (show[aB l,k].length<=5000000000 by simp),aD (show(aC l).length<=34359738300/\aT (iN [aB l,k]) from⟨by omega,bHv _ _⟩)];cases aU l<;>cases bL k<;>cases(fK e (iN [aB l,k]) 0 (aC l)).2<;>rfl
def Ps (l:List AD)(k e:Int)(h:l.length<=34359738300):uN l k e=some (bC l k e):=by have hd:=fU l;unfold uN bC;simp only[aD (show l.length<=34359738368 by omega),bd_s,aD (show[aB l,k].length<=5000000000 by simp),aD (show(aC l).length<=34359738300/\aT (iN [aB l,k]) from⟨by omega,bHv _ _⟩)];cases aU l<;>cases bL k<;>cases(fK e (iN [aB l,k]) 0 (aC l)).2<;>rfl
def bHw (e:AK)(l:List Int):(l.all λd=>mV e d==1)= !(l.any λd=>mV e d !=1):=by
 grind
def aH9 (e:AK)(l:List AD)(h:e.Boxes.length<=34359738368/\l.length<=34359738368):Ja e l=some (fQ e l):=by obtain⟨h1,h2⟩:=h;have hd:=fU l;unfold Ja fQ;rw[aD h2,bd_s,nW (l:=aC l) (λd=>mV e d !=1) (.inl false) (.inr PUnit.unit) (by omega) (by grind[dS,aQ,bd_s,aD]) (by simp),bHw];simp only[aD h2,bd_s];cases(aC l).any (λd=>mV e d !=1)<;>cases(e.Epoch==aB l)<;>cases((e.Boxes.length:Int)==((aC l).length:Int))<;>rfl
def aIa (e:AK)(l:List AD)(h:e.Boxes.length<=34359738368/\l.length<=34359738368):Jv e l=some (fQ e l):=by obtain⟨h1,h2⟩:=h;have hd:=fU l;unfold Jv fQ;rw[aD h2,bd_s,aD h2,bd_s,nW (l:=aC l) (λd=>mV e d !=1) (.inl false) (.inr PUnit.unit) (by omega) (by grind[dS,aQ,bd_s,aD]) (by simp),bHw];simp only[bne];cases(aC l).any (λd=> !(mV e d==1))<;>cases(e.Epoch==aB l)<;>cases((e.Boxes.length:Int)==((aC l).length:Int))<;>rfl
def bO1 {e:AK}(h:e.sz<=34359738368):e.Boxes.length<=34359738368:=by grind[AK.sz]
def aIb (c:AM)(l:List AD)(e:AK)(h:c.sz<=34359738368/\l.length<=34359738368/\e.sz<=34359738368):Jg c l e=some (gG c l e):=by obtain⟨h1,h2,a⟩:=h;unfold Jg gG;simp only[aD h1,aD h2,aD a,bd_s,aD (show e.Boxes.length<=34359738368/\l.length<=34359738368 from⟨bO1 a,h2⟩)];cases aU l<;>cases bS l c.Log<;>cases fQ e l<;>rfl
def aIc (c:AM)(l:List AD)(e:AK)(h:c.sz<=34359738368/\l.length<=34359738368/\e.sz<=34359738368):Jw c l e=some (gG c l e):=by obtain⟨h1,h2,a⟩:=h;unfold Jw gG;simp only[aD h1,aD h2,aD a,bd_s,aD (show e.Boxes.length<=34359738368/\l.length<=34359738368 from⟨bO1 a,h2⟩)];cases aU l<;>cases bS l c.Log<;>cases fQ e l<;>rfl
def U0 (s:AF)(i:Int)(h:s.Accounts.length<=34359738368):Aw s i=some (aJ s i):=by unfold Aw;exact zW (l:=s.Accounts) (λa=>a.Id==i) (by omega) (by grind[dS,aQ,bd_s]) (by simp)
def U1 (s:AF)(i:Int)(h:s.Accounts.length<=34359738368):Ca s i=some (aJ s i):=by unfold Ca;exact zW (l:=s.Accounts) (λa=>a.Id==i) (by omega) (by grind[dS,aQ,bd_s]) (by simp)
def bS6 {l:List AV}{h p:Int}(a:l.length<=34359738300){β:Type}(k:List AV->Option β):gd (jW l ((Yh h l:Nat):Int)) (gd (jW l ((Yh h l:Nat):Int)) (gd (aZ [] (List.take (Yh h l) l)) (gd (aZ ([]++List.take (Yh h l) l) [AV.mk h p 0 false]) (gd (aZ ([]++List.take (Yh h l) l++[AV.mk h p 0 false]) (List.drop (Yh h l) l)) (k ([]++List.take (Yh h l) l++[AV.mk h p 0 false]++List.drop (Yh h l) l))))))=k (aCc l h p):=by have hk:Yh h l<=l.length:=Sg;have h1:jW l ((Yh h l:Nat):Int):=⟨by omega,by omega⟩;rw[aD h1,aD h1,aD (by grind[aZ]),aD (by grind[aZ]),aD (by grind[aZ])];rfl
def bHx {l:List AV}{h:Int}(a:l.length<=34359738300):EV.bY (α:=Int) FUEL (λrec (i:Int)=>bd (bif decide (i<(l.length:Int)) then(bd (bB l i) λz=>some (decide (z.Handle<h))) else some false) λz=>bif z then rec (IntKind.i64.wrap (i+1)) else some i) 0=some ((Yh h l:Nat):Int):=by have:=aGu (l:=l) (λc=>decide (c.Handle<h)) (λi=>some (i:Int)) (λi=>(i:Int)) (F:=λrec (i:Int)=>bd (bif decide (i<(l.length:Int)) then(bd (bB l i) λz=>some (decide (z.Handle<h))) else some false) λz=>bif z then rec (IntKind.i64.wrap (i+1)) else some i) (by omega) (by grind[dS,aQ,bd_s,aM]) (by simp);exact this
def bS7 {a:AH}(b:a.sz<=34359738300)(h p:Int):(AH.mk a.Id a.Minimum (aCc a.Credentials h p)).sz<=34359738368:=by
 grind[AH.sz,bB2]
def Uy (a:AH)(h p:Int)(b:a.sz<=34359738300):wJ a h p=some (fT a h p):=by
 have h1:a.sz<=34359738368:=by omega
 have hc:a.Credentials.length<=34359738300:=b;unfold wJ fT;rw[aD h1,bd_s,bHx hc];simp only[aD h1,bd_s,bo];rw[bS6 hc (λL=>bd (bif !bA a then some true else(bd (gd ((AH.mk a.Id a.Minimum L).sz<=34359738368) (some (bA (AH.mk a.Id a.Minimum L)))) λc=>some (!c))) λd=>bif d then some (a,false) else some (AH.mk a.Id a.Minimum L,true))];simp only[bd_s,aD (bS7 b h p)];cases bA a<;>cases bA {a with Credentials:=aCc a.Credentials h p}<;>rfl
def Uz (a:AH)(h p:Int)(b:a.sz<=34359738300):wV a h p=some (fT a h p):=by
 have h1:a.sz<=34359738368:=by omega
 have hc:a.Credentials.length<=34359738300:=b;unfold wV fT;rw[aD h1,bd_s,bHx hc];simp only[aD h1,bd_s,bo];rw[bS6 hc (λL=>bd (gd ((AH.mk a.Id a.Minimum L).sz<=34359738368) (some (bA (AH.mk a.Id a.Minimum L)))) λc=>bif (!c) then some (a,false) else some (AH.mk a.Id a.Minimum L,true))];simp only[bd_s,aD (bS7 b h p)];cases bA a<;>cases bA {a with Credentials:=aCc a.Credentials h p}<;>rfl
def bFk {a:AH}{h p:Int}(hn:(fT a h p).2=false):(fT a h p).1=a:=by
 grind[bA,aCc,fT]
def U2 (s:AF)(i h p:Int)(a:s.sz<=34359738300):Ay s i h p=some (eQ s i h p):=by
 have h1:s.sz<=34359738368:=by omega
 have hl:s.Accounts.length<=34359738368:=by grind[AF.sz]
 unfold Ay eQ;simp only[aD h1,aD hl,bd_s];rw[Aa,bd_s];cases hc:(!dD s||decide (aJ s i<0)) with
 |true=>rfl
 |false=>
  rw[bl] at hc;obtain⟨b,c,d⟩:=bEr a hc.2;simp only[ae,b,bd_s,aD c];cases e:(fT (s.Accounts.getD (aJ s i).toNat default) h p).2 with
  |true=>rfl
  |false=>simp_all[bFk,bBq]
def U3 (s:AF)(i h p:Int)(a:s.sz<=34359738300):Ci s i h p=some (eQ s i h p):=by
 grind[dD,decide,aJ,Bool.or_eq_false_iff,bEr,bd_s,aD,fT,default,Aa,Ci,eQ,AF.sz]
def zK (i:Int):(aA i).size<=34359738300:=by unfold aA;cases i==0<;>cases i==1<;>decide
def aDz (d:AB)(h:Int)(rm:Bool)(c:d.sz<=34359738300):Et d h rm=some (jI d h rm):=by have h1:=Ih d (aA 0) h rm;unfold Et jI;rw[aD ⟨by omega,zK 0⟩,bd_s,show FUEL=FUEL-2+1+1 from by have:=gW;omega];have e:∀{β:Type} (k:Option β),gd ((bO d (aA 0) h rm).1.sz<=34359738360/\(aA 1).size<=34359738300) k=k:=λk=>aD ⟨by omega,zK 1⟩;show(bd (bd (gd ((bO d (aA 0) h rm).1.sz<=34359738360/\(aA 1).size<=34359738300) (some (bO (bO d (aA 0) h rm).1 (aA 1) h rm))) λa=>some (a.1.Store.Vendor,a.1.Store.Serial,a.1.Store.Seed,a.1.Store.Counter,a.1.Log,a.1.Key,a.1.Epoch,a.1.Version,a.1.aAD.Entries)) λb=>some (AB.mk (AJ.mk b.1 b.2.1 b.2.2.1 b.2.2.2.1) b.2.2.2.2.1 b.2.2.2.2.2.1 b.2.2.2.2.2.2.1 b.2.2.2.2.2.2.2.1 (AC.mk b.2.2.2.2.2.2.2.2)))=_;rw[e,bd_s,bd_s]
def aZp {w:AA}{d:Int}(a:aR w=true)(hd:aK w d=true):bB w.Stolen d=some (dE w d):=by
 grind[dE,List.getD,List.getElem?_eq_getElem,mO,aK,aR]
def aNp {p r:List AF}{s:AF}:bB (p++s::r) ((p.length:Nat):Int)=some s:=by simp[aQ]
theorem aD0 {p r:List AF}{s y:AF}:(p++s::r).set (Int.toNat ((p.length:Nat):Int)) y=p++y::r:=by simp
def bHy {c:List AB}{d:AB}{b n:Int}{rm:Bool}(hb:0<=b)(hi:b.toNat<c.length)(hd:c[b.toNat]=d)(k:d.sz<=34359738300):EV.bY (α:=List AB) FUEL (λrec (i:Nat×List AB)=>bif decide ((i.1:Int)<2) then(bd (bB i.2 b) λa=>bd (gd (a.sz<=34359738360/\(aA (i.1:Int)).size<=34359738300) (some (bO a (aA (i.1:Int)) n rm))) λe=>bd (bB i.2 b) λf=>rec (i.1+1,i.2.set b.toNat e.1)) else some i.2) (0,c)=some (c.set b.toNat (jI d n rm)):=by
 have h1:=Ih d (aA 0) n rm;have h:bB c b=some d:=by rw[mO hb (by omega),hd]
 have j:bB (c.set b.toNat (bO d (aA 0) n rm).1) b=some (bO d (aA 0) n rm).1:=by grind[mO]
 rw[show FUEL=FUEL-3+1+1+1 from by have:=gW;omega,jA];show(bd (bB c b) λa=>bd (gd (a.sz<=34359738360/\(aA 0).size<=34359738300) (some (bO a (aA 0) n rm))) λe=>bd (bB c b) λf=>EV.bY (FUEL-3+1+1) _ (1,c.set b.toNat e.1))=_;rw[h,bd_s,aD ⟨by omega,zK 0⟩,bd_s,bd_s,jA];show(bd (bB (c.set b.toNat (bO d (aA 0) n rm).1) b) λa=>bd (gd (a.sz<=34359738360/\(aA 1).size<=34359738300) (some (bO a (aA 1) n rm))) λe=>bd (bB (c.set b.toNat (bO d (aA 0) n rm).1) b) λf=>EV.bY (FUEL-3+1) _ (2,(c.set b.toNat (bO d (aA 0) n rm).1).set b.toNat e.1))=_;rw[j,bd_s,aD ⟨by omega,zK 1⟩,bd_s,bd_s,jA,eo];rfl
theorem bFl {w:AA}{b:Int}(a:w.sz<=100000000)(h1:aR w=true)(hs:((aF w b 0).2==0)=true):((aK (aF w b 0).1 b=true/\(aF w b 0).1.Sites.length=2)/\(aF w b 0).1.sz<=300000000)/\(aF w b 0).1.aAA.Log.length<=100000000:=by
 grind[aR,aF,aK,k4,k2,k3,AA.sz,AM.sz,k1,k5,nY]
def aXs {L:List AU}(a:30<L.length)(b:L.length<=34359738301):gd (jW L ((wG L:Nat):Int)) (gd (jW L (IntKind.i64.wrap (((wG L:Nat):Int)+1))) (gd (aZ [] (List.take (Int.toNat ((wG L:Nat):Int)) L)) (gd (aZ ([]++List.take (Int.toNat ((wG L:Nat):Int)) L) (List.drop (Int.toNat (IntKind.i64.wrap (((wG L:Nat):Int)+1))) L)) (some ([]++List.take (Int.toNat ((wG L:Nat):Int)) L++List.drop (Int.toNat (IntKind.i64.wrap (((wG L:Nat):Int)+1))) L)))))=some (Dx L):=by
 have hs:=bB5 (l:=L) (by omega);have e:IntKind.i64.wrap (((wG L:Nat):Int)+1)=((wG L+1:Nat):Int):=by grind[aM]
 rw[e,aD ⟨by omega,by omega⟩,aD ⟨by omega,by omega⟩,aD (by grind[aZ]),aD (by grind[aZ]),bo,bo]
 grind[decide_eq_true,Dx]
def bHz (l:List AU)(x:AU)(h:l.length<=34359738300):(AP.mk (Dx (l++[x]))).sz<=34359738368:=by
 grind[AP.sz,List.length_append,List.length_singleton,aWw]
theorem bC5 {L:List AU}(h:¬30<L.length):Dx L=L:=by
 grind[decide_eq_false,Dx]
def aD1 (m:AP)(k a t:Int)(c:m.sz<=34359738300):Fs m k a t=some (nK m k a t):=by
 have h1:m.sz<=34359738368:=by omega
 have hm:m.Notices.length<=34359738300:=c;have d:(m.Notices++[(⟨k,a,t,false⟩:AU)]).length=m.Notices.length+1:=by simp
 have hn:=bHz m.Notices ⟨k,a,t,false⟩ hm;unfold Fs nK;simp only[aD h1,bd_s,fM (show m.Notices.length<=34359738368 by omega)];generalize hg:m.Notices++[(⟨k,a,t,false⟩:AU)]=L at*;by_cases b:30<L.length
 ·rw[au (show(L.length:Int)>30 by omega),bQ2 (l:=L) (λi=>some i) (λi=>((0:Int),i)) (by omega) (by grind[dS,aQ,bd_s]) (by simp),ac,bd_s,aXs b (by omega),bd_s,aD hn,bd_s];cases dR m<;>cases dR ⟨Dx L⟩<;>rfl
 grind[decide_eq_false,bd_s,bC5,aD,dR]
def aD2 (m:AP)(k a t:Int)(d:m.sz<=34359738300):Ep m k a t=some (nK m k a t):=by
 have h1:m.sz<=34359738368:=by omega
 have hm:m.Notices.length<=34359738300:=d;have j:(m.Notices++[(⟨k,a,t,false⟩:AU)]).length=m.Notices.length+1:=by simp
 have hn:=bHz m.Notices ⟨k,a,t,false⟩ hm;unfold Ep nK;rw[aD (by unfold aZ;simp;omega),bu,fM (show m.Notices.length<=34359738368 by omega)];simp only[aD h1,bd_s];generalize hg:m.Notices++[(⟨k,a,t,false⟩:AU)]=L at*;by_cases c:30<L.length
 ·have e:=aW1 (l:=L) (F:=λrec (b:Int×Int)=>bif (decide (b.2>=(0:Int))) then(bd (bd (bB L (b.2)) λf=>bif (f.Seen) then(some (b.2)) else(some (b.1))) λh=>rec ((h,IntKind.i64.wrap (b.2-(1:Int))))) else(some (b.1))) (λrec q i hi=>by
   simp only[au (show((i:Int)>=0) by omega),ac,aQ hi,bd_s,Lx,aM (show(-9223372036854775808:Int)<=(i:Int)-1 by omega) (show(i:Int)-1<=9223372036854775807 by omega)]) (λrec q=>rfl) L.length FUEL 0 (ak _) (by have:=gW;omega)
  rw[e8] at e;rw[au (show(L.length:Int)>30 by omega),ac,aM (by omega) (by omega),e,<-bB4,bd_s,aXs c (by omega),bd_s,aD hn,bd_s];cases dR m<;>cases dR ⟨Dx L⟩<;>rfl
 ·rw[av (show ¬(L.length:Int)>30 by omega),ae,bd_s];rw[bC5 c] at hn ⊢;rw[aD hn,bd_s];cases dR m<;>cases dR ⟨L⟩<;>rfl
def bC6 {τ:Type}{x:τ}{st:AJ}{n:Int}{N:Nat}{F:(Nat×List AF->Option (τ⊕List AF))->Nat×List AF->Option (τ⊕List AF)}
  (a:∀rec (p:List AF) (s:AF) (r:List AF),p.length+r.length+1=N->s.sz<=34359738300->F rec (p.length,p++s::r)=bif !(eQ s 1 n (eG st (aA (p.length:Int)) n)).2 then some (.inl x) else rec (p.length+1,p++(eQ s 1 n (eG st (aA (p.length:Int)) n)).1::r)) (b:∀rec S,F rec (N,S)=some (.inr S)):
  ∀(r p:List AF) (m:Nat),p.length+r.length=N->r.length<m->(∀s∈r,s.sz<=34359738300)->EV.bY m F (p.length,p++r)=some (bif (fZ st n p.length r).2 then .inr (p++(fZ st n p.length r).1) else .inl x)
 |[],p,m+1,h,_,_=>by
  simp only[bm,dz] at h;rw[jA,h,b];simp[fZ]
 |s::r,p,m+1,h,hm,hs=>by
  simp only[aw] at h hm;rw[jA,a _ p s r (by omega) (hs s (by simp)),fZ];cases hr:(eQ s 1 n (eG st (aA (p.length:Int)) n)).2 with
  |false=>rfl
  |true=>have:=bC6 a b r (p++[(eQ s 1 n (eG st (aA (p.length:Int)) n)).1]) m (by simp;omega) (by omega) (λy c=>hs y (by simp[c]));simp only[ay,cx,ck,cM,bu] at this;rw[ax,ae,this];cases(fZ st n (p.length+1) r).2<;>rfl
def aXt {τ:Type}{x:τ}{st:AJ}{n:Int}{N:Nat}{l:List AF}(d:l.length=N)(a:N<=100)(hs:∀s∈l,s.sz<=34359738300){F:(Nat×List AF->Option (τ⊕List AF))->Nat×List AF->Option (τ⊕List AF)}
  (b:∀rec (p:List AF) (s:AF) (r:List AF),p.length+r.length+1=N->s.sz<=34359738300->F rec (p.length,p++s::r)=bif !(eQ s 1 n (eG st (aA (p.length:Int)) n)).2 then some (.inl x) else rec (p.length+1,p++(eQ s 1 n (eG st (aA (p.length:Int)) n)).1::r)) (c:∀rec S,F rec (N,S)=some (.inr S)):EV.bY FUEL F (0,l)=some (bif (fZ st n 0 l).2 then .inr (fZ st n 0 l).1 else .inl x):=by
 have:=bC6 b c l [] FUEL (by simp;omega) (by have:=gW;omega) hs;assumption
def Gb (w:AA)(b:Int):AA×Bool:=bif (add1 w b).2&&((M9 w b).2&&((nL w b).2&&(wY w b).2==0)) then(nZ (wY w b).1 2,true) else(w,false)
def aXu {w:AA}{b:Int}(h1:aR w=true)(h2:aK w b=true)(a:dE w b=false)(c:decide ((w.Devices.length:Int)>=6)=false)(d:((aF w b 0).2==0)=true):cK w b=Gb w b:=by
 grind[cK,xL,Gb]
theorem vL {w:AA}{b:Int}(h:(add1 w b).2=false):Gb w b=(w,false):=by grind[Gb]
theorem rX {w:AA}{b:Int}(h:(M9 w b).2=false\/(nL w b).2=false\/((wY w b).2==0)=false):Gb w b=(w,false):=by unfold Gb;rcases h with h|h|h<;>rw[h]<;>simp
def aKw {w:AA}{b:Int}(h1:(add1 w b).2=true)(h2:(M9 w b).2=true)(a:(nL w b).2=true)(c:((wY w b).2==0)=true):Gb w b=(nZ (wY w b).1 2,true):=by
 grind[Gb]
def bH0 {w:AA}{b:Int}(c:w.sz<=100000000)(h0:((aF w b 0).2==0)=true)(a:(nL w b).2=true):(appW (nL w b).1 (bH (aO w.Seed (w.Devices.length:Int)))).sz<=34359738100/\((wY w b).2==0->(wY w b).1.Mail.sz<=34359738300):=by
 obtain⟨d,e⟩:=bG8 h0 a;have f:(bH (aO w.Seed (w.Devices.length:Int))).sz=0:=rfl
 grind[wY,AP.sz,AA.sz,aF,appW,nL,bH,aO,aNe,nY]
theorem rY {w:AA}{b:Int}(h:(aR w&&(aK w b&&(!dE w b&& !decide ((w.Devices.length:Int)>=6))))=false\/((aF w b 0).2==0)=false):cK w b=(w,false):=by
 grind[cK,xL]
def Zh (w:AA)(b:Int)(m:w.sz<=100000000):yE w b=some (cK w b):=by
 have h:w.sz<=34359738368:=by omega
 unfold yE;rw[aD h,bd_s];cases h1:aR w with
 |false=>grind[Bool.not_false,bd_s,aD,rY]
 |true=>
 cases h2:aK w b with
 |false=>grind[Bool.not_false,Bool.not_true,bd_s,aD,rY]
 |true=>
 rw[aZp h1 h2];cases F:dE w b with
 |true=>grind[Bool.not_true,bd_s,aD,rY]
 |false=>
 cases G:decide ((w.Devices.length:Int)>=6) with
 |true=>grind[Bool.not_true,bd_s,aD,rY]
 |false=>
 simp only[ax,ae,bd_s,aD (show w.sz<=34359738100 by omega),bne];cases hs:((aF w b 0).2==0) with
 |false=>grind[Bool.not_false,bd_s,aD,rY]
 |true=>
 rw[aXu h1 h2 F G hs];obtain⟨⟨⟨o,L⟩,M⟩,O⟩:=bFl m h1 hs;have q:AJ.mk (1:Int) (w.Devices.length:Int) (aV w.Seed [277,(w.Devices.length:Int)]) 0=aO w.Seed (w.Devices.length:Int):=rfl;simp only[q,lV o,bd_s,aD (show(aF w b 0).1.aAA.Log.length<=34359738300 by omega),aD h,ax,ae];have t:=mW (aF w b 0).1.aAA.Log 1 (aS (aO w.Seed (w.Devices.length:Int))) (aG (aF w b 0).1 b).Store;obtain⟨l,hl⟩:∃l,l=bP (aF w b 0).1.aAA.Log 1 (aS (aO w.Seed (w.Devices.length:Int))) (aG (aF w b 0).1 b).Store:=⟨_,rfl⟩;obtain⟨e,he⟩:∃e,e=bC l.1 (aG (aF w b 0).1 b).Key (IntKind.i64.wrap (1000+IntKind.i64.wrap (10*(l.1.length:Int)))):=⟨_,rfl⟩;obtain⟨c,j⟩:∃c,c=gG (aF w b 0).1.aAA l.1 e.1:=⟨_,rfl⟩;have R:add1 w b=bif l.2&&(e.2&&c.2) then({(aF w b 0).1 with aAA:=c.1},true) else((aF w b 0).1,false):=by rw[j,he,hl];rfl
 rw[<-hl] at t ⊢;have u:=vH l.1 (aG (aF w b 0).1 b).Key (IntKind.i64.wrap (1000+IntKind.i64.wrap (10*(l.1.length:Int))));rw[<-he] at u;have H:=Cm (aF w b 0).1;cases T:l.2 with
 |false=>grind[vL]
 |true=>
 rw[ax,ae,aD (by omega),bd_s,<-he];cases W:e.2 with
 |false=>grind[vL]
 |true=>
 rw[ax,ae,aD (by omega),bd_s,<-j];cases X:c.2 with
 |false=>grind[vL]
 |true=>
 have f:add1 w b=({(aF w b 0).1 with aAA:=c.1},true):=by simp_all
 have v:M9 w b=fZ (aO w.Seed (w.Devices.length:Int)) (w.Devices.length:Int) 0 (aF w b 0).1.Sites:=by unfold M9;rw[f]
 have y:∀s∈(aF w b 0).1.Sites,s.sz<=34359738300:=(by grind[aGs,AF.sz,AA.sz]);rw[ax,ae,aXt (x:=((w,false):AA×Bool)) (st:=aO w.Seed (w.Devices.length:Int)) (n:=(w.Devices.length:Int)) (l:=(aF w b 0).1.Sites) (N:=(aF w b 0).1.Sites.length) rfl (by omega) y (λrec p s r hp m=>by
  simp only[dS (show p.length<(aF w b 0).1.Sites.length by omega),ac,aNp,bd_s,aD (zK (p.length:Int)),aD m,aD0]) (by simp)]
 cases B:(fZ (aO w.Seed (w.Devices.length:Int)) (w.Devices.length:Int) 0 (aF w b 0).1.Sites).2 with
 |false=>rw[rX (.inl (by rw[v,B]))];rfl
 |true=>
 obtain⟨k1,k2,k3,k4⟩:=Uw o;have hg:=o;simp only[aK,aa,cq] at hg;have I:AA.mk (aF w b 0).1.Now (aF w b 0).1.Seed ((aF w b 0).1.Devices.set b.toNat (jI (aG (aF w b 0).1 b) (w.Devices.length:Int) false)) (aF w b 0).1.Stolen c.1 (fZ (aO w.Seed (w.Devices.length:Int)) (w.Devices.length:Int) 0 (aF w b 0).1.Sites).1 (aF w b 0).1.aAP (aF w b 0).1.Hosts (aF w b 0).1.Pin (aF w b 0).1.Mail=aAT w b:=by unfold aAT;rw[v,f];rfl
 obtain⟨⟨Z,z2⟩,z3,z4⟩:=aPg hs;rw[ac,nx_r,bHy (d:=aG (aF w b 0).1 b) hg.1 k2 (by simp[*]) (by omega),bd_s,I,aD (by omega),bd_s,show dI (aAT w b) b=nL w b from rfl];cases z:(nL w b).2 with
 |false=>grind[rX]
 |true=>
 obtain⟨y1,y2⟩:=bG8 hs z;obtain⟨J,K⟩:=bH0 m hs z;have y0:(nL w b).1.sz<=34359738368:=by omega
 have D:(nL w b).1.Devices.length<=34359738368/\(nL w b).1.Stolen.length<=34359738368:=by grind[AA.sz]
 rw[ax,ae,fM D.1,fM D.2];show(bd (gd ((appW (nL w b).1 (bH (aO w.Seed (w.Devices.length:Int)))).sz<=34359738100) (some (wY w b))) λa=>bif !(a.2==0) then some (w,false) else bd (gd (a.1.Mail.sz<=34359738300) (some (nK a.1.Mail 2 1 a.1.Now))) λA=>some (AA.mk a.1.Now a.1.Seed a.1.Devices a.1.Stolen a.1.aAA a.1.Sites a.1.aAP a.1.Hosts a.1.Pin A.1,true))=_;rw[aD J,bd_s];cases k:((wY w b).2==0) with
 |false=>grind[rX]
 |true=>rw[aKw (by rw[f]) (by rw[v,B]) z k,ax,ae,aD (K k),bd_s];rfl
def bR7 {w:AA}{d:Int}(h:(dI w d).2=false):(dI w d).1=w:=by
 grind[aF,Dj,dI]
def Zi (w:AA)(b:Int)(m:w.sz<=100000000):xV w b=some (cK w b):=by
 have u:w.sz<=34359738368:=by omega
 unfold xV;simp only[bd_s,aD (show w.sz<=34359738100 by omega),aD u,bne];cases hs:((aF w b 0).2==0) with
 |false=>rw[rY (.inr hs)];rfl
 |true=>
 obtain⟨⟨h1,h2⟩,_⟩:=nY hs;rw[aZp h1 h2];cases v:dE w b with
 |true=>rw[rY (.inl (by rw[h1,h2,v];rfl))];rfl
 |false=>
 cases y:decide ((w.Devices.length:Int)>=6) with
 |true=>rw[rY (.inl (by rw[h1,h2,v,y];rfl))];rfl
 |false=>
 simp only[ax,ae,bd_s];rw[aXu h1 h2 v y hs];have R:w.Devices.length<6:=by have:=of_decide_eq_false y;omega
 obtain⟨⟨⟨z,T⟩,K⟩,g4⟩:=bFl m h1 hs;have A:AJ.mk (1:Int) (w.Devices.length:Int) (aV w.Seed [277,(w.Devices.length:Int)]) 0=aO w.Seed (w.Devices.length:Int):=rfl;simp only[A,lV z,bd_s,aD (show(aF w b 0).1.aAA.Log.length<=34359738300 by omega)];have B:=mW (aF w b 0).1.aAA.Log 1 (aS (aO w.Seed (w.Devices.length:Int))) (aG (aF w b 0).1 b).Store;obtain⟨l,hl⟩:∃l,l=bP (aF w b 0).1.aAA.Log 1 (aS (aO w.Seed (w.Devices.length:Int))) (aG (aF w b 0).1 b).Store:=⟨_,rfl⟩;obtain⟨e,he⟩:∃e,e=bC l.1 (aG (aF w b 0).1 b).Key (IntKind.i64.wrap (1000+IntKind.i64.wrap (10*(l.1.length:Int)))):=⟨_,rfl⟩;obtain⟨c,k⟩:∃c,c=gG (aF w b 0).1.aAA l.1 e.1:=⟨_,rfl⟩;have o:add1 w b=bif l.2&&(e.2&&c.2) then({(aF w b 0).1 with aAA:=c.1},true) else((aF w b 0).1,false):=by rw[k,he,hl];rfl
 rw[<-hl] at B ⊢;have D:=vH l.1 (aG (aF w b 0).1 b).Key (IntKind.i64.wrap (1000+IntKind.i64.wrap (10*(l.1.length:Int))));rw[aD (show l.1.length<=34359738300 by omega),bd_s];rw[<-he] at D ⊢;have W:=Cm (aF w b 0).1;rw[aD (show(aF w b 0).1.aAA.sz<=34359738368/\l.1.length<=34359738368/\e.1.sz<=34359738368 from⟨by omega,by omega,by omega⟩),bd_s,<-k];cases q:l.2 with
 |false=>rw[vL (by rw[o,q];rfl)];rfl
 |true=>
 cases F:e.2 with
 |false=>rw[vL (by rw[o,q,F];rfl)];rfl
 |true=>
 cases L:c.2 with
 |false=>rw[vL (by rw[o,q,F,L];rfl)];rfl
 |true=>
 have f:add1 w b=({(aF w b 0).1 with aAA:=c.1},true):=by rw[o,q,F,L];rfl
 have G:M9 w b=fZ (aO w.Seed (w.Devices.length:Int)) (w.Devices.length:Int) 0 (aF w b 0).1.Sites:=by unfold M9;rw[f]
 have H:∀s∈(aF w b 0).1.Sites,s.sz<=34359738300:=λs hs=>by
  have h1:=aGs (g:=AF.sz) hs;simp only[AA.sz] at K;omega
 simp only[ax,ae,bd_s];rw[aXt (x:=((w,false):AA×Bool)) (st:=aO w.Seed (w.Devices.length:Int)) (n:=(w.Devices.length:Int)) (l:=(aF w b 0).1.Sites) (N:=2) T (by omega) H (λrec p s r hp m=>by
  simp only[au (show((p.length:Nat):Int)<2 by omega),ac,aNp,bd_s,aD (zK (p.length:Int)),aD m,aD0]) (λrec S=>rfl)]
 cases M:(fZ (aO w.Seed (w.Devices.length:Int)) (w.Devices.length:Int) 0 (aF w b 0).1.Sites).2 with
 |false=>rw[rX (.inl (by rw[G,M]))];rfl
 |true=>
 obtain⟨k1,k2,k3,k4⟩:=Uw z;have hg:=z;simp only[aK,aa,cq] at hg;have X:AA.mk (aF w b 0).1.Now (aF w b 0).1.Seed ((aF w b 0).1.Devices.set b.toNat (jI (aG (aF w b 0).1 b) (w.Devices.length:Int) false)) (aF w b 0).1.Stolen c.1 (fZ (aO w.Seed (w.Devices.length:Int)) (w.Devices.length:Int) 0 (aF w b 0).1.Sites).1 (aF w b 0).1.aAP (aF w b 0).1.Hosts (aF w b 0).1.Pin (aF w b 0).1.Mail=aAT w b:=by unfold aAT;rw[G,f];rfl
 obtain⟨⟨Z,z2⟩,z3,z4⟩:=aPg hs;have y0:(aF w b 0).1.sz<=34359738368:=by omega
 have O:(aF w b 0).1.Devices.length<=34359738368/\(aF w b 0).1.Stolen.length<=34359738368:=by clear K;simp only[AA.sz] at y0;omega
 simp only[ac,nx_r,aD (show(aG (aF w b 0).1 b).sz<=34359738300 by omega),bd_s,fM (show((aF w b 0).1.Devices.set b.toNat (jI (aG (aF w b 0).1 b) (w.Devices.length:Int) false)).length<=34359738368 by rw[ao];exact O.1),fM O.2];show(bd (gd ((appW (AA.mk (aF w b 0).1.Now (aF w b 0).1.Seed ((aF w b 0).1.Devices.set b.toNat (jI (aG (aF w b 0).1 b) (w.Devices.length:Int) false)) (aF w b 0).1.Stolen c.1 (fZ (aO w.Seed (w.Devices.length:Int)) (w.Devices.length:Int) 0 (aF w b 0).1.Sites).1 (aF w b 0).1.aAP (aF w b 0).1.Hosts (aF w b 0).1.Pin (aF w b 0).1.Mail) (bH (aO w.Seed (w.Devices.length:Int)))).sz<=10000000000) (some (dI (appW (AA.mk (aF w b 0).1.Now (aF w b 0).1.Seed ((aF w b 0).1.Devices.set b.toNat (jI (aG (aF w b 0).1 b) (w.Devices.length:Int) false)) (aF w b 0).1.Stolen c.1 (fZ (aO w.Seed (w.Devices.length:Int)) (w.Devices.length:Int) 0 (aF w b 0).1.Sites).1 (aF w b 0).1.aAP (aF w b 0).1.Hosts (aF w b 0).1.Pin (aF w b 0).1.Mail) (bH (aO w.Seed (w.Devices.length:Int)))) b))) λh=>bd (gd (h.1.sz<=34359738100) (some (aF h.1 (w.Devices.length:Int) 0))) λa=>bd (bif !h.2 then some true else some !(a.2==0)) λI=>bif I then some (w,false) else bd (gd (a.1.Mail.sz<=34359738300) (some (nK a.1.Mail 2 1 a.1.Now))) λJ=>some (AA.mk a.1.Now a.1.Seed a.1.Devices a.1.Stolen a.1.aAA a.1.Sites a.1.aAP a.1.Hosts a.1.Pin J.1,true))=_;have nz:(bH (aO w.Seed (w.Devices.length:Int))).sz=0:=rfl;rw[X,aD (show(appW (aAT w b) (bH (aO w.Seed (w.Devices.length:Int)))).sz<=10000000000 by rw[aNe];omega),bd_s,bNe _ Z (by omega),show dI (aAT w b) b=nL w b from rfl];cases t:(nL w b).2 with
 |false=>have hp:(nL w b).1=aAT w b:=bR7 (w:=aAT w b) (d:=b) t;rw[rX (.inr (.inl t)),aD (show(appW (nL w b).1 (bH (aO w.Seed (w.Devices.length:Int)))).sz<=34359738100 by rw[hp,aNe];omega)];rfl
 |true=>
 obtain⟨v1,v2⟩:=bH0 m hs t;rw[aD v1,bd_s,show aF (appW (nL w b).1 (bH (aO w.Seed (w.Devices.length:Int)))) (w.Devices.length:Int) 0=wY w b from rfl];cases j:((wY w b).2==0) with
 |false=>rw[rX (.inr (.inr j))];rfl
 |true=>rw[aKw (by rw[f]) (by rw[G,M]) t j,ax,ae,bd_s,ae,aD (v2 j),bd_s];rfl
def aLw (s e:Int):aLe s e=some (bF s e):=by rfl
def aLx (s e:Int):aLf s e=some (bF s e):=by rfl
def aD3 (d:AB)(l:List AD)(k:Int)(h:d.sz<=34359738368/\l.length<=34359738368):Eg d l k=some (jN d l k):=by unfold Eg jN;simp only[aD h.1,aD h.2,bd_s];cases aU l<;>cases bS l d.Log<;>cases decide (aB l<d.Epoch)<;>cases bL k<;>rfl
def aD4 (d:AB)(l:List AD)(k:Int)(h:d.sz<=34359738368/\l.length<=34359738368):Fp d l k=some (jN d l k):=by unfold Fp jN;simp only[aD h.1,aD h.2,bd_s];cases aU l<;>cases bS l d.Log<;>cases decide (aB l<d.Epoch)<;>cases bL k<;>rfl
def Pt (s:AH)(i:Int)(h:s.Credentials.length<=34359738368):uI s i=some (aW s i):=by unfold uI;exact zW (l:=s.Credentials) (λa=>a.Handle==i) (by omega) (λrec j hj=>by simp only[dS hj,ac,aQ hj,bd_s]) (λrec=>by simp only[M3,ae])
def Pv (s:AH)(i:Int)(h:s.Credentials.length<=34359738368):uO s i=some (aW s i):=by unfold uO;exact zW (l:=s.Credentials) (λa=>a.Handle==i) (by omega) (by grind[dS,aQ,bd_s]) (by simp)
theorem bH1 {a:AH}{h:Int}(hk:decide (aW a h<0)=false):bB a.Credentials (aW a h)=some (fO a (aW a h)):=by have hr:=oO (p:=λc:AV=>c.Handle==h) (i:=0) (l:=a.Credentials) hk;exact wF (by unfold aW;omega) (by unfold aW;omega)
def Va (a:AH)(h:Int)(b:a.sz<=34359738368):wP a h=some (jS a h):=by
 have hl:a.Credentials.length<=34359738368:=b;unfold wP jS;simp only[aD b,aD hl,bd_s];cases bA a with
 |false=>rfl
 |true=>
  cases hk:decide (aW a h<0) with
  |true=>rfl
  |false=>simp only[ax,ae,bH1 hk,bd_s];cases(fO a (aW a h)).Cut<;>rfl
def Vb (a:AH)(h:Int)(b:a.sz<=34359738368):wR a h=some (jS a h):=by
 have hl:a.Credentials.length<=34359738368:=b
 grind[bA,decide,aW,Bool.not_true,bH1,bd_s,fO,aD,wR,jS]
theorem bH2 {s:AF}(a:s.sz<=34359738300)(h:decide (aJ s 1>=0)=true):bB s.Accounts (aJ s 1)=some (fF s (aJ s 1))/\(fF s (aJ s 1)).sz<=34359738368:=by
 grind[fF,bEr,decide,aJ,decide_eq_false]
def bC7 {h:Int}{N:Nat}{F:(Nat×List AF->Option (List AF))->Nat×List AF->Option (List AF)}
  (a:∀rec (p:List AF) (s:AF) (r:List AF),p.length+r.length+1=N->s.sz<=34359738300->F rec (p.length,p++s::r)=rec (p.length+1,p++gL h s::r)) (b:∀rec S,F rec (N,S)=some S):
  ∀(r p:List AF) (m:Nat),p.length+r.length=N->r.length<m->(∀s∈r,s.sz<=34359738300)->EV.bY m F (p.length,p++r)=some (p++r.map (gL h))
 |[],p,m+1,hl,_,_=>by
  simp only[bm,dz] at hl;rw[jA,hl,b];simp
 |s::r,p,m+1,hl,hm,hs=>by
  simp only[aw] at hl hm;have:=bC7 a b r (p++[gL h s]) m (by simp;omega) (by omega) (λy c=>hs y (by simp[c]));simp only[ay,cx,ck,cM,bu] at this;rw[jA,a _ p s r (by omega) (hs s (by simp)),this];simp
def aXv {h:Int}{N:Nat}{l:List AF}(d:l.length=N)(a:N<=100)(hs:∀s∈l,s.sz<=34359738300){F:(Nat×List AF->Option (List AF))->Nat×List AF->Option (List AF)}
  (b:∀rec (p:List AF) (s:AF) (r:List AF),p.length+r.length+1=N->s.sz<=34359738300->F rec (p.length,p++s::r)=rec (p.length+1,p++gL h s::r)) (c:∀rec S,F rec (N,S)=some S):EV.bY FUEL F (0,l)=some (l.map (gL h)):=by
 have:=bC7 b c l [] FUEL (by simp;omega) (by have:=gW;omega) hs;assumption
theorem pU {w:AA}{b t:Int}(h:((aF w b 0).2==0&&(!dE w b&&(!(b==t)&&bK w t)))=false):bE w b t=(w,false):=by grind[bE]
def aRp {w:AA}{b t:Int}(h:((aF w b 0).2==0&&(!dE w b&&(!(b==t)&&bK w t)))=true):bE w b t=kR w b t:=by grind[bE]
theorem oV {w:AA}{b t:Int}(h:(jO w b t).2=false\/(vI w b t).2=false\/(sN w b t).2=false):kR w b t=(w,false):=by unfold kR;rcases h with h|h|h<;>rw[h]<;>simp
def bO2 {w:AA}{b:Int}(a:w.sz<=100000000)(h1:aR w=true)(hs:((aF w b 0).2==0)=true):(aK (aF w b 0).1 b=true/\(aF w b 0).1.Sites.length=2)/\(aF w b 0).1.sz<=300000000/\(aF w b 0).1.aAA.Log.length<=100000000/\∀s∈(aF w b 0).1.Sites,s.sz<=34359738300:=by
 grind[aGs,AF.sz,AA.sz,bFl]
def bH3 {w:AA}{b t:Int}(n:w.sz<=100000000)(hs:((aF w b 0).2==0)=true){o:AA}(ho:o=(aF w b 0).1){c:AM}(h1:jO w b t=({o with aAA:=c},true)){x:AB}(h2:vI w b t=(x,true)):
  (x.sz<=34359738300/\(jI x t true).sz<=34359738368/\c.sz<=34359738300/\(bZ (jI x t true)).2.1.sz<=34359738300/\o.Mail.sz<=34359738300)/\
  kR w b t=bif (bZ (jI x t true)).2.2&&(bM c (bZ (jI x t true)).2.1).2 then(AA.mk o.Now o.Seed (o.Devices.set b.toNat (bZ (jI x t true)).1) o.Stolen (bM c (bZ (jI x t true)).2.1).1 (o.Sites.map (gL t)) o.aAP o.Hosts o.Pin (nK o.Mail 4 1 o.Now).1,true) else(w,false):=by
 obtain⟨⟨a,p,q,r⟩,s,⟨b1,u⟩,v,y⟩:=aW2 (t:=t) hs;have hd:=a;simp only[aK,aa,cq] at hd;have hi:b.toNat<(jJ w b).Devices.length:=by omega
 have d:o=jJ w b:=ho;have z:(jN (aG (jJ w b) b) (Mc w b t) (jL (aG (jJ w b) b).Store (Mc w b t))).1=x:=by have:=congrArg Prod.fst h2;exact this
 have e:(aG (jJ w b) b).sz<=(jJ w b).sz:=(Uw a).2.2.1;have f:x.sz<=3*w.sz+21:=by
  grind[aCf,aG,jJ,Mc,jL]
 have h:=aCe x t true;have j:=zH (jI x t true);have A:Gz w b t=AA.mk o.Now o.Seed (o.Devices.set b.toNat (jI x t true)) o.Stolen c (o.Sites.map (gL t)) o.aAP o.Hosts o.Pin o.Mail:=by unfold Gz;rw[h1,h2]
 have k:aG (Gz w b t) b=jI x t true:=by
  grind[aG,List.getD,List.getElem?_set_self]
 have l:c.sz<=({o with aAA:=c}:AA).sz:=by grind[AA.sz,AM.sz]
 have m:c.sz<=16*w.sz+34:=by grind
 grind[bZ,jI,bM,nZ,List.set_set,Dj,sN,Gz,kR,AI.sz,jJ,AP.sz,AA.sz]
def aXw {h:Int}{p r:List AF}{s:AF}(a:s.sz<=34359738300):s.Accounts.length<=34359738368:=by grind[AF.sz]
def aId (w:AA)(b t:Int)(z:w.sz<=100000000):Jh w b t=some (bE w b t):=by
 have a:w.sz<=34359738368:=by omega
 unfold Jh;simp only[bd_s,aD (show w.sz<=34359738100 by omega),aD a,bne];cases hs:((aF w b 0).2==0) with
 |false=>rw[pU (by rw[hs];rfl)];rfl
 |true=>
 obtain⟨⟨h1,h2⟩,_⟩:=nY hs;rw[aZp h1 h2];simp only[ax,ae,bd_s];cases j:dE w b with
 |true=>rw[pU (by rw[hs,j];rfl)];rfl
 |false=>
 cases n:(b==t) with
 |true=>rw[pU (by rw[hs,j,n];rfl)];rfl
 |false=>
 rw[aD (WOk.of' a)];cases d:bK w t with
 |false=>rw[pU (by rw[hs,j,n,d];rfl)];rfl
 |true=>
 rw[aRp (by rw[hs,j,n,d];rfl)];have ht:aK w t=true:=by unfold bK at d;rw[aa] at d;exact d.1
 obtain⟨⟨A,H⟩,W,X,I⟩:=bO2 z h1 hs;simp only[ax,ae,bd_s,lV ht,lV A,aD (show(aF w b 0).1.aAA.Log.length<=34359738300 by omega)];have o:=mW (aF w b 0).1.aAA.Log 2 (aS (aG w t).Store) (aG (aF w b 0).1 b).Store;obtain⟨l,hl⟩:∃l,l=bP (aF w b 0).1.aAA.Log 2 (aS (aG w t).Store) (aG (aF w b 0).1 b).Store:=⟨_,rfl⟩;obtain⟨e,he⟩:∃e,e=bC l.1 (jL (aG (aF w b 0).1 b).Store l.1) (IntKind.i64.wrap (1000+IntKind.i64.wrap (10*(l.1.length:Int)))):=⟨_,rfl⟩;obtain⟨c,f⟩:∃c,c=gG (aF w b 0).1.aAA l.1 e.1:=⟨_,rfl⟩;have k:jO w b t=bif l.2&&(e.2&&c.2) then({(aF w b 0).1 with aAA:=c.1},true) else((aF w b 0).1,false):=by rw[f,he,hl];rfl
 have AL:Mc w b t=l.1:=by rw[hl];rfl
 rw[<-hl] at o ⊢;have q:=vH l.1 (jL (aG (aF w b 0).1 b).Store l.1) (IntKind.i64.wrap (1000+IntKind.i64.wrap (10*(l.1.length:Int))));have J:=Cm (aF w b 0).1;rw[aD (show([311]:List Int).length<=34359738300 by simp),bd_s,aD (show l.1.length<=34359738368 by omega),bd_s,bd_s,aD (show l.1.length<=34359738300 by omega),bd_s];rw[show bF (aV (aG (aF w b 0).1 b).Store.Seed [311]) (aB l.1)=jL (aG (aF w b 0).1 b).Store l.1 from rfl];rw[<-he] at q ⊢;rw[aD (show(aF w b 0).1.aAA.sz<=34359738368/\l.1.length<=34359738368/\e.1.sz<=34359738368 from⟨by omega,by omega,by omega⟩),bd_s,<-f];cases m:l.2 with
 |false=>rw[oV (.inl (by rw[k,m];rfl))];rfl
 |true=>
 cases u:e.2 with
 |false=>rw[oV (.inl (by rw[k,m,u];rfl))];rfl
 |true=>
 cases B:c.2 with
 |false=>rw[oV (.inl (by rw[k,m,u,B];rfl))];rfl
 |true=>
 have v:jO w b t=({(aF w b 0).1 with aAA:=c.1},true):=by rw[k,m,u,B];rfl
 obtain⟨k1,k2,k3,k4⟩:=Uw A;obtain⟨x,D⟩:∃x,x=jN (aG (aF w b 0).1 b) l.1 (jL (aG (aF w b 0).1 b).Store l.1):=⟨_,rfl⟩;have F:vI w b t=x:=by rw[D,<-AL];rfl
 simp only[ax,ae,bd_s,aD (show(aG (aF w b 0).1 b).sz<=34359738368/\l.1.length<=34359738368 from⟨by omega,by omega⟩)];rw[<-D];cases G:x.2 with
 |false=>rw[oV (.inr (.inl (by rw[F,G])))];rfl
 |true=>
 obtain⟨⟨K,z2,L,M,O⟩,AE⟩:=bH3 z hs rfl v (x:=x.1) (by rw[F,<-G]);have q1:∀y:AB,bB ((aF w b 0).1.Devices.set b.toNat y) b=some y:=λy=>by rw[mO k1 (by rw[ao];exact k2)];simp
 rw[ax,ae,aXv (h:=t) (l:=(aF w b 0).1.Sites) (N:=2) H (by omega) I (λrec p s r hp hzs=>by
  simp only[au (show((p.length:Nat):Int)<2 by omega),ac,aNp,bd_s,aD (aXw (h:=t) (p:=p) (r:=r) hzs)];cases hc:decide (aJ s 1>=0) with
  |false=>simp only[ae,bd_s,gL,hc]
  |true=>
   obtain⟨R,T⟩:=bH2 hzs hc;simp only[ac,R,bd_s,aD T,aD0,gL,hc]) (λrec S=>rfl)]
 simp only[bd_s,q1,aD K,aD z2,aD O,eo,aD (show c.1.sz<=34359738300/\(bZ (jI x.1 t true)).2.1.sz<=34359738300 from⟨L,M⟩)];rw[AE];cases(bZ (jI x.1 t true)).2.2<;>cases(bM c.1 (bZ (jI x.1 t true)).2.1).2<;>rfl
def bO3 {w:AA}{b t:Int}(h2:aK w b=true)(ht:aK w t=true)(a:(b==t)=false):aK (aF w b 0).1 t=true/\aG (aF w b 0).1 t=aG w t:=by
 grind[aR,aK,List.length_set,aG,List.getD,List.getElem?_set_ne,aF]
def aRq {w:AA}{b t:Int}(h:(aR w&&aK w b)=false):bE w b t=(w,false):=by
 grind[aF,nY,pU]
def aIe (w:AA)(b t:Int)(n:w.sz<=100000000):Ka w b t=some (bE w b t):=by
 have a:w.sz<=34359738368:=by omega
 unfold Ka;simp only[aD a,bd_s];cases h1:aR w with
 |false=>simp_all[aRq]
 |true=>
 cases h2:aK w b with
 |false=>simp_all[aRq]
 |true=>
 cases o:(b==t) with
 |true=>simp_all[pU]
 |false=>
 rw[aZp h1 h2];cases v:dE w b with
 |true=>simp_all[pU]
 |false=>
 rw[aD (WOk.of' a)];cases z:bK w t with
 |false=>simp_all[pU]
 |true=>
 simp only[ax,ae,bd_s,aD (show w.sz<=34359738100 by omega),bne];cases hs:((aF w b 0).2==0) with
 |false=>grind[pU]
 |true=>
 rw[aRp (by rw[hs,v,o,z];rfl)];have ht:aK w t=true:=by grind[bK]
 obtain⟨⟨q,J⟩,K,L,A⟩:=bO2 n h1 hs;obtain⟨d1,d2⟩:=bO3 h2 ht o;simp only[ax,ae,bd_s,lV d1,lV q,d2,aD (show(aF w b 0).1.aAA.Log.length<=34359738300 by omega)];have j:=mW (aF w b 0).1.aAA.Log 2 (aS (aG w t).Store) (aG (aF w b 0).1 b).Store;obtain⟨l,hl⟩:∃l,l=bP (aF w b 0).1.aAA.Log 2 (aS (aG w t).Store) (aG (aF w b 0).1 b).Store:=⟨_,rfl⟩;obtain⟨e,he⟩:∃e,e=bC l.1 (jL (aG (aF w b 0).1 b).Store l.1) (IntKind.i64.wrap (1000+IntKind.i64.wrap (10*(l.1.length:Int)))):=⟨_,rfl⟩;obtain⟨c,f⟩:∃c,c=gG (aF w b 0).1.aAA l.1 e.1:=⟨_,rfl⟩;have M:jO w b t=bif l.2&&(e.2&&c.2) then({(aF w b 0).1 with aAA:=c.1},true) else((aF w b 0).1,false):=by rw[f,he,hl];rfl
 have AL:Mc w b t=l.1:=by rw[hl];rfl
 rw[<-hl] at j ⊢;have k:=vH l.1 (jL (aG (aF w b 0).1 b).Store l.1) (IntKind.i64.wrap (1000+IntKind.i64.wrap (10*(l.1.length:Int))));have B:=Cm (aF w b 0).1;cases O:l.2 with
 |false=>grind[oV]
 |true=>
 rw[ax,ae,aD (show([311]:List Int).length<=34359738300 by simp),bd_s,aD (by omega),bd_s,aD (by omega),bd_s];rw[show bF (aV (aG (aF w b 0).1 b).Store.Seed [311]) (aB l.1)=jL (aG (aF w b 0).1 b).Store l.1 from rfl];rw[<-he] at k ⊢;cases R:e.2 with
 |false=>grind[oV]
 |true=>
 rw[ax,ae,aD (by omega),bd_s,<-f];cases T:c.2 with
 |false=>grind[oV]
 |true=>
 have m:jO w b t=({(aF w b 0).1 with aAA:=c.1},true):=by simp_all
 obtain⟨k1,k2,k3,k4⟩:=Uw q;obtain⟨x,u⟩:∃x,x=jN (aG (aF w b 0).1 b) l.1 (jL (aG (aF w b 0).1 b).Store l.1):=⟨_,rfl⟩;have D:vI w b t=x:=by rw[u,<-AL];rfl
 simp only[ax,ae,bd_s,aD (show(aG (aF w b 0).1 b).sz<=34359738368/\l.1.length<=34359738368 from⟨by omega,by omega⟩)];rw[<-u];cases F:x.2 with
 |false=>grind[oV]
 |true=>
 obtain⟨⟨W,z2,G,H,I⟩,AE⟩:=bH3 n hs rfl m (x:=x.1) (by rw[D,<-F]);have q1:∀y:AB,bB ((aF w b 0).1.Devices.set b.toNat y) b=some y:=(by simp[mO,k1,ao,k2]);rw[ax,ae,aXv (h:=t) (l:=(aF w b 0).1.Sites) (N:=(aF w b 0).1.Sites.length) rfl (by omega) A (λrec p s r hp hzs=>by
  simp only[dS (show p.length<(aF w b 0).1.Sites.length by omega),ac,aNp,bd_s,aD (aXw (h:=t) (p:=p) (r:=r) hzs)]
  grind[decide,aJ,bd_s,gL,bH2,hzs,aD,aD0]) (by simp)]
 rw[bd_s,bHy (d:=x.1) k1 (by simp[*]) (by simp) (by omega),eo];simp only[bd_s,q1,aD z2,aD I,eo,aD (show c.1.sz<=34359738300/\(bZ (jI x.1 t true)).2.1.sz<=34359738300 from⟨G,H⟩)];rw[AE];cases(bZ (jI x.1 t true)).2.2<;>cases(bM c.1 (bZ (jI x.1 t true)).2.1).2<;>rfl
def Pw (b:AR)(i:Int):uH b i=some (eT b i):=by unfold uH;rw[aD (by simp)];rfl
def Zj (s:AJ):xS s=some (lI s):=by unfold xS lI;cases bX s.Vendor 1 9<;>cases bX s.Serial 0 1000000<;>cases bL s.Seed<;>rfl
def Kg (a:AX)(h:a.Site.size<=34359738300/\a.aAL.size<=34359738300):rV a=some (dH a):=by unfold rV dH;rw[aD h.1,aD h.2];cases a.Present<;>rfl
def Vd (b:AR)(i:Int)(h:b.Open.length<=34359738368):wM b i=some (dN b i):=by unfold wM;exact zW (l:=b.Open) (λc=>c.Id==i) (by omega) (λrec j hj=>by simp only[dS hj,ac,aQ hj,bd_s]) (λrec=>by simp only[M3,ae])
def Px (b:AR)(i n:Int)(h:b.sz<=34359738368):uG b i n=some (fA b i n):=by
 have hl:b.Open.length<=b.sz:=by simp only[AR.sz];omega
 have a:∀(x y:List AZ),x.length+y.length<=34359738400->aZ x y:=λx y h=>by unfold aZ;omega
 unfold uG fA;rw[aD h,bd_s,aD h,bd_s];cases fJ b with
 |false=>rfl
 |true=>
  cases b.Next==1000000 with
  |true=>rfl
  |false=>
   cases bX i 0 1000000 with
   |false=>rfl
   |true=>
    cases bX n 0 1000000 with
    |false=>rfl
    |true=>
     simp only[ax,dc,dl,ae,ac,bd_s];cases hd:decide ((b.Open.length:Int)>=16) with
     |false=>rw[ae,aD (a _ _ (by simp only[aw,bm];omega))];rfl
     |true=>have c:=of_decide_eq_true hd;rw[ac,aD (show jW b.Open 1 from⟨by omega,by omega⟩),aD (a _ _ (by simp only[cF,aw,bm];omega))];rfl
def Ve (b:AR)(id acc now:Int)(h:b.sz<=34359738368):wN b id acc now=some (qB b id acc now):=by
 have hl:b.Open.length<=b.sz:=by simp only[AR.sz];omega
 have c:∀(x y:List AZ),x.length+y.length<=34359738400->aZ x y:=λx y h=>by unfold aZ;omega
 unfold wN qB;rw[aD (show b.Open.length<=34359738368 by omega),bd_s,aD h,bd_s];cases fJ b with
 |false=>simp only[dc,ac,bd_s,Bool.true_or];rw[aD h];rfl
 |true=>
  simp only[ax,ae,bd_s,da];cases d:decide (dN b id<0) with
  |true=>rw[ac,ac,aD h];rfl
  |false=>
   obtain⟨h0,h1⟩:=oO (i:=0) d;have h0:0<=dN b id:=h0;have h1:dN b id<(b.Open.length:Int):=by have:dN b id<0+(b.Open.length:Int):=h1;omega
   have hk:IntKind.i64.wrap (dN b id+1)=(((dN b id).toNat+1:Nat):Int):=by rw[aM (by omega) (by omega)];omega
   have a:bB b.Open (dN b id)=some (aGw b (dN b id)):=wF h0 h1;rw[ae,ae,hk,a,aD (show jW b.Open (dN b id) from⟨by omega,by omega⟩),aD (show jW b.Open (((dN b id).toNat+1:Nat):Int) from⟨by omega,by omega⟩),
    aD (c _ _ (by simp only[bm,cp];omega)),aD (c _ _ (by simp only[bu,cp,cF];omega)),bd_s,bd_s,bo]
   cases(aGw b (dN b id)).aAH==acc<;>rfl
def Vf (s:AJ)(z:ByteArray)(i:Int)(l:List Int)(h:z.size<=34359738300/\l.length<=34359738200):wK s z i l=some (jD s z i l):=by
 have a:∀(x y:List Int),x.length+y.length<=34359738400->aZ x y:=λx y h=>by unfold aZ;omega
 unfold wK jD;cases lI s with
 |false=>rfl
 |true=>
  simp only[ax,ae,bd_s,cY];cases s.Counter==1000000 with
  |true=>rfl
  |false=>simp only[aD h.1,bd_s,ae,dc,ac];rw[aD (a _ _ (by simp only[bm];omega)),aD (a _ _ (by simp only[bu,aw,bm];omega)),aD (by simp only[bu,ay,aw,bm];omega)];rfl
def aD5 (s:AF)(id now:Int)(h:s.sz<=34359738368):Eo s id now=some (mD s id now):=by
 have hb:s.Book.sz<=34359738368:=by simp only[AF.sz,AR.sz] at h ⊢;omega
 have hl:s.Accounts.length<=34359738368:=by simp only[AF.sz] at h;omega
 unfold Eo mD;rw[aD h,bd_s,aD hb,bd_s,aD h,bd_s];cases dD s with
 |false=>rfl
 |true=>
  simp only[ax,ae,cY];rw[aD hl,bd_s];cases decide (aJ s id<0) with
  |true=>rfl
  |false=>cases(fA s.Book id now).2.2<;>rfl
def Zk (a:AH)(m:Int)(h:a.sz<=34359738368):xU a m=some (qN a m):=by
 have hl:a.Credentials.length<=34359738368:=by simp only[AH.sz] at h;omega
 unfold xU qN;rw[aD h,bd_s,nW (l:=a.Credentials) (λc=> !c.Cut) (.inl true) (.inr ()) (by omega) (λrec i hi=>by simp only[dS hi,ac,aQ hi,bd_s]) (λrec=>by simp only[M3,ae])];cases bA a with
 |false=>rfl
 |true=>
  simp only[ax,ae,bd_s,cY];rw[show bX m a.Minimum 3=(decide (a.Minimum<=m)&&decide (m<=3)) from rfl];cases decide (a.Minimum<=m)<;>cases decide (m<=3)<;>try rfl
  cases hm:m==3<;>cases a.Credentials.any λc=> !c.Cut<;>simp[hm,nx,bne]
def aLy (o:AS)(h:o.Host.size<=34359738368):Od o=some (rP o):=by unfold Od rP;rw[aD h,bd_s];cases iF o.Host<;>rfl
def Zl (o:AS)(h:oP o):Yl o=some (qK o):=by obtain⟨k,hk,rfl⟩:=h;rcases(show k=0\/k=1\/k=2\/k=3\/k=4\/k=5 by omega) with rfl|rfl|rfl|rfl|rfl|rfl<;>kernel_rfl
def aUl (o:AS)(z:ByteArray)(h:Nn o z):aT4 o z=some (lW o z):=by obtain⟨⟨k,hk,rfl⟩,j,hj,rfl⟩:=h;rcases hj with rfl|rfl<;>rcases(show k=0\/k=1\/k=2\/k=3\/k=4\/k=5 by omega) with rfl|rfl|rfl|rfl|rfl|rfl<;>kernel_rfl
def Kh {α β:Type}{x:Option α}{f:α->Option β}{a:α}{r:Option β}(h:x=some a)(h2:f a=r):bd x f=r:=by simp[*]
def bC8 {α β:Type}{x:Option (α⊕β)}{f:β->Option α}{b:β}{r:Option α}(h:x=some (.inr b))(h2:f b=r):nx x f=r:=by simp[*]
def aRr {τ:Type}(n:Nat){F:(Nat->Option τ)->Nat->Option τ}{b:τ}(hn:n<=18446744073709551616)(a:∀rec i,i<n->F rec i=rec (i+1))(c:∀rec,F rec n=some b):bY FUEL F 0=some b:=by have:=nW (l:=List.replicate n ()) (λ_=>false) b b (by simpa using hn) (F:=F) (λrec i hi=>by rw[a rec i (by simpa using hi)];rfl) (λrec=>by simpa using c rec);rw[this];cases(List.replicate n ()).any λ_=>false<;>rfl
def bX0 {p:Nat->Prop}(h:p 0/\p 1/\p 2/\p 3/\p 4/\p 5/\p 6/\p 7/\p 8/\p 9/\p 10/\p 11):∀i,i<12->p i:=λi hi=>by
 match i,hi with
 |0,_=>exact h.1
 |1,_=>exact h.2.1
 |2,_=>exact h.2.2.1
 |3,_=>exact h.2.2.2.1
 |4,_=>exact h.2.2.2.2.1
 |5,_=>exact h.2.2.2.2.2.1
 |6,_=>exact h.2.2.2.2.2.2.1
 |7,_=>exact h.2.2.2.2.2.2.2.1
 |8,_=>exact h.2.2.2.2.2.2.2.2.1
 |9,_=>exact h.2.2.2.2.2.2.2.2.2.1
 |10,_=>exact h.2.2.2.2.2.2.2.2.2.2.1
 |11,_=>exact h.2.2.2.2.2.2.2.2.2.2.2
 |n+12,h=>omega
def lt8 {p:Nat->Prop}(h:p 0/\p 1/\p 2/\p 3/\p 4/\p 5/\p 6/\p 7):∀i,i<8->p i:=λi hi=>by
 match i,hi with
 |0,_=>exact h.1
 |1,_=>exact h.2.1
 |2,_=>exact h.2.2.1
 |3,_=>exact h.2.2.2.1
 |4,_=>exact h.2.2.2.2.1
 |5,_=>exact h.2.2.2.2.2.1
 |6,_=>exact h.2.2.2.2.2.2.1
 |7,_=>exact h.2.2.2.2.2.2.2
 |n+8,h=>omega
def Ye (k:Nat)(h:oP (tZ k))(c:rP (tZ k)=true)(he:(qK (tZ k)).toList=(Si k).toList):
  (bd (bif (!rP (tZ k)) then(some (true)) else(bd (gd (oP (tZ k)) (some (qK (tZ k)))) λa=>some (!a.toList==(Si k).toList))) λb=>bif b then(some ((AS.mk false (ByteArray.mk #[]) (0:Int),false))) else(some (tZ k,true)))=some (tZ k,true):=by
 simp[*]
def U4 (z:ByteArray)(h:bJj z):qX z=some (zI z):=by
 obtain rfl|⟨k,hk,rfl⟩:=h
 ·unfold qX;refine Kh (a:=(⟨#[]⟩,false,⟨#[]⟩,0)) (by kernel_rfl) ?_;refine bC8 (b:=(⟨#[]⟩,(0:Int))) (aRr 0 (by omega) (λrec i hi=>by omega) (λrec=>by kernel_rfl)) ?_
  kernel_rfl
 ·unfold qX;rcases(show k=0\/k=1\/k=2\/k=3 by omega) with rfl|rfl|rfl|rfl
  ·refine Kh (a:=((tZ 0).Host,true,⟨#[]⟩,443)) (by kernel_rfl) ?_;refine bC8 (b:=((tZ 0).Host,(443:Int))) (aRr 12 (by omega) (λrec=>bX0 (by refine⟨?_,?_,?_,?_,?_,?_,?_,?_,?_,?_,?_,?_⟩<;>kernel_rfl)) (λrec=>by kernel_rfl)) ?_;refine Kh (a:=true) (by kernel_rfl) ?_;exact(Ye 0 ⟨0,by decide,rfl⟩ (by kernel_rfl) (by kernel_rfl)).trans (by kernel_rfl)
  ·refine Kh (a:=((tZ 1).Host,true,⟨#[]⟩,443)) (by kernel_rfl) ?_;refine bC8 (b:=((tZ 1).Host,(443:Int))) (aRr 12 (by omega) (λrec=>bX0 (by refine⟨?_,?_,?_,?_,?_,?_,?_,?_,?_,?_,?_,?_⟩<;>kernel_rfl)) (λrec=>by kernel_rfl)) ?_;refine Kh (a:=true) (by kernel_rfl) ?_;exact(Ye 1 ⟨1,by decide,rfl⟩ (by kernel_rfl) (by kernel_rfl)).trans (by kernel_rfl)
  ·refine Kh (a:=((tZ 2).Host,true,⟨#[]⟩,443)) (by kernel_rfl) ?_;refine bC8 (b:=((tZ 2).Host,(443:Int))) (aRr 8 (by omega) (λrec=>lt8 (by refine⟨?_,?_,?_,?_,?_,?_,?_,?_⟩<;>kernel_rfl)) (λrec=>by kernel_rfl)) ?_;refine Kh (a:=true) (by kernel_rfl) ?_;exact(Ye 2 ⟨2,by decide,rfl⟩ (by kernel_rfl) (by kernel_rfl)).trans (by kernel_rfl)
  ·refine Kh (a:=((tZ 3).Host,true,⟨#[]⟩,443)) (by kernel_rfl) ?_;refine bC8 (b:=((tZ 3).Host,(443:Int))) (aRr 8 (by omega) (λrec=>lt8 (by refine⟨?_,?_,?_,?_,?_,?_,?_,?_⟩<;>kernel_rfl)) (λrec=>by kernel_rfl)) ?_;refine Kh (a:=true) (by kernel_rfl) ?_;exact(Ye 3 ⟨3,by decide,rfl⟩ (by kernel_rfl) (by kernel_rfl)).trans (by kernel_rfl)
def bO4 {o:AS}{z:ByteArray}(h:Nn o z):oP o/\z.size<=34359738300/\(qK o).size<=34359738300:=by
 obtain⟨ho,j,hj,rfl⟩:=h;refine⟨ho,?_,?_⟩
 ·rcases hj with rfl|rfl<;>exact(show 8<=34359738300 by omega)
 ·obtain⟨k,hk,rfl⟩:=ho;have:(qK (tZ k)).size<=40:=by rcases(show k=0\/k=1\/k=2\/k=3\/k=4\/k=5 by omega) with rfl|rfl|rfl|rfl|rfl|rfl<;>decide
  omega
def Vg (s:AJ)(o:AS)(z:ByteArray)(i c:Int)(b:Bool)(h:Nn o z):wL s o z i c b=some (iP s o z i c b):=by
 obtain⟨h1,h2,d⟩:=bO4 h;unfold wL iP Sj;have hm:∀a,(dH a).length<=34359738200:=λa=>by simp[dH]
 rw[aD h1,bd_s,aD ⟨h2,d⟩,bd_s,aD ⟨h2,hm _⟩,bd_s,aD h,bd_s];generalize jD s z i (dH (AX.mk z (qK o) c i b 0 0))=q;obtain⟨q1,q2,q3⟩:=q;cases lW o z<;>cases q3<;>rfl
def aXx {k:Nat}(hk:k<4):zI (Si k)=(tZ k,true)/\(Si k).size<=34359738300:=by
 rcases(show k=0\/k=1\/k=2\/k=3 by omega) with rfl|rfl|rfl|rfl
 ·exact⟨by kernel_rfl,show 20<=34359738300 by omega⟩
 ·exact⟨by kernel_rfl,show 20<=34359738300 by omega⟩
 ·exact⟨by kernel_rfl,show 16<=34359738300 by omega⟩
 ·exact⟨by kernel_rfl,show 16<=34359738300 by omega⟩
def bFm {j:Int}(hj:j=0\/j=1){k:Nat}(hk:k<4):zI (Si k)=(tZ k,true)/\(aA j).size<=34359738300/\(Si k).size<=34359738300:=by refine⟨(aXx hk).1,?_,(aXx hk).2⟩;rcases hj with rfl|rfl<;>exact(show 8<=34359738300 by omega)
def Py (pub:Int)(a:AX)(z:ByteArray)(b cnt:Int)(h:AsP a z):nR pub a z b cnt=some (gU pub a z b cnt):=by
 obtain⟨j,hj,rfl,rfl|⟨hs,k,hk,ho,c⟩⟩:=h
 ·unfold nR;rw[aD (show bJj aTy.aAL from .inl rfl)];rcases hj with rfl|rfl<;>kernel_rfl
 ·obtain⟨h1,h2,d⟩:=bFm hj hk;have hm:(dH a).length=6:=by simp[dH]
  unfold nR gU;rw[aD (show bJj a.aAL from .inr ⟨k,hk,ho⟩),bd_s,show zI a.aAL=(tZ k,true) by rw[ho];exact h1,show(a.Site.toList==(aA j).toList)=true by rw[hs];simp];simp only[ax,ae];rw[aD (show Nn (tZ k) (aA j) from⟨⟨k,by omega,rfl⟩,j,hj,rfl⟩),bd_s,c,bd_s];simp only[ax,ae,bne];rw[aD (show a.Site.size<=34359738300/\a.aAL.size<=34359738300 by rw[hs,ho];exact⟨h2,d⟩),bd_s,aD (show aZ (dH a) [a.Counter] by unfold aZ;simp only[hm,aw,bm];omega),aD (show(dH a++[a.Counter]).length<=34359738300 by simp only[ay,hm,aw,bm];omega),bd_s];cases a.Present<;>cases a.aAN==b<;>cases iC pub (dH a++[a.Counter]) a.Signature<;>cases decide (a.Counter<=cnt)<;>rfl
def bWh {a:AH}{h:Int}(hk:decide (aW a h<0)=false):bB a.Credentials (aW a h)=some (fO a (aW a h))/\(aW a h).toNat<a.Credentials.length:=by have hr:=oO (p:=λc:AV=>c.Handle==h) (i:=0) (l:=a.Credentials) hk;exact⟨wF (by unfold aW;omega) (by unfold aW;omega),by unfold aW;omega⟩
def Vh (a:AH)(x:AX)(z:ByteArray)(c:Int)(h:AsP x z/\a.sz<=34359738368):wO a x z c=some (iI a x z c):=by
 obtain⟨hp,b⟩:=h;have hl:a.Credentials.length<=34359738368:=b;unfold wO iI;simp only[aD b,aD hl,bd_s];cases bA a with
 |false=>rfl
 |true=>
  cases hk:decide (aW a x.Handle<0) with
  |true=>rfl
  |false=>
   simp only[ax,ae,(bWh hk).1,bd_s,da];cases(fO a (aW a x.Handle)).Cut with
   |true=>rfl
   |false=>simp only[aD hp,bd_s,ae];generalize gU (fO a (aW a x.Handle)).Public x z c (fO a (aW a x.Handle)).Counter=k;cases k==0<;>cases k==4<;>rfl
def bR8 {s:AF}{i:Int}(b:s.sz<=34359738300)(h:decide (aJ s i<0)=false):bB s.Accounts (aJ s i)=some (fF s (aJ s i))/\(fF s (aJ s i)).sz<=34359738300/\(aJ s i).toNat<s.Accounts.length:=by
 have hr:=oO (p:=λa:AH=>a.Id==i) (i:=0) (l:=s.Accounts) h
 grind[AF.sz,fF,wF,aJ,Ma,AH.sz]
def U5 (s:AF)(i c n:Int)(x:AX)(h:AsP x s.Name/\s.sz<=34359738300):Bf s i c n x=some (oC s i c n x):=by
 obtain⟨hp,a⟩:=h;have b:s.sz<=34359738368:=by omega
 have hb:s.Book.sz<=34359738368:=by simp only[AF.sz,AR.sz] at a ⊢;omega
 have hl:s.Accounts.length<=34359738368:=by simp only[AF.sz] at a;omega
 have d:aZ s.Logins [i]:=by unfold aZ;simp only[AF.sz] at a;simp only[aw,bm];omega
 unfold Bf oC;simp only[aD b,aD hl,aD hb,bd_s];cases dD s with
 |false=>rfl
 |true=>
  simp only[ax,ae,bd_s,da];cases hk:decide (aJ s i<0) with
  |true=>rfl
  |false=>
   obtain⟨e,f,j⟩:=bR8 a hk;simp only[ae];cases(qB s.Book c i n).2 with
   |false=>rfl
   |true=>
    simp only[ax,ae,e,bd_s,aD (show(fF s (aJ s i)).sz<=34359738368 by omega)];cases qN (fF s (aJ s i)) 3 with
    |false=>rfl
    |true=>
     simp only[ax,ae,aD (show AsP x s.Name/\(fF s (aJ s i)).sz<=34359738368 from⟨hp,by omega⟩),bd_s,aD d,bne];cases hc:(iI (fF s (aJ s i)) x s.Name (eT s.Book c)).2==0 with
     |false=>rfl
     |true=>rw[eq_of_beq hc];rfl
def Vi {w:AA}(h:aR w=true):w.Sites.length=2/\w.Stolen.length=w.Devices.length/\w.Devices.length<=6/\iM nH 0 w.Sites=false:=by
 grind[aR,bX,Bool.not_eq_true']
def aLz (w:AA)(d j:Int)(h:w.sz<=34359738368):Oc w d j=some (dM w d j):=by
 unfold Oc dM;rw[aD h,bd_s];cases a:aR w with
 |false=>rfl
 |true=>
  obtain⟨h1,h2,c,_⟩:=Vi a;have e:bX d 0 (IntKind.i64.wrap ((w.Devices.length:Int)-1))=aK w d:=by
   rw[aM (by omega) (by omega)];unfold bX aK;by_cases hd:d<(w.Devices.length:Int)
   ·rw[au hd,au (show d<=(w.Devices.length:Int)-1 by omega)]
   ·rw[av hd,av (show ¬d<=(w.Devices.length:Int)-1 by omega)]
  have b:bX j 0 1=lF w j:=by
   unfold bX lF;rw[h1,show((2:Nat):Int)=2 from rfl];by_cases hd:j<(2:Int)
   ·rw[au hd,au (show j<=1 by omega)]
   ·rw[av hd,av (show ¬j<=1 by omega)]
  rw[e,b,ac];cases aK w d<;>cases lF w j<;>rfl
def aXy {w:AA}{d j:Int}(h:dM w d j=true):bB w.Stolen d=some (dE w d):=by simp_all[List.getD,ab,mO,dE,aK,aa,cq,Vi,dM]
def bR9 (j:Int):(ByteArray.mk #[UInt8.ofNat 119,UInt8.ofNat 119,UInt8.ofNat 119,UInt8.ofNat 46]).size+(aA j).size<=9223372036854775807:=by unfold aA;cases j==0<;>cases j==1<;>decide
def aIf (s:ByteArray):aHb s=some (AS.mk true s 443):=rfl
theorem bWi {a b:ByteArray}(h:a.toList=b.toList):a=b:=by
 grind[ByteArray.ext,Array.toList_inj,ByteArray.toList_eq]
def bO5 {l:List AF}{k:Nat}:∀{i:Nat},iM nH i l=false->∀(h:k<l.length),dD l[k]=true/\l[k].Name=aA ((i+k:Nat):Int):=by induction l generalizing k<;>grind[iM,Bool.or_eq_false_iff,nH,Bool.not_eq_false',bWi,trans]
def aRs {w:AA}{d j:Int}(h:dM w d j=true):bB w.Sites j=some (dU w j)/\(dU w j).sz<=w.sz/\(dU w j).Name=aA j/\(j=0\/j=1)/\j.toNat<w.Sites.length:=by
 simp only[dM,aa] at h;obtain⟨h1,h2,b,a⟩:=Vi h.1;have hd:=h.2.2;simp only[lF,aa,cq] at hd;have hj:j.toNat<w.Sites.length:=by omega
 have hs:=Ma (f:=AF.sz) hj;have e:dU w j=w.Sites[j.toNat]:=by grind[List.getD,List.getElem?_eq_getElem,dU]
 refine⟨by rw[mO hd.1 hj,e],?_,?_,by omega,hj⟩
 ·grind[AA.sz,dU]
 ·rw[e,(bO5 a hj).2];grind
theorem bFn (s:AF)(i n:Int):(mD s i n).1.Name=s.Name/\(mD s i n).1.sz<=s.sz+1:=by
 unfold mD
 grind[dD,decide,aJ,fA,fJ,bX,List.length_append,List.length_drop,List.length_cons,List.length_nil,AF.sz,AR.sz]
def bO6 {k:Nat}(hk:k<6){j:Int}(hj:j=0\/j=1)(h:lW (tZ k) (aA j)=true):k<4:=by
 rcases(show k<4\/k=4\/k=5 by omega) with a|rfl|rfl
 ·exact a
 ·rcases hj with rfl|rfl<;>exact absurd h (by decide)
 ·rcases hj with rfl|rfl<;>exact absurd h (by decide)
theorem bFo (s:AJ)(h c:Int)(p:Bool){o:AS}(ho:oP o){j:Int}(hj:j=0\/j=1):AsP (iP s o (aA j) h c p).2.1 (aA j):=by
 refine⟨j,hj,rfl,?_⟩;obtain⟨k,hk,rfl⟩:=ho;unfold iP;cases hm:lW (tZ k) (aA j) with
 |false=>simp
 |true=>
  cases(jD s (aA j) h (dH (Sj s (tZ k) (aA j) h c p))).2.2 with
  |false=>simp
  |true=>exact .inr ⟨rfl,k,bO6 hk hj hm,rfl,hm⟩
def bX1 {w:AA}{d j:Int}{o:AS}(ho:oP o)(h:dM w d j=true)(a:w.sz<=34359738200):AsP (Md w d j o).2.1 (gZ w j).1.Name/\(gZ w j).1.sz<=34359738300:=by
 obtain⟨_,h2,b,c,_⟩:=aRs h
 grind[Md,gZ,bFo,bFn,dU]
def aUm (w:AA)(d j:Int)(o:AS)(h:oP o/\w.sz<=34359738200):H7 w d j o=some (dV w d j o):=by
 obtain⟨ho,c⟩:=h;have b:w.sz<=34359738368:=by omega
 unfold H7 dV;simp only[aD b,bd_s];cases ht:dM w d j with
 |false=>rfl
 |true=>
  obtain⟨e,n,q,f,r⟩:=aRs ht;obtain⟨k,l⟩:=bX1 ho ht c;have a:=ht;simp only[dM,aa] at a;have m:=lV a.2.1;have hm:w.Mail.sz<=34359738300:=by simp only[AA.sz,AP.sz] at c ⊢;omega
  simp only[ax,ae,e,bd_s,aD (show(dU w j).sz<=34359738368 by omega)];rw[show mD (dU w j) 1 w.Now=gZ w j from rfl];cases hb:(gZ w j).2.2.2 with
  |false=>rfl
  |true=>simp only[ax,ae,m,bd_s,aD (show Nn o (aA j) from ho.p f)];rw[show iP (aG w d).Store o (aA j) d (gZ w j).2.2.1 true=Md w d j o from rfl];simp only[aD (show AsP (Md w d j o).2.1 (gZ w j).1.Name/\(gZ w j).1.sz<=34359738300 from⟨k,l⟩),bd_s,aD hm,bne];rw[show oC (gZ w j).1 1 (gZ w j).2.1 w.Now (Md w d j o).2.1=Ac w d j o from rfl];cases(Ac w d j o).2.1==0<;>rfl
def aL0 (w:AA)(d j:Int)(o:AS)(h:oP o/\w.sz<=34359738200):Oe w d j o=some (yT w d j o):=by unfold Oe;rw[aD h];rfl
def U6 (w:AA)(d j:Int)(b:w.sz<=34359738200):Bg w d j=some (pQ w d j):=by
 have a:w.sz<=34359738368:=by omega
 unfold Bg pQ;simp only[aD a,bd_s,aD (bR9 j)];cases ht:dM w d j with
 |false=>rfl
 |true=>
  simp only[ax,ae,aXy ht,bd_s,cY];cases dE w d with
  |true=>rfl
  |false=>simp only[dc,ae,ac];exact(Kh (aD (show oP (Nl j)/\w.sz<=34359738200 from⟨bVj (aRs ht).2.2.2.1,b⟩)) rfl)
def Vj {σ τ:Type}{F:(σ->Option τ)->σ->Option τ}(S:Nat->σ)(N:Nat){r:τ}(a:N<=1000000)(b:∀rec i,i<N->F rec (S i)=rec (S (i+1)))(c:∀rec,F rec (S N)=some r){s:σ}(hs:s=S 0):EV.bY FUEL F s=some r:=by
 subst hs;have go:∀(k i n:Nat),i+k=N->k<n->EV.bY n F (S i)=some r:=by
  intro k;induction k with
  |zero=>
   intro i n h hn;obtain⟨m,rfl⟩:∃m,n=m+1:=⟨n-1,by omega⟩
   grind[jA]
  |succ k d=>
   intro i n h hn;obtain⟨m,rfl⟩:∃m,n=m+1:=⟨n-1,by omega⟩
   grind[jA]
 exact go N 0 FUEL (by omega) (by grind[gW])
theorem bC9 {m:Int}{F:(Int×Int×Int->Option Int)->Int×Int×Int->Option Int}(a:∀rec (b n s:Int),0<=n->n<9223372036854775807->F rec (b,n,s)=bif decide (n>0) then rec ((IntKind.i64.wrap (b*b)).tmod m,n/2,bif n%2==1 then(IntKind.i64.wrap (s*b)).tmod m else s) else some s):
  ∀(k:Nat) (b n s:Int) (f:Nat),k<f->0<=n->n<2^k->k<=62->bY f F (b,n,s)=some (bEv m k b n s)
 |0,b,n,s,f+1,c,h0,h1,hk=>by
  have:n=0:=by simp at h1;omega
  subst this;rw[jA,a _ _ _ _ (by omega) (by omega)];rfl
 |k+1,b,n,s,f+1,c,h0,h1,hk=>by
  have h2:(2:Int)^(k+1)=2*2^k:=by rw[fq];omega
  have d:n<2^62:=Int.lt_of_lt_of_le h1 (by exact_mod_cast ib (by omega) hk);rw[jA,a _ _ _ _ h0 (by omega)];unfold bEv;by_cases hn:n>0
  ·rw[au hn,ac,cW hn];exact bC9 a k _ (n/2) _ f (by omega) (by omega) (by omega) (by omega)
  ·rw[av hn,ae,dm hn]
theorem bX2:((2039:Int)≠0)=True:=by simp
def aD6 (b n:Int)(h:0<=n/\n<2048):sU b n=some (bEv 2039 11 b n 1):=by
 grind[bC9,pI,and_one,Gs,bGw,bX2,gd_T,bd_s,aD,FUEL,gW,sU]
def Pz (x:Int):uE x=some (aPi x):=by unfold uE aPi;rw[aD6 _ _ (by decide)];cases bX x 1 2038<;>rfl
def aL1 (g n:Int):Ny g n=some (Ad g n):=by unfold Ny Ad;have hr:=zN (p:=n) (q:=1019) (by decide);rw[aD6 _ _ ⟨hr.1,by omega⟩];cases aPi g<;>rfl
def U7 (a b:Int):O5 a b=some (aCh a b):=by rfl
def Zm (a b c:Int):Yk a b c=some (Xu a b c):=rfl
def aIg (a b:Int):Je a b=some (Dy a b):=by
 unfold Je Dy;rw[aD (by simp),bd_s];have h:=(mR a [157,b]).1
 grind[decide_eq_false,decide_eq_true,aYx,jX,bU]
def aD7 (a b:Int):aCy a b=some (aCi a b):=by rfl
def aRt (a b:Int):Ud a b=some (aW3 a b):=by unfold Ud aW3;rw[aD (by simp)];cases bX a 0 2147483647<;>rfl
def aIh (k:A3):aHa k=some (Dz k):=rfl
def bFp {c n:Int}{l:List Int}(hn:1<=n/\n<=7)(hl:l.length<=34359738368){F:(List A0×Int->Option (List A0))->List A0×Int->Option (List A0)}(a:∀rec (s:List A0) (i:Int),1<=i->i<=8->s.length<=8->F rec (s,i)=bif decide (i<=n) then rec (s++[⟨i,Sb c l i⟩],i+1) else some s):EV.bY FUEL F ([],1)=some ((List.range n.toNat).map λ(i:Nat)=>(⟨(i:Int)+1,Sb c l ((i:Int)+1)⟩:A0)):=
 Vj (λi=>((List.range i).map λ(i:Nat)=>(⟨(i:Int)+1,Sb c l ((i:Int)+1)⟩:A0),(i:Int)+1)) n.toNat (by omega) (by grind[decide_eq_true,List.range_succ]) (by grind[decide_eq_false]) rfl
def U8 (c:Int)(l:List Int)(n:Int)(h:l.length<=34359738368):Bd c l n=some (wZ c l n):=by
 unfold Bd wZ;cases h1:bX n 1 7 with
 |false=>rfl
 |true=>
  have hn:=iA h1;rw[bFp (c:=c) hn h (by grind[aD,bd_s,aZ,Sb,aM])];by_cases h2:(l.length:Int)<n
  all_goals simp_all[av,au]
def aIi (pin salt key sec:Int)(cs:List Int)(n lim:Int)(h:cs.length<=34359738368):Jf pin salt key sec cs n lim=some (Ha pin salt key sec cs n lim):=by
 unfold Jf Ha aNg;simp only[aD h,bd_s];have hl:=aW6 sec cs n;generalize wZ sec cs n=l at hl ⊢;cases bX pin 0 9999 with
 |false=>rfl
 |true=>
 cases bX salt 0 1000000 with
 |false=>rfl
 |true=>
 cases bL key with
 |false=>rfl
 |true=>
 cases jH sec 1019==0 with
 |true=>rfl
 |false=>
 cases bX lim 1 10 with
 |false=>rfl
 |true=>
 rw[bZm (l:=l) (λs=>Dz ⟨s,0,0,lim⟩) (by omega) (λrec i s hi hs=>by
  have a:∀x:AN,aZ s [x]:=(by grind[aZ]);simp only[dS hi,ac,aQ hi,bd_s,aD (a _)];rfl) (by simp)]
 cases l with
 |nil=>rfl
 |cons x l=>rfl
def aL2 (l:List AD)(b:AK)(h:l.length<=34359738368/\b.sz<=34359738368):Nq l b=some (dF l b):=by
 unfold Nq dF;have hb:b.Boxes.length<=34359738368:=by grind[AK.sz]
 simp only[aD h.1,aD h.2,aD (show b.Boxes.length<=34359738368/\l.length<=34359738368 from⟨hb,h.1⟩),bd_s];cases aU l<;>cases fQ b l<;>rfl
def bDa (s:AF)(id m:Int):(sO s id m).sz=s.sz+1:=by
 grind[sO,AF.sz,List.length_append,List.length_cons,List.length_nil,AH.sz,Ij,id,List.take_append_drop]
def bKn {l:List AH}{id:Int}{F:(Int->Option Int)->Int->Option Int}(hl:l.length<=34359738368)(b:∀rec (i:Nat) (hi:i<l.length),F rec (i:Int)=bif decide (l[i].Id<id) then rec ((i+1:Nat):Int) else some (i:Int))(c:∀rec,F rec (l.length:Int)=some (l.length:Int)):EV.bY FUEL F 0=some (Ij id l:Int):=
 aGu (λa:AH=>decide (a.Id<id)) (λi=>some (i:Int)) (λi=>(i:Int)) hl b c
def bO7 (id:Int)(l:List AH):Ij id l<=l.length:=Sg
def U9 (s:AF)(id m:Int)(h:s.sz<=34359738300):Au s id m=some (nM s id m):=by
 unfold Au nM;have hl:s.Accounts.length<=s.sz:=by grind[AF.sz]
 have hk:=bO7 id s.Accounts;have b:∀(x y:List AH),x.length+y.length<=34359738400->aZ x y:=(by grind[aZ]);have hs:s.sz<=34359738368:=by omega
 have h1:=bDa s id m;rw[aD hs,bd_s,bKn (id:=id) (l:=s.Accounts) (by omega) (by grind[dS,aQ,bd_s,aM]) (by simp),bd_s];have a:jW s.Accounts (Ij id s.Accounts:Int):=⟨by omega,by omega⟩;have he:(List.take (Ij id s.Accounts) s.Accounts).length+(List.drop (Ij id s.Accounts) s.Accounts).length=s.Accounts.length:=by rw[<-ay,cL]
 have ht:(List.take (Ij id s.Accounts) s.Accounts).length<=s.Accounts.length:=by omega
 have hd:(List.drop (Ij id s.Accounts) s.Accounts).length<=s.Accounts.length:=by omega
 rw[bo,aD a,aD a,aD (by grind),aD (by grind),aD (by grind),aD hs,bd_s,bu];rw[show(AF.mk s.Name (List.take (Ij id s.Accounts) s.Accounts++[AH.mk id m []]++List.drop (Ij id s.Accounts) s.Accounts) s.Book s.Logins)=sO s id m from rfl,aD (by omega)];cases dD s<;>cases dD (sO s id m)<;>rfl
def bSa {α:Type}{x y:List α}(h:x.length<=1000)(a:y.length<=1000):aZ x y:=by grind[aZ]
def Vk (seed:Int)(n:Nat):(dO seed n).length=n:=by simp[dO]
def aD8 (seed:Int)(n:Nat):dO seed (n+1)=dO seed n++[bH (aO seed (n:Int))]:=by simp[dO,gS]
def bKo (seed:Int)(n:Nat):bB (dO seed (n+1)) 0=some (bH (aO seed 0)):=by rw[show(0:Int)=((0:Nat):Int) from rfl,aQ (by simp[Vk])];simp[dO]
def aZq (seed:Int)(n:Nat)(h:1<=n):dO seed n=bH (aO seed 0)::(dO seed n).drop 1:=by obtain⟨m,rfl⟩:∃m,n=m+1:=⟨n-1,by omega⟩;simp[dO,List.range_succ_eq_map]
abbrev sT (s:AF):ByteArray×List AH×Int×Int×List AZ×List Int:=(s.Name,s.Accounts,s.Book.Seed,s.Book.Next,s.Book.Open,s.Logins)
theorem aD9 (nm:ByteArray):∀(l:List AB) (k:Nat) (d:AB) (s:AF),vW nm k (l++[d]) s=(eQ (vW nm k l s) 1 ((k+l.length:Nat):Int) (eG d.Store nm ((k+l.length:Nat):Int))).1
 |[],k,d,s=>rfl
 |x::l,k,d,s=>by
  rw[cM];show vW nm (k+1) (l++[d]) _=_;rw[aD9 nm l (k+1) d,aw,show k+1+l.length=k+(l.length+1) by omega];rfl
def bKp {nm:ByteArray}{l:List AB}{s0:AF}(hl:l.length<=3)(hs:s0.sz<=1000){F:(Nat×ByteArray×List AH×Int×Int×List AZ×List Int->Option (ByteArray×List AH×Int×Int×List AZ×List Int))->Nat×ByteArray×List AH×Int×Int×List AZ×List Int->Option (ByteArray×List AH×Int×Int×List AZ×List Int)}
  (a:∀rec (i:Nat) (hi:i<l.length) (s:AF),s.sz<=2000->F rec (i,sT s)=rec (i+1,sT (eQ s 1 (i:Int) (eG l[i].Store nm (i:Int))).1)) (b:∀rec s,F rec (l.length,sT s)=some (sT s)):EV.bY FUEL F (0,sT s0)=some (sT (vW nm 0 l s0)):=
 Vj (λi=>(i,sT (vW nm 0 (l.take i) s0))) l.length (by omega) (by grind[N8,s0,List.length_take,List.take_succ_eq_append_getElem,aD9]) (by simp[*]) rfl
def bDb {α:Type}{p r:List α}{s:α}:bB (p++s::r) ((p.length:Nat):Int)=some s:=by simp[aQ]
def bO8 {α ι:Type}(e:Nat->ι){p0 l:List α}(f:α->α){F:(ι×List α->Option (List α))->ι×List α->Option (List α)}(hl:l.length<=1000)
  (a:∀rec (p:List α) (d:α) (r:List α),p.length+1+r.length=p0.length+l.length->d∈l->F rec (e p.length,p++d::r)=rec (e (p.length+1),p++f d::r)) (b:∀rec (p:List α),p.length=p0.length+l.length->F rec (e (p0.length+l.length),p)=some p):EV.bY FUEL F (e p0.length,p0++l)=some (p0++l.map f):=
 Vj (λi=>(e (p0.length+i),p0++(l.take i).map f++l.drop i)) l.length (by omega) (λrec i hi=>by
  have h2:(p0++(l.take i).map f).length=p0.length+i:=by grind
  grind[List.append_assoc,List.singleton_append,Nat.add_assoc,List.take_succ_eq_append_getElem,List.map_singleton,List.getElem_mem,List.drop_eq_getElem_cons,List.length_drop]) (by simp[*]) (by simp)
def aXz (n:Nat)(d:AB):Nat->AB
 |0=>d
 |j+1=>Me (aA (j:Int)) n (aXz n d j)
def aKx (j:Int):(aA j).size<=100:=by unfold aA;cases j==0<;>cases j==1<;>decide
def bKq {nm:ByteArray}{n:Nat}{d:AB}{r:List AB}(hn:n<=3)(hd:d.sz<=100){F:(Nat×List AB->Option (List AB))->Nat×List AB->Option (List AB)}
  (a:∀rec (i:Nat) (x:AB),i<n->x.sz<=1000->F rec (i,x::r)=rec (i+1,(bO x nm (i:Int) false).1::r)) (b:∀rec x,F rec (n,x::r)=some (x::r)):EV.bY FUEL F (0,d::r)=some (Me nm n d::r):=
 Vj (λi=>(i,Me nm i d::r)) n (by omega) (λrec i hi=>by
  have h1:=aNi nm i d;rw[a rec i _ hi (by omega)];rfl) (λrec=>b rec _) rfl
def bKr {n:Nat}{d:AB}{r:List AB}{F:(Nat×List AB->Option (List AB))->Nat×List AB->Option (List AB)}(hn:n<=3)(hd:d.sz<=10)
  (a:∀rec (j:Nat) (x:AB),j<2->x.sz<=100->F rec (j,x::r)=rec (j+1,Me (aA (j:Int)) n x::r)) (b:∀rec x,F rec (2,x::r)=some (x::r)):EV.bY FUEL F (0,d::r)=some (aXz n d 2::r):=
 Vj (λj=>(j,aXz n d j::r)) 2 (by omega) (λrec j hj=>by
  have h1:∀j:Nat,(aXz n d j).sz<=d.sz+j*n:=by intro j;induction j<;>grind[aNi,aA,aXz,Me,Nat.add_mul]
  have h2:=h1 j;have c:j*n<=2*3:=ic (by omega) hn;rw[a rec j _ hj (by omega)];rfl) (λrec=>b rec _) rfl
def bFq {seed t:Int}(ht:1<=t/\t<=7){F:(List Int×Int->Option (List Int))->List Int×Int->Option (List Int)}(a:∀rec (s:List Int) (i:Int),1<=i->i<=8->s.length<=8->F rec (s,i)=bif decide (i<t) then rec (s++[aV seed [307,i]],i+1) else some s):EV.bY FUEL F ([],1)=some (N7 seed t):=
 Vj (λi=>((List.range i).map λ(k:Nat)=>aV seed [307,(k:Int)+1],(i:Int)+1)) (t-1).toNat (by omega) (by grind[decide_eq_true,List.range_succ]) (λrec=>by
  rw[a rec _ _ (by omega) (by omega) (by simp;omega),av (by omega),ae];rfl) rfl
def bH4 (s:AF):AF.mk s.Name s.Accounts (AR.mk s.Book.Seed s.Book.Next s.Book.Open) s.Logins=s:=rfl
def bWj (s:AJ):AB.mk s [] (0:Int) (0:Int) (0:Int) (AC.mk [])=bH s:=rfl
def bX3 (seed:Int)(i:Nat):AJ.mk (1:Int) (i:Int) (aV seed [277,(i:Int)]) (0:Int)=aO seed (i:Int):=rfl
def V3 (w:AA)(d:Int)(h:w.sz<=34359738368):Be w d=some (gP w d):=by
 unfold Be gP;simp only[aD h,bd_s];cases ht:dM w d 0 with
 |false=>rfl
 |true=>simp only[ax,ae,aXy ht,bd_s,cY];cases dE w d<;>rfl
def bFr (l:List Int):bFc l=some (bJo l):=rfl
def aRu (a b:List AD)(h:qO a.length a b/\a.length<=34359738368):Uu a b=some true:=by
 obtain⟨⟨rfl,_⟩,hl⟩:=h;unfold Uu;have:bS a a=true:=by
  unfold bS;rw[au (ak _),cY,bv];have key:∀(l r:List AD) (i:Nat),a=l++r->l.length=i->iM (λi e=> !aY2 (a.getD i default) e) i r=false:=by
   intro l r;induction r generalizing l with
   |nil=>intro i _ _;rfl
   |cons x r c=>
    intro i he hi;have d:a.getD i default=x:=by rw[he,<-hi];simp
    have hr:aY2 x x=true:=by unfold aY2;simp
    rw[iM,d,hr];simpa using c (l++[x]) (i+1) (by simpa using he) (by simp[hi])
  exact key [] a 0 rfl rfl
 rw[dq,ac,aD hl,this];rfl
def Zn (a b:AC)(h:qO a.sz a b/\a.sz<=34359738368):yC a b=some true:=by obtain⟨⟨rfl,_⟩,c⟩:=h;have hl:a.Entries.length<=34359738368:=c;unfold yC;rw[cA,ae,vC (a:=a.Entries) (by omega) (λrec i hi=>by simp[hi,aQ hi]) (λrec=>by simp)];rfl
def Zo (a b:AB)(h:qO a.sz a b/\a.sz<=34359738368):yD a b=some true:=by
 obtain⟨⟨rfl,_⟩,c⟩:=h;have h1:a.Log.length<=34359738368:=by simp only[AB.sz] at c;omega
 have h2:a.aAD.sz<=34359738368:=by simp only[AB.sz,AC.sz] at c ⊢;omega
 unfold yD;simp[aD (show qO a.Log.length a.Log a.Log/\a.Log.length<=34359738368 from⟨⟨rfl,by omega⟩,h1⟩),aD (show qO a.aAD.sz a.aAD a.aAD/\a.aAD.sz<=34359738368 from⟨⟨rfl,by omega⟩,h2⟩),bd]
def aEa (a b:AR)(h:qO a.sz a b/\a.sz<=34359738368):Fu a b=some true:=by obtain⟨⟨rfl,_⟩,c⟩:=h;have hl:a.Open.length<=34359738368:=c;unfold Fu;simp only[cA,ae,bd_s];rw[vC (a:=a.Open) (by omega) (λrec i hi=>by simp[hi,aQ hi]) (λrec=>by simp)];rfl
def aIj (a b:List Int)(h:qO a.length a b/\a.length<=34359738368):Kb a b=some true:=by obtain⟨⟨rfl,_⟩,hl⟩:=h;unfold Kb;rw[cA,ae,vC (a:=a) (by omega) (λrec i hi=>by simp[hi,aQ hi]) (λrec=>by simp)];rfl
def Vl (a b:AH)(h:qO a.sz a b/\a.sz<=34359738368):wU a b=some true:=by obtain⟨⟨rfl,_⟩,c⟩:=h;have hl:a.Credentials.length<=34359738368:=c;unfold wU;simp only[cA,ae,bd_s];rw[vC (a:=a.Credentials) (by omega) (λrec i hi=>by simp[hi,aQ hi]) (λrec=>by simp)];rfl
def aX0 {α:Type}{f:α->Nat}{l:List α}{i:Nat}(hi:i<l.length):f l[i]<=(l.map f).sum:=by
 induction l generalizing i with
 |nil=>simp at hi
 |cons x l a=>
  cases i with
  |zero=>simp
  |succ i=>have:=a (i:=i) (by simpa using hi);simp only[fb,bw,eE];omega
def aEb (a b:AF)(h:qO a.sz a b/\a.sz<=34359738368):Fv a b=some true:=by
 obtain⟨⟨rfl,_⟩,c⟩:=h;have h1:a.Book.sz<=34359738368:=by simp only[AF.sz,AR.sz] at c ⊢;omega
 have h2:a.Logins.length<=34359738368:=by simp only[AF.sz] at c;omega
 have e:a.Accounts.length<=34359738368:=by simp only[AF.sz] at c;omega
 have d:∀i (hi:i<a.Accounts.length),a.Accounts[i].sz<=34359738368:=λi hi=>by
  have:=aX0 (f:=AH.sz) hi;simp only[AF.sz] at c;omega
 unfold Fv;simp only[dq,ax,cA,ae,bd_s,aD (show qO a.Book.sz a.Book a.Book/\a.Book.sz<=34359738368 from⟨⟨rfl,by omega⟩,h1⟩),aD (show qO a.Logins.length a.Logins a.Logins/\a.Logins.length<=34359738368 from⟨⟨rfl,by omega⟩,h2⟩)];rw[vC (a:=a.Accounts) (by omega) (λrec i hi=>by
  have:=d i hi;simp[hi,aQ hi,aD (show qO a.Accounts[i].sz a.Accounts[i] a.Accounts[i]/\a.Accounts[i].sz<=34359738368 from⟨⟨rfl,by omega⟩,this⟩),bd]) (λrec=>by simp)];rfl
def aEc (a b:AO)(h:qO a.sz a b/\aT a.Data):Fw a b=some true:=by obtain⟨⟨rfl,_⟩,hb⟩:=h;unfold Fw;simp[aD hb,bd]
def Mt (a b:AK)(h:qO a.sz a b/\(a.sz<=34359738368/\aY9 a)):sZ a b=some true:=by
 obtain⟨⟨rfl,_⟩,c,hb⟩:=h;have e:a.Boxes.length<=34359738368:=by simp only[AK.sz] at c;omega
 have d:∀i (hi:i<a.Boxes.length),a.Boxes[i].sz<=34359738368:=λi hi=>by
  have:=aX0 (f:=AO.sz) hi;simp only[AK.sz] at c;omega
 unfold sZ;simp only[cA,ae,bd_s];rw[vC (a:=a.Boxes) (by omega) (λrec i hi=>by
  have:=d i hi;simp[hi,aQ hi,aD (show qO a.Boxes[i].sz a.Boxes[i] a.Boxes[i]/\aT a.Boxes[i].Data from⟨⟨rfl,by omega⟩,hb _ (cf hi)⟩),bd]) (λrec=>by simp)];rfl
def V4 (a b:AI)(h:qO a.sz a b/\aT a.Data):Ce a b=some true:=by obtain⟨⟨rfl,_⟩,hb⟩:=h;unfold Ce;simp[aD hb,bd]
def V5 (a b:AM)(h:qO a.sz a b/\(a.sz<=34359738368/\Ah a)):Cf a b=some true:=by
 obtain⟨⟨rfl,_⟩,c,hb⟩:=h;have h1:a.Log.length<=34359738368:=by simp only[AM.sz] at c;omega
 have h2:a.Boxes.sz<=34359738368:=by simp only[AM.sz,AK.sz] at c ⊢;omega
 have e:a.History.length<=34359738368:=by simp only[AM.sz] at c;omega
 have d:∀i (hi:i<a.History.length),a.History[i].sz<=34359738368:=λi hi=>by
  have:=aX0 (f:=AI.sz) hi;simp only[AM.sz] at c;omega
 unfold Cf;simp only[aD (show qO a.Log.length a.Log a.Log/\a.Log.length<=34359738368 from⟨⟨rfl,by omega⟩,h1⟩),aD (show qO a.Boxes.sz a.Boxes a.Boxes/\(a.Boxes.sz<=34359738368/\aY9 a.Boxes) from⟨⟨rfl,by omega⟩,h2,hb.1⟩),bd_s,ax,ae,cA];rw[vC (a:=a.History) (by omega) (λrec i hi=>by
  have:=d i hi;simp[hi,aQ hi,aD (show qO a.History[i].sz a.History[i] a.History[i]/\aT a.History[i].Data from⟨⟨rfl,by omega⟩,hb.2 _ (cf hi)⟩),bd]) (λrec=>by simp)];rfl
def aEd (a b:AN)(h:qO a.sz a b/\a.sz<=34359738368):Fx a b=some true:=by obtain⟨⟨rfl,_⟩,c⟩:=h;have hl:a.Saved.length<=34359738368:=c;unfold Fx;simp only[dq,dl,gi,ax,cA,ae,bd_s];rw[vC (a:=a.Saved) (by omega) (λrec i hi=>by simp[hi,aQ hi]) (λrec=>by simp)];rfl
def Mv (a b:List AN)(h:qO (szL AN.sz a) a b/\szL AN.sz a<=34359738368):tC a b=some true:=by
 obtain⟨⟨rfl,_⟩,c⟩:=h;have hl:a.length<=34359738368:=by unfold szL at c;omega
 have d:∀i (hi:i<a.length),a[i].sz<=34359738368:=λi hi=>by
  have:=aX0 (f:=AN.sz) hi;unfold szL at c;omega
 unfold tC;rw[cA,ae,vC (a:=a) (by omega) (λrec i hi=>by
  have:=d i hi;simp[hi,aQ hi,aD (show qO a[i].sz a[i] a[i]/\a[i].sz<=34359738368 from⟨⟨rfl,by omega⟩,this⟩),bd]) (λrec=>by simp)];rfl
def Qa (a b:AP)(h:qO a.sz a b/\a.sz<=34359738368):uP a b=some true:=by obtain⟨⟨rfl,_⟩,c⟩:=h;have hl:a.Notices.length<=34359738368:=c;unfold uP;rw[cA,ae,vC (a:=a.Notices) (by omega) (λrec i hi=>by simp[hi,aQ hi]) (λrec=>by simp)];rfl
def V6 (a b:AA)(h:qO a.sz a b/\(a.sz<=34359738368/\Ah a.aAA)):Cg a b=some true:=by
 obtain⟨⟨rfl,_⟩,c,hb⟩:=h;have h1:a.Devices.length<=34359738368/\a.Stolen.length<=34359738368/\a.Sites.length<=34359738368/\a.aAA.sz<=34359738368/\szL AN.sz a.Hosts<=34359738368/\a.Mail.sz<=34359738368:=by simp only[AA.sz,AM.sz,AK.sz,AP.sz,szL] at c ⊢;omega
 have d:∀i (hi:i<a.Devices.length),a.Devices[i].sz<=34359738368:=λi hi=>by
  have:=aX0 (f:=AB.sz) hi;simp only[AA.sz] at c;omega
 have e:∀i (hi:i<a.Sites.length),a.Sites[i].sz<=34359738368:=λi hi=>by
  have:=aX0 (f:=AF.sz) hi;simp only[AA.sz] at c;omega
 unfold Cg;simp only[cA,dq,dl,gi,ax,ae,bd_s];rw[vC (a:=a.Devices) (by omega) (λrec i hi=>by
  have:=d i hi;simp[hi,aQ hi,aD (show qO a.Devices[i].sz a.Devices[i] a.Devices[i]/\a.Devices[i].sz<=34359738368 from⟨⟨rfl,by omega⟩,this⟩),bd]) (λrec=>by simp),nx_r]
 rw[vC (a:=a.Stolen) (by omega) (λrec i hi=>by simp[hi,aQ hi]) (λrec=>by simp),nx_r];rw[vC (a:=a.Sites) (by omega) (λrec i hi=>by
  have:=e i hi;simp[hi,aQ hi,aD (show qO a.Sites[i].sz a.Sites[i] a.Sites[i]/\a.Sites[i].sz<=34359738368 from⟨⟨rfl,by omega⟩,this⟩),bd]) (λrec=>by simp),nx_r]
 simp only[aD (show qO a.aAA.sz a.aAA a.aAA/\(a.aAA.sz<=34359738368/\Ah a.aAA) from⟨⟨rfl,by omega⟩,h1.2.2.2.1,hb⟩),aD (show qO (szL AN.sz a.Hosts) a.Hosts a.Hosts/\szL AN.sz a.Hosts<=34359738368 from⟨⟨rfl,by omega⟩,h1.2.2.2.2.1⟩),aD (show qO a.Mail.sz a.Mail a.Mail/\a.Mail.sz<=34359738368 from⟨⟨rfl,by omega⟩,h1.2.2.2.2.2⟩),bd_s,ac]
def bO9 (x:Int):0<=pI IntKind.i64 x 255/\pI IntKind.i64 x 255<=255:=by
 unfold pI;rw[BitVec.toNat_and];have h:((BitVec.ofInt IntKind.i64.bits x).toNat&&&(BitVec.ofInt IntKind.i64.bits 255).toNat)<=255:=bz Nat.and_le_right (by decide)
 grind[aM]
theorem aNq {c:AQ}(h:bD c):bD (lT c).1/\0<=(lT c).2/\(lT c).2<=255:=by
 unfold lT;obtain⟨h1,h2⟩:=h;cases hc:decide (c.i<(c.b.length:Int)) with
 |true=>
  have hc:=of_decide_eq_true hc;refine⟨⟨?_,h2⟩,bO9 _⟩
  grind[aM]
 |false=>exact⟨⟨h1,h2⟩,bO9 _⟩
theorem oW {c:AQ}(h:bD c)(n:Int):bD (bW c n).1/\0<=(bW c n).2/\(0<n->(bW c n).2<n)/\(n<=0->(bW c n).2=0):=by
 obtain⟨h1,h2,a⟩:=aNq h;obtain⟨k1,k2,k3⟩:=aNq h1;obtain⟨l1,l2,b⟩:=aNq k1;unfold bW;by_cases hn:n<=0
 ·simp[*]
 ·rw[av hn];have hn:0<n:=by omega
  simp only[ae];by_cases hb:n<=256
  ·simp_all[fy,fR,absurd,au];omega
  ·rw[av hb];simp only[ae];generalize(lT c).2=x at*;generalize(lT (lT c).1).2=y at*;generalize(lT (lT (lT c).1).1).2=z at*;rw[aM (show-9223372036854775808<=x*65536 by omega) (by omega),aM (show-9223372036854775808<=y*256 by omega) (by omega),aM (show-9223372036854775808<=x*65536+y*256 by omega) (by omega),aM (by omega) (by omega)];exact⟨l1,fy n (by omega),λ_=>fR _ hn,λq=>absurd q (by omega)⟩
def aUn (c:AQ)(h:bD c):G6 c=some (lT c):=by
 unfold G6 lT;rw[aD (by decide),aD (by decide)];cases hc:decide (c.i<(c.b.length:Int)) with
 |true=>have hc:=of_decide_eq_true hc;have h0:=h.1;rw[ac,ac,mO h0 (by omega),List.getD,ab (show c.i.toNat<c.b.length by omega)];rfl
 |false=>rfl
def aRv (c:AQ)(n:Int)(h:bD c):Sz c n=some (bW c n):=by
 grind[decide_eq_false,decide_eq_true,aD,bd_s,Sz,bW,aNq]
def aUo (c:AQ)(n:Int)(h:bD c):H8 c n=some (sP c n):=by unfold H8;rw[aD h];rfl
theorem bFs {c:AQ}(h:bD c)(l:List Int):bD (O0 c l).1/\(0<l.length->(O0 c l).2∈l):=by
 grind[List.getElem_mem,List.getD,List.getElem?_eq_getElem,bW,O0,oW]
def aZr (c:AQ)(l:List Int)(h:bD c/\0<l.length):aCz c l=some (O0 c l):=by obtain⟨_,h2,a,_⟩:=oW h.1 (l.length:Int);have a:=a (by have:=h.2;omega);unfold aCz;rw[aD h.1,bd_s,wF h2 a];rfl
def bSb {c:AQ}(h:bD c):bD (aKn c).1:=by
 grind[sP,bFs,oW,aKn,bD]
def aZs (c:AQ)(h:bD c):aC0 c=some (aKn c):=by
 have h1:bD (sP c 10).1:=(oW h 10).1;unfold aC0;refine Kh (a:=sP c 10) (aD h) ?_;unfold aKn;cases(sP c 10).2 with
 |true=>exact Kh (a:=O0 (sP c 10).1 [0,-1,1,2147483646,2147483647]) (aD ⟨h1,by decide⟩) rfl
 |false=>exact Kh (a:=bW (sP c 10).1 99999) (aD h1) rfl
structure NewIn (n:Nat) (s:Int) (w:AA):Prop where
 ok:aR w=true
 len:w.Devices.length=n
 dev:∀i (hi:i<n),w.Devices[i]? =some (Im s n i 1 (nwB n))
 acc:∀j (hj:j<2),∃x l,w.Sites[j]? =some x/\x.Accounts=[⟨1,3,l⟩]/\l.length=n
 two:w.Sites.length=2
 list:∀i:Nat,i<n->bK w (i:Int)=true
 no:bK w (n:Int)=false
section
variable {ρ σ τ S:Type}
def Ex (x:Option τ)(Q:τ->Prop):Prop:=∃r,x=some r/\Q r
def gN {Q:τ->Prop}{r:τ}(h:Q r):Ex (some r) Q:=⟨r,rfl,h⟩
def bdE {x:Option σ}{f:σ->Option τ}(P:σ->Prop){Q:τ->Prop}(h:Ex x P)(k:∀r,P r->Ex (f r) Q):Ex (bd x f) Q:=by obtain⟨r,rfl,p⟩:=h;exact k r p
def gdE {c:Prop}[Decidable c]{x:Option τ}{Q:τ->Prop}(h:c)(k:Ex x Q):Ex (gd c x) Q:=by rw[aD h];exact k
def bgE {c:Prop}[Decidable c]{v:σ}{f:σ->Option τ}{Q:τ->Prop}(h:c)(k:Ex (f v) Q):Ex (bd (gd c (some v)) f) Q:=by rw[aD h];exact k
def vM {c:Bool}{x y:Option τ}{Q:τ->Prop}(h:c=true->Ex x Q)(k:c=false->Ex y Q):Ex (bif c then x else y) Q:=by
 cases c with
 |true=>exact h rfl
 |false=>exact k rfl
def blE {c:AQ}{n:Int}{f:AQ×Int->Option τ}{Q:τ->Prop}(h:bD c)(k:∀a v,bD a->0<=v->(0<n->v<n)->Ex (f (a,v)) Q):Ex (bd (gd (bD c) (some (bW c n))) f) Q:=
 bgE h (k _ _ (oW h n).1 (oW h n).2.1 (oW h n).2.2.1)
def onE {c:AQ}{n:Int}{f:AQ×Bool->Option τ}{Q:τ->Prop}(h:bD c)(k:∀a v,bD a->Ex (f (a,v)) Q):Ex (bd (gd (bD c) (some (sP c n))) f) Q:=
 bgE h (k (sP c n).1 (sP c n).2 (oW h n).1)
def inE {c:AQ}{l:List Int}{f:AQ×Int->Option τ}{Q:τ->Prop}(h:bD c)(hl:0<l.length)(k:∀a v,bD a->v∈l->Ex (f (a,v)) Q):Ex (bd (gd (bD c/\0<l.length) (some (O0 c l))) f) Q:=
 bgE ⟨h,hl⟩ (k _ _ (bFs h l).1 ((bFs h l).2 hl))
def St (V:Nat->S->Prop)(Q:τ->Prop)(i:Nat)(rec:S->Option τ)(x:Option τ):Prop:=(∃s',V (i+1) s'/\x=rec s')\/Ex x Q
section
variable {V:Nat->S->Prop} {Q:τ->Prop} {i:Nat} {rec:S->Option τ}
def bKs {s:S}(h:V (i+1) s):St V Q i rec (rec s):= .inl ⟨s,h,rfl⟩
def bdS {x:Option σ}{f:σ->Option τ}(P:σ->Prop)(h:Ex x P)(k:∀r,P r->St V Q i rec (f r)):St V Q i rec (bd x f):=by obtain⟨r,rfl,p⟩:=h;exact k r p
def bgS {c:Prop}[Decidable c]{v:σ}{f:σ->Option τ}(h:c)(k:St V Q i rec (f v)):St V Q i rec (bd (gd c (some v)) f):=by rw[aD h];exact k
def bPa {c:Bool}{x y:Option τ}(h:c=true)(k:St V Q i rec x):St V Q i rec (bif c then x else y):=by rw[h];exact k
def blS {c:AQ}{n:Int}{f:AQ×Int->Option τ}(h:bD c)(k:∀a v,bD a->0<=v->(0<n->v<n)->St V Q i rec (f (a,v))):St V Q i rec (bd (gd (bD c) (some (bW c n))) f):=
 bgS h (k _ _ (oW h n).1 (oW h n).2.1 (oW h n).2.2.1)
end
def bKt {F:(S->Option τ)->S->Option τ}(V:Nat->S->Prop)(N:Nat){Q:τ->Prop}{s:S}(a:N<=18446744073709551616)(h0:V 0 s)(step:∀i s rec,i<N->V i s->St V Q i rec (F rec s))(last:∀s rec,V N s->Ex (F rec s) Q):Ex (bY FUEL F s) Q:=
 bMw V N Q step last N 0 FUEL s (by omega) (by have:=gW;omega) h0
end
abbrev WU:=Int×Int×List AB×List Bool×List AD×Int×List AO×List AI×List AF×Int×Int×Int×Int×List AN×Int×List AU
def wT (w:AA):WU:=(w.Now,w.Seed,w.Devices,w.Stolen,w.aAA.Log,w.aAA.Boxes.Epoch,w.aAA.Boxes.Boxes,w.aAA.History,w.Sites,w.aAP.Salt,w.aAP.Threshold,w.aAP.Check,w.aAP.Masked,w.Hosts,w.Pin,w.Mail.Notices)
def bH5 (n k t pin seed:Int)(K:List Int)(L M:Int):Option (List Int×Int×Int×WU):=bd (bif !bX n 1 3 then some true else bif !bX k 1 7 then some true else bif !bX t 1 k then some true else bif !bX pin 0 9999 then some true else some (!bL seed)) λO=>bif O then some (K,L,M,(0:Int),(0:Int),[],[],[],(0:Int),[],[],[],(0:Int),(0:Int),(0:Int),(0:Int),[],(0:Int),[]) else bd (bY (α:=List AD×List AB×List Bool) FUEL (λI (f:(List AD×Nat×List AB×List Bool))=>bif (↑f.2.1:Int)<n then gd (aZ f.2.2.1 [AB.mk (AJ.mk 1 ↑f.2.1 (aV seed [277,↑f.2.1]) 0) [] 0 0 0 (AC.mk [])]) (gd (aZ f.2.2.2 [false]) (bd (bB (f.2.2.1++[AB.mk (AJ.mk 1 ↑f.2.1 (aV seed [277,↑f.2.1]) 0) [] 0 0 0 (AC.mk [])]) 0) λw=>bd (gd (f.1.length<=34359738300) (some (bP f.1 1 (aS (AJ.mk 1 ↑f.2.1 (aV seed [277,↑f.2.1]) 0)) w.Store))) λx=>I (x.1,(f.2.1+1),f.2.2.1++[AB.mk (AJ.mk 1 ↑f.2.1 (aV seed [277,↑f.2.1]) 0) [] 0 0 0 (AC.mk [])],f.2.2.2++[false]))) else some (f.1,f.2.2)) ([],0,[],[])) λv=>bd (gd (v.1.length<=34359738300) (some (bC v.1 (bF seed 0) 1000))) λN=>bd (gd (v.1.length<=34359738368/\N.1.sz<=34359738368) (some (dF v.1 N.1))) λw=>bd (bY (α:=List AF) FUEL (λy (d:(List AF×Nat))=>bif (↑d.2:Int)<2 then bd (bd (gd ([(281:Int),(↑d.2:Int)].length<=34359738300) (some (aV seed [281,↑d.2]))) λm=>bd (gd ((aA ↑d.2).size<=34359738368) (some (gT (aA ↑d.2) m))) λe=>bd (gd (e.sz<=34359738300) (some (nM e 1 3))) λl=>bd (bY (α:=ByteArray×List AH×Int×Int×List AZ×List Int) FUEL (λz (b:(Nat×ByteArray×List AH×Int×Int×List AZ×List Int))=>bif (↑b.1:Int)<v.2.1.length then bd (bB v.2.1 ↑b.1) λs=>bd (gd ((aA ↑d.2).size<=34359738300) (some (eG s.Store (aA ↑d.2) ↑b.1))) λp=>bd (gd ((AF.mk b.2.1 b.2.2.1 (AR.mk b.2.2.2.1 b.2.2.2.2.1 b.2.2.2.2.2.1) b.2.2.2.2.2.2).sz<=34359738300) (some (eQ (AF.mk b.2.1 b.2.2.1 (AR.mk b.2.2.2.1 b.2.2.2.2.1 b.2.2.2.2.2.1) b.2.2.2.2.2.2) 1 ↑b.1 p))) λc=>z ((b.1+1),c.1.Name,c.1.Accounts,c.1.Book.Seed,c.1.Book.Next,c.1.Book.Open,c.1.Logins) else some b.2) (0,l.1.Name,l.1.Accounts,l.1.Book.Seed,l.1.Book.Next,l.1.Book.Open,l.1.Logins)) λa=>gd (aZ d.1 [AF.mk a.1 a.2.1 (AR.mk a.2.2.1 a.2.2.2.1 a.2.2.2.2.1) a.2.2.2.2.2]) (some (d.1++[AF.mk a.1 a.2.1 (AR.mk a.2.2.1 a.2.2.2.1 a.2.2.2.2.1) a.2.2.2.2.2]))) λu=>y (u,(d.2+1)) else some d.1) ([],0)) λx=>bd (bY (α:=List AB) FUEL (λA (h:(Nat×List AB))=>bif (↑h.1:Int)<n then bd (bB h.2 ↑h.1) λm=>bd (gd (m.sz<=34359738368/\v.1.length<=34359738368) (some (jN m v.1 (bF seed 0)))) λe=>bd (bB h.2 ↑h.1) λl=>A ((h.1+1),h.2.set (↑h.1:Int).toNat e.1) else some h.2) (0,v.2.1)) λJ=>bd (bY (α:=List AB) FUEL (λB (q:(Nat×List AB))=>bif (↑q.1:Int)<2 then bd (bY (α:=List AB) FUEL (λD (i16:(Nat×List AB))=>bif (↑i16.1:Int)<n then bd (bB i16.2 0) λa=>bd (gd (a.sz<=34359738360/\(aA ↑q.1).size<=34359738300) (some (bO a (aA ↑q.1) ↑i16.1 false))) λF=>bd (bB i16.2 0) λs=>D ((i16.1+1),i16.2.set (0:Int).toNat F.1) else some i16.2) (0,q.2)) λe=>B ((q.1+1),e) else some q.2) (0,J)) λu=>bd (bB u 0) λm=>bd (gd (m.sz<=34359738368) (some (bZ m))) λe=>bd (bB u 0) λl=>bd (gd (w.1.sz<=34359738300/\e.2.1.sz<=34359738300) (some (bM w.1 e.2.1))) λa=>bd (bY (α:=List AB) FUEL (λG (j:(Int×List AB))=>bif j.1<n then bd (bB j.2 j.1) λp=>bd (gd (p.sz<=34359738100/\a.1.sz<=34359738100) (some (bQ p a.1.Log a.1.Boxes (eF a.1 0).1))) λc=>bd (bB j.2 j.1) λr=>G (IntKind.i64.wrap (j.1+1),j.2.set j.1.toNat c.1) else some j.2) ((1:Int),u.set (0:Int).toNat e.1)) λF=>bd (bY (α:=List Int) FUEL (λH (o:(List Int×Int))=>bif o.2<t then bd (gd ([(307:Int),o.2].length<=34359738300) (some (aV seed [307,o.2]))) λc=>gd (aZ o.1 [c]) (H (o.1++[c],IntKind.i64.wrap (o.2+1))) else some o.1) ([],(1:Int))) λs=>bd (gd ([(283:Int)].length<=34359738300) (some (aV seed [283]))) λp=>bd (gd ([(293:Int)].length<=34359738300) (some (aV seed [293]))) λc=>gd ((1018:Int)≠(0:Int)) (bd (gd (s.length<=34359738368) (some (Ha pin 7 p (IntKind.i64.wrap ((1:Int)+c.tmod (1018:Int))) s k 5))) λr=>some (K,L,M,(0:Int),seed,F,v.2.2,a.1.Log,a.1.Boxes.Epoch,a.1.Boxes.Boxes,a.1.History,x,r.1.Salt,r.1.Threshold,r.1.Check,r.1.Masked,r.2.1,pin,[]))
def bPb (n k t pin seed:Int)(u:List Int)(v w:Int):bH5 n k t pin seed u v w=some (u,v,w,wT (bI n k t pin seed)):=by
 unfold bH5 bI yX;cases h1:bX n 1 3 with
 |false=>rfl
 |true=>
 cases h2:bX k 1 7 with
 |false=>rfl
 |true=>
 cases F:bX t 1 k with
 |false=>rfl
 |true=>
 cases O:bX pin 0 9999 with
 |false=>rfl
 |true=>
 cases T:bL seed with
 |false=>rfl
 |true=>
 have hn:=iA h1;have hk:=iA h2;have ht:=iA F;obtain⟨N,rfl⟩:∃N:Nat,n=(N:Int):=⟨n.toNat,by omega⟩;rw[bo];have f:1<=N/\N<=3:=by omega
 have W:=qU seed N;have X:=aPm seed N;have Z:=aPn seed N;simp only[ax,ae,dl,ac,bd_s,bWj,bX3];rw[Vj (r:=(aX seed N,dO seed N,List.replicate N false)) (λi=>(aX seed i,i,dO seed i,List.replicate i false)) N (s:=([],0,[],[])) (by omega) (λrec i hi=>by
  have z:=bKo seed i;have e3:=qU seed i;have e4:=Vk seed i;rw[aD8] at z;simp only[dS hi,ac,aD (show aZ (dO seed i) [bH (aO seed (i:Int))] from bSa (by omega) (by simp)),aD (show aZ (List.replicate i false) [false] from bSa (by rw[fj];omega) (by simp)),z,bd_s,aD (show(aX seed i).length<=34359738300 by omega),aD8,List.replicate_succ'];rfl) (λrec=>by simp only[M3,ae]) rfl]
 have G:(bC (aX seed N) (bF seed 0) 1000).1=gM seed N:=rfl;simp only[bd_s,aD (show(aX seed N).length<=34359738300 by omega),G,aD (show(aX seed N).length<=34359738368/\(gM seed N).sz<=34359738368 from⟨by omega,by omega⟩)];have A:=Vk seed N;rw[Vj (r:=Ae (dO seed N) seed) (λj=>((Ae (dO seed N) seed).take j,j)) 2 (s:=([],0)) (by omega) (λrec j hj=>by
  have hs:=aKx (j:Int);have h6:=aKl (aA (j:Int)) (aV seed [281,(j:Int)]);have h7:=aPo (gT (aA (j:Int)) (aV seed [281,(j:Int)])) 1 3;simp only[au (show(j:Int)<2 by omega),ac,aD (show[281,(j:Int)].length<=34359738300 by simp),bd_s,aD (show(aA (j:Int)).size<=34359738368 by omega),aD (show(gT (aA (j:Int)) (aV seed [281,(j:Int)])).sz<=34359738300 by omega)];rw[bKp (nm:=aA (j:Int)) (l:=dO seed N) (s0:=(nM (gT (aA (j:Int)) (aV seed [281,(j:Int)])) 1 3).1) (by omega) (by omega) (λrec i hi s hsz=>by
   simp only[dS hi,ac,aQ hi,bd_s,aD (show(aA (j:Int)).size<=34359738300 by omega),bH4,aD (show s.sz<=34359738300 by omega)]) (λrec s=>by simp only[M3,ae])]
  have H:((Ae (dO seed N) seed).take j).length<=1000:=by rw[cp];omega
  have h:∀x:AF,aZ ((Ae (dO seed N) seed).take j) [x]:=λx=>bSa H (by simp);simp only[bd_s,bH4,aD (h _)];have m:j=0\/j=1:=by omega
  rcases m with rfl|rfl<;>rfl) (λrec=>by rfl) rfl]
 simp only[bd_s];have a:∀d∈dO seed N,d.sz=0:=λd hd=>by
  simp only[dO,ct] at hd;obtain⟨i,_,rfl⟩:=hd;rfl
 rw[show(0,dO seed N)=((λi:Nat=>i) ([]:List AB).length,([]:List AB)++dO seed N) from rfl,bO8 (λi:Nat=>i) (p0:=[]) (l:=dO seed N) (yU seed N) (by omega) (λrec p d r hp hd=>by
  have h0:=a d hd;simp only[bm] at hp;simp only[dS (show p.length<N by omega),ac,bDb,bd_s,aD (show d.sz<=34359738368/\(aX seed N).length<=34359738368 from⟨by omega,by omega⟩),bo,set_mid rfl,ck,fh];rfl) (λrec p hp=>by
  simp only[bm,A,cy,M3,ae])]
 obtain⟨R,c⟩:∃R,R=((dO seed N).drop 1).map (yU seed N):=⟨_,rfl⟩;have hm:(dO seed N).map (yU seed N)=yU seed N (bH (aO seed 0))::R:=by have:=congrArg (List.map (yU seed N)) (aZq seed N f.1);rw[this,c];rfl
 have I:R.length=N-1:=by rw[c,bj,cF,A]
 have o:∀d∈R,d.sz<=10:=λd hd=>by
  rw[c,ct] at hd;obtain⟨x,e,rfl⟩:=hd;have h0:=a x (dg e);have:=aNj seed N x;omega
 have J:=aNj seed N (bH (aO seed 0));rw[aGx] at J;have hq:∀x:AB,bB (x::R) 0=some x:=λx=>rfl;rw[bu,hm,bd_s,bKr (n:=N) (d:=yU seed N (bH (aO seed 0))) (r:=R) f.2 (by omega) (λrec j x hj e=>by
  simp only[au (show(j:Int)<2 by omega),ac];rw[bKq (nm:=aA (j:Int)) (n:=N) (d:=x) (r:=R) f.2 e (λrec i x hi e=>by
   have hs:=aKx (j:Int);simp only[dS hi,ac,hq,bd_s,aD (show x.sz<=34359738360/\(aA (j:Int)).size<=34359738300 from⟨by omega,by omega⟩)];rfl) (λrec x=>by simp only[M3,ae])]
  simp only[bd_s]) (λrec x=>by rfl)]
 have K:aXz N (yU seed N (bH (aO seed 0))) 2=lX seed N:=rfl;have B:bZ (lX seed N)=nwW seed N:=rfl;have hc:(bM (dF (aX seed N) (gM seed N)).1 (nwW seed N).2.1).1=iQ seed N:=rfl;have hF:=aPl seed N;have D:=zH (lX seed N);rw[B] at D;have L:=Sl (aX seed N) (gM seed N);have b:∀x y:AB,(x::R).set (0:Int).toNat y=y::R:=λ_ _=>rfl;simp only[bd_s,K,hq,aD (show(lX seed N).sz<=34359738368 by omega),B,aD (show(dF (aX seed N) (gM seed N)).1.sz<=34359738300/\(nwW seed N).2.1.sz<=34359738300 from⟨by omega,by have:=D.2;simp only[AI.sz];omega⟩),hc,b];rw[show((1:Int),(nwW seed N).1::R)=((λi:Nat=>(i:Int)) ([(nwW seed N).1]:List AB).length,[(nwW seed N).1]++R) from rfl,bO8 (λi:Nat=>(i:Int)) (p0:=[(nwW seed N).1]) (l:=R) (λd=>(bQ d (iQ seed N).Log (iQ seed N).Boxes (eF (iQ seed N) 0).1).1) (by omega) (λrec p d r hp hd=>by
  have h0:=o d hd;simp only[aw,bm] at hp;simp only[dS (show p.length<N by omega),ac,bDb,bd_s,aD (show d.sz<=34359738100/\(iQ seed N).sz<=34359738100 from⟨by omega,by omega⟩),bo,set_mid rfl,ck,fh,aM (show-9223372036854775808<=(p.length:Int)+1 by omega) (show(p.length:Int)+1<=9223372036854775807 by omega)];rfl) (λrec p hp=>by
  simp only[show([(nwW seed N).1]:List AB).length+R.length=N by simp only[aw,bm];omega,M3,ae])]
 have M:[(nwW seed N).1]++R.map (λd=>(bQ d (iQ seed N).Log (iQ seed N).Boxes (eF (iQ seed N) 0).1).1)=kD seed N:=by rw[c,gE];show(nwW seed N).1::_=(nwW seed N).1::_;congr 1;exact gj λd _=>bQ4 seed N d
 rw[M];simp only[bd_s];rw[bFq (seed:=seed) (t:=t) ⟨by omega,by omega⟩ (λrec s i h0 h1 h2=>by
  have h:∀x:Int,aZ s [x]:=λx=>bSa (by omega) (by simp);simp only[aD (show([307,i]:List Int).length<=34359738300 by simp),bd_s,aD (h _),aM (show-9223372036854775808<=i+1 by omega) (show i+1<=9223372036854775807 by omega)])]
 have q:(N7 seed t).length<=34359738368:=by simp only[N7,bj,gq];omega
 simp only[bd_s,aD (show([283]:List Int).length<=34359738300 by simp),aD (show([293]:List Int).length<=34359738300 by simp),aD (show(1018:Int)≠0 by decide),aD q];rfl
def bKu (w:AA)(d j:Int)(o:AS):(dV w d j o).1.Now=w.Now:=by
 unfold dV;cases !dM w d j with
 |true=>rfl
 |false=>
  cases !(gZ w j).2.2.2 with
  |true=>rfl
  |false=>cases !((Ac w d j o).2.1==0)<;>rfl
def bPc (w:AA)(d:Int)(n:ByteArray)(a:Int)(r:Bool):(lS w d n a r).1.Now=w.Now:=by
 unfold lS;cases aR w&&aK w d with
 |false=>rfl
 |true=>cases(bO (aG w d) n a r).2<;>rfl
def aX1 (w:AA)(b k p:Int)(key:List AD->Int):(fV w b k p key).1.Now=w.Now:=by unfold fV;simp only[];generalize bP w.aAA.Log k p (aG w b).Store=l;generalize bC l.1 (key l.1) (IntKind.i64.wrap (1000+IntKind.i64.wrap (10*(l.1.length:Int))))=e;cases l.2&&(e.2&&(gG w.aAA l.1 e.1).2)<;>rfl
def aEe (w:AA)(d b:Int):(aF w d b).1.Now=w.Now:=(fP w d b).2.1
def bDc (w:AA)(d:Int):(dI w d).1.Now=w.Now:=(rQ w d).2.1
def bSc (w:AA)(b:Int):(cK w b).1.Now=w.Now:=by
 unfold cK;cases xL w b with
 |false=>rfl
 |true=>
  show(wY w b).1.Now=w.Now;have a:(nL w b).1.Now=w.Now:=by unfold nL;rw[bDc];exact(aX1 _ _ _ _ _).trans (aEe _ _ _)
  unfold wY
  first
   |exact a
   |exact(aEe _ _ _).trans a
def bKv (w:AA)(d:Int):(gP w d).1.Now=w.Now:=by unfold gP;cases dM w d 0&& !dE w d<;>rfl
def bSd (w:AA)(b t:Int):(bE w b t).1.Now=w.Now:=by
 unfold bE;generalize((aF w b 0).2==0&&(!dE w b&&(!(b==t)&&bK w t)))=q;cases q with
 |false=>rfl
 |true=>
  show(kR w b t).1.Now=w.Now;have h1:(jO w b t).1.Now=w.Now:=(aX1 _ _ _ _ _).trans (aEe _ _ _);have a:(sN w b t).1.Now=w.Now:=(aZa _ _).2.1.trans h1;unfold kR;cases(jO w b t).2&&((vI w b t).2&&(sN w b t).2) with
  |false=>rfl
  |true=>exact a
def bFt (w:AA)(d j:Int):(pQ w d j).1.Now=w.Now:=by
 unfold pQ;cases dM w d j&& !dE w d with
 |false=>rfl
 |true=>exact bKu ..
def bFu {w:AA}(h:CldOk w.aAA)(d j:Int):CldOk (pQ w d j).1.aAA:=by
 unfold pQ;cases dM w d j&& !dE w d with
 |false=>exact h
 |true=>exact bKg h ..
def bPd {w:AA}(h:CldOk w.aAA)(d b:Int):CldOk (aF w d b).1.aAA:=by rw[(fP w d b).2.2.2.2.2];exact h
def bFv (k e v:Int)(b:AC):aT (kK k e v b).1.Data/\(kK k e v b).1.Data.length<=500:=by
 refine⟨?_,aWv k e v b⟩;unfold kK;cases bL k&&(bX e 0 1000000&&bX v 0 1000000)&&aP b with
 |false=>exact⟨by show 0<=_;omega,rfl⟩
 |true=>refine aCt ?_;have:=Ii b;omega
structure Wv (i:Nat) (w:AA):Prop where
 inn:WIn w.Devices.length w
 now:w.Now<=(i:Int)
 sz:w.sz<=100000+3000*i
 cld:CldOk w.aAA
def Wv.next {i:Nat}{w v:AA}(h:Wv i w)(k:Kept w v)(n:v.Now=w.Now)(c:CldOk v.aAA):Wv (i+1) v:=
 ⟨k.wi,by rw[n];have:=h.now;omega,by have:=h.sz;have:=k.sz;omega,c⟩
def PW (p:AA->Prop)(r:List Int×Int×Int×WU):Prop:=∃c w,bD c/\p w/\r=(c.b,c.i,c.h,wT w)
def aEf {k i:Nat}(h:i<k):decide ((k:Int)-(i:Int)>0)=true:=by simp;omega
def aZt {k:Nat}:decide ((k:Int)-(k:Int)>0)=false:=by simp
def aZu {k i:Nat}(h:k<=1000)(h1:i<k):IntKind.i64.wrap ((k:Int)-(i:Int)-1)=(k:Int)-((i+1:Nat):Int):=by rw[aM (by omega) (by omega)];omega
def bX5 (l:List Int):Ex (bY (α:=Int) FUEL (λb (a:(Int×Int))=>bd (bif a.2<(l.length:Int) then some (decide (a.2<4000)) else some false) λz2=>bif z2 then bd (bB l a.2) λc=>b (pI IntKind.i64 (IntKind.i64.wrap (IntKind.i64.wrap (IntKind.i64.wrap (a.1*137)+IntKind.i64.wrap c)+11)) (1073741823:Int),IntKind.i64.wrap (a.2+1)) else some a.1) (IntKind.i64.wrap ((193017:Int)+(l.length:Int)),(0:Int))) λ_=>True:=by
 refine bKt (λi (s:Int×Int)=>s.2=(i:Int)) (min l.length 4000) (by omega) rfl (λi s rec hi hv=> ?_) (λs rec hv=> ?_)
 ·obtain⟨x,y⟩:=s;have hv:y=(i:Int):=hv;subst hv;simp only[au (show(i:Int)<(l.length:Int) by omega),au (show(i:Int)<4000 by omega),ac,bd_s,aQ (show i<l.length by omega)];exact bKs (by show IntKind.i64.wrap ((i:Int)+1)=((i+1:Nat):Int);rw[aM (by omega) (by omega)];omega)
 ·obtain⟨x,y⟩:=s;have hv:y=((min l.length 4000:Nat):Int):=hv;subst hv;refine bdE (λr=>r=false) (vM (λq=>gN ?_) λ_=>gN rfl) λr hr=>by subst hr;exact gN trivial
  have q:=of_decide_eq_true q;exact av (by omega)
def Wv.tick {i:Nat}{w:AA}(h:Wv i w)(hi:i<5):Wv (i+1) {w with Now:=IntKind.i64.wrap (w.Now+1)}:=by have h0:=h.inn.now;have hn:=h.now;have e:IntKind.i64.wrap (w.Now+1)=w.Now+1:=aM (by omega) (by omega);rw[e];exact⟨⟨h.inn.seed,show 0<=w.Now+1/\w.Now+1<=999900 by omega,h.inn.dlen,h.inn.slen,h.inn.dev,h.inn.two,h.inn.mle,h.inn.site,h.inn.mail,h.inn.log⟩,by show w.Now+1<=_;omega,by have:=h.sz;show w.sz<=_;omega,h.cld⟩
def bKw {w:AA}{c:AM}:({w with aAA:=c}:AA).sz<=w.sz+c.sz:=by simp only[AA.sz,AM.sz];omega
def bSe {α:Type}(f:α->Nat)(l:List α)(n:Nat):((l.take n).map f).sum<=(l.map f).sum:=by
 have:(l.map f).sum=((l.take n).map f).sum+((l.drop n).map f).sum:=by rw[<-List.sum_append,<-ey,cL]
 omega
def aZv {l:List AD}{b:AK}(h:aY9 b):CldOk (dF l b).1:=by
 unfold dF;cases aU l&&fQ b l with
 |true=>exact⟨⟨h,λs hs=>absurd hs dx⟩, .nil⟩
 |false=>exact⟨⟨λs hs=>absurd hs dx,λs hs=>absurd hs dx⟩, .nil⟩
def bSf {l:List Int}(hb:bJo l=false):l.length<=1048576:=by unfold bJo at hb;rw[cR] at hb;omega
def eqT {w:AA}(a:w.sz<=34359738368)(h:CldOk w.aAA):qO w.sz w w/\w.sz<=34359738368/\Ah w.aAA:=⟨⟨rfl,by omega⟩,a,h.bytes⟩
end
end Go.VK
set_option maxRecDepth 100000
set_option maxHeartbeats 4000000
namespace Go.VK
open Go.RowKit Go.Proofs D
noncomputable section
open EV (bY)
def Wd (i:Nat)(w:AA):Prop:=Wv i w/\DrW i w
def bX6 {n k t pin seed:Int}{c:AQ}(hc:bD c)(hs:1<=seed/\seed<=1000)(h:yX n k t pin seed=true):Ex (bH5 n k t pin seed c.b c.i c.h) (PW (Wd 0)):=by rw[bPb];obtain⟨a,d,e⟩:=Sw h;have f:=bB8 n k t pin seed;refine gN ⟨c,bI n k t pin seed,hc,⟨⟨by rw[d];exact a,?_,by omega,bRw⟩,DrW.new h hs⟩,rfl⟩;unfold bI;rw[h];exact cJ _
def bPe (r:AA×Int×Int):Prop:=∃w0 w d b,r=(w,d,b)/\DrW 4 w0/\aZf w0 w/\w.sz<=1000000/\CldOk w.aAA
def tailA {w:AA}(e:DrW 4 w){W:AA}(f:aZf w W){c:AQ}{n:Int}(hc:bD c)(h:W.sz<=1000000)(hd:CldOk W.aAA):
  Ex (bd (gd (bD c) (some (bW c n))) λd=>bd (gd (bD d.1) (some (bW d.1 4))) λj=>some (W,IntKind.i64.wrap (d.2-1),IntKind.i64.wrap (j.2-1))) bPe:=
 blE hc λk l h1 _ _=>blE h1 λm o h2 a b=>gN ⟨w,W,_,_,rfl,e,f,h,hd⟩
def bX7 {m:AP}(h:m.Notices.length<=34359738368):Ex (mY m) λr=>r.1.Notices.length=m.Notices.length:=by
 unfold mY;refine bgE h (bdE (λr=>r.2.length=m.Notices.length) ?_ λr hr=>gN hr);refine bKt (λi (s:List AU×Nat×List AU)=>∃a ns,a.length<=i/\ns.length=m.Notices.length/\s=(a,i,ns)) m.Notices.length (by omega) ⟨[],m.Notices,ak _,rfl,rfl⟩ (λi s rec hi hv=> ?_) (λs rec hv=> ?_)
 ·obtain⟨a,ns,h1,h2,rfl⟩:=hv;refine bPa (dS hi) (bdS (λr=>r.1.length<=i+1/\r.2.length=m.Notices.length) (bdE (λr=>r.length<=i+1) ?_ λr hr=> ?_) λr hr=>bKs ⟨r.1,r.2,hr.1,hr.2,rfl⟩)
  ·show Ex (bd (bB m.Notices (i:Int)) _) _;rw[aQ hi];refine bdE (λ_=>True) (gN trivial) λr _=> ?_
   refine vM (λ_=> ?_) λ_=>gN (show a.length<=i+1 by omega);exact gdE (by unfold aZ;show a.length+1<=_;omega) (gN (by simp only[ay,cx];omega))
  ·show Ex (bd (bB ns (i:Int)) _) _;rw[aQ (by omega)];exact gN ⟨hr,by simp only[ao];exact h2⟩
 ·obtain⟨a,ns,h1,h2,rfl⟩:=hv;exact vM (λq=>absurd (q.symm.trans M3) (by decide)) λ_=>gN h2
def bZ1 {c:AQ}(h:bD c):Ex (vX c 10) λr=>bD r.1/\r.2.length<=10/\oU r.2:=by
 unfold vX;refine bdE (λr=>∃(c:AQ) (l:List AD),bD c/\(l.length<=10/\oU l)/\r=(l,c.b,c.i,c.h)) ?_ λr hr=> ?_
 ·refine blE h λt v h1 a b=> ?_;have b:=b (by decide);obtain⟨k,rfl⟩:∃k:Nat,v=(k:Int):=⟨v.toNat,by omega⟩;refine bKt (λi (s:List AD×Int×List Int×Int×Int)=>∃(c:AQ) (l:List AD),bD c/\(l.length<=i/\oU l)/\s=(l,(k:Int)-(i:Int),c.b,c.i,c.h)) k (by omega) ⟨t,[],h1,⟨ak _,λe he=>absurd he dx⟩,by simp⟩ (λi s rec hi hv=> ?_) (λs rec hv=> ?_)
  ·obtain⟨c,l,q1,⟨q2,f⟩,rfl⟩:=hv;refine bPa (aEf hi) (bdS (λr=>∃(c:AQ) (l:List AD),bD c/\(l.length<=i+1/\oU l)/\r=(l,c.b,c.i,c.h)) ?_ λr hr=> ?_)
   ·refine blE q1 λH u w x y=>blE w λA I p _ _=>bdE (λ_=>True) (vM (λ_=>gN trivial) λ_=>gN trivial) λJ _=> ?_;refine bdE (λr=>∃(n:Int) (c:AQ),bD c/\r=(n,c.b,c.i,c.h)) (bdE (λr=>∃(n:Bool) (c:AQ),bD c/\r=(n,c.b,c.i,c.h)) (vM (λ_=>onE p λB D F=>gN ⟨D,B,F,rfl⟩) λ_=>gN ⟨_,A,p,rfl⟩) ?_) ?_
    ·rintro _ ⟨n,c,hc,rfl⟩;exact vM (λ_=>gN ⟨_,c,hc,rfl⟩) λ_=>gN ⟨_,c,hc,rfl⟩
    ·rintro _ ⟨n,c,hc,rfl⟩;refine bdE (λz=>z=aXj u) (by unfold nN;exact gN rfl) λj G=>bdE (λ_=>True) (by unfold nN;exact gN trivial) λd _=>bgE (show l.length<=34359738300 by omega) (gN ⟨c,_,hc,?_,rfl⟩);have:=mW l n (aS j) d;refine⟨by show(bP l n (aS j) d).1.length<=_;omega,?_⟩;show oU (bP l n (aS j) d).1;rw[G];exact bR3 f ⟨x,y (by decide)⟩ n d
   ·obtain⟨c,l,m,o,rfl⟩:=hr;exact bKs ⟨c,l,m,o,by show(l,IntKind.i64.wrap ((k:Int)-(i:Int)-1),c.b,c.i,c.h)=_;rw[aZu (by omega) hi]⟩
  ·obtain⟨c,l,q1,⟨q2,f⟩,rfl⟩:=hv;exact vM (λq=>absurd (q.symm.trans aZt) (by decide)) λ_=>gN ⟨c,l,q1,⟨by omega,f⟩,rfl⟩
 ·obtain⟨c,l,m,o,rfl⟩:=hr;exact gN ⟨m,o⟩
def bZ2 {c:AQ}{l:List ByteArray}(h:bD c)(h0:0<l.length):Ex (zA c l) λr=>bD r.1/\r.2∈l:=by
 unfold zA;refine blE h λd v h1 a b=> ?_
 have b:=b (by omega);show Ex (bd (bB l v) _) _;rw[mO a (by omega)];exact gN ⟨h1,cf _⟩
def bKx {l:List Int}(hl:l.length<=1048576):Ex (mZ l) bPe:=by
 unfold mZ;refine bdE (λ_=>True) (bX5 l) λz0 _=> ?_
 refine blE (c:=AQ.mk l 0 z0) ⟨cJ _,hl⟩ λc1 O h1 a1 b1=> ?_;have b1:=b1 (by decide);refine bdE (PW (Wd 0)) (blE h1 λc3 v3 h3 a3 b3=>blE h3 λR H u a4 z=>blE u λc5 v5 I a5 b5=>blE I λJ a K a6 b6=> ?_) ?_
 ·have b3:=b3 (by decide);have b5:=b5 (by decide);have b6:=b6 (by decide);show Ex (bH5 (IntKind.i64.wrap ((1:Int)+v3)) (IntKind.i64.wrap ((1:Int)+O)) (IntKind.i64.wrap ((1:Int)+H)) v5 (IntKind.i64.wrap ((1:Int)+a)) J.b J.i J.h) _;refine bX6 K (by rw[aM (by omega) (by omega)];omega) ?_;have z:0<IntKind.i64.wrap (1+O)->H<IntKind.i64.wrap (1+O):=z;rw[aM (show-9223372036854775808<=1+O by omega) (by omega)] at z ⊢;have z:=z (by omega);rw[aM (show-9223372036854775808<=1+v3 by omega) (by omega),aM (show-9223372036854775808<=1+H by omega) (by omega),aM (show-9223372036854775808<=1+a by omega) (by omega)];unfold yX;rw[show bL (1+a)=true from iK (by omega) (by omega),iK (show(1:Int)<=1+v3 by omega) (by omega),iK (show(1:Int)<=1+O by omega) (by omega),iK (show(1:Int)<=1+H by omega) (by omega),iK a5 (by omega)];rfl
 rintro _ ⟨c,w,hc,f,rfl⟩;refine bdE (PW λw=>(w.sz<=200000/\CldOk w.aAA/\w.Sites.length=2)/\DrW 4 w) ?_ ?_
 ·refine blE hc λR H u a4 z=> ?_;have z:=z (by decide);obtain⟨k,rfl⟩:∃k:Nat,H=(k:Int):=⟨H.toNat,by omega⟩;refine bKt (λi (s:Int×List Int×Int×Int×WU)=>∃c w,bD c/\Wd i w/\s=((k:Int)-(i:Int),c.b,c.i,c.h,wT w)) k (by omega) ⟨R,w,u,f,by simp⟩ (λi s rec hi hv=> ?_) (λs rec hv=> ?_)
  ·obtain⟨c,w,hc,f,rfl⟩:=hv;have n:=f.2;have f:=f.1;have M:w.sz<=120000:=by have:=f.sz;omega
   refine bPa (aEf hi) (blS hc λJ a K a6 b6=>bdS (PW (Wd (i+1))) (blE K λT v8 y a8 b8=> ?_) ?_)
   ·refine vM (λ_=> ?_) λ_=>vM (λ_=> ?_) λ_=>vM (λ_=> ?_) λ_=>bdE (λ_=>True) (vM (λ_=>gN trivial) λ_=>gN trivial) λq9 _=>vM (λ_=> ?_) λ_=>vM (λ_=> ?_) λ_=>vM (λ_=> ?_) λ_=>vM (λ_=> ?_) λ_=> ?_
    ·exact bgE (show w.sz<=34359738368 by omega) (gN ⟨T,(gP w a).1,y,⟨f.next (.of (f.inn.aBJ a) (by rw[bN2];omega)) (bKv w a) (bKh f.cld a),n.aBJ a⟩,rfl⟩)
    ·refine blE y λc9 A B _ _=>bgE (show w.sz<=34359738200 by omega) (gN ⟨c9,(pQ w a A).1,B,⟨f.next ?_ (bFt w a A) (bFu f.cld a A),n.person a A⟩,rfl⟩);exact bNx f.inn _ _ _ _
    ·refine bdE _ (bZ2 y (by decide)) λr9 B=>blE B.1 λp d o X Z=>onE o λD j x=>bgE ⟨show w.sz<=34359738300 by omega,by have:=(bS4 B.2 ⟨X,Z (by decide)⟩).2;omega⟩ (gN ⟨D,(lS w a r9.2 d j).1,x,⟨f.next ?_ (bPc ..) (bOp f.cld ..),n.aCH (by omega) a (bS4 B.2 ⟨X,Z (by decide)⟩).1 j⟩,rfl⟩);exact .of ⟨f.inn.aCH a r9.2 d j,zJ w a r9.2 d j⟩ (by have:=bNv w a r9.2 d j;omega)
    ·refine bgE (show w.sz<=10000000000 by omega) (gN ⟨T,(dI w a).1,y,⟨f.next ?_ (bDc ..) (bCv f.cld ..),n.push (by omega) a⟩,rfl⟩);exact .of ⟨f.inn.push a,(rQ w a).1,(rQ w a).2.2.1⟩ (by have:=bNw f.inn a;omega)
    ·refine bgE (show w.sz<=100000000 by omega) (gN ⟨T,(cK w a).1,y,⟨f.next ?_ (bSc ..) (bRu f.cld ..),n.add (by omega) a⟩,rfl⟩);exact⟨(f.inn.add a).1,(f.inn.add a).2,by have:=add_add f.inn a;omega⟩
    ·refine blE y λp d o _ _=>bgE (show w.sz<=100000000 by omega) (gN ⟨p,(bE w a d).1,o,⟨f.next ?_ (bSd ..) (bRv f.cld ..),n.cut (by omega) a d⟩,rfl⟩);exact .of (f.inn.cut a d) (by have:=bRf f.inn a d;omega)
    ·exact gN ⟨T,{w with Now:=IntKind.i64.wrap (w.Now+1)},y,⟨f.tick (by omega),n.now (by have h1:=f.inn.now;have h2:=f.now;rw[aM (by omega) (by omega)];omega)⟩,rfl⟩
    ·refine blE y λp d o _ _=>bgE (show w.sz<=34359738100 by omega) (gN ⟨p,(aF w a d).1,o,⟨f.next ?_ (aEe ..) (bPd f.cld ..),n.sync (by omega) a d⟩,rfl⟩);exact .of ⟨f.inn.sync a d,(fP w a d).1,(fP w a d).2.2.1⟩ (by have:=bCj f.inn a d;omega)
   ·rintro _ ⟨c,w,hc,f,rfl⟩;exact bKs ⟨c,w,hc,f,by show(IntKind.i64.wrap ((k:Int)-(i:Int)-1),c.b,c.i,c.h,wT w)=_;rw[aZu (by omega) hi]⟩
  ·obtain⟨c,w,hc,f,rfl⟩:=hv;exact vM (λq=>absurd (q.symm.trans aZt) (by decide)) λ_=>gN ⟨c,w,hc,⟨⟨by have:=f.1.sz;omega,f.1.cld,f.1.inn.two⟩,f.2.mono (by omega)⟩,rfl⟩
 rintro _ ⟨c,w,hc,⟨⟨M,hd,ho⟩,n⟩,rfl⟩;have hdl:=n.all.wi.dlen;have hsl:=n.all.wi.slen;refine blE hc λR H u a4 z=>vM (λ_=> ?_) λ_=>vM (λ_=> ?_) λ_=>vM (λ_=> ?_) λ_=>vM (λ_=> ?_) λ_=>vM (λ_=> ?_) λ_=>vM (λ_=> ?_) λ_=>vM (λ_=> ?_) λ_=> ?_
 ·exact inE u (by decide) λc5 v5 I _=>tailA n (.inl ⟨v5,w.Seed,w.Mail,rfl⟩) (W:={w with Now:=v5}) I (by show w.sz<=_;omega) hd
 ·exact gdE (by unfold jW;show(0:Int)<=0/\_;omega) (tailA n (.inr (.inl (bHo (by show(w.Stolen.take 0).length≠w.Devices.length;rw[cp];omega)))) (W:={w with Stolen:=w.Stolen.take 0}) u (by simp only[AA.sz] at M ⊢;simp only[cp];omega) hd)
 ·refine gdE (show jW w.Sites 1 from⟨by decide,by show 1<=_;omega⟩) (tailA n (.inr (.inl (bR4 (by show(w.Sites.take 1).length≠2;rw[cp];omega)))) (W:={w with Sites:=w.Sites.take 1}) u ?_ hd);have e:=bSe AF.sz w.Sites 1;simp only[AA.sz] at M ⊢;simp only[cp,show(1:Int).toNat=1 from rfl] at*;omega
 ·refine bdE (λr=>∃(c:AQ) (m:List AU),bD c/\m.length<=1000/\r=(c.b,c.i,c.h,m)) (inE u (by decide) λJ a K m6=> ?_) ?_
  ·obtain⟨k,rfl,hk⟩:∃k:Nat,a=(k:Int)/\k<=32:=⟨a.toNat,by simp at m6;omega,by simp at m6;omega⟩;refine bKt (λi (s:Int×Int×List Int×Int×Int×List AU)=>∃(t:Int) (c:AQ) (m:List AU),bD c/\m.length<=i/\s=(t,(k:Int)-(i:Int),c.b,c.i,c.h,m)) k (by omega) ⟨0,J,[],K,ak _,by simp⟩ (λi s rec hi hv=> ?_) (λs rec hv=> ?_)
   ·obtain⟨t,c,m,hc,hm,rfl⟩:=hv;refine bPa (aEf hi) (bdS (λr=>∃(t:Int) (c:AQ) (m:List AU),bD c/\m.length<=i+1/\r=(t,c.b,c.i,c.h,m)) ?_ ?_)
    ·refine blE hc λc9 A B _ _=>blE B λp d o _ _=>blE o λD j x _ _=>bgE (show m.length<=34359738300 by omega) (onE x λL v F=> ?_);have hs:(nK (AP.mk m) (IntKind.i64.wrap ((1:Int)+d)) j (IntKind.i64.wrap (t+A))).1.Notices.length<=m.length+1:=bG7 (AP.mk m) (IntKind.i64.wrap ((1:Int)+d)) j (IntKind.i64.wrap (t+A));exact vM (λ_=>bdE _ (bX7 (by show(nK (AP.mk m) (IntKind.i64.wrap ((1:Int)+d)) j (IntKind.i64.wrap (t+A))).1.Notices.length<=_;omega)) λz14 h14=>gN ⟨_,L,_,F,bz (Nat.le_of_eq h14) (bz hs (by omega)),rfl⟩) λ_=>gN ⟨_,L,_,F,bz hs (by omega),rfl⟩
    ·rintro _ ⟨t,c,m,hc,hm,rfl⟩;exact bKs ⟨t,c,m,hc,hm,by show(t,IntKind.i64.wrap ((k:Int)-(i:Int)-1),c.b,c.i,c.h,m)=_;rw[aZu (by omega) hi]⟩
   ·obtain⟨t,c,m,hc,hm,rfl⟩:=hv;exact vM (λq=>absurd (q.symm.trans aZt) (by decide)) λ_=>gN ⟨c,m,hc,by omega,rfl⟩
  rintro _ ⟨c,m,hc,hm,rfl⟩;refine bdE (λr=>∃(c:AQ) (m:List AU),bD c/\m.length<=1001/\r=(c.b,c.i,c.h,m)) (blE hc λc7 N h7 _ _=>vM (λ_=>inE h7 (by decide) λT v8 y _=>inE y (by decide) λc9 A B _=>inE B (by decide) λp d o _=>gdE (by unfold aZ;show m.length+1<=_;omega) (gN ⟨p,_,o,by rw[ay];show m.length+1<=_;omega,rfl⟩)) λ_=>gN ⟨c7,m,h7,by omega,rfl⟩) ?_;rintro _ ⟨c,m,hc,hm,rfl⟩;refine tailA n (.inl ⟨w.Now,w.Seed,⟨m⟩,rfl⟩) (W:={w with Mail:=⟨m⟩}) hc ?_ hd;simp only[AA.sz] at M ⊢;omega
 ·exact bgE u (tailA n (.inl ⟨w.Now,(aKn R).2,w.Mail,rfl⟩) (W:={w with Seed:=(aKn R).2}) (bSb u) (by show w.sz<=_;omega) hd)
 ·refine bdE _ (bZ1 u) λr5 I=>blE I.1 λJ a K _ _=>blE K λc7 N h7 _ _=> ?_;obtain⟨c5,log⟩:=r5;obtain⟨I,hl,hf⟩:=I;have hl:log.length<=10:=hl;have he:=vH log (IntKind.i64.wrap ((1:Int)+a)) (IntKind.i64.wrap ((1:Int)+N));have heb:=aCu log (IntKind.i64.wrap ((1:Int)+a)) (IntKind.i64.wrap ((1:Int)+N));refine bgE (show log.length<=34359738300 by omega) ?_;show Ex (bd (gd (log.length<=34359738368/\(bC log (IntKind.i64.wrap ((1:Int)+a)) (IntKind.i64.wrap ((1:Int)+N))).1.sz<=34359738368) (some (dF log (bC log (IntKind.i64.wrap ((1:Int)+a)) (IntKind.i64.wrap ((1:Int)+N))).1))) _) _;generalize(bC log (IntKind.i64.wrap ((1:Int)+a)) (IntKind.i64.wrap ((1:Int)+N))).1=bx at he heb;have hn:=Sl log bx;have hnc:=aZv (l:=log) heb;refine bgE ⟨by omega,by omega⟩ ?_;have hnf:oU (dF log bx).1.Log:=bR5 hf;generalize dF log bx=cl at hn hnc hnf;obtain⟨cl,clb⟩:=cl;have hn:cl.sz<=log.length+bx.sz:=hn;refine bdE (λr=>∃(c:AQ) (q:AM),bD c/\(q.sz<=100000/\CldOk q/\oU q.Log)/\r=(c.b,c.i,c.h,q.Log,q.Boxes.Epoch,q.Boxes.Boxes,q.History)) (inE h7 (by decide) λD j x m11=> ?_) ?_
  ·obtain⟨k,rfl,hk⟩:∃k:Nat,j=(k:Int)/\k<=61:=⟨j.toNat,by simp at m11;omega,by simp at m11;omega⟩;refine bKt (λi (s:Int×Int×List Int×Int×Int×List AD×Int×List AO×List AI)=>∃(t:Int) (c:AQ) (q:AM),bD c/\(q.sz<=1000+600*i/\CldOk q/\oU q.Log)/\s=(t,(k:Int)-(i:Int),c.b,c.i,c.h,q.Log,q.Boxes.Epoch,q.Boxes.Boxes,q.History)) k (by omega) ⟨0,D,cl,x,⟨by omega,hnc,hnf⟩,by simp⟩ (λi s rec hi hv=> ?_) (λs rec hv=> ?_)
   ·obtain⟨t,c,q,hc,⟨hq,hqc,hqf⟩,rfl⟩:=hv;refine bPa (aEf hi) (blS hc λL v F _ _=>bgS (show log.length<=34359738368 by omega) (blS F λc15 G h15 _ _=>bgS (show(1:Nat)<=34359738368 by decide) ?_));show St _ _ _ _ (bd (gd (q.sz<=34359738300/\(kK (IntKind.i64.wrap ((1:Int)+a)) (aB log) (IntKind.i64.wrap (IntKind.i64.wrap (t+1)+v)) (AC.mk [AG.mk (IntKind.i64.wrap ((1:Int)+G)) 0 1 false])).1.sz<=34359738300) (some (bM q (kK (IntKind.i64.wrap ((1:Int)+a)) (aB log) (IntKind.i64.wrap (IntKind.i64.wrap (t+1)+v)) (AC.mk [AG.mk (IntKind.i64.wrap ((1:Int)+G)) 0 1 false])).1))) _);have hb:=bFv (IntKind.i64.wrap ((1:Int)+a)) (aB log) (IntKind.i64.wrap (IntKind.i64.wrap (t+1)+v)) (AC.mk [AG.mk (IntKind.i64.wrap ((1:Int)+G)) 0 1 false]);generalize(kK (IntKind.i64.wrap ((1:Int)+a)) (aB log) (IntKind.i64.wrap (IntKind.i64.wrap (t+1)+v)) (AC.mk [AG.mk (IntKind.i64.wrap ((1:Int)+G)) 0 1 false])).1=sl at hb;have hu:=(qQ q sl).1;refine bgS ⟨by omega,by show sl.Data.length<=_;omega⟩ (bKs ⟨IntKind.i64.wrap (IntKind.i64.wrap (t+1)+v),c15,(bM q sl).1,h15,⟨by omega,aP7 hqc hb.1,bWd hqf⟩,?_⟩);show(_,IntKind.i64.wrap ((k:Int)-(i:Int)-1),_,_,_,_,_,_,_)=_;rw[aZu (by omega) hi]
   ·obtain⟨t,c,q,hc,hq,rfl⟩:=hv;exact vM (λq=>absurd (q.symm.trans aZt) (by decide)) λ_=>gN ⟨c,q,hc,⟨by omega,hq.2⟩,rfl⟩
  ·rintro _ ⟨c,q,hc,hq,rfl⟩;exact tailA n (.inr (.inr ⟨q,rfl,hq.2.2⟩)) (W:={w with aAA:=q}) hc (bz bKw (by omega)) hq.2.1
 ·refine gdE ?_ (tailA n (.inr (.inl (bHo (by show w.Stolen.length≠(w.Devices++[_]).length;rw[ay,hsl];show _≠w.Devices.length+1;omega)))) (W:={w with Devices:=w.Devices++[AB.mk (AJ.mk 0 0 0 0) [] 0 0 0 (AC.mk [])]}) u ?_ hd)
  ·simp only[AA.sz] at M;unfold aZ;show w.Devices.length+1<=_;omega
  ·simp only[AA.sz] at M ⊢;simp only[ay,ey,List.sum_append,cx,bw,ga,eE,List.sum_nil,AB.sz,bm];omega
 ·exact tailA n (.inl ⟨w.Now,w.Seed,w.Mail,rfl⟩) (W:=w) u (by omega) hd
def bKy {l:List Int}(hl:l.length<=1048576):Ex (lK l) bPe:=by
 unfold lK;refine bdE (λr=>∃w0 w d,r=(w,d)/\DrW 4 w0/\aZf w0 w/\w.sz<=1000000/\CldOk w.aAA) ?_ ?_
 ·unfold nS;refine bdE _ (bKx hl) ?_;rintro _ ⟨w0,w,d,b,rfl,h1,h2,a,e⟩;exact gN ⟨w0,w,d,rfl,h1,h2,a,e⟩
 ·rintro _ ⟨w0,w,d,rfl,h1,h2,a,e⟩;refine bdE (λ_=>True) (bX5 l) λf _=> ?_
  exact blE (c:=AQ.mk l 0 f) ⟨cJ _,hl⟩ λh j _ _ _=>gN ⟨w0,w,d,_,rfl,h1,h2,a,e⟩
def bX8 {i:Nat}(h:i<2):oP (AS.mk true (aA (i:Int)) 443):=by
 rcases(by omega:i=0\/i=1) with rfl|rfl
 ·exact⟨2,by decide,rfl⟩
 ·exact⟨3,by decide,rfl⟩
def Zp (l:List Int)(h:aY8 l):yF l=some true:=by
 unfold yF;cases hb:bJo l with
 |true=>rfl
 |false=>
  obtain⟨_,e,w0,w,c,t,rfl,a,b,j,hd⟩:=bKy (bSf hb);have d:=bJi w c t;rw[ae,e,bd_s];dsimp only;rw[aD (show w.sz<=100000000 by omega),bd_s,bd_s,bM3,ae];cases hc:(bE w c t).2 with
  |false=>rw[dc,ac,aP4 hc,aD (eqT (by omega) hd)];rfl
  |true=>
   have g:=bR6 a b hc;generalize(bE w c t).1=x at g d;have f:=bO0 x c;rw[ax,ae,aD (show x.sz<=34359738100 by omega),bd_s,aD (show x.sz<=10000000000 by omega),bd_s,aD (show x.sz<=100000000 by omega),bd_s,aD (show x.sz<=100000000 by omega),bd_s];have q1:=g.login;have q2:=g.gone;have q3:=g.ok;have q4:=g.push;generalize dI x c=y at f q1 q2 q3 q4;rw[aK7 (τ:=Bool⊕PUnit) (λi s=>s=i) 2 (some (.inr ())) (by omega) rfl (λi s rec hi hv=> .inl ⟨i+1,rfl,by
    subst hv;have hv:((yT y.1 t (s:Int) (AS.mk true (aA (s:Int)) 443)).2==0)=false:=by rw[ca];exact q1 _ _
    rw[au (show(s:Int)<2 by omega),ac,aD (show oP (AS.mk true (aA (s:Int)) 443)/\y.1.sz<=34359738200 from⟨bX8 hi,by omega⟩),bd_s,hv,ae]⟩) (λs rec hv=>by subst hv;rfl)]
   have hk:((aG x c).Key !=(aG w t).Key)=true:=bne_iff_ne.2 g.key;show bd (bif (aF x t 0).2==2 then _ else _) _=_;rw[g.sync,q4,g.again,g.back,aD (show WOk y.1 from WOk.of' (by omega)),bd_s,q2,aD (show y.1.sz<=34359738368 by omega),bd_s,q3,lV g.lc,bd_s,lV g.lt,bd_s,hk];rfl
end
end Go.VK
