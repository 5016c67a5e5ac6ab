import Derived.Test.YtahdlpfokhapfaaGreatDoorXvM
import Derived.Test.YtahdlpfokhapfaaGreatDoorLKatoq
/- Printed by wip/tools: models, walks, proofs. -/
set_option linter.all false
set_option maxRecDepth 100000
set_option maxHeartbeats 4000000
namespace Go.VK
open Go.RowKit Go.Proofs D
noncomputable section
open EV (cZ)
def aNj (a b c:Int):K6 a b c=some (bX a b c):=by unfold K6 bX;show bd (bif decide (b<=a) then some (decide (a<=c)) else some false) _=_;cases decide (b<=a)<;>rfl
def aCn (a b c:Int):Ht a b c=some (bX a b c):=by unfold Ht bX;cases decide (b<=a)<;>rfl
def aPq (p q:Int):aCh p q=some (fQ p q):=by
 grind[aUt,bX,aG,bCe,aCh]
def aPr (p q:Int):aCm p q=some (fQ p q):=by
 unfold aCm;simp only[bd_bb];by_cases h:1<=q/\q<=1000000000000
 ·rw[aG (by omega)];by_cases ht:p.tmod q<0
  ·simp[h,ht,show ¬q<1 by omega,show ¬q>1000000000000 by omega,bCc h ht];rw[IntKind.wrap_i64];have:=zI (p:=p) (q:=q) h.1;omega
  grind[bCd]
 grind[aUt]
theorem aIw:((2147483647:Int)≠0)=True:=by simp
def aNk (l:List Int)(h:l.length<=1099511627776):K7 l=some (qM l):=by
 unfold K7;rw[fT (l:=l) hstep (λ_ _=>True) (λs=>some s) (by omega) trivial (by simp) (λrec i s hi _=>by
  simp only[dS hi,ae,aS hi,bd_s,aIw,gd_T];rfl) (by simp)]
 rfl
def aNl (l:List Int)(h:l.length<=1099511627776):K8 l=some (qM l):=by
 unfold K8;rw[fT (l:=l) hstep (λ_ _=>True) (λs=>some s) (by omega) trivial (by simp) (λrec i s hi _=>by
  simp only[dS hi,ae,aS hi,bd_s,aIw,gd_T];rfl) (by simp)]
 rfl
def Yt (k:Int)(l:List Int)(h:l.length<=34359738368):xY k l=some (bI k l):=by unfold xY;rw[aG (by grind[bK]),aG (by grind[bK]),aG (by simp;omega)];simp[bI]
theorem Mv {α:Type}{r:List (List α)}{i:Nat}(hi:i<r.length):(r.take (i+1)).flatten=(r.take i).flatten++r[i]:=by
 grind[Option.toList_some,List.flatten_cons,List.flatten_nil,List.take_add_one,List.getElem?_eq_getElem,List.flatten_append]
def aFs (a:List Int)(r:List (List Int))(h:aHy a r):Mk a r=some (Ez a r):=by
 unfold Mk;have hs:∀i,(r.take i).flatten.length<=r.flatten.length:=(by grind[List.take_append_drop,List.flatten_append,List.length_append]);rw[aG (by grind[bK]),fT (l:=r) (λs x=>s++x) (λi s=>s=a++(r.take i).flatten) (λs=>some s) (by omega) (by simp)
  (by grind[Mv,List.append_assoc])
  (λrec i s hi hv=>by
   have e:=Mv hi;have h1:=hs (i+1);rw[e,bc] at h1;simp only[dS hi,ae,aS hi,bd_s];rw[aG (by grind[List.length_append,bK])]) (by simp)]
 have:r.foldl (λs x=>s++x) ([]++a)=a++r.flatten:=by rw[bz,Xx (f:=λx:List Int=>x)];simp
 rw[this];rfl
def Yu (k:Int)(l:List Int)(h:l.length<=34359738368):yL k l=some (bI k l):=by
 grind[bI,Ez,aG,bd_s,yL]
def aPs (a b:Int):aCi a b=some (aJ4 a b):=by simp[aCi,aJ4]
def aKq (n:Int):Uf n=some (iK n):=by simp[Uf,iK]
def Yv (k:Int)(l:List Int)(h:l.length<=34359738300):xZ k l=some (aW k l):=by unfold xZ;rw[aG (by grind[bK]),aG (by simp;omega),bd_s,aMe (lL _ _).1];rfl
def Yw (k:Int)(l:List Int)(h:l.length<=34359738300):yN k l=some (aW k l):=by
 grind[aW,Ez,aG,bd_s,yN]
def Ug (n:Int):Ub n=some (bA n):=rfl
def Uh (n:Int):Ue n=some (bA n):=rfl
def Yx (n:Int):yA n=some (dC n):=by unfold yA dC;cases bA n<;>rfl
def Yy (n:Int):yS n=some (dC n):=by unfold yS dC;cases bA n<;>rfl
def Yz (s:AK):Yo s=some (fH s):=by rfl
def Km (s:AK):Ki s=some (aM s):=rfl
def Kn (s:AK):Kl s=some (aM s):=by rfl
def aFt (l:List Int)(x:Int)(h:l.length<=1099511627776):Mf l x=some (gB l x):=by unfold Mf;rw[kR (l:=l) (λe=>e==x) (.inl true) (.inr ()) (by omega) (by grind[dS,aS,bd_s]) (by simp)];unfold gB;cases l.any _<;>rfl
def aPt (l:List Int)(x:Int)(h:l.length<=1099511627776):aCl l x=some (gB l x):=by unfold aCl;rw[kR (l:=l) (λe=>e==x) (.inl true) (.inr ()) (by omega) (by grind[dS,aS,bd_s]) (by simp)];unfold gB;cases l.any _<;>rfl
def aKr (s:List Int)(x:Int):gB s x=s.contains x:=by
 grind[Bool.beq_comm,List.contains_eq_any_beq,gB]
def aIx {s:List Int}{e:AC}(h:(e.Kind==1)=true):gY s e=bif !gB s e.Device then s++[e.Device] else s:=by unfold gY;rw[h,aKr];cases s.contains e.Device<;>rfl
def aIy {s:List Int}{e:AC}(h:(e.Kind==1)=false):gY s e=bif e.Kind==2 then s.filter (λd=>d !=e.Device) else s:=by
 grind[gY]
def Za (l:List AC)(h:l.length<=34359738368):yB l=some (aA l):=by
 unfold yB;rw[fT (l:=l) gY (λi s=>s.length<=i) (λs=>some s) (by omega) (by simp) (by grind[I7])
  (λrec i s hi hv=>by
   simp only[dS hi,ae,aS hi,bd_s];rw[aG (by omega)];have e:∀x:Int,cZ (α:=List Int) FUEL (λa (i8:(List Int×Nat))=>bif (decide ((↑i8.2:Int)<(↑s.length:Int))) then(bd (bd (bP s (↑i8.2:Int)) λ(c:(Int))=>bif (c !=x) then(bd (bP s (↑i8.2:Int)) λ(b:(Int))=>gd (bK i8.1 [b]) (some (i8.1++[b]))) else(some (i8.1))) λ(f:(List Int))=>a ((f,(i8.2+1)))) else(some (i8.1))) ([],0)=some (s.filter λd=>d !=x):=λx=>by
    rw[fT (l:=s) (λq y=>bif y !=x then q++[y] else q) (λi q=>q.length<=i) (λq=>some q) (by omega) (by simp) (λi q hi hv=>by cases(s[i] !=x)<;>simp<;>omega)
     (by grind[dS,aS,bd_s,aG,bK]) (by simp),zK]
    simp
   rw[e];cases h1:(l[i].Kind==1) with
   |true=>
    have h2:(l[i].Kind==2)=false:=by simp_all
    rw[aIx h1,h2];rw[aG (by grind[bK])];cases gB s l[i].Device<;>rfl
   |false=>
    rw[aIy h1,aG (by grind[bK])];cases(l[i].Kind==2)<;>rfl) (by simp)]
 rfl
def Zb (l:List AC)(h:l.length<=34359738368):yK l=some (aA l):=by
 unfold yK;rw[fT (l:=l) gY (λi s=>s.length<=i) (λs=>some s) (by omega) (by simp) (by grind[I7])
  (λrec i s hi hv=>by
   simp only[dS hi,ae,aS hi,bd_s];rw[aG (by omega)];have e:∀x:Int,cZ (α:=List Int) FUEL (λb (a:(List Int×Nat))=>bif (decide ((↑a.2:Int)<(↑s.length:Int))) then(bd (bd (bP s (↑a.2:Int)) λ(c:(Int))=>bif (c !=x) then(gd (bK a.1 [c]) (some (a.1++[c]))) else(some (a.1))) λ(f:(List Int))=>b ((f,(a.2+1)))) else(some (a.1))) ([],0)=some (s.filter λd=>d !=x):=λx=>by
    rw[fT (l:=s) (λq y=>bif y !=x then q++[y] else q) (λi q=>q.length<=i) (λq=>some q) (by omega) (by simp) (λi q hi hv=>by cases(s[i] !=x)<;>simp<;>omega)
     (by grind[dS,aS,bd_s,aG,bK]) (by simp),zK]
    simp
   rw[e];cases h1:(l[i].Kind==1) with
   |true=>rw[aIx h1,aG (by grind[bK])];cases gB s l[i].Device<;>rfl
   |false=>
    rw[aIy h1];cases(l[i].Kind==2)<;>rfl) (by simp)]
 rfl
def Zc (w:AA)(d:Int):yR w d=some (aO w d):=by unfold yR aO;show bd (bif decide (0<=d) then _ else _) _=_;cases decide (0<=d)<;>rfl
def aFu (w:AA)(d:Int)(h:Ed w):Mq w d=some (aV w d):=by
 unfold Mq aV;rw[aHx h];have hl:=gD w.aAB.Log;have a:=h.2.2.1;cases hd:aO w d with
 |false=>rfl
 |true=>simp only[ae,zZ hd,bd_s,aG a,aG (show(aA w.aAB.Log).length<=1099511627776 by omega),cM]
def aFv (w:AA)(d:Int)(h:Ed w):Mr w d=some (aV w d):=by
 unfold Mr aV;have hl:=gD w.aAB.Log;have a:=h.2.2.1;cases hd:aO w d with
 |false=>rfl
 |true=>simp only[ae,zZ hd,bd_s,aG a,aG (show(aA w.aAB.Log).length<=1099511627776 by omega),cM]
def aCo (a:AG)(s h:Int):Gy a s h=some (qA a s h):=by unfold Gy qA;cases decide (a.Site<s)<;>cases(a.Site==s)<;>rfl
def aX5 {l:List AG}{i:Nat}(hi:i<l.length)(hl:l.length<=34359738368){q:AG->Bool}(hq:∀x,q x=dQ x l[i]):
  (bif (!bX l[i].Site (0:Int) (2147483646:Int)) then(some (true)) else(bif (!bX l[i].Handle (0:Int) (1000000:Int)) then(some (true)) else(bif (!bX l[i].Version (1:Int) (1000000:Int)) then(some (true)) else(bif (decide ((i:Int)>(0:Int))) then(bd (bP l (IntKind.i64.wrap ((i:Int)-(1:Int)))) λ(a:(AG))=>some (!q a)) else(some (false))))))=some (aJ8 l i l[i]):=by
 unfold aJ8;cases bX l[i].Site 0 2147483646 with
 |false=>rfl
 |true=>
  cases bX l[i].Handle 0 1000000 with
  |false=>rfl
  |true=>
   cases bX l[i].Version 1 1000000 with
   |false=>rfl
   |true=>
    by_cases h0:(i:Int)>0
    ·rw[av h0,aH (by omega) (by omega)];have b:bP l ((i:Int)-1)=some l[i-1]:=by
      grind[aS]
     grind[bd_s,Bool.not_true,default,List.getD,List.getElem?_eq_getElem]
    simp_all
def O4 (b:AF)(h:b.sz<=34359738368):Bu b=some (aP b):=by
 simp only[AF.sz] at h;unfold Bu aP;rw[iJ (l:=b.Entries) (aJ8 b.Entries) (.inl false) (.inr ()) (by omega) (λrec i hi=>by
  simp only[dS hi,ae,aS hi,bd_s];rw[aX5 hi h (q:=λx=>qA x b.Entries[i].Site b.Entries[i].Handle) (λx=>rfl)];rfl) (by simp)]
 grind[gX,aJ8,nx]
def Zd (b:AF)(s h:Int)(a:b.sz<=34359738368):yF b s h=some (aJ b s h):=by simp only[AF.sz] at a;unfold yF aJ;exact Su (l:=b.Entries) (λ(e:AG)=>e.Site==s&&e.Handle==h) (by omega) (by grind[dS,aS,bd_s]) (by simp)
def aCp (b:AF)(h:b.sz<=34359738368):Gw b=some (b):=by simp only[AF.sz] at h;unfold Gw;rw[aG (by grind[List.length_nil,bK])];rfl
theorem aRu (p:AG->Bool):∀(l:List AG) (i:Nat),i<=(l.takeWhile p).length->(∃hi:i<l.length,p l[i]=true/\i<(l.takeWhile p).length)\/(i=(l.takeWhile p).length/\∀hi:i<l.length,p l[i]=false)
 |[],i,h=> .inr ⟨by simpa using h,λhi=>by simp at hi⟩
 |x::l,i,h=>by
  rw[cR] at h ⊢;cases hp:p x with
  |false=>rw[hp] at h;simp at h;subst h;exact .inr ⟨by simp,λ_=>hp⟩
  |true=>
   rw[hp] at h;simp only[gC,ay] at h ⊢;cases i with
   |zero=>exact .inl ⟨by simp,hp,by omega⟩
   |succ i=>
    rcases aRu p l i (by omega) with⟨h1,h2,a⟩|⟨h1,h2⟩
    ·exact .inl ⟨by simpa using h1,h2,by omega⟩
    ·exact .inr ⟨by omega,λhi=>h2 (by simpa using hi)⟩
def aRv (p:AG->Bool):∀l:List AG,l.take (l.takeWhile p).length=l.takeWhile p
 |[]=>rfl
 |x::l=>by
  rw[cR];cases p x with
  |false=>rfl
  |true=>simp only[gC,ay,gE];rw[aRv p l]
def aRw (p:AG->Bool):∀l:List AG,l.drop (l.takeWhile p).length=l.dropWhile p
 |[]=>rfl
 |x::l=>by
  rw[cR,List.dropWhile_cons];cases p x with
  |false=>rfl
  |true=>simp only[gC,ay,fy];rw[aRw p l]
def aFw (b:AF)(x:AG)(h:b.sz<=34359738360):Mi b x=some (rT b x):=by
 have d:=h;simp only[AF.sz] at h;unfold Mi rT;rw[aG (by omega),bd_s,aG (by omega),bd_s];by_cases c:aJ b x.Site x.Handle>=0
 ·rw[av c,ae,ae];have:=Rn (by assumption);simp_all[zJ,aJ]
 ·rw[aq c,aj,aj];have a:(b.Entries.takeWhile λe=>qA e x.Site x.Handle).length<=b.Entries.length:=(List.takeWhile_sublist _).length_le;rw[aJ2 (λi s=>i<=(b.Entries.takeWhile λe=>qA e x.Site x.Handle).length/\s=(i:Int)) b.Entries.length (some ((b.Entries.takeWhile λe=>qA e x.Site x.Handle).length:Int)) (s:=(0:Int)) (by omega) ⟨by omega,rfl⟩ (by grind[aRu,dS,aS,bd_s,aH]) (by grind[qA,bd_s]),bd_s];rw[aG ⟨by omega,by simpa using a⟩,aG ⟨by omega,by simpa using a⟩,aG (by grind[bK]),aG (by grind[bK]),aG (by grind[bK])];rw[bj,bz];rw[aRv,aRw]
theorem aT6 {l:List AG}{k:Int}(h0:0<=k)(h1:k.toNat<l.length)(x:AG):(bd (bP l k) λ(b:AG)=>bif (decide (x.Version>b.Version)) then(some (true)) else(bd (bP l k) λ(a:AG)=>bif (x.Version==a.Version) then(some (x.Deleted)) else(some (false))))=some (mH x (l.getD k.toNat default)):=by rw[zJ h0 h1,List.getD,ab h1,cw];simp only[bd_s];unfold mH;cases decide (x.Version>l[k.toNat].Version)<;>cases(x.Version==l[k.toNat].Version)<;>rfl
def Ko (a b:AF)(h:a.sz<=34359738368/\b.sz<=34359738368):qX a b=some (iC a b):=by
 unfold qX iC;rw[aG h.1,bd_s];cases f:aP a with
 |false=>simp[*]
 |true=>
  rw[aG h.2];cases hb:aP b with
  |false=>simp[*]
  |true=>
   obtain⟨n,j⟩:=aOy f;obtain⟨p,k⟩:=aOy hb;rw[aG h.1];simp only[bl,aj,ae,bd_s,en];rw[aHw (l:=b.Entries) (s0:=a.Entries) (λo x=>bG o [x]) (λi o=>J2 o/\o.length<=20+i) (λo=>some o) (by omega) ⟨j,by omega⟩ (λi o hi hv=>by
     have:=xV _ o [b.Entries[i]] (ak _)
     grind[aQ3,List.length_singleton]) (λrec i o hi hv=>by
     obtain⟨hs,hl⟩:=hv;simp only[dS hi,ae,aS hi,bd_s];rw[aG (by grind[AF.sz]),bd_s,<-aMj hs];have hk:(bif decide (aJ ⟨o⟩ b.Entries[i].Site b.Entries[i].Handle<0) then some true else bd (bP o (aJ ⟨o⟩ b.Entries[i].Site b.Entries[i].Handle)) λ(m:AG)=>bif (decide (b.Entries[i].Version>m.Version)) then(some (true)) else(bd (bP o (aJ ⟨o⟩ b.Entries[i].Site b.Entries[i].Handle)) λ(c:AG)=>bif (b.Entries[i].Version==c.Version) then(some (b.Entries[i].Deleted)) else(some (false))))=some (decide (aJ ⟨o⟩ b.Entries[i].Site b.Entries[i].Handle<0)||mH b.Entries[i] (o.getD (aJ ⟨o⟩ b.Entries[i].Site b.Entries[i].Handle).toNat default)):=by
      by_cases d:aJ ⟨o⟩ b.Entries[i].Site b.Entries[i].Handle<0
      ·simp[*]
      ·rw[aq d,aj];have:=Rn (show 0<=iU (λ(e:AG)=>e.Site==b.Entries[i].Site&&e.Handle==b.Entries[i].Handle) 0 o from by unfold aJ at d;simp only at d;omega)
       grind[aT6,aJ]
     grind[decide,aJ,mH,default,aG,AF.sz,bd_s]) (by simp)]
   rw[aA8 _ _ k,bd_s];have hm:=xV _ a.Entries b.Entries (ak _);rw[aG (by grind[AF.sz]),bd_s];cases aP ⟨bG a.Entries b.Entries⟩<;>rfl
def aX6 {w:AA}(h:w.sz<=34359738368):Ed w:=by
 grind[Ed,AA.sz]
def aCq (l:List AC)(h:l.length<=34359738368):Gl l=some l:=by
 grind[xB,Gl]
def aCr (d:AB)(h:d.sz<=34359738368):Gx d=some d:=by simp only[AB.sz] at h;unfold Gx;simp only[aG (show d.Log.length<=34359738368 by omega),aG (show d.aAD.sz<=34359738368 by simp only[AF.sz];omega),bd_s]
def aCs (e:AM)(h:e.sz<=34359738368):Gq e=some e:=by
 simp only[AM.sz] at h;unfold Gq;rw[aMl (l:=e.Boxes) (by omega) (λrec i s hi hs=>by
  have a:=nC (f:=AN.sz) hi;simp only[AN.sz] at a h;simp only[dS hi,ae,aS hi,bd_s,xB (show e.Boxes[i].Data.length<=34359738368 by omega),jM hs,bz]) (by simp)]
 rfl
def aCt (e:AI)(h:e.sz<=34359738368):Gz e=some e:=by unfold Gz;rw[xB h];rfl
def aCu (c:AO)(h:c.sz<=34359738368):Ha c=some c:=by simp only[AO.sz] at h;unfold Ha;rw[aMl (l:=c.History) (by omega) (by grind[nC,AI.sz,dS,aS,bd_s,aG,jM]) (by simp)];simp only[aG (show c.Log.length<=34359738368 by omega),aG (show c.Boxes.sz<=34359738368 by simp only[AM.sz];omega),bd_s]
def aCv (e:AH)(h:e.sz<=34359738368):Gt e=some e:=by unfold Gt;rw[xB h];rfl
def aCw (e:AQ)(h:e.sz<=34359738368):Gu e=some e:=by unfold Gu;rw[xB h];rfl
def aCx (s:AD)(h:s.sz<=34359738368):Gv s=some s:=by simp only[AD.sz] at h;unfold Gv;rw[aMl (l:=s.Accounts) (by omega) (by grind[nC,AH.sz,dS,aS,bd_s,aG,jM]) (by simp)];simp only[aG (show s.Book.sz<=34359738368 by simp only[AQ.sz];omega),bd_s,xB (show s.Logins.length<=34359738368 by omega),bz]
def aCy (e:AJ)(h:e.sz<=34359738368):Ho e=some e:=by unfold Ho;rw[xB h];rfl
def O5 (l:List AJ)(h:szL AJ.sz l<=34359738368):Cc l=some l:=by
 unfold Cc;unfold szL at h;rw[bFa (l:=l) (by omega) (λrec i s hi hs=>by
  have a:=nC (f:=AJ.sz) hi;simp only[dS hi,ae,aS hi,bd_s,aG (show l[i].sz<=34359738368 by omega),jM hs]) (λrec s=>by simp only[aS7,aj])]
 rfl
def aCz (e:AR)(h:e.sz<=34359738368):Hq e=some e:=by unfold Hq;rw[xB h];rfl
def aC0 (w:AA)(h:w.sz<=34359738368):Hr w=some w:=by
 simp only[AA.sz] at h;unfold Hr;rw[aMl (l:=w.Devices) (by omega) (λrec i q hi hs=>by
  have a:=nC (f:=AB.sz) hi;simp only[dS hi,ae,aS hi,bd_s,aG (show w.Devices[i].sz<=34359738368 by omega),jM hs]) (λrec q=>by simp only[aS7,aj]),
  aMl (l:=w.Sites) (by omega) (λrec i q hi hs=>by
  have a:=nC (f:=AD.sz) hi;simp only[dS hi,ae,aS hi,bd_s,aG (show w.Sites[i].sz<=34359738368 by omega),jM hs]) (λrec q=>by simp only[aS7,aj])]
 simp only[bd_s,xB (show w.Stolen.length<=34359738368 by omega),aG (show w.aAB.sz<=34359738368 by simp only[AO.sz];omega),aG (show szL AJ.sz w.Hosts<=34359738368 by unfold szL;omega),aG (show w.Mail.sz<=34359738368 by simp only[AR.sz];omega),bz]
theorem aKs {F:(Int×Int×Int->Option Int)->Int×Int×Int->Option Int}(a:∀rec (b n s:Int),0<=n->n<9223372036854775807->F rec (b,n,s)=bif decide (n>0) then rec ((IntKind.i64.wrap (b*b)).tmod 2147483647,n/2,bif n%2==1 then(IntKind.i64.wrap (s*b)).tmod 2147483647 else s) else some s):
  ∀(k:Nat) (b n s:Int) (f:Nat),k<f->0<=n->n<2^k->k<=62->cZ f F (b,n,s)=some (aS8 k b n s)
 |0,b,n,s,f+1,c,h0,h1,hk=>by
  have:n=0:=by simp at h1;omega
  subst this;rw[iY,a _ _ _ _ (by omega) (by omega)];rfl
 |k+1,b,n,s,f+1,c,h0,h1,hk=>by
  have h2:(2:Int)^(k+1)=2*2^k:=by rw[fb];omega
  have d:n<2^62:=Int.lt_of_lt_of_le h1 (by exact_mod_cast gy (by omega) hk);rw[iY,a _ _ _ _ h0 (by omega)];unfold aS8;by_cases hn:n>0
  ·rw[av hn,ae,cA hn];exact aKs a k _ (n/2) _ f (by omega) (by omega) (by omega) (by omega)
  ·rw[aq hn,aj,dc hn]
def aC1 (b n:Int)(h:0<=n/\n<2147483648):nI b n=some (aS8 31 b n 1):=by
 grind[aKs,qG,and_one,Eh,aQz,aIw,gd_T,bd_s,aG,FUEL,gU,nI]
def aFx (b n:Int)(h:0<=n/\n<2147483648)(hb:0<=b/\b<2147483647):rX b n 2147483647=some (aS8 31 b n 1):=by unfold rX;rw[show b.tmod 2147483647=b by rw[cn hb.1];omega,show(1:Int).tmod 2147483647=1 by decide,aKs (by grind[Int.tmod_eq_emod_of_nonneg,Int.tdiv_eq_ediv_of_nonneg,aH,aIw,gd_T,bd_s]) 31 b n 1 FUEL (by grind[gU]) h.1 (by omega) (by omega)];rfl
def Ui (q:Int):vV q=some (eU q):=by
 unfold vV eU;rw[aC1 _ _ (by decide),aQ0,show bX q 1 2147483646=bA q from rfl]
 grind[bA,gN,aH,Bool.not_true,bd_s,aIw,gd_T,Int.tmod_eq_emod_of_nonneg,dC,bX,decide_true,Bool.and_self,bne_self_eq_false]
def Uj (q:Int):wI q=some (eU q):=by
 unfold wI eU;rw[aFx _ _ (by decide) (by decide),aQ0];cases hk:bA q with
 |false=>rfl
 |true=>
  have hr:=gN hk
  grind[Bool.not_true,bd_s,aIw,gd_T,Int.tmod_eq_emod_of_nonneg,aH]
def Oi (p:Int)(l:List Int)(h:l.length<=34359738300):tO p l=some (nQ p l):=by unfold tO nQ;rw[aG (by grind[bK]),aG (by simp;omega)];cases bA p<;>rfl
def Oj (p:Int)(l:List Int)(h:l.length<=34359738300):uL p l=some (nQ p l):=by unfold uL nQ;rw[aG (by grind),bd_s,aG (by grind[Ez])];cases bA p<;>simp[Ez]
def Av (q:Int)(l:List Int)(g:Int)(h:l.length<=34359738300):nJ q l g=some (eX q l g):=by unfold nJ eX;simp only[aG h,bd_s,Sz];cases(eU q !=0)<;>rfl
def Aw (q:Int)(l:List Int)(g:Int)(h:l.length<=34359738300):nL q l g=some (eX q l g):=by unfold nL eX;simp only[aG h,bd_s,Sz];cases(eU q !=0)<;>rfl
def aIz (b:AQ)(h:b.Open.length<=34359738368){τ:Type}(rec:Nat->Option τ)(r:Option τ)(i:Nat)(hi:i<b.Open.length):(bd (bif (!bX b.Open[i].Id (0:Int) (IntKind.i64.wrap (b.Next-(1:Int)))) then(some (true)) else(bif (decide ((↑i:Int)>(0:Int))) then(bd (bP (b.Open) (IntKind.i64.wrap ((↑i:Int)-(1:Int)))) λa=>bif (decide (a.Id>=b.Open[i].Id)) then(some (true)) else(bif (!bX b.Open[i].aAH (0:Int) (1000005:Int)) then(some (true)) else(some (!bX b.Open[i].Until (0:Int) (1000005:Int))))) else(bif (!bX b.Open[i].aAH (0:Int) (1000005:Int)) then(some (true)) else(some (!bX b.Open[i].Until (0:Int) (1000005:Int)))))) λc=>bif c then r else(rec (i+1)))=bif fA b i b.Open[i] then r else rec (i+1):=by
 grind[decide,decide_eq_false,bX,Fa,bd_s,decide_eq_true,default,fA]
def Ol (b:AQ)(h:b.sz<=34359738368):tV b=some (fJ b):=by
 simp only[AQ.sz] at h;unfold tV fJ;rw[iJ (l:=b.Open) (fA b) (.inl false) (.inr ()) (by omega) (λrec i hi=>by
  simp only[dS hi,ae,aS hi,bd_s];exact aIz b h rec _ i hi) (by simp)]
 rw[show decide ((b.Open.length:Int)<=16)=decide (b.Open.length<=16) from db.2 (by omega)];cases bX b.Next 0 1000000<;>cases decide (b.Open.length<=16)<;>cases gX (fA b) 0 b.Open<;>rfl
def Om (b:AQ)(h:b.sz<=34359738368):uJ b=some (fJ b):=by
 simp only[AQ.sz] at h;unfold uJ fJ;rw[iJ (l:=b.Open) (fA b) (.inl false) (.inr ()) (by omega) (λrec i hi=>by
  simp only[dS hi,ae,aS hi,bd_s];exact aIz b h rec _ i hi) (by simp)]
 rw[show decide ((b.Open.length:Int)>16)= !decide (b.Open.length<=16) by rw[<-decide_not];exact db.2 (by omega)];cases bX b.Next 0 1000000<;>cases decide (b.Open.length<=16)<;>cases gX (fA b) 0 b.Open<;>rfl
def aI0 (m:AR)(h:m.Notices.length<=34359738368){τ:Type}(rec:Nat->Option τ)(r:Option τ)(i:Nat)(hi:i<m.Notices.length):(bd (bif (!bX m.Notices[i].Kind (1:Int) (5:Int)) then(some (true)) else(bif (!bX m.Notices[i].aAH (0:Int) (1000000:Int)) then(some (true)) else(bif (!bX m.Notices[i].Time (0:Int) (1000000:Int)) then(some (true)) else(bif (decide ((↑i:Int)>(0:Int))) then(bd (bP (m.Notices) (IntKind.i64.wrap ((↑i:Int)-(1:Int)))) λa=>some (decide (a.Time>m.Notices[i].Time))) else(some (false)))))) λb=>bif b then r else(rec (i+1)))=bif oN m.Notices i m.Notices[i] then r else rec (i+1):=by
 grind[decide,decide_eq_false,bX,Fa,bd_s,decide_eq_true,default,oN]
def Cu (m:AR)(h:m.sz<=34359738368):nW m=some (eF m):=by
 simp only[AR.sz] at h;unfold nW eF;rw[iJ (l:=m.Notices) (oN m.Notices) (.inl false) (.inr ()) (by omega) (λrec i hi=>by
  simp only[dS hi,ae,aS hi,bd_s];exact aI0 m h rec _ i hi) (λrec=>by simp only[aS7,aj])]
 rw[show decide ((m.Notices.length:Int)<=30)=decide (m.Notices.length<=30) from db.2 (by omega)];cases decide (m.Notices.length<=30)<;>cases gX (oN m.Notices) 0 m.Notices<;>rfl
def Cw (m:AR)(h:m.sz<=34359738368):nY m=some (eF m):=by
 simp only[AR.sz] at h;unfold nY eF;rw[iJ (l:=m.Notices) (oN m.Notices) (.inl false) (.inr ()) (by omega) (λrec i hi=>by
  simp only[dS hi,ae,aS hi,bd_s];exact aI0 m h rec _ i hi) (by simp)]
 rw[show decide ((m.Notices.length:Int)>30)= !decide (m.Notices.length<=30) by rw[<-decide_not];exact db.2 (by omega)];cases decide (m.Notices.length<=30)<;>cases gX (oN m.Notices) 0 m.Notices<;>rfl
def O6 (i:Int):Bp i=some (aC i):=by unfold Bp aC;cases i==0<;>cases i==1<;>rfl
def O7 (i:Int):Ce i=some (aC i):=by unfold Ce aC;cases i==0<;>cases i==1<;>rfl
def Ze (e:AC):Yp e=some (bJ e):=by rfl
def Zg (e:AC):Yr e=some (bJ e):=by rfl
def aC2 (l:List AC)(h:l.length<=34359738368):Gj l=some (eH l):=by
 unfold Gj eH;cases hl:((l.length:Int)==0) with
 |true=>rfl
 |false=>
  have:l.length≠0:=by simp_all
  rw[aH (by omega) (by omega),show(l.length:Int)-1=((l.length-1:Nat):Int) by omega,aS (by omega)];simp[List.getD,ab (show l.length-1<l.length by omega)]
def aC3 (l:List AC)(h:l.length<=34359738368):Hu l=some (eH l):=by
 unfold Hu eH;cases hl:((l.length:Int)==0) with
 |true=>rfl
 |false=>
  have:l.length≠0:=by simp_all
  rw[aH (by omega) (by omega),show(l.length:Int)-1=((l.length-1:Nat):Int) by omega,aS (by omega)];simp[List.getD,ab (show l.length-1<l.length by omega)]
def Uk (l:List AC)(p:Int)(h:l.length<=34359738368):wJ l p=some (dD l p):=by unfold wJ;rw[kR (l:=l) (λe=>e.Kind==2&&e.Device==p) (.inl true) (.inr ()) (by omega) (by grind[dS,aS,bd_s]) (by simp)];unfold dD;cases l.any _<;>rfl
def aC4 (l:List AP)(p:Int)(i:Nat)(hi:i<=l.length)(h:l.length<=34359738368){F:(Nat->Option ((Bool⊕PUnit)⊕PUnit))->Nat->Option ((Bool⊕PUnit)⊕PUnit)}(a:∀rec j (hj:j<i),F rec j=bif (l[j]'(by omega)).Public==p then some (.inl (.inl false)) else rec (j+1))(b:∀rec,F rec i=some (.inr ())):
  cZ FUEL F 0=some (bif (l.take i).any (λq=>q.Public==p) then .inl (.inl false) else .inr ()):=by
 have ht:(l.take i).length=i:=by simp[*]
 exact kR (l:=l.take i) (λq=>q.Public==p) _ _ (by omega) (by simp_all) (by simp[*])
def aNm (a:AH)(h:a.Credentials.length<=34359738368)(i:Nat)(hi:i<a.Credentials.length){τ:Type}{X:Option τ}{r:Option τ}{K:Option τ}(hX:X=bif (a.Credentials.take i).any (λq=>q.Public==a.Credentials[i].Public) then r else K):
  (bd (bif (!bX a.Credentials[i].Handle (0:Int) (1000000:Int)) then(some (true)) else(bif (decide ((↑i:Int)>(0:Int))) then(bd (bP (a.Credentials) (IntKind.i64.wrap ((↑i:Int)-(1:Int)))) λb=>bif (decide (b.Handle>=a.Credentials[i].Handle)) then(some (true)) else(bd (some (eU a.Credentials[i].Public)) λc=>bif (c==(0:Int)) then(some (true)) else(some (!bX a.Credentials[i].Counter (0:Int) (1000000:Int))))) else(bd (some (eU a.Credentials[i].Public)) λb=>bif (b==(0:Int)) then(some (true)) else(some (!bX a.Credentials[i].Counter (0:Int) (1000000:Int)))))) λd=>bif d then r else X)=bif pK a i a.Credentials[i] then r else K:=by
 grind[decide,decide_eq_false,bd_s,bX,eU,Fa,decide_eq_true,default,pK]
def Cx (a:AH)(h:a.sz<=34359738368):nT a=some (bD a):=by
 simp only[AH.sz] at h;unfold nT bD;rw[iJ (l:=a.Credentials) (pK a) (.inl false) (.inr ()) (by omega) (λrec i hi=>by
  simp only[dS hi,ae,aS hi,bd_s];rw[aC4 a.Credentials a.Credentials[i].Public i (by omega) h (by grind[dS,aS,bd_s]) (by simp)];have:=aNm a h i hi (X:=nx (some (bif (a.Credentials.take i).any (λq=>q.Public==a.Credentials[i].Public) then Sum.inl (Sum.inl false) else Sum.inr PUnit.unit)) λ_=>rec (i+1)) (r:=some (.inl false)) (K:=rec (i+1)) (by cases(a.Credentials.take i).any _<;>rfl);rw[<-this];simp only[bd_s];generalize(bif !bX a.Credentials[i].Handle 0 1000000 then _ else _:Option Bool)=q;cases q with
  |none=>rfl
  |some b=>cases b<;>rfl) (by simp)]
 rw[show decide ((a.Credentials.length:Int)<=8)=decide (a.Credentials.length<=8) from db.2 (by omega)];cases bX a.Id 0 1000000<;>cases bX a.Minimum 1 3<;>cases decide (a.Credentials.length<=8)<;>cases gX (pK a) 0 a.Credentials<;>rfl
def Cy (a:AH)(h:a.sz<=34359738368):nX a=some (bD a):=by
 simp only[AH.sz] at h;unfold nX bD;rw[iJ (l:=a.Credentials) (pK a) (.inl false) (.inr ()) (by omega) (λrec i hi=>by
  have ht:(a.Credentials.take i).length=i:=by grind
  simp only[dS hi,ae,aS hi,bd_s,aJ3];rw[aG (by grind[lW])];rw[aC4 a.Credentials a.Credentials[i].Public i (by omega) h (by grind[dS,aS,bd_s]) (by simp[*])];have:=aNm a h i hi (X:=nx (some (bif (a.Credentials.take i).any (λq=>q.Public==a.Credentials[i].Public) then Sum.inl (Sum.inl false) else Sum.inr PUnit.unit)) λ_=>rec (i+1)) (r:=some (.inl false)) (K:=rec (i+1)) (by cases(a.Credentials.take i).any _<;>rfl);rw[<-this];simp only[bd_s];generalize(bif !bX a.Credentials[i].Handle 0 1000000 then _ else _:Option Bool)=q;cases q with
  |none=>rfl
  |some b=>cases b<;>rfl) (by simp)]
 rw[show decide ((a.Credentials.length:Int)>8)= !decide (a.Credentials.length<=8) by rw[<-decide_not];exact db.2 (by omega)];cases bX a.Id 0 1000000<;>cases bX a.Minimum 1 3<;>cases decide (a.Credentials.length<=8)<;>cases gX (pK a) 0 a.Credentials<;>rfl
def oV (s:ByteArray)(hs:s.size<=34359738368):∀(n f i st:Nat) (acc:List ByteArray),s.size-i=n->n+1<f->st<=i->i<=s.size->acc.length<=i->cZ f (λc (b:(List ByteArray×Int×Int))=>bif (decide (b.2.2<=(↑s.size:Int))) then(bd (bd (bif (b.2.2==(↑s.size:Int)) then(some (true)) else(bd (bP (bO s) (b.2.2)) λj=>some (j==(46:Int)))) λk=>bif k then(gd (Mc s b.2.1 b.2.2) (gd (bK b.1 [s.extract b.2.1.toNat b.2.2.toNat]) (some ((b.1++[s.extract b.2.1.toNat b.2.2.toNat],IntKind.i64.wrap (b.2.2+(1:Int))))))) else(some (b.1,b.2.1))) λ(z2:List ByteArray×Int)=>c ((z2.1,z2.2,IntKind.i64.wrap (b.2.2+(1:Int))))) else(some (b.1))) (acc,(st:Int),(i:Int))=some (acc++(iL ((s.data.toList.drop st).take (i-st)) (s.data.toList.drop i)).map λl=>(⟨l.toArray⟩:ByteArray))
 |n,f+1,i,st,acc,hn,r,h1,h2,t=>by
  rw[iY];have e0:decide ((i:Int)<=(s.size:Int))=true:=by simpa using(show(i:Int)<=(s.size:Int) by omega)
  have es:Mc s (st:Int) (i:Int):=⟨by omega,by omega,by omega⟩;have h:bK acc ([s.extract (st:Int).toNat (i:Int).toNat]:List ByteArray):=by unfold bK;simp;omega
  have d:IntKind.i64.wrap ((i:Int)+1)=((i+1:Nat):Int):=by rw[aH (by omega) (by omega)];omega
  simp only[e0,ae];rcases Nat.lt_or_ge i s.size with a|m
  ·have e:((i:Int)==(s.size:Int))=false:=by simp;omega
   have hd:s.data.toList.drop i=s.data.toList[i]'a::s.data.toList.drop (i+1):=(cJ a);have hb:(bO s)[i]'(by rw[jF];exact a)=((s.data.toList[i]'a).toNat:Int):=by simp[bO]
   have hq:(((s.data.toList[i]'a).toNat:Int)==46)=(s.data.toList[i]'a==46):=by
    rw[fi];simp only[cU];constructor
    ·intro q;apply UInt8.toNat_inj.1;show _=46;omega
    ·intro q;rw[q];rfl
   rw[e,aj,aMi a,bd_s,bd_s,hb,hq,hd,iL];cases hc:(s.data.toList[i]'a==46) with
   |true=>rw[ae,aG es,aG h,bd_s];dsimp only;rw[d,ae,oV s hs (n-1) f (i+1) (i+1) _ (by omega) (by omega) (ak _) (by omega) (by simp;omega),bj,bj,ext_list];simp
   |false=>
    rw[aj,bd_s];dsimp only;rw[d,aj,oV s hs (n-1) f (i+1) st _ (by omega) (by omega) (by omega) (by omega) (by omega)];have:(s.data.toList.drop st).take (i+1-st)=(s.data.toList.drop st).take (i-st)++[s.data.toList[i]'a]:=by rw[show i+1-st=(i-st)+1 by omega,e8,eu,show st+(i-st)=i by omega,ab a];rfl
    rw[this]
  ·have e:((i:Int)==(s.size:Int))=true:=by simp;omega
   obtain⟨f,rfl⟩:∃g,f=g+1:=⟨f-1,by omega⟩;have o:s.data.toList.length<=i:=by have:s.data.toList.length=s.size:=rfl;omega
   have p:decide (((i+1:Nat):Int)<=(s.size:Int))=false:=by simp;omega
   rw[e,ae,bd_s,ae,aG es,aG h,bd_s,iY];dsimp only;rw[d];simp only[p,aj];rw[gt o,iL,bj,bj,ext_list];rfl
def O8 (s:ByteArray)(h:s.size<=34359738368):Bq s=some (bC s):=by
 unfold Bq;have a:=gU;have:=oV s h s.size FUEL 0 0 [] rfl (by omega) (ak _) (co _) (ak _)
 grind[bC,bd,trans]
def aC5 (s:ByteArray)(h:s.size<=34359738368):Gr s=some (pY s):=by
 unfold Gr pY;have hb:=jF s;rw[kR (l:=bO s) (λb=> !Sw b) (.inl false) (.inr ()) (by omega) (by grind[dS,aMi,bd_s,bO,Sw,bX,decide]) (by simp[*])];have e:bX (s.size:Int) 1 20=(decide (1<=s.size)&&decide (s.size<=20)):=by unfold bX;congr 1<;>exact db.2 (by omega)
 rw[e];by_cases h0:0<s.size
 ·rw[show(0:Int)=((0:Nat):Int) from rfl,aMi h0,aH (by omega) (by omega),show(s.size:Int)-1=((s.size-1:Nat):Int) by omega,aMi (by omega)];simp only[bd_s,bne,List.getD,ab (show 0<(bO s).length by rw[jF];exact h0),ab (show s.size-1<(bO s).length by rw[jF];omega),cw];cases((bO s)[0]'_==45)<;>cases((bO s)[s.size-1]'_==45)<;>cases decide (1<=s.size)<;>cases decide (s.size<=20)<;>cases(bO s).any _<;>rfl
 simp_all
def aFy (s:ByteArray)(h:s.size<=34359738368):Mh s=some (iB s):=by
 unfold Mh iB;have hl:=Fe s;simp only[aG h,bd_s];rw[kR (l:=bC s) (λl=> !pY l) (.inl false) (.inr ()) (by omega) (λrec i hi=>by
  have a:(bC s)[i].size<=34359738368:=bu (rQ s _ (cr _)) h
  grind[dS,aS,bd_s,aG]) (by simp)]
 have e':decide ((s.size:Int)<=60)=decide (s.size<=60):=db.2 (by omega);rw[e'];cases decide (s.size<=60)<;>cases(bC s).any _<;>rfl
def aFz (s:ByteArray):Ml s=some (iB s):=by
 unfold Ml iB;by_cases a:s.size<=60
 ·have hl:=Fe s;rw[show decide ((s.size:Int)>60)=false from aq (by omega),aj,aG (show s.size<4294967281/\1<=(⟨#[UInt8.ofNat 46]⟩:ByteArray).size from⟨by omega,ak _⟩),bd_s];have es:jL s ⟨#[UInt8.ofNat 46]⟩=bC s:=aA7 s;rw[es];rw[kR (l:=bC s) (λl=> !pY l) (.inl false) (.inr ()) (by omega) (λrec i hi=>by
   have c:(bC s)[i].size<=60:=bu (rQ s _ (cr _)) a;simp only[dS hi,ae,aS hi,bd_s]
   revert c
   generalize(bC s)[i]=l;intro c;have hb:=jF l;rw[kR (l:=bO l) (λb=> !Sw b) (.inl (.inl false)) (.inr ()) (by omega) (by grind[dS,aMi,bd_s,bO,Sw,bX,decide]) (by simp[*])];unfold pY;by_cases h0:0<l.size
   ·rw[show(0:Int)=((0:Nat):Int) from rfl,aMi h0,aH (by omega) (by omega),show(l.size:Int)-1=((l.size-1:Nat):Int) by omega,aMi (by omega)];have d:decide ((l.size:Int)<1)= !decide (1<=l.size):=by grind
    have e:decide ((l.size:Int)>20)= !decide (l.size<=20):=by grind
    rw[d,e];simp only[bd_s,bne,List.getD,ab (show 0<(bO l).length by rw[jF];exact h0),ab (show l.size-1<(bO l).length by rw[jF];omega),cw];cases((bO l)[0]'_==45)<;>cases((bO l)[l.size-1]'_==45)<;>cases decide (1<=l.size)<;>cases decide (l.size<=20)<;>cases(bO l).any _<;>rfl
   simp_all) (by simp)]
  rw[show decide (s.size<=60)=true by simpa using a];cases(bC s).any _<;>rfl
 grind
def Oo (s:ByteArray):uH s=some (aS9 s):=by
 unfold uH aS9;cases h:iB s with
 |false=>rfl
 |true=>
  have hs:=Ff h;have hp:=I9 s;have es:jL s ⟨#[UInt8.ofNat 46]⟩=bC s:=aA7 s;rw[bl,aj,ae,aG (show s.size<4294967281/\1<=(⟨#[UInt8.ofNat 46]⟩:ByteArray).size from⟨by omega,ak _⟩),bd_s,es];rw[show(((bC s).length:Int)==1)=((bC s).length==1) by rw[fi];simp only[cU];omega];cases h1:(bC s).length==1 with
  |true=>rfl
  |false=>
   have h2:(bC s).length≠1:=by simp_all
   have hl:=Fe s;obtain⟨a,c,b,hb,e⟩:=bBe (l:=bC s) (by omega);have c:=rQ s a c;have hb:=rQ s b hb;rw[aj,aj,aH (by omega) (by omega),show((bC s).length:Int)-2=(((bC s).length-2:Nat):Int) by omega,bj];have hd:((bC s).drop ((bC s).length-2)).length=2:=by grind
   have hj:(mQ ⟨#[UInt8.ofNat 46]⟩ ((bC s).drop ((bC s).length-2))).size<=140737488355328:=by have e:mQ ⟨#[UInt8.ofNat 46]⟩ ((bC s).drop ((bC s).length-2))=_:=e;rw[e,ByteArray.size_append,ByteArray.size_append];have:(⟨#[46]⟩:ByteArray).size=1:=rfl;omega
   simp_all[aG,lW,bC]
def aF0 (s:ByteArray)(h:s.size<=9223372036854775807):Mo s=some (Jm s):=by unfold Mo Jm;have hb:=jF s;rw[kR (l:=bO s) (λb=>b==46) (.inl true) (.inr ()) (by omega) (by grind[dS,aMi,bd_s]) (by simp[*])];cases(bO s).any _<;>rfl
def Oq (n:ByteArray)(seed:Int)(h:n.size<=9223372036854775807):uI n seed=some (iX n seed):=by
 grind[iB,aZo,decide,bC,bA,bE8,aFi,aG,bd_s,uI,iX]
def aC6 (n:ByteArray)(seed:Int)(h:n.size<=34359738368):Gs n seed=some (fB n seed):=by
 unfold Gs fB iX;have e:decide (((bC n).length:Int)<2)= !decide (2<=(bC n).length):=by grind
 simp only[aG h,bd_s,e];cases iB n<;>cases decide (2<=(bC n).length)<;>cases bA seed<;>rfl
def Ot (s:AD)(h:s.sz<=34359738368):tX s=some (dK s):=by
 simp only[AD.sz] at h;unfold tX dK;rw[iJ (l:=s.Accounts) (Ab s.Accounts) (.inl false) (.inr ()) (by omega) (by grind[nC,AH.sz,dS,aS,bd_s,aG,Ab,Fa,decide,decide_eq_true,bD,default,decide_eq_false]) (by simp)];rw[show decide ((s.Accounts.length:Int)<=8)=decide (s.Accounts.length<=8) from db.2 (by omega)];have a:(!((fB s.Name s.Book.Seed).Name.toList==(⟨#[]⟩:ByteArray).toList))=iX s.Name s.Book.Seed:=by rw[bE8,aOv,Bool.not_not]
 simp only[aG (show s.Name.size<=34359738368 by omega),aG (show s.Book.sz<=34359738368 by simp only[AQ.sz];omega),bd_s,a];cases iX s.Name s.Book.Seed<;>cases decide (s.Accounts.length<=8)<;>cases fJ s.Book<;>cases gX (Ab s.Accounts) 0 s.Accounts<;>rfl
def Ou (s:AD)(h:s.sz<=34359738368):uK s=some (dK s):=by simp only[AD.sz] at h;unfold uK dK;rw[iJ (l:=s.Accounts) (Ab s.Accounts) (.inl false) (.inr ()) (by omega) (by grind[nC,AH.sz,dS,aS,bd_s,aG,Ab,Fa,decide,decide_eq_true,bD,default,decide_eq_false]) (by simp)];rw[show decide ((s.Accounts.length:Int)>8)= !decide (s.Accounts.length<=8) by rw[<-decide_not];exact db.2 (by omega)];simp only[aG (show s.Name.size<=9223372036854775807 by omega),aG (show s.Book.sz<=34359738368 by simp only[AQ.sz];omega),bd_s];cases iX s.Name s.Book.Seed<;>cases decide (s.Accounts.length<=8)<;>cases fJ s.Book<;>cases gX (Ab s.Accounts) 0 s.Accounts<;>rfl
def aC7 (l:List AC)(e:AC)(h:l.length<=34359738368):Gm l e=some (iA l e):=by unfold Gm iA;have hd:=gD l;rw[kR (l:=l) (λq=>q.Kind==2&&q.Device==e.Device) (.inl false) (.inr ()) (by omega) (by grind[dS,aS,bd_s]) (by simp)];rw[show(l.any λq=>q.Kind==2&&q.Device==e.Device)=dD l e.Device from rfl];simp only[aG h,aG (show(aA l).length<=1099511627776 by omega),aG (show([bJ e]:List Int).length<=34359738300 by simp),bd_s,bne];cases(e.Index==(l.length:Int))<;>cases(e.Previous==eH l)<;>cases gB (aA l) e.By<;>cases((l.length:Int)==0)<;>cases(e.By==e.Device)<;>cases eX e.By [bJ e] e.Signature<;>cases(e.Kind==2)<;>cases gB (aA l) e.Device<;>cases dD l e.Device<;>cases(e.Kind==1)<;>rfl
def Zh (l:List AC)(h:l.length<=34359738368):yC l=some (aT l):=by unfold yC aT;rw[iJ (l:=l) (λi e=> !iA (l.take i) e) (.inl false) (.inr ()) (by omega) (by grind[dS,aS,bd_s,aJ3,aG,lW,List.length_take]) (by simp)];cases gX (λi e=> !iA (l.take i) e) 0 l<;>simp
def Zi (l:List AC)(h:l.length<=34359738368):yM l=some (aT l):=by
 unfold yM aT;rw[iJ (l:=l) (λi e=> !iA (l.take i) e) (.inl false) (.inr ()) (by omega) (λrec i hi=>by
  have ht:(l.take i).length=i:=by grind
  have hb:(l.take i).length<=34359738368:=by omega
  have hd:=gD (l.take i);simp only[dS hi,ae,aS hi,bd_s,aJ3,aG (show lW l (i:Int) by unfold lW;omega),aG hb,aG (show(aA (l.take i)).length<=1099511627776 by omega),aG (show([bJ l[i]]:List Int).length<=34359738300 by simp)];unfold iA;rw[ht];generalize l[i]=e;have h1:decide (((aA (l.take i)).length:Int)>=6)= !decide (((aA (l.take i)).length:Int)<6):=by grind
  have h2:gB (aA (l.take i)) e.Device=true->decide (((aA (l.take i)).length:Int)>1)= !(((aA (l.take i)).length:Int)==1):=(by grind[aWl,Bool.decide_eq_true,aA,decide_not]);simp only[h1,bne];cases d:(e.Kind==2) with
  |true=>
   have a:(e.Kind==1)=false:=by simp_all
   rw[a];cases hd:gB (aA (l.take i)) e.Device with
   |true=>rw[h2 hd];cases(e.Index==(i:Int))<;>cases(e.Previous==eH (l.take i))<;>cases gB (aA (l.take i)) e.By<;>cases((i:Int)==0)<;>cases(e.By==e.Device)<;>cases eX e.By [bJ e] e.Signature<;>cases(((aA (l.take i)).length:Int)==1)<;>rfl
   |false=>cases(e.Index==(i:Int))<;>cases(e.Previous==eH (l.take i))<;>cases gB (aA (l.take i)) e.By<;>cases((i:Int)==0)<;>cases(e.By==e.Device)<;>cases eX e.By [bJ e] e.Signature<;>rfl
  |false=>
   cases(e.Kind==1) with
   |true=>cases(e.Index==(i:Int))<;>cases(e.Previous==eH (l.take i))<;>cases gB (aA (l.take i)) e.By<;>cases((i:Int)==0)<;>cases(e.By==e.Device)<;>cases eX e.By [bJ e] e.Signature<;>cases gB (aA (l.take i)) e.Device<;>cases dD (l.take i) e.Device<;>cases decide (((aA (l.take i)).length:Int)<6)<;>rfl
   |false=>cases(e.Index==(i:Int))<;>cases(e.Previous==eH (l.take i))<;>cases gB (aA (l.take i)) e.By<;>cases((i:Int)==0)<;>cases(e.By==e.Device)<;>cases eX e.By [bJ e] e.Signature<;>cases dD (l.take i) e.Device<;>rfl) (by simp)]
 unfold bX;have b:decide ((l.length:Int)<1)= !decide (1<=(l.length:Int)):=by grind
 have c:decide ((l.length:Int)>40)= !decide ((l.length:Int)<=40):=by grind
 rw[b,c];cases decide (1<=(l.length:Int))<;>cases decide ((l.length:Int)<=40)<;>cases gX (λi e=> !iA (l.take i) e) 0 l<;>rfl
def Kq (w:AA)(h:w.sz<=34359738368):qY w=some (bL w):=by
 simp only[AA.sz] at h;unfold qY bL;rw[iJ (l:=w.Sites) nE (.inl false) (.inr ()) (by omega) (λrec i hi=>by
  have a:=nC (f:=AD.sz) hi;simp only[dS hi,ae,aS hi,bd_s,aG (show w.Sites[i].sz<=34359738368 by omega)];unfold nE;cases dK w.Sites[i]<;>cases(w.Sites[i].Name.toList==(aC (i:Int)).toList)<;>rfl) (λrec=>by simp only[aS7,aj])]
 simp only[aG (show w.Mail.sz<=34359738368 by simp only[AR.sz];omega),aG (show w.aAB.Log.length<=34359738368 by omega),bne,bd_s];cases gX nE 0 w.Sites<;>cases bX w.Now 0 999900<;>cases bX (w.Devices.length:Int) 1 6<;>cases((w.Stolen.length:Int)==(w.Devices.length:Int))<;>cases((w.Sites.length:Int)==2)<;>cases eF w.Mail<;>cases aT w.aAB.Log<;>cases bA w.Seed<;>rfl
def Kr (w:AA)(h:w.sz<=34359738368):qZ w=some (bL w):=by simp only[AA.sz] at h;unfold qZ bL;rw[iJ (l:=w.Sites) nE (.inl false) (.inr ()) (by omega) (by grind[nC,AD.sz,dS,aS,bd_s,aG,nE,dK,aC]) (by simp)];simp only[aG (show w.Mail.sz<=34359738368 by simp only[AR.sz];omega),aG (show w.aAB.Log.length<=34359738368 by omega),bne,bd_s];cases gX nE 0 w.Sites<;>cases bX w.Now 0 999900<;>cases bX (w.Devices.length:Int) 1 6<;>cases((w.Stolen.length:Int)==(w.Devices.length:Int))<;>cases((w.Sites.length:Int)==2)<;>cases eF w.Mail<;>cases aT w.aAB.Log<;>cases bA w.Seed<;>rfl
def aKt (a:Int):aKp a=some (fQ a 1019):=rfl
def bF1:((1019:Int)≠0)=True:=by simp
def aF1 (c:Int)(l:List Int)(x:Int)(h:0<=x/\x<=1000/\l.length<=34359738368):Mj c l x=some (Fp c l x):=by
 obtain⟨h1,h2,a⟩:=h;have hr:=aBb ⟨h1,h2⟩ l;have hm:=sI (p:=c) (q:=1019) (by omega);unfold Mj Fp;rw[aWq (l:=l) (aBa x) some (by omega) (λrec s i hi=>by
  simp only[show decide ((i:Int)>=0)=true from av (by omega),ae,aS hi,bd_s,bF1,gd_T,aH (show-9223372036854775808<=(i:Int)-1 by omega) (by omega)];rfl) (λrec s=>rfl) (aH (by omega) (by omega))]
 simp only[bd_s,bF1,gd_T];rw[aH (by omega) (by omega),cn (by omega)]
def aC8 (k:AU):aCk k=some (qP k):=rfl
def O9 (k:AU):O3 k=some (qP k):=rfl
def Ov (b:List Int)(h:b.length<=34359738360):tT b=some (Cs b):=by unfold tT Cs;rw[bBf (l:=b) IntKind.i64.wrap (by simp;omega) (by grind[dS,aS,bd_s,jM]) (by simp)];rfl
def Ox (b:List Int)(h:b.length<=34359738360):uN b=some (Cs b):=by unfold uN Cs;rw[bBf (l:=b) IntKind.i64.wrap (by simp;omega) (by grind[dS,aS,bd_s,jM]) (by simp)];rfl
def yU (k:Int)(s:ByteArray)(h:s.size<=34359738300):mX k s=some (xR k s):=by have hb:=jF s;unfold mX xR;rw[aJ9,aG (by omega),bd_s,aG (by rw[aZr];omega),bd_s,aMe (lL _ _).1]
def P5 (s:ByteArray)(h:s.size<=34359738300):Bt s=some (bN s):=by unfold Bt;rw[aG h];rfl
theorem aRx {b:AF}{s h:Int}(d:decide (aJ b s h>=0)=true):bP b.Entries (aJ b s h)=some (b.Entries.getD (aJ b s h).toNat default)/\(aJ b s h).toNat<b.Entries.length/\(b.Entries.getD (aJ b s h).toNat default).Site=s/\(b.Entries.getD (aJ b s h).toNat default).Handle=h:=by
 have h0:=of_decide_eq_true d;obtain⟨l1,e,l2,f,c,a⟩:=Jn (p:=λe:AG=>e.Site==s&&e.Handle==h) (l:=b.Entries) (i:=0) h0;have a:aJ b s h=((0+l1.length:Nat):Int):=a;rw[ck] at a;have hl:l1.length<b.Entries.length:=by simp[*]
 have hg:b.Entries.getD l1.length default=e:=by simp[*]
 rw[a,bj,hg];simp only[aa,cU] at c;refine⟨?_,hl,c.1,c.2⟩;rw[aS hl];have:b.Entries[l1.length]=e:=by simp[*]
 rw[this]
def bAt (b:AF)(x:AG):(rT b x).Entries.length<=b.Entries.length+1:=by
 grind[decide,aJ,List.length,List.takeWhile_append_dropWhile,qA,List.length_append,List.length_singleton,rT]
def P6 (b:AF)(s h:Int)(a:b.sz<=34359738360):Bv b s h=some (aFj b s h):=by
 have hq:=a;simp only[AF.sz] at hq;have hs:=bAt b (Ta b s h);unfold Bv aFj;have c:(rT b (Ta b s h)).sz<=34359738368:=by grind[AF.sz]
 rw[aG (by omega),aG (by omega)];simp only[aG (show b.sz<=34359738360 from a),aG (show b.sz<=34359738368 by omega),bd_s];cases d:decide (aJ b s h>=0) with
 |true=>
  obtain⟨h1,h2,_,_⟩:=aRx d;have hv:Ta b s h=⟨s,h,IntKind.i64.wrap ((b.Entries.getD (aJ b s h).toNat default).Version+1),false⟩:=by grind[Ta,aZq]
  rw[ae,h1,bd_s];cases hd:(b.Entries.getD (aJ b s h).toNat default).Deleted with
  |false=>rfl
  |true=>rw[bd_s,bl,aj,nx_r,<-hv,aG c];cases aP b<;>cases aP (rT b (Ta b s h))<;>rfl
 |false=>
  have hv:Ta b s h=⟨s,h,1,false⟩:=by grind[Ta,aZq]
  rw[aj,nx_r,<-hv,aG c];cases aP b<;>cases aP (rT b (Ta b s h))<;>rfl
def Ed.of' {w:AA}(h:w.sz<=34359738368):Ed w:=by
 grind[Ed,AA.sz]
def P7 (w:AA)(d:Int)(h:w.sz<=34359738368):Cf w d=some (bL w&&aO w d):=by unfold Cf;rw[aG h,bd_s,aHx (Ed.of' h),bDf,bd_s]
def Oy (b:AF)(s h:Int)(a:b.sz<=34359738360):uC b s h=some (aFk b s h):=by
 grind[aP,aJ,decide_eq_true,aRx,decide_eq_false,bd_s,default,aTa,aG,uC,aFk]
def Kt (d:AB)(n:ByteArray)(h:Int)(rm:Bool)(a:d.sz<=34359738360/\n.size<=34359738300):qU d n h rm=some (dP d n h rm):=by
 obtain⟨h1,h2⟩:=a;have hb:d.aAD.sz<=34359738360:=by grind[AB.sz,AF.sz]
 unfold qU dP Ac;simp only[aG (show d.sz<=34359738368 by omega),aG h2,aG hb,bd_s];cases rm with
 |true=>simp only[ae,bd_s];cases(aFk d.aAD (bN n) h).2<;>rfl
 |false=>simp only[aj,bd_s];cases(aFj d.aAD (bN n) h).2<;>rfl
def aC9 (l:List AC)(h:l.length<=34359738368):Gn l=some (aB l):=by unfold Gn;rw[fT (l:=l) (λn e=>bif e.Kind==2 then IntKind.i64.wrap (n+1) else n) (λ_ _=>True) (λs=>some s) (by omega) trivial (by simp) (by grind[dS,aS,bd_s]) (by simp)];rfl
def aDa (l:List AC)(h:l.length<=34359738368):Ib l=some (aB l):=by unfold Ib;rw[fT (l:=l) (λn e=>bif e.Kind==2 then IntKind.i64.wrap (n+1) else n) (λ_ _=>True) (λs=>some s) (by omega) trivial (by simp) (by grind[dS,aS,bd_s]) (by simp)];rfl
def aF2 (p e:Int):aFr p e=some (fI p e):=by rfl
def aF3 (p e:Int):aFp p e=some (fI p e):=by rfl
def aF4 (k:Int)(b:AN)(h:b.Data.length<=34359738200):Mg k b=some (Ke k b):=by
 grind[aG,bd_s,bK,Cs,Mg,Ke]
def aF5 (k:Int)(b:AN)(h:b.Data.length<=34359738200):Mt k b=some (Ke k b):=by
 grind[Ez,aG,bd_s,Cs,Mt,Ke]
def Zj {α β:Type}{y:Nat->α->β}:∀{l:List α} {j i:Nat} (hi:i<l.length),Co (λi x=>[y i x]) j (l.take (i+1))=Co (λi x=>[y i x]) j (l.take i)++[y (j+i) l[i]]
 |x::xs,j,0,_=>by simp[Co]
 |x::xs,j,i+1,hi=>by
  have:=Zj (y:=y) (l:=xs) (j:=j+1) (i:=i) (by simpa using hi);simp only[gE,Co,fu,this,cF,bz];rw[show j+1+i=j+(i+1) by omega]
def aRy {k:Int}{b:List Int}(hl:b.length<=34359738368){F:(List Int×Nat->Option (List Int))->List Int×Nat->Option (List Int)}
  (a:∀rec i s (hi:i<b.length),s.length<=34359738368->F rec (s,i)=rec (s++[aJ5 k i b[i]],i+1)) (c:∀rec s,F rec (s,b.length)=some s):cZ FUEL F ([],0)=some (Kc k b):=by
 refine aJ2 (λi s=>i<=b.length/\s=(Co (λi z=>[aJ5 k i z]) 0 (b.take i),i)) b.length _ (by omega) ⟨by omega,by simp[Co]⟩ (λi s rec hi hv=> ?_) (λs rec hv=> ?_)
 ·obtain⟨_,rfl⟩:=hv;refine .inl ⟨_,⟨hi,rfl⟩,?_⟩;rw[a rec i _ hi (by rw[nD,cx];omega),Zj hi,ck]
 ·obtain⟨_,rfl⟩:=hv;rw[c,eC];rfl
def aDb (k:Int)(b:List Int)(h:b.length<=34359738368):He k b=some (Kc k b):=by unfold He;rw[aRy (k:=k) h (by grind[aWk,dS,aS,bd_s,aG,gd_T,jM]) (by simp)];rfl
def aDc (k:Int)(b:List Int)(h:b.length<=34359738368):Hy k b=some (Kc k b):=by unfold Hy;rw[aRy (k:=k) h (by grind[aWj,dS,aS,bd_s,aG,jM]) (by simp)];rfl
def aDd (p:Int)(b:AN):Hf p b=some (dY p b):=by
 grind[decide,decide_eq_true,bA,dC,aG,bd_s,decide_eq_false,Ke,fI,Hf,dY]
def Ul {bs:List AN}{p:Int}(hl:bs.length<=34359738368){F:(Nat->Option ((List Int×Bool)⊕PUnit))->Nat->Option ((List Int×Bool)⊕PUnit)}
  (a:∀rec i (hi:i<bs.length),F rec i=bif (dY p bs[i]).2 then some (.inl ((dY p bs[i]).1,true)) else rec (i+1)) (b:∀rec,F rec bs.length=some (.inr ())):nx (cZ FUEL F 0) (λ_=>some (([]:List Int),false))=some (eG bs p):=by
 have go:∀(k i n:Nat),i+k=bs.length->k<n->nx (cZ n F i) (λ_=>some (([]:List Int),false))=some (eG (bs.drop i) p):=by
  intro k;induction k with
  |zero=>
   intro i n hk hn;obtain⟨n,rfl⟩:∃m,n=m+1:=⟨n-1,by omega⟩;have:i=bs.length:=by omega
   subst this;rw[iY,b,gn];rfl
  |succ k c=>
   intro i n hk hn;obtain⟨n,rfl⟩:∃m,n=m+1:=⟨n-1,by omega⟩;have hi:i<bs.length:=by omega
   rw[iY,a _ i hi,cJ hi,eG];cases(dY p bs[i]).2 with
   |true=>rfl
   |false=>grind
 exact go bs.length 0 FUEL (by omega) (by grind[gU])
def aDe (bs:List AN)(p:Int)(h:bs.length<=34359738368):Hg bs p=some (eG bs p):=by unfold Hg;exact Ul h (by grind[dS,aS,bd_s]) (by simp)
def aDf (p:Int)(b:AN):Hz p b=some (dY p b):=by
 grind[decide,decide_eq_true,bA,dC,aG,bd_s,decide_eq_false,Ke,fI,Hz,dY]
def aDg (bs:List AN)(p:Int)(h:bs.length<=34359738368):Ia bs p=some (eG bs p):=by unfold Ia;exact Ul h (by grind[dS,aS,bd_s]) (by simp)
theorem aNn {c:AO}{b:Int}(a:c.sz<=34359738368)(h0:0<=b/\b<(c.History.length:Int)):bP c.History (IntKind.i64.wrap (IntKind.i64.wrap ((c.History.length:Int)-1)-b))=some (c.History.getD (c.History.length-1-b.toNat) default)/\(c.History.getD (c.History.length-1-b.toNat) default).sz<=34359738368:=by simp only[AO.sz] at a;have h1:=Jo (f:=AI.sz) (l:=c.History) (i:=c.History.length-1-b.toNat) (by omega);refine⟨?_,by omega⟩;rw[aH (n:=(c.History.length:Int)-1) (by omega) (by omega),aH (by omega) (by omega),Fj (by omega) (by omega)];congr 2;omega
def Oz (c:AO)(b:Int)(a:c.sz<=34359738368):uE c b=some (fC c b):=by
 grind[decide,aNn,aWo,bd_s,aG,aZp,AO.sz,uE,fC]
def aX7 {a b:List AC}(d:a.length<=34359738368){F:(Nat->Option (Bool⊕PUnit))->Nat->Option (Bool⊕PUnit)}
  (f:∀rec i (hi:i<b.length) (hj:i<a.length),F rec i=bif !aTb a[i] b[i] then some (.inl false) else rec (i+1)) (c:∀rec,F rec b.length=some (.inr ())):
  (bif decide ((a.length:Int)<(b.length:Int)) then some false else nx (cZ FUEL F 0) λ_=>some true)=some (bT a b):=by
 unfold bT;by_cases h:b.length<=a.length
 ·rw[aq (show ¬(a.length:Int)<(b.length:Int) by omega),aj,av h,cM,
   iJ (l:=b) (λi e=> !aTb (a.getD i default) e) (.inl false) (.inr ()) (by omega) (by grind[List.getD,List.getElem?_eq_getElem]) c]
  cases gX (λi e=> !aTb (a.getD i default) e) 0 b<;>rfl
 grind
def Um (a b:List AC)(h:a.length<=34359738368):vZ a b=some (bT a b):=by unfold vZ;exact aX7 h (λrec i hi hj=>by simp only[dS hi,ae,aS hi,aS hj,bd_s];rfl) (by simp)
def Zk (k:Int)(b:AI)(h:b.Data.length<=34359738200):yG k b=some (kY k b):=by
 grind[aG,bd_s,bK,Cs,yG,kY]
def P8 (k e v:Int):Bw k e v=some (bA k&&(bX e 0 1000000&&bX v 0 1000000)):=by unfold Bw;cases bA k<;>cases bX e 0 1000000<;>rfl
def aF6 (k e v:Int):aFq k e v=some (kZ k e v):=by rfl
def uP (b:List Int)(hb:aX b)(p:Nat)(hp:p<=34359738368){F:(Int×Int×Nat->Option ((Int×Int×Bool)⊕PUnit))->Int×Int×Nat->Option ((Int×Int×Bool)⊕PUnit)}
  (j:∀rec (n q:Int) (i:Nat),F rec (n,q,i)=bif decide ((i:Int)<6) then(bif decide (IntKind.i64.wrap ((p:Int)+(i:Int))>=(b.length:Int)) then some (.inl (0,0,false)) else bd (bP b (IntKind.i64.wrap ((p:Int)+(i:Int)))) λz=>gd ((128:Int)≠0) (bif decide (IntKind.i64.wrap z<128) then(bd (bif decide ((i:Int)>0) then(bif IntKind.i64.wrap z==0 then some true else some (decide (IntKind.i64.wrap (n+IntKind.i64.wrap ((IntKind.i64.wrap z).tmod 128*q))>1000000000000))) else some (decide (IntKind.i64.wrap (n+IntKind.i64.wrap ((IntKind.i64.wrap z).tmod 128*q))>1000000000000))) λc=>bif c then some (.inl (0,0,false)) else some (.inl (IntKind.i64.wrap (n+IntKind.i64.wrap ((IntKind.i64.wrap z).tmod 128*q)),IntKind.i64.wrap (IntKind.i64.wrap ((p:Int)+(i:Int))+1),true))) else rec (IntKind.i64.wrap (n+IntKind.i64.wrap ((IntKind.i64.wrap z).tmod 128*q)),IntKind.i64.wrap (q*128),i+1))) else some (.inr ())):
  ∀(k i:Nat) (n:Int) (f:Nat),i+k=6->k<f->0<=n->n<128^i->nx (cZ f F (n,(128:Int)^i,i)) (λ_=>some ((0:Int),(0:Int),false))=some (uvG b p k i n)
 |0,i,n,f+1,hk,w,h0,h1=>by
  rw[iY,j,show decide ((i:Int)<6)=false from aq (by omega)];rfl
 |k+1,i,n,f+1,hk,w,h0,h1=>by
  have l:=aJ6 (i:=i) (by omega);rw[iY,j,show decide ((i:Int)<6)=true from av (by omega),ae];rw[show IntKind.i64.wrap ((p:Int)+(i:Int))=((p+i:Nat):Int) by rw[aH (by omega) (by omega)];omega];unfold uvG;by_cases a:p+i<b.length
  ·have m:=vL hb a;have hg:b.getD (p+i) 0=b[p+i]:=by simp[List.getD,ab a]
   rw[cA a,hg,aS a];generalize b[p+i]=z at m;rw[show decide (((p+i:Nat):Int)>=(b.length:Int))=false from aq (by omega)];have hs:=aJ7 (z:=z) (n:=n) (i:=i) (by omega) m.1 h0 h1;have o:IntKind.i64.wrap z=z:=aH (by omega) (by omega);have r:z.tmod 128=z%128:=cn m.1;have s:IntKind.i64.wrap (z%128*128^i)=z%128*128^i:=aH (by omega) (by omega);have x:=aJ6 (i:=i+1) (by omega);have t:IntKind.i64.wrap (n+z%128*128^i)=n+z%128*128^i:=aH (by omega) (by omega);have u:IntKind.i64.wrap (((p+i:Nat):Int)+1)=((p+i+1:Nat):Int):=by rw[aH (by omega) (by omega)];omega
   have v:IntKind.i64.wrap ((128:Int)^i*128)=128^(i+1):=by rw[<-fb,aH (by omega) (by omega)]
   have h:((128:Int)≠0)=True:=by simp
   simp only[aj,bd_s,o,r,s,t,u,v,h,gd_T];by_cases d:z<128
   ·simp only[d,decide_true,ae];have e:(decide ((i:Int)>0))=decide (0<i):=db.2 (by omega);rw[e];cases decide (0<i)<;>cases(z==0)<;>cases decide (n+z%128*128^i>1000000000000)<;>rfl
   ·simp only[d,decide_false,aj];exact uP b hb p hp j k (i+1) _ f (by omega) (by omega) hs.1 hs.2.1
  ·rw[dc a,show decide (((p+i:Nat):Int)>=(b.length:Int))=true from av (by omega)];rfl
def Pb (b:List Int)(a:Int)(hb:aX b):uO b a=some (xA b a):=by
 unfold uO xA;have c:=gU;have hlen:=hb.1;rw[aA9,bd_s];by_cases h0:a<0
 ·simp[h0]
 ·rw[dc h0,aq h0,dg];by_cases h1:a>=b.length
  ·grind[uvG,decide_eq_true]
  ·rw[aq h1,aj];obtain⟨p,rfl⟩:=dz (show 0<=a by omega);exact uP b hb p (by omega) (λrec n q i=>rfl) 6 0 0 FUEL rfl (by omega) (by omega) (by decide)
theorem Ay (b:List Int)(c:Int)(hc:c<=100){F:(Int×List Int×Nat->Option ((List Int×Int×Bool)⊕(Int×List Int)))->Int×List Int×Nat->Option ((List Int×Int×Bool)⊕(Int×List Int))}
  (d:∀rec (a:Int) (s:List Int) (i:Nat),s.length<=34359738368->F rec (a,s,i)=bif decide ((i:Int)<c) then(bif !(xA b a).2.2 then some (.inl ([],0,false)) else rec ((xA b a).2.1,s++[(xA b a).1],i+1)) else some (.inr (a,s))):
  ∀(k i:Nat) (a:Int) (s:List Int) (f:Nat),((i+k:Nat):Int)=c->k<f->s.length<=i->nx (cZ f F (a,s,i)) (λz=>some (z.2,z.1,true))=some (jE b k a s)
 |0,i,a,s,f+1,hk,e,hs=>by
  rw[iY,d _ _ _ _ (by omega),show decide ((i:Int)<c)=false from aq (by omega)];rfl
 |k+1,i,a,s,f+1,hk,e,hs=>by
  rw[iY,d _ _ _ _ (by omega),show decide ((i:Int)<c)=true from av (by omega),ae];unfold jE;cases(xA b a).2.2 with
  |false=>rfl
  |true=>simp only[bl,aj,ae];exact Ay b c hc d k (i+1) _ _ f (by omega) (by omega) (by simp;omega)
def Uo (b:List Int)(a c:Int)(hb:aX b):wM b a c=some (gZ b a c):=by
 grind[decide_false,bd_s,decide_true,Bool.not_true,Bool.or_self,Ay,aG,jM,FUEL,gU,wM,gZ,bX]
def Uq (b:List Int)(a c:Int)(hb:aX b):wD b a c=some (gZ b a c):=by
 grind[bX,gN,Bool.not_true,bd_s,Bool.or_self,Ay,aG,jM,FUEL,gU,wD,gZ]
theorem uQ (b:List Int)(hb:aX b)(a:Int)(q:0<=a){F:(Int×Nat->Option ((Int×Int×Bool)⊕PUnit))->Int×Nat->Option ((Int×Int×Bool)⊕PUnit)}
  (l:∀rec (n:Int) (i:Nat),F rec (n,i)=bif decide ((i:Int)<6) then(bd (bif decide (a<0) then some true else some (decide (a>=IntKind.i64.wrap ((b.length:Int)-(i:Int))))) λc=>bif c then some (.inl (0,0,false)) else bd (bP b (IntKind.i64.wrap (a+(i:Int)))) λz=>gd ((0:Int)<=IntKind.i64.wrap (7*(i:Int))) (bif decide (IntKind.i64.wrap z<128) then(bd (bif IntKind.i64.wrap z==0 then(bif decide ((i:Int)>0) then some true else some (decide (orI .i64 n (Rm .i64 (qG .i64 (IntKind.i64.wrap z) 127) (IntKind.i64.wrap (7*(i:Int))))>1000000000000))) else some (decide (orI .i64 n (Rm .i64 (qG .i64 (IntKind.i64.wrap z) 127) (IntKind.i64.wrap (7*(i:Int))))>1000000000000))) λc=>bif c then some (.inl (0,0,false)) else some (.inl (orI .i64 n (Rm .i64 (qG .i64 (IntKind.i64.wrap z) 127) (IntKind.i64.wrap (7*(i:Int)))),IntKind.i64.wrap (IntKind.i64.wrap (a+(i:Int))+1),true))) else rec (orI .i64 n (Rm .i64 (qG .i64 (IntKind.i64.wrap z) 127) (IntKind.i64.wrap (7*(i:Int)))),i+1))) else some (.inr ())):
  ∀(k i:Nat) (n:Int) (f:Nat),i+k=6->k<f->0<=n->n<128^i->nx (cZ f F (n,i)) (λ_=>some ((0:Int),(0:Int),false))=some (uvG b a.toNat k i n)
 |0,i,n,f+1,hk,r,h0,h1=>by
  rw[iY,l,show decide ((i:Int)<6)=false from aq (by omega)];rfl
 |k+1,i,n,f+1,hk,r,h0,h1=>by
  have hlen:=hb.1;rw[iY,l,show decide ((i:Int)<6)=true from av (by omega),ae,aA9,bd_s];rw[show IntKind.i64.wrap ((b.length:Int)-(i:Int))=(b.length:Int)-(i:Int) from aH (by omega) (by omega),show decide (a<0)=false from aq (by omega),dg];unfold uvG;by_cases d:a.toNat+i<b.length
  ·have j:=vL hb d;have hg:b.getD (a.toNat+i) 0=b[a.toNat+i]:=by simp[List.getD,ab d]
   have m:IntKind.i64.wrap (a+(i:Int))=((a.toNat+i:Nat):Int):=by rw[aH (by omega) (by omega)];omega
   rw[cA d,hg,m,aS d];generalize b[a.toNat+i]=z at j;rw[show decide (a>=(b.length:Int)-(i:Int))=false from aq (by omega)];have hs:=aJ7 (z:=z) (n:=n) (i:=i) (by omega) j.1 h0 h1;have o:IntKind.i64.wrap z=z:=aH (by omega) (by omega);have ho:=aZn (z:=z) (n:=n) (i:=i) (by omega) j.1 j.2 h0 h1;have p:IntKind.i64.wrap (((a.toNat+i:Nat):Int)+1)=((a.toNat+i+1:Nat):Int):=by rw[aH (by omega) (by omega)];omega
   have s:0<=IntKind.i64.wrap ((7:Int)*(i:Int)):=by rw[aH (by omega) (by omega)];omega
   simp only[aj,bd_s,o,ho,p];rw[aG s];by_cases h:z<128
   ·simp only[h,decide_true,ae];have e:(decide ((i:Int)>0))=decide (0<i):=db.2 (by omega);rw[e];cases decide (0<i)<;>cases(z==0)<;>cases decide (n+z%128*128^i>1000000000000)<;>rfl
   ·simp only[h,decide_false,aj];exact uQ b hb a q l k (i+1) _ f (by omega) (by omega) hs.1 hs.2.1
  ·rw[dc d,show decide (a>=(b.length:Int)-(i:Int))=true from av (by omega)];rfl
def Pd (b:List Int)(a:Int)(hb:aX b):uF b a=some (xA b a):=by
 unfold uF xA;have d:=gU;by_cases h0:a<0
 ·rw[cA h0];obtain⟨f,c⟩:∃f,FUEL=f+1:=⟨FUEL-1,by omega⟩;simp_all[nx,iY]
 grind[uQ,FUEL]
def Cz (s:AK)(e:AM)(a:e.sz<=34359738368):nU s e=some (bS s e):=by
 simp only[AM.sz] at a;unfold nU bS
 grind[decode_len,gZ,Aa,bP,bd_s,Bool.not_true,bA,eG,fH,aG,Ns]
def Da (s:AK)(e:AM)(a:e.sz<=34359738368):oC s e=some (bS s e):=by
 simp only[AM.sz] at a;unfold oC bS;rw[aG (by simp),bd_s,aG (by omega),bd_s,aG (Ns _ _),show aW s.Seed [181]=fH s from rfl]
 grind[decode_len,gZ,Aa,bP,bd_s,Bool.not_true,bA,eG,fH]
def bAu {F:(Int×List Int->Option (Int×List Int))->Int×List Int->Option (Int×List Int)}{n:Int}{b:List Int}(hk:0<=n/\n<=1000000000000)(hb:b.length<=34359738300)
  (a:∀rec (n:Int) (s:List Int),0<=n->n<9223372036854775807->s.length<=34359738368->F rec (n,s)=bif decide (n>127) then rec (n/128,s++[n%128+128]) else some (n,s)):
  (bd (EV.cZ FUEL F (n,b)) λz=>gd (bK z.2 [IntKind.u8.wrap z.1]) (some (z.2++[IntKind.u8.wrap z.1])))=some (b++Xd 5 n):=by
 have f:(128:Int)^(5+1)=4398046511104:=by decide
 obtain⟨m,q,c,d,e,h⟩:=aMp a 5 n b FUEL (by grind[gU]) hk.1 (by omega) (by omega) (by omega);have hq:q.length<=34359738368:=by
  grind[List.length_append,List.length_singleton,aKa,List.length]
 rw[c,bd_s];simp only[aMq e (by omega)];rw[jM (s:=q) hq,d]
def Ic (b:List Int)(n:Int)(h:b.length<=34359738300):qB b n=some (Fq b n):=by
 unfold qB Fq enc1;rw[xB (by omega)];cases hr:bX n 0 1000000000000 with
 |false=>simp
 |true=>rw[bl,aj,ae,bz];exact bAu (gN hr) h (by grind[decide,gd,bK,orI,qG,Eh,aZv,bDi,Int.emod_nonneg,Int.emod_lt_of_pos,bFc,aMq,jM,aG])
def aI1:∀(l s:List Int),l.foldl Fq s=s++gQ l
 |[],s=>by simp[gQ]
 |x::l,s=>by rw[df,aI1 l,oO,Fq,ce]
def Ur (l:List Int)(h:l.length<=5000000000):vW l=some (gQ l):=by unfold vW;rw[fT (l:=l) Fq (λi s=>s.length<=6*i) (λs=>some s) (by omega) (by simp) (by grind[aBc,Fq,List.length_append]) (by grind[dS,aS,bd_s,aG]) (by simp),aI1];rfl
def aDh:∀(l:List AG) (s:List Int),l.foldl (λs e=>s++aMs e) s=s++iQ l
 |[],s=>by simp[iQ]
 |x::l,s=>by rw[df,aDh l];simp[iQ]
def Ku (b:AF)(h:b.sz<=34359738368):qV b=some (mU b):=by
 unfold qV mU;rw[aG h,bd_s];cases hb:aP b with
 |false=>rfl
 |true=>
  have hl:=mI hb;have hv:(sW b).length=1+4*b.Entries.length:=by grind[sW,sF]
  rw[bl,aj,ae,fT (l:=b.Entries) (λs e=>s++aMs e) (λi s=>s.length<=1+4*i) (λs=>some s) (by omega) (by simp) (by grind[aMs,List.length_append,List.length_cons,List.length_nil]) (λrec i s hi hv=>by
   have e:∀x y z w:Int,gd (bK s [x,y,z,w]) (some (s++[x,y,z,w]))=some (s++[x,y,z,w]):=(by grind[aG,bK,List.length_cons,List.length_nil]);simp only[dS hi,ae,aS hi,bd_s,Sz,e];rfl) (by simp),aDh,bd_s]
  grind[aG,iQ,sW,bd_s]
def Ut (a b:List Int)(h:aX a/\aX b):wE a b=some (a==b):=by obtain⟨c,hb⟩:=h;have h1:=c.1;have h2:=hb.1;unfold wE;rw[aG (by omega),aG (by omega),aJ9,aJ9,ByteArray.toList_eq,ByteArray.toList_eq,aH3,aH3];congr 1;rw[fi,cU,cU];exact⟨λh=>bytes_inj (Fs c) (Fs hb) h,λh=>by rw[h]⟩
def aX8 {a:List Int}(hb:aX a)(hc:(!(xA a 0).2.2||decide ((xA a 0).1>20))=false):∃(n:Int) (q:Nat),xA a 0=(n,(q:Int),true)/\0<=n/\n<=20/\q<=a.length:=by
 simp only[cg,cY,cT] at hc;cases b:xA a 0 with
 |mk n r=>
  obtain⟨e,ok⟩:=r;rw[b] at hc;obtain⟨rfl,hc2⟩:=hc;obtain⟨q,⟨_,c,d,f,h⟩,_⟩:=aKb hb b
  grind
def aX9 {a:List Int}{e c:Int}(h0:0<=c)(h1:c<=100)(h2:0<=e)(b:e<=a.length):gZ a e c=jE a c.toNat e []:=by
 grind[decide_eq_true,gZ,bX]
def aI2 {a:List Int}(hb:aX a){k:Nat}(hk:k<=20){τ:Type}{x:τ}{F:(Int×Nat×List AG->Option (τ⊕List AG))->Int×Nat×List AG->Option (τ⊕List AG)}
  (b:∀rec (q:Nat) i s (hi:i<k),q<=a.length->s.length<=100->F rec ((q:Int),i,s)=bif !(jE a 4 q []).2.2 then some (.inl x) else rec ((jE a 4 q []).2.1,i+1,s++lV (jE a 4 q []).1)) (c:∀rec e s,F rec (e,k,s)=some (.inr s)):
  ∀(m i n q:Nat) (s:List AG),i+m=k->m<n->q<=a.length->s.length<=i->EV.cZ n F ((q:Int),i,s)=some (bif (jE a (4*m) q []).2.2 then .inr (s++lV (jE a (4*m) q []).1) else .inl x)
 |0,i,n+1,q,s,h,_,_,_=>by
  have:i=k:=by omega
  subst this;rw[iY,c];simp[jE,lV]
 |m+1,i,n+1,q,s,h,hn,hq,hs=>by
  rw[iY,b _ q i s (by omega) hq (by omega),show 4*(m+1)=4+4*m by omega,aBd 4 (4*m)];cases hd:jE a 4 (q:Int) [] with
  |mk l r=>
   obtain⟨e,ok⟩:=r;cases ok with
   |false=>rfl
   |true=>
    obtain⟨t,q',⟨k1,k2,k3,k4,k5⟩,_⟩:=Td hb _ _ _ _ _ (by omega) (by omega) hd;rw[bz] at k1;subst k1;subst k3;have hl:(lV l).length=1:=aBf 1 l (by omega);simp only[bl,aj,ae];rw[aI2 hb hk b c m (i+1) n q' _ (by omega) (by omega) k4 (by simp[hl];omega),aBe (4*m) (q':Int) l];cases(jE a (4*m) (q':Int) []).2.2 with
    |false=>rfl
    |true=>simp[aMt 1 l _ (by omega)]
def four {l:List Int}(h:l.length=4):∃w x y z,l=[w,x,y,z]:=by
 match l,h with
 |[w,x,y,z],_=>exact⟨w,x,y,z,rfl⟩
def Kv (a:List Int)(hb:aX a):qW a=some (Md a):=by
 unfold qW Md;rw[aG hb,bd_s,aA9,bd_s];cases hc:(!(xA a 0).2.2||decide ((xA a 0).1>20)) with
 |true=>rfl
 |false=>
  obtain⟨n,q,b,h0,h1,h2⟩:=aX8 hb hc;rw[b,aj,aj];dsimp only;rw[aI2 (x:=((AF.mk [],false):AF×Bool)) hb (k:=n.toNat) (by omega) (λrec q i s hi hq hs=>by
   have d:decide ((i:Int)<n)=true:=av (by omega);simp only[d,ae,aG hb,bd_s,aX9 (a:=a) (e:=(q:Int)) (c:=4) (by omega) (by omega) (by omega) (by omega),show Int.toNat 4=4 from rfl];cases hd:jE a 4 (q:Int) [] with
   |mk l r=>
    obtain⟨e,ok⟩:=r;cases ok with
    |false=>rfl
    |true=>
     obtain⟨t,q',⟨k1,k2,_⟩,_⟩:=Td hb _ _ _ _ _ (by omega) (by omega) hd;rw[bz] at k1;subst k1;obtain⟨w,x,y,z,rfl⟩:=four k2;simp only[bl,aj,(by assumption),(by assumption),(by assumption),(by assumption),bd_s,jM (show s.length<=34359738368 by omega)];rfl) (by grind) n.toNat 0 FUEL q [] (by omega) (by grind[gU]) h2 (by simp)]
  rw[show(4*n).toNat=4*n.toNat by omega];unfold aQ9;cases hd:jE a (4*n.toNat) (q:Int) [] with
  |mk v r=>
   obtain⟨e,ok⟩:=r;cases ok with
   |false=>rfl
   |true=>
    obtain⟨b1,h,j,m⟩:=aWs hb b h1 (show jE a (4*n).toNat (q:Int) []=(v,e,true) by rw[show(4*n).toNat=4*n.toNat by omega];exact hd);have f:(AF.mk (lV v)).sz<=34359738368:=by grind[AF.sz]
    simp only[ae,nx_r,bz,aG f,bd_s,aG (show aX (mU ⟨lV v⟩)/\aX a from⟨aBh _,hb⟩),aA9]
    grind[aP,lV,gQ,sW,nG,absurd,Bool.not_true,Bool.not_false,mU]
def Uu (k:Int)(s:AI)(h:s.Data.length<=34359738200):wF k s=some (jY k s):=by unfold wF jY;rw[aG h,aG (by omega)];simp only[bd_s,aG (aQy (k:=kZ k s.Epoch s.Version) (show s.Data.length<=34359738368 by omega))];cases bA k<;>cases bX s.Epoch 0 1000000<;>cases bX s.Version 0 1000000<;>cases(s.MAC !=kY k s)<;>rfl
def Uv (d:AB)(l:List AC)(bx:AM)(s:AI)(h:d.sz<=34359738368/\l.length<=34359738368/\bx.sz<=34359738368/\s.Data.length<=34359738200):wG d l bx s=some (bU d l bx s):=by
 obtain⟨h1,h2,a,b⟩:=h;have c:=gD l;have hb:d.aAD.sz<=34359738368:=by grind[AB.sz,AF.sz]
 unfold wG bU iZ;simp only[aG h1,aG h2,aG a,aG b,aG (by omega),bd_s,aA9,bif_and,bif_or,Sz]
 grind[aT,bT,gB,aA,aM,aB,bS,bx,decide,iC,aG,bd_s,jY,aTc]
def aT7 {c:AO}(h:c.sz<=34359738100)(b:Int):c.Log.length<=34359738100/\c.Boxes.sz<=34359738100/\(fC c b).1.Data.length<=34359738100:=by
 grind[decide,aNn,aWo,Jo,AI.sz,fC,AM.sz,AO.sz]
def aDi (d:AB)(c:AO)(b:Int)(h:d.sz<=34359738100/\c.sz<=34359738100):Hl d c b=some (bU d c.Log c.Boxes (fC c b).1):=by obtain⟨h1,h2⟩:=h;obtain⟨k1,k2,k3⟩:=aT7 h2 b;unfold Hl;rw[aG (by omega),bd_s,aG (by grind),bd_s]
def aPu {w:AA}{d:Int}(h:aO w d=true):0<=d/\d.toNat<w.Devices.length/\(aD w d).sz<=w.sz/\aD w d=w.Devices.getD d.toNat default:=by
 simp only[aO,aa,cD] at h;have hi:d.toNat<w.Devices.length:=by omega
 have:=Jo (f:=AB.sz) hi;refine⟨h.1,hi,?_,rfl⟩;show(w.Devices.getD d.toNat default).sz<=_
 grind[AA.sz]
def aNo (w:AA):w.aAB.sz<=w.sz:=by grind[AA.sz,AO.sz,AM.sz]
def aDj (w:AA)(d b:Int)(c:w.sz<=34359738100):Hw w d b=some (aU w d b):=by
 have a:=aNo w;unfold Hw aU;rw[aG (show w.sz<=34359738368 by omega),bd_s,aG (show w.sz<=34359738368 by omega),bd_s];cases hc:(bL w&&aO w d) with
 |false=>rfl
 |true=>have hd:=(Bool.and_eq_true_iff.1 hc).2;obtain⟨k1,k2,k3,k4⟩:=aPu hd;rw[bl,aj,ae,zZ hd,bd_s,aG ⟨by omega,by omega⟩,bd_s,bd_s]
def bAv {k:Int}{b:List Int}(hl:b.length<=34359738368){F:(List Int×Nat->Option (List Int))->List Int×Nat->Option (List Int)}
  (a:∀rec i s (hi:i<b.length),s.length<=34359738368->F rec (s,i)=rec (s++[aTd k i b[i]],i+1)) (c:∀rec s,F rec (s,b.length)=some s):EV.cZ FUEL F ([],0)=some (lZ k b):=by
 refine aJ2 (λi s=>i<=b.length/\s=(Co (λi z=>[aTd k i z]) 0 (b.take i),i)) b.length _ (by omega) ⟨by omega,by simp[Co]⟩ (λi s rec hi hv=> ?_) (λs rec hv=> ?_)
 ·obtain⟨_,rfl⟩:=hv;refine .inl ⟨_,⟨hi,rfl⟩,?_⟩;rw[a rec i _ hi (by rw[nD,cx];omega),Zj hi,ck]
 ·obtain⟨_,rfl⟩:=hv;rw[c,eC];rfl
def aDk (k:Int)(b:List Int)(h:aX b):Gp k b=some (lZ k b):=by unfold Gp;rw[bAv (k:=k) h.1 (by grind[aWu,vL,dS,aS,bd_s,aG,gd_T,jM]) (by simp)];rfl
def bD4 (k:Int)(b:AF):(lZ k (mU b)).length<=34359738200:=by grind[Fu,aH6]
def Uw (k e v:Int)(b:AF)(h:b.sz<=34359738368):wC k e v b=some (qQ k e v b):=by unfold wC qQ dZ;simp only[aG h,bd_s,aG (aBh b),aG (bD4 (kZ k e v) b)];cases bA k<;>cases bX e 0 1000000<;>cases bX v 0 1000000<;>cases aP b<;>rfl
def Zl (a b:AI):yH a b=some (oP a b):=by unfold yH oP;cases decide (a.Epoch>b.Epoch)<;>cases(a.Epoch==b.Epoch)<;>rfl
def bAw {d:AB}(h:d.sz<=34359738368):d.aAD.sz<=34359738368:=by grind[AB.sz,AF.sz]
def Pe (d:AB)(h:d.sz<=34359738368):uD d=some (dI d):=by unfold uD dI;simp only[aG h,aG (bAw h),bd_s];cases(qQ d.Key d.Epoch (IntKind.i64.wrap (d.Version+1)) d.aAD).2<;>rfl
def aT8 (c:AO)(s:AI)(h:c.sz<=34359738300/\s.sz<=34359738300):(bd (gd (c.sz<=34359738368) (some c)) λa=>bd (gd (c.Log.length<=34359738368) (some (aB c.Log))) λd=>bd (bif (s.Epoch !=d) then some true else(bif decide ((c.History.length:Int)>0) then(bd (bP c.History (IntKind.i64.wrap ((c.History.length:Int)-1))) λb=>bd (some (oP s b)) λe=>bif !e then some true else some (decide ((c.History.length:Int)>=60))) else some (decide ((c.History.length:Int)>=60)))) λz2=>bif z2 then some (a,false) else bd (gd (s.sz<=34359738368) (some s)) λb=>gd (bK a.History [b]) (some (AO.mk a.Log a.Boxes (a.History++[b]),true)))=some (bZ c s):=by
 obtain⟨h1,h2⟩:=h;have f:=h1;simp only[AO.sz] at f;unfold bZ;simp only[aG (show c.sz<=34359738368 by omega),aG (show c.Log.length<=34359738368 by omega),aG (show s.sz<=34359738368 by omega),bd_s,jM (show c.History.length<=34359738368 by omega)];by_cases h0:0<c.History.length
 ·have j:bP c.History (IntKind.i64.wrap ((c.History.length:Int)-1))=some (c.History.getD (c.History.length-1) default):=by rw[aH (by omega) (by omega),Fj (by omega) (by omega)];simp
  rw[av (show(c.History.length:Int)>0 by omega),j];generalize c.History.getD (c.History.length-1) default=x;simp only[bd_s,ae,cM];cases(s.Epoch !=aB c.Log)<;>cases oP s x<;>cases decide ((c.History.length:Int)>=60)<;>rfl
 simp[*]
def Kw (c:AO)(s:AI)(h:c.sz<=34359738300/\s.sz<=34359738300):Kj c s=some (bZ c s):=aT8 c s h
def Ux (s n:Int):Uc s n=some (aL s n):=by rfl
def Zm (s:AK):Ym s=some (bE s):=rfl
def Pf (s:AK)(n:ByteArray)(k:Int)(h:n.size<=34359738300):tZ s n k=some (dB s n k):=by unfold tZ;rw[aG h,bd_s,aG (by simp)];rfl
def Uy (s:AK)(n:ByteArray)(k:Int)(h:n.size<=34359738300):vY s n k=some (gH s n k):=by unfold vY;rw[aG h];rfl
def Ky (s:AK)(l:List Int)(h:l.length<=34359738300):qR s l=some (kH s l):=by unfold qR;rw[aG h];rfl
def Uz (e:AM)(d:Int)(h:e.Boxes.length<=34359738368):vX e d=some (pM e d):=by unfold vX;rw[fT (l:=e.Boxes) (λn b=>bif b.To==d then IntKind.i64.wrap (n+1) else n) (λ_ _=>True) (λs=>some s) (by omega) trivial (by simp) (by grind[dS,aS,bd_s]) (by simp)];rfl
def Pg (l:List AC)(k d:Int)(s:AK)(h:l.length<=34359738300):tQ l k d s=some (dG l k d s):=by
 have h1:l.length<=34359738368:=by omega
 have e:∀x:AC,gd ((l++[x]).length<=34359738368) (some (aT (l++[x])))=some (aT (l++[x])):=(by grind[aG]);have a:∀x:Int,gd ([x].length<=34359738300) (some (kH s [x]))=some (kH s [x]):=λx=>aG (by simp);unfold tQ dG xC aBj;simp only[aG h1,bd_s,a,jM h1,e];generalize aT (l++_)=q;cases decide ((l.length:Int)>0)<;>cases aT l<;>cases q<;>rfl
def aPv (p e:Int)(d:List Int)(h:aX d):(bd (bif eU p==0 then some true else bif !bA e then some true else some (decide ((d.length:Int)>200))) λb=>bif b then some (AN.mk 0 0 [] 0,false) else bd (gd (aX d) (some (lZ (fI (eU p) e) d))) λa=>bd (gd (a.length<=34359738200) (some (Ke (fI (eU p) e) (AN.mk p e a 0)))) λz2=>some (AN.mk p e a z2,true))=some (fD p e d):=by
 grind[eU,bA,decide,Bool.or_eq_false_iff,decide_eq_false_iff_not,aG,bd_s,lZ,fI,Fu,aA9,fD,kI]
def aDl (p e:Int)(d:List Int)(h:aX d):aCj p e d=some (fD p e d):=aPv p e d h
def Zn (l:List Int)(e:Int)(d:List Int)(h:l.length<=34359738300/\aX d):yD l e d=some (fE e d 0 l):=by
 obtain⟨h1,h2⟩:=h;unfold yD;rw[aId (e:=e) (d:=d) (l:=l) (x:=(([],false):List AN×Bool)) (by grind[dS,aS,bd_s,aG,jM]) (by simp) l.length 0 FUEL [] (by omega) (by grind[gU]) (by simp),jn];cases hs:(fE e d 0 l).2 with
 |true=>rw[ae,nx_r,bz,<-hs]
 |false=>rw[aj,aWy hs];rfl
def bAx (a b:Int):aX (gQ [a,b]):=aBg (by grind[aMv]) (Nw _)
def Db (l:List AC)(k e:Int)(h:l.length<=34359738300):nS l k e=some (bB l k e):=by have hd:=gD l;unfold nS bB;simp only[aG (show l.length<=34359738368 by omega),bd_s,aG (show[aB l,k].length<=5000000000 by simp),aG (show(aA l).length<=34359738300/\aX (gQ [aB l,k]) from⟨by omega,bAx _ _⟩)];cases aT l<;>cases bA k<;>cases(fE e (gQ [aB l,k]) 0 (aA l)).2<;>rfl
def bAy (e:AM)(l:List Int):(l.all λd=>pM e d==1)= !(l.any λd=>pM e d !=1):=by
 grind
def Zo (e:AM)(l:List AC)(h:e.Boxes.length<=34359738368/\l.length<=34359738368):yE e l=some (gL e l):=by obtain⟨h1,h2⟩:=h;have hd:=gD l;unfold yE gL;rw[aG h2,bd_s,kR (l:=aA l) (λd=>pM e d !=1) (.inl false) (.inr PUnit.unit) (by omega) (by grind[dS,aS,bd_s,aG]) (by simp),bAy];simp only[aG h2,bd_s];cases(aA l).any (λd=>pM e d !=1)<;>cases(e.Epoch==aB l)<;>cases((e.Boxes.length:Int)==((aA l).length:Int))<;>rfl
def bD5 {e:AM}(h:e.sz<=34359738368):e.Boxes.length<=34359738368:=by grind[AM.sz]
def Zp (c:AO)(l:List AC)(e:AM)(h:c.sz<=34359738368/\l.length<=34359738368/\e.sz<=34359738368):yO c l e=some (jZ c l e):=by obtain⟨h1,h2,a⟩:=h;unfold yO jZ;simp only[aG h1,aG h2,aG a,bd_s,aG (show e.Boxes.length<=34359738368/\l.length<=34359738368 from⟨bD5 a,h2⟩)];cases aT l<;>cases bT l c.Log<;>cases gL e l<;>rfl
def Ph (s:AD)(i:Int)(h:s.Accounts.length<=34359738368):uA s i=some (aF s i):=by unfold uA;exact Su (l:=s.Accounts) (λa=>a.Id==i) (by omega) (by grind[dS,aS,bd_s]) (by simp)
def Pi (s:AD)(i:Int)(h:s.Accounts.length<=34359738368):uM s i=some (aF s i):=by unfold uM;exact Su (l:=s.Accounts) (λa=>a.Id==i) (by omega) (by grind[dS,aS,bd_s]) (by simp)
def bF2 {l:List AP}{h p:Int}(a:l.length<=34359738300){β:Type}(k:List AP->Option β):gd (lW l ((Kg h l:Nat):Int)) (gd (lW l ((Kg h l:Nat):Int)) (gd (bK [] (List.take (Kg h l) l)) (gd (bK ([]++List.take (Kg h l) l) [AP.mk h p 0 false]) (gd (bK ([]++List.take (Kg h l) l++[AP.mk h p 0 false]) (List.drop (Kg h l) l)) (k ([]++List.take (Kg h l) l++[AP.mk h p 0 false]++List.drop (Kg h l) l))))))=k (Ya l h p):=by have hk:Kg h l<=l.length:=Fv;have h1:lW l ((Kg h l:Nat):Int):=⟨by omega,by omega⟩;rw[aG h1,aG h1,aG (by grind[bK]),aG (by grind[bK]),aG (by grind[bK])];rfl
def bAz {l:List AP}{h:Int}(a:l.length<=34359738300):EV.cZ (α:=Int) FUEL (λrec (i:Int)=>bd (bif decide (i<(l.length:Int)) then(bd (bP l i) λz=>some (decide (z.Handle<h))) else some false) λz=>bif z then rec (IntKind.i64.wrap (i+1)) else some i) 0=some ((Kg h l:Nat):Int):=by have:=aIc (l:=l) (λc=>decide (c.Handle<h)) (λi=>some (i:Int)) (λi=>(i:Int)) (F:=λrec (i:Int)=>bd (bif decide (i<(l.length:Int)) then(bd (bP l i) λz=>some (decide (z.Handle<h))) else some false) λz=>bif z then rec (IntKind.i64.wrap (i+1)) else some i) (by omega) (by grind[dS,aS,bd_s,aH]) (by simp);exact this
def bF3 {a:AH}(b:a.sz<=34359738300)(h p:Int):(AH.mk a.Id a.Minimum (Ya a.Credentials h p)).sz<=34359738368:=by
 grind[AH.sz,aMw]
def Ie (a:AH)(h p:Int)(b:a.sz<=34359738300):qC a h p=some (fO a h p):=by
 have h1:a.sz<=34359738368:=by omega
 have hc:a.Credentials.length<=34359738300:=b;unfold qC fO;rw[aG h1,bd_s,bAz hc];simp only[aG h1,bd_s,bj];rw[bF2 hc (λL=>bd (bif !bD a then some true else(bd (gd ((AH.mk a.Id a.Minimum L).sz<=34359738368) (some (bD (AH.mk a.Id a.Minimum L)))) λc=>some (!c))) λd=>bif d then some (a,false) else some (AH.mk a.Id a.Minimum L,true))];simp only[bd_s,aG (bF3 b h p)];cases bD a<;>cases bD {a with Credentials:=Ya a.Credentials h p}<;>rfl
def aPw {a:AH}{h p:Int}(hn:(fO a h p).2=false):(fO a h p).1=a:=by
 grind[bD,Ya,fO]
def Pj (s:AD)(i h p:Int)(a:s.sz<=34359738300):uB s i h p=some (gG s i h p):=by
 have h1:s.sz<=34359738368:=by omega
 have hl:s.Accounts.length<=34359738368:=by grind[AD.sz]
 unfold uB gG;simp only[aG h1,aG hl,bd_s];rw[aA9,bd_s];cases hc:(!dK s||decide (aF s i<0)) with
 |true=>rfl
 |false=>
  rw[cg] at hc;obtain⟨b,c,d⟩:=aWz a hc.2;simp only[aj,b,bd_s,aG c];cases e:(fO (s.Accounts.getD (aF s i).toNat default) h p).2 with
  |true=>rfl
  |false=>simp_all[aPw,aWn]
def aI3 (i:Int):(aC i).size<=34359738300:=by unfold aC;cases i==0<;>cases i==1<;>decide
def Va (d:AB)(h:Int)(rm:Bool)(c:d.sz<=34359738300):wK d h rm=some (jU d h rm):=by have h1:=Xz d (aC 0) h rm;unfold wK jU;rw[aG ⟨by omega,aI3 0⟩,bd_s,show FUEL=FUEL-2+1+1 from by have:=gU;omega];have e:∀{β:Type} (k:Option β),gd ((dP d (aC 0) h rm).1.sz<=34359738360/\(aC 1).size<=34359738300) k=k:=λk=>aG ⟨by omega,aI3 1⟩;show(bd (bd (gd ((dP d (aC 0) h rm).1.sz<=34359738360/\(aC 1).size<=34359738300) (some (dP (dP d (aC 0) h rm).1 (aC 1) h rm))) λa=>some (a.1.Store.Vendor,a.1.Store.Serial,a.1.Store.Seed,a.1.Store.Counter,a.1.Log,a.1.Key,a.1.Epoch,a.1.Version,a.1.aAD.Entries)) λb=>some (AB.mk (AK.mk b.1 b.2.1 b.2.2.1 b.2.2.2.1) b.2.2.2.2.1 b.2.2.2.2.2.1 b.2.2.2.2.2.2.1 b.2.2.2.2.2.2.2.1 (AF.mk b.2.2.2.2.2.2.2.2)))=_;rw[e,bd_s,bd_s]
def bD6 {w:AA}{d:Int}(a:bL w=true)(hd:aO w d=true):bP w.Stolen d=some (gF w d):=by
 grind[gF,List.getD,List.getElem?_eq_getElem,zJ,aO,bL]
def bA0 {p r:List AD}{s:AD}:bP (p++s::r) ((p.length:Nat):Int)=some s:=by simp[aS]
def aYa {p r:List AD}{s y:AD}:(p++s::r).set (Int.toNat ((p.length:Nat):Int)) y=p++y::r:=by simp
theorem bD7 {w:AA}{b:Int}(a:w.sz<=100000000)(h1:bL w=true)(hs:((aU w b 0).2==0)=true):((aO (aU w b 0).1 b=true/\(aU w b 0).1.Sites.length=2)/\(aU w b 0).1.sz<=300000000)/\(aU w b 0).1.aAB.Log.length<=100000000:=by
 grind[bL,aU,aO,k4,k2,k3,AA.sz,AO.sz,k1,k5,vO]
def aT9 {L:List AS}(a:30<L.length)(b:L.length<=34359738301):gd (lW L ((tF L:Nat):Int)) (gd (lW L (IntKind.i64.wrap (((tF L:Nat):Int)+1))) (gd (bK [] (List.take (Int.toNat ((tF L:Nat):Int)) L)) (gd (bK ([]++List.take (Int.toNat ((tF L:Nat):Int)) L) (List.drop (Int.toNat (IntKind.i64.wrap (((tF L:Nat):Int)+1))) L)) (some ([]++List.take (Int.toNat ((tF L:Nat):Int)) L++List.drop (Int.toNat (IntKind.i64.wrap (((tF L:Nat):Int)+1))) L)))))=some (Bj L):=by
 have hs:=aWx (l:=L) (by omega);have e:IntKind.i64.wrap (((tF L:Nat):Int)+1)=((tF L+1:Nat):Int):=by grind[aH]
 rw[e,aG ⟨by omega,by omega⟩,aG ⟨by omega,by omega⟩,aG (by grind[bK]),aG (by grind[bK]),bj,bj]
 grind[decide_eq_true,Bj]
def bA1 (l:List AS)(x:AS)(h:l.length<=34359738300):(AR.mk (Bj (l++[x]))).sz<=34359738368:=by
 grind[AR.sz,List.length_append,List.length_singleton,aH7]
def aYb {L:List AS}(h:¬30<L.length):Bj L=L:=by
 grind[decide_eq_false,Bj]
def Vb (m:AR)(k a t:Int)(d:m.sz<=34359738300):wH m k a t=some (Me m k a t):=by
 have h1:m.sz<=34359738368:=by omega
 have hm:m.Notices.length<=34359738300:=d;have j:(m.Notices++[(⟨k,a,t,false⟩:AS)]).length=m.Notices.length+1:=by simp
 have hn:=bA1 m.Notices ⟨k,a,t,false⟩ hm;unfold wH Me;rw[aG (by unfold bK;simp;omega),bz,jM (show m.Notices.length<=34359738368 by omega)];simp only[aG h1,bd_s];generalize hg:m.Notices++[(⟨k,a,t,false⟩:AS)]=L at*;by_cases c:30<L.length
 ·have e:=aIe (l:=L) (F:=λrec (b:Int×Int)=>bif (decide (b.2>=(0:Int))) then(bd (bd (bP L (b.2)) λf=>bif (f.Seen) then(some (b.2)) else(some (b.1))) λh=>rec ((h,IntKind.i64.wrap (b.2-(1:Int))))) else(some (b.1))) (λrec q i hi=>by
   simp only[av (show((i:Int)>=0) by omega),ae,aS hi,bd_s,Sz,aH (show(-9223372036854775808:Int)<=(i:Int)-1 by omega) (show(i:Int)-1<=9223372036854775807 by omega)]) (λrec q=>rfl) L.length FUEL 0 (ak _) (by have:=gU;omega)
  rw[eC] at e;rw[av (show(L.length:Int)>30 by omega),ae,aH (by omega) (by omega),e,<-aWw,bd_s,aT9 c (by omega),bd_s,aG hn,bd_s];cases eF m<;>cases eF ⟨Bj L⟩<;>rfl
 ·rw[aq (show ¬(L.length:Int)>30 by omega),aj,bd_s];rw[aYb c] at hn ⊢;rw[aG hn,bd_s];cases eF m<;>cases eF ⟨L⟩<;>rfl
def P9 (s e:Int):O1 s e=some (bM s e):=by rfl
def Vd (d:AB)(l:List AC)(k:Int)(h:d.sz<=34359738368/\l.length<=34359738368):wB d l k=some (jN d l k):=by unfold wB jN;simp only[aG h.1,aG h.2,bd_s];cases aT l<;>cases bT l d.Log<;>cases decide (aB l<d.Epoch)<;>cases bA k<;>rfl
def Dc (s:AH)(i:Int)(h:s.Credentials.length<=34359738368):nZ s i=some (bF s i):=by unfold nZ;exact Su (l:=s.Credentials) (λa=>a.Handle==i) (by omega) (λrec j hj=>by simp only[dS hj,ae,aS hj,bd_s]) (λrec=>by simp only[aS7,aj])
def bA2 {a:AH}{h:Int}(hk:decide (bF a h<0)=false):bP a.Credentials (bF a h)=some (jH a (bF a h)):=by have hr:=vP (p:=λc:AP=>c.Handle==h) (i:=0) (l:=a.Credentials) hk;exact Fj (by unfold bF;omega) (by unfold bF;omega)
def Ig (a:AH)(h:Int)(b:a.sz<=34359738368):qD a h=some (kJ a h):=by
 have hl:a.Credentials.length<=34359738368:=b;unfold qD kJ;simp only[aG b,aG hl,bd_s];cases bD a with
 |false=>rfl
 |true=>
  cases hk:decide (bF a h<0) with
  |true=>rfl
  |false=>simp only[bl,aj,bA2 hk,bd_s];cases(jH a (bF a h)).Cut<;>rfl
def bA3 {s:AD}(a:s.sz<=34359738300)(h:decide (aF s 1>=0)=true):bP s.Accounts (aF s 1)=some (kP s (aF s 1))/\(kP s (aF s 1)).sz<=34359738368:=by
 grind[kP,aWz,decide,aF,decide_eq_false]
def aNp {h:Int}{N:Nat}{F:(Nat×List AD->Option (List AD))->Nat×List AD->Option (List AD)}
  (a:∀rec (p:List AD) (s:AD) (r:List AD),p.length+r.length+1=N->s.sz<=34359738300->F rec (p.length,p++s::r)=rec (p.length+1,p++eQ h s::r)) (b:∀rec S,F rec (N,S)=some S):
  ∀(r p:List AD) (m:Nat),p.length+r.length=N->r.length<m->(∀s∈r,s.sz<=34359738300)->EV.cZ m F (p.length,p++r)=some (p++r.map (eQ h))
 |[],p,m+1,hl,_,_=>by
  simp only[cy,dt] at hl;rw[iY,hl,b];simp
 |s::r,p,m+1,hl,hm,hs=>by
  simp only[ay] at hl hm;have:=aNp a b r (p++[eQ h s]) m (by simp;omega) (by omega) (λy c=>hs y (by simp[c]));simp only[bc,cH,ce,cF,bz] at this;rw[iY,a _ p s r (by omega) (hs s (by simp)),this];simp
def aUa {h:Int}{N:Nat}{l:List AD}(d:l.length=N)(a:N<=100)(hs:∀s∈l,s.sz<=34359738300){F:(Nat×List AD->Option (List AD))->Nat×List AD->Option (List AD)}
  (b:∀rec (p:List AD) (s:AD) (r:List AD),p.length+r.length+1=N->s.sz<=34359738300->F rec (p.length,p++s::r)=rec (p.length+1,p++eQ h s::r)) (c:∀rec S,F rec (N,S)=some S):EV.cZ FUEL F (0,l)=some (l.map (eQ h)):=by
 have:=aNp b c l [] FUEL (by simp;omega) (by have:=gU;omega) hs;assumption
def Jz {w:AA}{b t:Int}(h:((aU w b 0).2==0&&(!gF w b&&(!(b==t)&&aV w t)))=false):dA w b t=(w,false):=by grind[dA]
def aPx {w:AA}{b t:Int}(h:((aU w b 0).2==0&&(!gF w b&&(!(b==t)&&aV w t)))=true):dA w b t=lM w b t:=by grind[dA]
def Az {w:AA}{b t:Int}(h:(jV w b t).2=false\/(cut2 w b t).2=false\/(Ct w b t).2=false):lM w b t=(w,false):=by unfold lM;rcases h with h|h|h<;>rw[h]<;>simp
def bD8 {w:AA}{b:Int}(a:w.sz<=100000000)(h1:bL w=true)(hs:((aU w b 0).2==0)=true):(aO (aU w b 0).1 b=true/\(aU w b 0).1.Sites.length=2)/\(aU w b 0).1.sz<=300000000/\(aU w b 0).1.aAB.Log.length<=100000000/\∀s∈(aU w b 0).1.Sites,s.sz<=34359738300:=by
 grind[Nu,AD.sz,AA.sz,bD7]
def bA4 {w:AA}{b t:Int}(n:w.sz<=100000000)(hs:((aU w b 0).2==0)=true){o:AA}(ho:o=(aU w b 0).1){c:AO}(h1:jV w b t=({o with aAB:=c},true)){x:AB}(h2:cut2 w b t=(x,true)):
  (x.sz<=34359738300/\(jU x t true).sz<=34359738368/\c.sz<=34359738300/\(dI (jU x t true)).2.1.sz<=34359738300/\o.Mail.sz<=34359738300)/\
  lM w b t=bif (dI (jU x t true)).2.2&&(bZ c (dI (jU x t true)).2.1).2 then(AA.mk o.Now o.Seed (o.Devices.set b.toNat (dI (jU x t true)).1) o.Stolen (bZ c (dI (jU x t true)).2.1).1 (o.Sites.map (eQ t)) o.aAP o.Hosts o.Pin (Me o.Mail 4 1 o.Now).1,true) else(w,false):=by
 obtain⟨⟨a,p,q,r⟩,s,⟨b1,u⟩,v,y⟩:=aTg (t:=t) hs;have hd:=a;simp only[aO,aa,cD] at hd;have hi:b.toNat<(iM w b).Devices.length:=by omega
 have d:o=iM w b:=ho;have z:(jN (aD (iM w b) b) (Tf w b t) (jA (aD (iM w b) b).Store (Tf w b t))).1=x:=by have:=congrArg Prod.fst h2;exact this
 have e:(aD (iM w b) b).sz<=(iM w b).sz:=(aPu a).2.2.1;have f:x.sz<=3*w.sz+21:=by
  grind[aBl,aD,iM,Tf,jA]
 have h:=aKd x t true;have j:=xW (jU x t true);have A:Tg w b t=AA.mk o.Now o.Seed (o.Devices.set b.toNat (jU x t true)) o.Stolen c (o.Sites.map (eQ t)) o.aAP o.Hosts o.Pin o.Mail:=by unfold Tg;rw[h1,h2]
 have k:aD (Tg w b t) b=jU x t true:=by
  grind[aD,List.getD,List.getElem?_set_self]
 have l:c.sz<=({o with aAB:=c}:AA).sz:=by grind[AA.sz,AO.sz]
 have m:c.sz<=16*w.sz+34:=by grind
 grind[dI,jU,bZ,nR,List.set_set,X5,Ct,Tg,lM,AI.sz,iM,AR.sz,AA.sz]
def aUb {h:Int}{p r:List AD}{s:AD}(a:s.sz<=34359738300):s.Accounts.length<=34359738368:=by grind[AD.sz]
def Zq (w:AA)(b t:Int)(z:w.sz<=100000000):yP w b t=some (dA w b t):=by
 have a:w.sz<=34359738368:=by omega
 unfold yP;simp only[bd_s,aG (show w.sz<=34359738100 by omega),aG a,bne];cases hs:((aU w b 0).2==0) with
 |false=>rw[Jz (by rw[hs];rfl)];rfl
 |true=>
 obtain⟨⟨h1,h2⟩,_⟩:=vO hs;rw[bD6 h1 h2];simp only[bl,aj,bd_s];cases j:gF w b with
 |true=>rw[Jz (by rw[hs,j];rfl)];rfl
 |false=>
 cases n:(b==t) with
 |true=>rw[Jz (by rw[hs,j,n];rfl)];rfl
 |false=>
 rw[aG (Ed.of' a)];cases d:aV w t with
 |false=>rw[Jz (by rw[hs,j,n,d];rfl)];rfl
 |true=>
 rw[aPx (by rw[hs,j,n,d];rfl)];have ht:aO w t=true:=by unfold aV at d;rw[aa] at d;exact d.1
 obtain⟨⟨A,H⟩,W,X,I⟩:=bD8 z h1 hs;simp only[bl,aj,bd_s,zZ ht,zZ A,aG (show(aU w b 0).1.aAB.Log.length<=34359738300 by omega)];have o:=tH (aU w b 0).1.aAB.Log 2 (aM (aD w t).Store) (aD (aU w b 0).1 b).Store;obtain⟨l,hl⟩:∃l,l=dG (aU w b 0).1.aAB.Log 2 (aM (aD w t).Store) (aD (aU w b 0).1 b).Store:=⟨_,rfl⟩;obtain⟨e,he⟩:∃e,e=bB l.1 (jA (aD (aU w b 0).1 b).Store l.1) (IntKind.i64.wrap (1000+IntKind.i64.wrap (10*(l.1.length:Int)))):=⟨_,rfl⟩;obtain⟨c,f⟩:∃c,c=jZ (aU w b 0).1.aAB l.1 e.1:=⟨_,rfl⟩;have k:jV w b t=bif l.2&&(e.2&&c.2) then({(aU w b 0).1 with aAB:=c.1},true) else((aU w b 0).1,false):=by rw[f,he,hl];rfl
 have AL:Tf w b t=l.1:=by rw[hl];rfl
 rw[<-hl] at o ⊢;have q:=Yc l.1 (jA (aD (aU w b 0).1 b).Store l.1) (IntKind.i64.wrap (1000+IntKind.i64.wrap (10*(l.1.length:Int))));have J:=aNo (aU w b 0).1;rw[aG (show([311]:List Int).length<=34359738300 by simp),bd_s,aG (show l.1.length<=34359738368 by omega),bd_s,bd_s,aG (show l.1.length<=34359738300 by omega),bd_s];rw[show bM (aW (aD (aU w b 0).1 b).Store.Seed [311]) (aB l.1)=jA (aD (aU w b 0).1 b).Store l.1 from rfl];rw[<-he] at q ⊢;rw[aG (show(aU w b 0).1.aAB.sz<=34359738368/\l.1.length<=34359738368/\e.1.sz<=34359738368 from⟨by omega,by omega,by omega⟩),bd_s,<-f];cases m:l.2 with
 |false=>rw[Az (.inl (by rw[k,m];rfl))];rfl
 |true=>
 cases u:e.2 with
 |false=>rw[Az (.inl (by rw[k,m,u];rfl))];rfl
 |true=>
 cases B:c.2 with
 |false=>rw[Az (.inl (by rw[k,m,u,B];rfl))];rfl
 |true=>
 have v:jV w b t=({(aU w b 0).1 with aAB:=c.1},true):=by rw[k,m,u,B];rfl
 obtain⟨k1,k2,k3,k4⟩:=aPu A;obtain⟨x,D⟩:∃x,x=jN (aD (aU w b 0).1 b) l.1 (jA (aD (aU w b 0).1 b).Store l.1):=⟨_,rfl⟩;have F:cut2 w b t=x:=by rw[D,<-AL];rfl
 simp only[bl,aj,bd_s,aG (show(aD (aU w b 0).1 b).sz<=34359738368/\l.1.length<=34359738368 from⟨by omega,by omega⟩)];rw[<-D];cases G:x.2 with
 |false=>rw[Az (.inr (.inl (by rw[F,G])))];rfl
 |true=>
 obtain⟨⟨K,z2,L,M,O⟩,AE⟩:=bA4 z hs rfl v (x:=x.1) (by rw[F,<-G]);have q1:∀y:AB,bP ((aU w b 0).1.Devices.set b.toNat y) b=some y:=λy=>by rw[zJ k1 (by rw[au];exact k2)];simp
 rw[bl,aj,aUa (h:=t) (l:=(aU w b 0).1.Sites) (N:=2) H (by omega) I (λrec p s r hp hzs=>by
  simp only[av (show((p.length:Nat):Int)<2 by omega),ae,bA0,bd_s,aG (aUb (h:=t) (p:=p) (r:=r) hzs)];cases hc:decide (aF s 1>=0) with
  |false=>simp only[aj,bd_s,eQ,hc]
  |true=>
   obtain⟨R,T⟩:=bA3 hzs hc;simp only[ae,R,bd_s,aG T,aYa,eQ,hc]) (λrec S=>rfl)]
 simp only[bd_s,q1,aG K,aG z2,aG O,fq,aG (show c.1.sz<=34359738300/\(dI (jU x.1 t true)).2.1.sz<=34359738300 from⟨L,M⟩)];rw[AE];cases(dI (jU x.1 t true)).2.2<;>cases(bZ c.1 (dI (jU x.1 t true)).2.1).2<;>rfl
def Ih {σ τ:Type}{F:(σ->Option τ)->σ->Option τ}(S:Nat->σ)(N:Nat){r:τ}(a:N<=1000000)(b:∀rec i,i<N->F rec (S i)=rec (S (i+1)))(c:∀rec,F rec (S N)=some r){s:σ}(hs:s=S 0):EV.cZ FUEL F s=some r:=by
 subst hs;have go:∀(k i n:Nat),i+k=N->k<n->EV.cZ n F (S i)=some r:=by
  intro k;induction k with
  |zero=>
   intro i n h hn;obtain⟨m,rfl⟩:∃m,n=m+1:=⟨n-1,by omega⟩
   grind[iY]
  |succ k d=>
   intro i n h hn;obtain⟨m,rfl⟩:∃m,n=m+1:=⟨n-1,by omega⟩
   grind[iY]
 exact go N 0 FUEL (by omega) (by grind[gU])
theorem aNq {m:Int}{F:(Int×Int×Int->Option Int)->Int×Int×Int->Option Int}(a:∀rec (b n s:Int),0<=n->n<9223372036854775807->F rec (b,n,s)=bif decide (n>0) then rec ((IntKind.i64.wrap (b*b)).tmod m,n/2,bif n%2==1 then(IntKind.i64.wrap (s*b)).tmod m else s) else some s):
  ∀(k:Nat) (b n s:Int) (f:Nat),k<f->0<=n->n<2^k->k<=62->cZ f F (b,n,s)=some (aO9 m k b n s)
 |0,b,n,s,f+1,c,h0,h1,hk=>by
  have:n=0:=by simp at h1;omega
  subst this;rw[iY,a _ _ _ _ (by omega) (by omega)];rfl
 |k+1,b,n,s,f+1,c,h0,h1,hk=>by
  have h2:(2:Int)^(k+1)=2*2^k:=by rw[fb];omega
  have d:n<2^62:=Int.lt_of_lt_of_le h1 (by exact_mod_cast gy (by omega) hk);rw[iY,a _ _ _ _ h0 (by omega)];unfold aO9;by_cases hn:n>0
  ·rw[av hn,ae,cA hn];exact aNq a k _ (n/2) _ f (by omega) (by omega) (by omega) (by omega)
  ·rw[aq hn,aj,dc hn]
theorem bF4:((2039:Int)≠0)=True:=by simp
def Ve (b n:Int)(h:0<=n/\n<2048):nK b n=some (aO9 2039 11 b n 1):=by
 grind[aNq,qG,and_one,Eh,aQz,bF4,gd_T,bd_s,aG,FUEL,gU,nK]
def De (x:Int):nV x=some (aBp x):=by unfold nV aBp;rw[Ve _ _ (by decide)];cases bX x 1 2038<;>rfl
def Q0 (g n:Int):Ca g n=some (tK g n):=by unfold Ca tK;have hr:=sI (p:=n) (q:=1019) (by decide);rw[Ve _ _ ⟨hr.1,by omega⟩];cases aBp g<;>rfl
def Pk (a b:Int):Oh a b=some (Tj a b):=by rfl
def La (a b c:Int):Kk a b c=some (Js a b c):=rfl
def Zr (a b:Int):yI a b=some (vQ a b):=by
 unfold yI vQ;rw[aG (by simp),bd_s];have h:=(lL a [157,b]).1
 grind[decide_eq_false,decide_eq_true,aJ4,iK,bI]
def Vf (a b:Int):Ud a b=some (Tn a b):=by rfl
def aDm (a b:Int):Hm a b=some (aIf a b):=by unfold Hm aIf;rw[aG (by simp)];cases bX a 0 2147483647<;>rfl
def Zt (k:AU):Yq k=some (vR k):=rfl
def aPy {c n:Int}{l:List Int}(hn:1<=n/\n<=7)(hl:l.length<=34359738368){F:(List AV×Int->Option (List AV))->List AV×Int->Option (List AV)}(a:∀rec (s:List AV) (i:Int),1<=i->i<=8->s.length<=8->F rec (s,i)=bif decide (i<=n) then rec (s++[⟨i,Fp c l i⟩],i+1) else some s):EV.cZ FUEL F ([],1)=some ((List.range n.toNat).map λ(i:Nat)=>(⟨(i:Int)+1,Fp c l ((i:Int)+1)⟩:AV)):=
 Ih (λi=>((List.range i).map λ(i:Nat)=>(⟨(i:Int)+1,Fp c l ((i:Int)+1)⟩:AV),(i:Int)+1)) n.toNat (by omega) (by grind[decide_eq_true,List.range_succ]) (by grind[decide_eq_false]) rfl
def Pm (c:Int)(l:List Int)(n:Int)(h:l.length<=34359738368):uG c l n=some (qJ c l n):=by
 unfold uG qJ;cases h1:bX n 1 7 with
 |false=>rfl
 |true=>
  have hn:=gN h1;rw[aPy (c:=c) hn h (by grind[aG,bd_s,bK,Fp,aH])];by_cases h2:(l.length:Int)<n
  all_goals simp_all[aq,av]
def Zu (pin salt key sec:Int)(cs:List Int)(n lim:Int)(h:cs.length<=34359738368):yJ pin salt key sec cs n lim=some (xD pin salt key sec cs n lim):=by
 unfold yJ xD Jt;simp only[aG h,bd_s];have hl:=aIi sec cs n;generalize qJ sec cs n=l at hl ⊢;cases bX pin 0 9999 with
 |false=>rfl
 |true=>
 cases bX salt 0 1000000 with
 |false=>rfl
 |true=>
 cases bA key with
 |false=>rfl
 |true=>
 cases fQ sec 1019==0 with
 |true=>rfl
 |false=>
 cases bX lim 1 10 with
 |false=>rfl
 |true=>
 rw[bHf (l:=l) (λs=>vR ⟨s,0,0,lim⟩) (by omega) (λrec i s hi hs=>by
  have a:∀x:AJ,bK s [x]:=(by grind[bK]);simp only[dS hi,ae,aS hi,bd_s,aG (a _)];rfl) (by simp)]
 cases l with
 |nil=>rfl
 |cons x l=>rfl
def Q3 (l:List AC)(b:AM)(h:l.length<=34359738368/\b.sz<=34359738368):Bo l b=some (dN l b):=by
 unfold Bo dN;have hb:b.Boxes.length<=34359738368:=by grind[AM.sz]
 simp only[aG h.1,aG h.2,aG (show b.Boxes.length<=34359738368/\l.length<=34359738368 from⟨hb,h.1⟩),bd_s];cases aT l<;>cases gL b l<;>rfl
def aNr (s:AD)(id m:Int):(nH s id m).sz=s.sz+1:=by
 grind[nH,AD.sz,List.length_append,List.length_cons,List.length_nil,AH.sz,xX,id,List.take_append_drop]
def aUc {l:List AH}{id:Int}{F:(Int->Option Int)->Int->Option Int}(hl:l.length<=34359738368)(b:∀rec (i:Nat) (hi:i<l.length),F rec (i:Int)=bif decide (l[i].Id<id) then rec ((i+1:Nat):Int) else some (i:Int))(c:∀rec,F rec (l.length:Int)=some (l.length:Int)):EV.cZ FUEL F 0=some (xX id l:Int):=
 aIc (λa:AH=>decide (a.Id<id)) (λi=>some (i:Int)) (λi=>(i:Int)) hl b c
def aYc (id:Int)(l:List AH):xX id l<=l.length:=Fv
def Pn (s:AD)(id m:Int)(h:s.sz<=34359738300):tY s id m=some (lC s id m):=by
 unfold tY lC;have hl:s.Accounts.length<=s.sz:=by grind[AD.sz]
 have hk:=aYc id s.Accounts;have b:∀(x y:List AH),x.length+y.length<=34359738400->bK x y:=(by grind[bK]);have hs:s.sz<=34359738368:=by omega
 have h1:=aNr s id m;rw[aG hs,bd_s,aUc (id:=id) (l:=s.Accounts) (by omega) (by grind[dS,aS,bd_s,aH]) (by simp),bd_s];have a:lW s.Accounts (xX id s.Accounts:Int):=⟨by omega,by omega⟩;have he:(List.take (xX id s.Accounts) s.Accounts).length+(List.drop (xX id s.Accounts) s.Accounts).length=s.Accounts.length:=by rw[<-bc,cP]
 have ht:(List.take (xX id s.Accounts) s.Accounts).length<=s.Accounts.length:=by omega
 have hd:(List.drop (xX id s.Accounts) s.Accounts).length<=s.Accounts.length:=by omega
 rw[bj,aG a,aG a,aG (by grind),aG (by grind),aG (by grind),aG hs,bd_s,bz];rw[show(AD.mk s.Name (List.take (xX id s.Accounts) s.Accounts++[AH.mk id m []]++List.drop (xX id s.Accounts) s.Accounts) s.Book s.Logins)=nH s id m from rfl,aG (by omega)];cases dK s<;>cases dK (nH s id m)<;>rfl
theorem bD9 {α:Type}{x y:List α}(h:x.length<=1000)(a:y.length<=1000):bK x y:=by grind[bK]
theorem Ii (seed:Int)(n:Nat):(cK seed n).length=n:=by simp[cK]
theorem aKu (seed:Int)(n:Nat):cK seed (n+1)=cK seed n++[bE (aL seed (n:Int))]:=by simp[cK,gv]
def aUd (seed:Int)(n:Nat):bP (cK seed (n+1)) 0=some (bE (aL seed 0)):=by rw[show(0:Int)=((0:Nat):Int) from rfl,aS (by simp[Ii])];simp[cK]
theorem aKv (seed:Int)(n:Nat)(h:1<=n):cK seed n=bE (aL seed 0)::(cK seed n).drop 1:=by obtain⟨m,rfl⟩:∃m,n=m+1:=⟨n-1,by omega⟩;simp[cK,List.range_succ_eq_map]
abbrev sT (s:AD):ByteArray×List AH×Int×Int×List AY×List Int:=(s.Name,s.Accounts,s.Book.Seed,s.Book.Next,s.Book.Open,s.Logins)
theorem Vg (nm:ByteArray):∀(l:List AB) (k:Nat) (d:AB) (s:AD),pO nm k (l++[d]) s=(gG (pO nm k l s) 1 ((k+l.length:Nat):Int) (gH d.Store nm ((k+l.length:Nat):Int))).1
 |[],k,d,s=>rfl
 |x::l,k,d,s=>by
  rw[cF];show pO nm (k+1) (l++[d]) _=_;rw[Vg nm l (k+1) d,ay,show k+1+l.length=k+(l.length+1) by omega];rfl
def aUe {nm:ByteArray}{l:List AB}{s0:AD}(hl:l.length<=3)(hs:s0.sz<=1000){F:(Nat×ByteArray×List AH×Int×Int×List AY×List Int->Option (ByteArray×List AH×Int×Int×List AY×List Int))->Nat×ByteArray×List AH×Int×Int×List AY×List Int->Option (ByteArray×List AH×Int×Int×List AY×List Int)}
  (a:∀rec (i:Nat) (hi:i<l.length) (s:AD),s.sz<=2000->F rec (i,sT s)=rec (i+1,sT (gG s 1 (i:Int) (gH l[i].Store nm (i:Int))).1)) (b:∀rec s,F rec (l.length,sT s)=some (sT s)):EV.cZ FUEL F (0,sT s0)=some (sT (pO nm 0 l s0)):=
 Ih (λi=>(i,sT (pO nm 0 (l.take i) s0))) l.length (by omega) (by grind[Oa,s0,List.length_take,List.take_succ_eq_append_getElem,Vg]) (by simp[*]) rfl
def aNs {α:Type}{p r:List α}{s:α}:bP (p++s::r) ((p.length:Nat):Int)=some s:=by simp[aS]
def aYd {α ι:Type}(e:Nat->ι){p0 l:List α}(f:α->α){F:(ι×List α->Option (List α))->ι×List α->Option (List α)}(hl:l.length<=1000)
  (a:∀rec (p:List α) (d:α) (r:List α),p.length+1+r.length=p0.length+l.length->d∈l->F rec (e p.length,p++d::r)=rec (e (p.length+1),p++f d::r)) (b:∀rec (p:List α),p.length=p0.length+l.length->F rec (e (p0.length+l.length),p)=some p):EV.cZ FUEL F (e p0.length,p0++l)=some (p0++l.map f):=
 Ih (λi=>(e (p0.length+i),p0++(l.take i).map f++l.drop i)) l.length (by omega) (λrec i hi=>by
  have h2:(p0++(l.take i).map f).length=p0.length+i:=by grind
  grind[List.append_assoc,List.singleton_append,Nat.add_assoc,List.take_succ_eq_append_getElem,List.map_singleton,List.getElem_mem,List.drop_eq_getElem_cons,List.length_drop]) (by simp[*]) (by simp)
def aI4 (n:Nat)(d:AB):Nat->AB
 |0=>d
 |j+1=>Ae (aC (j:Int)) n (aI4 n d j)
theorem K9 (j:Int):(aC j).size<=100:=by unfold aC;cases j==0<;>cases j==1<;>decide
def aUf {nm:ByteArray}{n:Nat}{d:AB}{r:List AB}(hn:n<=3)(hd:d.sz<=100){F:(Nat×List AB->Option (List AB))->Nat×List AB->Option (List AB)}
  (a:∀rec (i:Nat) (x:AB),i<n->x.sz<=1000->F rec (i,x::r)=rec (i+1,(dP x nm (i:Int) false).1::r)) (b:∀rec x,F rec (n,x::r)=some (x::r)):EV.cZ FUEL F (0,d::r)=some (Ae nm n d::r):=
 Ih (λi=>(i,Ae nm i d::r)) n (by omega) (λrec i hi=>by
  have h1:=X7 nm i d;rw[a rec i _ hi (by omega)];rfl) (λrec=>b rec _) rfl
def aUg {n:Nat}{d:AB}{r:List AB}{F:(Nat×List AB->Option (List AB))->Nat×List AB->Option (List AB)}(hn:n<=3)(hd:d.sz<=10)
  (a:∀rec (j:Nat) (x:AB),j<2->x.sz<=100->F rec (j,x::r)=rec (j+1,Ae (aC (j:Int)) n x::r)) (b:∀rec x,F rec (2,x::r)=some (x::r)):EV.cZ FUEL F (0,d::r)=some (aI4 n d 2::r):=
 Ih (λj=>(j,aI4 n d j::r)) 2 (by omega) (λrec j hj=>by
  have h1:∀j:Nat,(aI4 n d j).sz<=d.sz+j*n:=by intro j;induction j<;>grind[X7,aC,aI4,Ae,Nat.add_mul]
  have h2:=h1 j;have c:j*n<=2*3:=gz (by omega) hn;rw[a rec j _ hj (by omega)];rfl) (λrec=>b rec _) rfl
def aPz {seed t:Int}(ht:1<=t/\t<=7){F:(List Int×Int->Option (List Int))->List Int×Int->Option (List Int)}(a:∀rec (s:List Int) (i:Int),1<=i->i<=8->s.length<=8->F rec (s,i)=bif decide (i<t) then rec (s++[aW seed [307,i]],i+1) else some s):EV.cZ FUEL F ([],1)=some (Ny seed t):=
 Ih (λi=>((List.range i).map λ(k:Nat)=>aW seed [307,(k:Int)+1],(i:Int)+1)) (t-1).toNat (by omega) (by grind[decide_eq_true,List.range_succ]) (λrec=>by
  rw[a rec _ _ (by omega) (by omega) (by simp;omega),aq (by omega),aj];rfl) rfl
def aRz (s:AD):AD.mk s.Name s.Accounts (AQ.mk s.Book.Seed s.Book.Next s.Book.Open) s.Logins=s:=rfl
def bEa (s:AK):AB.mk s [] (0:Int) (0:Int) (0:Int) (AF.mk [])=bE s:=rfl
def bF5 (seed:Int)(i:Nat):AK.mk (1:Int) (i:Int) (aW seed [277,(i:Int)]) (0:Int)=aL seed (i:Int):=rfl
def Q4 (n k t pin seed:Int):Cb n k t pin seed=some (aZ n k t pin seed):=by
 unfold Cb aZ Af;cases h1:bX n 1 3 with
 |false=>rfl
 |true=>
 cases h2:bX k 1 7 with
 |false=>rfl
 |true=>
 cases u:bX t 1 k with
 |false=>rfl
 |true=>
 cases I:bX pin 0 9999 with
 |false=>rfl
 |true=>
 cases J:bA seed with
 |false=>rfl
 |true=>
 have hn:=gN h1;have hk:=gN h2;have ht:=gN u;obtain⟨N,rfl⟩:∃N:Nat,n=(N:Int):=⟨n.toNat,by omega⟩;rw[bj];have h:1<=N/\N<=3:=by omega
 have K:=mJ seed N;have L:=aBs seed N;have M:=aBt seed N;simp only[bl,aj,en,ae,bd_s,bEa,bF5];rw[Ih (r:=(aQ seed N,cK seed N,List.replicate N false)) (λi=>(aQ seed i,i,cK seed i,List.replicate i false)) N (s:=([],0,[],[])) (by omega) (λrec i hi=>by
  have O:=aUd seed i
  grind[dS,aG,bK,cK,bE,aL,bD9,List.replicate,List.length_replicate,bd_s,aQ,aKu,List.replicate_succ',Ii,mJ]) (by simp) rfl]
 have v:(bB (aQ seed N) (bM seed 0) 1000).1=fK seed N:=rfl;simp only[bd_s,aG (show(aQ seed N).length<=34359738300 by omega),v,aG (show(aQ seed N).length<=34359738368/\(fK seed N).sz<=34359738368 from⟨by omega,by omega⟩)];have w:=Ii seed N;rw[Ih (r:=tL (cK seed N) seed) (λj=>((tL (cK seed N) seed).take j,j)) 2 (s:=([],0)) (by omega) (λrec j hj=>by
  have hs:=K9 (j:Int);have T:=J6 (aC (j:Int)) (aW seed [281,(j:Int)]);have W:=aBu (fB (aC (j:Int)) (aW seed [281,(j:Int)])) 1 3;simp only[av (show(j:Int)<2 by omega),ae,aG (show[281,(j:Int)].length<=34359738300 by simp),bd_s,aG (show(aC (j:Int)).size<=34359738368 by omega),aG (show(fB (aC (j:Int)) (aW seed [281,(j:Int)])).sz<=34359738300 by omega)];rw[aUe (nm:=aC (j:Int)) (l:=cK seed N) (s0:=(lC (fB (aC (j:Int)) (aW seed [281,(j:Int)])) 1 3).1) (by omega) (by omega) (λrec i hi s hsz=>by
   simp only[dS hi,ae,aS hi,bd_s,aG (show(aC (j:Int)).size<=34359738300 by omega),aRz,aG (show s.sz<=34359738300 by omega)]) (by simp)]
  have X:((tL (cK seed N) seed).take j).length<=1000:=by grind
  have z:∀x:AD,bK ((tL (cK seed N) seed).take j) [x]:=(by grind[bD9]);simp only[bd_s,aRz,aG (z _)];have b:j=0\/j=1:=by omega
  rcases b with rfl|rfl<;>rfl) (λrec=>by rfl) rfl]
 simp only[bd_s];have c:∀d∈cK seed N,d.sz=0:=λd hd=>by
  simp only[cK,ci] at hd;obtain⟨i,_,rfl⟩:=hd;rfl
 rw[show(0,cK seed N)=((λi:Nat=>i) ([]:List AB).length,([]:List AB)++cK seed N) from rfl,aYd (λi:Nat=>i) (p0:=[]) (l:=cK seed N) (rU seed N) (by omega) (λrec p d r hp hd=>by
  have h0:=c d hd;simp only[cy] at hp;simp only[dS (show p.length<N by omega),ae,aNs,bd_s,aG (show d.sz<=34359738368/\(aQ seed N).length<=34359738368 from⟨by omega,by omega⟩),bj,set_mid rfl,ce,eN];rfl) (by grind)]
 obtain⟨R,m⟩:∃R,R=((cK seed N).drop 1).map (rU seed N):=⟨_,rfl⟩;have hm:(cK seed N).map (rU seed N)=rU seed N (bE (aL seed 0))::R:=by
  grind[List.map,rU,aKv]
 have A:R.length=N-1:=by rw[m,bh,cN,w]
 have e:∀d∈R,d.sz<=10:=(by grind[List.mem_of_mem_drop,X8]);have B:=X8 seed N (bE (aL seed 0));rw[Ye] at B;have hq:∀x:AB,bP (x::R) 0=some x:=λx=>rfl;rw[bz,hm,bd_s,aUg (n:=N) (d:=rU seed N (bE (aL seed 0))) (r:=R) h.2 (by omega) (λrec j x hj D=>by
  simp only[av (show(j:Int)<2 by omega),ae];rw[aUf (nm:=aC (j:Int)) (n:=N) (d:=x) (r:=R) h.2 D (by grind[K9,dS,bd_s,aG,aC]) (by simp)];rfl) (λrec x=>by rfl)]
 have F:aI4 N (rU seed N (bE (aL seed 0))) 2=jK seed N:=rfl;have o:dI (jK seed N)=nwW seed N:=rfl;have hc:(bZ (dN (aQ seed N) (fK seed N)).1 (nwW seed N).2.1).1=fM seed N:=rfl;have Z:=aBr seed N;have q:=xW (jK seed N);rw[o] at q;have G:=J5 (aQ seed N) (fK seed N);have a:∀x y:AB,(x::R).set (0:Int).toNat y=y::R:=λ_ _=>rfl;simp only[bd_s,F,hq,aG (show(jK seed N).sz<=34359738368 by omega),o,aG (show(dN (aQ seed N) (fK seed N)).1.sz<=34359738300/\(nwW seed N).2.1.sz<=34359738300 from⟨by omega,by have:=q.2;simp only[AI.sz];omega⟩),hc,a];rw[show((1:Int),(nwW seed N).1::R)=((λi:Nat=>(i:Int)) ([(nwW seed N).1]:List AB).length,[(nwW seed N).1]++R) from rfl,aYd (λi:Nat=>(i:Int)) (p0:=[(nwW seed N).1]) (l:=R) (λd=>(bU d (fM seed N).Log (fM seed N).Boxes (fC (fM seed N) 0).1).1) (by omega) (λrec p d r hp hd=>by
  have h0:=e d hd;simp only[ay,cy] at hp;simp only[dS (show p.length<N by omega),ae,aNs,bd_s,aG (show d.sz<=34359738100/\(fM seed N).sz<=34359738100 from⟨by omega,by omega⟩),bj,set_mid rfl,ce,eN,aH (by omega) (show(p.length:Int)+1<=9223372036854775807 by omega)];rfl) (by grind)]
 have H:[(nwW seed N).1]++R.map (λd=>(bU d (fM seed N).Log (fM seed N).Boxes (fC (fM seed N) 0).1).1)=iG seed N:=by rw[m,gq];show(nwW seed N).1::_=(nwW seed N).1::_;simp[fx,aZ1]
 rw[H];simp only[bd_s];rw[aPz (seed:=seed) (t:=t) (by grind) (by grind[bK,bD9,aG,bd_s,aH])];have f:(Ny seed t).length<=34359738368:=by grind[Ny,List.length_map,List.length_range]
 simp only[bd_s,aG (show([283]:List Int).length<=34359738300 by simp),aG (show([293]:List Int).length<=34359738300 by simp),aG (by omega),aG f];rfl
def aP0 (l:List Int):aPp l=some (aTl l):=rfl
def aUh (l:List Int)(i:Int)(h:0<=i):aIv l i=some (atF l i):=by
 unfold aIv atF;by_cases hi:i<(l.length:Int)
 ·rw[av hi,ae,ae,Fj h (by omega)];rfl
 ·rw[aq hi];rfl
def bA5 {w:AA}{i:Nat}(h:w.sz<=34359738368)(hi:i<w.Sites.length):w.Sites[i].Accounts.length<=34359738368/\∀k (hk:k<w.Sites[i].Accounts.length),w.Sites[i].Accounts[k].Credentials.length<=34359738368:=by
 have h1:w.Sites[i].sz<=w.sz:=by
  have:=Jo (f:=AD.sz) hi
  grind[AA.sz,List.getD,List.getElem?_eq_getElem]
 refine⟨by simp only[AD.sz] at h1;omega,λk hk=> ?_⟩;have:=Jo (f:=AH.sz) hk
 grind[AH.sz,AD.sz,List.getD,List.getElem?_eq_getElem]
def bHt:List (Int×Int):=[(387010709,0),(387010709,1),(387010709,2),(387010709,3)]
structure NewIn (n:Nat) (s:Int) (w:AA):Prop where
 ok:bL w=true
 len:w.Devices.length=n
 dev:∀i (hi:i<n),w.Devices[i]? =some (Gh s n i 1 (Y1 n))
 acc:∀j (hj:j<2),∃x l,w.Sites[j]? =some x/\x.Accounts=[⟨1,3,l⟩]/\l.length=n
 two:w.Sites.length=2
 list:∀i:Nat,i<n->aV w (i:Int)=true
 no:aV w (n:Int)=false
section
variable {ρ σ τ S:Type}
def Ex (x:Option τ)(Q:τ->Prop):Prop:=∃r,x=some r/\Q r
def St (V:Nat->S->Prop)(Q:τ->Prop)(i:Nat)(rec:S->Option τ)(x:Option τ):Prop:=(∃s',V (i+1) s'/\x=rec s')\/Ex x Q
section
variable {V:Nat->S->Prop} {Q:τ->Prop} {i:Nat} {rec:S->Option τ}
end
end
structure Wv (i:Nat) (w:AA):Prop where
 inn:WIn w.Devices.length w
 now:w.Now<=(i:Int)
 sz:w.sz<=100000+3000*i
 cld:CldOk w.aAB
def aR0 {l:List Int}(hb:aTl l=false):l.length<=1048576:=by unfold aTl at hb;rw[cT] at hb;omega
end
end Go.VK
set_option maxRecDepth 100000
set_option maxHeartbeats 4000000
namespace Go.VK
open Go.RowKit Go.Proofs D
noncomputable section
open EV (cZ)
def Ij (w:AA)(h:w.Hosts.length<=34359738368):qE w=some (dM w):=by unfold qE;rw[kR (l:=w.Hosts) (λh=>decide (h.State.Guesses>h.State.Limit)||decide (qP h.State>h.Monotonic)) (.inl false) (.inr ()) (by omega) (by grind[dS,aS,bd_s,decide]) (by simp)];unfold dM;cases w.Hosts.any _<;>rfl
def Q5 (w:AA)(d:Int)(h:Ed w):Cg w d=some (jX w d):=by
 unfold Cg jX;cases hd:aO w d with
 |false=>rfl
 |true=>
  have a:=h.2.2.1
  grind[zZ,bd_s,aG]
def aYe {α:Type}(l:List α):List.take (Int.toNat (if (l.length:Int)<2 then(l.length:Int) else(2:Int))) l=l.take 2:=by simp at*;omega
def bEb {α:Type}(l:List α):lW l (if (l.length:Int)<2 then(l.length:Int) else(2:Int)):=by
 grind[lW]
def Vh (w:AA)(d:Int)(h:w.sz<=34359738368):wL w d=some (iF w d):=by
 have k:=aX6 h;unfold wL iF;rw[aG k,bd_s];cases jX w d with
 |false=>rfl
 |true=>
  simp only[bl,aj,dg,aG k,bd_s];cases aV w d with
  |true=>rfl
  |false=>
  simp only[aj,dy,cM,aYe,aG (bEb w.Sites)];rw[kR (l:=w.Sites.take 2) (rP d) (.inl false) (.inr ()) (by grind) (λrec i hi=>by
   have f:=hi;rw[cx] at f;have j:i<w.Sites.length:=by omega
   have e:(w.Sites.take 2)[i]=w.Sites[i]:=by simp
   obtain⟨m,z2⟩:=bA5 h j;simp only[dS hi,ae,bd_s,aS hi,e,aG m];unfold rP;generalize w.Sites[i]=s at m z2;by_cases hk:aF s 1<0
   ·simp[*]
   ·obtain⟨k1,k2⟩:=Rn (show 0<=aF s 1 by omega);have b:(aF s 1).toNat<s.Accounts.length:=by grind[aF]
    have n:=z2 _ b;simp only[aq hk,aj,zJ (show 0<=aF s 1 by omega) b,bd_s,dy,cM,List.getD,ab b,cw];generalize s.Accounts[(aF s 1).toNat]=a at n;rw[kR (l:=a.Credentials) (λc=>c.Handle==d&& !c.Cut) (.inl (.inl false)) (.inr ()) (by omega) (by grind[dS,aS,bd_s]) (by simp)];cases a.Credentials.any _<;>rfl) (by simp)]
  cases(w.Sites.take 2).any (rP d)<;>rfl
def Zv (w:AA)(d:Int)(h:Ed w/\w.aAB.Boxes.sz<=34359738368):yT w d=some (gM w d):=by
 unfold yT gM;cases hd:aO w d with
 |false=>rfl
 |true=>simp only[bl,aj,zZ hd,bd_s,aG h.1,aG h.2,aG h.1.2.2.1,cM];simp
def Vi (w:AA)(h:w.sz<=34359738368):wN w=some (mG w):=by
 have b:=aX6 h;have hb:w.aAB.Boxes.sz<=34359738368:=by grind[AM.sz,AA.sz]
 have a:w.Hosts.length<=34359738368:=by grind[AA.sz]
 have hd:w.Devices.length<=34359738368:=by grind[AA.sz]
 unfold wN mG;rw[aG h,bd_s];cases bL w with
 |false=>rfl
 |true=>
  simp only[bl,aj,aG a,bd_s,cM];cases dM w with
  |false=>rfl
  |true=>simp only[bl,aj,cM];rw[iJ (l:=w.Devices) (Nv w) (.inl false) (.inr ()) (by omega) (by grind[dS,bd_s,aG,Ed,Nv,iF]) (by simp)];cases gX (Nv w) 0 w.Devices<;>rfl
structure Hst (w:AA) (v:List AZ) (x:AA):Prop where
 ok:bBt w v
 run:bHn w v=x
 all:All (M9++bHt) 19 x
 sz:x.sz<=300000
 log:bDs w v 2+bDs w v 5=cntF x 0+cntF x 1
 no:bDs w v 3=0
 few:cntF x 0+cntF x 1<=300000
def Zw (w:AA)(l:List AZ)(h:w.sz<=34359738368/\aPg l):yQ w l=some w:=by obtain⟨h1,h2⟩:=h;obtain rfl:=bv h2;unfold yQ;rw[aG h1,bd_s,aJ2 (τ:=Int×Int×List AB×List Bool×List AC×Int×List AN×List AI×List AD×Int×Int×Int×Int×List AJ×Int×List AS) (λi s=>s=((0:Int),w.Now,w.Seed,w.Devices,w.Stolen,w.aAB.Log,w.aAB.Boxes.Epoch,w.aAB.Boxes.Boxes,w.aAB.History,w.Sites,w.aAP.Salt,w.aAP.Threshold,w.aAP.Check,w.aAP.Masked,w.Hosts,w.Pin,w.Mail.Notices)) 0 (some (w.Now,w.Seed,w.Devices,w.Stolen,w.aAB.Log,w.aAB.Boxes.Epoch,w.aAB.Boxes.Boxes,w.aAB.History,w.Sites,w.aAP.Salt,w.aAP.Threshold,w.aAP.Check,w.aAP.Masked,w.Hosts,w.Pin,w.Mail.Notices)) (by omega) rfl (λi s rec hi hv=>absurd hi (Nat.not_lt_zero i)) (λs rec hv=>by subst hv;rfl)];rfl
def Vj {α:Type}{l:List α}{i:Nat}{v:α}(h:l[i]? =some v):bP l (i:Int)=some v:=by unfold bP;rw[cA (by omega),bj];exact h
def bEc {n:Int}(h:0<=n):n.tmod 2=0\/n.tmod 2=1:=by rw[cn h];omega
def Df (l:List Int)(h:aBv l):oD l=some true:=by
 unfold oD;cases hb:aTl l with
 |true=>rfl
 |false=>
  have u:=bBq h (aR0 hb) (i:=0) (by omega) (by omega);have m:=bBq h (aR0 hb) (i:=1) (by omega) (by omega);have w0:IntKind.i64.wrap ((1:Int)+atF l 0)=1+atF l 0:=aH (by omega) (by omega);have f:=bEc m.1;simp only[aj,aG (show(0:Int)<=0 by decide),aG (show(0:Int)<=1 by decide),aG (show(2:Int)≠0 by decide),bd_s,w0];generalize hs:(1:Int)+atF l 0=s;have j:1<=s/\s<=256:=by omega
  generalize(atF l 1).tmod (2:Int)=b at f ⊢;obtain⟨hc,e⟩:=bAp j f rfl rfl;have v:=aM0 3 2 1 5 s;have w:All (M9++[]) 0 (aZ 3 2 1 5 s):=aRs (by unfold Af;rw[show bA s=true from fU (by omega) (by omega)];decide);have n:=bAc w.wi b 2;obtain⟨x,ex⟩:∃x,x=(dA (aZ 3 2 1 5 s) b 2).1:=⟨_,rfl⟩;have o:dA (aZ 3 2 1 5 s) b 2=(x,true):=by rw[ex,<-hc]
  rw[<-ex] at e n;have p:x.sz<=200000:=by omega
  have y:Ed x:=by unfold Ed;simp only[AA.sz] at p;omega
  obtain⟨st,a,c,q,z,A,B,D,F,G⟩:=bFs e;obtain⟨r,z2,H⟩:=bFt f e;obtain⟨h1,t,I,J⟩:=bFv j e;have K:x.sz<=34359738368/\aPg []:=⟨by omega,rfl⟩;have q1:bP x.Sites 1=some st:=Vj (i:=1) q;have q2:bP st.Accounts 0=some a:=Vj (i:=0) z;have q3:bP a.Credentials 2=some c:=Vj (i:=2) B;have q4:bP x.Devices b=some (aD x b):=by have:=Vj r;rw[dT (by omega)] at this;exact this
  have q5:bP x.Hosts 1=some h1:=Vj (i:=1) t;have eY:∀(x:AA) (s:AD) (a:AH) (c:AP),AA.mk x.Now x.Seed x.Devices x.Stolen x.aAB (x.Sites.set (1:Int).toNat (AD.mk s.Name (s.Accounts.set (0:Int).toNat (AH.mk a.Id a.Minimum (a.Credentials.set (2:Int).toNat (AP.mk c.Handle c.Public c.Counter false)))) s.Book s.Logins)) x.aAP x.Hosts x.Pin x.Mail=aKm x s a c:=λ_ _ _ _=>rfl;have eZ:∀(x:AA) (b:Int) (d:AB) (k:Int),AA.mk x.Now x.Seed (x.Devices.set b.toNat (AB.mk d.Store d.Log (IntKind.i64.wrap (k+1)) d.Epoch d.Version d.aAD)) x.Stolen x.aAB x.Sites x.aAP x.Hosts x.Pin x.Mail=Yk x b d k:=λ_ _ _ _=>rfl;have eV:∀(x:AA) (h:AJ),AA.mk x.Now x.Seed x.Devices x.Stolen x.aAB x.Sites x.aAP (x.Hosts.set (1:Int).toNat (AJ.mk (AU.mk h.State.aAQ h.State.Epoch 6 h.State.Limit) h.Saved h.Monotonic)) x.Pin x.Mail=aKn x h:=λ_ _=>rfl;have sY:=bAq x c (ax q) D;have sZ:=bAr x b (aD x b).Key (ax r);have sV:=bAs x (ax t);have L:Ed (Yk x b (aD x b) (aD x b).Key)/\x.aAB.Boxes.sz<=34359738368:=by unfold Ed;simp only[AA.sz,AM.sz,Yk] at sZ p ⊢;omega
  have M:(x.Hosts.set (1:Int).toNat (AJ.mk (AU.mk h1.State.aAQ h1.State.Epoch 6 h1.State.Limit) h1.Saved h1.Monotonic)).length<=34359738368:=by rw[au];simp only[AA.sz] at p;omega
  rw[aG (show(aZ 3 2 1 5 s).sz<=100000000 by omega),bd_s,o];simp only[aG K,bd_s,q1,q2,q3,q4,q5,A,aG (show a.Credentials.length<=34359738368 by omega),bl,aj,show decide ((2:Int)<0)=false from rfl];simp only[eY,eZ,eV,aG (show x.sz<=34359738368 by omega),aG y,aG (show(aKm x st a c).sz<=34359738368 by omega),aG (show(Yk x b (aD x b) (aD x b).Key).sz<=34359738368 by omega),aG L,aG M,aG (show(aKn x h1).sz<=34359738368 by omega),bd_s,e.all.aDR,e.cut2,e.cut0,F,G,z2,H,I,J,ae,dy];rw[show jX x 9=false by unfold jX aO;rw[e.len];rfl];rfl
end
end Go.VK
