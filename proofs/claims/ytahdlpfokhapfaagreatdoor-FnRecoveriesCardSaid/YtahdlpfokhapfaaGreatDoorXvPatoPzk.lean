import Derived.Test.YtahdlpfokhapfaaGreatDoorXvM
import Derived.Test.YtahdlpfokhapfaaGreatDoorLKatoq
/- Printed by wip/tools: models, walks, proofs. -/
set_option linter.all false
set_option maxRecDepth 100000
set_option maxHeartbeats 4000000
namespace Go.VK
open Go.RowKit Go.Proofs D
noncomputable section
open EV (bG)
def aTg (a b c:Int):aDh a b c=some (bD a b c):=by unfold aDh bD;show bd (bif decide (b<=a) then some (decide (a<=c)) else some false) _=_;cases decide (b<=a)<;>rfl
def aIa (a b c:Int):Mv a b c=some (bD a b c):=by unfold Mv bD;cases decide (b<=a)<;>rfl
def aVn (p q:Int):aH4 p q=some (bJ p q):=by
 grind[bA6,bD,aB,bIr,aH4]
def aVo (p q:Int):aH9 p q=some (bJ p q):=by
 unfold aH9;simp only[bd_bb];by_cases h:1<=q/\q<=1000000000000
 ·rw[aB (by omega)];by_cases ht:p.tmod q<0
  ·simp[h,ht,show ¬q<1 by omega,show ¬q>1000000000000 by omega,bIp h ht];rw[IntKind.wrap_i64];have:=lI (p:=p) (q:=q) h.1;omega
  grind[bIq]
 grind[bA6]
theorem aN7:((2147483647:Int)≠0)=True:=by simp
def aTh (l:List Int)(h:l.length<=1099511627776):aDi l=some (tN l):=by
 unfold aDi;rw[gB (l:=l) hstep (λ_ _=>True) (λs=>some s) (by omega) trivial (by simp) (λrec i s hi _=>by
  simp only[bZ hi,ac,aI hi,bd_s,aN7,gd_T];rfl) (by simp)]
 rfl
def aTi (l:List Int)(h:l.length<=1099511627776):aDj l=some (tN l):=by
 unfold aDj;rw[gB (l:=l) hstep (λ_ _=>True) (λs=>some s) (by omega) trivial (by simp) (λrec i s hi _=>by
  simp only[bZ hi,ac,aI hi,bd_s,aN7,gd_T];rfl) (by simp)]
 rfl
def aAa (k:Int)(l:List Int)(h:l.length<=34359738368):Bw k l=some (bH k l):=by unfold Bw;rw[aB (by grind[aL]),aB (by grind[aL]),aB (by simp;omega)];simp[bH]
theorem Tz {α:Type}{r:List (List α)}{i:Nat}(hi:i<r.length):(r.take (i+1)).flatten=(r.take i).flatten++r[i]:=by
 grind[Option.toList_some,List.flatten_cons,List.flatten_nil,List.take_add_one,List.getElem?_eq_getElem,List.flatten_append]
def aLc (a:List Int)(r:List (List Int))(h:aC8 a r):Tv a r=some (Kj a r):=by
 unfold Tv;have hs:∀i,(r.take i).flatten.length<=r.flatten.length:=(by grind[List.take_append_drop,List.flatten_append,List.length_append]);rw[aB (by grind[aL]),gB (l:=r) (λs x=>s++x) (λi s=>s=a++(r.take i).flatten) (λs=>some s) (by omega) (by simp)
  (by grind[Tz,List.append_assoc])
  (λrec i s hi hv=>by
   have e:=Tz hi;have h1:=hs (i+1);rw[e,aE] at h1;simp only[bZ hi,ac,aI hi,bd_s];rw[aB (by grind[List.length_append,aL])]) (by simp)]
 have:r.foldl (λs x=>s++x) ([]++a)=a++r.flatten:=by rw[bo,X8 (f:=λx:List Int=>x)];simp
 rw[this];rfl
def aAb (k:Int)(l:List Int)(h:l.length<=34359738368):Da k l=some (bH k l):=by
 grind[bH,Kj,aB,bd_s,Da]
def aVp (a b:Int):aH5 a b=some (aPk a b):=by simp[aH5,aPk]
def aP6 (n:Int):A9 n=some (gQ n):=by simp[A9,gQ]
def aAc (k:Int)(l:List Int)(h:l.length<=34359738300):Ca k l=some (aJ k l):=by unfold Ca;rw[aB (by grind[aL]),aB (by simp;omega),bd_s,aR5 (mD _ _).1];rfl
def aAd (k:Int)(l:List Int)(h:l.length<=34359738300):Dc k l=some (aJ k l):=by
 grind[aJ,Kj,aB,bd_s,Dc]
def C9 (n:Int):x8 n=some (bQ n):=rfl
def D5 (n:Int):A8 n=some (bQ n):=rfl
def aAe (n:Int):Cb n=some (fH n):=by unfold Cb fH;cases bQ n<;>rfl
def aAf (s:AO):Z5 s=some (iU s):=by rfl
def Ql (s:AO):Qi s=some (bO s):=rfl
def aLd (l:List Int)(x:Int)(h:l.length<=1099511627776):Tg l x=some (gT l x):=by unfold Tg;rw[lZ (l:=l) (λe=>e==x) (.inl true) (.inr ()) (by omega) (by grind[bZ,aI,bd_s]) (by simp)];unfold gT;cases l.any _<;>rfl
def aVq (l:List Int)(x:Int)(h:l.length<=1099511627776):aH8 l x=some (gT l x):=by unfold aH8;rw[lZ (l:=l) (λe=>e==x) (.inl true) (.inr ()) (by omega) (by grind[bZ,aI,bd_s]) (by simp)];unfold gT;cases l.any _<;>rfl
def aP7 (s:List Int)(x:Int):gT s x=s.contains x:=by
 grind[Bool.beq_comm,List.contains_eq_any_beq,gT]
def aN8 {s:List Int}{e:AD}(h:(e.Kind==1)=true):jK s e=bif !gT s e.Device then s++[e.Device] else s:=by unfold jK;rw[h,aP7];cases s.contains e.Device<;>rfl
def aN9 {s:List Int}{e:AD}(h:(e.Kind==1)=false):jK s e=bif e.Kind==2 then s.filter (λd=>d !=e.Device) else s:=by
 grind[jK]
def aAg (l:List AD)(h:l.length<=34359738368):Cc l=some (aD l):=by
 unfold Cc;rw[gB (l:=l) jK (λi s=>s.length<=i) (λs=>some s) (by omega) (by simp) (by grind[aC5])
  (λrec i s hi hv=>by
   simp only[bZ hi,ac,aI hi,bd_s];rw[aB (by omega)];have e:∀x:Int,bG (α:=List Int) FUEL (λa (i8:(List Int×Nat))=>bif (decide ((↑i8.2:Int)<(↑s.length:Int))) then(bd (bd (aW s (↑i8.2:Int)) λ(c:(Int))=>bif (c !=x) then(bd (aW s (↑i8.2:Int)) λ(b:(Int))=>gd (aL i8.1 [b]) (some (i8.1++[b]))) else(some (i8.1))) λ(f:(List Int))=>a ((f,(i8.2+1)))) else(some (i8.1))) ([],0)=some (s.filter λd=>d !=x):=λx=>by
    rw[gB (l:=s) (λq y=>bif y !=x then q++[y] else q) (λi q=>q.length<=i) (λq=>some q) (by omega) (by simp) (λi q hi hv=>by cases(s[i] !=x)<;>simp<;>omega)
     (by grind[bZ,aI,bd_s,aB,aL]) (by simp),Ef]
    simp
   rw[e];cases h1:(l[i].Kind==1) with
   |true=>
    have h2:(l[i].Kind==2)=false:=by simp_all
    rw[aN8 h1,h2];rw[aB (by grind[aL])];cases gT s l[i].Device<;>rfl
   |false=>
    rw[aN9 h1,aB (by grind[aL])];cases(l[i].Kind==2)<;>rfl) (by simp)]
 rfl
def aAh (l:List AD)(h:l.length<=34359738368):Cz l=some (aD l):=by
 unfold Cz;rw[gB (l:=l) jK (λi s=>s.length<=i) (λs=>some s) (by omega) (by simp) (by grind[aC5])
  (λrec i s hi hv=>by
   simp only[bZ hi,ac,aI hi,bd_s];rw[aB (by omega)];have e:∀x:Int,bG (α:=List Int) FUEL (λb (a:(List Int×Nat))=>bif (decide ((↑a.2:Int)<(↑s.length:Int))) then(bd (bd (aW s (↑a.2:Int)) λ(c:(Int))=>bif (c !=x) then(gd (aL a.1 [c]) (some (a.1++[c]))) else(some (a.1))) λ(f:(List Int))=>b ((f,(a.2+1)))) else(some (a.1))) ([],0)=some (s.filter λd=>d !=x):=λx=>by
    rw[gB (l:=s) (λq y=>bif y !=x then q++[y] else q) (λi q=>q.length<=i) (λq=>some q) (by omega) (by simp) (λi q hi hv=>by cases(s[i] !=x)<;>simp<;>omega)
     (by grind[bZ,aI,bd_s,aB,aL]) (by simp),Ef]
    simp
   rw[e];cases h1:(l[i].Kind==1) with
   |true=>rw[aN8 h1,aB (by grind[aL])];cases gT s l[i].Device<;>rfl
   |false=>
    rw[aN9 h1];cases(l[i].Kind==2)<;>rfl) (by simp)]
 rfl
def aIb (a:AI)(s h:Int):Me a s h=some (sD a s h):=by unfold Me sD;cases decide (a.Site<s)<;>cases(a.Site==s)<;>rfl
def bD9 {l:List AI}{i:Nat}(hi:i<l.length)(hl:l.length<=34359738368){q:AI->Bool}(hq:∀x,q x=fC x l[i]):
  (bif (!bD l[i].Site (0:Int) (2147483646:Int)) then(some (true)) else(bif (!bD l[i].Handle (0:Int) (1000000:Int)) then(some (true)) else(bif (!bD l[i].Version (1:Int) (1000000:Int)) then(some (true)) else(bif (decide ((i:Int)>(0:Int))) then(bd (aW l (IntKind.i64.wrap ((i:Int)-(1:Int)))) λ(a:(AI))=>some (!q a)) else(some (false))))))=some (aR9 l i l[i]):=by
 unfold aR9;cases bD l[i].Site 0 2147483646 with
 |false=>rfl
 |true=>
  cases bD l[i].Handle 0 1000000 with
  |false=>rfl
  |true=>
   cases bD l[i].Version 1 1000000 with
   |false=>rfl
   |true=>
    by_cases h0:(i:Int)>0
    ·rw[ap h0,aH (by omega) (by omega)];have b:aW l ((i:Int)-1)=some l[i-1]:=by
      grind[aI]
     grind[bd_s,Bool.not_true,default,List.getD,List.getElem?_eq_getElem]
    simp_all
def aD1 (b:AE)(h:b.sz<=34359738368):Gv b=some (aS b):=by
 simp only[AE.sz] at h;unfold Gv aS;rw[fA (l:=b.Entries) (aR9 b.Entries) (.inl false) (.inr ()) (by omega) (λrec i hi=>by
  simp only[bZ hi,ac,aI hi,bd_s];rw[bD9 hi h (q:=λx=>sD x b.Entries[i].Site b.Entries[i].Handle) (λx=>rfl)];rfl) (by simp)]
 grind[dP,aR9,nx]
def aAi (b:AE)(s h:Int)(a:b.sz<=34359738368):Ch b s h=some (aN b s h):=by simp only[AE.sz] at a;unfold Ch aN;exact aR2 (l:=b.Entries) (λ(e:AI)=>e.Site==s&&e.Handle==h) (by omega) (by grind[bZ,aI,bd_s]) (by simp)
def aIc (b:AE)(h:b.sz<=34359738368):Mc b=some (b):=by simp only[AE.sz] at h;unfold Mc;rw[aB (by grind[List.length_nil,aL])];rfl
def D6 (b:AE)(h:b.sz<=34359738368):zA b=some (b):=by simp only[AE.sz] at h;unfold zA;rw[aB (by grind[List.length_nil,aL])];rfl
theorem aX1 (p:AI->Bool):∀(l:List AI) (i:Nat),i<=(l.takeWhile p).length->(∃hi:i<l.length,p l[i]=true/\i<(l.takeWhile p).length)\/(i=(l.takeWhile p).length/\∀hi:i<l.length,p l[i]=false)
 |[],i,h=> .inr ⟨by simpa using h,λhi=>by simp at hi⟩
 |x::l,i,h=>by
  rw[cP] at h ⊢;cases hp:p x with
  |false=>rw[hp] at h;simp at h;subst h;exact .inr ⟨by simp,λ_=>hp⟩
  |true=>
   rw[hp] at h;simp only[gr,au] at h ⊢;cases i with
   |zero=>exact .inl ⟨by simp,hp,by omega⟩
   |succ i=>
    rcases aX1 p l i (by omega) with⟨h1,h2,a⟩|⟨h1,h2⟩
    ·exact .inl ⟨by simpa using h1,h2,by omega⟩
    ·exact .inr ⟨by omega,λhi=>h2 (by simpa using hi)⟩
def aX2 (p:AI->Bool):∀l:List AI,l.take (l.takeWhile p).length=l.takeWhile p
 |[]=>rfl
 |x::l=>by
  rw[cP];cases p x with
  |false=>rfl
  |true=>simp only[gr,au,gt];rw[aX2 p l]
def aX3 (p:AI->Bool):∀l:List AI,l.drop (l.takeWhile p).length=l.dropWhile p
 |[]=>rfl
 |x::l=>by
  rw[cP,List.dropWhile_cons];cases p x with
  |false=>rfl
  |true=>simp only[gr,au,fL];rw[aX3 p l]
def aLe (b:AE)(x:AI)(h:b.sz<=34359738360):Tn b x=some (Ey b x):=by
 have d:=h;simp only[AE.sz] at h;unfold Tn Ey;rw[aB (by omega),bd_s,aB (by omega),bd_s];by_cases c:aN b x.Site x.Handle>=0
 ·rw[ap c,ac,ac];have:=aF0 (by assumption);simp_all[xY,aN]
 ·rw[ax c,ah,ah];have a:(b.Entries.takeWhile λe=>sD e x.Site x.Handle).length<=b.Entries.length:=(List.takeWhile_sublist _).length_le;rw[Af (λi s=>i<=(b.Entries.takeWhile λe=>sD e x.Site x.Handle).length/\s=(i:Int)) b.Entries.length (some ((b.Entries.takeWhile λe=>sD e x.Site x.Handle).length:Int)) (s:=(0:Int)) (by omega) ⟨by omega,rfl⟩ (by grind[aX1,bZ,aI,bd_s,aH]) (by grind[sD,bd_s]),bd_s];rw[aB ⟨by omega,by simpa using a⟩,aB ⟨by omega,by simpa using a⟩,aB (by grind[aL]),aB (by grind[aL]),aB (by grind[aL])];rw[bv,bo];rw[aX2,aX3]
theorem bAj {l:List AI}{k:Int}(h0:0<=k)(h1:k.toNat<l.length)(x:AI):(bd (aW l k) λ(b:AI)=>bif (decide (x.Version>b.Version)) then(some (true)) else(bd (aW l k) λ(a:AI)=>bif (x.Version==a.Version) then(some (x.Deleted)) else(some (false))))=some (Ah x (l.getD k.toNat default)):=by rw[xY h0 h1,List.getD,aa h1,cA];simp only[bd_s];unfold Ah;cases decide (x.Version>l[k.toNat].Version)<;>cases(x.Version==l[k.toNat].Version)<;>rfl
def Qm (a b:AE)(h:a.sz<=34359738368/\b.sz<=34359738368):uB a b=some (nG a b):=by
 unfold uB nG;rw[aB h.1,bd_s];cases f:aS a with
 |false=>simp[*]
 |true=>
  rw[aB h.2];cases hb:aS b with
  |false=>simp[*]
  |true=>
   obtain⟨n,j⟩:=bC3 f;obtain⟨p,k⟩:=bC3 hb;rw[aB h.1];simp only[bf,ah,ac,bd_s,dm];rw[aNi (l:=b.Entries) (s0:=a.Entries) (λo x=>dL o [x]) (λi o=>srt o/\o.length<=20+i) (λo=>some o) (by omega) ⟨j,by omega⟩ (λi o hi hv=>by
     have:=Bi _ o [b.Entries[i]] (ak _)
     grind[aW6,List.length_singleton]) (λrec i o hi hv=>by
     obtain⟨hs,hl⟩:=hv;simp only[bZ hi,ac,aI hi,bd_s];rw[aB (by grind[AE.sz]),bd_s,<-bC2 hs];have hk:(bif decide (aN ⟨o⟩ b.Entries[i].Site b.Entries[i].Handle<0) then some true else bd (aW o (aN ⟨o⟩ b.Entries[i].Site b.Entries[i].Handle)) λ(m:AI)=>bif (decide (b.Entries[i].Version>m.Version)) then(some (true)) else(bd (aW o (aN ⟨o⟩ b.Entries[i].Site b.Entries[i].Handle)) λ(c:AI)=>bif (b.Entries[i].Version==c.Version) then(some (b.Entries[i].Deleted)) else(some (false))))=some (decide (aN ⟨o⟩ b.Entries[i].Site b.Entries[i].Handle<0)||Ah b.Entries[i] (o.getD (aN ⟨o⟩ b.Entries[i].Site b.Entries[i].Handle).toNat default)):=by
      by_cases d:aN ⟨o⟩ b.Entries[i].Site b.Entries[i].Handle<0
      ·simp[*]
      ·rw[ax d,ah];have:=aF0 (show 0<=iR (λ(e:AI)=>e.Site==b.Entries[i].Site&&e.Handle==b.Entries[i].Handle) 0 o from by unfold aN at d;simp only at d;omega)
       grind[bAj,aN]
     grind[decide,aN,Ah,default,aB,AE.sz,bd_s]) (by simp)]
   rw[aHa _ _ k,bd_s];have hm:=Bi _ a.Entries b.Entries (ak _);rw[aB (by grind[AE.sz]),bd_s];cases aS ⟨dL a.Entries b.Entries⟩<;>rfl
def aId (l:List AD)(h:l.length<=34359738368):Ll l=some l:=by
 grind[lM,Ll]
def aIe (l:List AD)(h:l.length<=34359738368):Mt l=some l:=by
 grind[lM,Mt]
def aAj (l:List Int)(h:l.length<=34359738368):Ct l=some l:=by
 grind[lM,Ct]
def aIf (d:AC)(h:d.sz<=34359738368):Md d=some d:=by simp only[AC.sz] at h;unfold Md;simp only[aB (show d.Log.length<=34359738368 by omega),aB (show d.aAF.sz<=34359738368 by simp only[AE.sz];omega),bd_s]
def D7 (d:AC)(h:d.sz<=34359738368):zB d=some d:=by simp only[AC.sz] at h;unfold zB;simp only[aB (show d.Log.length<=34359738368 by omega),aB (show d.aAF.sz<=34359738368 by simp only[AE.sz];omega),bd_s]
def aIg (e:AK)(h:e.sz<=34359738368):Ls e=some e:=by
 simp only[AK.sz] at h;unfold Ls;rw[Zy (l:=e.Boxes) (by omega) (λrec i s hi hs=>by
  have a:=gP (f:=AN.sz) hi;simp only[AN.sz] at a h;simp only[bZ hi,ac,aI hi,bd_s,lM (show e.Boxes[i].Data.length<=34359738368 by omega),fG hs,bo]) (by simp)]
 rfl
def aAk (l:List AN)(h:mF AN.sz l<=34359738368):Cu l=some l:=by
 unfold Cu;unfold mF at h;rw[bC4 (l:=l) (by omega) (λrec i s hi hs=>by
  have a:=gP (f:=AN.sz) hi;simp only[AN.sz] at a h;simp only[bZ hi,ac,aI hi,bd_s,aB (show l[i].Data.length<=34359738368 by omega),fG hs]) (by simp)]
 rfl
def Ii (e:AK)(h:e.sz<=34359738368):qE e=some e:=by unfold qE;simp only[aB (show mF AN.sz e.Boxes<=34359738368 from h),bd_s]
def aIh (e:AH)(h:e.sz<=34359738368):Mf e=some e:=by unfold Mf;rw[lM h];rfl
def D8 (e:AH)(h:e.sz<=34359738368):yZ e=some e:=by unfold yZ;simp only[aB (show e.Data.length<=34359738368 from h),bd_s]
def aIi (c:AL)(h:c.sz<=34359738368):Mg c=some c:=by simp only[AL.sz] at h;unfold Mg;rw[Zy (l:=c.History) (by omega) (by grind[gP,AH.sz,bZ,aI,bd_s,aB,fG]) (by simp)];simp only[aB (show c.Log.length<=34359738368 by omega),aB (show c.Boxes.sz<=34359738368 by simp only[AK.sz];omega),bd_s]
def aAl (c:AL)(h:c.sz<=34359738368):Cw c=some c:=by simp only[AL.sz] at h;unfold Cw;rw[Zy (l:=c.History) (by omega) (by grind[gP,AH.sz,bZ,aI,bd_s,aB,fG]) (by simp)];simp only[aB (show c.Log.length<=34359738368 by omega),aB (show c.Boxes.sz<=34359738368 by simp only[AK.sz];omega),bd_s]
def aIj (e:AJ)(h:e.sz<=34359738368):Lv e=some e:=by unfold Lv;rw[lM h];rfl
def Vi (e:AJ)(h:e.sz<=34359738368):wO e=some e:=by unfold wO;rw[lM h];rfl
def aIk (e:AQ)(h:e.sz<=34359738368):Lx e=some e:=by unfold Lx;rw[lM h];rfl
def aD2 (e:AQ)(h:e.sz<=34359738368):Hl e=some e:=by unfold Hl;rw[lM h];rfl
def aIl (s:AF)(h:s.sz<=34359738368):Ma s=some s:=by simp only[AF.sz] at h;unfold Ma;rw[Zy (l:=s.Accounts) (by omega) (by grind[gP,AJ.sz,bZ,aI,bd_s,aB,fG]) (by simp)];simp only[aB (show s.Book.sz<=34359738368 by simp only[AQ.sz];omega),bd_s,lM (show s.Logins.length<=34359738368 by omega),bo]
def aD3 (s:AF)(h:s.sz<=34359738368):Hm s=some s:=by simp only[AF.sz] at h;unfold Hm;rw[Zy (l:=s.Accounts) (by omega) (by grind[gP,AJ.sz,bZ,aI,bd_s,aB,fG]) (by simp)];simp only[aB (show s.Book.sz<=34359738368 by simp only[AQ.sz];omega),bd_s,aB (show aC8 s.Logins [] by unfold aC8;simp;omega)];simp[Kj]
def aIm (e:AB)(h:e.sz<=34359738368):Mo e=some e:=by unfold Mo;rw[lM h];rfl
def aD4 (e:AB)(h:e.sz<=34359738368):Hf e=some e:=by unfold Hf;rw[lM h];rfl
def aD5 (l:List AB)(h:mF AB.sz l<=34359738368):Ha l=some l:=by
 unfold Ha;unfold mF at h;rw[bC4 (l:=l) (by omega) (λrec i s hi hs=>by
  have a:=gP (f:=AB.sz) hi;simp only[bZ hi,ac,aI hi,bd_s,aB (show l[i].sz<=34359738368 by omega),fG hs]) (λrec s=>by simp only[qV,ah])]
 rfl
def aAm (l:List AB)(h:mF AB.sz l<=34359738368):Cx l=some l:=by unfold Cx;unfold mF at h;rw[bC4 (l:=l) (by omega) (by grind[gP,AB.sz,bZ,aI,bd_s,aB,fG]) (by simp)];rfl
def aIn (e:AM)(h:e.sz<=34359738368):Mq e=some e:=by unfold Mq;rw[lM h];rfl
def aD6 (e:AM)(h:e.sz<=34359738368):Hg e=some e:=by unfold Hg;rw[lM h];rfl
def aIo (w:AA)(h:w.sz<=34359738368):Mr w=some w:=by
 simp only[AA.sz] at h;unfold Mr;rw[Zy (l:=w.Devices) (by omega) (λrec i q hi hs=>by
  have a:=gP (f:=AC.sz) hi;simp only[bZ hi,ac,aI hi,bd_s,aB (show w.Devices[i].sz<=34359738368 by omega),fG hs]) (λrec q=>by simp only[qV,ah]),
  Zy (l:=w.Sites) (by omega) (λrec i q hi hs=>by
  have a:=gP (f:=AF.sz) hi;simp only[bZ hi,ac,aI hi,bd_s,aB (show w.Sites[i].sz<=34359738368 by omega),fG hs]) (λrec q=>by simp only[qV,ah])]
 simp only[bd_s,lM (show w.Stolen.length<=34359738368 by omega),aB (show w.aAH.sz<=34359738368 by simp only[AL.sz];omega),aB (show mF AB.sz w.Hosts<=34359738368 by unfold mF;omega),aB (show w.Mail.sz<=34359738368 by simp only[AM.sz];omega),bo]
def aAn (w:AA)(h:w.sz<=34359738368):Cy w=some w:=by
 simp only[AA.sz] at h;unfold Cy;rw[Zy (l:=w.Devices) (by omega) (by grind[gP,AC.sz,bZ,aI,bd_s,aB,fG]) (by simp),
  Zy (l:=w.Sites) (by omega) (by grind[gP,AF.sz,bZ,aI,bd_s,aB,fG]) (by simp)]
 simp only[bd_s,lM (show w.Stolen.length<=34359738368 by omega),aB (show w.aAH.sz<=34359738368 by simp only[AL.sz];omega),aB (show mF AB.sz w.Hosts<=34359738368 by unfold mF;omega),aB (show w.Mail.sz<=34359738368 by simp only[AM.sz];omega),bo]
theorem aP8 {F:(Int×Int×Int->Option Int)->Int×Int×Int->Option Int}(a:∀rec (b n s:Int),0<=n->n<9223372036854775807->F rec (b,n,s)=bif decide (n>0) then rec ((IntKind.i64.wrap (b*b)).tmod 2147483647,n/2,bif n%2==1 then(IntKind.i64.wrap (s*b)).tmod 2147483647 else s) else some s):
  ∀(k:Nat) (b n s:Int) (f:Nat),k<f->0<=n->n<2^k->k<=62->bG f F (b,n,s)=some (aZn k b n s)
 |0,b,n,s,f+1,c,h0,h1,hk=>by
  have:n=0:=by simp at h1;omega
  subst this;rw[jP,a _ _ _ _ (by omega) (by omega)];rfl
 |k+1,b,n,s,f+1,c,h0,h1,hk=>by
  have h2:(2:Int)^(k+1)=2*2^k:=by rw[gi];omega
  have d:n<2^62:=Int.lt_of_lt_of_le h1 (by exact_mod_cast gl (by omega) hk);rw[jP,a _ _ _ _ h0 (by omega)];unfold aZn;by_cases hn:n>0
  ·rw[ap hn,ac,cG hn];exact aP8 a k _ (n/2) _ f (by omega) (by omega) (by omega) (by omega)
  ·rw[ax hn,ah,dh hn]
def aIp (b n:Int)(h:0<=n/\n<2147483648):oO b n=some (aZn 31 b n 1):=by
 grind[aP8,mR,and_one,Aa,aW3,aN7,gd_T,bd_s,aB,FUEL,gM,oO]
def aLf (b n:Int)(h:0<=n/\n<2147483648)(hb:0<=b/\b<2147483647):fD b n 2147483647=some (aZn 31 b n 1):=by unfold fD;rw[show b.tmod 2147483647=b by rw[cf hb.1];omega,show(1:Int).tmod 2147483647=1 by decide,aP8 (by grind[Int.tmod_eq_emod_of_nonneg,Int.tdiv_eq_ediv_of_nonneg,aH,aN7,gd_T,bd_s]) 31 b n 1 FUEL (by grind[gM]) h.1 (by omega) (by omega)];rfl
def D9 (q:Int):yH q=some (eX q):=by
 unfold yH eX;rw[aIp _ _ (by decide),aW4,show bD q 1 2147483646=bQ q from rfl]
 grind[bQ,fZ,aH,Bool.not_true,bd_s,aN7,gd_T,Int.tmod_eq_emod_of_nonneg,fH,bD,decide_true,Bool.and_self,bne_self_eq_false]
def E5 (q:Int):zC q=some (eX q):=by
 unfold zC eX;rw[aLf _ _ (by decide) (by decide),aW4];cases hk:bQ q with
 |false=>rfl
 |true=>
  have hr:=fZ hk
  grind[Bool.not_true,bd_s,aN7,gd_T,Int.tmod_eq_emod_of_nonneg,aH]
def Vj (p:Int)(l:List Int)(h:l.length<=34359738300):vZ p l=some (pU p l):=by unfold vZ pU;rw[aB (by grind[aL]),aB (by simp;omega)];cases bQ p<;>rfl
def Vk (p:Int)(l:List Int)(h:l.length<=34359738300):wV p l=some (pU p l):=by unfold wV pU;rw[aB (by grind),bd_s,aB (by grind[Kj])];cases bQ p<;>simp[Kj]
def Fj (q:Int)(l:List Int)(g:Int)(h:l.length<=34359738300):oP q l g=some (fQ q l g):=by unfold oP fQ;simp only[aB h,bd_s,Ez];cases(eX q !=0)<;>rfl
def Fp (q:Int)(l:List Int)(g:Int)(h:l.length<=34359738300):oV q l g=some (fQ q l g):=by unfold oV fQ;simp only[aB h,bd_s,Ez];cases(eX q !=0)<;>rfl
def aOa (b:AQ)(h:b.Open.length<=34359738368){τ:Type}(rec:Nat->Option τ)(r:Option τ)(i:Nat)(hi:i<b.Open.length):(bd (bif (!bD b.Open[i].Id (0:Int) (IntKind.i64.wrap (b.Next-(1:Int)))) then(some (true)) else(bif (decide ((↑i:Int)>(0:Int))) then(bd (aW (b.Open) (IntKind.i64.wrap ((↑i:Int)-(1:Int)))) λa=>bif (decide (a.Id>=b.Open[i].Id)) then(some (true)) else(bif (!bD b.Open[i].aAG (0:Int) (1000005:Int)) then(some (true)) else(some (!bD b.Open[i].Until (0:Int) (1000005:Int))))) else(bif (!bD b.Open[i].aAG (0:Int) (1000005:Int)) then(some (true)) else(some (!bD b.Open[i].Until (0:Int) (1000005:Int)))))) λc=>bif c then r else(rec (i+1)))=bif fB b i b.Open[i] then r else rec (i+1):=by
 grind[decide,decide_eq_false,bD,Kl,bd_s,decide_eq_true,default,fB]
def Vl (b:AQ)(h:b.sz<=34359738368):wD b=some (fI b):=by
 simp only[AQ.sz] at h;unfold wD fI;rw[fA (l:=b.Open) (fB b) (.inl false) (.inr ()) (by omega) (λrec i hi=>by
  simp only[bZ hi,ac,aI hi,bd_s];exact aOa b h rec _ i hi) (by simp)]
 rw[show decide ((b.Open.length:Int)<=16)=decide (b.Open.length<=16) from cT.2 (by omega)];cases bD b.Next 0 1000000<;>cases decide (b.Open.length<=16)<;>cases dP (fB b) 0 b.Open<;>rfl
def Vm (b:AQ)(h:b.sz<=34359738368):wR b=some (fI b):=by
 simp only[AQ.sz] at h;unfold wR fI;rw[fA (l:=b.Open) (fB b) (.inl false) (.inr ()) (by omega) (λrec i hi=>by
  simp only[bZ hi,ac,aI hi,bd_s];exact aOa b h rec _ i hi) (by simp)]
 rw[show decide ((b.Open.length:Int)>16)= !decide (b.Open.length<=16) by rw[<-decide_not];exact cT.2 (by omega)];cases bD b.Next 0 1000000<;>cases decide (b.Open.length<=16)<;>cases dP (fB b) 0 b.Open<;>rfl
def aOb (m:AM)(h:m.Notices.length<=34359738368){τ:Type}(rec:Nat->Option τ)(r:Option τ)(i:Nat)(hi:i<m.Notices.length):(bd (bif (!bD m.Notices[i].Kind (1:Int) (5:Int)) then(some (true)) else(bif (!bD m.Notices[i].aAG (0:Int) (1000000:Int)) then(some (true)) else(bif (!bD m.Notices[i].Time (0:Int) (1000000:Int)) then(some (true)) else(bif (decide ((↑i:Int)>(0:Int))) then(bd (aW (m.Notices) (IntKind.i64.wrap ((↑i:Int)-(1:Int)))) λa=>some (decide (a.Time>m.Notices[i].Time))) else(some (false)))))) λb=>bif b then r else(rec (i+1)))=bif qX m.Notices i m.Notices[i] then r else rec (i+1):=by
 grind[decide,decide_eq_false,bD,Kl,bd_s,decide_eq_true,default,qX]
def Ij (m:AM)(h:m.sz<=34359738368):qC m=some (dM m):=by
 simp only[AM.sz] at h;unfold qC dM;rw[fA (l:=m.Notices) (qX m.Notices) (.inl false) (.inr ()) (by omega) (λrec i hi=>by
  simp only[bZ hi,ac,aI hi,bd_s];exact aOb m h rec _ i hi) (λrec=>by simp only[qV,ah])]
 rw[show decide ((m.Notices.length:Int)<=30)=decide (m.Notices.length<=30) from cT.2 (by omega)];cases decide (m.Notices.length<=30)<;>cases dP (qX m.Notices) 0 m.Notices<;>rfl
def Ik (m:AM)(h:m.sz<=34359738368):qG m=some (dM m):=by
 simp only[AM.sz] at h;unfold qG dM;rw[fA (l:=m.Notices) (qX m.Notices) (.inl false) (.inr ()) (by omega) (λrec i hi=>by
  simp only[bZ hi,ac,aI hi,bd_s];exact aOb m h rec _ i hi) (by simp)]
 rw[show decide ((m.Notices.length:Int)>30)= !decide (m.Notices.length<=30) by rw[<-decide_not];exact cT.2 (by omega)];cases decide (m.Notices.length<=30)<;>cases dP (qX m.Notices) 0 m.Notices<;>rfl
def aD7 (i:Int):Gs i=some (aA i):=by unfold Gs aA;cases i==0<;>cases i==1<;>rfl
def aD8 (i:Int):Ho i=some (aA i):=by unfold Ho aA;cases i==0<;>cases i==1<;>rfl
def aAo (e:AD):Z6 e=some (bU e):=by rfl
def aAp (e:AD):Z8 e=some (bU e):=by rfl
def aIq (l:List AD)(h:l.length<=34359738368):Lj l=some (fK l):=by
 unfold Lj fK;cases hl:((l.length:Int)==0) with
 |true=>rfl
 |false=>
  have:l.length≠0:=by simp_all
  rw[aH (by omega) (by omega),show(l.length:Int)-1=((l.length-1:Nat):Int) by omega,aI (by omega)];simp[List.getD,aa (show l.length-1<l.length by omega)]
def aIr (l:List AD)(h:l.length<=34359738368):Mw l=some (fK l):=by
 unfold Mw fK;cases hl:((l.length:Int)==0) with
 |true=>rfl
 |false=>
  have:l.length≠0:=by simp_all
  rw[aH (by omega) (by omega),show(l.length:Int)-1=((l.length-1:Nat):Int) by omega,aI (by omega)];simp[List.getD,aa (show l.length-1<l.length by omega)]
def E8 (l:List AD)(p:Int)(h:l.length<=34359738368):zD l p=some (fJ l p):=by unfold zD;rw[lZ (l:=l) (λe=>e.Kind==2&&e.Device==p) (.inl true) (.inr ()) (by omega) (by grind[bZ,aI,bd_s]) (by simp)];unfold fJ;cases l.any _<;>rfl
def aIs (l:List AV)(p:Int)(i:Nat)(hi:i<=l.length)(h:l.length<=34359738368){F:(Nat->Option ((Bool⊕PUnit)⊕PUnit))->Nat->Option ((Bool⊕PUnit)⊕PUnit)}(a:∀rec j (hj:j<i),F rec j=bif (l[j]'(by omega)).Public==p then some (.inl (.inl false)) else rec (j+1))(b:∀rec,F rec i=some (.inr ())):
  bG FUEL F 0=some (bif (l.take i).any (λq=>q.Public==p) then .inl (.inl false) else .inr ()):=by
 have ht:(l.take i).length=i:=by simp[*]
 exact lZ (l:=l.take i) (λq=>q.Public==p) _ _ (by omega) (by simp_all) (by simp[*])
def aTj (a:AJ)(h:a.Credentials.length<=34359738368)(i:Nat)(hi:i<a.Credentials.length){τ:Type}{X:Option τ}{r:Option τ}{K:Option τ}(hX:X=bif (a.Credentials.take i).any (λq=>q.Public==a.Credentials[i].Public) then r else K):
  (bd (bif (!bD a.Credentials[i].Handle (0:Int) (1000000:Int)) then(some (true)) else(bif (decide ((↑i:Int)>(0:Int))) then(bd (aW (a.Credentials) (IntKind.i64.wrap ((↑i:Int)-(1:Int)))) λb=>bif (decide (b.Handle>=a.Credentials[i].Handle)) then(some (true)) else(bd (some (eX a.Credentials[i].Public)) λc=>bif (c==(0:Int)) then(some (true)) else(some (!bD a.Credentials[i].Counter (0:Int) (1000000:Int))))) else(bd (some (eX a.Credentials[i].Public)) λb=>bif (b==(0:Int)) then(some (true)) else(some (!bD a.Credentials[i].Counter (0:Int) (1000000:Int)))))) λd=>bif d then r else X)=bif rP a i a.Credentials[i] then r else K:=by
 grind[decide,decide_eq_false,bd_s,bD,eX,Kl,decide_eq_true,default,rP]
def Im (a:AJ)(h:a.sz<=34359738368):pY a=some (bR a):=by
 simp only[AJ.sz] at h;unfold pY bR;rw[fA (l:=a.Credentials) (rP a) (.inl false) (.inr ()) (by omega) (λrec i hi=>by
  simp only[bZ hi,ac,aI hi,bd_s];rw[aIs a.Credentials a.Credentials[i].Public i (by omega) h (by grind[bZ,aI,bd_s]) (by simp)];have:=aTj a h i hi (X:=nx (some (bif (a.Credentials.take i).any (λq=>q.Public==a.Credentials[i].Public) then Sum.inl (Sum.inl false) else Sum.inr PUnit.unit)) λ_=>rec (i+1)) (r:=some (.inl false)) (K:=rec (i+1)) (by cases(a.Credentials.take i).any _<;>rfl);rw[<-this];simp only[bd_s];generalize(bif !bD a.Credentials[i].Handle 0 1000000 then _ else _:Option Bool)=q;cases q with
  |none=>rfl
  |some b=>cases b<;>rfl) (by simp)]
 rw[show decide ((a.Credentials.length:Int)<=8)=decide (a.Credentials.length<=8) from cT.2 (by omega)];cases bD a.Id 0 1000000<;>cases bD a.Minimum 1 3<;>cases decide (a.Credentials.length<=8)<;>cases dP (rP a) 0 a.Credentials<;>rfl
def Io (a:AJ)(h:a.sz<=34359738368):qF a=some (bR a):=by
 simp only[AJ.sz] at h;unfold qF bR;rw[fA (l:=a.Credentials) (rP a) (.inl false) (.inr ()) (by omega) (λrec i hi=>by
  have ht:(a.Credentials.take i).length=i:=by grind
  simp only[bZ hi,ac,aI hi,bd_s,aPj];rw[aB (by grind[iQ])];rw[aIs a.Credentials a.Credentials[i].Public i (by omega) h (by grind[bZ,aI,bd_s]) (by simp[*])];have:=aTj a h i hi (X:=nx (some (bif (a.Credentials.take i).any (λq=>q.Public==a.Credentials[i].Public) then Sum.inl (Sum.inl false) else Sum.inr PUnit.unit)) λ_=>rec (i+1)) (r:=some (.inl false)) (K:=rec (i+1)) (by cases(a.Credentials.take i).any _<;>rfl);rw[<-this];simp only[bd_s];generalize(bif !bD a.Credentials[i].Handle 0 1000000 then _ else _:Option Bool)=q;cases q with
  |none=>rfl
  |some b=>cases b<;>rfl) (by simp)]
 rw[show decide ((a.Credentials.length:Int)>8)= !decide (a.Credentials.length<=8) by rw[<-decide_not];exact cT.2 (by omega)];cases bD a.Id 0 1000000<;>cases bD a.Minimum 1 3<;>cases decide (a.Credentials.length<=8)<;>cases dP (rP a) 0 a.Credentials<;>rfl
def rC (s:ByteArray)(hs:s.size<=34359738368):∀(n f i st:Nat) (acc:List ByteArray),s.size-i=n->n+1<f->st<=i->i<=s.size->acc.length<=i->bG f (λc (b:(List ByteArray×Int×Int))=>bif (decide (b.2.2<=(↑s.size:Int))) then(bd (bd (bif (b.2.2==(↑s.size:Int)) then(some (true)) else(bd (aW (bM s) (b.2.2)) λj=>some (j==(46:Int)))) λk=>bif k then(gd (Sz s b.2.1 b.2.2) (gd (aL b.1 [s.extract b.2.1.toNat b.2.2.toNat]) (some ((b.1++[s.extract b.2.1.toNat b.2.2.toNat],IntKind.i64.wrap (b.2.2+(1:Int))))))) else(some (b.1,b.2.1))) λ(z2:List ByteArray×Int)=>c ((z2.1,z2.2,IntKind.i64.wrap (b.2.2+(1:Int))))) else(some (b.1))) (acc,(st:Int),(i:Int))=some (acc++(iF ((s.data.toList.drop st).take (i-st)) (s.data.toList.drop i)).map λl=>(⟨l.toArray⟩:ByteArray))
 |n,f+1,i,st,acc,hn,r,h1,h2,t=>by
  rw[jP];have e0:decide ((i:Int)<=(s.size:Int))=true:=by simpa using(show(i:Int)<=(s.size:Int) by omega)
  have es:Sz s (st:Int) (i:Int):=⟨by omega,by omega,by omega⟩;have h:aL acc ([s.extract (st:Int).toNat (i:Int).toNat]:List ByteArray):=by unfold aL;simp;omega
  have d:IntKind.i64.wrap ((i:Int)+1)=((i+1:Nat):Int):=by rw[aH (by omega) (by omega)];omega
  simp only[e0,ac];rcases gf i s.size with a|m
  ·have e:((i:Int)==(s.size:Int))=false:=by simp;omega
   have hd:s.data.toList.drop i=s.data.toList[i]'a::s.data.toList.drop (i+1):=(cM a);have hb:(bM s)[i]'(by rw[jE];exact a)=((s.data.toList[i]'a).toNat:Int):=by simp[bM]
   have hq:(((s.data.toList[i]'a).toNat:Int)==46)=(s.data.toList[i]'a==46):=by
    rw[fj];simp only[cU];constructor
    ·intro q;apply UInt8.toNat_inj.1;show _=46;omega
    ·intro q;rw[q];rfl
   rw[e,ah,aR8 a,bd_s,bd_s,hb,hq,hd,iF];cases hc:(s.data.toList[i]'a==46) with
   |true=>rw[ac,aB es,aB h,bd_s];dsimp only;rw[d,ac,rC s hs (n-1) f (i+1) (i+1) _ (by omega) (by omega) (ak _) (by omega) (by simp;omega),bv,bv,ext_list];simp
   |false=>
    rw[ah,bd_s];dsimp only;rw[d,ah,rC s hs (n-1) f (i+1) st _ (by omega) (by omega) (by omega) (by omega) (by omega)];have:(s.data.toList.drop st).take (i+1-st)=(s.data.toList.drop st).take (i-st)++[s.data.toList[i]'a]:=by rw[show i+1-st=(i-st)+1 by omega,dl,ex,show st+(i-st)=i by omega,aa a];rfl
    rw[this]
  ·have e:((i:Int)==(s.size:Int))=true:=by simp;omega
   obtain⟨f,rfl⟩:∃g,f=g+1:=⟨f-1,by omega⟩;have o:s.data.toList.length<=i:=by have:s.data.toList.length=s.size:=rfl;omega
   have p:decide (((i+1:Nat):Int)<=(s.size:Int))=false:=by simp;omega
   rw[e,ac,bd_s,ac,aB es,aB h,bd_s,jP];dsimp only;rw[d];simp only[p,ah];rw[gh o,iF,bv,bv,ext_list];rfl
def aD9 (s:ByteArray)(h:s.size<=34359738368):Gt s=some (bA s):=by
 unfold Gt;have a:=gM;have:=rC s h s.size FUEL 0 0 [] rfl (by omega) (ak _) (cr _) (ak _)
 grind[bA,bd,trans]
def aIt (s:ByteArray)(h:s.size<=34359738368):Lt s=some (rZ s):=by
 unfold Lt rZ;have hb:=jE s;rw[lZ (l:=bM s) (λb=> !Zw b) (.inl false) (.inr ()) (by omega) (by grind[bZ,aR8,bd_s,bM,Zw,bD,decide]) (by simp[*])];have e:bD (s.size:Int) 1 20=(decide (1<=s.size)&&decide (s.size<=20)):=by unfold bD;congr 1<;>exact cT.2 (by omega)
 rw[e];by_cases h0:0<s.size
 ·rw[show(0:Int)=((0:Nat):Int) from rfl,aR8 h0,aH (by omega) (by omega),show(s.size:Int)-1=((s.size-1:Nat):Int) by omega,aR8 (by omega)];simp only[bd_s,bne,List.getD,aa (show 0<(bM s).length by rw[jE];exact h0),aa (show s.size-1<(bM s).length by rw[jE];omega),cA];cases((bM s)[0]'_==45)<;>cases((bM s)[s.size-1]'_==45)<;>cases decide (1<=s.size)<;>cases decide (s.size<=20)<;>cases(bM s).any _<;>rfl
 simp_all
def aLg (s:ByteArray)(h:s.size<=34359738368):Tj s=some (gU s):=by
 unfold Tj gU;have hl:=Kn s;simp only[aB h,bd_s];rw[lZ (l:=bA s) (λl=> !rZ l) (.inl false) (.inr ()) (by omega) (λrec i hi=>by
  have a:(bA s)[i].size<=34359738368:=bl (uY s _ (ce _)) h
  grind[bZ,aI,bd_s,aB]) (by simp)]
 have e':decide ((s.size:Int)<=60)=decide (s.size<=60):=cT.2 (by omega);rw[e'];cases decide (s.size<=60)<;>cases(bA s).any _<;>rfl
def aLh (s:ByteArray):Tw s=some (gU s):=by
 unfold Tw gU;by_cases a:s.size<=60
 ·have hl:=Kn s;rw[show decide ((s.size:Int)>60)=false from ax (by omega),ah,aB (show s.size<4294967281/\1<=(⟨#[UInt8.ofNat 46]⟩:ByteArray).size from⟨by omega,ak _⟩),bd_s];have es:jN s ⟨#[UInt8.ofNat 46]⟩=bA s:=aG8 s;rw[es];rw[lZ (l:=bA s) (λl=> !rZ l) (.inl false) (.inr ()) (by omega) (λrec i hi=>by
   have c:(bA s)[i].size<=60:=bl (uY s _ (ce _)) a;simp only[bZ hi,ac,aI hi,bd_s]
   revert c
   generalize(bA s)[i]=l;intro c;have hb:=jE l;rw[lZ (l:=bM l) (λb=> !Zw b) (.inl (.inl false)) (.inr ()) (by omega) (by grind[bZ,aR8,bd_s,bM,Zw,bD,decide]) (by simp[*])];unfold rZ;by_cases h0:0<l.size
   ·rw[show(0:Int)=((0:Nat):Int) from rfl,aR8 h0,aH (by omega) (by omega),show(l.size:Int)-1=((l.size-1:Nat):Int) by omega,aR8 (by omega)];have d:decide ((l.size:Int)<1)= !decide (1<=l.size):=by grind
    have e:decide ((l.size:Int)>20)= !decide (l.size<=20):=by grind
    rw[d,e];simp only[bd_s,bne,List.getD,aa (show 0<(bM l).length by rw[jE];exact h0),aa (show l.size-1<(bM l).length by rw[jE];omega),cA];cases((bM l)[0]'_==45)<;>cases((bM l)[l.size-1]'_==45)<;>cases decide (1<=l.size)<;>cases decide (l.size<=20)<;>cases(bM l).any _<;>rfl
   simp_all) (by simp)]
  rw[show decide (s.size<=60)=true by simpa using a];cases(bA s).any _<;>rfl
 grind
def Vn (s:ByteArray):wP s=some (aZo s):=by
 unfold wP aZo;cases h:gU s with
 |false=>rfl
 |true=>
  have hs:=Ko h;have hp:=aC7 s;have es:jN s ⟨#[UInt8.ofNat 46]⟩=bA s:=aG8 s;rw[bf,ah,ac,aB (show s.size<4294967281/\1<=(⟨#[UInt8.ofNat 46]⟩:ByteArray).size from⟨by omega,ak _⟩),bd_s,es];rw[show(((bA s).length:Int)==1)=((bA s).length==1) by rw[fj];simp only[cU];omega];cases h1:(bA s).length==1 with
  |true=>rfl
  |false=>
   have h2:(bA s).length≠1:=by simp_all
   have hl:=Kn s;obtain⟨a,c,b,hb,e⟩:=bHl (l:=bA s) (by omega);have c:=uY s a c;have hb:=uY s b hb;rw[ah,ah,aH (by omega) (by omega),show((bA s).length:Int)-2=(((bA s).length-2:Nat):Int) by omega,bv];have hd:((bA s).drop ((bA s).length-2)).length=2:=by grind
   have hj:(nQ ⟨#[UInt8.ofNat 46]⟩ ((bA s).drop ((bA s).length-2))).size<=140737488355328:=by have e:nQ ⟨#[UInt8.ofNat 46]⟩ ((bA s).drop ((bA s).length-2))=_:=e;rw[e,ByteArray.size_append,ByteArray.size_append];have:(⟨#[46]⟩:ByteArray).size=1:=rfl;omega
   simp_all[aB,iQ,bA]
def aLi (s:ByteArray)(h:s.size<=9223372036854775807):Tx s=some (Pp s):=by unfold Tx Pp;have hb:=jE s;rw[lZ (l:=bM s) (λb=>b==46) (.inl true) (.inr ()) (by omega) (by grind[bZ,aR8,bd_s]) (by simp[*])];cases(bM s).any _<;>rfl
def Vo (n:ByteArray)(seed:Int)(h:n.size<=9223372036854775807):wQ n seed=some (iW n seed):=by
 grind[gU,bF0,decide,bA,bQ,bLj,aK4,aB,bd_s,wQ,iW]
def aIu (n:ByteArray)(seed:Int)(h:n.size<=34359738368):Lu n seed=some (dR n seed):=by
 unfold Lu dR iW;have e:decide (((bA n).length:Int)<2)= !decide (2<=(bA n).length):=by grind
 simp only[aB h,bd_s,e];cases gU n<;>cases decide (2<=(bA n).length)<;>cases bQ seed<;>rfl
def Vp (s:AF)(h:s.sz<=34359738368):wE s=some (dN s):=by
 simp only[AF.sz] at h;unfold wE dN;rw[fA (l:=s.Accounts) (Ew s.Accounts) (.inl false) (.inr ()) (by omega) (by grind[gP,AJ.sz,bZ,aI,bd_s,aB,Ew,Kl,decide,decide_eq_true,bR,default,decide_eq_false]) (by simp)];rw[show decide ((s.Accounts.length:Int)<=8)=decide (s.Accounts.length<=8) from cT.2 (by omega)];have a:(!((dR s.Name s.Book.Seed).Name.toList==(⟨#[]⟩:ByteArray).toList))=iW s.Name s.Book.Seed:=by rw[bLj,aUu,Bool.not_not]
 simp only[aB (show s.Name.size<=34359738368 by omega),aB (show s.Book.sz<=34359738368 by simp only[AQ.sz];omega),bd_s,a];cases iW s.Name s.Book.Seed<;>cases decide (s.Accounts.length<=8)<;>cases fI s.Book<;>cases dP (Ew s.Accounts) 0 s.Accounts<;>rfl
def Vq (s:AF)(h:s.sz<=34359738368):wU s=some (dN s):=by simp only[AF.sz] at h;unfold wU dN;rw[fA (l:=s.Accounts) (Ew s.Accounts) (.inl false) (.inr ()) (by omega) (by grind[gP,AJ.sz,bZ,aI,bd_s,aB,Ew,Kl,decide,decide_eq_true,bR,default,decide_eq_false]) (by simp)];rw[show decide ((s.Accounts.length:Int)>8)= !decide (s.Accounts.length<=8) by rw[<-decide_not];exact cT.2 (by omega)];simp only[aB (show s.Name.size<=9223372036854775807 by omega),aB (show s.Book.sz<=34359738368 by simp only[AQ.sz];omega),bd_s];cases iW s.Name s.Book.Seed<;>cases decide (s.Accounts.length<=8)<;>cases fI s.Book<;>cases dP (Ew s.Accounts) 0 s.Accounts<;>rfl
def aIv (l:List AD)(e:AD)(h:l.length<=34359738368):Lm l e=some (lF l e):=by unfold Lm lF;have hd:=kV l;rw[lZ (l:=l) (λq=>q.Kind==2&&q.Device==e.Device) (.inl false) (.inr ()) (by omega) (by grind[bZ,aI,bd_s]) (by simp)];rw[show(l.any λq=>q.Kind==2&&q.Device==e.Device)=fJ l e.Device from rfl];simp only[aB h,aB (show(aD l).length<=1099511627776 by omega),aB (show([bU e]:List Int).length<=34359738300 by simp),bd_s,bne];cases(e.Index==(l.length:Int))<;>cases(e.Previous==fK l)<;>cases gT (aD l) e.By<;>cases((l.length:Int)==0)<;>cases(e.By==e.Device)<;>cases fQ e.By [bU e] e.Signature<;>cases(e.Kind==2)<;>cases gT (aD l) e.Device<;>cases fJ l e.Device<;>cases(e.Kind==1)<;>rfl
def aAq (l:List AD)(h:l.length<=34359738368):Ce l=some (bI l):=by unfold Ce bI;rw[fA (l:=l) (λi e=> !lF (l.take i) e) (.inl false) (.inr ()) (by omega) (by grind[bZ,aI,bd_s,aPj,aB,iQ,List.length_take]) (by simp)];cases dP (λi e=> !lF (l.take i) e) 0 l<;>simp
def aAr (l:List AD)(h:l.length<=34359738368):Db l=some (bI l):=by
 unfold Db bI;rw[fA (l:=l) (λi e=> !lF (l.take i) e) (.inl false) (.inr ()) (by omega) (λrec i hi=>by
  have ht:(l.take i).length=i:=by grind
  have hb:(l.take i).length<=34359738368:=by omega
  have hd:=kV (l.take i);simp only[bZ hi,ac,aI hi,bd_s,aPj,aB (show iQ l (i:Int) by unfold iQ;omega),aB hb,aB (show(aD (l.take i)).length<=1099511627776 by omega),aB (show([bU l[i]]:List Int).length<=34359738300 by simp)];unfold lF;rw[ht];generalize l[i]=e;have h1:decide (((aD (l.take i)).length:Int)>=6)= !decide (((aD (l.take i)).length:Int)<6):=by grind
  have h2:gT (aD (l.take i)) e.Device=true->decide (((aD (l.take i)).length:Int)>1)= !(((aD (l.take i)).length:Int)==1):=(by grind[bC0,Bool.decide_eq_true,aD,decide_not]);simp only[h1,bne];cases d:(e.Kind==2) with
  |true=>
   have a:(e.Kind==1)=false:=by simp_all
   rw[a];cases hd:gT (aD (l.take i)) e.Device with
   |true=>rw[h2 hd];cases(e.Index==(i:Int))<;>cases(e.Previous==fK (l.take i))<;>cases gT (aD (l.take i)) e.By<;>cases((i:Int)==0)<;>cases(e.By==e.Device)<;>cases fQ e.By [bU e] e.Signature<;>cases(((aD (l.take i)).length:Int)==1)<;>rfl
   |false=>cases(e.Index==(i:Int))<;>cases(e.Previous==fK (l.take i))<;>cases gT (aD (l.take i)) e.By<;>cases((i:Int)==0)<;>cases(e.By==e.Device)<;>cases fQ e.By [bU e] e.Signature<;>rfl
  |false=>
   cases(e.Kind==1) with
   |true=>cases(e.Index==(i:Int))<;>cases(e.Previous==fK (l.take i))<;>cases gT (aD (l.take i)) e.By<;>cases((i:Int)==0)<;>cases(e.By==e.Device)<;>cases fQ e.By [bU e] e.Signature<;>cases gT (aD (l.take i)) e.Device<;>cases fJ (l.take i) e.Device<;>cases decide (((aD (l.take i)).length:Int)<6)<;>rfl
   |false=>cases(e.Index==(i:Int))<;>cases(e.Previous==fK (l.take i))<;>cases gT (aD (l.take i)) e.By<;>cases((i:Int)==0)<;>cases(e.By==e.Device)<;>cases fQ e.By [bU e] e.Signature<;>cases fJ (l.take i) e.Device<;>rfl) (by simp)]
 unfold bD;have b:decide ((l.length:Int)<1)= !decide (1<=(l.length:Int)):=by grind
 have c:decide ((l.length:Int)>40)= !decide ((l.length:Int)<=40):=by grind
 rw[b,c];cases decide (1<=(l.length:Int))<;>cases decide ((l.length:Int)<=40)<;>cases dP (λi e=> !lF (l.take i) e) 0 l<;>rfl
def Qn (w:AA)(h:w.sz<=34359738368):uD w=some (aX w):=by
 simp only[AA.sz] at h;unfold uD aX;rw[fA (l:=w.Sites) oD (.inl false) (.inr ()) (by omega) (λrec i hi=>by
  have a:=gP (f:=AF.sz) hi;simp only[bZ hi,ac,aI hi,bd_s,aB (show w.Sites[i].sz<=34359738368 by omega)];unfold oD;cases dN w.Sites[i]<;>cases(w.Sites[i].Name.toList==(aA (i:Int)).toList)<;>rfl) (λrec=>by simp only[qV,ah])]
 simp only[aB (show w.Mail.sz<=34359738368 by simp only[AM.sz];omega),aB (show w.aAH.Log.length<=34359738368 by omega),bne,bd_s];cases dP oD 0 w.Sites<;>cases bD w.Now 0 999900<;>cases bD (w.Devices.length:Int) 1 6<;>cases((w.Stolen.length:Int)==(w.Devices.length:Int))<;>cases((w.Sites.length:Int)==2)<;>cases dM w.Mail<;>cases bI w.aAH.Log<;>cases bQ w.Seed<;>rfl
def Qo (w:AA)(h:w.sz<=34359738368):uH w=some (aX w):=by simp only[AA.sz] at h;unfold uH aX;rw[fA (l:=w.Sites) oD (.inl false) (.inr ()) (by omega) (by grind[gP,AF.sz,bZ,aI,bd_s,aB,oD,dN,aA]) (by simp)];simp only[aB (show w.Mail.sz<=34359738368 by simp only[AM.sz];omega),aB (show w.aAH.Log.length<=34359738368 by omega),bne,bd_s];cases dP oD 0 w.Sites<;>cases bD w.Now 0 999900<;>cases bD (w.Devices.length:Int) 1 6<;>cases((w.Stolen.length:Int)==(w.Devices.length:Int))<;>cases((w.Sites.length:Int)==2)<;>cases dM w.Mail<;>cases bI w.aAH.Log<;>cases bQ w.Seed<;>rfl
def bGs (h:AB)(b:Int)(a:h.Saved.length<=34359738368)(h0:0<=b/\b<(h.Saved.length:Int)):aW h.Saved (IntKind.i64.wrap (IntKind.i64.wrap ((h.Saved.length:Int)-1)-b))=some (h.Saved.getD (h.Saved.length-1-b.toNat) default):=by rw[aH (n:=(h.Saved.length:Int)-1) (by omega) (by omega),aH (by omega) (by omega),vT (by omega) (by omega)];congr 2;omega
def Qp (h:AB)(b:Int)(a:h.sz<=34359738368):uE h b=some (eY h b):=by
 have hq:=a;simp only[AB.sz] at hq;unfold uE eY;rw[aB a,bd_s,Zz hq];cases e:(decide (b<0)||decide (b>=(h.Saved.length:Int))) with
 |true=>rfl
 |false=>rw[bGs h b hq (Kt e)];rfl
def bGt {h:AB}{b:Int}(e:(eY h b).2=false):eY h b=(h,false):=by
 unfold eY at e ⊢;cases q:(decide (b<0)||decide (b>=(h.Saved.length:Int))) with
 |true=>rfl
 |false=>rw[q] at e;cases e
def Nc (w:AA)(i b:Int)(h:w.sz<=34359738368):sN w i b=some (dX w i b):=by
 have c:=h;simp only[AA.sz] at c;unfold sN dX;rw[aB h,bd_s,aB h,bd_s,Zz (by omega),vS,bd_s];cases e:(!aX w||(decide (i<0)||decide (i>=(w.Hosts.length:Int)))) with
 |true=>rfl
 |false=>
  have a:=Kt (bz.1 e).2;have hi:i.toNat<w.Hosts.length:=by omega
  have hs:=gP (f:=AB.sz) hi;have hg:w.Hosts.getD i.toNat default=w.Hosts[i.toNat]:=by simp[List.getD,aa hi]
  rw[ah,ah,vT a.1 a.2,bd_s,hg,aB (by omega),bd_s,bd_s];cases hr:(eY w.Hosts[i.toNat] b).2 with
  |true=>rfl
  |false=>rw[bGt hr,ah,<-hg,aSc hi]
def aAs (l:List AR)(h:l.length<=34359738368):Co l=some (Ai l):=by
 unfold Co Ai;rw[fA (l:=l) (xP l) (.inl false) (.inr ()) (by omega) (λrec i hi=>by
  simp only[bZ hi,ac,aI hi,bd_s,Ez];rw[bF3 (λq=>q.Index==l[i].Index) (.inl (.inl false)) (.inr ()) i (by omega) h (λrec j hj=>by simp only[bZ hj,ac,aI (show j<l.length by omega),bd_s]) (λrec=>by simp only[qV,ah])];unfold xP;cases bD l[i].Index 1 7<;>cases bD l[i].Value 0 1018<;>cases(l.take i).any _<;>rfl) (λrec=>by simp only[qV,ah])]
 cases bD (l.length:Int) 1 7<;>cases dP (xP l) 0 l<;>rfl
def aAt (l:List AR):De l=some (Ai l):=by
 unfold De Ai;cases hr:bD (l.length:Int) 1 7 with
 |false=>rfl
 |true=>
  have hlen:l.length<=7:=by have:=fZ hr;omega
  rw[bf,ah,d8];rw[Af (s:=((0:Nat),false,false,false,false,false,false,false,false)) (λi s=>i<=l.length/\s=(i,cS l i 0,cS l i 1,cS l i 2,cS l i 3,cS l i 4,cS l i 5,cS l i 6,cS l i 7)/\∀(j:Nat) (hj:j<l.length),j<i->xP l j l[j]=false) l.length (some (bif dP (xP l) 0 l then .inl false else .inr ())) (by omega) ⟨by omega,by simp[cS],λj _ h=>by omega⟩ (λi s rec hi hv=> ?_) (λs rec hv=> ?_)]
  ·cases dP (xP l) 0 l<;>rfl
  ·obtain⟨_,rfl,b⟩:=hv;have a:xP l i l[i]=true->dP (xP l) 0 l=true:=λh=>(sF l 0).2 ⟨i,hi,by rw[cn];exact h⟩;have c:xP l i l[i]=false->∀(j:Nat) (hj:j<l.length),j<i+1->xP l j l[j]=false:=λh j hj f=>by
    rcases gf j i with d|d
    ·exact b j hj d
    ·have:j=i:=by omega
     subst this;exact h
   simp only[bZ hi,ac,aI hi,bd_s];cases h1:bD l[i].Index 1 7 with
   |false=>exact .inr (by rw[a (by unfold xP;rw[h1];rfl)];rfl)
   |true=>
    cases h2:bD l[i].Value 0 1018 with
    |false=>exact .inr (by rw[a (by unfold xP;rw[h1,h2];rfl)];rfl)
    |true=>
     have hk:=fZ h1;have hc:xP l i l[i]=cS l i l[i].Index:=by unfold xP cS;rw[h1,h2];rfl
     have go:∀n:Int,l[i].Index=n->(cS l i n=true/\dP (xP l) 0 l=true)\/(cS l i n=false/\∀(j:Nat) (hj:j<l.length),j<i+1->xP l j l[j]=false):=λn e=>by
      cases hb:cS l i n with
      |true=>exact .inl ⟨rfl,a (by rw[hc,e];exact hb)⟩
      |false=>exact .inr ⟨rfl,c (by rw[hc,e];exact hb)⟩
     have hs:=λk=>bN0 (l:=l) (k:=k) hi;simp only[hs];obtain e|e|e|e|e|e|e:l[i].Index=1\/l[i].Index=2\/l[i].Index=3\/l[i].Index=4\/l[i].Index=5\/l[i].Index=6\/l[i].Index=7:=by omega
     all_goals
      rcases go _ e with⟨hb,g⟩|⟨hb,g⟩
      ·exact .inr (by rw[e,g,hb];rfl)
      ·refine .inl ⟨_,⟨by omega,rfl,g⟩,?_⟩;rw[e,hb];simp
  ·obtain⟨_,rfl,b⟩:=hv;have:dP (xP l) 0 l=false:=by
    cases h:dP (xP l) 0 l with
    |false=>rfl
    |true=>obtain⟨i,hi,hp⟩:=(sF l 0).1 h;rw[cn,b i hi hi] at hp;cases hp
   simp only[qV,ah,this]
def aP9 (a:Int):aP5 a=some (bJ a 1019):=rfl
def bKe:((1019:Int)≠0)=True:=by simp
def aLj (c:Int)(l:List Int)(x:Int)(h:0<=x/\x<=1000/\l.length<=34359738368):Tq c l x=some (Gp c l x):=by
 obtain⟨h1,h2,a⟩:=h;have hr:=aHc ⟨h1,h2⟩ l;have hm:=lJ (p:=c) (q:=1019) (by omega);unfold Tq Gp;rw[bC6 (l:=l) (aHb x) some (by omega) (λrec s i hi=>by
  simp only[show decide ((i:Int)>=0)=true from ap (by omega),ac,aI hi,bd_s,bKe,gd_T,aH (show-9223372036854775808<=(i:Int)-1 by omega) (by omega)];rfl) (λrec s=>rfl) (aH (by omega) (by omega))]
 simp only[bd_s,bKe,gd_T];rw[aH (by omega) (by omega),cf (by omega)]
def bAk {l:List AR}(h:Ai l=true){i:Nat}(hi:i<l.length):1<=l[i].Index/\l[i].Index<=7:=by
 unfold Ai at h;rw[ab,cu] at h;have hb:xP l i l[i]=false:=by
  cases hc:xP l i l[i] with
  |false=>rfl
  |true=>rw[(sF l 0).2 ⟨i,hi,by rw[cn];exact hc⟩] at h;exact absurd h.2 (by simp)
 unfold xP at hb;rw[bz,dc] at hb;exact fZ hb.1
def Nf (l:List AR)(c:List Int)(h:l.length<=34359738368/\c.length<=34359738368):sK l c=some (jQ l c):=by
 unfold sK jQ;rw[aB h.1,bd_s];cases a:Ai l with
 |false=>rfl
 |true=>
  rw[bf,ah,bJt (l:=l) (bC5 c) (by omega) (λrec i s hi hs=>by
   have:=bAk a hi;simp only[bZ hi,ac,aI hi,bd_s,aB (show 0<=l[i].Index/\l[i].Index<=1000/\c.length<=34359738368 by omega),bKe,gd_T,fG hs];rfl) (λrec s=>by simp only[qV,ah])]
  rfl
def aAu (l:List AB)(h:l.length<=34359738368):Cn l=some (l.map λh=>h.State.aAM):=by unfold Cn;rw[bJt (l:=l) (λh:AB=>h.State.aAM) (by omega) (λrec i s hi hs=>by simp only[bZ hi,ac,aI hi,bd_s,fG hs]) (λrec s=>by simp only[qV,ah])];rfl
def aIw (k:AU):aH7 k=some (iE k):=rfl
def aEa (k:AU):aD0 k=some (iE k):=rfl
def Ng (k:AU):sM k=some (gD k):=by unfold sM gD;rw[aB (by simp),bd_s];cases Ai [k.aAM]<;>cases bD k.Epoch 0 1000000<;>cases bD k.Limit 1 10<;>rfl
def Nh (k:AU):sP k=some (gD k):=by unfold sP gD;cases Ai [k.aAM]<;>cases bD k.Epoch 0 1000000<;>cases bD k.Limit 1 10<;>rfl
def Qq (h:AB)(s:AR)(a:h.sz<=34359738368):uC h s=some (aHd h s):=by unfold uC aHd iX;simp only[aB a,bd_s,aB (show([s]:List AR).length<=34359738368 by simp)];cases gD h.State<;>cases decide (iE h.State<h.Monotonic)<;>cases(h.State.Epoch==1000000)<;>cases(s.Index !=h.State.aAM.Index)<;>cases Ai [s]<;>rfl
def aVr (hs:List AB)(a:List AR)(hl:a.length=hs.length)(r:hs.length<=34359738368){F:(List AB×Nat->Option (List AB×Bool⊕List AB))->List AB×Nat->Option (List AB×Bool⊕List AB)}
  (k:∀rec i s (hi:i<hs.length) (hj:i<a.length),s.length<=34359738368->F rec (s,i)=bif iX hs[i] a[i] then some (.inl (hs,false)) else rec (s++[tF hs[i] a[i]],i+1)) (m:∀rec s,F rec (s,hs.length)=some (.inr s)):
  nx (bG FUEL F ([],0)) (λz=>some (z,true))=some (bif (hs.zip a).any (λp=>iX p.1 p.2) then(hs,false) else(List.zipWith tF hs a,true)):=by
 have hb:∀i (hi:i<hs.length),iX hs[i] (a[i]'(by omega))=true->(hs.zip a).any (λp=>iX p.1 p.2)=true:=λi hi h=>by
  refine eL.2 ⟨(hs[i],a[i]'(by omega)),?_,h⟩;have:=ce (l:=hs.zip a) (n:=i) (by simp;omega);rwa [List.getElem_zip] at this
 have ht:∀i (hi:i<hs.length),List.zipWith tF (hs.take (i+1)) (a.take (i+1))=List.zipWith tF (hs.take i) (a.take i)++[tF (hs[i]'(by omega)) (a[i]'(by omega))]:=λi hi=>by
  rw[dl,dl,aa hi,aa (show i<a.length by omega)];simp only[eu];rw[List.zipWith_append (by simp;omega)];rfl
 have key:=Af (F:=F) (s:=([],0)) (λi s=>i<=hs.length/\s=(List.zipWith tF (hs.take i) (a.take i),i)/\∀j (hj:j<hs.length),j<i->iX hs[j] (a[j]'(by omega))=false) hs.length (some (bif (hs.zip a).any (λp=>iX p.1 p.2) then .inl (hs,false) else .inr (List.zipWith tF hs a))) (by omega) ⟨by omega,by simp,λj _ h=>by omega⟩ (λi s rec hi hv=> ?_) (λs rec hv=> ?_)
 ·rw[key];cases(hs.zip a).any _<;>rfl
 ·obtain⟨_,rfl,d⟩:=hv;rw[k rec i _ hi (by omega) (by simp;omega)];cases hc:iX hs[i] (a[i]'(by omega)) with
  |true=>exact .inr (by rw[hb i hi hc];rfl)
  |false=>
   refine .inl ⟨_,⟨hi,by rw[ht i hi],λj hj o=> ?_⟩,rfl⟩;rcases gf j i with f|f
   ·exact d j hj f
   ·have:j=i:=by omega
    subst this;exact hc
 ·obtain⟨_,rfl,d⟩:=hv;have hn:(hs.zip a).any (λp=>iX p.1 p.2)=false:=by
   cases h:(hs.zip a).any (λp=>iX p.1 p.2) with
   |false=>rfl
   |true=>
    obtain⟨x,q,b⟩:=eL.1 h;obtain⟨i,hi,e⟩:=gu q;rw[List.getElem_zip] at e;have c:i<hs.length:=by simp at hi;omega
    rw[<-e] at b;simp only at b;rw[d i c c] at b;cases b
  rw[m,hn,cI,<-hl,cI];rfl
def E9 (hs:List AB)(c:List Int)(h:mF AB.sz hs<=34359738368/\c.length<=34359738368):yS hs c=some (eQ hs c):=by
 obtain⟨h1,h2⟩:=h;have h0:hs.length<=34359738368:=by unfold mF at h1;omega
 have hr:=aSf (hs.map λh=>h.State.aAM) c;unfold yS eQ aUy;rw[aB h0,bd_s,aB ⟨by simpa using h0,h2⟩,bd_s,aB h1];cases he:((jQ (hs.map λh=>h.State.aAM) c).length:Int)==0 with
 |true=>rfl
 |false=>
  have hl:=aSg (l:=hs.map λh=>h.State.aAM) (c:=c) (by simpa using he);rw[ba] at hl;rw[ah,cV,aVr hs _ hl h0 (λrec i s hi hj a=>by
   have b:=gP (f:=AB.sz) hi;unfold mF at h1;simp only[bZ hi,ac,aI hi,aI hj,bd_s,aB (show hs[i].sz<=34359738368 by omega),fG a];unfold aHd;cases iX hs[i] (jQ (hs.map λh=>h.State.aAM) c)[i]<;>rfl) (λrec s=>by simp only[qV,ah])]
def aOc (w:AA){F:(List Int×Int->Option (List Int))->List Int×Int->Option (List Int)}
  (a:∀rec (s:List Int) (k:Int),s.length<=100->0<=k->k<=100->F rec (s,k)=bif decide (k<w.aAK.Threshold)&&decide (k<=7) then rec (s++[aJ w.Seed [317,w.Now,k]],k+1) else some s):
  ∀(n f:Nat) (k:Int) (s:List Int),n<f->k=9-(n:Int)->n<=8->s.length<=100-n->bG f F (s,k)=some (s++aC9 w n k)
 |0,f+1,k,s,b,hk,_,hs=>by
  rw[jP,a _ _ _ (by omega) (by omega) (by omega),show decide (k<=7)=false from ax (by omega),dn,ah];unfold aC9;simp
 |n+1,f+1,k,s,b,hk,hn,hs=>by
  rw[jP,a _ _ _ (by omega) (by omega) (by omega)];unfold aC9;cases(decide (k<w.aAK.Threshold)&&decide (k<=7)) with
  |true=>rw[ac,ac,aOc w a n f _ _ (by omega) (by omega) (by omega) (by simp;omega)];simp
  |false=>simp
def F3 (w:AA)(h:w.sz<=34359738368):yT w=some (dG w):=by
 have a:=h;simp only[AA.sz] at a;have hc:=aNl w 8 1;unfold yT dG;rw[aB h,bd_s,aOc w (λrec s k h1 h2 b=>by
  rw[aB (by simp),bd_s,fG (s:=s) (by omega),aH (by omega) (by omega),aUx,bd_s]) 8 FUEL 1 [] (by have:=gM;omega) rfl (by omega) (by simp),bd_s,bo,aB ⟨by unfold mF;omega,by omega⟩,bd_s,aB h,bd_s]
 unfold aHe;cases aX w<;>cases(eQ w.Hosts (aC9 w 8 1)).2<;>rfl
def Vr (b:List Int)(h:b.length<=34359738360):wC b=some (Y1 b):=by unfold wC Y1;rw[bLl (l:=b) IntKind.i64.wrap (by simp;omega) (by grind[bZ,aI,bd_s,fG]) (by simp)];rfl
def Dj (k:Int)(s:ByteArray)(h:s.size<=34359738300):nU k s=some (Bf k s):=by have hb:=jE s;unfold nU Bf;rw[aPo,aB (by omega),bd_s,aB (by rw[bF4];omega),bd_s,aR5 (mD _ _).1]
def aEb (s:ByteArray)(h:s.size<=34359738300):Gu s=some (cB s):=by unfold Gu;rw[aB h];rfl
theorem aX4 {b:AE}{s h:Int}(d:decide (aN b s h>=0)=true):aW b.Entries (aN b s h)=some (b.Entries.getD (aN b s h).toNat default)/\(aN b s h).toNat<b.Entries.length/\(b.Entries.getD (aN b s h).toNat default).Site=s/\(b.Entries.getD (aN b s h).toNat default).Handle=h:=by
 have h0:=of_decide_eq_true d;obtain⟨l1,e,l2,f,c,a⟩:=Y3 (p:=λe:AI=>e.Site==s&&e.Handle==h) (l:=b.Entries) (i:=0) h0;have a:aN b s h=((0+l1.length:Nat):Int):=a;rw[cn] at a;have hl:l1.length<b.Entries.length:=by simp[*]
 have hg:b.Entries.getD l1.length default=e:=by simp[*]
 rw[a,bv,hg];simp only[ab,cU] at c;refine⟨?_,hl,c.1,c.2⟩;rw[aI hl];have:b.Entries[l1.length]=e:=by simp[*]
 rw[this]
def bGu (b:AE)(x:AI):(Ey b x).Entries.length<=b.Entries.length+1:=by
 grind[decide,aN,List.length,List.takeWhile_append_dropWhile,sD,List.length_append,List.length_singleton,Ey]
def aEc (b:AE)(s h:Int)(a:b.sz<=34359738360):Gw b s h=some (aSh b s h):=by
 have hq:=a;simp only[AE.sz] at hq;have hs:=bGu b (aHf b s h);unfold Gw aSh;have c:(Ey b (aHf b s h)).sz<=34359738368:=by grind[AE.sz]
 rw[aB (by omega),aB (by omega)];simp only[aB (show b.sz<=34359738360 from a),aB (show b.sz<=34359738368 by omega),bd_s];cases d:decide (aN b s h>=0) with
 |true=>
  obtain⟨h1,h2,_,_⟩:=aX4 d;have hv:aHf b s h=⟨s,h,IntKind.i64.wrap ((b.Entries.getD (aN b s h).toNat default).Version+1),false⟩:=by grind[aHf,bJu]
  rw[ac,h1,bd_s];cases hd:(b.Entries.getD (aN b s h).toNat default).Deleted with
  |false=>rfl
  |true=>rw[bd_s,bf,ah,nx_r,<-hv,aB c];cases aS b<;>cases aS (Ey b (aHf b s h))<;>rfl
 |false=>
  have hv:aHf b s h=⟨s,h,1,false⟩:=by grind[aHf,bJu]
  rw[ah,nx_r,<-hv,aB c];cases aS b<;>cases aS (Ey b (aHf b s h))<;>rfl
def Vs (b:AE)(s h:Int)(a:b.sz<=34359738360):wJ b s h=some (aSi b s h):=by
 grind[aS,aN,decide_eq_true,aX4,decide_eq_false,bd_s,default,bJv,aB,wJ,aSi]
def Qr (d:AC)(n:ByteArray)(h:Int)(rm:Bool)(a:d.sz<=34359738360/\n.size<=34359738300):tY d n h rm=some (fT d n h rm):=by
 obtain⟨h1,h2⟩:=a;have hb:d.aAF.sz<=34359738360:=by grind[AC.sz,AE.sz]
 unfold tY fT Pq;simp only[aB (show d.sz<=34359738368 by omega),aB h2,aB hb,bd_s];cases rm with
 |true=>simp only[ac,bd_s];cases(aSi d.aAF (cB n) h).2<;>rfl
 |false=>simp only[ah,bd_s];cases(aSh d.aAF (cB n) h).2<;>rfl
def aIx (l:List AD)(h:l.length<=34359738368):Lp l=some (aK l):=by unfold Lp;rw[gB (l:=l) (λn e=>bif e.Kind==2 then IntKind.i64.wrap (n+1) else n) (λ_ _=>True) (λs=>some s) (by omega) trivial (by simp) (by grind[bZ,aI,bd_s]) (by simp)];rfl
def aLk (p e:Int):aLa p e=some (jL p e):=by rfl
def aLl (k:Int)(b:AN)(h:b.Data.length<=34359738200):Ti k b=some (aK3 k b):=by
 grind[aB,bd_s,aL,Y1,Ti,aK3]
def aAv {α β:Type}{y:Nat->α->β}:∀{l:List α} {j i:Nat} (hi:i<l.length),Ic (λi x=>[y i x]) j (l.take (i+1))=Ic (λi x=>[y i x]) j (l.take i)++[y (j+i) l[i]]
 |x::xs,j,0,_=>by simp[Ic]
 |x::xs,j,i+1,hi=>by
  have:=aAv (y:=y) (l:=xs) (j:=j+1) (i:=i) (by simpa using hi);simp only[gt,Ic,eR,this,cJ,bo];rw[show j+1+i=j+(i+1) by omega]
def bGv {k:Int}{b:List Int}(hl:b.length<=34359738368){F:(List Int×Nat->Option (List Int))->List Int×Nat->Option (List Int)}
  (a:∀rec i s (hi:i<b.length),s.length<=34359738368->F rec (s,i)=rec (s++[aZm k i b[i]],i+1)) (c:∀rec s,F rec (s,b.length)=some s):bG FUEL F ([],0)=some (aPl k b):=by
 refine Af (λi s=>i<=b.length/\s=(Ic (λi z=>[aZm k i z]) 0 (b.take i),i)) b.length _ (by omega) ⟨by omega,by simp[Ic]⟩ (λi s rec hi hv=> ?_) (λs rec hv=> ?_)
 ·obtain⟨_,rfl⟩:=hv;refine .inl ⟨_,⟨hi,rfl⟩,?_⟩;rw[a rec i _ hi (by rw[Bg,cq];omega),aAv hi,cn]
 ·obtain⟨_,rfl⟩:=hv;rw[c,cI];rfl
def aIy (k:Int)(b:List Int)(h:b.length<=34359738368):Mh k b=some (aPl k b):=by unfold Mh;rw[bGv (k:=k) h (by grind[bCy,bZ,aI,bd_s,aB,gd_T,fG]) (by simp)];rfl
def aIz (p:Int)(b:AN):Mi p b=some (jO p b):=by
 grind[decide,decide_eq_true,bQ,fH,aB,bd_s,decide_eq_false,aK3,jL,Mi,jO]
def aQa {bs:List AN}{p:Int}(hl:bs.length<=34359738368){F:(Nat->Option ((List Int×Bool)⊕PUnit))->Nat->Option ((List Int×Bool)⊕PUnit)}
  (a:∀rec i (hi:i<bs.length),F rec i=bif (jO p bs[i]).2 then some (.inl ((jO p bs[i]).1,true)) else rec (i+1)) (b:∀rec,F rec bs.length=some (.inr ())):nx (bG FUEL F 0) (λ_=>some (([]:List Int),false))=some (kL bs p):=by
 have go:∀(k i n:Nat),i+k=bs.length->k<n->nx (bG n F i) (λ_=>some (([]:List Int),false))=some (kL (bs.drop i) p):=by
  intro k;induction k with
  |zero=>
   intro i n hk hn;obtain⟨n,rfl⟩:∃m,n=m+1:=⟨n-1,by omega⟩;have:i=bs.length:=by omega
   subst this;rw[jP,b,gb];rfl
  |succ k c=>
   intro i n hk hn;obtain⟨n,rfl⟩:∃m,n=m+1:=⟨n-1,by omega⟩;have hi:i<bs.length:=by omega
   rw[jP,a _ i hi,cM hi,kL];cases(jO p bs[i]).2 with
   |true=>rfl
   |false=>grind
 exact go bs.length 0 FUEL (by omega) (by grind[gM])
def aI0 (bs:List AN)(p:Int)(h:bs.length<=34359738368):Mj bs p=some (kL bs p):=by unfold Mj;exact aQa h (by grind[bZ,aI,bd_s]) (by simp)
theorem aTk {c:AL}{b:Int}(a:c.sz<=34359738368)(h0:0<=b/\b<(c.History.length:Int)):aW c.History (IntKind.i64.wrap (IntKind.i64.wrap ((c.History.length:Int)-1)-b))=some (c.History.getD (c.History.length-1-b.toNat) default)/\(c.History.getD (c.History.length-1-b.toNat) default).sz<=34359738368:=by simp only[AL.sz] at a;have h1:=aPn (f:=AH.sz) (l:=c.History) (i:=c.History.length-1-b.toNat) (by omega);refine⟨?_,by omega⟩;rw[aH (n:=(c.History.length:Int)-1) (by omega) (by omega),aH (by omega) (by omega),vT (by omega) (by omega)];congr 2;omega
def Vt (c:AL)(b:Int)(a:c.sz<=34359738368):wL c b=some (jR c b):=by
 grind[decide,aTk,Kt,bd_s,aB,Zz,AL.sz,wL,jR]
def bEa {a b:List AD}(d:a.length<=34359738368){F:(Nat->Option (Bool⊕PUnit))->Nat->Option (Bool⊕PUnit)}
  (f:∀rec i (hi:i<b.length) (hj:i<a.length),F rec i=bif !aUz a[i] b[i] then some (.inl false) else rec (i+1)) (c:∀rec,F rec b.length=some (.inr ())):
  (bif decide ((a.length:Int)<(b.length:Int)) then some false else nx (bG FUEL F 0) λ_=>some true)=some (dY a b):=by
 unfold dY;by_cases h:b.length<=a.length
 ·rw[ax (show ¬(a.length:Int)<(b.length:Int) by omega),ah,ap h,d8,
   fA (l:=b) (λi e=> !aUz (a.getD i default) e) (.inl false) (.inr ()) (by omega) (by grind[List.getD,List.getElem?_eq_getElem]) c]
  cases dP (λi e=> !aUz (a.getD i default) e) 0 b<;>rfl
 grind
def F4 (a b:List AD)(h:a.length<=34359738368):yL a b=some (dY a b):=by unfold yL;exact bEa h (λrec i hi hj=>by simp only[bZ hi,ac,aI hi,aI hj,bd_s];rfl) (by simp)
def aAw (k:Int)(b:AH)(h:b.Data.length<=34359738200):Ci k b=some (oF k b):=by
 grind[aB,bd_s,aL,Y1,Ci,oF]
def aEd (k e v:Int):Gx k e v=some (bQ k&&(bD e 0 1000000&&bD v 0 1000000)):=by unfold Gx;cases bQ k<;>cases bD e 0 1000000<;>rfl
def aLm (k e v:Int):aLb k e v=some (oG k e v):=by rfl
theorem F5 (b:List Int)(c:Int)(hc:c<=100){F:(Int×List Int×Nat->Option ((List Int×Int×Bool)⊕(Int×List Int)))->Int×List Int×Nat->Option ((List Int×Int×Bool)⊕(Int×List Int))}
  (d:∀rec (a:Int) (s:List Int) (i:Nat),s.length<=34359738368->F rec (a,s,i)=bif decide ((i:Int)<c) then(bif !(Jq b a).2.2 then some (.inl ([],0,false)) else rec ((Jq b a).2.1,s++[(Jq b a).1],i+1)) else some (.inr (a,s))):
  ∀(k i:Nat) (a:Int) (s:List Int) (f:Nat),((i+k:Nat):Int)=c->k<f->s.length<=i->nx (bG f F (a,s,i)) (λz=>some (z.2,z.1,true))=some (kD b k a s)
 |0,i,a,s,f+1,hk,e,hs=>by
  rw[jP,d _ _ _ _ (by omega),show decide ((i:Int)<c)=false from ax (by omega)];rfl
 |k+1,i,a,s,f+1,hk,e,hs=>by
  rw[jP,d _ _ _ _ (by omega),show decide ((i:Int)<c)=true from ap (by omega),ac];unfold kD;cases(Jq b a).2.2 with
  |false=>rfl
  |true=>simp only[bf,ah,ac];exact F5 b c hc d k (i+1) _ _ f (by omega) (by omega) (by simp;omega)
def F6 (b:List Int)(a c:Int)(hb:aR b):yO b a c=some (nC b a c):=by
 grind[bD,fZ,Bool.not_true,bd_s,Bool.or_self,F5,aB,fG,FUEL,gM,yO,nC]
theorem xA (b:List Int)(hb:aR b)(a:Int)(q:0<=a){F:(Int×Nat->Option ((Int×Int×Bool)⊕PUnit))->Int×Nat->Option ((Int×Int×Bool)⊕PUnit)}
  (l:∀rec (n:Int) (i:Nat),F rec (n,i)=bif decide ((i:Int)<6) then(bd (bif decide (a<0) then some true else some (decide (a>=IntKind.i64.wrap ((b.length:Int)-(i:Int))))) λc=>bif c then some (.inl (0,0,false)) else bd (aW b (IntKind.i64.wrap (a+(i:Int)))) λz=>gd ((0:Int)<=IntKind.i64.wrap (7*(i:Int))) (bif decide (IntKind.i64.wrap z<128) then(bd (bif IntKind.i64.wrap z==0 then(bif decide ((i:Int)>0) then some true else some (decide (orI .i64 n (Yx .i64 (mR .i64 (IntKind.i64.wrap z) 127) (IntKind.i64.wrap (7*(i:Int))))>1000000000000))) else some (decide (orI .i64 n (Yx .i64 (mR .i64 (IntKind.i64.wrap z) 127) (IntKind.i64.wrap (7*(i:Int))))>1000000000000))) λc=>bif c then some (.inl (0,0,false)) else some (.inl (orI .i64 n (Yx .i64 (mR .i64 (IntKind.i64.wrap z) 127) (IntKind.i64.wrap (7*(i:Int)))),IntKind.i64.wrap (IntKind.i64.wrap (a+(i:Int))+1),true))) else rec (orI .i64 n (Yx .i64 (mR .i64 (IntKind.i64.wrap z) 127) (IntKind.i64.wrap (7*(i:Int)))),i+1))) else some (.inr ())):
  ∀(k i:Nat) (n:Int) (f:Nat),i+k=6->k<f->0<=n->n<128^i->nx (bG f F (n,i)) (λ_=>some ((0:Int),(0:Int),false))=some (uvG b a.toNat k i n)
 |0,i,n,f+1,hk,r,h0,h1=>by
  rw[jP,l,show decide ((i:Int)<6)=false from ax (by omega)];rfl
 |k+1,i,n,f+1,hk,r,h0,h1=>by
  have hlen:=hb.1;rw[jP,l,show decide ((i:Int)<6)=true from ap (by omega),ac,vS,bd_s];rw[show IntKind.i64.wrap ((b.length:Int)-(i:Int))=(b.length:Int)-(i:Int) from aH (by omega) (by omega),show decide (a<0)=false from ax (by omega),cV];unfold uvG;by_cases d:a.toNat+i<b.length
  ·have j:=Kk hb d;have hg:b.getD (a.toNat+i) 0=b[a.toNat+i]:=by simp[List.getD,aa d]
   have m:IntKind.i64.wrap (a+(i:Int))=((a.toNat+i:Nat):Int):=by rw[aH (by omega) (by omega)];omega
   rw[cG d,hg,m,aI d];generalize b[a.toNat+i]=z at j;rw[show decide (a>=(b.length:Int)-(i:Int))=false from ax (by omega)];have hs:=aW1 (z:=z) (n:=n) (i:=i) (by omega) j.1 h0 h1;have o:IntKind.i64.wrap z=z:=aH (by omega) (by omega);have ho:=bFz (z:=z) (n:=n) (i:=i) (by omega) j.1 j.2 h0 h1;have p:IntKind.i64.wrap (((a.toNat+i:Nat):Int)+1)=((a.toNat+i+1:Nat):Int):=by rw[aH (by omega) (by omega)];omega
   have s:0<=IntKind.i64.wrap ((7:Int)*(i:Int)):=by rw[aH (by omega) (by omega)];omega
   simp only[ah,bd_s,o,ho,p];rw[aB s];by_cases h:z<128
   ·simp only[h,decide_true,ac];have e:(decide ((i:Int)>0))=decide (0<i):=cT.2 (by omega);rw[e];cases decide (0<i)<;>cases(z==0)<;>cases decide (n+z%128*128^i>1000000000000)<;>rfl
   ·simp only[h,decide_false,ah];exact xA b hb a q l k (i+1) _ f (by omega) (by omega) hs.1 hs.2.1
  ·rw[dh d,show decide (a>=(b.length:Int)-(i:Int))=true from ap (by omega)];rfl
def Vu (b:List Int)(a:Int)(hb:aR b):wM b a=some (Jq b a):=by
 unfold wM Jq;have d:=gM;by_cases h0:a<0
 ·rw[cG h0];obtain⟨f,c⟩:∃f,FUEL=f+1:=⟨FUEL-1,by omega⟩;simp_all[nx,jP]
 grind[xA,FUEL]
def Ip (s:AO)(e:AK)(a:e.sz<=34359738368):qA s e=some (eO s e):=by
 simp only[AK.sz] at a;unfold qA eO
 grind[decode_len,nC,aG6,aW,bd_s,Bool.not_true,bQ,kL,iU,aB,aG5]
def bGw {F:(Int×List Int->Option (Int×List Int))->Int×List Int->Option (Int×List Int)}{n:Int}{b:List Int}(hk:0<=n/\n<=1000000000000)(hb:b.length<=34359738300)
  (a:∀rec (n:Int) (s:List Int),0<=n->n<9223372036854775807->s.length<=34359738368->F rec (n,s)=bif decide (n>127) then rec (n/128,s++[n%128+128]) else some (n,s)):
  (bd (EV.bG FUEL F (n,b)) λz=>gd (aL z.2 [IntKind.u8.wrap z.1]) (some (z.2++[IntKind.u8.wrap z.1])))=some (b++uvE 5 n):=by
 have f:(128:Int)^(5+1)=4398046511104:=by decide
 obtain⟨m,q,c,d,e,h⟩:=aSk a 5 n b FUEL (by grind[gM]) hk.1 (by omega) (by omega) (by omega);have hq:q.length<=34359738368:=by
  grind[List.length_append,List.length_singleton,aPp,List.length]
 rw[c,bd_s];simp only[aSl e (by omega)];rw[fG (s:=q) hq,d]
def Ni (b:List Int)(n:Int)(h:b.length<=34359738300):sI b n=some (Ku b n):=by
 unfold sI Ku enc1;rw[lM (by omega)];cases hr:bD n 0 1000000000000 with
 |false=>simp
 |true=>rw[bf,ah,ac,bo];exact bGw (fZ hr) h (by grind[decide,gd,aL,orI,mR,Aa,bF8,bJw,Int.emod_nonneg,Int.emod_lt_of_pos,bLn,aSl,fG,aB])
def aOd:∀(l s:List Int),l.foldl Ku s=s++kY l
 |[],s=>by simp[kY]
 |x::l,s=>by rw[df,aOd l,vG,Ku,co]
def F7 (l:List Int)(h:l.length<=5000000000):yI l=some (kY l):=by unfold yI;rw[gB (l:=l) Ku (λi s=>s.length<=6*i) (λs=>some s) (by omega) (by simp) (by grind[aHh,Ku,List.length_append]) (by grind[bZ,aI,bd_s,aB]) (by simp),aOd];rfl
def aI1:∀(l:List AI) (s:List Int),l.foldl (λs e=>s++aZr e) s=s++tT l
 |[],s=>by simp[tT]
 |x::l,s=>by rw[df,aI1 l];simp[tT]
def Qs (b:AE)(h:b.sz<=34359738368):tZ b=some (yE b):=by
 unfold tZ yE;rw[aB h,bd_s];cases hb:aS b with
 |false=>rfl
 |true=>
  have hl:=vU hb;have hv:(Kv b).length=1+4*b.Entries.length:=by grind[Kv,Bj]
  rw[bf,ah,ac,gB (l:=b.Entries) (λs e=>s++aZr e) (λi s=>s.length<=1+4*i) (λs=>some s) (by omega) (by simp) (by grind[aZr,List.length_append,List.length_cons,List.length_nil]) (λrec i s hi hv=>by
   have e:∀x y z w:Int,gd (aL s [x,y,z,w]) (some (s++[x,y,z,w]))=some (s++[x,y,z,w]):=(by grind[aB,aL,List.length_cons,List.length_nil]);simp only[bZ hi,ac,aI hi,bd_s,Ez,e];rfl) (by simp),aI1,bd_s]
  grind[aB,tT,Kv,bd_s]
def F8 (a b:List Int)(h:aR a/\aR b):yP a b=some (a==b):=by obtain⟨c,hb⟩:=h;have h1:=c.1;have h2:=hb.1;unfold yP;rw[aB (by omega),aB (by omega),aPo,aPo,ByteArray.toList_eq,ByteArray.toList_eq,aNn,aNn];congr 1;rw[fj,cU,cU];exact⟨λh=>bytes_inj (aDa c) (aDa hb) h,λh=>by rw[h]⟩
def bEb {a:List Int}(hb:aR a)(hc:(!(Jq a 0).2.2||decide ((Jq a 0).1>20))=false):∃(n:Int) (q:Nat),Jq a 0=(n,(q:Int),true)/\0<=n/\n<=20/\q<=a.length:=by
 simp only[bz,dc,cR] at hc;cases b:Jq a 0 with
 |mk n r=>
  obtain⟨e,ok⟩:=r;rw[b] at hc;obtain⟨rfl,hc2⟩:=hc;obtain⟨q,⟨_,c,d,f,h⟩,_⟩:=aPr hb b
  grind
def bEc {a:List Int}{e c:Int}(h0:0<=c)(h1:c<=100)(h2:0<=e)(b:e<=a.length):nC a e c=kD a c.toNat e []:=by
 grind[decide_eq_true,nC,bD]
def aOe {a:List Int}(hb:aR a){k:Nat}(hk:k<=20){τ:Type}{x:τ}{F:(Int×Nat×List AI->Option (τ⊕List AI))->Int×Nat×List AI->Option (τ⊕List AI)}
  (b:∀rec (q:Nat) i s (hi:i<k),q<=a.length->s.length<=100->F rec ((q:Int),i,s)=bif !(kD a 4 q []).2.2 then some (.inl x) else rec ((kD a 4 q []).2.1,i+1,s++nW (kD a 4 q []).1)) (c:∀rec e s,F rec (e,k,s)=some (.inr s)):
  ∀(m i n q:Nat) (s:List AI),i+m=k->m<n->q<=a.length->s.length<=i->EV.bG n F ((q:Int),i,s)=some (bif (kD a (4*m) q []).2.2 then .inr (s++nW (kD a (4*m) q []).1) else .inl x)
 |0,i,n+1,q,s,h,_,_,_=>by
  have:i=k:=by omega
  subst this;rw[jP,c];simp[kD,nW]
 |m+1,i,n+1,q,s,h,hn,hq,hs=>by
  rw[jP,b _ q i s (by omega) hq (by omega),show 4*(m+1)=4+4*m by omega,aHi 4 (4*m)];cases hd:kD a 4 (q:Int) [] with
  |mk l r=>
   obtain⟨e,ok⟩:=r;cases ok with
   |false=>rfl
   |true=>
    obtain⟨t,q',⟨k1,k2,k3,k4,k5⟩,_⟩:=o5 hb _ _ _ _ _ (by omega) (by omega) hd;rw[bo] at k1;subst k1;subst k3;have hl:(nW l).length=1:=aHk 1 l (by omega);simp only[bf,ah,ac];rw[aOe hb hk b c m (i+1) n q' _ (by omega) (by omega) k4 (by simp[hl];omega),aHj (4*m) (q':Int) l];cases(kD a (4*m) (q':Int) []).2.2 with
    |false=>rfl
    |true=>simp[aSo 1 l _ (by omega)]
def four {l:List Int}(h:l.length=4):∃w x y z,l=[w,x,y,z]:=by
 match l,h with
 |[w,x,y,z],_=>exact⟨w,x,y,z,rfl⟩
def Qt (a:List Int)(hb:aR a):uA a=some (aHl a):=by
 unfold uA aHl;rw[aB hb,bd_s,vS,bd_s];cases hc:(!(Jq a 0).2.2||decide ((Jq a 0).1>20)) with
 |true=>rfl
 |false=>
  obtain⟨n,q,b,h0,h1,h2⟩:=bEb hb hc;rw[b,ah,ah];dsimp only;rw[aOe (x:=((AE.mk [],false):AE×Bool)) hb (k:=n.toNat) (by omega) (λrec q i s hi hq hs=>by
   have d:decide ((i:Int)<n)=true:=ap (by omega);simp only[d,ac,aB hb,bd_s,bEc (a:=a) (e:=(q:Int)) (c:=4) (by omega) (by omega) (by omega) (by omega),show Int.toNat 4=4 from rfl];cases hd:kD a 4 (q:Int) [] with
   |mk l r=>
    obtain⟨e,ok⟩:=r;cases ok with
    |false=>rfl
    |true=>
     obtain⟨t,q',⟨k1,k2,_⟩,_⟩:=o5 hb _ _ _ _ _ (by omega) (by omega) hd;rw[bo] at k1;subst k1;obtain⟨w,x,y,z,rfl⟩:=four k2;simp only[bf,ah,(by assumption),(by assumption),(by assumption),(by assumption),bd_s,fG (show s.length<=34359738368 by omega)];rfl) (by grind) n.toNat 0 FUEL q [] (by omega) (by grind[gM]) h2 (by simp)]
  rw[show(4*n).toNat=4*n.toNat by omega];unfold bC7;cases hd:kD a (4*n.toNat) (q:Int) [] with
  |mk v r=>
   obtain⟨e,ok⟩:=r;cases ok with
   |false=>rfl
   |true=>
    obtain⟨b1,h,j,m⟩:=bC8 hb b h1 (show kD a (4*n).toNat (q:Int) []=(v,e,true) by rw[show(4*n).toNat=4*n.toNat by omega];exact hd);have f:(AE.mk (nW v)).sz<=34359738368:=by grind[AE.sz]
    simp only[ac,nx_r,bo,aB f,bd_s,aB (show aR (yE ⟨nW v⟩)/\aR a from⟨aSp _,hb⟩),vS]
    grind[aS,nW,kY,Kv,yD,absurd,Bool.not_true,Bool.not_false,yE]
def F9 (k:Int)(s:AH)(h:s.Data.length<=34359738200):yQ k s=some (oH k s):=by unfold yQ oH;rw[aB h,aB (by omega)];simp only[bd_s,aB (aW2 (k:=oG k s.Epoch s.Version) (show s.Data.length<=34359738368 by omega))];cases bQ k<;>cases bD s.Epoch 0 1000000<;>cases bD s.Version 0 1000000<;>cases(s.MAC !=oF k s)<;>rfl
def G5 (d:AC)(l:List AD)(bx:AK)(s:AH)(h:d.sz<=34359738368/\l.length<=34359738368/\bx.sz<=34359738368/\s.Data.length<=34359738200):yR d l bx s=some (dD d l bx s):=by
 obtain⟨h1,h2,a,b⟩:=h;have c:=kV l;have hb:d.aAF.sz<=34359738368:=by grind[AC.sz,AE.sz]
 unfold yR dD nD;simp only[aB h1,aB h2,aB a,aB b,aB (by omega),bd_s,vS,bif_and,bif_or,Ez]
 grind[bI,dY,gT,aD,bO,aK,eO,bx,decide,nG,aB,bd_s,oH,aZs]
def bAl {c:AL}(h:c.sz<=34359738100)(b:Int):c.Log.length<=34359738100/\c.Boxes.sz<=34359738100/\(jR c b).1.Data.length<=34359738100:=by
 grind[decide,aTk,Kt,aPn,AH.sz,jR,AK.sz,AL.sz]
def aI2 (d:AC)(c:AL)(b:Int)(h:d.sz<=34359738100/\c.sz<=34359738100):Mk d c b=some (dD d c.Log c.Boxes (jR c b).1):=by obtain⟨h1,h2⟩:=h;obtain⟨k1,k2,k3⟩:=bAl h2 b;unfold Mk;rw[aB (by omega),bd_s,aB (by grind),bd_s]
def bGx {k:Int}{b:List Int}(hl:b.length<=34359738368){F:(List Int×Nat->Option (List Int))->List Int×Nat->Option (List Int)}
  (a:∀rec i s (hi:i<b.length),s.length<=34359738368->F rec (s,i)=rec (s++[aZu k i b[i]],i+1)) (c:∀rec s,F rec (s,b.length)=some s):EV.bG FUEL F ([],0)=some (pV k b):=by
 refine Af (λi s=>i<=b.length/\s=(Ic (λi z=>[aZu k i z]) 0 (b.take i),i)) b.length _ (by omega) ⟨by omega,by simp[Ic]⟩ (λi s rec hi hv=> ?_) (λs rec hv=> ?_)
 ·obtain⟨_,rfl⟩:=hv;refine .inl ⟨_,⟨hi,rfl⟩,?_⟩;rw[a rec i _ hi (by rw[Bg,cq];omega),aAv hi,cn]
 ·obtain⟨_,rfl⟩:=hv;rw[c,cI];rfl
def aI3 (k:Int)(b:List Int)(h:aR b):Lr k b=some (pV k b):=by unfold Lr;rw[bGx (k:=k) h.1 (by grind[bDa,Kk,bZ,aI,bd_s,aB,gd_T,fG]) (by simp)];rfl
def bKf (k:Int)(b:AE):(pV k (yE b)).length<=34359738200:=by grind[Bo,Pt]
def G6 (k e v:Int)(b:AE)(h:b.sz<=34359738368):yN k e v b=some (mX k e v b):=by unfold yN mX Bn;simp only[aB h,bd_s,aB (aSp b),aB (bKf (oG k e v) b)];cases bQ k<;>cases bD e 0 1000000<;>cases bD v 0 1000000<;>cases aS b<;>rfl
def aAx (a b:AH):Cj a b=some (nI a b):=by unfold Cj nI;cases decide (a.Epoch>b.Epoch)<;>cases(a.Epoch==b.Epoch)<;>rfl
def bGy {d:AC}(h:d.sz<=34359738368):d.aAF.sz<=34359738368:=by grind[AC.sz,AE.sz]
def Vv (d:AC)(h:d.sz<=34359738368):wK d=some (jS d):=by unfold wK jS;simp only[aB h,aB (bGy h),bd_s];cases(mX d.Key d.Epoch (IntKind.i64.wrap (d.Version+1)) d.aAF).2<;>rfl
def bAm (c:AL)(s:AH)(h:c.sz<=34359738300/\s.sz<=34359738300):(bd (gd (c.sz<=34359738368) (some c)) λa=>bd (gd (c.Log.length<=34359738368) (some (aK c.Log))) λd=>bd (bif (s.Epoch !=d) then some true else(bif decide ((c.History.length:Int)>0) then(bd (aW c.History (IntKind.i64.wrap ((c.History.length:Int)-1))) λb=>bd (some (nI s b)) λe=>bif !e then some true else some (decide ((c.History.length:Int)>=60))) else some (decide ((c.History.length:Int)>=60)))) λz2=>bif z2 then some (a,false) else bd (gd (s.sz<=34359738368) (some s)) λb=>gd (aL a.History [b]) (some (AL.mk a.Log a.Boxes (a.History++[b]),true)))=some (dO c s):=by
 obtain⟨h1,h2⟩:=h;have f:=h1;simp only[AL.sz] at f;unfold dO;simp only[aB (show c.sz<=34359738368 by omega),aB (show c.Log.length<=34359738368 by omega),aB (show s.sz<=34359738368 by omega),bd_s,fG (show c.History.length<=34359738368 by omega)];by_cases h0:0<c.History.length
 ·have j:aW c.History (IntKind.i64.wrap ((c.History.length:Int)-1))=some (c.History.getD (c.History.length-1) default):=by rw[aH (by omega) (by omega),vT (by omega) (by omega)];simp
  rw[ap (show(c.History.length:Int)>0 by omega),j];generalize c.History.getD (c.History.length-1) default=x;simp only[bd_s,ac,d8];cases(s.Epoch !=aK c.Log)<;>cases nI s x<;>cases decide ((c.History.length:Int)>=60)<;>rfl
 simp[*]
def Qu (c:AL)(s:AH)(h:c.sz<=34359738300/\s.sz<=34359738300):Qj c s=some (dO c s):=bAm c s h
def G7 (s n:Int):x9 s n=some (aQ s n):=by rfl
def aAy (s:AO):Z4 s=some (cZ s):=rfl
def Vw (s:AO)(n:ByteArray)(k:Int)(h:n.size<=34359738300):wG s n k=some (bY s n k):=by unfold wG;rw[aB h,bd_s,aB (by simp)];rfl
def G8 (s:AO)(n:ByteArray)(k:Int)(h:n.size<=34359738300):yK s n k=some (gI s n k):=by unfold yK;rw[aB h];rfl
def Qv (s:AO)(l:List Int)(h:l.length<=34359738300):tX s l=some (oI s l):=by unfold tX;rw[aB h];rfl
def G9 (e:AK)(d:Int)(h:e.Boxes.length<=34359738368):yJ e d=some (rQ e d):=by unfold yJ;rw[gB (l:=e.Boxes) (λn b=>bif b.To==d then IntKind.i64.wrap (n+1) else n) (λ_ _=>True) (λs=>some s) (by omega) trivial (by simp) (by grind[bZ,aI,bd_s]) (by simp)];rfl
def Vx (l:List AD)(k d:Int)(s:AO)(h:l.length<=34359738300):wB l k d s=some (jM l k d s):=by
 have h1:l.length<=34359738368:=by omega
 have e:∀x:AD,gd ((l++[x]).length<=34359738368) (some (bI (l++[x])))=some (bI (l++[x])):=(by grind[aB]);have a:∀x:Int,gd ([x].length<=34359738300) (some (oI s [x]))=some (oI s [x]):=λx=>aB (by simp);unfold wB jM aZv aU2;simp only[aB h1,bd_s,a,fG h1,e];generalize bI (l++_)=q;cases decide ((l.length:Int)>0)<;>cases bI l<;>cases q<;>rfl
def aVs (p e:Int)(d:List Int)(h:aR d):(bd (bif eX p==0 then some true else bif !bQ e then some true else some (decide ((d.length:Int)>200))) λb=>bif b then some (AN.mk 0 0 [] 0,false) else bd (gd (aR d) (some (pV (jL (eX p) e) d))) λa=>bd (gd (a.length<=34359738200) (some (aK3 (jL (eX p) e) (AN.mk p e a 0)))) λz2=>some (AN.mk p e a z2,true))=some (eH p e d):=by
 grind[eX,bQ,decide,Bool.or_eq_false_iff,decide_eq_false_iff_not,aB,bd_s,pV,jL,Bo,vS,eH,sG]
def aI4 (p e:Int)(d:List Int)(h:aR d):aH6 p e d=some (eH p e d):=aVs p e d h
def aAz (l:List Int)(e:Int)(d:List Int)(h:l.length<=34359738300/\aR d):Cf l e d=some (eU e d 0 l):=by
 obtain⟨h1,h2⟩:=h;unfold Cf;rw[aNu (e:=e) (d:=d) (l:=l) (x:=(([],false):List AN×Bool)) (by grind[bZ,aI,bd_s,aB,fG]) (by simp) l.length 0 FUEL [] (by omega) (by grind[gM]) (by simp),iy];cases hs:(eU e d 0 l).2 with
 |true=>rw[ac,nx_r,bo,<-hs]
 |false=>rw[ah,bDc hs];rfl
def bGz (a b:Int):aR (kY [a,b]):=aHm (by grind[aSr]) (aHn _)
def Iq (l:List AD)(k e:Int)(h:l.length<=34359738300):pX l k e=some (bK l k e):=by have hd:=kV l;unfold pX bK;simp only[aB (show l.length<=34359738368 by omega),bd_s,aB (show[aK l,k].length<=5000000000 by simp),aB (show(aD l).length<=34359738300/\aR (kY [aK l,k]) from⟨by omega,bGz _ _⟩)];cases bI l<;>cases bQ k<;>cases(eU e (kY [aK l,k]) 0 (aD l)).2<;>rfl
def bG0 (e:AK)(l:List Int):(l.all λd=>rQ e d==1)= !(l.any λd=>rQ e d !=1):=by
 grind
def aA0 (e:AK)(l:List AD)(h:e.Boxes.length<=34359738368/\l.length<=34359738368):Cg e l=some (kE e l):=by obtain⟨h1,h2⟩:=h;have hd:=kV l;unfold Cg kE;rw[aB h2,bd_s,lZ (l:=aD l) (λd=>rQ e d !=1) (.inl false) (.inr PUnit.unit) (by omega) (by grind[bZ,aI,bd_s,aB]) (by simp),bG0];simp only[aB h2,bd_s];cases(aD l).any (λd=>rQ e d !=1)<;>cases(e.Epoch==aK l)<;>cases((e.Boxes.length:Int)==((aD l).length:Int))<;>rfl
def Vy (s:AF)(i:Int)(h:s.Accounts.length<=34359738368):wH s i=some (aU s i):=by unfold wH;exact aR2 (l:=s.Accounts) (λa=>a.Id==i) (by omega) (by grind[bZ,aI,bd_s]) (by simp)
def bMd {l:List AV}{h p:Int}(a:l.length<=34359738300){β:Type}(k:List AV->Option β):gd (iQ l ((Uy h l:Nat):Int)) (gd (iQ l ((Uy h l:Nat):Int)) (gd (aL [] (List.take (Uy h l) l)) (gd (aL ([]++List.take (Uy h l) l) [AV.mk h p 0 false]) (gd (aL ([]++List.take (Uy h l) l++[AV.mk h p 0 false]) (List.drop (Uy h l) l)) (k ([]++List.take (Uy h l) l++[AV.mk h p 0 false]++List.drop (Uy h l) l))))))=k (aDu l h p):=by have hk:Uy h l<=l.length:=Kw;have h1:iQ l ((Uy h l:Nat):Int):=⟨by omega,by omega⟩;rw[aB h1,aB h1,aB (by grind[aL]),aB (by grind[aL]),aB (by grind[aL])];rfl
def bG1 {l:List AV}{h:Int}(a:l.length<=34359738300):EV.bG (α:=Int) FUEL (λrec (i:Int)=>bd (bif decide (i<(l.length:Int)) then(bd (aW l i) λz=>some (decide (z.Handle<h))) else some false) λz=>bif z then rec (IntKind.i64.wrap (i+1)) else some i) 0=some ((Uy h l:Nat):Int):=by have:=Y4 (l:=l) (λc=>decide (c.Handle<h)) (λi=>some (i:Int)) (λi=>(i:Int)) (F:=λrec (i:Int)=>bd (bif decide (i<(l.length:Int)) then(bd (aW l i) λz=>some (decide (z.Handle<h))) else some false) λz=>bif z then rec (IntKind.i64.wrap (i+1)) else some i) (by omega) (by grind[bZ,aI,bd_s,aH]) (by simp);exact this
def bMe {a:AJ}(b:a.sz<=34359738300)(h p:Int):(AJ.mk a.Id a.Minimum (aDu a.Credentials h p)).sz<=34359738368:=by
 grind[AJ.sz,aSs]
def Nj (a:AJ)(h p:Int)(b:a.sz<=34359738300):sJ a h p=some (iG a h p):=by
 have h1:a.sz<=34359738368:=by omega
 have hc:a.Credentials.length<=34359738300:=b;unfold sJ iG;rw[aB h1,bd_s,bG1 hc];simp only[aB h1,bd_s,bv];rw[bMd hc (λL=>bd (bif !bR a then some true else(bd (gd ((AJ.mk a.Id a.Minimum L).sz<=34359738368) (some (bR (AJ.mk a.Id a.Minimum L)))) λc=>some (!c))) λd=>bif d then some (a,false) else some (AJ.mk a.Id a.Minimum L,true))];simp only[bd_s,aB (bMe b h p)];cases bR a<;>cases bR {a with Credentials:=aDu a.Credentials h p}<;>rfl
def aVt {a:AJ}{h p:Int}(hn:(iG a h p).2=false):(iG a h p).1=a:=by
 grind[bR,aDu,iG]
def Vz (s:AF)(i h p:Int)(a:s.sz<=34359738300):wI s i h p=some (iL s i h p):=by
 have h1:s.sz<=34359738368:=by omega
 have hl:s.Accounts.length<=34359738368:=by grind[AF.sz]
 unfold wI iL;simp only[aB h1,aB hl,bd_s];rw[vS,bd_s];cases hc:(!dN s||decide (aU s i<0)) with
 |true=>rfl
 |false=>
  rw[bz] at hc;obtain⟨b,c,d⟩:=bJy a hc.2;simp only[ah,b,bd_s,aB c];cases e:(iG (s.Accounts.getD (aU s i).toNat default) h p).2 with
  |true=>rfl
  |false=>simp_all[aVt,aSc]
def aOf {L:List AP}(a:30<L.length)(b:L.length<=34359738301):gd (iQ L ((sH L:Nat):Int)) (gd (iQ L (IntKind.i64.wrap (((sH L:Nat):Int)+1))) (gd (aL [] (List.take (Int.toNat ((sH L:Nat):Int)) L)) (gd (aL ([]++List.take (Int.toNat ((sH L:Nat):Int)) L) (List.drop (Int.toNat (IntKind.i64.wrap (((sH L:Nat):Int)+1))) L)) (some ([]++List.take (Int.toNat ((sH L:Nat):Int)) L++List.drop (Int.toNat (IntKind.i64.wrap (((sH L:Nat):Int)+1))) L)))))=some (Bp L):=by
 have hs:=aSu (l:=L) (by omega);have e:IntKind.i64.wrap (((sH L:Nat):Int)+1)=((sH L+1:Nat):Int):=by grind[aH]
 rw[e,aB ⟨by omega,by omega⟩,aB ⟨by omega,by omega⟩,aB (by grind[aL]),aB (by grind[aL]),bv,bv]
 grind[decide_eq_true,Bp]
def aX5 (l:List AP)(x:AP)(h:l.length<=34359738300):(AM.mk (Bp (l++[x]))).sz<=34359738368:=by
 grind[AM.sz,List.length_append,List.length_singleton,aNr]
theorem aTl {L:List AP}(h:¬30<L.length):Bp L=L:=by
 grind[decide_eq_false,Bp]
def H5 (m:AM)(k a t:Int)(c:m.sz<=34359738300):zI m k a t=some (mO m k a t):=by
 have h1:m.sz<=34359738368:=by omega
 have hm:m.Notices.length<=34359738300:=c;have d:(m.Notices++[(⟨k,a,t,false⟩:AP)]).length=m.Notices.length+1:=by simp
 have hn:=aX5 m.Notices ⟨k,a,t,false⟩ hm;unfold zI mO;simp only[aB h1,bd_s,fG (show m.Notices.length<=34359738368 by omega)];generalize hg:m.Notices++[(⟨k,a,t,false⟩:AP)]=L at*;by_cases b:30<L.length
 ·rw[ap (show(L.length:Int)>30 by omega),bGc (l:=L) (λi=>some i) (λi=>((0:Int),i)) (by omega) (by grind[bZ,aI,bd_s]) (by simp),ac,bd_s,aOf b (by omega),bd_s,aB hn,bd_s];cases dM m<;>cases dM ⟨Bp L⟩<;>rfl
 grind[decide_eq_false,bd_s,aTl,aB,dM]
def H6 (m:AM)(k a t:Int)(d:m.sz<=34359738300):yY m k a t=some (mO m k a t):=by
 have h1:m.sz<=34359738368:=by omega
 have hm:m.Notices.length<=34359738300:=d;have j:(m.Notices++[(⟨k,a,t,false⟩:AP)]).length=m.Notices.length+1:=by simp
 have hn:=aX5 m.Notices ⟨k,a,t,false⟩ hm;unfold yY mO;rw[aB (by unfold aL;simp;omega),bo,fG (show m.Notices.length<=34359738368 by omega)];simp only[aB h1,bd_s];generalize hg:m.Notices++[(⟨k,a,t,false⟩:AP)]=L at*;by_cases c:30<L.length
 ·have e:=aNv (l:=L) (F:=λrec (b:Int×Int)=>bif (decide (b.2>=(0:Int))) then(bd (bd (aW L (b.2)) λf=>bif (f.Seen) then(some (b.2)) else(some (b.1))) λh=>rec ((h,IntKind.i64.wrap (b.2-(1:Int))))) else(some (b.1))) (λrec q i hi=>by
   simp only[ap (show((i:Int)>=0) by omega),ac,aI hi,bd_s,Ez,aH (show(-9223372036854775808:Int)<=(i:Int)-1 by omega) (show(i:Int)-1<=9223372036854775807 by omega)]) (λrec q=>rfl) L.length FUEL 0 (ak _) (by have:=gM;omega)
  rw[cI] at e;rw[ap (show(L.length:Int)>30 by omega),ac,aH (by omega) (by omega),e,<-aSt,bd_s,aOf c (by omega),bd_s,aB hn,bd_s];cases dM m<;>cases dM ⟨Bp L⟩<;>rfl
 ·rw[ax (show ¬(L.length:Int)>30 by omega),ah,bd_s];rw[aTl c] at hn ⊢;rw[aB hn,bd_s];cases dM m<;>cases dM ⟨L⟩<;>rfl
def aEe (s e:Int):aDz s e=some (bE s e):=by rfl
def H7 (d:AC)(l:List AD)(k:Int)(h:d.sz<=34359738368/\l.length<=34359738368):yM d l k=some (nJ d l k):=by unfold yM nJ;simp only[aB h.1,aB h.2,bd_s];cases bI l<;>cases dY l d.Log<;>cases decide (aK l<d.Epoch)<;>cases bQ k<;>rfl
def aX6 {α β:Type}{x:Option α}{f:α->Option β}{a:α}{r:Option β}(h:x=some a)(h2:f a=r):bd x f=r:=by simp[*]
def Al {σ τ:Type}{F:(σ->Option τ)->σ->Option τ}(S:Nat->σ)(N:Nat){r:τ}(a:N<=1000000)(b:∀rec i,i<N->F rec (S i)=rec (S (i+1)))(c:∀rec,F rec (S N)=some r){s:σ}(hs:s=S 0):EV.bG FUEL F s=some r:=by
 subst hs;have go:∀(k i n:Nat),i+k=N->k<n->EV.bG n F (S i)=some r:=by
  intro k;induction k with
  |zero=>
   intro i n h hn;obtain⟨m,rfl⟩:∃m,n=m+1:=⟨n-1,by omega⟩
   grind[jP]
  |succ k d=>
   intro i n h hn;obtain⟨m,rfl⟩:∃m,n=m+1:=⟨n-1,by omega⟩
   grind[jP]
 exact go N 0 FUEL (by omega) (by grind[gM])
theorem H8 {m:Int}{F:(Int×Int×Int->Option Int)->Int×Int×Int->Option Int}(a:∀rec (b n s:Int),0<=n->n<9223372036854775807->F rec (b,n,s)=bif decide (n>0) then rec ((IntKind.i64.wrap (b*b)).tmod m,n/2,bif n%2==1 then(IntKind.i64.wrap (s*b)).tmod m else s) else some s):
  ∀(k:Nat) (b n s:Int) (f:Nat),k<f->0<=n->n<2^k->k<=62->bG f F (b,n,s)=some (Ih m k b n s)
 |0,b,n,s,f+1,c,h0,h1,hk=>by
  have:n=0:=by simp at h1;omega
  subst this;rw[jP,a _ _ _ _ (by omega) (by omega)];rfl
 |k+1,b,n,s,f+1,c,h0,h1,hk=>by
  have h2:(2:Int)^(k+1)=2*2^k:=by rw[gi];omega
  have d:n<2^62:=Int.lt_of_lt_of_le h1 (by exact_mod_cast gl (by omega) hk);rw[jP,a _ _ _ _ h0 (by omega)];unfold Ih;by_cases hn:n>0
  ·rw[ap hn,ac,cG hn];exact H8 a k _ (n/2) _ f (by omega) (by omega) (by omega) (by omega)
  ·rw[ax hn,ah,dh hn]
theorem bHw:((2039:Int)≠0)=True:=by simp
def H9 (b n:Int)(h:0<=n/\n<2048):oQ b n=some (Ih 2039 11 b n 1):=by
 grind[H8,mR,and_one,Aa,aW3,bHw,gd_T,bd_s,aB,FUEL,gM,oQ]
def Ua (b n:Int)(h:0<=n/\n<2048)(hb:0<=b/\b<2039):fD b n 2039=some (Ih 2039 11 b n 1):=by unfold fD;rw[show b.tmod 2039=b by rw[cf hb.1];omega,show(1:Int).tmod 2039=1 by decide,H8 (m:=2039) (by grind[Int.tmod_eq_emod_of_nonneg,Int.tdiv_eq_ediv_of_nonneg,aH,bHw,gd_T,bd_s]) 11 b n 1 FUEL (by grind[gM]) h.1 (by omega) (by omega)];rfl
def Ir (x:Int):qB x=some (iI x):=by unfold qB iI;rw[H9 _ _ (by decide)];cases bD x 1 2038<;>rfl
def Iu (x:Int):qH x=some (iI x):=by
 unfold qH iI;cases h:bD x 1 2038 with
 |false=>rfl
 |true=>have:=fZ h;rw[Ua _ _ (by decide) (by grind)];rfl
def aEf (g n:Int):Gy g n=some (dJ g n):=by unfold Gy dJ;have hr:=lJ (p:=n) (q:=1019) (by decide);rw[H9 _ _ ⟨hr.1,by omega⟩];cases iI g<;>rfl
def aEg (g n:Int):Hq g n=some (dJ g n):=by
 unfold Hq dJ;have hr:=lJ (p:=n) (q:=1019) (by decide);cases h:iI g with
 |false=>rfl
 |true=>have a:=h;unfold iI at a;rw[ab] at a;have:=fZ a.1;rw[Ua _ _ ⟨hr.1,by omega⟩ (by grind)];rfl
def Wd (a b:Int):Vg a b=some (vB a b):=by rfl
def We (a b:Int):Vh a b=some (vB a b):=by rfl
def Qw (a b c:Int):Qk a b c=some (Pz a b c):=rfl
def aA1 (a b:Int):Ck a b=some (mG a b):=by
 unfold Ck mG;rw[aB (by simp),bd_s];have h:=(mD a [157,b]).1
 grind[decide_eq_false,decide_eq_true,aPk,gQ,bH]
def aA2 (a b:Int):Z9 a b=some (mG a b):=by rfl
def I1 (a b:Int):y7 a b=some (oJ a b):=by rfl
def I4 (a b:Int):C8 a b=some (oJ a b):=by rfl
def aI5 (a b:Int):Ml a b=some (Lb a b):=by unfold Ml Lb;rw[aB (by simp)];cases bD a 0 2147483647<;>rfl
def aI6 (a b:Int):Na a b=some (Lb a b):=by unfold Na Lb;rw[aB (by simp)];cases bD a 0 2147483647<;>rfl
def aA3 (k:AU):Z7 k=some (o8 k):=rfl
def Wi (w:AA):wZ w=some (aFp w):=by unfold wZ;rw[aB (by simp)];rfl
def aVu {c n:Int}{l:List Int}(hn:1<=n/\n<=7)(hl:l.length<=34359738368){F:(List AR×Int->Option (List AR))->List AR×Int->Option (List AR)}(a:∀rec (s:List AR) (i:Int),1<=i->i<=8->s.length<=8->F rec (s,i)=bif decide (i<=n) then rec (s++[⟨i,Gp c l i⟩],i+1) else some s):EV.bG FUEL F ([],1)=some ((List.range n.toNat).map λ(i:Nat)=>(⟨(i:Int)+1,Gp c l ((i:Int)+1)⟩:AR)):=
 Al (λi=>((List.range i).map λ(i:Nat)=>(⟨(i:Int)+1,Gp c l ((i:Int)+1)⟩:AR),(i:Int)+1)) n.toNat (by omega) (by grind[decide_eq_true,List.range_succ]) (by grind[decide_eq_false]) rfl
def Wj (c:Int)(l:List Int)(n:Int)(h:l.length<=34359738368):wN c l n=some (vW c l n):=by
 unfold wN vW;cases h1:bD n 1 7 with
 |false=>rfl
 |true=>
  have hn:=fZ h1;rw[aVu (c:=c) hn h (by grind[aB,bd_s,aL,Gp,aH])];by_cases h2:(l.length:Int)<n
  all_goals simp_all[ax,ap]
def aA4 (pin salt key sec:Int)(cs:List Int)(n lim:Int)(h:cs.length<=34359738368):Cm pin salt key sec cs n lim=some (vX pin salt key sec cs n lim):=by
 unfold Cm vX o9;simp only[aB h,bd_s];have hl:=aNy sec cs n;generalize vW sec cs n=l at hl ⊢;cases bD pin 0 9999 with
 |false=>rfl
 |true=>
 cases bD salt 0 1000000 with
 |false=>rfl
 |true=>
 cases bQ key with
 |false=>rfl
 |true=>
 cases bJ sec 1019==0 with
 |true=>rfl
 |false=>
 cases bD lim 1 10 with
 |false=>rfl
 |true=>
 rw[bJt (l:=l) (λs=>o8 ⟨s,0,0,lim⟩) (by omega) (λrec i s hi hs=>by
  have a:∀x:AB,aL s [x]:=(by grind[aL]);simp only[bZ hi,ac,aI hi,bd_s,aB (a _)];rfl) (by simp)]
 cases l with
 |nil=>rfl
 |cons x l=>rfl
def aEh (l:List AD)(b:AK)(h:l.length<=34359738368/\b.sz<=34359738368):Gr l b=some (bT l b):=by
 unfold Gr bT;have hb:b.Boxes.length<=34359738368:=by grind[AK.sz]
 simp only[aB h.1,aB h.2,aB (show b.Boxes.length<=34359738368/\l.length<=34359738368 from⟨hb,h.1⟩),bd_s];cases bI l<;>cases kE b l<;>rfl
def aTm (s:AF)(id m:Int):(oK s id m).sz=s.sz+1:=by
 grind[oK,AF.sz,List.length_append,List.length_cons,List.length_nil,AJ.sz,Bq,id,List.take_append_drop]
def bAn {l:List AJ}{id:Int}{F:(Int->Option Int)->Int->Option Int}(hl:l.length<=34359738368)(b:∀rec (i:Nat) (hi:i<l.length),F rec (i:Int)=bif decide (l[i].Id<id) then rec ((i+1:Nat):Int) else some (i:Int))(c:∀rec,F rec (l.length:Int)=some (l.length:Int)):EV.bG FUEL F 0=some (Bq id l:Int):=
 Y4 (λa:AJ=>decide (a.Id<id)) (λi=>some (i:Int)) (λi=>(i:Int)) hl b c
def bEd (id:Int)(l:List AJ):Bq id l<=l.length:=Kw
def Wl (s:AF)(id m:Int)(h:s.sz<=34359738300):wF s id m=some (iY s id m):=by
 unfold wF iY;have hl:s.Accounts.length<=s.sz:=by grind[AF.sz]
 have hk:=bEd id s.Accounts;have b:∀(x y:List AJ),x.length+y.length<=34359738400->aL x y:=(by grind[aL]);have hs:s.sz<=34359738368:=by omega
 have h1:=aTm s id m;rw[aB hs,bd_s,bAn (id:=id) (l:=s.Accounts) (by omega) (by grind[bZ,aI,bd_s,aH]) (by simp),bd_s];have a:iQ s.Accounts (Bq id s.Accounts:Int):=⟨by omega,by omega⟩;have he:(List.take (Bq id s.Accounts) s.Accounts).length+(List.drop (Bq id s.Accounts) s.Accounts).length=s.Accounts.length:=by rw[<-aE,cD]
 have ht:(List.take (Bq id s.Accounts) s.Accounts).length<=s.Accounts.length:=by omega
 have hd:(List.drop (Bq id s.Accounts) s.Accounts).length<=s.Accounts.length:=by omega
 rw[bv,aB a,aB a,aB (by grind),aB (by grind),aB (by grind),aB hs,bd_s,bo];rw[show(AF.mk s.Name (List.take (Bq id s.Accounts) s.Accounts++[AJ.mk id m []]++List.drop (Bq id s.Accounts) s.Accounts) s.Book s.Logins)=oK s id m from rfl,aB (by omega)];cases dN s<;>cases dN (oK s id m)<;>rfl
theorem aVv {α:Type}{x y:List α}(h:x.length<=1000)(a:y.length<=1000):aL x y:=by grind[aL]
theorem sU (seed:Int)(n:Nat):(bB seed n).length=n:=by simp[bB]
theorem Fq (seed:Int)(n:Nat):bB seed (n+1)=bB seed n++[cZ (aQ seed (n:Int))]:=by simp[bB,ef]
def aOg (seed:Int)(n:Nat):aW (bB seed (n+1)) 0=some (cZ (aQ seed 0)):=by rw[show(0:Int)=((0:Nat):Int) from rfl,aI (by simp[sU])];simp[bB]
theorem I5 (seed:Int)(n:Nat)(h:1<=n):bB seed n=cZ (aQ seed 0)::(bB seed n).drop 1:=by obtain⟨m,rfl⟩:∃m,n=m+1:=⟨n-1,by omega⟩;simp[bB,List.range_succ_eq_map]
abbrev sT (s:AF):ByteArray×List AJ×Int×Int×List AX×List Int:=(s.Name,s.Accounts,s.Book.Seed,s.Book.Next,s.Book.Open,s.Logins)
theorem I6 (nm:ByteArray):∀(l:List AC) (k:Nat) (d:AC) (s:AF),rR nm k (l++[d]) s=(iL (rR nm k l s) 1 ((k+l.length:Nat):Int) (gI d.Store nm ((k+l.length:Nat):Int))).1
 |[],k,d,s=>rfl
 |x::l,k,d,s=>by
  rw[cJ];show rR nm (k+1) (l++[d]) _=_;rw[I6 nm l (k+1) d,au,show k+1+l.length=k+(l.length+1) by omega];rfl
def aOh {nm:ByteArray}{l:List AC}{s0:AF}(hl:l.length<=3)(hs:s0.sz<=1000){F:(Nat×ByteArray×List AJ×Int×Int×List AX×List Int->Option (ByteArray×List AJ×Int×Int×List AX×List Int))->Nat×ByteArray×List AJ×Int×Int×List AX×List Int->Option (ByteArray×List AJ×Int×Int×List AX×List Int)}
  (a:∀rec (i:Nat) (hi:i<l.length) (s:AF),s.sz<=2000->F rec (i,sT s)=rec (i+1,sT (iL s 1 (i:Int) (gI l[i].Store nm (i:Int))).1)) (b:∀rec s,F rec (l.length,sT s)=some (sT s)):EV.bG FUEL F (0,sT s0)=some (sT (rR nm 0 l s0)):=
 Al (λi=>(i,sT (rR nm 0 (l.take i) s0))) l.length (by omega) (by grind[Vd,s0,List.length_take,List.take_succ_eq_append_getElem,I6]) (by simp[*]) rfl
def I7 {α:Type}{p r:List α}{s:α}:aW (p++s::r) ((p.length:Nat):Int)=some s:=by simp[aI]
def aQb {α ι:Type}(e:Nat->ι){p0 l:List α}(f:α->α){F:(ι×List α->Option (List α))->ι×List α->Option (List α)}(hl:l.length<=1000)
  (a:∀rec (p:List α) (d:α) (r:List α),p.length+1+r.length=p0.length+l.length->d∈l->F rec (e p.length,p++d::r)=rec (e (p.length+1),p++f d::r)) (b:∀rec (p:List α),p.length=p0.length+l.length->F rec (e (p0.length+l.length),p)=some p):EV.bG FUEL F (e p0.length,p0++l)=some (p0++l.map f):=
 Al (λi=>(e (p0.length+i),p0++(l.take i).map f++l.drop i)) l.length (by omega) (λrec i hi=>by
  have h2:(p0++(l.take i).map f).length=p0.length+i:=by grind
  grind[List.append_assoc,List.singleton_append,Nat.add_assoc,List.take_succ_eq_append_getElem,List.map_singleton,List.getElem_mem,List.drop_eq_getElem_cons,List.length_drop]) (by simp[*]) (by simp)
def aI7 (n:Nat)(d:AC):Nat->AC
 |0=>d
 |j+1=>Fe (aA (j:Int)) n (aI7 n d j)
theorem zN (j:Int):(aA j).size<=100:=by unfold aA;cases j==0<;>cases j==1<;>decide
def aOi {nm:ByteArray}{n:Nat}{d:AC}{r:List AC}(hn:n<=3)(hd:d.sz<=100){F:(Nat×List AC->Option (List AC))->Nat×List AC->Option (List AC)}
  (a:∀rec (i:Nat) (x:AC),i<n->x.sz<=1000->F rec (i,x::r)=rec (i+1,(fT x nm (i:Int) false).1::r)) (b:∀rec x,F rec (n,x::r)=some (x::r)):EV.bG FUEL F (0,d::r)=some (Fe nm n d::r):=
 Al (λi=>(i,Fe nm i d::r)) n (by omega) (λrec i hi=>by
  have h1:=aFr nm i d;rw[a rec i _ hi (by omega)];rfl) (λrec=>b rec _) rfl
def aOj {n:Nat}{d:AC}{r:List AC}{F:(Nat×List AC->Option (List AC))->Nat×List AC->Option (List AC)}(hn:n<=3)(hd:d.sz<=10)
  (a:∀rec (j:Nat) (x:AC),j<2->x.sz<=100->F rec (j,x::r)=rec (j+1,Fe (aA (j:Int)) n x::r)) (b:∀rec x,F rec (2,x::r)=some (x::r)):EV.bG FUEL F (0,d::r)=some (aI7 n d 2::r):=
 Al (λj=>(j,aI7 n d j::r)) 2 (by omega) (λrec j hj=>by
  have h1:∀j:Nat,(aI7 n d j).sz<=d.sz+j*n:=by intro j;induction j<;>grind[aFr,aA,aI7,Fe,Nat.add_mul]
  have h2:=h1 j;have c:j*n<=2*3:=gm (by omega) hn;rw[a rec j _ hj (by omega)];rfl) (λrec=>b rec _) rfl
def aI8 {seed t:Int}(ht:1<=t/\t<=7){F:(List Int×Int->Option (List Int))->List Int×Int->Option (List Int)}(a:∀rec (s:List Int) (i:Int),1<=i->i<=8->s.length<=8->F rec (s,i)=bif decide (i<t) then rec (s++[aJ seed [307,i]],i+1) else some s):EV.bG FUEL F ([],1)=some (Ff seed t):=
 Al (λi=>((List.range i).map λ(k:Nat)=>aJ seed [307,(k:Int)+1],(i:Int)+1)) (t-1).toNat (by omega) (by grind[decide_eq_true,List.range_succ]) (λrec=>by
  rw[a rec _ _ (by omega) (by omega) (by simp;omega),ax (by omega),ah];rfl) rfl
def aFt (s:AF):AF.mk s.Name s.Accounts (AQ.mk s.Book.Seed s.Book.Next s.Book.Open) s.Logins=s:=rfl
def bEe (s:AO):AC.mk s [] (0:Int) (0:Int) (0:Int) (AE.mk [])=cZ s:=rfl
def bHx (seed:Int)(i:Nat):AO.mk (1:Int) (i:Int) (aJ seed [277,(i:Int)]) (0:Int)=aQ seed (i:Int):=rfl
def aEi (n k t pin seed:Int):Gz n k t pin seed=some (aT n k t pin seed):=by
 unfold Gz aT Qg;cases h1:bD n 1 3 with
 |false=>rfl
 |true=>
 cases h2:bD k 1 7 with
 |false=>rfl
 |true=>
 cases u:bD t 1 k with
 |false=>rfl
 |true=>
 cases I:bD pin 0 9999 with
 |false=>rfl
 |true=>
 cases J:bQ seed with
 |false=>rfl
 |true=>
 have hn:=fZ h1;have hk:=fZ h2;have ht:=fZ u;obtain⟨N,rfl⟩:∃N:Nat,n=(N:Int):=⟨n.toNat,by omega⟩;rw[bv];have h:1<=N/\N<=3:=by omega
 have K:=kF seed N;have L:=Va seed N;have M:=Vb seed N;simp only[bf,ah,dm,ac,bd_s,bEe,bHx];rw[Al (r:=(aM seed N,bB seed N,List.replicate N false)) (λi=>(aM seed i,i,bB seed i,List.replicate i false)) N (s:=([],0,[],[])) (by omega) (λrec i hi=>by
  have O:=aOg seed i
  grind[bZ,aB,aL,bB,cZ,aQ,aVv,List.replicate,List.length_replicate,bd_s,aM,Fq,List.replicate_succ',sU,kF]) (by simp) rfl]
 have v:(bK (aM seed N) (bE seed 0) 1000).1=dS seed N:=rfl;simp only[bd_s,aB (show(aM seed N).length<=34359738300 by omega),v,aB (show(aM seed N).length<=34359738368/\(dS seed N).sz<=34359738368 from⟨by omega,by omega⟩)];have w:=sU seed N;rw[Al (r:=kN (bB seed N) seed) (λj=>((kN (bB seed N) seed).take j,j)) 2 (s:=([],0)) (by omega) (λrec j hj=>by
  have hs:=zN (j:Int);have T:=Ld (aA (j:Int)) (aJ seed [281,(j:Int)]);have W:=Ve (dR (aA (j:Int)) (aJ seed [281,(j:Int)])) 1 3;simp only[ap (show(j:Int)<2 by omega),ac,aB (show[281,(j:Int)].length<=34359738300 by simp),bd_s,aB (show(aA (j:Int)).size<=34359738368 by omega),aB (show(dR (aA (j:Int)) (aJ seed [281,(j:Int)])).sz<=34359738300 by omega)];rw[aOh (nm:=aA (j:Int)) (l:=bB seed N) (s0:=(iY (dR (aA (j:Int)) (aJ seed [281,(j:Int)])) 1 3).1) (by omega) (by omega) (λrec i hi s hsz=>by
   simp only[bZ hi,ac,aI hi,bd_s,aB (show(aA (j:Int)).size<=34359738300 by omega),aFt,aB (show s.sz<=34359738300 by omega)]) (by simp)]
  have X:((kN (bB seed N) seed).take j).length<=1000:=by grind
  have z:∀x:AF,aL ((kN (bB seed N) seed).take j) [x]:=(by grind[aVv]);simp only[bd_s,aFt,aB (z _)];have b:j=0\/j=1:=by omega
  rcases b with rfl|rfl<;>rfl) (λrec=>by rfl) rfl]
 simp only[bd_s];have c:∀d∈bB seed N,d.sz=0:=λd hd=>by
  simp only[bB,cj] at hd;obtain⟨i,_,rfl⟩:=hd;rfl
 rw[show(0,bB seed N)=((λi:Nat=>i) ([]:List AC).length,([]:List AC)++bB seed N) from rfl,aQb (λi:Nat=>i) (p0:=[]) (l:=bB seed N) (nK seed N) (by omega) (λrec p d r hp hd=>by
  have h0:=c d hd;simp only[bn] at hp;simp only[bZ (show p.length<N by omega),ac,I7,bd_s,aB (show d.sz<=34359738368/\(aM seed N).length<=34359738368 from⟨by omega,by omega⟩),bv,set_mid rfl,co,dT];rfl) (by grind)]
 obtain⟨R,m⟩:∃R,R=((bB seed N).drop 1).map (nK seed N):=⟨_,rfl⟩;have hm:(bB seed N).map (nK seed N)=nK seed N (cZ (aQ seed 0))::R:=by
  grind[List.map,nK,I5]
 have A:R.length=N-1:=by rw[m,ba,cy,w]
 have e:∀d∈R,d.sz<=10:=(by grind[List.mem_of_mem_drop,Qa]);have B:=Qa seed N (cZ (aQ seed 0));rw[Qb] at B;have hq:∀x:AC,aW (x::R) 0=some x:=λx=>rfl;rw[bo,hm,bd_s,aOj (n:=N) (d:=nK seed N (cZ (aQ seed 0))) (r:=R) h.2 (by omega) (λrec j x hj D=>by
  simp only[ap (show(j:Int)<2 by omega),ac];rw[aOi (nm:=aA (j:Int)) (n:=N) (d:=x) (r:=R) h.2 D (by grind[zN,bZ,bd_s,aB,aA]) (by simp)];rfl) (λrec x=>by rfl)]
 have F:aI7 N (nK seed N (cZ (aQ seed 0))) 2=gF seed N:=rfl;have o:jS (gF seed N)=Qf seed N:=rfl;have hc:(dO (bT (aM seed N) (dS seed N)).1 (Qf seed N).2.1).1=dU seed N:=rfl;have Z:=Uz seed N;have q:=Pv (gF seed N);rw[o] at q;have G:=yF (aM seed N) (dS seed N);have a:∀x y:AC,(x::R).set (0:Int).toNat y=y::R:=λ_ _=>rfl;simp only[bd_s,F,hq,aB (show(gF seed N).sz<=34359738368 by omega),o,aB (show(bT (aM seed N) (dS seed N)).1.sz<=34359738300/\(Qf seed N).2.1.sz<=34359738300 from⟨by omega,by have:=q.2;simp only[AH.sz];omega⟩),hc,a];rw[show((1:Int),(Qf seed N).1::R)=((λi:Nat=>(i:Int)) ([(Qf seed N).1]:List AC).length,[(Qf seed N).1]++R) from rfl,aQb (λi:Nat=>(i:Int)) (p0:=[(Qf seed N).1]) (l:=R) (λd=>(dD d (dU seed N).Log (dU seed N).Boxes (jR (dU seed N) 0).1).1) (by omega) (λrec p d r hp hd=>by
  have h0:=e d hd;simp only[au,bn] at hp;simp only[bZ (show p.length<N by omega),ac,I7,bd_s,aB (show d.sz<=34359738100/\(dU seed N).sz<=34359738100 from⟨by omega,by omega⟩),bv,set_mid rfl,co,dT,aH (by omega) (show(p.length:Int)+1<=9223372036854775807 by omega)];rfl) (by grind)]
 have H:[(Qf seed N).1]++R.map (λd=>(dD d (dU seed N).Log (dU seed N).Boxes (jR (dU seed N) 0).1).1)=iB seed N:=by rw[m,fN];show(Qf seed N).1::_=(Qf seed N).1::_;simp[fe,aXi]
 rw[H];simp only[bd_s];rw[aI8 (seed:=seed) (t:=t) (by grind) (by grind[aL,aVv,aB,bd_s,aH])];have f:(Ff seed t).length<=34359738368:=by grind[Ff,List.length_map,List.length_range]
 simp only[bd_s,aB (show([283]:List Int).length<=34359738300 by simp),aB (show([293]:List Int).length<=34359738300 by simp),aB (by omega),aB f];rfl
def I8 (a b c:Int):yU a b c=some (bP a b c):=by unfold yU bP;cases bJ c 1019==0<;>rfl
def I9 (a b c:Int):zF a b c=some (bP a b c):=by unfold zF bP;cases bJ c 1019==0<;>rfl
def Nk (s:AR)(e:Int):sO s e=some (vC s e):=by unfold sO vC;cases iI e<;>cases e==1<;>cases bD s.Value 0 1018<;>rfl
def Nl (s:AR)(e:Int):sQ s e=some (vC s e):=by unfold sQ vC;cases iI e<;>cases e==1<;>cases bD s.Value 0 1018<;>rfl
def aA5 (k:AU)(e:Int):Cr k e=some (dB k e):=by unfold Cr dB;cases gD k<;>cases k.Guesses==k.Limit<;>cases iI e<;>cases e==1<;>rfl
def aA6 (k:AU)(e:Int):Df k e=some (dB k e):=by unfold Df dB;cases gD k<;>cases k.Guesses==k.Limit<;>cases iI e<;>cases e==1<;>rfl
def aEj (a b:Int):He a b=some (gX a b):=by unfold He gX;rw[aB (show(2039:Int)≠0 by decide)];cases iI a<;>cases iI b<;>rfl
def aEk (a b:Int):Hr a b=some (gX a b):=by unfold Hr gX;rw[aB (show(2039:Int)≠0 by decide)];cases iI a<;>cases iI b<;>rfl
def aA7 (v:AS)(o:Int):Cs v o=some (Ak v o):=by unfold Cs Ak;rw[bne];cases oJ o v.Salt==v.Check<;>rfl
def aA8 (v:AS)(o:Int):Dh v o=some (Ak v o):=by unfold Dh Ak;rw[bne];cases oJ o v.Salt==v.Check<;>rfl
def aI9 (h:AB)(e:Int)(a:h.sz<=34359738300):Mx h e=some (lN h e):=by
 have hq:=a;simp only[AB.sz] at hq;have b:aL h.Saved [h.State]:=by grind[List.length_cons,List.length_nil,aL]
 unfold Mx lN;rw[aB (by omega),bd_s];cases decide (iE h.State<h.Monotonic) with
 |true=>rfl
 |false=>
  rw[ah];cases(dB h.State e).2.2 with
  |false=>rfl
  |true=>
   simp only[bf,ah,aB b,Bool.or_self];unfold bDi;cases hd:decide (((h.Saved++[h.State]).length:Int)>30) with
   |false=>rfl
   |true=>have:=of_decide_eq_true hd;rw[ac,aB (show iQ (h.Saved++[h.State]) 1 from⟨by omega,by omega⟩),aB (by grind[aL,List.drop,Int.toNat,List.length_nil,List.length_drop,List.length_append,List.length_cons])];rfl
def Fs (n:Int):oU n=some (pW n):=by
 have hr:=lJ (p:=n) (q:=1019) (by decide);have hp:∀m:Int,0<=m->m<1019->((IntKind.i64.wrap (bJ n 1019*m)).tmod 1019==1)=((bJ n 1019*m)%1019==1):=λm h0 h1=>by
  have h2:0<=bJ n 1019*m:=iS hr.1 h0;have d:bJ n 1019*m<=1019*1019:=Int.mul_le_mul (by omega) (by omega) h0 (by omega);rw[aH (by omega) (by omega),cf h2]
 have step:∀m:Int,1<=m->m<1019->IntKind.i64.wrap (m+1)=m+1:=λm _ _=>aH (by omega) (by omega);unfold oU pW;cases b:bJ n 1019==0 with
 |true=>
  have h0:=eq_of_beq b;rw[Af (s:=(1:Int)) (λi (s:Int)=>s=(i:Int)+1) 1018 (some (.inr ())) (by omega) (by show(1:Int)=((0:Nat):Int)+1;rfl) (λi s rec hi hv=> ?_) (λs rec hv=> ?_)]
  ·rfl
  ·left;have hv:s=(i:Int)+1:=hv;subst hv;refine⟨_,rfl,?_⟩;rw[ap (show(i:Int)+1<1019 by omega),ac,aB (by decide),hp _ (by omega) (by omega),h0,Int.zero_mul,step _ (by omega) (by omega)];rfl
  ·have hv:s=(1018:Nat)+1:=hv;subst hv;rfl
 |false=>
  have h0:0<bJ n 1019:=by have:=cm.1 b;omega
  obtain⟨c,e,f⟩:=bJ2 h0 hr.2;generalize Ih 1019 11 (bJ n 1019) 1017 1=a at*;rw[Af (s:=(1:Int)) (λi (s:Int)=>s=(i:Int)+1/\(i:Int)+1<=a) 1018 (some (.inl a)) (by omega) ⟨by show(1:Int)=((0:Nat):Int)+1;rfl,by omega⟩ (λi s rec hi hv=> ?_) (λs rec hv=> ?_)]
  ·rfl
  ·obtain⟨rfl,hv⟩:=hv;rw[ap (show(i:Int)+1<1019 by omega),ac,aB (by decide),hp _ (by omega) (by omega)];by_cases hm:(i:Int)+1=a
   ·right;rw[hm,c];rfl
   ·left;refine⟨_,⟨rfl,by omega⟩,?_⟩;rw[cm.2 (λh=>hm (bDl (by omega) (by omega) h c)),ah,step _ (by omega) (by omega)];rfl
  ·obtain⟨rfl,hv⟩:=hv;omega
theorem bMf:((1019:Int)≠0)=True:=by simp
def aLn (b n:Int)(h:0<=n/\n<2048)(hb:0<=b/\b<1019):fD b n 1019=some (Ih 1019 11 b n 1):=by unfold fD;rw[show b.tmod 1019=b by rw[cf hb.1];omega,show(1:Int).tmod 1019=1 by decide,H8 (m:=1019) (by grind[Int.tmod_eq_emod_of_nonneg,Int.tdiv_eq_ediv_of_nonneg,aH,bMf,gd_T,bd_s]) 11 b n 1 FUEL (by grind[gM]) h.1 (by omega) (by omega)];rfl
def Fu (n:Int):oW n=some (pW n):=by have hr:=lJ (p:=n) (q:=1019) (by decide);unfold oW pW;rw[aLn _ _ (by decide) ⟨hr.1,hr.2⟩];cases bJ n 1019==0<;>rfl
def Qx (a b:Int):uF a b=some (Te a b):=by unfold uF Te;cases bJ b 1019==0<;>rfl
def Qy (a b:Int):uI a b=some (Te a b):=by unfold uI Te dJ;cases iI a<;>cases bJ b 1019==0<;>rfl
theorem Wm {σ:Type}(g:σ->Nat->σ)(s:σ)(i:Nat):(List.range (i+1)).foldl g s=g ((List.range i).foldl g s) i:=by rw[ef,fv];rfl
theorem getD_at {l:List Int}{i:Nat}(h:i<l.length):l.getD i 0=l[i]:=by simp[*]
def aOk {l:List Int}{i:Int}(h0:0<=i)(h1:i<(l.length:Int)):aW l i=some (l.getD i.toNat 0):=by
 grind[List.getD,List.getElem?_eq_getElem,xY]
def Iw (l:List Int)(k a:Int)(hl:l.length<=34359738368):qD l k a=some (tH l k a):=by
 unfold qD tH;rw[Zz hl];cases hk:(decide (k<0)||decide (k>=(l.length:Int))) with
 |true=>rfl
 |false=>
  have b:=Kt hk;rw[ah,cV];rw[Af (τ:=Int⊕Int) (s:=((1:Int),(0:Nat))) (λi (s:Int×Nat)=>i<=l.length/\s=((List.range i).foldl (p9 l k a) 1,i)/\dP (Bt (λq=>bJ q 1019) l) 0 (l.take i)=false) l.length
   (some (bif dP (Bt (λq=>bJ q 1019) l) 0 l then .inl 0 else .inr ((List.range l.length).foldl (p9 l k a) 1))) (by omega) ⟨cr _,rfl,rfl⟩ (λi s rec hi hv=> ?_) (λs rec hv=> ?_)]
  ·cases dP (Bt (λq=>bJ q 1019) l) 0 l<;>rfl
  ·obtain⟨_,rfl,hv⟩:=hv;simp only[bZ hi,ac];rw[q8 (f:=λq=>bJ q 1019) hi (by omega) (.inl (.inl (.inl 0))) (.inr ()) (λrec' j hj=>by
    simp only[bZ hj,ac,aI (show j<l.length by omega),aI hi,bd_s]) (λrec'=>by simp only[qV,ah])]
   cases hd:Bt (λq=>bJ q 1019) l i l[i] with
   |true=>right;rw[bJ1 hi hd];rfl
   |false=>
    left;refine⟨_,⟨hi,rfl,bDk hi hv hd⟩,?_⟩;rw[Wm];unfold p9;simp only[ah,nx_r,bne];cases he:((i:Int)==k) with
    |true=>rfl
    |false=>simp only[db,ac,ah,aI hi,aOk b.1 b.2,bd_s,aB (show(1019:Int)≠0 by decide),getD_at hi];rw[show pW (bJ (IntKind.i64.wrap (bJ (l.getD k.toNat 0) 1019-bJ l[i] 1019)) 1019)=pW (IntKind.i64.wrap (bJ (l.getD k.toNat 0) 1019-bJ l[i] 1019)) from aZ3 (by rw[aVe,aVe];omega)];rfl
  ·obtain⟨_,rfl,hv⟩:=hv;simp only[qV,ah];rw[cI] at hv;rw[hv];rfl
def Iy (l:List Int)(k a:Int)(hl:l.length<=34359738368):qI l k a=some (tH l k a):=by
 unfold qI tH;rw[vS,bd_s];cases hk:(decide (k<0)||decide (k>=(l.length:Int))) with
 |true=>rfl
 |false=>
  have b:=Kt hk;rw[ah,cV];rw[fA (l:=l) (Bt (λq=>bJ q 1019) l) (.inl (0:Int)) (.inr ()) (by omega) (λrec i hi=>by
   simp only[bZ hi,ac];rw[q8 (f:=λq=>bJ q 1019) hi (by omega) (.inl (.inl (0:Int))) (.inr ()) (by grind[bZ,aI,bd_s,BEq.comm]) (by simp)];cases Bt (λq=>bJ q 1019) l i l[i]<;>rfl) (by simp)]
  cases dP (Bt (λq=>bJ q 1019) l) 0 l with
  |true=>rfl
  |false=>
   simp only[ah,nx_r,aOk b.1 b.2,bd_s];rw[Af (τ:=Int) (s:=((1:Int),(0:Nat))) (λi (s:Int×Nat)=>s=((List.range i).foldl (p9 l k a) 1,i)) l.length (some ((List.range l.length).foldl (p9 l k a) 1)) (by omega) rfl (λi s rec hi hv=> ?_) (λs rec hv=> ?_)]
   all_goals grind[Wm,bZ,p9,bne,Bool.not_true,bd_s,Bool.not_false,aI,aB,getD_at]
def bMg (a b:Nat):((a:Int)==(b:Int))=(a==b):=by
 grind
def xQ (ix vs:List Int)(h:ix.length<=34359738368/\vs.length<=34359738368):mP ix vs=some (iM ix vs):=by
 unfold mP iM;rw[show((ix.length:Int) !=(vs.length:Int))= !(ix.length==vs.length) by rw[bne,bMg],vS,bd_s,show((ix.length:Int)==0)=(ix.length==0) by rw[show(0:Int)=((0:Nat):Int) from rfl,bMg]];cases hc:(!(ix.length==vs.length)||ix.length==0) with
 |true=>rfl
 |false=>
  simp only[bz,dc,cU,cm] at hc;have hlen:=hc.1;rw[ah,cV];rw[fA (l:=ix) (mH ix vs) (.inl ((0:Int),false)) (.inr ()) (by omega) (λrec i hi=>by
   simp only[bZ hi,ac,aI hi,aI (show i<vs.length by omega),bd_s,vS];unfold mH;rw[getD_at (show i<vs.length by omega)];cases bD ix[i] 1 7 with
   |false=>rfl
   |true=>
    cases iI (vs[i]'(by omega)) with
    |false=>rfl
    |true=>
     simp only[bf,Bool.or_self,ah,cV];rw[q8 (f:=λq=>q) hi (by omega) (.inl (.inl ((0:Int),false))) (.inr ()) (λrec' j hj=>by
      simp only[bZ hj,ac,aI (show j<ix.length by omega),bd_s]) (λrec'=>by simp only[qV,ah])]
     cases Bt (λq=>q) ix i ix[i]<;>rfl) (λrec=>by simp only[qV,ah])]
  cases dP (mH ix vs) 0 ix with
  |true=>rfl
  |false=>
   simp only[ah,nx_r];rw[Af (τ:=Int) (s:=((1:Int),(0:Nat))) (λi (s:Int×Nat)=>s=((List.range i).foldl (λo i=>gX o (dJ (vs.getD i 0) (tH ix (i:Int) 0))) 1,i)) ix.length (some (aXj ix vs)) (by omega) rfl (λi s rec hi hv=> ?_) (λs rec hv=> ?_)]
   ·rfl
   ·left;subst hv;refine⟨_,rfl,?_⟩;rw[Wm];simp only[bZ hi,ac,aI (show i<vs.length by omega),bd_s,aB h.1,getD_at (show i<vs.length by omega)]
   ·subst hv;simp only[qV,ah];unfold aXj;rw[hlen]
def aA9 (hs:List AB)(a:List Int)(h:hs.length<=34359738368/\a.length<=34359738368):Cq hs a=some (fU hs a):=by
 unfold Cq fU;rw[fA (l:=a) (Lg hs a) (.inl false) (.inr ()) (by omega) (λrec i hi=>by
  simp only[bZ hi,ac,aI hi,bd_s];rw[Zz h.1];unfold Lg;cases(decide (a[i]<0)||decide (a[i]>=(hs.length:Int))) with
  |true=>rfl
  |false=>
   simp only[ah,cV];rw[q8 (f:=λq=>q) hi (by omega) (.inl (.inl false)) (.inr ()) (λrec' j hj=>by
    simp only[bZ hj,ac,aI (show j<a.length by omega),bd_s]) (λrec'=>by simp only[qV,ah])]
   cases Bt (λq=>q) a i a[i]<;>rfl) (λrec=>by simp only[qV,ah])]
 cases dP (Lg hs a) 0 a<;>rfl
def aLo (hs:List AB)(a:List Int)(pin b:Int)(h:hs.length<=34359738368/\a.length<=34359738368):Ty hs a pin b=some (Y7 hs a pin b):=by unfold Ty Y7 fU;rw[fA (l:=a) (Lg hs a) (.inl false) (.inr ()) (by omega) (by grind[bZ,aI,bd_s,aB,iQ,Int.toNat_natCast,List.take,List.length_take,Lg,Bt,bd,decide,gT]) (by simp)];rw[bne];cases dP (Lg hs a) 0 a<;>cases bJ b 1019==0<;>rfl
def aLp (hs:List AB)(a:List Int)(e:Int)(h:(mF AB.sz hs<=34000000000/\a.length<=100000000)/\fU hs a=true):Tt hs a e=some (gW hs a e):=by
 obtain⟨⟨h1,h2⟩,b⟩:=h;unfold Tt;rw[aB (show mF AB.sz hs<=34359738368 by omega),bd_s];rw[Af (τ:=List Int×List Int×List AB) (s:=(([]:List Int),([]:List Int),(0:Nat),hs)) (λi (s:List Int×List Int×Nat×List AB)=>s=((iJ e hs a i).2.1,(iJ e hs a i).2.2,i,(iJ e hs a i).1)) a.length
  (some ((gW hs a e).2.1,(gW hs a e).2.2,(gW hs a e).1)) (by omega) rfl (λi s rec hi hv=> ?_) (λs rec hv=> ?_)]
 ·rfl
 ·left;subst hv;refine⟨_,rfl,?_⟩;have c:=Fh (e:=e) b i (by omega);have hc:=Bu b hi;rw[qZ hi];generalize iJ e hs a i=s at*;obtain⟨q1,q2,q3,q4⟩:=c;have hk:a[i].toNat<s.1.length:=by omega
  have hg:s.1.getD a[i].toNat default=s.1[a[i].toNat]:=by simp[List.getD,aa hk]
  have d:aW s.1 a[i]=some s.1[a[i].toNat]:=xY hc.1 hk;have l:=q2 _ (ce hk);have f:=l;simp only[AB.sz] at f;simp only[bZ hi,ac,aI hi,bd_s,d];unfold aK7 lN;rw[hg];generalize s.1[a[i].toNat]=x at*;simp only[vS,bd_s];cases hb:(decide (iE x.State<x.Monotonic)|| !(dB x.State e).2.2) with
  |true=>simp only[ac,ah,aB (show x.sz<=34359738368 by omega),bd_s]
  |false=>
   simp only[ah,ac,bo];rw[aB (show aL ([]:List AU) x.Saved by unfold aL;simp only[bn];omega),aB (show aL x.Saved [x.State] by unfold aL;simp only[au,bn];omega)];have j:∀y:Int,aL s.2.1 [y]:=λy=>by unfold aL;simp only[au,bn];omega
   have k:∀y:Int,aL s.2.2 [y]:=λy=>by unfold aL;simp only[au,bn];omega
   unfold bDi;cases hd:decide (((x.Saved++[x.State]).length:Int)>30) with
   |false=>simp only[ah,aB (j _),aB (k _),bd_s]
   |true=>have:=of_decide_eq_true hd;simp only[ac,aB (show iQ (x.Saved++[x.State]) 1 from⟨by omega,by omega⟩),aB (j _),aB (k _),bd_s];rfl
 ·subst hv;simp only[qV,ah];unfold iJ gW;rw[cI]
def aQc {e:Int}{hs:List AB}{a:List Int}(h:fU hs a=true):AskIn (mF AB.sz hs) hs a.length (gW hs a e):=by have:=Fh (e:=e) h a.length (ak _);unfold iJ at this;rw[cI] at this;exact this
def aX7 (hs:List AB):hs.length<=mF AB.sz hs:=by simp
def J2 (v:AS)(hs:List AB)(a:List Int)(pin b:Int)(h:mF AB.sz hs<=34000000000/\a.length<=100000000):yX v hs a pin b=some (jT v hs a pin b):=by
 have hl:=aX7 hs;unfold yX jT Y7;rw[aB (show hs.length<=34359738368/\a.length<=34359738368 by omega),bd_s];cases hc:fU hs a with
 |false=>simp only[aB (show mF AB.sz hs<=34359738368 by omega),bd_s];rfl
 |true=>
  simp only[bf,ah,vS,bd_s,d8];rw[show(!(!(bJ b 1019==0)&&bD pin 0 9999))=(bJ b 1019==0|| !bD pin 0 9999) by rw[Bool.not_and,Bool.not_not]];cases(bJ b 1019==0|| !bD pin 0 9999) with
  |true=>simp only[aB (show mF AB.sz hs<=34359738368 by omega),bd_s,ac]
  |false=>obtain⟨q1,q2,q3,q4⟩:=aQc (e:=bP v.Salt pin b) hc;simp only[ah];rw[aB ⟨⟨h.1,h.2⟩,trivial⟩,bd_s,aB (show(gW hs a (bP v.Salt pin b)).2.1.length<=34359738368/\(gW hs a (bP v.Salt pin b)).2.2.length<=34359738368 by omega),bd_s];unfold gY;generalize gW hs a (bP v.Salt pin b)=r at*;rw[show decide ((r.2.2.length:Int)<(a.length:Int))=decide (r.2.2.length<a.length) by rw[cT];omega];cases decide ((a.length:Int)<v.Threshold)<;>cases decide (r.2.2.length<a.length)<;>cases(iM r.2.1 r.2.2).2<;>rfl
def J3 (v:AS)(hs:List AB)(a:List Int)(pin b:Int)(h:mF AB.sz hs<=34000000000/\a.length<=100000000):zG v hs a pin b=some (aXm v hs a pin b):=by
 have hl:=aX7 hs;unfold zG aXm jT bDj;rw[aB (by omega),bd_s,aB (by omega),bd_s];cases hm:Y7 hs a pin b with
 |false=>rfl
 |true=>
  have hc:fU hs a=true:=by
   grind[Y7]
  simp only[bf,ah,bd_s,d8];have main:EV.bG (α:=List Int×List Int×Bool×List AB) FUEL (λj (c:(List Int×List Int×Bool×Nat×List AB))=>bif (decide ((↑c.2.2.2.1:Int)<(↑a.length:Int))) then(bd (aW a (↑c.2.2.2.1:Int)) λk=>bd (aW (c.2.2.2.2) k) λp=>bd (gd (p.sz<=34359738300) (some (lN p (bP v.Salt pin b)))) λf=>bd (aW (c.2.2.2.2) k) λG=>bd (bif (c.2.2.1) then(some (f.2.2)) else(some (false))) λt=>gd (aL c.1 [f.1.State.aAM.Index]) (gd (aL c.2.1 [f.2.1]) (j ((c.1++[f.1.State.aAM.Index],c.2.1++[f.2.1],t,(c.2.2.2.1+1),c.2.2.2.2.set k.toNat f.1))))) else(some (c.1,c.2.1,c.2.2.1,c.2.2.2.2))) ([],[],true,0,hs)
    =some (aXk v hs a pin b,aXl v hs a pin b,(gY v hs a pin b).2.2.length==a.length,(gY v hs a pin b).1)/\((gY v hs a pin b).2.2.length=a.length->aXk v hs a pin b=(gY v hs a pin b).2.1/\aXl v hs a pin b=(gY v hs a pin b).2.2)/\(aXk v hs a pin b).length=a.length/\(aXl v hs a pin b).length=a.length:=by
   have st:∀i,i<=a.length->∃ix vs,EV.bG (α:=List Int×List Int×Bool×List AB) 0 (λ_ _=>none) (ix,vs,true,0,hs)=none/\ix.length=i/\vs.length=i/\(((iJ (bP v.Salt pin b) hs a i).2.2.length=i)->ix=(iJ (bP v.Salt pin b) hs a i).2.1/\vs=(iJ (bP v.Salt pin b) hs a i).2.2)/\ix=oL v hs a pin b i/\vs=oM v hs a pin b i:=λi hi=>by
    refine⟨oL v hs a pin b i,oM v hs a pin b i,rfl,?_,?_,?_,rfl,rfl⟩
    ·simp[oL]
    ·simp[oM]
    ·intro he;induction i with
     |zero=>exact⟨rfl,rfl⟩
     |succ i H=>
      have d:=Fh (e:=bP v.Salt pin b) hc i (by omega);rw[qZ hi] at he ⊢;unfold oL oM;rw[ef,cQ,cQ];simp only[bh,fu];have l:yG v hs a pin b i=lN ((iJ (bP v.Salt pin b) hs a i).1.getD (a[i]).toNat default) (bP v.Salt pin b):=by unfold yG;rw[getD_at hi];rfl
      rw[l];unfold aK7 at he ⊢;cases hb:(lN ((iJ (bP v.Salt pin b) hs a i).1.getD (a[i]).toNat default) (bP v.Salt pin b)).2.2 with
      |false=>
       rw[hb] at he;have:=d.le
       grind
      |true=>
       grind[oM,oL,List.length_append,List.length_cons,List.length_nil]
   have all:∀i,i<=a.length->(iJ (bP v.Salt pin b) hs a i).2.2.length<=i:=λi hi=>(Fh hc i hi).le;have eAll:iJ (bP v.Salt pin b) hs a a.length=gY v hs a pin b:=by unfold iJ gY gW;rw[cI]
   refine⟨?_,?_,?_,?_⟩
   ·rw[Af (τ:=List Int×List Int×Bool×List AB) (s:=(([]:List Int),([]:List Int),true,(0:Nat),hs)) (λi (s:List Int×List Int×Bool×Nat×List AB)=>s=(oL v hs a pin b i,oM v hs a pin b i,(iJ (bP v.Salt pin b) hs a i).2.2.length==i,i,(iJ (bP v.Salt pin b) hs a i).1)) a.length
     (some (aXk v hs a pin b,aXl v hs a pin b,(gY v hs a pin b).2.2.length==a.length,(gY v hs a pin b).1)) (by omega) rfl (λi s rec hi hv=> ?_) (λs rec hv=> ?_)]
    ·left;subst hv;refine⟨_,rfl,?_⟩;have d:=Fh (e:=bP v.Salt pin b) hc i (by omega);have m:=Bu hc hi;have l:yG v hs a pin b i=lN ((iJ (bP v.Salt pin b) hs a i).1.getD (a[i]).toNat default) (bP v.Salt pin b):=by unfold yG;rw[getD_at hi];rfl
     have u:oL v hs a pin b (i+1)=oL v hs a pin b i++[(yG v hs a pin b i).1.State.aAM.Index]:=by simp[ef,cQ,oL]
     have w:oM v hs a pin b (i+1)=oM v hs a pin b i++[(yG v hs a pin b i).2.1]:=by simp[ef,cQ,oM]
     have l1:(oL v hs a pin b i).length=i:=by grind
     have l2:(oM v hs a pin b i).length=i:=by grind
     rw[u,w,l,qZ hi];generalize oL v hs a pin b i=ix at*;generalize oM v hs a pin b i=vs at*;generalize iJ (bP v.Salt pin b) hs a i=s at*;obtain⟨q1,q2,q3,q4⟩:=d;have hk:a[i].toNat<s.1.length:=by omega
     have hg:s.1.getD a[i].toNat default=s.1[a[i].toNat]:=by simp[*]
     have n:aW s.1 a[i]=some s.1[a[i].toNat]:=xY m.1 hk;have I:=q2 _ (ce hk);simp only[bZ hi,ac,aI hi,bd_s,n];unfold aK7;rw[hg];generalize s.1[a[i].toNat]=x at*;rw[aB (by omega),bd_s];have z:∀y:Int,aL ix [y]:=(by grind[aL,List.length_cons,List.length_nil]);have A:∀y:Int,aL vs [y]:=(by grind[aL,List.length_cons,List.length_nil]);rw[Ez,bd_s,aB (z _),aB (A _)];have o:(bif s.2.2.length==i then(lN x (bP v.Salt pin b)).2.2 else false)=((bif (lN x (bP v.Salt pin b)).2.2 then s.2.2++[(lN x (bP v.Salt pin b)).2.1] else s.2.2).length==i+1):=by
      grind
     rw[o]
    ·subst hv;simp only[qV,ah];rw[eAll];rfl
   ·intro he;obtain⟨ix,vs,_,_,_,r,B,D⟩:=st a.length (ak _);rw[eAll] at r;have:=r he;rw[B,D] at this;exact this
   ·show(oL v hs a pin b a.length).length=_;simp[oL]
   ·show(oM v hs a pin b a.length).length=_;simp[oM]
  obtain⟨F,J,K,L⟩:=main;rw[F,bd_s];have q:=aQc (e:=bP v.Salt pin b) hc;have hq:(gY v hs a pin b).2.2.length<=a.length:=q.le
  grind[gY,beq_eq_false_iff_ne,decide_eq_true,decide,n1,n2,decide_eq_false,aB,bd_s,iM,vS]
def J4 (v:AS)(hs:List AB)(a:List Int)(pin b:Int)(h:mF AB.sz hs<=34000000000/\a.length<=100000000):zH v hs a pin b=some (jT v hs a pin b):=by unfold zH;rw[aB h];rfl
def bEf (w:AA):mF AB.sz w.Hosts<=w.sz/\w.Mail.sz<=w.sz:=by
 grind[AA.sz,AM.sz]
def Qz (w:AA)(a:List Int)(pin:Int)(h:w.sz<=34000000000/\a.length<=100000000):uG w a pin=some (bL w a pin):=by
 obtain⟨q1,q2⟩:=bEf w;unfold uG bL;rw[aB (show w.sz<=34359738368 by omega),bd_s,aB (show w.sz<=34359738368 by omega),bd_s];cases aX w with
 |false=>rfl
 |true=>rw[aB (by simp),bd_s,aB (by decide),aB (show mF AB.sz w.Hosts<=34000000000/\a.length<=100000000 by omega),bd_s,aB (show w.Mail.sz<=34359738300 by omega),bd_s];rfl
def Ra (w:AA)(a:List Int)(pin:Int)(h:w.sz<=34000000000/\a.length<=100000000):uJ w a pin=some (bL w a pin):=by
 obtain⟨q1,q2⟩:=bEf w;unfold uJ bL;rw[aB (by omega),bd_s,aB (by omega),bd_s];cases aX w with
 |false=>rfl
 |true=>rw[aB (by simp),bd_s,aB (by decide),aB (by omega),bd_s,aB (by omega),bd_s];rfl
def aVw (l:List Int):aVm l=some (aZ4 l):=rfl
def bAo (l:List Int)(i:Int)(h:0<=i):aN6 l i=some (atF l i):=by
 unfold aN6 atF;by_cases hi:i<(l.length:Int)
 ·rw[ap hi,ac,ac,vT h (by omega)];rfl
 ·rw[ax hi];rfl
def aJa (a b:List AD)(h:nA a.length a b/\a.length<=34359738368):Nb a b=some true:=by
 obtain⟨⟨rfl,_⟩,hl⟩:=h;unfold Nb;have:dY a a=true:=by
  unfold dY;rw[ap (ak _),d8,cu];have key:∀(l r:List AD) (i:Nat),a=l++r->l.length=i->dP (λi e=> !aUz (a.getD i default) e) i r=false:=by
   intro l r;induction r generalizing l with
   |nil=>intro i _ _;rfl
   |cons x r c=>
    intro i he hi;have d:a.getD i default=x:=by rw[he,<-hi];simp
    have hr:aUz x x=true:=by unfold aUz;simp
    rw[dP,d,hr];simpa using c (l++[x]) (i+1) (by simpa using he) (by simp[hi])
  exact key [] a 0 rfl rfl
 rw[eo,ac,aB hl,this];rfl
def Rb (a b:AE)(h:nA a.sz a b/\a.sz<=34359738368):uK a b=some true:=by obtain⟨⟨rfl,_⟩,c⟩:=h;have hl:a.Entries.length<=34359738368:=c;unfold uK;rw[cL,ah,qW (a:=a.Entries) (by omega) (λrec i hi=>by simp[hi,aI hi]) (λrec=>by simp)];rfl
def Rc (a b:AC)(h:nA a.sz a b/\a.sz<=34359738368):uL a b=some true:=by
 obtain⟨⟨rfl,_⟩,c⟩:=h;have h1:a.Log.length<=34359738368:=by simp only[AC.sz] at c;omega
 have h2:a.aAF.sz<=34359738368:=by simp only[AC.sz,AE.sz] at c ⊢;omega
 unfold uL;simp[aB (show nA a.Log.length a.Log a.Log/\a.Log.length<=34359738368 from⟨⟨rfl,by omega⟩,h1⟩),aB (show nA a.aAF.sz a.aAF a.aAF/\a.aAF.sz<=34359738368 from⟨⟨rfl,by omega⟩,h2⟩),bd]
def J5 (a b:AQ)(h:nA a.sz a b/\a.sz<=34359738368):zJ a b=some true:=by obtain⟨⟨rfl,_⟩,c⟩:=h;have hl:a.Open.length<=34359738368:=c;unfold zJ;simp only[cL,ah,bd_s];rw[qW (a:=a.Open) (by omega) (λrec i hi=>by simp[hi,aI hi]) (λrec=>by simp)];rfl
def aBa (a b:List Int)(h:nA a.length a b/\a.length<=34359738368):Di a b=some true:=by obtain⟨⟨rfl,_⟩,hl⟩:=h;unfold Di;rw[cL,ah,qW (a:=a) (by omega) (λrec i hi=>by simp[hi,aI hi]) (λrec=>by simp)];rfl
def Nn (a b:AJ)(h:nA a.sz a b/\a.sz<=34359738368):sS a b=some true:=by obtain⟨⟨rfl,_⟩,c⟩:=h;have hl:a.Credentials.length<=34359738368:=c;unfold sS;simp only[cL,ah,bd_s];rw[qW (a:=a.Credentials) (by omega) (λrec i hi=>by simp[hi,aI hi]) (λrec=>by simp)];rfl
def aOl {α:Type}{f:α->Nat}{l:List α}{i:Nat}(hi:i<l.length):f l[i]<=(l.map f).sum:=by
 induction l generalizing i with
 |nil=>simp at hi
 |cons x l a=>
  cases i with
  |zero=>simp
  |succ i=>have:=a (i:=i) (by simpa using hi);simp only[eR,bh,du];omega
def J6 (a b:AF)(h:nA a.sz a b/\a.sz<=34359738368):zK a b=some true:=by
 obtain⟨⟨rfl,_⟩,c⟩:=h;have h1:a.Book.sz<=34359738368:=by simp only[AF.sz,AQ.sz] at c ⊢;omega
 have h2:a.Logins.length<=34359738368:=by simp only[AF.sz] at c;omega
 have e:a.Accounts.length<=34359738368:=by simp only[AF.sz] at c;omega
 have d:∀i (hi:i<a.Accounts.length),a.Accounts[i].sz<=34359738368:=λi hi=>by
  have:=aOl (f:=AJ.sz) hi;simp only[AF.sz] at c;omega
 unfold zK;simp only[eo,bf,cL,ah,bd_s,aB (show nA a.Book.sz a.Book a.Book/\a.Book.sz<=34359738368 from⟨⟨rfl,by omega⟩,h1⟩),aB (show nA a.Logins.length a.Logins a.Logins/\a.Logins.length<=34359738368 from⟨⟨rfl,by omega⟩,h2⟩)];rw[qW (a:=a.Accounts) (by omega) (λrec i hi=>by
  have:=d i hi;simp[hi,aI hi,aB (show nA a.Accounts[i].sz a.Accounts[i] a.Accounts[i]/\a.Accounts[i].sz<=34359738368 from⟨⟨rfl,by omega⟩,this⟩),bd]) (λrec=>by simp)];rfl
def J7 (a b:AN)(h:nA a.sz a b/\aR a.Data):zL a b=some true:=by obtain⟨⟨rfl,_⟩,hb⟩:=h;unfold zL;simp[aB hb,bd]
def Fv (a b:AK)(h:nA a.sz a b/\(a.sz<=34359738368/\aSy a)):oZ a b=some true:=by
 obtain⟨⟨rfl,_⟩,c,hb⟩:=h;have e:a.Boxes.length<=34359738368:=by simp only[AK.sz] at c;omega
 have d:∀i (hi:i<a.Boxes.length),a.Boxes[i].sz<=34359738368:=λi hi=>by
  have:=aOl (f:=AN.sz) hi;simp only[AK.sz] at c;omega
 unfold oZ;simp only[cL,ah,bd_s];rw[qW (a:=a.Boxes) (by omega) (λrec i hi=>by
  have:=d i hi;simp[hi,aI hi,aB (show nA a.Boxes[i].sz a.Boxes[i] a.Boxes[i]/\aR a.Boxes[i].Data from⟨⟨rfl,by omega⟩,hb _ (ce hi)⟩),bd]) (λrec=>by simp)];rfl
def Wn (a b:AH)(h:nA a.sz a b/\aR a.Data):wW a b=some true:=by obtain⟨⟨rfl,_⟩,hb⟩:=h;unfold wW;simp[aB hb,bd]
def Wp (a b:AL)(h:nA a.sz a b/\(a.sz<=34359738368/\tJ a)):wX a b=some true:=by
 obtain⟨⟨rfl,_⟩,c,hb⟩:=h;have h1:a.Log.length<=34359738368:=by simp only[AL.sz] at c;omega
 have h2:a.Boxes.sz<=34359738368:=by simp only[AL.sz,AK.sz] at c ⊢;omega
 have e:a.History.length<=34359738368:=by simp only[AL.sz] at c;omega
 have d:∀i (hi:i<a.History.length),a.History[i].sz<=34359738368:=λi hi=>by
  have:=aOl (f:=AH.sz) hi;simp only[AL.sz] at c;omega
 unfold wX;simp only[aB (show nA a.Log.length a.Log a.Log/\a.Log.length<=34359738368 from⟨⟨rfl,by omega⟩,h1⟩),aB (show nA a.Boxes.sz a.Boxes a.Boxes/\(a.Boxes.sz<=34359738368/\aSy a.Boxes) from⟨⟨rfl,by omega⟩,h2,hb.1⟩),bd_s,bf,ah,cL];rw[qW (a:=a.History) (by omega) (λrec i hi=>by
  have:=d i hi;simp[hi,aI hi,aB (show nA a.History[i].sz a.History[i] a.History[i]/\aR a.History[i].Data from⟨⟨rfl,by omega⟩,hb.2 _ (ce hi)⟩),bd]) (λrec=>by simp)];rfl
def J8 (a b:AB)(h:nA a.sz a b/\a.sz<=34359738368):zM a b=some true:=by obtain⟨⟨rfl,_⟩,c⟩:=h;have hl:a.Saved.length<=34359738368:=c;unfold zM;simp only[eo,dm,fy,bf,cL,ah,bd_s];rw[qW (a:=a.Saved) (by omega) (λrec i hi=>by simp[hi,aI hi]) (λrec=>by simp)];rfl
def Fw (a b:List AB)(h:nA (mF AB.sz a) a b/\mF AB.sz a<=34359738368):pE a b=some true:=by
 obtain⟨⟨rfl,_⟩,c⟩:=h;have hl:a.length<=34359738368:=by unfold mF at c;omega
 have d:∀i (hi:i<a.length),a[i].sz<=34359738368:=λi hi=>by
  have:=aOl (f:=AB.sz) hi;unfold mF at c;omega
 unfold pE;rw[cL,ah,qW (a:=a) (by omega) (λrec i hi=>by
  have:=d i hi;simp[hi,aI hi,aB (show nA a[i].sz a[i] a[i]/\a[i].sz<=34359738368 from⟨⟨rfl,by omega⟩,this⟩),bd]) (λrec=>by simp)];rfl
def Iz (a b:AM)(h:nA a.sz a b/\a.sz<=34359738368):qJ a b=some true:=by obtain⟨⟨rfl,_⟩,c⟩:=h;have hl:a.Notices.length<=34359738368:=c;unfold qJ;rw[cL,ah,qW (a:=a.Notices) (by omega) (λrec i hi=>by simp[hi,aI hi]) (λrec=>by simp)];rfl
def Wq (a b:AA)(h:nA a.sz a b/\(a.sz<=34359738368/\tJ a.aAH)):wY a b=some true:=by
 obtain⟨⟨rfl,_⟩,c,hb⟩:=h;have h1:a.Devices.length<=34359738368/\a.Stolen.length<=34359738368/\a.Sites.length<=34359738368/\a.aAH.sz<=34359738368/\mF AB.sz a.Hosts<=34359738368/\a.Mail.sz<=34359738368:=by simp only[AA.sz,AL.sz,AK.sz,AM.sz,mF] at c ⊢;omega
 have d:∀i (hi:i<a.Devices.length),a.Devices[i].sz<=34359738368:=λi hi=>by
  have:=aOl (f:=AC.sz) hi;simp only[AA.sz] at c;omega
 have e:∀i (hi:i<a.Sites.length),a.Sites[i].sz<=34359738368:=λi hi=>by
  have:=aOl (f:=AF.sz) hi;simp only[AA.sz] at c;omega
 unfold wY;simp only[cL,eo,dm,fy,bf,ah,bd_s];rw[qW (a:=a.Devices) (by omega) (λrec i hi=>by
  have:=d i hi;simp[hi,aI hi,aB (show nA a.Devices[i].sz a.Devices[i] a.Devices[i]/\a.Devices[i].sz<=34359738368 from⟨⟨rfl,by omega⟩,this⟩),bd]) (λrec=>by simp),nx_r]
 rw[qW (a:=a.Stolen) (by omega) (λrec i hi=>by simp[hi,aI hi]) (λrec=>by simp),nx_r];rw[qW (a:=a.Sites) (by omega) (λrec i hi=>by
  have:=e i hi;simp[hi,aI hi,aB (show nA a.Sites[i].sz a.Sites[i] a.Sites[i]/\a.Sites[i].sz<=34359738368 from⟨⟨rfl,by omega⟩,this⟩),bd]) (λrec=>by simp),nx_r]
 simp only[aB (show nA a.aAH.sz a.aAH a.aAH/\(a.aAH.sz<=34359738368/\tJ a.aAH) from⟨⟨rfl,by omega⟩,h1.2.2.2.1,hb⟩),aB (show nA (mF AB.sz a.Hosts) a.Hosts a.Hosts/\mF AB.sz a.Hosts<=34359738368 from⟨⟨rfl,by omega⟩,h1.2.2.2.2.1⟩),aB (show nA a.Mail.sz a.Mail a.Mail/\a.Mail.sz<=34359738368 from⟨⟨rfl,by omega⟩,h1.2.2.2.2.2⟩),bd_s,ac]
def bEg (x:Int):0<=mR IntKind.i64 x 255/\mR IntKind.i64 x 255<=255:=by
 unfold mR;rw[BitVec.toNat_and];have h:((BitVec.ofInt IntKind.i64.bits x).toNat&&&(BitVec.ofInt IntKind.i64.bits 255).toNat)<=255:=bl Nat.and_le_right (by decide)
 grind[aH]
theorem aFu {c:AG}(h:aP c):aP (jI c).1/\0<=(jI c).2/\(jI c).2<=255:=by
 unfold jI;obtain⟨h1,h2⟩:=h;cases hc:decide (c.i<(c.b.length:Int)) with
 |true=>
  have hc:=of_decide_eq_true hc;refine⟨⟨?_,h2⟩,bEg _⟩
  grind[aH]
 |false=>exact⟨⟨h1,h2⟩,bEg _⟩
theorem lQ {c:AG}(h:aP c)(n:Int):aP (bS c n).1/\0<=(bS c n).2/\(0<n->(bS c n).2<n)/\(n<=0->(bS c n).2=0):=by
 obtain⟨h1,h2,a⟩:=aFu h;obtain⟨k1,k2,k3⟩:=aFu h1;obtain⟨l1,l2,b⟩:=aFu k1;unfold bS;by_cases hn:n<=0
 ·simp[*]
 ·rw[ax hn];have hn:0<n:=by omega
  simp only[ah];by_cases hb:n<=256
  ·simp_all[eJ,ey,absurd,ap];omega
  ·rw[ax hb];simp only[ah];generalize(jI c).2=x at*;generalize(jI (jI c).1).2=y at*;generalize(jI (jI (jI c).1).1).2=z at*;rw[aH (show-9223372036854775808<=x*65536 by omega) (by omega),aH (show-9223372036854775808<=y*256 by omega) (by omega),aH (show-9223372036854775808<=x*65536+y*256 by omega) (by omega),aH (by omega) (by omega)];exact⟨l1,eJ n (by omega),λ_=>ey _ hn,λq=>absurd q (by omega)⟩
def aLq (c:AG)(h:aP c):Tf c=some (jI c):=by
 unfold Tf jI;rw[aB (by decide),aB (by decide)];cases hc:decide (c.i<(c.b.length:Int)) with
 |true=>have hc:=of_decide_eq_true hc;have h0:=h.1;rw[ac,ac,xY h0 (by omega),List.getD,aa (show c.i.toNat<c.b.length by omega)];rfl
 |false=>rfl
def aJb (c:AG)(n:Int)(h:aP c):Li c n=some (bS c n):=by
 grind[decide_eq_false,decide_eq_true,aB,bd_s,Li,bS,aFu]
def aLr (c:AG)(n:Int)(h:aP c):Tu c n=some (iZ c n):=by unfold Tu;rw[aB h];rfl
theorem aVx {c:AG}(h:aP c)(l:List Int):aP (tK c l).1/\(0<l.length->(tK c l).2∈l):=by
 grind[List.getElem_mem,List.getD,List.getElem?_eq_getElem,bS,tK,lQ]
def aQd (c:AG)(l:List Int)(h:aP c/\0<l.length):y9 c l=some (tK c l):=by obtain⟨_,h2,a,_⟩:=lQ h.1 (l.length:Int);have a:=a (by have:=h.2;omega);unfold y9;rw[aB h.1,bd_s,vT h2 a];rfl
def bG2 {c:AG}(h:aP c):aP (aHv c).1:=by
 grind[iZ,aVx,lQ,aHv,aP]
def aQe (c:AG)(h:aP c):A7 c=some (aHv c):=by
 have h1:aP (iZ c 10).1:=(lQ h 10).1;unfold A7;refine aX6 (a:=iZ c 10) (aB h) ?_;unfold aHv;cases(iZ c 10).2 with
 |true=>exact aX6 (a:=tK (iZ c 10).1 [0,-1,1,2147483646,2147483647]) (aB ⟨h1,by decide⟩) rfl
 |false=>exact aX6 (a:=bS (iZ c 10).1 99999) (aB h1) rfl
def bKg (n k t pin seed:Int):(aT n k t pin seed).Hosts.length<=7:=by
 unfold aT;cases Qg n k t pin seed with
 |false=>exact cr _
 |true=>exact(p8 pin 7 (aJ seed [283]) (IntKind.i64.wrap (1+(aJ seed [293]).tmod 1018)) (Ff seed t) k 5).1
def bOc:List (Int×Int):=[(387010709,0),(387010709,1),(387010709,2),(387010709,3)]
structure NewIn (n:Nat) (s:Int) (w:AA):Prop where
 ok:aX w=true
 len:w.Devices.length=n
 dev:∀i (hi:i<n),w.Devices[i]? =some (aTc s n i 1 (nwB n))
 acc:∀j (hj:j<2),∃x l,w.Sites[j]? =some x/\x.Accounts=[⟨1,3,l⟩]/\l.length=n
 two:w.Sites.length=2
 list:∀i:Nat,i<n->uX w (i:Int)=true
 no:uX w (n:Int)=false
section
variable {ρ σ τ S:Type}
def Ex (x:Option τ)(Q:τ->Prop):Prop:=∃r,x=some r/\Q r
def eD {Q:τ->Prop}{r:τ}(h:Q r):Ex (some r) Q:=⟨r,rfl,h⟩
def bdE {x:Option σ}{f:σ->Option τ}(P:σ->Prop){Q:τ->Prop}(h:Ex x P)(k:∀r,P r->Ex (f r) Q):Ex (bd x f) Q:=by obtain⟨r,rfl,p⟩:=h;exact k r p
def gdE {c:Prop}[Decidable c]{x:Option τ}{Q:τ->Prop}(h:c)(k:Ex x Q):Ex (gd c x) Q:=by rw[aB h];exact k
def bgE {c:Prop}[Decidable c]{v:σ}{f:σ->Option τ}{Q:τ->Prop}(h:c)(k:Ex (f v) Q):Ex (bd (gd c (some v)) f) Q:=by rw[aB h];exact k
def rD {c:Bool}{x y:Option τ}{Q:τ->Prop}(h:c=true->Ex x Q)(k:c=false->Ex y Q):Ex (bif c then x else y) Q:=by
 cases c with
 |true=>exact h rfl
 |false=>exact k rfl
def blE {c:AG}{n:Int}{f:AG×Int->Option τ}{Q:τ->Prop}(h:aP c)(k:∀a v,aP a->0<=v->(0<n->v<n)->Ex (f (a,v)) Q):Ex (bd (gd (aP c) (some (bS c n))) f) Q:=
 bgE h (k _ _ (lQ h n).1 (lQ h n).2.1 (lQ h n).2.2.1)
def onE {c:AG}{n:Int}{f:AG×Bool->Option τ}{Q:τ->Prop}(h:aP c)(k:∀a v,aP a->Ex (f (a,v)) Q):Ex (bd (gd (aP c) (some (iZ c n))) f) Q:=
 bgE h (k (iZ c n).1 (iZ c n).2 (lQ h n).1)
def inE {c:AG}{l:List Int}{f:AG×Int->Option τ}{Q:τ->Prop}(h:aP c)(hl:0<l.length)(k:∀a v,aP a->v∈l->Ex (f (a,v)) Q):Ex (bd (gd (aP c/\0<l.length) (some (tK c l))) f) Q:=
 bgE ⟨h,hl⟩ (k _ _ (aVx h l).1 ((aVx h l).2 hl))
def St (V:Nat->S->Prop)(Q:τ->Prop)(i:Nat)(rec:S->Option τ)(x:Option τ):Prop:=(∃s',V (i+1) s'/\x=rec s')\/Ex x Q
section
variable {V:Nat->S->Prop} {Q:τ->Prop} {i:Nat} {rec:S->Option τ}
def aVy {s:S}(h:V (i+1) s):St V Q i rec (rec s):= .inl ⟨s,h,rfl⟩
def bdS {x:Option σ}{f:σ->Option τ}(P:σ->Prop)(h:Ex x P)(k:∀r,P r->St V Q i rec (f r)):St V Q i rec (bd x f):=by obtain⟨r,rfl,p⟩:=h;exact k r p
def bgS {c:Prop}[Decidable c]{v:σ}{f:σ->Option τ}(h:c)(k:St V Q i rec (f v)):St V Q i rec (bd (gd c (some v)) f):=by rw[aB h];exact k
def bEi {c:Bool}{x y:Option τ}(h:c=true)(k:St V Q i rec x):St V Q i rec (bif c then x else y):=by rw[h];exact k
def blS {c:AG}{n:Int}{f:AG×Int->Option τ}(h:aP c)(k:∀a v,aP a->0<=v->(0<n->v<n)->St V Q i rec (f (a,v))):St V Q i rec (bd (gd (aP c) (some (bS c n))) f):=
 bgS h (k _ _ (lQ h n).1 (lQ h n).2.1 (lQ h n).2.2.1)
end
def aVz {F:(S->Option τ)->S->Option τ}(V:Nat->S->Prop)(N:Nat){Q:τ->Prop}{s:S}(a:N<=18446744073709551616)(h0:V 0 s)(step:∀i s rec,i<N->V i s->St V Q i rec (F rec s))(last:∀s rec,V N s->Ex (F rec s) Q):Ex (bG FUEL F s) Q:=
 bCu V N Q step last N 0 FUEL s (by omega) (by have:=gM;omega) h0
end
abbrev WU:=Int×Int×List AC×List Bool×List AD×Int×List AN×List AH×List AF×Int×Int×Int×Int×List AB×Int×List AP
def wT (w:AA):WU:=(w.Now,w.Seed,w.Devices,w.Stolen,w.aAH.Log,w.aAH.Boxes.Epoch,w.aAH.Boxes.Boxes,w.aAH.History,w.Sites,w.aAK.Salt,w.aAK.Threshold,w.aAK.Check,w.aAK.Masked,w.Hosts,w.Pin,w.Mail.Notices)
def aX8 (n k t pin seed:Int)(K:List Int)(L M:Int):Option (List Int×Int×Int×WU):=bd (bif !bD n 1 3 then some true else bif !bD k 1 7 then some true else bif !bD t 1 k then some true else bif !bD pin 0 9999 then some true else some (!bQ seed)) λO=>bif O then some (K,L,M,(0:Int),(0:Int),[],[],[],(0:Int),[],[],[],(0:Int),(0:Int),(0:Int),(0:Int),[],(0:Int),[]) else bd (bG (α:=List AD×List AC×List Bool) FUEL (λI (f:(List AD×Nat×List AC×List Bool))=>bif (↑f.2.1:Int)<n then gd (aL f.2.2.1 [AC.mk (AO.mk 1 ↑f.2.1 (aJ seed [277,↑f.2.1]) 0) [] 0 0 0 (AE.mk [])]) (gd (aL f.2.2.2 [false]) (bd (aW (f.2.2.1++[AC.mk (AO.mk 1 ↑f.2.1 (aJ seed [277,↑f.2.1]) 0) [] 0 0 0 (AE.mk [])]) 0) λw=>bd (gd (f.1.length<=34359738300) (some (jM f.1 1 (bO (AO.mk 1 ↑f.2.1 (aJ seed [277,↑f.2.1]) 0)) w.Store))) λx=>I (x.1,(f.2.1+1),f.2.2.1++[AC.mk (AO.mk 1 ↑f.2.1 (aJ seed [277,↑f.2.1]) 0) [] 0 0 0 (AE.mk [])],f.2.2.2++[false]))) else some (f.1,f.2.2)) ([],0,[],[])) λv=>bd (gd (v.1.length<=34359738300) (some (bK v.1 (bE seed 0) 1000))) λN=>bd (gd (v.1.length<=34359738368/\N.1.sz<=34359738368) (some (bT v.1 N.1))) λw=>bd (bG (α:=List AF) FUEL (λy (d:(List AF×Nat))=>bif (↑d.2:Int)<2 then bd (bd (gd ([(281:Int),(↑d.2:Int)].length<=34359738300) (some (aJ seed [281,↑d.2]))) λm=>bd (gd ((aA ↑d.2).size<=34359738368) (some (dR (aA ↑d.2) m))) λe=>bd (gd (e.sz<=34359738300) (some (iY e 1 3))) λl=>bd (bG (α:=ByteArray×List AJ×Int×Int×List AX×List Int) FUEL (λz (b:(Nat×ByteArray×List AJ×Int×Int×List AX×List Int))=>bif (↑b.1:Int)<v.2.1.length then bd (aW v.2.1 ↑b.1) λs=>bd (gd ((aA ↑d.2).size<=34359738300) (some (gI s.Store (aA ↑d.2) ↑b.1))) λp=>bd (gd ((AF.mk b.2.1 b.2.2.1 (AQ.mk b.2.2.2.1 b.2.2.2.2.1 b.2.2.2.2.2.1) b.2.2.2.2.2.2).sz<=34359738300) (some (iL (AF.mk b.2.1 b.2.2.1 (AQ.mk b.2.2.2.1 b.2.2.2.2.1 b.2.2.2.2.2.1) b.2.2.2.2.2.2) 1 ↑b.1 p))) λc=>z ((b.1+1),c.1.Name,c.1.Accounts,c.1.Book.Seed,c.1.Book.Next,c.1.Book.Open,c.1.Logins) else some b.2) (0,l.1.Name,l.1.Accounts,l.1.Book.Seed,l.1.Book.Next,l.1.Book.Open,l.1.Logins)) λa=>gd (aL d.1 [AF.mk a.1 a.2.1 (AQ.mk a.2.2.1 a.2.2.2.1 a.2.2.2.2.1) a.2.2.2.2.2]) (some (d.1++[AF.mk a.1 a.2.1 (AQ.mk a.2.2.1 a.2.2.2.1 a.2.2.2.2.1) a.2.2.2.2.2]))) λu=>y (u,(d.2+1)) else some d.1) ([],0)) λx=>bd (bG (α:=List AC) FUEL (λA (h:(Nat×List AC))=>bif (↑h.1:Int)<n then bd (aW h.2 ↑h.1) λm=>bd (gd (m.sz<=34359738368/\v.1.length<=34359738368) (some (nJ m v.1 (bE seed 0)))) λe=>bd (aW h.2 ↑h.1) λl=>A ((h.1+1),h.2.set (↑h.1:Int).toNat e.1) else some h.2) (0,v.2.1)) λJ=>bd (bG (α:=List AC) FUEL (λB (q:(Nat×List AC))=>bif (↑q.1:Int)<2 then bd (bG (α:=List AC) FUEL (λD (i16:(Nat×List AC))=>bif (↑i16.1:Int)<n then bd (aW i16.2 0) λa=>bd (gd (a.sz<=34359738360/\(aA ↑q.1).size<=34359738300) (some (fT a (aA ↑q.1) ↑i16.1 false))) λF=>bd (aW i16.2 0) λs=>D ((i16.1+1),i16.2.set (0:Int).toNat F.1) else some i16.2) (0,q.2)) λe=>B ((q.1+1),e) else some q.2) (0,J)) λu=>bd (aW u 0) λm=>bd (gd (m.sz<=34359738368) (some (jS m))) λe=>bd (aW u 0) λl=>bd (gd (w.1.sz<=34359738300/\e.2.1.sz<=34359738300) (some (dO w.1 e.2.1))) λa=>bd (bG (α:=List AC) FUEL (λG (j:(Int×List AC))=>bif j.1<n then bd (aW j.2 j.1) λp=>bd (gd (p.sz<=34359738100/\a.1.sz<=34359738100) (some (dD p a.1.Log a.1.Boxes (jR a.1 0).1))) λc=>bd (aW j.2 j.1) λr=>G (IntKind.i64.wrap (j.1+1),j.2.set j.1.toNat c.1) else some j.2) ((1:Int),u.set (0:Int).toNat e.1)) λF=>bd (bG (α:=List Int) FUEL (λH (o:(List Int×Int))=>bif o.2<t then bd (gd ([(307:Int),o.2].length<=34359738300) (some (aJ seed [307,o.2]))) λc=>gd (aL o.1 [c]) (H (o.1++[c],IntKind.i64.wrap (o.2+1))) else some o.1) ([],(1:Int))) λs=>bd (gd ([(283:Int)].length<=34359738300) (some (aJ seed [283]))) λp=>bd (gd ([(293:Int)].length<=34359738300) (some (aJ seed [293]))) λc=>gd ((1018:Int)≠(0:Int)) (bd (gd (s.length<=34359738368) (some (vX pin 7 p (IntKind.i64.wrap ((1:Int)+c.tmod (1018:Int))) s k 5))) λr=>some (K,L,M,(0:Int),seed,F,v.2.2,a.1.Log,a.1.Boxes.Epoch,a.1.Boxes.Boxes,a.1.History,x,r.1.Salt,r.1.Threshold,r.1.Check,r.1.Masked,r.2.1,pin,[]))
def bEj (n k t pin seed:Int)(u:List Int)(v w:Int):aX8 n k t pin seed u v w=some (u,v,w,wT (aT n k t pin seed)):=by
 unfold aX8 aT Qg;cases h1:bD n 1 3 with
 |false=>rfl
 |true=>
 cases h2:bD k 1 7 with
 |false=>rfl
 |true=>
 cases F:bD t 1 k with
 |false=>rfl
 |true=>
 cases O:bD pin 0 9999 with
 |false=>rfl
 |true=>
 cases T:bQ seed with
 |false=>rfl
 |true=>
 have hn:=fZ h1;have hk:=fZ h2;have ht:=fZ F;obtain⟨N,rfl⟩:∃N:Nat,n=(N:Int):=⟨n.toNat,by omega⟩;rw[bv];have f:1<=N/\N<=3:=by omega
 have W:=kF seed N;have X:=Va seed N;have Z:=Vb seed N;simp only[bf,ah,dm,ac,bd_s,bEe,bHx];rw[Al (r:=(aM seed N,bB seed N,List.replicate N false)) (λi=>(aM seed i,i,bB seed i,List.replicate i false)) N (s:=([],0,[],[])) (by omega) (λrec i hi=>by
  have z:=aOg seed i;have e3:=kF seed i;have e4:=sU seed i;rw[Fq] at z;simp only[bZ hi,ac,aB (show aL (bB seed i) [cZ (aQ seed (i:Int))] from aVv (by omega) (by simp)),aB (show aL (List.replicate i false) [false] from aVv (by rw[eC];omega) (by simp)),z,bd_s,aB (show(aM seed i).length<=34359738300 by omega),Fq,List.replicate_succ'];rfl) (λrec=>by simp only[qV,ah]) rfl]
 have G:(bK (aM seed N) (bE seed 0) 1000).1=dS seed N:=rfl;simp only[bd_s,aB (show(aM seed N).length<=34359738300 by omega),G,aB (show(aM seed N).length<=34359738368/\(dS seed N).sz<=34359738368 from⟨by omega,by omega⟩)];have A:=sU seed N;rw[Al (r:=kN (bB seed N) seed) (λj=>((kN (bB seed N) seed).take j,j)) 2 (s:=([],0)) (by omega) (λrec j hj=>by
  have hs:=zN (j:Int);have h6:=Ld (aA (j:Int)) (aJ seed [281,(j:Int)]);have h7:=Ve (dR (aA (j:Int)) (aJ seed [281,(j:Int)])) 1 3;simp only[ap (show(j:Int)<2 by omega),ac,aB (show[281,(j:Int)].length<=34359738300 by simp),bd_s,aB (show(aA (j:Int)).size<=34359738368 by omega),aB (show(dR (aA (j:Int)) (aJ seed [281,(j:Int)])).sz<=34359738300 by omega)];rw[aOh (nm:=aA (j:Int)) (l:=bB seed N) (s0:=(iY (dR (aA (j:Int)) (aJ seed [281,(j:Int)])) 1 3).1) (by omega) (by omega) (λrec i hi s hsz=>by
   simp only[bZ hi,ac,aI hi,bd_s,aB (show(aA (j:Int)).size<=34359738300 by omega),aFt,aB (show s.sz<=34359738300 by omega)]) (λrec s=>by simp only[qV,ah])]
  have H:((kN (bB seed N) seed).take j).length<=1000:=by rw[cq];omega
  have h:∀x:AF,aL ((kN (bB seed N) seed).take j) [x]:=λx=>aVv H (by simp);simp only[bd_s,aFt,aB (h _)];have m:j=0\/j=1:=by omega
  rcases m with rfl|rfl<;>rfl) (λrec=>by rfl) rfl]
 simp only[bd_s];have a:∀d∈bB seed N,d.sz=0:=λd hd=>by
  simp only[bB,cj] at hd;obtain⟨i,_,rfl⟩:=hd;rfl
 rw[show(0,bB seed N)=((λi:Nat=>i) ([]:List AC).length,([]:List AC)++bB seed N) from rfl,aQb (λi:Nat=>i) (p0:=[]) (l:=bB seed N) (nK seed N) (by omega) (λrec p d r hp hd=>by
  have h0:=a d hd;simp only[bn] at hp;simp only[bZ (show p.length<N by omega),ac,I7,bd_s,aB (show d.sz<=34359738368/\(aM seed N).length<=34359738368 from⟨by omega,by omega⟩),bv,set_mid rfl,co,dT];rfl) (λrec p hp=>by
  simp only[bn,A,cn,qV,ah])]
 obtain⟨R,c⟩:∃R,R=((bB seed N).drop 1).map (nK seed N):=⟨_,rfl⟩;have hm:(bB seed N).map (nK seed N)=nK seed N (cZ (aQ seed 0))::R:=by have:=congrArg (List.map (nK seed N)) (I5 seed N f.1);rw[this,c];rfl
 have I:R.length=N-1:=by rw[c,ba,cy,A]
 have o:∀d∈R,d.sz<=10:=λd hd=>by
  rw[c,cj] at hd;obtain⟨x,e,rfl⟩:=hd;have h0:=a x (cW e);have:=Qa seed N x;omega
 have J:=Qa seed N (cZ (aQ seed 0));rw[Qb] at J;have hq:∀x:AC,aW (x::R) 0=some x:=λx=>rfl;rw[bo,hm,bd_s,aOj (n:=N) (d:=nK seed N (cZ (aQ seed 0))) (r:=R) f.2 (by omega) (λrec j x hj e=>by
  simp only[ap (show(j:Int)<2 by omega),ac];rw[aOi (nm:=aA (j:Int)) (n:=N) (d:=x) (r:=R) f.2 e (λrec i x hi e=>by
   have hs:=zN (j:Int);simp only[bZ hi,ac,hq,bd_s,aB (show x.sz<=34359738360/\(aA (j:Int)).size<=34359738300 from⟨by omega,by omega⟩)];rfl) (λrec x=>by simp only[qV,ah])]
  simp only[bd_s]) (λrec x=>by rfl)]
 have K:aI7 N (nK seed N (cZ (aQ seed 0))) 2=gF seed N:=rfl;have B:jS (gF seed N)=Qf seed N:=rfl;have hc:(dO (bT (aM seed N) (dS seed N)).1 (Qf seed N).2.1).1=dU seed N:=rfl;have hF:=Uz seed N;have D:=Pv (gF seed N);rw[B] at D;have L:=yF (aM seed N) (dS seed N);have b:∀x y:AC,(x::R).set (0:Int).toNat y=y::R:=λ_ _=>rfl;simp only[bd_s,K,hq,aB (show(gF seed N).sz<=34359738368 by omega),B,aB (show(bT (aM seed N) (dS seed N)).1.sz<=34359738300/\(Qf seed N).2.1.sz<=34359738300 from⟨by omega,by have:=D.2;simp only[AH.sz];omega⟩),hc,b];rw[show((1:Int),(Qf seed N).1::R)=((λi:Nat=>(i:Int)) ([(Qf seed N).1]:List AC).length,[(Qf seed N).1]++R) from rfl,aQb (λi:Nat=>(i:Int)) (p0:=[(Qf seed N).1]) (l:=R) (λd=>(dD d (dU seed N).Log (dU seed N).Boxes (jR (dU seed N) 0).1).1) (by omega) (λrec p d r hp hd=>by
  have h0:=o d hd;simp only[au,bn] at hp;simp only[bZ (show p.length<N by omega),ac,I7,bd_s,aB (show d.sz<=34359738100/\(dU seed N).sz<=34359738100 from⟨by omega,by omega⟩),bv,set_mid rfl,co,dT,aH (show-9223372036854775808<=(p.length:Int)+1 by omega) (show(p.length:Int)+1<=9223372036854775807 by omega)];rfl) (λrec p hp=>by
  simp only[show([(Qf seed N).1]:List AC).length+R.length=N by simp only[au,bn];omega,qV,ah])]
 have M:[(Qf seed N).1]++R.map (λd=>(dD d (dU seed N).Log (dU seed N).Boxes (jR (dU seed N) 0).1).1)=iB seed N:=by rw[c,fN];show(Qf seed N).1::_=(Qf seed N).1::_;congr 1;exact fe λd _=>aXi seed N d
 rw[M];simp only[bd_s];rw[aI8 (seed:=seed) (t:=t) ⟨by omega,by omega⟩ (λrec s i h0 h1 h2=>by
  have h:∀x:Int,aL s [x]:=λx=>aVv (by omega) (by simp);simp only[aB (show([307,i]:List Int).length<=34359738300 by simp),bd_s,aB (h _),aH (show-9223372036854775808<=i+1 by omega) (show i+1<=9223372036854775807 by omega)])]
 have q:(Ff seed t).length<=34359738368:=by simp only[Ff,ba,eK];omega
 simp only[bd_s,aB (show([283]:List Int).length<=34359738300 by simp),aB (show([293]:List Int).length<=34359738300 by simp),aB (show(1018:Int)≠0 by decide),aB q];rfl
def aV0 (k e v:Int)(b:AE):aR (mX k e v b).1.Data/\(mX k e v b).1.Data.length<=500:=by
 refine⟨?_,aNp k e v b⟩;unfold mX;cases bQ k&&(bD e 0 1000000&&bD v 0 1000000)&&aS b with
 |false=>exact⟨by show 0<=_;omega,rfl⟩
 |true=>refine aFs ?_;have:=Pt b;omega
structure Wv (i:Nat) (w:AA):Prop where
 inn:WIn w.Devices.length w
 now:w.Now<=(i:Int)
 sz:w.sz<=100000+3000*i
 cld:CldOk w.aAH
def Wv.next {i:Nat}{w v:AA}(h:Wv i w)(k:Kept w v)(n:v.Now=w.Now)(c:CldOk v.aAH):Wv (i+1) v:=
 ⟨k.wi,by rw[n];have:=h.now;omega,by have:=h.sz;have:=k.sz;omega,c⟩
def PW (p:AA->Prop)(r:List Int×Int×Int×WU):Prop:=∃c w,aP c/\p w/\r=(c.b,c.i,c.h,wT w)
def J9 {k i:Nat}(h:i<k):decide ((k:Int)-(i:Int)>0)=true:=by simp;omega
def aQf {k:Nat}:decide ((k:Int)-(k:Int)>0)=false:=by simp
def aQg {k i:Nat}(h:k<=1000)(h1:i<k):IntKind.i64.wrap ((k:Int)-(i:Int)-1)=(k:Int)-((i+1:Nat):Int):=by rw[aH (by omega) (by omega)];omega
def bOd (l:List Int):Ex (bG (α:=Int) FUEL (λb (a:(Int×Int))=>bd (bif a.2<(l.length:Int) then some (decide (a.2<4000)) else some false) λz2=>bif z2 then bd (aW l a.2) λc=>b (mR IntKind.i64 (IntKind.i64.wrap (IntKind.i64.wrap (IntKind.i64.wrap (a.1*137)+IntKind.i64.wrap c)+11)) (1073741823:Int),IntKind.i64.wrap (a.2+1)) else some a.1) (IntKind.i64.wrap ((193017:Int)+(l.length:Int)),(0:Int))) λ_=>True:=by
 refine aVz (λi (s:Int×Int)=>s.2=(i:Int)) (min l.length 4000) (by omega) rfl (λi s rec hi hv=> ?_) (λs rec hv=> ?_)
 ·obtain⟨x,y⟩:=s;have hv:y=(i:Int):=hv;subst hv;simp only[ap (show(i:Int)<(l.length:Int) by omega),ap (show(i:Int)<4000 by omega),ac,bd_s,aI (show i<l.length by omega)];exact aVy (by show IntKind.i64.wrap ((i:Int)+1)=((i+1:Nat):Int);rw[aH (by omega) (by omega)];omega)
 ·obtain⟨x,y⟩:=s;have hv:y=((min l.length 4000:Nat):Int):=hv;subst hv;refine bdE (λr=>r=false) (rD (λq=>eD ?_) λ_=>eD rfl) λr hr=>by subst hr;exact eD trivial
  have q:=of_decide_eq_true q;exact ax (by omega)
def Wv.tick {i:Nat}{w:AA}(h:Wv i w)(hi:i<5):Wv (i+1) {w with Now:=IntKind.i64.wrap (w.Now+1)}:=by have h0:=h.inn.now;have hn:=h.now;have e:IntKind.i64.wrap (w.Now+1)=w.Now+1:=aH (by omega) (by omega);rw[e];exact⟨⟨h.inn.seed,show 0<=w.Now+1/\w.Now+1<=999900 by omega,h.inn.dlen,h.inn.slen,h.inn.dev,h.inn.two,h.inn.mle,h.inn.site,h.inn.mail,h.inn.log⟩,by show w.Now+1<=_;omega,by have:=h.sz;show w.sz<=_;omega,h.cld⟩
def bAp {w:AA}{c:AL}:({w with aAH:=c}:AA).sz<=w.sz+c.sz:=by simp only[AA.sz,AL.sz];omega
def bG3 {α:Type}(f:α->Nat)(l:List α)(n:Nat):((l.take n).map f).sum<=(l.map f).sum:=by
 have:(l.map f).sum=((l.take n).map f).sum+((l.drop n).map f).sum:=by rw[<-List.sum_append,<-cQ,cD]
 omega
def aQh {l:List AD}{b:AK}(h:aSy b):CldOk (bT l b).1:=by
 unfold bT;cases bI l&&kE b l with
 |true=>exact⟨⟨h,λs hs=>absurd hs fb⟩, .nil⟩
 |false=>exact⟨⟨λs hs=>absurd hs fb,λs hs=>absurd hs fb⟩, .nil⟩
def aX9 {l:List Int}(hb:aZ4 l=false):l.length<=1048576:=by unfold aZ4 at hb;rw[cR] at hb;omega
def eqT {w:AA}(a:w.sz<=34359738368)(h:CldOk w.aAH):nA w.sz w w/\w.sz<=34359738368/\tJ w.aAH:=⟨⟨rfl,by omega⟩,a,h.bytes⟩
end
end Go.VK
set_option maxRecDepth 100000
set_option maxHeartbeats 4000000
namespace Go.VK
open Go.RowKit Go.Proofs D
noncomputable section
open EV (bG)
structure Hst (w:AA) (v:List AZ) (x:AA):Prop where
 ok:bHr w v
 run:bN4 w v=x
 all:All (bL6++bOc) 19 x
 sz:x.sz<=300000
 log:bJ6 w v 2+bJ6 w v 5=cntF x 0+cntF x 1
 no:bJ6 w v 3=0
 few:cntF x 0+cntF x 1<=300000
def aV1 (hs:List AB)(j:List Int)(e:Int):Option (List AB×List Int×List Int):=bG (α:=List AB×List Int×List Int) FUEL (λf (b:(List AB×List Int×List Int×Nat))=>bif (↑b.2.2.2:Int)<j.length then bd (bd (aW j ↑b.2.2.2) λk=>bd (aW b.1 k) λa=>bd (bif iE a.State<a.Monotonic then some true else some (!(dB a.State e).2.2)) λl=>bif l then bd (gd (a.sz<=34359738368) (some a)) λc=>bd (aW j ↑b.2.2.2) λd=>bd (aW b.1 d) λm=>some (b.2.1,b.2.2.1,b.1.set d.toNat c) else gd (aL [] a.Saved) (gd (aL ([]++a.Saved) [a.State]) (bif (↑([]++a.Saved++[a.State]).length:Int)>30 then gd (iQ ([]++a.Saved++[a.State]) (1:Int)) (bd (aW j ↑b.2.2.2) λc=>bd (aW b.1 c) λd=>gd (aL b.2.1 [(dB a.State e).1.aAM.Index]) (gd (aL b.2.2.1 [(dB a.State e).2.1]) (some (b.2.1++[(dB a.State e).1.aAM.Index],b.2.2.1++[(dB a.State e).2.1],b.1.set c.toNat (AB.mk (dB a.State e).1 (List.drop (1:Int).toNat ([]++a.Saved++[a.State])) (iE (dB a.State e).1)))))) else bd (aW j ↑b.2.2.2) λc=>bd (aW b.1 c) λd=>gd (aL b.2.1 [(dB a.State e).1.aAM.Index]) (gd (aL b.2.2.1 [(dB a.State e).2.1]) (some (b.2.1++[(dB a.State e).1.aAM.Index],b.2.2.1++[(dB a.State e).2.1],b.1.set c.toNat (AB.mk (dB a.State e).1 ([]++a.Saved++[a.State]) (iE (dB a.State e).1)))))))) λh=>f (h.2.2,h.1,h.2.1,(b.2.2.2+1)) else some (b.1,b.2.1,b.2.2.1)) (hs,[],[],0)
def bAq {hs:List AB}{a:List Int}{e:Int}(h:(mF AB.sz hs<=34000000000/\a.length<=100000000)/\fU hs a=true):aV1 hs a e=some (gW hs a e):=by
 obtain⟨⟨h1,h2⟩,b⟩:=h;unfold aV1;rw[Af (τ:=List AB×List Int×List Int) (s:=(hs,([]:List Int),([]:List Int),(0:Nat))) (λi (s:List AB×List Int×List Int×Nat)=>s=((iJ e hs a i).1,(iJ e hs a i).2.1,(iJ e hs a i).2.2,i)) a.length
  (some (gW hs a e)) (by omega) rfl (λi s rec hi hv=> ?_) (λs rec hv=> ?_)]
 ·left;subst hv;refine⟨_,rfl,?_⟩;have c:=Fh (e:=e) b i (by omega);have hc:=Bu b hi;rw[qZ hi];generalize iJ e hs a i=s at*;obtain⟨q1,q2,q3,q4⟩:=c;have hk:a[i].toNat<s.1.length:=by omega
  have hg:s.1.getD a[i].toNat default=s.1[a[i].toNat]:=by simp[List.getD,aa hk]
  have d:aW s.1 a[i]=some s.1[a[i].toNat]:=xY hc.1 hk;have l:=q2 _ (ce hk);have f:=l;simp only[AB.sz] at f;simp only[bZ hi,ac,aI hi,bd_s,d];unfold aK7 lN;rw[hg];generalize s.1[a[i].toNat]=x at*;simp only[vS,bd_s];cases hb:(decide (iE x.State<x.Monotonic)|| !(dB x.State e).2.2) with
  |true=>simp only[ac,ah,aB (show x.sz<=34359738368 by omega),bd_s]
  |false=>
   simp only[ah,ac,bo];rw[aB (show aL ([]:List AU) x.Saved by unfold aL;simp only[bn];omega),aB (show aL x.Saved [x.State] by unfold aL;simp only[au,bn];omega)];have j:∀y:Int,aL s.2.1 [y]:=λy=>by unfold aL;simp only[au,bn];omega
   have k:∀y:Int,aL s.2.2 [y]:=λy=>by unfold aL;simp only[au,bn];omega
   unfold bDi;cases hd:decide (((x.Saved++[x.State]).length:Int)>30) with
   |false=>simp only[ah,aB (j _),aB (k _),bd_s]
   |true=>have:=of_decide_eq_true hd;simp only[ac,aB (show iQ (x.Saved++[x.State]) 1 from⟨by omega,by omega⟩),aB (j _),aB (k _),bd_s];rfl
 ·subst hv;simp only[qV,ah];unfold iJ gW;rw[cI]
def bKi (w:AA)(c:AG)(v:Int):Option (List Int×Int×Int×WU):=bd (bG (α:=List Int) FUEL (λf (e:(List Int×Int))=>bd (bif e.2<w.aAK.Threshold then some (decide (e.2<=(↑w.Hosts.length:Int))) else some false) λj=>bif j then gd (aL e.1 [e.2]) (f (e.1++[e.2],IntKind.i64.wrap (e.2+1))) else some e.1) ([],(0:Int))) λm=>bd (gd (w.sz<=34359738368) (some w)) λa=>bd (gd (w.sz<=34359738368) (some (aX w))) λj=>bif !j then some (c.b,c.i,c.h,a.Now,a.Seed,a.Devices,a.Stolen,a.aAH.Log,a.aAH.Boxes.Epoch,a.aAH.Boxes.Boxes,a.aAH.History,a.Sites,a.aAK.Salt,a.aAK.Threshold,a.aAK.Check,a.aAK.Masked,a.Hosts,a.Pin,a.Mail.Notices) else bd (gd ([(313:Int),w.Now].length<=34359738300) (some (aJ w.Seed [313,w.Now]))) λn=>gd ((1018:Int)≠(0:Int)) (bd (gd (w.Hosts.length<=34359738368/\m.length<=34359738368) (some (fU w.Hosts m))) λo=>bd (bif !o then some true else bif bJ (IntKind.i64.wrap ((1:Int)+n.tmod (1018:Int))) (1019:Int)==(0:Int) then some true else some (!bD v 0 9999)) λp=>bif p then bd (gd (mF AB.sz w.Hosts<=34359738368) (some w.Hosts)) λk=>bd (gd (a.Mail.sz<=34359738300) (some (mO a.Mail 5 1 a.Now))) λd=>some (c.b,c.i,c.h,a.Now,a.Seed,a.Devices,a.Stolen,a.aAH.Log,a.aAH.Boxes.Epoch,a.aAH.Boxes.Boxes,a.aAH.History,a.Sites,a.aAK.Salt,a.aAK.Threshold,a.aAK.Check,a.aAK.Masked,k,a.Pin,d.1.Notices) else bd (gd (mF AB.sz w.Hosts<=34359738368) (some w.Hosts)) λk=>bd (aV1 k m (bP w.aAK.Salt v (IntKind.i64.wrap ((1:Int)+n.tmod (1018:Int))))) λd=>bd (gd (d.2.1.length<=34359738368/\d.2.2.length<=34359738368) (some (iM d.2.1 d.2.2))) λq=>bd (bif (↑m.length:Int)<w.aAK.Threshold then some true else bif (↑d.2.2.length:Int)<m.length then some true else some (!q.2)) λr=>bif r then bd (gd (a.Mail.sz<=34359738300) (some (mO a.Mail 5 1 a.Now))) λl=>some (c.b,c.i,c.h,a.Now,a.Seed,a.Devices,a.Stolen,a.aAH.Log,a.aAH.Boxes.Epoch,a.aAH.Boxes.Boxes,a.aAH.History,a.Sites,a.aAK.Salt,a.aAK.Threshold,a.aAK.Check,a.aAK.Masked,d.1,a.Pin,l.1.Notices) else bd (gd (a.Mail.sz<=34359738300) (some (mO a.Mail 5 1 a.Now))) λl=>some (c.b,c.i,c.h,a.Now,a.Seed,a.Devices,a.Stolen,a.aAH.Log,a.aAH.Boxes.Epoch,a.aAH.Boxes.Boxes,a.aAH.History,a.Sites,a.aAK.Salt,a.aAK.Threshold,a.aAK.Check,a.aAK.Masked,d.1,a.Pin,l.1.Notices))
def bG4 {w:AA}(c:AG)(v:Int)(h:w.sz<=33000000):bKi w c v=some (c.b,c.i,c.h,wT (oN w v).1):=by
 have hl:w.Hosts.length<=w.sz:=by simp only[AA.sz];omega
 have a:=aHt w;obtain⟨q1,q2⟩:=bEf w;unfold bKi;have hn:(min w.aAK.Threshold ((w.Hosts.length:Int)+1)).toNat<=w.Hosts.length+1:=by omega
 rw[Af (τ:=List Int) (s:=(([]:List Int),(0:Int))) (λi (s:List Int×Int)=>s=((List.range i).map (λ(k:Nat)=>(k:Int)),(i:Int))) (min w.aAK.Threshold ((w.Hosts.length:Int)+1)).toNat (some (kZ w)) (by omega) rfl (λi s rec hi hv=> ?_) (λs rec hv=> ?_)]
 ·rw[bd_s,aB (show w.sz<=34359738368 by omega),bd_s,aB (show w.sz<=34359738368 by omega),bd_s];unfold oN bL;cases aX w with
  |false=>rfl
  |true=>
   rw[bf,ah,aB (by simp),bd_s,aB (by decide),aB (show w.Hosts.length<=34359738368/\(kZ w).length<=34359738368 by omega),bd_s];have hb:IntKind.i64.wrap ((1:Int)+(aJ w.Seed [313,w.Now]).tmod (1018:Int))=vY w:=rfl;simp only[hb,ah];unfold jT Y7;cases hc:fU w.Hosts (kZ w) with
   |false=>simp only[aB (show mF AB.sz w.Hosts<=34359738368 by omega),bd_s,db,ac,ja,aB (show w.Mail.sz<=34359738300 by omega)];rfl
   |true=>
    simp only[bf,ah,vS,bd_s,d8];rw[show(!(!(bJ (vY w) 1019==0)&&bD v 0 9999))=(bJ (vY w) 1019==0|| !bD v 0 9999) by rw[Bool.not_and,Bool.not_not]];cases(bJ (vY w) 1019==0|| !bD v 0 9999) with
    |true=>simp only[aB (show mF AB.sz w.Hosts<=34359738368 by omega),bd_s,ac,aB (show w.Mail.sz<=34359738300 by omega)];rfl
    |false=>obtain⟨q1,q2,q3,q4⟩:=aQc (e:=bP w.aAK.Salt v (vY w)) hc;simp only[ah];rw[aB (show mF AB.sz w.Hosts<=34359738368 by omega),bd_s,bAq ⟨⟨by omega,by omega⟩,hc⟩,bd_s,aB (show(gW w.Hosts (kZ w) (bP w.aAK.Salt v (vY w))).2.1.length<=34359738368/\(gW w.Hosts (kZ w) (bP w.aAK.Salt v (vY w))).2.2.length<=34359738368 by omega),bd_s];unfold gY;generalize gW w.Hosts (kZ w) (bP w.aAK.Salt v (vY w))=r at*;rw[show decide ((r.2.2.length:Int)<((kZ w).length:Int))=decide (r.2.2.length<(kZ w).length) by rw[cT];omega];simp only[aB (show w.Mail.sz<=34359738300 by omega),bd_s];cases decide (((kZ w).length:Int)<w.aAK.Threshold)<;>cases decide (r.2.2.length<(kZ w).length)<;>cases(iM r.2.1 r.2.2).2<;>rfl
 ·left;subst hv;refine⟨_,rfl,?_⟩;simp only[aUx,bd_s];rw[ap (show(i:Int)<w.aAK.Threshold by omega),ap (show(i:Int)<=(w.Hosts.length:Int) by omega),dm,ac,aB (show aL ((List.range i).map (λ(k:Nat)=>(k:Int))) [(i:Int)] by unfold aL;simp only[ba,eK,au,bn];omega),aH (by omega) (by omega),ef,cQ];rfl
 ·subst hv;simp only[aUx,bd_s];generalize hm:(min w.aAK.Threshold ((w.Hosts.length:Int)+1)).toNat=m;rw[show(decide ((m:Int)<w.aAK.Threshold)&&decide ((m:Int)<=(w.Hosts.length:Int)))=false by
   rw[Bool.and_eq_false_iff,cR,cR];omega,ah]
  unfold kZ;rw[hm]
def aTn (w:AA)(v:Int):(oN w v).1.Now=w.Now/\(oN w v).1.aAH=w.aAH:=by unfold oN bL;cases aX w<;>exact⟨rfl,rfl⟩
def aTo (w:AA):(dG w).1.Now=w.Now/\(dG w).1.aAH=w.aAH:=by unfold dG;cases aX w&&(eQ w.Hosts (aHe w)).2<;>exact⟨rfl,rfl⟩
def aYa (w:AA)(i b:Int):(dX w i b).1.Now=w.Now/\(dX w i b).1.aAH=w.aAH:=by
 unfold dX;cases !aX w||(decide (i<0)||decide (i>=(w.Hosts.length:Int))) with
 |true=>exact⟨rfl,rfl⟩
 |false=>cases(eY (w.Hosts.getD i.toNat default) b).2<;>exact⟨rfl,rfl⟩
def bMh {m:AM}(h:m.Notices.length<=34359738368):Ex (kH m) λr=>r.1.Notices.length=m.Notices.length:=by
 unfold kH;refine bgE h (bdE (λr=>r.2.length=m.Notices.length) ?_ λr hr=>eD hr);refine aVz (λi (s:List AP×Nat×List AP)=>∃a ns,a.length<=i/\ns.length=m.Notices.length/\s=(a,i,ns)) m.Notices.length (by omega) ⟨[],m.Notices,ak _,rfl,rfl⟩ (λi s rec hi hv=> ?_) (λs rec hv=> ?_)
 ·obtain⟨a,ns,h1,h2,rfl⟩:=hv;refine bEi (bZ hi) (bdS (λr=>r.1.length<=i+1/\r.2.length=m.Notices.length) (bdE (λr=>r.length<=i+1) ?_ λr hr=> ?_) λr hr=>aVy ⟨r.1,r.2,hr.1,hr.2,rfl⟩)
  ·show Ex (bd (aW m.Notices (i:Int)) _) _;rw[aI hi];refine bdE (λ_=>True) (eD trivial) λr _=> ?_
   refine rD (λ_=> ?_) λ_=>eD (show a.length<=i+1 by omega);exact gdE (by unfold aL;show a.length+1<=_;omega) (eD (by simp only[aE,cN];omega))
  ·show Ex (bd (aW ns (i:Int)) _) _;rw[aI (by omega)];exact eD ⟨hr,by simp only[bm];exact h2⟩
 ·obtain⟨a,ns,h1,h2,rfl⟩:=hv;exact rD (λq=>absurd (q.symm.trans qV) (by decide)) λ_=>eD h2
def bOe {c:AG}(h:aP c):Ex (rT c 10) λr=>aP r.1/\r.2.length<=10:=by
 unfold rT;refine bdE (λr=>∃(c:AG) (l:List AD),aP c/\l.length<=10/\r=(l,c.b,c.i,c.h)) ?_ λr hr=> ?_
 ·refine blE h λo v h1 a b=> ?_;have b:=b (by decide);obtain⟨k,rfl⟩:∃k:Nat,v=(k:Int):=⟨v.toNat,by omega⟩;refine aVz (λi (s:List AD×Int×List Int×Int×Int)=>∃(c:AG) (l:List AD),aP c/\l.length<=i/\s=(l,(k:Int)-(i:Int),c.b,c.i,c.h)) k (by omega) ⟨o,[],h1,ak _,by simp⟩ (λi s rec hi hv=> ?_) (λs rec hv=> ?_)
  ·obtain⟨c,l,q1,q2,rfl⟩:=hv;refine bEi (J9 hi) (bdS (λr=>∃(c:AG) (l:List AD),aP c/\l.length<=i+1/\r=(l,c.b,c.i,c.h)) ?_ λr hr=> ?_)
   ·refine blE q1 λy z p _ _=>blE p λt A f _ _=>bdE (λ_=>True) (rD (λ_=>eD trivial) λ_=>eD trivial) λB _=> ?_;refine bdE (λr=>∃(n:Int) (c:AG),aP c/\r=(n,c.b,c.i,c.h)) (bdE (λr=>∃(n:Bool) (c:AG),aP c/\r=(n,c.b,c.i,c.h)) (rD (λ_=>onE f λu w x=>eD ⟨w,u,x,rfl⟩) λ_=>eD ⟨_,t,f,rfl⟩) ?_) ?_
    ·rintro _ ⟨n,c,hc,rfl⟩;exact rD (λ_=>eD ⟨_,c,hc,rfl⟩) λ_=>eD ⟨_,c,hc,rfl⟩
    ·rintro _ ⟨n,c,hc,rfl⟩;refine bdE (λ_=>True) (by unfold kP;exact eD trivial) λj _=>bdE (λ_=>True) (by unfold kP;exact eD trivial) λm _=>bgE (show l.length<=34359738300 by omega) (eD ⟨c,_,hc,?_,rfl⟩);have:=aHp l n (bO j) m;show(jM l n (bO j) m).1.length<=_;omega
   ·obtain⟨c,l,d,e,rfl⟩:=hr;exact aVy ⟨c,l,d,e,by show(l,IntKind.i64.wrap ((k:Int)-(i:Int)-1),c.b,c.i,c.h)=_;rw[aQg (by omega) hi]⟩
  ·obtain⟨c,l,q1,q2,rfl⟩:=hv;exact rD (λq=>absurd (q.symm.trans aQf) (by decide)) λ_=>eD ⟨c,l,q1,by omega,rfl⟩
 ·obtain⟨c,l,d,e,rfl⟩:=hr;exact eD ⟨d,e⟩
def bG5 {c:AG}{n:Nat}{k:Int}(h:aP c)(hn:n<=900000):Ex (cK c (n:Int) k) λr=>aP r.1/\r.2.length<=n+1:=by
 unfold cK;refine bdE (λr=>∃(c:AG) (l:List Int),aP c/\l.length<=n/\r=(l,c.b,c.i,c.h)) ?_ ?_
 ·refine aVz (λi (s:List Int×Int×List Int×Int×Int)=>∃(c:AG) (l:List Int),aP c/\l.length<=i/\s=(l,(i:Int),c.b,c.i,c.h)) n (by omega) ⟨c,[],h,ak _,rfl⟩ (λi s rec hi hv=> ?_) (λs rec hv=> ?_)
  ·obtain⟨c,l,hc,hl,rfl⟩:=hv;refine bdS (λ_=>True) (rD (λ_=>eD trivial) λ_=>eD trivial) λr _=> ?_;cases r with
   |false=>exact .inr (eD ⟨c,l,hc,by omega,rfl⟩)
   |true=>
    refine bdS (λr=>∃(c:AG) (l:List Int),aP c/\l.length<=i+1/\r=(l,c.b,c.i,c.h)) (bdE (λr=>∃(c:AG) (f:Bool),aP c/\r=(f,c.b,c.i,c.h)) (rD (λ_=>eD ⟨c,true,hc,rfl⟩) λ_=>onE hc λa v d=>eD ⟨a,v,d,rfl⟩) ?_) ?_
    ·rintro _ ⟨a,f,d,rfl⟩;exact rD (λ_=>gdE (by unfold aL;show l.length+1<=_;omega) (eD ⟨a,_,d,by rw[aE];show l.length+1<=_;omega,rfl⟩)) λ_=>eD ⟨a,l,d,by omega,rfl⟩
    ·rintro _ ⟨a,l',d,e,rfl⟩;exact aVy ⟨a,l',d,e,by show(l',IntKind.i64.wrap ((i:Int)+1),a.b,a.i,a.h)=_;rw[aH (by omega) (by omega)];rfl⟩
  ·obtain⟨c,l,hc,hl,rfl⟩:=hv;simp only[ax (Int.lt_irrefl (n:Int)),ah,bd_s];exact eD ⟨c,l,hc,hl,rfl⟩
 ·rintro _ ⟨c,l,hc,hl,rfl⟩;refine bdE (λr=>∃(c:AG) (l:List Int),aP c/\l.length<=n+1/\r=(l,c.b,c.i,c.h)) (onE hc λa v d=>rD (λ_=>inE d (by simp) λj o m _=>gdE (by unfold aL;show l.length+1<=_;omega) (eD ⟨j,_,m,by rw[aE];show l.length+1<=_;omega,rfl⟩)) λ_=>eD ⟨a,l,d,by omega,rfl⟩) ?_;rintro _ ⟨c,l,hc,hl,rfl⟩;exact eD ⟨hc,hl⟩
def bHz (r:AA×List Int×Int):Prop:=∃w a p,r=(w,a,p)/\w.sz<=1000000/\CldOk w.aAH/\a.length<=1000000
def aDk {c:AG}{n:Nat}{t p:Int}(hn:n<=900000){W:AA}(hc:aP c)(f:W.sz<=1000000)(hd:CldOk W.aAH):
  Ex (bd (gd (aP c) (some (bS c 2))) λe=>bd (cK e.1 (n:Int) (IntKind.i64.wrap (t+e.2))) λa=>bd (bd (gd (aP a.1) (some (iZ a.1 3))) λb=>bif b.2 then bd (gd (aP b.1/\0<[-(1:Int),(3:Int),(10000:Int)].length) (some (tK b.1 [-(1:Int),3,10000]))) λd=>some d.2 else some p) λh=>some (W,a.2,h)) bHz:=
 blE hc λk l h1 _ _=>bdE _ (bG5 h1 hn) λr hr=>bdE (λ_=>True) (onE hr.1 λm o j=>rD (λ_=>inE j (by decide) λq s u _=>eD trivial) λ_=>eD trivial) λx _=>eD ⟨W,_,x,rfl,f,hd,by have:=hr.2;omega⟩
def Wh (i:Nat)(w:AA):Prop:=Wv i w/\w.Hosts.length<=7
def bMi {n k t pin seed:Int}{c:AG}(hc:aP c)(h:Qg n k t pin seed=true):Ex (aX8 n k t pin seed c.b c.i c.h) (PW (Wh 0)):=by rw[bEj];obtain⟨a,d,e⟩:=aDf h;have f:=aDe n k t pin seed;refine eD ⟨c,aT n k t pin seed,hc,⟨⟨by rw[d];exact a,?_,by omega,bGr⟩,bKg ..⟩,rfl⟩;unfold aT;rw[h];exact e9 _
def bAr {l:List Int}(hl:l.length<=1048576):Ex (gG l) bHz:=by
 unfold gG;refine bdE (λ_=>True) (bOd l) λz0 _=> ?_
 refine blE (c:=AG.mk l 0 z0) ⟨e9 _,hl⟩ λc1 N h1 a1 b1=> ?_;have b1:=b1 (by decide);refine bdE (PW (Wh 0)) (blE h1 λc3 v3 h3 a3 b3=>blE h3 λc4 F j a4 y=>blE j λc5 v5 G a5 b5=>blE G λM d O a6 b6=> ?_) ?_
 ·have b3:=b3 (by decide);have b5:=b5 (by decide);have b6:=b6 (by decide);show Ex (aX8 (IntKind.i64.wrap ((1:Int)+v3)) (IntKind.i64.wrap ((1:Int)+N)) (IntKind.i64.wrap ((1:Int)+F)) v5 (IntKind.i64.wrap ((1:Int)+d)) M.b M.i M.h) _;refine bMi O ?_;have y:0<IntKind.i64.wrap (1+N)->F<IntKind.i64.wrap (1+N):=y;rw[aH (show-9223372036854775808<=1+N by omega) (by omega)] at y ⊢;have y:=y (by omega);rw[aH (show-9223372036854775808<=1+v3 by omega) (by omega),aH (show-9223372036854775808<=1+F by omega) (by omega),aH (show-9223372036854775808<=1+d by omega) (by omega)];unfold Qg;rw[show bQ (1+d)=true from iK (by omega) (by omega),iK (show(1:Int)<=1+v3 by omega) (by omega),iK (show(1:Int)<=1+N by omega) (by omega),iK (show(1:Int)<=1+F by omega) (by omega),iK a5 (by omega)];rfl
 rintro _ ⟨c,w,hc,a,rfl⟩;refine bdE (PW λw=>w.sz<=200000/\CldOk w.aAH/\w.Sites.length=2) ?_ ?_
 ·refine blE hc λc4 F j a4 y=> ?_;have y:=y (by decide);obtain⟨k,rfl⟩:∃k:Nat,F=(k:Int):=⟨F.toNat,by omega⟩;refine aVz (λi (s:Int×List Int×Int×Int×WU)=>∃c w,aP c/\Wh i w/\s=((k:Int)-(i:Int),c.b,c.i,c.h,wT w)) k (by omega) ⟨c4,w,j,a,by simp⟩ (λi s rec hi hv=> ?_) (λs rec hv=> ?_)
  ·obtain⟨c,w,hc,a,rfl⟩:=hv;have o:=a.2;have a:=a.1;have H:w.sz<=120000:=by have:=a.sz;omega
   refine bEi (J9 hi) (bdS (PW (Wh (i+1))) (blE hc λR I z _ _=> ?_) ?_)
   ·refine rD (λ_=> ?_) λ_=>rD (λ_=> ?_) λ_=>rD (λ_=> ?_) λ_=> ?_
    ·exact bgE (show w.sz<=34359738368 by omega) (eD ⟨R,(dG w).1,z,⟨a.next (.of a.inn.renew (bl (aK5 w) (cH _ _))) (aTo w).1 (by rw[(aTo w).2];exact a.cld),bl (aTe w) o⟩,rfl⟩)
    ·exact blE z λT f X _ _=>blE X λc9 x Z _ _=>bgE (show w.sz<=34359738368 by omega) (eD ⟨c9,(dX w f x).1,Z,⟨a.next (.of (a.inn.roll f x) (bl (bD1 w f x) (cH _ _))) (aYa w f x).1 (by rw[(aYa w f x).2];exact a.cld),by rw[aVi];exact o⟩,rfl⟩)
    ·exact eD ⟨R,{w with Now:=IntKind.i64.wrap (w.Now+1)},z,⟨a.tick (by omega),o⟩,rfl⟩
    ·refine blE z λT f X _ _=> ?_;show Ex (bKi w T f) _;rw[bG4 T f (by omega)];refine eD ⟨T,(oN w f).1,X,⟨a.next (.of (a.inn.aCU f) ?_) (aTn w f).1 (by rw[(aTn w f).2];exact a.cld),by rw[aTd];exact o⟩,rfl⟩;have h1:=aXq w (kZ w) f;have h2:=aHt w;show(bL w (kZ w) f).1.sz<=_;omega
   ·rintro _ ⟨c,w,hc,a,rfl⟩;exact aVy ⟨c,w,hc,a,by show(IntKind.i64.wrap ((k:Int)-(i:Int)-1),c.b,c.i,c.h,wT w)=_;rw[aQg (by omega) hi]⟩
  ·obtain⟨c,w,hc,a,rfl⟩:=hv;exact rD (λq=>absurd (q.symm.trans aQf) (by decide)) λ_=>eD ⟨c,w,hc,⟨by have:=a.1.sz;omega,a.1.cld,a.1.inn.two⟩,rfl⟩
 rintro _ ⟨c,w,hc,⟨H,hd,ho⟩,rfl⟩;have o:w.Hosts.length<=900000:=by simp only[AA.sz] at H;omega
 refine blE hc λc4 F j a4 y=>rD (λ_=> ?_) λ_=>rD (λ_=> ?_) λ_=>rD (λ_=> ?_) λ_=>rD (λ_=> ?_) λ_=>rD (λ_=> ?_) λ_=>rD (λ_=> ?_) λ_=>rD (λ_=> ?_) λ_=> ?_
 ·exact inE j (by decide) λc5 v5 G _=>aDk (n:=w.Hosts.length) (t:=w.aAK.Threshold) (p:=w.Pin) o (W:={w with Now:=v5}) G (by show w.sz<=_;omega) hd
 ·exact gdE (by unfold iQ;show(0:Int)<=0/\_;omega) (aDk (n:=w.Hosts.length) (t:=w.aAK.Threshold) (p:=w.Pin) o (W:={w with Stolen:=w.Stolen.take 0}) j (by simp only[AA.sz] at H ⊢;simp only[cq];omega) hd)
 ·refine gdE (show iQ w.Sites 1 from⟨by decide,by show 1<=_;omega⟩) (aDk (n:=w.Hosts.length) (t:=w.aAK.Threshold) (p:=w.Pin) o (W:={w with Sites:=w.Sites.take 1}) j ?_ hd);have e:=bG3 AF.sz w.Sites 1;simp only[AA.sz] at H ⊢;simp only[cq,show(1:Int).toNat=1 from rfl] at*;omega
 ·refine bdE (λr=>∃(c:AG) (m:List AP),aP c/\m.length<=1000/\r=(c.b,c.i,c.h,m)) (inE j (by decide) λM d O m6=> ?_) ?_
  ·obtain⟨k,rfl,hk⟩:∃k:Nat,d=(k:Int)/\k<=32:=⟨d.toNat,by simp at m6;omega,by simp at m6;omega⟩;refine aVz (λi (s:Int×Int×List Int×Int×Int×List AP)=>∃(t:Int) (c:AG) (m:List AP),aP c/\m.length<=i/\s=(t,(k:Int)-(i:Int),c.b,c.i,c.h,m)) k (by omega) ⟨0,M,[],O,ak _,by simp⟩ (λi s rec hi hv=> ?_) (λs rec hv=> ?_)
   ·obtain⟨t,c,m,hc,hm,rfl⟩:=hv;refine bEi (J9 hi) (bdS (λr=>∃(t:Int) (c:AG) (m:List AP),aP c/\m.length<=i+1/\r=(t,c.b,c.i,c.h,m)) ?_ ?_)
    ·refine blE hc λc9 x Z _ _=>blE Z λc10 A J _ _=>blE J λc11 u K _ _=>bgE (show m.length<=34359738300 by omega) (onE K λL v B=> ?_);have hs:(mO (AM.mk m) (IntKind.i64.wrap ((1:Int)+A)) u (IntKind.i64.wrap (t+x))).1.Notices.length<=m.length+1:=aXd (AM.mk m) (IntKind.i64.wrap ((1:Int)+A)) u (IntKind.i64.wrap (t+x));exact rD (λ_=>bdE _ (bMh (by show(mO (AM.mk m) (IntKind.i64.wrap ((1:Int)+A)) u (IntKind.i64.wrap (t+x))).1.Notices.length<=_;omega)) λz14 h14=>eD ⟨_,L,_,B,bl (Nat.le_of_eq h14) (bl hs (by omega)),rfl⟩) λ_=>eD ⟨_,L,_,B,bl hs (by omega),rfl⟩
    ·rintro _ ⟨t,c,m,hc,hm,rfl⟩;exact aVy ⟨t,c,m,hc,hm,by show(t,IntKind.i64.wrap ((k:Int)-(i:Int)-1),c.b,c.i,c.h,m)=_;rw[aQg (by omega) hi]⟩
   ·obtain⟨t,c,m,hc,hm,rfl⟩:=hv;exact rD (λq=>absurd (q.symm.trans aQf) (by decide)) λ_=>eD ⟨c,m,hc,by omega,rfl⟩
  rintro _ ⟨c,m,hc,hm,rfl⟩;refine bdE (λr=>∃(c:AG) (m:List AP),aP c/\m.length<=1001/\r=(c.b,c.i,c.h,m)) (blE hc λR I z _ _=>rD (λ_=>inE z (by decide) λT f X _=>inE X (by decide) λc9 x Z _=>inE Z (by decide) λc10 A J _=>gdE (by unfold aL;show m.length+1<=_;omega) (eD ⟨c10,_,J,by rw[aE];show m.length+1<=_;omega,rfl⟩)) λ_=>eD ⟨R,m,z,by omega,rfl⟩) ?_;rintro _ ⟨c,m,hc,hm,rfl⟩;refine aDk (n:=w.Hosts.length) (t:=w.aAK.Threshold) (p:=w.Pin) o (W:={w with Mail:=⟨m⟩}) hc ?_ hd;simp only[AA.sz] at H ⊢;omega
 ·exact bgE j (aDk (n:=w.Hosts.length) (t:=w.aAK.Threshold) (p:=w.Pin) o (W:={w with Seed:=(aHv c4).2}) (bG2 j) (by show w.sz<=_;omega) hd)
 ·refine bdE _ (bOe j) λr5 G=>blE G.1 λM d O _ _=>blE O λR I z _ _=> ?_;obtain⟨c5,log⟩:=r5;obtain⟨G,hl⟩:=G;have hl:log.length<=10:=hl;have he:=aNq log (IntKind.i64.wrap ((1:Int)+d)) (IntKind.i64.wrap ((1:Int)+I));have heb:=aP3 log (IntKind.i64.wrap ((1:Int)+d)) (IntKind.i64.wrap ((1:Int)+I));refine bgE (show log.length<=34359738300 by omega) ?_;show Ex (bd (gd (log.length<=34359738368/\(bK log (IntKind.i64.wrap ((1:Int)+d)) (IntKind.i64.wrap ((1:Int)+I))).1.sz<=34359738368) (some (bT log (bK log (IntKind.i64.wrap ((1:Int)+d)) (IntKind.i64.wrap ((1:Int)+I))).1))) _) _;generalize(bK log (IntKind.i64.wrap ((1:Int)+d)) (IntKind.i64.wrap ((1:Int)+I))).1=bx at he heb;have hn:=yF log bx;have hnc:=aQh (l:=log) heb;refine bgE ⟨by omega,by omega⟩ ?_;generalize bT log bx=cl at hn hnc;obtain⟨cl,clb⟩:=cl;have hn:cl.sz<=log.length+bx.sz:=hn;refine bdE (λr=>∃(c:AG) (q:AL),aP c/\(q.sz<=100000/\CldOk q)/\r=(c.b,c.i,c.h,q.Log,q.Boxes.Epoch,q.Boxes.Boxes,q.History)) (inE z (by decide) λc11 u K m11=> ?_) ?_
  ·obtain⟨k,rfl,hk⟩:∃k:Nat,u=(k:Int)/\k<=61:=⟨u.toNat,by simp at m11;omega,by simp at m11;omega⟩;refine aVz (λi (s:Int×Int×List Int×Int×Int×List AD×Int×List AN×List AH)=>∃(t:Int) (c:AG) (q:AL),aP c/\(q.sz<=1000+600*i/\CldOk q)/\s=(t,(k:Int)-(i:Int),c.b,c.i,c.h,q.Log,q.Boxes.Epoch,q.Boxes.Boxes,q.History)) k (by omega) ⟨0,c11,cl,K,⟨by omega,hnc⟩,by simp⟩ (λi s rec hi hv=> ?_) (λs rec hv=> ?_)
   ·obtain⟨t,c,q,hc,⟨hq,hqc⟩,rfl⟩:=hv;refine bEi (J9 hi) (blS hc λL v B _ _=>bgS (show log.length<=34359738368 by omega) (blS B λc15 D h15 _ _=>bgS (show(1:Nat)<=34359738368 by decide) ?_));show St _ _ _ _ (bd (gd (q.sz<=34359738300/\(mX (IntKind.i64.wrap ((1:Int)+d)) (aK log) (IntKind.i64.wrap (IntKind.i64.wrap (t+1)+v)) (AE.mk [AI.mk (IntKind.i64.wrap ((1:Int)+D)) 0 1 false])).1.sz<=34359738300) (some (dO q (mX (IntKind.i64.wrap ((1:Int)+d)) (aK log) (IntKind.i64.wrap (IntKind.i64.wrap (t+1)+v)) (AE.mk [AI.mk (IntKind.i64.wrap ((1:Int)+D)) 0 1 false])).1))) _);have hb:=aV0 (IntKind.i64.wrap ((1:Int)+d)) (aK log) (IntKind.i64.wrap (IntKind.i64.wrap (t+1)+v)) (AE.mk [AI.mk (IntKind.i64.wrap ((1:Int)+D)) 0 1 false]);generalize(mX (IntKind.i64.wrap ((1:Int)+d)) (aK log) (IntKind.i64.wrap (IntKind.i64.wrap (t+1)+v)) (AE.mk [AI.mk (IntKind.i64.wrap ((1:Int)+D)) 0 1 false])).1=sl at hb;have hu:=(Fa q sl).1;refine bgS ⟨by omega,by show sl.Data.length<=_;omega⟩ (aVy ⟨IntKind.i64.wrap (IntKind.i64.wrap (t+1)+v),c15,(dO q sl).1,h15,⟨by omega,aVl hqc hb.1⟩,?_⟩);show(_,IntKind.i64.wrap ((k:Int)-(i:Int)-1),_,_,_,_,_,_,_)=_;rw[aQg (by omega) hi]
   ·obtain⟨t,c,q,hc,hq,rfl⟩:=hv;exact rD (λq=>absurd (q.symm.trans aQf) (by decide)) λ_=>eD ⟨c,q,hc,⟨by omega,hq.2⟩,rfl⟩
  ·rintro _ ⟨c,q,hc,hq,rfl⟩;exact aDk (n:=w.Hosts.length) (t:=w.aAK.Threshold) (p:=w.Pin) o (W:={w with aAH:=q}) hc (bl bAp (by omega)) hq.2
 ·refine gdE ?_ (aDk (n:=w.Hosts.length) (t:=w.aAK.Threshold) (p:=w.Pin) o (W:={w with Devices:=w.Devices++[AC.mk (AO.mk 0 0 0 0) [] 0 0 0 (AE.mk [])]}) j ?_ hd)
  ·simp only[AA.sz] at H;unfold aL;show w.Devices.length+1<=_;omega
  ·simp only[AA.sz] at H ⊢;simp only[aE,cQ,List.sum_append,cN,bh,fu,du,List.sum_nil,AC.sz,bn];omega
 ·exact aDk (n:=w.Hosts.length) (t:=w.aAK.Threshold) (p:=w.Pin) o (W:=w) j (by omega) hd
def rVt (seed:Int):AS×List AB×Bool:=Fg seed 2 5 3
def aV2 (seed:Int):Bool:=(jT (rVt seed).1 (rVt seed).2.1 [0,2] 5 (gBl seed)).2==(aJ seed [283],true)
def bKj:((List.range 64).all λ(s:Nat)=>aV2 ((s:Int)+1))=true:=by kernel_rfl
def bKk:((List.range 64).all λ(s:Nat)=>aV2 ((s:Int)+65))=true:=by kernel_rfl
def bKl:((List.range 64).all λ(s:Nat)=>aV2 ((s:Int)+129))=true:=by kernel_rfl
def bKm:((List.range 64).all λ(s:Nat)=>aV2 ((s:Int)+193))=true:=by kernel_rfl
def bMj {seed:Int}(h:1<=seed/\seed<=256):aV2 seed=true:=by
 have at_:∀{a:Int},((List.range 64).all λ(s:Nat)=>aV2 ((s:Int)+a))=true->a<=seed->seed<a+64->aV2 seed=true:=λ{a} h h1 h2=>by
  have:=ck.1 h (seed-a).toNat (List.mem_range.2 (by omega));rwa [show(((seed-a).toNat:Nat):Int)+a=seed by omega] at this
 by_cases h1:seed<65
 ·exact at_ bKj (by omega) (by omega)
 ·by_cases h2:seed<129
  ·exact at_ bKk (by omega) (by omega)
  ·by_cases b:seed<193
   ·exact at_ bKl (by omega) (by omega)
   ·exact at_ bKm (by omega) (by omega)
def bG6 {x:AP}(h:x.Kind=5)(hs:x.Seen=false):nE ⟨[x]⟩ 5=some 1:=by
 unfold nE;rw[Af (τ:=Int) (s:=((0:Int),(0:Nat))) (λi (s:Int×Nat)=>s=((i:Int),i)) 1 (some 1) (by omega) rfl (λi s rec hi hv=> ?_) (λs rec hv=> ?_)]
 ·rfl
 ·left;subst hv;refine⟨_,rfl,?_⟩;obtain rfl:i=0:=by omega
  show bd (bd (aW [x] (0:Int)) _) _=_;rw[show aW [x] (0:Int)=some x from rfl,bd_s,h];show bd (bd (bd (some x) λa=>some (!a.Seen)) _) _=_;rw[bd_s,hs];rfl
 ·subst hv;rfl
def bMk {s:Int}(h:1<=s/\s<=256):aX (aT 1 3 2 5 s)=true/\(aT 1 3 2 5 s).sz<=100000/\aT 1 3 2 5 s=⟨0,s,iB s 1,[false],dU s 1,kN (bB s 1) s,(rVt s).1,(rVt s).2.1,5,⟨[]⟩⟩:=by
 have hk:bQ s=true:=iK (by omega) (by omega);have ho:Qg 1 3 2 5 s=true:=by unfold Qg;rw[hk];decide
 obtain⟨h1,h2,a⟩:=aDf ho;refine⟨h1.ok,aDe ..,?_⟩;unfold aT;rw[ho];rfl
def bOf (s:Int)(h:1<=s/\s<=256):(rVt s).1.Threshold=2:=by
 have hv:o9 5 7 (aJ s [283]) (bGo s) 5=true:=by
  have hd:=eP s [283];have hs:(bJ (bGo s) 1019==0)=false:=by rw[cm];refine bJ9 ?_;have:=eP s [293];have:=(fZ this).1;omega
  unfold o9;rw[hd,hs];decide
 unfold rVt Fg vX;rw[show IntKind.i64.wrap (1+(aJ s [293]).tmod 1018)=bGo s from rfl,hv];rfl
def Re (l:List Int)(h:aHu l):uM l=some true:=by
 unfold uM;cases hb:aZ4 l with
 |true=>rfl
 |false=>
  obtain⟨_,e,w,c,p,rfl,o,hd,hl⟩:=bAr (aX9 hb);have hs:=aXq w c p;have hc:(bL w c p).1.aAH=w.aAH:=by unfold bL;cases aX w<;>rfl
  rw[ah,e,bd_s];dsimp only;rw[aB (show w.sz<=34000000000/\c.length<=100000000 from⟨by omega,by omega⟩),bd_s,bd_s];refine aX6 (a:=false) ?_ ?_
  ·have h1:(!(bL w c p).2.2==(bL w c p).2.2)=false:=by simp
   rw[h1,cL,ah,ah,aB (eqT (by omega) (by rw[hc];exact hd))];rfl
  rw[ah,aB (show w.sz<=34359738368 by omega),bd_s];cases ho:aX w with
  |false=>
   have he:(bL w c p).1=w:=by unfold bL;rw[ho];rfl
   rw[db,ac,he,aB (eqT (by omega) hd)];rfl
  |true=>
   have q:=bLz h (aX9 hb) (i:=0) (by omega) (by omega);rw[bf,ah,aB (show(0:Int)<=0 by omega),bd_s,aH (by omega) (by omega)];generalize f:(1:Int)+atF l 0=s;have b:1<=s/\s<=256:=by omega
   obtain⟨n1,n2,n3⟩:=bMk b;rw[aB (show(aT 1 3 2 5 s).sz<=34000000000/\[(0:Int),(2:Int)].length<=100000000 from⟨by omega,by decide⟩),bd_s,aB (show(aT 1 3 2 5 s).sz<=34000000000/\[(1:Int)].length<=100000000 from⟨by omega,by decide⟩),bd_s];have d:=eq_of_beq (show((jT (rVt s).1 (rVt s).2.1 [0,2] 5 (gBl s)).2==(aJ s [283],true))=true from bMj b);have j:bL (aT 1 3 2 5 s) [0,2] 5=(o6 {aT 1 3 2 5 s with Hosts:=(jT (rVt s).1 (rVt s).2.1 [0,2] 5 (gBl s)).1} 5,aJ s [283],true):=by
    unfold bL;rw[n1,bf,ah];have hv:jT (aT 1 3 2 5 s).aAK (aT 1 3 2 5 s).Hosts [0,2] 5 (vY (aT 1 3 2 5 s))=jT (rVt s).1 (rVt s).2.1 [0,2] 5 (gBl s):=by rw[n3];rfl
    rw[hv,d]
   have k:(bL (aT 1 3 2 5 s) [1] 5).2.2=false:=by
    unfold bL;rw[n1,bf,ah];show(jT (aT 1 3 2 5 s).aAK (aT 1 3 2 5 s).Hosts [1] 5 (vY (aT 1 3 2 5 s))).2.2=false;unfold jT;cases !Y7 (aT 1 3 2 5 s).Hosts [1] 5 (vY (aT 1 3 2 5 s)) with
    |true=>rfl
    |false=>
     have ht:decide ((([1]:List Int).length:Int)<(aT 1 3 2 5 s).aAK.Threshold)=true:=by rw[n3];have:(rVt s).1.Threshold=2:=bOf s b;show decide (((1:Nat):Int)<(rVt s).1.Threshold)=true;rw[this];rfl
     rw[ht,Bool.true_or];rfl
   have m:aFp (aT 1 3 2 5 s)=aJ s [283]:=by rw[n3];rfl
   have n:(o6 {aT 1 3 2 5 s with Hosts:=(jT (rVt s).1 (rVt s).2.1 [0,2] 5 (gBl s)).1} 5).Mail=⟨[⟨5,1,0,false⟩]⟩:=by rw[n3];rfl
   rw[j,k,m];simp only[ac,eo,db];rw[n,bG6 rfl rfl];rfl
end
end Go.VK
