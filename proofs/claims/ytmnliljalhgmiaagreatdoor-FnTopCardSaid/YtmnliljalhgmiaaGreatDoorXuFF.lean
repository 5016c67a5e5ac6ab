import Derived.Test.YtmnliljalhgmiaaGreatDoorEVztod
import Derived.Test.YtmnliljalhgmiaaGreatDoorXuS
/- Printed by wip/tools: models, walks, proofs. -/
set_option linter.all false
set_option maxRecDepth 100000
set_option maxHeartbeats 4000000
namespace Go.VK
open Go.RowKit Go.Proofs D
def kT (k:A3):Int:=IntKind.i64.wrap (IntKind.i64.wrap (k.Epoch*1000)+k.Guesses)
def jT (w:AA):Bool:= !w.Hosts.any λh=>decide (h.State.Guesses>h.State.Limit)||decide (kT h.State>h.Monotonic)
theorem bF8 {h v:Int}(h0:0<=h)(h1:h<2147483647):0<=hstep h v/\hstep h v<2147483647:=by
 grind[Int.tmod_nonneg,Int.tmod_lt_of_pos,aK,fE,hstep,pI]
def bF9 (l:List Int):0<=zB l/\zB l<2147483647:=by
 unfold zB
 suffices ∀(l:List Int) (h:Int),0<=h->h<2147483647->0<=l.foldl hstep h/\l.foldl hstep h<2147483647 from(by grind)
 intro l;induction l<;>grind[bF8]
theorem nI (k:Int)(l:List Int):0<=bK k l/\bK k l<2147483647:=bF9 _
def bDp (a b:Int):Int:=bif decide (b>a) then b else a
def rF (a:List Int)(r:List (List Int)):List Int:=a++r.flatten
def kD (n:Int):Int:=bif n==0 then 1 else n
def bL (n:Int):Bool:=bR n 1 2147483646
def Jh (b:List Int):List Int:=[(b.length:Int)]++b.map IntKind.i64.wrap
def aU (seed:Int)(l:List Int):Int:=kD (bK seed ([151]++l))
def pQ (k:Int)(s:ByteArray):Int:=kD (bK k (Jh (cB s)))
def dW (p:Int):Int:=bif !(bL p) then 0 else(IntKind.i64.wrap (p*48271)).tmod 2147483647
def jH (s:AK):Int:=aU s.Seed [181]
def aS (s:AK):Int:=dW (jH s)
def iQ (l:List Int)(x:Int):Bool:=l.any λe=>e==x
def dZ (log:List AF)(p:Int):Bool:=log.any λe=>e.Kind==2&&e.Device==p
def kK (s:List Int)(e:AF):List Int:=
 bif e.Kind==1 then(bif s.contains e.Device then s else s++[e.Device]) else bif e.Kind==2 then s.filter (λd=>d !=e.Device) else s
def aC (log:List AF):List Int:=log.foldl kK []
def aD (log:List AF):Int:=log.foldl (λn e=>bif e.Kind==2 then IntKind.i64.wrap (n+1) else n) 0
def aM (b:AB)(site a:Int):Int:=lL (λe=>e.Site==site&&e.Handle==a) 0 b.Entries
def aI (s:AC)(id:Int):Int:=lL (λa=>a.Id==id) 0 s.Accounts
theorem aOm (s:List Int)(x:AF):(kK s x).length<=s.length+1:=by
 grind[List.length_filter_le,kK]
def iB (log:List AF):(aC log).length<=log.length:=by
 suffices ∀(l:List AF) (s:List Int),(l.foldl kK s).length<=s.length+l.length from by grind[aC]
 intro l;induction l<;>grind[List.length_cons,kK,List.length_filter_le]
def bGa {n:Int}(h:0<=n):bDp 1 n=kD n:=by
 grind[bDp,kD]
def bD (s:ByteArray):Int:=pQ 173 s
def F4 (w:AA):Prop:=w.Devices.length<=34359738368/\w.Stolen.length<=34359738368/\w.aAE.Log.length<=34359738368/\w.Sites.length<=34359738368
instance (w:AA):Decidable (F4 w):=inferInstanceAs (Decidable (_/\_))
def aL (w:AA)(d:Int):Bool:=decide (0<=d)&&decide (d<w.Devices.length)
def aH (w:AA)(d:Int):AD:=w.Devices.getD d.toNat default
theorem qI {w:AA}{d:Int}(h:aL w d=true):bC w.Devices d=some (aH w d):=by
 grind[aH,List.getD,List.getElem?_eq_getElem,kJ,aL]
def bF (w:AA)(d:Int):Bool:=aL w d&&iQ (aC w.aAE.Log) (aS (aH w d).Store)
def wI (w:AA)(d:Int):Bool:=aL w d&&dZ w.aAE.Log (aS (aH w d).Store)
def Uu (w:AA)(i:Nat):Bool:=bF w i&&(decide (i<w.Stolen.length)&& !w.Stolen.getD i false)
def bB (w:AA):List Int:=((List.range w.Devices.length).filter (Uu w)).map Int.ofNat
def p8 (d:Int)(s:AC):Bool:= !decide (aI s 1<0)&&(s.Accounts.getD (aI s 1).toNat default).Credentials.any λc=>c.Handle==d&& !c.Cut
def sP (w:AA)(d:Int):Bool:= !wI w d||(!bF w d&& !(w.Sites.take 2).any (p8 d))
def kU (a b:AB):Bool:=a.Entries.length==b.Entries.length&&(List.zipWith AG.eqB a.Entries b.Entries).all id
def aTp (a b:AD):Bool:=kU a.aAC b.aAC&&(a.Epoch==b.Epoch&&(a.Version==b.Version&&a.Key==b.Key))
def bBp (w:AA):Bool:=(bB w).all λi=>aTp (aH w ((bB w).getD 0 0)) (aH w i)
def bL4 {α:Type}{e:α->α->Bool}:∀{l r:List α},((l.zip r).any λp=> !e p.1 p.2)= !(List.zipWith e l r).all id
 |[],r=>by simp
 |x::xs,[]=>by simp
 |x::xs,y::ys=>by simp[bL4]
def F4.of {w:AA}(h:w.sz<=1048576):F4 w:=by
 grind[F4,AA.sz,AO.sz]
def bBq (w:AA):∀x∈bB w,aL w x=true:=by
 grind[aL,bB]
def bDq (k:Int)(i:Nat)(z:Int):Int:=IntKind.u8.wrap ((z-bK k [(i:Int)])%256)
def Uv (k:Int)(b:List Int):List Int:=Rx (λi z=>[bDq k i z]) 0 b
theorem bGb (x:Int):fE (IntKind.i64.wrap x) 256=x%256:=by
 grind[fE,IntKind.wrap_i64]
theorem bSl (k:Int)(i:Nat)(z:Int):IntKind.u8.wrap (fE (IntKind.i64.wrap (IntKind.i64.wrap z-bK k [(i:Int)])) 256)=bDq k i z:=by
 grind[bGb,bDq,IntKind.wrap_i64]
theorem bSm (k:Int)(i:Nat)(z:Int):IntKind.u8.wrap (fE (IntKind.i64.wrap (IntKind.i64.wrap z-(bK k [(i:Int)]).tmod 256)) 256)=bDq k i z:=by
 grind[bGb,bDq,IntKind.wrap_i64,Int.tmod_eq_emod_of_nonneg,nI]
def uC {α β:Type}{y:Nat->α->β}:∀{i:Nat} {l:List α},(Rx (λi x=>[y i x]) i l).length=l.length
 |i,[]=>rfl
 |i,x::xs=>by simp[Rx,uC]
def iN (p e:Int):Int:=aU p [163,e]
def Uw (k:Int)(b:AN):Int:=bK k ([167,b.To,b.Ephemeral]++Jh b.Data)
def gT (p:Int)(b:AN):List Int×Bool:=
 bif !bL p||(b.To !=dW p||(!bL b.Ephemeral||decide ((b.Data.length:Int)>200))) then([],false)
 else bif b.MAC !=Uw (iN p b.Ephemeral) b then([],false) else(Uv (iN p b.Ephemeral) b.Data,true)
def iJ:List AN->Int->List Int×Bool
 |[],_=>([],false)
 |b::bs,p=>bif (gT p b).2 then((gT p b).1,true) else iJ bs p
def aZ (b:List Int):Prop:=b.length<=34359738368/\b.all (λz=>decide (0<=z)&&decide (z<=255))=true
instance (b:List Int):Decidable (aZ b):=inferInstanceAs (Decidable (_/\_))
theorem xQ {b:List Int}(h:aZ b){i:Nat}(hi:i<b.length):0<=b[i]/\b[i]<=255:=by have:=cC.1 h.2 b[i] (bw hi);simp_all
def uvG (b:List Int)(p:Nat):Nat->Nat->Int->Int×Int×Bool
 |0,_,_=>(0,0,false)
 |k+1,i,n=>
  if p+i<b.length then
   bif decide (b.getD (p+i) 0<128) then
    (bif (decide (0<i)&&b.getD (p+i) 0==0)||decide (n+b.getD (p+i) 0%128*128^i>1000000000000) then(0,0,false) else(n+b.getD (p+i) 0%128*128^i,((p+i+1:Nat):Int),true))
   else uvG b p k (i+1) (n+b.getD (p+i) 0%128*128^i)
  else(0,0,false)
def Ew (b:List Int)(at_:Int):Int×Int×Bool:=if at_<0 then(0,0,false) else uvG b at_.toNat 6 0 0
def bDr {i:Nat}(h:i<=6):(1:Int)<=128^i/\(128:Int)^i<=4398046511104:=by
 match i,h with
 |0,_|1,_|2,_|3,_|4,_|5,_|6,_=>decide
def bDs {z n:Int}{i:Nat}(hi:i<=5)(b:0<=z)(hn:0<=n)(a:n<128^i):0<=n+z%128*128^i/\n+z%128*128^i<128^(i+1)/\0<=z%128*128^i/\z%128*128^i<=127*128^i:=by have hp:=bDr (i:=i) (by omega);have h1:0<=z%128*128^i:=jt (by omega) (by omega);have h2:z%128*128^i<=127*128^i:=Int.mul_le_mul_of_nonneg_right (by omega) (by omega);omega
def bWd {z n:Int}{i:Nat}(hi:i<=5)(h:0<=z)(j:z<=255)(hn:0<=n)(c:n<128^i):
  orI .i64 n (aEb .i64 (qV .i64 z 127) (IntKind.i64.wrap (7*(i:Int))))=n+z%128*128^i:=by
 obtain⟨m,rfl⟩:=dT h;obtain⟨q,rfl⟩:=dT hn;have hp:=bDr (i:=i) (by omega);have hs:=bDs (z:=(m:Int)) (n:=(q:Int)) hi (by omega) (by omega) c;have t:qV .i64 (m:Int) 127=((m%128:Nat):Int):=by
  have e:((BitVec.ofInt 64 (m:Int))&&&(BitVec.ofInt 64 127)).toNat=m%128:=by
   rw[BitVec.toNat_and];have k:(BitVec.ofInt 64 (m:Int)).toNat=m:=by
    grind
   have l:(BitVec.ofInt 64 127).toNat=2^7-1:=by decide
   rw[k,l,gi]
  show IntKind.i64.wrap (((BitVec.ofInt 64 (m:Int))&&&(BitVec.ofInt 64 127)).toNat:Int)=_
  grind[aK]
 have u:IntKind.i64.wrap (7*(i:Int))=((7*i:Nat):Int):=by grind[aK]
 have d:(2:Nat)^(7*i)=128^i:=by rw[Nat.pow_mul]
 have o:((128^i:Nat):Int)=(128:Int)^i:=by simp
 have hb:aEb .i64 (qV .i64 (m:Int) 127) (IntKind.i64.wrap (7*(i:Int)))=((m%128*128^i:Nat):Int):=by
  grind[aK,Int.toNat_natCast,min,Nat.min_eq_left,IntKind.bits,aEb]
 rw[hb];have a:q<128^i:=by omega
 have f:(m%128*128^i)|||q=m%128*128^i+q:=by
  have:=jm (b:=q) (i:=7*i) (by rw[d];exact a) (m%128)
  grind[Nat.shiftLeft_eq]
 have p:m%128*128^i+q<2^63:=by
  grind
 have v:((BitVec.ofInt 64 (q:Int))|||(BitVec.ofInt 64 ((m%128*128^i:Nat):Int))).toNat=m%128*128^i+q:=by
  rw[BitVec.toNat_or];have r:(BitVec.ofInt 64 (q:Int)).toNat=q:=by grind
  have s:(BitVec.ofInt 64 ((m%128*128^i:Nat):Int)).toNat=m%128*128^i:=by rw[BitVec.toNat_ofInt];omega
  rw[r,s,Nat.or_comm,f]
 show IntKind.i64.wrap (((BitVec.ofInt 64 (q:Int))|||(BitVec.ofInt 64 ((m%128*128^i:Nat):Int))).toNat:Int)=_
 grind[aK]
def lS (b:List Int):Nat->Int->List Int->List Int×Int×Bool
 |0,a,s=>(s,a,true)
 |k+1,a,s=>bif (Ew b a).2.2 then lS b k (Ew b a).2.1 (s++[(Ew b a).1]) else([],0,false)
def jZ (b:List Int)(a c:Int):List Int×Int×Bool:=bif !bR c 0 100|| !bR a 0 b.length then([],0,false) else lS b c.toNat a []
theorem bGc (b:List Int):∀(k:Nat) (a:Int) (s:List Int),(lS b k a s).2.2=true->(lS b k a s).1.length=s.length+k
 |0,a,s,_=>rfl
 |k+1,a,s,h=>by
  unfold lS at h ⊢;cases c:(Ew b a).2.2 with
  |false=>rw[c] at h;simp at h
  |true=>rw[c] at h;simp only[ae] at h ⊢;rw[bGc b k _ _ h];simp;omega
theorem decode_len {b:List Int}{a c:Int}(hc:0<=c)(h:(jZ b a c).2.2=true):(jZ b a c).1.length=c.toNat:=by
 grind[bR,bGc,jZ]
theorem bDt {k:Int}{b:List Int}(h:b.length<=34359738368):aZ (Uv k b):=by
 refine⟨by unfold Uv;rw[uC];exact h,?_⟩;rw[cC];intro z a;have:∀(b:List Int) (i:Nat),z∈Rx (λi z=>[bDq k i z]) i b->0<=z/\z<=255:=by
  intro b;induction b with
  |nil=>simp[Rx]
  |cons x xs c=>
   intro i h;simp only[Rx,ca,cp] at h;rcases h with rfl|h
   ·have:=eU .u8 ((x-bK k [(i:Int)])%256);assumption
   grind
 have:=this b 0 a;simp[*]
def bJl (p:Int)(b:AN):aZ (gT p b).1:=by
 grind[decide,bL,dW,Uw,iN,bDt,aZ,gT]
theorem aAd (p:Int):∀bs,aZ (iJ bs p).1
 |[]=>show aZ [] by decide
 |b::bs=>by
  unfold iJ;cases(gT p b).2 with
  |true=>exact bJl p b
  |false=>exact aAd p bs
def Pd (e:AM)(x:List Int×Bool)(y:List Int×Int×Bool):Int×Bool:=
 bif !x.2||(!y.2.2||(y.2.1 !=(x.1.length:Int)||(y.1.getD 0 0 !=e.Epoch|| !bL (y.1.getD 1 0)))) then(0,false) else(y.1.getD 1 0,true)
def dM (s:AK)(e:AM):Int×Bool:=Pd e (iJ e.Boxes (jH s)) (jZ (iJ e.Boxes (jH s)).1 0 2)
def rY (w:AA)(d:Int):Bool:=aL w d&&(!bF w d||((aH w d).Epoch !=aD w.aAE.Log||(aH w d).Key==(dM (aH w d).Store w.aAE.Boxes).1))
theorem and_one {n:Int}(h0:0<=n)(h1:n<9223372036854775808):qV .i64 n 1=n%2:=by
 obtain⟨m,rfl⟩:=dT h0;have e:((BitVec.ofInt 64 (m:Int))&&&(BitVec.ofInt 64 1)).toNat=m%2:=by
  rw[BitVec.toNat_and];have a:(BitVec.ofInt 64 (m:Int)).toNat=m:=by grind
  have b:(BitVec.ofInt 64 1).toNat=2^1-1:=by decide
  rw[a,b,gi]
 show IntKind.i64.wrap (((BitVec.ofInt 64 (m:Int))&&&(BitVec.ofInt 64 1)).toNat:Int)=_
 grind[aK]
theorem bL6 {n:Int}(h0:0<=n):Jc .i64 n 1=n/2:=by unfold Jc;rw[show min (Int.toNat 1) IntKind.i64.bits=1 from by decide,gp _ (by decide)];rfl
def bOw:Nat->Int->Int->Int->Int
 |0,_,_,s=>s
 |k+1,b,n,s=>if n>0 then bOw k ((IntKind.i64.wrap (b*b)).tmod 2147483647) (n/2) (bif n%2==1 then(IntKind.i64.wrap (s*b)).tmod 2147483647 else s) else s
def bL7:bOw 31 48271 2147483645 1=1899818559:=by decide+kernel
def iC (q:Int):Int:=bif !bL q then 0 else q*1899818559%2147483647
def sQ (p:Int)(l:List Int):Int:=bif !bL p then 0 else bK p ([139,(l.length:Int)]++l)
def iT (q:Int)(l:List Int)(g:Int):Bool:=iC q !=0&&sQ (iC q) l==g
theorem Ux {α:Type}[Inhabited α]{l:List α}{i:Nat}(h0:0<i)(hi:i<l.length)(hl:l.length<=34359738368):bC l (IntKind.i64.wrap ((i:Int)-1))=some (l.getD (i-1) default):=by
 grind[List.getD,List.getElem?_eq_getElem,aK,aN]
def Ke (l:List AX)(i:Nat)(n:AX):Bool:= !bR n.Kind 1 5||(!bR n.aAH 0 1000000||(!bR n.Time 0 1000000||(decide (0<i)&&decide ((l.getD (i-1) default).Time>n.Time))))
def kL (m:AU):Bool:=decide (m.Notices.length<=30)&& !gJ (Ke m.Notices) 0 m.Notices
def iU (b:AQ)(i:Nat)(n:A4):Bool:= !bR n.Id 0 (IntKind.i64.wrap (b.Next-1))||((decide (0<i)&&decide ((b.Open.getD (i-1) default).Id>=n.Id))||(!bR n.aAH 0 1000005|| !bR n.Until 0 1000005))
def eX (b:AQ):Bool:=bR b.Next 0 1000000&&decide (b.Open.length<=16)&& !gJ (iU b) 0 b.Open
def xH (a:AI)(i:Nat)(n:AV):Bool:=(!bR n.Handle 0 1000000||((decide (0<i)&&decide ((a.Credentials.getD (i-1) default).Handle>=n.Handle))||(iC n.Public==0|| !bR n.Counter 0 1000000)))||(a.Credentials.take i).any λq=>q.Public==n.Public
def bA (a:AI):Bool:=bR a.Id 0 1000000&&bR a.Minimum 1 3&&decide (a.Credentials.length<=8)&& !gJ (xH a) 0 a.Credentials
def dG (e:AF):Int:=zB [229,e.Index,e.Kind,e.Device,e.By,e.Previous]
def iW (l:List AF):Int:=bif (l.length:Int)==0 then 0 else dG (l.getD (l.length-1) default)
def lT (l:List AF)(e:AF):Bool:=
 e.Index==(l.length:Int)&&(e.Previous==iW l&&((iQ (aC l) e.By||((l.length:Int)==0&&e.By==e.Device))&&(iT e.By [dG e] e.Signature&&
  (bif e.Kind==2 then iQ (aC l) e.Device&&decide (((aC l).length:Int)>1) else !dZ l e.Device&&(e.Kind==1&&(!iQ (aC l) e.Device&&decide (((aC l).length:Int)<6)))))))
def aT (l:List AF):Bool:=bR (l.length:Int) 1 40&& !gJ (λi e=> !lT (l.take i) e) 0 l
theorem bSn {l:List Int}{x:Int}(h:iQ l x=true):0<l.length:=by
 grind[iQ]
def kV:List UInt8->List UInt8->List (List UInt8)
 |cur,[]=>[cur]
 |cur,b::r=>bif b==46 then cur::kV [] r else kV (cur++[b]) r
def bSo (s:List UInt8)(i:Nat):Lib.occAt s [46] i=decide (s[i]? =some 46):=by
 unfold Lib.occAt;cases h:s.drop i with
 |nil=>simp_all
 |cons b r=>
  have e:s[i]? =some b:=by have:=fb (xs:=s) (i:=i) (j:=0);simp_all
  grind
def aTq:∀(a cur r:List UInt8),(∀b∈a,b≠46)->kV cur (a++46::r)=(cur++a)::kV [] r
 |[],cur,r,_=>by simp[kV]
 |b::a,cur,r,h=>by
  have hb:(b==46)=false:=by simpa using h b (by simp)
  rw[cM,kV,hb,ac,aTq a _ r (λx c=>h x (cb _ c))];simp
def aOn:∀(a cur:List UInt8),(∀b∈a,b≠46)->kV cur a=[cur++a]
 |[],cur,_=>by simp[kV]
 |b::a,cur,h=>by
  have hb:(b==46)=false:=by simpa using h b (by simp)
  rw[kV,hb,ac,aOn a _ (λx c=>h x (cb _ c))];simp
def bGd:∀(n:Nat) (s:List UInt8),s.length<n->Lib.splitK [46] 0 (Lib.count s [46]) s=kV [] s
 |0,s,h=>absurd h (Nat.not_lt_zero _)
 |n+1,s,h=>by
  rcases Lib.index_spec s [46] with⟨h1,h2⟩|⟨i,h1,h2,a,m⟩
  ·rw[Lib.count_miss h1,aOn s [] (λb hb e=>by
    obtain⟨j,d,c⟩:=ij hb;have:=h2 j (by omega);rw[bSo,aa d,c,e] at this;simp at this)];rfl
  ·rw[bSo] at a;have a:s[i]? =some 46:=by simpa using a
   have hi:i<s.length:=by
    rcases e8 i s.length with f|k
    ·exact f
    ·rw[fj k] at a;cases a
   rw[Lib.count_hit (by simp) h1,Nat.add_comm,Lib.splitK,h1];have l:((i:Int)== -1)=false:=by simp
   rw[l];simp only[bn,dx,ao,bu,ct];rw[dh (by simp),bGd n (s.drop (i+1)) (by rw[cA];omega)];have es:s=s.take i++46::s.drop (i+1):=by
    have o:s[i]=46:=by rw[aa hi] at a;exact ak a
    rw[<-o,List.getElem_cons_drop hi,cJ]
   conv=>rhs;rw[es]
   rw[aTq (s.take i) [] _ (λb hb e=>by
    obtain⟨j,d,c⟩:=ij hb;rw[cu] at d;have:=m j (by omega);rw[bSo,aa (by omega)] at this;rw[jb] at c;rw[c,e] at this;simp at this)];simp
def bO (s:ByteArray):List ByteArray:=(kV [] s.data.toList).map λl=>⟨l.toArray⟩
def aTr (s:ByteArray):mP s ⟨#[46]⟩=bO s:=by
 have h1:(mP s ⟨#[46]⟩).map (·.data.toList)=kV [] s.data.toList:=by rw[mP,Lib.splitB_data];exact bGd _ _ (eJ _)
 unfold bO;rw[<-h1,gm]
 conv=>lhs;rw[<-List.map_id (mP s ⟨#[46]⟩)]
 congr 1
def aEy (b:Int):Bool:=bR b 97 122||bR b 48 57||b==45
def xR (s:ByteArray):Bool:=decide (1<=s.size)&&decide (s.size<=20)&& !((cB s).getD 0 0==45)&& !((cB s).getD (s.size-1) 0==45)&& !((cB s).any λb=> !aEy b)
def iX (s:ByteArray):Bool:=decide (s.size<=60)&& !((bO s).any λl=> !xR l)
def kW (s:ByteArray):(cB s).length=s.size:=by simp[cB,bg]
theorem bGe {s:ByteArray}{i:Nat}(h:i<s.size):bC (cB s) (i:Int)=some ((cB s)[i]'(by rw[kW];exact h)):=aN _
def ext_list (s:ByteArray)(a b:Nat):s.extract a b=⟨((s.data.toList.drop a).take (b-a)).toArray⟩:=by apply ByteArray.ext;apply jl.1;rw[Lib.extract_data]
def aAe:∀(s cur:List UInt8),(kV cur s).length<=s.length+1
 |[],_=>by simp[kV]
 |b::r,cur=>by
  rw[kV];cases b==46 with
  |true=>have:=aAe r [];simp;omega
  |false=>have:=aAe r (cur++[b]);simp at this ⊢;omega
def Uy:∀(s cur:List UInt8) (l:List UInt8),l∈kV cur s->l.length<=cur.length+s.length
 |[],cur,l,h=>by simp[kV] at h;subst h;simp
 |b::r,cur,l,h=>by
  rw[kV] at h;cases hb:b==46 with
  |true=>
   rw[hb,ae] at h;rcases ba.1 h with rfl|h
   ·omega
   ·have:=Uy r [] l h;simp at this ⊢;omega
  |false=>rw[hb,ac] at h;have:=Uy r _ l h;simp at this ⊢;omega
def Uz (s:ByteArray):(bO s).length<=s.size+1:=by unfold bO;rw[bg];exact aAe _ _
def Aq (s l:ByteArray)(h:l∈bO s):l.size<=s.size:=by unfold bO at h;obtain⟨q,hq,rfl⟩:=cn.1 h;have:=Uy _ _ q hq;have h2:(⟨q.toArray⟩:ByteArray).size=q.length:=rfl;simp_all
theorem cCi (z:ByteArray):(z.toList==(⟨#[]⟩:ByteArray).toList)=decide (z.size=0):=by
 rw[ByteArray.toList_eq,ByteArray.toList_eq,fN];simp only[cW,cm];constructor
 ·intro h;show z.data.size=0;simp_all
 simp_all
def Ar:∀(s cur:List UInt8),(kV cur s).length=s.countP (·==46)+1
 |[],_=>rfl
 |b::r,cur=>by
  rw[kV,List.countP_cons];cases b==46 with
  |true=>rw[ae,ao,Ar r []];simp
  |false=>rw[ac,Ar r _];simp
def aOo (s:ByteArray):0<(bO s).length:=by simp[bg,Ar,bO]
def p9 (s:ByteArray):Bool:=(cB s).any λb=>b==46
theorem aYi (s:ByteArray):p9 s=decide (2<=(bO s).length):=by
 unfold p9 bO cB;rw[bg,Ar,List.any_map];have e:(λb:Int=>b==46)∘(λb:UInt8=>(b.toNat:Int))=λb:UInt8=>b==46:=by
  funext b;rw[fN];simp only[Function.comp,cW];constructor
  ·intro q;apply UInt8.toNat_inj.1;grind
  simp_all
 rw[e,fN,eM,cm];simp
def bOx (s:ByteArray):ByteArray:=bif iX s then(bif (bO s).length==1 then s else sN ⟨#[46]⟩ ((bO s).drop ((bO s).length-2))) else⟨#[]⟩
def bX2 {l:List ByteArray}(h:2<=l.length):∃a∈l,∃b∈l,sN ⟨#[46]⟩ (l.drop (l.length-2))=a++⟨#[46]⟩++b:=by
 have hl:(l.drop (l.length-2)).length=2:=by grind
 match hm:l.drop (l.length-2),hl with
 |[a,b],_=>refine⟨a,df (i:=l.length-2) (by rw[hm];simp),b,df (i:=l.length-2) (by rw[hm];simp),?_⟩;rw[show[a,b]=[a]++[b] from rfl,bVf _ _ _ (by simp),bVe]
theorem Va {s:ByteArray}(h:iX s=true):s.size<=60/\0<s.size:=by
 unfold iX at h;rw[ab,cm] at h;refine⟨h.1,Nat.pos_of_ne_zero λe=> ?_⟩
 have a:s.data.toList=[]:=cf e;have b:bO s=[⟨#[]⟩]:=by unfold bO;rw[a];rfl
 rw[b] at h;exact absurd h.2 (by decide)
theorem bWe {s:ByteArray}(h:iX s=true):decide ((bOx s).size=0)=false:=by
 have hs:=Va h;have hp:=aOo s;unfold bOx;rw[h,ae];refine au ?_;cases h1:(bO s).length==1 with
 |true=>grind
 |false=>
  rw[ac];have:(bO s).length≠1:=by simp_all
  obtain⟨a,_,b,_,e⟩:=bX2 (l:=bO s) (by omega);rw[e,ByteArray.size_append,ByteArray.size_append];have:(⟨#[46]⟩:ByteArray).size=1:=rfl;omega
def lF (s:ByteArray)(seed:Int):Bool:=iX s&&decide (2<=(bO s).length)&&bL seed
def Pe (l:List AI)(i:Nat)(n:AI):Bool:= !bA n||(decide (0<i)&&decide ((l.getD (i-1) default).Id>=n.Id))
def bY (s:AC):Bool:=lF s.Name s.Book.Seed&&decide (s.Accounts.length<=8)&&eX s.Book&& !gJ (Pe s.Accounts) 0 s.Accounts
def SOk (s:AC):Prop:=s.Name.size<=34359738368/\s.Accounts.length<=34359738368/\s.Book.Open.length<=34359738368/\∀a∈s.Accounts,a.Credentials.length<=34359738368
instance (s:AC):Decidable (SOk s):=inferInstanceAs (Decidable (_/\_))
def iD (name:ByteArray)(seed:Int):AC:=bif lF name seed then⟨name,[],⟨seed,0,[]⟩,[]⟩ else⟨⟨#[]⟩,[],⟨0,0,[]⟩,[]⟩
def bJm (name:ByteArray)(seed:Int):decide ((iD name seed).Name.size=0)= !lF name seed:=by
 unfold iD;cases h:lF name seed with
 |false=>rfl
 |true=>
  grind[decide_eq_false,Va,iX,lF]
def aA (i:Int):ByteArray:=bif i==0 then⟨#[98,97,110,107,46,99,111,109]⟩ else bif i==1 then⟨#[115,104,111,112,46,111,114,103]⟩ else⟨#[]⟩
def uD (i:Nat)(s:AC):Bool:= !bY s|| !(s.Name.toList==(aA (i:Int)).toList)
def aP (w:AA):Bool:=bR w.Now 0 999900&&bR (w.Devices.length:Int) 1 6&&(w.Stolen.length:Int)==(w.Devices.length:Int)&&(w.Sites.length:Int)==2&&kL w.Mail&&aT w.aAE.Log&&bL w.Seed&& !gJ uD 0 w.Sites
def cAk (w:AA):Prop:=F4 w/\w.Mail.Notices.length<=34359738368/\w.Hosts.length<=34359738368/\∀s∈w.Sites,SOk s
instance (w:AA):Decidable (cAk w):=inferInstanceAs (Decidable (_/\_))
theorem aJ9 {α:Type}{g:α->Nat}{x:α}:∀{l:List α},x∈l->g x<=(l.map g).sum
 |y::r,h=>by
  rw[bo,dw];rcases ba.1 h with rfl|h
  ·omega
  ·have:=aJ9 (g:=g) h;omega
def SOk.of {s:AC}(h:s.sz<=1048576):SOk s:=by
 simp only[AC.sz] at h;refine⟨by omega,by omega,by omega,λa b=> ?_⟩
 grind[AI.sz,aJ9]
def cAk.of {w:AA}(h:w.sz<=1048576):cAk w:=by
 refine⟨F4.of h,?_,?_,λs hs=>SOk.of ?_⟩
 all_goals grind[aJ9,AC.sz,AA.sz]
def aTs (w:AA)(i:Nat)(_:AD):Bool:= !sP w (i:Int)|| !rY w (i:Int)
def aAf (w:AA):Bool:=aP w&&jT w&& !gJ (aTs w) 0 w.Devices
abbrev Fs (a:List Int)(r:List (List Int)):Prop:=a.length+r.flatten.length<=68719476736/\r.length<=1099511627776
def fA (w:AA)(i:Int):Bool:=decide (0<=i)&&decide (i<w.Sites.length)
def mI (a:AI):List Int:=a.Credentials.map λc=>c.Public
def q9 (s:AC):List Int:=(s.Accounts.map mI).flatten
def sS (w:AA)(i:Int):List Int:=bif fA w i then q9 (w.Sites.getD i.toNat default) else[]
def dX (a b:AG):Bool:=decide (a.Site<b.Site)||(a.Site==b.Site&&decide (a.Handle<b.Handle))
def nD (a:AG)(s h:Int):Bool:=decide (a.Site<s)||(a.Site==s&&decide (a.Handle<h))
def qW (x e:AG):Bool:=decide (x.Version>e.Version)||(x.Version==e.Version&&x.Deleted)
def qR (e x:AG):AG:=bif qW x e then x else e
def bG:List AG->List AG->List AG
 |[],bs=>bs
 |a::xs,[]=>a::xs
 |a::xs,b::bs=>bif dX a b then a::bG xs (b::bs) else bif dX b a then b::bG (a::xs) bs else qR a b::bG xs bs
termination_by xs bs=>xs.length+bs.length
def Vb (l:List AG)(i:Nat)(e:AG):Bool:= !bR e.Site 0 2147483646||(!bR e.Handle 0 1000000||(!bR e.Version 1 1000000||(decide ((i:Int)>0)&& !dX (l.getD (i-1) default) e)))
def aO (b:AB):Bool:=decide ((b.Entries.length:Int)<=20)&& !gJ (Vb b.Entries) 0 b.Entries
def dY (a b:AB):AB×Bool:=bif aO a&&aO b then(bif aO ⟨bG a.Entries b.Entries⟩ then(⟨bG a.Entries b.Entries⟩,true) else(a,false)) else(a,false)
def qJ (b:AB)(x:AG):AB:=bif decide (aM b x.Site x.Handle>=0) then⟨b.Entries.set (aM b x.Site x.Handle).toNat x⟩ else⟨b.Entries.takeWhile (λe=>nD e x.Site x.Handle)++[x]++b.Entries.dropWhile (λe=>nD e x.Site x.Handle)⟩
theorem Bd {a b:AG}:dX a b=true↔a.Site<b.Site\/(a.Site=b.Site/\a.Handle<b.Handle):=by simp[dX]
def bJn {a x:AG}:nD a x.Site x.Handle=dX a x:=rfl
theorem pR {a b c:AG}(h:dX a b=true)(k:dX b c=true):dX a c=true:=by
 grind[Bd]
def Ca {a b:AG}(h:dX a b=false)(k:dX b a=false):a.Site=b.Site/\a.Handle=b.Handle:=by
 grind[Bd]
def Be {a b c:AG}(h:a.Site=b.Site/\a.Handle=b.Handle):dX a c=dX b c:=by unfold dX;rw[h.1,h.2]
def aTt {a b c:AG}(h:a.Site=b.Site/\a.Handle=b.Handle):dX c a=dX c b:=by unfold dX;rw[h.1,h.2]
def aEz {a b:AG}(h:a.Site=b.Site/\a.Handle=b.Handle):(qR a b).Site=b.Site/\(qR a b).Handle=b.Handle:=by
 grind[qW,qR]
def bL8 (a b:AG):qR a b=a\/qR a b=b:=by
 grind[qW,qR]
theorem fO (l:List AG):bG l []=l:=by cases l<;>rw[bG]
def kE (l:List AG):bG [] l=l:=by rw[bG]
def Bf:∀(n:Nat) (a b:List AG),a.length+b.length<=n->(bG a b).length<=a.length+b.length
 |_,[],b,_=>by rw[kE];simp
 |_,a::xs,[],_=>by rw[fO];simp
 |0,a::xs,b::bs,h=>by simp at h
 |n+1,a::xs,b::bs,h=>by
  simp only[ao] at h;rw[bG];cases dX a b with
  |true=>have:=Bf n xs (b::bs) (by simp only[ao];omega);simp only[ae,ao] at*;omega
  |false=>
   cases dX b a with
   |true=>have:=Bf n (a::xs) bs (by simp only[ao];omega);simp only[ac,ae,ao] at*;omega
   |false=>have:=Bf n xs bs (by omega);simp only[ac,ao] at*;omega
def wJ (a b:AG)(xs bs:List AG):bG (a::xs) (b::bs)=bif dX a b then a::bG xs (b::bs) else bif dX b a then b::bG (a::xs) bs else qR a b::bG xs bs:=by rw[bG]
def r9 (l:List AG):Prop:=l.Pairwise λa b=>dX a b=true
def bBr:∀(A:List AG) {b:AG} {bs:List AG},r9 (b::bs)->bG (bG A [b]) bs=bG A (b::bs)
 |[],b,bs,h=>by
  rw[kE,kE];cases bs with
  |nil=>rw[fO]
  |cons c cs=>rw[bG,(cj.1 h).1 c (by simp),ae,kE]
 |a::xs,b,bs,h=>by
  have hc:=(cj.1 h).1;rw[wJ a b xs [],wJ a b xs bs];cases h1:dX a b with
  |true=>
   simp only[ae];cases bs with
   |nil=>rw[fO]
   |cons c cs=>rw[bG,pR h1 (hc c (by simp)),ae,bBr xs h]
  |false=>
   cases h2:dX b a with
   |true=>
    simp only[ae,ac];rw[fO];cases bs with
    |nil=>rw[fO,fO]
    |cons c cs=>rw[bG,hc c (by simp),ae]
   |false=>
    simp only[ac];rw[fO];cases bs with
    |nil=>rw[fO,fO]
    |cons c cs=>rw[bG,Be (aEz (Ca h1 h2)),hc c (by simp),ae]
def bL9:∀{l:List AG} {x y:AG},y∈bG l [x]->y∈l\/y=x
 |[],x,y,h=>by rw[kE] at h;simp at h;exact .inr h
 |a::xs,x,y,h=>by
  rw[bG] at h;cases h1:dX a x with
  |true=>
   rw[h1,ae] at h;rcases ba.1 h with rfl|h
   ·exact .inl (by simp)
   ·exact(bL9 h).imp (λh=>by simp[h]) id
  |false=>
   rw[h1,ac] at h;cases h2:dX x a with
   |true=>
    rw[h2,ae,fO] at h;rcases ba.1 h with rfl|h
    ·exact .inr rfl
    ·exact .inl h
   |false=>
    rw[h2,ac,fO] at h;rcases ba.1 h with rfl|h
    ·rcases bL8 a x with e|e
     ·rw[e];exact .inl (by simp)
     ·exact .inr e
    ·exact .inl (by simp[h])
theorem bMa:∀{l:List AG} {x:AG},r9 l->r9 (bG l [x])
 |[],x,h=>by rw[kE];exact List.pairwise_singleton _ _
 |a::xs,x,h=>by
  obtain⟨c,hs⟩:=cj.1 h;rw[bG];cases h1:dX a x with
  |true=>
   rw[ae];refine cj.2 ⟨λy b=> ?_,bMa hs⟩;rcases bL9 b with b|rfl
   ·exact c y b
   ·exact h1
  |false=>
   cases h2:dX x a with
   |true=>
    rw[ac,ae,fO];refine cj.2 ⟨λy b=> ?_,h⟩;rcases ba.1 b with rfl|b
    ·exact h2
    ·exact pR h2 (c y b)
   |false=>rw[ac,ac,fO];have hk:=Ca h1 h2;refine cj.2 ⟨λy b=> ?_,hs⟩;rw[Be (aEz hk),<-Be hk];exact c y b
def aTu:∀(B A:List AG),r9 B->B.foldl (λo x=>bG o [x]) A=bG A B
 |[],A,_=>by rw[fO];rfl
 |b::bs,A,h=>by rw[de,aTu bs _ (cj.1 h).2,bBr A h]
theorem Vd {α:Type}{p:α->Bool}:∀{l:List α} {i:Nat},lL p i l<0->∀y∈l,p y=false
 |[],i,_,y,a=>by simp at a
 |x::l,i,h,y,a=>by
  simp only[lL] at h;cases hp:p x with
  |true=>rw[hp,ae] at h;omega
  |false=>
   rw[hp,ac] at h;rcases ba.1 a with rfl|a
   ·exact hp
   ·exact Vd h y a
def w9 {α:Type}{p:α->Bool}:∀{l:List α} {i:Nat},0<=lL p i l->∃l1 e l2,l=l1++e::l2/\p e=true/\lL p i l=((i+l1.length:Nat):Int)
 |[],i,h=>by simp[lL] at h
 |x::l,i,h=>by
  simp only[lL] at h ⊢;cases hp:p x with
  |true=>exact⟨[],x,l,rfl,hp,by simp⟩
  |false=>rw[hp,ac] at h;obtain⟨l1,e,l2,h1,h2,a⟩:=w9 h;exact⟨x::l1,e,l2,by rw[h1];rfl,h2,by rw[ac,a];simp only[ao];omega⟩
theorem bMb:∀{l:List AG} {x:AG},(∀y∈l,(y.Site==x.Site&&y.Handle==x.Handle)=false)->bG l [x]=l.takeWhile (λe=>nD e x.Site x.Handle)++[x]++l.dropWhile (λe=>nD e x.Site x.Handle)
 |[],x,_=>by rw[kE];rfl
 |a::xs,x,h=>by
  rw[bG,dl,List.dropWhile_cons,bJn];cases h1:dX a x with
  |true=>simp only[ae,ie];rw[bMb (λy b=>h y (by simp[b]))];rfl
  |false=>
   cases h2:dX x a with
   |true=>simp only[ac,ae];rw[fO];rfl
   |false=>have:=Ca h1 h2;have:=h a (by simp);simp_all
def bMc {e x:AG}{l2:List AG}(he:(e.Site==x.Site&&e.Handle==x.Handle)=true):∀{l1:List AG},r9 (l1++e::l2)->bG (l1++e::l2) [x]=l1++qR e x::l2
 |[],_=>by
  have hk:e.Site=x.Site/\e.Handle=x.Handle:=by simpa using he
  have h1:dX e x=false:=by
   cases h:dX e x with
   |false=>rfl
   |true=>rw[Bd] at h;omega
  have h2:dX x e=false:=by
   cases h:dX x e with
   |false=>rfl
   |true=>rw[Bd] at h;omega
  rw[bz,bG,h1,ac,h2,ac,fO];rfl
 |a::l1,h=>by
  obtain⟨b,hs⟩:=cj.1 h;have hk:e.Site=x.Site/\e.Handle=x.Handle:=by simpa using he
  have h1:dX a x=true:=by rw[<-aTt hk];exact b e (by simp)
  rw[cM,bG,h1,ae,bMc he hs];rfl
def bGf {l:List AG}{x:AG}(h:r9 l):(bif (decide (aM ⟨l⟩ x.Site x.Handle<0)||qW x (l.getD (aM ⟨l⟩ x.Site x.Handle).toNat default)) then(qJ ⟨l⟩ x).Entries else l)=bG l [x]:=by
 unfold qJ;by_cases b:aM ⟨l⟩ x.Site x.Handle<0
 ·grind[bMb,Vd,decide_eq_true,decide,aM,decide_eq_false]
 ·obtain⟨l1,e,l2,h1,h2,c⟩:=w9 (show 0<=lL (λe=>e.Site==x.Site&&e.Handle==x.Handle) 0 l from by unfold aM at b;simp only at b;omega);have a:aM ⟨l⟩ x.Site x.Handle=(l1.length:Int):=by grind[aM]
  rw[a,au (by omega),cN,show decide ((l1.length:Int)>=0)=true from ax (by omega),ae,bn];subst h1;rw[bMc h2 h];have g:(l1++e::l2).getD l1.length default=e:=by simp
  have st:(l1++e::l2).set l1.length x=l1++x::l2:=by simp
  rw[g];show(bif qW x e then(l1++e::l2).set l1.length x else l1++e::l2)=_;rw[st];unfold qR;cases qW x e<;>rfl
theorem bMd {α:Type}{p:Nat->α->Bool}:∀{l:List α} {j:Nat},gJ p j l=false->∀(i:Nat) (hi:i<l.length),p (j+i) l[i]=false
 |[],j,_,i,hi=>by simp at hi
 |x::l,j,h,i,hi=>by
  simp only[gJ,bl] at h;cases i with
  |zero=>exact h.1
  |succ i=>have:=bMd h.2 i (by simpa using hi);rw[show j+(i+1)=j+1+i by omega];exact this
theorem aKa {b:AB}(h:aO b=true):b.Entries.length<=20/\r9 b.Entries:=by
 simp only[aO,ab,cm,bq] at h;refine⟨by omega,?_⟩;have adj:∀i (hi:i+1<b.Entries.length),dX b.Entries[i] b.Entries[i+1]=true:=(by grind[bMd,Vb,Bool.or_eq_false_iff,decide_eq_true,default,Nat.add_sub_cancel,List.getD,List.getElem?_eq_getElem]);have far:∀d i (hi:i+d+1<b.Entries.length),dX b.Entries[i] b.Entries[i+d+1]=true:=λd=>by
  induction d<;>grind[pR]
 refine eh.2 λi j hi c a=> ?_;obtain⟨d,rfl⟩:∃d,j=i+d+1:=⟨j-i-1,by omega⟩;simp[*]
def uS (w:AA):List Int->List AG->(AB×Bool)⊕List AG
 |[],a=> .inr a
 |d::ds,a=>bif (dY ⟨a⟩ (aH w d).aAC).2 then uS w ds (dY ⟨a⟩ (aH w d).aAC).1.Entries else .inl (⟨[]⟩,false)
def Ji (w:AA):AB×Bool:=match uS w (bB w) [] with
 | .inl r=>r
 | .inr a=>(⟨a⟩,true)
theorem bSp {a b:AB}(h:(dY a b).2=true):aO (dY a b).1=true:=by
 grind[aO,bG,dY]
theorem gK {α β:Type}{s:List α}(hs:s.length<=34359738368)(x:α)(k:Option β):gd (aW s [x]) k=k:=(by grind[aB,aW,List.length_singleton])
theorem uE {α β:Type}{s:List α}(hs:s.length<=34359738368)(k:Option β):gd (aW [] s) k=k:=(by grind[aB,aW,List.length_nil])
def bGg {α:Type}{l s:List α}:l.foldl (λs x=>s++[x]) s=s++l:=by have:=o8 (f:=λx:α=>[x]) (l:=l) (s:=s);rw[this];congr 1;induction l<;>simp_all
def aTv {α:Type}{l:List α}{F:(Nat×List α->Option (List α))->Nat×List α->Option (List α)}(hl:l.length<=34359738368)
  (a:∀rec i s (hi:i<l.length),s.length<=34359738368->F rec (i,s)=rec (i+1,s++[l[i]])) (b:∀rec s,F rec (l.length,s)=some s):EV.bU FUEL F (0,[])=some l:=by
 rw[bBn (l:=l) (λs x=>s++[x]) (λi s=>s.length=i) (λs=>some s) (by omega) rfl (by simp) (by grind) (by simp[*]),bGg,bz]
def bX3 {α:Type}{l:List α}{F:(List α×Nat->Option (List α))->List α×Nat->Option (List α)}(hl:l.length<=34359738368)
  (a:∀rec i s (hi:i<l.length),s.length<=34359738368->F rec (s,i)=rec (s++[l[i]],i+1)) (b:∀rec s,F rec (s,l.length)=some s):EV.bU FUEL F ([],0)=some l:=by
 rw[gH (l:=l) (λs x=>s++[x]) (λi s=>s.length=i) (λs=>some s) (by omega) rfl (by simp) (by grind) (by simp[*]),bGg,bz]
abbrev szL {α:Type}(f:α->Nat)(l:List α):Nat:=l.length+(l.map f).sum
theorem jE {S τ:Type}{F:(S->Option τ)->S->Option τ}{n:Nat}{s:S}:EV.bU (n+1) F s=F (EV.bU n F) s:=rfl
def Pf {α:Type}{c:Bool}{x y:α}:(bif c then some x else some y)=some (bif c then x else y):=by cases c<;>rfl
theorem sU {c d:Bool}:(bif c then some true else some d)=some (c||d):=by cases c<;>rfl
def bSq {α:Type}[Inhabited α]{l:List α}{i:Nat}(h:i<l.length):l.set i (l.getD i default)=l:=by simp[*]
theorem xS {α:Type}{p:Nat->α->Bool}:∀(l:List α) (j:Nat),gJ p j l=true↔∃(i:Nat) (hi:i<l.length),p (j+i) l[i]=true
 |[],j=>by simp[gJ]
 |x::xs,j=>by
  simp only[gJ,co,xS xs];constructor
  ·rintro(h|⟨i,hi,h⟩)
   ·exact⟨0,by simp,h⟩
   ·exact⟨i+1,by simpa using hi,by rw[show j+(i+1)=j+1+i by omega];exact h⟩
  grind
theorem aAh {α:Type}{p:Nat->α->Bool}{l:List α}:gJ p 0 l=false↔∀(i:Nat) (hi:i<l.length),p i l[i]=false:=by
 grind[gJ,xS]
def cAl {α β:Type}{l:List α}(f:α->β){F:(List β×Nat->Option (List β))->List β×Nat->Option (List β)}(hl:l.length<=34359738368)
  (a:∀rec i s (hi:i<l.length),s.length<=34359738368->F rec (s,i)=rec (s++[f l[i]],i+1)) (b:∀rec s,F rec (s,l.length)=some s):EV.bU FUEL F ([],0)=some (l.map f):=by
 rw[gH (l:=l) (λs x=>s++[f x]) (λi s=>s.length=i) (λs=>some s) (by omega) rfl (by simp) (by grind) (by simp[*]),o9,bz]
def bX4 {α β:Type}{l:List α}(f:α->β){s0:List β}{F:(List β×Nat->Option (List β))->List β×Nat->Option (List β)}(hl:s0.length+l.length<=34359738368)
  (a:∀rec i s (hi:i<l.length),s.length<=34359738368->F rec (s,i)=rec (s++[f l[i]],i+1)) (b:∀rec s,F rec (s,l.length)=some s):EV.bU FUEL F (s0,0)=some (s0++l.map f):=by
 rw[gH (l:=l) (λs x=>s++[f x]) (λi s=>s.length=s0.length+i) (λs=>some s) (by omega) (by simp) (by simp at*;omega) (by grind) (by simp[*]),o9]
def gL (h:AH)(b:Int):AH×Bool:=bif decide (b<0)||decide (b>=(h.Saved.length:Int)) then(h,false) else(⟨h.Saved.getD (h.Saved.length-1-b.toNat) default,h.Saved,h.Monotonic⟩,true)
def fQ (w:AA)(i b:Int):AA×Bool:=bif !aP w||(decide (i<0)||decide (i>=(w.Hosts.length:Int))) then(w,false) else bif (gL (w.Hosts.getD i.toNat default) b).2 then({w with Hosts:=w.Hosts.set i.toNat (gL (w.Hosts.getD i.toNat default) b).1},true) else(w,false)
theorem bWf {i:Int}{n:Nat}(h:n<=34359738368):(!bR i 0 (IntKind.i64.wrap ((n:Int)-1)))=(decide (i<0)||decide (i>=(n:Int))):=by
 grind[decide_eq_false,decide_eq_true,bR,aK]
theorem uF {α:Type}[Inhabited α]{l:List α}{i:Int}(h0:0<=i)(h1:i<(l.length:Int)):bC l i=some (l.getD i.toNat default):=by
 grind[List.getD,List.getElem?_eq_getElem,kJ]
theorem Ve {i:Int}{n:Nat}(h:(decide (i<0)||decide (i>=(n:Int)))=false):0<=i/\i<(n:Int):=by simp_all
theorem xI {α:Type}[Inhabited α]{f:α->Nat}{l:List α}{i:Nat}(h:i<l.length):f (l.getD i default)<=(l.map f).sum:=by
 grind[lQ,List.getD,List.getElem?_eq_getElem]
def bGh (h:AH)(b:Int):(gL h b).1.sz=h.sz:=by unfold gL;cases(decide (b<0)||decide (b>=(h.Saved.length:Int)))<;>rfl
def Pg (l:List AS)(i:Nat)(s:AS):Bool:= !bR s.Index 1 7||(!bR s.Value 0 1018||(l.take i).any λq=>q.Index==s.Index)
def F5 (l:List AS):Bool:=bR (l.length:Int) 1 7&& !gJ (Pg l) 0 l
def aOp (x:Int)(z v:Int):Int:=(IntKind.i64.wrap (IntKind.i64.wrap (v+fE z 1019)*x)).tmod 1019
def Fu (c:Int)(l:List Int)(x:Int):Int:=(l.foldr (aOp x) 0+fE c 1019)%1019
def bSr (c:List Int)(s:AS):AS:=⟨s.Index,(IntKind.i64.wrap (s.Value+Fu 0 c s.Index)).tmod 1019⟩
def lU (l:List AS)(c:List Int):List AS:=bif F5 l then l.map (bSr c) else[]
def cS (l:List AS)(i:Nat)(k:Int):Bool:=(l.take i).any λq=>q.Index==k
def cEd {l:List AS}{i:Nat}{k:Int}(hi:i<l.length):cS l (i+1) k=(cS l i k||l[i].Index==k):=by
 grind[List.take_add_one,List.getElem?_eq_getElem,cS]
def bGi {x z v:Int}(a:0<=x/\x<=1000)(hv:0<=v/\v<1019):0<=aOp x z v/\aOp x z v<1019:=by
 have hm:=pI (p:=z) (q:=1019) (by omega);unfold aOp;generalize fE z 1019=m at*;have b:IntKind.i64.wrap (v+m)=v+m:=(by grind[aK]);have h2:0<=(v+m)*x:=jt (by omega) a.1;have c:(v+m)*x<=3000*1000:=Int.mul_le_mul (by omega) a.2 a.1 (by omega)
 grind[Int.tmod_nonneg,Int.tmod_lt_of_pos,aK]
def aAi {x:Int}(a:0<=x/\x<=1000):∀l:List Int,0<=l.foldr (aOp x) 0/\l.foldr (aOp x) 0<1019
 |[]=>by simp
 |z::l=>bGi a (aAi a l)
def bGj {σ τ:Type}{l:List Int}(g:Int->σ->σ){s0:σ}(fin:σ->Option τ){F:(σ×Int->Option τ)->σ×Int->Option τ}(hl:l.length<=34359738368)
  (a:∀rec s i (hi:i<l.length),F rec (s,(i:Int))=rec (g l[i] s,(i:Int)-1)) (b:∀rec s,F rec (s,-1)=fin s) {n0:Int} (hn:n0=(l.length:Int)-1):EV.bU FUEL F (s0,n0)=fin (l.foldr g s0):=by
 subst hn;refine Ut (λk s=>k<=l.length/\s=((l.drop (l.length-k)).foldr g s0,(l.length:Int)-1-k)) l.length _ (by omega) ⟨by omega,by simp⟩ (λk s rec hk hv=> ?_) (λs rec hv=> ?_)
 ·obtain⟨_,rfl⟩:=hv;refine .inl ⟨_,⟨hk,rfl⟩,?_⟩
  grind[List.drop_eq_getElem_cons]
 grind
def cAm {c d:Bool}:(bif c then some d else some false)=some (c&&d):=by cases c<;>rfl
def kP (k:A3):Bool:=F5 [k.aAQ]&&(bR k.Epoch 0 1000000&&(bR k.Limit 1 10&&bR k.Guesses 0 k.Limit))
def jU (h:AH)(s:AS):Bool:= !kP h.State||(decide (kT h.State<h.Monotonic)||(h.State.Epoch==1000000||(s.Index !=h.State.aAQ.Index|| !F5 [s])))
def rZ (h:AH)(s:AS):AH:=⟨⟨s,IntKind.i64.wrap (h.State.Epoch+1),0,h.State.Limit⟩,h.Saved,kT ⟨s,IntKind.i64.wrap (h.State.Epoch+1),0,h.State.Limit⟩⟩
def aTw (h:AH)(s:AS):AH×Bool:=bif jU h s then(h,false) else(rZ h s,true)
def bDu (hs:List AH)(a:List AS):List AH×Bool:=bif ((a.length:Int)==0)||(hs.zip a).any (λp=>jU p.1 p.2) then(hs,false) else(List.zipWith rZ hs a,true)
def fD (hs:List AH)(c:List Int):List AH×Bool:=bDu hs (lU (hs.map λh=>h.State.aAQ) c)
def aOq (w:AA):Nat->Int->List Int
 |0,_=>[]
 |n+1,k=>bif decide (k<w.aAK.Threshold)&&decide (k<=7) then aU w.Seed [317,w.Now,k]::aOq w n (k+1) else[]
def aE0 (w:AA):List Int:=aOq w 8 1
def eF (w:AA):AA×Bool:=bif aP w&&(fD w.Hosts (aE0 w)).2 then({w with Hosts:=(fD w.Hosts (aE0 w)).1},true) else(w,false)
def bBs (w:AA):∀(n:Nat) (k:Int),(aOq w n k).length<=n
 |0,_=>aj _
 |n+1,k=>by
  unfold aOq;cases(decide (k<w.aAK.Threshold)&&decide (k<=7)) with
  |true=>have:=bBs w n (k+1);simp only[ae,ao];omega
  |false=>simp
def bGk (l:List AS)(c:List Int):(lU l c).length<=l.length:=by unfold lU;cases F5 l<;>simp
def bGl {l:List AS}{c:List Int}(h:((lU l c).length:Int)≠0):(lU l c).length=l.length:=by
 grind[F5,lU]
def bOy (b:AB)(s h:Int):Int:=bif decide (aM b s h>=0) then IntKind.i64.wrap ((b.Entries.getD (aM b s h).toNat default).Version+1) else 1
def sD (b:AB)(s h:Int):AG:=⟨s,h,bOy b s h,false⟩
def aE1 (b:AB)(s h:Int):AB×Bool:=bif !(decide (aM b s h>=0)&& !(b.Entries.getD (aM b s h).toNat default).Deleted)&&(aO b&&aO (qJ b (sD b s h))) then(qJ b (sD b s h),true) else(b,false)
def aTx (b:AB)(s h:Int):AG:=⟨s,h,IntKind.i64.wrap ((b.Entries.getD (aM b s h).toNat default).Version+1),true⟩
def aE2 (b:AB)(s h:Int):AB×Bool:=bif !aO b||(decide (aM b s h<0)||((b.Entries.getD (aM b s h).toNat default).Deleted||(b.Entries.getD (aM b s h).toNat default).Version==1000000)) then(b,false) else(qJ b (aTx b s h),true)
def Au (d:AD)(n:ByteArray)(h:Int)(rm:Bool):AB×Bool:=bif rm then aE2 d.aAC (bD n) h else aE1 d.aAC (bD n) h
def dJ (d:AD)(n:ByteArray)(h:Int)(rm:Bool):AD×Bool:=bif (Au d n h rm).2 then({d with aAC:=(Au d n h rm).1},true) else(d,false)
def sW (w:AA)(d:Int)(n:ByteArray)(h:Int)(rm:Bool):AA×Bool:=bif aP w&&aL w d then(bif (dJ (aH w d) n h rm).2 then({w with Devices:=w.Devices.set d.toNat (dJ (aH w d) n h rm).1},true) else(w,false)) else(w,false)
def bMe (b:List Int):(Jh b).length=b.length+1:=by simp[Jh,Nat.add_comm]
def aR5 (l:List Int):List.map (λ(n:Int)=>n) l=l:=List.map_id l
theorem bOz (hs:List AH):∀(a:List AS),(List.zipWith rZ hs a).length<=hs.length/\((List.zipWith rZ hs a).map AH.sz).sum<=(hs.map AH.sz).sum:=by
 induction hs with
 |nil=>simp
 |cons h hs b=>
  intro a;cases a with
  |nil=>simp
  |cons s a=>have:=b a;have e:(rZ h s).sz=h.sz:=rfl;simp_all
theorem U4 (hs:List AH)(c:List Int):(fD hs c).1.length<=hs.length/\((fD hs c).1.map AH.sz).sum<=(hs.map AH.sz).sum:=by
 grind[jU,bOz,lU,fD,bDu]
def aYj (w:AA):(eF w).1.sz<=w.sz:=by
 grind[aP,fD,aE0,AA.sz,U4,eF]
theorem bGm (b:AB)(x:AG):(qJ b x).Entries.length<=b.Entries.length+1:=by
 grind[decide,aM,List.length,List.takeWhile_append_dropWhile,nD,List.length_append,List.length_singleton,qJ]
theorem bWg (b:AB)(s h:Int):(aE1 b s h).1.Entries.length<=b.Entries.length+1:=by
 grind[decide,aM,default,aO,qJ,sD,bGm,aE1]
theorem bWh (b:AB)(s h:Int):(aE2 b s h).1.Entries.length<=b.Entries.length+1:=by
 grind[aO,decide,aM,default,bGm,aTx,aE2]
theorem x8 (d:AD)(n:ByteArray)(h:Int)(rm:Bool):(dJ d n h rm).1.sz<=d.sz+1:=by
 grind[Au,AD.sz,bWh,bWg,dJ]
def gB (c:AO)(b:Int):AJ×Bool:=bif decide (b<0)||decide (b>=(c.History.length:Int)) then(⟨0,0,[],0⟩,false) else(c.History.getD (c.History.length-1-b.toNat) default,true)
def bO0 (a b:AF):Bool:=a.Index==b.Index&&(a.Kind==b.Kind&&(a.Device==b.Device&&(a.By==b.By&&(a.Previous==b.Previous&&(a.Signature==b.Signature&&true)))))
def cZ (a b:List AF):Bool:=decide (b.length<=a.length)&& !gJ (λi e=> !bO0 (a.getD i default) e) 0 b
def jL (k:Int)(b:AJ):Int:=bK k ([227,b.Epoch,b.Version]++Jh b.Data)
def mQ (k e v:Int):Int:=aU k [223,e,v]
def uvE:Nat->Int->List Int
 |0,n=>[n]
 |k+1,n=>bif decide (n>127) then(n%128+128)::uvE k (n/128) else[n]
theorem bDv:∀(k:Nat) (n:Int),1<=(uvE k n).length/\(uvE k n).length<=k+1
 |0,n=>by simp[uvE]
 |k+1,n=>by
  have:=bDv k (n/128);unfold uvE;cases decide (n>127)<;>simp<;>omega
def bWi {k:Nat}{z:Int}(h:z<=127):uvE k z=[z]:=by cases k<;>grind[uvE,decide_eq_false]
def bMf:∀(k:Nat) (m n:Int) (x y:List Int),0<=m->0<=n->uvE k m++x=uvE k n++y->m=n/\x=y
 |0,m,n,x,y,_,_,h=>by simpa[uvE] using h
 |k+1,m,n,x,y,h0,h1,h=>by
  unfold uvE at h;by_cases hm:m>127<;>by_cases hn:n>127
  ·simp only[ax hm,ax hn,ae,cM,fy] at h;have:=bMf k (m/128) (n/128) x y (by omega) (by omega) h.2;exact⟨by omega,this.2⟩
  ·simp only[ax hm,au hn,ae,ac,cM,fy] at h;omega
  ·simp only[au hm,ax hn,ae,ac,cM,fy] at h;omega
  ·simpa only[au hm,au hn,ac,cM,bz,fy] using h
def bGn {F:(Int×List Int->Option (Int×List Int))->Int×List Int->Option (Int×List Int)}
  (a:∀rec (n:Int) (s:List Int),0<=n->n<9223372036854775807->s.length<=34359738368->F rec (n,s)=bif decide (n>127) then rec (n/128,s++[n%128+128]) else some (n,s)):
  ∀(k:Nat) (n:Int) (s:List Int) (f:Nat),k<f->0<=n->n<128^(k+1)->k<=6->s.length+k<=34359738368->∃m q,EV.bU f F (n,s)=some (m,q)/\q++[m]=s++uvE k n/\0<=m/\m<=127
 |0,n,s,f+1,b,h0,h1,_,hs=>by
  refine⟨n,s,?_,rfl,h0,by simp at h1;omega⟩;rw[jE,a _ _ _ h0 (by simp at h1;omega) (by omega),au (by simp at h1;omega)];rfl
 |k+1,n,s,f+1,b,h0,h1,hk,hs=>by
  have h2:(128:Int)^(k+1+1)=128*128^(k+1):=by rw[fp];omega
  have h:(128:Int)^(k+1+1)<=128^8:=by exact_mod_cast gS (by omega) (by omega)
  have i:(128:Int)^8=72057594037927936:=by decide
  rw[jE,a _ _ _ h0 (by omega) (by omega)];unfold uvE;by_cases hn:n>127
  ·rw[ax hn,ae,ae];obtain⟨m,q,c,d,e⟩:=bGn a k (n/128) (s++[n%128+128]) f (by omega) (by omega) (by omega) (by omega) (by simp;omega);exact⟨m,q,c,by rw[d];simp,e⟩
  ·rw[au hn,ac,ac];exact⟨n,s,rfl,rfl,h0,by omega⟩
theorem bWj {n:Int}(h0:0<=n)(h1:n<9223372036854775808):qV .i64 n 127=n%128:=by
 obtain⟨m,rfl⟩:=dT h0;have e:((BitVec.ofInt 64 (m:Int))&&&(BitVec.ofInt 64 127)).toNat=m%128:=by
  rw[BitVec.toNat_and];have a:(BitVec.ofInt 64 (m:Int)).toNat=m:=by grind
  have b:(BitVec.ofInt 64 127).toNat=2^7-1:=by decide
  rw[a,b,gi]
 show IntKind.i64.wrap (((BitVec.ofInt 64 (m:Int))&&&(BitVec.ofInt 64 127)).toNat:Int)=_
 grind[aK]
theorem cAn {n:Int}(h0:0<=n)(h1:n<128):orI .i64 n 128=n+128:=by
 obtain⟨m,rfl⟩:=dT h0;have e:((BitVec.ofInt 64 (m:Int))|||(BitVec.ofInt 64 128)).toNat=m+128:=by
  rw[BitVec.toNat_or];have a:(BitVec.ofInt 64 (m:Int)).toNat=m:=by grind
  have c:(BitVec.ofInt 64 128).toNat=1<<<7:=by decide
  have:=jm (b:=m) (i:=7) (by omega) 1
  grind
 show IntKind.i64.wrap (((BitVec.ofInt 64 (m:Int))|||(BitVec.ofInt 64 128)).toNat:Int)=_
 grind[aK]
theorem cCk {n:Int}(h0:0<=n):Jc .i64 n 7=n/128:=by unfold Jc;rw[show min (Int.toNat 7) IntKind.i64.bits=7 from by decide,gp _ (by decide)];rfl
theorem aTy {n:Int}(h0:0<=n)(h1:n<=255):IntKind.u8.wrap n=n:=by rw[IntKind.wrap_u8];omega
def enc1 (n:Int):List Int:=bif bR n 0 1000000000000 then uvE 5 n else[]
def uG (b:List Int)(n:Int):List Int:=b++enc1 n
def jM (l:List Int):List Int:=(l.map enc1).flatten
theorem aE3 (n:Int):(enc1 n).length<=6:=by have:=(bDv 5 n).2;unfold enc1;cases bR n 0 1000000000000<;>simp<;>omega
theorem aR6 {n:Int}(h:0<=n/\n<=1000000000000):enc1 n=uvE 5 n:=by
 grind[decide_eq_true,enc1,bR]
theorem wK (n:Int)(l:List Int):jM (n::l)=enc1 n++jM l:=rfl
theorem aE4:∀l:List Int,(jM l).length<=6*l.length
 |[]=>by simp[jM]
 |n::l=>by
  have:=aE4 l
  grind[wK,List.length_append,List.length_cons,aE3]
def aYk (l:List Int):Prop:=∀v∈l,0<=v/\v<=(1000000000000:Int)
theorem bGo:∀(s t x y:List Int),aYk s->aYk t->s.length=t.length->jM s++x=jM t++y->s=t/\x=y
 |[],[],x,y,_,_,_,h=>⟨rfl,h⟩
 |m::s,n::t,x,y,hs,ht,hl,h=>by
  have hm:=hs m (by simp);have hn:=ht n (by simp);rw[wK,wK,ck,ck,aR6 hm,aR6 hn] at h;obtain⟨h1,h2⟩:=bMf 5 m n _ _ hm.1 hn.1 h;obtain⟨a,b⟩:=bGo s t x y (λv hv=>hs v (by simp[hv])) (λv hv=>ht v (by simp[hv])) (by simpa using hl) h2;exact⟨by rw[h1,a],b⟩
theorem bMg {b:List Int}(hb:aZ b){p:Nat}:∀(k i:Nat) (n m e:Int),uvG b p (k+1) i n=(m,e,true)->∃(r:Int) (q:Nat),(0<=r/\m=n+r*128^i/\m<=1000000000000/\e=(q:Int)/\q<=b.length/\(0<i->r≠0))/\b.drop (p+i)=uvE k r++b.drop q
 |k,i,n,m,e,h=>by
  unfold uvG at h;by_cases a:p+i<b.length
  ·rw[cU a] at h;have l:=xQ hb a;have hg:b.getD (p+i) 0=b[p+i]:=by simp[List.getD,aa a]
   rw[hg] at h;have hd:b.drop (p+i)=b[p+i]::b.drop (p+i+1):=cy a;generalize b[p+i]=z at l h hd;by_cases c:z<128
   ·rw[ax c,ae] at h;have d:z%128=z:=by omega
    rw[d] at h;cases hc:(decide (0<i)&&z==0)||decide (n+z*128^i>1000000000000) with
    |true=>rw[hc] at h;simp at h
    |false=>rw[hc,ac] at h;rw[bl] at hc;have h1:=of_decide_eq_false hc.2;injection h with f j;injection j with j w;refine⟨z,p+i+1,⟨l.1,f.symm,by omega,j.symm,by omega,λhi h0=> ?_⟩,by rw[hd,bWi (by omega)];rfl⟩;subst h0;simp[hi] at hc
   ·rw[au c,ac] at h
    match k,h with
    |0,h=>simp[uvG] at h
    |k+1,h=>
     obtain⟨r,q,⟨h1,h2,o,s,t,u⟩,v⟩:=bMg hb k (i+1) _ m e h;have hr:=u (by omega);refine⟨z%128+128*r,q,⟨by omega,?_,o,s,t,λ_=>by omega⟩,?_⟩
     ·rw[h2,fp,Int.add_mul,<-Int.add_assoc];congr 1;rw[jc 128 r,Int.mul_assoc,jc 128]
     ·rw[hd,show p+i+1=p+(i+1) from by omega,v];have f:uvE (k+1) (z%128+128*r)=z::uvE k r:=by rw[uvE,ax (show z%128+128*r>127 by omega),ae,show(z%128+128*r)%128+128=z by omega,show(z%128+128*r)/128=r by omega]
      rw[f];rfl
  ·rw[dh a] at h;simp at h
def bDw {b:List Int}(hb:aZ b){a m e:Int}(h:Ew b a=(m,e,true)):∃q:Nat,(0<=a/\0<=m/\m<=1000000000000/\e=(q:Int)/\q<=b.length)/\b.drop a.toNat=enc1 m++b.drop q:=by
 grind[bMg,aR6,Ew]
def Vf {b:List Int}(hb:aZ b):∀(k:Nat) (a:Int) (s v:List Int) (e:Int),0<=a->a<=b.length->lS b k a s=(v,e,true)->∃(t:List Int) (q:Nat),(v=s++t/\t.length=k/\e=(q:Int)/\q<=b.length/\aYk t)/\b.drop a.toNat=jM t++b.drop q
 |0,a,s,v,e,h0,h1,h=>by
  unfold lS at h;injection h with i d;injection d with d _;exact⟨[],a.toNat,⟨by simp[i],rfl,by omega,by omega,λv hv=>by simp at hv⟩,rfl⟩
 |k+1,a,s,v,e,h0,h1,h=>by
  unfold lS at h;cases f:Ew b a with
  |mk m r=>
   obtain⟨e',ok⟩:=r;rw[f] at h;cases ok with
   |false=>simp at h
   |true=>
    obtain⟨q,⟨p,j,l,n,u⟩,o⟩:=bDw hb f;subst n;obtain⟨t,q',⟨k1,k2,k3,k4,k5⟩,k6⟩:=Vf hb k (q:Int) (s++[m]) v e (by omega) (by omega) h;refine⟨m::t,q',⟨by rw[k1];simp,by simp[k2],k3,k4,λx c=> ?_⟩,by rw[o,wK,ck];congr 1⟩;rcases ba.1 c with rfl|c
    ·exact⟨j,l⟩
    ·exact k5 x c
def aTz {b:List Int}:∀(j k:Nat) (a:Int) (s:List Int),lS b (j+k) a s=bif (lS b j a s).2.2 then lS b k (lS b j a s).2.1 (lS b j a s).1 else([],0,false)
 |0,k,a,s=>by rw[ct];rfl
 |j+1,k,a,s=>by
  have e:∀m,lS b (m+1) a s=bif (Ew b a).2.2 then lS b m (Ew b a).2.1 (s++[(Ew b a).1]) else([],0,false):=λ_=>rfl;rw[show j+1+k=j+k+1 by omega,e,e];cases(Ew b a).2.2 with
  |false=>rfl
  |true=>exact aTz j k _ _
def aT0 {b:List Int}:∀(k:Nat) (a:Int) (s:List Int),lS b k a s=bif (lS b k a []).2.2 then(s++(lS b k a []).1,(lS b k a []).2.1,true) else([],0,false)
 |0,a,s=>by simp[lS]
 |k+1,a,s=>by
  unfold lS;cases(Ew b a).2.2 with
  |false=>rfl
  |true=>simp only[ae,bz];rw[aT0 k _ (s++[(Ew b a).1]),aT0 k _ [(Ew b a).1]];cases(lS b k (Ew b a).2.1 []).2.2<;>simp
def aYl (e:AG):List Int:=[e.Site,e.Handle,e.Version,bif e.Deleted then 1 else 0]
def nX:List Int->List AG
 |s::h::v::d::r=>⟨s,h,v,d==1⟩::nX r
 |_=>[]
def nJ:List Int->Bool
 |_::_::_::d::r=>decide (d<=1)&&nJ r
 |_=>true
def kX (l:List AG):List Int:=l.flatMap aYl
theorem wL:∀l:List AG,(kX l).length=4*l.length
 |[]=>rfl
 |e::l=>by
  have:=wL l
  grind[aYl,kX,List.length_append,List.length_cons]
def aE5:∀(k:Nat) (l:List Int),l.length=4*k->(nX l).length=k
 |0,[],_=>rfl
 |k+1,s::h::v::d::r,hl=>by
  have:=aE5 k r (by simp at hl;omega);simp[nX,this]
def bBt:∀(k:Nat) (l:List Int),l.length=4*k->aYk l->aYk (kX (nX l))/\(nJ l=true↔kX (nX l)=l)
 |0,[],_,_=>⟨λv h=>by simp[kX,nX] at h,by simp[nJ,kX,nX]⟩
 |k+1,s::h::v::d::r,hl,ho=>by
  obtain⟨h1,h2⟩:=bBt k r (by simp at hl;omega) (λx a=>ho x (by simp[a]));have hs:=ho s (by simp);have b:=ho h (by simp);have hv:=ho v (by simp);have hd:=ho d (by simp);have e:kX (nX (s::h::v::d::r))=s::h::v::(bif d==1 then 1 else 0)::kX (nX r):=by simp[nX,kX,aYl]
  rw[e];refine⟨λx a=> ?_,?_⟩
  ·simp only[ba] at a;rcases a with rfl|rfl|rfl|rfl|a
   ·exact hs
   ·exact b
   ·exact hv
   ·cases(d==1)<;>simp
   ·exact h1 x a
  ·simp only[nJ,ab,cm,fy,true_and,h2];refine and_congr_left' ?_;by_cases h1:d=1
   ·subst h1;simp
   ·rw[show(d==1)=false by simpa using h1,ac];omega
def bGp:∀(k:Nat) (l r:List Int),l.length=4*k->nX (l++r)=nX l++nX r
 |0,[],r,_=>rfl
 |k+1,s::h::v::d::l,r,hl=>by
  have:=bGp k l r (by simp at hl;omega);simp[nX,this]
def vH (b:AB):List Int:=[(b.Entries.length:Int)]++kX b.Entries
def oU (b:AB):List Int:=bif aO b then jM (vH b) else[]
def bGq (d:List Int)(v:List Int×Int×Bool):AB×Bool:=bif !v.2.2||(v.2.1 !=(d.length:Int)||(!nJ v.1|| !aO ⟨nX v.1⟩)) then(⟨[]⟩,false) else(⟨nX v.1⟩,true)
def Fv (d:List Int):AB×Bool:=bif !(Ew d 0).2.2||decide ((Ew d 0).1>20) then(⟨[]⟩,false) else bGq d (lS d (4*(Ew d 0).1).toNat (Ew d 0).2.1 [])
def jQ (key:Int)(s:AJ):AB×Bool:=bif !(bL key&&(bR s.Epoch 0 1000000&&bR s.Version 0 1000000))||s.MAC !=jL key s then(⟨[]⟩,false) else Fv (Uv (mQ key s.Epoch s.Version) s.Data)
def bSs {d:List Int}(hd:aZ d){n e e':Int}{v:List Int}(h:Ew d 0=(n,e,true))(hn:n<=20)(c:lS d (4*n).toNat e []=(v,e',true)):(jM (vH ⟨nX v⟩)=d↔(e'=(d.length:Int)/\nJ v=true))/\v.length=4*n.toNat/\aYk v/\(nX v).length=n.toNat:=by
 obtain⟨q,⟨_,k,m,f,o⟩,p⟩:=bDw hd h;subst f;obtain⟨t,q',⟨k1,k2,k3,k4,k5⟩,k6⟩:=Vf hd _ _ _ _ _ (by omega) (by omega) c;rw[bz] at k1;subst k1;have hl:v.length=4*n.toNat:=by omega
 obtain⟨r,s⟩:=bBt n.toNat v hl k5;have b:=aE5 n.toNat v hl;refine⟨?_,hl,k5,b⟩;have i:d=jM (n::v)++d.drop q':=by
  grind[wK,List.append_assoc,k6,Int.toNat]
 have hv:vH ⟨nX v⟩=n::kX (nX v):=by show((nX v).length:Int)::_=_;simp at*;omega
 rw[hv];constructor
 ·intro hq;have a:jM (n::kX (nX v))++[]=jM (n::v)++d.drop q':=by grind
  have j:∀l,aYk l->aYk (n::l):=λl hl x a=>by
   rcases ba.1 a with rfl|a
   ·omega
   ·exact hl x a
  grind[List.cons.inj,List.length_nil,List.length_drop,List.length,bGo,k5,wL]
 grind[List.drop_eq_nil_of_le]
def bBu (l:List Int):(EV.bNw l).data.toList=l.map λn=>UInt8.ofNat n.toNat:=by
 unfold EV.bNw;have:∀(l:List Int) (r:ByteArray),(l.foldl (λr n=>r.push (UInt8.ofNat n.toNat)) r).data.toList=r.data.toList++l.map λn=>UInt8.ofNat n.toNat:=by intro l;induction l<;>simp_all
 simp[*]
def bytes_inj:∀{a b:List Int},(∀z∈a,0<=z/\z<=255)->(∀z∈b,0<=z/\z<=255)->(a.map λn=>UInt8.ofNat n.toNat)=(b.map λn=>UInt8.ofNat n.toNat)->a=b
 |[],[],_,_,_=>rfl
 |[],y::b,_,_,h=>by simp at h
 |x::a,[],_,_,h=>by simp at h
 |x::a,y::b,d,hb,h=>by
  simp only[bo,fy] at h;have f:=d x (by simp);have i:=hb y (by simp);have e:=congrArg UInt8.toNat h.1;rw[UInt8.toNat_ofNat',UInt8.toNat_ofNat'] at e;rw[bytes_inj (λz c=>d z (by simp[c])) (λz c=>hb z (by simp[c])) h.2,show x=y by omega]
def Vg {b:List Int}(h:aZ b):∀z∈b,0<=z/\z<=255:=λz a=>by simpa using cC.1 h.2 z a
def aT1 {b:List Int}(h:b.length<=34359738368)(h1:∀z∈b,0<=z/\z<=255):aZ b:=⟨h,cC.2 λz a=>by simpa using h1 z a⟩
def bBv:∀(k:Nat) (n:Int),0<=n->n<128^(k+1)->∀z∈uvE k n,0<=z/\z<=255
 |0,n,h0,h1,z,a=>by simp[uvE] at a;subst a;simp at h1;omega
 |k+1,n,h0,h1,z,a=>by
  have h2:(128:Int)^(k+1+1)=128*128^(k+1):=by rw[fp];omega
  unfold uvE at a;by_cases hn:n>127
  ·rw[ax hn,ae] at a;rcases ba.1 a with rfl|a
   ·omega
   ·exact bBv k (n/128) (by omega) (by omega) z a
  ·rw[au hn,ac] at a;simp at a;subst a;omega
def bJo (n:Int):∀z∈enc1 n,0<=z/\z<=255:=λz a=>by
 unfold enc1 at a;cases hr:bR n 0 1000000000000 with
 |false=>simp_all
 |true=>
  rw[hr] at a;have:=gQ hr;have b:(128:Int)^(5+1)=4398046511104:=by decide
  exact bBv 5 n this.1 (by omega) z a
def aAj (l:List Int):∀z∈jM l,0<=z/\z<=255:=λz a=>by
 unfold jM at a;obtain⟨x,b,a⟩:=jg.1 a;obtain⟨n,_,rfl⟩:=cn.1 b;exact bJo n z a
theorem nK {b:AB}(h:aO b=true):b.Entries.length<=20:=by
 grind[aO]
def aE6 (b:AB):aZ (oU b):=by
 unfold oU;cases hb:aO b with
 |false=>exact⟨by simp,rfl⟩
 |true=>
  have:=nK hb;have h1:=aE4 (vH b);have h2:(vH b).length=1+4*b.Entries.length:=by grind[vH,wL]
  exact aT1 (by grind) (aAj _)
theorem bSt (d:List Int):(Fv d).1.sz<=20:=by
 grind[Ew,decide,lS,bGq,aO,nX,Bool.not_false,nK,nJ,AB.sz,Fv]
theorem bBw (k:Int)(s:AJ):(jQ k s).1.sz<=20:=by
 grind[bL,bR,jL,AB.sz,bSt,jQ]
theorem aKb {a b:AB}(h:(dY a b).2=true):(dY a b).1.sz<=20:=by
 grind[aO,bG,nK,AB.sz,dY]
def kM (d:AD)(log:List AF)(bx:AM)(s:AJ):Int:=
 bif !aT log|| !cZ log d.Log then 1 else bif !iQ (aC log) (aS d.Store) then 2 else bif bx.Epoch !=aD log|| !(dM d.Store bx).2 then 3
 else bif decide (s.Epoch<aD log)||(decide (s.Epoch<d.Epoch)||(s.Epoch==d.Epoch&&decide (s.Version<d.Version))) then 4
 else bif !(jQ (dM d.Store bx).1 s).2|| !(dY d.aAC (jQ (dM d.Store bx).1 s).1).2 then 5 else 0
def cK (d:AD)(log:List AF)(bx:AM)(s:AJ):AD×Int:=
 bif kM d log bx s==0 then(⟨d.Store,log,(dM d.Store bx).1,s.Epoch,s.Version,(dY d.aAC (jQ (dM d.Store bx).1 s).1).1⟩,0) else(d,kM d log bx s)
def aR (w:AA)(d b:Int):AA×Int:=bif aP w&&aL w d then({w with Devices:=w.Devices.set d.toNat (cK (aH w d) w.aAE.Log w.aAE.Boxes (gB w.aAE b).1).1},(cK (aH w d) w.aAE.Log w.aAE.Boxes (gB w.aAE b).1).2) else(w,1)
def bZ (w:AA)(d:Int):Bool:=w.Stolen.getD d.toNat false
theorem aT2 (d:AD)(l:List AF)(bx:AM)(s:AJ):(cK d l bx s).1.sz<=d.sz+l.length+20:=by
 unfold cK;cases hc:kM d l bx s==0 with
 |false=>grind
 |true=>
  grind[AD.sz,AB.sz,aKb,dY,jQ,dM,bx,kM,aT,cZ,iQ,aC,aS,aD,decide]
def bJp (k:Int)(i:Nat)(z:Int):Int:=IntKind.u8.wrap ((z+bK k [(i:Int)])%256)
def nY (k:Int)(b:List Int):List Int:=Rx (λi z=>[bJp k i z]) 0 b
def gI (k e v:Int)(b:AB):AJ:=⟨e,v,nY (mQ k e v) (oU b),jL k ⟨e,v,nY (mQ k e v) (oU b),0⟩⟩
def rG (k e v:Int)(b:AB):AJ×Bool:=bif bL k&&(bR e 0 1000000&&bR v 0 1000000)&&aO b then(gI k e v b,true) else(⟨0,0,[],0⟩,false)
def dV (d:AD):AD×AJ×Bool:=bif (rG d.Key d.Epoch (IntKind.i64.wrap (d.Version+1)) d.aAC).2 then({d with Version:=IntKind.i64.wrap (d.Version+1)},(rG d.Key d.Epoch (IntKind.i64.wrap (d.Version+1)) d.aAC).1,true) else(d,⟨0,0,[],0⟩,false)
def qX (a b:AJ):Bool:=decide (a.Epoch>b.Epoch)||(a.Epoch==b.Epoch&&decide (a.Version>b.Version))
def dK (c:AO)(s:AJ):AO×Bool:=bif s.Epoch !=aD c.Log||((decide ((c.History.length:Int)>0)&& !qX s (c.History.getD (c.History.length-1) default))||decide ((c.History.length:Int)>=60)) then(c,false) else({c with History:=c.History++[s]},true)
def upF (w:AA)(d:Int):AA×Bool:=bif (dV (aH w d)).2.2&&(dK w.aAE (dV (aH w d)).2.1).2 then({w with Devices:=w.Devices.set d.toNat (dV (aH w d)).1,aAE:=(dK w.aAE (dV (aH w d)).2.1).1},true) else(w,false)
def iK (w:AA)(d:Int):AA×Bool:=bif (aR w d 0).2==0&&(upF (aR w d 0).1 d).2 then((upF (aR w d 0).1 d).1,true) else(w,false)
def mJ:List Int->AA->AA×Bool
 |[],w=>(w,true)
 |i::l,w=>bif (iK w i).2 then mJ l (iK w i).1 else(w,false)
def uH:List Int->AA->AA×Bool
 |[],w=>(w,true)
 |i::l,w=>bif (aR w i 0).2==0 then uH l (aR w i 0).1 else(w,false)
def lG (w:AA):AA×Bool:=bif aP w&&((mJ (bB w) w).2&&(uH (bB w) (mJ (bB w) w).1).2) then((uH (bB w) (mJ (bB w) w).1).1,true) else(w,false)
theorem bBx (b:AB):(oU b).length<=500:=by
 grind[aO,nK,aE4,vH,wL,oU]
theorem Vh (k:Int)(b:List Int):(nY k b).length=b.length:=by simp[uC,nY]
def bO1 (k e v:Int)(b:AB):(rG k e v b).1.Data.length<=500:=by
 grind[bL,bR,aO,gI,Vh,bBx,rG]
theorem Bg (d:AD):(dV d).1.sz=d.sz/\(dV d).2.1.Data.length<=500:=by
 unfold dV;have:=bO1 d.Key d.Epoch (IntKind.i64.wrap (d.Version+1)) d.aAC;cases(rG d.Key d.Epoch (IntKind.i64.wrap (d.Version+1)) d.aAC).2 with
 |false=>simp
 |true=>exact⟨rfl,this⟩
theorem wM (c:AO)(s:AJ):(dK c s).1.sz<=c.sz+1+s.Data.length/\(dK c s).1.Log=c.Log:=by
 unfold dK;cases s.Epoch !=aD c.Log||((decide ((c.History.length:Int)>0)&& !qX s (c.History.getD (c.History.length-1) default))||decide ((c.History.length:Int)>=60)) with
 |true=>grind
 |false=>grind[AO.sz,List.length_append,List.length_cons,List.length_nil,AJ.sz]
theorem wN {α:Type}{f:α->Nat}:∀{l:List α} {i:Nat} {x:α} (hi:i<l.length),((l.set i x).map f).sum+f l[i]=(l.map f).sum+f x
 |y::l,0,x,_=>by simp only[ip,bo,dw,gC];omega
 |y::l,i+1,x,h=>by
  have:=wN (f:=f) (l:=l) (i:=i) (x:=x) (by simpa using h);simp only[fR,bo,dw,e9];omega
theorem qK {w:AA}{d b:Int}(h:((aR w d b).2==0)=true):(aP w=true/\aL w d=true)/\(aR w d b).1.aAE=w.aAE/\(aR w d b).1.Devices.length=w.Devices.length/\(aR w d b).1.sz<=w.sz+w.aAE.Log.length+20:=by
 unfold aR at*;cases hc:(aP w&&aL w d) with
 |false=>simp_all
 |true=>
  rw[hc] at h;simp only[ae] at h ⊢;rw[ab] at hc;refine⟨hc,by first|rfl|trivial,by first|exact aw|simp,?_⟩;have hd:=hc.2;simp only[aL,ab,cm] at hd;have hi:d.toNat<w.Devices.length:=by omega
  have a:(cK (aH w d) w.aAE.Log w.aAE.Boxes (gB w.aAE b).1).1.sz<=w.aAE.Log.length+20:=by
   unfold cK at*;cases hs:kM (aH w d) w.aAE.Log w.aAE.Boxes (gB w.aAE b).1==0 with
   |false=>simp_all
   |true=>
    have hm:(dY (aH w d).aAC (jQ (dM (aH w d).Store w.aAE.Boxes).1 (gB w.aAE b).1).1).2=true:=by
     grind[dY,aH,jQ,dM,gB,kM,aT,cZ,iQ,aC,aS,aD,decide]
    grind[AD.sz,AB.sz,aKb]
  grind[AA.sz,List.length_set,cK,aH,gB,wN,AD.sz]
theorem bX5 {w:AA}{d:Int}(hd:aL w d=true):(upF w d).1.aAE.Log=w.aAE.Log/\(upF w d).1.Devices.length=w.Devices.length/\(upF w d).1.sz<=w.sz+501:=by
 unfold upF;cases(dV (aH w d)).2.2&&(dK w.aAE (dV (aH w d)).2.1).2 with
 |false=>simp
 |true=>
  grind[AA.sz,AO.sz,List.length_set,dV,aH,dK,List.getD,List.getElem?_eq_getElem,wN,AD.sz,aL,Bg,wM]
theorem x9 {w:AA}{d:Int}(h:(iK w d).2=true):(iK w d).1.aAE.Log=w.aAE.Log/\(iK w d).1.sz<=w.sz+w.aAE.Log.length+521:=by
 grind[aR,upF,k1,k2,k3,k4,k5,qK,aL,bX5,iK]
def aAk:∀(l:List Int) (w:AA),(mJ l w).1.sz<=w.sz+l.length*(w.aAE.Log.length+521)/\(mJ l w).1.aAE.Log=w.aAE.Log
 |[],w=>⟨by simp[mJ],rfl⟩
 |i::l,w=>by
  unfold mJ;cases hp:(iK w i).2 with
  |false=>exact⟨by simp only[ac];omega,rfl⟩
  |true=>obtain⟨h1,h2⟩:=x9 hp;obtain⟨b,a⟩:=aAk l (iK w i).1;rw[h1] at b a;simp only[ae,ao,cY];exact⟨by omega,a⟩
def aT3:∀(l:List Int) (w:AA),(uH l w).1.sz<=w.sz+l.length*(w.aAE.Log.length+20)
 |[],w=>by simp[uH]
 |i::l,w=>by
  unfold uH;cases hp:((aR w i 0).2==0) with
  |false=>simp only[ac];omega
  |true=>obtain⟨_,h1,_,h2⟩:=qK hp;have a:=aT3 l (aR w i 0).1;rw[h1] at a;simp only[ae,ao,cY];omega
theorem bSu {k z:Int}(i:Nat)(h:0<=z/\z<=255):IntKind.u8.wrap ((IntKind.i64.wrap (IntKind.i64.wrap z+bK k [(i:Int)])).tmod 256)=bJp k i z:=by have:=nI k [(i:Int)];rw[aK (n:=z) (by omega) (by omega),aK (by omega) (by omega),cg (by omega)];rfl
theorem bSv {k z:Int}(i:Nat)(h:0<=z/\z<=255):IntKind.u8.wrap ((IntKind.i64.wrap (IntKind.i64.wrap z+(bK k [(i:Int)]).tmod 256)).tmod 256)=bJp k i z:=by
 grind[aK,bK,Int.tmod_eq_emod_of_nonneg,bJp,nI]
def aQ (seed n:Int):AK:=⟨1,n,aU seed [277,n],0⟩
def bH (s:AK):AD:=⟨s,[],0,0,0,⟨[]⟩⟩
def cO (s:AK)(n:ByteArray)(h:Int):Int:=aU s.Seed [179,bD n,h]
def fF (s:AK)(n:ByteArray)(h:Int):Int:=dW (cO s n h)
def lV (s:AK)(l:List Int):Int:=sQ (jH s) l
def bGr (log:List AF)(kind dev:Int)(s:AK):AF:=⟨(log.length:Int),kind,dev,aS s,iW log,0⟩
def Kg (log:List AF)(kind dev:Int)(s:AK):AF:={bGr log kind dev s with Signature:=lV s [dG (bGr log kind dev s)]}
def eG (log:List AF)(kind dev:Int)(s:AK):List AF×Bool:=bif (decide ((log.length:Int)>0)&& !aT log)|| !aT (log++[Kg log kind dev s]) then(log,false) else(log++[Kg log kind dev s],true)
def nZ (p e:Int)(d:List Int):AN:=⟨p,e,nY (iN (iC p) e) d,Uw (iN (iC p) e) ⟨p,e,nY (iN (iC p) e) d,0⟩⟩
def gU (p e:Int)(d:List Int):AN×Bool:=bif iC p==0||(!bL e||decide ((d.length:Int)>200)) then(⟨0,0,[],0⟩,false) else(nZ p e d,true)
def gY (e:Int)(d:List Int):Nat->List Int->List AN×Bool
 |_,[]=>([],true)
 |i,p::l=>bif (gU p (IntKind.i64.wrap (e+(i:Int))) d).2&&(gY e d (i+1) l).2 then((gU p (IntKind.i64.wrap (e+(i:Int))) d).1::(gY e d (i+1) l).1,true) else([],false)
def bI (log:List AF)(key eph:Int):AM×Bool:=bif !aT log||(!bL key|| !(gY eph (jM [aD log,key]) 0 (aC log)).2) then(⟨0,[]⟩,false) else(⟨aD log,(gY eph (jM [aD log,key]) 0 (aC log)).1⟩,true)
def nL (e:AM)(d:Int):Int:=e.Boxes.foldl (λn b=>bif b.To==d then IntKind.i64.wrap (n+1) else n) 0
def iY (e:AM)(log:List AF):Bool:=(e.Epoch==aD log&&(e.Boxes.length:Int)==((aC log).length:Int))&&(aC log).all λd=>nL e d==1
def nM (c:AO)(log:List AF)(e:AM):AO×Bool:=bif !aT log||(!cZ log c.Log|| !iY e log) then(c,false) else({c with Log:=log,Boxes:=e},true)
def F6 (h:Int)(l:List AV):Nat:=(l.takeWhile λc=>decide (c.Handle<h)).length
def aE7 (l:List AV)(h p:Int):List AV:=l.take (F6 h l)++[⟨h,p,0,false⟩]++l.drop (F6 h l)
def fT (a:AI)(h p:Int):AI×Bool:=bif !bA a|| !bA {a with Credentials:=aE7 a.Credentials h p} then(a,false) else({a with Credentials:=aE7 a.Credentials h p},true)
def eH (s:AC)(id h p:Int):AC×Bool:=bif !bY s||decide (aI s id<0) then(s,false) else bif (fT (s.Accounts.getD (aI s id).toNat default) h p).2 then({s with Accounts:=s.Accounts.set (aI s id).toNat (fT (s.Accounts.getD (aI s id).toNat default) h p).1},true) else(s,false)
def xU (l:List AX):Nat:=bif l.any (λn=>n.Seen) then(l.takeWhile λn=> !n.Seen).length else 0
def Qj (l:List AX):List AX:=bif decide ((l.length:Int)>30) then l.take (xU l)++l.drop (xU l+1) else l
def Fw (m:AU)(k a t:Int):AU×Bool:=bif !kL m|| !kL ⟨Qj (m.Notices++[⟨k,a,t,false⟩])⟩ then(m,false) else(⟨Qj (m.Notices++[⟨k,a,t,false⟩])⟩,true)
def jV (w:AA)(by_ kind pub:Int)(key:List AF->Int):AA×Bool:=
 let l:=eG w.aAE.Log kind pub (aH w by_).Store;let e:=bI l.1 (key l.1) (IntKind.i64.wrap (1000+IntKind.i64.wrap (10*(l.1.length:Int))));let c:=nM w.aAE l.1 e.1
 bif l.2&&(e.2&&c.2) then({w with aAE:=c.1},true) else(w,false)
theorem wO (log:List AF)(k d:Int)(s:AK):(eG log k d s).1.length<=log.length+1:=by unfold eG;cases(decide ((log.length:Int)>0)&& !aT log)|| !aT (log++[Kg log k d s])<;>simp
theorem bJq (p e:Int)(d:List Int):(gU p e d).1.sz<=d.length:=by
 grind[iC,bL,decide,AN.sz,nZ,Vh,gU]
def bGs {e:Int}{d:List Int}:∀{i:Nat} {l:List Int},(gY e d i l).1.length<=l.length/\((gY e d i l).1.map AN.sz).sum<=l.length*d.length
 |i,[]=>by simp[gY]
 |i,p::l=>by
  have h1:=bGs (e:=e) (d:=d) (i:=i+1) (l:=l)
  grind[gU,gY,List.length_cons,Nat.add_mul,bJq]
theorem bGt (a b:Int):(jM [a,b]).length<=12:=aE4 [a,b]
theorem y7 (log:List AF)(k e:Int):(bI log k e).1.sz<=13*log.length:=by
 unfold bI;have h1:=bGs (e:=e) (d:=jM [aD log,k]) (i:=0) (l:=aC log);have h2:=iB log;have a:=bGt (aD log) k;have b:=fq (aC log).length a
 grind[aT,bL,gY,jM,aD,aC,AM.sz]
theorem bSw (c:AO)(l:List AF)(e:AM):(nM c l e).1.sz<=c.sz+l.length+e.sz/\(nM c l e).1.History=c.History:=by
 grind[aT,cZ,iY,AO.sz,AM.sz,nM]
theorem bGu (l:List AV)(h p:Int):(aE7 l h p).length=l.length+1:=by
 grind[aE7,List.length_append,List.length_take,List.length_drop,List.length_singleton]
theorem bJr (a:AI)(h p:Int):(fT a h p).1.sz<=a.sz+1:=by
 grind[bA,aE7,AI.sz,bGu,fT]
theorem bBy (l:List AX):(Qj l).length<=l.length:=by
 grind[decide,List.length_append,List.length_take,List.length_drop,Qj]
theorem bWk (m:AU)(k a t:Int):(Fw m k a t).1.sz<=m.sz+1:=by
 grind[kL,Qj,AU.sz,List.length_append,List.length_singleton,bBy,Fw]
def pU {α:Type}{p:α->Bool}{i:Nat}{l:List α}(h:decide (lL p i l<0)=false):(i:Int)<=lL p i l/\lL p i l<i+l.length:=by induction l generalizing i<;>grind[lL,List.length_cons]
theorem bBz (s:AC)(id h p:Int):(eH s id h p).1.sz<=s.sz+1:=by
 unfold eH;cases hc: !bY s||decide (aI s id<0) with
 |true=>simp
 |false=>
  rw[bl] at hc;have hr:=pU hc.2
  grind[fT,aI,id,default,wN,AI.sz,bJr,List.getD,List.getElem?_eq_getElem,AC.sz,List.length_set]
def appW (w:AA)(x:AD):AA:={w with Devices:=w.Devices++[x],Stolen:=w.Stolen++[false]}
theorem aE8 (w:AA)(b k p:Int)(key:List AF->Int):(jV w b k p key).1.sz<=w.sz+14*(w.aAE.Log.length+1)/\(jV w b k p key).1.aAE.Log.length<=w.aAE.Log.length+1/\(jV w b k p key).1.Devices=w.Devices/\(jV w b k p key).1.Sites=w.Sites:=by
 grind[AA.sz,AO.sz,nM,bI,aT,cZ,iY,bSw,y7,eG,aH,wO,jV]
def nA (d:AD)(h:Int)(rm:Bool):AD:=(dJ (dJ d (aA 0) h rm).1 (aA 1) h rm).1
def gV (st:AK)(n:Int):Nat->List AC->List AC×Bool
 |_,[]=>([],true)
 |j,s::l=>bif (eH s 1 n (fF st (aA (j:Int)) n)).2&&(gV st n (j+1) l).2 then((eH s 1 n (fF st (aA (j:Int)) n)).1::(gV st n (j+1) l).1,true) else([],false)
def rH (w:AA)(k:Int):AA:={w with Mail:=(Fw w.Mail k 1 w.Now).1}
def add1 (w:AA)(b:Int):AA×Bool:=jV (aR w b 0).1 b 1 (aS (aQ w.Seed (w.Devices.length:Int))) λ_=>(aH (aR w b 0).1 b).Key
def aAl (w:AA)(b:Int):List AC×Bool:=gV (aQ w.Seed (w.Devices.length:Int)) (w.Devices.length:Int) 0 (add1 w b).1.Sites
def rJ (w:AA)(b:Int):AA×Bool:=iK {(add1 w b).1 with Sites:=(aAl w b).1,Devices:=(add1 w b).1.Devices.set b.toNat (nA (aH (add1 w b).1 b) (w.Devices.length:Int) false)} b
def Ey (w:AA)(b:Int):AA×Int:=aR (appW (rJ w b).1 (bH (aQ w.Seed (w.Devices.length:Int)))) (w.Devices.length:Int) 0
def Cb (w:AA)(b:Int):Bool:=(aP w&&(aL w b&&(!bZ w b&& !decide ((w.Devices.length:Int)>=6))))&&((aR w b 0).2==0&&((add1 w b).2&&((aAl w b).2&&((rJ w b).2&&(Ey w b).2==0))))
def fI (w:AA)(b:Int):AA×Bool:=bif Cb w b then(rH (Ey w b).1 2,true) else(w,false)
theorem aR7 (d:AD)(h:Int)(rm:Bool):(nA d h rm).sz<=d.sz+2:=by
 grind[nA,x8,aA,dJ]
def aKc {st:AK}{n:Int}:∀{j:Nat} {l:List AC},(gV st n j l).1.length<=l.length/\((gV st n j l).1.map AC.sz).sum<=(l.map AC.sz).sum+l.length
 |j,[]=>by simp[gV]
 |j,s::l=>by
  have h1:=aKc (st:=st) (n:=n) (j:=j+1) (l:=l)
  grind[eH,fF,aA,gV,List.length_cons,bBz]
def bO2 {w:AA}{b:Int}(h0:((aR w b 0).2==0)=true):(aL (add1 w b).1 b=true/\(add1 w b).1.Devices.length=w.Devices.length)/\(add1 w b).1.sz<=16*w.sz+34/\(add1 w b).1.aAE.Log.length<=w.sz+1:=by
 grind[k2,k4,add1,aL,jV,k3,aE8,aR,aS,aQ,aH,AA.sz,AO.sz,k1,k5,qK]
def aAV (w:AA)(b:Int):AA:={(add1 w b).1 with Sites:=(aAl w b).1,Devices:=(add1 w b).1.Devices.set b.toNat (nA (aH (add1 w b).1 b) (w.Devices.length:Int) false)}
def bGv {w:AA}{b:Int}(h0:((aR w b 0).2==0)=true):(aL (aAV w b) b=true/\(aAV w b).Devices.length=w.Devices.length)/\(aAV w b).sz<=32*w.sz+80/\(aAV w b).aAE.Log.length<=w.sz+1:=by
 obtain⟨⟨h1,h2⟩,a,c⟩:=bO2 h0;have d:=aKc (st:=aQ w.Seed (w.Devices.length:Int)) (n:=(w.Devices.length:Int)) (j:=0) (l:=(add1 w b).1.Sites)
 grind[aAV,aAl,add1,AA.sz,List.length_set,aL,aH,List.getD,List.getElem?_eq_getElem,wN,AD.sz,nA,aR7]
theorem bMh (w:AA)(x:AD):(appW w x).sz=w.sz+x.sz+2:=by
 grind[appW,AA.sz,List.length_append,List.length_singleton]
theorem aR8 (w:AA)(k:Int):(rH w k).sz<=w.sz+1:=by
 grind[rH,AA.sz,AU.sz,bWk]
def bMi {w:AA}{b:Int}(h0:((aR w b 0).2==0)=true)(h:(rJ w b).2=true):(rJ w b).1.sz<=33*w.sz+602/\(rJ w b).1.aAE.Log.length<=w.sz+1:=by obtain⟨_,h1,h2⟩:=bGv h0;obtain⟨a,c⟩:=x9 (w:=aAV w b) (d:=b) h;exact⟨by show(iK (aAV w b) b).1.sz<=_;omega,by show(iK (aAV w b) b).1.aAE.Log.length<=_;rw[a];exact h2⟩
theorem bB0 {α:Type}{p:α->Bool}:∀{l:List α} {i:Nat} (hi:i<l.length),i<(l.takeWhile p).length->p l[i]=true
 |x::l,0,_,h=>by
  simp only[dl] at h;cases hp:p x with
  |true=>exact hp
  |false=>rw[hp] at h;simp at h
 |x::l,i+1,hi,h=>by
  simp only[dl] at h;cases hp:p x with
  |true=>
   have a:i<(l.takeWhile p).length:=by simpa[hp] using h
   exact bB0 (l:=l) (i:=i) (by simpa using hi) a
  |false=>rw[hp] at h;simp at h
theorem bB1 {α:Type}{p:α->Bool}:∀{l:List α} (h:(l.takeWhile p).length<l.length),p (l[(l.takeWhile p).length]'h)=false
 |x::l,h=>by
  cases hp:p x with
  |true=>
   have a:(l.takeWhile p).length<l.length:=by simpa[dl,hp] using h
   simpa[dl,hp] using bB1 a
  |false=>simp[dl,hp]
theorem Vi {α:Type}{p:α->Bool}{l:List α}:(l.takeWhile p).length<=l.length:=(List.takeWhile_prefix p).length_le
def aKd {α τ S:Type}{l:List α}(p:α->Bool)(fin:Nat->Option τ)(e:Nat->S){F:(S->Option τ)->S->Option τ}(hl:l.length<=34359738368)
  (a:∀rec i (hi:i<l.length),F rec (e i)=bif p l[i] then rec (e (i+1)) else fin i) (b:∀rec,F rec (e l.length)=fin l.length):EV.bU FUEL F (e 0)=fin (l.takeWhile p).length:=by
 have go:∀(k i n:Nat),i+k=(l.takeWhile p).length->k<n->EV.bU n F (e i)=fin (l.takeWhile p).length:=by
  intro k;induction k with
  |zero=>
   intro i n hi hn;obtain⟨n,rfl⟩:∃m,n=m+1:=⟨n-1,by omega⟩
   grind[Vi,bB1,jE]
  |succ k c=>
   intro i n hi hn;obtain⟨n,rfl⟩:∃m,n=m+1:=⟨n-1,by omega⟩
   grind[jE,bB0,Vi]
 have:=Vi (p:=p) (l:=l);exact go (l.takeWhile p).length 0 FUEL (by omega) (by grind[gX])
def aKe {e:Int}{d:List Int}{l:List Int}{τ:Type}{x:τ}{F:(List AN×Nat->Option (τ⊕List AN))->List AN×Nat->Option (τ⊕List AN)}
  (a:∀rec i s (hi:i<l.length),s.length<=i->F rec (s,i)=bif !(gU l[i] (IntKind.i64.wrap (e+(i:Int))) d).2 then some (.inl x) else rec (s++[(gU l[i] (IntKind.i64.wrap (e+(i:Int))) d).1],i+1)) (b:∀rec s,F rec (s,l.length)=some (.inr s)):
  ∀(k i n:Nat) (s:List AN),i+k=l.length->k<n->s.length<=i->EV.bU n F (s,i)=some (bif (gY e d i (l.drop i)).2 then .inr (s++(gY e d i (l.drop i)).1) else .inl x)
 |0,i,n+1,s,h,_,_=>by
  have:i=l.length:=by omega
  subst this;rw[jE,b,dk];simp[gY]
 |k+1,i,n+1,s,h,hn,hs=>by
  have hi:i<l.length:=by omega
  rw[jE,a _ i s hi hs,cy hi,gY];cases hb:(gU l[i] (IntKind.i64.wrap (e+(i:Int))) d).2 with
  |false=>rfl
  |true=>rw[aq,ac,aKe a b k (i+1) n _ (by omega) (by omega) (by simp;omega)];cases(gY e d (i+1) (l.drop (i+1))).2<;>simp
def cCl (l:List AX):Nat:=(l.takeWhile λn=> !n.Seen).length
def bSx (l:List AX):(xU l:Int)=bif l.any (λx=>x.Seen) then(cCl l:Int) else 0:=by unfold xU cCl;cases l.any (λn=>n.Seen)<;>rfl
def bGw {l:List AX}(h:0<l.length):xU l<l.length:=by
 unfold xU;cases hs:l.any (λn=>n.Seen) with
 |false=>exact h
 |true=>
  obtain⟨x,b,hp⟩:=eM.1 hs;have:∀l:List AX,x∈l->(l.takeWhile λn=> !n.Seen).length<l.length:=by
   intro l;induction l with
   |nil=>simp
   |cons y l c=>
    intro h;cases a:y.Seen with
    |true=>simp[a]
    |false=>
     rcases ba.1 h with rfl|h
     all_goals simp[*]
  simp[*]
def bWl {τ S:Type}{l:List AX}(fin:Int->Option τ)(st:Nat->S){F:(S->Option τ)->S->Option τ}(hl:l.length<=34359738368)(a:∀rec i (hi:i<l.length),F rec (st i)=bif l[i].Seen then fin (i:Int) else rec (st (i+1)))(b:∀rec,F rec (st l.length)=fin 0):EV.bU FUEL F (st 0)=fin (xU l:Int):=by
 have e:=aKd (l:=l) (λn=> !n.Seen) (λi=>bif decide (i<l.length) then fin (i:Int) else fin 0) st (F:=F) hl (by grind) (by simp[*]);rw[e,bSx];cases hs:l.any (λn=>n.Seen) with
 |true=>
  have h0:0<l.length:=by grind
  have:=bGw h0;unfold xU at this;rw[hs,ae] at this;rw[ax this];rfl
 |false=>
  have c:∀l:List AX,l.any (λn=>n.Seen)=false->(l.takeWhile λn=> !n.Seen).length=l.length:=by intro l;induction l<;>simp_all
  simp[*]
def bGx {e:Int}{d:List Int}{i:Nat}{l:List Int}(h:(gY e d i l).2=false):gY e d i l=([],false):=by cases l<;>grind[gY,gU]
theorem bJs {s:AC}{i:Int}(b:s.sz<=34359738300)(h:decide (aI s i<0)=false):bC s.Accounts (aI s i)=some (s.Accounts.getD (aI s i).toNat default)/\(s.Accounts.getD (aI s i).toNat default).sz<=34359738300/\(aI s i).toNat<s.Accounts.length:=by
 have hr:=pU (p:=λa:AI=>a.Id==i) (i:=0) (l:=s.Accounts) h
 grind[AC.sz,uF,aI,xI,AI.sz]
def lH (d:AD)(log:List AF)(key:Int):AD×Bool:=bif !aT log||(!cZ log d.Log||(decide (aD log<d.Epoch)|| !bL key)) then(d,false) else({d with Log:=log,Key:=key,Epoch:=aD log,Version:=0},true)
def aY (a:AI)(h:Int):Int:=lL (λc=>c.Handle==h) 0 a.Credentials
def gW (a:AI)(k:Int):AV:=a.Credentials.getD k.toNat default
def oC (a:AI)(h:Int):AI×Bool:=bif !bA a||(decide (aY a h<0)||(gW a (aY a h)).Cut) then(a,false) else({a with Credentials:=a.Credentials.set (aY a h).toNat {gW a (aY a h) with Cut:=true}},true)
def gG (s:AC)(k:Int):AI:=s.Accounts.getD k.toNat default
def gM (h:Int)(s:AC):AC:=bif decide (aI s 1>=0) then {s with Accounts:=s.Accounts.set (aI s 1).toNat (oC (gG s (aI s 1)) h).1} else s
def bS (s e:Int):Int:=aU s [233,e]
def nN (s:AK)(l:List AF):Int:=bS (aU s.Seed [311]) (aD l)
def kY (w:AA)(b:Int):AA:=(aR w b 0).1
def aKf (w:AA)(b t:Int):List AF:=(eG (kY w b).aAE.Log 2 (aS (aH w t).Store) (aH (kY w b) b).Store).1
def mR (w:AA)(b t:Int):AA×Bool:=jV (kY w b) b 2 (aS (aH w t).Store) (nN (aH (kY w b) b).Store)
def Ph (w:AA)(b t:Int):AD×Bool:=lH (aH (kY w b) b) (aKf w b t) (nN (aH (kY w b) b).Store (aKf w b t))
def aAm (w:AA)(b t:Int):AA:={(mR w b t).1 with Devices:=(mR w b t).1.Devices.set b.toNat (nA (Ph w b t).1 t true),Sites:=(mR w b t).1.Sites.map (gM t)}
def Kh (w:AA)(b t:Int):AA×Bool:=upF (aAm w b t) b
def oV (w:AA)(b t:Int):AA×Bool:=bif (mR w b t).2&&((Ph w b t).2&&(Kh w b t).2) then(rH (Kh w b t).1 4,true) else(w,false)
def eY (w:AA)(b t:Int):AA×Bool:=bif (aR w b 0).2==0&&(!bZ w b&&(!(b==t)&&bF w t)) then oV w b t else(w,false)
theorem aT4 (d:AD)(l:List AF)(k:Int):(lH d l k).1.sz<=d.sz+l.length:=by
 grind[aT,cZ,decide,aD,bL,AD.sz,lH]
theorem bJt (a:AI)(h:Int):(oC a h).1.sz=a.sz:=by
 grind[bA,decide,aY,gW,AI.sz,List.length_set,oC]
theorem bJu (h:Int)(s:AC):(gM h s).sz=s.sz:=by
 unfold gM;cases hc:decide (aI s 1>=0) with
 |false=>rfl
 |true=>
  have h0:decide (aI s 1<0)=false:=by simp_all
  have hr:=pU h0
  grind[AC.sz,List.length_set,gG,aI,List.getD,List.getElem?_eq_getElem,bJt,wN,AI.sz,oC]
theorem bGy (h:Int)(l:List AC):((l.map (gM h)).map AC.sz).sum=(l.map AC.sz).sum:=by induction l<;>grind[bJu]
def bO3 {w:AA}{b t:Int}(h0:((aR w b 0).2==0)=true):(aL (kY w b) b=true/\(kY w b).Devices.length=w.Devices.length/\(kY w b).aAE=w.aAE/\(kY w b).sz<=2*w.sz+20)/\(aKf w b t).length<=w.sz+1/\(aL (mR w b t).1 b=true/\(mR w b t).1.Devices=(kY w b).Devices)/\(mR w b t).1.sz<=16*w.sz+34/\(mR w b t).1.Sites=(kY w b).Sites:=by
 obtain⟨⟨k1,k2⟩,k3,k4,k5⟩:=qK h0;have a:w.aAE.Log.length<=w.sz:=by grind[AA.sz,AO.sz]
 grind[aL,jV,kY,aS,aH,nN,k4,k3,aKf,mR,k6,k5,aR,k2,aE8,wO]
--needs aAM aAL aAN
def fB (b:AQ)(id:Int):Int:=bK b.Seed [197,id]
def aE9 (b:AQ)(acc now:Int):A4:=⟨b.Next,acc,IntKind.i64.wrap (now+5)⟩
def fK (b:AQ)(acc now:Int):AQ×A4×Bool:=bif eX b&&(!(b.Next==1000000)&&(bR acc 0 1000000&&bR now 0 1000000)) then(⟨b.Seed,IntKind.i64.wrap (b.Next+1),(bif decide ((b.Open.length:Int)>=16) then b.Open.drop 1 else b.Open)++[aE9 b acc now]⟩,aE9 b acc now,true) else(b,⟨0,0,0⟩,false)
def dR (b:AQ)(id:Int):Int:=lL (λc=>c.Id==id) 0 b.Open
def aKg (b:AQ)(k:Int):A4:=b.Open.getD k.toNat default
def pV (b:AQ)(id acc now:Int):AQ×Bool:=bif !eX b||decide (dR b id<0) then(b,false) else(⟨b.Seed,b.Next,b.Open.take (dR b id).toNat++b.Open.drop ((dR b id).toNat+1)⟩,(aKg b (dR b id)).aAH==acc&&decide (now<=(aKg b (dR b id)).Until))
def mU (s:AC)(id now:Int):AC×Int×Int×Bool:=bif bY s&&(!decide (aI s id<0)&&(fK s.Book id now).2.2) then({s with Book:=(fK s.Book id now).1},(fK s.Book id now).2.1.Id,fB (fK s.Book id now).1 (fK s.Book id now).2.1.Id,true) else(s,0,0,false)
def lW (s:AK):Bool:=bR s.Vendor 1 9&&(bR s.Serial 0 1000000&&(bL s.Seed&&bR s.Counter 0 1000000))
def bSy (s:AK):AK:={s with Counter:=IntKind.i64.wrap (s.Counter+1)}
def jI (s:AK)(site:ByteArray)(h:Int)(m:List Int):AK×Int×Bool:=bif lW s&& !(s.Counter==1000000) then(bSy s,sQ (cO s site h) (m++[(bSy s).Counter]),true) else(s,0,false)
def bP (a:AZ):List Int:=[199,bD a.Site,pQ 211 a.aAL,a.aAN,a.Handle,bif a.Present then 1 else 0]
def aFa (j:Int):AP:=⟨true,⟨#[119,119,119,46]⟩++aA j,443⟩
def aKh (j:Int):AP:=⟨true,⟨#[108,111,103,105,110,46]⟩++aA j++⟨#[46,101,118,105,108,46,110,101,116]⟩,443⟩
def bX6 (j:Int):AP:=⟨true,aA j,443⟩
def vE (k:Nat):AP:=match k with|0=>aFa 0|1=>aFa 1|2=>bX6 0|3=>bX6 1|4=>aKh 0|_=>aKh 1
def yQ (k:Nat):ByteArray:=⟨#[104,116,116,112,115,58,47,47]⟩++(vE k).Host
def cCm:List UInt8->List UInt8->Bool
 |[],b=>b==[]
 |x::a,b=>b==x::a||cCm a b
def mK (o:AP)(z:ByteArray):Bool:=cCm (46::o.Host.data.toList) (46::z.data.toList)
def Qk (o:AP)(s:ByteArray):Prop:=(∃k:Nat,k<6/\o=vE k)/\∃j:Int,(j=0\/j=1)/\s=aA j
noncomputable instance (o:AP) (s:ByteArray):Decidable (Qk o s):=Classical.propDecidable _
def mE (o:AP):Prop:=∃k:Nat,k<6/\o=vE k
def mE.p {o:AP}(h:mE o){j:Int}(a:j=0\/j=1):Qk o (aA j):=⟨h,j,a,rfl⟩
def bSz {j:Int}(a:j=0\/j=1):mE (aFa j):=by
 rcases a with rfl|rfl
 ·exact⟨0,by decide,rfl⟩
 ·exact⟨1,by decide,rfl⟩
noncomputable instance (o:AP):Decidable (mE o):=Classical.propDecidable _
def uI (o:AP):ByteArray:=⟨#[104,116,116,112,115,58,47,47]⟩++o.Host
def bO4 (s:ByteArray):Prop:=s=⟨#[]⟩\/∃k:Nat,k<4/\s=yQ k
noncomputable instance (s:ByteArray):Decidable (bO4 s):=Classical.propDecidable _
def Bh (s:ByteArray):AP×Bool:=bif decide (s.size=0) then(⟨false,⟨#[]⟩,0⟩,false) else(⟨true,s.extract 8 s.size,443⟩,true)
def Sa (s:AK)(o:AP)(site:ByteArray)(h a:Int)(p:Bool):AZ:=⟨site,uI o,a,h,p,0,0⟩
def aYm:AZ:=⟨⟨#[]⟩,⟨#[]⟩,0,0,false,0,0⟩
def jJ (s:AK)(o:AP)(site:ByteArray)(h a:Int)(p:Bool):AK×AZ×Bool:=bif mK o site&&(jI s site h (bP (Sa s o site h a p))).2.2 then((jI s site h (bP (Sa s o site h a p))).1,{Sa s o site h a p with Counter:=(jI s site h (bP (Sa s o site h a p))).1.Counter,Signature:=(jI s site h (bP (Sa s o site h a p))).2.1},true) else(s,aYm,false)
def AsP (a:AZ)(site:ByteArray):Prop:=∃j:Int,(j=0\/j=1)/\site=aA j/\(a=aYm\/(a.Site=site/\∃k:Nat,k<4/\a.aAL=yQ k/\mK (vE k) site=true))
noncomputable instance (a:AZ) (s:ByteArray):Decidable (AsP a s):=Classical.propDecidable _
def iL (pub:Int)(a:AZ)(site:ByteArray)(b cnt:Int):Int:=bif !(a.Site.toList==site.toList) then 1 else bif !a.Present then 2 else bif !(a.aAN==b) then 3 else bif !iT pub (bP a++[a.Counter]) a.Signature then 5 else bif decide (a.Counter<=cnt) then 4 else 0
def iO (a:AI)(x:AZ)(site:ByteArray)(b:Int):AI×Int:=bif !bA a||(decide (aY a x.Handle<0)||(gW a (aY a x.Handle)).Cut) then(a,5) else({a with Credentials:=bif iL (gW a (aY a x.Handle)).Public x site b (gW a (aY a x.Handle)).Counter==0 then a.Credentials.set (aY a x.Handle).toNat {gW a (aY a x.Handle) with Counter:=x.Counter} else bif iL (gW a (aY a x.Handle)).Public x site b (gW a (aY a x.Handle)).Counter==4 then a.Credentials.set (aY a x.Handle).toNat {gW a (aY a x.Handle) with Cut:=true} else a.Credentials},iL (gW a (aY a x.Handle)).Public x site b (gW a (aY a x.Handle)).Counter)
def qL (a:AI)(m:Int):Bool:=bA a&&(decide (a.Minimum<=m)&&(decide (m<=3)&&(!(m==3)||a.Credentials.any λc=> !c.Cut)))
def lX (s:AC)(id b now:Int)(a:AZ):AC×Int×Int:=bif !bY s||decide (aI s id<0) then(s,1,0) else bif !(pV s.Book b id now).2 then({s with Book:=(pV s.Book b id now).1},2,0) else bif !qL (gG s (aI s id)) 3 then({s with Book:=(pV s.Book b id now).1},3,0) else bif !((iO (gG s (aI s id)) a s.Name (fB s.Book b)).2==0) then({s with Book:=(pV s.Book b id now).1,Accounts:=s.Accounts.set (aI s id).toNat (iO (gG s (aI s id)) a s.Name (fB s.Book b)).1},4,(iO (gG s (aI s id)) a s.Name (fB s.Book b)).2) else({s with Book:=(pV s.Book b id now).1,Accounts:=s.Accounts.set (aI s id).toNat (iO (gG s (aI s id)) a s.Name (fB s.Book b)).1,Logins:=s.Logins++[id]},0,0)
def eO (w:AA)(j:Int):AC:=w.Sites.getD j.toNat default
def aAY (w:AA)(j:Int):AC×Int×Int×Bool:=mU (eO w j) 1 w.Now
def Ki (w:AA)(d j:Int)(o:AP):AK×AZ×Bool:=jJ (aH w d).Store o (aA j) d (aAY w j).2.2.1 true
def vF (w:AA)(d j:Int)(o:AP):AC×Int×Int:=lX (aAY w j).1 1 (aAY w j).2.1 w.Now (Ki w d j o).2.1
def aPn (w:AA)(d j:Int)(o:AP):AA:={w with Devices:=w.Devices.set d.toNat {aH w d with Store:=(Ki w d j o).1},Sites:=w.Sites.set j.toNat (vF w d j o).1}
def dL (w:AA)(d j:Int):Bool:=aP w&&(aL w d&&fA w j)
def gN (w:AA)(d j:Int)(o:AP):AA×AZ×Int:=bif !dL w d j then(w,aYm,1) else bif !(aAY w j).2.2.2 then(w,aYm,1) else bif !((vF w d j o).2.1==0) then(aPn w d j o,(Ki w d j o).2.1,2) else(rH (aPn w d j o) 1,(Ki w d j o).2.1,0)
def mM (w:AA)(d j:Int)(o:AP):AA×Int:=((gN w d j o).1,(gN w d j o).2.2)
def y9 (w:AA)(d j:Int):AA×Int:=bif dL w d j&& !bZ w d then mM w d j (aFa j) else(w,1)
def sZ (o:AP):Bool:=iX o.Host&&bR o.Port 1 65535
def aPo (m:Int):Nat->Int->Int->Int->Int
 |0,_,_,s=>s
 |k+1,b,n,s=>if n>0 then aPo m k ((IntKind.i64.wrap (b*b)).tmod m) (n/2) (bif n%2==1 then(IntKind.i64.wrap (s*b)).tmod m else s) else s
def oD (x:Int):Bool:=bR x 1 2038&&aPo 2039 11 x 1019 1==1
def gP (g n:Int):Int:=bif oD g then aPo 2039 11 g (fE n 1019) 1 else 0
def Fx (l v:Int):Int:=gP 4 (IntKind.i64.wrap (1+((IntKind.i64.wrap (bK l [89,v]*bK l [89,v])).tmod 2147483647).tmod 1018))
def A7 (s l i:Int):Int:=gP (Fx l i) s
def rQ (e l:Int):Int:=kD (bK e [157,l])
def U5 (k m:Int):Int:=bif bR k 0 2147483647 then bCx .i64 k (aU m [251]) else 0
def Av (o s:Int):Int:=bK o [257,s]
def yR (c:Int)(l:List Int)(n:Int):List AS:=bif bR n 1 7&&decide ((l.length:Int)<n) then(List.range n.toNat).map λ(i:Nat)=>⟨(i:Int)+1,Fu c l ((i:Int)+1)⟩ else[]
def Fy (k:A3):AH:=⟨k,[],kT k⟩
def aR9 (pin salt key secret limit:Int):Bool:=bR pin 0 9999&&(bR salt 0 1000000&&(bL key&&(!(fE secret 1019==0)&&bR limit 1 10)))
def Pi (pin salt key secret:Int)(cs:List Int)(n limit:Int):A0×List AH×Bool:=
 bif aR9 pin salt key secret limit&& !((yR secret cs n).length==0) then(⟨salt,IntKind.i64.wrap ((cs.length:Int)+1),Av (rQ (A7 secret salt pin) salt) salt,U5 key (rQ (A7 secret salt pin) salt)⟩,(yR secret cs n).map (λs=>Fy ⟨s,0,0,limit⟩),true) else(⟨0,0,0,0⟩,[],false)
def fU (log:List AF)(bx:AM):AO×Bool:=bif aT log&&iY bx log then(⟨log,bx,[]⟩,true) else(⟨[],⟨0,[]⟩,[]⟩,false)
def Kj (id:Int)(l:List AI):Nat:=(l.takeWhile λa=>decide (a.Id<id)).length
def rM (s:AC)(id m:Int):AC:={s with Accounts:=s.Accounts.take (Kj id s.Accounts)++[⟨id,m,[]⟩]++s.Accounts.drop (Kj id s.Accounts)}
def oF (s:AC)(id m:Int):AC×Bool:=bif bY s&&bY (rM s id m) then(rM s id m,true) else(s,false)
def qM (nm:ByteArray):Nat->List AD->AC->AC
 |_,[],s=>s
 |i,d::l,s=>qM nm (i+1) l (eH s 1 (i:Int) (fF d.Store nm (i:Int))).1
def xV (seed:Int)(l:List AD)(j:Int):AC:=qM (aA j) 0 l (oF (iD (aA j) (aU seed [281,j])) 1 3).1
def xW (l:List AD)(seed:Int):List AC:=[xV seed l 0,xV seed l 1]
def aV (seed:Int):Nat->List AF
 |0=>[]
 |n+1=>(eG (aV seed n) 1 (aS (aQ seed (n:Int))) (aQ seed 0)).1
def dN (seed:Int)(n:Nat):List AD:=(List.range n).map λ(i:Nat)=>bH (aQ seed (i:Int))
def Pj (nm:ByteArray):Nat->AD->AD
 |0,d=>d
 |i+1,d=>(dJ (Pj nm i d) nm (i:Int) false).1
def jK (seed:Int)(n:Nat):AM:=(bI (aV seed n) (bS seed 0) 1000).1
def Aw (seed:Int)(n:Nat)(d:AD):AD:=(lH d (aV seed n) (bS seed 0)).1
def mO (seed:Int)(n:Nat):AD:=Pj (aA 1) n (Pj (aA 0) n (Aw seed n (bH (aQ seed 0))))
def nwW (seed:Int)(n:Nat):AD×AJ×Bool:=dV (mO seed n)
def jS (seed:Int)(n:Nat):AO:=(dK (fU (aV seed n) (jK seed n)).1 (nwW seed n).2.1).1
def Cc (seed:Int)(n:Nat)(d:AD):AD:=(cK (Aw seed n d) (aV seed n) (jK seed n) (nwW seed n).2.1).1
def kQ (seed:Int)(n:Nat):List AD:=(nwW seed n).1::((dN seed n).drop 1).map (Cc seed n)
def aAn (seed t:Int):List Int:=(List.range (t-1).toNat).map λ(k:Nat)=>aU seed [307,(k:Int)+1]
def aFb (seed t pin k:Int):A0×List AH×Bool:=Pi pin 7 (aU seed [283]) (IntKind.i64.wrap (1+(aU seed [293]).tmod 1018)) (aAn seed t) k 5
def Kk (n k t pin seed:Int):Bool:=bR n 1 3&&(bR k 1 7&&(bR t 1 k&&(bR pin 0 9999&&bL seed)))
def bMk:AA:=⟨0,0,[],[],⟨[],⟨0,[]⟩,[]⟩,[],⟨0,0,0,0⟩,[],0,⟨[]⟩⟩
def bN (n k t pin seed:Int):AA:=bif Kk n k t pin seed then⟨0,seed,kQ seed n.toNat,List.replicate n.toNat false,jS seed n.toNat,xW (dN seed n.toNat) seed,(aFb seed t pin k).1,(aFb seed t pin k).2.1,pin,⟨[]⟩⟩ else bMk
theorem aT5 {l:List Int}(h:l.Nodup)(e:AF):(kK l e).Nodup:=by
 grind[List.nodup_append,kK]
theorem bJv (log:List AF):(aC log).Nodup:=by
 have key:∀(l:List AF) (s:List Int),s.Nodup->(l.foldl kK s).Nodup:=by intro l;induction l<;>grind[aT5]
 exact key log [] gn
theorem bGz {e:Int}{d:List Int}:∀{i:Nat} {l:List Int},(gY e d i l).2=true->(gY e d i l).1.map (λb=>b.To)=l
 |_,[],_=>rfl
 |i,p::l,h=>by
  simp only[gY] at h ⊢;cases hc:(gU p (IntKind.i64.wrap (e+(i:Int))) d).2&&(gY e d (i+1) l).2 with
  |false=>rw[hc] at h;cases h
  |true=>
   rw[ab] at hc;simp only[ae,bo,bGz hc.2];have:(gU p (IntKind.i64.wrap (e+(i:Int))) d).1.To=p:=by
    have h1:=hc.1;unfold gU at h1 ⊢;cases hq:iC p==0||(!bL (IntKind.i64.wrap (e+(i:Int)))||decide ((d.length:Int)>200)) with
    |true=>rw[hq] at h1;cases h1
    |false=>rfl
   rw[this]
theorem bB2:∀{l:List AN} {d:Int} {s:Int},(l.map λb=>b.To).Nodup->0<=s->s<1000->l.foldl (λn b=>bif b.To==d then IntKind.i64.wrap (n+1) else n) s=s+(if d∈l.map (λb=>b.To) then 1 else 0)
 |[],d,s,_,_,_=>by simp
 |b::l,d,s,h,h0,h1=>by
  rw[bo,cx] at h;rw[de];cases hc:b.To==d with
  |true=>
   have hd:b.To=d:=by simpa using hc
   have hn:d∉l.map (λb=>b.To):=hd▸h.1;have c:IntKind.i64.wrap (s+1)=s+1:=aK (by omega) (by omega);have key:∀(l:List AN) (s:Int),d∉l.map (λb=>b.To)->l.foldl (λn b=>bif b.To==d then IntKind.i64.wrap (n+1) else n) s=s:=by
    intro l;induction l with
    |nil=>exact λ_ _=>rfl
    |cons x l f=>
     intro s a;simp only[bo,ba,not_or] at a;have:(x.To==d)=false:=by simpa using λe=>a.1 e.symm
     rw[de,this,ac];exact f s a.2
   rw[ae,key l _ hn,c,bo,cU (by simp[hd])]
  |false=>
   have hd:¬b.To=d:=by simpa using hc
   rw[ac,bB2 h.2 h0 h1,bo];have:(d∈b.To::l.map λb=>b.To)↔d∈l.map λb=>b.To:=by rw[ba];exact⟨λh=>h.resolve_left λe=>hd e.symm, .inr⟩
   simp only[this]
theorem aYn {log:List AF}{k e:Int}(h:(bI log k e).2=true):iY (bI log k e).1 log=true:=by
 unfold bI at h ⊢;cases hc: !aT log||(!bL k|| !(gY e (jM [aD log,k]) 0 (aC log)).2) with
 |true=>simp_all
 |false=>
  simp only[bl,cG] at hc
  grind[bB2,bJv,iY,nL,List.all_eq_true,List.length_map,List.length,bGz]
theorem bO5 {log:List AF}{k e:Int}(h:(bI log k e).2=false):(bI log k e).1=⟨0,[]⟩:=by
 grind[aT,bL,gY,jM,aD,aC,bI]
def bB3 {d:AD}{log:List AF}{bx:AM}{s:AJ}(h:(kM d log bx s==0)=false):(cK d log bx s).1=d:=by
 grind[cK]
def bS0 (d:AD)(bx:AM)(s:AJ):(cK d [] bx s).1=d:=bB3 rfl
theorem cAo (s:AK):(dM s ⟨0,[]⟩).2=false:=rfl
def bJw {log:List AF}{key e:Int}{s:AJ}(hs:s=⟨0,0,[],0⟩\/s.Epoch=aD log)(d:AD):
  (cK d (dK (fU log (bI log key e).1).1 s).1.Log (dK (fU log (bI log key e).1).1 s).1.Boxes (gB (dK (fU log (bI log key e).1).1 s).1 0).1).1=(cK d log (bI log key e).1 s).1:=by
 cases hc:aT log&&iY (bI log key e).1 log with
 |true=>
  have b:(fU log (bI log key e).1).1=⟨log,(bI log key e).1,[]⟩:=by grind[fU]
  rw[b];cases hq:s.Epoch !=aD log with
  |true=>
   have c:s=⟨0,0,[],0⟩:=by simp_all
   have a:(dK ⟨log,(bI log key e).1,[]⟩ s).1=⟨log,(bI log key e).1,[]⟩:=by
    grind[bI,dK]
   rw[a,c];rfl
  |false=>
   have a:(dK ⟨log,(bI log key e).1,[]⟩ s).1=⟨log,(bI log key e).1,[s]⟩:=by
    grind[bI,dK]
   rw[a];rfl
 |false=>
  have b:(fU log (bI log key e).1).1=⟨[],⟨0,[]⟩,[]⟩:=by grind[fU]
  have a:(dK (fU log (bI log key e).1).1 s).1.Log=[]:=by rw[(wM _ _).2,b]
  rw[a,bS0];refine(bB3 ?_).symm;cases hl:aT log with
  |false=>grind[kM,Bool.not_false]
  |true=>
   grind[cZ,iQ,aC,aS,kM,cAo,Bool.not_true,Bool.not_false,bO5,bI,aYn]
theorem aSa (nm:ByteArray):∀(i:Nat) (d:AD),(Pj nm i d).sz<=d.sz+i
 |0,d=>aj _
 |i+1,d=>by have h1:=aSa nm i d;grind[dJ,Pj,x8]
theorem sF (seed:Int):∀n:Nat,(aV seed n).length<=n
 |0=>aj _
 |n+1=>by have h1:=sF seed n;grind[eG,aV,aS,aQ,wO]
theorem aSb (seed:Int)(n:Nat)(d:AD):(Aw seed n d).sz<=d.sz+n:=by have h1:=aT4 d (aV seed n) (bS seed 0);have h2:=sF seed n;show(lH d (aV seed n) (bS seed 0)).1.sz<=_;omega
theorem aKi (s:AK):(bH s).sz=0:=rfl
def aT6 (seed:Int)(n:Nat):(mO seed n).sz<=3*n:=by
 grind[mO,aKi,aSb,bH,aQ,aSa,aA,Aw,Pj]
theorem aT7 (seed:Int)(n:Nat):(jK seed n).sz<=13*n:=by
 grind[jK,sF,y7,aV,bS]
theorem aOr (log:List AF)(bx:AM):(fU log bx).1.sz<=log.length+bx.sz:=by
 grind[aT,iY,bx,AO.sz,AM.sz,List.length_nil,fU]
def aT8 (seed:Int)(n:Nat):(jS seed n).sz<=14*n+501:=by
 grind[jS,nwW,Bg,mO,sF,aT7,aOr,aV,jK,wM,fU]
theorem bO6 (seed:Int)(n:Nat)(d:AD):(Cc seed n d).sz<=d.sz+2*n+20:=by
 grind[Cc,sF,aSb,aT2,Aw,aV,jK,nwW]
def bJx {α:Type}{f:α->Nat}{b:Nat}:∀{l:List α},(∀x∈l,f x<=b)->(l.map f).sum<=l.length*b
 |[],_=>cE _
 |x::l,h=>by
  have h1:=h x (by simp);have h2:=bJx (l:=l) (f:=f) (b:=b) λy a=>h y (by simp[a]);simp only[bo,dw,ao,cY];omega
theorem aAo (nm:ByteArray):∀(i:Nat) (l:List AD) (s:AC),(qM nm i l s).sz<=s.sz+l.length
 |_,[],s=>aj _
 |i,d::l,s=>by
  have h1:=aAo nm (i+1) l (eH s 1 (i:Int) (fF d.Store nm (i:Int))).1
  grind[List.length_cons,qM,eH,fF,bBz]
def aT9 (s:AC)(id m:Int):(oF s id m).1.sz<=s.sz+1:=by
 unfold oF;cases bY s&&bY (rM s id m) with
 |false=>simp
 |true=>
  grind[rM,AC.sz,List.length_append,List.length_cons,List.length_nil,AI.sz,Kj,id,List.take_append_drop]
def aOs (nm:ByteArray)(s:Int):(iD nm s).sz<=nm.size:=by
 unfold iD;cases lF nm s with
 |true=>simp[AC.sz]
 |false=>exact cE _
def aOt (seed:Int)(l:List AD)(j:Int):(xV seed l j).sz<=l.length+101:=by
 have h1:=aAo (aA j) 0 l (oF (iD (aA j) (aU seed [281,j])) 1 3).1;have h2:=aT9 (iD (aA j) (aU seed [281,j])) 1 3;have a:=aOs (aA j) (aU seed [281,j]);have b:(aA j).size<=100:=by unfold aA;cases j==0<;>cases j==1<;>decide
 grind[xV]
def bB4 (c:Int)(l:List Int)(n:Int):(yR c l n).length<=7:=by
 grind[bR,decide,gQ,List.length_map,List.length_range,yR]
def aFc (pin salt key secret:Int)(cs:List Int)(n limit:Int):(Pi pin salt key secret cs n limit).2.1.length<=7/\((Pi pin salt key secret cs n limit).2.1.map AH.sz).sum=0:=by
 unfold Pi;cases aR9 pin salt key secret limit&& !((yR secret cs n).length==0) with
 |false=>simp
 |true=>refine⟨by simp only[ae,bg];exact bB4 _ _ _,?_⟩;have:=bJx (f:=AH.sz) (b:=0) (l:=(yR secret cs n).map λs=>Fy ⟨s,0,0,limit⟩) (λx a=>by obtain⟨s,_,rfl⟩:=cn.1 a;exact aj _);simp_all
def bG0 (n k t pin seed:Int):(bN n k t pin seed).sz<=100000:=by
 unfold bN;cases hc:Kk n k t pin seed with
 |false=>exact cE _
 |true=>
  simp only[Kk,ab] at hc;have hn:=gQ hc.1;obtain⟨N,c⟩:∃N,N=n.toNat:=⟨_,rfl⟩;have d:N<=3:=by omega
  have h1:=Bg (mO seed N);have h2:=aT6 seed N;have m:=aT8 seed N;have o:=aOt seed (dN seed N) 0;have p:=aOt seed (dN seed N) 1;have e:=aFc pin 7 (aU seed [283]) (IntKind.i64.wrap (1+(aU seed [293]).tmod 1018)) (aAn seed t) k 5;have a:(dN seed N).length=N:=by simp[dN]
  have h:=bJx (f:=AD.sz) (b:=26) (l:=((dN seed N).drop 1).map (Cc seed N)) (by grind[List.mem_of_mem_drop,dN,bO6,bH,aQ,aKi]);have i:(nwW seed N).1.sz=(mO seed N).sz:=h1.1;have j:(aFb seed t pin k).2.1.length<=7/\((aFb seed t pin k).2.1.map AH.sz).sum=0:=e;rw[bg,cA,a] at h;simp only[ae,<-c,AA.sz,kQ,xW,ao,bg,cA,a,bo,dw,bu,fY,List.sum_nil,fh,i]
  grind[AO.sz,AM.sz,Nat.mul_le_mul_right,jS]
def bO7 (d:AD)(n:ByteArray)(h:Int)(rm:Bool):(dJ d n h rm).1.Key=d.Key/\(dJ d n h rm).1.Epoch=d.Epoch:=by unfold dJ;cases(Au d n h rm).2<;>exact⟨rfl,rfl⟩
def bDx (nm:ByteArray):∀(i:Nat) (d:AD),(Pj nm i d).Key=d.Key/\(Pj nm i d).Epoch=d.Epoch
 |0,d=>⟨rfl,rfl⟩
 |i+1,d=>by
  simp[bO7,Pj,bDx]
def bJy (seed:Int)(n:Nat):(mO seed n).Key=(Aw seed n (bH (aQ seed 0))).Key/\(mO seed n).Epoch=(Aw seed n (bH (aQ seed 0))).Epoch:=by obtain⟨h1,h2⟩:=bDx (aA 1) n (Pj (aA 0) n (Aw seed n (bH (aQ seed 0))));obtain⟨a,b⟩:=bDx (aA 0) n (Aw seed n (bH (aQ seed 0)));exact⟨h1.trans a,h2.trans b⟩
theorem bJz {seed:Int}{n:Nat}(h:bL (Aw seed n (bH (aQ seed 0))).Key=true):(Aw seed n (bH (aQ seed 0))).Epoch=aD (aV seed n):=by
 unfold Aw lH at h ⊢;cases hq: !aT (aV seed n)||(!cZ (aV seed n) (bH (aQ seed 0)).Log||(decide (aD (aV seed n)<(bH (aQ seed 0)).Epoch)|| !bL (bS seed 0))) with
 |true=>rw[hq] at h;exact absurd (show bL 0=true from h) (by decide)
 |false=>rfl
def bO8 (seed:Int)(n:Nat):(nwW seed n).2.1=⟨0,0,[],0⟩\/(nwW seed n).2.1.Epoch=aD (aV seed n):=by
 obtain⟨k1,k2⟩:=bJy seed n;unfold nwW dV;generalize mO seed n=d at k1 k2 ⊢;cases hs:(rG d.Key d.Epoch (IntKind.i64.wrap (d.Version+1)) d.aAC).2 with
 |false=>simp
 |true=>
  refine .inr ?_;simp only[ae];unfold rG at hs ⊢;cases hc:bL d.Key&&(bR d.Epoch 0 1000000&&bR (IntKind.i64.wrap (d.Version+1)) 0 1000000)&&aO d.aAC with
  |false=>grind
  |true=>
   simp only[ab] at hc;show d.Epoch=_
   grind[bJz,k1,k2]
def bWm (seed:Int)(n:Nat)(d:AD):(cK (Aw seed n d) (jS seed n).Log (jS seed n).Boxes (gB (jS seed n) 0).1).1=Cc seed n d:=bJw (bO8 seed n) (Aw seed n d)
def aFd (f:Int->Int)(l:List Int)(j:Nat)(x:Int):Bool:=(l.take j).any λq=>f q==f x
def A8 (s:AS)(e:Int):Int:=bif oD e&&(!(e==1)&&bR s.Value 0 1018) then gP e s.Value else 0
def zG (k:A3)(e:Int):A3×Int×Bool:=bif kP k&&(!(k.Guesses==k.Limit)&&(oD e&& !(e==1))) then({k with Guesses:=IntKind.i64.wrap (k.Guesses+1)},A8 k.aAQ e,true) else(k,0,false)
def bS1 (l:List A3):List A3:=bif decide ((l.length:Int)>30) then l.drop 1 else l
def pW (h:AH)(e:Int):AH×Int×Bool:=bif decide (kT h.State<h.Monotonic)|| !(zG h.State e).2.2 then(h,0,false) else(⟨(zG h.State e).1,bS1 (h.Saved++[h.State]),kT (zG h.State e).1⟩,(zG h.State e).2.1,true)
def iP (l i b:Int):Int:=bif fE b 1019==0 then 0 else gP (Fx l i) b
def aUa (hs:List AH)(a:List Int)(i:Nat)(c:Int):Bool:=(decide (c<0)||decide (c>=(hs.length:Int)))||aFd (λq=>q) a i c
def Ay (hs:List AH)(a:List Int):Bool:= !gJ (aUa hs a) 0 a
def bDy (e:Int)(s:List AH×List Int×List Int)(c:Int):List AH×List Int×List Int:=
 (s.1.set c.toNat (pW (s.1.getD c.toNat default) e).1,bif (pW (s.1.getD c.toNat default) e).2.2 then s.2.1++[(pW (s.1.getD c.toNat default) e).1.State.aAQ.Index] else s.2.1,bif (pW (s.1.getD c.toNat default) e).2.2 then s.2.2++[(pW (s.1.getD c.toNat default) e).2.1] else s.2.2)
def bDz (hs:List AH)(a:List Int)(e:Int):List AH×List Int×List Int:=a.foldl (bDy e) (hs,[],[])
def aOu (n:Int):Int:=bif fE n 1019==0 then 0 else aPo 1019 11 (fE n 1019) 1017 1
def aUb (l:List Int)(k a w:Int)(j:Nat):Int:=bif (j:Int)==k then w else(IntKind.i64.wrap ((IntKind.i64.wrap (w*fE (IntKind.i64.wrap (fE a 1019-fE (l.getD j 0) 1019)) 1019)).tmod 1019*aOu (IntKind.i64.wrap (fE (l.getD k.toNat 0) 1019-fE (l.getD j 0) 1019)))).tmod 1019
def Kl (l:List Int)(k a:Int):Int:=bif (decide (k<0)||decide (k>=(l.length:Int)))||gJ (aFd (λq=>fE q 1019) l) 0 l then 0 else(List.range l.length).foldl (aUb l k a) 1
def nO (a b:Int):Int:=bif oD a&&oD b then(IntKind.i64.wrap (a*b)).tmod 2039 else 0
def xJ (ix vs:List Int)(i:Nat)(x:Int):Bool:= !bR x 1 7||(!oD (vs.getD i 0)||aFd (λq=>q) ix i x)
def bX7 (ix vs:List Int):Int:=(List.range vs.length).foldl (λo i=>nO o (gP (vs.getD i 0) (Kl ix (i:Int) 0))) 1
def pX (ix vs:List Int):Int×Bool:=bif (!(ix.length==vs.length)||ix.length==0)||gJ (xJ ix vs) 0 ix then(0,false) else(bX7 ix vs,true)
def bB5 (c b:Int):Int:=bif fE b 1019==0 then 0 else gP c (aOu b)
def aKj (v:A0)(o:Int):Int×Bool:=bif Av o v.Salt==v.Check then(U5 v.Masked o,true) else(0,false)
def jW (v:A0)(hs:List AH)(a:List Int)(pin b:Int):List AH×List Int×List Int:=bDz hs a (iP v.Salt pin b)
def aUc (hs:List AH)(a:List Int)(pin b:Int):Bool:=Ay hs a&&(!(fE b 1019==0)&&bR pin 0 9999)
def zH (v:A0)(hs:List AH)(a:List Int)(pin b:Int):List AH×Int×Bool:=
 bif !aUc hs a pin b then(hs,0,false) else
 bif decide ((a.length:Int)<v.Threshold)||(decide ((jW v hs a pin b).2.2.length<a.length)|| !(pX (jW v hs a pin b).2.1 (jW v hs a pin b).2.2).2) then((jW v hs a pin b).1,0,false) else
  ((jW v hs a pin b).1,aKj v (rQ (bB5 (pX (jW v hs a pin b).2.1 (jW v hs a pin b).2.2).1 b) v.Salt))
def Ga (v:A0)(hs:List AH)(a:List Int)(pin b:Int)(i:Nat):AH×Int×Bool:=pW (((a.take i).foldl (bDy (iP v.Salt pin b)) (hs,([]:List Int),([]:List Int))).1.getD (a.getD i 0).toNat default) (iP v.Salt pin b)
def uJ (v:A0)(hs:List AH)(a:List Int)(pin b:Int)(n:Nat):List Int:=(List.range n).map λi=>(Ga v hs a pin b i).1.State.aAQ.Index
def uK (v:A0)(hs:List AH)(a:List Int)(pin b:Int)(n:Nat):List Int:=(List.range n).map λi=>(Ga v hs a pin b i).2.1
def bMl (v:A0)(hs:List AH)(a:List Int)(pin b:Int):List Int:=uJ v hs a pin b a.length
def bMm (v:A0)(hs:List AH)(a:List Int)(pin b:Int):List Int:=uK v hs a pin b a.length
def bS2 (v:A0)(hs:List AH)(a:List Int)(pin b:Int):Bool:=aUc hs a pin b&&(jW v hs a pin b).2.2.length==a.length
def bMn (v:A0)(hs:List AH)(a:List Int)(pin b:Int):List AH×Int×Bool×Bool:=((zH v hs a pin b).1,(zH v hs a pin b).2.1,(zH v hs a pin b).2.2,bS2 v hs a pin b)
def bMo (w:AA):Int:=IntKind.i64.wrap (1+(aU w.Seed [313,w.Now]).tmod 1018)
def fG (w:AA)(a:List Int)(pin:Int):AA×Int×Bool:=bif !aP w then(w,0,false) else
 (rH {w with Hosts:=(zH w.aAK w.Hosts a pin (bMo w)).1} 5,(zH w.aAK w.Hosts a pin (bMo w)).2)
def yS (w:AA):List Int:=(List.range (min w.aAK.Threshold ((w.Hosts.length:Int)+1)).toNat).map λ(i:Nat)=>(i:Int)
def Az (w:AA)(pin:Int):AA×Bool:=((fG w (yS w) pin).1,(fG w (yS w) pin).2.2)
def bS3 {f:Int->Int}{l:List Int}{j:Nat}(c:j<l.length)(hl:l.length<=1099511627776){τ:Type}(a b:τ){F:(Nat->Option τ)->Nat->Option τ}
  (d:∀rec i (hi:i<j),F rec i=bif f (l[i]'(by omega))==f l[j] then some a else rec (i+1)) (e:∀rec,F rec j=some b):EV.bU FUEL F 0=some (bif aFd f l j l[j] then a else b):=by
 have hlen:(l.take j).length=j:=by grind
 exact jR (l:=l.take j) (λq=>f q==f l[j]) a b (by omega) (by simp_all) (by simp[*])
def bMp (h:AH)(e:Int):(pW h e).1.sz<=h.sz+1:=by
 grind[decide,kT,zG,AH.sz,bS1,List.length_drop,List.length_append,List.length_cons,List.length_nil,pW]
def rO (e:Int)(hs:List AH)(a:List Int)(i:Nat):List AH×List Int×List Int:=(a.take i).foldl (bDy e) (hs,[],[])
def Pk {e:Int}{hs:List AH}{a:List Int}{i:Nat}(hi:i<a.length):rO e hs a (i+1)=bDy e (rO e hs a i) a[i]:=by
 grind[List.take_add_one,List.getElem?_eq_getElem,rO]
def cAp {hs:List AH}{h:AH}(hm:h∈hs):h.sz<=szL AH.sz hs:=by
 grind[aJ9,AH.sz]
structure AskIn (B:Nat) (hs:List AH) (i:Nat) (s:List AH×List Int×List Int):Prop where
 len:s.1.length=hs.length
 sz:∀h∈s.1,h.sz<=B+i
 eq:s.2.1.length=s.2.2.length
 le:s.2.2.length<=i
def aKk {hs:List AH}{a:List Int}(h:Ay hs a=true){i:Nat}(hi:i<a.length):0<=a[i]/\a[i]<(hs.length:Int):=by
 grind[Ve,Bool.or_eq_false_iff,aUa,Bool.not_eq_true',xS,Ay]
def aAp {e:Int}{hs:List AH}{a:List Int}(h:Ay hs a=true):∀i,i<=a.length->AskIn (szL AH.sz hs) hs i (rO e hs a i)
 |0,_=>⟨rfl,λh hm=>by have:h∈hs:=hm;have:=cAp this;omega,rfl,aj _⟩
 |i+1,hi=>by
  obtain⟨h1,h2,c,d⟩:=aAp (e:=e) h i (by omega);have hc:=aKk h (i:=i) hi;rw[Pk hi];generalize rO e hs a i=s at*;have hk:a[i].toNat<s.1.length:=by omega
  have hg:s.1.getD a[i].toNat default=s.1[a[i].toNat]:=by simp[List.getD,aa hk]
  have f:=h2 _ (bw hk);have j:=bMp s.1[a[i].toNat] e;unfold bDy;rw[hg];refine⟨by simp[h1],λx b=> ?_,?_,?_⟩
  ·rcases en b with b|rfl
   ·have:=h2 x b;omega
   ·omega
  ·cases(pW s.1[a[i].toNat] e).2.2<;>simp[c]
  ·cases(pW s.1[a[i].toNat] e).2.2<;>simp<;>omega
def aUd (w:AA):(yS w).length<=w.Hosts.length+1:=by
 grind[List.length_map,List.length_range,yS]
def bG1 {α:Type}[Inhabited α]{f:α->Nat}{x:α}:∀{l:List α} {i:Nat},i<l.length->f x<=f (l.getD i default)+1->((l.set i x).map f).sum<=(l.map f).sum+1
 |y::l,0,_,h=>by
  simp only[List.getD,fW,cr] at h;simp only[ip,bo,dw];omega
 |y::l,i+1,hi,h=>by
  have:=bG1 (f:=f) (l:=l) (i:=i) (x:=x) (by simpa using hi) (by simpa[List.getD] using h);simp only[fR,bo,dw];omega
def bMq {e:Int}{hs:List AH}{a:List Int}(h:Ay hs a=true):∀i,i<=a.length->((rO e hs a i).1.map AH.sz).sum<=(hs.map AH.sz).sum+i
 |0,_=>aj _
 |i+1,hi=>by
  have c:=bMq (e:=e) h i (by omega);have b:=aAp (e:=e) h i (by omega);have hc:=aKk h (i:=i) hi;rw[Pk hi];generalize rO e hs a i=s at*;have hk:a[i].toNat<s.1.length:=by have:=b.len;omega
  have:=bG1 (f:=AH.sz) hk (bMp (s.1.getD a[i].toNat default) e);unfold bDy;simp only;omega
theorem bMr (v:A0)(hs:List AH)(a:List Int)(pin b:Int):(zH v hs a pin b).1.length=hs.length/\((zH v hs a pin b).1.map AH.sz).sum<=(hs.map AH.sz).sum+a.length:=by
 unfold zH;cases hm:aUc hs a pin b with
 |false=>simp
 |true=>
  have hc:Ay hs a=true:=by
   grind[aUc]
  have hs1:=bMq (e:=iP v.Salt pin b) hc a.length (aj _);have c:=(aAp (e:=iP v.Salt pin b) hc a.length (aj _)).len;unfold rO at hs1 c;rw[di] at hs1 c;simp only[aq,ac];cases decide ((a.length:Int)<v.Threshold)||(decide ((jW v hs a pin b).2.2.length<a.length)|| !(pX (jW v hs a pin b).2.1 (jW v hs a pin b).2.2).2)<;>exact⟨c,hs1⟩
def bWn (w:AA)(a:List Int)(pin:Int):(fG w a pin).1.sz<=w.sz+a.length+1:=by
 grind[aP,Bool.not_false,q1,q2,bMr,bMo,aR8,zH,Bool.not_true,AA.sz,fG]
--needs aAM aAL aAN
def nP (w:AA)(d:Int):AA×Bool:=bif dL w d 0&& !bZ w d then({w with Stolen:=w.Stolen.set d.toNat true},true) else(w,false)
def nQ (b:AQ)(now:Int):AQ:=bif eX b then {b with Open:=b.Open.filter λc=>decide (c.Until>=now)} else b
def tC (w:AA):AA:={w with Now:=IntKind.i64.wrap (w.Now+1)}
def tF (w:AA):AA×Bool:=bif aP (tC w) then({tC w with Sites:=w.Sites.map λs=>{s with Book:=nQ s.Book (tC w).Now}},true) else(w,false)
def aKl (w:AA)(d j:Int):AA×Int:=bif dL w d j&&bZ w d then mM w d j (aFa j) else(w,1)
def aAq (w:AA)(d j:Int):AA×Int:=bif dL w d j&& !bZ w d then mM w d j (aKh j) else(w,1)
def aKm:ByteArray:=⟨#[97,46,110,101,116]⟩
def yT (w:AA)(k d o v:Int)(f:Bool):AA×Bool:=
 bif !aP w then(w,false) else
 bif k==1 then tF w else
 bif k==2 then((y9 w d o).1,(y9 w d o).2==0) else
 bif k==3 then((aAq w d o).1,(aAq w d o).2==0) else
 bif k==4 then nP w d else
 bif k==5 then((aKl w d o).1,(aKl w d o).2==0) else
 bif k==6 then fI w d else
 bif k==7 then eY w d o else
 bif k==8 then sW w d aKm v f else
 bif k==9 then iK w d else
 bif k==10 then((aR w d v).1,(aR w d v).2==0) else
 bif k==11 then Az w v else
 bif k==12 then eF w else
 bif k==13 then fQ w o v else(w,false)
def bD0 (l:List Int):Prop:=okL (λn:Int=>0<=n/\n<=255) l
noncomputable instance (l:List Int):Decidable (bD0 l):=Classical.propDecidable _
def bS4 (l:List Int):Bool:=decide ((l.length:Int)>1048576)
def cCn (b:AM):Prop:=∀x∈b.Boxes,aZ x.Data
def cAq (c:AO):Prop:=cCn c.Boxes/\∀s∈c.History,aZ s.Data
instance (b:AM):Decidable (cCn b):=inferInstanceAs (Decidable (∀x∈b.Boxes,aZ x.Data))
instance (c:AO):Decidable (cAq c):=inferInstanceAs (Decidable (_/\_))
--needs aAR
def dP (c:AR):Prop:=0<=c.i/\c.b.length<=1048576
instance (c:AR):Decidable (dP c):=by unfold dP;infer_instance
def bWo (h:Int):Int:=IntKind.i64.wrap (IntKind.i64.wrap (h*6364136223846793005)+1442695040888963407)
def bX8 (h:Int):Int:=qV IntKind.i64 (bCx IntKind.i64 (Jc IntKind.i64 h 33) (Jc IntKind.i64 h 47)) 255
def mF (c:AR):AR×Int:=bif decide (c.i<(c.b.length:Int)) then(⟨c.b,IntKind.i64.wrap (c.i+1),bWo c.h⟩,qV IntKind.i64 (IntKind.i64.wrap (bX8 (bWo c.h)+IntKind.i64.wrap (c.b.getD c.i.toNat 0))) 255) else(⟨c.b,c.i,bWo c.h⟩,bX8 (bWo c.h))
def eQ (c:AR)(n:Int):AR×Int:=bif decide (n<=0) then(c,0) else bif decide (n<=256) then((mF c).1,(mF c).2.tmod n) else
 ((mF (mF (mF c).1).1).1,(IntKind.i64.wrap (IntKind.i64.wrap (IntKind.i64.wrap ((mF c).2*65536)+IntKind.i64.wrap ((mF (mF c).1).2*256))+(mF (mF (mF c).1).1).2)).tmod n)
def Vj (c:AR)(n:Int):AR×Bool:=((eQ c n).1,(eQ c n).2==0)
def dA (c:AR):AR×Int:=eQ c 4
def dB (c:AR):AR×Int:=eQ (dA c).1 3
def dC (c:AR):AR×Int:=eQ (dB c).1 (IntKind.i64.wrap (1+(dA c).2))
def dD (c:AR):AR×Int:=eQ (dC c).1 40
def dE (c:AR):AR×Int:=eQ (dD c).1 999
def pY (c:AR):AR×AA:=((dE c).1,bN (IntKind.i64.wrap (1+(dB c).2)) (IntKind.i64.wrap (1+(dA c).2)) (IntKind.i64.wrap (1+(dC c).2)) (dD c).2 (IntKind.i64.wrap (1+(dE c).2)))
def bMs (l:List Int):Nat->Int
 |0=>IntKind.i64.wrap (193017+(l.length:Int))
 |k+1=>qV IntKind.i64 (IntKind.i64.wrap (IntKind.i64.wrap (IntKind.i64.wrap (bMs l k*137)+IntKind.i64.wrap (l.getD k 0))+11)) 1073741823
def bX9 (l:List Int):Int:=bMs l (min l.length 4000)
def bO9 (l:List Int):AR:=⟨l,0,bX9 l⟩
def Gb (l:List Int)(m:Int):Int:=bif decide (IntKind.i64.wrap (3+IntKind.i64.wrap ((l.length:Int).tdiv 12))>m) then m else IntKind.i64.wrap (3+IntKind.i64.wrap ((l.length:Int).tdiv 12))
--needs aAR Event
def eA (c:AR):AR×Int:=eQ c 13
def eB (c:AR):AR×Int:=eQ (eA c).1 4
def eC (c:AR):AR×Int:=eQ (eB c).1 3
def eD (c:AR):AR×Int:=eQ (eC c).1 4
def eE (c:AR):AR×Bool:=Vj (eD c).1 3
def eK (c:AR):Int:=IntKind.i64.wrap (1+(eA c).2)
def Pm (c:AR):AR×AY:=
 bif eK c==11 then((eQ (eE c).1 40).1,⟨eK c,(eB c).2,(eC c).2,(eQ (eE c).1 40).2,(eE c).2⟩) else
 bif eK c==4||eK c==13 then((Vj (eE c).1 2).1,⟨bif (Vj (eE c).1 2).2 then 2 else eK c,(eB c).2,(eC c).2,(eD c).2,(eE c).2⟩) else
 ((eE c).1,⟨eK c,(eB c).2,(eC c).2,(eD c).2,(eE c).2⟩)
def Jj (c:AR):Nat->AR×List AY
 |0=>(c,[])
 |n+1=>((Pm (Jj c n).1).1,(Jj c n).2++[(Pm (Jj c n).1).2])
def A9 (c:AR)(m:Int):AR×List AY:=Jj (eQ c m).1 (eQ c m).2.toNat
def Ql (l:List Int):AA×List AY:=((pY (bO9 l)).2,(A9 (pY (bO9 l)).1 (IntKind.i64.wrap (6+Gb l 14))).2)
def aJ8 (e:AY):Prop:=(1<=e.Kind/\e.Kind<=13)/\(0<=e.Device/\e.Device<=3)/\(0<=e.Other/\e.Other<=2)/\(0<=e.Value/\e.Value<=39)/\(e.Kind≠11->e.Value<=3)
--needs Event World
def aSc (w:AA)(d j:Int)(h:ByteArray):AA×Int:=bif dL w d j&& !bZ w d then mM w d j ⟨true,h,443⟩ else(w,1)
def aKn (w:AA)(d j:Int)(h:ByteArray):Prop:=dL w d j=true->mE ⟨true,h,443⟩
noncomputable instance (w:AA) (d j:Int) (h:ByteArray):Decidable (aKn w d j h):=Classical.propDecidable _
def evF (w:AA)(e:AY):AA×Bool:=yT w e.Kind e.Device e.Other e.Value e.Flag
def runN (w:AA)(l:List AY):Nat->AA
 |0=>w
 |k+1=>(evF (runN w l k) (l.getD k default)).1
def bG2 (w:AA)(l:List AY):AA:=runN w l (min l.length 60)
def Km (w:AA)(l:List AY):Prop:=w.sz<=34359738368/\∀k,k<min l.length 60->(runN w l k).sz<=33000000
noncomputable instance (w:AA) (l:List AY):Decidable (Km w l):=Classical.propDecidable _
def bG3 (a b:AB):Prop:=dY a b=(a,true)/\a.sz<=34359738368/\b.sz<=34359738368
noncomputable instance (a b:AB):Decidable (bG3 a b):=Classical.propDecidable _
--needs aAR
--needs aAR aAO aAS
--needs Event World
def flW (w:AA):Int×Int×List AD×List Bool×List AF×Int×List AN×List AJ×List AC×Int×Int×Int×Int×List AH×Int×List AX:=(w.Now,w.Seed,w.Devices,w.Stolen,w.aAE.Log,w.aAE.Boxes.Epoch,w.aAE.Boxes.Boxes,w.aAE.History,w.Sites,w.aAK.Salt,w.aAK.Threshold,w.aAK.Check,w.aAK.Masked,w.Hosts,w.Pin,w.Mail.Notices)
def bG4 (w:AA)(l:List AY)(k:Nat):Bool:=(evF (runN w l k) (l.getD k default)).2
def aFe (w:AA)(l:List AY):List Bool:=(List.range (min l.length 60)).map (bG4 w l)
def aKo (q:Int)(w:AA)(l:List AY):Nat->Nat
 |0=>0
 |k+1=>aKo q w l k+bif bG4 w l k&&(l.getD k default).Kind==q then 1 else 0
def bD1 (w:AA)(l:List AY)(q:Int):Int:=aKo q w l (min l.length 60)
def cntF (w:AA)(j:Int):Int:=bif fA w j then((w.Sites.getD j.toNat default).Logins.length:Int) else 0
end Go.VK
