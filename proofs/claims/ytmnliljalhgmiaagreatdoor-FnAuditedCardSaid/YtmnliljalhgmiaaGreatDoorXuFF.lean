import Derived.Test.YtmnliljalhgmiaaGreatDoorEVztod
import Derived.Test.YtmnliljalhgmiaaGreatDoorXuS
/- Printed by wip/tools: models, walks, proofs. -/
set_option linter.all false
set_option maxRecDepth 100000
set_option maxHeartbeats 4000000
namespace Go.VK
open Go.RowKit Go.Proofs D
def kQ (k:A0):Int:=IntKind.i64.wrap (IntKind.i64.wrap (k.Epoch*1000)+k.Guesses)
def gX (w:AA):Bool:= !w.Hosts.any λh=>decide (h.State.Guesses>h.State.Limit)||decide (kQ h.State>h.Monotonic)
def aNm {h v:Int}(h0:0<=h)(h1:h<2147483647):0<=hstep h v/\hstep h v<2147483647:=by have hm:=oW (p:=v) (q:=2147483647) (by omega);unfold hstep;generalize fD v 2147483647=z at*;have a:IntKind.i64.wrap (h*1000003)=h*1000003:=aI (by omega) (by omega);have b:IntKind.i64.wrap (h*1000003+z)=h*1000003+z:=aI (by omega) (by omega);have c:IntKind.i64.wrap (h*1000003+z+13)=h*1000003+z+13:=aI (by omega) (by omega);rw[a,b,c];exact⟨fS _ (by omega),fX _ (by decide)⟩
def bEo (l:List Int):0<=yN l/\yN l<2147483647:=by
 unfold yN
 suffices ∀(l:List Int) (h:Int),0<=h->h<2147483647->0<=l.foldl hstep h/\l.foldl hstep h<2147483647 from this l 11 (by omega) (by omega)
 intro l;induction l with
 |nil=>intro h h0 h1;exact⟨h0,h1⟩
 |cons x xs a=>intro h h0 h1;exact a _ (aNm h0 h1).1 (aNm h0 h1).2
def nE (k:Int)(l:List Int):0<=bH k l/\bH k l<2147483647:=bEo _
def bCd (a b:Int):Int:=bif decide (b>a) then b else a
def oK (a:List Int)(r:List (List Int)):List Int:=a++r.flatten
def kC (n:Int):Int:=bif n==0 then 1 else n
def bG (n:Int):Bool:=bK n 1 2147483646
def Be (b:List Int):List Int:=[(b.length:Int)]++b.map IntKind.i64.wrap
def aW (seed:Int)(l:List Int):Int:=kC (bH seed ([151]++l))
def pI (k:Int)(s:ByteArray):Int:=kC (bH k (Be (bY s)))
def dP (p:Int):Int:=bif !(bG p) then 0 else(IntKind.i64.wrap (p*48271)).tmod 2147483647
def jH (s:AK):Int:=aW s.Seed [181]
def aS (s:AK):Int:=dP (jH s)
def jG (l:List Int)(x:Int):Bool:=l.any λe=>e==x
def dW (log:List AD)(p:Int):Bool:=log.any λe=>e.Kind==2&&e.Device==p
def jT (s:List Int)(e:AD):List Int:=
 bif e.Kind==1 then(bif s.contains e.Device then s else s++[e.Device]) else bif e.Kind==2 then s.filter (λd=>d !=e.Device) else s
def aC (log:List AD):List Int:=log.foldl jT []
def aF (log:List AD):Int:=log.foldl (λn e=>bif e.Kind==2 then IntKind.i64.wrap (n+1) else n) 0
def aJ (b:AC)(site a:Int):Int:=kN (λe=>e.Site==site&&e.Handle==a) 0 b.Entries
def aD (s:AB)(id:Int):Int:=kN (λa=>a.Id==id) 0 s.Accounts
def aNn (s:List Int)(x:AD):(jT s x).length<=s.length+1:=by
 unfold jT;cases x.Kind==1 with
 |true=>cases s.contains x.Device<;>simp
 |false=>
  cases x.Kind==2 with
  |true=>have:=gi (λd=>d !=x.Device) s;simp;omega
  |false=>simp
def gG (log:List AD):(aC log).length<=log.length:=by
 suffices ∀(l:List AD) (s:List Int),(l.foldl jT s).length<=s.length+l.length from by simpa[aC] using this log []
 intro l;induction l with
 |nil=>intro s;simp
 |cons x xs a=>
  intro s;simp only[db,au];have h1:=a (jT s x);have h2:(jT s x).length<=s.length+1:=by
   unfold jT;cases x.Kind==1 with
   |true=>cases s.contains x.Device<;>simp
   |false=>
    cases x.Kind==2 with
    |true=>have:=gi (λd=>d !=x.Device) s;simp;omega
    |false=>simp
  omega
def bEp {n:Int}(h:0<=n):bCd 1 n=kC n:=by
 unfold bCd kC;rcases(show n=0\/n=1\/n>1 by omega) with rfl|rfl|h1
 ·rfl
 ·rfl
 ·have:(n==0)=false:=by simp;omega
  simp[h1,this]
def bB (s:ByteArray):Int:=pI 173 s
def X5 (w:AA):Prop:=w.Devices.length<=34359738368/\w.Stolen.length<=34359738368/\w.aAD.Log.length<=34359738368/\w.Sites.length<=34359738368
instance (w:AA):Decidable (X5 w):=inferInstanceAs (Decidable (_/\_))
def aN (w:AA)(d:Int):Bool:=decide (0<=d)&&decide (d<w.Devices.length)
def bMz {w:AA}(h:X5 w)(d:Int):bK d 0 (IntKind.i64.wrap ((w.Devices.length:Int)-1))=aN w d:=by have:=h.1;rw[aI (by omega) (by omega)];unfold bK aN;congr 1;exact dk.2 (by omega)
def aL (w:AA)(d:Int):AF:=w.Devices.getD d.toNat default
theorem tL {w:AA}{d:Int}(h:aN w d=true):bC w.Devices d=some (aL w d):=by simp only[aN,ac,ca] at h;rw[kY h.1 (by omega)];simp[aL,List.getD,ab (show d.toNat<w.Devices.length by omega)]
def bN (w:AA)(d:Int):Bool:=aN w d&&jG (aC w.aAD.Log) (aS (aL w d).Store)
def Bf (w:AA)(d:Int):Bool:=aN w d&&dW w.aAD.Log (aS (aL w d).Store)
def bYb (w:AA)(i:Nat):Bool:=bN w i&&(decide (i<w.Stolen.length)&& !w.Stolen.getD i false)
def Bg (w:AA):List Int:=((List.range w.Devices.length).filter (bYb w)).map Int.ofNat
def Zl (d:Int)(s:AB):Bool:= !decide (aD s 1<0)&&(s.Accounts.getD (aD s 1).toNat default).Credentials.any λc=>c.Handle==d&& !c.Cut
def qD (w:AA)(d:Int):Bool:= !Bf w d||(!bN w d&& !(w.Sites.take 2).any (Zl d))
def X5.of {w:AA}(h:w.sz<=1048576):X5 w:=by simp only[AA.sz,AO.sz] at h;unfold X5;omega
def aXa (k:Int)(i:Nat)(z:Int):Int:=IntKind.u8.wrap ((z-bH k [(i:Int)])%256)
def Ub (k:Int)(b:List Int):List Int:=Ri (λi z=>[aXa k i z]) 0 b
def bEq (x:Int):fD (IntKind.i64.wrap x) 256=x%256:=by rw[fD,cI (by omega),IntKind.wrap_i64];omega
def bQk (k:Int)(i:Nat)(z:Int):IntKind.u8.wrap (fD (IntKind.i64.wrap (IntKind.i64.wrap z-bH k [(i:Int)])) 256)=aXa k i z:=by rw[bEq,aXa,IntKind.wrap_i64];congr 1;omega
def bQl (k:Int)(i:Nat)(z:Int):IntKind.u8.wrap (fD (IntKind.i64.wrap (IntKind.i64.wrap z-(bH k [(i:Int)]).tmod 256)) 256)=aXa k i z:=by rw[bEq,aXa,IntKind.wrap_i64,ce (nE _ _).1];congr 1;omega
def tN {α β:Type}{y:Nat->α->β}:∀{i:Nat} {l:List α},(Ri (λi x=>[y i x]) i l).length=l.length
 |i,[]=>rfl
 |i,x::xs=>by simp[Ri,tN]
def iL (p e:Int):Int:=aW p [163,e]
def Uc (k:Int)(b:AN):Int:=bH k ([167,b.To,b.Ephemeral]++Be b.Data)
def gN (p:Int)(b:AN):List Int×Bool:=
 bif !bG p||(b.To !=dP p||(!bG b.Ephemeral||decide ((b.Data.length:Int)>200))) then([],false)
 else bif b.MAC !=Uc (iL p b.Ephemeral) b then([],false) else(Ub (iL p b.Ephemeral) b.Data,true)
def iH:List AN->Int->List Int×Bool
 |[],_=>([],false)
 |b::bs,p=>bif (gN p b).2 then((gN p b).1,true) else iH bs p
def aZ (b:List Int):Prop:=b.length<=34359738368/\b.all (λz=>decide (0<=z)&&decide (z<=255))=true
instance (b:List Int):Decidable (aZ b):=inferInstanceAs (Decidable (_/\_))
theorem xD {b:List Int}(h:aZ b){i:Nat}(hi:i<b.length):0<=b[i]/\b[i]<=255:=by have:=cE.1 h.2 b[i] (cj hi);simpa using this
def uvG (b:List Int)(p:Nat):Nat->Nat->Int->Int×Int×Bool
 |0,_,_=>(0,0,false)
 |k+1,i,n=>
  if p+i<b.length then
   bif decide (b.getD (p+i) 0<128) then
    (bif (decide (0<i)&&b.getD (p+i) 0==0)||decide (n+b.getD (p+i) 0%128*128^i>1000000000000) then(0,0,false) else(n+b.getD (p+i) 0%128*128^i,((p+i+1:Nat):Int),true))
   else uvG b p k (i+1) (n+b.getD (p+i) 0%128*128^i)
  else(0,0,false)
def Ab (b:List Int)(at_:Int):Int×Int×Bool:=if at_<0 then(0,0,false) else uvG b at_.toNat 6 0 0
def bCe {i:Nat}(h:i<=6):(1:Int)<=128^i/\(128:Int)^i<=4398046511104:=by
 match i,h with
 |0,_|1,_|2,_|3,_|4,_|5,_|6,_=>decide
def bCf {z n:Int}{i:Nat}(hi:i<=5)(b:0<=z)(hn:0<=n)(a:n<128^i):0<=n+z%128*128^i/\n+z%128*128^i<128^(i+1)/\0<=z%128*128^i/\z%128*128^i<=127*128^i:=by have hp:=bCe (i:=i) (by omega);have h1:0<=z%128*128^i:=jz (by omega) (by omega);have h2:z%128*128^i<=127*128^i:=Int.mul_le_mul_of_nonneg_right (by omega) (by omega);rw[fe];refine⟨by omega,by omega,h1,h2⟩
def bT5 {z n:Int}{i:Nat}(hi:i<=5)(j:0<=z)(k:z<=255)(hn:0<=n)(a:n<128^i):
  orI .i64 n (aDi .i64 (qN .i64 z 127) (IntKind.i64.wrap (7*(i:Int))))=n+z%128*128^i:=by
 obtain⟨m,rfl⟩:=dx j;obtain⟨q,rfl⟩:=dx hn;have hp:=bCe (i:=i) (by omega);have hs:=bCf (z:=(m:Int)) (n:=(q:Int)) hi (by omega) (by omega) a;have l:qN .i64 (m:Int) 127=((m%128:Nat):Int):=by
  have e:((BitVec.ofInt 64 (m:Int))&&&(BitVec.ofInt 64 127)).toNat=m%128:=by
   rw[BitVec.toNat_and];have o:(BitVec.ofInt 64 (m:Int)).toNat=m:=by rw[BitVec.toNat_ofInt];omega
   have p:(BitVec.ofInt 64 127).toNat=2^7-1:=by decide
   rw[o,p,gk]
  show IntKind.i64.wrap (((BitVec.ofInt 64 (m:Int))&&&(BitVec.ofInt 64 127)).toNat:Int)=_;rw[e];exact aI (by omega) (by omega)
 have r:IntKind.i64.wrap (7*(i:Int))=((7*i:Nat):Int):=by rw[aI (by omega) (by omega)];omega
 have c:(2:Nat)^(7*i)=128^i:=by rw[Nat.pow_mul]
 have f:((128^i:Nat):Int)=(128:Int)^i:=by simp
 have hb:aDi .i64 (qN .i64 (m:Int) 127) (IntKind.i64.wrap (7*(i:Int)))=((m%128*128^i:Nat):Int):=by
  rw[l,r];unfold aDi;rw[bo,show min (7*i) IntKind.i64.bits=7*i from Nat.min_eq_left (by simp[IntKind.bits];omega)];have s:((m%128:Nat):Int)*2^(7*i)=((m%128*128^i:Nat):Int):=by rw[<-c];simp
  rw[s];have:((m%128*128^i:Nat):Int)=(m:Int)%128*128^i:=by simp
  rw[this];exact aI (by omega) (by omega)
 rw[hb];have d:q<128^i:=by rw[<-f] at a;exact_mod_cast a
 have h:(m%128*128^i)|||q=m%128*128^i+q:=by have:=jq (b:=q) (i:=7*i) (by rw[c];exact d) (m%128);rw[Nat.shiftLeft_eq,c] at this;exact this.symm
 have t:m%128*128^i+q<2^63:=by
  have:((m%128*128^i+q:Nat):Int)=q+(m:Int)%128*128^i:=by simp;omega
  omega
 have u:((BitVec.ofInt 64 (q:Int))|||(BitVec.ofInt 64 ((m%128*128^i:Nat):Int))).toNat=m%128*128^i+q:=by
  rw[BitVec.toNat_or];have v:(BitVec.ofInt 64 (q:Int)).toNat=q:=by rw[BitVec.toNat_ofInt];omega
  have w:(BitVec.ofInt 64 ((m%128*128^i:Nat):Int)).toNat=m%128*128^i:=by rw[BitVec.toNat_ofInt];omega
  rw[v,w,Nat.or_comm,h]
 show IntKind.i64.wrap (((BitVec.ofInt 64 (q:Int))|||(BitVec.ofInt 64 ((m%128*128^i:Nat):Int))).toNat:Int)=_;rw[u,aI (by omega) (by omega)];simp;omega
def lL (b:List Int):Nat->Int->List Int->List Int×Int×Bool
 |0,a,s=>(s,a,true)
 |k+1,a,s=>bif (Ab b a).2.2 then lL b k (Ab b a).2.1 (s++[(Ab b a).1]) else([],0,false)
def jY (b:List Int)(a c:Int):List Int×Int×Bool:=bif !bK c 0 100|| !bK a 0 b.length then([],0,false) else lL b c.toNat a []
def bEr (b:List Int):∀(k:Nat) (a:Int) (s:List Int),(lL b k a s).2.2=true->(lL b k a s).1.length=s.length+k
 |0,a,s,_=>rfl
 |k+1,a,s,h=>by
  unfold lL at h ⊢;cases c:(Ab b a).2.2 with
  |false=>rw[c] at h;simp at h
  |true=>rw[c] at h;simp only[ae] at h ⊢;rw[bEr b k _ _ h];simp;omega
theorem decode_len {b:List Int}{a c:Int}(hc:0<=c)(h:(jY b a c).2.2=true):(jY b a c).1.length=c.toNat:=by
 unfold jY at h ⊢;cases d:(!bK c 0 100|| !bK a 0 b.length) with
 |true=>rw[d] at h;simp at h
 |false=>rw[d] at h;simp only[aa] at h ⊢;rw[bEr _ _ _ _ h];simp
def bCg {k:Int}{b:List Int}(h:b.length<=34359738368):aZ (Ub k b):=by
 refine⟨by unfold Ub;rw[tN];exact h,?_⟩;rw[cE];intro z a;have:∀(b:List Int) (i:Nat),z∈Ri (λi z=>[aXa k i z]) i b->0<=z/\z<=255:=by
  intro b;induction b with
  |nil=>intro i h;simp[Ri] at h
  |cons x xs c=>
   intro i h;simp only[Ri,bv,cp] at h;rcases h with rfl|h
   ·have:=eQ .u8 ((x-bH k [(i:Int)])%256);simpa[aXa,IntKind.min,IntKind.max,IntKind.signed,IntKind.bits] using this
   ·exact c _ h
 have:=this b 0 a;simp[this.1,this.2]
def bHu (p:Int)(b:AN):aZ (gN p b).1:=by
 unfold gN;have h0:aZ ([]:List Int):=by decide
 by_cases hl:b.Data.length<=200
 ·cases(!bG p||(b.To !=dP p||(!bG b.Ephemeral||decide ((b.Data.length:Int)>200))))<;>cases(b.MAC !=Uc (iL p b.Ephemeral) b)<;>first|exact h0|exact bCg (by omega)
 ·have a:decide ((b.Data.length:Int)>200)=true:=by simp;omega
  rw[a];simpa using h0
theorem X6 (p:Int):∀bs,aZ (iH bs p).1
 |[]=>show aZ [] by decide
 |b::bs=>by
  unfold iH;cases(gN p b).2 with
  |true=>exact bHu p b
  |false=>exact X6 p bs
def Oj (e:AM)(x:List Int×Bool)(y:List Int×Int×Bool):Int×Bool:=
 bif !x.2||(!y.2.2||(y.2.1 !=(x.1.length:Int)||(y.1.getD 0 0 !=e.Epoch|| !bG (y.1.getD 1 0)))) then(0,false) else(y.1.getD 1 0,true)
def bS (s:AK)(e:AM):Int×Bool:=Oj e (iH e.Boxes (jH s)) (jY (iH e.Boxes (jH s)).1 0 2)
def pJ (w:AA)(d:Int):Bool:=aN w d&&(!bN w d||((aL w d).Epoch !=aF w.aAD.Log||(aL w d).Key==(bS (aL w d).Store w.aAD.Boxes).1))
theorem and_one {n:Int}(h0:0<=n)(h1:n<9223372036854775808):qN .i64 n 1=n%2:=by
 obtain⟨m,rfl⟩:=dx h0;have e:((BitVec.ofInt 64 (m:Int))&&&(BitVec.ofInt 64 1)).toNat=m%2:=by
  rw[BitVec.toNat_and];have a:(BitVec.ofInt 64 (m:Int)).toNat=m:=by rw[BitVec.toNat_ofInt];omega
  have b:(BitVec.ofInt 64 1).toNat=2^1-1:=by decide
  rw[a,b,gk]
 show IntKind.i64.wrap (((BitVec.ofInt 64 (m:Int))&&&(BitVec.ofInt 64 1)).toNat:Int)=_;rw[e,aI (by omega) (by omega)];omega
theorem bKb {n:Int}(h0:0<=n):Ik .i64 n 1=n/2:=by unfold Ik;rw[show min (Int.toNat 1) IntKind.i64.bits=1 from by decide,gt _ (by decide)];rfl
def bM0:Nat->Int->Int->Int->Int
 |0,_,_,s=>s
 |k+1,b,n,s=>if n>0 then bM0 k ((IntKind.i64.wrap (b*b)).tmod 2147483647) (n/2) (bif n%2==1 then(IntKind.i64.wrap (s*b)).tmod 2147483647 else s) else s
def bKc:bM0 31 48271 2147483645 1=1899818559:=by decide+kernel
def gY (q:Int):Int:=bif !bG q then 0 else q*1899818559%2147483647
def sF (p:Int)(l:List Int):Int:=bif !bG p then 0 else bH p ([139,(l.length:Int)]++l)
def iT (q:Int)(l:List Int)(g:Int):Bool:=gY q !=0&&sF (gY q) l==g
theorem Ud {α:Type}[Inhabited α]{l:List α}{i:Nat}(h0:0<i)(hi:i<l.length)(hl:l.length<=34359738368):bC l (IntKind.i64.wrap ((i:Int)-1))=some (l.getD (i-1) default):=by rw[aI (by omega) (by omega),show(i:Int)-1=((i-1:Nat):Int) by omega,aQ (by omega)];simp[List.getD,ab (show i-1<l.length by omega)]
def Jn (l:List AZ)(i:Nat)(n:AZ):Bool:= !bK n.Kind 1 5||(!bK n.aAH 0 1000000||(!bK n.Time 0 1000000||(decide (0<i)&&decide ((l.getD (i-1) default).Time>n.Time))))
def jZ (m:AV):Bool:=decide (m.Notices.length<=30)&& !gF (Jn m.Notices) 0 m.Notices
def iU (b:AP)(i:Nat)(n:A4):Bool:= !bK n.Id 0 (IntKind.i64.wrap (b.Next-1))||((decide (0<i)&&decide ((b.Open.getD (i-1) default).Id>=n.Id))||(!bK n.aAH 0 1000005|| !bK n.Until 0 1000005))
def eU (b:AP):Bool:=bK b.Next 0 1000000&&decide (b.Open.length<=16)&& !gF (iU b) 0 b.Open
def wU (a:AI)(i:Nat)(n:AU):Bool:=(!bK n.Handle 0 1000000||((decide (0<i)&&decide ((a.Credentials.getD (i-1) default).Handle>=n.Handle))||(gY n.Public==0|| !bK n.Counter 0 1000000)))||(a.Credentials.take i).any λq=>q.Public==n.Public
def bA (a:AI):Bool:=bK a.Id 0 1000000&&bK a.Minimum 1 3&&decide (a.Credentials.length<=8)&& !gF (wU a) 0 a.Credentials
def dF (e:AD):Int:=yN [229,e.Index,e.Kind,e.Device,e.By,e.Previous]
def iW (l:List AD):Int:=bif (l.length:Int)==0 then 0 else dF (l.getD (l.length-1) default)
def lM (l:List AD)(e:AD):Bool:=
 e.Index==(l.length:Int)&&(e.Previous==iW l&&((jG (aC l) e.By||((l.length:Int)==0&&e.By==e.Device))&&(iT e.By [dF e] e.Signature&&
  (bif e.Kind==2 then jG (aC l) e.Device&&decide (((aC l).length:Int)>1) else !dW l e.Device&&(e.Kind==1&&(!jG (aC l) e.Device&&decide (((aC l).length:Int)<6)))))))
def aT (l:List AD):Bool:=bK (l.length:Int) 1 40&& !gF (λi e=> !lM (l.take i) e) 0 l
theorem bQm {l:List Int}{x:Int}(h:jG l x=true):0<l.length:=by
 cases l with
 |nil=>simp[jG] at h
 |cons a r=>simp
def kR:List UInt8->List UInt8->List (List UInt8)
 |cur,[]=>[cur]
 |cur,b::r=>bif b==46 then cur::kR [] r else kR (cur++[b]) r
def bQn (s:List UInt8)(i:Nat):Lib.occAt s [46] i=decide (s[i]? =some 46):=by
 unfold Lib.occAt;cases h:s.drop i with
 |nil=>have:s.length<=i:=List.drop_eq_nil_iff.1 h;simp[eS this,List.isPrefixOf]
 |cons b r=>
  have e:s[i]? =some b:=by have:=fc (xs:=s) (i:=i) (j:=0);rw[h] at this;simpa using this.symm
  rw[e];simp only[List.isPrefixOf,fL,ai];rw[fh];simp only[cY,ca];exact eq_comm
def aSl:∀(a cur r:List UInt8),(∀b∈a,b≠46)->kR cur (a++46::r)=(cur++a)::kR [] r
 |[],cur,r,_=>by simp[kR]
 |b::a,cur,r,h=>by
  have hb:(b==46)=false:=by simpa using h b (by simp)
  rw[cM,kR,hb,aa,aSl a _ r (λx c=>h x (cD _ c))];simp
def aNo:∀(a cur:List UInt8),(∀b∈a,b≠46)->kR cur a=[cur++a]
 |[],cur,_=>by simp[kR]
 |b::a,cur,h=>by
  have hb:(b==46)=false:=by simpa using h b (by simp)
  rw[kR,hb,aa,aNo a _ (λx c=>h x (cD _ c))];simp
def bEs:∀(n:Nat) (s:List UInt8),s.length<n->Lib.splitK [46] 0 (Lib.count s [46]) s=kR [] s
 |0,s,h=>absurd h (Nat.not_lt_zero _)
 |n+1,s,h=>by
  rcases Lib.index_spec s [46] with⟨h1,h2⟩|⟨i,h1,h2,a,m⟩
  ·rw[Lib.count_miss h1,aNo s [] (λb hb e=>by
    obtain⟨j,d,c⟩:=im hb;have:=h2 j (by omega);rw[bQn,ab d,c,e] at this;simp at this)];rfl
  ·rw[bQn] at a;have a:s[i]? =some 46:=by simpa using a
   have hi:i<s.length:=by
    rcases eW i s.length with f|k
    ·exact f
    ·rw[eS k] at a;cases a
   rw[Lib.count_hit (by simp) h1,Nat.add_comm,Lib.splitK,h1];have l:((i:Int)== -1)=false:=by simp
   rw[l];simp only[bo,du,au,bp,ck];rw[dg (by simp),bEs n (s.drop (i+1)) (by rw[ct];omega)];have es:s=s.take i++46::s.drop (i+1):=by
    have o:s[i]=46:=by rw[ab hi] at a;exact ak a
    rw[<-o,List.getElem_cons_drop hi,cJ]
   conv=>rhs;rw[es]
   rw[aSl (s.take i) [] _ (λb hb e=>by
    obtain⟨j,d,c⟩:=im hb;rw[cg] at d;have:=m j (by omega);rw[bQn,ab (by omega)] at this;rw[jd] at c;rw[c,e] at this;simp at this)];simp
def bO (s:ByteArray):List ByteArray:=(kR [] s.data.toList).map λl=>⟨l.toArray⟩
def aSm (s:ByteArray):mH s ⟨#[46]⟩=bO s:=by
 have h1:(mH s ⟨#[46]⟩).map (·.data.toList)=kR [] s.data.toList:=by rw[mH,Lib.splitB_data];exact bEs _ _ (eL _)
 unfold bO;rw[<-h1,gp]
 conv=>lhs;rw[<-List.map_id (mH s ⟨#[46]⟩)]
 congr 1
def aD5 (b:Int):Bool:=bK b 97 122||bK b 48 57||b==45
def xE (s:ByteArray):Bool:=decide (1<=s.size)&&decide (s.size<=20)&& !((bY s).getD 0 0==45)&& !((bY s).getD (s.size-1) 0==45)&& !((bY s).any λb=> !aD5 b)
def iX (s:ByteArray):Bool:=decide (s.size<=60)&& !((bO s).any λl=> !xE l)
def kS (s:ByteArray):(bY s).length=s.size:=by simp only[bY,bj];rfl
theorem bEt {s:ByteArray}{i:Nat}(h:i<s.size):bC (bY s) (i:Int)=some ((bY s)[i]'(by rw[kS];exact h)):=aQ _
def ext_list (s:ByteArray)(a b:Nat):s.extract a b=⟨((s.data.toList.drop a).take (b-a)).toArray⟩:=by apply ByteArray.ext;apply jp.1;rw[Lib.extract_data]
def X7:∀(s cur:List UInt8),(kR cur s).length<=s.length+1
 |[],_=>by simp[kR]
 |b::r,cur=>by
  rw[kR];cases b==46 with
  |true=>have:=X7 r [];simp;omega
  |false=>have:=X7 r (cur++[b]);simp at this ⊢;omega
def Ue:∀(s cur:List UInt8) (l:List UInt8),l∈kR cur s->l.length<=cur.length+s.length
 |[],cur,l,h=>by simp[kR] at h;subst h;simp
 |b::r,cur,l,h=>by
  rw[kR] at h;cases hb:b==46 with
  |true=>
   rw[hb,ae] at h;rcases bg.1 h with rfl|h
   ·omega
   ·have:=Ue r [] l h;simp at this ⊢;omega
  |false=>rw[hb,aa] at h;have:=Ue r _ l h;simp at this ⊢;omega
def Uf (s:ByteArray):(bO s).length<=s.size+1:=by unfold bO;rw[bj];exact X7 _ _
def Ac (s l:ByteArray)(h:l∈bO s):l.size<=s.size:=by unfold bO at h;obtain⟨q,hq,rfl⟩:=cn.1 h;have:=Ue _ _ q hq;have h2:(⟨q.toArray⟩:ByteArray).size=q.length:=rfl;have a:s.data.toList.length=s.size:=rfl;have b:([]:List UInt8).length=0:=rfl;omega
theorem bZ1 (z:ByteArray):(z.toList==(⟨#[]⟩:ByteArray).toList)=decide (z.size=0):=by
 rw[ByteArray.toList_eq,ByteArray.toList_eq,fh];simp only[cY,ca];constructor
 ·intro h;show z.data.size=0;rw[<-cA,h];rfl
 ·intro h;exact cb h
def Ad:∀(s cur:List UInt8),(kR cur s).length=s.countP (·==46)+1
 |[],_=>rfl
 |b::r,cur=>by
  rw[kR,List.countP_cons];cases b==46 with
  |true=>rw[ae,au,Ad r []];simp
  |false=>rw[aa,Ad r _];simp
def aNp (s:ByteArray):0<(bO s).length:=by unfold bO;rw[bj,Ad];omega
def Zm (s:ByteArray):Bool:=(bY s).any λb=>b==46
theorem aXb (s:ByteArray):Zm s=decide (2<=(bO s).length):=by
 unfold Zm bO bY;rw[bj,Ad,List.any_map];have e:(λb:Int=>b==46)∘(λb:UInt8=>(b.toNat:Int))=λb:UInt8=>b==46:=by
  funext b;rw[fh];simp only[Function.comp,cY];constructor
  ·intro q;apply UInt8.toNat_inj.1;show _=46;omega
  ·intro q;rw[q];rfl
 rw[e,fh,eN,ca];have:=List.countP_pos_iff (p:=λb:UInt8=>b==46) (l:=s.data.toList);constructor
 ·intro h;have:=this.2 h;omega
 ·intro h;exact this.1 (by omega)
def bM1 (s:ByteArray):ByteArray:=bif iX s then(bif (bO s).length==1 then s else rZ ⟨#[46]⟩ ((bO s).drop ((bO s).length-2))) else⟨#[]⟩
def bVv {l:List ByteArray}(h:2<=l.length):∃a∈l,∃b∈l,rZ ⟨#[46]⟩ (l.drop (l.length-2))=a++⟨#[46]⟩++b:=by
 have hl:(l.drop (l.length-2)).length=2:=by rw[ct];omega
 match hm:l.drop (l.length-2),hl with
 |[a,b],_=>refine⟨a,di (i:=l.length-2) (by rw[hm];simp),b,di (i:=l.length-2) (by rw[hm];simp),?_⟩;rw[show[a,b]=[a]++[b] from rfl,bS7 _ _ _ (by simp),bS6]
def Ug {s:ByteArray}(h:iX s=true):s.size<=60/\0<s.size:=by
 unfold iX at h;rw[ac,ca] at h;refine⟨h.1,Nat.pos_of_ne_zero λe=> ?_⟩
 have a:s.data.toList=[]:=cb e;have b:bO s=[⟨#[]⟩]:=by unfold bO;rw[a];rfl
 rw[b] at h;exact absurd h.2 (by decide)
theorem bT6 {s:ByteArray}(h:iX s=true):decide ((bM1 s).size=0)=false:=by
 have hs:=Ug h;have hp:=aNp s;unfold bM1;rw[h,ae];refine ao ?_;cases h1:(bO s).length==1 with
 |true=>rw[ae];omega
 |false=>
  rw[aa];have:(bO s).length≠1:=by simpa using h1
  obtain⟨a,_,b,_,e⟩:=bVv (l:=bO s) (by omega);rw[e,ByteArray.size_append,ByteArray.size_append];have:(⟨#[46]⟩:ByteArray).size=1:=rfl;omega
def lC (s:ByteArray)(seed:Int):Bool:=iX s&&decide (2<=(bO s).length)&&bG seed
def Ol (l:List AI)(i:Nat)(n:AI):Bool:= !bA n||(decide (0<i)&&decide ((l.getD (i-1) default).Id>=n.Id))
def bW (s:AB):Bool:=lC s.Name s.Book.Seed&&decide (s.Accounts.length<=8)&&eU s.Book&& !gF (Ol s.Accounts) 0 s.Accounts
def SOk (s:AB):Prop:=s.Name.size<=34359738368/\s.Accounts.length<=34359738368/\s.Book.Open.length<=34359738368/\∀a∈s.Accounts,a.Credentials.length<=34359738368
instance (s:AB):Decidable (SOk s):=inferInstanceAs (Decidable (_/\_))
def gZ (name:ByteArray)(seed:Int):AB:=bif lC name seed then⟨name,[],⟨seed,0,[]⟩,[]⟩ else⟨⟨#[]⟩,[],⟨0,0,[]⟩,[]⟩
def bHv (name:ByteArray)(seed:Int):decide ((gZ name seed).Name.size=0)= !lC name seed:=by
 unfold gZ;cases h:lC name seed with
 |false=>rfl
 |true=>
  have:iX name=true:=by unfold lC at h;rw[ac,ac] at h;exact h.1.1
  have:=Ug this;exact ao (by show ¬name.size=0;omega)
def aA (i:Int):ByteArray:=bif i==0 then⟨#[98,97,110,107,46,99,111,109]⟩ else bif i==1 then⟨#[115,104,111,112,46,111,114,103]⟩ else⟨#[]⟩
def tO (i:Nat)(s:AB):Bool:= !bW s|| !(s.Name.toList==(aA (i:Int)).toList)
def aP (w:AA):Bool:=bK w.Now 0 999900&&bK (w.Devices.length:Int) 1 6&&(w.Stolen.length:Int)==(w.Devices.length:Int)&&(w.Sites.length:Int)==2&&jZ w.Mail&&aT w.aAD.Log&&bG w.Seed&& !gF tO 0 w.Sites
def bYc (w:AA):Prop:=X5 w/\w.Mail.Notices.length<=34359738368/\w.Hosts.length<=34359738368/\∀s∈w.Sites,SOk s
instance (w:AA):Decidable (bYc w):=inferInstanceAs (Decidable (_/\_))
def aJe {α:Type}{g:α->Nat}{x:α}:∀{l:List α},x∈l->g x<=(l.map g).sum
 |y::r,h=>by
  rw[bm,cV];rcases bg.1 h with rfl|h
  ·omega
  ·have:=aJe (g:=g) h;omega
def SOk.of {s:AB}(h:s.sz<=1048576):SOk s:=by
 simp only[AB.sz] at h;refine⟨by omega,by omega,by omega,λa b=> ?_⟩
 have:=aJe (g:=AI.sz) b;simp only[AI.sz] at this h;omega
def bYc.of {w:AA}(h:w.sz<=1048576):bYc w:=by
 refine⟨X5.of h,?_,?_,λs hs=>SOk.of ?_⟩
 ·simp only[AA.sz] at h;omega
 ·simp only[AA.sz] at h;omega
 ·have:=aJe (g:=AB.sz) hs;simp only[AA.sz] at h;omega
def aSn (w:AA)(i:Nat)(_:AF):Bool:= !qD w (i:Int)|| !pJ w (i:Int)
def X8 (w:AA):Bool:=aP w&&gX w&& !gF (aSn w) 0 w.Devices
abbrev uU (a:List Int)(r:List (List Int)):Prop:=a.length+r.flatten.length<=68719476736/\r.length<=1099511627776
def gP (w:AA)(i:Int):Bool:=decide (0<=i)&&decide (i<w.Sites.length)
def dV (a b:AH):Bool:=decide (a.Site<b.Site)||(a.Site==b.Site&&decide (a.Handle<b.Handle))
def kT (a:AH)(s h:Int):Bool:=decide (a.Site<s)||(a.Site==s&&decide (a.Handle<h))
def qO (x e:AH):Bool:=decide (x.Version>e.Version)||(x.Version==e.Version&&x.Deleted)
def sG (e x:AH):AH:=bif qO x e then x else e
def bM:List AH->List AH->List AH
 |[],bs=>bs
 |a::xs,[]=>a::xs
 |a::xs,b::bs=>bif dV a b then a::bM xs (b::bs) else bif dV b a then b::bM (a::xs) bs else sG a b::bM xs bs
termination_by xs bs=>xs.length+bs.length
def Uh (l:List AH)(i:Nat)(e:AH):Bool:= !bK e.Site 0 2147483646||(!bK e.Handle 0 1000000||(!bK e.Version 1 1000000||(decide ((i:Int)>0)&& !dV (l.getD (i-1) default) e)))
def aM (b:AC):Bool:=decide ((b.Entries.length:Int)<=20)&& !gF (Uh b.Entries) 0 b.Entries
def iN (a b:AC):AC×Bool:=bif aM a&&aM b then(bif aM ⟨bM a.Entries b.Entries⟩ then(⟨bM a.Entries b.Entries⟩,true) else(a,false)) else(a,false)
def qE (b:AC)(x:AH):AC:=bif decide (aJ b x.Site x.Handle>=0) then⟨b.Entries.set (aJ b x.Site x.Handle).toNat x⟩ else⟨b.Entries.takeWhile (λe=>kT e x.Site x.Handle)++[x]++b.Entries.dropWhile (λe=>kT e x.Site x.Handle)⟩
theorem Al {a b:AH}:dV a b=true↔a.Site<b.Site\/(a.Site=b.Site/\a.Handle<b.Handle):=by simp[dV]
def bHw {a x:AH}:kT a x.Site x.Handle=dV a x:=rfl
theorem pK {a b c:AH}(h:dV a b=true)(k:dV b c=true):dV a c=true:=by rw[Al] at*;omega
def Bh {a b:AH}(h:dV a b=false)(k:dV b a=false):a.Site=b.Site/\a.Handle=b.Handle:=by
 have h1:¬(a.Site<b.Site\/(a.Site=b.Site/\a.Handle<b.Handle)):=λq=>by rw[Al.2 q] at h;cases h
 have h2:¬(b.Site<a.Site\/(b.Site=a.Site/\b.Handle<a.Handle)):=λq=>by rw[Al.2 q] at k;cases k
 omega
def Ao {a b c:AH}(h:a.Site=b.Site/\a.Handle=b.Handle):dV a c=dV b c:=by unfold dV;rw[h.1,h.2]
def aSo {a b c:AH}(h:a.Site=b.Site/\a.Handle=b.Handle):dV c a=dV c b:=by unfold dV;rw[h.1,h.2]
def aD6 {a b:AH}(h:a.Site=b.Site/\a.Handle=b.Handle):(sG a b).Site=b.Site/\(sG a b).Handle=b.Handle:=by
 unfold sG;cases qO b a
 ·exact h
 ·exact⟨rfl,rfl⟩
def bKd (a b:AH):sG a b=a\/sG a b=b:=by
 unfold sG;cases qO b a
 ·exact .inl rfl
 ·exact .inr rfl
def fK (l:List AH):bM l []=l:=by cases l<;>rw[bM]
def kD (l:List AH):bM [] l=l:=by rw[bM]
def Ap:∀(n:Nat) (a b:List AH),a.length+b.length<=n->(bM a b).length<=a.length+b.length
 |_,[],b,_=>by rw[kD];simp
 |_,a::xs,[],_=>by rw[fK];simp
 |0,a::xs,b::bs,h=>by simp at h
 |n+1,a::xs,b::bs,h=>by
  simp only[au] at h;rw[bM];cases dV a b with
  |true=>have:=Ap n xs (b::bs) (by simp only[au];omega);simp only[ae,au] at*;omega
  |false=>
   cases dV b a with
   |true=>have:=Ap n (a::xs) bs (by simp only[au];omega);simp only[aa,ae,au] at*;omega
   |false=>have:=Ap n xs bs (by omega);simp only[aa,au] at*;omega
def vU (a b:AH)(xs bs:List AH):bM (a::xs) (b::bs)=bif dV a b then a::bM xs (b::bs) else bif dV b a then b::bM (a::xs) bs else sG a b::bM xs bs:=by rw[bM]
def srt (l:List AH):Prop:=l.Pairwise λa b=>dV a b=true
def bAe:∀(A:List AH) {b:AH} {bs:List AH},srt (b::bs)->bM (bM A [b]) bs=bM A (b::bs)
 |[],b,bs,h=>by
  rw[kD,kD];cases bs with
  |nil=>rw[fK]
  |cons c cs=>rw[bM,(cu.1 h).1 c (by simp),ae,kD]
 |a::xs,b,bs,h=>by
  have hc:=(cu.1 h).1;rw[vU a b xs [],vU a b xs bs];cases h1:dV a b with
  |true=>
   simp only[ae];cases bs with
   |nil=>rw[fK]
   |cons c cs=>rw[bM,pK h1 (hc c (by simp)),ae,bAe xs h]
  |false=>
   cases h2:dV b a with
   |true=>
    simp only[ae,aa];rw[fK];cases bs with
    |nil=>rw[fK,fK]
    |cons c cs=>rw[bM,hc c (by simp),ae]
   |false=>
    simp only[aa];rw[fK];cases bs with
    |nil=>rw[fK,fK]
    |cons c cs=>rw[bM,Ao (aD6 (Bh h1 h2)),hc c (by simp),ae]
def bKe:∀{l:List AH} {x y:AH},y∈bM l [x]->y∈l\/y=x
 |[],x,y,h=>by rw[kD] at h;simp at h;exact .inr h
 |a::xs,x,y,h=>by
  rw[bM] at h;cases h1:dV a x with
  |true=>
   rw[h1,ae] at h;rcases bg.1 h with rfl|h
   ·exact .inl (by simp)
   ·exact(bKe h).imp (λh=>by simp[h]) id
  |false=>
   rw[h1,aa] at h;cases h2:dV x a with
   |true=>
    rw[h2,ae,fK] at h;rcases bg.1 h with rfl|h
    ·exact .inr rfl
    ·exact .inl h
   |false=>
    rw[h2,aa,fK] at h;rcases bg.1 h with rfl|h
    ·rcases bKd a x with e|e
     ·rw[e];exact .inl (by simp)
     ·exact .inr e
    ·exact .inl (by simp[h])
def bKf:∀{l:List AH} {x:AH},srt l->srt (bM l [x])
 |[],x,h=>by rw[kD];exact List.pairwise_singleton _ _
 |a::xs,x,h=>by
  obtain⟨c,hs⟩:=cu.1 h;rw[bM];cases h1:dV a x with
  |true=>
   rw[ae];refine cu.2 ⟨λy b=> ?_,bKf hs⟩;rcases bKe b with b|rfl
   ·exact c y b
   ·exact h1
  |false=>
   cases h2:dV x a with
   |true=>
    rw[aa,ae,fK];refine cu.2 ⟨λy b=> ?_,h⟩;rcases bg.1 b with rfl|b
    ·exact h2
    ·exact pK h2 (c y b)
   |false=>rw[aa,aa,fK];have hk:=Bh h1 h2;refine cu.2 ⟨λy b=> ?_,hs⟩;rw[Ao (aD6 hk),<-Ao hk];exact c y b
def aSp:∀(B A:List AH),srt B->B.foldl (λo x=>bM o [x]) A=bM A B
 |[],A,_=>by rw[fK];rfl
 |b::bs,A,h=>by rw[db,aSp bs _ (cu.1 h).2,bAe A h]
def Ui {α:Type}{p:α->Bool}:∀{l:List α} {i:Nat},kN p i l<0->∀y∈l,p y=false
 |[],i,_,y,a=>by simp at a
 |x::l,i,h,y,a=>by
  simp only[kN] at h;cases hp:p x with
  |true=>rw[hp,ae] at h;omega
  |false=>
   rw[hp,aa] at h;rcases bg.1 a with rfl|a
   ·exact hp
   ·exact Ui h y a
def Zn {α:Type}{p:α->Bool}:∀{l:List α} {i:Nat},0<=kN p i l->∃l1 e l2,l=l1++e::l2/\p e=true/\kN p i l=((i+l1.length:Nat):Int)
 |[],i,h=>by simp[kN] at h
 |x::l,i,h=>by
  simp only[kN] at h ⊢;cases hp:p x with
  |true=>exact⟨[],x,l,rfl,hp,by simp⟩
  |false=>rw[hp,aa] at h;obtain⟨l1,e,l2,h1,h2,a⟩:=Zn h;exact⟨x::l1,e,l2,by rw[h1];rfl,h2,by rw[aa,a];simp only[au];omega⟩
def bKg:∀{l:List AH} {x:AH},(∀y∈l,(y.Site==x.Site&&y.Handle==x.Handle)=false)->bM l [x]=l.takeWhile (λe=>kT e x.Site x.Handle)++[x]++l.dropWhile (λe=>kT e x.Site x.Handle)
 |[],x,_=>by rw[kD];rfl
 |a::xs,x,h=>by
  rw[bM,dl,List.dropWhile_cons,bHw];cases h1:dV a x with
  |true=>simp only[ae,ig];rw[bKg (λy b=>h y (by simp[b]))];rfl
  |false=>
   cases h2:dV x a with
   |true=>simp only[aa,ae];rw[fK];rfl
   |false=>have:=Bh h1 h2;have:=h a (by simp);simp_all
def bKh {e x:AH}{l2:List AH}(he:(e.Site==x.Site&&e.Handle==x.Handle)=true):∀{l1:List AH},srt (l1++e::l2)->bM (l1++e::l2) [x]=l1++sG e x::l2
 |[],_=>by
  have hk:e.Site=x.Site/\e.Handle=x.Handle:=by simpa using he
  have h1:dV e x=false:=by
   cases h:dV e x with
   |false=>rfl
   |true=>rw[Al] at h;omega
  have h2:dV x e=false:=by
   cases h:dV x e with
   |false=>rfl
   |true=>rw[Al] at h;omega
  rw[bz,bM,h1,aa,h2,aa,fK];rfl
 |a::l1,h=>by
  obtain⟨b,hs⟩:=cu.1 h;have hk:e.Site=x.Site/\e.Handle=x.Handle:=by simpa using he
  have h1:dV a x=true:=by rw[<-aSo hk];exact b e (by simp)
  rw[cM,bM,h1,ae,bKh he hs];rfl
def bEu {l:List AH}{x:AH}(h:srt l):(bif (decide (aJ ⟨l⟩ x.Site x.Handle<0)||qO x (l.getD (aJ ⟨l⟩ x.Site x.Handle).toNat default)) then(qE ⟨l⟩ x).Entries else l)=bM l [x]:=by
 unfold qE;by_cases a:aJ ⟨l⟩ x.Site x.Handle<0
 ·rw[aq a,jf,ae,show decide (aJ ⟨l⟩ x.Site x.Handle>=0)=false from ao (by omega),aa];exact(bKg (Ui a)).symm
 ·obtain⟨l1,e,l2,h1,h2,c⟩:=Zn (show 0<=kN (λe=>e.Site==x.Site&&e.Handle==x.Handle) 0 l from by unfold aJ at a;simp only at a;omega);have b:aJ ⟨l⟩ x.Site x.Handle=(l1.length:Int):=by unfold aJ;rw[c];simp
  rw[b,ao (by omega),cF,show decide ((l1.length:Int)>=0)=true from aq (by omega),ae,bo];subst h1;rw[bKh h2 h];have g:(l1++e::l2).getD l1.length default=e:=by simp[List.getD]
  have st:(l1++e::l2).set l1.length x=l1++x::l2:=by simp
  rw[g];show(bif qO x e then(l1++e::l2).set l1.length x else l1++e::l2)=_;rw[st];unfold sG;cases qO x e<;>rfl
def bKi {α:Type}{p:Nat->α->Bool}:∀{l:List α} {j:Nat},gF p j l=false->∀(i:Nat) (hi:i<l.length),p (j+i) l[i]=false
 |[],j,_,i,hi=>by simp at hi
 |x::l,j,h,i,hi=>by
  simp only[gF,bc] at h;cases i with
  |zero=>exact h.1
  |succ i=>have:=bKi h.2 i (by simpa using hi);rw[show j+(i+1)=j+1+i by omega];exact this
def aSq {b:AC}(h:aM b=true):b.Entries.length<=20/\srt b.Entries:=by
 simp only[aM,ac,ca,bu] at h;refine⟨by omega,?_⟩;have adj:∀i (hi:i+1<b.Entries.length),dV b.Entries[i] b.Entries[i+1]=true:=λi hi=>by
  have:=bKi h.2 (i+1) hi;simp only[Uh,bc,ck] at this;have a:=this.2.2.2;rw[aq (by omega),cq] at a;have c:(b.Entries.getD (i+1-1) default)=b.Entries[i]:=by rw[Nat.add_sub_cancel,List.getD,ab (by omega),ci]
  rw[c] at a;simpa using a
 have far:∀d i (hi:i+d+1<b.Entries.length),dV b.Entries[i] b.Entries[i+d+1]=true:=λd=>by
  induction d with
  |zero=>exact λi hi=>adj i hi
  |succ d e=>exact λi hi=>pK (e i (by omega)) (adj (i+d+1) (by omega))
 refine eh.2 λi j hi f k=> ?_;obtain⟨d,rfl⟩:∃d,j=i+d+1:=⟨j-i-1,by omega⟩;exact far d i f
theorem gI {α β:Type}{s:List α}(hs:s.length<=34359738368)(x:α)(k:Option β):gd (aX s [x]) k=k:=aB (by unfold aX;simp only[cz];omega)
def tQ {α β:Type}{s:List α}(hs:s.length<=34359738368)(k:Option β):gd (aX [] s) k=k:=aB (by unfold aX;simp only[bp];omega)
def bEv {α:Type}{l s:List α}:l.foldl (λs x=>s++[x]) s=s++l:=by
 have:=aJc (f:=λx:α=>[x]) (l:=l) (s:=s);rw[this];congr 1;induction l with
 |nil=>rfl
 |cons x l a=>simp[a]
def aSr {α:Type}{l:List α}{F:(Nat×List α->Option (List α))->Nat×List α->Option (List α)}(hl:l.length<=34359738368)
  (a:∀rec i s (hi:i<l.length),s.length<=34359738368->F rec (i,s)=rec (i+1,s++[l[i]])) (b:∀rec s,F rec (l.length,s)=some s):EV.bZ FUEL F (0,[])=some l:=by
 rw[bAc (l:=l) (λs x=>s++[x]) (λi s=>s.length=i) (λs=>some s) (by omega) rfl (λi s hi hv=>by simp;omega) (λrec i s hi hv=>a rec i s hi (by omega)) (λrec s _=>b rec s),bEv,bz]
def bVw {α:Type}{l:List α}{F:(List α×Nat->Option (List α))->List α×Nat->Option (List α)}(hl:l.length<=34359738368)
  (a:∀rec i s (hi:i<l.length),s.length<=34359738368->F rec (s,i)=rec (s++[l[i]],i+1)) (b:∀rec s,F rec (s,l.length)=some s):EV.bZ FUEL F ([],0)=some l:=by
 rw[gV (l:=l) (λs x=>s++[x]) (λi s=>s.length=i) (λs=>some s) (by omega) rfl (λi s hi hv=>by simp;omega) (λrec i s hi hv=>a rec i s hi (by omega)) (λrec s _=>b rec s),bEv,bz]
abbrev Tj {α:Type}(f:α->Nat)(l:List α):Nat:=l.length+(l.map f).sum
theorem jR {S τ:Type}{F:(S->Option τ)->S->Option τ}{n:Nat}{s:S}:EV.bZ (n+1) F s=F (EV.bZ n F) s:=rfl
def qF {α:Type}{c:Bool}{x y:α}:(bif c then some x else some y)=some (bif c then x else y):=by cases c<;>rfl
theorem sH {c d:Bool}:(bif c then some true else some d)=some (c||d):=by cases c<;>rfl
def bQo {α:Type}[Inhabited α]{l:List α}{i:Nat}(h:i<l.length):l.set i (l.getD i default)=l:=by rw[List.getD,ab h];simp
def tT {α:Type}{p:Nat->α->Bool}:∀(l:List α) (j:Nat),gF p j l=true↔∃(i:Nat) (hi:i<l.length),p (j+i) l[i]=true
 |[],j=>by simp[gF]
 |x::xs,j=>by
  simp only[gF,co,tT xs];constructor
  ·rintro(h|⟨i,hi,h⟩)
   ·exact⟨0,by simp,h⟩
   ·exact⟨i+1,by simpa using hi,by rw[show j+(i+1)=j+1+i by omega];exact h⟩
  ·rintro⟨i,hi,h⟩;cases i with
   |zero=>exact .inl h
   |succ i=>exact .inr ⟨i,by simpa using hi,by rw[show j+1+i=j+(i+1) by omega];exact h⟩
def X9 {α:Type}{p:Nat->α->Bool}{l:List α}:gF p 0 l=false↔∀(i:Nat) (hi:i<l.length),p i l[i]=false:=by
 constructor
 ·intro h i hi;cases hc:p i l[i] with
  |false=>rfl
  |true=>rw[(tT l 0).2 ⟨i,hi,by rw[ck];exact hc⟩] at h;cases h
 ·intro h;cases hc:gF p 0 l with
  |false=>rfl
  |true=>obtain⟨i,hi,hp⟩:=(tT l 0).1 hc;rw[ck,h i hi] at hp;cases hp
def bYd {α β:Type}{l:List α}(f:α->β){F:(List β×Nat->Option (List β))->List β×Nat->Option (List β)}(hl:l.length<=34359738368)
  (a:∀rec i s (hi:i<l.length),s.length<=34359738368->F rec (s,i)=rec (s++[f l[i]],i+1)) (b:∀rec s,F rec (s,l.length)=some s):EV.bZ FUEL F ([],0)=some (l.map f):=by
 rw[gV (l:=l) (λs x=>s++[f x]) (λi s=>s.length=i) (λs=>some s) (by omega) rfl (λi s hi hv=>by simp;omega) (λrec i s hi hv=>a rec i s hi (by omega)) (λrec s _=>b rec s),aJd,bz]
def bVx {α β:Type}{l:List α}(f:α->β){s0:List β}{F:(List β×Nat->Option (List β))->List β×Nat->Option (List β)}(hl:s0.length+l.length<=34359738368)
  (a:∀rec i s (hi:i<l.length),s.length<=34359738368->F rec (s,i)=rec (s++[f l[i]],i+1)) (b:∀rec s,F rec (s,l.length)=some s):EV.bZ FUEL F (s0,0)=some (s0++l.map f):=by
 rw[gV (l:=l) (λs x=>s++[f x]) (λi s=>s.length=s0.length+i) (λs=>some s) (by omega) (by simp) (λi s hi hv=>by simp;omega) (λrec i s hi hv=>a rec i s hi (by omega)) (λrec s _=>b rec s),aJd]
def gJ (h:AG)(b:Int):AG×Bool:=bif decide (b<0)||decide (b>=(h.Saved.length:Int)) then(h,false) else(⟨h.Saved.getD (h.Saved.length-1-b.toNat) default,h.Saved,h.Monotonic⟩,true)
def fO (w:AA)(i b:Int):AA×Bool:=bif !aP w||(decide (i<0)||decide (i>=(w.Hosts.length:Int))) then(w,false) else bif (gJ (w.Hosts.getD i.toNat default) b).2 then({w with Hosts:=w.Hosts.set i.toNat (gJ (w.Hosts.getD i.toNat default) b).1},true) else(w,false)
def bT7 {i:Int}{n:Nat}(h:n<=34359738368):(!bK i 0 (IntKind.i64.wrap ((n:Int)-1)))=(decide (i<0)||decide (i>=(n:Int))):=by
 rw[aI (by omega) (by omega)];unfold bK;by_cases h0:i<0
 ·rw[aq h0,ao (show ¬0<=i by omega)];rfl
 ·rw[ao h0,aq (show 0<=i by omega)];by_cases h1:i>=(n:Int)
  ·rw[aq h1,ao (show ¬i<=(n:Int)-1 by omega)];rfl
  ·rw[ao h1,aq (show i<=(n:Int)-1 by omega)];rfl
theorem tV {α:Type}[Inhabited α]{l:List α}{i:Int}(h0:0<=i)(h1:i<(l.length:Int)):bC l i=some (l.getD i.toNat default):=by rw[kY h0 (by omega)];simp[List.getD,ab (show i.toNat<l.length by omega)]
theorem Uj {i:Int}{n:Nat}(h:(decide (i<0)||decide (i>=(n:Int)))=false):0<=i/\i<(n:Int):=by simp only[bc,cr] at h;omega
theorem wV {α:Type}[Inhabited α]{f:α->Nat}{l:List α}{i:Nat}(h:i<l.length):f (l.getD i default)<=(l.map f).sum:=by rw[List.getD,ab h];exact nD h
def bEw (h:AG)(b:Int):(gJ h b).1.sz=h.sz:=by unfold gJ;cases(decide (b<0)||decide (b>=(h.Saved.length:Int)))<;>rfl
def Om (l:List AS)(i:Nat)(s:AS):Bool:= !bK s.Index 1 7||(!bK s.Value 0 1018||(l.take i).any λq=>q.Index==s.Index)
def o8 (l:List AS):Bool:=bK (l.length:Int) 1 7&& !gF (Om l) 0 l
def aNr (x:Int)(z v:Int):Int:=(IntKind.i64.wrap (IntKind.i64.wrap (v+fD z 1019)*x)).tmod 1019
def Eu (c:Int)(l:List Int)(x:Int):Int:=(l.foldr (aNr x) 0+fD c 1019)%1019
def bQp (c:List Int)(s:AS):AS:=⟨s.Index,(IntKind.i64.wrap (s.Value+Eu 0 c s.Index)).tmod 1019⟩
def lN (l:List AS)(c:List Int):List AS:=bif o8 l then l.map (bQp c) else[]
def cS (l:List AS)(i:Nat)(k:Int):Bool:=(l.take i).any λq=>q.Index==k
def cBx {l:List AS}{i:Nat}{k:Int}(hi:i<l.length):cS l (i+1) k=(cS l i k||l[i].Index==k):=by unfold cS;rw[dT,ab hi,jr];simp
def bEx {x z v:Int}(a:0<=x/\x<=1000)(hv:0<=v/\v<1019):0<=aNr x z v/\aNr x z v<1019:=by have hm:=oW (p:=z) (q:=1019) (by omega);unfold aNr;generalize fD z 1019=m at*;have b:IntKind.i64.wrap (v+m)=v+m:=aI (by omega) (by omega);have h2:0<=(v+m)*x:=jz (by omega) a.1;have c:(v+m)*x<=3000*1000:=Int.mul_le_mul (by omega) a.2 a.1 (by omega);rw[b,aI (by omega) (by omega)];exact⟨fS _ h2,fX _ (by omega)⟩
def Y1 {x:Int}(a:0<=x/\x<=1000):∀l:List Int,0<=l.foldr (aNr x) 0/\l.foldr (aNr x) 0<1019
 |[]=>by simp
 |z::l=>bEx a (Y1 a l)
def bEy {σ τ:Type}{l:List Int}(g:Int->σ->σ){s0:σ}(fin:σ->Option τ){F:(σ×Int->Option τ)->σ×Int->Option τ}(hl:l.length<=34359738368)
  (a:∀rec s i (hi:i<l.length),F rec (s,(i:Int))=rec (g l[i] s,(i:Int)-1)) (b:∀rec s,F rec (s,-1)=fin s) {n0:Int} (hn:n0=(l.length:Int)-1):EV.bZ FUEL F (s0,n0)=fin (l.foldr g s0):=by
 subst hn;refine X3 (λk s=>k<=l.length/\s=((l.drop (l.length-k)).foldr g s0,(l.length:Int)-1-k)) l.length _ (by omega) ⟨by omega,by simp⟩ (λk s rec hk hv=> ?_) (λs rec hv=> ?_)
 ·obtain⟨_,rfl⟩:=hv;refine .inl ⟨_,⟨hk,rfl⟩,?_⟩;have e:(l.length:Int)-1-k=((l.length-1-k:Nat):Int):=by omega
  have c:l.length-(k+1)=l.length-1-k:=by omega
  have hi:l.length-1-k<l.length:=by omega
  rw[e,a rec _ _ hi,c,cC hi,List.foldr_cons,show l.length-1-k+1=l.length-k by omega];congr 2;omega
 ·obtain⟨_,rfl⟩:=hv;simp only[ga,gr];rw[show(l.length:Int)-1-(l.length:Int)= -1 by omega,b]
def bYe {c d:Bool}:(bif c then some d else some false)=some (c&&d):=by cases c<;>rfl
def kK (k:A0):Bool:=o8 [k.aAQ]&&(bK k.Epoch 0 1000000&&(bK k.Limit 1 10&&bK k.Guesses 0 k.Limit))
def jV (h:AG)(s:AS):Bool:= !kK h.State||(decide (kQ h.State<h.Monotonic)||(h.State.Epoch==1000000||(s.Index !=h.State.aAQ.Index|| !o8 [s])))
def rO (h:AG)(s:AS):AG:=⟨⟨s,IntKind.i64.wrap (h.State.Epoch+1),0,h.State.Limit⟩,h.Saved,kQ ⟨s,IntKind.i64.wrap (h.State.Epoch+1),0,h.State.Limit⟩⟩
def aSs (h:AG)(s:AS):AG×Bool:=bif jV h s then(h,false) else(rO h s,true)
def bCh (hs:List AG)(a:List AS):List AG×Bool:=bif ((a.length:Int)==0)||(hs.zip a).any (λp=>jV p.1 p.2) then(hs,false) else(List.zipWith rO hs a,true)
def fC (hs:List AG)(c:List Int):List AG×Bool:=bCh hs (lN (hs.map λh=>h.State.aAQ) c)
def aNs (w:AA):Nat->Int->List Int
 |0,_=>[]
 |n+1,k=>bif decide (k<w.aAL.Threshold)&&decide (k<=7) then aW w.Seed [317,w.Now,k]::aNs w n (k+1) else[]
def O8 (w:AA):List Int:=aNs w 8 1
def dX (w:AA):AA×Bool:=bif aP w&&(fC w.Hosts (O8 w)).2 then({w with Hosts:=(fC w.Hosts (O8 w)).1},true) else(w,false)
def bAf (w:AA):∀(n:Nat) (k:Int),(aNs w n k).length<=n
 |0,_=>aj _
 |n+1,k=>by
  unfold aNs;cases(decide (k<w.aAL.Threshold)&&decide (k<=7)) with
  |true=>have:=bAf w n (k+1);simp only[ae,au];omega
  |false=>simp
def bEz (l:List AS)(c:List Int):(lN l c).length<=l.length:=by unfold lN;cases o8 l<;>simp
def bE0 {l:List AS}{c:List Int}(h:((lN l c).length:Int)≠0):(lN l c).length=l.length:=by
 unfold lN at h ⊢;cases a:o8 l with
 |true=>simp
 |false=>rw[a] at h;simp at h
def bM2 (b:AC)(s h:Int):Int:=bif decide (aJ b s h>=0) then IntKind.i64.wrap ((b.Entries.getD (aJ b s h).toNat default).Version+1) else 1
def qG (b:AC)(s h:Int):AH:=⟨s,h,bM2 b s h,false⟩
def Y2 (b:AC)(s h:Int):AC×Bool:=bif !(decide (aJ b s h>=0)&& !(b.Entries.getD (aJ b s h).toNat default).Deleted)&&(aM b&&aM (qE b (qG b s h))) then(qE b (qG b s h),true) else(b,false)
def Y3 (b:AC)(s h:Int):AH:=⟨s,h,IntKind.i64.wrap ((b.Entries.getD (aJ b s h).toNat default).Version+1),true⟩
def Y4 (b:AC)(s h:Int):AC×Bool:=bif !aM b||(decide (aJ b s h<0)||((b.Entries.getD (aJ b s h).toNat default).Deleted||(b.Entries.getD (aJ b s h).toNat default).Version==1000000)) then(b,false) else(qE b (Y3 b s h),true)
def tX (d:AF)(n:ByteArray)(h:Int)(rm:Bool):AC×Bool:=bif rm then Y4 d.aAE (bB n) h else Y2 d.aAE (bB n) h
def dI (d:AF)(n:ByteArray)(h:Int)(rm:Bool):AF×Bool:=bif (tX d n h rm).2 then({d with aAE:=(tX d n h rm).1},true) else(d,false)
def sI (w:AA)(d:Int)(n:ByteArray)(h:Int)(rm:Bool):AA×Bool:=bif aP w&&aN w d then(bif (dI (aL w d) n h rm).2 then({w with Devices:=w.Devices.set d.toNat (dI (aL w d) n h rm).1},true) else(w,false)) else(w,false)
def bKj (b:List Int):(Be b).length=b.length+1:=by simp[Be,Nat.add_comm]
def aQ1 (l:List Int):List.map (λ(n:Int)=>n) l=l:=List.map_id l
def bM3 (hs:List AG):∀(a:List AS),(List.zipWith rO hs a).length<=hs.length/\((List.zipWith rO hs a).map AG.sz).sum<=(hs.map AG.sz).sum:=by
 induction hs with
 |nil=>intro a;simp
 |cons h hs b=>
  intro a;cases a with
  |nil=>simp
  |cons s a=>have:=b a;have e:(rO h s).sz=h.sz:=rfl;simp only[List.zipWith_cons_cons,au,bm,cV,e];omega
def O9 (hs:List AG)(c:List Int):(fC hs c).1.length<=hs.length/\((fC hs c).1.map AG.sz).sum<=(hs.map AG.sz).sum:=by
 unfold fC bCh;generalize lN (hs.map λh=>h.State.aAQ) c=a;cases(((a.length:Int)==0)||(hs.zip a).any (λp=>jV p.1 p.2)) with
 |true=>exact⟨aj _,aj _⟩
 |false=>exact bM3 hs a
def aXc (w:AA):(dX w).1.sz<=w.sz:=by
 unfold dX;have:=O9 w.Hosts (O8 w);cases(aP w&&(fC w.Hosts (O8 w)).2) with
 |false=>exact aj _
 |true=>simp only[ae,AA.sz];omega
def bE1 (b:AC)(x:AH):(qE b x).Entries.length<=b.Entries.length+1:=by
 unfold qE;cases decide (aJ b x.Site x.Handle>=0) with
 |true=>simp
 |false=>have:=congrArg List.length (e8 (p:=λe=>kT e x.Site x.Handle) (l:=b.Entries));simp only[ay] at this;simp only[aa,ay,cz];omega
def bT8 (b:AC)(s h:Int):(Y2 b s h).1.Entries.length<=b.Entries.length+1:=by
 unfold Y2;have:=bE1 b (qG b s h);cases(!(decide (aJ b s h>=0)&& !(b.Entries.getD (aJ b s h).toNat default).Deleted)&&(aM b&&aM (qE b (qG b s h)))) with
 |true=>exact this
 |false=>simp
def bT9 (b:AC)(s h:Int):(Y4 b s h).1.Entries.length<=b.Entries.length+1:=by
 unfold Y4;have:=bE1 b (Y3 b s h);cases(!aM b||(decide (aJ b s h<0)||((b.Entries.getD (aJ b s h).toNat default).Deleted||(b.Entries.getD (aJ b s h).toNat default).Version==1000000))) with
 |true=>simp
 |false=>exact this
def Jo (d:AF)(n:ByteArray)(h:Int)(rm:Bool):(dI d n h rm).1.sz<=d.sz+1:=by
 unfold dI;have:(tX d n h rm).1.Entries.length<=d.aAE.Entries.length+1:=by
  unfold tX;cases rm with
  |true=>exact bT9 _ _ _
  |false=>exact bT8 _ _ _
 cases(tX d n h rm).2 with
 |true=>simp only[ae,AF.sz];omega
 |false=>simp
def fP (c:AO)(b:Int):AJ×Bool:=bif decide (b<0)||decide (b>=(c.History.length:Int)) then(⟨0,0,[],0⟩,false) else(c.History.getD (c.History.length-1-b.toNat) default,true)
def bM4 (a b:AD):Bool:=a.Index==b.Index&&(a.Kind==b.Kind&&(a.Device==b.Device&&(a.By==b.By&&(a.Previous==b.Previous&&(a.Signature==b.Signature&&true)))))
def cZ (a b:List AD):Bool:=decide (b.length<=a.length)&& !gF (λi e=> !bM4 (a.getD i default) e) 0 b
def jK (k:Int)(b:AJ):Int:=bH k ([227,b.Epoch,b.Version]++Be b.Data)
def mI (k e v:Int):Int:=aW k [223,e,v]
def uvE:Nat->Int->List Int
 |0,n=>[n]
 |k+1,n=>bif decide (n>127) then(n%128+128)::uvE k (n/128) else[n]
theorem bCi:∀(k:Nat) (n:Int),1<=(uvE k n).length/\(uvE k n).length<=k+1
 |0,n=>by simp[uvE]
 |k+1,n=>by
  have:=bCi k (n/128);unfold uvE;cases decide (n>127)<;>simp<;>omega
def bUa {k:Nat}{z:Int}(h:z<=127):uvE k z=[z]:=by
 cases k with
 |zero=>rfl
 |succ k=>unfold uvE;rw[ao (by omega)];rfl
def bKk:∀(k:Nat) (m n:Int) (x y:List Int),0<=m->0<=n->uvE k m++x=uvE k n++y->m=n/\x=y
 |0,m,n,x,y,_,_,h=>by simpa[uvE] using h
 |k+1,m,n,x,y,h0,h1,h=>by
  unfold uvE at h;by_cases hm:m>127<;>by_cases hn:n>127
  ·simp only[aq hm,aq hn,ae,cM,fR] at h;have:=bKk k (m/128) (n/128) x y (by omega) (by omega) h.2;exact⟨by omega,this.2⟩
  ·simp only[aq hm,ao hn,ae,aa,cM,fR] at h;omega
  ·simp only[ao hm,aq hn,ae,aa,cM,fR] at h;omega
  ·simpa only[ao hm,ao hn,aa,cM,bz,fR] using h
def bE2 {F:(Int×List Int->Option (Int×List Int))->Int×List Int->Option (Int×List Int)}
  (a:∀rec (n:Int) (s:List Int),0<=n->n<9223372036854775807->s.length<=34359738368->F rec (n,s)=bif decide (n>127) then rec (n/128,s++[n%128+128]) else some (n,s)):
  ∀(k:Nat) (n:Int) (s:List Int) (f:Nat),k<f->0<=n->n<128^(k+1)->k<=6->s.length+k<=34359738368->∃m q,EV.bZ f F (n,s)=some (m,q)/\q++[m]=s++uvE k n/\0<=m/\m<=127
 |0,n,s,f+1,b,h0,h1,_,hs=>by
  refine⟨n,s,?_,rfl,h0,by simp at h1;omega⟩;rw[jR,a _ _ _ h0 (by simp at h1;omega) (by omega),ao (by simp at h1;omega)];rfl
 |k+1,n,s,f+1,b,h0,h1,hk,hs=>by
  have h2:(128:Int)^(k+1+1)=128*128^(k+1):=by rw[fe];omega
  have h:(128:Int)^(k+1+1)<=128^8:=by exact_mod_cast ia (by omega) (by omega)
  have i:(128:Int)^8=72057594037927936:=by decide
  rw[jR,a _ _ _ h0 (by omega) (by omega)];unfold uvE;by_cases hn:n>127
  ·rw[aq hn,ae,ae];obtain⟨m,q,c,d,e⟩:=bE2 a k (n/128) (s++[n%128+128]) f (by omega) (by omega) (by omega) (by omega) (by simp;omega);exact⟨m,q,c,by rw[d];simp,e⟩
  ·rw[ao hn,aa,aa];exact⟨n,s,rfl,rfl,h0,by omega⟩
theorem bUb {n:Int}(h0:0<=n)(h1:n<9223372036854775808):qN .i64 n 127=n%128:=by
 obtain⟨m,rfl⟩:=dx h0;have e:((BitVec.ofInt 64 (m:Int))&&&(BitVec.ofInt 64 127)).toNat=m%128:=by
  rw[BitVec.toNat_and];have a:(BitVec.ofInt 64 (m:Int)).toNat=m:=by rw[BitVec.toNat_ofInt];omega
  have b:(BitVec.ofInt 64 127).toNat=2^7-1:=by decide
  rw[a,b,gk]
 show IntKind.i64.wrap (((BitVec.ofInt 64 (m:Int))&&&(BitVec.ofInt 64 127)).toNat:Int)=_;rw[e,aI (by omega) (by omega)];omega
theorem bYf {n:Int}(h0:0<=n)(h1:n<128):orI .i64 n 128=n+128:=by
 obtain⟨m,rfl⟩:=dx h0;have e:((BitVec.ofInt 64 (m:Int))|||(BitVec.ofInt 64 128)).toNat=m+128:=by
  rw[BitVec.toNat_or];have a:(BitVec.ofInt 64 (m:Int)).toNat=m:=by rw[BitVec.toNat_ofInt];omega
  have c:(BitVec.ofInt 64 128).toNat=1<<<7:=by decide
  have:=jq (b:=m) (i:=7) (by omega) 1;rw[a,c,Nat.or_comm,<-this];omega
 show IntKind.i64.wrap (((BitVec.ofInt 64 (m:Int))|||(BitVec.ofInt 64 128)).toNat:Int)=_;rw[e,aI (by omega) (by omega)];omega
theorem bZ3 {n:Int}(h0:0<=n):Ik .i64 n 7=n/128:=by unfold Ik;rw[show min (Int.toNat 7) IntKind.i64.bits=7 from by decide,gt _ (by decide)];rfl
theorem aSt {n:Int}(h0:0<=n)(h1:n<=255):IntKind.u8.wrap n=n:=by rw[IntKind.wrap_u8];omega
def enc1 (n:Int):List Int:=bif bK n 0 1000000000000 then uvE 5 n else[]
def tY (b:List Int)(n:Int):List Int:=b++enc1 n
def jL (l:List Int):List Int:=(l.map enc1).flatten
theorem aD7 (n:Int):(enc1 n).length<=6:=by have:=(bCi 5 n).2;unfold enc1;cases bK n 0 1000000000000<;>simp<;>omega
def aQ2 {n:Int}(h:0<=n/\n<=1000000000000):enc1 n=uvE 5 n:=by unfold enc1 bK;rw[aq h.1,aq h.2];rfl
def vV (n:Int)(l:List Int):jL (n::l)=enc1 n++jL l:=rfl
def aD8:∀l:List Int,(jL l).length<=6*l.length
 |[]=>by simp[jL]
 |n::l=>by
  have:=aD8 l;have:=aD7 n;rw[vV,ay,au];omega
def aXd (l:List Int):Prop:=∀v∈l,0<=v/\v<=(1000000000000:Int)
def bE3:∀(s t x y:List Int),aXd s->aXd t->s.length=t.length->jL s++x=jL t++y->s=t/\x=y
 |[],[],x,y,_,_,_,h=>⟨rfl,h⟩
 |m::s,n::t,x,y,hs,ht,hl,h=>by
  have hm:=hs m (by simp);have hn:=ht n (by simp);rw[vV,vV,cm,cm,aQ2 hm,aQ2 hn] at h;obtain⟨h1,h2⟩:=bKk 5 m n _ _ hm.1 hn.1 h;obtain⟨a,b⟩:=bE3 s t x y (λv hv=>hs v (by simp[hv])) (λv hv=>ht v (by simp[hv])) (by simpa using hl) h2;exact⟨by rw[h1,a],b⟩
def bKl {b:List Int}(hb:aZ b){p:Nat}:∀(k i:Nat) (n m e:Int),uvG b p (k+1) i n=(m,e,true)->∃(r:Int) (q:Nat),(0<=r/\m=n+r*128^i/\m<=1000000000000/\e=(q:Int)/\q<=b.length/\(0<i->r≠0))/\b.drop (p+i)=uvE k r++b.drop q
 |k,i,n,m,e,h=>by
  unfold uvG at h;by_cases a:p+i<b.length
  ·rw[cI a] at h;have l:=xD hb a;have hg:b.getD (p+i) 0=b[p+i]:=by simp[List.getD,ab a]
   rw[hg] at h;have hd:b.drop (p+i)=b[p+i]::b.drop (p+i+1):=cC a;generalize b[p+i]=z at l h hd;by_cases c:z<128
   ·rw[aq c,ae] at h;have d:z%128=z:=by omega
    rw[d] at h;cases hc:(decide (0<i)&&z==0)||decide (n+z*128^i>1000000000000) with
    |true=>rw[hc] at h;simp at h
    |false=>rw[hc,aa] at h;rw[bc] at hc;have h1:=of_decide_eq_false hc.2;injection h with f j;injection j with j w;refine⟨z,p+i+1,⟨l.1,f.symm,by omega,j.symm,by omega,λhi h0=> ?_⟩,by rw[hd,bUa (by omega)];rfl⟩;subst h0;simp[hi] at hc
   ·rw[ao c,aa] at h
    match k,h with
    |0,h=>simp[uvG] at h
    |k+1,h=>
     obtain⟨r,q,⟨h1,h2,o,s,t,u⟩,v⟩:=bKl hb k (i+1) _ m e h;have hr:=u (by omega);refine⟨z%128+128*r,q,⟨by omega,?_,o,s,t,λ_=>by omega⟩,?_⟩
     ·rw[h2,fe,Int.add_mul,<-Int.add_assoc];congr 1;rw[je 128 r,Int.mul_assoc,je 128]
     ·rw[hd,show p+i+1=p+(i+1) from by omega,v];have f:uvE (k+1) (z%128+128*r)=z::uvE k r:=by rw[uvE,aq (show z%128+128*r>127 by omega),ae,show(z%128+128*r)%128+128=z by omega,show(z%128+128*r)/128=r by omega]
      rw[f];rfl
  ·rw[dg a] at h;simp at h
def bCj {b:List Int}(hb:aZ b){a m e:Int}(h:Ab b a=(m,e,true)):∃q:Nat,(0<=a/\0<=m/\m<=1000000000000/\e=(q:Int)/\q<=b.length)/\b.drop a.toNat=enc1 m++b.drop q:=by
 unfold Ab at h;by_cases h0:a<0
 ·rw[cI h0] at h;simp at h
 ·rw[dg h0] at h;obtain⟨r,q,⟨h1,h2,c,d,f,_⟩,i⟩:=bKl hb 5 0 0 m e h;have hm:m=r:=by rw[h2];simp
  subst hm;exact⟨q,⟨by omega,h1,c,d,f⟩,by rw[aQ2 ⟨h1,c⟩];exact i⟩
def Uk {b:List Int}(hb:aZ b):∀(k:Nat) (a:Int) (s v:List Int) (e:Int),0<=a->a<=b.length->lL b k a s=(v,e,true)->∃(t:List Int) (q:Nat),(v=s++t/\t.length=k/\e=(q:Int)/\q<=b.length/\aXd t)/\b.drop a.toNat=jL t++b.drop q
 |0,a,s,v,e,h0,h1,h=>by
  unfold lL at h;injection h with i d;injection d with d _;exact⟨[],a.toNat,⟨by simp[i],rfl,by omega,by omega,λv hv=>by simp at hv⟩,rfl⟩
 |k+1,a,s,v,e,h0,h1,h=>by
  unfold lL at h;cases f:Ab b a with
  |mk m r=>
   obtain⟨e',ok⟩:=r;rw[f] at h;cases ok with
   |false=>simp at h
   |true=>
    obtain⟨q,⟨p,j,l,n,u⟩,o⟩:=bCj hb f;subst n;obtain⟨t,q',⟨k1,k2,k3,k4,k5⟩,k6⟩:=Uk hb k (q:Int) (s++[m]) v e (by omega) (by omega) h;refine⟨m::t,q',⟨by rw[k1];simp,by simp[k2],k3,k4,λx c=> ?_⟩,by rw[o,vV,cm];congr 1⟩;rcases bg.1 c with rfl|c
    ·exact⟨j,l⟩
    ·exact k5 x c
def aSu {b:List Int}:∀(j k:Nat) (a:Int) (s:List Int),lL b (j+k) a s=bif (lL b j a s).2.2 then lL b k (lL b j a s).2.1 (lL b j a s).1 else([],0,false)
 |0,k,a,s=>by rw[ck];rfl
 |j+1,k,a,s=>by
  have e:∀m,lL b (m+1) a s=bif (Ab b a).2.2 then lL b m (Ab b a).2.1 (s++[(Ab b a).1]) else([],0,false):=λ_=>rfl;rw[show j+1+k=j+k+1 by omega,e,e];cases(Ab b a).2.2 with
  |false=>rfl
  |true=>exact aSu j k _ _
def aSv {b:List Int}:∀(k:Nat) (a:Int) (s:List Int),lL b k a s=bif (lL b k a []).2.2 then(s++(lL b k a []).1,(lL b k a []).2.1,true) else([],0,false)
 |0,a,s=>by simp[lL]
 |k+1,a,s=>by
  unfold lL;cases(Ab b a).2.2 with
  |false=>rfl
  |true=>simp only[ae,bz];rw[aSv k _ (s++[(Ab b a).1]),aSv k _ [(Ab b a).1]];cases(lL b k (Ab b a).2.1 []).2.2<;>simp
def aXe (e:AH):List Int:=[e.Site,e.Handle,e.Version,bif e.Deleted then 1 else 0]
def nR:List Int->List AH
 |s::h::v::d::r=>⟨s,h,v,d==1⟩::nR r
 |_=>[]
def nG:List Int->Bool
 |_::_::_::d::r=>decide (d<=1)&&nG r
 |_=>true
def kU (l:List AH):List Int:=l.flatMap aXe
theorem vW:∀l:List AH,(kU l).length=4*l.length
 |[]=>rfl
 |e::l=>by
  have:=vW l;simp only[kU,List.flatMap_cons,ay,au] at*;rw[this];simp[aXe];omega
def aD9:∀(k:Nat) (l:List Int),l.length=4*k->(nR l).length=k
 |0,[],_=>rfl
 |k+1,s::h::v::d::r,hl=>by
  have:=aD9 k r (by simp at hl;omega);simp[nR,this]
def bAg:∀(k:Nat) (l:List Int),l.length=4*k->aXd l->aXd (kU (nR l))/\(nG l=true↔kU (nR l)=l)
 |0,[],_,_=>⟨λv h=>by simp[kU,nR] at h,by simp[nG,kU,nR]⟩
 |k+1,s::h::v::d::r,hl,ho=>by
  obtain⟨h1,h2⟩:=bAg k r (by simp at hl;omega) (λx a=>ho x (by simp[a]));have hs:=ho s (by simp);have b:=ho h (by simp);have hv:=ho v (by simp);have hd:=ho d (by simp);have e:kU (nR (s::h::v::d::r))=s::h::v::(bif d==1 then 1 else 0)::kU (nR r):=by simp[nR,kU,aXe]
  rw[e];refine⟨λx a=> ?_,?_⟩
  ·simp only[bg] at a;rcases a with rfl|rfl|rfl|rfl|a
   ·exact hs
   ·exact b
   ·exact hv
   ·cases(d==1)<;>simp
   ·exact h1 x a
  ·simp only[nG,ac,ca,fR,true_and,h2];refine and_congr_left' ?_;by_cases h1:d=1
   ·subst h1;simp
   ·rw[show(d==1)=false by simpa using h1,aa];omega
def bE4:∀(k:Nat) (l r:List Int),l.length=4*k->nR (l++r)=nR l++nR r
 |0,[],r,_=>rfl
 |k+1,s::h::v::d::l,r,hl=>by
  have:=bE4 k l r (by simp at hl;omega);simp[nR,this]
def sJ (b:AC):List Int:=[(b.Entries.length:Int)]++kU b.Entries
def oL (b:AC):List Int:=bif aM b then jL (sJ b) else[]
def bE5 (d:List Int)(v:List Int×Int×Bool):AC×Bool:=bif !v.2.2||(v.2.1 !=(d.length:Int)||(!nG v.1|| !aM ⟨nR v.1⟩)) then(⟨[]⟩,false) else(⟨nR v.1⟩,true)
def Ew (d:List Int):AC×Bool:=bif !(Ab d 0).2.2||decide ((Ab d 0).1>20) then(⟨[]⟩,false) else bE5 d (lL d (4*(Ab d 0).1).toNat (Ab d 0).2.1 [])
def iO (key:Int)(s:AJ):AC×Bool:=bif !(bG key&&(bK s.Epoch 0 1000000&&bK s.Version 0 1000000))||s.MAC !=jK key s then(⟨[]⟩,false) else Ew (Ub (mI key s.Epoch s.Version) s.Data)
def bQq {d:List Int}(hd:aZ d){n e e':Int}{v:List Int}(h:Ab d 0=(n,e,true))(hn:n<=20)(j:lL d (4*n).toNat e []=(v,e',true)):(jL (sJ ⟨nR v⟩)=d↔(e'=(d.length:Int)/\nG v=true))/\v.length=4*n.toNat/\aXd v/\(nR v).length=n.toNat:=by
 obtain⟨q,⟨_,k,m,o,w⟩,p⟩:=bCj hd h;subst o;obtain⟨t,q',⟨k1,k2,k3,k4,k5⟩,k6⟩:=Uk hd _ _ _ _ _ (by omega) (by omega) j;rw[bz] at k1;subst k1;have hl:v.length=4*n.toNat:=by omega
 obtain⟨r,i⟩:=bAg n.toNat v hl k5;have a:=aD9 n.toNat v hl;refine⟨?_,hl,k5,a⟩;have b:d=jL (n::v)++d.drop q':=by have h0:d.drop (Int.toNat 0)=d:=rfl;rw[vV,cm,<-k6];exact h0▸p
 have hv:sJ ⟨nR v⟩=n::kU (nR v):=by show((nR v).length:Int)::_=_;rw[a];congr 1;omega
 rw[hv];constructor
 ·intro hq;have c:jL (n::kU (nR v))++[]=jL (n::v)++d.drop q':=by rw[df,hq];exact b
  have f:∀l,aXd l->aXd (n::l):=λl hl x c=>by
   rcases bg.1 c with rfl|c
   ·exact⟨k,m⟩
   ·exact hl x c
  obtain⟨s,u⟩:=bE3 _ _ _ _ (f _ r) (f _ k5) (by simp[vW,a,hl]) c;have:=congrArg List.length u;simp only[bp,ct] at this;exact⟨by omega,i.2 (List.cons.inj s).2⟩
 ·rintro⟨h1,h2⟩;rw[i.1 h2];have:d.drop q'=[]:=gf (by omega);rw[this,df] at b;exact b.symm
def bAh (l:List Int):(EV.bLz l).data.toList=l.map λn=>UInt8.ofNat n.toNat:=by
 unfold EV.bLz;have:∀(l:List Int) (r:ByteArray),(l.foldl (λr n=>r.push (UInt8.ofNat n.toNat)) r).data.toList=r.data.toList++l.map λn=>UInt8.ofNat n.toNat:=by
  intro l;induction l with
  |nil=>intro r;simp
  |cons x l a=>intro r;rw[db,a];simp
 rw[this];rfl
def bytes_inj:∀{a b:List Int},(∀z∈a,0<=z/\z<=255)->(∀z∈b,0<=z/\z<=255)->(a.map λn=>UInt8.ofNat n.toNat)=(b.map λn=>UInt8.ofNat n.toNat)->a=b
 |[],[],_,_,_=>rfl
 |[],y::b,_,_,h=>by simp at h
 |x::a,[],_,_,h=>by simp at h
 |x::a,y::b,d,hb,h=>by
  simp only[bm,fR] at h;have f:=d x (by simp);have i:=hb y (by simp);have e:=congrArg UInt8.toNat h.1;rw[UInt8.toNat_ofNat',UInt8.toNat_ofNat'] at e;rw[bytes_inj (λz c=>d z (by simp[c])) (λz c=>hb z (by simp[c])) h.2,show x=y by omega]
def Ul {b:List Int}(h:aZ b):∀z∈b,0<=z/\z<=255:=λz a=>by simpa using cE.1 h.2 z a
def aSw {b:List Int}(h:b.length<=34359738368)(h1:∀z∈b,0<=z/\z<=255):aZ b:=⟨h,cE.2 λz a=>by simpa using h1 z a⟩
def bAi:∀(k:Nat) (n:Int),0<=n->n<128^(k+1)->∀z∈uvE k n,0<=z/\z<=255
 |0,n,h0,h1,z,a=>by simp[uvE] at a;subst a;simp at h1;omega
 |k+1,n,h0,h1,z,a=>by
  have h2:(128:Int)^(k+1+1)=128*128^(k+1):=by rw[fe];omega
  unfold uvE at a;by_cases hn:n>127
  ·rw[aq hn,ae] at a;rcases bg.1 a with rfl|a
   ·omega
   ·exact bAi k (n/128) (by omega) (by omega) z a
  ·rw[ao hn,aa] at a;simp at a;subst a;omega
def bHx (n:Int):∀z∈enc1 n,0<=z/\z<=255:=λz a=>by
 unfold enc1 at a;cases hr:bK n 0 1000000000000 with
 |false=>rw[hr] at a;simp at a
 |true=>
  rw[hr] at a;have:=gU hr;have b:(128:Int)^(5+1)=4398046511104:=by decide
  exact bAi 5 n this.1 (by omega) z a
def Y5 (l:List Int):∀z∈jL l,0<=z/\z<=255:=λz a=>by
 unfold jL at a;obtain⟨x,b,a⟩:=jl.1 a;obtain⟨n,_,rfl⟩:=cn.1 b;exact bHx n z a
def pM {b:AC}(h:aM b=true):b.Entries.length<=20:=by simp only[aM,ac,ca] at h;omega
def aEa (b:AC):aZ (oL b):=by
 unfold oL;cases hb:aM b with
 |false=>exact⟨by simp,rfl⟩
 |true=>
  have:=pM hb;have h1:=aD8 (sJ b);have h2:(sJ b).length=1+4*b.Entries.length:=by simp[sJ,vW];omega
  exact aSw (by rw[ae];omega) (Y5 _)
def bQr (d:List Int):(Ew d).1.sz<=20:=by
 have h0:(AC.mk []).sz<=20:=by simp[AC.sz]
 unfold Ew;cases !(Ab d 0).2.2||decide ((Ab d 0).1>20) with
 |true=>exact h0
 |false=>
  rw[aa];generalize lL d (4*(Ab d 0).1).toNat (Ab d 0).2.1 []=v;unfold bE5;cases hb:aM ⟨nR v.1⟩ with
  |false=>simp only[dc,jg,ae];exact h0
  |true=>
   have:=pM hb;cases !v.2.2||(v.2.1 !=(d.length:Int)||(!nG v.1|| !true)) with
   |true=>exact h0
   |false=>simp only[aa,AC.sz] at*;omega
theorem bAj (k:Int)(s:AJ):(iO k s).1.sz<=20:=by
 unfold iO;cases !(bG k&&(bK s.Epoch 0 1000000&&bK s.Version 0 1000000))||s.MAC !=jK k s with
 |true=>simp[AC.sz]
 |false=>exact bQr _
def bAk {a b:AC}(h:(iN a b).2=true):(iN a b).1.sz<=20:=by
 unfold iN at*;cases hc:aM a&&aM b with
 |false=>rw[hc] at h;cases h
 |true=>
  rw[hc] at h;cases hm:aM ⟨bM a.Entries b.Entries⟩ with
  |false=>rw[hm] at h;cases h
  |true=>have:=pM hm;simp only[ae,AC.sz];omega
def kH (d:AF)(log:List AD)(bx:AM)(s:AJ):Int:=
 bif !aT log|| !cZ log d.Log then 1 else bif !jG (aC log) (aS d.Store) then 2 else bif bx.Epoch !=aF log|| !(bS d.Store bx).2 then 3
 else bif decide (s.Epoch<aF log)||(decide (s.Epoch<d.Epoch)||(s.Epoch==d.Epoch&&decide (s.Version<d.Version))) then 4
 else bif !(iO (bS d.Store bx).1 s).2|| !(iN d.aAE (iO (bS d.Store bx).1 s).1).2 then 5 else 0
def bT (d:AF)(log:List AD)(bx:AM)(s:AJ):AF×Int:=
 bif kH d log bx s==0 then(⟨d.Store,log,(bS d.Store bx).1,s.Epoch,s.Version,(iN d.aAE (iO (bS d.Store bx).1 s).1).1⟩,0) else(d,kH d log bx s)
def aR (w:AA)(d b:Int):AA×Int:=bif aP w&&aN w d then({w with Devices:=w.Devices.set d.toNat (bT (aL w d) w.aAD.Log w.aAD.Boxes (fP w.aAD b).1).1},(bT (aL w d) w.aAD.Log w.aAD.Boxes (fP w.aAD b).1).2) else(w,1)
def bX (w:AA)(d:Int):Bool:=w.Stolen.getD d.toNat false
def aSx (d:AF)(l:List AD)(bx:AM)(s:AJ):(bT d l bx s).1.sz<=d.sz+l.length+20:=by
 unfold bT;cases hc:kH d l bx s==0 with
 |false=>simp only[aa];omega
 |true=>
  have hm:(iN d.aAE (iO (bS d.Store bx).1 s).1).2=true:=by
   cases hm:(iN d.aAE (iO (bS d.Store bx).1 s).1).2 with
   |true=>rfl
   |false=>
    unfold kH at hc;rw[hm] at hc
    revert hc
    cases !aT l|| !cZ l d.Log<;>cases !jG (aC l) (aS d.Store)<;>cases bx.Epoch !=aF l|| !(bS d.Store bx).2<;>cases decide (s.Epoch<aF l)||(decide (s.Epoch<d.Epoch)||(s.Epoch==d.Epoch&&decide (s.Version<d.Version)))<;>cases !(iO (bS d.Store bx).1 s).2<;>simp
  have:=bAk hm;simp only[ae,AF.sz,AC.sz] at*;omega
def bHy (k:Int)(i:Nat)(z:Int):Int:=IntKind.u8.wrap ((z+bH k [(i:Int)])%256)
def nS (k:Int)(b:List Int):List Int:=Ri (λi z=>[bHy k i z]) 0 b
def gD (k e v:Int)(b:AC):AJ:=⟨e,v,nS (mI k e v) (oL b),jK k ⟨e,v,nS (mI k e v) (oL b),0⟩⟩
def qW (k e v:Int)(b:AC):AJ×Bool:=bif bG k&&(bK e 0 1000000&&bK v 0 1000000)&&aM b then(gD k e v b,true) else(⟨0,0,[],0⟩,false)
def dQ (d:AF):AF×AJ×Bool:=bif (qW d.Key d.Epoch (IntKind.i64.wrap (d.Version+1)) d.aAE).2 then({d with Version:=IntKind.i64.wrap (d.Version+1)},(qW d.Key d.Epoch (IntKind.i64.wrap (d.Version+1)) d.aAE).1,true) else(d,⟨0,0,[],0⟩,false)
def qP (a b:AJ):Bool:=decide (a.Epoch>b.Epoch)||(a.Epoch==b.Epoch&&decide (a.Version>b.Version))
def dJ (c:AO)(s:AJ):AO×Bool:=bif s.Epoch !=aF c.Log||((decide ((c.History.length:Int)>0)&& !qP s (c.History.getD (c.History.length-1) default))||decide ((c.History.length:Int)>=60)) then(c,false) else({c with History:=c.History++[s]},true)
def upF (w:AA)(d:Int):AA×Bool:=bif (dQ (aL w d)).2.2&&(dJ w.aAD (dQ (aL w d)).2.1).2 then({w with Devices:=w.Devices.set d.toNat (dQ (aL w d)).1,aAD:=(dJ w.aAD (dQ (aL w d)).2.1).1},true) else(w,false)
def jS (w:AA)(d:Int):AA×Bool:=bif (aR w d 0).2==0&&(upF (aR w d 0).1 d).2 then((upF (aR w d 0).1 d).1,true) else(w,false)
def aQ3:List Int->AA->AA×Bool
 |[],w=>(w,true)
 |i::l,w=>bif (jS w i).2 then aQ3 l (jS w i).1 else(w,false)
def bCk:List Int->AA->AA×Bool
 |[],w=>(w,true)
 |i::l,w=>bif (aR w i 0).2==0 then bCk l (aR w i 0).1 else(w,false)
def bUc (w:AA):AA×Bool:=bif aP w&&((aQ3 (Bg w) w).2&&(bCk (Bg w) (aQ3 (Bg w) w).1).2) then((bCk (Bg w) (aQ3 (Bg w) w).1).1,true) else(w,false)
theorem bAl (b:AC):(oL b).length<=500:=by
 unfold oL;cases hb:aM b with
 |false=>simp
 |true=>
  have:=pM hb;have h1:=aD8 (sJ b);have h2:(sJ b).length=1+4*b.Entries.length:=by simp[sJ,vW];omega
  rw[ae];omega
theorem Um (k:Int)(b:List Int):(nS k b).length=b.length:=by unfold nS;exact tN
def bM5 (k e v:Int)(b:AC):(qW k e v b).1.Data.length<=500:=by
 unfold qW;cases bG k&&(bK e 0 1000000&&bK v 0 1000000)&&aM b with
 |false=>simp
 |true=>simp only[ae,gD,Um];exact bAl b
theorem Aq (d:AF):(dQ d).1.sz=d.sz/\(dQ d).2.1.Data.length<=500:=by
 unfold dQ;have:=bM5 d.Key d.Epoch (IntKind.i64.wrap (d.Version+1)) d.aAE;cases(qW d.Key d.Epoch (IntKind.i64.wrap (d.Version+1)) d.aAE).2 with
 |false=>exact⟨rfl,by simp⟩
 |true=>exact⟨rfl,this⟩
theorem vX (c:AO)(s:AJ):(dJ c s).1.sz<=c.sz+1+s.Data.length/\(dJ c s).1.Log=c.Log:=by
 unfold dJ;cases s.Epoch !=aF c.Log||((decide ((c.History.length:Int)>0)&& !qP s (c.History.getD (c.History.length-1) default))||decide ((c.History.length:Int)>=60)) with
 |true=>exact⟨by simp only[ae];omega,rfl⟩
 |false=>refine⟨?_,rfl⟩;simp only[aa,AO.sz,ay,cN,gR,au,bp,bm,eI,cV,gC,AJ.sz];omega
def vY {α:Type}{f:α->Nat}:∀{l:List α} {i:Nat} {x:α} (hi:i<l.length),((l.set i x).map f).sum+f l[i]=(l.map f).sum+f x
 |y::l,0,x,_=>by simp only[ir,bm,cV,gE];omega
 |y::l,i+1,x,h=>by
  have:=vY (f:=f) (l:=l) (i:=i) (x:=x) (by simpa using h);simp only[fW,bm,cV,fa];omega
theorem tZ {w:AA}{d b:Int}(h:((aR w d b).2==0)=true):(aP w=true/\aN w d=true)/\(aR w d b).1.aAD=w.aAD/\(aR w d b).1.Devices.length=w.Devices.length/\(aR w d b).1.sz<=w.sz+w.aAD.Log.length+20:=by
 unfold aR at*;cases hc:(aP w&&aN w d) with
 |false=>rw[hc] at h;cases h
 |true=>
  rw[hc] at h;simp only[ae] at h ⊢;rw[ac] at hc;refine⟨hc,by first|rfl|trivial,by first|exact ax|simp,?_⟩;have hd:=hc.2;simp only[aN,ac,ca] at hd;have hi:d.toNat<w.Devices.length:=by omega
  have a:(bT (aL w d) w.aAD.Log w.aAD.Boxes (fP w.aAD b).1).1.sz<=w.aAD.Log.length+20:=by
   unfold bT at*;cases hs:kH (aL w d) w.aAD.Log w.aAD.Boxes (fP w.aAD b).1==0 with
   |false=>rw[hs] at h;simp only[aa] at h;rw[hs] at h;cases h
   |true=>
    have hm:(iN (aL w d).aAE (iO (bS (aL w d).Store w.aAD.Boxes).1 (fP w.aAD b).1).1).2=true:=by
     cases hm:(iN (aL w d).aAE (iO (bS (aL w d).Store w.aAD.Boxes).1 (fP w.aAD b).1).1).2 with
     |true=>rfl
     |false=>
      unfold kH at hs;rw[hm] at hs
      revert hs
      generalize(aL w d)=x;generalize(fP w.aAD b).1=s;cases !aT w.aAD.Log|| !cZ w.aAD.Log x.Log<;>cases !jG (aC w.aAD.Log) (aS x.Store)<;>cases w.aAD.Boxes.Epoch !=aF w.aAD.Log|| !(bS x.Store w.aAD.Boxes).2<;>cases decide (s.Epoch<aF w.aAD.Log)||(decide (s.Epoch<x.Epoch)||(s.Epoch==x.Epoch&&decide (s.Version<x.Version)))<;>cases !(iO (bS x.Store w.aAD.Boxes).1 s).2<;>simp
    have:=bAk hm;simp only[ae,AF.sz,AC.sz] at*;omega
  have h1:=vY (f:=AF.sz) (l:=w.Devices) (i:=d.toNat) (x:=(bT (aL w d) w.aAD.Log w.aAD.Boxes (fP w.aAD b).1).1) hi;generalize(bT (aL w d) w.aAD.Log w.aAD.Boxes (fP w.aAD b).1).1=x at*;simp only[AA.sz,ax] at*;omega
theorem bVy {w:AA}{d:Int}(hd:aN w d=true):(upF w d).1.aAD.Log=w.aAD.Log/\(upF w d).1.Devices.length=w.Devices.length/\(upF w d).1.sz<=w.sz+501:=by
 unfold upF;cases(dQ (aL w d)).2.2&&(dJ w.aAD (dQ (aL w d)).2.1).2 with
 |false=>exact⟨rfl,rfl,by simp only[aa];omega⟩
 |true=>
  have a:=vX w.aAD (dQ (aL w d)).2.1;have b:=Aq (aL w d);simp only[aN,ac,ca] at hd;have hi:d.toNat<w.Devices.length:=by omega
  have h1:=vY (f:=AF.sz) (l:=w.Devices) (i:=d.toNat) (x:=(dQ (aL w d)).1) hi;have e:w.Devices[d.toNat]=aL w d:=by simp[aL,List.getD,ab hi]
  rw[e] at h1;refine⟨a.2,ax,?_⟩;generalize(dJ w.aAD (dQ (aL w d)).2.1).1=c at*;generalize dQ (aL w d)=x at*;simp only[ae,AA.sz,AO.sz,ax] at*;omega
theorem aQ4 {w:AA}{d:Int}(h:(jS w d).2=true):(jS w d).1.aAD.Log=w.aAD.Log/\(jS w d).1.sz<=w.sz+w.aAD.Log.length+521:=by
 unfold jS at*;cases hc:((aR w d 0).2==0&&(upF (aR w d 0).1 d).2) with
 |false=>rw[hc] at h;cases h
 |true=>
  rw[ac] at hc;obtain⟨⟨k1,k2⟩,k3,k4,k5⟩:=tZ hc.1;have hd:aN (aR w d 0).1 d=true:=by simp only[aN] at*;rw[k4];exact k2
  obtain⟨a,b,c⟩:=bVy hd;simp only[ae];exact⟨by rw[a,k3],by omega⟩
theorem bQs {k z:Int}(i:Nat)(h:0<=z/\z<=255):IntKind.u8.wrap ((IntKind.i64.wrap (IntKind.i64.wrap z+bH k [(i:Int)])).tmod 256)=bHy k i z:=by have:=nE k [(i:Int)];rw[aI (n:=z) (by omega) (by omega),aI (by omega) (by omega),ce (by omega)];rfl
theorem bQt {k z:Int}(i:Nat)(h:0<=z/\z<=255):IntKind.u8.wrap ((IntKind.i64.wrap (IntKind.i64.wrap z+(bH k [(i:Int)]).tmod 256)).tmod 256)=bHy k i z:=by have:=nE k [(i:Int)];rw[aI (n:=z) (by omega) (by omega),show(bH k [(i:Int)]).tmod 256=bH k [(i:Int)]%256 from ce this.1,aI (by omega) (by omega),ce (by omega),bHy];congr 1;omega
def aO (seed n:Int):AK:=⟨1,n,aW seed [277,n],0⟩
def bE (s:AK):AF:=⟨s,[],0,0,0,⟨[]⟩⟩
def cB (s:AK)(n:ByteArray)(h:Int):Int:=aW s.Seed [179,bB n,h]
def dY (s:AK)(n:ByteArray)(h:Int):Int:=dP (cB s n h)
def lQ (s:AK)(l:List Int):Int:=sF (jH s) l
def bE6 (log:List AD)(kind dev:Int)(s:AK):AD:=⟨(log.length:Int),kind,dev,aS s,iW log,0⟩
def Jp (log:List AD)(kind dev:Int)(s:AK):AD:={bE6 log kind dev s with Signature:=lQ s [dF (bE6 log kind dev s)]}
def dZ (log:List AD)(kind dev:Int)(s:AK):List AD×Bool:=bif (decide ((log.length:Int)>0)&& !aT log)|| !aT (log++[Jp log kind dev s]) then(log,false) else(log++[Jp log kind dev s],true)
def nT (p e:Int)(d:List Int):AN:=⟨p,e,nS (iL (gY p) e) d,Uc (iL (gY p) e) ⟨p,e,nS (iL (gY p) e) d,0⟩⟩
def gQ (p e:Int)(d:List Int):AN×Bool:=bif gY p==0||(!bG e||decide ((d.length:Int)>200)) then(⟨0,0,[],0⟩,false) else(nT p e d,true)
def gH (e:Int)(d:List Int):Nat->List Int->List AN×Bool
 |_,[]=>([],true)
 |i,p::l=>bif (gQ p (IntKind.i64.wrap (e+(i:Int))) d).2&&(gH e d (i+1) l).2 then((gQ p (IntKind.i64.wrap (e+(i:Int))) d).1::(gH e d (i+1) l).1,true) else([],false)
def bF (log:List AD)(key eph:Int):AM×Bool:=bif !aT log||(!bG key|| !(gH eph (jL [aF log,key]) 0 (aC log)).2) then(⟨0,[]⟩,false) else(⟨aF log,(gH eph (jL [aF log,key]) 0 (aC log)).1⟩,true)
def nH (e:AM)(d:Int):Int:=e.Boxes.foldl (λn b=>bif b.To==d then IntKind.i64.wrap (n+1) else n) 0
def iY (e:AM)(log:List AD):Bool:=(e.Epoch==aF log&&(e.Boxes.length:Int)==((aC log).length:Int))&&(aC log).all λd=>nH e d==1
def lW (c:AO)(log:List AD)(e:AM):AO×Bool:=bif !aT log||(!cZ log c.Log|| !iY e log) then(c,false) else({c with Log:=log,Boxes:=e},true)
def o9 (h:Int)(l:List AU):Nat:=(l.takeWhile λc=>decide (c.Handle<h)).length
def aEb (l:List AU)(h p:Int):List AU:=l.take (o9 h l)++[⟨h,p,0,false⟩]++l.drop (o9 h l)
def fJ (a:AI)(h p:Int):AI×Bool:=bif !bA a|| !bA {a with Credentials:=aEb a.Credentials h p} then(a,false) else({a with Credentials:=aEb a.Credentials h p},true)
def eF (s:AB)(id h p:Int):AB×Bool:=bif !bW s||decide (aD s id<0) then(s,false) else bif (fJ (s.Accounts.getD (aD s id).toNat default) h p).2 then({s with Accounts:=s.Accounts.set (aD s id).toNat (fJ (s.Accounts.getD (aD s id).toNat default) h p).1},true) else(s,false)
def xG (l:List AZ):Nat:=bif l.any (λn=>n.Seen) then(l.takeWhile λn=> !n.Seen).length else 0
def Pt (l:List AZ):List AZ:=bif decide ((l.length:Int)>30) then l.take (xG l)++l.drop (xG l+1) else l
def Ex (m:AV)(k a t:Int):AV×Bool:=bif !jZ m|| !jZ ⟨Pt (m.Notices++[⟨k,a,t,false⟩])⟩ then(m,false) else(⟨Pt (m.Notices++[⟨k,a,t,false⟩])⟩,true)
def jW (w:AA)(by_ kind pub:Int)(key:List AD->Int):AA×Bool:=
 let l:=dZ w.aAD.Log kind pub (aL w by_).Store;let e:=bF l.1 (key l.1) (IntKind.i64.wrap (1000+IntKind.i64.wrap (10*(l.1.length:Int))));let c:=lW w.aAD l.1 e.1
 bif l.2&&(e.2&&c.2) then({w with aAD:=c.1},true) else(w,false)
theorem vZ (log:List AD)(k d:Int)(s:AK):(dZ log k d s).1.length<=log.length+1:=by unfold dZ;cases(decide ((log.length:Int)>0)&& !aT log)|| !aT (log++[Jp log k d s])<;>simp
def bHz (p e:Int)(d:List Int):(gQ p e d).1.sz<=d.length:=by
 unfold gQ;cases gY p==0||(!bG e||decide ((d.length:Int)>200)) with
 |true=>simp[AN.sz]
 |false=>simp only[aa,nT,AN.sz,Um];exact aj _
def bE7 {e:Int}{d:List Int}:∀{i:Nat} {l:List Int},(gH e d i l).1.length<=l.length/\((gH e d i l).1.map AN.sz).sum<=l.length*d.length
 |i,[]=>by simp[gH]
 |i,p::l=>by
  have h1:=bE7 (e:=e) (d:=d) (i:=i+1) (l:=l);have h2:=bHz p (IntKind.i64.wrap (e+(i:Int))) d;unfold gH;cases(gQ p (IntKind.i64.wrap (e+(i:Int))) d).2&&(gH e d (i+1) l).2 with
  |false=>simp
  |true=>simp only[ae,au,bm,cV,dm];omega
theorem bE8 (a b:Int):(jL [a,b]).length<=12:=aD8 [a,b]
def Zo (log:List AD)(k e:Int):(bF log k e).1.sz<=13*log.length:=by
 unfold bF;have h1:=bE7 (e:=e) (d:=jL [aF log,k]) (i:=0) (l:=aC log);have h2:=gG log;have a:=bE8 (aF log) k;have b:=fv (aC log).length a;cases !aT log||(!bG k|| !(gH e (jL [aF log,k]) 0 (aC log)).2) with
 |true=>simp[AM.sz]
 |false=>simp only[aa,AM.sz];omega
def bQu (c:AO)(l:List AD)(e:AM):(lW c l e).1.sz<=c.sz+l.length+e.sz/\(lW c l e).1.History=c.History:=by
 unfold lW;cases !aT l||(!cZ l c.Log|| !iY e l) with
 |true=>exact⟨by simp only[ae];omega,rfl⟩
 |false=>exact⟨by simp only[aa,AO.sz,AM.sz];omega,rfl⟩
theorem bE9 (l:List AU)(h p:Int):(aEb l h p).length=l.length+1:=by simp only[aEb,ay,cg,ct,cz];omega
def bH0 (a:AI)(h p:Int):(fJ a h p).1.sz<=a.sz+1:=by
 unfold fJ;cases !bA a|| !bA {a with Credentials:=aEb a.Credentials h p} with
 |true=>simp only[ae];omega
 |false=>simp only[aa,AI.sz,bE9];exact aj _
theorem bAm (l:List AZ):(Pt l).length<=l.length:=by
 unfold Pt;cases decide ((l.length:Int)>30) with
 |false=>exact aj _
 |true=>simp only[ae,ay,cg,ct];omega
def bUd (m:AV)(k a t:Int):(Ex m k a t).1.sz<=m.sz+1:=by
 unfold Ex;have:=bAm (m.Notices++[⟨k,a,t,false⟩]);simp only[ay,cz] at this;cases !jZ m|| !jZ ⟨Pt (m.Notices++[⟨k,a,t,false⟩])⟩ with
 |true=>simp only[ae];omega
 |false=>simp only[aa,AV.sz];omega
def pO {α:Type}{p:α->Bool}{i:Nat}{l:List α}(h:decide (kN p i l<0)=false):(i:Int)<=kN p i l/\kN p i l<i+l.length:=by
 induction l generalizing i with
 |nil=>simp[kN] at h
 |cons x l a=>
  unfold kN at h ⊢;cases hp:p x with
  |true=>simp only[ae,au];omega
  |false=>rw[hp] at h;have:=a (i:=i+1) h;simp only[aa,au];omega
def bAn (s:AB)(id h p:Int):(eF s id h p).1.sz<=s.sz+1:=by
 unfold eF;cases hc: !bW s||decide (aD s id<0) with
 |true=>simp only[ae];omega
 |false=>
  rw[bc] at hc;have hr:=pO hc.2;simp only[aa];cases(fJ (s.Accounts.getD (aD s id).toNat default) h p).2 with
  |false=>simp only[aa];omega
  |true=>
   have hi:(aD s id).toNat<s.Accounts.length:=by unfold aD;omega
   have h1:=vY (f:=AI.sz) (l:=s.Accounts) (i:=(aD s id).toNat) (x:=(fJ (s.Accounts.getD (aD s id).toNat default) h p).1) hi;have h2:=bH0 (s.Accounts.getD (aD s id).toNat default) h p;have e:s.Accounts.getD (aD s id).toNat default=s.Accounts[(aD s id).toNat]:=by simp[List.getD,ab hi]
   rw[e] at h1 h2 ⊢;simp only[ae,AB.sz,ax];omega
def appW (w:AA)(x:AF):AA:={w with Devices:=w.Devices++[x],Stolen:=w.Stolen++[false]}
def aEc (w:AA)(b k p:Int)(key:List AD->Int):(jW w b k p key).1.sz<=w.sz+14*(w.aAD.Log.length+1)/\(jW w b k p key).1.aAD.Log.length<=w.aAD.Log.length+1/\(jW w b k p key).1.Devices=w.Devices/\(jW w b k p key).1.Sites=w.Sites:=by
 unfold jW;dsimp only;have h1:=vZ w.aAD.Log k p (aL w b).Store;generalize(dZ w.aAD.Log k p (aL w b).Store)=l at*;have h2:=Zo l.1 (key l.1) (IntKind.i64.wrap (1000+IntKind.i64.wrap (10*(l.1.length:Int))));have d:=(bQu w.aAD l.1 (bF l.1 (key l.1) (IntKind.i64.wrap (1000+IntKind.i64.wrap (10*(l.1.length:Int))))).1).1;have a:(lW w.aAD l.1 (bF l.1 (key l.1) (IntKind.i64.wrap (1000+IntKind.i64.wrap (10*(l.1.length:Int))))).1).1.Log.length<=w.aAD.Log.length+1:=by
  unfold lW;cases !aT l.1||(!cZ l.1 w.aAD.Log|| !iY (bF l.1 (key l.1) (IntKind.i64.wrap (1000+IntKind.i64.wrap (10*(l.1.length:Int))))).1 l.1) with
  |true=>simp only[ae];omega
  |false=>simp only[aa];exact h1
 generalize bF l.1 (key l.1) (IntKind.i64.wrap (1000+IntKind.i64.wrap (10*(l.1.length:Int))))=e at*;generalize lW w.aAD l.1 e.1=c at*;cases l.2&&(e.2&&c.2) with
 |false=>exact⟨by show w.sz<=_;omega,by show w.aAD.Log.length<=_;omega,rfl,rfl⟩
 |true=>exact⟨by show(AA.sz {w with aAD:=c.1})<=_;simp only[AA.sz,AO.sz] at*;omega,a,rfl,rfl⟩
def mX (d:AF)(h:Int)(rm:Bool):AF:=(dI (dI d (aA 0) h rm).1 (aA 1) h rm).1
def gK (st:AK)(n:Int):Nat->List AB->List AB×Bool
 |_,[]=>([],true)
 |j,s::l=>bif (eF s 1 n (dY st (aA (j:Int)) n)).2&&(gK st n (j+1) l).2 then((eF s 1 n (dY st (aA (j:Int)) n)).1::(gK st n (j+1) l).1,true) else([],false)
def qX (w:AA)(k:Int):AA:={w with Mail:=(Ex w.Mail k 1 w.Now).1}
def add1 (w:AA)(b:Int):AA×Bool:=jW (aR w b 0).1 b 1 (aS (aO w.Seed (w.Devices.length:Int))) λ_=>(aL (aR w b 0).1 b).Key
def Y6 (w:AA)(b:Int):List AB×Bool:=gK (aO w.Seed (w.Devices.length:Int)) (w.Devices.length:Int) 0 (add1 w b).1.Sites
def qY (w:AA)(b:Int):AA×Bool:=jS {(add1 w b).1 with Sites:=(Y6 w b).1,Devices:=(add1 w b).1.Devices.set b.toNat (mX (aL (add1 w b).1 b) (w.Devices.length:Int) false)} b
def Ef (w:AA)(b:Int):AA×Int:=aR (appW (qY w b).1 (bE (aO w.Seed (w.Devices.length:Int)))) (w.Devices.length:Int) 0
def Bi (w:AA)(b:Int):Bool:=(aP w&&(aN w b&&(!bX w b&& !decide ((w.Devices.length:Int)>=6))))&&((aR w b 0).2==0&&((add1 w b).2&&((Y6 w b).2&&((qY w b).2&&(Ef w b).2==0))))
def fG (w:AA)(b:Int):AA×Bool:=bif Bi w b then(qX (Ef w b).1 2,true) else(w,false)
theorem aQ5 (d:AF)(h:Int)(rm:Bool):(mX d h rm).sz<=d.sz+2:=by have h1:=Jo (dI d (aA 0) h rm).1 (aA 1) h rm;have h2:=Jo d (aA 0) h rm;unfold mX;omega
def aJf {st:AK}{n:Int}:∀{j:Nat} {l:List AB},(gK st n j l).1.length<=l.length/\((gK st n j l).1.map AB.sz).sum<=(l.map AB.sz).sum+l.length
 |j,[]=>by simp[gK]
 |j,s::l=>by
  have h1:=aJf (st:=st) (n:=n) (j:=j+1) (l:=l);have h2:=bAn s 1 n (dY st (aA (j:Int)) n);unfold gK;cases(eF s 1 n (dY st (aA (j:Int)) n)).2&&(gK st n (j+1) l).2 with
  |false=>simp
  |true=>simp only[ae,au,bm,cV];omega
def bM6 {w:AA}{b:Int}(h0:((aR w b 0).2==0)=true):(aN (add1 w b).1 b=true/\(add1 w b).1.Devices.length=w.Devices.length)/\(add1 w b).1.sz<=16*w.sz+34/\(add1 w b).1.aAD.Log.length<=w.sz+1:=by
 obtain⟨⟨k1,k2⟩,k3,k4,k5⟩:=tZ h0;have e:w.aAD.Log.length<=w.sz:=by simp only[AA.sz,AO.sz];omega
 obtain⟨c,d,a,f⟩:=aEc (aR w b 0).1 b 1 (aS (aO w.Seed (w.Devices.length:Int))) (λ_=>(aL (aR w b 0).1 b).Key);rw[k3] at c d;refine⟨⟨?_,by show(jW _ _ _ _ _).1.Devices.length=_;rw[a,k4]⟩,by unfold add1;omega,by unfold add1;omega⟩;simp only[aN] at*;unfold add1;rw[a,k4];exact k2
def aAU (w:AA)(b:Int):AA:={(add1 w b).1 with Sites:=(Y6 w b).1,Devices:=(add1 w b).1.Devices.set b.toNat (mX (aL (add1 w b).1 b) (w.Devices.length:Int) false)}
def bFa {w:AA}{b:Int}(h0:((aR w b 0).2==0)=true):(aN (aAU w b) b=true/\(aAU w b).Devices.length=w.Devices.length)/\(aAU w b).sz<=32*w.sz+80/\(aAU w b).aAD.Log.length<=w.sz+1:=by
 obtain⟨⟨h1,h2⟩,d,a⟩:=bM6 h0;have h:=aJf (st:=aO w.Seed (w.Devices.length:Int)) (n:=(w.Devices.length:Int)) (j:=0) (l:=(add1 w b).1.Sites);have k:=aQ5 (aL (add1 w b).1 b) (w.Devices.length:Int) false;have hd:=h1;simp only[aN,ac,ca] at hd;have hi:b.toNat<(add1 w b).1.Devices.length:=by omega
 have c:=vY (f:=AF.sz) (l:=(add1 w b).1.Devices) (i:=b.toNat) (x:=mX (aL (add1 w b).1 b) (w.Devices.length:Int) false) hi;have e:(add1 w b).1.Devices[b.toNat]=aL (add1 w b).1 b:=by simp[aL,List.getD,ab hi]
 rw[e] at c;refine⟨⟨?_,by simp only[aAU,ax];exact h2⟩,?_,a⟩
 ·simp only[aN,aAU,ax] at*;exact h1
 ·simp only[aAU,Y6];generalize(add1 w b).1=x at*;simp only[AA.sz,ax] at*;omega
theorem bKm (w:AA)(x:AF):(appW w x).sz=w.sz+x.sz+2:=by simp only[appW,AA.sz,ay,cz,cN,bm,eI,gR,cV,gC];omega
theorem aQ6 (w:AA)(k:Int):(qX w k).sz<=w.sz+1:=by have:=bUd w.Mail k 1 w.Now;simp only[qX,AA.sz,AV.sz] at*;omega
def bKn {w:AA}{b:Int}(h0:((aR w b 0).2==0)=true)(h:(qY w b).2=true):(qY w b).1.sz<=33*w.sz+602/\(qY w b).1.aAD.Log.length<=w.sz+1:=by obtain⟨_,h1,h2⟩:=bFa h0;obtain⟨a,c⟩:=aQ4 (w:=aAU w b) (d:=b) h;exact⟨by show(jS (aAU w b) b).1.sz<=_;omega,by show(jS (aAU w b) b).1.aAD.Log.length<=_;rw[a];exact h2⟩
def bAo {α:Type}{p:α->Bool}:∀{l:List α} {i:Nat} (hi:i<l.length),i<(l.takeWhile p).length->p l[i]=true
 |x::l,0,_,h=>by
  simp only[dl] at h;cases hp:p x with
  |true=>exact hp
  |false=>rw[hp] at h;simp at h
 |x::l,i+1,hi,h=>by
  simp only[dl] at h;cases hp:p x with
  |true=>
   have a:i<(l.takeWhile p).length:=by simpa[hp] using h
   exact bAo (l:=l) (i:=i) (by simpa using hi) a
  |false=>rw[hp] at h;simp at h
def bAp {α:Type}{p:α->Bool}:∀{l:List α} (h:(l.takeWhile p).length<l.length),p (l[(l.takeWhile p).length]'h)=false
 |x::l,h=>by
  cases hp:p x with
  |true=>
   have a:(l.takeWhile p).length<l.length:=by simpa[dl,hp] using h
   simpa[dl,hp] using bAp a
  |false=>simp[dl,hp]
def Uo {α:Type}{p:α->Bool}{l:List α}:(l.takeWhile p).length<=l.length:=(List.takeWhile_prefix p).length_le
def aJg {α τ S:Type}{l:List α}(p:α->Bool)(fin:Nat->Option τ)(e:Nat->S){F:(S->Option τ)->S->Option τ}(hl:l.length<=34359738368)
  (a:∀rec i (hi:i<l.length),F rec (e i)=bif p l[i] then rec (e (i+1)) else fin i) (b:∀rec,F rec (e l.length)=fin l.length):EV.bZ FUEL F (e 0)=fin (l.takeWhile p).length:=by
 have go:∀(k i n:Nat),i+k=(l.takeWhile p).length->k<n->EV.bZ n F (e i)=fin (l.takeWhile p).length:=by
  intro k;induction k with
  |zero=>
   intro i n hi hn;obtain⟨n,rfl⟩:∃m,n=m+1:=⟨n-1,by omega⟩;have:i=(l.takeWhile p).length:=by omega
   subst this;rw[jR];by_cases h:(l.takeWhile p).length<l.length
   ·rw[a _ _ h,bAp h,aa]
   ·have h2:(l.takeWhile p).length=l.length:=by have:=Uo (p:=p) (l:=l);omega
    rw[h2,b]
  |succ k c=>
   intro i n hi hn;obtain⟨n,rfl⟩:∃m,n=m+1:=⟨n-1,by omega⟩;have h1:i<l.length:=by have:=Uo (p:=p) (l:=l);omega
   rw[jR,a _ _ h1,bAo (p:=p) h1 (by omega),ae];exact c (i+1) n (by omega) (by omega)
 have:=Uo (p:=p) (l:=l);exact go (l.takeWhile p).length 0 FUEL (by omega) (by have:=iK;omega)
def aJh {e:Int}{d:List Int}{l:List Int}{τ:Type}{x:τ}{F:(List AN×Nat->Option (τ⊕List AN))->List AN×Nat->Option (τ⊕List AN)}
  (a:∀rec i s (hi:i<l.length),s.length<=i->F rec (s,i)=bif !(gQ l[i] (IntKind.i64.wrap (e+(i:Int))) d).2 then some (.inl x) else rec (s++[(gQ l[i] (IntKind.i64.wrap (e+(i:Int))) d).1],i+1)) (b:∀rec s,F rec (s,l.length)=some (.inr s)):
  ∀(k i n:Nat) (s:List AN),i+k=l.length->k<n->s.length<=i->EV.bZ n F (s,i)=some (bif (gH e d i (l.drop i)).2 then .inr (s++(gH e d i (l.drop i)).1) else .inl x)
 |0,i,n+1,s,h,_,_=>by
  have:i=l.length:=by omega
  subst this;rw[jR,b,dr];simp[gH]
 |k+1,i,n+1,s,h,hn,hs=>by
  have hi:i<l.length:=by omega
  rw[jR,a _ i s hi hs,cC hi,gH];cases hb:(gQ l[i] (IntKind.i64.wrap (e+(i:Int))) d).2 with
  |false=>rfl
  |true=>rw[av,aa,aJh a b k (i+1) n _ (by omega) (by omega) (by simp;omega)];cases(gH e d (i+1) (l.drop (i+1))).2<;>simp
def bZ4 (l:List AZ):Nat:=(l.takeWhile λn=> !n.Seen).length
def bQv (l:List AZ):(xG l:Int)=bif l.any (λx=>x.Seen) then(bZ4 l:Int) else 0:=by unfold xG bZ4;cases l.any (λn=>n.Seen)<;>rfl
def bFb {l:List AZ}(h:0<l.length):xG l<l.length:=by
 unfold xG;cases hs:l.any (λn=>n.Seen) with
 |false=>exact h
 |true=>
  obtain⟨x,b,hp⟩:=eN.1 hs;have:∀l:List AZ,x∈l->(l.takeWhile λn=> !n.Seen).length<l.length:=by
   intro l;induction l with
   |nil=>intro h;cases h
   |cons y l c=>
    intro h;cases a:y.Seen with
    |true=>simp[a]
    |false=>
     rcases bg.1 h with rfl|h
     ·rw[hp] at a;cases a
     ·simpa[a] using c h
  exact this l b
def bUe {τ S:Type}{l:List AZ}(fin:Int->Option τ)(st:Nat->S){F:(S->Option τ)->S->Option τ}(hl:l.length<=34359738368)(a:∀rec i (hi:i<l.length),F rec (st i)=bif l[i].Seen then fin (i:Int) else rec (st (i+1)))(b:∀rec,F rec (st l.length)=fin 0):EV.bZ FUEL F (st 0)=fin (xG l:Int):=by
 have e:=aJg (l:=l) (λn=> !n.Seen) (λi=>bif decide (i<l.length) then fin (i:Int) else fin 0) st (F:=F) hl (λrec i hi=>by
  rw[a rec i hi,aq hi];cases l[i].Seen<;>rfl) (λrec=>by rw[b,ao (by omega)];rfl)
 rw[e,bQv];cases hs:l.any (λn=>n.Seen) with
 |true=>
  have h0:0<l.length:=by cases l with|nil=>simp at hs|cons=>simp
  have:=bFb h0;unfold xG at this;rw[hs,ae] at this;rw[aq this];rfl
 |false=>
  have c:∀l:List AZ,l.any (λn=>n.Seen)=false->(l.takeWhile λn=> !n.Seen).length=l.length:=by
   intro l;induction l with
   |nil=>intro _;rfl
   |cons x l d=>intro h;simp only[List.any_cons,bc] at h;simp[h.1,d h.2]
  have this:=c l hs;rw[this,ao (by omega)];rfl
def bFc {e:Int}{d:List Int}{i:Nat}{l:List Int}(h:(gH e d i l).2=false):gH e d i l=([],false):=by
 cases l with
 |nil=>cases h
 |cons p l=>
  unfold gH at*;cases hc:(gQ p (IntKind.i64.wrap (e+(i:Int))) d).2&&(gH e d (i+1) l).2 with
  |true=>rw[hc] at h;cases h
  |false=>rfl
theorem bH1 {s:AB}{i:Int}(b:s.sz<=34359738300)(h:decide (aD s i<0)=false):bC s.Accounts (aD s i)=some (s.Accounts.getD (aD s i).toNat default)/\(s.Accounts.getD (aD s i).toNat default).sz<=34359738300/\(aD s i).toNat<s.Accounts.length:=by
 have hr:=pO (p:=λa:AI=>a.Id==i) (i:=0) (l:=s.Accounts) h;have hi:(aD s i).toNat<s.Accounts.length:=by unfold aD;omega
 have h1:=wV (f:=AI.sz) hi;refine⟨tV (by unfold aD;omega) (by unfold aD;omega),?_,hi⟩;simp only[AB.sz] at b;omega
def lD (d:AF)(log:List AD)(key:Int):AF×Bool:=bif !aT log||(!cZ log d.Log||(decide (aF log<d.Epoch)|| !bG key)) then(d,false) else({d with Log:=log,Key:=key,Epoch:=aF log,Version:=0},true)
def aU (a:AI)(h:Int):Int:=kN (λc=>c.Handle==h) 0 a.Credentials
def gT (a:AI)(k:Int):AU:=a.Credentials.getD k.toNat default
def nU (a:AI)(h:Int):AI×Bool:=bif !bA a||(decide (aU a h<0)||(gT a (aU a h)).Cut) then(a,false) else({a with Credentials:=a.Credentials.set (aU a h).toNat {gT a (aU a h) with Cut:=true}},true)
def fQ (s:AB)(k:Int):AI:=s.Accounts.getD k.toNat default
def gL (h:Int)(s:AB):AB:=bif decide (aD s 1>=0) then {s with Accounts:=s.Accounts.set (aD s 1).toNat (nU (fQ s (aD s 1)) h).1} else s
def bR (s e:Int):Int:=aW s [233,e]
def mD (s:AK)(l:List AD):Int:=bR (aW s.Seed [311]) (aF l)
def jQ (w:AA)(b:Int):AA:=(aR w b 0).1
def aJi (w:AA)(b t:Int):List AD:=(dZ (jQ w b).aAD.Log 2 (aS (aL w t).Store) (aL (jQ w b) b).Store).1
def mJ (w:AA)(b t:Int):AA×Bool:=jW (jQ w b) b 2 (aS (aL w t).Store) (mD (aL (jQ w b) b).Store)
def Oo (w:AA)(b t:Int):AF×Bool:=lD (aL (jQ w b) b) (aJi w b t) (mD (aL (jQ w b) b).Store (aJi w b t))
def Y7 (w:AA)(b t:Int):AA:={(mJ w b t).1 with Devices:=(mJ w b t).1.Devices.set b.toNat (mX (Oo w b t).1 t true),Sites:=(mJ w b t).1.Sites.map (gL t)}
def Jq (w:AA)(b t:Int):AA×Bool:=upF (Y7 w b t) b
def oM (w:AA)(b t:Int):AA×Bool:=bif (mJ w b t).2&&((Oo w b t).2&&(Jq w b t).2) then(qX (Jq w b t).1 4,true) else(w,false)
def eX (w:AA)(b t:Int):AA×Bool:=bif (aR w b 0).2==0&&(!bX w b&&(!(b==t)&&bN w t)) then oM w b t else(w,false)
theorem aSy (d:AF)(l:List AD)(k:Int):(lD d l k).1.sz<=d.sz+l.length:=by
 unfold lD;cases !aT l||(!cZ l d.Log||(decide (aF l<d.Epoch)|| !bG k)) with
 |true=>simp only[ae];omega
 |false=>simp only[aa,AF.sz];omega
def bH2 (a:AI)(h:Int):(nU a h).1.sz=a.sz:=by
 unfold nU;cases !bA a||(decide (aU a h<0)||(gT a (aU a h)).Cut) with
 |true=>rfl
 |false=>simp only[aa,AI.sz,ax]
def bH3 (h:Int)(s:AB):(gL h s).sz=s.sz:=by
 unfold gL;cases hc:decide (aD s 1>=0) with
 |false=>rfl
 |true=>
  have h0:decide (aD s 1<0)=false:=by rw[decide_eq_true_iff] at hc;exact ao (by omega)
  have hr:=pO h0;have hi:(aD s 1).toNat<s.Accounts.length:=by unfold aD;omega
  have h1:=vY (f:=AI.sz) (l:=s.Accounts) (i:=(aD s 1).toNat) (x:=(nU (fQ s (aD s 1)) h).1) hi;have h2:=bH2 (fQ s (aD s 1)) h;have e:fQ s (aD s 1)=s.Accounts[(aD s 1).toNat]:=by simp[fQ,List.getD,ab hi]
  rw[e] at h1 h2 ⊢;simp only[ae,AB.sz,ax];omega
theorem bFd (h:Int)(l:List AB):((l.map (gL h)).map AB.sz).sum=(l.map AB.sz).sum:=by
 induction l with
 |nil=>rfl
 |cons s l a=>simp only[bm,cV,bH3,a]
def bM7 {w:AA}{b t:Int}(h0:((aR w b 0).2==0)=true):(aN (jQ w b) b=true/\(jQ w b).Devices.length=w.Devices.length/\(jQ w b).aAD=w.aAD/\(jQ w b).sz<=2*w.sz+20)/\(aJi w b t).length<=w.sz+1/\(aN (mJ w b t).1 b=true/\(mJ w b t).1.Devices=(jQ w b).Devices)/\(mJ w b t).1.sz<=16*w.sz+34/\(mJ w b t).1.Sites=(jQ w b).Sites:=by
 obtain⟨⟨k1,k2⟩,k3,k4,k5⟩:=tZ h0;have i:w.aAD.Log.length<=w.sz:=by simp only[AA.sz,AO.sz];omega
 have hl:=vZ (jQ w b).aAD.Log 2 (aS (aL w t).Store) (aL (jQ w b) b).Store;obtain⟨e,j,c,f⟩:=aEc (jQ w b) b 2 (aS (aL w t).Store) (mD (aL (jQ w b) b).Store);have a:aN (aR w b 0).1 b=true:=by simp only[aN] at*;rw[k4];exact k2
 have hd:aN (jQ w b) b=true:=a;have d:(jQ w b).aAD=w.aAD:=k3;rw[d] at e hl;have k6:(jQ w b).sz<=w.sz+w.aAD.Log.length+20:=k5;refine⟨⟨hd,k4,k3,by omega⟩,by unfold aJi;rw[d];omega,⟨?_,c⟩,by unfold mJ;omega,f⟩;have h:aN (jW (jQ w b) b 2 (aS (aL w t).Store) (mD (aL (jQ w b) b).Store)).1 b=true:=by simp only[aN] at*;rw[c];exact hd
 exact h
--needs aAM aAK aAN
def eY (b:AP)(id:Int):Int:=bH b.Seed [197,id]
def aEd (b:AP)(acc now:Int):A4:=⟨b.Next,acc,IntKind.i64.wrap (now+5)⟩
def fI (b:AP)(acc now:Int):AP×A4×Bool:=bif eU b&&(!(b.Next==1000000)&&(bK acc 0 1000000&&bK now 0 1000000)) then(⟨b.Seed,IntKind.i64.wrap (b.Next+1),(bif decide ((b.Open.length:Int)>=16) then b.Open.drop 1 else b.Open)++[aEd b acc now]⟩,aEd b acc now,true) else(b,⟨0,0,0⟩,false)
def dS (b:AP)(id:Int):Int:=kN (λc=>c.Id==id) 0 b.Open
def aJj (b:AP)(k:Int):A4:=b.Open.getD k.toNat default
def pQ (b:AP)(id acc now:Int):AP×Bool:=bif !eU b||decide (dS b id<0) then(b,false) else(⟨b.Seed,b.Next,b.Open.take (dS b id).toNat++b.Open.drop ((dS b id).toNat+1)⟩,(aJj b (dS b id)).aAH==acc&&decide (now<=(aJj b (dS b id)).Until))
def mK (s:AB)(id now:Int):AB×Int×Int×Bool:=bif bW s&&(!decide (aD s id<0)&&(fI s.Book id now).2.2) then({s with Book:=(fI s.Book id now).1},(fI s.Book id now).2.1.Id,eY (fI s.Book id now).1 (fI s.Book id now).2.1.Id,true) else(s,0,0,false)
def lS (s:AK):Bool:=bK s.Vendor 1 9&&(bK s.Serial 0 1000000&&(bG s.Seed&&bK s.Counter 0 1000000))
def bQw (s:AK):AK:={s with Counter:=IntKind.i64.wrap (s.Counter+1)}
def jI (s:AK)(site:ByteArray)(h:Int)(m:List Int):AK×Int×Bool:=bif lS s&& !(s.Counter==1000000) then(bQw s,sF (cB s site h) (m++[(bQw s).Counter]),true) else(s,0,false)
def bP (a:AY):List Int:=[199,bB a.Site,pI 211 a.aAK,a.aAN,a.Handle,bif a.Present then 1 else 0]
def aEe (j:Int):AQ:=⟨true,⟨#[119,119,119,46]⟩++aA j,443⟩
def aJk (j:Int):AQ:=⟨true,⟨#[108,111,103,105,110,46]⟩++aA j++⟨#[46,101,118,105,108,46,110,101,116]⟩,443⟩
def bVz (j:Int):AQ:=⟨true,aA j,443⟩
def uR (k:Nat):AQ:=match k with|0=>aEe 0|1=>aEe 1|2=>bVz 0|3=>bVz 1|4=>aJk 0|_=>aJk 1
def yE (k:Nat):ByteArray:=⟨#[104,116,116,112,115,58,47,47]⟩++(uR k).Host
def bZ5:List UInt8->List UInt8->Bool
 |[],b=>b==[]
 |x::a,b=>b==x::a||bZ5 a b
def mE (o:AQ)(z:ByteArray):Bool:=bZ5 (46::o.Host.data.toList) (46::z.data.toList)
def Pv (o:AQ)(s:ByteArray):Prop:=(∃k:Nat,k<6/\o=uR k)/\∃j:Int,(j=0\/j=1)/\s=aA j
noncomputable instance (o:AQ) (s:ByteArray):Decidable (Pv o s):=Classical.propDecidable _
def nV (o:AQ):Prop:=∃k:Nat,k<6/\o=uR k
def nV.p {o:AQ}(h:nV o){j:Int}(a:j=0\/j=1):Pv o (aA j):=⟨h,j,a,rfl⟩
def bQx {j:Int}(a:j=0\/j=1):nV (aEe j):=by
 rcases a with rfl|rfl
 ·exact⟨0,by decide,rfl⟩
 ·exact⟨1,by decide,rfl⟩
noncomputable instance (o:AQ):Decidable (nV o):=Classical.propDecidable _
def uA (o:AQ):ByteArray:=⟨#[104,116,116,112,115,58,47,47]⟩++o.Host
def bM8 (s:ByteArray):Prop:=s=⟨#[]⟩\/∃k:Nat,k<4/\s=yE k
noncomputable instance (s:ByteArray):Decidable (bM8 s):=Classical.propDecidable _
def Ar (s:ByteArray):AQ×Bool:=bif decide (s.size=0) then(⟨false,⟨#[]⟩,0⟩,false) else(⟨true,s.extract 8 s.size,443⟩,true)
def Rl (s:AK)(o:AQ)(site:ByteArray)(h a:Int)(p:Bool):AY:=⟨site,uA o,a,h,p,0,0⟩
def aXf:AY:=⟨⟨#[]⟩,⟨#[]⟩,0,0,false,0,0⟩
def jJ (s:AK)(o:AQ)(site:ByteArray)(h a:Int)(p:Bool):AK×AY×Bool:=bif mE o site&&(jI s site h (bP (Rl s o site h a p))).2.2 then((jI s site h (bP (Rl s o site h a p))).1,{Rl s o site h a p with Counter:=(jI s site h (bP (Rl s o site h a p))).1.Counter,Signature:=(jI s site h (bP (Rl s o site h a p))).2.1},true) else(s,aXf,false)
def AsP (a:AY)(site:ByteArray):Prop:=∃j:Int,(j=0\/j=1)/\site=aA j/\(a=aXf\/(a.Site=site/\∃k:Nat,k<4/\a.aAK=yE k/\mE (uR k) site=true))
noncomputable instance (a:AY) (s:ByteArray):Decidable (AsP a s):=Classical.propDecidable _
def iI (pub:Int)(a:AY)(site:ByteArray)(b cnt:Int):Int:=bif !(a.Site.toList==site.toList) then 1 else bif !a.Present then 2 else bif !(a.aAN==b) then 3 else bif !iT pub (bP a++[a.Counter]) a.Signature then 5 else bif decide (a.Counter<=cnt) then 4 else 0
def iP (a:AI)(x:AY)(site:ByteArray)(b:Int):AI×Int:=bif !bA a||(decide (aU a x.Handle<0)||(gT a (aU a x.Handle)).Cut) then(a,5) else({a with Credentials:=bif iI (gT a (aU a x.Handle)).Public x site b (gT a (aU a x.Handle)).Counter==0 then a.Credentials.set (aU a x.Handle).toNat {gT a (aU a x.Handle) with Counter:=x.Counter} else bif iI (gT a (aU a x.Handle)).Public x site b (gT a (aU a x.Handle)).Counter==4 then a.Credentials.set (aU a x.Handle).toNat {gT a (aU a x.Handle) with Cut:=true} else a.Credentials},iI (gT a (aU a x.Handle)).Public x site b (gT a (aU a x.Handle)).Counter)
def qH (a:AI)(m:Int):Bool:=bA a&&(decide (a.Minimum<=m)&&(decide (m<=3)&&(!(m==3)||a.Credentials.any λc=> !c.Cut)))
def lT (s:AB)(id b now:Int)(a:AY):AB×Int×Int:=bif !bW s||decide (aD s id<0) then(s,1,0) else bif !(pQ s.Book b id now).2 then({s with Book:=(pQ s.Book b id now).1},2,0) else bif !qH (fQ s (aD s id)) 3 then({s with Book:=(pQ s.Book b id now).1},3,0) else bif !((iP (fQ s (aD s id)) a s.Name (eY s.Book b)).2==0) then({s with Book:=(pQ s.Book b id now).1,Accounts:=s.Accounts.set (aD s id).toNat (iP (fQ s (aD s id)) a s.Name (eY s.Book b)).1},4,(iP (fQ s (aD s id)) a s.Name (eY s.Book b)).2) else({s with Book:=(pQ s.Book b id now).1,Accounts:=s.Accounts.set (aD s id).toNat (iP (fQ s (aD s id)) a s.Name (eY s.Book b)).1,Logins:=s.Logins++[id]},0,0)
def eT (w:AA)(j:Int):AB:=w.Sites.getD j.toNat default
def aAY (w:AA)(j:Int):AB×Int×Int×Bool:=mK (eT w j) 1 w.Now
def Jr (w:AA)(d j:Int)(o:AQ):AK×AY×Bool:=jJ (aL w d).Store o (aA j) d (aAY w j).2.2.1 true
def uS (w:AA)(d j:Int)(o:AQ):AB×Int×Int:=lT (aAY w j).1 1 (aAY w j).2.1 w.Now (Jr w d j o).2.1
def aOn (w:AA)(d j:Int)(o:AQ):AA:={w with Devices:=w.Devices.set d.toNat {aL w d with Store:=(Jr w d j o).1},Sites:=w.Sites.set j.toNat (uS w d j o).1}
def dK (w:AA)(d j:Int):Bool:=aP w&&(aN w d&&gP w j)
def iA (w:AA)(d j:Int)(o:AQ):AA×AY×Int:=bif !dK w d j then(w,aXf,1) else bif !(aAY w j).2.2.2 then(w,aXf,1) else bif !((uS w d j o).2.1==0) then(aOn w d j o,(Jr w d j o).2.1,2) else(qX (aOn w d j o) 1,(Jr w d j o).2.1,0)
def oN (w:AA)(d j:Int)(o:AQ):AA×Int:=((iA w d j o).1,(iA w d j o).2.2)
def Zp (w:AA)(d j:Int):AA×Int:=bif dK w d j&& !bX w d then oN w d j (aEe j) else(w,1)
def sK (o:AQ):Bool:=iX o.Host&&bK o.Port 1 65535
def aOo (m:Int):Nat->Int->Int->Int->Int
 |0,_,_,s=>s
 |k+1,b,n,s=>if n>0 then aOo m k ((IntKind.i64.wrap (b*b)).tmod m) (n/2) (bif n%2==1 then(IntKind.i64.wrap (s*b)).tmod m else s) else s
def nW (x:Int):Bool:=bK x 1 2038&&aOo 2039 11 x 1019 1==1
def gM (g n:Int):Int:=bif nW g then aOo 2039 11 g (fD n 1019) 1 else 0
def Ey (l v:Int):Int:=gM 4 (IntKind.i64.wrap (1+((IntKind.i64.wrap (bH l [89,v]*bH l [89,v])).tmod 2147483647).tmod 1018))
def Zq (s l i:Int):Int:=gM (Ey l i) s
def rE (e l:Int):Int:=kC (bH e [157,l])
def P5 (k m:Int):Int:=bif bK k 0 2147483647 then bBl .i64 k (aW m [251]) else 0
def Ae (o s:Int):Int:=bH o [257,s]
def yF (c:Int)(l:List Int)(n:Int):List AS:=bif bK n 1 7&&decide ((l.length:Int)<n) then(List.range n.toNat).map λ(i:Nat)=>⟨(i:Int)+1,Eu c l ((i:Int)+1)⟩ else[]
def Ez (k:A0):AG:=⟨k,[],kQ k⟩
def aQ7 (pin salt key secret limit:Int):Bool:=bK pin 0 9999&&(bK salt 0 1000000&&(bG key&&(!(fD secret 1019==0)&&bK limit 1 10)))
def Oq (pin salt key secret:Int)(cs:List Int)(n limit:Int):A3×List AG×Bool:=
 bif aQ7 pin salt key secret limit&& !((yF secret cs n).length==0) then(⟨salt,IntKind.i64.wrap ((cs.length:Int)+1),Ae (rE (Zq secret salt pin) salt) salt,P5 key (rE (Zq secret salt pin) salt)⟩,(yF secret cs n).map (λs=>Ez ⟨s,0,0,limit⟩),true) else(⟨0,0,0,0⟩,[],false)
def fT (log:List AD)(bx:AM):AO×Bool:=bif aT log&&iY bx log then(⟨log,bx,[]⟩,true) else(⟨[],⟨0,[]⟩,[]⟩,false)
def yR (id:Int)(l:List AI):Nat:=(l.takeWhile λa=>decide (a.Id<id)).length
def qZ (s:AB)(id m:Int):AB:={s with Accounts:=s.Accounts.take (yR id s.Accounts)++[⟨id,m,[]⟩]++s.Accounts.drop (yR id s.Accounts)}
def nX (s:AB)(id m:Int):AB×Bool:=bif bW s&&bW (qZ s id m) then(qZ s id m,true) else(s,false)
def qI (nm:ByteArray):Nat->List AF->AB->AB
 |_,[],s=>s
 |i,d::l,s=>qI nm (i+1) l (eF s 1 (i:Int) (dY d.Store nm (i:Int))).1
def xH (seed:Int)(l:List AF)(j:Int):AB:=qI (aA j) 0 l (nX (gZ (aA j) (aW seed [281,j])) 1 3).1
def xI (l:List AF)(seed:Int):List AB:=[xH seed l 0,xH seed l 1]
def aV (seed:Int):Nat->List AD
 |0=>[]
 |n+1=>(dZ (aV seed n) 1 (aS (aO seed (n:Int))) (aO seed 0)).1
def dL (seed:Int)(n:Nat):List AF:=(List.range n).map λ(i:Nat)=>bE (aO seed (i:Int))
def Js (nm:ByteArray):Nat->AF->AF
 |0,d=>d
 |i+1,d=>(dI (Js nm i d) nm (i:Int) false).1
def iZ (seed:Int)(n:Nat):AM:=(bF (aV seed n) (bR seed 0) 1000).1
def yG (seed:Int)(n:Nat)(d:AF):AF:=(lD d (aV seed n) (bR seed 0)).1
def mF (seed:Int)(n:Nat):AF:=Js (aA 1) n (Js (aA 0) n (yG seed n (bE (aO seed 0))))
def nwW (seed:Int)(n:Nat):AF×AJ×Bool:=dQ (mF seed n)
def jU (seed:Int)(n:Nat):AO:=(dJ (fT (aV seed n) (iZ seed n)).1 (nwW seed n).2.1).1
def Bj (seed:Int)(n:Nat)(d:AF):AF:=(bT (yG seed n d) (aV seed n) (iZ seed n) (nwW seed n).2.1).1
def kL (seed:Int)(n:Nat):List AF:=(nwW seed n).1::((dL seed n).drop 1).map (Bj seed n)
def Y8 (seed t:Int):List Int:=(List.range (t-1).toNat).map λ(k:Nat)=>aW seed [307,(k:Int)+1]
def aEf (seed t pin k:Int):A3×List AG×Bool:=Oq pin 7 (aW seed [283]) (IntKind.i64.wrap (1+(aW seed [293]).tmod 1018)) (Y8 seed t) k 5
def Jt (n k t pin seed:Int):Bool:=bK n 1 3&&(bK k 1 7&&(bK t 1 k&&(bK pin 0 9999&&bG seed)))
def bKp:AA:=⟨0,0,[],[],⟨[],⟨0,[]⟩,[]⟩,[],⟨0,0,0,0⟩,[],0,⟨[]⟩⟩
def bL (n k t pin seed:Int):AA:=bif Jt n k t pin seed then⟨0,seed,kL seed n.toNat,List.replicate n.toNat false,jU seed n.toNat,xI (dL seed n.toNat) seed,(aEf seed t pin k).1,(aEf seed t pin k).2.1,pin,⟨[]⟩⟩ else bKp
theorem aSz {l:List Int}(h:l.Nodup)(e:AD):(jT l e).Nodup:=by
 unfold jT;cases e.Kind==1 with
 |true=>
  simp only[ae];cases hc:l.contains e.Device with
  |true=>exact h
  |false=>
   simp only[aa];rw[ex];refine⟨h,by simp,λa c b hb e'=> ?_⟩
   simp at hb;subst hb;subst e';have:l.contains e.Device=true:=by simpa using c
   rw[hc] at this;cases this
 |false=>
  simp only[aa];cases e.Kind==2 with
  |true=>exact h.filter _
  |false=>exact h
def bH4 (log:List AD):(aC log).Nodup:=by
 have key:∀(l:List AD) (s:List Int),s.Nodup->(l.foldl jT s).Nodup:=by
  intro l;induction l with
  |nil=>exact λ_ h=>h
  |cons e l a=>exact λs h=>a _ (aSz h e)
 exact key log [] gq
def bFe {e:Int}{d:List Int}:∀{i:Nat} {l:List Int},(gH e d i l).2=true->(gH e d i l).1.map (λb=>b.To)=l
 |_,[],_=>rfl
 |i,p::l,h=>by
  simp only[gH] at h ⊢;cases hc:(gQ p (IntKind.i64.wrap (e+(i:Int))) d).2&&(gH e d (i+1) l).2 with
  |false=>rw[hc] at h;cases h
  |true=>
   rw[ac] at hc;simp only[ae,bm,bFe hc.2];have:(gQ p (IntKind.i64.wrap (e+(i:Int))) d).1.To=p:=by
    have h1:=hc.1;unfold gQ at h1 ⊢;cases hq:gY p==0||(!bG (IntKind.i64.wrap (e+(i:Int)))||decide ((d.length:Int)>200)) with
    |true=>rw[hq] at h1;cases h1
    |false=>rfl
   rw[this]
def bAq:∀{l:List AN} {d:Int} {s:Int},(l.map λb=>b.To).Nodup->0<=s->s<1000->l.foldl (λn b=>bif b.To==d then IntKind.i64.wrap (n+1) else n) s=s+(if d∈l.map (λb=>b.To) then 1 else 0)
 |[],d,s,_,_,_=>by simp
 |b::l,d,s,h,h0,h1=>by
  rw[bm,cx] at h;rw[db];cases hc:b.To==d with
  |true=>
   have hd:b.To=d:=by simpa using hc
   have hn:d∉l.map (λb=>b.To):=hd▸h.1;have c:IntKind.i64.wrap (s+1)=s+1:=aI (by omega) (by omega);have key:∀(l:List AN) (s:Int),d∉l.map (λb=>b.To)->l.foldl (λn b=>bif b.To==d then IntKind.i64.wrap (n+1) else n) s=s:=by
    intro l;induction l with
    |nil=>exact λ_ _=>rfl
    |cons x l f=>
     intro s a;simp only[bm,bg,not_or] at a;have:(x.To==d)=false:=by simpa using λe=>a.1 e.symm
     rw[db,this,aa];exact f s a.2
   rw[ae,key l _ hn,c,bm,cI (by simp[hd])]
  |false=>
   have hd:¬b.To=d:=by simpa using hc
   rw[aa,bAq h.2 h0 h1,bm];have:(d∈b.To::l.map λb=>b.To)↔d∈l.map λb=>b.To:=by rw[bg];exact⟨λh=>h.resolve_left λe=>hd e.symm, .inr⟩
   simp only[this]
def aXg {log:List AD}{k e:Int}(h:(bF log k e).2=true):iY (bF log k e).1 log=true:=by
 unfold bF at h ⊢;cases hc: !aT log||(!bG k|| !(gH e (jL [aF log,k]) 0 (aC log)).2) with
 |true=>rw[hc] at h;cases h
 |false=>simp only[bc,cH] at hc;have ht:=bFe hc.2.2;have hl:=congrArg List.length ht;rw[bj] at hl;simp only[aa,iY,nH,ac,cY,cE,hl,and_self,true_and,eJ];intro d hd;rw[bAq (by rw[ht];exact bH4 log) (by omega) (by omega),ht,cI hd];rfl
def bM9 {log:List AD}{k e:Int}(h:(bF log k e).2=false):(bF log k e).1=⟨0,[]⟩:=by
 unfold bF at h ⊢;cases hc: !aT log||(!bG k|| !(gH e (jL [aF log,k]) 0 (aC log)).2) with
 |true=>rfl
 |false=>rw[hc] at h;cases h
def bAr {d:AF}{log:List AD}{bx:AM}{s:AJ}(h:(kH d log bx s==0)=false):(bT d log bx s).1=d:=by unfold bT;rw[h];rfl
def bQy (d:AF)(bx:AM)(s:AJ):(bT d [] bx s).1=d:=bAr rfl
def bYg (s:AK):(bS s ⟨0,[]⟩).2=false:=rfl
def bH5 {log:List AD}{key e:Int}{s:AJ}(hs:s=⟨0,0,[],0⟩\/s.Epoch=aF log)(d:AF):
  (bT d (dJ (fT log (bF log key e).1).1 s).1.Log (dJ (fT log (bF log key e).1).1 s).1.Boxes (fP (dJ (fT log (bF log key e).1).1 s).1 0).1).1=(bT d log (bF log key e).1 s).1:=by
 cases hc:aT log&&iY (bF log key e).1 log with
 |true=>
  have b:(fT log (bF log key e).1).1=⟨log,(bF log key e).1,[]⟩:=by unfold fT;rw[hc];rfl
  rw[b];cases hq:s.Epoch !=aF log with
  |true=>
   have c:s=⟨0,0,[],0⟩:=by
    rcases hs with h|h
    ·exact h
    ·rw[h] at hq;simp at hq
   have a:(dJ ⟨log,(bF log key e).1,[]⟩ s).1=⟨log,(bF log key e).1,[]⟩:=by unfold dJ;rw[show(AO.mk log (bF log key e).1 []).Log=log from rfl,hq];rfl
   rw[a,c];rfl
  |false=>
   have a:(dJ ⟨log,(bF log key e).1,[]⟩ s).1=⟨log,(bF log key e).1,[s]⟩:=by unfold dJ;rw[show(AO.mk log (bF log key e).1 []).Log=log from rfl,hq];rfl
   rw[a];rfl
 |false=>
  have b:(fT log (bF log key e).1).1=⟨[],⟨0,[]⟩,[]⟩:=by unfold fT;rw[hc];rfl
  have a:(dJ (fT log (bF log key e).1).1 s).1.Log=[]:=by rw[(vX _ _).2,b]
  rw[a,bQy];refine(bAr ?_).symm;cases hl:aT log with
  |false=>simp only[kH,hl,dc,jf,ae];rfl
  |true=>
   rw[hl,cq] at hc;have hm:(bF log key e).2=false:=by
    cases hm:(bF log key e).2 with
    |false=>rfl
    |true=>rw[aXg hm] at hc;cases hc
   rw[bM9 hm];simp only[kH,hl,bYg,av,cF,dc,jg,ae];cases !cZ log d.Log with
   |true=>rfl
   |false=>simp only[aa];cases !jG (aC log) (aS d.Store)<;>rfl
theorem aEg (nm:ByteArray):∀(i:Nat) (d:AF),(Js nm i d).sz<=d.sz+i
 |0,d=>aj _
 |i+1,d=>by have h1:=aEg nm i d;have h2:=Jo (Js nm i d) nm (i:Int) false;show(dI (Js nm i d) nm (i:Int) false).1.sz<=_;omega
def rP (seed:Int):∀n:Nat,(aV seed n).length<=n
 |0=>aj _
 |n+1=>by have h1:=rP seed n;have h2:=vZ (aV seed n) 1 (aS (aO seed (n:Int))) (aO seed 0);show(dZ (aV seed n) 1 (aS (aO seed (n:Int))) (aO seed 0)).1.length<=_;omega
def aQ9 (seed:Int)(n:Nat)(d:AF):(yG seed n d).sz<=d.sz+n:=by have h1:=aSy d (aV seed n) (bR seed 0);have h2:=rP seed n;show(lD d (aV seed n) (bR seed 0)).1.sz<=_;omega
def aJl (s:AK):(bE s).sz=0:=rfl
def aS0 (seed:Int)(n:Nat):(mF seed n).sz<=3*n:=by have h1:=aEg (aA 1) n (Js (aA 0) n (yG seed n (bE (aO seed 0))));have h2:=aEg (aA 0) n (yG seed n (bE (aO seed 0)));have a:=aQ9 seed n (bE (aO seed 0));rw[aJl] at a;unfold mF;omega
def aS1 (seed:Int)(n:Nat):(iZ seed n).sz<=13*n:=by have h1:=Zo (aV seed n) (bR seed 0) 1000;have h2:=rP seed n;unfold iZ;omega
def aNt (log:List AD)(bx:AM):(fT log bx).1.sz<=log.length+bx.sz:=by
 unfold fT;cases aT log&&iY bx log with
 |true=>simp only[ae,AO.sz,AM.sz,bp,eI,gC];omega
 |false=>exact cy _
def aS2 (seed:Int)(n:Nat):(jU seed n).sz<=14*n+501:=by have h1:=(vX (fT (aV seed n) (iZ seed n)).1 (nwW seed n).2.1).1;have h2:=aNt (aV seed n) (iZ seed n);have b:=aS1 seed n;have c:=rP seed n;have a:=(Aq (mF seed n)).2;have a:(nwW seed n).2.1.Data.length<=500:=a;unfold jU;omega
def bNa (seed:Int)(n:Nat)(d:AF):(Bj seed n d).sz<=d.sz+2*n+20:=by have h1:=aSx (yG seed n d) (aV seed n) (iZ seed n) (nwW seed n).2.1;have h2:=aQ9 seed n d;have a:=rP seed n;unfold Bj;omega
def bH6 {α:Type}{f:α->Nat}{b:Nat}:∀{l:List α},(∀x∈l,f x<=b)->(l.map f).sum<=l.length*b
 |[],_=>cy _
 |x::l,h=>by
  have h1:=h x (by simp);have h2:=bH6 (l:=l) (f:=f) (b:=b) λy a=>h y (by simp[a]);simp only[bm,cV,au,dm];omega
theorem Y9 (nm:ByteArray):∀(i:Nat) (l:List AF) (s:AB),(qI nm i l s).sz<=s.sz+l.length
 |_,[],s=>aj _
 |i,d::l,s=>by
  have h1:=Y9 nm (i+1) l (eF s 1 (i:Int) (dY d.Store nm (i:Int))).1;have h2:=bAn s 1 (i:Int) (dY d.Store nm (i:Int));show(qI nm (i+1) l (eF s 1 (i:Int) (dY d.Store nm (i:Int))).1).sz<=_;rw[au];omega
def aS3 (s:AB)(id m:Int):(nX s id m).1.sz<=s.sz+1:=by
 unfold nX;cases bW s&&bW (qZ s id m) with
 |false=>simp only[aa];omega
 |true=>
  have e:(s.Accounts.map AI.sz).sum=((s.Accounts.take (yR id s.Accounts)).map AI.sz).sum+((s.Accounts.drop (yR id s.Accounts)).map AI.sz).sum:=by rw[<-gR,<-cN,cJ]
  have el:(s.Accounts.take (yR id s.Accounts)).length+(s.Accounts.drop (yR id s.Accounts)).length=s.Accounts.length:=by rw[<-ay,cJ]
  simp only[ae,qZ,AB.sz,ay,cN,gR,au,bp,bm,eI,cV,gC,AI.sz];omega
def aNu (nm:ByteArray)(s:Int):(gZ nm s).sz<=nm.size:=by
 unfold gZ;cases lC nm s with
 |true=>simp[AB.sz]
 |false=>exact cy _
def aNv (seed:Int)(l:List AF)(j:Int):(xH seed l j).sz<=l.length+101:=by
 have h1:=Y9 (aA j) 0 l (nX (gZ (aA j) (aW seed [281,j])) 1 3).1;have h2:=aS3 (gZ (aA j) (aW seed [281,j])) 1 3;have a:=aNu (aA j) (aW seed [281,j]);have b:(aA j).size<=100:=by unfold aA;cases j==0<;>cases j==1<;>decide
 unfold xH;omega
def bAs (c:Int)(l:List Int)(n:Int):(yF c l n).length<=7:=by
 unfold yF;cases hc:bK n 1 7&&decide ((l.length:Int)<n) with
 |false=>exact cy _
 |true=>rw[ac] at hc;have:=gU hc.1;simp only[ae,bj,ey];omega
def aEh (pin salt key secret:Int)(cs:List Int)(n limit:Int):(Oq pin salt key secret cs n limit).2.1.length<=7/\((Oq pin salt key secret cs n limit).2.1.map AG.sz).sum=0:=by
 unfold Oq;cases aQ7 pin salt key secret limit&& !((yF secret cs n).length==0) with
 |false=>exact⟨cy _,rfl⟩
 |true=>refine⟨by simp only[ae,bj];exact bAs _ _ _,?_⟩;have:=bH6 (f:=AG.sz) (b:=0) (l:=(yF secret cs n).map λs=>Ez ⟨s,0,0,limit⟩) (λx a=>by obtain⟨s,_,rfl⟩:=cn.1 a;exact aj _);simp only[ae];omega
def bFf (n k t pin seed:Int):(bL n k t pin seed).sz<=100000:=by
 unfold bL;cases hc:Jt n k t pin seed with
 |false=>exact cy _
 |true=>
  simp only[Jt,ac] at hc;have hn:=gU hc.1;obtain⟨N,h⟩:∃N,N=n.toNat:=⟨_,rfl⟩;have j:N<=3:=by omega
  have h1:=Aq (mF seed N);have h2:=aS0 seed N;have m:=aS2 seed N;have v:=aNv seed (dL seed N) 0;have w:=aNv seed (dL seed N) 1;have o:=aEh pin 7 (aW seed [283]) (IntKind.i64.wrap (1+(aW seed [293]).tmod 1018)) (Y8 seed t) k 5;have e:(dL seed N).length=N:=by simp[dL]
  have p:=bH6 (f:=AF.sz) (b:=26) (l:=((dL seed N).drop 1).map (Bj seed N)) (λx q=>by
   obtain⟨d,hd,rfl⟩:=cn.1 q;have a:=di hd;simp only[dL,cn] at a;obtain⟨i,_,rfl⟩:=a;have:=bNa seed N (bE (aO seed (i:Int)));rw[aJl] at this;omega)
  have r:(nwW seed N).1.sz=(mF seed N).sz:=h1.1;have s:(aEf seed t pin k).2.1.length<=7/\((aEf seed t pin k).2.1.map AG.sz).sum=0:=o;rw[bj,ct,e] at p;simp only[ae,<-h,AA.sz,kL,xI,au,bj,ct,e,bm,cV,bp,eI,gC,fk,r];have c:(jU seed N).sz<=14*N+501:=m;have u:(N-1)*26<=52:=et 26 (show N-1<=2 by omega);simp only[AO.sz,AM.sz] at c;omega
def bNb (d:AF)(n:ByteArray)(h:Int)(rm:Bool):(dI d n h rm).1.Key=d.Key/\(dI d n h rm).1.Epoch=d.Epoch:=by unfold dI;cases(tX d n h rm).2<;>exact⟨rfl,rfl⟩
def bCl (nm:ByteArray):∀(i:Nat) (d:AF),(Js nm i d).Key=d.Key/\(Js nm i d).Epoch=d.Epoch
 |0,d=>⟨rfl,rfl⟩
 |i+1,d=>by
  obtain⟨h1,h2⟩:=bCl nm i d;obtain⟨a,b⟩:=bNb (Js nm i d) nm (i:Int) false;exact⟨a.trans h1,b.trans h2⟩
def bH7 (seed:Int)(n:Nat):(mF seed n).Key=(yG seed n (bE (aO seed 0))).Key/\(mF seed n).Epoch=(yG seed n (bE (aO seed 0))).Epoch:=by obtain⟨h1,h2⟩:=bCl (aA 1) n (Js (aA 0) n (yG seed n (bE (aO seed 0))));obtain⟨a,b⟩:=bCl (aA 0) n (yG seed n (bE (aO seed 0)));exact⟨h1.trans a,h2.trans b⟩
def bH8 {seed:Int}{n:Nat}(h:bG (yG seed n (bE (aO seed 0))).Key=true):(yG seed n (bE (aO seed 0))).Epoch=aF (aV seed n):=by
 unfold yG lD at h ⊢;cases hq: !aT (aV seed n)||(!cZ (aV seed n) (bE (aO seed 0)).Log||(decide (aF (aV seed n)<(bE (aO seed 0)).Epoch)|| !bG (bR seed 0))) with
 |true=>rw[hq] at h;exact absurd (show bG 0=true from h) (by decide)
 |false=>rfl
def bNc (seed:Int)(n:Nat):(nwW seed n).2.1=⟨0,0,[],0⟩\/(nwW seed n).2.1.Epoch=aF (aV seed n):=by
 obtain⟨k1,k2⟩:=bH7 seed n;unfold nwW dQ;generalize mF seed n=d at k1 k2 ⊢;cases hs:(qW d.Key d.Epoch (IntKind.i64.wrap (d.Version+1)) d.aAE).2 with
 |false=>exact .inl rfl
 |true=>
  refine .inr ?_;simp only[ae];unfold qW at hs ⊢;cases hc:bG d.Key&&(bK d.Epoch 0 1000000&&bK (IntKind.i64.wrap (d.Version+1)) 0 1000000)&&aM d.aAE with
  |false=>rw[hc] at hs;cases hs
  |true=>simp only[ac] at hc;show d.Epoch=_;rw[k2];exact bH8 (k1▸hc.1.1)
def bUf (seed:Int)(n:Nat)(d:AF):(bT (yG seed n d) (jU seed n).Log (jU seed n).Boxes (fP (jU seed n) 0).1).1=Bj seed n d:=bH5 (bNc seed n) (yG seed n d)
def aEi (f:Int->Int)(l:List Int)(j:Nat)(x:Int):Bool:=(l.take j).any λq=>f q==f x
def Zr (s:AS)(e:Int):Int:=bif nW e&&(!(e==1)&&bK s.Value 0 1018) then gM e s.Value else 0
def yS (k:A0)(e:Int):A0×Int×Bool:=bif kK k&&(!(k.Guesses==k.Limit)&&(nW e&& !(e==1))) then({k with Guesses:=IntKind.i64.wrap (k.Guesses+1)},Zr k.aAQ e,true) else(k,0,false)
def bQz (l:List A0):List A0:=bif decide ((l.length:Int)>30) then l.drop 1 else l
def oO (h:AG)(e:Int):AG×Int×Bool:=bif decide (kQ h.State<h.Monotonic)|| !(yS h.State e).2.2 then(h,0,false) else(⟨(yS h.State e).1,bQz (h.Saved++[h.State]),kQ (yS h.State e).1⟩,(yS h.State e).2.1,true)
def iE (l i b:Int):Int:=bif fD b 1019==0 then 0 else gM (Ey l i) b
def aJm (hs:List AG)(a:List Int)(i:Nat)(c:Int):Bool:=(decide (c<0)||decide (c>=(hs.length:Int)))||aEi (λq=>q) a i c
def Af (hs:List AG)(a:List Int):Bool:= !gF (aJm hs a) 0 a
def bCm (e:Int)(s:List AG×List Int×List Int)(c:Int):List AG×List Int×List Int:=
 (s.1.set c.toNat (oO (s.1.getD c.toNat default) e).1,bif (oO (s.1.getD c.toNat default) e).2.2 then s.2.1++[(oO (s.1.getD c.toNat default) e).1.State.aAQ.Index] else s.2.1,bif (oO (s.1.getD c.toNat default) e).2.2 then s.2.2++[(oO (s.1.getD c.toNat default) e).2.1] else s.2.2)
def bCn (hs:List AG)(a:List Int)(e:Int):List AG×List Int×List Int:=a.foldl (bCm e) (hs,[],[])
def aNw (n:Int):Int:=bif fD n 1019==0 then 0 else aOo 1019 11 (fD n 1019) 1017 1
def aS4 (l:List Int)(k a w:Int)(j:Nat):Int:=bif (j:Int)==k then w else(IntKind.i64.wrap ((IntKind.i64.wrap (w*fD (IntKind.i64.wrap (fD a 1019-fD (l.getD j 0) 1019)) 1019)).tmod 1019*aNw (IntKind.i64.wrap (fD (l.getD k.toNat 0) 1019-fD (l.getD j 0) 1019)))).tmod 1019
def Ju (l:List Int)(k a:Int):Int:=bif (decide (k<0)||decide (k>=(l.length:Int)))||gF (aEi (λq=>fD q 1019) l) 0 l then 0 else(List.range l.length).foldl (aS4 l k a) 1
def nI (a b:Int):Int:=bif nW a&&nW b then(IntKind.i64.wrap (a*b)).tmod 2039 else 0
def wW (ix vs:List Int)(i:Nat)(x:Int):Bool:= !bK x 1 7||(!nW (vs.getD i 0)||aEi (λq=>q) ix i x)
def bV0 (ix vs:List Int):Int:=(List.range vs.length).foldl (λo i=>nI o (gM (vs.getD i 0) (Ju ix (i:Int) 0))) 1
def pR (ix vs:List Int):Int×Bool:=bif (!(ix.length==vs.length)||ix.length==0)||gF (wW ix vs) 0 ix then(0,false) else(bV0 ix vs,true)
def bAt (c b:Int):Int:=bif fD b 1019==0 then 0 else gM c (aNw b)
def aJn (v:A3)(o:Int):Int×Bool:=bif Ae o v.Salt==v.Check then(P5 v.Masked o,true) else(0,false)
def iQ (v:A3)(hs:List AG)(a:List Int)(pin b:Int):List AG×List Int×List Int:=bCn hs a (iE v.Salt pin b)
def aS5 (hs:List AG)(a:List Int)(pin b:Int):Bool:=Af hs a&&(!(fD b 1019==0)&&bK pin 0 9999)
def yT (v:A3)(hs:List AG)(a:List Int)(pin b:Int):List AG×Int×Bool:=
 bif !aS5 hs a pin b then(hs,0,false) else
 bif decide ((a.length:Int)<v.Threshold)||(decide ((iQ v hs a pin b).2.2.length<a.length)|| !(pR (iQ v hs a pin b).2.1 (iQ v hs a pin b).2.2).2) then((iQ v hs a pin b).1,0,false) else
  ((iQ v hs a pin b).1,aJn v (rE (bAt (pR (iQ v hs a pin b).2.1 (iQ v hs a pin b).2.2).1 b) v.Salt))
def Fa (v:A3)(hs:List AG)(a:List Int)(pin b:Int)(i:Nat):AG×Int×Bool:=oO (((a.take i).foldl (bCm (iE v.Salt pin b)) (hs,([]:List Int),([]:List Int))).1.getD (a.getD i 0).toNat default) (iE v.Salt pin b)
def rQ (v:A3)(hs:List AG)(a:List Int)(pin b:Int)(n:Nat):List Int:=(List.range n).map λi=>(Fa v hs a pin b i).1.State.aAQ.Index
def rR (v:A3)(hs:List AG)(a:List Int)(pin b:Int)(n:Nat):List Int:=(List.range n).map λi=>(Fa v hs a pin b i).2.1
def bKq (v:A3)(hs:List AG)(a:List Int)(pin b:Int):List Int:=rQ v hs a pin b a.length
def bKr (v:A3)(hs:List AG)(a:List Int)(pin b:Int):List Int:=rR v hs a pin b a.length
def bQ0 (v:A3)(hs:List AG)(a:List Int)(pin b:Int):Bool:=aS5 hs a pin b&&(iQ v hs a pin b).2.2.length==a.length
def bKs (v:A3)(hs:List AG)(a:List Int)(pin b:Int):List AG×Int×Bool×Bool:=((yT v hs a pin b).1,(yT v hs a pin b).2.1,(yT v hs a pin b).2.2,bQ0 v hs a pin b)
def bFg (w:AA):Int:=IntKind.i64.wrap (1+(aW w.Seed [313,w.Now]).tmod 1018)
def fE (w:AA)(a:List Int)(pin:Int):AA×Int×Bool:=bif !aP w then(w,0,false) else
 (qX {w with Hosts:=(yT w.aAL w.Hosts a pin (bFg w)).1} 5,(yT w.aAL w.Hosts a pin (bFg w)).2)
def wB (w:AA):List Int:=(List.range (min w.aAL.Threshold ((w.Hosts.length:Int)+1)).toNat).map λ(i:Nat)=>(i:Int)
def Ah (w:AA)(pin:Int):AA×Bool:=((fE w (wB w) pin).1,(fE w (wB w) pin).2.2)
def bQ1 {f:Int->Int}{l:List Int}{j:Nat}(e:j<l.length)(hl:l.length<=1099511627776){τ:Type}(a b:τ){F:(Nat->Option τ)->Nat->Option τ}
  (c:∀rec i (hi:i<j),F rec i=bif f (l[i]'(by omega))==f l[j] then some a else rec (i+1)) (d:∀rec,F rec j=some b):EV.bZ FUEL F 0=some (bif aEi f l j l[j] then a else b):=by
 have hlen:(l.take j).length=j:=by rw[cg];omega
 exact kZ (l:=l.take j) (λq=>f q==f l[j]) a b (by omega) (λrec i hi=>by
  rw[hlen] at hi;rw[c rec i hi];simp) (λrec=>by rw[hlen];exact d rec)
def bKt (h:AG)(e:Int):(oO h e).1.sz<=h.sz+1:=by
 unfold oO;cases decide (kQ h.State<h.Monotonic)|| !(yS h.State e).2.2 with
 |true=>exact ee _
 |false=>simp only[aa,AG.sz];unfold bQz;cases decide (((h.Saved++[h.State]).length:Int)>30)<;>simp only[ae,aa,ct,ay,au,bp]<;>omega
def rA (e:Int)(hs:List AG)(a:List Int)(i:Nat):List AG×List Int×List Int:=(a.take i).foldl (bCm e) (hs,[],[])
def Ot {e:Int}{hs:List AG}{a:List Int}{i:Nat}(hi:i<a.length):rA e hs a (i+1)=bCm e (rA e hs a i) a[i]:=by unfold rA;rw[dT,ab hi,fm];rfl
def bYh {hs:List AG}{h:AG}(hm:h∈hs):h.sz<=Tj AG.sz hs:=by have:=aJe (g:=AG.sz) hm;unfold Tj;omega
structure AskIn (B:Nat) (hs:List AG) (i:Nat) (s:List AG×List Int×List Int):Prop where
 len:s.1.length=hs.length
 sz:∀h∈s.1,h.sz<=B+i
 eq:s.2.1.length=s.2.2.length
 le:s.2.2.length<=i
def aJo {hs:List AG}{a:List Int}(h:Af hs a=true){i:Nat}(hi:i<a.length):0<=a[i]/\a[i]<(hs.length:Int):=by
 unfold Af at h;rw[bu,gh,Ne,tT] at h;have h2:aJm hs a i a[i]≠true:=λe=>h ⟨i,hi,by rw[ck];exact e⟩
 have h2:=gh.2 h2;unfold aJm at h2;exact Uj (bc.1 h2).1
def Z0 {e:Int}{hs:List AG}{a:List Int}(h:Af hs a=true):∀i,i<=a.length->AskIn (Tj AG.sz hs) hs i (rA e hs a i)
 |0,_=>⟨rfl,λh hm=>by have:h∈hs:=hm;have:=bYh this;omega,rfl,aj _⟩
 |i+1,hi=>by
  obtain⟨h1,h2,c,d⟩:=Z0 (e:=e) h i (by omega);have hc:=aJo h (i:=i) hi;rw[Ot hi];generalize rA e hs a i=s at*;have hk:a[i].toNat<s.1.length:=by omega
  have hg:s.1.getD a[i].toNat default=s.1[a[i].toNat]:=by simp[List.getD,ab hk]
  have f:=h2 _ (cj hk);have j:=bKt s.1[a[i].toNat] e;unfold bCm;rw[hg];refine⟨by simp[h1],λx b=> ?_,?_,?_⟩
  ·rcases en b with b|rfl
   ·have:=h2 x b;omega
   ·omega
  ·cases(oO s.1[a[i].toNat] e).2.2<;>simp[c]
  ·cases(oO s.1[a[i].toNat] e).2.2<;>simp<;>omega
def aS6 (w:AA):(wB w).length<=w.Hosts.length+1:=by unfold wB;rw[bj,ey];omega
def bFh {α:Type}[Inhabited α]{f:α->Nat}{x:α}:∀{l:List α} {i:Nat},i<l.length->f x<=f (l.getD i default)+1->((l.set i x).map f).sum<=(l.map f).sum+1
 |y::l,0,_,h=>by
  simp only[List.getD,fY,ci] at h;simp only[ir,bm,cV];omega
 |y::l,i+1,hi,h=>by
  have:=bFh (f:=f) (l:=l) (i:=i) (x:=x) (by simpa using hi) (by simpa[List.getD] using h);simp only[fW,bm,cV];omega
def bKu {e:Int}{hs:List AG}{a:List Int}(h:Af hs a=true):∀i,i<=a.length->((rA e hs a i).1.map AG.sz).sum<=(hs.map AG.sz).sum+i
 |0,_=>aj _
 |i+1,hi=>by
  have c:=bKu (e:=e) h i (by omega);have b:=Z0 (e:=e) h i (by omega);have hc:=aJo h (i:=i) hi;rw[Ot hi];generalize rA e hs a i=s at*;have hk:a[i].toNat<s.1.length:=by have:=b.len;omega
  have:=bFh (f:=AG.sz) hk (bKt (s.1.getD a[i].toNat default) e);unfold bCm;simp only;omega
def bKv (v:A3)(hs:List AG)(a:List Int)(pin b:Int):(yT v hs a pin b).1.length=hs.length/\((yT v hs a pin b).1.map AG.sz).sum<=(hs.map AG.sz).sum+a.length:=by
 unfold yT;cases hm:aS5 hs a pin b with
 |false=>exact⟨rfl,cQ _ _⟩
 |true=>
  have hc:Af hs a=true:=by unfold aS5 at hm;rw[ac] at hm;exact hm.1
  have hs1:=bKu (e:=iE v.Salt pin b) hc a.length (aj _);have c:=(Z0 (e:=iE v.Salt pin b) hc a.length (aj _)).len;unfold rA at hs1 c;rw[de] at hs1 c;simp only[av,aa];cases decide ((a.length:Int)<v.Threshold)||(decide ((iQ v hs a pin b).2.2.length<a.length)|| !(pR (iQ v hs a pin b).2.1 (iQ v hs a pin b).2.2).2)<;>exact⟨c,hs1⟩
def bUg (w:AA)(a:List Int)(pin:Int):(fE w a pin).1.sz<=w.sz+a.length+1:=by
 unfold fE;cases aP w with
 |false=>simp only[dc,ae];omega
 |true=>obtain⟨q1,q2⟩:=bKv w.aAL w.Hosts a pin (bFg w);have:=aQ6 {w with Hosts:=(yT w.aAL w.Hosts a pin (bFg w)).1} 5;simp only[av,aa];simp only[AA.sz] at this ⊢;omega
--needs aAM aAK aAN
def nJ (w:AA)(d:Int):AA×Bool:=bif dK w d 0&& !bX w d then({w with Stolen:=w.Stolen.set d.toNat true},true) else(w,false)
def nK (b:AP)(now:Int):AP:=bif eU b then {b with Open:=b.Open.filter λc=>decide (c.Until>=now)} else b
def rC (w:AA):AA:={w with Now:=IntKind.i64.wrap (w.Now+1)}
def sM (w:AA):AA×Bool:=bif aP (rC w) then({rC w with Sites:=w.Sites.map λs=>{s with Book:=nK s.Book (rC w).Now}},true) else(w,false)
def aJp (w:AA)(d j:Int):AA×Int:=bif dK w d j&&bX w d then oN w d j (aEe j) else(w,1)
def Z4 (w:AA)(d j:Int):AA×Int:=bif dK w d j&& !bX w d then oN w d j (aJk j) else(w,1)
def aJq:ByteArray:=⟨#[97,46,110,101,116]⟩
def yH (w:AA)(k d o v:Int)(f:Bool):AA×Bool:=
 bif !aP w then(w,false) else
 bif k==1 then sM w else
 bif k==2 then((Zp w d o).1,(Zp w d o).2==0) else
 bif k==3 then((Z4 w d o).1,(Z4 w d o).2==0) else
 bif k==4 then nJ w d else
 bif k==5 then((aJp w d o).1,(aJp w d o).2==0) else
 bif k==6 then fG w d else
 bif k==7 then eX w d o else
 bif k==8 then sI w d aJq v f else
 bif k==9 then jS w d else
 bif k==10 then((aR w d v).1,(aR w d v).2==0) else
 bif k==11 then Ah w v else
 bif k==12 then dX w else
 bif k==13 then fO w o v else(w,false)
def bCo (l:List Int):Prop:=okL (λn:Int=>0<=n/\n<=255) l
noncomputable instance (l:List Int):Decidable (bCo l):=Classical.propDecidable _
def bQ2 (l:List Int):Bool:=decide ((l.length:Int)>1048576)
def bZ6 (b:AM):Prop:=∀x∈b.Boxes,aZ x.Data
def bYi (c:AO):Prop:=bZ6 c.Boxes/\∀s∈c.History,aZ s.Data
instance (b:AM):Decidable (bZ6 b):=inferInstanceAs (Decidable (∀x∈b.Boxes,aZ x.Data))
instance (c:AO):Decidable (bYi c):=inferInstanceAs (Decidable (_/\_))
--needs aAR
def dO (c:AR):Prop:=0<=c.i/\c.b.length<=1048576
instance (c:AR):Decidable (dO c):=by unfold dO;infer_instance
def bUh (h:Int):Int:=IntKind.i64.wrap (IntKind.i64.wrap (h*6364136223846793005)+1442695040888963407)
def bV1 (h:Int):Int:=qN IntKind.i64 (bBl IntKind.i64 (Ik IntKind.i64 h 33) (Ik IntKind.i64 h 47)) 255
def lX (c:AR):AR×Int:=bif decide (c.i<(c.b.length:Int)) then(⟨c.b,IntKind.i64.wrap (c.i+1),bUh c.h⟩,qN IntKind.i64 (IntKind.i64.wrap (bV1 (bUh c.h)+IntKind.i64.wrap (c.b.getD c.i.toNat 0))) 255) else(⟨c.b,c.i,bUh c.h⟩,bV1 (bUh c.h))
def eG (c:AR)(n:Int):AR×Int:=bif decide (n<=0) then(c,0) else bif decide (n<=256) then((lX c).1,(lX c).2.tmod n) else
 ((lX (lX (lX c).1).1).1,(IntKind.i64.wrap (IntKind.i64.wrap (IntKind.i64.wrap ((lX c).2*65536)+IntKind.i64.wrap ((lX (lX c).1).2*256))+(lX (lX (lX c).1).1).2)).tmod n)
def Pw (c:AR)(n:Int):AR×Bool:=((eG c n).1,(eG c n).2==0)
def dA (c:AR):AR×Int:=eG c 4
def dB (c:AR):AR×Int:=eG (dA c).1 3
def dC (c:AR):AR×Int:=eG (dB c).1 (IntKind.i64.wrap (1+(dA c).2))
def dD (c:AR):AR×Int:=eG (dC c).1 40
def dE (c:AR):AR×Int:=eG (dD c).1 999
def pU (c:AR):AR×AA:=((dE c).1,bL (IntKind.i64.wrap (1+(dB c).2)) (IntKind.i64.wrap (1+(dA c).2)) (IntKind.i64.wrap (1+(dC c).2)) (dD c).2 (IntKind.i64.wrap (1+(dE c).2)))
def bKw (l:List Int):Nat->Int
 |0=>IntKind.i64.wrap (193017+(l.length:Int))
 |k+1=>qN IntKind.i64 (IntKind.i64.wrap (IntKind.i64.wrap (IntKind.i64.wrap (bKw l k*137)+IntKind.i64.wrap (l.getD k 0))+11)) 1073741823
def bV2 (l:List Int):Int:=bKw l (min l.length 4000)
def bNd (l:List Int):AR:=⟨l,0,bV2 l⟩
def Fb (l:List Int)(m:Int):Int:=bif decide (IntKind.i64.wrap (3+IntKind.i64.wrap ((l.length:Int).tdiv 12))>m) then m else IntKind.i64.wrap (3+IntKind.i64.wrap ((l.length:Int).tdiv 12))
--needs aAR Event
def eA (c:AR):AR×Int:=eG c 13
def eB (c:AR):AR×Int:=eG (eA c).1 4
def eC (c:AR):AR×Int:=eG (eB c).1 3
def eD (c:AR):AR×Int:=eG (eC c).1 4
def eE (c:AR):AR×Bool:=Pw (eD c).1 3
def eK (c:AR):Int:=IntKind.i64.wrap (1+(eA c).2)
def Ou (c:AR):AR×AX:=
 bif eK c==11 then((eG (eE c).1 40).1,⟨eK c,(eB c).2,(eC c).2,(eG (eE c).1 40).2,(eE c).2⟩) else
 bif eK c==4||eK c==13 then((Pw (eE c).1 2).1,⟨bif (Pw (eE c).1 2).2 then 2 else eK c,(eB c).2,(eC c).2,(eD c).2,(eE c).2⟩) else
 ((eE c).1,⟨eK c,(eB c).2,(eC c).2,(eD c).2,(eE c).2⟩)
def Eg (c:AR):Nat->AR×List AX
 |0=>(c,[])
 |n+1=>((Ou (Eg c n).1).1,(Eg c n).2++[(Ou (Eg c n).1).2])
def Zt (c:AR)(m:Int):AR×List AX:=Eg (eG c m).1 (eG c m).2.toNat
def Px (l:List Int):AA×List AX:=((pU (bNd l)).2,(Zt (pU (bNd l)).1 (IntKind.i64.wrap (6+Fb l 14))).2)
def aJb (e:AX):Prop:=(1<=e.Kind/\e.Kind<=13)/\(0<=e.Device/\e.Device<=3)/\(0<=e.Other/\e.Other<=2)/\(0<=e.Value/\e.Value<=39)/\(e.Kind≠11->e.Value<=3)
--needs Event World
def aRa (w:AA)(d j:Int)(h:ByteArray):AA×Int:=bif dK w d j&& !bX w d then oN w d j ⟨true,h,443⟩ else(w,1)
def aJr (w:AA)(d j:Int)(h:ByteArray):Prop:=dK w d j=true->nV ⟨true,h,443⟩
noncomputable instance (w:AA) (d j:Int) (h:ByteArray):Decidable (aJr w d j h):=Classical.propDecidable _
def evF (w:AA)(e:AX):AA×Bool:=yH w e.Kind e.Device e.Other e.Value e.Flag
def runN (w:AA)(l:List AX):Nat->AA
 |0=>w
 |k+1=>(evF (runN w l k) (l.getD k default)).1
def bFi (w:AA)(l:List AX):AA:=runN w l (min l.length 60)
def Jv (w:AA)(l:List AX):Prop:=w.sz<=34359738368/\∀k,k<min l.length 60->(runN w l k).sz<=33000000
noncomputable instance (w:AA) (l:List AX):Decidable (Jv w l):=Classical.propDecidable _
--needs aAR
--needs aAR aAP aAS
--needs Event World
def flW (w:AA):Int×Int×List AF×List Bool×List AD×Int×List AN×List AJ×List AB×Int×Int×Int×Int×List AG×Int×List AZ:=(w.Now,w.Seed,w.Devices,w.Stolen,w.aAD.Log,w.aAD.Boxes.Epoch,w.aAD.Boxes.Boxes,w.aAD.History,w.Sites,w.aAL.Salt,w.aAL.Threshold,w.aAL.Check,w.aAL.Masked,w.Hosts,w.Pin,w.Mail.Notices)
def aOp (w:AA)(l:List AX)(k:Nat):Bool:=(evF (runN w l k) (l.getD k default)).2
def Uq (w:AA)(l:List AX):List Bool:=(List.range (min l.length 60)).map (aOp w l)
def Z5 (q:Int)(w:AA)(l:List AX):Nat->Nat
 |0=>0
 |k+1=>Z5 q w l k+bif aOp w l k&&(l.getD k default).Kind==q then 1 else 0
def bCp (w:AA)(l:List AX)(q:Int):Int:=Z5 q w l (min l.length 60)
def cntF (w:AA)(j:Int):Int:=bif gP w j then((w.Sites.getD j.toNat default).Logins.length:Int) else 0
end Go.VK
