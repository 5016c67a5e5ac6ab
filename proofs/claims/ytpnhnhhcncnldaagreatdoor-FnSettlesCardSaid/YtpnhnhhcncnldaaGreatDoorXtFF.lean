import Derived.Test.YtpnhnhhcncnldaaGreatDoorEVyltod
import Derived.Test.YtpnhnhhcncnldaaGreatDoorXtS
/- Printed by wip/tools: models, walks, proofs. -/
set_option linter.all false
set_option maxRecDepth 100000
set_option maxHeartbeats 4000000
namespace Go.VK
open Go.RowKit Go.Proofs D
def kQ (k:AZ):Int:=IntKind.i64.wrap (IntKind.i64.wrap (k.Epoch*1000)+k.Guesses)
def jK (w:AA):Bool:= !w.Hosts.any λh=>decide (h.State.Guesses>h.State.Limit)||decide (kQ h.State>h.Monotonic)
def aLc {h v:Int}(h0:0<=h)(h1:h<2147483647):0<=hstep h v/\hstep h v<2147483647:=by have hm:=uY (p:=v) (q:=2147483647) (by omega);unfold hstep;generalize dW v 2147483647=z at*;have a:IntKind.i64.wrap (h*1000003)=h*1000003:=aJ (by omega) (by omega);have b:IntKind.i64.wrap (h*1000003+z)=h*1000003+z:=aJ (by omega) (by omega);have c:IntKind.i64.wrap (h*1000003+z+13)=h*1000003+z+13:=aJ (by omega) (by omega);rw[a,b,c];exact⟨fW _ (by omega),fX _ (by decide)⟩
def bBz (l:List Int):0<=xP l/\xP l<2147483647:=by
 unfold xP
 suffices ∀(l:List Int) (h:Int),0<=h->h<2147483647->0<=l.foldl hstep h/\l.foldl hstep h<2147483647 from this l 11 (by omega) (by omega)
 intro l;induction l with
 |nil=>intro h h0 h1;exact⟨h0,h1⟩
 |cons x xs a=>intro h h0 h1;exact a _ (aLc h0 h1).1 (aLc h0 h1).2
def mK (k:Int)(l:List Int):0<=bP k l/\bP k l<2147483647:=bBz _
def aZs (a b:Int):Int:=bif decide (b>a) then b else a
def rX (a:List Int)(r:List (List Int)):List Int:=a++r.flatten
def kF (n:Int):Int:=bif n==0 then 1 else n
def bK (n:Int):Bool:=bI n 1 2147483646
def zB (b:List Int):List Int:=[(b.length:Int)]++b.map IntKind.i64.wrap
def aZ (seed:Int)(l:List Int):Int:=kF (bP seed ([151]++l))
def zZ (k:Int)(s:ByteArray):Int:=kF (bP k (zB (bW s)))
def dP (p:Int):Int:=bif !(bK p) then 0 else(IntKind.i64.wrap (p*48271)).tmod 2147483647
def iT (s:AK):Int:=aZ s.Seed [181]
def aT (s:AK):Int:=dP (iT s)
def jE (l:List Int)(x:Int):Bool:=l.any λe=>e==x
def dX (log:List AF)(p:Int):Bool:=log.any λe=>e.Kind==2&&e.Device==p
def jF (s:List Int)(e:AF):List Int:=
 bif e.Kind==1 then(bif s.contains e.Device then s else s++[e.Device]) else bif e.Kind==2 then s.filter (λd=>d !=e.Device) else s
def aC (log:List AF):List Int:=log.foldl jF []
def aD (log:List AF):Int:=log.foldl (λn e=>bif e.Kind==2 then IntKind.i64.wrap (n+1) else n) 0
def aQ (b:AB)(site a:Int):Int:=kD (λe=>e.Site==site&&e.Handle==a) 0 b.Entries
def aF (s:AC)(id:Int):Int:=kD (λa=>a.Id==id) 0 s.Accounts
def aLd (s:List Int)(x:AF):(jF s x).length<=s.length+1:=by
 unfold jF;cases x.Kind==1 with
 |true=>cases s.contains x.Device<;>simp
 |false=>
  cases x.Kind==2 with
  |true=>have:=eW (λd=>d !=x.Device) s;simp;omega
  |false=>simp
def iB (log:List AF):(aC log).length<=log.length:=by
 suffices ∀(l:List AF) (s:List Int),(l.foldl jF s).length<=s.length+l.length from by simpa[aC] using this log []
 intro l;induction l with
 |nil=>intro s;simp
 |cons x xs a=>
  intro s;simp only[dh,au];have h1:=a (jF s x);have h2:(jF s x).length<=s.length+1:=by
   unfold jF;cases x.Kind==1 with
   |true=>cases s.contains x.Device<;>simp
   |false=>
    cases x.Kind==2 with
    |true=>have:=eW (λd=>d !=x.Device) s;simp;omega
    |false=>simp
  omega
def bB0 {n:Int}(h:0<=n):aZs 1 n=kF n:=by
 unfold aZs kF;rcases(show n=0\/n=1\/n>1 by omega) with rfl|rfl|h1
 ·rfl
 ·rfl
 ·have:(n==0)=false:=by simp;omega
  simp[h1,this]
def bM (s:ByteArray):Int:=zZ 173 s
def Dq (w:AA):Prop:=w.Devices.length<=34359738368/\w.Stolen.length<=34359738368/\w.aAC.Log.length<=34359738368/\w.Sites.length<=34359738368
instance (w:AA):Decidable (Dq w):=inferInstanceAs (Decidable (_/\_))
def aL (w:AA)(d:Int):Bool:=decide (0<=d)&&decide (d<w.Devices.length)
def Yd {w:AA}(h:Dq w)(d:Int):bI d 0 (IntKind.i64.wrap ((w.Devices.length:Int)-1))=aL w d:=by have:=h.1;rw[aJ (by omega) (by omega)];unfold bI aL;congr 1;exact cF.2 (by omega)
def aG (w:AA)(d:Int):AD:=w.Devices.getD d.toNat default
def lM {w:AA}{d:Int}(h:aL w d=true):bA w.Devices d=some (aG w d):=by simp only[aL,ab,bp] at h;rw[qH h.1 (by omega)];simp[aG,List.getD,ae (show d.toNat<w.Devices.length by omega)]
def bC (w:AA)(d:Int):Bool:=aL w d&&jE (aC w.aAC.Log) (aT (aG w d).Store)
def Mi (w:AA)(d:Int):Bool:=aL w d&&dX w.aAC.Log (aT (aG w d).Store)
def oF (w:AA)(i:Nat):Bool:=bC w i&&(decide (i<w.Stolen.length)&& !w.Stolen.getD i false)
def aX (w:AA):List Int:=((List.range w.Devices.length).filter (oF w)).map Int.ofNat
def Ye (d:Int)(s:AC):Bool:= !decide (aF s 1<0)&&(s.Accounts.getD (aF s 1).toNat default).Credentials.any λc=>c.Handle==d&& !c.Cut
def rD (w:AA)(d:Int):Bool:= !Mi w d||(!bC w d&& !(w.Sites.take 2).any (Ye d))
def mM (a b:AB):Bool:=a.Entries.length==b.Entries.length&&(List.zipWith AH.eqB a.Entries b.Entries).all id
def aPr (a b:AD):Bool:=mM a.aAD b.aAD&&(a.Epoch==b.Epoch&&(a.Version==b.Version&&a.Key==b.Key))
def aXp (w:AA):Bool:=(aX w).all λi=>aPr (aG w ((aX w).getD 0 0)) (aG w i)
def bJw (w:AA):(List.range (min w.Devices.length w.Stolen.length)).filter (oF w)=(List.range w.Devices.length).filter (oF w):=by
 rcases Nat.le_total w.Devices.length w.Stolen.length with h|h
 ·rw[gr h]
 ·rw[Nat.min_eq_right h];obtain⟨k,hk⟩:=Nat.exists_eq_add_of_le h;rw[hk,List.range_add,jc];have:((List.range k).map (w.Stolen.length+·)).filter (oF w)=[]:=by rw[List.filter_eq_nil_iff];intro i hi;obtain⟨j,_,rfl⟩:=cg.1 hi;simp[oF]
  rw[this,cY]
def aZt (w:AA):Int:=((aX w).length:Int)
def bHe {α:Type}{e:α->α->Bool}:∀{l r:List α},((l.zip r).any λp=> !e p.1 p.2)= !(List.zipWith e l r).all id
 |[],r=>by simp
 |x::xs,[]=>by simp
 |x::xs,y::ys=>by simp[bHe (l:=xs) (r:=ys)]
def Dq.of {w:AA}(h:w.sz<=1048576):Dq w:=by simp only[AA.sz,AM.sz] at h;unfold Dq;omega
def aXq (w:AA):∀x∈aX w,aL w x=true:=by intro x a;unfold aX at a;obtain⟨i,hi,rfl⟩:=cg.1 a;obtain⟨h1,h2⟩:=jw.1 hi;simp only[iq] at h1;simp only[aL,ab,bp];have e:(Int.ofNat i)=(i:Int):=rfl;rw[e];omega
def aUi (k:Int)(i:Nat)(z:Int):Int:=IntKind.u8.wrap ((z-bP k [(i:Int)])%256)
def Sa (k:Int)(b:List Int):List Int:=Pq (λi z=>[aUi k i z]) 0 b
def bB1 (x:Int):dW (IntKind.i64.wrap x) 256=x%256:=by rw[dW,cQ (by omega),IntKind.wrap_i64];omega
def bNf (k:Int)(i:Nat)(z:Int):IntKind.u8.wrap (dW (IntKind.i64.wrap (IntKind.i64.wrap z-bP k [(i:Int)])) 256)=aUi k i z:=by rw[bB1,aUi,IntKind.wrap_i64];congr 1;omega
def bNg (k:Int)(i:Nat)(z:Int):IntKind.u8.wrap (dW (IntKind.i64.wrap (IntKind.i64.wrap z-(bP k [(i:Int)]).tmod 256)) 256)=aUi k i z:=by rw[bB1,aUi,IntKind.wrap_i64,cr (mK _ _).1];congr 1;omega
def rY {α β:Type}{y:Nat->α->β}:∀{i:Nat} {l:List α},(Pq (λi x=>[y i x]) i l).length=l.length
 |i,[]=>rfl
 |i,x::xs=>by simp[Pq,rY]
def iU (p e:Int):Int:=aZ p [163,e]
def Zd (k:Int)(b:AO):Int:=bP k ([167,b.To,b.Ephemeral]++zB b.Data)
def gH (p:Int)(b:AO):List Int×Bool:=
 bif !bK p||(b.To !=dP p||(!bK b.Ephemeral||decide ((b.Data.length:Int)>200))) then([],false)
 else bif b.MAC !=Zd (iU p b.Ephemeral) b then([],false) else(Sa (iU p b.Ephemeral) b.Data,true)
def gU:List AO->Int->List Int×Bool
 |[],_=>([],false)
 |b::bs,p=>bif (gH p b).2 then((gH p b).1,true) else gU bs p
def bD (b:List Int):Prop:=b.length<=34359738368/\b.all (λz=>decide (0<=z)&&decide (z<=255))=true
instance (b:List Int):Decidable (bD b):=inferInstanceAs (Decidable (_/\_))
def wK {b:List Int}(h:bD b){i:Nat}(hi:i<b.length):0<=b[i]/\b[i]<=255:=by have:=cG.1 h.2 b[i] (cb hi);simpa using this
def uvG (b:List Int)(p:Nat):Nat->Nat->Int->Int×Int×Bool
 |0,_,_=>(0,0,false)
 |k+1,i,n=>
  if p+i<b.length then
   bif decide (b.getD (p+i) 0<128) then
    (bif (decide (0<i)&&b.getD (p+i) 0==0)||decide (n+b.getD (p+i) 0%128*128^i>1000000000000) then(0,0,false) else(n+b.getD (p+i) 0%128*128^i,((p+i+1:Nat):Int),true))
   else uvG b p k (i+1) (n+b.getD (p+i) 0%128*128^i)
  else(0,0,false)
def zC (b:List Int)(at_:Int):Int×Int×Bool:=if at_<0 then(0,0,false) else uvG b at_.toNat 6 0 0
def aZu {i:Nat}(h:i<=6):(1:Int)<=128^i/\(128:Int)^i<=4398046511104:=by
 match i,h with
 |0,_|1,_|2,_|3,_|4,_|5,_|6,_=>decide
def aZv {z n:Int}{i:Nat}(hi:i<=5)(b:0<=z)(hn:0<=n)(a:n<128^i):0<=n+z%128*128^i/\n+z%128*128^i<128^(i+1)/\0<=z%128*128^i/\z%128*128^i<=127*128^i:=by have hp:=aZu (i:=i) (by omega);have h1:0<=z%128*128^i:=iv (by omega) (by omega);have h2:z%128*128^i<=127*128^i:=Int.mul_le_mul_of_nonneg_right (by omega) (by omega);rw[fc];refine⟨by omega,by omega,h1,h2⟩
def bQ4 {z n:Int}{i:Nat}(hi:i<=5)(j:0<=z)(k:z<=255)(hn:0<=n)(a:n<128^i):
  orI .i64 n (aBu .i64 (oQ .i64 z 127) (IntKind.i64.wrap (7*(i:Int))))=n+z%128*128^i:=by
 obtain⟨m,rfl⟩:=ee j;obtain⟨q,rfl⟩:=ee hn;have hp:=aZu (i:=i) (by omega);have hs:=aZv (z:=(m:Int)) (n:=(q:Int)) hi (by omega) (by omega) a;have l:oQ .i64 (m:Int) 127=((m%128:Nat):Int):=by
  have e:((BitVec.ofInt 64 (m:Int))&&&(BitVec.ofInt 64 127)).toNat=m%128:=by
   rw[BitVec.toNat_and];have o:(BitVec.ofInt 64 (m:Int)).toNat=m:=by rw[BitVec.toNat_ofInt];omega
   have p:(BitVec.ofInt 64 127).toNat=2^7-1:=by decide
   rw[o,p,gk]
  show IntKind.i64.wrap (((BitVec.ofInt 64 (m:Int))&&&(BitVec.ofInt 64 127)).toNat:Int)=_;rw[e];exact aJ (by omega) (by omega)
 have r:IntKind.i64.wrap (7*(i:Int))=((7*i:Nat):Int):=by rw[aJ (by omega) (by omega)];omega
 have c:(2:Nat)^(7*i)=128^i:=by rw[Nat.pow_mul]
 have f:((128^i:Nat):Int)=(128:Int)^i:=by simp
 have hb:aBu .i64 (oQ .i64 (m:Int) 127) (IntKind.i64.wrap (7*(i:Int)))=((m%128*128^i:Nat):Int):=by
  rw[l,r];unfold aBu;rw[bq,show min (7*i) IntKind.i64.bits=7*i from gr (by simp[IntKind.bits];omega)];have s:((m%128:Nat):Int)*2^(7*i)=((m%128*128^i:Nat):Int):=by rw[<-c];simp
  rw[s];have:((m%128*128^i:Nat):Int)=(m:Int)%128*128^i:=by simp
  rw[this];exact aJ (by omega) (by omega)
 rw[hb];have d:q<128^i:=by rw[<-f] at a;exact_mod_cast a
 have h:(m%128*128^i)|||q=m%128*128^i+q:=by have:=jv (b:=q) (i:=7*i) (by rw[c];exact d) (m%128);rw[Nat.shiftLeft_eq,c] at this;exact this.symm
 have t:m%128*128^i+q<2^63:=by
  have:((m%128*128^i+q:Nat):Int)=q+(m:Int)%128*128^i:=by simp;omega
  omega
 have u:((BitVec.ofInt 64 (q:Int))|||(BitVec.ofInt 64 ((m%128*128^i:Nat):Int))).toNat=m%128*128^i+q:=by
  rw[BitVec.toNat_or];have v:(BitVec.ofInt 64 (q:Int)).toNat=q:=by rw[BitVec.toNat_ofInt];omega
  have w:(BitVec.ofInt 64 ((m%128*128^i:Nat):Int)).toNat=m%128*128^i:=by rw[BitVec.toNat_ofInt];omega
  rw[v,w,Nat.or_comm,h]
 show IntKind.i64.wrap (((BitVec.ofInt 64 (q:Int))|||(BitVec.ofInt 64 ((m%128*128^i:Nat):Int))).toNat:Int)=_;rw[u,aJ (by omega) (by omega)];simp;omega
def kX (b:List Int):Nat->Int->List Int->List Int×Int×Bool
 |0,a,s=>(s,a,true)
 |k+1,a,s=>bif (zC b a).2.2 then kX b k (zC b a).2.1 (s++[(zC b a).1]) else([],0,false)
def jS (b:List Int)(a c:Int):List Int×Int×Bool:=bif !bI c 0 100|| !bI a 0 b.length then([],0,false) else kX b c.toNat a []
def bB2 (b:List Int):∀(k:Nat) (a:Int) (s:List Int),(kX b k a s).2.2=true->(kX b k a s).1.length=s.length+k
 |0,a,s,_=>rfl
 |k+1,a,s,h=>by
  unfold kX at h ⊢;cases c:(zC b a).2.2 with
  |false=>rw[c] at h;simp at h
  |true=>rw[c] at h;simp only[ac] at h ⊢;rw[bB2 b k _ _ h];simp;omega
def decode_len {b:List Int}{a c:Int}(hc:0<=c)(h:(jS b a c).2.2=true):(jS b a c).1.length=c.toNat:=by
 unfold jS at h ⊢;cases d:(!bI c 0 100|| !bI a 0 b.length) with
 |true=>rw[d] at h;simp at h
 |false=>rw[d] at h;simp only[aa] at h ⊢;rw[bB2 _ _ _ _ h];simp
def aZw {k:Int}{b:List Int}(h:b.length<=34359738368):bD (Sa k b):=by
 refine⟨by unfold Sa;rw[rY];exact h,?_⟩;rw[cG];intro z a;have:∀(b:List Int) (i:Nat),z∈Pq (λi z=>[aUi k i z]) i b->0<=z/\z<=255:=by
  intro b;induction b with
  |nil=>intro i h;simp[Pq] at h
  |cons x xs c=>
   intro i h;simp only[Pq,bw,cA] at h;rcases h with rfl|h
   ·have:=eF .u8 ((x-bP k [(i:Int)])%256);simpa[aUi,IntKind.min,IntKind.max,IntKind.signed,IntKind.bits] using this
   ·exact c _ h
 have:=this b 0 a;simp[this.1,this.2]
def bEy (p:Int)(b:AO):bD (gH p b).1:=by
 unfold gH;have h0:bD ([]:List Int):=by decide
 by_cases hl:b.Data.length<=200
 ·cases(!bK p||(b.To !=dP p||(!bK b.Ephemeral||decide ((b.Data.length:Int)>200))))<;>cases(b.MAC !=Zd (iU p b.Ephemeral) b)<;>first|exact h0|exact aZw (by omega)
 ·have a:decide ((b.Data.length:Int)>200)=true:=by simp;omega
  rw[a];simpa using h0
def Q0 (p:Int):∀bs,bD (gU bs p).1
 |[]=>show bD [] by decide
 |b::bs=>by
  unfold gU;cases(gH p b).2 with
  |true=>exact bEy p b
  |false=>exact Q0 p bs
def Mj (e:AN)(x:List Int×Bool)(y:List Int×Int×Bool):Int×Bool:=
 bif !x.2||(!y.2.2||(y.2.1 !=(x.1.length:Int)||(y.1.getD 0 0 !=e.Epoch|| !bK (y.1.getD 1 0)))) then(0,false) else(y.1.getD 1 0,true)
def bL (s:AK)(e:AN):Int×Bool:=Mj e (gU e.Boxes (iT s)) (jS (gU e.Boxes (iT s)).1 0 2)
def qO (w:AA)(d:Int):Bool:=aL w d&&(!bC w d||((aG w d).Epoch !=aD w.aAC.Log||(aG w d).Key==(bL (aG w d).Store w.aAC.Boxes).1))
def and_one {n:Int}(h0:0<=n)(h1:n<9223372036854775808):oQ .i64 n 1=n%2:=by
 obtain⟨m,rfl⟩:=ee h0;have e:((BitVec.ofInt 64 (m:Int))&&&(BitVec.ofInt 64 1)).toNat=m%2:=by
  rw[BitVec.toNat_and];have a:(BitVec.ofInt 64 (m:Int)).toNat=m:=by rw[BitVec.toNat_ofInt];omega
  have b:(BitVec.ofInt 64 1).toNat=2^1-1:=by decide
  rw[a,b,gk]
 show IntKind.i64.wrap (((BitVec.ofInt 64 (m:Int))&&&(BitVec.ofInt 64 1)).toNat:Int)=_;rw[e,aJ (by omega) (by omega)];omega
def bHg {n:Int}(h0:0<=n):Gt .i64 n 1=n/2:=by unfold Gt;rw[show min (Int.toNat 1) IntKind.i64.bits=1 from by decide,gy _ (by decide)];rfl
def bJx:Nat->Int->Int->Int->Int
 |0,_,_,s=>s
 |k+1,b,n,s=>if n>0 then bJx k ((IntKind.i64.wrap (b*b)).tmod 2147483647) (n/2) (bif n%2==1 then(IntKind.i64.wrap (s*b)).tmod 2147483647 else s) else s
def bHh:bJx 31 48271 2147483645 1=1899818559:=by decide+kernel
def gP (q:Int):Int:=bif !bK q then 0 else q*1899818559%2147483647
def rZ (p:Int)(l:List Int):Int:=bif !bK p then 0 else bP p ([139,(l.length:Int)]++l)
def iE (q:Int)(l:List Int)(g:Int):Bool:=gP q !=0&&rZ (gP q) l==g
def Sb {α:Type}[Inhabited α]{l:List α}{i:Nat}(h0:0<i)(hi:i<l.length)(hl:l.length<=34359738368):bA l (IntKind.i64.wrap ((i:Int)-1))=some (l.getD (i-1) default):=by rw[aJ (by omega) (by omega),show(i:Int)-1=((i-1:Nat):Int) by omega,aN (by omega)];simp[List.getD,ae (show i-1<l.length by omega)]
def vD (l:List AX)(i:Nat)(n:AX):Bool:= !bI n.Kind 1 5||(!bI n.aAH 0 1000000||(!bI n.Time 0 1000000||(decide (0<i)&&decide ((l.getD (i-1) default).Time>n.Time))))
def gJ (m:AS):Bool:=decide (m.Notices.length<=30)&& !gM (vD m.Notices) 0 m.Notices
def iF (b:AP)(i:Nat)(n:A3):Bool:= !bI n.Id 0 (IntKind.i64.wrap (b.Next-1))||((decide (0<i)&&decide ((b.Open.getD (i-1) default).Id>=n.Id))||(!bI n.aAH 0 1000005|| !bI n.Until 0 1000005))
def eQ (b:AP):Bool:=bI b.Next 0 1000000&&decide (b.Open.length<=16)&& !gM (iF b) 0 b.Open
def vZ (a:AJ)(i:Nat)(n:AV):Bool:=(!bI n.Handle 0 1000000||((decide (0<i)&&decide ((a.Credentials.getD (i-1) default).Handle>=n.Handle))||(gP n.Public==0|| !bI n.Counter 0 1000000)))||(a.Credentials.take i).any λq=>q.Public==n.Public
def bB (a:AJ):Bool:=bI a.Id 0 1000000&&bI a.Minimum 1 3&&decide (a.Credentials.length<=8)&& !gM (vZ a) 0 a.Credentials
def dF (e:AF):Int:=xP [229,e.Index,e.Kind,e.Device,e.By,e.Previous]
def iY (l:List AF):Int:=bif (l.length:Int)==0 then 0 else dF (l.getD (l.length-1) default)
def kY (l:List AF)(e:AF):Bool:=
 e.Index==(l.length:Int)&&(e.Previous==iY l&&((jE (aC l) e.By||((l.length:Int)==0&&e.By==e.Device))&&(iE e.By [dF e] e.Signature&&
  (bif e.Kind==2 then jE (aC l) e.Device&&decide (((aC l).length:Int)>1) else !dX l e.Device&&(e.Kind==1&&(!jE (aC l) e.Device&&decide (((aC l).length:Int)<6)))))))
def aY (l:List AF):Bool:=bI (l.length:Int) 1 40&& !gM (λi e=> !kY (l.take i) e) 0 l
def bNh {l:List Int}{x:Int}(h:jE l x=true):0<l.length:=by
 cases l with
 |nil=>simp[jE] at h
 |cons a r=>simp
def kG:List UInt8->List UInt8->List (List UInt8)
 |cur,[]=>[cur]
 |cur,b::r=>bif b==46 then cur::kG [] r else kG (cur++[b]) r
def bNi (s:List UInt8)(i:Nat):Lib.occAt s [46] i=decide (s[i]? =some 46):=by
 unfold Lib.occAt;cases h:s.drop i with
 |nil=>have:s.length<=i:=List.drop_eq_nil_iff.1 h;simp[dm this,List.isPrefixOf]
 |cons b r=>
  have e:s[i]? =some b:=by have:=dT (xs:=s) (i:=i) (j:=0);rw[h] at this;simpa using this.symm
  rw[e];simp only[List.isPrefixOf,gp,aj];rw[en];simp only[cH,bp];exact eq_comm
def aPs:∀(a cur r:List UInt8),(∀b∈a,b≠46)->kG cur (a++46::r)=(cur++a)::kG [] r
 |[],cur,r,_=>by simp[kG]
 |b::a,cur,r,h=>by
  have hb:(b==46)=false:=by simpa using h b (by simp)
  rw[cN,kG,hb,aa,aPs a _ r (λx c=>h x (cl _ c))];simp
def aLe:∀(a cur:List UInt8),(∀b∈a,b≠46)->kG cur a=[cur++a]
 |[],cur,_=>by simp[kG]
 |b::a,cur,h=>by
  have hb:(b==46)=false:=by simpa using h b (by simp)
  rw[kG,hb,aa,aLe a _ (λx c=>h x (cl _ c))];simp
def bB3:∀(n:Nat) (s:List UInt8),s.length<n->Lib.splitK [46] 0 (Lib.count s [46]) s=kG [] s
 |0,s,h=>absurd h (Nat.not_lt_zero _)
 |n+1,s,h=>by
  rcases Lib.index_spec s [46] with⟨h1,h2⟩|⟨i,h1,h2,a,m⟩
  ·rw[Lib.count_miss h1,aLe s [] (λb hb e=>by
    obtain⟨j,d,c⟩:=iS hb;have:=h2 j (by omega);rw[bNi,ae d,c,e] at this;simp at this)];rfl
  ·rw[bNi] at a;have a:s[i]? =some 46:=by simpa using a
   have hi:i<s.length:=by
    rcases fa i s.length with f|k
    ·exact f
    ·rw[dm k] at a;cases a
   rw[Lib.count_hit (by simp) h1,Nat.add_comm,Lib.splitK,h1];have l:((i:Int)== -1)=false:=by simp
   rw[l];simp only[bq,eg,au,bl,cj];rw[dk (by simp),bB3 n (s.drop (i+1)) (by rw[cz];omega)];have es:s=s.take i++46::s.drop (i+1):=by
    have o:s[i]=46:=by rw[ae hi] at a;exact aq a
    rw[<-o,List.getElem_cons_drop hi,cJ]
   conv=>rhs;rw[es]
   rw[aPs (s.take i) [] _ (λb hb e=>by
    obtain⟨j,d,c⟩:=iS hb;rw[bv] at d;have:=m j (by omega);rw[bNi,ae (by omega)] at this;rw[e9] at c;rw[c,e] at this;simp at this)];simp
def bO (s:ByteArray):List ByteArray:=(kG [] s.data.toList).map λl=>⟨l.toArray⟩
def aPt (s:ByteArray):lV s ⟨#[46]⟩=bO s:=by
 have h1:(lV s ⟨#[46]⟩).map (·.data.toList)=kG [] s.data.toList:=by rw[lV,Lib.splitB_data];exact bB3 _ _ (eN _)
 unfold bO;rw[<-h1,ib]
 conv=>lhs;rw[<-List.map_id (lV s ⟨#[46]⟩)]
 congr 1
def aCi (b:Int):Bool:=bI b 97 122||bI b 48 57||b==45
def wL (s:ByteArray):Bool:=decide (1<=s.size)&&decide (s.size<=20)&& !((bW s).getD 0 0==45)&& !((bW s).getD (s.size-1) 0==45)&& !((bW s).any λb=> !aCi b)
def iG (s:ByteArray):Bool:=decide (s.size<=60)&& !((bO s).any λl=> !wL l)
def lG (s:ByteArray):(bW s).length=s.size:=by simp only[bW,bg];rfl
def bB4 {s:ByteArray}{i:Nat}(h:i<s.size):bA (bW s) (i:Int)=some ((bW s)[i]'(by rw[lG];exact h)):=aN _
def ext_list (s:ByteArray)(a b:Nat):s.extract a b=⟨((s.data.toList.drop a).take (b-a)).toArray⟩:=by apply ByteArray.ext;apply ju.1;rw[Lib.extract_data]
def Q3:∀(s cur:List UInt8),(kG cur s).length<=s.length+1
 |[],_=>by simp[kG]
 |b::r,cur=>by
  rw[kG];cases b==46 with
  |true=>have:=Q3 r [];simp;omega
  |false=>have:=Q3 r (cur++[b]);simp at this ⊢;omega
def Sc:∀(s cur:List UInt8) (l:List UInt8),l∈kG cur s->l.length<=cur.length+s.length
 |[],cur,l,h=>by simp[kG] at h;subst h;simp
 |b::r,cur,l,h=>by
  rw[kG] at h;cases hb:b==46 with
  |true=>
   rw[hb,ac] at h;rcases ba.1 h with rfl|h
   ·omega
   ·have:=Sc r [] l h;simp at this ⊢;omega
  |false=>rw[hb,aa] at h;have:=Sc r _ l h;simp at this ⊢;omega
def Sd (s:ByteArray):(bO s).length<=s.size+1:=by unfold bO;rw[bg];exact Q3 _ _
def zD (s l:ByteArray)(h:l∈bO s):l.size<=s.size:=by unfold bO at h;obtain⟨q,hq,rfl⟩:=cg.1 h;have:=Sc _ _ q hq;have h2:(⟨q.toArray⟩:ByteArray).size=q.length:=rfl;have a:s.data.toList.length=s.size:=rfl;have b:([]:List UInt8).length=0:=rfl;omega
def bWp (z:ByteArray):(z.toList==(⟨#[]⟩:ByteArray).toList)=decide (z.size=0):=by
 rw[ByteArray.toList_eq,ByteArray.toList_eq,en];simp only[cH,bp];constructor
 ·intro h;show z.data.size=0;rw[<-cI,h];rfl
 ·intro h;exact ce h
def zF:∀(s cur:List UInt8),(kG cur s).length=s.countP (·==46)+1
 |[],_=>rfl
 |b::r,cur=>by
  rw[kG,List.countP_cons];cases b==46 with
  |true=>rw[ac,au,zF r []];simp
  |false=>rw[aa,zF r _];simp
def aLf (s:ByteArray):0<(bO s).length:=by unfold bO;rw[bg,zF];omega
def Yf (s:ByteArray):Bool:=(bW s).any λb=>b==46
def aUj (s:ByteArray):Yf s=decide (2<=(bO s).length):=by
 unfold Yf bO bW;rw[bg,zF,List.any_map];have e:(λb:Int=>b==46)∘(λb:UInt8=>(b.toNat:Int))=λb:UInt8=>b==46:=by
  funext b;rw[en];simp only[Function.comp,cH];constructor
  ·intro q;apply UInt8.toNat_inj.1;show _=46;omega
  ·intro q;rw[q];rfl
 rw[e,en,ex,bp];have:=List.countP_pos_iff (p:=λb:UInt8=>b==46) (l:=s.data.toList);constructor
 ·intro h;have:=this.2 h;omega
 ·intro h;exact this.1 (by omega)
def bJy (s:ByteArray):ByteArray:=bif iG s then(bif (bO s).length==1 then s else rA ⟨#[46]⟩ ((bO s).drop ((bO s).length-2))) else⟨#[]⟩
def bS0 {l:List ByteArray}(h:2<=l.length):∃a∈l,∃b∈l,rA ⟨#[46]⟩ (l.drop (l.length-2))=a++⟨#[46]⟩++b:=by
 have hl:(l.drop (l.length-2)).length=2:=by rw[cz];omega
 match hm:l.drop (l.length-2),hl with
 |[a,b],_=>refine⟨a,dq (i:=l.length-2) (by rw[hm];simp),b,dq (i:=l.length-2) (by rw[hm];simp),?_⟩;rw[show[a,b]=[a]++[b] from rfl,bP6 _ _ _ (by simp),bP5]
def Sg {s:ByteArray}(h:iG s=true):s.size<=60/\0<s.size:=by
 unfold iG at h;rw[ab,bp] at h;refine⟨h.1,Nat.pos_of_ne_zero λe=> ?_⟩
 have a:s.data.toList=[]:=ce e;have b:bO s=[⟨#[]⟩]:=by unfold bO;rw[a];rfl
 rw[b] at h;exact absurd h.2 (by decide)
def bQ5 {s:ByteArray}(h:iG s=true):decide ((bJy s).size=0)=false:=by
 have hs:=Sg h;have hp:=aLf s;unfold bJy;rw[h,ac];refine ao ?_;cases h1:(bO s).length==1 with
 |true=>rw[ac];omega
 |false=>
  rw[aa];have:(bO s).length≠1:=by simpa using h1
  obtain⟨a,_,b,_,e⟩:=bS0 (l:=bO s) (by omega);rw[e,ByteArray.size_append,ByteArray.size_append];have:(⟨#[46]⟩:ByteArray).size=1:=rfl;omega
def kZ (s:ByteArray)(seed:Int):Bool:=iG s&&decide (2<=(bO s).length)&&bK seed
def Mk (l:List AJ)(i:Nat)(n:AJ):Bool:= !bB n||(decide (0<i)&&decide ((l.getD (i-1) default).Id>=n.Id))
def dI (s:AC):Bool:=kZ s.Name s.Book.Seed&&decide (s.Accounts.length<=8)&&eQ s.Book&& !gM (Mk s.Accounts) 0 s.Accounts
def SOk (s:AC):Prop:=s.Name.size<=34359738368/\s.Accounts.length<=34359738368/\s.Book.Open.length<=34359738368/\∀a∈s.Accounts,a.Credentials.length<=34359738368
instance (s:AC):Decidable (SOk s):=inferInstanceAs (Decidable (_/\_))
def iH (name:ByteArray)(seed:Int):AC:=bif kZ name seed then⟨name,[],⟨seed,0,[]⟩,[]⟩ else⟨⟨#[]⟩,[],⟨0,0,[]⟩,[]⟩
def bEz (name:ByteArray)(seed:Int):decide ((iH name seed).Name.size=0)= !kZ name seed:=by
 unfold iH;cases h:kZ name seed with
 |false=>rfl
 |true=>
  have:iG name=true:=by unfold kZ at h;rw[ab,ab] at h;exact h.1.1
  have:=Sg this;exact ao (by show ¬name.size=0;omega)
def aA (i:Int):ByteArray:=bif i==0 then⟨#[98,97,110,107,46,99,111,109]⟩ else bif i==1 then⟨#[115,104,111,112,46,111,114,103]⟩ else⟨#[]⟩
def nA (i:Nat)(s:AC):Bool:= !dI s|| !(s.Name.toList==(aA (i:Int)).toList)
def aP (w:AA):Bool:=bI w.Now 0 999900&&bI (w.Devices.length:Int) 1 6&&(w.Stolen.length:Int)==(w.Devices.length:Int)&&(w.Sites.length:Int)==2&&gJ w.Mail&&aY w.aAC.Log&&bK w.Seed&& !gM nA 0 w.Sites
def bU0 (w:AA):Prop:=Dq w/\w.Mail.Notices.length<=34359738368/\w.Hosts.length<=34359738368/\∀s∈w.Sites,SOk s
instance (w:AA):Decidable (bU0 w):=inferInstanceAs (Decidable (_/\_))
def aG7 {α:Type}{g:α->Nat}{x:α}:∀{l:List α},x∈l->g x<=(l.map g).sum
 |y::r,h=>by
  rw[bo,de];rcases ba.1 h with rfl|h
  ·omega
  ·have:=aG7 (g:=g) h;omega
def SOk.of {s:AC}(h:s.sz<=1048576):SOk s:=by
 simp only[AC.sz] at h;refine⟨by omega,by omega,by omega,λa b=> ?_⟩
 have:=aG7 (g:=AJ.sz) b;simp only[AJ.sz] at this h;omega
def bU0.of {w:AA}(h:w.sz<=1048576):bU0 w:=by
 refine⟨Dq.of h,?_,?_,λs hs=>SOk.of ?_⟩
 ·simp only[AA.sz] at h;omega
 ·simp only[AA.sz] at h;omega
 ·have:=aG7 (g:=AC.sz) hs;simp only[AA.sz] at h;omega
def aPu (w:AA)(i:Nat)(_:AD):Bool:= !rD w (i:Int)|| !qO w (i:Int)
def aG8 (w:AA):Bool:=aP w&&jK w&& !gM (aPu w) 0 w.Devices
abbrev Aa (a:List Int)(r:List (List Int)):Prop:=a.length+r.flatten.length<=68719476736/\r.length<=1099511627776
def qA (w:AA)(i:Int):Bool:=decide (0<=i)&&decide (i<w.Sites.length)
def dZ (a b:AH):Bool:=decide (a.Site<b.Site)||(a.Site==b.Site&&decide (a.Handle<b.Handle))
def wM (a:AH)(s h:Int):Bool:=decide (a.Site<s)||(a.Site==s&&decide (a.Handle<h))
def pO (x e:AH):Bool:=decide (x.Version>e.Version)||(x.Version==e.Version&&x.Deleted)
def pJ (e x:AH):AH:=bif pO x e then x else e
def bH:List AH->List AH->List AH
 |[],bs=>bs
 |a::xs,[]=>a::xs
 |a::xs,b::bs=>bif dZ a b then a::bH xs (b::bs) else bif dZ b a then b::bH (a::xs) bs else pJ a b::bH xs bs
termination_by xs bs=>xs.length+bs.length
def aPv (l:List AH)(i:Nat)(e:AH):Bool:= !bI e.Site 0 2147483646||(!bI e.Handle 0 1000000||(!bI e.Version 1 1000000||(decide ((i:Int)>0)&& !dZ (l.getD (i-1) default) e)))
def aR (b:AB):Bool:=decide ((b.Entries.length:Int)<=20)&& !gM (aPv b.Entries) 0 b.Entries
def dS (a b:AB):AB×Bool:=bif aR a&&aR b then(bif aR ⟨bH a.Entries b.Entries⟩ then(⟨bH a.Entries b.Entries⟩,true) else(a,false)) else(a,false)
def zG (b:AB)(x:AH):AB:=bif decide (aQ b x.Site x.Handle>=0) then⟨b.Entries.set (aQ b x.Site x.Handle).toNat x⟩ else⟨b.Entries.takeWhile (λe=>wM e x.Site x.Handle)++[x]++b.Entries.dropWhile (λe=>wM e x.Site x.Handle)⟩
theorem vE {a b:AH}:dZ a b=true↔a.Site<b.Site\/(a.Site=b.Site/\a.Handle<b.Handle):=by simp[dZ]
def bE0 {a x:AH}:wM a x.Site x.Handle=dZ a x:=rfl
theorem oG {a b c:AH}(h:dZ a b=true)(k:dZ b c=true):dZ a c=true:=by rw[vE] at*;omega
def Ab {a b:AH}(h:dZ a b=false)(k:dZ b a=false):a.Site=b.Site/\a.Handle=b.Handle:=by
 have h1:¬(a.Site<b.Site\/(a.Site=b.Site/\a.Handle<b.Handle)):=λq=>by rw[vE.2 q] at h;cases h
 have h2:¬(b.Site<a.Site\/(b.Site=a.Site/\b.Handle<a.Handle)):=λq=>by rw[vE.2 q] at k;cases k
 omega
def Hz {a b c:AH}(h:a.Site=b.Site/\a.Handle=b.Handle):dZ a c=dZ b c:=by unfold dZ;rw[h.1,h.2]
def bE1 {a b c:AH}(h:a.Site=b.Site/\a.Handle=b.Handle):dZ c a=dZ c b:=by unfold dZ;rw[h.1,h.2]
def aCj {a b:AH}(h:a.Site=b.Site/\a.Handle=b.Handle):(pJ a b).Site=b.Site/\(pJ a b).Handle=b.Handle:=by
 unfold pJ;cases pO b a
 ·exact h
 ·exact⟨rfl,rfl⟩
def bHi (a b:AH):pJ a b=a\/pJ a b=b:=by
 unfold pJ;cases pO b a
 ·exact .inl rfl
 ·exact .inr rfl
def fE (l:List AH):bH l []=l:=by cases l<;>rw[bH]
def jV (l:List AH):bH [] l=l:=by rw[bH]
def zL:∀(n:Nat) (a b:List AH),a.length+b.length<=n->(bH a b).length<=a.length+b.length
 |_,[],b,_=>by rw[jV];simp
 |_,a::xs,[],_=>by rw[fE];simp
 |0,a::xs,b::bs,h=>by simp at h
 |n+1,a::xs,b::bs,h=>by
  simp only[au] at h;rw[bH];cases dZ a b with
  |true=>have:=zL n xs (b::bs) (by simp only[au];omega);simp only[ac,au] at*;omega
  |false=>
   cases dZ b a with
   |true=>have:=zL n (a::xs) bs (by simp only[au];omega);simp only[aa,ac,au] at*;omega
   |false=>have:=zL n xs bs (by omega);simp only[aa,au] at*;omega
def vF (a b:AH)(xs bs:List AH):bH (a::xs) (b::bs)=bif dZ a b then a::bH xs (b::bs) else bif dZ b a then b::bH (a::xs) bs else pJ a b::bH xs bs:=by rw[bH]
def Yg (l:List AH):Prop:=l.Pairwise λa b=>dZ a b=true
def aXr:∀(A:List AH) {b:AH} {bs:List AH},Yg (b::bs)->bH (bH A [b]) bs=bH A (b::bs)
 |[],b,bs,h=>by
  rw[jV,jV];cases bs with
  |nil=>rw[fE]
  |cons c cs=>rw[bH,(cn.1 h).1 c (by simp),ac,jV]
 |a::xs,b,bs,h=>by
  have hc:=(cn.1 h).1;rw[vF a b xs [],vF a b xs bs];cases h1:dZ a b with
  |true=>
   simp only[ac];cases bs with
   |nil=>rw[fE]
   |cons c cs=>rw[bH,oG h1 (hc c (by simp)),ac,aXr xs h]
  |false=>
   cases h2:dZ b a with
   |true=>
    simp only[ac,aa];rw[fE];cases bs with
    |nil=>rw[fE,fE]
    |cons c cs=>rw[bH,hc c (by simp),ac]
   |false=>
    simp only[aa];rw[fE];cases bs with
    |nil=>rw[fE,fE]
    |cons c cs=>rw[bH,Hz (aCj (Ab h1 h2)),hc c (by simp),ac]
def bHj:∀{l:List AH} {x y:AH},y∈bH l [x]->y∈l\/y=x
 |[],x,y,h=>by rw[jV] at h;simp at h;exact .inr h
 |a::xs,x,y,h=>by
  rw[bH] at h;cases h1:dZ a x with
  |true=>
   rw[h1,ac] at h;rcases ba.1 h with rfl|h
   ·exact .inl (by simp)
   ·exact(bHj h).imp (λh=>by simp[h]) id
  |false=>
   rw[h1,aa] at h;cases h2:dZ x a with
   |true=>
    rw[h2,ac,fE] at h;rcases ba.1 h with rfl|h
    ·exact .inr rfl
    ·exact .inl h
   |false=>
    rw[h2,aa,fE] at h;rcases ba.1 h with rfl|h
    ·rcases bHi a x with e|e
     ·rw[e];exact .inl (by simp)
     ·exact .inr e
    ·exact .inl (by simp[h])
def bHk:∀{l:List AH} {x:AH},Yg l->Yg (bH l [x])
 |[],x,h=>by rw[jV];exact List.pairwise_singleton _ _
 |a::xs,x,h=>by
  obtain⟨c,hs⟩:=cn.1 h;rw[bH];cases h1:dZ a x with
  |true=>
   rw[ac];refine cn.2 ⟨λy b=> ?_,bHk hs⟩;rcases bHj b with b|rfl
   ·exact c y b
   ·exact h1
  |false=>
   cases h2:dZ x a with
   |true=>
    rw[aa,ac,fE];refine cn.2 ⟨λy b=> ?_,h⟩;rcases ba.1 b with rfl|b
    ·exact h2
    ·exact oG h2 (c y b)
   |false=>rw[aa,aa,fE];have hk:=Ab h1 h2;refine cn.2 ⟨λy b=> ?_,hs⟩;rw[Hz (aCj hk),<-Hz hk];exact c y b
def aPw:∀(B A:List AH),Yg B->B.foldl (λo x=>bH o [x]) A=bH A B
 |[],A,_=>by rw[fE];rfl
 |b::bs,A,h=>by rw[dh,aPw bs _ (cn.1 h).2,aXr A h]
def Si {α:Type}{p:α->Bool}:∀{l:List α} {i:Nat},kD p i l<0->∀y∈l,p y=false
 |[],i,_,y,a=>by simp at a
 |x::l,i,h,y,a=>by
  simp only[kD] at h;cases hp:p x with
  |true=>rw[hp,ac] at h;omega
  |false=>
   rw[hp,aa] at h;rcases ba.1 a with rfl|a
   ·exact hp
   ·exact Si h y a
def Yh {α:Type}{p:α->Bool}:∀{l:List α} {i:Nat},0<=kD p i l->∃l1 e l2,l=l1++e::l2/\p e=true/\kD p i l=((i+l1.length:Nat):Int)
 |[],i,h=>by simp[kD] at h
 |x::l,i,h=>by
  simp only[kD] at h ⊢;cases hp:p x with
  |true=>exact⟨[],x,l,rfl,hp,by simp⟩
  |false=>rw[hp,aa] at h;obtain⟨l1,e,l2,h1,h2,a⟩:=Yh h;exact⟨x::l1,e,l2,by rw[h1];rfl,h2,by rw[aa,a];simp only[au];omega⟩
def bHl:∀{l:List AH} {x:AH},(∀y∈l,(y.Site==x.Site&&y.Handle==x.Handle)=false)->bH l [x]=l.takeWhile (λe=>wM e x.Site x.Handle)++[x]++l.dropWhile (λe=>wM e x.Site x.Handle)
 |[],x,_=>by rw[jV];rfl
 |a::xs,x,h=>by
  rw[bH,dn,List.dropWhile_cons,bE0];cases h1:dZ a x with
  |true=>simp only[ac,ia];rw[bHl (λy b=>h y (by simp[b]))];rfl
  |false=>
   cases h2:dZ x a with
   |true=>simp only[aa,ac];rw[fE];rfl
   |false=>have:=Ab h1 h2;have:=h a (by simp);simp_all
def bHm {e x:AH}{l2:List AH}(he:(e.Site==x.Site&&e.Handle==x.Handle)=true):∀{l1:List AH},Yg (l1++e::l2)->bH (l1++e::l2) [x]=l1++pJ e x::l2
 |[],_=>by
  have hk:e.Site=x.Site/\e.Handle=x.Handle:=by simpa using he
  have h1:dZ e x=false:=by
   cases h:dZ e x with
   |false=>rfl
   |true=>rw[vE] at h;omega
  have h2:dZ x e=false:=by
   cases h:dZ x e with
   |false=>rfl
   |true=>rw[vE] at h;omega
  rw[bu,bH,h1,aa,h2,aa,fE];rfl
 |a::l1,h=>by
  obtain⟨b,hs⟩:=cn.1 h;have hk:e.Site=x.Site/\e.Handle=x.Handle:=by simpa using he
  have h1:dZ a x=true:=by rw[<-bE1 hk];exact b e (by simp)
  rw[cN,bH,h1,ac,bHm he hs];rfl
def bB5 {l:List AH}{x:AH}(h:Yg l):(bif (decide (aQ ⟨l⟩ x.Site x.Handle<0)||pO x (l.getD (aQ ⟨l⟩ x.Site x.Handle).toNat default)) then(zG ⟨l⟩ x).Entries else l)=bH l [x]:=by
 unfold zG;by_cases a:aQ ⟨l⟩ x.Site x.Handle<0
 ·rw[ak a,jk,ac,show decide (aQ ⟨l⟩ x.Site x.Handle>=0)=false from ao (by omega),aa];exact(bHl (Si a)).symm
 ·obtain⟨l1,e,l2,h1,h2,c⟩:=Yh (show 0<=kD (λe=>e.Site==x.Site&&e.Handle==x.Handle) 0 l from by unfold aQ at a;simp only at a;omega);have b:aQ ⟨l⟩ x.Site x.Handle=(l1.length:Int):=by unfold aQ;rw[c];simp
  rw[b,ao (by omega),cu,show decide ((l1.length:Int)>=0)=true from ak (by omega),ac,bq];subst h1;rw[bHm h2 h];have g:(l1++e::l2).getD l1.length default=e:=by simp[List.getD]
  have st:(l1++e::l2).set l1.length x=l1++x::l2:=by simp
  rw[g];show(bif pO x e then(l1++e::l2).set l1.length x else l1++e::l2)=_;rw[st];unfold pJ;cases pO x e<;>rfl
def bHn {α:Type}{p:Nat->α->Bool}:∀{l:List α} {j:Nat},gM p j l=false->∀(i:Nat) (hi:i<l.length),p (j+i) l[i]=false
 |[],j,_,i,hi=>by simp at hi
 |x::l,j,h,i,hi=>by
  simp only[gM,bn] at h;cases i with
  |zero=>exact h.1
  |succ i=>have:=bHn h.2 i (by simpa using hi);rw[show j+(i+1)=j+1+i by omega];exact this
def aG9 {b:AB}(h:aR b=true):b.Entries.length<=20/\Yg b.Entries:=by
 simp only[aR,ab,bp,ca] at h;refine⟨by omega,?_⟩;have adj:∀i (hi:i+1<b.Entries.length),dZ b.Entries[i] b.Entries[i+1]=true:=λi hi=>by
  have:=bHn h.2 (i+1) hi;simp only[aPv,bn,cj] at this;have a:=this.2.2.2;rw[ak (by omega),cx] at a;have c:(b.Entries.getD (i+1-1) default)=b.Entries[i]:=by rw[Nat.add_sub_cancel,List.getD,ae (by omega),ck]
  rw[c] at a;simpa using a
 have far:∀d i (hi:i+d+1<b.Entries.length),dZ b.Entries[i] b.Entries[i+d+1]=true:=λd=>by
  induction d with
  |zero=>exact λi hi=>adj i hi
  |succ d e=>exact λi hi=>oG (e i (by omega)) (adj (i+d+1) (by omega))
 refine eo.2 λi j hi f k=> ?_;obtain⟨d,rfl⟩:∃d,j=i+d+1:=⟨j-i-1,by omega⟩;exact far d i f
def uS (w:AA):List Int->List AH->(AB×Bool)⊕List AH
 |[],a=> .inr a
 |d::ds,a=>bif (dS ⟨a⟩ (aG w d).aAD).2 then uS w ds (dS ⟨a⟩ (aG w d).aAD).1.Entries else .inl (⟨[]⟩,false)
def Gx (w:AA):AB×Bool:=match uS w (aX w) [] with
 | .inl r=>r
 | .inr a=>(⟨a⟩,true)
def bNj {a b:AB}(h:(dS a b).2=true):aR (dS a b).1=true:=by
 unfold dS at h ⊢;cases h1:(aR a&&aR b) with
 |false=>rw[h1] at h;cases h
 |true=>
  rw[h1] at h;rw[ac] at h ⊢;cases h2:aR ⟨bH a.Entries b.Entries⟩ with
  |false=>rw[h2] at h;cases h
  |true=>rw[ac];exact h2
def gF {α β:Type}{s:List α}(hs:s.length<=34359738368)(x:α)(k:Option β):gd (aV s [x]) k=k:=aB (by unfold aV;simp only[cp];omega)
def oH {α β:Type}{s:List α}(hs:s.length<=34359738368)(k:Option β):gd (aV [] s) k=k:=aB (by unfold aV;simp only[bl];omega)
def bB6 {α:Type}{l s:List α}:l.foldl (λs x=>s++[x]) s=s++l:=by
 have:=aG5 (f:=λx:α=>[x]) (l:=l) (s:=s);rw[this];congr 1;induction l with
 |nil=>rfl
 |cons x l a=>simp[a]
def aCk {α:Type}{l:List α}{F:(Nat×List α->Option (List α))->Nat×List α->Option (List α)}(hl:l.length<=34359738368)
  (a:∀rec i s (hi:i<l.length),s.length<=34359738368->F rec (i,s)=rec (i+1,s++[l[i]])) (b:∀rec s,F rec (l.length,s)=some s):EV.bT FUEL F (0,[])=some l:=by
 rw[aXn (l:=l) (λs x=>s++[x]) (λi s=>s.length=i) (λs=>some s) (by omega) rfl (λi s hi hv=>by simp;omega) (λrec i s hi hv=>a rec i s hi (by omega)) (λrec s _=>b rec s),bB6,bu]
def bNk {α:Type}{l:List α}{F:(List α×Nat->Option (List α))->List α×Nat->Option (List α)}(hl:l.length<=34359738368)
  (a:∀rec i s (hi:i<l.length),s.length<=34359738368->F rec (s,i)=rec (s++[l[i]],i+1)) (b:∀rec s,F rec (s,l.length)=some s):EV.bT FUEL F ([],0)=some l:=by
 rw[gT (l:=l) (λs x=>s++[x]) (λi s=>s.length=i) (λs=>some s) (by omega) rfl (λi s hi hv=>by simp;omega) (λrec i s hi hv=>a rec i s hi (by omega)) (λrec s _=>b rec s),bB6,bu]
abbrev Cy {α:Type}(f:α->Nat)(l:List α):Nat:=l.length+(l.map f).sum
def iZ {S τ:Type}{F:(S->Option τ)->S->Option τ}{n:Nat}{s:S}:EV.bT (n+1) F s=F (EV.bT n F) s:=rfl
def lN {α:Type}{c:Bool}{x y:α}:(bif c then some x else some y)=some (bif c then x else y):=by cases c<;>rfl
def rE {c d:Bool}:(bif c then some true else some d)=some (c||d):=by cases c<;>rfl
def aPx {α:Type}[Inhabited α]{l:List α}{i:Nat}(h:i<l.length):l.set i (l.getD i default)=l:=by rw[List.getD,ae h];simp
def Sj {α:Type}{p:Nat->α->Bool}:∀(l:List α) (j:Nat),gM p j l=true↔∃(i:Nat) (hi:i<l.length),p (j+i) l[i]=true
 |[],j=>by simp[gM]
 |x::xs,j=>by
  simp only[gM,cw,Sj xs];constructor
  ·rintro(h|⟨i,hi,h⟩)
   ·exact⟨0,by simp,h⟩
   ·exact⟨i+1,by simpa using hi,by rw[show j+(i+1)=j+1+i by omega];exact h⟩
  ·rintro⟨i,hi,h⟩;cases i with
   |zero=>exact .inl h
   |succ i=>exact .inr ⟨i,by simpa using hi,by rw[show j+1+i=j+(i+1) by omega];exact h⟩
def bQ6 {α:Type}{τ:Type}{l:List α}(p:α->Bool)(a b:τ)(i:Nat)(hi:i<=l.length)(h:l.length<=34359738368){F:(Nat->Option τ)->Nat->Option τ}(c:∀rec j (d:j<i),F rec j=bif p (l[j]'(by omega)) then some a else rec (j+1))(e:∀rec,F rec i=some b):
  EV.bT FUEL F 0=some (bif (l.take i).any p then a else b):=by
 have ht:(l.take i).length=i:=by rw[bv];omega
 exact jR (l:=l.take i) p _ _ (by omega) (λrec j d=>by rw[c rec j (by omega),e9]) (λrec=>by rw[ht];exact e rec)
def bU1 {α β:Type}{l:List α}(f:α->β){F:(List β×Nat->Option (List β))->List β×Nat->Option (List β)}(hl:l.length<=34359738368)
  (a:∀rec i s (hi:i<l.length),s.length<=34359738368->F rec (s,i)=rec (s++[f l[i]],i+1)) (b:∀rec s,F rec (s,l.length)=some s):EV.bT FUEL F ([],0)=some (l.map f):=by
 rw[gT (l:=l) (λs x=>s++[f x]) (λi s=>s.length=i) (λs=>some s) (by omega) rfl (λi s hi hv=>by simp;omega) (λrec i s hi hv=>a rec i s hi (by omega)) (λrec s _=>b rec s),aG6,bu]
def bS1 {α β:Type}{l:List α}(f:α->β){s0:List β}{F:(List β×Nat->Option (List β))->List β×Nat->Option (List β)}(hl:s0.length+l.length<=34359738368)
  (a:∀rec i s (hi:i<l.length),s.length<=34359738368->F rec (s,i)=rec (s++[f l[i]],i+1)) (b:∀rec s,F rec (s,l.length)=some s):EV.bT FUEL F (s0,0)=some (s0++l.map f):=by
 rw[gT (l:=l) (λs x=>s++[f x]) (λi s=>s.length=s0.length+i) (λs=>some s) (by omega) (by simp) (λi s hi hv=>by simp;omega) (λrec i s hi hv=>a rec i s hi (by omega)) (λrec s _=>b rec s),aG6]
def fM (h:AG)(b:Int):AG×Bool:=bif decide (b<0)||decide (b>=(h.Saved.length:Int)) then(h,false) else(⟨h.Saved.getD (h.Saved.length-1-b.toNat) default,h.Saved,h.Monotonic⟩,true)
def fT (w:AA)(i b:Int):AA×Bool:=bif !aP w||(decide (i<0)||decide (i>=(w.Hosts.length:Int))) then(w,false) else bif (fM (w.Hosts.getD i.toNat default) b).2 then({w with Hosts:=w.Hosts.set i.toNat (fM (w.Hosts.getD i.toNat default) b).1},true) else(w,false)
def aCl {i:Int}{n:Nat}(h:n<=34359738368):(!bI i 0 (IntKind.i64.wrap ((n:Int)-1)))=(decide (i<0)||decide (i>=(n:Int))):=by
 rw[aJ (by omega) (by omega)];unfold bI;by_cases h0:i<0
 ·rw[ak h0,ao (show ¬0<=i by omega)];rfl
 ·rw[ao h0,ak (show 0<=i by omega)];by_cases h1:i>=(n:Int)
  ·rw[ak h1,ao (show ¬i<=(n:Int)-1 by omega)];rfl
  ·rw[ao h1,ak (show i<=(n:Int)-1 by omega)];rfl
def sD {α:Type}[Inhabited α]{l:List α}{i:Int}(h0:0<=i)(h1:i<(l.length:Int)):bA l i=some (l.getD i.toNat default):=by rw[qH h0 (by omega)];simp[List.getD,ae (show i.toNat<l.length by omega)]
def Ml {i:Int}{n:Nat}(h:(decide (i<0)||decide (i>=(n:Int)))=false):0<=i/\i<(n:Int):=by simp only[bn,ct] at h;omega
def wB {α:Type}[Inhabited α]{f:α->Nat}{l:List α}{i:Nat}(h:i<l.length):f (l.getD i default)<=(l.map f).sum:=by rw[List.getD,ae h];exact jQ h
def bB7 (h:AG)(b:Int):(fM h b).1.sz=h.sz:=by unfold fM;cases(decide (b<0)||decide (b>=(h.Saved.length:Int)))<;>rfl
def bE2 (l:List AU)(i:Nat)(s:AU):Bool:= !bI s.Index 1 7||(!bI s.Value 0 1018||(l.take i).any λq=>q.Index==s.Index)
def Ze (l:List AU):Bool:=bI (l.length:Int) 1 7&& !gM (bE2 l) 0 l
def aPy (x:Int)(z v:Int):Int:=(IntKind.i64.wrap (IntKind.i64.wrap (v+dW z 1019)*x)).tmod 1019
def Sk (c:Int)(l:List Int)(x:Int):Int:=(l.foldr (aPy x) 0+dW c 1019)%1019
def bNl (c:List Int)(s:AU):AU:=⟨s.Index,(IntKind.i64.wrap (s.Value+Sk 0 c s.Index)).tmod 1019⟩
def lC (l:List AU)(c:List Int):List AU:=bif Ze l then l.map (bNl c) else[]
def cS (l:List AU)(i:Nat)(k:Int):Bool:=(l.take i).any λq=>q.Index==k
def bB8 {x z v:Int}(a:0<=x/\x<=1000)(hv:0<=v/\v<1019):0<=aPy x z v/\aPy x z v<1019:=by have hm:=uY (p:=z) (q:=1019) (by omega);unfold aPy;generalize dW z 1019=m at*;have b:IntKind.i64.wrap (v+m)=v+m:=aJ (by omega) (by omega);have h2:0<=(v+m)*x:=iv (by omega) a.1;have c:(v+m)*x<=3000*1000:=Int.mul_le_mul (by omega) a.2 a.1 (by omega);rw[b,aJ (by omega) (by omega)];exact⟨fW _ h2,fX _ (by omega)⟩
def aPz {x:Int}(a:0<=x/\x<=1000):∀l:List Int,0<=l.foldr (aPy x) 0/\l.foldr (aPy x) 0<1019
 |[]=>by simp
 |z::l=>bB8 a (aPz a l)
def bNm {σ τ:Type}{l:List Int}(g:Int->σ->σ){s0:σ}(fin:σ->Option τ){F:(σ×Int->Option τ)->σ×Int->Option τ}(hl:l.length<=34359738368)
  (a:∀rec s i (hi:i<l.length),F rec (s,(i:Int))=rec (g l[i] s,(i:Int)-1)) (b:∀rec s,F rec (s,-1)=fin s) {n0:Int} (hn:n0=(l.length:Int)-1):EV.bT FUEL F (s0,n0)=fin (l.foldr g s0):=by
 subst hn;refine Gw (λk s=>k<=l.length/\s=((l.drop (l.length-k)).foldr g s0,(l.length:Int)-1-k)) l.length _ (by omega) ⟨by omega,by simp⟩ (λk s rec hk hv=> ?_) (λs rec hv=> ?_)
 ·obtain⟨_,rfl⟩:=hv;refine .inl ⟨_,⟨hk,rfl⟩,?_⟩;have e:(l.length:Int)-1-k=((l.length-1-k:Nat):Int):=by omega
  have c:l.length-(k+1)=l.length-1-k:=by omega
  have hi:l.length-1-k<l.length:=by omega
  rw[e,a rec _ _ hi,c,co hi,List.foldr_cons,show l.length-1-k+1=l.length-k by omega];congr 2;omega
 ·obtain⟨_,rfl⟩:=hv;simp only[ga,gi];rw[show(l.length:Int)-1-(l.length:Int)= -1 by omega,b]
def aZx {c d:Bool}:(bif c then some d else some false)=some (c&&d):=by cases c<;>rfl
def jY (k:AZ):Bool:=Ze [k.aAQ]&&(bI k.Epoch 0 1000000&&(bI k.Limit 1 10&&bI k.Guesses 0 k.Limit))
def jL (h:AG)(s:AU):Bool:= !jY h.State||(decide (kQ h.State<h.Monotonic)||(h.State.Epoch==1000000||(s.Index !=h.State.aAQ.Index|| !Ze [s])))
def qP (h:AG)(s:AU):AG:=⟨⟨s,IntKind.i64.wrap (h.State.Epoch+1),0,h.State.Limit⟩,h.Saved,kQ ⟨s,IntKind.i64.wrap (h.State.Epoch+1),0,h.State.Limit⟩⟩
def aP0 (h:AG)(s:AU):AG×Bool:=bif jL h s then(h,false) else(qP h s,true)
def aZy (hs:List AG)(a:List AU):List AG×Bool:=bif ((a.length:Int)==0)||(hs.zip a).any (λp=>jL p.1 p.2) then(hs,false) else(List.zipWith qP hs a,true)
def fB (hs:List AG)(c:List Int):List AG×Bool:=aZy hs (lC (hs.map λh=>h.State.aAQ) c)
def aLg (w:AA):Nat->Int->List Int
 |0,_=>[]
 |n+1,k=>bif decide (k<w.aAO.Threshold)&&decide (k<=7) then aZ w.Seed [317,w.Now,k]::aLg w n (k+1) else[]
def aCm (w:AA):List Int:=aLg w 8 1
def eO (w:AA):AA×Bool:=bif aP w&&(fB w.Hosts (aCm w)).2 then({w with Hosts:=(fB w.Hosts (aCm w)).1},true) else(w,false)
def aXs (w:AA):∀(n:Nat) (k:Int),(aLg w n k).length<=n
 |0,_=>ai _
 |n+1,k=>by
  unfold aLg;cases(decide (k<w.aAO.Threshold)&&decide (k<=7)) with
  |true=>have:=aXs w n (k+1);simp only[ac,au];omega
  |false=>simp
def bB9 (l:List AU)(c:List Int):(lC l c).length<=l.length:=by unfold lC;cases Ze l<;>simp
def bCa {l:List AU}{c:List Int}(h:((lC l c).length:Int)≠0):(lC l c).length=l.length:=by
 unfold lC at h ⊢;cases a:Ze l with
 |true=>simp
 |false=>rw[a] at h;simp at h
def bQ7 (b:AB)(s h:Int):Int:=bif decide (aQ b s h>=0) then IntKind.i64.wrap ((b.Entries.getD (aQ b s h).toNat default).Version+1) else 1
def Q4 (b:AB)(s h:Int):AH:=⟨s,h,bQ7 b s h,false⟩
def aUk (b:AB)(s h:Int):AB×Bool:=bif !(decide (aQ b s h>=0)&& !(b.Entries.getD (aQ b s h).toNat default).Deleted)&&(aR b&&aR (zG b (Q4 b s h))) then(zG b (Q4 b s h),true) else(b,false)
def bJz (b:AB)(s h:Int):AH:=⟨s,h,IntKind.i64.wrap ((b.Entries.getD (aQ b s h).toNat default).Version+1),true⟩
def aUl (b:AB)(s h:Int):AB×Bool:=bif !aR b||(decide (aQ b s h<0)||((b.Entries.getD (aQ b s h).toNat default).Deleted||(b.Entries.getD (aQ b s h).toNat default).Version==1000000)) then(b,false) else(zG b (bJz b s h),true)
def sF (d:AD)(n:ByteArray)(h:Int)(rm:Bool):AB×Bool:=bif rm then aUl d.aAD (bM n) h else aUk d.aAD (bM n) h
def dO (d:AD)(n:ByteArray)(h:Int)(rm:Bool):AD×Bool:=bif (sF d n h rm).2 then({d with aAD:=(sF d n h rm).1},true) else(d,false)
def rF (w:AA)(d:Int)(n:ByteArray)(h:Int)(rm:Bool):AA×Bool:=bif aP w&&aL w d then(bif (dO (aG w d) n h rm).2 then({w with Devices:=w.Devices.set d.toNat (dO (aG w d) n h rm).1},true) else(w,false)) else(w,false)
def bQ8 (b:List Int):(zB b).length=b.length+1:=by simp[zB,Nat.add_comm]
def aZz (l:List Int):List.map (λ(n:Int)=>n) l=l:=List.map_id l
def bJ0 (hs:List AG):∀(a:List AU),(List.zipWith qP hs a).length<=hs.length/\((List.zipWith qP hs a).map AG.sz).sum<=(hs.map AG.sz).sum:=by
 induction hs with
 |nil=>intro a;simp
 |cons h hs b=>
  intro a;cases a with
  |nil=>simp
  |cons s a=>have:=b a;have e:(qP h s).sz=h.sz:=rfl;simp only[List.zipWith_cons_cons,au,bo,de,e];omega
def J4 (hs:List AG)(c:List Int):(fB hs c).1.length<=hs.length/\((fB hs c).1.map AG.sz).sum<=(hs.map AG.sz).sum:=by
 unfold fB aZy;generalize lC (hs.map λh=>h.State.aAQ) c=a;cases(((a.length:Int)==0)||(hs.zip a).any (λp=>jL p.1 p.2)) with
 |true=>exact⟨ai _,ai _⟩
 |false=>exact bJ0 hs a
def aUm (w:AA):(eO w).1.sz<=w.sz:=by
 unfold eO;have:=J4 w.Hosts (aCm w);cases(aP w&&(fB w.Hosts (aCm w)).2) with
 |false=>exact ai _
 |true=>simp only[ac,AA.sz];omega
def bCb (b:AB)(x:AH):(zG b x).Entries.length<=b.Entries.length+1:=by
 unfold zG;cases decide (aQ b x.Site x.Handle>=0) with
 |true=>simp
 |false=>have:=congrArg List.length (jm (p:=λe=>wM e x.Site x.Handle) (l:=b.Entries));simp only[ax] at this;simp only[aa,ax,cp];omega
def bQ9 (b:AB)(s h:Int):(aUk b s h).1.Entries.length<=b.Entries.length+1:=by
 unfold aUk;have:=bCb b (Q4 b s h);cases(!(decide (aQ b s h>=0)&& !(b.Entries.getD (aQ b s h).toNat default).Deleted)&&(aR b&&aR (zG b (Q4 b s h)))) with
 |true=>exact this
 |false=>simp
def bRa (b:AB)(s h:Int):(aUl b s h).1.Entries.length<=b.Entries.length+1:=by
 unfold aUl;have:=bCb b (bJz b s h);cases(!aR b||(decide (aQ b s h<0)||((b.Entries.getD (aQ b s h).toNat default).Deleted||(b.Entries.getD (aQ b s h).toNat default).Version==1000000))) with
 |true=>simp
 |false=>exact this
def Ia (d:AD)(n:ByteArray)(h:Int)(rm:Bool):(dO d n h rm).1.sz<=d.sz+1:=by
 unfold dO;have:(sF d n h rm).1.Entries.length<=d.aAD.Entries.length+1:=by
  unfold sF;cases rm with
  |true=>exact bRa _ _ _
  |false=>exact bQ9 _ _ _
 cases(sF d n h rm).2 with
 |true=>simp only[ac,AD.sz];omega
 |false=>simp
def eZ (c:AM)(b:Int):AI×Bool:=bif decide (b<0)||decide (b>=(c.History.length:Int)) then(⟨0,0,[],0⟩,false) else(c.History.getD (c.History.length-1-b.toNat) default,true)
def bJ1 (a b:AF):Bool:=a.Index==b.Index&&(a.Kind==b.Kind&&(a.Device==b.Device&&(a.By==b.By&&(a.Previous==b.Previous&&(a.Signature==b.Signature&&true)))))
def cZ (a b:List AF):Bool:=decide (b.length<=a.length)&& !gM (λi e=> !bJ1 (a.getD i default) e) 0 b
def jA (k:Int)(b:AI):Int:=bP k ([227,b.Epoch,b.Version]++zB b.Data)
def lW (k e v:Int):Int:=aZ k [223,e,v]
def uvE:Nat->Int->List Int
 |0,n=>[n]
 |k+1,n=>bif decide (n>127) then(n%128+128)::uvE k (n/128) else[n]
def aZ0:∀(k:Nat) (n:Int),1<=(uvE k n).length/\(uvE k n).length<=k+1
 |0,n=>by simp[uvE]
 |k+1,n=>by
  have:=aZ0 k (n/128);unfold uvE;cases decide (n>127)<;>simp<;>omega
def bRb {k:Nat}{z:Int}(h:z<=127):uvE k z=[z]:=by
 cases k with
 |zero=>rfl
 |succ k=>unfold uvE;rw[ao (by omega)];rfl
def bHo:∀(k:Nat) (m n:Int) (x y:List Int),0<=m->0<=n->uvE k m++x=uvE k n++y->m=n/\x=y
 |0,m,n,x,y,_,_,h=>by simpa[uvE] using h
 |k+1,m,n,x,y,h0,h1,h=>by
  unfold uvE at h;by_cases hm:m>127<;>by_cases hn:n>127
  ·simp only[ak hm,ak hn,ac,cN,fS] at h;have:=bHo k (m/128) (n/128) x y (by omega) (by omega) h.2;exact⟨by omega,this.2⟩
  ·simp only[ak hm,ao hn,ac,aa,cN,fS] at h;omega
  ·simp only[ao hm,ak hn,ac,aa,cN,fS] at h;omega
  ·simpa only[ao hm,ao hn,aa,cN,bu,fS] using h
def bCc {F:(Int×List Int->Option (Int×List Int))->Int×List Int->Option (Int×List Int)}
  (a:∀rec (n:Int) (s:List Int),0<=n->n<9223372036854775807->s.length<=34359738368->F rec (n,s)=bif decide (n>127) then rec (n/128,s++[n%128+128]) else some (n,s)):
  ∀(k:Nat) (n:Int) (s:List Int) (f:Nat),k<f->0<=n->n<128^(k+1)->k<=6->s.length+k<=34359738368->∃m q,EV.bT f F (n,s)=some (m,q)/\q++[m]=s++uvE k n/\0<=m/\m<=127
 |0,n,s,f+1,b,h0,h1,_,hs=>by
  refine⟨n,s,?_,rfl,h0,by simp at h1;omega⟩;rw[iZ,a _ _ _ h0 (by simp at h1;omega) (by omega),ao (by simp at h1;omega)];rfl
 |k+1,n,s,f+1,b,h0,h1,hk,hs=>by
  have h2:(128:Int)^(k+1+1)=128*128^(k+1):=by rw[fc];omega
  have h:(128:Int)^(k+1+1)<=128^8:=by exact_mod_cast io (by omega) (by omega)
  have i:(128:Int)^8=72057594037927936:=by decide
  rw[iZ,a _ _ _ h0 (by omega) (by omega)];unfold uvE;by_cases hn:n>127
  ·rw[ak hn,ac,ac];obtain⟨m,q,c,d,e⟩:=bCc a k (n/128) (s++[n%128+128]) f (by omega) (by omega) (by omega) (by omega) (by simp;omega);exact⟨m,q,c,by rw[d];simp,e⟩
  ·rw[ao hn,aa,aa];exact⟨n,s,rfl,rfl,h0,by omega⟩
def bRc {n:Int}(h0:0<=n)(h1:n<9223372036854775808):oQ .i64 n 127=n%128:=by
 obtain⟨m,rfl⟩:=ee h0;have e:((BitVec.ofInt 64 (m:Int))&&&(BitVec.ofInt 64 127)).toNat=m%128:=by
  rw[BitVec.toNat_and];have a:(BitVec.ofInt 64 (m:Int)).toNat=m:=by rw[BitVec.toNat_ofInt];omega
  have b:(BitVec.ofInt 64 127).toNat=2^7-1:=by decide
  rw[a,b,gk]
 show IntKind.i64.wrap (((BitVec.ofInt 64 (m:Int))&&&(BitVec.ofInt 64 127)).toNat:Int)=_;rw[e,aJ (by omega) (by omega)];omega
def bU2 {n:Int}(h0:0<=n)(h1:n<128):orI .i64 n 128=n+128:=by
 obtain⟨m,rfl⟩:=ee h0;have e:((BitVec.ofInt 64 (m:Int))|||(BitVec.ofInt 64 128)).toNat=m+128:=by
  rw[BitVec.toNat_or];have a:(BitVec.ofInt 64 (m:Int)).toNat=m:=by rw[BitVec.toNat_ofInt];omega
  have c:(BitVec.ofInt 64 128).toNat=1<<<7:=by decide
  have:=jv (b:=m) (i:=7) (by omega) 1;rw[a,c,Nat.or_comm,<-this];omega
 show IntKind.i64.wrap (((BitVec.ofInt 64 (m:Int))|||(BitVec.ofInt 64 128)).toNat:Int)=_;rw[e,aJ (by omega) (by omega)];omega
def bWr {n:Int}(h0:0<=n):Gt .i64 n 7=n/128:=by unfold Gt;rw[show min (Int.toNat 7) IntKind.i64.bits=7 from by decide,gy _ (by decide)];rfl
def aP1 {n:Int}(h0:0<=n)(h1:n<=255):IntKind.u8.wrap n=n:=by rw[IntKind.wrap_u8];omega
def enc1 (n:Int):List Int:=bif bI n 0 1000000000000 then uvE 5 n else[]
def sG (b:List Int)(n:Int):List Int:=b++enc1 n
def jG (l:List Int):List Int:=(l.map enc1).flatten
theorem aCn (n:Int):(enc1 n).length<=6:=by have:=(aZ0 5 n).2;unfold enc1;cases bI n 0 1000000000000<;>simp<;>omega
def aOa {n:Int}(h:0<=n/\n<=1000000000000):enc1 n=uvE 5 n:=by unfold enc1 bI;rw[ak h.1,ak h.2];rfl
def vG (n:Int)(l:List Int):jG (n::l)=enc1 n++jG l:=rfl
def aCo:∀l:List Int,(jG l).length<=6*l.length
 |[]=>by simp[jG]
 |n::l=>by
  have:=aCo l;have:=aCn n;rw[vG,ax,au];omega
def aUn (l:List Int):Prop:=∀v∈l,0<=v/\v<=(1000000000000:Int)
def bCd:∀(s t x y:List Int),aUn s->aUn t->s.length=t.length->jG s++x=jG t++y->s=t/\x=y
 |[],[],x,y,_,_,_,h=>⟨rfl,h⟩
 |m::s,n::t,x,y,hs,ht,hl,h=>by
  have hm:=hs m (by simp);have hn:=ht n (by simp);rw[vG,vG,cq,cq,aOa hm,aOa hn] at h;obtain⟨h1,h2⟩:=bHo 5 m n _ _ hm.1 hn.1 h;obtain⟨a,b⟩:=bCd s t x y (λv hv=>hs v (by simp[hv])) (λv hv=>ht v (by simp[hv])) (by simpa using hl) h2;exact⟨by rw[h1,a],b⟩
def bHp {b:List Int}(hb:bD b){p:Nat}:∀(k i:Nat) (n m e:Int),uvG b p (k+1) i n=(m,e,true)->∃(r:Int) (q:Nat),(0<=r/\m=n+r*128^i/\m<=1000000000000/\e=(q:Int)/\q<=b.length/\(0<i->r≠0))/\b.drop (p+i)=uvE k r++b.drop q
 |k,i,n,m,e,h=>by
  unfold uvG at h;by_cases a:p+i<b.length
  ·rw[cQ a] at h;have l:=wK hb a;have hg:b.getD (p+i) 0=b[p+i]:=by simp[List.getD,ae a]
   rw[hg] at h;have hd:b.drop (p+i)=b[p+i]::b.drop (p+i+1):=co a;generalize b[p+i]=z at l h hd;by_cases c:z<128
   ·rw[ak c,ac] at h;have d:z%128=z:=by omega
    rw[d] at h;cases hc:(decide (0<i)&&z==0)||decide (n+z*128^i>1000000000000) with
    |true=>rw[hc] at h;simp at h
    |false=>rw[hc,aa] at h;rw[bn] at hc;have h1:=of_decide_eq_false hc.2;injection h with f j;injection j with j w;refine⟨z,p+i+1,⟨l.1,f.symm,by omega,j.symm,by omega,λhi h0=> ?_⟩,by rw[hd,bRb (by omega)];rfl⟩;subst h0;simp[hi] at hc
   ·rw[ao c,aa] at h
    match k,h with
    |0,h=>simp[uvG] at h
    |k+1,h=>
     obtain⟨r,q,⟨h1,h2,o,s,t,u⟩,v⟩:=bHp hb k (i+1) _ m e h;have hr:=u (by omega);refine⟨z%128+128*r,q,⟨by omega,?_,o,s,t,λ_=>by omega⟩,?_⟩
     ·rw[h2,fc,Int.add_mul,<-Int.add_assoc];congr 1;rw[fe 128 r,eL,fe 128]
     ·rw[hd,show p+i+1=p+(i+1) from by omega,v];have f:uvE (k+1) (z%128+128*r)=z::uvE k r:=by rw[uvE,ak (show z%128+128*r>127 by omega),ac,show(z%128+128*r)%128+128=z by omega,show(z%128+128*r)/128=r by omega]
      rw[f];rfl
  ·rw[dk a] at h;simp at h
def aZ1 {b:List Int}(hb:bD b){a m e:Int}(h:zC b a=(m,e,true)):∃q:Nat,(0<=a/\0<=m/\m<=1000000000000/\e=(q:Int)/\q<=b.length)/\b.drop a.toNat=enc1 m++b.drop q:=by
 unfold zC at h;by_cases h0:a<0
 ·rw[cQ h0] at h;simp at h
 ·rw[dk h0] at h;obtain⟨r,q,⟨h1,h2,c,d,f,_⟩,i⟩:=bHp hb 5 0 0 m e h;have hm:m=r:=by rw[h2];simp
  subst hm;exact⟨q,⟨by omega,h1,c,d,f⟩,by rw[aOa ⟨h1,c⟩];exact i⟩
def Sl {b:List Int}(hb:bD b):∀(k:Nat) (a:Int) (s v:List Int) (e:Int),0<=a->a<=b.length->kX b k a s=(v,e,true)->∃(t:List Int) (q:Nat),(v=s++t/\t.length=k/\e=(q:Int)/\q<=b.length/\aUn t)/\b.drop a.toNat=jG t++b.drop q
 |0,a,s,v,e,h0,h1,h=>by
  unfold kX at h;injection h with i d;injection d with d _;exact⟨[],a.toNat,⟨by simp[i],rfl,by omega,by omega,λv hv=>by simp at hv⟩,rfl⟩
 |k+1,a,s,v,e,h0,h1,h=>by
  unfold kX at h;cases f:zC b a with
  |mk m r=>
   obtain⟨e',ok⟩:=r;rw[f] at h;cases ok with
   |false=>simp at h
   |true=>
    obtain⟨q,⟨p,j,l,n,u⟩,o⟩:=aZ1 hb f;subst n;obtain⟨t,q',⟨k1,k2,k3,k4,k5⟩,k6⟩:=Sl hb k (q:Int) (s++[m]) v e (by omega) (by omega) h;refine⟨m::t,q',⟨by rw[k1];simp,by simp[k2],k3,k4,λx c=> ?_⟩,by rw[o,vG,cq];congr 1⟩;rcases ba.1 c with rfl|c
    ·exact⟨j,l⟩
    ·exact k5 x c
def aP2 {b:List Int}:∀(j k:Nat) (a:Int) (s:List Int),kX b (j+k) a s=bif (kX b j a s).2.2 then kX b k (kX b j a s).2.1 (kX b j a s).1 else([],0,false)
 |0,k,a,s=>by rw[cj];rfl
 |j+1,k,a,s=>by
  have e:∀m,kX b (m+1) a s=bif (zC b a).2.2 then kX b m (zC b a).2.1 (s++[(zC b a).1]) else([],0,false):=λ_=>rfl;rw[show j+1+k=j+k+1 by omega,e,e];cases(zC b a).2.2 with
  |false=>rfl
  |true=>exact aP2 j k _ _
def aP3 {b:List Int}:∀(k:Nat) (a:Int) (s:List Int),kX b k a s=bif (kX b k a []).2.2 then(s++(kX b k a []).1,(kX b k a []).2.1,true) else([],0,false)
 |0,a,s=>by simp[kX]
 |k+1,a,s=>by
  unfold kX;cases(zC b a).2.2 with
  |false=>rfl
  |true=>simp only[ac,bu];rw[aP3 k _ (s++[(zC b a).1]),aP3 k _ [(zC b a).1]];cases(kX b k (zC b a).2.1 []).2.2<;>simp
def aUo (e:AH):List Int:=[e.Site,e.Handle,e.Version,bif e.Deleted then 1 else 0]
def mF:List Int->List AH
 |s::h::v::d::r=>⟨s,h,v,d==1⟩::mF r
 |_=>[]
def lQ:List Int->Bool
 |_::_::_::d::r=>decide (d<=1)&&lQ r
 |_=>true
def kH (l:List AH):List Int:=l.flatMap aUo
def vH:∀l:List AH,(kH l).length=4*l.length
 |[]=>rfl
 |e::l=>by
  have:=vH l;simp only[kH,List.flatMap_cons,ax,au] at*;rw[this];simp[aUo];omega
def aCp:∀(k:Nat) (l:List Int),l.length=4*k->(mF l).length=k
 |0,[],_=>rfl
 |k+1,s::h::v::d::r,hl=>by
  have:=aCp k r (by simp at hl;omega);simp[mF,this]
def aXt:∀(k:Nat) (l:List Int),l.length=4*k->aUn l->aUn (kH (mF l))/\(lQ l=true↔kH (mF l)=l)
 |0,[],_,_=>⟨λv h=>by simp[kH,mF] at h,by simp[lQ,kH,mF]⟩
 |k+1,s::h::v::d::r,hl,ho=>by
  obtain⟨h1,h2⟩:=aXt k r (by simp at hl;omega) (λx a=>ho x (by simp[a]));have hs:=ho s (by simp);have b:=ho h (by simp);have hv:=ho v (by simp);have hd:=ho d (by simp);have e:kH (mF (s::h::v::d::r))=s::h::v::(bif d==1 then 1 else 0)::kH (mF r):=by simp[mF,kH,aUo]
  rw[e];refine⟨λx a=> ?_,?_⟩
  ·simp only[ba] at a;rcases a with rfl|rfl|rfl|rfl|a
   ·exact hs
   ·exact b
   ·exact hv
   ·cases(d==1)<;>simp
   ·exact h1 x a
  ·simp only[lQ,ab,bp,fS,true_and,h2];refine and_congr_left' ?_;by_cases h1:d=1
   ·subst h1;simp
   ·rw[show(d==1)=false by simpa using h1,aa];omega
def bCe:∀(k:Nat) (l r:List Int),l.length=4*k->mF (l++r)=mF l++mF r
 |0,[],r,_=>rfl
 |k+1,s::h::v::d::l,r,hl=>by
  have:=bCe k l r (by simp at hl;omega);simp[mF,this]
def qB (b:AB):List Int:=[(b.Entries.length:Int)]++kH b.Entries
def nS (b:AB):List Int:=bif aR b then jG (qB b) else[]
def bCf (d:List Int)(v:List Int×Int×Bool):AB×Bool:=bif !v.2.2||(v.2.1 !=(d.length:Int)||(!lQ v.1|| !aR ⟨mF v.1⟩)) then(⟨[]⟩,false) else(⟨mF v.1⟩,true)
def Dt (d:List Int):AB×Bool:=bif !(zC d 0).2.2||decide ((zC d 0).1>20) then(⟨[]⟩,false) else bCf d (kX d (4*(zC d 0).1).toNat (zC d 0).2.1 [])
def gZ (key:Int)(s:AI):AB×Bool:=bif !(bK key&&(bI s.Epoch 0 1000000&&bI s.Version 0 1000000))||s.MAC !=jA key s then(⟨[]⟩,false) else Dt (Sa (lW key s.Epoch s.Version) s.Data)
def bNn {d:List Int}(hd:bD d){n e e':Int}{v:List Int}(h:zC d 0=(n,e,true))(hn:n<=20)(j:kX d (4*n).toNat e []=(v,e',true)):(jG (qB ⟨mF v⟩)=d↔(e'=(d.length:Int)/\lQ v=true))/\v.length=4*n.toNat/\aUn v/\(mF v).length=n.toNat:=by
 obtain⟨q,⟨_,k,m,o,w⟩,p⟩:=aZ1 hd h;subst o;obtain⟨t,q',⟨k1,k2,k3,k4,k5⟩,k6⟩:=Sl hd _ _ _ _ _ (by omega) (by omega) j;rw[bu] at k1;subst k1;have hl:v.length=4*n.toNat:=by omega
 obtain⟨r,i⟩:=aXt n.toNat v hl k5;have a:=aCp n.toNat v hl;refine⟨?_,hl,k5,a⟩;have b:d=jG (n::v)++d.drop q':=by have h0:d.drop (Int.toNat 0)=d:=rfl;rw[vG,cq,<-k6];exact h0▸p
 have hv:qB ⟨mF v⟩=n::kH (mF v):=by show((mF v).length:Int)::_=_;rw[a];congr 1;omega
 rw[hv];constructor
 ·intro hq;have c:jG (n::kH (mF v))++[]=jG (n::v)++d.drop q':=by rw[cY,hq];exact b
  have f:∀l,aUn l->aUn (n::l):=λl hl x c=>by
   rcases ba.1 c with rfl|c
   ·exact⟨k,m⟩
   ·exact hl x c
  obtain⟨s,u⟩:=bCd _ _ _ _ (f _ r) (f _ k5) (by simp[vH,a,hl]) c;have:=congrArg List.length u;simp only[bl,cz] at this;exact⟨by omega,i.2 (List.cons.inj s).2⟩
 ·rintro⟨h1,h2⟩;rw[i.1 h2];have:d.drop q'=[]:=gj (by omega);rw[this,cY] at b;exact b.symm
def aXu (l:List Int):(EV.bIx l).data.toList=l.map λn=>UInt8.ofNat n.toNat:=by
 unfold EV.bIx;have:∀(l:List Int) (r:ByteArray),(l.foldl (λr n=>r.push (UInt8.ofNat n.toNat)) r).data.toList=r.data.toList++l.map λn=>UInt8.ofNat n.toNat:=by
  intro l;induction l with
  |nil=>intro r;simp
  |cons x l a=>intro r;rw[dh,a];simp
 rw[this];rfl
def bytes_inj:∀{a b:List Int},(∀z∈a,0<=z/\z<=255)->(∀z∈b,0<=z/\z<=255)->(a.map λn=>UInt8.ofNat n.toNat)=(b.map λn=>UInt8.ofNat n.toNat)->a=b
 |[],[],_,_,_=>rfl
 |[],y::b,_,_,h=>by simp at h
 |x::a,[],_,_,h=>by simp at h
 |x::a,y::b,d,hb,h=>by
  simp only[bo,fS] at h;have f:=d x (by simp);have i:=hb y (by simp);have e:=congrArg UInt8.toNat h.1;rw[UInt8.toNat_ofNat',UInt8.toNat_ofNat'] at e;rw[bytes_inj (λz c=>d z (by simp[c])) (λz c=>hb z (by simp[c])) h.2,show x=y by omega]
def Sm {b:List Int}(h:bD b):∀z∈b,0<=z/\z<=255:=λz a=>by simpa using cG.1 h.2 z a
def aP4 {b:List Int}(h:b.length<=34359738368)(h1:∀z∈b,0<=z/\z<=255):bD b:=⟨h,cG.2 λz a=>by simpa using h1 z a⟩
def aXv:∀(k:Nat) (n:Int),0<=n->n<128^(k+1)->∀z∈uvE k n,0<=z/\z<=255
 |0,n,h0,h1,z,a=>by simp[uvE] at a;subst a;simp at h1;omega
 |k+1,n,h0,h1,z,a=>by
  have h2:(128:Int)^(k+1+1)=128*128^(k+1):=by rw[fc];omega
  unfold uvE at a;by_cases hn:n>127
  ·rw[ak hn,ac] at a;rcases ba.1 a with rfl|a
   ·omega
   ·exact aXv k (n/128) (by omega) (by omega) z a
  ·rw[ao hn,aa] at a;simp at a;subst a;omega
def bE3 (n:Int):∀z∈enc1 n,0<=z/\z<=255:=λz a=>by
 unfold enc1 at a;cases hr:bI n 0 1000000000000 with
 |false=>rw[hr] at a;simp at a
 |true=>
  rw[hr] at a;have:=iA hr;have b:(128:Int)^(5+1)=4398046511104:=by decide
  exact aXv 5 n this.1 (by omega) z a
def Q5 (l:List Int):∀z∈jG l,0<=z/\z<=255:=λz a=>by
 unfold jG at a;obtain⟨x,b,a⟩:=jo.1 a;obtain⟨n,_,rfl⟩:=cg.1 b;exact bE3 n z a
def mO {b:AB}(h:aR b=true):b.Entries.length<=20:=by simp only[aR,ab,bp] at h;omega
def aCq (b:AB):bD (nS b):=by
 unfold nS;cases hb:aR b with
 |false=>exact⟨by simp,rfl⟩
 |true=>
  have:=mO hb;have h1:=aCo (qB b);have h2:(qB b).length=1+4*b.Entries.length:=by simp[qB,vH];omega
  exact aP4 (by rw[ac];omega) (Q5 _)
def bNo (d:List Int):(Dt d).1.sz<=20:=by
 have h0:(AB.mk []).sz<=20:=by simp[AB.sz]
 unfold Dt;cases !(zC d 0).2.2||decide ((zC d 0).1>20) with
 |true=>exact h0
 |false=>
  rw[aa];generalize kX d (4*(zC d 0).1).toNat (zC d 0).2.1 []=v;unfold bCf;cases hb:aR ⟨mF v.1⟩ with
  |false=>simp only[db,Bool.or_true,ac];exact h0
  |true=>
   have:=mO hb;cases !v.2.2||(v.2.1 !=(d.length:Int)||(!lQ v.1|| !true)) with
   |true=>exact h0
   |false=>simp only[aa,AB.sz] at*;omega
def aXw (k:Int)(s:AI):(gZ k s).1.sz<=20:=by
 unfold gZ;cases !(bK k&&(bI s.Epoch 0 1000000&&bI s.Version 0 1000000))||s.MAC !=jA k s with
 |true=>simp[AB.sz]
 |false=>exact bNo _
def aHa {a b:AB}(h:(dS a b).2=true):(dS a b).1.sz<=20:=by
 unfold dS at*;cases hc:aR a&&aR b with
 |false=>rw[hc] at h;cases h
 |true=>
  rw[hc] at h;cases hm:aR ⟨bH a.Entries b.Entries⟩ with
  |false=>rw[hm] at h;cases h
  |true=>have:=mO hm;simp only[ac,AB.sz];omega
def jW (d:AD)(log:List AF)(bx:AN)(s:AI):Int:=
 bif !aY log|| !cZ log d.Log then 1 else bif !jE (aC log) (aT d.Store) then 2 else bif bx.Epoch !=aD log|| !(bL d.Store bx).2 then 3
 else bif decide (s.Epoch<aD log)||(decide (s.Epoch<d.Epoch)||(s.Epoch==d.Epoch&&decide (s.Version<d.Version))) then 4
 else bif !(gZ (bL d.Store bx).1 s).2|| !(dS d.aAD (gZ (bL d.Store bx).1 s).1).2 then 5 else 0
def bR (d:AD)(log:List AF)(bx:AN)(s:AI):AD×Int:=
 bif jW d log bx s==0 then(⟨d.Store,log,(bL d.Store bx).1,s.Epoch,s.Version,(dS d.aAD (gZ (bL d.Store bx).1 s).1).1⟩,0) else(d,jW d log bx s)
def aM (w:AA)(d b:Int):AA×Int:=bif aP w&&aL w d then({w with Devices:=w.Devices.set d.toNat (bR (aG w d) w.aAC.Log w.aAC.Boxes (eZ w.aAC b).1).1},(bR (aG w d) w.aAC.Log w.aAC.Boxes (eZ w.aAC b).1).2) else(w,1)
def eT (w:AA)(d:Int):Bool:=w.Stolen.getD d.toNat false
def aP5 (d:AD)(l:List AF)(bx:AN)(s:AI):(bR d l bx s).1.sz<=d.sz+l.length+20:=by
 unfold bR;cases hc:jW d l bx s==0 with
 |false=>simp only[aa];omega
 |true=>
  have hm:(dS d.aAD (gZ (bL d.Store bx).1 s).1).2=true:=by
   cases hm:(dS d.aAD (gZ (bL d.Store bx).1 s).1).2 with
   |true=>rfl
   |false=>
    unfold jW at hc;rw[hm] at hc
    revert hc
    cases !aY l|| !cZ l d.Log<;>cases !jE (aC l) (aT d.Store)<;>cases bx.Epoch !=aD l|| !(bL d.Store bx).2<;>cases decide (s.Epoch<aD l)||(decide (s.Epoch<d.Epoch)||(s.Epoch==d.Epoch&&decide (s.Version<d.Version)))<;>cases !(gZ (bL d.Store bx).1 s).2<;>simp
  have:=aHa hm;simp only[ac,AD.sz,AB.sz] at*;omega
def bE4 (k:Int)(i:Nat)(z:Int):Int:=IntKind.u8.wrap ((z+bP k [(i:Int)])%256)
def nT (k:Int)(b:List Int):List Int:=Pq (λi z=>[bE4 k i z]) 0 b
def gB (k e v:Int)(b:AB):AI:=⟨e,v,nT (lW k e v) (nS b),jA k ⟨e,v,nT (lW k e v) (nS b),0⟩⟩
def qC (k e v:Int)(b:AB):AI×Bool:=bif bK k&&(bI e 0 1000000&&bI v 0 1000000)&&aR b then(gB k e v b,true) else(⟨0,0,[],0⟩,false)
def cB (d:AD):AD×AI×Bool:=bif (qC d.Key d.Epoch (IntKind.i64.wrap (d.Version+1)) d.aAD).2 then({d with Version:=IntKind.i64.wrap (d.Version+1)},(qC d.Key d.Epoch (IntKind.i64.wrap (d.Version+1)) d.aAD).1,true) else(d,⟨0,0,[],0⟩,false)
def pQ (a b:AI):Bool:=decide (a.Epoch>b.Epoch)||(a.Epoch==b.Epoch&&decide (a.Version>b.Version))
def bZ (c:AM)(s:AI):AM×Bool:=bif s.Epoch !=aD c.Log||((decide ((c.History.length:Int)>0)&& !pQ s (c.History.getD (c.History.length-1) default))||decide ((c.History.length:Int)>=60)) then(c,false) else({c with History:=c.History++[s]},true)
def Sq (w:AA)(d:Int):AA×Bool:=bif (cB (aG w d)).2.2&&(bZ w.aAC (cB (aG w d)).2.1).2 then({w with Devices:=w.Devices.set d.toNat (cB (aG w d)).1,aAC:=(bZ w.aAC (cB (aG w d)).2.1).1},true) else(w,false)
def fH (w:AA)(d:Int):AA×Bool:=bif (aM w d 0).2==0&&(Sq (aM w d 0).1 d).2 then((Sq (aM w d 0).1 d).1,true) else(w,false)
def lS:List Int->AA->AA×Bool
 |[],w=>(w,true)
 |i::l,w=>bif (fH w i).2 then lS l (fH w i).1 else(w,false)
def sH:List Int->AA->AA×Bool
 |[],w=>(w,true)
 |i::l,w=>bif (aM w i 0).2==0 then sH l (aM w i 0).1 else(w,false)
def kP (w:AA):AA×Bool:=bif aP w&&((lS (aX w) w).2&&(sH (aX w) (lS (aX w) w).1).2) then((sH (aX w) (lS (aX w) w).1).1,true) else(w,false)
def aXx (b:AB):(nS b).length<=500:=by
 unfold nS;cases hb:aR b with
 |false=>simp
 |true=>
  have:=mO hb;have h1:=aCo (qB b);have h2:(qB b).length=1+4*b.Entries.length:=by simp[qB,vH];omega
  rw[ac];omega
theorem Sr (k:Int)(b:List Int):(nT k b).length=b.length:=by unfold nT;exact rY
def bJ2 (k e v:Int)(b:AB):(qC k e v b).1.Data.length<=500:=by
 unfold qC;cases bK k&&(bI e 0 1000000&&bI v 0 1000000)&&aR b with
 |false=>simp
 |true=>simp only[ac,gB,Sr];exact aXx b
def zM (d:AD):(cB d).1.sz=d.sz/\(cB d).2.1.Data.length<=500:=by
 unfold cB;have:=bJ2 d.Key d.Epoch (IntKind.i64.wrap (d.Version+1)) d.aAD;cases(qC d.Key d.Epoch (IntKind.i64.wrap (d.Version+1)) d.aAD).2 with
 |false=>exact⟨rfl,by simp⟩
 |true=>exact⟨rfl,this⟩
theorem vI (c:AM)(s:AI):(bZ c s).1.sz<=c.sz+1+s.Data.length/\(bZ c s).1.Log=c.Log:=by
 unfold bZ;cases s.Epoch !=aD c.Log||((decide ((c.History.length:Int)>0)&& !pQ s (c.History.getD (c.History.length-1) default))||decide ((c.History.length:Int)>=60)) with
 |true=>exact⟨by simp only[ac];omega,rfl⟩
 |false=>refine⟨?_,rfl⟩;simp only[aa,AM.sz,ax,cX,fR,au,bl,bo,eJ,de,gv,AI.sz];omega
def vJ {α:Type}{f:α->Nat}:∀{l:List α} {i:Nat} {x:α} (hi:i<l.length),((l.set i x).map f).sum+f l[i]=(l.map f).sum+f x
 |y::l,0,x,_=>by simp only[jb,bo,de,ic];omega
 |y::l,i+1,x,h=>by
  have:=vJ (f:=f) (l:=l) (i:=i) (x:=x) (by simpa using h);simp only[gx,bo,de,fb];omega
def mP {w:AA}{d b:Int}(h:((aM w d b).2==0)=true):(aP w=true/\aL w d=true)/\(aM w d b).1.aAC=w.aAC/\(aM w d b).1.Devices.length=w.Devices.length/\(aM w d b).1.sz<=w.sz+w.aAC.Log.length+20:=by
 unfold aM at*;cases hc:(aP w&&aL w d) with
 |false=>rw[hc] at h;cases h
 |true=>
  rw[hc] at h;simp only[ac] at h ⊢;rw[ab] at hc;refine⟨hc,by first|rfl|trivial,by first|exact aw|simp,?_⟩;have hd:=hc.2;simp only[aL,ab,bp] at hd;have hi:d.toNat<w.Devices.length:=by omega
  have a:(bR (aG w d) w.aAC.Log w.aAC.Boxes (eZ w.aAC b).1).1.sz<=w.aAC.Log.length+20:=by
   unfold bR at*;cases hs:jW (aG w d) w.aAC.Log w.aAC.Boxes (eZ w.aAC b).1==0 with
   |false=>rw[hs] at h;simp only[aa] at h;rw[hs] at h;cases h
   |true=>
    have hm:(dS (aG w d).aAD (gZ (bL (aG w d).Store w.aAC.Boxes).1 (eZ w.aAC b).1).1).2=true:=by
     cases hm:(dS (aG w d).aAD (gZ (bL (aG w d).Store w.aAC.Boxes).1 (eZ w.aAC b).1).1).2 with
     |true=>rfl
     |false=>
      unfold jW at hs;rw[hm] at hs
      revert hs
      generalize(aG w d)=x;generalize(eZ w.aAC b).1=s;cases !aY w.aAC.Log|| !cZ w.aAC.Log x.Log<;>cases !jE (aC w.aAC.Log) (aT x.Store)<;>cases w.aAC.Boxes.Epoch !=aD w.aAC.Log|| !(bL x.Store w.aAC.Boxes).2<;>cases decide (s.Epoch<aD w.aAC.Log)||(decide (s.Epoch<x.Epoch)||(s.Epoch==x.Epoch&&decide (s.Version<x.Version)))<;>cases !(gZ (bL x.Store w.aAC.Boxes).1 s).2<;>simp
    have:=aHa hm;simp only[ac,AD.sz,AB.sz] at*;omega
  have h1:=vJ (f:=AD.sz) (l:=w.Devices) (i:=d.toNat) (x:=(bR (aG w d) w.aAC.Log w.aAC.Boxes (eZ w.aAC b).1).1) hi;generalize(bR (aG w d) w.aAC.Log w.aAC.Boxes (eZ w.aAC b).1).1=x at*;simp only[AA.sz,aw] at*;omega
theorem bS2 {w:AA}{d:Int}(hd:aL w d=true):(Sq w d).1.aAC.Log=w.aAC.Log/\(Sq w d).1.Devices.length=w.Devices.length/\(Sq w d).1.sz<=w.sz+501:=by
 unfold Sq;cases(cB (aG w d)).2.2&&(bZ w.aAC (cB (aG w d)).2.1).2 with
 |false=>exact⟨rfl,rfl,by simp only[aa];omega⟩
 |true=>
  have a:=vI w.aAC (cB (aG w d)).2.1;have b:=zM (aG w d);simp only[aL,ab,bp] at hd;have hi:d.toNat<w.Devices.length:=by omega
  have h1:=vJ (f:=AD.sz) (l:=w.Devices) (i:=d.toNat) (x:=(cB (aG w d)).1) hi;have e:w.Devices[d.toNat]=aG w d:=by simp[aG,List.getD,ae hi]
  rw[e] at h1;refine⟨a.2,aw,?_⟩;generalize(bZ w.aAC (cB (aG w d)).2.1).1=c at*;generalize cB (aG w d)=x at*;simp only[ac,AA.sz,AM.sz,aw] at*;omega
theorem Yi {w:AA}{d:Int}(h:(fH w d).2=true):(fH w d).1.aAC.Log=w.aAC.Log/\(fH w d).1.sz<=w.sz+w.aAC.Log.length+521:=by
 unfold fH at*;cases hc:((aM w d 0).2==0&&(Sq (aM w d 0).1 d).2) with
 |false=>rw[hc] at h;cases h
 |true=>
  rw[ab] at hc;obtain⟨⟨k1,k2⟩,k3,k4,k5⟩:=mP hc.1;have hd:aL (aM w d 0).1 d=true:=by simp only[aL] at*;rw[k4];exact k2
  obtain⟨a,b,c⟩:=bS2 hd;simp only[ac];exact⟨by rw[a,k3],by omega⟩
def Q6:∀(l:List Int) (w:AA),(lS l w).1.sz<=w.sz+l.length*(w.aAC.Log.length+521)/\(lS l w).1.aAC.Log=w.aAC.Log
 |[],w=>⟨by simp[lS],rfl⟩
 |i::l,w=>by
  unfold lS;cases hp:(fH w i).2 with
  |false=>exact⟨by simp only[aa];omega,rfl⟩
  |true=>obtain⟨h1,h2⟩:=Yi hp;obtain⟨b,a⟩:=Q6 l (fH w i).1;rw[h1] at b a;simp only[ac,au,di];exact⟨by omega,a⟩
def aP6:∀(l:List Int) (w:AA),(sH l w).1.sz<=w.sz+l.length*(w.aAC.Log.length+20)
 |[],w=>by simp[sH]
 |i::l,w=>by
  unfold sH;cases hp:((aM w i 0).2==0) with
  |false=>simp only[aa];omega
  |true=>obtain⟨_,h1,_,h2⟩:=mP hp;have a:=aP6 l (aM w i 0).1;rw[h1] at a;simp only[ac,au,di];omega
def bNp {k z:Int}(i:Nat)(h:0<=z/\z<=255):IntKind.u8.wrap ((IntKind.i64.wrap (IntKind.i64.wrap z+bP k [(i:Int)])).tmod 256)=bE4 k i z:=by have:=mK k [(i:Int)];rw[aJ (n:=z) (by omega) (by omega),aJ (by omega) (by omega),cr (by omega)];rfl
def bNq {k z:Int}(i:Nat)(h:0<=z/\z<=255):IntKind.u8.wrap ((IntKind.i64.wrap (IntKind.i64.wrap z+(bP k [(i:Int)]).tmod 256)).tmod 256)=bE4 k i z:=by have:=mK k [(i:Int)];rw[aJ (n:=z) (by omega) (by omega),show(bP k [(i:Int)]).tmod 256=bP k [(i:Int)]%256 from cr this.1,aJ (by omega) (by omega),cr (by omega),bE4];congr 1;omega
def aO (seed n:Int):AK:=⟨1,n,aZ seed [277,n],0⟩
def bG (s:AK):AD:=⟨s,[],0,0,0,⟨[]⟩⟩
def dK (s:AK)(n:ByteArray)(h:Int):Int:=aZ s.Seed [179,bM n,h]
def fC (s:AK)(n:ByteArray)(h:Int):Int:=dP (dK s n h)
def sI (s:AK)(l:List Int):Int:=rZ (iT s) l
def bE5 (log:List AF)(kind dev:Int)(s:AK):AF:=⟨(log.length:Int),kind,dev,aT s,iY log,0⟩
def Mo (log:List AF)(kind dev:Int)(s:AK):AF:={bE5 log kind dev s with Signature:=sI s [dF (bE5 log kind dev s)]}
def eX (log:List AF)(kind dev:Int)(s:AK):List AF×Bool:=bif (decide ((log.length:Int)>0)&& !aY log)|| !aY (log++[Mo log kind dev s]) then(log,false) else(log++[Mo log kind dev s],true)
def nC (p e:Int)(d:List Int):AO:=⟨p,e,nT (iU (gP p) e) d,Zd (iU (gP p) e) ⟨p,e,nT (iU (gP p) e) d,0⟩⟩
def iI (p e:Int)(d:List Int):AO×Bool:=bif gP p==0||(!bK e||decide ((d.length:Int)>200)) then(⟨0,0,[],0⟩,false) else(nC p e d,true)
def gV (e:Int)(d:List Int):Nat->List Int->List AO×Bool
 |_,[]=>([],true)
 |i,p::l=>bif (iI p (IntKind.i64.wrap (e+(i:Int))) d).2&&(gV e d (i+1) l).2 then((iI p (IntKind.i64.wrap (e+(i:Int))) d).1::(gV e d (i+1) l).1,true) else([],false)
def bJ (log:List AF)(key eph:Int):AN×Bool:=bif !aY log||(!bK key|| !(gV eph (jG [aD log,key]) 0 (aC log)).2) then(⟨0,[]⟩,false) else(⟨aD log,(gV eph (jG [aD log,key]) 0 (aC log)).1⟩,true)
def sJ (e:AN)(d:Int):Int:=e.Boxes.foldl (λn b=>bif b.To==d then IntKind.i64.wrap (n+1) else n) 0
def jT (e:AN)(log:List AF):Bool:=(e.Epoch==aD log&&(e.Boxes.length:Int)==((aC log).length:Int))&&(aC log).all λd=>sJ e d==1
def lH (c:AM)(log:List AF)(e:AN):AM×Bool:=bif !aY log||(!cZ log c.Log|| !jT e log) then(c,false) else({c with Log:=log,Boxes:=e},true)
def Zg (h:Int)(l:List AV):Nat:=(l.takeWhile λc=>decide (c.Handle<h)).length
def aHb (l:List AV)(h p:Int):List AV:=l.take (Zg h l)++[⟨h,p,0,false⟩]++l.drop (Zg h l)
def iJ (a:AJ)(h p:Int):AJ×Bool:=bif !bB a|| !bB {a with Credentials:=aHb a.Credentials h p} then(a,false) else({a with Credentials:=aHb a.Credentials h p},true)
def gD (s:AC)(id h p:Int):AC×Bool:=bif !dI s||decide (aF s id<0) then(s,false) else bif (iJ (s.Accounts.getD (aF s id).toNat default) h p).2 then({s with Accounts:=s.Accounts.set (aF s id).toNat (iJ (s.Accounts.getD (aF s id).toNat default) h p).1},true) else(s,false)
def Ac (l:List AX):Nat:=bif l.any (λn=>n.Seen) then(l.takeWhile λn=> !n.Seen).length else 0
def Ny (l:List AX):List AX:=bif decide ((l.length:Int)>30) then l.take (Ac l)++l.drop (Ac l+1) else l
def Du (m:AS)(k a t:Int):AS×Bool:=bif !gJ m|| !gJ ⟨Ny (m.Notices++[⟨k,a,t,false⟩])⟩ then(m,false) else(⟨Ny (m.Notices++[⟨k,a,t,false⟩])⟩,true)
def jM (w:AA)(by_ kind pub:Int)(key:List AF->Int):AA×Bool:=
 let l:=eX w.aAC.Log kind pub (aG w by_).Store;let e:=bJ l.1 (key l.1) (IntKind.i64.wrap (1000+IntKind.i64.wrap (10*(l.1.length:Int))));let c:=lH w.aAC l.1 e.1
 bif l.2&&(e.2&&c.2) then({w with aAC:=c.1},true) else(w,false)
theorem vK (log:List AF)(k d:Int)(s:AK):(eX log k d s).1.length<=log.length+1:=by unfold eX;cases(decide ((log.length:Int)>0)&& !aY log)|| !aY (log++[Mo log k d s])<;>simp
def bE6 (p e:Int)(d:List Int):(iI p e d).1.sz<=d.length:=by
 unfold iI;cases gP p==0||(!bK e||decide ((d.length:Int)>200)) with
 |true=>simp[AO.sz]
 |false=>simp only[aa,nC,AO.sz,Sr];exact ai _
def bCg {e:Int}{d:List Int}:∀{i:Nat} {l:List Int},(gV e d i l).1.length<=l.length/\((gV e d i l).1.map AO.sz).sum<=l.length*d.length
 |i,[]=>by simp[gV]
 |i,p::l=>by
  have h1:=bCg (e:=e) (d:=d) (i:=i+1) (l:=l);have h2:=bE6 p (IntKind.i64.wrap (e+(i:Int))) d;unfold gV;cases(iI p (IntKind.i64.wrap (e+(i:Int))) d).2&&(gV e d (i+1) l).2 with
  |false=>simp
  |true=>simp only[ac,au,bo,de,di];omega
def bCh (a b:Int):(jG [a,b]).length<=12:=aCo [a,b]
def Yj (log:List AF)(k e:Int):(bJ log k e).1.sz<=13*log.length:=by
 unfold bJ;have h1:=bCg (e:=e) (d:=jG [aD log,k]) (i:=0) (l:=aC log);have h2:=iB log;have a:=bCh (aD log) k;have b:=fx (aC log).length a;cases !aY log||(!bK k|| !(gV e (jG [aD log,k]) 0 (aC log)).2) with
 |true=>simp[AN.sz]
 |false=>simp only[aa,AN.sz];omega
def bNr (c:AM)(l:List AF)(e:AN):(lH c l e).1.sz<=c.sz+l.length+e.sz/\(lH c l e).1.History=c.History:=by
 unfold lH;cases !aY l||(!cZ l c.Log|| !jT e l) with
 |true=>exact⟨by simp only[ac];omega,rfl⟩
 |false=>exact⟨by simp only[aa,AM.sz,AN.sz];omega,rfl⟩
def bCi (l:List AV)(h p:Int):(aHb l h p).length=l.length+1:=by simp only[aHb,ax,bv,cz,cp];omega
def bE7 (a:AJ)(h p:Int):(iJ a h p).1.sz<=a.sz+1:=by
 unfold iJ;cases !bB a|| !bB {a with Credentials:=aHb a.Credentials h p} with
 |true=>simp only[ac];omega
 |false=>simp only[aa,AJ.sz,bCi];exact ai _
def aXy (l:List AX):(Ny l).length<=l.length:=by
 unfold Ny;cases decide ((l.length:Int)>30) with
 |false=>exact ai _
 |true=>simp only[ac,ax,bv,cz];omega
def bRd (m:AS)(k a t:Int):(Du m k a t).1.sz<=m.sz+1:=by
 unfold Du;have:=aXy (m.Notices++[⟨k,a,t,false⟩]);simp only[ax,cp] at this;cases !gJ m|| !gJ ⟨Ny (m.Notices++[⟨k,a,t,false⟩])⟩ with
 |true=>simp only[ac];omega
 |false=>simp only[aa,AS.sz];omega
def oI {α:Type}{p:α->Bool}{i:Nat}{l:List α}(h:decide (kD p i l<0)=false):(i:Int)<=kD p i l/\kD p i l<i+l.length:=by
 induction l generalizing i with
 |nil=>simp[kD] at h
 |cons x l a=>
  unfold kD at h ⊢;cases hp:p x with
  |true=>simp only[ac,au];omega
  |false=>rw[hp] at h;have:=a (i:=i+1) h;simp only[aa,au];omega
def aXz (s:AC)(id h p:Int):(gD s id h p).1.sz<=s.sz+1:=by
 unfold gD;cases hc: !dI s||decide (aF s id<0) with
 |true=>simp only[ac];omega
 |false=>
  rw[bn] at hc;have hr:=oI hc.2;simp only[aa];cases(iJ (s.Accounts.getD (aF s id).toNat default) h p).2 with
  |false=>simp only[aa];omega
  |true=>
   have hi:(aF s id).toNat<s.Accounts.length:=by unfold aF;omega
   have h1:=vJ (f:=AJ.sz) (l:=s.Accounts) (i:=(aF s id).toNat) (x:=(iJ (s.Accounts.getD (aF s id).toNat default) h p).1) hi;have h2:=bE7 (s.Accounts.getD (aF s id).toNat default) h p;have e:s.Accounts.getD (aF s id).toNat default=s.Accounts[(aF s id).toNat]:=by simp[List.getD,ae hi]
   rw[e] at h1 h2 ⊢;simp only[ac,AC.sz,aw];omega
def appW (w:AA)(x:AD):AA:={w with Devices:=w.Devices++[x],Stolen:=w.Stolen++[false]}
def bCj {w:AA}(x:AD){d:Int}(h:aL w d=true)(hn:w.Devices.length<6):aP (appW w x)=aP w:=by
 simp only[aL,ab,bp] at h;have a:bI ((w.Devices++[x]).length:Int) 1 6=bI (w.Devices.length:Int) 1 6:=by simp only[bI,ax,cp];rw[ak (show(1:Int)<=((w.Devices.length+1:Nat):Int) by omega),ak (show((w.Devices.length+1:Nat):Int)<=6 by omega),ak (show(1:Int)<=(w.Devices.length:Int) by omega),ak (show(w.Devices.length:Int)<=6 by omega)]
 have b:(((w.Stolen++[false]).length:Int)==((w.Devices++[x]).length:Int))=((w.Stolen.length:Int)==(w.Devices.length:Int)):=by rw[en,cH,cH];simp only[ax,cp];omega
 unfold aP;simp only[appW,a,b]
def bE8 {w:AA}(x:AD){d:Int}(h:aL w d=true):aL (appW w x) d=true:=by simp only[aL,ab,bp,appW,ax,cp] at*;omega
def aX0 {w:AA}(x:AD){d:Int}(h:aL w d=true):aG (appW w x) d=aG w d:=by simp only[aL,ab,bp] at h;simp only[aG,appW,List.getD,av (show d.toNat<w.Devices.length by omega)]
def bNs {w:AA}(x:AD){d:Int}(b:Int)(h:aL w d=true)(hn:w.Devices.length<6):aM (appW w x) d b=(appW (aM w d b).1 x,(aM w d b).2):=by
 have a:=h;simp only[aL,ab,bp] at a;unfold aM;rw[bCj x h hn,bE8 x h,aX0 x h,h];cases aP w with
 |false=>rfl
 |true=>simp only[du,ac];congr 1;simp only[appW,List.set_append_left _ _ (show d.toNat<w.Devices.length by omega)]
def bU3 {w:AA}(x:AD){d:Int}(h:aL w d=true):Sq (appW w x) d=(appW (Sq w d).1 x,(Sq w d).2):=by
 have a:=h;simp only[aL,ab,bp] at a;unfold Sq;rw[aX0 x h,show(appW w x).aAC=w.aAC from rfl];cases(cB (aG w d)).2.2&&(bZ w.aAC (cB (aG w d)).2.1).2 with
 |false=>rfl
 |true=>simp only[ac,appW,List.set_append_left _ _ (show d.toNat<w.Devices.length by omega)]
def bNt {w:AA}(x:AD){d:Int}(h:aL w d=true)(hn:w.Devices.length<6):fH (appW w x) d=(appW (fH w d).1 x,(fH w d).2):=by
 unfold fH;rw[bNs x 0 h hn];cases hs:((aM w d 0).2==0) with
 |false=>simp only[fu,aa]
 |true=>
  obtain⟨_,_,k4,_⟩:=mP hs;have hd:aL (aM w d 0).1 d=true:=by simp only[aL] at*;rw[k4];exact h
  rw[bU3 x hd];cases(Sq (aM w d 0).1 d).2<;>rfl
def aCr (w:AA)(b k p:Int)(key:List AF->Int):(jM w b k p key).1.sz<=w.sz+14*(w.aAC.Log.length+1)/\(jM w b k p key).1.aAC.Log.length<=w.aAC.Log.length+1/\(jM w b k p key).1.Devices=w.Devices/\(jM w b k p key).1.Sites=w.Sites:=by
 unfold jM;dsimp only;have h1:=vK w.aAC.Log k p (aG w b).Store;generalize(eX w.aAC.Log k p (aG w b).Store)=l at*;have h2:=Yj l.1 (key l.1) (IntKind.i64.wrap (1000+IntKind.i64.wrap (10*(l.1.length:Int))));have d:=(bNr w.aAC l.1 (bJ l.1 (key l.1) (IntKind.i64.wrap (1000+IntKind.i64.wrap (10*(l.1.length:Int))))).1).1;have a:(lH w.aAC l.1 (bJ l.1 (key l.1) (IntKind.i64.wrap (1000+IntKind.i64.wrap (10*(l.1.length:Int))))).1).1.Log.length<=w.aAC.Log.length+1:=by
  unfold lH;cases !aY l.1||(!cZ l.1 w.aAC.Log|| !jT (bJ l.1 (key l.1) (IntKind.i64.wrap (1000+IntKind.i64.wrap (10*(l.1.length:Int))))).1 l.1) with
  |true=>simp only[ac];omega
  |false=>simp only[aa];exact h1
 generalize bJ l.1 (key l.1) (IntKind.i64.wrap (1000+IntKind.i64.wrap (10*(l.1.length:Int))))=e at*;generalize lH w.aAC l.1 e.1=c at*;cases l.2&&(e.2&&c.2) with
 |false=>exact⟨by show w.sz<=_;omega,by show w.aAC.Log.length<=_;omega,rfl,rfl⟩
 |true=>exact⟨by show(AA.sz {w with aAC:=c.1})<=_;simp only[AA.sz,AM.sz] at*;omega,a,rfl,rfl⟩
def kI (d:AD)(h:Int)(rm:Bool):AD:=(dO (dO d (aA 0) h rm).1 (aA 1) h rm).1
def gK (st:AK)(n:Int):Nat->List AC->List AC×Bool
 |_,[]=>([],true)
 |j,s::l=>bif (gD s 1 n (fC st (aA (j:Int)) n)).2&&(gK st n (j+1) l).2 then((gD s 1 n (fC st (aA (j:Int)) n)).1::(gK st n (j+1) l).1,true) else([],false)
def qD (w:AA)(k:Int):AA:={w with Mail:=(Du w.Mail k 1 w.Now).1}
def add1 (w:AA)(b:Int):AA×Bool:=jM (aM w b 0).1 b 1 (aT (aO w.Seed (w.Devices.length:Int))) λ_=>(aG (aM w b 0).1 b).Key
def aHc (w:AA)(b:Int):List AC×Bool:=gK (aO w.Seed (w.Devices.length:Int)) (w.Devices.length:Int) 0 (add1 w b).1.Sites
def sK (w:AA)(b:Int):AA×Bool:=fH {(add1 w b).1 with Sites:=(aHc w b).1,Devices:=(add1 w b).1.Devices.set b.toNat (kI (aG (add1 w b).1 b) (w.Devices.length:Int) false)} b
def Cz (w:AA)(b:Int):AA×Int:=aM (appW (sK w b).1 (bG (aO w.Seed (w.Devices.length:Int)))) (w.Devices.length:Int) 0
def Ib (w:AA)(b:Int):Bool:=(aP w&&(aL w b&&(!eT w b&& !decide ((w.Devices.length:Int)>=6))))&&((aM w b 0).2==0&&((add1 w b).2&&((aHc w b).2&&((sK w b).2&&(Cz w b).2==0))))
def fK (w:AA)(b:Int):AA×Bool:=bif Ib w b then(qD (Cz w b).1 2,true) else(w,false)
theorem aOb (d:AD)(h:Int)(rm:Bool):(kI d h rm).sz<=d.sz+2:=by have h1:=Ia (dO d (aA 0) h rm).1 (aA 1) h rm;have h2:=Ia d (aA 0) h rm;unfold kI;omega
def aHd {st:AK}{n:Int}:∀{j:Nat} {l:List AC},(gK st n j l).1.length<=l.length/\((gK st n j l).1.map AC.sz).sum<=(l.map AC.sz).sum+l.length
 |j,[]=>by simp[gK]
 |j,s::l=>by
  have h1:=aHd (st:=st) (n:=n) (j:=j+1) (l:=l);have h2:=aXz s 1 n (fC st (aA (j:Int)) n);unfold gK;cases(gD s 1 n (fC st (aA (j:Int)) n)).2&&(gK st n (j+1) l).2 with
  |false=>simp
  |true=>simp only[ac,au,bo,de];omega
def bJ3 {w:AA}{b:Int}(h0:((aM w b 0).2==0)=true):(aL (add1 w b).1 b=true/\(add1 w b).1.Devices.length=w.Devices.length)/\(add1 w b).1.sz<=16*w.sz+34/\(add1 w b).1.aAC.Log.length<=w.sz+1:=by
 obtain⟨⟨k1,k2⟩,k3,k4,k5⟩:=mP h0;have e:w.aAC.Log.length<=w.sz:=by simp only[AA.sz,AM.sz];omega
 obtain⟨c,d,a,f⟩:=aCr (aM w b 0).1 b 1 (aT (aO w.Seed (w.Devices.length:Int))) (λ_=>(aG (aM w b 0).1 b).Key);rw[k3] at c d;refine⟨⟨?_,by show(jM _ _ _ _ _).1.Devices.length=_;rw[a,k4]⟩,by unfold add1;omega,by unfold add1;omega⟩;simp only[aL] at*;unfold add1;rw[a,k4];exact k2
def aAU (w:AA)(b:Int):AA:={(add1 w b).1 with Sites:=(aHc w b).1,Devices:=(add1 w b).1.Devices.set b.toNat (kI (aG (add1 w b).1 b) (w.Devices.length:Int) false)}
def bCk {w:AA}{b:Int}(h0:((aM w b 0).2==0)=true):(aL (aAU w b) b=true/\(aAU w b).Devices.length=w.Devices.length)/\(aAU w b).sz<=32*w.sz+80/\(aAU w b).aAC.Log.length<=w.sz+1:=by
 obtain⟨⟨h1,h2⟩,d,a⟩:=bJ3 h0;have h:=aHd (st:=aO w.Seed (w.Devices.length:Int)) (n:=(w.Devices.length:Int)) (j:=0) (l:=(add1 w b).1.Sites);have k:=aOb (aG (add1 w b).1 b) (w.Devices.length:Int) false;have hd:=h1;simp only[aL,ab,bp] at hd;have hi:b.toNat<(add1 w b).1.Devices.length:=by omega
 have c:=vJ (f:=AD.sz) (l:=(add1 w b).1.Devices) (i:=b.toNat) (x:=kI (aG (add1 w b).1 b) (w.Devices.length:Int) false) hi;have e:(add1 w b).1.Devices[b.toNat]=aG (add1 w b).1 b:=by simp[aG,List.getD,ae hi]
 rw[e] at c;refine⟨⟨?_,by simp only[aAU,aw];exact h2⟩,?_,a⟩
 ·simp only[aL,aAU,aw] at*;exact h1
 ·simp only[aAU,aHc];generalize(add1 w b).1=x at*;simp only[AA.sz,aw] at*;omega
def aCs (w:AA)(x:AD):(appW w x).sz=w.sz+x.sz+2:=by simp only[appW,AA.sz,ax,cp,cX,bo,eJ,fR,de,gv];omega
theorem aOc (w:AA)(k:Int):(qD w k).sz<=w.sz+1:=by have:=bRd w.Mail k 1 w.Now;simp only[qD,AA.sz,AS.sz] at*;omega
def bRe {w:AA}{b:Int}(h0:((aM w b 0).2==0)=true)(h:(sK w b).2=true):(sK w b).1.sz<=33*w.sz+602/\(sK w b).1.aAC.Log.length<=w.sz+1:=by obtain⟨_,h1,h2⟩:=bCk h0;obtain⟨a,c⟩:=Yi (w:=aAU w b) (d:=b) h;exact⟨by show(fH (aAU w b) b).1.sz<=_;omega,by show(fH (aAU w b) b).1.aAC.Log.length<=_;rw[a];exact h2⟩
def aX1 {α:Type}{p:α->Bool}:∀{l:List α} {i:Nat} (hi:i<l.length),i<(l.takeWhile p).length->p l[i]=true
 |x::l,0,_,h=>by
  simp only[dn] at h;cases hp:p x with
  |true=>exact hp
  |false=>rw[hp] at h;simp at h
 |x::l,i+1,hi,h=>by
  simp only[dn] at h;cases hp:p x with
  |true=>
   have a:i<(l.takeWhile p).length:=by simpa[hp] using h
   exact aX1 (l:=l) (i:=i) (by simpa using hi) a
  |false=>rw[hp] at h;simp at h
def aX2 {α:Type}{p:α->Bool}:∀{l:List α} (h:(l.takeWhile p).length<l.length),p (l[(l.takeWhile p).length]'h)=false
 |x::l,h=>by
  cases hp:p x with
  |true=>
   have a:(l.takeWhile p).length<l.length:=by simpa[dn,hp] using h
   simpa[dn,hp] using aX2 a
  |false=>simp[dn,hp]
def Su {α:Type}{p:α->Bool}{l:List α}:(l.takeWhile p).length<=l.length:=(List.takeWhile_prefix p).length_le
def aX3 {α τ S:Type}{l:List α}(p:α->Bool)(fin:Nat->Option τ)(e:Nat->S){F:(S->Option τ)->S->Option τ}(hl:l.length<=34359738368)
  (a:∀rec i (hi:i<l.length),F rec (e i)=bif p l[i] then rec (e (i+1)) else fin i) (b:∀rec,F rec (e l.length)=fin l.length):EV.bT FUEL F (e 0)=fin (l.takeWhile p).length:=by
 have go:∀(k i n:Nat),i+k=(l.takeWhile p).length->k<n->EV.bT n F (e i)=fin (l.takeWhile p).length:=by
  intro k;induction k with
  |zero=>
   intro i n hi hn;obtain⟨n,rfl⟩:∃m,n=m+1:=⟨n-1,by omega⟩;have:i=(l.takeWhile p).length:=by omega
   subst this;rw[iZ];by_cases h:(l.takeWhile p).length<l.length
   ·rw[a _ _ h,aX2 h,aa]
   ·have h2:(l.takeWhile p).length=l.length:=by have:=Su (p:=p) (l:=l);omega
    rw[h2,b]
  |succ k c=>
   intro i n hi hn;obtain⟨n,rfl⟩:∃m,n=m+1:=⟨n-1,by omega⟩;have h1:i<l.length:=by have:=Su (p:=p) (l:=l);omega
   rw[iZ,a _ _ h1,aX1 (p:=p) h1 (by omega),ac];exact c (i+1) n (by omega) (by omega)
 have:=Su (p:=p) (l:=l);exact go (l.takeWhile p).length 0 FUEL (by omega) (by have:=gW;omega)
def aX4 {e:Int}{d:List Int}{l:List Int}{τ:Type}{x:τ}{F:(List AO×Nat->Option (τ⊕List AO))->List AO×Nat->Option (τ⊕List AO)}
  (a:∀rec i s (hi:i<l.length),s.length<=i->F rec (s,i)=bif !(iI l[i] (IntKind.i64.wrap (e+(i:Int))) d).2 then some (.inl x) else rec (s++[(iI l[i] (IntKind.i64.wrap (e+(i:Int))) d).1],i+1)) (b:∀rec s,F rec (s,l.length)=some (.inr s)):
  ∀(k i n:Nat) (s:List AO),i+k=l.length->k<n->s.length<=i->EV.bT n F (s,i)=some (bif (gV e d i (l.drop i)).2 then .inr (s++(gV e d i (l.drop i)).1) else .inl x)
 |0,i,n+1,s,h,_,_=>by
  have:i=l.length:=by omega
  subst this;rw[iZ,b,dp];simp[gV]
 |k+1,i,n+1,s,h,hn,hs=>by
  have hi:i<l.length:=by omega
  rw[iZ,a _ i s hi hs,co hi,gV];cases hb:(iI l[i] (IntKind.i64.wrap (e+(i:Int))) d).2 with
  |false=>rfl
  |true=>rw[ay,aa,aX4 a b k (i+1) n _ (by omega) (by omega) (by simp;omega)];cases(gV e d (i+1) (l.drop (i+1))).2<;>simp
def bE9 (l:List AX):Nat:=(l.takeWhile λn=> !n.Seen).length
def bJ4 {l:List AX}{x:AX}:bE9 (l++[x])=bif l.any (λn=>n.Seen) then bE9 l else bif x.Seen then l.length else l.length+1:=by
 induction l with
 |nil=>cases b:x.Seen<;>simp[bE9,b]
 |cons y l c=>
  unfold bE9 at*;cases a:y.Seen with
  |true=>simp[a]
  |false=>simp only[cN,dn,a,db,ia,au,km,cu,c];cases l.any (λn=>n.Seen)<;>cases x.Seen<;>simp
def aX5 {l:List AX}{F:(Int×Int->Option Int)->Int×Int->Option Int}(a:∀rec (k:Int) (i:Nat) (hi:i<l.length),F rec (k,(i:Int))=rec (bif l[i].Seen then(i:Int) else k,(i:Int)-1))(b:∀rec k,F rec (k,-1)=some k):
  ∀(n m:Nat) (k:Int),n<=l.length->n<m->EV.bT m F (k,(n:Int)-1)=some (bif (l.take n).any (λx=>x.Seen) then(bE9 (l.take n):Int) else k)
 |0,m+1,k,_,_=>by rw[iZ,show((0:Nat):Int)-1= -1 from rfl,b];simp
 |n+1,m+1,k,h,hm=>by
  have hn:n<l.length:=by omega
  rw[iZ,show((n+1:Nat):Int)-1=(n:Int) by omega,a _ _ n hn,aX5 a b n m _ (by omega) (by omega),dz,ae hn];simp only[eS,ig,bJ4,km,List.any_nil,gn,bv,gr (Nat.le_of_lt hn)];cases(l.take n).any (λx=>x.Seen)<;>cases l[n].Seen<;>rfl
def bNu (l:List AX):(Ac l:Int)=bif l.any (λx=>x.Seen) then(bE9 l:Int) else 0:=by unfold Ac bE9;cases l.any (λn=>n.Seen)<;>rfl
def bNv {l:List AX}(h:0<l.length):Ac l<l.length:=by
 unfold Ac;cases hs:l.any (λn=>n.Seen) with
 |false=>exact h
 |true=>
  obtain⟨x,b,hp⟩:=ex.1 hs;have:∀l:List AX,x∈l->(l.takeWhile λn=> !n.Seen).length<l.length:=by
   intro l;induction l with
   |nil=>intro h;cases h
   |cons y l c=>
    intro h;cases a:y.Seen with
    |true=>simp[a]
    |false=>
     rcases ba.1 h with rfl|h
     ·rw[hp] at a;cases a
     ·simpa[a] using c h
  exact this l b
def bNw {e:Int}{d:List Int}{i:Nat}{l:List Int}(h:(gV e d i l).2=false):gV e d i l=([],false):=by
 cases l with
 |nil=>cases h
 |cons p l=>
  unfold gV at*;cases hc:(iI p (IntKind.i64.wrap (e+(i:Int))) d).2&&(gV e d (i+1) l).2 with
  |true=>rw[hc] at h;cases h
  |false=>rfl
def bNx {s:AC}{i:Int}(b:s.sz<=34359738300)(h:decide (aF s i<0)=false):bA s.Accounts (aF s i)=some (s.Accounts.getD (aF s i).toNat default)/\(s.Accounts.getD (aF s i).toNat default).sz<=34359738300/\(aF s i).toNat<s.Accounts.length:=by
 have hr:=oI (p:=λa:AJ=>a.Id==i) (i:=0) (l:=s.Accounts) h;have hi:(aF s i).toNat<s.Accounts.length:=by unfold aF;omega
 have h1:=wB (f:=AJ.sz) hi;refine⟨sD (by unfold aF;omega) (by unfold aF;omega),?_,hi⟩;simp only[AC.sz] at b;omega
def mQ (d:AD)(log:List AF)(key:Int):AD×Bool:=bif !aY log||(!cZ log d.Log||(decide (aD log<d.Epoch)|| !bK key)) then(d,false) else({d with Log:=log,Key:=key,Epoch:=aD log,Version:=0},true)
def aS (a:AJ)(h:Int):Int:=kD (λc=>c.Handle==h) 0 a.Credentials
def gG (a:AJ)(k:Int):AV:=a.Credentials.getD k.toNat default
def nD (a:AJ)(h:Int):AJ×Bool:=bif !bB a||(decide (aS a h<0)||(gG a (aS a h)).Cut) then(a,false) else({a with Credentials:=a.Credentials.set (aS a h).toNat {gG a (aS a h) with Cut:=true}},true)
def fU (s:AC)(k:Int):AJ:=s.Accounts.getD k.toNat default
def gX (h:Int)(s:AC):AC:=bif decide (aF s 1>=0) then {s with Accounts:=s.Accounts.set (aF s 1).toNat (nD (fU s (aF s 1)) h).1} else s
def bX (s e:Int):Int:=aZ s [233,e]
def mR (s:AK)(l:List AF):Int:=bX (aZ s.Seed [311]) (aD l)
def jN (w:AA)(b:Int):AA:=(aM w b 0).1
def aHe (w:AA)(b t:Int):List AF:=(eX (jN w b).aAC.Log 2 (aT (aG w t).Store) (aG (jN w b) b).Store).1
def nE (w:AA)(b t:Int):AA×Bool:=jM (jN w b) b 2 (aT (aG w t).Store) (mR (aG (jN w b) b).Store)
def Pv (w:AA)(b t:Int):AD×Bool:=mQ (aG (jN w b) b) (aHe w b t) (mR (aG (jN w b) b).Store (aHe w b t))
def aCt (w:AA)(b t:Int):AA:={(nE w b t).1 with Devices:=(nE w b t).1.Devices.set b.toNat (kI (Pv w b t).1 t true),Sites:=(nE w b t).1.Sites.map (gX t)}
def Pw (w:AA)(b t:Int):AA×Bool:=Sq (aCt w b t) b
def oZ (w:AA)(b t:Int):AA×Bool:=bif (nE w b t).2&&((Pv w b t).2&&(Pw w b t).2) then(qD (Pw w b t).1 4,true) else(w,false)
def fG (w:AA)(b t:Int):AA×Bool:=bif (aM w b 0).2==0&&(!eT w b&&(!(b==t)&&bC w t)) then oZ w b t else(w,false)
theorem aP7 (d:AD)(l:List AF)(k:Int):(mQ d l k).1.sz<=d.sz+l.length:=by
 unfold mQ;cases !aY l||(!cZ l d.Log||(decide (aD l<d.Epoch)|| !bK k)) with
 |true=>simp only[ac];omega
 |false=>simp only[aa,AD.sz];omega
def bFa (a:AJ)(h:Int):(nD a h).1.sz=a.sz:=by
 unfold nD;cases !bB a||(decide (aS a h<0)||(gG a (aS a h)).Cut) with
 |true=>rfl
 |false=>simp only[aa,AJ.sz,aw]
def bFb (h:Int)(s:AC):(gX h s).sz=s.sz:=by
 unfold gX;cases hc:decide (aF s 1>=0) with
 |false=>rfl
 |true=>
  have h0:decide (aF s 1<0)=false:=by rw[decide_eq_true_iff] at hc;exact ao (by omega)
  have hr:=oI h0;have hi:(aF s 1).toNat<s.Accounts.length:=by unfold aF;omega
  have h1:=vJ (f:=AJ.sz) (l:=s.Accounts) (i:=(aF s 1).toNat) (x:=(nD (fU s (aF s 1)) h).1) hi;have h2:=bFa (fU s (aF s 1)) h;have e:fU s (aF s 1)=s.Accounts[(aF s 1).toNat]:=by simp[fU,List.getD,ae hi]
  rw[e] at h1 h2 ⊢;simp only[ac,AC.sz,aw];omega
theorem bCl (h:Int)(l:List AC):((l.map (gX h)).map AC.sz).sum=(l.map AC.sz).sum:=by
 induction l with
 |nil=>rfl
 |cons s l a=>simp only[bo,de,bFb,a]
def bJ5 {w:AA}{b t:Int}(h0:((aM w b 0).2==0)=true):(aL (jN w b) b=true/\(jN w b).Devices.length=w.Devices.length/\(jN w b).aAC=w.aAC/\(jN w b).sz<=2*w.sz+20)/\(aHe w b t).length<=w.sz+1/\(aL (nE w b t).1 b=true/\(nE w b t).1.Devices=(jN w b).Devices)/\(nE w b t).1.sz<=16*w.sz+34/\(nE w b t).1.Sites=(jN w b).Sites:=by
 obtain⟨⟨k1,k2⟩,k3,k4,k5⟩:=mP h0;have i:w.aAC.Log.length<=w.sz:=by simp only[AA.sz,AM.sz];omega
 have hl:=vK (jN w b).aAC.Log 2 (aT (aG w t).Store) (aG (jN w b) b).Store;obtain⟨e,j,c,f⟩:=aCr (jN w b) b 2 (aT (aG w t).Store) (mR (aG (jN w b) b).Store);have a:aL (aM w b 0).1 b=true:=by simp only[aL] at*;rw[k4];exact k2
 have hd:aL (jN w b) b=true:=a;have d:(jN w b).aAC=w.aAC:=k3;rw[d] at e hl;have k6:(jN w b).sz<=w.sz+w.aAC.Log.length+20:=k5;refine⟨⟨hd,k4,k3,by omega⟩,by unfold aHe;rw[d];omega,⟨?_,c⟩,by unfold nE;omega,f⟩;have h:aL (jM (jN w b) b 2 (aT (aG w t).Store) (mR (aG (jN w b) b).Store)).1 b=true:=by simp only[aL] at*;rw[c];exact hd
 exact h
--needs aAM aAK aAL
def fJ (b:AP)(id:Int):Int:=bP b.Seed [197,id]
def aCu (b:AP)(acc now:Int):A3:=⟨b.Next,acc,IntKind.i64.wrap (now+5)⟩
def eH (b:AP)(acc now:Int):AP×A3×Bool:=bif eQ b&&(!(b.Next==1000000)&&(bI acc 0 1000000&&bI now 0 1000000)) then(⟨b.Seed,IntKind.i64.wrap (b.Next+1),(bif decide ((b.Open.length:Int)>=16) then b.Open.drop 1 else b.Open)++[aCu b acc now]⟩,aCu b acc now,true) else(b,⟨0,0,0⟩,false)
def dQ (b:AP)(id:Int):Int:=kD (λc=>c.Id==id) 0 b.Open
def aHf (b:AP)(k:Int):A3:=b.Open.getD k.toNat default
def qE (b:AP)(id acc now:Int):AP×Bool:=bif !eQ b||decide (dQ b id<0) then(b,false) else(⟨b.Seed,b.Next,b.Open.take (dQ b id).toNat++b.Open.drop ((dQ b id).toNat+1)⟩,(aHf b (dQ b id)).aAH==acc&&decide (now<=(aHf b (dQ b id)).Until))
def lX (s:AC)(id now:Int):AC×Int×Int×Bool:=bif dI s&&(!decide (aF s id<0)&&(eH s.Book id now).2.2) then({s with Book:=(eH s.Book id now).1},(eH s.Book id now).2.1.Id,fJ (eH s.Book id now).1 (eH s.Book id now).2.1.Id,true) else(s,0,0,false)
def lD (s:AK):Bool:=bI s.Vendor 1 9&&(bI s.Serial 0 1000000&&(bK s.Seed&&bI s.Counter 0 1000000))
def bNy (s:AK):AK:={s with Counter:=IntKind.i64.wrap (s.Counter+1)}
def jH (s:AK)(site:ByteArray)(h:Int)(m:List Int):AK×Int×Bool:=bif lD s&& !(s.Counter==1000000) then(bNy s,rZ (dK s site h) (m++[(bNy s).Counter]),true) else(s,0,false)
def dG (a:AY):List Int:=[199,bM a.Site,zZ 211 a.aAK,a.aAL,a.Handle,bif a.Present then 1 else 0]
def aP8 (j:Int):AQ:=⟨true,⟨#[119,119,119,46]⟩++aA j,443⟩
def aP9 (j:Int):AQ:=⟨true,⟨#[108,111,103,105,110,46]⟩++aA j++⟨#[46,101,118,105,108,46,110,101,116]⟩,443⟩
def bS3 (j:Int):AQ:=⟨true,aA j,443⟩
def uA (k:Nat):AQ:=match k with|0=>aP8 0|1=>aP8 1|2=>bS3 0|3=>bS3 1|4=>aP9 0|_=>aP9 1
def Sw (k:Nat):ByteArray:=⟨#[104,116,116,112,115,58,47,47]⟩++(uA k).Host
def bWs:List UInt8->List UInt8->Bool
 |[],b=>b==[]
 |x::a,b=>b==x::a||bWs a b
def mU (o:AQ)(z:ByteArray):Bool:=bWs (46::o.Host.data.toList) (46::z.data.toList)
def Oa (o:AQ)(s:ByteArray):Prop:=(∃k:Nat,k<6/\o=uA k)/\∃j:Int,(j=0\/j=1)/\s=aA j
noncomputable instance (o:AQ) (s:ByteArray):Decidable (Oa o s):=Classical.propDecidable _
def nG (o:AQ):Prop:=∃k:Nat,k<6/\o=uA k
def nG.p {o:AQ}(h:nG o){j:Int}(a:j=0\/j=1):Oa o (aA j):=⟨h,j,a,rfl⟩
def bNz {j:Int}(a:j=0\/j=1):nG (aP8 j):=by
 rcases a with rfl|rfl
 ·exact⟨0,by decide,rfl⟩
 ·exact⟨1,by decide,rfl⟩
noncomputable instance (o:AQ):Decidable (nG o):=Classical.propDecidable _
def qF (o:AQ):ByteArray:=⟨#[104,116,116,112,115,58,47,47]⟩++o.Host
def bJ6 (s:ByteArray):Prop:=s=⟨#[]⟩\/∃k:Nat,k<4/\s=Sw k
noncomputable instance (s:ByteArray):Decidable (bJ6 s):=Classical.propDecidable _
def zN (s:ByteArray):AQ×Bool:=bif decide (s.size=0) then(⟨false,⟨#[]⟩,0⟩,false) else(⟨true,s.extract 8 s.size,443⟩,true)
def Sy (s:AK)(o:AQ)(site:ByteArray)(h a:Int)(p:Bool):AY:=⟨site,qF o,a,h,p,0,0⟩
def bJ7:AY:=⟨⟨#[]⟩,⟨#[]⟩,0,0,false,0,0⟩
def iW (s:AK)(o:AQ)(site:ByteArray)(h a:Int)(p:Bool):AK×AY×Bool:=bif mU o site&&(jH s site h (dG (Sy s o site h a p))).2.2 then((jH s site h (dG (Sy s o site h a p))).1,{Sy s o site h a p with Counter:=(jH s site h (dG (Sy s o site h a p))).1.Counter,Signature:=(jH s site h (dG (Sy s o site h a p))).2.1},true) else(s,bJ7,false)
def AsP (a:AY)(site:ByteArray):Prop:=∃j:Int,(j=0\/j=1)/\site=aA j/\(a=bJ7\/(a.Site=site/\∃k:Nat,k<4/\a.aAK=Sw k/\mU (uA k) site=true))
noncomputable instance (a:AY) (s:ByteArray):Decidable (AsP a s):=Classical.propDecidable _
def kJ (pub:Int)(a:AY)(site:ByteArray)(b cnt:Int):Int:=bif !(a.Site.toList==site.toList) then 1 else bif !a.Present then 2 else bif !(a.aAL==b) then 3 else bif !iE pub (dG a++[a.Counter]) a.Signature then 5 else bif decide (a.Counter<=cnt) then 4 else 0
def jX (a:AJ)(x:AY)(site:ByteArray)(b:Int):AJ×Int:=bif !bB a||(decide (aS a x.Handle<0)||(gG a (aS a x.Handle)).Cut) then(a,5) else({a with Credentials:=bif kJ (gG a (aS a x.Handle)).Public x site b (gG a (aS a x.Handle)).Counter==0 then a.Credentials.set (aS a x.Handle).toNat {gG a (aS a x.Handle) with Counter:=x.Counter} else bif kJ (gG a (aS a x.Handle)).Public x site b (gG a (aS a x.Handle)).Counter==4 then a.Credentials.set (aS a x.Handle).toNat {gG a (aS a x.Handle) with Cut:=true} else a.Credentials},kJ (gG a (aS a x.Handle)).Public x site b (gG a (aS a x.Handle)).Counter)
def sM (a:AJ)(m:Int):Bool:=bB a&&(decide (a.Minimum<=m)&&(decide (m<=3)&&(!(m==3)||a.Credentials.any λc=> !c.Cut)))
def pE (s:AC)(id b now:Int)(a:AY):AC×Int×Int:=bif !dI s||decide (aF s id<0) then(s,1,0) else bif !(qE s.Book b id now).2 then({s with Book:=(qE s.Book b id now).1},2,0) else bif !sM (fU s (aF s id)) 3 then({s with Book:=(qE s.Book b id now).1},3,0) else bif !((jX (fU s (aF s id)) a s.Name (fJ s.Book b)).2==0) then({s with Book:=(qE s.Book b id now).1,Accounts:=s.Accounts.set (aF s id).toNat (jX (fU s (aF s id)) a s.Name (fJ s.Book b)).1},4,(jX (fU s (aF s id)) a s.Name (fJ s.Book b)).2) else({s with Book:=(qE s.Book b id now).1,Accounts:=s.Accounts.set (aF s id).toNat (jX (fU s (aF s id)) a s.Name (fJ s.Book b)).1,Logins:=s.Logins++[id]},0,0)
def fA (w:AA)(j:Int):AC:=w.Sites.getD j.toNat default
def aBA (w:AA)(j:Int):AC×Int×Int×Bool:=lX (fA w j) 1 w.Now
def aCv (w:AA)(d j:Int)(o:AQ):AK×AY×Bool:=iW (aG w d).Store o (aA j) d (aBA w j).2.2.1 true
def Sz (w:AA)(d j:Int)(o:AQ):AC×Int×Int:=pE (aBA w j).1 1 (aBA w j).2.1 w.Now (aCv w d j o).2.1
def aUp (w:AA)(d j:Int)(o:AQ):AA:={w with Devices:=w.Devices.set d.toNat {aG w d with Store:=(aCv w d j o).1},Sites:=w.Sites.set j.toNat (Sz w d j o).1}
def dU (w:AA)(d j:Int):Bool:=aP w&&(aL w d&&qA w j)
def iK (w:AA)(d j:Int)(o:AQ):AA×AY×Int:=bif !dU w d j then(w,bJ7,1) else bif !(aBA w j).2.2.2 then(w,bJ7,1) else bif !((Sz w d j o).2.1==0) then(aUp w d j o,(aCv w d j o).2.1,2) else(qD (aUp w d j o) 1,(aCv w d j o).2.1,0)
def qJ (w:AA)(d j:Int)(o:AQ):AA×Int:=((iK w d j o).1,(iK w d j o).2.2)
def Dw (w:AA)(d j:Int):AA×Int:=bif dU w d j&& !eT w d then qJ w d j (aP8 j) else(w,1)
def rG (o:AQ):Bool:=iG o.Host&&bI o.Port 1 65535
def aHg (m:Int):Nat->Int->Int->Int->Int
 |0,_,_,s=>s
 |k+1,b,n,s=>if n>0 then aHg m k ((IntKind.i64.wrap (b*b)).tmod m) (n/2) (bif n%2==1 then(IntKind.i64.wrap (s*b)).tmod m else s) else s
def Da (x:Int):Bool:=bI x 1 2038&&aHg 2039 11 x 1019 1==1
def pR (g n:Int):Int:=bif Da g then aHg 2039 11 g (dW n 1019) 1 else 0
def Yk (l v:Int):Int:=pR 4 (IntKind.i64.wrap (1+((IntKind.i64.wrap (bP l [89,v]*bP l [89,v])).tmod 2147483647).tmod 1018))
def Yl (s l i:Int):Int:=pR (Yk l i) s
def zH (e l:Int):Int:=kF (bP e [157,l])
def aQa (k m:Int):Int:=bif bI k 0 2147483647 then bAt .i64 k (aZ m [251]) else 0
def Mq (o s:Int):Int:=bP o [257,s]
def xG (c:Int)(l:List Int)(n:Int):List AU:=bif bI n 1 7&&decide ((l.length:Int)<n) then(List.range n.toNat).map λ(i:Nat)=>⟨(i:Int)+1,Sk c l ((i:Int)+1)⟩ else[]
def Dx (k:AZ):AG:=⟨k,[],kQ k⟩
def aOd (pin salt key secret limit:Int):Bool:=bI pin 0 9999&&(bI salt 0 1000000&&(bK key&&(!(dW secret 1019==0)&&bI limit 1 10)))
def Mr (pin salt key secret:Int)(cs:List Int)(n limit:Int):A4×List AG×Bool:=
 bif aOd pin salt key secret limit&& !((xG secret cs n).length==0) then(⟨salt,IntKind.i64.wrap ((cs.length:Int)+1),Mq (zH (Yl secret salt pin) salt) salt,aQa key (zH (Yl secret salt pin) salt)⟩,(xG secret cs n).map (λs=>Dx ⟨s,0,0,limit⟩),true) else(⟨0,0,0,0⟩,[],false)
def fO (log:List AF)(bx:AN):AM×Bool:=bif aY log&&jT bx log then(⟨log,bx,[]⟩,true) else(⟨[],⟨0,[]⟩,[]⟩,false)
def sN (id:Int)(l:List AJ):Nat:=(l.takeWhile λa=>decide (a.Id<id)).length
def qG (s:AC)(id m:Int):AC:={s with Accounts:=s.Accounts.take (sN id s.Accounts)++[⟨id,m,[]⟩]++s.Accounts.drop (sN id s.Accounts)}
def oJ (s:AC)(id m:Int):AC×Bool:=bif dI s&&dI (qG s id m) then(qG s id m,true) else(s,false)
def wC (nm:ByteArray):Nat->List AD->AC->AC
 |_,[],s=>s
 |i,d::l,s=>wC nm (i+1) l (gD s 1 (i:Int) (fC d.Store nm (i:Int))).1
def Ta (seed:Int)(l:List AD)(j:Int):AC:=wC (aA j) 0 l (oJ (iH (aA j) (aZ seed [281,j])) 1 3).1
def Ad (l:List AD)(seed:Int):List AC:=[Ta seed l 0,Ta seed l 1]
def aU (seed:Int):Nat->List AF
 |0=>[]
 |n+1=>(eX (aU seed n) 1 (aT (aO seed (n:Int))) (aO seed 0)).1
def dR (seed:Int)(n:Nat):List AD:=(List.range n).map λ(i:Nat)=>bG (aO seed (i:Int))
def Ic (nm:ByteArray):Nat->AD->AD
 |0,d=>d
 |i+1,d=>(dO (Ic nm i d) nm (i:Int) false).1
def iL (seed:Int)(n:Nat):AN:=(bJ (aU seed n) (bX seed 0) 1000).1
def xH (seed:Int)(n:Nat)(d:AD):AD:=(mQ d (aU seed n) (bX seed 0)).1
def lT (seed:Int)(n:Nat):AD:=Ic (aA 1) n (Ic (aA 0) n (xH seed n (bG (aO seed 0))))
def nwW (seed:Int)(n:Nat):AD×AI×Bool:=cB (lT seed n)
def jI (seed:Int)(n:Nat):AM:=(bZ (fO (aU seed n) (iL seed n)).1 (nwW seed n).2.1).1
def Ae (seed:Int)(n:Nat)(d:AD):AD:=(bR (xH seed n d) (aU seed n) (iL seed n) (nwW seed n).2.1).1
def jZ (seed:Int)(n:Nat):List AD:=(nwW seed n).1::((dR seed n).drop 1).map (Ae seed n)
def Q7 (seed t:Int):List Int:=(List.range (t-1).toNat).map λ(k:Nat)=>aZ seed [307,(k:Int)+1]
def aCw (seed t pin k:Int):A4×List AG×Bool:=Mr pin 7 (aZ seed [283]) (IntKind.i64.wrap (1+(aZ seed [293]).tmod 1018)) (Q7 seed t) k 5
def Tc (n k t pin seed:Int):Bool:=bI n 1 3&&(bI k 1 7&&(bI t 1 k&&(bI pin 0 9999&&bK seed)))
def bHr:AA:=⟨0,0,[],[],⟨[],⟨0,[]⟩,[]⟩,[],⟨0,0,0,0⟩,[],0,⟨[]⟩⟩
def bY (n k t pin seed:Int):AA:=bif Tc n k t pin seed then⟨0,seed,jZ seed n.toNat,List.replicate n.toNat false,jI seed n.toNat,Ad (dR seed n.toNat) seed,(aCw seed t pin k).1,(aCw seed t pin k).2.1,pin,⟨[]⟩⟩ else bHr
theorem aQb {l:List Int}(h:l.Nodup)(e:AF):(jF l e).Nodup:=by
 unfold jF;cases e.Kind==1 with
 |true=>
  simp only[ac];cases hc:l.contains e.Device with
  |true=>exact h
  |false=>
   simp only[aa];rw[ez];refine⟨h,by simp,λa c b hb e'=> ?_⟩
   simp at hb;subst hb;subst e';have:l.contains e.Device=true:=by simpa using c
   rw[hc] at this;cases this
 |false=>
  simp only[aa];cases e.Kind==2 with
  |true=>exact h.filter _
  |false=>exact h
def bFc (log:List AF):(aC log).Nodup:=by
 have key:∀(l:List AF) (s:List Int),s.Nodup->(l.foldl jF s).Nodup:=by
  intro l;induction l with
  |nil=>exact λ_ h=>h
  |cons e l a=>exact λs h=>a _ (aQb h e)
 exact key log [] gh
def bCm {e:Int}{d:List Int}:∀{i:Nat} {l:List Int},(gV e d i l).2=true->(gV e d i l).1.map (λb=>b.To)=l
 |_,[],_=>rfl
 |i,p::l,h=>by
  simp only[gV] at h ⊢;cases hc:(iI p (IntKind.i64.wrap (e+(i:Int))) d).2&&(gV e d (i+1) l).2 with
  |false=>rw[hc] at h;cases h
  |true=>
   rw[ab] at hc;simp only[ac,bo,bCm hc.2];have:(iI p (IntKind.i64.wrap (e+(i:Int))) d).1.To=p:=by
    have h1:=hc.1;unfold iI at h1 ⊢;cases hq:gP p==0||(!bK (IntKind.i64.wrap (e+(i:Int)))||decide ((d.length:Int)>200)) with
    |true=>rw[hq] at h1;cases h1
    |false=>rfl
   rw[this]
def aX6:∀{l:List AO} {d:Int} {s:Int},(l.map λb=>b.To).Nodup->0<=s->s<1000->l.foldl (λn b=>bif b.To==d then IntKind.i64.wrap (n+1) else n) s=s+(if d∈l.map (λb=>b.To) then 1 else 0)
 |[],d,s,_,_,_=>by simp
 |b::l,d,s,h,h0,h1=>by
  rw[bo,cE] at h;rw[dh];cases hc:b.To==d with
  |true=>
   have hd:b.To=d:=by simpa using hc
   have hn:d∉l.map (λb=>b.To):=hd▸h.1;have c:IntKind.i64.wrap (s+1)=s+1:=aJ (by omega) (by omega);have key:∀(l:List AO) (s:Int),d∉l.map (λb=>b.To)->l.foldl (λn b=>bif b.To==d then IntKind.i64.wrap (n+1) else n) s=s:=by
    intro l;induction l with
    |nil=>exact λ_ _=>rfl
    |cons x l f=>
     intro s a;simp only[bo,ba,not_or] at a;have:(x.To==d)=false:=by simpa using λe=>a.1 e.symm
     rw[dh,this,aa];exact f s a.2
   rw[ac,key l _ hn,c,bo,cQ (by simp[hd])]
  |false=>
   have hd:¬b.To=d:=by simpa using hc
   rw[aa,aX6 h.2 h0 h1,bo];have:(d∈b.To::l.map λb=>b.To)↔d∈l.map λb=>b.To:=by rw[ba];exact⟨λh=>h.resolve_left λe=>hd e.symm, .inr⟩
   simp only[this]
def aUq {log:List AF}{k e:Int}(h:(bJ log k e).2=true):jT (bJ log k e).1 log=true:=by
 unfold bJ at h ⊢;cases hc: !aY log||(!bK k|| !(gV e (jG [aD log,k]) 0 (aC log)).2) with
 |true=>rw[hc] at h;cases h
 |false=>simp only[bn,cL] at hc;have ht:=bCm hc.2.2;have hl:=congrArg List.length ht;rw[bg] at hl;simp only[aa,jT,sJ,ab,cH,cG,hl,and_self,true_and,eM];intro d hd;rw[aX6 (by rw[ht];exact bFc log) (by omega) (by omega),ht,cQ hd];rfl
def bJ8 {log:List AF}{k e:Int}(h:(bJ log k e).2=false):(bJ log k e).1=⟨0,[]⟩:=by
 unfold bJ at h ⊢;cases hc: !aY log||(!bK k|| !(gV e (jG [aD log,k]) 0 (aC log)).2) with
 |true=>rfl
 |false=>rw[hc] at h;cases h
def aX7 {d:AD}{log:List AF}{bx:AN}{s:AI}(h:(jW d log bx s==0)=false):(bR d log bx s).1=d:=by unfold bR;rw[h];rfl
def bN0 (d:AD)(bx:AN)(s:AI):(bR d [] bx s).1=d:=aX7 rfl
def bU4 (s:AK):(bL s ⟨0,[]⟩).2=false:=rfl
def bFd {log:List AF}{key e:Int}{s:AI}(hs:s=⟨0,0,[],0⟩\/s.Epoch=aD log)(d:AD):
  (bR d (bZ (fO log (bJ log key e).1).1 s).1.Log (bZ (fO log (bJ log key e).1).1 s).1.Boxes (eZ (bZ (fO log (bJ log key e).1).1 s).1 0).1).1=(bR d log (bJ log key e).1 s).1:=by
 cases hc:aY log&&jT (bJ log key e).1 log with
 |true=>
  have b:(fO log (bJ log key e).1).1=⟨log,(bJ log key e).1,[]⟩:=by unfold fO;rw[hc];rfl
  rw[b];cases hq:s.Epoch !=aD log with
  |true=>
   have c:s=⟨0,0,[],0⟩:=by
    rcases hs with h|h
    ·exact h
    ·rw[h] at hq;simp at hq
   have a:(bZ ⟨log,(bJ log key e).1,[]⟩ s).1=⟨log,(bJ log key e).1,[]⟩:=by unfold bZ;rw[show(AM.mk log (bJ log key e).1 []).Log=log from rfl,hq];rfl
   rw[a,c];rfl
  |false=>
   have a:(bZ ⟨log,(bJ log key e).1,[]⟩ s).1=⟨log,(bJ log key e).1,[s]⟩:=by unfold bZ;rw[show(AM.mk log (bJ log key e).1 []).Log=log from rfl,hq];rfl
   rw[a];rfl
 |false=>
  have b:(fO log (bJ log key e).1).1=⟨[],⟨0,[]⟩,[]⟩:=by unfold fO;rw[hc];rfl
  have a:(bZ (fO log (bJ log key e).1).1 s).1.Log=[]:=by rw[(vI _ _).2,b]
  rw[a,bN0];refine(aX7 ?_).symm;cases hl:aY log with
  |false=>simp only[jW,hl,db,jk,ac];rfl
  |true=>
   rw[hl,cx] at hc;have hm:(bJ log key e).2=false:=by
    cases hm:(bJ log key e).2 with
    |false=>rfl
    |true=>rw[aUq hm] at hc;cases hc
   rw[bJ8 hm];simp only[jW,hl,bU4,ay,cu,db,Bool.or_true,ac];cases !cZ log d.Log with
   |true=>rfl
   |false=>simp only[aa];cases !jE (aC log) (aT d.Store)<;>rfl
def aCx (nm:ByteArray):∀(i:Nat) (d:AD),(Ic nm i d).sz<=d.sz+i
 |0,d=>ai _
 |i+1,d=>by have h1:=aCx nm i d;have h2:=Ia (Ic nm i d) nm (i:Int) false;show(dO (Ic nm i d) nm (i:Int) false).1.sz<=_;omega
def qQ (seed:Int):∀n:Nat,(aU seed n).length<=n
 |0=>ai _
 |n+1=>by have h1:=qQ seed n;have h2:=vK (aU seed n) 1 (aT (aO seed (n:Int))) (aO seed 0);show(eX (aU seed n) 1 (aT (aO seed (n:Int))) (aO seed 0)).1.length<=_;omega
def aOf (seed:Int)(n:Nat)(d:AD):(xH seed n d).sz<=d.sz+n:=by have h1:=aP7 d (aU seed n) (bX seed 0);have h2:=qQ seed n;show(mQ d (aU seed n) (bX seed 0)).1.sz<=_;omega
def aHh (s:AK):(bG s).sz=0:=rfl
def aQc (seed:Int)(n:Nat):(lT seed n).sz<=3*n:=by have h1:=aCx (aA 1) n (Ic (aA 0) n (xH seed n (bG (aO seed 0))));have h2:=aCx (aA 0) n (xH seed n (bG (aO seed 0)));have a:=aOf seed n (bG (aO seed 0));rw[aHh] at a;unfold lT;omega
def aQd (seed:Int)(n:Nat):(iL seed n).sz<=13*n:=by have h1:=Yj (aU seed n) (bX seed 0) 1000;have h2:=qQ seed n;unfold iL;omega
def aLh (log:List AF)(bx:AN):(fO log bx).1.sz<=log.length+bx.sz:=by
 unfold fO;cases aY log&&jT bx log with
 |true=>simp only[ac,AM.sz,AN.sz,bl,eJ,gv];omega
 |false=>exact cy _
def aQe (seed:Int)(n:Nat):(jI seed n).sz<=14*n+501:=by have h1:=(vI (fO (aU seed n) (iL seed n)).1 (nwW seed n).2.1).1;have h2:=aLh (aU seed n) (iL seed n);have b:=aQd seed n;have c:=qQ seed n;have a:=(zM (lT seed n)).2;have a:(nwW seed n).2.1.Data.length<=500:=a;unfold jI;omega
def bJ9 (seed:Int)(n:Nat)(d:AD):(Ae seed n d).sz<=d.sz+2*n+20:=by have h1:=aP5 (xH seed n d) (aU seed n) (iL seed n) (nwW seed n).2.1;have h2:=aOf seed n d;have a:=qQ seed n;unfold Ae;omega
def bFe {α:Type}{f:α->Nat}{b:Nat}:∀{l:List α},(∀x∈l,f x<=b)->(l.map f).sum<=l.length*b
 |[],_=>cy _
 |x::l,h=>by
  have h1:=h x (by simp);have h2:=bFe (l:=l) (f:=f) (b:=b) λy a=>h y (by simp[a]);simp only[bo,de,au,di];omega
def Q8 (nm:ByteArray):∀(i:Nat) (l:List AD) (s:AC),(wC nm i l s).sz<=s.sz+l.length
 |_,[],s=>ai _
 |i,d::l,s=>by
  have h1:=Q8 nm (i+1) l (gD s 1 (i:Int) (fC d.Store nm (i:Int))).1;have h2:=aXz s 1 (i:Int) (fC d.Store nm (i:Int));show(wC nm (i+1) l (gD s 1 (i:Int) (fC d.Store nm (i:Int))).1).sz<=_;rw[au];omega
def aQf (s:AC)(id m:Int):(oJ s id m).1.sz<=s.sz+1:=by
 unfold oJ;cases dI s&&dI (qG s id m) with
 |false=>simp only[aa];omega
 |true=>
  have e:(s.Accounts.map AJ.sz).sum=((s.Accounts.take (sN id s.Accounts)).map AJ.sz).sum+((s.Accounts.drop (sN id s.Accounts)).map AJ.sz).sum:=by rw[<-fR,<-cX,cJ]
  have el:(s.Accounts.take (sN id s.Accounts)).length+(s.Accounts.drop (sN id s.Accounts)).length=s.Accounts.length:=by rw[<-ax,cJ]
  simp only[ac,qG,AC.sz,ax,cX,fR,au,bl,bo,eJ,de,gv,AJ.sz];omega
def aLi (nm:ByteArray)(s:Int):(iH nm s).sz<=nm.size:=by
 unfold iH;cases kZ nm s with
 |true=>simp[AC.sz]
 |false=>exact cy _
def aLj (seed:Int)(l:List AD)(j:Int):(Ta seed l j).sz<=l.length+101:=by
 have h1:=Q8 (aA j) 0 l (oJ (iH (aA j) (aZ seed [281,j])) 1 3).1;have h2:=aQf (iH (aA j) (aZ seed [281,j])) 1 3;have a:=aLi (aA j) (aZ seed [281,j]);have b:(aA j).size<=100:=by unfold aA;cases j==0<;>cases j==1<;>decide
 unfold Ta;omega
def aX8 (c:Int)(l:List Int)(n:Int):(xG c l n).length<=7:=by
 unfold xG;cases hc:bI n 1 7&&decide ((l.length:Int)<n) with
 |false=>exact cy _
 |true=>rw[ab] at hc;have:=iA hc.1;simp only[ac,bg,fo];omega
def aCy (pin salt key secret:Int)(cs:List Int)(n limit:Int):(Mr pin salt key secret cs n limit).2.1.length<=7/\((Mr pin salt key secret cs n limit).2.1.map AG.sz).sum=0:=by
 unfold Mr;cases aOd pin salt key secret limit&& !((xG secret cs n).length==0) with
 |false=>exact⟨cy _,rfl⟩
 |true=>refine⟨by simp only[ac,bg];exact aX8 _ _ _,?_⟩;have:=bFe (f:=AG.sz) (b:=0) (l:=(xG secret cs n).map λs=>Dx ⟨s,0,0,limit⟩) (λx a=>by obtain⟨s,_,rfl⟩:=cg.1 a;exact ai _);simp only[ac];omega
def bCn (n k t pin seed:Int):(bY n k t pin seed).sz<=100000:=by
 unfold bY;cases hc:Tc n k t pin seed with
 |false=>exact cy _
 |true=>
  simp only[Tc,ab] at hc;have hn:=iA hc.1;obtain⟨N,h⟩:∃N,N=n.toNat:=⟨_,rfl⟩;have j:N<=3:=by omega
  have h1:=zM (lT seed N);have h2:=aQc seed N;have m:=aQe seed N;have v:=aLj seed (dR seed N) 0;have w:=aLj seed (dR seed N) 1;have o:=aCy pin 7 (aZ seed [283]) (IntKind.i64.wrap (1+(aZ seed [293]).tmod 1018)) (Q7 seed t) k 5;have e:(dR seed N).length=N:=by simp[dR]
  have p:=bFe (f:=AD.sz) (b:=26) (l:=((dR seed N).drop 1).map (Ae seed N)) (λx q=>by
   obtain⟨d,hd,rfl⟩:=cg.1 q;have a:=dq hd;simp only[dR,cg] at a;obtain⟨i,_,rfl⟩:=a;have:=bJ9 seed N (bG (aO seed (i:Int)));rw[aHh] at this;omega)
  have r:(nwW seed N).1.sz=(lT seed N).sz:=h1.1;have s:(aCw seed t pin k).2.1.length<=7/\((aCw seed t pin k).2.1.map AG.sz).sum=0:=o;rw[bg,cz,e] at p;simp only[ac,<-h,AA.sz,jZ,Ad,au,bg,cz,e,bo,de,bl,eJ,gv,fm,r];have c:(jI seed N).sz<=14*N+501:=m;have u:(N-1)*26<=52:=dc 26 (show N-1<=2 by omega);simp only[AM.sz,AN.sz] at c;omega
def bKa (d:AD)(n:ByteArray)(h:Int)(rm:Bool):(dO d n h rm).1.Key=d.Key/\(dO d n h rm).1.Epoch=d.Epoch:=by unfold dO;cases(sF d n h rm).2<;>exact⟨rfl,rfl⟩
def aZ2 (nm:ByteArray):∀(i:Nat) (d:AD),(Ic nm i d).Key=d.Key/\(Ic nm i d).Epoch=d.Epoch
 |0,d=>⟨rfl,rfl⟩
 |i+1,d=>by
  obtain⟨h1,h2⟩:=aZ2 nm i d;obtain⟨a,b⟩:=bKa (Ic nm i d) nm (i:Int) false;exact⟨a.trans h1,b.trans h2⟩
def bFf (seed:Int)(n:Nat):(lT seed n).Key=(xH seed n (bG (aO seed 0))).Key/\(lT seed n).Epoch=(xH seed n (bG (aO seed 0))).Epoch:=by obtain⟨h1,h2⟩:=aZ2 (aA 1) n (Ic (aA 0) n (xH seed n (bG (aO seed 0))));obtain⟨a,b⟩:=aZ2 (aA 0) n (xH seed n (bG (aO seed 0)));exact⟨h1.trans a,h2.trans b⟩
def bFg {seed:Int}{n:Nat}(h:bK (xH seed n (bG (aO seed 0))).Key=true):(xH seed n (bG (aO seed 0))).Epoch=aD (aU seed n):=by
 unfold xH mQ at h ⊢;cases hq: !aY (aU seed n)||(!cZ (aU seed n) (bG (aO seed 0)).Log||(decide (aD (aU seed n)<(bG (aO seed 0)).Epoch)|| !bK (bX seed 0))) with
 |true=>rw[hq] at h;exact absurd (show bK 0=true from h) (by decide)
 |false=>rfl
def bKb (seed:Int)(n:Nat):(nwW seed n).2.1=⟨0,0,[],0⟩\/(nwW seed n).2.1.Epoch=aD (aU seed n):=by
 obtain⟨k1,k2⟩:=bFf seed n;unfold nwW cB;generalize lT seed n=d at k1 k2 ⊢;cases hs:(qC d.Key d.Epoch (IntKind.i64.wrap (d.Version+1)) d.aAD).2 with
 |false=>exact .inl rfl
 |true=>
  refine .inr ?_;simp only[ac];unfold qC at hs ⊢;cases hc:bK d.Key&&(bI d.Epoch 0 1000000&&bI (IntKind.i64.wrap (d.Version+1)) 0 1000000)&&aR d.aAD with
  |false=>rw[hc] at hs;cases hs
  |true=>simp only[ab] at hc;show d.Epoch=_;rw[k2];exact bFg (k1▸hc.1.1)
def bRf (seed:Int)(n:Nat)(d:AD):(bR (xH seed n d) (jI seed n).Log (jI seed n).Boxes (eZ (jI seed n) 0).1).1=Ae seed n d:=bFd (bKb seed n) (xH seed n d)
def aUr (f:Int->Int)(l:List Int)(j:Nat)(x:Int):Bool:=(l.take j).any λq=>f q==f x
def Ym (s:AU)(e:Int):Int:=bif Da e&&(!(e==1)&&bI s.Value 0 1018) then pR e s.Value else 0
def nH (k:AZ)(e:Int):AZ×Int×Bool:=bif jY k&&(!(k.Guesses==k.Limit)&&(Da e&& !(e==1))) then({k with Guesses:=IntKind.i64.wrap (k.Guesses+1)},Ym k.aAQ e,true) else(k,0,false)
def bN1 (l:List AZ):List AZ:=bif decide ((l.length:Int)>30) then l.drop 1 else l
def Oc (h:AG)(e:Int):AG×Int×Bool:=bif decide (kQ h.State<h.Monotonic)|| !(nH h.State e).2.2 then(h,0,false) else(⟨(nH h.State e).1,bN1 (h.Saved++[h.State]),kQ (nH h.State e).1⟩,(nH h.State e).2.1,true)
def Af (l i b:Int):Int:=bif dW b 1019==0 then 0 else pR (Yk l i) b
def aHi (hs:List AG)(a:List Int)(i:Nat)(c:Int):Bool:=(decide (c<0)||decide (c>=(hs.length:Int)))||aUr (λq=>q) a i c
def mV (hs:List AG)(a:List Int):Bool:= !gM (aHi hs a) 0 a
def bFh (e:Int)(s:List AG×List Int×List Int)(c:Int):List AG×List Int×List Int:=
 (s.1.set c.toNat (Oc (s.1.getD c.toNat default) e).1,bif (Oc (s.1.getD c.toNat default) e).2.2 then s.2.1++[(Oc (s.1.getD c.toNat default) e).1.State.aAQ.Index] else s.2.1,bif (Oc (s.1.getD c.toNat default) e).2.2 then s.2.2++[(Oc (s.1.getD c.toNat default) e).2.1] else s.2.2)
def qK (hs:List AG)(a:List Int)(e:Int):List AG×List Int×List Int:=a.foldl (bFh e) (hs,[],[])
def Od (n:Int):Int:=bif dW n 1019==0 then 0 else aHg 1019 11 (dW n 1019) 1017 1
def bRg (l:List Int)(k a w:Int)(j:Nat):Int:=bif (j:Int)==k then w else(IntKind.i64.wrap ((IntKind.i64.wrap (w*dW (IntKind.i64.wrap (dW a 1019-dW (l.getD j 0) 1019)) 1019)).tmod 1019*Od (IntKind.i64.wrap (dW (l.getD k.toNat 0) 1019-dW (l.getD j 0) 1019)))).tmod 1019
def bKc (l:List Int)(k a:Int):Int:=bif (decide (k<0)||decide (k>=(l.length:Int)))||gM (aUr (λq=>dW q 1019) l) 0 l then 0 else(List.range l.length).foldl (bRg l k a) 1
def aHj (a b:Int):Int:=bif Da a&&Da b then(IntKind.i64.wrap (a*b)).tmod 2039 else 0
def aOg (ix vs:List Int)(i:Nat)(x:Int):Bool:= !bI x 1 7||(!Da (vs.getD i 0)||aUr (λq=>q) ix i x)
def bN2 (ix vs:List Int):Int:=(List.range vs.length).foldl (λo i=>aHj o (pR (vs.getD i 0) (bKc ix (i:Int) 0))) 1
def aCz (ix vs:List Int):Int×Bool:=bif (!(ix.length==vs.length)||ix.length==0)||gM (aOg ix vs) 0 ix then(0,false) else(bN2 ix vs,true)
def bCo (c b:Int):Int:=bif dW b 1019==0 then 0 else pR c (Od b)
def aQg (v:A4)(o:Int):Int×Bool:=bif Mq o v.Salt==v.Check then(aQa v.Masked o,true) else(0,false)
def qR (v:A4)(hs:List AG)(a:List Int)(pin b:Int):List AG×List Int×List Int:=qK hs a (Af v.Salt pin b)
def bN3 (hs:List AG)(a:List Int)(pin b:Int):Bool:=mV hs a&&(!(dW b 1019==0)&&bI pin 0 9999)
def Ie (v:A4)(hs:List AG)(a:List Int)(pin b:Int):List AG×Int×Bool:=
 bif !bN3 hs a pin b then(hs,0,false) else
 bif decide ((a.length:Int)<v.Threshold)||(decide ((qR v hs a pin b).2.2.length<a.length)|| !(aCz (qR v hs a pin b).2.1 (qR v hs a pin b).2.2).2) then((qR v hs a pin b).1,0,false) else
  ((qR v hs a pin b).1,aQg v (zH (bCo (aCz (qR v hs a pin b).2.1 (qR v hs a pin b).2.2).1 b) v.Salt))
def bCp (w:AA):Int:=IntKind.i64.wrap (1+(aZ w.Seed [313,w.Now]).tmod 1018)
def fP (w:AA)(a:List Int)(pin:Int):AA×Int×Bool:=bif !aP w then(w,0,false) else
 (qD {w with Hosts:=(Ie w.aAO w.Hosts a pin (bCp w)).1} 5,(Ie w.aAO w.Hosts a pin (bCp w)).2)
def vL (w:AA):List Int:=(List.range (min w.aAO.Threshold ((w.Hosts.length:Int)+1)).toNat).map λ(i:Nat)=>(i:Int)
def wD (w:AA)(pin:Int):AA×Bool:=((fP w (vL w) pin).1,(fP w (vL w) pin).2.2)
def aQh {f:Int->Int}{l:List Int}{j:Nat}(e:j<l.length)(hl:l.length<=1099511627776){τ:Type}(a b:τ){F:(Nat->Option τ)->Nat->Option τ}
  (c:∀rec i (hi:i<j),F rec i=bif f (l[i]'(by omega))==f l[j] then some a else rec (i+1)) (d:∀rec,F rec j=some b):EV.bT FUEL F 0=some (bif aUr f l j l[j] then a else b):=by
 have hlen:(l.take j).length=j:=by rw[bv];omega
 exact jR (l:=l.take j) (λq=>f q==f l[j]) a b (by omega) (λrec i hi=>by
  rw[hlen] at hi;rw[c rec i hi];simp) (λrec=>by rw[hlen];exact d rec)
def bN4 {p:Nat->Int->Bool}{l:List Int}{i:Nat}(hi:i<l.length)(h:gM p 0 (l.take i)=false)(h2:p i l[i]=false):gM p 0 (l.take (i+1))=false:=by
 rw[fq,Ne,Sj] at h ⊢;rintro⟨k,hk,e⟩;rw[bv] at hk;rw[cj,e9] at e;by_cases a:k<i
 ·exact h ⟨k,by rw[bv];omega,by rw[cj,e9];exact e⟩
 ·have:k=i:=by omega
  subst this;rw[h2] at e;cases e
def bU5 {p:Nat->Int->Bool}{l:List Int}{i:Nat}(hi:i<l.length)(h:p i l[i]=true):gM p 0 l=true:=(Sj l 0).2 ⟨i,hi,by rw[cj];exact h⟩
def bRh:((List.range 1019).all λ(x:Nat)=>x==0||((x:Int)*aHg 1019 11 (x:Int) 1017 1)%1019==1&&bI (aHg 1019 11 (x:Int) 1017 1) 1 1018)=true:=by kernel_rfl
def bU6 {x:Int}(h0:0<x)(h1:x<1019):(x*aHg 1019 11 x 1017 1)%1019=1/\1<=aHg 1019 11 x 1017 1/\aHg 1019 11 x 1017 1<=1018:=by have:=cG.1 bRh x.toNat (iq.2 (by omega));rw[show((x.toNat:Nat):Int)=x by omega,cf.2 (show x.toNat≠0 by omega),cu,ab] at this;have hr:=iA this.2;exact⟨eq_of_beq this.1,hr.1,by omega⟩
def bN5 {x m n:Int}(hm:0<=m/\m<1019)(hn:0<=n/\n<1019)(h1:(x*m)%1019=1)(h2:(x*n)%1019=1):m=n:=by
 have e:n*(x*m)=m*(x*n):=by rw[<-eL,<-eL,fe n x,fe m x,eL,eL,fe n m]
 have a:x*m=1+1019*(x*m/1019):=by omega
 have b:x*n=1+1019*(x*n/1019):=by omega
 rw[a,b,Int.mul_add,Int.mul_add,Int.mul_one,Int.mul_one] at e;have b1:n*(1019*(x*m/1019))=1019*(n*(x*m/1019)):=by rw[<-eL,fe n 1019,eL]
 have c:m*(1019*(x*n/1019))=1019*(m*(x*n/1019)):=by rw[<-eL,fe m 1019,eL]
 rw[b1,c] at e;generalize n*(x*m/1019)=p at e;generalize m*(x*n/1019)=q at e;omega
def bN6 {n:Int}:dW n 1019=n%1019:=cQ (by decide)
def bKd {n m:Int}(h:dW n 1019=dW m 1019):Od n=Od m:=by unfold Od;rw[h]
def bHs (h:AG)(e:Int):(Oc h e).1.sz<=h.sz+1:=by
 unfold Oc;cases decide (kQ h.State<h.Monotonic)|| !(nH h.State e).2.2 with
 |true=>exact dy _
 |false=>simp only[aa,AG.sz];unfold bN1;cases decide (((h.Saved++[h.State]).length:Int)>30)<;>simp only[ac,aa,cz,ax,au,bl]<;>omega
def Dy (e:Int)(hs:List AG)(a:List Int)(i:Nat):List AG×List Int×List Int:=(a.take i).foldl (bFh e) (hs,[],[])
def Q9 {e:Int}{hs:List AG}{a:List Int}{i:Nat}(hi:i<a.length):Dy e hs a (i+1)=bFh e (Dy e hs a i) a[i]:=by unfold Dy;rw[dz,ae hi,fp];rfl
def bU7 {hs:List AG}{h:AG}(hm:h∈hs):h.sz<=Cy AG.sz hs:=by have:=aG7 (g:=AG.sz) hm;unfold Cy;omega
structure AskIn (B:Nat) (hs:List AG) (i:Nat) (s:List AG×List Int×List Int):Prop where
 len:s.1.length=hs.length
 sz:∀h∈s.1,h.sz<=B+i
 eq:s.2.1.length=s.2.2.length
 le:s.2.2.length<=i
def aHk {hs:List AG}{a:List Int}(h:mV hs a=true){i:Nat}(hi:i<a.length):0<=a[i]/\a[i]<(hs.length:Int):=by
 unfold mV at h;rw[ca,fq,Ne,Sj] at h;have h2:aHi hs a i a[i]≠true:=λe=>h ⟨i,hi,by rw[cj];exact e⟩
 have h2:=fq.2 h2;unfold aHi at h2;exact Ml (bn.1 h2).1
def aQi {e:Int}{hs:List AG}{a:List Int}(h:mV hs a=true):∀i,i<=a.length->AskIn (Cy AG.sz hs) hs i (Dy e hs a i)
 |0,_=>⟨rfl,λh hm=>by have:h∈hs:=hm;have:=bU7 this;omega,rfl,ai _⟩
 |i+1,hi=>by
  obtain⟨h1,h2,c,d⟩:=aQi (e:=e) h i (by omega);have hc:=aHk h (i:=i) hi;rw[Q9 hi];generalize Dy e hs a i=s at*;have hk:a[i].toNat<s.1.length:=by omega
  have hg:s.1.getD a[i].toNat default=s.1[a[i].toNat]:=by simp[List.getD,ae hk]
  have f:=h2 _ (cb hk);have j:=bHs s.1[a[i].toNat] e;unfold bFh;rw[hg];refine⟨by simp[h1],λx b=> ?_,?_,?_⟩
  ·rcases et b with b|rfl
   ·have:=h2 x b;omega
   ·omega
  ·cases(Oc s.1[a[i].toNat] e).2.2<;>simp[c]
  ·cases(Oc s.1[a[i].toNat] e).2.2<;>simp<;>omega
def aQj (w:AA):(vL w).length<=w.Hosts.length+1:=by unfold vL;rw[bg,fo];omega
def bCq {α:Type}[Inhabited α]{f:α->Nat}{x:α}:∀{l:List α} {i:Nat},i<l.length->f x<=f (l.getD i default)+1->((l.set i x).map f).sum<=(l.map f).sum+1
 |y::l,0,_,h=>by
  simp only[List.getD,fY,ck] at h;simp only[jb,bo,de];omega
 |y::l,i+1,hi,h=>by
  have:=bCq (f:=f) (l:=l) (i:=i) (x:=x) (by simpa using hi) (by simpa[List.getD] using h);simp only[gx,bo,de];omega
def bHt {e:Int}{hs:List AG}{a:List Int}(h:mV hs a=true):∀i,i<=a.length->((Dy e hs a i).1.map AG.sz).sum<=(hs.map AG.sz).sum+i
 |0,_=>ai _
 |i+1,hi=>by
  have c:=bHt (e:=e) h i (by omega);have b:=aQi (e:=e) h i (by omega);have hc:=aHk h (i:=i) hi;rw[Q9 hi];generalize Dy e hs a i=s at*;have hk:a[i].toNat<s.1.length:=by have:=b.len;omega
  have:=bCq (f:=AG.sz) hk (bHs (s.1.getD a[i].toNat default) e);unfold bFh;simp only;omega
def bHu (v:A4)(hs:List AG)(a:List Int)(pin b:Int):(Ie v hs a pin b).1.length=hs.length/\((Ie v hs a pin b).1.map AG.sz).sum<=(hs.map AG.sz).sum+a.length:=by
 unfold Ie;cases hm:bN3 hs a pin b with
 |false=>exact⟨rfl,cM _ _⟩
 |true=>
  have hc:mV hs a=true:=by unfold bN3 at hm;rw[ab] at hm;exact hm.1
  have hs1:=bHt (e:=Af v.Salt pin b) hc a.length (ai _);have c:=(aQi (e:=Af v.Salt pin b) hc a.length (ai _)).len;unfold Dy at hs1 c;rw[dg] at hs1 c;simp only[ay,aa];cases decide ((a.length:Int)<v.Threshold)||(decide ((qR v hs a pin b).2.2.length<a.length)|| !(aCz (qR v hs a pin b).2.1 (qR v hs a pin b).2.2).2)<;>exact⟨c,hs1⟩
def bRi (w:AA)(a:List Int)(pin:Int):(fP w a pin).1.sz<=w.sz+a.length+1:=by
 unfold fP;cases aP w with
 |false=>simp only[db,ac];omega
 |true=>obtain⟨q1,q2⟩:=bHu w.aAO w.Hosts a pin (bCp w);have:=aOc {w with Hosts:=(Ie w.aAO w.Hosts a pin (bCp w)).1} 5;simp only[ay,aa];simp only[AA.sz] at this ⊢;omega
--needs aAM aAK aAL
def oK (w:AA)(d:Int):AA×Bool:=bif dU w d 0&& !eT w d then({w with Stolen:=w.Stolen.set d.toNat true},true) else(w,false)
def nU (b:AP)(now:Int):AP:=bif eQ b then {b with Open:=b.Open.filter λc=>decide (c.Until>=now)} else b
def sO (w:AA):AA:={w with Now:=IntKind.i64.wrap (w.Now+1)}
def uC (w:AA):AA×Bool:=bif aP (sO w) then({sO w with Sites:=w.Sites.map λs=>{s with Book:=nU s.Book (sO w).Now}},true) else(w,false)
def Td (w:AA)(d j:Int):AA×Int:=bif dU w d j&&eT w d then qJ w d j (aP8 j) else(w,1)
def lI (w:AA)(d j:Int):AA×Int:=bif dU w d j&& !eT w d then qJ w d j (aP9 j) else(w,1)
def aZ3:ByteArray:=⟨#[97,46,110,101,116]⟩
def R3 (w:AA)(k d o v:Int)(f:Bool):AA×Bool:=
 bif !aP w then(w,false) else
 bif k==1 then uC w else
 bif k==2 then((Dw w d o).1,(Dw w d o).2==0) else
 bif k==3 then((lI w d o).1,(lI w d o).2==0) else
 bif k==4 then oK w d else
 bif k==5 then((Td w d o).1,(Td w d o).2==0) else
 bif k==6 then fK w d else
 bif k==7 then fG w d o else
 bif k==8 then rF w d aZ3 v f else
 bif k==9 then fH w d else
 bif k==10 then((aM w d v).1,(aM w d v).2==0) else
 bif k==11 then wD w v else
 bif k==12 then eO w else
 bif k==13 then fT w o v else(w,false)
def aZ4 (l:List Int):Prop:=okL (λn:Int=>0<=n/\n<=255) l
noncomputable instance (l:List Int):Decidable (aZ4 l):=Classical.propDecidable _
def bN7 (l:List Int):Bool:=decide ((l.length:Int)>1048576)
def bWt (b:AN):Prop:=∀x∈b.Boxes,bD x.Data
def bU8 (c:AM):Prop:=bWt c.Boxes/\∀s∈c.History,bD s.Data
instance (b:AN):Decidable (bWt b):=inferInstanceAs (Decidable (∀x∈b.Boxes,bD x.Data))
instance (c:AM):Decidable (bU8 c):=inferInstanceAs (Decidable (_/\_))
--needs aAR
def dN (c:AR):Prop:=0<=c.i/\c.b.length<=1048576
instance (c:AR):Decidable (dN c):=by unfold dN;infer_instance
def bRj (h:Int):Int:=IntKind.i64.wrap (IntKind.i64.wrap (h*6364136223846793005)+1442695040888963407)
def bS4 (h:Int):Int:=oQ IntKind.i64 (bAt IntKind.i64 (Gt IntKind.i64 h 33) (Gt IntKind.i64 h 47)) 255
def lJ (c:AR):AR×Int:=bif decide (c.i<(c.b.length:Int)) then(⟨c.b,IntKind.i64.wrap (c.i+1),bRj c.h⟩,oQ IntKind.i64 (IntKind.i64.wrap (bS4 (bRj c.h)+IntKind.i64.wrap (c.b.getD c.i.toNat 0))) 255) else(⟨c.b,c.i,bRj c.h⟩,bS4 (bRj c.h))
def dY (c:AR)(n:Int):AR×Int:=bif decide (n<=0) then(c,0) else bif decide (n<=256) then((lJ c).1,(lJ c).2.tmod n) else
 ((lJ (lJ (lJ c).1).1).1,(IntKind.i64.wrap (IntKind.i64.wrap (IntKind.i64.wrap ((lJ c).2*65536)+IntKind.i64.wrap ((lJ (lJ c).1).2*256))+(lJ (lJ (lJ c).1).1).2)).tmod n)
def Oe (c:AR)(n:Int):AR×Bool:=((dY c n).1,(dY c n).2==0)
def dA (c:AR):AR×Int:=dY c 4
def dB (c:AR):AR×Int:=dY (dA c).1 3
def dC (c:AR):AR×Int:=dY (dB c).1 (IntKind.i64.wrap (1+(dA c).2))
def dD (c:AR):AR×Int:=dY (dC c).1 40
def dE (c:AR):AR×Int:=dY (dD c).1 999
def oL (c:AR):AR×AA:=((dE c).1,bY (IntKind.i64.wrap (1+(dB c).2)) (IntKind.i64.wrap (1+(dA c).2)) (IntKind.i64.wrap (1+(dC c).2)) (dD c).2 (IntKind.i64.wrap (1+(dE c).2)))
def bHv (l:List Int):Nat->Int
 |0=>IntKind.i64.wrap (193017+(l.length:Int))
 |k+1=>oQ IntKind.i64 (IntKind.i64.wrap (IntKind.i64.wrap (IntKind.i64.wrap (bHv l k*137)+IntKind.i64.wrap (l.getD k 0))+11)) 1073741823
def bS5 (l:List Int):Int:=bHv l (min l.length 4000)
def bKe (l:List Int):AR:=⟨l,0,bS5 l⟩
def Dz (l:List Int)(m:Int):Int:=bif decide (IntKind.i64.wrap (3+IntKind.i64.wrap ((l.length:Int).tdiv 12))>m) then m else IntKind.i64.wrap (3+IntKind.i64.wrap ((l.length:Int).tdiv 12))
--needs aAR Event
def eA (c:AR):AR×Int:=dY c 13
def eB (c:AR):AR×Int:=dY (eA c).1 4
def eC (c:AR):AR×Int:=dY (eB c).1 3
def eD (c:AR):AR×Int:=dY (eC c).1 4
def eE (c:AR):AR×Bool:=Oe (eD c).1 3
def eK (c:AR):Int:=IntKind.i64.wrap (1+(eA c).2)
def Mt (c:AR):AR×A0:=
 bif eK c==11 then((dY (eE c).1 40).1,⟨eK c,(eB c).2,(eC c).2,(dY (eE c).1 40).2,(eE c).2⟩) else
 bif eK c==4||eK c==13 then((Oe (eE c).1 2).1,⟨bif (Oe (eE c).1 2).2 then 2 else eK c,(eB c).2,(eC c).2,(eD c).2,(eE c).2⟩) else
 ((eE c).1,⟨eK c,(eB c).2,(eC c).2,(eD c).2,(eE c).2⟩)
def Db (c:AR):Nat->AR×List A0
 |0=>(c,[])
 |n+1=>((Mt (Db c n).1).1,(Db c n).2++[(Mt (Db c n).1).2])
def Yo (c:AR)(m:Int):AR×List A0:=Db (dY c m).1 (dY c m).2.toNat
def aLk (l:List Int):AA×List A0:=((oL (bKe l)).2,(Yo (oL (bKe l)).1 (IntKind.i64.wrap (6+Dz l 14))).2)
def aG4 (e:A0):Prop:=(1<=e.Kind/\e.Kind<=13)/\(0<=e.Device/\e.Device<=3)/\(0<=e.Other/\e.Other<=2)/\(0<=e.Value/\e.Value<=39)/\(e.Kind≠11->e.Value<=3)
--needs Event World
def aOh (w:AA)(d j:Int)(h:ByteArray):AA×Int:=bif dU w d j&& !eT w d then qJ w d j ⟨true,h,443⟩ else(w,1)
def aHl (w:AA)(d j:Int)(h:ByteArray):Prop:=dU w d j=true->nG ⟨true,h,443⟩
noncomputable instance (w:AA) (d j:Int) (h:ByteArray):Decidable (aHl w d j h):=Classical.propDecidable _
def R4 (w:AA)(e:A0):AA×Bool:=
 bif e.Kind==2 then((Dw w e.Device e.Other).1,(Dw w e.Device e.Other).2==0) else
 bif e.Kind==3 then((lI w e.Device e.Other).1,(lI w e.Device e.Other).2==0) else((Td w e.Device e.Other).1,(Td w e.Device e.Other).2==0)
def aQk (w:AA)(e:A0):AA×Bool:=
 bif e.Kind==11 then wD w e.Value else bif e.Kind==12 then eO w else bif e.Kind==13 then fT w e.Other e.Value else(w,false)
def evF (w:AA)(e:A0):AA×Bool:=R3 w e.Kind e.Device e.Other e.Value e.Flag
def runN (w:AA)(l:List A0):Nat->AA
 |0=>w
 |k+1=>(evF (runN w l k) (l.getD k default)).1
def bKf (w:AA)(l:List A0):AA:=runN w l (min l.length 60)
def bCr (w:AA)(l:List A0):Prop:=w.sz<=34359738368/\∀k,k<min l.length 60->(runN w l k).sz<=33000000
noncomputable instance (w:AA) (l:List A0):Decidable (bCr w l):=Classical.propDecidable _
def bCs (a b:AB):Prop:=dS a b=(a,true)/\a.sz<=34359738368/\b.sz<=34359738368
noncomputable instance (a b:AB):Decidable (bCs a b):=Classical.propDecidable _
--needs aAR
--needs aAR aAN aAS
end Go.VK
