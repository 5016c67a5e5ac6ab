import Derived.Test.YtpnhnhhcncnldaaGreatDoorEVyltod
import Derived.Test.YtpnhnhhcncnldaaGreatDoorXtS
/- Printed by wip/tools: models, walks, proofs. -/
set_option linter.all false
set_option maxRecDepth 100000
set_option maxHeartbeats 4000000
namespace Go.VK
open Go.RowKit Go.Proofs D
def kG (k:AZ):Int:=IntKind.i64.wrap (IntKind.i64.wrap (k.Epoch*1000)+k.Guesses)
def jN (w:AA):Bool:= !w.Hosts.any λh=>decide (h.State.Guesses>h.State.Limit)||decide (kG h.State>h.Monotonic)
def aLg {h v:Int}(h0:0<=h)(h1:h<2147483647):0<=hstep h v/\hstep h v<2147483647:=by have hm:=uZ (p:=v) (q:=2147483647) (by omega);unfold hstep;generalize dX v 2147483647=z at*;have a:IntKind.i64.wrap (h*1000003)=h*1000003:=aI (by omega) (by omega);have b:IntKind.i64.wrap (h*1000003+z)=h*1000003+z:=aI (by omega) (by omega);have c:IntKind.i64.wrap (h*1000003+z+13)=h*1000003+z+13:=aI (by omega) (by omega);rw[a,b,c];exact⟨gb _ (by omega),gf _ (by decide)⟩
def bB2 (l:List Int):0<=xQ l/\xQ l<2147483647:=by
 unfold xQ
 suffices ∀(l:List Int) (h:Int),0<=h->h<2147483647->0<=l.foldl hstep h/\l.foldl hstep h<2147483647 from this l 11 (by omega) (by omega)
 intro l;induction l with
 |nil=>intro h h0 h1;exact⟨h0,h1⟩
 |cons x xs a=>intro h h0 h1;exact a _ (aLg h0 h1).1 (aLg h0 h1).2
def mO (k:Int)(l:List Int):0<=bP k l/\bP k l<2147483647:=bB2 _
def aZu (a b:Int):Int:=bif decide (b>a) then b else a
def rY (a:List Int)(r:List (List Int)):List Int:=a++r.flatten
def kH (n:Int):Int:=bif n==0 then 1 else n
def bL (n:Int):Bool:=bK n 1 2147483646
def zC (b:List Int):List Int:=[(b.length:Int)]++b.map IntKind.i64.wrap
def aY (seed:Int)(l:List Int):Int:=kH (bP seed ([151]++l))
def Ab (k:Int)(s:ByteArray):Int:=kH (bP k (zC (bX s)))
def cZ (p:Int):Int:=bif !(bL p) then 0 else(IntKind.i64.wrap (p*48271)).tmod 2147483647
def iG (s:AK):Int:=aY s.Seed [181]
def aT (s:AK):Int:=cZ (iG s)
def jJ (l:List Int)(x:Int):Bool:=l.any λe=>e==x
def dY (log:List AF)(p:Int):Bool:=log.any λe=>e.Kind==2&&e.Device==p
def jK (s:List Int)(e:AF):List Int:=
 bif e.Kind==1 then(bif s.contains e.Device then s else s++[e.Device]) else bif e.Kind==2 then s.filter (λd=>d !=e.Device) else s
def aD (log:List AF):List Int:=log.foldl jK []
def aC (log:List AF):Int:=log.foldl (λn e=>bif e.Kind==2 then IntKind.i64.wrap (n+1) else n) 0
def aP (b:AB)(site a:Int):Int:=kE (λe=>e.Site==site&&e.Handle==a) 0 b.Entries
def aF (s:AC)(id:Int):Int:=kE (λa=>a.Id==id) 0 s.Accounts
def aLh (s:List Int)(x:AF):(jK s x).length<=s.length+1:=by
 unfold jK;cases x.Kind==1 with
 |true=>cases s.contains x.Device<;>simp
 |false=>
  cases x.Kind==2 with
  |true=>have:=e9 (λd=>d !=x.Device) s;simp;omega
  |false=>simp
def iD (log:List AF):(aD log).length<=log.length:=by
 suffices ∀(l:List AF) (s:List Int),(l.foldl jK s).length<=s.length+l.length from by simpa[aD] using this log []
 intro l;induction l with
 |nil=>intro s;simp
 |cons x xs a=>
  intro s;simp only[de,au];have h1:=a (jK s x);have h2:(jK s x).length<=s.length+1:=by
   unfold jK;cases x.Kind==1 with
   |true=>cases s.contains x.Device<;>simp
   |false=>
    cases x.Kind==2 with
    |true=>have:=e9 (λd=>d !=x.Device) s;simp;omega
    |false=>simp
  omega
def bB3 {n:Int}(h:0<=n):aZu 1 n=kH n:=by
 unfold aZu kH;rcases(show n=0\/n=1\/n>1 by omega) with rfl|rfl|h1
 ·rfl
 ·rfl
 ·have:(n==0)=false:=by simp;omega
  simp[h1,this]
def bI (s:ByteArray):Int:=Ab 173 s
def Dt (w:AA):Prop:=w.Devices.length<=34359738368/\w.Stolen.length<=34359738368/\w.aAC.Log.length<=34359738368/\w.Sites.length<=34359738368
instance (w:AA):Decidable (Dt w):=inferInstanceAs (Decidable (_/\_))
def aL (w:AA)(d:Int):Bool:=decide (0<=d)&&decide (d<w.Devices.length)
def Yj {w:AA}(h:Dt w)(d:Int):bK d 0 (IntKind.i64.wrap ((w.Devices.length:Int)-1))=aL w d:=by have:=h.1;rw[aI (by omega) (by omega)];unfold bK aL;congr 1;exact cF.2 (by omega)
def aG (w:AA)(d:Int):AD:=w.Devices.getD d.toNat default
def lN {w:AA}{d:Int}(h:aL w d=true):bA w.Devices d=some (aG w d):=by simp only[aL,ab,bq] at h;rw[qH h.1 (by omega)];simp[aG,List.getD,ae (show d.toNat<w.Devices.length by omega)]
def bC (w:AA)(d:Int):Bool:=aL w d&&jJ (aD w.aAC.Log) (aT (aG w d).Store)
def Mk (w:AA)(d:Int):Bool:=aL w d&&dY w.aAC.Log (aT (aG w d).Store)
def oF (w:AA)(i:Nat):Bool:=bC w i&&(decide (i<w.Stolen.length)&& !w.Stolen.getD i false)
def aX (w:AA):List Int:=((List.range w.Devices.length).filter (oF w)).map Int.ofNat
def Yk (d:Int)(s:AC):Bool:= !decide (aF s 1<0)&&(s.Accounts.getD (aF s 1).toNat default).Credentials.any λc=>c.Handle==d&& !c.Cut
def rD (w:AA)(d:Int):Bool:= !Mk w d||(!bC w d&& !(w.Sites.take 2).any (Yk d))
def mP (a b:AB):Bool:=a.Entries.length==b.Entries.length&&(List.zipWith AH.eqB a.Entries b.Entries).all id
def aPv (a b:AD):Bool:=mP a.aAD b.aAD&&(a.Epoch==b.Epoch&&(a.Version==b.Version&&a.Key==b.Key))
def aXt (w:AA):Bool:=(aX w).all λi=>aPv (aG w ((aX w).getD 0 0)) (aG w i)
def bJx (w:AA):(List.range (min w.Devices.length w.Stolen.length)).filter (oF w)=(List.range w.Devices.length).filter (oF w):=by
 rcases Nat.le_total w.Devices.length w.Stolen.length with h|h
 ·rw[gx h]
 ·rw[Nat.min_eq_right h];obtain⟨k,hk⟩:=Nat.exists_eq_add_of_le h;rw[hk,List.range_add,jh];have:((List.range k).map (w.Stolen.length+·)).filter (oF w)=[]:=by rw[List.filter_eq_nil_iff];intro i hi;obtain⟨j,_,rfl⟩:=cb.1 hi;simp[oF]
  rw[this,cV]
def aZv (w:AA):Int:=((aX w).length:Int)
def bHg {α:Type}{e:α->α->Bool}:∀{l r:List α},((l.zip r).any λp=> !e p.1 p.2)= !(List.zipWith e l r).all id
 |[],r=>by simp
 |x::xs,[]=>by simp
 |x::xs,y::ys=>by simp[bHg (l:=xs) (r:=ys)]
def Dt.of {w:AA}(h:w.sz<=1048576):Dt w:=by simp only[AA.sz,AM.sz] at h;unfold Dt;omega
def aXu (w:AA):∀x∈aX w,aL w x=true:=by intro x a;unfold aX at a;obtain⟨i,hi,rfl⟩:=cb.1 a;obtain⟨h1,h2⟩:=gy.1 hi;simp only[gl] at h1;simp only[aL,ab,bq];have e:(Int.ofNat i)=(i:Int):=rfl;rw[e];omega
def aPw (k:Int)(i:Nat)(z:Int):Int:=IntKind.u8.wrap ((z-bP k [(i:Int)])%256)
def Si (k:Int)(b:List Int):List Int:=Px (λi z=>[aPw k i z]) 0 b
def bB4 (x:Int):dX (IntKind.i64.wrap x) 256=x%256:=by rw[dX,cQ (by omega),IntKind.wrap_i64];omega
def bNg (k:Int)(i:Nat)(z:Int):IntKind.u8.wrap (dX (IntKind.i64.wrap (IntKind.i64.wrap z-bP k [(i:Int)])) 256)=aPw k i z:=by rw[bB4,aPw,IntKind.wrap_i64];congr 1;omega
def bNh (k:Int)(i:Nat)(z:Int):IntKind.u8.wrap (dX (IntKind.i64.wrap (IntKind.i64.wrap z-(bP k [(i:Int)]).tmod 256)) 256)=aPw k i z:=by rw[bB4,aPw,IntKind.wrap_i64,ct (mO _ _).1];congr 1;omega
def rZ {α β:Type}{y:Nat->α->β}:∀{i:Nat} {l:List α},(Px (λi x=>[y i x]) i l).length=l.length
 |i,[]=>rfl
 |i,x::xs=>by simp[Px,rZ]
def iH (p e:Int):Int:=aY p [163,e]
def Sj (k:Int)(b:AO):Int:=bP k ([167,b.To,b.Ephemeral]++zC b.Data)
def gI (p:Int)(b:AO):List Int×Bool:=
 bif !bL p||(b.To !=cZ p||(!bL b.Ephemeral||decide ((b.Data.length:Int)>200))) then([],false)
 else bif b.MAC !=Sj (iH p b.Ephemeral) b then([],false) else(Si (iH p b.Ephemeral) b.Data,true)
def gW:List AO->Int->List Int×Bool
 |[],_=>([],false)
 |b::bs,p=>bif (gI p b).2 then((gI p b).1,true) else gW bs p
def bD (b:List Int):Prop:=b.length<=34359738368/\b.all (λz=>decide (0<=z)&&decide (z<=255))=true
instance (b:List Int):Decidable (bD b):=inferInstanceAs (Decidable (_/\_))
def wM {b:List Int}(h:bD b){i:Nat}(hi:i<b.length):0<=b[i]/\b[i]<=255:=by have:=cG.1 h.2 b[i] (cf hi);simpa using this
def uvG (b:List Int)(p:Nat):Nat->Nat->Int->Int×Int×Bool
 |0,_,_=>(0,0,false)
 |k+1,i,n=>
  if p+i<b.length then
   bif decide (b.getD (p+i) 0<128) then
    (bif (decide (0<i)&&b.getD (p+i) 0==0)||decide (n+b.getD (p+i) 0%128*128^i>1000000000000) then(0,0,false) else(n+b.getD (p+i) 0%128*128^i,((p+i+1:Nat):Int),true))
   else uvG b p k (i+1) (n+b.getD (p+i) 0%128*128^i)
  else(0,0,false)
def zD (b:List Int)(at_:Int):Int×Int×Bool:=if at_<0 then(0,0,false) else uvG b at_.toNat 6 0 0
def aZw {i:Nat}(h:i<=6):(1:Int)<=128^i/\(128:Int)^i<=4398046511104:=by
 match i,h with
 |0,_|1,_|2,_|3,_|4,_|5,_|6,_=>decide
def aZx {z n:Int}{i:Nat}(hi:i<=5)(b:0<=z)(hn:0<=n)(a:n<128^i):0<=n+z%128*128^i/\n+z%128*128^i<128^(i+1)/\0<=z%128*128^i/\z%128*128^i<=127*128^i:=by have hp:=aZw (i:=i) (by omega);have h1:0<=z%128*128^i:=jb (by omega) (by omega);have h2:z%128*128^i<=127*128^i:=Int.mul_le_mul_of_nonneg_right (by omega) (by omega);rw[fi];refine⟨by omega,by omega,h1,h2⟩
def bQ4 {z n:Int}{i:Nat}(hi:i<=5)(j:0<=z)(k:z<=255)(hn:0<=n)(a:n<128^i):
  orI .i64 n (aB1 .i64 (oQ .i64 z 127) (IntKind.i64.wrap (7*(i:Int))))=n+z%128*128^i:=by
 obtain⟨m,rfl⟩:=ee j;obtain⟨q,rfl⟩:=ee hn;have hp:=aZw (i:=i) (by omega);have hs:=aZx (z:=(m:Int)) (n:=(q:Int)) hi (by omega) (by omega) a;have l:oQ .i64 (m:Int) 127=((m%128:Nat):Int):=by
  have e:((BitVec.ofInt 64 (m:Int))&&&(BitVec.ofInt 64 127)).toNat=m%128:=by
   rw[BitVec.toNat_and];have o:(BitVec.ofInt 64 (m:Int)).toNat=m:=by rw[BitVec.toNat_ofInt];omega
   have p:(BitVec.ofInt 64 127).toNat=2^7-1:=by decide
   rw[o,p,gp]
  show IntKind.i64.wrap (((BitVec.ofInt 64 (m:Int))&&&(BitVec.ofInt 64 127)).toNat:Int)=_;rw[e];exact aI (by omega) (by omega)
 have r:IntKind.i64.wrap (7*(i:Int))=((7*i:Nat):Int):=by rw[aI (by omega) (by omega)];omega
 have c:(2:Nat)^(7*i)=128^i:=by rw[Nat.pow_mul]
 have f:((128^i:Nat):Int)=(128:Int)^i:=by simp
 have hb:aB1 .i64 (oQ .i64 (m:Int) 127) (IntKind.i64.wrap (7*(i:Int)))=((m%128*128^i:Nat):Int):=by
  rw[l,r];unfold aB1;rw[bv,show min (7*i) IntKind.i64.bits=7*i from gx (by simp[IntKind.bits];omega)];have s:((m%128:Nat):Int)*2^(7*i)=((m%128*128^i:Nat):Int):=by rw[<-c];simp
  rw[s];have:((m%128*128^i:Nat):Int)=(m:Int)%128*128^i:=by simp
  rw[this];exact aI (by omega) (by omega)
 rw[hb];have d:q<128^i:=by rw[<-f] at a;exact_mod_cast a
 have h:(m%128*128^i)|||q=m%128*128^i+q:=by have:=ka (b:=q) (i:=7*i) (by rw[c];exact d) (m%128);rw[Nat.shiftLeft_eq,c] at this;exact this.symm
 have t:m%128*128^i+q<2^63:=by
  have:((m%128*128^i+q:Nat):Int)=q+(m:Int)%128*128^i:=by simp;omega
  omega
 have u:((BitVec.ofInt 64 (q:Int))|||(BitVec.ofInt 64 ((m%128*128^i:Nat):Int))).toNat=m%128*128^i+q:=by
  rw[BitVec.toNat_or];have v:(BitVec.ofInt 64 (q:Int)).toNat=q:=by rw[BitVec.toNat_ofInt];omega
  have w:(BitVec.ofInt 64 ((m%128*128^i:Nat):Int)).toNat=m%128*128^i:=by rw[BitVec.toNat_ofInt];omega
  rw[v,w,Nat.or_comm,h]
 show IntKind.i64.wrap (((BitVec.ofInt 64 (q:Int))|||(BitVec.ofInt 64 ((m%128*128^i:Nat):Int))).toNat:Int)=_;rw[u,aI (by omega) (by omega)];simp;omega
def kZ (b:List Int):Nat->Int->List Int->List Int×Int×Bool
 |0,a,s=>(s,a,true)
 |k+1,a,s=>bif (zD b a).2.2 then kZ b k (zD b a).2.1 (s++[(zD b a).1]) else([],0,false)
def jU (b:List Int)(a c:Int):List Int×Int×Bool:=bif !bK c 0 100|| !bK a 0 b.length then([],0,false) else kZ b c.toNat a []
def bB5 (b:List Int):∀(k:Nat) (a:Int) (s:List Int),(kZ b k a s).2.2=true->(kZ b k a s).1.length=s.length+k
 |0,a,s,_=>rfl
 |k+1,a,s,h=>by
  unfold kZ at h ⊢;cases c:(zD b a).2.2 with
  |false=>rw[c] at h;simp at h
  |true=>rw[c] at h;simp only[ac] at h ⊢;rw[bB5 b k _ _ h];simp;omega
def decode_len {b:List Int}{a c:Int}(hc:0<=c)(h:(jU b a c).2.2=true):(jU b a c).1.length=c.toNat:=by
 unfold jU at h ⊢;cases d:(!bK c 0 100|| !bK a 0 b.length) with
 |true=>rw[d] at h;simp at h
 |false=>rw[d] at h;simp only[aa] at h ⊢;rw[bB5 _ _ _ _ h];simp
def aZy {k:Int}{b:List Int}(h:b.length<=34359738368):bD (Si k b):=by
 refine⟨by unfold Si;rw[rZ];exact h,?_⟩;rw[cG];intro z a;have:∀(b:List Int) (i:Nat),z∈Px (λi z=>[aPw k i z]) i b->0<=z/\z<=255:=by
  intro b;induction b with
  |nil=>intro i h;simp[Px] at h
  |cons x xs c=>
   intro i h;simp only[Px,bu,cm] at h;rcases h with rfl|h
   ·have:=eG .u8 ((x-bP k [(i:Int)])%256);simpa[aPw,IntKind.min,IntKind.max,IntKind.signed,IntKind.bits] using this
   ·exact c _ h
 have:=this b 0 a;simp[this.1,this.2]
def bE1 (p:Int)(b:AO):bD (gI p b).1:=by
 unfold gI;have h0:bD ([]:List Int):=by decide
 by_cases hl:b.Data.length<=200
 ·cases(!bL p||(b.To !=cZ p||(!bL b.Ephemeral||decide ((b.Data.length:Int)>200))))<;>cases(b.MAC !=Sj (iH p b.Ephemeral) b)<;>first|exact h0|exact aZy (by omega)
 ·have a:decide ((b.Data.length:Int)>200)=true:=by simp;omega
  rw[a];simpa using h0
def Q8 (p:Int):∀bs,bD (gW bs p).1
 |[]=>show bD [] by decide
 |b::bs=>by
  unfold gW;cases(gI p b).2 with
  |true=>exact bE1 p b
  |false=>exact Q8 p bs
def Ml (e:AN)(x:List Int×Bool)(y:List Int×Int×Bool):Int×Bool:=
 bif !x.2||(!y.2.2||(y.2.1 !=(x.1.length:Int)||(y.1.getD 0 0 !=e.Epoch|| !bL (y.1.getD 1 0)))) then(0,false) else(y.1.getD 1 0,true)
def bM (s:AK)(e:AN):Int×Bool:=Ml e (gW e.Boxes (iG s)) (jU (gW e.Boxes (iG s)).1 0 2)
def qO (w:AA)(d:Int):Bool:=aL w d&&(!bC w d||((aG w d).Epoch !=aC w.aAC.Log||(aG w d).Key==(bM (aG w d).Store w.aAC.Boxes).1))
def and_one {n:Int}(h0:0<=n)(h1:n<9223372036854775808):oQ .i64 n 1=n%2:=by
 obtain⟨m,rfl⟩:=ee h0;have e:((BitVec.ofInt 64 (m:Int))&&&(BitVec.ofInt 64 1)).toNat=m%2:=by
  rw[BitVec.toNat_and];have a:(BitVec.ofInt 64 (m:Int)).toNat=m:=by rw[BitVec.toNat_ofInt];omega
  have b:(BitVec.ofInt 64 1).toNat=2^1-1:=by decide
  rw[a,b,gp]
 show IntKind.i64.wrap (((BitVec.ofInt 64 (m:Int))&&&(BitVec.ofInt 64 1)).toNat:Int)=_;rw[e,aI (by omega) (by omega)];omega
def bHi {n:Int}(h0:0<=n):Gu .i64 n 1=n/2:=by unfold Gu;rw[show min (Int.toNat 1) IntKind.i64.bits=1 from by decide,gO _ (by decide)];rfl
def bJy:Nat->Int->Int->Int->Int
 |0,_,_,s=>s
 |k+1,b,n,s=>if n>0 then bJy k ((IntKind.i64.wrap (b*b)).tmod 2147483647) (n/2) (bif n%2==1 then(IntKind.i64.wrap (s*b)).tmod 2147483647 else s) else s
def bHj:bJy 31 48271 2147483645 1=1899818559:=by decide+kernel
def gQ (q:Int):Int:=bif !bL q then 0 else q*1899818559%2147483647
def sD (p:Int)(l:List Int):Int:=bif !bL p then 0 else bP p ([139,(l.length:Int)]++l)
def iI (q:Int)(l:List Int)(g:Int):Bool:=gQ q !=0&&sD (gQ q) l==g
def Sk {α:Type}[Inhabited α]{l:List α}{i:Nat}(h0:0<i)(hi:i<l.length)(hl:l.length<=34359738368):bA l (IntKind.i64.wrap ((i:Int)-1))=some (l.getD (i-1) default):=by rw[aI (by omega) (by omega),show(i:Int)-1=((i-1:Nat):Int) by omega,aN (by omega)];simp[List.getD,ae (show i-1<l.length by omega)]
def vE (l:List AX)(i:Nat)(n:AX):Bool:= !bK n.Kind 1 5||(!bK n.aAH 0 1000000||(!bK n.Time 0 1000000||(decide (0<i)&&decide ((l.getD (i-1) default).Time>n.Time))))
def gG (m:AS):Bool:=decide (m.Notices.length<=30)&& !gM (vE m.Notices) 0 m.Notices
def iJ (b:AP)(i:Nat)(n:A0):Bool:= !bK n.Id 0 (IntKind.i64.wrap (b.Next-1))||((decide (0<i)&&decide ((b.Open.getD (i-1) default).Id>=n.Id))||(!bK n.aAH 0 1000005|| !bK n.Until 0 1000005))
def eQ (b:AP):Bool:=bK b.Next 0 1000000&&decide (b.Open.length<=16)&& !gM (iJ b) 0 b.Open
def wC (a:AI)(i:Nat)(n:AV):Bool:=(!bK n.Handle 0 1000000||((decide (0<i)&&decide ((a.Credentials.getD (i-1) default).Handle>=n.Handle))||(gQ n.Public==0|| !bK n.Counter 0 1000000)))||(a.Credentials.take i).any λq=>q.Public==n.Public
def bB (a:AI):Bool:=bK a.Id 0 1000000&&bK a.Minimum 1 3&&decide (a.Credentials.length<=8)&& !gM (wC a) 0 a.Credentials
def dI (e:AF):Int:=xQ [229,e.Index,e.Kind,e.Device,e.By,e.Previous]
def iZ (l:List AF):Int:=bif (l.length:Int)==0 then 0 else dI (l.getD (l.length-1) default)
def lC (l:List AF)(e:AF):Bool:=
 e.Index==(l.length:Int)&&(e.Previous==iZ l&&((jJ (aD l) e.By||((l.length:Int)==0&&e.By==e.Device))&&(iI e.By [dI e] e.Signature&&
  (bif e.Kind==2 then jJ (aD l) e.Device&&decide (((aD l).length:Int)>1) else !dY l e.Device&&(e.Kind==1&&(!jJ (aD l) e.Device&&decide (((aD l).length:Int)<6)))))))
def aZ (l:List AF):Bool:=bK (l.length:Int) 1 40&& !gM (λi e=> !lC (l.take i) e) 0 l
def bNi {l:List Int}{x:Int}(h:jJ l x=true):0<l.length:=by
 cases l with
 |nil=>simp[jJ] at h
 |cons a r=>simp
def kI:List UInt8->List UInt8->List (List UInt8)
 |cur,[]=>[cur]
 |cur,b::r=>bif b==46 then cur::kI [] r else kI (cur++[b]) r
def bNj (s:List UInt8)(i:Nat):Lib.occAt s [46] i=decide (s[i]? =some 46):=by
 unfold Lib.occAt;cases h:s.drop i with
 |nil=>have:s.length<=i:=List.drop_eq_nil_iff.1 h;simp[dn this,List.isPrefixOf]
 |cons b r=>
  have e:s[i]? =some b:=by have:=dT (xs:=s) (i:=i) (j:=0);rw[h] at this;simpa using this.symm
  rw[e];simp only[List.isPrefixOf,gv,aj];rw[en];simp only[cH,bq];exact eq_comm
def aPx:∀(a cur r:List UInt8),(∀b∈a,b≠46)->kI cur (a++46::r)=(cur++a)::kI [] r
 |[],cur,r,_=>by simp[kI]
 |b::a,cur,r,h=>by
  have hb:(b==46)=false:=by simpa using h b (by simp)
  rw[cI,kI,hb,aa,aPx a _ r (λx c=>h x (cn _ c))];simp
def aLi:∀(a cur:List UInt8),(∀b∈a,b≠46)->kI cur a=[cur++a]
 |[],cur,_=>by simp[kI]
 |b::a,cur,h=>by
  have hb:(b==46)=false:=by simpa using h b (by simp)
  rw[kI,hb,aa,aLi a _ (λx c=>h x (cn _ c))];simp
def bB6:∀(n:Nat) (s:List UInt8),s.length<n->Lib.splitK [46] 0 (Lib.count s [46]) s=kI [] s
 |0,s,h=>absurd h (Nat.not_lt_zero _)
 |n+1,s,h=>by
  rcases Lib.index_spec s [46] with⟨h1,h2⟩|⟨i,h1,h2,a,m⟩
  ·rw[Lib.count_miss h1,aLi s [] (λb hb e=>by
    obtain⟨j,d,c⟩:=je hb;have:=h2 j (by omega);rw[bNj,ae d,c,e] at this;simp at this)];rfl
  ·rw[bNj] at a;have a:s[i]? =some 46:=by simpa using a
   have hi:i<s.length:=by
    rcases fg i s.length with f|k
    ·exact f
    ·rw[dn k] at a;cases a
   rw[Lib.count_hit (by simp) h1,Nat.add_comm,Lib.splitK,h1];have l:((i:Int)== -1)=false:=by simp
   rw[l];simp only[bv,eg,au,bm,cg];rw[dk (by simp),bB6 n (s.drop (i+1)) (by rw[cy];omega)];have es:s=s.take i++46::s.drop (i+1):=by
    have o:s[i]=46:=by rw[ae hi] at a;exact aq a
    rw[<-o,List.getElem_cons_drop hi,cP]
   conv=>rhs;rw[es]
   rw[aPx (s.take i) [] _ (λb hb e=>by
    obtain⟨j,d,c⟩:=je hb;rw[bw] at d;have:=m j (by omega);rw[bNj,ae (by omega)] at this;rw[fe] at c;rw[c,e] at this;simp at this)];simp
def bO (s:ByteArray):List ByteArray:=(kI [] s.data.toList).map λl=>⟨l.toArray⟩
def aPy (s:ByteArray):lW s ⟨#[46]⟩=bO s:=by
 have h1:(lW s ⟨#[46]⟩).map (·.data.toList)=kI [] s.data.toList:=by rw[lW,Lib.splitB_data];exact bB6 _ _ (eN _)
 unfold bO;rw[<-h1,io]
 conv=>lhs;rw[<-List.map_id (lW s ⟨#[46]⟩)]
 congr 1
def aCq (b:Int):Bool:=bK b 97 122||bK b 48 57||b==45
def wN (s:ByteArray):Bool:=decide (1<=s.size)&&decide (s.size<=20)&& !((bX s).getD 0 0==45)&& !((bX s).getD (s.size-1) 0==45)&& !((bX s).any λb=> !aCq b)
def iK (s:ByteArray):Bool:=decide (s.size<=60)&& !((bO s).any λl=> !wN l)
def lI (s:ByteArray):(bX s).length=s.size:=by simp only[bX,bh];rfl
def bB7 {s:ByteArray}{i:Nat}(h:i<s.size):bA (bX s) (i:Int)=some ((bX s)[i]'(by rw[lI];exact h)):=aN _
def ext_list (s:ByteArray)(a b:Nat):s.extract a b=⟨((s.data.toList.drop a).take (b-a)).toArray⟩:=by apply ByteArray.ext;apply jz.1;rw[Lib.extract_data]
def Q9:∀(s cur:List UInt8),(kI cur s).length<=s.length+1
 |[],_=>by simp[kI]
 |b::r,cur=>by
  rw[kI];cases b==46 with
  |true=>have:=Q9 r [];simp;omega
  |false=>have:=Q9 r (cur++[b]);simp at this ⊢;omega
def Sl:∀(s cur:List UInt8) (l:List UInt8),l∈kI cur s->l.length<=cur.length+s.length
 |[],cur,l,h=>by simp[kI] at h;subst h;simp
 |b::r,cur,l,h=>by
  rw[kI] at h;cases hb:b==46 with
  |true=>
   rw[hb,ac] at h;rcases ba.1 h with rfl|h
   ·omega
   ·have:=Sl r [] l h;simp at this ⊢;omega
  |false=>rw[hb,aa] at h;have:=Sl r _ l h;simp at this ⊢;omega
def Sm (s:ByteArray):(bO s).length<=s.size+1:=by unfold bO;rw[bh];exact Q9 _ _
def zF (s l:ByteArray)(h:l∈bO s):l.size<=s.size:=by unfold bO at h;obtain⟨q,hq,rfl⟩:=cb.1 h;have:=Sl _ _ q hq;have h2:(⟨q.toArray⟩:ByteArray).size=q.length:=rfl;have a:s.data.toList.length=s.size:=rfl;have b:([]:List UInt8).length=0:=rfl;omega
def bWp (z:ByteArray):(z.toList==(⟨#[]⟩:ByteArray).toList)=decide (z.size=0):=by
 rw[ByteArray.toList_eq,ByteArray.toList_eq,en];simp only[cH,bq];constructor
 ·intro h;show z.data.size=0;rw[<-cL,h];rfl
 ·intro h;exact ce h
def zG:∀(s cur:List UInt8),(kI cur s).length=s.countP (·==46)+1
 |[],_=>rfl
 |b::r,cur=>by
  rw[kI,List.countP_cons];cases b==46 with
  |true=>rw[ac,au,zG r []];simp
  |false=>rw[aa,zG r _];simp
def aLj (s:ByteArray):0<(bO s).length:=by unfold bO;rw[bh,zG];omega
def Yl (s:ByteArray):Bool:=(bX s).any λb=>b==46
def aUn (s:ByteArray):Yl s=decide (2<=(bO s).length):=by
 unfold Yl bO bX;rw[bh,zG,List.any_map];have e:(λb:Int=>b==46)∘(λb:UInt8=>(b.toNat:Int))=λb:UInt8=>b==46:=by
  funext b;rw[en];simp only[Function.comp,cH];constructor
  ·intro q;apply UInt8.toNat_inj.1;show _=46;omega
  ·intro q;rw[q];rfl
 rw[e,en,ey,bq];have:=List.countP_pos_iff (p:=λb:UInt8=>b==46) (l:=s.data.toList);constructor
 ·intro h;have:=this.2 h;omega
 ·intro h;exact this.1 (by omega)
def bJz (s:ByteArray):ByteArray:=bif iK s then(bif (bO s).length==1 then s else rA ⟨#[46]⟩ ((bO s).drop ((bO s).length-2))) else⟨#[]⟩
def bS0 {l:List ByteArray}(h:2<=l.length):∃a∈l,∃b∈l,rA ⟨#[46]⟩ (l.drop (l.length-2))=a++⟨#[46]⟩++b:=by
 have hl:(l.drop (l.length-2)).length=2:=by rw[cy];omega
 match hm:l.drop (l.length-2),hl with
 |[a,b],_=>refine⟨a,cX (i:=l.length-2) (by rw[hm];simp),b,cX (i:=l.length-2) (by rw[hm];simp),?_⟩;rw[show[a,b]=[a]++[b] from rfl,bP6 _ _ _ (by simp),bP5]
def Sq {s:ByteArray}(h:iK s=true):s.size<=60/\0<s.size:=by
 unfold iK at h;rw[ab,bq] at h;refine⟨h.1,Nat.pos_of_ne_zero λe=> ?_⟩
 have a:s.data.toList=[]:=ce e;have b:bO s=[⟨#[]⟩]:=by unfold bO;rw[a];rfl
 rw[b] at h;exact absurd h.2 (by decide)
def bQ5 {s:ByteArray}(h:iK s=true):decide ((bJz s).size=0)=false:=by
 have hs:=Sq h;have hp:=aLj s;unfold bJz;rw[h,ac];refine ao ?_;cases h1:(bO s).length==1 with
 |true=>rw[ac];omega
 |false=>
  rw[aa];have:(bO s).length≠1:=by simpa using h1
  obtain⟨a,_,b,_,e⟩:=bS0 (l:=bO s) (by omega);rw[e,ByteArray.size_append,ByteArray.size_append];have:(⟨#[46]⟩:ByteArray).size=1:=rfl;omega
def lD (s:ByteArray)(seed:Int):Bool:=iK s&&decide (2<=(bO s).length)&&bL seed
def Mo (l:List AI)(i:Nat)(n:AI):Bool:= !bB n||(decide (0<i)&&decide ((l.getD (i-1) default).Id>=n.Id))
def dK (s:AC):Bool:=lD s.Name s.Book.Seed&&decide (s.Accounts.length<=8)&&eQ s.Book&& !gM (Mo s.Accounts) 0 s.Accounts
def SOk (s:AC):Prop:=s.Name.size<=34359738368/\s.Accounts.length<=34359738368/\s.Book.Open.length<=34359738368/\∀a∈s.Accounts,a.Credentials.length<=34359738368
instance (s:AC):Decidable (SOk s):=inferInstanceAs (Decidable (_/\_))
def iL (name:ByteArray)(seed:Int):AC:=bif lD name seed then⟨name,[],⟨seed,0,[]⟩,[]⟩ else⟨⟨#[]⟩,[],⟨0,0,[]⟩,[]⟩
def bE2 (name:ByteArray)(seed:Int):decide ((iL name seed).Name.size=0)= !lD name seed:=by
 unfold iL;cases h:lD name seed with
 |false=>rfl
 |true=>
  have:iK name=true:=by unfold lD at h;rw[ab,ab] at h;exact h.1.1
  have:=Sq this;exact ao (by show ¬name.size=0;omega)
def aA (i:Int):ByteArray:=bif i==0 then⟨#[98,97,110,107,46,99,111,109]⟩ else bif i==1 then⟨#[115,104,111,112,46,111,114,103]⟩ else⟨#[]⟩
def nD (i:Nat)(s:AC):Bool:= !dK s|| !(s.Name.toList==(aA (i:Int)).toList)
def aQ (w:AA):Bool:=bK w.Now 0 999900&&bK (w.Devices.length:Int) 1 6&&(w.Stolen.length:Int)==(w.Devices.length:Int)&&(w.Sites.length:Int)==2&&gG w.Mail&&aZ w.aAC.Log&&bL w.Seed&& !gM nD 0 w.Sites
def bU0 (w:AA):Prop:=Dt w/\w.Mail.Notices.length<=34359738368/\w.Hosts.length<=34359738368/\∀s∈w.Sites,SOk s
instance (w:AA):Decidable (bU0 w):=inferInstanceAs (Decidable (_/\_))
def aHc {α:Type}{g:α->Nat}{x:α}:∀{l:List α},x∈l->g x<=(l.map g).sum
 |y::r,h=>by
  rw[bn,dg];rcases ba.1 h with rfl|h
  ·omega
  ·have:=aHc (g:=g) h;omega
def SOk.of {s:AC}(h:s.sz<=1048576):SOk s:=by
 simp only[AC.sz] at h;refine⟨by omega,by omega,by omega,λa b=> ?_⟩
 have:=aHc (g:=AI.sz) b;simp only[AI.sz] at this h;omega
def bU0.of {w:AA}(h:w.sz<=1048576):bU0 w:=by
 refine⟨Dt.of h,?_,?_,λs hs=>SOk.of ?_⟩
 ·simp only[AA.sz] at h;omega
 ·simp only[AA.sz] at h;omega
 ·have:=aHc (g:=AC.sz) hs;simp only[AA.sz] at h;omega
def aPz (w:AA)(i:Nat)(_:AD):Bool:= !rD w (i:Int)|| !qO w (i:Int)
def aHd (w:AA):Bool:=aQ w&&jN w&& !gM (aPz w) 0 w.Devices
abbrev Ac (a:List Int)(r:List (List Int)):Prop:=a.length+r.flatten.length<=68719476736/\r.length<=1099511627776
def qA (w:AA)(i:Int):Bool:=decide (0<=i)&&decide (i<w.Sites.length)
def eF (a b:AH):Bool:=decide (a.Site<b.Site)||(a.Site==b.Site&&decide (a.Handle<b.Handle))
def wO (a:AH)(s h:Int):Bool:=decide (a.Site<s)||(a.Site==s&&decide (a.Handle<h))
def pO (x e:AH):Bool:=decide (x.Version>e.Version)||(x.Version==e.Version&&x.Deleted)
def pJ (e x:AH):AH:=bif pO x e then x else e
def bH:List AH->List AH->List AH
 |[],bs=>bs
 |a::xs,[]=>a::xs
 |a::xs,b::bs=>bif eF a b then a::bH xs (b::bs) else bif eF b a then b::bH (a::xs) bs else pJ a b::bH xs bs
termination_by xs bs=>xs.length+bs.length
def aP0 (l:List AH)(i:Nat)(e:AH):Bool:= !bK e.Site 0 2147483646||(!bK e.Handle 0 1000000||(!bK e.Version 1 1000000||(decide ((i:Int)>0)&& !eF (l.getD (i-1) default) e)))
def aR (b:AB):Bool:=decide ((b.Entries.length:Int)<=20)&& !gM (aP0 b.Entries) 0 b.Entries
def dU (a b:AB):AB×Bool:=bif aR a&&aR b then(bif aR ⟨bH a.Entries b.Entries⟩ then(⟨bH a.Entries b.Entries⟩,true) else(a,false)) else(a,false)
def zH (b:AB)(x:AH):AB:=bif decide (aP b x.Site x.Handle>=0) then⟨b.Entries.set (aP b x.Site x.Handle).toNat x⟩ else⟨b.Entries.takeWhile (λe=>wO e x.Site x.Handle)++[x]++b.Entries.dropWhile (λe=>wO e x.Site x.Handle)⟩
def vF {a b:AH}:eF a b=true↔a.Site<b.Site\/(a.Site=b.Site/\a.Handle<b.Handle):=by simp[eF]
def bE3 {a x:AH}:wO a x.Site x.Handle=eF a x:=rfl
def oG {a b c:AH}(h:eF a b=true)(k:eF b c=true):eF a c=true:=by rw[vF] at*;omega
def Ad {a b:AH}(h:eF a b=false)(k:eF b a=false):a.Site=b.Site/\a.Handle=b.Handle:=by
 have h1:¬(a.Site<b.Site\/(a.Site=b.Site/\a.Handle<b.Handle)):=λq=>by rw[vF.2 q] at h;cases h
 have h2:¬(b.Site<a.Site\/(b.Site=a.Site/\b.Handle<a.Handle)):=λq=>by rw[vF.2 q] at k;cases k
 omega
def Ib {a b c:AH}(h:a.Site=b.Site/\a.Handle=b.Handle):eF a c=eF b c:=by unfold eF;rw[h.1,h.2]
def bE4 {a b c:AH}(h:a.Site=b.Site/\a.Handle=b.Handle):eF c a=eF c b:=by unfold eF;rw[h.1,h.2]
def aCr {a b:AH}(h:a.Site=b.Site/\a.Handle=b.Handle):(pJ a b).Site=b.Site/\(pJ a b).Handle=b.Handle:=by
 unfold pJ;cases pO b a
 ·exact h
 ·exact⟨rfl,rfl⟩
def bHk (a b:AH):pJ a b=a\/pJ a b=b:=by
 unfold pJ;cases pO b a
 ·exact .inl rfl
 ·exact .inr rfl
def fF (l:List AH):bH l []=l:=by cases l<;>rw[bH]
def jX (l:List AH):bH [] l=l:=by rw[bH]
def zM:∀(n:Nat) (a b:List AH),a.length+b.length<=n->(bH a b).length<=a.length+b.length
 |_,[],b,_=>by rw[jX];simp
 |_,a::xs,[],_=>by rw[fF];simp
 |0,a::xs,b::bs,h=>by simp at h
 |n+1,a::xs,b::bs,h=>by
  simp only[au] at h;rw[bH];cases eF a b with
  |true=>have:=zM n xs (b::bs) (by simp only[au];omega);simp only[ac,au] at*;omega
  |false=>
   cases eF b a with
   |true=>have:=zM n (a::xs) bs (by simp only[au];omega);simp only[aa,ac,au] at*;omega
   |false=>have:=zM n xs bs (by omega);simp only[aa,au] at*;omega
def vG (a b:AH)(xs bs:List AH):bH (a::xs) (b::bs)=bif eF a b then a::bH xs (b::bs) else bif eF b a then b::bH (a::xs) bs else pJ a b::bH xs bs:=by rw[bH]
def Ym (l:List AH):Prop:=l.Pairwise λa b=>eF a b=true
def aXv:∀(A:List AH) {b:AH} {bs:List AH},Ym (b::bs)->bH (bH A [b]) bs=bH A (b::bs)
 |[],b,bs,h=>by
  rw[jX,jX];cases bs with
  |nil=>rw[fF]
  |cons c cs=>rw[bH,(cp.1 h).1 c (by simp),ac,jX]
 |a::xs,b,bs,h=>by
  have hc:=(cp.1 h).1;rw[vG a b xs [],vG a b xs bs];cases h1:eF a b with
  |true=>
   simp only[ac];cases bs with
   |nil=>rw[fF]
   |cons c cs=>rw[bH,oG h1 (hc c (by simp)),ac,aXv xs h]
  |false=>
   cases h2:eF b a with
   |true=>
    simp only[ac,aa];rw[fF];cases bs with
    |nil=>rw[fF,fF]
    |cons c cs=>rw[bH,hc c (by simp),ac]
   |false=>
    simp only[aa];rw[fF];cases bs with
    |nil=>rw[fF,fF]
    |cons c cs=>rw[bH,Ib (aCr (Ad h1 h2)),hc c (by simp),ac]
def bHl:∀{l:List AH} {x y:AH},y∈bH l [x]->y∈l\/y=x
 |[],x,y,h=>by rw[jX] at h;simp at h;exact .inr h
 |a::xs,x,y,h=>by
  rw[bH] at h;cases h1:eF a x with
  |true=>
   rw[h1,ac] at h;rcases ba.1 h with rfl|h
   ·exact .inl (by simp)
   ·exact(bHl h).imp (λh=>by simp[h]) id
  |false=>
   rw[h1,aa] at h;cases h2:eF x a with
   |true=>
    rw[h2,ac,fF] at h;rcases ba.1 h with rfl|h
    ·exact .inr rfl
    ·exact .inl h
   |false=>
    rw[h2,aa,fF] at h;rcases ba.1 h with rfl|h
    ·rcases bHk a x with e|e
     ·rw[e];exact .inl (by simp)
     ·exact .inr e
    ·exact .inl (by simp[h])
def bHm:∀{l:List AH} {x:AH},Ym l->Ym (bH l [x])
 |[],x,h=>by rw[jX];exact ig _ _
 |a::xs,x,h=>by
  obtain⟨c,hs⟩:=cp.1 h;rw[bH];cases h1:eF a x with
  |true=>
   rw[ac];refine cp.2 ⟨λy b=> ?_,bHm hs⟩;rcases bHl b with b|rfl
   ·exact c y b
   ·exact h1
  |false=>
   cases h2:eF x a with
   |true=>
    rw[aa,ac,fF];refine cp.2 ⟨λy b=> ?_,h⟩;rcases ba.1 b with rfl|b
    ·exact h2
    ·exact oG h2 (c y b)
   |false=>rw[aa,aa,fF];have hk:=Ad h1 h2;refine cp.2 ⟨λy b=> ?_,hs⟩;rw[Ib (aCr hk),<-Ib hk];exact c y b
def aP1:∀(B A:List AH),Ym B->B.foldl (λo x=>bH o [x]) A=bH A B
 |[],A,_=>by rw[fF];rfl
 |b::bs,A,h=>by rw[de,aP1 bs _ (cp.1 h).2,aXv A h]
def Sr {α:Type}{p:α->Bool}:∀{l:List α} {i:Nat},kE p i l<0->∀y∈l,p y=false
 |[],i,_,y,a=>by simp at a
 |x::l,i,h,y,a=>by
  simp only[kE] at h;cases hp:p x with
  |true=>rw[hp,ac] at h;omega
  |false=>
   rw[hp,aa] at h;rcases ba.1 a with rfl|a
   ·exact hp
   ·exact Sr h y a
def Yo {α:Type}{p:α->Bool}:∀{l:List α} {i:Nat},0<=kE p i l->∃l1 e l2,l=l1++e::l2/\p e=true/\kE p i l=((i+l1.length:Nat):Int)
 |[],i,h=>by simp[kE] at h
 |x::l,i,h=>by
  simp only[kE] at h ⊢;cases hp:p x with
  |true=>exact⟨[],x,l,rfl,hp,by simp⟩
  |false=>rw[hp,aa] at h;obtain⟨l1,e,l2,h1,h2,a⟩:=Yo h;exact⟨x::l1,e,l2,by rw[h1];rfl,h2,by rw[aa,a];simp only[au];omega⟩
def bHn:∀{l:List AH} {x:AH},(∀y∈l,(y.Site==x.Site&&y.Handle==x.Handle)=false)->bH l [x]=l.takeWhile (λe=>wO e x.Site x.Handle)++[x]++l.dropWhile (λe=>wO e x.Site x.Handle)
 |[],x,_=>by rw[jX];rfl
 |a::xs,x,h=>by
  rw[bH,dp,List.dropWhile_cons,bE3];cases h1:eF a x with
  |true=>simp only[ac,im];rw[bHn (λy b=>h y (by simp[b]))];rfl
  |false=>
   cases h2:eF x a with
   |true=>simp only[aa,ac];rw[fF];rfl
   |false=>have:=Ad h1 h2;have:=h a (by simp);simp_all
def bHo {e x:AH}{l2:List AH}(he:(e.Site==x.Site&&e.Handle==x.Handle)=true):∀{l1:List AH},Ym (l1++e::l2)->bH (l1++e::l2) [x]=l1++pJ e x::l2
 |[],_=>by
  have hk:e.Site=x.Site/\e.Handle=x.Handle:=by simpa using he
  have h1:eF e x=false:=by
   cases h:eF e x with
   |false=>rfl
   |true=>rw[vF] at h;omega
  have h2:eF x e=false:=by
   cases h:eF x e with
   |false=>rfl
   |true=>rw[vF] at h;omega
  rw[bp,bH,h1,aa,h2,aa,fF];rfl
 |a::l1,h=>by
  obtain⟨b,hs⟩:=cp.1 h;have hk:e.Site=x.Site/\e.Handle=x.Handle:=by simpa using he
  have h1:eF a x=true:=by rw[<-bE4 hk];exact b e (by simp)
  rw[cI,bH,h1,ac,bHo he hs];rfl
def bB8 {l:List AH}{x:AH}(h:Ym l):(bif (decide (aP ⟨l⟩ x.Site x.Handle<0)||pO x (l.getD (aP ⟨l⟩ x.Site x.Handle).toNat default)) then(zH ⟨l⟩ x).Entries else l)=bH l [x]:=by
 unfold zH;by_cases a:aP ⟨l⟩ x.Site x.Handle<0
 ·rw[ak a,jp,ac,show decide (aP ⟨l⟩ x.Site x.Handle>=0)=false from ao (by omega),aa];exact(bHn (Sr a)).symm
 ·obtain⟨l1,e,l2,h1,h2,c⟩:=Yo (show 0<=kE (λe=>e.Site==x.Site&&e.Handle==x.Handle) 0 l from by unfold aP at a;simp only at a;omega);have b:aP ⟨l⟩ x.Site x.Handle=(l1.length:Int):=by unfold aP;rw[c];simp
  rw[b,ao (by omega),cx,show decide ((l1.length:Int)>=0)=true from ak (by omega),ac,bv];subst h1;rw[bHo h2 h];have g:(l1++e::l2).getD l1.length default=e:=by simp[List.getD]
  have st:(l1++e::l2).set l1.length x=l1++x::l2:=by simp
  rw[g];show(bif pO x e then(l1++e::l2).set l1.length x else l1++e::l2)=_;rw[st];unfold pJ;cases pO x e<;>rfl
def bHp {α:Type}{p:Nat->α->Bool}:∀{l:List α} {j:Nat},gM p j l=false->∀(i:Nat) (hi:i<l.length),p (j+i) l[i]=false
 |[],j,_,i,hi=>by simp at hi
 |x::l,j,h,i,hi=>by
  simp only[gM,bo] at h;cases i with
  |zero=>exact h.1
  |succ i=>have:=bHp h.2 i (by simpa using hi);rw[show j+(i+1)=j+1+i by omega];exact this
def aHe {b:AB}(h:aR b=true):b.Entries.length<=20/\Ym b.Entries:=by
 simp only[aR,ab,bq,bz] at h;refine⟨by omega,?_⟩;have adj:∀i (hi:i+1<b.Entries.length),eF b.Entries[i] b.Entries[i+1]=true:=λi hi=>by
  have:=bHp h.2 (i+1) hi;simp only[aP0,bo,cg] at this;have a:=this.2.2.2;rw[ak (by omega),cw] at a;have c:(b.Entries.getD (i+1-1) default)=b.Entries[i]:=by rw[Nat.add_sub_cancel,List.getD,ae (by omega),ci]
  rw[c] at a;simpa using a
 have far:∀d i (hi:i+d+1<b.Entries.length),eF b.Entries[i] b.Entries[i+d+1]=true:=λd=>by
  induction d with
  |zero=>exact λi hi=>adj i hi
  |succ d e=>exact λi hi=>oG (e i (by omega)) (adj (i+d+1) (by omega))
 refine eo.2 λi j hi f k=> ?_;obtain⟨d,rfl⟩:∃d,j=i+d+1:=⟨j-i-1,by omega⟩;exact far d i f
def uS (w:AA):List Int->List AH->(AB×Bool)⊕List AH
 |[],a=> .inr a
 |d::ds,a=>bif (dU ⟨a⟩ (aG w d).aAD).2 then uS w ds (dU ⟨a⟩ (aG w d).aAD).1.Entries else .inl (⟨[]⟩,false)
def Gy (w:AA):AB×Bool:=match uS w (aX w) [] with
 | .inl r=>r
 | .inr a=>(⟨a⟩,true)
def bNk {a b:AB}(h:(dU a b).2=true):aR (dU a b).1=true:=by
 unfold dU at h ⊢;cases h1:(aR a&&aR b) with
 |false=>rw[h1] at h;cases h
 |true=>
  rw[h1] at h;rw[ac] at h ⊢;cases h2:aR ⟨bH a.Entries b.Entries⟩ with
  |false=>rw[h2] at h;cases h
  |true=>rw[ac];exact h2
def gF {α β:Type}{s:List α}(hs:s.length<=34359738368)(x:α)(k:Option β):gd (aV s [x]) k=k:=aB (by unfold aV;simp only[cr];omega)
def oH {α β:Type}{s:List α}(hs:s.length<=34359738368)(k:Option β):gd (aV [] s) k=k:=aB (by unfold aV;simp only[bm];omega)
def bB9 {α:Type}{l s:List α}:l.foldl (λs x=>s++[x]) s=s++l:=by
 have:=aHa (f:=λx:α=>[x]) (l:=l) (s:=s);rw[this];congr 1;induction l with
 |nil=>rfl
 |cons x l a=>simp[a]
def aCs {α:Type}{l:List α}{F:(Nat×List α->Option (List α))->Nat×List α->Option (List α)}(hl:l.length<=34359738368)
  (a:∀rec i s (hi:i<l.length),s.length<=34359738368->F rec (i,s)=rec (i+1,s++[l[i]])) (b:∀rec s,F rec (l.length,s)=some s):EV.bU FUEL F (0,[])=some l:=by
 rw[aXr (l:=l) (λs x=>s++[x]) (λi s=>s.length=i) (λs=>some s) (by omega) rfl (λi s hi hv=>by simp;omega) (λrec i s hi hv=>a rec i s hi (by omega)) (λrec s _=>b rec s),bB9,bp]
def bNl {α:Type}{l:List α}{F:(List α×Nat->Option (List α))->List α×Nat->Option (List α)}(hl:l.length<=34359738368)
  (a:∀rec i s (hi:i<l.length),s.length<=34359738368->F rec (s,i)=rec (s++[l[i]],i+1)) (b:∀rec s,F rec (s,l.length)=some s):EV.bU FUEL F ([],0)=some l:=by
 rw[gV (l:=l) (λs x=>s++[x]) (λi s=>s.length=i) (λs=>some s) (by omega) rfl (λi s hi hv=>by simp;omega) (λrec i s hi hv=>a rec i s hi (by omega)) (λrec s _=>b rec s),bB9,bp]
abbrev Da {α:Type}(f:α->Nat)(l:List α):Nat:=l.length+(l.map f).sum
def jA {S τ:Type}{F:(S->Option τ)->S->Option τ}{n:Nat}{s:S}:EV.bU (n+1) F s=F (EV.bU n F) s:=rfl
def lQ {α:Type}{c:Bool}{x y:α}:(bif c then some x else some y)=some (bif c then x else y):=by cases c<;>rfl
def rE {c d:Bool}:(bif c then some true else some d)=some (c||d):=by cases c<;>rfl
def aP2 {α:Type}[Inhabited α]{l:List α}{i:Nat}(h:i<l.length):l.set i (l.getD i default)=l:=by rw[List.getD,ae h];simp
def Su {α:Type}{p:Nat->α->Bool}:∀(l:List α) (j:Nat),gM p j l=true↔∃(i:Nat) (hi:i<l.length),p (j+i) l[i]=true
 |[],j=>by simp[gM]
 |x::xs,j=>by
  simp only[gM,cz,Su xs];constructor
  ·rintro(h|⟨i,hi,h⟩)
   ·exact⟨0,by simp,h⟩
   ·exact⟨i+1,by simpa using hi,by rw[show j+(i+1)=j+1+i by omega];exact h⟩
  ·rintro⟨i,hi,h⟩;cases i with
   |zero=>exact .inl h
   |succ i=>exact .inr ⟨i,by simpa using hi,by rw[show j+1+i=j+(i+1) by omega];exact h⟩
def bQ6 {α:Type}{τ:Type}{l:List α}(p:α->Bool)(a b:τ)(i:Nat)(hi:i<=l.length)(h:l.length<=34359738368){F:(Nat->Option τ)->Nat->Option τ}(c:∀rec j (d:j<i),F rec j=bif p (l[j]'(by omega)) then some a else rec (j+1))(e:∀rec,F rec i=some b):
  EV.bU FUEL F 0=some (bif (l.take i).any p then a else b):=by
 have ht:(l.take i).length=i:=by rw[bw];omega
 exact jT (l:=l.take i) p _ _ (by omega) (λrec j d=>by rw[c rec j (by omega),fe]) (λrec=>by rw[ht];exact e rec)
def bU1 {α β:Type}{l:List α}(f:α->β){F:(List β×Nat->Option (List β))->List β×Nat->Option (List β)}(hl:l.length<=34359738368)
  (a:∀rec i s (hi:i<l.length),s.length<=34359738368->F rec (s,i)=rec (s++[f l[i]],i+1)) (b:∀rec s,F rec (s,l.length)=some s):EV.bU FUEL F ([],0)=some (l.map f):=by
 rw[gV (l:=l) (λs x=>s++[f x]) (λi s=>s.length=i) (λs=>some s) (by omega) rfl (λi s hi hv=>by simp;omega) (λrec i s hi hv=>a rec i s hi (by omega)) (λrec s _=>b rec s),aHb,bp]
def bS1 {α β:Type}{l:List α}(f:α->β){s0:List β}{F:(List β×Nat->Option (List β))->List β×Nat->Option (List β)}(hl:s0.length+l.length<=34359738368)
  (a:∀rec i s (hi:i<l.length),s.length<=34359738368->F rec (s,i)=rec (s++[f l[i]],i+1)) (b:∀rec s,F rec (s,l.length)=some s):EV.bU FUEL F (s0,0)=some (s0++l.map f):=by
 rw[gV (l:=l) (λs x=>s++[f x]) (λi s=>s.length=s0.length+i) (λs=>some s) (by omega) (by simp) (λi s hi hv=>by simp;omega) (λrec i s hi hv=>a rec i s hi (by omega)) (λrec s _=>b rec s),aHb]
def fM (h:AG)(b:Int):AG×Bool:=bif decide (b<0)||decide (b>=(h.Saved.length:Int)) then(h,false) else(⟨h.Saved.getD (h.Saved.length-1-b.toNat) default,h.Saved,h.Monotonic⟩,true)
def fT (w:AA)(i b:Int):AA×Bool:=bif !aQ w||(decide (i<0)||decide (i>=(w.Hosts.length:Int))) then(w,false) else bif (fM (w.Hosts.getD i.toNat default) b).2 then({w with Hosts:=w.Hosts.set i.toNat (fM (w.Hosts.getD i.toNat default) b).1},true) else(w,false)
def aCt {i:Int}{n:Nat}(h:n<=34359738368):(!bK i 0 (IntKind.i64.wrap ((n:Int)-1)))=(decide (i<0)||decide (i>=(n:Int))):=by
 rw[aI (by omega) (by omega)];unfold bK;by_cases h0:i<0
 ·rw[ak h0,ao (show ¬0<=i by omega)];rfl
 ·rw[ao h0,ak (show 0<=i by omega)];by_cases h1:i>=(n:Int)
  ·rw[ak h1,ao (show ¬i<=(n:Int)-1 by omega)];rfl
  ·rw[ao h1,ak (show i<=(n:Int)-1 by omega)];rfl
def sF {α:Type}[Inhabited α]{l:List α}{i:Int}(h0:0<=i)(h1:i<(l.length:Int)):bA l i=some (l.getD i.toNat default):=by rw[qH h0 (by omega)];simp[List.getD,ae (show i.toNat<l.length by omega)]
def Mq {i:Int}{n:Nat}(h:(decide (i<0)||decide (i>=(n:Int)))=false):0<=i/\i<(n:Int):=by simp only[bo,cu] at h;omega
def wD {α:Type}[Inhabited α]{f:α->Nat}{l:List α}{i:Nat}(h:i<l.length):f (l.getD i default)<=(l.map f).sum:=by rw[List.getD,ae h];exact jS h
def bCa (h:AG)(b:Int):(fM h b).1.sz=h.sz:=by unfold fM;cases(decide (b<0)||decide (b>=(h.Saved.length:Int)))<;>rfl
def bE5 (l:List AU)(i:Nat)(s:AU):Bool:= !bK s.Index 1 7||(!bK s.Value 0 1018||(l.take i).any λq=>q.Index==s.Index)
def Zk (l:List AU):Bool:=bK (l.length:Int) 1 7&& !gM (bE5 l) 0 l
def aP3 (x:Int)(z v:Int):Int:=(IntKind.i64.wrap (IntKind.i64.wrap (v+dX z 1019)*x)).tmod 1019
def Sw (c:Int)(l:List Int)(x:Int):Int:=(l.foldr (aP3 x) 0+dX c 1019)%1019
def bNm (c:List Int)(s:AU):AU:=⟨s.Index,(IntKind.i64.wrap (s.Value+Sw 0 c s.Index)).tmod 1019⟩
def lF (l:List AU)(c:List Int):List AU:=bif Zk l then l.map (bNm c) else[]
def cS (l:List AU)(i:Nat)(k:Int):Bool:=(l.take i).any λq=>q.Index==k
def bCb {x z v:Int}(a:0<=x/\x<=1000)(hv:0<=v/\v<1019):0<=aP3 x z v/\aP3 x z v<1019:=by have hm:=uZ (p:=z) (q:=1019) (by omega);unfold aP3;generalize dX z 1019=m at*;have b:IntKind.i64.wrap (v+m)=v+m:=aI (by omega) (by omega);have h2:0<=(v+m)*x:=jb (by omega) a.1;have c:(v+m)*x<=3000*1000:=Int.mul_le_mul (by omega) a.2 a.1 (by omega);rw[b,aI (by omega) (by omega)];exact⟨gb _ h2,gf _ (by omega)⟩
def aP4 {x:Int}(a:0<=x/\x<=1000):∀l:List Int,0<=l.foldr (aP3 x) 0/\l.foldr (aP3 x) 0<1019
 |[]=>by simp
 |z::l=>bCb a (aP4 a l)
def bNn {σ τ:Type}{l:List Int}(g:Int->σ->σ){s0:σ}(fin:σ->Option τ){F:(σ×Int->Option τ)->σ×Int->Option τ}(hl:l.length<=34359738368)
  (a:∀rec s i (hi:i<l.length),F rec (s,(i:Int))=rec (g l[i] s,(i:Int)-1)) (b:∀rec s,F rec (s,-1)=fin s) {n0:Int} (hn:n0=(l.length:Int)-1):EV.bU FUEL F (s0,n0)=fin (l.foldr g s0):=by
 subst hn;refine Gx (λk s=>k<=l.length/\s=((l.drop (l.length-k)).foldr g s0,(l.length:Int)-1-k)) l.length _ (by omega) ⟨by omega,by simp⟩ (λk s rec hk hv=> ?_) (λs rec hv=> ?_)
 ·obtain⟨_,rfl⟩:=hv;refine .inl ⟨_,⟨hk,rfl⟩,?_⟩;have e:(l.length:Int)-1-k=((l.length-1-k:Nat):Int):=by omega
  have c:l.length-(k+1)=l.length-1-k:=by omega
  have hi:l.length-1-k<l.length:=by omega
  rw[e,a rec _ _ hi,c,cq hi,List.foldr_cons,show l.length-1-k+1=l.length-k by omega];congr 2;omega
 ·obtain⟨_,rfl⟩:=hv;simp only[fx,gm];rw[show(l.length:Int)-1-(l.length:Int)= -1 by omega,b]
def aZz {c d:Bool}:(bif c then some d else some false)=some (c&&d):=by cases c<;>rfl
def kC (k:AZ):Bool:=Zk [k.aAQ]&&(bK k.Epoch 0 1000000&&(bK k.Limit 1 10&&bK k.Guesses 0 k.Limit))
def jO (h:AG)(s:AU):Bool:= !kC h.State||(decide (kG h.State<h.Monotonic)||(h.State.Epoch==1000000||(s.Index !=h.State.aAQ.Index|| !Zk [s])))
def qP (h:AG)(s:AU):AG:=⟨⟨s,IntKind.i64.wrap (h.State.Epoch+1),0,h.State.Limit⟩,h.Saved,kG ⟨s,IntKind.i64.wrap (h.State.Epoch+1),0,h.State.Limit⟩⟩
def aP5 (h:AG)(s:AU):AG×Bool:=bif jO h s then(h,false) else(qP h s,true)
def aZ0 (hs:List AG)(a:List AU):List AG×Bool:=bif ((a.length:Int)==0)||(hs.zip a).any (λp=>jO p.1 p.2) then(hs,false) else(List.zipWith qP hs a,true)
def fC (hs:List AG)(c:List Int):List AG×Bool:=aZ0 hs (lF (hs.map λh=>h.State.aAQ) c)
def aLk (w:AA):Nat->Int->List Int
 |0,_=>[]
 |n+1,k=>bif decide (k<w.aAO.Threshold)&&decide (k<=7) then aY w.Seed [317,w.Now,k]::aLk w n (k+1) else[]
def aCu (w:AA):List Int:=aLk w 8 1
def eO (w:AA):AA×Bool:=bif aQ w&&(fC w.Hosts (aCu w)).2 then({w with Hosts:=(fC w.Hosts (aCu w)).1},true) else(w,false)
def aXw (w:AA):∀(n:Nat) (k:Int),(aLk w n k).length<=n
 |0,_=>ai _
 |n+1,k=>by
  unfold aLk;cases(decide (k<w.aAO.Threshold)&&decide (k<=7)) with
  |true=>have:=aXw w n (k+1);simp only[ac,au];omega
  |false=>simp
def bCc (l:List AU)(c:List Int):(lF l c).length<=l.length:=by unfold lF;cases Zk l<;>simp
def bCd {l:List AU}{c:List Int}(h:((lF l c).length:Int)≠0):(lF l c).length=l.length:=by
 unfold lF at h ⊢;cases a:Zk l with
 |true=>simp
 |false=>rw[a] at h;simp at h
def bQ7 (b:AB)(s h:Int):Int:=bif decide (aP b s h>=0) then IntKind.i64.wrap ((b.Entries.getD (aP b s h).toNat default).Version+1) else 1
def R3 (b:AB)(s h:Int):AH:=⟨s,h,bQ7 b s h,false⟩
def aUo (b:AB)(s h:Int):AB×Bool:=bif !(decide (aP b s h>=0)&& !(b.Entries.getD (aP b s h).toNat default).Deleted)&&(aR b&&aR (zH b (R3 b s h))) then(zH b (R3 b s h),true) else(b,false)
def bJ0 (b:AB)(s h:Int):AH:=⟨s,h,IntKind.i64.wrap ((b.Entries.getD (aP b s h).toNat default).Version+1),true⟩
def aUp (b:AB)(s h:Int):AB×Bool:=bif !aR b||(decide (aP b s h<0)||((b.Entries.getD (aP b s h).toNat default).Deleted||(b.Entries.getD (aP b s h).toNat default).Version==1000000)) then(b,false) else(zH b (bJ0 b s h),true)
def sG (d:AD)(n:ByteArray)(h:Int)(rm:Bool):AB×Bool:=bif rm then aUp d.aAD (bI n) h else aUo d.aAD (bI n) h
def dQ (d:AD)(n:ByteArray)(h:Int)(rm:Bool):AD×Bool:=bif (sG d n h rm).2 then({d with aAD:=(sG d n h rm).1},true) else(d,false)
def rF (w:AA)(d:Int)(n:ByteArray)(h:Int)(rm:Bool):AA×Bool:=bif aQ w&&aL w d then(bif (dQ (aG w d) n h rm).2 then({w with Devices:=w.Devices.set d.toNat (dQ (aG w d) n h rm).1},true) else(w,false)) else(w,false)
def bQ8 (b:List Int):(zC b).length=b.length+1:=by simp[zC,Nat.add_comm]
def aZ1 (l:List Int):List.map (λ(n:Int)=>n) l=l:=List.map_id l
def bJ1 (hs:List AG):∀(a:List AU),(List.zipWith qP hs a).length<=hs.length/\((List.zipWith qP hs a).map AG.sz).sum<=(hs.map AG.sz).sum:=by
 induction hs with
 |nil=>intro a;simp
 |cons h hs b=>
  intro a;cases a with
  |nil=>simp
  |cons s a=>have:=b a;have e:(qP h s).sz=h.sz:=rfl;simp only[List.zipWith_cons_cons,au,bn,dg,e];omega
def K3 (hs:List AG)(c:List Int):(fC hs c).1.length<=hs.length/\((fC hs c).1.map AG.sz).sum<=(hs.map AG.sz).sum:=by
 unfold fC aZ0;generalize lF (hs.map λh=>h.State.aAQ) c=a;cases(((a.length:Int)==0)||(hs.zip a).any (λp=>jO p.1 p.2)) with
 |true=>exact⟨ai _,ai _⟩
 |false=>exact bJ1 hs a
def aUq (w:AA):(eO w).1.sz<=w.sz:=by
 unfold eO;have:=K3 w.Hosts (aCu w);cases(aQ w&&(fC w.Hosts (aCu w)).2) with
 |false=>exact ai _
 |true=>simp only[ac,AA.sz];omega
def bCe (b:AB)(x:AH):(zH b x).Entries.length<=b.Entries.length+1:=by
 unfold zH;cases decide (aP b x.Site x.Handle>=0) with
 |true=>simp
 |false=>have:=congrArg List.length (jt (p:=λe=>wO e x.Site x.Handle) (l:=b.Entries));simp only[aw] at this;simp only[aa,aw,cr];omega
def bQ9 (b:AB)(s h:Int):(aUo b s h).1.Entries.length<=b.Entries.length+1:=by
 unfold aUo;have:=bCe b (R3 b s h);cases(!(decide (aP b s h>=0)&& !(b.Entries.getD (aP b s h).toNat default).Deleted)&&(aR b&&aR (zH b (R3 b s h)))) with
 |true=>exact this
 |false=>simp
def bRa (b:AB)(s h:Int):(aUp b s h).1.Entries.length<=b.Entries.length+1:=by
 unfold aUp;have:=bCe b (bJ0 b s h);cases(!aR b||(decide (aP b s h<0)||((b.Entries.getD (aP b s h).toNat default).Deleted||(b.Entries.getD (aP b s h).toNat default).Version==1000000))) with
 |true=>simp
 |false=>exact this
def Ic (d:AD)(n:ByteArray)(h:Int)(rm:Bool):(dQ d n h rm).1.sz<=d.sz+1:=by
 unfold dQ;have:(sG d n h rm).1.Entries.length<=d.aAD.Entries.length+1:=by
  unfold sG;cases rm with
  |true=>exact bRa _ _ _
  |false=>exact bQ9 _ _ _
 cases(sG d n h rm).2 with
 |true=>simp only[ac,AD.sz];omega
 |false=>simp
def fA (c:AM)(b:Int):AJ×Bool:=bif decide (b<0)||decide (b>=(c.History.length:Int)) then(⟨0,0,[],0⟩,false) else(c.History.getD (c.History.length-1-b.toNat) default,true)
def bJ2 (a b:AF):Bool:=a.Index==b.Index&&(a.Kind==b.Kind&&(a.Device==b.Device&&(a.By==b.By&&(a.Previous==b.Previous&&(a.Signature==b.Signature&&true)))))
def dG (a b:List AF):Bool:=decide (b.length<=a.length)&& !gM (λi e=> !bJ2 (a.getD i default) e) 0 b
def jB (k:Int)(b:AJ):Int:=bP k ([227,b.Epoch,b.Version]++zC b.Data)
def lX (k e v:Int):Int:=aY k [223,e,v]
def uvE:Nat->Int->List Int
 |0,n=>[n]
 |k+1,n=>bif decide (n>127) then(n%128+128)::uvE k (n/128) else[n]
def aZ2:∀(k:Nat) (n:Int),1<=(uvE k n).length/\(uvE k n).length<=k+1
 |0,n=>by simp[uvE]
 |k+1,n=>by
  have:=aZ2 k (n/128);unfold uvE;cases decide (n>127)<;>simp<;>omega
def bRb {k:Nat}{z:Int}(h:z<=127):uvE k z=[z]:=by
 cases k with
 |zero=>rfl
 |succ k=>unfold uvE;rw[ao (by omega)];rfl
def bHq:∀(k:Nat) (m n:Int) (x y:List Int),0<=m->0<=n->uvE k m++x=uvE k n++y->m=n/\x=y
 |0,m,n,x,y,_,_,h=>by simpa[uvE] using h
 |k+1,m,n,x,y,h0,h1,h=>by
  unfold uvE at h;by_cases hm:m>127<;>by_cases hn:n>127
  ·simp only[ak hm,ak hn,ac,cI,ga] at h;have:=bHq k (m/128) (n/128) x y (by omega) (by omega) h.2;exact⟨by omega,this.2⟩
  ·simp only[ak hm,ao hn,ac,aa,cI,ga] at h;omega
  ·simp only[ao hm,ak hn,ac,aa,cI,ga] at h;omega
  ·simpa only[ao hm,ao hn,aa,cI,bp,ga] using h
def bCf {F:(Int×List Int->Option (Int×List Int))->Int×List Int->Option (Int×List Int)}
  (a:∀rec (n:Int) (s:List Int),0<=n->n<9223372036854775807->s.length<=34359738368->F rec (n,s)=bif decide (n>127) then rec (n/128,s++[n%128+128]) else some (n,s)):
  ∀(k:Nat) (n:Int) (s:List Int) (f:Nat),k<f->0<=n->n<128^(k+1)->k<=6->s.length+k<=34359738368->∃m q,EV.bU f F (n,s)=some (m,q)/\q++[m]=s++uvE k n/\0<=m/\m<=127
 |0,n,s,f+1,b,h0,h1,_,hs=>by
  refine⟨n,s,?_,rfl,h0,by simp at h1;omega⟩;rw[jA,a _ _ _ h0 (by simp at h1;omega) (by omega),ao (by simp at h1;omega)];rfl
 |k+1,n,s,f+1,b,h0,h1,hk,hs=>by
  have h2:(128:Int)^(k+1+1)=128*128^(k+1):=by rw[fi];omega
  have h:(128:Int)^(k+1+1)<=128^8:=by exact_mod_cast iy (by omega) (by omega)
  have i:(128:Int)^8=72057594037927936:=by decide
  rw[jA,a _ _ _ h0 (by omega) (by omega)];unfold uvE;by_cases hn:n>127
  ·rw[ak hn,ac,ac];obtain⟨m,q,c,d,e⟩:=bCf a k (n/128) (s++[n%128+128]) f (by omega) (by omega) (by omega) (by omega) (by simp;omega);exact⟨m,q,c,by rw[d];simp,e⟩
  ·rw[ao hn,aa,aa];exact⟨n,s,rfl,rfl,h0,by omega⟩
def bRc {n:Int}(h0:0<=n)(h1:n<9223372036854775808):oQ .i64 n 127=n%128:=by
 obtain⟨m,rfl⟩:=ee h0;have e:((BitVec.ofInt 64 (m:Int))&&&(BitVec.ofInt 64 127)).toNat=m%128:=by
  rw[BitVec.toNat_and];have a:(BitVec.ofInt 64 (m:Int)).toNat=m:=by rw[BitVec.toNat_ofInt];omega
  have b:(BitVec.ofInt 64 127).toNat=2^7-1:=by decide
  rw[a,b,gp]
 show IntKind.i64.wrap (((BitVec.ofInt 64 (m:Int))&&&(BitVec.ofInt 64 127)).toNat:Int)=_;rw[e,aI (by omega) (by omega)];omega
def bU2 {n:Int}(h0:0<=n)(h1:n<128):orI .i64 n 128=n+128:=by
 obtain⟨m,rfl⟩:=ee h0;have e:((BitVec.ofInt 64 (m:Int))|||(BitVec.ofInt 64 128)).toNat=m+128:=by
  rw[BitVec.toNat_or];have a:(BitVec.ofInt 64 (m:Int)).toNat=m:=by rw[BitVec.toNat_ofInt];omega
  have c:(BitVec.ofInt 64 128).toNat=1<<<7:=by decide
  have:=ka (b:=m) (i:=7) (by omega) 1;rw[a,c,Nat.or_comm,<-this];omega
 show IntKind.i64.wrap (((BitVec.ofInt 64 (m:Int))|||(BitVec.ofInt 64 128)).toNat:Int)=_;rw[e,aI (by omega) (by omega)];omega
def bWr {n:Int}(h0:0<=n):Gu .i64 n 7=n/128:=by unfold Gu;rw[show min (Int.toNat 7) IntKind.i64.bits=7 from by decide,gO _ (by decide)];rfl
def aP6 {n:Int}(h0:0<=n)(h1:n<=255):IntKind.u8.wrap n=n:=by rw[IntKind.wrap_u8];omega
def enc1 (n:Int):List Int:=bif bK n 0 1000000000000 then uvE 5 n else[]
def sH (b:List Int)(n:Int):List Int:=b++enc1 n
def jG (l:List Int):List Int:=(l.map enc1).flatten
def Sy (n:Int):(enc1 n).length<=6:=by have:=(aZ2 5 n).2;unfold enc1;cases bK n 0 1000000000000<;>simp<;>omega
def aOf {n:Int}(h:0<=n/\n<=1000000000000):enc1 n=uvE 5 n:=by unfold enc1 bK;rw[ak h.1,ak h.2];rfl
def vH (n:Int)(l:List Int):jG (n::l)=enc1 n++jG l:=rfl
def aCv:∀l:List Int,(jG l).length<=6*l.length
 |[]=>by simp[jG]
 |n::l=>by
  have:=aCv l;have:=Sy n;rw[vH,aw,au];omega
def aUr (l:List Int):Prop:=∀v∈l,0<=v/\v<=(1000000000000:Int)
def bCg:∀(s t x y:List Int),aUr s->aUr t->s.length=t.length->jG s++x=jG t++y->s=t/\x=y
 |[],[],x,y,_,_,_,h=>⟨rfl,h⟩
 |m::s,n::t,x,y,hs,ht,hl,h=>by
  have hm:=hs m (by simp);have hn:=ht n (by simp);rw[vH,vH,cl,cl,aOf hm,aOf hn] at h;obtain⟨h1,h2⟩:=bHq 5 m n _ _ hm.1 hn.1 h;obtain⟨a,b⟩:=bCg s t x y (λv hv=>hs v (by simp[hv])) (λv hv=>ht v (by simp[hv])) (by simpa using hl) h2;exact⟨by rw[h1,a],b⟩
def bHr {b:List Int}(hb:bD b){p:Nat}:∀(k i:Nat) (n m e:Int),uvG b p (k+1) i n=(m,e,true)->∃(r:Int) (q:Nat),(0<=r/\m=n+r*128^i/\m<=1000000000000/\e=(q:Int)/\q<=b.length/\(0<i->r≠0))/\b.drop (p+i)=uvE k r++b.drop q
 |k,i,n,m,e,h=>by
  unfold uvG at h;by_cases a:p+i<b.length
  ·rw[cQ a] at h;have l:=wM hb a;have hg:b.getD (p+i) 0=b[p+i]:=by simp[List.getD,ae a]
   rw[hg] at h;have hd:b.drop (p+i)=b[p+i]::b.drop (p+i+1):=cq a;generalize b[p+i]=z at l h hd;by_cases c:z<128
   ·rw[ak c,ac] at h;have d:z%128=z:=by omega
    rw[d] at h;cases hc:(decide (0<i)&&z==0)||decide (n+z*128^i>1000000000000) with
    |true=>rw[hc] at h;simp at h
    |false=>rw[hc,aa] at h;rw[bo] at hc;have h1:=of_decide_eq_false hc.2;injection h with f j;injection j with j w;refine⟨z,p+i+1,⟨l.1,f.symm,by omega,j.symm,by omega,λhi h0=> ?_⟩,by rw[hd,bRb (by omega)];rfl⟩;subst h0;simp[hi] at hc
   ·rw[ao c,aa] at h
    match k,h with
    |0,h=>simp[uvG] at h
    |k+1,h=>
     obtain⟨r,q,⟨h1,h2,o,s,t,u⟩,v⟩:=bHr hb k (i+1) _ m e h;have hr:=u (by omega);refine⟨z%128+128*r,q,⟨by omega,?_,o,s,t,λ_=>by omega⟩,?_⟩
     ·rw[h2,fi,Int.add_mul,<-Int.add_assoc];congr 1;rw[fj 128 r,eM,fj 128]
     ·rw[hd,show p+i+1=p+(i+1) from by omega,v];have f:uvE (k+1) (z%128+128*r)=z::uvE k r:=by rw[uvE,ak (show z%128+128*r>127 by omega),ac,show(z%128+128*r)%128+128=z by omega,show(z%128+128*r)/128=r by omega]
      rw[f];rfl
  ·rw[dk a] at h;simp at h
def aZ3 {b:List Int}(hb:bD b){a m e:Int}(h:zD b a=(m,e,true)):∃q:Nat,(0<=a/\0<=m/\m<=1000000000000/\e=(q:Int)/\q<=b.length)/\b.drop a.toNat=enc1 m++b.drop q:=by
 unfold zD at h;by_cases h0:a<0
 ·rw[cQ h0] at h;simp at h
 ·rw[dk h0] at h;obtain⟨r,q,⟨h1,h2,c,d,f,_⟩,i⟩:=bHr hb 5 0 0 m e h;have hm:m=r:=by rw[h2];simp
  subst hm;exact⟨q,⟨by omega,h1,c,d,f⟩,by rw[aOf ⟨h1,c⟩];exact i⟩
def Sz {b:List Int}(hb:bD b):∀(k:Nat) (a:Int) (s v:List Int) (e:Int),0<=a->a<=b.length->kZ b k a s=(v,e,true)->∃(t:List Int) (q:Nat),(v=s++t/\t.length=k/\e=(q:Int)/\q<=b.length/\aUr t)/\b.drop a.toNat=jG t++b.drop q
 |0,a,s,v,e,h0,h1,h=>by
  unfold kZ at h;injection h with i d;injection d with d _;exact⟨[],a.toNat,⟨by simp[i],rfl,by omega,by omega,λv hv=>by simp at hv⟩,rfl⟩
 |k+1,a,s,v,e,h0,h1,h=>by
  unfold kZ at h;cases f:zD b a with
  |mk m r=>
   obtain⟨e',ok⟩:=r;rw[f] at h;cases ok with
   |false=>simp at h
   |true=>
    obtain⟨q,⟨p,j,l,n,u⟩,o⟩:=aZ3 hb f;subst n;obtain⟨t,q',⟨k1,k2,k3,k4,k5⟩,k6⟩:=Sz hb k (q:Int) (s++[m]) v e (by omega) (by omega) h;refine⟨m::t,q',⟨by rw[k1];simp,by simp[k2],k3,k4,λx c=> ?_⟩,by rw[o,vH,cl];congr 1⟩;rcases ba.1 c with rfl|c
    ·exact⟨j,l⟩
    ·exact k5 x c
def aP7 {b:List Int}:∀(j k:Nat) (a:Int) (s:List Int),kZ b (j+k) a s=bif (kZ b j a s).2.2 then kZ b k (kZ b j a s).2.1 (kZ b j a s).1 else([],0,false)
 |0,k,a,s=>by rw[cg];rfl
 |j+1,k,a,s=>by
  have e:∀m,kZ b (m+1) a s=bif (zD b a).2.2 then kZ b m (zD b a).2.1 (s++[(zD b a).1]) else([],0,false):=λ_=>rfl;rw[show j+1+k=j+k+1 by omega,e,e];cases(zD b a).2.2 with
  |false=>rfl
  |true=>exact aP7 j k _ _
def aP8 {b:List Int}:∀(k:Nat) (a:Int) (s:List Int),kZ b k a s=bif (kZ b k a []).2.2 then(s++(kZ b k a []).1,(kZ b k a []).2.1,true) else([],0,false)
 |0,a,s=>by simp[kZ]
 |k+1,a,s=>by
  unfold kZ;cases(zD b a).2.2 with
  |false=>rfl
  |true=>simp only[ac,bp];rw[aP8 k _ (s++[(zD b a).1]),aP8 k _ [(zD b a).1]];cases(kZ b k (zD b a).2.1 []).2.2<;>simp
def aUs (e:AH):List Int:=[e.Site,e.Handle,e.Version,bif e.Deleted then 1 else 0]
def mG:List Int->List AH
 |s::h::v::d::r=>⟨s,h,v,d==1⟩::mG r
 |_=>[]
def lS:List Int->Bool
 |_::_::_::d::r=>decide (d<=1)&&lS r
 |_=>true
def kJ (l:List AH):List Int:=l.flatMap aUs
def vI:∀l:List AH,(kJ l).length=4*l.length
 |[]=>rfl
 |e::l=>by
  have:=vI l;simp only[kJ,List.flatMap_cons,aw,au] at*;rw[this];simp[aUs];omega
def aCw:∀(k:Nat) (l:List Int),l.length=4*k->(mG l).length=k
 |0,[],_=>rfl
 |k+1,s::h::v::d::r,hl=>by
  have:=aCw k r (by simp at hl;omega);simp[mG,this]
def aXx:∀(k:Nat) (l:List Int),l.length=4*k->aUr l->aUr (kJ (mG l))/\(lS l=true↔kJ (mG l)=l)
 |0,[],_,_=>⟨λv h=>by simp[kJ,mG] at h,by simp[lS,kJ,mG]⟩
 |k+1,s::h::v::d::r,hl,ho=>by
  obtain⟨h1,h2⟩:=aXx k r (by simp at hl;omega) (λx a=>ho x (by simp[a]));have hs:=ho s (by simp);have b:=ho h (by simp);have hv:=ho v (by simp);have hd:=ho d (by simp);have e:kJ (mG (s::h::v::d::r))=s::h::v::(bif d==1 then 1 else 0)::kJ (mG r):=by simp[mG,kJ,aUs]
  rw[e];refine⟨λx a=> ?_,?_⟩
  ·simp only[ba] at a;rcases a with rfl|rfl|rfl|rfl|a
   ·exact hs
   ·exact b
   ·exact hv
   ·cases(d==1)<;>simp
   ·exact h1 x a
  ·simp only[lS,ab,bq,ga,true_and,h2];refine and_congr_left' ?_;by_cases h1:d=1
   ·subst h1;simp
   ·rw[show(d==1)=false by simpa using h1,aa];omega
def bCh:∀(k:Nat) (l r:List Int),l.length=4*k->mG (l++r)=mG l++mG r
 |0,[],r,_=>rfl
 |k+1,s::h::v::d::l,r,hl=>by
  have:=bCh k l r (by simp at hl;omega);simp[mG,this]
def qB (b:AB):List Int:=[(b.Entries.length:Int)]++kJ b.Entries
def nT (b:AB):List Int:=bif aR b then jG (qB b) else[]
def bCi (d:List Int)(v:List Int×Int×Bool):AB×Bool:=bif !v.2.2||(v.2.1 !=(d.length:Int)||(!lS v.1|| !aR ⟨mG v.1⟩)) then(⟨[]⟩,false) else(⟨mG v.1⟩,true)
def Du (d:List Int):AB×Bool:=bif !(zD d 0).2.2||decide ((zD d 0).1>20) then(⟨[]⟩,false) else bCi d (kZ d (4*(zD d 0).1).toNat (zD d 0).2.1 [])
def iB (key:Int)(s:AJ):AB×Bool:=bif !(bL key&&(bK s.Epoch 0 1000000&&bK s.Version 0 1000000))||s.MAC !=jB key s then(⟨[]⟩,false) else Du (Si (lX key s.Epoch s.Version) s.Data)
def bNo {d:List Int}(hd:bD d){n e e':Int}{v:List Int}(h:zD d 0=(n,e,true))(hn:n<=20)(j:kZ d (4*n).toNat e []=(v,e',true)):(jG (qB ⟨mG v⟩)=d↔(e'=(d.length:Int)/\lS v=true))/\v.length=4*n.toNat/\aUr v/\(mG v).length=n.toNat:=by
 obtain⟨q,⟨_,k,m,o,w⟩,p⟩:=aZ3 hd h;subst o;obtain⟨t,q',⟨k1,k2,k3,k4,k5⟩,k6⟩:=Sz hd _ _ _ _ _ (by omega) (by omega) j;rw[bp] at k1;subst k1;have hl:v.length=4*n.toNat:=by omega
 obtain⟨r,i⟩:=aXx n.toNat v hl k5;have a:=aCw n.toNat v hl;refine⟨?_,hl,k5,a⟩;have b:d=jG (n::v)++d.drop q':=by have h0:d.drop (Int.toNat 0)=d:=rfl;rw[vH,cl,<-k6];exact h0▸p
 have hv:qB ⟨mG v⟩=n::kJ (mG v):=by show((mG v).length:Int)::_=_;rw[a];congr 1;omega
 rw[hv];constructor
 ·intro hq;have c:jG (n::kJ (mG v))++[]=jG (n::v)++d.drop q':=by rw[cV,hq];exact b
  have f:∀l,aUr l->aUr (n::l):=λl hl x c=>by
   rcases ba.1 c with rfl|c
   ·exact⟨k,m⟩
   ·exact hl x c
  obtain⟨s,u⟩:=bCg _ _ _ _ (f _ r) (f _ k5) (by simp[vI,a,hl]) c;have:=congrArg List.length u;simp only[bm,cy] at this;exact⟨by omega,i.2 (List.cons.inj s).2⟩
 ·rintro⟨h1,h2⟩;rw[i.1 h2];have:d.drop q'=[]:=gn (by omega);rw[this,cV] at b;exact b.symm
def aXy (l:List Int):(EV.bIz l).data.toList=l.map λn=>UInt8.ofNat n.toNat:=by
 unfold EV.bIz;have:∀(l:List Int) (r:ByteArray),(l.foldl (λr n=>r.push (UInt8.ofNat n.toNat)) r).data.toList=r.data.toList++l.map λn=>UInt8.ofNat n.toNat:=by
  intro l;induction l with
  |nil=>intro r;simp
  |cons x l a=>intro r;rw[de,a];simp
 rw[this];rfl
def bytes_inj:∀{a b:List Int},(∀z∈a,0<=z/\z<=255)->(∀z∈b,0<=z/\z<=255)->(a.map λn=>UInt8.ofNat n.toNat)=(b.map λn=>UInt8.ofNat n.toNat)->a=b
 |[],[],_,_,_=>rfl
 |[],y::b,_,_,h=>by simp at h
 |x::a,[],_,_,h=>by simp at h
 |x::a,y::b,d,hb,h=>by
  simp only[bn,ga] at h;have f:=d x (by simp);have i:=hb y (by simp);have e:=congrArg UInt8.toNat h.1;rw[UInt8.toNat_ofNat',UInt8.toNat_ofNat'] at e;rw[bytes_inj (λz c=>d z (by simp[c])) (λz c=>hb z (by simp[c])) h.2,show x=y by omega]
def Ta {b:List Int}(h:bD b):∀z∈b,0<=z/\z<=255:=λz a=>by simpa using cG.1 h.2 z a
def aP9 {b:List Int}(h:b.length<=34359738368)(h1:∀z∈b,0<=z/\z<=255):bD b:=⟨h,cG.2 λz a=>by simpa using h1 z a⟩
def aXz:∀(k:Nat) (n:Int),0<=n->n<128^(k+1)->∀z∈uvE k n,0<=z/\z<=255
 |0,n,h0,h1,z,a=>by simp[uvE] at a;subst a;simp at h1;omega
 |k+1,n,h0,h1,z,a=>by
  have h2:(128:Int)^(k+1+1)=128*128^(k+1):=by rw[fi];omega
  unfold uvE at a;by_cases hn:n>127
  ·rw[ak hn,ac] at a;rcases ba.1 a with rfl|a
   ·omega
   ·exact aXz k (n/128) (by omega) (by omega) z a
  ·rw[ao hn,aa] at a;simp at a;subst a;omega
def bE6 (n:Int):∀z∈enc1 n,0<=z/\z<=255:=λz a=>by
 unfold enc1 at a;cases hr:bK n 0 1000000000000 with
 |false=>rw[hr] at a;simp at a
 |true=>
  rw[hr] at a;have:=iC hr;have b:(128:Int)^(5+1)=4398046511104:=by decide
  exact aXz 5 n this.1 (by omega) z a
def R4 (l:List Int):∀z∈jG l,0<=z/\z<=255:=λz a=>by
 unfold jG at a;obtain⟨x,b,a⟩:=jv.1 a;obtain⟨n,_,rfl⟩:=cb.1 b;exact bE6 n z a
def mQ {b:AB}(h:aR b=true):b.Entries.length<=20:=by simp only[aR,ab,bq] at h;omega
def aCx (b:AB):bD (nT b):=by
 unfold nT;cases hb:aR b with
 |false=>exact⟨by simp,rfl⟩
 |true=>
  have:=mQ hb;have h1:=aCv (qB b);have h2:(qB b).length=1+4*b.Entries.length:=by simp[qB,vI];omega
  exact aP9 (by rw[ac];omega) (R4 _)
def bNp (d:List Int):(Du d).1.sz<=20:=by
 have h0:(AB.mk []).sz<=20:=by simp[AB.sz]
 unfold Du;cases !(zD d 0).2.2||decide ((zD d 0).1>20) with
 |true=>exact h0
 |false=>
  rw[aa];generalize kZ d (4*(zD d 0).1).toNat (zD d 0).2.1 []=v;unfold bCi;cases hb:aR ⟨mG v.1⟩ with
  |false=>simp only[cY,jq,ac];exact h0
  |true=>
   have:=mQ hb;cases !v.2.2||(v.2.1 !=(d.length:Int)||(!lS v.1|| !true)) with
   |true=>exact h0
   |false=>simp only[aa,AB.sz] at*;omega
def aX0 (k:Int)(s:AJ):(iB k s).1.sz<=20:=by
 unfold iB;cases !(bL k&&(bK s.Epoch 0 1000000&&bK s.Version 0 1000000))||s.MAC !=jB k s with
 |true=>simp[AB.sz]
 |false=>exact bNp _
def aHf {a b:AB}(h:(dU a b).2=true):(dU a b).1.sz<=20:=by
 unfold dU at*;cases hc:aR a&&aR b with
 |false=>rw[hc] at h;cases h
 |true=>
  rw[hc] at h;cases hm:aR ⟨bH a.Entries b.Entries⟩ with
  |false=>rw[hm] at h;cases h
  |true=>have:=mQ hm;simp only[ac,AB.sz];omega
def jY (d:AD)(log:List AF)(bx:AN)(s:AJ):Int:=
 bif !aZ log|| !dG log d.Log then 1 else bif !jJ (aD log) (aT d.Store) then 2 else bif bx.Epoch !=aC log|| !(bM d.Store bx).2 then 3
 else bif decide (s.Epoch<aC log)||(decide (s.Epoch<d.Epoch)||(s.Epoch==d.Epoch&&decide (s.Version<d.Version))) then 4
 else bif !(iB (bM d.Store bx).1 s).2|| !(dU d.aAD (iB (bM d.Store bx).1 s).1).2 then 5 else 0
def bR (d:AD)(log:List AF)(bx:AN)(s:AJ):AD×Int:=
 bif jY d log bx s==0 then(⟨d.Store,log,(bM d.Store bx).1,s.Epoch,s.Version,(dU d.aAD (iB (bM d.Store bx).1 s).1).1⟩,0) else(d,jY d log bx s)
def aM (w:AA)(d b:Int):AA×Int:=bif aQ w&&aL w d then({w with Devices:=w.Devices.set d.toNat (bR (aG w d) w.aAC.Log w.aAC.Boxes (fA w.aAC b).1).1},(bR (aG w d) w.aAC.Log w.aAC.Boxes (fA w.aAC b).1).2) else(w,1)
def eT (w:AA)(d:Int):Bool:=w.Stolen.getD d.toNat false
def aQa (d:AD)(l:List AF)(bx:AN)(s:AJ):(bR d l bx s).1.sz<=d.sz+l.length+20:=by
 unfold bR;cases hc:jY d l bx s==0 with
 |false=>simp only[aa];omega
 |true=>
  have hm:(dU d.aAD (iB (bM d.Store bx).1 s).1).2=true:=by
   cases hm:(dU d.aAD (iB (bM d.Store bx).1 s).1).2 with
   |true=>rfl
   |false=>
    unfold jY at hc;rw[hm] at hc
    revert hc
    cases !aZ l|| !dG l d.Log<;>cases !jJ (aD l) (aT d.Store)<;>cases bx.Epoch !=aC l|| !(bM d.Store bx).2<;>cases decide (s.Epoch<aC l)||(decide (s.Epoch<d.Epoch)||(s.Epoch==d.Epoch&&decide (s.Version<d.Version)))<;>cases !(iB (bM d.Store bx).1 s).2<;>simp
  have:=aHf hm;simp only[ac,AD.sz,AB.sz] at*;omega
def bCj (k:Int)(i:Nat)(z:Int):Int:=IntKind.u8.wrap ((z+bP k [(i:Int)])%256)
def mI (k:Int)(b:List Int):List Int:=Px (λi z=>[bCj k i z]) 0 b
def gB (k e v:Int)(b:AB):AJ:=⟨e,v,mI (lX k e v) (nT b),jB k ⟨e,v,mI (lX k e v) (nT b),0⟩⟩
def qC (k e v:Int)(b:AB):AJ×Bool:=bif bL k&&(bK e 0 1000000&&bK v 0 1000000)&&aR b then(gB k e v b,true) else(⟨0,0,[],0⟩,false)
def cK (d:AD):AD×AJ×Bool:=bif (qC d.Key d.Epoch (IntKind.i64.wrap (d.Version+1)) d.aAD).2 then({d with Version:=IntKind.i64.wrap (d.Version+1)},(qC d.Key d.Epoch (IntKind.i64.wrap (d.Version+1)) d.aAD).1,true) else(d,⟨0,0,[],0⟩,false)
def pQ (a b:AJ):Bool:=decide (a.Epoch>b.Epoch)||(a.Epoch==b.Epoch&&decide (a.Version>b.Version))
def cB (c:AM)(s:AJ):AM×Bool:=bif s.Epoch !=aC c.Log||((decide ((c.History.length:Int)>0)&& !pQ s (c.History.getD (c.History.length-1) default))||decide ((c.History.length:Int)>=60)) then(c,false) else({c with History:=c.History++[s]},true)
def Tc (w:AA)(d:Int):AA×Bool:=bif (cK (aG w d)).2.2&&(cB w.aAC (cK (aG w d)).2.1).2 then({w with Devices:=w.Devices.set d.toNat (cK (aG w d)).1,aAC:=(cB w.aAC (cK (aG w d)).2.1).1},true) else(w,false)
def eX (w:AA)(d:Int):AA×Bool:=bif (aM w d 0).2==0&&(Tc (aM w d 0).1 d).2 then((Tc (aM w d 0).1 d).1,true) else(w,false)
def lT:List Int->AA->AA×Bool
 |[],w=>(w,true)
 |i::l,w=>bif (eX w i).2 then lT l (eX w i).1 else(w,false)
def sI:List Int->AA->AA×Bool
 |[],w=>(w,true)
 |i::l,w=>bif (aM w i 0).2==0 then sI l (aM w i 0).1 else(w,false)
def kS (w:AA):AA×Bool:=bif aQ w&&((lT (aX w) w).2&&(sI (aX w) (lT (aX w) w).1).2) then((sI (aX w) (lT (aX w) w).1).1,true) else(w,false)
def aX1 (b:AB):(nT b).length<=500:=by
 unfold nT;cases hb:aR b with
 |false=>simp
 |true=>
  have:=mQ hb;have h1:=aCv (qB b);have h2:(qB b).length=1+4*b.Entries.length:=by simp[qB,vI];omega
  rw[ac];omega
def Td (k:Int)(b:List Int):(mI k b).length=b.length:=by unfold mI;exact rZ
def bJ3 (k e v:Int)(b:AB):(qC k e v b).1.Data.length<=500:=by
 unfold qC;cases bL k&&(bK e 0 1000000&&bK v 0 1000000)&&aR b with
 |false=>simp
 |true=>simp only[ac,gB,Td];exact aX1 b
def zN (d:AD):(cK d).1.sz=d.sz/\(cK d).2.1.Data.length<=500:=by
 unfold cK;have:=bJ3 d.Key d.Epoch (IntKind.i64.wrap (d.Version+1)) d.aAD;cases(qC d.Key d.Epoch (IntKind.i64.wrap (d.Version+1)) d.aAD).2 with
 |false=>exact⟨rfl,by simp⟩
 |true=>exact⟨rfl,this⟩
def vJ (c:AM)(s:AJ):(cB c s).1.sz<=c.sz+1+s.Data.length/\(cB c s).1.Log=c.Log:=by
 unfold cB;cases s.Epoch !=aC c.Log||((decide ((c.History.length:Int)>0)&& !pQ s (c.History.getD (c.History.length-1) default))||decide ((c.History.length:Int)>=60)) with
 |true=>exact⟨by simp only[ac];omega,rfl⟩
 |false=>refine⟨?_,rfl⟩;simp only[aa,AM.sz,aw,dc,fY,au,bm,bn,ez,dg,gC,AJ.sz];omega
def vK {α:Type}{f:α->Nat}:∀{l:List α} {i:Nat} {x:α} (hi:i<l.length),((l.set i x).map f).sum+f l[i]=(l.map f).sum+f x
 |y::l,0,x,_=>by simp only[jg,bn,dg,ip];omega
 |y::l,i+1,x,h=>by
  have:=vK (f:=f) (l:=l) (i:=i) (x:=x) (by simpa using h);simp only[gE,bn,dg,fh];omega
def mR {w:AA}{d b:Int}(h:((aM w d b).2==0)=true):(aQ w=true/\aL w d=true)/\(aM w d b).1.aAC=w.aAC/\(aM w d b).1.Devices.length=w.Devices.length/\(aM w d b).1.sz<=w.sz+w.aAC.Log.length+20:=by
 unfold aM at*;cases hc:(aQ w&&aL w d) with
 |false=>rw[hc] at h;cases h
 |true=>
  rw[hc] at h;simp only[ac] at h ⊢;rw[ab] at hc;refine⟨hc,by first|rfl|trivial,by first|exact ax|simp,?_⟩;have hd:=hc.2;simp only[aL,ab,bq] at hd;have hi:d.toNat<w.Devices.length:=by omega
  have a:(bR (aG w d) w.aAC.Log w.aAC.Boxes (fA w.aAC b).1).1.sz<=w.aAC.Log.length+20:=by
   unfold bR at*;cases hs:jY (aG w d) w.aAC.Log w.aAC.Boxes (fA w.aAC b).1==0 with
   |false=>rw[hs] at h;simp only[aa] at h;rw[hs] at h;cases h
   |true=>
    have hm:(dU (aG w d).aAD (iB (bM (aG w d).Store w.aAC.Boxes).1 (fA w.aAC b).1).1).2=true:=by
     cases hm:(dU (aG w d).aAD (iB (bM (aG w d).Store w.aAC.Boxes).1 (fA w.aAC b).1).1).2 with
     |true=>rfl
     |false=>
      unfold jY at hs;rw[hm] at hs
      revert hs
      generalize(aG w d)=x;generalize(fA w.aAC b).1=s;cases !aZ w.aAC.Log|| !dG w.aAC.Log x.Log<;>cases !jJ (aD w.aAC.Log) (aT x.Store)<;>cases w.aAC.Boxes.Epoch !=aC w.aAC.Log|| !(bM x.Store w.aAC.Boxes).2<;>cases decide (s.Epoch<aC w.aAC.Log)||(decide (s.Epoch<x.Epoch)||(s.Epoch==x.Epoch&&decide (s.Version<x.Version)))<;>cases !(iB (bM x.Store w.aAC.Boxes).1 s).2<;>simp
    have:=aHf hm;simp only[ac,AD.sz,AB.sz] at*;omega
  have h1:=vK (f:=AD.sz) (l:=w.Devices) (i:=d.toNat) (x:=(bR (aG w d) w.aAC.Log w.aAC.Boxes (fA w.aAC b).1).1) hi;generalize(bR (aG w d) w.aAC.Log w.aAC.Boxes (fA w.aAC b).1).1=x at*;simp only[AA.sz,ax] at*;omega
def bS2 {w:AA}{d:Int}(hd:aL w d=true):(Tc w d).1.aAC.Log=w.aAC.Log/\(Tc w d).1.Devices.length=w.Devices.length/\(Tc w d).1.sz<=w.sz+501:=by
 unfold Tc;cases(cK (aG w d)).2.2&&(cB w.aAC (cK (aG w d)).2.1).2 with
 |false=>exact⟨rfl,rfl,by simp only[aa];omega⟩
 |true=>
  have a:=vJ w.aAC (cK (aG w d)).2.1;have b:=zN (aG w d);simp only[aL,ab,bq] at hd;have hi:d.toNat<w.Devices.length:=by omega
  have h1:=vK (f:=AD.sz) (l:=w.Devices) (i:=d.toNat) (x:=(cK (aG w d)).1) hi;have e:w.Devices[d.toNat]=aG w d:=by simp[aG,List.getD,ae hi]
  rw[e] at h1;refine⟨a.2,ax,?_⟩;generalize(cB w.aAC (cK (aG w d)).2.1).1=c at*;generalize cK (aG w d)=x at*;simp only[ac,AA.sz,AM.sz,ax] at*;omega
def Yp {w:AA}{d:Int}(h:(eX w d).2=true):(eX w d).1.aAC.Log=w.aAC.Log/\(eX w d).1.sz<=w.sz+w.aAC.Log.length+521:=by
 unfold eX at*;cases hc:((aM w d 0).2==0&&(Tc (aM w d 0).1 d).2) with
 |false=>rw[hc] at h;cases h
 |true=>
  rw[ab] at hc;obtain⟨⟨k1,k2⟩,k3,k4,k5⟩:=mR hc.1;have hd:aL (aM w d 0).1 d=true:=by simp only[aL] at*;rw[k4];exact k2
  obtain⟨a,b,c⟩:=bS2 hd;simp only[ac];exact⟨by rw[a,k3],by omega⟩
def R5:∀(l:List Int) (w:AA),(lT l w).1.sz<=w.sz+l.length*(w.aAC.Log.length+521)/\(lT l w).1.aAC.Log=w.aAC.Log
 |[],w=>⟨by simp[lT],rfl⟩
 |i::l,w=>by
  unfold lT;cases hp:(eX w i).2 with
  |false=>exact⟨by simp only[aa];omega,rfl⟩
  |true=>obtain⟨h1,h2⟩:=Yp hp;obtain⟨b,a⟩:=R5 l (eX w i).1;rw[h1] at b a;simp only[ac,au,dm];exact⟨by omega,a⟩
def aQb:∀(l:List Int) (w:AA),(sI l w).1.sz<=w.sz+l.length*(w.aAC.Log.length+20)
 |[],w=>by simp[sI]
 |i::l,w=>by
  unfold sI;cases hp:((aM w i 0).2==0) with
  |false=>simp only[aa];omega
  |true=>obtain⟨_,h1,_,h2⟩:=mR hp;have a:=aQb l (aM w i 0).1;rw[h1] at a;simp only[ac,au,dm];omega
def bNq {k z:Int}(i:Nat)(h:0<=z/\z<=255):IntKind.u8.wrap ((IntKind.i64.wrap (IntKind.i64.wrap z+bP k [(i:Int)])).tmod 256)=bCj k i z:=by have:=mO k [(i:Int)];rw[aI (n:=z) (by omega) (by omega),aI (by omega) (by omega),ct (by omega)];rfl
def bNr {k z:Int}(i:Nat)(h:0<=z/\z<=255):IntKind.u8.wrap ((IntKind.i64.wrap (IntKind.i64.wrap z+(bP k [(i:Int)]).tmod 256)).tmod 256)=bCj k i z:=by have:=mO k [(i:Int)];rw[aI (n:=z) (by omega) (by omega),show(bP k [(i:Int)]).tmod 256=bP k [(i:Int)]%256 from ct this.1,aI (by omega) (by omega),ct (by omega),bCj];congr 1;omega
def aO (seed n:Int):AK:=⟨1,n,aY seed [277,n],0⟩
def bG (s:AK):AD:=⟨s,[],0,0,0,⟨[]⟩⟩
def dH (s:AK)(n:ByteArray)(h:Int):Int:=aY s.Seed [179,bI n,h]
def fD (s:AK)(n:ByteArray)(h:Int):Int:=cZ (dH s n h)
def sJ (s:AK)(l:List Int):Int:=sD (iG s) l
def bE7 (log:List AF)(kind dev:Int)(s:AK):AF:=⟨(log.length:Int),kind,dev,aT s,iZ log,0⟩
def Mr (log:List AF)(kind dev:Int)(s:AK):AF:={bE7 log kind dev s with Signature:=sJ s [dI (bE7 log kind dev s)]}
def eY (log:List AF)(kind dev:Int)(s:AK):List AF×Bool:=bif (decide ((log.length:Int)>0)&& !aZ log)|| !aZ (log++[Mr log kind dev s]) then(log,false) else(log++[Mr log kind dev s],true)
def jC (p e:Int)(d:List Int):AO:=⟨p,e,mI (iH (gQ p) e) d,Sj (iH (gQ p) e) ⟨p,e,mI (iH (gQ p) e) d,0⟩⟩
def iM (p e:Int)(d:List Int):AO×Bool:=bif gQ p==0||(!bL e||decide ((d.length:Int)>200)) then(⟨0,0,[],0⟩,false) else(jC p e d,true)
def gX (e:Int)(d:List Int):Nat->List Int->List AO×Bool
 |_,[]=>([],true)
 |i,p::l=>bif (iM p (IntKind.i64.wrap (e+(i:Int))) d).2&&(gX e d (i+1) l).2 then((iM p (IntKind.i64.wrap (e+(i:Int))) d).1::(gX e d (i+1) l).1,true) else([],false)
def bJ (log:List AF)(key eph:Int):AN×Bool:=bif !aZ log||(!bL key|| !(gX eph (jG [aC log,key]) 0 (aD log)).2) then(⟨0,[]⟩,false) else(⟨aC log,(gX eph (jG [aC log,key]) 0 (aD log)).1⟩,true)
def sK (e:AN)(d:Int):Int:=e.Boxes.foldl (λn b=>bif b.To==d then IntKind.i64.wrap (n+1) else n) 0
def jV (e:AN)(log:List AF):Bool:=(e.Epoch==aC log&&(e.Boxes.length:Int)==((aD log).length:Int))&&(aD log).all λd=>sK e d==1
def kK (c:AM)(log:List AF)(e:AN):AM×Bool:=bif !aZ log||(!dG log c.Log|| !jV e log) then(c,false) else({c with Log:=log,Boxes:=e},true)
def Zl (h:Int)(l:List AV):Nat:=(l.takeWhile λc=>decide (c.Handle<h)).length
def aHg (l:List AV)(h p:Int):List AV:=l.take (Zl h l)++[⟨h,p,0,false⟩]++l.drop (Zl h l)
def iN (a:AI)(h p:Int):AI×Bool:=bif !bB a|| !bB {a with Credentials:=aHg a.Credentials h p} then(a,false) else({a with Credentials:=aHg a.Credentials h p},true)
def gD (s:AC)(id h p:Int):AC×Bool:=bif !dK s||decide (aF s id<0) then(s,false) else bif (iN (s.Accounts.getD (aF s id).toNat default) h p).2 then({s with Accounts:=s.Accounts.set (aF s id).toNat (iN (s.Accounts.getD (aF s id).toNat default) h p).1},true) else(s,false)
def Ae (l:List AX):Nat:=bif l.any (λn=>n.Seen) then(l.takeWhile λn=> !n.Seen).length else 0
def Oe (l:List AX):List AX:=bif decide ((l.length:Int)>30) then l.take (Ae l)++l.drop (Ae l+1) else l
def Dw (m:AS)(k a t:Int):AS×Bool:=bif !gG m|| !gG ⟨Oe (m.Notices++[⟨k,a,t,false⟩])⟩ then(m,false) else(⟨Oe (m.Notices++[⟨k,a,t,false⟩])⟩,true)
def jP (w:AA)(by_ kind pub:Int)(key:List AF->Int):AA×Bool:=
 let l:=eY w.aAC.Log kind pub (aG w by_).Store;let e:=bJ l.1 (key l.1) (IntKind.i64.wrap (1000+IntKind.i64.wrap (10*(l.1.length:Int))));let c:=kK w.aAC l.1 e.1
 bif l.2&&(e.2&&c.2) then({w with aAC:=c.1},true) else(w,false)
def vL (log:List AF)(k d:Int)(s:AK):(eY log k d s).1.length<=log.length+1:=by unfold eY;cases(decide ((log.length:Int)>0)&& !aZ log)|| !aZ (log++[Mr log k d s])<;>simp
def bE8 (p e:Int)(d:List Int):(iM p e d).1.sz<=d.length:=by
 unfold iM;cases gQ p==0||(!bL e||decide ((d.length:Int)>200)) with
 |true=>simp[AO.sz]
 |false=>simp only[aa,jC,AO.sz,Td];exact ai _
def bCk {e:Int}{d:List Int}:∀{i:Nat} {l:List Int},(gX e d i l).1.length<=l.length/\((gX e d i l).1.map AO.sz).sum<=l.length*d.length
 |i,[]=>by simp[gX]
 |i,p::l=>by
  have h1:=bCk (e:=e) (d:=d) (i:=i+1) (l:=l);have h2:=bE8 p (IntKind.i64.wrap (e+(i:Int))) d;unfold gX;cases(iM p (IntKind.i64.wrap (e+(i:Int))) d).2&&(gX e d (i+1) l).2 with
  |false=>simp
  |true=>simp only[ac,au,bn,dg,dm];omega
def bCl (a b:Int):(jG [a,b]).length<=12:=aCv [a,b]
def Yq (log:List AF)(k e:Int):(bJ log k e).1.sz<=13*log.length:=by
 unfold bJ;have h1:=bCk (e:=e) (d:=jG [aC log,k]) (i:=0) (l:=aD log);have h2:=iD log;have a:=bCl (aC log) k;have b:=fR (aD log).length a;cases !aZ log||(!bL k|| !(gX e (jG [aC log,k]) 0 (aD log)).2) with
 |true=>simp[AN.sz]
 |false=>simp only[aa,AN.sz];omega
def bNs (c:AM)(l:List AF)(e:AN):(kK c l e).1.sz<=c.sz+l.length+e.sz/\(kK c l e).1.History=c.History:=by
 unfold kK;cases !aZ l||(!dG l c.Log|| !jV e l) with
 |true=>exact⟨by simp only[ac];omega,rfl⟩
 |false=>exact⟨by simp only[aa,AM.sz,AN.sz];omega,rfl⟩
def bCm (l:List AV)(h p:Int):(aHg l h p).length=l.length+1:=by simp only[aHg,aw,bw,cy,cr];omega
def bE9 (a:AI)(h p:Int):(iN a h p).1.sz<=a.sz+1:=by
 unfold iN;cases !bB a|| !bB {a with Credentials:=aHg a.Credentials h p} with
 |true=>simp only[ac];omega
 |false=>simp only[aa,AI.sz,bCm];exact ai _
def aX2 (l:List AX):(Oe l).length<=l.length:=by
 unfold Oe;cases decide ((l.length:Int)>30) with
 |false=>exact ai _
 |true=>simp only[ac,aw,bw,cy];omega
def bRd (m:AS)(k a t:Int):(Dw m k a t).1.sz<=m.sz+1:=by
 unfold Dw;have:=aX2 (m.Notices++[⟨k,a,t,false⟩]);simp only[aw,cr] at this;cases !gG m|| !gG ⟨Oe (m.Notices++[⟨k,a,t,false⟩])⟩ with
 |true=>simp only[ac];omega
 |false=>simp only[aa,AS.sz];omega
def oI {α:Type}{p:α->Bool}{i:Nat}{l:List α}(h:decide (kE p i l<0)=false):(i:Int)<=kE p i l/\kE p i l<i+l.length:=by
 induction l generalizing i with
 |nil=>simp[kE] at h
 |cons x l a=>
  unfold kE at h ⊢;cases hp:p x with
  |true=>simp only[ac,au];omega
  |false=>rw[hp] at h;have:=a (i:=i+1) h;simp only[aa,au];omega
def aX3 (s:AC)(id h p:Int):(gD s id h p).1.sz<=s.sz+1:=by
 unfold gD;cases hc: !dK s||decide (aF s id<0) with
 |true=>simp only[ac];omega
 |false=>
  rw[bo] at hc;have hr:=oI hc.2;simp only[aa];cases(iN (s.Accounts.getD (aF s id).toNat default) h p).2 with
  |false=>simp only[aa];omega
  |true=>
   have hi:(aF s id).toNat<s.Accounts.length:=by unfold aF;omega
   have h1:=vK (f:=AI.sz) (l:=s.Accounts) (i:=(aF s id).toNat) (x:=(iN (s.Accounts.getD (aF s id).toNat default) h p).1) hi;have h2:=bE9 (s.Accounts.getD (aF s id).toNat default) h p;have e:s.Accounts.getD (aF s id).toNat default=s.Accounts[(aF s id).toNat]:=by simp[List.getD,ae hi]
   rw[e] at h1 h2 ⊢;simp only[ac,AC.sz,ax];omega
def appW (w:AA)(x:AD):AA:={w with Devices:=w.Devices++[x],Stolen:=w.Stolen++[false]}
def bCn {w:AA}(x:AD){d:Int}(h:aL w d=true)(hn:w.Devices.length<6):aQ (appW w x)=aQ w:=by
 simp only[aL,ab,bq] at h;have a:bK ((w.Devices++[x]).length:Int) 1 6=bK (w.Devices.length:Int) 1 6:=by simp only[bK,aw,cr];rw[ak (show(1:Int)<=((w.Devices.length+1:Nat):Int) by omega),ak (show((w.Devices.length+1:Nat):Int)<=6 by omega),ak (show(1:Int)<=(w.Devices.length:Int) by omega),ak (show(w.Devices.length:Int)<=6 by omega)]
 have b:(((w.Stolen++[false]).length:Int)==((w.Devices++[x]).length:Int))=((w.Stolen.length:Int)==(w.Devices.length:Int)):=by rw[en,cH,cH];simp only[aw,cr];omega
 unfold aQ;simp only[appW,a,b]
def bFa {w:AA}(x:AD){d:Int}(h:aL w d=true):aL (appW w x) d=true:=by simp only[aL,ab,bq,appW,aw,cr] at*;omega
def aX4 {w:AA}(x:AD){d:Int}(h:aL w d=true):aG (appW w x) d=aG w d:=by simp only[aL,ab,bq] at h;simp only[aG,appW,List.getD,av (show d.toNat<w.Devices.length by omega)]
def bNt {w:AA}(x:AD){d:Int}(b:Int)(h:aL w d=true)(hn:w.Devices.length<6):aM (appW w x) d b=(appW (aM w d b).1 x,(aM w d b).2):=by
 have a:=h;simp only[aL,ab,bq] at a;unfold aM;rw[bCn x h hn,bFa x h,aX4 x h,h];cases aQ w with
 |false=>rfl
 |true=>simp only[du,ac];congr 1;simp only[appW,List.set_append_left _ _ (show d.toNat<w.Devices.length by omega)]
def bU3 {w:AA}(x:AD){d:Int}(h:aL w d=true):Tc (appW w x) d=(appW (Tc w d).1 x,(Tc w d).2):=by
 have a:=h;simp only[aL,ab,bq] at a;unfold Tc;rw[aX4 x h,show(appW w x).aAC=w.aAC from rfl];cases(cK (aG w d)).2.2&&(cB w.aAC (cK (aG w d)).2.1).2 with
 |false=>rfl
 |true=>simp only[ac,appW,List.set_append_left _ _ (show d.toNat<w.Devices.length by omega)]
def bNu {w:AA}(x:AD){d:Int}(h:aL w d=true)(hn:w.Devices.length<6):eX (appW w x) d=(appW (eX w d).1 x,(eX w d).2):=by
 unfold eX;rw[bNt x 0 h hn];cases hs:((aM w d 0).2==0) with
 |false=>simp only[e8,aa]
 |true=>
  obtain⟨_,_,k4,_⟩:=mR hs;have hd:aL (aM w d 0).1 d=true:=by simp only[aL] at*;rw[k4];exact h
  rw[bU3 x hd];cases(Tc (aM w d 0).1 d).2<;>rfl
def aCy (w:AA)(b k p:Int)(key:List AF->Int):(jP w b k p key).1.sz<=w.sz+14*(w.aAC.Log.length+1)/\(jP w b k p key).1.aAC.Log.length<=w.aAC.Log.length+1/\(jP w b k p key).1.Devices=w.Devices/\(jP w b k p key).1.Sites=w.Sites:=by
 unfold jP;dsimp only;have h1:=vL w.aAC.Log k p (aG w b).Store;generalize(eY w.aAC.Log k p (aG w b).Store)=l at*;have h2:=Yq l.1 (key l.1) (IntKind.i64.wrap (1000+IntKind.i64.wrap (10*(l.1.length:Int))));have d:=(bNs w.aAC l.1 (bJ l.1 (key l.1) (IntKind.i64.wrap (1000+IntKind.i64.wrap (10*(l.1.length:Int))))).1).1;have a:(kK w.aAC l.1 (bJ l.1 (key l.1) (IntKind.i64.wrap (1000+IntKind.i64.wrap (10*(l.1.length:Int))))).1).1.Log.length<=w.aAC.Log.length+1:=by
  unfold kK;cases !aZ l.1||(!dG l.1 w.aAC.Log|| !jV (bJ l.1 (key l.1) (IntKind.i64.wrap (1000+IntKind.i64.wrap (10*(l.1.length:Int))))).1 l.1) with
  |true=>simp only[ac];omega
  |false=>simp only[aa];exact h1
 generalize bJ l.1 (key l.1) (IntKind.i64.wrap (1000+IntKind.i64.wrap (10*(l.1.length:Int))))=e at*;generalize kK w.aAC l.1 e.1=c at*;cases l.2&&(e.2&&c.2) with
 |false=>exact⟨by show w.sz<=_;omega,by show w.aAC.Log.length<=_;omega,rfl,rfl⟩
 |true=>exact⟨by show(AA.sz {w with aAC:=c.1})<=_;simp only[AA.sz,AM.sz] at*;omega,a,rfl,rfl⟩
def kL (d:AD)(h:Int)(rm:Bool):AD:=(dQ (dQ d (aA 0) h rm).1 (aA 1) h rm).1
def gK (st:AK)(n:Int):Nat->List AC->List AC×Bool
 |_,[]=>([],true)
 |j,s::l=>bif (gD s 1 n (fD st (aA (j:Int)) n)).2&&(gK st n (j+1) l).2 then((gD s 1 n (fD st (aA (j:Int)) n)).1::(gK st n (j+1) l).1,true) else([],false)
def qD (w:AA)(k:Int):AA:={w with Mail:=(Dw w.Mail k 1 w.Now).1}
def add1 (w:AA)(b:Int):AA×Bool:=jP (aM w b 0).1 b 1 (aT (aO w.Seed (w.Devices.length:Int))) λ_=>(aG (aM w b 0).1 b).Key
def aHh (w:AA)(b:Int):List AC×Bool:=gK (aO w.Seed (w.Devices.length:Int)) (w.Devices.length:Int) 0 (add1 w b).1.Sites
def rV (w:AA)(b:Int):AA×Bool:=eX {(add1 w b).1 with Sites:=(aHh w b).1,Devices:=(add1 w b).1.Devices.set b.toNat (kL (aG (add1 w b).1 b) (w.Devices.length:Int) false)} b
def Af (w:AA)(b:Int):AA×Int:=aM (appW (rV w b).1 (bG (aO w.Seed (w.Devices.length:Int)))) (w.Devices.length:Int) 0
def Ie (w:AA)(b:Int):Bool:=(aQ w&&(aL w b&&(!eT w b&& !decide ((w.Devices.length:Int)>=6))))&&((aM w b 0).2==0&&((add1 w b).2&&((aHh w b).2&&((rV w b).2&&(Af w b).2==0))))
def fK (w:AA)(b:Int):AA×Bool:=bif Ie w b then(qD (Af w b).1 2,true) else(w,false)
def aOg (d:AD)(h:Int)(rm:Bool):(kL d h rm).sz<=d.sz+2:=by have h1:=Ic (dQ d (aA 0) h rm).1 (aA 1) h rm;have h2:=Ic d (aA 0) h rm;unfold kL;omega
def aHi {st:AK}{n:Int}:∀{j:Nat} {l:List AC},(gK st n j l).1.length<=l.length/\((gK st n j l).1.map AC.sz).sum<=(l.map AC.sz).sum+l.length
 |j,[]=>by simp[gK]
 |j,s::l=>by
  have h1:=aHi (st:=st) (n:=n) (j:=j+1) (l:=l);have h2:=aX3 s 1 n (fD st (aA (j:Int)) n);unfold gK;cases(gD s 1 n (fD st (aA (j:Int)) n)).2&&(gK st n (j+1) l).2 with
  |false=>simp
  |true=>simp only[ac,au,bn,dg];omega
def bJ4 {w:AA}{b:Int}(h0:((aM w b 0).2==0)=true):(aL (add1 w b).1 b=true/\(add1 w b).1.Devices.length=w.Devices.length)/\(add1 w b).1.sz<=16*w.sz+34/\(add1 w b).1.aAC.Log.length<=w.sz+1:=by
 obtain⟨⟨k1,k2⟩,k3,k4,k5⟩:=mR h0;have e:w.aAC.Log.length<=w.sz:=by simp only[AA.sz,AM.sz];omega
 obtain⟨c,d,a,f⟩:=aCy (aM w b 0).1 b 1 (aT (aO w.Seed (w.Devices.length:Int))) (λ_=>(aG (aM w b 0).1 b).Key);rw[k3] at c d;refine⟨⟨?_,by show(jP _ _ _ _ _).1.Devices.length=_;rw[a,k4]⟩,by unfold add1;omega,by unfold add1;omega⟩;simp only[aL] at*;unfold add1;rw[a,k4];exact k2
def aAU (w:AA)(b:Int):AA:={(add1 w b).1 with Sites:=(aHh w b).1,Devices:=(add1 w b).1.Devices.set b.toNat (kL (aG (add1 w b).1 b) (w.Devices.length:Int) false)}
def bCo {w:AA}{b:Int}(h0:((aM w b 0).2==0)=true):(aL (aAU w b) b=true/\(aAU w b).Devices.length=w.Devices.length)/\(aAU w b).sz<=32*w.sz+80/\(aAU w b).aAC.Log.length<=w.sz+1:=by
 obtain⟨⟨h1,h2⟩,d,a⟩:=bJ4 h0;have h:=aHi (st:=aO w.Seed (w.Devices.length:Int)) (n:=(w.Devices.length:Int)) (j:=0) (l:=(add1 w b).1.Sites);have k:=aOg (aG (add1 w b).1 b) (w.Devices.length:Int) false;have hd:=h1;simp only[aL,ab,bq] at hd;have hi:b.toNat<(add1 w b).1.Devices.length:=by omega
 have c:=vK (f:=AD.sz) (l:=(add1 w b).1.Devices) (i:=b.toNat) (x:=kL (aG (add1 w b).1 b) (w.Devices.length:Int) false) hi;have e:(add1 w b).1.Devices[b.toNat]=aG (add1 w b).1 b:=by simp[aG,List.getD,ae hi]
 rw[e] at c;refine⟨⟨?_,by simp only[aAU,ax];exact h2⟩,?_,a⟩
 ·simp only[aL,aAU,ax] at*;exact h1
 ·simp only[aAU,aHh];generalize(add1 w b).1=x at*;simp only[AA.sz,ax] at*;omega
def aCz (w:AA)(x:AD):(appW w x).sz=w.sz+x.sz+2:=by simp only[appW,AA.sz,aw,cr,dc,bn,ez,fY,dg,gC];omega
def aOh (w:AA)(k:Int):(qD w k).sz<=w.sz+1:=by have:=bRd w.Mail k 1 w.Now;simp only[qD,AA.sz,AS.sz] at*;omega
def bRe {w:AA}{b:Int}(h0:((aM w b 0).2==0)=true)(h:(rV w b).2=true):(rV w b).1.sz<=33*w.sz+602/\(rV w b).1.aAC.Log.length<=w.sz+1:=by obtain⟨_,h1,h2⟩:=bCo h0;obtain⟨a,c⟩:=Yp (w:=aAU w b) (d:=b) h;exact⟨by show(eX (aAU w b) b).1.sz<=_;omega,by show(eX (aAU w b) b).1.aAC.Log.length<=_;rw[a];exact h2⟩
def aX5 {α:Type}{p:α->Bool}:∀{l:List α} {i:Nat} (hi:i<l.length),i<(l.takeWhile p).length->p l[i]=true
 |x::l,0,_,h=>by
  simp only[dp] at h;cases hp:p x with
  |true=>exact hp
  |false=>rw[hp] at h;simp at h
 |x::l,i+1,hi,h=>by
  simp only[dp] at h;cases hp:p x with
  |true=>
   have a:i<(l.takeWhile p).length:=by simpa[hp] using h
   exact aX5 (l:=l) (i:=i) (by simpa using hi) a
  |false=>rw[hp] at h;simp at h
def aX6 {α:Type}{p:α->Bool}:∀{l:List α} (h:(l.takeWhile p).length<l.length),p (l[(l.takeWhile p).length]'h)=false
 |x::l,h=>by
  cases hp:p x with
  |true=>
   have a:(l.takeWhile p).length<l.length:=by simpa[dp,hp] using h
   simpa[dp,hp] using aX6 a
  |false=>simp[dp,hp]
def Te {α:Type}{p:α->Bool}{l:List α}:(l.takeWhile p).length<=l.length:=(List.takeWhile_prefix p).length_le
def aX7 {α τ S:Type}{l:List α}(p:α->Bool)(fin:Nat->Option τ)(e:Nat->S){F:(S->Option τ)->S->Option τ}(hl:l.length<=34359738368)
  (a:∀rec i (hi:i<l.length),F rec (e i)=bif p l[i] then rec (e (i+1)) else fin i) (b:∀rec,F rec (e l.length)=fin l.length):EV.bU FUEL F (e 0)=fin (l.takeWhile p).length:=by
 have go:∀(k i n:Nat),i+k=(l.takeWhile p).length->k<n->EV.bU n F (e i)=fin (l.takeWhile p).length:=by
  intro k;induction k with
  |zero=>
   intro i n hi hn;obtain⟨n,rfl⟩:∃m,n=m+1:=⟨n-1,by omega⟩;have:i=(l.takeWhile p).length:=by omega
   subst this;rw[jA];by_cases h:(l.takeWhile p).length<l.length
   ·rw[a _ _ h,aX6 h,aa]
   ·have h2:(l.takeWhile p).length=l.length:=by have:=Te (p:=p) (l:=l);omega
    rw[h2,b]
  |succ k c=>
   intro i n hi hn;obtain⟨n,rfl⟩:∃m,n=m+1:=⟨n-1,by omega⟩;have h1:i<l.length:=by have:=Te (p:=p) (l:=l);omega
   rw[jA,a _ _ h1,aX5 (p:=p) h1 (by omega),ac];exact c (i+1) n (by omega) (by omega)
 have:=Te (p:=p) (l:=l);exact go (l.takeWhile p).length 0 FUEL (by omega) (by have:=gY;omega)
def aX8 {e:Int}{d:List Int}{l:List Int}{τ:Type}{x:τ}{F:(List AO×Nat->Option (τ⊕List AO))->List AO×Nat->Option (τ⊕List AO)}
  (a:∀rec i s (hi:i<l.length),s.length<=i->F rec (s,i)=bif !(iM l[i] (IntKind.i64.wrap (e+(i:Int))) d).2 then some (.inl x) else rec (s++[(iM l[i] (IntKind.i64.wrap (e+(i:Int))) d).1],i+1)) (b:∀rec s,F rec (s,l.length)=some (.inr s)):
  ∀(k i n:Nat) (s:List AO),i+k=l.length->k<n->s.length<=i->EV.bU n F (s,i)=some (bif (gX e d i (l.drop i)).2 then .inr (s++(gX e d i (l.drop i)).1) else .inl x)
 |0,i,n+1,s,h,_,_=>by
  have:i=l.length:=by omega
  subst this;rw[jA,b,dq];simp[gX]
 |k+1,i,n+1,s,h,hn,hs=>by
  have hi:i<l.length:=by omega
  rw[jA,a _ i s hi hs,cq hi,gX];cases hb:(iM l[i] (IntKind.i64.wrap (e+(i:Int))) d).2 with
  |false=>rfl
  |true=>rw[ay,aa,aX8 a b k (i+1) n _ (by omega) (by omega) (by simp;omega)];cases(gX e d (i+1) (l.drop (i+1))).2<;>simp
def bFb (l:List AX):Nat:=(l.takeWhile λn=> !n.Seen).length
def bJ5 {l:List AX}{x:AX}:bFb (l++[x])=bif l.any (λn=>n.Seen) then bFb l else bif x.Seen then l.length else l.length+1:=by
 induction l with
 |nil=>cases b:x.Seen<;>simp[bFb,b]
 |cons y l c=>
  unfold bFb at*;cases a:y.Seen with
  |true=>simp[a]
  |false=>simp only[cI,dp,a,cY,im,au,kt,cx,c];cases l.any (λn=>n.Seen)<;>cases x.Seen<;>simp
def aX9 {l:List AX}{F:(Int×Int->Option Int)->Int×Int->Option Int}(a:∀rec (k:Int) (i:Nat) (hi:i<l.length),F rec (k,(i:Int))=rec (bif l[i].Seen then(i:Int) else k,(i:Int)-1))(b:∀rec k,F rec (k,-1)=some k):
  ∀(n m:Nat) (k:Int),n<=l.length->n<m->EV.bU m F (k,(n:Int)-1)=some (bif (l.take n).any (λx=>x.Seen) then(bFb (l.take n):Int) else k)
 |0,m+1,k,_,_=>by rw[jA,show((0:Nat):Int)-1= -1 from rfl,b];simp
 |n+1,m+1,k,h,hm=>by
  have hn:n<l.length:=by omega
  rw[jA,show((n+1:Nat):Int)-1=(n:Int) by omega,a _ _ n hn,aX9 a b n m _ (by omega) (by omega),dz,ae hn];simp only[eS,ir,bJ5,kt,List.any_nil,gu,bw,gx (Nat.le_of_lt hn)];cases(l.take n).any (λx=>x.Seen)<;>cases l[n].Seen<;>rfl
def bNv (l:List AX):(Ae l:Int)=bif l.any (λx=>x.Seen) then(bFb l:Int) else 0:=by unfold Ae bFb;cases l.any (λn=>n.Seen)<;>rfl
def bNw {l:List AX}(h:0<l.length):Ae l<l.length:=by
 unfold Ae;cases hs:l.any (λn=>n.Seen) with
 |false=>exact h
 |true=>
  obtain⟨x,b,hp⟩:=ey.1 hs;have:∀l:List AX,x∈l->(l.takeWhile λn=> !n.Seen).length<l.length:=by
   intro l;induction l with
   |nil=>intro h;cases h
   |cons y l c=>
    intro h;cases a:y.Seen with
    |true=>simp[a]
    |false=>
     rcases ba.1 h with rfl|h
     ·rw[hp] at a;cases a
     ·simpa[a] using c h
  exact this l b
def bNx {e:Int}{d:List Int}{i:Nat}{l:List Int}(h:(gX e d i l).2=false):gX e d i l=([],false):=by
 cases l with
 |nil=>cases h
 |cons p l=>
  unfold gX at*;cases hc:(iM p (IntKind.i64.wrap (e+(i:Int))) d).2&&(gX e d (i+1) l).2 with
  |true=>rw[hc] at h;cases h
  |false=>rfl
def bNy {s:AC}{i:Int}(b:s.sz<=34359738300)(h:decide (aF s i<0)=false):bA s.Accounts (aF s i)=some (s.Accounts.getD (aF s i).toNat default)/\(s.Accounts.getD (aF s i).toNat default).sz<=34359738300/\(aF s i).toNat<s.Accounts.length:=by
 have hr:=oI (p:=λa:AI=>a.Id==i) (i:=0) (l:=s.Accounts) h;have hi:(aF s i).toNat<s.Accounts.length:=by unfold aF;omega
 have h1:=wD (f:=AI.sz) hi;refine⟨sF (by unfold aF;omega) (by unfold aF;omega),?_,hi⟩;simp only[AC.sz] at b;omega
def mU (d:AD)(log:List AF)(key:Int):AD×Bool:=bif !aZ log||(!dG log d.Log||(decide (aC log<d.Epoch)|| !bL key)) then(d,false) else({d with Log:=log,Key:=key,Epoch:=aC log,Version:=0},true)
def aS (a:AI)(h:Int):Int:=kE (λc=>c.Handle==h) 0 a.Credentials
def gH (a:AI)(k:Int):AV:=a.Credentials.getD k.toNat default
def nE (a:AI)(h:Int):AI×Bool:=bif !bB a||(decide (aS a h<0)||(gH a (aS a h)).Cut) then(a,false) else({a with Credentials:=a.Credentials.set (aS a h).toNat {gH a (aS a h) with Cut:=true}},true)
def fU (s:AC)(k:Int):AI:=s.Accounts.getD k.toNat default
def gZ (h:Int)(s:AC):AC:=bif decide (aF s 1>=0) then {s with Accounts:=s.Accounts.set (aF s 1).toNat (nE (fU s (aF s 1)) h).1} else s
def bY (s e:Int):Int:=aY s [233,e]
def mV (s:AK)(l:List AF):Int:=bY (aY s.Seed [311]) (aC l)
def jD (w:AA)(b:Int):AA:=(aM w b 0).1
def R6 (w:AA)(b t:Int):List AF:=(eY (jD w b).aAC.Log 2 (aT (aG w t).Store) (aG (jD w b) b).Store).1
def nG (w:AA)(b t:Int):AA×Bool:=jP (jD w b) b 2 (aT (aG w t).Store) (mV (aG (jD w b) b).Store)
def Mt (w:AA)(b t:Int):AD×Bool:=mU (aG (jD w b) b) (R6 w b t) (mV (aG (jD w b) b).Store (R6 w b t))
def Zm (w:AA)(b t:Int):AA:={(nG w b t).1 with Devices:=(nG w b t).1.Devices.set b.toNat (kL (Mt w b t).1 t true),Sites:=(nG w b t).1.Sites.map (gZ t)}
def Mv (w:AA)(b t:Int):AA×Bool:=Tc (Zm w b t) b
def oZ (w:AA)(b t:Int):AA×Bool:=bif (nG w b t).2&&((Mt w b t).2&&(Mv w b t).2) then(qD (Mv w b t).1 4,true) else(w,false)
def fH (w:AA)(b t:Int):AA×Bool:=bif (aM w b 0).2==0&&(!eT w b&&(!(b==t)&&bC w t)) then oZ w b t else(w,false)
def aQc (d:AD)(l:List AF)(k:Int):(mU d l k).1.sz<=d.sz+l.length:=by
 unfold mU;cases !aZ l||(!dG l d.Log||(decide (aC l<d.Epoch)|| !bL k)) with
 |true=>simp only[ac];omega
 |false=>simp only[aa,AD.sz];omega
def bFc (a:AI)(h:Int):(nE a h).1.sz=a.sz:=by
 unfold nE;cases !bB a||(decide (aS a h<0)||(gH a (aS a h)).Cut) with
 |true=>rfl
 |false=>simp only[aa,AI.sz,ax]
def bFd (h:Int)(s:AC):(gZ h s).sz=s.sz:=by
 unfold gZ;cases hc:decide (aF s 1>=0) with
 |false=>rfl
 |true=>
  have h0:decide (aF s 1<0)=false:=by rw[decide_eq_true_iff] at hc;exact ao (by omega)
  have hr:=oI h0;have hi:(aF s 1).toNat<s.Accounts.length:=by unfold aF;omega
  have h1:=vK (f:=AI.sz) (l:=s.Accounts) (i:=(aF s 1).toNat) (x:=(nE (fU s (aF s 1)) h).1) hi;have h2:=bFc (fU s (aF s 1)) h;have e:fU s (aF s 1)=s.Accounts[(aF s 1).toNat]:=by simp[fU,List.getD,ae hi]
  rw[e] at h1 h2 ⊢;simp only[ac,AC.sz,ax];omega
def bCp (h:Int)(l:List AC):((l.map (gZ h)).map AC.sz).sum=(l.map AC.sz).sum:=by
 induction l with
 |nil=>rfl
 |cons s l a=>simp only[bn,dg,bFd,a]
def bJ6 {w:AA}{b t:Int}(h0:((aM w b 0).2==0)=true):(aL (jD w b) b=true/\(jD w b).Devices.length=w.Devices.length/\(jD w b).aAC=w.aAC/\(jD w b).sz<=2*w.sz+20)/\(R6 w b t).length<=w.sz+1/\(aL (nG w b t).1 b=true/\(nG w b t).1.Devices=(jD w b).Devices)/\(nG w b t).1.sz<=16*w.sz+34/\(nG w b t).1.Sites=(jD w b).Sites:=by
 obtain⟨⟨k1,k2⟩,k3,k4,k5⟩:=mR h0;have i:w.aAC.Log.length<=w.sz:=by simp only[AA.sz,AM.sz];omega
 have hl:=vL (jD w b).aAC.Log 2 (aT (aG w t).Store) (aG (jD w b) b).Store;obtain⟨e,j,c,f⟩:=aCy (jD w b) b 2 (aT (aG w t).Store) (mV (aG (jD w b) b).Store);have a:aL (aM w b 0).1 b=true:=by simp only[aL] at*;rw[k4];exact k2
 have hd:aL (jD w b) b=true:=a;have d:(jD w b).aAC=w.aAC:=k3;rw[d] at e hl;have k6:(jD w b).sz<=w.sz+w.aAC.Log.length+20:=k5;refine⟨⟨hd,k4,k3,by omega⟩,by unfold R6;rw[d];omega,⟨?_,c⟩,by unfold nG;omega,f⟩;have h:aL (jP (jD w b) b 2 (aT (aG w t).Store) (mV (aG (jD w b) b).Store)).1 b=true:=by simp only[aL] at*;rw[c];exact hd
 exact h
--needs aAM aAK aAL
def fJ (b:AP)(id:Int):Int:=bP b.Seed [197,id]
def aC0 (b:AP)(acc now:Int):A0:=⟨b.Next,acc,IntKind.i64.wrap (now+5)⟩
def eH (b:AP)(acc now:Int):AP×A0×Bool:=bif eQ b&&(!(b.Next==1000000)&&(bK acc 0 1000000&&bK now 0 1000000)) then(⟨b.Seed,IntKind.i64.wrap (b.Next+1),(bif decide ((b.Open.length:Int)>=16) then b.Open.drop 1 else b.Open)++[aC0 b acc now]⟩,aC0 b acc now,true) else(b,⟨0,0,0⟩,false)
def dS (b:AP)(id:Int):Int:=kE (λc=>c.Id==id) 0 b.Open
def aHj (b:AP)(k:Int):A0:=b.Open.getD k.toNat default
def qE (b:AP)(id acc now:Int):AP×Bool:=bif !eQ b||decide (dS b id<0) then(b,false) else(⟨b.Seed,b.Next,b.Open.take (dS b id).toNat++b.Open.drop ((dS b id).toNat+1)⟩,(aHj b (dS b id)).aAH==acc&&decide (now<=(aHj b (dS b id)).Until))
def lY (s:AC)(id now:Int):AC×Int×Int×Bool:=bif dK s&&(!decide (aF s id<0)&&(eH s.Book id now).2.2) then({s with Book:=(eH s.Book id now).1},(eH s.Book id now).2.1.Id,fJ (eH s.Book id now).1 (eH s.Book id now).2.1.Id,true) else(s,0,0,false)
def lG (s:AK):Bool:=bK s.Vendor 1 9&&(bK s.Serial 0 1000000&&(bL s.Seed&&bK s.Counter 0 1000000))
def bHs (s:AK):AK:={s with Counter:=IntKind.i64.wrap (s.Counter+1)}
def gN (s:AK)(site:ByteArray)(h:Int)(m:List Int):AK×Int×Bool:=bif lG s&& !(s.Counter==1000000) then(bHs s,sD (dH s site h) (m++[(bHs s).Counter]),true) else(s,0,false)
def bT (a:AY):List Int:=[199,bI a.Site,Ab 211 a.aAK,a.aAL,a.Handle,bif a.Present then 1 else 0]
def aQd (j:Int):AQ:=⟨true,⟨#[119,119,119,46]⟩++aA j,443⟩
def aQe (j:Int):AQ:=⟨true,⟨#[108,111,103,105,110,46]⟩++aA j++⟨#[46,101,118,105,108,46,110,101,116]⟩,443⟩
def bS3 (j:Int):AQ:=⟨true,aA j,443⟩
def uB (k:Nat):AQ:=match k with|0=>aQd 0|1=>aQd 1|2=>bS3 0|3=>bS3 1|4=>aQe 0|_=>aQe 1
def Tf (k:Nat):ByteArray:=⟨#[104,116,116,112,115,58,47,47]⟩++(uB k).Host
def bWs:List UInt8->List UInt8->Bool
 |[],b=>b==[]
 |x::a,b=>b==x::a||bWs a b
def mW (o:AQ)(z:ByteArray):Bool:=bWs (46::o.Host.data.toList) (46::z.data.toList)
def Og (o:AQ)(s:ByteArray):Prop:=(∃k:Nat,k<6/\o=uB k)/\∃j:Int,(j=0\/j=1)/\s=aA j
noncomputable instance (o:AQ) (s:ByteArray):Decidable (Og o s):=Classical.propDecidable _
def nH (o:AQ):Prop:=∃k:Nat,k<6/\o=uB k
def nH.p {o:AQ}(h:nH o){j:Int}(a:j=0\/j=1):Og o (aA j):=⟨h,j,a,rfl⟩
def bNz {j:Int}(a:j=0\/j=1):nH (aQd j):=by
 rcases a with rfl|rfl
 ·exact⟨0,by decide,rfl⟩
 ·exact⟨1,by decide,rfl⟩
noncomputable instance (o:AQ):Decidable (nH o):=Classical.propDecidable _
def qF (o:AQ):ByteArray:=⟨#[104,116,116,112,115,58,47,47]⟩++o.Host
def bJ7 (s:ByteArray):Prop:=s=⟨#[]⟩\/∃k:Nat,k<4/\s=Tf k
noncomputable instance (s:ByteArray):Decidable (bJ7 s):=Classical.propDecidable _
def zO (s:ByteArray):AQ×Bool:=bif decide (s.size=0) then(⟨false,⟨#[]⟩,0⟩,false) else(⟨true,s.extract 8 s.size,443⟩,true)
def Gz (s:AK)(o:AQ)(site:ByteArray)(h a:Int)(p:Bool):AY:=⟨site,qF o,a,h,p,0,0⟩
def bJ8:AY:=⟨⟨#[]⟩,⟨#[]⟩,0,0,false,0,0⟩
def iO (s:AK)(o:AQ)(site:ByteArray)(h a:Int)(p:Bool):AK×AY×Bool:=bif mW o site&&(gN s site h (bT (Gz s o site h a p))).2.2 then((gN s site h (bT (Gz s o site h a p))).1,{Gz s o site h a p with Counter:=(gN s site h (bT (Gz s o site h a p))).1.Counter,Signature:=(gN s site h (bT (Gz s o site h a p))).2.1},true) else(s,bJ8,false)
def AsP (a:AY)(site:ByteArray):Prop:=∃j:Int,(j=0\/j=1)/\site=aA j/\(a=bJ8\/(a.Site=site/\∃k:Nat,k<4/\a.aAK=Tf k/\mW (uB k) site=true))
noncomputable instance (a:AY) (s:ByteArray):Decidable (AsP a s):=Classical.propDecidable _
def kM (pub:Int)(a:AY)(site:ByteArray)(b cnt:Int):Int:=bif !(a.Site.toList==site.toList) then 1 else bif !a.Present then 2 else bif !(a.aAL==b) then 3 else bif !iI pub (bT a++[a.Counter]) a.Signature then 5 else bif decide (a.Counter<=cnt) then 4 else 0
def jZ (a:AI)(x:AY)(site:ByteArray)(b:Int):AI×Int:=bif !bB a||(decide (aS a x.Handle<0)||(gH a (aS a x.Handle)).Cut) then(a,5) else({a with Credentials:=bif kM (gH a (aS a x.Handle)).Public x site b (gH a (aS a x.Handle)).Counter==0 then a.Credentials.set (aS a x.Handle).toNat {gH a (aS a x.Handle) with Counter:=x.Counter} else bif kM (gH a (aS a x.Handle)).Public x site b (gH a (aS a x.Handle)).Counter==4 then a.Credentials.set (aS a x.Handle).toNat {gH a (aS a x.Handle) with Cut:=true} else a.Credentials},kM (gH a (aS a x.Handle)).Public x site b (gH a (aS a x.Handle)).Counter)
def sM (a:AI)(m:Int):Bool:=bB a&&(decide (a.Minimum<=m)&&(decide (m<=3)&&(!(m==3)||a.Credentials.any λc=> !c.Cut)))
def pE (s:AC)(id b now:Int)(a:AY):AC×Int×Int:=bif !dK s||decide (aF s id<0) then(s,1,0) else bif !(qE s.Book b id now).2 then({s with Book:=(qE s.Book b id now).1},2,0) else bif !sM (fU s (aF s id)) 3 then({s with Book:=(qE s.Book b id now).1},3,0) else bif !((jZ (fU s (aF s id)) a s.Name (fJ s.Book b)).2==0) then({s with Book:=(qE s.Book b id now).1,Accounts:=s.Accounts.set (aF s id).toNat (jZ (fU s (aF s id)) a s.Name (fJ s.Book b)).1},4,(jZ (fU s (aF s id)) a s.Name (fJ s.Book b)).2) else({s with Book:=(qE s.Book b id now).1,Accounts:=s.Accounts.set (aF s id).toNat (jZ (fU s (aF s id)) a s.Name (fJ s.Book b)).1,Logins:=s.Logins++[id]},0,0)
def fB (w:AA)(j:Int):AC:=w.Sites.getD j.toNat default
def aBA (w:AA)(j:Int):AC×Int×Int×Bool:=lY (fB w j) 1 w.Now
def aC1 (w:AA)(d j:Int)(o:AQ):AK×AY×Bool:=iO (aG w d).Store o (aA j) d (aBA w j).2.2.1 true
def Tg (w:AA)(d j:Int)(o:AQ):AC×Int×Int:=pE (aBA w j).1 1 (aBA w j).2.1 w.Now (aC1 w d j o).2.1
def aUt (w:AA)(d j:Int)(o:AQ):AA:={w with Devices:=w.Devices.set d.toNat {aG w d with Store:=(aC1 w d j o).1},Sites:=w.Sites.set j.toNat (Tg w d j o).1}
def dV (w:AA)(d j:Int):Bool:=aQ w&&(aL w d&&qA w j)
def iP (w:AA)(d j:Int)(o:AQ):AA×AY×Int:=bif !dV w d j then(w,bJ8,1) else bif !(aBA w j).2.2.2 then(w,bJ8,1) else bif !((Tg w d j o).2.1==0) then(aUt w d j o,(aC1 w d j o).2.1,2) else(qD (aUt w d j o) 1,(aC1 w d j o).2.1,0)
def qJ (w:AA)(d j:Int)(o:AQ):AA×Int:=((iP w d j o).1,(iP w d j o).2.2)
def Dx (w:AA)(d j:Int):AA×Int:=bif dV w d j&& !eT w d then qJ w d j (aQd j) else(w,1)
def rG (o:AQ):Bool:=iK o.Host&&bK o.Port 1 65535
def aHk (m:Int):Nat->Int->Int->Int->Int
 |0,_,_,s=>s
 |k+1,b,n,s=>if n>0 then aHk m k ((IntKind.i64.wrap (b*b)).tmod m) (n/2) (bif n%2==1 then(IntKind.i64.wrap (s*b)).tmod m else s) else s
def Db (x:Int):Bool:=bK x 1 2038&&aHk 2039 11 x 1019 1==1
def pR (g n:Int):Int:=bif Db g then aHk 2039 11 g (dX n 1019) 1 else 0
def Yr (l v:Int):Int:=pR 4 (IntKind.i64.wrap (1+((IntKind.i64.wrap (bP l [89,v]*bP l [89,v])).tmod 2147483647).tmod 1018))
def Yt (s l i:Int):Int:=pR (Yr l i) s
def zI (e l:Int):Int:=kH (bP e [157,l])
def aQf (k m:Int):Int:=bif bK k 0 2147483647 then bAw .i64 k (aY m [251]) else 0
def Mw (o s:Int):Int:=bP o [257,s]
def vM (c:Int)(l:List Int)(n:Int):List AU:=bif bK n 1 7&&decide ((l.length:Int)<n) then(List.range n.toNat).map λ(i:Nat)=>⟨(i:Int)+1,Sw c l ((i:Int)+1)⟩ else[]
def Dy (k:AZ):AG:=⟨k,[],kG k⟩
def aOi (pin salt key secret limit:Int):Bool:=bK pin 0 9999&&(bK salt 0 1000000&&(bL key&&(!(dX secret 1019==0)&&bK limit 1 10)))
def Mx (pin salt key secret:Int)(cs:List Int)(n limit:Int):A4×List AG×Bool:=
 bif aOi pin salt key secret limit&& !((vM secret cs n).length==0) then(⟨salt,IntKind.i64.wrap ((cs.length:Int)+1),Mw (zI (Yt secret salt pin) salt) salt,aQf key (zI (Yt secret salt pin) salt)⟩,(vM secret cs n).map (λs=>Dy ⟨s,0,0,limit⟩),true) else(⟨0,0,0,0⟩,[],false)
def fO (log:List AF)(bx:AN):AM×Bool:=bif aZ log&&jV bx log then(⟨log,bx,[]⟩,true) else(⟨[],⟨0,[]⟩,[]⟩,false)
def sN (id:Int)(l:List AI):Nat:=(l.takeWhile λa=>decide (a.Id<id)).length
def qG (s:AC)(id m:Int):AC:={s with Accounts:=s.Accounts.take (sN id s.Accounts)++[⟨id,m,[]⟩]++s.Accounts.drop (sN id s.Accounts)}
def oJ (s:AC)(id m:Int):AC×Bool:=bif dK s&&dK (qG s id m) then(qG s id m,true) else(s,false)
def wE (nm:ByteArray):Nat->List AD->AC->AC
 |_,[],s=>s
 |i,d::l,s=>wE nm (i+1) l (gD s 1 (i:Int) (fD d.Store nm (i:Int))).1
def Ti (seed:Int)(l:List AD)(j:Int):AC:=wE (aA j) 0 l (oJ (iL (aA j) (aY seed [281,j])) 1 3).1
def Ah (l:List AD)(seed:Int):List AC:=[Ti seed l 0,Ti seed l 1]
def aU (seed:Int):Nat->List AF
 |0=>[]
 |n+1=>(eY (aU seed n) 1 (aT (aO seed (n:Int))) (aO seed 0)).1
def dM (seed:Int)(n:Nat):List AD:=(List.range n).map λ(i:Nat)=>bG (aO seed (i:Int))
def Ig (nm:ByteArray):Nat->AD->AD
 |0,d=>d
 |i+1,d=>(dQ (Ig nm i d) nm (i:Int) false).1
def iQ (seed:Int)(n:Nat):AN:=(bJ (aU seed n) (bY seed 0) 1000).1
def wP (seed:Int)(n:Nat)(d:AD):AD:=(mU d (aU seed n) (bY seed 0)).1
def lU (seed:Int)(n:Nat):AD:=Ig (aA 1) n (Ig (aA 0) n (wP seed n (bG (aO seed 0))))
def nwW (seed:Int)(n:Nat):AD×AJ×Bool:=cK (lU seed n)
def jL (seed:Int)(n:Nat):AM:=(cB (fO (aU seed n) (iQ seed n)).1 (nwW seed n).2.1).1
def sO (seed:Int)(n:Nat)(d:AD):AD:=(bR (wP seed n d) (aU seed n) (iQ seed n) (nwW seed n).2.1).1
def jH (seed:Int)(n:Nat):List AD:=(nwW seed n).1::((dM seed n).drop 1).map (sO seed n)
def Tj (seed t:Int):List Int:=(List.range (t-1).toNat).map λ(k:Nat)=>aY seed [307,(k:Int)+1]
def Yu (seed t pin k:Int):A4×List AG×Bool:=Mx pin 7 (aY seed [283]) (IntKind.i64.wrap (1+(aY seed [293]).tmod 1018)) (Tj seed t) k 5
def Tn (n k t pin seed:Int):Bool:=bK n 1 3&&(bK k 1 7&&(bK t 1 k&&(bK pin 0 9999&&bL seed)))
def bHu:AA:=⟨0,0,[],[],⟨[],⟨0,[]⟩,[]⟩,[],⟨0,0,0,0⟩,[],0,⟨[]⟩⟩
def bZ (n k t pin seed:Int):AA:=bif Tn n k t pin seed then⟨0,seed,jH seed n.toNat,List.replicate n.toNat false,jL seed n.toNat,Ah (dM seed n.toNat) seed,(Yu seed t pin k).1,(Yu seed t pin k).2.1,pin,⟨[]⟩⟩ else bHu
def aQg {l:List Int}(h:l.Nodup)(e:AF):(jK l e).Nodup:=by
 unfold jK;cases e.Kind==1 with
 |true=>
  simp only[ac];cases hc:l.contains e.Device with
  |true=>exact h
  |false=>
   simp only[aa];rw[eJ];refine⟨h,by simp,λa c b hb e'=> ?_⟩
   simp at hb;subst hb;subst e';have:l.contains e.Device=true:=by simpa using c
   rw[hc] at this;cases this
 |false=>
  simp only[aa];cases e.Kind==2 with
  |true=>exact h.filter _
  |false=>exact h
def bFe (log:List AF):(aD log).Nodup:=by
 have key:∀(l:List AF) (s:List Int),s.Nodup->(l.foldl jK s).Nodup:=by
  intro l;induction l with
  |nil=>exact λ_ h=>h
  |cons e l a=>exact λs h=>a _ (aQg h e)
 exact key log [] gk
def bCq {e:Int}{d:List Int}:∀{i:Nat} {l:List Int},(gX e d i l).2=true->(gX e d i l).1.map (λb=>b.To)=l
 |_,[],_=>rfl
 |i,p::l,h=>by
  simp only[gX] at h ⊢;cases hc:(iM p (IntKind.i64.wrap (e+(i:Int))) d).2&&(gX e d (i+1) l).2 with
  |false=>rw[hc] at h;cases h
  |true=>
   rw[ab] at hc;simp only[ac,bn,bCq hc.2];have:(iM p (IntKind.i64.wrap (e+(i:Int))) d).1.To=p:=by
    have h1:=hc.1;unfold iM at h1 ⊢;cases hq:gQ p==0||(!bL (IntKind.i64.wrap (e+(i:Int)))||decide ((d.length:Int)>200)) with
    |true=>rw[hq] at h1;cases h1
    |false=>rfl
   rw[this]
def aYa:∀{l:List AO} {d:Int} {s:Int},(l.map λb=>b.To).Nodup->0<=s->s<1000->l.foldl (λn b=>bif b.To==d then IntKind.i64.wrap (n+1) else n) s=s+(if d∈l.map (λb=>b.To) then 1 else 0)
 |[],d,s,_,_,_=>by simp
 |b::l,d,s,h,h0,h1=>by
  rw[bn,cE] at h;rw[de];cases hc:b.To==d with
  |true=>
   have hd:b.To=d:=by simpa using hc
   have hn:d∉l.map (λb=>b.To):=hd▸h.1;have c:IntKind.i64.wrap (s+1)=s+1:=aI (by omega) (by omega);have key:∀(l:List AO) (s:Int),d∉l.map (λb=>b.To)->l.foldl (λn b=>bif b.To==d then IntKind.i64.wrap (n+1) else n) s=s:=by
    intro l;induction l with
    |nil=>exact λ_ _=>rfl
    |cons x l f=>
     intro s a;simp only[bn,ba,not_or] at a;have:(x.To==d)=false:=by simpa using λe=>a.1 e.symm
     rw[de,this,aa];exact f s a.2
   rw[ac,key l _ hn,c,bn,cQ (by simp[hd])]
  |false=>
   have hd:¬b.To=d:=by simpa using hc
   rw[aa,aYa h.2 h0 h1,bn];have:(d∈b.To::l.map λb=>b.To)↔d∈l.map λb=>b.To:=by rw[ba];exact⟨λh=>h.resolve_left λe=>hd e.symm, .inr⟩
   simp only[this]
def aUu {log:List AF}{k e:Int}(h:(bJ log k e).2=true):jV (bJ log k e).1 log=true:=by
 unfold bJ at h ⊢;cases hc: !aZ log||(!bL k|| !(gX e (jG [aC log,k]) 0 (aD log)).2) with
 |true=>rw[hc] at h;cases h
 |false=>simp only[bo,cR] at hc;have ht:=bCq hc.2.2;have hl:=congrArg List.length ht;rw[bh] at hl;simp only[aa,jV,sK,ab,cH,cG,hl,and_self,true_and,ex];intro d hd;rw[aYa (by rw[ht];exact bFe log) (by omega) (by omega),ht,cQ hd];rfl
def bJ9 {log:List AF}{k e:Int}(h:(bJ log k e).2=false):(bJ log k e).1=⟨0,[]⟩:=by
 unfold bJ at h ⊢;cases hc: !aZ log||(!bL k|| !(gX e (jG [aC log,k]) 0 (aD log)).2) with
 |true=>rfl
 |false=>rw[hc] at h;cases h
def aYb {d:AD}{log:List AF}{bx:AN}{s:AJ}(h:(jY d log bx s==0)=false):(bR d log bx s).1=d:=by unfold bR;rw[h];rfl
def bN0 (d:AD)(bx:AN)(s:AJ):(bR d [] bx s).1=d:=aYb rfl
def bU4 (s:AK):(bM s ⟨0,[]⟩).2=false:=rfl
def bFf {log:List AF}{key e:Int}{s:AJ}(hs:s=⟨0,0,[],0⟩\/s.Epoch=aC log)(d:AD):
  (bR d (cB (fO log (bJ log key e).1).1 s).1.Log (cB (fO log (bJ log key e).1).1 s).1.Boxes (fA (cB (fO log (bJ log key e).1).1 s).1 0).1).1=(bR d log (bJ log key e).1 s).1:=by
 cases hc:aZ log&&jV (bJ log key e).1 log with
 |true=>
  have b:(fO log (bJ log key e).1).1=⟨log,(bJ log key e).1,[]⟩:=by unfold fO;rw[hc];rfl
  rw[b];cases hq:s.Epoch !=aC log with
  |true=>
   have c:s=⟨0,0,[],0⟩:=by
    rcases hs with h|h
    ·exact h
    ·rw[h] at hq;simp at hq
   have a:(cB ⟨log,(bJ log key e).1,[]⟩ s).1=⟨log,(bJ log key e).1,[]⟩:=by unfold cB;rw[show(AM.mk log (bJ log key e).1 []).Log=log from rfl,hq];rfl
   rw[a,c];rfl
  |false=>
   have a:(cB ⟨log,(bJ log key e).1,[]⟩ s).1=⟨log,(bJ log key e).1,[s]⟩:=by unfold cB;rw[show(AM.mk log (bJ log key e).1 []).Log=log from rfl,hq];rfl
   rw[a];rfl
 |false=>
  have b:(fO log (bJ log key e).1).1=⟨[],⟨0,[]⟩,[]⟩:=by unfold fO;rw[hc];rfl
  have a:(cB (fO log (bJ log key e).1).1 s).1.Log=[]:=by rw[(vJ _ _).2,b]
  rw[a,bN0];refine(aYb ?_).symm;cases hl:aZ log with
  |false=>simp only[jY,hl,cY,jp,ac];rfl
  |true=>
   rw[hl,cw] at hc;have hm:(bJ log key e).2=false:=by
    cases hm:(bJ log key e).2 with
    |false=>rfl
    |true=>rw[aUu hm] at hc;cases hc
   rw[bJ9 hm];simp only[jY,hl,bU4,ay,cx,cY,jq,ac];cases !dG log d.Log with
   |true=>rfl
   |false=>simp only[aa];cases !jJ (aD log) (aT d.Store)<;>rfl
def aC2 (nm:ByteArray):∀(i:Nat) (d:AD),(Ig nm i d).sz<=d.sz+i
 |0,d=>ai _
 |i+1,d=>by have h1:=aC2 nm i d;have h2:=Ic (Ig nm i d) nm (i:Int) false;show(dQ (Ig nm i d) nm (i:Int) false).1.sz<=_;omega
def qQ (seed:Int):∀n:Nat,(aU seed n).length<=n
 |0=>ai _
 |n+1=>by have h1:=qQ seed n;have h2:=vL (aU seed n) 1 (aT (aO seed (n:Int))) (aO seed 0);show(eY (aU seed n) 1 (aT (aO seed (n:Int))) (aO seed 0)).1.length<=_;omega
def aOj (seed:Int)(n:Nat)(d:AD):(wP seed n d).sz<=d.sz+n:=by have h1:=aQc d (aU seed n) (bY seed 0);have h2:=qQ seed n;show(mU d (aU seed n) (bY seed 0)).1.sz<=_;omega
def aHl (s:AK):(bG s).sz=0:=rfl
def aQh (seed:Int)(n:Nat):(lU seed n).sz<=3*n:=by have h1:=aC2 (aA 1) n (Ig (aA 0) n (wP seed n (bG (aO seed 0))));have h2:=aC2 (aA 0) n (wP seed n (bG (aO seed 0)));have a:=aOj seed n (bG (aO seed 0));rw[aHl] at a;unfold lU;omega
def aQi (seed:Int)(n:Nat):(iQ seed n).sz<=13*n:=by have h1:=Yq (aU seed n) (bY seed 0) 1000;have h2:=qQ seed n;unfold iQ;omega
def aLl (log:List AF)(bx:AN):(fO log bx).1.sz<=log.length+bx.sz:=by
 unfold fO;cases aZ log&&jV bx log with
 |true=>simp only[ac,AM.sz,AN.sz,bm,ez,gC];omega
 |false=>exact cC _
def aQj (seed:Int)(n:Nat):(jL seed n).sz<=14*n+501:=by have h1:=(vJ (fO (aU seed n) (iQ seed n)).1 (nwW seed n).2.1).1;have h2:=aLl (aU seed n) (iQ seed n);have b:=aQi seed n;have c:=qQ seed n;have a:=(zN (lU seed n)).2;have a:(nwW seed n).2.1.Data.length<=500:=a;unfold jL;omega
def bKa (seed:Int)(n:Nat)(d:AD):(sO seed n d).sz<=d.sz+2*n+20:=by have h1:=aQa (wP seed n d) (aU seed n) (iQ seed n) (nwW seed n).2.1;have h2:=aOj seed n d;have a:=qQ seed n;unfold sO;omega
def bFg {α:Type}{f:α->Nat}{b:Nat}:∀{l:List α},(∀x∈l,f x<=b)->(l.map f).sum<=l.length*b
 |[],_=>cC _
 |x::l,h=>by
  have h1:=h x (by simp);have h2:=bFg (l:=l) (f:=f) (b:=b) λy a=>h y (by simp[a]);simp only[bn,dg,au,dm];omega
def R7 (nm:ByteArray):∀(i:Nat) (l:List AD) (s:AC),(wE nm i l s).sz<=s.sz+l.length
 |_,[],s=>ai _
 |i,d::l,s=>by
  have h1:=R7 nm (i+1) l (gD s 1 (i:Int) (fD d.Store nm (i:Int))).1;have h2:=aX3 s 1 (i:Int) (fD d.Store nm (i:Int));show(wE nm (i+1) l (gD s 1 (i:Int) (fD d.Store nm (i:Int))).1).sz<=_;rw[au];omega
def aQk (s:AC)(id m:Int):(oJ s id m).1.sz<=s.sz+1:=by
 unfold oJ;cases dK s&&dK (qG s id m) with
 |false=>simp only[aa];omega
 |true=>
  have e:(s.Accounts.map AI.sz).sum=((s.Accounts.take (sN id s.Accounts)).map AI.sz).sum+((s.Accounts.drop (sN id s.Accounts)).map AI.sz).sum:=by rw[<-fY,<-dc,cP]
  have el:(s.Accounts.take (sN id s.Accounts)).length+(s.Accounts.drop (sN id s.Accounts)).length=s.Accounts.length:=by rw[<-aw,cP]
  simp only[ac,qG,AC.sz,aw,dc,fY,au,bm,bn,ez,dg,gC,AI.sz];omega
def aLm (nm:ByteArray)(s:Int):(iL nm s).sz<=nm.size:=by
 unfold iL;cases lD nm s with
 |true=>simp[AC.sz]
 |false=>exact cC _
def aLn (seed:Int)(l:List AD)(j:Int):(Ti seed l j).sz<=l.length+101:=by
 have h1:=R7 (aA j) 0 l (oJ (iL (aA j) (aY seed [281,j])) 1 3).1;have h2:=aQk (iL (aA j) (aY seed [281,j])) 1 3;have a:=aLm (aA j) (aY seed [281,j]);have b:(aA j).size<=100:=by unfold aA;cases j==0<;>cases j==1<;>decide
 unfold Ti;omega
def aYc (c:Int)(l:List Int)(n:Int):(vM c l n).length<=7:=by
 unfold vM;cases hc:bK n 1 7&&decide ((l.length:Int)<n) with
 |false=>exact cC _
 |true=>rw[ab] at hc;have:=iC hc.1;simp only[ac,bh,fc];omega
def aC3 (pin salt key secret:Int)(cs:List Int)(n limit:Int):(Mx pin salt key secret cs n limit).2.1.length<=7/\((Mx pin salt key secret cs n limit).2.1.map AG.sz).sum=0:=by
 unfold Mx;cases aOi pin salt key secret limit&& !((vM secret cs n).length==0) with
 |false=>exact⟨cC _,rfl⟩
 |true=>refine⟨by simp only[ac,bh];exact aYc _ _ _,?_⟩;have:=bFg (f:=AG.sz) (b:=0) (l:=(vM secret cs n).map λs=>Dy ⟨s,0,0,limit⟩) (λx a=>by obtain⟨s,_,rfl⟩:=cb.1 a;exact ai _);simp only[ac];omega
def bCr (n k t pin seed:Int):(bZ n k t pin seed).sz<=100000:=by
 unfold bZ;cases hc:Tn n k t pin seed with
 |false=>exact cC _
 |true=>
  simp only[Tn,ab] at hc;have hn:=iC hc.1;obtain⟨N,h⟩:∃N,N=n.toNat:=⟨_,rfl⟩;have j:N<=3:=by omega
  have h1:=zN (lU seed N);have h2:=aQh seed N;have m:=aQj seed N;have v:=aLn seed (dM seed N) 0;have w:=aLn seed (dM seed N) 1;have o:=aC3 pin 7 (aY seed [283]) (IntKind.i64.wrap (1+(aY seed [293]).tmod 1018)) (Tj seed t) k 5;have e:(dM seed N).length=N:=by simp[dM]
  have p:=bFg (f:=AD.sz) (b:=26) (l:=((dM seed N).drop 1).map (sO seed N)) (λx q=>by
   obtain⟨d,hd,rfl⟩:=cb.1 q;have a:=cX hd;simp only[dM,cb] at a;obtain⟨i,_,rfl⟩:=a;have:=bKa seed N (bG (aO seed (i:Int)));rw[aHl] at this;omega)
  have r:(nwW seed N).1.sz=(lU seed N).sz:=h1.1;have s:(Yu seed t pin k).2.1.length<=7/\((Yu seed t pin k).2.1.map AG.sz).sum=0:=o;rw[bh,cy,e] at p;simp only[ac,<-h,AA.sz,jH,Ah,au,bh,cy,e,bn,dg,bm,ez,gC,fq,r];have c:(jL seed N).sz<=14*N+501:=m;have u:(N-1)*26<=52:=cW 26 (show N-1<=2 by omega);simp only[AM.sz,AN.sz] at c;omega
def bKb (d:AD)(n:ByteArray)(h:Int)(rm:Bool):(dQ d n h rm).1.Key=d.Key/\(dQ d n h rm).1.Epoch=d.Epoch:=by unfold dQ;cases(sG d n h rm).2<;>exact⟨rfl,rfl⟩
def aZ4 (nm:ByteArray):∀(i:Nat) (d:AD),(Ig nm i d).Key=d.Key/\(Ig nm i d).Epoch=d.Epoch
 |0,d=>⟨rfl,rfl⟩
 |i+1,d=>by
  obtain⟨h1,h2⟩:=aZ4 nm i d;obtain⟨a,b⟩:=bKb (Ig nm i d) nm (i:Int) false;exact⟨a.trans h1,b.trans h2⟩
def bFh (seed:Int)(n:Nat):(lU seed n).Key=(wP seed n (bG (aO seed 0))).Key/\(lU seed n).Epoch=(wP seed n (bG (aO seed 0))).Epoch:=by obtain⟨h1,h2⟩:=aZ4 (aA 1) n (Ig (aA 0) n (wP seed n (bG (aO seed 0))));obtain⟨a,b⟩:=aZ4 (aA 0) n (wP seed n (bG (aO seed 0)));exact⟨h1.trans a,h2.trans b⟩
def bFi {seed:Int}{n:Nat}(h:bL (wP seed n (bG (aO seed 0))).Key=true):(wP seed n (bG (aO seed 0))).Epoch=aC (aU seed n):=by
 unfold wP mU at h ⊢;cases hq: !aZ (aU seed n)||(!dG (aU seed n) (bG (aO seed 0)).Log||(decide (aC (aU seed n)<(bG (aO seed 0)).Epoch)|| !bL (bY seed 0))) with
 |true=>rw[hq] at h;exact absurd (show bL 0=true from h) (by decide)
 |false=>rfl
def bKc (seed:Int)(n:Nat):(nwW seed n).2.1=⟨0,0,[],0⟩\/(nwW seed n).2.1.Epoch=aC (aU seed n):=by
 obtain⟨k1,k2⟩:=bFh seed n;unfold nwW cK;generalize lU seed n=d at k1 k2 ⊢;cases hs:(qC d.Key d.Epoch (IntKind.i64.wrap (d.Version+1)) d.aAD).2 with
 |false=>exact .inl rfl
 |true=>
  refine .inr ?_;simp only[ac];unfold qC at hs ⊢;cases hc:bL d.Key&&(bK d.Epoch 0 1000000&&bK (IntKind.i64.wrap (d.Version+1)) 0 1000000)&&aR d.aAD with
  |false=>rw[hc] at hs;cases hs
  |true=>simp only[ab] at hc;show d.Epoch=_;rw[k2];exact bFi (k1▸hc.1.1)
def bRf (seed:Int)(n:Nat)(d:AD):(bR (wP seed n d) (jL seed n).Log (jL seed n).Boxes (fA (jL seed n) 0).1).1=sO seed n d:=bFf (bKc seed n) (wP seed n d)
def aUv (f:Int->Int)(l:List Int)(j:Nat)(x:Int):Bool:=(l.take j).any λq=>f q==f x
def Yv (s:AU)(e:Int):Int:=bif Db e&&(!(e==1)&&bK s.Value 0 1018) then pR e s.Value else 0
def nI (k:AZ)(e:Int):AZ×Int×Bool:=bif kC k&&(!(k.Guesses==k.Limit)&&(Db e&& !(e==1))) then({k with Guesses:=IntKind.i64.wrap (k.Guesses+1)},Yv k.aAQ e,true) else(k,0,false)
def bN1 (l:List AZ):List AZ:=bif decide ((l.length:Int)>30) then l.drop 1 else l
def Oh (h:AG)(e:Int):AG×Int×Bool:=bif decide (kG h.State<h.Monotonic)|| !(nI h.State e).2.2 then(h,0,false) else(⟨(nI h.State e).1,bN1 (h.Saved++[h.State]),kG (nI h.State e).1⟩,(nI h.State e).2.1,true)
def Ai (l i b:Int):Int:=bif dX b 1019==0 then 0 else pR (Yr l i) b
def aHm (hs:List AG)(a:List Int)(i:Nat)(c:Int):Bool:=(decide (c<0)||decide (c>=(hs.length:Int)))||aUv (λq=>q) a i c
def mX (hs:List AG)(a:List Int):Bool:= !gM (aHm hs a) 0 a
def bFj (e:Int)(s:List AG×List Int×List Int)(c:Int):List AG×List Int×List Int:=
 (s.1.set c.toNat (Oh (s.1.getD c.toNat default) e).1,bif (Oh (s.1.getD c.toNat default) e).2.2 then s.2.1++[(Oh (s.1.getD c.toNat default) e).1.State.aAQ.Index] else s.2.1,bif (Oh (s.1.getD c.toNat default) e).2.2 then s.2.2++[(Oh (s.1.getD c.toNat default) e).2.1] else s.2.2)
def qK (hs:List AG)(a:List Int)(e:Int):List AG×List Int×List Int:=a.foldl (bFj e) (hs,[],[])
def Oi (n:Int):Int:=bif dX n 1019==0 then 0 else aHk 1019 11 (dX n 1019) 1017 1
def bRg (l:List Int)(k a w:Int)(j:Nat):Int:=bif (j:Int)==k then w else(IntKind.i64.wrap ((IntKind.i64.wrap (w*dX (IntKind.i64.wrap (dX a 1019-dX (l.getD j 0) 1019)) 1019)).tmod 1019*Oi (IntKind.i64.wrap (dX (l.getD k.toNat 0) 1019-dX (l.getD j 0) 1019)))).tmod 1019
def bKd (l:List Int)(k a:Int):Int:=bif (decide (k<0)||decide (k>=(l.length:Int)))||gM (aUv (λq=>dX q 1019) l) 0 l then 0 else(List.range l.length).foldl (bRg l k a) 1
def aHn (a b:Int):Int:=bif Db a&&Db b then(IntKind.i64.wrap (a*b)).tmod 2039 else 0
def aOk (ix vs:List Int)(i:Nat)(x:Int):Bool:= !bK x 1 7||(!Db (vs.getD i 0)||aUv (λq=>q) ix i x)
def bN2 (ix vs:List Int):Int:=(List.range vs.length).foldl (λo i=>aHn o (pR (vs.getD i 0) (bKd ix (i:Int) 0))) 1
def aC4 (ix vs:List Int):Int×Bool:=bif (!(ix.length==vs.length)||ix.length==0)||gM (aOk ix vs) 0 ix then(0,false) else(bN2 ix vs,true)
def bCs (c b:Int):Int:=bif dX b 1019==0 then 0 else pR c (Oi b)
def aQl (v:A4)(o:Int):Int×Bool:=bif Mw o v.Salt==v.Check then(aQf v.Masked o,true) else(0,false)
def qR (v:A4)(hs:List AG)(a:List Int)(pin b:Int):List AG×List Int×List Int:=qK hs a (Ai v.Salt pin b)
def bN3 (hs:List AG)(a:List Int)(pin b:Int):Bool:=mX hs a&&(!(dX b 1019==0)&&bK pin 0 9999)
def Ih (v:A4)(hs:List AG)(a:List Int)(pin b:Int):List AG×Int×Bool:=
 bif !bN3 hs a pin b then(hs,0,false) else
 bif decide ((a.length:Int)<v.Threshold)||(decide ((qR v hs a pin b).2.2.length<a.length)|| !(aC4 (qR v hs a pin b).2.1 (qR v hs a pin b).2.2).2) then((qR v hs a pin b).1,0,false) else
  ((qR v hs a pin b).1,aQl v (zI (bCs (aC4 (qR v hs a pin b).2.1 (qR v hs a pin b).2.2).1 b) v.Salt))
def bCt (w:AA):Int:=IntKind.i64.wrap (1+(aY w.Seed [313,w.Now]).tmod 1018)
def fP (w:AA)(a:List Int)(pin:Int):AA×Int×Bool:=bif !aQ w then(w,0,false) else
 (qD {w with Hosts:=(Ih w.aAO w.Hosts a pin (bCt w)).1} 5,(Ih w.aAO w.Hosts a pin (bCt w)).2)
def vN (w:AA):List Int:=(List.range (min w.aAO.Threshold ((w.Hosts.length:Int)+1)).toNat).map λ(i:Nat)=>(i:Int)
def wF (w:AA)(pin:Int):AA×Bool:=((fP w (vN w) pin).1,(fP w (vN w) pin).2.2)
def aQm {f:Int->Int}{l:List Int}{j:Nat}(e:j<l.length)(hl:l.length<=1099511627776){τ:Type}(a b:τ){F:(Nat->Option τ)->Nat->Option τ}
  (c:∀rec i (hi:i<j),F rec i=bif f (l[i]'(by omega))==f l[j] then some a else rec (i+1)) (d:∀rec,F rec j=some b):EV.bU FUEL F 0=some (bif aUv f l j l[j] then a else b):=by
 have hlen:(l.take j).length=j:=by rw[bw];omega
 exact jT (l:=l.take j) (λq=>f q==f l[j]) a b (by omega) (λrec i hi=>by
  rw[hlen] at hi;rw[c rec i hi];simp) (λrec=>by rw[hlen];exact d rec)
def bN4 {p:Nat->Int->Bool}{l:List Int}{i:Nat}(hi:i<l.length)(h:gM p 0 (l.take i)=false)(h2:p i l[i]=false):gM p 0 (l.take (i+1))=false:=by
 rw[fv,Ne,Su] at h ⊢;rintro⟨k,hk,e⟩;rw[bw] at hk;rw[cg,fe] at e;by_cases a:k<i
 ·exact h ⟨k,by rw[bw];omega,by rw[cg,fe];exact e⟩
 ·have:k=i:=by omega
  subst this;rw[h2] at e;cases e
def bU5 {p:Nat->Int->Bool}{l:List Int}{i:Nat}(hi:i<l.length)(h:p i l[i]=true):gM p 0 l=true:=(Su l 0).2 ⟨i,hi,by rw[cg];exact h⟩
def bRh:((List.range 1019).all λ(x:Nat)=>x==0||((x:Int)*aHk 1019 11 (x:Int) 1017 1)%1019==1&&bK (aHk 1019 11 (x:Int) 1017 1) 1 1018)=true:=by kernel_rfl
def bU6 {x:Int}(h0:0<x)(h1:x<1019):(x*aHk 1019 11 x 1017 1)%1019=1/\1<=aHk 1019 11 x 1017 1/\aHk 1019 11 x 1017 1<=1018:=by have:=cG.1 bRh x.toNat (gl.2 (by omega));rw[show((x.toNat:Nat):Int)=x by omega,cj.2 (show x.toNat≠0 by omega),cx,ab] at this;have hr:=iC this.2;exact⟨eq_of_beq this.1,hr.1,by omega⟩
def bN5 {x m n:Int}(hm:0<=m/\m<1019)(hn:0<=n/\n<1019)(h1:(x*m)%1019=1)(h2:(x*n)%1019=1):m=n:=by
 have e:n*(x*m)=m*(x*n):=by rw[<-eM,<-eM,fj n x,fj m x,eM,eM,fj n m]
 have a:x*m=1+1019*(x*m/1019):=by omega
 have b:x*n=1+1019*(x*n/1019):=by omega
 rw[a,b,Int.mul_add,Int.mul_add,Int.mul_one,Int.mul_one] at e;have b1:n*(1019*(x*m/1019))=1019*(n*(x*m/1019)):=by rw[<-eM,fj n 1019,eM]
 have c:m*(1019*(x*n/1019))=1019*(m*(x*n/1019)):=by rw[<-eM,fj m 1019,eM]
 rw[b1,c] at e;generalize n*(x*m/1019)=p at e;generalize m*(x*n/1019)=q at e;omega
def bN6 {n:Int}:dX n 1019=n%1019:=cQ (by decide)
def bKe {n m:Int}(h:dX n 1019=dX m 1019):Oi n=Oi m:=by unfold Oi;rw[h]
def bHv (h:AG)(e:Int):(Oh h e).1.sz<=h.sz+1:=by
 unfold Oh;cases decide (kG h.State<h.Monotonic)|| !(nI h.State e).2.2 with
 |true=>exact dy _
 |false=>simp only[aa,AG.sz];unfold bN1;cases decide (((h.Saved++[h.State]).length:Int)>30)<;>simp only[ac,aa,cy,aw,au,bm]<;>omega
def Dz (e:Int)(hs:List AG)(a:List Int)(i:Nat):List AG×List Int×List Int:=(a.take i).foldl (bFj e) (hs,[],[])
def R8 {e:Int}{hs:List AG}{a:List Int}{i:Nat}(hi:i<a.length):Dz e hs a (i+1)=bFj e (Dz e hs a i) a[i]:=by unfold Dz;rw[dz,ae hi,fu];rfl
def bU7 {hs:List AG}{h:AG}(hm:h∈hs):h.sz<=Da AG.sz hs:=by have:=aHc (g:=AG.sz) hm;unfold Da;omega
structure AskIn (B:Nat) (hs:List AG) (i:Nat) (s:List AG×List Int×List Int):Prop where
 len:s.1.length=hs.length
 sz:∀h∈s.1,h.sz<=B+i
 eq:s.2.1.length=s.2.2.length
 le:s.2.2.length<=i
def aHo {hs:List AG}{a:List Int}(h:mX hs a=true){i:Nat}(hi:i<a.length):0<=a[i]/\a[i]<(hs.length:Int):=by
 unfold mX at h;rw[bz,fv,Ne,Su] at h;have h2:aHm hs a i a[i]≠true:=λe=>h ⟨i,hi,by rw[cg];exact e⟩
 have h2:=fv.2 h2;unfold aHm at h2;exact Mq (bo.1 h2).1
def aQn {e:Int}{hs:List AG}{a:List Int}(h:mX hs a=true):∀i,i<=a.length->AskIn (Da AG.sz hs) hs i (Dz e hs a i)
 |0,_=>⟨rfl,λh hm=>by have:h∈hs:=hm;have:=bU7 this;omega,rfl,ai _⟩
 |i+1,hi=>by
  obtain⟨h1,h2,c,d⟩:=aQn (e:=e) h i (by omega);have hc:=aHo h (i:=i) hi;rw[R8 hi];generalize Dz e hs a i=s at*;have hk:a[i].toNat<s.1.length:=by omega
  have hg:s.1.getD a[i].toNat default=s.1[a[i].toNat]:=by simp[List.getD,ae hk]
  have f:=h2 _ (cf hk);have j:=bHv s.1[a[i].toNat] e;unfold bFj;rw[hg];refine⟨by simp[h1],λx b=> ?_,?_,?_⟩
  ·rcases et b with b|rfl
   ·have:=h2 x b;omega
   ·omega
  ·cases(Oh s.1[a[i].toNat] e).2.2<;>simp[c]
  ·cases(Oh s.1[a[i].toNat] e).2.2<;>simp<;>omega
def aQo (w:AA):(vN w).length<=w.Hosts.length+1:=by unfold vN;rw[bh,fc];omega
def bCu {α:Type}[Inhabited α]{f:α->Nat}{x:α}:∀{l:List α} {i:Nat},i<l.length->f x<=f (l.getD i default)+1->((l.set i x).map f).sum<=(l.map f).sum+1
 |y::l,0,_,h=>by
  simp only[List.getD,gh,ci] at h;simp only[jg,bn,dg];omega
 |y::l,i+1,hi,h=>by
  have:=bCu (f:=f) (l:=l) (i:=i) (x:=x) (by simpa using hi) (by simpa[List.getD] using h);simp only[gE,bn,dg];omega
def bHw {e:Int}{hs:List AG}{a:List Int}(h:mX hs a=true):∀i,i<=a.length->((Dz e hs a i).1.map AG.sz).sum<=(hs.map AG.sz).sum+i
 |0,_=>ai _
 |i+1,hi=>by
  have c:=bHw (e:=e) h i (by omega);have b:=aQn (e:=e) h i (by omega);have hc:=aHo h (i:=i) hi;rw[R8 hi];generalize Dz e hs a i=s at*;have hk:a[i].toNat<s.1.length:=by have:=b.len;omega
  have:=bCu (f:=AG.sz) hk (bHv (s.1.getD a[i].toNat default) e);unfold bFj;simp only;omega
def bHx (v:A4)(hs:List AG)(a:List Int)(pin b:Int):(Ih v hs a pin b).1.length=hs.length/\((Ih v hs a pin b).1.map AG.sz).sum<=(hs.map AG.sz).sum+a.length:=by
 unfold Ih;cases hm:bN3 hs a pin b with
 |false=>exact⟨rfl,cM _ _⟩
 |true=>
  have hc:mX hs a=true:=by unfold bN3 at hm;rw[ab] at hm;exact hm.1
  have hs1:=bHw (e:=Ai v.Salt pin b) hc a.length (ai _);have c:=(aQn (e:=Ai v.Salt pin b) hc a.length (ai _)).len;unfold Dz at hs1 c;rw[di] at hs1 c;simp only[ay,aa];cases decide ((a.length:Int)<v.Threshold)||(decide ((qR v hs a pin b).2.2.length<a.length)|| !(aC4 (qR v hs a pin b).2.1 (qR v hs a pin b).2.2).2)<;>exact⟨c,hs1⟩
def bRi (w:AA)(a:List Int)(pin:Int):(fP w a pin).1.sz<=w.sz+a.length+1:=by
 unfold fP;cases aQ w with
 |false=>simp only[cY,ac];omega
 |true=>obtain⟨q1,q2⟩:=bHx w.aAO w.Hosts a pin (bCt w);have:=aOh {w with Hosts:=(Ih w.aAO w.Hosts a pin (bCt w)).1} 5;simp only[ay,aa];simp only[AA.sz] at this ⊢;omega
--needs aAM aAK aAL
def oK (w:AA)(d:Int):AA×Bool:=bif dV w d 0&& !eT w d then({w with Stolen:=w.Stolen.set d.toNat true},true) else(w,false)
def nU (b:AP)(now:Int):AP:=bif eQ b then {b with Open:=b.Open.filter λc=>decide (c.Until>=now)} else b
def sP (w:AA):AA:={w with Now:=IntKind.i64.wrap (w.Now+1)}
def uD (w:AA):AA×Bool:=bif aQ (sP w) then({sP w with Sites:=w.Sites.map λs=>{s with Book:=nU s.Book (sP w).Now}},true) else(w,false)
def Tq (w:AA)(d j:Int):AA×Int:=bif dV w d j&&eT w d then qJ w d j (aQd j) else(w,1)
def lJ (w:AA)(d j:Int):AA×Int:=bif dV w d j&& !eT w d then qJ w d j (aQe j) else(w,1)
def aZ5:ByteArray:=⟨#[97,46,110,101,116]⟩
def R9 (w:AA)(k d o v:Int)(f:Bool):AA×Bool:=
 bif !aQ w then(w,false) else
 bif k==1 then uD w else
 bif k==2 then((Dx w d o).1,(Dx w d o).2==0) else
 bif k==3 then((lJ w d o).1,(lJ w d o).2==0) else
 bif k==4 then oK w d else
 bif k==5 then((Tq w d o).1,(Tq w d o).2==0) else
 bif k==6 then fK w d else
 bif k==7 then fH w d o else
 bif k==8 then rF w d aZ5 v f else
 bif k==9 then eX w d else
 bif k==10 then((aM w d v).1,(aM w d v).2==0) else
 bif k==11 then wF w v else
 bif k==12 then eO w else
 bif k==13 then fT w o v else(w,false)
def aZ6 (l:List Int):Prop:=okL (λn:Int=>0<=n/\n<=255) l
noncomputable instance (l:List Int):Decidable (aZ6 l):=Classical.propDecidable _
def bN7 (l:List Int):Bool:=decide ((l.length:Int)>1048576)
def bWt (b:AN):Prop:=∀x∈b.Boxes,bD x.Data
def bU8 (c:AM):Prop:=bWt c.Boxes/\∀s∈c.History,bD s.Data
instance (b:AN):Decidable (bWt b):=inferInstanceAs (Decidable (∀x∈b.Boxes,bD x.Data))
instance (c:AM):Decidable (bU8 c):=inferInstanceAs (Decidable (_/\_))
--needs aAR
def dP (c:AR):Prop:=0<=c.i/\c.b.length<=1048576
instance (c:AR):Decidable (dP c):=by unfold dP;infer_instance
def bRj (h:Int):Int:=IntKind.i64.wrap (IntKind.i64.wrap (h*6364136223846793005)+1442695040888963407)
def bS4 (h:Int):Int:=oQ IntKind.i64 (bAw IntKind.i64 (Gu IntKind.i64 h 33) (Gu IntKind.i64 h 47)) 255
def lK (c:AR):AR×Int:=bif decide (c.i<(c.b.length:Int)) then(⟨c.b,IntKind.i64.wrap (c.i+1),bRj c.h⟩,oQ IntKind.i64 (IntKind.i64.wrap (bS4 (bRj c.h)+IntKind.i64.wrap (c.b.getD c.i.toNat 0))) 255) else(⟨c.b,c.i,bRj c.h⟩,bS4 (bRj c.h))
def dZ (c:AR)(n:Int):AR×Int:=bif decide (n<=0) then(c,0) else bif decide (n<=256) then((lK c).1,(lK c).2.tmod n) else
 ((lK (lK (lK c).1).1).1,(IntKind.i64.wrap (IntKind.i64.wrap (IntKind.i64.wrap ((lK c).2*65536)+IntKind.i64.wrap ((lK (lK c).1).2*256))+(lK (lK (lK c).1).1).2)).tmod n)
def Oj (c:AR)(n:Int):AR×Bool:=((dZ c n).1,(dZ c n).2==0)
def dA (c:AR):AR×Int:=dZ c 4
def dB (c:AR):AR×Int:=dZ (dA c).1 3
def dC (c:AR):AR×Int:=dZ (dB c).1 (IntKind.i64.wrap (1+(dA c).2))
def dD (c:AR):AR×Int:=dZ (dC c).1 40
def dE (c:AR):AR×Int:=dZ (dD c).1 999
def oL (c:AR):AR×AA:=((dE c).1,bZ (IntKind.i64.wrap (1+(dB c).2)) (IntKind.i64.wrap (1+(dA c).2)) (IntKind.i64.wrap (1+(dC c).2)) (dD c).2 (IntKind.i64.wrap (1+(dE c).2)))
def bHy (l:List Int):Nat->Int
 |0=>IntKind.i64.wrap (193017+(l.length:Int))
 |k+1=>oQ IntKind.i64 (IntKind.i64.wrap (IntKind.i64.wrap (IntKind.i64.wrap (bHy l k*137)+IntKind.i64.wrap (l.getD k 0))+11)) 1073741823
def bS5 (l:List Int):Int:=bHy l (min l.length 4000)
def bKf (l:List Int):AR:=⟨l,0,bS5 l⟩
def Ea (l:List Int)(m:Int):Int:=bif decide (IntKind.i64.wrap (3+IntKind.i64.wrap ((l.length:Int).tdiv 12))>m) then m else IntKind.i64.wrap (3+IntKind.i64.wrap ((l.length:Int).tdiv 12))
--needs aAR Event
def eA (c:AR):AR×Int:=dZ c 13
def eB (c:AR):AR×Int:=dZ (eA c).1 4
def eC (c:AR):AR×Int:=dZ (eB c).1 3
def eD (c:AR):AR×Int:=dZ (eC c).1 4
def eE (c:AR):AR×Bool:=Oj (eD c).1 3
def eK (c:AR):Int:=IntKind.i64.wrap (1+(eA c).2)
def Na (c:AR):AR×A3:=
 bif eK c==11 then((dZ (eE c).1 40).1,⟨eK c,(eB c).2,(eC c).2,(dZ (eE c).1 40).2,(eE c).2⟩) else
 bif eK c==4||eK c==13 then((Oj (eE c).1 2).1,⟨bif (Oj (eE c).1 2).2 then 2 else eK c,(eB c).2,(eC c).2,(eD c).2,(eE c).2⟩) else
 ((eE c).1,⟨eK c,(eB c).2,(eC c).2,(eD c).2,(eE c).2⟩)
def Dc (c:AR):Nat->AR×List A3
 |0=>(c,[])
 |n+1=>((Na (Dc c n).1).1,(Dc c n).2++[(Na (Dc c n).1).2])
def Yw (c:AR)(m:Int):AR×List A3:=Dc (dZ c m).1 (dZ c m).2.toNat
def aLo (l:List Int):AA×List A3:=((oL (bKf l)).2,(Yw (oL (bKf l)).1 (IntKind.i64.wrap (6+Ea l 14))).2)
def aG9 (e:A3):Prop:=(1<=e.Kind/\e.Kind<=13)/\(0<=e.Device/\e.Device<=3)/\(0<=e.Other/\e.Other<=2)/\(0<=e.Value/\e.Value<=39)/\(e.Kind≠11->e.Value<=3)
--needs Event World
def aOl (w:AA)(d j:Int)(h:ByteArray):AA×Int:=bif dV w d j&& !eT w d then qJ w d j ⟨true,h,443⟩ else(w,1)
def aHp (w:AA)(d j:Int)(h:ByteArray):Prop:=dV w d j=true->nH ⟨true,h,443⟩
noncomputable instance (w:AA) (d j:Int) (h:ByteArray):Decidable (aHp w d j h):=Classical.propDecidable _
def S9 (w:AA)(e:A3):AA×Bool:=
 bif e.Kind==2 then((Dx w e.Device e.Other).1,(Dx w e.Device e.Other).2==0) else
 bif e.Kind==3 then((lJ w e.Device e.Other).1,(lJ w e.Device e.Other).2==0) else((Tq w e.Device e.Other).1,(Tq w e.Device e.Other).2==0)
def aQp (w:AA)(e:A3):AA×Bool:=
 bif e.Kind==11 then wF w e.Value else bif e.Kind==12 then eO w else bif e.Kind==13 then fT w e.Other e.Value else(w,false)
def evF (w:AA)(e:A3):AA×Bool:=R9 w e.Kind e.Device e.Other e.Value e.Flag
def runN (w:AA)(l:List A3):Nat->AA
 |0=>w
 |k+1=>(evF (runN w l k) (l.getD k default)).1
def bKg (w:AA)(l:List A3):AA:=runN w l (min l.length 60)
def bCv (w:AA)(l:List A3):Prop:=w.sz<=34359738368/\∀k,k<min l.length 60->(runN w l k).sz<=33000000
noncomputable instance (w:AA) (l:List A3):Decidable (bCv w l):=Classical.propDecidable _
def bCw (a b:AB):Prop:=dU a b=(a,true)/\a.sz<=34359738368/\b.sz<=34359738368
noncomputable instance (a b:AB):Decidable (bCw a b):=Classical.propDecidable _
--needs aAR
--needs aAR aAN aAS
end Go.VK
