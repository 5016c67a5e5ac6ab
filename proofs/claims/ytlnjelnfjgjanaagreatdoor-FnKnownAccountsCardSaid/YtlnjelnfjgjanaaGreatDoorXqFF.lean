import Derived.Test.YtlnjelnfjgjanaaGreatDoorEVzbtod
import Derived.Test.YtlnjelnfjgjanaaGreatDoorXqS
/- Printed by wip/tools: models, walks, proofs. -/
set_option linter.all false
set_option maxRecDepth 100000
set_option maxHeartbeats 4000000
namespace Go.VK
open Go.RowKit Go.Proofs
def Ky (k:D.aAR):Int:=IntKind.i64.wrap (IntKind.i64.wrap (k.Epoch*1000)+k.Guesses)
def aDk {h v:Int}(h0:0<=h)(h1:h<2147483647):0<=hstep h v/\hstep h v<2147483647:=by
 have hm:=vZ (p:=v) (q:=2147483647) (by omega)
 unfold hstep
 generalize gJ v 2147483647=z at*
 have e1:IntKind.i64.wrap (h*1000003)=h*1000003:=aJ (by omega) (by omega)
 have e2:IntKind.i64.wrap (h*1000003+z)=h*1000003+z:=aJ (by omega) (by omega)
 have e3:IntKind.i64.wrap (h*1000003+z+13)=h*1000003+z+13:=aJ (by omega) (by omega)
 rw[e1,e2,e3]
 exact⟨e8 _ (by omega),eV _ (by decide)⟩
def aSt (l:List Int):0<=uE l/\uE l<2147483647:=by
 unfold uE
 suffices ∀(l:List Int) (h:Int),0<=h->h<2147483647->0<=l.foldl hstep h/\l.foldl hstep h<2147483647 from this l 11 (by omega) (by omega)
 intro l
 induction l with
 |nil=>intro h h0 h1;exact⟨h0,h1⟩
 |cons x xs ih=>intro h h0 h1;exact ih _ (aDk h0 h1).1 (aDk h0 h1).2
def kE (k:Int)(l:List Int):0<=bE k l/\bE k l<2147483647:=aSt _
def aQg (a b:Int):Int:=bif decide (b>a) then b else a
def kI (a:List Int)(r:List (List Int)):List Int:=a++r.flatten
def gX (n:Int):Int:=bif n==0 then 1 else n
def bG (n:Int):Bool:=bH n 1 2147483646
def tX (b:List Int):List Int:=[(b.length:Int)]++b.map IntKind.i64.wrap
def aW (seed:Int)(l:List Int):Int:=gX (bE seed ([151]++l))
def lS (k:Int)(s:ByteArray):Int:=gX (bE k (tX (bP s)))
def bU (p:Int):Int:=bif !(bG p) then 0 else(IntKind.i64.wrap (p*48271)).tmod 2147483647
def fF (s:D.aAH):Int:=aW s.Seed [181]
def bJ (s:D.aAH):Int:=bU (fF s)
def gH (l:List Int)(x:Int):Bool:=l.any λe=>e==x
def fG (log:List D.aAD)(p:Int):Bool:=log.any λe=>e.Kind==2&&e.Device==p
def iN (s:List Int)(e:D.aAD):List Int:=
 bif e.Kind==1 then(bif s.contains e.Device then s else s++[e.Device]) else bif e.Kind==2 then s.filter (λd=>d !=e.Device) else s
def aD (log:List D.aAD):List Int:=log.foldl iN []
def aF (log:List D.aAD):Int:=log.foldl (λn e=>bif e.Kind==2 then IntKind.i64.wrap (n+1) else n) 0
def aG (b:D.aAC)(site handle:Int):Int:=iF (λe=>e.Site==site&&e.Handle==handle) 0 b.Entries
def aC (s:D.Site)(id:Int):Int:=iF (λa=>a.Id==id) 0 s.Accounts
def aDl (s:List Int)(x:D.aAD):(iN s x).length<=s.length+1:=by
 unfold iN
 cases x.Kind==1 with
 |true=>cases s.contains x.Device<;>simp
 |false=>
  cases x.Kind==2 with
  |true=>have:=fR (λd=>d !=x.Device) s;simp;omega
  |false=>simp
def gD (log:List D.aAD):(aD log).length<=log.length:=by
 suffices ∀(l:List D.aAD) (s:List Int),(l.foldl iN s).length<=s.length+l.length from by simpa[aD] using this log []
 intro l
 induction l with
 |nil=>intro s;simp
 |cons x xs ih=>
  intro s
  simp only[cV,au]
  have h1:=ih (iN s x)
  have h2:(iN s x).length<=s.length+1:=by
   unfold iN
   cases x.Kind==1 with
   |true=>cases s.contains x.Device<;>simp
   |false=>
    cases x.Kind==2 with
    |true=>have:=fR (λd=>d !=x.Device) s;simp;omega
    |false=>simp
  omega
def aSu {n:Int}(h:0<=n):aQg 1 n=gX n:=by
 unfold aQg gX
 rcases(show n=0\/n=1\/n>1 by omega) with rfl|rfl|h1
 ·rfl
 ·rfl
 ·have:(n==0)=false:=by simp;omega
  simp[h1,this]
def aR (s:ByteArray):Int:=lS 173 s
def WOk (w:D.World):Prop:=w.Devices.length<=34359738368/\w.Stolen.length<=34359738368/\w.aAE.Log.length<=34359738368/\w.Sites.length<=34359738368
instance (w:D.World):Decidable (WOk w):=inferInstanceAs (Decidable (_/\_))
def aL (w:D.World)(d:Int):Bool:=decide (0<=d)&&decide (d<w.Devices.length)
def aOh {w:D.World}(h:WOk w)(d:Int):bH d 0 (IntKind.i64.wrap ((w.Devices.length:Int)-1))=aL w d:=by
 have:=h.1
 rw[aJ (by omega) (by omega)]
 unfold bH aL
 congr 1
 exact cw.2 (by omega)
def aK (w:D.World)(d:Int):D.Device:=w.Devices.getD d.toNat default
def rV {w:D.World}{d:Int}(h:aL w d=true):bD w.Devices d=some (aK w d):=by
 simp only[aL,aa,cb] at h
 rw[Eo h.1 (by omega)]
 simp[aK,List.getD,ae (show d.toNat<w.Devices.length by omega)]
def cZ (w:D.World)(d:Int):Bool:=aL w d&&gH (aD w.aAE.Log) (bJ (aK w d).Store)
def kS (w:D.World)(i:Nat):Bool:=cZ w i&&(decide (i<w.Stolen.length)&& !w.Stolen.getD i false)
def bX (w:D.World):List Int:=((List.range w.Devices.length).filter (kS w)).map Int.ofNat
def oV (w:D.World)(d:Int)(s:ByteArray)(h:Int):Bool:=aL w d&&(!decide (aG (aK w d).aAC (aR s) h<0)&& !((aK w d).aAC.Entries.getD (aG (aK w d).aAC (aR s) h).toNat default).Deleted)
def aZ8 (w:D.World):(List.range (min w.Devices.length w.Stolen.length)).filter (kS w)=(List.range w.Devices.length).filter (kS w):=by
 rcases Nat.le_total w.Devices.length w.Stolen.length with h|h
 ·rw[gO h]
 ·rw[Nat.min_eq_right h]
  obtain⟨k,hk⟩:=Nat.exists_eq_add_of_le h
  rw[hk,List.range_add,List.filter_append]
  have:((List.range k).map (w.Stolen.length+·)).filter (kS w)=[]:=by
   rw[List.filter_eq_nil_iff]
   intro i hi
   obtain⟨j,_,rfl⟩:=bu.1 hi
   simp[kS]
  rw[this,cP]
def WOk.of {w:D.World}(h:w.sz<=1048576):WOk w:=by
 simp only[D.World.sz,D.aAE.sz] at h
 unfold WOk
 omega
def aHg (k:Int)(i:Nat)(z:Int):Int:=IntKind.u8.wrap ((z-bE k [(i:Int)])%256)
def Iq (k:Int)(b:List Int):List Int:=Im (λi z=>[aHg k i z]) 0 b
def aSv (x:Int):gJ (IntKind.i64.wrap x) 256=x%256:=by
 rw[gJ,cz (by omega),IntKind.wrap_i64];omega
def bDl (k:Int)(i:Nat)(z:Int):IntKind.u8.wrap (gJ (IntKind.i64.wrap (IntKind.i64.wrap z-bE k [(i:Int)])) 256)=aHg k i z:=by
 rw[aSv,aHg,IntKind.wrap_i64];congr 1;omega
def bDm (k:Int)(i:Nat)(z:Int):IntKind.u8.wrap (gJ (IntKind.i64.wrap (IntKind.i64.wrap z-(bE k [(i:Int)]).tmod 256)) 256)=aHg k i z:=by
 rw[aSv,aHg,IntKind.wrap_i64,co (kE _ _).1];congr 1;omega
def oW {α β:Type}{y:Nat->α->β}:∀{i:Nat} {l:List α},(Im (λi x=>[y i x]) i l).length=l.length
 |i,[]=>rfl
 |i,x::xs=>by simp[Im,oW]
def fH (p e:Int):Int:=aW p [163,e]
def La (k:Int)(b:D.Box):Int:=bE k ([167,b.To,b.Ephemeral]++tX b.Data)
def dY (p:Int)(b:D.Box):List Int×Bool:=
 bif !bG p||(b.To !=bU p||(!bG b.Ephemeral||decide ((b.Data.length:Int)>200))) then([],false)
 else bif b.MAC !=La (fH p b.Ephemeral) b then([],false) else(Iq (fH p b.Ephemeral) b.Data,true)
def eU:List D.Box->Int->List Int×Bool
 |[],_=>([],false)
 |b::bs,p=>bif (dY p b).2 then((dY p b).1,true) else eU bs p
def aT (b:List Int):Prop:=b.length<=34359738368/\b.all (λz=>decide (0<=z)&&decide (z<=255))=true
instance (b:List Int):Decidable (aT b):=inferInstanceAs (Decidable (_/\_))
def sJ {b:List Int}(h:aT b){i:Nat}(hi:i<b.length):0<=b[i]/\b[i]<=255:=by
 have:=cF.1 h.2 b[i] (cx hi)
 simpa using this
def uvG (b:List Int)(p:Nat):Nat->Nat->Int->Int×Int×Bool
 |0,_,_=>(0,0,false)
 |k+1,i,n=>
  if p+i<b.length then
   bif decide (b.getD (p+i) 0<128) then
    (bif (decide (0<i)&&b.getD (p+i) 0==0)||decide (n+b.getD (p+i) 0%128*128^i>1000000000000) then(0,0,false) else(n+b.getD (p+i) 0%128*128^i,((p+i+1:Nat):Int),true))
   else uvG b p k (i+1) (n+b.getD (p+i) 0%128*128^i)
  else(0,0,false)
def vN (b:List Int)(at_:Int):Int×Int×Bool:=if at_<0 then(0,0,false) else uvG b at_.toNat 6 0 0
def aQh {i:Nat}(h:i<=6):(1:Int)<=128^i/\(128:Int)^i<=4398046511104:=by
 match i,h with
 |0,_|1,_|2,_|3,_|4,_|5,_|6,_=>decide
def aQi {z n:Int}{i:Nat}(hi:i<=5)(hz:0<=z)(hn:0<=n)(hn':n<128^i):0<=n+z%128*128^i/\n+z%128*128^i<128^(i+1)/\0<=z%128*128^i/\z%128*128^i<=127*128^i:=by
 have hp:=aQh (i:=i) (by omega)
 have h1:0<=z%128*128^i:=jw (by omega) (by omega)
 have h2:z%128*128^i<=127*128^i:=Int.mul_le_mul_of_nonneg_right (by omega) (by omega)
 rw[eW]
 refine⟨by omega,by omega,h1,h2⟩
def bGj {z n:Int}{i:Nat}(hi:i<=5)(hz:0<=z)(hz':z<=255)(hn:0<=n)(hn':n<128^i):
  orI .i64 n (w9 .i64 (sF .i64 z 127) (IntKind.i64.wrap (7*(i:Int))))=n+z%128*128^i:=by
 obtain⟨m,rfl⟩:=ex hz
 obtain⟨q,rfl⟩:=ex hn
 have hp:=aQh (i:=i) (by omega)
 have hs:=aQi (z:=(m:Int)) (n:=(q:Int)) hi (by omega) (by omega) hn'
 have ha:sF .i64 (m:Int) 127=((m%128:Nat):Int):=by
  have e:((BitVec.ofInt 64 (m:Int))&&&(BitVec.ofInt 64 127)).toNat=m%128:=by
   rw[BitVec.toNat_and]
   have e1:(BitVec.ofInt 64 (m:Int)).toNat=m:=by
    rw[BitVec.toNat_ofInt];omega
   have e2:(BitVec.ofInt 64 127).toNat=2^7-1:=by decide
   rw[e1,e2,fS]
  show IntKind.i64.wrap (((BitVec.ofInt 64 (m:Int))&&&(BitVec.ofInt 64 127)).toNat:Int)=_
  rw[e];exact aJ (by omega) (by omega)
 have hw:IntKind.i64.wrap (7*(i:Int))=((7*i:Nat):Int):=by rw[aJ (by omega) (by omega)];omega
 have hpn:(2:Nat)^(7*i)=128^i:=by rw[Nat.pow_mul]
 have hpi:((128^i:Nat):Int)=(128:Int)^i:=by simp
 have hb:w9 .i64 (sF .i64 (m:Int) 127) (IntKind.i64.wrap (7*(i:Int)))=((m%128*128^i:Nat):Int):=by
  rw[ha,hw]
  unfold w9
  rw[bv,show min (7*i) IntKind.i64.bits=7*i from gO (by simp[IntKind.bits];omega)]
  have e3:((m%128:Nat):Int)*2^(7*i)=((m%128*128^i:Nat):Int):=by
   rw[<-hpn];simp
  rw[e3]
  have:((m%128*128^i:Nat):Int)=(m:Int)%128*128^i:=by simp
  rw[this]
  exact aJ (by omega) (by omega)
 rw[hb]
 have hqlt:q<128^i:=by rw[<-hpi] at hn';exact_mod_cast hn'
 have hor:(m%128*128^i)|||q=m%128*128^i+q:=by
  have:=jl (b:=q) (i:=7*i) (by rw[hpn];exact hqlt) (m%128)
  rw[Nat.shiftLeft_eq,hpn] at this
  exact this.symm
 have hle:m%128*128^i+q<2^63:=by
  have:((m%128*128^i+q:Nat):Int)=q+(m:Int)%128*128^i:=by simp;omega
  omega
 have e4:((BitVec.ofInt 64 (q:Int))|||(BitVec.ofInt 64 ((m%128*128^i:Nat):Int))).toNat=m%128*128^i+q:=by
  rw[BitVec.toNat_or]
  have e5:(BitVec.ofInt 64 (q:Int)).toNat=q:=by rw[BitVec.toNat_ofInt];omega
  have e6:(BitVec.ofInt 64 ((m%128*128^i:Nat):Int)).toNat=m%128*128^i:=by rw[BitVec.toNat_ofInt];omega
  rw[e5,e6,Nat.or_comm,hor]
 show IntKind.i64.wrap (((BitVec.ofInt 64 (q:Int))|||(BitVec.ofInt 64 ((m%128*128^i:Nat):Int))).toNat:Int)=_
 rw[e4,aJ (by omega) (by omega)]
 simp
 omega
def iZ (b:List Int):Nat->Int->List Int->List Int×Int×Bool
 |0,a,s=>(s,a,true)
 |k+1,a,s=>bif (vN b a).2.2 then iZ b k (vN b a).2.1 (s++[(vN b a).1]) else([],0,false)
def gN (b:List Int)(a c:Int):List Int×Int×Bool:=bif !bH c 0 100|| !bH a 0 b.length then([],0,false) else iZ b c.toNat a []
def aSw (b:List Int):∀(k:Nat) (a:Int) (s:List Int),(iZ b k a s).2.2=true->(iZ b k a s).1.length=s.length+k
 |0,a,s,_=>rfl
 |k+1,a,s,h=>by
  unfold iZ at h ⊢
  cases hu:(vN b a).2.2 with
  |false=>rw[hu] at h;simp at h
  |true=>
   rw[hu] at h
   simp only[ac] at h ⊢
   rw[aSw b k _ _ h];simp;omega
def decode_len {b:List Int}{a c:Int}(hc:0<=c)(h:(gN b a c).2.2=true):(gN b a c).1.length=c.toNat:=by
 unfold gN at h ⊢
 cases hx:(!bH c 0 100|| !bH a 0 b.length) with
 |true=>rw[hx] at h;simp at h
 |false=>
  rw[hx] at h
  simp only[ab] at h ⊢
  rw[aSw _ _ _ _ h];simp
def aQj {k:Int}{b:List Int}(h:b.length<=34359738368):aT (Iq k b):=by
 refine⟨by unfold Iq;rw[oW];exact h,?_⟩
 rw[cF]
 intro z hz
 have:∀(b:List Int) (i:Nat),z∈Im (λi z=>[aHg k i z]) i b->0<=z/\z<=255:=by
  intro b
  induction b with
  |nil=>intro i h;simp[Im] at h
  |cons x xs ih=>
   intro i h
   simp only[Im,bq,cg] at h
   rcases h with rfl|h
   ·have:=dJ .u8 ((x-bE k [(i:Int)])%256)
    simpa[aHg,IntKind.min,IntKind.max,IntKind.signed,IntKind.bits] using this
   ·exact ih _ h
 have:=this b 0 hz
 simp[this.1,this.2]
def aVm (p:Int)(b:D.Box):aT (dY p b).1:=by
 unfold dY
 have h0:aT ([]:List Int):=by decide
 by_cases hl:b.Data.length<=200
 ·cases(!bG p||(b.To !=bU p||(!bG b.Ephemeral||decide ((b.Data.length:Int)>200))))<;>cases(b.MAC !=La (fH p b.Ephemeral) b)<;>first|exact h0|exact aQj (by omega)
 ·have e1:decide ((b.Data.length:Int)>200)=true:=by simp;omega
  rw[e1];simpa using h0
def Vv (p:Int):∀bs,aT (eU bs p).1
 |[]=>show aT [] by decide
 |b::bs=>by
  unfold eU
  cases(dY p b).2 with
  |true=>exact aVm p b
  |false=>exact Vv p bs
def Fq (e:D.aAG)(x:List Int×Bool)(y:List Int×Int×Bool):Int×Bool:=
 bif !x.2||(!y.2.2||(y.2.1 !=(x.1.length:Int)||(y.1.getD 0 0 !=e.Epoch|| !bG (y.1.getD 1 0)))) then(0,false) else(y.1.getD 1 0,true)
def bA (s:D.aAH)(e:D.aAG):Int×Bool:=Fq e (eU e.Boxes (fF s)) (gN (eU e.Boxes (fF s)).1 0 2)
def and_one {n:Int}(h0:0<=n)(h1:n<9223372036854775808):sF .i64 n 1=n%2:=by
 obtain⟨m,rfl⟩:=ex h0
 have e:((BitVec.ofInt 64 (m:Int))&&&(BitVec.ofInt 64 1)).toNat=m%2:=by
  rw[BitVec.toNat_and]
  have e1:(BitVec.ofInt 64 (m:Int)).toNat=m:=by rw[BitVec.toNat_ofInt];omega
  have e2:(BitVec.ofInt 64 1).toNat=2^1-1:=by decide
  rw[e1,e2,fS]
 show IntKind.i64.wrap (((BitVec.ofInt 64 (m:Int))&&&(BitVec.ofInt 64 1)).toNat:Int)=_
 rw[e,aJ (by omega) (by omega)];omega
def aXx {n:Int}(h0:0<=n):Kj .i64 n 1=n/2:=by
 unfold Kj
 rw[show min (Int.toNat 1) IntKind.i64.bits=1 from by decide,gl _ (by decide)];rfl
def aZ9:Nat->Int->Int->Int->Int
 |0,_,_,s=>s
 |k+1,b,n,s=>if n>0 then aZ9 k ((IntKind.i64.wrap (b*b)).tmod 2147483647) (n/2) (bif n%2==1 then(IntKind.i64.wrap (s*b)).tmod 2147483647 else s) else s
def aXy:aZ9 31 48271 2147483645 1=1899818559:=by decide+kernel
def eG (q:Int):Int:=bif !bG q then 0 else q*1899818559%2147483647
def nW (p:Int)(l:List Int):Int:=bif !bG p then 0 else bE p ([139,(l.length:Int)]++l)
def eF (q:Int)(l:List Int)(g:Int):Bool:=eG q !=0&&nW (eG q) l==g
def Lb {α:Type}[Inhabited α]{l:List α}{i:Nat}(h0:0<i)(hi:i<l.length)(hl:l.length<=34359738368):bD l (IntKind.i64.wrap ((i:Int)-1))=some (l.getD (i-1) default):=by
 rw[aJ (by omega) (by omega),show(i:Int)-1=((i-1:Nat):Int) by omega,aN (by omega)]
 simp[List.getD,ae (show i-1<l.length by omega)]
def qZ (l:List D.aAO)(i:Nat)(n:D.aAO):Bool:= !bH n.Kind 1 5||(!bH n.Account 0 1000000||(!bH n.Time 0 1000000||(decide (0<i)&&decide ((l.getD (i-1) default).Time>n.Time))))
def gF (m:D.aAM):Bool:=decide (m.Notices.length<=30)&& !gW (qZ m.Notices) 0 m.Notices
def fI (b:D.aAB)(i:Nat)(n:D.aAI):Bool:= !bH n.Id 0 (IntKind.i64.wrap (b.Next-1))||((decide (0<i)&&decide ((b.Open.getD (i-1) default).Id>=n.Id))||(!bH n.Account 0 1000005|| !bH n.Until 0 1000005))
def dN (b:D.aAB):Bool:=bH b.Next 0 1000000&&decide (b.Open.length<=16)&& !gW (fI b) 0 b.Open
def rW (a:D.Account)(i:Nat)(n:D.aAL):Bool:=(!bH n.Handle 0 1000000||((decide (0<i)&&decide ((a.Credentials.getD (i-1) default).Handle>=n.Handle))||(eG n.Public==0|| !bH n.Counter 0 1000000)))||(a.Credentials.take i).any λq=>q.Public==n.Public
def aV (a:D.Account):Bool:=bH a.Id 0 1000000&&bH a.Minimum 1 3&&decide (a.Credentials.length<=8)&& !gW (rW a) 0 a.Credentials
def bZ (e:D.aAD):Int:=uE [229,e.Index,e.Kind,e.Device,e.By,e.Previous]
def fU (l:List D.aAD):Int:=bif (l.length:Int)==0 then 0 else bZ (l.getD (l.length-1) default)
def kY (l:List D.aAD)(e:D.aAD):Bool:=
 e.Index==(l.length:Int)&&(e.Previous==fU l&&((gH (aD l) e.By||((l.length:Int)==0&&e.By==e.Device))&&(eF e.By [bZ e] e.Signature&&
  (bif e.Kind==2 then gH (aD l) e.Device&&decide (((aD l).length:Int)>1) else !fG l e.Device&&(e.Kind==1&&(!gH (aD l) e.Device&&decide (((aD l).length:Int)<6)))))))
def bL (l:List D.aAD):Bool:=bH (l.length:Int) 1 40&& !gW (λi e=> !kY (l.take i) e) 0 l
def bDn {l:List Int}{x:Int}(h:gH l x=true):0<l.length:=by
 cases l with
 |nil=>simp[gH] at h
 |cons a r=>simp
def iH:List UInt8->List UInt8->List (List UInt8)
 |cur,[]=>[cur]
 |cur,b::r=>bif b==46 then cur::iH [] r else iH (cur++[b]) r
def bDo (s:List UInt8)(i:Nat):Lib.occAt s [46] i=decide (s[i]? =some 46):=by
 unfold Lib.occAt
 cases h:s.drop i with
 |nil=>
  have:s.length<=i:=List.drop_eq_nil_iff.1 h
  simp[df this,List.isPrefixOf]
 |cons b r=>
  have e:s[i]? =some b:=by
   have:=du (xs:=s) (i:=i) (j:=0)
   rw[h] at this;simpa using this.symm
  rw[e];simp only[List.isPrefixOf,gb,ai]
  rw[eL];simp only[cN,cb];exact eq_comm
def aHh:∀(a cur r:List UInt8),(∀b∈a,b≠46)->iH cur (a++46::r)=(cur++a)::iH [] r
 |[],cur,r,_=>by simp[iH]
 |b::a,cur,r,h=>by
  have hb:(b==46)=false:=by simpa using h b (by simp)
  rw[cH,iH,hb,ab,aHh a _ r (λx hx=>h x (cp _ hx))];simp
def aDm:∀(a cur:List UInt8),(∀b∈a,b≠46)->iH cur a=[cur++a]
 |[],cur,_=>by simp[iH]
 |b::a,cur,h=>by
  have hb:(b==46)=false:=by simpa using h b (by simp)
  rw[iH,hb,ab,aDm a _ (λx hx=>h x (cp _ hx))];simp
def aSx:∀(n:Nat) (s:List UInt8),s.length<n->Lib.splitK [46] 0 (Lib.count s [46]) s=iH [] s
 |0,s,h=>absurd h (Nat.not_lt_zero _)
 |n+1,s,h=>by
  rcases Lib.index_spec s [46] with⟨h1,h2⟩|⟨i,h1,h2,h3,h4⟩
  ·rw[Lib.count_miss h1,aDm s [] (λb hb e=>by
    obtain⟨j,hj,ej⟩:=List.getElem_of_mem hb
    have:=h2 j (by omega)
    rw[bDo,ae hj,ej,e] at this;simp at this)];rfl
  ·rw[bDo] at h3
   have h3:s[i]? =some 46:=by simpa using h3
   have hi:i<s.length:=by
    rcases fj i s.length with hlt|hge
    ·exact hlt
    ·rw[df hge] at h3;cases h3
   rw[Lib.count_hit (by simp) h1,Nat.add_comm,Lib.splitK,h1]
   have hne:((i:Int)== -1)=false:=by simp
   rw[hne]
   simp only[bv,en,au,bn,ce]
   rw[cR (by simp),aSx n (s.drop (i+1)) (by rw[ci];omega)]
   have es:s=s.take i++46::s.drop (i+1):=by
    have e2:s[i]=46:=by rw[ae hi] at h3;exact aj h3
    rw[<-e2,List.getElem_cons_drop hi,cL]
   conv=>rhs;rw[es]
   rw[aHh (s.take i) [] _ (λb hb e=>by
    obtain⟨j,hj,ej⟩:=List.getElem_of_mem hb
    rw[ca] at hj
    have:=h4 j (by omega)
    rw[bDo,ae (by omega)] at this
    rw[gq] at ej
    rw[ej,e] at this;simp at this)];simp
def bF (s:ByteArray):List ByteArray:=(iH [] s.data.toList).map λl=>⟨l.toArray⟩
def aHi (s:ByteArray):jO s ⟨#[46]⟩=bF s:=by
 have h1:(jO s ⟨#[46]⟩).map (·.data.toList)=iH [] s.data.toList:=by
  rw[jO,Lib.splitB_data];exact aSx _ _ (dk _)
 unfold bF
 rw[<-h1,gC]
 conv=>lhs;rw[<-List.map_id (jO s ⟨#[46]⟩)]
 congr 1
def G5 (b:Int):Bool:=bH b 97 122||bH b 48 57||b==45
def sK (s:ByteArray):Bool:=decide (1<=s.size)&&decide (s.size<=20)&& !((bP s).getD 0 0==45)&& !((bP s).getD (s.size-1) 0==45)&& !((bP s).any λb=> !G5 b)
def fJ (s:ByteArray):Bool:=decide (s.size<=60)&& !((bF s).any λl=> !sK l)
def iI (s:ByteArray):(bP s).length=s.size:=by simp only[bP,bl];rfl
def aSy {s:ByteArray}{i:Nat}(h:i<s.size):bD (bP s) (i:Int)=some ((bP s)[i]'(by rw[iI];exact h)):=aN _
def ext_list (s:ByteArray)(a b:Nat):s.extract a b=⟨((s.data.toList.drop a).take (b-a)).toArray⟩:=by
 apply ByteArray.ext
 apply jk.1
 rw[Lib.extract_data]
def Vw:∀(s cur:List UInt8),(iH cur s).length<=s.length+1
 |[],_=>by simp[iH]
 |b::r,cur=>by
  rw[iH]
  cases b==46 with
  |true=>have:=Vw r [];simp;omega
  |false=>have:=Vw r (cur++[b]);simp at this ⊢;omega
def Lc:∀(s cur:List UInt8) (l:List UInt8),l∈iH cur s->l.length<=cur.length+s.length
 |[],cur,l,h=>by simp[iH] at h;subst h;simp
 |b::r,cur,l,h=>by
  rw[iH] at h
  cases hb:b==46 with
  |true=>
   rw[hb,ac] at h
   rcases ax.1 h with rfl|h
   ·omega
   ·have:=Lc r [] l h;simp at this ⊢;omega
  |false=>rw[hb,ab] at h;have:=Lc r _ l h;simp at this ⊢;omega
def Ld (s:ByteArray):(bF s).length<=s.size+1:=by
 unfold bF;rw[bl];exact Vw _ _
def vO (s l:ByteArray)(h:l∈bF s):l.size<=s.size:=by
 unfold bF at h
 obtain⟨q,hq,rfl⟩:=bu.1 h
 have:=Lc _ _ q hq
 have h2:(⟨q.toArray⟩:ByteArray).size=q.length:=rfl
 have h3:s.data.toList.length=s.size:=rfl
 have h4:([]:List UInt8).length=0:=rfl
 omega
def bLm (z:ByteArray):(z.toList==(⟨#[]⟩:ByteArray).toList)=decide (z.size=0):=by
 rw[ByteArray.toList_eq,ByteArray.toList_eq,eL]
 simp only[cN,cb]
 constructor
 ·intro h
  show z.data.size=0
  rw[<-cQ,h];rfl
 ·intro h
  exact bp h
def vP:∀(s cur:List UInt8),(iH cur s).length=s.countP (·==46)+1
 |[],_=>rfl
 |b::r,cur=>by
  rw[iH,List.countP_cons]
  cases b==46 with
  |true=>rw[ac,au,vP r []];simp
  |false=>rw[ab,vP r _];simp
def aDn (s:ByteArray):0<(bF s).length:=by
 unfold bF;rw[bl,vP];omega
def Qh (s:ByteArray):Bool:=(bP s).any λb=>b==46
def aLx (s:ByteArray):Qh s=decide (2<=(bF s).length):=by
 unfold Qh bF bP
 rw[bl,vP,List.any_map]
 have e:(λb:Int=>b==46)∘(λb:UInt8=>(b.toNat:Int))=λb:UInt8=>b==46:=by
  funext b
  rw[eL]
  simp only[Function.comp,cN]
  constructor
  ·intro q;apply UInt8.toNat_inj.1;show _=46;omega
  ·intro q;rw[q];rfl
 rw[e,eL,fY,cb]
 have:=List.countP_pos_iff (p:=λb:UInt8=>b==46) (l:=s.data.toList)
 constructor
 ·intro h;have:=this.2 h;omega
 ·intro h;exact this.1 (by omega)
def bAa (s:ByteArray):ByteArray:=bif fJ s then(bif (bF s).length==1 then s else nS ⟨#[46]⟩ ((bF s).drop ((bF s).length-2))) else⟨#[]⟩
def bH0 {l:List ByteArray}(h:2<=l.length):∃a∈l,∃b∈l,nS ⟨#[46]⟩ (l.drop (l.length-2))=a++⟨#[46]⟩++b:=by
 have hl:(l.drop (l.length-2)).length=2:=by rw[ci];omega
 match hm:l.drop (l.length-2),hl with
 |[a,b],_=>
  refine⟨a,cU (i:=l.length-2) (by rw[hm];simp),b,cU (i:=l.length-2) (by rw[hm];simp),?_⟩
  rw[show[a,b]=[a]++[b] from rfl,bFn _ _ _ (by simp),bFm]
def Lg {s:ByteArray}(h:fJ s=true):s.size<=60/\0<s.size:=by
 unfold fJ at h
 rw[aa,cb] at h
 refine⟨h.1,Nat.pos_of_ne_zero λe=> ?_⟩
 have e2:s.data.toList=[]:=bp e
 have e3:bF s=[⟨#[]⟩]:=by unfold bF;rw[e2];rfl
 rw[e3] at h
 exact absurd h.2 (by decide)
def bGk {s:ByteArray}(h:fJ s=true):decide ((bAa s).size=0)=false:=by
 have hs:=Lg h
 have hp:=aDn s
 unfold bAa
 rw[h,ac]
 refine ap ?_
 cases h1:(bF s).length==1 with
 |true=>rw[ac];omega
 |false=>
  rw[ab]
  have:(bF s).length≠1:=by simpa using h1
  obtain⟨a,_,b,_,e⟩:=bH0 (l:=bF s) (by omega)
  rw[e,ByteArray.size_append,ByteArray.size_append]
  have:(⟨#[46]⟩:ByteArray).size=1:=rfl
  omega
def iO (s:ByteArray)(seed:Int):Bool:=fJ s&&decide (2<=(bF s).length)&&bG seed
def Fs (l:List D.Account)(i:Nat)(n:D.Account):Bool:= !aV n||(decide (0<i)&&decide ((l.getD (i-1) default).Id>=n.Id))
def bR (s:D.Site):Bool:=iO s.Name s.Book.Seed&&decide (s.Accounts.length<=8)&&dN s.Book&& !gW (Fs s.Accounts) 0 s.Accounts
def SOk (s:D.Site):Prop:=s.Name.size<=34359738368/\s.Accounts.length<=34359738368/\s.Book.Open.length<=34359738368/\∀a∈s.Accounts,a.Credentials.length<=34359738368
instance (s:D.Site):Decidable (SOk s):=inferInstanceAs (Decidable (_/\_))
def dZ (name:ByteArray)(seed:Int):D.Site:=bif iO name seed then⟨name,[],⟨seed,0,[]⟩,[]⟩ else⟨⟨#[]⟩,[],⟨0,0,[]⟩,[]⟩
def aVn (name:ByteArray)(seed:Int):decide ((dZ name seed).Name.size=0)= !iO name seed:=by
 unfold dZ
 cases h:iO name seed with
 |false=>rfl
 |true=>
  have:fJ name=true:=by unfold iO at h;rw[aa,aa] at h;exact h.1.1
  have:=Lg this
  exact ap (by show ¬name.size=0;omega)
def aA (i:Int):ByteArray:=bif i==0 then⟨#[98,97,110,107,46,99,111,109]⟩ else bif i==1 then⟨#[115,104,111,112,46,111,114,103]⟩ else⟨#[]⟩
def kJ (i:Nat)(s:D.Site):Bool:= !bR s|| !(s.Name.toList==(aA (i:Int)).toList)
def aU (w:D.World):Bool:=bH w.Now 0 999900&&bH (w.Devices.length:Int) 1 6&&(w.Stolen.length:Int)==(w.Devices.length:Int)&&(w.Sites.length:Int)==2&&gF w.Mail&&bL w.aAE.Log&&bG w.Seed&& !gW kJ 0 w.Sites
def bJ2 (w:D.World):Prop:=WOk w/\w.Mail.Notices.length<=34359738368/\w.Hosts.length<=34359738368/\∀s∈w.Sites,SOk s
instance (w:D.World):Decidable (bJ2 w):=inferInstanceAs (Decidable (_/\_))
def aVo {α:Type}{g:α->Nat}{x:α}:∀{l:List α},x∈l->g x<=(l.map g).sum
 |y::r,h=>by
  rw[bo,dz]
  rcases ax.1 h with rfl|h
  ·omega
  ·have:=aVo (g:=g) h;omega
def SOk.of {s:D.Site}(h:s.sz<=1048576):SOk s:=by
 simp only[D.Site.sz] at h
 refine⟨by omega,by omega,by omega,λa ha=> ?_⟩
 have:=aVo (g:=D.Account.sz) ha
 simp only[D.Account.sz] at this h
 omega
def bJ2.of {w:D.World}(h:w.sz<=1048576):bJ2 w:=by
 refine⟨WOk.of h,?_,?_,λs hs=>SOk.of ?_⟩
 ·simp only[D.World.sz] at h;omega
 ·simp only[D.World.sz] at h;omega
 ·have:=aVo (g:=D.Site.sz) hs
  simp only[D.World.sz] at h;omega
abbrev nX (a:List Int)(r:List (List Int)):Prop:=a.length+r.flatten.length<=68719476736/\r.length<=1099511627776
def jP (w:D.World)(i:Int):Bool:=decide (0<=i)&&decide (i<w.Sites.length)
def dI (a b:D.Entry):Bool:=decide (a.Site<b.Site)||(a.Site==b.Site&&decide (a.Handle<b.Handle))
def sM (a:D.Entry)(s h:Int):Bool:=decide (a.Site<s)||(a.Site==s&&decide (a.Handle<h))
def mV (x e:D.Entry):Bool:=decide (x.Version>e.Version)||(x.Version==e.Version&&x.Deleted)
def lT (e x:D.Entry):D.Entry:=bif mV x e then x else e
def aX:List D.Entry->List D.Entry->List D.Entry
 |[],bs=>bs
 |a::xs,[]=>a::xs
 |a::xs,b::bs=>bif dI a b then a::aX xs (b::bs) else bif dI b a then b::aX (a::xs) bs else lT a b::aX xs bs
termination_by xs bs=>xs.length+bs.length
def aHj (l:List D.Entry)(i:Nat)(e:D.Entry):Bool:= !bH e.Site 0 2147483646||(!bH e.Handle 0 1000000||(!bH e.Version 1 1000000||(decide ((i:Int)>0)&& !dI (l.getD (i-1) default) e)))
def aM (b:D.aAC):Bool:=decide ((b.Entries.length:Int)<=20)&& !gW (aHj b.Entries) 0 b.Entries
def fB (a b:D.aAC):D.aAC×Bool:=bif aM a&&aM b then(bif aM ⟨aX a.Entries b.Entries⟩ then(⟨aX a.Entries b.Entries⟩,true) else(a,false)) else(a,false)
def vQ (b:D.aAC)(x:D.Entry):D.aAC:=bif decide (aG b x.Site x.Handle>=0) then⟨b.Entries.set (aG b x.Site x.Handle).toNat x⟩ else⟨b.Entries.takeWhile (λe=>sM e x.Site x.Handle)++[x]++b.Entries.dropWhile (λe=>sM e x.Site x.Handle)⟩
def nY {a b:D.Entry}:dI a b=true↔a.Site<b.Site\/(a.Site=b.Site/\a.Handle<b.Handle):=by
 simp[dI]
def aVp {a x:D.Entry}:sM a x.Site x.Handle=dI a x:=rfl
def lU {a b c:D.Entry}(h:dI a b=true)(k:dI b c=true):dI a c=true:=by
 rw[nY] at*;omega
def wI {a b:D.Entry}(h:dI a b=false)(k:dI b a=false):a.Site=b.Site/\a.Handle=b.Handle:=by
 have h1:¬(a.Site<b.Site\/(a.Site=b.Site/\a.Handle<b.Handle)):=λq=>by rw[nY.2 q] at h;cases h
 have h2:¬(b.Site<a.Site\/(b.Site=a.Site/\b.Handle<a.Handle)):=λq=>by rw[nY.2 q] at k;cases k
 omega
def Bj {a b c:D.Entry}(h:a.Site=b.Site/\a.Handle=b.Handle):dI a c=dI b c:=by
 unfold dI;rw[h.1,h.2]
def aVq {a b c:D.Entry}(h:a.Site=b.Site/\a.Handle=b.Handle):dI c a=dI c b:=by
 unfold dI;rw[h.1,h.2]
def G6 {a b:D.Entry}(h:a.Site=b.Site/\a.Handle=b.Handle):(lT a b).Site=b.Site/\(lT a b).Handle=b.Handle:=by
 unfold lT
 cases mV b a
 ·exact h
 ·exact⟨rfl,rfl⟩
def aXz (a b:D.Entry):lT a b=a\/lT a b=b:=by
 unfold lT
 cases mV b a
 ·exact .inl rfl
 ·exact .inr rfl
def dP (l:List D.Entry):aX l []=l:=by cases l<;>rw[aX]
def gT (l:List D.Entry):aX [] l=l:=by rw[aX]
def vV:∀(n:Nat) (a b:List D.Entry),a.length+b.length<=n->(aX a b).length<=a.length+b.length
 |_,[],b,_=>by rw[gT];simp
 |_,a::xs,[],_=>by rw[dP];simp
 |0,a::xs,b::bs,h=>by simp at h
 |n+1,a::xs,b::bs,h=>by
  simp only[au] at h
  rw[aX]
  cases dI a b with
  |true=>have:=vV n xs (b::bs) (by simp only[au];omega);simp only[ac,au] at*;omega
  |false=>
   cases dI b a with
   |true=>have:=vV n (a::xs) bs (by simp only[au];omega);simp only[ab,ac,au] at*;omega
   |false=>have:=vV n xs bs (by omega);simp only[ab,au] at*;omega
def rA (a b:D.Entry)(xs bs:List D.Entry):aX (a::xs) (b::bs)=bif dI a b then a::aX xs (b::bs) else bif dI b a then b::aX (a::xs) bs else lT a b::aX xs bs:=by rw[aX]
def Qs (l:List D.Entry):Prop:=l.Pairwise λa b=>dI a b=true
def aOi:∀(A:List D.Entry) {b:D.Entry} {bs:List D.Entry},Qs (b::bs)->aX (aX A [b]) bs=aX A (b::bs)
 |[],b,bs,h=>by
  rw[gT,gT]
  cases bs with
  |nil=>rw[dP]
  |cons c cs=>rw[aX,(cj.1 h).1 c (by simp),ac,gT]
 |a::xs,b,bs,h=>by
  have hc:=(cj.1 h).1
  rw[rA a b xs [],rA a b xs bs]
  cases h1:dI a b with
  |true=>
   simp only[ac]
   cases bs with
   |nil=>rw[dP]
   |cons c cs=>rw[aX,lU h1 (hc c (by simp)),ac,aOi xs h]
  |false=>
   cases h2:dI b a with
   |true=>
    simp only[ac,ab]
    rw[dP]
    cases bs with
    |nil=>rw[dP,dP]
    |cons c cs=>rw[aX,hc c (by simp),ac]
   |false=>
    simp only[ab]
    rw[dP]
    cases bs with
    |nil=>rw[dP,dP]
    |cons c cs=>rw[aX,Bj (G6 (wI h1 h2)),hc c (by simp),ac]
def aX0:∀{l:List D.Entry} {x y:D.Entry},y∈aX l [x]->y∈l\/y=x
 |[],x,y,h=>by rw[gT] at h;simp at h;exact .inr h
 |a::xs,x,y,h=>by
  rw[aX] at h
  cases h1:dI a x with
  |true=>
   rw[h1,ac] at h
   rcases ax.1 h with rfl|h
   ·exact .inl (by simp)
   ·exact(aX0 h).imp (λh=>by simp[h]) id
  |false=>
   rw[h1,ab] at h
   cases h2:dI x a with
   |true=>
    rw[h2,ac,dP] at h
    rcases ax.1 h with rfl|h
    ·exact .inr rfl
    ·exact .inl h
   |false=>
    rw[h2,ab,dP] at h
    rcases ax.1 h with rfl|h
    ·rcases aXz a x with e|e
     ·rw[e];exact .inl (by simp)
     ·exact .inr e
    ·exact .inl (by simp[h])
def aX1:∀{l:List D.Entry} {x:D.Entry},Qs l->Qs (aX l [x])
 |[],x,h=>by rw[gT];exact gy _ _
 |a::xs,x,h=>by
  obtain⟨ha,hs⟩:=cj.1 h
  rw[aX]
  cases h1:dI a x with
  |true=>
   rw[ac]
   refine cj.2 ⟨λy hy=> ?_,aX1 hs⟩
   rcases aX0 hy with hy|rfl
   ·exact ha y hy
   ·exact h1
  |false=>
   cases h2:dI x a with
   |true=>
    rw[ab,ac,dP]
    refine cj.2 ⟨λy hy=> ?_,h⟩
    rcases ax.1 hy with rfl|hy
    ·exact h2
    ·exact lU h2 (ha y hy)
   |false=>
    rw[ab,ab,dP]
    have hk:=wI h1 h2
    refine cj.2 ⟨λy hy=> ?_,hs⟩
    rw[Bj (G6 hk),<-Bj hk];exact ha y hy
def aHk:∀(B A:List D.Entry),Qs B->B.foldl (λo x=>aX o [x]) A=aX A B
 |[],A,_=>by rw[dP];rfl
 |b::bs,A,h=>by rw[cV,aHk bs _ (cj.1 h).2,aOi A h]
def Lh {α:Type}{p:α->Bool}:∀{l:List α} {i:Nat},iF p i l<0->∀y∈l,p y=false
 |[],i,_,y,hy=>by simp at hy
 |x::l,i,h,y,hy=>by
  simp only[iF] at h
  cases hp:p x with
  |true=>rw[hp,ac] at h;omega
  |false=>
   rw[hp,ab] at h
   rcases ax.1 hy with rfl|hy
   ·exact hp
   ·exact Lh h y hy
def Qi {α:Type}{p:α->Bool}:∀{l:List α} {i:Nat},0<=iF p i l->∃l1 e l2,l=l1++e::l2/\p e=true/\iF p i l=((i+l1.length:Nat):Int)
 |[],i,h=>by simp[iF] at h
 |x::l,i,h=>by
  simp only[iF] at h ⊢
  cases hp:p x with
  |true=>exact⟨[],x,l,rfl,hp,by simp⟩
  |false=>
   rw[hp,ab] at h
   obtain⟨l1,e,l2,h1,h2,h3⟩:=Qi h
   exact⟨x::l1,e,l2,by rw[h1];rfl,h2,by rw[ab,h3];simp only[au];omega⟩
def aX2:∀{l:List D.Entry} {x:D.Entry},(∀y∈l,(y.Site==x.Site&&y.Handle==x.Handle)=false)->aX l [x]=l.takeWhile (λe=>sM e x.Site x.Handle)++[x]++l.dropWhile (λe=>sM e x.Site x.Handle)
 |[],x,_=>by rw[gT];rfl
 |a::xs,x,h=>by
  rw[aX,dm,List.dropWhile_cons,aVp]
  cases h1:dI a x with
  |true=>simp only[ac,io];rw[aX2 (λy hy=>h y (by simp[hy]))];rfl
  |false=>
   cases h2:dI x a with
   |true=>simp only[ab,ac];rw[dP];rfl
   |false=>
    have:=wI h1 h2
    have:=h a (by simp)
    simp_all
def aX3 {e x:D.Entry}{l2:List D.Entry}(he:(e.Site==x.Site&&e.Handle==x.Handle)=true):∀{l1:List D.Entry},Qs (l1++e::l2)->aX (l1++e::l2) [x]=l1++lT e x::l2
 |[],_=>by
  have hk:e.Site=x.Site/\e.Handle=x.Handle:=by simpa using he
  have h1:dI e x=false:=by
   cases h:dI e x with
   |false=>rfl
   |true=>rw[nY] at h;omega
  have h2:dI x e=false:=by
   cases h:dI x e with
   |false=>rfl
   |true=>rw[nY] at h;omega
  rw[bm,aX,h1,ab,h2,ab,dP];rfl
 |a::l1,h=>by
  obtain⟨ha,hs⟩:=cj.1 h
  have hk:e.Site=x.Site/\e.Handle=x.Handle:=by simpa using he
  have h1:dI a x=true:=by rw[<-aVq hk];exact ha e (by simp)
  rw[cH,aX,h1,ac,aX3 he hs];rfl
def aSz {l:List D.Entry}{x:D.Entry}(h:Qs l):(bif (decide (aG ⟨l⟩ x.Site x.Handle<0)||mV x (l.getD (aG ⟨l⟩ x.Site x.Handle).toNat default)) then(vQ ⟨l⟩ x).Entries else l)=aX l [x]:=by
 unfold vQ
 by_cases hf:aG ⟨l⟩ x.Site x.Handle<0
 ·rw[ao hf,jb,ac,show decide (aG ⟨l⟩ x.Site x.Handle>=0)=false from ap (by omega),ab]
  exact(aX2 (Lh hf)).symm
 ·obtain⟨l1,e,l2,h1,h2,h3⟩:=Qi (show 0<=iF (λe=>e.Site==x.Site&&e.Handle==x.Handle) 0 l from by unfold aG at hf;simp only at hf;omega)
  have h3':aG ⟨l⟩ x.Site x.Handle=(l1.length:Int):=by unfold aG;rw[h3];simp
  rw[h3',ap (by omega),cC,show decide ((l1.length:Int)>=0)=true from ao (by omega),ac,bv]
  subst h1
  rw[aX3 h2 h]
  have g:(l1++e::l2).getD l1.length default=e:=by simp[List.getD]
  have st:(l1++e::l2).set l1.length x=l1++x::l2:=by simp
  rw[g]
  show(bif mV x e then(l1++e::l2).set l1.length x else l1++e::l2)=_
  rw[st]
  unfold lT
  cases mV x e<;>rfl
def aX4 {α:Type}{p:Nat->α->Bool}:∀{l:List α} {j:Nat},gW p j l=false->∀(i:Nat) (hi:i<l.length),p (j+i) l[i]=false
 |[],j,_,i,hi=>by simp at hi
 |x::l,j,h,i,hi=>by
  simp only[gW,cl] at h
  cases i with
  |zero=>exact h.1
  |succ i=>have:=aX4 h.2 i (by simpa using hi);rw[show j+(i+1)=j+1+i by omega];exact this
def aHl {b:D.aAC}(h:aM b=true):b.Entries.length<=20/\Qs b.Entries:=by
 simp only[aM,aa,cb,cE] at h
 refine⟨by omega,?_⟩
 have adj:∀i (hi:i+1<b.Entries.length),dI b.Entries[i] b.Entries[i+1]=true:=λi hi=>by
  have:=aX4 h.2 (i+1) hi
  simp only[aHj,cl,ce] at this
  have h4:=this.2.2.2
  rw[ao (by omega),cA] at h4
  have h5:(b.Entries.getD (i+1-1) default)=b.Entries[i]:=by rw[Nat.add_sub_cancel,List.getD,ae (by omega),cu]
  rw[h5] at h4;simpa using h4
 have far:∀d i (hi:i+d+1<b.Entries.length),dI b.Entries[i] b.Entries[i+d+1]=true:=λd=>by
  induction d with
  |zero=>exact λi hi=>adj i hi
  |succ d ih=>exact λi hi=>lU (ih i (by omega)) (adj (i+d+1) (by omega))
 refine ee.2 λi j hi hj hij=> ?_
 obtain⟨d,rfl⟩:∃d,j=i+d+1:=⟨j-i-1,by omega⟩
 exact far d i hj
def fK {α β:Type}{s:List α}(hs:s.length<=34359738368)(x:α)(k:Option β):gd (aS s [x]) k=k:=aB (by unfold aS;simp only[cW];omega)
def lV {α β:Type}{s:List α}(hs:s.length<=34359738368)(k:Option β):gd (aS [] s) k=k:=aB (by unfold aS;simp only[bn];omega)
def aS0 {α:Type}{l s:List α}:l.foldl (λs x=>s++[x]) s=s++l:=by
 have:=aAp (f:=λx:α=>[x]) (l:=l) (s:=s)
 rw[this];congr 1
 induction l with
 |nil=>rfl
 |cons x l ih=>simp[ih]
def G7 {α:Type}{l:List α}{F:(Nat×List α->Option (List α))->Nat×List α->Option (List α)}(hl:l.length<=34359738368)
  (hF:∀rec i s (hi:i<l.length),s.length<=34359738368->F rec (i,s)=rec (i+1,s++[l[i]])) (hE:∀rec s,F rec (l.length,s)=some s):EV.cB FUEL F (0,[])=some l:=by
 rw[aOg (l:=l) (λs x=>s++[x]) (λi s=>s.length=i) (λs=>some s) (by omega) rfl (λi s hi hv=>by simp;omega) (λrec i s hi hv=>hF rec i s hi (by omega)) (λrec s _=>hE rec s),aS0,bm]
def bDp {α:Type}{l:List α}{F:(List α×Nat->Option (List α))->List α×Nat->Option (List α)}(hl:l.length<=34359738368)
  (hF:∀rec i s (hi:i<l.length),s.length<=34359738368->F rec (s,i)=rec (s++[l[i]],i+1)) (hE:∀rec s,F rec (s,l.length)=some s):EV.cB FUEL F ([],0)=some l:=by
 rw[eT (l:=l) (λs x=>s++[x]) (λi s=>s.length=i) (λs=>some s) (by omega) rfl (λi s hi hv=>by simp;omega) (λrec i s hi hv=>hF rec i s hi (by omega)) (λrec s _=>hE rec s),aS0,bm]
abbrev szL {α:Type}(f:α->Nat)(l:List α):Nat:=l.length+(l.map f).sum
def iP {S τ:Type}{F:(S->Option τ)->S->Option τ}{n:Nat}{s:S}:EV.cB (n+1) F s=F (EV.cB n F) s:=rfl
def kZ {α:Type}{c:Bool}{x y:α}:(bif c then some x else some y)=some (bif c then x else y):=by cases c<;>rfl
def wJ {c d:Bool}:(bif c then some true else some d)=some (c||d):=by cases c<;>rfl
def aS2 {α:Type}[Inhabited α]{l:List α}{i:Nat}(h:i<l.length):l.set i (l.getD i default)=l:=by
 rw[List.getD,ae h];simp
def bN9 {α β:Type}{l:List α}(f:α->β){F:(List β×Nat->Option (List β))->List β×Nat->Option (List β)}(hl:l.length<=34359738368)
  (hF:∀rec i s (hi:i<l.length),s.length<=34359738368->F rec (s,i)=rec (s++[f l[i]],i+1)) (hE:∀rec s,F rec (s,l.length)=some s):EV.cB FUEL F ([],0)=some (l.map f):=by
 rw[eT (l:=l) (λs x=>s++[f x]) (λi s=>s.length=i) (λs=>some s) (by omega) rfl (λi s hi hv=>by simp;omega) (λrec i s hi hv=>hF rec i s hi (by omega)) (λrec s _=>hE rec s),aAq,bm]
def bH1 {α β:Type}{l:List α}(f:α->β){s0:List β}{F:(List β×Nat->Option (List β))->List β×Nat->Option (List β)}(hl:s0.length+l.length<=34359738368)
  (hF:∀rec i s (hi:i<l.length),s.length<=34359738368->F rec (s,i)=rec (s++[f l[i]],i+1)) (hE:∀rec s,F rec (s,l.length)=some s):EV.cB FUEL F (s0,0)=some (s0++l.map f):=by
 rw[eT (l:=l) (λs x=>s++[f x]) (λi s=>s.length=s0.length+i) (λs=>some s) (by omega) (by simp) (λi s hi hv=>by simp;omega) (λrec i s hi hv=>hF rec i s hi (by omega)) (λrec s _=>hE rec s),aAq]
def aOj (h:D.aAF)(b:Int):D.aAF×Bool:=bif decide (b<0)||decide (b>=(h.Saved.length:Int)) then(h,false) else(⟨h.Saved.getD (h.Saved.length-1-b.toNat) default,h.Saved,h.Monotonic⟩,true)
def aVr (w:D.World)(i b:Int):D.World×Bool:=bif !aU w||(decide (i<0)||decide (i>=(w.Hosts.length:Int))) then(w,false) else bif (aOj (w.Hosts.getD i.toNat default) b).2 then({w with Hosts:=w.Hosts.set i.toNat (aOj (w.Hosts.getD i.toNat default) b).1},true) else(w,false)
def bGl {i:Int}{n:Nat}(h:n<=34359738368):(!bH i 0 (IntKind.i64.wrap ((n:Int)-1)))=(decide (i<0)||decide (i>=(n:Int))):=by
 rw[aJ (by omega) (by omega)]
 unfold bH
 by_cases h0:i<0
 ·rw[ao h0,ap (show ¬0<=i by omega)];rfl
 ·rw[ap h0,ao (show 0<=i by omega)]
  by_cases h1:i>=(n:Int)
  ·rw[ao h1,ap (show ¬i<=(n:Int)-1 by omega)];rfl
  ·rw[ap h1,ao (show i<=(n:Int)-1 by omega)];rfl
def sN {α:Type}[Inhabited α]{l:List α}{i:Int}(h0:0<=i)(h1:i<(l.length:Int)):bD l i=some (l.getD i.toNat default):=by
 rw[Eo h0 (by omega)];simp[List.getD,ae (show i.toNat<l.length by omega)]
def aQk {i:Int}{n:Nat}(h:(decide (i<0)||decide (i>=(n:Int)))=false):0<=i/\i<(n:Int):=by
 simp only[cl,dh] at h;omega
def Fu {α:Type}[Inhabited α]{f:α->Nat}{l:List α}{i:Nat}(h:i<l.length):f (l.getD i default)<=(l.map f).sum:=by
 rw[List.getD,ae h];exact iY h
def bOa (l:List D.aAQ)(i:Nat)(s:D.aAQ):Bool:= !bH s.Index 1 7||(!bH s.Value 0 1018||(l.take i).any λq=>q.Index==s.Index)
def bJ3 (l:List D.aAQ):Bool:=bH (l.length:Int) 1 7&& !gW (bOa l) 0 l
def aHm (x:Int)(z v:Int):Int:=(IntKind.i64.wrap (IntKind.i64.wrap (v+gJ z 1019)*x)).tmod 1019
def Li (c:Int)(l:List Int)(x:Int):Int:=(l.foldr (aHm x) 0+gJ c 1019)%1019
def bJ4 (c:List Int)(s:D.aAQ):D.aAQ:=⟨s.Index,(IntKind.i64.wrap (s.Value+Li 0 c s.Index)).tmod 1019⟩
def bDq (l:List D.aAQ)(c:List Int):List D.aAQ:=bif bJ3 l then l.map (bJ4 c) else[]
def cS (l:List D.aAQ)(i:Nat)(k:Int):Bool:=(l.take i).any λq=>q.Index==k
def aS3 {x z v:Int}(hx:0<=x/\x<=1000)(hv:0<=v/\v<1019):0<=aHm x z v/\aHm x z v<1019:=by
 have hm:=vZ (p:=z) (q:=1019) (by omega)
 unfold aHm
 generalize gJ z 1019=m at*
 have e1:IntKind.i64.wrap (v+m)=v+m:=aJ (by omega) (by omega)
 have h2:0<=(v+m)*x:=jw (by omega) hx.1
 have h3:(v+m)*x<=3000*1000:=Int.mul_le_mul (by omega) hx.2 hx.1 (by omega)
 rw[e1,aJ (by omega) (by omega)]
 exact⟨e8 _ h2,eV _ (by omega)⟩
def aHn {x:Int}(hx:0<=x/\x<=1000):∀l:List Int,0<=l.foldr (aHm x) 0/\l.foldr (aHm x) 0<1019
 |[]=>by simp
 |z::l=>aS3 hx (aHn hx l)
def bDr {σ τ:Type}{l:List Int}(g:Int->σ->σ){s0:σ}(fin:σ->Option τ){F:(σ×Int->Option τ)->σ×Int->Option τ}(hl:l.length<=34359738368)
  (hF:∀rec s i (hi:i<l.length),F rec (s,(i:Int))=rec (g l[i] s,(i:Int)-1)) (hE:∀rec s,F rec (s,-1)=fin s) {n0:Int} (hn:n0=(l.length:Int)-1):EV.cB FUEL F (s0,n0)=fin (l.foldr g s0):=by
 subst hn
 refine aHf (λk s=>k<=l.length/\s=((l.drop (l.length-k)).foldr g s0,(l.length:Int)-1-k)) l.length _ (by omega) ⟨by omega,by simp⟩ (λk s rec hk hv=> ?_) (λs rec hv=> ?_)
 ·obtain⟨_,rfl⟩:=hv
  refine .inl ⟨_,⟨hk,rfl⟩,?_⟩
  have e:(l.length:Int)-1-k=((l.length-1-k:Nat):Int):=by omega
  have e2:l.length-(k+1)=l.length-1-k:=by omega
  have hi:l.length-1-k<l.length:=by omega
  rw[e,hF rec _ _ hi,e2,cn hi,List.foldr_cons,show l.length-1-k+1=l.length-k by omega]
  congr 2;omega
 ·obtain⟨_,rfl⟩:=hv
  simp only[fw,fh]
  rw[show(l.length:Int)-1-(l.length:Int)= -1 by omega,hE]
def bJ5 {c d:Bool}:(bif c then some d else some false)=some (c&&d):=by cases c<;>rfl
def aOk (k:D.aAR):Bool:=bJ3 [k.aAQ]&&(bH k.Epoch 0 1000000&&(bH k.Limit 1 10&&bH k.Guesses 0 k.Limit))
def bDs (h:D.aAF)(s:D.aAQ):Bool:= !aOk h.State||(decide (Ky h.State<h.Monotonic)||(h.State.Epoch==1000000||(s.Index !=h.State.aAQ.Index|| !bJ3 [s])))
def bJ6 (h:D.aAF)(s:D.aAQ):D.aAF:=⟨⟨s,IntKind.i64.wrap (h.State.Epoch+1),0,h.State.Limit⟩,h.Saved,Ky ⟨s,IntKind.i64.wrap (h.State.Epoch+1),0,h.State.Limit⟩⟩
def bJ7 (hs:List D.aAF)(ss:List D.aAQ):List D.aAF×Bool:=bif ((ss.length:Int)==0)||(hs.zip ss).any (λp=>bDs p.1 p.2) then(hs,false) else(List.zipWith bJ6 hs ss,true)
def aDo (hs:List D.aAF)(c:List Int):List D.aAF×Bool:=bJ7 hs (bDq (hs.map λh=>h.State.aAQ) c)
def aX5 (w:D.World):Nat->Int->List Int
 |0,_=>[]
 |n+1,k=>bif decide (k<w.aAP.Threshold)&&decide (k<=7) then aW w.Seed [317,w.Now,k]::aX5 w n (k+1) else[]
def bH2 (w:D.World):List Int:=aX5 w 8 1
def aS4 (w:D.World):D.World×Bool:=bif aU w&&(aDo w.Hosts (bH2 w)).2 then({w with Hosts:=(aDo w.Hosts (bH2 w)).1},true) else(w,false)
def bAb (w:D.World):∀(n:Nat) (k:Int),(aX5 w n k).length<=n
 |0,_=>ak _
 |n+1,k=>by
  unfold aX5
  cases(decide (k<w.aAP.Threshold)&&decide (k<=7)) with
  |true=>have:=bAb w n (k+1);simp only[ac,au];omega
  |false=>simp
def bGm (b:D.aAC)(s h:Int):Int:=bif decide (aG b s h>=0) then IntKind.i64.wrap ((b.Entries.getD (aG b s h).toNat default).Version+1) else 1
def Vx (b:D.aAC)(s h:Int):D.Entry:=⟨s,h,bGm b s h,false⟩
def aLy (b:D.aAC)(s h:Int):D.aAC×Bool:=bif !(decide (aG b s h>=0)&& !(b.Entries.getD (aG b s h).toNat default).Deleted)&&(aM b&&aM (vQ b (Vx b s h))) then(vQ b (Vx b s h),true) else(b,false)
def bAc (b:D.aAC)(s h:Int):D.Entry:=⟨s,h,IntKind.i64.wrap ((b.Entries.getD (aG b s h).toNat default).Version+1),true⟩
def aLz (b:D.aAC)(s h:Int):D.aAC×Bool:=bif !aM b||(decide (aG b s h<0)||((b.Entries.getD (aG b s h).toNat default).Deleted||(b.Entries.getD (aG b s h).toNat default).Version==1000000)) then(b,false) else(vQ b (bAc b s h),true)
def gY (d:D.Device)(n:ByteArray)(h:Int)(rm:Bool):D.aAC×Bool:=bif rm then aLz d.aAC (aR n) h else aLy d.aAC (aR n) h
def dC (d:D.Device)(n:ByteArray)(h:Int)(rm:Bool):D.Device×Bool:=bif (gY d n h rm).2 then({d with aAC:=(gY d n h rm).1},true) else(d,false)
def eX (w:D.World)(d:Int)(n:ByteArray)(h:Int)(rm:Bool):D.World×Bool:=bif aU w&&aL w d then(bif (dC (aK w d) n h rm).2 then({w with Devices:=w.Devices.set d.toNat (dC (aK w d) n h rm).1},true) else(w,false)) else(w,false)
def aX6 (b:List Int):(tX b).length=b.length+1:=by simp[tX,Nat.add_comm]
def aF8 (l:List Int):List.map (λ(n:Int)=>n) l=l:=List.map_id l
def aS5 (b:D.aAC)(x:D.Entry):(vQ b x).Entries.length<=b.Entries.length+1:=by
 unfold vQ
 cases decide (aG b x.Site x.Handle>=0) with
 |true=>simp
 |false=>
  have:=congrArg List.length (je (p:=λe=>sM e x.Site x.Handle) (l:=b.Entries))
  simp only[av] at this
  simp only[ab,av,cW];omega
def bGn (b:D.aAC)(s h:Int):(aLy b s h).1.Entries.length<=b.Entries.length+1:=by
 unfold aLy
 have:=aS5 b (Vx b s h)
 cases(!(decide (aG b s h>=0)&& !(b.Entries.getD (aG b s h).toNat default).Deleted)&&(aM b&&aM (vQ b (Vx b s h)))) with
 |true=>exact this
 |false=>simp
def bGo (b:D.aAC)(s h:Int):(aLz b s h).1.Entries.length<=b.Entries.length+1:=by
 unfold aLz
 have:=aS5 b (bAc b s h)
 cases(!aM b||(decide (aG b s h<0)||((b.Entries.getD (aG b s h).toNat default).Deleted||(b.Entries.getD (aG b s h).toNat default).Version==1000000))) with
 |true=>simp
 |false=>exact this
def aOl (d:D.Device)(n:ByteArray)(h:Int)(rm:Bool):(dC d n h rm).1.sz<=d.sz+1:=by
 unfold dC
 have:(gY d n h rm).1.Entries.length<=d.aAC.Entries.length+1:=by
  unfold gY;cases rm with
  |true=>exact bGo _ _ _
  |false=>exact bGn _ _ _
 cases(gY d n h rm).2 with
 |true=>simp only[ac,D.Device.sz];omega
 |false=>simp
def dW (c:D.aAE)(b:Int):D.aAA×Bool:=bif decide (b<0)||decide (b>=(c.History.length:Int)) then(⟨0,0,[],0⟩,false) else(c.History.getD (c.History.length-1-b.toNat) default,true)
def bAd (a b:D.aAD):Bool:=a.Index==b.Index&&(a.Kind==b.Kind&&(a.Device==b.Device&&(a.By==b.By&&(a.Previous==b.Previous&&(a.Signature==b.Signature&&true)))))
def dG (a b:List D.aAD):Bool:=decide (b.length<=a.length)&& !gW (λi e=> !bAd (a.getD i default) e) 0 b
def fV (k:Int)(b:D.aAA):Int:=bE k ([227,b.Epoch,b.Version]++tX b.Data)
def jA (k e v:Int):Int:=aW k [223,e,v]
def Y9:Nat->Int->List Int
 |0,n=>[n]
 |k+1,n=>bif decide (n>127) then(n%128+128)::Y9 k (n/128) else[n]
def aQl:∀(k:Nat) (n:Int),1<=(Y9 k n).length/\(Y9 k n).length<=k+1
 |0,n=>by simp[Y9]
 |k+1,n=>by
  have:=aQl k (n/128)
  unfold Y9
  cases decide (n>127)<;>simp<;>omega
def bGp {k:Nat}{z:Int}(h:z<=127):Y9 k z=[z]:=by
 cases k with
 |zero=>rfl
 |succ k=>unfold Y9;rw[ap (by omega)];rfl
def aX7:∀(k:Nat) (m n:Int) (x y:List Int),0<=m->0<=n->Y9 k m++x=Y9 k n++y->m=n/\x=y
 |0,m,n,x,y,_,_,h=>by simpa[Y9] using h
 |k+1,m,n,x,y,h0,h1,h=>by
  unfold Y9 at h
  by_cases hm:m>127<;>by_cases hn:n>127
  ·simp only[ao hm,ao hn,ac,cH,fu] at h
   have:=aX7 k (m/128) (n/128) x y (by omega) (by omega) h.2
   exact⟨by omega,this.2⟩
  ·simp only[ao hm,ap hn,ac,ab,cH,fu] at h;omega
  ·simp only[ap hm,ao hn,ac,ab,cH,fu] at h;omega
  ·simpa only[ap hm,ap hn,ab,cH,bm,fu] using h
def aS6 {F:(Int×List Int->Option (Int×List Int))->Int×List Int->Option (Int×List Int)}
  (hF:∀rec (n:Int) (s:List Int),0<=n->n<9223372036854775807->s.length<=34359738368->F rec (n,s)=bif decide (n>127) then rec (n/128,s++[n%128+128]) else some (n,s)):
  ∀(k:Nat) (n:Int) (s:List Int) (f:Nat),k<f->0<=n->n<128^(k+1)->k<=6->s.length+k<=34359738368->∃m q,EV.cB f F (n,s)=some (m,q)/\q++[m]=s++Y9 k n/\0<=m/\m<=127
 |0,n,s,f+1,hf,h0,h1,_,hs=>by
  refine⟨n,s,?_,rfl,h0,by simp at h1;omega⟩
  rw[iP,hF _ _ _ h0 (by simp at h1;omega) (by omega),ap (by simp at h1;omega)];rfl
 |k+1,n,s,f+1,hf,h0,h1,hk,hs=>by
  have h2:(128:Int)^(k+1+1)=128*128^(k+1):=by rw[eW];omega
  have h3:(128:Int)^(k+1+1)<=128^8:=by exact_mod_cast ib (by omega) (by omega)
  have h4:(128:Int)^8=72057594037927936:=by decide
  rw[iP,hF _ _ _ h0 (by omega) (by omega)]
  unfold Y9
  by_cases hn:n>127
  ·rw[ao hn,ac,ac]
   obtain⟨m,q,e1,e2,e3⟩:=aS6 hF k (n/128) (s++[n%128+128]) f (by omega) (by omega) (by omega) (by omega) (by simp;omega)
   exact⟨m,q,e1,by rw[e2];simp,e3⟩
  ·rw[ap hn,ab,ab]
   exact⟨n,s,rfl,rfl,h0,by omega⟩
def bGq {n:Int}(h0:0<=n)(h1:n<9223372036854775808):sF .i64 n 127=n%128:=by
 obtain⟨m,rfl⟩:=ex h0
 have e:((BitVec.ofInt 64 (m:Int))&&&(BitVec.ofInt 64 127)).toNat=m%128:=by
  rw[BitVec.toNat_and]
  have e1:(BitVec.ofInt 64 (m:Int)).toNat=m:=by rw[BitVec.toNat_ofInt];omega
  have e2:(BitVec.ofInt 64 127).toNat=2^7-1:=by decide
  rw[e1,e2,fS]
 show IntKind.i64.wrap (((BitVec.ofInt 64 (m:Int))&&&(BitVec.ofInt 64 127)).toNat:Int)=_
 rw[e,aJ (by omega) (by omega)];omega
def bJ8 {n:Int}(h0:0<=n)(h1:n<128):orI .i64 n 128=n+128:=by
 obtain⟨m,rfl⟩:=ex h0
 have e:((BitVec.ofInt 64 (m:Int))|||(BitVec.ofInt 64 128)).toNat=m+128:=by
  rw[BitVec.toNat_or]
  have e1:(BitVec.ofInt 64 (m:Int)).toNat=m:=by rw[BitVec.toNat_ofInt];omega
  have e2:(BitVec.ofInt 64 128).toNat=1<<<7:=by decide
  have:=jl (b:=m) (i:=7) (by omega) 1
  rw[e1,e2,Nat.or_comm,<-this];omega
 show IntKind.i64.wrap (((BitVec.ofInt 64 (m:Int))|||(BitVec.ofInt 64 128)).toNat:Int)=_
 rw[e,aJ (by omega) (by omega)];omega
def bLo {n:Int}(h0:0<=n):Kj .i64 n 7=n/128:=by
 unfold Kj
 rw[show min (Int.toNat 7) IntKind.i64.bits=7 from by decide,gl _ (by decide)];rfl
def aHo {n:Int}(h0:0<=n)(h1:n<=255):IntKind.u8.wrap n=n:=by rw[IntKind.wrap_u8];omega
def enc1 (n:Int):List Int:=bif bH n 0 1000000000000 then Y9 5 n else[]
def oZ (b:List Int)(n:Int):List Int:=b++enc1 n
def gG (l:List Int):List Int:=(l.map enc1).flatten
def Lj (n:Int):(enc1 n).length<=6:=by
 have:=(aQl 5 n).2
 unfold enc1;cases bH n 0 1000000000000<;>simp<;>omega
def aF9 {n:Int}(h:0<=n/\n<=1000000000000):enc1 n=Y9 5 n:=by
 unfold enc1 bH;rw[ao h.1,ao h.2];rfl
def rC (n:Int)(l:List Int):gG (n::l)=enc1 n++gG l:=rfl
def G8:∀l:List Int,(gG l).length<=6*l.length
 |[]=>by simp[gG]
 |n::l=>by
  have:=G8 l
  have:=Lj n
  rw[rC,av,au];omega
def aL0 (l:List Int):Prop:=∀v∈l,0<=v/\v<=(1000000000000:Int)
def aS7:∀(s t x y:List Int),aL0 s->aL0 t->s.length=t.length->gG s++x=gG t++y->s=t/\x=y
 |[],[],x,y,_,_,_,h=>⟨rfl,h⟩
 |m::s,n::t,x,y,hs,ht,hl,h=>by
  have hm:=hs m (by simp)
  have hn:=ht n (by simp)
  rw[rC,rC,ck,ck,aF9 hm,aF9 hn] at h
  obtain⟨h1,h2⟩:=aX7 5 m n _ _ hm.1 hn.1 h
  obtain⟨h3,h4⟩:=aS7 s t x y (λv hv=>hs v (by simp[hv])) (λv hv=>ht v (by simp[hv])) (by simpa using hl) h2
  exact⟨by rw[h1,h3],h4⟩
def aX8 {b:List Int}(hb:aT b){p:Nat}:∀(k i:Nat) (n m e:Int),uvG b p (k+1) i n=(m,e,true)->∃(r:Int) (q:Nat),(0<=r/\m=n+r*128^i/\m<=1000000000000/\e=(q:Int)/\q<=b.length/\(0<i->r≠0))/\b.drop (p+i)=Y9 k r++b.drop q
 |k,i,n,m,e,h=>by
  unfold uvG at h
  by_cases hlt:p+i<b.length
  ·rw[cz hlt] at h
   have hz:=sJ hb hlt
   have hg:b.getD (p+i) 0=b[p+i]:=by simp[List.getD,ae hlt]
   rw[hg] at h
   have hd:b.drop (p+i)=b[p+i]::b.drop (p+i+1):=cn hlt
   generalize b[p+i]=z at hz h hd
   by_cases h128:z<128
   ·rw[ao h128,ac] at h
    have hzz:z%128=z:=by omega
    rw[hzz] at h
    cases hc:(decide (0<i)&&z==0)||decide (n+z*128^i>1000000000000) with
    |true=>rw[hc] at h;simp at h
    |false=>
     rw[hc,ab] at h
     rw[cl] at hc
     have h1:=of_decide_eq_false hc.2
     injection h with e1 e2
     injection e2 with e2 e3
     refine⟨z,p+i+1,⟨hz.1,e1.symm,by omega,e2.symm,by omega,λhi h0=> ?_⟩,by rw[hd,bGp (by omega)];rfl⟩
     subst h0
     simp[hi] at hc
   ·rw[ap h128,ab] at h
    match k,h with
    |0,h=>simp[uvG] at h
    |k+1,h=>
     obtain⟨r,q,⟨h1,h2,h3,h4,h5,h6⟩,h7⟩:=aX8 hb k (i+1) _ m e h
     have hr:=h6 (by omega)
     refine⟨z%128+128*r,q,⟨by omega,?_,h3,h4,h5,λ_=>by omega⟩,?_⟩
     ·rw[h2,eW,Int.add_mul,<-Int.add_assoc]
      congr 1
      rw[ja 128 r,Int.mul_assoc,ja 128]
     ·rw[hd,show p+i+1=p+(i+1) from by omega,h7]
      have e1:Y9 (k+1) (z%128+128*r)=z::Y9 k r:=by
       rw[Y9,ao (show z%128+128*r>127 by omega),ac,show(z%128+128*r)%128+128=z by omega,show(z%128+128*r)/128=r by omega]
      rw[e1];rfl
  ·rw[cR hlt] at h;simp at h
def aQm {b:List Int}(hb:aT b){a m e:Int}(h:vN b a=(m,e,true)):∃q:Nat,(0<=a/\0<=m/\m<=1000000000000/\e=(q:Int)/\q<=b.length)/\b.drop a.toNat=enc1 m++b.drop q:=by
 unfold vN at h
 by_cases h0:a<0
 ·rw[cz h0] at h;simp at h
 ·rw[cR h0] at h
  obtain⟨r,q,⟨h1,h2,h3,h4,h5,_⟩,h7⟩:=aX8 hb 5 0 0 m e h
  have hm:m=r:=by rw[h2];simp
  subst hm
  exact⟨q,⟨by omega,h1,h3,h4,h5⟩,by rw[aF9 ⟨h1,h3⟩];exact h7⟩
def Ll {b:List Int}(hb:aT b):∀(k:Nat) (a:Int) (s v:List Int) (e:Int),0<=a->a<=b.length->iZ b k a s=(v,e,true)->∃(t:List Int) (q:Nat),(v=s++t/\t.length=k/\e=(q:Int)/\q<=b.length/\aL0 t)/\b.drop a.toNat=gG t++b.drop q
 |0,a,s,v,e,h0,h1,h=>by
  unfold iZ at h
  injection h with e1 e2
  injection e2 with e2 _
  exact⟨[],a.toNat,⟨by simp[e1],rfl,by omega,by omega,λv hv=>by simp at hv⟩,rfl⟩
 |k+1,a,s,v,e,h0,h1,h=>by
  unfold iZ at h
  cases hu:vN b a with
  |mk m r=>
   obtain⟨e',ok⟩:=r
   rw[hu] at h
   cases ok with
   |false=>simp at h
   |true=>
    obtain⟨q,⟨g0,g1,g2,g3,g4⟩,g5⟩:=aQm hb hu
    subst g3
    obtain⟨t,q',⟨k1,k2,k3,k4,k5⟩,k6⟩:=Ll hb k (q:Int) (s++[m]) v e (by omega) (by omega) h
    refine⟨m::t,q',⟨by rw[k1];simp,by simp[k2],k3,k4,λx hx=> ?_⟩,by rw[g5,rC,ck];congr 1⟩
    rcases ax.1 hx with rfl|hx
    ·exact⟨g1,g2⟩
    ·exact k5 x hx
def aHp {b:List Int}:∀(j k:Nat) (a:Int) (s:List Int),iZ b (j+k) a s=bif (iZ b j a s).2.2 then iZ b k (iZ b j a s).2.1 (iZ b j a s).1 else([],0,false)
 |0,k,a,s=>by rw[ce];rfl
 |j+1,k,a,s=>by
  have e:∀m,iZ b (m+1) a s=bif (vN b a).2.2 then iZ b m (vN b a).2.1 (s++[(vN b a).1]) else([],0,false):=λ_=>rfl
  rw[show j+1+k=j+k+1 by omega,e,e]
  cases(vN b a).2.2 with
  |false=>rfl
  |true=>exact aHp j k _ _
def aHq {b:List Int}:∀(k:Nat) (a:Int) (s:List Int),iZ b k a s=bif (iZ b k a []).2.2 then(s++(iZ b k a []).1,(iZ b k a []).2.1,true) else([],0,false)
 |0,a,s=>by simp[iZ]
 |k+1,a,s=>by
  unfold iZ
  cases(vN b a).2.2 with
  |false=>rfl
  |true=>
   simp only[ac,bm]
   rw[aHq k _ (s++[(vN b a).1]),aHq k _ [(vN b a).1]]
   cases(iZ b k (vN b a).2.1 []).2.2<;>simp
def aL1 (e:D.Entry):List Int:=[e.Site,e.Handle,e.Version,bif e.Deleted then 1 else 0]
def jW:List Int->List D.Entry
 |s::h::v::d::r=>⟨s,h,v,d==1⟩::jW r
 |_=>[]
def jK:List Int->Bool
 |_::_::_::d::r=>decide (d<=1)&&jK r
 |_=>true
def iJ (l:List D.Entry):List Int:=l.flatMap aL1
def rD:∀l:List D.Entry,(iJ l).length=4*l.length
 |[]=>rfl
 |e::l=>by
  have:=rD l
  simp only[iJ,List.flatMap_cons,av,au] at*
  rw[this];simp[aL1];omega
def G9:∀(k:Nat) (l:List Int),l.length=4*k->(jW l).length=k
 |0,[],_=>rfl
 |k+1,s::h::v::d::r,hl=>by
  have:=G9 k r (by simp at hl;omega)
  simp[jW,this]
def aOm:∀(k:Nat) (l:List Int),l.length=4*k->aL0 l->aL0 (iJ (jW l))/\(jK l=true↔iJ (jW l)=l)
 |0,[],_,_=>⟨λv h=>by simp[iJ,jW] at h,by simp[jK,iJ,jW]⟩
 |k+1,s::h::v::d::r,hl,ho=>by
  obtain⟨h1,h2⟩:=aOm k r (by simp at hl;omega) (λx hx=>ho x (by simp[hx]))
  have hs:=ho s (by simp)
  have hh:=ho h (by simp)
  have hv:=ho v (by simp)
  have hd:=ho d (by simp)
  have e:iJ (jW (s::h::v::d::r))=s::h::v::(bif d==1 then 1 else 0)::iJ (jW r):=by simp[jW,iJ,aL1]
  rw[e]
  refine⟨λx hx=> ?_,?_⟩
  ·simp only[ax] at hx
   rcases hx with rfl|rfl|rfl|rfl|hx
   ·exact hs
   ·exact hh
   ·exact hv
   ·cases(d==1)<;>simp
   ·exact h1 x hx
  ·simp only[jK,aa,cb,fu,true_and,h2]
   refine and_congr_left' ?_
   by_cases h1:d=1
   ·subst h1;simp
   ·rw[show(d==1)=false by simpa using h1,ab];omega
def aS8:∀(k:Nat) (l r:List Int),l.length=4*k->jW (l++r)=jW l++jW r
 |0,[],r,_=>rfl
 |k+1,s::h::v::d::l,r,hl=>by
  have:=aS8 k l r (by simp at hl;omega)
  simp[jW,this]
def nA (b:D.aAC):List Int:=[(b.Entries.length:Int)]++iJ b.Entries
def lC (b:D.aAC):List Int:=bif aM b then gG (nA b) else[]
def aS9 (d:List Int)(v:List Int×Int×Bool):D.aAC×Bool:=bif !v.2.2||(v.2.1 !=(d.length:Int)||(!jK v.1|| !aM ⟨jW v.1⟩)) then(⟨[]⟩,false) else(⟨jW v.1⟩,true)
def wK (d:List Int):D.aAC×Bool:=bif !(vN d 0).2.2||decide ((vN d 0).1>20) then(⟨[]⟩,false) else aS9 d (iZ d (4*(vN d 0).1).toNat (vN d 0).2.1 [])
def eH (key:Int)(s:D.aAA):D.aAC×Bool:=bif !(bG key&&(bH s.Epoch 0 1000000&&bH s.Version 0 1000000))||s.MAC !=fV key s then(⟨[]⟩,false) else wK (Iq (jA key s.Epoch s.Version) s.Data)
def bDt {d:List Int}(hd:aT d){n e e':Int}{v:List Int}(h:vN d 0=(n,e,true))(hn:n<=20)(h':iZ d (4*n).toNat e []=(v,e',true)):(gG (nA ⟨jW v⟩)=d↔(e'=(d.length:Int)/\jK v=true))/\v.length=4*n.toNat/\aL0 v/\(jW v).length=n.toNat:=by
 obtain⟨q,⟨_,g1,g2,g3,g4⟩,g5⟩:=aQm hd h
 subst g3
 obtain⟨t,q',⟨k1,k2,k3,k4,k5⟩,k6⟩:=Ll hd _ _ _ _ _ (by omega) (by omega) h'
 rw[bm] at k1
 subst k1
 have hl:v.length=4*n.toNat:=by omega
 obtain⟨f1,f2⟩:=aOm n.toNat v hl k5
 have hel:=G9 n.toNat v hl
 refine⟨?_,hl,k5,hel⟩
 have hdd:d=gG (n::v)++d.drop q':=by
  have h0:d.drop (Int.toNat 0)=d:=rfl
  rw[rC,ck,<-k6]
  exact h0▸g5
 have hv:nA ⟨jW v⟩=n::iJ (jW v):=by
  show((jW v).length:Int)::_=_
  rw[hel];congr 1;omega
 rw[hv]
 constructor
 ·intro hq
  have hx:gG (n::iJ (jW v))++[]=gG (n::v)++d.drop q':=by rw[cP,hq];exact hdd
  have hok:∀l,aL0 l->aL0 (n::l):=λl hl x hx=>by
   rcases ax.1 hx with rfl|hx
   ·exact⟨g1,g2⟩
   ·exact hl x hx
  obtain⟨y1,y2⟩:=aS7 _ _ _ _ (hok _ f1) (hok _ k5) (by simp[rD,hel,hl]) hx
  have:=congrArg List.length y2
  simp only[bn,ci] at this
  exact⟨by omega,f2.2 (List.cons.inj y1).2⟩
 ·rintro⟨h1,h2⟩
  rw[f2.1 h2]
  have:d.drop q'=[]:=fN (by omega)
  rw[this,cP] at hdd
  exact hdd.symm
def aOn (l:List Int):(EV.aZa l).data.toList=l.map λn=>UInt8.ofNat n.toNat:=by
 unfold EV.aZa
 have:∀(l:List Int) (r:ByteArray),(l.foldl (λr n=>r.push (UInt8.ofNat n.toNat)) r).data.toList=r.data.toList++l.map λn=>UInt8.ofNat n.toNat:=by
  intro l
  induction l with
  |nil=>intro r;simp
  |cons x l ih=>intro r;rw[cV,ih];simp
 rw[this];rfl
def bytes_inj:∀{a b:List Int},(∀z∈a,0<=z/\z<=255)->(∀z∈b,0<=z/\z<=255)->(a.map λn=>UInt8.ofNat n.toNat)=(b.map λn=>UInt8.ofNat n.toNat)->a=b
 |[],[],_,_,_=>rfl
 |[],y::b,_,_,h=>by simp at h
 |x::a,[],_,_,h=>by simp at h
 |x::a,y::b,ha,hb,h=>by
  simp only[bo,fu] at h
  have hx:=ha x (by simp)
  have hy:=hb y (by simp)
  have e:=congrArg UInt8.toNat h.1
  rw[UInt8.toNat_ofNat',UInt8.toNat_ofNat'] at e
  rw[bytes_inj (λz hz=>ha z (by simp[hz])) (λz hz=>hb z (by simp[hz])) h.2,show x=y by omega]
def Lm {b:List Int}(h:aT b):∀z∈b,0<=z/\z<=255:=λz hz=>by simpa using cF.1 h.2 z hz
def aHr {b:List Int}(h:b.length<=34359738368)(h1:∀z∈b,0<=z/\z<=255):aT b:=⟨h,cF.2 λz hz=>by simpa using h1 z hz⟩
def aOo:∀(k:Nat) (n:Int),0<=n->n<128^(k+1)->∀z∈Y9 k n,0<=z/\z<=255
 |0,n,h0,h1,z,hz=>by simp[Y9] at hz;subst hz;simp at h1;omega
 |k+1,n,h0,h1,z,hz=>by
  have h2:(128:Int)^(k+1+1)=128*128^(k+1):=by rw[eW];omega
  unfold Y9 at hz
  by_cases hn:n>127
  ·rw[ao hn,ac] at hz
   rcases ax.1 hz with rfl|hz
   ·omega
   ·exact aOo k (n/128) (by omega) (by omega) z hz
  ·rw[ap hn,ab] at hz
   simp at hz;subst hz;omega
def aVs (n:Int):∀z∈enc1 n,0<=z/\z<=255:=λz hz=>by
 unfold enc1 at hz
 cases hr:bH n 0 1000000000000 with
 |false=>rw[hr] at hz;simp at hz
 |true=>
  rw[hr] at hz
  have:=iE hr
  have h7:(128:Int)^(5+1)=4398046511104:=by decide
  exact aOo 5 n this.1 (by omega) z hz
def Vy (l:List Int):∀z∈gG l,0<=z/\z<=255:=λz hz=>by
 unfold gG at hz
 obtain⟨x,hx,hz⟩:=jg.1 hz
 obtain⟨n,_,rfl⟩:=bu.1 hx
 exact aVs n z hz
def lW {b:D.aAC}(h:aM b=true):b.Entries.length<=20:=by
 simp only[aM,aa,cb] at h;omega
def H5 (b:D.aAC):aT (lC b):=by
 unfold lC
 cases hb:aM b with
 |false=>exact⟨by simp,rfl⟩
 |true=>
  have:=lW hb
  have h1:=G8 (nA b)
  have h2:(nA b).length=1+4*b.Entries.length:=by simp[nA,rD];omega
  exact aHr (by rw[ac];omega) (Vy _)
def bDu (d:List Int):(wK d).1.sz<=20:=by
 have h0:(D.aAC.mk []).sz<=20:=by simp[D.aAC.sz]
 unfold wK
 cases !(vN d 0).2.2||decide ((vN d 0).1>20) with
 |true=>exact h0
 |false=>
  rw[ab]
  generalize iZ d (4*(vN d 0).1).toNat (vN d 0).2.1 []=v
  unfold aS9
  cases hb:aM ⟨jW v.1⟩ with
  |false=>simp only[dr,jc,ac];exact h0
  |true=>
   have:=lW hb
   cases !v.2.2||(v.2.1 !=(d.length:Int)||(!jK v.1|| !true)) with
   |true=>exact h0
   |false=>simp only[ab,D.aAC.sz] at*;omega
def aOp (k:Int)(s:D.aAA):(eH k s).1.sz<=20:=by
 unfold eH
 cases !(bG k&&(bH s.Epoch 0 1000000&&bH s.Version 0 1000000))||s.MAC !=fV k s with
 |true=>simp[D.aAC.sz]
 |false=>exact bDu _
def aOq {a b:D.aAC}(h:(fB a b).2=true):(fB a b).1.sz<=20:=by
 unfold fB at*
 cases hc:aM a&&aM b with
 |false=>rw[hc] at h;cases h
 |true=>
  rw[hc] at h
  cases hm:aM ⟨aX a.Entries b.Entries⟩ with
  |false=>rw[hm] at h;cases h
  |true=>have:=lW hm;simp only[ac,D.aAC.sz];omega
def gZ (d:D.Device)(log:List D.aAD)(bx:D.aAG)(s:D.aAA):Int:=
 bif !bL log|| !dG log d.Log then 1 else bif !gH (aD log) (bJ d.Store) then 2 else bif bx.Epoch !=aF log|| !(bA d.Store bx).2 then 3
 else bif decide (s.Epoch<aF log)||(decide (s.Epoch<d.Epoch)||(s.Epoch==d.Epoch&&decide (s.Version<d.Version))) then 4
 else bif !(eH (bA d.Store bx).1 s).2|| !(fB d.aAC (eH (bA d.Store bx).1 s).1).2 then 5 else 0
def bQ (d:D.Device)(log:List D.aAD)(bx:D.aAG)(s:D.aAA):D.Device×Int:=
 bif gZ d log bx s==0 then(⟨d.Store,log,(bA d.Store bx).1,s.Epoch,s.Version,(fB d.aAC (eH (bA d.Store bx).1 s).1).1⟩,0) else(d,gZ d log bx s)
def bY (w:D.World)(d b:Int):D.World×Int:=bif aU w&&aL w d then({w with Devices:=w.Devices.set d.toNat (bQ (aK w d) w.aAE.Log w.aAE.Boxes (dW w.aAE b).1).1},(bQ (aK w d) w.aAE.Log w.aAE.Boxes (dW w.aAE b).1).2) else(w,1)
def jB (w:D.World)(d:Int):Bool:=w.Stolen.getD d.toNat false
def aVt (d:D.Device)(l:List D.aAD)(bx:D.aAG)(s:D.aAA):(bQ d l bx s).1.sz<=d.sz+l.length+20:=by
 unfold bQ
 cases hc:gZ d l bx s==0 with
 |false=>simp only[ab];omega
 |true=>
  have hm:(fB d.aAC (eH (bA d.Store bx).1 s).1).2=true:=by
   cases hm:(fB d.aAC (eH (bA d.Store bx).1 s).1).2 with
   |true=>rfl
   |false=>
    unfold gZ at hc
    rw[hm] at hc
    revert hc
    cases !bL l|| !dG l d.Log<;>cases !gH (aD l) (bJ d.Store)<;>cases bx.Epoch !=aF l|| !(bA d.Store bx).2<;>cases decide (s.Epoch<aF l)||(decide (s.Epoch<d.Epoch)||(s.Epoch==d.Epoch&&decide (s.Version<d.Version)))<;>cases !(eH (bA d.Store bx).1 s).2<;>simp
  have:=aOq hm
  simp only[ac,D.Device.sz,D.aAC.sz] at*;omega
def aTa (k:Int)(i:Nat)(z:Int):Int:=IntKind.u8.wrap ((z+bE k [(i:Int)])%256)
def jY (k:Int)(b:List Int):List Int:=Im (λi z=>[aTa k i z]) 0 b
def gI (k e v:Int)(b:D.aAC):D.aAA:=⟨e,v,jY (jA k e v) (lC b),fV k ⟨e,v,jY (jA k e v) (lC b),0⟩⟩
def nC (k e v:Int)(b:D.aAC):D.aAA×Bool:=bif bG k&&(bH e 0 1000000&&bH v 0 1000000)&&aM b then(gI k e v b,true) else(⟨0,0,[],0⟩,false)
def dK (d:D.Device):D.Device×D.aAA×Bool:=bif (nC d.Key d.Epoch (IntKind.i64.wrap (d.Version+1)) d.aAC).2 then({d with Version:=IntKind.i64.wrap (d.Version+1)},(nC d.Key d.Epoch (IntKind.i64.wrap (d.Version+1)) d.aAC).1,true) else(d,⟨0,0,[],0⟩,false)
def mW (a b:D.aAA):Bool:=decide (a.Epoch>b.Epoch)||(a.Epoch==b.Epoch&&decide (a.Version>b.Version))
def dD (c:D.aAE)(s:D.aAA):D.aAE×Bool:=bif s.Epoch !=aF c.Log||((decide ((c.History.length:Int)>0)&& !mW s (c.History.getD (c.History.length-1) default))||decide ((c.History.length:Int)>=60)) then(c,false) else({c with History:=c.History++[s]},true)
def upF (w:D.World)(d:Int):D.World×Bool:=bif (dK (aK w d)).2.2&&(dD w.aAE (dK (aK w d)).2.1).2 then({w with Devices:=w.Devices.set d.toNat (dK (aK w d)).1,aAE:=(dD w.aAE (dK (aK w d)).2.1).1},true) else(w,false)
def kK (w:D.World)(d:Int):D.World×Bool:=bif (bY w d 0).2==0&&(upF (bY w d 0).1 d).2 then((upF (bY w d 0).1 d).1,true) else(w,false)
def gP:List Int->D.World->D.World×Bool
 |[],w=>(w,true)
 |i::l,w=>bif (kK w i).2 then gP l (kK w i).1 else(w,false)
def lD:List Int->D.World->D.World×Bool
 |[],w=>(w,true)
 |i::l,w=>bif (bY w i 0).2==0 then lD l (bY w i 0).1 else(w,false)
def iA (w:D.World):D.World×Bool:=bif aU w&&((gP (bX w) w).2&&(lD (bX w) (gP (bX w) w).1).2) then((lD (bX w) (gP (bX w) w).1).1,true) else(w,false)
def aOr (b:D.aAC):(lC b).length<=500:=by
 unfold lC
 cases hb:aM b with
 |false=>simp
 |true=>
  have:=lW hb
  have h1:=G8 (nA b)
  have h2:(nA b).length=1+4*b.Entries.length:=by simp[nA,rD];omega
  rw[ac];omega
def Lp (k:Int)(b:List Int):(jY k b).length=b.length:=by unfold jY;exact oW
def bAe (k e v:Int)(b:D.aAC):(nC k e v b).1.Data.length<=500:=by
 unfold nC
 cases bG k&&(bH e 0 1000000&&bH v 0 1000000)&&aM b with
 |false=>simp
 |true=>simp only[ac,gI,Lp];exact aOr b
def Bn (d:D.Device):(dK d).1.sz=d.sz/\(dK d).2.1.Data.length<=500:=by
 unfold dK
 have:=bAe d.Key d.Epoch (IntKind.i64.wrap (d.Version+1)) d.aAC
 cases(nC d.Key d.Epoch (IntKind.i64.wrap (d.Version+1)) d.aAC).2 with
 |false=>exact⟨rfl,by simp⟩
 |true=>exact⟨rfl,this⟩
def rE (c:D.aAE)(s:D.aAA):(dD c s).1.sz<=c.sz+1+s.Data.length/\(dD c s).1.Log=c.Log:=by
 unfold dD
 cases s.Epoch !=aF c.Log||((decide ((c.History.length:Int)>0)&& !mW s (c.History.getD (c.History.length-1) default))||decide ((c.History.length:Int)>=60)) with
 |true=>exact⟨by simp only[ac];omega,rfl⟩
 |false=>refine⟨?_,rfl⟩;simp only[ab,D.aAE.sz,av,da,gf,au,bn,bo,eM,dz,gA,D.aAA.sz];omega
def Fv {α:Type}{f:α->Nat}:∀{l:List α} {i:Nat} {x:α} (hi:i<l.length),((l.set i x).map f).sum+f l[i]=(l.map f).sum+f x
 |y::l,0,x,_=>by simp only[List.set_cons_zero,bo,dz,List.getElem_cons_zero];omega
 |y::l,i+1,x,h=>by
  have:=Fv (f:=f) (l:=l) (i:=i) (x:=x) (by simpa using h)
  simp only[gk,bo,dz,eS];omega
def Qj {w:D.World}{d b:Int}(h:((bY w d b).2==0)=true):(aU w=true/\aL w d=true)/\(bY w d b).1.aAE=w.aAE/\(bY w d b).1.Devices.length=w.Devices.length/\(bY w d b).1.sz<=w.sz+w.aAE.Log.length+20:=by
 unfold bY at*
 cases hc:(aU w&&aL w d) with
 |false=>rw[hc] at h;cases h
 |true=>
  rw[hc] at h
  simp only[ac] at h ⊢
  rw[aa] at hc
  refine⟨hc,by first|rfl|trivial,by first|exact bh|simp,?_⟩
  have hd:=hc.2
  simp only[aL,aa,cb] at hd
  have hi:d.toNat<w.Devices.length:=by omega
  have hz:(bQ (aK w d) w.aAE.Log w.aAE.Boxes (dW w.aAE b).1).1.sz<=w.aAE.Log.length+20:=by
   unfold bQ at*
   cases hs:gZ (aK w d) w.aAE.Log w.aAE.Boxes (dW w.aAE b).1==0 with
   |false=>rw[hs] at h;simp only[ab] at h;rw[hs] at h;cases h
   |true=>
    have hm:(fB (aK w d).aAC (eH (bA (aK w d).Store w.aAE.Boxes).1 (dW w.aAE b).1).1).2=true:=by
     cases hm:(fB (aK w d).aAC (eH (bA (aK w d).Store w.aAE.Boxes).1 (dW w.aAE b).1).1).2 with
     |true=>rfl
     |false=>
      unfold gZ at hs
      rw[hm] at hs
      revert hs
      generalize(aK w d)=x
      generalize(dW w.aAE b).1=s
      cases !bL w.aAE.Log|| !dG w.aAE.Log x.Log<;>cases !gH (aD w.aAE.Log) (bJ x.Store)<;>cases w.aAE.Boxes.Epoch !=aF w.aAE.Log|| !(bA x.Store w.aAE.Boxes).2<;>cases decide (s.Epoch<aF w.aAE.Log)||(decide (s.Epoch<x.Epoch)||(s.Epoch==x.Epoch&&decide (s.Version<x.Version)))<;>cases !(eH (bA x.Store w.aAE.Boxes).1 s).2<;>simp
    have:=aOq hm
    simp only[ac,D.Device.sz,D.aAC.sz] at*;omega
  have h1:=Fv (f:=D.Device.sz) (l:=w.Devices) (i:=d.toNat) (x:=(bQ (aK w d) w.aAE.Log w.aAE.Boxes (dW w.aAE b).1).1) hi
  generalize(bQ (aK w d) w.aAE.Log w.aAE.Boxes (dW w.aAE b).1).1=x at*
  simp only[D.World.sz,bh] at*;omega
def bLp {w:D.World}{d:Int}(hd:aL w d=true):(upF w d).1.aAE.Log=w.aAE.Log/\(upF w d).1.Devices.length=w.Devices.length/\(upF w d).1.sz<=w.sz+501:=by
 unfold upF
 cases(dK (aK w d)).2.2&&(dD w.aAE (dK (aK w d)).2.1).2 with
 |false=>exact⟨rfl,rfl,by simp only[ab];omega⟩
 |true=>
  have hu:=rE w.aAE (dK (aK w d)).2.1
  have hw:=Bn (aK w d)
  simp only[aL,aa,cb] at hd
  have hi:d.toNat<w.Devices.length:=by omega
  have h1:=Fv (f:=D.Device.sz) (l:=w.Devices) (i:=d.toNat) (x:=(dK (aK w d)).1) hi
  have e:w.Devices[d.toNat]=aK w d:=by simp[aK,List.getD,ae hi]
  rw[e] at h1
  refine⟨hu.2,bh,?_⟩
  generalize(dD w.aAE (dK (aK w d)).2.1).1=c at*
  generalize dK (aK w d)=x at*
  simp only[ac,D.World.sz,D.aAE.sz,bh] at*;omega
def aX9 {w:D.World}{d:Int}(h:(kK w d).2=true):(kK w d).1.aAE.Log=w.aAE.Log/\(kK w d).1.sz<=w.sz+w.aAE.Log.length+521:=by
 unfold kK at*
 cases hc:((bY w d 0).2==0&&(upF (bY w d 0).1 d).2) with
 |false=>rw[hc] at h;cases h
 |true=>
  rw[aa] at hc
  obtain⟨⟨k1,k2⟩,k3,k4,k5⟩:=Qj hc.1
  have hd:aL (bY w d 0).1 d=true:=by simp only[aL] at*;rw[k4];exact k2
  obtain⟨j1,j2,j3⟩:=bLp hd
  simp only[ac]
  exact⟨by rw[j1,k3],by omega⟩
def Vz:∀(l:List Int) (w:D.World),(gP l w).1.sz<=w.sz+l.length*(w.aAE.Log.length+521)/\(gP l w).1.aAE.Log=w.aAE.Log
 |[],w=>⟨by simp[gP],rfl⟩
 |i::l,w=>by
  unfold gP
  cases hp:(kK w i).2 with
  |false=>exact⟨by simp only[ab];omega,rfl⟩
  |true=>
   obtain⟨h1,h2⟩:=aX9 hp
   obtain⟨h3,h4⟩:=Vz l (kK w i).1
   rw[h1] at h3 h4
   simp only[ac,au,cX]
   exact⟨by omega,h4⟩
def aHs:∀(l:List Int) (w:D.World),(lD l w).1.sz<=w.sz+l.length*(w.aAE.Log.length+20)
 |[],w=>by simp[lD]
 |i::l,w=>by
  unfold lD
  cases hp:((bY w i 0).2==0) with
  |false=>simp only[ab];omega
  |true=>
   obtain⟨_,h1,_,h2⟩:=Qj hp
   have h3:=aHs l (bY w i 0).1
   rw[h1] at h3
   simp only[ac,au,cX]
   omega
def bDv {k z:Int}(i:Nat)(h:0<=z/\z<=255):IntKind.u8.wrap ((IntKind.i64.wrap (IntKind.i64.wrap z+bE k [(i:Int)])).tmod 256)=aTa k i z:=by
 have:=kE k [(i:Int)]
 rw[aJ (n:=z) (by omega) (by omega),aJ (by omega) (by omega),co (by omega)];rfl
def bDw {k z:Int}(i:Nat)(h:0<=z/\z<=255):IntKind.u8.wrap ((IntKind.i64.wrap (IntKind.i64.wrap z+(bE k [(i:Int)]).tmod 256)).tmod 256)=aTa k i z:=by
 have:=kE k [(i:Int)]
 rw[aJ (n:=z) (by omega) (by omega),show(bE k [(i:Int)]).tmod 256=bE k [(i:Int)]%256 from co this.1,aJ (by omega) (by omega),co (by omega),aTa]
 congr 1;omega
def aP (seed n:Int):D.aAH:=⟨1,n,aW seed [277,n],0⟩
def dH (s:D.aAH):D.Device:=⟨s,[],0,0,0,⟨[]⟩⟩
def bM (s:D.aAH)(n:ByteArray)(h:Int):Int:=aW s.Seed [179,aR n,h]
def iK (s:D.aAH)(n:ByteArray)(h:Int):Int:=bU (bM s n h)
def pE (s:D.aAH)(l:List Int):Int:=nW (fF s) l
def aVu (log:List D.aAD)(kind dev:Int)(s:D.aAH):D.aAD:=⟨(log.length:Int),kind,dev,bJ s,fU log,0⟩
def bAf (log:List D.aAD)(kind dev:Int)(s:D.aAH):D.aAD:={aVu log kind dev s with Signature:=pE s [bZ (aVu log kind dev s)]}
def nE (log:List D.aAD)(kind dev:Int)(s:D.aAH):List D.aAD×Bool:=bif (decide ((log.length:Int)>0)&& !bL log)|| !bL (log++[bAf log kind dev s]) then(log,false) else(log++[bAf log kind dev s],true)
def fZ (p e:Int)(d:List Int):D.Box:=⟨p,e,jY (fH (eG p) e) d,La (fH (eG p) e) ⟨p,e,jY (fH (eG p) e) d,0⟩⟩
def fM (p e:Int)(d:List Int):D.Box×Bool:=bif eG p==0||(!bG e||decide ((d.length:Int)>200)) then(⟨0,0,[],0⟩,false) else(fZ p e d,true)
def fD (e:Int)(d:List Int):Nat->List Int->List D.Box×Bool
 |_,[]=>([],true)
 |i,p::l=>bif (fM p (IntKind.i64.wrap (e+(i:Int))) d).2&&(fD e d (i+1) l).2 then((fM p (IntKind.i64.wrap (e+(i:Int))) d).1::(fD e d (i+1) l).1,true) else([],false)
def cK (log:List D.aAD)(key eph:Int):D.aAG×Bool:=bif !bL log||(!bG key|| !(fD eph (gG [aF log,key]) 0 (aD log)).2) then(⟨0,[]⟩,false) else(⟨aF log,(fD eph (gG [aF log,key]) 0 (aD log)).1⟩,true)
def pF (e:D.aAG)(d:Int):Int:=e.Boxes.foldl (λn b=>bif b.To==d then IntKind.i64.wrap (n+1) else n) 0
def lF (e:D.aAG)(log:List D.aAD):Bool:=(e.Epoch==aF log&&(e.Boxes.length:Int)==((aD log).length:Int))&&(aD log).all λd=>pF e d==1
def bJ9 (c:D.aAE)(log:List D.aAD)(e:D.aAG):D.aAE×Bool:=bif !bL log||(!dG log c.Log|| !lF e log) then(c,false) else({c with Log:=log,Boxes:=e},true)
def Lr (h:Int)(l:List D.aAL):Nat:=(l.takeWhile λc=>decide (c.Handle<h)).length
def aAr (l:List D.aAL)(h p:Int):List D.aAL:=l.take (Lr h l)++[⟨h,p,0,false⟩]++l.drop (Lr h l)
def eD (a:D.Account)(h p:Int):D.Account×Bool:=bif !aV a|| !aV {a with Credentials:=aAr a.Credentials h p} then(a,false) else({a with Credentials:=aAr a.Credentials h p},true)
def gQ (s:D.Site)(id h p:Int):D.Site×Bool:=bif !bR s||decide (aC s id<0) then(s,false) else bif (eD (s.Accounts.getD (aC s id).toNat default) h p).2 then({s with Accounts:=s.Accounts.set (aC s id).toNat (eD (s.Accounts.getD (aC s id).toNat default) h p).1},true) else(s,false)
def sO (l:List D.aAO):Nat:=bif l.any (λn=>n.Seen) then(l.takeWhile λn=> !n.Seen).length else 0
def Uj (l:List D.aAO):List D.aAO:=bif decide ((l.length:Int)>30) then l.take (sO l)++l.drop (sO l+1) else l
def aOs (m:D.aAM)(k a t:Int):D.aAM×Bool:=bif !gF m|| !gF ⟨Uj (m.Notices++[⟨k,a,t,false⟩])⟩ then(m,false) else(⟨Uj (m.Notices++[⟨k,a,t,false⟩])⟩,true)
def bDx (w:D.World)(by_ kind pub:Int)(key:List D.aAD->Int):D.World×Bool:=
 let l:=nE w.aAE.Log kind pub (aK w by_).Store
 let e:=cK l.1 (key l.1) (IntKind.i64.wrap (1000+IntKind.i64.wrap (10*(l.1.length:Int))))
 let c:=bJ9 w.aAE l.1 e.1
 bif l.2&&(e.2&&c.2) then({w with aAE:=c.1},true) else(w,false)
def aVv (log:List D.aAD)(k d:Int)(s:D.aAH):(nE log k d s).1.length<=log.length+1:=by
 unfold nE
 cases(decide ((log.length:Int)>0)&& !bL log)|| !bL (log++[bAf log k d s])<;>simp
def aVw (p e:Int)(d:List Int):(fM p e d).1.sz<=d.length:=by
 unfold fM
 cases eG p==0||(!bG e||decide ((d.length:Int)>200)) with
 |true=>simp[D.Box.sz]
 |false=>simp only[ab,fZ,D.Box.sz,Lp];exact ak _
def aTc {e:Int}{d:List Int}:∀{i:Nat} {l:List Int},(fD e d i l).1.length<=l.length/\((fD e d i l).1.map D.Box.sz).sum<=l.length*d.length
 |i,[]=>by simp[fD]
 |i,p::l=>by
  have h1:=aTc (e:=e) (d:=d) (i:=i+1) (l:=l)
  have h2:=aVw p (IntKind.i64.wrap (e+(i:Int))) d
  unfold fD
  cases(fM p (IntKind.i64.wrap (e+(i:Int))) d).2&&(fD e d (i+1) l).2 with
  |false=>simp
  |true=>simp only[ac,au,bo,dz,cX];omega
def aTd (a b:Int):(gG [a,b]).length<=12:=G8 [a,b]
def bAg (log:List D.aAD)(k e:Int):(cK log k e).1.sz<=13*log.length:=by
 unfold cK
 have h1:=aTc (e:=e) (d:=gG [aF log,k]) (i:=0) (l:=aD log)
 have h2:=gD log
 have h3:=aTd (aF log) k
 have h4:=fo (aD log).length h3
 cases !bL log||(!bG k|| !(fD e (gG [aF log,k]) 0 (aD log)).2) with
 |true=>simp[D.aAG.sz]
 |false=>simp only[ab,D.aAG.sz];omega
def aTe (l:List D.aAL)(h p:Int):(aAr l h p).length=l.length+1:=by
 simp only[aAr,av,ca,ci,cW];omega
def aVx (a:D.Account)(h p:Int):(eD a h p).1.sz<=a.sz+1:=by
 unfold eD
 cases !aV a|| !aV {a with Credentials:=aAr a.Credentials h p} with
 |true=>simp only[ac];omega
 |false=>simp only[ab,D.Account.sz,aTe];exact ak _
def bAh (l:List D.aAO):(Uj l).length<=l.length:=by
 unfold Uj
 cases decide ((l.length:Int)>30) with
 |false=>exact ak _
 |true=>simp only[ac,av,ca,ci];omega
def nZ {α:Type}{p:α->Bool}{i:Nat}{l:List α}(h:decide (iF p i l<0)=false):(i:Int)<=iF p i l/\iF p i l<i+l.length:=by
 induction l generalizing i with
 |nil=>simp[iF] at h
 |cons x l ih=>
  unfold iF at h ⊢
  cases hp:p x with
  |true=>simp only[ac,au];omega
  |false=>
   rw[hp] at h
   have:=ih (i:=i+1) h
   simp only[ab,au];omega
def bAi (s:D.Site)(id h p:Int):(gQ s id h p).1.sz<=s.sz+1:=by
 unfold gQ
 cases hc: !bR s||decide (aC s id<0) with
 |true=>simp only[ac];omega
 |false=>
  rw[cl] at hc
  have hr:=nZ hc.2
  simp only[ab]
  cases(eD (s.Accounts.getD (aC s id).toNat default) h p).2 with
  |false=>simp only[ab];omega
  |true=>
   have hi:(aC s id).toNat<s.Accounts.length:=by unfold aC;omega
   have h1:=Fv (f:=D.Account.sz) (l:=s.Accounts) (i:=(aC s id).toNat) (x:=(eD (s.Accounts.getD (aC s id).toNat default) h p).1) hi
   have h2:=aVx (s.Accounts.getD (aC s id).toNat default) h p
   have e:s.Accounts.getD (aC s id).toNat default=s.Accounts[(aC s id).toNat]:=by simp[List.getD,ae hi]
   rw[e] at h1 h2 ⊢
   simp only[ac,D.Site.sz,bh];omega
def appW (w:D.World)(x:D.Device):D.World:={w with Devices:=w.Devices++[x],Stolen:=w.Stolen++[false]}
def bLq (d:D.Device)(h:Int)(rm:Bool):D.Device:=(dC (dC d (aA 0) h rm).1 (aA 1) h rm).1
def aVy (st:D.aAH)(n:Int):Nat->List D.Site->List D.Site×Bool
 |_,[]=>([],true)
 |j,s::l=>bif (gQ s 1 n (iK st (aA (j:Int)) n)).2&&(aVy st n (j+1) l).2 then((gQ s 1 n (iK st (aA (j:Int)) n)).1::(aVy st n (j+1) l).1,true) else([],false)
def aYa (w:D.World)(k:Int):D.World:={w with Mail:=(aOs w.Mail k 1 w.Now).1}
def add1 (w:D.World)(b:Int):D.World×Bool:=bDx (bY w b 0).1 b 1 (bJ (aP w.Seed (w.Devices.length:Int))) λ_=>(aK (bY w b 0).1 b).Key
def bLr (w:D.World)(b:Int):List D.Site×Bool:=aVy (aP w.Seed (w.Devices.length:Int)) (w.Devices.length:Int) 0 (add1 w b).1.Sites
def bLs (w:D.World)(b:Int):D.World×Bool:=kK {(add1 w b).1 with Sites:=(bLr w b).1,Devices:=(add1 w b).1.Devices.set b.toNat (bLq (aK (add1 w b).1 b) (w.Devices.length:Int) false)} b
def bLt (w:D.World)(b:Int):D.World×Int:=bY (appW (bLs w b).1 (dH (aP w.Seed (w.Devices.length:Int)))) (w.Devices.length:Int) 0
def bLu (w:D.World)(b:Int):Bool:=(aU w&&(aL w b&&(!jB w b&& !decide ((w.Devices.length:Int)>=6))))&&((bY w b 0).2==0&&((add1 w b).2&&((bLr w b).2&&((bLs w b).2&&(bLt w b).2==0))))
def bGr (w:D.World)(b:Int):D.World×Bool:=bif bLu w b then(aYa (bLt w b).1 2,true) else(w,false)
def aOt {α:Type}{p:α->Bool}:∀{l:List α} {i:Nat} (hi:i<l.length),i<(l.takeWhile p).length->p l[i]=true
 |x::l,0,_,h=>by
  simp only[dm] at h
  cases hp:p x with
  |true=>exact hp
  |false=>rw[hp] at h;simp at h
 |x::l,i+1,hi,h=>by
  simp only[dm] at h
  cases hp:p x with
  |true=>
   have h':i<(l.takeWhile p).length:=by simpa[hp] using h
   exact aOt (l:=l) (i:=i) (by simpa using hi) h'
  |false=>rw[hp] at h;simp at h
def aOu {α:Type}{p:α->Bool}:∀{l:List α} (h:(l.takeWhile p).length<l.length),p (l[(l.takeWhile p).length]'h)=false
 |x::l,h=>by
  cases hp:p x with
  |true=>
   have h':(l.takeWhile p).length<l.length:=by simpa[dm,hp] using h
   simpa[dm,hp] using aOu h'
  |false=>simp[dm,hp]
def Ls {α:Type}{p:α->Bool}{l:List α}:(l.takeWhile p).length<=l.length:=(List.takeWhile_prefix p).length_le
def aAs {α τ S:Type}{l:List α}(p:α->Bool)(fin:Nat->Option τ)(e:Nat->S){F:(S->Option τ)->S->Option τ}(hl:l.length<=34359738368)
  (hF:∀rec i (hi:i<l.length),F rec (e i)=bif p l[i] then rec (e (i+1)) else fin i) (hE:∀rec,F rec (e l.length)=fin l.length):EV.cB FUEL F (e 0)=fin (l.takeWhile p).length:=by
 have go:∀(k i n:Nat),i+k=(l.takeWhile p).length->k<n->EV.cB n F (e i)=fin (l.takeWhile p).length:=by
  intro k
  induction k with
  |zero=>
   intro i n hi hn
   obtain⟨n,rfl⟩:∃m,n=m+1:=⟨n-1,by omega⟩
   have:i=(l.takeWhile p).length:=by omega
   subst this
   rw[iP]
   by_cases h:(l.takeWhile p).length<l.length
   ·rw[hF _ _ h,aOu h,ab]
   ·have h2:(l.takeWhile p).length=l.length:=by have:=Ls (p:=p) (l:=l);omega
    rw[h2,hE]
  |succ k ih=>
   intro i n hi hn
   obtain⟨n,rfl⟩:∃m,n=m+1:=⟨n-1,by omega⟩
   have h1:i<l.length:=by have:=Ls (p:=p) (l:=l);omega
   rw[iP,hF _ _ h1,aOt (p:=p) h1 (by omega),ac]
   exact ih (i+1) n (by omega) (by omega)
 have:=Ls (p:=p) (l:=l)
 exact go (l.takeWhile p).length 0 FUEL (by omega) (by have:=gL;omega)
def aOv {e:Int}{d:List Int}{l:List Int}{τ:Type}{x:τ}{F:(List D.Box×Nat->Option (τ⊕List D.Box))->List D.Box×Nat->Option (τ⊕List D.Box)}
  (hF:∀rec i s (hi:i<l.length),s.length<=i->F rec (s,i)=bif !(fM l[i] (IntKind.i64.wrap (e+(i:Int))) d).2 then some (.inl x) else rec (s++[(fM l[i] (IntKind.i64.wrap (e+(i:Int))) d).1],i+1)) (hE:∀rec s,F rec (s,l.length)=some (.inr s)):
  ∀(k i n:Nat) (s:List D.Box),i+k=l.length->k<n->s.length<=i->EV.cB n F (s,i)=some (bif (fD e d i (l.drop i)).2 then .inr (s++(fD e d i (l.drop i)).1) else .inl x)
 |0,i,n+1,s,h,_,_=>by
  have:i=l.length:=by omega
  subst this
  rw[iP,hE,dl];simp[fD]
 |k+1,i,n+1,s,h,hn,hs=>by
  have hi:i<l.length:=by omega
  rw[iP,hF _ i s hi hs,cn hi,fD]
  cases hb:(fM l[i] (IntKind.i64.wrap (e+(i:Int))) d).2 with
  |false=>rfl
  |true=>
   rw[ay,ab,aOv hF hE k (i+1) n _ (by omega) (by omega) (by simp;omega)]
   cases(fD e d (i+1) (l.drop (i+1))).2<;>simp
def bLv (l:List D.aAO):Nat:=(l.takeWhile λn=> !n.Seen).length
def bDy (l:List D.aAO):(sO l:Int)=bif l.any (λx=>x.Seen) then(bLv l:Int) else 0:=by
 unfold sO bLv;cases l.any (λn=>n.Seen)<;>rfl
def aTf {l:List D.aAO}(h:0<l.length):sO l<l.length:=by
 unfold sO
 cases hs:l.any (λn=>n.Seen) with
 |false=>exact h
 |true=>
  obtain⟨x,hx,hp⟩:=fY.1 hs
  have:∀l:List D.aAO,x∈l->(l.takeWhile λn=> !n.Seen).length<l.length:=by
   intro l
   induction l with
   |nil=>intro h;cases h
   |cons y l ih=>
    intro h
    cases hy:y.Seen with
    |true=>simp[hy]
    |false=>
     rcases ax.1 h with rfl|h
     ·rw[hp] at hy;cases hy
     ·simpa[hy] using ih h
  exact this l hx
def bGs {τ S:Type}{l:List D.aAO}(fin:Int->Option τ)(st:Nat->S){F:(S->Option τ)->S->Option τ}(hl:l.length<=34359738368)(hF:∀rec i (hi:i<l.length),F rec (st i)=bif l[i].Seen then fin (i:Int) else rec (st (i+1)))(hE:∀rec,F rec (st l.length)=fin 0):EV.cB FUEL F (st 0)=fin (sO l:Int):=by
 have e:=aAs (l:=l) (λn=> !n.Seen) (λi=>bif decide (i<l.length) then fin (i:Int) else fin 0) st (F:=F) hl (λrec i hi=>by
  rw[hF rec i hi,ao hi];cases l[i].Seen<;>rfl) (λrec=>by rw[hE,ap (by omega)];rfl)
 rw[e,bDy]
 cases hs:l.any (λn=>n.Seen) with
 |true=>
  have h0:0<l.length:=by cases l with|nil=>simp at hs|cons=>simp
  have:=aTf h0
  unfold sO at this
  rw[hs,ac] at this
  rw[ao this];rfl
 |false=>
  have hh:∀l:List D.aAO,l.any (λn=>n.Seen)=false->(l.takeWhile λn=> !n.Seen).length=l.length:=by
   intro l
   induction l with
   |nil=>intro _;rfl
   |cons x l ih=>
    intro h
    simp only[List.any_cons,cl] at h
    simp[h.1,ih h.2]
  have this:=hh l hs
  rw[this,ap (by omega)];rfl
def bDz {e:Int}{d:List Int}{i:Nat}{l:List Int}(h:(fD e d i l).2=false):fD e d i l=([],false):=by
 cases l with
 |nil=>cases h
 |cons p l=>
  unfold fD at*
  cases hc:(fM p (IntKind.i64.wrap (e+(i:Int))) d).2&&(fD e d (i+1) l).2 with
  |true=>rw[hc] at h;cases h
  |false=>rfl
def bKa {s:D.Site}{i:Int}(hz:s.sz<=34359738300)(h:decide (aC s i<0)=false):bD s.Accounts (aC s i)=some (s.Accounts.getD (aC s i).toNat default)/\(s.Accounts.getD (aC s i).toNat default).sz<=34359738300/\(aC s i).toNat<s.Accounts.length:=by
 have hr:=nZ (p:=λa:D.Account=>a.Id==i) (i:=0) (l:=s.Accounts) h
 have hi:(aC s i).toNat<s.Accounts.length:=by unfold aC;omega
 have h1:=Fu (f:=D.Account.sz) hi
 refine⟨sN (by unfold aC;omega) (by unfold aC;omega),?_,hi⟩
 simp only[D.Site.sz] at hz;omega
def rF (d:D.Device)(log:List D.aAD)(key:Int):D.Device×Bool:=bif !bL log||(!dG log d.Log||(decide (aF log<d.Epoch)|| !bG key)) then(d,false) else({d with Log:=log,Key:=key,Epoch:=aF log,Version:=0},true)
def bC (a:D.Account)(h:Int):Int:=iF (λc=>c.Handle==h) 0 a.Credentials
def jQ (a:D.Account)(k:Int):D.aAL:=a.Credentials.getD k.toNat default
def bD0 (a:D.Account)(h:Int):D.Account×Bool:=bif !aV a||(decide (bC a h<0)||(jQ a (bC a h)).Cut) then(a,false) else({a with Credentials:=a.Credentials.set (bC a h).toNat {jQ a (bC a h) with Cut:=true}},true)
def jG (s:D.Site)(k:Int):D.Account:=s.Accounts.getD k.toNat default
def bGt (h:Int)(s:D.Site):D.Site:=bif decide (aC s 1>=0) then {s with Accounts:=s.Accounts.set (aC s 1).toNat (bD0 (jG s (aC s 1)) h).1} else s
def bI (s e:Int):Int:=aW s [233,e]
def aYb (s:D.aAH)(l:List D.aAD):Int:=bI (aW s.Seed [311]) (aF l)
def bAj (w:D.World)(b:Int):D.World:=(bY w b 0).1
def bLw (w:D.World)(b t:Int):List D.aAD:=(nE (bAj w b).aAE.Log 2 (bJ (aK w t).Store) (aK (bAj w b) b).Store).1
def bGu (w:D.World)(b t:Int):D.World×Bool:=bDx (bAj w b) b 2 (bJ (aK w t).Store) (aYb (aK (bAj w b) b).Store)
def bLx (w:D.World)(b t:Int):D.Device×Bool:=rF (aK (bAj w b) b) (bLw w b t) (aYb (aK (bAj w b) b).Store (bLw w b t))
def bOb (w:D.World)(b t:Int):D.World:={(bGu w b t).1 with Devices:=(bGu w b t).1.Devices.set b.toNat (bLq (bLx w b t).1 t true),Sites:=(bGu w b t).1.Sites.map (bGt t)}
def bLy (w:D.World)(b t:Int):D.World×Bool:=upF (bOb w b t) b
def bGv (w:D.World)(b t:Int):D.World×Bool:=bif (bGu w b t).2&&((bLx w b t).2&&(bLy w b t).2) then(aYa (bLy w b t).1 4,true) else(w,false)
def bGw (w:D.World)(b t:Int):D.World×Bool:=bif (bY w b 0).2==0&&(!jB w b&&(!(b==t)&&cZ w t)) then bGv w b t else(w,false)
def bD1 (d:D.Device)(l:List D.aAD)(k:Int):(rF d l k).1.sz<=d.sz+l.length:=by
 unfold rF
 cases !bL l||(!dG l d.Log||(decide (aF l<d.Epoch)|| !bG k)) with
 |true=>simp only[ac];omega
 |false=>simp only[ab,D.Device.sz];omega
--needs aAK aAJ aAI
def eY (b:D.aAB)(id:Int):Int:=bE b.Seed [197,id]
def H6 (b:D.aAB)(acc now:Int):D.aAI:=⟨b.Next,acc,IntKind.i64.wrap (now+5)⟩
def dL (b:D.aAB)(acc now:Int):D.aAB×D.aAI×Bool:=bif dN b&&(!(b.Next==1000000)&&(bH acc 0 1000000&&bH now 0 1000000)) then(⟨b.Seed,IntKind.i64.wrap (b.Next+1),(bif decide ((b.Open.length:Int)>=16) then b.Open.drop 1 else b.Open)++[H6 b acc now]⟩,H6 b acc now,true) else(b,⟨0,0,0⟩,false)
def bN (b:D.aAB)(id:Int):Int:=iF (λc=>c.Id==id) 0 b.Open
def Lt (b:D.aAB)(k:Int):D.aAI:=b.Open.getD k.toNat default
def sP (b:D.aAB)(id acc now:Int):D.aAB×Bool:=bif !dN b||decide (bN b id<0) then(b,false) else(⟨b.Seed,b.Next,b.Open.take (bN b id).toNat++b.Open.drop ((bN b id).toNat+1)⟩,(Lt b (bN b id)).Account==acc&&decide (now<=(Lt b (bN b id)).Until))
def lX (s:D.Site)(id now:Int):D.Site×Int×Int×Bool:=bif bR s&&(!decide (aC s id<0)&&(dL s.Book id now).2.2) then({s with Book:=(dL s.Book id now).1},(dL s.Book id now).2.1.Id,eY (dL s.Book id now).1 (dL s.Book id now).2.1.Id,true) else(s,0,0,false)
def jC (s:D.aAH):Bool:=bH s.Vendor 1 9&&(bH s.Serial 0 1000000&&(bG s.Seed&&bH s.Counter 0 1000000))
def aYc (s:D.aAH):D.aAH:={s with Counter:=IntKind.i64.wrap (s.Counter+1)}
def kF (s:D.aAH)(site:ByteArray)(h:Int)(m:List Int):D.aAH×Int×Bool:=bif jC s&& !(s.Counter==1000000) then(aYc s,nW (bM s site h) (m++[(aYc s).Counter]),true) else(s,0,false)
def aZ (a:D.aAK):List Int:=[199,aR a.Site,lS 211 a.aAJ,a.aAI,a.Handle,bif a.Present then 1 else 0]
def Uk (j:Int):D.aAJ:=⟨true,⟨#[119,119,119,46]⟩++aA j,443⟩
def aVz (j:Int):D.aAJ:=⟨true,⟨#[108,111,103,105,110,46]⟩++aA j++⟨#[46,101,118,105,108,46,110,101,116]⟩,443⟩
def bH3 (j:Int):D.aAJ:=⟨true,aA j,443⟩
def kL (k:Nat):D.aAJ:=match k with|0=>Uk 0|1=>Uk 1|2=>bH3 0|3=>bH3 1|4=>aVz 0|_=>aVz 1
def tY (k:Nat):ByteArray:=⟨#[104,116,116,112,115,58,47,47]⟩++(kL k).Host
def bLz:List UInt8->List UInt8->Bool
 |[],b=>b==[]
 |x::a,b=>b==x::a||bLz a b
def jD (o:D.aAJ)(z:ByteArray):Bool:=bLz (46::o.Host.data.toList) (46::z.data.toList)
def uK (o:D.aAJ)(s:ByteArray):Prop:=(∃k:Nat,k<6/\o=kL k)/\∃j:Int,(j=0\/j=1)/\s=aA j
noncomputable instance (o:D.aAJ) (s:ByteArray):Decidable (uK o s):=Classical.propDecidable _
def lY (o:D.aAJ):Prop:=∃k:Nat,k<6/\o=kL k
def lY.p {o:D.aAJ}(h:lY o){j:Int}(hj:j=0\/j=1):uK o (aA j):=⟨h,j,hj,rfl⟩
def bKb {j:Int}(hj:j=0\/j=1):lY (Uk j):=by
 rcases hj with rfl|rfl
 ·exact⟨0,by decide,rfl⟩
 ·exact⟨1,by decide,rfl⟩
noncomputable instance (o:D.aAJ):Decidable (lY o):=Classical.propDecidable _
def lZ (o:D.aAJ):ByteArray:=⟨#[104,116,116,112,115,58,47,47]⟩++o.Host
def aL2 (s:ByteArray):Prop:=s=⟨#[]⟩\/∃k:Nat,k<4/\s=tY k
noncomputable instance (s:ByteArray):Decidable (aL2 s):=Classical.propDecidable _
def mK (s:ByteArray):D.aAJ×Bool:=bif decide (s.size=0) then(⟨false,⟨#[]⟩,0⟩,false) else(⟨true,s.extract 8 s.size,443⟩,true)
def Qt (s:D.aAH)(o:D.aAJ)(site:ByteArray)(h ch:Int)(p:Bool):D.aAK:=⟨site,lZ o,ch,h,p,0,0⟩
def aV0:D.aAK:=⟨⟨#[]⟩,⟨#[]⟩,0,0,false,0,0⟩
def jL (s:D.aAH)(o:D.aAJ)(site:ByteArray)(h ch:Int)(p:Bool):D.aAH×D.aAK×Bool:=bif jD o site&&(kF s site h (aZ (Qt s o site h ch p))).2.2 then((kF s site h (aZ (Qt s o site h ch p))).1,{Qt s o site h ch p with Counter:=(kF s site h (aZ (Qt s o site h ch p))).1.Counter,Signature:=(kF s site h (aZ (Qt s o site h ch p))).2.1},true) else(s,aV0,false)
def AsP (a:D.aAK)(site:ByteArray):Prop:=∃j:Int,(j=0\/j=1)/\site=aA j/\(a=aV0\/(a.Site=site/\∃k:Nat,k<4/\a.aAJ=tY k/\jD (kL k) site=true))
noncomputable instance (a:D.aAK) (s:ByteArray):Decidable (AsP a s):=Classical.propDecidable _
def iL (pub:Int)(a:D.aAK)(site:ByteArray)(ch cnt:Int):Int:=bif !(a.Site.toList==site.toList) then 1 else bif !a.Present then 2 else bif !(a.aAI==ch) then 3 else bif !eF pub (aZ a++[a.Counter]) a.Signature then 5 else bif decide (a.Counter<=cnt) then 4 else 0
def kT (a:D.Account)(x:D.aAK)(site:ByteArray)(ch:Int):D.Account×Int:=bif !aV a||(decide (bC a x.Handle<0)||(jQ a (bC a x.Handle)).Cut) then(a,5) else({a with Credentials:=bif iL (jQ a (bC a x.Handle)).Public x site ch (jQ a (bC a x.Handle)).Counter==0 then a.Credentials.set (bC a x.Handle).toNat {jQ a (bC a x.Handle) with Counter:=x.Counter} else bif iL (jQ a (bC a x.Handle)).Public x site ch (jQ a (bC a x.Handle)).Counter==4 then a.Credentials.set (bC a x.Handle).toNat {jQ a (bC a x.Handle) with Cut:=true} else a.Credentials},iL (jQ a (bC a x.Handle)).Public x site ch (jQ a (bC a x.Handle)).Counter)
def nG (a:D.Account)(m:Int):Bool:=aV a&&(decide (a.Minimum<=m)&&(decide (m<=3)&&(!(m==3)||a.Credentials.any λc=> !c.Cut)))
def pG (s:D.Site)(id ch now:Int)(a:D.aAK):D.Site×Int×Int:=bif !bR s||decide (aC s id<0) then(s,1,0) else bif !(sP s.Book ch id now).2 then({s with Book:=(sP s.Book ch id now).1},2,0) else bif !nG (jG s (aC s id)) 3 then({s with Book:=(sP s.Book ch id now).1},3,0) else bif !((kT (jG s (aC s id)) a s.Name (eY s.Book ch)).2==0) then({s with Book:=(sP s.Book ch id now).1,Accounts:=s.Accounts.set (aC s id).toNat (kT (jG s (aC s id)) a s.Name (eY s.Book ch)).1},4,(kT (jG s (aC s id)) a s.Name (eY s.Book ch)).2) else({s with Book:=(sP s.Book ch id now).1,Accounts:=s.Accounts.set (aC s id).toNat (kT (jG s (aC s id)) a s.Name (eY s.Book ch)).1,Logins:=s.Logins++[id]},0,0)
def dX (w:D.World)(j:Int):D.Site:=w.Sites.getD j.toNat default
def jX (w:D.World)(j:Int):D.Site×Int×Int×Bool:=lX (dX w j) 1 w.Now
def Qu (w:D.World)(d j:Int)(o:D.aAJ):D.aAH×D.aAK×Bool:=jL (aK w d).Store o (aA j) d (jX w j).2.2.1 true
def aTg (w:D.World)(d j:Int)(o:D.aAJ):D.Site×Int×Int:=pG (jX w j).1 1 (jX w j).2.1 w.Now (Qu w d j o).2.1
def bL0 (w:D.World)(d j:Int)(o:D.aAJ):D.World:={w with Devices:=w.Devices.set d.toNat {aK w d with Store:=(Qu w d j o).1},Sites:=w.Sites.set j.toNat (aTg w d j o).1}
def fC (w:D.World)(d j:Int):Bool:=aU w&&(aL w d&&jP w j)
def wL (w:D.World)(d j:Int)(o:D.aAJ):D.World×D.aAK×Int:=bif !fC w d j then(w,aV0,1) else bif !(jX w j).2.2.2 then(w,aV0,1) else bif !((aTg w d j o).2.1==0) then(bL0 w d j o,(Qu w d j o).2.1,2) else(aYa (bL0 w d j o) 1,(Qu w d j o).2.1,0)
def Qk (w:D.World)(d j:Int)(o:D.aAJ):D.World×Int:=((wL w d j o).1,(wL w d j o).2.2)
def lG (w:D.World)(d j:Int):D.World×Int:=bif fC w d j&& !jB w d then Qk w d j (Uk j) else(w,1)
def rX (w:D.World)(d:Int):Int:=IntKind.i64.wrap ((bif (lG w d 0).2==0 then 1 else 0)+(bif (lG w d 1).2==0 then 1 else 0))
def kP (o:D.aAJ):Bool:=fJ o.Host&&bH o.Port 1 65535
def aV1 (m:Int):Nat->Int->Int->Int->Int
 |0,_,_,s=>s
 |k+1,b,n,s=>if n>0 then aV1 m k ((IntKind.i64.wrap (b*b)).tmod m) (n/2) (bif n%2==1 then(IntKind.i64.wrap (s*b)).tmod m else s) else s
def aHt (x:Int):Bool:=bH x 1 2038&&aV1 2039 11 x 1019 1==1
def wM (g n:Int):Int:=bif aHt g then aV1 2039 11 g (gJ n 1019) 1 else 0
def H7 (l v:Int):Int:=wM 4 (IntKind.i64.wrap (1+((IntKind.i64.wrap (bE l [89,v]*bE l [89,v])).tmod 2147483647).tmod 1018))
def Ql (s l i:Int):Int:=wM (H7 l i) s
def yY (e l:Int):Int:=gX (bE e [157,l])
def aOx (k m:Int):Int:=bif bH k 0 2147483647 then aY7 .i64 k (aW m [251]) else 0
def H8 (o s:Int):Int:=bE o [257,s]
def rG (c:Int)(l:List Int)(n:Int):List D.aAQ:=bif bH n 1 7&&decide ((l.length:Int)<n) then(List.range n.toNat).map λ(i:Nat)=>⟨(i:Int)+1,Li c l ((i:Int)+1)⟩ else[]
def yZ (k:D.aAR):D.aAF:=⟨k,[],Ky k⟩
def aGa (pin salt key secret limit:Int):Bool:=bH pin 0 9999&&(bH salt 0 1000000&&(bG key&&(!(gJ secret 1019==0)&&bH limit 1 10)))
def Fw (pin salt key secret:Int)(cs:List Int)(n limit:Int):D.aAP×List D.aAF×Bool:=
 bif aGa pin salt key secret limit&& !((rG secret cs n).length==0) then(⟨salt,IntKind.i64.wrap ((cs.length:Int)+1),H8 (yY (Ql secret salt pin) salt) salt,aOx key (yY (Ql secret salt pin) salt)⟩,(rG secret cs n).map (λs=>yZ ⟨s,0,0,limit⟩),true) else(⟨0,0,0,0⟩,[],false)
def dS (log:List D.aAD)(bx:D.aAG):D.aAE×Bool:=bif bL log&&lF bx log then(⟨log,bx,[]⟩,true) else(⟨[],⟨0,[]⟩,[]⟩,false)
def pI (id:Int)(l:List D.Account):Nat:=(l.takeWhile λa=>decide (a.Id<id)).length
def mD (s:D.Site)(id m:Int):D.Site:={s with Accounts:=s.Accounts.take (pI id s.Accounts)++[⟨id,m,[]⟩]++s.Accounts.drop (pI id s.Accounts)}
def kM (s:D.Site)(id m:Int):D.Site×Bool:=bif bR s&&bR (mD s id m) then(mD s id m,true) else(s,false)
def mM (nm:ByteArray):Nat->List D.Device->D.Site->D.Site
 |_,[],s=>s
 |i,d::l,s=>mM nm (i+1) l (gQ s 1 (i:Int) (iK d.Store nm (i:Int))).1
def sQ (seed:Int)(l:List D.Device)(j:Int):D.Site:=mM (aA j) 0 l (kM (dZ (aA j) (aW seed [281,j])) 1 3).1
def pJ (l:List D.Device)(seed:Int):List D.Site:=[sQ seed l 0,sQ seed l 1]
def aO (seed:Int):Nat->List D.aAD
 |0=>[]
 |n+1=>(nE (aO seed n) 1 (bJ (aP seed (n:Int))) (aP seed 0)).1
def bS (seed:Int)(n:Nat):List D.Device:=(List.range n).map λ(i:Nat)=>dH (aP seed (i:Int))
def Bo (nm:ByteArray):Nat->D.Device->D.Device
 |0,d=>d
 |i+1,d=>(dC (Bo nm i d) nm (i:Int) false).1
def fO (seed:Int)(n:Nat):D.aAG:=(cK (aO seed n) (bI seed 0) 1000).1
def sS (seed:Int)(n:Nat)(d:D.Device):D.Device:=(rF d (aO seed n) (bI seed 0)).1
def jM (seed:Int)(n:Nat):D.Device:=Bo (aA 1) n (Bo (aA 0) n (sS seed n (dH (aP seed 0))))
def nwW (seed:Int)(n:Nat):D.Device×D.aAA×Bool:=dK (jM seed n)
def fT (seed:Int)(n:Nat):D.aAE:=(dD (dS (aO seed n) (fO seed n)).1 (nwW seed n).2.1).1
def pK (seed:Int)(n:Nat)(d:D.Device):D.Device:=(bQ (sS seed n d) (aO seed n) (fO seed n) (nwW seed n).2.1).1
def gB (seed:Int)(n:Nat):List D.Device:=(nwW seed n).1::((bS seed n).drop 1).map (pK seed n)
def Lu (seed t:Int):List Int:=(List.range (t-1).toNat).map λ(k:Nat)=>aW seed [307,(k:Int)+1]
def Fx (seed t pin k:Int):D.aAP×List D.aAF×Bool:=Fw pin 7 (aW seed [283]) (IntKind.i64.wrap (1+(aW seed [293]).tmod 1018)) (Lu seed t) k 5
def Bp (n k t pin seed:Int):Bool:=bH n 1 3&&(bH k 1 7&&(bH t 1 k&&(bH pin 0 9999&&bG seed)))
def aYd:D.World:=⟨0,0,[],[],⟨[],⟨0,[]⟩,[]⟩,[],⟨0,0,0,0⟩,[],0,⟨[]⟩⟩
def aY (n k t pin seed:Int):D.World:=bif Bp n k t pin seed then⟨0,seed,gB seed n.toNat,List.replicate n.toNat false,fT seed n.toNat,pJ (bS seed n.toNat) seed,(Fx seed t pin k).1,(Fx seed t pin k).2.1,pin,⟨[]⟩⟩ else aYd
def aV2 {l:List Int}(h:l.Nodup)(e:D.aAD):(iN l e).Nodup:=by
 unfold iN
 cases e.Kind==1 with
 |true=>
  simp only[ac]
  cases hc:l.contains e.Device with
  |true=>exact h
  |false=>
   simp only[ab]
   rw[di]
   refine⟨h,by simp,λa ha b hb e'=> ?_⟩
   simp at hb;subst hb;subst e'
   have:l.contains e.Device=true:=by simpa using ha
   rw[hc] at this;cases this
 |false=>
  simp only[ab]
  cases e.Kind==2 with
  |true=>exact h.filter _
  |false=>exact h
def aV3 (log:List D.aAD):(aD log).Nodup:=by
 have key:∀(l:List D.aAD) (s:List Int),s.Nodup->(l.foldl iN s).Nodup:=by
  intro l
  induction l with
  |nil=>exact λ_ h=>h
  |cons e l ih=>exact λs h=>ih _ (aV2 h e)
 exact key log [] fc
def aTh {e:Int}{d:List Int}:∀{i:Nat} {l:List Int},(fD e d i l).2=true->(fD e d i l).1.map (λb=>b.To)=l
 |_,[],_=>rfl
 |i,p::l,h=>by
  simp only[fD] at h ⊢
  cases hc:(fM p (IntKind.i64.wrap (e+(i:Int))) d).2&&(fD e d (i+1) l).2 with
  |false=>rw[hc] at h;cases h
  |true=>
   rw[aa] at hc
   simp only[ac,bo,aTh hc.2]
   have:(fM p (IntKind.i64.wrap (e+(i:Int))) d).1.To=p:=by
    have h1:=hc.1
    unfold fM at h1 ⊢
    cases hq:eG p==0||(!bG (IntKind.i64.wrap (e+(i:Int)))||decide ((d.length:Int)>200)) with
    |true=>rw[hq] at h1;cases h1
    |false=>rfl
   rw[this]
def aOy:∀{l:List D.Box} {d:Int} {s:Int},(l.map λb=>b.To).Nodup->0<=s->s<1000->l.foldl (λn b=>bif b.To==d then IntKind.i64.wrap (n+1) else n) s=s+(if d∈l.map (λb=>b.To) then 1 else 0)
 |[],d,s,_,_,_=>by simp
 |b::l,d,s,h,h0,h1=>by
  rw[bo,ct] at h
  rw[cV]
  cases hc:b.To==d with
  |true=>
   have hd:b.To=d:=by simpa using hc
   have hn:d∉l.map (λb=>b.To):=hd▸h.1
   have hw:IntKind.i64.wrap (s+1)=s+1:=aJ (by omega) (by omega)
   have key:∀(l:List D.Box) (s:Int),d∉l.map (λb=>b.To)->l.foldl (λn b=>bif b.To==d then IntKind.i64.wrap (n+1) else n) s=s:=by
    intro l
    induction l with
    |nil=>exact λ_ _=>rfl
    |cons x l ih=>
     intro s hx
     simp only[bo,ax,not_or] at hx
     have:(x.To==d)=false:=by simpa using λe=>hx.1 e.symm
     rw[cV,this,ab]
     exact ih s hx.2
   rw[ac,key l _ hn,hw,bo,cz (by simp[hd])]
  |false=>
   have hd:¬b.To=d:=by simpa using hc
   rw[ab,aOy h.2 h0 h1,bo]
   have:(d∈b.To::l.map λb=>b.To)↔d∈l.map λb=>b.To:=by rw[ax];exact⟨λh=>h.resolve_left λe=>hd e.symm, .inr⟩
   simp only[this]
def aL3 {log:List D.aAD}{k e:Int}(h:(cK log k e).2=true):lF (cK log k e).1 log=true:=by
 unfold cK at h ⊢
 cases hc: !bL log||(!bG k|| !(fD e (gG [aF log,k]) 0 (aD log)).2) with
 |true=>rw[hc] at h;cases h
 |false=>
  simp only[cl,dw] at hc
  have ht:=aTh hc.2.2
  have hl:=congrArg List.length ht
  rw[bl] at hl
  simp only[ab,lF,pF,aa,cN,cF,hl,and_self,true_and,eh]
  intro d hd
  rw[aOy (by rw[ht];exact aV3 log) (by omega) (by omega),ht,cz hd];rfl
def bAk {log:List D.aAD}{k e:Int}(h:(cK log k e).2=false):(cK log k e).1=⟨0,[]⟩:=by
 unfold cK at h ⊢
 cases hc: !bL log||(!bG k|| !(fD e (gG [aF log,k]) 0 (aD log)).2) with
 |true=>rfl
 |false=>rw[hc] at h;cases h
def aOz {d:D.Device}{log:List D.aAD}{bx:D.aAG}{s:D.aAA}(h:(gZ d log bx s==0)=false):(bQ d log bx s).1=d:=by
 unfold bQ;rw[h];rfl
def bD2 (d:D.Device)(bx:D.aAG)(s:D.aAA):(bQ d [] bx s).1=d:=aOz rfl
def bKc (s:D.aAH):(bA s ⟨0,[]⟩).2=false:=rfl
def aV4 {log:List D.aAD}{key e:Int}{s:D.aAA}(hs:s=⟨0,0,[],0⟩\/s.Epoch=aF log)(d:D.Device):
  (bQ d (dD (dS log (cK log key e).1).1 s).1.Log (dD (dS log (cK log key e).1).1 s).1.Boxes (dW (dD (dS log (cK log key e).1).1 s).1 0).1).1=(bQ d log (cK log key e).1 s).1:=by
 cases hc:bL log&&lF (cK log key e).1 log with
 |true=>
  have e1:(dS log (cK log key e).1).1=⟨log,(cK log key e).1,[]⟩:=by unfold dS;rw[hc];rfl
  rw[e1]
  cases hq:s.Epoch !=aF log with
  |true=>
   have hs':s=⟨0,0,[],0⟩:=by
    rcases hs with h|h
    ·exact h
    ·rw[h] at hq;simp at hq
   have e2:(dD ⟨log,(cK log key e).1,[]⟩ s).1=⟨log,(cK log key e).1,[]⟩:=by
    unfold dD;rw[show(D.aAE.mk log (cK log key e).1 []).Log=log from rfl,hq];rfl
   rw[e2,hs'];rfl
  |false=>
   have e2:(dD ⟨log,(cK log key e).1,[]⟩ s).1=⟨log,(cK log key e).1,[s]⟩:=by
    unfold dD;rw[show(D.aAE.mk log (cK log key e).1 []).Log=log from rfl,hq];rfl
   rw[e2];rfl
 |false=>
  have e1:(dS log (cK log key e).1).1=⟨[],⟨0,[]⟩,[]⟩:=by unfold dS;rw[hc];rfl
  have e2:(dD (dS log (cK log key e).1).1 s).1.Log=[]:=by rw[(rE _ _).2,e1]
  rw[e2,bD2]
  refine(aOz ?_).symm
  cases hl:bL log with
  |false=>simp only[gZ,hl,dr,jb,ac];rfl
  |true=>
   rw[hl,cA] at hc
   have hm:(cK log key e).2=false:=by
    cases hm:(cK log key e).2 with
    |false=>rfl
    |true=>rw[aL3 hm] at hc;cases hc
   rw[bAk hm]
   simp only[gZ,hl,bKc,ay,cC,dr,jc,ac]
   cases !dG log d.Log with
   |true=>rfl
   |false=>
    simp only[ab]
    cases !gH (aD log) (bJ d.Store)<;>rfl
def H9 (nm:ByteArray):∀(i:Nat) (d:D.Device),(Bo nm i d).sz<=d.sz+i
 |0,d=>ak _
 |i+1,d=>by have h1:=H9 nm i d;have h2:=aOl (Bo nm i d) nm (i:Int) false;show(dC (Bo nm i d) nm (i:Int) false).1.sz<=_;omega
def nJ (seed:Int):∀n:Nat,(aO seed n).length<=n
 |0=>ak _
 |n+1=>by have h1:=nJ seed n;have h2:=aVv (aO seed n) 1 (bJ (aP seed (n:Int))) (aP seed 0);show(nE (aO seed n) 1 (bJ (aP seed (n:Int))) (aP seed 0)).1.length<=_;omega
def aGb (seed:Int)(n:Nat)(d:D.Device):(sS seed n d).sz<=d.sz+n:=by
 have h1:=bD1 d (aO seed n) (bI seed 0);have h2:=nJ seed n;show(rF d (aO seed n) (bI seed 0)).1.sz<=_;omega
def aAt (s:D.aAH):(dH s).sz=0:=rfl
def aHu (seed:Int)(n:Nat):(jM seed n).sz<=3*n:=by
 have h1:=H9 (aA 1) n (Bo (aA 0) n (sS seed n (dH (aP seed 0))))
 have h2:=H9 (aA 0) n (sS seed n (dH (aP seed 0)))
 have h3:=aGb seed n (dH (aP seed 0))
 rw[aAt] at h3
 unfold jM;omega
def aHv (seed:Int)(n:Nat):(fO seed n).sz<=13*n:=by
 have h1:=bAg (aO seed n) (bI seed 0) 1000;have h2:=nJ seed n;unfold fO;omega
def aDp (log:List D.aAD)(bx:D.aAG):(dS log bx).1.sz<=log.length+bx.sz:=by
 unfold dS
 cases bL log&&lF bx log with
 |true=>simp only[ac,D.aAE.sz,D.aAG.sz,bn,eM,gA];omega
 |false=>exact cy _
def aHw (seed:Int)(n:Nat):(fT seed n).sz<=14*n+501:=by
 have h1:=(rE (dS (aO seed n) (fO seed n)).1 (nwW seed n).2.1).1
 have h2:=aDp (aO seed n) (fO seed n)
 have h3:=aHv seed n
 have h4:=nJ seed n
 have h5:=(Bn (jM seed n)).2
 have h5:(nwW seed n).2.1.Data.length<=500:=h5
 unfold fT;omega
def bAl (seed:Int)(n:Nat)(d:D.Device):(pK seed n d).sz<=d.sz+2*n+20:=by
 have h1:=aVt (sS seed n d) (aO seed n) (fO seed n) (nwW seed n).2.1
 have h2:=aGb seed n d
 have h3:=nJ seed n
 unfold pK;omega
def aV5 {α:Type}{f:α->Nat}{b:Nat}:∀{l:List α},(∀x∈l,f x<=b)->(l.map f).sum<=l.length*b
 |[],_=>cy _
 |x::l,h=>by
  have h1:=h x (by simp);have h2:=aV5 (l:=l) (f:=f) (b:=b) λy hy=>h y (by simp[hy])
  simp only[bo,dz,au,cX];omega
def Wd (nm:ByteArray):∀(i:Nat) (l:List D.Device) (s:D.Site),(mM nm i l s).sz<=s.sz+l.length
 |_,[],s=>ak _
 |i,d::l,s=>by
  have h1:=Wd nm (i+1) l (gQ s 1 (i:Int) (iK d.Store nm (i:Int))).1
  have h2:=bAi s 1 (i:Int) (iK d.Store nm (i:Int))
  show(mM nm (i+1) l (gQ s 1 (i:Int) (iK d.Store nm (i:Int))).1).sz<=_
  rw[au];omega
def aHx (s:D.Site)(id m:Int):(kM s id m).1.sz<=s.sz+1:=by
 unfold kM
 cases bR s&&bR (mD s id m) with
 |false=>simp only[ab];omega
 |true=>
  have e:(s.Accounts.map D.Account.sz).sum=((s.Accounts.take (pI id s.Accounts)).map D.Account.sz).sum+((s.Accounts.drop (pI id s.Accounts)).map D.Account.sz).sum:=by rw[<-gf,<-da,cL]
  have el:(s.Accounts.take (pI id s.Accounts)).length+(s.Accounts.drop (pI id s.Accounts)).length=s.Accounts.length:=by rw[<-av,cL]
  simp only[ac,mD,D.Site.sz,av,da,gf,au,bn,bo,eM,dz,gA,D.Account.sz]
  omega
def aDq (nm:ByteArray)(s:Int):(dZ nm s).sz<=nm.size:=by
 unfold dZ
 cases iO nm s with
 |true=>simp[D.Site.sz]
 |false=>exact cy _
def aDr (seed:Int)(l:List D.Device)(j:Int):(sQ seed l j).sz<=l.length+101:=by
 have h1:=Wd (aA j) 0 l (kM (dZ (aA j) (aW seed [281,j])) 1 3).1
 have h2:=aHx (dZ (aA j) (aW seed [281,j])) 1 3
 have h3:=aDq (aA j) (aW seed [281,j])
 have h4:(aA j).size<=100:=by unfold aA;cases j==0<;>cases j==1<;>decide
 unfold sQ;omega
def aO0 (c:Int)(l:List Int)(n:Int):(rG c l n).length<=7:=by
 unfold rG
 cases hc:bH n 1 7&&decide ((l.length:Int)<n) with
 |false=>exact cy _
 |true=>
  rw[aa] at hc
  have:=iE hc.1
  simp only[ac,bl,fL];omega
def aQn (pin salt key secret:Int)(cs:List Int)(n limit:Int):(Fw pin salt key secret cs n limit).2.1.length<=7/\((Fw pin salt key secret cs n limit).2.1.map D.aAF.sz).sum=0:=by
 unfold Fw
 cases aGa pin salt key secret limit&& !((rG secret cs n).length==0) with
 |false=>exact⟨cy _,rfl⟩
 |true=>
  refine⟨by simp only[ac,bl];exact aO0 _ _ _,?_⟩
  have:=aV5 (f:=D.aAF.sz) (b:=0) (l:=(rG secret cs n).map λs=>yZ ⟨s,0,0,limit⟩) (λx hx=>by obtain⟨s,_,rfl⟩:=bu.1 hx;exact ak _)
  simp only[ac];omega
def aTi (n k t pin seed:Int):(aY n k t pin seed).sz<=100000:=by
 unfold aY
 cases hc:Bp n k t pin seed with
 |false=>exact cy _
 |true=>
  simp only[Bp,aa] at hc
  have hn:=iE hc.1
  obtain⟨N,hN⟩:∃N,N=n.toNat:=⟨_,rfl⟩
  have hN3:N<=3:=by omega
  have h1:=Bn (jM seed N)
  have h2:=aHu seed N
  have h3:=aHw seed N
  have h4:=aDr seed (bS seed N) 0
  have h5:=aDr seed (bS seed N) 1
  have h6:=aQn pin 7 (aW seed [283]) (IntKind.i64.wrap (1+(aW seed [293]).tmod 1018)) (Lu seed t) k 5
  have h7:(bS seed N).length=N:=by simp[bS]
  have h8:=aV5 (f:=D.Device.sz) (b:=26) (l:=((bS seed N).drop 1).map (pK seed N)) (λx hx=>by
   obtain⟨d,hd,rfl⟩:=bu.1 hx
   have hd':=cU hd
   simp only[bS,bu] at hd'
   obtain⟨i,_,rfl⟩:=hd'
   have:=bAl seed N (dH (aP seed (i:Int)))
   rw[aAt] at this;omega)
  have h9:(nwW seed N).1.sz=(jM seed N).sz:=h1.1
  have h6':(Fx seed t pin k).2.1.length<=7/\((Fx seed t pin k).2.1.map D.aAF.sz).sum=0:=h6
  rw[bl,ci,h7] at h8
  simp only[ac,<-hN,D.World.sz,gB,pJ,au,bl,ci,h7,bo,dz,bn,eM,gA,fb,h9]
  have h10:(fT seed N).sz<=14*N+501:=h3
  have h11:(N-1)*26<=52:=db 26 (show N-1<=2 by omega)
  simp only[D.aAE.sz,D.aAG.sz] at h10
  omega
def bAm (d:D.Device)(n:ByteArray)(h:Int)(rm:Bool):(dC d n h rm).1.Key=d.Key/\(dC d n h rm).1.Epoch=d.Epoch:=by
 unfold dC
 cases(gY d n h rm).2<;>exact⟨rfl,rfl⟩
def aQo (nm:ByteArray):∀(i:Nat) (d:D.Device),(Bo nm i d).Key=d.Key/\(Bo nm i d).Epoch=d.Epoch
 |0,d=>⟨rfl,rfl⟩
 |i+1,d=>by
  obtain⟨h1,h2⟩:=aQo nm i d;obtain⟨h3,h4⟩:=bAm (Bo nm i d) nm (i:Int) false
  exact⟨h3.trans h1,h4.trans h2⟩
def aV6 (seed:Int)(n:Nat):(jM seed n).Key=(sS seed n (dH (aP seed 0))).Key/\(jM seed n).Epoch=(sS seed n (dH (aP seed 0))).Epoch:=by
 obtain⟨h1,h2⟩:=aQo (aA 1) n (Bo (aA 0) n (sS seed n (dH (aP seed 0))))
 obtain⟨h3,h4⟩:=aQo (aA 0) n (sS seed n (dH (aP seed 0)))
 exact⟨h1.trans h3,h2.trans h4⟩
def aV7 {seed:Int}{n:Nat}(h:bG (sS seed n (dH (aP seed 0))).Key=true):(sS seed n (dH (aP seed 0))).Epoch=aF (aO seed n):=by
 unfold sS rF at h ⊢
 cases hq: !bL (aO seed n)||(!dG (aO seed n) (dH (aP seed 0)).Log||(decide (aF (aO seed n)<(dH (aP seed 0)).Epoch)|| !bG (bI seed 0))) with
 |true=>rw[hq] at h;exact absurd (show bG 0=true from h) (by decide)
 |false=>rfl
def bAn (seed:Int)(n:Nat):(nwW seed n).2.1=⟨0,0,[],0⟩\/(nwW seed n).2.1.Epoch=aF (aO seed n):=by
 obtain⟨k1,k2⟩:=aV6 seed n
 unfold nwW dK
 generalize jM seed n=d at k1 k2 ⊢
 cases hs:(nC d.Key d.Epoch (IntKind.i64.wrap (d.Version+1)) d.aAC).2 with
 |false=>exact .inl rfl
 |true=>
  refine .inr ?_
  simp only[ac]
  unfold nC at hs ⊢
  cases hc:bG d.Key&&(bH d.Epoch 0 1000000&&bH (IntKind.i64.wrap (d.Version+1)) 0 1000000)&&aM d.aAC with
  |false=>rw[hc] at hs;cases hs
  |true=>
   simp only[aa] at hc
   show d.Epoch=_
   rw[k2]
   exact aV7 (k1▸hc.1.1)
def bGx (seed:Int)(n:Nat)(d:D.Device):(bQ (sS seed n d) (fT seed n).Log (fT seed n).Boxes (dW (fT seed n) 0).1).1=pK seed n d:=aV4 (bAn seed n) (sS seed n d)
def bKd (f:Int->Int)(l:List Int)(j:Nat)(x:Int):Bool:=(l.take j).any λq=>f q==f x
def bGy (s:D.aAQ)(e:Int):Int:=bif aHt e&&(!(e==1)&&bH s.Value 0 1018) then wM e s.Value else 0
def aYe (k:D.aAR)(e:Int):D.aAR×Int×Bool:=bif aOk k&&(!(k.Guesses==k.Limit)&&(aHt e&& !(e==1))) then({k with Guesses:=IntKind.i64.wrap (k.Guesses+1)},bGy k.aAQ e,true) else(k,0,false)
def bOc (l:List D.aAR):List D.aAR:=bif decide ((l.length:Int)>30) then l.drop 1 else l
def aTj (h:D.aAF)(e:Int):D.aAF×Int×Bool:=bif decide (Ky h.State<h.Monotonic)|| !(aYe h.State e).2.2 then(h,0,false) else(⟨(aYe h.State e).1,bOc (h.Saved++[h.State]),Ky (aYe h.State e).1⟩,(aYe h.State e).2.1,true)
def bKe (l i b:Int):Int:=bif gJ b 1019==0 then 0 else wM (H7 l i) b
def bKf (hs:List D.aAF)(ch:List Int)(i:Nat)(c:Int):Bool:=(decide (c<0)||decide (c>=(hs.length:Int)))||bKd (λq=>q) ch i c
def bGz (hs:List D.aAF)(ch:List Int):Bool:= !gW (bKf hs ch) 0 ch
def bOd (e:Int)(s:List D.aAF×List Int×List Int)(c:Int):List D.aAF×List Int×List Int:=
 (s.1.set c.toNat (aTj (s.1.getD c.toNat default) e).1,bif (aTj (s.1.getD c.toNat default) e).2.2 then s.2.1++[(aTj (s.1.getD c.toNat default) e).1.State.aAQ.Index] else s.2.1,bif (aTj (s.1.getD c.toNat default) e).2.2 then s.2.2++[(aTj (s.1.getD c.toNat default) e).2.1] else s.2.2)
def bG0 (hs:List D.aAF)(ch:List Int)(e:Int):List D.aAF×List Int×List Int:=ch.foldl (bOd e) (hs,[],[])
def bH4 (n:Int):Int:=bif gJ n 1019==0 then 0 else aV1 1019 11 (gJ n 1019) 1017 1
def bOe (l:List Int)(k a w:Int)(j:Nat):Int:=bif (j:Int)==k then w else(IntKind.i64.wrap ((IntKind.i64.wrap (w*gJ (IntKind.i64.wrap (gJ a 1019-gJ (l.getD j 0) 1019)) 1019)).tmod 1019*bH4 (IntKind.i64.wrap (gJ (l.getD k.toNat 0) 1019-gJ (l.getD j 0) 1019)))).tmod 1019
def bOf (l:List Int)(k a:Int):Int:=bif (decide (k<0)||decide (k>=(l.length:Int)))||gW (bKd (λq=>gJ q 1019) l) 0 l then 0 else(List.range l.length).foldl (bOe l k a) 1
def bKg (a b:Int):Int:=bif aHt a&&aHt b then(IntKind.i64.wrap (a*b)).tmod 2039 else 0
def bG1 (ix vs:List Int)(i:Nat)(x:Int):Bool:= !bH x 1 7||(!aHt (vs.getD i 0)||bKd (λq=>q) ix i x)
def bL1 (ix vs:List Int):Int:=(List.range vs.length).foldl (λo i=>bKg o (wM (vs.getD i 0) (bOf ix (i:Int) 0))) 1
def bH5 (ix vs:List Int):Int×Bool:=bif (!(ix.length==vs.length)||ix.length==0)||gW (bG1 ix vs) 0 ix then(0,false) else(bL1 ix vs,true)
def bL2 (c b:Int):Int:=bif gJ b 1019==0 then 0 else wM c (bH4 b)
def bKh (v:D.aAP)(o:Int):Int×Bool:=bif H8 o v.Salt==v.Check then(aOx v.Masked o,true) else(0,false)
def We (v:D.aAP)(hs:List D.aAF)(ch:List Int)(pin b:Int):List D.aAF×List Int×List Int:=bG0 hs ch (bKe v.Salt pin b)
def bOg (hs:List D.aAF)(ch:List Int)(pin b:Int):Bool:=bGz hs ch&&(!(gJ b 1019==0)&&bH pin 0 9999)
def bH6 (v:D.aAP)(hs:List D.aAF)(ch:List Int)(pin b:Int):List D.aAF×Int×Bool:=
 bif !bOg hs ch pin b then(hs,0,false) else
 bif decide ((ch.length:Int)<v.Threshold)||(decide ((We v hs ch pin b).2.2.length<ch.length)|| !(bH5 (We v hs ch pin b).2.1 (We v hs ch pin b).2.2).2) then((We v hs ch pin b).1,0,false) else
  ((We v hs ch pin b).1,bKh v (yY (bL2 (bH5 (We v hs ch pin b).2.1 (We v hs ch pin b).2.2).1 b) v.Salt))
def bH7 (w:D.World):Int:=IntKind.i64.wrap (1+(aW w.Seed [313,w.Now]).tmod 1018)
def aO1 (w:D.World)(ch:List Int)(pin:Int):D.World×Int×Bool:=bif !aU w then(w,0,false) else
 (aYa {w with Hosts:=(bH6 w.aAP w.Hosts ch pin (bH7 w)).1} 5,(bH6 w.aAP w.Hosts ch pin (bH7 w)).2)
def bD3 (w:D.World):List Int:=(List.range (min w.aAP.Threshold ((w.Hosts.length:Int)+1)).toNat).map λ(i:Nat)=>(i:Int)
def bG2 (w:D.World)(pin:Int):D.World×Bool:=((aO1 w (bD3 w) pin).1,(aO1 w (bD3 w) pin).2.2)
structure AskIn (B:Nat) (hs:List D.aAF) (i:Nat) (s:List D.aAF×List Int×List Int):Prop where
 len:s.1.length=hs.length
 sz:∀h∈s.1,h.sz<=B+i
 eq:s.2.1.length=s.2.2.length
 le:s.2.2.length<=i
--needs aAK aAJ aAI
def bKi (w:D.World)(d:Int):D.World×Bool:=bif fC w d 0&& !jB w d then({w with Stolen:=w.Stolen.set d.toNat true},true) else(w,false)
def bG3 (b:D.aAB)(now:Int):D.aAB:=bif dN b then {b with Open:=b.Open.filter λc=>decide (c.Until>=now)} else b
def bD4 (w:D.World):D.World:={w with Now:=IntKind.i64.wrap (w.Now+1)}
def bL3 (w:D.World):D.World×Bool:=bif aU (bD4 w) then({bD4 w with Sites:=w.Sites.map λs=>{s with Book:=bG3 s.Book (bD4 w).Now}},true) else(w,false)
def bD5 (w:D.World)(d j:Int):D.World×Int:=bif fC w d j&&jB w d then Qk w d j (Uk j) else(w,1)
def bD6 (w:D.World)(d j:Int):D.World×Int:=bif fC w d j&& !jB w d then Qk w d j (aVz j) else(w,1)
def bOh:ByteArray:=⟨#[97,46,110,101,116]⟩
def bKj (w:D.World)(k d o v:Int)(f:Bool):D.World×Bool:=
 bif !aU w then(w,false) else
 bif k==1 then bL3 w else
 bif k==2 then((lG w d o).1,(lG w d o).2==0) else
 bif k==3 then((bD6 w d o).1,(bD6 w d o).2==0) else
 bif k==4 then bKi w d else
 bif k==5 then((bD5 w d o).1,(bD5 w d o).2==0) else
 bif k==6 then bGr w d else
 bif k==7 then bGw w d o else
 bif k==8 then eX w d bOh v f else
 bif k==9 then kK w d else
 bif k==10 then((bY w d v).1,(bY w d v).2==0) else
 bif k==11 then bG2 w v else
 bif k==12 then aS4 w else
 bif k==13 then aVr w o v else(w,false)
def aHy (l:List Int):Prop:=okL (λn:Int=>0<=n/\n<=255) l
noncomputable instance (l:List Int):Decidable (aHy l):=Classical.propDecidable _
def bD7 (l:List Int):Bool:=decide ((l.length:Int)>1048576)
def atF (l:List Int)(i:Int):Int:=bif decide (i<(l.length:Int)) then IntKind.i64.wrap (l.getD i.toNat 0) else(IntKind.i64.wrap (IntKind.i64.wrap (i*31)+IntKind.i64.wrap ((l.length:Int)*7))).tmod 256
def bL4 (b:D.aAG):Prop:=∀x∈b.Boxes,aT x.Data
def bD8 (c:D.aAE):Prop:=bL4 c.Boxes/\∀s∈c.History,aT s.Data
instance (b:D.aAG):Decidable (bL4 b):=inferInstanceAs (Decidable (∀x∈b.Boxes,aT x.Data))
instance (c:D.aAE):Decidable (bD8 c):=inferInstanceAs (Decidable (_/\_))
def bL5 {l:List Int}(h:aHy l)(hb:l.length<=1048576){i:Int}(h0:0<=i)(h1:i<=1000):0<=atF l i/\atF l i<=255:=by
 unfold atF
 by_cases hi:i<(l.length:Int)
 ·rw[ao hi,ac,List.getD,ae (show i.toNat<l.length by omega),cu]
  have:=h.2 _ (cx (show i.toNat<l.length by omega))
  rw[aJ (by omega) (by omega)];exact this
 ·rw[ap hi,ab,aJ (show-9223372036854775808<=i*31 by omega) (by omega),aJ (show-9223372036854775808<=(l.length:Int)*7 by omega) (by omega),aJ (by omega) (by omega)]
  have:=e8 (a:=i*31+(l.length:Int)*7) 256 (by omega)
  have:=eV (i*31+(l.length:Int)*7) (show(0:Int)<256 by decide)
  omega
--needs aAX Event
def bH8 (c:D.aAX):Prop:=0<=c.i/\c.b.length<=1048576
instance (c:D.aAX):Decidable (bH8 c):=by unfold bH8;infer_instance
def bG4 (h:Int):Int:=IntKind.i64.wrap (IntKind.i64.wrap (h*6364136223846793005)+1442695040888963407)
def bH9 (h:Int):Int:=sF IntKind.i64 (aY7 IntKind.i64 (Kj IntKind.i64 h 33) (Kj IntKind.i64 h 47)) 255
def Lv (c:D.aAX):D.aAX×Int:=bif decide (c.i<(c.b.length:Int)) then(⟨c.b,IntKind.i64.wrap (c.i+1),bG4 c.h⟩,sF IntKind.i64 (IntKind.i64.wrap (bH9 (bG4 c.h)+IntKind.i64.wrap (c.b.getD c.i.toNat 0))) 255) else(⟨c.b,c.i,bG4 c.h⟩,bH9 (bG4 c.h))
def bD9 (c:D.aAX)(n:Int):D.aAX×Int:=bif decide (n<=0) then(c,0) else bif decide (n<=256) then((Lv c).1,(Lv c).2.tmod n) else
 ((Lv (Lv (Lv c).1).1).1,(IntKind.i64.wrap (IntKind.i64.wrap (IntKind.i64.wrap ((Lv c).2*65536)+IntKind.i64.wrap ((Lv (Lv c).1).2*256))+(Lv (Lv (Lv c).1).1).2)).tmod n)
def eA (c:D.aAX):D.aAX×Int:=bD9 c 13
def eB (c:D.aAX):D.aAX×Int:=bD9 (eA c).1 4
def aQe (e:D.Event):Prop:=(1<=e.Kind/\e.Kind<=13)/\(0<=e.Device/\e.Device<=3)/\(0<=e.Other/\e.Other<=2)/\(0<=e.Value/\e.Value<=39)/\(e.Kind≠11->e.Value<=3)
--needs Event World
def evF (w:D.World)(e:D.Event):D.World×Bool:=bKj w e.Kind e.Device e.Other e.Value e.Flag
end Go.VK
