import Derived.Test.YtfllllgehgablaaGreatDoorEVzbtod
import Derived.Test.YtfllllgehgablaaGreatDoorXsS
/- Printed by wip/tools: models, walks, proofs. -/
set_option linter.all false
set_option maxRecDepth 100000
set_option maxHeartbeats 4000000
namespace Go.VK
open Go.RowKit Go.Proofs
def Ub (k:D.aAV):Int:=IntKind.i64.wrap (IntKind.i64.wrap (k.Epoch*1000)+k.Guesses)
def aD0 {h v:Int}(h0:0<=h)(h1:h<2147483647):0<=hstep h v/\hstep h v<2147483647:=by
 have hm:=vV (p:=v) (q:=2147483647) (by omega)
 unfold hstep
 generalize gK v 2147483647=z at*
 have e1:IntKind.i64.wrap (h*1000003)=h*1000003:=aI (by omega) (by omega)
 have e2:IntKind.i64.wrap (h*1000003+z)=h*1000003+z:=aI (by omega) (by omega)
 have e3:IntKind.i64.wrap (h*1000003+z+13)=h*1000003+z+13:=aI (by omega) (by omega)
 rw[e1,e2,e3]
 exact⟨fv _ (by omega),fw _ (by decide)⟩
def aT2 (l:List Int):0<=tY l/\tY l<2147483647:=by
 unfold tY
 suffices ∀(l:List Int) (h:Int),0<=h->h<2147483647->0<=l.foldl hstep h/\l.foldl hstep h<2147483647 from this l 11 (by omega) (by omega)
 intro l
 induction l with
 |nil=>intro h h0 h1;exact⟨h0,h1⟩
 |cons x xs ih=>intro h h0 h1;exact ih _ (aD0 h0 h1).1 (aD0 h0 h1).2
def kF (k:Int)(l:List Int):0<=bJ k l/\bJ k l<2147483647:=aT2 _
def aRf (a b:Int):Int:=bif decide (b>a) then b else a
def oQ (a:List Int)(r:List (List Int)):List Int:=a++r.flatten
def iI (n:Int):Int:=bif n==0 then 1 else n
def bG (n:Int):Bool:=bI n 1 2147483646
def vD (b:List Int):List Int:=[(b.length:Int)]++b.map IntKind.i64.wrap
def aT (seed:Int)(l:List Int):Int:=iI (bJ seed ([151]++l))
def wF (k:Int)(s:ByteArray):Int:=iI (bJ k (vD (bQ s)))
def cB (p:Int):Int:=bif !(bG p) then 0 else(IntKind.i64.wrap (p*48271)).tmod 2147483647
def fP (s:D.aAI):Int:=aT s.Seed [181]
def aY (s:D.aAI):Int:=cB (fP s)
def gM (l:List Int)(x:Int):Bool:=l.any λe=>e==x
def iJ (log:List D.aAC)(p:Int):Bool:=log.any λe=>e.Kind==2&&e.Device==p
def iQ (s:List Int)(e:D.aAC):List Int:=
 bif e.Kind==1 then(bif s.contains e.Device then s else s++[e.Device]) else bif e.Kind==2 then s.filter (λd=>d !=e.Device) else s
def aD (log:List D.aAC):List Int:=log.foldl iQ []
def aJ (log:List D.aAC):Int:=log.foldl (λn e=>bif e.Kind==2 then IntKind.i64.wrap (n+1) else n) 0
def aK (b:D.aAF)(site handle:Int):Int:=iG (λe=>e.Site==site&&e.Handle==handle) 0 b.Entries
def aC (s:D.Site)(id:Int):Int:=iG (λa=>a.Id==id) 0 s.Accounts
def aD1 (s:List Int)(x:D.aAC):(iQ s x).length<=s.length+1:=by
 unfold iQ
 cases x.Kind==1 with
 |true=>cases s.contains x.Device<;>simp
 |false=>
  cases x.Kind==2 with
  |true=>have:=List.length_filter_le (λd=>d !=x.Device) s;simp;omega
  |false=>simp
def iD (log:List D.aAC):(aD log).length<=log.length:=by
 suffices ∀(l:List D.aAC) (s:List Int),(l.foldl iQ s).length<=s.length+l.length from by simpa[aD] using this log []
 intro l
 induction l with
 |nil=>intro s;simp
 |cons x xs ih=>
  intro s
  simp only[dc,av]
  have h1:=ih (iQ s x)
  have h2:(iQ s x).length<=s.length+1:=by
   unfold iQ
   cases x.Kind==1 with
   |true=>cases s.contains x.Device<;>simp
   |false=>
    cases x.Kind==2 with
    |true=>have:=List.length_filter_le (λd=>d !=x.Device) s;simp;omega
    |false=>simp
  omega
def aT3 {n:Int}(h:0<=n):aRf 1 n=iI n:=by
 unfold aRf iI
 rcases(show n=0\/n=1\/n>1 by omega) with rfl|rfl|h1
 ·rfl
 ·rfl
 ·have:(n==0)=false:=by simp;omega
  simp[h1,this]
def bT (s:ByteArray):Int:=wF 173 s
def WOk (w:D.World):Prop:=w.Devices.length<=34359738368/\w.Stolen.length<=34359738368/\w.aAB.Log.length<=34359738368/\w.Sites.length<=34359738368
instance (w:D.World):Decidable (WOk w):=inferInstanceAs (Decidable (_/\_))
def aN (w:D.World)(d:Int):Bool:=decide (0<=d)&&decide (d<w.Devices.length)
def aPa {w:D.World}(h:WOk w)(d:Int):bI d 0 (IntKind.i64.wrap ((w.Devices.length:Int)-1))=aN w d:=by
 have:=h.1
 rw[aI (by omega) (by omega)]
 unfold bI aN
 congr 1
 exact cD.2 (by omega)
def aO (w:D.World)(d:Int):D.Device:=w.Devices.getD d.toNat default
def vE {w:D.World}{d:Int}(h:aN w d=true):bA w.Devices d=some (aO w d):=by
 simp only[aN,aa,bp] at h
 rw[rQ h.1 (by omega)]
 simp[aO,List.getD,ac (show d.toNat<w.Devices.length by omega)]
def kG (w:D.World)(d:Int):Bool:=aN w d&&gM (aD w.aAB.Log) (aY (aO w d).Store)
def WOk.of {w:D.World}(h:w.sz<=1048576):WOk w:=by
 simp only[D.World.sz,D.aAB.sz] at h
 unfold WOk
 omega
def aH5 (k:Int)(i:Nat)(z:Int):Int:=IntKind.u8.wrap ((z-bJ k [(i:Int)])%256)
def Iy (k:Int)(b:List Int):List Int:=Iu (λi z=>[aH5 k i z]) 0 b
def aT4 (x:Int):gK (IntKind.i64.wrap x) 256=x%256:=by
 rw[gK,cH (by omega),IntKind.wrap_i64];omega
def bEz (k:Int)(i:Nat)(z:Int):IntKind.u8.wrap (gK (IntKind.i64.wrap (IntKind.i64.wrap z-bJ k [(i:Int)])) 256)=aH5 k i z:=by
 rw[aT4,aH5,IntKind.wrap_i64];congr 1;omega
def bE0 (k:Int)(i:Nat)(z:Int):IntKind.u8.wrap (gK (IntKind.i64.wrap (IntKind.i64.wrap z-(bJ k [(i:Int)]).tmod 256)) 256)=aH5 k i z:=by
 rw[aT4,aH5,IntKind.wrap_i64,cp (kF _ _).1];congr 1;omega
def oU {α β:Type}{y:Nat->α->β}:∀{i:Nat} {l:List α},(Iu (λi x=>[y i x]) i l).length=l.length
 |i,[]=>rfl
 |i,x::xs=>by simp[Iu,oU]
def fD (p e:Int):Int:=aT p [163,e]
def Lg (k:Int)(b:D.Box):Int:=bJ k ([167,b.To,b.Ephemeral]++vD b.Data)
def dX (p:Int)(b:D.Box):List Int×Bool:=
 bif !bG p||(b.To !=cB p||(!bG b.Ephemeral||decide ((b.Data.length:Int)>200))) then([],false)
 else bif b.MAC !=Lg (fD p b.Ephemeral) b then([],false) else(Iy (fD p b.Ephemeral) b.Data,true)
def eY:List D.Box->Int->List Int×Bool
 |[],_=>([],false)
 |b::bs,p=>bif (dX p b).2 then((dX p b).1,true) else eY bs p
def aQ (b:List Int):Prop:=b.length<=34359738368/\b.all (λz=>decide (0<=z)&&decide (z<=255))=true
instance (b:List Int):Decidable (aQ b):=inferInstanceAs (Decidable (_/\_))
def yY {b:List Int}(h:aQ b){i:Nat}(hi:i<b.length):0<=b[i]/\b[i]<=255:=by
 have:=cG.1 h.2 b[i] (cN hi)
 simpa using this
def uvG (b:List Int)(p:Nat):Nat->Nat->Int->Int×Int×Bool
 |0,_,_=>(0,0,false)
 |k+1,i,n=>
  if p+i<b.length then
   bif decide (b.getD (p+i) 0<128) then
    (bif (decide (0<i)&&b.getD (p+i) 0==0)||decide (n+b.getD (p+i) 0%128*128^i>1000000000000) then(0,0,false) else(n+b.getD (p+i) 0%128*128^i,((p+i+1:Nat):Int),true))
   else uvG b p k (i+1) (n+b.getD (p+i) 0%128*128^i)
  else(0,0,false)
def vF (b:List Int)(at_:Int):Int×Int×Bool:=if at_<0 then(0,0,false) else uvG b at_.toNat 6 0 0
def aRg {i:Nat}(h:i<=6):(1:Int)<=128^i/\(128:Int)^i<=4398046511104:=by
 match i,h with
 |0,_|1,_|2,_|3,_|4,_|5,_|6,_=>decide
def aRh {z n:Int}{i:Nat}(hi:i<=5)(hz:0<=z)(hn:0<=n)(hn':n<128^i):0<=n+z%128*128^i/\n+z%128*128^i<128^(i+1)/\0<=z%128*128^i/\z%128*128^i<=127*128^i:=by
 have hp:=aRg (i:=i) (by omega)
 have h1:0<=z%128*128^i:=ju (by omega) (by omega)
 have h2:z%128*128^i<=127*128^i:=Int.mul_le_mul_of_nonneg_right (by omega) (by omega)
 rw[e8]
 refine⟨by omega,by omega,h1,h2⟩
def bH0 {z n:Int}{i:Nat}(hi:i<=5)(hz:0<=z)(hz':z<=255)(hn:0<=n)(hn':n<128^i):
  orI .i64 n (p8 .i64 (mF .i64 z 127) (IntKind.i64.wrap (7*(i:Int))))=n+z%128*128^i:=by
 obtain⟨m,rfl⟩:=eC hz
 obtain⟨q,rfl⟩:=eC hn
 have hp:=aRg (i:=i) (by omega)
 have hs:=aRh (z:=(m:Int)) (n:=(q:Int)) hi (by omega) (by omega) hn'
 have ha:mF .i64 (m:Int) 127=((m%128:Nat):Int):=by
  have e:((BitVec.ofInt 64 (m:Int))&&&(BitVec.ofInt 64 127)).toNat=m%128:=by
   rw[BitVec.toNat_and]
   have e1:(BitVec.ofInt 64 (m:Int)).toNat=m:=by
    rw[BitVec.toNat_ofInt];omega
   have e2:(BitVec.ofInt 64 127).toNat=2^7-1:=by decide
   rw[e1,e2,fW]
  show IntKind.i64.wrap (((BitVec.ofInt 64 (m:Int))&&&(BitVec.ofInt 64 127)).toNat:Int)=_
  rw[e];exact aI (by omega) (by omega)
 have hw:IntKind.i64.wrap (7*(i:Int))=((7*i:Nat):Int):=by rw[aI (by omega) (by omega)];omega
 have hpn:(2:Nat)^(7*i)=128^i:=by rw[Nat.pow_mul]
 have hpi:((128^i:Nat):Int)=(128:Int)^i:=by simp
 have hb:p8 .i64 (mF .i64 (m:Int) 127) (IntKind.i64.wrap (7*(i:Int)))=((m%128*128^i:Nat):Int):=by
  rw[ha,hw]
  unfold p8
  rw[cm,show min (7*i) IntKind.i64.bits=7*i from jh (by simp[IntKind.bits];omega)]
  have e3:((m%128:Nat):Int)*2^(7*i)=((m%128*128^i:Nat):Int):=by
   rw[<-hpn];simp
  rw[e3]
  have:((m%128*128^i:Nat):Int)=(m:Int)%128*128^i:=by simp
  rw[this]
  exact aI (by omega) (by omega)
 rw[hb]
 have hqlt:q<128^i:=by rw[<-hpi] at hn';exact_mod_cast hn'
 have hor:(m%128*128^i)|||q=m%128*128^i+q:=by
  have:=jg (b:=q) (i:=7*i) (by rw[hpn];exact hqlt) (m%128)
  rw[Nat.shiftLeft_eq,hpn] at this
  exact this.symm
 have hle:m%128*128^i+q<2^63:=by
  have:((m%128*128^i+q:Nat):Int)=q+(m:Int)%128*128^i:=by simp;omega
  omega
 have e4:((BitVec.ofInt 64 (q:Int))|||(BitVec.ofInt 64 ((m%128*128^i:Nat):Int))).toNat=m%128*128^i+q:=by
  rw[BitVec.toNat_or]
  have e5:(BitVec.ofInt 64 (q:Int)).toNat=q:=by rw[BitVec.toNat_ofInt];omega
  have e6:(BitVec.ofInt 64 ((m%128*128^i:Nat):Int)).toNat=m%128*128^i:=by rw[BitVec.toNat_ofInt];omega
  rw[e5,e6,Nat.or_comm,hor]
 show IntKind.i64.wrap (((BitVec.ofInt 64 (q:Int))|||(BitVec.ofInt 64 ((m%128*128^i:Nat):Int))).toNat:Int)=_
 rw[e4,aI (by omega) (by omega)]
 simp
 omega
def jB (b:List Int):Nat->Int->List Int->List Int×Int×Bool
 |0,a,s=>(s,a,true)
 |k+1,a,s=>bif (vF b a).2.2 then jB b k (vF b a).2.1 (s++[(vF b a).1]) else([],0,false)
def gQ (b:List Int)(a c:Int):List Int×Int×Bool:=bif !bI c 0 100|| !bI a 0 b.length then([],0,false) else jB b c.toNat a []
def aT5 (b:List Int):∀(k:Nat) (a:Int) (s:List Int),(jB b k a s).2.2=true->(jB b k a s).1.length=s.length+k
 |0,a,s,_=>rfl
 |k+1,a,s,h=>by
  unfold jB at h ⊢
  cases hu:(vF b a).2.2 with
  |false=>rw[hu] at h;simp at h
  |true=>
   rw[hu] at h
   simp only[ae] at h ⊢
   rw[aT5 b k _ _ h];simp;omega
def decode_len {b:List Int}{a c:Int}(hc:0<=c)(h:(gQ b a c).2.2=true):(gQ b a c).1.length=c.toNat:=by
 unfold gQ at h ⊢
 cases hx:(!bI c 0 100|| !bI a 0 b.length) with
 |true=>rw[hx] at h;simp at h
 |false=>
  rw[hx] at h
  simp only[ab] at h ⊢
  rw[aT5 _ _ _ _ h];simp
def aRi {k:Int}{b:List Int}(h:b.length<=34359738368):aQ (Iy k b):=by
 refine⟨by unfold Iy;rw[oU];exact h,?_⟩
 rw[cG]
 intro z hz
 have:∀(b:List Int) (i:Nat),z∈Iu (λi z=>[aH5 k i z]) i b->0<=z/\z<=255:=by
  intro b
  induction b with
  |nil=>intro i h;simp[Iu] at h
  |cons x xs ih=>
   intro i h
   simp only[Iu,bw,cy] at h
   rcases h with rfl|h
   ·have:=dG .u8 ((x-bJ k [(i:Int)])%256)
    simpa[aH5,IntKind.min,IntKind.max,IntKind.signed,IntKind.bits] using this
   ·exact ih _ h
 have:=this b 0 hz
 simp[this.1,this.2]
def aWw (p:Int)(b:D.Box):aQ (dX p b).1:=by
 unfold dX
 have h0:aQ ([]:List Int):=by decide
 by_cases hl:b.Data.length<=200
 ·cases(!bG p||(b.To !=cB p||(!bG b.Ephemeral||decide ((b.Data.length:Int)>200))))<;>cases(b.MAC !=Lg (fD p b.Ephemeral) b)<;>first|exact h0|exact aRi (by omega)
 ·have e1:decide ((b.Data.length:Int)>200)=true:=by simp;omega
  rw[e1];simpa using h0
def Vo (p:Int):∀bs,aQ (eY bs p).1
 |[]=>show aQ [] by decide
 |b::bs=>by
  unfold eY
  cases(dX p b).2 with
  |true=>exact aWw p b
  |false=>exact Vo p bs
def Ga (e:D.aAE)(x:List Int×Bool)(y:List Int×Int×Bool):Int×Bool:=
 bif !x.2||(!y.2.2||(y.2.1 !=(x.1.length:Int)||(y.1.getD 0 0 !=e.Epoch|| !bG (y.1.getD 1 0)))) then(0,false) else(y.1.getD 1 0,true)
def bB (s:D.aAI)(e:D.aAE):Int×Bool:=Ga e (eY e.Boxes (fP s)) (gQ (eY e.Boxes (fP s)).1 0 2)
def and_one {n:Int}(h0:0<=n)(h1:n<9223372036854775808):mF .i64 n 1=n%2:=by
 obtain⟨m,rfl⟩:=eC h0
 have e:((BitVec.ofInt 64 (m:Int))&&&(BitVec.ofInt 64 1)).toNat=m%2:=by
  rw[BitVec.toNat_and]
  have e1:(BitVec.ofInt 64 (m:Int)).toNat=m:=by rw[BitVec.toNat_ofInt];omega
  have e2:(BitVec.ofInt 64 1).toNat=2^1-1:=by decide
  rw[e1,e2,fW]
 show IntKind.i64.wrap (((BitVec.ofInt 64 (m:Int))&&&(BitVec.ofInt 64 1)).toNat:Int)=_
 rw[e,aI (by omega) (by omega)];omega
def aZc {n:Int}(h0:0<=n):Bf .i64 n 1=n/2:=by
 unfold Bf
 rw[show min (Int.toNat 1) IntKind.i64.bits=1 from by decide,gl _ (by decide)];rfl
def bBf:Nat->Int->Int->Int->Int
 |0,_,_,s=>s
 |k+1,b,n,s=>if n>0 then bBf k ((IntKind.i64.wrap (b*b)).tmod 2147483647) (n/2) (bif n%2==1 then(IntKind.i64.wrap (s*b)).tmod 2147483647 else s) else s
def aZd:bBf 31 48271 2147483645 1=1899818559:=by decide+kernel
def eP (q:Int):Int:=bif !bG q then 0 else q*1899818559%2147483647
def yZ (p:Int)(l:List Int):Int:=bif !bG p then 0 else bJ p ([139,(l.length:Int)]++l)
def gB (q:Int)(l:List Int)(g:Int):Bool:=eP q !=0&&yZ (eP q) l==g
def Lh {α:Type}[Inhabited α]{l:List α}{i:Nat}(h0:0<i)(hi:i<l.length)(hl:l.length<=34359738368):bA l (IntKind.i64.wrap ((i:Int)-1))=some (l.getD (i-1) default):=by
 rw[aI (by omega) (by omega),show(i:Int)-1=((i-1:Nat):Int) by omega,aM (by omega)]
 simp[List.getD,ac (show i-1<l.length by omega)]
def rD (l:List D.aAR)(i:Nat)(n:D.aAR):Bool:= !bI n.Kind 1 5||(!bI n.aAH 0 1000000||(!bI n.Time 0 1000000||(decide (0<i)&&decide ((l.getD (i-1) default).Time>n.Time))))
def dV (m:D.aAJ):Bool:=decide (m.Notices.length<=30)&& !gL (rD m.Notices) 0 m.Notices
def gD (b:D.aAD)(i:Nat)(n:D.aAM):Bool:= !bI n.Id 0 (IntKind.i64.wrap (b.Next-1))||((decide (0<i)&&decide ((b.Open.getD (i-1) default).Id>=n.Id))||(!bI n.aAH 0 1000005|| !bI n.Until 0 1000005))
def dW (b:D.aAD):Bool:=bI b.Next 0 1000000&&decide (b.Open.length<=16)&& !gL (gD b) 0 b.Open
def rU (a:D.aAH)(i:Nat)(n:D.aAK):Bool:=(!bI n.Handle 0 1000000||((decide (0<i)&&decide ((a.Credentials.getD (i-1) default).Handle>=n.Handle))||(eP n.Public==0|| !bI n.Counter 0 1000000)))||(a.Credentials.take i).any λq=>q.Public==n.Public
def aZ (a:D.aAH):Bool:=bI a.Id 0 1000000&&bI a.Minimum 1 3&&decide (a.Credentials.length<=8)&& !gL (rU a) 0 a.Credentials
def bY (e:D.aAC):Int:=tY [229,e.Index,e.Kind,e.Device,e.By,e.Previous]
def fQ (l:List D.aAC):Int:=bif (l.length:Int)==0 then 0 else bY (l.getD (l.length-1) default)
def lD (l:List D.aAC)(e:D.aAC):Bool:=
 e.Index==(l.length:Int)&&(e.Previous==fQ l&&((gM (aD l) e.By||((l.length:Int)==0&&e.By==e.Device))&&(gB e.By [bY e] e.Signature&&
  (bif e.Kind==2 then gM (aD l) e.Device&&decide (((aD l).length:Int)>1) else !iJ l e.Device&&(e.Kind==1&&(!gM (aD l) e.Device&&decide (((aD l).length:Int)<6)))))))
def bC (l:List D.aAC):Bool:=bI (l.length:Int) 1 40&& !gL (λi e=> !lD (l.take i) e) 0 l
def bE1 {l:List Int}{x:Int}(h:gM l x=true):0<l.length:=by
 cases l with
 |nil=>simp[gM] at h
 |cons a r=>simp
def iK:List UInt8->List UInt8->List (List UInt8)
 |cur,[]=>[cur]
 |cur,b::r=>bif b==46 then cur::iK [] r else iK (cur++[b]) r
def bE2 (s:List UInt8)(i:Nat):Lib.occAt s [46] i=decide (s[i]? =some 46):=by
 unfold Lib.occAt
 cases h:s.drop i with
 |nil=>
  have:s.length<=i:=List.drop_eq_nil_iff.1 h
  simp[dg this,List.isPrefixOf]
 |cons b r=>
  have e:s[i]? =some b:=by
   have:=eg (xs:=s) (i:=i) (j:=0)
   rw[h] at this;simpa using this.symm
  rw[e];simp only[List.isPrefixOf,fa,ai]
  rw[eR];simp only[cI,bp];exact eq_comm
def aH6:∀(a cur r:List UInt8),(∀b∈a,b≠46)->iK cur (a++46::r)=(cur++a)::iK [] r
 |[],cur,r,_=>by simp[iK]
 |b::a,cur,r,h=>by
  have hb:(b==46)=false:=by simpa using h b (by simp)
  rw[cA,iK,hb,ab,aH6 a _ r (λx hx=>h x (cY _ hx))];simp
def aD2:∀(a cur:List UInt8),(∀b∈a,b≠46)->iK cur a=[cur++a]
 |[],cur,_=>by simp[iK]
 |b::a,cur,h=>by
  have hb:(b==46)=false:=by simpa using h b (by simp)
  rw[iK,hb,ab,aD2 a _ (λx hx=>h x (cY _ hx))];simp
def aT6:∀(n:Nat) (s:List UInt8),s.length<n->Lib.splitK [46] 0 (Lib.count s [46]) s=iK [] s
 |0,s,h=>absurd h (Nat.not_lt_zero _)
 |n+1,s,h=>by
  rcases Lib.index_spec s [46] with⟨h1,h2⟩|⟨i,h1,h2,h3,h4⟩
  ·rw[Lib.count_miss h1,aD2 s [] (λb hb e=>by
    obtain⟨j,hj,ej⟩:=List.getElem_of_mem hb
    have:=h2 j (by omega)
    rw[bE2,ac hj,ej,e] at this;simp at this)];rfl
  ·rw[bE2] at h3
   have h3:s[i]? =some 46:=by simpa using h3
   have hi:i<s.length:=by
    rcases fx i s.length with hlt|hge
    ·exact hlt
    ·rw[dg hge] at h3;cases h3
   rw[Lib.count_hit (by simp) h1,Nat.add_comm,Lib.splitK,h1]
   have hne:((i:Int)== -1)=false:=by simp
   rw[hne]
   simp only[cm,ee,av,bo,ca]
   rw[cX (by simp),aT6 n (s.drop (i+1)) (by rw[ck];omega)]
   have es:s=s.take i++46::s.drop (i+1):=by
    have e2:s[i]=46:=by rw[ac hi] at h3;exact ak h3
    rw[<-e2,List.getElem_cons_drop hi,cF]
   conv=>rhs;rw[es]
   rw[aH6 (s.take i) [] _ (λb hb e=>by
    obtain⟨j,hj,ej⟩:=List.getElem_of_mem hb
    rw[bz] at hj
    have:=h4 j (by omega)
    rw[bE2,ac (by omega)] at this
    rw[gp] at ej
    rw[ej,e] at this;simp at this)];simp
def bF (s:ByteArray):List ByteArray:=(iK [] s.data.toList).map λl=>⟨l.toArray⟩
def aH7 (s:ByteArray):jT s ⟨#[46]⟩=bF s:=by
 have h1:(jT s ⟨#[46]⟩).map (·.data.toList)=iK [] s.data.toList:=by
  rw[jT,Lib.splitB_data];exact aT6 _ _ (dq _)
 unfold bF
 rw[<-h1,gz]
 conv=>lhs;rw[<-List.map_id (jT s ⟨#[46]⟩)]
 congr 1
def F8 (b:Int):Bool:=bI b 97 122||bI b 48 57||b==45
def sI (s:ByteArray):Bool:=decide (1<=s.size)&&decide (s.size<=20)&& !((bQ s).getD 0 0==45)&& !((bQ s).getD (s.size-1) 0==45)&& !((bQ s).any λb=> !F8 b)
def fE (s:ByteArray):Bool:=decide (s.size<=60)&& !((bF s).any λl=> !sI l)
def jJ (s:ByteArray):(bQ s).length=s.size:=by simp only[bQ,bl];rfl
def aT7 {s:ByteArray}{i:Nat}(h:i<s.size):bA (bQ s) (i:Int)=some ((bQ s)[i]'(by rw[jJ];exact h)):=aM _
def ext_list (s:ByteArray)(a b:Nat):s.extract a b=⟨((s.data.toList.drop a).take (b-a)).toArray⟩:=by
 apply ByteArray.ext
 apply jf.1
 rw[Lib.extract_data]
def Vp:∀(s cur:List UInt8),(iK cur s).length<=s.length+1
 |[],_=>by simp[iK]
 |b::r,cur=>by
  rw[iK]
  cases b==46 with
  |true=>have:=Vp r [];simp;omega
  |false=>have:=Vp r (cur++[b]);simp at this ⊢;omega
def Li:∀(s cur:List UInt8) (l:List UInt8),l∈iK cur s->l.length<=cur.length+s.length
 |[],cur,l,h=>by simp[iK] at h;subst h;simp
 |b::r,cur,l,h=>by
  rw[iK] at h
  cases hb:b==46 with
  |true=>
   rw[hb,ae] at h
   rcases ba.1 h with rfl|h
   ·omega
   ·have:=Li r [] l h;simp at this ⊢;omega
  |false=>rw[hb,ab] at h;have:=Li r _ l h;simp at this ⊢;omega
def Lj (s:ByteArray):(bF s).length<=s.size+1:=by
 unfold bF;rw[bl];exact Vp _ _
def vG (s l:ByteArray)(h:l∈bF s):l.size<=s.size:=by
 unfold bF at h
 obtain⟨q,hq,rfl⟩:=cg.1 h
 have:=Li _ _ q hq
 have h2:(⟨q.toArray⟩:ByteArray).size=q.length:=rfl
 have h3:s.data.toList.length=s.size:=rfl
 have h4:([]:List UInt8).length=0:=rfl
 omega
def bNn (z:ByteArray):(z.toList==(⟨#[]⟩:ByteArray).toList)=decide (z.size=0):=by
 rw[ByteArray.toList_eq,ByteArray.toList_eq,eR]
 simp only[cI,bp]
 constructor
 ·intro h
  show z.data.size=0
  rw[<-cx,h];rfl
 ·intro h
  exact bu h
def vH:∀(s cur:List UInt8),(iK cur s).length=s.countP (·==46)+1
 |[],_=>rfl
 |b::r,cur=>by
  rw[iK,List.countP_cons]
  cases b==46 with
  |true=>rw[ae,av,vH r []];simp
  |false=>rw[ab,vH r _];simp
def aD3 (s:ByteArray):0<(bF s).length:=by
 unfold bF;rw[bl,vH];omega
def Qk (s:ByteArray):Bool:=(bQ s).any λb=>b==46
def aMh (s:ByteArray):Qk s=decide (2<=(bF s).length):=by
 unfold Qk bF bQ
 rw[bl,vH,List.any_map]
 have e:(λb:Int=>b==46)∘(λb:UInt8=>(b.toNat:Int))=λb:UInt8=>b==46:=by
  funext b
  rw[eR]
  simp only[Function.comp,cI]
  constructor
  ·intro q;apply UInt8.toNat_inj.1;show _=46;omega
  ·intro q;rw[q];rfl
 rw[e,eR,gx,bp]
 have:=List.countP_pos_iff (p:=λb:UInt8=>b==46) (l:=s.data.toList)
 constructor
 ·intro h;have:=this.2 h;omega
 ·intro h;exact this.1 (by omega)
def bBg (s:ByteArray):ByteArray:=bif fE s then(bif (bF s).length==1 then s else nW ⟨#[46]⟩ ((bF s).drop ((bF s).length-2))) else⟨#[]⟩
def bJp {l:List ByteArray}(h:2<=l.length):∃a∈l,∃b∈l,nW ⟨#[46]⟩ (l.drop (l.length-2))=a++⟨#[46]⟩++b:=by
 have hl:(l.drop (l.length-2)).length=2:=by rw[ck];omega
 match hm:l.drop (l.length-2),hl with
 |[a,b],_=>
  refine⟨a,dl (i:=l.length-2) (by rw[hm];simp),b,dl (i:=l.length-2) (by rw[hm];simp),?_⟩
  rw[show[a,b]=[a]++[b] from rfl,bG1 _ _ _ (by simp),bG0]
def Ll {s:ByteArray}(h:fE s=true):s.size<=60/\0<s.size:=by
 unfold fE at h
 rw[aa,bp] at h
 refine⟨h.1,Nat.pos_of_ne_zero λe=> ?_⟩
 have e2:s.data.toList=[]:=bu e
 have e3:bF s=[⟨#[]⟩]:=by unfold bF;rw[e2];rfl
 rw[e3] at h
 exact absurd h.2 (by decide)
def bH1 {s:ByteArray}(h:fE s=true):decide ((bBg s).size=0)=false:=by
 have hs:=Ll h
 have hp:=aD3 s
 unfold bBg
 rw[h,ae]
 refine au ?_
 cases h1:(bF s).length==1 with
 |true=>rw[ae];omega
 |false=>
  rw[ab]
  have:(bF s).length≠1:=by simpa using h1
  obtain⟨a,_,b,_,e⟩:=bJp (l:=bF s) (by omega)
  rw[e,ByteArray.size_append,ByteArray.size_append]
  have:(⟨#[46]⟩:ByteArray).size=1:=rfl
  omega
def jC (s:ByteArray)(seed:Int):Bool:=fE s&&decide (2<=(bF s).length)&&bG seed
def Gb (l:List D.aAH)(i:Nat)(n:D.aAH):Bool:= !aZ n||(decide (0<i)&&decide ((l.getD (i-1) default).Id>=n.Id))
def dE (s:D.Site):Bool:=jC s.Name s.Book.Seed&&decide (s.Accounts.length<=8)&&dW s.Book&& !gL (Gb s.Accounts) 0 s.Accounts
def SOk (s:D.Site):Prop:=s.Name.size<=34359738368/\s.Accounts.length<=34359738368/\s.Book.Open.length<=34359738368/\∀a∈s.Accounts,a.Credentials.length<=34359738368
instance (s:D.Site):Decidable (SOk s):=inferInstanceAs (Decidable (_/\_))
def eZ (name:ByteArray)(seed:Int):D.Site:=bif jC name seed then⟨name,[],⟨seed,0,[]⟩,[]⟩ else⟨⟨#[]⟩,[],⟨0,0,[]⟩,[]⟩
def aWx (name:ByteArray)(seed:Int):decide ((eZ name seed).Name.size=0)= !jC name seed:=by
 unfold eZ
 cases h:jC name seed with
 |false=>rfl
 |true=>
  have:fE name=true:=by unfold jC at h;rw[aa,aa] at h;exact h.1.1
  have:=Ll this
  exact au (by show ¬name.size=0;omega)
def aA (i:Int):ByteArray:=bif i==0 then⟨#[98,97,110,107,46,99,111,109]⟩ else bif i==1 then⟨#[115,104,111,112,46,111,114,103]⟩ else⟨#[]⟩
def kN (i:Nat)(s:D.Site):Bool:= !dE s|| !(s.Name.toList==(aA (i:Int)).toList)
def aV (w:D.World):Bool:=bI w.Now 0 999900&&bI (w.Devices.length:Int) 1 6&&(w.Stolen.length:Int)==(w.Devices.length:Int)&&(w.Sites.length:Int)==2&&dV w.Mail&&bC w.aAB.Log&&bG w.Seed&& !gL kN 0 w.Sites
def bLw (w:D.World):Prop:=WOk w/\w.Mail.Notices.length<=34359738368/\w.Hosts.length<=34359738368/\∀s∈w.Sites,SOk s
instance (w:D.World):Decidable (bLw w):=inferInstanceAs (Decidable (_/\_))
def aH8 {α:Type}{g:α->Nat}{x:α}:∀{l:List α},x∈l->g x<=(l.map g).sum
 |y::r,h=>by
  rw[bm,df]
  rcases ba.1 h with rfl|h
  ·omega
  ·have:=aH8 (g:=g) h;omega
def SOk.of {s:D.Site}(h:s.sz<=1048576):SOk s:=by
 simp only[D.Site.sz] at h
 refine⟨by omega,by omega,by omega,λa ha=> ?_⟩
 have:=aH8 (g:=D.aAH.sz) ha
 simp only[D.aAH.sz] at this h
 omega
def bLw.of {w:D.World}(h:w.sz<=1048576):bLw w:=by
 refine⟨WOk.of h,?_,?_,λs hs=>SOk.of ?_⟩
 ·simp only[D.World.sz] at h;omega
 ·simp only[D.World.sz] at h;omega
 ·have:=aH8 (g:=D.Site.sz) hs
  simp only[D.World.sz] at h;omega
abbrev wG (a:List Int)(r:List (List Int)):Prop:=a.length+r.flatten.length<=68719476736/\r.length<=1099511627776
def wH (w:D.World)(i:Int):Bool:=decide (0<=i)&&decide (i<w.Sites.length)
def dI (a b:D.Entry):Bool:=decide (a.Site<b.Site)||(a.Site==b.Site&&decide (a.Handle<b.Handle))
def sJ (a:D.Entry)(s h:Int):Bool:=decide (a.Site<s)||(a.Site==s&&decide (a.Handle<h))
def mV (x e:D.Entry):Bool:=decide (x.Version>e.Version)||(x.Version==e.Version&&x.Deleted)
def nZ (e x:D.Entry):D.Entry:=bif mV x e then x else e
def bS:List D.Entry->List D.Entry->List D.Entry
 |[],bs=>bs
 |a::xs,[]=>a::xs
 |a::xs,b::bs=>bif dI a b then a::bS xs (b::bs) else bif dI b a then b::bS (a::xs) bs else nZ a b::bS xs bs
termination_by xs bs=>xs.length+bs.length
def aH9 (l:List D.Entry)(i:Nat)(e:D.Entry):Bool:= !bI e.Site 0 2147483646||(!bI e.Handle 0 1000000||(!bI e.Version 1 1000000||(decide ((i:Int)>0)&& !dI (l.getD (i-1) default) e)))
def aP (b:D.aAF):Bool:=decide ((b.Entries.length:Int)<=20)&& !gL (aH9 b.Entries) 0 b.Entries
def gG (a b:D.aAF):D.aAF×Bool:=bif aP a&&aP b then(bif aP ⟨bS a.Entries b.Entries⟩ then(⟨bS a.Entries b.Entries⟩,true) else(a,false)) else(a,false)
def vI (b:D.aAF)(x:D.Entry):D.aAF:=bif decide (aK b x.Site x.Handle>=0) then⟨b.Entries.set (aK b x.Site x.Handle).toNat x⟩ else⟨b.Entries.takeWhile (λe=>sJ e x.Site x.Handle)++[x]++b.Entries.dropWhile (λe=>sJ e x.Site x.Handle)⟩
def vN {a b:D.Entry}:dI a b=true↔a.Site<b.Site\/(a.Site=b.Site/\a.Handle<b.Handle):=by
 simp[dI]
def aWy {a x:D.Entry}:sJ a x.Site x.Handle=dI a x:=rfl
def lT {a b c:D.Entry}(h:dI a b=true)(k:dI b c=true):dI a c=true:=by
 rw[vN] at*;omega
def wI {a b:D.Entry}(h:dI a b=false)(k:dI b a=false):a.Site=b.Site/\a.Handle=b.Handle:=by
 have h1:¬(a.Site<b.Site\/(a.Site=b.Site/\a.Handle<b.Handle)):=λq=>by rw[vN.2 q] at h;cases h
 have h2:¬(b.Site<a.Site\/(b.Site=a.Site/\b.Handle<a.Handle)):=λq=>by rw[vN.2 q] at k;cases k
 omega
def Ch {a b c:D.Entry}(h:a.Site=b.Site/\a.Handle=b.Handle):dI a c=dI b c:=by
 unfold dI;rw[h.1,h.2]
def aWz {a b c:D.Entry}(h:a.Site=b.Site/\a.Handle=b.Handle):dI c a=dI c b:=by
 unfold dI;rw[h.1,h.2]
def F9 {a b:D.Entry}(h:a.Site=b.Site/\a.Handle=b.Handle):(nZ a b).Site=b.Site/\(nZ a b).Handle=b.Handle:=by
 unfold nZ
 cases mV b a
 ·exact h
 ·exact⟨rfl,rfl⟩
def aZe (a b:D.Entry):nZ a b=a\/nZ a b=b:=by
 unfold nZ
 cases mV b a
 ·exact .inl rfl
 ·exact .inr rfl
def dN (l:List D.Entry):bS l []=l:=by cases l<;>rw[bS]
def gV (l:List D.Entry):bS [] l=l:=by rw[bS]
def vO:∀(n:Nat) (a b:List D.Entry),a.length+b.length<=n->(bS a b).length<=a.length+b.length
 |_,[],b,_=>by rw[gV];simp
 |_,a::xs,[],_=>by rw[dN];simp
 |0,a::xs,b::bs,h=>by simp at h
 |n+1,a::xs,b::bs,h=>by
  simp only[av] at h
  rw[bS]
  cases dI a b with
  |true=>have:=vO n xs (b::bs) (by simp only[av];omega);simp only[ae,av] at*;omega
  |false=>
   cases dI b a with
   |true=>have:=vO n (a::xs) bs (by simp only[av];omega);simp only[ab,ae,av] at*;omega
   |false=>have:=vO n xs bs (by omega);simp only[ab,av] at*;omega
def rE (a b:D.Entry)(xs bs:List D.Entry):bS (a::xs) (b::bs)=bif dI a b then a::bS xs (b::bs) else bif dI b a then b::bS (a::xs) bs else nZ a b::bS xs bs:=by rw[bS]
def srt (l:List D.Entry):Prop:=l.Pairwise λa b=>dI a b=true
def aPb:∀(A:List D.Entry) {b:D.Entry} {bs:List D.Entry},srt (b::bs)->bS (bS A [b]) bs=bS A (b::bs)
 |[],b,bs,h=>by
  rw[gV,gV]
  cases bs with
  |nil=>rw[dN]
  |cons c cs=>rw[bS,(cr.1 h).1 c (by simp),ae,gV]
 |a::xs,b,bs,h=>by
  have hc:=(cr.1 h).1
  rw[rE a b xs [],rE a b xs bs]
  cases h1:dI a b with
  |true=>
   simp only[ae]
   cases bs with
   |nil=>rw[dN]
   |cons c cs=>rw[bS,lT h1 (hc c (by simp)),ae,aPb xs h]
  |false=>
   cases h2:dI b a with
   |true=>
    simp only[ae,ab]
    rw[dN]
    cases bs with
    |nil=>rw[dN,dN]
    |cons c cs=>rw[bS,hc c (by simp),ae]
   |false=>
    simp only[ab]
    rw[dN]
    cases bs with
    |nil=>rw[dN,dN]
    |cons c cs=>rw[bS,Ch (F9 (wI h1 h2)),hc c (by simp),ae]
def aZf:∀{l:List D.Entry} {x y:D.Entry},y∈bS l [x]->y∈l\/y=x
 |[],x,y,h=>by rw[gV] at h;simp at h;exact .inr h
 |a::xs,x,y,h=>by
  rw[bS] at h
  cases h1:dI a x with
  |true=>
   rw[h1,ae] at h
   rcases ba.1 h with rfl|h
   ·exact .inl (by simp)
   ·exact(aZf h).imp (λh=>by simp[h]) id
  |false=>
   rw[h1,ab] at h
   cases h2:dI x a with
   |true=>
    rw[h2,ae,dN] at h
    rcases ba.1 h with rfl|h
    ·exact .inr rfl
    ·exact .inl h
   |false=>
    rw[h2,ab,dN] at h
    rcases ba.1 h with rfl|h
    ·rcases aZe a x with e|e
     ·rw[e];exact .inl (by simp)
     ·exact .inr e
    ·exact .inl (by simp[h])
def aZg:∀{l:List D.Entry} {x:D.Entry},srt l->srt (bS l [x])
 |[],x,h=>by rw[gV];exact eV _ _
 |a::xs,x,h=>by
  obtain⟨ha,hs⟩:=cr.1 h
  rw[bS]
  cases h1:dI a x with
  |true=>
   rw[ae]
   refine cr.2 ⟨λy hy=> ?_,aZg hs⟩
   rcases aZf hy with hy|rfl
   ·exact ha y hy
   ·exact h1
  |false=>
   cases h2:dI x a with
   |true=>
    rw[ab,ae,dN]
    refine cr.2 ⟨λy hy=> ?_,h⟩
    rcases ba.1 hy with rfl|hy
    ·exact h2
    ·exact lT h2 (ha y hy)
   |false=>
    rw[ab,ab,dN]
    have hk:=wI h1 h2
    refine cr.2 ⟨λy hy=> ?_,hs⟩
    rw[Ch (F9 hk),<-Ch hk];exact ha y hy
def aIa:∀(B A:List D.Entry),srt B->B.foldl (λo x=>bS o [x]) A=bS A B
 |[],A,_=>by rw[dN];rfl
 |b::bs,A,h=>by rw[dc,aIa bs _ (cr.1 h).2,aPb A h]
def aIb {α:Type}{p:α->Bool}:∀{l:List α} {i:Nat},iG p i l<0->∀y∈l,p y=false
 |[],i,_,y,hy=>by simp at hy
 |x::l,i,h,y,hy=>by
  simp only[iG] at h
  cases hp:p x with
  |true=>rw[hp,ae] at h;omega
  |false=>
   rw[hp,ab] at h
   rcases ba.1 hy with rfl|hy
   ·exact hp
   ·exact aIb h y hy
def Ql {α:Type}{p:α->Bool}:∀{l:List α} {i:Nat},0<=iG p i l->∃l1 e l2,l=l1++e::l2/\p e=true/\iG p i l=((i+l1.length:Nat):Int)
 |[],i,h=>by simp[iG] at h
 |x::l,i,h=>by
  simp only[iG] at h ⊢
  cases hp:p x with
  |true=>exact⟨[],x,l,rfl,hp,by simp⟩
  |false=>
   rw[hp,ab] at h
   obtain⟨l1,e,l2,h1,h2,h3⟩:=Ql h
   exact⟨x::l1,e,l2,by rw[h1];rfl,h2,by rw[ab,h3];simp only[av];omega⟩
def aZh:∀{l:List D.Entry} {x:D.Entry},(∀y∈l,(y.Site==x.Site&&y.Handle==x.Handle)=false)->bS l [x]=l.takeWhile (λe=>sJ e x.Site x.Handle)++[x]++l.dropWhile (λe=>sJ e x.Site x.Handle)
 |[],x,_=>by rw[gV];rfl
 |a::xs,x,h=>by
  rw[bS,dh,List.dropWhile_cons,aWy]
  cases h1:dI a x with
  |true=>simp only[ae,gy];rw[aZh (λy hy=>h y (by simp[hy]))];rfl
  |false=>
   cases h2:dI x a with
   |true=>simp only[ab,ae];rw[dN];rfl
   |false=>
    have:=wI h1 h2
    have:=h a (by simp)
    simp_all
def aZi {e x:D.Entry}{l2:List D.Entry}(he:(e.Site==x.Site&&e.Handle==x.Handle)=true):∀{l1:List D.Entry},srt (l1++e::l2)->bS (l1++e::l2) [x]=l1++nZ e x::l2
 |[],_=>by
  have hk:e.Site=x.Site/\e.Handle=x.Handle:=by simpa using he
  have h1:dI e x=false:=by
   cases h:dI e x with
   |false=>rfl
   |true=>rw[vN] at h;omega
  have h2:dI x e=false:=by
   cases h:dI x e with
   |false=>rfl
   |true=>rw[vN] at h;omega
  rw[bn,bS,h1,ab,h2,ab,dN];rfl
 |a::l1,h=>by
  obtain⟨ha,hs⟩:=cr.1 h
  have hk:e.Site=x.Site/\e.Handle=x.Handle:=by simpa using he
  have h1:dI a x=true:=by rw[<-aWz hk];exact ha e (by simp)
  rw[cA,bS,h1,ae,aZi he hs];rfl
def aT8 {l:List D.Entry}{x:D.Entry}(h:srt l):(bif (decide (aK ⟨l⟩ x.Site x.Handle<0)||mV x (l.getD (aK ⟨l⟩ x.Site x.Handle).toNat default)) then(vI ⟨l⟩ x).Entries else l)=bS l [x]:=by
 unfold vI
 by_cases hf:aK ⟨l⟩ x.Site x.Handle<0
 ·rw[ao hf,iw,ae,show decide (aK ⟨l⟩ x.Site x.Handle>=0)=false from au (by omega),ab]
  exact(aZh (aIb hf)).symm
 ·obtain⟨l1,e,l2,h1,h2,h3⟩:=Ql (show 0<=iG (λe=>e.Site==x.Site&&e.Handle==x.Handle) 0 l from by unfold aK at hf;simp only at hf;omega)
  have h3':aK ⟨l⟩ x.Site x.Handle=(l1.length:Int):=by unfold aK;rw[h3];simp
  rw[h3',au (by omega),cL,show decide ((l1.length:Int)>=0)=true from ao (by omega),ae,cm]
  subst h1
  rw[aZi h2 h]
  have g:(l1++e::l2).getD l1.length default=e:=by simp[List.getD]
  have st:(l1++e::l2).set l1.length x=l1++x::l2:=by simp
  rw[g]
  show(bif mV x e then(l1++e::l2).set l1.length x else l1++e::l2)=_
  rw[st]
  unfold nZ
  cases mV x e<;>rfl
def aZj {α:Type}{p:Nat->α->Bool}:∀{l:List α} {j:Nat},gL p j l=false->∀(i:Nat) (hi:i<l.length),p (j+i) l[i]=false
 |[],j,_,i,hi=>by simp at hi
 |x::l,j,h,i,hi=>by
  simp only[gL,cn] at h
  cases i with
  |zero=>exact h.1
  |succ i=>have:=aZj h.2 i (by simpa using hi);rw[show j+(i+1)=j+1+i by omega];exact this
def aRj {b:D.aAF}(h:aP b=true):b.Entries.length<=20/\srt b.Entries:=by
 simp only[aP,aa,bp,cz] at h
 refine⟨by omega,?_⟩
 have adj:∀i (hi:i+1<b.Entries.length),dI b.Entries[i] b.Entries[i+1]=true:=λi hi=>by
  have:=aZj h.2 (i+1) hi
  simp only[aH9,cn,ca] at this
  have h4:=this.2.2.2
  rw[ao (by omega),da] at h4
  have h5:(b.Entries.getD (i+1-1) default)=b.Entries[i]:=by rw[Nat.add_sub_cancel,List.getD,ac (by omega),cE]
  rw[h5] at h4;simpa using h4
 have far:∀d i (hi:i+d+1<b.Entries.length),dI b.Entries[i] b.Entries[i+d+1]=true:=λd=>by
  induction d with
  |zero=>exact λi hi=>adj i hi
  |succ d ih=>exact λi hi=>lT (ih i (by omega)) (adj (i+d+1) (by omega))
 refine dm.2 λi j hi hj hij=> ?_
 obtain⟨d,rfl⟩:∃d,j=i+d+1:=⟨j-i-1,by omega⟩
 exact far d i hj
def fF {α β:Type}{s:List α}(hs:s.length<=34359738368)(x:α)(k:Option β):gd (aW s [x]) k=k:=aB (by unfold aW;simp only[ct];omega)
def lU {α β:Type}{s:List α}(hs:s.length<=34359738368)(k:Option β):gd (aW [] s) k=k:=aB (by unfold aW;simp only[bo];omega)
def aT9 {α:Type}{l s:List α}:l.foldl (λs x=>s++[x]) s=s++l:=by
 have:=aAx (f:=λx:α=>[x]) (l:=l) (s:=s)
 rw[this];congr 1
 induction l with
 |nil=>rfl
 |cons x l ih=>simp[ih]
def G5 {α:Type}{l:List α}{F:(Nat×List α->Option (List α))->Nat×List α->Option (List α)}(hl:l.length<=34359738368)
  (hF:∀rec i s (hi:i<l.length),s.length<=34359738368->F rec (i,s)=rec (i+1,s++[l[i]])) (hE:∀rec s,F rec (l.length,s)=some s):EV.bU FUEL F (0,[])=some l:=by
 rw[aO8 (l:=l) (λs x=>s++[x]) (λi s=>s.length=i) (λs=>some s) (by omega) rfl (λi s hi hv=>by simp;omega) (λrec i s hi hv=>hF rec i s hi (by omega)) (λrec s _=>hE rec s),aT9,bn]
def bE3 {α:Type}{l:List α}{F:(List α×Nat->Option (List α))->List α×Nat->Option (List α)}(hl:l.length<=34359738368)
  (hF:∀rec i s (hi:i<l.length),s.length<=34359738368->F rec (s,i)=rec (s++[l[i]],i+1)) (hE:∀rec s,F rec (s,l.length)=some s):EV.bU FUEL F ([],0)=some l:=by
 rw[fV (l:=l) (λs x=>s++[x]) (λi s=>s.length=i) (λs=>some s) (by omega) rfl (λi s hi hv=>by simp;omega) (λrec i s hi hv=>hF rec i s hi (by omega)) (λrec s _=>hE rec s),aT9,bn]
abbrev G6 {α:Type}(f:α->Nat)(l:List α):Nat:=l.length+(l.map f).sum
def gX {S τ:Type}{F:(S->Option τ)->S->Option τ}{n:Nat}{s:S}:EV.bU (n+1) F s=F (EV.bU n F) s:=rfl
def lF {α:Type}{c:Bool}{x y:α}:(bif c then some x else some y)=some (bif c then x else y):=by cases c<;>rfl
def zA {c d:Bool}:(bif c then some true else some d)=some (c||d):=by cases c<;>rfl
def aUa {α:Type}[Inhabited α]{l:List α}{i:Nat}(h:i<l.length):l.set i (l.getD i default)=l:=by
 rw[List.getD,ac h];simp
def bPn {α β:Type}{l:List α}(f:α->β){F:(List β×Nat->Option (List β))->List β×Nat->Option (List β)}(hl:l.length<=34359738368)
  (hF:∀rec i s (hi:i<l.length),s.length<=34359738368->F rec (s,i)=rec (s++[f l[i]],i+1)) (hE:∀rec s,F rec (s,l.length)=some s):EV.bU FUEL F ([],0)=some (l.map f):=by
 rw[fV (l:=l) (λs x=>s++[f x]) (λi s=>s.length=i) (λs=>some s) (by omega) rfl (λi s hi hv=>by simp;omega) (λrec i s hi hv=>hF rec i s hi (by omega)) (λrec s _=>hE rec s),aAy,bn]
def bJq {α β:Type}{l:List α}(f:α->β){s0:List β}{F:(List β×Nat->Option (List β))->List β×Nat->Option (List β)}(hl:s0.length+l.length<=34359738368)
  (hF:∀rec i s (hi:i<l.length),s.length<=34359738368->F rec (s,i)=rec (s++[f l[i]],i+1)) (hE:∀rec s,F rec (s,l.length)=some s):EV.bU FUEL F (s0,0)=some (s0++l.map f):=by
 rw[fV (l:=l) (λs x=>s++[f x]) (λi s=>s.length=s0.length+i) (λs=>some s) (by omega) (by simp) (λi s hi hv=>by simp;omega) (λrec i s hi hv=>hF rec i s hi (by omega)) (λrec s _=>hE rec s),aAy]
def aPc (h:D.aAG)(b:Int):D.aAG×Bool:=bif decide (b<0)||decide (b>=(h.Saved.length:Int)) then(h,false) else(⟨h.Saved.getD (h.Saved.length-1-b.toNat) default,h.Saved,h.Monotonic⟩,true)
def aW0 (w:D.World)(i b:Int):D.World×Bool:=bif !aV w||(decide (i<0)||decide (i>=(w.Hosts.length:Int))) then(w,false) else bif (aPc (w.Hosts.getD i.toNat default) b).2 then({w with Hosts:=w.Hosts.set i.toNat (aPc (w.Hosts.getD i.toNat default) b).1},true) else(w,false)
def bH2 {i:Int}{n:Nat}(h:n<=34359738368):(!bI i 0 (IntKind.i64.wrap ((n:Int)-1)))=(decide (i<0)||decide (i>=(n:Int))):=by
 rw[aI (by omega) (by omega)]
 unfold bI
 by_cases h0:i<0
 ·rw[ao h0,au (show ¬0<=i by omega)];rfl
 ·rw[au h0,ao (show 0<=i by omega)]
  by_cases h1:i>=(n:Int)
  ·rw[ao h1,au (show ¬i<=(n:Int)-1 by omega)];rfl
  ·rw[au h1,ao (show i<=(n:Int)-1 by omega)];rfl
def sK {α:Type}[Inhabited α]{l:List α}{i:Int}(h0:0<=i)(h1:i<(l.length:Int)):bA l i=some (l.getD i.toNat default):=by
 rw[rQ h0 (by omega)];simp[List.getD,ac (show i.toNat<l.length by omega)]
def aRk {i:Int}{n:Nat}(h:(decide (i<0)||decide (i>=(n:Int)))=false):0<=i/\i<(n:Int):=by
 simp only[cn,di] at h;omega
def Gc {α:Type}[Inhabited α]{f:α->Nat}{l:List α}{i:Nat}(h:i<l.length):f (l.getD i default)<=(l.map f).sum:=by
 rw[List.getD,ac h];exact jA h
def bPo (l:List D.aAS)(i:Nat)(s:D.aAS):Bool:= !bI s.Index 1 7||(!bI s.Value 0 1018||(l.take i).any λq=>q.Index==s.Index)
def bLx (l:List D.aAS):Bool:=bI (l.length:Int) 1 7&& !gL (bPo l) 0 l
def aIc (x:Int)(z v:Int):Int:=(IntKind.i64.wrap (IntKind.i64.wrap (v+gK z 1019)*x)).tmod 1019
def Uc (c:Int)(l:List Int)(x:Int):Int:=(l.foldr (aIc x) 0+gK c 1019)%1019
def bLy (c:List Int)(s:D.aAS):D.aAS:=⟨s.Index,(IntKind.i64.wrap (s.Value+Uc 0 c s.Index)).tmod 1019⟩
def bE4 (l:List D.aAS)(c:List Int):List D.aAS:=bif bLx l then l.map (bLy c) else[]
def cS (l:List D.aAS)(i:Nat)(k:Int):Bool:=(l.take i).any λq=>q.Index==k
def aUb {x z v:Int}(hx:0<=x/\x<=1000)(hv:0<=v/\v<1019):0<=aIc x z v/\aIc x z v<1019:=by
 have hm:=vV (p:=z) (q:=1019) (by omega)
 unfold aIc
 generalize gK z 1019=m at*
 have e1:IntKind.i64.wrap (v+m)=v+m:=aI (by omega) (by omega)
 have h2:0<=(v+m)*x:=ju (by omega) hx.1
 have h3:(v+m)*x<=3000*1000:=Int.mul_le_mul (by omega) hx.2 hx.1 (by omega)
 rw[e1,aI (by omega) (by omega)]
 exact⟨fv _ h2,fw _ (by omega)⟩
def aId {x:Int}(hx:0<=x/\x<=1000):∀l:List Int,0<=l.foldr (aIc x) 0/\l.foldr (aIc x) 0<1019
 |[]=>by simp
 |z::l=>aUb hx (aId hx l)
def bE5 {σ τ:Type}{l:List Int}(g:Int->σ->σ){s0:σ}(fin:σ->Option τ){F:(σ×Int->Option τ)->σ×Int->Option τ}(hl:l.length<=34359738368)
  (hF:∀rec s i (hi:i<l.length),F rec (s,(i:Int))=rec (g l[i] s,(i:Int)-1)) (hE:∀rec s,F rec (s,-1)=fin s) {n0:Int} (hn:n0=(l.length:Int)-1):EV.bU FUEL F (s0,n0)=fin (l.foldr g s0):=by
 subst hn
 refine aMg (λk s=>k<=l.length/\s=((l.drop (l.length-k)).foldr g s0,(l.length:Int)-1-k)) l.length _ (by omega) ⟨by omega,by simp⟩ (λk s rec hk hv=> ?_) (λs rec hv=> ?_)
 ·obtain⟨_,rfl⟩:=hv
  refine .inl ⟨_,⟨hk,rfl⟩,?_⟩
  have e:(l.length:Int)-1-k=((l.length-1-k:Nat):Int):=by omega
  have e2:l.length-(k+1)=l.length-1-k:=by omega
  have hi:l.length-1-k<l.length:=by omega
  rw[e,hF rec _ _ hi,e2,co hi,List.foldr_cons,show l.length-1-k+1=l.length-k by omega]
  congr 2;omega
 ·obtain⟨_,rfl⟩:=hv
  simp only[fj,gk]
  rw[show(l.length:Int)-1-(l.length:Int)= -1 by omega,hE]
def bLz {c d:Bool}:(bif c then some d else some false)=some (c&&d):=by cases c<;>rfl
def aPd (k:D.aAV):Bool:=bLx [k.aAS]&&(bI k.Epoch 0 1000000&&(bI k.Limit 1 10&&bI k.Guesses 0 k.Limit))
def bE6 (h:D.aAG)(s:D.aAS):Bool:= !aPd h.State||(decide (Ub h.State<h.Monotonic)||(h.State.Epoch==1000000||(s.Index !=h.State.aAS.Index|| !bLx [s])))
def bL0 (h:D.aAG)(s:D.aAS):D.aAG:=⟨⟨s,IntKind.i64.wrap (h.State.Epoch+1),0,h.State.Limit⟩,h.Saved,Ub ⟨s,IntKind.i64.wrap (h.State.Epoch+1),0,h.State.Limit⟩⟩
def bL1 (hs:List D.aAG)(ss:List D.aAS):List D.aAG×Bool:=bif ((ss.length:Int)==0)||(hs.zip ss).any (λp=>bE6 p.1 p.2) then(hs,false) else(List.zipWith bL0 hs ss,true)
def aD5 (hs:List D.aAG)(c:List Int):List D.aAG×Bool:=bL1 hs (bE4 (hs.map λh=>h.State.aAS) c)
def aZk (w:D.World):Nat->Int->List Int
 |0,_=>[]
 |n+1,k=>bif decide (k<w.aAP.Threshold)&&decide (k<=7) then aT w.Seed [317,w.Now,k]::aZk w n (k+1) else[]
def bJr (w:D.World):List Int:=aZk w 8 1
def aUc (w:D.World):D.World×Bool:=bif aV w&&(aD5 w.Hosts (bJr w)).2 then({w with Hosts:=(aD5 w.Hosts (bJr w)).1},true) else(w,false)
def bBh (w:D.World):∀(n:Nat) (k:Int),(aZk w n k).length<=n
 |0,_=>aj _
 |n+1,k=>by
  unfold aZk
  cases(decide (k<w.aAP.Threshold)&&decide (k<=7)) with
  |true=>have:=bBh w n (k+1);simp only[ae,av];omega
  |false=>simp
def bH3 (b:D.aAF)(s h:Int):Int:=bif decide (aK b s h>=0) then IntKind.i64.wrap ((b.Entries.getD (aK b s h).toNat default).Version+1) else 1
def Vq (b:D.aAF)(s h:Int):D.Entry:=⟨s,h,bH3 b s h,false⟩
def aMi (b:D.aAF)(s h:Int):D.aAF×Bool:=bif !(decide (aK b s h>=0)&& !(b.Entries.getD (aK b s h).toNat default).Deleted)&&(aP b&&aP (vI b (Vq b s h))) then(vI b (Vq b s h),true) else(b,false)
def bBi (b:D.aAF)(s h:Int):D.Entry:=⟨s,h,IntKind.i64.wrap ((b.Entries.getD (aK b s h).toNat default).Version+1),true⟩
def aMj (b:D.aAF)(s h:Int):D.aAF×Bool:=bif !aP b||(decide (aK b s h<0)||((b.Entries.getD (aK b s h).toNat default).Deleted||(b.Entries.getD (aK b s h).toNat default).Version==1000000)) then(b,false) else(vI b (bBi b s h),true)
def oV (d:D.Device)(n:ByteArray)(h:Int)(rm:Bool):D.aAF×Bool:=bif rm then aMj d.aAF (bT n) h else aMi d.aAF (bT n) h
def cO (d:D.Device)(n:ByteArray)(h:Int)(rm:Bool):D.Device×Bool:=bif (oV d n h rm).2 then({d with aAF:=(oV d n h rm).1},true) else(d,false)
def oW (w:D.World)(d:Int)(n:ByteArray)(h:Int)(rm:Bool):D.World×Bool:=bif aV w&&aN w d then(bif (cO (aO w d) n h rm).2 then({w with Devices:=w.Devices.set d.toNat (cO (aO w d) n h rm).1},true) else(w,false)) else(w,false)
def bH4 (b:List Int):(vD b).length=b.length+1:=by simp[vD,Nat.add_comm]
def aRl (l:List Int):List.map (λ(n:Int)=>n) l=l:=List.map_id l
def aUd (b:D.aAF)(x:D.Entry):(vI b x).Entries.length<=b.Entries.length+1:=by
 unfold vI
 cases decide (aK b x.Site x.Handle>=0) with
 |true=>simp
 |false=>
  have:=congrArg List.length (ja (p:=λe=>sJ e x.Site x.Handle) (l:=b.Entries))
  simp only[aw] at this
  simp only[ab,aw,ct];omega
def bH5 (b:D.aAF)(s h:Int):(aMi b s h).1.Entries.length<=b.Entries.length+1:=by
 unfold aMi
 have:=aUd b (Vq b s h)
 cases(!(decide (aK b s h>=0)&& !(b.Entries.getD (aK b s h).toNat default).Deleted)&&(aP b&&aP (vI b (Vq b s h)))) with
 |true=>exact this
 |false=>simp
def bH6 (b:D.aAF)(s h:Int):(aMj b s h).1.Entries.length<=b.Entries.length+1:=by
 unfold aMj
 have:=aUd b (bBi b s h)
 cases(!aP b||(decide (aK b s h<0)||((b.Entries.getD (aK b s h).toNat default).Deleted||(b.Entries.getD (aK b s h).toNat default).Version==1000000))) with
 |true=>simp
 |false=>exact this
def Ci (d:D.Device)(n:ByteArray)(h:Int)(rm:Bool):(cO d n h rm).1.sz<=d.sz+1:=by
 unfold cO
 have:(oV d n h rm).1.Entries.length<=d.aAF.Entries.length+1:=by
  unfold oV;cases rm with
  |true=>exact bH6 _ _ _
  |false=>exact bH5 _ _ _
 cases(oV d n h rm).2 with
 |true=>simp only[ae,D.Device.sz];omega
 |false=>simp
def bN (c:D.aAB)(b:Int):D.aAA×Bool:=bif decide (b<0)||decide (b>=(c.History.length:Int)) then(⟨0,0,[],0⟩,false) else(c.History.getD (c.History.length-1-b.toNat) default,true)
def aW1 (a b:D.aAC):Bool:=a.Index==b.Index&&(a.Kind==b.Kind&&(a.Device==b.Device&&(a.By==b.By&&(a.Previous==b.Previous&&(a.Signature==b.Signature&&true)))))
def bZ (a b:List D.aAC):Bool:=decide (b.length<=a.length)&& !gL (λi e=> !aW1 (a.getD i default) e) 0 b
def gH (k:Int)(b:D.aAA):Int:=bJ k ([227,b.Epoch,b.Version]++vD b.Data)
def jU (k e v:Int):Int:=aT k [223,e,v]
def uvE:Nat->Int->List Int
 |0,n=>[n]
 |k+1,n=>bif decide (n>127) then(n%128+128)::uvE k (n/128) else[n]
def aRm:∀(k:Nat) (n:Int),1<=(uvE k n).length/\(uvE k n).length<=k+1
 |0,n=>by simp[uvE]
 |k+1,n=>by
  have:=aRm k (n/128)
  unfold uvE
  cases decide (n>127)<;>simp<;>omega
def bH7 {k:Nat}{z:Int}(h:z<=127):uvE k z=[z]:=by
 cases k with
 |zero=>rfl
 |succ k=>unfold uvE;rw[au (by omega)];rfl
def aZl:∀(k:Nat) (m n:Int) (x y:List Int),0<=m->0<=n->uvE k m++x=uvE k n++y->m=n/\x=y
 |0,m,n,x,y,_,_,h=>by simpa[uvE] using h
 |k+1,m,n,x,y,h0,h1,h=>by
  unfold uvE at h
  by_cases hm:m>127<;>by_cases hn:n>127
  ·simp only[ao hm,ao hn,ae,cA,fu] at h
   have:=aZl k (m/128) (n/128) x y (by omega) (by omega) h.2
   exact⟨by omega,this.2⟩
  ·simp only[ao hm,au hn,ae,ab,cA,fu] at h;omega
  ·simp only[au hm,ao hn,ae,ab,cA,fu] at h;omega
  ·simpa only[au hm,au hn,ab,cA,bn,fu] using h
def aUe {F:(Int×List Int->Option (Int×List Int))->Int×List Int->Option (Int×List Int)}
  (hF:∀rec (n:Int) (s:List Int),0<=n->n<9223372036854775807->s.length<=34359738368->F rec (n,s)=bif decide (n>127) then rec (n/128,s++[n%128+128]) else some (n,s)):
  ∀(k:Nat) (n:Int) (s:List Int) (f:Nat),k<f->0<=n->n<128^(k+1)->k<=6->s.length+k<=34359738368->∃m q,EV.bU f F (n,s)=some (m,q)/\q++[m]=s++uvE k n/\0<=m/\m<=127
 |0,n,s,f+1,hf,h0,h1,_,hs=>by
  refine⟨n,s,?_,rfl,h0,by simp at h1;omega⟩
  rw[gX,hF _ _ _ h0 (by simp at h1;omega) (by omega),au (by simp at h1;omega)];rfl
 |k+1,n,s,f+1,hf,h0,h1,hk,hs=>by
  have h2:(128:Int)^(k+1+1)=128*128^(k+1):=by rw[e8];omega
  have h3:(128:Int)^(k+1+1)<=128^8:=by exact_mod_cast hH (by omega) (by omega)
  have h4:(128:Int)^8=72057594037927936:=by decide
  rw[gX,hF _ _ _ h0 (by omega) (by omega)]
  unfold uvE
  by_cases hn:n>127
  ·rw[ao hn,ae,ae]
   obtain⟨m,q,e1,e2,e3⟩:=aUe hF k (n/128) (s++[n%128+128]) f (by omega) (by omega) (by omega) (by omega) (by simp;omega)
   exact⟨m,q,e1,by rw[e2];simp,e3⟩
  ·rw[au hn,ab,ab]
   exact⟨n,s,rfl,rfl,h0,by omega⟩
def bH8 {n:Int}(h0:0<=n)(h1:n<9223372036854775808):mF .i64 n 127=n%128:=by
 obtain⟨m,rfl⟩:=eC h0
 have e:((BitVec.ofInt 64 (m:Int))&&&(BitVec.ofInt 64 127)).toNat=m%128:=by
  rw[BitVec.toNat_and]
  have e1:(BitVec.ofInt 64 (m:Int)).toNat=m:=by rw[BitVec.toNat_ofInt];omega
  have e2:(BitVec.ofInt 64 127).toNat=2^7-1:=by decide
  rw[e1,e2,fW]
 show IntKind.i64.wrap (((BitVec.ofInt 64 (m:Int))&&&(BitVec.ofInt 64 127)).toNat:Int)=_
 rw[e,aI (by omega) (by omega)];omega
def bL2 {n:Int}(h0:0<=n)(h1:n<128):orI .i64 n 128=n+128:=by
 obtain⟨m,rfl⟩:=eC h0
 have e:((BitVec.ofInt 64 (m:Int))|||(BitVec.ofInt 64 128)).toNat=m+128:=by
  rw[BitVec.toNat_or]
  have e1:(BitVec.ofInt 64 (m:Int)).toNat=m:=by rw[BitVec.toNat_ofInt];omega
  have e2:(BitVec.ofInt 64 128).toNat=1<<<7:=by decide
  have:=jg (b:=m) (i:=7) (by omega) 1
  rw[e1,e2,Nat.or_comm,<-this];omega
 show IntKind.i64.wrap (((BitVec.ofInt 64 (m:Int))|||(BitVec.ofInt 64 128)).toNat:Int)=_
 rw[e,aI (by omega) (by omega)];omega
def bNp {n:Int}(h0:0<=n):Bf .i64 n 7=n/128:=by
 unfold Bf
 rw[show min (Int.toNat 7) IntKind.i64.bits=7 from by decide,gl _ (by decide)];rfl
def aUf {n:Int}(h0:0<=n)(h1:n<=255):IntKind.u8.wrap n=n:=by rw[IntKind.wrap_u8];omega
def enc1 (n:Int):List Int:=bif bI n 0 1000000000000 then uvE 5 n else[]
def Lm (b:List Int)(n:Int):List Int:=b++enc1 n
def gN (l:List Int):List Int:=(l.map enc1).flatten
def G7 (n:Int):(enc1 n).length<=6:=by
 have:=(aRm 5 n).2
 unfold enc1;cases bI n 0 1000000000000<;>simp<;>omega
def aGo {n:Int}(h:0<=n/\n<=1000000000000):enc1 n=uvE 5 n:=by
 unfold enc1 bI;rw[ao h.1,ao h.2];rfl
def rF (n:Int)(l:List Int):gN (n::l)=enc1 n++gN l:=rfl
def G8:∀l:List Int,(gN l).length<=6*l.length
 |[]=>by simp[gN]
 |n::l=>by
  have:=G8 l
  have:=G7 n
  rw[rF,aw,av];omega
def aMk (l:List Int):Prop:=∀v∈l,0<=v/\v<=(1000000000000:Int)
def aUg:∀(s t x y:List Int),aMk s->aMk t->s.length=t.length->gN s++x=gN t++y->s=t/\x=y
 |[],[],x,y,_,_,_,h=>⟨rfl,h⟩
 |m::s,n::t,x,y,hs,ht,hl,h=>by
  have hm:=hs m (by simp)
  have hn:=ht n (by simp)
  rw[rF,rF,ce,ce,aGo hm,aGo hn] at h
  obtain⟨h1,h2⟩:=aZl 5 m n _ _ hm.1 hn.1 h
  obtain⟨h3,h4⟩:=aUg s t x y (λv hv=>hs v (by simp[hv])) (λv hv=>ht v (by simp[hv])) (by simpa using hl) h2
  exact⟨by rw[h1,h3],h4⟩
def aZm {b:List Int}(hb:aQ b){p:Nat}:∀(k i:Nat) (n m e:Int),uvG b p (k+1) i n=(m,e,true)->∃(r:Int) (q:Nat),(0<=r/\m=n+r*128^i/\m<=1000000000000/\e=(q:Int)/\q<=b.length/\(0<i->r≠0))/\b.drop (p+i)=uvE k r++b.drop q
 |k,i,n,m,e,h=>by
  unfold uvG at h
  by_cases hlt:p+i<b.length
  ·rw[cH hlt] at h
   have hz:=yY hb hlt
   have hg:b.getD (p+i) 0=b[p+i]:=by simp[List.getD,ac hlt]
   rw[hg] at h
   have hd:b.drop (p+i)=b[p+i]::b.drop (p+i+1):=co hlt
   generalize b[p+i]=z at hz h hd
   by_cases h128:z<128
   ·rw[ao h128,ae] at h
    have hzz:z%128=z:=by omega
    rw[hzz] at h
    cases hc:(decide (0<i)&&z==0)||decide (n+z*128^i>1000000000000) with
    |true=>rw[hc] at h;simp at h
    |false=>
     rw[hc,ab] at h
     rw[cn] at hc
     have h1:=of_decide_eq_false hc.2
     injection h with e1 e2
     injection e2 with e2 e3
     refine⟨z,p+i+1,⟨hz.1,e1.symm,by omega,e2.symm,by omega,λhi h0=> ?_⟩,by rw[hd,bH7 (by omega)];rfl⟩
     subst h0
     simp[hi] at hc
   ·rw[au h128,ab] at h
    match k,h with
    |0,h=>simp[uvG] at h
    |k+1,h=>
     obtain⟨r,q,⟨h1,h2,h3,h4,h5,h6⟩,h7⟩:=aZm hb k (i+1) _ m e h
     have hr:=h6 (by omega)
     refine⟨z%128+128*r,q,⟨by omega,?_,h3,h4,h5,λ_=>by omega⟩,?_⟩
     ·rw[h2,e8,Int.add_mul,<-Int.add_assoc]
      congr 1
      rw[iv 128 r,Int.mul_assoc,iv 128]
     ·rw[hd,show p+i+1=p+(i+1) from by omega,h7]
      have e1:uvE (k+1) (z%128+128*r)=z::uvE k r:=by
       rw[uvE,ao (show z%128+128*r>127 by omega),ae,show(z%128+128*r)%128+128=z by omega,show(z%128+128*r)/128=r by omega]
      rw[e1];rfl
  ·rw[cX hlt] at h;simp at h
def aRn {b:List Int}(hb:aQ b){a m e:Int}(h:vF b a=(m,e,true)):∃q:Nat,(0<=a/\0<=m/\m<=1000000000000/\e=(q:Int)/\q<=b.length)/\b.drop a.toNat=enc1 m++b.drop q:=by
 unfold vF at h
 by_cases h0:a<0
 ·rw[cH h0] at h;simp at h
 ·rw[cX h0] at h
  obtain⟨r,q,⟨h1,h2,h3,h4,h5,_⟩,h7⟩:=aZm hb 5 0 0 m e h
  have hm:m=r:=by rw[h2];simp
  subst hm
  exact⟨q,⟨by omega,h1,h3,h4,h5⟩,by rw[aGo ⟨h1,h3⟩];exact h7⟩
def Lp {b:List Int}(hb:aQ b):∀(k:Nat) (a:Int) (s v:List Int) (e:Int),0<=a->a<=b.length->jB b k a s=(v,e,true)->∃(t:List Int) (q:Nat),(v=s++t/\t.length=k/\e=(q:Int)/\q<=b.length/\aMk t)/\b.drop a.toNat=gN t++b.drop q
 |0,a,s,v,e,h0,h1,h=>by
  unfold jB at h
  injection h with e1 e2
  injection e2 with e2 _
  exact⟨[],a.toNat,⟨by simp[e1],rfl,by omega,by omega,λv hv=>by simp at hv⟩,rfl⟩
 |k+1,a,s,v,e,h0,h1,h=>by
  unfold jB at h
  cases hu:vF b a with
  |mk m r=>
   obtain⟨e',ok⟩:=r
   rw[hu] at h
   cases ok with
   |false=>simp at h
   |true=>
    obtain⟨q,⟨g0,g1,g2,g3,g4⟩,g5⟩:=aRn hb hu
    subst g3
    obtain⟨t,q',⟨k1,k2,k3,k4,k5⟩,k6⟩:=Lp hb k (q:Int) (s++[m]) v e (by omega) (by omega) h
    refine⟨m::t,q',⟨by rw[k1];simp,by simp[k2],k3,k4,λx hx=> ?_⟩,by rw[g5,rF,ce];congr 1⟩
    rcases ba.1 hx with rfl|hx
    ·exact⟨g1,g2⟩
    ·exact k5 x hx
def aIe {b:List Int}:∀(j k:Nat) (a:Int) (s:List Int),jB b (j+k) a s=bif (jB b j a s).2.2 then jB b k (jB b j a s).2.1 (jB b j a s).1 else([],0,false)
 |0,k,a,s=>by rw[ca];rfl
 |j+1,k,a,s=>by
  have e:∀m,jB b (m+1) a s=bif (vF b a).2.2 then jB b m (vF b a).2.1 (s++[(vF b a).1]) else([],0,false):=λ_=>rfl
  rw[show j+1+k=j+k+1 by omega,e,e]
  cases(vF b a).2.2 with
  |false=>rfl
  |true=>exact aIe j k _ _
def aIf {b:List Int}:∀(k:Nat) (a:Int) (s:List Int),jB b k a s=bif (jB b k a []).2.2 then(s++(jB b k a []).1,(jB b k a []).2.1,true) else([],0,false)
 |0,a,s=>by simp[jB]
 |k+1,a,s=>by
  unfold jB
  cases(vF b a).2.2 with
  |false=>rfl
  |true=>
   simp only[ae,bn]
   rw[aIf k _ (s++[(vF b a).1]),aIf k _ [(vF b a).1]]
   cases(jB b k (vF b a).2.1 []).2.2<;>simp
def aUh (e:D.Entry):List Int:=[e.Site,e.Handle,e.Version,bif e.Deleted then 1 else 0]
def kC:List Int->List D.Entry
 |s::h::v::d::r=>⟨s,h,v,d==1⟩::kC r
 |_=>[]
def jO:List Int->Bool
 |_::_::_::d::r=>decide (d<=1)&&jO r
 |_=>true
def iR (l:List D.Entry):List Int:=l.flatMap aUh
def vP:∀l:List D.Entry,(iR l).length=4*l.length
 |[]=>rfl
 |e::l=>by
  have:=vP l
  simp only[iR,List.flatMap_cons,aw,av] at*
  rw[this];simp[aUh];omega
def G9:∀(k:Nat) (l:List Int),l.length=4*k->(kC l).length=k
 |0,[],_=>rfl
 |k+1,s::h::v::d::r,hl=>by
  have:=G9 k r (by simp at hl;omega)
  simp[kC,this]
def aPe:∀(k:Nat) (l:List Int),l.length=4*k->aMk l->aMk (iR (kC l))/\(jO l=true↔iR (kC l)=l)
 |0,[],_,_=>⟨λv h=>by simp[iR,kC] at h,by simp[jO,iR,kC]⟩
 |k+1,s::h::v::d::r,hl,ho=>by
  obtain⟨h1,h2⟩:=aPe k r (by simp at hl;omega) (λx hx=>ho x (by simp[hx]))
  have hs:=ho s (by simp)
  have hh:=ho h (by simp)
  have hv:=ho v (by simp)
  have hd:=ho d (by simp)
  have e:iR (kC (s::h::v::d::r))=s::h::v::(bif d==1 then 1 else 0)::iR (kC r):=by simp[kC,iR,aUh]
  rw[e]
  refine⟨λx hx=> ?_,?_⟩
  ·simp only[ba] at hx
   rcases hx with rfl|rfl|rfl|rfl|hx
   ·exact hs
   ·exact hh
   ·exact hv
   ·cases(d==1)<;>simp
   ·exact h1 x hx
  ·simp only[jO,aa,bp,fu,true_and,h2]
   refine and_congr_left' ?_
   by_cases h1:d=1
   ·subst h1;simp
   ·rw[show(d==1)=false by simpa using h1,ab];omega
def aUi:∀(k:Nat) (l r:List Int),l.length=4*k->kC (l++r)=kC l++kC r
 |0,[],r,_=>rfl
 |k+1,s::h::v::d::l,r,hl=>by
  have:=aUi k l r (by simp at hl;omega)
  simp[kC,this]
def qF (b:D.aAF):List Int:=[(b.Entries.length:Int)]++iR b.Entries
def oC (b:D.aAF):List Int:=bif aP b then gN (qF b) else[]
def aUj (d:List Int)(v:List Int×Int×Bool):D.aAF×Bool:=bif !v.2.2||(v.2.1 !=(d.length:Int)||(!jO v.1|| !aP ⟨kC v.1⟩)) then(⟨[]⟩,false) else(⟨kC v.1⟩,true)
def wJ (d:List Int):D.aAF×Bool:=bif !(vF d 0).2.2||decide ((vF d 0).1>20) then(⟨[]⟩,false) else aUj d (jB d (4*(vF d 0).1).toNat (vF d 0).2.1 [])
def eU (key:Int)(s:D.aAA):D.aAF×Bool:=bif !(bG key&&(bI s.Epoch 0 1000000&&bI s.Version 0 1000000))||s.MAC !=gH key s then(⟨[]⟩,false) else wJ (Iy (jU key s.Epoch s.Version) s.Data)
def bE7 {d:List Int}(hd:aQ d){n e e':Int}{v:List Int}(h:vF d 0=(n,e,true))(hn:n<=20)(h':jB d (4*n).toNat e []=(v,e',true)):(gN (qF ⟨kC v⟩)=d↔(e'=(d.length:Int)/\jO v=true))/\v.length=4*n.toNat/\aMk v/\(kC v).length=n.toNat:=by
 obtain⟨q,⟨_,g1,g2,g3,g4⟩,g5⟩:=aRn hd h
 subst g3
 obtain⟨t,q',⟨k1,k2,k3,k4,k5⟩,k6⟩:=Lp hd _ _ _ _ _ (by omega) (by omega) h'
 rw[bn] at k1
 subst k1
 have hl:v.length=4*n.toNat:=by omega
 obtain⟨f1,f2⟩:=aPe n.toNat v hl k5
 have hel:=G9 n.toNat v hl
 refine⟨?_,hl,k5,hel⟩
 have hdd:d=gN (n::v)++d.drop q':=by
  have h0:d.drop (Int.toNat 0)=d:=rfl
  rw[rF,ce,<-k6]
  exact h0▸g5
 have hv:qF ⟨kC v⟩=n::iR (kC v):=by
  show((kC v).length:Int)::_=_
  rw[hel];congr 1;omega
 rw[hv]
 constructor
 ·intro hq
  have hx:gN (n::iR (kC v))++[]=gN (n::v)++d.drop q':=by rw[cW,hq];exact hdd
  have hok:∀l,aMk l->aMk (n::l):=λl hl x hx=>by
   rcases ba.1 hx with rfl|hx
   ·exact⟨g1,g2⟩
   ·exact hl x hx
  obtain⟨y1,y2⟩:=aUg _ _ _ _ (hok _ f1) (hok _ k5) (by simp[vP,hel,hl]) hx
  have:=congrArg List.length y2
  simp only[bo,ck] at this
  exact⟨by omega,f2.2 (List.cons.inj y1).2⟩
 ·rintro⟨h1,h2⟩
  rw[f2.1 h2]
  have:d.drop q'=[]:=fR (by omega)
  rw[this,cW] at hdd
  exact hdd.symm
def aPf (l:List Int):(EV.bAg l).data.toList=l.map λn=>UInt8.ofNat n.toNat:=by
 unfold EV.bAg
 have:∀(l:List Int) (r:ByteArray),(l.foldl (λr n=>r.push (UInt8.ofNat n.toNat)) r).data.toList=r.data.toList++l.map λn=>UInt8.ofNat n.toNat:=by
  intro l
  induction l with
  |nil=>intro r;simp
  |cons x l ih=>intro r;rw[dc,ih];simp
 rw[this];rfl
def bytes_inj:∀{a b:List Int},(∀z∈a,0<=z/\z<=255)->(∀z∈b,0<=z/\z<=255)->(a.map λn=>UInt8.ofNat n.toNat)=(b.map λn=>UInt8.ofNat n.toNat)->a=b
 |[],[],_,_,_=>rfl
 |[],y::b,_,_,h=>by simp at h
 |x::a,[],_,_,h=>by simp at h
 |x::a,y::b,ha,hb,h=>by
  simp only[bm,fu] at h
  have hx:=ha x (by simp)
  have hy:=hb y (by simp)
  have e:=congrArg UInt8.toNat h.1
  rw[UInt8.toNat_ofNat',UInt8.toNat_ofNat'] at e
  rw[bytes_inj (λz hz=>ha z (by simp[hz])) (λz hz=>hb z (by simp[hz])) h.2,show x=y by omega]
def Lr {b:List Int}(h:aQ b):∀z∈b,0<=z/\z<=255:=λz hz=>by simpa using cG.1 h.2 z hz
def aIg {b:List Int}(h:b.length<=34359738368)(h1:∀z∈b,0<=z/\z<=255):aQ b:=⟨h,cG.2 λz hz=>by simpa using h1 z hz⟩
def aPg:∀(k:Nat) (n:Int),0<=n->n<128^(k+1)->∀z∈uvE k n,0<=z/\z<=255
 |0,n,h0,h1,z,hz=>by simp[uvE] at hz;subst hz;simp at h1;omega
 |k+1,n,h0,h1,z,hz=>by
  have h2:(128:Int)^(k+1+1)=128*128^(k+1):=by rw[e8];omega
  unfold uvE at hz
  by_cases hn:n>127
  ·rw[ao hn,ae] at hz
   rcases ba.1 hz with rfl|hz
   ·omega
   ·exact aPg k (n/128) (by omega) (by omega) z hz
  ·rw[au hn,ab] at hz
   simp at hz;subst hz;omega
def aW2 (n:Int):∀z∈enc1 n,0<=z/\z<=255:=λz hz=>by
 unfold enc1 at hz
 cases hr:bI n 0 1000000000000 with
 |false=>rw[hr] at hz;simp at hz
 |true=>
  rw[hr] at hz
  have:=jS hr
  have h7:(128:Int)^(5+1)=4398046511104:=by decide
  exact aPg 5 n this.1 (by omega) z hz
def Vr (l:List Int):∀z∈gN l,0<=z/\z<=255:=λz hz=>by
 unfold gN at hz
 obtain⟨x,hx,hz⟩:=jc.1 hz
 obtain⟨n,_,rfl⟩:=cg.1 hx
 exact aW2 n z hz
def nJ {b:D.aAF}(h:aP b=true):b.Entries.length<=20:=by
 simp only[aP,aa,bp] at h;omega
def aIh (b:D.aAF):aQ (oC b):=by
 unfold oC
 cases hb:aP b with
 |false=>exact⟨by simp,rfl⟩
 |true=>
  have:=nJ hb
  have h1:=G8 (qF b)
  have h2:(qF b).length=1+4*b.Entries.length:=by simp[qF,vP];omega
  exact aIg (by rw[ae];omega) (Vr _)
def bE8 (d:List Int):(wJ d).1.sz<=20:=by
 have h0:(D.aAF.mk []).sz<=20:=by simp[D.aAF.sz]
 unfold wJ
 cases !(vF d 0).2.2||decide ((vF d 0).1>20) with
 |true=>exact h0
 |false=>
  rw[ab]
  generalize jB d (4*(vF d 0).1).toNat (vF d 0).2.1 []=v
  unfold aUj
  cases hb:aP ⟨kC v.1⟩ with
  |false=>simp only[dv,iy,ae];exact h0
  |true=>
   have:=nJ hb
   cases !v.2.2||(v.2.1 !=(d.length:Int)||(!jO v.1|| !true)) with
   |true=>exact h0
   |false=>simp only[ab,D.aAF.sz] at*;omega
def aPh (k:Int)(s:D.aAA):(eU k s).1.sz<=20:=by
 unfold eU
 cases !(bG k&&(bI s.Epoch 0 1000000&&bI s.Version 0 1000000))||s.MAC !=gH k s with
 |true=>simp[D.aAF.sz]
 |false=>exact bE8 _
def aPi {a b:D.aAF}(h:(gG a b).2=true):(gG a b).1.sz<=20:=by
 unfold gG at*
 cases hc:aP a&&aP b with
 |false=>rw[hc] at h;cases h
 |true=>
  rw[hc] at h
  cases hm:aP ⟨bS a.Entries b.Entries⟩ with
  |false=>rw[hm] at h;cases h
  |true=>have:=nJ hm;simp only[ae,D.aAF.sz];omega
def eQ (d:D.Device)(log:List D.aAC)(bx:D.aAE)(s:D.aAA):Int:=
 bif !bC log|| !bZ log d.Log then 1 else bif !gM (aD log) (aY d.Store) then 2 else bif bx.Epoch !=aJ log|| !(bB d.Store bx).2 then 3
 else bif decide (s.Epoch<aJ log)||(decide (s.Epoch<d.Epoch)||(s.Epoch==d.Epoch&&decide (s.Version<d.Version))) then 4
 else bif !(eU (bB d.Store bx).1 s).2|| !(gG d.aAF (eU (bB d.Store bx).1 s).1).2 then 5 else 0
def bO (d:D.Device)(log:List D.aAC)(bx:D.aAE)(s:D.aAA):D.Device×Int:=
 bif eQ d log bx s==0 then(⟨d.Store,log,(bB d.Store bx).1,s.Epoch,s.Version,(gG d.aAF (eU (bB d.Store bx).1 s).1).1⟩,0) else(d,eQ d log bx s)
def aH (w:D.World)(d b:Int):D.World×Int:=bif aV w&&aN w d then({w with Devices:=w.Devices.set d.toNat (bO (aO w d) w.aAB.Log w.aAB.Boxes (bN w.aAB b).1).1},(bO (aO w d) w.aAB.Log w.aAB.Boxes (bN w.aAB b).1).2) else(w,1)
def dU (w:D.World)(d:Int):Bool:=w.Stolen.getD d.toNat false
def aIi (d:D.Device)(l:List D.aAC)(bx:D.aAE)(s:D.aAA):(bO d l bx s).1.sz<=d.sz+l.length+20:=by
 unfold bO
 cases hc:eQ d l bx s==0 with
 |false=>simp only[ab];omega
 |true=>
  have hm:(gG d.aAF (eU (bB d.Store bx).1 s).1).2=true:=by
   cases hm:(gG d.aAF (eU (bB d.Store bx).1 s).1).2 with
   |true=>rfl
   |false=>
    unfold eQ at hc
    rw[hm] at hc
    revert hc
    cases !bC l|| !bZ l d.Log<;>cases !gM (aD l) (aY d.Store)<;>cases bx.Epoch !=aJ l|| !(bB d.Store bx).2<;>cases decide (s.Epoch<aJ l)||(decide (s.Epoch<d.Epoch)||(s.Epoch==d.Epoch&&decide (s.Version<d.Version)))<;>cases !(eU (bB d.Store bx).1 s).2<;>simp
  have:=aPi hm
  simp only[ae,D.Device.sz,D.aAF.sz] at*;omega
def aRo (k:Int)(i:Nat)(z:Int):Int:=IntKind.u8.wrap ((z+bJ k [(i:Int)])%256)
def jV (k:Int)(b:List Int):List Int:=Iu (λi z=>[aRo k i z]) 0 b
def oD (k e v:Int)(b:D.aAF):D.aAA:=⟨e,v,jV (jU k e v) (oC b),gH k ⟨e,v,jV (jU k e v) (oC b),0⟩⟩
def lG (k e v:Int)(b:D.aAF):D.aAA×Bool:=bif bG k&&(bI e 0 1000000&&bI v 0 1000000)&&aP b then(oD k e v b,true) else(⟨0,0,[],0⟩,false)
def dD (d:D.Device):D.Device×D.aAA×Bool:=bif (lG d.Key d.Epoch (IntKind.i64.wrap (d.Version+1)) d.aAF).2 then({d with Version:=IntKind.i64.wrap (d.Version+1)},(lG d.Key d.Epoch (IntKind.i64.wrap (d.Version+1)) d.aAF).1,true) else(d,⟨0,0,[],0⟩,false)
def nK (a b:D.aAA):Bool:=decide (a.Epoch>b.Epoch)||(a.Epoch==b.Epoch&&decide (a.Version>b.Version))
def cK (c:D.aAB)(s:D.aAA):D.aAB×Bool:=bif s.Epoch !=aJ c.Log||((decide ((c.History.length:Int)>0)&& !nK s (c.History.getD (c.History.length-1) default))||decide ((c.History.length:Int)>=60)) then(c,false) else({c with History:=c.History++[s]},true)
def Ud (w:D.World)(d:Int):D.World×Bool:=bif (dD (aO w d)).2.2&&(cK w.aAB (dD (aO w d)).2.1).2 then({w with Devices:=w.Devices.set d.toNat (dD (aO w d)).1,aAB:=(cK w.aAB (dD (aO w d)).2.1).1},true) else(w,false)
def fG (w:D.World)(d:Int):D.World×Bool:=bif (aH w d 0).2==0&&(Ud (aH w d 0).1 d).2 then((Ud (aH w d 0).1 d).1,true) else(w,false)
def Cj (b:D.aAF):(oC b).length<=500:=by
 unfold oC
 cases hb:aP b with
 |false=>simp
 |true=>
  have:=nJ hb
  have h1:=G8 (qF b)
  have h2:(qF b).length=1+4*b.Entries.length:=by simp[qF,vP];omega
  rw[ae];omega
def wK (k:Int)(b:List Int):(jV k b).length=b.length:=by unfold jV;exact oU
def aPj (k e v:Int)(b:D.aAF):(lG k e v b).1.Data.length<=500:=by
 unfold lG
 cases bG k&&(bI e 0 1000000&&bI v 0 1000000)&&aP b with
 |false=>simp
 |true=>simp only[ae,oD,wK];exact Cj b
def vQ (d:D.Device):(dD d).1.sz=d.sz/\(dD d).2.1.Data.length<=500:=by
 unfold dD
 have:=aPj d.Key d.Epoch (IntKind.i64.wrap (d.Version+1)) d.aAF
 cases(lG d.Key d.Epoch (IntKind.i64.wrap (d.Version+1)) d.aAF).2 with
 |false=>exact⟨rfl,by simp⟩
 |true=>exact⟨rfl,this⟩
def nL (c:D.aAB)(s:D.aAA):(cK c s).1.sz<=c.sz+1+s.Data.length/\(cK c s).1.Log=c.Log:=by
 unfold cK
 cases s.Epoch !=aJ c.Log||((decide ((c.History.length:Int)>0)&& !nK s (c.History.getD (c.History.length-1) default))||decide ((c.History.length:Int)>=60)) with
 |true=>exact⟨by simp only[ae];omega,rfl⟩
 |false=>refine⟨?_,rfl⟩;simp only[ab,D.aAB.sz,aw,cT,eN,av,bo,bm,ex,df,fy,D.aAA.sz];omega
def rG {α:Type}{f:α->Nat}:∀{l:List α} {i:Nat} {x:α} (hi:i<l.length),((l.set i x).map f).sum+f l[i]=(l.map f).sum+f x
 |y::l,0,x,_=>by simp only[List.set_cons_zero,bm,df,gA];omega
 |y::l,i+1,x,h=>by
  have:=rG (f:=f) (l:=l) (i:=i) (x:=x) (by simpa using h)
  simp only[gj,bm,df,eI];omega
def jP {w:D.World}{d b:Int}(h:((aH w d b).2==0)=true):(aV w=true/\aN w d=true)/\(aH w d b).1.aAB=w.aAB/\(aH w d b).1.Devices.length=w.Devices.length/\(aH w d b).1.sz<=w.sz+w.aAB.Log.length+20:=by
 unfold aH at*
 cases hc:(aV w&&aN w d) with
 |false=>rw[hc] at h;cases h
 |true=>
  rw[hc] at h
  simp only[ae] at h ⊢
  rw[aa] at hc
  refine⟨hc,by first|rfl|trivial,by first|exact ax|simp,?_⟩
  have hd:=hc.2
  simp only[aN,aa,bp] at hd
  have hi:d.toNat<w.Devices.length:=by omega
  have hz:(bO (aO w d) w.aAB.Log w.aAB.Boxes (bN w.aAB b).1).1.sz<=w.aAB.Log.length+20:=by
   unfold bO at*
   cases hs:eQ (aO w d) w.aAB.Log w.aAB.Boxes (bN w.aAB b).1==0 with
   |false=>rw[hs] at h;simp only[ab] at h;rw[hs] at h;cases h
   |true=>
    have hm:(gG (aO w d).aAF (eU (bB (aO w d).Store w.aAB.Boxes).1 (bN w.aAB b).1).1).2=true:=by
     cases hm:(gG (aO w d).aAF (eU (bB (aO w d).Store w.aAB.Boxes).1 (bN w.aAB b).1).1).2 with
     |true=>rfl
     |false=>
      unfold eQ at hs
      rw[hm] at hs
      revert hs
      generalize(aO w d)=x
      generalize(bN w.aAB b).1=s
      cases !bC w.aAB.Log|| !bZ w.aAB.Log x.Log<;>cases !gM (aD w.aAB.Log) (aY x.Store)<;>cases w.aAB.Boxes.Epoch !=aJ w.aAB.Log|| !(bB x.Store w.aAB.Boxes).2<;>cases decide (s.Epoch<aJ w.aAB.Log)||(decide (s.Epoch<x.Epoch)||(s.Epoch==x.Epoch&&decide (s.Version<x.Version)))<;>cases !(eU (bB x.Store w.aAB.Boxes).1 s).2<;>simp
    have:=aPi hm
    simp only[ae,D.Device.sz,D.aAF.sz] at*;omega
  have h1:=rG (f:=D.Device.sz) (l:=w.Devices) (i:=d.toNat) (x:=(bO (aO w d) w.aAB.Log w.aAB.Boxes (bN w.aAB b).1).1) hi
  generalize(bO (aO w d) w.aAB.Log w.aAB.Boxes (bN w.aAB b).1).1=x at*
  simp only[D.World.sz,ax] at*;omega
def bJs {w:D.World}{d:Int}(hd:aN w d=true):(Ud w d).1.aAB.Log=w.aAB.Log/\(Ud w d).1.Devices.length=w.Devices.length/\(Ud w d).1.sz<=w.sz+501:=by
 unfold Ud
 cases(dD (aO w d)).2.2&&(cK w.aAB (dD (aO w d)).2.1).2 with
 |false=>exact⟨rfl,rfl,by simp only[ab];omega⟩
 |true=>
  have hu:=nL w.aAB (dD (aO w d)).2.1
  have hw:=vQ (aO w d)
  simp only[aN,aa,bp] at hd
  have hi:d.toNat<w.Devices.length:=by omega
  have h1:=rG (f:=D.Device.sz) (l:=w.Devices) (i:=d.toNat) (x:=(dD (aO w d)).1) hi
  have e:w.Devices[d.toNat]=aO w d:=by simp[aO,List.getD,ac hi]
  rw[e] at h1
  refine⟨hu.2,ax,?_⟩
  generalize(cK w.aAB (dD (aO w d)).2.1).1=c at*
  generalize dD (aO w d)=x at*
  simp only[ae,D.World.sz,D.aAB.sz,ax] at*;omega
def aGp {w:D.World}{d:Int}(h:(fG w d).2=true):(fG w d).1.aAB.Log=w.aAB.Log/\(fG w d).1.sz<=w.sz+w.aAB.Log.length+521:=by
 unfold fG at*
 cases hc:((aH w d 0).2==0&&(Ud (aH w d 0).1 d).2) with
 |false=>rw[hc] at h;cases h
 |true=>
  rw[aa] at hc
  obtain⟨⟨k1,k2⟩,k3,k4,k5⟩:=jP hc.1
  have hd:aN (aH w d 0).1 d=true:=by simp only[aN] at*;rw[k4];exact k2
  obtain⟨j1,j2,j3⟩:=bJs hd
  simp only[ae]
  exact⟨by rw[j1,k3],by omega⟩
def bNq {k z:Int}(i:Nat)(h:0<=z/\z<=255):IntKind.u8.wrap ((IntKind.i64.wrap (IntKind.i64.wrap z+bJ k [(i:Int)])).tmod 256)=aRo k i z:=by
 have:=kF k [(i:Int)]
 rw[aI (n:=z) (by omega) (by omega),aI (by omega) (by omega),cp (by omega)];rfl
def bE9 {k z:Int}(i:Nat)(h:0<=z/\z<=255):IntKind.u8.wrap ((IntKind.i64.wrap (IntKind.i64.wrap z+(bJ k [(i:Int)]).tmod 256)).tmod 256)=aRo k i z:=by
 have:=kF k [(i:Int)]
 rw[aI (n:=z) (by omega) (by omega),show(bJ k [(i:Int)]).tmod 256=bJ k [(i:Int)]%256 from cp this.1,aI (by omega) (by omega),cp (by omega),aRo]
 congr 1;omega
def aL (seed n:Int):D.aAI:=⟨1,n,aT seed [277,n],0⟩
def bM (s:D.aAI):D.Device:=⟨s,[],0,0,0,⟨[]⟩⟩
def eO (s:D.aAI)(n:ByteArray)(h:Int):Int:=aT s.Seed [179,bT n,h]
def dM (s:D.aAI)(n:ByteArray)(h:Int):Int:=cB (eO s n h)
def oZ (s:D.aAI)(l:List Int):Int:=yZ (fP s) l
def aW3 (log:List D.aAC)(kind dev:Int)(s:D.aAI):D.aAC:=⟨(log.length:Int),kind,dev,aY s,fQ log,0⟩
def bBj (log:List D.aAC)(kind dev:Int)(s:D.aAI):D.aAC:={aW3 log kind dev s with Signature:=oZ s [bY (aW3 log kind dev s)]}
def dQ (log:List D.aAC)(kind dev:Int)(s:D.aAI):List D.aAC×Bool:=bif (decide ((log.length:Int)>0)&& !bC log)|| !bC (log++[bBj log kind dev s]) then(log,false) else(log++[bBj log kind dev s],true)
def fT (p e:Int)(d:List Int):D.Box:=⟨p,e,jV (fD (eP p) e) d,Lg (fD (eP p) e) ⟨p,e,jV (fD (eP p) e) d,0⟩⟩
def dY (p e:Int)(d:List Int):D.Box×Bool:=bif eP p==0||(!bG e||decide ((d.length:Int)>200)) then(⟨0,0,[],0⟩,false) else(fT p e d,true)
def dZ (e:Int)(d:List Int):Nat->List Int->List D.Box×Bool
 |_,[]=>([],true)
 |i,p::l=>bif (dY p (IntKind.i64.wrap (e+(i:Int))) d).2&&(dZ e d (i+1) l).2 then((dY p (IntKind.i64.wrap (e+(i:Int))) d).1::(dZ e d (i+1) l).1,true) else([],false)
def bD (log:List D.aAC)(key eph:Int):D.aAE×Bool:=bif !bC log||(!bG key|| !(dZ eph (gN [aJ log,key]) 0 (aD log)).2) then(⟨0,[]⟩,false) else(⟨aJ log,(dZ eph (gN [aJ log,key]) 0 (aD log)).1⟩,true)
def pE (e:D.aAE)(d:Int):Int:=e.Boxes.foldl (λn b=>bif b.To==d then IntKind.i64.wrap (n+1) else n) 0
def gF (e:D.aAE)(log:List D.aAC):Bool:=(e.Epoch==aJ log&&(e.Boxes.length:Int)==((aD log).length:Int))&&(aD log).all λd=>pE e d==1
def jK (c:D.aAB)(log:List D.aAC)(e:D.aAE):D.aAB×Bool:=bif !bC log||(!bZ log c.Log|| !gF e log) then(c,false) else({c with Log:=log,Boxes:=e},true)
def Vs (h:Int)(l:List D.aAK):Nat:=(l.takeWhile λc=>decide (c.Handle<h)).length
def aEr (l:List D.aAK)(h p:Int):List D.aAK:=l.take (Vs h l)++[⟨h,p,0,false⟩]++l.drop (Vs h l)
def gY (a:D.aAH)(h p:Int):D.aAH×Bool:=bif !aZ a|| !aZ {a with Credentials:=aEr a.Credentials h p} then(a,false) else({a with Credentials:=aEr a.Credentials h p},true)
def eG (s:D.Site)(id h p:Int):D.Site×Bool:=bif !dE s||decide (aC s id<0) then(s,false) else bif (gY (s.Accounts.getD (aC s id).toNat default) h p).2 then({s with Accounts:=s.Accounts.set (aC s id).toNat (gY (s.Accounts.getD (aC s id).toNat default) h p).1},true) else(s,false)
def wL (l:List D.aAR):Nat:=bif l.any (λn=>n.Seen) then(l.takeWhile λn=> !n.Seen).length else 0
def Ha (l:List D.aAR):List D.aAR:=bif decide ((l.length:Int)>30) then l.take (wL l)++l.drop (wL l+1) else l
def uD (m:D.aAJ)(k a t:Int):D.aAJ×Bool:=bif !dV m|| !dV ⟨Ha (m.Notices++[⟨k,a,t,false⟩])⟩ then(m,false) else(⟨Ha (m.Notices++[⟨k,a,t,false⟩])⟩,true)
def iA (w:D.World)(by_ kind pub:Int)(key:List D.aAC->Int):D.World×Bool:=
 let l:=dQ w.aAB.Log kind pub (aO w by_).Store
 let e:=bD l.1 (key l.1) (IntKind.i64.wrap (1000+IntKind.i64.wrap (10*(l.1.length:Int))))
 let c:=jK w.aAB l.1 e.1
 bif l.2&&(e.2&&c.2) then({w with aAB:=c.1},true) else(w,false)
def nM (log:List D.aAC)(k d:Int)(s:D.aAI):(dQ log k d s).1.length<=log.length+1:=by
 unfold dQ
 cases(decide ((log.length:Int)>0)&& !bC log)|| !bC (log++[bBj log k d s])<;>simp
def aW4 (p e:Int)(d:List Int):(dY p e d).1.sz<=d.length:=by
 unfold dY
 cases eP p==0||(!bG e||decide ((d.length:Int)>200)) with
 |true=>simp[D.Box.sz]
 |false=>simp only[ab,fT,D.Box.sz,wK];exact aj _
def aUk {e:Int}{d:List Int}:∀{i:Nat} {l:List Int},(dZ e d i l).1.length<=l.length/\((dZ e d i l).1.map D.Box.sz).sum<=l.length*d.length
 |i,[]=>by simp[dZ]
 |i,p::l=>by
  have h1:=aUk (e:=e) (d:=d) (i:=i+1) (l:=l)
  have h2:=aW4 p (IntKind.i64.wrap (e+(i:Int))) d
  unfold dZ
  cases(dY p (IntKind.i64.wrap (e+(i:Int))) d).2&&(dZ e d (i+1) l).2 with
  |false=>simp
  |true=>simp only[ae,av,bm,df,dr];omega
def aUl (a b:Int):(gN [a,b]).length<=12:=G8 [a,b]
def Ck (log:List D.aAC)(k e:Int):(bD log k e).1.sz<=13*log.length:=by
 unfold bD
 have h1:=aUk (e:=e) (d:=gN [aJ log,k]) (i:=0) (l:=aD log)
 have h2:=iD log
 have h3:=aUl (aJ log) k
 have h4:=fo (aD log).length h3
 cases !bC log||(!bG k|| !(dZ e (gN [aJ log,k]) 0 (aD log)).2) with
 |true=>simp[D.aAE.sz]
 |false=>simp only[ab,D.aAE.sz];omega
def bFa (c:D.aAB)(l:List D.aAC)(e:D.aAE):(jK c l e).1.sz<=c.sz+l.length+e.sz/\(jK c l e).1.History=c.History:=by
 unfold jK
 cases !bC l||(!bZ l c.Log|| !gF e l) with
 |true=>exact⟨by simp only[ae];omega,rfl⟩
 |false=>exact⟨by simp only[ab,D.aAB.sz,D.aAE.sz];omega,rfl⟩
def aUm (l:List D.aAK)(h p:Int):(aEr l h p).length=l.length+1:=by
 simp only[aEr,aw,bz,ck,ct];omega
def aW5 (a:D.aAH)(h p:Int):(gY a h p).1.sz<=a.sz+1:=by
 unfold gY
 cases !aZ a|| !aZ {a with Credentials:=aEr a.Credentials h p} with
 |true=>simp only[ae];omega
 |false=>simp only[ab,D.aAH.sz,aUm];exact aj _
def aPk (l:List D.aAR):(Ha l).length<=l.length:=by
 unfold Ha
 cases decide ((l.length:Int)>30) with
 |false=>exact aj _
 |true=>simp only[ae,aw,bz,ck];omega
def aZn (m:D.aAJ)(k a t:Int):(uD m k a t).1.sz<=m.sz+1:=by
 unfold uD
 have:=aPk (m.Notices++[⟨k,a,t,false⟩])
 simp only[aw,ct] at this
 cases !dV m|| !dV ⟨Ha (m.Notices++[⟨k,a,t,false⟩])⟩ with
 |true=>simp only[ae];omega
 |false=>simp only[ab,D.aAJ.sz];omega
def lV {α:Type}{p:α->Bool}{i:Nat}{l:List α}(h:decide (iG p i l<0)=false):(i:Int)<=iG p i l/\iG p i l<i+l.length:=by
 induction l generalizing i with
 |nil=>simp[iG] at h
 |cons x l ih=>
  unfold iG at h ⊢
  cases hp:p x with
  |true=>simp only[ae,av];omega
  |false=>
   rw[hp] at h
   have:=ih (i:=i+1) h
   simp only[ab,av];omega
def aPl (s:D.Site)(id h p:Int):(eG s id h p).1.sz<=s.sz+1:=by
 unfold eG
 cases hc: !dE s||decide (aC s id<0) with
 |true=>simp only[ae];omega
 |false=>
  rw[cn] at hc
  have hr:=lV hc.2
  simp only[ab]
  cases(gY (s.Accounts.getD (aC s id).toNat default) h p).2 with
  |false=>simp only[ab];omega
  |true=>
   have hi:(aC s id).toNat<s.Accounts.length:=by unfold aC;omega
   have h1:=rG (f:=D.aAH.sz) (l:=s.Accounts) (i:=(aC s id).toNat) (x:=(gY (s.Accounts.getD (aC s id).toNat default) h p).1) hi
   have h2:=aW5 (s.Accounts.getD (aC s id).toNat default) h p
   have e:s.Accounts.getD (aC s id).toNat default=s.Accounts[(aC s id).toNat]:=by simp[List.getD,ac hi]
   rw[e] at h1 h2 ⊢
   simp only[ae,D.Site.sz,ax];omega
def appW (w:D.World)(x:D.Device):D.World:={w with Devices:=w.Devices++[x],Stolen:=w.Stolen++[false]}
def aUn {w:D.World}(x:D.Device){d:Int}(h:aN w d=true)(hn:w.Devices.length<6):aV (appW w x)=aV w:=by
 simp only[aN,aa,bp] at h
 have e1:bI ((w.Devices++[x]).length:Int) 1 6=bI (w.Devices.length:Int) 1 6:=by
  simp only[bI,aw,ct]
  rw[ao (show(1:Int)<=((w.Devices.length+1:Nat):Int) by omega),ao (show((w.Devices.length+1:Nat):Int)<=6 by omega),ao (show(1:Int)<=(w.Devices.length:Int) by omega),ao (show(w.Devices.length:Int)<=6 by omega)]
 have e2:(((w.Stolen++[false]).length:Int)==((w.Devices++[x]).length:Int))=((w.Stolen.length:Int)==(w.Devices.length:Int)):=by
  rw[eR,cI,cI]
  simp only[aw,ct];omega
 unfold aV
 simp only[appW,e1,e2]
def aW6 {w:D.World}(x:D.Device){d:Int}(h:aN w d=true):aN (appW w x) d=true:=by
 simp only[aN,aa,bp,appW,aw,ct] at*;omega
def aPm {w:D.World}(x:D.Device){d:Int}(h:aN w d=true):aO (appW w x) d=aO w d:=by
 simp only[aN,aa,bp] at h
 simp only[aO,appW,List.getD,aq (show d.toNat<w.Devices.length by omega)]
def bFb {w:D.World}(x:D.Device){d:Int}(b:Int)(h:aN w d=true)(hn:w.Devices.length<6):aH (appW w x) d b=(appW (aH w d b).1 x,(aH w d b).2):=by
 have h':=h
 simp only[aN,aa,bp] at h'
 unfold aH
 rw[aUn x h hn,aW6 x h,aPm x h,h]
 cases aV w with
 |false=>rfl
 |true=>
  simp only[dw,ae]
  congr 1
  simp only[appW,List.set_append_left _ _ (show d.toNat<w.Devices.length by omega)]
def bL3 {w:D.World}(x:D.Device){d:Int}(h:aN w d=true):Ud (appW w x) d=(appW (Ud w d).1 x,(Ud w d).2):=by
 have h':=h
 simp only[aN,aa,bp] at h'
 unfold Ud
 rw[aPm x h,show(appW w x).aAB=w.aAB from rfl]
 cases(dD (aO w d)).2.2&&(cK w.aAB (dD (aO w d)).2.1).2 with
 |false=>rfl
 |true=>
  simp only[ae,appW,List.set_append_left _ _ (show d.toNat<w.Devices.length by omega)]
def bFc {w:D.World}(x:D.Device){d:Int}(h:aN w d=true)(hn:w.Devices.length<6):fG (appW w x) d=(appW (fG w d).1 x,(fG w d).2):=by
 unfold fG
 rw[bFb x 0 h hn]
 cases hs:((aH w d 0).2==0) with
 |false=>simp only[eL,ab]
 |true=>
  obtain⟨_,_,k4,_⟩:=jP hs
  have hd:aN (aH w d 0).1 d=true:=by simp only[aN] at*;rw[k4];exact h
  rw[bL3 x hd]
  cases(Ud (aH w d 0).1 d).2<;>rfl
def H5 (w:D.World)(b k p:Int)(key:List D.aAC->Int):(iA w b k p key).1.sz<=w.sz+14*(w.aAB.Log.length+1)/\(iA w b k p key).1.aAB.Log.length<=w.aAB.Log.length+1/\(iA w b k p key).1.Devices=w.Devices/\(iA w b k p key).1.Sites=w.Sites:=by
 unfold iA
 dsimp only
 have h1:=nM w.aAB.Log k p (aO w b).Store
 generalize(dQ w.aAB.Log k p (aO w b).Store)=l at*
 have h2:=Ck l.1 (key l.1) (IntKind.i64.wrap (1000+IntKind.i64.wrap (10*(l.1.length:Int))))
 have h3:=(bFa w.aAB l.1 (bD l.1 (key l.1) (IntKind.i64.wrap (1000+IntKind.i64.wrap (10*(l.1.length:Int))))).1).1
 have h4:(jK w.aAB l.1 (bD l.1 (key l.1) (IntKind.i64.wrap (1000+IntKind.i64.wrap (10*(l.1.length:Int))))).1).1.Log.length<=w.aAB.Log.length+1:=by
  unfold jK
  cases !bC l.1||(!bZ l.1 w.aAB.Log|| !gF (bD l.1 (key l.1) (IntKind.i64.wrap (1000+IntKind.i64.wrap (10*(l.1.length:Int))))).1 l.1) with
  |true=>simp only[ae];omega
  |false=>simp only[ab];exact h1
 generalize bD l.1 (key l.1) (IntKind.i64.wrap (1000+IntKind.i64.wrap (10*(l.1.length:Int))))=e at*
 generalize jK w.aAB l.1 e.1=c at*
 cases l.2&&(e.2&&c.2) with
 |false=>exact⟨by show w.sz<=_;omega,by show w.aAB.Log.length<=_;omega,rfl,rfl⟩
 |true=>exact⟨by show(D.World.sz {w with aAB:=c.1})<=_;simp only[D.World.sz,D.aAB.sz] at*;omega,h4,rfl,rfl⟩
def mK (d:D.Device)(h:Int)(rm:Bool):D.Device:=(cO (cO d (aA 0) h rm).1 (aA 1) h rm).1
def fK (st:D.aAI)(n:Int):Nat->List D.Site->List D.Site×Bool
 |_,[]=>([],true)
 |j,s::l=>bif (eG s 1 n (dM st (aA (j:Int)) n)).2&&(fK st n (j+1) l).2 then((eG s 1 n (dM st (aA (j:Int)) n)).1::(fK st n (j+1) l).1,true) else([],false)
def Ls (w:D.World)(k:Int):D.World:={w with Mail:=(uD w.Mail k 1 w.Now).1}
def add1 (w:D.World)(b:Int):D.World×Bool:=iA (aH w b 0).1 b 1 (aY (aL w.Seed (w.Devices.length:Int))) λ_=>(aO (aH w b 0).1 b).Key
def aIj (w:D.World)(b:Int):List D.Site×Bool:=fK (aL w.Seed (w.Devices.length:Int)) (w.Devices.length:Int) 0 (add1 w b).1.Sites
def nN (w:D.World)(b:Int):D.World×Bool:=fG {(add1 w b).1 with Sites:=(aIj w b).1,Devices:=(add1 w b).1.Devices.set b.toNat (mK (aO (add1 w b).1 b) (w.Devices.length:Int) false)} b
def yP (w:D.World)(b:Int):D.World×Int:=aH (appW (nN w b).1 (bM (aL w.Seed (w.Devices.length:Int)))) (w.Devices.length:Int) 0
def H6 (w:D.World)(b:Int):Bool:=(aV w&&(aN w b&&(!dU w b&& !decide ((w.Devices.length:Int)>=6))))&&((aH w b 0).2==0&&((add1 w b).2&&((aIj w b).2&&((nN w b).2&&(yP w b).2==0))))
def iB (w:D.World)(b:Int):D.World×Bool:=bif H6 w b then(Ls (yP w b).1 2,true) else(w,false)
def aGq (d:D.Device)(h:Int)(rm:Bool):(mK d h rm).sz<=d.sz+2:=by
 have h1:=Ci (cO d (aA 0) h rm).1 (aA 1) h rm
 have h2:=Ci d (aA 0) h rm
 unfold mK;omega
def aAz {st:D.aAI}{n:Int}:∀{j:Nat} {l:List D.Site},(fK st n j l).1.length<=l.length/\((fK st n j l).1.map D.Site.sz).sum<=(l.map D.Site.sz).sum+l.length
 |j,[]=>by simp[fK]
 |j,s::l=>by
  have h1:=aAz (st:=st) (n:=n) (j:=j+1) (l:=l)
  have h2:=aPl s 1 n (dM st (aA (j:Int)) n)
  unfold fK
  cases(eG s 1 n (dM st (aA (j:Int)) n)).2&&(fK st n (j+1) l).2 with
  |false=>simp
  |true=>simp only[ae,av,bm,df];omega
def bBk {w:D.World}{b:Int}(h0:((aH w b 0).2==0)=true):(aN (add1 w b).1 b=true/\(add1 w b).1.Devices.length=w.Devices.length)/\(add1 w b).1.sz<=16*w.sz+34/\(add1 w b).1.aAB.Log.length<=w.sz+1:=by
 obtain⟨⟨k1,k2⟩,k3,k4,k5⟩:=jP h0
 have hL:w.aAB.Log.length<=w.sz:=by simp only[D.World.sz,D.aAB.sz];omega
 obtain⟨g1,g2,g3,g4⟩:=H5 (aH w b 0).1 b 1 (aY (aL w.Seed (w.Devices.length:Int))) (λ_=>(aO (aH w b 0).1 b).Key)
 rw[k3] at g1 g2
 refine⟨⟨?_,by show(iA _ _ _ _ _).1.Devices.length=_;rw[g3,k4]⟩,by unfold add1;omega,by unfold add1;omega⟩
 simp only[aN] at*
 unfold add1
 rw[g3,k4];exact k2
def jD (w:D.World)(b:Int):D.World:={(add1 w b).1 with Sites:=(aIj w b).1,Devices:=(add1 w b).1.Devices.set b.toNat (mK (aO (add1 w b).1 b) (w.Devices.length:Int) false)}
def aUo {w:D.World}{b:Int}(h0:((aH w b 0).2==0)=true):(aN (jD w b) b=true/\(jD w b).Devices.length=w.Devices.length)/\(jD w b).sz<=32*w.sz+80/\(jD w b).aAB.Log.length<=w.sz+1:=by
 obtain⟨⟨h1,h2⟩,h3,h4⟩:=bBk h0
 have h5:=aAz (st:=aL w.Seed (w.Devices.length:Int)) (n:=(w.Devices.length:Int)) (j:=0) (l:=(add1 w b).1.Sites)
 have h6:=aGq (aO (add1 w b).1 b) (w.Devices.length:Int) false
 have hd:=h1
 simp only[aN,aa,bp] at hd
 have hi:b.toNat<(add1 w b).1.Devices.length:=by omega
 have h7:=rG (f:=D.Device.sz) (l:=(add1 w b).1.Devices) (i:=b.toNat) (x:=mK (aO (add1 w b).1 b) (w.Devices.length:Int) false) hi
 have e:(add1 w b).1.Devices[b.toNat]=aO (add1 w b).1 b:=by simp[aO,List.getD,ac hi]
 rw[e] at h7
 refine⟨⟨?_,by simp only[jD,ax];exact h2⟩,?_,h4⟩
 ·simp only[aN,jD,ax] at*;exact h1
 ·simp only[jD,aIj]
  generalize(add1 w b).1=x at*
  simp only[D.World.sz,ax] at*;omega
def H7 (w:D.World)(x:D.Device):(appW w x).sz=w.sz+x.sz+2:=by
 simp only[appW,D.World.sz,aw,ct,cT,bm,ex,eN,df,fy];omega
def aRp (w:D.World)(k:Int):(Ls w k).sz<=w.sz+1:=by
 have:=aZn w.Mail k 1 w.Now
 simp only[Ls,D.World.sz,D.aAJ.sz] at*;omega
def bH9 {w:D.World}{b:Int}(h0:((aH w b 0).2==0)=true)(h:(nN w b).2=true):(nN w b).1.sz<=33*w.sz+602/\(nN w b).1.aAB.Log.length<=w.sz+1:=by
 obtain⟨_,h1,h2⟩:=aUo h0
 obtain⟨h3,h4⟩:=aGp (w:=jD w b) (d:=b) h
 exact⟨by show(fG (jD w b) b).1.sz<=_;omega,by show(fG (jD w b) b).1.aAB.Log.length<=_;rw[h3];exact h2⟩
def aPn {α:Type}{p:α->Bool}:∀{l:List α} {i:Nat} (hi:i<l.length),i<(l.takeWhile p).length->p l[i]=true
 |x::l,0,_,h=>by
  simp only[dh] at h
  cases hp:p x with
  |true=>exact hp
  |false=>rw[hp] at h;simp at h
 |x::l,i+1,hi,h=>by
  simp only[dh] at h
  cases hp:p x with
  |true=>
   have h':i<(l.takeWhile p).length:=by simpa[hp] using h
   exact aPn (l:=l) (i:=i) (by simpa using hi) h'
  |false=>rw[hp] at h;simp at h
def aPo {α:Type}{p:α->Bool}:∀{l:List α} (h:(l.takeWhile p).length<l.length),p (l[(l.takeWhile p).length]'h)=false
 |x::l,h=>by
  cases hp:p x with
  |true=>
   have h':(l.takeWhile p).length<l.length:=by simpa[dh,hp] using h
   simpa[dh,hp] using aPo h'
  |false=>simp[dh,hp]
def Lt {α:Type}{p:α->Bool}{l:List α}:(l.takeWhile p).length<=l.length:=(List.takeWhile_prefix p).length_le
def aPp {α τ S:Type}{l:List α}(p:α->Bool)(fin:Nat->Option τ)(e:Nat->S){F:(S->Option τ)->S->Option τ}(hl:l.length<=34359738368)
  (hF:∀rec i (hi:i<l.length),F rec (e i)=bif p l[i] then rec (e (i+1)) else fin i) (hE:∀rec,F rec (e l.length)=fin l.length):EV.bU FUEL F (e 0)=fin (l.takeWhile p).length:=by
 have go:∀(k i n:Nat),i+k=(l.takeWhile p).length->k<n->EV.bU n F (e i)=fin (l.takeWhile p).length:=by
  intro k
  induction k with
  |zero=>
   intro i n hi hn
   obtain⟨n,rfl⟩:∃m,n=m+1:=⟨n-1,by omega⟩
   have:i=(l.takeWhile p).length:=by omega
   subst this
   rw[gX]
   by_cases h:(l.takeWhile p).length<l.length
   ·rw[hF _ _ h,aPo h,ab]
   ·have h2:(l.takeWhile p).length=l.length:=by have:=Lt (p:=p) (l:=l);omega
    rw[h2,hE]
  |succ k ih=>
   intro i n hi hn
   obtain⟨n,rfl⟩:∃m,n=m+1:=⟨n-1,by omega⟩
   have h1:i<l.length:=by have:=Lt (p:=p) (l:=l);omega
   rw[gX,hF _ _ h1,aPn (p:=p) h1 (by omega),ae]
   exact ih (i+1) n (by omega) (by omega)
 have:=Lt (p:=p) (l:=l)
 exact go (l.takeWhile p).length 0 FUEL (by omega) (by have:=fO;omega)
def aPq {e:Int}{d:List Int}{l:List Int}{τ:Type}{x:τ}{F:(List D.Box×Nat->Option (τ⊕List D.Box))->List D.Box×Nat->Option (τ⊕List D.Box)}
  (hF:∀rec i s (hi:i<l.length),s.length<=i->F rec (s,i)=bif !(dY l[i] (IntKind.i64.wrap (e+(i:Int))) d).2 then some (.inl x) else rec (s++[(dY l[i] (IntKind.i64.wrap (e+(i:Int))) d).1],i+1)) (hE:∀rec s,F rec (s,l.length)=some (.inr s)):
  ∀(k i n:Nat) (s:List D.Box),i+k=l.length->k<n->s.length<=i->EV.bU n F (s,i)=some (bif (dZ e d i (l.drop i)).2 then .inr (s++(dZ e d i (l.drop i)).1) else .inl x)
 |0,i,n+1,s,h,_,_=>by
  have:i=l.length:=by omega
  subst this
  rw[gX,hE,dz];simp[dZ]
 |k+1,i,n+1,s,h,hn,hs=>by
  have hi:i<l.length:=by omega
  rw[gX,hF _ i s hi hs,co hi,dZ]
  cases hb:(dY l[i] (IntKind.i64.wrap (e+(i:Int))) d).2 with
  |false=>rfl
  |true=>
   rw[bf,ab,aPq hF hE k (i+1) n _ (by omega) (by omega) (by simp;omega)]
   cases(dZ e d (i+1) (l.drop (i+1))).2<;>simp
def aW7 (l:List D.aAR):Nat:=(l.takeWhile λn=> !n.Seen).length
def bBl {l:List D.aAR}{x:D.aAR}:aW7 (l++[x])=bif l.any (λn=>n.Seen) then aW7 l else bif x.Seen then l.length else l.length+1:=by
 induction l with
 |nil=>cases hx:x.Seen<;>simp[aW7,hx]
 |cons y l ih=>
  unfold aW7 at*
  cases hy:y.Seen with
  |true=>simp[hy]
  |false=>
   simp only[cA,dh,hy,dv,gy,av,jz,cL,ih]
   cases l.any (λn=>n.Seen)<;>cases x.Seen<;>simp
def aPr {l:List D.aAR}{F:(Int×Int->Option Int)->Int×Int->Option Int}(hF:∀rec (k:Int) (i:Nat) (hi:i<l.length),F rec (k,(i:Int))=rec (bif l[i].Seen then(i:Int) else k,(i:Int)-1))(hE:∀rec k,F rec (k,-1)=some k):
  ∀(n m:Nat) (k:Int),n<=l.length->n<m->EV.bU m F (k,(n:Int)-1)=some (bif (l.take n).any (λx=>x.Seen) then(aW7 (l.take n):Int) else k)
 |0,m+1,k,_,_=>by rw[gX,show((0:Nat):Int)-1= -1 from rfl,hE];simp
 |n+1,m+1,k,h,hm=>by
  have hn:n<l.length:=by omega
  rw[gX,show((n+1:Nat):Int)-1=(n:Int) by omega,hF _ _ n hn,aPr hF hE n m _ (by omega) (by omega),fg,ac hn]
  simp only[eW,jk,bBl,jz,List.any_nil,gb,bz,jh (Nat.le_of_lt hn)]
  cases(l.take n).any (λx=>x.Seen)<;>cases l[n].Seen<;>rfl
def bFd (l:List D.aAR):(wL l:Int)=bif l.any (λx=>x.Seen) then(aW7 l:Int) else 0:=by
 unfold wL aW7;cases l.any (λn=>n.Seen)<;>rfl
def bFe {l:List D.aAR}(h:0<l.length):wL l<l.length:=by
 unfold wL
 cases hs:l.any (λn=>n.Seen) with
 |false=>exact h
 |true=>
  obtain⟨x,hx,hp⟩:=gx.1 hs
  have:∀l:List D.aAR,x∈l->(l.takeWhile λn=> !n.Seen).length<l.length:=by
   intro l
   induction l with
   |nil=>intro h;cases h
   |cons y l ih=>
    intro h
    cases hy:y.Seen with
    |true=>simp[hy]
    |false=>
     rcases ba.1 h with rfl|h
     ·rw[hp] at hy;cases hy
     ·simpa[hy] using ih h
  exact this l hx
def bFf {e:Int}{d:List Int}{i:Nat}{l:List Int}(h:(dZ e d i l).2=false):dZ e d i l=([],false):=by
 cases l with
 |nil=>cases h
 |cons p l=>
  unfold dZ at*
  cases hc:(dY p (IntKind.i64.wrap (e+(i:Int))) d).2&&(dZ e d (i+1) l).2 with
  |true=>rw[hc] at h;cases h
  |false=>rfl
def bFg {s:D.Site}{i:Int}(hz:s.sz<=34359738300)(h:decide (aC s i<0)=false):bA s.Accounts (aC s i)=some (s.Accounts.getD (aC s i).toNat default)/\(s.Accounts.getD (aC s i).toNat default).sz<=34359738300/\(aC s i).toNat<s.Accounts.length:=by
 have hr:=lV (p:=λa:D.aAH=>a.Id==i) (i:=0) (l:=s.Accounts) h
 have hi:(aC s i).toNat<s.Accounts.length:=by unfold aC;omega
 have h1:=Gc (f:=D.aAH.sz) hi
 refine⟨sK (by unfold aC;omega) (by unfold aC;omega),?_,hi⟩
 simp only[D.Site.sz] at hz;omega
def lW (d:D.Device)(log:List D.aAC)(key:Int):D.Device×Bool:=bif !bC log||(!bZ log d.Log||(decide (aJ log<d.Epoch)|| !bG key)) then(d,false) else({d with Log:=log,Key:=key,Epoch:=aJ log,Version:=0},true)
def aU (a:D.aAH)(h:Int):Int:=iG (λc=>c.Handle==h) 0 a.Credentials
def fH (a:D.aAH)(k:Int):D.aAK:=a.Credentials.getD k.toNat default
def nD (a:D.aAH)(h:Int):D.aAH×Bool:=bif !aZ a||(decide (aU a h<0)||(fH a (aU a h)).Cut) then(a,false) else({a with Credentials:=a.Credentials.set (aU a h).toNat {fH a (aU a h) with Cut:=true}},true)
def fM (s:D.Site)(k:Int):D.aAH:=s.Accounts.getD k.toNat default
def jQ (h:Int)(s:D.Site):D.Site:=bif decide (aC s 1>=0) then {s with Accounts:=s.Accounts.set (aC s 1).toNat (nD (fM s (aC s 1)) h).1} else s
def bL (s e:Int):Int:=aT s [233,e]
def mM (s:D.aAI)(l:List D.aAC):Int:=bL (aT s.Seed [311]) (aJ l)
def gZ (w:D.World)(b:Int):D.World:=(aH w b 0).1
def H8 (w:D.World)(b t:Int):List D.aAC:=(dQ (gZ w b).aAB.Log 2 (aY (aO w t).Store) (aO (gZ w b) b).Store).1
def lX (w:D.World)(b t:Int):D.World×Bool:=iA (gZ w b) b 2 (aY (aO w t).Store) (mM (aO (gZ w b) b).Store)
def H9 (w:D.World)(b t:Int):D.Device×Bool:=lW (aO (gZ w b) b) (H8 w b t) (mM (aO (gZ w b) b).Store (H8 w b t))
def I1 (w:D.World)(b t:Int):D.World:={(lX w b t).1 with Devices:=(lX w b t).1.Devices.set b.toNat (mK (H9 w b t).1 t true),Sites:=(lX w b t).1.Sites.map (jQ t)}
def I4 (w:D.World)(b t:Int):D.World×Bool:=Ud (I1 w b t) b
def pF (w:D.World)(b t:Int):D.World×Bool:=bif (lX w b t).2&&((H9 w b t).2&&(I4 w b t).2) then(Ls (I4 w b t).1 4,true) else(w,false)
def iC (w:D.World)(b t:Int):D.World×Bool:=bif (aH w b 0).2==0&&(!dU w b&&(!(b==t)&&kG w t)) then pF w b t else(w,false)
def aIk (d:D.Device)(l:List D.aAC)(k:Int):(lW d l k).1.sz<=d.sz+l.length:=by
 unfold lW
 cases !bC l||(!bZ l d.Log||(decide (aJ l<d.Epoch)|| !bG k)) with
 |true=>simp only[ae];omega
 |false=>simp only[ab,D.Device.sz];omega
def aW8 (a:D.aAH)(h:Int):(nD a h).1.sz=a.sz:=by
 unfold nD
 cases !aZ a||(decide (aU a h<0)||(fH a (aU a h)).Cut) with
 |true=>rfl
 |false=>simp only[ab,D.aAH.sz,ax]
def aW9 (h:Int)(s:D.Site):(jQ h s).sz=s.sz:=by
 unfold jQ
 cases hc:decide (aC s 1>=0) with
 |false=>rfl
 |true=>
  have h0:decide (aC s 1<0)=false:=by rw[decide_eq_true_iff] at hc;exact au (by omega)
  have hr:=lV h0
  have hi:(aC s 1).toNat<s.Accounts.length:=by unfold aC;omega
  have h1:=rG (f:=D.aAH.sz) (l:=s.Accounts) (i:=(aC s 1).toNat) (x:=(nD (fM s (aC s 1)) h).1) hi
  have h2:=aW8 (fM s (aC s 1)) h
  have e:fM s (aC s 1)=s.Accounts[(aC s 1).toNat]:=by simp[fM,List.getD,ac hi]
  rw[e] at h1 h2 ⊢
  simp only[ae,D.Site.sz,ax];omega
def aUp (h:Int)(l:List D.Site):((l.map (jQ h)).map D.Site.sz).sum=(l.map D.Site.sz).sum:=by
 induction l with
 |nil=>rfl
 |cons s l ih=>simp only[bm,df,aW9,ih]
def bBm {w:D.World}{b t:Int}(h0:((aH w b 0).2==0)=true):(aN (gZ w b) b=true/\(gZ w b).Devices.length=w.Devices.length/\(gZ w b).aAB=w.aAB/\(gZ w b).sz<=2*w.sz+20)/\(H8 w b t).length<=w.sz+1/\(aN (lX w b t).1 b=true/\(lX w b t).1.Devices=(gZ w b).Devices)/\(lX w b t).1.sz<=16*w.sz+34/\(lX w b t).1.Sites=(gZ w b).Sites:=by
 obtain⟨⟨k1,k2⟩,k3,k4,k5⟩:=jP h0
 have hL:w.aAB.Log.length<=w.sz:=by simp only[D.World.sz,D.aAB.sz];omega
 have hl:=nM (gZ w b).aAB.Log 2 (aY (aO w t).Store) (aO (gZ w b) b).Store
 obtain⟨g1,g2,g3,g4⟩:=H5 (gZ w b) b 2 (aY (aO w t).Store) (mM (aO (gZ w b) b).Store)
 have hd0:aN (aH w b 0).1 b=true:=by simp only[aN] at*;rw[k4];exact k2
 have hd:aN (gZ w b) b=true:=hd0
 have kc:(gZ w b).aAB=w.aAB:=k3
 rw[kc] at g1 hl
 have k6:(gZ w b).sz<=w.sz+w.aAB.Log.length+20:=k5
 refine⟨⟨hd,k4,k3,by omega⟩,by unfold H8;rw[kc];omega,⟨?_,g3⟩,by unfold lX;omega,g4⟩
 have h:aN (iA (gZ w b) b 2 (aY (aO w t).Store) (mM (aO (gZ w b) b).Store)).1 b=true:=by simp only[aN] at*;rw[g3];exact hd
 exact h
--needs aAL aAN aAM
def jE (b:D.aAD)(id:Int):Int:=bJ b.Seed [197,id]
def aGr (b:D.aAD)(acc now:Int):D.aAM:=⟨b.Next,acc,IntKind.i64.wrap (now+5)⟩
def iT (b:D.aAD)(acc now:Int):D.aAD×D.aAM×Bool:=bif dW b&&(!(b.Next==1000000)&&(bI acc 0 1000000&&bI now 0 1000000)) then(⟨b.Seed,IntKind.i64.wrap (b.Next+1),(bif decide ((b.Open.length:Int)>=16) then b.Open.drop 1 else b.Open)++[aGr b acc now]⟩,aGr b acc now,true) else(b,⟨0,0,0⟩,false)
def dH (b:D.aAD)(id:Int):Int:=iG (λc=>c.Id==id) 0 b.Open
def aRq (b:D.aAD)(k:Int):D.aAM:=b.Open.getD k.toNat default
def sM (b:D.aAD)(id acc now:Int):D.aAD×Bool:=bif !dW b||decide (dH b id<0) then(b,false) else(⟨b.Seed,b.Next,b.Open.take (dH b id).toNat++b.Open.drop ((dH b id).toNat+1)⟩,(aRq b (dH b id)).aAH==acc&&decide (now<=(aRq b (dH b id)).Until))
def rH (s:D.Site)(id now:Int):D.Site×Int×Int×Bool:=bif dE s&&(!decide (aC s id<0)&&(iT s.Book id now).2.2) then({s with Book:=(iT s.Book id now).1},(iT s.Book id now).2.1.Id,jE (iT s.Book id now).1 (iT s.Book id now).2.1.Id,true) else(s,0,0,false)
def sN (s:D.aAI):Bool:=bI s.Vendor 1 9&&(bI s.Serial 0 1000000&&(bG s.Seed&&bI s.Counter 0 1000000))
def bJt (s:D.aAI):D.aAI:={s with Counter:=IntKind.i64.wrap (s.Counter+1)}
def fI (s:D.aAI)(site:ByteArray)(h:Int)(m:List Int):D.aAI×Int×Bool:=bif sN s&& !(s.Counter==1000000) then(bJt s,yZ (eO s site h) (m++[(bJt s).Counter]),true) else(s,0,false)
def dA (a:D.aAL):List Int:=[199,bT a.Site,wF 211 a.aAN,a.aAM,a.Handle,bif a.Present then 1 else 0]
def aPs (j:Int):D.aAN:=⟨true,⟨#[119,119,119,46]⟩++aA j,443⟩
def aXa (j:Int):D.aAN:=⟨true,⟨#[108,111,103,105,110,46]⟩++aA j++⟨#[46,101,118,105,108,46,110,101,116]⟩,443⟩
def bJu (j:Int):D.aAN:=⟨true,aA j,443⟩
def qD (k:Nat):D.aAN:=match k with|0=>aPs 0|1=>aPs 1|2=>bJu 0|3=>bJu 1|4=>aXa 0|_=>aXa 1
def Lu (k:Nat):ByteArray:=⟨#[104,116,116,112,115,58,47,47]⟩++(qD k).Host
def bNr:List UInt8->List UInt8->Bool
 |[],b=>b==[]
 |x::a,b=>b==x::a||bNr a b
def rV (o:D.aAN)(z:ByteArray):Bool:=bNr (46::o.Host.data.toList) (46::z.data.toList)
def He (o:D.aAN)(s:ByteArray):Prop:=(∃k:Nat,k<6/\o=qD k)/\∃j:Int,(j=0\/j=1)/\s=aA j
noncomputable instance (o:D.aAN) (s:ByteArray):Decidable (He o s):=Classical.propDecidable _
def oF (o:D.aAN):Prop:=∃k:Nat,k<6/\o=qD k
def oF.p {o:D.aAN}(h:oF o){j:Int}(hj:j=0\/j=1):He o (aA j):=⟨h,j,hj,rfl⟩
def bL4 {j:Int}(hj:j=0\/j=1):oF (aPs j):=by
 rcases hj with rfl|rfl
 ·exact⟨0,by decide,rfl⟩
 ·exact⟨1,by decide,rfl⟩
noncomputable instance (o:D.aAN):Decidable (oF o):=Classical.propDecidable _
def nE (o:D.aAN):ByteArray:=⟨#[104,116,116,112,115,58,47,47]⟩++o.Host
def bBn (s:ByteArray):Prop:=s=⟨#[]⟩\/∃k:Nat,k<4/\s=Lu k
noncomputable instance (s:ByteArray):Decidable (bBn s):=Classical.propDecidable _
def vR (s:ByteArray):D.aAN×Bool:=bif decide (s.size=0) then(⟨false,⟨#[]⟩,0⟩,false) else(⟨true,s.extract 8 s.size,443⟩,true)
def aA0 (s:D.aAI)(o:D.aAN)(site:ByteArray)(h ch:Int)(p:Bool):D.aAL:=⟨site,nE o,ch,h,p,0,0⟩
def bFh:D.aAL:=⟨⟨#[]⟩,⟨#[]⟩,0,0,false,0,0⟩
def jF (s:D.aAI)(o:D.aAN)(site:ByteArray)(h ch:Int)(p:Bool):D.aAI×D.aAL×Bool:=bif rV o site&&(fI s site h (dA (aA0 s o site h ch p))).2.2 then((fI s site h (dA (aA0 s o site h ch p))).1,{aA0 s o site h ch p with Counter:=(fI s site h (dA (aA0 s o site h ch p))).1.Counter,Signature:=(fI s site h (dA (aA0 s o site h ch p))).2.1},true) else(s,bFh,false)
def AsP (a:D.aAL)(site:ByteArray):Prop:=∃j:Int,(j=0\/j=1)/\site=aA j/\(a=bFh\/(a.Site=site/\∃k:Nat,k<4/\a.aAN=Lu k/\rV (qD k) site=true))
noncomputable instance (a:D.aAL) (s:ByteArray):Decidable (AsP a s):=Classical.propDecidable _
def kP (pub:Int)(a:D.aAL)(site:ByteArray)(ch cnt:Int):Int:=bif !(a.Site.toList==site.toList) then 1 else bif !a.Present then 2 else bif !(a.aAM==ch) then 3 else bif !gB pub (dA a++[a.Counter]) a.Signature then 5 else bif decide (a.Counter<=cnt) then 4 else 0
def mW (a:D.aAH)(x:D.aAL)(site:ByteArray)(ch:Int):D.aAH×Int:=bif !aZ a||(decide (aU a x.Handle<0)||(fH a (aU a x.Handle)).Cut) then(a,5) else({a with Credentials:=bif kP (fH a (aU a x.Handle)).Public x site ch (fH a (aU a x.Handle)).Counter==0 then a.Credentials.set (aU a x.Handle).toNat {fH a (aU a x.Handle) with Counter:=x.Counter} else bif kP (fH a (aU a x.Handle)).Public x site ch (fH a (aU a x.Handle)).Counter==4 then a.Credentials.set (aU a x.Handle).toNat {fH a (aU a x.Handle) with Cut:=true} else a.Credentials},kP (fH a (aU a x.Handle)).Public x site ch (fH a (aU a x.Handle)).Counter)
def zB (a:D.aAH)(m:Int):Bool:=aZ a&&(decide (a.Minimum<=m)&&(decide (m<=3)&&(!(m==3)||a.Credentials.any λc=> !c.Cut)))
def rW (s:D.Site)(id ch now:Int)(a:D.aAL):D.Site×Int×Int:=bif !dE s||decide (aC s id<0) then(s,1,0) else bif !(sM s.Book ch id now).2 then({s with Book:=(sM s.Book ch id now).1},2,0) else bif !zB (fM s (aC s id)) 3 then({s with Book:=(sM s.Book ch id now).1},3,0) else bif !((mW (fM s (aC s id)) a s.Name (jE s.Book ch)).2==0) then({s with Book:=(sM s.Book ch id now).1,Accounts:=s.Accounts.set (aC s id).toNat (mW (fM s (aC s id)) a s.Name (jE s.Book ch)).1},4,(mW (fM s (aC s id)) a s.Name (jE s.Book ch)).2) else({s with Book:=(sM s.Book ch id now).1,Accounts:=s.Accounts.set (aC s id).toNat (mW (fM s (aC s id)) a s.Name (jE s.Book ch)).1,Logins:=s.Logins++[id]},0,0)
def mX (w:D.World)(j:Int):D.Site:=w.Sites.getD j.toNat default
def sO (w:D.World)(j:Int):D.Site×Int×Int×Bool:=rH (mX w j) 1 w.Now
def aMl (w:D.World)(d j:Int)(o:D.aAN):D.aAI×D.aAL×Bool:=jF (aO w d).Store o (aA j) d (sO w j).2.2.1 true
def aEs (w:D.World)(d j:Int)(o:D.aAN):D.Site×Int×Int:=rW (sO w j).1 1 (sO w j).2.1 w.Now (aMl w d j o).2.1
def bBo (w:D.World)(d j:Int)(o:D.aAN):D.World:={w with Devices:=w.Devices.set d.toNat {aO w d with Store:=(aMl w d j o).1},Sites:=w.Sites.set j.toNat (aEs w d j o).1}
def eD (w:D.World)(d j:Int):Bool:=aV w&&(aN w d&&wH w j)
def kW (w:D.World)(d j:Int)(o:D.aAN):D.World×D.aAL×Int:=bif !eD w d j then(w,bFh,1) else bif !(sO w j).2.2.2 then(w,bFh,1) else bif !((aEs w d j o).2.1==0) then(bBo w d j o,(aMl w d j o).2.1,2) else(Ls (bBo w d j o) 1,(aMl w d j o).2.1,0)
def Gd (w:D.World)(d j:Int)(o:D.aAN):D.World×Int:=((kW w d j o).1,(kW w d j o).2.2)
def pG (w:D.World)(d j:Int):D.World×Int:=bif eD w d j&& !dU w d then Gd w d j (aPs j) else(w,1)
def oG (o:D.aAN):Bool:=fE o.Host&&bI o.Port 1 65535
def aXb (m:Int):Nat->Int->Int->Int->Int
 |0,_,_,s=>s
 |k+1,b,n,s=>if n>0 then aXb m k ((IntKind.i64.wrap (b*b)).tmod m) (n/2) (bif n%2==1 then(IntKind.i64.wrap (s*b)).tmod m else s) else s
def aIl (x:Int):Bool:=bI x 1 2038&&aXb 2039 11 x 1019 1==1
def wM (g n:Int):Int:=bif aIl g then aXb 2039 11 g (gK n 1019) 1 else 0
def I5 (l v:Int):Int:=wM 4 (IntKind.i64.wrap (1+((IntKind.i64.wrap (bJ l [89,v]*bJ l [89,v])).tmod 2147483647).tmod 1018))
def Qm (s l i:Int):Int:=wM (I5 l i) s
def zC (e l:Int):Int:=iI (bJ e [157,l])
def aPt (k m:Int):Int:=bif bI k 0 2147483647 then aSx .i64 k (aT m [251]) else 0
def I6 (o s:Int):Int:=bJ o [257,s]
def wN (c:Int)(l:List Int)(n:Int):List D.aAS:=bif bI n 1 7&&decide ((l.length:Int)<n) then(List.range n.toNat).map λ(i:Nat)=>⟨(i:Int)+1,Uc c l ((i:Int)+1)⟩ else[]
def I7 (k:D.aAV):D.aAG:=⟨k,[],Ub k⟩
def aRr (pin salt key secret limit:Int):Bool:=bI pin 0 9999&&(bI salt 0 1000000&&(bG key&&(!(gK secret 1019==0)&&bI limit 1 10)))
def Gf (pin salt key secret:Int)(cs:List Int)(n limit:Int):D.aAP×List D.aAG×Bool:=
 bif aRr pin salt key secret limit&& !((wN secret cs n).length==0) then(⟨salt,IntKind.i64.wrap ((cs.length:Int)+1),I6 (zC (Qm secret salt pin) salt) salt,aPt key (zC (Qm secret salt pin) salt)⟩,(wN secret cs n).map (λs=>I7 ⟨s,0,0,limit⟩),true) else(⟨0,0,0,0⟩,[],false)
def dF (log:List D.aAC)(bx:D.aAE):D.aAB×Bool:=bif bC log&&gF bx log then(⟨log,bx,[]⟩,true) else(⟨[],⟨0,[]⟩,[]⟩,false)
def pI (id:Int)(l:List D.aAH):Nat:=(l.takeWhile λa=>decide (a.Id<id)).length
def nG (s:D.Site)(id m:Int):D.Site:={s with Accounts:=s.Accounts.take (pI id s.Accounts)++[⟨id,m,[]⟩]++s.Accounts.drop (pI id s.Accounts)}
def kQ (s:D.Site)(id m:Int):D.Site×Bool:=bif dE s&&dE (nG s id m) then(nG s id m,true) else(s,false)
def rX (nm:ByteArray):Nat->List D.Device->D.Site->D.Site
 |_,[],s=>s
 |i,d::l,s=>rX nm (i+1) l (eG s 1 (i:Int) (dM d.Store nm (i:Int))).1
def Lv (seed:Int)(l:List D.Device)(j:Int):D.Site:=rX (aA j) 0 l (kQ (eZ (aA j) (aT seed [281,j])) 1 3).1
def wO (l:List D.Device)(seed:Int):List D.Site:=[Lv seed l 0,Lv seed l 1]
def aS (seed:Int):Nat->List D.aAC
 |0=>[]
 |n+1=>(dQ (aS seed n) 1 (aY (aL seed (n:Int))) (aL seed 0)).1
def dB (seed:Int)(n:Nat):List D.Device:=(List.range n).map λ(i:Nat)=>bM (aL seed (i:Int))
def Cm (nm:ByteArray):Nat->D.Device->D.Device
 |0,d=>d
 |i+1,d=>(cO (Cm nm i d) nm (i:Int) false).1
def eT (seed:Int)(n:Nat):D.aAE:=(bD (aS seed n) (bL seed 0) 1000).1
def sP (seed:Int)(n:Nat)(d:D.Device):D.Device:=(lW d (aS seed n) (bL seed 0)).1
def jR (seed:Int)(n:Nat):D.Device:=Cm (aA 1) n (Cm (aA 0) n (sP seed n (bM (aL seed 0))))
def nwW (seed:Int)(n:Nat):D.Device×D.aAA×Bool:=dD (jR seed n)
def gT (seed:Int)(n:Nat):D.aAB:=(cK (dF (aS seed n) (eT seed n)).1 (nwW seed n).2.1).1
def Gg (seed:Int)(n:Nat)(d:D.Device):D.Device:=(bO (sP seed n d) (aS seed n) (eT seed n) (nwW seed n).2.1).1
def iF (seed:Int)(n:Nat):List D.Device:=(nwW seed n).1::((dB seed n).drop 1).map (Gg seed n)
def aIm (seed t:Int):List Int:=(List.range (t-1).toNat).map λ(k:Nat)=>aT seed [307,(k:Int)+1]
def aGs (seed t pin k:Int):D.aAP×List D.aAG×Bool:=Gf pin 7 (aT seed [283]) (IntKind.i64.wrap (1+(aT seed [293]).tmod 1018)) (aIm seed t) k 5
def aEu (n k t pin seed:Int):Bool:=bI n 1 3&&(bI k 1 7&&(bI t 1 k&&(bI pin 0 9999&&bG seed)))
def aRs:D.World:=⟨0,0,[],[],⟨[],⟨0,[]⟩,[]⟩,[],⟨0,0,0,0⟩,[],0,⟨[]⟩⟩
def fA (n k t pin seed:Int):D.World:=bif aEu n k t pin seed then⟨0,seed,iF seed n.toNat,List.replicate n.toNat false,gT seed n.toNat,wO (dB seed n.toNat) seed,(aGs seed t pin k).1,(aGs seed t pin k).2.1,pin,⟨[]⟩⟩ else aRs
def aXc {l:List Int}(h:l.Nodup)(e:D.aAC):(iQ l e).Nodup:=by
 unfold iQ
 cases e.Kind==1 with
 |true=>
  simp only[ae]
  cases hc:l.contains e.Device with
  |true=>exact h
  |false=>
   simp only[ab]
   rw[dk]
   refine⟨h,by simp,λa ha b hb e'=> ?_⟩
   simp at hb;subst hb;subst e'
   have:l.contains e.Device=true:=by simpa using ha
   rw[hc] at this;cases this
 |false=>
  simp only[ab]
  cases e.Kind==2 with
  |true=>exact h.filter _
  |false=>exact h
def aXd (log:List D.aAC):(aD log).Nodup:=by
 have key:∀(l:List D.aAC) (s:List Int),s.Nodup->(l.foldl iQ s).Nodup:=by
  intro l
  induction l with
  |nil=>exact λ_ h=>h
  |cons e l ih=>exact λs h=>ih _ (aXc h e)
 exact key log [] fh
def aUq {e:Int}{d:List Int}:∀{i:Nat} {l:List Int},(dZ e d i l).2=true->(dZ e d i l).1.map (λb=>b.To)=l
 |_,[],_=>rfl
 |i,p::l,h=>by
  simp only[dZ] at h ⊢
  cases hc:(dY p (IntKind.i64.wrap (e+(i:Int))) d).2&&(dZ e d (i+1) l).2 with
  |false=>rw[hc] at h;cases h
  |true=>
   rw[aa] at hc
   simp only[ae,bm,aUq hc.2]
   have:(dY p (IntKind.i64.wrap (e+(i:Int))) d).1.To=p:=by
    have h1:=hc.1
    unfold dY at h1 ⊢
    cases hq:eP p==0||(!bG (IntKind.i64.wrap (e+(i:Int)))||decide ((d.length:Int)>200)) with
    |true=>rw[hq] at h1;cases h1
    |false=>rfl
   rw[this]
def aPu:∀{l:List D.Box} {d:Int} {s:Int},(l.map λb=>b.To).Nodup->0<=s->s<1000->l.foldl (λn b=>bif b.To==d then IntKind.i64.wrap (n+1) else n) s=s+(if d∈l.map (λb=>b.To) then 1 else 0)
 |[],d,s,_,_,_=>by simp
 |b::l,d,s,h,h0,h1=>by
  rw[bm,cu] at h
  rw[dc]
  cases hc:b.To==d with
  |true=>
   have hd:b.To=d:=by simpa using hc
   have hn:d∉l.map (λb=>b.To):=hd▸h.1
   have hw:IntKind.i64.wrap (s+1)=s+1:=aI (by omega) (by omega)
   have key:∀(l:List D.Box) (s:Int),d∉l.map (λb=>b.To)->l.foldl (λn b=>bif b.To==d then IntKind.i64.wrap (n+1) else n) s=s:=by
    intro l
    induction l with
    |nil=>exact λ_ _=>rfl
    |cons x l ih=>
     intro s hx
     simp only[bm,ba,not_or] at hx
     have:(x.To==d)=false:=by simpa using λe=>hx.1 e.symm
     rw[dc,this,ab]
     exact ih s hx.2
   rw[ae,key l _ hn,hw,bm,cH (by simp[hd])]
  |false=>
   have hd:¬b.To=d:=by simpa using hc
   rw[ab,aPu h.2 h0 h1,bm]
   have:(d∈b.To::l.map λb=>b.To)↔d∈l.map λb=>b.To:=by rw[ba];exact⟨λh=>h.resolve_left λe=>hd e.symm, .inr⟩
   simp only[this]
def aMm {log:List D.aAC}{k e:Int}(h:(bD log k e).2=true):gF (bD log k e).1 log=true:=by
 unfold bD at h ⊢
 cases hc: !bC log||(!bG k|| !(dZ e (gN [aJ log,k]) 0 (aD log)).2) with
 |true=>rw[hc] at h;cases h
 |false=>
  simp only[cn,eh] at hc
  have ht:=aUq hc.2.2
  have hl:=congrArg List.length ht
  rw[bl] at hl
  simp only[ab,gF,pE,aa,cI,cG,hl,and_self,true_and,dx]
  intro d hd
  rw[aPu (by rw[ht];exact aXd log) (by omega) (by omega),ht,cH hd];rfl
def bBp {log:List D.aAC}{k e:Int}(h:(bD log k e).2=false):(bD log k e).1=⟨0,[]⟩:=by
 unfold bD at h ⊢
 cases hc: !bC log||(!bG k|| !(dZ e (gN [aJ log,k]) 0 (aD log)).2) with
 |true=>rfl
 |false=>rw[hc] at h;cases h
def aPv {d:D.Device}{log:List D.aAC}{bx:D.aAE}{s:D.aAA}(h:(eQ d log bx s==0)=false):(bO d log bx s).1=d:=by
 unfold bO;rw[h];rfl
def bFi (d:D.Device)(bx:D.aAE)(s:D.aAA):(bO d [] bx s).1=d:=aPv rfl
def bL5 (s:D.aAI):(bB s ⟨0,[]⟩).2=false:=rfl
def aXe {log:List D.aAC}{key e:Int}{s:D.aAA}(hs:s=⟨0,0,[],0⟩\/s.Epoch=aJ log)(d:D.Device):
  (bO d (cK (dF log (bD log key e).1).1 s).1.Log (cK (dF log (bD log key e).1).1 s).1.Boxes (bN (cK (dF log (bD log key e).1).1 s).1 0).1).1=(bO d log (bD log key e).1 s).1:=by
 cases hc:bC log&&gF (bD log key e).1 log with
 |true=>
  have e1:(dF log (bD log key e).1).1=⟨log,(bD log key e).1,[]⟩:=by unfold dF;rw[hc];rfl
  rw[e1]
  cases hq:s.Epoch !=aJ log with
  |true=>
   have hs':s=⟨0,0,[],0⟩:=by
    rcases hs with h|h
    ·exact h
    ·rw[h] at hq;simp at hq
   have e2:(cK ⟨log,(bD log key e).1,[]⟩ s).1=⟨log,(bD log key e).1,[]⟩:=by
    unfold cK;rw[show(D.aAB.mk log (bD log key e).1 []).Log=log from rfl,hq];rfl
   rw[e2,hs'];rfl
  |false=>
   have e2:(cK ⟨log,(bD log key e).1,[]⟩ s).1=⟨log,(bD log key e).1,[s]⟩:=by
    unfold cK;rw[show(D.aAB.mk log (bD log key e).1 []).Log=log from rfl,hq];rfl
   rw[e2];rfl
 |false=>
  have e1:(dF log (bD log key e).1).1=⟨[],⟨0,[]⟩,[]⟩:=by unfold dF;rw[hc];rfl
  have e2:(cK (dF log (bD log key e).1).1 s).1.Log=[]:=by rw[(nL _ _).2,e1]
  rw[e2,bFi]
  refine(aPv ?_).symm
  cases hl:bC log with
  |false=>simp only[eQ,hl,dv,iw,ae];rfl
  |true=>
   rw[hl,da] at hc
   have hm:(bD log key e).2=false:=by
    cases hm:(bD log key e).2 with
    |false=>rfl
    |true=>rw[aMm hm] at hc;cases hc
   rw[bBp hm]
   simp only[eQ,hl,bL5,bf,cL,dv,iy,ae]
   cases !bZ log d.Log with
   |true=>rfl
   |false=>
    simp only[ab]
    cases !gM (aD log) (aY d.Store)<;>rfl
def I8 (nm:ByteArray):∀(i:Nat) (d:D.Device),(Cm nm i d).sz<=d.sz+i
 |0,d=>aj _
 |i+1,d=>by have h1:=I8 nm i d;have h2:=Ci (Cm nm i d) nm (i:Int) false;show(cO (Cm nm i d) nm (i:Int) false).1.sz<=_;omega
def nO (seed:Int):∀n:Nat,(aS seed n).length<=n
 |0=>aj _
 |n+1=>by have h1:=nO seed n;have h2:=nM (aS seed n) 1 (aY (aL seed (n:Int))) (aL seed 0);show(dQ (aS seed n) 1 (aY (aL seed (n:Int))) (aL seed 0)).1.length<=_;omega
def aGt (seed:Int)(n:Nat)(d:D.Device):(sP seed n d).sz<=d.sz+n:=by
 have h1:=aIk d (aS seed n) (bL seed 0);have h2:=nO seed n;show(lW d (aS seed n) (bL seed 0)).1.sz<=_;omega
def aA1 (s:D.aAI):(bM s).sz=0:=rfl
def aIn (seed:Int)(n:Nat):(jR seed n).sz<=3*n:=by
 have h1:=I8 (aA 1) n (Cm (aA 0) n (sP seed n (bM (aL seed 0))))
 have h2:=I8 (aA 0) n (sP seed n (bM (aL seed 0)))
 have h3:=aGt seed n (bM (aL seed 0))
 rw[aA1] at h3
 unfold jR;omega
def aIo (seed:Int)(n:Nat):(eT seed n).sz<=13*n:=by
 have h1:=Ck (aS seed n) (bL seed 0) 1000;have h2:=nO seed n;unfold eT;omega
def Lx (log:List D.aAC)(bx:D.aAE):(dF log bx).1.sz<=log.length+bx.sz:=by
 unfold dF
 cases bC log&&gF bx log with
 |true=>simp only[ae,D.aAB.sz,D.aAE.sz,bo,ex,fy];omega
 |false=>exact cw _
def aIp (seed:Int)(n:Nat):(gT seed n).sz<=14*n+501:=by
 have h1:=(nL (dF (aS seed n) (eT seed n)).1 (nwW seed n).2.1).1
 have h2:=Lx (aS seed n) (eT seed n)
 have h3:=aIo seed n
 have h4:=nO seed n
 have h5:=(vQ (jR seed n)).2
 have h5:(nwW seed n).2.1.Data.length<=500:=h5
 unfold gT;omega
def bBq (seed:Int)(n:Nat)(d:D.Device):(Gg seed n d).sz<=d.sz+2*n+20:=by
 have h1:=aIi (sP seed n d) (aS seed n) (eT seed n) (nwW seed n).2.1
 have h2:=aGt seed n d
 have h3:=nO seed n
 unfold Gg;omega
def aXf {α:Type}{f:α->Nat}{b:Nat}:∀{l:List α},(∀x∈l,f x<=b)->(l.map f).sum<=l.length*b
 |[],_=>cw _
 |x::l,h=>by
  have h1:=h x (by simp);have h2:=aXf (l:=l) (f:=f) (b:=b) λy hy=>h y (by simp[hy])
  simp only[bm,df,av,dr];omega
def Vt (nm:ByteArray):∀(i:Nat) (l:List D.Device) (s:D.Site),(rX nm i l s).sz<=s.sz+l.length
 |_,[],s=>aj _
 |i,d::l,s=>by
  have h1:=Vt nm (i+1) l (eG s 1 (i:Int) (dM d.Store nm (i:Int))).1
  have h2:=aPl s 1 (i:Int) (dM d.Store nm (i:Int))
  show(rX nm (i+1) l (eG s 1 (i:Int) (dM d.Store nm (i:Int))).1).sz<=_
  rw[av];omega
def aIq (s:D.Site)(id m:Int):(kQ s id m).1.sz<=s.sz+1:=by
 unfold kQ
 cases dE s&&dE (nG s id m) with
 |false=>simp only[ab];omega
 |true=>
  have e:(s.Accounts.map D.aAH.sz).sum=((s.Accounts.take (pI id s.Accounts)).map D.aAH.sz).sum+((s.Accounts.drop (pI id s.Accounts)).map D.aAH.sz).sum:=by rw[<-eN,<-cT,cF]
  have el:(s.Accounts.take (pI id s.Accounts)).length+(s.Accounts.drop (pI id s.Accounts)).length=s.Accounts.length:=by rw[<-aw,cF]
  simp only[ae,nG,D.Site.sz,aw,cT,eN,av,bo,bm,ex,df,fy,D.aAH.sz]
  omega
def aD6 (nm:ByteArray)(s:Int):(eZ nm s).sz<=nm.size:=by
 unfold eZ
 cases jC nm s with
 |true=>simp[D.Site.sz]
 |false=>exact cw _
def aD7 (seed:Int)(l:List D.Device)(j:Int):(Lv seed l j).sz<=l.length+101:=by
 have h1:=Vt (aA j) 0 l (kQ (eZ (aA j) (aT seed [281,j])) 1 3).1
 have h2:=aIq (eZ (aA j) (aT seed [281,j])) 1 3
 have h3:=aD6 (aA j) (aT seed [281,j])
 have h4:(aA j).size<=100:=by unfold aA;cases j==0<;>cases j==1<;>decide
 unfold Lv;omega
def aPw (c:Int)(l:List Int)(n:Int):(wN c l n).length<=7:=by
 unfold wN
 cases hc:bI n 1 7&&decide ((l.length:Int)<n) with
 |false=>exact cw _
 |true=>
  rw[aa] at hc
  have:=jS hc.1
  simp only[ae,bl,fN];omega
def aRt (pin salt key secret:Int)(cs:List Int)(n limit:Int):(Gf pin salt key secret cs n limit).2.1.length<=7/\((Gf pin salt key secret cs n limit).2.1.map D.aAG.sz).sum=0:=by
 unfold Gf
 cases aRr pin salt key secret limit&& !((wN secret cs n).length==0) with
 |false=>exact⟨cw _,rfl⟩
 |true=>
  refine⟨by simp only[ae,bl];exact aPw _ _ _,?_⟩
  have:=aXf (f:=D.aAG.sz) (b:=0) (l:=(wN secret cs n).map λs=>I7 ⟨s,0,0,limit⟩) (λx hx=>by obtain⟨s,_,rfl⟩:=cg.1 hx;exact aj _)
  simp only[ae];omega
def aUr (n k t pin seed:Int):(fA n k t pin seed).sz<=100000:=by
 unfold fA
 cases hc:aEu n k t pin seed with
 |false=>exact cw _
 |true=>
  simp only[aEu,aa] at hc
  have hn:=jS hc.1
  obtain⟨N,hN⟩:∃N,N=n.toNat:=⟨_,rfl⟩
  have hN3:N<=3:=by omega
  have h1:=vQ (jR seed N)
  have h2:=aIn seed N
  have h3:=aIp seed N
  have h4:=aD7 seed (dB seed N) 0
  have h5:=aD7 seed (dB seed N) 1
  have h6:=aRt pin 7 (aT seed [283]) (IntKind.i64.wrap (1+(aT seed [293]).tmod 1018)) (aIm seed t) k 5
  have h7:(dB seed N).length=N:=by simp[dB]
  have h8:=aXf (f:=D.Device.sz) (b:=26) (l:=((dB seed N).drop 1).map (Gg seed N)) (λx hx=>by
   obtain⟨d,hd,rfl⟩:=cg.1 hx
   have hd':=dl hd
   simp only[dB,cg] at hd'
   obtain⟨i,_,rfl⟩:=hd'
   have:=bBq seed N (bM (aL seed (i:Int)))
   rw[aA1] at this;omega)
  have h9:(nwW seed N).1.sz=(jR seed N).sz:=h1.1
  have h6':(aGs seed t pin k).2.1.length<=7/\((aGs seed t pin k).2.1.map D.aAG.sz).sum=0:=h6
  rw[bl,ck,h7] at h8
  simp only[ae,<-hN,D.World.sz,iF,wO,av,bl,ck,h7,bm,df,bo,ex,fy,fe,h9]
  have h10:(gT seed N).sz<=14*N+501:=h3
  have h11:(N-1)*26<=52:=en 26 (show N-1<=2 by omega)
  simp only[D.aAB.sz,D.aAE.sz] at h10
  omega
def bBr (d:D.Device)(n:ByteArray)(h:Int)(rm:Bool):(cO d n h rm).1.Key=d.Key/\(cO d n h rm).1.Epoch=d.Epoch:=by
 unfold cO
 cases(oV d n h rm).2<;>exact⟨rfl,rfl⟩
def aRu (nm:ByteArray):∀(i:Nat) (d:D.Device),(Cm nm i d).Key=d.Key/\(Cm nm i d).Epoch=d.Epoch
 |0,d=>⟨rfl,rfl⟩
 |i+1,d=>by
  obtain⟨h1,h2⟩:=aRu nm i d;obtain⟨h3,h4⟩:=bBr (Cm nm i d) nm (i:Int) false
  exact⟨h3.trans h1,h4.trans h2⟩
def aXg (seed:Int)(n:Nat):(jR seed n).Key=(sP seed n (bM (aL seed 0))).Key/\(jR seed n).Epoch=(sP seed n (bM (aL seed 0))).Epoch:=by
 obtain⟨h1,h2⟩:=aRu (aA 1) n (Cm (aA 0) n (sP seed n (bM (aL seed 0))))
 obtain⟨h3,h4⟩:=aRu (aA 0) n (sP seed n (bM (aL seed 0)))
 exact⟨h1.trans h3,h2.trans h4⟩
def aXh {seed:Int}{n:Nat}(h:bG (sP seed n (bM (aL seed 0))).Key=true):(sP seed n (bM (aL seed 0))).Epoch=aJ (aS seed n):=by
 unfold sP lW at h ⊢
 cases hq: !bC (aS seed n)||(!bZ (aS seed n) (bM (aL seed 0)).Log||(decide (aJ (aS seed n)<(bM (aL seed 0)).Epoch)|| !bG (bL seed 0))) with
 |true=>rw[hq] at h;exact absurd (show bG 0=true from h) (by decide)
 |false=>rfl
def bBs (seed:Int)(n:Nat):(nwW seed n).2.1=⟨0,0,[],0⟩\/(nwW seed n).2.1.Epoch=aJ (aS seed n):=by
 obtain⟨k1,k2⟩:=aXg seed n
 unfold nwW dD
 generalize jR seed n=d at k1 k2 ⊢
 cases hs:(lG d.Key d.Epoch (IntKind.i64.wrap (d.Version+1)) d.aAF).2 with
 |false=>exact .inl rfl
 |true=>
  refine .inr ?_
  simp only[ae]
  unfold lG at hs ⊢
  cases hc:bG d.Key&&(bI d.Epoch 0 1000000&&bI (IntKind.i64.wrap (d.Version+1)) 0 1000000)&&aP d.aAF with
  |false=>rw[hc] at hs;cases hs
  |true=>
   simp only[aa] at hc
   show d.Epoch=_
   rw[k2]
   exact aXh (k1▸hc.1.1)
def bIa (seed:Int)(n:Nat)(d:D.Device):(bO (sP seed n d) (gT seed n).Log (gT seed n).Boxes (bN (gT seed n) 0).1).1=Gg seed n d:=aXe (bBs seed n) (sP seed n d)
def bL6 (f:Int->Int)(l:List Int)(j:Nat)(x:Int):Bool:=(l.take j).any λq=>f q==f x
def bIb (s:D.aAS)(e:Int):Int:=bif aIl e&&(!(e==1)&&bI s.Value 0 1018) then wM e s.Value else 0
def aZp (k:D.aAV)(e:Int):D.aAV×Int×Bool:=bif aPd k&&(!(k.Guesses==k.Limit)&&(aIl e&& !(e==1))) then({k with Guesses:=IntKind.i64.wrap (k.Guesses+1)},bIb k.aAS e,true) else(k,0,false)
def bPp (l:List D.aAV):List D.aAV:=bif decide ((l.length:Int)>30) then l.drop 1 else l
def aUs (h:D.aAG)(e:Int):D.aAG×Int×Bool:=bif decide (Ub h.State<h.Monotonic)|| !(aZp h.State e).2.2 then(h,0,false) else(⟨(aZp h.State e).1,bPp (h.Saved++[h.State]),Ub (aZp h.State e).1⟩,(aZp h.State e).2.1,true)
def bL7 (l i b:Int):Int:=bif gK b 1019==0 then 0 else wM (I5 l i) b
def bL8 (hs:List D.aAG)(ch:List Int)(i:Nat)(c:Int):Bool:=(decide (c<0)||decide (c>=(hs.length:Int)))||bL6 (λq=>q) ch i c
def bIc (hs:List D.aAG)(ch:List Int):Bool:= !gL (bL8 hs ch) 0 ch
def bPq (e:Int)(s:List D.aAG×List Int×List Int)(c:Int):List D.aAG×List Int×List Int:=
 (s.1.set c.toNat (aUs (s.1.getD c.toNat default) e).1,bif (aUs (s.1.getD c.toNat default) e).2.2 then s.2.1++[(aUs (s.1.getD c.toNat default) e).1.State.aAS.Index] else s.2.1,bif (aUs (s.1.getD c.toNat default) e).2.2 then s.2.2++[(aUs (s.1.getD c.toNat default) e).2.1] else s.2.2)
def bId (hs:List D.aAG)(ch:List Int)(e:Int):List D.aAG×List Int×List Int:=ch.foldl (bPq e) (hs,[],[])
def bJv (n:Int):Int:=bif gK n 1019==0 then 0 else aXb 1019 11 (gK n 1019) 1017 1
def bPr (l:List Int)(k a w:Int)(j:Nat):Int:=bif (j:Int)==k then w else(IntKind.i64.wrap ((IntKind.i64.wrap (w*gK (IntKind.i64.wrap (gK a 1019-gK (l.getD j 0) 1019)) 1019)).tmod 1019*bJv (IntKind.i64.wrap (gK (l.getD k.toNat 0) 1019-gK (l.getD j 0) 1019)))).tmod 1019
def bPs (l:List Int)(k a:Int):Int:=bif (decide (k<0)||decide (k>=(l.length:Int)))||gL (bL6 (λq=>gK q 1019) l) 0 l then 0 else(List.range l.length).foldl (bPr l k a) 1
def bL9 (a b:Int):Int:=bif aIl a&&aIl b then(IntKind.i64.wrap (a*b)).tmod 2039 else 0
def bIe (ix vs:List Int)(i:Nat)(x:Int):Bool:= !bI x 1 7||(!aIl (vs.getD i 0)||bL6 (λq=>q) ix i x)
def bNs (ix vs:List Int):Int:=(List.range vs.length).foldl (λo i=>bL9 o (wM (vs.getD i 0) (bPs ix (i:Int) 0))) 1
def bJw (ix vs:List Int):Int×Bool:=bif (!(ix.length==vs.length)||ix.length==0)||gL (bIe ix vs) 0 ix then(0,false) else(bNs ix vs,true)
def bNt (c b:Int):Int:=bif gK b 1019==0 then 0 else wM c (bJv b)
def bMa (v:D.aAP)(o:Int):Int×Bool:=bif I6 o v.Salt==v.Check then(aPt v.Masked o,true) else(0,false)
def Vu (v:D.aAP)(hs:List D.aAG)(ch:List Int)(pin b:Int):List D.aAG×List Int×List Int:=bId hs ch (bL7 v.Salt pin b)
def bPt (hs:List D.aAG)(ch:List Int)(pin b:Int):Bool:=bIc hs ch&&(!(gK b 1019==0)&&bI pin 0 9999)
def bJx (v:D.aAP)(hs:List D.aAG)(ch:List Int)(pin b:Int):List D.aAG×Int×Bool:=
 bif !bPt hs ch pin b then(hs,0,false) else
 bif decide ((ch.length:Int)<v.Threshold)||(decide ((Vu v hs ch pin b).2.2.length<ch.length)|| !(bJw (Vu v hs ch pin b).2.1 (Vu v hs ch pin b).2.2).2) then((Vu v hs ch pin b).1,0,false) else
  ((Vu v hs ch pin b).1,bMa v (zC (bNt (bJw (Vu v hs ch pin b).2.1 (Vu v hs ch pin b).2.2).1 b) v.Salt))
def bJy (w:D.World):Int:=IntKind.i64.wrap (1+(aT w.Seed [313,w.Now]).tmod 1018)
def aPx (w:D.World)(ch:List Int)(pin:Int):D.World×Int×Bool:=bif !aV w then(w,0,false) else
 (Ls {w with Hosts:=(bJx w.aAP w.Hosts ch pin (bJy w)).1} 5,(bJx w.aAP w.Hosts ch pin (bJy w)).2)
def bFj (w:D.World):List Int:=(List.range (min w.aAP.Threshold ((w.Hosts.length:Int)+1)).toNat).map λ(i:Nat)=>(i:Int)
def bIf (w:D.World)(pin:Int):D.World×Bool:=((aPx w (bFj w) pin).1,(aPx w (bFj w) pin).2.2)
structure AskIn (B:Nat) (hs:List D.aAG) (i:Nat) (s:List D.aAG×List Int×List Int):Prop where
 len:s.1.length=hs.length
 sz:∀h∈s.1,h.sz<=B+i
 eq:s.2.1.length=s.2.2.length
 le:s.2.2.length<=i
--needs aAL aAN aAM
def mY (w:D.World)(d:Int):D.World×Bool:=bif eD w d 0&& !dU w d then({w with Stolen:=w.Stolen.set d.toNat true},true) else(w,false)
def aGu (b:D.aAD)(now:Int):D.aAD:=bif dW b then {b with Open:=b.Open.filter λc=>decide (c.Until>=now)} else b
def aIr (w:D.World):D.World:={w with Now:=IntKind.i64.wrap (w.Now+1)}
def aUt (w:D.World):D.World×Bool:=bif aV (aIr w) then({aIr w with Sites:=w.Sites.map λs=>{s with Book:=aGu s.Book (aIr w).Now}},true) else(w,false)
def bFk (w:D.World)(d j:Int):D.World×Int:=bif eD w d j&&dU w d then Gd w d j (aPs j) else(w,1)
def bFl (w:D.World)(d j:Int):D.World×Int:=bif eD w d j&& !dU w d then Gd w d j (aXa j) else(w,1)
def bPu:ByteArray:=⟨#[97,46,110,101,116]⟩
def bMb (w:D.World)(k d o v:Int)(f:Bool):D.World×Bool:=
 bif !aV w then(w,false) else
 bif k==1 then aUt w else
 bif k==2 then((pG w d o).1,(pG w d o).2==0) else
 bif k==3 then((bFl w d o).1,(bFl w d o).2==0) else
 bif k==4 then mY w d else
 bif k==5 then((bFk w d o).1,(bFk w d o).2==0) else
 bif k==6 then iB w d else
 bif k==7 then iC w d o else
 bif k==8 then oW w d bPu v f else
 bif k==9 then fG w d else
 bif k==10 then((aH w d v).1,(aH w d v).2==0) else
 bif k==11 then bIf w v else
 bif k==12 then aUc w else
 bif k==13 then aW0 w o v else(w,false)
def aRv (l:List Int):Prop:=okL (λn:Int=>0<=n/\n<=255) l
noncomputable instance (l:List Int):Decidable (aRv l):=Classical.propDecidable _
def bBt (l:List Int):Bool:=decide ((l.length:Int)>1048576)
def aRw (b:D.aAE):Prop:=∀x∈b.Boxes,aQ x.Data
def tL (c:D.aAB):Prop:=aRw c.Boxes/\∀s∈c.History,aQ s.Data
instance (b:D.aAE):Decidable (aRw b):=inferInstanceAs (Decidable (∀x∈b.Boxes,aQ x.Data))
instance (c:D.aAB):Decidable (tL c):=inferInstanceAs (Decidable (_/\_))
--needs aAQ
def aX (c:D.aAQ):Prop:=0<=c.i/\c.b.length<=1048576
instance (c:D.aAQ):Decidable (aX c):=by unfold aX;infer_instance
def bIg (h:Int):Int:=IntKind.i64.wrap (IntKind.i64.wrap (h*6364136223846793005)+1442695040888963407)
def bJz (h:Int):Int:=mF IntKind.i64 (aSx IntKind.i64 (Bf IntKind.i64 h 33) (Bf IntKind.i64 h 47)) 255
def jL (c:D.aAQ):D.aAQ×Int:=bif decide (c.i<(c.b.length:Int)) then(⟨c.b,IntKind.i64.wrap (c.i+1),bIg c.h⟩,mF IntKind.i64 (IntKind.i64.wrap (bJz (bIg c.h)+IntKind.i64.wrap (c.b.getD c.i.toNat 0))) 255) else(⟨c.b,c.i,bIg c.h⟩,bJz (bIg c.h))
def bK (c:D.aAQ)(n:Int):D.aAQ×Int:=bif decide (n<=0) then(c,0) else bif decide (n<=256) then((jL c).1,(jL c).2.tmod n) else
 ((jL (jL (jL c).1).1).1,(IntKind.i64.wrap (IntKind.i64.wrap (IntKind.i64.wrap ((jL c).2*65536)+IntKind.i64.wrap ((jL (jL c).1).2*256))+(jL (jL (jL c).1).1).2)).tmod n)
def oH (c:D.aAQ)(n:Int):D.aAQ×Bool:=((bK c n).1,(bK c n).2==0)
def Vv (c:D.aAQ)(l:List Int):D.aAQ×Int:=((bK c (l.length:Int)).1,l.getD (bK c (l.length:Int)).2.toNat 0)
def aIs (c:D.aAQ):D.aAQ×Int:=bif (oH c 10).2 then Vv (oH c 10).1 [0,-1,1,2147483646,2147483647] else((bK (oH c 10).1 99999).1,IntKind.i64.wrap (1+(bK (oH c 10).1 99999).2))
--needs aAQ Event
def eA (c:D.aAQ):D.aAQ×Int:=bK c 13
def eB (c:D.aAQ):D.aAQ×Int:=bK (eA c).1 4
def aRd (e:D.Event):Prop:=(1<=e.Kind/\e.Kind<=13)/\(0<=e.Device/\e.Device<=3)/\(0<=e.Other/\e.Other<=2)/\(0<=e.Value/\e.Value<=39)/\(e.Kind≠11->e.Value<=3)
--needs Event World
def evF (w:D.World)(e:D.Event):D.World×Bool:=bMb w e.Kind e.Device e.Other e.Value e.Flag
--needs aAQ
end Go.VK
