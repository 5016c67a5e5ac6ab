import Derived.Test.YtjmlamaddedhlaaGreatDoorEVzbtod
import Derived.Test.YtjmlamaddedhlaaGreatDoorXrS
/- Printed by wip/tools: models, walks, proofs. -/
set_option linter.all false
set_option maxRecDepth 100000
set_option maxHeartbeats 4000000
namespace Go.VK
open Go.RowKit Go.Proofs
def qM (k:D.aAP):Int:=IntKind.i64.wrap (IntKind.i64.wrap (k.Epoch*1000)+k.Guesses)
def aCh {h v:Int}(h0:0<=h)(h1:h<2147483647):0<=hstep h v/\hstep h v<2147483647:=by
 have hm:=lN (p:=v) (q:=2147483647) (by omega)
 unfold hstep
 generalize dW v 2147483647=z at*
 have e1:IntKind.i64.wrap (h*1000003)=h*1000003:=aH (by omega) (by omega)
 have e2:IntKind.i64.wrap (h*1000003+z)=h*1000003+z:=aH (by omega) (by omega)
 have e3:IntKind.i64.wrap (h*1000003+z+13)=h*1000003+z+13:=aH (by omega) (by omega)
 rw[e1,e2,e3]
 exact⟨eR _ (by omega),eL _ (by decide)⟩
def aQ1 (l:List Int):0<=qI l/\qI l<2147483647:=by
 unfold qI
 suffices ∀(l:List Int) (h:Int),0<=h->h<2147483647->0<=l.foldl hstep h/\l.foldl hstep h<2147483647 from this l 11 (by omega) (by omega)
 intro l
 induction l with
 |nil=>intro h h0 h1;exact⟨h0,h1⟩
 |cons x xs ih=>intro h h0 h1;exact ih _ (aCh h0 h1).1 (aCh h0 h1).2
def jK (k:Int)(l:List Int):0<=aX k l/\aX k l<2147483647:=aQ1 _
def aOq (a b:Int):Int:=bif decide (b>a) then b else a
def mK (a:List Int)(r:List (List Int)):List Int:=a++r.flatten
def fI (n:Int):Int:=bif n==0 then 1 else n
def bB (n:Int):Bool:=bE n 1 2147483646
def qD (b:List Int):List Int:=[(b.length:Int)]++b.map IntKind.i64.wrap
def aO (seed:Int)(l:List Int):Int:=fI (aX seed ([151]++l))
def lJ (k:Int)(s:ByteArray):Int:=fI (aX k (qD (bI s)))
def bP (p:Int):Int:=bif !(bB p) then 0 else(IntKind.i64.wrap (p*48271)).tmod 2147483647
def eX (s:D.aAH):Int:=aO s.Seed [181]
def bC (s:D.aAH):Int:=bP (eX s)
def fM (l:List Int)(x:Int):Bool:=l.any λe=>e==x
def gF (log:List D.aAB)(p:Int):Bool:=log.any λe=>e.Kind==2&&e.Device==p
def gN (s:List Int)(e:D.aAB):List Int:=
 bif e.Kind==1 then(bif s.contains e.Device then s else s++[e.Device]) else bif e.Kind==2 then s.filter (λd=>d !=e.Device) else s
def aB (log:List D.aAB):List Int:=log.foldl gN []
def aJ (log:List D.aAB):Int:=log.foldl (λn e=>bif e.Kind==2 then IntKind.i64.wrap (n+1) else n) 0
def aG (b:D.aAC)(site handle:Int):Int:=iP (λe=>e.Site==site&&e.Handle==handle) 0 b.Entries
def aL (s:D.Site)(id:Int):Int:=iP (λa=>a.Id==id) 0 s.Accounts
def aCi (s:List Int)(x:D.aAB):(gN s x).length<=s.length+1:=by
 unfold gN
 cases x.Kind==1 with
 |true=>cases s.contains x.Device<;>simp
 |false=>
  cases x.Kind==2 with
  |true=>have:=List.length_filter_le (λd=>d !=x.Device) s;simp;omega
  |false=>simp
def eD (log:List D.aAB):(aB log).length<=log.length:=by
 suffices ∀(l:List D.aAB) (s:List Int),(l.foldl gN s).length<=s.length+l.length from by simpa[aB] using this log []
 intro l
 induction l with
 |nil=>intro s;simp
 |cons x xs ih=>
  intro s
  simp only[cM,az]
  have h1:=ih (gN s x)
  have h2:(gN s x).length<=s.length+1:=by
   unfold gN
   cases x.Kind==1 with
   |true=>cases s.contains x.Device<;>simp
   |false=>
    cases x.Kind==2 with
    |true=>have:=List.length_filter_le (λd=>d !=x.Device) s;simp;omega
    |false=>simp
  omega
def aQ2 {n:Int}(h:0<=n):aOq 1 n=fI n:=by
 unfold aOq fI
 rcases(show n=0\/n=1\/n>1 by omega) with rfl|rfl|h1
 ·rfl
 ·rfl
 ·have:(n==0)=false:=by simp;omega
  simp[h1,this]
def aY (s:ByteArray):Int:=lJ 173 s
def WOk (w:D.World):Prop:=w.Devices.length<=34359738368/\w.Stolen.length<=34359738368/\w.aAI.Log.length<=34359738368/\w.Sites.length<=34359738368
instance (w:D.World):Decidable (WOk w):=inferInstanceAs (Decidable (_/\_))
def iA (w:D.World)(d:Int):Bool:=decide (0<=d)&&decide (d<w.Devices.length)
def jW (w:D.World)(d:Int):D.Device:=w.Devices.getD d.toNat default
def bDl {w:D.World}{d:Int}(h:iA w d=true):aZ w.Devices d=some (jW w d):=by
 simp only[iA,aa,cW] at h
 rw[Bg h.1 (by omega)]
 simp[jW,List.getD,ab (show d.toNat<w.Devices.length by omega)]
def jX (w:D.World)(d:Int):Bool:=iA w d&&fM (aB w.aAI.Log) (bC (jW w d).Store)
def oH (a b:D.aAC):Bool:=a.Entries.length==b.Entries.length&&(List.zipWith D.Entry.eqB a.Entries b.Entries).all id
def aFd (w:D.World):Int:=aO w.Seed [283]
def aVj {α:Type}{e:α->α->Bool}:∀{l r:List α},((l.zip r).any λp=> !e p.1 p.2)= !(List.zipWith e l r).all id
 |[],r=>by simp
 |x::xs,[]=>by simp
 |x::xs,y::ys=>by simp[aVj (l:=xs) (r:=ys)]
def WOk.of {w:D.World}(h:w.sz<=1048576):WOk w:=by
 simp only[D.World.sz,D.aAI.sz] at h
 unfold WOk
 omega
def bAk (e:D.Entry):D.Entry.eqB e e=true:=by simp[D.Entry.eqB]
def aGq (b:D.aAC):oH b b=true:=by
 unfold oH
 have:∀l:List D.Entry,(List.zipWith D.Entry.eqB l l).all id=true:=by
  intro l;induction l with
  |nil=>rfl
  |cons x xs ih=>simp only[List.zipWith_cons_cons,fR,ih,id,bAk,eg]
 rw[this b.Entries];simp
def aGr (k:Int)(i:Nat)(z:Int):Int:=IntKind.u8.wrap ((z-aX k [(i:Int)])%256)
def Hl (k:Int)(b:List Int):List Int:=Eu (λi z=>[aGr k i z]) 0 b
def aQ3 (x:Int):dW (IntKind.i64.wrap x) 256=x%256:=by
 rw[dW,cr (by omega),IntKind.wrap_i64];omega
def bAl (k:Int)(i:Nat)(z:Int):IntKind.u8.wrap (dW (IntKind.i64.wrap (IntKind.i64.wrap z-aX k [(i:Int)])) 256)=aGr k i z:=by
 rw[aQ3,aGr,IntKind.wrap_i64];congr 1;omega
def bAm (k:Int)(i:Nat)(z:Int):IntKind.u8.wrap (dW (IntKind.i64.wrap (IntKind.i64.wrap z-(aX k [(i:Int)]).tmod 256)) 256)=aGr k i z:=by
 rw[aQ3,aGr,IntKind.wrap_i64,cb (jK _ _).1];congr 1;omega
def mM {α β:Type}{y:Nat->α->β}:∀{i:Nat} {l:List α},(Eu (λi x=>[y i x]) i l).length=l.length
 |i,[]=>rfl
 |i,x::xs=>by simp[Eu,mM]
def dU (p e:Int):Int:=aO p [163,e]
def Ex (k:Int)(b:D.Box):Int:=aX k ([167,b.To,b.Ephemeral]++qD b.Data)
def dK (p:Int)(b:D.Box):List Int×Bool:=
 bif !bB p||(b.To !=bP p||(!bB b.Ephemeral||decide ((b.Data.length:Int)>200))) then([],false)
 else bif b.MAC !=Ex (dU p b.Ephemeral) b then([],false) else(Hl (dU p b.Ephemeral) b.Data,true)
def dX:List D.Box->Int->List Int×Bool
 |[],_=>([],false)
 |b::bs,p=>bif (dK p b).2 then((dK p b).1,true) else dX bs p
def aQ (b:List Int):Prop:=b.length<=34359738368/\b.all (λz=>decide (0<=z)&&decide (z<=255))=true
instance (b:List Int):Decidable (aQ b):=inferInstanceAs (Decidable (_/\_))
def pQ {b:List Int}(h:aQ b){i:Nat}(hi:i<b.length):0<=b[i]/\b[i]<=255:=by
 have:=cw.1 h.2 b[i] (cR hi)
 simpa using this
def uvG (b:List Int)(p:Nat):Nat->Nat->Int->Int×Int×Bool
 |0,_,_=>(0,0,false)
 |k+1,i,n=>
  if p+i<b.length then
   bif decide (b.getD (p+i) 0<128) then
    (bif (decide (0<i)&&b.getD (p+i) 0==0)||decide (n+b.getD (p+i) 0%128*128^i>1000000000000) then(0,0,false) else(n+b.getD (p+i) 0%128*128^i,((p+i+1:Nat):Int),true))
   else uvG b p k (i+1) (n+b.getD (p+i) 0%128*128^i)
  else(0,0,false)
def rR (b:List Int)(at_:Int):Int×Int×Bool:=if at_<0 then(0,0,false) else uvG b at_.toNat 6 0 0
def aOr {i:Nat}(h:i<=6):(1:Int)<=128^i/\(128:Int)^i<=4398046511104:=by
 match i,h with
 |0,_|1,_|2,_|3,_|4,_|5,_|6,_=>decide
def aOs {z n:Int}{i:Nat}(hi:i<=5)(hz:0<=z)(hn:0<=n)(hn':n<128^i):0<=n+z%128*128^i/\n+z%128*128^i<128^(i+1)/\0<=z%128*128^i/\z%128*128^i<=127*128^i:=by
 have hp:=aOr (i:=i) (by omega)
 have h1:0<=z%128*128^i:=je (by omega) (by omega)
 have h2:z%128*128^i<=127*128^i:=Int.mul_le_mul_of_nonneg_right (by omega) (by omega)
 rw[eM]
 refine⟨by omega,by omega,h1,h2⟩
def bDm {z n:Int}{i:Nat}(hi:i<=5)(hz:0<=z)(hz':z<=255)(hn:0<=n)(hn':n<128^i):
  orI .i64 n (Xf .i64 (kR .i64 z 127) (IntKind.i64.wrap (7*(i:Int))))=n+z%128*128^i:=by
 obtain⟨m,rfl⟩:=d8 hz
 obtain⟨q,rfl⟩:=d8 hn
 have hp:=aOr (i:=i) (by omega)
 have hs:=aOs (z:=(m:Int)) (n:=(q:Int)) hi (by omega) (by omega) hn'
 have ha:kR .i64 (m:Int) 127=((m%128:Nat):Int):=by
  have e:((BitVec.ofInt 64 (m:Int))&&&(BitVec.ofInt 64 127)).toNat=m%128:=by
   rw[BitVec.toNat_and]
   have e1:(BitVec.ofInt 64 (m:Int)).toNat=m:=by
    rw[BitVec.toNat_ofInt];omega
   have e2:(BitVec.ofInt 64 127).toNat=2^7-1:=by decide
   rw[e1,e2,fx]
  show IntKind.i64.wrap (((BitVec.ofInt 64 (m:Int))&&&(BitVec.ofInt 64 127)).toNat:Int)=_
  rw[e];exact aH (by omega) (by omega)
 have hw:IntKind.i64.wrap (7*(i:Int))=((7*i:Nat):Int):=by rw[aH (by omega) (by omega)];omega
 have hpn:(2:Nat)^(7*i)=128^i:=by rw[Nat.pow_mul]
 have hpi:((128^i:Nat):Int)=(128:Int)^i:=by simp
 have hb:Xf .i64 (kR .i64 (m:Int) 127) (IntKind.i64.wrap (7*(i:Int)))=((m%128*128^i:Nat):Int):=by
  rw[ha,hw]
  unfold Xf
  rw[bp,show min (7*i) IntKind.i64.bits=7*i from Nat.min_eq_left (by simp[IntKind.bits];omega)]
  have e3:((m%128:Nat):Int)*2^(7*i)=((m%128*128^i:Nat):Int):=by
   rw[<-hpn];simp
  rw[e3]
  have:((m%128*128^i:Nat):Int)=(m:Int)%128*128^i:=by simp
  rw[this]
  exact aH (by omega) (by omega)
 rw[hb]
 have hqlt:q<128^i:=by rw[<-hpi] at hn';exact_mod_cast hn'
 have hor:(m%128*128^i)|||q=m%128*128^i+q:=by
  have:=iv (b:=q) (i:=7*i) (by rw[hpn];exact hqlt) (m%128)
  rw[Nat.shiftLeft_eq,hpn] at this
  exact this.symm
 have hle:m%128*128^i+q<2^63:=by
  have:((m%128*128^i+q:Nat):Int)=q+(m:Int)%128*128^i:=by simp;omega
  omega
 have e4:((BitVec.ofInt 64 (q:Int))|||(BitVec.ofInt 64 ((m%128*128^i:Nat):Int))).toNat=m%128*128^i+q:=by
  rw[BitVec.toNat_or]
  have e5:(BitVec.ofInt 64 (q:Int)).toNat=q:=by rw[BitVec.toNat_ofInt];omega
  have e6:(BitVec.ofInt 64 ((m%128*128^i:Nat):Int)).toNat=m%128*128^i:=by rw[BitVec.toNat_ofInt];omega
  rw[e5,e6,Nat.or_comm,hor]
 show IntKind.i64.wrap (((BitVec.ofInt 64 (q:Int))|||(BitVec.ofInt 64 ((m%128*128^i:Nat):Int))).toNat:Int)=_
 rw[e4,aH (by omega) (by omega)]
 simp
 omega
def iB (b:List Int):Nat->Int->List Int->List Int×Int×Bool
 |0,a,s=>(s,a,true)
 |k+1,a,s=>bif (rR b a).2.2 then iB b k (rR b a).2.1 (s++[(rR b a).1]) else([],0,false)
def fF (b:List Int)(a c:Int):List Int×Int×Bool:=bif !bE c 0 100|| !bE a 0 b.length then([],0,false) else iB b c.toNat a []
def aQ4 (b:List Int):∀(k:Nat) (a:Int) (s:List Int),(iB b k a s).2.2=true->(iB b k a s).1.length=s.length+k
 |0,a,s,_=>rfl
 |k+1,a,s,h=>by
  unfold iB at h ⊢
  cases hu:(rR b a).2.2 with
  |false=>rw[hu] at h;simp at h
  |true=>
   rw[hu] at h
   simp only[ae] at h ⊢
   rw[aQ4 b k _ _ h];simp;omega
def decode_len {b:List Int}{a c:Int}(hc:0<=c)(h:(fF b a c).2.2=true):(fF b a c).1.length=c.toNat:=by
 unfold fF at h ⊢
 cases hx:(!bE c 0 100|| !bE a 0 b.length) with
 |true=>rw[hx] at h;simp at h
 |false=>
  rw[hx] at h
  simp only[ac] at h ⊢
  rw[aQ4 _ _ _ _ h];simp
def aOt {k:Int}{b:List Int}(h:b.length<=34359738368):aQ (Hl k b):=by
 refine⟨by unfold Hl;rw[mM];exact h,?_⟩
 rw[cw]
 intro z hz
 have:∀(b:List Int) (i:Nat),z∈Eu (λi z=>[aGr k i z]) i b->0<=z/\z<=255:=by
  intro b
  induction b with
  |nil=>intro i h;simp[Eu] at h
  |cons x xs ih=>
   intro i h
   simp only[Eu,bz,cN] at h
   rcases h with rfl|h
   ·have:=bZ .u8 ((x-aX k [(i:Int)])%256)
    simpa[aGr,IntKind.min,IntKind.max,IntKind.signed,IntKind.bits] using this
   ·exact ih _ h
 have:=this b 0 hz
 simp[this.1,this.2]
def aTf (p:Int)(b:D.Box):aQ (dK p b).1:=by
 unfold dK
 have h0:aQ ([]:List Int):=by decide
 by_cases hl:b.Data.length<=200
 ·cases(!bB p||(b.To !=bP p||(!bB b.Ephemeral||decide ((b.Data.length:Int)>200))))<;>cases(b.MAC !=Ex (dU p b.Ephemeral) b)<;>first|exact h0|exact aOt (by omega)
 ·have e1:decide ((b.Data.length:Int)>200)=true:=by simp;omega
  rw[e1];simpa using h0
def Qz (p:Int):∀bs,aQ (dX bs p).1
 |[]=>show aQ [] by decide
 |b::bs=>by
  unfold dX
  cases(dK p b).2 with
  |true=>exact aTf p b
  |false=>exact Qz p bs
def Cg (e:D.aAD)(x:List Int×Bool)(y:List Int×Int×Bool):Int×Bool:=
 bif !x.2||(!y.2.2||(y.2.1 !=(x.1.length:Int)||(y.1.getD 0 0 !=e.Epoch|| !bB (y.1.getD 1 0)))) then(0,false) else(y.1.getD 1 0,true)
def bF (s:D.aAH)(e:D.aAD):Int×Bool:=Cg e (dX e.Boxes (eX s)) (fF (dX e.Boxes (eX s)).1 0 2)
def and_one {n:Int}(h0:0<=n)(h1:n<9223372036854775808):kR .i64 n 1=n%2:=by
 obtain⟨m,rfl⟩:=d8 h0
 have e:((BitVec.ofInt 64 (m:Int))&&&(BitVec.ofInt 64 1)).toNat=m%2:=by
  rw[BitVec.toNat_and]
  have e1:(BitVec.ofInt 64 (m:Int)).toNat=m:=by rw[BitVec.toNat_ofInt];omega
  have e2:(BitVec.ofInt 64 1).toNat=2^1-1:=by decide
  rw[e1,e2,fx]
 show IntKind.i64.wrap (((BitVec.ofInt 64 (m:Int))&&&(BitVec.ofInt 64 1)).toNat:Int)=_
 rw[e,aH (by omega) (by omega)];omega
def aVl {n:Int}(h0:0<=n):yB .i64 n 1=n/2:=by
 unfold yB
 rw[show min (Int.toNat 1) IntKind.i64.bits=1 from by decide,gi _ (by decide)];rfl
def aXq:Nat->Int->Int->Int->Int
 |0,_,_,s=>s
 |k+1,b,n,s=>if n>0 then aXq k ((IntKind.i64.wrap (b*b)).tmod 2147483647) (n/2) (bif n%2==1 then(IntKind.i64.wrap (s*b)).tmod 2147483647 else s) else s
def aVm:aXq 31 48271 2147483645 1=1899818559:=by decide+kernel
def dL (q:Int):Int:=bif !bB q then 0 else q*1899818559%2147483647
def vV (p:Int)(l:List Int):Int:=bif !bB p then 0 else aX p ([139,(l.length:Int)]++l)
def fQ (q:Int)(l:List Int)(g:Int):Bool:=dL q !=0&&vV (dL q) l==g
def Hm {α:Type}[Inhabited α]{l:List α}{i:Nat}(h0:0<i)(hi:i<l.length)(hl:l.length<=34359738368):aZ l (IntKind.i64.wrap ((i:Int)-1))=some (l.getD (i-1) default):=by
 rw[aH (by omega) (by omega),show(i:Int)-1=((i-1:Nat):Int) by omega,aK (by omega)]
 simp[List.getD,ab (show i-1<l.length by omega)]
def yT (l:List D.aAX)(i:Nat)(n:D.aAX):Bool:= !bE n.Kind 1 5||(!bE n.aAG 0 1000000||(!bE n.Time 0 1000000||(decide (0<i)&&decide ((l.getD (i-1) default).Time>n.Time))))
def rT (m:D.aAM):Bool:=decide (m.Notices.length<=30)&& !fD (yT m.Notices) 0 m.Notices
def fT (b:D.aAE)(i:Nat)(n:D.aAL):Bool:= !bE n.Id 0 (IntKind.i64.wrap (b.Next-1))||((decide (0<i)&&decide ((b.Open.getD (i-1) default).Id>=n.Id))||(!bE n.aAG 0 1000005|| !bE n.Until 0 1000005))
def gP (b:D.aAE):Bool:=bE b.Next 0 1000000&&decide (b.Open.length<=16)&& !fD (fT b) 0 b.Open
def pE (a:D.aAG)(i:Nat)(n:D.aAJ):Bool:=(!bE n.Handle 0 1000000||((decide (0<i)&&decide ((a.Credentials.getD (i-1) default).Handle>=n.Handle))||(dL n.Public==0|| !bE n.Counter 0 1000000)))||(a.Credentials.take i).any λq=>q.Public==n.Public
def aU (a:D.aAG):Bool:=bE a.Id 0 1000000&&bE a.Minimum 1 3&&decide (a.Credentials.length<=8)&& !fD (pE a) 0 a.Credentials
def bJ (e:D.aAB):Int:=qI [229,e.Index,e.Kind,e.Device,e.By,e.Previous]
def eG (l:List D.aAB):Int:=bif (l.length:Int)==0 then 0 else bJ (l.getD (l.length-1) default)
def jY (l:List D.aAB)(e:D.aAB):Bool:=
 e.Index==(l.length:Int)&&(e.Previous==eG l&&((fM (aB l) e.By||((l.length:Int)==0&&e.By==e.Device))&&(fQ e.By [bJ e] e.Signature&&
  (bif e.Kind==2 then fM (aB l) e.Device&&decide (((aB l).length:Int)>1) else !gF l e.Device&&(e.Kind==1&&(!fM (aB l) e.Device&&decide (((aB l).length:Int)<6)))))))
def aV (l:List D.aAB):Bool:=bE (l.length:Int) 1 40&& !fD (λi e=> !jY (l.take i) e) 0 l
def bAn {l:List Int}{x:Int}(h:fM l x=true):0<l.length:=by
 cases l with
 |nil=>simp[fM] at h
 |cons a r=>simp
def gG:List UInt8->List UInt8->List (List UInt8)
 |cur,[]=>[cur]
 |cur,b::r=>bif b==46 then cur::gG [] r else gG (cur++[b]) r
def bAo (s:List UInt8)(i:Nat):Lib.occAt s [46] i=decide (s[i]? =some 46):=by
 unfold Lib.occAt
 cases h:s.drop i with
 |nil=>
  have:s.length<=i:=List.drop_eq_nil_iff.1 h
  simp[cU this,List.isPrefixOf]
 |cons b r=>
  have e:s[i]? =some b:=by
   have:=dn (xs:=s) (i:=i) (j:=0)
   rw[h] at this;simpa using this.symm
  rw[e];simp only[List.isPrefixOf,eg,ai]
  rw[eu];simp only[cF,cW];exact eq_comm
def aGs:∀(a cur r:List UInt8),(∀b∈a,b≠46)->gG cur (a++46::r)=(cur++a)::gG [] r
 |[],cur,r,_=>by simp[gG]
 |b::a,cur,r,h=>by
  have hb:(b==46)=false:=by simpa using h b (by simp)
  rw[cz,gG,hb,ac,aGs a _ r (λx hx=>h x (dp _ hx))];simp
def aCj:∀(a cur:List UInt8),(∀b∈a,b≠46)->gG cur a=[cur++a]
 |[],cur,_=>by simp[gG]
 |b::a,cur,h=>by
  have hb:(b==46)=false:=by simpa using h b (by simp)
  rw[gG,hb,ac,aCj a _ (λx hx=>h x (dp _ hx))];simp
def aQ5:∀(n:Nat) (s:List UInt8),s.length<n->Lib.splitK [46] 0 (Lib.count s [46]) s=gG [] s
 |0,s,h=>absurd h (Nat.not_lt_zero _)
 |n+1,s,h=>by
  rcases Lib.index_spec s [46] with⟨h1,h2⟩|⟨i,h1,h2,h3,h4⟩
  ·rw[Lib.count_miss h1,aCj s [] (λb hb e=>by
    obtain⟨j,hj,ej⟩:=List.getElem_of_mem hb
    have:=h2 j (by omega)
    rw[bAo,ab hj,ej,e] at this;simp at this)];rfl
  ·rw[bAo] at h3
   have h3:s[i]? =some 46:=by simpa using h3
   have hi:i<s.length:=by
    rcases fc i s.length with hlt|hge
    ·exact hlt
    ·rw[cU hge] at h3;cases h3
   rw[Lib.count_hit (by simp) h1,Nat.add_comm,Lib.splitK,h1]
   have hne:((i:Int)== -1)=false:=by simp
   rw[hne]
   simp only[bp,dz,az,ce,bu]
   rw[cJ (by simp),aQ5 n (s.drop (i+1)) (by rw[cp];omega)]
   have es:s=s.take i++46::s.drop (i+1):=by
    have e2:s[i]=46:=by rw[ab hi] at h3;exact aj h3
    rw[<-e2,List.getElem_cons_drop hi,cy]
   conv=>rhs;rw[es]
   rw[aGs (s.take i) [] _ (λb hb e=>by
    obtain⟨j,hj,ej⟩:=List.getElem_of_mem hb
    rw[ci] at hj
    have:=h4 j (by omega)
    rw[bAo,ab (by omega)] at this
    rw[gl] at ej
    rw[ej,e] at this;simp at this)];simp
def bD (s:ByteArray):List ByteArray:=(gG [] s.data.toList).map λl=>⟨l.toArray⟩
def aGt (s:ByteArray):iQ s ⟨#[46]⟩=bD s:=by
 have h1:(iQ s ⟨#[46]⟩).map (·.data.toList)=gG [] s.data.toList:=by
  rw[iQ,Lib.splitB_data];exact aQ5 _ _ (db _)
 unfold bD
 rw[<-h1,ga]
 conv=>lhs;rw[<-List.map_id (iQ s ⟨#[46]⟩)]
 congr 1
def Yg (b:Int):Bool:=bE b 97 122||bE b 48 57||b==45
def pR (s:ByteArray):Bool:=decide (1<=s.size)&&decide (s.size<=20)&& !((bI s).getD 0 0==45)&& !((bI s).getD (s.size-1) 0==45)&& !((bI s).any λb=> !Yg b)
def fU (s:ByteArray):Bool:=decide (s.size<=60)&& !((bD s).any λl=> !pR l)
def gH (s:ByteArray):(bI s).length=s.size:=by simp only[bI,bc];rfl
def aQ6 {s:ByteArray}{i:Nat}(h:i<s.size):aZ (bI s) (i:Int)=some ((bI s)[i]'(by rw[gH];exact h)):=aK _
def ext_list (s:ByteArray)(a b:Nat):s.extract a b=⟨((s.data.toList.drop a).take (b-a)).toArray⟩:=by
 apply ByteArray.ext
 apply Array.toList_inj.1
 rw[Lib.extract_data]
def Ra:∀(s cur:List UInt8),(gG cur s).length<=s.length+1
 |[],_=>by simp[gG]
 |b::r,cur=>by
  rw[gG]
  cases b==46 with
  |true=>have:=Ra r [];simp;omega
  |false=>have:=Ra r (cur++[b]);simp at this ⊢;omega
def Ho:∀(s cur:List UInt8) (l:List UInt8),l∈gG cur s->l.length<=cur.length+s.length
 |[],cur,l,h=>by simp[gG] at h;subst h;simp
 |b::r,cur,l,h=>by
  rw[gG] at h
  cases hb:b==46 with
  |true=>
   rw[hb,ae] at h
   rcases ba.1 h with rfl|h
   ·omega
   ·have:=Ho r [] l h;simp at this ⊢;omega
  |false=>rw[hb,ac] at h;have:=Ho r _ l h;simp at this ⊢;omega
def Hq (s:ByteArray):(bD s).length<=s.size+1:=by
 unfold bD;rw[bc];exact Ra _ _
def rU (s l:ByteArray)(h:l∈bD s):l.size<=s.size:=by
 unfold bD at h
 obtain⟨q,hq,rfl⟩:=bo.1 h
 have:=Ho _ _ q hq
 have h2:(⟨q.toArray⟩:ByteArray).size=q.length:=rfl
 have h3:s.data.toList.length=s.size:=rfl
 have h4:([]:List UInt8).length=0:=rfl
 omega
def bI0 (z:ByteArray):(z.toList==(⟨#[]⟩:ByteArray).toList)=decide (z.size=0):=by
 rw[ByteArray.toList_eq,ByteArray.toList_eq,eu]
 simp only[cF,cW]
 constructor
 ·intro h
  show z.data.size=0
  rw[<-cm,h];rfl
 ·intro h
  exact bm h
def rV:∀(s cur:List UInt8),(gG cur s).length=s.countP (·==46)+1
 |[],_=>rfl
 |b::r,cur=>by
  rw[gG,List.countP_cons]
  cases b==46 with
  |true=>rw[ae,az,rV r []];simp
  |false=>rw[ac,rV r _];simp
def aCk (s:ByteArray):0<(bD s).length:=by
 unfold bD;rw[bc,rV];omega
def Lm (s:ByteArray):Bool:=(bI s).any λb=>b==46
def aKo (s:ByteArray):Lm s=decide (2<=(bD s).length):=by
 unfold Lm bD bI
 rw[bc,rV,List.any_map]
 have e:(λb:Int=>b==46)∘(λb:UInt8=>(b.toNat:Int))=λb:UInt8=>b==46:=by
  funext b
  rw[eu]
  simp only[Function.comp,cF]
  constructor
  ·intro q;apply UInt8.toNat_inj.1;show _=46;omega
  ·intro q;rw[q];rfl
 rw[e,eu,ir,cW]
 have:=List.countP_pos_iff (p:=λb:UInt8=>b==46) (l:=s.data.toList)
 constructor
 ·intro h;have:=this.2 h;omega
 ·intro h;exact this.1 (by omega)
def aXr (s:ByteArray):ByteArray:=bif fU s then(bif (bD s).length==1 then s else lY ⟨#[46]⟩ ((bD s).drop ((bD s).length-2))) else⟨#[]⟩
def bEu {l:List ByteArray}(h:2<=l.length):∃a∈l,∃b∈l,lY ⟨#[46]⟩ (l.drop (l.length-2))=a++⟨#[46]⟩++b:=by
 have hl:(l.drop (l.length-2)).length=2:=by rw[cp];omega
 match hm:l.drop (l.length-2),hl with
 |[a,b],_=>
  refine⟨a,cY (i:=l.length-2) (by rw[hm];simp),b,cY (i:=l.length-2) (by rw[hm];simp),?_⟩
  rw[show[a,b]=[a]++[b] from rfl,bCm _ _ _ (by simp),bCl]
def Hr {s:ByteArray}(h:fU s=true):s.size<=60/\0<s.size:=by
 unfold fU at h
 rw[aa,cW] at h
 refine⟨h.1,Nat.pos_of_ne_zero λe=> ?_⟩
 have e2:s.data.toList=[]:=bm e
 have e3:bD s=[⟨#[]⟩]:=by unfold bD;rw[e2];rfl
 rw[e3] at h
 exact absurd h.2 (by decide)
def bDn {s:ByteArray}(h:fU s=true):decide ((aXr s).size=0)=false:=by
 have hs:=Hr h
 have hp:=aCk s
 unfold aXr
 rw[h,ae]
 refine aq ?_
 cases h1:(bD s).length==1 with
 |true=>rw[ae];omega
 |false=>
  rw[ac]
  have:(bD s).length≠1:=by simpa using h1
  obtain⟨a,_,b,_,e⟩:=bEu (l:=bD s) (by omega)
  rw[e,ByteArray.size_append,ByteArray.size_append]
  have:(⟨#[46]⟩:ByteArray).size=1:=rfl
  omega
def fV (s:ByteArray)(seed:Int):Bool:=fU s&&decide (2<=(bD s).length)&&bB seed
def Ch (l:List D.aAG)(i:Nat)(n:D.aAG):Bool:= !aU n||(decide (0<i)&&decide ((l.getD (i-1) default).Id>=n.Id))
def cO (s:D.Site):Bool:=fV s.Name s.Book.Seed&&decide (s.Accounts.length<=8)&&gP s.Book&& !fD (Ch s.Accounts) 0 s.Accounts
def SOk (s:D.Site):Prop:=s.Name.size<=34359738368/\s.Accounts.length<=34359738368/\s.Book.Open.length<=34359738368/\∀a∈s.Accounts,a.Credentials.length<=34359738368
instance (s:D.Site):Decidable (SOk s):=inferInstanceAs (Decidable (_/\_))
def dB (name:ByteArray)(seed:Int):D.Site:=bif fV name seed then⟨name,[],⟨seed,0,[]⟩,[]⟩ else⟨⟨#[]⟩,[],⟨0,0,[]⟩,[]⟩
def aTg (name:ByteArray)(seed:Int):decide ((dB name seed).Name.size=0)= !fV name seed:=by
 unfold dB
 cases h:fV name seed with
 |false=>rfl
 |true=>
  have:fU name=true:=by unfold fV at h;rw[aa,aa] at h;exact h.1.1
  have:=Hr this
  exact aq (by show ¬name.size=0;omega)
def aC (i:Int):ByteArray:=bif i==0 then⟨#[98,97,110,107,46,99,111,109]⟩ else bif i==1 then⟨#[115,104,111,112,46,111,114,103]⟩ else⟨#[]⟩
def yU (i:Nat)(s:D.Site):Bool:= !cO s|| !(s.Name.toList==(aC (i:Int)).toList)
def eY (w:D.World):Bool:=bE w.Now 0 999900&&bE (w.Devices.length:Int) 1 6&&(w.Stolen.length:Int)==(w.Devices.length:Int)&&(w.Sites.length:Int)==2&&rT w.Mail&&aV w.aAI.Log&&bB w.Seed&& !fD yU 0 w.Sites
def bHf (w:D.World):Prop:=WOk w/\w.Mail.Notices.length<=34359738368/\w.Hosts.length<=34359738368/\∀s∈w.Sites,SOk s
instance (w:D.World):Decidable (bHf w):=inferInstanceAs (Decidable (_/\_))
def aTh {α:Type}{g:α->Nat}{x:α}:∀{l:List α},x∈l->g x<=(l.map g).sum
 |y::r,h=>by
  rw[bj,dT]
  rcases ba.1 h with rfl|h
  ·omega
  ·have:=aTh (g:=g) h;omega
def SOk.of {s:D.Site}(h:s.sz<=1048576):SOk s:=by
 simp only[D.Site.sz] at h
 refine⟨by omega,by omega,by omega,λa ha=> ?_⟩
 have:=aTh (g:=D.aAG.sz) ha
 simp only[D.aAG.sz] at this h
 omega
def bHf.of {w:D.World}(h:w.sz<=1048576):bHf w:=by
 refine⟨WOk.of h,?_,?_,λs hs=>SOk.of ?_⟩
 ·simp only[D.World.sz] at h;omega
 ·simp only[D.World.sz] at h;omega
 ·have:=aTh (g:=D.Site.sz) hs
  simp only[D.World.sz] at h;omega
abbrev sU (a:List Int)(r:List (List Int)):Prop:=a.length+r.flatten.length<=68719476736/\r.length<=1099511627776
def bAp (w:D.World)(i:Int):Bool:=decide (0<=i)&&decide (i<w.Sites.length)
def dE (a b:D.Entry):Bool:=decide (a.Site<b.Site)||(a.Site==b.Site&&decide (a.Handle<b.Handle))
def gI (a:D.Entry)(s h:Int):Bool:=decide (a.Site<s)||(a.Site==s&&decide (a.Handle<h))
def sW (x e:D.Entry):Bool:=decide (x.Version>e.Version)||(x.Version==e.Version&&x.Deleted)
def qN (e x:D.Entry):D.Entry:=bif sW x e then x else e
def cK:List D.Entry->List D.Entry->List D.Entry
 |[],bs=>bs
 |a::xs,[]=>a::xs
 |a::xs,b::bs=>bif dE a b then a::cK xs (b::bs) else bif dE b a then b::cK (a::xs) bs else qN a b::cK xs bs
termination_by xs bs=>xs.length+bs.length
def Ht (l:List D.Entry)(i:Nat)(e:D.Entry):Bool:= !bE e.Site 0 2147483646||(!bE e.Handle 0 1000000||(!bE e.Version 1 1000000||(decide ((i:Int)>0)&& !dE (l.getD (i-1) default) e)))
def aI (b:D.aAC):Bool:=decide ((b.Entries.length:Int)<=20)&& !fD (Ht b.Entries) 0 b.Entries
def fJ (a b:D.aAC):D.aAC×Bool:=bif aI a&&aI b then(bif aI ⟨cK a.Entries b.Entries⟩ then(⟨cK a.Entries b.Entries⟩,true) else(a,false)) else(a,false)
def mO (b:D.aAC)(x:D.Entry):D.aAC:=bif decide (aG b x.Site x.Handle>=0) then⟨b.Entries.set (aG b x.Site x.Handle).toNat x⟩ else⟨b.Entries.takeWhile (λe=>gI e x.Site x.Handle)++[x]++b.Entries.dropWhile (λe=>gI e x.Site x.Handle)⟩
def sD {a b:D.Entry}:dE a b=true↔a.Site<b.Site\/(a.Site=b.Site/\a.Handle<b.Handle):=by
 simp[dE]
def aTi {a x:D.Entry}:gI a x.Site x.Handle=dE a x:=rfl
def Hu {a b c:D.Entry}(h:dE a b=true)(k:dE b c=true):dE a c=true:=by
 rw[sD] at*;omega
def Rb {a b:D.Entry}(h:dE a b=false)(k:dE b a=false):a.Site=b.Site/\a.Handle=b.Handle:=by
 have h1:¬(a.Site<b.Site\/(a.Site=b.Site/\a.Handle<b.Handle)):=λq=>by rw[sD.2 q] at h;cases h
 have h2:¬(b.Site<a.Site\/(b.Site=a.Site/\b.Handle<a.Handle)):=λq=>by rw[sD.2 q] at k;cases k
 omega
def Lp {a b c:D.Entry}(h:a.Site=b.Site/\a.Handle=b.Handle):dE a c=dE b c:=by
 unfold dE;rw[h.1,h.2]
def aGu {a b c:D.Entry}(h:a.Site=b.Site/\a.Handle=b.Handle):dE c a=dE c b:=by
 unfold dE;rw[h.1,h.2]
def aQ7 {a b:D.Entry}(h:a.Site=b.Site/\a.Handle=b.Handle):(qN a b).Site=b.Site/\(qN a b).Handle=b.Handle:=by
 unfold qN
 cases sW b a
 ·exact h
 ·exact⟨rfl,rfl⟩
def bDo (a b:D.Entry):qN a b=a\/qN a b=b:=by
 unfold qN
 cases sW b a
 ·exact .inl rfl
 ·exact .inr rfl
def dJ (l:List D.Entry):cK l []=l:=by cases l<;>rw[cK]
def jL (l:List D.Entry):cK [] l=l:=by rw[cK]
def sF:∀(n:Nat) (a b:List D.Entry),a.length+b.length<=n->(cK a b).length<=a.length+b.length
 |_,[],b,_=>by rw[jL];simp
 |_,a::xs,[],_=>by rw[dJ];simp
 |0,a::xs,b::bs,h=>by simp at h
 |n+1,a::xs,b::bs,h=>by
  simp only[az] at h
  rw[cK]
  cases dE a b with
  |true=>have:=sF n xs (b::bs) (by simp only[az];omega);simp only[ae,az] at*;omega
  |false=>
   cases dE b a with
   |true=>have:=sF n (a::xs) bs (by simp only[az];omega);simp only[ac,ae,az] at*;omega
   |false=>have:=sF n xs bs (by omega);simp only[ac,az] at*;omega
def Rc (a b:D.Entry)(xs bs:List D.Entry):cK (a::xs) (b::bs)=bif dE a b then a::cK xs (b::bs) else bif dE b a then b::cK (a::xs) bs else qN a b::cK xs bs:=by rw[cK]
def srt (l:List D.Entry):Prop:=l.Pairwise λa b=>dE a b=true
def aM5:∀(A:List D.Entry) {b:D.Entry} {bs:List D.Entry},srt (b::bs)->cK (cK A [b]) bs=cK A (b::bs)
 |[],b,bs,h=>by
  rw[jL,jL]
  cases bs with
  |nil=>rw[dJ]
  |cons c cs=>rw[cK,(dy.1 h).1 c (by simp),ae,jL]
 |a::xs,b,bs,h=>by
  have hc:=(dy.1 h).1
  rw[Rc a b xs [],Rc a b xs bs]
  cases h1:dE a b with
  |true=>
   simp only[ae]
   cases bs with
   |nil=>rw[dJ]
   |cons c cs=>rw[cK,Hu h1 (hc c (by simp)),ae,aM5 xs h]
  |false=>
   cases h2:dE b a with
   |true=>
    simp only[ae,ac]
    rw[dJ]
    cases bs with
    |nil=>rw[dJ,dJ]
    |cons c cs=>rw[cK,hc c (by simp),ae]
   |false=>
    simp only[ac]
    rw[dJ]
    cases bs with
    |nil=>rw[dJ,dJ]
    |cons c cs=>rw[cK,Lp (aQ7 (Rb h1 h2)),hc c (by simp),ae]
def aVn:∀{l:List D.Entry} {x y:D.Entry},y∈cK l [x]->y∈l\/y=x
 |[],x,y,h=>by rw[jL] at h;simp at h;exact .inr h
 |a::xs,x,y,h=>by
  rw[cK] at h
  cases h1:dE a x with
  |true=>
   rw[h1,ae] at h
   rcases ba.1 h with rfl|h
   ·exact .inl (by simp)
   ·exact(aVn h).imp (λh=>by simp[h]) id
  |false=>
   rw[h1,ac] at h
   cases h2:dE x a with
   |true=>
    rw[h2,ae,dJ] at h
    rcases ba.1 h with rfl|h
    ·exact .inr rfl
    ·exact .inl h
   |false=>
    rw[h2,ac,dJ] at h
    rcases ba.1 h with rfl|h
    ·rcases bDo a x with e|e
     ·rw[e];exact .inl (by simp)
     ·exact .inr e
    ·exact .inl (by simp[h])
def aVo:∀{l:List D.Entry} {x:D.Entry},srt l->srt (cK l [x])
 |[],x,h=>by rw[jL];exact List.pairwise_singleton _ _
 |a::xs,x,h=>by
  obtain⟨ha,hs⟩:=dy.1 h
  rw[cK]
  cases h1:dE a x with
  |true=>
   rw[ae]
   refine dy.2 ⟨λy hy=> ?_,aVo hs⟩
   rcases aVn hy with hy|rfl
   ·exact ha y hy
   ·exact h1
  |false=>
   cases h2:dE x a with
   |true=>
    rw[ac,ae,dJ]
    refine dy.2 ⟨λy hy=> ?_,h⟩
    rcases ba.1 hy with rfl|hy
    ·exact h2
    ·exact Hu h2 (ha y hy)
   |false=>
    rw[ac,ac,dJ]
    have hk:=Rb h1 h2
    refine dy.2 ⟨λy hy=> ?_,hs⟩
    rw[Lp (aQ7 hk),<-Lp hk];exact ha y hy
def aGv:∀(B A:List D.Entry),srt B->B.foldl (λo x=>cK o [x]) A=cK A B
 |[],A,_=>by rw[dJ];rfl
 |b::bs,A,h=>by rw[cM,aGv bs _ (dy.1 h).2,aM5 A h]
def aQ8 {α:Type}{p:α->Bool}:∀{l:List α} {i:Nat},iP p i l<0->∀y∈l,p y=false
 |[],i,_,y,hy=>by simp at hy
 |x::l,i,h,y,hy=>by
  simp only[iP] at h
  cases hp:p x with
  |true=>rw[hp,ae] at h;omega
  |false=>
   rw[hp,ac] at h
   rcases ba.1 hy with rfl|hy
   ·exact hp
   ·exact aQ8 h y hy
def R3 {α:Type}{p:α->Bool}:∀{l:List α} {i:Nat},0<=iP p i l->∃l1 e l2,l=l1++e::l2/\p e=true/\iP p i l=((i+l1.length:Nat):Int)
 |[],i,h=>by simp[iP] at h
 |x::l,i,h=>by
  simp only[iP] at h ⊢
  cases hp:p x with
  |true=>exact⟨[],x,l,rfl,hp,by simp⟩
  |false=>
   rw[hp,ac] at h
   obtain⟨l1,e,l2,h1,h2,h3⟩:=R3 h
   exact⟨x::l1,e,l2,by rw[h1];rfl,h2,by rw[ac,h3];simp only[az];omega⟩
def aVp:∀{l:List D.Entry} {x:D.Entry},(∀y∈l,(y.Site==x.Site&&y.Handle==x.Handle)=false)->cK l [x]=l.takeWhile (λe=>gI e x.Site x.Handle)++[x]++l.dropWhile (λe=>gI e x.Site x.Handle)
 |[],x,_=>by rw[jL];rfl
 |a::xs,x,h=>by
  rw[cK,df,List.dropWhile_cons,aTi]
  cases h1:dE a x with
  |true=>simp only[ae,gO];rw[aVp (λy hy=>h y (by simp[hy]))];rfl
  |false=>
   cases h2:dE x a with
   |true=>simp only[ac,ae];rw[dJ];rfl
   |false=>
    have:=Rb h1 h2
    have:=h a (by simp)
    simp_all
def aVq {e x:D.Entry}{l2:List D.Entry}(he:(e.Site==x.Site&&e.Handle==x.Handle)=true):∀{l1:List D.Entry},srt (l1++e::l2)->cK (l1++e::l2) [x]=l1++qN e x::l2
 |[],_=>by
  have hk:e.Site=x.Site/\e.Handle=x.Handle:=by simpa using he
  have h1:dE e x=false:=by
   cases h:dE e x with
   |false=>rfl
   |true=>rw[sD] at h;omega
  have h2:dE x e=false:=by
   cases h:dE x e with
   |false=>rfl
   |true=>rw[sD] at h;omega
  rw[bh,cK,h1,ac,h2,ac,dJ];rfl
 |a::l1,h=>by
  obtain⟨ha,hs⟩:=dy.1 h
  have hk:e.Site=x.Site/\e.Handle=x.Handle:=by simpa using he
  have h1:dE a x=true:=by rw[<-aGu hk];exact ha e (by simp)
  rw[cz,cK,h1,ae,aVq he hs];rfl
def bAq {l:List D.Entry}{x:D.Entry}(h:srt l):(bif (decide (aG ⟨l⟩ x.Site x.Handle<0)||sW x (l.getD (aG ⟨l⟩ x.Site x.Handle).toNat default)) then(mO ⟨l⟩ x).Entries else l)=cK l [x]:=by
 unfold mO
 by_cases hf:aG ⟨l⟩ x.Site x.Handle<0
 ·rw[ap hf,Bool.true_or,ae,show decide (aG ⟨l⟩ x.Site x.Handle>=0)=false from aq (by omega),ac]
  exact(aVp (aQ8 hf)).symm
 ·obtain⟨l1,e,l2,h1,h2,h3⟩:=R3 (show 0<=iP (λe=>e.Site==x.Site&&e.Handle==x.Handle) 0 l from by unfold aG at hf;simp only at hf;omega)
  have h3':aG ⟨l⟩ x.Site x.Handle=(l1.length:Int):=by unfold aG;rw[h3];simp
  rw[h3',aq (by omega),cE,show decide ((l1.length:Int)>=0)=true from ap (by omega),ae,bp]
  subst h1
  rw[aVq h2 h]
  have g:(l1++e::l2).getD l1.length default=e:=by simp[List.getD]
  have st:(l1++e::l2).set l1.length x=l1++x::l2:=by simp
  rw[g]
  show(bif sW x e then(l1++e::l2).set l1.length x else l1++e::l2)=_
  rw[st]
  unfold qN
  cases sW x e<;>rfl
def aVr {α:Type}{p:Nat->α->Bool}:∀{l:List α} {j:Nat},fD p j l=false->∀(i:Nat) (hi:i<l.length),p (j+i) l[i]=false
 |[],j,_,i,hi=>by simp at hi
 |x::l,j,h,i,hi=>by
  simp only[fD,bv] at h
  cases i with
  |zero=>exact h.1
  |succ i=>have:=aVr h.2 i (by simpa using hi);rw[show j+(i+1)=j+1+i by omega];exact this
def aOu {b:D.aAC}(h:aI b=true):b.Entries.length<=20/\srt b.Entries:=by
 simp only[aI,aa,cW,cq] at h
 refine⟨by omega,?_⟩
 have adj:∀i (hi:i+1<b.Entries.length),dE b.Entries[i] b.Entries[i+1]=true:=λi hi=>by
  have:=aVr h.2 (i+1) hi
  simp only[Ht,bv,bu] at this
  have h4:=this.2.2.2
  rw[ap (by omega),dc] at h4
  have h5:(b.Entries.getD (i+1-1) default)=b.Entries[i]:=by rw[Nat.add_sub_cancel,List.getD,ab (by omega),cL]
  rw[h5] at h4;simpa using h4
 have far:∀d i (hi:i+d+1<b.Entries.length),dE b.Entries[i] b.Entries[i+d+1]=true:=λd=>by
  induction d with
  |zero=>exact λi hi=>adj i hi
  |succ d ih=>exact λi hi=>Hu (ih i (by omega)) (adj (i+d+1) (by omega))
 refine dt.2 λi j hi hj hij=> ?_
 obtain⟨d,rfl⟩:∃d,j=i+d+1:=⟨j-i-1,by omega⟩
 exact far d i hj
def fB {α β:Type}{s:List α}(hs:s.length<=34359738368)(x:α)(k:Option β):gd (aS s [x]) k=k:=aA (by unfold aS;simp only[dw];omega)
def mP {α β:Type}{s:List α}(hs:s.length<=34359738368)(k:Option β):gd (aS [] s) k=k:=aA (by unfold aS;simp only[ce];omega)
def aQ9 {α:Type}{l s:List α}:l.foldl (λs x=>s++[x]) s=s++l:=by
 have:=Q8 (f:=λx:α=>[x]) (l:=l) (s:=s)
 rw[this];congr 1
 induction l with
 |nil=>rfl
 |cons x l ih=>simp[ih]
def aGw {α:Type}{l:List α}{F:(Nat×List α->Option (List α))->Nat×List α->Option (List α)}(hl:l.length<=34359738368)
  (hF:∀rec i s (hi:i<l.length),s.length<=34359738368->F rec (i,s)=rec (i+1,s++[l[i]])) (hE:∀rec s,F rec (l.length,s)=some s):EV.bO FUEL F (0,[])=some l:=by
 rw[aM3 (l:=l) (λs x=>s++[x]) (λi s=>s.length=i) (λs=>some s) (by omega) rfl (λi s hi hv=>by simp;omega) (λrec i s hi hv=>hF rec i s hi (by omega)) (λrec s _=>hE rec s),aQ9,bh]
def bEv {α:Type}{l:List α}{F:(List α×Nat->Option (List α))->List α×Nat->Option (List α)}(hl:l.length<=34359738368)
  (hF:∀rec i s (hi:i<l.length),s.length<=34359738368->F rec (s,i)=rec (s++[l[i]],i+1)) (hE:∀rec s,F rec (s,l.length)=some s):EV.bO FUEL F ([],0)=some l:=by
 rw[dP (l:=l) (λs x=>s++[x]) (λi s=>s.length=i) (λs=>some s) (by omega) rfl (λi s hi hv=>by simp;omega) (λrec i s hi hv=>hF rec i s hi (by omega)) (λrec s _=>hE rec s),aQ9,bh]
abbrev szL {α:Type}(f:α->Nat)(l:List α):Nat:=l.length+(l.map f).sum
def iT {S τ:Type}{F:(S->Option τ)->S->Option τ}{n:Nat}{s:S}:EV.bO (n+1) F s=F (EV.bO n F) s:=rfl
def iK {α:Type}{c:Bool}{x y:α}:(bif c then some x else some y)=some (bif c then x else y):=by cases c<;>rfl
def yX {c d:Bool}:(bif c then some true else some d)=some (c||d):=by cases c<;>rfl
def bAr {α:Type}[Inhabited α]{l:List α}{i:Nat}(h:i<l.length):l.set i (l.getD i default)=l:=by
 rw[List.getD,ab h];simp
def Yh {α:Type}{p:Nat->α->Bool}:∀(l:List α) (j:Nat),fD p j l=true↔∃(i:Nat) (hi:i<l.length),p (j+i) l[i]=true
 |[],j=>by simp[fD]
 |x::xs,j=>by
  simp only[fD,ck,Yh xs]
  constructor
  ·rintro(h|⟨i,hi,h⟩)
   ·exact⟨0,by simp,h⟩
   ·exact⟨i+1,by simpa using hi,by rw[show j+(i+1)=j+1+i by omega];exact h⟩
  ·rintro⟨i,hi,h⟩
   cases i with
   |zero=>exact .inl h
   |succ i=>exact .inr ⟨i,by simpa using hi,by rw[show j+1+i=j+(i+1) by omega];exact h⟩
def Re {α:Type}{p:Nat->α->Bool}{l:List α}:fD p 0 l=false↔∀(i:Nat) (hi:i<l.length),p i l[i]=false:=by
 constructor
 ·intro h i hi
  cases hc:p i l[i] with
  |false=>rfl
  |true=>rw[(Yh l 0).2 ⟨i,hi,by rw[bu];exact hc⟩] at h;cases h
 ·intro h
  cases hc:fD p 0 l with
  |false=>rfl
  |true=>
   obtain⟨i,hi,hp⟩:=(Yh l 0).1 hc
   rw[bu,h i hi] at hp;cases hp
def bI2 {α β:Type}{l:List α}(f:α->β){F:(List β×Nat->Option (List β))->List β×Nat->Option (List β)}(hl:l.length<=34359738368)
  (hF:∀rec i s (hi:i<l.length),s.length<=34359738368->F rec (s,i)=rec (s++[f l[i]],i+1)) (hE:∀rec s,F rec (s,l.length)=some s):EV.bO FUEL F ([],0)=some (l.map f):=by
 rw[dP (l:=l) (λs x=>s++[f x]) (λi s=>s.length=i) (λs=>some s) (by omega) rfl (λi s hi hv=>by simp;omega) (λrec i s hi hv=>hF rec i s hi (by omega)) (λrec s _=>hE rec s),Q9,bh]
def bEw {α β:Type}{l:List α}(f:α->β){s0:List β}{F:(List β×Nat->Option (List β))->List β×Nat->Option (List β)}(hl:s0.length+l.length<=34359738368)
  (hF:∀rec i s (hi:i<l.length),s.length<=34359738368->F rec (s,i)=rec (s++[f l[i]],i+1)) (hE:∀rec s,F rec (s,l.length)=some s):EV.bO FUEL F (s0,0)=some (s0++l.map f):=by
 rw[dP (l:=l) (λs x=>s++[f x]) (λi s=>s.length=s0.length+i) (λs=>some s) (by omega) (by simp) (λi s hi hv=>by simp;omega) (λrec i s hi hv=>hF rec i s hi (by omega)) (λrec s _=>hE rec s),Q9]
def aM6 (h:D.aAF)(b:Int):D.aAF×Bool:=bif decide (b<0)||decide (b>=(h.Saved.length:Int)) then(h,false) else(⟨h.Saved.getD (h.Saved.length-1-b.toNat) default,h.Saved,h.Monotonic⟩,true)
def aTj (w:D.World)(i b:Int):D.World×Bool:=bif !eY w||(decide (i<0)||decide (i>=(w.Hosts.length:Int))) then(w,false) else bif (aM6 (w.Hosts.getD i.toNat default) b).2 then({w with Hosts:=w.Hosts.set i.toNat (aM6 (w.Hosts.getD i.toNat default) b).1},true) else(w,false)
def bDq {i:Int}{n:Nat}(h:n<=34359738368):(!bE i 0 (IntKind.i64.wrap ((n:Int)-1)))=(decide (i<0)||decide (i>=(n:Int))):=by
 rw[aH (by omega) (by omega)]
 unfold bE
 by_cases h0:i<0
 ·rw[ap h0,aq (show ¬0<=i by omega)];rfl
 ·rw[aq h0,ap (show 0<=i by omega)]
  by_cases h1:i>=(n:Int)
  ·rw[ap h1,aq (show ¬i<=(n:Int)-1 by omega)];rfl
  ·rw[aq h1,ap (show i<=(n:Int)-1 by omega)];rfl
def Yi {α:Type}[Inhabited α]{l:List α}{i:Int}(h0:0<=i)(h1:i<(l.length:Int)):aZ l i=some (l.getD i.toNat default):=by
 rw[Bg h0 (by omega)];simp[List.getD,ab (show i.toNat<l.length by omega)]
def aTk {i:Int}{n:Nat}(h:(decide (i<0)||decide (i>=(n:Int)))=false):0<=i/\i<(n:Int):=by
 simp only[bv,eI] at h;omega
def aOv {α:Type}[Inhabited α]{f:α->Nat}{l:List α}{i:Nat}(h:i<l.length):f (l.getD i default)<=(l.map f).sum:=by
 rw[List.getD,ab h];exact kV h
def bK6 (l:List D.aAN)(i:Nat)(s:D.aAN):Bool:= !bE s.Index 1 7||(!bE s.Value 0 1018||(l.take i).any λq=>q.Index==s.Index)
def bHg (l:List D.aAN):Bool:=bE (l.length:Int) 1 7&& !fD (bK6 l) 0 l
def aCl (x:Int)(z v:Int):Int:=(IntKind.i64.wrap (IntKind.i64.wrap (v+dW z 1019)*x)).tmod 1019
def qO (c:Int)(l:List Int)(x:Int):Int:=(l.foldr (aCl x) 0+dW c 1019)%1019
def bHh (c:List Int)(s:D.aAN):D.aAN:=⟨s.Index,(IntKind.i64.wrap (s.Value+qO 0 c s.Index)).tmod 1019⟩
def bAs (l:List D.aAN)(c:List Int):List D.aAN:=bif bHg l then l.map (bHh c) else[]
def cS (l:List D.aAN)(i:Nat)(k:Int):Bool:=(l.take i).any λq=>q.Index==k
def aRa {x z v:Int}(hx:0<=x/\x<=1000)(hv:0<=v/\v<1019):0<=aCl x z v/\aCl x z v<1019:=by
 have hm:=lN (p:=z) (q:=1019) (by omega)
 unfold aCl
 generalize dW z 1019=m at*
 have e1:IntKind.i64.wrap (v+m)=v+m:=aH (by omega) (by omega)
 have h2:0<=(v+m)*x:=je (by omega) hx.1
 have h3:(v+m)*x<=3000*1000:=Int.mul_le_mul (by omega) hx.2 hx.1 (by omega)
 rw[e1,aH (by omega) (by omega)]
 exact⟨eR _ h2,eL _ (by omega)⟩
def Rf {x:Int}(hx:0<=x/\x<=1000):∀l:List Int,0<=l.foldr (aCl x) 0/\l.foldr (aCl x) 0<1019
 |[]=>by simp
 |z::l=>aRa hx (Rf hx l)
def aRb {σ τ:Type}{l:List Int}(g:Int->σ->σ){s0:σ}(fin:σ->Option τ){F:(σ×Int->Option τ)->σ×Int->Option τ}(hl:l.length<=34359738368)
  (hF:∀rec s i (hi:i<l.length),F rec (s,(i:Int))=rec (g l[i] s,(i:Int)-1)) (hE:∀rec s,F rec (s,-1)=fin s) {n0:Int} (hn:n0=(l.length:Int)-1):EV.bO FUEL F (s0,n0)=fin (l.foldr g s0):=by
 subst hn
 refine aGo (λk s=>k<=l.length/\s=((l.drop (l.length-k)).foldr g s0,(l.length:Int)-1-k)) l.length _ (by omega) ⟨by omega,by simp⟩ (λk s rec hk hv=> ?_) (λs rec hv=> ?_)
 ·obtain⟨_,rfl⟩:=hv
  refine .inl ⟨_,⟨hk,rfl⟩,?_⟩
  have e:(l.length:Int)-1-k=((l.length-1-k:Nat):Int):=by omega
  have e2:l.length-(k+1)=l.length-1-k:=by omega
  have hi:l.length-1-k<l.length:=by omega
  rw[e,hF rec _ _ hi,e2,cj hi,List.foldr_cons,show l.length-1-k+1=l.length-k by omega]
  congr 2;omega
 ·obtain⟨_,rfl⟩:=hv
  simp only[fo,fu]
  rw[show(l.length:Int)-1-(l.length:Int)= -1 by omega,hE]
def aM7 (k:D.aAP):Bool:=bHg [k.aAN]&&(bE k.Epoch 0 1000000&&(bE k.Limit 1 10&&bE k.Guesses 0 k.Limit))
def bAt (h:D.aAF)(s:D.aAN):Bool:= !aM7 h.State||(decide (qM h.State<h.Monotonic)||(h.State.Epoch==1000000||(s.Index !=h.State.aAN.Index|| !bHg [s])))
def bHi (h:D.aAF)(s:D.aAN):D.aAF:=⟨⟨s,IntKind.i64.wrap (h.State.Epoch+1),0,h.State.Limit⟩,h.Saved,qM ⟨s,IntKind.i64.wrap (h.State.Epoch+1),0,h.State.Limit⟩⟩
def bHj (hs:List D.aAF)(ss:List D.aAN):List D.aAF×Bool:=bif ((ss.length:Int)==0)||(hs.zip ss).any (λp=>bAt p.1 p.2) then(hs,false) else(List.zipWith bHi hs ss,true)
def aCm (hs:List D.aAF)(c:List Int):List D.aAF×Bool:=bHj hs (bAs (hs.map λh=>h.State.aAN) c)
def aVs (w:D.World):Nat->Int->List Int
 |0,_=>[]
 |n+1,k=>bif decide (k<w.aAQ.Threshold)&&decide (k<=7) then aO w.Seed [317,w.Now,k]::aVs w n (k+1) else[]
def bEx (w:D.World):List Int:=aVs w 8 1
def aRc (w:D.World):D.World×Bool:=bif eY w&&(aCm w.Hosts (bEx w)).2 then({w with Hosts:=(aCm w.Hosts (bEx w)).1},true) else(w,false)
def aXs (w:D.World):∀(n:Nat) (k:Int),(aVs w n k).length<=n
 |0,_=>ak _
 |n+1,k=>by
  unfold aVs
  cases(decide (k<w.aAQ.Threshold)&&decide (k<=7)) with
  |true=>have:=aXs w n (k+1);simp only[ae,az];omega
  |false=>simp
def bAu (b:D.aAC)(s h:Int):Int:=bif decide (aG b s h>=0) then IntKind.i64.wrap ((b.Entries.getD (aG b s h).toNat default).Version+1) else 1
def lQ (b:D.aAC)(s h:Int):D.Entry:=⟨s,h,bAu b s h,false⟩
def R4 (b:D.aAC)(s h:Int):D.aAC×Bool:=bif !(decide (aG b s h>=0)&& !(b.Entries.getD (aG b s h).toNat default).Deleted)&&(aI b&&aI (mO b (lQ b s h))) then(mO b (lQ b s h),true) else(b,false)
def aC8 (b:D.aAC)(s h:Int):D.Entry:=⟨s,h,IntKind.i64.wrap ((b.Entries.getD (aG b s h).toNat default).Version+1),true⟩
def R5 (b:D.aAC)(s h:Int):D.aAC×Bool:=bif !aI b||(decide (aG b s h<0)||((b.Entries.getD (aG b s h).toNat default).Deleted||(b.Entries.getD (aG b s h).toNat default).Version==1000000)) then(b,false) else(mO b (aC8 b s h),true)
def rW (d:D.Device)(n:ByteArray)(h:Int)(rm:Bool):D.aAC×Bool:=bif rm then R5 d.aAC (aY n) h else R4 d.aAC (aY n) h
def eH (d:D.Device)(n:ByteArray)(h:Int)(rm:Bool):D.Device×Bool:=bif (rW d n h rm).2 then({d with aAC:=(rW d n h rm).1},true) else(d,false)
def bI3 (w:D.World)(d:Int)(n:ByteArray)(h:Int)(rm:Bool):D.World×Bool:=bif eY w&&iA w d then(bif (eH (jW w d) n h rm).2 then({w with Devices:=w.Devices.set d.toNat (eH (jW w d) n h rm).1},true) else(w,false)) else(w,false)
def aVt (b:List Int):(qD b).length=b.length+1:=by simp[qD,Nat.add_comm]
def aFe (l:List Int):List.map (λ(n:Int)=>n) l=l:=List.map_id l
def aRd (b:D.aAC)(x:D.Entry):(mO b x).Entries.length<=b.Entries.length+1:=by
 unfold mO
 cases decide (aG b x.Site x.Handle>=0) with
 |true=>simp
 |false=>
  have:=congrArg List.length (eE (p:=λe=>gI e x.Site x.Handle) (l:=b.Entries))
  simp only[aw] at this
  simp only[ac,aw,dw];omega
def bDr (b:D.aAC)(s h:Int):(R4 b s h).1.Entries.length<=b.Entries.length+1:=by
 unfold R4
 have:=aRd b (lQ b s h)
 cases(!(decide (aG b s h>=0)&& !(b.Entries.getD (aG b s h).toNat default).Deleted)&&(aI b&&aI (mO b (lQ b s h)))) with
 |true=>exact this
 |false=>simp
def bDs (b:D.aAC)(s h:Int):(R5 b s h).1.Entries.length<=b.Entries.length+1:=by
 unfold R5
 have:=aRd b (aC8 b s h)
 cases(!aI b||(decide (aG b s h<0)||((b.Entries.getD (aG b s h).toNat default).Deleted||(b.Entries.getD (aG b s h).toNat default).Version==1000000))) with
 |true=>simp
 |false=>exact this
def aXt (d:D.Device)(n:ByteArray)(h:Int)(rm:Bool):(eH d n h rm).1.sz<=d.sz+1:=by
 unfold eH
 have:(rW d n h rm).1.Entries.length<=d.aAC.Entries.length+1:=by
  unfold rW;cases rm with
  |true=>exact bDs _ _ _
  |false=>exact bDr _ _ _
 cases(rW d n h rm).2 with
 |true=>simp only[ae,D.Device.sz];omega
 |false=>simp
def lC (c:D.aAI)(b:Int):D.aAA×Bool:=bif decide (b<0)||decide (b>=(c.History.length:Int)) then(⟨0,0,[],0⟩,false) else(c.History.getD (c.History.length-1-b.toNat) default,true)
def aOw (a b:D.aAB):Bool:=a.Index==b.Index&&(a.Kind==b.Kind&&(a.Device==b.Device&&(a.By==b.By&&(a.Previous==b.Previous&&(a.Signature==b.Signature&&true)))))
def bS (a b:List D.aAB):Bool:=decide (b.length<=a.length)&& !fD (λi e=> !aOw (a.getD i default) e) 0 b
def fC (k:Int)(b:D.aAA):Int:=aX k ([227,b.Epoch,b.Version]++qD b.Data)
def iU (k e v:Int):Int:=aO k [223,e,v]
def N8:Nat->Int->List Int
 |0,n=>[n]
 |k+1,n=>bif decide (n>127) then(n%128+128)::N8 k (n/128) else[n]
def aOx:∀(k:Nat) (n:Int),1<=(N8 k n).length/\(N8 k n).length<=k+1
 |0,n=>by simp[N8]
 |k+1,n=>by
  have:=aOx k (n/128)
  unfold N8
  cases decide (n>127)<;>simp<;>omega
def bDt {k:Nat}{z:Int}(h:z<=127):N8 k z=[z]:=by
 cases k with
 |zero=>rfl
 |succ k=>unfold N8;rw[aq (by omega)];rfl
def aVu:∀(k:Nat) (m n:Int) (x y:List Int),0<=m->0<=n->N8 k m++x=N8 k n++y->m=n/\x=y
 |0,m,n,x,y,_,_,h=>by simpa[N8] using h
 |k+1,m,n,x,y,h0,h1,h=>by
  unfold N8 at h
  by_cases hm:m>127<;>by_cases hn:n>127
  ·simp only[ap hm,ap hn,ae,cz,fk] at h
   have:=aVu k (m/128) (n/128) x y (by omega) (by omega) h.2
   exact⟨by omega,this.2⟩
  ·simp only[ap hm,aq hn,ae,ac,cz,fk] at h;omega
  ·simp only[aq hm,ap hn,ae,ac,cz,fk] at h;omega
  ·simpa only[aq hm,aq hn,ac,cz,bh,fk] using h
def aRe {F:(Int×List Int->Option (Int×List Int))->Int×List Int->Option (Int×List Int)}
  (hF:∀rec (n:Int) (s:List Int),0<=n->n<9223372036854775807->s.length<=34359738368->F rec (n,s)=bif decide (n>127) then rec (n/128,s++[n%128+128]) else some (n,s)):
  ∀(k:Nat) (n:Int) (s:List Int) (f:Nat),k<f->0<=n->n<128^(k+1)->k<=6->s.length+k<=34359738368->∃m q,EV.bO f F (n,s)=some (m,q)/\q++[m]=s++N8 k n/\0<=m/\m<=127
 |0,n,s,f+1,hf,h0,h1,_,hs=>by
  refine⟨n,s,?_,rfl,h0,by simp at h1;omega⟩
  rw[iT,hF _ _ _ h0 (by simp at h1;omega) (by omega),aq (by simp at h1;omega)];rfl
 |k+1,n,s,f+1,hf,h0,h1,hk,hs=>by
  have h2:(128:Int)^(k+1+1)=128*128^(k+1):=by rw[eM];omega
  have h3:(128:Int)^(k+1+1)<=128^8:=by exact_mod_cast gz (by omega) (by omega)
  have h4:(128:Int)^8=72057594037927936:=by decide
  rw[iT,hF _ _ _ h0 (by omega) (by omega)]
  unfold N8
  by_cases hn:n>127
  ·rw[ap hn,ae,ae]
   obtain⟨m,q,e1,e2,e3⟩:=aRe hF k (n/128) (s++[n%128+128]) f (by omega) (by omega) (by omega) (by omega) (by simp;omega)
   exact⟨m,q,e1,by rw[e2];simp,e3⟩
  ·rw[aq hn,ac,ac]
   exact⟨n,s,rfl,rfl,h0,by omega⟩
def bDu {n:Int}(h0:0<=n)(h1:n<9223372036854775808):kR .i64 n 127=n%128:=by
 obtain⟨m,rfl⟩:=d8 h0
 have e:((BitVec.ofInt 64 (m:Int))&&&(BitVec.ofInt 64 127)).toNat=m%128:=by
  rw[BitVec.toNat_and]
  have e1:(BitVec.ofInt 64 (m:Int)).toNat=m:=by rw[BitVec.toNat_ofInt];omega
  have e2:(BitVec.ofInt 64 127).toNat=2^7-1:=by decide
  rw[e1,e2,fx]
 show IntKind.i64.wrap (((BitVec.ofInt 64 (m:Int))&&&(BitVec.ofInt 64 127)).toNat:Int)=_
 rw[e,aH (by omega) (by omega)];omega
def bHk {n:Int}(h0:0<=n)(h1:n<128):orI .i64 n 128=n+128:=by
 obtain⟨m,rfl⟩:=d8 h0
 have e:((BitVec.ofInt 64 (m:Int))|||(BitVec.ofInt 64 128)).toNat=m+128:=by
  rw[BitVec.toNat_or]
  have e1:(BitVec.ofInt 64 (m:Int)).toNat=m:=by rw[BitVec.toNat_ofInt];omega
  have e2:(BitVec.ofInt 64 128).toNat=1<<<7:=by decide
  have:=iv (b:=m) (i:=7) (by omega) 1
  rw[e1,e2,Nat.or_comm,<-this];omega
 show IntKind.i64.wrap (((BitVec.ofInt 64 (m:Int))|||(BitVec.ofInt 64 128)).toNat:Int)=_
 rw[e,aH (by omega) (by omega)];omega
def bI4 {n:Int}(h0:0<=n):yB .i64 n 7=n/128:=by
 unfold yB
 rw[show min (Int.toNat 7) IntKind.i64.bits=7 from by decide,gi _ (by decide)];rfl
def aGy {n:Int}(h0:0<=n)(h1:n<=255):IntKind.u8.wrap n=n:=by rw[IntKind.wrap_u8];omega
def enc1 (n:Int):List Int:=bif bE n 0 1000000000000 then N8 5 n else[]
def mQ (b:List Int)(n:Int):List Int:=b++enc1 n
def eU (l:List Int):List Int:=(l.map enc1).flatten
def Hw (n:Int):(enc1 n).length<=6:=by
 have:=(aOx 5 n).2
 unfold enc1;cases bE n 0 1000000000000<;>simp<;>omega
def aFf {n:Int}(h:0<=n/\n<=1000000000000):enc1 n=N8 5 n:=by
 unfold enc1 bE;rw[ap h.1,ap h.2];rfl
def oI (n:Int)(l:List Int):eU (n::l)=enc1 n++eU l:=rfl
def Yj:∀l:List Int,(eU l).length<=6*l.length
 |[]=>by simp[eU]
 |n::l=>by
  have:=Yj l
  have:=Hw n
  rw[oI,aw,az];omega
def aKp (l:List Int):Prop:=∀v∈l,0<=v/\v<=(1000000000000:Int)
def aRf:∀(s t x y:List Int),aKp s->aKp t->s.length=t.length->eU s++x=eU t++y->s=t/\x=y
 |[],[],x,y,_,_,_,h=>⟨rfl,h⟩
 |m::s,n::t,x,y,hs,ht,hl,h=>by
  have hm:=hs m (by simp)
  have hn:=ht n (by simp)
  rw[oI,oI,ca,ca,aFf hm,aFf hn] at h
  obtain⟨h1,h2⟩:=aVu 5 m n _ _ hm.1 hn.1 h
  obtain⟨h3,h4⟩:=aRf s t x y (λv hv=>hs v (by simp[hv])) (λv hv=>ht v (by simp[hv])) (by simpa using hl) h2
  exact⟨by rw[h1,h3],h4⟩
def aVv {b:List Int}(hb:aQ b){p:Nat}:∀(k i:Nat) (n m e:Int),uvG b p (k+1) i n=(m,e,true)->∃(r:Int) (q:Nat),(0<=r/\m=n+r*128^i/\m<=1000000000000/\e=(q:Int)/\q<=b.length/\(0<i->r≠0))/\b.drop (p+i)=N8 k r++b.drop q
 |k,i,n,m,e,h=>by
  unfold uvG at h
  by_cases hlt:p+i<b.length
  ·rw[cr hlt] at h
   have hz:=pQ hb hlt
   have hg:b.getD (p+i) 0=b[p+i]:=by simp[List.getD,ab hlt]
   rw[hg] at h
   have hd:b.drop (p+i)=b[p+i]::b.drop (p+i+1):=cj hlt
   generalize b[p+i]=z at hz h hd
   by_cases h128:z<128
   ·rw[ap h128,ae] at h
    have hzz:z%128=z:=by omega
    rw[hzz] at h
    cases hc:(decide (0<i)&&z==0)||decide (n+z*128^i>1000000000000) with
    |true=>rw[hc] at h;simp at h
    |false=>
     rw[hc,ac] at h
     rw[bv] at hc
     have h1:=of_decide_eq_false hc.2
     injection h with e1 e2
     injection e2 with e2 e3
     refine⟨z,p+i+1,⟨hz.1,e1.symm,by omega,e2.symm,by omega,λhi h0=> ?_⟩,by rw[hd,bDt (by omega)];rfl⟩
     subst h0
     simp[hi] at hc
   ·rw[aq h128,ac] at h
    match k,h with
    |0,h=>simp[uvG] at h
    |k+1,h=>
     obtain⟨r,q,⟨h1,h2,h3,h4,h5,h6⟩,h7⟩:=aVv hb k (i+1) _ m e h
     have hr:=h6 (by omega)
     refine⟨z%128+128*r,q,⟨by omega,?_,h3,h4,h5,λ_=>by omega⟩,?_⟩
     ·rw[h2,eM,Int.add_mul,<-Int.add_assoc]
      congr 1
      rw[ij 128 r,Int.mul_assoc,ij 128]
     ·rw[hd,show p+i+1=p+(i+1) from by omega,h7]
      have e1:N8 (k+1) (z%128+128*r)=z::N8 k r:=by
       rw[N8,ap (show z%128+128*r>127 by omega),ae,show(z%128+128*r)%128+128=z by omega,show(z%128+128*r)/128=r by omega]
      rw[e1];rfl
  ·rw[cJ hlt] at h;simp at h
def aOy {b:List Int}(hb:aQ b){a m e:Int}(h:rR b a=(m,e,true)):∃q:Nat,(0<=a/\0<=m/\m<=1000000000000/\e=(q:Int)/\q<=b.length)/\b.drop a.toNat=enc1 m++b.drop q:=by
 unfold rR at h
 by_cases h0:a<0
 ·rw[cr h0] at h;simp at h
 ·rw[cJ h0] at h
  obtain⟨r,q,⟨h1,h2,h3,h4,h5,_⟩,h7⟩:=aVv hb 5 0 0 m e h
  have hm:m=r:=by rw[h2];simp
  subst hm
  exact⟨q,⟨by omega,h1,h3,h4,h5⟩,by rw[aFf ⟨h1,h3⟩];exact h7⟩
def Hy {b:List Int}(hb:aQ b):∀(k:Nat) (a:Int) (s v:List Int) (e:Int),0<=a->a<=b.length->iB b k a s=(v,e,true)->∃(t:List Int) (q:Nat),(v=s++t/\t.length=k/\e=(q:Int)/\q<=b.length/\aKp t)/\b.drop a.toNat=eU t++b.drop q
 |0,a,s,v,e,h0,h1,h=>by
  unfold iB at h
  injection h with e1 e2
  injection e2 with e2 _
  exact⟨[],a.toNat,⟨by simp[e1],rfl,by omega,by omega,λv hv=>by simp at hv⟩,rfl⟩
 |k+1,a,s,v,e,h0,h1,h=>by
  unfold iB at h
  cases hu:rR b a with
  |mk m r=>
   obtain⟨e',ok⟩:=r
   rw[hu] at h
   cases ok with
   |false=>simp at h
   |true=>
    obtain⟨q,⟨g0,g1,g2,g3,g4⟩,g5⟩:=aOy hb hu
    subst g3
    obtain⟨t,q',⟨k1,k2,k3,k4,k5⟩,k6⟩:=Hy hb k (q:Int) (s++[m]) v e (by omega) (by omega) h
    refine⟨m::t,q',⟨by rw[k1];simp,by simp[k2],k3,k4,λx hx=> ?_⟩,by rw[g5,oI,ca];congr 1⟩
    rcases ba.1 hx with rfl|hx
    ·exact⟨g1,g2⟩
    ·exact k5 x hx
def aGz {b:List Int}:∀(j k:Nat) (a:Int) (s:List Int),iB b (j+k) a s=bif (iB b j a s).2.2 then iB b k (iB b j a s).2.1 (iB b j a s).1 else([],0,false)
 |0,k,a,s=>by rw[bu];rfl
 |j+1,k,a,s=>by
  have e:∀m,iB b (m+1) a s=bif (rR b a).2.2 then iB b m (rR b a).2.1 (s++[(rR b a).1]) else([],0,false):=λ_=>rfl
  rw[show j+1+k=j+k+1 by omega,e,e]
  cases(rR b a).2.2 with
  |false=>rfl
  |true=>exact aGz j k _ _
def aG0 {b:List Int}:∀(k:Nat) (a:Int) (s:List Int),iB b k a s=bif (iB b k a []).2.2 then(s++(iB b k a []).1,(iB b k a []).2.1,true) else([],0,false)
 |0,a,s=>by simp[iB]
 |k+1,a,s=>by
  unfold iB
  cases(rR b a).2.2 with
  |false=>rfl
  |true=>
   simp only[ae,bh]
   rw[aG0 k _ (s++[(rR b a).1]),aG0 k _ [(rR b a).1]]
   cases(iB b k (rR b a).2.1 []).2.2<;>simp
def aKq (e:D.Entry):List Int:=[e.Site,e.Handle,e.Version,bif e.Deleted then 1 else 0]
def jG:List Int->List D.Entry
 |s::h::v::d::r=>⟨s,h,v,d==1⟩::jG r
 |_=>[]
def iL:List Int->Bool
 |_::_::_::d::r=>decide (d<=1)&&iL r
 |_=>true
def gJ (l:List D.Entry):List Int:=l.flatMap aKq
def oJ:∀l:List D.Entry,(gJ l).length=4*l.length
 |[]=>rfl
 |e::l=>by
  have:=oJ l
  simp only[gJ,List.flatMap_cons,aw,az] at*
  rw[this];simp[aKq];omega
def Yk:∀(k:Nat) (l:List Int),l.length=4*k->(jG l).length=k
 |0,[],_=>rfl
 |k+1,s::h::v::d::r,hl=>by
  have:=Yk k r (by simp at hl;omega)
  simp[jG,this]
def aM8:∀(k:Nat) (l:List Int),l.length=4*k->aKp l->aKp (gJ (jG l))/\(iL l=true↔gJ (jG l)=l)
 |0,[],_,_=>⟨λv h=>by simp[gJ,jG] at h,by simp[iL,gJ,jG]⟩
 |k+1,s::h::v::d::r,hl,ho=>by
  obtain⟨h1,h2⟩:=aM8 k r (by simp at hl;omega) (λx hx=>ho x (by simp[hx]))
  have hs:=ho s (by simp)
  have hh:=ho h (by simp)
  have hv:=ho v (by simp)
  have hd:=ho d (by simp)
  have e:gJ (jG (s::h::v::d::r))=s::h::v::(bif d==1 then 1 else 0)::gJ (jG r):=by simp[jG,gJ,aKq]
  rw[e]
  refine⟨λx hx=> ?_,?_⟩
  ·simp only[ba] at hx
   rcases hx with rfl|rfl|rfl|rfl|hx
   ·exact hs
   ·exact hh
   ·exact hv
   ·cases(d==1)<;>simp
   ·exact h1 x hx
  ·simp only[iL,aa,cW,fk,true_and,h2]
   refine and_congr_left' ?_
   by_cases h1:d=1
   ·subst h1;simp
   ·rw[show(d==1)=false by simpa using h1,ac];omega
def aRg:∀(k:Nat) (l r:List Int),l.length=4*k->jG (l++r)=jG l++jG r
 |0,[],r,_=>rfl
 |k+1,s::h::v::d::l,r,hl=>by
  have:=aRg k l r (by simp at hl;omega)
  simp[jG,this]
def lK (b:D.aAC):List Int:=[(b.Entries.length:Int)]++gJ b.Entries
def jZ (b:D.aAC):List Int:=bif aI b then eU (lK b) else[]
def aRh (d:List Int)(v:List Int×Int×Bool):D.aAC×Bool:=bif !v.2.2||(v.2.1 !=(d.length:Int)||(!iL v.1|| !aI ⟨jG v.1⟩)) then(⟨[]⟩,false) else(⟨jG v.1⟩,true)
def vW (d:List Int):D.aAC×Bool:=bif !(rR d 0).2.2||decide ((rR d 0).1>20) then(⟨[]⟩,false) else aRh d (iB d (4*(rR d 0).1).toNat (rR d 0).2.1 [])
def fK (key:Int)(s:D.aAA):D.aAC×Bool:=bif !(bB key&&(bE s.Epoch 0 1000000&&bE s.Version 0 1000000))||s.MAC !=fC key s then(⟨[]⟩,false) else vW (Hl (iU key s.Epoch s.Version) s.Data)
def bAv {d:List Int}(hd:aQ d){n e e':Int}{v:List Int}(h:rR d 0=(n,e,true))(hn:n<=20)(h':iB d (4*n).toNat e []=(v,e',true)):(eU (lK ⟨jG v⟩)=d↔(e'=(d.length:Int)/\iL v=true))/\v.length=4*n.toNat/\aKp v/\(jG v).length=n.toNat:=by
 obtain⟨q,⟨_,g1,g2,g3,g4⟩,g5⟩:=aOy hd h
 subst g3
 obtain⟨t,q',⟨k1,k2,k3,k4,k5⟩,k6⟩:=Hy hd _ _ _ _ _ (by omega) (by omega) h'
 rw[bh] at k1
 subst k1
 have hl:v.length=4*n.toNat:=by omega
 obtain⟨f1,f2⟩:=aM8 n.toNat v hl k5
 have hel:=Yk n.toNat v hl
 refine⟨?_,hl,k5,hel⟩
 have hdd:d=eU (n::v)++d.drop q':=by
  have h0:d.drop (Int.toNat 0)=d:=rfl
  rw[oI,ca,<-k6]
  exact h0▸g5
 have hv:lK ⟨jG v⟩=n::gJ (jG v):=by
  show((jG v).length:Int)::_=_
  rw[hel];congr 1;omega
 rw[hv]
 constructor
 ·intro hq
  have hx:eU (n::gJ (jG v))++[]=eU (n::v)++d.drop q':=by rw[cI,hq];exact hdd
  have hok:∀l,aKp l->aKp (n::l):=λl hl x hx=>by
   rcases ba.1 hx with rfl|hx
   ·exact⟨g1,g2⟩
   ·exact hl x hx
  obtain⟨y1,y2⟩:=aRf _ _ _ _ (hok _ f1) (hok _ k5) (by simp[oJ,hel,hl]) hx
  have:=congrArg List.length y2
  simp only[ce,cp] at this
  exact⟨by omega,f2.2 (List.cons.inj y1).2⟩
 ·rintro⟨h1,h2⟩
  rw[f2.1 h2]
  have:d.drop q'=[]:=fv (by omega)
  rw[this,cI] at hdd
  exact hdd.symm
def aM9 (l:List Int):(EV.aPw l).data.toList=l.map λn=>UInt8.ofNat n.toNat:=by
 unfold EV.aPw
 have:∀(l:List Int) (r:ByteArray),(l.foldl (λr n=>r.push (UInt8.ofNat n.toNat)) r).data.toList=r.data.toList++l.map λn=>UInt8.ofNat n.toNat:=by
  intro l
  induction l with
  |nil=>intro r;simp
  |cons x l ih=>intro r;rw[cM,ih];simp
 rw[this];rfl
def bytes_inj:∀{a b:List Int},(∀z∈a,0<=z/\z<=255)->(∀z∈b,0<=z/\z<=255)->(a.map λn=>UInt8.ofNat n.toNat)=(b.map λn=>UInt8.ofNat n.toNat)->a=b
 |[],[],_,_,_=>rfl
 |[],y::b,_,_,h=>by simp at h
 |x::a,[],_,_,h=>by simp at h
 |x::a,y::b,ha,hb,h=>by
  simp only[bj,fk] at h
  have hx:=ha x (by simp)
  have hy:=hb y (by simp)
  have e:=congrArg UInt8.toNat h.1
  rw[UInt8.toNat_ofNat',UInt8.toNat_ofNat'] at e
  rw[bytes_inj (λz hz=>ha z (by simp[hz])) (λz hz=>hb z (by simp[hz])) h.2,show x=y by omega]
def Hz {b:List Int}(h:aQ b):∀z∈b,0<=z/\z<=255:=λz hz=>by simpa using cw.1 h.2 z hz
def aG1 {b:List Int}(h:b.length<=34359738368)(h1:∀z∈b,0<=z/\z<=255):aQ b:=⟨h,cw.2 λz hz=>by simpa using h1 z hz⟩
def aNa:∀(k:Nat) (n:Int),0<=n->n<128^(k+1)->∀z∈N8 k n,0<=z/\z<=255
 |0,n,h0,h1,z,hz=>by simp[N8] at hz;subst hz;simp at h1;omega
 |k+1,n,h0,h1,z,hz=>by
  have h2:(128:Int)^(k+1+1)=128*128^(k+1):=by rw[eM];omega
  unfold N8 at hz
  by_cases hn:n>127
  ·rw[ap hn,ae] at hz
   rcases ba.1 hz with rfl|hz
   ·omega
   ·exact aNa k (n/128) (by omega) (by omega) z hz
  ·rw[aq hn,ac] at hz
   simp at hz;subst hz;omega
def aTl (n:Int):∀z∈enc1 n,0<=z/\z<=255:=λz hz=>by
 unfold enc1 at hz
 cases hr:bE n 0 1000000000000 with
 |false=>rw[hr] at hz;simp at hz
 |true=>
  rw[hr] at hz
  have:=gX hr
  have h7:(128:Int)^(5+1)=4398046511104:=by decide
  exact aNa 5 n this.1 (by omega) z hz
def Rh (l:List Int):∀z∈eU l,0<=z/\z<=255:=λz hz=>by
 unfold eU at hz
 obtain⟨x,hx,hz⟩:=ip.1 hz
 obtain⟨n,_,rfl⟩:=bo.1 hx
 exact aTl n z hz
def kL {b:D.aAC}(h:aI b=true):b.Entries.length<=20:=by
 simp only[aI,aa,cW] at h;omega
def Yl (b:D.aAC):aQ (jZ b):=by
 unfold jZ
 cases hb:aI b with
 |false=>exact⟨by simp,rfl⟩
 |true=>
  have:=kL hb
  have h1:=Yj (lK b)
  have h2:(lK b).length=1+4*b.Entries.length:=by simp[lK,oJ];omega
  exact aG1 (by rw[ae];omega) (Rh _)
def bAw (d:List Int):(vW d).1.sz<=20:=by
 have h0:(D.aAC.mk []).sz<=20:=by simp[D.aAC.sz]
 unfold vW
 cases !(rR d 0).2.2||decide ((rR d 0).1>20) with
 |true=>exact h0
 |false=>
  rw[ac]
  generalize iB d (4*(rR d 0).1).toNat (rR d 0).2.1 []=v
  unfold aRh
  cases hb:aI ⟨jG v.1⟩ with
  |false=>simp only[eJ,Bool.or_true,ae];exact h0
  |true=>
   have:=kL hb
   cases !v.2.2||(v.2.1 !=(d.length:Int)||(!iL v.1|| !true)) with
   |true=>exact h0
   |false=>simp only[ac,D.aAC.sz] at*;omega
def aNb (k:Int)(s:D.aAA):(fK k s).1.sz<=20:=by
 unfold fK
 cases !(bB k&&(bE s.Epoch 0 1000000&&bE s.Version 0 1000000))||s.MAC !=fC k s with
 |true=>simp[D.aAC.sz]
 |false=>exact bAw _
def aXu {a b:D.aAC}(h:(fJ a b).2=true):(fJ a b).1.sz<=20:=by
 unfold fJ at*
 cases hc:aI a&&aI b with
 |false=>rw[hc] at h;cases h
 |true=>
  rw[hc] at h
  cases hm:aI ⟨cK a.Entries b.Entries⟩ with
  |false=>rw[hm] at h;cases h
  |true=>have:=kL hm;simp only[ae,D.aAC.sz];omega
def jM (d:D.Device)(log:List D.aAB)(bx:D.aAD)(s:D.aAA):Int:=
 bif !aV log|| !bS log d.Log then 1 else bif !fM (aB log) (bC d.Store) then 2 else bif bx.Epoch !=aJ log|| !(bF d.Store bx).2 then 3
 else bif decide (s.Epoch<aJ log)||(decide (s.Epoch<d.Epoch)||(s.Epoch==d.Epoch&&decide (s.Version<d.Version))) then 4
 else bif !(fK (bF d.Store bx).1 s).2|| !(fJ d.aAC (fK (bF d.Store bx).1 s).1).2 then 5 else 0
def bW (d:D.Device)(log:List D.aAB)(bx:D.aAD)(s:D.aAA):D.Device×Int:=
 bif jM d log bx s==0 then(⟨d.Store,log,(bF d.Store bx).1,s.Epoch,s.Version,(fJ d.aAC (fK (bF d.Store bx).1 s).1).1⟩,0) else(d,jM d log bx s)
def vX (w:D.World)(d b:Int):D.World×Int:=bif eY w&&iA w d then({w with Devices:=w.Devices.set d.toNat (bW (jW w d) w.aAI.Log w.aAI.Boxes (lC w.aAI b).1).1},(bW (jW w d) w.aAI.Log w.aAI.Boxes (lC w.aAI b).1).2) else(w,1)
def Lr (w:D.World)(d:Int):Bool:=w.Stolen.getD d.toNat false
def aTm (d:D.Device)(l:List D.aAB)(bx:D.aAD)(s:D.aAA):(bW d l bx s).1.sz<=d.sz+l.length+20:=by
 unfold bW
 cases hc:jM d l bx s==0 with
 |false=>simp only[ac];omega
 |true=>
  have hm:(fJ d.aAC (fK (bF d.Store bx).1 s).1).2=true:=by
   cases hm:(fJ d.aAC (fK (bF d.Store bx).1 s).1).2 with
   |true=>rfl
   |false=>
    unfold jM at hc
    rw[hm] at hc
    revert hc
    cases !aV l|| !bS l d.Log<;>cases !fM (aB l) (bC d.Store)<;>cases bx.Epoch !=aJ l|| !(bF d.Store bx).2<;>cases decide (s.Epoch<aJ l)||(decide (s.Epoch<d.Epoch)||(s.Epoch==d.Epoch&&decide (s.Version<d.Version)))<;>cases !(fK (bF d.Store bx).1 s).2<;>simp
  have:=aXu hm
  simp only[ae,D.Device.sz,D.aAC.sz] at*;omega
def aRi (k:Int)(i:Nat)(z:Int):Int:=IntKind.u8.wrap ((z+aX k [(i:Int)])%256)
def iW (k:Int)(b:List Int):List Int:=Eu (λi z=>[aRi k i z]) 0 b
def kZ (k e v:Int)(b:D.aAC):D.aAA:=⟨e,v,iW (iU k e v) (jZ b),fC k ⟨e,v,iW (iU k e v) (jZ b),0⟩⟩
def mR (k e v:Int)(b:D.aAC):D.aAA×Bool:=bif bB k&&(bE e 0 1000000&&bE v 0 1000000)&&aI b then(kZ k e v b,true) else(⟨0,0,[],0⟩,false)
def gQ (d:D.Device):D.Device×D.aAA×Bool:=bif (mR d.Key d.Epoch (IntKind.i64.wrap (d.Version+1)) d.aAC).2 then({d with Version:=IntKind.i64.wrap (d.Version+1)},(mR d.Key d.Epoch (IntKind.i64.wrap (d.Version+1)) d.aAC).1,true) else(d,⟨0,0,[],0⟩,false)
def oK (a b:D.aAA):Bool:=decide (a.Epoch>b.Epoch)||(a.Epoch==b.Epoch&&decide (a.Version>b.Version))
def dO (c:D.aAI)(s:D.aAA):D.aAI×Bool:=bif s.Epoch !=aJ c.Log||((decide ((c.History.length:Int)>0)&& !oK s (c.History.getD (c.History.length-1) default))||decide ((c.History.length:Int)>=60)) then(c,false) else({c with History:=c.History++[s]},true)
def upF (w:D.World)(d:Int):D.World×Bool:=bif (gQ (jW w d)).2.2&&(dO w.aAI (gQ (jW w d)).2.1).2 then({w with Devices:=w.Devices.set d.toNat (gQ (jW w d)).1,aAI:=(dO w.aAI (gQ (jW w d)).2.1).1},true) else(w,false)
def bEy (w:D.World)(d:Int):D.World×Bool:=bif (vX w d 0).2==0&&(upF (vX w d 0).1 d).2 then((upF (vX w d 0).1 d).1,true) else(w,false)
def aNc (b:D.aAC):(jZ b).length<=500:=by
 unfold jZ
 cases hb:aI b with
 |false=>simp
 |true=>
  have:=kL hb
  have h1:=Yj (lK b)
  have h2:(lK b).length=1+4*b.Entries.length:=by simp[lK,oJ];omega
  rw[ae];omega
def Ia (k:Int)(b:List Int):(iW k b).length=b.length:=by unfold iW;exact mM
def aXv (k e v:Int)(b:D.aAC):(mR k e v b).1.Data.length<=500:=by
 unfold mR
 cases bB k&&(bE e 0 1000000&&bE v 0 1000000)&&aI b with
 |false=>simp
 |true=>simp only[ae,kZ,Ia];exact aNc b
def Ls (d:D.Device):(gQ d).1.sz=d.sz/\(gQ d).2.1.Data.length<=500:=by
 unfold gQ
 have:=aXv d.Key d.Epoch (IntKind.i64.wrap (d.Version+1)) d.aAC
 cases(mR d.Key d.Epoch (IntKind.i64.wrap (d.Version+1)) d.aAC).2 with
 |false=>exact⟨rfl,by simp⟩
 |true=>exact⟨rfl,this⟩
def Ri (c:D.aAI)(s:D.aAA):(dO c s).1.sz<=c.sz+1+s.Data.length/\(dO c s).1.Log=c.Log:=by
 unfold dO
 cases s.Epoch !=aJ c.Log||((decide ((c.History.length:Int)>0)&& !oK s (c.History.getD (c.History.length-1) default))||decide ((c.History.length:Int)>=60)) with
 |true=>exact⟨by simp only[ae];omega,rfl⟩
 |false=>refine⟨?_,rfl⟩;simp only[ac,D.aAI.sz,aw,cQ,fW,az,ce,bj,ey,dT,gr,D.aAA.sz];omega
def aG2 {α:Type}{f:α->Nat}:∀{l:List α} {i:Nat} {x:α} (hi:i<l.length),((l.set i x).map f).sum+f l[i]=(l.map f).sum+f x
 |y::l,0,x,_=>by simp only[List.set_cons_zero,bj,dT,List.getElem_cons_zero];omega
 |y::l,i+1,x,h=>by
  have:=aG2 (f:=f) (l:=l) (i:=i) (x:=x) (by simpa using h)
  simp only[hH,bj,dT,eK];omega
def bAx {k z:Int}(i:Nat)(h:0<=z/\z<=255):IntKind.u8.wrap ((IntKind.i64.wrap (IntKind.i64.wrap z+aX k [(i:Int)])).tmod 256)=aRi k i z:=by
 have:=jK k [(i:Int)]
 rw[aH (n:=z) (by omega) (by omega),aH (by omega) (by omega),cb (by omega)];rfl
def bAy {k z:Int}(i:Nat)(h:0<=z/\z<=255):IntKind.u8.wrap ((IntKind.i64.wrap (IntKind.i64.wrap z+(aX k [(i:Int)]).tmod 256)).tmod 256)=aRi k i z:=by
 have:=jK k [(i:Int)]
 rw[aH (n:=z) (by omega) (by omega),show(aX k [(i:Int)]).tmod 256=aX k [(i:Int)]%256 from cb this.1,aH (by omega) (by omega),cb (by omega),aRi]
 congr 1;omega
def aN (seed n:Int):D.aAH:=⟨1,n,aO seed [277,n],0⟩
def bQ (s:D.aAH):D.Device:=⟨s,[],0,0,0,⟨[]⟩⟩
def dQ (s:D.aAH)(n:ByteArray)(h:Int):Int:=aO s.Seed [179,aY n,h]
def eZ (s:D.aAH)(n:ByteArray)(h:Int):Int:=bP (dQ s n h)
def iC (s:D.aAH)(l:List Int):Int:=vV (eX s) l
def aRj (log:List D.aAB)(kind dev:Int)(s:D.aAH):D.aAB:=⟨(log.length:Int),kind,dev,bC s,eG log,0⟩
def aTn (log:List D.aAB)(kind dev:Int)(s:D.aAH):D.aAB:={aRj log kind dev s with Signature:=iC s [bJ (aRj log kind dev s)]}
def iM (log:List D.aAB)(kind dev:Int)(s:D.aAH):List D.aAB×Bool:=bif (decide ((log.length:Int)>0)&& !aV log)|| !aV (log++[aTn log kind dev s]) then(log,false) else(log++[aTn log kind dev s],true)
def fA (p e:Int)(d:List Int):D.Box:=⟨p,e,iW (dU (dL p) e) d,Ex (dU (dL p) e) ⟨p,e,iW (dU (dL p) e) d,0⟩⟩
def dM (p e:Int)(d:List Int):D.Box×Bool:=bif dL p==0||(!bB e||decide ((d.length:Int)>200)) then(⟨0,0,[],0⟩,false) else(fA p e d,true)
def dN (e:Int)(d:List Int):Nat->List Int->List D.Box×Bool
 |_,[]=>([],true)
 |i,p::l=>bif (dM p (IntKind.i64.wrap (e+(i:Int))) d).2&&(dN e d (i+1) l).2 then((dM p (IntKind.i64.wrap (e+(i:Int))) d).1::(dN e d (i+1) l).1,true) else([],false)
def bK (log:List D.aAB)(key eph:Int):D.aAD×Bool:=bif !aV log||(!bB key|| !(dN eph (eU [aJ log,key]) 0 (aB log)).2) then(⟨0,[]⟩,false) else(⟨aJ log,(dN eph (eU [aJ log,key]) 0 (aB log)).1⟩,true)
def iN (e:D.aAD)(d:Int):Int:=e.Boxes.foldl (λn b=>bif b.To==d then IntKind.i64.wrap (n+1) else n) 0
def fZ (e:D.aAD)(log:List D.aAB):Bool:=(e.Epoch==aJ log&&(e.Boxes.length:Int)==((aB log).length:Int))&&(aB log).all λd=>iN e d==1
def bHl (c:D.aAI)(log:List D.aAB)(e:D.aAD):D.aAI×Bool:=bif !aV log||(!bS log c.Log|| !fZ e log) then(c,false) else({c with Log:=log,Boxes:=e},true)
def Rj (h:Int)(l:List D.aAJ):Nat:=(l.takeWhile λc=>decide (c.Handle<h)).length
def R6 (l:List D.aAJ)(h p:Int):List D.aAJ:=l.take (Rj h l)++[⟨h,p,0,false⟩]++l.drop (Rj h l)
def dS (a:D.aAG)(h p:Int):D.aAG×Bool:=bif !aU a|| !aU {a with Credentials:=R6 a.Credentials h p} then(a,false) else({a with Credentials:=R6 a.Credentials h p},true)
def fG (s:D.Site)(id h p:Int):D.Site×Bool:=bif !cO s||decide (aL s id<0) then(s,false) else bif (dS (s.Accounts.getD (aL s id).toNat default) h p).2 then({s with Accounts:=s.Accounts.set (aL s id).toNat (dS (s.Accounts.getD (aL s id).toNat default) h p).1},true) else(s,false)
def bEz (l:List D.aAX):Nat:=bif l.any (λn=>n.Seen) then(l.takeWhile λn=> !n.Seen).length else 0
def bE0 (l:List D.aAX):List D.aAX:=bif decide ((l.length:Int)>30) then l.take (bEz l)++l.drop (bEz l+1) else l
def bI5 (m:D.aAM)(k a t:Int):D.aAM×Bool:=bif !rT m|| !rT ⟨bE0 (m.Notices++[⟨k,a,t,false⟩])⟩ then(m,false) else(⟨bE0 (m.Notices++[⟨k,a,t,false⟩])⟩,true)
def bAz (w:D.World)(by_ kind pub:Int)(key:List D.aAB->Int):D.World×Bool:=
 let l:=iM w.aAI.Log kind pub (jW w by_).Store
 let e:=bK l.1 (key l.1) (IntKind.i64.wrap (1000+IntKind.i64.wrap (10*(l.1.length:Int))))
 let c:=bHl w.aAI l.1 e.1
 bif l.2&&(e.2&&c.2) then({w with aAI:=c.1},true) else(w,false)
def aTo (log:List D.aAB)(k d:Int)(s:D.aAH):(iM log k d s).1.length<=log.length+1:=by
 unfold iM
 cases(decide ((log.length:Int)>0)&& !aV log)|| !aV (log++[aTn log k d s])<;>simp
def aTp (p e:Int)(d:List Int):(dM p e d).1.sz<=d.length:=by
 unfold dM
 cases dL p==0||(!bB e||decide ((d.length:Int)>200)) with
 |true=>simp[D.Box.sz]
 |false=>simp only[ac,fA,D.Box.sz,Ia];exact ak _
def aRk {e:Int}{d:List Int}:∀{i:Nat} {l:List Int},(dN e d i l).1.length<=l.length/\((dN e d i l).1.map D.Box.sz).sum<=l.length*d.length
 |i,[]=>by simp[dN]
 |i,p::l=>by
  have h1:=aRk (e:=e) (d:=d) (i:=i+1) (l:=l)
  have h2:=aTp p (IntKind.i64.wrap (e+(i:Int))) d
  unfold dN
  cases(dM p (IntKind.i64.wrap (e+(i:Int))) d).2&&(dN e d (i+1) l).2 with
  |false=>simp
  |true=>simp only[ae,az,bj,dT,de];omega
def aRl (a b:Int):(eU [a,b]).length<=12:=Yj [a,b]
def aXw (log:List D.aAB)(k e:Int):(bK log k e).1.sz<=13*log.length:=by
 unfold bK
 have h1:=aRk (e:=e) (d:=eU [aJ log,k]) (i:=0) (l:=aB log)
 have h2:=eD log
 have h3:=aRl (aJ log) k
 have h4:=fh (aB log).length h3
 cases !aV log||(!bB k|| !(dN e (eU [aJ log,k]) 0 (aB log)).2) with
 |true=>simp[D.aAD.sz]
 |false=>simp only[ac,D.aAD.sz];omega
def aRm (l:List D.aAJ)(h p:Int):(R6 l h p).length=l.length+1:=by
 simp only[R6,aw,ci,cp,dw];omega
def aTq (a:D.aAG)(h p:Int):(dS a h p).1.sz<=a.sz+1:=by
 unfold dS
 cases !aU a|| !aU {a with Credentials:=R6 a.Credentials h p} with
 |true=>simp only[ae];omega
 |false=>simp only[ac,D.aAG.sz,aRm];exact ak _
def aCn {α:Type}{p:α->Bool}{i:Nat}{l:List α}(h:decide (iP p i l<0)=false):(i:Int)<=iP p i l/\iP p i l<i+l.length:=by
 induction l generalizing i with
 |nil=>simp[iP] at h
 |cons x l ih=>
  unfold iP at h ⊢
  cases hp:p x with
  |true=>simp only[ae,az];omega
  |false=>
   rw[hp] at h
   have:=ih (i:=i+1) h
   simp only[ac,az];omega
def aXx (s:D.Site)(id h p:Int):(fG s id h p).1.sz<=s.sz+1:=by
 unfold fG
 cases hc: !cO s||decide (aL s id<0) with
 |true=>simp only[ae];omega
 |false=>
  rw[bv] at hc
  have hr:=aCn hc.2
  simp only[ac]
  cases(dS (s.Accounts.getD (aL s id).toNat default) h p).2 with
  |false=>simp only[ac];omega
  |true=>
   have hi:(aL s id).toNat<s.Accounts.length:=by unfold aL;omega
   have h1:=aG2 (f:=D.aAG.sz) (l:=s.Accounts) (i:=(aL s id).toNat) (x:=(dS (s.Accounts.getD (aL s id).toNat default) h p).1) hi
   have h2:=aTq (s.Accounts.getD (aL s id).toNat default) h p
   have e:s.Accounts.getD (aL s id).toNat default=s.Accounts[(aL s id).toNat]:=by simp[List.getD,ab hi]
   rw[e] at h1 h2 ⊢
   simp only[ae,D.Site.sz,bq];omega
def appW (w:D.World)(x:D.Device):D.World:={w with Devices:=w.Devices++[x],Stolen:=w.Stolen++[false]}
def bI6 (d:D.Device)(h:Int)(rm:Bool):D.Device:=(eH (eH d (aC 0) h rm).1 (aC 1) h rm).1
def aTr (st:D.aAH)(n:Int):Nat->List D.Site->List D.Site×Bool
 |_,[]=>([],true)
 |j,s::l=>bif (fG s 1 n (eZ st (aC (j:Int)) n)).2&&(aTr st n (j+1) l).2 then((fG s 1 n (eZ st (aC (j:Int)) n)).1::(aTr st n (j+1) l).1,true) else([],false)
def aVw (w:D.World)(k:Int):D.World:={w with Mail:=(bI5 w.Mail k 1 w.Now).1}
def add1 (w:D.World)(b:Int):D.World×Bool:=bAz (vX w b 0).1 b 1 (bC (aN w.Seed (w.Devices.length:Int))) λ_=>(jW (vX w b 0).1 b).Key
def bI7 (w:D.World)(b:Int):List D.Site×Bool:=aTr (aN w.Seed (w.Devices.length:Int)) (w.Devices.length:Int) 0 (add1 w b).1.Sites
def bI8 (w:D.World)(b:Int):D.World×Bool:=bEy {(add1 w b).1 with Sites:=(bI7 w b).1,Devices:=(add1 w b).1.Devices.set b.toNat (bI6 (jW (add1 w b).1 b) (w.Devices.length:Int) false)} b
def bI9 (w:D.World)(b:Int):D.World×Int:=vX (appW (bI8 w b).1 (bQ (aN w.Seed (w.Devices.length:Int)))) (w.Devices.length:Int) 0
def bJa (w:D.World)(b:Int):Bool:=(eY w&&(iA w b&&(!Lr w b&& !decide ((w.Devices.length:Int)>=6))))&&((vX w b 0).2==0&&((add1 w b).2&&((bI7 w b).2&&((bI8 w b).2&&(bI9 w b).2==0))))
def bDv (w:D.World)(b:Int):D.World×Bool:=bif bJa w b then(aVw (bI9 w b).1 2,true) else(w,false)
def aNd {α:Type}{p:α->Bool}:∀{l:List α} {i:Nat} (hi:i<l.length),i<(l.takeWhile p).length->p l[i]=true
 |x::l,0,_,h=>by
  simp only[df] at h
  cases hp:p x with
  |true=>exact hp
  |false=>rw[hp] at h;simp at h
 |x::l,i+1,hi,h=>by
  simp only[df] at h
  cases hp:p x with
  |true=>
   have h':i<(l.takeWhile p).length:=by simpa[hp] using h
   exact aNd (l:=l) (i:=i) (by simpa using hi) h'
  |false=>rw[hp] at h;simp at h
def aNe {α:Type}{p:α->Bool}:∀{l:List α} (h:(l.takeWhile p).length<l.length),p (l[(l.takeWhile p).length]'h)=false
 |x::l,h=>by
  cases hp:p x with
  |true=>
   have h':(l.takeWhile p).length<l.length:=by simpa[df,hp] using h
   simpa[df,hp] using aNe h'
  |false=>simp[df,hp]
def Ib {α:Type}{p:α->Bool}{l:List α}:(l.takeWhile p).length<=l.length:=(List.takeWhile_prefix p).length_le
def aNf {α τ S:Type}{l:List α}(p:α->Bool)(fin:Nat->Option τ)(e:Nat->S){F:(S->Option τ)->S->Option τ}(hl:l.length<=34359738368)
  (hF:∀rec i (hi:i<l.length),F rec (e i)=bif p l[i] then rec (e (i+1)) else fin i) (hE:∀rec,F rec (e l.length)=fin l.length):EV.bO FUEL F (e 0)=fin (l.takeWhile p).length:=by
 have go:∀(k i n:Nat),i+k=(l.takeWhile p).length->k<n->EV.bO n F (e i)=fin (l.takeWhile p).length:=by
  intro k
  induction k with
  |zero=>
   intro i n hi hn
   obtain⟨n,rfl⟩:∃m,n=m+1:=⟨n-1,by omega⟩
   have:i=(l.takeWhile p).length:=by omega
   subst this
   rw[iT]
   by_cases h:(l.takeWhile p).length<l.length
   ·rw[hF _ _ h,aNe h,ac]
   ·have h2:(l.takeWhile p).length=l.length:=by have:=Ib (p:=p) (l:=l);omega
    rw[h2,hE]
  |succ k ih=>
   intro i n hi hn
   obtain⟨n,rfl⟩:∃m,n=m+1:=⟨n-1,by omega⟩
   have h1:i<l.length:=by have:=Ib (p:=p) (l:=l);omega
   rw[iT,hF _ _ h1,aNd (p:=p) h1 (by omega),ae]
   exact ih (i+1) n (by omega) (by omega)
 have:=Ib (p:=p) (l:=l)
 exact go (l.takeWhile p).length 0 FUEL (by omega) (by have:=fP;omega)
def R7 {e:Int}{d:List Int}{l:List Int}{τ:Type}{x:τ}{F:(List D.Box×Nat->Option (τ⊕List D.Box))->List D.Box×Nat->Option (τ⊕List D.Box)}
  (hF:∀rec i s (hi:i<l.length),s.length<=i->F rec (s,i)=bif !(dM l[i] (IntKind.i64.wrap (e+(i:Int))) d).2 then some (.inl x) else rec (s++[(dM l[i] (IntKind.i64.wrap (e+(i:Int))) d).1],i+1)) (hE:∀rec s,F rec (s,l.length)=some (.inr s)):
  ∀(k i n:Nat) (s:List D.Box),i+k=l.length->k<n->s.length<=i->EV.bO n F (s,i)=some (bif (dN e d i (l.drop i)).2 then .inr (s++(dN e d i (l.drop i)).1) else .inl x)
 |0,i,n+1,s,h,_,_=>by
  have:i=l.length:=by omega
  subst this
  rw[iT,hE,di];simp[dN]
 |k+1,i,n+1,s,h,hn,hs=>by
  have hi:i<l.length:=by omega
  rw[iT,hF _ i s hi hs,cj hi,dN]
  cases hb:(dM l[i] (IntKind.i64.wrap (e+(i:Int))) d).2 with
  |false=>rfl
  |true=>
   rw[bl,ac,R7 hF hE k (i+1) n _ (by omega) (by omega) (by simp;omega)]
   cases(dN e d (i+1) (l.drop (i+1))).2<;>simp
def aRn {e:Int}{d:List Int}{i:Nat}{l:List Int}(h:(dN e d i l).2=false):dN e d i l=([],false):=by
 cases l with
 |nil=>cases h
 |cons p l=>
  unfold dN at*
  cases hc:(dM p (IntKind.i64.wrap (e+(i:Int))) d).2&&(dN e d (i+1) l).2 with
  |true=>rw[hc] at h;cases h
  |false=>rfl
def bA0 {s:D.Site}{i:Int}(hz:s.sz<=34359738300)(h:decide (aL s i<0)=false):aZ s.Accounts (aL s i)=some (s.Accounts.getD (aL s i).toNat default)/\(s.Accounts.getD (aL s i).toNat default).sz<=34359738300/\(aL s i).toNat<s.Accounts.length:=by
 have hr:=aCn (p:=λa:D.aAG=>a.Id==i) (i:=0) (l:=s.Accounts) h
 have hi:(aL s i).toNat<s.Accounts.length:=by unfold aL;omega
 have h1:=aOv (f:=D.aAG.sz) hi
 refine⟨Yi (by unfold aL;omega) (by unfold aL;omega),?_,hi⟩
 simp only[D.Site.sz] at hz;omega
def kM (d:D.Device)(log:List D.aAB)(key:Int):D.Device×Bool:=bif !aV log||(!bS log d.Log||(decide (aJ log<d.Epoch)|| !bB key)) then(d,false) else({d with Log:=log,Key:=key,Epoch:=aJ log,Version:=0},true)
def eP (a:D.aAG)(h:Int):Int:=iP (λc=>c.Handle==h) 0 a.Credentials
def sZ (a:D.aAG)(k:Int):D.aAJ:=a.Credentials.getD k.toNat default
def bA1 (a:D.aAG)(h:Int):D.aAG×Bool:=bif !aU a||(decide (eP a h<0)||(sZ a (eP a h)).Cut) then(a,false) else({a with Credentials:=a.Credentials.set (eP a h).toNat {sZ a (eP a h) with Cut:=true}},true)
def R8 (s:D.Site)(k:Int):D.aAG:=s.Accounts.getD k.toNat default
def bDw (h:Int)(s:D.Site):D.Site:=bif decide (aL s 1>=0) then {s with Accounts:=s.Accounts.set (aL s 1).toNat (bA1 (R8 s (aL s 1)) h).1} else s
def bH (s e:Int):Int:=aO s [233,e]
def aVx (s:D.aAH)(l:List D.aAB):Int:=bH (aO s.Seed [311]) (aJ l)
def aXy (w:D.World)(b:Int):D.World:=(vX w b 0).1
def bJb (w:D.World)(b t:Int):List D.aAB:=(iM (aXy w b).aAI.Log 2 (bC (jW w t).Store) (jW (aXy w b) b).Store).1
def bDx (w:D.World)(b t:Int):D.World×Bool:=bAz (aXy w b) b 2 (bC (jW w t).Store) (aVx (jW (aXy w b) b).Store)
def bJc (w:D.World)(b t:Int):D.Device×Bool:=kM (jW (aXy w b) b) (bJb w b t) (aVx (jW (aXy w b) b).Store (bJb w b t))
def bK8 (w:D.World)(b t:Int):D.World:={(bDx w b t).1 with Devices:=(bDx w b t).1.Devices.set b.toNat (bI6 (bJc w b t).1 t true),Sites:=(bDx w b t).1.Sites.map (bDw t)}
def bJd (w:D.World)(b t:Int):D.World×Bool:=upF (bK8 w b t) b
def bDy (w:D.World)(b t:Int):D.World×Bool:=bif (bDx w b t).2&&((bJc w b t).2&&(bJd w b t).2) then(aVw (bJd w b t).1 4,true) else(w,false)
def bDz (w:D.World)(b t:Int):D.World×Bool:=bif (vX w b 0).2==0&&(!Lr w b&&(!(b==t)&&jX w t)) then bDy w b t else(w,false)
def bA2 (d:D.Device)(l:List D.aAB)(k:Int):(kM d l k).1.sz<=d.sz+l.length:=by
 unfold kM
 cases !aV l||(!bS l d.Log||(decide (aJ l<d.Epoch)|| !bB k)) with
 |true=>simp only[ae];omega
 |false=>simp only[ac,D.Device.sz];omega
--needs aAT aAV aAL
def Ic (b:D.aAE)(id:Int):Int:=aX b.Seed [197,id]
def aVy (b:D.aAE)(acc now:Int):D.aAL:=⟨b.Next,acc,IntKind.i64.wrap (now+5)⟩
def aG3 (b:D.aAE)(acc now:Int):D.aAE×D.aAL×Bool:=bif gP b&&(!(b.Next==1000000)&&(bE acc 0 1000000&&bE now 0 1000000)) then(⟨b.Seed,IntKind.i64.wrap (b.Next+1),(bif decide ((b.Open.length:Int)>=16) then b.Open.drop 1 else b.Open)++[aVy b acc now]⟩,aVy b acc now,true) else(b,⟨0,0,0⟩,false)
def yY (b:D.aAE)(id:Int):Int:=iP (λc=>c.Id==id) 0 b.Open
def bA3 (b:D.aAE)(k:Int):D.aAL:=b.Open.getD k.toNat default
def aRo (b:D.aAE)(id acc now:Int):D.aAE×Bool:=bif !gP b||decide (yY b id<0) then(b,false) else(⟨b.Seed,b.Next,b.Open.take (yY b id).toNat++b.Open.drop ((yY b id).toNat+1)⟩,(bA3 b (yY b id)).aAG==acc&&decide (now<=(bA3 b (yY b id)).Until))
def bHm (s:D.Site)(id now:Int):D.Site×Int×Int×Bool:=bif cO s&&(!decide (aL s id<0)&&(aG3 s.Book id now).2.2) then({s with Book:=(aG3 s.Book id now).1},(aG3 s.Book id now).2.1.Id,Ic (aG3 s.Book id now).1 (aG3 s.Book id now).2.1.Id,true) else(s,0,0,false)
def bA4 (s:D.aAH):Bool:=bE s.Vendor 1 9&&(bE s.Serial 0 1000000&&(bB s.Seed&&bE s.Counter 0 1000000))
def bE1 (s:D.aAH):D.aAH:={s with Counter:=IntKind.i64.wrap (s.Counter+1)}
def aFg (s:D.aAH)(site:ByteArray)(h:Int)(m:List Int):D.aAH×Int×Bool:=bif bA4 s&& !(s.Counter==1000000) then(bE1 s,vV (dQ s site h) (m++[(bE1 s).Counter]),true) else(s,0,false)
def tC (a:D.aAT):List Int:=[199,aY a.Site,lJ 211 a.aAV,a.aAL,a.Handle,bif a.Present then 1 else 0]
def aVz (j:Int):D.aAV:=⟨true,⟨#[119,119,119,46]⟩++aC j,443⟩
def aTs (j:Int):D.aAV:=⟨true,⟨#[108,111,103,105,110,46]⟩++aC j++⟨#[46,101,118,105,108,46,110,101,116]⟩,443⟩
def bE2 (j:Int):D.aAV:=⟨true,aC j,443⟩
def bJe (k:Nat):D.aAV:=match k with|0=>aVz 0|1=>aVz 1|2=>bE2 0|3=>bE2 1|4=>aTs 0|_=>aTs 1
def bJf:List UInt8->List UInt8->Bool
 |[],b=>b==[]
 |x::a,b=>b==x::a||bJf a b
def bD0 (o:D.aAV)(z:ByteArray):Bool:=bJf (46::o.Host.data.toList) (46::z.data.toList)
def bE3 (o:D.aAV)(s:ByteArray):Prop:=(∃k:Nat,k<6/\o=bJe k)/\∃j:Int,(j=0\/j=1)/\s=aC j
noncomputable instance (o:D.aAV) (s:ByteArray):Decidable (bE3 o s):=Classical.propDecidable _
def bE4 (o:D.aAV):Prop:=∃k:Nat,k<6/\o=bJe k
def bE4.p {o:D.aAV}(h:bE4 o){j:Int}(hj:j=0\/j=1):bE3 o (aC j):=⟨h,j,hj,rfl⟩
def bA5 (o:D.aAV):ByteArray:=⟨#[104,116,116,112,115,58,47,47]⟩++o.Host
def bA6 (s:D.aAH)(o:D.aAV)(site:ByteArray)(h ch:Int)(p:Bool):D.aAT:=⟨site,bA5 o,ch,h,p,0,0⟩
def bHn:D.aAT:=⟨⟨#[]⟩,⟨#[]⟩,0,0,false,0,0⟩
def bD1 (s:D.aAH)(o:D.aAV)(site:ByteArray)(h ch:Int)(p:Bool):D.aAH×D.aAT×Bool:=bif bD0 o site&&(aFg s site h (tC (bA6 s o site h ch p))).2.2 then((aFg s site h (tC (bA6 s o site h ch p))).1,{bA6 s o site h ch p with Counter:=(aFg s site h (tC (bA6 s o site h ch p))).1.Counter,Signature:=(aFg s site h (tC (bA6 s o site h ch p))).2.1},true) else(s,bHn,false)
def aG4 (pub:Int)(a:D.aAT)(site:ByteArray)(ch cnt:Int):Int:=bif !(a.Site.toList==site.toList) then 1 else bif !a.Present then 2 else bif !(a.aAL==ch) then 3 else bif !fQ pub (tC a++[a.Counter]) a.Signature then 5 else bif decide (a.Counter<=cnt) then 4 else 0
def aOz (a:D.aAG)(x:D.aAT)(site:ByteArray)(ch:Int):D.aAG×Int:=bif !aU a||(decide (eP a x.Handle<0)||(sZ a (eP a x.Handle)).Cut) then(a,5) else({a with Credentials:=bif aG4 (sZ a (eP a x.Handle)).Public x site ch (sZ a (eP a x.Handle)).Counter==0 then a.Credentials.set (eP a x.Handle).toNat {sZ a (eP a x.Handle) with Counter:=x.Counter} else bif aG4 (sZ a (eP a x.Handle)).Public x site ch (sZ a (eP a x.Handle)).Counter==4 then a.Credentials.set (eP a x.Handle).toNat {sZ a (eP a x.Handle) with Cut:=true} else a.Credentials},aG4 (sZ a (eP a x.Handle)).Public x site ch (sZ a (eP a x.Handle)).Counter)
def bD2 (a:D.aAG)(m:Int):Bool:=aU a&&(decide (a.Minimum<=m)&&(decide (m<=3)&&(!(m==3)||a.Credentials.any λc=> !c.Cut)))
def bD3 (s:D.Site)(id ch now:Int)(a:D.aAT):D.Site×Int×Int:=bif !cO s||decide (aL s id<0) then(s,1,0) else bif !(aRo s.Book ch id now).2 then({s with Book:=(aRo s.Book ch id now).1},2,0) else bif !bD2 (R8 s (aL s id)) 3 then({s with Book:=(aRo s.Book ch id now).1},3,0) else bif !((aOz (R8 s (aL s id)) a s.Name (Ic s.Book ch)).2==0) then({s with Book:=(aRo s.Book ch id now).1,Accounts:=s.Accounts.set (aL s id).toNat (aOz (R8 s (aL s id)) a s.Name (Ic s.Book ch)).1},4,(aOz (R8 s (aL s id)) a s.Name (Ic s.Book ch)).2) else({s with Book:=(aRo s.Book ch id now).1,Accounts:=s.Accounts.set (aL s id).toNat (aOz (R8 s (aL s id)) a s.Name (Ic s.Book ch)).1,Logins:=s.Logins++[id]},0,0)
def bHo (w:D.World)(j:Int):D.Site:=w.Sites.getD j.toNat default
def bD4 (w:D.World)(j:Int):D.Site×Int×Int×Bool:=bHm (bHo w j) 1 w.Now
def bD5 (w:D.World)(d j:Int)(o:D.aAV):D.aAH×D.aAT×Bool:=bD1 (jW w d).Store o (aC j) d (bD4 w j).2.2.1 true
def bJg (w:D.World)(d j:Int)(o:D.aAV):D.Site×Int×Int:=bD3 (bD4 w j).1 1 (bD4 w j).2.1 w.Now (bD5 w d j o).2.1
def bJh (w:D.World)(d j:Int)(o:D.aAV):D.World:={w with Devices:=w.Devices.set d.toNat {jW w d with Store:=(bD5 w d j o).1},Sites:=w.Sites.set j.toNat (bJg w d j o).1}
def aG5 (w:D.World)(d j:Int):Bool:=eY w&&(iA w d&&bAp w j)
def bA7 (w:D.World)(d j:Int)(o:D.aAV):D.World×D.aAT×Int:=bif !aG5 w d j then(w,bHn,1) else bif !(bD4 w j).2.2.2 then(w,bHn,1) else bif !((bJg w d j o).2.1==0) then(bJh w d j o,(bD5 w d j o).2.1,2) else(aVw (bJh w d j o) 1,(bD5 w d j o).2.1,0)
def aO0 (w:D.World)(d j:Int)(o:D.aAV):D.World×Int:=((bA7 w d j o).1,(bA7 w d j o).2.2)
def aV0 (w:D.World)(d j:Int):D.World×Int:=bif aG5 w d j&& !Lr w d then aO0 w d j (aVz j) else(w,1)
def aRp (m:Int):Nat->Int->Int->Int->Int
 |0,_,_,s=>s
 |k+1,b,n,s=>if n>0 then aRp m k ((IntKind.i64.wrap (b*b)).tmod m) (n/2) (bif n%2==1 then(IntKind.i64.wrap (s*b)).tmod m else s) else s
def Ie (x:Int):Bool:=bE x 1 2038&&aRp 2039 11 x 1019 1==1
def lD (g n:Int):Int:=bif Ie g then aRp 2039 11 g (dW n 1019) 1 else 0
def vY (l v:Int):Int:=lD 4 (IntKind.i64.wrap (1+((IntKind.i64.wrap (aX l [89,v]*aX l [89,v])).tmod 2147483647).tmod 1018))
def pF (s l i:Int):Int:=lD (vY l i) s
def lM (e l:Int):Int:=fI (aX e [157,l])
def Po (k m:Int):Int:=bif bE k 0 2147483647 then aNy .i64 k (aO m [251]) else 0
def vZ (o s:Int):Int:=aX o [257,s]
def jT (c:Int)(l:List Int)(n:Int):List D.aAN:=bif bE n 1 7&&decide ((l.length:Int)<n) then(List.range n.toNat).map λ(i:Nat)=>⟨(i:Int)+1,qO c l ((i:Int)+1)⟩ else[]
def wF (k:D.aAP):D.aAF:=⟨k,[],qM k⟩
def Lt (pin salt key secret limit:Int):Bool:=bE pin 0 9999&&(bE salt 0 1000000&&(bB key&&(!(dW secret 1019==0)&&bE limit 1 10)))
def mU (pin salt key secret:Int)(cs:List Int)(n limit:Int):D.aAQ×List D.aAF×Bool:=
 bif Lt pin salt key secret limit&& !((jT secret cs n).length==0) then(⟨salt,IntKind.i64.wrap ((cs.length:Int)+1),vZ (lM (pF secret salt pin) salt) salt,Po key (lM (pF secret salt pin) salt)⟩,(jT secret cs n).map (λs=>wF ⟨s,0,0,limit⟩),true) else(⟨0,0,0,0⟩,[],false)
def bT (log:List D.aAB)(bx:D.aAD):D.aAI×Bool:=bif aV log&&fZ bx log then(⟨log,bx,[]⟩,true) else(⟨[],⟨0,[]⟩,[]⟩,false)
def jH (id:Int)(l:List D.aAG):Nat:=(l.takeWhile λa=>decide (a.Id<id)).length
def iX (s:D.Site)(id m:Int):D.Site:={s with Accounts:=s.Accounts.take (jH id s.Accounts)++[⟨id,m,[]⟩]++s.Accounts.drop (jH id s.Accounts)}
def fO (s:D.Site)(id m:Int):D.Site×Bool:=bif cO s&&cO (iX s id m) then(iX s id m,true) else(s,false)
def pG (nm:ByteArray):Nat->List D.Device->D.Site->D.Site
 |_,[],s=>s
 |i,d::l,s=>pG nm (i+1) l (fG s 1 (i:Int) (eZ d.Store nm (i:Int))).1
def Ig (seed:Int)(l:List D.Device)(j:Int):D.Site:=pG (aC j) 0 l (fO (dB (aC j) (aO seed [281,j])) 1 3).1
def iY (l:List D.Device)(seed:Int):List D.Site:=[Ig seed l 0,Ig seed l 1]
def aM (seed:Int):Nat->List D.aAB
 |0=>[]
 |n+1=>(iM (aM seed n) 1 (bC (aN seed (n:Int))) (aN seed 0)).1
def aT (seed:Int)(n:Nat):List D.Device:=(List.range n).map λ(i:Nat)=>bQ (aN seed (i:Int))
def yZ (nm:ByteArray):Nat->D.Device->D.Device
 |0,d=>d
 |i+1,d=>(eH (yZ nm i d) nm (i:Int) false).1
def dF (seed:Int)(n:Nat):D.aAD:=(bK (aM seed n) (bH seed 0) 1000).1
def lF (seed:Int)(n:Nat)(d:D.Device):D.Device:=(kM d (aM seed n) (bH seed 0)).1
def fH (seed:Int)(n:Nat):D.Device:=yZ (aC 1) n (yZ (aC 0) n (lF seed n (bQ (aN seed 0))))
def Ey (seed:Int)(n:Nat):D.Device×D.aAA×Bool:=gQ (fH seed n)
def dZ (seed:Int)(n:Nat):D.aAI:=(dO (bT (aM seed n) (dF seed n)).1 (Ey seed n).2.1).1
def mV (seed:Int)(n:Nat)(d:D.Device):D.Device:=(bW (lF seed n d) (aM seed n) (dF seed n) (Ey seed n).2.1).1
def dR (seed:Int)(n:Nat):List D.Device:=(Ey seed n).1::((aT seed n).drop 1).map (mV seed n)
def oL (seed t:Int):List Int:=(List.range (t-1).toNat).map λ(k:Nat)=>aO seed [307,(k:Int)+1]
def pI (seed t pin k:Int):D.aAQ×List D.aAF×Bool:=mU pin 7 (aO seed [283]) (IntKind.i64.wrap (1+(aO seed [293]).tmod 1018)) (oL seed t) k 5
def Mc (n k t pin seed:Int):Bool:=bE n 1 3&&(bE k 1 7&&(bE t 1 k&&(bE pin 0 9999&&bB seed)))
def aO1:D.World:=⟨0,0,[],[],⟨[],⟨0,[]⟩,[]⟩,[],⟨0,0,0,0⟩,[],0,⟨[]⟩⟩
def aR (n k t pin seed:Int):D.World:=bif Mc n k t pin seed then⟨0,seed,dR seed n.toNat,List.replicate n.toNat false,dZ seed n.toNat,iY (aT seed n.toNat) seed,(pI seed t pin k).1,(pI seed t pin k).2.1,pin,⟨[]⟩⟩ else aO1
def aTt {l:List Int}(h:l.Nodup)(e:D.aAB):(gN l e).Nodup:=by
 unfold gN
 cases e.Kind==1 with
 |true=>
  simp only[ae]
  cases hc:l.contains e.Device with
  |true=>exact h
  |false=>
   simp only[ac]
   rw[cX]
   refine⟨h,by simp,λa ha b hb e'=> ?_⟩
   simp at hb;subst hb;subst e'
   have:l.contains e.Device=true:=by simpa using ha
   rw[hc] at this;cases this
 |false=>
  simp only[ac]
  cases e.Kind==2 with
  |true=>exact h.filter _
  |false=>exact h
def aTu (log:List D.aAB):(aB log).Nodup:=by
 have key:∀(l:List D.aAB) (s:List Int),s.Nodup->(l.foldl gN s).Nodup:=by
  intro l
  induction l with
  |nil=>exact λ_ h=>h
  |cons e l ih=>exact λs h=>ih _ (aTt h e)
 exact key log [] eW
def aRq {e:Int}{d:List Int}:∀{i:Nat} {l:List Int},(dN e d i l).2=true->(dN e d i l).1.map (λb=>b.To)=l
 |_,[],_=>rfl
 |i,p::l,h=>by
  simp only[dN] at h ⊢
  cases hc:(dM p (IntKind.i64.wrap (e+(i:Int))) d).2&&(dN e d (i+1) l).2 with
  |false=>rw[hc] at h;cases h
  |true=>
   rw[aa] at hc
   simp only[ae,bj,aRq hc.2]
   have:(dM p (IntKind.i64.wrap (e+(i:Int))) d).1.To=p:=by
    have h1:=hc.1
    unfold dM at h1 ⊢
    cases hq:dL p==0||(!bB (IntKind.i64.wrap (e+(i:Int)))||decide ((d.length:Int)>200)) with
    |true=>rw[hq] at h1;cases h1
    |false=>rfl
   rw[this]
def aNg:∀{l:List D.Box} {d:Int} {s:Int},(l.map λb=>b.To).Nodup->0<=s->s<1000->l.foldl (λn b=>bif b.To==d then IntKind.i64.wrap (n+1) else n) s=s+(if d∈l.map (λb=>b.To) then 1 else 0)
 |[],d,s,_,_,_=>by simp
 |b::l,d,s,h,h0,h1=>by
  rw[bj,cl] at h
  rw[cM]
  cases hc:b.To==d with
  |true=>
   have hd:b.To=d:=by simpa using hc
   have hn:d∉l.map (λb=>b.To):=hd▸h.1
   have hw:IntKind.i64.wrap (s+1)=s+1:=aH (by omega) (by omega)
   have key:∀(l:List D.Box) (s:Int),d∉l.map (λb=>b.To)->l.foldl (λn b=>bif b.To==d then IntKind.i64.wrap (n+1) else n) s=s:=by
    intro l
    induction l with
    |nil=>exact λ_ _=>rfl
    |cons x l ih=>
     intro s hx
     simp only[bj,ba,not_or] at hx
     have:(x.To==d)=false:=by simpa using λe=>hx.1 e.symm
     rw[cM,this,ac]
     exact ih s hx.2
   rw[ae,key l _ hn,hw,bj,cr (by simp[hd])]
  |false=>
   have hd:¬b.To=d:=by simpa using hc
   rw[ac,aNg h.2 h0 h1,bj]
   have:(d∈b.To::l.map λb=>b.To)↔d∈l.map λb=>b.To:=by rw[ba];exact⟨λh=>h.resolve_left λe=>hd e.symm, .inr⟩
   simp only[this]
def aKr {log:List D.aAB}{k e:Int}(h:(bK log k e).2=true):fZ (bK log k e).1 log=true:=by
 unfold bK at h ⊢
 cases hc: !aV log||(!bB k|| !(dN e (eU [aJ log,k]) 0 (aB log)).2) with
 |true=>rw[hc] at h;cases h
 |false=>
  simp only[bv,en] at hc
  have ht:=aRq hc.2.2
  have hl:=congrArg List.length ht
  rw[bc] at hl
  simp only[ac,fZ,iN,aa,cF,cw,hl,and_self,true_and,dg]
  intro d hd
  rw[aNg (by rw[ht];exact aTu log) (by omega) (by omega),ht,cr hd];rfl
def aXz {log:List D.aAB}{k e:Int}(h:(bK log k e).2=false):(bK log k e).1=⟨0,[]⟩:=by
 unfold bK at h ⊢
 cases hc: !aV log||(!bB k|| !(dN e (eU [aJ log,k]) 0 (aB log)).2) with
 |true=>rfl
 |false=>rw[hc] at h;cases h
def aNh {d:D.Device}{log:List D.aAB}{bx:D.aAD}{s:D.aAA}(h:(jM d log bx s==0)=false):(bW d log bx s).1=d:=by
 unfold bW;rw[h];rfl
def bA8 (d:D.Device)(bx:D.aAD)(s:D.aAA):(bW d [] bx s).1=d:=aNh rfl
def bHp (s:D.aAH):(bF s ⟨0,[]⟩).2=false:=rfl
def aTv {log:List D.aAB}{key e:Int}{s:D.aAA}(hs:s=⟨0,0,[],0⟩\/s.Epoch=aJ log)(d:D.Device):
  (bW d (dO (bT log (bK log key e).1).1 s).1.Log (dO (bT log (bK log key e).1).1 s).1.Boxes (lC (dO (bT log (bK log key e).1).1 s).1 0).1).1=(bW d log (bK log key e).1 s).1:=by
 cases hc:aV log&&fZ (bK log key e).1 log with
 |true=>
  have e1:(bT log (bK log key e).1).1=⟨log,(bK log key e).1,[]⟩:=by unfold bT;rw[hc];rfl
  rw[e1]
  cases hq:s.Epoch !=aJ log with
  |true=>
   have hs':s=⟨0,0,[],0⟩:=by
    rcases hs with h|h
    ·exact h
    ·rw[h] at hq;simp at hq
   have e2:(dO ⟨log,(bK log key e).1,[]⟩ s).1=⟨log,(bK log key e).1,[]⟩:=by
    unfold dO;rw[show(D.aAI.mk log (bK log key e).1 []).Log=log from rfl,hq];rfl
   rw[e2,hs'];rfl
  |false=>
   have e2:(dO ⟨log,(bK log key e).1,[]⟩ s).1=⟨log,(bK log key e).1,[s]⟩:=by
    unfold dO;rw[show(D.aAI.mk log (bK log key e).1 []).Log=log from rfl,hq];rfl
   rw[e2];rfl
 |false=>
  have e1:(bT log (bK log key e).1).1=⟨[],⟨0,[]⟩,[]⟩:=by unfold bT;rw[hc];rfl
  have e2:(dO (bT log (bK log key e).1).1 s).1.Log=[]:=by rw[(Ri _ _).2,e1]
  rw[e2,bA8]
  refine(aNh ?_).symm
  cases hl:aV log with
  |false=>simp only[jM,hl,eJ,Bool.true_or,ae];rfl
  |true=>
   rw[hl,dc] at hc
   have hm:(bK log key e).2=false:=by
    cases hm:(bK log key e).2 with
    |false=>rfl
    |true=>rw[aKr hm] at hc;cases hc
   rw[aXz hm]
   simp only[jM,hl,bHp,bl,cE,eJ,Bool.or_true,ae]
   cases !bS log d.Log with
   |true=>rfl
   |false=>
    simp only[ac]
    cases !fM (aB log) (bC d.Store)<;>rfl
def Ym (nm:ByteArray):∀(i:Nat) (d:D.Device),(yZ nm i d).sz<=d.sz+i
 |0,d=>ak _
 |i+1,d=>by have h1:=Ym nm i d;have h2:=aXt (yZ nm i d) nm (i:Int) false;show(eH (yZ nm i d) nm (i:Int) false).1.sz<=_;omega
def jN (seed:Int):∀n:Nat,(aM seed n).length<=n
 |0=>ak _
 |n+1=>by have h1:=jN seed n;have h2:=aTo (aM seed n) 1 (bC (aN seed (n:Int))) (aN seed 0);show(iM (aM seed n) 1 (bC (aN seed (n:Int))) (aN seed 0)).1.length<=_;omega
def Lu (seed:Int)(n:Nat)(d:D.Device):(lF seed n d).sz<=d.sz+n:=by
 have h1:=bA2 d (aM seed n) (bH seed 0);have h2:=jN seed n;show(kM d (aM seed n) (bH seed 0)).1.sz<=_;omega
def Lv (s:D.aAH):(bQ s).sz=0:=rfl
def Rk (seed:Int)(n:Nat):(fH seed n).sz<=3*n:=by
 have h1:=Ym (aC 1) n (yZ (aC 0) n (lF seed n (bQ (aN seed 0))))
 have h2:=Ym (aC 0) n (lF seed n (bQ (aN seed 0)))
 have h3:=Lu seed n (bQ (aN seed 0))
 rw[Lv] at h3
 unfold fH;omega
def Rl (seed:Int)(n:Nat):(dF seed n).sz<=13*n:=by
 have h1:=aXw (aM seed n) (bH seed 0) 1000;have h2:=jN seed n;unfold dF;omega
def Ih (log:List D.aAB)(bx:D.aAD):(bT log bx).1.sz<=log.length+bx.sz:=by
 unfold bT
 cases aV log&&fZ bx log with
 |true=>simp only[ae,D.aAI.sz,D.aAD.sz,ce,ey,gr];omega
 |false=>exact cn _
def Rm (seed:Int)(n:Nat):(dZ seed n).sz<=14*n+501:=by
 have h1:=(Ri (bT (aM seed n) (dF seed n)).1 (Ey seed n).2.1).1
 have h2:=Ih (aM seed n) (dF seed n)
 have h3:=Rl seed n
 have h4:=jN seed n
 have h5:=(Ls (fH seed n)).2
 have h5:(Ey seed n).2.1.Data.length<=500:=h5
 unfold dZ;omega
def aX0 (seed:Int)(n:Nat)(d:D.Device):(mV seed n d).sz<=d.sz+2*n+20:=by
 have h1:=aTm (lF seed n d) (aM seed n) (dF seed n) (Ey seed n).2.1
 have h2:=Lu seed n d
 have h3:=jN seed n
 unfold mV;omega
def aTw {α:Type}{f:α->Nat}{b:Nat}:∀{l:List α},(∀x∈l,f x<=b)->(l.map f).sum<=l.length*b
 |[],_=>cn _
 |x::l,h=>by
  have h1:=h x (by simp);have h2:=aTw (l:=l) (f:=f) (b:=b) λy hy=>h y (by simp[hy])
  simp only[bj,dT,az,de];omega
def Rn (nm:ByteArray):∀(i:Nat) (l:List D.Device) (s:D.Site),(pG nm i l s).sz<=s.sz+l.length
 |_,[],s=>ak _
 |i,d::l,s=>by
  have h1:=Rn nm (i+1) l (fG s 1 (i:Int) (eZ d.Store nm (i:Int))).1
  have h2:=aXx s 1 (i:Int) (eZ d.Store nm (i:Int))
  show(pG nm (i+1) l (fG s 1 (i:Int) (eZ d.Store nm (i:Int))).1).sz<=_
  rw[az];omega
def Ro (s:D.Site)(id m:Int):(fO s id m).1.sz<=s.sz+1:=by
 unfold fO
 cases cO s&&cO (iX s id m) with
 |false=>simp only[ac];omega
 |true=>
  have e:(s.Accounts.map D.aAG.sz).sum=((s.Accounts.take (jH id s.Accounts)).map D.aAG.sz).sum+((s.Accounts.drop (jH id s.Accounts)).map D.aAG.sz).sum:=by rw[<-fW,<-cQ,cy]
  have el:(s.Accounts.take (jH id s.Accounts)).length+(s.Accounts.drop (jH id s.Accounts)).length=s.Accounts.length:=by rw[<-aw,cy]
  simp only[ae,iX,D.Site.sz,aw,cQ,fW,az,ce,bj,ey,dT,gr,D.aAG.sz]
  omega
def Ii (nm:ByteArray)(s:Int):(dB nm s).sz<=nm.size:=by
 unfold dB
 cases fV nm s with
 |true=>simp[D.Site.sz]
 |false=>exact cn _
def aCo (seed:Int)(l:List D.Device)(j:Int):(Ig seed l j).sz<=l.length+101:=by
 have h1:=Rn (aC j) 0 l (fO (dB (aC j) (aO seed [281,j])) 1 3).1
 have h2:=Ro (dB (aC j) (aO seed [281,j])) 1 3
 have h3:=Ii (aC j) (aO seed [281,j])
 have h4:(aC j).size<=100:=by unfold aC;cases j==0<;>cases j==1<;>decide
 unfold Ig;omega
def R9 (c:Int)(l:List Int)(n:Int):(jT c l n).length<=7:=by
 unfold jT
 cases hc:bE n 1 7&&decide ((l.length:Int)<n) with
 |false=>exact cn _
 |true=>
  rw[aa] at hc
  have:=gX hc.1
  simp only[ae,bc,ez];omega
def aO2 (pin salt key secret:Int)(cs:List Int)(n limit:Int):(mU pin salt key secret cs n limit).2.1.length<=7/\((mU pin salt key secret cs n limit).2.1.map D.aAF.sz).sum=0:=by
 unfold mU
 cases Lt pin salt key secret limit&& !((jT secret cs n).length==0) with
 |false=>exact⟨cn _,rfl⟩
 |true=>
  refine⟨by simp only[ae,bc];exact R9 _ _ _,?_⟩
  have:=aTw (f:=D.aAF.sz) (b:=0) (l:=(jT secret cs n).map λs=>wF ⟨s,0,0,limit⟩) (λx hx=>by obtain⟨s,_,rfl⟩:=bo.1 hx;exact ak _)
  simp only[ae];omega
def aCp (n k t pin seed:Int):(aR n k t pin seed).sz<=100000:=by
 unfold aR
 cases hc:Mc n k t pin seed with
 |false=>exact cn _
 |true=>
  simp only[Mc,aa] at hc
  have hn:=gX hc.1
  obtain⟨N,hN⟩:∃N,N=n.toNat:=⟨_,rfl⟩
  have hN3:N<=3:=by omega
  have h1:=Ls (fH seed N)
  have h2:=Rk seed N
  have h3:=Rm seed N
  have h4:=aCo seed (aT seed N) 0
  have h5:=aCo seed (aT seed N) 1
  have h6:=aO2 pin 7 (aO seed [283]) (IntKind.i64.wrap (1+(aO seed [293]).tmod 1018)) (oL seed t) k 5
  have h7:(aT seed N).length=N:=by simp[aT]
  have h8:=aTw (f:=D.Device.sz) (b:=26) (l:=((aT seed N).drop 1).map (mV seed N)) (λx hx=>by
   obtain⟨d,hd,rfl⟩:=bo.1 hx
   have hd':=cY hd
   simp only[aT,bo] at hd'
   obtain⟨i,_,rfl⟩:=hd'
   have:=aX0 seed N (bQ (aN seed (i:Int)))
   rw[Lv] at this;omega)
  have h9:(Ey seed N).1.sz=(fH seed N).sz:=h1.1
  have h6':(pI seed t pin k).2.1.length<=7/\((pI seed t pin k).2.1.map D.aAF.sz).sum=0:=h6
  rw[bc,cp,h7] at h8
  simp only[ae,<-hN,D.World.sz,dR,iY,az,bc,cp,h7,bj,dT,ce,ey,gr,eV,h9]
  have h10:(dZ seed N).sz<=14*N+501:=h3
  have h11:(N-1)*26<=52:=ex 26 (show N-1<=2 by omega)
  simp only[D.aAI.sz,D.aAD.sz] at h10
  omega
def aX1 (d:D.Device)(n:ByteArray)(h:Int)(rm:Bool):(eH d n h rm).1.Key=d.Key/\(eH d n h rm).1.Epoch=d.Epoch:=by
 unfold eH
 cases(rW d n h rm).2<;>exact⟨rfl,rfl⟩
def aO3 (nm:ByteArray):∀(i:Nat) (d:D.Device),(yZ nm i d).Key=d.Key/\(yZ nm i d).Epoch=d.Epoch
 |0,d=>⟨rfl,rfl⟩
 |i+1,d=>by
  obtain⟨h1,h2⟩:=aO3 nm i d;obtain⟨h3,h4⟩:=aX1 (yZ nm i d) nm (i:Int) false
  exact⟨h3.trans h1,h4.trans h2⟩
def aTx (seed:Int)(n:Nat):(fH seed n).Key=(lF seed n (bQ (aN seed 0))).Key/\(fH seed n).Epoch=(lF seed n (bQ (aN seed 0))).Epoch:=by
 obtain⟨h1,h2⟩:=aO3 (aC 1) n (yZ (aC 0) n (lF seed n (bQ (aN seed 0))))
 obtain⟨h3,h4⟩:=aO3 (aC 0) n (lF seed n (bQ (aN seed 0)))
 exact⟨h1.trans h3,h2.trans h4⟩
def aTy {seed:Int}{n:Nat}(h:bB (lF seed n (bQ (aN seed 0))).Key=true):(lF seed n (bQ (aN seed 0))).Epoch=aJ (aM seed n):=by
 unfold lF kM at h ⊢
 cases hq: !aV (aM seed n)||(!bS (aM seed n) (bQ (aN seed 0)).Log||(decide (aJ (aM seed n)<(bQ (aN seed 0)).Epoch)|| !bB (bH seed 0))) with
 |true=>rw[hq] at h;exact absurd (show bB 0=true from h) (by decide)
 |false=>rfl
def aX2 (seed:Int)(n:Nat):(Ey seed n).2.1=⟨0,0,[],0⟩\/(Ey seed n).2.1.Epoch=aJ (aM seed n):=by
 obtain⟨k1,k2⟩:=aTx seed n
 unfold Ey gQ
 generalize fH seed n=d at k1 k2 ⊢
 cases hs:(mR d.Key d.Epoch (IntKind.i64.wrap (d.Version+1)) d.aAC).2 with
 |false=>exact .inl rfl
 |true=>
  refine .inr ?_
  simp only[ae]
  unfold mR at hs ⊢
  cases hc:bB d.Key&&(bE d.Epoch 0 1000000&&bE (IntKind.i64.wrap (d.Version+1)) 0 1000000)&&aI d.aAC with
  |false=>rw[hc] at hs;cases hs
  |true=>
   simp only[aa] at hc
   show d.Epoch=_
   rw[k2]
   exact aTy (k1▸hc.1.1)
def bD6 (seed:Int)(n:Nat)(d:D.Device):(bW (lF seed n d) (dZ seed n).Log (dZ seed n).Boxes (lC (dZ seed n) 0).1).1=mV seed n d:=aTv (aX2 seed n) (lF seed n d)
def bHq (f:Int->Int)(l:List Int)(j:Nat)(x:Int):Bool:=(l.take j).any λq=>f q==f x
def bD7 (s:D.aAN)(e:Int):Int:=bif Ie e&&(!(e==1)&&bE s.Value 0 1018) then lD e s.Value else 0
def aV1 (k:D.aAP)(e:Int):D.aAP×Int×Bool:=bif aM7 k&&(!(k.Guesses==k.Limit)&&(Ie e&& !(e==1))) then({k with Guesses:=IntKind.i64.wrap (k.Guesses+1)},bD7 k.aAN e,true) else(k,0,false)
def bK9 (l:List D.aAP):List D.aAP:=bif decide ((l.length:Int)>30) then l.drop 1 else l
def aRr (h:D.aAF)(e:Int):D.aAF×Int×Bool:=bif decide (qM h.State<h.Monotonic)|| !(aV1 h.State e).2.2 then(h,0,false) else(⟨(aV1 h.State e).1,bK9 (h.Saved++[h.State]),qM (aV1 h.State e).1⟩,(aV1 h.State e).2.1,true)
def bHr (l i b:Int):Int:=bif dW b 1019==0 then 0 else lD (vY l i) b
def bHs (hs:List D.aAF)(ch:List Int)(i:Nat)(c:Int):Bool:=(decide (c<0)||decide (c>=(hs.length:Int)))||bHq (λq=>q) ch i c
def bD8 (hs:List D.aAF)(ch:List Int):Bool:= !fD (bHs hs ch) 0 ch
def bLa (e:Int)(s:List D.aAF×List Int×List Int)(c:Int):List D.aAF×List Int×List Int:=
 (s.1.set c.toNat (aRr (s.1.getD c.toNat default) e).1,bif (aRr (s.1.getD c.toNat default) e).2.2 then s.2.1++[(aRr (s.1.getD c.toNat default) e).1.State.aAN.Index] else s.2.1,bif (aRr (s.1.getD c.toNat default) e).2.2 then s.2.2++[(aRr (s.1.getD c.toNat default) e).2.1] else s.2.2)
def bD9 (hs:List D.aAF)(ch:List Int)(e:Int):List D.aAF×List Int×List Int:=ch.foldl (bLa e) (hs,[],[])
def bE5 (n:Int):Int:=bif dW n 1019==0 then 0 else aRp 1019 11 (dW n 1019) 1017 1
def bLb (l:List Int)(k a w:Int)(j:Nat):Int:=bif (j:Int)==k then w else(IntKind.i64.wrap ((IntKind.i64.wrap (w*dW (IntKind.i64.wrap (dW a 1019-dW (l.getD j 0) 1019)) 1019)).tmod 1019*bE5 (IntKind.i64.wrap (dW (l.getD k.toNat 0) 1019-dW (l.getD j 0) 1019)))).tmod 1019
def bLc (l:List Int)(k a:Int):Int:=bif (decide (k<0)||decide (k>=(l.length:Int)))||fD (bHq (λq=>dW q 1019) l) 0 l then 0 else(List.range l.length).foldl (bLb l k a) 1
def bHt (a b:Int):Int:=bif Ie a&&Ie b then(IntKind.i64.wrap (a*b)).tmod 2039 else 0
def bEa (ix vs:List Int)(i:Nat)(x:Int):Bool:= !bE x 1 7||(!Ie (vs.getD i 0)||bHq (λq=>q) ix i x)
def bJi (ix vs:List Int):Int:=(List.range vs.length).foldl (λo i=>bHt o (lD (vs.getD i 0) (bLc ix (i:Int) 0))) 1
def bE6 (ix vs:List Int):Int×Bool:=bif (!(ix.length==vs.length)||ix.length==0)||fD (bEa ix vs) 0 ix then(0,false) else(bJi ix vs,true)
def bJj (c b:Int):Int:=bif dW b 1019==0 then 0 else lD c (bE5 b)
def bHu (v:D.aAQ)(o:Int):Int×Bool:=bif vZ o v.Salt==v.Check then(Po v.Masked o,true) else(0,false)
def Rp (v:D.aAQ)(hs:List D.aAF)(ch:List Int)(pin b:Int):List D.aAF×List Int×List Int:=bD9 hs ch (bHr v.Salt pin b)
def bLd (hs:List D.aAF)(ch:List Int)(pin b:Int):Bool:=bD8 hs ch&&(!(dW b 1019==0)&&bE pin 0 9999)
def bE7 (v:D.aAQ)(hs:List D.aAF)(ch:List Int)(pin b:Int):List D.aAF×Int×Bool:=
 bif !bLd hs ch pin b then(hs,0,false) else
 bif decide ((ch.length:Int)<v.Threshold)||(decide ((Rp v hs ch pin b).2.2.length<ch.length)|| !(bE6 (Rp v hs ch pin b).2.1 (Rp v hs ch pin b).2.2).2) then((Rp v hs ch pin b).1,0,false) else
  ((Rp v hs ch pin b).1,bHu v (lM (bJj (bE6 (Rp v hs ch pin b).2.1 (Rp v hs ch pin b).2.2).1 b) v.Salt))
def bE8 (w:D.World):Int:=IntKind.i64.wrap (1+(aO w.Seed [313,w.Now]).tmod 1018)
def aNi (w:D.World)(ch:List Int)(pin:Int):D.World×Int×Bool:=bif !eY w then(w,0,false) else
 (aVw {w with Hosts:=(bE7 w.aAQ w.Hosts ch pin (bE8 w)).1} 5,(bE7 w.aAQ w.Hosts ch pin (bE8 w)).2)
def bA9 (w:D.World):List Int:=(List.range (min w.aAQ.Threshold ((w.Hosts.length:Int)+1)).toNat).map λ(i:Nat)=>(i:Int)
def bEb (w:D.World)(pin:Int):D.World×Bool:=((aNi w (bA9 w) pin).1,(aNi w (bA9 w) pin).2.2)
def bHv {n:Int}:dW n 1019=n%1019:=cr (by decide)
structure AskIn (B:Nat) (hs:List D.aAF) (i:Nat) (s:List D.aAF×List Int×List Int):Prop where
 len:s.1.length=hs.length
 sz:∀h∈s.1,h.sz<=B+i
 eq:s.2.1.length=s.2.2.length
 le:s.2.2.length<=i
--needs aAT aAV aAL
def bHw (w:D.World)(d:Int):D.World×Bool:=bif aG5 w d 0&& !Lr w d then({w with Stolen:=w.Stolen.set d.toNat true},true) else(w,false)
def bEc (b:D.aAE)(now:Int):D.aAE:=bif gP b then {b with Open:=b.Open.filter λc=>decide (c.Until>=now)} else b
def bBa (w:D.World):D.World:={w with Now:=IntKind.i64.wrap (w.Now+1)}
def bJk (w:D.World):D.World×Bool:=bif eY (bBa w) then({bBa w with Sites:=w.Sites.map λs=>{s with Book:=bEc s.Book (bBa w).Now}},true) else(w,false)
def bBb (w:D.World)(d j:Int):D.World×Int:=bif aG5 w d j&&Lr w d then aO0 w d j (aVz j) else(w,1)
def bBc (w:D.World)(d j:Int):D.World×Int:=bif aG5 w d j&& !Lr w d then aO0 w d j (aTs j) else(w,1)
def bLe:ByteArray:=⟨#[97,46,110,101,116]⟩
def bHx (w:D.World)(k d o v:Int)(f:Bool):D.World×Bool:=
 bif !eY w then(w,false) else
 bif k==1 then bJk w else
 bif k==2 then((aV0 w d o).1,(aV0 w d o).2==0) else
 bif k==3 then((bBc w d o).1,(bBc w d o).2==0) else
 bif k==4 then bHw w d else
 bif k==5 then((bBb w d o).1,(bBb w d o).2==0) else
 bif k==6 then bDv w d else
 bif k==7 then bDz w d o else
 bif k==8 then bI3 w d bLe v f else
 bif k==9 then bEy w d else
 bif k==10 then((vX w d v).1,(vX w d v).2==0) else
 bif k==11 then bEb w v else
 bif k==12 then aRc w else
 bif k==13 then aTj w o v else(w,false)
def aO4 (l:List Int):Prop:=okL (λn:Int=>0<=n/\n<=255) l
noncomputable instance (l:List Int):Decidable (aO4 l):=Classical.propDecidable _
def bBd (l:List Int):Bool:=decide ((l.length:Int)>1048576)
def bJl (b:D.aAD):Prop:=∀x∈b.Boxes,aQ x.Data
def bBe (c:D.aAI):Prop:=bJl c.Boxes/\∀s∈c.History,aQ s.Data
instance (b:D.aAD):Decidable (bJl b):=inferInstanceAs (Decidable (∀x∈b.Boxes,aQ x.Data))
instance (c:D.aAI):Decidable (bBe c):=inferInstanceAs (Decidable (_/\_))
--needs aAO
def eT (c:D.aAO):Prop:=0<=c.i/\c.b.length<=1048576
instance (c:D.aAO):Decidable (eT c):=by unfold eT;infer_instance
def bEd (h:Int):Int:=IntKind.i64.wrap (IntKind.i64.wrap (h*6364136223846793005)+1442695040888963407)
def bE9 (h:Int):Int:=kR IntKind.i64 (aNy IntKind.i64 (yB IntKind.i64 h 33) (yB IntKind.i64 h 47)) 255
def iH (c:D.aAO):D.aAO×Int:=bif decide (c.i<(c.b.length:Int)) then(⟨c.b,IntKind.i64.wrap (c.i+1),bEd c.h⟩,kR IntKind.i64 (IntKind.i64.wrap (bE9 (bEd c.h)+IntKind.i64.wrap (c.b.getD c.i.toNat 0))) 255) else(⟨c.b,c.i,bEd c.h⟩,bE9 (bEd c.h))
def gL (c:D.aAO)(n:Int):D.aAO×Int:=bif decide (n<=0) then(c,0) else bif decide (n<=256) then((iH c).1,(iH c).2.tmod n) else
 ((iH (iH (iH c).1).1).1,(IntKind.i64.wrap (IntKind.i64.wrap (IntKind.i64.wrap ((iH c).2*65536)+IntKind.i64.wrap ((iH (iH c).1).2*256))+(iH (iH (iH c).1).1).2)).tmod n)
def Df (c:D.aAO)(n:Int):D.aAO×Bool:=((gL c n).1,(gL c n).2==0)
def aV2 (l:List Int):Nat->Int
 |0=>IntKind.i64.wrap (193017+(l.length:Int))
 |k+1=>kR IntKind.i64 (IntKind.i64.wrap (IntKind.i64.wrap (IntKind.i64.wrap (aV2 l k*137)+IntKind.i64.wrap (l.getD k 0))+11)) 1073741823
def bFa (l:List Int):Int:=aV2 l (min l.length 4000)
def bJm (l:List Int):D.aAO:=⟨l,0,bFa l⟩
def Yo (c:D.aAO)(l:List Int):D.aAO×Int:=((gL c (l.length:Int)).1,l.getD (gL c (l.length:Int)).2.toNat 0)
def aRs (c:D.aAO):D.aAO×Int:=bif (Df c 10).2 then Yo (Df c 10).1 [0,-1,1,2147483646,2147483647] else((gL (Df c 10).1 99999).1,IntKind.i64.wrap (1+(gL (Df c 10).1 99999).2))
--needs aAO Event
def eA (c:D.aAO):D.aAO×Int:=gL c 13
def eB (c:D.aAO):D.aAO×Int:=gL (eA c).1 4
def aOp (e:D.Event):Prop:=(1<=e.Kind/\e.Kind<=13)/\(0<=e.Device/\e.Device<=3)/\(0<=e.Other/\e.Other<=2)/\(0<=e.Value/\e.Value<=39)/\(e.Kind≠11->e.Value<=3)
--needs Event World
def evF (w:D.World)(e:D.Event):D.World×Bool:=bHx w e.Kind e.Device e.Other e.Value e.Flag
--needs aAO
def wA (l:List Int):D.aAO×Int:=gL (bJm l) 5
def wB (l:List Int):D.aAO×Int:=Yo (wA l).1 [0,1,3,7,8]
def wC (l:List Int):D.aAO×Int:=Yo (wB l).1 [0,1,2,3,8]
def wD (l:List Int):D.aAO×Int:=Yo (wC l).1 [0,1234,9999,10000,-1]
def wE (l:List Int):D.aAO×Int:=aRs (wD l).1
def aFh (l:List Int):Int×Int×Int×Int×Int:=((wA l).2,(wB l).2,(wC l).2,(wD l).2,(wE l).2)
end Go.VK
