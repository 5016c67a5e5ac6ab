import Derived.Test.YtfllllgehgablaaGreatDoorEVyltod
import Derived.Test.YtfllllgehgablaaGreatDoorXsS
/- Printed by wip/tools: models, walks, proofs. -/
set_option linter.all false
set_option maxRecDepth 100000
set_option maxHeartbeats 4000000
namespace Go.VK
open Go.RowKit Go.Proofs
def Wh (k:D.aAV):Int:=IntKind.i64.wrap (IntKind.i64.wrap (k.Epoch*1000)+k.Guesses)
def aGb {h v:Int}(h0:0<=h)(h1:h<2147483647):0<=hstep h v/\hstep h v<2147483647:=by have hm:=xA (p:=v) (q:=2147483647) (by omega);unfold hstep;generalize gP v 2147483647=z at*;have e1:IntKind.i64.wrap (h*1000003)=h*1000003:=aJ (by omega) (by omega);have e2:IntKind.i64.wrap (h*1000003+z)=h*1000003+z:=aJ (by omega) (by omega);have e3:IntKind.i64.wrap (h*1000003+z+13)=h*1000003+z+13:=aJ (by omega) (by omega);rw[e1,e2,e3];exact⟨fy _ (by omega),fL _ (by decide)⟩
def aWi (l:List Int):0<=vC l/\vC l<2147483647:=by
 unfold vC
 suffices ∀(l:List Int) (h:Int),0<=h->h<2147483647->0<=l.foldl hstep h/\l.foldl hstep h<2147483647 from this l 11 (by omega) (by omega)
 intro l;induction l with
 |nil=>intro h h0 h1;exact⟨h0,h1⟩
 |cons x xs ih=>intro h h0 h1;exact ih _ (aGb h0 h1).1 (aGb h0 h1).2
def kM (k:Int)(l:List Int):0<=bJ k l/\bJ k l<2147483647:=aWi _
def aTy (a b:Int):Int:=bif decide (b>a) then b else a
def qB (a:List Int)(r:List (List Int)):List Int:=a++r.flatten
def iE (n:Int):Int:=bif n==0 then 1 else n
def bG (n:Int):Bool:=bF n 1 2147483646
def uU (b:List Int):List Int:=[(b.length:Int)]++b.map IntKind.i64.wrap
def aU (seed:Int)(l:List Int):Int:=iE (bJ seed ([151]++l))
def mK (k:Int)(s:ByteArray):Int:=iE (bJ k (uU (bR s)))
def cK (p:Int):Int:=bif !(bG p) then 0 else(IntKind.i64.wrap (p*48271)).tmod 2147483647
def fU (s:D.aAI):Int:=aU s.Seed [181]
def bA (s:D.aAI):Int:=cK (fU s)
def gX (l:List Int)(x:Int):Bool:=l.any λe=>e==x
def iN (log:List D.aAC)(p:Int):Bool:=log.any λe=>e.Kind==2&&e.Device==p
def iZ (s:List Int)(e:D.aAC):List Int:=
 bif e.Kind==1 then(bif s.contains e.Device then s else s++[e.Device]) else bif e.Kind==2 then s.filter (λd=>d !=e.Device) else s
def aH (log:List D.aAC):List Int:=log.foldl iZ []
def aL (log:List D.aAC):Int:=log.foldl (λn e=>bif e.Kind==2 then IntKind.i64.wrap (n+1) else n) 0
def aG (b:D.aAB)(site handle:Int):Int:=iL (λe=>e.Site==site&&e.Handle==handle) 0 b.Entries
def aD (s:D.Site)(id:Int):Int:=iL (λa=>a.Id==id) 0 s.Accounts
def aGc (s:List Int)(x:D.aAC):(iZ s x).length<=s.length+1:=by
 unfold iZ;cases x.Kind==1 with
 |true=>cases s.contains x.Device<;>simp
 |false=>
  cases x.Kind==2 with
  |true=>have:=List.length_filter_le (λd=>d !=x.Device) s;simp;omega
  |false=>simp
def iI (log:List D.aAC):(aH log).length<=log.length:=by
 suffices ∀(l:List D.aAC) (s:List Int),(l.foldl iZ s).length<=s.length+l.length from by simpa[aH] using this log []
 intro l;induction l with
 |nil=>intro s;simp
 |cons x xs ih=>
  intro s;simp only[dc,av];have h1:=ih (iZ s x);have h2:(iZ s x).length<=s.length+1:=by
   unfold iZ;cases x.Kind==1 with
   |true=>cases s.contains x.Device<;>simp
   |false=>
    cases x.Kind==2 with
    |true=>have:=List.length_filter_le (λd=>d !=x.Device) s;simp;omega
    |false=>simp
  omega
def aWj {n:Int}(h:0<=n):aTy 1 n=iE n:=by
 unfold aTy iE;rcases(show n=0\/n=1\/n>1 by omega) with rfl|rfl|h1
 ·rfl
 ·rfl
 ·have:(n==0)=false:=by simp;omega
  simp[h1,this]
def bH (s:ByteArray):Int:=mK 173 s
def WOk (w:D.World):Prop:=w.Devices.length<=34359738368/\w.Stolen.length<=34359738368/\w.aAD.Log.length<=34359738368/\w.Sites.length<=34359738368
instance (w:D.World):Decidable (WOk w):=inferInstanceAs (Decidable (_/\_))
def aM (w:D.World)(d:Int):Bool:=decide (0<=d)&&decide (d<w.Devices.length)
def aRx {w:D.World}(h:WOk w)(d:Int):bF d 0 (IntKind.i64.wrap ((w.Devices.length:Int)-1))=aM w d:=by have:=h.1;rw[aJ (by omega) (by omega)];unfold bF aM;congr 1;exact cA.2 (by omega)
def aN (w:D.World)(d:Int):D.Device:=w.Devices.getD d.toNat default
def nD {w:D.World}{d:Int}(h:aM w d=true):aY w.Devices d=some (aN w d):=by simp only[aM,aa,bp] at h;rw[lN h.1 (by omega)];simp[aN,List.getD,ae (show d.toNat<w.Devices.length by omega)]
def kN (w:D.World)(d:Int):Bool:=aM w d&&gX (aH w.aAD.Log) (bA (aN w d).Store)
def WOk.of {w:D.World}(h:w.sz<=1048576):WOk w:=by simp only[D.World.sz,D.aAD.sz] at h;unfold WOk;omega
def aKu (k:Int)(i:Nat)(z:Int):Int:=IntKind.u8.wrap ((z-bJ k [(i:Int)])%256)
def Kl (k:Int)(b:List Int):List Int:=Kj (λi z=>[aKu k i z]) 0 b
def aWk (x:Int):gP (IntKind.i64.wrap x) 256=x%256:=by rw[gP,cH (by omega),IntKind.wrap_i64];omega
def bHo (k:Int)(i:Nat)(z:Int):IntKind.u8.wrap (gP (IntKind.i64.wrap (IntKind.i64.wrap z-bJ k [(i:Int)])) 256)=aKu k i z:=by rw[aWk,aKu,IntKind.wrap_i64];congr 1;omega
def bHp (k:Int)(i:Nat)(z:Int):IntKind.u8.wrap (gP (IntKind.i64.wrap (IntKind.i64.wrap z-(bJ k [(i:Int)]).tmod 256)) 256)=aKu k i z:=by rw[aWk,aKu,IntKind.wrap_i64,cp (kM _ _).1];congr 1;omega
def qC {α β:Type}{y:Nat->α->β}:∀{i:Nat} {l:List α},(Kj (λi x=>[y i x]) i l).length=l.length
 |i,[]=>rfl
 |i,x::xs=>by simp[Kj,qC]
def fH (p e:Int):Int:=aU p [163,e]
def Np (k:Int)(b:D.Box):Int:=bJ k ([167,b.To,b.Ephemeral]++uU b.Data)
def eF (p:Int)(b:D.Box):List Int×Bool:=
 bif !bG p||(b.To !=cK p||(!bG b.Ephemeral||decide ((b.Data.length:Int)>200))) then([],false)
 else bif b.MAC !=Np (fH p b.Ephemeral) b then([],false) else(Kl (fH p b.Ephemeral) b.Data,true)
def fC:List D.Box->Int->List Int×Bool
 |[],_=>([],false)
 |b::bs,p=>bif (eF p b).2 then((eF p b).1,true) else fC bs p
def aQ (b:List Int):Prop:=b.length<=34359738368/\b.all (λz=>decide (0<=z)&&decide (z<=255))=true
instance (b:List Int):Decidable (aQ b):=inferInstanceAs (Decidable (_/\_))
def uC {b:List Int}(h:aQ b){i:Nat}(hi:i<b.length):0<=b[i]/\b[i]<=255:=by have:=cF.1 h.2 b[i] (cN hi);simpa using this
def uvG (b:List Int)(p:Nat):Nat->Nat->Int->Int×Int×Bool
 |0,_,_=>(0,0,false)
 |k+1,i,n=>
  if p+i<b.length then
   bif decide (b.getD (p+i) 0<128) then
    (bif (decide (0<i)&&b.getD (p+i) 0==0)||decide (n+b.getD (p+i) 0%128*128^i>1000000000000) then(0,0,false) else(n+b.getD (p+i) 0%128*128^i,((p+i+1:Nat):Int),true))
   else uvG b p k (i+1) (n+b.getD (p+i) 0%128*128^i)
  else(0,0,false)
def wK (b:List Int)(at_:Int):Int×Int×Bool:=if at_<0 then(0,0,false) else uvG b at_.toNat 6 0 0
def aTz {i:Nat}(h:i<=6):(1:Int)<=128^i/\(128:Int)^i<=4398046511104:=by
 match i,h with
 |0,_|1,_|2,_|3,_|4,_|5,_|6,_=>decide
def aT0 {z n:Int}{i:Nat}(hi:i<=5)(hz:0<=z)(hn:0<=n)(hn':n<128^i):0<=n+z%128*128^i/\n+z%128*128^i<128^(i+1)/\0<=z%128*128^i/\z%128*128^i<=127*128^i:=by have hp:=aTz (i:=i) (by omega);have h1:0<=z%128*128^i:=jy (by omega) (by omega);have h2:z%128*128^i<=127*128^i:=Int.mul_le_mul_of_nonneg_right (by omega) (by omega);rw[e9];refine⟨by omega,by omega,h1,h2⟩
def bKy {z n:Int}{i:Nat}(hi:i<=5)(hz:0<=z)(hz':z<=255)(hn:0<=n)(hn':n<128^i):
  orI .i64 n (L8 .i64 (mG .i64 z 127) (IntKind.i64.wrap (7*(i:Int))))=n+z%128*128^i:=by
 obtain⟨m,rfl⟩:=eC hz;obtain⟨q,rfl⟩:=eC hn;have hp:=aTz (i:=i) (by omega);have hs:=aT0 (z:=(m:Int)) (n:=(q:Int)) hi (by omega) (by omega) hn';have ha:mG .i64 (m:Int) 127=((m%128:Nat):Int):=by
  have e:((BitVec.ofInt 64 (m:Int))&&&(BitVec.ofInt 64 127)).toNat=m%128:=by
   rw[BitVec.toNat_and];have e1:(BitVec.ofInt 64 (m:Int)).toNat=m:=by rw[BitVec.toNat_ofInt];omega
   have e2:(BitVec.ofInt 64 127).toNat=2^7-1:=by decide
   rw[e1,e2,fY]
  show IntKind.i64.wrap (((BitVec.ofInt 64 (m:Int))&&&(BitVec.ofInt 64 127)).toNat:Int)=_;rw[e];exact aJ (by omega) (by omega)
 have hw:IntKind.i64.wrap (7*(i:Int))=((7*i:Nat):Int):=by rw[aJ (by omega) (by omega)];omega
 have hpn:(2:Nat)^(7*i)=128^i:=by rw[Nat.pow_mul]
 have hpi:((128^i:Nat):Int)=(128:Int)^i:=by simp
 have hb:L8 .i64 (mG .i64 (m:Int) 127) (IntKind.i64.wrap (7*(i:Int)))=((m%128*128^i:Nat):Int):=by
  rw[ha,hw];unfold L8;rw[co,show min (7*i) IntKind.i64.bits=7*i from jl (by simp[IntKind.bits];omega)];have e3:((m%128:Nat):Int)*2^(7*i)=((m%128*128^i:Nat):Int):=by rw[<-hpn];simp
  rw[e3];have:((m%128*128^i:Nat):Int)=(m:Int)%128*128^i:=by simp
  rw[this];exact aJ (by omega) (by omega)
 rw[hb];have hqlt:q<128^i:=by rw[<-hpi] at hn';exact_mod_cast hn'
 have hor:(m%128*128^i)|||q=m%128*128^i+q:=by have:=jk (b:=q) (i:=7*i) (by rw[hpn];exact hqlt) (m%128);rw[Nat.shiftLeft_eq,hpn] at this;exact this.symm
 have hle:m%128*128^i+q<2^63:=by
  have:((m%128*128^i+q:Nat):Int)=q+(m:Int)%128*128^i:=by simp;omega
  omega
 have e4:((BitVec.ofInt 64 (q:Int))|||(BitVec.ofInt 64 ((m%128*128^i:Nat):Int))).toNat=m%128*128^i+q:=by
  rw[BitVec.toNat_or];have e5:(BitVec.ofInt 64 (q:Int)).toNat=q:=by rw[BitVec.toNat_ofInt];omega
  have e6:(BitVec.ofInt 64 ((m%128*128^i:Nat):Int)).toNat=m%128*128^i:=by rw[BitVec.toNat_ofInt];omega
  rw[e5,e6,Nat.or_comm,hor]
 show IntKind.i64.wrap (((BitVec.ofInt 64 (q:Int))|||(BitVec.ofInt 64 ((m%128*128^i:Nat):Int))).toNat:Int)=_;rw[e4,aJ (by omega) (by omega)];simp;omega
def jN (b:List Int):Nat->Int->List Int->List Int×Int×Bool
 |0,a,s=>(s,a,true)
 |k+1,a,s=>bif (wK b a).2.2 then jN b k (wK b a).2.1 (s++[(wK b a).1]) else([],0,false)
def gT (b:List Int)(a c:Int):List Int×Int×Bool:=bif !bF c 0 100|| !bF a 0 b.length then([],0,false) else jN b c.toNat a []
def aWl (b:List Int):∀(k:Nat) (a:Int) (s:List Int),(jN b k a s).2.2=true->(jN b k a s).1.length=s.length+k
 |0,a,s,_=>rfl
 |k+1,a,s,h=>by
  unfold jN at h ⊢;cases hu:(wK b a).2.2 with
  |false=>rw[hu] at h;simp at h
  |true=>rw[hu] at h;simp only[ac] at h ⊢;rw[aWl b k _ _ h];simp;omega
def decode_len {b:List Int}{a c:Int}(hc:0<=c)(h:(gT b a c).2.2=true):(gT b a c).1.length=c.toNat:=by
 unfold gT at h ⊢;cases hx:(!bF c 0 100|| !bF a 0 b.length) with
 |true=>rw[hx] at h;simp at h
 |false=>rw[hx] at h;simp only[ab] at h ⊢;rw[aWl _ _ _ _ h];simp
def aT1 {k:Int}{b:List Int}(h:b.length<=34359738368):aQ (Kl k b):=by
 refine⟨by unfold Kl;rw[qC];exact h,?_⟩;rw[cF];intro z hz;have:∀(b:List Int) (i:Nat),z∈Kj (λi z=>[aKu k i z]) i b->0<=z/\z<=255:=by
  intro b;induction b with
  |nil=>intro i h;simp[Kj] at h
  |cons x xs ih=>
   intro i h;simp only[Kj,bz,cz] at h;rcases h with rfl|h
   ·have:=dH .u8 ((x-bJ k [(i:Int)])%256);simpa[aKu,IntKind.min,IntKind.max,IntKind.signed,IntKind.bits] using this
   ·exact ih _ h
 have:=this b 0 hz;simp[this.1,this.2]
def aZb (p:Int)(b:D.Box):aQ (eF p b).1:=by
 unfold eF;have h0:aQ ([]:List Int):=by decide
 by_cases hl:b.Data.length<=200
 ·cases(!bG p||(b.To !=cK p||(!bG b.Ephemeral||decide ((b.Data.length:Int)>200))))<;>cases(b.MAC !=Np (fH p b.Ephemeral) b)<;>first|exact h0|exact aT1 (by omega)
 ·have e1:decide ((b.Data.length:Int)>200)=true:=by simp;omega
  rw[e1];simpa using h0
def Xu (p:Int):∀bs,aQ (fC bs p).1
 |[]=>show aQ [] by decide
 |b::bs=>by
  unfold fC;cases(eF p b).2 with
  |true=>exact aZb p b
  |false=>exact Xu p bs
def Ht (e:D.aAF)(x:List Int×Bool)(y:List Int×Int×Bool):Int×Bool:=
 bif !x.2||(!y.2.2||(y.2.1 !=(x.1.length:Int)||(y.1.getD 0 0 !=e.Epoch|| !bG (y.1.getD 1 0)))) then(0,false) else(y.1.getD 1 0,true)
def bD (s:D.aAI)(e:D.aAF):Int×Bool:=Ht e (fC e.Boxes (fU s)) (gT (fC e.Boxes (fU s)).1 0 2)
def and_one {n:Int}(h0:0<=n)(h1:n<9223372036854775808):mG .i64 n 1=n%2:=by
 obtain⟨m,rfl⟩:=eC h0;have e:((BitVec.ofInt 64 (m:Int))&&&(BitVec.ofInt 64 1)).toNat=m%2:=by
  rw[BitVec.toNat_and];have e1:(BitVec.ofInt 64 (m:Int)).toNat=m:=by rw[BitVec.toNat_ofInt];omega
  have e2:(BitVec.ofInt 64 1).toNat=2^1-1:=by decide
  rw[e1,e2,fY]
 show IntKind.i64.wrap (((BitVec.ofInt 64 (m:Int))&&&(BitVec.ofInt 64 1)).toNat:Int)=_;rw[e,aJ (by omega) (by omega)];omega
def bBw {n:Int}(h0:0<=n):Co .i64 n 1=n/2:=by unfold Co;rw[show min (Int.toNat 1) IntKind.i64.bits=1 from by decide,gq _ (by decide)];rfl
def bD3:Nat->Int->Int->Int->Int
 |0,_,_,s=>s
 |k+1,b,n,s=>if n>0 then bD3 k ((IntKind.i64.wrap (b*b)).tmod 2147483647) (n/2) (bif n%2==1 then(IntKind.i64.wrap (s*b)).tmod 2147483647 else s) else s
def bBx:bD3 31 48271 2147483645 1=1899818559:=by decide+kernel
def eU (q:Int):Int:=bif !bG q then 0 else q*1899818559%2147483647
def Ab (p:Int)(l:List Int):Int:=bif !bG p then 0 else bJ p ([139,(l.length:Int)]++l)
def gI (q:Int)(l:List Int)(g:Int):Bool:=eU q !=0&&Ab (eU q) l==g
def Nq {α:Type}[Inhabited α]{l:List α}{i:Nat}(h0:0<i)(hi:i<l.length)(hl:l.length<=34359738368):aY l (IntKind.i64.wrap ((i:Int)-1))=some (l.getD (i-1) default):=by rw[aJ (by omega) (by omega),show(i:Int)-1=((i-1:Nat):Int) by omega,aO (by omega)];simp[List.getD,ae (show i-1<l.length by omega)]
def sM (l:List D.aAR)(i:Nat)(n:D.aAR):Bool:= !bF n.Kind 1 5||(!bF n.aAH 0 1000000||(!bF n.Time 0 1000000||(decide (0<i)&&decide ((l.getD (i-1) default).Time>n.Time))))
def dZ (m:D.aAJ):Bool:=decide (m.Notices.length<=30)&& !fO (sM m.Notices) 0 m.Notices
def gJ (b:D.aAE)(i:Nat)(n:D.aAM):Bool:= !bF n.Id 0 (IntKind.i64.wrap (b.Next-1))||((decide (0<i)&&decide ((b.Open.getD (i-1) default).Id>=n.Id))||(!bF n.aAH 0 1000005|| !bF n.Until 0 1000005))
def eD (b:D.aAE):Bool:=bF b.Next 0 1000000&&decide (b.Open.length<=16)&& !fO (gJ b) 0 b.Open
def tL (a:D.aAH)(i:Nat)(n:D.aAK):Bool:=(!bF n.Handle 0 1000000||((decide (0<i)&&decide ((a.Credentials.getD (i-1) default).Handle>=n.Handle))||(eU n.Public==0|| !bF n.Counter 0 1000000)))||(a.Credentials.take i).any λq=>q.Public==n.Public
def aZ (a:D.aAH):Bool:=bF a.Id 0 1000000&&bF a.Minimum 1 3&&decide (a.Credentials.length<=8)&& !fO (tL a) 0 a.Credentials
def cB (e:D.aAC):Int:=vC [229,e.Index,e.Kind,e.Device,e.By,e.Previous]
def fV (l:List D.aAC):Int:=bif (l.length:Int)==0 then 0 else cB (l.getD (l.length-1) default)
def lS (l:List D.aAC)(e:D.aAC):Bool:=
 e.Index==(l.length:Int)&&(e.Previous==fV l&&((gX (aH l) e.By||((l.length:Int)==0&&e.By==e.Device))&&(gI e.By [cB e] e.Signature&&
  (bif e.Kind==2 then gX (aH l) e.Device&&decide (((aH l).length:Int)>1) else !iN l e.Device&&(e.Kind==1&&(!gX (aH l) e.Device&&decide (((aH l).length:Int)<6)))))))
def bB (l:List D.aAC):Bool:=bF (l.length:Int) 1 40&& !fO (λi e=> !lS (l.take i) e) 0 l
def bHq {l:List Int}{x:Int}(h:gX l x=true):0<l.length:=by
 cases l with
 |nil=>simp[gX] at h
 |cons a r=>simp
def iO:List UInt8->List UInt8->List (List UInt8)
 |cur,[]=>[cur]
 |cur,b::r=>bif b==46 then cur::iO [] r else iO (cur++[b]) r
def bHr (s:List UInt8)(i:Nat):Lib.occAt s [46] i=decide (s[i]? =some 46):=by
 unfold Lib.occAt;cases h:s.drop i with
 |nil=>have:s.length<=i:=List.drop_eq_nil_iff.1 h;simp[df this,List.isPrefixOf]
 |cons b r=>
  have e:s[i]? =some b:=by have:=eh (xs:=s) (i:=i) (j:=0);rw[h] at this;simpa using this.symm
  rw[e];simp only[List.isPrefixOf,fb,ai];rw[eE];simp only[cG,bp];exact eq_comm
def aKv:∀(a cur r:List UInt8),(∀b∈a,b≠46)->iO cur (a++46::r)=(cur++a)::iO [] r
 |[],cur,r,_=>by simp[iO]
 |b::a,cur,r,h=>by
  have hb:(b==46)=false:=by simpa using h b (by simp)
  rw[cC,iO,hb,ab,aKv a _ r (λx hx=>h x (da _ hx))];simp
def aGd:∀(a cur:List UInt8),(∀b∈a,b≠46)->iO cur a=[cur++a]
 |[],cur,_=>by simp[iO]
 |b::a,cur,h=>by
  have hb:(b==46)=false:=by simpa using h b (by simp)
  rw[iO,hb,ab,aGd a _ (λx hx=>h x (da _ hx))];simp
def aWm:∀(n:Nat) (s:List UInt8),s.length<n->Lib.splitK [46] 0 (Lib.count s [46]) s=iO [] s
 |0,s,h=>absurd h (Nat.not_lt_zero _)
 |n+1,s,h=>by
  rcases Lib.index_spec s [46] with⟨h1,h2⟩|⟨i,h1,h2,h3,h4⟩
  ·rw[Lib.count_miss h1,aGd s [] (λb hb e=>by
    obtain⟨j,hj,ej⟩:=List.getElem_of_mem hb;have:=h2 j (by omega);rw[bHr,ae hj,ej,e] at this;simp at this)];rfl
  ·rw[bHr] at h3;have h3:s[i]? =some 46:=by simpa using h3
   have hi:i<s.length:=by
    rcases fp i s.length with hlt|hge
    ·exact hlt
    ·rw[df hge] at h3;cases h3
   rw[Lib.count_hit (by simp) h1,Nat.add_comm,Lib.splitK,h1];have hne:((i:Int)== -1)=false:=by simp
   rw[hne];simp only[co,eg,av,bo,ca];rw[cX (by simp),aWm n (s.drop (i+1)) (by rw[cn];omega)];have es:s=s.take i++46::s.drop (i+1):=by
    have e2:s[i]=46:=by rw[ae hi] at h3;exact ak h3
    rw[<-e2,List.getElem_cons_drop hi,cE]
   conv=>rhs;rw[es]
   rw[aKv (s.take i) [] _ (λb hb e=>by
    obtain⟨j,hj,ej⟩:=List.getElem_of_mem hb;rw[ce] at hj;have:=h4 j (by omega);rw[bHr,ae (by omega)] at this;rw[gu] at ej;rw[ej,e] at this;simp at this)];simp
def bI (s:ByteArray):List ByteArray:=(iO [] s.data.toList).map λl=>⟨l.toArray⟩
def aKw (s:ByteArray):kE s ⟨#[46]⟩=bI s:=by
 have h1:(kE s ⟨#[46]⟩).map (·.data.toList)=iO [] s.data.toList:=by rw[kE,Lib.splitB_data];exact aWm _ _ (dq _)
 unfold bI;rw[<-h1,gO]
 conv=>lhs;rw[<-List.map_id (kE s ⟨#[46]⟩)]
 congr 1
def P7 (b:Int):Bool:=bF b 97 122||bF b 48 57||b==45
def uD (s:ByteArray):Bool:=decide (1<=s.size)&&decide (s.size<=20)&& !((bR s).getD 0 0==45)&& !((bR s).getD (s.size-1) 0==45)&& !((bR s).any λb=> !P7 b)
def fI (s:ByteArray):Bool:=decide (s.size<=60)&& !((bI s).any λl=> !uD l)
def iP (s:ByteArray):(bR s).length=s.size:=by simp only[bR,bl];rfl
def aWn {s:ByteArray}{i:Nat}(h:i<s.size):aY (bR s) (i:Int)=some ((bR s)[i]'(by rw[iP];exact h)):=aO _
def ext_list (s:ByteArray)(a b:Nat):s.extract a b=⟨((s.data.toList.drop a).take (b-a)).toArray⟩:=by apply ByteArray.ext;apply ji.1;rw[Lib.extract_data]
def Xv:∀(s cur:List UInt8),(iO cur s).length<=s.length+1
 |[],_=>by simp[iO]
 |b::r,cur=>by
  rw[iO];cases b==46 with
  |true=>have:=Xv r [];simp;omega
  |false=>have:=Xv r (cur++[b]);simp at this ⊢;omega
def Nr:∀(s cur:List UInt8) (l:List UInt8),l∈iO cur s->l.length<=cur.length+s.length
 |[],cur,l,h=>by simp[iO] at h;subst h;simp
 |b::r,cur,l,h=>by
  rw[iO] at h;cases hb:b==46 with
  |true=>
   rw[hb,ac] at h;rcases aE.1 h with rfl|h
   ·omega
   ·have:=Nr r [] l h;simp at this ⊢;omega
  |false=>rw[hb,ab] at h;have:=Nr r _ l h;simp at this ⊢;omega
def Ns (s:ByteArray):(bI s).length<=s.size+1:=by unfold bI;rw[bl];exact Xv _ _
def wL (s l:ByteArray)(h:l∈bI s):l.size<=s.size:=by unfold bI at h;obtain⟨q,hq,rfl⟩:=cj.1 h;have:=Nr _ _ q hq;have h2:(⟨q.toArray⟩:ByteArray).size=q.length:=rfl;have h3:s.data.toList.length=s.size:=rfl;have h4:([]:List UInt8).length=0:=rfl;omega
def bQg (z:ByteArray):(z.toList==(⟨#[]⟩:ByteArray).toList)=decide (z.size=0):=by
 rw[ByteArray.toList_eq,ByteArray.toList_eq,eE];simp only[cG,bp];constructor
 ·intro h;show z.data.size=0;rw[<-cy,h];rfl
 ·intro h;exact bv h
def wM:∀(s cur:List UInt8),(iO cur s).length=s.countP (·==46)+1
 |[],_=>rfl
 |b::r,cur=>by
  rw[iO,List.countP_cons];cases b==46 with
  |true=>rw[ac,av,wM r []];simp
  |false=>rw[ab,wM r _];simp
def aGe (s:ByteArray):0<(bI s).length:=by unfold bI;rw[bl,wM];omega
def Sm (s:ByteArray):Bool:=(bR s).any λb=>b==46
def aO5 (s:ByteArray):Sm s=decide (2<=(bI s).length):=by
 unfold Sm bI bR;rw[bl,wM,List.any_map];have e:(λb:Int=>b==46)∘(λb:UInt8=>(b.toNat:Int))=λb:UInt8=>b==46:=by
  funext b;rw[eE];simp only[Function.comp,cG];constructor
  ·intro q;apply UInt8.toNat_inj.1;show _=46;omega
  ·intro q;rw[q];rfl
 rw[e,eE,gC,bp];have:=List.countP_pos_iff (p:=λb:UInt8=>b==46) (l:=s.data.toList);constructor
 ·intro h;have:=this.2 h;omega
 ·intro h;exact this.1 (by omega)
def bD4 (s:ByteArray):ByteArray:=bif fI s then(bif (bI s).length==1 then s else pF ⟨#[46]⟩ ((bI s).drop ((bI s).length-2))) else⟨#[]⟩
def bMh {l:List ByteArray}(h:2<=l.length):∃a∈l,∃b∈l,pF ⟨#[46]⟩ (l.drop (l.length-2))=a++⟨#[46]⟩++b:=by
 have hl:(l.drop (l.length-2)).length=2:=by rw[cn];omega
 match hm:l.drop (l.length-2),hl with
 |[a,b],_=>refine⟨a,dn (i:=l.length-2) (by rw[hm];simp),b,dn (i:=l.length-2) (by rw[hm];simp),?_⟩;rw[show[a,b]=[a]++[b] from rfl,bJz _ _ _ (by simp),bJy]
def Nt {s:ByteArray}(h:fI s=true):s.size<=60/\0<s.size:=by
 unfold fI at h;rw[aa,bp] at h;refine⟨h.1,Nat.pos_of_ne_zero λe=> ?_⟩
 have e2:s.data.toList=[]:=bv e;have e3:bI s=[⟨#[]⟩]:=by unfold bI;rw[e2];rfl
 rw[e3] at h;exact absurd h.2 (by decide)
def bKz {s:ByteArray}(h:fI s=true):decide ((bD4 s).size=0)=false:=by
 have hs:=Nt h;have hp:=aGe s;unfold bD4;rw[h,ac];refine aw ?_;cases h1:(bI s).length==1 with
 |true=>rw[ac];omega
 |false=>
  rw[ab];have:(bI s).length≠1:=by simpa using h1
  obtain⟨a,_,b,_,e⟩:=bMh (l:=bI s) (by omega);rw[e,ByteArray.size_append,ByteArray.size_append];have:(⟨#[46]⟩:ByteArray).size=1:=rfl;omega
def jO (s:ByteArray)(seed:Int):Bool:=fI s&&decide (2<=(bI s).length)&&bG seed
def Hu (l:List D.aAH)(i:Nat)(n:D.aAH):Bool:= !aZ n||(decide (0<i)&&decide ((l.getD (i-1) default).Id>=n.Id))
def dD (s:D.Site):Bool:=jO s.Name s.Book.Seed&&decide (s.Accounts.length<=8)&&eD s.Book&& !fO (Hu s.Accounts) 0 s.Accounts
def SOk (s:D.Site):Prop:=s.Name.size<=34359738368/\s.Accounts.length<=34359738368/\s.Book.Open.length<=34359738368/\∀a∈s.Accounts,a.Credentials.length<=34359738368
instance (s:D.Site):Decidable (SOk s):=inferInstanceAs (Decidable (_/\_))
def fD (name:ByteArray)(seed:Int):D.Site:=bif jO name seed then⟨name,[],⟨seed,0,[]⟩,[]⟩ else⟨⟨#[]⟩,[],⟨0,0,[]⟩,[]⟩
def aZc (name:ByteArray)(seed:Int):decide ((fD name seed).Name.size=0)= !jO name seed:=by
 unfold fD;cases h:jO name seed with
 |false=>rfl
 |true=>
  have:fI name=true:=by unfold jO at h;rw[aa,aa] at h;exact h.1.1
  have:=Nt this;exact aw (by show ¬name.size=0;omega)
def aA (i:Int):ByteArray:=bif i==0 then⟨#[98,97,110,107,46,99,111,109]⟩ else bif i==1 then⟨#[115,104,111,112,46,111,114,103]⟩ else⟨#[]⟩
def kY (i:Nat)(s:D.Site):Bool:= !dD s|| !(s.Name.toList==(aA (i:Int)).toList)
def aR (w:D.World):Bool:=bF w.Now 0 999900&&bF (w.Devices.length:Int) 1 6&&(w.Stolen.length:Int)==(w.Devices.length:Int)&&(w.Sites.length:Int)==2&&dZ w.Mail&&bB w.aAD.Log&&bG w.Seed&& !fO kY 0 w.Sites
def bOo (w:D.World):Prop:=WOk w/\w.Mail.Notices.length<=34359738368/\w.Hosts.length<=34359738368/\∀s∈w.Sites,SOk s
instance (w:D.World):Decidable (bOo w):=inferInstanceAs (Decidable (_/\_))
def aKx {α:Type}{g:α->Nat}{x:α}:∀{l:List α},x∈l->g x<=(l.map g).sum
 |y::r,h=>by
  rw[bm,dg];rcases aE.1 h with rfl|h
  ·omega
  ·have:=aKx (g:=g) h;omega
def SOk.of {s:D.Site}(h:s.sz<=1048576):SOk s:=by
 simp only[D.Site.sz] at h;refine⟨by omega,by omega,by omega,λa ha=> ?_⟩
 have:=aKx (g:=D.aAH.sz) ha;simp only[D.aAH.sz] at this h;omega
def bOo.of {w:D.World}(h:w.sz<=1048576):bOo w:=by
 refine⟨WOk.of h,?_,?_,λs hs=>SOk.of ?_⟩
 ·simp only[D.World.sz] at h;omega
 ·simp only[D.World.sz] at h;omega
 ·have:=aKx (g:=D.Site.sz) hs;simp only[D.World.sz] at h;omega
abbrev xK (a:List Int)(r:List (List Int)):Prop:=a.length+r.flatten.length<=68719476736/\r.length<=1099511627776
def xL (w:D.World)(i:Int):Bool:=decide (0<=i)&&decide (i<w.Sites.length)
def dF (a b:D.Entry):Bool:=decide (a.Site<b.Site)||(a.Site==b.Site&&decide (a.Handle<b.Handle))
def iQ (a:D.Entry)(s h:Int):Bool:=decide (a.Site<s)||(a.Site==s&&decide (a.Handle<h))
def nO (x e:D.Entry):Bool:=decide (x.Version>e.Version)||(x.Version==e.Version&&x.Deleted)
def nW (e x:D.Entry):D.Entry:=bif nO x e then x else e
def bM:List D.Entry->List D.Entry->List D.Entry
 |[],bs=>bs
 |a::xs,[]=>a::xs
 |a::xs,b::bs=>bif dF a b then a::bM xs (b::bs) else bif dF b a then b::bM (a::xs) bs else nW a b::bM xs bs
termination_by xs bs=>xs.length+bs.length
def Nu (l:List D.Entry)(i:Nat)(e:D.Entry):Bool:= !bF e.Site 0 2147483646||(!bF e.Handle 0 1000000||(!bF e.Version 1 1000000||(decide ((i:Int)>0)&& !dF (l.getD (i-1) default) e)))
def aK (b:D.aAB):Bool:=decide ((b.Entries.length:Int)<=20)&& !fO (Nu b.Entries) 0 b.Entries
def dX (a b:D.aAB):D.aAB×Bool:=bif aK a&&aK b then(bif aK ⟨bM a.Entries b.Entries⟩ then(⟨bM a.Entries b.Entries⟩,true) else(a,false)) else(a,false)
def nE (b:D.aAB)(x:D.Entry):D.aAB:=bif decide (aG b x.Site x.Handle>=0) then⟨b.Entries.set (aG b x.Site x.Handle).toNat x⟩ else⟨b.Entries.takeWhile (λe=>iQ e x.Site x.Handle)++[x]++b.Entries.dropWhile (λe=>iQ e x.Site x.Handle)⟩
def pJ {a b:D.Entry}:dF a b=true↔a.Site<b.Site\/(a.Site=b.Site/\a.Handle<b.Handle):=by simp[dF]
def aZd {a x:D.Entry}:iQ a x.Site x.Handle=dF a x:=rfl
def mM {a b c:D.Entry}(h:dF a b=true)(k:dF b c=true):dF a c=true:=by rw[pJ] at*;omega
def xM {a b:D.Entry}(h:dF a b=false)(k:dF b a=false):a.Site=b.Site/\a.Handle=b.Handle:=by
 have h1:¬(a.Site<b.Site\/(a.Site=b.Site/\a.Handle<b.Handle)):=λq=>by rw[pJ.2 q] at h;cases h
 have h2:¬(b.Site<a.Site\/(b.Site=a.Site/\b.Handle<a.Handle)):=λq=>by rw[pJ.2 q] at k;cases k
 omega
def wQ {a b c:D.Entry}(h:a.Site=b.Site/\a.Handle=b.Handle):dF a c=dF b c:=by unfold dF;rw[h.1,h.2]
def aKy {a b c:D.Entry}(h:a.Site=b.Site/\a.Handle=b.Handle):dF c a=dF c b:=by unfold dF;rw[h.1,h.2]
def P8 {a b:D.Entry}(h:a.Site=b.Site/\a.Handle=b.Handle):(nW a b).Site=b.Site/\(nW a b).Handle=b.Handle:=by
 unfold nW;cases nO b a
 ·exact h
 ·exact⟨rfl,rfl⟩
def bBy (a b:D.Entry):nW a b=a\/nW a b=b:=by
 unfold nW;cases nO b a
 ·exact .inl rfl
 ·exact .inr rfl
def dQ (l:List D.Entry):bM l []=l:=by cases l<;>rw[bM]
def gY (l:List D.Entry):bM [] l=l:=by rw[bM]
def wR:∀(n:Nat) (a b:List D.Entry),a.length+b.length<=n->(bM a b).length<=a.length+b.length
 |_,[],b,_=>by rw[gY];simp
 |_,a::xs,[],_=>by rw[dQ];simp
 |0,a::xs,b::bs,h=>by simp at h
 |n+1,a::xs,b::bs,h=>by
  simp only[av] at h;rw[bM];cases dF a b with
  |true=>have:=wR n xs (b::bs) (by simp only[av];omega);simp only[ac,av] at*;omega
  |false=>
   cases dF b a with
   |true=>have:=wR n (a::xs) bs (by simp only[av];omega);simp only[ab,ac,av] at*;omega
   |false=>have:=wR n xs bs (by omega);simp only[ab,av] at*;omega
def sN (a b:D.Entry)(xs bs:List D.Entry):bM (a::xs) (b::bs)=bif dF a b then a::bM xs (b::bs) else bif dF b a then b::bM (a::xs) bs else nW a b::bM xs bs:=by rw[bM]
def K6 (l:List D.Entry):Prop:=l.Pairwise λa b=>dF a b=true
def aRy:∀(A:List D.Entry) {b:D.Entry} {bs:List D.Entry},K6 (b::bs)->bM (bM A [b]) bs=bM A (b::bs)
 |[],b,bs,h=>by
  rw[gY,gY];cases bs with
  |nil=>rw[dQ]
  |cons c cs=>rw[bM,(cm.1 h).1 c (by simp),ac,gY]
 |a::xs,b,bs,h=>by
  have hc:=(cm.1 h).1;rw[sN a b xs [],sN a b xs bs];cases h1:dF a b with
  |true=>
   simp only[ac];cases bs with
   |nil=>rw[dQ]
   |cons c cs=>rw[bM,mM h1 (hc c (by simp)),ac,aRy xs h]
  |false=>
   cases h2:dF b a with
   |true=>
    simp only[ac,ab];rw[dQ];cases bs with
    |nil=>rw[dQ,dQ]
    |cons c cs=>rw[bM,hc c (by simp),ac]
   |false=>
    simp only[ab];rw[dQ];cases bs with
    |nil=>rw[dQ,dQ]
    |cons c cs=>rw[bM,wQ (P8 (xM h1 h2)),hc c (by simp),ac]
def bBz:∀{l:List D.Entry} {x y:D.Entry},y∈bM l [x]->y∈l\/y=x
 |[],x,y,h=>by rw[gY] at h;simp at h;exact .inr h
 |a::xs,x,y,h=>by
  rw[bM] at h;cases h1:dF a x with
  |true=>
   rw[h1,ac] at h;rcases aE.1 h with rfl|h
   ·exact .inl (by simp)
   ·exact(bBz h).imp (λh=>by simp[h]) id
  |false=>
   rw[h1,ab] at h;cases h2:dF x a with
   |true=>
    rw[h2,ac,dQ] at h;rcases aE.1 h with rfl|h
    ·exact .inr rfl
    ·exact .inl h
   |false=>
    rw[h2,ab,dQ] at h;rcases aE.1 h with rfl|h
    ·rcases bBy a x with e|e
     ·rw[e];exact .inl (by simp)
     ·exact .inr e
    ·exact .inl (by simp[h])
def bB0:∀{l:List D.Entry} {x:D.Entry},K6 l->K6 (bM l [x])
 |[],x,h=>by rw[gY];exact eW _ _
 |a::xs,x,h=>by
  obtain⟨ha,hs⟩:=cm.1 h;rw[bM];cases h1:dF a x with
  |true=>
   rw[ac];refine cm.2 ⟨λy hy=> ?_,bB0 hs⟩;rcases bBz hy with hy|rfl
   ·exact ha y hy
   ·exact h1
  |false=>
   cases h2:dF x a with
   |true=>
    rw[ab,ac,dQ];refine cm.2 ⟨λy hy=> ?_,h⟩;rcases aE.1 hy with rfl|hy
    ·exact h2
    ·exact mM h2 (ha y hy)
   |false=>rw[ab,ab,dQ];have hk:=xM h1 h2;refine cm.2 ⟨λy hy=> ?_,hs⟩;rw[wQ (P8 hk),<-wQ hk];exact ha y hy
def aKz:∀(B A:List D.Entry),K6 B->B.foldl (λo x=>bM o [x]) A=bM A B
 |[],A,_=>by rw[dQ];rfl
 |b::bs,A,h=>by rw[dc,aKz bs _ (cm.1 h).2,aRy A h]
def aK0 {α:Type}{p:α->Bool}:∀{l:List α} {i:Nat},iL p i l<0->∀y∈l,p y=false
 |[],i,_,y,hy=>by simp at hy
 |x::l,i,h,y,hy=>by
  simp only[iL] at h;cases hp:p x with
  |true=>rw[hp,ac] at h;omega
  |false=>
   rw[hp,ab] at h;rcases aE.1 hy with rfl|hy
   ·exact hp
   ·exact aK0 h y hy
def Sq {α:Type}{p:α->Bool}:∀{l:List α} {i:Nat},0<=iL p i l->∃l1 e l2,l=l1++e::l2/\p e=true/\iL p i l=((i+l1.length:Nat):Int)
 |[],i,h=>by simp[iL] at h
 |x::l,i,h=>by
  simp only[iL] at h ⊢;cases hp:p x with
  |true=>exact⟨[],x,l,rfl,hp,by simp⟩
  |false=>rw[hp,ab] at h;obtain⟨l1,e,l2,h1,h2,h3⟩:=Sq h;exact⟨x::l1,e,l2,by rw[h1];rfl,h2,by rw[ab,h3];simp only[av];omega⟩
def bB1:∀{l:List D.Entry} {x:D.Entry},(∀y∈l,(y.Site==x.Site&&y.Handle==x.Handle)=false)->bM l [x]=l.takeWhile (λe=>iQ e x.Site x.Handle)++[x]++l.dropWhile (λe=>iQ e x.Site x.Handle)
 |[],x,_=>by rw[gY];rfl
 |a::xs,x,h=>by
  rw[bM,dh,List.dropWhile_cons,aZd];cases h1:dF a x with
  |true=>simp only[ac,gE];rw[bB1 (λy hy=>h y (by simp[hy]))];rfl
  |false=>
   cases h2:dF x a with
   |true=>simp only[ab,ac];rw[dQ];rfl
   |false=>have:=xM h1 h2;have:=h a (by simp);simp_all
def bB2 {e x:D.Entry}{l2:List D.Entry}(he:(e.Site==x.Site&&e.Handle==x.Handle)=true):∀{l1:List D.Entry},K6 (l1++e::l2)->bM (l1++e::l2) [x]=l1++nW e x::l2
 |[],_=>by
  have hk:e.Site=x.Site/\e.Handle=x.Handle:=by simpa using he
  have h1:dF e x=false:=by
   cases h:dF e x with
   |false=>rfl
   |true=>rw[pJ] at h;omega
  have h2:dF x e=false:=by
   cases h:dF x e with
   |false=>rfl
   |true=>rw[pJ] at h;omega
  rw[bn,bM,h1,ab,h2,ab,dQ];rfl
 |a::l1,h=>by
  obtain⟨ha,hs⟩:=cm.1 h;have hk:e.Site=x.Site/\e.Handle=x.Handle:=by simpa using he
  have h1:dF a x=true:=by rw[<-aKy hk];exact ha e (by simp)
  rw[cC,bM,h1,ac,bB2 he hs];rfl
def aWo {l:List D.Entry}{x:D.Entry}(h:K6 l):(bif (decide (aG ⟨l⟩ x.Site x.Handle<0)||nO x (l.getD (aG ⟨l⟩ x.Site x.Handle).toNat default)) then(nE ⟨l⟩ x).Entries else l)=bM l [x]:=by
 unfold nE;by_cases hf:aG ⟨l⟩ x.Site x.Handle<0
 ·rw[ao hf,jb,ac,show decide (aG ⟨l⟩ x.Site x.Handle>=0)=false from aw (by omega),ab];exact(bB1 (aK0 hf)).symm
 ·obtain⟨l1,e,l2,h1,h2,h3⟩:=Sq (show 0<=iL (λe=>e.Site==x.Site&&e.Handle==x.Handle) 0 l from by unfold aG at hf;simp only at hf;omega);have h3':aG ⟨l⟩ x.Site x.Handle=(l1.length:Int):=by unfold aG;rw[h3];simp
  rw[h3',aw (by omega),cL,show decide ((l1.length:Int)>=0)=true from ao (by omega),ac,co];subst h1;rw[bB2 h2 h];have g:(l1++e::l2).getD l1.length default=e:=by simp[List.getD]
  have st:(l1++e::l2).set l1.length x=l1++x::l2:=by simp
  rw[g];show(bif nO x e then(l1++e::l2).set l1.length x else l1++e::l2)=_;rw[st];unfold nW;cases nO x e<;>rfl
def bB3 {α:Type}{p:Nat->α->Bool}:∀{l:List α} {j:Nat},fO p j l=false->∀(i:Nat) (hi:i<l.length),p (j+i) l[i]=false
 |[],j,_,i,hi=>by simp at hi
 |x::l,j,h,i,hi=>by
  simp only[fO,bq] at h;cases i with
  |zero=>exact h.1
  |succ i=>have:=bB3 h.2 i (by simpa using hi);rw[show j+(i+1)=j+1+i by omega];exact this
def aC1 {b:D.aAB}(h:aK b=true):b.Entries.length<=20/\K6 b.Entries:=by
 simp only[aK,aa,bp,cq] at h;refine⟨by omega,?_⟩;have adj:∀i (hi:i+1<b.Entries.length),dF b.Entries[i] b.Entries[i+1]=true:=λi hi=>by
  have:=bB3 h.2 (i+1) hi;simp only[Nu,bq,ca] at this;have h4:=this.2.2.2;rw[ao (by omega),cW] at h4;have h5:(b.Entries.getD (i+1-1) default)=b.Entries[i]:=by rw[Nat.add_sub_cancel,List.getD,ae (by omega),cD]
  rw[h5] at h4;simpa using h4
 have far:∀d i (hi:i+d+1<b.Entries.length),dF b.Entries[i] b.Entries[i+d+1]=true:=λd=>by
  induction d with
  |zero=>exact λi hi=>adj i hi
  |succ d ih=>exact λi hi=>mM (ih i (by omega)) (adj (i+d+1) (by omega))
 refine dT.2 λi j hi hj hij=> ?_;obtain⟨d,rfl⟩:∃d,j=i+d+1:=⟨j-i-1,by omega⟩;exact far d i hj
def eY {α β:Type}{s:List α}(hs:s.length<=34359738368)(x:α)(k:Option β):gd (aV s [x]) k=k:=aB (by unfold aV;simp only[cu];omega)
def mO {α β:Type}{s:List α}(hs:s.length<=34359738368)(k:Option β):gd (aV [] s) k=k:=aB (by unfold aV;simp only[bo];omega)
def aWp {α:Type}{l s:List α}:l.foldl (λs x=>s++[x]) s=s++l:=by
 have:=aCz (f:=λx:α=>[x]) (l:=l) (s:=s);rw[this];congr 1;induction l with
 |nil=>rfl
 |cons x l ih=>simp[ih]
def P9 {α:Type}{l:List α}{F:(Nat×List α->Option (List α))->Nat×List α->Option (List α)}(hl:l.length<=34359738368)
  (hF:∀rec i s (hi:i<l.length),s.length<=34359738368->F rec (i,s)=rec (i+1,s++[l[i]])) (hE:∀rec s,F rec (l.length,s)=some s):EV.bX FUEL F (0,[])=some l:=by
 rw[aRv (l:=l) (λs x=>s++[x]) (λi s=>s.length=i) (λs=>some s) (by omega) rfl (λi s hi hv=>by simp;omega) (λrec i s hi hv=>hF rec i s hi (by omega)) (λrec s _=>hE rec s),aWp,bn]
def bHs {α:Type}{l:List α}{F:(List α×Nat->Option (List α))->List α×Nat->Option (List α)}(hl:l.length<=34359738368)
  (hF:∀rec i s (hi:i<l.length),s.length<=34359738368->F rec (s,i)=rec (s++[l[i]],i+1)) (hE:∀rec s,F rec (s,l.length)=some s):EV.bX FUEL F ([],0)=some l:=by
 rw[fB (l:=l) (λs x=>s++[x]) (λi s=>s.length=i) (λs=>some s) (by omega) rfl (λi s hi hv=>by simp;omega) (λrec i s hi hv=>hF rec i s hi (by omega)) (λrec s _=>hE rec s),aWp,bn]
abbrev Q0 {α:Type}(f:α->Nat)(l:List α):Nat:=l.length+(l.map f).sum
def iA {S τ:Type}{F:(S->Option τ)->S->Option τ}{n:Nat}{s:S}:EV.bX (n+1) F s=F (EV.bX n F) s:=rfl
def kP {α:Type}{c:Bool}{x y:α}:(bif c then some x else some y)=some (bif c then x else y):=by cases c<;>rfl
def vH {c d:Bool}:(bif c then some true else some d)=some (c||d):=by cases c<;>rfl
def aWq {α:Type}[Inhabited α]{l:List α}{i:Nat}(h:i<l.length):l.set i (l.getD i default)=l:=by rw[List.getD,ae h];simp
def Q3 {α:Type}{p:Nat->α->Bool}:∀(l:List α) (j:Nat),fO p j l=true↔∃(i:Nat) (hi:i<l.length),p (j+i) l[i]=true
 |[],j=>by simp[fO]
 |x::xs,j=>by
  simp only[fO,cr,Q3 xs];constructor
  ·rintro(h|⟨i,hi,h⟩)
   ·exact⟨0,by simp,h⟩
   ·exact⟨i+1,by simpa using hi,by rw[show j+(i+1)=j+1+i by omega];exact h⟩
  ·rintro⟨i,hi,h⟩;cases i with
   |zero=>exact .inl h
   |succ i=>exact .inr ⟨i,by simpa using hi,by rw[show j+1+i=j+(i+1) by omega];exact h⟩
def Xw {α:Type}{p:Nat->α->Bool}{l:List α}:fO p 0 l=false↔∀(i:Nat) (hi:i<l.length),p i l[i]=false:=by
 constructor
 ·intro h i hi;cases hc:p i l[i] with
  |false=>rfl
  |true=>rw[(Q3 l 0).2 ⟨i,hi,by rw[ca];exact hc⟩] at h;cases h
 ·intro h;cases hc:fO p 0 l with
  |false=>rfl
  |true=>obtain⟨i,hi,hp⟩:=(Q3 l 0).1 hc;rw[ca,h i hi] at hp;cases hp
def bSi {α β:Type}{l:List α}(f:α->β){F:(List β×Nat->Option (List β))->List β×Nat->Option (List β)}(hl:l.length<=34359738368)
  (hF:∀rec i s (hi:i<l.length),s.length<=34359738368->F rec (s,i)=rec (s++[f l[i]],i+1)) (hE:∀rec s,F rec (s,l.length)=some s):EV.bX FUEL F ([],0)=some (l.map f):=by
 rw[fB (l:=l) (λs x=>s++[f x]) (λi s=>s.length=i) (λs=>some s) (by omega) rfl (λi s hi hv=>by simp;omega) (λrec i s hi hv=>hF rec i s hi (by omega)) (λrec s _=>hE rec s),aC0,bn]
def bMi {α β:Type}{l:List α}(f:α->β){s0:List β}{F:(List β×Nat->Option (List β))->List β×Nat->Option (List β)}(hl:s0.length+l.length<=34359738368)
  (hF:∀rec i s (hi:i<l.length),s.length<=34359738368->F rec (s,i)=rec (s++[f l[i]],i+1)) (hE:∀rec s,F rec (s,l.length)=some s):EV.bX FUEL F (s0,0)=some (s0++l.map f):=by
 rw[fB (l:=l) (λs x=>s++[f x]) (λi s=>s.length=s0.length+i) (λs=>some s) (by omega) (by simp) (λi s hi hv=>by simp;omega) (λrec i s hi hv=>hF rec i s hi (by omega)) (λrec s _=>hE rec s),aC0]
def aRz (h:D.aAG)(b:Int):D.aAG×Bool:=bif decide (b<0)||decide (b>=(h.Saved.length:Int)) then(h,false) else(⟨h.Saved.getD (h.Saved.length-1-b.toNat) default,h.Saved,h.Monotonic⟩,true)
def aZe (w:D.World)(i b:Int):D.World×Bool:=bif !aR w||(decide (i<0)||decide (i>=(w.Hosts.length:Int))) then(w,false) else bif (aRz (w.Hosts.getD i.toNat default) b).2 then({w with Hosts:=w.Hosts.set i.toNat (aRz (w.Hosts.getD i.toNat default) b).1},true) else(w,false)
def bK0 {i:Int}{n:Nat}(h:n<=34359738368):(!bF i 0 (IntKind.i64.wrap ((n:Int)-1)))=(decide (i<0)||decide (i>=(n:Int))):=by
 rw[aJ (by omega) (by omega)];unfold bF;by_cases h0:i<0
 ·rw[ao h0,aw (show ¬0<=i by omega)];rfl
 ·rw[aw h0,ao (show 0<=i by omega)];by_cases h1:i>=(n:Int)
  ·rw[ao h1,aw (show ¬i<=(n:Int)-1 by omega)];rfl
  ·rw[aw h1,ao (show i<=(n:Int)-1 by omega)];rfl
def uE {α:Type}[Inhabited α]{l:List α}{i:Int}(h0:0<=i)(h1:i<(l.length:Int)):aY l i=some (l.getD i.toNat default):=by rw[lN h0 (by omega)];simp[List.getD,ae (show i.toNat<l.length by omega)]
def aT2 {i:Int}{n:Nat}(h:(decide (i<0)||decide (i>=(n:Int)))=false):0<=i/\i<(n:Int):=by simp only[bq,di] at h;omega
def Hw {α:Type}[Inhabited α]{f:α->Nat}{l:List α}{i:Nat}(h:i<l.length):f (l.getD i default)<=(l.map f).sum:=by rw[List.getD,ae h];exact jM h
def aWr {α:Type}[BEq α][ReflBEq α]{r:α}:(!r==r)=false:=by rw[dx];rfl
def bSj (l:List D.aAS)(i:Nat)(s:D.aAS):Bool:= !bF s.Index 1 7||(!bF s.Value 0 1018||(l.take i).any λq=>q.Index==s.Index)
def bOp (l:List D.aAS):Bool:=bF (l.length:Int) 1 7&& !fO (bSj l) 0 l
def aK1 (x:Int)(z v:Int):Int:=(IntKind.i64.wrap (IntKind.i64.wrap (v+gP z 1019)*x)).tmod 1019
def Wi (c:Int)(l:List Int)(x:Int):Int:=(l.foldr (aK1 x) 0+gP c 1019)%1019
def bOq (c:List Int)(s:D.aAS):D.aAS:=⟨s.Index,(IntKind.i64.wrap (s.Value+Wi 0 c s.Index)).tmod 1019⟩
def bHt (l:List D.aAS)(c:List Int):List D.aAS:=bif bOp l then l.map (bOq c) else[]
def cS (l:List D.aAS)(i:Nat)(k:Int):Bool:=(l.take i).any λq=>q.Index==k
def aWs {x z v:Int}(hx:0<=x/\x<=1000)(hv:0<=v/\v<1019):0<=aK1 x z v/\aK1 x z v<1019:=by have hm:=xA (p:=z) (q:=1019) (by omega);unfold aK1;generalize gP z 1019=m at*;have e1:IntKind.i64.wrap (v+m)=v+m:=aJ (by omega) (by omega);have h2:0<=(v+m)*x:=jy (by omega) hx.1;have h3:(v+m)*x<=3000*1000:=Int.mul_le_mul (by omega) hx.2 hx.1 (by omega);rw[e1,aJ (by omega) (by omega)];exact⟨fy _ h2,fL _ (by omega)⟩
def aK2 {x:Int}(hx:0<=x/\x<=1000):∀l:List Int,0<=l.foldr (aK1 x) 0/\l.foldr (aK1 x) 0<1019
 |[]=>by simp
 |z::l=>aWs hx (aK2 hx l)
def bHu {σ τ:Type}{l:List Int}(g:Int->σ->σ){s0:σ}(fin:σ->Option τ){F:(σ×Int->Option τ)->σ×Int->Option τ}(hl:l.length<=34359738368)
  (hF:∀rec s i (hi:i<l.length),F rec (s,(i:Int))=rec (g l[i] s,(i:Int)-1)) (hE:∀rec s,F rec (s,-1)=fin s) {n0:Int} (hn:n0=(l.length:Int)-1):EV.bX FUEL F (s0,n0)=fin (l.foldr g s0):=by
 subst hn;refine aKs (λk s=>k<=l.length/\s=((l.drop (l.length-k)).foldr g s0,(l.length:Int)-1-k)) l.length _ (by omega) ⟨by omega,by simp⟩ (λk s rec hk hv=> ?_) (λs rec hv=> ?_)
 ·obtain⟨_,rfl⟩:=hv;refine .inl ⟨_,⟨hk,rfl⟩,?_⟩;have e:(l.length:Int)-1-k=((l.length-1-k:Nat):Int):=by omega
  have e2:l.length-(k+1)=l.length-1-k:=by omega
  have hi:l.length-1-k<l.length:=by omega
  rw[e,hF rec _ _ hi,e2,ct hi,List.foldr_cons,show l.length-1-k+1=l.length-k by omega];congr 2;omega
 ·obtain⟨_,rfl⟩:=hv;simp only[fm,gp];rw[show(l.length:Int)-1-(l.length:Int)= -1 by omega,hE]
def bOr {c d:Bool}:(bif c then some d else some false)=some (c&&d):=by cases c<;>rfl
def aR0 (k:D.aAV):Bool:=bOp [k.aAS]&&(bF k.Epoch 0 1000000&&(bF k.Limit 1 10&&bF k.Guesses 0 k.Limit))
def bHv (h:D.aAG)(s:D.aAS):Bool:= !aR0 h.State||(decide (Wh h.State<h.Monotonic)||(h.State.Epoch==1000000||(s.Index !=h.State.aAS.Index|| !bOp [s])))
def bOs (h:D.aAG)(s:D.aAS):D.aAG:=⟨⟨s,IntKind.i64.wrap (h.State.Epoch+1),0,h.State.Limit⟩,h.Saved,Wh ⟨s,IntKind.i64.wrap (h.State.Epoch+1),0,h.State.Limit⟩⟩
def bOt (hs:List D.aAG)(ss:List D.aAS):List D.aAG×Bool:=bif ((ss.length:Int)==0)||(hs.zip ss).any (λp=>bHv p.1 p.2) then(hs,false) else(List.zipWith bOs hs ss,true)
def aGf (hs:List D.aAG)(c:List Int):List D.aAG×Bool:=bOt hs (bHt (hs.map λh=>h.State.aAS) c)
def bB4 (w:D.World):Nat->Int->List Int
 |0,_=>[]
 |n+1,k=>bif decide (k<w.aAO.Threshold)&&decide (k<=7) then aU w.Seed [317,w.Now,k]::bB4 w n (k+1) else[]
def bMj (w:D.World):List Int:=bB4 w 8 1
def aWt (w:D.World):D.World×Bool:=bif aR w&&(aGf w.Hosts (bMj w)).2 then({w with Hosts:=(aGf w.Hosts (bMj w)).1},true) else(w,false)
def bD5 (w:D.World):∀(n:Nat) (k:Int),(bB4 w n k).length<=n
 |0,_=>aj _
 |n+1,k=>by
  unfold bB4;cases(decide (k<w.aAO.Threshold)&&decide (k<=7)) with
  |true=>have:=bD5 w n (k+1);simp only[ac,av];omega
  |false=>simp
def bD6 (b:D.aAB)(s h:Int):Int:=bif decide (aG b s h>=0) then IntKind.i64.wrap ((b.Entries.getD (aG b s h).toNat default).Version+1) else 1
def nG (b:D.aAB)(s h:Int):D.Entry:=⟨s,h,bD6 b s h,false⟩
def Xx (b:D.aAB)(s h:Int):D.aAB×Bool:=bif !(decide (aG b s h>=0)&& !(b.Entries.getD (aG b s h).toNat default).Deleted)&&(aK b&&aK (nE b (nG b s h))) then(nE b (nG b s h),true) else(b,false)
def Xy (b:D.aAB)(s h:Int):D.Entry:=⟨s,h,IntKind.i64.wrap ((b.Entries.getD (aG b s h).toNat default).Version+1),true⟩
def Xz (b:D.aAB)(s h:Int):D.aAB×Bool:=bif !aK b||(decide (aG b s h<0)||((b.Entries.getD (aG b s h).toNat default).Deleted||(b.Entries.getD (aG b s h).toNat default).Version==1000000)) then(b,false) else(nE b (Xy b s h),true)
def oH (d:D.Device)(n:ByteArray)(h:Int)(rm:Bool):D.aAB×Bool:=bif rm then Xz d.aAB (bH n) h else Xx d.aAB (bH n) h
def bW (d:D.Device)(n:ByteArray)(h:Int)(rm:Bool):D.Device×Bool:=bif (oH d n h rm).2 then({d with aAB:=(oH d n h rm).1},true) else(d,false)
def jB (w:D.World)(d:Int)(n:ByteArray)(h:Int)(rm:Bool):D.World×Bool:=bif aR w&&aM w d then(bif (bW (aN w d) n h rm).2 then({w with Devices:=w.Devices.set d.toNat (bW (aN w d) n h rm).1},true) else(w,false)) else(w,false)
def bB5 (b:List Int):(uU b).length=b.length+1:=by simp[uU,Nat.add_comm]
def aJa (l:List Int):List.map (λ(n:Int)=>n) l=l:=List.map_id l
def aWu (b:D.aAB)(x:D.Entry):(nE b x).Entries.length<=b.Entries.length+1:=by
 unfold nE;cases decide (aG b x.Site x.Handle>=0) with
 |true=>simp
 |false=>have:=congrArg List.length (eS (p:=λe=>iQ e x.Site x.Handle) (l:=b.Entries));simp only[au] at this;simp only[ab,au,cu];omega
def bK1 (b:D.aAB)(s h:Int):(Xx b s h).1.Entries.length<=b.Entries.length+1:=by
 unfold Xx;have:=aWu b (nG b s h);cases(!(decide (aG b s h>=0)&& !(b.Entries.getD (aG b s h).toNat default).Deleted)&&(aK b&&aK (nE b (nG b s h)))) with
 |true=>exact this
 |false=>simp
def bK2 (b:D.aAB)(s h:Int):(Xz b s h).1.Entries.length<=b.Entries.length+1:=by
 unfold Xz;have:=aWu b (Xy b s h);cases(!aK b||(decide (aG b s h<0)||((b.Entries.getD (aG b s h).toNat default).Deleted||(b.Entries.getD (aG b s h).toNat default).Version==1000000))) with
 |true=>simp
 |false=>exact this
def Dk (d:D.Device)(n:ByteArray)(h:Int)(rm:Bool):(bW d n h rm).1.sz<=d.sz+1:=by
 unfold bW;have:(oH d n h rm).1.Entries.length<=d.aAB.Entries.length+1:=by
  unfold oH;cases rm with
  |true=>exact bK2 _ _ _
  |false=>exact bK1 _ _ _
 cases(oH d n h rm).2 with
 |true=>simp only[ac,D.Device.sz];omega
 |false=>simp
def dI (c:D.aAD)(b:Int):D.aAA×Bool:=bif decide (b<0)||decide (b>=(c.History.length:Int)) then(⟨0,0,[],0⟩,false) else(c.History.getD (c.History.length-1-b.toNat) default,true)
def aZf (a b:D.aAC):Bool:=a.Index==b.Index&&(a.Kind==b.Kind&&(a.Device==b.Device&&(a.By==b.By&&(a.Previous==b.Previous&&(a.Signature==b.Signature&&true)))))
def cO (a b:List D.aAC):Bool:=decide (b.length<=a.length)&& !fO (λi e=> !aZf (a.getD i default) e) 0 b
def fZ (k:Int)(b:D.aAA):Int:=bJ k ([227,b.Epoch,b.Version]++uU b.Data)
def jP (k e v:Int):Int:=aU k [223,e,v]
def uvE:Nat->Int->List Int
 |0,n=>[n]
 |k+1,n=>bif decide (n>127) then(n%128+128)::uvE k (n/128) else[n]
def aT3:∀(k:Nat) (n:Int),1<=(uvE k n).length/\(uvE k n).length<=k+1
 |0,n=>by simp[uvE]
 |k+1,n=>by
  have:=aT3 k (n/128);unfold uvE;cases decide (n>127)<;>simp<;>omega
def bK3 {k:Nat}{z:Int}(h:z<=127):uvE k z=[z]:=by
 cases k with
 |zero=>rfl
 |succ k=>unfold uvE;rw[aw (by omega)];rfl
def bB6:∀(k:Nat) (m n:Int) (x y:List Int),0<=m->0<=n->uvE k m++x=uvE k n++y->m=n/\x=y
 |0,m,n,x,y,_,_,h=>by simpa[uvE] using h
 |k+1,m,n,x,y,h0,h1,h=>by
  unfold uvE at h;by_cases hm:m>127<;>by_cases hn:n>127
  ·simp only[ao hm,ao hn,ac,cC,fx] at h;have:=bB6 k (m/128) (n/128) x y (by omega) (by omega) h.2;exact⟨by omega,this.2⟩
  ·simp only[ao hm,aw hn,ac,ab,cC,fx] at h;omega
  ·simp only[aw hm,ao hn,ac,ab,cC,fx] at h;omega
  ·simpa only[aw hm,aw hn,ab,cC,bn,fx] using h
def aWv {F:(Int×List Int->Option (Int×List Int))->Int×List Int->Option (Int×List Int)}
  (hF:∀rec (n:Int) (s:List Int),0<=n->n<9223372036854775807->s.length<=34359738368->F rec (n,s)=bif decide (n>127) then rec (n/128,s++[n%128+128]) else some (n,s)):
  ∀(k:Nat) (n:Int) (s:List Int) (f:Nat),k<f->0<=n->n<128^(k+1)->k<=6->s.length+k<=34359738368->∃m q,EV.bX f F (n,s)=some (m,q)/\q++[m]=s++uvE k n/\0<=m/\m<=127
 |0,n,s,f+1,hf,h0,h1,_,hs=>by
  refine⟨n,s,?_,rfl,h0,by simp at h1;omega⟩;rw[iA,hF _ _ _ h0 (by simp at h1;omega) (by omega),aw (by simp at h1;omega)];rfl
 |k+1,n,s,f+1,hf,h0,h1,hk,hs=>by
  have h2:(128:Int)^(k+1+1)=128*128^(k+1):=by rw[e9];omega
  have h3:(128:Int)^(k+1+1)<=128^8:=by exact_mod_cast ie (by omega) (by omega)
  have h4:(128:Int)^8=72057594037927936:=by decide
  rw[iA,hF _ _ _ h0 (by omega) (by omega)];unfold uvE;by_cases hn:n>127
  ·rw[ao hn,ac,ac];obtain⟨m,q,e1,e2,e3⟩:=aWv hF k (n/128) (s++[n%128+128]) f (by omega) (by omega) (by omega) (by omega) (by simp;omega);exact⟨m,q,e1,by rw[e2];simp,e3⟩
  ·rw[aw hn,ab,ab];exact⟨n,s,rfl,rfl,h0,by omega⟩
def bK4 {n:Int}(h0:0<=n)(h1:n<9223372036854775808):mG .i64 n 127=n%128:=by
 obtain⟨m,rfl⟩:=eC h0;have e:((BitVec.ofInt 64 (m:Int))&&&(BitVec.ofInt 64 127)).toNat=m%128:=by
  rw[BitVec.toNat_and];have e1:(BitVec.ofInt 64 (m:Int)).toNat=m:=by rw[BitVec.toNat_ofInt];omega
  have e2:(BitVec.ofInt 64 127).toNat=2^7-1:=by decide
  rw[e1,e2,fY]
 show IntKind.i64.wrap (((BitVec.ofInt 64 (m:Int))&&&(BitVec.ofInt 64 127)).toNat:Int)=_;rw[e,aJ (by omega) (by omega)];omega
def bOu {n:Int}(h0:0<=n)(h1:n<128):orI .i64 n 128=n+128:=by
 obtain⟨m,rfl⟩:=eC h0;have e:((BitVec.ofInt 64 (m:Int))|||(BitVec.ofInt 64 128)).toNat=m+128:=by
  rw[BitVec.toNat_or];have e1:(BitVec.ofInt 64 (m:Int)).toNat=m:=by rw[BitVec.toNat_ofInt];omega
  have e2:(BitVec.ofInt 64 128).toNat=1<<<7:=by decide
  have:=jk (b:=m) (i:=7) (by omega) 1;rw[e1,e2,Nat.or_comm,<-this];omega
 show IntKind.i64.wrap (((BitVec.ofInt 64 (m:Int))|||(BitVec.ofInt 64 128)).toNat:Int)=_;rw[e,aJ (by omega) (by omega)];omega
def bQi {n:Int}(h0:0<=n):Co .i64 n 7=n/128:=by unfold Co;rw[show min (Int.toNat 7) IntKind.i64.bits=7 from by decide,gq _ (by decide)];rfl
def aK3 {n:Int}(h0:0<=n)(h1:n<=255):IntKind.u8.wrap n=n:=by rw[IntKind.wrap_u8];omega
def enc1 (n:Int):List Int:=bif bF n 0 1000000000000 then uvE 5 n else[]
def qD (b:List Int)(n:Int):List Int:=b++enc1 n
def gF (l:List Int):List Int:=(l.map enc1).flatten
def Nv (n:Int):(enc1 n).length<=6:=by have:=(aT3 5 n).2;unfold enc1;cases bF n 0 1000000000000<;>simp<;>omega
def aJb {n:Int}(h:0<=n/\n<=1000000000000):enc1 n=uvE 5 n:=by unfold enc1 bF;rw[ao h.1,ao h.2];rfl
def sO (n:Int)(l:List Int):gF (n::l)=enc1 n++gF l:=rfl
def Q4:∀l:List Int,(gF l).length<=6*l.length
 |[]=>by simp[gF]
 |n::l=>by
  have:=Q4 l;have:=Nv n;rw[sO,au,av];omega
def aO6 (l:List Int):Prop:=∀v∈l,0<=v/\v<=(1000000000000:Int)
def aWw:∀(s t x y:List Int),aO6 s->aO6 t->s.length=t.length->gF s++x=gF t++y->s=t/\x=y
 |[],[],x,y,_,_,_,h=>⟨rfl,h⟩
 |m::s,n::t,x,y,hs,ht,hl,h=>by
  have hm:=hs m (by simp);have hn:=ht n (by simp);rw[sO,sO,cf,cf,aJb hm,aJb hn] at h;obtain⟨h1,h2⟩:=bB6 5 m n _ _ hm.1 hn.1 h;obtain⟨h3,h4⟩:=aWw s t x y (λv hv=>hs v (by simp[hv])) (λv hv=>ht v (by simp[hv])) (by simpa using hl) h2;exact⟨by rw[h1,h3],h4⟩
def bB7 {b:List Int}(hb:aQ b){p:Nat}:∀(k i:Nat) (n m e:Int),uvG b p (k+1) i n=(m,e,true)->∃(r:Int) (q:Nat),(0<=r/\m=n+r*128^i/\m<=1000000000000/\e=(q:Int)/\q<=b.length/\(0<i->r≠0))/\b.drop (p+i)=uvE k r++b.drop q
 |k,i,n,m,e,h=>by
  unfold uvG at h;by_cases hlt:p+i<b.length
  ·rw[cH hlt] at h;have hz:=uC hb hlt;have hg:b.getD (p+i) 0=b[p+i]:=by simp[List.getD,ae hlt]
   rw[hg] at h;have hd:b.drop (p+i)=b[p+i]::b.drop (p+i+1):=ct hlt;generalize b[p+i]=z at hz h hd;by_cases h128:z<128
   ·rw[ao h128,ac] at h;have hzz:z%128=z:=by omega
    rw[hzz] at h;cases hc:(decide (0<i)&&z==0)||decide (n+z*128^i>1000000000000) with
    |true=>rw[hc] at h;simp at h
    |false=>rw[hc,ab] at h;rw[bq] at hc;have h1:=of_decide_eq_false hc.2;injection h with e1 e2;injection e2 with e2 e3;refine⟨z,p+i+1,⟨hz.1,e1.symm,by omega,e2.symm,by omega,λhi h0=> ?_⟩,by rw[hd,bK3 (by omega)];rfl⟩;subst h0;simp[hi] at hc
   ·rw[aw h128,ab] at h
    match k,h with
    |0,h=>simp[uvG] at h
    |k+1,h=>
     obtain⟨r,q,⟨h1,h2,h3,h4,h5,h6⟩,h7⟩:=bB7 hb k (i+1) _ m e h;have hr:=h6 (by omega);refine⟨z%128+128*r,q,⟨by omega,?_,h3,h4,h5,λ_=>by omega⟩,?_⟩
     ·rw[h2,e9,Int.add_mul,<-Int.add_assoc];congr 1;rw[ja 128 r,Int.mul_assoc,ja 128]
     ·rw[hd,show p+i+1=p+(i+1) from by omega,h7];have e1:uvE (k+1) (z%128+128*r)=z::uvE k r:=by rw[uvE,ao (show z%128+128*r>127 by omega),ac,show(z%128+128*r)%128+128=z by omega,show(z%128+128*r)/128=r by omega]
      rw[e1];rfl
  ·rw[cX hlt] at h;simp at h
def aT4 {b:List Int}(hb:aQ b){a m e:Int}(h:wK b a=(m,e,true)):∃q:Nat,(0<=a/\0<=m/\m<=1000000000000/\e=(q:Int)/\q<=b.length)/\b.drop a.toNat=enc1 m++b.drop q:=by
 unfold wK at h;by_cases h0:a<0
 ·rw[cH h0] at h;simp at h
 ·rw[cX h0] at h;obtain⟨r,q,⟨h1,h2,h3,h4,h5,_⟩,h7⟩:=bB7 hb 5 0 0 m e h;have hm:m=r:=by rw[h2];simp
  subst hm;exact⟨q,⟨by omega,h1,h3,h4,h5⟩,by rw[aJb ⟨h1,h3⟩];exact h7⟩
def Nw {b:List Int}(hb:aQ b):∀(k:Nat) (a:Int) (s v:List Int) (e:Int),0<=a->a<=b.length->jN b k a s=(v,e,true)->∃(t:List Int) (q:Nat),(v=s++t/\t.length=k/\e=(q:Int)/\q<=b.length/\aO6 t)/\b.drop a.toNat=gF t++b.drop q
 |0,a,s,v,e,h0,h1,h=>by
  unfold jN at h;injection h with e1 e2;injection e2 with e2 _;exact⟨[],a.toNat,⟨by simp[e1],rfl,by omega,by omega,λv hv=>by simp at hv⟩,rfl⟩
 |k+1,a,s,v,e,h0,h1,h=>by
  unfold jN at h;cases hu:wK b a with
  |mk m r=>
   obtain⟨e',ok⟩:=r;rw[hu] at h;cases ok with
   |false=>simp at h
   |true=>
    obtain⟨q,⟨g0,g1,g2,g3,g4⟩,g5⟩:=aT4 hb hu;subst g3;obtain⟨t,q',⟨k1,k2,k3,k4,k5⟩,k6⟩:=Nw hb k (q:Int) (s++[m]) v e (by omega) (by omega) h;refine⟨m::t,q',⟨by rw[k1];simp,by simp[k2],k3,k4,λx hx=> ?_⟩,by rw[g5,sO,cf];congr 1⟩;rcases aE.1 hx with rfl|hx
    ·exact⟨g1,g2⟩
    ·exact k5 x hx
def aK4 {b:List Int}:∀(j k:Nat) (a:Int) (s:List Int),jN b (j+k) a s=bif (jN b j a s).2.2 then jN b k (jN b j a s).2.1 (jN b j a s).1 else([],0,false)
 |0,k,a,s=>by rw[ca];rfl
 |j+1,k,a,s=>by
  have e:∀m,jN b (m+1) a s=bif (wK b a).2.2 then jN b m (wK b a).2.1 (s++[(wK b a).1]) else([],0,false):=λ_=>rfl;rw[show j+1+k=j+k+1 by omega,e,e];cases(wK b a).2.2 with
  |false=>rfl
  |true=>exact aK4 j k _ _
def aK5 {b:List Int}:∀(k:Nat) (a:Int) (s:List Int),jN b k a s=bif (jN b k a []).2.2 then(s++(jN b k a []).1,(jN b k a []).2.1,true) else([],0,false)
 |0,a,s=>by simp[jN]
 |k+1,a,s=>by
  unfold jN;cases(wK b a).2.2 with
  |false=>rfl
  |true=>simp only[ac,bn];rw[aK5 k _ (s++[(wK b a).1]),aK5 k _ [(wK b a).1]];cases(jN b k (wK b a).2.1 []).2.2<;>simp
def aO7 (e:D.Entry):List Int:=[e.Site,e.Handle,e.Version,bif e.Deleted then 1 else 0]
def kJ:List Int->List D.Entry
 |s::h::v::d::r=>⟨s,h,v,d==1⟩::kJ r
 |_=>[]
def jZ:List Int->Bool
 |_::_::_::d::r=>decide (d<=1)&&jZ r
 |_=>true
def iR (l:List D.Entry):List Int:=l.flatMap aO7
def sP:∀l:List D.Entry,(iR l).length=4*l.length
 |[]=>rfl
 |e::l=>by
  have:=sP l;simp only[iR,List.flatMap_cons,au,av] at*;rw[this];simp[aO7];omega
def Q5:∀(k:Nat) (l:List Int),l.length=4*k->(kJ l).length=k
 |0,[],_=>rfl
 |k+1,s::h::v::d::r,hl=>by
  have:=Q5 k r (by simp at hl;omega);simp[kJ,this]
def aR1:∀(k:Nat) (l:List Int),l.length=4*k->aO6 l->aO6 (iR (kJ l))/\(jZ l=true↔iR (kJ l)=l)
 |0,[],_,_=>⟨λv h=>by simp[iR,kJ] at h,by simp[jZ,iR,kJ]⟩
 |k+1,s::h::v::d::r,hl,ho=>by
  obtain⟨h1,h2⟩:=aR1 k r (by simp at hl;omega) (λx hx=>ho x (by simp[hx]));have hs:=ho s (by simp);have hh:=ho h (by simp);have hv:=ho v (by simp);have hd:=ho d (by simp);have e:iR (kJ (s::h::v::d::r))=s::h::v::(bif d==1 then 1 else 0)::iR (kJ r):=by simp[kJ,iR,aO7]
  rw[e];refine⟨λx hx=> ?_,?_⟩
  ·simp only[aE] at hx;rcases hx with rfl|rfl|rfl|rfl|hx
   ·exact hs
   ·exact hh
   ·exact hv
   ·cases(d==1)<;>simp
   ·exact h1 x hx
  ·simp only[jZ,aa,bp,fx,true_and,h2];refine and_congr_left' ?_;by_cases h1:d=1
   ·subst h1;simp
   ·rw[show(d==1)=false by simpa using h1,ab];omega
def aWx:∀(k:Nat) (l r:List Int),l.length=4*k->kJ (l++r)=kJ l++kJ r
 |0,[],r,_=>rfl
 |k+1,s::h::v::d::l,r,hl=>by
  have:=aWx k l r (by simp at hl;omega);simp[kJ,this]
def nX (b:D.aAB):List Int:=[(b.Entries.length:Int)]++iR b.Entries
def lT (b:D.aAB):List Int:=bif aK b then gF (nX b) else[]
def aWy (d:List Int)(v:List Int×Int×Bool):D.aAB×Bool:=bif !v.2.2||(v.2.1 !=(d.length:Int)||(!jZ v.1|| !aK ⟨kJ v.1⟩)) then(⟨[]⟩,false) else(⟨kJ v.1⟩,true)
def xN (d:List Int):D.aAB×Bool:=bif !(wK d 0).2.2||decide ((wK d 0).1>20) then(⟨[]⟩,false) else aWy d (jN d (4*(wK d 0).1).toNat (wK d 0).2.1 [])
def eZ (key:Int)(s:D.aAA):D.aAB×Bool:=bif !(bG key&&(bF s.Epoch 0 1000000&&bF s.Version 0 1000000))||s.MAC !=fZ key s then(⟨[]⟩,false) else xN (Kl (jP key s.Epoch s.Version) s.Data)
def bHw {d:List Int}(hd:aQ d){n e e':Int}{v:List Int}(h:wK d 0=(n,e,true))(hn:n<=20)(h':jN d (4*n).toNat e []=(v,e',true)):(gF (nX ⟨kJ v⟩)=d↔(e'=(d.length:Int)/\jZ v=true))/\v.length=4*n.toNat/\aO6 v/\(kJ v).length=n.toNat:=by
 obtain⟨q,⟨_,g1,g2,g3,g4⟩,g5⟩:=aT4 hd h;subst g3;obtain⟨t,q',⟨k1,k2,k3,k4,k5⟩,k6⟩:=Nw hd _ _ _ _ _ (by omega) (by omega) h';rw[bn] at k1;subst k1;have hl:v.length=4*n.toNat:=by omega
 obtain⟨f1,f2⟩:=aR1 n.toNat v hl k5;have hel:=Q5 n.toNat v hl;refine⟨?_,hl,k5,hel⟩;have hdd:d=gF (n::v)++d.drop q':=by have h0:d.drop (Int.toNat 0)=d:=rfl;rw[sO,cf,<-k6];exact h0▸g5
 have hv:nX ⟨kJ v⟩=n::iR (kJ v):=by show((kJ v).length:Int)::_=_;rw[hel];congr 1;omega
 rw[hv];constructor
 ·intro hq;have hx:gF (n::iR (kJ v))++[]=gF (n::v)++d.drop q':=by rw[cY,hq];exact hdd
  have hok:∀l,aO6 l->aO6 (n::l):=λl hl x hx=>by
   rcases aE.1 hx with rfl|hx
   ·exact⟨g1,g2⟩
   ·exact hl x hx
  obtain⟨y1,y2⟩:=aWw _ _ _ _ (hok _ f1) (hok _ k5) (by simp[sP,hel,hl]) hx;have:=congrArg List.length y2;simp only[bo,cn] at this;exact⟨by omega,f2.2 (List.cons.inj y1).2⟩
 ·rintro⟨h1,h2⟩;rw[f2.1 h2];have:d.drop q'=[]:=fW (by omega);rw[this,cY] at hdd;exact hdd.symm
def aR2 (l:List Int):(EV.bC4 l).data.toList=l.map λn=>UInt8.ofNat n.toNat:=by
 unfold EV.bC4;have:∀(l:List Int) (r:ByteArray),(l.foldl (λr n=>r.push (UInt8.ofNat n.toNat)) r).data.toList=r.data.toList++l.map λn=>UInt8.ofNat n.toNat:=by
  intro l;induction l with
  |nil=>intro r;simp
  |cons x l ih=>intro r;rw[dc,ih];simp
 rw[this];rfl
def bytes_inj:∀{a b:List Int},(∀z∈a,0<=z/\z<=255)->(∀z∈b,0<=z/\z<=255)->(a.map λn=>UInt8.ofNat n.toNat)=(b.map λn=>UInt8.ofNat n.toNat)->a=b
 |[],[],_,_,_=>rfl
 |[],y::b,_,_,h=>by simp at h
 |x::a,[],_,_,h=>by simp at h
 |x::a,y::b,ha,hb,h=>by
  simp only[bm,fx] at h;have hx:=ha x (by simp);have hy:=hb y (by simp);have e:=congrArg UInt8.toNat h.1;rw[UInt8.toNat_ofNat',UInt8.toNat_ofNat'] at e;rw[bytes_inj (λz hz=>ha z (by simp[hz])) (λz hz=>hb z (by simp[hz])) h.2,show x=y by omega]
def Ny {b:List Int}(h:aQ b):∀z∈b,0<=z/\z<=255:=λz hz=>by simpa using cF.1 h.2 z hz
def aK6 {b:List Int}(h:b.length<=34359738368)(h1:∀z∈b,0<=z/\z<=255):aQ b:=⟨h,cF.2 λz hz=>by simpa using h1 z hz⟩
def aR3:∀(k:Nat) (n:Int),0<=n->n<128^(k+1)->∀z∈uvE k n,0<=z/\z<=255
 |0,n,h0,h1,z,hz=>by simp[uvE] at hz;subst hz;simp at h1;omega
 |k+1,n,h0,h1,z,hz=>by
  have h2:(128:Int)^(k+1+1)=128*128^(k+1):=by rw[e9];omega
  unfold uvE at hz;by_cases hn:n>127
  ·rw[ao hn,ac] at hz;rcases aE.1 hz with rfl|hz
   ·omega
   ·exact aR3 k (n/128) (by omega) (by omega) z hz
  ·rw[aw hn,ab] at hz;simp at hz;subst hz;omega
def aZg (n:Int):∀z∈enc1 n,0<=z/\z<=255:=λz hz=>by
 unfold enc1 at hz;cases hr:bF n 0 1000000000000 with
 |false=>rw[hr] at hz;simp at hz
 |true=>
  rw[hr] at hz;have:=jJ hr;have h7:(128:Int)^(5+1)=4398046511104:=by decide
  exact aR3 5 n this.1 (by omega) z hz
def Ya (l:List Int):∀z∈gF l,0<=z/\z<=255:=λz hz=>by
 unfold gF at hz;obtain⟨x,hx,hz⟩:=jf.1 hz;obtain⟨n,_,rfl⟩:=cj.1 hx;exact aZg n z hz
def kQ {b:D.aAB}(h:aK b=true):b.Entries.length<=20:=by simp only[aK,aa,bp] at h;omega
def Q6 (b:D.aAB):aQ (lT b):=by
 unfold lT;cases hb:aK b with
 |false=>exact⟨by simp,rfl⟩
 |true=>
  have:=kQ hb;have h1:=Q4 (nX b);have h2:(nX b).length=1+4*b.Entries.length:=by simp[nX,sP];omega
  exact aK6 (by rw[ac];omega) (Ya _)
def bHx (d:List Int):(xN d).1.sz<=20:=by
 have h0:(D.aAB.mk []).sz<=20:=by simp[D.aAB.sz]
 unfold xN;cases !(wK d 0).2.2||decide ((wK d 0).1>20) with
 |true=>exact h0
 |false=>
  rw[ab];generalize jN d (4*(wK d 0).1).toNat (wK d 0).2.1 []=v;unfold aWy;cases hb:aK ⟨kJ v.1⟩ with
  |false=>simp only[dk,jc,ac];exact h0
  |true=>
   have:=kQ hb;cases !v.2.2||(v.2.1 !=(d.length:Int)||(!jZ v.1|| !true)) with
   |true=>exact h0
   |false=>simp only[ab,D.aAB.sz] at*;omega
def aR4 (k:Int)(s:D.aAA):(eZ k s).1.sz<=20:=by
 unfold eZ;cases !(bG k&&(bF s.Epoch 0 1000000&&bF s.Version 0 1000000))||s.MAC !=fZ k s with
 |true=>simp[D.aAB.sz]
 |false=>exact bHx _
def aC2 {a b:D.aAB}(h:(dX a b).2=true):(dX a b).1.sz<=20:=by
 unfold dX at*;cases hc:aK a&&aK b with
 |false=>rw[hc] at h;cases h
 |true=>
  rw[hc] at h;cases hm:aK ⟨bM a.Entries b.Entries⟩ with
  |false=>rw[hm] at h;cases h
  |true=>have:=kQ hm;simp only[ac,D.aAB.sz];omega
def gU (d:D.Device)(log:List D.aAC)(bx:D.aAF)(s:D.aAA):Int:=
 bif !bB log|| !cO log d.Log then 1 else bif !gX (aH log) (bA d.Store) then 2 else bif bx.Epoch !=aL log|| !(bD d.Store bx).2 then 3
 else bif decide (s.Epoch<aL log)||(decide (s.Epoch<d.Epoch)||(s.Epoch==d.Epoch&&decide (s.Version<d.Version))) then 4
 else bif !(eZ (bD d.Store bx).1 s).2|| !(dX d.aAB (eZ (bD d.Store bx).1 s).1).2 then 5 else 0
def bS (d:D.Device)(log:List D.aAC)(bx:D.aAF)(s:D.aAA):D.Device×Int:=
 bif gU d log bx s==0 then(⟨d.Store,log,(bD d.Store bx).1,s.Epoch,s.Version,(dX d.aAB (eZ (bD d.Store bx).1 s).1).1⟩,0) else(d,gU d log bx s)
def aI (w:D.World)(d b:Int):D.World×Int:=bif aR w&&aM w d then({w with Devices:=w.Devices.set d.toNat (bS (aN w d) w.aAD.Log w.aAD.Boxes (dI w.aAD b).1).1},(bS (aN w d) w.aAD.Log w.aAD.Boxes (dI w.aAD b).1).2) else(w,1)
def dG (w:D.World)(d:Int):Bool:=w.Stolen.getD d.toNat false
def dY (w:D.World)(d:Int):D.World×Int:=bif aR w&&(aM w d&&dG w d) then aI w d 0 else(w,1)
def aK7 (d:D.Device)(l:List D.aAC)(bx:D.aAF)(s:D.aAA):(bS d l bx s).1.sz<=d.sz+l.length+20:=by
 unfold bS;cases hc:gU d l bx s==0 with
 |false=>simp only[ab];omega
 |true=>
  have hm:(dX d.aAB (eZ (bD d.Store bx).1 s).1).2=true:=by
   cases hm:(dX d.aAB (eZ (bD d.Store bx).1 s).1).2 with
   |true=>rfl
   |false=>
    unfold gU at hc;rw[hm] at hc
    revert hc
    cases !bB l|| !cO l d.Log<;>cases !gX (aH l) (bA d.Store)<;>cases bx.Epoch !=aL l|| !(bD d.Store bx).2<;>cases decide (s.Epoch<aL l)||(decide (s.Epoch<d.Epoch)||(s.Epoch==d.Epoch&&decide (s.Version<d.Version)))<;>cases !(eZ (bD d.Store bx).1 s).2<;>simp
  have:=aC2 hm;simp only[ac,D.Device.sz,D.aAB.sz] at*;omega
def aT5 (k:Int)(i:Nat)(z:Int):Int:=IntKind.u8.wrap ((z+bJ k [(i:Int)])%256)
def jC (k:Int)(b:List Int):List Int:=Kj (λi z=>[aT5 k i z]) 0 b
def nY (k e v:Int)(b:D.aAB):D.aAA:=⟨e,v,jC (jP k e v) (lT b),fZ k ⟨e,v,jC (jP k e v) (lT b),0⟩⟩
def jD (k e v:Int)(b:D.aAB):D.aAA×Bool:=bif bG k&&(bF e 0 1000000&&bF v 0 1000000)&&aK b then(nY k e v b,true) else(⟨0,0,[],0⟩,false)
def bN (d:D.Device):D.Device×D.aAA×Bool:=bif (jD d.Key d.Epoch (IntKind.i64.wrap (d.Version+1)) d.aAB).2 then({d with Version:=IntKind.i64.wrap (d.Version+1)},(jD d.Key d.Epoch (IntKind.i64.wrap (d.Version+1)) d.aAB).1,true) else(d,⟨0,0,[],0⟩,false)
def kF (a b:D.aAA):Bool:=decide (a.Epoch>b.Epoch)||(a.Epoch==b.Epoch&&decide (a.Version>b.Version))
def bO (c:D.aAD)(s:D.aAA):D.aAD×Bool:=bif s.Epoch !=aL c.Log||((decide ((c.History.length:Int)>0)&& !kF s (c.History.getD (c.History.length-1) default))||decide ((c.History.length:Int)>=60)) then(c,false) else({c with History:=c.History++[s]},true)
def Gq (w:D.World)(d:Int):D.World×Bool:=bif (bN (aN w d)).2.2&&(bO w.aAD (bN (aN w d)).2.1).2 then({w with Devices:=w.Devices.set d.toNat (bN (aN w d)).1,aAD:=(bO w.aAD (bN (aN w d)).2.1).1},true) else(w,false)
def dL (w:D.World)(d:Int):D.World×Bool:=bif (aI w d 0).2==0&&(Gq (aI w d 0).1 d).2 then((Gq (aI w d 0).1 d).1,true) else(w,false)
def Dl (b:D.aAB):(lT b).length<=500:=by
 unfold lT;cases hb:aK b with
 |false=>simp
 |true=>
  have:=kQ hb;have h1:=Q4 (nX b);have h2:(nX b).length=1+4*b.Entries.length:=by simp[nX,sP];omega
  rw[ac];omega
def xO (k:Int)(b:List Int):(jC k b).length=b.length:=by unfold jC;exact qC
def aR5 (k e v:Int)(b:D.aAB):(jD k e v b).1.Data.length<=500:=by
 unfold jD;cases bG k&&(bF e 0 1000000&&bF v 0 1000000)&&aK b with
 |false=>simp
 |true=>simp only[ac,nY,xO];exact Dl b
def wU (d:D.Device):(bN d).1.sz=d.sz/\(bN d).2.1.Data.length<=500:=by
 unfold bN;have:=aR5 d.Key d.Epoch (IntKind.i64.wrap (d.Version+1)) d.aAB;cases(jD d.Key d.Epoch (IntKind.i64.wrap (d.Version+1)) d.aAB).2 with
 |false=>exact⟨rfl,by simp⟩
 |true=>exact⟨rfl,this⟩
def oI (c:D.aAD)(s:D.aAA):(bO c s).1.sz<=c.sz+1+s.Data.length/\(bO c s).1.Log=c.Log:=by
 unfold bO;cases s.Epoch !=aL c.Log||((decide ((c.History.length:Int)>0)&& !kF s (c.History.getD (c.History.length-1) default))||decide ((c.History.length:Int)>=60)) with
 |true=>exact⟨by simp only[ac];omega,rfl⟩
 |false=>refine⟨?_,rfl⟩;simp only[ab,D.aAD.sz,au,cT,eR,av,bo,bm,ex,dg,fN,D.aAA.sz];omega
def sQ {α:Type}{f:α->Nat}:∀{l:List α} {i:Nat} {x:α} (hi:i<l.length),((l.set i x).map f).sum+f l[i]=(l.map f).sum+f x
 |y::l,0,x,_=>by simp only[List.set_cons_zero,bm,dg,gR];omega
 |y::l,i+1,x,h=>by
  have:=sQ (f:=f) (l:=l) (i:=i) (x:=x) (by simpa using h);simp only[gn,bm,dg,eJ];omega
def kR {w:D.World}{d b:Int}(h:((aI w d b).2==0)=true):(aR w=true/\aM w d=true)/\(aI w d b).1.aAD=w.aAD/\(aI w d b).1.Devices.length=w.Devices.length/\(aI w d b).1.sz<=w.sz+w.aAD.Log.length+20:=by
 unfold aI at*;cases hc:(aR w&&aM w d) with
 |false=>rw[hc] at h;cases h
 |true=>
  rw[hc] at h;simp only[ac] at h ⊢;rw[aa] at hc;refine⟨hc,by first|rfl|trivial,by first|exact ax|simp,?_⟩;have hd:=hc.2;simp only[aM,aa,bp] at hd;have hi:d.toNat<w.Devices.length:=by omega
  have hz:(bS (aN w d) w.aAD.Log w.aAD.Boxes (dI w.aAD b).1).1.sz<=w.aAD.Log.length+20:=by
   unfold bS at*;cases hs:gU (aN w d) w.aAD.Log w.aAD.Boxes (dI w.aAD b).1==0 with
   |false=>rw[hs] at h;simp only[ab] at h;rw[hs] at h;cases h
   |true=>
    have hm:(dX (aN w d).aAB (eZ (bD (aN w d).Store w.aAD.Boxes).1 (dI w.aAD b).1).1).2=true:=by
     cases hm:(dX (aN w d).aAB (eZ (bD (aN w d).Store w.aAD.Boxes).1 (dI w.aAD b).1).1).2 with
     |true=>rfl
     |false=>
      unfold gU at hs;rw[hm] at hs
      revert hs
      generalize(aN w d)=x;generalize(dI w.aAD b).1=s;cases !bB w.aAD.Log|| !cO w.aAD.Log x.Log<;>cases !gX (aH w.aAD.Log) (bA x.Store)<;>cases w.aAD.Boxes.Epoch !=aL w.aAD.Log|| !(bD x.Store w.aAD.Boxes).2<;>cases decide (s.Epoch<aL w.aAD.Log)||(decide (s.Epoch<x.Epoch)||(s.Epoch==x.Epoch&&decide (s.Version<x.Version)))<;>cases !(eZ (bD x.Store w.aAD.Boxes).1 s).2<;>simp
    have:=aC2 hm;simp only[ac,D.Device.sz,D.aAB.sz] at*;omega
  have h1:=sQ (f:=D.Device.sz) (l:=w.Devices) (i:=d.toNat) (x:=(bS (aN w d) w.aAD.Log w.aAD.Boxes (dI w.aAD b).1).1) hi;generalize(bS (aN w d) w.aAD.Log w.aAD.Boxes (dI w.aAD b).1).1=x at*;simp only[D.World.sz,ax] at*;omega
def bMk {w:D.World}{d:Int}(hd:aM w d=true):(Gq w d).1.aAD.Log=w.aAD.Log/\(Gq w d).1.Devices.length=w.Devices.length/\(Gq w d).1.sz<=w.sz+501:=by
 unfold Gq;cases(bN (aN w d)).2.2&&(bO w.aAD (bN (aN w d)).2.1).2 with
 |false=>exact⟨rfl,rfl,by simp only[ab];omega⟩
 |true=>
  have hu:=oI w.aAD (bN (aN w d)).2.1;have hw:=wU (aN w d);simp only[aM,aa,bp] at hd;have hi:d.toNat<w.Devices.length:=by omega
  have h1:=sQ (f:=D.Device.sz) (l:=w.Devices) (i:=d.toNat) (x:=(bN (aN w d)).1) hi;have e:w.Devices[d.toNat]=aN w d:=by simp[aN,List.getD,ae hi]
  rw[e] at h1;refine⟨hu.2,ax,?_⟩;generalize(bO w.aAD (bN (aN w d)).2.1).1=c at*;generalize bN (aN w d)=x at*;simp only[ac,D.World.sz,D.aAD.sz,ax] at*;omega
def aJc {w:D.World}{d:Int}(h:(dL w d).2=true):(dL w d).1.aAD.Log=w.aAD.Log/\(dL w d).1.sz<=w.sz+w.aAD.Log.length+521:=by
 unfold dL at*;cases hc:((aI w d 0).2==0&&(Gq (aI w d 0).1 d).2) with
 |false=>rw[hc] at h;cases h
 |true=>
  rw[aa] at hc;obtain⟨⟨k1,k2⟩,k3,k4,k5⟩:=kR hc.1;have hd:aM (aI w d 0).1 d=true:=by simp only[aM] at*;rw[k4];exact k2
  obtain⟨j1,j2,j3⟩:=bMk hd;simp only[ac];exact⟨by rw[j1,k3],by omega⟩
def bHy {k z:Int}(i:Nat)(h:0<=z/\z<=255):IntKind.u8.wrap ((IntKind.i64.wrap (IntKind.i64.wrap z+bJ k [(i:Int)])).tmod 256)=aT5 k i z:=by have:=kM k [(i:Int)];rw[aJ (n:=z) (by omega) (by omega),aJ (by omega) (by omega),cp (by omega)];rfl
def bHz {k z:Int}(i:Nat)(h:0<=z/\z<=255):IntKind.u8.wrap ((IntKind.i64.wrap (IntKind.i64.wrap z+(bJ k [(i:Int)]).tmod 256)).tmod 256)=aT5 k i z:=by have:=kM k [(i:Int)];rw[aJ (n:=z) (by omega) (by omega),show(bJ k [(i:Int)]).tmod 256=bJ k [(i:Int)]%256 from cp this.1,aJ (by omega) (by omega),cp (by omega),aT5];congr 1;omega
def aP (seed n:Int):D.aAI:=⟨1,n,aU seed [277,n],0⟩
def bQ (s:D.aAI):D.Device:=⟨s,[],0,0,0,⟨[]⟩⟩
def eT (s:D.aAI)(n:ByteArray)(h:Int):Int:=aU s.Seed [179,bH n,h]
def dP (s:D.aAI)(n:ByteArray)(h:Int):Int:=cK (eT s n h)
def qE (s:D.aAI)(l:List Int):Int:=Ab (fU s) l
def aZh (log:List D.aAC)(kind dev:Int)(s:D.aAI):D.aAC:=⟨(log.length:Int),kind,dev,bA s,fV log,0⟩
def bD7 (log:List D.aAC)(kind dev:Int)(s:D.aAI):D.aAC:={aZh log kind dev s with Signature:=qE s [cB (aZh log kind dev s)]}
def dS (log:List D.aAC)(kind dev:Int)(s:D.aAI):List D.aAC×Bool:=bif (decide ((log.length:Int)>0)&& !bB log)|| !bB (log++[bD7 log kind dev s]) then(log,false) else(log++[bD7 log kind dev s],true)
def gB (p e:Int)(d:List Int):D.Box:=⟨p,e,jC (fH (eU p) e) d,Np (fH (eU p) e) ⟨p,e,jC (fH (eU p) e) d,0⟩⟩
def eG (p e:Int)(d:List Int):D.Box×Bool:=bif eU p==0||(!bG e||decide ((d.length:Int)>200)) then(⟨0,0,[],0⟩,false) else(gB p e d,true)
def eH (e:Int)(d:List Int):Nat->List Int->List D.Box×Bool
 |_,[]=>([],true)
 |i,p::l=>bif (eG p (IntKind.i64.wrap (e+(i:Int))) d).2&&(eH e d (i+1) l).2 then((eG p (IntKind.i64.wrap (e+(i:Int))) d).1::(eH e d (i+1) l).1,true) else([],false)
def bC (log:List D.aAC)(key eph:Int):D.aAF×Bool:=bif !bB log||(!bG key|| !(eH eph (gF [aL log,key]) 0 (aH log)).2) then(⟨0,[]⟩,false) else(⟨aL log,(eH eph (gF [aL log,key]) 0 (aH log)).1⟩,true)
def qF (e:D.aAF)(d:Int):Int:=e.Boxes.foldl (λn b=>bif b.To==d then IntKind.i64.wrap (n+1) else n) 0
def gK (e:D.aAF)(log:List D.aAC):Bool:=(e.Epoch==aL log&&(e.Boxes.length:Int)==((aH log).length:Int))&&(aH log).all λd=>qF e d==1
def jV (c:D.aAD)(log:List D.aAC)(e:D.aAF):D.aAD×Bool:=bif !bB log||(!cO log c.Log|| !gK e log) then(c,false) else({c with Log:=log,Boxes:=e},true)
def Yc (h:Int)(l:List D.aAK):Nat:=(l.takeWhile λc=>decide (c.Handle<h)).length
def aG1 (l:List D.aAK)(h p:Int):List D.aAK:=l.take (Yc h l)++[⟨h,p,0,false⟩]++l.drop (Yc h l)
def iB (a:D.aAH)(h p:Int):D.aAH×Bool:=bif !aZ a|| !aZ {a with Credentials:=aG1 a.Credentials h p} then(a,false) else({a with Credentials:=aG1 a.Credentials h p},true)
def eQ (s:D.Site)(id h p:Int):D.Site×Bool:=bif !dD s||decide (aD s id<0) then(s,false) else bif (iB (s.Accounts.getD (aD s id).toNat default) h p).2 then({s with Accounts:=s.Accounts.set (aD s id).toNat (iB (s.Accounts.getD (aD s id).toNat default) h p).1},true) else(s,false)
def xP (l:List D.aAR):Nat:=bif l.any (λn=>n.Seen) then(l.takeWhile λn=> !n.Seen).length else 0
def Jb (l:List D.aAR):List D.aAR:=bif decide ((l.length:Int)>30) then l.take (xP l)++l.drop (xP l+1) else l
def vI (m:D.aAJ)(k a t:Int):D.aAJ×Bool:=bif !dZ m|| !dZ ⟨Jb (m.Notices++[⟨k,a,t,false⟩])⟩ then(m,false) else(⟨Jb (m.Notices++[⟨k,a,t,false⟩])⟩,true)
def iF (w:D.World)(by_ kind pub:Int)(key:List D.aAC->Int):D.World×Bool:=
 let l:=dS w.aAD.Log kind pub (aN w by_).Store;let e:=bC l.1 (key l.1) (IntKind.i64.wrap (1000+IntKind.i64.wrap (10*(l.1.length:Int))));let c:=jV w.aAD l.1 e.1
 bif l.2&&(e.2&&c.2) then({w with aAD:=c.1},true) else(w,false)
def oJ (log:List D.aAC)(k d:Int)(s:D.aAI):(dS log k d s).1.length<=log.length+1:=by unfold dS;cases(decide ((log.length:Int)>0)&& !bB log)|| !bB (log++[bD7 log k d s])<;>simp
def aZi (p e:Int)(d:List Int):(eG p e d).1.sz<=d.length:=by
 unfold eG;cases eU p==0||(!bG e||decide ((d.length:Int)>200)) with
 |true=>simp[D.Box.sz]
 |false=>simp only[ab,gB,D.Box.sz,xO];exact aj _
def aWz {e:Int}{d:List Int}:∀{i:Nat} {l:List Int},(eH e d i l).1.length<=l.length/\((eH e d i l).1.map D.Box.sz).sum<=l.length*d.length
 |i,[]=>by simp[eH]
 |i,p::l=>by
  have h1:=aWz (e:=e) (d:=d) (i:=i+1) (l:=l);have h2:=aZi p (IntKind.i64.wrap (e+(i:Int))) d;unfold eH;cases(eG p (IntKind.i64.wrap (e+(i:Int))) d).2&&(eH e d (i+1) l).2 with
  |false=>simp
  |true=>simp only[ac,av,bm,dg,dr];omega
def aW0 (a b:Int):(gF [a,b]).length<=12:=Q4 [a,b]
def Dm (log:List D.aAC)(k e:Int):(bC log k e).1.sz<=13*log.length:=by
 unfold bC;have h1:=aWz (e:=e) (d:=gF [aL log,k]) (i:=0) (l:=aH log);have h2:=iI log;have h3:=aW0 (aL log) k;have h4:=fu (aH log).length h3;cases !bB log||(!bG k|| !(eH e (gF [aL log,k]) 0 (aH log)).2) with
 |true=>simp[D.aAF.sz]
 |false=>simp only[ab,D.aAF.sz];omega
def bH0 (c:D.aAD)(l:List D.aAC)(e:D.aAF):(jV c l e).1.sz<=c.sz+l.length+e.sz/\(jV c l e).1.History=c.History:=by
 unfold jV;cases !bB l||(!cO l c.Log|| !gK e l) with
 |true=>exact⟨by simp only[ac];omega,rfl⟩
 |false=>exact⟨by simp only[ab,D.aAD.sz,D.aAF.sz];omega,rfl⟩
def aW1 (l:List D.aAK)(h p:Int):(aG1 l h p).length=l.length+1:=by simp only[aG1,au,ce,cn,cu];omega
def aZj (a:D.aAH)(h p:Int):(iB a h p).1.sz<=a.sz+1:=by
 unfold iB;cases !aZ a|| !aZ {a with Credentials:=aG1 a.Credentials h p} with
 |true=>simp only[ac];omega
 |false=>simp only[ab,D.aAH.sz,aW1];exact aj _
def aR6 (l:List D.aAR):(Jb l).length<=l.length:=by
 unfold Jb;cases decide ((l.length:Int)>30) with
 |false=>exact aj _
 |true=>simp only[ac,au,ce,cn];omega
def bB8 (m:D.aAJ)(k a t:Int):(vI m k a t).1.sz<=m.sz+1:=by
 unfold vI;have:=aR6 (m.Notices++[⟨k,a,t,false⟩]);simp only[au,cu] at this;cases !dZ m|| !dZ ⟨Jb (m.Notices++[⟨k,a,t,false⟩])⟩ with
 |true=>simp only[ac];omega
 |false=>simp only[ab,D.aAJ.sz];omega
def mP {α:Type}{p:α->Bool}{i:Nat}{l:List α}(h:decide (iL p i l<0)=false):(i:Int)<=iL p i l/\iL p i l<i+l.length:=by
 induction l generalizing i with
 |nil=>simp[iL] at h
 |cons x l ih=>
  unfold iL at h ⊢;cases hp:p x with
  |true=>simp only[ac,av];omega
  |false=>rw[hp] at h;have:=ih (i:=i+1) h;simp only[ab,av];omega
def aR7 (s:D.Site)(id h p:Int):(eQ s id h p).1.sz<=s.sz+1:=by
 unfold eQ;cases hc: !dD s||decide (aD s id<0) with
 |true=>simp only[ac];omega
 |false=>
  rw[bq] at hc;have hr:=mP hc.2;simp only[ab];cases(iB (s.Accounts.getD (aD s id).toNat default) h p).2 with
  |false=>simp only[ab];omega
  |true=>
   have hi:(aD s id).toNat<s.Accounts.length:=by unfold aD;omega
   have h1:=sQ (f:=D.aAH.sz) (l:=s.Accounts) (i:=(aD s id).toNat) (x:=(iB (s.Accounts.getD (aD s id).toNat default) h p).1) hi;have h2:=aZj (s.Accounts.getD (aD s id).toNat default) h p;have e:s.Accounts.getD (aD s id).toNat default=s.Accounts[(aD s id).toNat]:=by simp[List.getD,ae hi]
   rw[e] at h1 h2 ⊢;simp only[ac,D.Site.sz,ax];omega
def appW (w:D.World)(x:D.Device):D.World:={w with Devices:=w.Devices++[x],Stolen:=w.Stolen++[false]}
def aW2 {w:D.World}(x:D.Device){d:Int}(h:aM w d=true)(hn:w.Devices.length<6):aR (appW w x)=aR w:=by
 simp only[aM,aa,bp] at h;have e1:bF ((w.Devices++[x]).length:Int) 1 6=bF (w.Devices.length:Int) 1 6:=by simp only[bF,au,cu];rw[ao (show(1:Int)<=((w.Devices.length+1:Nat):Int) by omega),ao (show((w.Devices.length+1:Nat):Int)<=6 by omega),ao (show(1:Int)<=(w.Devices.length:Int) by omega),ao (show(w.Devices.length:Int)<=6 by omega)]
 have e2:(((w.Stolen++[false]).length:Int)==((w.Devices++[x]).length:Int))=((w.Stolen.length:Int)==(w.Devices.length:Int)):=by rw[eE,cG,cG];simp only[au,cu];omega
 unfold aR;simp only[appW,e1,e2]
def aZk {w:D.World}(x:D.Device){d:Int}(h:aM w d=true):aM (appW w x) d=true:=by simp only[aM,aa,bp,appW,au,cu] at*;omega
def aR8 {w:D.World}(x:D.Device){d:Int}(h:aM w d=true):aN (appW w x) d=aN w d:=by simp only[aM,aa,bp] at h;simp only[aN,appW,List.getD,aq (show d.toNat<w.Devices.length by omega)]
def bH1 {w:D.World}(x:D.Device){d:Int}(b:Int)(h:aM w d=true)(hn:w.Devices.length<6):aI (appW w x) d b=(appW (aI w d b).1 x,(aI w d b).2):=by
 have h':=h;simp only[aM,aa,bp] at h';unfold aI;rw[aW2 x h hn,aZk x h,aR8 x h,h];cases aR w with
 |false=>rfl
 |true=>simp only[dw,ac];congr 1;simp only[appW,List.set_append_left _ _ (show d.toNat<w.Devices.length by omega)]
def bOv {w:D.World}(x:D.Device){d:Int}(h:aM w d=true):Gq (appW w x) d=(appW (Gq w d).1 x,(Gq w d).2):=by
 have h':=h;simp only[aM,aa,bp] at h';unfold Gq;rw[aR8 x h,show(appW w x).aAD=w.aAD from rfl];cases(bN (aN w d)).2.2&&(bO w.aAD (bN (aN w d)).2.1).2 with
 |false=>rfl
 |true=>simp only[ac,appW,List.set_append_left _ _ (show d.toNat<w.Devices.length by omega)]
def bH2 {w:D.World}(x:D.Device){d:Int}(h:aM w d=true)(hn:w.Devices.length<6):dL (appW w x) d=(appW (dL w d).1 x,(dL w d).2):=by
 unfold dL;rw[bH1 x 0 h hn];cases hs:((aI w d 0).2==0) with
 |false=>simp only[eM,ab]
 |true=>
  obtain⟨_,_,k4,_⟩:=kR hs;have hd:aM (aI w d 0).1 d=true:=by simp only[aM] at*;rw[k4];exact h
  rw[bOv x hd];cases(Gq (aI w d 0).1 d).2<;>rfl
def Q7 (w:D.World)(b k p:Int)(key:List D.aAC->Int):(iF w b k p key).1.sz<=w.sz+14*(w.aAD.Log.length+1)/\(iF w b k p key).1.aAD.Log.length<=w.aAD.Log.length+1/\(iF w b k p key).1.Devices=w.Devices/\(iF w b k p key).1.Sites=w.Sites:=by
 unfold iF;dsimp only;have h1:=oJ w.aAD.Log k p (aN w b).Store;generalize(dS w.aAD.Log k p (aN w b).Store)=l at*;have h2:=Dm l.1 (key l.1) (IntKind.i64.wrap (1000+IntKind.i64.wrap (10*(l.1.length:Int))));have h3:=(bH0 w.aAD l.1 (bC l.1 (key l.1) (IntKind.i64.wrap (1000+IntKind.i64.wrap (10*(l.1.length:Int))))).1).1;have h4:(jV w.aAD l.1 (bC l.1 (key l.1) (IntKind.i64.wrap (1000+IntKind.i64.wrap (10*(l.1.length:Int))))).1).1.Log.length<=w.aAD.Log.length+1:=by
  unfold jV;cases !bB l.1||(!cO l.1 w.aAD.Log|| !gK (bC l.1 (key l.1) (IntKind.i64.wrap (1000+IntKind.i64.wrap (10*(l.1.length:Int))))).1 l.1) with
  |true=>simp only[ac];omega
  |false=>simp only[ab];exact h1
 generalize bC l.1 (key l.1) (IntKind.i64.wrap (1000+IntKind.i64.wrap (10*(l.1.length:Int))))=e at*;generalize jV w.aAD l.1 e.1=c at*;cases l.2&&(e.2&&c.2) with
 |false=>exact⟨by show w.sz<=_;omega,by show w.aAD.Log.length<=_;omega,rfl,rfl⟩
 |true=>exact⟨by show(D.World.sz {w with aAD:=c.1})<=_;simp only[D.World.sz,D.aAD.sz] at*;omega,h4,rfl,rfl⟩
def nH (d:D.Device)(h:Int)(rm:Bool):D.Device:=(bW (bW d (aA 0) h rm).1 (aA 1) h rm).1
def fP (st:D.aAI)(n:Int):Nat->List D.Site->List D.Site×Bool
 |_,[]=>([],true)
 |j,s::l=>bif (eQ s 1 n (dP st (aA (j:Int)) n)).2&&(fP st n (j+1) l).2 then((eQ s 1 n (dP st (aA (j:Int)) n)).1::(fP st n (j+1) l).1,true) else([],false)
def Oa (w:D.World)(k:Int):D.World:={w with Mail:=(vI w.Mail k 1 w.Now).1}
def add1 (w:D.World)(b:Int):D.World×Bool:=iF (aI w b 0).1 b 1 (bA (aP w.Seed (w.Devices.length:Int))) λ_=>(aN (aI w b 0).1 b).Key
def aK8 (w:D.World)(b:Int):List D.Site×Bool:=fP (aP w.Seed (w.Devices.length:Int)) (w.Devices.length:Int) 0 (add1 w b).1.Sites
def oK (w:D.World)(b:Int):D.World×Bool:=dL {(add1 w b).1 with Sites:=(aK8 w b).1,Devices:=(add1 w b).1.Devices.set b.toNat (nH (aN (add1 w b).1 b) (w.Devices.length:Int) false)} b
def zT (w:D.World)(b:Int):D.World×Int:=aI (appW (oK w b).1 (bQ (aP w.Seed (w.Devices.length:Int)))) (w.Devices.length:Int) 0
def Q8 (w:D.World)(b:Int):Bool:=(aR w&&(aM w b&&(!dG w b&& !decide ((w.Devices.length:Int)>=6))))&&((aI w b 0).2==0&&((add1 w b).2&&((aK8 w b).2&&((oK w b).2&&(zT w b).2==0))))
def iG (w:D.World)(b:Int):D.World×Bool:=bif Q8 w b then(Oa (zT w b).1 2,true) else(w,false)
def aJd (d:D.Device)(h:Int)(rm:Bool):(nH d h rm).sz<=d.sz+2:=by have h1:=Dk (bW d (aA 0) h rm).1 (aA 1) h rm;have h2:=Dk d (aA 0) h rm;unfold nH;omega
def aC3 {st:D.aAI}{n:Int}:∀{j:Nat} {l:List D.Site},(fP st n j l).1.length<=l.length/\((fP st n j l).1.map D.Site.sz).sum<=(l.map D.Site.sz).sum+l.length
 |j,[]=>by simp[fP]
 |j,s::l=>by
  have h1:=aC3 (st:=st) (n:=n) (j:=j+1) (l:=l);have h2:=aR7 s 1 n (dP st (aA (j:Int)) n);unfold fP;cases(eQ s 1 n (dP st (aA (j:Int)) n)).2&&(fP st n (j+1) l).2 with
  |false=>simp
  |true=>simp only[ac,av,bm,dg];omega
def bD8 {w:D.World}{b:Int}(h0:((aI w b 0).2==0)=true):(aM (add1 w b).1 b=true/\(add1 w b).1.Devices.length=w.Devices.length)/\(add1 w b).1.sz<=16*w.sz+34/\(add1 w b).1.aAD.Log.length<=w.sz+1:=by
 obtain⟨⟨k1,k2⟩,k3,k4,k5⟩:=kR h0;have hL:w.aAD.Log.length<=w.sz:=by simp only[D.World.sz,D.aAD.sz];omega
 obtain⟨g1,g2,g3,g4⟩:=Q7 (aI w b 0).1 b 1 (bA (aP w.Seed (w.Devices.length:Int))) (λ_=>(aN (aI w b 0).1 b).Key);rw[k3] at g1 g2;refine⟨⟨?_,by show(iF _ _ _ _ _).1.Devices.length=_;rw[g3,k4]⟩,by unfold add1;omega,by unfold add1;omega⟩;simp only[aM] at*;unfold add1;rw[g3,k4];exact k2
def jQ (w:D.World)(b:Int):D.World:={(add1 w b).1 with Sites:=(aK8 w b).1,Devices:=(add1 w b).1.Devices.set b.toNat (nH (aN (add1 w b).1 b) (w.Devices.length:Int) false)}
def aW3 {w:D.World}{b:Int}(h0:((aI w b 0).2==0)=true):(aM (jQ w b) b=true/\(jQ w b).Devices.length=w.Devices.length)/\(jQ w b).sz<=32*w.sz+80/\(jQ w b).aAD.Log.length<=w.sz+1:=by
 obtain⟨⟨h1,h2⟩,h3,h4⟩:=bD8 h0;have h5:=aC3 (st:=aP w.Seed (w.Devices.length:Int)) (n:=(w.Devices.length:Int)) (j:=0) (l:=(add1 w b).1.Sites);have h6:=aJd (aN (add1 w b).1 b) (w.Devices.length:Int) false;have hd:=h1;simp only[aM,aa,bp] at hd;have hi:b.toNat<(add1 w b).1.Devices.length:=by omega
 have h7:=sQ (f:=D.Device.sz) (l:=(add1 w b).1.Devices) (i:=b.toNat) (x:=nH (aN (add1 w b).1 b) (w.Devices.length:Int) false) hi;have e:(add1 w b).1.Devices[b.toNat]=aN (add1 w b).1 b:=by simp[aN,List.getD,ae hi]
 rw[e] at h7;refine⟨⟨?_,by simp only[jQ,ax];exact h2⟩,?_,h4⟩
 ·simp only[aM,jQ,ax] at*;exact h1
 ·simp only[jQ,aK8];generalize(add1 w b).1=x at*;simp only[D.World.sz,ax] at*;omega
def Q9 (w:D.World)(x:D.Device):(appW w x).sz=w.sz+x.sz+2:=by simp only[appW,D.World.sz,au,cu,cT,bm,ex,eR,dg,fN];omega
def aT6 (w:D.World)(k:Int):(Oa w k).sz<=w.sz+1:=by have:=bB8 w.Mail k 1 w.Now;simp only[Oa,D.World.sz,D.aAJ.sz] at*;omega
def bK5 {w:D.World}{b:Int}(h0:((aI w b 0).2==0)=true)(h:(oK w b).2=true):(oK w b).1.sz<=33*w.sz+602/\(oK w b).1.aAD.Log.length<=w.sz+1:=by obtain⟨_,h1,h2⟩:=aW3 h0;obtain⟨h3,h4⟩:=aJc (w:=jQ w b) (d:=b) h;exact⟨by show(dL (jQ w b) b).1.sz<=_;omega,by show(dL (jQ w b) b).1.aAD.Log.length<=_;rw[h3];exact h2⟩
def aR9 {α:Type}{p:α->Bool}:∀{l:List α} {i:Nat} (hi:i<l.length),i<(l.takeWhile p).length->p l[i]=true
 |x::l,0,_,h=>by
  simp only[dh] at h;cases hp:p x with
  |true=>exact hp
  |false=>rw[hp] at h;simp at h
 |x::l,i+1,hi,h=>by
  simp only[dh] at h;cases hp:p x with
  |true=>
   have h':i<(l.takeWhile p).length:=by simpa[hp] using h
   exact aR9 (l:=l) (i:=i) (by simpa using hi) h'
  |false=>rw[hp] at h;simp at h
def aSa {α:Type}{p:α->Bool}:∀{l:List α} (h:(l.takeWhile p).length<l.length),p (l[(l.takeWhile p).length]'h)=false
 |x::l,h=>by
  cases hp:p x with
  |true=>
   have h':(l.takeWhile p).length<l.length:=by simpa[dh,hp] using h
   simpa[dh,hp] using aSa h'
  |false=>simp[dh,hp]
def Oc {α:Type}{p:α->Bool}{l:List α}:(l.takeWhile p).length<=l.length:=(List.takeWhile_prefix p).length_le
def aSb {α τ S:Type}{l:List α}(p:α->Bool)(fin:Nat->Option τ)(e:Nat->S){F:(S->Option τ)->S->Option τ}(hl:l.length<=34359738368)
  (hF:∀rec i (hi:i<l.length),F rec (e i)=bif p l[i] then rec (e (i+1)) else fin i) (hE:∀rec,F rec (e l.length)=fin l.length):EV.bX FUEL F (e 0)=fin (l.takeWhile p).length:=by
 have go:∀(k i n:Nat),i+k=(l.takeWhile p).length->k<n->EV.bX n F (e i)=fin (l.takeWhile p).length:=by
  intro k;induction k with
  |zero=>
   intro i n hi hn;obtain⟨n,rfl⟩:∃m,n=m+1:=⟨n-1,by omega⟩;have:i=(l.takeWhile p).length:=by omega
   subst this;rw[iA];by_cases h:(l.takeWhile p).length<l.length
   ·rw[hF _ _ h,aSa h,ab]
   ·have h2:(l.takeWhile p).length=l.length:=by have:=Oc (p:=p) (l:=l);omega
    rw[h2,hE]
  |succ k ih=>
   intro i n hi hn;obtain⟨n,rfl⟩:∃m,n=m+1:=⟨n-1,by omega⟩;have h1:i<l.length:=by have:=Oc (p:=p) (l:=l);omega
   rw[iA,hF _ _ h1,aR9 (p:=p) h1 (by omega),ac];exact ih (i+1) n (by omega) (by omega)
 have:=Oc (p:=p) (l:=l);exact go (l.takeWhile p).length 0 FUEL (by omega) (by have:=fT;omega)
def aSc {e:Int}{d:List Int}{l:List Int}{τ:Type}{x:τ}{F:(List D.Box×Nat->Option (τ⊕List D.Box))->List D.Box×Nat->Option (τ⊕List D.Box)}
  (hF:∀rec i s (hi:i<l.length),s.length<=i->F rec (s,i)=bif !(eG l[i] (IntKind.i64.wrap (e+(i:Int))) d).2 then some (.inl x) else rec (s++[(eG l[i] (IntKind.i64.wrap (e+(i:Int))) d).1],i+1)) (hE:∀rec s,F rec (s,l.length)=some (.inr s)):
  ∀(k i n:Nat) (s:List D.Box),i+k=l.length->k<n->s.length<=i->EV.bX n F (s,i)=some (bif (eH e d i (l.drop i)).2 then .inr (s++(eH e d i (l.drop i)).1) else .inl x)
 |0,i,n+1,s,h,_,_=>by
  have:i=l.length:=by omega
  subst this;rw[iA,hE,dz];simp[eH]
 |k+1,i,n+1,s,h,hn,hs=>by
  have hi:i<l.length:=by omega
  rw[iA,hF _ i s hi hs,ct hi,eH];cases hb:(eG l[i] (IntKind.i64.wrap (e+(i:Int))) d).2 with
  |false=>rfl
  |true=>rw[ba,ab,aSc hF hE k (i+1) n _ (by omega) (by omega) (by simp;omega)];cases(eH e d (i+1) (l.drop (i+1))).2<;>simp
def aZl (l:List D.aAR):Nat:=(l.takeWhile λn=> !n.Seen).length
def bD9 {l:List D.aAR}{x:D.aAR}:aZl (l++[x])=bif l.any (λn=>n.Seen) then aZl l else bif x.Seen then l.length else l.length+1:=by
 induction l with
 |nil=>cases hx:x.Seen<;>simp[aZl,hx]
 |cons y l ih=>
  unfold aZl at*;cases hy:y.Seen with
  |true=>simp[hy]
  |false=>simp only[cC,dh,hy,dk,gE,av,kf,cL,ih];cases l.any (λn=>n.Seen)<;>cases x.Seen<;>simp
def aSd {l:List D.aAR}{F:(Int×Int->Option Int)->Int×Int->Option Int}(hF:∀rec (k:Int) (i:Nat) (hi:i<l.length),F rec (k,(i:Int))=rec (bif l[i].Seen then(i:Int) else k,(i:Int)-1))(hE:∀rec k,F rec (k,-1)=some k):
  ∀(n m:Nat) (k:Int),n<=l.length->n<m->EV.bX m F (k,(n:Int)-1)=some (bif (l.take n).any (λx=>x.Seen) then(aZl (l.take n):Int) else k)
 |0,m+1,k,_,_=>by rw[iA,show((0:Nat):Int)-1= -1 from rfl,hE];simp
 |n+1,m+1,k,h,hm=>by
  have hn:n<l.length:=by omega
  rw[iA,show((n+1:Nat):Int)-1=(n:Int) by omega,hF _ _ n hn,aSd hF hE n m _ (by omega) (by omega),fh,ae hn];simp only[e8,jn,bD9,kf,List.any_nil,gh,ce,jl (Nat.le_of_lt hn)];cases(l.take n).any (λx=>x.Seen)<;>cases l[n].Seen<;>rfl
def bH3 (l:List D.aAR):(xP l:Int)=bif l.any (λx=>x.Seen) then(aZl l:Int) else 0:=by unfold xP aZl;cases l.any (λn=>n.Seen)<;>rfl
def bH4 {l:List D.aAR}(h:0<l.length):xP l<l.length:=by
 unfold xP;cases hs:l.any (λn=>n.Seen) with
 |false=>exact h
 |true=>
  obtain⟨x,hx,hp⟩:=gC.1 hs;have:∀l:List D.aAR,x∈l->(l.takeWhile λn=> !n.Seen).length<l.length:=by
   intro l;induction l with
   |nil=>intro h;cases h
   |cons y l ih=>
    intro h;cases hy:y.Seen with
    |true=>simp[hy]
    |false=>
     rcases aE.1 h with rfl|h
     ·rw[hp] at hy;cases hy
     ·simpa[hy] using ih h
  exact this l hx
def bH5 {e:Int}{d:List Int}{i:Nat}{l:List Int}(h:(eH e d i l).2=false):eH e d i l=([],false):=by
 cases l with
 |nil=>cases h
 |cons p l=>
  unfold eH at*;cases hc:(eG p (IntKind.i64.wrap (e+(i:Int))) d).2&&(eH e d (i+1) l).2 with
  |true=>rw[hc] at h;cases h
  |false=>rfl
def bH6 {s:D.Site}{i:Int}(hz:s.sz<=34359738300)(h:decide (aD s i<0)=false):aY s.Accounts (aD s i)=some (s.Accounts.getD (aD s i).toNat default)/\(s.Accounts.getD (aD s i).toNat default).sz<=34359738300/\(aD s i).toNat<s.Accounts.length:=by
 have hr:=mP (p:=λa:D.aAH=>a.Id==i) (i:=0) (l:=s.Accounts) h;have hi:(aD s i).toNat<s.Accounts.length:=by unfold aD;omega
 have h1:=Hw (f:=D.aAH.sz) hi;refine⟨uE (by unfold aD;omega) (by unfold aD;omega),?_,hi⟩;simp only[D.Site.sz] at hz;omega
def mQ (d:D.Device)(log:List D.aAC)(key:Int):D.Device×Bool:=bif !bB log||(!cO log d.Log||(decide (aL log<d.Epoch)|| !bG key)) then(d,false) else({d with Log:=log,Key:=key,Epoch:=aL log,Version:=0},true)
def aW (a:D.aAH)(h:Int):Int:=iL (λc=>c.Handle==h) 0 a.Credentials
def fJ (a:D.aAH)(k:Int):D.aAK:=a.Credentials.getD k.toNat default
def nZ (a:D.aAH)(h:Int):D.aAH×Bool:=bif !aZ a||(decide (aW a h<0)||(fJ a (aW a h)).Cut) then(a,false) else({a with Credentials:=a.Credentials.set (aW a h).toNat {fJ a (aW a h) with Cut:=true}},true)
def fQ (s:D.Site)(k:Int):D.aAH:=s.Accounts.getD k.toNat default
def kC (h:Int)(s:D.Site):D.Site:=bif decide (aD s 1>=0) then {s with Accounts:=s.Accounts.set (aD s 1).toNat (nZ (fQ s (aD s 1)) h).1} else s
def bP (s e:Int):Int:=aU s [233,e]
def nI (s:D.aAI)(l:List D.aAC):Int:=bP (aU s.Seed [311]) (aL l)
def iC (w:D.World)(b:Int):D.World:=(aI w b 0).1
def R3 (w:D.World)(b t:Int):List D.aAC:=(dS (iC w b).aAD.Log 2 (bA (aN w t).Store) (aN (iC w b) b).Store).1
def mR (w:D.World)(b t:Int):D.World×Bool:=iF (iC w b) b 2 (bA (aN w t).Store) (nI (aN (iC w b) b).Store)
def R4 (w:D.World)(b t:Int):D.Device×Bool:=mQ (aN (iC w b) b) (R3 w b t) (nI (aN (iC w b) b).Store (R3 w b t))
def R5 (w:D.World)(b t:Int):D.World:={(mR w b t).1 with Devices:=(mR w b t).1.Devices.set b.toNat (nH (R4 w b t).1 t true),Sites:=(mR w b t).1.Sites.map (kC t)}
def R6 (w:D.World)(b t:Int):D.World×Bool:=Gq (R5 w b t) b
def qG (w:D.World)(b t:Int):D.World×Bool:=bif (mR w b t).2&&((R4 w b t).2&&(R6 w b t).2) then(Oa (R6 w b t).1 4,true) else(w,false)
def iH (w:D.World)(b t:Int):D.World×Bool:=bif (aI w b 0).2==0&&(!dG w b&&(!(b==t)&&kN w t)) then qG w b t else(w,false)
def aK9 (d:D.Device)(l:List D.aAC)(k:Int):(mQ d l k).1.sz<=d.sz+l.length:=by
 unfold mQ;cases !bB l||(!cO l d.Log||(decide (aL l<d.Epoch)|| !bG k)) with
 |true=>simp only[ac];omega
 |false=>simp only[ab,D.Device.sz];omega
def aZm (a:D.aAH)(h:Int):(nZ a h).1.sz=a.sz:=by
 unfold nZ;cases !aZ a||(decide (aW a h<0)||(fJ a (aW a h)).Cut) with
 |true=>rfl
 |false=>simp only[ab,D.aAH.sz,ax]
def aZn (h:Int)(s:D.Site):(kC h s).sz=s.sz:=by
 unfold kC;cases hc:decide (aD s 1>=0) with
 |false=>rfl
 |true=>
  have h0:decide (aD s 1<0)=false:=by rw[decide_eq_true_iff] at hc;exact aw (by omega)
  have hr:=mP h0;have hi:(aD s 1).toNat<s.Accounts.length:=by unfold aD;omega
  have h1:=sQ (f:=D.aAH.sz) (l:=s.Accounts) (i:=(aD s 1).toNat) (x:=(nZ (fQ s (aD s 1)) h).1) hi;have h2:=aZm (fQ s (aD s 1)) h;have e:fQ s (aD s 1)=s.Accounts[(aD s 1).toNat]:=by simp[fQ,List.getD,ae hi]
  rw[e] at h1 h2 ⊢;simp only[ac,D.Site.sz,ax];omega
def aW4 (h:Int)(l:List D.Site):((l.map (kC h)).map D.Site.sz).sum=(l.map D.Site.sz).sum:=by
 induction l with
 |nil=>rfl
 |cons s l ih=>simp only[bm,dg,aZn,ih]
def bEa {w:D.World}{b t:Int}(h0:((aI w b 0).2==0)=true):(aM (iC w b) b=true/\(iC w b).Devices.length=w.Devices.length/\(iC w b).aAD=w.aAD/\(iC w b).sz<=2*w.sz+20)/\(R3 w b t).length<=w.sz+1/\(aM (mR w b t).1 b=true/\(mR w b t).1.Devices=(iC w b).Devices)/\(mR w b t).1.sz<=16*w.sz+34/\(mR w b t).1.Sites=(iC w b).Sites:=by
 obtain⟨⟨k1,k2⟩,k3,k4,k5⟩:=kR h0;have hL:w.aAD.Log.length<=w.sz:=by simp only[D.World.sz,D.aAD.sz];omega
 have hl:=oJ (iC w b).aAD.Log 2 (bA (aN w t).Store) (aN (iC w b) b).Store;obtain⟨g1,g2,g3,g4⟩:=Q7 (iC w b) b 2 (bA (aN w t).Store) (nI (aN (iC w b) b).Store);have hd0:aM (aI w b 0).1 b=true:=by simp only[aM] at*;rw[k4];exact k2
 have hd:aM (iC w b) b=true:=hd0;have kc:(iC w b).aAD=w.aAD:=k3;rw[kc] at g1 hl;have k6:(iC w b).sz<=w.sz+w.aAD.Log.length+20:=k5;refine⟨⟨hd,k4,k3,by omega⟩,by unfold R3;rw[kc];omega,⟨?_,g3⟩,by unfold mR;omega,g4⟩;have h:aM (iF (iC w b) b 2 (bA (aN w t).Store) (nI (aN (iC w b) b).Store)).1 b=true:=by simp only[aM] at*;rw[g3];exact hd
 exact h
--needs aAL aAN aAM
def jR (b:D.aAE)(id:Int):Int:=bJ b.Seed [197,id]
def aJe (b:D.aAE)(acc now:Int):D.aAM:=⟨b.Next,acc,IntKind.i64.wrap (now+5)⟩
def jE (b:D.aAE)(acc now:Int):D.aAE×D.aAM×Bool:=bif eD b&&(!(b.Next==1000000)&&(bF acc 0 1000000&&bF now 0 1000000)) then(⟨b.Seed,IntKind.i64.wrap (b.Next+1),(bif decide ((b.Open.length:Int)>=16) then b.Open.drop 1 else b.Open)++[aJe b acc now]⟩,aJe b acc now,true) else(b,⟨0,0,0⟩,false)
def dJ (b:D.aAE)(id:Int):Int:=iL (λc=>c.Id==id) 0 b.Open
def aT7 (b:D.aAE)(k:Int):D.aAM:=b.Open.getD k.toNat default
def uF (b:D.aAE)(id acc now:Int):D.aAE×Bool:=bif !eD b||decide (dJ b id<0) then(b,false) else(⟨b.Seed,b.Next,b.Open.take (dJ b id).toNat++b.Open.drop ((dJ b id).toNat+1)⟩,(aT7 b (dJ b id)).aAH==acc&&decide (now<=(aT7 b (dJ b id)).Until))
def sS (s:D.Site)(id now:Int):D.Site×Int×Int×Bool:=bif dD s&&(!decide (aD s id<0)&&(jE s.Book id now).2.2) then({s with Book:=(jE s.Book id now).1},(jE s.Book id now).2.1.Id,jR (jE s.Book id now).1 (jE s.Book id now).2.1.Id,true) else(s,0,0,false)
def uG (s:D.aAI):Bool:=bF s.Vendor 1 9&&(bF s.Serial 0 1000000&&(bG s.Seed&&bF s.Counter 0 1000000))
def bMl (s:D.aAI):D.aAI:={s with Counter:=IntKind.i64.wrap (s.Counter+1)}
def fK (s:D.aAI)(site:ByteArray)(h:Int)(m:List Int):D.aAI×Int×Bool:=bif uG s&& !(s.Counter==1000000) then(bMl s,Ab (eT s site h) (m++[(bMl s).Counter]),true) else(s,0,false)
def dA (a:D.aAL):List Int:=[199,bH a.Site,mK 211 a.aAN,a.aAM,a.Handle,bif a.Present then 1 else 0]
def aSe (j:Int):D.aAN:=⟨true,⟨#[119,119,119,46]⟩++aA j,443⟩
def aZo (j:Int):D.aAN:=⟨true,⟨#[108,111,103,105,110,46]⟩++aA j++⟨#[46,101,118,105,108,46,110,101,116]⟩,443⟩
def bMm (j:Int):D.aAN:=⟨true,aA j,443⟩
def rF (k:Nat):D.aAN:=match k with|0=>aSe 0|1=>aSe 1|2=>bMm 0|3=>bMm 1|4=>aZo 0|_=>aZo 1
def Od (k:Nat):ByteArray:=⟨#[104,116,116,112,115,58,47,47]⟩++(rF k).Host
def bQj:List UInt8->List UInt8->Bool
 |[],b=>b==[]
 |x::a,b=>b==x::a||bQj a b
def tN (o:D.aAN)(z:ByteArray):Bool:=bQj (46::o.Host.data.toList) (46::z.data.toList)
def Jc (o:D.aAN)(s:ByteArray):Prop:=(∃k:Nat,k<6/\o=rF k)/\∃j:Int,(j=0\/j=1)/\s=aA j
noncomputable instance (o:D.aAN) (s:ByteArray):Decidable (Jc o s):=Classical.propDecidable _
def pK (o:D.aAN):Prop:=∃k:Nat,k<6/\o=rF k
def pK.p {o:D.aAN}(h:pK o){j:Int}(hj:j=0\/j=1):Jc o (aA j):=⟨h,j,hj,rfl⟩
def bOw {j:Int}(hj:j=0\/j=1):pK (aSe j):=by
 rcases hj with rfl|rfl
 ·exact⟨0,by decide,rfl⟩
 ·exact⟨1,by decide,rfl⟩
noncomputable instance (o:D.aAN):Decidable (pK o):=Classical.propDecidable _
def oC (o:D.aAN):ByteArray:=⟨#[104,116,116,112,115,58,47,47]⟩++o.Host
def bEb (s:ByteArray):Prop:=s=⟨#[]⟩\/∃k:Nat,k<4/\s=Od k
noncomputable instance (s:ByteArray):Decidable (bEb s):=Classical.propDecidable _
def wV (s:ByteArray):D.aAN×Bool:=bif decide (s.size=0) then(⟨false,⟨#[]⟩,0⟩,false) else(⟨true,s.extract 8 s.size,443⟩,true)
def aC4 (s:D.aAI)(o:D.aAN)(site:ByteArray)(h ch:Int)(p:Bool):D.aAL:=⟨site,oC o,ch,h,p,0,0⟩
def bH7:D.aAL:=⟨⟨#[]⟩,⟨#[]⟩,0,0,false,0,0⟩
def jS (s:D.aAI)(o:D.aAN)(site:ByteArray)(h ch:Int)(p:Bool):D.aAI×D.aAL×Bool:=bif tN o site&&(fK s site h (dA (aC4 s o site h ch p))).2.2 then((fK s site h (dA (aC4 s o site h ch p))).1,{aC4 s o site h ch p with Counter:=(fK s site h (dA (aC4 s o site h ch p))).1.Counter,Signature:=(fK s site h (dA (aC4 s o site h ch p))).2.1},true) else(s,bH7,false)
def AsP (a:D.aAL)(site:ByteArray):Prop:=∃j:Int,(j=0\/j=1)/\site=aA j/\(a=bH7\/(a.Site=site/\∃k:Nat,k<4/\a.aAN=Od k/\tN (rF k) site=true))
noncomputable instance (a:D.aAL) (s:ByteArray):Decidable (AsP a s):=Classical.propDecidable _
def kZ (pub:Int)(a:D.aAL)(site:ByteArray)(ch cnt:Int):Int:=bif !(a.Site.toList==site.toList) then 1 else bif !a.Present then 2 else bif !(a.aAM==ch) then 3 else bif !gI pub (dA a++[a.Counter]) a.Signature then 5 else bif decide (a.Counter<=cnt) then 4 else 0
def nP (a:D.aAH)(x:D.aAL)(site:ByteArray)(ch:Int):D.aAH×Int:=bif !aZ a||(decide (aW a x.Handle<0)||(fJ a (aW a x.Handle)).Cut) then(a,5) else({a with Credentials:=bif kZ (fJ a (aW a x.Handle)).Public x site ch (fJ a (aW a x.Handle)).Counter==0 then a.Credentials.set (aW a x.Handle).toNat {fJ a (aW a x.Handle) with Counter:=x.Counter} else bif kZ (fJ a (aW a x.Handle)).Public x site ch (fJ a (aW a x.Handle)).Counter==4 then a.Credentials.set (aW a x.Handle).toNat {fJ a (aW a x.Handle) with Cut:=true} else a.Credentials},kZ (fJ a (aW a x.Handle)).Public x site ch (fJ a (aW a x.Handle)).Counter)
def Ac (a:D.aAH)(m:Int):Bool:=aZ a&&(decide (a.Minimum<=m)&&(decide (m<=3)&&(!(m==3)||a.Credentials.any λc=> !c.Cut)))
def tO (s:D.Site)(id ch now:Int)(a:D.aAL):D.Site×Int×Int:=bif !dD s||decide (aD s id<0) then(s,1,0) else bif !(uF s.Book ch id now).2 then({s with Book:=(uF s.Book ch id now).1},2,0) else bif !Ac (fQ s (aD s id)) 3 then({s with Book:=(uF s.Book ch id now).1},3,0) else bif !((nP (fQ s (aD s id)) a s.Name (jR s.Book ch)).2==0) then({s with Book:=(uF s.Book ch id now).1,Accounts:=s.Accounts.set (aD s id).toNat (nP (fQ s (aD s id)) a s.Name (jR s.Book ch)).1},4,(nP (fQ s (aD s id)) a s.Name (jR s.Book ch)).2) else({s with Book:=(uF s.Book ch id now).1,Accounts:=s.Accounts.set (aD s id).toNat (nP (fQ s (aD s id)) a s.Name (jR s.Book ch)).1,Logins:=s.Logins++[id]},0,0)
def nQ (w:D.World)(j:Int):D.Site:=w.Sites.getD j.toNat default
def uH (w:D.World)(j:Int):D.Site×Int×Int×Bool:=sS (nQ w j) 1 w.Now
def aO8 (w:D.World)(d j:Int)(o:D.aAN):D.aAI×D.aAL×Bool:=jS (aN w d).Store o (aA j) d (uH w j).2.2.1 true
def aG2 (w:D.World)(d j:Int)(o:D.aAN):D.Site×Int×Int:=tO (uH w j).1 1 (uH w j).2.1 w.Now (aO8 w d j o).2.1
def bEc (w:D.World)(d j:Int)(o:D.aAN):D.World:={w with Devices:=w.Devices.set d.toNat {aN w d with Store:=(aO8 w d j o).1},Sites:=w.Sites.set j.toNat (aG2 w d j o).1}
def eO (w:D.World)(d j:Int):Bool:=aR w&&(aM w d&&xL w j)
def lJ (w:D.World)(d j:Int)(o:D.aAN):D.World×D.aAL×Int:=bif !eO w d j then(w,bH7,1) else bif !(uH w j).2.2.2 then(w,bH7,1) else bif !((aG2 w d j o).2.1==0) then(bEc w d j o,(aO8 w d j o).2.1,2) else(Oa (bEc w d j o) 1,(aO8 w d j o).2.1,0)
def Hy (w:D.World)(d j:Int)(o:D.aAN):D.World×Int:=((lJ w d j o).1,(lJ w d j o).2.2)
def qH (w:D.World)(d j:Int):D.World×Int:=bif eO w d j&& !dG w d then Hy w d j (aSe j) else(w,1)
def pM (o:D.aAN):Bool:=fI o.Host&&bF o.Port 1 65535
def aZp (m:Int):Nat->Int->Int->Int->Int
 |0,_,_,s=>s
 |k+1,b,n,s=>if n>0 then aZp m k ((IntKind.i64.wrap (b*b)).tmod m) (n/2) (bif n%2==1 then(IntKind.i64.wrap (s*b)).tmod m else s) else s
def aLa (x:Int):Bool:=bF x 1 2038&&aZp 2039 11 x 1019 1==1
def xQ (g n:Int):Int:=bif aLa g then aZp 2039 11 g (gP n 1019) 1 else 0
def R7 (l v:Int):Int:=xQ 4 (IntKind.i64.wrap (1+((IntKind.i64.wrap (bJ l [89,v]*bJ l [89,v])).tmod 2147483647).tmod 1018))
def Sr (s l i:Int):Int:=xQ (R7 l i) s
def Ad (e l:Int):Int:=iE (bJ e [157,l])
def aSf (k m:Int):Int:=bif bF k 0 2147483647 then aVd .i64 k (aU m [251]) else 0
def R8 (o s:Int):Int:=bJ o [257,s]
def xR (c:Int)(l:List Int)(n:Int):List D.aAS:=bif bF n 1 7&&decide ((l.length:Int)<n) then(List.range n.toNat).map λ(i:Nat)=>⟨(i:Int)+1,Wi c l ((i:Int)+1)⟩ else[]
def R9 (k:D.aAV):D.aAG:=⟨k,[],Wh k⟩
def aT8 (pin salt key secret limit:Int):Bool:=bF pin 0 9999&&(bF salt 0 1000000&&(bG key&&(!(gP secret 1019==0)&&bF limit 1 10)))
def Hz (pin salt key secret:Int)(cs:List Int)(n limit:Int):D.aAO×List D.aAG×Bool:=
 bif aT8 pin salt key secret limit&& !((xR secret cs n).length==0) then(⟨salt,IntKind.i64.wrap ((cs.length:Int)+1),R8 (Ad (Sr secret salt pin) salt) salt,aSf key (Ad (Sr secret salt pin) salt)⟩,(xR secret cs n).map (λs=>R9 ⟨s,0,0,limit⟩),true) else(⟨0,0,0,0⟩,[],false)
def dE (log:List D.aAC)(bx:D.aAF):D.aAD×Bool:=bif bB log&&gK bx log then(⟨log,bx,[]⟩,true) else(⟨[],⟨0,[]⟩,[]⟩,false)
def qI (id:Int)(l:List D.aAH):Nat:=(l.takeWhile λa=>decide (a.Id<id)).length
def oD (s:D.Site)(id m:Int):D.Site:={s with Accounts:=s.Accounts.take (qI id s.Accounts)++[⟨id,m,[]⟩]++s.Accounts.drop (qI id s.Accounts)}
def lC (s:D.Site)(id m:Int):D.Site×Bool:=bif dD s&&dD (oD s id m) then(oD s id m,true) else(s,false)
def tQ (nm:ByteArray):Nat->List D.Device->D.Site->D.Site
 |_,[],s=>s
 |i,d::l,s=>tQ nm (i+1) l (eQ s 1 (i:Int) (dP d.Store nm (i:Int))).1
def Oe (seed:Int)(l:List D.Device)(j:Int):D.Site:=tQ (aA j) 0 l (lC (fD (aA j) (aU seed [281,j])) 1 3).1
def xS (l:List D.Device)(seed:Int):List D.Site:=[Oe seed l 0,Oe seed l 1]
def aT (seed:Int):Nat->List D.aAC
 |0=>[]
 |n+1=>(dS (aT seed n) 1 (bA (aP seed (n:Int))) (aP seed 0)).1
def dB (seed:Int)(n:Nat):List D.Device:=(List.range n).map λ(i:Nat)=>bQ (aP seed (i:Int))
def Dp (nm:ByteArray):Nat->D.Device->D.Device
 |0,d=>d
 |i+1,d=>(bW (Dp nm i d) nm (i:Int) false).1
def eX (seed:Int)(n:Nat):D.aAF:=(bC (aT seed n) (bP seed 0) 1000).1
def uI (seed:Int)(n:Nat)(d:D.Device):D.Device:=(mQ d (aT seed n) (bP seed 0)).1
def kD (seed:Int)(n:Nat):D.Device:=Dp (aA 1) n (Dp (aA 0) n (uI seed n (bQ (aP seed 0))))
def nwW (seed:Int)(n:Nat):D.Device×D.aAA×Bool:=bN (kD seed n)
def gV (seed:Int)(n:Nat):D.aAD:=(bO (dE (aT seed n) (eX seed n)).1 (nwW seed n).2.1).1
def Ia (seed:Int)(n:Nat)(d:D.Device):D.Device:=(bS (uI seed n d) (aT seed n) (eX seed n) (nwW seed n).2.1).1
def iK (seed:Int)(n:Nat):List D.Device:=(nwW seed n).1::((dB seed n).drop 1).map (Ia seed n)
def aLb (seed t:Int):List Int:=(List.range (t-1).toNat).map λ(k:Nat)=>aU seed [307,(k:Int)+1]
def aJf (seed t pin k:Int):D.aAO×List D.aAG×Bool:=Hz pin 7 (aU seed [283]) (IntKind.i64.wrap (1+(aU seed [293]).tmod 1018)) (aLb seed t) k 5
def aG4 (n k t pin seed:Int):Bool:=bF n 1 3&&(bF k 1 7&&(bF t 1 k&&(bF pin 0 9999&&bG seed)))
def aT9:D.World:=⟨0,0,[],[],⟨[],⟨0,[]⟩,[]⟩,[],⟨0,0,0,0⟩,[],0,⟨[]⟩⟩
def fE (n k t pin seed:Int):D.World:=bif aG4 n k t pin seed then⟨0,seed,iK seed n.toNat,List.replicate n.toNat false,gV seed n.toNat,xS (dB seed n.toNat) seed,(aJf seed t pin k).1,(aJf seed t pin k).2.1,pin,⟨[]⟩⟩ else aT9
def aZq {l:List Int}(h:l.Nodup)(e:D.aAC):(iZ l e).Nodup:=by
 unfold iZ;cases e.Kind==1 with
 |true=>
  simp only[ac];cases hc:l.contains e.Device with
  |true=>exact h
  |false=>
   simp only[ab];rw[dm];refine⟨h,by simp,λa ha b hb e'=> ?_⟩
   simp at hb;subst hb;subst e';have:l.contains e.Device=true:=by simpa using ha
   rw[hc] at this;cases this
 |false=>
  simp only[ab];cases e.Kind==2 with
  |true=>exact h.filter _
  |false=>exact h
def aZr (log:List D.aAC):(aH log).Nodup:=by
 have key:∀(l:List D.aAC) (s:List Int),s.Nodup->(l.foldl iZ s).Nodup:=by
  intro l;induction l with
  |nil=>exact λ_ h=>h
  |cons e l ih=>exact λs h=>ih _ (aZq h e)
 exact key log [] fj
def aW5 {e:Int}{d:List Int}:∀{i:Nat} {l:List Int},(eH e d i l).2=true->(eH e d i l).1.map (λb=>b.To)=l
 |_,[],_=>rfl
 |i,p::l,h=>by
  simp only[eH] at h ⊢;cases hc:(eG p (IntKind.i64.wrap (e+(i:Int))) d).2&&(eH e d (i+1) l).2 with
  |false=>rw[hc] at h;cases h
  |true=>
   rw[aa] at hc;simp only[ac,bm,aW5 hc.2];have:(eG p (IntKind.i64.wrap (e+(i:Int))) d).1.To=p:=by
    have h1:=hc.1;unfold eG at h1 ⊢;cases hq:eU p==0||(!bG (IntKind.i64.wrap (e+(i:Int)))||decide ((d.length:Int)>200)) with
    |true=>rw[hq] at h1;cases h1
    |false=>rfl
   rw[this]
def aSg:∀{l:List D.Box} {d:Int} {s:Int},(l.map λb=>b.To).Nodup->0<=s->s<1000->l.foldl (λn b=>bif b.To==d then IntKind.i64.wrap (n+1) else n) s=s+(if d∈l.map (λb=>b.To) then 1 else 0)
 |[],d,s,_,_,_=>by simp
 |b::l,d,s,h,h0,h1=>by
  rw[bm,cw] at h;rw[dc];cases hc:b.To==d with
  |true=>
   have hd:b.To=d:=by simpa using hc
   have hn:d∉l.map (λb=>b.To):=hd▸h.1;have hw:IntKind.i64.wrap (s+1)=s+1:=aJ (by omega) (by omega);have key:∀(l:List D.Box) (s:Int),d∉l.map (λb=>b.To)->l.foldl (λn b=>bif b.To==d then IntKind.i64.wrap (n+1) else n) s=s:=by
    intro l;induction l with
    |nil=>exact λ_ _=>rfl
    |cons x l ih=>
     intro s hx;simp only[bm,aE,not_or] at hx;have:(x.To==d)=false:=by simpa using λe=>hx.1 e.symm
     rw[dc,this,ab];exact ih s hx.2
   rw[ac,key l _ hn,hw,bm,cH (by simp[hd])]
  |false=>
   have hd:¬b.To=d:=by simpa using hc
   rw[ab,aSg h.2 h0 h1,bm];have:(d∈b.To::l.map λb=>b.To)↔d∈l.map λb=>b.To:=by rw[aE];exact⟨λh=>h.resolve_left λe=>hd e.symm, .inr⟩
   simp only[this]
def aO9 {log:List D.aAC}{k e:Int}(h:(bC log k e).2=true):gK (bC log k e).1 log=true:=by
 unfold bC at h ⊢;cases hc: !bB log||(!bG k|| !(eH e (gF [aL log,k]) 0 (aH log)).2) with
 |true=>rw[hc] at h;cases h
 |false=>simp only[bq,dv] at hc;have ht:=aW5 hc.2.2;have hl:=congrArg List.length ht;rw[bl] at hl;simp only[ab,gK,qF,aa,cG,cF,hl,and_self,true_and,dx];intro d hd;rw[aSg (by rw[ht];exact aZr log) (by omega) (by omega),ht,cH hd];rfl
def bEd {log:List D.aAC}{k e:Int}(h:(bC log k e).2=false):(bC log k e).1=⟨0,[]⟩:=by
 unfold bC at h ⊢;cases hc: !bB log||(!bG k|| !(eH e (gF [aL log,k]) 0 (aH log)).2) with
 |true=>rfl
 |false=>rw[hc] at h;cases h
def aSh {d:D.Device}{log:List D.aAC}{bx:D.aAF}{s:D.aAA}(h:(gU d log bx s==0)=false):(bS d log bx s).1=d:=by unfold bS;rw[h];rfl
def bH8 (d:D.Device)(bx:D.aAF)(s:D.aAA):(bS d [] bx s).1=d:=aSh rfl
def bOx (s:D.aAI):(bD s ⟨0,[]⟩).2=false:=rfl
def aZs {log:List D.aAC}{key e:Int}{s:D.aAA}(hs:s=⟨0,0,[],0⟩\/s.Epoch=aL log)(d:D.Device):
  (bS d (bO (dE log (bC log key e).1).1 s).1.Log (bO (dE log (bC log key e).1).1 s).1.Boxes (dI (bO (dE log (bC log key e).1).1 s).1 0).1).1=(bS d log (bC log key e).1 s).1:=by
 cases hc:bB log&&gK (bC log key e).1 log with
 |true=>
  have e1:(dE log (bC log key e).1).1=⟨log,(bC log key e).1,[]⟩:=by unfold dE;rw[hc];rfl
  rw[e1];cases hq:s.Epoch !=aL log with
  |true=>
   have hs':s=⟨0,0,[],0⟩:=by
    rcases hs with h|h
    ·exact h
    ·rw[h] at hq;simp at hq
   have e2:(bO ⟨log,(bC log key e).1,[]⟩ s).1=⟨log,(bC log key e).1,[]⟩:=by unfold bO;rw[show(D.aAD.mk log (bC log key e).1 []).Log=log from rfl,hq];rfl
   rw[e2,hs'];rfl
  |false=>
   have e2:(bO ⟨log,(bC log key e).1,[]⟩ s).1=⟨log,(bC log key e).1,[s]⟩:=by unfold bO;rw[show(D.aAD.mk log (bC log key e).1 []).Log=log from rfl,hq];rfl
   rw[e2];rfl
 |false=>
  have e1:(dE log (bC log key e).1).1=⟨[],⟨0,[]⟩,[]⟩:=by unfold dE;rw[hc];rfl
  have e2:(bO (dE log (bC log key e).1).1 s).1.Log=[]:=by rw[(oI _ _).2,e1]
  rw[e2,bH8];refine(aSh ?_).symm;cases hl:bB log with
  |false=>simp only[gU,hl,dk,jb,ac];rfl
  |true=>
   rw[hl,cW] at hc;have hm:(bC log key e).2=false:=by
    cases hm:(bC log key e).2 with
    |false=>rfl
    |true=>rw[aO9 hm] at hc;cases hc
   rw[bEd hm];simp only[gU,hl,bOx,ba,cL,dk,jc,ac];cases !cO log d.Log with
   |true=>rfl
   |false=>simp only[ab];cases !gX (aH log) (bA d.Store)<;>rfl
def S9 (nm:ByteArray):∀(i:Nat) (d:D.Device),(Dp nm i d).sz<=d.sz+i
 |0,d=>aj _
 |i+1,d=>by have h1:=S9 nm i d;have h2:=Dk (Dp nm i d) nm (i:Int) false;show(bW (Dp nm i d) nm (i:Int) false).1.sz<=_;omega
def oL (seed:Int):∀n:Nat,(aT seed n).length<=n
 |0=>aj _
 |n+1=>by have h1:=oL seed n;have h2:=oJ (aT seed n) 1 (bA (aP seed (n:Int))) (aP seed 0);show(dS (aT seed n) 1 (bA (aP seed (n:Int))) (aP seed 0)).1.length<=_;omega
def aJg (seed:Int)(n:Nat)(d:D.Device):(uI seed n d).sz<=d.sz+n:=by have h1:=aK9 d (aT seed n) (bP seed 0);have h2:=oL seed n;show(mQ d (aT seed n) (bP seed 0)).1.sz<=_;omega
def aC5 (s:D.aAI):(bQ s).sz=0:=rfl
def aLc (seed:Int)(n:Nat):(kD seed n).sz<=3*n:=by have h1:=S9 (aA 1) n (Dp (aA 0) n (uI seed n (bQ (aP seed 0))));have h2:=S9 (aA 0) n (uI seed n (bQ (aP seed 0)));have h3:=aJg seed n (bQ (aP seed 0));rw[aC5] at h3;unfold kD;omega
def aLd (seed:Int)(n:Nat):(eX seed n).sz<=13*n:=by have h1:=Dm (aT seed n) (bP seed 0) 1000;have h2:=oL seed n;unfold eX;omega
def Og (log:List D.aAC)(bx:D.aAF):(dE log bx).1.sz<=log.length+bx.sz:=by
 unfold dE;cases bB log&&gK bx log with
 |true=>simp only[ac,D.aAD.sz,D.aAF.sz,bo,ex,fN];omega
 |false=>exact cx _
def aLe (seed:Int)(n:Nat):(gV seed n).sz<=14*n+501:=by have h1:=(oI (dE (aT seed n) (eX seed n)).1 (nwW seed n).2.1).1;have h2:=Og (aT seed n) (eX seed n);have h3:=aLd seed n;have h4:=oL seed n;have h5:=(wU (kD seed n)).2;have h5:(nwW seed n).2.1.Data.length<=500:=h5;unfold gV;omega
def bEe (seed:Int)(n:Nat)(d:D.Device):(Ia seed n d).sz<=d.sz+2*n+20:=by have h1:=aK7 (uI seed n d) (aT seed n) (eX seed n) (nwW seed n).2.1;have h2:=aJg seed n d;have h3:=oL seed n;unfold Ia;omega
def aZt {α:Type}{f:α->Nat}{b:Nat}:∀{l:List α},(∀x∈l,f x<=b)->(l.map f).sum<=l.length*b
 |[],_=>cx _
 |x::l,h=>by
  have h1:=h x (by simp);have h2:=aZt (l:=l) (f:=f) (b:=b) λy hy=>h y (by simp[hy]);simp only[bm,dg,av,dr];omega
def Yd (nm:ByteArray):∀(i:Nat) (l:List D.Device) (s:D.Site),(tQ nm i l s).sz<=s.sz+l.length
 |_,[],s=>aj _
 |i,d::l,s=>by
  have h1:=Yd nm (i+1) l (eQ s 1 (i:Int) (dP d.Store nm (i:Int))).1;have h2:=aR7 s 1 (i:Int) (dP d.Store nm (i:Int));show(tQ nm (i+1) l (eQ s 1 (i:Int) (dP d.Store nm (i:Int))).1).sz<=_;rw[av];omega
def aLf (s:D.Site)(id m:Int):(lC s id m).1.sz<=s.sz+1:=by
 unfold lC;cases dD s&&dD (oD s id m) with
 |false=>simp only[ab];omega
 |true=>
  have e:(s.Accounts.map D.aAH.sz).sum=((s.Accounts.take (qI id s.Accounts)).map D.aAH.sz).sum+((s.Accounts.drop (qI id s.Accounts)).map D.aAH.sz).sum:=by rw[<-eR,<-cT,cE]
  have el:(s.Accounts.take (qI id s.Accounts)).length+(s.Accounts.drop (qI id s.Accounts)).length=s.Accounts.length:=by rw[<-au,cE]
  simp only[ac,oD,D.Site.sz,au,cT,eR,av,bo,bm,ex,dg,fN,D.aAH.sz];omega
def aGg (nm:ByteArray)(s:Int):(fD nm s).sz<=nm.size:=by
 unfold fD;cases jO nm s with
 |true=>simp[D.Site.sz]
 |false=>exact cx _
def aGh (seed:Int)(l:List D.Device)(j:Int):(Oe seed l j).sz<=l.length+101:=by
 have h1:=Yd (aA j) 0 l (lC (fD (aA j) (aU seed [281,j])) 1 3).1;have h2:=aLf (fD (aA j) (aU seed [281,j])) 1 3;have h3:=aGg (aA j) (aU seed [281,j]);have h4:(aA j).size<=100:=by unfold aA;cases j==0<;>cases j==1<;>decide
 unfold Oe;omega
def aSi (c:Int)(l:List Int)(n:Int):(xR c l n).length<=7:=by
 unfold xR;cases hc:bF n 1 7&&decide ((l.length:Int)<n) with
 |false=>exact cx _
 |true=>rw[aa] at hc;have:=jJ hc.1;simp only[ac,bl,fS];omega
def aUa (pin salt key secret:Int)(cs:List Int)(n limit:Int):(Hz pin salt key secret cs n limit).2.1.length<=7/\((Hz pin salt key secret cs n limit).2.1.map D.aAG.sz).sum=0:=by
 unfold Hz;cases aT8 pin salt key secret limit&& !((xR secret cs n).length==0) with
 |false=>exact⟨cx _,rfl⟩
 |true=>refine⟨by simp only[ac,bl];exact aSi _ _ _,?_⟩;have:=aZt (f:=D.aAG.sz) (b:=0) (l:=(xR secret cs n).map λs=>R9 ⟨s,0,0,limit⟩) (λx hx=>by obtain⟨s,_,rfl⟩:=cj.1 hx;exact aj _);simp only[ac];omega
def aW6 (n k t pin seed:Int):(fE n k t pin seed).sz<=100000:=by
 unfold fE;cases hc:aG4 n k t pin seed with
 |false=>exact cx _
 |true=>
  simp only[aG4,aa] at hc;have hn:=jJ hc.1;obtain⟨N,hN⟩:∃N,N=n.toNat:=⟨_,rfl⟩;have hN3:N<=3:=by omega
  have h1:=wU (kD seed N);have h2:=aLc seed N;have h3:=aLe seed N;have h4:=aGh seed (dB seed N) 0;have h5:=aGh seed (dB seed N) 1;have h6:=aUa pin 7 (aU seed [283]) (IntKind.i64.wrap (1+(aU seed [293]).tmod 1018)) (aLb seed t) k 5;have h7:(dB seed N).length=N:=by simp[dB]
  have h8:=aZt (f:=D.Device.sz) (b:=26) (l:=((dB seed N).drop 1).map (Ia seed N)) (λx hx=>by
   obtain⟨d,hd,rfl⟩:=cj.1 hx;have hd':=dn hd;simp only[dB,cj] at hd';obtain⟨i,_,rfl⟩:=hd';have:=bEe seed N (bQ (aP seed (i:Int)));rw[aC5] at this;omega)
  have h9:(nwW seed N).1.sz=(kD seed N).sz:=h1.1;have h6':(aJf seed t pin k).2.1.length<=7/\((aJf seed t pin k).2.1.map D.aAG.sz).sum=0:=h6;rw[bl,cn,h7] at h8;simp only[ac,<-hN,D.World.sz,iK,xS,av,bl,cn,h7,bm,dg,bo,ex,fN,fg,h9];have h10:(gV seed N).sz<=14*N+501:=h3;have h11:(N-1)*26<=52:=en 26 (show N-1<=2 by omega);simp only[D.aAD.sz,D.aAF.sz] at h10;omega
def bEf (d:D.Device)(n:ByteArray)(h:Int)(rm:Bool):(bW d n h rm).1.Key=d.Key/\(bW d n h rm).1.Epoch=d.Epoch:=by unfold bW;cases(oH d n h rm).2<;>exact⟨rfl,rfl⟩
def aUb (nm:ByteArray):∀(i:Nat) (d:D.Device),(Dp nm i d).Key=d.Key/\(Dp nm i d).Epoch=d.Epoch
 |0,d=>⟨rfl,rfl⟩
 |i+1,d=>by
  obtain⟨h1,h2⟩:=aUb nm i d;obtain⟨h3,h4⟩:=bEf (Dp nm i d) nm (i:Int) false;exact⟨h3.trans h1,h4.trans h2⟩
def aZu (seed:Int)(n:Nat):(kD seed n).Key=(uI seed n (bQ (aP seed 0))).Key/\(kD seed n).Epoch=(uI seed n (bQ (aP seed 0))).Epoch:=by obtain⟨h1,h2⟩:=aUb (aA 1) n (Dp (aA 0) n (uI seed n (bQ (aP seed 0))));obtain⟨h3,h4⟩:=aUb (aA 0) n (uI seed n (bQ (aP seed 0)));exact⟨h1.trans h3,h2.trans h4⟩
def aZv {seed:Int}{n:Nat}(h:bG (uI seed n (bQ (aP seed 0))).Key=true):(uI seed n (bQ (aP seed 0))).Epoch=aL (aT seed n):=by
 unfold uI mQ at h ⊢;cases hq: !bB (aT seed n)||(!cO (aT seed n) (bQ (aP seed 0)).Log||(decide (aL (aT seed n)<(bQ (aP seed 0)).Epoch)|| !bG (bP seed 0))) with
 |true=>rw[hq] at h;exact absurd (show bG 0=true from h) (by decide)
 |false=>rfl
def bEg (seed:Int)(n:Nat):(nwW seed n).2.1=⟨0,0,[],0⟩\/(nwW seed n).2.1.Epoch=aL (aT seed n):=by
 obtain⟨k1,k2⟩:=aZu seed n;unfold nwW bN;generalize kD seed n=d at k1 k2 ⊢;cases hs:(jD d.Key d.Epoch (IntKind.i64.wrap (d.Version+1)) d.aAB).2 with
 |false=>exact .inl rfl
 |true=>
  refine .inr ?_;simp only[ac];unfold jD at hs ⊢;cases hc:bG d.Key&&(bF d.Epoch 0 1000000&&bF (IntKind.i64.wrap (d.Version+1)) 0 1000000)&&aK d.aAB with
  |false=>rw[hc] at hs;cases hs
  |true=>simp only[aa] at hc;show d.Epoch=_;rw[k2];exact aZv (k1▸hc.1.1)
def bK6 (seed:Int)(n:Nat)(d:D.Device):(bS (uI seed n d) (gV seed n).Log (gV seed n).Boxes (dI (gV seed n) 0).1).1=Ia seed n d:=aZs (bEg seed n) (uI seed n d)
def bOy (f:Int->Int)(l:List Int)(j:Nat)(x:Int):Bool:=(l.take j).any λq=>f q==f x
def bK7 (s:D.aAS)(e:Int):Int:=bif aLa e&&(!(e==1)&&bF s.Value 0 1018) then xQ e s.Value else 0
def bCa (k:D.aAV)(e:Int):D.aAV×Int×Bool:=bif aR0 k&&(!(k.Guesses==k.Limit)&&(aLa e&& !(e==1))) then({k with Guesses:=IntKind.i64.wrap (k.Guesses+1)},bK7 k.aAS e,true) else(k,0,false)
def bSk (l:List D.aAV):List D.aAV:=bif decide ((l.length:Int)>30) then l.drop 1 else l
def aW7 (h:D.aAG)(e:Int):D.aAG×Int×Bool:=bif decide (Wh h.State<h.Monotonic)|| !(bCa h.State e).2.2 then(h,0,false) else(⟨(bCa h.State e).1,bSk (h.Saved++[h.State]),Wh (bCa h.State e).1⟩,(bCa h.State e).2.1,true)
def bOz (l i b:Int):Int:=bif gP b 1019==0 then 0 else xQ (R7 l i) b
def bO0 (hs:List D.aAG)(ch:List Int)(i:Nat)(c:Int):Bool:=(decide (c<0)||decide (c>=(hs.length:Int)))||bOy (λq=>q) ch i c
def bK8 (hs:List D.aAG)(ch:List Int):Bool:= !fO (bO0 hs ch) 0 ch
def bSl (e:Int)(s:List D.aAG×List Int×List Int)(c:Int):List D.aAG×List Int×List Int:=
 (s.1.set c.toNat (aW7 (s.1.getD c.toNat default) e).1,bif (aW7 (s.1.getD c.toNat default) e).2.2 then s.2.1++[(aW7 (s.1.getD c.toNat default) e).1.State.aAS.Index] else s.2.1,bif (aW7 (s.1.getD c.toNat default) e).2.2 then s.2.2++[(aW7 (s.1.getD c.toNat default) e).2.1] else s.2.2)
def bK9 (hs:List D.aAG)(ch:List Int)(e:Int):List D.aAG×List Int×List Int:=ch.foldl (bSl e) (hs,[],[])
def bMn (n:Int):Int:=bif gP n 1019==0 then 0 else aZp 1019 11 (gP n 1019) 1017 1
def bSm (l:List Int)(k a w:Int)(j:Nat):Int:=bif (j:Int)==k then w else(IntKind.i64.wrap ((IntKind.i64.wrap (w*gP (IntKind.i64.wrap (gP a 1019-gP (l.getD j 0) 1019)) 1019)).tmod 1019*bMn (IntKind.i64.wrap (gP (l.getD k.toNat 0) 1019-gP (l.getD j 0) 1019)))).tmod 1019
def bSn (l:List Int)(k a:Int):Int:=bif (decide (k<0)||decide (k>=(l.length:Int)))||fO (bOy (λq=>gP q 1019) l) 0 l then 0 else(List.range l.length).foldl (bSm l k a) 1
def bO1 (a b:Int):Int:=bif aLa a&&aLa b then(IntKind.i64.wrap (a*b)).tmod 2039 else 0
def bLa (ix vs:List Int)(i:Nat)(x:Int):Bool:= !bF x 1 7||(!aLa (vs.getD i 0)||bOy (λq=>q) ix i x)
def bQk (ix vs:List Int):Int:=(List.range vs.length).foldl (λo i=>bO1 o (xQ (vs.getD i 0) (bSn ix (i:Int) 0))) 1
def bMo (ix vs:List Int):Int×Bool:=bif (!(ix.length==vs.length)||ix.length==0)||fO (bLa ix vs) 0 ix then(0,false) else(bQk ix vs,true)
def bQl (c b:Int):Int:=bif gP b 1019==0 then 0 else xQ c (bMn b)
def bO2 (v:D.aAO)(o:Int):Int×Bool:=bif R8 o v.Salt==v.Check then(aSf v.Masked o,true) else(0,false)
def Ye (v:D.aAO)(hs:List D.aAG)(ch:List Int)(pin b:Int):List D.aAG×List Int×List Int:=bK9 hs ch (bOz v.Salt pin b)
def bSo (hs:List D.aAG)(ch:List Int)(pin b:Int):Bool:=bK8 hs ch&&(!(gP b 1019==0)&&bF pin 0 9999)
def bMp (v:D.aAO)(hs:List D.aAG)(ch:List Int)(pin b:Int):List D.aAG×Int×Bool:=
 bif !bSo hs ch pin b then(hs,0,false) else
 bif decide ((ch.length:Int)<v.Threshold)||(decide ((Ye v hs ch pin b).2.2.length<ch.length)|| !(bMo (Ye v hs ch pin b).2.1 (Ye v hs ch pin b).2.2).2) then((Ye v hs ch pin b).1,0,false) else
  ((Ye v hs ch pin b).1,bO2 v (Ad (bQl (bMo (Ye v hs ch pin b).2.1 (Ye v hs ch pin b).2.2).1 b) v.Salt))
def bMq (w:D.World):Int:=IntKind.i64.wrap (1+(aU w.Seed [313,w.Now]).tmod 1018)
def aSj (w:D.World)(ch:List Int)(pin:Int):D.World×Int×Bool:=bif !aR w then(w,0,false) else
 (Oa {w with Hosts:=(bMp w.aAO w.Hosts ch pin (bMq w)).1} 5,(bMp w.aAO w.Hosts ch pin (bMq w)).2)
def bH9 (w:D.World):List Int:=(List.range (min w.aAO.Threshold ((w.Hosts.length:Int)+1)).toNat).map λ(i:Nat)=>(i:Int)
def bLb (w:D.World)(pin:Int):D.World×Bool:=((aSj w (bH9 w) pin).1,(aSj w (bH9 w) pin).2.2)
structure AskIn (B:Nat) (hs:List D.aAG) (i:Nat) (s:List D.aAG×List Int×List Int):Prop where
 len:s.1.length=hs.length
 sz:∀h∈s.1,h.sz<=B+i
 eq:s.2.1.length=s.2.2.length
 le:s.2.2.length<=i
--needs aAL aAN aAM
def nR (w:D.World)(d:Int):D.World×Bool:=bif eO w d 0&& !dG w d then({w with Stolen:=w.Stolen.set d.toNat true},true) else(w,false)
def aJh (b:D.aAE)(now:Int):D.aAE:=bif eD b then {b with Open:=b.Open.filter λc=>decide (c.Until>=now)} else b
def aLg (w:D.World):D.World:={w with Now:=IntKind.i64.wrap (w.Now+1)}
def aW8 (w:D.World):D.World×Bool:=bif aR (aLg w) then({aLg w with Sites:=w.Sites.map λs=>{s with Book:=aJh s.Book (aLg w).Now}},true) else(w,false)
def bIa (w:D.World)(d j:Int):D.World×Int:=bif eO w d j&&dG w d then Hy w d j (aSe j) else(w,1)
def bIb (w:D.World)(d j:Int):D.World×Int:=bif eO w d j&& !dG w d then Hy w d j (aZo j) else(w,1)
def bSp:ByteArray:=⟨#[97,46,110,101,116]⟩
def bO3 (w:D.World)(k d o v:Int)(f:Bool):D.World×Bool:=
 bif !aR w then(w,false) else
 bif k==1 then aW8 w else
 bif k==2 then((qH w d o).1,(qH w d o).2==0) else
 bif k==3 then((bIb w d o).1,(bIb w d o).2==0) else
 bif k==4 then nR w d else
 bif k==5 then((bIa w d o).1,(bIa w d o).2==0) else
 bif k==6 then iG w d else
 bif k==7 then iH w d o else
 bif k==8 then jB w d bSp v f else
 bif k==9 then dL w d else
 bif k==10 then((aI w d v).1,(aI w d v).2==0) else
 bif k==11 then bLb w v else
 bif k==12 then aWt w else
 bif k==13 then aZe w o v else(w,false)
def aUc (l:List Int):Prop:=okL (λn:Int=>0<=n/\n<=255) l
noncomputable instance (l:List Int):Decidable (aUc l):=Classical.propDecidable _
def bEh (l:List Int):Bool:=decide ((l.length:Int)>1048576)
def aUd (b:D.aAF):Prop:=∀x∈b.Boxes,aQ x.Data
def oM (c:D.aAD):Prop:=aUd c.Boxes/\∀s∈c.History,aQ s.Data
instance (b:D.aAF):Decidable (aUd b):=inferInstanceAs (Decidable (∀x∈b.Boxes,aQ x.Data))
instance (c:D.aAD):Decidable (oM c):=inferInstanceAs (Decidable (_/\_))
--needs aAQ
def aX (c:D.aAQ):Prop:=0<=c.i/\c.b.length<=1048576
instance (c:D.aAQ):Decidable (aX c):=by unfold aX;infer_instance
def bLc (h:Int):Int:=IntKind.i64.wrap (IntKind.i64.wrap (h*6364136223846793005)+1442695040888963407)
def bMr (h:Int):Int:=mG IntKind.i64 (aVd IntKind.i64 (Co IntKind.i64 h 33) (Co IntKind.i64 h 47)) 255
def jW (c:D.aAQ):D.aAQ×Int:=bif decide (c.i<(c.b.length:Int)) then(⟨c.b,IntKind.i64.wrap (c.i+1),bLc c.h⟩,mG IntKind.i64 (IntKind.i64.wrap (bMr (bLc c.h)+IntKind.i64.wrap (c.b.getD c.i.toNat 0))) 255) else(⟨c.b,c.i,bLc c.h⟩,bMr (bLc c.h))
def bL (c:D.aAQ)(n:Int):D.aAQ×Int:=bif decide (n<=0) then(c,0) else bif decide (n<=256) then((jW c).1,(jW c).2.tmod n) else
 ((jW (jW (jW c).1).1).1,(IntKind.i64.wrap (IntKind.i64.wrap (IntKind.i64.wrap ((jW c).2*65536)+IntKind.i64.wrap ((jW (jW c).1).2*256))+(jW (jW (jW c).1).1).2)).tmod n)
def oF (c:D.aAQ)(n:Int):D.aAQ×Bool:=((bL c n).1,(bL c n).2==0)
def Yf (c:D.aAQ)(l:List Int):D.aAQ×Int:=((bL c (l.length:Int)).1,l.getD (bL c (l.length:Int)).2.toNat 0)
def aLh (c:D.aAQ):D.aAQ×Int:=bif (oF c 10).2 then Yf (oF c 10).1 [0,-1,1,2147483646,2147483647] else((bL (oF c 10).1 99999).1,IntKind.i64.wrap (1+(bL (oF c 10).1 99999).2))
--needs aAQ Event
def eA (c:D.aAQ):D.aAQ×Int:=bL c 13
def eB (c:D.aAQ):D.aAQ×Int:=bL (eA c).1 4
def aTx (e:D.Event):Prop:=(1<=e.Kind/\e.Kind<=13)/\(0<=e.Device/\e.Device<=3)/\(0<=e.Other/\e.Other<=2)/\(0<=e.Value/\e.Value<=39)/\(e.Kind≠11->e.Value<=3)
--needs Event World
def evF (w:D.World)(e:D.Event):D.World×Bool:=bO3 w e.Kind e.Device e.Other e.Value e.Flag
def aW9 (a b:D.aAB):Prop:=dX a b=(a,true)/\a.sz<=34359738368/\b.sz<=34359738368
noncomputable instance (a b:D.aAB):Decidable (aW9 a b):=Classical.propDecidable _
--needs aAQ
end Go.VK
