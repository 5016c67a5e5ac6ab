import Derived.Test.YtkkjfhgcpofjbaaGreatDoorEVyltod
import Derived.Test.YtkkjfhgcpofjbaaGreatDoorXyS
/- Printed by wip/tools: models, walks, proofs. -/
set_option linter.all false
set_option maxRecDepth 100000
set_option maxHeartbeats 4000000
namespace Go.VK
open Go.RowKit Go.Proofs D
def Ud (k:A3):Int:=IntKind.i64.wrap (IntKind.i64.wrap (k.Epoch*1000)+k.Guesses)
theorem aXq {h v:Int}(h0:0<=h)(h1:h<2147483647):0<=hstep h v/\hstep h v<2147483647:=by
 grind[Int.tmod_nonneg,Int.tmod_lt_of_pos,aL,jO,hstep,Ac]
def aXr (l:List Int):0<=Jg l/\Jg l<2147483647:=by
 unfold Jg
 suffices ∀(l:List Int) (h:Int),0<=h->h<2147483647->0<=l.foldl hstep h/\l.foldl hstep h<2147483647 from(by grind)
 intro l;induction l<;>grind[aXq]
theorem mU (k:Int)(l:List Int):0<=bS k l/\bS k l<2147483647:=aXr _
def aU1 (a b:Int):Int:=bif decide (b>a) then b else a
def Al (a:List Int)(r:List (List Int)):List Int:=a++r.flatten
def jV (n:Int):Int:=bif n==0 then 1 else n
def bN (n:Int):Bool:=bU n 1 2147483646
def Re (b:List Int):List Int:=[(b.length:Int)]++b.map IntKind.i64.wrap
def aV (seed:Int)(l:List Int):Int:=jV (bS seed ([151]++l))
def sK (k:Int)(s:ByteArray):Int:=jV (bS k (Re (cB s)))
def fP (p:Int):Int:=bif !(bN p) then 0 else(IntKind.i64.wrap (p*48271)).tmod 2147483647
def iH (s:AI):Int:=aV s.Seed [181]
def aS (s:AI):Int:=fP (iH s)
def jJ (l:List Int)(x:Int):Bool:=l.any λe=>e==x
def gD (log:List AF)(p:Int):Bool:=log.any λe=>e.Kind==2&&e.Device==p
def iY (s:List Int)(e:AF):List Int:=
 bif e.Kind==1 then(bif s.contains e.Device then s else s++[e.Device]) else bif e.Kind==2 then s.filter (λd=>d !=e.Device) else s
def aC (log:List AF):List Int:=log.foldl iY []
def aB (log:List AF):Int:=log.foldl (λn e=>bif e.Kind==2 then IntKind.i64.wrap (n+1) else n) 0
def aN (b:AB)(site a:Int):Int:=kV (λe=>e.Site==site&&e.Handle==a) 0 b.Entries
def aJ (s:AD)(id:Int):Int:=kV (λa=>a.Id==id) 0 s.Accounts
theorem aIj (s:List Int)(x:AF):(iY s x).length<=s.length+1:=by
 grind[List.length_filter_le,iY]
def gP (log:List AF):(aC log).length<=log.length:=by
 suffices ∀(l:List AF) (s:List Int),(l.foldl iY s).length<=s.length+l.length from by grind[aC]
 intro l;induction l<;>grind[List.length_cons,iY,List.length_filter_le]
def aXs {n:Int}(h:0<=n):aU1 1 n=jV n:=by
 grind[aU1,jV]
def bH (s:ByteArray):Int:=sK 173 s
def WOk (w:AA):Prop:=w.Devices.length<=34359738368/\w.Stolen.length<=34359738368/\w.aAA.Log.length<=34359738368/\w.Sites.length<=34359738368
instance (w:AA):Decidable (WOk w):=inferInstanceAs (Decidable (_/\_))
def aO (w:AA)(d:Int):Bool:=decide (0<=d)&&decide (d<w.Devices.length)
def aSw {w:AA}(h:WOk w)(d:Int):bU d 0 (IntKind.i64.wrap ((w.Devices.length:Int)-1))=aO w d:=by
 have:=h.1
 grind[bU,aO,aL]
def aF (w:AA)(d:Int):AC:=w.Devices.getD d.toNat default
theorem nX {w:AA}{d:Int}(h:aO w d=true):bC w.Devices d=some (aF w d):=by
 grind[aF,List.getD,List.getElem?_eq_getElem,nV,aO]
def bZ (w:AA)(d:Int):Bool:=aO w d&&jJ (aC w.aAA.Log) (aS (aF w d).Store)
def bRb (w:AA)(i:Nat):Bool:=bZ w i&&(decide (i<w.Stolen.length)&& !w.Stolen.getD i false)
def Ao (w:AA):List Int:=((List.range w.Devices.length).filter (bRb w)).map Int.ofNat
def WOk.of {w:AA}(h:w.sz<=1048576):WOk w:=by
 grind[WOk,AA.sz,AM.sz]
def aU2 (k:Int)(i:Nat)(z:Int):Int:=IntKind.u8.wrap ((z-bS k [(i:Int)])%256)
def U2 (k:Int)(b:List Int):List Int:=Ra (λi z=>[aU2 k i z]) 0 b
theorem aXt (x:Int):jO (IntKind.i64.wrap x) 256=x%256:=by
 grind[jO,IntKind.wrap_i64]
theorem bJc (k:Int)(i:Nat)(z:Int):IntKind.u8.wrap (jO (IntKind.i64.wrap (IntKind.i64.wrap z-bS k [(i:Int)])) 256)=aU2 k i z:=by
 grind[aXt,aU2,IntKind.wrap_i64]
theorem bJd (k:Int)(i:Nat)(z:Int):IntKind.u8.wrap (jO (IntKind.i64.wrap (IntKind.i64.wrap z-(bS k [(i:Int)]).tmod 256)) 256)=aU2 k i z:=by
 grind[aXt,aU2,IntKind.wrap_i64,Int.tmod_eq_emod_of_nonneg,mU]
def sM {α β:Type}{y:Nat->α->β}:∀{i:Nat} {l:List α},(Ra (λi x=>[y i x]) i l).length=l.length
 |i,[]=>rfl
 |i,x::xs=>by simp[Ra,sM]
def kX (p e:Int):Int:=aV p [163,e]
def aFx (k:Int)(b:AQ):Int:=bS k ([167,b.To,b.Ephemeral]++Re b.Data)
def jA (p:Int)(b:AQ):List Int×Bool:=
 bif !bN p||(b.To !=fP p||(!bN b.Ephemeral||decide ((b.Data.length:Int)>200))) then([],false)
 else bif b.MAC !=aFx (kX p b.Ephemeral) b then([],false) else(U2 (kX p b.Ephemeral) b.Data,true)
def iL:List AQ->Int->List Int×Bool
 |[],_=>([],false)
 |b::bs,p=>bif (jA p b).2 then((jA p b).1,true) else iL bs p
def aT (b:List Int):Prop:=b.length<=34359738368/\b.all (λz=>decide (0<=z)&&decide (z<=255))=true
instance (b:List Int):Decidable (aT b):=inferInstanceAs (Decidable (_/\_))
theorem wI {b:List Int}(h:aT b){i:Nat}(hi:i<b.length):0<=b[i]/\b[i]<=255:=by have:=ct.1 h.2 b[i] (ce hi);simp_all
def uvG (b:List Int)(p:Nat):Nat->Nat->Int->Int×Int×Bool
 |0,_,_=>(0,0,false)
 |k+1,i,n=>
  if p+i<b.length then
   bif decide (b.getD (p+i) 0<128) then
    (bif (decide (0<i)&&b.getD (p+i) 0==0)||decide (n+b.getD (p+i) 0%128*128^i>1000000000000) then(0,0,false) else(n+b.getD (p+i) 0%128*128^i,((p+i+1:Nat):Int),true))
   else uvG b p k (i+1) (n+b.getD (p+i) 0%128*128^i)
  else(0,0,false)
def Ej (b:List Int)(at_:Int):Int×Int×Bool:=if at_<0 then(0,0,false) else uvG b at_.toNat 6 0 0
def aU3 {i:Nat}(h:i<=6):(1:Int)<=128^i/\(128:Int)^i<=4398046511104:=by
 match i,h with
 |0,_|1,_|2,_|3,_|4,_|5,_|6,_=>decide
def aU4 {z n:Int}{i:Nat}(hi:i<=5)(b:0<=z)(hn:0<=n)(a:n<128^i):0<=n+z%128*128^i/\n+z%128*128^i<128^(i+1)/\0<=z%128*128^i/\z%128*128^i<=127*128^i:=by have hp:=aU3 (i:=i) (by omega);have h1:0<=z%128*128^i:=jw (by omega) (by omega);have h2:z%128*128^i<=127*128^i:=Int.mul_le_mul_of_nonneg_right (by omega) (by omega);omega
def bMx {z n:Int}{i:Nat}(hi:i<=5)(h:0<=z)(j:z<=255)(hn:0<=n)(c:n<128^i):
  orI .i64 n (aBy .i64 (qB .i64 z 127) (IntKind.i64.wrap (7*(i:Int))))=n+z%128*128^i:=by
 obtain⟨m,rfl⟩:=ey h;obtain⟨q,rfl⟩:=ey hn;have hp:=aU3 (i:=i) (by omega);have hs:=aU4 (z:=(m:Int)) (n:=(q:Int)) hi (by omega) (by omega) c;have t:qB .i64 (m:Int) 127=((m%128:Nat):Int):=by
  have e:((BitVec.ofInt 64 (m:Int))&&&(BitVec.ofInt 64 127)).toNat=m%128:=by
   rw[BitVec.toNat_and];have k:(BitVec.ofInt 64 (m:Int)).toNat=m:=by
    grind
   have l:(BitVec.ofInt 64 127).toNat=2^7-1:=by decide
   rw[k,l,gf]
  show IntKind.i64.wrap (((BitVec.ofInt 64 (m:Int))&&&(BitVec.ofInt 64 127)).toNat:Int)=_
  grind[aL]
 have u:IntKind.i64.wrap (7*(i:Int))=((7*i:Nat):Int):=by grind[aL]
 have d:(2:Nat)^(7*i)=128^i:=by rw[Nat.pow_mul]
 have o:((128^i:Nat):Int)=(128:Int)^i:=by simp
 have hb:aBy .i64 (qB .i64 (m:Int) 127) (IntKind.i64.wrap (7*(i:Int)))=((m%128*128^i:Nat):Int):=by
  grind[aL,Int.toNat_natCast,min,Nat.min_eq_left,IntKind.bits,aBy]
 rw[hb];have a:q<128^i:=by omega
 have f:(m%128*128^i)|||q=m%128*128^i+q:=by
  have:=jm (b:=q) (i:=7*i) (by rw[d];exact a) (m%128)
  grind[Nat.shiftLeft_eq]
 have p:m%128*128^i+q<2^63:=by
  grind
 have v:((BitVec.ofInt 64 (q:Int))|||(BitVec.ofInt 64 ((m%128*128^i:Nat):Int))).toNat=m%128*128^i+q:=by
  rw[BitVec.toNat_or];have r:(BitVec.ofInt 64 (q:Int)).toNat=q:=by grind
  have s:(BitVec.ofInt 64 ((m%128*128^i:Nat):Int)).toNat=m%128*128^i:=by rw[BitVec.toNat_ofInt];omega
  rw[r,s,Nat.or_comm,f]
 show IntKind.i64.wrap (((BitVec.ofInt 64 (q:Int))|||(BitVec.ofInt 64 ((m%128*128^i:Nat):Int))).toNat:Int)=_
 grind[aL]
def kY (b:List Int):Nat->Int->List Int->List Int×Int×Bool
 |0,a,s=>(s,a,true)
 |k+1,a,s=>bif (Ej b a).2.2 then kY b k (Ej b a).2.1 (s++[(Ej b a).1]) else([],0,false)
def jW (b:List Int)(a c:Int):List Int×Int×Bool:=bif !bU c 0 100|| !bU a 0 b.length then([],0,false) else kY b c.toNat a []
theorem aXu (b:List Int):∀(k:Nat) (a:Int) (s:List Int),(kY b k a s).2.2=true->(kY b k a s).1.length=s.length+k
 |0,a,s,_=>rfl
 |k+1,a,s,h=>by
  unfold kY at h ⊢;cases c:(Ej b a).2.2 with
  |false=>rw[c] at h;simp at h
  |true=>rw[c] at h;simp only[ac] at h ⊢;rw[aXu b k _ _ h];simp;omega
theorem decode_len {b:List Int}{a c:Int}(hc:0<=c)(h:(jW b a c).2.2=true):(jW b a c).1.length=c.toNat:=by
 grind[bU,aXu,jW]
theorem aU5 {k:Int}{b:List Int}(h:b.length<=34359738368):aT (U2 k b):=by
 refine⟨by unfold U2;rw[sM];exact h,?_⟩;rw[ct];intro z a;have:∀(b:List Int) (i:Nat),z∈Ra (λi z=>[aU2 k i z]) i b->0<=z/\z<=255:=by
  intro b;induction b with
  |nil=>simp[Ra]
  |cons x xs c=>
   intro i h;simp only[Ra,bp,cj] at h;rcases h with rfl|h
   ·have:=fC .u8 ((x-bS k [(i:Int)])%256);assumption
   grind
 have:=this b 0 a;simp[*]
def bAm (p:Int)(b:AQ):aT (jA p b).1:=by
 grind[decide,bN,fP,aFx,kX,aU5,aT,jA]
theorem U3 (p:Int):∀bs,aT (iL bs p).1
 |[]=>show aT [] by decide
 |b::bs=>by
  unfold iL;cases(jA p b).2 with
  |true=>exact bAm p b
  |false=>exact U3 p bs
def Oh (e:AK)(x:List Int×Bool)(y:List Int×Int×Bool):Int×Bool:=
 bif !x.2||(!y.2.2||(y.2.1 !=(x.1.length:Int)||(y.1.getD 0 0 !=e.Epoch|| !bN (y.1.getD 1 0)))) then(0,false) else(y.1.getD 1 0,true)
def eQ (s:AI)(e:AK):Int×Bool:=Oh e (iL e.Boxes (iH s)) (jW (iL e.Boxes (iH s)).1 0 2)
theorem and_one {n:Int}(h0:0<=n)(h1:n<9223372036854775808):qB .i64 n 1=n%2:=by
 obtain⟨m,rfl⟩:=ey h0;have e:((BitVec.ofInt 64 (m:Int))&&&(BitVec.ofInt 64 1)).toNat=m%2:=by
  rw[BitVec.toNat_and];have a:(BitVec.ofInt 64 (m:Int)).toNat=m:=by grind
  have b:(BitVec.ofInt 64 1).toNat=2^1-1:=by decide
  rw[a,b,gf]
 show IntKind.i64.wrap (((BitVec.ofInt 64 (m:Int))&&&(BitVec.ofInt 64 1)).toNat:Int)=_
 grind[aL]
theorem bC4 {n:Int}(h0:0<=n):Ik .i64 n 1=n/2:=by unfold Ik;rw[show min (Int.toNat 1) IntKind.i64.bits=1 from by decide,gp _ (by decide)];rfl
def bFh:Nat->Int->Int->Int->Int
 |0,_,_,s=>s
 |k+1,b,n,s=>if n>0 then bFh k ((IntKind.i64.wrap (b*b)).tmod 2147483647) (n/2) (bif n%2==1 then(IntKind.i64.wrap (s*b)).tmod 2147483647 else s) else s
def bC5:bFh 31 48271 2147483645 1=1899818559:=by decide+kernel
def iM (q:Int):Int:=bif !bN q then 0 else q*1899818559%2147483647
def qL (p:Int)(l:List Int):Int:=bif !bN p then 0 else bS p ([139,(l.length:Int)]++l)
def iI (q:Int)(l:List Int)(g:Int):Bool:=iM q !=0&&qL (iM q) l==g
theorem Ue {α:Type}[Inhabited α]{l:List α}{i:Nat}(h0:0<i)(hi:i<l.length)(hl:l.length<=34359738368):bC l (IntKind.i64.wrap ((i:Int)-1))=some (l.getD (i-1) default):=by
 grind[List.getD,List.getElem?_eq_getElem,aL,aQ]
def vH (l:List AU)(i:Nat)(n:AU):Bool:= !bU n.Kind 1 5||(!bU n.aAH 0 1000000||(!bU n.Time 0 1000000||(decide (0<i)&&decide ((l.getD (i-1) default).Time>n.Time))))
def eY (m:AP):Bool:=decide (m.Notices.length<=30)&& !iG (vH m.Notices) 0 m.Notices
def iC (b:AR)(i:Nat)(n:AZ):Bool:= !bU n.Id 0 (IntKind.i64.wrap (b.Next-1))||((decide (0<i)&&decide ((b.Open.getD (i-1) default).Id>=n.Id))||(!bU n.aAH 0 1000005|| !bU n.Until 0 1000005))
def fQ (b:AR):Bool:=bU b.Next 0 1000000&&decide (b.Open.length<=16)&& !iG (iC b) 0 b.Open
def wB (a:AH)(i:Nat)(n:AV):Bool:=(!bU n.Handle 0 1000000||((decide (0<i)&&decide ((a.Credentials.getD (i-1) default).Handle>=n.Handle))||(iM n.Public==0|| !bU n.Counter 0 1000000)))||(a.Credentials.take i).any λq=>q.Public==n.Public
def bA (a:AH):Bool:=bU a.Id 0 1000000&&bU a.Minimum 1 3&&decide (a.Credentials.length<=8)&& !iG (wB a) 0 a.Credentials
def dZ (e:AF):Int:=Jg [229,e.Index,e.Kind,e.Device,e.By,e.Previous]
def jQ (l:List AF):Int:=bif (l.length:Int)==0 then 0 else dZ (l.getD (l.length-1) default)
def kZ (l:List AF)(e:AF):Bool:=
 e.Index==(l.length:Int)&&(e.Previous==jQ l&&((jJ (aC l) e.By||((l.length:Int)==0&&e.By==e.Device))&&(iI e.By [dZ e] e.Signature&&
  (bif e.Kind==2 then jJ (aC l) e.Device&&decide (((aC l).length:Int)>1) else !gD l e.Device&&(e.Kind==1&&(!jJ (aC l) e.Device&&decide (((aC l).length:Int)<6)))))))
def aW (l:List AF):Bool:=bU (l.length:Int) 1 40&& !iG (λi e=> !kZ (l.take i) e) 0 l
theorem bJe {l:List Int}{x:Int}(h:jJ l x=true):0<l.length:=by
 grind[jJ]
def kH:List UInt8->List UInt8->List (List UInt8)
 |cur,[]=>[cur]
 |cur,b::r=>bif b==46 then cur::kH [] r else kH (cur++[b]) r
def bJf (s:List UInt8)(i:Nat):Lib.occAt s [46] i=decide (s[i]? =some 46):=by
 unfold Lib.occAt;cases h:s.drop i with
 |nil=>simp_all
 |cons b r=>
  have e:s[i]? =some b:=by have:=eM (xs:=s) (i:=i) (j:=0);simp_all
  grind
def aMt:∀(a cur r:List UInt8),(∀b∈a,b≠46)->kH cur (a++46::r)=(cur++a)::kH [] r
 |[],cur,r,_=>by simp[kH]
 |b::a,cur,r,h=>by
  have hb:(b==46)=false:=by simpa using h b (by simp)
  rw[cP,kH,hb,ae,aMt a _ r (λx hx=>h x (cJ _ hx))];simp
def aIk:∀(a cur:List UInt8),(∀b∈a,b≠46)->kH cur a=[cur++a]
 |[],cur,_=>by simp[kH]
 |b::a,cur,h=>by
  have hb:(b==46)=false:=by simpa using h b (by simp)
  rw[kH,hb,ae,aIk a _ (λx hx=>h x (cJ _ hx))];simp
def aXv:∀(n:Nat) (s:List UInt8),s.length<n->Lib.splitK [46] 0 (Lib.count s [46]) s=kH [] s
 |0,s,h=>absurd h (Nat.not_lt_zero _)
 |n+1,s,h=>by
  rcases Lib.index_spec s [46] with⟨h1,h2⟩|⟨i,h1,h2,a,l⟩
  ·rw[Lib.count_miss h1,aIk s [] (λb hb e=>by
    obtain⟨j,hj,c⟩:=List.getElem_of_mem hb;have:=h2 j (by omega);rw[bJf,ab hj,c,e] at this;simp at this)];rfl
  ·rw[bJf] at a;have a:s[i]? =some 46:=by simpa using a
   have hi:i<s.length:=by
    rcases fY i s.length with d|f
    ·exact d
    ·rw[fk f] at a;cases a
   rw[Lib.count_hit (by simp) h1,Nat.add_comm,Lib.splitK,h1];have k:((i:Int)== -1)=false:=by simp
   rw[k];simp only[bm,dT,aw,bu,cx];rw[dm (by simp),aXv n (s.drop (i+1)) (by rw[cE];omega)];have es:s=s.take i++46::s.drop (i+1):=by
    have m:s[i]=46:=by rw[ab hi] at a;exact aj a
    rw[<-m,List.getElem_cons_drop hi,cL]
   conv=>rhs;rw[es]
   rw[aMt (s.take i) [] _ (λb hb e=>by
    obtain⟨j,hj,c⟩:=List.getElem_of_mem hb;rw[cq] at hj;have:=l j (by omega);rw[bJf,ab (by omega)] at this;rw[List.getElem_take] at c;rw[c,e] at this;simp at this)];simp
def bP (s:ByteArray):List ByteArray:=(kH [] s.data.toList).map λl=>⟨l.toArray⟩
def aMu (s:ByteArray):lV s ⟨#[46]⟩=bP s:=by
 have h1:(lV s ⟨#[46]⟩).map (·.data.toList)=kH [] s.data.toList:=by rw[lV,Lib.splitB_data];exact aXv _ _ (eK _)
 unfold bP;rw[<-h1,gC]
 conv=>lhs;rw[<-List.map_id (lV s ⟨#[46]⟩)]
 congr 1
def aCl (b:Int):Bool:=bU b 97 122||bU b 48 57||b==45
def wJ (s:ByteArray):Bool:=decide (1<=s.size)&&decide (s.size<=20)&& !((cB s).getD 0 0==45)&& !((cB s).getD (s.size-1) 0==45)&& !((cB s).any λb=> !aCl b)
def iD (s:ByteArray):Bool:=decide (s.size<=60)&& !((bP s).any λl=> !wJ l)
def kI (s:ByteArray):(cB s).length=s.size:=by simp[cB,bl]
theorem aXw {s:ByteArray}{i:Nat}(h:i<s.size):bC (cB s) (i:Int)=some ((cB s)[i]'(by rw[kI];exact h)):=aQ _
def ext_list (s:ByteArray)(a b:Nat):s.extract a b=⟨((s.data.toList.drop a).take (b-a)).toArray⟩:=by apply ByteArray.ext;apply jl.1;rw[Lib.extract_data]
def U4:∀(s cur:List UInt8),(kH cur s).length<=s.length+1
 |[],_=>by simp[kH]
 |b::r,cur=>by
  rw[kH];cases b==46 with
  |true=>have:=U4 r [];simp;omega
  |false=>have:=U4 r (cur++[b]);simp at this ⊢;omega
def Uf:∀(s cur:List UInt8) (l:List UInt8),l∈kH cur s->l.length<=cur.length+s.length
 |[],cur,l,h=>by simp[kH] at h;subst h;simp
 |b::r,cur,l,h=>by
  rw[kH] at h;cases hb:b==46 with
  |true=>
   rw[hb,ac] at h;rcases bf.1 h with rfl|h
   ·omega
   ·have:=Uf r [] l h;simp at this ⊢;omega
  |false=>rw[hb,ae] at h;have:=Uf r _ l h;simp at this ⊢;omega
def Ug (s:ByteArray):(bP s).length<=s.size+1:=by unfold bP;rw[bl];exact U4 _ _
def zJ (s l:ByteArray)(h:l∈bP s):l.size<=s.size:=by unfold bP at h;obtain⟨q,hq,rfl⟩:=cr.1 h;have:=Uf _ _ q hq;have h2:(⟨q.toArray⟩:ByteArray).size=q.length:=rfl;simp_all
theorem bS9 (z:ByteArray):(z.toList==(⟨#[]⟩:ByteArray).toList)=decide (z.size=0):=by
 rw[ByteArray.toList_eq,ByteArray.toList_eq,fL];simp only[de,cu];constructor
 ·intro h;show z.data.size=0;simp_all
 simp_all
def zK:∀(s cur:List UInt8),(kH cur s).length=s.countP (·==46)+1
 |[],_=>rfl
 |b::r,cur=>by
  rw[kH,List.countP_cons];cases b==46 with
  |true=>rw[ac,aw,zK r []];simp
  |false=>rw[ae,zK r _];simp
def aIl (s:ByteArray):0<(bP s).length:=by simp[bl,zK,bP]
def o8 (s:ByteArray):Bool:=(cB s).any λb=>b==46
theorem aQe (s:ByteArray):o8 s=decide (2<=(bP s).length):=by
 unfold o8 bP cB;rw[bl,zK,List.any_map];have e:(λb:Int=>b==46)∘(λb:UInt8=>(b.toNat:Int))=λb:UInt8=>b==46:=by
  funext b;rw[fL];simp only[Function.comp,de];constructor
  ·intro q;apply UInt8.toNat_inj.1;grind
  simp_all
 rw[e,fL,fp,cu];simp
def bFi (s:ByteArray):ByteArray:=bif iD s then(bif (bP s).length==1 then s else rG ⟨#[46]⟩ ((bP s).drop ((bP s).length-2))) else⟨#[]⟩
def bOt {l:List ByteArray}(h:2<=l.length):∃a∈l,∃b∈l,rG ⟨#[46]⟩ (l.drop (l.length-2))=a++⟨#[46]⟩++b:=by
 have hl:(l.drop (l.length-2)).length=2:=by grind
 match hm:l.drop (l.length-2),hl with
 |[a,b],_=>refine⟨a,df (i:=l.length-2) (by rw[hm];simp),b,df (i:=l.length-2) (by rw[hm];simp),?_⟩;rw[show[a,b]=[a]++[b] from rfl,bLw _ _ _ (by simp),bLv]
theorem Uh {s:ByteArray}(h:iD s=true):s.size<=60/\0<s.size:=by
 unfold iD at h;rw[aa,cu] at h;refine⟨h.1,Nat.pos_of_ne_zero λe=> ?_⟩
 have a:s.data.toList=[]:=cm e;have b:bP s=[⟨#[]⟩]:=by unfold bP;rw[a];rfl
 rw[b] at h;exact absurd h.2 (by decide)
theorem bMy {s:ByteArray}(h:iD s=true):decide ((bFi s).size=0)=false:=by
 have hs:=Uh h;have hp:=aIl s;unfold bFi;rw[h,ac];refine av ?_;cases h1:(bP s).length==1 with
 |true=>grind
 |false=>
  rw[ae];have:(bP s).length≠1:=by simp_all
  obtain⟨a,_,b,_,e⟩:=bOt (l:=bP s) (by omega);rw[e,ByteArray.size_append,ByteArray.size_append];have:(⟨#[46]⟩:ByteArray).size=1:=rfl;omega
def kM (s:ByteArray)(seed:Int):Bool:=iD s&&decide (2<=(bP s).length)&&bN seed
def Ir (l:List AH)(i:Nat)(n:AH):Bool:= !bA n||(decide (0<i)&&decide ((l.getD (i-1) default).Id>=n.Id))
def bI (s:AD):Bool:=kM s.Name s.Book.Seed&&decide (s.Accounts.length<=8)&&fQ s.Book&& !iG (Ir s.Accounts) 0 s.Accounts
def SOk (s:AD):Prop:=s.Name.size<=34359738368/\s.Accounts.length<=34359738368/\s.Book.Open.length<=34359738368/\∀a∈s.Accounts,a.Credentials.length<=34359738368
instance (s:AD):Decidable (SOk s):=inferInstanceAs (Decidable (_/\_))
def gJ (name:ByteArray)(seed:Int):AD:=bif kM name seed then⟨name,[],⟨seed,0,[]⟩,[]⟩ else⟨⟨#[]⟩,[],⟨0,0,[]⟩,[]⟩
def bAn (name:ByteArray)(seed:Int):decide ((gJ name seed).Name.size=0)= !kM name seed:=by
 unfold gJ;cases h:kM name seed with
 |false=>rfl
 |true=>
  grind[decide_eq_false,Uh,iD,kM]
def aA (i:Int):ByteArray:=bif i==0 then⟨#[98,97,110,107,46,99,111,109]⟩ else bif i==1 then⟨#[115,104,111,112,46,111,114,103]⟩ else⟨#[]⟩
def lW (i:Nat)(s:AD):Bool:= !bI s|| !(s.Name.toList==(aA (i:Int)).toList)
def aR (w:AA):Bool:=bU w.Now 0 999900&&bU (w.Devices.length:Int) 1 6&&(w.Stolen.length:Int)==(w.Devices.length:Int)&&(w.Sites.length:Int)==2&&eY w.Mail&&aW w.aAA.Log&&bN w.Seed&& !iG lW 0 w.Sites
def bRc (w:AA):Prop:=WOk w/\w.Mail.Notices.length<=34359738368/\w.Hosts.length<=34359738368/\∀s∈w.Sites,SOk s
instance (w:AA):Decidable (bRc w):=inferInstanceAs (Decidable (_/\_))
theorem aFy {α:Type}{g:α->Nat}{x:α}:∀{l:List α},x∈l->g x<=(l.map g).sum
 |y::r,h=>by
  rw[bw,eJ];rcases bf.1 h with rfl|h
  ·omega
  ·have:=aFy (g:=g) h;omega
def SOk.of {s:AD}(h:s.sz<=1048576):SOk s:=by
 simp only[AD.sz] at h;refine⟨by omega,by omega,by omega,λa b=> ?_⟩
 grind[AH.sz,aFy]
def bRc.of {w:AA}(h:w.sz<=1048576):bRc w:=by
 refine⟨WOk.of h,?_,?_,λs hs=>SOk.of ?_⟩
 all_goals grind[aFy,AD.sz,AA.sz]
abbrev M3 (a:List Int)(r:List (List Int)):Prop:=a.length+r.flatten.length<=68719476736/\r.length<=1099511627776
def nI (w:AA)(i:Int):Bool:=decide (0<=i)&&decide (i<w.Sites.length)
def eX (a b:AG):Bool:=decide (a.Site<b.Site)||(a.Site==b.Site&&decide (a.Handle<b.Handle))
def mP (a:AG)(s h:Int):Bool:=decide (a.Site<s)||(a.Site==s&&decide (a.Handle<h))
def qD (x e:AG):Bool:=decide (x.Version>e.Version)||(x.Version==e.Version&&x.Deleted)
def qM (e x:AG):AG:=bif qD x e then x else e
def bM:List AG->List AG->List AG
 |[],bs=>bs
 |a::xs,[]=>a::xs
 |a::xs,b::bs=>bif eX a b then a::bM xs (b::bs) else bif eX b a then b::bM (a::xs) bs else qM a b::bM xs bs
termination_by xs bs=>xs.length+bs.length
def Ui (l:List AG)(i:Nat)(e:AG):Bool:= !bU e.Site 0 2147483646||(!bU e.Handle 0 1000000||(!bU e.Version 1 1000000||(decide ((i:Int)>0)&& !eX (l.getD (i-1) default) e)))
def aP (b:AB):Bool:=decide ((b.Entries.length:Int)<=20)&& !iG (Ui b.Entries) 0 b.Entries
def fZ (a b:AB):AB×Bool:=bif aP a&&aP b then(bif aP ⟨bM a.Entries b.Entries⟩ then(⟨bM a.Entries b.Entries⟩,true) else(a,false)) else(a,false)
def pO (b:AB)(x:AG):AB:=bif decide (aN b x.Site x.Handle>=0) then⟨b.Entries.set (aN b x.Site x.Handle).toNat x⟩ else⟨b.Entries.takeWhile (λe=>mP e x.Site x.Handle)++[x]++b.Entries.dropWhile (λe=>mP e x.Site x.Handle)⟩
theorem zR {a b:AG}:eX a b=true↔a.Site<b.Site\/(a.Site=b.Site/\a.Handle<b.Handle):=by simp[eX]
def bAo {a x:AG}:mP a x.Site x.Handle=eX a x:=rfl
theorem oN {a b c:AG}(h:eX a b=true)(k:eX b c=true):eX a c=true:=by
 grind[zR]
def Ap {a b:AG}(h:eX a b=false)(k:eX b a=false):a.Site=b.Site/\a.Handle=b.Handle:=by
 grind[zR]
def zS {a b c:AG}(h:a.Site=b.Site/\a.Handle=b.Handle):eX a c=eX b c:=by unfold eX;rw[h.1,h.2]
def aMv {a b c:AG}(h:a.Site=b.Site/\a.Handle=b.Handle):eX c a=eX c b:=by unfold eX;rw[h.1,h.2]
def aCm {a b:AG}(h:a.Site=b.Site/\a.Handle=b.Handle):(qM a b).Site=b.Site/\(qM a b).Handle=b.Handle:=by
 grind[qD,qM]
def bC6 (a b:AG):qM a b=a\/qM a b=b:=by
 grind[qD,qM]
theorem fJ (l:List AG):bM l []=l:=by cases l<;>rw[bM]
def iQ (l:List AG):bM [] l=l:=by rw[bM]
def zT:∀(n:Nat) (a b:List AG),a.length+b.length<=n->(bM a b).length<=a.length+b.length
 |_,[],b,_=>by rw[iQ];simp
 |_,a::xs,[],_=>by rw[fJ];simp
 |0,a::xs,b::bs,h=>by simp at h
 |n+1,a::xs,b::bs,h=>by
  simp only[aw] at h;rw[bM];cases eX a b with
  |true=>have:=zT n xs (b::bs) (by simp only[aw];omega);simp only[ac,aw] at*;omega
  |false=>
   cases eX b a with
   |true=>have:=zT n (a::xs) bs (by simp only[aw];omega);simp only[ae,ac,aw] at*;omega
   |false=>have:=zT n xs bs (by omega);simp only[ae,aw] at*;omega
def vI (a b:AG)(xs bs:List AG):bM (a::xs) (b::bs)=bif eX a b then a::bM xs (b::bs) else bif eX b a then b::bM (a::xs) bs else qM a b::bM xs bs:=by rw[bM]
def srt (l:List AG):Prop:=l.Pairwise λa b=>eX a b=true
def aSx:∀(A:List AG) {b:AG} {bs:List AG},srt (b::bs)->bM (bM A [b]) bs=bM A (b::bs)
 |[],b,bs,h=>by
  rw[iQ,iQ];cases bs with
  |nil=>rw[fJ]
  |cons c cs=>rw[bM,(cg.1 h).1 c (by simp),ac,iQ]
 |a::xs,b,bs,h=>by
  have hc:=(cg.1 h).1;rw[vI a b xs [],vI a b xs bs];cases h1:eX a b with
  |true=>
   simp only[ac];cases bs with
   |nil=>rw[fJ]
   |cons c cs=>rw[bM,oN h1 (hc c (by simp)),ac,aSx xs h]
  |false=>
   cases h2:eX b a with
   |true=>
    simp only[ac,ae];rw[fJ];cases bs with
    |nil=>rw[fJ,fJ]
    |cons c cs=>rw[bM,hc c (by simp),ac]
   |false=>
    simp only[ae];rw[fJ];cases bs with
    |nil=>rw[fJ,fJ]
    |cons c cs=>rw[bM,zS (aCm (Ap h1 h2)),hc c (by simp),ac]
def bC7:∀{l:List AG} {x y:AG},y∈bM l [x]->y∈l\/y=x
 |[],x,y,h=>by rw[iQ] at h;simp at h;exact .inr h
 |a::xs,x,y,h=>by
  rw[bM] at h;cases h1:eX a x with
  |true=>
   rw[h1,ac] at h;rcases bf.1 h with rfl|h
   ·exact .inl (by simp)
   ·exact(bC7 h).imp (λh=>by simp[h]) id
  |false=>
   rw[h1,ae] at h;cases h2:eX x a with
   |true=>
    rw[h2,ac,fJ] at h;rcases bf.1 h with rfl|h
    ·exact .inr rfl
    ·exact .inl h
   |false=>
    rw[h2,ae,fJ] at h;rcases bf.1 h with rfl|h
    ·rcases bC6 a x with e|e
     ·rw[e];exact .inl (by simp)
     ·exact .inr e
    ·exact .inl (by simp[h])
theorem bC8:∀{l:List AG} {x:AG},srt l->srt (bM l [x])
 |[],x,h=>by rw[iQ];exact fS _ _
 |a::xs,x,h=>by
  obtain⟨c,hs⟩:=cg.1 h;rw[bM];cases h1:eX a x with
  |true=>
   rw[ac];refine cg.2 ⟨λy b=> ?_,bC8 hs⟩;rcases bC7 b with b|rfl
   ·exact c y b
   ·exact h1
  |false=>
   cases h2:eX x a with
   |true=>
    rw[ae,ac,fJ];refine cg.2 ⟨λy b=> ?_,h⟩;rcases bf.1 b with rfl|b
    ·exact h2
    ·exact oN h2 (c y b)
   |false=>rw[ae,ae,fJ];have hk:=Ap h1 h2;refine cg.2 ⟨λy b=> ?_,hs⟩;rw[zS (aCm hk),<-zS hk];exact c y b
def aMw:∀(B A:List AG),srt B->B.foldl (λo x=>bM o [x]) A=bM A B
 |[],A,_=>by rw[fJ];rfl
 |b::bs,A,h=>by rw[dp,aMw bs _ (cg.1 h).2,aSx A h]
theorem Js {α:Type}{p:α->Bool}:∀{l:List α} {i:Nat},kV p i l<0->∀y∈l,p y=false
 |[],i,_,y,a=>by simp at a
 |x::l,i,h,y,a=>by
  simp only[kV] at h;cases hp:p x with
  |true=>rw[hp,ac] at h;omega
  |false=>
   rw[hp,ae] at h;rcases bf.1 a with rfl|a
   ·exact hp
   ·exact Js h y a
def o9 {α:Type}{p:α->Bool}:∀{l:List α} {i:Nat},0<=kV p i l->∃l1 e l2,l=l1++e::l2/\p e=true/\kV p i l=((i+l1.length:Nat):Int)
 |[],i,h=>by simp[kV] at h
 |x::l,i,h=>by
  simp only[kV] at h ⊢;cases hp:p x with
  |true=>exact⟨[],x,l,rfl,hp,by simp⟩
  |false=>rw[hp,ae] at h;obtain⟨l1,e,l2,h1,h2,a⟩:=o9 h;exact⟨x::l1,e,l2,by rw[h1];rfl,h2,by rw[ae,a];simp only[aw];omega⟩
theorem bC9:∀{l:List AG} {x:AG},(∀y∈l,(y.Site==x.Site&&y.Handle==x.Handle)=false)->bM l [x]=l.takeWhile (λe=>mP e x.Site x.Handle)++[x]++l.dropWhile (λe=>mP e x.Site x.Handle)
 |[],x,_=>by rw[iQ];rfl
 |a::xs,x,h=>by
  rw[bM,dc,List.dropWhile_cons,bAo];cases h1:eX a x with
  |true=>simp only[ac,io];rw[bC9 (λy b=>h y (by simp[b]))];rfl
  |false=>
   cases h2:eX x a with
   |true=>simp only[ae,ac];rw[fJ];rfl
   |false=>have:=Ap h1 h2;have:=h a (by simp);simp_all
def bDa {e x:AG}{l2:List AG}(he:(e.Site==x.Site&&e.Handle==x.Handle)=true):∀{l1:List AG},srt (l1++e::l2)->bM (l1++e::l2) [x]=l1++qM e x::l2
 |[],_=>by
  have hk:e.Site=x.Site/\e.Handle=x.Handle:=by simpa using he
  have h1:eX e x=false:=by
   cases h:eX e x with
   |false=>rfl
   |true=>rw[zR] at h;omega
  have h2:eX x e=false:=by
   cases h:eX x e with
   |false=>rfl
   |true=>rw[zR] at h;omega
  rw[bv,bM,h1,ae,h2,ae,fJ];rfl
 |a::l1,h=>by
  obtain⟨b,hs⟩:=cg.1 h;have hk:e.Site=x.Site/\e.Handle=x.Handle:=by simpa using he
  have h1:eX a x=true:=by rw[<-aMv hk];exact b e (by simp)
  rw[cP,bM,h1,ac,bDa he hs];rfl
def aXx {l:List AG}{x:AG}(h:srt l):(bif (decide (aN ⟨l⟩ x.Site x.Handle<0)||qD x (l.getD (aN ⟨l⟩ x.Site x.Handle).toNat default)) then(pO ⟨l⟩ x).Entries else l)=bM l [x]:=by
 unfold pO;by_cases b:aN ⟨l⟩ x.Site x.Handle<0
 ·grind[bC9,Js,decide_eq_true,decide,aN,decide_eq_false]
 ·obtain⟨l1,e,l2,h1,h2,c⟩:=o9 (show 0<=kV (λe=>e.Site==x.Site&&e.Handle==x.Handle) 0 l from by unfold aN at b;simp only at b;omega);have a:aN ⟨l⟩ x.Site x.Handle=(l1.length:Int):=by grind[aN]
  rw[a,av (by omega),cX,show decide ((l1.length:Int)>=0)=true from au (by omega),ac,bm];subst h1;rw[bDa h2 h];have g:(l1++e::l2).getD l1.length default=e:=by simp
  have st:(l1++e::l2).set l1.length x=l1++x::l2:=by simp
  rw[g];show(bif qD x e then(l1++e::l2).set l1.length x else l1++e::l2)=_;rw[st];unfold qM;cases qD x e<;>rfl
theorem bDb {α:Type}{p:Nat->α->Bool}:∀{l:List α} {j:Nat},iG p j l=false->∀(i:Nat) (hi:i<l.length),p (j+i) l[i]=false
 |[],j,_,i,hi=>by simp at hi
 |x::l,j,h,i,hi=>by
  simp only[iG,bj] at h;cases i with
  |zero=>exact h.1
  |succ i=>have:=bDb h.2 i (by simpa using hi);rw[show j+(i+1)=j+1+i by omega];exact this
def aMx {b:AB}(h:aP b=true):b.Entries.length<=20/\srt b.Entries:=by
 simp only[aP,aa,cu,bo] at h;refine⟨by omega,?_⟩;have adj:∀i (hi:i+1<b.Entries.length),eX b.Entries[i] b.Entries[i+1]=true:=(by grind[bDb,Ui,Bool.or_eq_false_iff,decide_eq_true,default,Nat.add_sub_cancel,List.getD,List.getElem?_eq_getElem]);have far:∀d i (hi:i+d+1<b.Entries.length),eX b.Entries[i] b.Entries[i+d+1]=true:=λd=>by
  induction d<;>grind[oN]
 refine dr.2 λi j hi hj a=> ?_;obtain⟨d,rfl⟩:∃d,j=i+d+1:=⟨j-i-1,by omega⟩;simp[*]
theorem gQ {α β:Type}{s:List α}(hs:s.length<=34359738368)(x:α)(k:Option β):gd (bB s [x]) k=k:=(by grind[aD,bB,List.length_singleton])
theorem xH {α β:Type}{s:List α}(hs:s.length<=34359738368)(k:Option β):gd (bB [] s) k=k:=(by grind[aD,bB,List.length_nil])
def aXy {α:Type}{l s:List α}:l.foldl (λs x=>s++[x]) s=s++l:=by have:=aFv (f:=λx:α=>[x]) (l:=l) (s:=s);rw[this];congr 1;induction l<;>simp_all
def aIm {α:Type}{l:List α}{F:(Nat×List α->Option (List α))->Nat×List α->Option (List α)}(hl:l.length<=34359738368)
  (a:∀rec i s (hi:i<l.length),s.length<=34359738368->F rec (i,s)=rec (i+1,s++[l[i]])) (b:∀rec s,F rec (l.length,s)=some s):EV.cO FUEL F (0,[])=some l:=by
 rw[aSu (l:=l) (λs x=>s++[x]) (λi s=>s.length=i) (λs=>some s) (by omega) rfl (by simp) (by grind) (by simp[*]),aXy,bv]
def bOu {α:Type}{l:List α}{F:(List α×Nat->Option (List α))->List α×Nat->Option (List α)}(hl:l.length<=34359738368)
  (a:∀rec i s (hi:i<l.length),s.length<=34359738368->F rec (s,i)=rec (s++[l[i]],i+1)) (b:∀rec s,F rec (s,l.length)=some s):EV.cO FUEL F ([],0)=some l:=by
 rw[jK (l:=l) (λs x=>s++[x]) (λi s=>s.length=i) (λs=>some s) (by omega) rfl (by simp) (by grind) (by simp[*]),aXy,bv]
abbrev szL {α:Type}(f:α->Nat)(l:List α):Nat:=l.length+(l.map f).sum
theorem iW {S τ:Type}{F:(S->Option τ)->S->Option τ}{n:Nat}{s:S}:EV.cO (n+1) F s=F (EV.cO n F) s:=rfl
def p8 {α:Type}{c:Bool}{x y:α}:(bif c then some x else some y)=some (bif c then x else y):=by cases c<;>rfl
theorem Aq {c d:Bool}:(bif c then some true else some d)=some (c||d):=by cases c<;>rfl
def aXz {α:Type}[Inhabited α]{l:List α}{i:Nat}(h:i<l.length):l.set i (l.getD i default)=l:=by simp[*]
theorem aMy {α:Type}{p:Nat->α->Bool}:∀(l:List α) (j:Nat),iG p j l=true↔∃(i:Nat) (hi:i<l.length),p (j+i) l[i]=true
 |[],j=>by simp[iG]
 |x::xs,j=>by
  simp only[iG,cp,aMy xs];constructor
  ·rintro(h|⟨i,hi,h⟩)
   ·exact⟨0,by simp,h⟩
   ·exact⟨i+1,by simpa using hi,by rw[show j+(i+1)=j+1+i by omega];exact h⟩
  grind
theorem U5 {α:Type}{p:Nat->α->Bool}{l:List α}:iG p 0 l=false↔∀(i:Nat) (hi:i<l.length),p i l[i]=false:=by
 grind[iG,aMy]
def bU9 {α β:Type}{l:List α}(f:α->β){F:(List β×Nat->Option (List β))->List β×Nat->Option (List β)}(hl:l.length<=34359738368)
  (a:∀rec i s (hi:i<l.length),s.length<=34359738368->F rec (s,i)=rec (s++[f l[i]],i+1)) (b:∀rec s,F rec (s,l.length)=some s):EV.cO FUEL F ([],0)=some (l.map f):=by
 rw[jK (l:=l) (λs x=>s++[f x]) (λi s=>s.length=i) (λs=>some s) (by omega) rfl (by simp) (by grind) (by simp[*]),aFw,bv]
def bTb {α β:Type}{l:List α}(f:α->β){s0:List β}{F:(List β×Nat->Option (List β))->List β×Nat->Option (List β)}(hl:s0.length+l.length<=34359738368)
  (a:∀rec i s (hi:i<l.length),s.length<=34359738368->F rec (s,i)=rec (s++[f l[i]],i+1)) (b:∀rec s,F rec (s,l.length)=some s):EV.cO FUEL F (s0,0)=some (s0++l.map f):=by
 rw[jK (l:=l) (λs x=>s++[f x]) (λi s=>s.length=s0.length+i) (λs=>some s) (by omega) (by simp) (by simp at*;omega) (by grind) (by simp[*]),aFw]
def aSy (h:AO)(b:Int):AO×Bool:=bif decide (b<0)||decide (b>=(h.Saved.length:Int)) then(h,false) else(⟨h.Saved.getD (h.Saved.length-1-b.toNat) default,h.Saved,h.Monotonic⟩,true)
def bAp (w:AA)(i b:Int):AA×Bool:=bif !aR w||(decide (i<0)||decide (i>=(w.Hosts.length:Int))) then(w,false) else bif (aSy (w.Hosts.getD i.toNat default) b).2 then({w with Hosts:=w.Hosts.set i.toNat (aSy (w.Hosts.getD i.toNat default) b).1},true) else(w,false)
theorem bMz {i:Int}{n:Nat}(h:n<=34359738368):(!bU i 0 (IntKind.i64.wrap ((n:Int)-1)))=(decide (i<0)||decide (i>=(n:Int))):=by
 grind[decide_eq_false,decide_eq_true,bU,aL]
theorem wK {α:Type}[Inhabited α]{l:List α}{i:Int}(h0:0<=i)(h1:i<(l.length:Int)):bC l i=some (l.getD i.toNat default):=by
 grind[List.getD,List.getElem?_eq_getElem,nV]
theorem bAq {i:Int}{n:Nat}(h:(decide (i<0)||decide (i>=(n:Int)))=false):0<=i/\i<(n:Int):=by simp_all
theorem Oi {α:Type}[Inhabited α]{f:α->Nat}{l:List α}{i:Nat}(h:i<l.length):f (l.getD i default)<=(l.map f).sum:=by
 grind[mR,List.getD,List.getElem?_eq_getElem]
def bJg {α:Type}[BEq α][ReflBEq α]{r:α}:(!r==r)=false:=by simp
def bVa (l:List A0)(i:Nat)(s:A0):Bool:= !bU s.Index 1 7||(!bU s.Value 0 1018||(l.take i).any λq=>q.Index==s.Index)
def bRd (l:List A0):Bool:=bU (l.length:Int) 1 7&& !iG (bVa l) 0 l
def aMz (x:Int)(z v:Int):Int:=(IntKind.i64.wrap (IntKind.i64.wrap (v+jO z 1019)*x)).tmod 1019
def Uj (c:Int)(l:List Int)(x:Int):Int:=(l.foldr (aMz x) 0+jO c 1019)%1019
def bRe (c:List Int)(s:A0):A0:=⟨s.Index,(IntKind.i64.wrap (s.Value+Uj 0 c s.Index)).tmod 1019⟩
def bJh (l:List A0)(c:List Int):List A0:=bif bRd l then l.map (bRe c) else[]
def cS (l:List A0)(i:Nat)(k:Int):Bool:=(l.take i).any λq=>q.Index==k
def aX0 {x z v:Int}(hx:0<=x/\x<=1000)(hv:0<=v/\v<1019):0<=aMz x z v/\aMz x z v<1019:=by
 have hm:=Ac (p:=z) (q:=1019) (by omega);unfold aMz;generalize jO z 1019=m at*;have a:IntKind.i64.wrap (v+m)=v+m:=(by grind[aL]);have h2:0<=(v+m)*x:=jw (by omega) hx.1;have b:(v+m)*x<=3000*1000:=Int.mul_le_mul (by omega) hx.2 hx.1 (by omega)
 grind[Int.tmod_nonneg,Int.tmod_lt_of_pos,aL]
def aM0 {x:Int}(hx:0<=x/\x<=1000):∀l:List Int,0<=l.foldr (aMz x) 0/\l.foldr (aMz x) 0<1019
 |[]=>by simp
 |z::l=>aX0 hx (aM0 hx l)
def bJi {σ τ:Type}{l:List Int}(g:Int->σ->σ){s0:σ}(fin:σ->Option τ){F:(σ×Int->Option τ)->σ×Int->Option τ}(hl:l.length<=34359738368)
  (a:∀rec s i (hi:i<l.length),F rec (s,(i:Int))=rec (g l[i] s,(i:Int)-1)) (b:∀rec s,F rec (s,-1)=fin s) {n0:Int} (hn:n0=(l.length:Int)-1):EV.cO FUEL F (s0,n0)=fin (l.foldr g s0):=by
 subst hn;refine aJf (λk s=>k<=l.length/\s=((l.drop (l.length-k)).foldr g s0,(l.length:Int)-1-k)) l.length _ (by omega) ⟨by omega,by simp⟩ (λk s rec hk hv=> ?_) (λs rec hv=> ?_)
 ·obtain⟨_,rfl⟩:=hv;refine .inl ⟨_,⟨hk,rfl⟩,?_⟩
  grind[List.drop_eq_getElem_cons]
 grind
def bRf {c d:Bool}:(bif c then some d else some false)=some (c&&d):=by cases c<;>rfl
def aSz (k:A3):Bool:=bRd [k.aAT]&&(bU k.Epoch 0 1000000&&(bU k.Limit 1 10&&bU k.Guesses 0 k.Limit))
def bJj (h:AO)(s:A0):Bool:= !aSz h.State||(decide (Ud h.State<h.Monotonic)||(h.State.Epoch==1000000||(s.Index !=h.State.aAT.Index|| !bRd [s])))
def bRg (h:AO)(s:A0):AO:=⟨⟨s,IntKind.i64.wrap (h.State.Epoch+1),0,h.State.Limit⟩,h.Saved,Ud ⟨s,IntKind.i64.wrap (h.State.Epoch+1),0,h.State.Limit⟩⟩
def bRh (hs:List AO)(a:List A0):List AO×Bool:=bif ((a.length:Int)==0)||(hs.zip a).any (λp=>bJj p.1 p.2) then(hs,false) else(List.zipWith bRg hs a,true)
def aIo (hs:List AO)(c:List Int):List AO×Bool:=bRh hs (bJh (hs.map λh=>h.State.aAT) c)
def bOv (w:AA):Nat->Int->List Int
 |0,_=>[]
 |n+1,k=>bif decide (k<w.aAO.Threshold)&&decide (k<=7) then aV w.Seed [317,w.Now,k]::bOv w n (k+1) else[]
def bOw (w:AA):List Int:=bOv w 8 1
def aX1 (w:AA):AA×Bool:=bif aR w&&(aIo w.Hosts (bOw w)).2 then({w with Hosts:=(aIo w.Hosts (bOw w)).1},true) else(w,false)
def bFj (b:AB)(s h:Int):Int:=bif decide (aN b s h>=0) then IntKind.i64.wrap ((b.Entries.getD (aN b s h).toNat default).Version+1) else 1
def qU (b:AB)(s h:Int):AG:=⟨s,h,bFj b s h,false⟩
def aFz (b:AB)(s h:Int):AB×Bool:=bif !(decide (aN b s h>=0)&& !(b.Entries.getD (aN b s h).toNat default).Deleted)&&(aP b&&aP (pO b (qU b s h))) then(pO b (qU b s h),true) else(b,false)
def aM1 (b:AB)(s h:Int):AG:=⟨s,h,IntKind.i64.wrap ((b.Entries.getD (aN b s h).toNat default).Version+1),true⟩
def aF0 (b:AB)(s h:Int):AB×Bool:=bif !aP b||(decide (aN b s h<0)||((b.Entries.getD (aN b s h).toNat default).Deleted||(b.Entries.getD (aN b s h).toNat default).Version==1000000)) then(b,false) else(pO b (aM1 b s h),true)
def wC (d:AC)(n:ByteArray)(h:Int)(rm:Bool):AB×Bool:=bif rm then aF0 d.aAC (bH n) h else aFz d.aAC (bH n) h
def bO (d:AC)(n:ByteArray)(h:Int)(rm:Bool):AC×Bool:=bif (wC d n h rm).2 then({d with aAC:=(wC d n h rm).1},true) else(d,false)
def lX (w:AA)(d:Int)(n:ByteArray)(h:Int)(rm:Bool):AA×Bool:=bif aR w&&aO w d then(bif (bO (aF w d) n h rm).2 then({w with Devices:=w.Devices.set d.toNat (bO (aF w d) n h rm).1},true) else(w,false)) else(w,false)
def bDc (b:List Int):(Re b).length=b.length+1:=by simp[Re,Nat.add_comm]
def aK1 (l:List Int):List.map (λ(n:Int)=>n) l=l:=List.map_id l
theorem aX2 (b:AB)(x:AG):(pO b x).Entries.length<=b.Entries.length+1:=by
 grind[decide,aN,List.length,List.takeWhile_append_dropWhile,mP,List.length_append,List.length_singleton,pO]
theorem bM0 (b:AB)(s h:Int):(aFz b s h).1.Entries.length<=b.Entries.length+1:=by
 grind[decide,aN,default,aP,pO,qU,aX2,aFz]
theorem bM1 (b:AB)(s h:Int):(aF0 b s h).1.Entries.length<=b.Entries.length+1:=by
 grind[aP,decide,aN,default,aX2,aM1,aF0]
theorem Jt (d:AC)(n:ByteArray)(h:Int)(rm:Bool):(bO d n h rm).1.sz<=d.sz+1:=by
 grind[wC,AC.sz,bM1,bM0,bO]
def eZ (c:AM)(b:Int):AJ×Bool:=bif decide (b<0)||decide (b>=(c.History.length:Int)) then(⟨0,0,[],0⟩,false) else(c.History.getD (c.History.length-1-b.toNat) default,true)
def aU6 (a b:AF):Bool:=a.Index==b.Index&&(a.Kind==b.Kind&&(a.Device==b.Device&&(a.By==b.By&&(a.Previous==b.Previous&&(a.Signature==b.Signature&&true)))))
def dJ (a b:List AF):Bool:=decide (b.length<=a.length)&& !iG (λi e=> !aU6 (a.getD i default) e) 0 b
def jB (k:Int)(b:AJ):Int:=bS k ([227,b.Epoch,b.Version]++Re b.Data)
def lY (k e v:Int):Int:=aV k [223,e,v]
def uvE:Nat->Int->List Int
 |0,n=>[n]
 |k+1,n=>bif decide (n>127) then(n%128+128)::uvE k (n/128) else[n]
theorem aU7:∀(k:Nat) (n:Int),1<=(uvE k n).length/\(uvE k n).length<=k+1
 |0,n=>by simp[uvE]
 |k+1,n=>by
  have:=aU7 k (n/128);unfold uvE;cases decide (n>127)<;>simp<;>omega
def bM2 {k:Nat}{z:Int}(h:z<=127):uvE k z=[z]:=by cases k<;>grind[uvE,decide_eq_false]
def bDd:∀(k:Nat) (m n:Int) (x y:List Int),0<=m->0<=n->uvE k m++x=uvE k n++y->m=n/\x=y
 |0,m,n,x,y,_,_,h=>by simpa[uvE] using h
 |k+1,m,n,x,y,h0,h1,h=>by
  unfold uvE at h;by_cases hm:m>127<;>by_cases hn:n>127
  ·simp only[au hm,au hn,ac,cP,fx] at h;have:=bDd k (m/128) (n/128) x y (by omega) (by omega) h.2;exact⟨by omega,this.2⟩
  ·simp only[au hm,av hn,ac,ae,cP,fx] at h;omega
  ·simp only[av hm,au hn,ac,ae,cP,fx] at h;omega
  ·simpa only[av hm,av hn,ae,cP,bv,fx] using h
def aX3 {F:(Int×List Int->Option (Int×List Int))->Int×List Int->Option (Int×List Int)}
  (a:∀rec (n:Int) (s:List Int),0<=n->n<9223372036854775807->s.length<=34359738368->F rec (n,s)=bif decide (n>127) then rec (n/128,s++[n%128+128]) else some (n,s)):
  ∀(k:Nat) (n:Int) (s:List Int) (f:Nat),k<f->0<=n->n<128^(k+1)->k<=6->s.length+k<=34359738368->∃m q,EV.cO f F (n,s)=some (m,q)/\q++[m]=s++uvE k n/\0<=m/\m<=127
 |0,n,s,f+1,b,h0,h1,_,hs=>by
  refine⟨n,s,?_,rfl,h0,by simp at h1;omega⟩;rw[iW,a _ _ _ h0 (by simp at h1;omega) (by omega),av (by simp at h1;omega)];rfl
 |k+1,n,s,f+1,b,h0,h1,hk,hs=>by
  have h2:(128:Int)^(k+1+1)=128*128^(k+1):=by rw[fq];omega
  have h:(128:Int)^(k+1+1)<=128^8:=by exact_mod_cast ia (by omega) (by omega)
  have i:(128:Int)^8=72057594037927936:=by decide
  rw[iW,a _ _ _ h0 (by omega) (by omega)];unfold uvE;by_cases hn:n>127
  ·rw[au hn,ac,ac];obtain⟨m,q,c,d,e⟩:=aX3 a k (n/128) (s++[n%128+128]) f (by omega) (by omega) (by omega) (by omega) (by simp;omega);exact⟨m,q,c,by rw[d];simp,e⟩
  ·rw[av hn,ae,ae];exact⟨n,s,rfl,rfl,h0,by omega⟩
theorem bM3 {n:Int}(h0:0<=n)(h1:n<9223372036854775808):qB .i64 n 127=n%128:=by
 obtain⟨m,rfl⟩:=ey h0;have e:((BitVec.ofInt 64 (m:Int))&&&(BitVec.ofInt 64 127)).toNat=m%128:=by
  rw[BitVec.toNat_and];have a:(BitVec.ofInt 64 (m:Int)).toNat=m:=by grind
  have b:(BitVec.ofInt 64 127).toNat=2^7-1:=by decide
  rw[a,b,gf]
 show IntKind.i64.wrap (((BitVec.ofInt 64 (m:Int))&&&(BitVec.ofInt 64 127)).toNat:Int)=_
 grind[aL]
theorem bRi {n:Int}(h0:0<=n)(h1:n<128):orI .i64 n 128=n+128:=by
 obtain⟨m,rfl⟩:=ey h0;have e:((BitVec.ofInt 64 (m:Int))|||(BitVec.ofInt 64 128)).toNat=m+128:=by
  rw[BitVec.toNat_or];have a:(BitVec.ofInt 64 (m:Int)).toNat=m:=by grind
  have c:(BitVec.ofInt 64 128).toNat=1<<<7:=by decide
  have:=jm (b:=m) (i:=7) (by omega) 1
  grind
 show IntKind.i64.wrap (((BitVec.ofInt 64 (m:Int))|||(BitVec.ofInt 64 128)).toNat:Int)=_
 grind[aL]
theorem bTc {n:Int}(h0:0<=n):Ik .i64 n 7=n/128:=by unfold Ik;rw[show min (Int.toNat 7) IntKind.i64.bits=7 from by decide,gp _ (by decide)];rfl
theorem aM2 {n:Int}(h0:0<=n)(h1:n<=255):IntKind.u8.wrap n=n:=by rw[IntKind.wrap_u8];omega
def enc1 (n:Int):List Int:=bif bU n 0 1000000000000 then uvE 5 n else[]
def Iu (b:List Int)(n:Int):List Int:=b++enc1 n
def iR (l:List Int):List Int:=(l.map enc1).flatten
theorem aM3 (n:Int):(enc1 n).length<=6:=by have:=(aU7 5 n).2;unfold enc1;cases bU n 0 1000000000000<;>simp<;>omega
theorem aK2 {n:Int}(h:0<=n/\n<=1000000000000):enc1 n=uvE 5 n:=by
 grind[decide_eq_true,enc1,bU]
theorem vJ (n:Int)(l:List Int):iR (n::l)=enc1 n++iR l:=rfl
theorem aCn:∀l:List Int,(iR l).length<=6*l.length
 |[]=>by simp[iR]
 |n::l=>by
  have:=aCn l
  grind[vJ,List.length_append,List.length_cons,aM3]
def aQf (l:List Int):Prop:=∀v∈l,0<=v/\v<=(1000000000000:Int)
theorem aX4:∀(s t x y:List Int),aQf s->aQf t->s.length=t.length->iR s++x=iR t++y->s=t/\x=y
 |[],[],x,y,_,_,_,h=>⟨rfl,h⟩
 |m::s,n::t,x,y,hs,ht,hl,h=>by
  have hm:=hs m (by simp);have hn:=ht n (by simp);rw[vJ,vJ,ck,ck,aK2 hm,aK2 hn] at h;obtain⟨h1,h2⟩:=bDd 5 m n _ _ hm.1 hn.1 h;obtain⟨a,b⟩:=aX4 s t x y (λv hv=>hs v (by simp[hv])) (λv hv=>ht v (by simp[hv])) (by simpa using hl) h2;exact⟨by rw[h1,a],b⟩
theorem bDe {b:List Int}(hb:aT b){p:Nat}:∀(k i:Nat) (n m e:Int),uvG b p (k+1) i n=(m,e,true)->∃(r:Int) (q:Nat),(0<=r/\m=n+r*128^i/\m<=1000000000000/\e=(q:Int)/\q<=b.length/\(0<i->r≠0))/\b.drop (p+i)=uvE k r++b.drop q
 |k,i,n,m,e,h=>by
  unfold uvG at h;by_cases a:p+i<b.length
  ·rw[cW a] at h;have l:=wI hb a;have hg:b.getD (p+i) 0=b[p+i]:=by simp[List.getD,ab a]
   rw[hg] at h;have hd:b.drop (p+i)=b[p+i]::b.drop (p+i+1):=cG a;generalize b[p+i]=z at l h hd;by_cases c:z<128
   ·rw[au c,ac] at h;have d:z%128=z:=by omega
    rw[d] at h;cases hc:(decide (0<i)&&z==0)||decide (n+z*128^i>1000000000000) with
    |true=>rw[hc] at h;simp at h
    |false=>rw[hc,ae] at h;rw[bj] at hc;have h1:=of_decide_eq_false hc.2;injection h with f j;injection j with j w;refine⟨z,p+i+1,⟨l.1,f.symm,by omega,j.symm,by omega,λhi h0=> ?_⟩,by rw[hd,bM2 (by omega)];rfl⟩;subst h0;simp[hi] at hc
   ·rw[av c,ae] at h
    match k,h with
    |0,h=>simp[uvG] at h
    |k+1,h=>
     obtain⟨r,q,⟨h1,h2,o,s,t,u⟩,v⟩:=bDe hb k (i+1) _ m e h;have hr:=u (by omega);refine⟨z%128+128*r,q,⟨by omega,?_,o,s,t,λ_=>by omega⟩,?_⟩
     ·rw[h2,fq,Int.add_mul,<-Int.add_assoc];congr 1;rw[jd 128 r,Int.mul_assoc,jd 128]
     ·rw[hd,show p+i+1=p+(i+1) from by omega,v];have f:uvE (k+1) (z%128+128*r)=z::uvE k r:=by rw[uvE,au (show z%128+128*r>127 by omega),ac,show(z%128+128*r)%128+128=z by omega,show(z%128+128*r)/128=r by omega]
      rw[f];rfl
  ·rw[dm a] at h;simp at h
def aU8 {b:List Int}(hb:aT b){a m e:Int}(h:Ej b a=(m,e,true)):∃q:Nat,(0<=a/\0<=m/\m<=1000000000000/\e=(q:Int)/\q<=b.length)/\b.drop a.toNat=enc1 m++b.drop q:=by
 grind[bDe,aK2,Ej]
def Uk {b:List Int}(hb:aT b):∀(k:Nat) (a:Int) (s v:List Int) (e:Int),0<=a->a<=b.length->kY b k a s=(v,e,true)->∃(t:List Int) (q:Nat),(v=s++t/\t.length=k/\e=(q:Int)/\q<=b.length/\aQf t)/\b.drop a.toNat=iR t++b.drop q
 |0,a,s,v,e,h0,h1,h=>by
  unfold kY at h;injection h with f c;injection c with c _;exact⟨[],a.toNat,⟨by simp[f],rfl,by omega,by omega,λv hv=>by simp at hv⟩,rfl⟩
 |k+1,a,s,v,e,h0,h1,h=>by
  unfold kY at h;cases d:Ej b a with
  |mk m r=>
   obtain⟨e',ok⟩:=r;rw[d] at h;cases ok with
   |false=>simp at h
   |true=>
    obtain⟨q,⟨o,i,j,l,p⟩,n⟩:=aU8 hb d;subst l;obtain⟨t,q',⟨k1,k2,k3,k4,k5⟩,k6⟩:=Uk hb k (q:Int) (s++[m]) v e (by omega) (by omega) h;refine⟨m::t,q',⟨by rw[k1];simp,by simp[k2],k3,k4,λx hx=> ?_⟩,by rw[n,vJ,ck];congr 1⟩;rcases bf.1 hx with rfl|hx
    ·exact⟨i,j⟩
    ·exact k5 x hx
def aM4 {b:List Int}:∀(j k:Nat) (a:Int) (s:List Int),kY b (j+k) a s=bif (kY b j a s).2.2 then kY b k (kY b j a s).2.1 (kY b j a s).1 else([],0,false)
 |0,k,a,s=>by rw[cx];rfl
 |j+1,k,a,s=>by
  have e:∀m,kY b (m+1) a s=bif (Ej b a).2.2 then kY b m (Ej b a).2.1 (s++[(Ej b a).1]) else([],0,false):=λ_=>rfl;rw[show j+1+k=j+k+1 by omega,e,e];cases(Ej b a).2.2 with
  |false=>rfl
  |true=>exact aM4 j k _ _
def aM5 {b:List Int}:∀(k:Nat) (a:Int) (s:List Int),kY b k a s=bif (kY b k a []).2.2 then(s++(kY b k a []).1,(kY b k a []).2.1,true) else([],0,false)
 |0,a,s=>by simp[kY]
 |k+1,a,s=>by
  unfold kY;cases(Ej b a).2.2 with
  |false=>rfl
  |true=>simp only[ac,bv];rw[aM5 k _ (s++[(Ej b a).1]),aM5 k _ [(Ej b a).1]];cases(kY b k (Ej b a).2.1 []).2.2<;>simp
def aQg (e:AG):List Int:=[e.Site,e.Handle,e.Version,bif e.Deleted then 1 else 0]
def nJ:List Int->List AG
 |s::h::v::d::r=>⟨s,h,v,d==1⟩::nJ r
 |_=>[]
def mV:List Int->Bool
 |_::_::_::d::r=>decide (d<=1)&&mV r
 |_=>true
def kJ (l:List AG):List Int:=l.flatMap aQg
theorem vK:∀l:List AG,(kJ l).length=4*l.length
 |[]=>rfl
 |e::l=>by
  have:=vK l
  grind[aQg,kJ,List.length_append,List.length_cons]
def aCo:∀(k:Nat) (l:List Int),l.length=4*k->(nJ l).length=k
 |0,[],_=>rfl
 |k+1,s::h::v::d::r,hl=>by
  have:=aCo k r (by simp at hl;omega);simp[nJ,this]
def aS0:∀(k:Nat) (l:List Int),l.length=4*k->aQf l->aQf (kJ (nJ l))/\(mV l=true↔kJ (nJ l)=l)
 |0,[],_,_=>⟨λv h=>by simp[kJ,nJ] at h,by simp[mV,kJ,nJ]⟩
 |k+1,s::h::v::d::r,hl,ho=>by
  obtain⟨h1,h2⟩:=aS0 k r (by simp at hl;omega) (λx hx=>ho x (by simp[hx]));have hs:=ho s (by simp);have a:=ho h (by simp);have hv:=ho v (by simp);have hd:=ho d (by simp);have e:kJ (nJ (s::h::v::d::r))=s::h::v::(bif d==1 then 1 else 0)::kJ (nJ r):=by simp[nJ,kJ,aQg]
  rw[e];refine⟨λx hx=> ?_,?_⟩
  ·simp only[bf] at hx;rcases hx with rfl|rfl|rfl|rfl|hx
   ·exact hs
   ·exact a
   ·exact hv
   ·cases(d==1)<;>simp
   ·exact h1 x hx
  ·simp only[mV,aa,cu,fx,true_and,h2];refine and_congr_left' ?_;by_cases h1:d=1
   ·subst h1;simp
   ·rw[show(d==1)=false by simpa using h1,ae];omega
def aX5:∀(k:Nat) (l r:List Int),l.length=4*k->nJ (l++r)=nJ l++nJ r
 |0,[],r,_=>rfl
 |k+1,s::h::v::d::l,r,hl=>by
  have:=aX5 k l r (by simp at hl;omega);simp[nJ,this]
def tY (b:AB):List Int:=[(b.Entries.length:Int)]++kJ b.Entries
def oO (b:AB):List Int:=bif aP b then iR (tY b) else[]
def aX6 (d:List Int)(v:List Int×Int×Bool):AB×Bool:=bif !v.2.2||(v.2.1 !=(d.length:Int)||(!mV v.1|| !aP ⟨nJ v.1⟩)) then(⟨[]⟩,false) else(⟨nJ v.1⟩,true)
def Ju (d:List Int):AB×Bool:=bif !(Ej d 0).2.2||decide ((Ej d 0).1>20) then(⟨[]⟩,false) else aX6 d (kY d (4*(Ej d 0).1).toNat (Ej d 0).2.1 [])
def jC (key:Int)(s:AJ):AB×Bool:=bif !(bN key&&(bU s.Epoch 0 1000000&&bU s.Version 0 1000000))||s.MAC !=jB key s then(⟨[]⟩,false) else Ju (U2 (lY key s.Epoch s.Version) s.Data)
def bJk {d:List Int}(hd:aT d){n e e':Int}{v:List Int}(h:Ej d 0=(n,e,true))(hn:n<=20)(b:kY d (4*n).toNat e []=(v,e',true)):(iR (tY ⟨nJ v⟩)=d↔(e'=(d.length:Int)/\mV v=true))/\v.length=4*n.toNat/\aQf v/\(nJ v).length=n.toNat:=by
 obtain⟨q,⟨_,j,k,c,m⟩,o⟩:=aU8 hd h;subst c;obtain⟨t,q',⟨k1,k2,k3,k4,k5⟩,k6⟩:=Uk hd _ _ _ _ _ (by omega) (by omega) b;rw[bv] at k1;subst k1;have hl:v.length=4*n.toNat:=by omega
 obtain⟨p,r⟩:=aS0 n.toNat v hl k5;have a:=aCo n.toNat v hl;refine⟨?_,hl,k5,a⟩;have f:d=iR (n::v)++d.drop q':=by
  grind[vJ,List.append_assoc,k6,Int.toNat]
 have hv:tY ⟨nJ v⟩=n::kJ (nJ v):=by show((nJ v).length:Int)::_=_;simp at*;omega
 rw[hv];constructor
 ·intro hq;have hx:iR (n::kJ (nJ v))++[]=iR (n::v)++d.drop q':=by grind
  have i:∀l,aQf l->aQf (n::l):=λl hl x hx=>by
   rcases bf.1 hx with rfl|hx
   ·omega
   ·exact hl x hx
  grind[List.cons.inj,List.length_nil,List.length_drop,List.length,aX4,k5,vK]
 grind[List.drop_eq_nil_of_le]
def aS1 (l:List Int):(EV.bEj l).data.toList=l.map λn=>UInt8.ofNat n.toNat:=by
 unfold EV.bEj;have:∀(l:List Int) (r:ByteArray),(l.foldl (λr n=>r.push (UInt8.ofNat n.toNat)) r).data.toList=r.data.toList++l.map λn=>UInt8.ofNat n.toNat:=by intro l;induction l<;>simp_all
 simp[*]
def bytes_inj:∀{a b:List Int},(∀z∈a,0<=z/\z<=255)->(∀z∈b,0<=z/\z<=255)->(a.map λn=>UInt8.ofNat n.toNat)=(b.map λn=>UInt8.ofNat n.toNat)->a=b
 |[],[],_,_,_=>rfl
 |[],y::b,_,_,h=>by simp at h
 |x::a,[],_,_,h=>by simp at h
 |x::a,y::b,d,hb,h=>by
  simp only[bw,fx] at h;have hx:=d x (by simp);have f:=hb y (by simp);have e:=congrArg UInt8.toNat h.1;rw[UInt8.toNat_ofNat',UInt8.toNat_ofNat'] at e;rw[bytes_inj (λz c=>d z (by simp[c])) (λz c=>hb z (by simp[c])) h.2,show x=y by omega]
def Ul {b:List Int}(h:aT b):∀z∈b,0<=z/\z<=255:=λz a=>by simpa using ct.1 h.2 z a
def aM6 {b:List Int}(h:b.length<=34359738368)(h1:∀z∈b,0<=z/\z<=255):aT b:=⟨h,ct.2 λz a=>by simpa using h1 z a⟩
def aS2:∀(k:Nat) (n:Int),0<=n->n<128^(k+1)->∀z∈uvE k n,0<=z/\z<=255
 |0,n,h0,h1,z,a=>by simp[uvE] at a;subst a;simp at h1;omega
 |k+1,n,h0,h1,z,a=>by
  have h2:(128:Int)^(k+1+1)=128*128^(k+1):=by rw[fq];omega
  unfold uvE at a;by_cases hn:n>127
  ·rw[au hn,ac] at a;rcases bf.1 a with rfl|a
   ·omega
   ·exact aS2 k (n/128) (by omega) (by omega) z a
  ·rw[av hn,ae] at a;simp at a;subst a;omega
def bAr (n:Int):∀z∈enc1 n,0<=z/\z<=255:=λz a=>by
 unfold enc1 at a;cases hr:bU n 0 1000000000000 with
 |false=>simp_all
 |true=>
  rw[hr] at a;have:=iA hr;have b:(128:Int)^(5+1)=4398046511104:=by decide
  exact aS2 5 n this.1 (by omega) z a
def U6 (l:List Int):∀z∈iR l,0<=z/\z<=255:=λz a=>by
 unfold iR at a;obtain⟨x,hx,a⟩:=jh.1 a;obtain⟨n,_,rfl⟩:=cr.1 hx;exact bAr n z a
theorem mW {b:AB}(h:aP b=true):b.Entries.length<=20:=by
 grind[aP]
def aCp (b:AB):aT (oO b):=by
 unfold oO;cases hb:aP b with
 |false=>exact⟨by simp,rfl⟩
 |true=>
  have:=mW hb;have h1:=aCn (tY b);have h2:(tY b).length=1+4*b.Entries.length:=by grind[tY,vK]
  exact aM6 (by grind) (U6 _)
theorem bJl (d:List Int):(Ju d).1.sz<=20:=by
 grind[Ej,decide,kY,aX6,aP,nJ,Bool.not_false,mW,mV,AB.sz,Ju]
theorem aS3 (k:Int)(s:AJ):(jC k s).1.sz<=20:=by
 grind[bN,bU,jB,AB.sz,bJl,jC]
theorem aF1 {a b:AB}(h:(fZ a b).2=true):(fZ a b).1.sz<=20:=by
 grind[aP,bM,mW,AB.sz,fZ]
def jL (d:AC)(log:List AF)(bx:AK)(s:AJ):Int:=
 bif !aW log|| !dJ log d.Log then 1 else bif !jJ (aC log) (aS d.Store) then 2 else bif bx.Epoch !=aB log|| !(eQ d.Store bx).2 then 3
 else bif decide (s.Epoch<aB log)||(decide (s.Epoch<d.Epoch)||(s.Epoch==d.Epoch&&decide (s.Version<d.Version))) then 4
 else bif !(jC (eQ d.Store bx).1 s).2|| !(fZ d.aAC (jC (eQ d.Store bx).1 s).1).2 then 5 else 0
def bR (d:AC)(log:List AF)(bx:AK)(s:AJ):AC×Int:=
 bif jL d log bx s==0 then(⟨d.Store,log,(eQ d.Store bx).1,s.Epoch,s.Version,(fZ d.aAC (jC (eQ d.Store bx).1 s).1).1⟩,0) else(d,jL d log bx s)
def aH (w:AA)(d b:Int):AA×Int:=bif aR w&&aO w d then({w with Devices:=w.Devices.set d.toNat (bR (aF w d) w.aAA.Log w.aAA.Boxes (eZ w.aAA b).1).1},(bR (aF w d) w.aAA.Log w.aAA.Boxes (eZ w.aAA b).1).2) else(w,1)
def dV (w:AA)(d:Int):Bool:=w.Stolen.getD d.toNat false
theorem aM7 (d:AC)(l:List AF)(bx:AK)(s:AJ):(bR d l bx s).1.sz<=d.sz+l.length+20:=by
 unfold bR;cases hc:jL d l bx s==0 with
 |false=>grind
 |true=>
  grind[AC.sz,AB.sz,aF1,fZ,jC,eQ,bx,jL,aW,dJ,jJ,aC,aS,aB,decide]
def aX7 (k:Int)(i:Nat)(z:Int):Int:=IntKind.u8.wrap ((z+bS k [(i:Int)])%256)
def lZ (k:Int)(b:List Int):List Int:=Ra (λi z=>[aX7 k i z]) 0 b
def fA (k e v:Int)(b:AB):AJ:=⟨e,v,lZ (lY k e v) (oO b),jB k ⟨e,v,lZ (lY k e v) (oO b),0⟩⟩
def kN (k e v:Int)(b:AB):AJ×Bool:=bif bN k&&(bU e 0 1000000&&bU v 0 1000000)&&aP b then(fA k e v b,true) else(⟨0,0,[],0⟩,false)
def dO (d:AC):AC×AJ×Bool:=bif (kN d.Key d.Epoch (IntKind.i64.wrap (d.Version+1)) d.aAC).2 then({d with Version:=IntKind.i64.wrap (d.Version+1)},(kN d.Key d.Epoch (IntKind.i64.wrap (d.Version+1)) d.aAC).1,true) else(d,⟨0,0,[],0⟩,false)
def lH (a b:AJ):Bool:=decide (a.Epoch>b.Epoch)||(a.Epoch==b.Epoch&&decide (a.Version>b.Version))
def bQ (c:AM)(s:AJ):AM×Bool:=bif s.Epoch !=aB c.Log||((decide ((c.History.length:Int)>0)&& !lH s (c.History.getD (c.History.length-1) default))||decide ((c.History.length:Int)>=60)) then(c,false) else({c with History:=c.History++[s]},true)
def Nl (w:AA)(d:Int):AA×Bool:=bif (dO (aF w d)).2.2&&(bQ w.aAA (dO (aF w d)).2.1).2 then({w with Devices:=w.Devices.set d.toNat (dO (aF w d)).1,aAA:=(bQ w.aAA (dO (aF w d)).2.1).1},true) else(w,false)
def fD (w:AA)(d:Int):AA×Bool:=bif (aH w d 0).2==0&&(Nl (aH w d 0).1 d).2 then((Nl (aH w d 0).1 d).1,true) else(w,false)
def aK3:List Int->AA->AA×Bool
 |[],w=>(w,true)
 |i::l,w=>bif (fD w i).2 then aK3 l (fD w i).1 else(w,false)
def aU9:List Int->AA->AA×Bool
 |[],w=>(w,true)
 |i::l,w=>bif (aH w i 0).2==0 then aU9 l (aH w i 0).1 else(w,false)
def bM4 (w:AA):AA×Bool:=bif aR w&&((aK3 (Ao w) w).2&&(aU9 (Ao w) (aK3 (Ao w) w).1).2) then((aU9 (Ao w) (aK3 (Ao w) w).1).1,true) else(w,false)
theorem Jv (b:AB):(oO b).length<=500:=by
 grind[aP,mW,aCn,tY,vK,oO]
theorem Ar (k:Int)(b:List Int):(lZ k b).length=b.length:=by simp[sM,lZ]
def aS4 (k e v:Int)(b:AB):(kN k e v b).1.Data.length<=500:=by
 grind[bN,bU,aP,fA,Ar,Jv,kN]
theorem zU (d:AC):(dO d).1.sz=d.sz/\(dO d).2.1.Data.length<=500:=by
 unfold dO;have:=aS4 d.Key d.Epoch (IntKind.i64.wrap (d.Version+1)) d.aAC;cases(kN d.Key d.Epoch (IntKind.i64.wrap (d.Version+1)) d.aAC).2 with
 |false=>simp
 |true=>exact⟨rfl,this⟩
theorem qV (c:AM)(s:AJ):(bQ c s).1.sz<=c.sz+1+s.Data.length/\(bQ c s).1.Log=c.Log:=by
 unfold bQ;cases s.Epoch !=aB c.Log||((decide ((c.History.length:Int)>0)&& !lH s (c.History.getD (c.History.length-1) default))||decide ((c.History.length:Int)>=60)) with
 |true=>grind
 |false=>grind[AM.sz,List.length_append,List.length_cons,List.length_nil,AJ.sz]
theorem vL {α:Type}{f:α->Nat}:∀{l:List α} {i:Nat} {x:α} (hi:i<l.length),((l.set i x).map f).sum+f l[i]=(l.map f).sum+f x
 |y::l,0,x,_=>by simp only[List.set_cons_zero,bw,eJ,gE];omega
 |y::l,i+1,x,h=>by
  have:=vL (f:=f) (l:=l) (i:=i) (x:=x) (by simpa using h);simp only[iv,bw,eJ,fc];omega
theorem lN {w:AA}{d b:Int}(h:((aH w d b).2==0)=true):(aR w=true/\aO w d=true)/\(aH w d b).1.aAA=w.aAA/\(aH w d b).1.Devices.length=w.Devices.length/\(aH w d b).1.sz<=w.sz+w.aAA.Log.length+20:=by
 unfold aH at*;cases hc:(aR w&&aO w d) with
 |false=>simp_all
 |true=>
  rw[hc] at h;simp only[ac] at h ⊢;rw[aa] at hc;refine⟨hc,by first|rfl|trivial,by first|exact aq|simp,?_⟩;have hd:=hc.2;simp only[aO,aa,cu] at hd;have hi:d.toNat<w.Devices.length:=by omega
  have a:(bR (aF w d) w.aAA.Log w.aAA.Boxes (eZ w.aAA b).1).1.sz<=w.aAA.Log.length+20:=by
   unfold bR at*;cases hs:jL (aF w d) w.aAA.Log w.aAA.Boxes (eZ w.aAA b).1==0 with
   |false=>simp_all
   |true=>
    have hm:(fZ (aF w d).aAC (jC (eQ (aF w d).Store w.aAA.Boxes).1 (eZ w.aAA b).1).1).2=true:=by
     grind[fZ,aF,jC,eQ,eZ,jL,aW,dJ,jJ,aC,aS,aB,decide]
    grind[AC.sz,AB.sz,aF1]
  grind[AA.sz,List.length_set,bR,aF,eZ,vL,AC.sz]
theorem bOx {w:AA}{d:Int}(hd:aO w d=true):(Nl w d).1.aAA.Log=w.aAA.Log/\(Nl w d).1.Devices.length=w.Devices.length/\(Nl w d).1.sz<=w.sz+501:=by
 unfold Nl;cases(dO (aF w d)).2.2&&(bQ w.aAA (dO (aF w d)).2.1).2 with
 |false=>simp
 |true=>
  grind[AA.sz,AM.sz,List.length_set,dO,aF,bQ,List.getD,List.getElem?_eq_getElem,vL,AC.sz,aO,zU,qV]
theorem aK4 {w:AA}{d:Int}(h:(fD w d).2=true):(fD w d).1.aAA.Log=w.aAA.Log/\(fD w d).1.sz<=w.sz+w.aAA.Log.length+521:=by
 grind[aH,Nl,k1,k2,k3,k4,k5,lN,aO,bOx,fD]
theorem bJm {k z:Int}(i:Nat)(h:0<=z/\z<=255):IntKind.u8.wrap ((IntKind.i64.wrap (IntKind.i64.wrap z+bS k [(i:Int)])).tmod 256)=aX7 k i z:=by have:=mU k [(i:Int)];rw[aL (n:=z) (by omega) (by omega),aL (by omega) (by omega),cz (by omega)];rfl
theorem bJn {k z:Int}(i:Nat)(h:0<=z/\z<=255):IntKind.u8.wrap ((IntKind.i64.wrap (IntKind.i64.wrap z+(bS k [(i:Int)]).tmod 256)).tmod 256)=aX7 k i z:=by
 grind[aL,bS,Int.tmod_eq_emod_of_nonneg,aX7,mU]
def aM (seed n:Int):AI:=⟨1,n,aV seed [277,n],0⟩
def aY (s:AI):AC:=⟨s,[],0,0,0,⟨[]⟩⟩
def dH (s:AI)(n:ByteArray)(h:Int):Int:=aV s.Seed [179,bH n,h]
def cK (s:AI)(n:ByteArray)(h:Int):Int:=fP (dH s n h)
def mD (s:AI)(l:List Int):Int:=qL (iH s) l
def aX8 (log:List AF)(kind dev:Int)(s:AI):AF:=⟨(log.length:Int),kind,dev,aS s,jQ log,0⟩
def vM (log:List AF)(kind dev:Int)(s:AI):AF:={aX8 log kind dev s with Signature:=mD s [dZ (aX8 log kind dev s)]}
def bW (log:List AF)(kind dev:Int)(s:AI):List AF×Bool:=bif (decide ((log.length:Int)>0)&& !aW log)|| !aW (log++[vM log kind dev s]) then(log,false) else(log++[vM log kind dev s],true)
def nK (p e:Int)(d:List Int):AQ:=⟨p,e,lZ (kX (iM p) e) d,aFx (kX (iM p) e) ⟨p,e,lZ (kX (iM p) e) d,0⟩⟩
def gL (p e:Int)(d:List Int):AQ×Bool:=bif iM p==0||(!bN e||decide ((d.length:Int)>200)) then(⟨0,0,[],0⟩,false) else(nK p e d,true)
def gF (e:Int)(d:List Int):Nat->List Int->List AQ×Bool
 |_,[]=>([],true)
 |i,p::l=>bif (gL p (IntKind.i64.wrap (e+(i:Int))) d).2&&(gF e d (i+1) l).2 then((gL p (IntKind.i64.wrap (e+(i:Int))) d).1::(gF e d (i+1) l).1,true) else([],false)
def bE (log:List AF)(key eph:Int):AK×Bool:=bif !aW log||(!bN key|| !(gF eph (iR [aB log,key]) 0 (aC log)).2) then(⟨0,[]⟩,false) else(⟨aB log,(gF eph (iR [aB log,key]) 0 (aC log)).1⟩,true)
def pQ (e:AK)(d:Int):Int:=e.Boxes.foldl (λn b=>bif b.To==d then IntKind.i64.wrap (n+1) else n) 0
def gT (e:AK)(log:List AF):Bool:=(e.Epoch==aB log&&(e.Boxes.length:Int)==((aC log).length:Int))&&(aC log).all λd=>pQ e d==1
def jN (c:AM)(log:List AF)(e:AK):AM×Bool:=bif !aW log||(!dJ log c.Log|| !gT e log) then(c,false) else({c with Log:=log,Boxes:=e},true)
def D6 (h:Int)(l:List AV):Nat:=(l.takeWhile λc=>decide (c.Handle<h)).length
def D7 (l:List AV)(h p:Int):List AV:=l.take (D6 h l)++[⟨h,p,0,false⟩]++l.drop (D6 h l)
def fE (a:AH)(h p:Int):AH×Bool:=bif !bA a|| !bA {a with Credentials:=D7 a.Credentials h p} then(a,false) else({a with Credentials:=D7 a.Credentials h p},true)
def dI (s:AD)(id h p:Int):AD×Bool:=bif !bI s||decide (aJ s id<0) then(s,false) else bif (fE (s.Accounts.getD (aJ s id).toNat default) h p).2 then({s with Accounts:=s.Accounts.set (aJ s id).toNat (fE (s.Accounts.getD (aJ s id).toNat default) h p).1},true) else(s,false)
def wL (l:List AU):Nat:=bif l.any (λn=>n.Seen) then(l.takeWhile λn=> !n.Seen).length else 0
def Eu (l:List AU):List AU:=bif decide ((l.length:Int)>30) then l.take (wL l)++l.drop (wL l+1) else l
def pY (m:AP)(k a t:Int):AP×Bool:=bif !eY m|| !eY ⟨Eu (m.Notices++[⟨k,a,t,false⟩])⟩ then(m,false) else(⟨Eu (m.Notices++[⟨k,a,t,false⟩])⟩,true)
def gY (w:AA)(by_ kind pub:Int)(key:List AF->Int):AA×Bool:=
 let l:=bW w.aAA.Log kind pub (aF w by_).Store;let e:=bE l.1 (key l.1) (IntKind.i64.wrap (1000+IntKind.i64.wrap (10*(l.1.length:Int))));let c:=jN w.aAA l.1 e.1
 bif l.2&&(e.2&&c.2) then({w with aAA:=c.1},true) else(w,false)
theorem oP (log:List AF)(k d:Int)(s:AI):(bW log k d s).1.length<=log.length+1:=by unfold bW;cases(decide ((log.length:Int)>0)&& !aW log)|| !aW (log++[vM log k d s])<;>simp
theorem bAs (p e:Int)(d:List Int):(gL p e d).1.sz<=d.length:=by
 grind[iM,bN,decide,AQ.sz,nK,Ar,gL]
def aX9 {e:Int}{d:List Int}:∀{i:Nat} {l:List Int},(gF e d i l).1.length<=l.length/\((gF e d i l).1.map AQ.sz).sum<=l.length*d.length
 |i,[]=>by simp[gF]
 |i,p::l=>by
  have h1:=aX9 (e:=e) (d:=d) (i:=i+1) (l:=l)
  grind[gL,gF,List.length_cons,Nat.add_mul,bAs]
theorem aYa (a b:Int):(iR [a,b]).length<=12:=aCn [a,b]
theorem zW (log:List AF)(k e:Int):(bE log k e).1.sz<=13*log.length:=by
 unfold bE;have h1:=aX9 (e:=e) (d:=iR [aB log,k]) (i:=0) (l:=aC log);have h2:=gP log;have a:=aYa (aB log) k;have b:=fu (aC log).length a
 grind[aW,bN,gF,iR,aB,aC,AK.sz]
theorem bJo (c:AM)(l:List AF)(e:AK):(jN c l e).1.sz<=c.sz+l.length+e.sz/\(jN c l e).1.History=c.History:=by
 grind[aW,dJ,gT,AM.sz,AK.sz,jN]
theorem aYb (l:List AV)(h p:Int):(D7 l h p).length=l.length+1:=by
 grind[D7,List.length_append,List.length_take,List.length_drop,List.length_singleton]
theorem bAt (a:AH)(h p:Int):(fE a h p).1.sz<=a.sz+1:=by
 grind[bA,D7,AH.sz,aYb,fE]
theorem aS5 (l:List AU):(Eu l).length<=l.length:=by
 grind[decide,List.length_append,List.length_take,List.length_drop,Eu]
theorem bDf (m:AP)(k a t:Int):(pY m k a t).1.sz<=m.sz+1:=by
 grind[eY,Eu,AP.sz,List.length_append,List.length_singleton,aS5,pY]
def oQ {α:Type}{p:α->Bool}{i:Nat}{l:List α}(h:decide (kV p i l<0)=false):(i:Int)<=kV p i l/\kV p i l<i+l.length:=by induction l generalizing i<;>grind[kV,List.length_cons]
theorem aS6 (s:AD)(id h p:Int):(dI s id h p).1.sz<=s.sz+1:=by
 unfold dI;cases hc: !bI s||decide (aJ s id<0) with
 |true=>simp
 |false=>
  rw[bj] at hc;have hr:=oQ hc.2
  grind[fE,aJ,id,default,vL,AH.sz,bAt,List.getD,List.getElem?_eq_getElem,AD.sz,List.length_set]
def appW (w:AA)(x:AC):AA:={w with Devices:=w.Devices++[x],Stolen:=w.Stolen++[false]}
theorem aYc {w:AA}(x:AC){d:Int}(h:aO w d=true)(hn:w.Devices.length<6):aR (appW w x)=aR w:=by
 grind[appW,aR,List.length_append,List.length_singleton,bU,decide_eq_true,aO]
theorem bAu {w:AA}(x:AC){d:Int}(h:aO w d=true):aO (appW w x) d=true:=by
 grind[aO,appW,List.length_append,List.length_singleton]
theorem aS7 {w:AA}(x:AC){d:Int}(h:aO w d=true):aF (appW w x) d=aF w d:=by
 grind[aF,appW,List.getD,List.getElem?_append_left,aO]
theorem bJp {w:AA}(x:AC){d:Int}(b:Int)(h:aO w d=true)(hn:w.Devices.length<6):aH (appW w x) d b=(appW (aH w d b).1 x,(aH w d b).2):=by
 grind[aR,Bool.and_self,appW,List.set_append_left,aYc,bAu,aS7,aH,aO]
theorem bRj {w:AA}(x:AC){d:Int}(h:aO w d=true):Nl (appW w x) d=(appW (Nl w d).1 x,(Nl w d).2):=by
 grind[dO,aF,bQ,appW,List.set_append_left,aS7,Nl,aO]
def bJq {w:AA}(x:AC){d:Int}(h:aO w d=true)(hn:w.Devices.length<6):fD (appW w x) d=(appW (fD w d).1 x,(fD w d).2):=by
 grind[aH,k4,lN,aO,bRj,Nl,bJp,fD]
theorem aCq (w:AA)(b k p:Int)(key:List AF->Int):(gY w b k p key).1.sz<=w.sz+14*(w.aAA.Log.length+1)/\(gY w b k p key).1.aAA.Log.length<=w.aAA.Log.length+1/\(gY w b k p key).1.Devices=w.Devices/\(gY w b k p key).1.Sites=w.Sites:=by
 grind[AA.sz,AM.sz,jN,bE,aW,dJ,gT,bJo,zW,bW,aF,oP,gY]
def jX (d:AC)(h:Int)(rm:Bool):AC:=(bO (bO d (aA 0) h rm).1 (aA 1) h rm).1
def eH (st:AI)(n:Int):Nat->List AD->List AD×Bool
 |_,[]=>([],true)
 |j,s::l=>bif (dI s 1 n (cK st (aA (j:Int)) n)).2&&(eH st n (j+1) l).2 then((dI s 1 n (cK st (aA (j:Int)) n)).1::(eH st n (j+1) l).1,true) else([],false)
def nY (w:AA)(k:Int):AA:={w with Mail:=(pY w.Mail k 1 w.Now).1}
def add1 (w:AA)(b:Int):AA×Bool:=gY (aH w b 0).1 b 1 (aS (aM w.Seed (w.Devices.length:Int))) λ_=>(aF (aH w b 0).1 b).Key
def Rf (w:AA)(b:Int):List AD×Bool:=eH (aM w.Seed (w.Devices.length:Int)) (w.Devices.length:Int) 0 (add1 w b).1.Sites
def lI (w:AA)(b:Int):AA×Bool:=fD {(add1 w b).1 with Sites:=(Rf w b).1,Devices:=(add1 w b).1.Devices.set b.toNat (jX (aF (add1 w b).1 b) (w.Devices.length:Int) false)} b
def sG (w:AA)(b:Int):AA×Int:=aH (appW (lI w b).1 (aY (aM w.Seed (w.Devices.length:Int)))) (w.Devices.length:Int) 0
def qN (w:AA)(b:Int):Bool:=(aR w&&(aO w b&&(!dV w b&& !decide ((w.Devices.length:Int)>=6))))&&((aH w b 0).2==0&&((add1 w b).2&&((Rf w b).2&&((lI w b).2&&(sG w b).2==0))))
def bY (w:AA)(b:Int):AA×Bool:=bif qN w b then(nY (sG w b).1 2,true) else(w,false)
theorem aK5 (d:AC)(h:Int)(rm:Bool):(jX d h rm).sz<=d.sz+2:=by
 grind[jX,Jt,aA,bO]
def aF2 {st:AI}{n:Int}:∀{j:Nat} {l:List AD},(eH st n j l).1.length<=l.length/\((eH st n j l).1.map AD.sz).sum<=(l.map AD.sz).sum+l.length
 |j,[]=>by simp[eH]
 |j,s::l=>by
  have h1:=aF2 (st:=st) (n:=n) (j:=j+1) (l:=l)
  grind[dI,cK,aA,eH,List.length_cons,aS6]
def bFk {w:AA}{b:Int}(h0:((aH w b 0).2==0)=true):(aO (add1 w b).1 b=true/\(add1 w b).1.Devices.length=w.Devices.length)/\(add1 w b).1.sz<=16*w.sz+34/\(add1 w b).1.aAA.Log.length<=w.sz+1:=by
 grind[k2,k4,add1,aO,gY,k3,aCq,aH,aS,aM,aF,AA.sz,AM.sz,k1,k5,lN]
def aAS (w:AA)(b:Int):AA:={(add1 w b).1 with Sites:=(Rf w b).1,Devices:=(add1 w b).1.Devices.set b.toNat (jX (aF (add1 w b).1 b) (w.Devices.length:Int) false)}
def aM8 {w:AA}{b:Int}(h0:((aH w b 0).2==0)=true):(aO (aAS w b) b=true/\(aAS w b).Devices.length=w.Devices.length)/\(aAS w b).sz<=32*w.sz+80/\(aAS w b).aAA.Log.length<=w.sz+1:=by
 obtain⟨⟨h1,h2⟩,a,c⟩:=bFk h0;have d:=aF2 (st:=aM w.Seed (w.Devices.length:Int)) (n:=(w.Devices.length:Int)) (j:=0) (l:=(add1 w b).1.Sites)
 grind[aAS,Rf,add1,AA.sz,List.length_set,aO,aF,List.getD,List.getElem?_eq_getElem,vL,AC.sz,jX,aK5]
theorem aCr (w:AA)(x:AC):(appW w x).sz=w.sz+x.sz+2:=by
 grind[appW,AA.sz,List.length_append,List.length_singleton]
theorem aK6 (w:AA)(k:Int):(nY w k).sz<=w.sz+1:=by
 grind[nY,AA.sz,AP.sz,bDf]
def aVa {w:AA}{b:Int}(h0:((aH w b 0).2==0)=true)(h:(lI w b).2=true):(lI w b).1.sz<=33*w.sz+602/\(lI w b).1.aAA.Log.length<=w.sz+1:=by obtain⟨_,h1,h2⟩:=aM8 h0;obtain⟨a,c⟩:=aK4 (w:=aAS w b) (d:=b) h;exact⟨by show(fD (aAS w b) b).1.sz<=_;omega,by show(fD (aAS w b) b).1.aAA.Log.length<=_;rw[a];exact h2⟩
def bFl (w:AA)(b:Int):(bY w b).1.sz<=34*w.sz+700:=by
 unfold bY;cases hc:qN w b with
 |false=>grind
 |true=>
  simp only[qN,aa] at hc;obtain⟨_,h0,_,_,a,c⟩:=hc;obtain⟨e,f⟩:=aVa h0 a;obtain⟨_,_,_,d⟩:=lN (w:=appW (lI w b).1 (aY (aM w.Seed (w.Devices.length:Int)))) c;rw[aCr] at d;have h:(aY (aM w.Seed (w.Devices.length:Int))).sz=0:=rfl
  grind[sG,aH,aK6,appW,lI,aY,aM]
theorem aS8 {α:Type}{p:α->Bool}:∀{l:List α} {i:Nat} (hi:i<l.length),i<(l.takeWhile p).length->p l[i]=true
 |x::l,0,_,h=>by
  simp only[dc] at h;cases hp:p x with
  |true=>exact hp
  |false=>rw[hp] at h;simp at h
 |x::l,i+1,hi,h=>by
  simp only[dc] at h;cases hp:p x with
  |true=>
   have a:i<(l.takeWhile p).length:=by simpa[hp] using h
   exact aS8 (l:=l) (i:=i) (by simpa using hi) a
  |false=>rw[hp] at h;simp at h
theorem aS9 {α:Type}{p:α->Bool}:∀{l:List α} (h:(l.takeWhile p).length<l.length),p (l[(l.takeWhile p).length]'h)=false
 |x::l,h=>by
  cases hp:p x with
  |true=>
   have a:(l.takeWhile p).length<l.length:=by simpa[dc,hp] using h
   simpa[dc,hp] using aS9 a
  |false=>simp[dc,hp]
theorem Um {α:Type}{p:α->Bool}{l:List α}:(l.takeWhile p).length<=l.length:=(List.takeWhile_prefix p).length_le
def aF3 {α τ S:Type}{l:List α}(p:α->Bool)(fin:Nat->Option τ)(e:Nat->S){F:(S->Option τ)->S->Option τ}(hl:l.length<=34359738368)
  (a:∀rec i (hi:i<l.length),F rec (e i)=bif p l[i] then rec (e (i+1)) else fin i) (b:∀rec,F rec (e l.length)=fin l.length):EV.cO FUEL F (e 0)=fin (l.takeWhile p).length:=by
 have go:∀(k i n:Nat),i+k=(l.takeWhile p).length->k<n->EV.cO n F (e i)=fin (l.takeWhile p).length:=by
  intro k;induction k with
  |zero=>
   intro i n hi hn;obtain⟨n,rfl⟩:∃m,n=m+1:=⟨n-1,by omega⟩
   grind[Um,aS9,iW]
  |succ k c=>
   intro i n hi hn;obtain⟨n,rfl⟩:∃m,n=m+1:=⟨n-1,by omega⟩
   grind[iW,aS8,Um]
 have:=Um (p:=p) (l:=l);exact go (l.takeWhile p).length 0 FUEL (by omega) (by grind[iB])
def aTa {e:Int}{d:List Int}{l:List Int}{τ:Type}{x:τ}{F:(List AQ×Nat->Option (τ⊕List AQ))->List AQ×Nat->Option (τ⊕List AQ)}
  (a:∀rec i s (hi:i<l.length),s.length<=i->F rec (s,i)=bif !(gL l[i] (IntKind.i64.wrap (e+(i:Int))) d).2 then some (.inl x) else rec (s++[(gL l[i] (IntKind.i64.wrap (e+(i:Int))) d).1],i+1)) (b:∀rec s,F rec (s,l.length)=some (.inr s)):
  ∀(k i n:Nat) (s:List AQ),i+k=l.length->k<n->s.length<=i->EV.cO n F (s,i)=some (bif (gF e d i (l.drop i)).2 then .inr (s++(gF e d i (l.drop i)).1) else .inl x)
 |0,i,n+1,s,h,_,_=>by
  have:i=l.length:=by omega
  subst this;rw[iW,b,dz];simp[gF]
 |k+1,i,n+1,s,h,hn,hs=>by
  have hi:i<l.length:=by omega
  rw[iW,a _ i s hi hs,cG hi,gF];cases hb:(gL l[i] (IntKind.i64.wrap (e+(i:Int))) d).2 with
  |false=>rfl
  |true=>rw[ay,ae,aTa a b k (i+1) n _ (by omega) (by omega) (by simp;omega)];cases(gF e d (i+1) (l.drop (i+1))).2<;>simp
def bAv (l:List AU):Nat:=(l.takeWhile λn=> !n.Seen).length
def bFm {l:List AU}{x:AU}:bAv (l++[x])=bif l.any (λn=>n.Seen) then bAv l else bif x.Seen then l.length else l.length+1:=by
 induction l with
 |nil=>cases hx:x.Seen<;>simp[bAv,hx]
 |cons y l a=>
  grind[List.takeWhile_cons,Bool.not_false,List.length_cons,bAv]
def aTb {l:List AU}{F:(Int×Int->Option Int)->Int×Int->Option Int}(a:∀rec (k:Int) (i:Nat) (hi:i<l.length),F rec (k,(i:Int))=rec (bif l[i].Seen then(i:Int) else k,(i:Int)-1))(b:∀rec k,F rec (k,-1)=some k):
  ∀(n m:Nat) (k:Int),n<=l.length->n<m->EV.cO m F (k,(n:Int)-1)=some (bif (l.take n).any (λx=>x.Seen) then(bAv (l.take n):Int) else k)
 |0,m+1,k,_,_=>by rw[iW,show((0:Nat):Int)-1= -1 from rfl,b];simp
 |n+1,m+1,k,h,hm=>by
  have hn:n<l.length:=by omega
  rw[iW,show((n+1:Nat):Int)-1=(n:Int) by omega,a _ _ n hn,aTb a b n m _ (by omega) (by omega),fm,ab hn];simp only[fb,jo,bFm,List.any_cons,List.any_nil,gu,cq,jn (Nat.le_of_lt hn)];cases(l.take n).any (λx=>x.Seen)<;>cases l[n].Seen<;>rfl
def aYd (l:List AU):(wL l:Int)=bif l.any (λx=>x.Seen) then(bAv l:Int) else 0:=by unfold wL bAv;cases l.any (λn=>n.Seen)<;>rfl
def aYe {l:List AU}(h:0<l.length):wL l<l.length:=by
 unfold wL;cases hs:l.any (λn=>n.Seen) with
 |false=>exact h
 |true=>
  obtain⟨x,hx,hp⟩:=fp.1 hs;have:∀l:List AU,x∈l->(l.takeWhile λn=> !n.Seen).length<l.length:=by
   intro l;induction l with
   |nil=>simp
   |cons y l b=>
    intro h;cases a:y.Seen with
    |true=>simp[a]
    |false=>
     rcases bf.1 h with rfl|h
     all_goals simp[*]
  simp[*]
def bM5 {τ S:Type}{l:List AU}(fin:Int->Option τ)(st:Nat->S){F:(S->Option τ)->S->Option τ}(hl:l.length<=34359738368)(a:∀rec i (hi:i<l.length),F rec (st i)=bif l[i].Seen then fin (i:Int) else rec (st (i+1)))(b:∀rec,F rec (st l.length)=fin 0):EV.cO FUEL F (st 0)=fin (wL l:Int):=by
 have e:=aF3 (l:=l) (λn=> !n.Seen) (λi=>bif decide (i<l.length) then fin (i:Int) else fin 0) st (F:=F) hl (by grind) (by simp[*]);rw[e,aYd];cases hs:l.any (λn=>n.Seen) with
 |true=>
  have h0:0<l.length:=by grind
  have:=aYe h0;unfold wL at this;rw[hs,ac] at this;rw[au this];rfl
 |false=>
  have c:∀l:List AU,l.any (λn=>n.Seen)=false->(l.takeWhile λn=> !n.Seen).length=l.length:=by intro l;induction l<;>simp_all
  simp[*]
def bJr {e:Int}{d:List Int}{i:Nat}{l:List Int}(h:(gF e d i l).2=false):gF e d i l=([],false):=by cases l<;>grind[gF,gL]
theorem bAw {s:AD}{i:Int}(b:s.sz<=34359738300)(h:decide (aJ s i<0)=false):bC s.Accounts (aJ s i)=some (s.Accounts.getD (aJ s i).toNat default)/\(s.Accounts.getD (aJ s i).toNat default).sz<=34359738300/\(aJ s i).toNat<s.Accounts.length:=by
 have hr:=oQ (p:=λa:AH=>a.Id==i) (i:=0) (l:=s.Accounts) h
 grind[AD.sz,wK,aJ,Oi,AH.sz]
def mE (d:AC)(log:List AF)(key:Int):AC×Bool:=bif !aW log||(!dJ log d.Log||(decide (aB log<d.Epoch)|| !bN key)) then(d,false) else({d with Log:=log,Key:=key,Epoch:=aB log,Version:=0},true)
def aU (a:AH)(h:Int):Int:=kV (λc=>c.Handle==h) 0 a.Credentials
def gB (a:AH)(k:Int):AV:=a.Credentials.getD k.toNat default
def nL (a:AH)(h:Int):AH×Bool:=bif !bA a||(decide (aU a h<0)||(gB a (aU a h)).Cut) then(a,false) else({a with Credentials:=a.Credentials.set (aU a h).toNat {gB a (aU a h) with Cut:=true}},true)
def fI (s:AD)(k:Int):AH:=s.Accounts.getD k.toNat default
def gG (h:Int)(s:AD):AD:=bif decide (aJ s 1>=0) then {s with Accounts:=s.Accounts.set (aJ s 1).toNat (nL (fI s (aJ s 1)) h).1} else s
def bK (s e:Int):Int:=aV s [233,e]
def nZ (s:AI)(l:List AF):Int:=bK (aV s.Seed [311]) (aB l)
def kP (w:AA)(b:Int):AA:=(aH w b 0).1
def aJg (w:AA)(b t:Int):List AF:=(bW (kP w b).aAA.Log 2 (aS (aF w t).Store) (aF (kP w b) b).Store).1
def lK (w:AA)(b t:Int):AA×Bool:=gY (kP w b) b 2 (aS (aF w t).Store) (nZ (aF (kP w b) b).Store)
def Jw (w:AA)(b t:Int):AC×Bool:=mE (aF (kP w b) b) (aJg w b t) (nZ (aF (kP w b) b).Store (aJg w b t))
def U7 (w:AA)(b t:Int):AA:={(lK w b t).1 with Devices:=(lK w b t).1.Devices.set b.toNat (jX (Jw w b t).1 t true),Sites:=(lK w b t).1.Sites.map (gG t)}
def Iw (w:AA)(b t:Int):AA×Bool:=Nl (U7 w b t) b
def lQ (w:AA)(b t:Int):AA×Bool:=bif (lK w b t).2&&((Jw w b t).2&&(Iw w b t).2) then(nY (Iw w b t).1 4,true) else(w,false)
def eO (w:AA)(b t:Int):AA×Bool:=bif (aH w b 0).2==0&&(!dV w b&&(!(b==t)&&bZ w t)) then lQ w b t else(w,false)
theorem aM9 (d:AC)(l:List AF)(k:Int):(mE d l k).1.sz<=d.sz+l.length:=by
 grind[aW,dJ,decide,aB,bN,AC.sz,mE]
theorem bAx (a:AH)(h:Int):(nL a h).1.sz=a.sz:=by
 grind[bA,decide,aU,gB,AH.sz,List.length_set,nL]
theorem bAy (h:Int)(s:AD):(gG h s).sz=s.sz:=by
 unfold gG;cases hc:decide (aJ s 1>=0) with
 |false=>rfl
 |true=>
  have h0:decide (aJ s 1<0)=false:=by simp_all
  have hr:=oQ h0
  grind[AD.sz,List.length_set,fI,aJ,List.getD,List.getElem?_eq_getElem,bAx,vL,AH.sz,nL]
theorem aYf (h:Int)(l:List AD):((l.map (gG h)).map AD.sz).sum=(l.map AD.sz).sum:=by induction l<;>grind[bAy]
def bFn {w:AA}{b t:Int}(h0:((aH w b 0).2==0)=true):(aO (kP w b) b=true/\(kP w b).Devices.length=w.Devices.length/\(kP w b).aAA=w.aAA/\(kP w b).sz<=2*w.sz+20)/\(aJg w b t).length<=w.sz+1/\(aO (lK w b t).1 b=true/\(lK w b t).1.Devices=(kP w b).Devices)/\(lK w b t).1.sz<=16*w.sz+34/\(lK w b t).1.Sites=(kP w b).Sites:=by
 obtain⟨⟨k1,k2⟩,k3,k4,k5⟩:=lN h0;have a:w.aAA.Log.length<=w.sz:=by grind[AA.sz,AM.sz]
 grind[aO,gY,kP,aS,aF,nZ,k4,k3,aJg,lK,k6,k5,aH,k2,aCq,oP]
def eF (b:AR)(id:Int):Int:=bS b.Seed [197,id]
def aCs (b:AR)(acc now:Int):AZ:=⟨b.Next,acc,IntKind.i64.wrap (now+5)⟩
def eU (b:AR)(acc now:Int):AR×AZ×Bool:=bif fQ b&&(!(b.Next==1000000)&&(bU acc 0 1000000&&bU now 0 1000000)) then(⟨b.Seed,IntKind.i64.wrap (b.Next+1),(bif decide ((b.Open.length:Int)>=16) then b.Open.drop 1 else b.Open)++[aCs b acc now]⟩,aCs b acc now,true) else(b,⟨0,0,0⟩,false)
def eG (b:AR)(id:Int):Int:=kV (λc=>c.Id==id) 0 b.Open
def aF4 (b:AR)(k:Int):AZ:=b.Open.getD k.toNat default
def nM (b:AR)(id acc now:Int):AR×Bool:=bif !fQ b||decide (eG b id<0) then(b,false) else(⟨b.Seed,b.Next,b.Open.take (eG b id).toNat++b.Open.drop ((eG b id).toNat+1)⟩,(aF4 b (eG b id)).aAH==acc&&decide (now<=(aF4 b (eG b id)).Until))
def jY (s:AD)(id now:Int):AD×Int×Int×Bool:=bif bI s&&(!decide (aJ s id<0)&&(eU s.Book id now).2.2) then({s with Book:=(eU s.Book id now).1},(eU s.Book id now).2.1.Id,eF (eU s.Book id now).1 (eU s.Book id now).2.1.Id,true) else(s,0,0,false)
def jR (s:AI):Bool:=bU s.Vendor 1 9&&(bU s.Serial 0 1000000&&(bN s.Seed&&bU s.Counter 0 1000000))
def bJs (s:AI):AI:={s with Counter:=IntKind.i64.wrap (s.Counter+1)}
def iZ (s:AI)(site:ByteArray)(h:Int)(m:List Int):AI×Int×Bool:=bif jR s&& !(s.Counter==1000000) then(bJs s,qL (dH s site h) (m++[(bJs s).Counter]),true) else(s,0,false)
def dG (a:AX):List Int:=[199,bH a.Site,sK 211 a.aAL,a.aAN,a.Handle,bif a.Present then 1 else 0]
def Ew (j:Int):AS:=⟨true,⟨#[119,119,119,46]⟩++aA j,443⟩
def bAz (j:Int):AS:=⟨true,⟨#[108,111,103,105,110,46]⟩++aA j++⟨#[46,101,118,105,108,46,110,101,116]⟩,443⟩
def bOy (j:Int):AS:=⟨true,aA j,443⟩
def tX (k:Nat):AS:=match k with|0=>Ew 0|1=>Ew 1|2=>bOy 0|3=>bOy 1|4=>bAz 0|_=>bAz 1
def Uo (k:Nat):ByteArray:=⟨#[104,116,116,112,115,58,47,47]⟩++(tX k).Host
def bTd:List UInt8->List UInt8->Bool
 |[],b=>b==[]
 |x::a,b=>b==x::a||bTd a b
def jZ (o:AS)(z:ByteArray):Bool:=bTd (46::o.Host.data.toList) (46::z.data.toList)
def Pq (o:AS)(s:ByteArray):Prop:=(∃k:Nat,k<6/\o=tX k)/\∃j:Int,(j=0\/j=1)/\s=aA j
noncomputable instance (o:AS) (s:ByteArray):Decidable (Pq o s):=Classical.propDecidable _
def rJ (o:AS):Prop:=∃k:Nat,k<6/\o=tX k
def rJ.p {o:AS}(h:rJ o){j:Int}(hj:j=0\/j=1):Pq o (aA j):=⟨h,j,hj,rfl⟩
def bRk {j:Int}(hj:j=0\/j=1):rJ (Ew j):=by
 rcases hj with rfl|rfl
 ·exact⟨0,by decide,rfl⟩
 ·exact⟨1,by decide,rfl⟩
noncomputable instance (o:AS):Decidable (rJ o):=Classical.propDecidable _
def qO (o:AS):ByteArray:=⟨#[104,116,116,112,115,58,47,47]⟩++o.Host
def bFo (s:ByteArray):Prop:=s=⟨#[]⟩\/∃k:Nat,k<4/\s=Uo k
noncomputable instance (s:ByteArray):Decidable (bFo s):=Classical.propDecidable _
def zX (s:ByteArray):AS×Bool:=bif decide (s.size=0) then(⟨false,⟨#[]⟩,0⟩,false) else(⟨true,s.extract 8 s.size,443⟩,true)
def Iy (s:AI)(o:AS)(site:ByteArray)(h a:Int)(p:Bool):AX:=⟨site,qO o,a,h,p,0,0⟩
def bFp:AX:=⟨⟨#[]⟩,⟨#[]⟩,0,0,false,0,0⟩
def iJ (s:AI)(o:AS)(site:ByteArray)(h a:Int)(p:Bool):AI×AX×Bool:=bif jZ o site&&(iZ s site h (dG (Iy s o site h a p))).2.2 then((iZ s site h (dG (Iy s o site h a p))).1,{Iy s o site h a p with Counter:=(iZ s site h (dG (Iy s o site h a p))).1.Counter,Signature:=(iZ s site h (dG (Iy s o site h a p))).2.1},true) else(s,bFp,false)
def AsP (a:AX)(site:ByteArray):Prop:=∃j:Int,(j=0\/j=1)/\site=aA j/\(a=bFp\/(a.Site=site/\∃k:Nat,k<4/\a.aAL=Uo k/\jZ (tX k) site=true))
noncomputable instance (a:AX) (s:ByteArray):Decidable (AsP a s):=Classical.propDecidable _
def jD (pub:Int)(a:AX)(site:ByteArray)(b cnt:Int):Int:=bif !(a.Site.toList==site.toList) then 1 else bif !a.Present then 2 else bif !(a.aAN==b) then 3 else bif !iI pub (dG a++[a.Counter]) a.Signature then 5 else bif decide (a.Counter<=cnt) then 4 else 0
def jE (a:AH)(x:AX)(site:ByteArray)(b:Int):AH×Int:=bif !bA a||(decide (aU a x.Handle<0)||(gB a (aU a x.Handle)).Cut) then(a,5) else({a with Credentials:=bif jD (gB a (aU a x.Handle)).Public x site b (gB a (aU a x.Handle)).Counter==0 then a.Credentials.set (aU a x.Handle).toNat {gB a (aU a x.Handle) with Counter:=x.Counter} else bif jD (gB a (aU a x.Handle)).Public x site b (gB a (aU a x.Handle)).Counter==4 then a.Credentials.set (aU a x.Handle).toNat {gB a (aU a x.Handle) with Cut:=true} else a.Credentials},jD (gB a (aU a x.Handle)).Public x site b (gB a (aU a x.Handle)).Counter)
def oC (a:AH)(m:Int):Bool:=bA a&&(decide (a.Minimum<=m)&&(decide (m<=3)&&(!(m==3)||a.Credentials.any λc=> !c.Cut)))
def lS (s:AD)(id b now:Int)(a:AX):AD×Int×Int:=bif !bI s||decide (aJ s id<0) then(s,1,0) else bif !(nM s.Book b id now).2 then({s with Book:=(nM s.Book b id now).1},2,0) else bif !oC (fI s (aJ s id)) 3 then({s with Book:=(nM s.Book b id now).1},3,0) else bif !((jE (fI s (aJ s id)) a s.Name (eF s.Book b)).2==0) then({s with Book:=(nM s.Book b id now).1,Accounts:=s.Accounts.set (aJ s id).toNat (jE (fI s (aJ s id)) a s.Name (eF s.Book b)).1},4,(jE (fI s (aJ s id)) a s.Name (eF s.Book b)).2) else({s with Book:=(nM s.Book b id now).1,Accounts:=s.Accounts.set (aJ s id).toNat (jE (fI s (aJ s id)) a s.Name (eF s.Book b)).1,Logins:=s.Logins++[id]},0,0)
def bT (w:AA)(j:Int):AD:=w.Sites.getD j.toNat default
def gZ (w:AA)(j:Int):AD×Int×Int×Bool:=jY (bT w j) 1 w.Now
def Rh (w:AA)(d j:Int)(o:AS):AI×AX×Bool:=iJ (aF w d).Store o (aA j) d (gZ w j).2.2.1 true
def Au (w:AA)(d j:Int)(o:AS):AD×Int×Int:=lS (gZ w j).1 1 (gZ w j).2.1 w.Now (Rh w d j o).2.1
def aQh (w:AA)(d j:Int)(o:AS):AA:={w with Devices:=w.Devices.set d.toNat {aF w d with Store:=(Rh w d j o).1},Sites:=w.Sites.set j.toNat (Au w d j o).1}
def dS (w:AA)(d j:Int):Bool:=aR w&&(aO w d&&nI w j)
def fT (w:AA)(d j:Int)(o:AS):AA×AX×Int:=bif !dS w d j then(w,bFp,1) else bif !(gZ w j).2.2.2 then(w,bFp,1) else bif !((Au w d j o).2.1==0) then(aQh w d j o,(Rh w d j o).2.1,2) else(nY (aQh w d j o) 1,(Rh w d j o).2.1,0)
def Oj (w:AA)(d j:Int)(o:AS):AA×Int:=((fT w d j o).1,(fT w d j o).2.2)
def lT (w:AA)(d j:Int):AA×Int:=bif dS w d j&& !dV w d then Oj w d j (Ew j) else(w,1)
def rM (o:AS):Bool:=iD o.Host&&bU o.Port 1 65535
def bA0 (m:Int):Nat->Int->Int->Int->Int
 |0,_,_,s=>s
 |k+1,b,n,s=>if n>0 then bA0 m k ((IntKind.i64.wrap (b*b)).tmod m) (n/2) (bif n%2==1 then(IntKind.i64.wrap (s*b)).tmod m else s) else s
def aNa (x:Int):Bool:=bU x 1 2038&&bA0 2039 11 x 1019 1==1
def Av (g n:Int):Int:=bif aNa g then bA0 2039 11 g (jO n 1019) 1 else 0
def aCt (l v:Int):Int:=Av 4 (IntKind.i64.wrap (1+((IntKind.i64.wrap (bS l [89,v]*bS l [89,v])).tmod 2147483647).tmod 1018))
def p9 (s l i:Int):Int:=Av (aCt l i) s
def Ey (e l:Int):Int:=jV (bS e [157,l])
def aTc (k m:Int):Int:=bif bU k 0 2147483647 then aWk .i64 k (aV m [251]) else 0
def aCu (o s:Int):Int:=bS o [257,s]
def xI (c:Int)(l:List Int)(n:Int):List A0:=bif bU n 1 7&&decide ((l.length:Int)<n) then(List.range n.toNat).map λ(i:Nat)=>⟨(i:Int)+1,Uj c l ((i:Int)+1)⟩ else[]
def Ez (k:A3):AO:=⟨k,[],Ud k⟩
def aK7 (pin salt key secret limit:Int):Bool:=bU pin 0 9999&&(bU salt 0 1000000&&(bN key&&(!(jO secret 1019==0)&&bU limit 1 10)))
def Iz (pin salt key secret:Int)(cs:List Int)(n limit:Int):AY×List AO×Bool:=
 bif aK7 pin salt key secret limit&& !((xI secret cs n).length==0) then(⟨salt,IntKind.i64.wrap ((cs.length:Int)+1),aCu (Ey (p9 secret salt pin) salt) salt,aTc key (Ey (p9 secret salt pin) salt)⟩,(xI secret cs n).map (λs=>Ez ⟨s,0,0,limit⟩),true) else(⟨0,0,0,0⟩,[],false)
def dP (log:List AF)(bx:AK):AM×Bool:=bif aW log&&gT bx log then(⟨log,bx,[]⟩,true) else(⟨[],⟨0,[]⟩,[]⟩,false)
def Jy (id:Int)(l:List AH):Nat:=(l.takeWhile λa=>decide (a.Id<id)).length
def qP (s:AD)(id m:Int):AD:={s with Accounts:=s.Accounts.take (Jy id s.Accounts)++[⟨id,m,[]⟩]++s.Accounts.drop (Jy id s.Accounts)}
def mF (s:AD)(id m:Int):AD×Bool:=bif bI s&&bI (qP s id m) then(qP s id m,true) else(s,false)
def pR (nm:ByteArray):Nat->List AC->AD->AD
 |_,[],s=>s
 |i,d::l,s=>pR nm (i+1) l (dI s 1 (i:Int) (cK d.Store nm (i:Int))).1
def wM (seed:Int)(l:List AC)(j:Int):AD:=pR (aA j) 0 l (mF (gJ (aA j) (aV seed [281,j])) 1 3).1
def wN (l:List AC)(seed:Int):List AD:=[wM seed l 0,wM seed l 1]
def aX (seed:Int):Nat->List AF
 |0=>[]
 |n+1=>(bW (aX seed n) 1 (aS (aM seed (n:Int))) (aM seed 0)).1
def dR (seed:Int)(n:Nat):List AC:=(List.range n).map λ(i:Nat)=>aY (aM seed (i:Int))
def Ol (nm:ByteArray):Nat->AC->AC
 |0,d=>d
 |i+1,d=>(bO (Ol nm i d) nm (i:Int) false).1
def gU (seed:Int)(n:Nat):AK:=(bE (aX seed n) (bK seed 0) 1000).1
def zL (seed:Int)(n:Nat)(d:AC):AC:=(mE d (aX seed n) (bK seed 0)).1
def lU (seed:Int)(n:Nat):AC:=Ol (aA 1) n (Ol (aA 0) n (zL seed n (aY (aM seed 0))))
def nwW (seed:Int)(n:Nat):AC×AJ×Bool:=dO (lU seed n)
def iK (seed:Int)(n:Nat):AM:=(bQ (dP (aX seed n) (gU seed n)).1 (nwW seed n).2.1).1
def Aw (seed:Int)(n:Nat)(d:AC):AC:=(bR (zL seed n d) (aX seed n) (gU seed n) (nwW seed n).2.1).1
def kE (seed:Int)(n:Nat):List AC:=(nwW seed n).1::((dR seed n).drop 1).map (Aw seed n)
def U8 (seed t:Int):List Int:=(List.range (t-1).toNat).map λ(k:Nat)=>aV seed [307,(k:Int)+1]
def w9 (seed t pin k:Int):AY×List AO×Bool:=Iz pin 7 (aV seed [283]) (IntKind.i64.wrap (1+(aV seed [293]).tmod 1018)) (U8 seed t) k 5
def zM (n k t pin seed:Int):Bool:=bU n 1 3&&(bU k 1 7&&(bU t 1 k&&(bU pin 0 9999&&bN seed)))
def aK8:AA:=⟨0,0,[],[],⟨[],⟨0,[]⟩,[]⟩,[],⟨0,0,0,0⟩,[],0,⟨[]⟩⟩
def bG (n k t pin seed:Int):AA:=bif zM n k t pin seed then⟨0,seed,kE seed n.toNat,List.replicate n.toNat false,iK seed n.toNat,wN (dR seed n.toNat) seed,(w9 seed t pin k).1,(w9 seed t pin k).2.1,pin,⟨[]⟩⟩ else aK8
theorem aNc {l:List Int}(h:l.Nodup)(e:AF):(iY l e).Nodup:=by
 grind[List.nodup_append,iY]
theorem bA1 (log:List AF):(aC log).Nodup:=by
 have key:∀(l:List AF) (s:List Int),s.Nodup->(l.foldl iY s).Nodup:=by intro l;induction l<;>grind[aNc]
 exact key log [] gm
theorem aYg {e:Int}{d:List Int}:∀{i:Nat} {l:List Int},(gF e d i l).2=true->(gF e d i l).1.map (λb=>b.To)=l
 |_,[],_=>rfl
 |i,p::l,h=>by
  simp only[gF] at h ⊢;cases hc:(gL p (IntKind.i64.wrap (e+(i:Int))) d).2&&(gF e d (i+1) l).2 with
  |false=>rw[hc] at h;cases h
  |true=>
   rw[aa] at hc;simp only[ac,bw,aYg hc.2];have:(gL p (IntKind.i64.wrap (e+(i:Int))) d).1.To=p:=by
    have h1:=hc.1;unfold gL at h1 ⊢;cases hq:iM p==0||(!bN (IntKind.i64.wrap (e+(i:Int)))||decide ((d.length:Int)>200)) with
    |true=>rw[hq] at h1;cases h1
    |false=>rfl
   rw[this]
theorem aTd:∀{l:List AQ} {d:Int} {s:Int},(l.map λb=>b.To).Nodup->0<=s->s<1000->l.foldl (λn b=>bif b.To==d then IntKind.i64.wrap (n+1) else n) s=s+(if d∈l.map (λb=>b.To) then 1 else 0)
 |[],d,s,_,_,_=>by simp
 |b::l,d,s,h,h0,h1=>by
  rw[bw,cw] at h;rw[dp];cases hc:b.To==d with
  |true=>
   have hd:b.To=d:=by simpa using hc
   have hn:d∉l.map (λb=>b.To):=hd▸h.1;have a:IntKind.i64.wrap (s+1)=s+1:=aL (by omega) (by omega);have key:∀(l:List AQ) (s:Int),d∉l.map (λb=>b.To)->l.foldl (λn b=>bif b.To==d then IntKind.i64.wrap (n+1) else n) s=s:=by
    intro l;induction l with
    |nil=>exact λ_ _=>rfl
    |cons x l c=>
     intro s hx;simp only[bw,bf,not_or] at hx;have:(x.To==d)=false:=by simpa using λe=>hx.1 e.symm
     rw[dp,this,ae];exact c s hx.2
   rw[ac,key l _ hn,a,bw,cW (by simp[hd])]
  |false=>
   have hd:¬b.To=d:=by simpa using hc
   rw[ae,aTd h.2 h0 h1,bw];have:(d∈b.To::l.map λb=>b.To)↔d∈l.map λb=>b.To:=by rw[bf];exact⟨λh=>h.resolve_left λe=>hd e.symm, .inr⟩
   simp only[this]
theorem aQi {log:List AF}{k e:Int}(h:(bE log k e).2=true):gT (bE log k e).1 log=true:=by
 unfold bE at h ⊢;cases hc: !aW log||(!bN k|| !(gF e (iR [aB log,k]) 0 (aC log)).2) with
 |true=>simp_all
 |false=>
  simp only[bj,cF] at hc
  grind[aTd,bA1,gT,pQ,List.all_eq_true,List.length_map,List.length,aYg]
theorem bFq {log:List AF}{k e:Int}(h:(bE log k e).2=false):(bE log k e).1=⟨0,[]⟩:=by
 grind[aW,bN,gF,iR,aB,aC,bE]
def aTe {d:AC}{log:List AF}{bx:AK}{s:AJ}(h:(jL d log bx s==0)=false):(bR d log bx s).1=d:=by
 grind[bR]
def bJt (d:AC)(bx:AK)(s:AJ):(bR d [] bx s).1=d:=aTe rfl
theorem bRl (s:AI):(eQ s ⟨0,[]⟩).2=false:=rfl
def bA2 {log:List AF}{key e:Int}{s:AJ}(hs:s=⟨0,0,[],0⟩\/s.Epoch=aB log)(d:AC):
  (bR d (bQ (dP log (bE log key e).1).1 s).1.Log (bQ (dP log (bE log key e).1).1 s).1.Boxes (eZ (bQ (dP log (bE log key e).1).1 s).1 0).1).1=(bR d log (bE log key e).1 s).1:=by
 cases hc:aW log&&gT (bE log key e).1 log with
 |true=>
  have b:(dP log (bE log key e).1).1=⟨log,(bE log key e).1,[]⟩:=by grind[dP]
  rw[b];cases hq:s.Epoch !=aB log with
  |true=>
   have c:s=⟨0,0,[],0⟩:=by simp_all
   have a:(bQ ⟨log,(bE log key e).1,[]⟩ s).1=⟨log,(bE log key e).1,[]⟩:=by
    grind[bE,bQ]
   rw[a,c];rfl
  |false=>
   have a:(bQ ⟨log,(bE log key e).1,[]⟩ s).1=⟨log,(bE log key e).1,[s]⟩:=by
    grind[bE,bQ]
   rw[a];rfl
 |false=>
  have b:(dP log (bE log key e).1).1=⟨[],⟨0,[]⟩,[]⟩:=by grind[dP]
  have a:(bQ (dP log (bE log key e).1).1 s).1.Log=[]:=by rw[(qV _ _).2,b]
  rw[a,bJt];refine(aTe ?_).symm;cases hl:aW log with
  |false=>grind[jL,Bool.not_false]
  |true=>
   grind[dJ,jJ,aC,aS,jL,bRl,Bool.not_true,Bool.not_false,bFq,bE,aQi]
theorem aK9 (nm:ByteArray):∀(i:Nat) (d:AC),(Ol nm i d).sz<=d.sz+i
 |0,d=>ak _
 |i+1,d=>by have h1:=aK9 nm i d;grind[bO,Ol,Jt]
theorem qW (seed:Int):∀n:Nat,(aX seed n).length<=n
 |0=>ak _
 |n+1=>by have h1:=qW seed n;grind[bW,aX,aS,aM,oP]
theorem aLa (seed:Int)(n:Nat)(d:AC):(zL seed n d).sz<=d.sz+n:=by have h1:=aM9 d (aX seed n) (bK seed 0);have h2:=qW seed n;show(mE d (aX seed n) (bK seed 0)).1.sz<=_;omega
theorem aF5 (s:AI):(aY s).sz=0:=rfl
def aNd (seed:Int)(n:Nat):(lU seed n).sz<=3*n:=by
 grind[lU,aF5,aLa,aY,aM,aK9,aA,zL,Ol]
theorem aNe (seed:Int)(n:Nat):(gU seed n).sz<=13*n:=by
 grind[gU,qW,zW,aX,bK]
theorem Uq (log:List AF)(bx:AK):(dP log bx).1.sz<=log.length+bx.sz:=by
 grind[aW,gT,bx,AM.sz,AK.sz,List.length_nil,dP]
def aNf (seed:Int)(n:Nat):(iK seed n).sz<=14*n+501:=by
 grind[iK,nwW,zU,lU,qW,aNe,Uq,aX,gU,qV,dP]
theorem bFr (seed:Int)(n:Nat)(d:AC):(Aw seed n d).sz<=d.sz+2*n+20:=by
 grind[Aw,qW,aLa,aM7,zL,aX,gU,nwW]
def bA3 {α:Type}{f:α->Nat}{b:Nat}:∀{l:List α},(∀x∈l,f x<=b)->(l.map f).sum<=l.length*b
 |[],_=>cD _
 |x::l,h=>by
  have h1:=h x (by simp);have h2:=bA3 (l:=l) (f:=f) (b:=b) λy a=>h y (by simp[a]);simp only[bw,eJ,aw,du];omega
theorem U9 (nm:ByteArray):∀(i:Nat) (l:List AC) (s:AD),(pR nm i l s).sz<=s.sz+l.length
 |_,[],s=>ak _
 |i,d::l,s=>by
  have h1:=U9 nm (i+1) l (dI s 1 (i:Int) (cK d.Store nm (i:Int))).1
  grind[List.length_cons,pR,dI,cK,aS6]
def aNg (s:AD)(id m:Int):(mF s id m).1.sz<=s.sz+1:=by
 unfold mF;cases bI s&&bI (qP s id m) with
 |false=>simp
 |true=>
  grind[qP,AD.sz,List.length_append,List.length_cons,List.length_nil,AH.sz,Jy,id,List.take_append_drop]
def aIp (nm:ByteArray)(s:Int):(gJ nm s).sz<=nm.size:=by
 unfold gJ;cases kM nm s with
 |true=>simp[AD.sz]
 |false=>exact cD _
def aIq (seed:Int)(l:List AC)(j:Int):(wM seed l j).sz<=l.length+101:=by
 have h1:=U9 (aA j) 0 l (mF (gJ (aA j) (aV seed [281,j])) 1 3).1;have h2:=aNg (gJ (aA j) (aV seed [281,j])) 1 3;have a:=aIp (aA j) (aV seed [281,j]);have b:(aA j).size<=100:=by unfold aA;cases j==0<;>cases j==1<;>decide
 grind[wM]
def aTf (c:Int)(l:List Int)(n:Int):(xI c l n).length<=7:=by
 grind[bU,decide,iA,List.length_map,List.length_range,xI]
def aVb (pin salt key secret:Int)(cs:List Int)(n limit:Int):(Iz pin salt key secret cs n limit).2.1.length<=7/\((Iz pin salt key secret cs n limit).2.1.map AO.sz).sum=0:=by
 unfold Iz;cases aK7 pin salt key secret limit&& !((xI secret cs n).length==0) with
 |false=>simp
 |true=>refine⟨by simp only[ac,bl];exact aTf _ _ _,?_⟩;have:=bA3 (f:=AO.sz) (b:=0) (l:=(xI secret cs n).map λs=>Ez ⟨s,0,0,limit⟩) (λx hx=>by obtain⟨s,_,rfl⟩:=cr.1 hx;exact ak _);simp_all
def aYh (n k t pin seed:Int):(bG n k t pin seed).sz<=100000:=by
 unfold bG;cases hc:zM n k t pin seed with
 |false=>exact cD _
 |true=>
  simp only[zM,aa] at hc;have hn:=iA hc.1;obtain⟨N,c⟩:∃N,N=n.toNat:=⟨_,rfl⟩;have d:N<=3:=by omega
  have h1:=zU (lU seed N);have h2:=aNd seed N;have m:=aNf seed N;have o:=aIq seed (dR seed N) 0;have p:=aIq seed (dR seed N) 1;have e:=aVb pin 7 (aV seed [283]) (IntKind.i64.wrap (1+(aV seed [293]).tmod 1018)) (U8 seed t) k 5;have a:(dR seed N).length=N:=by simp[dR]
  have h:=bA3 (f:=AC.sz) (b:=26) (l:=((dR seed N).drop 1).map (Aw seed N)) (by grind[List.mem_of_mem_drop,dR,bFr,aY,aM,aF5]);have i:(nwW seed N).1.sz=(lU seed N).sz:=h1.1;have j:(w9 seed t pin k).2.1.length<=7/\((w9 seed t pin k).2.1.map AO.sz).sum=0:=e;rw[bl,cE,a] at h;simp only[ac,<-c,AA.sz,kE,wN,aw,bl,cE,a,bw,eJ,bu,ga,List.sum_nil,fj,i]
  grind[AM.sz,AK.sz,Nat.mul_le_mul_right,iK]
def bFs (d:AC)(n:ByteArray)(h:Int)(rm:Bool):(bO d n h rm).1.Key=d.Key/\(bO d n h rm).1.Epoch=d.Epoch:=by unfold bO;cases(wC d n h rm).2<;>exact⟨rfl,rfl⟩
def aVc (nm:ByteArray):∀(i:Nat) (d:AC),(Ol nm i d).Key=d.Key/\(Ol nm i d).Epoch=d.Epoch
 |0,d=>⟨rfl,rfl⟩
 |i+1,d=>by
  simp[bFs,Ol,aVc]
def bA4 (seed:Int)(n:Nat):(lU seed n).Key=(zL seed n (aY (aM seed 0))).Key/\(lU seed n).Epoch=(zL seed n (aY (aM seed 0))).Epoch:=by obtain⟨h1,h2⟩:=aVc (aA 1) n (Ol (aA 0) n (zL seed n (aY (aM seed 0))));obtain⟨a,b⟩:=aVc (aA 0) n (zL seed n (aY (aM seed 0)));exact⟨h1.trans a,h2.trans b⟩
theorem bA5 {seed:Int}{n:Nat}(h:bN (zL seed n (aY (aM seed 0))).Key=true):(zL seed n (aY (aM seed 0))).Epoch=aB (aX seed n):=by
 unfold zL mE at h ⊢;cases hq: !aW (aX seed n)||(!dJ (aX seed n) (aY (aM seed 0)).Log||(decide (aB (aX seed n)<(aY (aM seed 0)).Epoch)|| !bN (bK seed 0))) with
 |true=>rw[hq] at h;exact absurd (show bN 0=true from h) (by decide)
 |false=>rfl
def bFt (seed:Int)(n:Nat):(nwW seed n).2.1=⟨0,0,[],0⟩\/(nwW seed n).2.1.Epoch=aB (aX seed n):=by
 obtain⟨k1,k2⟩:=bA4 seed n;unfold nwW dO;generalize lU seed n=d at k1 k2 ⊢;cases hs:(kN d.Key d.Epoch (IntKind.i64.wrap (d.Version+1)) d.aAC).2 with
 |false=>simp
 |true=>
  refine .inr ?_;simp only[ac];unfold kN at hs ⊢;cases hc:bN d.Key&&(bU d.Epoch 0 1000000&&bU (IntKind.i64.wrap (d.Version+1)) 0 1000000)&&aP d.aAC with
  |false=>grind
  |true=>
   simp only[aa] at hc;show d.Epoch=_
   grind[bA5,k1,k2]
def bM6 (seed:Int)(n:Nat)(d:AC):(bR (zL seed n d) (iK seed n).Log (iK seed n).Boxes (eZ (iK seed n) 0).1).1=Aw seed n d:=bA2 (bFt seed n) (zL seed n d)
def bRm (f:Int->Int)(l:List Int)(j:Nat)(x:Int):Bool:=(l.take j).any λq=>f q==f x
def bM7 (s:A0)(e:Int):Int:=bif aNa e&&(!(e==1)&&bU s.Value 0 1018) then Av e s.Value else 0
def bDh (k:A3)(e:Int):A3×Int×Bool:=bif aSz k&&(!(k.Guesses==k.Limit)&&(aNa e&& !(e==1))) then({k with Guesses:=IntKind.i64.wrap (k.Guesses+1)},bM7 k.aAT e,true) else(k,0,false)
def bVb (l:List A3):List A3:=bif decide ((l.length:Int)>30) then l.drop 1 else l
def aYi (h:AO)(e:Int):AO×Int×Bool:=bif decide (Ud h.State<h.Monotonic)|| !(bDh h.State e).2.2 then(h,0,false) else(⟨(bDh h.State e).1,bVb (h.Saved++[h.State]),Ud (bDh h.State e).1⟩,(bDh h.State e).2.1,true)
def bRn (l i b:Int):Int:=bif jO b 1019==0 then 0 else Av (aCt l i) b
def bRo (hs:List AO)(a:List Int)(i:Nat)(c:Int):Bool:=(decide (c<0)||decide (c>=(hs.length:Int)))||bRm (λq=>q) a i c
def bM8 (hs:List AO)(a:List Int):Bool:= !iG (bRo hs a) 0 a
def bVc (e:Int)(s:List AO×List Int×List Int)(c:Int):List AO×List Int×List Int:=
 (s.1.set c.toNat (aYi (s.1.getD c.toNat default) e).1,bif (aYi (s.1.getD c.toNat default) e).2.2 then s.2.1++[(aYi (s.1.getD c.toNat default) e).1.State.aAT.Index] else s.2.1,bif (aYi (s.1.getD c.toNat default) e).2.2 then s.2.2++[(aYi (s.1.getD c.toNat default) e).2.1] else s.2.2)
def bM9 (hs:List AO)(a:List Int)(e:Int):List AO×List Int×List Int:=a.foldl (bVc e) (hs,[],[])
def bOz (n:Int):Int:=bif jO n 1019==0 then 0 else bA0 1019 11 (jO n 1019) 1017 1
def bVd (l:List Int)(k a w:Int)(j:Nat):Int:=bif (j:Int)==k then w else(IntKind.i64.wrap ((IntKind.i64.wrap (w*jO (IntKind.i64.wrap (jO a 1019-jO (l.getD j 0) 1019)) 1019)).tmod 1019*bOz (IntKind.i64.wrap (jO (l.getD k.toNat 0) 1019-jO (l.getD j 0) 1019)))).tmod 1019
def bVe (l:List Int)(k a:Int):Int:=bif (decide (k<0)||decide (k>=(l.length:Int)))||iG (bRm (λq=>jO q 1019) l) 0 l then 0 else(List.range l.length).foldl (bVd l k a) 1
def bRp (a b:Int):Int:=bif aNa a&&aNa b then(IntKind.i64.wrap (a*b)).tmod 2039 else 0
def bNa (ix vs:List Int)(i:Nat)(x:Int):Bool:= !bU x 1 7||(!aNa (vs.getD i 0)||bRm (λq=>q) ix i x)
def bTe (ix vs:List Int):Int:=(List.range vs.length).foldl (λo i=>bRp o (Av (vs.getD i 0) (bVe ix (i:Int) 0))) 1
def bO0 (ix vs:List Int):Int×Bool:=bif (!(ix.length==vs.length)||ix.length==0)||iG (bNa ix vs) 0 ix then(0,false) else(bTe ix vs,true)
def bTf (c b:Int):Int:=bif jO b 1019==0 then 0 else Av c (bOz b)
def bRq (v:AY)(o:Int):Int×Bool:=bif aCu o v.Salt==v.Check then(aTc v.Masked o,true) else(0,false)
def V3 (v:AY)(hs:List AO)(a:List Int)(pin b:Int):List AO×List Int×List Int:=bM9 hs a (bRn v.Salt pin b)
def bVf (hs:List AO)(a:List Int)(pin b:Int):Bool:=bM8 hs a&&(!(jO b 1019==0)&&bU pin 0 9999)
def bO1 (v:AY)(hs:List AO)(a:List Int)(pin b:Int):List AO×Int×Bool:=
 bif !bVf hs a pin b then(hs,0,false) else
 bif decide ((a.length:Int)<v.Threshold)||(decide ((V3 v hs a pin b).2.2.length<a.length)|| !(bO0 (V3 v hs a pin b).2.1 (V3 v hs a pin b).2.2).2) then((V3 v hs a pin b).1,0,false) else
  ((V3 v hs a pin b).1,bRq v (Ey (bTf (bO0 (V3 v hs a pin b).2.1 (V3 v hs a pin b).2.2).1 b) v.Salt))
def bO2 (w:AA):Int:=IntKind.i64.wrap (1+(aV w.Seed [313,w.Now]).tmod 1018)
def aTg (w:AA)(a:List Int)(pin:Int):AA×Int×Bool:=bif !aR w then(w,0,false) else
 (nY {w with Hosts:=(bO1 w.aAO w.Hosts a pin (bO2 w)).1} 5,(bO1 w.aAO w.Hosts a pin (bO2 w)).2)
def bJu (w:AA):List Int:=(List.range (min w.aAO.Threshold ((w.Hosts.length:Int)+1)).toNat).map λ(i:Nat)=>(i:Int)
def bNb (w:AA)(pin:Int):AA×Bool:=((aTg w (bJu w) pin).1,(aTg w (bJu w) pin).2.2)
structure AskIn (B:Nat) (hs:List AO) (i:Nat) (s:List AO×List Int×List Int):Prop where
 len:s.1.length=hs.length
 sz:∀h∈s.1,h.sz<=B+i
 eq:s.2.1.length=s.2.2.length
 le:s.2.2.length<=i
def jF (w:AA)(d:Int):AA×Bool:=bif dS w d 0&& !dV w d then({w with Stolen:=w.Stolen.set d.toNat true},true) else(w,false)
def bNc (b:AR)(now:Int):AR:=bif fQ b then {b with Open:=b.Open.filter λc=>decide (c.Until>=now)} else b
def bJv (w:AA):AA:={w with Now:=IntKind.i64.wrap (w.Now+1)}
def bTg (w:AA):AA×Bool:=bif aR (bJv w) then({bJv w with Sites:=w.Sites.map λs=>{s with Book:=bNc s.Book (bJv w).Now}},true) else(w,false)
def bJw (w:AA)(d j:Int):AA×Int:=bif dS w d j&&dV w d then Oj w d j (Ew j) else(w,1)
def bJx (w:AA)(d j:Int):AA×Int:=bif dS w d j&& !dV w d then Oj w d j (bAz j) else(w,1)
def bVg:ByteArray:=⟨#[97,46,110,101,116]⟩
def bRr (w:AA)(k d o v:Int)(f:Bool):AA×Bool:=
 bif !aR w then(w,false) else
 bif k==1 then bTg w else
 bif k==2 then((lT w d o).1,(lT w d o).2==0) else
 bif k==3 then((bJx w d o).1,(bJx w d o).2==0) else
 bif k==4 then jF w d else
 bif k==5 then((bJw w d o).1,(bJw w d o).2==0) else
 bif k==6 then bY w d else
 bif k==7 then eO w d o else
 bif k==8 then lX w d bVg v f else
 bif k==9 then fD w d else
 bif k==10 then((aH w d v).1,(aH w d v).2==0) else
 bif k==11 then bNb w v else
 bif k==12 then aX1 w else
 bif k==13 then bAp w o v else(w,false)
def aVd (l:List Int):Prop:=okL (λn:Int=>0<=n/\n<=255) l
noncomputable instance (l:List Int):Decidable (aVd l):=Classical.propDecidable _
def bFu (l:List Int):Bool:=decide ((l.length:Int)>1048576)
def aVe (b:AK):Prop:=∀x∈b.Boxes,aT x.Data
def Ay (c:AM):Prop:=aVe c.Boxes/\∀s∈c.History,aT s.Data
instance (b:AK):Decidable (aVe b):=inferInstanceAs (Decidable (∀x∈b.Boxes,aT x.Data))
instance (c:AM):Decidable (Ay c):=inferInstanceAs (Decidable (_/\_))
def bD (c:AN):Prop:=0<=c.i/\c.b.length<=1048576
instance (c:AN):Decidable (bD c):=by unfold bD;infer_instance
def bNd (h:Int):Int:=IntKind.i64.wrap (IntKind.i64.wrap (h*6364136223846793005)+1442695040888963407)
def bO3 (h:Int):Int:=qB IntKind.i64 (aWk IntKind.i64 (Ik IntKind.i64 h 33) (Ik IntKind.i64 h 47)) 255
def lJ (c:AN):AN×Int:=bif decide (c.i<(c.b.length:Int)) then(⟨c.b,IntKind.i64.wrap (c.i+1),bNd c.h⟩,qB IntKind.i64 (IntKind.i64.wrap (bO3 (bNd c.h)+IntKind.i64.wrap (c.b.getD c.i.toNat 0))) 255) else(⟨c.b,c.i,bNd c.h⟩,bO3 (bNd c.h))
def bJ (c:AN)(n:Int):AN×Int:=bif decide (n<=0) then(c,0) else bif decide (n<=256) then((lJ c).1,(lJ c).2.tmod n) else
 ((lJ (lJ (lJ c).1).1).1,(IntKind.i64.wrap (IntKind.i64.wrap (IntKind.i64.wrap ((lJ c).2*65536)+IntKind.i64.wrap ((lJ (lJ c).1).2*256))+(lJ (lJ (lJ c).1).1).2)).tmod n)
def sN (c:AN)(n:Int):AN×Bool:=((bJ c n).1,(bJ c n).2==0)
def dA (c:AN):AN×Int:=bJ c 4
def dB (c:AN):AN×Int:=bJ (dA c).1 3
def dC (c:AN):AN×Int:=bJ (dB c).1 (IntKind.i64.wrap (1+(dA c).2))
def dD (c:AN):AN×Int:=bJ (dC c).1 40
def dE (c:AN):AN×Int:=bJ (dD c).1 999
def V4 (c:AN)(l:List Int):AN×Int:=((bJ c (l.length:Int)).1,l.getD (bJ c (l.length:Int)).2.toNat 0)
def aIr (c:AN):AN×Int:=bif (sN c 10).2 then V4 (sN c 10).1 [0,-1,1,2147483646,2147483647] else((bJ (sN c 10).1 99999).1,IntKind.i64.wrap (1+(bJ (sN c 10).1 99999).2))
def eA (c:AN):AN×Int:=bJ c 13
def eB (c:AN):AN×Int:=bJ (eA c).1 4
def eC (c:AN):AN×Int:=bJ (eB c).1 3
def eD (c:AN):AN×Int:=bJ (eC c).1 4
def aQd (e:A4):Prop:=(1<=e.Kind/\e.Kind<=13)/\(0<=e.Device/\e.Device<=3)/\(0<=e.Other/\e.Other<=2)/\(0<=e.Value/\e.Value<=39)/\(e.Kind≠11->e.Value<=3)
def evF (w:AA)(e:A4):AA×Bool:=bRr w e.Kind e.Device e.Other e.Value e.Flag
def aYj (a b:AB):Prop:=fZ a b=(a,true)/\a.sz<=34359738368/\b.sz<=34359738368
noncomputable instance (a b:AB):Decidable (aYj a b):=Classical.propDecidable _
def cntF (w:AA)(j:Int):Int:=bif nI w j then((w.Sites.getD j.toNat default).Logins.length:Int) else 0
end Go.VK
