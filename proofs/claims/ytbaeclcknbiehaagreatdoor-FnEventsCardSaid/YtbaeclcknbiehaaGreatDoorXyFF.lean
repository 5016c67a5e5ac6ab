import Derived.Test.YtbaeclcknbiehaaGreatDoorEVztod
import Derived.Test.YtbaeclcknbiehaaGreatDoorXyS
/- Printed by wip/tools: models, walks, proofs. -/
set_option linter.all false
set_option maxRecDepth 100000
set_option maxHeartbeats 4000000
namespace Go.VK
open Go.RowKit Go.Proofs D
def pO (k:A3):Int:=IntKind.i64.wrap (IntKind.i64.wrap (k.Epoch*1000)+k.Guesses)
theorem bHm {h v:Int}(h0:0<=h)(h1:h<2147483647):0<=hstep h v/\hstep h v<2147483647:=by
 grind[Int.tmod_nonneg,Int.tmod_lt_of_pos,aJ,cO,hstep,nP]
def bHn (l:List Int):0<=Rx l/\Rx l<2147483647:=by
 unfold Rx
 suffices ∀(l:List Int) (h:Int),0<=h->h<2147483647->0<=l.foldl hstep h/\l.foldl hstep h<2147483647 from(by grind)
 intro l;induction l<;>grind[bHm]
theorem nS (k:Int)(l:List Int):0<=bO k l/\bO k l<2147483647:=bHn _
def bEv (a b:Int):Int:=bif decide (b>a) then b else a
def sG (a:List Int)(r:List (List Int)):List Int:=a++r.flatten
def jF (n:Int):Int:=bif n==0 then 1 else n
def bZ (n:Int):Bool:=bG n 1 2147483646
def E9 (b:List Int):List Int:=[(b.length:Int)]++b.map IntKind.i64.wrap
def aV (seed:Int)(l:List Int):Int:=jF (bO seed ([151]++l))
def sH (k:Int)(s:ByteArray):Int:=jF (bO k (E9 (bU s)))
def iR (p:Int):Int:=bif !(bZ p) then 0 else(IntKind.i64.wrap (p*48271)).tmod 2147483647
def jQ (s:AJ):Int:=aV s.Seed [181]
def aZ (s:AJ):Int:=iR (jQ s)
def jM (l:List Int)(x:Int):Bool:=l.any λe=>e==x
def jZ (log:List AG)(p:Int):Bool:=log.any λe=>e.Kind==2&&e.Device==p
def mK (s:List Int)(e:AG):List Int:=
 bif e.Kind==1 then(bif s.contains e.Device then s else s++[e.Device]) else bif e.Kind==2 then s.filter (λd=>d !=e.Device) else s
def aG (log:List AG):List Int:=log.foldl mK []
def aQ (log:List AG):Int:=log.foldl (λn e=>bif e.Kind==2 then IntKind.i64.wrap (n+1) else n) 0
def aP (b:AF)(site a:Int):Int:=lD (λe=>e.Site==site&&e.Handle==a) 0 b.Entries
def aI (s:AB)(id:Int):Int:=lD (λa=>a.Id==id) 0 s.Accounts
theorem aRt (s:List Int)(x:AG):(mK s x).length<=s.length+1:=by
 grind[List.length_filter_le,mK]
def gG (log:List AG):(aG log).length<=log.length:=by
 suffices ∀(l:List AG) (s:List Int),(l.foldl mK s).length<=s.length+l.length from by grind[aG]
 intro l;induction l<;>grind[List.length_cons,mK,List.length_filter_le]
def bHo {n:Int}(h:0<=n):bEv 1 n=jF n:=by
 grind[bEv,jF]
def dL (s:ByteArray):Int:=sH 173 s
def WOk (w:AA):Prop:=w.Devices.length<=34359738368/\w.Stolen.length<=34359738368/\w.aAF.Log.length<=34359738368/\w.Sites.length<=34359738368
instance (w:AA):Decidable (WOk w):=inferInstanceAs (Decidable (_/\_))
def aM (w:AA)(d:Int):Bool:=decide (0<=d)&&decide (d<w.Devices.length)
def bCl {w:AA}(h:WOk w)(d:Int):bG d 0 (IntKind.i64.wrap ((w.Devices.length:Int)-1))=aM w d:=by
 have:=h.1
 grind[bG,aM,aJ]
def aR (w:AA)(d:Int):AD:=w.Devices.getD d.toNat default
theorem mM {w:AA}{d:Int}(h:aM w d=true):aT w.Devices d=some (aR w d):=by
 grind[aR,List.getD,List.getElem?_eq_getElem,jP,aM]
def iH (w:AA)(d:Int):Bool:=aM w d&&jM (aG w.aAF.Log) (aZ (aR w d).Store)
def WOk.of {w:AA}(h:w.sz<=1048576):WOk w:=by
 grind[WOk,AA.sz,AR.sz]
def bHp (k:Int)(i:Nat)(z:Int):Int:=IntKind.u8.wrap ((z-bO k [(i:Int)])%256)
def aV4 (k:Int)(b:List Int):List Int:=D9 (λi z=>[bHp k i z]) 0 b
theorem bHq (x:Int):cO (IntKind.i64.wrap x) 256=x%256:=by
 grind[cO,IntKind.wrap_i64]
theorem bTi (k:Int)(i:Nat)(z:Int):IntKind.u8.wrap (cO (IntKind.i64.wrap (IntKind.i64.wrap z-bO k [(i:Int)])) 256)=bHp k i z:=by
 grind[bHq,bHp,IntKind.wrap_i64]
theorem bTj (k:Int)(i:Nat)(z:Int):IntKind.u8.wrap (cO (IntKind.i64.wrap (IntKind.i64.wrap z-(bO k [(i:Int)]).tmod 256)) 256)=bHp k i z:=by
 grind[bHq,bHp,IntKind.wrap_i64,Int.tmod_eq_emod_of_nonneg,nS]
def Sr {α β:Type}{y:Nat->α->β}:∀{i:Nat} {l:List α},(D9 (λi x=>[y i x]) i l).length=l.length
 |i,[]=>rfl
 |i,x::xs=>by simp[D9,Sr]
def mO (p e:Int):Int:=aV p [163,e]
def aSs (k:Int)(b:AQ):Int:=bO k ([167,b.To,b.Ephemeral]++E9 b.Data)
def mU (p:Int)(b:AQ):List Int×Bool:=
 bif !bZ p||(b.To !=iR p||(!bZ b.Ephemeral||decide ((b.Data.length:Int)>200))) then([],false)
 else bif b.MAC !=aSs (mO p b.Ephemeral) b then([],false) else(aV4 (mO p b.Ephemeral) b.Data,true)
def lH:List AQ->Int->List Int×Bool
 |[],_=>([],false)
 |b::bs,p=>bif (mU p b).2 then((mU p b).1,true) else lH bs p
def aU (b:List Int):Prop:=b.length<=34359738368/\b.all (λz=>decide (0<=z)&&decide (z<=255))=true
instance (b:List Int):Decidable (aU b):=inferInstanceAs (Decidable (_/\_))
theorem zM {b:List Int}(h:aU b){i:Nat}(hi:i<b.length):0<=b[i]/\b[i]<=255:=by have:=cx.1 h.2 b[i] (cp hi);simp_all
def uvG (b:List Int)(p:Nat):Nat->Nat->Int->Int×Int×Bool
 |0,_,_=>(0,0,false)
 |k+1,i,n=>
  if p+i<b.length then
   bif decide (b.getD (p+i) 0<128) then
    (bif (decide (0<i)&&b.getD (p+i) 0==0)||decide (n+b.getD (p+i) 0%128*128^i>1000000000000) then(0,0,false) else(n+b.getD (p+i) 0%128*128^i,((p+i+1:Nat):Int),true))
   else uvG b p k (i+1) (n+b.getD (p+i) 0%128*128^i)
  else(0,0,false)
def Rw (b:List Int)(at_:Int):Int×Int×Bool:=if at_<0 then(0,0,false) else uvG b at_.toNat 6 0 0
def bEw {i:Nat}(h:i<=6):(1:Int)<=128^i/\(128:Int)^i<=4398046511104:=by
 match i,h with
 |0,_|1,_|2,_|3,_|4,_|5,_|6,_=>decide
def bEx {z n:Int}{i:Nat}(hi:i<=5)(b:0<=z)(hn:0<=n)(a:n<128^i):0<=n+z%128*128^i/\n+z%128*128^i<128^(i+1)/\0<=z%128*128^i/\z%128*128^i<=127*128^i:=by have hp:=bEw (i:=i) (by omega);have h1:0<=z%128*128^i:=jn (by omega) (by omega);have h2:z%128*128^i<=127*128^i:=Int.mul_le_mul_of_nonneg_right (by omega) (by omega);omega
def bWz {z n:Int}{i:Nat}(hi:i<=5)(h:0<=z)(j:z<=255)(hn:0<=n)(c:n<128^i):
  orI .i64 n (aJg .i64 (rT .i64 z 127) (IntKind.i64.wrap (7*(i:Int))))=n+z%128*128^i:=by
 obtain⟨m,rfl⟩:=ey h;obtain⟨q,rfl⟩:=ey hn;have hp:=bEw (i:=i) (by omega);have hs:=bEx (z:=(m:Int)) (n:=(q:Int)) hi (by omega) (by omega) c;have t:rT .i64 (m:Int) 127=((m%128:Nat):Int):=by
  have e:((BitVec.ofInt 64 (m:Int))&&&(BitVec.ofInt 64 127)).toNat=m%128:=by
   rw[BitVec.toNat_and];have k:(BitVec.ofInt 64 (m:Int)).toNat=m:=by
    grind
   have l:(BitVec.ofInt 64 127).toNat=2^7-1:=by decide
   rw[k,l,ga]
  show IntKind.i64.wrap (((BitVec.ofInt 64 (m:Int))&&&(BitVec.ofInt 64 127)).toNat:Int)=_
  grind[aJ]
 have u:IntKind.i64.wrap (7*(i:Int))=((7*i:Nat):Int):=by grind[aJ]
 have d:(2:Nat)^(7*i)=128^i:=by rw[Nat.pow_mul]
 have o:((128^i:Nat):Int)=(128:Int)^i:=by simp
 have hb:aJg .i64 (rT .i64 (m:Int) 127) (IntKind.i64.wrap (7*(i:Int)))=((m%128*128^i:Nat):Int):=by
  grind[aJ,Int.toNat_natCast,min,Nat.min_eq_left,IntKind.bits,aJg]
 rw[hb];have a:q<128^i:=by omega
 have f:(m%128*128^i)|||q=m%128*128^i+q:=by
  have:=je (b:=q) (i:=7*i) (by rw[d];exact a) (m%128)
  grind[Nat.shiftLeft_eq]
 have p:m%128*128^i+q<2^63:=by
  grind
 have v:((BitVec.ofInt 64 (q:Int))|||(BitVec.ofInt 64 ((m%128*128^i:Nat):Int))).toNat=m%128*128^i+q:=by
  rw[BitVec.toNat_or];have r:(BitVec.ofInt 64 (q:Int)).toNat=q:=by grind
  have s:(BitVec.ofInt 64 ((m%128*128^i:Nat):Int)).toNat=m%128*128^i:=by rw[BitVec.toNat_ofInt];omega
  rw[r,s,Nat.or_comm,f]
 show IntKind.i64.wrap (((BitVec.ofInt 64 (q:Int))|||(BitVec.ofInt 64 ((m%128*128^i:Nat):Int))).toNat:Int)=_
 grind[aJ]
def nH (b:List Int):Nat->Int->List Int->List Int×Int×Bool
 |0,a,s=>(s,a,true)
 |k+1,a,s=>bif (Rw b a).2.2 then nH b k (Rw b a).2.1 (s++[(Rw b a).1]) else([],0,false)
def lI (b:List Int)(a c:Int):List Int×Int×Bool:=bif !bG c 0 100|| !bG a 0 b.length then([],0,false) else nH b c.toNat a []
theorem bHr (b:List Int):∀(k:Nat) (a:Int) (s:List Int),(nH b k a s).2.2=true->(nH b k a s).1.length=s.length+k
 |0,a,s,_=>rfl
 |k+1,a,s,h=>by
  unfold nH at h ⊢;cases c:(Rw b a).2.2 with
  |false=>rw[c] at h;simp at h
  |true=>rw[c] at h;simp only[ae] at h ⊢;rw[bHr b k _ _ h];simp;omega
theorem decode_len {b:List Int}{a c:Int}(hc:0<=c)(h:(lI b a c).2.2=true):(lI b a c).1.length=c.toNat:=by
 grind[bG,bHr,lI]
theorem bEy {k:Int}{b:List Int}(h:b.length<=34359738368):aU (aV4 k b):=by
 refine⟨by unfold aV4;rw[Sr];exact h,?_⟩;rw[cx];intro z a;have:∀(b:List Int) (i:Nat),z∈D9 (λi z=>[bHp k i z]) i b->0<=z/\z<=255:=by
  intro b;induction b with
  |nil=>simp[D9]
  |cons x xs c=>
   intro i h;simp only[D9,ce,cH] at h;rcases h with rfl|h
   ·have:=dV .u8 ((x-bO k [(i:Int)])%256);assumption
   grind
 have:=this b 0 a;simp[*]
def bKt (p:Int)(b:AQ):aU (mU p b).1:=by
 grind[decide,bZ,iR,aSs,mO,bEy,aU,mU]
theorem aGj (p:Int):∀bs,aU (lH bs p).1
 |[]=>show aU [] by decide
 |b::bs=>by
  unfold lH;cases(mU p b).2 with
  |true=>exact bKt p b
  |false=>exact aGj p bs
def aGk (e:AP)(x:List Int×Bool)(y:List Int×Int×Bool):Int×Bool:=
 bif !x.2||(!y.2.2||(y.2.1 !=(x.1.length:Int)||(y.1.getD 0 0 !=e.Epoch|| !bZ (y.1.getD 1 0)))) then(0,false) else(y.1.getD 1 0,true)
def eY (s:AJ)(e:AP):Int×Bool:=aGk e (lH e.Boxes (jQ s)) (lI (lH e.Boxes (jQ s)).1 0 2)
theorem and_one {n:Int}(h0:0<=n)(h1:n<9223372036854775808):rT .i64 n 1=n%2:=by
 obtain⟨m,rfl⟩:=ey h0;have e:((BitVec.ofInt 64 (m:Int))&&&(BitVec.ofInt 64 1)).toNat=m%2:=by
  rw[BitVec.toNat_and];have a:(BitVec.ofInt 64 (m:Int)).toNat=m:=by grind
  have b:(BitVec.ofInt 64 1).toNat=2^1-1:=by decide
  rw[a,b,ga]
 show IntKind.i64.wrap (((BitVec.ofInt 64 (m:Int))&&&(BitVec.ofInt 64 1)).toNat:Int)=_
 grind[aJ]
theorem bNd {n:Int}(h0:0<=n):Ri .i64 n 1=n/2:=by unfold Ri;rw[show min (Int.toNat 1) IntKind.i64.bits=1 from by decide,gl _ (by decide)];rfl
def bP8:Nat->Int->Int->Int->Int
 |0,_,_,s=>s
 |k+1,b,n,s=>if n>0 then bP8 k ((IntKind.i64.wrap (b*b)).tmod 2147483647) (n/2) (bif n%2==1 then(IntKind.i64.wrap (s*b)).tmod 2147483647 else s) else s
def bNe:bP8 31 48271 2147483645 1=1899818559:=by decide+kernel
def iJ (q:Int):Int:=bif !bZ q then 0 else q*1899818559%2147483647
def Mg (p:Int)(l:List Int):Int:=bif !bZ p then 0 else bO p ([139,(l.length:Int)]++l)
def jB (q:Int)(l:List Int)(g:Int):Bool:=iJ q !=0&&Mg (iJ q) l==g
theorem N7 {α:Type}[Inhabited α]{l:List α}{i:Nat}(h0:0<i)(hi:i<l.length)(hl:l.length<=34359738368):aT l (IntKind.i64.wrap ((i:Int)-1))=some (l.getD (i-1) default):=by
 grind[List.getD,List.getElem?_eq_getElem,aJ,aL]
def yE (l:List AU)(i:Nat)(n:AU):Bool:= !bG n.Kind 1 5||(!bG n.aAH 0 1000000||(!bG n.Time 0 1000000||(decide (0<i)&&decide ((l.getD (i-1) default).Time>n.Time))))
def fB (m:AV):Bool:=decide (m.Notices.length<=30)&& !eF (yE m.Notices) 0 m.Notices
def iT (b:AN)(i:Nat)(n:A0):Bool:= !bG n.Id 0 (IntKind.i64.wrap (b.Next-1))||((decide (0<i)&&decide ((b.Open.getD (i-1) default).Id>=n.Id))||(!bG n.aAH 0 1000005|| !bG n.Until 0 1000005))
def dK (b:AN):Bool:=bG b.Next 0 1000000&&decide (b.Open.length<=16)&& !eF (iT b) 0 b.Open
def zA (a:AI)(i:Nat)(n:AZ):Bool:=(!bG n.Handle 0 1000000||((decide (0<i)&&decide ((a.Credentials.getD (i-1) default).Handle>=n.Handle))||(iJ n.Public==0|| !bG n.Counter 0 1000000)))||(a.Credentials.take i).any λq=>q.Public==n.Public
def bC (a:AI):Bool:=bG a.Id 0 1000000&&bG a.Minimum 1 3&&decide (a.Credentials.length<=8)&& !eF (zA a) 0 a.Credentials
def dG (e:AG):Int:=Rx [229,e.Index,e.Kind,e.Device,e.By,e.Previous]
def jN (l:List AG):Int:=bif (l.length:Int)==0 then 0 else dG (l.getD (l.length-1) default)
def pQ (l:List AG)(e:AG):Bool:=
 e.Index==(l.length:Int)&&(e.Previous==jN l&&((jM (aG l) e.By||((l.length:Int)==0&&e.By==e.Device))&&(jB e.By [dG e] e.Signature&&
  (bif e.Kind==2 then jM (aG l) e.Device&&decide (((aG l).length:Int)>1) else !jZ l e.Device&&(e.Kind==1&&(!jM (aG l) e.Device&&decide (((aG l).length:Int)<6)))))))
def bD (l:List AG):Bool:=bG (l.length:Int) 1 40&& !eF (λi e=> !pQ (l.take i) e) 0 l
theorem bTk {l:List Int}{x:Int}(h:jM l x=true):0<l.length:=by
 grind[jM]
def kC:List UInt8->List UInt8->List (List UInt8)
 |cur,[]=>[cur]
 |cur,b::r=>bif b==46 then cur::kC [] r else kC (cur++[b]) r
def bTl (s:List UInt8)(i:Nat):Lib.occAt s [46] i=decide (s[i]? =some 46):=by
 unfold Lib.occAt;cases h:s.drop i with
 |nil=>simp_all
 |cons b r=>
  have e:s[i]? =some b:=by have:=fx (xs:=s) (i:=i) (j:=0);simp_all
  grind
def aV5:∀(a cur r:List UInt8),(∀b∈a,b≠46)->kC cur (a++46::r)=(cur++a)::kC [] r
 |[],cur,r,_=>by simp[kC]
 |b::a,cur,r,h=>by
  have hb:(b==46)=false:=by simpa using h b (by simp)
  rw[cI,kC,hb,aa,aV5 a _ r (λx c=>h x (dx _ c))];simp
def aRu:∀(a cur:List UInt8),(∀b∈a,b≠46)->kC cur a=[cur++a]
 |[],cur,_=>by simp[kC]
 |b::a,cur,h=>by
  have hb:(b==46)=false:=by simpa using h b (by simp)
  rw[kC,hb,aa,aRu a _ (λx c=>h x (dx _ c))];simp
def bHs:∀(n:Nat) (s:List UInt8),s.length<n->Lib.splitK [46] 0 (Lib.count s [46]) s=kC [] s
 |0,s,h=>absurd h (Nat.not_lt_zero _)
 |n+1,s,h=>by
  rcases Lib.index_spec s [46] with⟨h1,h2⟩|⟨i,h1,h2,a,l⟩
  ·rw[Lib.count_miss h1,aRu s [] (λb hb e=>by
    obtain⟨j,hj,c⟩:=ib hb;have:=h2 j (by omega);rw[bTl,ab hj,c,e] at this;simp at this)];rfl
  ·rw[bTl] at a;have a:s[i]? =some 46:=by simpa using a
   have hi:i<s.length:=by
    rcases e8 i s.length with d|f
    ·exact d
    ·rw[fh f] at a;cases a
   rw[Lib.count_hit (by simp) h1,Nat.add_comm,Lib.splitK,h1];have k:((i:Int)== -1)=false:=by simp
   rw[k];simp only[bw,dz,aq,bc,co];rw[dk (by simp),bHs n (s.drop (i+1)) (by rw[cm];omega)];have es:s=s.take i++46::s.drop (i+1):=by
    have m:s[i]=46:=by rw[ab hi] at a;exact ao a
    rw[<-m,List.getElem_cons_drop hi,cF]
   conv=>rhs;rw[es]
   rw[aV5 (s.take i) [] _ (λb hb e=>by
    obtain⟨j,hj,c⟩:=ib hb;rw[bu] at hj;have:=l j (by omega);rw[bTl,ab (by omega)] at this;rw[fS] at c;rw[c,e] at this;simp at this)];simp
def bM (s:ByteArray):List ByteArray:=(kC [] s.data.toList).map λl=>⟨l.toArray⟩
def aV6 (s:ByteArray):mR s ⟨#[46]⟩=bM s:=by
 have h1:(mR s ⟨#[46]⟩).map (·.data.toList)=kC [] s.data.toList:=by rw[mR,Lib.splitB_data];exact bHs _ _ (eI _)
 unfold bM;rw[<-h1,gu]
 conv=>lhs;rw[<-List.map_id (mR s ⟨#[46]⟩)]
 congr 1
def aJ2 (b:Int):Bool:=bG b 97 122||bG b 48 57||b==45
def zN (s:ByteArray):Bool:=decide (1<=s.size)&&decide (s.size<=20)&& !((bU s).getD 0 0==45)&& !((bU s).getD (s.size-1) 0==45)&& !((bU s).any λb=> !aJ2 b)
def fV (s:ByteArray):Bool:=decide (s.size<=60)&& !((bM s).any λl=> !zN l)
def kD (s:ByteArray):(bU s).length=s.size:=by simp[bU,bf]
theorem bHt {s:ByteArray}{i:Nat}(h:i<s.size):aT (bU s) (i:Int)=some ((bU s)[i]'(by rw[kD];exact h)):=aL _
def ext_list (s:ByteArray)(a b:Nat):s.extract a b=⟨((s.data.toList.drop a).take (b-a)).toArray⟩:=by apply ByteArray.ext;apply jd.1;rw[Lib.extract_data]
def aGl:∀(s cur:List UInt8),(kC cur s).length<=s.length+1
 |[],_=>by simp[kC]
 |b::r,cur=>by
  rw[kC];cases b==46 with
  |true=>have:=aGl r [];simp;omega
  |false=>have:=aGl r (cur++[b]);simp at this ⊢;omega
def N8:∀(s cur:List UInt8) (l:List UInt8),l∈kC cur s->l.length<=cur.length+s.length
 |[],cur,l,h=>by simp[kC] at h;subst h;simp
 |b::r,cur,l,h=>by
  rw[kC] at h;cases hb:b==46 with
  |true=>
   rw[hb,ae] at h;rcases bg.1 h with rfl|h
   ·omega
   ·have:=N8 r [] l h;simp at this ⊢;omega
  |false=>rw[hb,aa] at h;have:=N8 r _ l h;simp at this ⊢;omega
def N9 (s:ByteArray):(bM s).length<=s.size+1:=by unfold bM;rw[bf];exact aGl _ _
def Fu (s l:ByteArray)(h:l∈bM s):l.size<=s.size:=by unfold bM at h;obtain⟨q,hq,rfl⟩:=cq.1 h;have:=N8 _ _ q hq;have h2:(⟨q.toArray⟩:ByteArray).size=q.length:=rfl;simp_all
theorem cCt (z:ByteArray):(z.toList==(⟨#[]⟩:ByteArray).toList)=decide (z.size=0):=by
 rw[ByteArray.toList_eq,ByteArray.toList_eq,fv];simp only[cT,cn];constructor
 ·intro h;show z.data.size=0;simp_all
 simp_all
def Fv:∀(s cur:List UInt8),(kC cur s).length=s.countP (·==46)+1
 |[],_=>rfl
 |b::r,cur=>by
  rw[kC,List.countP_cons];cases b==46 with
  |true=>rw[ae,aq,Fv r []];simp
  |false=>rw[aa,Fv r _];simp
def aRv (s:ByteArray):0<(bM s).length:=by simp[bf,Fv,bM]
def aCk (s:ByteArray):Bool:=(bU s).any λb=>b==46
theorem aZp (s:ByteArray):aCk s=decide (2<=(bM s).length):=by
 unfold aCk bM bU;rw[bf,Fv,List.any_map];have e:(λb:Int=>b==46)∘(λb:UInt8=>(b.toNat:Int))=λb:UInt8=>b==46:=by
  funext b;rw[fv];simp only[Function.comp,cT];constructor
  ·intro q;apply UInt8.toNat_inj.1;grind
  simp_all
 rw[e,fv,fm,cn];simp
def bP9 (s:ByteArray):ByteArray:=bif fV s then(bif (bM s).length==1 then s else tX ⟨#[46]⟩ ((bM s).drop ((bM s).length-2))) else⟨#[]⟩
def bYc {l:List ByteArray}(h:2<=l.length):∃a∈l,∃b∈l,tX ⟨#[46]⟩ (l.drop (l.length-2))=a++⟨#[46]⟩++b:=by
 have hl:(l.drop (l.length-2)).length=2:=by grind
 match hm:l.drop (l.length-2),hl with
 |[a,b],_=>refine⟨a,eo (i:=l.length-2) (by rw[hm];simp),b,eo (i:=l.length-2) (by rw[hm];simp),?_⟩;rw[show[a,b]=[a]++[b] from rfl,bV1 _ _ _ (by simp),bV0]
theorem O0 {s:ByteArray}(h:fV s=true):s.size<=60/\0<s.size:=by
 unfold fV at h;rw[ac,cn] at h;refine⟨h.1,Nat.pos_of_ne_zero λe=> ?_⟩
 have a:s.data.toList=[]:=cg e;have b:bM s=[⟨#[]⟩]:=by unfold bM;rw[a];rfl
 rw[b] at h;exact absurd h.2 (by decide)
theorem bW0 {s:ByteArray}(h:fV s=true):decide ((bP9 s).size=0)=false:=by
 have hs:=O0 h;have hp:=aRv s;unfold bP9;rw[h,ae];refine ay ?_;cases h1:(bM s).length==1 with
 |true=>grind
 |false=>
  rw[aa];have:(bM s).length≠1:=by simp_all
  obtain⟨a,_,b,_,e⟩:=bYc (l:=bM s) (by omega);rw[e,ByteArray.size_append,ByteArray.size_append];have:(⟨#[46]⟩:ByteArray).size=1:=rfl;omega
def lJ (s:ByteArray)(seed:Int):Bool:=fV s&&decide (2<=(bM s).length)&&bZ seed
def Yc (l:List AI)(i:Nat)(n:AI):Bool:= !bC n||(decide (0<i)&&decide ((l.getD (i-1) default).Id>=n.Id))
def cZ (s:AB):Bool:=lJ s.Name s.Book.Seed&&decide (s.Accounts.length<=8)&&dK s.Book&& !eF (Yc s.Accounts) 0 s.Accounts
def SOk (s:AB):Prop:=s.Name.size<=34359738368/\s.Accounts.length<=34359738368/\s.Book.Open.length<=34359738368/\∀a∈s.Accounts,a.Credentials.length<=34359738368
instance (s:AB):Decidable (SOk s):=inferInstanceAs (Decidable (_/\_))
def gM (name:ByteArray)(seed:Int):AB:=bif lJ name seed then⟨name,[],⟨seed,0,[]⟩,[]⟩ else⟨⟨#[]⟩,[],⟨0,0,[]⟩,[]⟩
def bKu (name:ByteArray)(seed:Int):decide ((gM name seed).Name.size=0)= !lJ name seed:=by
 unfold gM;cases h:lJ name seed with
 |false=>rfl
 |true=>
  grind[decide_eq_false,O0,fV,lJ]
def aB (i:Int):ByteArray:=bif i==0 then⟨#[98,97,110,107,46,99,111,109]⟩ else bif i==1 then⟨#[115,104,111,112,46,111,114,103]⟩ else⟨#[]⟩
def oK (i:Nat)(s:AB):Bool:= !cZ s|| !(s.Name.toList==(aB (i:Int)).toList)
def aK (w:AA):Bool:=bG w.Now 0 999900&&bG (w.Devices.length:Int) 1 6&&(w.Stolen.length:Int)==(w.Devices.length:Int)&&(w.Sites.length:Int)==2&&fB w.Mail&&bD w.aAF.Log&&bZ w.Seed&& !eF oK 0 w.Sites
def cA6 (w:AA):Prop:=WOk w/\w.Mail.Notices.length<=34359738368/\w.Hosts.length<=34359738368/\∀s∈w.Sites,SOk s
instance (w:AA):Decidable (cA6 w):=inferInstanceAs (Decidable (_/\_))
theorem aGm {α:Type}{g:α->Nat}{x:α}:∀{l:List α},x∈l->g x<=(l.map g).sum
 |y::r,h=>by
  rw[bn,dt];rcases bg.1 h with rfl|h
  ·omega
  ·have:=aGm (g:=g) h;omega
def SOk.of {s:AB}(h:s.sz<=1048576):SOk s:=by
 simp only[AB.sz] at h;refine⟨by omega,by omega,by omega,λa b=> ?_⟩
 grind[AI.sz,aGm]
def cA6.of {w:AA}(h:w.sz<=1048576):cA6 w:=by
 refine⟨WOk.of h,?_,?_,λs hs=>SOk.of ?_⟩
 all_goals grind[aGm,AB.sz,AA.sz]
abbrev Mh (a:List Int)(r:List (List Int)):Prop:=a.length+r.flatten.length<=68719476736/\r.length<=1099511627776
def iW (w:AA)(i:Int):Bool:=decide (0<=i)&&decide (i<w.Sites.length)
def eH (a b:AH):Bool:=decide (a.Site<b.Site)||(a.Site==b.Site&&decide (a.Handle<b.Handle))
def nJ (a:AH)(s h:Int):Bool:=decide (a.Site<s)||(a.Site==s&&decide (a.Handle<h))
def Gv (x e:AH):Bool:=decide (x.Version>e.Version)||(x.Version==e.Version&&x.Deleted)
def Cr (e x:AH):AH:=bif Gv x e then x else e
def dX:List AH->List AH->List AH
 |[],bs=>bs
 |a::xs,[]=>a::xs
 |a::xs,b::bs=>bif eH a b then a::dX xs (b::bs) else bif eH b a then b::dX (a::xs) bs else Cr a b::dX xs bs
termination_by xs bs=>xs.length+bs.length
def aCw (l:List AH)(i:Nat)(e:AH):Bool:= !bG e.Site 0 2147483646||(!bG e.Handle 0 1000000||(!bG e.Version 1 1000000||(decide ((i:Int)>0)&& !eH (l.getD (i-1) default) e)))
def aO (b:AF):Bool:=decide ((b.Entries.length:Int)<=20)&& !eF (aCw b.Entries) 0 b.Entries
def nT (a b:AF):AF×Bool:=bif aO a&&aO b then(bif aO ⟨dX a.Entries b.Entries⟩ then(⟨dX a.Entries b.Entries⟩,true) else(a,false)) else(a,false)
def uX (b:AF)(x:AH):AF:=bif decide (aP b x.Site x.Handle>=0) then⟨b.Entries.set (aP b x.Site x.Handle).toNat x⟩ else⟨b.Entries.takeWhile (λe=>nJ e x.Site x.Handle)++[x]++b.Entries.dropWhile (λe=>nJ e x.Site x.Handle)⟩
theorem Su {a b:AH}:eH a b=true↔a.Site<b.Site\/(a.Site=b.Site/\a.Handle<b.Handle):=by simp[eH]
def bKv {a x:AH}:nJ a x.Site x.Handle=eH a x:=rfl
theorem O1 {a b c:AH}(h:eH a b=true)(k:eH b c=true):eH a c=true:=by
 grind[Su]
def aGn {a b:AH}(h:eH a b=false)(k:eH b a=false):a.Site=b.Site/\a.Handle=b.Handle:=by
 grind[Su]
def aCl {a b c:AH}(h:a.Site=b.Site/\a.Handle=b.Handle):eH a c=eH b c:=by unfold eH;rw[h.1,h.2]
def aV7 {a b c:AH}(h:a.Site=b.Site/\a.Handle=b.Handle):eH c a=eH c b:=by unfold eH;rw[h.1,h.2]
def bHu {a b:AH}(h:a.Site=b.Site/\a.Handle=b.Handle):(Cr a b).Site=b.Site/\(Cr a b).Handle=b.Handle:=by
 grind[Gv,Cr]
def bW1 (a b:AH):Cr a b=a\/Cr a b=b:=by
 grind[Gv,Cr]
theorem fO (l:List AH):dX l []=l:=by cases l<;>rw[dX]
def nU (l:List AH):dX [] l=l:=by rw[dX]
def Gf:∀(n:Nat) (a b:List AH),a.length+b.length<=n->(dX a b).length<=a.length+b.length
 |_,[],b,_=>by rw[nU];simp
 |_,a::xs,[],_=>by rw[fO];simp
 |0,a::xs,b::bs,h=>by simp at h
 |n+1,a::xs,b::bs,h=>by
  simp only[aq] at h;rw[dX];cases eH a b with
  |true=>have:=Gf n xs (b::bs) (by simp only[aq];omega);simp only[ae,aq] at*;omega
  |false=>
   cases eH b a with
   |true=>have:=Gf n (a::xs) bs (by simp only[aq];omega);simp only[aa,ae,aq] at*;omega
   |false=>have:=Gf n xs bs (by omega);simp only[aa,aq] at*;omega
def aGo (a b:AH)(xs bs:List AH):dX (a::xs) (b::bs)=bif eH a b then a::dX xs (b::bs) else bif eH b a then b::dX (a::xs) bs else Cr a b::dX xs bs:=by rw[dX]
def srt (l:List AH):Prop:=l.Pairwise λa b=>eH a b=true
def bCm:∀(A:List AH) {b:AH} {bs:List AH},srt (b::bs)->dX (dX A [b]) bs=dX A (b::bs)
 |[],b,bs,h=>by
  rw[nU,nU];cases bs with
  |nil=>rw[fO]
  |cons c cs=>rw[dX,(dl.1 h).1 c (by simp),ae,nU]
 |a::xs,b,bs,h=>by
  have hc:=(dl.1 h).1;rw[aGo a b xs [],aGo a b xs bs];cases h1:eH a b with
  |true=>
   simp only[ae];cases bs with
   |nil=>rw[fO]
   |cons c cs=>rw[dX,O1 h1 (hc c (by simp)),ae,bCm xs h]
  |false=>
   cases h2:eH b a with
   |true=>
    simp only[ae,aa];rw[fO];cases bs with
    |nil=>rw[fO,fO]
    |cons c cs=>rw[dX,hc c (by simp),ae]
   |false=>
    simp only[aa];rw[fO];cases bs with
    |nil=>rw[fO,fO]
    |cons c cs=>rw[dX,aCl (bHu (aGn h1 h2)),hc c (by simp),ae]
def bNf:∀{l:List AH} {x y:AH},y∈dX l [x]->y∈l\/y=x
 |[],x,y,h=>by rw[nU] at h;simp at h;exact .inr h
 |a::xs,x,y,h=>by
  rw[dX] at h;cases h1:eH a x with
  |true=>
   rw[h1,ae] at h;rcases bg.1 h with rfl|h
   ·exact .inl (by simp)
   ·exact(bNf h).imp (λh=>by simp[h]) id
  |false=>
   rw[h1,aa] at h;cases h2:eH x a with
   |true=>
    rw[h2,ae,fO] at h;rcases bg.1 h with rfl|h
    ·exact .inr rfl
    ·exact .inl h
   |false=>
    rw[h2,aa,fO] at h;rcases bg.1 h with rfl|h
    ·rcases bW1 a x with e|e
     ·rw[e];exact .inl (by simp)
     ·exact .inr e
    ·exact .inl (by simp[h])
theorem bNg:∀{l:List AH} {x:AH},srt l->srt (dX l [x])
 |[],x,h=>by rw[nU];exact fL _ _
 |a::xs,x,h=>by
  obtain⟨c,hs⟩:=dl.1 h;rw[dX];cases h1:eH a x with
  |true=>
   rw[ae];refine dl.2 ⟨λy b=> ?_,bNg hs⟩;rcases bNf b with b|rfl
   ·exact c y b
   ·exact h1
  |false=>
   cases h2:eH x a with
   |true=>
    rw[aa,ae,fO];refine dl.2 ⟨λy b=> ?_,h⟩;rcases bg.1 b with rfl|b
    ·exact h2
    ·exact O1 h2 (c y b)
   |false=>rw[aa,aa,fO];have hk:=aGn h1 h2;refine dl.2 ⟨λy b=> ?_,hs⟩;rw[aCl (bHu hk),<-aCl hk];exact c y b
def aV8:∀(B A:List AH),srt B->B.foldl (λo x=>dX o [x]) A=dX A B
 |[],A,_=>by rw[fO];rfl
 |b::bs,A,h=>by rw[cU,aV8 bs _ (dl.1 h).2,bCm A h]
theorem bHv {α:Type}{p:α->Bool}:∀{l:List α} {i:Nat},lD p i l<0->∀y∈l,p y=false
 |[],i,_,y,a=>by simp at a
 |x::l,i,h,y,a=>by
  simp only[lD] at h;cases hp:p x with
  |true=>rw[hp,ae] at h;omega
  |false=>
   rw[hp,aa] at h;rcases bg.1 a with rfl|a
   ·exact hp
   ·exact bHv h y a
def aOq {α:Type}{p:α->Bool}:∀{l:List α} {i:Nat},0<=lD p i l->∃l1 e l2,l=l1++e::l2/\p e=true/\lD p i l=((i+l1.length:Nat):Int)
 |[],i,h=>by simp[lD] at h
 |x::l,i,h=>by
  simp only[lD] at h ⊢;cases hp:p x with
  |true=>exact⟨[],x,l,rfl,hp,by simp⟩
  |false=>rw[hp,aa] at h;obtain⟨l1,e,l2,h1,h2,a⟩:=aOq h;exact⟨x::l1,e,l2,by rw[h1];rfl,h2,by rw[aa,a];simp only[aq];omega⟩
theorem bNh:∀{l:List AH} {x:AH},(∀y∈l,(y.Site==x.Site&&y.Handle==x.Handle)=false)->dX l [x]=l.takeWhile (λe=>nJ e x.Site x.Handle)++[x]++l.dropWhile (λe=>nJ e x.Site x.Handle)
 |[],x,_=>by rw[nU];rfl
 |a::xs,x,h=>by
  rw[dX,cX,List.dropWhile_cons,bKv];cases h1:eH a x with
  |true=>simp only[ae,gS];rw[bNh (λy b=>h y (by simp[b]))];rfl
  |false=>
   cases h2:eH x a with
   |true=>simp only[aa,ae];rw[fO];rfl
   |false=>have:=aGn h1 h2;have:=h a (by simp);simp_all
def bNi {e x:AH}{l2:List AH}(he:(e.Site==x.Site&&e.Handle==x.Handle)=true):∀{l1:List AH},srt (l1++e::l2)->dX (l1++e::l2) [x]=l1++Cr e x::l2
 |[],_=>by
  have hk:e.Site=x.Site/\e.Handle=x.Handle:=by simpa using he
  have h1:eH e x=false:=by
   cases h:eH e x with
   |false=>rfl
   |true=>rw[Su] at h;omega
  have h2:eH x e=false:=by
   cases h:eH x e with
   |false=>rfl
   |true=>rw[Su] at h;omega
  rw[bo,dX,h1,aa,h2,aa,fO];rfl
 |a::l1,h=>by
  obtain⟨b,hs⟩:=dl.1 h;have hk:e.Site=x.Site/\e.Handle=x.Handle:=by simpa using he
  have h1:eH a x=true:=by rw[<-aV7 hk];exact b e (by simp)
  rw[cI,dX,h1,ae,bNi he hs];rfl
def bTm {l:List AH}{x:AH}(h:srt l):(bif (decide (aP ⟨l⟩ x.Site x.Handle<0)||Gv x (l.getD (aP ⟨l⟩ x.Site x.Handle).toNat default)) then(uX ⟨l⟩ x).Entries else l)=dX l [x]:=by
 unfold uX;by_cases b:aP ⟨l⟩ x.Site x.Handle<0
 ·grind[bNh,bHv,decide_eq_true,decide,aP,decide_eq_false]
 ·obtain⟨l1,e,l2,h1,h2,c⟩:=aOq (show 0<=lD (λe=>e.Site==x.Site&&e.Handle==x.Handle) 0 l from by unfold aP at b;simp only at b;omega);have a:aP ⟨l⟩ x.Site x.Handle=(l1.length:Int):=by grind[aP]
  rw[a,ay (by omega),cC,show decide ((l1.length:Int)>=0)=true from au (by omega),ae,bw];subst h1;rw[bNi h2 h];have g:(l1++e::l2).getD l1.length default=e:=by simp
  have st:(l1++e::l2).set l1.length x=l1++x::l2:=by simp
  rw[g];show(bif Gv x e then(l1++e::l2).set l1.length x else l1++e::l2)=_;rw[st];unfold Cr;cases Gv x e<;>rfl
theorem bNj {α:Type}{p:Nat->α->Bool}:∀{l:List α} {j:Nat},eF p j l=false->∀(i:Nat) (hi:i<l.length),p (j+i) l[i]=false
 |[],j,_,i,hi=>by simp at hi
 |x::l,j,h,i,hi=>by
  simp only[eF,bp] at h;cases i with
  |zero=>exact h.1
  |succ i=>have:=bNj h.2 i (by simpa using hi);rw[show j+(i+1)=j+1+i by omega];exact this
def bEz {b:AF}(h:aO b=true):b.Entries.length<=20/\srt b.Entries:=by
 simp only[aO,ac,cn,cj] at h;refine⟨by omega,?_⟩;have adj:∀i (hi:i+1<b.Entries.length),eH b.Entries[i] b.Entries[i+1]=true:=(by grind[bNj,aCw,Bool.or_eq_false_iff,decide_eq_true,default,Nat.add_sub_cancel,List.getD,List.getElem?_eq_getElem]);have far:∀d i (hi:i+d+1<b.Entries.length),eH b.Entries[i] b.Entries[i+d+1]=true:=λd=>by
  induction d<;>grind[O1]
 refine eh.2 λi j hi hj a=> ?_;obtain⟨d,rfl⟩:∃d,j=i+d+1:=⟨j-i-1,by omega⟩;simp[*]
theorem eO {α β:Type}{s:List α}(hs:s.length<=34359738368)(x:α)(k:Option β):gd (aS s [x]) k=k:=(by grind[aA,aS,List.length_singleton])
theorem Bt {α β:Type}{s:List α}(hs:s.length<=34359738368)(k:Option β):gd (aS [] s) k=k:=(by grind[aA,aS,List.length_nil])
def bHw {α:Type}{l s:List α}:l.foldl (λs x=>s++[x]) s=s++l:=by have:=aOo (f:=λx:α=>[x]) (l:=l) (s:=s);rw[this];congr 1;induction l<;>simp_all
def aRw {α:Type}{l:List α}{F:(Nat×List α->Option (List α))->Nat×List α->Option (List α)}(hl:l.length<=34359738368)
  (a:∀rec i s (hi:i<l.length),s.length<=34359738368->F rec (i,s)=rec (i+1,s++[l[i]])) (b:∀rec s,F rec (l.length,s)=some s):EV.bI FUEL F (0,[])=some l:=by
 rw[bCj (l:=l) (λs x=>s++[x]) (λi s=>s.length=i) (λs=>some s) (by omega) rfl (by simp) (by grind) (by simp[*]),bHw,bo]
def bYd {α:Type}{l:List α}{F:(List α×Nat->Option (List α))->List α×Nat->Option (List α)}(hl:l.length<=34359738368)
  (a:∀rec i s (hi:i<l.length),s.length<=34359738368->F rec (s,i)=rec (s++[l[i]],i+1)) (b:∀rec s,F rec (s,l.length)=some s):EV.bI FUEL F ([],0)=some l:=by
 rw[jA (l:=l) (λs x=>s++[x]) (λi s=>s.length=i) (λs=>some s) (by omega) rfl (by simp) (by grind) (by simp[*]),bHw,bo]
abbrev uY {α:Type}(f:α->Nat)(l:List α):Nat:=l.length+(l.map f).sum
theorem iD {S τ:Type}{F:(S->Option τ)->S->Option τ}{n:Nat}{s:S}:EV.bI (n+1) F s=F (EV.bI n F) s:=rfl
def Mi {α:Type}{c:Bool}{x y:α}:(bif c then some x else some y)=some (bif c then x else y):=by cases c<;>rfl
theorem nK {c d:Bool}:(bif c then some true else some d)=some (c||d):=by cases c<;>rfl
def aV9 {α:Type}[Inhabited α]{l:List α}{i:Nat}(h:i<l.length):l.set i (l.getD i default)=l:=by simp[*]
theorem sI {α:Type}{p:Nat->α->Bool}:∀(l:List α) (j:Nat),eF p j l=true↔∃(i:Nat) (hi:i<l.length),p (j+i) l[i]=true
 |[],j=>by simp[eF]
 |x::xs,j=>by
  simp only[eF,cu,sI xs];constructor
  ·rintro(h|⟨i,hi,h⟩)
   ·exact⟨0,by simp,h⟩
   ·exact⟨i+1,by simpa using hi,by rw[show j+(i+1)=j+1+i by omega];exact h⟩
  grind
theorem aGp {α:Type}{p:Nat->α->Bool}{l:List α}:eF p 0 l=false↔∀(i:Nat) (hi:i<l.length),p i l[i]=false:=by
 grind[eF,sI]
def bW3 {α:Type}{τ:Type}{l:List α}(p:α->Bool)(a b:τ)(i:Nat)(hi:i<=l.length)(h:l.length<=34359738368){F:(Nat->Option τ)->Nat->Option τ}(c:∀rec j (hj:j<i),F rec j=bif p (l[j]'(by omega)) then some a else rec (j+1))(d:∀rec,F rec i=some b):
  EV.bI FUEL F 0=some (bif (l.take i).any p then a else b):=by
 have ht:(l.take i).length=i:=by simp[*]
 exact mJ (l:=l.take i) p _ _ (by omega) (by simp_all) (by simp[*])
def bW4 {α β:Type}{l:List α}(f:α->β){F:(List β×Nat->Option (List β))->List β×Nat->Option (List β)}(hl:l.length<=34359738368)
  (a:∀rec i s (hi:i<l.length),s.length<=34359738368->F rec (s,i)=rec (s++[f l[i]],i+1)) (b:∀rec s,F rec (s,l.length)=some s):EV.bI FUEL F ([],0)=some (l.map f):=by
 rw[jA (l:=l) (λs x=>s++[f x]) (λi s=>s.length=i) (λs=>some s) (by omega) rfl (by simp) (by grind) (by simp[*]),aOp,bo]
def cCv {α β:Type}{l:List α}(f:α->β){s0:List β}{F:(List β×Nat->Option (List β))->List β×Nat->Option (List β)}(hl:s0.length+l.length<=34359738368)
  (a:∀rec i s (hi:i<l.length),s.length<=34359738368->F rec (s,i)=rec (s++[f l[i]],i+1)) (b:∀rec s,F rec (s,l.length)=some s):EV.bI FUEL F (s0,0)=some (s0++l.map f):=by
 rw[jA (l:=l) (λs x=>s++[f x]) (λi s=>s.length=s0.length+i) (λs=>some s) (by omega) (by simp) (by simp at*;omega) (by grind) (by simp[*]),aOp]
def fE (h:AC)(b:Int):AC×Bool:=bif decide (b<0)||decide (b>=(h.Saved.length:Int)) then(h,false) else(⟨h.Saved.getD (h.Saved.length-1-b.toNat) default,h.Saved,h.Monotonic⟩,true)
def gI (w:AA)(i b:Int):AA×Bool:=bif !aK w||(decide (i<0)||decide (i>=(w.Hosts.length:Int))) then(w,false) else bif (fE (w.Hosts.getD i.toNat default) b).2 then({w with Hosts:=w.Hosts.set i.toNat (fE (w.Hosts.getD i.toNat default) b).1},true) else(w,false)
theorem aJ3 {i:Int}{n:Nat}(h:n<=34359738368):(!bG i 0 (IntKind.i64.wrap ((n:Int)-1)))=(decide (i<0)||decide (i>=(n:Int))):=by
 grind[decide_eq_false,decide_eq_true,bG,aJ]
theorem oL {α:Type}[Inhabited α]{l:List α}{i:Int}(h0:0<=i)(h1:i<(l.length:Int)):aT l i=some (l.getD i.toNat default):=by
 grind[List.getD,List.getElem?_eq_getElem,jP]
theorem Gw {i:Int}{n:Nat}(h:(decide (i<0)||decide (i>=(n:Int)))=false):0<=i/\i<(n:Int):=by simp_all
theorem Fw {α:Type}[Inhabited α]{f:α->Nat}{l:List α}{i:Nat}(h:i<l.length):f (l.getD i default)<=(l.map f).sum:=by
 grind[kM,List.getD,List.getElem?_eq_getElem]
def bHx (h:AC)(b:Int):(fE h b).1.sz=h.sz:=by unfold fE;cases(decide (b<0)||decide (b>=(h.Saved.length:Int)))<;>rfl
def bTn {α:Type}[BEq α][ReflBEq α]{r:α}:(!r==r)=false:=by simp
def Lp (l:List AX)(i:Nat)(s:AX):Bool:= !bG s.Index 1 7||(!bG s.Value 0 1018||(l.take i).any λq=>q.Index==s.Index)
def Bu (l:List AX):Bool:=bG (l.length:Int) 1 7&& !eF (Lp l) 0 l
def aRx (x:Int)(z v:Int):Int:=(IntKind.i64.wrap (IntKind.i64.wrap (v+cO z 1019)*x)).tmod 1019
def Gx (c:Int)(l:List Int)(x:Int):Int:=(l.foldr (aRx x) 0+cO c 1019)%1019
def bKw (c:List Int)(s:AX):AX:=⟨s.Index,(IntKind.i64.wrap (s.Value+Gx 0 c s.Index)).tmod 1019⟩
def kE (l:List AX)(c:List Int):List AX:=bif Bu l then l.map (bKw c) else[]
def cS (l:List AX)(i:Nat)(k:Int):Bool:=(l.take i).any λq=>q.Index==k
def cEr {l:List AX}{i:Nat}{k:Int}(hi:i<l.length):cS l (i+1) k=(cS l i k||l[i].Index==k):=by
 grind[List.take_add_one,List.getElem?_eq_getElem,cS]
def bHy {x z v:Int}(a:0<=x/\x<=1000)(hv:0<=v/\v<1019):0<=aRx x z v/\aRx x z v<1019:=by
 have hm:=nP (p:=z) (q:=1019) (by omega);unfold aRx;generalize cO z 1019=m at*;have b:IntKind.i64.wrap (v+m)=v+m:=(by grind[aJ]);have h2:0<=(v+m)*x:=jn (by omega) a.1;have c:(v+m)*x<=3000*1000:=Int.mul_le_mul (by omega) a.2 a.1 (by omega)
 grind[Int.tmod_nonneg,Int.tmod_lt_of_pos,aJ]
def aGq {x:Int}(a:0<=x/\x<=1000):∀l:List Int,0<=l.foldr (aRx x) 0/\l.foldr (aRx x) 0<1019
 |[]=>by simp
 |z::l=>bHy a (aGq a l)
def bHz {σ τ:Type}{l:List Int}(g:Int->σ->σ){s0:σ}(fin:σ->Option τ){F:(σ×Int->Option τ)->σ×Int->Option τ}(hl:l.length<=34359738368)
  (a:∀rec s i (hi:i<l.length),F rec (s,(i:Int))=rec (g l[i] s,(i:Int)-1)) (b:∀rec s,F rec (s,-1)=fin s) {n0:Int} (hn:n0=(l.length:Int)-1):EV.bI FUEL F (s0,n0)=fin (l.foldr g s0):=by
 subst hn;refine Lm (λk s=>k<=l.length/\s=((l.drop (l.length-k)).foldr g s0,(l.length:Int)-1-k)) l.length _ (by omega) ⟨by omega,by simp⟩ (λk s rec hk hv=> ?_) (λs rec hv=> ?_)
 ·obtain⟨_,rfl⟩:=hv;refine .inl ⟨_,⟨hk,rfl⟩,?_⟩
  grind[List.drop_eq_getElem_cons]
 grind
def aWa {c d:Bool}:(bif c then some d else some false)=some (c&&d):=by cases c<;>rfl
def jW (k:A3):Bool:=Bu [k.aAP]&&(bG k.Epoch 0 1000000&&(bG k.Limit 1 10&&bG k.Guesses 0 k.Limit))
def kF (h:AC)(s:AX):Bool:= !jW h.State||(decide (pO h.State<h.Monotonic)||(h.State.Epoch==1000000||(s.Index !=h.State.aAP.Index|| !Bu [s])))
def Bv (h:AC)(s:AX):AC:=⟨⟨s,IntKind.i64.wrap (h.State.Epoch+1),0,h.State.Limit⟩,h.Saved,pO ⟨s,IntKind.i64.wrap (h.State.Epoch+1),0,h.State.Limit⟩⟩
def aGr (h:AC)(s:AX):AC×Bool:=bif kF h s then(h,false) else(Bv h s,true)
def bKx (hs:List AC)(a:List AX):List AC×Bool:=bif ((a.length:Int)==0)||(hs.zip a).any (λp=>kF p.1 p.2) then(hs,false) else(List.zipWith Bv hs a,true)
def fG (hs:List AC)(c:List Int):List AC×Bool:=bKx hs (kE (hs.map λh=>h.State.aAP) c)
def aJ4 (w:AA):Nat->Int->List Int
 |0,_=>[]
 |n+1,k=>bif decide (k<w.aAO.Threshold)&&decide (k<=7) then aV w.Seed [317,w.Now,k]::aJ4 w n (k+1) else[]
def aWb (w:AA):List Int:=aJ4 w 8 1
def fH (w:AA):AA×Bool:=bif aK w&&(fG w.Hosts (aWb w)).2 then({w with Hosts:=(fG w.Hosts (aWb w)).1},true) else(w,false)
def aOr (w:AA):∀(n:Nat) (k:Int),(aJ4 w n k).length<=n
 |0,_=>ak _
 |n+1,k=>by
  unfold aJ4;cases(decide (k<w.aAO.Threshold)&&decide (k<=7)) with
  |true=>have:=aOr w n (k+1);simp only[ae,aq];omega
  |false=>simp
def bH0 (l:List AX)(c:List Int):(kE l c).length<=l.length:=by unfold kE;cases Bu l<;>simp
def bH1 {l:List AX}{c:List Int}(h:((kE l c).length:Int)≠0):(kE l c).length=l.length:=by
 grind[Bu,kE]
def bTo (b:AF)(s h:Int):Int:=bif decide (aP b s h>=0) then IntKind.i64.wrap ((b.Entries.getD (aP b s h).toNat default).Version+1) else 1
def wK (b:AF)(s h:Int):AH:=⟨s,h,bTo b s h,false⟩
def aWc (b:AF)(s h:Int):AF×Bool:=bif !(decide (aP b s h>=0)&& !(b.Entries.getD (aP b s h).toNat default).Deleted)&&(aO b&&aO (uX b (wK b s h))) then(uX b (wK b s h),true) else(b,false)
def bH2 (b:AF)(s h:Int):AH:=⟨s,h,IntKind.i64.wrap ((b.Entries.getD (aP b s h).toNat default).Version+1),true⟩
def aWd (b:AF)(s h:Int):AF×Bool:=bif !aO b||(decide (aP b s h<0)||((b.Entries.getD (aP b s h).toNat default).Deleted||(b.Entries.getD (aP b s h).toNat default).Version==1000000)) then(b,false) else(uX b (bH2 b s h),true)
def Fx (d:AD)(n:ByteArray)(h:Int)(rm:Bool):AF×Bool:=bif rm then aWd d.aAE (dL n) h else aWc d.aAE (dL n) h
def bN (d:AD)(n:ByteArray)(h:Int)(rm:Bool):AD×Bool:=bif (Fx d n h rm).2 then({d with aAE:=(Fx d n h rm).1},true) else(d,false)
def pR (w:AA)(d:Int)(n:ByteArray)(h:Int)(rm:Bool):AA×Bool:=bif aK w&&aM w d then(bif (bN (aR w d) n h rm).2 then({w with Devices:=w.Devices.set d.toNat (bN (aR w d) n h rm).1},true) else(w,false)) else(w,false)
def bNk (b:List Int):(E9 b).length=b.length+1:=by simp[E9,Nat.add_comm]
def aUr (l:List Int):List.map (λ(n:Int)=>n) l=l:=List.map_id l
theorem bQa (hs:List AC):∀(a:List AX),(List.zipWith Bv hs a).length<=hs.length/\((List.zipWith Bv hs a).map AC.sz).sum<=(hs.map AC.sz).sum:=by
 induction hs with
 |nil=>simp
 |cons h hs b=>
  intro a;cases a with
  |nil=>simp
  |cons s a=>have:=b a;have e:(Bv h s).sz=h.sz:=rfl;simp_all
theorem aE4 (hs:List AC)(c:List Int):(fG hs c).1.length<=hs.length/\((fG hs c).1.map AC.sz).sum<=(hs.map AC.sz).sum:=by
 grind[kF,bQa,kE,fG,bKx]
def aZq (w:AA):(fH w).1.sz<=w.sz:=by
 grind[aK,fG,aWb,AA.sz,aE4,fH]
theorem bH3 (b:AF)(x:AH):(uX b x).Entries.length<=b.Entries.length+1:=by
 grind[decide,aP,List.length,List.takeWhile_append_dropWhile,nJ,List.length_append,List.length_singleton,uX]
theorem bW5 (b:AF)(s h:Int):(aWc b s h).1.Entries.length<=b.Entries.length+1:=by
 grind[decide,aP,default,aO,uX,wK,bH3,aWc]
theorem bW6 (b:AF)(s h:Int):(aWd b s h).1.Entries.length<=b.Entries.length+1:=by
 grind[aO,decide,aP,default,bH3,bH2,aWd]
theorem Sw (d:AD)(n:ByteArray)(h:Int)(rm:Bool):(bN d n h rm).1.sz<=d.sz+1:=by
 grind[Fx,AD.sz,bW6,bW5,bN]
def iG (c:AR)(b:Int):AK×Bool:=bif decide (b<0)||decide (b>=(c.History.length:Int)) then(⟨0,0,[],0⟩,false) else(c.History.getD (c.History.length-1-b.toNat) default,true)
def bKy (a b:AG):Bool:=a.Index==b.Index&&(a.Kind==b.Kind&&(a.Device==b.Device&&(a.By==b.By&&(a.Previous==b.Previous&&(a.Signature==b.Signature&&true)))))
def dR (a b:List AG):Bool:=decide (b.length<=a.length)&& !eF (λi e=> !bKy (a.getD i default) e) 0 b
def lK (k:Int)(b:AK):Int:=bO k ([227,b.Epoch,b.Version]++E9 b.Data)
def qH (k e v:Int):Int:=aV k [223,e,v]
def uvE:Nat->Int->List Int
 |0,n=>[n]
 |k+1,n=>bif decide (n>127) then(n%128+128)::uvE k (n/128) else[n]
theorem bE0:∀(k:Nat) (n:Int),1<=(uvE k n).length/\(uvE k n).length<=k+1
 |0,n=>by simp[uvE]
 |k+1,n=>by
  have:=bE0 k (n/128);unfold uvE;cases decide (n>127)<;>simp<;>omega
def bW7 {k:Nat}{z:Int}(h:z<=127):uvE k z=[z]:=by cases k<;>grind[uvE,decide_eq_false]
def bNl:∀(k:Nat) (m n:Int) (x y:List Int),0<=m->0<=n->uvE k m++x=uvE k n++y->m=n/\x=y
 |0,m,n,x,y,_,_,h=>by simpa[uvE] using h
 |k+1,m,n,x,y,h0,h1,h=>by
  unfold uvE at h;by_cases hm:m>127<;>by_cases hn:n>127
  ·simp only[au hm,au hn,ae,cI,fq] at h;have:=bNl k (m/128) (n/128) x y (by omega) (by omega) h.2;exact⟨by omega,this.2⟩
  ·simp only[au hm,ay hn,ae,aa,cI,fq] at h;omega
  ·simp only[ay hm,au hn,ae,aa,cI,fq] at h;omega
  ·simpa only[ay hm,ay hn,aa,cI,bo,fq] using h
def bH4 {F:(Int×List Int->Option (Int×List Int))->Int×List Int->Option (Int×List Int)}
  (a:∀rec (n:Int) (s:List Int),0<=n->n<9223372036854775807->s.length<=34359738368->F rec (n,s)=bif decide (n>127) then rec (n/128,s++[n%128+128]) else some (n,s)):
  ∀(k:Nat) (n:Int) (s:List Int) (f:Nat),k<f->0<=n->n<128^(k+1)->k<=6->s.length+k<=34359738368->∃m q,EV.bI f F (n,s)=some (m,q)/\q++[m]=s++uvE k n/\0<=m/\m<=127
 |0,n,s,f+1,b,h0,h1,_,hs=>by
  refine⟨n,s,?_,rfl,h0,by simp at h1;omega⟩;rw[iD,a _ _ _ h0 (by simp at h1;omega) (by omega),ay (by simp at h1;omega)];rfl
 |k+1,n,s,f+1,b,h0,h1,hk,hs=>by
  have h2:(128:Int)^(k+1+1)=128*128^(k+1):=by rw[gj];omega
  have h:(128:Int)^(k+1+1)<=128^8:=by exact_mod_cast gC (by omega) (by omega)
  have i:(128:Int)^8=72057594037927936:=by decide
  rw[iD,a _ _ _ h0 (by omega) (by omega)];unfold uvE;by_cases hn:n>127
  ·rw[au hn,ae,ae];obtain⟨m,q,c,d,e⟩:=bH4 a k (n/128) (s++[n%128+128]) f (by omega) (by omega) (by omega) (by omega) (by simp;omega);exact⟨m,q,c,by rw[d];simp,e⟩
  ·rw[ay hn,aa,aa];exact⟨n,s,rfl,rfl,h0,by omega⟩
theorem bW8 {n:Int}(h0:0<=n)(h1:n<9223372036854775808):rT .i64 n 127=n%128:=by
 obtain⟨m,rfl⟩:=ey h0;have e:((BitVec.ofInt 64 (m:Int))&&&(BitVec.ofInt 64 127)).toNat=m%128:=by
  rw[BitVec.toNat_and];have a:(BitVec.ofInt 64 (m:Int)).toNat=m:=by grind
  have b:(BitVec.ofInt 64 127).toNat=2^7-1:=by decide
  rw[a,b,ga]
 show IntKind.i64.wrap (((BitVec.ofInt 64 (m:Int))&&&(BitVec.ofInt 64 127)).toNat:Int)=_
 grind[aJ]
theorem cA7 {n:Int}(h0:0<=n)(h1:n<128):orI .i64 n 128=n+128:=by
 obtain⟨m,rfl⟩:=ey h0;have e:((BitVec.ofInt 64 (m:Int))|||(BitVec.ofInt 64 128)).toNat=m+128:=by
  rw[BitVec.toNat_or];have a:(BitVec.ofInt 64 (m:Int)).toNat=m:=by grind
  have c:(BitVec.ofInt 64 128).toNat=1<<<7:=by decide
  have:=je (b:=m) (i:=7) (by omega) 1
  grind
 show IntKind.i64.wrap (((BitVec.ofInt 64 (m:Int))|||(BitVec.ofInt 64 128)).toNat:Int)=_
 grind[aJ]
theorem cCw {n:Int}(h0:0<=n):Ri .i64 n 7=n/128:=by unfold Ri;rw[show min (Int.toNat 7) IntKind.i64.bits=7 from by decide,gl _ (by decide)];rfl
theorem aWf {n:Int}(h0:0<=n)(h1:n<=255):IntKind.u8.wrap n=n:=by rw[IntKind.wrap_u8];omega
def enc1 (n:Int):List Int:=bif bG n 0 1000000000000 then uvE 5 n else[]
def Rn (b:List Int)(n:Int):List Int:=b++enc1 n
def mV (l:List Int):List Int:=(l.map enc1).flatten
theorem aWg (n:Int):(enc1 n).length<=6:=by have:=(bE0 5 n).2;unfold enc1;cases bG n 0 1000000000000<;>simp<;>omega
theorem bE1 {n:Int}(h:0<=n/\n<=1000000000000):enc1 n=uvE 5 n:=by
 grind[decide_eq_true,enc1,bG]
theorem Gg (n:Int)(l:List Int):mV (n::l)=enc1 n++mV l:=rfl
theorem aJ5:∀l:List Int,(mV l).length<=6*l.length
 |[]=>by simp[mV]
 |n::l=>by
  have:=aJ5 l
  grind[Gg,List.length_append,List.length_cons,aWg]
def bH5 (l:List Int):Prop:=∀v∈l,0<=v/\v<=(1000000000000:Int)
theorem bH6:∀(s t x y:List Int),bH5 s->bH5 t->s.length=t.length->mV s++x=mV t++y->s=t/\x=y
 |[],[],x,y,_,_,_,h=>⟨rfl,h⟩
 |m::s,n::t,x,y,hs,ht,hl,h=>by
  have hm:=hs m (by simp);have hn:=ht n (by simp);rw[Gg,Gg,cw,cw,bE1 hm,bE1 hn] at h;obtain⟨h1,h2⟩:=bNl 5 m n _ _ hm.1 hn.1 h;obtain⟨a,b⟩:=bH6 s t x y (λv hv=>hs v (by simp[hv])) (λv hv=>ht v (by simp[hv])) (by simpa using hl) h2;exact⟨by rw[h1,a],b⟩
theorem bNm {b:List Int}(hb:aU b){p:Nat}:∀(k i:Nat) (n m e:Int),uvG b p (k+1) i n=(m,e,true)->∃(r:Int) (q:Nat),(0<=r/\m=n+r*128^i/\m<=1000000000000/\e=(q:Int)/\q<=b.length/\(0<i->r≠0))/\b.drop (p+i)=uvE k r++b.drop q
 |k,i,n,m,e,h=>by
  unfold uvG at h;by_cases a:p+i<b.length
  ·rw[cR a] at h;have l:=zM hb a;have hg:b.getD (p+i) 0=b[p+i]:=by simp[List.getD,ab a]
   rw[hg] at h;have hd:b.drop (p+i)=b[p+i]::b.drop (p+i+1):=cE a;generalize b[p+i]=z at l h hd;by_cases c:z<128
   ·rw[au c,ae] at h;have d:z%128=z:=by omega
    rw[d] at h;cases hc:(decide (0<i)&&z==0)||decide (n+z*128^i>1000000000000) with
    |true=>rw[hc] at h;simp at h
    |false=>rw[hc,aa] at h;rw[bp] at hc;have h1:=of_decide_eq_false hc.2;injection h with f j;injection j with j w;refine⟨z,p+i+1,⟨l.1,f.symm,by omega,j.symm,by omega,λhi h0=> ?_⟩,by rw[hd,bW7 (by omega)];rfl⟩;subst h0;simp[hi] at hc
   ·rw[ay c,aa] at h
    match k,h with
    |0,h=>simp[uvG] at h
    |k+1,h=>
     obtain⟨r,q,⟨h1,h2,o,s,t,u⟩,v⟩:=bNm hb k (i+1) _ m e h;have hr:=u (by omega);refine⟨z%128+128*r,q,⟨by omega,?_,o,s,t,λ_=>by omega⟩,?_⟩
     ·rw[h2,gj,Int.add_mul,<-Int.add_assoc];congr 1;rw[gx 128 r,gm,gx 128]
     ·rw[hd,show p+i+1=p+(i+1) from by omega,v];have f:uvE (k+1) (z%128+128*r)=z::uvE k r:=by rw[uvE,au (show z%128+128*r>127 by omega),ae,show(z%128+128*r)%128+128=z by omega,show(z%128+128*r)/128=r by omega]
      rw[f];rfl
  ·rw[dk a] at h;simp at h
def bE2 {b:List Int}(hb:aU b){a m e:Int}(h:Rw b a=(m,e,true)):∃q:Nat,(0<=a/\0<=m/\m<=1000000000000/\e=(q:Int)/\q<=b.length)/\b.drop a.toNat=enc1 m++b.drop q:=by
 grind[bNm,bE1,Rw]
def O3 {b:List Int}(hb:aU b):∀(k:Nat) (a:Int) (s v:List Int) (e:Int),0<=a->a<=b.length->nH b k a s=(v,e,true)->∃(t:List Int) (q:Nat),(v=s++t/\t.length=k/\e=(q:Int)/\q<=b.length/\bH5 t)/\b.drop a.toNat=mV t++b.drop q
 |0,a,s,v,e,h0,h1,h=>by
  unfold nH at h;injection h with i d;injection d with d _;exact⟨[],a.toNat,⟨by simp[i],rfl,by omega,by omega,λv hv=>by simp at hv⟩,rfl⟩
 |k+1,a,s,v,e,h0,h1,h=>by
  unfold nH at h;cases f:Rw b a with
  |mk m r=>
   obtain⟨e',ok⟩:=r;rw[f] at h;cases ok with
   |false=>simp at h
   |true=>
    obtain⟨q,⟨p,j,l,n,u⟩,o⟩:=bE2 hb f;subst n;obtain⟨t,q',⟨k1,k2,k3,k4,k5⟩,k6⟩:=O3 hb k (q:Int) (s++[m]) v e (by omega) (by omega) h;refine⟨m::t,q',⟨by rw[k1];simp,by simp[k2],k3,k4,λx c=> ?_⟩,by rw[o,Gg,cw];congr 1⟩;rcases bg.1 c with rfl|c
    ·exact⟨j,l⟩
    ·exact k5 x c
def aWh {b:List Int}:∀(j k:Nat) (a:Int) (s:List Int),nH b (j+k) a s=bif (nH b j a s).2.2 then nH b k (nH b j a s).2.1 (nH b j a s).1 else([],0,false)
 |0,k,a,s=>by rw[co];rfl
 |j+1,k,a,s=>by
  have e:∀m,nH b (m+1) a s=bif (Rw b a).2.2 then nH b m (Rw b a).2.1 (s++[(Rw b a).1]) else([],0,false):=λ_=>rfl;rw[show j+1+k=j+k+1 by omega,e,e];cases(Rw b a).2.2 with
  |false=>rfl
  |true=>exact aWh j k _ _
def aWi {b:List Int}:∀(k:Nat) (a:Int) (s:List Int),nH b k a s=bif (nH b k a []).2.2 then(s++(nH b k a []).1,(nH b k a []).2.1,true) else([],0,false)
 |0,a,s=>by simp[nH]
 |k+1,a,s=>by
  unfold nH;cases(Rw b a).2.2 with
  |false=>rfl
  |true=>simp only[ae,bo];rw[aWi k _ (s++[(Rw b a).1]),aWi k _ [(Rw b a).1]];cases(nH b k (Rw b a).2.1 []).2.2<;>simp
def bH7 (e:AH):List Int:=[e.Site,e.Handle,e.Version,bif e.Deleted then 1 else 0]
def qI:List Int->List AH
 |s::h::v::d::r=>⟨s,h,v,d==1⟩::qI r
 |_=>[]
def sM:List Int->Bool
 |_::_::_::d::r=>decide (d<=1)&&sM r
 |_=>true
def zO (l:List AH):List Int:=l.flatMap bH7
theorem Gh:∀l:List AH,(zO l).length=4*l.length
 |[]=>rfl
 |e::l=>by
  have:=Gh l
  grind[bH7,zO,List.length_append,List.length_cons]
def aJ6:∀(k:Nat) (l:List Int),l.length=4*k->(qI l).length=k
 |0,[],_=>rfl
 |k+1,s::h::v::d::r,hl=>by
  have:=aJ6 k r (by simp at hl;omega);simp[qI,this]
def bCn:∀(k:Nat) (l:List Int),l.length=4*k->bH5 l->bH5 (zO (qI l))/\(sM l=true↔zO (qI l)=l)
 |0,[],_,_=>⟨λv h=>by simp[zO,qI] at h,by simp[sM,zO,qI]⟩
 |k+1,s::h::v::d::r,hl,ho=>by
  obtain⟨h1,h2⟩:=bCn k r (by simp at hl;omega) (λx a=>ho x (by simp[a]));have hs:=ho s (by simp);have b:=ho h (by simp);have hv:=ho v (by simp);have hd:=ho d (by simp);have e:zO (qI (s::h::v::d::r))=s::h::v::(bif d==1 then 1 else 0)::zO (qI r):=by simp[qI,zO,bH7]
  rw[e];refine⟨λx a=> ?_,?_⟩
  ·simp only[bg] at a;rcases a with rfl|rfl|rfl|rfl|a
   ·exact hs
   ·exact b
   ·exact hv
   ·cases(d==1)<;>simp
   ·exact h1 x a
  ·simp only[sM,ac,cn,fq,true_and,h2];refine and_congr_left' ?_;by_cases h1:d=1
   ·subst h1;simp
   ·rw[show(d==1)=false by simpa using h1,aa];omega
def bH8:∀(k:Nat) (l r:List Int),l.length=4*k->qI (l++r)=qI l++qI r
 |0,[],r,_=>rfl
 |k+1,s::h::v::d::l,r,hl=>by
  have:=bH8 k l r (by simp at hl;omega);simp[qI,this]
def Mj (b:AF):List Int:=[(b.Entries.length:Int)]++zO b.Entries
def zP (b:AF):List Int:=bif aO b then mV (Mj b) else[]
def bNn (d:List Int)(v:List Int×Int×Bool):AF×Bool:=bif !v.2.2||(v.2.1 !=(d.length:Int)||(!sM v.1|| !aO ⟨qI v.1⟩)) then(⟨[]⟩,false) else(⟨qI v.1⟩,true)
def aE5 (d:List Int):AF×Bool:=bif !(Rw d 0).2.2||decide ((Rw d 0).1>20) then(⟨[]⟩,false) else bNn d (nH d (4*(Rw d 0).1).toNat (Rw d 0).2.1 [])
def qJ (key:Int)(s:AK):AF×Bool:=bif !(bZ key&&(bG s.Epoch 0 1000000&&bG s.Version 0 1000000))||s.MAC !=lK key s then(⟨[]⟩,false) else aE5 (aV4 (qH key s.Epoch s.Version) s.Data)
def bTp {d:List Int}(hd:aU d){n e e':Int}{v:List Int}(h:Rw d 0=(n,e,true))(hn:n<=20)(c:nH d (4*n).toNat e []=(v,e',true)):(mV (Mj ⟨qI v⟩)=d↔(e'=(d.length:Int)/\sM v=true))/\v.length=4*n.toNat/\bH5 v/\(qI v).length=n.toNat:=by
 obtain⟨q,⟨_,k,m,f,o⟩,p⟩:=bE2 hd h;subst f;obtain⟨t,q',⟨k1,k2,k3,k4,k5⟩,k6⟩:=O3 hd _ _ _ _ _ (by omega) (by omega) c;rw[bo] at k1;subst k1;have hl:v.length=4*n.toNat:=by omega
 obtain⟨r,s⟩:=bCn n.toNat v hl k5;have b:=aJ6 n.toNat v hl;refine⟨?_,hl,k5,b⟩;have i:d=mV (n::v)++d.drop q':=by
  grind[Gg,List.append_assoc,k6,Int.toNat]
 have hv:Mj ⟨qI v⟩=n::zO (qI v):=by show((qI v).length:Int)::_=_;simp at*;omega
 rw[hv];constructor
 ·intro hq;have a:mV (n::zO (qI v))++[]=mV (n::v)++d.drop q':=by grind
  have j:∀l,bH5 l->bH5 (n::l):=λl hl x a=>by
   rcases bg.1 a with rfl|a
   ·omega
   ·exact hl x a
  grind[List.cons.inj,List.length_nil,List.length_drop,List.length,bH6,k5,Gh]
 grind[List.drop_eq_nil_of_le]
def bCo (l:List Int):(EV.bO9 l).data.toList=l.map λn=>UInt8.ofNat n.toNat:=by
 unfold EV.bO9;have:∀(l:List Int) (r:ByteArray),(l.foldl (λr n=>r.push (UInt8.ofNat n.toNat)) r).data.toList=r.data.toList++l.map λn=>UInt8.ofNat n.toNat:=by intro l;induction l<;>simp_all
 simp[*]
def bytes_inj:∀{a b:List Int},(∀z∈a,0<=z/\z<=255)->(∀z∈b,0<=z/\z<=255)->(a.map λn=>UInt8.ofNat n.toNat)=(b.map λn=>UInt8.ofNat n.toNat)->a=b
 |[],[],_,_,_=>rfl
 |[],y::b,_,_,h=>by simp at h
 |x::a,[],_,_,h=>by simp at h
 |x::a,y::b,d,hb,h=>by
  simp only[bn,fq] at h;have f:=d x (by simp);have i:=hb y (by simp);have e:=congrArg UInt8.toNat h.1;rw[UInt8.toNat_ofNat',UInt8.toNat_ofNat'] at e;rw[bytes_inj (λz c=>d z (by simp[c])) (λz c=>hb z (by simp[c])) h.2,show x=y by omega]
def aRy {b:List Int}(h:aU b):∀z∈b,0<=z/\z<=255:=λz a=>by simpa using cx.1 h.2 z a
def aWj {b:List Int}(h:b.length<=34359738368)(h1:∀z∈b,0<=z/\z<=255):aU b:=⟨h,cx.2 λz a=>by simpa using h1 z a⟩
def bCp:∀(k:Nat) (n:Int),0<=n->n<128^(k+1)->∀z∈uvE k n,0<=z/\z<=255
 |0,n,h0,h1,z,a=>by simp[uvE] at a;subst a;simp at h1;omega
 |k+1,n,h0,h1,z,a=>by
  have h2:(128:Int)^(k+1+1)=128*128^(k+1):=by rw[gj];omega
  unfold uvE at a;by_cases hn:n>127
  ·rw[au hn,ae] at a;rcases bg.1 a with rfl|a
   ·omega
   ·exact bCp k (n/128) (by omega) (by omega) z a
  ·rw[ay hn,aa] at a;simp at a;subst a;omega
def bKz (n:Int):∀z∈enc1 n,0<=z/\z<=255:=λz a=>by
 unfold enc1 at a;cases hr:bG n 0 1000000000000 with
 |false=>simp_all
 |true=>
  rw[hr] at a;have:=jK hr;have b:(128:Int)^(5+1)=4398046511104:=by decide
  exact bCp 5 n this.1 (by omega) z a
def aWk (l:List Int):∀z∈mV l,0<=z/\z<=255:=λz a=>by
 unfold mV at a;obtain⟨x,b,a⟩:=ja.1 a;obtain⟨n,_,rfl⟩:=cq.1 b;exact bKz n z a
theorem yF {b:AF}(h:aO b=true):b.Entries.length<=20:=by
 grind[aO]
def aWl (b:AF):aU (zP b):=by
 unfold zP;cases hb:aO b with
 |false=>exact⟨by simp,rfl⟩
 |true=>
  have:=yF hb;have h1:=aJ5 (Mj b);have h2:(Mj b).length=1+4*b.Entries.length:=by grind[Mj,Gh]
  exact aWj (by grind) (aWk _)
theorem bTq (d:List Int):(aE5 d).1.sz<=20:=by
 grind[Rw,decide,nH,bNn,aO,qI,Bool.not_false,yF,sM,AF.sz,aE5]
theorem bCq (k:Int)(s:AK):(qJ k s).1.sz<=20:=by
 grind[bZ,bG,lK,AF.sz,bTq,qJ]
theorem bCr {a b:AF}(h:(nT a b).2=true):(nT a b).1.sz<=20:=by
 grind[aO,dX,yF,AF.sz,nT]
def qX (d:AD)(log:List AG)(bx:AP)(s:AK):Int:=
 bif !bD log|| !dR log d.Log then 1 else bif !jM (aG log) (aZ d.Store) then 2 else bif bx.Epoch !=aQ log|| !(eY d.Store bx).2 then 3
 else bif decide (s.Epoch<aQ log)||(decide (s.Epoch<d.Epoch)||(s.Epoch==d.Epoch&&decide (s.Version<d.Version))) then 4
 else bif !(qJ (eY d.Store bx).1 s).2|| !(nT d.aAE (qJ (eY d.Store bx).1 s).1).2 then 5 else 0
def dO (d:AD)(log:List AG)(bx:AP)(s:AK):AD×Int:=
 bif qX d log bx s==0 then(⟨d.Store,log,(eY d.Store bx).1,s.Epoch,s.Version,(nT d.aAE (qJ (eY d.Store bx).1 s).1).1⟩,0) else(d,qX d log bx s)
def aH (w:AA)(d b:Int):AA×Int:=bif aK w&&aM w d then({w with Devices:=w.Devices.set d.toNat (dO (aR w d) w.aAF.Log w.aAF.Boxes (iG w.aAF b).1).1},(dO (aR w d) w.aAF.Log w.aAF.Boxes (iG w.aAF b).1).2) else(w,1)
def bR (w:AA)(d:Int):Bool:=w.Stolen.getD d.toNat false
theorem aGs (d:AD)(l:List AG)(bx:AP)(s:AK):(dO d l bx s).1.sz<=d.sz+l.length+20:=by
 unfold dO;cases hc:qX d l bx s==0 with
 |false=>grind
 |true=>
  grind[AD.sz,AF.sz,bCr,nT,qJ,eY,bx,qX,bD,dR,jM,aG,aZ,aQ,decide]
def bK0 (k:Int)(i:Nat)(z:Int):Int:=IntKind.u8.wrap ((z+bO k [(i:Int)])%256)
def tZ (k:Int)(b:List Int):List Int:=D9 (λi z=>[bK0 k i z]) 0 b
def Mk (k e v:Int)(b:AF):AK:=⟨e,v,tZ (qH k e v) (zP b),lK k ⟨e,v,tZ (qH k e v) (zP b),0⟩⟩
def mE (k e v:Int)(b:AF):AK×Bool:=bif bZ k&&(bG e 0 1000000&&bG v 0 1000000)&&aO b then(Mk k e v b,true) else(⟨0,0,[],0⟩,false)
def dC (d:AD):AD×AK×Bool:=bif (mE d.Key d.Epoch (IntKind.i64.wrap (d.Version+1)) d.aAE).2 then({d with Version:=IntKind.i64.wrap (d.Version+1)},(mE d.Key d.Epoch (IntKind.i64.wrap (d.Version+1)) d.aAE).1,true) else(d,⟨0,0,[],0⟩,false)
def sZ (a b:AK):Bool:=decide (a.Epoch>b.Epoch)||(a.Epoch==b.Epoch&&decide (a.Version>b.Version))
def bW (c:AR)(s:AK):AR×Bool:=bif s.Epoch !=aQ c.Log||((decide ((c.History.length:Int)>0)&& !sZ s (c.History.getD (c.History.length-1) default))||decide ((c.History.length:Int)>=60)) then(c,false) else({c with History:=c.History++[s]},true)
def K9 (w:AA)(d:Int):AA×Bool:=bif (dC (aR w d)).2.2&&(bW w.aAF (dC (aR w d)).2.1).2 then({w with Devices:=w.Devices.set d.toNat (dC (aR w d)).1,aAF:=(bW w.aAF (dC (aR w d)).2.1).1},true) else(w,false)
def eP (w:AA)(d:Int):AA×Bool:=bif (aH w d 0).2==0&&(K9 (aH w d 0).1 d).2 then((K9 (aH w d 0).1 d).1,true) else(w,false)
theorem Sy (b:AF):(zP b).length<=500:=by
 grind[aO,yF,aJ5,Mj,Gh,zP]
theorem Sz (k:Int)(b:List Int):(tZ k b).length=b.length:=by simp[Sr,tZ]
def bCs (k e v:Int)(b:AF):(mE k e v b).1.Data.length<=500:=by
 grind[bZ,bG,aO,Mk,Sz,Sy,mE]
theorem Gi (d:AD):(dC d).1.sz=d.sz/\(dC d).2.1.Data.length<=500:=by
 unfold dC;have:=bCs d.Key d.Epoch (IntKind.i64.wrap (d.Version+1)) d.aAE;cases(mE d.Key d.Epoch (IntKind.i64.wrap (d.Version+1)) d.aAE).2 with
 |false=>simp
 |true=>exact⟨rfl,this⟩
theorem tC (c:AR)(s:AK):(bW c s).1.sz<=c.sz+1+s.Data.length/\(bW c s).1.Log=c.Log:=by
 unfold bW;cases s.Epoch !=aQ c.Log||((decide ((c.History.length:Int)>0)&& !sZ s (c.History.getD (c.History.length-1) default))||decide ((c.History.length:Int)>=60)) with
 |true=>grind
 |false=>grind[AR.sz,List.length_append,List.length_cons,List.length_nil,AK.sz]
theorem yG {α:Type}{f:α->Nat}:∀{l:List α} {i:Nat} {x:α} (hi:i<l.length),((l.set i x).map f).sum+f l[i]=(l.map f).sum+f x
 |y::l,0,x,_=>by simp only[ij,bn,dt,gv];omega
 |y::l,i+1,x,h=>by
  have:=yG (f:=f) (l:=l) (i:=i) (x:=x) (by simpa using h);simp only[gk,bn,dt,fa];omega
theorem lL {w:AA}{d b:Int}(h:((aH w d b).2==0)=true):(aK w=true/\aM w d=true)/\(aH w d b).1.aAF=w.aAF/\(aH w d b).1.Devices.length=w.Devices.length/\(aH w d b).1.sz<=w.sz+w.aAF.Log.length+20:=by
 unfold aH at*;cases hc:(aK w&&aM w d) with
 |false=>simp_all
 |true=>
  rw[hc] at h;simp only[ae] at h ⊢;rw[ac] at hc;refine⟨hc,by first|rfl|trivial,by first|exact aw|simp,?_⟩;have hd:=hc.2;simp only[aM,ac,cn] at hd;have hi:d.toNat<w.Devices.length:=by omega
  have a:(dO (aR w d) w.aAF.Log w.aAF.Boxes (iG w.aAF b).1).1.sz<=w.aAF.Log.length+20:=by
   unfold dO at*;cases hs:qX (aR w d) w.aAF.Log w.aAF.Boxes (iG w.aAF b).1==0 with
   |false=>simp_all
   |true=>
    have hm:(nT (aR w d).aAE (qJ (eY (aR w d).Store w.aAF.Boxes).1 (iG w.aAF b).1).1).2=true:=by
     grind[nT,aR,qJ,eY,iG,qX,bD,dR,jM,aG,aZ,aQ,decide]
    grind[AD.sz,AF.sz,bCr]
  grind[AA.sz,List.length_set,dO,aR,iG,yG,AD.sz]
theorem bTr {w:AA}{d:Int}(hd:aM w d=true):(K9 w d).1.aAF.Log=w.aAF.Log/\(K9 w d).1.Devices.length=w.Devices.length/\(K9 w d).1.sz<=w.sz+501:=by
 unfold K9;cases(dC (aR w d)).2.2&&(bW w.aAF (dC (aR w d)).2.1).2 with
 |false=>simp
 |true=>
  grind[AA.sz,AR.sz,List.length_set,dC,aR,bW,List.getD,List.getElem?_eq_getElem,yG,AD.sz,aM,Gi,tC]
theorem Yd {w:AA}{d:Int}(h:(eP w d).2=true):(eP w d).1.aAF.Log=w.aAF.Log/\(eP w d).1.sz<=w.sz+w.aAF.Log.length+521:=by
 grind[aH,K9,k1,k2,k3,k4,k5,lL,aM,bTr,eP]
theorem bTs {k z:Int}(i:Nat)(h:0<=z/\z<=255):IntKind.u8.wrap ((IntKind.i64.wrap (IntKind.i64.wrap z+bO k [(i:Int)])).tmod 256)=bK0 k i z:=by have:=nS k [(i:Int)];rw[aJ (n:=z) (by omega) (by omega),aJ (by omega) (by omega),bv (by omega)];rfl
theorem bTt {k z:Int}(i:Nat)(h:0<=z/\z<=255):IntKind.u8.wrap ((IntKind.i64.wrap (IntKind.i64.wrap z+(bO k [(i:Int)]).tmod 256)).tmod 256)=bK0 k i z:=by
 grind[aJ,bO,Int.tmod_eq_emod_of_nonneg,bK0,nS]
def aN (seed n:Int):AJ:=⟨1,n,aV seed [277,n],0⟩
def bQ (s:AJ):AD:=⟨s,[],0,0,0,⟨[]⟩⟩
def eU (s:AJ)(n:ByteArray)(h:Int):Int:=aV s.Seed [179,dL n,h]
def eQ (s:AJ)(n:ByteArray)(h:Int):Int:=iR (eU s n h)
def mW (s:AJ)(l:List Int):Int:=Mg (jQ s) l
def bH9 (log:List AG)(kind dev:Int)(s:AJ):AG:=⟨(log.length:Int),kind,dev,aZ s,jN log,0⟩
def bK1 (log:List AG)(kind dev:Int)(s:AJ):AG:={bH9 log kind dev s with Signature:=mW s [dG (bH9 log kind dev s)]}
def dP (log:List AG)(kind dev:Int)(s:AJ):List AG×Bool:=bif (decide ((log.length:Int)>0)&& !bD log)|| !bD (log++[bK1 log kind dev s]) then(log,false) else(log++[bK1 log kind dev s],true)
def zQ (p e:Int)(d:List Int):AQ:=⟨p,e,tZ (mO (iJ p) e) d,aSs (mO (iJ p) e) ⟨p,e,tZ (mO (iJ p) e) d,0⟩⟩
def fQ (p e:Int)(d:List Int):AQ×Bool:=bif iJ p==0||(!bZ e||decide ((d.length:Int)>200)) then(⟨0,0,[],0⟩,false) else(zQ p e d,true)
def fT (e:Int)(d:List Int):Nat->List Int->List AQ×Bool
 |_,[]=>([],true)
 |i,p::l=>bif (fQ p (IntKind.i64.wrap (e+(i:Int))) d).2&&(fT e d (i+1) l).2 then((fQ p (IntKind.i64.wrap (e+(i:Int))) d).1::(fT e d (i+1) l).1,true) else([],false)
def bH (log:List AG)(key eph:Int):AP×Bool:=bif !bD log||(!bZ key|| !(fT eph (mV [aQ log,key]) 0 (aG log)).2) then(⟨0,[]⟩,false) else(⟨aQ log,(fT eph (mV [aQ log,key]) 0 (aG log)).1⟩,true)
def qY (e:AP)(d:Int):Int:=e.Boxes.foldl (λn b=>bif b.To==d then IntKind.i64.wrap (n+1) else n) 0
def gY (e:AP)(log:List AG):Bool:=(e.Epoch==aQ log&&(e.Boxes.length:Int)==((aG log).length:Int))&&(aG log).all λd=>qY e d==1
def kS (c:AR)(log:List AG)(e:AP):AR×Bool:=bif !bD log||(!dR log c.Log|| !gY e log) then(c,false) else({c with Log:=log,Boxes:=e},true)
def aGt (h:Int)(l:List AZ):Nat:=(l.takeWhile λc=>decide (c.Handle<h)).length
def aOs (l:List AZ)(h p:Int):List AZ:=l.take (aGt h l)++[⟨h,p,0,false⟩]++l.drop (aGt h l)
def gZ (a:AI)(h p:Int):AI×Bool:=bif !bC a|| !bC {a with Credentials:=aOs a.Credentials h p} then(a,false) else({a with Credentials:=aOs a.Credentials h p},true)
def fC (s:AB)(id h p:Int):AB×Bool:=bif !cZ s||decide (aI s id<0) then(s,false) else bif (gZ (s.Accounts.getD (aI s id).toNat default) h p).2 then({s with Accounts:=s.Accounts.set (aI s id).toNat (gZ (s.Accounts.getD (aI s id).toNat default) h p).1},true) else(s,false)
def zR (l:List AU):Nat:=bif l.any (λn=>n.Seen) then(l.takeWhile λn=> !n.Seen).length else 0
def Ta (l:List AU):List AU:=bif decide ((l.length:Int)>30) then l.take (zR l)++l.drop (zR l+1) else l
def qK (m:AV)(k a t:Int):AV×Bool:=bif !fB m|| !fB ⟨Ta (m.Notices++[⟨k,a,t,false⟩])⟩ then(m,false) else(⟨Ta (m.Notices++[⟨k,a,t,false⟩])⟩,true)
def iO (w:AA)(by_ kind a:Int)(key:List AG->Int):AA×Bool:=
 let l:=dP w.aAF.Log kind a (aR w by_).Store;let e:=bH l.1 (key l.1) (IntKind.i64.wrap (1000+IntKind.i64.wrap (10*(l.1.length:Int))));let c:=kS w.aAF l.1 e.1
 bif l.2&&(e.2&&c.2) then({w with aAF:=c.1},true) else(w,false)
theorem lX (log:List AG)(k d:Int)(s:AJ):(dP log k d s).1.length<=log.length+1:=by unfold dP;cases(decide ((log.length:Int)>0)&& !bD log)|| !bD (log++[bK1 log k d s])<;>simp
theorem bK2 (p e:Int)(d:List Int):(fQ p e d).1.sz<=d.length:=by
 grind[iJ,bZ,decide,AQ.sz,zQ,Sz,fQ]
def bIa {e:Int}{d:List Int}:∀{i:Nat} {l:List Int},(fT e d i l).1.length<=l.length/\((fT e d i l).1.map AQ.sz).sum<=l.length*d.length
 |i,[]=>by simp[fT]
 |i,p::l=>by
  have h1:=bIa (e:=e) (d:=d) (i:=i+1) (l:=l)
  grind[fQ,fT,List.length_cons,Nat.add_mul,bK2]
theorem bIb (a b:Int):(mV [a,b]).length<=12:=aJ5 [a,b]
theorem yH (log:List AG)(k e:Int):(bH log k e).1.sz<=13*log.length:=by
 unfold bH;have h1:=bIa (e:=e) (d:=mV [aQ log,k]) (i:=0) (l:=aG log);have h2:=gG log;have a:=bIb (aQ log) k;have b:=fo (aG log).length a
 grind[bD,bZ,fT,mV,aQ,aG,AP.sz]
theorem bTu (c:AR)(l:List AG)(e:AP):(kS c l e).1.sz<=c.sz+l.length+e.sz/\(kS c l e).1.History=c.History:=by
 grind[bD,dR,gY,AR.sz,AP.sz,kS]
theorem bIc (l:List AZ)(h p:Int):(aOs l h p).length=l.length+1:=by
 grind[aOs,List.length_append,List.length_take,List.length_drop,List.length_singleton]
theorem bK3 (a:AI)(h p:Int):(gZ a h p).1.sz<=a.sz+1:=by
 grind[bC,aOs,AI.sz,bIc,gZ]
theorem bCt (l:List AU):(Ta l).length<=l.length:=by
 grind[decide,List.length_append,List.length_take,List.length_drop,Ta]
theorem bNo (m:AV)(k a t:Int):(qK m k a t).1.sz<=m.sz+1:=by
 grind[fB,Ta,AV.sz,List.length_append,List.length_singleton,bCt,qK]
def nL {α:Type}{p:α->Bool}{i:Nat}{l:List α}(h:decide (lD p i l<0)=false):(i:Int)<=lD p i l/\lD p i l<i+l.length:=by induction l generalizing i<;>grind[lD,List.length_cons]
theorem bCu (s:AB)(id h p:Int):(fC s id h p).1.sz<=s.sz+1:=by
 unfold fC;cases hc: !cZ s||decide (aI s id<0) with
 |true=>simp
 |false=>
  rw[bp] at hc;have hr:=nL hc.2
  grind[gZ,aI,id,default,yG,AI.sz,bK3,List.getD,List.getElem?_eq_getElem,AB.sz,List.length_set]
def appW (w:AA)(x:AD):AA:={w with Devices:=w.Devices++[x],Stolen:=w.Stolen++[false]}
theorem bId {w:AA}(x:AD){d:Int}(h:aM w d=true)(hn:w.Devices.length<6):aK (appW w x)=aK w:=by
 grind[appW,aK,List.length_append,List.length_singleton,bG,decide_eq_true,aM]
theorem bK4 {w:AA}(x:AD){d:Int}(h:aM w d=true):aM (appW w x) d=true:=by
 grind[aM,appW,List.length_append,List.length_singleton]
theorem bCv {w:AA}(x:AD){d:Int}(h:aM w d=true):aR (appW w x) d=aR w d:=by
 grind[aR,appW,List.getD,List.getElem?_append_left,aM]
theorem bTv {w:AA}(x:AD){d:Int}(b:Int)(h:aM w d=true)(hn:w.Devices.length<6):aH (appW w x) d b=(appW (aH w d b).1 x,(aH w d b).2):=by
 grind[aK,Bool.and_self,appW,List.set_append_left,bId,bK4,bCv,aH,aM]
theorem cA8 {w:AA}(x:AD){d:Int}(h:aM w d=true):K9 (appW w x) d=(appW (K9 w d).1 x,(K9 w d).2):=by
 grind[dC,aR,bW,appW,List.set_append_left,bCv,K9,aM]
def bTw {w:AA}(x:AD){d:Int}(h:aM w d=true)(hn:w.Devices.length<6):eP (appW w x) d=(appW (eP w d).1 x,(eP w d).2):=by
 grind[aH,k4,lL,aM,cA8,K9,bTv,eP]
theorem Tc (w:AA)(b k p:Int)(key:List AG->Int):(iO w b k p key).1.sz<=w.sz+14*(w.aAF.Log.length+1)/\(iO w b k p key).1.aAF.Log.length<=w.aAF.Log.length+1/\(iO w b k p key).1.Devices=w.Devices/\(iO w b k p key).1.Sites=w.Sites:=by
 grind[AA.sz,AR.sz,kS,bH,bD,dR,gY,bTu,yH,dP,aR,lX,iO]
def nI (d:AD)(h:Int)(rm:Bool):AD:=(bN (bN d (aB 0) h rm).1 (aB 1) h rm).1
def gW (st:AJ)(n:Int):Nat->List AB->List AB×Bool
 |_,[]=>([],true)
 |j,s::l=>bif (fC s 1 n (eQ st (aB (j:Int)) n)).2&&(gW st n (j+1) l).2 then((fC s 1 n (eQ st (aB (j:Int)) n)).1::(gW st n (j+1) l).1,true) else([],false)
def O4 (w:AA)(k:Int):AA:={w with Mail:=(qK w.Mail k 1 w.Now).1}
def add1 (w:AA)(b:Int):AA×Bool:=iO (aH w b 0).1 b 1 (aZ (aN w.Seed (w.Devices.length:Int))) λ_=>(aR (aH w b 0).1 b).Key
def aJ7 (w:AA)(b:Int):List AB×Bool:=gW (aN w.Seed (w.Devices.length:Int)) (w.Devices.length:Int) 0 (add1 w b).1.Sites
def lY (w:AA)(b:Int):AA×Bool:=eP {(add1 w b).1 with Sites:=(aJ7 w b).1,Devices:=(add1 w b).1.Devices.set b.toNat (nI (aR (add1 w b).1 b) (w.Devices.length:Int) false)} b
def Bw (w:AA)(b:Int):AA×Int:=aH (appW (lY w b).1 (bQ (aN w.Seed (w.Devices.length:Int)))) (w.Devices.length:Int) 0
def Zc (w:AA)(b:Int):Bool:=(aK w&&(aM w b&&(!bR w b&& !decide ((w.Devices.length:Int)>=6))))&&((aH w b 0).2==0&&((add1 w b).2&&((aJ7 w b).2&&((lY w b).2&&(Bw w b).2==0))))
def fP (w:AA)(b:Int):AA×Bool:=bif Zc w b then(O4 (Bw w b).1 2,true) else(w,false)
theorem aCm (d:AD)(h:Int)(rm:Bool):(nI d h rm).sz<=d.sz+2:=by
 grind[nI,Sw,aB,bN]
def aCn {st:AJ}{n:Int}:∀{j:Nat} {l:List AB},(gW st n j l).1.length<=l.length/\((gW st n j l).1.map AB.sz).sum<=(l.map AB.sz).sum+l.length
 |j,[]=>by simp[gW]
 |j,s::l=>by
  have h1:=aCn (st:=st) (n:=n) (j:=j+1) (l:=l)
  grind[fC,eQ,aB,gW,List.length_cons,bCu]
def bQb {w:AA}{b:Int}(h0:((aH w b 0).2==0)=true):(aM (add1 w b).1 b=true/\(add1 w b).1.Devices.length=w.Devices.length)/\(add1 w b).1.sz<=16*w.sz+34/\(add1 w b).1.aAF.Log.length<=w.sz+1:=by
 grind[k2,k4,add1,aM,iO,k3,Tc,aH,aZ,aN,aR,AA.sz,AR.sz,k1,k5,lL]
def iE (w:AA)(b:Int):AA:={(add1 w b).1 with Sites:=(aJ7 w b).1,Devices:=(add1 w b).1.Devices.set b.toNat (nI (aR (add1 w b).1 b) (w.Devices.length:Int) false)}
def aWm {w:AA}{b:Int}(h0:((aH w b 0).2==0)=true):(aM (iE w b) b=true/\(iE w b).Devices.length=w.Devices.length)/\(iE w b).sz<=32*w.sz+80/\(iE w b).aAF.Log.length<=w.sz+1:=by
 obtain⟨⟨h1,h2⟩,a,c⟩:=bQb h0;have d:=aCn (st:=aN w.Seed (w.Devices.length:Int)) (n:=(w.Devices.length:Int)) (j:=0) (l:=(add1 w b).1.Sites)
 grind[iE,aJ7,add1,AA.sz,List.length_set,aM,aR,List.getD,List.getElem?_eq_getElem,yG,AD.sz,nI,aCm]
theorem aJ8 (w:AA)(x:AD):(appW w x).sz=w.sz+x.sz+2:=by
 grind[appW,AA.sz,List.length_append,List.length_singleton]
theorem Ye (w:AA)(k:Int):(O4 w k).sz<=w.sz+1:=by
 grind[O4,AA.sz,AV.sz,bNo]
def bNp {w:AA}{b:Int}(h0:((aH w b 0).2==0)=true)(h:(lY w b).2=true):(lY w b).1.sz<=33*w.sz+602/\(lY w b).1.aAF.Log.length<=w.sz+1:=by obtain⟨_,h1,h2⟩:=aWm h0;obtain⟨a,c⟩:=Yd (w:=iE w b) (d:=b) h;exact⟨by show(eP (iE w b) b).1.sz<=_;omega,by show(eP (iE w b) b).1.aAF.Log.length<=_;rw[a];exact h2⟩
theorem bCw {α:Type}{p:α->Bool}:∀{l:List α} {i:Nat} (hi:i<l.length),i<(l.takeWhile p).length->p l[i]=true
 |x::l,0,_,h=>by
  simp only[cX] at h;cases hp:p x with
  |true=>exact hp
  |false=>rw[hp] at h;simp at h
 |x::l,i+1,hi,h=>by
  simp only[cX] at h;cases hp:p x with
  |true=>
   have a:i<(l.takeWhile p).length:=by simpa[hp] using h
   exact bCw (l:=l) (i:=i) (by simpa using hi) a
  |false=>rw[hp] at h;simp at h
theorem bCx {α:Type}{p:α->Bool}:∀{l:List α} (h:(l.takeWhile p).length<l.length),p (l[(l.takeWhile p).length]'h)=false
 |x::l,h=>by
  cases hp:p x with
  |true=>
   have a:(l.takeWhile p).length<l.length:=by simpa[cX,hp] using h
   simpa[cX,hp] using bCx a
  |false=>simp[cX,hp]
theorem O5 {α:Type}{p:α->Bool}{l:List α}:(l.takeWhile p).length<=l.length:=(List.takeWhile_prefix p).length_le
def aOt {α τ S:Type}{l:List α}(p:α->Bool)(fin:Nat->Option τ)(e:Nat->S){F:(S->Option τ)->S->Option τ}(hl:l.length<=34359738368)
  (a:∀rec i (hi:i<l.length),F rec (e i)=bif p l[i] then rec (e (i+1)) else fin i) (b:∀rec,F rec (e l.length)=fin l.length):EV.bI FUEL F (e 0)=fin (l.takeWhile p).length:=by
 have go:∀(k i n:Nat),i+k=(l.takeWhile p).length->k<n->EV.bI n F (e i)=fin (l.takeWhile p).length:=by
  intro k;induction k with
  |zero=>
   intro i n hi hn;obtain⟨n,rfl⟩:∃m,n=m+1:=⟨n-1,by omega⟩
   grind[O5,bCx,iD]
  |succ k c=>
   intro i n hi hn;obtain⟨n,rfl⟩:∃m,n=m+1:=⟨n-1,by omega⟩
   grind[iD,bCw,O5]
 have:=O5 (p:=p) (l:=l);exact go (l.takeWhile p).length 0 FUEL (by omega) (by grind[fM])
def bCy {e:Int}{d:List Int}{l:List Int}{τ:Type}{x:τ}{F:(List AQ×Nat->Option (τ⊕List AQ))->List AQ×Nat->Option (τ⊕List AQ)}
  (a:∀rec i s (hi:i<l.length),s.length<=i->F rec (s,i)=bif !(fQ l[i] (IntKind.i64.wrap (e+(i:Int))) d).2 then some (.inl x) else rec (s++[(fQ l[i] (IntKind.i64.wrap (e+(i:Int))) d).1],i+1)) (b:∀rec s,F rec (s,l.length)=some (.inr s)):
  ∀(k i n:Nat) (s:List AQ),i+k=l.length->k<n->s.length<=i->EV.bI n F (s,i)=some (bif (fT e d i (l.drop i)).2 then .inr (s++(fT e d i (l.drop i)).1) else .inl x)
 |0,i,n+1,s,h,_,_=>by
  have:i=l.length:=by omega
  subst this;rw[iD,b,dy];simp[fT]
 |k+1,i,n+1,s,h,hn,hs=>by
  have hi:i<l.length:=by omega
  rw[iD,a _ i s hi hs,cE hi,fT];cases hb:(fQ l[i] (IntKind.i64.wrap (e+(i:Int))) d).2 with
  |false=>rfl
  |true=>rw[aj,aa,bCy a b k (i+1) n _ (by omega) (by omega) (by simp;omega)];cases(fT e d (i+1) (l.drop (i+1))).2<;>simp
def bK5 (l:List AU):Nat:=(l.takeWhile λn=> !n.Seen).length
def bQc {l:List AU}{x:AU}:bK5 (l++[x])=bif l.any (λn=>n.Seen) then bK5 l else bif x.Seen then l.length else l.length+1:=by
 induction l with
 |nil=>cases a:x.Seen<;>simp[bK5,a]
 |cons y l b=>
  grind[List.takeWhile_cons,Bool.not_false,List.length_cons,bK5]
def bCz {l:List AU}{F:(Int×Int->Option Int)->Int×Int->Option Int}(a:∀rec (k:Int) (i:Nat) (hi:i<l.length),F rec (k,(i:Int))=rec (bif l[i].Seen then(i:Int) else k,(i:Int)-1))(b:∀rec k,F rec (k,-1)=some k):
  ∀(n m:Nat) (k:Int),n<=l.length->n<m->EV.bI m F (k,(n:Int)-1)=some (bif (l.take n).any (λx=>x.Seen) then(bK5 (l.take n):Int) else k)
 |0,m+1,k,_,_=>by rw[iD,show((0:Nat):Int)-1= -1 from rfl,b];simp
 |n+1,m+1,k,h,hm=>by
  have hn:n<l.length:=by omega
  rw[iD,show((n+1:Nat):Int)-1=(n:Int) by omega,a _ _ n hn,bCz a b n m _ (by omega) (by omega),db,ab hn];simp only[du,gz,bQc,List.any_cons,List.any_nil,gn,bu,jf (Nat.le_of_lt hn)];cases(l.take n).any (λx=>x.Seen)<;>cases l[n].Seen<;>rfl
def bIe (l:List AU):(zR l:Int)=bif l.any (λx=>x.Seen) then(bK5 l:Int) else 0:=by unfold zR bK5;cases l.any (λn=>n.Seen)<;>rfl
def bIf {l:List AU}(h:0<l.length):zR l<l.length:=by
 unfold zR;cases hs:l.any (λn=>n.Seen) with
 |false=>exact h
 |true=>
  obtain⟨x,b,hp⟩:=fm.1 hs;have:∀l:List AU,x∈l->(l.takeWhile λn=> !n.Seen).length<l.length:=by
   intro l;induction l with
   |nil=>simp
   |cons y l c=>
    intro h;cases a:y.Seen with
    |true=>simp[a]
    |false=>
     rcases bg.1 h with rfl|h
     all_goals simp[*]
  simp[*]
def bW9 {τ S:Type}{l:List AU}(fin:Int->Option τ)(st:Nat->S){F:(S->Option τ)->S->Option τ}(hl:l.length<=34359738368)(a:∀rec i (hi:i<l.length),F rec (st i)=bif l[i].Seen then fin (i:Int) else rec (st (i+1)))(b:∀rec,F rec (st l.length)=fin 0):EV.bI FUEL F (st 0)=fin (zR l:Int):=by
 have e:=aOt (l:=l) (λn=> !n.Seen) (λi=>bif decide (i<l.length) then fin (i:Int) else fin 0) st (F:=F) hl (by grind) (by simp[*]);rw[e,bIe];cases hs:l.any (λn=>n.Seen) with
 |true=>
  have h0:0<l.length:=by grind
  have:=bIf h0;unfold zR at this;rw[hs,ae] at this;rw[au this];rfl
 |false=>
  have c:∀l:List AU,l.any (λn=>n.Seen)=false->(l.takeWhile λn=> !n.Seen).length=l.length:=by intro l;induction l<;>simp_all
  simp[*]
def bTx {e:Int}{d:List Int}{i:Nat}{l:List Int}(h:(fT e d i l).2=false):fT e d i l=([],false):=by cases l<;>grind[fT,fQ]
theorem bK6 {s:AB}{i:Int}(b:s.sz<=34359738300)(h:decide (aI s i<0)=false):aT s.Accounts (aI s i)=some (s.Accounts.getD (aI s i).toNat default)/\(s.Accounts.getD (aI s i).toNat default).sz<=34359738300/\(aI s i).toNat<s.Accounts.length:=by
 have hr:=nL (p:=λa:AI=>a.Id==i) (i:=0) (l:=s.Accounts) h
 grind[AB.sz,oL,aI,Fw,AI.sz]
def nV (d:AD)(log:List AG)(key:Int):AD×Bool:=bif !bD log||(!dR log d.Log||(decide (aQ log<d.Epoch)|| !bZ key)) then(d,false) else({d with Log:=log,Key:=key,Epoch:=aQ log,Version:=0},true)
def aW (a:AI)(h:Int):Int:=lD (λc=>c.Handle==h) 0 a.Credentials
def fI (a:AI)(k:Int):AZ:=a.Credentials.getD k.toNat default
def qL (a:AI)(h:Int):AI×Bool:=bif !bC a||(decide (aW a h<0)||(fI a (aW a h)).Cut) then(a,false) else({a with Credentials:=a.Credentials.set (aW a h).toNat {fI a (aW a h) with Cut:=true}},true)
def gJ (s:AB)(k:Int):AI:=s.Accounts.getD k.toNat default
def lM (h:Int)(s:AB):AB:=bif decide (aI s 1>=0) then {s with Accounts:=s.Accounts.set (aI s 1).toNat (qL (gJ s (aI s 1)) h).1} else s
def bL (s e:Int):Int:=aV s [233,e]
def kN (s:AJ)(l:List AG):Int:=bL (aV s.Seed [311]) (aQ l)
def jR (w:AA)(b:Int):AA:=(aH w b 0).1
def O6 (w:AA)(b t:Int):List AG:=(dP (jR w b).aAF.Log 2 (aZ (aR w t).Store) (aR (jR w b) b).Store).1
def jX (w:AA)(b t:Int):AA×Bool:=iO (jR w b) b 2 (aZ (aR w t).Store) (kN (aR (jR w b) b).Store)
def Yf (w:AA)(b t:Int):AD×Bool:=nV (aR (jR w b) b) (O6 w b t) (kN (aR (jR w b) b).Store (O6 w b t))
def O7 (w:AA)(b t:Int):AA:={(jX w b t).1 with Devices:=(jX w b t).1.Devices.set b.toNat (nI (Yf w b t).1 t true),Sites:=(jX w b t).1.Sites.map (lM t)}
def F3 (w:AA)(b t:Int):AA×Bool:=K9 (O7 w b t) b
def pU (w:AA)(b t:Int):AA×Bool:=bif (jX w b t).2&&((Yf w b t).2&&(F3 w b t).2) then(O4 (F3 w b t).1 4,true) else(w,false)
def fF (w:AA)(b t:Int):AA×Bool:=bif (aH w b 0).2==0&&(!bR w b&&(!(b==t)&&iH w t)) then pU w b t else(w,false)
theorem aJ9 (d:AD)(l:List AG)(k:Int):(nV d l k).1.sz<=d.sz+l.length:=by
 grind[bD,dR,decide,aQ,bZ,AD.sz,nV]
theorem bK7 (a:AI)(h:Int):(qL a h).1.sz=a.sz:=by
 grind[bC,decide,aW,fI,AI.sz,List.length_set,qL]
theorem bK8 (h:Int)(s:AB):(lM h s).sz=s.sz:=by
 unfold lM;cases hc:decide (aI s 1>=0) with
 |false=>rfl
 |true=>
  have h0:decide (aI s 1<0)=false:=by simp_all
  have hr:=nL h0
  grind[AB.sz,List.length_set,gJ,aI,List.getD,List.getElem?_eq_getElem,bK7,yG,AI.sz,qL]
theorem aRz (h:Int)(l:List AB):((l.map (lM h)).map AB.sz).sum=(l.map AB.sz).sum:=by induction l<;>grind[bK8]
def bQd {w:AA}{b t:Int}(h0:((aH w b 0).2==0)=true):(aM (jR w b) b=true/\(jR w b).Devices.length=w.Devices.length/\(jR w b).aAF=w.aAF/\(jR w b).sz<=2*w.sz+20)/\(O6 w b t).length<=w.sz+1/\(aM (jX w b t).1 b=true/\(jX w b t).1.Devices=(jR w b).Devices)/\(jX w b t).1.sz<=16*w.sz+34/\(jX w b t).1.Sites=(jR w b).Sites:=by
 obtain⟨⟨k1,k2⟩,k3,k4,k5⟩:=lL h0;have a:w.aAF.Log.length<=w.sz:=by grind[AA.sz,AR.sz]
 grind[aM,iO,jR,aZ,aR,kN,k4,k3,O6,jX,k6,k5,aH,k2,Tc,lX]
def iA (b:AN)(id:Int):Int:=bO b.Seed [197,id]
def aUs (b:AN)(acc now:Int):A0:=⟨b.Next,acc,IntKind.i64.wrap (now+5)⟩
def jG (b:AN)(acc now:Int):AN×A0×Bool:=bif dK b&&(!(b.Next==1000000)&&(bG acc 0 1000000&&bG now 0 1000000)) then(⟨b.Seed,IntKind.i64.wrap (b.Next+1),(bif decide ((b.Open.length:Int)>=16) then b.Open.drop 1 else b.Open)++[aUs b acc now]⟩,aUs b acc now,true) else(b,⟨0,0,0⟩,false)
def bP (b:AN)(id:Int):Int:=lD (λc=>c.Id==id) 0 b.Open
def aOu (b:AN)(k:Int):A0:=b.Open.getD k.toNat default
def pV (b:AN)(id acc now:Int):AN×Bool:=bif !dK b||decide (bP b id<0) then(b,false) else(⟨b.Seed,b.Next,b.Open.take (bP b id).toNat++b.Open.drop ((bP b id).toNat+1)⟩,(aOu b (bP b id)).aAH==acc&&decide (now<=(aOu b (bP b id)).Until))
def pF (s:AB)(id now:Int):AB×Int×Int×Bool:=bif cZ s&&(!decide (aI s id<0)&&(jG s.Book id now).2.2) then({s with Book:=(jG s.Book id now).1},(jG s.Book id now).2.1.Id,iA (jG s.Book id now).1 (jG s.Book id now).2.1.Id,true) else(s,0,0,false)
def sJ (s:AJ):Bool:=bG s.Vendor 1 9&&(bG s.Serial 0 1000000&&(bZ s.Seed&&bG s.Counter 0 1000000))
def bYe (s:AJ):AJ:={s with Counter:=IntKind.i64.wrap (s.Counter+1)}
def gT (s:AJ)(site:ByteArray)(h:Int)(m:List Int):AJ×Int×Bool:=bif sJ s&& !(s.Counter==1000000) then(bYe s,Mg (eU s site h) (m++[(bYe s).Counter]),true) else(s,0,false)
def bF (a:AY):List Int:=[199,dL a.Site,sH 211 a.aAJ,a.aAM,a.Handle,bif a.Present then 1 else 0]
def O8 (j:Int):AO:=⟨true,⟨#[119,119,119,46]⟩++aB j,443⟩
def aGu (j:Int):AO:=⟨true,⟨#[108,111,103,105,110,46]⟩++aB j++⟨#[46,101,118,105,108,46,110,101,116]⟩,443⟩
def bYf (j:Int):AO:=⟨true,aB j,443⟩
def oM (k:Nat):AO:=match k with|0=>O8 0|1=>O8 1|2=>bYf 0|3=>bYf 1|4=>aGu 0|_=>aGu 1
def Ca (k:Nat):ByteArray:=⟨#[104,116,116,112,115,58,47,47]⟩++(oM k).Host
def cCx:List UInt8->List UInt8->Bool
 |[],b=>b==[]
 |x::a,b=>b==x::a||cCx a b
def pW (o:AO)(z:ByteArray):Bool:=cCx (46::o.Host.data.toList) (46::z.data.toList)
def uZ (o:AO)(s:ByteArray):Prop:=(∃k:Nat,k<6/\o=oM k)/\∃j:Int,(j=0\/j=1)/\s=aB j
noncomputable instance (o:AO) (s:ByteArray):Decidable (uZ o s):=Classical.propDecidable _
def iX (o:AO):Prop:=∃k:Nat,k<6/\o=oM k
def iX.p {o:AO}(h:iX o){j:Int}(hj:j=0\/j=1):uZ o (aB j):=⟨h,j,hj,rfl⟩
def bE3 {j:Int}(hj:j=0\/j=1):iX (O8 j):=by
 rcases hj with rfl|rfl
 ·exact⟨0,by decide,rfl⟩
 ·exact⟨1,by decide,rfl⟩
noncomputable instance (o:AO):Decidable (iX o):=Classical.propDecidable _
def mX (o:AO):ByteArray:=⟨#[104,116,116,112,115,58,47,47]⟩++o.Host
def aZr (s:ByteArray):Prop:=s=⟨#[]⟩\/∃k:Nat,k<4/\s=Ca k
noncomputable instance (s:ByteArray):Decidable (aZr s):=Classical.propDecidable _
def qZ (s:ByteArray):AO×Bool:=bif decide (s.size=0) then(⟨false,⟨#[]⟩,0⟩,false) else(⟨true,s.extract 8 s.size,443⟩,true)
def aWn (s:AJ)(o:AO)(site:ByteArray)(h a:Int)(p:Bool):AY:=⟨site,mX o,a,h,p,0,0⟩
def bQe:AY:=⟨⟨#[]⟩,⟨#[]⟩,0,0,false,0,0⟩
def iU (s:AJ)(o:AO)(site:ByteArray)(h a:Int)(p:Bool):AJ×AY×Bool:=bif pW o site&&(gT s site h (bF (aWn s o site h a p))).2.2 then((gT s site h (bF (aWn s o site h a p))).1,{aWn s o site h a p with Counter:=(gT s site h (bF (aWn s o site h a p))).1.Counter,Signature:=(gT s site h (bF (aWn s o site h a p))).2.1},true) else(s,bQe,false)
def AsP (a:AY)(site:ByteArray):Prop:=∃j:Int,(j=0\/j=1)/\site=aB j/\(a=bQe\/(a.Site=site/\∃k:Nat,k<4/\a.aAJ=Ca k/\pW (oM k) site=true))
noncomputable instance (a:AY) (s:ByteArray):Decidable (AsP a s):=Classical.propDecidable _
def iK (b:Int)(a:AY)(site:ByteArray)(c cnt:Int):Int:=bif !(a.Site.toList==site.toList) then 1 else bif !a.Present then 2 else bif !(a.aAM==c) then 3 else bif !jB b (bF a++[a.Counter]) a.Signature then 5 else bif decide (a.Counter<=cnt) then 4 else 0
def jS (a:AI)(x:AY)(site:ByteArray)(b:Int):AI×Int:=bif !bC a||(decide (aW a x.Handle<0)||(fI a (aW a x.Handle)).Cut) then(a,5) else({a with Credentials:=bif iK (fI a (aW a x.Handle)).Public x site b (fI a (aW a x.Handle)).Counter==0 then a.Credentials.set (aW a x.Handle).toNat {fI a (aW a x.Handle) with Counter:=x.Counter} else bif iK (fI a (aW a x.Handle)).Public x site b (fI a (aW a x.Handle)).Counter==4 then a.Credentials.set (aW a x.Handle).toNat {fI a (aW a x.Handle) with Cut:=true} else a.Credentials},iK (fI a (aW a x.Handle)).Public x site b (fI a (aW a x.Handle)).Counter)
def rA (a:AI)(m:Int):Bool:=bC a&&(decide (a.Minimum<=m)&&(decide (m<=3)&&(!(m==3)||a.Credentials.any λc=> !c.Cut)))
def mP (s:AB)(id b now:Int)(a:AY):AB×Int×Int:=bif !cZ s||decide (aI s id<0) then(s,1,0) else bif !(pV s.Book b id now).2 then({s with Book:=(pV s.Book b id now).1},2,0) else bif !rA (gJ s (aI s id)) 3 then({s with Book:=(pV s.Book b id now).1},3,0) else bif !((jS (gJ s (aI s id)) a s.Name (iA s.Book b)).2==0) then({s with Book:=(pV s.Book b id now).1,Accounts:=s.Accounts.set (aI s id).toNat (jS (gJ s (aI s id)) a s.Name (iA s.Book b)).1},4,(jS (gJ s (aI s id)) a s.Name (iA s.Book b)).2) else({s with Book:=(pV s.Book b id now).1,Accounts:=s.Accounts.set (aI s id).toNat (jS (gJ s (aI s id)) a s.Name (iA s.Book b)).1,Logins:=s.Logins++[id]},0,0)
def kT (w:AA)(j:Int):AB:=w.Sites.getD j.toNat default
def oN (w:AA)(j:Int):AB×Int×Int×Bool:=pF (kT w j) 1 w.Now
def aKa (w:AA)(d j:Int)(o:AO):AJ×AY×Bool:=iU (aR w d).Store o (aB j) d (oN w j).2.2.1 true
def F4 (w:AA)(d j:Int)(o:AO):AB×Int×Int:=mP (oN w j).1 1 (oN w j).2.1 w.Now (aKa w d j o).2.1
def bE4 (w:AA)(d j:Int)(o:AO):AA:={w with Devices:=w.Devices.set d.toNat {aR w d with Store:=(aKa w d j o).1},Sites:=w.Sites.set j.toNat (F4 w d j o).1}
def bX (w:AA)(d j:Int):Bool:=aK w&&(aM w d&&iW w j)
def jH (w:AA)(d j:Int)(o:AO):AA×AY×Int:=bif !bX w d j then(w,bQe,1) else bif !(oN w j).2.2.2 then(w,bQe,1) else bif !((F4 w d j o).2.1==0) then(bE4 w d j o,(aKa w d j o).2.1,2) else(O4 (bE4 w d j o) 1,(aKa w d j o).2.1,0)
def pX (w:AA)(d j:Int)(o:AO):AA×Int:=((jH w d j o).1,(jH w d j o).2.2)
def lN (w:AA)(d j:Int):AA×Int:=bif bX w d j&& !bR w d then pX w d j (O8 j) else(w,1)
def jC (o:AO):Bool:=fV o.Host&&bG o.Port 1 65535
def F5 (m:Int):Nat->Int->Int->Int->Int
 |0,_,_,s=>s
 |k+1,b,n,s=>if n>0 then F5 m k ((IntKind.i64.wrap (b*b)).tmod m) (n/2) (bif n%2==1 then(IntKind.i64.wrap (s*b)).tmod m else s) else s
def oO (x:Int):Bool:=bG x 1 2038&&F5 2039 11 x 1019 1==1
def fJ (g n:Int):Int:=bif oO g then F5 2039 11 g (cO n 1019) 1 else 0
def aCo (l v:Int):Int:=fJ 4 (IntKind.i64.wrap (1+((IntKind.i64.wrap (bO l [89,v]*bO l [89,v])).tmod 2147483647).tmod 1018))
def aCp (s l i:Int):Int:=fJ (aCo l i) s
def sN (e l:Int):Int:=jF (bO e [157,l])
def aWo (k m:Int):Int:=bif bG k 0 2147483647 then bGh .i64 k (aV m [251]) else 0
def Yg (o s:Int):Int:=bO o [257,s]
def Gy (c:Int)(l:List Int)(n:Int):List AX:=bif bG n 1 7&&decide ((l.length:Int)<n) then(List.range n.toNat).map λ(i:Nat)=>⟨(i:Int)+1,Gx c l ((i:Int)+1)⟩ else[]
def aKb (k:A3):AC:=⟨k,[],pO k⟩
def bE5 (pin salt key secret limit:Int):Bool:=bG pin 0 9999&&(bG salt 0 1000000&&(bZ key&&(!(cO secret 1019==0)&&bG limit 1 10)))
def Yh (pin salt key secret:Int)(cs:List Int)(n limit:Int):A4×List AC×Bool:=
 bif bE5 pin salt key secret limit&& !((Gy secret cs n).length==0) then(⟨salt,IntKind.i64.wrap ((cs.length:Int)+1),Yg (sN (aCp secret salt pin) salt) salt,aWo key (sN (aCp secret salt pin) salt)⟩,(Gy secret cs n).map (λs=>aKb ⟨s,0,0,limit⟩),true) else(⟨0,0,0,0⟩,[],false)
def dM (log:List AG)(bx:AP):AR×Bool:=bif bD log&&gY bx log then(⟨log,bx,[]⟩,true) else(⟨[],⟨0,[]⟩,[]⟩,false)
def Td (id:Int)(l:List AI):Nat:=(l.takeWhile λa=>decide (a.Id<id)).length
def vB (s:AB)(id m:Int):AB:={s with Accounts:=s.Accounts.take (Td id s.Accounts)++[⟨id,m,[]⟩]++s.Accounts.drop (Td id s.Accounts)}
def oP (s:AB)(id m:Int):AB×Bool:=bif cZ s&&cZ (vB s id m) then(vB s id m,true) else(s,false)
def zB (nm:ByteArray):Nat->List AD->AB->AB
 |_,[],s=>s
 |i,d::l,s=>zB nm (i+1) l (fC s 1 (i:Int) (eQ d.Store nm (i:Int))).1
def O9 (seed:Int)(l:List AD)(j:Int):AB:=zB (aB j) 0 l (oP (gM (aB j) (aV seed [281,j])) 1 3).1
def Gz (l:List AD)(seed:Int):List AB:=[O9 seed l 0,O9 seed l 1]
def bA (seed:Int):Nat->List AG
 |0=>[]
 |n+1=>(dP (bA seed n) 1 (aZ (aN seed (n:Int))) (aN seed 0)).1
def dQ (seed:Int)(n:Nat):List AD:=(List.range n).map λ(i:Nat)=>bQ (aN seed (i:Int))
def Yi (nm:ByteArray):Nat->AD->AD
 |0,d=>d
 |i+1,d=>(bN (Yi nm i d) nm (i:Int) false).1
def gU (seed:Int)(n:Nat):AP:=(bH (bA seed n) (bL seed 0) 1000).1
def Fy (seed:Int)(n:Nat)(d:AD):AD:=(nV d (bA seed n) (bL seed 0)).1
def mQ (seed:Int)(n:Nat):AD:=Yi (aB 1) n (Yi (aB 0) n (Fy seed n (bQ (aN seed 0))))
def nwW (seed:Int)(n:Nat):AD×AK×Bool:=dC (mQ seed n)
def jD (seed:Int)(n:Nat):AR:=(bW (dM (bA seed n) (gU seed n)).1 (nwW seed n).2.1).1
def aOv (seed:Int)(n:Nat)(d:AD):AD:=(dO (Fy seed n d) (bA seed n) (gU seed n) (nwW seed n).2.1).1
def mY (seed:Int)(n:Nat):List AD:=(nwW seed n).1::((dQ seed n).drop 1).map (aOv seed n)
def aOw (seed t:Int):List Int:=(List.range (t-1).toNat).map λ(k:Nat)=>aV seed [307,(k:Int)+1]
def aKc (seed t pin k:Int):A4×List AC×Bool:=Yh pin 7 (aV seed [283]) (IntKind.i64.wrap (1+(aV seed [293]).tmod 1018)) (aOw seed t) k 5
def aSt (n k t pin seed:Int):Bool:=bG n 1 3&&(bG k 1 7&&(bG t 1 k&&(bG pin 0 9999&&bZ seed)))
def bE6:AA:=⟨0,0,[],[],⟨[],⟨0,[]⟩,[]⟩,[],⟨0,0,0,0⟩,[],0,⟨[]⟩⟩
def gN (n k t pin seed:Int):AA:=bif aSt n k t pin seed then⟨0,seed,mY seed n.toNat,List.replicate n.toNat false,jD seed n.toNat,Gz (dQ seed n.toNat) seed,(aKc seed t pin k).1,(aKc seed t pin k).2.1,pin,⟨[]⟩⟩ else bE6
theorem bK9 {l:List Int}(h:l.Nodup)(e:AG):(mK l e).Nodup:=by
 grind[List.nodup_append,mK]
theorem bLa (log:List AG):(aG log).Nodup:=by
 have key:∀(l:List AG) (s:List Int),s.Nodup->(l.foldl mK s).Nodup:=by intro l;induction l<;>grind[bK9]
 exact key log [] gR
theorem bIg {e:Int}{d:List Int}:∀{i:Nat} {l:List Int},(fT e d i l).2=true->(fT e d i l).1.map (λb=>b.To)=l
 |_,[],_=>rfl
 |i,p::l,h=>by
  simp only[fT] at h ⊢;cases hc:(fQ p (IntKind.i64.wrap (e+(i:Int))) d).2&&(fT e d (i+1) l).2 with
  |false=>rw[hc] at h;cases h
  |true=>
   rw[ac] at hc;simp only[ae,bn,bIg hc.2];have:(fQ p (IntKind.i64.wrap (e+(i:Int))) d).1.To=p:=by
    have h1:=hc.1;unfold fQ at h1 ⊢;cases hq:iJ p==0||(!bZ (IntKind.i64.wrap (e+(i:Int)))||decide ((d.length:Int)>200)) with
    |true=>rw[hq] at h1;cases h1
    |false=>rfl
   rw[this]
theorem bC0:∀{l:List AQ} {d:Int} {s:Int},(l.map λb=>b.To).Nodup->0<=s->s<1000->l.foldl (λn b=>bif b.To==d then IntKind.i64.wrap (n+1) else n) s=s+(if d∈l.map (λb=>b.To) then 1 else 0)
 |[],d,s,_,_,_=>by simp
 |b::l,d,s,h,h0,h1=>by
  rw[bn,cr] at h;rw[cU];cases hc:b.To==d with
  |true=>
   have hd:b.To=d:=by simpa using hc
   have hn:d∉l.map (λb=>b.To):=hd▸h.1;have c:IntKind.i64.wrap (s+1)=s+1:=aJ (by omega) (by omega);have key:∀(l:List AQ) (s:Int),d∉l.map (λb=>b.To)->l.foldl (λn b=>bif b.To==d then IntKind.i64.wrap (n+1) else n) s=s:=by
    intro l;induction l with
    |nil=>exact λ_ _=>rfl
    |cons x l f=>
     intro s a;simp only[bn,bg,not_or] at a;have:(x.To==d)=false:=by simpa using λe=>a.1 e.symm
     rw[cU,this,aa];exact f s a.2
   rw[ae,key l _ hn,c,bn,cR (by simp[hd])]
  |false=>
   have hd:¬b.To=d:=by simpa using hc
   rw[aa,bC0 h.2 h0 h1,bn];have:(d∈b.To::l.map λb=>b.To)↔d∈l.map λb=>b.To:=by rw[bg];exact⟨λh=>h.resolve_left λe=>hd e.symm, .inr⟩
   simp only[this]
theorem aZs {log:List AG}{k e:Int}(h:(bH log k e).2=true):gY (bH log k e).1 log=true:=by
 unfold bH at h ⊢;cases hc: !bD log||(!bZ k|| !(fT e (mV [aQ log,k]) 0 (aG log)).2) with
 |true=>simp_all
 |false=>
  simp only[bp,dm] at hc
  grind[bC0,bLa,gY,qY,List.all_eq_true,List.length_map,List.length,bIg]
theorem bQf {log:List AG}{k e:Int}(h:(bH log k e).2=false):(bH log k e).1=⟨0,[]⟩:=by
 grind[bD,bZ,fT,mV,aQ,aG,bH]
def bC1 {d:AD}{log:List AG}{bx:AP}{s:AK}(h:(qX d log bx s==0)=false):(dO d log bx s).1=d:=by
 grind[dO]
def bTy (d:AD)(bx:AP)(s:AK):(dO d [] bx s).1=d:=bC1 rfl
theorem cA9 (s:AJ):(eY s ⟨0,[]⟩).2=false:=rfl
def bLb {log:List AG}{key e:Int}{s:AK}(hs:s=⟨0,0,[],0⟩\/s.Epoch=aQ log)(d:AD):
  (dO d (bW (dM log (bH log key e).1).1 s).1.Log (bW (dM log (bH log key e).1).1 s).1.Boxes (iG (bW (dM log (bH log key e).1).1 s).1 0).1).1=(dO d log (bH log key e).1 s).1:=by
 cases hc:bD log&&gY (bH log key e).1 log with
 |true=>
  have b:(dM log (bH log key e).1).1=⟨log,(bH log key e).1,[]⟩:=by grind[dM]
  rw[b];cases hq:s.Epoch !=aQ log with
  |true=>
   have c:s=⟨0,0,[],0⟩:=by simp_all
   have a:(bW ⟨log,(bH log key e).1,[]⟩ s).1=⟨log,(bH log key e).1,[]⟩:=by
    grind[bH,bW]
   rw[a,c];rfl
  |false=>
   have a:(bW ⟨log,(bH log key e).1,[]⟩ s).1=⟨log,(bH log key e).1,[s]⟩:=by
    grind[bH,bW]
   rw[a];rfl
 |false=>
  have b:(dM log (bH log key e).1).1=⟨[],⟨0,[]⟩,[]⟩:=by grind[dM]
  have a:(bW (dM log (bH log key e).1).1 s).1.Log=[]:=by rw[(tC _ _).2,b]
  rw[a,bTy];refine(bC1 ?_).symm;cases hl:bD log with
  |false=>grind[qX,Bool.not_false]
  |true=>
   grind[dR,jM,aG,aZ,qX,cA9,Bool.not_true,Bool.not_false,bQf,bH,aZs]
theorem aUt (nm:ByteArray):∀(i:Nat) (d:AD),(Yi nm i d).sz<=d.sz+i
 |0,d=>ak _
 |i+1,d=>by have h1:=aUt nm i d;grind[bN,Yi,Sw]
theorem tF (seed:Int):∀n:Nat,(bA seed n).length<=n
 |0=>ak _
 |n+1=>by have h1:=tF seed n;grind[dP,bA,aZ,aN,lX]
theorem aUu (seed:Int)(n:Nat)(d:AD):(Fy seed n d).sz<=d.sz+n:=by have h1:=aJ9 d (bA seed n) (bL seed 0);have h2:=tF seed n;show(nV d (bA seed n) (bL seed 0)).1.sz<=_;omega
theorem aOx (s:AJ):(bQ s).sz=0:=rfl
def aWq (seed:Int)(n:Nat):(mQ seed n).sz<=3*n:=by
 grind[mQ,aOx,aUu,bQ,aN,aUt,aB,Fy,Yi]
theorem aWr (seed:Int)(n:Nat):(gU seed n).sz<=13*n:=by
 grind[gU,tF,yH,bA,bL]
theorem P5 (log:List AG)(bx:AP):(dM log bx).1.sz<=log.length+bx.sz:=by
 grind[bD,gY,bx,AR.sz,AP.sz,List.length_nil,dM]
def aWs (seed:Int)(n:Nat):(jD seed n).sz<=14*n+501:=by
 grind[jD,nwW,Gi,mQ,tF,aWr,P5,bA,gU,tC,dM]
theorem bQg (seed:Int)(n:Nat)(d:AD):(aOv seed n d).sz<=d.sz+2*n+20:=by
 grind[aOv,tF,aUu,aGs,Fy,bA,gU,nwW]
def bLc {α:Type}{f:α->Nat}{b:Nat}:∀{l:List α},(∀x∈l,f x<=b)->(l.map f).sum<=l.length*b
 |[],_=>ct _
 |x::l,h=>by
  have h1:=h x (by simp);have h2:=bLc (l:=l) (f:=f) (b:=b) λy a=>h y (by simp[a]);simp only[bn,dt,aq,dr];omega
theorem aGv (nm:ByteArray):∀(i:Nat) (l:List AD) (s:AB),(zB nm i l s).sz<=s.sz+l.length
 |_,[],s=>ak _
 |i,d::l,s=>by
  have h1:=aGv nm (i+1) l (fC s 1 (i:Int) (eQ d.Store nm (i:Int))).1
  grind[List.length_cons,zB,fC,eQ,bCu]
def aWt (s:AB)(id m:Int):(oP s id m).1.sz<=s.sz+1:=by
 unfold oP;cases cZ s&&cZ (vB s id m) with
 |false=>simp
 |true=>
  grind[vB,AB.sz,List.length_append,List.length_cons,List.length_nil,AI.sz,Td,id,List.take_append_drop]
def aR0 (nm:ByteArray)(s:Int):(gM nm s).sz<=nm.size:=by
 unfold gM;cases lJ nm s with
 |true=>simp[AB.sz]
 |false=>exact ct _
def aR1 (seed:Int)(l:List AD)(j:Int):(O9 seed l j).sz<=l.length+101:=by
 have h1:=aGv (aB j) 0 l (oP (gM (aB j) (aV seed [281,j])) 1 3).1;have h2:=aWt (gM (aB j) (aV seed [281,j])) 1 3;have a:=aR0 (aB j) (aV seed [281,j]);have b:(aB j).size<=100:=by unfold aB;cases j==0<;>cases j==1<;>decide
 grind[O9]
def bC2 (c:Int)(l:List Int)(n:Int):(Gy c l n).length<=7:=by
 grind[bG,decide,jK,List.length_map,List.length_range,Gy]
def bE7 (pin salt key secret:Int)(cs:List Int)(n limit:Int):(Yh pin salt key secret cs n limit).2.1.length<=7/\((Yh pin salt key secret cs n limit).2.1.map AC.sz).sum=0:=by
 unfold Yh;cases bE5 pin salt key secret limit&& !((Gy secret cs n).length==0) with
 |false=>simp
 |true=>refine⟨by simp only[ae,bf];exact bC2 _ _ _,?_⟩;have:=bLc (f:=AC.sz) (b:=0) (l:=(Gy secret cs n).map λs=>aKb ⟨s,0,0,limit⟩) (λx a=>by obtain⟨s,_,rfl⟩:=cq.1 a;exact ak _);simp_all
def bIh (n k t pin seed:Int):(gN n k t pin seed).sz<=100000:=by
 unfold gN;cases hc:aSt n k t pin seed with
 |false=>exact ct _
 |true=>
  simp only[aSt,ac] at hc;have hn:=jK hc.1;obtain⟨N,c⟩:∃N,N=n.toNat:=⟨_,rfl⟩;have d:N<=3:=by omega
  have h1:=Gi (mQ seed N);have h2:=aWq seed N;have m:=aWs seed N;have o:=aR1 seed (dQ seed N) 0;have p:=aR1 seed (dQ seed N) 1;have e:=bE7 pin 7 (aV seed [283]) (IntKind.i64.wrap (1+(aV seed [293]).tmod 1018)) (aOw seed t) k 5;have a:(dQ seed N).length=N:=by simp[dQ]
  have h:=bLc (f:=AD.sz) (b:=26) (l:=((dQ seed N).drop 1).map (aOv seed N)) (by grind[List.mem_of_mem_drop,dQ,bQg,bQ,aN,aOx]);have i:(nwW seed N).1.sz=(mQ seed N).sz:=h1.1;have j:(aKc seed t pin k).2.1.length<=7/\((aKc seed t pin k).2.1.map AC.sz).sum=0:=e;rw[bf,cm,a] at h;simp only[ae,<-c,AA.sz,mY,Gz,aq,bf,cm,a,bn,dt,bc,e9,List.sum_nil,fe,i]
  grind[AR.sz,AP.sz,Nat.mul_le_mul_right,jD]
def bQh (d:AD)(n:ByteArray)(h:Int)(rm:Bool):(bN d n h rm).1.Key=d.Key/\(bN d n h rm).1.Epoch=d.Epoch:=by unfold bN;cases(Fx d n h rm).2<;>exact⟨rfl,rfl⟩
def bE8 (nm:ByteArray):∀(i:Nat) (d:AD),(Yi nm i d).Key=d.Key/\(Yi nm i d).Epoch=d.Epoch
 |0,d=>⟨rfl,rfl⟩
 |i+1,d=>by
  simp[bQh,Yi,bE8]
def bLd (seed:Int)(n:Nat):(mQ seed n).Key=(Fy seed n (bQ (aN seed 0))).Key/\(mQ seed n).Epoch=(Fy seed n (bQ (aN seed 0))).Epoch:=by obtain⟨h1,h2⟩:=bE8 (aB 1) n (Yi (aB 0) n (Fy seed n (bQ (aN seed 0))));obtain⟨a,b⟩:=bE8 (aB 0) n (Fy seed n (bQ (aN seed 0)));exact⟨h1.trans a,h2.trans b⟩
theorem bLe {seed:Int}{n:Nat}(h:bZ (Fy seed n (bQ (aN seed 0))).Key=true):(Fy seed n (bQ (aN seed 0))).Epoch=aQ (bA seed n):=by
 unfold Fy nV at h ⊢;cases hq: !bD (bA seed n)||(!dR (bA seed n) (bQ (aN seed 0)).Log||(decide (aQ (bA seed n)<(bQ (aN seed 0)).Epoch)|| !bZ (bL seed 0))) with
 |true=>rw[hq] at h;exact absurd (show bZ 0=true from h) (by decide)
 |false=>rfl
def bQi (seed:Int)(n:Nat):(nwW seed n).2.1=⟨0,0,[],0⟩\/(nwW seed n).2.1.Epoch=aQ (bA seed n):=by
 obtain⟨k1,k2⟩:=bLd seed n;unfold nwW dC;generalize mQ seed n=d at k1 k2 ⊢;cases hs:(mE d.Key d.Epoch (IntKind.i64.wrap (d.Version+1)) d.aAE).2 with
 |false=>simp
 |true=>
  refine .inr ?_;simp only[ae];unfold mE at hs ⊢;cases hc:bZ d.Key&&(bG d.Epoch 0 1000000&&bG (IntKind.i64.wrap (d.Version+1)) 0 1000000)&&aO d.aAE with
  |false=>grind
  |true=>
   simp only[ac] at hc;show d.Epoch=_
   grind[bLe,k1,k2]
def bXa (seed:Int)(n:Nat)(d:AD):(dO (Fy seed n d) (jD seed n).Log (jD seed n).Boxes (iG (jD seed n) 0).1).1=aOv seed n d:=bLb (bQi seed n) (Fy seed n d)
def Te (f:Int->Int)(l:List Int)(j:Nat)(x:Int):Bool:=(l.take j).any λq=>f q==f x
def aKd (s:AX)(e:Int):Int:=bif oO e&&(!(e==1)&&bG s.Value 0 1018) then fJ e s.Value else 0
def mZ (k:A3)(e:Int):A3×Int×Bool:=bif jW k&&(!(k.Guesses==k.Limit)&&(oO e&& !(e==1))) then({k with Guesses:=IntKind.i64.wrap (k.Guesses+1)},aKd k.aAP e,true) else(k,0,false)
def bXb (l:List A3):List A3:=bif decide ((l.length:Int)>30) then l.drop 1 else l
def rP (h:AC)(e:Int):AC×Int×Bool:=bif decide (pO h.State<h.Monotonic)|| !(mZ h.State e).2.2 then(h,0,false) else(⟨(mZ h.State e).1,bXb (h.Saved++[h.State]),pO (mZ h.State e).1⟩,(mZ h.State e).2.1,true)
def fK (l i b:Int):Int:=bif cO b 1019==0 then 0 else fJ (aCo l i) b
def P6 (hs:List AC)(a:List Int)(i:Nat)(c:Int):Bool:=(decide (c<0)||decide (c>=(hs.length:Int)))||Te (λq=>q) a i c
def lQ (hs:List AC)(a:List Int):Bool:= !eF (P6 hs a) 0 a
def bE9 (e:Int)(s:List AC×List Int×List Int)(c:Int):List AC×List Int×List Int:=
 (s.1.set c.toNat (rP (s.1.getD c.toNat default) e).1,bif (rP (s.1.getD c.toNat default) e).2.2 then s.2.1++[(rP (s.1.getD c.toNat default) e).1.State.aAP.Index] else s.2.1,bif (rP (s.1.getD c.toNat default) e).2.2 then s.2.2++[(rP (s.1.getD c.toNat default) e).2.1] else s.2.2)
def rC (hs:List AC)(a:List Int)(e:Int):List AC×List Int×List Int:=a.foldl (bE9 e) (hs,[],[])
def zS (n:Int):Int:=bif cO n 1019==0 then 0 else F5 1019 11 (cO n 1019) 1017 1
def aKe (l:List Int)(k a w:Int)(j:Nat):Int:=bif (j:Int)==k then w else(IntKind.i64.wrap ((IntKind.i64.wrap (w*cO (IntKind.i64.wrap (cO a 1019-cO (l.getD j 0) 1019)) 1019)).tmod 1019*zS (IntKind.i64.wrap (cO (l.getD k.toNat 0) 1019-cO (l.getD j 0) 1019)))).tmod 1019
def Ga (l:List Int)(k a:Int):Int:=bif (decide (k<0)||decide (k>=(l.length:Int)))||eF (Te (λq=>cO q 1019) l) 0 l then 0 else(List.range l.length).foldl (aKe l k a) 1
def lZ (a b:Int):Int:=bif oO a&&oO b then(IntKind.i64.wrap (a*b)).tmod 2039 else 0
def rD (ix vs:List Int)(i:Nat)(x:Int):Bool:= !bG x 1 7||(!oO (vs.getD i 0)||Te (λq=>q) ix i x)
def bNq (ix vs:List Int):Int:=(List.range vs.length).foldl (λo i=>lZ o (fJ (vs.getD i 0) (Ga ix (i:Int) 0))) 1
def nM (ix vs:List Int):Int×Bool:=bif (!(ix.length==vs.length)||ix.length==0)||eF (rD ix vs) 0 ix then(0,false) else(bNq ix vs,true)
def aKf (c b:Int):Int:=bif cO b 1019==0 then 0 else fJ c (zS b)
def aGw (v:A4)(o:Int):Int×Bool:=bif Yg o v.Salt==v.Check then(aWo v.Masked o,true) else(0,false)
def kG (v:A4)(hs:List AC)(a:List Int)(pin b:Int):List AC×List Int×List Int:=rC hs a (fK v.Salt pin b)
def aWu (hs:List AC)(a:List Int)(pin b:Int):Bool:=lQ hs a&&(!(cO b 1019==0)&&bG pin 0 9999)
def Cs (v:A4)(hs:List AC)(a:List Int)(pin b:Int):List AC×Int×Bool:=
 bif !aWu hs a pin b then(hs,0,false) else
 bif decide ((a.length:Int)<v.Threshold)||(decide ((kG v hs a pin b).2.2.length<a.length)|| !(nM (kG v hs a pin b).2.1 (kG v hs a pin b).2.2).2) then((kG v hs a pin b).1,0,false) else
  ((kG v hs a pin b).1,aGw v (sN (aKf (nM (kG v hs a pin b).2.1 (kG v hs a pin b).2.2).1 b) v.Salt))
def Ml (v:A4)(hs:List AC)(a:List Int)(pin b:Int)(i:Nat):AC×Int×Bool:=rP (((a.take i).foldl (bE9 (fK v.Salt pin b)) (hs,([]:List Int),([]:List Int))).1.getD (a.getD i 0).toNat default) (fK v.Salt pin b)
def vC (v:A4)(hs:List AC)(a:List Int)(pin b:Int)(n:Nat):List Int:=(List.range n).map λi=>(Ml v hs a pin b i).1.State.aAP.Index
def vD (v:A4)(hs:List AC)(a:List Int)(pin b:Int)(n:Nat):List Int:=(List.range n).map λi=>(Ml v hs a pin b i).2.1
def bNr (v:A4)(hs:List AC)(a:List Int)(pin b:Int):List Int:=vC v hs a pin b a.length
def bNs (v:A4)(hs:List AC)(a:List Int)(pin b:Int):List Int:=vD v hs a pin b a.length
def bTz (v:A4)(hs:List AC)(a:List Int)(pin b:Int):Bool:=aWu hs a pin b&&(kG v hs a pin b).2.2.length==a.length
def bNt (v:A4)(hs:List AC)(a:List Int)(pin b:Int):List AC×Int×Bool×Bool:=((Cs v hs a pin b).1,(Cs v hs a pin b).2.1,(Cs v hs a pin b).2.2,bTz v hs a pin b)
def bT0 (w:AA):Int:=IntKind.i64.wrap (1+(aV w.Seed [313,w.Now]).tmod 1018)
def iP (w:AA)(a:List Int)(pin:Int):AA×Int×Bool:=bif !aK w then(w,0,false) else
 (O4 {w with Hosts:=(Cs w.aAO w.Hosts a pin (bT0 w)).1} 5,(Cs w.aAO w.Hosts a pin (bT0 w)).2)
def Cb (w:AA):List Int:=(List.range (min w.aAO.Threshold ((w.Hosts.length:Int)+1)).toNat).map λ(i:Nat)=>(i:Int)
def zC (w:AA)(pin:Int):AA×Bool:=((iP w (Cb w) pin).1,(iP w (Cb w) pin).2.2)
def aKg {f:Int->Int}{l:List Int}{j:Nat}(hj:j<l.length)(hl:l.length<=1099511627776){τ:Type}(a b:τ){F:(Nat->Option τ)->Nat->Option τ}
  (c:∀rec i (hi:i<j),F rec i=bif f (l[i]'(by omega))==f l[j] then some a else rec (i+1)) (d:∀rec,F rec j=some b):EV.bI FUEL F 0=some (bif Te f l j l[j] then a else b):=by
 have hlen:(l.take j).length=j:=by grind
 exact mJ (l:=l.take j) (λq=>f q==f l[j]) a b (by omega) (by simp_all) (by simp[*])
def bT1 {p:Nat->Int->Bool}{l:List Int}{i:Nat}(hi:i<l.length)(h:eF p 0 (l.take i)=false)(h2:p i l[i]=false):eF p 0 (l.take (i+1))=false:=by
 grind[List.length_take,sI]
def cBa {p:Nat->Int->Bool}{l:List Int}{i:Nat}(hi:i<l.length)(h:p i l[i]=true):eF p 0 l=true:=(by grind[sI])
def bXc:((List.range 1019).all λ(x:Nat)=>x==0||((x:Int)*F5 1019 11 (x:Int) 1017 1)%1019==1&&bG (F5 1019 11 (x:Int) 1017 1) 1 1018)=true:=by kernel_rfl
def cBb {x:Int}(h0:0<x)(h1:x<1019):(x*F5 1019 11 x 1017 1)%1019=1/\1<=F5 1019 11 x 1017 1/\F5 1019 11 x 1017 1<=1018:=by have:=cx.1 bXc x.toNat (by grind);rw[show((x.toNat:Nat):Int)=x by omega,cf.2 (show x.toNat≠0 by omega),cC,ac] at this;have hr:=jK this.2;simp_all
def bT2 {x m n:Int}(hm:0<=m/\m<1019)(hn:0<=n/\n<1019)(h1:(x*m)%1019=1)(h2:(x*n)%1019=1):m=n:=by
 have e:n*(x*m)=m*(x*n):=by rw[<-gm,<-gm,gx n x,gx m x,gm,gm,gx n m]
 have a:x*m=1+1019*(x*m/1019):=by omega
 have b:x*n=1+1019*(x*n/1019):=by omega
 rw[a,b,Int.mul_add,Int.mul_add,Int.mul_one,Int.mul_one] at e
 grind
def bT3 {n:Int}:cO n 1019=n%1019:=cR (by decide)
def bQj {n m:Int}(h:cO n 1019=cO m 1019):zS n=zS m:=by unfold zS;rw[h]
def bNu (h:AC)(e:Int):(rP h e).1.sz<=h.sz+1:=by
 grind[decide,pO,mZ,AC.sz,bXb,List.length_drop,List.length_append,List.length_cons,List.length_nil,rP]
def nN (e:Int)(hs:List AC)(a:List Int)(i:Nat):List AC×List Int×List Int:=(a.take i).foldl (bE9 e) (hs,[],[])
def Ha {e:Int}{hs:List AC}{a:List Int}{i:Nat}(hi:i<a.length):nN e hs a (i+1)=bE9 e (nN e hs a i) a[i]:=by
 grind[List.take_add_one,List.getElem?_eq_getElem,nN]
def cBc {hs:List AC}{h:AC}(hm:h∈hs):h.sz<=uY AC.sz hs:=by
 grind[aGm,AC.sz]
structure AskIn (B:Nat) (hs:List AC) (i:Nat) (s:List AC×List Int×List Int):Prop where
 len:s.1.length=hs.length
 sz:∀h∈s.1,h.sz<=B+i
 eq:s.2.1.length=s.2.2.length
 le:s.2.2.length<=i
def aCq {hs:List AC}{a:List Int}(h:lQ hs a=true){i:Nat}(hi:i<a.length):0<=a[i]/\a[i]<(hs.length:Int):=by
 grind[Gw,Bool.or_eq_false_iff,P6,Bool.not_eq_true',sI,lQ]
def P7 {e:Int}{hs:List AC}{a:List Int}(h:lQ hs a=true):∀i,i<=a.length->AskIn (uY AC.sz hs) hs i (nN e hs a i)
 |0,_=>⟨rfl,λh hm=>by have:h∈hs:=hm;have:=cBc this;omega,rfl,ak _⟩
 |i+1,hi=>by
  obtain⟨h1,h2,c,d⟩:=P7 (e:=e) h i (by omega);have hc:=aCq h (i:=i) hi;rw[Ha hi];generalize nN e hs a i=s at*;have hk:a[i].toNat<s.1.length:=by omega
  have hg:s.1.getD a[i].toNat default=s.1[a[i].toNat]:=by simp[List.getD,ab hk]
  have f:=h2 _ (cp hk);have j:=bNu s.1[a[i].toNat] e;unfold bE9;rw[hg];refine⟨by simp[h1],λx b=> ?_,?_,?_⟩
  ·rcases jo b with b|rfl
   ·have:=h2 x b;omega
   ·omega
  ·cases(rP s.1[a[i].toNat] e).2.2<;>simp[c]
  ·cases(rP s.1[a[i].toNat] e).2.2<;>simp<;>omega
def aGx (w:AA):(Cb w).length<=w.Hosts.length+1:=by
 grind[List.length_map,List.length_range,Cb]
def bIi {α:Type}[Inhabited α]{f:α->Nat}{x:α}:∀{l:List α} {i:Nat},i<l.length->f x<=f (l.getD i default)+1->((l.set i x).map f).sum<=(l.map f).sum+1
 |y::l,0,_,h=>by
  simp only[List.getD,fN,cJ] at h;simp only[ij,bn,dt];omega
 |y::l,i+1,hi,h=>by
  have:=bIi (f:=f) (l:=l) (i:=i) (x:=x) (by simpa using hi) (by simpa[List.getD] using h);simp only[gk,bn,dt];omega
def bNv {e:Int}{hs:List AC}{a:List Int}(h:lQ hs a=true):∀i,i<=a.length->((nN e hs a i).1.map AC.sz).sum<=(hs.map AC.sz).sum+i
 |0,_=>ak _
 |i+1,hi=>by
  have c:=bNv (e:=e) h i (by omega);have b:=P7 (e:=e) h i (by omega);have hc:=aCq h (i:=i) hi;rw[Ha hi];generalize nN e hs a i=s at*;have hk:a[i].toNat<s.1.length:=by have:=b.len;omega
  have:=bIi (f:=AC.sz) hk (bNu (s.1.getD a[i].toNat default) e);unfold bE9;simp only;omega
theorem bNw (v:A4)(hs:List AC)(a:List Int)(pin b:Int):(Cs v hs a pin b).1.length=hs.length/\((Cs v hs a pin b).1.map AC.sz).sum<=(hs.map AC.sz).sum+a.length:=by
 unfold Cs;cases hm:aWu hs a pin b with
 |false=>simp
 |true=>
  have hc:lQ hs a=true:=by
   grind[aWu]
  have hs1:=bNv (e:=fK v.Salt pin b) hc a.length (ak _);have c:=(P7 (e:=fK v.Salt pin b) hc a.length (ak _)).len;unfold nN at hs1 c;rw[cG] at hs1 c;simp only[aj,aa];cases decide ((a.length:Int)<v.Threshold)||(decide ((kG v hs a pin b).2.2.length<a.length)|| !(nM (kG v hs a pin b).2.1 (kG v hs a pin b).2.2).2)<;>exact⟨c,hs1⟩
def bXd (w:AA)(a:List Int)(pin:Int):(iP w a pin).1.sz<=w.sz+a.length+1:=by
 grind[aK,Bool.not_false,q1,q2,bNw,bT0,Ye,Cs,Bool.not_true,AA.sz,iP]
def kH (w:AA)(d:Int):AA×Bool:=bif bX w d 0&& !bR w d then({w with Stolen:=w.Stolen.set d.toNat true},true) else(w,false)
def lS (b:AN)(now:Int):AN:=bif dK b then {b with Open:=b.Open.filter λc=>decide (c.Until>=now)} else b
def vE (w:AA):AA:={w with Now:=IntKind.i64.wrap (w.Now+1)}
def Mo (w:AA):AA×Bool:=bif aK (vE w) then({vE w with Sites:=w.Sites.map λs=>{s with Book:=lS s.Book (vE w).Now}},true) else(w,false)
def He (w:AA)(d j:Int):AA×Int:=bif bX w d j&&bR w d then pX w d j (O8 j) else(w,1)
def mD (w:AA)(d j:Int):AA×Int:=bif bX w d j&& !bR w d then pX w d j (aGu j) else(w,1)
def cEs:ByteArray:=⟨#[97,46,110,101,116]⟩
def aWv (w:AA)(k d o v:Int)(f:Bool):AA×Bool:=
 bif !aK w then(w,false) else
 bif k==1 then Mo w else
 bif k==2 then((lN w d o).1,(lN w d o).2==0) else
 bif k==3 then((mD w d o).1,(mD w d o).2==0) else
 bif k==4 then kH w d else
 bif k==5 then((He w d o).1,(He w d o).2==0) else
 bif k==6 then fP w d else
 bif k==7 then fF w d o else
 bif k==8 then pR w d cEs v f else
 bif k==9 then eP w d else
 bif k==10 then((aH w d v).1,(aH w d v).2==0) else
 bif k==11 then zC w v else
 bif k==12 then fH w else
 bif k==13 then gI w o v else(w,false)
def bFa (l:List Int):Prop:=okL (λn:Int=>0<=n/\n<=255) l
noncomputable instance (l:List Int):Decidable (bFa l):=Classical.propDecidable _
def bQk (l:List Int):Bool:=decide ((l.length:Int)>1048576)
def bFb (b:AP):Prop:=∀x∈b.Boxes,aU x.Data
def yI (c:AR):Prop:=bFb c.Boxes/\∀s∈c.History,aU s.Data
instance (b:AP):Decidable (bFb b):=inferInstanceAs (Decidable (∀x∈b.Boxes,aU x.Data))
instance (c:AR):Decidable (yI c):=inferInstanceAs (Decidable (_/\_))
def bB (c:AM):Prop:=0<=c.i/\c.b.length<=1048576
instance (c:AM):Decidable (bB c):=by unfold bB;infer_instance
def bXe (h:Int):Int:=IntKind.i64.wrap (IntKind.i64.wrap (h*6364136223846793005)+1442695040888963407)
def bYg (h:Int):Int:=rT IntKind.i64 (bGh IntKind.i64 (Ri IntKind.i64 h 33) (Ri IntKind.i64 h 47)) 255
def mF (c:AM):AM×Int:=bif decide (c.i<(c.b.length:Int)) then(⟨c.b,IntKind.i64.wrap (c.i+1),bXe c.h⟩,rT IntKind.i64 (IntKind.i64.wrap (bYg (bXe c.h)+IntKind.i64.wrap (c.b.getD c.i.toNat 0))) 255) else(⟨c.b,c.i,bXe c.h⟩,bYg (bXe c.h))
def bS (c:AM)(n:Int):AM×Int:=bif decide (n<=0) then(c,0) else bif decide (n<=256) then((mF c).1,(mF c).2.tmod n) else
 ((mF (mF (mF c).1).1).1,(IntKind.i64.wrap (IntKind.i64.wrap (IntKind.i64.wrap ((mF c).2*65536)+IntKind.i64.wrap ((mF (mF c).1).2*256))+(mF (mF (mF c).1).1).2)).tmod n)
def mG (c:AM)(n:Int):AM×Bool:=((bS c n).1,(bS c n).2==0)
def F6 (c:AM)(l:List Int):AM×Int:=((bS c (l.length:Int)).1,l.getD (bS c (l.length:Int)).2.toNat 0)
def aWw (c:AM):AM×Int:=bif (mG c 10).2 then F6 (mG c 10).1 [0,-1,1,2147483646,2147483647] else((bS (mG c 10).1 99999).1,IntKind.i64.wrap (1+(bS (mG c 10).1 99999).2))
def eA (c:AM):AM×Int:=bS c 13
def eB (c:AM):AM×Int:=bS (eA c).1 4
def eC (c:AM):AM×Int:=bS (eB c).1 3
def eD (c:AM):AM×Int:=bS (eC c).1 4
def eE (c:AM):AM×Bool:=mG (eD c).1 3
def eK (c:AM):Int:=IntKind.i64.wrap (1+(eA c).2)
def aGy (c:AM):AM×AS:=
 bif eK c==11 then((bS (eE c).1 40).1,⟨eK c,(eB c).2,(eC c).2,(bS (eE c).1 40).2,(eE c).2⟩) else
 bif eK c==4||eK c==13 then((mG (eE c).1 2).1,⟨bif (mG (eE c).1 2).2 then 2 else eK c,(eB c).2,(eC c).2,(eD c).2,(eE c).2⟩) else
 ((eE c).1,⟨eK c,(eB c).2,(eC c).2,(eD c).2,(eE c).2⟩)
def aZo (e:AS):Prop:=(1<=e.Kind/\e.Kind<=13)/\(0<=e.Device/\e.Device<=3)/\(0<=e.Other/\e.Other<=2)/\(0<=e.Value/\e.Value<=39)/\(e.Kind≠11->e.Value<=3)
def Yj (w:AA)(d j:Int)(h:ByteArray):AA×Int:=bif bX w d j&& !bR w d then pX w d j ⟨true,h,443⟩ else(w,1)
def Ro (w:AA)(d j:Int)(h:ByteArray):Prop:=bX w d j=true->iX ⟨true,h,443⟩
noncomputable instance (w:AA) (d j:Int) (h:ByteArray):Decidable (Ro w d j h):=Classical.propDecidable _
def aGz (w:AA)(e:AS):AA×Bool:=
 bif e.Kind==2 then((lN w e.Device e.Other).1,(lN w e.Device e.Other).2==0) else
 bif e.Kind==3 then((mD w e.Device e.Other).1,(mD w e.Device e.Other).2==0) else((He w e.Device e.Other).1,(He w e.Device e.Other).2==0)
def aWx (w:AA)(e:AS):AA×Bool:=
 bif e.Kind==11 then zC w e.Value else bif e.Kind==12 then fH w else bif e.Kind==13 then gI w e.Other e.Value else(w,false)
def yZ (w:AA)(e:AS):AA×Bool:=aWv w e.Kind e.Device e.Other e.Value e.Flag
def runN (w:AA)(l:List AS):Nat->AA
 |0=>w
 |k+1=>(yZ (runN w l k) (l.getD k default)).1
def bT4 (w:AA)(l:List AS):AA:=runN w l (min l.length 60)
def Tf (w:AA)(l:List AS):Prop:=w.sz<=34359738368/\∀k,k<min l.length 60->(runN w l k).sz<=99000000
noncomputable instance (w:AA) (l:List AS):Decidable (Tf w l):=Classical.propDecidable _
def flW (w:AA):Int×Int×List AD×List Bool×List AG×Int×List AQ×List AK×List AB×Int×Int×Int×Int×List AC×Int×List AU:=(w.Now,w.Seed,w.Devices,w.Stolen,w.aAF.Log,w.aAF.Boxes.Epoch,w.aAF.Boxes.Boxes,w.aAF.History,w.Sites,w.aAO.Salt,w.aAO.Threshold,w.aAO.Check,w.aAO.Masked,w.Hosts,w.Pin,w.Mail.Notices)
def bT5 (w:AA)(l:List AS)(k:Nat):Bool:=(yZ (runN w l k) (l.getD k default)).2
def Zd (w:AA)(l:List AS):List Bool:=(List.range (min l.length 60)).map (bT5 w l)
def bQl (q:Int)(w:AA)(l:List AS):Nat->Nat
 |0=>0
 |k+1=>bQl q w l k+bif bT5 w l k&&(l.getD k default).Kind==q then 1 else 0
def aWy (w:AA)(l:List AS)(q:Int):Int:=bQl q w l (min l.length 60)
def cntF (w:AA)(j:Int):Int:=bif iW w j then((w.Sites.getD j.toNat default).Logins.length:Int) else 0
end Go.VK
