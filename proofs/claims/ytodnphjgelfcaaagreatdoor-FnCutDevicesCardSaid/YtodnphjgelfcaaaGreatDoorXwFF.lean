import Derived.Test.YtodnphjgelfcaaaGreatDoorEVyltod
import Derived.Test.YtodnphjgelfcaaaGreatDoorXwS
/- Printed by wip/tools: models, walks, proofs. -/
set_option linter.all false
set_option maxRecDepth 100000
set_option maxHeartbeats 4000000
namespace Go.VK
open Go.RowKit Go.Proofs D
def Rq (k:A3):Int:=IntKind.i64.wrap (IntKind.i64.wrap (k.Epoch*1000)+k.Guesses)
theorem bBh {h v:Int}(h0:0<=h)(h1:h<2147483647):0<=hstep h v/\hstep h v<2147483647:=by
 grind[Int.tmod_nonneg,Int.tmod_lt_of_pos,aM,jH,hstep,zN]
def bBi (l:List Int):0<=xH l/\xH l<2147483647:=by
 unfold xH
 suffices ∀(l:List Int) (h:Int),0<=h->h<2147483647->0<=l.foldl hstep h/\l.foldl hstep h<2147483647 from(by grind)
 intro l;induction l<;>grind[bBh]
theorem mR (k:Int)(l:List Int):0<=bU k l/\bU k l<2147483647:=bBi _
def aYx (a b:Int):Int:=bif decide (b>a) then b else a
def zX (a:List Int)(r:List (List Int)):List Int:=a++r.flatten
def jX (n:Int):Int:=bif n==0 then 1 else n
def bL (n:Int):Bool:=bX n 1 2147483646
def Gx (b:List Int):List Int:=[(b.length:Int)]++b.map IntKind.i64.wrap
def aV (seed:Int)(l:List Int):Int:=jX (bU seed ([151]++l))
def oK (k:Int)(s:ByteArray):Int:=jX (bU k (Gx (cO s)))
def dQ (p:Int):Int:=bif !(bL p) then 0 else(IntKind.i64.wrap (p*48271)).tmod 2147483647
def iO (s:AJ):Int:=aV s.Seed [181]
def aS (s:AJ):Int:=dQ (iO s)
def iW (l:List Int)(x:Int):Bool:=l.any λe=>e==x
def dW (log:List AD)(p:Int):Bool:=log.any λe=>e.Kind==2&&e.Device==p
def jC (s:List Int)(e:AD):List Int:=
 bif e.Kind==1 then(bif s.contains e.Device then s else s++[e.Device]) else bif e.Kind==2 then s.filter (λd=>d !=e.Device) else s
def aC (log:List AD):List Int:=log.foldl jC []
def aB (log:List AD):Int:=log.foldl (λn e=>bif e.Kind==2 then IntKind.i64.wrap (n+1) else n) 0
def aN (b:AC)(site a:Int):Int:=kW (λe=>e.Site==site&&e.Handle==a) 0 b.Entries
def aJ (s:AF)(id:Int):Int:=kW (λa=>a.Id==id) 0 s.Accounts
theorem aKf (s:List Int)(x:AD):(jC s x).length<=s.length+1:=by
 grind[List.length_filter_le,jC]
def fU (log:List AD):(aC log).length<=log.length:=by
 suffices ∀(l:List AD) (s:List Int),(l.foldl jC s).length<=s.length+l.length from by grind[aC]
 intro l;induction l<;>grind[List.length_cons,jC,List.length_filter_le]
def bBj {n:Int}(h:0<=n):aYx 1 n=jX n:=by
 grind[aYx,jX]
def bG (s:ByteArray):Int:=oK 173 s
def WOk (w:AA):Prop:=w.Devices.length<=34359738368/\w.Stolen.length<=34359738368/\w.aAA.Log.length<=34359738368/\w.Sites.length<=34359738368
instance (w:AA):Decidable (WOk w):=inferInstanceAs (Decidable (_/\_))
def aK (w:AA)(d:Int):Bool:=decide (0<=d)&&decide (d<w.Devices.length)
def aWm {w:AA}(h:WOk w)(d:Int):bX d 0 (IntKind.i64.wrap ((w.Devices.length:Int)-1))=aK w d:=by
 have:=h.1
 grind[bX,aK,aM]
def aG (w:AA)(d:Int):AB:=w.Devices.getD d.toNat default
theorem lV {w:AA}{d:Int}(h:aK w d=true):bB w.Devices d=some (aG w d):=by
 grind[aG,List.getD,List.getElem?_eq_getElem,mO,aK]
def bK (w:AA)(d:Int):Bool:=aK w d&&iW (aC w.aAA.Log) (aS (aG w d).Store)
def aGr (w:AA)(d:Int):Bool:=aK w d&&dW w.aAA.Log (aS (aG w d).Store)
def bVa (w:AA)(i:Nat):Bool:=bK w i&&(decide (i<w.Stolen.length)&& !w.Stolen.getD i false)
def zY (w:AA):List Int:=((List.range w.Devices.length).filter (bVa w)).map Int.ofNat
def bGu (d:Int)(s:AF):Bool:= !decide (aJ s 1<0)&&(s.Accounts.getD (aJ s 1).toNat default).Credentials.any λc=>c.Handle==d&& !c.Cut
def WOk.of {w:AA}(h:w.sz<=1048576):WOk w:=by
 grind[WOk,AA.sz,AM.sz]
def aYy (k:Int)(i:Nat)(z:Int):Int:=IntKind.u8.wrap ((z-bU k [(i:Int)])%256)
def Rt (k:Int)(b:List Int):List Int:=Pe (λi z=>[aYy k i z]) 0 b
theorem bBk (x:Int):jH (IntKind.i64.wrap x) 256=x%256:=by
 grind[jH,IntKind.wrap_i64]
theorem bMy (k:Int)(i:Nat)(z:Int):IntKind.u8.wrap (jH (IntKind.i64.wrap (IntKind.i64.wrap z-bU k [(i:Int)])) 256)=aYy k i z:=by
 grind[bBk,aYy,IntKind.wrap_i64]
theorem bMz (k:Int)(i:Nat)(z:Int):IntKind.u8.wrap (jH (IntKind.i64.wrap (IntKind.i64.wrap z-(bU k [(i:Int)]).tmod 256)) 256)=aYy k i z:=by
 grind[bBk,aYy,IntKind.wrap_i64,Int.tmod_eq_emod_of_nonneg,mR]
def sK {α β:Type}{y:Nat->α->β}:∀{i:Nat} {l:List α},(Pe (λi x=>[y i x]) i l).length=l.length
 |i,[]=>rfl
 |i,x::xs=>by simp[Pe,sK]
def gX (p e:Int):Int:=aV p [163,e]
def Ru (k:Int)(b:AO):Int:=bU k ([167,b.To,b.Ephemeral]++Gx b.Data)
def gF (p:Int)(b:AO):List Int×Bool:=
 bif !bL p||(b.To !=dQ p||(!bL b.Ephemeral||decide ((b.Data.length:Int)>200))) then([],false)
 else bif b.MAC !=Ru (gX p b.Ephemeral) b then([],false) else(Rt (gX p b.Ephemeral) b.Data,true)
def gQ:List AO->Int->List Int×Bool
 |[],_=>([],false)
 |b::bs,p=>bif (gF p b).2 then((gF p b).1,true) else gQ bs p
def aT (b:List Int):Prop:=b.length<=34359738368/\b.all (λz=>decide (0<=z)&&decide (z<=255))=true
instance (b:List Int):Decidable (aT b):=inferInstanceAs (Decidable (_/\_))
theorem wD {b:List Int}(h:aT b){i:Nat}(hi:i<b.length):0<=b[i]/\b[i]<=255:=by have:=co.1 h.2 b[i] (cf hi);simp_all
def uvG (b:List Int)(p:Nat):Nat->Nat->Int->Int×Int×Bool
 |0,_,_=>(0,0,false)
 |k+1,i,n=>
  if p+i<b.length then
   bif decide (b.getD (p+i) 0<128) then
    (bif (decide (0<i)&&b.getD (p+i) 0==0)||decide (n+b.getD (p+i) 0%128*128^i>1000000000000) then(0,0,false) else(n+b.getD (p+i) 0%128*128^i,((p+i+1:Nat):Int),true))
   else uvG b p k (i+1) (n+b.getD (p+i) 0%128*128^i)
  else(0,0,false)
def Dh (b:List Int)(at_:Int):Int×Int×Bool:=if at_<0 then(0,0,false) else uvG b at_.toNat 6 0 0
def aYz {i:Nat}(h:i<=6):(1:Int)<=128^i/\(128:Int)^i<=4398046511104:=by
 match i,h with
 |0,_|1,_|2,_|3,_|4,_|5,_|6,_=>decide
def aY0 {z n:Int}{i:Nat}(hi:i<=5)(b:0<=z)(hn:0<=n)(a:n<128^i):0<=n+z%128*128^i/\n+z%128*128^i<128^(i+1)/\0<=z%128*128^i/\z%128*128^i<=127*128^i:=by have hp:=aYz (i:=i) (by omega);have h1:0<=z%128*128^i:=jv (by omega) (by omega);have h2:z%128*128^i<=127*128^i:=Int.mul_le_mul_of_nonneg_right (by omega) (by omega);omega
def bQu {z n:Int}{i:Nat}(hi:i<=5)(h:0<=z)(j:z<=255)(hn:0<=n)(c:n<128^i):
  orI .i64 n (aBe .i64 (pI .i64 z 127) (IntKind.i64.wrap (7*(i:Int))))=n+z%128*128^i:=by
 obtain⟨m,rfl⟩:=ex h;obtain⟨q,rfl⟩:=ex hn;have hp:=aYz (i:=i) (by omega);have hs:=aY0 (z:=(m:Int)) (n:=(q:Int)) hi (by omega) (by omega) c;have t:pI .i64 (m:Int) 127=((m%128:Nat):Int):=by
  have e:((BitVec.ofInt 64 (m:Int))&&&(BitVec.ofInt 64 127)).toNat=m%128:=by
   rw[BitVec.toNat_and];have k:(BitVec.ofInt 64 (m:Int)).toNat=m:=by
    grind
   have l:(BitVec.ofInt 64 127).toNat=2^7-1:=by decide
   rw[k,l,gf]
  show IntKind.i64.wrap (((BitVec.ofInt 64 (m:Int))&&&(BitVec.ofInt 64 127)).toNat:Int)=_
  grind[aM]
 have u:IntKind.i64.wrap (7*(i:Int))=((7*i:Nat):Int):=by grind[aM]
 have d:(2:Nat)^(7*i)=128^i:=by rw[Nat.pow_mul]
 have o:((128^i:Nat):Int)=(128:Int)^i:=by simp
 have hb:aBe .i64 (pI .i64 (m:Int) 127) (IntKind.i64.wrap (7*(i:Int)))=((m%128*128^i:Nat):Int):=by
  grind[aM,Int.toNat_natCast,min,Nat.min_eq_left,IntKind.bits,aBe]
 rw[hb];have a:q<128^i:=by omega
 have f:(m%128*128^i)|||q=m%128*128^i+q:=by
  have:=jk (b:=q) (i:=7*i) (by rw[d];exact a) (m%128)
  grind[Nat.shiftLeft_eq]
 have p:m%128*128^i+q<2^63:=by
  grind
 have v:((BitVec.ofInt 64 (q:Int))|||(BitVec.ofInt 64 ((m%128*128^i:Nat):Int))).toNat=m%128*128^i+q:=by
  rw[BitVec.toNat_or];have r:(BitVec.ofInt 64 (q:Int)).toNat=q:=by grind
  have s:(BitVec.ofInt 64 ((m%128*128^i:Nat):Int)).toNat=m%128*128^i:=by rw[BitVec.toNat_ofInt];omega
  rw[r,s,Nat.or_comm,f]
 show IntKind.i64.wrap (((BitVec.ofInt 64 (q:Int))|||(BitVec.ofInt 64 ((m%128*128^i:Nat):Int))).toNat:Int)=_
 grind[aM]
def kZ (b:List Int):Nat->Int->List Int->List Int×Int×Bool
 |0,a,s=>(s,a,true)
 |k+1,a,s=>bif (Dh b a).2.2 then kZ b k (Dh b a).2.1 (s++[(Dh b a).1]) else([],0,false)
def jK (b:List Int)(a c:Int):List Int×Int×Bool:=bif !bX c 0 100|| !bX a 0 b.length then([],0,false) else kZ b c.toNat a []
theorem bBl (b:List Int):∀(k:Nat) (a:Int) (s:List Int),(kZ b k a s).2.2=true->(kZ b k a s).1.length=s.length+k
 |0,a,s,_=>rfl
 |k+1,a,s,h=>by
  unfold kZ at h ⊢;cases c:(Dh b a).2.2 with
  |false=>rw[c] at h;simp at h
  |true=>rw[c] at h;simp only[ac] at h ⊢;rw[bBl b k _ _ h];simp;omega
theorem decode_len {b:List Int}{a c:Int}(hc:0<=c)(h:(jK b a c).2.2=true):(jK b a c).1.length=c.toNat:=by
 grind[bX,bBl,jK]
theorem aY1 {k:Int}{b:List Int}(h:b.length<=34359738368):aT (Rt k b):=by
 refine⟨by unfold Rt;rw[sK];exact h,?_⟩;rw[co];intro z a;have:∀(b:List Int) (i:Nat),z∈Pe (λi z=>[aYy k i z]) i b->0<=z/\z<=255:=by
  intro b;induction b with
  |nil=>simp[Pe]
  |cons x xs c=>
   intro i h;simp only[Pe,bp,cj] at h;rcases h with rfl|h
   ·have:=eD .u8 ((x-bU k [(i:Int)])%256);assumption
   grind
 have:=this b 0 a;simp[*]
def bEh (p:Int)(b:AO):aT (gF p b).1:=by
 grind[decide,bL,dQ,Ru,gX,aY1,aT,gF]
theorem M5 (p:Int):∀bs,aT (gQ bs p).1
 |[]=>show aT [] by decide
 |b::bs=>by
  unfold gQ;cases(gF p b).2 with
  |true=>exact bEh p b
  |false=>exact M5 p bs
def Lu (e:AK)(x:List Int×Bool)(y:List Int×Int×Bool):Int×Bool:=
 bif !x.2||(!y.2.2||(y.2.1 !=(x.1.length:Int)||(y.1.getD 0 0 !=e.Epoch|| !bL (y.1.getD 1 0)))) then(0,false) else(y.1.getD 1 0,true)
def dL (s:AJ)(e:AK):Int×Bool:=Lu e (gQ e.Boxes (iO s)) (jK (gQ e.Boxes (iO s)).1 0 2)
theorem and_one {n:Int}(h0:0<=n)(h1:n<9223372036854775808):pI .i64 n 1=n%2:=by
 obtain⟨m,rfl⟩:=ex h0;have e:((BitVec.ofInt 64 (m:Int))&&&(BitVec.ofInt 64 1)).toNat=m%2:=by
  rw[BitVec.toNat_and];have a:(BitVec.ofInt 64 (m:Int)).toNat=m:=by grind
  have b:(BitVec.ofInt 64 1).toNat=2^1-1:=by decide
  rw[a,b,gf]
 show IntKind.i64.wrap (((BitVec.ofInt 64 (m:Int))&&&(BitVec.ofInt 64 1)).toNat:Int)=_
 grind[aM]
theorem bGw {n:Int}(h0:0<=n):Gs .i64 n 1=n/2:=by unfold Gs;rw[show min (Int.toNat 1) IntKind.i64.bits=1 from by decide,gn _ (by decide)];rfl
def bJd:Nat->Int->Int->Int->Int
 |0,_,_,s=>s
 |k+1,b,n,s=>if n>0 then bJd k ((IntKind.i64.wrap (b*b)).tmod 2147483647) (n/2) (bif n%2==1 then(IntKind.i64.wrap (s*b)).tmod 2147483647 else s) else s
def bGx:bJd 31 48271 2147483645 1=1899818559:=by decide+kernel
def gI (q:Int):Int:=bif !bL q then 0 else q*1899818559%2147483647
def rM (p:Int)(l:List Int):Int:=bif !bL p then 0 else bU p ([139,(l.length:Int)]++l)
def iC (q:Int)(l:List Int)(g:Int):Bool:=gI q !=0&&rM (gI q) l==g
theorem Rv {α:Type}[Inhabited α]{l:List α}{i:Nat}(h0:0<i)(hi:i<l.length)(hl:l.length<=34359738368):bB l (IntKind.i64.wrap ((i:Int)-1))=some (l.getD (i-1) default):=by
 grind[List.getD,List.getElem?_eq_getElem,aM,aQ]
def vD (l:List AU)(i:Nat)(n:AU):Bool:= !bX n.Kind 1 5||(!bX n.aAH 0 1000000||(!bX n.Time 0 1000000||(decide (0<i)&&decide ((l.getD (i-1) default).Time>n.Time))))
def dR (m:AP):Bool:=decide (m.Notices.length<=30)&& !iM (vD m.Notices) 0 m.Notices
def iD (b:AR)(i:Nat)(n:AZ):Bool:= !bX n.Id 0 (IntKind.i64.wrap (b.Next-1))||((decide (0<i)&&decide ((b.Open.getD (i-1) default).Id>=n.Id))||(!bX n.aAH 0 1000005|| !bX n.Until 0 1000005))
def fJ (b:AR):Bool:=bX b.Next 0 1000000&&decide (b.Open.length<=16)&& !iM (iD b) 0 b.Open
def vV (a:AH)(i:Nat)(n:AV):Bool:=(!bX n.Handle 0 1000000||((decide (0<i)&&decide ((a.Credentials.getD (i-1) default).Handle>=n.Handle))||(gI n.Public==0|| !bX n.Counter 0 1000000)))||(a.Credentials.take i).any λq=>q.Public==n.Public
def bA (a:AH):Bool:=bX a.Id 0 1000000&&bX a.Minimum 1 3&&decide (a.Credentials.length<=8)&& !iM (vV a) 0 a.Credentials
def dB (e:AD):Int:=xH [229,e.Index,e.Kind,e.Device,e.By,e.Previous]
def iE (l:List AD):Int:=bif (l.length:Int)==0 then 0 else dB (l.getD (l.length-1) default)
def lC (l:List AD)(e:AD):Bool:=
 e.Index==(l.length:Int)&&(e.Previous==iE l&&((iW (aC l) e.By||((l.length:Int)==0&&e.By==e.Device))&&(iC e.By [dB e] e.Signature&&
  (bif e.Kind==2 then iW (aC l) e.Device&&decide (((aC l).length:Int)>1) else !dW l e.Device&&(e.Kind==1&&(!iW (aC l) e.Device&&decide (((aC l).length:Int)<6)))))))
def aU (l:List AD):Bool:=bX (l.length:Int) 1 40&& !iM (λi e=> !lC (l.take i) e) 0 l
theorem bM0 {l:List Int}{x:Int}(h:iW l x=true):0<l.length:=by
 grind[iW]
def kH:List UInt8->List UInt8->List (List UInt8)
 |cur,[]=>[cur]
 |cur,b::r=>bif b==46 then cur::kH [] r else kH (cur++[b]) r
def bM1 (s:List UInt8)(i:Nat):Lib.occAt s [46] i=decide (s[i]? =some 46):=by
 unfold Lib.occAt;cases h:s.drop i with
 |nil=>simp_all
 |cons b r=>
  have e:s[i]? =some b:=by have:=eJ (xs:=s) (i:=i) (j:=0);simp_all
  grind
def aO2:∀(a cur r:List UInt8),(∀b∈a,b≠46)->kH cur (a++46::r)=(cur++a)::kH [] r
 |[],cur,r,_=>by simp[kH]
 |b::a,cur,r,h=>by
  have hb:(b==46)=false:=by simpa using h b (by simp)
  rw[cM,kH,hb,ae,aO2 a _ r (λx c=>h x (cQ _ c))];simp
def aKg:∀(a cur:List UInt8),(∀b∈a,b≠46)->kH cur a=[cur++a]
 |[],cur,_=>by simp[kH]
 |b::a,cur,h=>by
  have hb:(b==46)=false:=by simpa using h b (by simp)
  rw[kH,hb,ae,aKg a _ (λx c=>h x (cQ _ c))];simp
def bBm:∀(n:Nat) (s:List UInt8),s.length<n->Lib.splitK [46] 0 (Lib.count s [46]) s=kH [] s
 |0,s,h=>absurd h (Nat.not_lt_zero _)
 |n+1,s,h=>by
  rcases Lib.index_spec s [46] with⟨h1,h2⟩|⟨i,h1,h2,a,l⟩
  ·rw[Lib.count_miss h1,aKg s [] (λb hb e=>by
    obtain⟨j,hj,c⟩:=List.getElem_of_mem hb;have:=h2 j (by omega);rw[bM1,ab hj,c,e] at this;simp at this)];rfl
  ·rw[bM1] at a;have a:s[i]? =some 46:=by simpa using a
   have hi:i<s.length:=by
    rcases fY i s.length with d|f
    ·exact d
    ·rw[eM f] at a;cases a
   rw[Lib.count_hit (by simp) h1,Nat.add_comm,Lib.splitK,h1];have k:((i:Int)== -1)=false:=by simp
   rw[k];simp only[bo,dz,aw,bm,cy];rw[dm (by simp),bBm n (s.drop (i+1)) (by rw[cF];omega)];have es:s=s.take i++46::s.drop (i+1):=by
    have m:s[i]=46:=by rw[ab hi] at a;exact aj a
    rw[<-m,List.getElem_cons_drop hi,cL]
   conv=>rhs;rw[es]
   rw[aO2 (s.take i) [] _ (λb hb e=>by
    obtain⟨j,hj,c⟩:=List.getElem_of_mem hb;rw[cp] at hj;have:=l j (by omega);rw[bM1,ab (by omega)] at this;rw[List.getElem_take] at c;rw[c,e] at this;simp at this)];simp
def bT (s:ByteArray):List ByteArray:=(kH [] s.data.toList).map λl=>⟨l.toArray⟩
def aO3 (s:ByteArray):lY s ⟨#[46]⟩=bT s:=by
 have h1:(lY s ⟨#[46]⟩).map (·.data.toList)=kH [] s.data.toList:=by rw[lY,Lib.splitB_data];exact bBm _ _ (eI _)
 unfold bT;rw[<-h1,gE]
 conv=>lhs;rw[<-List.map_id (lY s ⟨#[46]⟩)]
 congr 1
def aB1 (b:Int):Bool:=bX b 97 122||bX b 48 57||b==45
def wE (s:ByteArray):Bool:=decide (1<=s.size)&&decide (s.size<=20)&& !((cO s).getD 0 0==45)&& !((cO s).getD (s.size-1) 0==45)&& !((cO s).any λb=> !aB1 b)
def iF (s:ByteArray):Bool:=decide (s.size<=60)&& !((bT s).any λl=> !wE l)
def kI (s:ByteArray):(cO s).length=s.size:=by simp[cO,bj]
theorem bBn {s:ByteArray}{i:Nat}(h:i<s.size):bB (cO s) (i:Int)=some ((cO s)[i]'(by rw[kI];exact h)):=aQ _
def ext_list (s:ByteArray)(a b:Nat):s.extract a b=⟨((s.data.toList.drop a).take (b-a)).toArray⟩:=by apply ByteArray.ext;apply ji.1;rw[Lib.extract_data]
def M6:∀(s cur:List UInt8),(kH cur s).length<=s.length+1
 |[],_=>by simp[kH]
 |b::r,cur=>by
  rw[kH];cases b==46 with
  |true=>have:=M6 r [];simp;omega
  |false=>have:=M6 r (cur++[b]);simp at this ⊢;omega
def Rw:∀(s cur:List UInt8) (l:List UInt8),l∈kH cur s->l.length<=cur.length+s.length
 |[],cur,l,h=>by simp[kH] at h;subst h;simp
 |b::r,cur,l,h=>by
  rw[kH] at h;cases hb:b==46 with
  |true=>
   rw[hb,ac] at h;rcases bc.1 h with rfl|h
   ·omega
   ·have:=Rw r [] l h;simp at this ⊢;omega
  |false=>rw[hb,ae] at h;have:=Rw r _ l h;simp at this ⊢;omega
def Rx (s:ByteArray):(bT s).length<=s.size+1:=by unfold bT;rw[bj];exact M6 _ _
def yR (s l:ByteArray)(h:l∈bT s):l.size<=s.size:=by unfold bT at h;obtain⟨q,hq,rfl⟩:=ct.1 h;have:=Rw _ _ q hq;have h2:(⟨q.toArray⟩:ByteArray).size=q.length:=rfl;simp_all
theorem bXg (z:ByteArray):(z.toList==(⟨#[]⟩:ByteArray).toList)=decide (z.size=0):=by
 rw[ByteArray.toList_eq,ByteArray.toList_eq,fL];simp only[df,cq];constructor
 ·intro h;show z.data.size=0;simp_all
 simp_all
def yS:∀(s cur:List UInt8),(kH cur s).length=s.countP (·==46)+1
 |[],_=>rfl
 |b::r,cur=>by
  rw[kH,List.countP_cons];cases b==46 with
  |true=>rw[ac,aw,yS r []];simp
  |false=>rw[ae,yS r _];simp
def aKh (s:ByteArray):0<(bT s).length:=by simp[bj,yS,bT]
def Xr (s:ByteArray):Bool:=(cO s).any λb=>b==46
theorem aTv (s:ByteArray):Xr s=decide (2<=(bT s).length):=by
 unfold Xr bT cO;rw[bj,yS,List.any_map];have e:(λb:Int=>b==46)∘(λb:UInt8=>(b.toNat:Int))=λb:UInt8=>b==46:=by
  funext b;rw[fL];simp only[Function.comp,df];constructor
  ·intro q;apply UInt8.toNat_inj.1;grind
  simp_all
 rw[e,fL,fp,cq];simp
def bJe (s:ByteArray):ByteArray:=bif iF s then(bif (bT s).length==1 then s else rH ⟨#[46]⟩ ((bT s).drop ((bT s).length-2))) else⟨#[]⟩
def bSq {l:List ByteArray}(h:2<=l.length):∃a∈l,∃b∈l,rH ⟨#[46]⟩ (l.drop (l.length-2))=a++⟨#[46]⟩++b:=by
 have hl:(l.drop (l.length-2)).length=2:=by grind
 match hm:l.drop (l.length-2),hl with
 |[a,b],_=>refine⟨a,dg (i:=l.length-2) (by rw[hm];simp),b,dg (i:=l.length-2) (by rw[hm];simp),?_⟩;rw[show[a,b]=[a]++[b] from rfl,bPt _ _ _ (by simp),bPs]
theorem Ry {s:ByteArray}(h:iF s=true):s.size<=60/\0<s.size:=by
 unfold iF at h;rw[aa,cq] at h;refine⟨h.1,Nat.pos_of_ne_zero λe=> ?_⟩
 have a:s.data.toList=[]:=cm e;have b:bT s=[⟨#[]⟩]:=by unfold bT;rw[a];rfl
 rw[b] at h;exact absurd h.2 (by decide)
theorem bQv {s:ByteArray}(h:iF s=true):decide ((bJe s).size=0)=false:=by
 have hs:=Ry h;have hp:=aKh s;unfold bJe;rw[h,ac];refine av ?_;cases h1:(bT s).length==1 with
 |true=>grind
 |false=>
  rw[ae];have:(bT s).length≠1:=by simp_all
  obtain⟨a,_,b,_,e⟩:=bSq (l:=bT s) (by omega);rw[e,ByteArray.size_append,ByteArray.size_append];have:(⟨#[46]⟩:ByteArray).size=1:=rfl;omega
def lD (s:ByteArray)(seed:Int):Bool:=iF s&&decide (2<=(bT s).length)&&bL seed
def Lv (l:List AH)(i:Nat)(n:AH):Bool:= !bA n||(decide (0<i)&&decide ((l.getD (i-1) default).Id>=n.Id))
def dD (s:AF):Bool:=lD s.Name s.Book.Seed&&decide (s.Accounts.length<=8)&&fJ s.Book&& !iM (Lv s.Accounts) 0 s.Accounts
def SOk (s:AF):Prop:=s.Name.size<=34359738368/\s.Accounts.length<=34359738368/\s.Book.Open.length<=34359738368/\∀a∈s.Accounts,a.Credentials.length<=34359738368
instance (s:AF):Decidable (SOk s):=inferInstanceAs (Decidable (_/\_))
def gT (name:ByteArray)(seed:Int):AF:=bif lD name seed then⟨name,[],⟨seed,0,[]⟩,[]⟩ else⟨⟨#[]⟩,[],⟨0,0,[]⟩,[]⟩
def bEi (name:ByteArray)(seed:Int):decide ((gT name seed).Name.size=0)= !lD name seed:=by
 unfold gT;cases h:lD name seed with
 |false=>rfl
 |true=>
  grind[decide_eq_false,Ry,iF,lD]
def aA (i:Int):ByteArray:=bif i==0 then⟨#[98,97,110,107,46,99,111,109]⟩ else bif i==1 then⟨#[115,104,111,112,46,111,114,103]⟩ else⟨#[]⟩
def nH (i:Nat)(s:AF):Bool:= !dD s|| !(s.Name.toList==(aA (i:Int)).toList)
def aR (w:AA):Bool:=bX w.Now 0 999900&&bX (w.Devices.length:Int) 1 6&&(w.Stolen.length:Int)==(w.Devices.length:Int)&&(w.Sites.length:Int)==2&&dR w.Mail&&aU w.aAA.Log&&bL w.Seed&& !iM nH 0 w.Sites
def bVb (w:AA):Prop:=WOk w/\w.Mail.Notices.length<=34359738368/\w.Hosts.length<=34359738368/\∀s∈w.Sites,SOk s
instance (w:AA):Decidable (bVb w):=inferInstanceAs (Decidable (_/\_))
theorem aGs {α:Type}{g:α->Nat}{x:α}:∀{l:List α},x∈l->g x<=(l.map g).sum
 |y::r,h=>by
  rw[bw,eE];rcases bc.1 h with rfl|h
  ·omega
  ·have:=aGs (g:=g) h;omega
def SOk.of {s:AF}(h:s.sz<=1048576):SOk s:=by
 simp only[AF.sz] at h;refine⟨by omega,by omega,by omega,λa b=> ?_⟩
 grind[AH.sz,aGs]
def bVb.of {w:AA}(h:w.sz<=1048576):bVb w:=by
 refine⟨WOk.of h,?_,?_,λs hs=>SOk.of ?_⟩
 all_goals grind[aGs,AF.sz,AA.sz]
abbrev G5 (a:List Int)(r:List (List Int)):Prop:=a.length+r.flatten.length<=68719476736/\r.length<=1099511627776
def lF (w:AA)(i:Int):Bool:=decide (0<=i)&&decide (i<w.Sites.length)
def dZ (a b:AG):Bool:=decide (a.Site<b.Site)||(a.Site==b.Site&&decide (a.Handle<b.Handle))
def mM (a:AG)(s h:Int):Bool:=decide (a.Site<s)||(a.Site==s&&decide (a.Handle<h))
def qD (x e:AG):Bool:=decide (x.Version>e.Version)||(x.Version==e.Version&&x.Deleted)
def rO (e x:AG):AG:=bif qD x e then x else e
def bR:List AG->List AG->List AG
 |[],bs=>bs
 |a::xs,[]=>a::xs
 |a::xs,b::bs=>bif dZ a b then a::bR xs (b::bs) else bif dZ b a then b::bR (a::xs) bs else rO a b::bR xs bs
termination_by xs bs=>xs.length+bs.length
def Rz (l:List AG)(i:Nat)(e:AG):Bool:= !bX e.Site 0 2147483646||(!bX e.Handle 0 1000000||(!bX e.Version 1 1000000||(decide ((i:Int)>0)&& !dZ (l.getD (i-1) default) e)))
def aP (b:AC):Bool:=decide ((b.Entries.length:Int)<=20)&& !iM (Rz b.Entries) 0 b.Entries
def iG (a b:AC):AC×Bool:=bif aP a&&aP b then(bif aP ⟨bR a.Entries b.Entries⟩ then(⟨bR a.Entries b.Entries⟩,true) else(a,false)) else(a,false)
def pM (b:AC)(x:AG):AC:=bif decide (aN b x.Site x.Handle>=0) then⟨b.Entries.set (aN b x.Site x.Handle).toNat x⟩ else⟨b.Entries.takeWhile (λe=>mM e x.Site x.Handle)++[x]++b.Entries.dropWhile (λe=>mM e x.Site x.Handle)⟩
theorem Ig {a b:AG}:dZ a b=true↔a.Site<b.Site\/(a.Site=b.Site/\a.Handle<b.Handle):=by simp[dZ]
def bEj {a x:AG}:mM a x.Site x.Handle=dZ a x:=rfl
theorem oL {a b c:AG}(h:dZ a b=true)(k:dZ b c=true):dZ a c=true:=by
 grind[Ig]
def zZ {a b:AG}(h:dZ a b=false)(k:dZ b a=false):a.Site=b.Site/\a.Handle=b.Handle:=by
 grind[Ig]
def zF {a b c:AG}(h:a.Site=b.Site/\a.Handle=b.Handle):dZ a c=dZ b c:=by unfold dZ;rw[h.1,h.2]
def aO4 {a b c:AG}(h:a.Site=b.Site/\a.Handle=b.Handle):dZ c a=dZ c b:=by unfold dZ;rw[h.1,h.2]
def aB2 {a b:AG}(h:a.Site=b.Site/\a.Handle=b.Handle):(rO a b).Site=b.Site/\(rO a b).Handle=b.Handle:=by
 grind[qD,rO]
def bGy (a b:AG):rO a b=a\/rO a b=b:=by
 grind[qD,rO]
theorem fB (l:List AG):bR l []=l:=by cases l<;>rw[bR]
def jM (l:List AG):bR [] l=l:=by rw[bR]
def zG:∀(n:Nat) (a b:List AG),a.length+b.length<=n->(bR a b).length<=a.length+b.length
 |_,[],b,_=>by rw[jM];simp
 |_,a::xs,[],_=>by rw[fB];simp
 |0,a::xs,b::bs,h=>by simp at h
 |n+1,a::xs,b::bs,h=>by
  simp only[aw] at h;rw[bR];cases dZ a b with
  |true=>have:=zG n xs (b::bs) (by simp only[aw];omega);simp only[ac,aw] at*;omega
  |false=>
   cases dZ b a with
   |true=>have:=zG n (a::xs) bs (by simp only[aw];omega);simp only[ae,ac,aw] at*;omega
   |false=>have:=zG n xs bs (by omega);simp only[ae,aw] at*;omega
def vE (a b:AG)(xs bs:List AG):bR (a::xs) (b::bs)=bif dZ a b then a::bR xs (b::bs) else bif dZ b a then b::bR (a::xs) bs else rO a b::bR xs bs:=by rw[bR]
def srt (l:List AG):Prop:=l.Pairwise λa b=>dZ a b=true
def aWn:∀(A:List AG) {b:AG} {bs:List AG},srt (b::bs)->bR (bR A [b]) bs=bR A (b::bs)
 |[],b,bs,h=>by
  rw[jM,jM];cases bs with
  |nil=>rw[fB]
  |cons c cs=>rw[bR,(cw.1 h).1 c (by simp),ac,jM]
 |a::xs,b,bs,h=>by
  have hc:=(cw.1 h).1;rw[vE a b xs [],vE a b xs bs];cases h1:dZ a b with
  |true=>
   simp only[ac];cases bs with
   |nil=>rw[fB]
   |cons c cs=>rw[bR,oL h1 (hc c (by simp)),ac,aWn xs h]
  |false=>
   cases h2:dZ b a with
   |true=>
    simp only[ac,ae];rw[fB];cases bs with
    |nil=>rw[fB,fB]
    |cons c cs=>rw[bR,hc c (by simp),ac]
   |false=>
    simp only[ae];rw[fB];cases bs with
    |nil=>rw[fB,fB]
    |cons c cs=>rw[bR,zF (aB2 (zZ h1 h2)),hc c (by simp),ac]
def bGz:∀{l:List AG} {x y:AG},y∈bR l [x]->y∈l\/y=x
 |[],x,y,h=>by rw[jM] at h;simp at h;exact .inr h
 |a::xs,x,y,h=>by
  rw[bR] at h;cases h1:dZ a x with
  |true=>
   rw[h1,ac] at h;rcases bc.1 h with rfl|h
   ·exact .inl (by simp)
   ·exact(bGz h).imp (λh=>by simp[h]) id
  |false=>
   rw[h1,ae] at h;cases h2:dZ x a with
   |true=>
    rw[h2,ac,fB] at h;rcases bc.1 h with rfl|h
    ·exact .inr rfl
    ·exact .inl h
   |false=>
    rw[h2,ae,fB] at h;rcases bc.1 h with rfl|h
    ·rcases bGy a x with e|e
     ·rw[e];exact .inl (by simp)
     ·exact .inr e
    ·exact .inl (by simp[h])
theorem bG0:∀{l:List AG} {x:AG},srt l->srt (bR l [x])
 |[],x,h=>by rw[jM];exact fS _ _
 |a::xs,x,h=>by
  obtain⟨c,hs⟩:=cw.1 h;rw[bR];cases h1:dZ a x with
  |true=>
   rw[ac];refine cw.2 ⟨λy b=> ?_,bG0 hs⟩;rcases bGz b with b|rfl
   ·exact c y b
   ·exact h1
  |false=>
   cases h2:dZ x a with
   |true=>
    rw[ae,ac,fB];refine cw.2 ⟨λy b=> ?_,h⟩;rcases bc.1 b with rfl|b
    ·exact h2
    ·exact oL h2 (c y b)
   |false=>rw[ae,ae,fB];have hk:=zZ h1 h2;refine cw.2 ⟨λy b=> ?_,hs⟩;rw[zF (aB2 hk),<-zF hk];exact c y b
def aO5:∀(B A:List AG),srt B->B.foldl (λo x=>bR o [x]) A=bR A B
 |[],A,_=>by rw[fB];rfl
 |b::bs,A,h=>by rw[dp,aO5 bs _ (cw.1 h).2,aWn A h]
theorem Sa {α:Type}{p:α->Bool}:∀{l:List α} {i:Nat},kW p i l<0->∀y∈l,p y=false
 |[],i,_,y,a=>by simp at a
 |x::l,i,h,y,a=>by
  simp only[kW] at h;cases hp:p x with
  |true=>rw[hp,ac] at h;omega
  |false=>
   rw[hp,ae] at h;rcases bc.1 a with rfl|a
   ·exact hp
   ·exact Sa h y a
def Xt {α:Type}{p:α->Bool}:∀{l:List α} {i:Nat},0<=kW p i l->∃l1 e l2,l=l1++e::l2/\p e=true/\kW p i l=((i+l1.length:Nat):Int)
 |[],i,h=>by simp[kW] at h
 |x::l,i,h=>by
  simp only[kW] at h ⊢;cases hp:p x with
  |true=>exact⟨[],x,l,rfl,hp,by simp⟩
  |false=>rw[hp,ae] at h;obtain⟨l1,e,l2,h1,h2,a⟩:=Xt h;exact⟨x::l1,e,l2,by rw[h1];rfl,h2,by rw[ae,a];simp only[aw];omega⟩
theorem bG1:∀{l:List AG} {x:AG},(∀y∈l,(y.Site==x.Site&&y.Handle==x.Handle)=false)->bR l [x]=l.takeWhile (λe=>mM e x.Site x.Handle)++[x]++l.dropWhile (λe=>mM e x.Site x.Handle)
 |[],x,_=>by rw[jM];rfl
 |a::xs,x,h=>by
  rw[bR,de,List.dropWhile_cons,bEj];cases h1:dZ a x with
  |true=>simp only[ac,ij];rw[bG1 (λy b=>h y (by simp[b]))];rfl
  |false=>
   cases h2:dZ x a with
   |true=>simp only[ae,ac];rw[fB];rfl
   |false=>have:=zZ h1 h2;have:=h a (by simp);simp_all
def bG2 {e x:AG}{l2:List AG}(he:(e.Site==x.Site&&e.Handle==x.Handle)=true):∀{l1:List AG},srt (l1++e::l2)->bR (l1++e::l2) [x]=l1++rO e x::l2
 |[],_=>by
  have hk:e.Site=x.Site/\e.Handle=x.Handle:=by simpa using he
  have h1:dZ e x=false:=by
   cases h:dZ e x with
   |false=>rfl
   |true=>rw[Ig] at h;omega
  have h2:dZ x e=false:=by
   cases h:dZ x e with
   |false=>rfl
   |true=>rw[Ig] at h;omega
  rw[bu,bR,h1,ae,h2,ae,fB];rfl
 |a::l1,h=>by
  obtain⟨b,hs⟩:=cw.1 h;have hk:e.Site=x.Site/\e.Handle=x.Handle:=by simpa using he
  have h1:dZ a x=true:=by rw[<-aO4 hk];exact b e (by simp)
  rw[cM,bR,h1,ac,bG2 he hs];rfl
def bBo {l:List AG}{x:AG}(h:srt l):(bif (decide (aN ⟨l⟩ x.Site x.Handle<0)||qD x (l.getD (aN ⟨l⟩ x.Site x.Handle).toNat default)) then(pM ⟨l⟩ x).Entries else l)=bR l [x]:=by
 unfold pM;by_cases b:aN ⟨l⟩ x.Site x.Handle<0
 ·grind[bG1,Sa,decide_eq_true,decide,aN,decide_eq_false]
 ·obtain⟨l1,e,l2,h1,h2,c⟩:=Xt (show 0<=kW (λe=>e.Site==x.Site&&e.Handle==x.Handle) 0 l from by unfold aN at b;simp only at b;omega);have a:aN ⟨l⟩ x.Site x.Handle=(l1.length:Int):=by grind[aN]
  rw[a,av (by omega),da,show decide ((l1.length:Int)>=0)=true from au (by omega),ac,bo];subst h1;rw[bG2 h2 h];have g:(l1++e::l2).getD l1.length default=e:=by simp
  have st:(l1++e::l2).set l1.length x=l1++x::l2:=by simp
  rw[g];show(bif qD x e then(l1++e::l2).set l1.length x else l1++e::l2)=_;rw[st];unfold rO;cases qD x e<;>rfl
theorem bG3 {α:Type}{p:Nat->α->Bool}:∀{l:List α} {j:Nat},iM p j l=false->∀(i:Nat) (hi:i<l.length),p (j+i) l[i]=false
 |[],j,_,i,hi=>by simp at hi
 |x::l,j,h,i,hi=>by
  simp only[iM,bl] at h;cases i with
  |zero=>exact h.1
  |succ i=>have:=bG3 h.2 i (by simpa using hi);rw[show j+(i+1)=j+1+i by omega];exact this
def aO6 {b:AC}(h:aP b=true):b.Entries.length<=20/\srt b.Entries:=by
 simp only[aP,aa,cq,bv] at h;refine⟨by omega,?_⟩;have adj:∀i (hi:i+1<b.Entries.length),dZ b.Entries[i] b.Entries[i+1]=true:=(by grind[bG3,Rz,Bool.or_eq_false_iff,decide_eq_true,default,Nat.add_sub_cancel,List.getD,List.getElem?_eq_getElem]);have far:∀d i (hi:i+d+1<b.Entries.length),dZ b.Entries[i] b.Entries[i+d+1]=true:=λd=>by
  induction d<;>grind[oL]
 refine dt.2 λi j hi hj a=> ?_;obtain⟨d,rfl⟩:∃d,j=i+d+1:=⟨j-i-1,by omega⟩;simp[*]
theorem fM {α β:Type}{s:List α}(hs:s.length<=34359738368)(x:α)(k:Option β):gd (aZ s [x]) k=k:=(by grind[aD,aZ,List.length_singleton])
theorem oM {α β:Type}{s:List α}(hs:s.length<=34359738368)(k:Option β):gd (aZ [] s) k=k:=(by grind[aD,aZ,List.length_nil])
def bBp {α:Type}{l s:List α}:l.foldl (λs x=>s++[x]) s=s++l:=by have:=aGp (f:=λx:α=>[x]) (l:=l) (s:=s);rw[this];congr 1;induction l<;>simp_all
def aB3 {α:Type}{l:List α}{F:(Nat×List α->Option (List α))->Nat×List α->Option (List α)}(hl:l.length<=34359738368)
  (a:∀rec i s (hi:i<l.length),s.length<=34359738368->F rec (i,s)=rec (i+1,s++[l[i]])) (b:∀rec s,F rec (l.length,s)=some s):EV.bY FUEL F (0,[])=some l:=by
 rw[aWk (l:=l) (λs x=>s++[x]) (λi s=>s.length=i) (λs=>some s) (by omega) rfl (by simp) (by grind) (by simp[*]),bBp,bu]
def bM2 {α:Type}{l:List α}{F:(List α×Nat->Option (List α))->List α×Nat->Option (List α)}(hl:l.length<=34359738368)
  (a:∀rec i s (hi:i<l.length),s.length<=34359738368->F rec (s,i)=rec (s++[l[i]],i+1)) (b:∀rec s,F rec (s,l.length)=some s):EV.bY FUEL F ([],0)=some l:=by
 rw[gJ (l:=l) (λs x=>s++[x]) (λi s=>s.length=i) (λs=>some s) (by omega) rfl (by simp) (by grind) (by simp[*]),bBp,bu]
abbrev szL {α:Type}(f:α->Nat)(l:List α):Nat:=l.length+(l.map f).sum
theorem jA {S τ:Type}{F:(S->Option τ)->S->Option τ}{n:Nat}{s:S}:EV.bY (n+1) F s=F (EV.bY n F) s:=rfl
def Lx {α:Type}{c:Bool}{x y:α}:(bif c then some x else some y)=some (bif c then x else y):=by cases c<;>rfl
theorem Aa {c d:Bool}:(bif c then some true else some d)=some (c||d):=by cases c<;>rfl
def bBq {α:Type}[Inhabited α]{l:List α}{i:Nat}(h:i<l.length):l.set i (l.getD i default)=l:=by simp[*]
theorem aO7 {α:Type}{p:Nat->α->Bool}:∀(l:List α) (j:Nat),iM p j l=true↔∃(i:Nat) (hi:i<l.length),p (j+i) l[i]=true
 |[],j=>by simp[iM]
 |x::xs,j=>by
  simp only[iM,cn,aO7 xs];constructor
  ·rintro(h|⟨i,hi,h⟩)
   ·exact⟨0,by simp,h⟩
   ·exact⟨i+1,by simpa using hi,by rw[show j+(i+1)=j+1+i by omega];exact h⟩
  grind
theorem M7 {α:Type}{p:Nat->α->Bool}{l:List α}:iM p 0 l=false↔∀(i:Nat) (hi:i<l.length),p i l[i]=false:=by
 grind[iM,aO7]
def bZm {α β:Type}{l:List α}(f:α->β){F:(List β×Nat->Option (List β))->List β×Nat->Option (List β)}(hl:l.length<=34359738368)
  (a:∀rec i s (hi:i<l.length),s.length<=34359738368->F rec (s,i)=rec (s++[f l[i]],i+1)) (b:∀rec s,F rec (s,l.length)=some s):EV.bY FUEL F ([],0)=some (l.map f):=by
 rw[gJ (l:=l) (λs x=>s++[f x]) (λi s=>s.length=i) (λs=>some s) (by omega) rfl (by simp) (by grind) (by simp[*]),aGq,bu]
def bSr {α β:Type}{l:List α}(f:α->β){s0:List β}{F:(List β×Nat->Option (List β))->List β×Nat->Option (List β)}(hl:s0.length+l.length<=34359738368)
  (a:∀rec i s (hi:i<l.length),s.length<=34359738368->F rec (s,i)=rec (s++[f l[i]],i+1)) (b:∀rec s,F rec (s,l.length)=some s):EV.bY FUEL F (s0,0)=some (s0++l.map f):=by
 rw[gJ (l:=l) (λs x=>s++[f x]) (λi s=>s.length=s0.length+i) (λs=>some s) (by omega) (by simp) (by simp at*;omega) (by grind) (by simp[*]),aGq]
def aWo (h:AN)(b:Int):AN×Bool:=bif decide (b<0)||decide (b>=(h.Saved.length:Int)) then(h,false) else(⟨h.Saved.getD (h.Saved.length-1-b.toNat) default,h.Saved,h.Monotonic⟩,true)
def bEk (w:AA)(i b:Int):AA×Bool:=bif !aR w||(decide (i<0)||decide (i>=(w.Hosts.length:Int))) then(w,false) else bif (aWo (w.Hosts.getD i.toNat default) b).2 then({w with Hosts:=w.Hosts.set i.toNat (aWo (w.Hosts.getD i.toNat default) b).1},true) else(w,false)
theorem bQw {i:Int}{n:Nat}(h:n<=34359738368):(!bX i 0 (IntKind.i64.wrap ((n:Int)-1)))=(decide (i<0)||decide (i>=(n:Int))):=by
 grind[decide_eq_false,decide_eq_true,bX,aM]
theorem wF {α:Type}[Inhabited α]{l:List α}{i:Int}(h0:0<=i)(h1:i<(l.length:Int)):bB l i=some (l.getD i.toNat default):=by
 grind[List.getD,List.getElem?_eq_getElem,mO]
theorem bEl {i:Int}{n:Nat}(h:(decide (i<0)||decide (i>=(n:Int)))=false):0<=i/\i<(n:Int):=by simp_all
theorem Ma {α:Type}[Inhabited α]{f:α->Nat}{l:List α}{i:Nat}(h:i<l.length):f (l.getD i default)<=(l.map f).sum:=by
 grind[kY,List.getD,List.getElem?_eq_getElem]
def bM3 {α:Type}[BEq α][ReflBEq α]{r:α}:(!r==r)=false:=by simp
def bZn (l:List A0)(i:Nat)(s:A0):Bool:= !bX s.Index 1 7||(!bX s.Value 0 1018||(l.take i).any λq=>q.Index==s.Index)
def bVc (l:List A0):Bool:=bX (l.length:Int) 1 7&& !iM (bZn l) 0 l
def aO8 (x:Int)(z v:Int):Int:=(IntKind.i64.wrap (IntKind.i64.wrap (v+jH z 1019)*x)).tmod 1019
def Sb (c:Int)(l:List Int)(x:Int):Int:=(l.foldr (aO8 x) 0+jH c 1019)%1019
def bVd (c:List Int)(s:A0):A0:=⟨s.Index,(IntKind.i64.wrap (s.Value+Sb 0 c s.Index)).tmod 1019⟩
def bM4 (l:List A0)(c:List Int):List A0:=bif bVc l then l.map (bVd c) else[]
def cS (l:List A0)(i:Nat)(k:Int):Bool:=(l.take i).any λq=>q.Index==k
def bBr {x z v:Int}(a:0<=x/\x<=1000)(hv:0<=v/\v<1019):0<=aO8 x z v/\aO8 x z v<1019:=by
 have hm:=zN (p:=z) (q:=1019) (by omega);unfold aO8;generalize jH z 1019=m at*;have b:IntKind.i64.wrap (v+m)=v+m:=(by grind[aM]);have h2:0<=(v+m)*x:=jv (by omega) a.1;have c:(v+m)*x<=3000*1000:=Int.mul_le_mul (by omega) a.2 a.1 (by omega)
 grind[Int.tmod_nonneg,Int.tmod_lt_of_pos,aM]
def aO9 {x:Int}(a:0<=x/\x<=1000):∀l:List Int,0<=l.foldr (aO8 x) 0/\l.foldr (aO8 x) 0<1019
 |[]=>by simp
 |z::l=>bBr a (aO9 a l)
def bM5 {σ τ:Type}{l:List Int}(g:Int->σ->σ){s0:σ}(fin:σ->Option τ){F:(σ×Int->Option τ)->σ×Int->Option τ}(hl:l.length<=34359738368)
  (a:∀rec s i (hi:i<l.length),F rec (s,(i:Int))=rec (g l[i] s,(i:Int)-1)) (b:∀rec s,F rec (s,-1)=fin s) {n0:Int} (hn:n0=(l.length:Int)-1):EV.bY FUEL F (s0,n0)=fin (l.foldr g s0):=by
 subst hn;refine aK7 (λk s=>k<=l.length/\s=((l.drop (l.length-k)).foldr g s0,(l.length:Int)-1-k)) l.length _ (by omega) ⟨by omega,by simp⟩ (λk s rec hk hv=> ?_) (λs rec hv=> ?_)
 ·obtain⟨_,rfl⟩:=hv;refine .inl ⟨_,⟨hk,rfl⟩,?_⟩
  grind[List.drop_eq_getElem_cons]
 grind
def bVe {c d:Bool}:(bif c then some d else some false)=some (c&&d):=by cases c<;>rfl
def aWp (k:A3):Bool:=bVc [k.aAS]&&(bX k.Epoch 0 1000000&&(bX k.Limit 1 10&&bX k.Guesses 0 k.Limit))
def bM6 (h:AN)(s:A0):Bool:= !aWp h.State||(decide (Rq h.State<h.Monotonic)||(h.State.Epoch==1000000||(s.Index !=h.State.aAS.Index|| !bVc [s])))
def bVf (h:AN)(s:A0):AN:=⟨⟨s,IntKind.i64.wrap (h.State.Epoch+1),0,h.State.Limit⟩,h.Saved,Rq ⟨s,IntKind.i64.wrap (h.State.Epoch+1),0,h.State.Limit⟩⟩
def bVg (hs:List AN)(a:List A0):List AN×Bool:=bif ((a.length:Int)==0)||(hs.zip a).any (λp=>bM6 p.1 p.2) then(hs,false) else(List.zipWith bVf hs a,true)
def aKj (hs:List AN)(c:List Int):List AN×Bool:=bVg hs (bM4 (hs.map λh=>h.State.aAS) c)
def bSs (w:AA):Nat->Int->List Int
 |0,_=>[]
 |n+1,k=>bif decide (k<w.aAP.Threshold)&&decide (k<=7) then aV w.Seed [317,w.Now,k]::bSs w n (k+1) else[]
def bSt (w:AA):List Int:=bSs w 8 1
def bBs (w:AA):AA×Bool:=bif aR w&&(aKj w.Hosts (bSt w)).2 then({w with Hosts:=(aKj w.Hosts (bSt w)).1},true) else(w,false)
def bJf (b:AC)(s h:Int):Int:=bif decide (aN b s h>=0) then IntKind.i64.wrap ((b.Entries.getD (aN b s h).toNat default).Version+1) else 1
def qP (b:AC)(s h:Int):AG:=⟨s,h,bJf b s h,false⟩
def aB5 (b:AC)(s h:Int):AC×Bool:=bif !(decide (aN b s h>=0)&& !(b.Entries.getD (aN b s h).toNat default).Deleted)&&(aP b&&aP (pM b (qP b s h))) then(pM b (qP b s h),true) else(b,false)
def aPa (b:AC)(s h:Int):AG:=⟨s,h,IntKind.i64.wrap ((b.Entries.getD (aN b s h).toNat default).Version+1),true⟩
def aB6 (b:AC)(s h:Int):AC×Bool:=bif !aP b||(decide (aN b s h<0)||((b.Entries.getD (aN b s h).toNat default).Deleted||(b.Entries.getD (aN b s h).toNat default).Version==1000000)) then(b,false) else(pM b (aPa b s h),true)
def pO (d:AB)(n:ByteArray)(h:Int)(rm:Bool):AC×Bool:=bif rm then aB6 d.aAD (bG n) h else aB5 d.aAD (bG n) h
def bO (d:AB)(n:ByteArray)(h:Int)(rm:Bool):AB×Bool:=bif (pO d n h rm).2 then({d with aAD:=(pO d n h rm).1},true) else(d,false)
def lS (w:AA)(d:Int)(n:ByteArray)(h:Int)(rm:Bool):AA×Bool:=bif aR w&&aK w d then(bif (bO (aG w d) n h rm).2 then({w with Devices:=w.Devices.set d.toNat (bO (aG w d) n h rm).1},true) else(w,false)) else(w,false)
def bG4 (b:List Int):(Gx b).length=b.length+1:=by simp[Gx,Nat.add_comm]
def aNb (l:List Int):List.map (λ(n:Int)=>n) l=l:=List.map_id l
theorem bBt (b:AC)(x:AG):(pM b x).Entries.length<=b.Entries.length+1:=by
 grind[decide,aN,List.length,List.takeWhile_append_dropWhile,mM,List.length_append,List.length_singleton,pM]
theorem bQx (b:AC)(s h:Int):(aB5 b s h).1.Entries.length<=b.Entries.length+1:=by
 grind[decide,aN,default,aP,pM,qP,bBt,aB5]
theorem bQy (b:AC)(s h:Int):(aB6 b s h).1.Entries.length<=b.Entries.length+1:=by
 grind[aP,decide,aN,default,bBt,aPa,aB6]
theorem Ih (d:AB)(n:ByteArray)(h:Int)(rm:Bool):(bO d n h rm).1.sz<=d.sz+1:=by
 grind[pO,AB.sz,bQy,bQx,bO]
def eF (c:AM)(b:Int):AI×Bool:=bif decide (b<0)||decide (b>=(c.History.length:Int)) then(⟨0,0,[],0⟩,false) else(c.History.getD (c.History.length-1-b.toNat) default,true)
def aY2 (a b:AD):Bool:=a.Index==b.Index&&(a.Kind==b.Kind&&(a.Device==b.Device&&(a.By==b.By&&(a.Previous==b.Previous&&(a.Signature==b.Signature&&true)))))
def bS (a b:List AD):Bool:=decide (b.length<=a.length)&& !iM (λi e=> !aY2 (a.getD i default) e) 0 b
def iR (k:Int)(b:AI):Int:=bU k ([227,b.Epoch,b.Version]++Gx b.Data)
def lZ (k e v:Int):Int:=aV k [223,e,v]
def uvE:Nat->Int->List Int
 |0,n=>[n]
 |k+1,n=>bif decide (n>127) then(n%128+128)::uvE k (n/128) else[n]
theorem aY3:∀(k:Nat) (n:Int),1<=(uvE k n).length/\(uvE k n).length<=k+1
 |0,n=>by simp[uvE]
 |k+1,n=>by
  have:=aY3 k (n/128);unfold uvE;cases decide (n>127)<;>simp<;>omega
def bQz {k:Nat}{z:Int}(h:z<=127):uvE k z=[z]:=by cases k<;>grind[uvE,decide_eq_false]
def bG5:∀(k:Nat) (m n:Int) (x y:List Int),0<=m->0<=n->uvE k m++x=uvE k n++y->m=n/\x=y
 |0,m,n,x,y,_,_,h=>by simpa[uvE] using h
 |k+1,m,n,x,y,h0,h1,h=>by
  unfold uvE at h;by_cases hm:m>127<;>by_cases hn:n>127
  ·simp only[au hm,au hn,ac,cM,fx] at h;have:=bG5 k (m/128) (n/128) x y (by omega) (by omega) h.2;exact⟨by omega,this.2⟩
  ·simp only[au hm,av hn,ac,ae,cM,fx] at h;omega
  ·simp only[av hm,au hn,ac,ae,cM,fx] at h;omega
  ·simpa only[av hm,av hn,ae,cM,bu,fx] using h
def bBu {F:(Int×List Int->Option (Int×List Int))->Int×List Int->Option (Int×List Int)}
  (a:∀rec (n:Int) (s:List Int),0<=n->n<9223372036854775807->s.length<=34359738368->F rec (n,s)=bif decide (n>127) then rec (n/128,s++[n%128+128]) else some (n,s)):
  ∀(k:Nat) (n:Int) (s:List Int) (f:Nat),k<f->0<=n->n<128^(k+1)->k<=6->s.length+k<=34359738368->∃m q,EV.bY f F (n,s)=some (m,q)/\q++[m]=s++uvE k n/\0<=m/\m<=127
 |0,n,s,f+1,b,h0,h1,_,hs=>by
  refine⟨n,s,?_,rfl,h0,by simp at h1;omega⟩;rw[jA,a _ _ _ h0 (by simp at h1;omega) (by omega),av (by simp at h1;omega)];rfl
 |k+1,n,s,f+1,b,h0,h1,hk,hs=>by
  have h2:(128:Int)^(k+1+1)=128*128^(k+1):=by rw[fq];omega
  have h:(128:Int)^(k+1+1)<=128^8:=by exact_mod_cast ib (by omega) (by omega)
  have i:(128:Int)^8=72057594037927936:=by decide
  rw[jA,a _ _ _ h0 (by omega) (by omega)];unfold uvE;by_cases hn:n>127
  ·rw[au hn,ac,ac];obtain⟨m,q,c,d,e⟩:=bBu a k (n/128) (s++[n%128+128]) f (by omega) (by omega) (by omega) (by omega) (by simp;omega);exact⟨m,q,c,by rw[d];simp,e⟩
  ·rw[av hn,ae,ae];exact⟨n,s,rfl,rfl,h0,by omega⟩
theorem bQ0 {n:Int}(h0:0<=n)(h1:n<9223372036854775808):pI .i64 n 127=n%128:=by
 obtain⟨m,rfl⟩:=ex h0;have e:((BitVec.ofInt 64 (m:Int))&&&(BitVec.ofInt 64 127)).toNat=m%128:=by
  rw[BitVec.toNat_and];have a:(BitVec.ofInt 64 (m:Int)).toNat=m:=by grind
  have b:(BitVec.ofInt 64 127).toNat=2^7-1:=by decide
  rw[a,b,gf]
 show IntKind.i64.wrap (((BitVec.ofInt 64 (m:Int))&&&(BitVec.ofInt 64 127)).toNat:Int)=_
 grind[aM]
theorem bVh {n:Int}(h0:0<=n)(h1:n<128):orI .i64 n 128=n+128:=by
 obtain⟨m,rfl⟩:=ex h0;have e:((BitVec.ofInt 64 (m:Int))|||(BitVec.ofInt 64 128)).toNat=m+128:=by
  rw[BitVec.toNat_or];have a:(BitVec.ofInt 64 (m:Int)).toNat=m:=by grind
  have c:(BitVec.ofInt 64 128).toNat=1<<<7:=by decide
  have:=jk (b:=m) (i:=7) (by omega) 1
  grind
 show IntKind.i64.wrap (((BitVec.ofInt 64 (m:Int))|||(BitVec.ofInt 64 128)).toNat:Int)=_
 grind[aM]
theorem bXi {n:Int}(h0:0<=n):Gs .i64 n 7=n/128:=by unfold Gs;rw[show min (Int.toNat 7) IntKind.i64.bits=7 from by decide,gn _ (by decide)];rfl
theorem aPb {n:Int}(h0:0<=n)(h1:n<=255):IntKind.u8.wrap n=n:=by rw[IntKind.wrap_u8];omega
def enc1 (n:Int):List Int:=bif bX n 0 1000000000000 then uvE 5 n else[]
def sM (b:List Int)(n:Int):List Int:=b++enc1 n
def iN (l:List Int):List Int:=(l.map enc1).flatten
theorem aB7 (n:Int):(enc1 n).length<=6:=by have:=(aY3 5 n).2;unfold enc1;cases bX n 0 1000000000000<;>simp<;>omega
theorem aNc {n:Int}(h:0<=n/\n<=1000000000000):enc1 n=uvE 5 n:=by
 grind[decide_eq_true,enc1,bX]
theorem vF (n:Int)(l:List Int):iN (n::l)=enc1 n++iN l:=rfl
theorem aB8:∀l:List Int,(iN l).length<=6*l.length
 |[]=>by simp[iN]
 |n::l=>by
  have:=aB8 l
  grind[vF,List.length_append,List.length_cons,aB7]
def aTw (l:List Int):Prop:=∀v∈l,0<=v/\v<=(1000000000000:Int)
theorem bBv:∀(s t x y:List Int),aTw s->aTw t->s.length=t.length->iN s++x=iN t++y->s=t/\x=y
 |[],[],x,y,_,_,_,h=>⟨rfl,h⟩
 |m::s,n::t,x,y,hs,ht,hl,h=>by
  have hm:=hs m (by simp);have hn:=ht n (by simp);rw[vF,vF,ck,ck,aNc hm,aNc hn] at h;obtain⟨h1,h2⟩:=bG5 5 m n _ _ hm.1 hn.1 h;obtain⟨a,b⟩:=bBv s t x y (λv hv=>hs v (by simp[hv])) (λv hv=>ht v (by simp[hv])) (by simpa using hl) h2;exact⟨by rw[h1,a],b⟩
theorem bG6 {b:List Int}(hb:aT b){p:Nat}:∀(k i:Nat) (n m e:Int),uvG b p (k+1) i n=(m,e,true)->∃(r:Int) (q:Nat),(0<=r/\m=n+r*128^i/\m<=1000000000000/\e=(q:Int)/\q<=b.length/\(0<i->r≠0))/\b.drop (p+i)=uvE k r++b.drop q
 |k,i,n,m,e,h=>by
  unfold uvG at h;by_cases a:p+i<b.length
  ·rw[cW a] at h;have l:=wD hb a;have hg:b.getD (p+i) 0=b[p+i]:=by simp[List.getD,ab a]
   rw[hg] at h;have hd:b.drop (p+i)=b[p+i]::b.drop (p+i+1):=cG a;generalize b[p+i]=z at l h hd;by_cases c:z<128
   ·rw[au c,ac] at h;have d:z%128=z:=by omega
    rw[d] at h;cases hc:(decide (0<i)&&z==0)||decide (n+z*128^i>1000000000000) with
    |true=>rw[hc] at h;simp at h
    |false=>rw[hc,ae] at h;rw[bl] at hc;have h1:=of_decide_eq_false hc.2;injection h with f j;injection j with j w;refine⟨z,p+i+1,⟨l.1,f.symm,by omega,j.symm,by omega,λhi h0=> ?_⟩,by rw[hd,bQz (by omega)];rfl⟩;subst h0;simp[hi] at hc
   ·rw[av c,ae] at h
    match k,h with
    |0,h=>simp[uvG] at h
    |k+1,h=>
     obtain⟨r,q,⟨h1,h2,o,s,t,u⟩,v⟩:=bG6 hb k (i+1) _ m e h;have hr:=u (by omega);refine⟨z%128+128*r,q,⟨by omega,?_,o,s,t,λ_=>by omega⟩,?_⟩
     ·rw[h2,fq,Int.add_mul,<-Int.add_assoc];congr 1;rw[jc 128 r,Int.mul_assoc,jc 128]
     ·rw[hd,show p+i+1=p+(i+1) from by omega,v];have f:uvE (k+1) (z%128+128*r)=z::uvE k r:=by rw[uvE,au (show z%128+128*r>127 by omega),ac,show(z%128+128*r)%128+128=z by omega,show(z%128+128*r)/128=r by omega]
      rw[f];rfl
  ·rw[dm a] at h;simp at h
def aY4 {b:List Int}(hb:aT b){a m e:Int}(h:Dh b a=(m,e,true)):∃q:Nat,(0<=a/\0<=m/\m<=1000000000000/\e=(q:Int)/\q<=b.length)/\b.drop a.toNat=enc1 m++b.drop q:=by
 grind[bG6,aNc,Dh]
def Sc {b:List Int}(hb:aT b):∀(k:Nat) (a:Int) (s v:List Int) (e:Int),0<=a->a<=b.length->kZ b k a s=(v,e,true)->∃(t:List Int) (q:Nat),(v=s++t/\t.length=k/\e=(q:Int)/\q<=b.length/\aTw t)/\b.drop a.toNat=iN t++b.drop q
 |0,a,s,v,e,h0,h1,h=>by
  unfold kZ at h;injection h with i d;injection d with d _;exact⟨[],a.toNat,⟨by simp[i],rfl,by omega,by omega,λv hv=>by simp at hv⟩,rfl⟩
 |k+1,a,s,v,e,h0,h1,h=>by
  unfold kZ at h;cases f:Dh b a with
  |mk m r=>
   obtain⟨e',ok⟩:=r;rw[f] at h;cases ok with
   |false=>simp at h
   |true=>
    obtain⟨q,⟨p,j,l,n,u⟩,o⟩:=aY4 hb f;subst n;obtain⟨t,q',⟨k1,k2,k3,k4,k5⟩,k6⟩:=Sc hb k (q:Int) (s++[m]) v e (by omega) (by omega) h;refine⟨m::t,q',⟨by rw[k1];simp,by simp[k2],k3,k4,λx c=> ?_⟩,by rw[o,vF,ck];congr 1⟩;rcases bc.1 c with rfl|c
    ·exact⟨j,l⟩
    ·exact k5 x c
def aPc {b:List Int}:∀(j k:Nat) (a:Int) (s:List Int),kZ b (j+k) a s=bif (kZ b j a s).2.2 then kZ b k (kZ b j a s).2.1 (kZ b j a s).1 else([],0,false)
 |0,k,a,s=>by rw[cy];rfl
 |j+1,k,a,s=>by
  have e:∀m,kZ b (m+1) a s=bif (Dh b a).2.2 then kZ b m (Dh b a).2.1 (s++[(Dh b a).1]) else([],0,false):=λ_=>rfl;rw[show j+1+k=j+k+1 by omega,e,e];cases(Dh b a).2.2 with
  |false=>rfl
  |true=>exact aPc j k _ _
def aPd {b:List Int}:∀(k:Nat) (a:Int) (s:List Int),kZ b k a s=bif (kZ b k a []).2.2 then(s++(kZ b k a []).1,(kZ b k a []).2.1,true) else([],0,false)
 |0,a,s=>by simp[kZ]
 |k+1,a,s=>by
  unfold kZ;cases(Dh b a).2.2 with
  |false=>rfl
  |true=>simp only[ac,bu];rw[aPd k _ (s++[(Dh b a).1]),aPd k _ [(Dh b a).1]];cases(kZ b k (Dh b a).2.1 []).2.2<;>simp
def aTx (e:AG):List Int:=[e.Site,e.Handle,e.Version,bif e.Deleted then 1 else 0]
def nI:List Int->List AG
 |s::h::v::d::r=>⟨s,h,v,d==1⟩::nI r
 |_=>[]
def mU:List Int->Bool
 |_::_::_::d::r=>decide (d<=1)&&mU r
 |_=>true
def kJ (l:List AG):List Int:=l.flatMap aTx
theorem vG:∀l:List AG,(kJ l).length=4*l.length
 |[]=>rfl
 |e::l=>by
  have:=vG l
  grind[aTx,kJ,List.length_append,List.length_cons]
def aB9:∀(k:Nat) (l:List Int),l.length=4*k->(nI l).length=k
 |0,[],_=>rfl
 |k+1,s::h::v::d::r,hl=>by
  have:=aB9 k r (by simp at hl;omega);simp[nI,this]
def aWq:∀(k:Nat) (l:List Int),l.length=4*k->aTw l->aTw (kJ (nI l))/\(mU l=true↔kJ (nI l)=l)
 |0,[],_,_=>⟨λv h=>by simp[kJ,nI] at h,by simp[mU,kJ,nI]⟩
 |k+1,s::h::v::d::r,hl,ho=>by
  obtain⟨h1,h2⟩:=aWq k r (by simp at hl;omega) (λx a=>ho x (by simp[a]));have hs:=ho s (by simp);have b:=ho h (by simp);have hv:=ho v (by simp);have hd:=ho d (by simp);have e:kJ (nI (s::h::v::d::r))=s::h::v::(bif d==1 then 1 else 0)::kJ (nI r):=by simp[nI,kJ,aTx]
  rw[e];refine⟨λx a=> ?_,?_⟩
  ·simp only[bc] at a;rcases a with rfl|rfl|rfl|rfl|a
   ·exact hs
   ·exact b
   ·exact hv
   ·cases(d==1)<;>simp
   ·exact h1 x a
  ·simp only[mU,aa,cq,fx,true_and,h2];refine and_congr_left' ?_;by_cases h1:d=1
   ·subst h1;simp
   ·rw[show(d==1)=false by simpa using h1,ae];omega
def bBw:∀(k:Nat) (l r:List Int),l.length=4*k->nI (l++r)=nI l++nI r
 |0,[],r,_=>rfl
 |k+1,s::h::v::d::l,r,hl=>by
  have:=bBw k l r (by simp at hl;omega);simp[nI,this]
def uA (b:AC):List Int:=[(b.Entries.length:Int)]++kJ b.Entries
def nX (b:AC):List Int:=bif aP b then iN (uA b) else[]
def bBx (d:List Int)(v:List Int×Int×Bool):AC×Bool:=bif !v.2.2||(v.2.1 !=(d.length:Int)||(!mU v.1|| !aP ⟨nI v.1⟩)) then(⟨[]⟩,false) else(⟨nI v.1⟩,true)
def Dw (d:List Int):AC×Bool:=bif !(Dh d 0).2.2||decide ((Dh d 0).1>20) then(⟨[]⟩,false) else bBx d (kZ d (4*(Dh d 0).1).toNat (Dh d 0).2.1 [])
def iX (key:Int)(s:AI):AC×Bool:=bif !(bL key&&(bX s.Epoch 0 1000000&&bX s.Version 0 1000000))||s.MAC !=iR key s then(⟨[]⟩,false) else Dw (Rt (lZ key s.Epoch s.Version) s.Data)
def bM7 {d:List Int}(hd:aT d){n e e':Int}{v:List Int}(h:Dh d 0=(n,e,true))(hn:n<=20)(c:kZ d (4*n).toNat e []=(v,e',true)):(iN (uA ⟨nI v⟩)=d↔(e'=(d.length:Int)/\mU v=true))/\v.length=4*n.toNat/\aTw v/\(nI v).length=n.toNat:=by
 obtain⟨q,⟨_,k,m,f,o⟩,p⟩:=aY4 hd h;subst f;obtain⟨t,q',⟨k1,k2,k3,k4,k5⟩,k6⟩:=Sc hd _ _ _ _ _ (by omega) (by omega) c;rw[bu] at k1;subst k1;have hl:v.length=4*n.toNat:=by omega
 obtain⟨r,s⟩:=aWq n.toNat v hl k5;have b:=aB9 n.toNat v hl;refine⟨?_,hl,k5,b⟩;have i:d=iN (n::v)++d.drop q':=by
  grind[vF,List.append_assoc,k6,Int.toNat]
 have hv:uA ⟨nI v⟩=n::kJ (nI v):=by show((nI v).length:Int)::_=_;simp at*;omega
 rw[hv];constructor
 ·intro hq;have a:iN (n::kJ (nI v))++[]=iN (n::v)++d.drop q':=by grind
  have j:∀l,aTw l->aTw (n::l):=λl hl x a=>by
   rcases bc.1 a with rfl|a
   ·omega
   ·exact hl x a
  grind[List.cons.inj,List.length_nil,List.length_drop,List.length,bBv,k5,vG]
 grind[List.drop_eq_nil_of_le]
def aWr (l:List Int):(EV.bIf l).data.toList=l.map λn=>UInt8.ofNat n.toNat:=by
 unfold EV.bIf;have:∀(l:List Int) (r:ByteArray),(l.foldl (λr n=>r.push (UInt8.ofNat n.toNat)) r).data.toList=r.data.toList++l.map λn=>UInt8.ofNat n.toNat:=by intro l;induction l<;>simp_all
 simp[*]
def bytes_inj:∀{a b:List Int},(∀z∈a,0<=z/\z<=255)->(∀z∈b,0<=z/\z<=255)->(a.map λn=>UInt8.ofNat n.toNat)=(b.map λn=>UInt8.ofNat n.toNat)->a=b
 |[],[],_,_,_=>rfl
 |[],y::b,_,_,h=>by simp at h
 |x::a,[],_,_,h=>by simp at h
 |x::a,y::b,d,hb,h=>by
  simp only[bw,fx] at h;have f:=d x (by simp);have i:=hb y (by simp);have e:=congrArg UInt8.toNat h.1;rw[UInt8.toNat_ofNat',UInt8.toNat_ofNat'] at e;rw[bytes_inj (λz c=>d z (by simp[c])) (λz c=>hb z (by simp[c])) h.2,show x=y by omega]
def Sd {b:List Int}(h:aT b):∀z∈b,0<=z/\z<=255:=λz a=>by simpa using co.1 h.2 z a
def aPe {b:List Int}(h:b.length<=34359738368)(h1:∀z∈b,0<=z/\z<=255):aT b:=⟨h,co.2 λz a=>by simpa using h1 z a⟩
def aWs:∀(k:Nat) (n:Int),0<=n->n<128^(k+1)->∀z∈uvE k n,0<=z/\z<=255
 |0,n,h0,h1,z,a=>by simp[uvE] at a;subst a;simp at h1;omega
 |k+1,n,h0,h1,z,a=>by
  have h2:(128:Int)^(k+1+1)=128*128^(k+1):=by rw[fq];omega
  unfold uvE at a;by_cases hn:n>127
  ·rw[au hn,ac] at a;rcases bc.1 a with rfl|a
   ·omega
   ·exact aWs k (n/128) (by omega) (by omega) z a
  ·rw[av hn,ae] at a;simp at a;subst a;omega
def bEm (n:Int):∀z∈enc1 n,0<=z/\z<=255:=λz a=>by
 unfold enc1 at a;cases hr:bX n 0 1000000000000 with
 |false=>simp_all
 |true=>
  rw[hr] at a;have:=iA hr;have b:(128:Int)^(5+1)=4398046511104:=by decide
  exact aWs 5 n this.1 (by omega) z a
def M8 (l:List Int):∀z∈iN l,0<=z/\z<=255:=λz a=>by
 unfold iN at a;obtain⟨x,b,a⟩:=jg.1 a;obtain⟨n,_,rfl⟩:=ct.1 b;exact bEm n z a
theorem oN {b:AC}(h:aP b=true):b.Entries.length<=20:=by
 grind[aP]
def aCa (b:AC):aT (nX b):=by
 unfold nX;cases hb:aP b with
 |false=>exact⟨by simp,rfl⟩
 |true=>
  have:=oN hb;have h1:=aB8 (uA b);have h2:(uA b).length=1+4*b.Entries.length:=by grind[uA,vG]
  exact aPe (by grind) (M8 _)
theorem bM8 (d:List Int):(Dw d).1.sz<=20:=by
 grind[Dh,decide,kZ,bBx,aP,nI,Bool.not_false,oN,mU,AC.sz,Dw]
theorem aWt (k:Int)(s:AI):(iX k s).1.sz<=20:=by
 grind[bL,bX,iR,AC.sz,bM8,iX]
theorem aWu {a b:AC}(h:(iG a b).2=true):(iG a b).1.sz<=20:=by
 grind[aP,bR,oN,AC.sz,iG]
def iH (d:AB)(log:List AD)(bx:AK)(s:AI):Int:=
 bif !aU log|| !bS log d.Log then 1 else bif !iW (aC log) (aS d.Store) then 2 else bif bx.Epoch !=aB log|| !(dL d.Store bx).2 then 3
 else bif decide (s.Epoch<aB log)||(decide (s.Epoch<d.Epoch)||(s.Epoch==d.Epoch&&decide (s.Version<d.Version))) then 4
 else bif !(iX (dL d.Store bx).1 s).2|| !(iG d.aAD (iX (dL d.Store bx).1 s).1).2 then 5 else 0
def bQ (d:AB)(log:List AD)(bx:AK)(s:AI):AB×Int:=
 bif iH d log bx s==0 then(⟨d.Store,log,(dL d.Store bx).1,s.Epoch,s.Version,(iG d.aAD (iX (dL d.Store bx).1 s).1).1⟩,0) else(d,iH d log bx s)
def aF (w:AA)(d b:Int):AA×Int:=bif aR w&&aK w d then({w with Devices:=w.Devices.set d.toNat (bQ (aG w d) w.aAA.Log w.aAA.Boxes (eF w.aAA b).1).1},(bQ (aG w d) w.aAA.Log w.aAA.Boxes (eF w.aAA b).1).2) else(w,1)
def dE (w:AA)(d:Int):Bool:=w.Stolen.getD d.toNat false
theorem aPf (d:AB)(l:List AD)(bx:AK)(s:AI):(bQ d l bx s).1.sz<=d.sz+l.length+20:=by
 unfold bQ;cases hc:iH d l bx s==0 with
 |false=>grind
 |true=>
  grind[AB.sz,AC.sz,aWu,iG,iX,dL,bx,iH,aU,bS,iW,aC,aS,aB,decide]
def bBy (k:Int)(i:Nat)(z:Int):Int:=IntKind.u8.wrap ((z+bU k [(i:Int)])%256)
def lG (k:Int)(b:List Int):List Int:=Pe (λi z=>[bBy k i z]) 0 b
def eY (k e v:Int)(b:AC):AI:=⟨e,v,lG (lZ k e v) (nX b),iR k ⟨e,v,lG (lZ k e v) (nX b),0⟩⟩
def kK (k e v:Int)(b:AC):AI×Bool:=bif bL k&&(bX e 0 1000000&&bX v 0 1000000)&&aP b then(eY k e v b,true) else(⟨0,0,[],0⟩,false)
def bZ (d:AB):AB×AI×Bool:=bif (kK d.Key d.Epoch (IntKind.i64.wrap (d.Version+1)) d.aAD).2 then({d with Version:=IntKind.i64.wrap (d.Version+1)},(kK d.Key d.Epoch (IntKind.i64.wrap (d.Version+1)) d.aAD).1,true) else(d,⟨0,0,[],0⟩,false)
def jY (a b:AI):Bool:=decide (a.Epoch>b.Epoch)||(a.Epoch==b.Epoch&&decide (a.Version>b.Version))
def bM (c:AM)(s:AI):AM×Bool:=bif s.Epoch !=aB c.Log||((decide ((c.History.length:Int)>0)&& !jY s (c.History.getD (c.History.length-1) default))||decide ((c.History.length:Int)>=60)) then(c,false) else({c with History:=c.History++[s]},true)
def Dj (w:AA)(d:Int):AA×Bool:=bif (bZ (aG w d)).2.2&&(bM w.aAA (bZ (aG w d)).2.1).2 then({w with Devices:=w.Devices.set d.toNat (bZ (aG w d)).1,aAA:=(bM w.aAA (bZ (aG w d)).2.1).1},true) else(w,false)
def dI (w:AA)(d:Int):AA×Bool:=bif (aF w d 0).2==0&&(Dj (aF w d 0).1 d).2 then((Dj (aF w d 0).1 d).1,true) else(w,false)
def aNd:List Int->AA->AA×Bool
 |[],w=>(w,true)
 |i::l,w=>bif (dI w i).2 then aNd l (dI w i).1 else(w,false)
def aY5:List Int->AA->AA×Bool
 |[],w=>(w,true)
 |i::l,w=>bif (aF w i 0).2==0 then aY5 l (aF w i 0).1 else(w,false)
def bQ1 (w:AA):AA×Bool:=bif aR w&&((aNd (zY w) w).2&&(aY5 (zY w) (aNd (zY w) w).1).2) then((aY5 (zY w) (aNd (zY w) w).1).1,true) else(w,false)
theorem Ii (b:AC):(nX b).length<=500:=by
 grind[aP,oN,aB8,uA,vG,nX]
theorem Ab (k:Int)(b:List Int):(lG k b).length=b.length:=by simp[sK,lG]
def aWv (k e v:Int)(b:AC):(kK k e v b).1.Data.length<=500:=by
 grind[bL,bX,aP,eY,Ab,Ii,kK]
theorem zH (d:AB):(bZ d).1.sz=d.sz/\(bZ d).2.1.Data.length<=500:=by
 unfold bZ;have:=aWv d.Key d.Epoch (IntKind.i64.wrap (d.Version+1)) d.aAD;cases(kK d.Key d.Epoch (IntKind.i64.wrap (d.Version+1)) d.aAD).2 with
 |false=>simp
 |true=>exact⟨rfl,this⟩
theorem qQ (c:AM)(s:AI):(bM c s).1.sz<=c.sz+1+s.Data.length/\(bM c s).1.Log=c.Log:=by
 unfold bM;cases s.Epoch !=aB c.Log||((decide ((c.History.length:Int)>0)&& !jY s (c.History.getD (c.History.length-1) default))||decide ((c.History.length:Int)>=60)) with
 |true=>grind
 |false=>grind[AM.sz,List.length_append,List.length_cons,List.length_nil,AI.sz]
theorem qR {α:Type}{f:α->Nat}:∀{l:List α} {i:Nat} {x:α} (hi:i<l.length),((l.set i x).map f).sum+f l[i]=(l.map f).sum+f x
 |y::l,0,x,_=>by simp only[List.set_cons_zero,bw,eE,gO];omega
 |y::l,i+1,x,h=>by
  have:=qR (f:=f) (l:=l) (i:=i) (x:=x) (by simpa using h);simp only[iq,bw,eE,fb];omega
theorem nY {w:AA}{d b:Int}(h:((aF w d b).2==0)=true):(aR w=true/\aK w d=true)/\(aF w d b).1.aAA=w.aAA/\(aF w d b).1.Devices.length=w.Devices.length/\(aF w d b).1.sz<=w.sz+w.aAA.Log.length+20:=by
 unfold aF at*;cases hc:(aR w&&aK w d) with
 |false=>simp_all
 |true=>
  rw[hc] at h;simp only[ac] at h ⊢;rw[aa] at hc;refine⟨hc,by first|rfl|trivial,by first|exact ao|simp,?_⟩;have hd:=hc.2;simp only[aK,aa,cq] at hd;have hi:d.toNat<w.Devices.length:=by omega
  have a:(bQ (aG w d) w.aAA.Log w.aAA.Boxes (eF w.aAA b).1).1.sz<=w.aAA.Log.length+20:=by
   unfold bQ at*;cases hs:iH (aG w d) w.aAA.Log w.aAA.Boxes (eF w.aAA b).1==0 with
   |false=>simp_all
   |true=>
    have hm:(iG (aG w d).aAD (iX (dL (aG w d).Store w.aAA.Boxes).1 (eF w.aAA b).1).1).2=true:=by
     grind[iG,aG,iX,dL,eF,iH,aU,bS,iW,aC,aS,aB,decide]
    grind[AB.sz,AC.sz,aWu]
  grind[AA.sz,List.length_set,bQ,aG,eF,qR,AB.sz]
theorem bM9 {w:AA}{d:Int}(hd:aK w d=true):(Dj w d).1.aAA.Log=w.aAA.Log/\(Dj w d).1.Devices.length=w.Devices.length/\(Dj w d).1.sz<=w.sz+501:=by
 unfold Dj;cases(bZ (aG w d)).2.2&&(bM w.aAA (bZ (aG w d)).2.1).2 with
 |false=>simp
 |true=>
  grind[AA.sz,AM.sz,List.length_set,bZ,aG,bM,List.getD,List.getElem?_eq_getElem,qR,AB.sz,aK,zH,qQ]
theorem aCb {w:AA}{d:Int}(h:(dI w d).2=true):(dI w d).1.aAA.Log=w.aAA.Log/\(dI w d).1.sz<=w.sz+w.aAA.Log.length+521:=by
 grind[aF,Dj,k1,k2,k3,k4,k5,nY,aK,bM9,dI]
theorem bNa {k z:Int}(i:Nat)(h:0<=z/\z<=255):IntKind.u8.wrap ((IntKind.i64.wrap (IntKind.i64.wrap z+bU k [(i:Int)])).tmod 256)=bBy k i z:=by have:=mR k [(i:Int)];rw[aM (n:=z) (by omega) (by omega),aM (by omega) (by omega),cz (by omega)];rfl
theorem bNb {k z:Int}(i:Nat)(h:0<=z/\z<=255):IntKind.u8.wrap ((IntKind.i64.wrap (IntKind.i64.wrap z+(bU k [(i:Int)]).tmod 256)).tmod 256)=bBy k i z:=by
 grind[aM,bU,Int.tmod_eq_emod_of_nonneg,bBy,mR]
def aO (seed n:Int):AJ:=⟨1,n,aV seed [277,n],0⟩
def bH (s:AJ):AB:=⟨s,[],0,0,0,⟨[]⟩⟩
def dC (s:AJ)(n:ByteArray)(h:Int):Int:=aV s.Seed [179,bG n,h]
def eG (s:AJ)(n:ByteArray)(h:Int):Int:=dQ (dC s n h)
def lH (s:AJ)(l:List Int):Int:=rM (iO s) l
def bBz (log:List AD)(kind dev:Int)(s:AJ):AD:=⟨(log.length:Int),kind,dev,aS s,iE log,0⟩
def Gy (log:List AD)(kind dev:Int)(s:AJ):AD:={bBz log kind dev s with Signature:=lH s [dB (bBz log kind dev s)]}
def bP (log:List AD)(kind dev:Int)(s:AJ):List AD×Bool:=bif (decide ((log.length:Int)>0)&& !aU log)|| !aU (log++[Gy log kind dev s]) then(log,false) else(log++[Gy log kind dev s],true)
def nJ (p e:Int)(d:List Int):AO:=⟨p,e,lG (gX (gI p) e) d,Ru (gX (gI p) e) ⟨p,e,lG (gX (gI p) e) d,0⟩⟩
def fE (p e:Int)(d:List Int):AO×Bool:=bif gI p==0||(!bL e||decide ((d.length:Int)>200)) then(⟨0,0,[],0⟩,false) else(nJ p e d,true)
def fK (e:Int)(d:List Int):Nat->List Int->List AO×Bool
 |_,[]=>([],true)
 |i,p::l=>bif (fE p (IntKind.i64.wrap (e+(i:Int))) d).2&&(fK e d (i+1) l).2 then((fE p (IntKind.i64.wrap (e+(i:Int))) d).1::(fK e d (i+1) l).1,true) else([],false)
def bC (log:List AD)(key eph:Int):AK×Bool:=bif !aU log||(!bL key|| !(fK eph (iN [aB log,key]) 0 (aC log)).2) then(⟨0,[]⟩,false) else(⟨aB log,(fK eph (iN [aB log,key]) 0 (aC log)).1⟩,true)
def mV (e:AK)(d:Int):Int:=e.Boxes.foldl (λn b=>bif b.To==d then IntKind.i64.wrap (n+1) else n) 0
def fQ (e:AK)(log:List AD):Bool:=(e.Epoch==aB log&&(e.Boxes.length:Int)==((aC log).length:Int))&&(aC log).all λd=>mV e d==1
def gG (c:AM)(log:List AD)(e:AK):AM×Bool:=bif !aU log||(!bS log c.Log|| !fQ e log) then(c,false) else({c with Log:=log,Boxes:=e},true)
def Yh (h:Int)(l:List AV):Nat:=(l.takeWhile λc=>decide (c.Handle<h)).length
def aCc (l:List AV)(h p:Int):List AV:=l.take (Yh h l)++[⟨h,p,0,false⟩]++l.drop (Yh h l)
def fT (a:AH)(h p:Int):AH×Bool:=bif !bA a|| !bA {a with Credentials:=aCc a.Credentials h p} then(a,false) else({a with Credentials:=aCc a.Credentials h p},true)
def eQ (s:AF)(id h p:Int):AF×Bool:=bif !dD s||decide (aJ s id<0) then(s,false) else bif (fT (s.Accounts.getD (aJ s id).toNat default) h p).2 then({s with Accounts:=s.Accounts.set (aJ s id).toNat (fT (s.Accounts.getD (aJ s id).toNat default) h p).1},true) else(s,false)
def wG (l:List AU):Nat:=bif l.any (λn=>n.Seen) then(l.takeWhile λn=> !n.Seen).length else 0
def Dx (l:List AU):List AU:=bif decide ((l.length:Int)>30) then l.take (wG l)++l.drop (wG l+1) else l
def nK (m:AP)(k a t:Int):AP×Bool:=bif !dR m|| !dR ⟨Dx (m.Notices++[⟨k,a,t,false⟩])⟩ then(m,false) else(⟨Dx (m.Notices++[⟨k,a,t,false⟩])⟩,true)
def fV (w:AA)(by_ kind pub:Int)(key:List AD->Int):AA×Bool:=
 let l:=bP w.aAA.Log kind pub (aG w by_).Store;let e:=bC l.1 (key l.1) (IntKind.i64.wrap (1000+IntKind.i64.wrap (10*(l.1.length:Int))));let c:=gG w.aAA l.1 e.1
 bif l.2&&(e.2&&c.2) then({w with aAA:=c.1},true) else(w,false)
theorem mW (log:List AD)(k d:Int)(s:AJ):(bP log k d s).1.length<=log.length+1:=by unfold bP;cases(decide ((log.length:Int)>0)&& !aU log)|| !aU (log++[Gy log k d s])<;>simp
theorem bEn (p e:Int)(d:List Int):(fE p e d).1.sz<=d.length:=by
 grind[gI,bL,decide,AO.sz,nJ,Ab,fE]
def bB0 {e:Int}{d:List Int}:∀{i:Nat} {l:List Int},(fK e d i l).1.length<=l.length/\((fK e d i l).1.map AO.sz).sum<=l.length*d.length
 |i,[]=>by simp[fK]
 |i,p::l=>by
  have h1:=bB0 (e:=e) (d:=d) (i:=i+1) (l:=l)
  grind[fE,fK,List.length_cons,Nat.add_mul,bEn]
theorem bB1 (a b:Int):(iN [a,b]).length<=12:=aB8 [a,b]
theorem vH (log:List AD)(k e:Int):(bC log k e).1.sz<=13*log.length:=by
 unfold bC;have h1:=bB0 (e:=e) (d:=iN [aB log,k]) (i:=0) (l:=aC log);have h2:=fU log;have a:=bB1 (aB log) k;have b:=fv (aC log).length a
 grind[aU,bL,fK,iN,aB,aC,AK.sz]
theorem bNc (c:AM)(l:List AD)(e:AK):(gG c l e).1.sz<=c.sz+l.length+e.sz/\(gG c l e).1.History=c.History:=by
 grind[aU,bS,fQ,AM.sz,AK.sz,gG]
theorem bB2 (l:List AV)(h p:Int):(aCc l h p).length=l.length+1:=by
 grind[aCc,List.length_append,List.length_take,List.length_drop,List.length_singleton]
theorem bEo (a:AH)(h p:Int):(fT a h p).1.sz<=a.sz+1:=by
 grind[bA,aCc,AH.sz,bB2,fT]
theorem aWw (l:List AU):(Dx l).length<=l.length:=by
 grind[decide,List.length_append,List.length_take,List.length_drop,Dx]
theorem bG7 (m:AP)(k a t:Int):(nK m k a t).1.sz<=m.sz+1:=by
 grind[dR,Dx,AP.sz,List.length_append,List.length_singleton,aWw,nK]
def oO {α:Type}{p:α->Bool}{i:Nat}{l:List α}(h:decide (kW p i l<0)=false):(i:Int)<=kW p i l/\kW p i l<i+l.length:=by induction l generalizing i<;>grind[kW,List.length_cons]
theorem aWx (s:AF)(id h p:Int):(eQ s id h p).1.sz<=s.sz+1:=by
 unfold eQ;cases hc: !dD s||decide (aJ s id<0) with
 |true=>simp
 |false=>
  rw[bl] at hc;have hr:=oO hc.2
  grind[fT,aJ,id,default,qR,AH.sz,bEo,List.getD,List.getElem?_eq_getElem,AF.sz,List.length_set]
def appW (w:AA)(x:AB):AA:={w with Devices:=w.Devices++[x],Stolen:=w.Stolen++[false]}
theorem bB3 {w:AA}(x:AB){d:Int}(h:aK w d=true)(hn:w.Devices.length<6):aR (appW w x)=aR w:=by
 grind[appW,aR,List.length_append,List.length_singleton,bX,decide_eq_true,aK]
theorem bEp {w:AA}(x:AB){d:Int}(h:aK w d=true):aK (appW w x) d=true:=by
 grind[aK,appW,List.length_append,List.length_singleton]
theorem aWy {w:AA}(x:AB){d:Int}(h:aK w d=true):aG (appW w x) d=aG w d:=by
 grind[aG,appW,List.getD,List.getElem?_append_left,aK]
theorem bNd {w:AA}(x:AB){d:Int}(b:Int)(h:aK w d=true)(hn:w.Devices.length<6):aF (appW w x) d b=(appW (aF w d b).1 x,(aF w d b).2):=by
 grind[aR,Bool.and_self,appW,List.set_append_left,bB3,bEp,aWy,aF,aK]
theorem bVi {w:AA}(x:AB){d:Int}(h:aK w d=true):Dj (appW w x) d=(appW (Dj w d).1 x,(Dj w d).2):=by
 grind[bZ,aG,bM,appW,List.set_append_left,aWy,Dj,aK]
def bNe {w:AA}(x:AB){d:Int}(h:aK w d=true)(hn:w.Devices.length<6):dI (appW w x) d=(appW (dI w d).1 x,(dI w d).2):=by
 grind[aF,k4,nY,aK,bVi,Dj,bNd,dI]
theorem aCd (w:AA)(b k p:Int)(key:List AD->Int):(fV w b k p key).1.sz<=w.sz+14*(w.aAA.Log.length+1)/\(fV w b k p key).1.aAA.Log.length<=w.aAA.Log.length+1/\(fV w b k p key).1.Devices=w.Devices/\(fV w b k p key).1.Sites=w.Sites:=by
 grind[AA.sz,AM.sz,gG,bC,aU,bS,fQ,bNc,vH,bP,aG,mW,fV]
def jI (d:AB)(h:Int)(rm:Bool):AB:=(bO (bO d (aA 0) h rm).1 (aA 1) h rm).1
def fZ (st:AJ)(n:Int):Nat->List AF->List AF×Bool
 |_,[]=>([],true)
 |j,s::l=>bif (eQ s 1 n (eG st (aA (j:Int)) n)).2&&(fZ st n (j+1) l).2 then((eQ s 1 n (eG st (aA (j:Int)) n)).1::(fZ st n (j+1) l).1,true) else([],false)
def nZ (w:AA)(k:Int):AA:={w with Mail:=(nK w.Mail k 1 w.Now).1}
def add1 (w:AA)(b:Int):AA×Bool:=fV (aF w b 0).1 b 1 (aS (aO w.Seed (w.Devices.length:Int))) λ_=>(aG (aF w b 0).1 b).Key
def M9 (w:AA)(b:Int):List AF×Bool:=fZ (aO w.Seed (w.Devices.length:Int)) (w.Devices.length:Int) 0 (add1 w b).1.Sites
def nL (w:AA)(b:Int):AA×Bool:=dI {(add1 w b).1 with Sites:=(M9 w b).1,Devices:=(add1 w b).1.Devices.set b.toNat (jI (aG (add1 w b).1 b) (w.Devices.length:Int) false)} b
def wY (w:AA)(b:Int):AA×Int:=aF (appW (nL w b).1 (bH (aO w.Seed (w.Devices.length:Int)))) (w.Devices.length:Int) 0
def xL (w:AA)(b:Int):Bool:=(aR w&&(aK w b&&(!dE w b&& !decide ((w.Devices.length:Int)>=6))))&&((aF w b 0).2==0&&((add1 w b).2&&((M9 w b).2&&((nL w b).2&&(wY w b).2==0))))
def cK (w:AA)(b:Int):AA×Bool:=bif xL w b then(nZ (wY w b).1 2,true) else(w,false)
theorem aCe (d:AB)(h:Int)(rm:Bool):(jI d h rm).sz<=d.sz+2:=by
 grind[jI,Ih,aA,bO]
def aGt {st:AJ}{n:Int}:∀{j:Nat} {l:List AF},(fZ st n j l).1.length<=l.length/\((fZ st n j l).1.map AF.sz).sum<=(l.map AF.sz).sum+l.length
 |j,[]=>by simp[fZ]
 |j,s::l=>by
  have h1:=aGt (st:=st) (n:=n) (j:=j+1) (l:=l)
  grind[eQ,eG,aA,fZ,List.length_cons,aWx]
def bJg {w:AA}{b:Int}(h0:((aF w b 0).2==0)=true):(aK (add1 w b).1 b=true/\(add1 w b).1.Devices.length=w.Devices.length)/\(add1 w b).1.sz<=16*w.sz+34/\(add1 w b).1.aAA.Log.length<=w.sz+1:=by
 grind[k2,k4,add1,aK,fV,k3,aCd,aF,aS,aO,aG,AA.sz,AM.sz,k1,k5,nY]
def aAT (w:AA)(b:Int):AA:={(add1 w b).1 with Sites:=(M9 w b).1,Devices:=(add1 w b).1.Devices.set b.toNat (jI (aG (add1 w b).1 b) (w.Devices.length:Int) false)}
def aPg {w:AA}{b:Int}(h0:((aF w b 0).2==0)=true):(aK (aAT w b) b=true/\(aAT w b).Devices.length=w.Devices.length)/\(aAT w b).sz<=32*w.sz+80/\(aAT w b).aAA.Log.length<=w.sz+1:=by
 obtain⟨⟨h1,h2⟩,a,c⟩:=bJg h0;have d:=aGt (st:=aO w.Seed (w.Devices.length:Int)) (n:=(w.Devices.length:Int)) (j:=0) (l:=(add1 w b).1.Sites)
 grind[aAT,M9,add1,AA.sz,List.length_set,aK,aG,List.getD,List.getElem?_eq_getElem,qR,AB.sz,jI,aCe]
theorem aNe (w:AA)(x:AB):(appW w x).sz=w.sz+x.sz+2:=by
 grind[appW,AA.sz,List.length_append,List.length_singleton]
theorem aNf (w:AA)(k:Int):(nZ w k).sz<=w.sz+1:=by
 grind[nZ,AA.sz,AP.sz,bG7]
def bG8 {w:AA}{b:Int}(h0:((aF w b 0).2==0)=true)(h:(nL w b).2=true):(nL w b).1.sz<=33*w.sz+602/\(nL w b).1.aAA.Log.length<=w.sz+1:=by obtain⟨_,h1,h2⟩:=aPg h0;obtain⟨a,c⟩:=aCb (w:=aAT w b) (d:=b) h;exact⟨by show(dI (aAT w b) b).1.sz<=_;omega,by show(dI (aAT w b) b).1.aAA.Log.length<=_;rw[a];exact h2⟩
theorem aWz {α:Type}{p:α->Bool}:∀{l:List α} {i:Nat} (hi:i<l.length),i<(l.takeWhile p).length->p l[i]=true
 |x::l,0,_,h=>by
  simp only[de] at h;cases hp:p x with
  |true=>exact hp
  |false=>rw[hp] at h;simp at h
 |x::l,i+1,hi,h=>by
  simp only[de] at h;cases hp:p x with
  |true=>
   have a:i<(l.takeWhile p).length:=by simpa[hp] using h
   exact aWz (l:=l) (i:=i) (by simpa using hi) a
  |false=>rw[hp] at h;simp at h
theorem aW0 {α:Type}{p:α->Bool}:∀{l:List α} (h:(l.takeWhile p).length<l.length),p (l[(l.takeWhile p).length]'h)=false
 |x::l,h=>by
  cases hp:p x with
  |true=>
   have a:(l.takeWhile p).length<l.length:=by simpa[de,hp] using h
   simpa[de,hp] using aW0 a
  |false=>simp[de,hp]
theorem Sg {α:Type}{p:α->Bool}{l:List α}:(l.takeWhile p).length<=l.length:=(List.takeWhile_prefix p).length_le
def aGu {α τ S:Type}{l:List α}(p:α->Bool)(fin:Nat->Option τ)(e:Nat->S){F:(S->Option τ)->S->Option τ}(hl:l.length<=34359738368)
  (a:∀rec i (hi:i<l.length),F rec (e i)=bif p l[i] then rec (e (i+1)) else fin i) (b:∀rec,F rec (e l.length)=fin l.length):EV.bY FUEL F (e 0)=fin (l.takeWhile p).length:=by
 have go:∀(k i n:Nat),i+k=(l.takeWhile p).length->k<n->EV.bY n F (e i)=fin (l.takeWhile p).length:=by
  intro k;induction k with
  |zero=>
   intro i n hi hn;obtain⟨n,rfl⟩:∃m,n=m+1:=⟨n-1,by omega⟩
   grind[Sg,aW0,jA]
  |succ k c=>
   intro i n hi hn;obtain⟨n,rfl⟩:∃m,n=m+1:=⟨n-1,by omega⟩
   grind[jA,aWz,Sg]
 have:=Sg (p:=p) (l:=l);exact go (l.takeWhile p).length 0 FUEL (by omega) (by grind[gW])
def aGv {e:Int}{d:List Int}{l:List Int}{τ:Type}{x:τ}{F:(List AO×Nat->Option (τ⊕List AO))->List AO×Nat->Option (τ⊕List AO)}
  (a:∀rec i s (hi:i<l.length),s.length<=i->F rec (s,i)=bif !(fE l[i] (IntKind.i64.wrap (e+(i:Int))) d).2 then some (.inl x) else rec (s++[(fE l[i] (IntKind.i64.wrap (e+(i:Int))) d).1],i+1)) (b:∀rec s,F rec (s,l.length)=some (.inr s)):
  ∀(k i n:Nat) (s:List AO),i+k=l.length->k<n->s.length<=i->EV.bY n F (s,i)=some (bif (fK e d i (l.drop i)).2 then .inr (s++(fK e d i (l.drop i)).1) else .inl x)
 |0,i,n+1,s,h,_,_=>by
  have:i=l.length:=by omega
  subst this;rw[jA,b,dy];simp[fK]
 |k+1,i,n+1,s,h,hn,hs=>by
  have hi:i<l.length:=by omega
  rw[jA,a _ i s hi hs,cG hi,fK];cases hb:(fE l[i] (IntKind.i64.wrap (e+(i:Int))) d).2 with
  |false=>rfl
  |true=>rw[ax,ae,aGv a b k (i+1) n _ (by omega) (by omega) (by simp;omega)];cases(fK e d (i+1) (l.drop (i+1))).2<;>simp
def bEq (l:List AU):Nat:=(l.takeWhile λn=> !n.Seen).length
def bJh {l:List AU}{x:AU}:bEq (l++[x])=bif l.any (λn=>n.Seen) then bEq l else bif x.Seen then l.length else l.length+1:=by
 induction l with
 |nil=>cases a:x.Seen<;>simp[bEq,a]
 |cons y l b=>
  grind[List.takeWhile_cons,Bool.not_false,List.length_cons,bEq]
def aW1 {l:List AU}{F:(Int×Int->Option Int)->Int×Int->Option Int}(a:∀rec (k:Int) (i:Nat) (hi:i<l.length),F rec (k,(i:Int))=rec (bif l[i].Seen then(i:Int) else k,(i:Int)-1))(b:∀rec k,F rec (k,-1)=some k):
  ∀(n m:Nat) (k:Int),n<=l.length->n<m->EV.bY m F (k,(n:Int)-1)=some (bif (l.take n).any (λx=>x.Seen) then(bEq (l.take n):Int) else k)
 |0,m+1,k,_,_=>by rw[jA,show((0:Nat):Int)-1= -1 from rfl,b];simp
 |n+1,m+1,k,h,hm=>by
  have hn:n<l.length:=by omega
  rw[jA,show((n+1:Nat):Int)-1=(n:Int) by omega,a _ _ n hn,aW1 a b n m _ (by omega) (by omega),fk,ab hn];simp only[fa,jn,bJh,List.any_cons,List.any_nil,gu,cp,jl (Nat.le_of_lt hn)];cases(l.take n).any (λx=>x.Seen)<;>cases l[n].Seen<;>rfl
def bB4 (l:List AU):(wG l:Int)=bif l.any (λx=>x.Seen) then(bEq l:Int) else 0:=by unfold wG bEq;cases l.any (λn=>n.Seen)<;>rfl
def bB5 {l:List AU}(h:0<l.length):wG l<l.length:=by
 unfold wG;cases hs:l.any (λn=>n.Seen) with
 |false=>exact h
 |true=>
  obtain⟨x,b,hp⟩:=fp.1 hs;have:∀l:List AU,x∈l->(l.takeWhile λn=> !n.Seen).length<l.length:=by
   intro l;induction l with
   |nil=>simp
   |cons y l c=>
    intro h;cases a:y.Seen with
    |true=>simp[a]
    |false=>
     rcases bc.1 h with rfl|h
     all_goals simp[*]
  simp[*]
def bQ2 {τ S:Type}{l:List AU}(fin:Int->Option τ)(st:Nat->S){F:(S->Option τ)->S->Option τ}(hl:l.length<=34359738368)(a:∀rec i (hi:i<l.length),F rec (st i)=bif l[i].Seen then fin (i:Int) else rec (st (i+1)))(b:∀rec,F rec (st l.length)=fin 0):EV.bY FUEL F (st 0)=fin (wG l:Int):=by
 have e:=aGu (l:=l) (λn=> !n.Seen) (λi=>bif decide (i<l.length) then fin (i:Int) else fin 0) st (F:=F) hl (by grind) (by simp[*]);rw[e,bB4];cases hs:l.any (λn=>n.Seen) with
 |true=>
  have h0:0<l.length:=by grind
  have:=bB5 h0;unfold wG at this;rw[hs,ac] at this;rw[au this];rfl
 |false=>
  have c:∀l:List AU,l.any (λn=>n.Seen)=false->(l.takeWhile λn=> !n.Seen).length=l.length:=by intro l;induction l<;>simp_all
  simp[*]
def bB6 {e:Int}{d:List Int}{i:Nat}{l:List Int}(h:(fK e d i l).2=false):fK e d i l=([],false):=by cases l<;>grind[fK,fE]
theorem bEr {s:AF}{i:Int}(b:s.sz<=34359738300)(h:decide (aJ s i<0)=false):bB s.Accounts (aJ s i)=some (s.Accounts.getD (aJ s i).toNat default)/\(s.Accounts.getD (aJ s i).toNat default).sz<=34359738300/\(aJ s i).toNat<s.Accounts.length:=by
 have hr:=oO (p:=λa:AH=>a.Id==i) (i:=0) (l:=s.Accounts) h
 grind[AF.sz,wF,aJ,Ma,AH.sz]
def jN (d:AB)(log:List AD)(key:Int):AB×Bool:=bif !aU log||(!bS log d.Log||(decide (aB log<d.Epoch)|| !bL key)) then(d,false) else({d with Log:=log,Key:=key,Epoch:=aB log,Version:=0},true)
def aW (a:AH)(h:Int):Int:=kW (λc=>c.Handle==h) 0 a.Credentials
def fO (a:AH)(k:Int):AV:=a.Credentials.getD k.toNat default
def jS (a:AH)(h:Int):AH×Bool:=bif !bA a||(decide (aW a h<0)||(fO a (aW a h)).Cut) then(a,false) else({a with Credentials:=a.Credentials.set (aW a h).toNat {fO a (aW a h) with Cut:=true}},true)
def fF (s:AF)(k:Int):AH:=s.Accounts.getD k.toNat default
def gL (h:Int)(s:AF):AF:=bif decide (aJ s 1>=0) then {s with Accounts:=s.Accounts.set (aJ s 1).toNat (jS (fF s (aJ s 1)) h).1} else s
def bF (s e:Int):Int:=aV s [233,e]
def jL (s:AJ)(l:List AD):Int:=bF (aV s.Seed [311]) (aB l)
def jJ (w:AA)(b:Int):AA:=(aF w b 0).1
def Mc (w:AA)(b t:Int):List AD:=(bP (jJ w b).aAA.Log 2 (aS (aG w t).Store) (aG (jJ w b) b).Store).1
def jO (w:AA)(b t:Int):AA×Bool:=fV (jJ w b) b 2 (aS (aG w t).Store) (jL (aG (jJ w b) b).Store)
def vI (w:AA)(b t:Int):AB×Bool:=jN (aG (jJ w b) b) (Mc w b t) (jL (aG (jJ w b) b).Store (Mc w b t))
def Gz (w:AA)(b t:Int):AA:={(jO w b t).1 with Devices:=(jO w b t).1.Devices.set b.toNat (jI (vI w b t).1 t true),Sites:=(jO w b t).1.Sites.map (gL t)}
def sN (w:AA)(b t:Int):AA×Bool:=Dj (Gz w b t) b
def kR (w:AA)(b t:Int):AA×Bool:=bif (jO w b t).2&&((vI w b t).2&&(sN w b t).2) then(nZ (sN w b t).1 4,true) else(w,false)
def bE (w:AA)(b t:Int):AA×Bool:=bif (aF w b 0).2==0&&(!dE w b&&(!(b==t)&&bK w t)) then kR w b t else(w,false)
theorem aCf (d:AB)(l:List AD)(k:Int):(jN d l k).1.sz<=d.sz+l.length:=by
 grind[aU,bS,decide,aB,bL,AB.sz,jN]
theorem bEs (a:AH)(h:Int):(jS a h).1.sz=a.sz:=by
 grind[bA,decide,aW,fO,AH.sz,List.length_set,jS]
theorem bEt (h:Int)(s:AF):(gL h s).sz=s.sz:=by
 unfold gL;cases hc:decide (aJ s 1>=0) with
 |false=>rfl
 |true=>
  have h0:decide (aJ s 1<0)=false:=by simp_all
  have hr:=oO h0
  grind[AF.sz,List.length_set,fF,aJ,List.getD,List.getElem?_eq_getElem,bEs,qR,AH.sz,jS]
theorem aKk (h:Int)(l:List AF):((l.map (gL h)).map AF.sz).sum=(l.map AF.sz).sum:=by induction l<;>grind[bEt]
def aW2 {w:AA}{b t:Int}(h0:((aF w b 0).2==0)=true):(aK (jJ w b) b=true/\(jJ w b).Devices.length=w.Devices.length/\(jJ w b).aAA=w.aAA/\(jJ w b).sz<=2*w.sz+20)/\(Mc w b t).length<=w.sz+1/\(aK (jO w b t).1 b=true/\(jO w b t).1.Devices=(jJ w b).Devices)/\(jO w b t).1.sz<=16*w.sz+34/\(jO w b t).1.Sites=(jJ w b).Sites:=by
 obtain⟨⟨k1,k2⟩,k3,k4,k5⟩:=nY h0;have a:w.aAA.Log.length<=w.sz:=by grind[AA.sz,AM.sz]
 grind[aK,fV,jJ,aS,aG,jL,k4,k3,Mc,jO,k6,k5,aF,k2,aCd,mW]
theorem bQ3 {w:AA}{b t:Int}(h0:((aF w b 0).2==0)=true):aK (Gz w b t) b=true/\(Gz w b t).sz<=40*w.sz+200:=by
 obtain⟨⟨a,c,d,e⟩,f,⟨h1,h2⟩,h,i⟩:=aW2 (t:=t) h0;have hd:=a;simp only[aK,aa,cq] at hd;have hi:b.toNat<(jJ w b).Devices.length:=by omega
 have j:=aCf (aG (jJ w b) b) (Mc w b t) (jL (aG (jJ w b) b).Store (Mc w b t));have k:=aCe (vI w b t).1 t true
 grind[Gz,jO,AA.sz,List.length_set,List.length_map,aK,vI,aG,jJ,Mc,aKk,List.getD,List.getElem?_eq_getElem,qR,AB.sz,jI]
def bJi (w:AA)(b t:Int):(bE w b t).1.sz<=50*w.sz+1000:=by
 grind[aF,dE,bK,bQ3,kR,jO,vI,sN,bM9,aNf,bE]
--needs aAM aAL aAN
def eT (b:AR)(id:Int):Int:=bU b.Seed [197,id]
def aCg (b:AR)(acc now:Int):AZ:=⟨b.Next,acc,IntKind.i64.wrap (now+5)⟩
def fA (b:AR)(acc now:Int):AR×AZ×Bool:=bif fJ b&&(!(b.Next==1000000)&&(bX acc 0 1000000&&bX now 0 1000000)) then(⟨b.Seed,IntKind.i64.wrap (b.Next+1),(bif decide ((b.Open.length:Int)>=16) then b.Open.drop 1 else b.Open)++[aCg b acc now]⟩,aCg b acc now,true) else(b,⟨0,0,0⟩,false)
def dN (b:AR)(id:Int):Int:=kW (λc=>c.Id==id) 0 b.Open
def aGw (b:AR)(k:Int):AZ:=b.Open.getD k.toNat default
def qB (b:AR)(id acc now:Int):AR×Bool:=bif !fJ b||decide (dN b id<0) then(b,false) else(⟨b.Seed,b.Next,b.Open.take (dN b id).toNat++b.Open.drop ((dN b id).toNat+1)⟩,(aGw b (dN b id)).aAH==acc&&decide (now<=(aGw b (dN b id)).Until))
def mD (s:AF)(id now:Int):AF×Int×Int×Bool:=bif dD s&&(!decide (aJ s id<0)&&(fA s.Book id now).2.2) then({s with Book:=(fA s.Book id now).1},(fA s.Book id now).2.1.Id,eT (fA s.Book id now).1 (fA s.Book id now).2.1.Id,true) else(s,0,0,false)
def lI (s:AJ):Bool:=bX s.Vendor 1 9&&(bX s.Serial 0 1000000&&(bL s.Seed&&bX s.Counter 0 1000000))
def bNf (s:AJ):AJ:={s with Counter:=IntKind.i64.wrap (s.Counter+1)}
def jD (s:AJ)(site:ByteArray)(h:Int)(m:List Int):AJ×Int×Bool:=bif lI s&& !(s.Counter==1000000) then(bNf s,rM (dC s site h) (m++[(bNf s).Counter]),true) else(s,0,false)
def dH (a:AX):List Int:=[199,bG a.Site,oK 211 a.aAL,a.aAN,a.Handle,bif a.Present then 1 else 0]
def Nl (j:Int):AS:=⟨true,⟨#[119,119,119,46]⟩++aA j,443⟩
def bEu (j:Int):AS:=⟨true,⟨#[108,111,103,105,110,46]⟩++aA j++⟨#[46,101,118,105,108,46,110,101,116]⟩,443⟩
def bSu (j:Int):AS:=⟨true,aA j,443⟩
def tZ (k:Nat):AS:=match k with|0=>Nl 0|1=>Nl 1|2=>bSu 0|3=>bSu 1|4=>bEu 0|_=>bEu 1
def Si (k:Nat):ByteArray:=⟨#[104,116,116,112,115,58,47,47]⟩++(tZ k).Host
def bXj:List UInt8->List UInt8->Bool
 |[],b=>b==[]
 |x::a,b=>b==x::a||bXj a b
def lW (o:AS)(z:ByteArray):Bool:=bXj (46::o.Host.data.toList) (46::z.data.toList)
def Nn (o:AS)(s:ByteArray):Prop:=(∃k:Nat,k<6/\o=tZ k)/\∃j:Int,(j=0\/j=1)/\s=aA j
noncomputable instance (o:AS) (s:ByteArray):Decidable (Nn o s):=Classical.propDecidable _
def oP (o:AS):Prop:=∃k:Nat,k<6/\o=tZ k
def oP.p {o:AS}(h:oP o){j:Int}(hj:j=0\/j=1):Nn o (aA j):=⟨h,j,hj,rfl⟩
def bVj {j:Int}(hj:j=0\/j=1):oP (Nl j):=by
 rcases hj with rfl|rfl
 ·exact⟨0,by decide,rfl⟩
 ·exact⟨1,by decide,rfl⟩
noncomputable instance (o:AS):Decidable (oP o):=Classical.propDecidable _
def qK (o:AS):ByteArray:=⟨#[104,116,116,112,115,58,47,47]⟩++o.Host
def bJj (s:ByteArray):Prop:=s=⟨#[]⟩\/∃k:Nat,k<4/\s=Si k
noncomputable instance (s:ByteArray):Decidable (bJj s):=Classical.propDecidable _
def zI (s:ByteArray):AS×Bool:=bif decide (s.size=0) then(⟨false,⟨#[]⟩,0⟩,false) else(⟨true,s.extract 8 s.size,443⟩,true)
def Sj (s:AJ)(o:AS)(site:ByteArray)(h a:Int)(p:Bool):AX:=⟨site,qK o,a,h,p,0,0⟩
def aTy:AX:=⟨⟨#[]⟩,⟨#[]⟩,0,0,false,0,0⟩
def iP (s:AJ)(o:AS)(site:ByteArray)(h a:Int)(p:Bool):AJ×AX×Bool:=bif lW o site&&(jD s site h (dH (Sj s o site h a p))).2.2 then((jD s site h (dH (Sj s o site h a p))).1,{Sj s o site h a p with Counter:=(jD s site h (dH (Sj s o site h a p))).1.Counter,Signature:=(jD s site h (dH (Sj s o site h a p))).2.1},true) else(s,aTy,false)
def AsP (a:AX)(site:ByteArray):Prop:=∃j:Int,(j=0\/j=1)/\site=aA j/\(a=aTy\/(a.Site=site/\∃k:Nat,k<4/\a.aAL=Si k/\lW (tZ k) site=true))
noncomputable instance (a:AX) (s:ByteArray):Decidable (AsP a s):=Classical.propDecidable _
def gU (pub:Int)(a:AX)(site:ByteArray)(b cnt:Int):Int:=bif !(a.Site.toList==site.toList) then 1 else bif !a.Present then 2 else bif !(a.aAN==b) then 3 else bif !iC pub (dH a++[a.Counter]) a.Signature then 5 else bif decide (a.Counter<=cnt) then 4 else 0
def iI (a:AH)(x:AX)(site:ByteArray)(b:Int):AH×Int:=bif !bA a||(decide (aW a x.Handle<0)||(fO a (aW a x.Handle)).Cut) then(a,5) else({a with Credentials:=bif gU (fO a (aW a x.Handle)).Public x site b (fO a (aW a x.Handle)).Counter==0 then a.Credentials.set (aW a x.Handle).toNat {fO a (aW a x.Handle) with Counter:=x.Counter} else bif gU (fO a (aW a x.Handle)).Public x site b (fO a (aW a x.Handle)).Counter==4 then a.Credentials.set (aW a x.Handle).toNat {fO a (aW a x.Handle) with Cut:=true} else a.Credentials},gU (fO a (aW a x.Handle)).Public x site b (fO a (aW a x.Handle)).Counter)
def qN (a:AH)(m:Int):Bool:=bA a&&(decide (a.Minimum<=m)&&(decide (m<=3)&&(!(m==3)||a.Credentials.any λc=> !c.Cut)))
def oC (s:AF)(id b now:Int)(a:AX):AF×Int×Int:=bif !dD s||decide (aJ s id<0) then(s,1,0) else bif !(qB s.Book b id now).2 then({s with Book:=(qB s.Book b id now).1},2,0) else bif !qN (fF s (aJ s id)) 3 then({s with Book:=(qB s.Book b id now).1},3,0) else bif !((iI (fF s (aJ s id)) a s.Name (eT s.Book b)).2==0) then({s with Book:=(qB s.Book b id now).1,Accounts:=s.Accounts.set (aJ s id).toNat (iI (fF s (aJ s id)) a s.Name (eT s.Book b)).1},4,(iI (fF s (aJ s id)) a s.Name (eT s.Book b)).2) else({s with Book:=(qB s.Book b id now).1,Accounts:=s.Accounts.set (aJ s id).toNat (iI (fF s (aJ s id)) a s.Name (eT s.Book b)).1,Logins:=s.Logins++[id]},0,0)
def dU (w:AA)(j:Int):AF:=w.Sites.getD j.toNat default
def gZ (w:AA)(j:Int):AF×Int×Int×Bool:=mD (dU w j) 1 w.Now
def Md (w:AA)(d j:Int)(o:AS):AJ×AX×Bool:=iP (aG w d).Store o (aA j) d (gZ w j).2.2.1 true
def Ac (w:AA)(d j:Int)(o:AS):AF×Int×Int:=oC (gZ w j).1 1 (gZ w j).2.1 w.Now (Md w d j o).2.1
def aPh (w:AA)(d j:Int)(o:AS):AA:={w with Devices:=w.Devices.set d.toNat {aG w d with Store:=(Md w d j o).1},Sites:=w.Sites.set j.toNat (Ac w d j o).1}
def dM (w:AA)(d j:Int):Bool:=aR w&&(aK w d&&lF w j)
def dV (w:AA)(d j:Int)(o:AS):AA×AX×Int:=bif !dM w d j then(w,aTy,1) else bif !(gZ w j).2.2.2 then(w,aTy,1) else bif !((Ac w d j o).2.1==0) then(aPh w d j o,(Md w d j o).2.1,2) else(nZ (aPh w d j o) 1,(Md w d j o).2.1,0)
def yT (w:AA)(d j:Int)(o:AS):AA×Int:=((dV w d j o).1,(dV w d j o).2.2)
def pQ (w:AA)(d j:Int):AA×Int:=bif dM w d j&& !dE w d then yT w d j (Nl j) else(w,1)
def rP (o:AS):Bool:=iF o.Host&&bX o.Port 1 65535
def bEv (m:Int):Nat->Int->Int->Int->Int
 |0,_,_,s=>s
 |k+1,b,n,s=>if n>0 then bEv m k ((IntKind.i64.wrap (b*b)).tmod m) (n/2) (bif n%2==1 then(IntKind.i64.wrap (s*b)).tmod m else s) else s
def aPi (x:Int):Bool:=bX x 1 2038&&bEv 2039 11 x 1019 1==1
def Ad (g n:Int):Int:=bif aPi g then bEv 2039 11 g (jH n 1019) 1 else 0
def aCh (l v:Int):Int:=Ad 4 (IntKind.i64.wrap (1+((IntKind.i64.wrap (bU l [89,v]*bU l [89,v])).tmod 2147483647).tmod 1018))
def Xu (s l i:Int):Int:=Ad (aCh l i) s
def Dy (e l:Int):Int:=jX (bU e [157,l])
def aW3 (k m:Int):Int:=bif bX k 0 2147483647 then bAb .i64 k (aV m [251]) else 0
def aCi (o s:Int):Int:=bU o [257,s]
def wZ (c:Int)(l:List Int)(n:Int):List A0:=bif bX n 1 7&&decide ((l.length:Int)<n) then(List.range n.toNat).map λ(i:Nat)=>⟨(i:Int)+1,Sb c l ((i:Int)+1)⟩ else[]
def Dz (k:A3):AN:=⟨k,[],Rq k⟩
def aNg (pin salt key secret limit:Int):Bool:=bX pin 0 9999&&(bX salt 0 1000000&&(bL key&&(!(jH secret 1019==0)&&bX limit 1 10)))
def Ha (pin salt key secret:Int)(cs:List Int)(n limit:Int):AY×List AN×Bool:=
 bif aNg pin salt key secret limit&& !((wZ secret cs n).length==0) then(⟨salt,IntKind.i64.wrap ((cs.length:Int)+1),aCi (Dy (Xu secret salt pin) salt) salt,aW3 key (Dy (Xu secret salt pin) salt)⟩,(wZ secret cs n).map (λs=>Dz ⟨s,0,0,limit⟩),true) else(⟨0,0,0,0⟩,[],false)
def dF (log:List AD)(bx:AK):AM×Bool:=bif aU log&&fQ bx log then(⟨log,bx,[]⟩,true) else(⟨[],⟨0,[]⟩,[]⟩,false)
def Ij (id:Int)(l:List AH):Nat:=(l.takeWhile λa=>decide (a.Id<id)).length
def sO (s:AF)(id m:Int):AF:={s with Accounts:=s.Accounts.take (Ij id s.Accounts)++[⟨id,m,[]⟩]++s.Accounts.drop (Ij id s.Accounts)}
def nM (s:AF)(id m:Int):AF×Bool:=bif dD s&&dD (sO s id m) then(sO s id m,true) else(s,false)
def vW (nm:ByteArray):Nat->List AB->AF->AF
 |_,[],s=>s
 |i,d::l,s=>vW nm (i+1) l (eQ s 1 (i:Int) (eG d.Store nm (i:Int))).1
def Sk (seed:Int)(l:List AB)(j:Int):AF:=vW (aA j) 0 l (nM (gT (aA j) (aV seed [281,j])) 1 3).1
def Ae (l:List AB)(seed:Int):List AF:=[Sk seed l 0,Sk seed l 1]
def aX (seed:Int):Nat->List AD
 |0=>[]
 |n+1=>(bP (aX seed n) 1 (aS (aO seed (n:Int))) (aO seed 0)).1
def dO (seed:Int)(n:Nat):List AB:=(List.range n).map λ(i:Nat)=>bH (aO seed (i:Int))
def Me (nm:ByteArray):Nat->AB->AB
 |0,d=>d
 |i+1,d=>(bO (Me nm i d) nm (i:Int) false).1
def gM (seed:Int)(n:Nat):AK:=(bC (aX seed n) (bF seed 0) 1000).1
def yU (seed:Int)(n:Nat)(d:AB):AB:=(jN d (aX seed n) (bF seed 0)).1
def lX (seed:Int)(n:Nat):AB:=Me (aA 1) n (Me (aA 0) n (yU seed n (bH (aO seed 0))))
def nwW (seed:Int)(n:Nat):AB×AI×Bool:=bZ (lX seed n)
def iQ (seed:Int)(n:Nat):AM:=(bM (dF (aX seed n) (gM seed n)).1 (nwW seed n).2.1).1
def Af (seed:Int)(n:Nat)(d:AB):AB:=(bQ (yU seed n d) (aX seed n) (gM seed n) (nwW seed n).2.1).1
def kD (seed:Int)(n:Nat):List AB:=(nwW seed n).1::((dO seed n).drop 1).map (Af seed n)
def N7 (seed t:Int):List Int:=(List.range (t-1).toNat).map λ(k:Nat)=>aV seed [307,(k:Int)+1]
def Xv (seed t pin k:Int):AY×List AN×Bool:=Ha pin 7 (aV seed [283]) (IntKind.i64.wrap (1+(aV seed [293]).tmod 1018)) (N7 seed t) k 5
def yX (n k t pin seed:Int):Bool:=bX n 1 3&&(bX k 1 7&&(bX t 1 k&&(bX pin 0 9999&&bL seed)))
def aNh:AA:=⟨0,0,[],[],⟨[],⟨0,[]⟩,[]⟩,[],⟨0,0,0,0⟩,[],0,⟨[]⟩⟩
def bI (n k t pin seed:Int):AA:=bif yX n k t pin seed then⟨0,seed,kD seed n.toNat,List.replicate n.toNat false,iQ seed n.toNat,Ae (dO seed n.toNat) seed,(Xv seed t pin k).1,(Xv seed t pin k).2.1,pin,⟨[]⟩⟩ else aNh
theorem aPk {l:List Int}(h:l.Nodup)(e:AD):(jC l e).Nodup:=by
 grind[List.nodup_append,jC]
theorem bEw (log:List AD):(aC log).Nodup:=by
 have key:∀(l:List AD) (s:List Int),s.Nodup->(l.foldl jC s).Nodup:=by intro l;induction l<;>grind[aPk]
 exact key log [] gl
theorem bB7 {e:Int}{d:List Int}:∀{i:Nat} {l:List Int},(fK e d i l).2=true->(fK e d i l).1.map (λb=>b.To)=l
 |_,[],_=>rfl
 |i,p::l,h=>by
  simp only[fK] at h ⊢;cases hc:(fE p (IntKind.i64.wrap (e+(i:Int))) d).2&&(fK e d (i+1) l).2 with
  |false=>rw[hc] at h;cases h
  |true=>
   rw[aa] at hc;simp only[ac,bw,bB7 hc.2];have:(fE p (IntKind.i64.wrap (e+(i:Int))) d).1.To=p:=by
    have h1:=hc.1;unfold fE at h1 ⊢;cases hq:gI p==0||(!bL (IntKind.i64.wrap (e+(i:Int)))||decide ((d.length:Int)>200)) with
    |true=>rw[hq] at h1;cases h1
    |false=>rfl
   rw[this]
theorem aW4:∀{l:List AO} {d:Int} {s:Int},(l.map λb=>b.To).Nodup->0<=s->s<1000->l.foldl (λn b=>bif b.To==d then IntKind.i64.wrap (n+1) else n) s=s+(if d∈l.map (λb=>b.To) then 1 else 0)
 |[],d,s,_,_,_=>by simp
 |b::l,d,s,h,h0,h1=>by
  rw[bw,cu] at h;rw[dp];cases hc:b.To==d with
  |true=>
   have hd:b.To=d:=by simpa using hc
   have hn:d∉l.map (λb=>b.To):=hd▸h.1;have c:IntKind.i64.wrap (s+1)=s+1:=aM (by omega) (by omega);have key:∀(l:List AO) (s:Int),d∉l.map (λb=>b.To)->l.foldl (λn b=>bif b.To==d then IntKind.i64.wrap (n+1) else n) s=s:=by
    intro l;induction l with
    |nil=>exact λ_ _=>rfl
    |cons x l f=>
     intro s a;simp only[bw,bc,not_or] at a;have:(x.To==d)=false:=by simpa using λe=>a.1 e.symm
     rw[dp,this,ae];exact f s a.2
   rw[ac,key l _ hn,c,bw,cW (by simp[hd])]
  |false=>
   have hd:¬b.To=d:=by simpa using hc
   rw[ae,aW4 h.2 h0 h1,bw];have:(d∈b.To::l.map λb=>b.To)↔d∈l.map λb=>b.To:=by rw[bc];exact⟨λh=>h.resolve_left λe=>hd e.symm, .inr⟩
   simp only[this]
theorem aTz {log:List AD}{k e:Int}(h:(bC log k e).2=true):fQ (bC log k e).1 log=true:=by
 unfold bC at h ⊢;cases hc: !aU log||(!bL k|| !(fK e (iN [aB log,k]) 0 (aC log)).2) with
 |true=>simp_all
 |false=>
  simp only[bl,cN] at hc
  grind[aW4,bEw,fQ,mV,List.all_eq_true,List.length_map,List.length,bB7]
theorem bJk {log:List AD}{k e:Int}(h:(bC log k e).2=false):(bC log k e).1=⟨0,[]⟩:=by
 grind[aU,bL,fK,iN,aB,aC,bC]
def aW5 {d:AB}{log:List AD}{bx:AK}{s:AI}(h:(iH d log bx s==0)=false):(bQ d log bx s).1=d:=by
 grind[bQ]
def bNg (d:AB)(bx:AK)(s:AI):(bQ d [] bx s).1=d:=aW5 rfl
theorem bVk (s:AJ):(dL s ⟨0,[]⟩).2=false:=rfl
def bEx {log:List AD}{key e:Int}{s:AI}(hs:s=⟨0,0,[],0⟩\/s.Epoch=aB log)(d:AB):
  (bQ d (bM (dF log (bC log key e).1).1 s).1.Log (bM (dF log (bC log key e).1).1 s).1.Boxes (eF (bM (dF log (bC log key e).1).1 s).1 0).1).1=(bQ d log (bC log key e).1 s).1:=by
 cases hc:aU log&&fQ (bC log key e).1 log with
 |true=>
  have b:(dF log (bC log key e).1).1=⟨log,(bC log key e).1,[]⟩:=by grind[dF]
  rw[b];cases hq:s.Epoch !=aB log with
  |true=>
   have c:s=⟨0,0,[],0⟩:=by simp_all
   have a:(bM ⟨log,(bC log key e).1,[]⟩ s).1=⟨log,(bC log key e).1,[]⟩:=by
    grind[bC,bM]
   rw[a,c];rfl
  |false=>
   have a:(bM ⟨log,(bC log key e).1,[]⟩ s).1=⟨log,(bC log key e).1,[s]⟩:=by
    grind[bC,bM]
   rw[a];rfl
 |false=>
  have b:(dF log (bC log key e).1).1=⟨[],⟨0,[]⟩,[]⟩:=by grind[dF]
  have a:(bM (dF log (bC log key e).1).1 s).1.Log=[]:=by rw[(qQ _ _).2,b]
  rw[a,bNg];refine(aW5 ?_).symm;cases hl:aU log with
  |false=>grind[iH,Bool.not_false]
  |true=>
   grind[bS,iW,aC,aS,iH,bVk,Bool.not_true,Bool.not_false,bJk,bC,aTz]
theorem aNi (nm:ByteArray):∀(i:Nat) (d:AB),(Me nm i d).sz<=d.sz+i
 |0,d=>ak _
 |i+1,d=>by have h1:=aNi nm i d;grind[bO,Me,Ih]
theorem qU (seed:Int):∀n:Nat,(aX seed n).length<=n
 |0=>ak _
 |n+1=>by have h1:=qU seed n;grind[bP,aX,aS,aO,mW]
theorem aNj (seed:Int)(n:Nat)(d:AB):(yU seed n d).sz<=d.sz+n:=by have h1:=aCf d (aX seed n) (bF seed 0);have h2:=qU seed n;show(jN d (aX seed n) (bF seed 0)).1.sz<=_;omega
theorem aGx (s:AJ):(bH s).sz=0:=rfl
def aPl (seed:Int)(n:Nat):(lX seed n).sz<=3*n:=by
 grind[lX,aGx,aNj,bH,aO,aNi,aA,yU,Me]
theorem aPm (seed:Int)(n:Nat):(gM seed n).sz<=13*n:=by
 grind[gM,qU,vH,aX,bF]
theorem Sl (log:List AD)(bx:AK):(dF log bx).1.sz<=log.length+bx.sz:=by
 grind[aU,fQ,bx,AM.sz,AK.sz,List.length_nil,dF]
def aPn (seed:Int)(n:Nat):(iQ seed n).sz<=14*n+501:=by
 grind[iQ,nwW,zH,lX,qU,aPm,Sl,aX,gM,qQ,dF]
theorem bJl (seed:Int)(n:Nat)(d:AB):(Af seed n d).sz<=d.sz+2*n+20:=by
 grind[Af,qU,aNj,aPf,yU,aX,gM,nwW]
def bEy {α:Type}{f:α->Nat}{b:Nat}:∀{l:List α},(∀x∈l,f x<=b)->(l.map f).sum<=l.length*b
 |[],_=>cD _
 |x::l,h=>by
  have h1:=h x (by simp);have h2:=bEy (l:=l) (f:=f) (b:=b) λy a=>h y (by simp[a]);simp only[bw,eE,aw,dw];omega
theorem N8 (nm:ByteArray):∀(i:Nat) (l:List AB) (s:AF),(vW nm i l s).sz<=s.sz+l.length
 |_,[],s=>ak _
 |i,d::l,s=>by
  have h1:=N8 nm (i+1) l (eQ s 1 (i:Int) (eG d.Store nm (i:Int))).1
  grind[List.length_cons,vW,eQ,eG,aWx]
def aPo (s:AF)(id m:Int):(nM s id m).1.sz<=s.sz+1:=by
 unfold nM;cases dD s&&dD (sO s id m) with
 |false=>simp
 |true=>
  grind[sO,AF.sz,List.length_append,List.length_cons,List.length_nil,AH.sz,Ij,id,List.take_append_drop]
def aKl (nm:ByteArray)(s:Int):(gT nm s).sz<=nm.size:=by
 unfold gT;cases lD nm s with
 |true=>simp[AF.sz]
 |false=>exact cD _
def aKm (seed:Int)(l:List AB)(j:Int):(Sk seed l j).sz<=l.length+101:=by
 have h1:=N8 (aA j) 0 l (nM (gT (aA j) (aV seed [281,j])) 1 3).1;have h2:=aPo (gT (aA j) (aV seed [281,j])) 1 3;have a:=aKl (aA j) (aV seed [281,j]);have b:(aA j).size<=100:=by unfold aA;cases j==0<;>cases j==1<;>decide
 grind[Sk]
def aW6 (c:Int)(l:List Int)(n:Int):(wZ c l n).length<=7:=by
 grind[bX,decide,iA,List.length_map,List.length_range,wZ]
def aY6 (pin salt key secret:Int)(cs:List Int)(n limit:Int):(Ha pin salt key secret cs n limit).2.1.length<=7/\((Ha pin salt key secret cs n limit).2.1.map AN.sz).sum=0:=by
 unfold Ha;cases aNg pin salt key secret limit&& !((wZ secret cs n).length==0) with
 |false=>simp
 |true=>refine⟨by simp only[ac,bj];exact aW6 _ _ _,?_⟩;have:=bEy (f:=AN.sz) (b:=0) (l:=(wZ secret cs n).map λs=>Dz ⟨s,0,0,limit⟩) (λx a=>by obtain⟨s,_,rfl⟩:=ct.1 a;exact ak _);simp_all
def bB8 (n k t pin seed:Int):(bI n k t pin seed).sz<=100000:=by
 unfold bI;cases hc:yX n k t pin seed with
 |false=>exact cD _
 |true=>
  simp only[yX,aa] at hc;have hn:=iA hc.1;obtain⟨N,c⟩:∃N,N=n.toNat:=⟨_,rfl⟩;have d:N<=3:=by omega
  have h1:=zH (lX seed N);have h2:=aPl seed N;have m:=aPn seed N;have o:=aKm seed (dO seed N) 0;have p:=aKm seed (dO seed N) 1;have e:=aY6 pin 7 (aV seed [283]) (IntKind.i64.wrap (1+(aV seed [293]).tmod 1018)) (N7 seed t) k 5;have a:(dO seed N).length=N:=by simp[dO]
  have h:=bEy (f:=AB.sz) (b:=26) (l:=((dO seed N).drop 1).map (Af seed N)) (by grind[List.mem_of_mem_drop,dO,bJl,bH,aO,aGx]);have i:(nwW seed N).1.sz=(lX seed N).sz:=h1.1;have j:(Xv seed t pin k).2.1.length<=7/\((Xv seed t pin k).2.1.map AN.sz).sum=0:=e;rw[bj,cF,a] at h;simp only[ac,<-c,AA.sz,kD,Ae,aw,bj,cF,a,bw,eE,bm,ga,List.sum_nil,fj,i]
  grind[AM.sz,AK.sz,Nat.mul_le_mul_right,iQ]
def bJm (d:AB)(n:ByteArray)(h:Int)(rm:Bool):(bO d n h rm).1.Key=d.Key/\(bO d n h rm).1.Epoch=d.Epoch:=by unfold bO;cases(pO d n h rm).2<;>exact⟨rfl,rfl⟩
def aY7 (nm:ByteArray):∀(i:Nat) (d:AB),(Me nm i d).Key=d.Key/\(Me nm i d).Epoch=d.Epoch
 |0,d=>⟨rfl,rfl⟩
 |i+1,d=>by
  simp[bJm,Me,aY7]
def bEz (seed:Int)(n:Nat):(lX seed n).Key=(yU seed n (bH (aO seed 0))).Key/\(lX seed n).Epoch=(yU seed n (bH (aO seed 0))).Epoch:=by obtain⟨h1,h2⟩:=aY7 (aA 1) n (Me (aA 0) n (yU seed n (bH (aO seed 0))));obtain⟨a,b⟩:=aY7 (aA 0) n (yU seed n (bH (aO seed 0)));exact⟨h1.trans a,h2.trans b⟩
theorem bE0 {seed:Int}{n:Nat}(h:bL (yU seed n (bH (aO seed 0))).Key=true):(yU seed n (bH (aO seed 0))).Epoch=aB (aX seed n):=by
 unfold yU jN at h ⊢;cases hq: !aU (aX seed n)||(!bS (aX seed n) (bH (aO seed 0)).Log||(decide (aB (aX seed n)<(bH (aO seed 0)).Epoch)|| !bL (bF seed 0))) with
 |true=>rw[hq] at h;exact absurd (show bL 0=true from h) (by decide)
 |false=>rfl
def bJn (seed:Int)(n:Nat):(nwW seed n).2.1=⟨0,0,[],0⟩\/(nwW seed n).2.1.Epoch=aB (aX seed n):=by
 obtain⟨k1,k2⟩:=bEz seed n;unfold nwW bZ;generalize lX seed n=d at k1 k2 ⊢;cases hs:(kK d.Key d.Epoch (IntKind.i64.wrap (d.Version+1)) d.aAD).2 with
 |false=>simp
 |true=>
  refine .inr ?_;simp only[ac];unfold kK at hs ⊢;cases hc:bL d.Key&&(bX d.Epoch 0 1000000&&bX (IntKind.i64.wrap (d.Version+1)) 0 1000000)&&aP d.aAD with
  |false=>grind
  |true=>
   simp only[aa] at hc;show d.Epoch=_
   grind[bE0,k1,k2]
def bQ4 (seed:Int)(n:Nat)(d:AB):(bQ (yU seed n d) (iQ seed n).Log (iQ seed n).Boxes (eF (iQ seed n) 0).1).1=Af seed n d:=bEx (bJn seed n) (yU seed n d)
def bVl (f:Int->Int)(l:List Int)(j:Nat)(x:Int):Bool:=(l.take j).any λq=>f q==f x
def bQ5 (s:A0)(e:Int):Int:=bif aPi e&&(!(e==1)&&bX s.Value 0 1018) then Ad e s.Value else 0
def bHa (k:A3)(e:Int):A3×Int×Bool:=bif aWp k&&(!(k.Guesses==k.Limit)&&(aPi e&& !(e==1))) then({k with Guesses:=IntKind.i64.wrap (k.Guesses+1)},bQ5 k.aAS e,true) else(k,0,false)
def bZo (l:List A3):List A3:=bif decide ((l.length:Int)>30) then l.drop 1 else l
def bB9 (h:AN)(e:Int):AN×Int×Bool:=bif decide (Rq h.State<h.Monotonic)|| !(bHa h.State e).2.2 then(h,0,false) else(⟨(bHa h.State e).1,bZo (h.Saved++[h.State]),Rq (bHa h.State e).1⟩,(bHa h.State e).2.1,true)
def bVm (l i b:Int):Int:=bif jH b 1019==0 then 0 else Ad (aCh l i) b
def bVn (hs:List AN)(a:List Int)(i:Nat)(c:Int):Bool:=(decide (c<0)||decide (c>=(hs.length:Int)))||bVl (λq=>q) a i c
def bQ6 (hs:List AN)(a:List Int):Bool:= !iM (bVn hs a) 0 a
def bZp (e:Int)(s:List AN×List Int×List Int)(c:Int):List AN×List Int×List Int:=
 (s.1.set c.toNat (bB9 (s.1.getD c.toNat default) e).1,bif (bB9 (s.1.getD c.toNat default) e).2.2 then s.2.1++[(bB9 (s.1.getD c.toNat default) e).1.State.aAS.Index] else s.2.1,bif (bB9 (s.1.getD c.toNat default) e).2.2 then s.2.2++[(bB9 (s.1.getD c.toNat default) e).2.1] else s.2.2)
def bQ7 (hs:List AN)(a:List Int)(e:Int):List AN×List Int×List Int:=a.foldl (bZp e) (hs,[],[])
def bSv (n:Int):Int:=bif jH n 1019==0 then 0 else bEv 1019 11 (jH n 1019) 1017 1
def bZq (l:List Int)(k a w:Int)(j:Nat):Int:=bif (j:Int)==k then w else(IntKind.i64.wrap ((IntKind.i64.wrap (w*jH (IntKind.i64.wrap (jH a 1019-jH (l.getD j 0) 1019)) 1019)).tmod 1019*bSv (IntKind.i64.wrap (jH (l.getD k.toNat 0) 1019-jH (l.getD j 0) 1019)))).tmod 1019
def bZr (l:List Int)(k a:Int):Int:=bif (decide (k<0)||decide (k>=(l.length:Int)))||iM (bVl (λq=>jH q 1019) l) 0 l then 0 else(List.range l.length).foldl (bZq l k a) 1
def bVo (a b:Int):Int:=bif aPi a&&aPi b then(IntKind.i64.wrap (a*b)).tmod 2039 else 0
def bQ8 (ix vs:List Int)(i:Nat)(x:Int):Bool:= !bX x 1 7||(!aPi (vs.getD i 0)||bVl (λq=>q) ix i x)
def bXk (ix vs:List Int):Int:=(List.range vs.length).foldl (λo i=>bVo o (Ad (vs.getD i 0) (bZr ix (i:Int) 0))) 1
def bSw (ix vs:List Int):Int×Bool:=bif (!(ix.length==vs.length)||ix.length==0)||iM (bQ8 ix vs) 0 ix then(0,false) else(bXk ix vs,true)
def bXl (c b:Int):Int:=bif jH b 1019==0 then 0 else Ad c (bSv b)
def bVp (v:AY)(o:Int):Int×Bool:=bif aCi o v.Salt==v.Check then(aW3 v.Masked o,true) else(0,false)
def N9 (v:AY)(hs:List AN)(a:List Int)(pin b:Int):List AN×List Int×List Int:=bQ7 hs a (bVm v.Salt pin b)
def bZs (hs:List AN)(a:List Int)(pin b:Int):Bool:=bQ6 hs a&&(!(jH b 1019==0)&&bX pin 0 9999)
def bSx (v:AY)(hs:List AN)(a:List Int)(pin b:Int):List AN×Int×Bool:=
 bif !bZs hs a pin b then(hs,0,false) else
 bif decide ((a.length:Int)<v.Threshold)||(decide ((N9 v hs a pin b).2.2.length<a.length)|| !(bSw (N9 v hs a pin b).2.1 (N9 v hs a pin b).2.2).2) then((N9 v hs a pin b).1,0,false) else
  ((N9 v hs a pin b).1,bVp v (Dy (bXl (bSw (N9 v hs a pin b).2.1 (N9 v hs a pin b).2.2).1 b) v.Salt))
def bSy (w:AA):Int:=IntKind.i64.wrap (1+(aV w.Seed [313,w.Now]).tmod 1018)
def aW7 (w:AA)(a:List Int)(pin:Int):AA×Int×Bool:=bif !aR w then(w,0,false) else
 (nZ {w with Hosts:=(bSx w.aAP w.Hosts a pin (bSy w)).1} 5,(bSx w.aAP w.Hosts a pin (bSy w)).2)
def bNh (w:AA):List Int:=(List.range (min w.aAP.Threshold ((w.Hosts.length:Int)+1)).toNat).map λ(i:Nat)=>(i:Int)
def bQ9 (w:AA)(pin:Int):AA×Bool:=((aW7 w (bNh w) pin).1,(aW7 w (bNh w) pin).2.2)
structure AskIn (B:Nat) (hs:List AN) (i:Nat) (s:List AN×List Int×List Int):Prop where
 len:s.1.length=hs.length
 sz:∀h∈s.1,h.sz<=B+i
 eq:s.2.1.length=s.2.2.length
 le:s.2.2.length<=i
--needs aAM aAL aAN
def gP (w:AA)(d:Int):AA×Bool:=bif dM w d 0&& !dE w d then({w with Stolen:=w.Stolen.set d.toNat true},true) else(w,false)
def bRa (b:AR)(now:Int):AR:=bif fJ b then {b with Open:=b.Open.filter λc=>decide (c.Until>=now)} else b
def bNi (w:AA):AA:={w with Now:=IntKind.i64.wrap (w.Now+1)}
def bXm (w:AA):AA×Bool:=bif aR (bNi w) then({bNi w with Sites:=w.Sites.map λs=>{s with Book:=bRa s.Book (bNi w).Now}},true) else(w,false)
def bNj (w:AA)(d j:Int):AA×Int:=bif dM w d j&&dE w d then yT w d j (Nl j) else(w,1)
def bNk (w:AA)(d j:Int):AA×Int:=bif dM w d j&& !dE w d then yT w d j (bEu j) else(w,1)
def bZt:ByteArray:=⟨#[97,46,110,101,116]⟩
def bVq (w:AA)(k d o v:Int)(f:Bool):AA×Bool:=
 bif !aR w then(w,false) else
 bif k==1 then bXm w else
 bif k==2 then((pQ w d o).1,(pQ w d o).2==0) else
 bif k==3 then((bNk w d o).1,(bNk w d o).2==0) else
 bif k==4 then gP w d else
 bif k==5 then((bNj w d o).1,(bNj w d o).2==0) else
 bif k==6 then cK w d else
 bif k==7 then bE w d o else
 bif k==8 then lS w d bZt v f else
 bif k==9 then dI w d else
 bif k==10 then((aF w d v).1,(aF w d v).2==0) else
 bif k==11 then bQ9 w v else
 bif k==12 then bBs w else
 bif k==13 then bEk w o v else(w,false)
def aY8 (l:List Int):Prop:=okL (λn:Int=>0<=n/\n<=255) l
noncomputable instance (l:List Int):Decidable (aY8 l):=Classical.propDecidable _
def bJo (l:List Int):Bool:=decide ((l.length:Int)>1048576)
def aY9 (b:AK):Prop:=∀x∈b.Boxes,aT x.Data
def Ah (c:AM):Prop:=aY9 c.Boxes/\∀s∈c.History,aT s.Data
instance (b:AK):Decidable (aY9 b):=inferInstanceAs (Decidable (∀x∈b.Boxes,aT x.Data))
instance (c:AM):Decidable (Ah c):=inferInstanceAs (Decidable (_/\_))
--needs aAQ
def bD (c:AQ):Prop:=0<=c.i/\c.b.length<=1048576
instance (c:AQ):Decidable (bD c):=by unfold bD;infer_instance
def bRb (h:Int):Int:=IntKind.i64.wrap (IntKind.i64.wrap (h*6364136223846793005)+1442695040888963407)
def bSz (h:Int):Int:=pI IntKind.i64 (bAb IntKind.i64 (Gs IntKind.i64 h 33) (Gs IntKind.i64 h 47)) 255
def lT (c:AQ):AQ×Int:=bif decide (c.i<(c.b.length:Int)) then(⟨c.b,IntKind.i64.wrap (c.i+1),bRb c.h⟩,pI IntKind.i64 (IntKind.i64.wrap (bSz (bRb c.h)+IntKind.i64.wrap (c.b.getD c.i.toNat 0))) 255) else(⟨c.b,c.i,bRb c.h⟩,bSz (bRb c.h))
def bW (c:AQ)(n:Int):AQ×Int:=bif decide (n<=0) then(c,0) else bif decide (n<=256) then((lT c).1,(lT c).2.tmod n) else
 ((lT (lT (lT c).1).1).1,(IntKind.i64.wrap (IntKind.i64.wrap (IntKind.i64.wrap ((lT c).2*65536)+IntKind.i64.wrap ((lT (lT c).1).2*256))+(lT (lT (lT c).1).1).2)).tmod n)
def sP (c:AQ)(n:Int):AQ×Bool:=((bW c n).1,(bW c n).2==0)
def O0 (c:AQ)(l:List Int):AQ×Int:=((bW c (l.length:Int)).1,l.getD (bW c (l.length:Int)).2.toNat 0)
def aKn (c:AQ):AQ×Int:=bif (sP c 10).2 then O0 (sP c 10).1 [0,-1,1,2147483646,2147483647] else((bW (sP c 10).1 99999).1,IntKind.i64.wrap (1+(bW (sP c 10).1 99999).2))
--needs aAQ Event
def eA (c:AQ):AQ×Int:=bW c 13
def eB (c:AQ):AQ×Int:=bW (eA c).1 4
def aTu (e:A4):Prop:=(1<=e.Kind/\e.Kind<=13)/\(0<=e.Device/\e.Device<=3)/\(0<=e.Other/\e.Other<=2)/\(0<=e.Value/\e.Value<=39)/\(e.Kind≠11->e.Value<=3)
--needs Event World
def evF (w:AA)(e:A4):AA×Bool:=bVq w e.Kind e.Device e.Other e.Value e.Flag
--needs aAQ
--needs aAQ aAJ aAO
--needs Event World
def cntF (w:AA)(j:Int):Int:=bif lF w j then((w.Sites.getD j.toNat default).Logins.length:Int) else 0
--needs Event World
--needs aAQ aAJ aAO aAG
--needs aAQ aAJ aAO
end Go.VK
