import Derived.Test.YtchppgifkkcfpaaGreatDoorEVztor
import Derived.Test.YtchppgifkkcfpaaGreatDoorXcS
/- Printed by wip/tools: models, walks, proofs. -/
set_option linter.all false
set_option maxRecDepth 100000
set_option maxHeartbeats 4000000
namespace Go.VK
open Go.RowKit Go.Proofs D
def qZ (k:AZ):Int:=IntKind.i64.wrap (IntKind.i64.wrap (k.Epoch*1000)+k.Guesses)
theorem bMu {h v:Int}(h0:0<=h)(h1:h<2147483647):0<=hstep h v/\hstep h v<2147483647:=by
 grind[Int.tmod_nonneg,Int.tmod_lt_of_pos,aI,bQ,hstep,lS]
def bMv (l:List Int):0<=Yd l/\Yd l<2147483647:=by
 unfold Yd
 suffices ∀(l:List Int) (h:Int),0<=h->h<2147483647->0<=l.foldl hstep h/\l.foldl hstep h<2147483647 from(by grind)
 intro l;induction l<;>grind[bMu]
theorem lU (k:Int)(l:List Int):0<=bN k l/\bN k l<2147483647:=bMv _
def bKd (a b:Int):Int:=bif decide (b>a) then b else a
def pX (a:List Int)(r:List (List Int)):List Int:=a++r.flatten
def jF (n:Int):Int:=bif n==0 then 1 else n
def dH (n:Int):Bool:=bE n 1 2147483646
def A9 (b:List Int):List Int:=[(b.length:Int)]++b.map IntKind.i64.wrap
def bJ (seed:Int)(l:List Int):Int:=jF (bN seed ([151]++l))
def pY (k:Int)(s:ByteArray):Int:=jF (bN k (A9 (bK s)))
def gX (p:Int):Int:=bif !(dH p) then 0 else(IntKind.i64.wrap (p*48271)).tmod 2147483647
def qE (s:AN):Int:=bJ s.Seed [181]
def bI (s:AN):Int:=gX (qE s)
def kL (l:List Int)(x:Int):Bool:=l.any λe=>e==x
def qA (log:List AG)(p:Int):Bool:=log.any λe=>e.Kind==2&&e.Device==p
def sK (s:List Int)(e:AG):List Int:=
 bif e.Kind==1 then(bif s.contains e.Device then s else s++[e.Device]) else bif e.Kind==2 then s.filter (λd=>d !=e.Device) else s
def aK (log:List AG):List Int:=log.foldl sK []
def bA (log:List AG):Int:=log.foldl (λn e=>bif e.Kind==2 then IntKind.i64.wrap (n+1) else n) 0
def aL (b:AD)(site a:Int):Int:=jP (λe=>e.Site==site&&e.Handle==a) 0 b.Entries
def aF (s:AB)(id:Int):Int:=jP (λa=>a.Id==id) 0 s.Accounts
theorem aUi (s:List Int)(x:AG):(sK s x).length<=s.length+1:=by
 grind[List.length_filter_le,sK]
def fG (log:List AG):(aK log).length<=log.length:=by
 suffices ∀(l:List AG) (s:List Int),(l.foldl sK s).length<=s.length+l.length from by grind[aK]
 intro l;induction l<;>grind[List.length_cons,sK,List.length_filter_le]
def bMw {n:Int}(h:0<=n):bKd 1 n=jF n:=by
 grind[bKd,jF]
def cO (s:ByteArray):Int:=pY 173 s
def WOk (w:AA):Prop:=Qa w.Devices.length/\Qa w.Stolen.length/\Qa w.aAH.Log.length/\Qa w.Sites.length
instance (w:AA):Decidable (WOk w):=inferInstanceAs (Decidable (_/\_))
def aJ (w:AA)(d:Int):Bool:=decide (0<=d)&&decide (d<w.Devices.length)
def bIc {w:AA}(h:WOk w)(d:Int):bE d 0 (IntKind.i64.wrap ((w.Devices.length:Int)-1))=aJ w d:=by
 have:=h.1
 grind[bE,aJ,aI]
def aQ (w:AA)(d:Int):AF:=w.Devices.getD d.toNat default
theorem kP {w:AA}{d:Int}(h:aJ w d=true):aN w.Devices d=some (aQ w d):=by
 grind[aQ,List.getD,List.getElem?_eq_getElem,jO,aJ]
def jS (w:AA)(d:Int):Bool:=aJ w d&&kL (aK w.aAH.Log) (bI (aQ w d).Store)
def WOk.of {w:AA}(h:w.sz<=1048576):WOk w:=by
 grind[WOk,AA.sz,AP.sz]
def bMx (k:Int)(i:Nat)(z:Int):Int:=IntKind.u8.wrap ((z-bN k [(i:Int)])%256)
def aZp (k:Int)(b:List Int):List Int:=aDd (λi z=>[bMx k i z]) 0 b
theorem bMy (x:Int):bQ (IntKind.i64.wrap x) 256=x%256:=by
 grind[bQ,IntKind.wrap_i64]
theorem bWp (k:Int)(i:Nat)(z:Int):IntKind.u8.wrap (bQ (IntKind.i64.wrap (IntKind.i64.wrap z-bN k [(i:Int)])) 256)=bMx k i z:=by
 grind[bMy,bMx,IntKind.wrap_i64]
theorem bWq (k:Int)(i:Nat)(z:Int):IntKind.u8.wrap (bQ (IntKind.i64.wrap (IntKind.i64.wrap z-(bN k [(i:Int)]).tmod 256)) 256)=bMx k i z:=by
 grind[bMy,bMx,IntKind.wrap_i64,Int.tmod_eq_emod_of_nonneg,lU]
def L9 {α β:Type}{y:Nat->α->β}:∀{i:Nat} {l:List α},(aDd (λi x=>[y i x]) i l).length=l.length
 |i,[]=>rfl
 |i,x::xs=>by simp[aDd,L9]
def kQ (p e:Int):Int:=bJ p [163,e]
def aVd (k:Int)(b:AK):Int:=bN k ([167,b.To,b.Ephemeral]++A9 b.Data)
def kV (p:Int)(b:AK):List Int×Bool:=
 bif !dH p||(b.To !=gX p||(!dH b.Ephemeral||decide ((b.Data.length:Int)>200))) then([],false)
 else bif b.MAC !=aVd (kQ p b.Ephemeral) b then([],false) else(aZp (kQ p b.Ephemeral) b.Data,true)
def jT:List AK->Int->List Int×Bool
 |[],_=>([],false)
 |b::bs,p=>bif (kV p b).2 then((kV p b).1,true) else jT bs p
def aT (b:List Int):Prop:=Qa b.length/\b.all (λz=>decide (0<=z)&&decide (z<=255))=true
instance (b:List Int):Decidable (aT b):=inferInstanceAs (Decidable (_/\_))
theorem xY {b:List Int}(h:aT b){i:Nat}(hi:i<b.length):0<=b[i]/\b[i]<=255:=by have:=cI.1 h.2 b[i] (cx hi);simp_all
def uvG (b:List Int)(p:Nat):Nat->Nat->Int->Int×Int×Bool
 |0,_,_=>(0,0,false)
 |k+1,i,n=>
  if p+i<b.length then
   bif decide (b.getD (p+i) 0<128) then
    (bif (decide (0<i)&&b.getD (p+i) 0==0)||decide (n+b.getD (p+i) 0%128*128^i>1000000000000) then(0,0,false) else(n+b.getD (p+i) 0%128*128^i,((p+i+1:Nat):Int),true))
   else uvG b p k (i+1) (n+b.getD (p+i) 0%128*128^i)
  else(0,0,false)
def Qt (b:List Int)(at_:Int):Int×Int×Bool:=if at_<0 then(0,0,false) else uvG b at_.toNat 6 0 0
def bKe {i:Nat}(h:i<=6):(1:Int)<=128^i/\(128:Int)^i<=4398046511104:=by
 match i,h with
 |0,_|1,_|2,_|3,_|4,_|5,_|6,_=>decide
def bKf {z n:Int}{i:Nat}(hi:i<=5)(b:0<=z)(hn:0<=n)(a:n<128^i):0<=n+z%128*128^i/\n+z%128*128^i<128^(i+1)/\0<=z%128*128^i/\z%128*128^i<=127*128^i:=by have hp:=bKe (i:=i) (by omega);have h1:0<=z%128*128^i:=iq (by omega) (by omega);have h2:z%128*128^i<=127*128^i:=Int.mul_le_mul_of_nonneg_right (by omega) (by omega);omega
def bY7 {z n:Int}{i:Nat}(hi:i<=5)(h:0<=z)(j:z<=255)(hn:0<=n)(c:n<128^i):
  orI .i64 n (aKx .i64 (Fe .i64 z 127) (IntKind.i64.wrap (7*(i:Int))))=n+z%128*128^i:=by
 obtain⟨m,rfl⟩:=dw h;obtain⟨q,rfl⟩:=dw hn;have hp:=bKe (i:=i) (by omega);have hs:=bKf (z:=(m:Int)) (n:=(q:Int)) hi (by omega) (by omega) c;have t:Fe .i64 (m:Int) 127=((m%128:Nat):Int):=by
  have e:((BitVec.ofInt 64 (m:Int))&&&(BitVec.ofInt 64 127)).toNat=m%128:=by
   rw[BitVec.toNat_and];have k:(BitVec.ofInt 64 (m:Int)).toNat=m:=by
    grind
   have l:(BitVec.ofInt 64 127).toNat=2^7-1:=by decide
   rw[k,l,fh]
  show IntKind.i64.wrap (((BitVec.ofInt 64 (m:Int))&&&(BitVec.ofInt 64 127)).toNat:Int)=_
  grind[aI]
 have u:IntKind.i64.wrap (7*(i:Int))=((7*i:Nat):Int):=by grind[aI]
 have d:(2:Nat)^(7*i)=128^i:=by rw[Nat.pow_mul]
 have o:((128^i:Nat):Int)=(128:Int)^i:=by simp
 have hb:aKx .i64 (Fe .i64 (m:Int) 127) (IntKind.i64.wrap (7*(i:Int)))=((m%128*128^i:Nat):Int):=by
  grind[aI,Int.toNat_natCast,min,Nat.min_eq_left,IntKind.bits,aKx]
 rw[hb];have a:q<128^i:=by omega
 have f:(m%128*128^i)|||q=m%128*128^i+q:=by
  have:=ib (b:=q) (i:=7*i) (by rw[d];exact a) (m%128)
  grind[Nat.shiftLeft_eq]
 have p:m%128*128^i+q<2^63:=by
  grind
 have v:((BitVec.ofInt 64 (q:Int))|||(BitVec.ofInt 64 ((m%128*128^i:Nat):Int))).toNat=m%128*128^i+q:=by
  rw[BitVec.toNat_or];have r:(BitVec.ofInt 64 (q:Int)).toNat=q:=by grind
  have s:(BitVec.ofInt 64 ((m%128*128^i:Nat):Int)).toNat=m%128*128^i:=by rw[BitVec.toNat_ofInt];omega
  rw[r,s,Nat.or_comm,f]
 show IntKind.i64.wrap (((BitVec.ofInt 64 (q:Int))|||(BitVec.ofInt 64 ((m%128*128^i:Nat):Int))).toNat:Int)=_
 grind[aI]
def lJ (b:List Int):Nat->Int->List Int->List Int×Int×Bool
 |0,a,s=>(s,a,true)
 |k+1,a,s=>bif (Qt b a).2.2 then lJ b k (Qt b a).2.1 (s++[(Qt b a).1]) else([],0,false)
def jU (b:List Int)(a c:Int):List Int×Int×Bool:=bif !bE c 0 100|| !bE a 0 b.length then([],0,false) else lJ b c.toNat a []
theorem bMz (b:List Int):∀(k:Nat) (a:Int) (s:List Int),(lJ b k a s).2.2=true->(lJ b k a s).1.length=s.length+k
 |0,a,s,_=>rfl
 |k+1,a,s,h=>by
  unfold lJ at h ⊢;cases c:(Qt b a).2.2 with
  |false=>rw[c] at h;simp at h
  |true=>rw[c] at h;simp only[ae] at h ⊢;rw[bMz b k _ _ h];simp;omega
theorem decode_len {b:List Int}{a c:Int}(hc:0<=c)(h:(jU b a c).2.2=true):(jU b a c).1.length=c.toNat:=by
 grind[bE,bMz,jU]
theorem bKg {k:Int}{b:List Int}(h:Qa b.length):aT (aZp k b):=by
 refine⟨by unfold aZp;rw[L9];exact h,?_⟩;rw[cI];intro z a;have:∀(b:List Int) (i:Nat),z∈aDd (λi z=>[bMx k i z]) i b->0<=z/\z<=255:=by
  intro b;induction b with
  |nil=>simp[aDd]
  |cons x xs c=>
   intro i h;simp only[aDd,ce,dh] at h;rcases h with rfl|h
   ·have:=dF .u8 ((x-bN k [(i:Int)])%256);assumption
   grind
 have:=this b 0 a;simp[*]
def bPi (p:Int)(b:AK):aT (kV p b).1:=by
 grind[decide,dH,gX,aVd,kQ,bKg,aT,kV]
theorem aH3 (p:Int):∀bs,aT (jT bs p).1
 |[]=>show aT [] by decide
 |b::bs=>by
  unfold jT;cases(kV p b).2 with
  |true=>exact bPi p b
  |false=>exact aH3 p bs
def aH4 (e:AO)(x:List Int×Bool)(y:List Int×Int×Bool):Int×Bool:=
 bif !x.2||(!y.2.2||(y.2.1 !=(x.1.length:Int)||(y.1.getD 0 0 !=e.Epoch|| !dH (y.1.getD 1 0)))) then(0,false) else(y.1.getD 1 0,true)
def eO (s:AN)(e:AO):Int×Bool:=aH4 e (jT e.Boxes (qE s)) (jU (jT e.Boxes (qE s)).1 0 2)
theorem and_one {n:Int}(h0:0<=n)(h1:n<9223372036854775808):Fe .i64 n 1=n%2:=by
 obtain⟨m,rfl⟩:=dw h0;have e:((BitVec.ofInt 64 (m:Int))&&&(BitVec.ofInt 64 1)).toNat=m%2:=by
  rw[BitVec.toNat_and];have a:(BitVec.ofInt 64 (m:Int)).toNat=m:=by grind
  have b:(BitVec.ofInt 64 1).toNat=2^1-1:=by decide
  rw[a,b,fh]
 show IntKind.i64.wrap (((BitVec.ofInt 64 (m:Int))&&&(BitVec.ofInt 64 1)).toNat:Int)=_
 grind[aI]
theorem bRj {n:Int}(h0:0<=n):aHr .i64 n 1=n/2:=by unfold aHr;rw[show min (Int.toNat 1) IntKind.i64.bits=1 from by decide,fq _ (by decide)];rfl
def bT1:Nat->Int->Int->Int->Int
 |0,_,_,s=>s
 |k+1,b,n,s=>if n>0 then bT1 k ((IntKind.i64.wrap (b*b)).tmod 2147483647) (n/2) (bif n%2==1 then(IntKind.i64.wrap (s*b)).tmod 2147483647 else s) else s
def bRk:bT1 31 48271 2147483645 1=1899818559:=by decide+kernel
def iF (q:Int):Int:=bif !dH q then 0 else q*1899818559%2147483647
def Rh (p:Int)(l:List Int):Int:=bif !dH p then 0 else bN p ([139,(l.length:Int)]++l)
def kR (q:Int)(l:List Int)(g:Int):Bool:=iF q !=0&&Rh (iF q) l==g
theorem M0 {α:Type}[Inhabited α]{l:List α}{i:Nat}(h0:0<i)(hi:i<l.length)(hl:Qa l.length):aN l (IntKind.i64.wrap ((i:Int)-1))=some (l.getD (i-1) default):=by
 grind[List.getD,List.getElem?_eq_getElem,aI,aD]
def wQ (l:List AR)(i:Nat)(n:AR):Bool:= !bE n.Kind 1 5||(!bE n.aAF 0 1000000||(!bE n.Time 0 1000000||(decide (0<i)&&decide ((l.getD (i-1) default).Time>n.Time))))
def eH (m:AU):Bool:=decide (m.Notices.length<=30)&& !dR (wQ m.Notices) 0 m.Notices
def gQ (b:AM)(i:Nat)(n:AY):Bool:= !bE n.Id 0 (IntKind.i64.wrap (b.Next-1))||((decide (0<i)&&decide ((b.Open.getD (i-1) default).Id>=n.Id))||(!bE n.aAF 0 1000005|| !bE n.Until 0 1000005))
def dB (b:AM):Bool:=bE b.Next 0 1000000&&decide (b.Open.length<=16)&& !dR (gQ b) 0 b.Open
def xN (a:AH)(i:Nat)(n:AV):Bool:=(!bE n.Handle 0 1000000||((decide (0<i)&&decide ((a.Credentials.getD (i-1) default).Handle>=n.Handle))||(iF n.Public==0|| !bE n.Counter 0 1000000)))||(a.Credentials.take i).any λq=>q.Public==n.Public
def aS (a:AH):Bool:=bE a.Id 0 1000000&&bE a.Minimum 1 3&&decide (a.Credentials.length<=8)&& !dR (xN a) 0 a.Credentials
def dG (e:AG):Int:=Yd [229,e.Index,e.Kind,e.Device,e.By,e.Previous]
def jV (l:List AG):Int:=bif (l.length:Int)==0 then 0 else dG (l.getD (l.length-1) default)
def xO (l:List AG)(e:AG):Bool:=
 e.Index==(l.length:Int)&&(e.Previous==jV l&&((kL (aK l) e.By||((l.length:Int)==0&&e.By==e.Device))&&(kR e.By [dG e] e.Signature&&
  (bif e.Kind==2 then kL (aK l) e.Device&&decide (((aK l).length:Int)>1) else !qA l e.Device&&(e.Kind==1&&(!kL (aK l) e.Device&&decide (((aK l).length:Int)<6)))))))
def bO (l:List AG):Bool:=bE (l.length:Int) 1 40&& !dR (λi e=> !xO (l.take i) e) 0 l
theorem bWr {l:List Int}{x:Int}(h:kL l x=true):0<l.length:=by
 grind[kL]
def iQ:List UInt8->List UInt8->List (List UInt8)
 |cur,[]=>[cur]
 |cur,b::r=>bif b==46 then cur::iQ [] r else iQ (cur++[b]) r
def bWs (s:List UInt8)(i:Nat):Lib.occAt s [46] i=decide (s[i]? =some 46):=by
 unfold Lib.occAt;cases h:s.drop i with
 |nil=>simp_all
 |cons b r=>
  have e:s[i]? =some b:=by have:=eW (xs:=s) (i:=i) (j:=0);simp_all
  grind
def aZq:∀(a cur r:List UInt8),(∀b∈a,b≠46)->iQ cur (a++46::r)=(cur++a)::iQ [] r
 |[],cur,r,_=>by simp[iQ]
 |b::a,cur,r,h=>by
  have hb:(b==46)=false:=by simpa using h b (by simp)
  rw[cH,iQ,hb,ac,aZq a _ r (λx c=>h x (eh _ c))];simp
def aUj:∀(a cur:List UInt8),(∀b∈a,b≠46)->iQ cur a=[cur++a]
 |[],cur,_=>by simp[iQ]
 |b::a,cur,h=>by
  have hb:(b==46)=false:=by simpa using h b (by simp)
  rw[iQ,hb,ac,aUj a _ (λx c=>h x (eh _ c))];simp
def bM0:∀(n:Nat) (s:List UInt8),s.length<n->Lib.splitK [46] 0 (Lib.count s [46]) s=iQ [] s
 |0,s,h=>absurd h (Nat.not_lt_zero _)
 |n+1,s,h=>by
  rcases Lib.index_spec s [46] with⟨h1,h2⟩|⟨i,h1,h2,a,m⟩
  ·rw[Lib.count_miss h1,aUj s [] (λb hb e=>by
    obtain⟨j,d,c⟩:=gl hb;have:=h2 j (by omega);rw[bWs,aa d,c,e] at this;simp at this)];rfl
  ·rw[bWs] at a;have a:s[i]? =some 46:=by simpa using a
   have hi:i<s.length:=by
    rcases eu i s.length with f|k
    ·exact f
    ·rw[eE k] at a;cases a
   rw[Lib.count_hit (by simp) h1,Nat.add_comm,Lib.splitK,h1];have l:((i:Int)== -1)=false:=by simp
   rw[l];simp only[ci,dg,aw,bj,cl];rw[cG (by simp),bM0 n (s.drop (i+1)) (by rw[cr];omega)];have es:s=s.take i++46::s.drop (i+1):=by
    have o:s[i]=46:=by rw[aa hi] at a;exact ak a
    rw[<-o,List.getElem_cons_drop hi,cW]
   conv=>rhs;rw[es]
   rw[aZq (s.take i) [] _ (λb hb e=>by
    obtain⟨j,d,c⟩:=gl hb;rw[cb] at d;have:=m j (by omega);rw[bWs,aa (by omega)] at this;rw[fb] at c;rw[c,e] at this;simp at this)];simp
def bC (s:ByteArray):List ByteArray:=(iQ [] s.data.toList).map λl=>⟨l.toArray⟩
def aZr (s:ByteArray):kT s ⟨#[46]⟩=bC s:=by
 have h1:(kT s ⟨#[46]⟩).map (·.data.toList)=iQ [] s.data.toList:=by rw[kT,Lib.splitB_data];exact bM0 _ _ (et _)
 unfold bC;rw[<-h1,gz]
 conv=>lhs;rw[<-List.map_id (kT s ⟨#[46]⟩)]
 congr 1
def aLl (b:Int):Bool:=bE b 97 122||bE b 48 57||b==45
def xZ (s:ByteArray):Bool:=decide (1<=s.size)&&decide (s.size<=20)&& !((bK s).getD 0 0==45)&& !((bK s).getD (s.size-1) 0==45)&& !((bK s).any λb=> !aLl b)
def fB (s:ByteArray):Bool:=decide (s.size<=60)&& !((bC s).any λl=> !xZ l)
def iR (s:ByteArray):(bK s).length=s.size:=by simp[bK,bn]
theorem bM1 {s:ByteArray}{i:Nat}(h:i<s.size):aN (bK s) (i:Int)=some ((bK s)[i]'(by rw[iR];exact h)):=aD _
def ext_list (s:ByteArray)(a b:Nat):s.extract a b=⟨((s.data.toList.drop a).take (b-a)).toArray⟩:=by apply ByteArray.ext;apply ia.1;rw[Lib.extract_data]
def aH5:∀(s cur:List UInt8),(iQ cur s).length<=s.length+1
 |[],_=>by simp[iQ]
 |b::r,cur=>by
  rw[iQ];cases b==46 with
  |true=>have:=aH5 r [];simp;omega
  |false=>have:=aH5 r (cur++[b]);simp at this ⊢;omega
def M3:∀(s cur:List UInt8) (l:List UInt8),l∈iQ cur s->l.length<=cur.length+s.length
 |[],cur,l,h=>by simp[iQ] at h;subst h;simp
 |b::r,cur,l,h=>by
  rw[iQ] at h;cases hb:b==46 with
  |true=>
   rw[hb,ae] at h;rcases bl.1 h with rfl|h
   ·omega
   ·have:=M3 r [] l h;simp at this ⊢;omega
  |false=>rw[hb,ac] at h;have:=M3 r _ l h;simp at this ⊢;omega
def M4 (s:ByteArray):(bC s).length<=s.size+1:=by unfold bC;rw[bn];exact aH5 _ _
def Eh (s l:ByteArray)(h:l∈bC s):l.size<=s.size:=by unfold bC at h;obtain⟨q,hq,rfl⟩:=cz.1 h;have:=M3 _ _ q hq;have h2:(⟨q.toArray⟩:ByteArray).size=q.length:=rfl;simp_all
theorem cDl (z:ByteArray):(z.toList==(⟨#[]⟩:ByteArray).toList)=decide (z.size=0):=by
 rw[ByteArray.toList_eq,ByteArray.toList_eq,eS];simp only[cN,cg];constructor
 ·intro h;show z.data.size=0;simp_all
 simp_all
def Ei:∀(s cur:List UInt8),(iQ cur s).length=s.countP (·==46)+1
 |[],_=>rfl
 |b::r,cur=>by
  rw[iQ,List.countP_cons];cases b==46 with
  |true=>rw[ae,aw,Ei r []];simp
  |false=>rw[ac,Ei r _];simp
def aUk (s:ByteArray):0<(bC s).length:=by simp[bn,Ei,bC]
def aC6 (s:ByteArray):Bool:=(bK s).any λb=>b==46
theorem bEs (s:ByteArray):aC6 s=decide (2<=(bC s).length):=by
 unfold aC6 bC bK;rw[bn,Ei,List.any_map];have e:(λb:Int=>b==46)∘(λb:UInt8=>(b.toNat:Int))=λb:UInt8=>b==46:=by
  funext b;rw[eS];simp only[Function.comp,cN];constructor
  ·intro q;apply UInt8.toNat_inj.1;grind
  simp_all
 rw[e,eS,fi,cg];simp
def bT2 (s:ByteArray):ByteArray:=bif fB s then(bif (bC s).length==1 then s else qY ⟨#[46]⟩ ((bC s).drop ((bC s).length-2))) else⟨#[]⟩
def cAd {l:List ByteArray}(h:2<=l.length):∃a∈l,∃b∈l,qY ⟨#[46]⟩ (l.drop (l.length-2))=a++⟨#[46]⟩++b:=by
 have hl:(l.drop (l.length-2)).length=2:=by grind
 match hm:l.drop (l.length-2),hl with
 |[a,b],_=>refine⟨a,eI (i:=l.length-2) (by rw[hm];simp),b,eI (i:=l.length-2) (by rw[hm];simp),?_⟩;rw[show[a,b]=[a]++[b] from rfl,bYd _ _ _ (by simp),bYc]
theorem M5 {s:ByteArray}(h:fB s=true):s.size<=60/\0<s.size:=by
 unfold fB at h;rw[ab,cg] at h;refine⟨h.1,Nat.pos_of_ne_zero λe=> ?_⟩
 have a:s.data.toList=[]:=cj e;have b:bC s=[⟨#[]⟩]:=by unfold bC;rw[a];rfl
 rw[b] at h;exact absurd h.2 (by decide)
theorem bY8 {s:ByteArray}(h:fB s=true):decide ((bT2 s).size=0)=false:=by
 have hs:=M5 h;have hp:=aUk s;unfold bT2;rw[h,ae];refine av ?_;cases h1:(bC s).length==1 with
 |true=>grind
 |false=>
  rw[ac];have:(bC s).length≠1:=by simp_all
  obtain⟨a,_,b,_,e⟩:=cAd (l:=bC s) (by omega);rw[e,ByteArray.size_append,ByteArray.size_append];have:(⟨#[46]⟩:ByteArray).size=1:=rfl;omega
def nD (s:ByteArray)(seed:Int):Bool:=fB s&&decide (2<=(bC s).length)&&dH seed
def Xa (l:List AH)(i:Nat)(n:AH):Bool:= !aS n||(decide (0<i)&&decide ((l.getD (i-1) default).Id>=n.Id))
def dN (s:AB):Bool:=nD s.Name s.Book.Seed&&decide (s.Accounts.length<=8)&&dB s.Book&& !dR (Xa s.Accounts) 0 s.Accounts
def SOk (s:AB):Prop:=Qa s.Name.size/\Qa s.Accounts.length/\Qa s.Book.Open.length/\∀a∈s.Accounts,Qa a.Credentials.length
instance (s:AB):Decidable (SOk s):=inferInstanceAs (Decidable (_/\_))
def Fq (name:ByteArray)(seed:Int):AB:=bif nD name seed then⟨name,[],⟨seed,0,[]⟩,[]⟩ else⟨⟨#[]⟩,[],⟨0,0,[]⟩,[]⟩
def bPj (name:ByteArray)(seed:Int):decide ((Fq name seed).Name.size=0)= !nD name seed:=by
 unfold Fq;cases h:nD name seed with
 |false=>rfl
 |true=>
  grind[decide_eq_false,M5,fB,nD]
def aC (i:Int):ByteArray:=bif i==0 then⟨#[98,97,110,107,46,99,111,109]⟩ else bif i==1 then⟨#[115,104,111,112,46,111,114,103]⟩ else⟨#[]⟩
def mK (i:Nat)(s:AB):Bool:= !dN s|| !(s.Name.toList==(aC (i:Int)).toList)
def aH (w:AA):Bool:=bE w.Now 0 999900&&bE (w.Devices.length:Int) 1 6&&(w.Stolen.length:Int)==(w.Devices.length:Int)&&(w.Sites.length:Int)==2&&eH w.Mail&&bO w.aAH.Log&&dH w.Seed&& !dR mK 0 w.Sites
def cBu (w:AA):Prop:=WOk w/\Qa w.Mail.Notices.length/\Qa w.Hosts.length/\∀s∈w.Sites,SOk s
instance (w:AA):Decidable (cBu w):=inferInstanceAs (Decidable (_/\_))
theorem aH6 {α:Type}{g:α->Nat}{x:α}:∀{l:List α},x∈l->g x<=(l.map g).sum
 |y::r,h=>by
  rw[bw,dz];rcases bl.1 h with rfl|h
  ·omega
  ·have:=aH6 (g:=g) h;omega
def SOk.of {s:AB}(h:s.sz<=1048576):SOk s:=by
 simp only[AB.sz] at h;refine⟨by omega,by omega,by omega,λa b=> ?_⟩
 grind[AH.sz,aH6]
def cBu.of {w:AA}(h:w.sz<=1048576):cBu w:=by
 refine⟨WOk.of h,?_,?_,λs hs=>SOk.of ?_⟩
 all_goals grind[aH6,AB.sz,AA.sz]
abbrev Kw (a:List Int)(r:List (List Int)):Prop:=a.length+r.flatten.length<=68719476736/\r.length<=1099511627776
def iT (w:AA)(i:Int):Bool:=decide (0<=i)&&decide (i<w.Sites.length)
def dW (a b:AI):Bool:=decide (a.Site<b.Site)||(a.Site==b.Site&&decide (a.Handle<b.Handle))
def lK (a:AI)(s h:Int):Bool:=decide (a.Site<s)||(a.Site==s&&decide (a.Handle<h))
def Fs (x e:AI):Bool:=decide (x.Version>e.Version)||(x.Version==e.Version&&x.Deleted)
def Ay (e x:AI):AI:=bif Fs x e then x else e
def dJ:List AI->List AI->List AI
 |[],bs=>bs
 |a::xs,[]=>a::xs
 |a::xs,b::bs=>bif dW a b then a::dJ xs (b::bs) else bif dW b a then b::dJ (a::xs) bs else Ay a b::dJ xs bs
termination_by xs bs=>xs.length+bs.length
def aLm (l:List AI)(i:Nat)(e:AI):Bool:= !bE e.Site 0 2147483646||(!bE e.Handle 0 1000000||(!bE e.Version 1 1000000||(decide ((i:Int)>0)&& !dW (l.getD (i-1) default) e)))
def aM (b:AD):Bool:=decide ((b.Entries.length:Int)<=20)&& !dR (aLm b.Entries) 0 b.Entries
def nO (a b:AD):AD×Bool:=bif aM a&&aM b then(bif aM ⟨dJ a.Entries b.Entries⟩ then(⟨dJ a.Entries b.Entries⟩,true) else(a,false)) else(a,false)
def sM (b:AD)(x:AI):AD:=bif decide (aL b x.Site x.Handle>=0) then⟨b.Entries.set (aL b x.Site x.Handle).toNat x⟩ else⟨b.Entries.takeWhile (λe=>lK e x.Site x.Handle)++[x]++b.Entries.dropWhile (λe=>lK e x.Site x.Handle)⟩
theorem aC7 {a b:AI}:dW a b=true↔a.Site<b.Site\/(a.Site=b.Site/\a.Handle<b.Handle):=by simp[dW]
def bPk {a x:AI}:lK a x.Site x.Handle=dW a x:=rfl
theorem M6 {a b c:AI}(h:dW a b=true)(k:dW b c=true):dW a c=true:=by
 grind[aC7]
def aH7 {a b:AI}(h:dW a b=false)(k:dW b a=false):a.Site=b.Site/\a.Handle=b.Handle:=by
 grind[aC7]
def aC8 {a b c:AI}(h:a.Site=b.Site/\a.Handle=b.Handle):dW a c=dW b c:=by unfold dW;rw[h.1,h.2]
def aZs {a b c:AI}(h:a.Site=b.Site/\a.Handle=b.Handle):dW c a=dW c b:=by unfold dW;rw[h.1,h.2]
def bM2 {a b:AI}(h:a.Site=b.Site/\a.Handle=b.Handle):(Ay a b).Site=b.Site/\(Ay a b).Handle=b.Handle:=by
 grind[Fs,Ay]
def bY9 (a b:AI):Ay a b=a\/Ay a b=b:=by
 grind[Fs,Ay]
theorem eQ (l:List AI):dJ l []=l:=by cases l<;>rw[dJ]
def lV (l:List AI):dJ [] l=l:=by rw[dJ]
def Eu:∀(n:Nat) (a b:List AI),a.length+b.length<=n->(dJ a b).length<=a.length+b.length
 |_,[],b,_=>by rw[lV];simp
 |_,a::xs,[],_=>by rw[eQ];simp
 |0,a::xs,b::bs,h=>by simp at h
 |n+1,a::xs,b::bs,h=>by
  simp only[aw] at h;rw[dJ];cases dW a b with
  |true=>have:=Eu n xs (b::bs) (by simp only[aw];omega);simp only[ae,aw] at*;omega
  |false=>
   cases dW b a with
   |true=>have:=Eu n (a::xs) bs (by simp only[aw];omega);simp only[ac,ae,aw] at*;omega
   |false=>have:=Eu n xs bs (by omega);simp only[ac,aw] at*;omega
def aH8 (a b:AI)(xs bs:List AI):dJ (a::xs) (b::bs)=bif dW a b then a::dJ xs (b::bs) else bif dW b a then b::dJ (a::xs) bs else Ay a b::dJ xs bs:=by rw[dJ]
def srt (l:List AI):Prop:=l.Pairwise λa b=>dW a b=true
def bId:∀(A:List AI) {b:AI} {bs:List AI},srt (b::bs)->dJ (dJ A [b]) bs=dJ A (b::bs)
 |[],b,bs,h=>by
  rw[lV,lV];cases bs with
  |nil=>rw[eQ]
  |cons c cs=>rw[dJ,(cY.1 h).1 c (by simp),ae,lV]
 |a::xs,b,bs,h=>by
  have hc:=(cY.1 h).1;rw[aH8 a b xs [],aH8 a b xs bs];cases h1:dW a b with
  |true=>
   simp only[ae];cases bs with
   |nil=>rw[eQ]
   |cons c cs=>rw[dJ,M6 h1 (hc c (by simp)),ae,bId xs h]
  |false=>
   cases h2:dW b a with
   |true=>
    simp only[ae,ac];rw[eQ];cases bs with
    |nil=>rw[eQ,eQ]
    |cons c cs=>rw[dJ,hc c (by simp),ae]
   |false=>
    simp only[ac];rw[eQ];cases bs with
    |nil=>rw[eQ,eQ]
    |cons c cs=>rw[dJ,aC8 (bM2 (aH7 h1 h2)),hc c (by simp),ae]
def bRl:∀{l:List AI} {x y:AI},y∈dJ l [x]->y∈l\/y=x
 |[],x,y,h=>by rw[lV] at h;simp at h;exact .inr h
 |a::xs,x,y,h=>by
  rw[dJ] at h;cases h1:dW a x with
  |true=>
   rw[h1,ae] at h;rcases bl.1 h with rfl|h
   ·exact .inl (by simp)
   ·exact(bRl h).imp (λh=>by simp[h]) id
  |false=>
   rw[h1,ac] at h;cases h2:dW x a with
   |true=>
    rw[h2,ae,eQ] at h;rcases bl.1 h with rfl|h
    ·exact .inr rfl
    ·exact .inl h
   |false=>
    rw[h2,ac,eQ] at h;rcases bl.1 h with rfl|h
    ·rcases bY9 a x with e|e
     ·rw[e];exact .inl (by simp)
     ·exact .inr e
    ·exact .inl (by simp[h])
theorem bRm:∀{l:List AI} {x:AI},srt l->srt (dJ l [x])
 |[],x,h=>by rw[lV];exact List.pairwise_singleton _ _
 |a::xs,x,h=>by
  obtain⟨c,hs⟩:=cY.1 h;rw[dJ];cases h1:dW a x with
  |true=>
   rw[ae];refine cY.2 ⟨λy b=> ?_,bRm hs⟩;rcases bRl b with b|rfl
   ·exact c y b
   ·exact h1
  |false=>
   cases h2:dW x a with
   |true=>
    rw[ac,ae,eQ];refine cY.2 ⟨λy b=> ?_,h⟩;rcases bl.1 b with rfl|b
    ·exact h2
    ·exact M6 h2 (c y b)
   |false=>rw[ac,ac,eQ];have hk:=aH7 h1 h2;refine cY.2 ⟨λy b=> ?_,hs⟩;rw[aC8 (bM2 hk),<-aC8 hk];exact c y b
def aZt:∀(B A:List AI),srt B->B.foldl (λo x=>dJ o [x]) A=dJ A B
 |[],A,_=>by rw[eQ];rfl
 |b::bs,A,h=>by rw[db,aZt bs _ (cY.1 h).2,bId A h]
theorem bM3 {α:Type}{p:α->Bool}:∀{l:List α} {i:Nat},jP p i l<0->∀y∈l,p y=false
 |[],i,_,y,a=>by simp at a
 |x::l,i,h,y,a=>by
  simp only[jP] at h;cases hp:p x with
  |true=>rw[hp,ae] at h;omega
  |false=>
   rw[hp,ac] at h;rcases bl.1 a with rfl|a
   ·exact hp
   ·exact bM3 h y a
def aQj {α:Type}{p:α->Bool}:∀{l:List α} {i:Nat},0<=jP p i l->∃l1 e l2,l=l1++e::l2/\p e=true/\jP p i l=((i+l1.length:Nat):Int)
 |[],i,h=>by simp[jP] at h
 |x::l,i,h=>by
  simp only[jP] at h ⊢;cases hp:p x with
  |true=>exact⟨[],x,l,rfl,hp,by simp⟩
  |false=>rw[hp,ac] at h;obtain⟨l1,e,l2,h1,h2,a⟩:=aQj h;exact⟨x::l1,e,l2,by rw[h1];rfl,h2,by rw[ac,a];simp only[aw];omega⟩
theorem bRn:∀{l:List AI} {x:AI},(∀y∈l,(y.Site==x.Site&&y.Handle==x.Handle)=false)->dJ l [x]=l.takeWhile (λe=>lK e x.Site x.Handle)++[x]++l.dropWhile (λe=>lK e x.Site x.Handle)
 |[],x,_=>by rw[lV];rfl
 |a::xs,x,h=>by
  rw[dJ,cR,List.dropWhile_cons,bPk];cases h1:dW a x with
  |true=>simp only[ae,gi];rw[bRn (λy b=>h y (by simp[b]))];rfl
  |false=>
   cases h2:dW x a with
   |true=>simp only[ac,ae];rw[eQ];rfl
   |false=>have:=aH7 h1 h2;have:=h a (by simp);simp_all
def bRo {e x:AI}{l2:List AI}(he:(e.Site==x.Site&&e.Handle==x.Handle)=true):∀{l1:List AI},srt (l1++e::l2)->dJ (l1++e::l2) [x]=l1++Ay e x::l2
 |[],_=>by
  have hk:e.Site=x.Site/\e.Handle=x.Handle:=by simpa using he
  have h1:dW e x=false:=by
   cases h:dW e x with
   |false=>rfl
   |true=>rw[aC7] at h;omega
  have h2:dW x e=false:=by
   cases h:dW x e with
   |false=>rfl
   |true=>rw[aC7] at h;omega
  rw[bp,dJ,h1,ac,h2,ac,eQ];rfl
 |a::l1,h=>by
  obtain⟨b,hs⟩:=cY.1 h;have hk:e.Site=x.Site/\e.Handle=x.Handle:=by simpa using he
  have h1:dW a x=true:=by rw[<-aZs hk];exact b e (by simp)
  rw[cH,dJ,h1,ae,bRo he hs];rfl
def bWt {l:List AI}{x:AI}(h:srt l):(bif (decide (aL ⟨l⟩ x.Site x.Handle<0)||Fs x (l.getD (aL ⟨l⟩ x.Site x.Handle).toNat default)) then(sM ⟨l⟩ x).Entries else l)=dJ l [x]:=by
 unfold sM;by_cases b:aL ⟨l⟩ x.Site x.Handle<0
 ·grind[bRn,bM3,decide_eq_true,decide,aL,decide_eq_false]
 ·obtain⟨l1,e,l2,h1,h2,c⟩:=aQj (show 0<=jP (λe=>e.Site==x.Site&&e.Handle==x.Handle) 0 l from by unfold aL at b;simp only at b;omega);have a:aL ⟨l⟩ x.Site x.Handle=(l1.length:Int):=by grind[aL]
  rw[a,av (by omega),cy,show decide ((l1.length:Int)>=0)=true from au (by omega),ae,ci];subst h1;rw[bRo h2 h];have g:(l1++e::l2).getD l1.length default=e:=by simp
  have st:(l1++e::l2).set l1.length x=l1++x::l2:=by simp
  rw[g];show(bif Fs x e then(l1++e::l2).set l1.length x else l1++e::l2)=_;rw[st];unfold Ay;cases Fs x e<;>rfl
theorem bRp {α:Type}{p:Nat->α->Bool}:∀{l:List α} {j:Nat},dR p j l=false->∀(i:Nat) (hi:i<l.length),p (j+i) l[i]=false
 |[],j,_,i,hi=>by simp at hi
 |x::l,j,h,i,hi=>by
  simp only[dR,bu] at h;cases i with
  |zero=>exact h.1
  |succ i=>have:=bRp h.2 i (by simpa using hi);rw[show j+(i+1)=j+1+i by omega];exact this
def bKh {b:AD}(h:aM b=true):b.Entries.length<=20/\srt b.Entries:=by
 simp only[aM,ab,cg,cn] at h;refine⟨by omega,?_⟩;have adj:∀i (hi:i+1<b.Entries.length),dW b.Entries[i] b.Entries[i+1]=true:=(by grind[bRp,aLm,Bool.or_eq_false_iff,decide_eq_true,default,Nat.add_sub_cancel,List.getD,List.getElem?_eq_getElem]);have far:∀d i (hi:i+d+1<b.Entries.length),dW b.Entries[i] b.Entries[i+d+1]=true:=λd=>by
  induction d<;>grind[M6]
 refine eM.2 λi j hi c a=> ?_;obtain⟨d,rfl⟩:∃d,j=i+d+1:=⟨j-i-1,by omega⟩;simp[*]
theorem dS {α β:Type}{s:List α}(hs:Qa s.length)(x:α)(k:Option β):gd (aO s [x]) k=k:=(by grind[aA,aO,List.length_singleton])
theorem Af {α β:Type}{s:List α}(hs:Qa s.length)(k:Option β):gd (aO [] s) k=k:=(by grind[aA,aO,List.length_nil])
def bM4 {α:Type}{l s:List α}:l.foldl (λs x=>s++[x]) s=s++l:=by have:=aQh (f:=λx:α=>[x]) (l:=l) (s:=s);rw[this];congr 1;induction l<;>simp_all
def aUl {α:Type}{l:List α}{F:(Nat×List α->Option (List α))->Nat×List α->Option (List α)}(hl:Qa l.length)
  (a:∀rec i s (hi:i<l.length),Qa s.length->F rec (i,s)=rec (i+1,s++[l[i]])) (b:∀rec s,F rec (l.length,s)=some s):EV.bF FUEL F (0,[])=some l:=by
 rw[bIb (l:=l) (λs x=>s++[x]) (λi s=>s.length=i) (λs=>some s) (by omega) rfl (by simp) (by grind) (by simp[*]),bM4,bp]
def cAf {α:Type}{l:List α}{F:(List α×Nat->Option (List α))->List α×Nat->Option (List α)}(hl:Qa l.length)
  (a:∀rec i s (hi:i<l.length),Qa s.length->F rec (s,i)=rec (s++[l[i]],i+1)) (b:∀rec s,F rec (s,l.length)=some s):EV.bF FUEL F ([],0)=some l:=by
 rw[gW (l:=l) (λs x=>s++[x]) (λi s=>s.length=i) (λs=>some s) (by omega) rfl (by simp) (by grind) (by simp[*]),bM4,bp]
abbrev Fu {α:Type}(f:α->Nat)(l:List α):Nat:=l.length+(l.map f).sum
theorem gD {S τ:Type}{F:(S->Option τ)->S->Option τ}{n:Nat}{s:S}:EV.bF (n+1) F s=F (EV.bF n F) s:=rfl
def Ky {α:Type}{c:Bool}{x y:α}:(bif c then some x else some y)=some (bif c then x else y):=by cases c<;>rfl
theorem lL {c d:Bool}:(bif c then some true else some d)=some (c||d):=by cases c<;>rfl
def aZu {α:Type}[Inhabited α]{l:List α}{i:Nat}(h:i<l.length):l.set i (l.getD i default)=l:=by simp[*]
theorem qB {α:Type}{p:Nat->α->Bool}:∀(l:List α) (j:Nat),dR p j l=true↔∃(i:Nat) (hi:i<l.length),p (j+i) l[i]=true
 |[],j=>by simp[dR]
 |x::xs,j=>by
  simp only[dR,ck,qB xs];constructor
  ·rintro(h|⟨i,hi,h⟩)
   ·exact⟨0,by simp,h⟩
   ·exact⟨i+1,by simpa using hi,by rw[show j+(i+1)=j+1+i by omega];exact h⟩
  grind
theorem aH9 {α:Type}{p:Nat->α->Bool}{l:List α}:dR p 0 l=false↔∀(i:Nat) (hi:i<l.length),p i l[i]=false:=by
 grind[dR,qB]
def bZa {α:Type}{τ:Type}{l:List α}(p:α->Bool)(a b:τ)(i:Nat)(hi:i<=l.length)(h:Qa l.length){F:(Nat->Option τ)->Nat->Option τ}(c:∀rec j (d:j<i),F rec j=bif p (l[j]'(by omega)) then some a else rec (j+1))(e:∀rec,F rec i=some b):
  EV.bF FUEL F 0=some (bif (l.take i).any p then a else b):=by
 have ht:(l.take i).length=i:=by simp[*]
 exact kN (l:=l.take i) p _ _ (by omega) (by simp_all) (by simp[*])
def cBv {α β:Type}{l:List α}(f:α->β){F:(List β×Nat->Option (List β))->List β×Nat->Option (List β)}(hl:Qa l.length)
  (a:∀rec i s (hi:i<l.length),Qa s.length->F rec (s,i)=rec (s++[f l[i]],i+1)) (b:∀rec s,F rec (s,l.length)=some s):EV.bF FUEL F ([],0)=some (l.map f):=by
 rw[gW (l:=l) (λs x=>s++[f x]) (λi s=>s.length=i) (λs=>some s) (by omega) rfl (by simp) (by grind) (by simp[*]),aQi,bp]
def cDn {α β:Type}{l:List α}(f:α->β){s0:List β}{F:(List β×Nat->Option (List β))->List β×Nat->Option (List β)}(hl:Qa (s0.length+l.length))
  (a:∀rec i s (hi:i<l.length),Qa s.length->F rec (s,i)=rec (s++[f l[i]],i+1)) (b:∀rec s,F rec (s,l.length)=some s):EV.bF FUEL F (s0,0)=some (s0++l.map f):=by
 rw[gW (l:=l) (λs x=>s++[f x]) (λi s=>s.length=s0.length+i) (λs=>some s) (by omega) (by simp) (by simp at*;omega) (by grind) (by simp[*]),aQi]
def eT (h:AC)(b:Int):AC×Bool:=bif decide (b<0)||decide (b>=(h.Saved.length:Int)) then(h,false) else(⟨h.Saved.getD (h.Saved.length-1-b.toNat) default,h.Saved,h.Monotonic⟩,true)
def fU (w:AA)(i b:Int):AA×Bool:=bif !aH w||(decide (i<0)||decide (i>=(w.Hosts.length:Int))) then(w,false) else bif (eT (w.Hosts.getD i.toNat default) b).2 then({w with Hosts:=w.Hosts.set i.toNat (eT (w.Hosts.getD i.toNat default) b).1},true) else(w,false)
theorem aLn {i:Int}{n:Nat}(h:Qa n):(!bE i 0 (IntKind.i64.wrap ((n:Int)-1)))=(decide (i<0)||decide (i>=(n:Int))):=by
 grind[decide_eq_false,decide_eq_true,bE,aI]
theorem nP {α:Type}[Inhabited α]{l:List α}{i:Int}(h0:0<=i)(h1:i<(l.length:Int)):aN l i=some (l.getD i.toNat default):=by
 grind[List.getD,List.getElem?_eq_getElem,jO]
theorem Fv {i:Int}{n:Nat}(h:(decide (i<0)||decide (i>=(n:Int)))=false):0<=i/\i<(n:Int):=by simp_all
theorem Ej {α:Type}[Inhabited α]{f:α->Nat}{l:List α}{i:Nat}(h:i<l.length):f (l.getD i default)<=(l.map f).sum:=by
 grind[dU,List.getD,List.getElem?_eq_getElem]
def bM5 (h:AC)(b:Int):(eT h b).1.sz=h.sz:=by unfold eT;cases(decide (b<0)||decide (b>=(h.Saved.length:Int)))<;>rfl
def bWu {α:Type}{n:Nat}{x:α}{β:Type}{k:Option β}(h:n<=68719476736):gd (dZ n x x) k=k:=aA ⟨rfl,by omega⟩
def Kh (l:List AX)(i:Nat)(s:AX):Bool:= !bE s.Index 1 7||(!bE s.Value 0 1018||(l.take i).any λq=>q.Index==s.Index)
def Ah (l:List AX):Bool:=bE (l.length:Int) 1 7&& !dR (Kh l) 0 l
def aUm (x:Int)(z v:Int):Int:=(IntKind.i64.wrap (IntKind.i64.wrap (v+bQ z 1019)*x)).tmod 1019
def aUn (c:Int)(l:List Int)(x:Int):Int:=(l.foldr (aUm x) 0+bQ c 1019)%1019
def bPl (c:List Int)(s:AX):AX:=⟨s.Index,(IntKind.i64.wrap (s.Value+aUn 0 c s.Index)).tmod 1019⟩
def iU (l:List AX)(c:List Int):List AX:=bif Ah l then l.map (bPl c) else[]
def cS (l:List AX)(i:Nat)(k:Int):Bool:=(l.take i).any λq=>q.Index==k
def cE8 {l:List AX}{i:Nat}{k:Int}(hi:i<l.length):cS l (i+1) k=(cS l i k||l[i].Index==k):=by
 grind[List.take_add_one,List.getElem?_eq_getElem,cS]
def bM6 {x z v:Int}(a:0<=x/\x<=1000)(hv:0<=v/\v<1019):0<=aUm x z v/\aUm x z v<1019:=by
 have hm:=lS (p:=z) (q:=1019) (by omega);unfold aUm;generalize bQ z 1019=m at*;have b:IntKind.i64.wrap (v+m)=v+m:=(by grind[aI]);have h2:0<=(v+m)*x:=iq (by omega) a.1;have c:(v+m)*x<=3000*1000:=Int.mul_le_mul (by omega) a.2 a.1 (by omega)
 grind[Int.tmod_nonneg,Int.tmod_lt_of_pos,aI]
def aIa {x:Int}(a:0<=x/\x<=1000):∀l:List Int,0<=l.foldr (aUm x) 0/\l.foldr (aUm x) 0<1019
 |[]=>by simp
 |z::l=>bM6 a (aIa a l)
def bM7 {σ τ:Type}{l:List Int}(g:Int->σ->σ){s0:σ}(fin:σ->Option τ){F:(σ×Int->Option τ)->σ×Int->Option τ}(hl:Qa l.length)
  (a:∀rec s i (hi:i<l.length),F rec (s,(i:Int))=rec (g l[i] s,(i:Int)-1)) (b:∀rec s,F rec (s,-1)=fin s) {n0:Int} (hn:n0=(l.length:Int)-1):EV.bF FUEL F (s0,n0)=fin (l.foldr g s0):=by
 subst hn;refine Ae (λk s=>k<=l.length/\s=((l.drop (l.length-k)).foldr g s0,(l.length:Int)-1-k)) l.length _ (by omega) ⟨by omega,by simp⟩ (λk s rec hk hv=> ?_) (λs rec hv=> ?_)
 ·obtain⟨_,rfl⟩:=hv;refine .inl ⟨_,⟨hk,rfl⟩,?_⟩
  grind[List.drop_eq_getElem_cons]
 grind
def aZv {c d:Bool}:(bif c then some d else some false)=some (c&&d):=by cases c<;>rfl
def iM (k:AZ):Bool:=Ah [k.aAQ]&&(bE k.Epoch 0 1000000&&(bE k.Limit 1 10&&bE k.Guesses 0 k.Limit))
def iW (h:AC)(s:AX):Bool:= !iM h.State||(decide (qZ h.State<h.Monotonic)||(h.State.Epoch==1000000||(s.Index !=h.State.aAQ.Index|| !Ah [s])))
def Ai (h:AC)(s:AX):AC:=⟨⟨s,IntKind.i64.wrap (h.State.Epoch+1),0,h.State.Limit⟩,h.Saved,qZ ⟨s,IntKind.i64.wrap (h.State.Epoch+1),0,h.State.Limit⟩⟩
def aIb (h:AC)(s:AX):AC×Bool:=bif iW h s then(h,false) else(Ai h s,true)
def bPm (hs:List AC)(a:List AX):List AC×Bool:=bif ((a.length:Int)==0)||(hs.zip a).any (λp=>iW p.1 p.2) then(hs,false) else(List.zipWith Ai hs a,true)
def fC (hs:List AC)(c:List Int):List AC×Bool:=bPm hs (iU (hs.map λh=>h.State.aAQ) c)
def aLo (w:AA):Nat->Int->List Int
 |0,_=>[]
 |n+1,k=>bif decide (k<w.aAP.Threshold)&&decide (k<=7) then bJ w.Seed [317,w.Now,k]::aLo w n (k+1) else[]
def bIe (w:AA):List Int:=aLo w 8 1
def fD (w:AA):AA×Bool:=bif aH w&&(fC w.Hosts (bIe w)).2 then({w with Hosts:=(fC w.Hosts (bIe w)).1},true) else(w,false)
def aQk (w:AA):∀(n:Nat) (k:Int),(aLo w n k).length<=n
 |0,_=>ao _
 |n+1,k=>by
  unfold aLo;cases(decide (k<w.aAP.Threshold)&&decide (k<=7)) with
  |true=>have:=aQk w n (k+1);simp only[ae,aw];omega
  |false=>simp
def bM8 (l:List AX)(c:List Int):(iU l c).length<=l.length:=by unfold iU;cases Ah l<;>simp
def bM9 {l:List AX}{c:List Int}(h:((iU l c).length:Int)≠0):(iU l c).length=l.length:=by
 grind[Ah,iU]
def bWv (b:AD)(s h:Int):Int:=bif decide (aL b s h>=0) then IntKind.i64.wrap ((b.Entries.getD (aL b s h).toNat default).Version+1) else 1
def uU (b:AD)(s h:Int):AI:=⟨s,h,bWv b s h,false⟩
def aZw (b:AD)(s h:Int):AD×Bool:=bif !(decide (aL b s h>=0)&& !(b.Entries.getD (aL b s h).toNat default).Deleted)&&(aM b&&aM (sM b (uU b s h))) then(sM b (uU b s h),true) else(b,false)
def bNa (b:AD)(s h:Int):AI:=⟨s,h,IntKind.i64.wrap ((b.Entries.getD (aL b s h).toNat default).Version+1),true⟩
def aZx (b:AD)(s h:Int):AD×Bool:=bif !aM b||(decide (aL b s h<0)||((b.Entries.getD (aL b s h).toNat default).Deleted||(b.Entries.getD (aL b s h).toNat default).Version==1000000)) then(b,false) else(sM b (bNa b s h),true)
def Xb (d:AF)(n:ByteArray)(h:Int)(rm:Bool):AD×Bool:=bif rm then aZx d.aAE (cO n) h else aZw d.aAE (cO n) h
def cB (d:AF)(n:ByteArray)(h:Int)(rm:Bool):AF×Bool:=bif (Xb d n h rm).2 then({d with aAE:=(Xb d n h rm).1},true) else(d,false)
def Ri (w:AA)(d:Int)(n:ByteArray)(h:Int)(rm:Bool):AA×Bool:=bif aH w&&aJ w d then(bif (cB (aQ w d) n h rm).2 then({w with Devices:=w.Devices.set d.toNat (cB (aQ w d) n h rm).1},true) else(w,false)) else(w,false)
def bRq (b:List Int):(A9 b).length=b.length+1:=by simp[A9,Nat.add_comm]
def aYb (l:List Int):List.map (λ(n:Int)=>n) l=l:=List.map_id l
theorem bT3 (hs:List AC):∀(a:List AX),(List.zipWith Ai hs a).length<=hs.length/\((List.zipWith Ai hs a).map AC.sz).sum<=(hs.map AC.sz).sum:=by
 induction hs with
 |nil=>simp
 |cons h hs b=>
  intro a;cases a with
  |nil=>simp
  |cons s a=>have:=b a;have e:(Ai h s).sz=h.sz:=rfl;simp_all
theorem aGf (hs:List AC)(c:List Int):(fC hs c).1.length<=hs.length/\((fC hs c).1.map AC.sz).sum<=(hs.map AC.sz).sum:=by
 grind[iW,bT3,iU,fC,bPm]
def bEt (w:AA):(fD w).1.sz<=w.sz:=by
 grind[aH,fC,bIe,AA.sz,aGf,fD]
theorem bNb (b:AD)(x:AI):(sM b x).Entries.length<=b.Entries.length+1:=by
 grind[decide,aL,List.length,List.takeWhile_append_dropWhile,lK,List.length_append,List.length_singleton,sM]
theorem bZb (b:AD)(s h:Int):(aZw b s h).1.Entries.length<=b.Entries.length+1:=by
 grind[decide,aL,default,aM,sM,uU,bNb,aZw]
theorem bZc (b:AD)(s h:Int):(aZx b s h).1.Entries.length<=b.Entries.length+1:=by
 grind[aM,decide,aL,default,bNb,bNa,aZx]
theorem aC9 (d:AF)(n:ByteArray)(h:Int)(rm:Bool):(cB d n h rm).1.sz<=d.sz+1:=by
 grind[Xb,AF.sz,bZc,bZb,cB]
def kI (c:AP)(b:Int):AJ×Bool:=bif decide (b<0)||decide (b>=(c.History.length:Int)) then(⟨0,0,[],0⟩,false) else(c.History.getD (c.History.length-1-b.toNat) default,true)
def bZd (a b:AG):Bool:=a.Index==b.Index&&(a.Kind==b.Kind&&(a.Device==b.Device&&(a.By==b.By&&(a.Previous==b.Previous&&(a.Signature==b.Signature&&true)))))
def eX (a b:List AG):Bool:=decide (b.length<=a.length)&& !dR (λi e=> !bZd (a.getD i default) e) 0 b
def jW (k:Int)(b:AJ):Int:=bN k ([227,b.Epoch,b.Version]++A9 b.Data)
def nQ (k e v:Int):Int:=bJ k [223,e,v]
def uvE:Nat->Int->List Int
 |0,n=>[n]
 |k+1,n=>bif decide (n>127) then(n%128+128)::uvE k (n/128) else[n]
theorem bKi:∀(k:Nat) (n:Int),1<=(uvE k n).length/\(uvE k n).length<=k+1
 |0,n=>by simp[uvE]
 |k+1,n=>by
  have:=bKi k (n/128);unfold uvE;cases decide (n>127)<;>simp<;>omega
def bZe {k:Nat}{z:Int}(h:z<=127):uvE k z=[z]:=by cases k<;>grind[uvE,decide_eq_false]
def bRr:∀(k:Nat) (m n:Int) (x y:List Int),0<=m->0<=n->uvE k m++x=uvE k n++y->m=n/\x=y
 |0,m,n,x,y,_,_,h=>by simpa[uvE] using h
 |k+1,m,n,x,y,h0,h1,h=>by
  unfold uvE at h;by_cases hm:m>127<;>by_cases hn:n>127
  ·simp only[au hm,au hn,ae,cH,eR] at h;have:=bRr k (m/128) (n/128) x y (by omega) (by omega) h.2;exact⟨by omega,this.2⟩
  ·simp only[au hm,av hn,ae,ac,cH,eR] at h;omega
  ·simp only[av hm,au hn,ae,ac,cH,eR] at h;omega
  ·simpa only[av hm,av hn,ac,cH,bp,eR] using h
def bNc {F:(Int×List Int->Option (Int×List Int))->Int×List Int->Option (Int×List Int)}
  (a:∀rec (n:Int) (s:List Int),0<=n->n<9223372036854775807->Qa s.length->F rec (n,s)=bif decide (n>127) then rec (n/128,s++[n%128+128]) else some (n,s)):
  ∀(k:Nat) (n:Int) (s:List Int) (f:Nat),k<f->0<=n->n<128^(k+1)->k<=6->Qa (s.length+k)->∃m q,EV.bF f F (n,s)=some (m,q)/\q++[m]=s++uvE k n/\0<=m/\m<=127
 |0,n,s,f+1,b,h0,h1,_,hs=>by
  refine⟨n,s,?_,rfl,h0,by simp at h1;omega⟩;rw[gD,a _ _ _ h0 (by simp at h1;omega) (by omega),av (by simp at h1;omega)];rfl
 |k+1,n,s,f+1,b,h0,h1,hk,hs=>by
  have h2:(128:Int)^(k+1+1)=128*128^(k+1):=by rw[fm];omega
  have h:(128:Int)^(k+1+1)<=128^8:=by exact_mod_cast gb (by omega) (by omega)
  have i:(128:Int)^8=72057594037927936:=by decide
  rw[gD,a _ _ _ h0 (by omega) (by omega)];unfold uvE;by_cases hn:n>127
  ·rw[au hn,ae,ae];obtain⟨m,q,c,d,e⟩:=bNc a k (n/128) (s++[n%128+128]) f (by omega) (by omega) (by omega) (by omega) (by simp;omega);exact⟨m,q,c,by rw[d];simp,e⟩
  ·rw[av hn,ac,ac];exact⟨n,s,rfl,rfl,h0,by omega⟩
theorem bZf {n:Int}(h0:0<=n)(h1:n<9223372036854775808):Fe .i64 n 127=n%128:=by
 obtain⟨m,rfl⟩:=dw h0;have e:((BitVec.ofInt 64 (m:Int))&&&(BitVec.ofInt 64 127)).toNat=m%128:=by
  rw[BitVec.toNat_and];have a:(BitVec.ofInt 64 (m:Int)).toNat=m:=by grind
  have b:(BitVec.ofInt 64 127).toNat=2^7-1:=by decide
  rw[a,b,fh]
 show IntKind.i64.wrap (((BitVec.ofInt 64 (m:Int))&&&(BitVec.ofInt 64 127)).toNat:Int)=_
 grind[aI]
theorem cBw {n:Int}(h0:0<=n)(h1:n<128):orI .i64 n 128=n+128:=by
 obtain⟨m,rfl⟩:=dw h0;have e:((BitVec.ofInt 64 (m:Int))|||(BitVec.ofInt 64 128)).toNat=m+128:=by
  rw[BitVec.toNat_or];have a:(BitVec.ofInt 64 (m:Int)).toNat=m:=by grind
  have c:(BitVec.ofInt 64 128).toNat=1<<<7:=by decide
  have:=ib (b:=m) (i:=7) (by omega) 1
  grind
 show IntKind.i64.wrap (((BitVec.ofInt 64 (m:Int))|||(BitVec.ofInt 64 128)).toNat:Int)=_
 grind[aI]
theorem cDo {n:Int}(h0:0<=n):aHr .i64 n 7=n/128:=by unfold aHr;rw[show min (Int.toNat 7) IntKind.i64.bits=7 from by decide,fq _ (by decide)];rfl
theorem aZz {n:Int}(h0:0<=n)(h1:n<=255):IntKind.u8.wrap n=n:=by rw[IntKind.wrap_u8];omega
def enc1 (n:Int):List Int:=bif bE n 0 1000000000000 then uvE 5 n else[]
def Qm (b:List Int)(n:Int):List Int:=b++enc1 n
def pO (l:List Int):List Int:=(l.map enc1).flatten
theorem bNd (n:Int):(enc1 n).length<=6:=by have:=(bKi 5 n).2;unfold enc1;cases bE n 0 1000000000000<;>simp<;>omega
theorem bKj {n:Int}(h:0<=n/\n<=1000000000000):enc1 n=uvE 5 n:=by
 grind[decide_eq_true,enc1,bE]
theorem Ew (n:Int)(l:List Int):pO (n::l)=enc1 n++pO l:=rfl
theorem aLp:∀l:List Int,(pO l).length<=6*l.length
 |[]=>by simp[pO]
 |n::l=>by
  have:=aLp l
  grind[Ew,List.length_append,List.length_cons,bNd]
def bNe (l:List Int):Prop:=∀v∈l,0<=v/\v<=(1000000000000:Int)
theorem bNf:∀(s t x y:List Int),bNe s->bNe t->s.length=t.length->pO s++x=pO t++y->s=t/\x=y
 |[],[],x,y,_,_,_,h=>⟨rfl,h⟩
 |m::s,n::t,x,y,hs,ht,hl,h=>by
  have hm:=hs m (by simp);have hn:=ht n (by simp);rw[Ew,Ew,cw,cw,bKj hm,bKj hn] at h;obtain⟨h1,h2⟩:=bRr 5 m n _ _ hm.1 hn.1 h;obtain⟨a,b⟩:=bNf s t x y (λv hv=>hs v (by simp[hv])) (λv hv=>ht v (by simp[hv])) (by simpa using hl) h2;exact⟨by rw[h1,a],b⟩
theorem bRs {b:List Int}(hb:aT b){p:Nat}:∀(k i:Nat) (n m e:Int),uvG b p (k+1) i n=(m,e,true)->∃(r:Int) (q:Nat),(0<=r/\m=n+r*128^i/\m<=1000000000000/\e=(q:Int)/\q<=b.length/\(0<i->r≠0))/\b.drop (p+i)=uvE k r++b.drop q
 |k,i,n,m,e,h=>by
  unfold uvG at h;by_cases a:p+i<b.length
  ·rw[cu a] at h;have l:=xY hb a;have hg:b.getD (p+i) 0=b[p+i]:=by simp[List.getD,aa a]
   rw[hg] at h;have hd:b.drop (p+i)=b[p+i]::b.drop (p+i+1):=cF a;generalize b[p+i]=z at l h hd;by_cases c:z<128
   ·rw[au c,ae] at h;have d:z%128=z:=by omega
    rw[d] at h;cases hc:(decide (0<i)&&z==0)||decide (n+z*128^i>1000000000000) with
    |true=>rw[hc] at h;simp at h
    |false=>rw[hc,ac] at h;rw[bu] at hc;have h1:=of_decide_eq_false hc.2;injection h with f j;injection j with j w;refine⟨z,p+i+1,⟨l.1,f.symm,by omega,j.symm,by omega,λhi h0=> ?_⟩,by rw[hd,bZe (by omega)];rfl⟩;subst h0;simp[hi] at hc
   ·rw[av c,ac] at h
    match k,h with
    |0,h=>simp[uvG] at h
    |k+1,h=>
     obtain⟨r,q,⟨h1,h2,o,s,t,u⟩,v⟩:=bRs hb k (i+1) _ m e h;have hr:=u (by omega);refine⟨z%128+128*r,q,⟨by omega,?_,o,s,t,λ_=>by omega⟩,?_⟩
     ·rw[h2,fm,Int.add_mul,<-Int.add_assoc];congr 1;rw[fS 128 r,fv,fS 128]
     ·rw[hd,show p+i+1=p+(i+1) from by omega,v];have f:uvE (k+1) (z%128+128*r)=z::uvE k r:=by rw[uvE,au (show z%128+128*r>127 by omega),ae,show(z%128+128*r)%128+128=z by omega,show(z%128+128*r)/128=r by omega]
      rw[f];rfl
  ·rw[cG a] at h;simp at h
def bKk {b:List Int}(hb:aT b){a m e:Int}(h:Qt b a=(m,e,true)):∃q:Nat,(0<=a/\0<=m/\m<=1000000000000/\e=(q:Int)/\q<=b.length)/\b.drop a.toNat=enc1 m++b.drop q:=by
 grind[bRs,bKj,Qt]
def M7 {b:List Int}(hb:aT b):∀(k:Nat) (a:Int) (s v:List Int) (e:Int),0<=a->a<=b.length->lJ b k a s=(v,e,true)->∃(t:List Int) (q:Nat),(v=s++t/\t.length=k/\e=(q:Int)/\q<=b.length/\bNe t)/\b.drop a.toNat=pO t++b.drop q
 |0,a,s,v,e,h0,h1,h=>by
  unfold lJ at h;injection h with i d;injection d with d _;exact⟨[],a.toNat,⟨by simp[i],rfl,by omega,by omega,λv hv=>by simp at hv⟩,rfl⟩
 |k+1,a,s,v,e,h0,h1,h=>by
  unfold lJ at h;cases f:Qt b a with
  |mk m r=>
   obtain⟨e',ok⟩:=r;rw[f] at h;cases ok with
   |false=>simp at h
   |true=>
    obtain⟨q,⟨p,j,l,n,u⟩,o⟩:=bKk hb f;subst n;obtain⟨t,q',⟨k1,k2,k3,k4,k5⟩,k6⟩:=M7 hb k (q:Int) (s++[m]) v e (by omega) (by omega) h;refine⟨m::t,q',⟨by rw[k1];simp,by simp[k2],k3,k4,λx c=> ?_⟩,by rw[o,Ew,cw];congr 1⟩;rcases bl.1 c with rfl|c
    ·exact⟨j,l⟩
    ·exact k5 x c
def aZ0 {b:List Int}:∀(j k:Nat) (a:Int) (s:List Int),lJ b (j+k) a s=bif (lJ b j a s).2.2 then lJ b k (lJ b j a s).2.1 (lJ b j a s).1 else([],0,false)
 |0,k,a,s=>by rw[cl];rfl
 |j+1,k,a,s=>by
  have e:∀m,lJ b (m+1) a s=bif (Qt b a).2.2 then lJ b m (Qt b a).2.1 (s++[(Qt b a).1]) else([],0,false):=λ_=>rfl;rw[show j+1+k=j+k+1 by omega,e,e];cases(Qt b a).2.2 with
  |false=>rfl
  |true=>exact aZ0 j k _ _
def aZ1 {b:List Int}:∀(k:Nat) (a:Int) (s:List Int),lJ b k a s=bif (lJ b k a []).2.2 then(s++(lJ b k a []).1,(lJ b k a []).2.1,true) else([],0,false)
 |0,a,s=>by simp[lJ]
 |k+1,a,s=>by
  unfold lJ;cases(Qt b a).2.2 with
  |false=>rfl
  |true=>simp only[ae,bp];rw[aZ1 k _ (s++[(Qt b a).1]),aZ1 k _ [(Qt b a).1]];cases(lJ b k (Qt b a).2.1 []).2.2<;>simp
def bNg (e:AI):List Int:=[e.Site,e.Handle,e.Version,bif e.Deleted then 1 else 0]
def nR:List Int->List AI
 |s::h::v::d::r=>⟨s,h,v,d==1⟩::nR r
 |_=>[]
def qF:List Int->Bool
 |_::_::_::d::r=>decide (d<=1)&&qF r
 |_=>true
def yA (l:List AI):List Int:=l.flatMap bNg
theorem Ex:∀l:List AI,(yA l).length=4*l.length
 |[]=>rfl
 |e::l=>by
  have:=Ex l
  grind[bNg,yA,List.length_append,List.length_cons]
def aLq:∀(k:Nat) (l:List Int),l.length=4*k->(nR l).length=k
 |0,[],_=>rfl
 |k+1,s::h::v::d::r,hl=>by
  have:=aLq k r (by simp at hl;omega);simp[nR,this]
def bIf:∀(k:Nat) (l:List Int),l.length=4*k->bNe l->bNe (yA (nR l))/\(qF l=true↔yA (nR l)=l)
 |0,[],_,_=>⟨λv h=>by simp[yA,nR] at h,by simp[qF,yA,nR]⟩
 |k+1,s::h::v::d::r,hl,ho=>by
  obtain⟨h1,h2⟩:=bIf k r (by simp at hl;omega) (λx a=>ho x (by simp[a]));have hs:=ho s (by simp);have b:=ho h (by simp);have hv:=ho v (by simp);have hd:=ho d (by simp);have e:yA (nR (s::h::v::d::r))=s::h::v::(bif d==1 then 1 else 0)::yA (nR r):=by simp[nR,yA,bNg]
  rw[e];refine⟨λx a=> ?_,?_⟩
  ·simp only[bl] at a;rcases a with rfl|rfl|rfl|rfl|a
   ·exact hs
   ·exact b
   ·exact hv
   ·cases(d==1)<;>simp
   ·exact h1 x a
  ·simp only[qF,ab,cg,eR,true_and,h2];refine and_congr_left' ?_;by_cases h1:d=1
   ·subst h1;simp
   ·rw[show(d==1)=false by simpa using h1,ac];omega
def bNh:∀(k:Nat) (l r:List Int),l.length=4*k->nR (l++r)=nR l++nR r
 |0,[],r,_=>rfl
 |k+1,s::h::v::d::l,r,hl=>by
  have:=bNh k l r (by simp at hl;omega);simp[nR,this]
def La (b:AD):List Int:=[(b.Entries.length:Int)]++yA b.Entries
def yB (b:AD):List Int:=bif aM b then pO (La b) else[]
def bRt (d:List Int)(v:List Int×Int×Bool):AD×Bool:=bif !v.2.2||(v.2.1 !=(d.length:Int)||(!qF v.1|| !aM ⟨nR v.1⟩)) then(⟨[]⟩,false) else(⟨nR v.1⟩,true)
def aGg (d:List Int):AD×Bool:=bif !(Qt d 0).2.2||decide ((Qt d 0).1>20) then(⟨[]⟩,false) else bRt d (lJ d (4*(Qt d 0).1).toNat (Qt d 0).2.1 [])
def nS (key:Int)(s:AJ):AD×Bool:=bif !(dH key&&(bE s.Epoch 0 1000000&&bE s.Version 0 1000000))||s.MAC !=jW key s then(⟨[]⟩,false) else aGg (aZp (nQ key s.Epoch s.Version) s.Data)
def bWw {d:List Int}(hd:aT d){n e e':Int}{v:List Int}(h:Qt d 0=(n,e,true))(hn:n<=20)(c:lJ d (4*n).toNat e []=(v,e',true)):(pO (La ⟨nR v⟩)=d↔(e'=(d.length:Int)/\qF v=true))/\v.length=4*n.toNat/\bNe v/\(nR v).length=n.toNat:=by
 obtain⟨q,⟨_,k,m,f,o⟩,p⟩:=bKk hd h;subst f;obtain⟨t,q',⟨k1,k2,k3,k4,k5⟩,k6⟩:=M7 hd _ _ _ _ _ (by omega) (by omega) c;rw[bp] at k1;subst k1;have hl:v.length=4*n.toNat:=by omega
 obtain⟨r,s⟩:=bIf n.toNat v hl k5;have b:=aLq n.toNat v hl;refine⟨?_,hl,k5,b⟩;have i:d=pO (n::v)++d.drop q':=by
  grind[Ew,List.append_assoc,k6,Int.toNat]
 have hv:La ⟨nR v⟩=n::yA (nR v):=by show((nR v).length:Int)::_=_;simp at*;omega
 rw[hv];constructor
 ·intro hq;have a:pO (n::yA (nR v))++[]=pO (n::v)++d.drop q':=by grind
  have j:∀l,bNe l->bNe (n::l):=λl hl x a=>by
   rcases bl.1 a with rfl|a
   ·omega
   ·exact hl x a
  grind[List.cons.inj,List.length_nil,List.length_drop,List.length,bNf,k5,Ex]
 grind[List.drop_eq_nil_of_le]
def bIg (l:List Int):(EV.bS2 l).data.toList=l.map λn=>UInt8.ofNat n.toNat:=by
 unfold EV.bS2;have:∀(l:List Int) (r:ByteArray),(l.foldl (λr n=>r.push (UInt8.ofNat n.toNat)) r).data.toList=r.data.toList++l.map λn=>UInt8.ofNat n.toNat:=by intro l;induction l<;>simp_all
 simp[*]
def bytes_inj:∀{a b:List Int},(∀z∈a,0<=z/\z<=255)->(∀z∈b,0<=z/\z<=255)->(a.map λn=>UInt8.ofNat n.toNat)=(b.map λn=>UInt8.ofNat n.toNat)->a=b
 |[],[],_,_,_=>rfl
 |[],y::b,_,_,h=>by simp at h
 |x::a,[],_,_,h=>by simp at h
 |x::a,y::b,d,hb,h=>by
  simp only[bw,eR] at h;have f:=d x (by simp);have i:=hb y (by simp);have e:=congrArg UInt8.toNat h.1;rw[UInt8.toNat_ofNat',UInt8.toNat_ofNat'] at e;rw[bytes_inj (λz c=>d z (by simp[c])) (λz c=>hb z (by simp[c])) h.2,show x=y by omega]
def aUo {b:List Int}(h:aT b):∀z∈b,0<=z/\z<=255:=λz a=>by simpa using cI.1 h.2 z a
def aZ2 {b:List Int}(h:Qa b.length)(h1:∀z∈b,0<=z/\z<=255):aT b:=⟨h,cI.2 λz a=>by simpa using h1 z a⟩
def bIh:∀(k:Nat) (n:Int),0<=n->n<128^(k+1)->∀z∈uvE k n,0<=z/\z<=255
 |0,n,h0,h1,z,a=>by simp[uvE] at a;subst a;simp at h1;omega
 |k+1,n,h0,h1,z,a=>by
  have h2:(128:Int)^(k+1+1)=128*128^(k+1):=by rw[fm];omega
  unfold uvE at a;by_cases hn:n>127
  ·rw[au hn,ae] at a;rcases bl.1 a with rfl|a
   ·omega
   ·exact bIh k (n/128) (by omega) (by omega) z a
  ·rw[av hn,ac] at a;simp at a;subst a;omega
def bPn (n:Int):∀z∈enc1 n,0<=z/\z<=255:=λz a=>by
 unfold enc1 at a;cases hr:bE n 0 1000000000000 with
 |false=>simp_all
 |true=>
  rw[hr] at a;have:=sG hr;have b:(128:Int)^(5+1)=4398046511104:=by decide
  exact bIh 5 n this.1 (by omega) z a
def aZ3 (l:List Int):∀z∈pO l,0<=z/\z<=255:=λz a=>by
 unfold pO at a;obtain⟨x,b,a⟩:=gR.1 a;obtain⟨n,_,rfl⟩:=cz.1 b;exact bPn n z a
theorem wR {b:AD}(h:aM b=true):b.Entries.length<=20:=by
 grind[aM]
def aZ4 (b:AD):aT (yB b):=by
 unfold yB;cases hb:aM b with
 |false=>exact⟨by simp,rfl⟩
 |true=>
  have:=wR hb;have h1:=aLp (La b);have h2:(La b).length=1+4*b.Entries.length:=by grind[La,Ex]
  exact aZ2 (by grind) (aZ3 _)
theorem bWx (d:List Int):(aGg d).1.sz<=20:=by
 grind[Qt,decide,lJ,bRt,aM,nR,Bool.not_false,wR,qF,AD.sz,aGg]
theorem bIi (k:Int)(s:AJ):(nS k s).1.sz<=20:=by
 grind[dH,bE,jW,AD.sz,bWx,nS]
theorem bIj {a b:AD}(h:(nO a b).2=true):(nO a b).1.sz<=20:=by
 grind[aM,dJ,wR,AD.sz,nO]
def Em (d:AF)(log:List AG)(bx:AO)(s:AJ):Int:=
 bif !bO log|| !eX log d.Log then 1 else bif !kL (aK log) (bI d.Store) then 2 else bif bx.Epoch !=bA log|| !(eO d.Store bx).2 then 3
 else bif decide (s.Epoch<bA log)||(decide (s.Epoch<d.Epoch)||(s.Epoch==d.Epoch&&decide (s.Version<d.Version))) then 4
 else bif !(nS (eO d.Store bx).1 s).2|| !(nO d.aAE (nS (eO d.Store bx).1 s).1).2 then 5 else 0
def gK (d:AF)(log:List AG)(bx:AO)(s:AJ):AF×Int:=
 bif Em d log bx s==0 then(⟨d.Store,log,(eO d.Store bx).1,s.Epoch,s.Version,(nO d.aAE (nS (eO d.Store bx).1 s).1).1⟩,0) else(d,Em d log bx s)
def aG (w:AA)(d b:Int):AA×Int:=bif aH w&&aJ w d then({w with Devices:=w.Devices.set d.toNat (gK (aQ w d) w.aAH.Log w.aAH.Boxes (kI w.aAH b).1).1},(gK (aQ w d) w.aAH.Log w.aAH.Boxes (kI w.aAH b).1).2) else(w,1)
def bU (w:AA)(d:Int):Bool:=w.Stolen.getD d.toNat false
def bPo (d:AF)(l:List AG)(bx:AO)(s:AJ):(gK d l bx s).1.sz<=d.sz+l.length+20:=by
 unfold gK;cases hc:Em d l bx s==0 with
 |false=>grind
 |true=>
  grind[AF.sz,AD.sz,bIj,nO,nS,eO,bx,Em,bO,eX,kL,aK,bI,bA,decide]
def bT4 (k:Int)(i:Nat)(z:Int):Int:=IntKind.u8.wrap ((z+bN k [(i:Int)])%256)
def Az (k:Int)(b:List Int):List Int:=aDd (λi z=>[bT4 k i z]) 0 b
def bRu (k e v:Int)(b:AD):AJ:=⟨e,v,Az (nQ k e v) (yB b),jW k ⟨e,v,Az (nQ k e v) (yB b),0⟩⟩
def Fw (k e v:Int)(b:AD):AJ×Bool:=bif dH k&&(bE e 0 1000000&&bE v 0 1000000)&&aM b then(bRu k e v b,true) else(⟨0,0,[],0⟩,false)
def dD (d:AF):AF×AJ×Bool:=bif (Fw d.Key d.Epoch (IntKind.i64.wrap (d.Version+1)) d.aAE).2 then({d with Version:=IntKind.i64.wrap (d.Version+1)},(Fw d.Key d.Epoch (IntKind.i64.wrap (d.Version+1)) d.aAE).1,true) else(d,⟨0,0,[],0⟩,false)
def M8 (a b:AJ):Bool:=decide (a.Epoch>b.Epoch)||(a.Epoch==b.Epoch&&decide (a.Version>b.Version))
def eU (c:AP)(s:AJ):AP×Bool:=bif s.Epoch !=bA c.Log||((decide ((c.History.length:Int)>0)&& !M8 s (c.History.getD (c.History.length-1) default))||decide ((c.History.length:Int)>=60)) then(c,false) else({c with History:=c.History++[s]},true)
def upF (w:AA)(d:Int):AA×Bool:=bif (dD (aQ w d)).2.2&&(eU w.aAH (dD (aQ w d)).2.1).2 then({w with Devices:=w.Devices.set d.toNat (dD (aQ w d)).1,aAH:=(eU w.aAH (dD (aQ w d)).2.1).1},true) else(w,false)
def fJ (w:AA)(d:Int):AA×Bool:=bif (aG w d 0).2==0&&(upF (aG w d 0).1 d).2 then((upF (aG w d 0).1 d).1,true) else(w,false)
theorem bIk (b:AD):(yB b).length<=500:=by
 grind[aM,wR,aLp,La,Ex,yB]
theorem aLr (k:Int)(b:List Int):(Az k b).length=b.length:=by simp[L9,Az]
def bT5 (k e v:Int)(b:AD):(Fw k e v b).1.Data.length<=500:=by
 grind[dH,bE,aM,bRu,aLr,bIk,Fw]
theorem aQl (d:AF):(dD d).1.sz=d.sz/\(dD d).2.1.Data.length<=500:=by
 unfold dD;have:=bT5 d.Key d.Epoch (IntKind.i64.wrap (d.Version+1)) d.aAE;cases(Fw d.Key d.Epoch (IntKind.i64.wrap (d.Version+1)) d.aAE).2 with
 |false=>simp
 |true=>exact⟨rfl,this⟩
theorem aIc (c:AP)(s:AJ):(eU c s).1.sz<=c.sz+1+s.Data.length/\(eU c s).1.Log=c.Log:=by
 unfold eU;cases s.Epoch !=bA c.Log||((decide ((c.History.length:Int)>0)&& !M8 s (c.History.getD (c.History.length-1) default))||decide ((c.History.length:Int)>=60)) with
 |true=>grind
 |false=>grind[AP.sz,List.length_append,List.length_cons,List.length_nil,AJ.sz]
theorem wT {α:Type}{f:α->Nat}:∀{l:List α} {i:Nat} {x:α} (hi:i<l.length),((l.set i x).map f).sum+f l[i]=(l.map f).sum+f x
 |y::l,0,x,_=>by simp only[gq,bw,dz,fN];omega
 |y::l,i+1,x,h=>by
  have:=wT (f:=f) (l:=l) (i:=i) (x:=x) (by simpa using h);simp only[fo,bw,dz,fR];omega
theorem lW {w:AA}{d b:Int}(h:((aG w d b).2==0)=true):(aH w=true/\aJ w d=true)/\(aG w d b).1.aAH=w.aAH/\(aG w d b).1.Devices.length=w.Devices.length/\(aG w d b).1.sz<=w.sz+w.aAH.Log.length+20:=by
 unfold aG at*;cases hc:(aH w&&aJ w d) with
 |false=>simp_all
 |true=>
  rw[hc] at h;simp only[ae] at h ⊢;rw[ab] at hc;refine⟨hc,by first|rfl|trivial,by first|exact ay|simp,?_⟩;have hd:=hc.2;simp only[aJ,ab,cg] at hd;have hi:d.toNat<w.Devices.length:=by omega
  have a:(gK (aQ w d) w.aAH.Log w.aAH.Boxes (kI w.aAH b).1).1.sz<=w.aAH.Log.length+20:=by
   unfold gK at*;cases hs:Em (aQ w d) w.aAH.Log w.aAH.Boxes (kI w.aAH b).1==0 with
   |false=>simp_all
   |true=>
    have hm:(nO (aQ w d).aAE (nS (eO (aQ w d).Store w.aAH.Boxes).1 (kI w.aAH b).1).1).2=true:=by
     grind[nO,aQ,nS,eO,kI,Em,bO,eX,kL,aK,bI,bA,decide]
    grind[AF.sz,AD.sz,bIj]
  grind[AA.sz,List.length_set,gK,aQ,kI,wT,AF.sz]
theorem cAg {w:AA}{d:Int}(hd:aJ w d=true):(upF w d).1.aAH.Log=w.aAH.Log/\(upF w d).1.Devices.length=w.Devices.length/\(upF w d).1.sz<=w.sz+501:=by
 unfold upF;cases(dD (aQ w d)).2.2&&(eU w.aAH (dD (aQ w d)).2.1).2 with
 |false=>simp
 |true=>
  grind[AA.sz,AP.sz,List.length_set,dD,aQ,eU,List.getD,List.getElem?_eq_getElem,wT,AF.sz,aJ,aQl,aIc]
theorem aYc {w:AA}{d:Int}(h:(fJ w d).2=true):(fJ w d).1.aAH.Log=w.aAH.Log/\(fJ w d).1.sz<=w.sz+w.aAH.Log.length+521:=by
 grind[aG,upF,k1,k2,k3,k4,k5,lW,aJ,cAg,fJ]
theorem bWy {k z:Int}(i:Nat)(h:0<=z/\z<=255):IntKind.u8.wrap ((IntKind.i64.wrap (IntKind.i64.wrap z+bN k [(i:Int)])).tmod 256)=bT4 k i z:=by have:=lU k [(i:Int)];rw[aI (n:=z) (by omega) (by omega),aI (by omega) (by omega),bv (by omega)];rfl
theorem bWz {k z:Int}(i:Nat)(h:0<=z/\z<=255):IntKind.u8.wrap ((IntKind.i64.wrap (IntKind.i64.wrap z+(bN k [(i:Int)]).tmod 256)).tmod 256)=bT4 k i z:=by
 grind[aI,bN,Int.tmod_eq_emod_of_nonneg,bT4,lU]
def aX (seed n:Int):AN:=⟨1,n,bJ seed [277,n],0⟩
def gT (s:AN):AF:=⟨s,[],0,0,0,⟨[]⟩⟩
def dV (s:AN)(n:ByteArray)(h:Int):Int:=bJ s.Seed [179,cO n,h]
def gL (s:AN)(n:ByteArray)(h:Int):Int:=gX (dV s n h)
def qC (s:AN)(l:List Int):Int:=Rh (qE s) l
def bZg (log:List AG)(kind dev:Int)(s:AN):AG:=⟨(log.length:Int),kind,dev,bI s,jV log,0⟩
def bW0 (log:List AG)(kind dev:Int)(s:AN):AG:={bZg log kind dev s with Signature:=qC s [dG (bZg log kind dev s)]}
def gY (log:List AG)(kind dev:Int)(s:AN):List AG×Bool:=bif (decide ((log.length:Int)>0)&& !bO log)|| !bO (log++[bW0 log kind dev s]) then(log,false) else(log++[bW0 log kind dev s],true)
def aZ5 (p e:Int)(d:List Int):AK:=⟨p,e,Az (kQ (iF p) e) d,aVd (kQ (iF p) e) ⟨p,e,Az (kQ (iF p) e) d,0⟩⟩
def jX (p e:Int)(d:List Int):AK×Bool:=bif iF p==0||(!dH e||decide ((d.length:Int)>200)) then(⟨0,0,[],0⟩,false) else(aZ5 p e d,true)
def nE (e:Int)(d:List Int):Nat->List Int->List AK×Bool
 |_,[]=>([],true)
 |i,p::l=>bif (jX p (IntKind.i64.wrap (e+(i:Int))) d).2&&(nE e d (i+1) l).2 then((jX p (IntKind.i64.wrap (e+(i:Int))) d).1::(nE e d (i+1) l).1,true) else([],false)
def iI (log:List AG)(key eph:Int):AO×Bool:=bif !bO log||(!dH key|| !(nE eph (pO [bA log,key]) 0 (aK log)).2) then(⟨0,[]⟩,false) else(⟨bA log,(nE eph (pO [bA log,key]) 0 (aK log)).1⟩,true)
def sN (e:AO)(d:Int):Int:=e.Boxes.foldl (λn b=>bif b.To==d then IntKind.i64.wrap (n+1) else n) 0
def sO (e:AO)(log:List AG):Bool:=(e.Epoch==bA log&&(e.Boxes.length:Int)==((aK log).length:Int))&&(aK log).all λd=>sN e d==1
def mZ (c:AP)(log:List AG)(e:AO):AP×Bool:=bif !bO log||(!eX log c.Log|| !sO e log) then(c,false) else({c with Log:=log,Boxes:=e},true)
def aId (h:Int)(l:List AV):Nat:=(l.takeWhile λc=>decide (c.Handle<h)).length
def aQm (l:List AV)(h p:Int):List AV:=l.take (aId h l)++[⟨h,p,0,false⟩]++l.drop (aId h l)
def fV (a:AH)(h p:Int):AH×Bool:=bif !aS a|| !aS {a with Credentials:=aQm a.Credentials h p} then(a,false) else({a with Credentials:=aQm a.Credentials h p},true)
def gG (s:AB)(id h p:Int):AB×Bool:=bif !dN s||decide (aF s id<0) then(s,false) else bif (fV (s.Accounts.getD (aF s id).toNat default) h p).2 then({s with Accounts:=s.Accounts.set (aF s id).toNat (fV (s.Accounts.getD (aF s id).toNat default) h p).1},true) else(s,false)
def yC (l:List AR):Nat:=bif l.any (λn=>n.Seen) then(l.takeWhile λn=> !n.Seen).length else 0
def Rj (l:List AR):List AR:=bif decide ((l.length:Int)>30) then l.take (yC l)++l.drop (yC l+1) else l
def rA (m:AU)(k a t:Int):AU×Bool:=bif !eH m|| !eH ⟨Rj (m.Notices++[⟨k,a,t,false⟩])⟩ then(m,false) else(⟨Rj (m.Notices++[⟨k,a,t,false⟩])⟩,true)
def jG (w:AA)(by_ kind a:Int)(key:List AG->Int):AA×Bool:=
 let l:=gY w.aAH.Log kind a (aQ w by_).Store;let e:=iI l.1 (key l.1) (IntKind.i64.wrap (1000+IntKind.i64.wrap (10*(l.1.length:Int))));let c:=mZ w.aAH l.1 e.1
 bif l.2&&(e.2&&c.2) then({w with aAH:=c.1},true) else(w,false)
theorem qN (log:List AG)(k d:Int)(s:AN):(gY log k d s).1.length<=log.length+1:=by unfold gY;cases(decide ((log.length:Int)>0)&& !bO log)|| !bO (log++[bW0 log k d s])<;>simp
theorem bPp (p e:Int)(d:List Int):(jX p e d).1.sz<=d.length:=by
 grind[iF,dH,decide,AK.sz,aZ5,aLr,jX]
def bNi {e:Int}{d:List Int}:∀{i:Nat} {l:List Int},(nE e d i l).1.length<=l.length/\((nE e d i l).1.map AK.sz).sum<=l.length*d.length
 |i,[]=>by simp[nE]
 |i,p::l=>by
  have h1:=bNi (e:=e) (d:=d) (i:=i+1) (l:=l)
  grind[jX,nE,List.length_cons,Nat.add_mul,bPp]
theorem bNj (a b:Int):(pO [a,b]).length<=12:=aLp [a,b]
theorem Rk (log:List AG)(k e:Int):(iI log k e).1.sz<=13*log.length:=by
 unfold iI;have h1:=bNi (e:=e) (d:=pO [bA log,k]) (i:=0) (l:=aK log);have h2:=fG log;have a:=bNj (bA log) k;have b:=fj (aK log).length a
 grind[bO,dH,nE,pO,bA,aK,AO.sz]
theorem bW1 (c:AP)(l:List AG)(e:AO):(mZ c l e).1.sz<=c.sz+l.length+e.sz/\(mZ c l e).1.History=c.History:=by
 grind[bO,eX,sO,AP.sz,AO.sz,mZ]
theorem bNk (l:List AV)(h p:Int):(aQm l h p).length=l.length+1:=by
 grind[aQm,List.length_append,List.length_take,List.length_drop,List.length_singleton]
theorem bPq (a:AH)(h p:Int):(fV a h p).1.sz<=a.sz+1:=by
 grind[aS,aQm,AH.sz,bNk,fV]
theorem bIl (l:List AR):(Rj l).length<=l.length:=by
 grind[decide,List.length_append,List.length_take,List.length_drop,Rj]
theorem bZh (m:AU)(k a t:Int):(rA m k a t).1.sz<=m.sz+1:=by
 grind[eH,Rj,AU.sz,List.length_append,List.length_singleton,bIl,rA]
def lM {α:Type}{p:α->Bool}{i:Nat}{l:List α}(h:decide (jP p i l<0)=false):(i:Int)<=jP p i l/\jP p i l<i+l.length:=by induction l generalizing i<;>grind[jP,List.length_cons]
theorem bT6 (s:AB)(id h p:Int):(gG s id h p).1.sz<=s.sz+1:=by
 unfold gG;cases hc: !dN s||decide (aF s id<0) with
 |true=>simp
 |false=>
  rw[bu] at hc;have hr:=lM hc.2
  grind[fV,aF,id,default,wT,AH.sz,bPq,List.getD,List.getElem?_eq_getElem,AB.sz,List.length_set]
def appW (w:AA)(x:AF):AA:={w with Devices:=w.Devices++[x],Stolen:=w.Stolen++[false]}
theorem bNl {w:AA}(x:AF){d:Int}(h:aJ w d=true)(hn:w.Devices.length<6):aH (appW w x)=aH w:=by
 grind[appW,aH,List.length_append,List.length_singleton,bE,decide_eq_true,aJ]
theorem bPr {w:AA}(x:AF){d:Int}(h:aJ w d=true):aJ (appW w x) d=true:=by
 grind[aJ,appW,List.length_append,List.length_singleton]
theorem bIm {w:AA}(x:AF){d:Int}(h:aJ w d=true):aQ (appW w x) d=aQ w d:=by
 grind[aQ,appW,List.getD,List.getElem?_append_left,aJ]
theorem bW2 {w:AA}(x:AF){d:Int}(b:Int)(h:aJ w d=true)(hn:w.Devices.length<6):aG (appW w x) d b=(appW (aG w d b).1 x,(aG w d b).2):=by
 grind[aH,Bool.and_self,appW,List.set_append_left,bNl,bPr,bIm,aG,aJ]
theorem cBx {w:AA}(x:AF){d:Int}(h:aJ w d=true):upF (appW w x) d=(appW (upF w d).1 x,(upF w d).2):=by
 grind[dD,aQ,eU,appW,List.set_append_left,bIm,upF,aJ]
def bW3 {w:AA}(x:AF){d:Int}(h:aJ w d=true)(hn:w.Devices.length<6):fJ (appW w x) d=(appW (fJ w d).1 x,(fJ w d).2):=by
 grind[aG,k4,lW,aJ,cBx,upF,bW2,fJ]
theorem aLs (w:AA)(b k p:Int)(key:List AG->Int):(jG w b k p key).1.sz<=w.sz+14*(w.aAH.Log.length+1)/\(jG w b k p key).1.aAH.Log.length<=w.aAH.Log.length+1/\(jG w b k p key).1.Devices=w.Devices/\(jG w b k p key).1.Sites=w.Sites:=by
 grind[AA.sz,AP.sz,mZ,iI,bO,eX,sO,bW1,Rk,gY,aQ,qN,jG]
def mM (d:AF)(h:Int)(rm:Bool):AF:=(cB (cB d (aC 0) h rm).1 (aC 1) h rm).1
def fO (st:AN)(n:Int):Nat->List AB->List AB×Bool
 |_,[]=>([],true)
 |j,s::l=>bif (gG s 1 n (gL st (aC (j:Int)) n)).2&&(fO st n (j+1) l).2 then((gG s 1 n (gL st (aC (j:Int)) n)).1::(fO st n (j+1) l).1,true) else([],false)
def M9 (w:AA)(k:Int):AA:={w with Mail:=(rA w.Mail k 1 w.Now).1}
def add1 (w:AA)(b:Int):AA×Bool:=jG (aG w b 0).1 b 1 (bI (aX w.Seed (w.Devices.length:Int))) λ_=>(aQ (aG w b 0).1 b).Key
def aQn (w:AA)(b:Int):List AB×Bool:=fO (aX w.Seed (w.Devices.length:Int)) (w.Devices.length:Int) 0 (add1 w b).1.Sites
def oK (w:AA)(b:Int):AA×Bool:=fJ {(add1 w b).1 with Sites:=(aQn w b).1,Devices:=(add1 w b).1.Devices.set b.toNat (mM (aQ (add1 w b).1 b) (w.Devices.length:Int) false)} b
def Qn (w:AA)(b:Int):AA×Int:=aG (appW (oK w b).1 (gT (aX w.Seed (w.Devices.length:Int)))) (w.Devices.length:Int) 0
def aUp (w:AA)(b:Int):Bool:=(aH w&&(aJ w b&&(!bU w b&& !decide ((w.Devices.length:Int)>=6))))&&((aG w b 0).2==0&&((add1 w b).2&&((aQn w b).2&&((oK w b).2&&(Qn w b).2==0))))
def iJ (w:AA)(b:Int):AA×Bool:=bif aUp w b then(M9 (Qn w b).1 2,true) else(w,false)
theorem aYd (d:AF)(h:Int)(rm:Bool):(mM d h rm).sz<=d.sz+2:=by
 grind[mM,aC9,aC,cB]
def aQo {st:AN}{n:Int}:∀{j:Nat} {l:List AB},(fO st n j l).1.length<=l.length/\((fO st n j l).1.map AB.sz).sum<=(l.map AB.sz).sum+l.length
 |j,[]=>by simp[fO]
 |j,s::l=>by
  have h1:=aQo (st:=st) (n:=n) (j:=j+1) (l:=l)
  grind[gG,gL,aC,fO,List.length_cons,bT6]
def bT7 {w:AA}{b:Int}(h0:((aG w b 0).2==0)=true):(aJ (add1 w b).1 b=true/\(add1 w b).1.Devices.length=w.Devices.length)/\(add1 w b).1.sz<=16*w.sz+34/\(add1 w b).1.aAH.Log.length<=w.sz+1:=by
 grind[k2,k4,add1,aJ,jG,k3,aLs,aG,bI,aX,aQ,AA.sz,AP.sz,k1,k5,lW]
def jY (w:AA)(b:Int):AA:={(add1 w b).1 with Sites:=(aQn w b).1,Devices:=(add1 w b).1.Devices.set b.toNat (mM (aQ (add1 w b).1 b) (w.Devices.length:Int) false)}
def aZ6 {w:AA}{b:Int}(h0:((aG w b 0).2==0)=true):(aJ (jY w b) b=true/\(jY w b).Devices.length=w.Devices.length)/\(jY w b).sz<=32*w.sz+80/\(jY w b).aAH.Log.length<=w.sz+1:=by
 obtain⟨⟨h1,h2⟩,a,c⟩:=bT7 h0;have d:=aQo (st:=aX w.Seed (w.Devices.length:Int)) (n:=(w.Devices.length:Int)) (j:=0) (l:=(add1 w b).1.Sites)
 grind[jY,aQn,add1,AA.sz,List.length_set,aJ,aQ,List.getD,List.getElem?_eq_getElem,wT,AF.sz,mM,aYd]
theorem aYe (w:AA)(x:AF):(appW w x).sz=w.sz+x.sz+2:=by
 grind[appW,AA.sz,List.length_append,List.length_singleton]
theorem aYf (w:AA)(k:Int):(M9 w k).sz<=w.sz+1:=by
 grind[M9,AA.sz,AU.sz,bZh]
def bRv {w:AA}{b:Int}(h0:((aG w b 0).2==0)=true)(h:(oK w b).2=true):(oK w b).1.sz<=33*w.sz+602/\(oK w b).1.aAH.Log.length<=w.sz+1:=by obtain⟨_,h1,h2⟩:=aZ6 h0;obtain⟨a,c⟩:=aYc (w:=jY w b) (d:=b) h;exact⟨by show(fJ (jY w b) b).1.sz<=_;omega,by show(fJ (jY w b) b).1.aAH.Log.length<=_;rw[a];exact h2⟩
theorem bIn {α:Type}{p:α->Bool}:∀{l:List α} {i:Nat} (hi:i<l.length),i<(l.takeWhile p).length->p l[i]=true
 |x::l,0,_,h=>by
  simp only[cR] at h;cases hp:p x with
  |true=>exact hp
  |false=>rw[hp] at h;simp at h
 |x::l,i+1,hi,h=>by
  simp only[cR] at h;cases hp:p x with
  |true=>
   have a:i<(l.takeWhile p).length:=by simpa[hp] using h
   exact bIn (l:=l) (i:=i) (by simpa using hi) a
  |false=>rw[hp] at h;simp at h
theorem bIo {α:Type}{p:α->Bool}:∀{l:List α} (h:(l.takeWhile p).length<l.length),p (l[(l.takeWhile p).length]'h)=false
 |x::l,h=>by
  cases hp:p x with
  |true=>
   have a:(l.takeWhile p).length<l.length:=by simpa[cR,hp] using h
   simpa[cR,hp] using bIo a
  |false=>simp[cR,hp]
theorem aLt {α:Type}{p:α->Bool}{l:List α}:(l.takeWhile p).length<=l.length:=(List.takeWhile_prefix p).length_le
def bIp {α τ S:Type}{l:List α}(p:α->Bool)(fin:Nat->Option τ)(e:Nat->S){F:(S->Option τ)->S->Option τ}(hl:Qa l.length)
  (a:∀rec i (hi:i<l.length),F rec (e i)=bif p l[i] then rec (e (i+1)) else fin i) (b:∀rec,F rec (e l.length)=fin l.length):EV.bF FUEL F (e 0)=fin (l.takeWhile p).length:=by
 have go:∀(k i n:Nat),i+k=(l.takeWhile p).length->k<n->EV.bF n F (e i)=fin (l.takeWhile p).length:=by
  intro k;induction k with
  |zero=>
   intro i n hi hn;obtain⟨n,rfl⟩:∃m,n=m+1:=⟨n-1,by omega⟩
   grind[aLt,bIo,gD]
  |succ k c=>
   intro i n hi hn;obtain⟨n,rfl⟩:∃m,n=m+1:=⟨n-1,by omega⟩
   grind[gD,bIn,aLt]
 have:=aLt (p:=p) (l:=l);exact go (l.takeWhile p).length 0 FUEL (by omega) (by grind[fA])
def bIq {e:Int}{d:List Int}{l:List Int}{τ:Type}{x:τ}{F:(List AK×Nat->Option (τ⊕List AK))->List AK×Nat->Option (τ⊕List AK)}
  (a:∀rec i s (hi:i<l.length),s.length<=i->F rec (s,i)=bif !(jX l[i] (IntKind.i64.wrap (e+(i:Int))) d).2 then some (.inl x) else rec (s++[(jX l[i] (IntKind.i64.wrap (e+(i:Int))) d).1],i+1)) (b:∀rec s,F rec (s,l.length)=some (.inr s)):
  ∀(k i n:Nat) (s:List AK),i+k=l.length->k<n->s.length<=i->EV.bF n F (s,i)=some (bif (nE e d i (l.drop i)).2 then .inr (s++(nE e d i (l.drop i)).1) else .inl x)
 |0,i,n+1,s,h,_,_=>by
  have:i=l.length:=by omega
  subst this;rw[gD,b,dk];simp[nE]
 |k+1,i,n+1,s,h,hn,hs=>by
  have hi:i<l.length:=by omega
  rw[gD,a _ i s hi hs,cF hi,nE];cases hb:(jX l[i] (IntKind.i64.wrap (e+(i:Int))) d).2 with
  |false=>rfl
  |true=>rw[ah,ac,bIq a b k (i+1) n _ (by omega) (by omega) (by simp;omega)];cases(nE e d (i+1) (l.drop (i+1))).2<;>simp
def bPs (l:List AR):Nat:=(l.takeWhile λn=> !n.Seen).length
def bT8 {l:List AR}{x:AR}:bPs (l++[x])=bif l.any (λn=>n.Seen) then bPs l else bif x.Seen then l.length else l.length+1:=by
 induction l with
 |nil=>cases a:x.Seen<;>simp[bPs,a]
 |cons y l b=>
  grind[List.takeWhile_cons,Bool.not_false,List.length_cons,bPs]
def bIr {l:List AR}{F:(Int×Int->Option Int)->Int×Int->Option Int}(a:∀rec (k:Int) (i:Nat) (hi:i<l.length),F rec (k,(i:Int))=rec (bif l[i].Seen then(i:Int) else k,(i:Int)-1))(b:∀rec k,F rec (k,-1)=some k):
  ∀(n m:Nat) (k:Int),n<=l.length->n<m->EV.bF m F (k,(n:Int)-1)=some (bif (l.take n).any (λx=>x.Seen) then(bPs (l.take n):Int) else k)
 |0,m+1,k,_,_=>by rw[gD,show((0:Nat):Int)-1= -1 from rfl,b];simp
 |n+1,m+1,k,h,hm=>by
  have hn:n<l.length:=by omega
  rw[gD,show((n+1:Nat):Int)-1=(n:Int) by omega,a _ _ n hn,bIr a b n m _ (by omega) (by omega),cJ,aa hn];simp only[cX,ie,bT8,List.any_cons,List.any_nil,fw,cb,ic (Nat.le_of_lt hn)];cases(l.take n).any (λx=>x.Seen)<;>cases l[n].Seen<;>rfl
def bNm (l:List AR):(yC l:Int)=bif l.any (λx=>x.Seen) then(bPs l:Int) else 0:=by unfold yC bPs;cases l.any (λn=>n.Seen)<;>rfl
def bNn {l:List AR}(h:0<l.length):yC l<l.length:=by
 unfold yC;cases hs:l.any (λn=>n.Seen) with
 |false=>exact h
 |true=>
  obtain⟨x,b,hp⟩:=fi.1 hs;have:∀l:List AR,x∈l->(l.takeWhile λn=> !n.Seen).length<l.length:=by
   intro l;induction l with
   |nil=>simp
   |cons y l c=>
    intro h;cases a:y.Seen with
    |true=>simp[a]
    |false=>
     rcases bl.1 h with rfl|h
     all_goals simp[*]
  simp[*]
def bZi {τ S:Type}{l:List AR}(fin:Int->Option τ)(st:Nat->S){F:(S->Option τ)->S->Option τ}(hl:Qa l.length)(a:∀rec i (hi:i<l.length),F rec (st i)=bif l[i].Seen then fin (i:Int) else rec (st (i+1)))(b:∀rec,F rec (st l.length)=fin 0):EV.bF FUEL F (st 0)=fin (yC l:Int):=by
 have e:=bIp (l:=l) (λn=> !n.Seen) (λi=>bif decide (i<l.length) then fin (i:Int) else fin 0) st (F:=F) hl (by grind) (by simp[*]);rw[e,bNm];cases hs:l.any (λn=>n.Seen) with
 |true=>
  have h0:0<l.length:=by grind
  have:=bNn h0;unfold yC at this;rw[hs,ae] at this;rw[au this];rfl
 |false=>
  have c:∀l:List AR,l.any (λn=>n.Seen)=false->(l.takeWhile λn=> !n.Seen).length=l.length:=by intro l;induction l<;>simp_all
  simp[*]
def bW4 {e:Int}{d:List Int}{i:Nat}{l:List Int}(h:(nE e d i l).2=false):nE e d i l=([],false):=by cases l<;>grind[nE,jX]
theorem bPt {s:AB}{i:Int}(b:Qb s.sz)(h:decide (aF s i<0)=false):aN s.Accounts (aF s i)=some (s.Accounts.getD (aF s i).toNat default)/\Qb ((s.Accounts.getD (aF s i).toNat default).sz)/\(aF s i).toNat<s.Accounts.length:=by
 have hr:=lM (p:=λa:AH=>a.Id==i) (i:=0) (l:=s.Accounts) h
 grind[AB.sz,nP,aF,Ej,AH.sz]
def wU (d:AF)(log:List AG)(key:Int):AF×Bool:=bif !bO log||(!eX log d.Log||(decide (bA log<d.Epoch)|| !dH key)) then(d,false) else({d with Log:=log,Key:=key,Epoch:=bA log,Version:=0},true)
def aU (a:AH)(h:Int):Int:=jP (λc=>c.Handle==h) 0 a.Credentials
def iX (a:AH)(k:Int):AV:=a.Credentials.getD k.toNat default
def nT (a:AH)(h:Int):AH×Bool:=bif !aS a||(decide (aU a h<0)||(iX a (aU a h)).Cut) then(a,false) else({a with Credentials:=a.Credentials.set (aU a h).toNat {iX a (aU a h) with Cut:=true}},true)
def iK (s:AB)(k:Int):AH:=s.Accounts.getD k.toNat default
def jZ (h:Int)(s:AB):AB:=bif decide (aF s 1>=0) then {s with Accounts:=s.Accounts.set (aF s 1).toNat (nT (iK s (aF s 1)) h).1} else s
def rC (s e:Int):Int:=bJ s [233,e]
def kS (s:AN)(l:List AG):Int:=rC (bJ s.Seed [311]) (bA l)
def nU (w:AA)(b:Int):AA:=(aG w b 0).1
def aVe (w:AA)(b t:Int):List AG:=(gY (nU w b).aAH.Log 2 (bI (aQ w t).Store) (aQ (nU w b) b).Store).1
def nV (w:AA)(b t:Int):AA×Bool:=jG (nU w b) b 2 (bI (aQ w t).Store) (kS (aQ (nU w b) b).Store)
def aQp (w:AA)(b t:Int):AF×Bool:=wU (aQ (nU w b) b) (aVe w b t) (kS (aQ (nU w b) b).Store (aVe w b t))
def aZ7 (w:AA)(b t:Int):AA:={(nV w b t).1 with Devices:=(nV w b t).1.Devices.set b.toNat (mM (aQp w b t).1 t true),Sites:=(nV w b t).1.Sites.map (jZ t)}
def aVf (w:AA)(b t:Int):AA×Bool:=upF (aZ7 w b t) b
def xP (w:AA)(b t:Int):AA×Bool:=bif (nV w b t).2&&((aQp w b t).2&&(aVf w b t).2) then(M9 (aVf w b t).1 4,true) else(w,false)
def gZ (w:AA)(b t:Int):AA×Bool:=bif (aG w b 0).2==0&&(!bU w b&&(!(b==t)&&jS w t)) then xP w b t else(w,false)
theorem bNo (d:AF)(l:List AG)(k:Int):(wU d l k).1.sz<=d.sz+l.length:=by
 grind[bO,eX,decide,bA,dH,AF.sz,wU]
theorem bPu (a:AH)(h:Int):(nT a h).1.sz=a.sz:=by
 grind[aS,decide,aU,iX,AH.sz,List.length_set,nT]
theorem bPv (h:Int)(s:AB):(jZ h s).sz=s.sz:=by
 unfold jZ;cases hc:decide (aF s 1>=0) with
 |false=>rfl
 |true=>
  have h0:decide (aF s 1<0)=false:=by simp_all
  have hr:=lM h0
  grind[AB.sz,List.length_set,iK,aF,List.getD,List.getElem?_eq_getElem,bPu,wT,AH.sz,nT]
theorem bNp (h:Int)(l:List AB):((l.map (jZ h)).map AB.sz).sum=(l.map AB.sz).sum:=by induction l<;>grind[bPv]
def bT9 {w:AA}{b t:Int}(h0:((aG w b 0).2==0)=true):(aJ (nU w b) b=true/\(nU w b).Devices.length=w.Devices.length/\(nU w b).aAH=w.aAH/\(nU w b).sz<=2*w.sz+20)/\(aVe w b t).length<=w.sz+1/\(aJ (nV w b t).1 b=true/\(nV w b t).1.Devices=(nU w b).Devices)/\(nV w b t).1.sz<=16*w.sz+34/\(nV w b t).1.Sites=(nU w b).Sites:=by
 obtain⟨⟨k1,k2⟩,k3,k4,k5⟩:=lW h0;have a:w.aAH.Log.length<=w.sz:=by grind[AA.sz,AP.sz]
 grind[aJ,jG,nU,bI,aQ,kS,k4,k3,aVe,nV,k6,k5,aG,k2,aLs,qN]
def iY (b:AM)(id:Int):Int:=bN b.Seed [197,id]
def bRw (b:AM)(acc now:Int):AY:=⟨b.Next,acc,IntKind.i64.wrap (now+5)⟩
def lX (b:AM)(acc now:Int):AM×AY×Bool:=bif dB b&&(!(b.Next==1000000)&&(bE acc 0 1000000&&bE now 0 1000000)) then(⟨b.Seed,IntKind.i64.wrap (b.Next+1),(bif decide ((b.Open.length:Int)>=16) then b.Open.drop 1 else b.Open)++[bRw b acc now]⟩,bRw b acc now,true) else(b,⟨0,0,0⟩,false)
def bP (b:AM)(id:Int):Int:=jP (λc=>c.Id==id) 0 b.Open
def aQq (b:AM)(k:Int):AY:=b.Open.getD k.toNat default
def yD (b:AM)(id acc now:Int):AM×Bool:=bif !dB b||decide (bP b id<0) then(b,false) else(⟨b.Seed,b.Next,b.Open.take (bP b id).toNat++b.Open.drop ((bP b id).toNat+1)⟩,(aQq b (bP b id)).aAF==acc&&decide (now<=(aQq b (bP b id)).Until))
def pQ (s:AB)(id now:Int):AB×Int×Int×Bool:=bif dN s&&(!decide (aF s id<0)&&(lX s.Book id now).2.2) then({s with Book:=(lX s.Book id now).1},(lX s.Book id now).2.1.Id,iY (lX s.Book id now).1 (lX s.Book id now).2.1.Id,true) else(s,0,0,false)
def yE (s:AN):Bool:=bE s.Vendor 1 9&&(bE s.Serial 0 1000000&&(dH s.Seed&&bE s.Counter 0 1000000))
def cAh (s:AN):AN:={s with Counter:=IntKind.i64.wrap (s.Counter+1)}
def lY (s:AN)(site:ByteArray)(h:Int)(m:List Int):AN×Int×Bool:=bif yE s&& !(s.Counter==1000000) then(cAh s,Rh (dV s site h) (m++[(cAh s).Counter]),true) else(s,0,false)
def aW (a:A0):List Int:=[199,cO a.Site,pY 211 a.aAL,a.aAK,a.Handle,bif a.Present then 1 else 0]
def N7 (j:Int):AQ:=⟨true,⟨#[119,119,119,46]⟩++aC j,443⟩
def aIe (j:Int):AQ:=⟨true,⟨#[108,111,103,105,110,46]⟩++aC j++⟨#[46,101,118,105,108,46,110,101,116]⟩,443⟩
def cAi (j:Int):AQ:=⟨true,aC j,443⟩
def mO (k:Nat):AQ:=match k with|0=>N7 0|1=>N7 1|2=>cAi 0|3=>cAi 1|4=>aIe 0|_=>aIe 1
def Aj (k:Nat):ByteArray:=⟨#[104,116,116,112,115,58,47,47]⟩++(mO k).Host
def cDp:List UInt8->List UInt8->Bool
 |[],b=>b==[]
 |x::a,b=>b==x::a||cDp a b
def oM (o:AQ)(z:ByteArray):Bool:=cDp (46::o.Host.data.toList) (46::z.data.toList)
def sP (o:AQ)(s:ByteArray):Prop:=(∃k:Nat,k<6/\o=mO k)/\∃j:Int,(j=0\/j=1)/\s=aC j
noncomputable instance (o:AQ) (s:ByteArray):Decidable (sP o s):=Classical.propDecidable _
def gU (o:AQ):Prop:=∃k:Nat,k<6/\o=mO k
def gU.p {o:AQ}(h:gU o){j:Int}(a:j=0\/j=1):sP o (aC j):=⟨h,j,a,rfl⟩
def bKl {j:Int}(a:j=0\/j=1):gU (N7 j):=by
 rcases a with rfl|rfl
 ·exact⟨0,by decide,rfl⟩
 ·exact⟨1,by decide,rfl⟩
noncomputable instance (o:AQ):Decidable (gU o):=Classical.propDecidable _
def kW (o:AQ):ByteArray:=⟨#[104,116,116,112,115,58,47,47]⟩++o.Host
def bEu (s:ByteArray):Prop:=s=⟨#[]⟩\/∃k:Nat,k<4/\s=Aj k
noncomputable instance (s:ByteArray):Decidable (bEu s):=Classical.propDecidable _
def oN (s:ByteArray):AQ×Bool:=bif decide (s.size=0) then(⟨false,⟨#[]⟩,0⟩,false) else(⟨true,s.extract 8 s.size,443⟩,true)
def bKm (s:AN)(o:AQ)(site:ByteArray)(h a:Int)(p:Bool):A0:=⟨site,kW o,a,h,p,0,0⟩
def bUa:A0:=⟨⟨#[]⟩,⟨#[]⟩,0,0,false,0,0⟩
def qG (s:AN)(o:AQ)(site:ByteArray)(h a:Int)(p:Bool):AN×A0×Bool:=bif oM o site&&(lY s site h (aW (bKm s o site h a p))).2.2 then((lY s site h (aW (bKm s o site h a p))).1,{bKm s o site h a p with Counter:=(lY s site h (aW (bKm s o site h a p))).1.Counter,Signature:=(lY s site h (aW (bKm s o site h a p))).2.1},true) else(s,bUa,false)
def AsP (a:A0)(site:ByteArray):Prop:=∃j:Int,(j=0\/j=1)/\site=aC j/\(a=bUa\/(a.Site=site/\∃k:Nat,k<4/\a.aAL=Aj k/\oM (mO k) site=true))
noncomputable instance (a:A0) (s:ByteArray):Decidable (AsP a s):=Classical.propDecidable _
def kX (b:Int)(a:A0)(site:ByteArray)(c cnt:Int):Int:=bif !(a.Site.toList==site.toList) then 1 else bif !a.Present then 2 else bif !(a.aAK==c) then 3 else bif !kR b (aW a++[a.Counter]) a.Signature then 5 else bif decide (a.Counter<=cnt) then 4 else 0
def nW (a:AH)(x:A0)(site:ByteArray)(b:Int):AH×Int:=bif !aS a||(decide (aU a x.Handle<0)||(iX a (aU a x.Handle)).Cut) then(a,5) else({a with Credentials:=bif kX (iX a (aU a x.Handle)).Public x site b (iX a (aU a x.Handle)).Counter==0 then a.Credentials.set (aU a x.Handle).toNat {iX a (aU a x.Handle) with Counter:=x.Counter} else bif kX (iX a (aU a x.Handle)).Public x site b (iX a (aU a x.Handle)).Counter==4 then a.Credentials.set (aU a x.Handle).toNat {iX a (aU a x.Handle) with Cut:=true} else a.Credentials},kX (iX a (aU a x.Handle)).Public x site b (iX a (aU a x.Handle)).Counter)
def sQ (a:AH)(m:Int):Bool:=aS a&&(decide (a.Minimum<=m)&&(decide (m<=3)&&(!(m==3)||a.Credentials.any λc=> !c.Cut)))
def qH (s:AB)(id b now:Int)(a:A0):AB×Int×Int:=bif !dN s||decide (aF s id<0) then(s,1,0) else bif !(yD s.Book b id now).2 then({s with Book:=(yD s.Book b id now).1},2,0) else bif !sQ (iK s (aF s id)) 3 then({s with Book:=(yD s.Book b id now).1},3,0) else bif !((nW (iK s (aF s id)) a s.Name (iY s.Book b)).2==0) then({s with Book:=(yD s.Book b id now).1,Accounts:=s.Accounts.set (aF s id).toNat (nW (iK s (aF s id)) a s.Name (iY s.Book b)).1},4,(nW (iK s (aF s id)) a s.Name (iY s.Book b)).2) else({s with Book:=(yD s.Book b id now).1,Accounts:=s.Accounts.set (aF s id).toNat (nW (iK s (aF s id)) a s.Name (iY s.Book b)).1,Logins:=s.Logins++[id]},0,0)
def qO (w:AA)(j:Int):AB:=w.Sites.getD j.toNat default
def wV (w:AA)(j:Int):AB×Int×Int×Bool:=pQ (qO w j) 1 w.Now
def aQr (w:AA)(d j:Int)(o:AQ):AN×A0×Bool:=qG (aQ w d).Store o (aC j) d (wV w j).2.2.1 true
def bEv (w:AA)(d j:Int)(o:AQ):AB×Int×Int:=qH (wV w j).1 1 (wV w j).2.1 w.Now (aQr w d j o).2.1
def bW5 (w:AA)(d j:Int)(o:AQ):AA:={w with Devices:=w.Devices.set d.toNat {aQ w d with Store:=(aQr w d j o).1},Sites:=w.Sites.set j.toNat (bEv w d j o).1}
def dA (w:AA)(d j:Int):Bool:=aH w&&(aJ w d&&iT w j)
def wW (w:AA)(d j:Int)(o:AQ):AA×A0×Int:=bif !dA w d j then(w,bUa,1) else bif !(wV w j).2.2.2 then(w,bUa,1) else bif !((bEv w d j o).2.1==0) then(bW5 w d j o,(aQr w d j o).2.1,2) else(M9 (bW5 w d j o) 1,(aQr w d j o).2.1,0)
def oO (w:AA)(d j:Int)(o:AQ):AA×Int:=((wW w d j o).1,(wW w d j o).2.2)
def sS (w:AA)(d j:Int):AA×Int:=bif dA w d j&& !bU w d then oO w d j (N7 j) else(w,1)
def iA (o:AQ):Bool:=fB o.Host&&bE o.Port 1 65535
def C8 (m:Int):Nat->Int->Int->Int->Int
 |0,_,_,s=>s
 |k+1,b,n,s=>if n>0 then C8 m k ((IntKind.i64.wrap (b*b)).tmod m) (n/2) (bif n%2==1 then(IntKind.i64.wrap (s*b)).tmod m else s) else s
def mP (x:Int):Bool:=bE x 1 2038&&C8 2039 11 x 1019 1==1
def eY (g n:Int):Int:=bif mP g then C8 2039 11 g (bQ n 1019) 1 else 0
def aYg (l v:Int):Int:=eY 4 (IntKind.i64.wrap (1+((IntKind.i64.wrap (bN l [89,v]*bN l [89,v])).tmod 2147483647).tmod 1018))
def Lb (e l:Int):Int:=jF (bN e [157,l])
def bNq (k m:Int):Int:=bif bE k 0 2147483647 then bU4 .i64 k (bJ m [251]) else 0
def aLu (o s:Int):Int:=bN o [257,s]
def Rl (f:Int->Int)(l:List Int)(j:Nat)(x:Int):Bool:=(l.take j).any λq=>f q==f x
def aLv (s:AX)(e:Int):Int:=bif mP e&&(!(e==1)&&bE s.Value 0 1018) then eY e s.Value else 0
def kY (k:AZ)(e:Int):AZ×Int×Bool:=bif iM k&&(!(k.Guesses==k.Limit)&&(mP e&& !(e==1))) then({k with Guesses:=IntKind.i64.wrap (k.Guesses+1)},aLv k.aAQ e,true) else(k,0,false)
def bZj (l:List AZ):List AZ:=bif decide ((l.length:Int)>30) then l.drop 1 else l
def pF (h:AC)(e:Int):AC×Int×Bool:=bif decide (qZ h.State<h.Monotonic)|| !(kY h.State e).2.2 then(h,0,false) else(⟨(kY h.State e).1,bZj (h.Saved++[h.State]),qZ (kY h.State e).1⟩,(kY h.State e).2.1,true)
def eP (l i b:Int):Int:=bif bQ b 1019==0 then 0 else eY (aYg l i) b
def N8 (hs:List AC)(a:List Int)(i:Nat)(c:Int):Bool:=(decide (c<0)||decide (c>=(hs.length:Int)))||Rl (λq=>q) a i c
def kC (hs:List AC)(a:List Int):Bool:= !dR (N8 hs a) 0 a
def bKn (e:Int)(s:List AC×List Int×List Int)(c:Int):List AC×List Int×List Int:=
 (s.1.set c.toNat (pF (s.1.getD c.toNat default) e).1,bif (pF (s.1.getD c.toNat default) e).2.2 then s.2.1++[(pF (s.1.getD c.toNat default) e).1.State.aAQ.Index] else s.2.1,bif (pF (s.1.getD c.toNat default) e).2.2 then s.2.2++[(pF (s.1.getD c.toNat default) e).2.1] else s.2.2)
def oP (hs:List AC)(a:List Int)(e:Int):List AC×List Int×List Int:=a.foldl (bKn e) (hs,[],[])
def yF (n:Int):Int:=bif bQ n 1019==0 then 0 else C8 1019 11 (bQ n 1019) 1017 1
def aLw (l:List Int)(k a w:Int)(j:Nat):Int:=bif (j:Int)==k then w else(IntKind.i64.wrap ((IntKind.i64.wrap (w*bQ (IntKind.i64.wrap (bQ a 1019-bQ (l.getD j 0) 1019)) 1019)).tmod 1019*yF (IntKind.i64.wrap (bQ (l.getD k.toNat 0) 1019-bQ (l.getD j 0) 1019)))).tmod 1019
def En (l:List Int)(k a:Int):Int:=bif (decide (k<0)||decide (k>=(l.length:Int)))||dR (Rl (λq=>bQ q 1019) l) 0 l then 0 else(List.range l.length).foldl (aLw l k a) 1
def kJ (a b:Int):Int:=bif mP a&&mP b then(IntKind.i64.wrap (a*b)).tmod 2039 else 0
def oQ (ix vs:List Int)(i:Nat)(x:Int):Bool:= !bE x 1 7||(!mP (vs.getD i 0)||Rl (λq=>q) ix i x)
def bRx (ix vs:List Int):Int:=(List.range vs.length).foldl (λo i=>kJ o (eY (vs.getD i 0) (En ix (i:Int) 0))) 1
def kZ (ix vs:List Int):Int×Bool:=bif (!(ix.length==vs.length)||ix.length==0)||dR (oQ ix vs) 0 ix then(0,false) else(bRx ix vs,true)
def aLx (c b:Int):Int:=bif bQ b 1019==0 then 0 else eY c (yF b)
def aIf (v:A3)(o:Int):Int×Bool:=bif aLu o v.Salt==v.Check then(bNq v.Masked o,true) else(0,false)
def iZ (v:A3)(hs:List AC)(a:List Int)(pin b:Int):List AC×List Int×List Int:=oP hs a (eP v.Salt pin b)
def aZ8 (hs:List AC)(a:List Int)(pin b:Int):Bool:=kC hs a&&(!(bQ b 1019==0)&&bE pin 0 9999)
def Ba (v:A3)(hs:List AC)(a:List Int)(pin b:Int):List AC×Int×Bool:=
 bif !aZ8 hs a pin b then(hs,0,false) else
 bif decide ((a.length:Int)<v.Threshold)||(decide ((iZ v hs a pin b).2.2.length<a.length)|| !(kZ (iZ v hs a pin b).2.1 (iZ v hs a pin b).2.2).2) then((iZ v hs a pin b).1,0,false) else
  ((iZ v hs a pin b).1,aIf v (Lb (aLx (kZ (iZ v hs a pin b).2.1 (iZ v hs a pin b).2.2).1 b) v.Salt))
def Lc (v:A3)(hs:List AC)(a:List Int)(pin b:Int)(i:Nat):AC×Int×Bool:=pF (((a.take i).foldl (bKn (eP v.Salt pin b)) (hs,([]:List Int),([]:List Int))).1.getD (a.getD i 0).toNat default) (eP v.Salt pin b)
def sU (v:A3)(hs:List AC)(a:List Int)(pin b:Int)(n:Nat):List Int:=(List.range n).map λi=>(Lc v hs a pin b i).1.State.aAQ.Index
def sW (v:A3)(hs:List AC)(a:List Int)(pin b:Int)(n:Nat):List Int:=(List.range n).map λi=>(Lc v hs a pin b i).2.1
def bRy (v:A3)(hs:List AC)(a:List Int)(pin b:Int):List Int:=sU v hs a pin b a.length
def bRz (v:A3)(hs:List AC)(a:List Int)(pin b:Int):List Int:=sW v hs a pin b a.length
def bW6 (v:A3)(hs:List AC)(a:List Int)(pin b:Int):Bool:=aZ8 hs a pin b&&(iZ v hs a pin b).2.2.length==a.length
def bR0 (v:A3)(hs:List AC)(a:List Int)(pin b:Int):List AC×Int×Bool×Bool:=((Ba v hs a pin b).1,(Ba v hs a pin b).2.1,(Ba v hs a pin b).2.2,bW6 v hs a pin b)
def bW7 (w:AA):Int:=IntKind.i64.wrap (1+(bJ w.Seed [313,w.Now]).tmod 1018)
def iN (w:AA)(a:List Int)(pin:Int):AA×Int×Bool:=bif !aH w then(w,0,false) else
 (M9 {w with Hosts:=(Ba w.aAP w.Hosts a pin (bW7 w)).1} 5,(Ba w.aAP w.Hosts a pin (bW7 w)).2)
def Fx (w:AA):List Int:=(List.range (min w.aAP.Threshold ((w.Hosts.length:Int)+1)).toNat).map λ(i:Nat)=>(i:Int)
def xQ (w:AA)(pin:Int):AA×Bool:=((iN w (Fx w) pin).1,(iN w (Fx w) pin).2.2)
def aLy {f:Int->Int}{l:List Int}{j:Nat}(c:j<l.length)(hl:l.length<=1099511627776){τ:Type}(a b:τ){F:(Nat->Option τ)->Nat->Option τ}
  (d:∀rec i (hi:i<j),F rec i=bif f (l[i]'(by omega))==f l[j] then some a else rec (i+1)) (e:∀rec,F rec j=some b):EV.bF FUEL F 0=some (bif Rl f l j l[j] then a else b):=by
 have hlen:(l.take j).length=j:=by grind
 exact kN (l:=l.take j) (λq=>f q==f l[j]) a b (by omega) (by simp_all) (by simp[*])
def bW8 {p:Nat->Int->Bool}{l:List Int}{i:Nat}(hi:i<l.length)(h:dR p 0 (l.take i)=false)(h2:p i l[i]=false):dR p 0 (l.take (i+1))=false:=by
 grind[List.length_take,qB]
def cBy {p:Nat->Int->Bool}{l:List Int}{i:Nat}(hi:i<l.length)(h:p i l[i]=true):dR p 0 l=true:=(by grind[qB])
def bZk:((List.range 1019).all λ(x:Nat)=>x==0||((x:Int)*C8 1019 11 (x:Int) 1017 1)%1019==1&&bE (C8 1019 11 (x:Int) 1017 1) 1 1018)=true:=by kernel_rfl
def cBz {x:Int}(h0:0<x)(h1:x<1019):(x*C8 1019 11 x 1017 1)%1019=1/\1<=C8 1019 11 x 1017 1/\C8 1019 11 x 1017 1<=1018:=by have:=cI.1 bZk x.toNat (by grind);rw[show((x.toNat:Nat):Int)=x by omega,cp.2 (show x.toNat≠0 by omega),cy,ab] at this;have hr:=sG this.2;simp_all
def bW9 {x m n:Int}(hm:0<=m/\m<1019)(hn:0<=n/\n<1019)(h1:(x*m)%1019=1)(h2:(x*n)%1019=1):m=n:=by
 have e:n*(x*m)=m*(x*n):=by rw[<-fv,<-fv,fS n x,fS m x,fv,fv,fS n m]
 have a:x*m=1+1019*(x*m/1019):=by omega
 have b:x*n=1+1019*(x*n/1019):=by omega
 rw[a,b,Int.mul_add,Int.mul_add,Int.mul_one,Int.mul_one] at e
 grind
def bXa {n:Int}:bQ n 1019=n%1019:=cu (by decide)
def bUb {n m:Int}(h:bQ n 1019=bQ m 1019):yF n=yF m:=by unfold yF;rw[h]
def bR1 (h:AC)(e:Int):(pF h e).1.sz<=h.sz+1:=by
 grind[decide,qZ,kY,AC.sz,bZj,List.length_drop,List.length_append,List.length_cons,List.length_nil,pF]
def lN (e:Int)(hs:List AC)(a:List Int)(i:Nat):List AC×List Int×List Int:=(a.take i).foldl (bKn e) (hs,[],[])
def Fy {e:Int}{hs:List AC}{a:List Int}{i:Nat}(hi:i<a.length):lN e hs a (i+1)=bKn e (lN e hs a i) a[i]:=by
 grind[List.take_add_one,List.getElem?_eq_getElem,lN]
def cB4 {hs:List AC}{h:AC}(hm:h∈hs):h.sz<=Fu AC.sz hs:=by
 grind[aH6,AC.sz]
structure AskIn (B:Nat) (hs:List AC) (i:Nat) (s:List AC×List Int×List Int):Prop where
 len:s.1.length=hs.length
 sz:∀h∈s.1,h.sz<=B+i
 eq:s.2.1.length=s.2.2.length
 le:s.2.2.length<=i
def aDa {hs:List AC}{a:List Int}(h:kC hs a=true){i:Nat}(hi:i<a.length):0<=a[i]/\a[i]<(hs.length:Int):=by
 grind[Fv,Bool.or_eq_false_iff,N8,Bool.not_eq_true',qB,kC]
def N9 {e:Int}{hs:List AC}{a:List Int}(h:kC hs a=true):∀i,i<=a.length->AskIn (Fu AC.sz hs) hs i (lN e hs a i)
 |0,_=>⟨rfl,λh hm=>by have:h∈hs:=hm;have:=cB4 this;omega,rfl,ao _⟩
 |i+1,hi=>by
  obtain⟨h1,h2,c,d⟩:=N9 (e:=e) h i (by omega);have hc:=aDa h (i:=i) hi;rw[Fy hi];generalize lN e hs a i=s at*;have hk:a[i].toNat<s.1.length:=by omega
  have hg:s.1.getD a[i].toNat default=s.1[a[i].toNat]:=by simp[List.getD,aa hk]
  have f:=h2 _ (cx hk);have j:=bR1 s.1[a[i].toNat] e;unfold bKn;rw[hg];refine⟨by simp[h1],λx b=> ?_,?_,?_⟩
  ·rcases iv b with b|rfl
   ·have:=h2 x b;omega
   ·omega
  ·cases(pF s.1[a[i].toNat] e).2.2<;>simp[c]
  ·cases(pF s.1[a[i].toNat] e).2.2<;>simp<;>omega
def aIg (w:AA):(Fx w).length<=w.Hosts.length+1:=by
 grind[List.length_map,List.length_range,Fx]
def bNr {α:Type}[Inhabited α]{f:α->Nat}{x:α}:∀{l:List α} {i:Nat},i<l.length->f x<=f (l.getD i default)+1->((l.set i x).map f).sum<=(l.map f).sum+1
 |y::l,0,_,h=>by
  simp only[List.getD,e8,cV] at h;simp only[gq,bw,dz];omega
 |y::l,i+1,hi,h=>by
  have:=bNr (f:=f) (l:=l) (i:=i) (x:=x) (by simpa using hi) (by simpa[List.getD] using h);simp only[fo,bw,dz];omega
def bR2 {e:Int}{hs:List AC}{a:List Int}(h:kC hs a=true):∀i,i<=a.length->((lN e hs a i).1.map AC.sz).sum<=(hs.map AC.sz).sum+i
 |0,_=>ao _
 |i+1,hi=>by
  have c:=bR2 (e:=e) h i (by omega);have b:=N9 (e:=e) h i (by omega);have hc:=aDa h (i:=i) hi;rw[Fy hi];generalize lN e hs a i=s at*;have hk:a[i].toNat<s.1.length:=by have:=b.len;omega
  have:=bNr (f:=AC.sz) hk (bR1 (s.1.getD a[i].toNat default) e);unfold bKn;simp only;omega
theorem bR3 (v:A3)(hs:List AC)(a:List Int)(pin b:Int):(Ba v hs a pin b).1.length=hs.length/\((Ba v hs a pin b).1.map AC.sz).sum<=(hs.map AC.sz).sum+a.length:=by
 unfold Ba;cases hm:aZ8 hs a pin b with
 |false=>simp
 |true=>
  have hc:kC hs a=true:=by
   grind[aZ8]
  have hs1:=bR2 (e:=eP v.Salt pin b) hc a.length (ao _);have c:=(N9 (e:=eP v.Salt pin b) hc a.length (ao _)).len;unfold lN at hs1 c;rw[cq] at hs1 c;simp only[ah,ac];cases decide ((a.length:Int)<v.Threshold)||(decide ((iZ v hs a pin b).2.2.length<a.length)|| !(kZ (iZ v hs a pin b).2.1 (iZ v hs a pin b).2.2).2)<;>exact⟨c,hs1⟩
def bZl (w:AA)(a:List Int)(pin:Int):(iN w a pin).1.sz<=w.sz+a.length+1:=by
 grind[aH,Bool.not_false,q1,q2,bR3,bW7,aYf,Ba,Bool.not_true,AA.sz,iN]
def wX (w:AA)(d:Int):AA×Bool:=bif dA w d 0&& !bU w d then({w with Stolen:=w.Stolen.set d.toNat true},true) else(w,false)
def kD (b:AM)(now:Int):AM:=bif dB b then {b with Open:=b.Open.filter λc=>decide (c.Until>=now)} else b
def uV (w:AA):AA:={w with Now:=IntKind.i64.wrap (w.Now+1)}
def Rm (w:AA):AA×Bool:=bif aH (uV w) then({uV w with Sites:=w.Sites.map λs=>{s with Book:=kD s.Book (uV w).Now}},true) else(w,false)
def Ga (w:AA)(d j:Int):AA×Int:=bif dA w d j&&bU w d then oO w d j (N7 j) else(w,1)
def kK (w:AA)(d j:Int):AA×Int:=bif dA w d j&& !bU w d then oO w d j (aIe j) else(w,1)
def cE9:ByteArray:=⟨#[97,46,110,101,116]⟩
def bKo (w:AA)(k d o v:Int)(f:Bool):AA×Bool:=
 bif !aH w then(w,false) else
 bif k==1 then Rm w else
 bif k==2 then((sS w d o).1,(sS w d o).2==0) else
 bif k==3 then((kK w d o).1,(kK w d o).2==0) else
 bif k==4 then wX w d else
 bif k==5 then((Ga w d o).1,(Ga w d o).2==0) else
 bif k==6 then iJ w d else
 bif k==7 then gZ w d o else
 bif k==8 then Ri w d cE9 v f else
 bif k==9 then fJ w d else
 bif k==10 then((aG w d v).1,(aG w d v).2==0) else
 bif k==11 then xQ w v else
 bif k==12 then fD w else
 bif k==13 then fU w o v else(w,false)
def cDq (b:AO):Prop:=∀x∈b.Boxes,aT x.Data
def cB5 (c:AP):Prop:=cDq c.Boxes/\∀s∈c.History,aT s.Data
instance (b:AO):Decidable (cDq b):=inferInstanceAs (Decidable (∀x∈b.Boxes,aT x.Data))
instance (c:AP):Decidable (cB5 c):=inferInstanceAs (Decidable (_/\_))
def Xc (w:AA)(d j:Int)(h:ByteArray):AA×Int:=bif dA w d j&& !bU w d then oO w d j ⟨true,h,443⟩ else(w,1)
def Qo (w:AA)(d j:Int)(h:ByteArray):Prop:=dA w d j=true->gU ⟨true,h,443⟩
noncomputable instance (w:AA) (d j:Int) (h:ByteArray):Decidable (Qo w d j h):=Classical.propDecidable _
def aIh (w:AA)(e:AS):AA×Bool:=
 bif e.Kind==2 then((sS w e.Device e.Other).1,(sS w e.Device e.Other).2==0) else
 bif e.Kind==3 then((kK w e.Device e.Other).1,(kK w e.Device e.Other).2==0) else((Ga w e.Device e.Other).1,(Ga w e.Device e.Other).2==0)
def aZ9 (w:AA)(e:AS):AA×Bool:=
 bif e.Kind==11 then xQ w e.Value else bif e.Kind==12 then fD w else bif e.Kind==13 then fU w e.Other e.Value else(w,false)
def evF (w:AA)(e:AS):AA×Bool:=bKo w e.Kind e.Device e.Other e.Value e.Flag
def runN (w:AA)(l:List AS):Nat->AA
 |0=>w
 |k+1=>(evF (runN w l k) (l.getD k default)).1
def Yi (w:AA)(l:List AS):Prop:=Qa w.sz/\∀k,k<min l.length 60->(runN w l k).sz<=99000000
noncomputable instance (w:AA) (l:List AS):Decidable (Yi w l):=Classical.propDecidable _
def flW (w:AA):Int×Int×List AF×List Bool×List AG×Int×List AK×List AJ×List AB×Int×Int×Int×Int×List AC×Int×List AR:=(w.Now,w.Seed,w.Devices,w.Stolen,w.aAH.Log,w.aAH.Boxes.Epoch,w.aAH.Boxes.Boxes,w.aAH.History,w.Sites,w.aAP.Salt,w.aAP.Threshold,w.aAP.Check,w.aAP.Masked,w.Hosts,w.Pin,w.Mail.Notices)
def bAa (w:AA)(l:List AS)(k:Nat):Bool:=(evF (runN w l k) (l.getD k default)).2
def uW (w:AA)(l:List AS):List Bool:=(List.range (min l.length 60)).map (bAa w l)
def bEw (q:Int)(w:AA)(l:List AS):Nat->Nat
 |0=>0
 |k+1=>bEw q w l k+bif bAa w l k&&(l.getD k default).Kind==q then 1 else 0
def bPw (w:AA)(l:List AS)(q:Int):Int:=bEw q w l (min l.length 60)
def cntF (w:AA)(j:Int):Int:=bif iT w j then((w.Sites.getD j.toNat default).Logins.length:Int) else 0
end Go.VK
