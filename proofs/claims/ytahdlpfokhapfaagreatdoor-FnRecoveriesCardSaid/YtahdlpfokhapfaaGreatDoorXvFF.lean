import Derived.Test.YtahdlpfokhapfaaGreatDoorEVyltod
import Derived.Test.YtahdlpfokhapfaaGreatDoorXvS
/- Printed by wip/tools: models, walks, proofs. -/
set_option linter.all false
set_option maxRecDepth 100000
set_option maxHeartbeats 4000000
namespace Go.VK
open Go.RowKit Go.Proofs D
def iE (k:AU):Int:=IntKind.i64.wrap (IntKind.i64.wrap (k.Epoch*1000)+k.Guesses)
theorem aR3 {h v:Int}(h0:0<=h)(h1:h<2147483647):0<=hstep h v/\hstep h v<2147483647:=by
 grind[Int.tmod_nonneg,Int.tmod_lt_of_pos,aH,bJ,hstep,lJ]
def aR4 (l:List Int):0<=tN l/\tN l<2147483647:=by
 unfold tN
 suffices ∀(l:List Int) (h:Int),0<=h->h<2147483647->0<=l.foldl hstep h/\l.foldl hstep h<2147483647 from(by grind)
 intro l;induction l<;>grind[aR3]
theorem mD (k:Int)(l:List Int):0<=bH k l/\bH k l<2147483647:=aR4 _
def aPk (a b:Int):Int:=bif decide (b>a) then b else a
def Kj (a:List Int)(r:List (List Int)):List Int:=a++r.flatten
def gQ (n:Int):Int:=bif n==0 then 1 else n
def bQ (n:Int):Bool:=bD n 1 2147483646
def Y1 (b:List Int):List Int:=[(b.length:Int)]++b.map IntKind.i64.wrap
def aJ (seed:Int)(l:List Int):Int:=gQ (bH seed ([151]++l))
def Bf (k:Int)(s:ByteArray):Int:=gQ (bH k (Y1 (bM s)))
def fH (p:Int):Int:=bif !(bQ p) then 0 else(IntKind.i64.wrap (p*48271)).tmod 2147483647
def iU (s:AO):Int:=aJ s.Seed [181]
def bO (s:AO):Int:=fH (iU s)
def gT (l:List Int)(x:Int):Bool:=l.any λe=>e==x
def fJ (log:List AD)(p:Int):Bool:=log.any λe=>e.Kind==2&&e.Device==p
def jK (s:List Int)(e:AD):List Int:=
 bif e.Kind==1 then(bif s.contains e.Device then s else s++[e.Device]) else bif e.Kind==2 then s.filter (λd=>d !=e.Device) else s
def aD (log:List AD):List Int:=log.foldl jK []
def aK (log:List AD):Int:=log.foldl (λn e=>bif e.Kind==2 then IntKind.i64.wrap (n+1) else n) 0
def aN (b:AE)(site a:Int):Int:=iR (λe=>e.Site==site&&e.Handle==a) 0 b.Entries
def aU (s:AF)(id:Int):Int:=iR (λa=>a.Id==id) 0 s.Accounts
theorem aC5 (s:List Int)(x:AD):(jK s x).length<=s.length+1:=by
 grind[List.length_filter_le,jK]
def kV (log:List AD):(aD log).length<=log.length:=by
 suffices ∀(l:List AD) (s:List Int),(l.foldl jK s).length<=s.length+l.length from by grind[aD]
 intro l;induction l<;>grind[List.length_cons,jK,List.length_filter_le]
def aR5 {n:Int}(h:0<=n):aPk 1 n=gQ n:=by
 grind[aPk,gQ]
def cB (s:ByteArray):Int:=Bf 173 s
def WOk (w:AA):Prop:=w.Devices.length<=34359738368/\w.Stolen.length<=34359738368/\w.aAH.Log.length<=34359738368/\w.Sites.length<=34359738368
instance (w:AA):Decidable (WOk w):=inferInstanceAs (Decidable (_/\_))
def mE (w:AA)(d:Int):Bool:=decide (0<=d)&&decide (d<w.Devices.length)
def dA (w:AA)(d:Int):AC:=w.Devices.getD d.toNat default
def uX (w:AA)(d:Int):Bool:=mE w d&&gT (aD w.aAH.Log) (bO (dA w d).Store)
def bCw (w:AA)(d:Int):Bool:=mE w d&&fJ w.aAH.Log (bO (dA w d).Store)
def bJq (w:AA)(i:Nat):Bool:=uX w i&&(decide (i<w.Stolen.length)&& !w.Stolen.getD i false)
def vR (w:AA):List Int:=((List.range w.Devices.length).filter (bJq w)).map Int.ofNat
def aFp (w:AA):Int:=aJ w.Seed [283]
def WOk.of {w:AA}(h:w.sz<=1048576):WOk w:=by
 grind[WOk,AA.sz,AL.sz]
def aZm (k:Int)(i:Nat)(z:Int):Int:=IntKind.u8.wrap ((z-bH k [(i:Int)])%256)
def aPl (k:Int)(b:List Int):List Int:=Ic (λi z=>[aZm k i z]) 0 b
theorem bCx (x:Int):bJ (IntKind.i64.wrap x) 256=x%256:=by
 grind[bJ,IntKind.wrap_i64]
theorem bCy (k:Int)(i:Nat)(z:Int):IntKind.u8.wrap (bJ (IntKind.i64.wrap (IntKind.i64.wrap z-(bH k [(i:Int)]).tmod 256)) 256)=aZm k i z:=by
 grind[bCx,aZm,IntKind.wrap_i64,Int.tmod_eq_emod_of_nonneg,mD]
def Bg {α β:Type}{y:Nat->α->β}:∀{i:Nat} {l:List α},(Ic (λi x=>[y i x]) i l).length=l.length
 |i,[]=>rfl
 |i,x::xs=>by simp[Ic,Bg]
def jL (p e:Int):Int:=aJ p [163,e]
def aK3 (k:Int)(b:AN):Int:=bH k ([167,b.To,b.Ephemeral]++Y1 b.Data)
def jO (p:Int)(b:AN):List Int×Bool:=
 bif !bQ p||(b.To !=fH p||(!bQ b.Ephemeral||decide ((b.Data.length:Int)>200))) then([],false)
 else bif b.MAC !=aK3 (jL p b.Ephemeral) b then([],false) else(aPl (jL p b.Ephemeral) b.Data,true)
def kL:List AN->Int->List Int×Bool
 |[],_=>([],false)
 |b::bs,p=>bif (jO p b).2 then((jO p b).1,true) else kL bs p
def aR (b:List Int):Prop:=b.length<=34359738368/\b.all (λz=>decide (0<=z)&&decide (z<=255))=true
instance (b:List Int):Decidable (aR b):=inferInstanceAs (Decidable (_/\_))
theorem Kk {b:List Int}(h:aR b){i:Nat}(hi:i<b.length):0<=b[i]/\b[i]<=255:=by have:=ck.1 h.2 b[i] (ce hi);simp_all
def uvG (b:List Int)(p:Nat):Nat->Nat->Int->Int×Int×Bool
 |0,_,_=>(0,0,false)
 |k+1,i,n=>
  if p+i<b.length then
   bif decide (b.getD (p+i) 0<128) then
    (bif (decide (0<i)&&b.getD (p+i) 0==0)||decide (n+b.getD (p+i) 0%128*128^i>1000000000000) then(0,0,false) else(n+b.getD (p+i) 0%128*128^i,((p+i+1:Nat):Int),true))
   else uvG b p k (i+1) (n+b.getD (p+i) 0%128*128^i)
  else(0,0,false)
def Jq (b:List Int)(at_:Int):Int×Int×Bool:=if at_<0 then(0,0,false) else uvG b at_.toNat 6 0 0
def bCz {i:Nat}(h:i<=6):(1:Int)<=128^i/\(128:Int)^i<=4398046511104:=by
 match i,h with
 |0,_|1,_|2,_|3,_|4,_|5,_|6,_=>decide
def aW1 {z n:Int}{i:Nat}(hi:i<=5)(b:0<=z)(hn:0<=n)(a:n<128^i):0<=n+z%128*128^i/\n+z%128*128^i<128^(i+1)/\0<=z%128*128^i/\z%128*128^i<=127*128^i:=by have hp:=bCz (i:=i) (by omega);have h1:0<=z%128*128^i:=iS (by omega) (by omega);have h2:z%128*128^i<=127*128^i:=Int.mul_le_mul_of_nonneg_right (by omega) (by omega);omega
def bFz {z n:Int}{i:Nat}(hi:i<=5)(h:0<=z)(j:z<=255)(hn:0<=n)(c:n<128^i):
  orI .i64 n (Yx .i64 (mR .i64 z 127) (IntKind.i64.wrap (7*(i:Int))))=n+z%128*128^i:=by
 obtain⟨m,rfl⟩:=eM h;obtain⟨q,rfl⟩:=eM hn;have hp:=bCz (i:=i) (by omega);have hs:=aW1 (z:=(m:Int)) (n:=(q:Int)) hi (by omega) (by omega) c;have t:mR .i64 (m:Int) 127=((m%128:Nat):Int):=by
  have e:((BitVec.ofInt 64 (m:Int))&&&(BitVec.ofInt 64 127)).toNat=m%128:=by
   rw[BitVec.toNat_and];have k:(BitVec.ofInt 64 (m:Int)).toNat=m:=by
    grind
   have l:(BitVec.ofInt 64 127).toNat=2^7-1:=by decide
   rw[k,l,fw]
  show IntKind.i64.wrap (((BitVec.ofInt 64 (m:Int))&&&(BitVec.ofInt 64 127)).toNat:Int)=_
  grind[aH]
 have u:IntKind.i64.wrap (7*(i:Int))=((7*i:Nat):Int):=by grind[aH]
 have d:(2:Nat)^(7*i)=128^i:=by rw[Nat.pow_mul]
 have o:((128^i:Nat):Int)=(128:Int)^i:=by simp
 have hb:Yx .i64 (mR .i64 (m:Int) 127) (IntKind.i64.wrap (7*(i:Int)))=((m%128*128^i:Nat):Int):=by
  grind[aH,Int.toNat_natCast,min,Nat.min_eq_left,IntKind.bits,Yx]
 rw[hb];have a:q<128^i:=by omega
 have f:(m%128*128^i)|||q=m%128*128^i+q:=by
  have:=ij (b:=q) (i:=7*i) (by rw[d];exact a) (m%128)
  grind[Nat.shiftLeft_eq]
 have p:m%128*128^i+q<2^63:=by
  grind
 have v:((BitVec.ofInt 64 (q:Int))|||(BitVec.ofInt 64 ((m%128*128^i:Nat):Int))).toNat=m%128*128^i+q:=by
  rw[BitVec.toNat_or];have r:(BitVec.ofInt 64 (q:Int)).toNat=q:=by grind
  have s:(BitVec.ofInt 64 ((m%128*128^i:Nat):Int)).toNat=m%128*128^i:=by rw[BitVec.toNat_ofInt];omega
  rw[r,s,Nat.or_comm,f]
 show IntKind.i64.wrap (((BitVec.ofInt 64 (q:Int))|||(BitVec.ofInt 64 ((m%128*128^i:Nat):Int))).toNat:Int)=_
 grind[aH]
def kD (b:List Int):Nat->Int->List Int->List Int×Int×Bool
 |0,a,s=>(s,a,true)
 |k+1,a,s=>bif (Jq b a).2.2 then kD b k (Jq b a).2.1 (s++[(Jq b a).1]) else([],0,false)
def nC (b:List Int)(a c:Int):List Int×Int×Bool:=bif !bD c 0 100|| !bD a 0 b.length then([],0,false) else kD b c.toNat a []
theorem aR6 (b:List Int):∀(k:Nat) (a:Int) (s:List Int),(kD b k a s).2.2=true->(kD b k a s).1.length=s.length+k
 |0,a,s,_=>rfl
 |k+1,a,s,h=>by
  unfold kD at h ⊢;cases c:(Jq b a).2.2 with
  |false=>rw[c] at h;simp at h
  |true=>rw[c] at h;simp only[ac] at h ⊢;rw[aR6 b k _ _ h];simp;omega
theorem decode_len {b:List Int}{a c:Int}(hc:0<=c)(h:(nC b a c).2.2=true):(nC b a c).1.length=c.toNat:=by
 grind[bD,aR6,nC]
theorem aW2 {k:Int}{b:List Int}(h:b.length<=34359738368):aR (aPl k b):=by
 refine⟨by unfold aPl;rw[Bg];exact h,?_⟩;rw[ck];intro z a;have:∀(b:List Int) (i:Nat),z∈Ic (λi z=>[aZm k i z]) i b->0<=z/\z<=255:=by
  intro b;induction b with
  |nil=>simp[Ic]
  |cons x xs c=>
   intro i h;simp only[Ic,bu,cx] at h;rcases h with rfl|h
   ·have:=cO .u8 ((x-bH k [(i:Int)])%256);assumption
   grind
 have:=this b 0 a;simp[*]
def aUt (p:Int)(b:AN):aR (jO p b).1:=by
 grind[decide,bQ,fH,aK3,jL,aW2,aR,jO]
theorem aG5 (p:Int):∀bs,aR (kL bs p).1
 |[]=>show aR [] by decide
 |b::bs=>by
  unfold kL;cases(jO p b).2 with
  |true=>exact aUt p b
  |false=>exact aG5 p bs
def aG6 (e:AK)(x:List Int×Bool)(y:List Int×Int×Bool):Int×Bool:=
 bif !x.2||(!y.2.2||(y.2.1 !=(x.1.length:Int)||(y.1.getD 0 0 !=e.Epoch|| !bQ (y.1.getD 1 0)))) then(0,false) else(y.1.getD 1 0,true)
def eO (s:AO)(e:AK):Int×Bool:=aG6 e (kL e.Boxes (iU s)) (nC (kL e.Boxes (iU s)).1 0 2)
theorem and_one {n:Int}(h0:0<=n)(h1:n<9223372036854775808):mR .i64 n 1=n%2:=by
 obtain⟨m,rfl⟩:=eM h0;have e:((BitVec.ofInt 64 (m:Int))&&&(BitVec.ofInt 64 1)).toNat=m%2:=by
  rw[BitVec.toNat_and];have a:(BitVec.ofInt 64 (m:Int)).toNat=m:=by grind
  have b:(BitVec.ofInt 64 1).toNat=2^1-1:=by decide
  rw[a,b,fw]
 show IntKind.i64.wrap (((BitVec.ofInt 64 (m:Int))&&&(BitVec.ofInt 64 1)).toNat:Int)=_
 grind[aH]
theorem aW3 {n:Int}(h0:0<=n):Aa .i64 n 1=n/2:=by unfold Aa;rw[show min (Int.toNat 1) IntKind.i64.bits=1 from by decide,fW _ (by decide)];rfl
def aZn:Nat->Int->Int->Int->Int
 |0,_,_,s=>s
 |k+1,b,n,s=>if n>0 then aZn k ((IntKind.i64.wrap (b*b)).tmod 2147483647) (n/2) (bif n%2==1 then(IntKind.i64.wrap (s*b)).tmod 2147483647 else s) else s
def aW4:aZn 31 48271 2147483645 1=1899818559:=by decide+kernel
def eX (q:Int):Int:=bif !bQ q then 0 else q*1899818559%2147483647
def pU (p:Int)(l:List Int):Int:=bif !bQ p then 0 else bH p ([139,(l.length:Int)]++l)
def fQ (q:Int)(l:List Int)(g:Int):Bool:=eX q !=0&&pU (eX q) l==g
theorem Kl {α:Type}[Inhabited α]{l:List α}{i:Nat}(h0:0<i)(hi:i<l.length)(hl:l.length<=34359738368):aW l (IntKind.i64.wrap ((i:Int)-1))=some (l.getD (i-1) default):=by
 grind[List.getD,List.getElem?_eq_getElem,aH,aI]
def qX (l:List AP)(i:Nat)(n:AP):Bool:= !bD n.Kind 1 5||(!bD n.aAG 0 1000000||(!bD n.Time 0 1000000||(decide (0<i)&&decide ((l.getD (i-1) default).Time>n.Time))))
def dM (m:AM):Bool:=decide (m.Notices.length<=30)&& !dP (qX m.Notices) 0 m.Notices
def fB (b:AQ)(i:Nat)(n:AX):Bool:= !bD n.Id 0 (IntKind.i64.wrap (b.Next-1))||((decide (0<i)&&decide ((b.Open.getD (i-1) default).Id>=n.Id))||(!bD n.aAG 0 1000005|| !bD n.Until 0 1000005))
def fI (b:AQ):Bool:=bD b.Next 0 1000000&&decide (b.Open.length<=16)&& !dP (fB b) 0 b.Open
def rP (a:AJ)(i:Nat)(n:AV):Bool:=(!bD n.Handle 0 1000000||((decide (0<i)&&decide ((a.Credentials.getD (i-1) default).Handle>=n.Handle))||(eX n.Public==0|| !bD n.Counter 0 1000000)))||(a.Credentials.take i).any λq=>q.Public==n.Public
def bR (a:AJ):Bool:=bD a.Id 0 1000000&&bD a.Minimum 1 3&&decide (a.Credentials.length<=8)&& !dP (rP a) 0 a.Credentials
def bU (e:AD):Int:=tN [229,e.Index,e.Kind,e.Device,e.By,e.Previous]
def fK (l:List AD):Int:=bif (l.length:Int)==0 then 0 else bU (l.getD (l.length-1) default)
def lF (l:List AD)(e:AD):Bool:=
 e.Index==(l.length:Int)&&(e.Previous==fK l&&((gT (aD l) e.By||((l.length:Int)==0&&e.By==e.Device))&&(fQ e.By [bU e] e.Signature&&
  (bif e.Kind==2 then gT (aD l) e.Device&&decide (((aD l).length:Int)>1) else !fJ l e.Device&&(e.Kind==1&&(!gT (aD l) e.Device&&decide (((aD l).length:Int)<6)))))))
def bI (l:List AD):Bool:=bD (l.length:Int) 1 40&& !dP (λi e=> !lF (l.take i) e) 0 l
theorem bC0 {l:List Int}{x:Int}(h:gT l x=true):0<l.length:=by
 grind[gT]
def iF:List UInt8->List UInt8->List (List UInt8)
 |cur,[]=>[cur]
 |cur,b::r=>bif b==46 then cur::iF [] r else iF (cur++[b]) r
def bC1 (s:List UInt8)(i:Nat):Lib.occAt s [46] i=decide (s[i]? =some 46):=by
 unfold Lib.occAt;cases h:s.drop i with
 |nil=>simp_all
 |cons b r=>
  have e:s[i]? =some b:=by have:=ex (xs:=s) (i:=i) (j:=0);simp_all
  grind
def aG7:∀(a cur r:List UInt8),(∀b∈a,b≠46)->iF cur (a++46::r)=(cur++a)::iF [] r
 |[],cur,r,_=>by simp[iF]
 |b::a,cur,r,h=>by
  have hb:(b==46)=false:=by simpa using h b (by simp)
  rw[cJ,iF,hb,ah,aG7 a _ r (λx c=>h x (dt _ c))];simp
def aC6:∀(a cur:List UInt8),(∀b∈a,b≠46)->iF cur a=[cur++a]
 |[],cur,_=>by simp[iF]
 |b::a,cur,h=>by
  have hb:(b==46)=false:=by simpa using h b (by simp)
  rw[iF,hb,ah,aC6 a _ (λx c=>h x (dt _ c))];simp
def aR7:∀(n:Nat) (s:List UInt8),s.length<n->Lib.splitK [46] 0 (Lib.count s [46]) s=iF [] s
 |0,s,h=>absurd h (Nat.not_lt_zero _)
 |n+1,s,h=>by
  rcases Lib.index_spec s [46] with⟨h1,h2⟩|⟨i,h1,h2,a,l⟩
  ·rw[Lib.count_miss h1,aC6 s [] (λb hb e=>by
    obtain⟨j,hj,c⟩:=gu hb;have:=h2 j (by omega);rw[bC1,aa hj,c,e] at this;simp at this)];rfl
  ·rw[bC1] at a;have a:s[i]? =some 46:=by simpa using a
   have hi:i<s.length:=by
    rcases gf i s.length with d|f
    ·exact d
    ·rw[eW f] at a;cases a
   rw[Lib.count_hit (by simp) h1,Nat.add_comm,Lib.splitK,h1];have k:((i:Int)== -1)=false:=by simp
   rw[k];simp only[bv,eh,au,bn,cn];rw[dh (by simp),aR7 n (s.drop (i+1)) (by rw[cy];omega)];have es:s=s.take i++46::s.drop (i+1):=by
    have m:s[i]=46:=by rw[aa hi] at a;exact aj a
    rw[<-m,List.getElem_cons_drop hi,cD]
   conv=>rhs;rw[es]
   rw[aG7 (s.take i) [] _ (λb hb e=>by
    obtain⟨j,hj,c⟩:=gu hb;rw[cq] at hj;have:=l j (by omega);rw[bC1,aa (by omega)] at this;rw[List.getElem_take] at c;rw[c,e] at this;simp at this)];simp
def bA (s:ByteArray):List ByteArray:=(iF [] s.data.toList).map λl=>⟨l.toArray⟩
def aG8 (s:ByteArray):jN s ⟨#[46]⟩=bA s:=by
 have h1:(jN s ⟨#[46]⟩).map (·.data.toList)=iF [] s.data.toList:=by rw[jN,Lib.splitB_data];exact aR7 _ _ (et _)
 unfold bA;rw[<-h1,fN]
 conv=>lhs;rw[<-List.map_id (jN s ⟨#[46]⟩)]
 congr 1
def Zw (b:Int):Bool:=bD b 97 122||bD b 48 57||b==45
def rZ (s:ByteArray):Bool:=decide (1<=s.size)&&decide (s.size<=20)&& !((bM s).getD 0 0==45)&& !((bM s).getD (s.size-1) 0==45)&& !((bM s).any λb=> !Zw b)
def gU (s:ByteArray):Bool:=decide (s.size<=60)&& !((bA s).any λl=> !rZ l)
def jE (s:ByteArray):(bM s).length=s.size:=by simp[bM,ba]
theorem aR8 {s:ByteArray}{i:Nat}(h:i<s.size):aW (bM s) (i:Int)=some ((bM s)[i]'(by rw[jE];exact h)):=aI _
def ext_list (s:ByteArray)(a b:Nat):s.extract a b=⟨((s.data.toList.drop a).take (b-a)).toArray⟩:=by apply ByteArray.ext;apply Array.toList_inj.1;rw[Lib.extract_data]
def Uw:∀(s cur:List UInt8),(iF cur s).length<=s.length+1
 |[],_=>by simp[iF]
 |b::r,cur=>by
  rw[iF];cases b==46 with
  |true=>have:=Uw r [];simp;omega
  |false=>have:=Uw r (cur++[b]);simp at this ⊢;omega
def Km:∀(s cur:List UInt8) (l:List UInt8),l∈iF cur s->l.length<=cur.length+s.length
 |[],cur,l,h=>by simp[iF] at h;subst h;simp
 |b::r,cur,l,h=>by
  rw[iF] at h;cases hb:b==46 with
  |true=>
   rw[hb,ac] at h;rcases ay.1 h with rfl|h
   ·omega
   ·have:=Km r [] l h;simp at this ⊢;omega
  |false=>rw[hb,ah] at h;have:=Km r _ l h;simp at this ⊢;omega
def Kn (s:ByteArray):(bA s).length<=s.size+1:=by unfold bA;rw[ba];exact Uw _ _
def uY (s l:ByteArray)(h:l∈bA s):l.size<=s.size:=by unfold bA at h;obtain⟨q,hq,rfl⟩:=cj.1 h;have:=Km _ _ q hq;have h2:(⟨q.toArray⟩:ByteArray).size=q.length:=rfl;simp_all
theorem bLj (z:ByteArray):(z.toList==(⟨#[]⟩:ByteArray).toList)=decide (z.size=0):=by
 rw[ByteArray.toList_eq,ByteArray.toList_eq,fj];simp only[cU,cY];constructor
 ·intro h;show z.data.size=0;simp_all
 simp_all
def uZ:∀(s cur:List UInt8),(iF cur s).length=s.countP (·==46)+1
 |[],_=>rfl
 |b::r,cur=>by
  rw[iF,List.countP_cons];cases b==46 with
  |true=>rw[ac,au,uZ r []];simp
  |false=>rw[ah,uZ r _];simp
def aC7 (s:ByteArray):0<(bA s).length:=by simp[ba,uZ,bA]
def Pp (s:ByteArray):Bool:=(bM s).any λb=>b==46
theorem aK4 (s:ByteArray):Pp s=decide (2<=(bA s).length):=by
 unfold Pp bA bM;rw[ba,uZ,List.any_map];have e:(λb:Int=>b==46)∘(λb:UInt8=>(b.toNat:Int))=λb:UInt8=>b==46:=by
  funext b;rw[fj];simp only[Function.comp,cU];constructor
  ·intro q;apply UInt8.toNat_inj.1;grind
  simp_all
 rw[e,fj,eL,cY];simp
def aZo (s:ByteArray):ByteArray:=bif gU s then(bif (bA s).length==1 then s else nQ ⟨#[46]⟩ ((bA s).drop ((bA s).length-2))) else⟨#[]⟩
def bHl {l:List ByteArray}(h:2<=l.length):∃a∈l,∃b∈l,nQ ⟨#[46]⟩ (l.drop (l.length-2))=a++⟨#[46]⟩++b:=by
 have hl:(l.drop (l.length-2)).length=2:=by grind
 match hm:l.drop (l.length-2),hl with
 |[a,b],_=>refine⟨a,cW (i:=l.length-2) (by rw[hm];simp),b,cW (i:=l.length-2) (by rw[hm];simp),?_⟩;rw[show[a,b]=[a]++[b] from rfl,bEy _ _ _ (by simp),bEx]
theorem Ko {s:ByteArray}(h:gU s=true):s.size<=60/\0<s.size:=by
 unfold gU at h;rw[ab,cY] at h;refine⟨h.1,Nat.pos_of_ne_zero λe=> ?_⟩
 have a:s.data.toList=[]:=bw e;have b:bA s=[⟨#[]⟩]:=by unfold bA;rw[a];rfl
 rw[b] at h;exact absurd h.2 (by decide)
theorem bF0 {s:ByteArray}(h:gU s=true):decide ((aZo s).size=0)=false:=by
 have hs:=Ko h;have hp:=aC7 s;unfold aZo;rw[h,ac];refine ax ?_;cases h1:(bA s).length==1 with
 |true=>grind
 |false=>
  rw[ah];have:(bA s).length≠1:=by simp_all
  obtain⟨a,_,b,_,e⟩:=bHl (l:=bA s) (by omega);rw[e,ByteArray.size_append,ByteArray.size_append];have:(⟨#[46]⟩:ByteArray).size=1:=rfl;omega
def iW (s:ByteArray)(seed:Int):Bool:=gU s&&decide (2<=(bA s).length)&&bQ seed
def Ew (l:List AJ)(i:Nat)(n:AJ):Bool:= !bR n||(decide (0<i)&&decide ((l.getD (i-1) default).Id>=n.Id))
def dN (s:AF):Bool:=iW s.Name s.Book.Seed&&decide (s.Accounts.length<=8)&&fI s.Book&& !dP (Ew s.Accounts) 0 s.Accounts
def SOk (s:AF):Prop:=s.Name.size<=34359738368/\s.Accounts.length<=34359738368/\s.Book.Open.length<=34359738368/\∀a∈s.Accounts,a.Credentials.length<=34359738368
instance (s:AF):Decidable (SOk s):=inferInstanceAs (Decidable (_/\_))
def dR (name:ByteArray)(seed:Int):AF:=bif iW name seed then⟨name,[],⟨seed,0,[]⟩,[]⟩ else⟨⟨#[]⟩,[],⟨0,0,[]⟩,[]⟩
def aUu (name:ByteArray)(seed:Int):decide ((dR name seed).Name.size=0)= !iW name seed:=by
 unfold dR;cases h:iW name seed with
 |false=>rfl
 |true=>
  grind[decide_eq_false,Ko,gU,iW]
def aA (i:Int):ByteArray:=bif i==0 then⟨#[98,97,110,107,46,99,111,109]⟩ else bif i==1 then⟨#[115,104,111,112,46,111,114,103]⟩ else⟨#[]⟩
def oD (i:Nat)(s:AF):Bool:= !dN s|| !(s.Name.toList==(aA (i:Int)).toList)
def aX (w:AA):Bool:=bD w.Now 0 999900&&bD (w.Devices.length:Int) 1 6&&(w.Stolen.length:Int)==(w.Devices.length:Int)&&(w.Sites.length:Int)==2&&dM w.Mail&&bI w.aAH.Log&&bQ w.Seed&& !dP oD 0 w.Sites
def bJs (w:AA):Prop:=WOk w/\w.Mail.Notices.length<=34359738368/\w.Hosts.length<=34359738368/\∀s∈w.Sites,SOk s
instance (w:AA):Decidable (bJs w):=inferInstanceAs (Decidable (_/\_))
theorem aPm {α:Type}{g:α->Nat}{x:α}:∀{l:List α},x∈l->g x<=(l.map g).sum
 |y::r,h=>by
  rw[bh,du];rcases ay.1 h with rfl|h
  ·omega
  ·have:=aPm (g:=g) h;omega
def SOk.of {s:AF}(h:s.sz<=1048576):SOk s:=by
 simp only[AF.sz] at h;refine⟨by omega,by omega,by omega,λa b=> ?_⟩
 grind[AJ.sz,aPm]
def bJs.of {w:AA}(h:w.sz<=1048576):bJs w:=by
 refine⟨WOk.of h,?_,?_,λs hs=>SOk.of ?_⟩
 all_goals grind[aPm,AF.sz,AA.sz]
abbrev aC8 (a:List Int)(r:List (List Int)):Prop:=a.length+r.flatten.length<=68719476736/\r.length<=1099511627776
def Kq (w:AA)(i:Int):Bool:=decide (0<=i)&&decide (i<w.Sites.length)
def fC (a b:AI):Bool:=decide (a.Site<b.Site)||(a.Site==b.Site&&decide (a.Handle<b.Handle))
def sD (a:AI)(s h:Int):Bool:=decide (a.Site<s)||(a.Site==s&&decide (a.Handle<h))
def Ah (x e:AI):Bool:=decide (x.Version>e.Version)||(x.Version==e.Version&&x.Deleted)
def Tc (e x:AI):AI:=bif Ah x e then x else e
def dL:List AI->List AI->List AI
 |[],bs=>bs
 |a::xs,[]=>a::xs
 |a::xs,b::bs=>bif fC a b then a::dL xs (b::bs) else bif fC b a then b::dL (a::xs) bs else Tc a b::dL xs bs
termination_by xs bs=>xs.length+bs.length
def aR9 (l:List AI)(i:Nat)(e:AI):Bool:= !bD e.Site 0 2147483646||(!bD e.Handle 0 1000000||(!bD e.Version 1 1000000||(decide ((i:Int)>0)&& !fC (l.getD (i-1) default) e)))
def aS (b:AE):Bool:=decide ((b.Entries.length:Int)<=20)&& !dP (aR9 b.Entries) 0 b.Entries
def nG (a b:AE):AE×Bool:=bif aS a&&aS b then(bif aS ⟨dL a.Entries b.Entries⟩ then(⟨dL a.Entries b.Entries⟩,true) else(a,false)) else(a,false)
def Ey (b:AE)(x:AI):AE:=bif decide (aN b x.Site x.Handle>=0) then⟨b.Entries.set (aN b x.Site x.Handle).toNat x⟩ else⟨b.Entries.takeWhile (λe=>sD e x.Site x.Handle)++[x]++b.Entries.dropWhile (λe=>sD e x.Site x.Handle)⟩
theorem Bh {a b:AI}:fC a b=true↔a.Site<b.Site\/(a.Site=b.Site/\a.Handle<b.Handle):=by simp[fC]
def aUv {a x:AI}:sD a x.Site x.Handle=fC a x:=rfl
theorem Kr {a b c:AI}(h:fC a b=true)(k:fC b c=true):fC a c=true:=by
 grind[Bh]
def Ux {a b:AI}(h:fC a b=false)(k:fC b a=false):a.Site=b.Site/\a.Handle=b.Handle:=by
 grind[Bh]
def Y2 {a b c:AI}(h:a.Site=b.Site/\a.Handle=b.Handle):fC a c=fC b c:=by unfold fC;rw[h.1,h.2]
def aUw {a b c:AI}(h:a.Site=b.Site/\a.Handle=b.Handle):fC c a=fC c b:=by unfold fC;rw[h.1,h.2]
def aSa {a b:AI}(h:a.Site=b.Site/\a.Handle=b.Handle):(Tc a b).Site=b.Site/\(Tc a b).Handle=b.Handle:=by
 grind[Ah,Tc]
def bF1 (a b:AI):Tc a b=a\/Tc a b=b:=by
 grind[Ah,Tc]
def fE (l:List AI):dL l []=l:=by cases l<;>rw[dL]
def nH (l:List AI):dL [] l=l:=by rw[dL]
def Bi:∀(n:Nat) (a b:List AI),a.length+b.length<=n->(dL a b).length<=a.length+b.length
 |_,[],b,_=>by rw[nH];simp
 |_,a::xs,[],_=>by rw[fE];simp
 |0,a::xs,b::bs,h=>by simp at h
 |n+1,a::xs,b::bs,h=>by
  simp only[au] at h;rw[dL];cases fC a b with
  |true=>have:=Bi n xs (b::bs) (by simp only[au];omega);simp only[ac,au] at*;omega
  |false=>
   cases fC b a with
   |true=>have:=Bi n (a::xs) bs (by simp only[au];omega);simp only[ah,ac,au] at*;omega
   |false=>have:=Bi n xs bs (by omega);simp only[ah,au] at*;omega
def aG9 (a b:AI)(xs bs:List AI):dL (a::xs) (b::bs)=bif fC a b then a::dL xs (b::bs) else bif fC b a then b::dL (a::xs) bs else Tc a b::dL xs bs:=by rw[dL]
def srt (l:List AI):Prop:=l.Pairwise λa b=>fC a b=true
def aNk:∀(A:List AI) {b:AI} {bs:List AI},srt (b::bs)->dL (dL A [b]) bs=dL A (b::bs)
 |[],b,bs,h=>by
  rw[nH,nH];cases bs with
  |nil=>rw[fE]
  |cons c cs=>rw[dL,(da.1 h).1 c (by simp),ac,nH]
 |a::xs,b,bs,h=>by
  have hc:=(da.1 h).1;rw[aG9 a b xs [],aG9 a b xs bs];cases h1:fC a b with
  |true=>
   simp only[ac];cases bs with
   |nil=>rw[fE]
   |cons c cs=>rw[dL,Kr h1 (hc c (by simp)),ac,aNk xs h]
  |false=>
   cases h2:fC b a with
   |true=>
    simp only[ac,ah];rw[fE];cases bs with
    |nil=>rw[fE,fE]
    |cons c cs=>rw[dL,hc c (by simp),ac]
   |false=>
    simp only[ah];rw[fE];cases bs with
    |nil=>rw[fE,fE]
    |cons c cs=>rw[dL,Y2 (aSa (Ux h1 h2)),hc c (by simp),ac]
def aW5:∀{l:List AI} {x y:AI},y∈dL l [x]->y∈l\/y=x
 |[],x,y,h=>by rw[nH] at h;simp at h;exact .inr h
 |a::xs,x,y,h=>by
  rw[dL] at h;cases h1:fC a x with
  |true=>
   rw[h1,ac] at h;rcases ay.1 h with rfl|h
   ·exact .inl (by simp)
   ·exact(aW5 h).imp (λh=>by simp[h]) id
  |false=>
   rw[h1,ah] at h;cases h2:fC x a with
   |true=>
    rw[h2,ac,fE] at h;rcases ay.1 h with rfl|h
    ·exact .inr rfl
    ·exact .inl h
   |false=>
    rw[h2,ah,fE] at h;rcases ay.1 h with rfl|h
    ·rcases bF1 a x with e|e
     ·rw[e];exact .inl (by simp)
     ·exact .inr e
    ·exact .inl (by simp[h])
theorem aW6:∀{l:List AI} {x:AI},srt l->srt (dL l [x])
 |[],x,h=>by rw[nH];exact fm _ _
 |a::xs,x,h=>by
  obtain⟨c,hs⟩:=da.1 h;rw[dL];cases h1:fC a x with
  |true=>
   rw[ac];refine da.2 ⟨λy b=> ?_,aW6 hs⟩;rcases aW5 b with b|rfl
   ·exact c y b
   ·exact h1
  |false=>
   cases h2:fC x a with
   |true=>
    rw[ah,ac,fE];refine da.2 ⟨λy b=> ?_,h⟩;rcases ay.1 b with rfl|b
    ·exact h2
    ·exact Kr h2 (c y b)
   |false=>rw[ah,ah,fE];have hk:=Ux h1 h2;refine da.2 ⟨λy b=> ?_,hs⟩;rw[Y2 (aSa hk),<-Y2 hk];exact c y b
def aHa:∀(B A:List AI),srt B->B.foldl (λo x=>dL o [x]) A=dL A B
 |[],A,_=>by rw[fE];rfl
 |b::bs,A,h=>by rw[df,aHa bs _ (da.1 h).2,aNk A h]
theorem Zx {α:Type}{p:α->Bool}:∀{l:List α} {i:Nat},iR p i l<0->∀y∈l,p y=false
 |[],i,_,y,a=>by simp at a
 |x::l,i,h,y,a=>by
  simp only[iR] at h;cases hp:p x with
  |true=>rw[hp,ac] at h;omega
  |false=>
   rw[hp,ah] at h;rcases ay.1 a with rfl|a
   ·exact hp
   ·exact Zx h y a
def Y3 {α:Type}{p:α->Bool}:∀{l:List α} {i:Nat},0<=iR p i l->∃l1 e l2,l=l1++e::l2/\p e=true/\iR p i l=((i+l1.length:Nat):Int)
 |[],i,h=>by simp[iR] at h
 |x::l,i,h=>by
  simp only[iR] at h ⊢;cases hp:p x with
  |true=>exact⟨[],x,l,rfl,hp,by simp⟩
  |false=>rw[hp,ah] at h;obtain⟨l1,e,l2,h1,h2,a⟩:=Y3 h;exact⟨x::l1,e,l2,by rw[h1];rfl,h2,by rw[ah,a];simp only[au];omega⟩
theorem aW7:∀{l:List AI} {x:AI},(∀y∈l,(y.Site==x.Site&&y.Handle==x.Handle)=false)->dL l [x]=l.takeWhile (λe=>sD e x.Site x.Handle)++[x]++l.dropWhile (λe=>sD e x.Site x.Handle)
 |[],x,_=>by rw[nH];rfl
 |a::xs,x,h=>by
  rw[dL,cP,List.dropWhile_cons,aUv];cases h1:fC a x with
  |true=>simp only[ac,gr];rw[aW7 (λy b=>h y (by simp[b]))];rfl
  |false=>
   cases h2:fC x a with
   |true=>simp only[ah,ac];rw[fE];rfl
   |false=>have:=Ux h1 h2;have:=h a (by simp);simp_all
def aW8 {e x:AI}{l2:List AI}(he:(e.Site==x.Site&&e.Handle==x.Handle)=true):∀{l1:List AI},srt (l1++e::l2)->dL (l1++e::l2) [x]=l1++Tc e x::l2
 |[],_=>by
  have hk:e.Site=x.Site/\e.Handle=x.Handle:=by simpa using he
  have h1:fC e x=false:=by
   cases h:fC e x with
   |false=>rfl
   |true=>rw[Bh] at h;omega
  have h2:fC x e=false:=by
   cases h:fC x e with
   |false=>rfl
   |true=>rw[Bh] at h;omega
  rw[bo,dL,h1,ah,h2,ah,fE];rfl
 |a::l1,h=>by
  obtain⟨b,hs⟩:=da.1 h;have hk:e.Site=x.Site/\e.Handle=x.Handle:=by simpa using he
  have h1:fC a x=true:=by rw[<-aUw hk];exact b e (by simp)
  rw[cJ,dL,h1,ac,aW8 he hs];rfl
def bC2 {l:List AI}{x:AI}(h:srt l):(bif (decide (aN ⟨l⟩ x.Site x.Handle<0)||Ah x (l.getD (aN ⟨l⟩ x.Site x.Handle).toNat default)) then(Ey ⟨l⟩ x).Entries else l)=dL l [x]:=by
 unfold Ey;by_cases b:aN ⟨l⟩ x.Site x.Handle<0
 ·grind[aW7,Zx,decide_eq_true,decide,aN,decide_eq_false]
 ·obtain⟨l1,e,l2,h1,h2,c⟩:=Y3 (show 0<=iR (λe=>e.Site==x.Site&&e.Handle==x.Handle) 0 l from by unfold aN at b;simp only at b;omega);have a:aN ⟨l⟩ x.Site x.Handle=(l1.length:Int):=by grind[aN]
  rw[a,ax (by omega),cV,show decide ((l1.length:Int)>=0)=true from ap (by omega),ac,bv];subst h1;rw[aW8 h2 h];have g:(l1++e::l2).getD l1.length default=e:=by simp
  have st:(l1++e::l2).set l1.length x=l1++x::l2:=by simp
  rw[g];show(bif Ah x e then(l1++e::l2).set l1.length x else l1++e::l2)=_;rw[st];unfold Tc;cases Ah x e<;>rfl
theorem aW9 {α:Type}{p:Nat->α->Bool}:∀{l:List α} {j:Nat},dP p j l=false->∀(i:Nat) (hi:i<l.length),p (j+i) l[i]=false
 |[],j,_,i,hi=>by simp at hi
 |x::l,j,h,i,hi=>by
  simp only[dP,bz] at h;cases i with
  |zero=>exact h.1
  |succ i=>have:=aW9 h.2 i (by simpa using hi);rw[show j+(i+1)=j+1+i by omega];exact this
def bC3 {b:AE}(h:aS b=true):b.Entries.length<=20/\srt b.Entries:=by
 simp only[aS,ab,cY,cu] at h;refine⟨by omega,?_⟩;have adj:∀i (hi:i+1<b.Entries.length),fC b.Entries[i] b.Entries[i+1]=true:=(by grind[aW9,aR9,Bool.or_eq_false_iff,decide_eq_true,default,Nat.add_sub_cancel,List.getD,List.getElem?_eq_getElem]);have far:∀d i (hi:i+d+1<b.Entries.length),fC b.Entries[i] b.Entries[i+d+1]=true:=λd=>by
  induction d<;>grind[Kr]
 refine dz.2 λi j hi hj a=> ?_;obtain⟨d,rfl⟩:∃d,j=i+d+1:=⟨j-i-1,by omega⟩;simp[*]
theorem fG {α β:Type}{s:List α}(hs:s.length<=34359738368)(x:α)(k:Option β):gd (aL s [x]) k=k:=(by grind[aB,aL,List.length_singleton])
theorem lM {α β:Type}{s:List α}(hs:s.length<=34359738368)(k:Option β):gd (aL [] s) k=k:=(by grind[aB,aL,List.length_nil])
def aSb {α:Type}{l s:List α}:l.foldl (λs x=>s++[x]) s=s++l:=by have:=X8 (f:=λx:α=>[x]) (l:=l) (s:=s);rw[this];congr 1;induction l<;>simp_all
def Zy {α:Type}{l:List α}{F:(Nat×List α->Option (List α))->Nat×List α->Option (List α)}(hl:l.length<=34359738368)
  (a:∀rec i s (hi:i<l.length),s.length<=34359738368->F rec (i,s)=rec (i+1,s++[l[i]])) (b:∀rec s,F rec (l.length,s)=some s):EV.bG FUEL F (0,[])=some l:=by
 rw[aNi (l:=l) (λs x=>s++[x]) (λi s=>s.length=i) (λs=>some s) (by omega) rfl (by simp) (by grind) (by simp[*]),aSb,bo]
def bC4 {α:Type}{l:List α}{F:(List α×Nat->Option (List α))->List α×Nat->Option (List α)}(hl:l.length<=34359738368)
  (a:∀rec i s (hi:i<l.length),s.length<=34359738368->F rec (s,i)=rec (s++[l[i]],i+1)) (b:∀rec s,F rec (s,l.length)=some s):EV.bG FUEL F ([],0)=some l:=by
 rw[gB (l:=l) (λs x=>s++[x]) (λi s=>s.length=i) (λs=>some s) (by omega) rfl (by simp) (by grind) (by simp[*]),aSb,bo]
abbrev mF {α:Type}(f:α->Nat)(l:List α):Nat:=l.length+(l.map f).sum
theorem jP {S τ:Type}{F:(S->Option τ)->S->Option τ}{n:Nat}{s:S}:EV.bG (n+1) F s=F (EV.bG n F) s:=rfl
def Ez {α:Type}{c:Bool}{x y:α}:(bif c then some x else some y)=some (bif c then x else y):=by cases c<;>rfl
theorem vS {c d:Bool}:(bif c then some true else some d)=some (c||d):=by cases c<;>rfl
def aSc {α:Type}[Inhabited α]{l:List α}{i:Nat}(h:i<l.length):l.set i (l.getD i default)=l:=by simp[*]
theorem sF {α:Type}{p:Nat->α->Bool}:∀(l:List α) (j:Nat),dP p j l=true↔∃(i:Nat) (hi:i<l.length),p (j+i) l[i]=true
 |[],j=>by simp[dP]
 |x::xs,j=>by
  simp only[dP,cp,sF xs];constructor
  ·rintro(h|⟨i,hi,h⟩)
   ·exact⟨0,by simp,h⟩
   ·exact⟨i+1,by simpa using hi,by rw[show j+(i+1)=j+1+i by omega];exact h⟩
  grind
def bF3 {α:Type}{τ:Type}{l:List α}(p:α->Bool)(a b:τ)(i:Nat)(hi:i<=l.length)(h:l.length<=34359738368){F:(Nat->Option τ)->Nat->Option τ}(c:∀rec j (hj:j<i),F rec j=bif p (l[j]'(by omega)) then some a else rec (j+1))(d:∀rec,F rec i=some b):
  EV.bG FUEL F 0=some (bif (l.take i).any p then a else b):=by
 have ht:(l.take i).length=i:=by simp[*]
 exact lZ (l:=l.take i) p _ _ (by omega) (by simp_all) (by simp[*])
def bJt {α β:Type}{l:List α}(f:α->β){F:(List β×Nat->Option (List β))->List β×Nat->Option (List β)}(hl:l.length<=34359738368)
  (a:∀rec i s (hi:i<l.length),s.length<=34359738368->F rec (s,i)=rec (s++[f l[i]],i+1)) (b:∀rec s,F rec (s,l.length)=some s):EV.bG FUEL F ([],0)=some (l.map f):=by
 rw[gB (l:=l) (λs x=>s++[f x]) (λi s=>s.length=i) (λs=>some s) (by omega) rfl (by simp) (by grind) (by simp[*]),X9,bo]
def bLl {α β:Type}{l:List α}(f:α->β){s0:List β}{F:(List β×Nat->Option (List β))->List β×Nat->Option (List β)}(hl:s0.length+l.length<=34359738368)
  (a:∀rec i s (hi:i<l.length),s.length<=34359738368->F rec (s,i)=rec (s++[f l[i]],i+1)) (b:∀rec s,F rec (s,l.length)=some s):EV.bG FUEL F (s0,0)=some (s0++l.map f):=by
 rw[gB (l:=l) (λs x=>s++[f x]) (λi s=>s.length=s0.length+i) (λs=>some s) (by omega) (by simp) (by simp at*;omega) (by grind) (by simp[*]),X9]
def eY (h:AB)(b:Int):AB×Bool:=bif decide (b<0)||decide (b>=(h.Saved.length:Int)) then(h,false) else(⟨h.Saved.getD (h.Saved.length-1-b.toNat) default,h.Saved,h.Monotonic⟩,true)
def dX (w:AA)(i b:Int):AA×Bool:=bif !aX w||(decide (i<0)||decide (i>=(w.Hosts.length:Int))) then(w,false) else bif (eY (w.Hosts.getD i.toNat default) b).2 then({w with Hosts:=w.Hosts.set i.toNat (eY (w.Hosts.getD i.toNat default) b).1},true) else(w,false)
theorem Zz {i:Int}{n:Nat}(h:n<=34359738368):(!bD i 0 (IntKind.i64.wrap ((n:Int)-1)))=(decide (i<0)||decide (i>=(n:Int))):=by
 grind[decide_eq_false,decide_eq_true,bD,aH]
theorem vT {α:Type}[Inhabited α]{l:List α}{i:Int}(h0:0<=i)(h1:i<(l.length:Int)):aW l i=some (l.getD i.toNat default):=by
 grind[List.getD,List.getElem?_eq_getElem,xY]
theorem Kt {i:Int}{n:Nat}(h:(decide (i<0)||decide (i>=(n:Int)))=false):0<=i/\i<(n:Int):=by simp_all
theorem aPn {α:Type}[Inhabited α]{f:α->Nat}{l:List α}{i:Nat}(h:i<l.length):f (l.getD i default)<=(l.map f).sum:=by
 grind[gP,List.getD,List.getElem?_eq_getElem]
def aSd (h:AB)(b:Int):(eY h b).1.sz=h.sz:=by unfold eY;cases(decide (b<0)||decide (b>=(h.Saved.length:Int)))<;>rfl
def xP (l:List AR)(i:Nat)(s:AR):Bool:= !bD s.Index 1 7||(!bD s.Value 0 1018||(l.take i).any λq=>q.Index==s.Index)
def Ai (l:List AR):Bool:=bD (l.length:Int) 1 7&& !dP (xP l) 0 l
def aHb (x:Int)(z v:Int):Int:=(IntKind.i64.wrap (IntKind.i64.wrap (v+bJ z 1019)*x)).tmod 1019
def Gp (c:Int)(l:List Int)(x:Int):Int:=(l.foldr (aHb x) 0+bJ c 1019)%1019
def bC5 (c:List Int)(s:AR):AR:=⟨s.Index,(IntKind.i64.wrap (s.Value+Gp 0 c s.Index)).tmod 1019⟩
def jQ (l:List AR)(c:List Int):List AR:=bif Ai l then l.map (bC5 c) else[]
def cS (l:List AR)(i:Nat)(k:Int):Bool:=(l.take i).any λq=>q.Index==k
def bN0 {l:List AR}{i:Nat}{k:Int}(hi:i<l.length):cS l (i+1) k=(cS l i k||l[i].Index==k):=by
 grind[List.take_add_one,List.getElem?_eq_getElem,cS]
def aSe {x z v:Int}(a:0<=x/\x<=1000)(hv:0<=v/\v<1019):0<=aHb x z v/\aHb x z v<1019:=by
 have hm:=lJ (p:=z) (q:=1019) (by omega);unfold aHb;generalize bJ z 1019=m at*;have b:IntKind.i64.wrap (v+m)=v+m:=(by grind[aH]);have h2:0<=(v+m)*x:=iS (by omega) a.1;have c:(v+m)*x<=3000*1000:=Int.mul_le_mul (by omega) a.2 a.1 (by omega)
 grind[Int.tmod_nonneg,Int.tmod_lt_of_pos,aH]
def aHc {x:Int}(a:0<=x/\x<=1000):∀l:List Int,0<=l.foldr (aHb x) 0/\l.foldr (aHb x) 0<1019
 |[]=>by simp
 |z::l=>aSe a (aHc a l)
def bC6 {σ τ:Type}{l:List Int}(g:Int->σ->σ){s0:σ}(fin:σ->Option τ){F:(σ×Int->Option τ)->σ×Int->Option τ}(hl:l.length<=34359738368)
  (a:∀rec s i (hi:i<l.length),F rec (s,(i:Int))=rec (g l[i] s,(i:Int)-1)) (b:∀rec s,F rec (s,-1)=fin s) {n0:Int} (hn:n0=(l.length:Int)-1):EV.bG FUEL F (s0,n0)=fin (l.foldr g s0):=by
 subst hn;refine Af (λk s=>k<=l.length/\s=((l.drop (l.length-k)).foldr g s0,(l.length:Int)-1-k)) l.length _ (by omega) ⟨by omega,by simp⟩ (λk s rec hk hv=> ?_) (λs rec hv=> ?_)
 ·obtain⟨_,rfl⟩:=hv;refine .inl ⟨_,⟨hk,rfl⟩,?_⟩
  grind[List.drop_eq_getElem_cons]
 grind
def aUx {c d:Bool}:(bif c then some d else some false)=some (c&&d):=by cases c<;>rfl
def gD (k:AU):Bool:=Ai [k.aAM]&&(bD k.Epoch 0 1000000&&(bD k.Limit 1 10&&bD k.Guesses 0 k.Limit))
def iX (h:AB)(s:AR):Bool:= !gD h.State||(decide (iE h.State<h.Monotonic)||(h.State.Epoch==1000000||(s.Index !=h.State.aAM.Index|| !Ai [s])))
def tF (h:AB)(s:AR):AB:=⟨⟨s,IntKind.i64.wrap (h.State.Epoch+1),0,h.State.Limit⟩,h.Saved,iE ⟨s,IntKind.i64.wrap (h.State.Epoch+1),0,h.State.Limit⟩⟩
def aHd (h:AB)(s:AR):AB×Bool:=bif iX h s then(h,false) else(tF h s,true)
def aUy (hs:List AB)(a:List AR):List AB×Bool:=bif ((a.length:Int)==0)||(hs.zip a).any (λp=>iX p.1 p.2) then(hs,false) else(List.zipWith tF hs a,true)
def eQ (hs:List AB)(c:List Int):List AB×Bool:=aUy hs (jQ (hs.map λh=>h.State.aAM) c)
def aC9 (w:AA):Nat->Int->List Int
 |0,_=>[]
 |n+1,k=>bif decide (k<w.aAK.Threshold)&&decide (k<=7) then aJ w.Seed [317,w.Now,k]::aC9 w n (k+1) else[]
def aHe (w:AA):List Int:=aC9 w 8 1
def dG (w:AA):AA×Bool:=bif aX w&&(eQ w.Hosts (aHe w)).2 then({w with Hosts:=(eQ w.Hosts (aHe w)).1},true) else(w,false)
def aNl (w:AA):∀(n:Nat) (k:Int),(aC9 w n k).length<=n
 |0,_=>ak _
 |n+1,k=>by
  unfold aC9;cases(decide (k<w.aAK.Threshold)&&decide (k<=7)) with
  |true=>have:=aNl w n (k+1);simp only[ac,au];omega
  |false=>simp
def aSf (l:List AR)(c:List Int):(jQ l c).length<=l.length:=by unfold jQ;cases Ai l<;>simp
def aSg {l:List AR}{c:List Int}(h:((jQ l c).length:Int)≠0):(jQ l c).length=l.length:=by
 grind[Ai,jQ]
def bJu (b:AE)(s h:Int):Int:=bif decide (aN b s h>=0) then IntKind.i64.wrap ((b.Entries.getD (aN b s h).toNat default).Version+1) else 1
def aHf (b:AE)(s h:Int):AI:=⟨s,h,bJu b s h,false⟩
def aSh (b:AE)(s h:Int):AE×Bool:=bif !(decide (aN b s h>=0)&& !(b.Entries.getD (aN b s h).toNat default).Deleted)&&(aS b&&aS (Ey b (aHf b s h))) then(Ey b (aHf b s h),true) else(b,false)
def bJv (b:AE)(s h:Int):AI:=⟨s,h,IntKind.i64.wrap ((b.Entries.getD (aN b s h).toNat default).Version+1),true⟩
def aSi (b:AE)(s h:Int):AE×Bool:=bif !aS b||(decide (aN b s h<0)||((b.Entries.getD (aN b s h).toNat default).Deleted||(b.Entries.getD (aN b s h).toNat default).Version==1000000)) then(b,false) else(Ey b (bJv b s h),true)
def Pq (d:AC)(n:ByteArray)(h:Int)(rm:Bool):AE×Bool:=bif rm then aSi d.aAF (cB n) h else aSh d.aAF (cB n) h
def fT (d:AC)(n:ByteArray)(h:Int)(rm:Bool):AC×Bool:=bif (Pq d n h rm).2 then({d with aAF:=(Pq d n h rm).1},true) else(d,false)
def bLm (w:AA)(d:Int)(n:ByteArray)(h:Int)(rm:Bool):AA×Bool:=bif aX w&&mE w d then(bif (fT (dA w d) n h rm).2 then({w with Devices:=w.Devices.set d.toNat (fT (dA w d) n h rm).1},true) else(w,false)) else(w,false)
def bF4 (b:List Int):(Y1 b).length=b.length+1:=by simp[Y1,Nat.add_comm]
def aPo (l:List Int):List.map (λ(n:Int)=>n) l=l:=List.map_id l
theorem aZp (hs:List AB):∀(a:List AR),(List.zipWith tF hs a).length<=hs.length/\((List.zipWith tF hs a).map AB.sz).sum<=(hs.map AB.sz).sum:=by
 induction hs with
 |nil=>simp
 |cons h hs b=>
  intro a;cases a with
  |nil=>simp
  |cons s a=>have:=b a;have e:(tF h s).sz=h.sz:=rfl;simp_all
theorem Td (hs:List AB)(c:List Int):(eQ hs c).1.length<=hs.length/\((eQ hs c).1.map AB.sz).sum<=(hs.map AB.sz).sum:=by
 grind[iX,aZp,jQ,eQ,aUy]
def aK5 (w:AA):(dG w).1.sz<=w.sz:=by
 grind[aX,eQ,aHe,AA.sz,Td,dG]
theorem aSj (b:AE)(x:AI):(Ey b x).Entries.length<=b.Entries.length+1:=by
 grind[decide,aN,List.length,List.takeWhile_append_dropWhile,sD,List.length_append,List.length_singleton,Ey]
theorem bF5 (b:AE)(s h:Int):(aSh b s h).1.Entries.length<=b.Entries.length+1:=by
 grind[decide,aN,default,aS,Ey,aHf,aSj,aSh]
theorem bF6 (b:AE)(s h:Int):(aSi b s h).1.Entries.length<=b.Entries.length+1:=by
 grind[aS,decide,aN,default,aSj,bJv,aSi]
theorem aZq (d:AC)(n:ByteArray)(h:Int)(rm:Bool):(fT d n h rm).1.sz<=d.sz+1:=by
 grind[Pq,AC.sz,bF6,bF5,fT]
def jR (c:AL)(b:Int):AH×Bool:=bif decide (b<0)||decide (b>=(c.History.length:Int)) then(⟨0,0,[],0⟩,false) else(c.History.getD (c.History.length-1-b.toNat) default,true)
def aUz (a b:AD):Bool:=a.Index==b.Index&&(a.Kind==b.Kind&&(a.Device==b.Device&&(a.By==b.By&&(a.Previous==b.Previous&&(a.Signature==b.Signature&&true)))))
def dY (a b:List AD):Bool:=decide (b.length<=a.length)&& !dP (λi e=> !aUz (a.getD i default) e) 0 b
def oF (k:Int)(b:AH):Int:=bH k ([227,b.Epoch,b.Version]++Y1 b.Data)
def oG (k e v:Int):Int:=aJ k [223,e,v]
def uvE:Nat->Int->List Int
 |0,n=>[n]
 |k+1,n=>bif decide (n>127) then(n%128+128)::uvE k (n/128) else[n]
theorem aPp:∀(k:Nat) (n:Int),1<=(uvE k n).length/\(uvE k n).length<=k+1
 |0,n=>by simp[uvE]
 |k+1,n=>by
  have:=aPp k (n/128);unfold uvE;cases decide (n>127)<;>simp<;>omega
def bF7 {k:Nat}{z:Int}(h:z<=127):uvE k z=[z]:=by cases k<;>grind[uvE,decide_eq_false]
def aXa:∀(k:Nat) (m n:Int) (x y:List Int),0<=m->0<=n->uvE k m++x=uvE k n++y->m=n/\x=y
 |0,m,n,x,y,_,_,h=>by simpa[uvE] using h
 |k+1,m,n,x,y,h0,h1,h=>by
  unfold uvE at h;by_cases hm:m>127<;>by_cases hn:n>127
  ·simp only[ap hm,ap hn,ac,cJ,fi] at h;have:=aXa k (m/128) (n/128) x y (by omega) (by omega) h.2;exact⟨by omega,this.2⟩
  ·simp only[ap hm,ax hn,ac,ah,cJ,fi] at h;omega
  ·simp only[ax hm,ap hn,ac,ah,cJ,fi] at h;omega
  ·simpa only[ax hm,ax hn,ah,cJ,bo,fi] using h
def aSk {F:(Int×List Int->Option (Int×List Int))->Int×List Int->Option (Int×List Int)}
  (a:∀rec (n:Int) (s:List Int),0<=n->n<9223372036854775807->s.length<=34359738368->F rec (n,s)=bif decide (n>127) then rec (n/128,s++[n%128+128]) else some (n,s)):
  ∀(k:Nat) (n:Int) (s:List Int) (f:Nat),k<f->0<=n->n<128^(k+1)->k<=6->s.length+k<=34359738368->∃m q,EV.bG f F (n,s)=some (m,q)/\q++[m]=s++uvE k n/\0<=m/\m<=127
 |0,n,s,f+1,b,h0,h1,_,hs=>by
  refine⟨n,s,?_,rfl,h0,by simp at h1;omega⟩;rw[jP,a _ _ _ h0 (by simp at h1;omega) (by omega),ax (by simp at h1;omega)];rfl
 |k+1,n,s,f+1,b,h0,h1,hk,hs=>by
  have h2:(128:Int)^(k+1+1)=128*128^(k+1):=by rw[gi];omega
  have h:(128:Int)^(k+1+1)<=128^8:=by exact_mod_cast gl (by omega) (by omega)
  have i:(128:Int)^8=72057594037927936:=by decide
  rw[jP,a _ _ _ h0 (by omega) (by omega)];unfold uvE;by_cases hn:n>127
  ·rw[ap hn,ac,ac];obtain⟨m,q,c,d,e⟩:=aSk a k (n/128) (s++[n%128+128]) f (by omega) (by omega) (by omega) (by omega) (by simp;omega);exact⟨m,q,c,by rw[d];simp,e⟩
  ·rw[ax hn,ah,ah];exact⟨n,s,rfl,rfl,h0,by omega⟩
theorem bF8 {n:Int}(h0:0<=n)(h1:n<9223372036854775808):mR .i64 n 127=n%128:=by
 obtain⟨m,rfl⟩:=eM h0;have e:((BitVec.ofInt 64 (m:Int))&&&(BitVec.ofInt 64 127)).toNat=m%128:=by
  rw[BitVec.toNat_and];have a:(BitVec.ofInt 64 (m:Int)).toNat=m:=by grind
  have b:(BitVec.ofInt 64 127).toNat=2^7-1:=by decide
  rw[a,b,fw]
 show IntKind.i64.wrap (((BitVec.ofInt 64 (m:Int))&&&(BitVec.ofInt 64 127)).toNat:Int)=_
 grind[aH]
theorem bJw {n:Int}(h0:0<=n)(h1:n<128):orI .i64 n 128=n+128:=by
 obtain⟨m,rfl⟩:=eM h0;have e:((BitVec.ofInt 64 (m:Int))|||(BitVec.ofInt 64 128)).toNat=m+128:=by
  rw[BitVec.toNat_or];have a:(BitVec.ofInt 64 (m:Int)).toNat=m:=by grind
  have c:(BitVec.ofInt 64 128).toNat=1<<<7:=by decide
  have:=ij (b:=m) (i:=7) (by omega) 1
  grind
 show IntKind.i64.wrap (((BitVec.ofInt 64 (m:Int))|||(BitVec.ofInt 64 128)).toNat:Int)=_
 grind[aH]
theorem bLn {n:Int}(h0:0<=n):Aa .i64 n 7=n/128:=by unfold Aa;rw[show min (Int.toNat 7) IntKind.i64.bits=7 from by decide,fW _ (by decide)];rfl
theorem aSl {n:Int}(h0:0<=n)(h1:n<=255):IntKind.u8.wrap n=n:=by rw[IntKind.wrap_u8];omega
def enc1 (n:Int):List Int:=bif bD n 0 1000000000000 then uvE 5 n else[]
def Ku (b:List Int)(n:Int):List Int:=b++enc1 n
def kY (l:List Int):List Int:=(l.map enc1).flatten
theorem aHh (n:Int):(enc1 n).length<=6:=by have:=(aPp 5 n).2;unfold enc1;cases bD n 0 1000000000000<;>simp<;>omega
theorem aPq {n:Int}(h:0<=n/\n<=1000000000000):enc1 n=uvE 5 n:=by
 grind[decide_eq_true,enc1,bD]
theorem vG (n:Int)(l:List Int):kY (n::l)=enc1 n++kY l:=rfl
theorem d9:∀l:List Int,(kY l).length<=6*l.length
 |[]=>by simp[kY]
 |n::l=>by
  have:=d9 l
  grind[vG,List.length_append,List.length_cons,aHh]
def aSm (l:List Int):Prop:=∀v∈l,0<=v/\v<=(1000000000000:Int)
theorem aSn:∀(s t x y:List Int),aSm s->aSm t->s.length=t.length->kY s++x=kY t++y->s=t/\x=y
 |[],[],x,y,_,_,_,h=>⟨rfl,h⟩
 |m::s,n::t,x,y,hs,ht,hl,h=>by
  have hm:=hs m (by simp);have hn:=ht n (by simp);rw[vG,vG,co,co,aPq hm,aPq hn] at h;obtain⟨h1,h2⟩:=aXa 5 m n _ _ hm.1 hn.1 h;obtain⟨a,b⟩:=aSn s t x y (λv hv=>hs v (by simp[hv])) (λv hv=>ht v (by simp[hv])) (by simpa using hl) h2;exact⟨by rw[h1,a],b⟩
theorem aXb {b:List Int}(hb:aR b){p:Nat}:∀(k i:Nat) (n m e:Int),uvG b p (k+1) i n=(m,e,true)->∃(r:Int) (q:Nat),(0<=r/\m=n+r*128^i/\m<=1000000000000/\e=(q:Int)/\q<=b.length/\(0<i->r≠0))/\b.drop (p+i)=uvE k r++b.drop q
 |k,i,n,m,e,h=>by
  unfold uvG at h;by_cases a:p+i<b.length
  ·rw[cG a] at h;have l:=Kk hb a;have hg:b.getD (p+i) 0=b[p+i]:=by simp[List.getD,aa a]
   rw[hg] at h;have hd:b.drop (p+i)=b[p+i]::b.drop (p+i+1):=cM a;generalize b[p+i]=z at l h hd;by_cases c:z<128
   ·rw[ap c,ac] at h;have d:z%128=z:=by omega
    rw[d] at h;cases hc:(decide (0<i)&&z==0)||decide (n+z*128^i>1000000000000) with
    |true=>rw[hc] at h;simp at h
    |false=>rw[hc,ah] at h;rw[bz] at hc;have h1:=of_decide_eq_false hc.2;injection h with f j;injection j with j w;refine⟨z,p+i+1,⟨l.1,f.symm,by omega,j.symm,by omega,λhi h0=> ?_⟩,by rw[hd,bF7 (by omega)];rfl⟩;subst h0;simp[hi] at hc
   ·rw[ax c,ah] at h
    match k,h with
    |0,h=>simp[uvG] at h
    |k+1,h=>
     obtain⟨r,q,⟨h1,h2,o,s,t,u⟩,v⟩:=aXb hb k (i+1) _ m e h;have hr:=u (by omega);refine⟨z%128+128*r,q,⟨by omega,?_,o,s,t,λ_=>by omega⟩,?_⟩
     ·rw[h2,gi,Int.add_mul,<-Int.add_assoc];congr 1;rw[gj 128 r,fX,gj 128]
     ·rw[hd,show p+i+1=p+(i+1) from by omega,v];have f:uvE (k+1) (z%128+128*r)=z::uvE k r:=by rw[uvE,ap (show z%128+128*r>127 by omega),ac,show(z%128+128*r)%128+128=z by omega,show(z%128+128*r)/128=r by omega]
      rw[f];rfl
  ·rw[dh a] at h;simp at h
def aPr {b:List Int}(hb:aR b){a m e:Int}(h:Jq b a=(m,e,true)):∃q:Nat,(0<=a/\0<=m/\m<=1000000000000/\e=(q:Int)/\q<=b.length)/\b.drop a.toNat=enc1 m++b.drop q:=by
 grind[aXb,aPq,Jq]
def o5 {b:List Int}(hb:aR b):∀(k:Nat) (a:Int) (s v:List Int) (e:Int),0<=a->a<=b.length->kD b k a s=(v,e,true)->∃(t:List Int) (q:Nat),(v=s++t/\t.length=k/\e=(q:Int)/\q<=b.length/\aSm t)/\b.drop a.toNat=kY t++b.drop q
 |0,a,s,v,e,h0,h1,h=>by
  unfold kD at h;injection h with i d;injection d with d _;exact⟨[],a.toNat,⟨by simp[i],rfl,by omega,by omega,λv hv=>by simp at hv⟩,rfl⟩
 |k+1,a,s,v,e,h0,h1,h=>by
  unfold kD at h;cases f:Jq b a with
  |mk m r=>
   obtain⟨e',ok⟩:=r;rw[f] at h;cases ok with
   |false=>simp at h
   |true=>
    obtain⟨q,⟨p,j,l,n,u⟩,o⟩:=aPr hb f;subst n;obtain⟨t,q',⟨k1,k2,k3,k4,k5⟩,k6⟩:=o5 hb k (q:Int) (s++[m]) v e (by omega) (by omega) h;refine⟨m::t,q',⟨by rw[k1];simp,by simp[k2],k3,k4,λx c=> ?_⟩,by rw[o,vG,co];congr 1⟩;rcases ay.1 c with rfl|c
    ·exact⟨j,l⟩
    ·exact k5 x c
def aHi {b:List Int}:∀(j k:Nat) (a:Int) (s:List Int),kD b (j+k) a s=bif (kD b j a s).2.2 then kD b k (kD b j a s).2.1 (kD b j a s).1 else([],0,false)
 |0,k,a,s=>by rw[cn];rfl
 |j+1,k,a,s=>by
  have e:∀m,kD b (m+1) a s=bif (Jq b a).2.2 then kD b m (Jq b a).2.1 (s++[(Jq b a).1]) else([],0,false):=λ_=>rfl;rw[show j+1+k=j+k+1 by omega,e,e];cases(Jq b a).2.2 with
  |false=>rfl
  |true=>exact aHi j k _ _
def aHj {b:List Int}:∀(k:Nat) (a:Int) (s:List Int),kD b k a s=bif (kD b k a []).2.2 then(s++(kD b k a []).1,(kD b k a []).2.1,true) else([],0,false)
 |0,a,s=>by simp[kD]
 |k+1,a,s=>by
  unfold kD;cases(Jq b a).2.2 with
  |false=>rfl
  |true=>simp only[ac,bo];rw[aHj k _ (s++[(Jq b a).1]),aHj k _ [(Jq b a).1]];cases(kD b k (Jq b a).2.1 []).2.2<;>simp
def aZr (e:AI):List Int:=[e.Site,e.Handle,e.Version,bif e.Deleted then 1 else 0]
def nW:List Int->List AI
 |s::h::v::d::r=>⟨s,h,v,d==1⟩::nW r
 |_=>[]
def yD:List Int->Bool
 |_::_::_::d::r=>decide (d<=1)&&yD r
 |_=>true
def tT (l:List AI):List Int:=l.flatMap aZr
theorem Bj:∀l:List AI,(tT l).length=4*l.length
 |[]=>rfl
 |e::l=>by
  have:=Bj l
  grind[aZr,tT,List.length_append,List.length_cons]
def aHk:∀(k:Nat) (l:List Int),l.length=4*k->(nW l).length=k
 |0,[],_=>rfl
 |k+1,s::h::v::d::r,hl=>by
  have:=aHk k r (by simp at hl;omega);simp[nW,this]
def aNm:∀(k:Nat) (l:List Int),l.length=4*k->aSm l->aSm (tT (nW l))/\(yD l=true↔tT (nW l)=l)
 |0,[],_,_=>⟨λv h=>by simp[tT,nW] at h,by simp[yD,tT,nW]⟩
 |k+1,s::h::v::d::r,hl,ho=>by
  obtain⟨h1,h2⟩:=aNm k r (by simp at hl;omega) (λx a=>ho x (by simp[a]));have hs:=ho s (by simp);have b:=ho h (by simp);have hv:=ho v (by simp);have hd:=ho d (by simp);have e:tT (nW (s::h::v::d::r))=s::h::v::(bif d==1 then 1 else 0)::tT (nW r):=by simp[nW,tT,aZr]
  rw[e];refine⟨λx a=> ?_,?_⟩
  ·simp only[ay] at a;rcases a with rfl|rfl|rfl|rfl|a
   ·exact hs
   ·exact b
   ·exact hv
   ·cases(d==1)<;>simp
   ·exact h1 x a
  ·simp only[yD,ab,cY,fi,true_and,h2];refine and_congr_left' ?_;by_cases h1:d=1
   ·subst h1;simp
   ·rw[show(d==1)=false by simpa using h1,ah];omega
def aSo:∀(k:Nat) (l r:List Int),l.length=4*k->nW (l++r)=nW l++nW r
 |0,[],r,_=>rfl
 |k+1,s::h::v::d::l,r,hl=>by
  have:=aSo k l r (by simp at hl;omega);simp[nW,this]
def Kv (b:AE):List Int:=[(b.Entries.length:Int)]++tT b.Entries
def yE (b:AE):List Int:=bif aS b then kY (Kv b) else[]
def bC7 (d:List Int)(v:List Int×Int×Bool):AE×Bool:=bif !v.2.2||(v.2.1 !=(d.length:Int)||(!yD v.1|| !aS ⟨nW v.1⟩)) then(⟨[]⟩,false) else(⟨nW v.1⟩,true)
def aHl (d:List Int):AE×Bool:=bif !(Jq d 0).2.2||decide ((Jq d 0).1>20) then(⟨[]⟩,false) else bC7 d (kD d (4*(Jq d 0).1).toNat (Jq d 0).2.1 [])
def oH (key:Int)(s:AH):AE×Bool:=bif !(bQ key&&(bD s.Epoch 0 1000000&&bD s.Version 0 1000000))||s.MAC !=oF key s then(⟨[]⟩,false) else aHl (aPl (oG key s.Epoch s.Version) s.Data)
def bC8 {d:List Int}(hd:aR d){n e e':Int}{v:List Int}(h:Jq d 0=(n,e,true))(hn:n<=20)(c:kD d (4*n).toNat e []=(v,e',true)):(kY (Kv ⟨nW v⟩)=d↔(e'=(d.length:Int)/\yD v=true))/\v.length=4*n.toNat/\aSm v/\(nW v).length=n.toNat:=by
 obtain⟨q,⟨_,k,m,f,o⟩,p⟩:=aPr hd h;subst f;obtain⟨t,q',⟨k1,k2,k3,k4,k5⟩,k6⟩:=o5 hd _ _ _ _ _ (by omega) (by omega) c;rw[bo] at k1;subst k1;have hl:v.length=4*n.toNat:=by omega
 obtain⟨r,s⟩:=aNm n.toNat v hl k5;have b:=aHk n.toNat v hl;refine⟨?_,hl,k5,b⟩;have i:d=kY (n::v)++d.drop q':=by
  grind[vG,List.append_assoc,k6,Int.toNat]
 have hv:Kv ⟨nW v⟩=n::tT (nW v):=by show((nW v).length:Int)::_=_;simp at*;omega
 rw[hv];constructor
 ·intro hq;have a:kY (n::tT (nW v))++[]=kY (n::v)++d.drop q':=by grind
  have j:∀l,aSm l->aSm (n::l):=λl hl x a=>by
   rcases ay.1 a with rfl|a
   ·omega
   ·exact hl x a
  grind[List.cons.inj,List.length_nil,List.length_drop,List.length,aSn,k5,Bj]
 grind[List.drop_eq_nil_of_le]
def aNn (l:List Int):(EV.aYo l).data.toList=l.map λn=>UInt8.ofNat n.toNat:=by
 unfold EV.aYo;have:∀(l:List Int) (r:ByteArray),(l.foldl (λr n=>r.push (UInt8.ofNat n.toNat)) r).data.toList=r.data.toList++l.map λn=>UInt8.ofNat n.toNat:=by intro l;induction l<;>simp_all
 simp[*]
def bytes_inj:∀{a b:List Int},(∀z∈a,0<=z/\z<=255)->(∀z∈b,0<=z/\z<=255)->(a.map λn=>UInt8.ofNat n.toNat)=(b.map λn=>UInt8.ofNat n.toNat)->a=b
 |[],[],_,_,_=>rfl
 |[],y::b,_,_,h=>by simp at h
 |x::a,[],_,_,h=>by simp at h
 |x::a,y::b,d,hb,h=>by
  simp only[bh,fi] at h;have f:=d x (by simp);have i:=hb y (by simp);have e:=congrArg UInt8.toNat h.1;rw[UInt8.toNat_ofNat',UInt8.toNat_ofNat'] at e;rw[bytes_inj (λz c=>d z (by simp[c])) (λz c=>hb z (by simp[c])) h.2,show x=y by omega]
def aDa {b:List Int}(h:aR b):∀z∈b,0<=z/\z<=255:=λz a=>by simpa using ck.1 h.2 z a
def aHm {b:List Int}(h:b.length<=34359738368)(h1:∀z∈b,0<=z/\z<=255):aR b:=⟨h,ck.2 λz a=>by simpa using h1 z a⟩
def aNo:∀(k:Nat) (n:Int),0<=n->n<128^(k+1)->∀z∈uvE k n,0<=z/\z<=255
 |0,n,h0,h1,z,a=>by simp[uvE] at a;subst a;simp at h1;omega
 |k+1,n,h0,h1,z,a=>by
  have h2:(128:Int)^(k+1+1)=128*128^(k+1):=by rw[gi];omega
  unfold uvE at a;by_cases hn:n>127
  ·rw[ap hn,ac] at a;rcases ay.1 a with rfl|a
   ·omega
   ·exact aNo k (n/128) (by omega) (by omega) z a
  ·rw[ax hn,ah] at a;simp at a;subst a;omega
def aU0 (n:Int):∀z∈enc1 n,0<=z/\z<=255:=λz a=>by
 unfold enc1 at a;cases hr:bD n 0 1000000000000 with
 |false=>simp_all
 |true=>
  rw[hr] at a;have:=fZ hr;have b:(128:Int)^(5+1)=4398046511104:=by decide
  exact aNo 5 n this.1 (by omega) z a
def aHn (l:List Int):∀z∈kY l,0<=z/\z<=255:=λz a=>by
 unfold kY at a;obtain⟨x,b,a⟩:=ig.1 a;obtain⟨n,_,rfl⟩:=cj.1 b;exact aU0 n z a
theorem vU {b:AE}(h:aS b=true):b.Entries.length<=20:=by
 grind[aS]
def aSp (b:AE):aR (yE b):=by
 unfold yE;cases hb:aS b with
 |false=>exact⟨by simp,rfl⟩
 |true=>
  have:=vU hb;have h1:=d9 (Kv b);have h2:(Kv b).length=1+4*b.Entries.length:=by grind[Kv,Bj]
  exact aHm (by grind) (aHn _)
theorem bC9 (d:List Int):(aHl d).1.sz<=20:=by
 grind[Jq,decide,kD,bC7,aS,nW,Bool.not_false,vU,yD,AE.sz,aHl]
theorem aZs (k:Int)(s:AH):(oH k s).1.sz<=20:=by
 grind[bQ,bD,oF,AE.sz,bC9,oH]
theorem aZt {a b:AE}(h:(nG a b).2=true):(nG a b).1.sz<=20:=by
 grind[aS,dL,vU,AE.sz,nG]
def nD (d:AC)(log:List AD)(bx:AK)(s:AH):Int:=
 bif !bI log|| !dY log d.Log then 1 else bif !gT (aD log) (bO d.Store) then 2 else bif bx.Epoch !=aK log|| !(eO d.Store bx).2 then 3
 else bif decide (s.Epoch<aK log)||(decide (s.Epoch<d.Epoch)||(s.Epoch==d.Epoch&&decide (s.Version<d.Version))) then 4
 else bif !(oH (eO d.Store bx).1 s).2|| !(nG d.aAF (oH (eO d.Store bx).1 s).1).2 then 5 else 0
def dD (d:AC)(log:List AD)(bx:AK)(s:AH):AC×Int:=
 bif nD d log bx s==0 then(⟨d.Store,log,(eO d.Store bx).1,s.Epoch,s.Version,(nG d.aAF (oH (eO d.Store bx).1 s).1).1⟩,0) else(d,nD d log bx s)
def tV (w:AA)(d b:Int):AA×Int:=bif aX w&&mE w d then({w with Devices:=w.Devices.set d.toNat (dD (dA w d) w.aAH.Log w.aAH.Boxes (jR w.aAH b).1).1},(dD (dA w d) w.aAH.Log w.aAH.Boxes (jR w.aAH b).1).2) else(w,1)
def Ps (w:AA)(d:Int):Bool:=w.Stolen.getD d.toNat false
theorem aU1 (d:AC)(l:List AD)(bx:AK)(s:AH):(dD d l bx s).1.sz<=d.sz+l.length+20:=by
 unfold dD;cases hc:nD d l bx s==0 with
 |false=>grind
 |true=>
  grind[AC.sz,AE.sz,aZt,nG,oH,eO,bx,nD,bI,dY,gT,aD,bO,aK,decide]
def aZu (k:Int)(i:Nat)(z:Int):Int:=IntKind.u8.wrap ((z+bH k [(i:Int)])%256)
def pV (k:Int)(b:List Int):List Int:=Ic (λi z=>[aZu k i z]) 0 b
def Bn (k e v:Int)(b:AE):AH:=⟨e,v,pV (oG k e v) (yE b),oF k ⟨e,v,pV (oG k e v) (yE b),0⟩⟩
def mX (k e v:Int)(b:AE):AH×Bool:=bif bQ k&&(bD e 0 1000000&&bD v 0 1000000)&&aS b then(Bn k e v b,true) else(⟨0,0,[],0⟩,false)
def jS (d:AC):AC×AH×Bool:=bif (mX d.Key d.Epoch (IntKind.i64.wrap (d.Version+1)) d.aAF).2 then({d with Version:=IntKind.i64.wrap (d.Version+1)},(mX d.Key d.Epoch (IntKind.i64.wrap (d.Version+1)) d.aAF).1,true) else(d,⟨0,0,[],0⟩,false)
def nI (a b:AH):Bool:=decide (a.Epoch>b.Epoch)||(a.Epoch==b.Epoch&&decide (a.Version>b.Version))
def dO (c:AL)(s:AH):AL×Bool:=bif s.Epoch !=aK c.Log||((decide ((c.History.length:Int)>0)&& !nI s (c.History.getD (c.History.length-1) default))||decide ((c.History.length:Int)>=60)) then(c,false) else({c with History:=c.History++[s]},true)
def upF (w:AA)(d:Int):AA×Bool:=bif (jS (dA w d)).2.2&&(dO w.aAH (jS (dA w d)).2.1).2 then({w with Devices:=w.Devices.set d.toNat (jS (dA w d)).1,aAH:=(dO w.aAH (jS (dA w d)).2.1).1},true) else(w,false)
def aXc (w:AA)(d:Int):AA×Bool:=bif (tV w d 0).2==0&&(upF (tV w d 0).1 d).2 then((upF (tV w d 0).1 d).1,true) else(w,false)
def aFq:List Int->AA->AA×Bool
 |[],w=>(w,true)
 |i::l,w=>bif (aXc w i).2 then aFq l (aXc w i).1 else(w,false)
def aPs:List Int->AA->AA×Bool
 |[],w=>(w,true)
 |i::l,w=>bif (tV w i 0).2==0 then aPs l (tV w i 0).1 else(w,false)
def bF9 (w:AA):AA×Bool:=bif aX w&&((aFq (vR w) w).2&&(aPs (vR w) (aFq (vR w) w).1).2) then((aPs (vR w) (aFq (vR w) w).1).1,true) else(w,false)
theorem Pt (b:AE):(yE b).length<=500:=by
 grind[aS,vU,d9,Kv,Bj,yE]
theorem Bo (k:Int)(b:List Int):(pV k b).length=b.length:=by simp[Bg,pV]
def aNp (k e v:Int)(b:AE):(mX k e v b).1.Data.length<=500:=by
 grind[bQ,bD,aS,Bn,Bo,Pt,mX]
theorem Pv (d:AC):(jS d).1.sz=d.sz/\(jS d).2.1.Data.length<=500:=by
 unfold jS;have:=aNp d.Key d.Epoch (IntKind.i64.wrap (d.Version+1)) d.aAF;cases(mX d.Key d.Epoch (IntKind.i64.wrap (d.Version+1)) d.aAF).2 with
 |false=>simp
 |true=>exact⟨rfl,this⟩
theorem Fa (c:AL)(s:AH):(dO c s).1.sz<=c.sz+1+s.Data.length/\(dO c s).1.Log=c.Log:=by
 unfold dO;cases s.Epoch !=aK c.Log||((decide ((c.History.length:Int)>0)&& !nI s (c.History.getD (c.History.length-1) default))||decide ((c.History.length:Int)>=60)) with
 |true=>grind
 |false=>grind[AL.sz,List.length_append,List.length_cons,List.length_nil,AH.sz]
theorem aHo {α:Type}{f:α->Nat}:∀{l:List α} {i:Nat} {x:α} (hi:i<l.length),((l.set i x).map f).sum+f l[i]=(l.map f).sum+f x
 |y::l,0,x,_=>by simp only[gz,bh,du,List.getElem_cons_zero];omega
 |y::l,i+1,x,h=>by
  have:=aHo (f:=f) (l:=l) (i:=i) (x:=x) (by simpa using h);simp only[fR,bh,du,eR];omega
theorem bDa {k z:Int}(i:Nat)(h:0<=z/\z<=255):IntKind.u8.wrap ((IntKind.i64.wrap (IntKind.i64.wrap z+(bH k [(i:Int)]).tmod 256)).tmod 256)=aZu k i z:=by
 grind[aH,bH,Int.tmod_eq_emod_of_nonneg,aZu,mD]
def aQ (seed n:Int):AO:=⟨1,n,aJ seed [277,n],0⟩
def cZ (s:AO):AC:=⟨s,[],0,0,0,⟨[]⟩⟩
def bY (s:AO)(n:ByteArray)(h:Int):Int:=aJ s.Seed [179,cB n,h]
def gI (s:AO)(n:ByteArray)(h:Int):Int:=fH (bY s n h)
def oI (s:AO)(l:List Int):Int:=pU (iU s) l
def aU2 (log:List AD)(kind dev:Int)(s:AO):AD:=⟨(log.length:Int),kind,dev,bO s,fK log,0⟩
def aZv (log:List AD)(kind dev:Int)(s:AO):AD:={aU2 log kind dev s with Signature:=oI s [bU (aU2 log kind dev s)]}
def jM (log:List AD)(kind dev:Int)(s:AO):List AD×Bool:=bif (decide ((log.length:Int)>0)&& !bI log)|| !bI (log++[aZv log kind dev s]) then(log,false) else(log++[aZv log kind dev s],true)
def sG (p e:Int)(d:List Int):AN:=⟨p,e,pV (jL (eX p) e) d,aK3 (jL (eX p) e) ⟨p,e,pV (jL (eX p) e) d,0⟩⟩
def eH (p e:Int)(d:List Int):AN×Bool:=bif eX p==0||(!bQ e||decide ((d.length:Int)>200)) then(⟨0,0,[],0⟩,false) else(sG p e d,true)
def eU (e:Int)(d:List Int):Nat->List Int->List AN×Bool
 |_,[]=>([],true)
 |i,p::l=>bif (eH p (IntKind.i64.wrap (e+(i:Int))) d).2&&(eU e d (i+1) l).2 then((eH p (IntKind.i64.wrap (e+(i:Int))) d).1::(eU e d (i+1) l).1,true) else([],false)
def bK (log:List AD)(key eph:Int):AK×Bool:=bif !bI log||(!bQ key|| !(eU eph (kY [aK log,key]) 0 (aD log)).2) then(⟨0,[]⟩,false) else(⟨aK log,(eU eph (kY [aK log,key]) 0 (aD log)).1⟩,true)
def rQ (e:AK)(d:Int):Int:=e.Boxes.foldl (λn b=>bif b.To==d then IntKind.i64.wrap (n+1) else n) 0
def kE (e:AK)(log:List AD):Bool:=(e.Epoch==aK log&&(e.Boxes.length:Int)==((aD log).length:Int))&&(aD log).all λd=>rQ e d==1
def bJx (c:AL)(log:List AD)(e:AK):AL×Bool:=bif !bI log||(!dY log c.Log|| !kE e log) then(c,false) else({c with Log:=log,Boxes:=e},true)
def Uy (h:Int)(l:List AV):Nat:=(l.takeWhile λc=>decide (c.Handle<h)).length
def aDu (l:List AV)(h p:Int):List AV:=l.take (Uy h l)++[⟨h,p,0,false⟩]++l.drop (Uy h l)
def iG (a:AJ)(h p:Int):AJ×Bool:=bif !bR a|| !bR {a with Credentials:=aDu a.Credentials h p} then(a,false) else({a with Credentials:=aDu a.Credentials h p},true)
def iL (s:AF)(id h p:Int):AF×Bool:=bif !dN s||decide (aU s id<0) then(s,false) else bif (iG (s.Accounts.getD (aU s id).toNat default) h p).2 then({s with Accounts:=s.Accounts.set (aU s id).toNat (iG (s.Accounts.getD (aU s id).toNat default) h p).1},true) else(s,false)
def sH (l:List AP):Nat:=bif l.any (λn=>n.Seen) then(l.takeWhile λn=> !n.Seen).length else 0
def Bp (l:List AP):List AP:=bif decide ((l.length:Int)>30) then l.take (sH l)++l.drop (sH l+1) else l
def mO (m:AM)(k a t:Int):AM×Bool:=bif !dM m|| !dM ⟨Bp (m.Notices++[⟨k,a,t,false⟩])⟩ then(m,false) else(⟨Bp (m.Notices++[⟨k,a,t,false⟩])⟩,true)
def bDb (w:AA)(by_ kind a:Int)(key:List AD->Int):AA×Bool:=
 let l:=jM w.aAH.Log kind a (dA w by_).Store;let e:=bK l.1 (key l.1) (IntKind.i64.wrap (1000+IntKind.i64.wrap (10*(l.1.length:Int))));let c:=bJx w.aAH l.1 e.1
 bif l.2&&(e.2&&c.2) then({w with aAH:=c.1},true) else(w,false)
theorem aHp (log:List AD)(k d:Int)(s:AO):(jM log k d s).1.length<=log.length+1:=by unfold jM;cases(decide ((log.length:Int)>0)&& !bI log)|| !bI (log++[aZv log k d s])<;>simp
theorem aU3 (p e:Int)(d:List Int):(eH p e d).1.sz<=d.length:=by
 grind[eX,bQ,decide,AN.sz,sG,Bo,eH]
def aSq {e:Int}{d:List Int}:∀{i:Nat} {l:List Int},(eU e d i l).1.length<=l.length/\((eU e d i l).1.map AN.sz).sum<=l.length*d.length
 |i,[]=>by simp[eU]
 |i,p::l=>by
  have h1:=aSq (e:=e) (d:=d) (i:=i+1) (l:=l)
  grind[eH,eU,List.length_cons,Nat.add_mul,aU3]
theorem aSr (a b:Int):(kY [a,b]).length<=12:=d9 [a,b]
theorem aNq (log:List AD)(k e:Int):(bK log k e).1.sz<=13*log.length:=by
 unfold bK;have h1:=aSq (e:=e) (d:=kY [aK log,k]) (i:=0) (l:=aD log);have h2:=kV log;have a:=aSr (aK log) k;have b:=fc (aD log).length a
 grind[bI,bQ,eU,kY,aK,aD,AK.sz]
theorem aSs (l:List AV)(h p:Int):(aDu l h p).length=l.length+1:=by
 grind[aDu,List.length_append,List.length_take,List.length_drop,List.length_singleton]
theorem aU4 (a:AJ)(h p:Int):(iG a h p).1.sz<=a.sz+1:=by
 grind[bR,aDu,AJ.sz,aSs,iG]
theorem aNr (l:List AP):(Bp l).length<=l.length:=by
 grind[decide,List.length_append,List.length_take,List.length_drop,Bp]
theorem aXd (m:AM)(k a t:Int):(mO m k a t).1.sz<=m.sz+1:=by
 grind[dM,Bp,AM.sz,List.length_append,List.length_singleton,aNr,mO]
def aDb {α:Type}{p:α->Bool}{i:Nat}{l:List α}(h:decide (iR p i l<0)=false):(i:Int)<=iR p i l/\iR p i l<i+l.length:=by induction l generalizing i<;>grind[iR,List.length_cons]
theorem aZw (s:AF)(id h p:Int):(iL s id h p).1.sz<=s.sz+1:=by
 unfold iL;cases hc: !dN s||decide (aU s id<0) with
 |true=>simp
 |false=>
  rw[bz] at hc;have hr:=aDb hc.2
  grind[iG,aU,id,default,aHo,AJ.sz,aU4,List.getD,List.getElem?_eq_getElem,AF.sz,List.length_set]
def appW (w:AA)(x:AC):AA:={w with Devices:=w.Devices++[x],Stolen:=w.Stolen++[false]}
def bLo (d:AC)(h:Int)(rm:Bool):AC:=(fT (fT d (aA 0) h rm).1 (aA 1) h rm).1
def aU5 (st:AO)(n:Int):Nat->List AF->List AF×Bool
 |_,[]=>([],true)
 |j,s::l=>bif (iL s 1 n (gI st (aA (j:Int)) n)).2&&(aU5 st n (j+1) l).2 then((iL s 1 n (gI st (aA (j:Int)) n)).1::(aU5 st n (j+1) l).1,true) else([],false)
def o6 (w:AA)(k:Int):AA:={w with Mail:=(mO w.Mail k 1 w.Now).1}
def add1 (w:AA)(b:Int):AA×Bool:=bDb (tV w b 0).1 b 1 (bO (aQ w.Seed (w.Devices.length:Int))) λ_=>(dA (tV w b 0).1 b).Key
def bLp (w:AA)(b:Int):List AF×Bool:=aU5 (aQ w.Seed (w.Devices.length:Int)) (w.Devices.length:Int) 0 (add1 w b).1.Sites
def bLq (w:AA)(b:Int):AA×Bool:=aXc {(add1 w b).1 with Sites:=(bLp w b).1,Devices:=(add1 w b).1.Devices.set b.toNat (bLo (dA (add1 w b).1 b) (w.Devices.length:Int) false)} b
def bLr (w:AA)(b:Int):AA×Int:=tV (appW (bLq w b).1 (cZ (aQ w.Seed (w.Devices.length:Int)))) (w.Devices.length:Int) 0
def bLs (w:AA)(b:Int):Bool:=(aX w&&(mE w b&&(!Ps w b&& !decide ((w.Devices.length:Int)>=6))))&&((tV w b 0).2==0&&((add1 w b).2&&((bLp w b).2&&((bLq w b).2&&(bLr w b).2==0))))
def bGa (w:AA)(b:Int):AA×Bool:=bif bLs w b then(o6 (bLr w b).1 2,true) else(w,false)
theorem bGb (w:AA)(k:Int):(o6 w k).sz<=w.sz+1:=by
 grind[o6,AA.sz,AM.sz,aXd]
theorem aNs {α:Type}{p:α->Bool}:∀{l:List α} {i:Nat} (hi:i<l.length),i<(l.takeWhile p).length->p l[i]=true
 |x::l,0,_,h=>by
  simp only[cP] at h;cases hp:p x with
  |true=>exact hp
  |false=>rw[hp] at h;simp at h
 |x::l,i+1,hi,h=>by
  simp only[cP] at h;cases hp:p x with
  |true=>
   have a:i<(l.takeWhile p).length:=by simpa[hp] using h
   exact aNs (l:=l) (i:=i) (by simpa using hi) a
  |false=>rw[hp] at h;simp at h
theorem aNt {α:Type}{p:α->Bool}:∀{l:List α} (h:(l.takeWhile p).length<l.length),p (l[(l.takeWhile p).length]'h)=false
 |x::l,h=>by
  cases hp:p x with
  |true=>
   have a:(l.takeWhile p).length<l.length:=by simpa[cP,hp] using h
   simpa[cP,hp] using aNt a
  |false=>simp[cP,hp]
theorem Kw {α:Type}{p:α->Bool}{l:List α}:(l.takeWhile p).length<=l.length:=(List.takeWhile_prefix p).length_le
def Y4 {α τ S:Type}{l:List α}(p:α->Bool)(fin:Nat->Option τ)(e:Nat->S){F:(S->Option τ)->S->Option τ}(hl:l.length<=34359738368)
  (a:∀rec i (hi:i<l.length),F rec (e i)=bif p l[i] then rec (e (i+1)) else fin i) (b:∀rec,F rec (e l.length)=fin l.length):EV.bG FUEL F (e 0)=fin (l.takeWhile p).length:=by
 have go:∀(k i n:Nat),i+k=(l.takeWhile p).length->k<n->EV.bG n F (e i)=fin (l.takeWhile p).length:=by
  intro k;induction k with
  |zero=>
   intro i n hi hn;obtain⟨n,rfl⟩:∃m,n=m+1:=⟨n-1,by omega⟩
   grind[Kw,aNt,jP]
  |succ k c=>
   intro i n hi hn;obtain⟨n,rfl⟩:∃m,n=m+1:=⟨n-1,by omega⟩
   grind[jP,aNs,Kw]
 have:=Kw (p:=p) (l:=l);exact go (l.takeWhile p).length 0 FUEL (by omega) (by grind[gM])
def aNu {e:Int}{d:List Int}{l:List Int}{τ:Type}{x:τ}{F:(List AN×Nat->Option (τ⊕List AN))->List AN×Nat->Option (τ⊕List AN)}
  (a:∀rec i s (hi:i<l.length),s.length<=i->F rec (s,i)=bif !(eH l[i] (IntKind.i64.wrap (e+(i:Int))) d).2 then some (.inl x) else rec (s++[(eH l[i] (IntKind.i64.wrap (e+(i:Int))) d).1],i+1)) (b:∀rec s,F rec (s,l.length)=some (.inr s)):
  ∀(k i n:Nat) (s:List AN),i+k=l.length->k<n->s.length<=i->EV.bG n F (s,i)=some (bif (eU e d i (l.drop i)).2 then .inr (s++(eU e d i (l.drop i)).1) else .inl x)
 |0,i,n+1,s,h,_,_=>by
  have:i=l.length:=by omega
  subst this;rw[jP,b,gb];simp[eU]
 |k+1,i,n+1,s,h,hn,hs=>by
  have hi:i<l.length:=by omega
  rw[jP,a _ i s hi hs,cM hi,eU];cases hb:(eH l[i] (IntKind.i64.wrap (e+(i:Int))) d).2 with
  |false=>rfl
  |true=>rw[bf,ah,aNu a b k (i+1) n _ (by omega) (by omega) (by simp;omega)];cases(eU e d (i+1) (l.drop (i+1))).2<;>simp
def aU6 (l:List AP):Nat:=(l.takeWhile λn=> !n.Seen).length
def aZx {l:List AP}{x:AP}:aU6 (l++[x])=bif l.any (λn=>n.Seen) then aU6 l else bif x.Seen then l.length else l.length+1:=by
 induction l with
 |nil=>cases a:x.Seen<;>simp[aU6,a]
 |cons y l b=>
  grind[List.takeWhile_cons,Bool.not_false,List.length_cons,aU6]
def aNv {l:List AP}{F:(Int×Int->Option Int)->Int×Int->Option Int}(a:∀rec (k:Int) (i:Nat) (hi:i<l.length),F rec (k,(i:Int))=rec (bif l[i].Seen then(i:Int) else k,(i:Int)-1))(b:∀rec k,F rec (k,-1)=some k):
  ∀(n m:Nat) (k:Int),n<=l.length->n<m->EV.bG m F (k,(n:Int)-1)=some (bif (l.take n).any (λx=>x.Seen) then(aU6 (l.take n):Int) else k)
 |0,m+1,k,_,_=>by rw[jP,show((0:Nat):Int)-1= -1 from rfl,b];simp
 |n+1,m+1,k,h,hm=>by
  have hn:n<l.length:=by omega
  rw[jP,show((n+1:Nat):Int)-1=(n:Int) by omega,a _ _ n hn,aNv a b n m _ (by omega) (by omega),dl,aa hn];simp only[eu,io,aZx,List.any_cons,List.any_nil,jd,cq,im (Nat.le_of_lt hn)];cases(l.take n).any (λx=>x.Seen)<;>cases l[n].Seen<;>rfl
def aSt (l:List AP):(sH l:Int)=bif l.any (λx=>x.Seen) then(aU6 l:Int) else 0:=by unfold sH aU6;cases l.any (λn=>n.Seen)<;>rfl
def aSu {l:List AP}(h:0<l.length):sH l<l.length:=by
 unfold sH;cases hs:l.any (λn=>n.Seen) with
 |false=>exact h
 |true=>
  obtain⟨x,b,hp⟩:=eL.1 hs;have:∀l:List AP,x∈l->(l.takeWhile λn=> !n.Seen).length<l.length:=by
   intro l;induction l with
   |nil=>simp
   |cons y l c=>
    intro h;cases a:y.Seen with
    |true=>simp[a]
    |false=>
     rcases ay.1 h with rfl|h
     all_goals simp[*]
  simp[*]
def bGc {τ S:Type}{l:List AP}(fin:Int->Option τ)(st:Nat->S){F:(S->Option τ)->S->Option τ}(hl:l.length<=34359738368)(a:∀rec i (hi:i<l.length),F rec (st i)=bif l[i].Seen then fin (i:Int) else rec (st (i+1)))(b:∀rec,F rec (st l.length)=fin 0):EV.bG FUEL F (st 0)=fin (sH l:Int):=by
 have e:=Y4 (l:=l) (λn=> !n.Seen) (λi=>bif decide (i<l.length) then fin (i:Int) else fin 0) st (F:=F) hl (by grind) (by simp[*]);rw[e,aSt];cases hs:l.any (λn=>n.Seen) with
 |true=>
  have h0:0<l.length:=by grind
  have:=aSu h0;unfold sH at this;rw[hs,ac] at this;rw[ap this];rfl
 |false=>
  have c:∀l:List AP,l.any (λn=>n.Seen)=false->(l.takeWhile λn=> !n.Seen).length=l.length:=by intro l;induction l<;>simp_all
  simp[*]
def bDc {e:Int}{d:List Int}{i:Nat}{l:List Int}(h:(eU e d i l).2=false):eU e d i l=([],false):=by cases l<;>grind[eU,eH]
def bJy {s:AF}{i:Int}(b:s.sz<=34359738300)(h:decide (aU s i<0)=false):aW s.Accounts (aU s i)=some (s.Accounts.getD (aU s i).toNat default)/\(s.Accounts.getD (aU s i).toNat default).sz<=34359738300/\(aU s i).toNat<s.Accounts.length:=by
 have hr:=aDb (p:=λa:AJ=>a.Id==i) (i:=0) (l:=s.Accounts) h
 grind[AF.sz,vT,aU,aPn,AJ.sz]
def nJ (d:AC)(log:List AD)(key:Int):AC×Bool:=bif !bI log||(!dY log d.Log||(decide (aK log<d.Epoch)|| !bQ key)) then(d,false) else({d with Log:=log,Key:=key,Epoch:=aK log,Version:=0},true)
def dV (a:AJ)(h:Int):Int:=iR (λc=>c.Handle==h) 0 a.Credentials
def qY (a:AJ)(k:Int):AV:=a.Credentials.getD k.toNat default
def bDd (a:AJ)(h:Int):AJ×Bool:=bif !bR a||(decide (dV a h<0)||(qY a (dV a h)).Cut) then(a,false) else({a with Credentials:=a.Credentials.set (dV a h).toNat {qY a (dV a h) with Cut:=true}},true)
def Aj (s:AF)(k:Int):AJ:=s.Accounts.getD k.toNat default
def bGd (h:Int)(s:AF):AF:=bif decide (aU s 1>=0) then {s with Accounts:=s.Accounts.set (aU s 1).toNat (bDd (Aj s (aU s 1)) h).1} else s
def bE (s e:Int):Int:=aJ s [233,e]
def aXe (s:AO)(l:List AD):Int:=bE (aJ s.Seed [311]) (aK l)
def aZy (w:AA)(b:Int):AA:=(tV w b 0).1
def bLt (w:AA)(b t:Int):List AD:=(jM (aZy w b).aAH.Log 2 (bO (dA w t).Store) (dA (aZy w b) b).Store).1
def bGe (w:AA)(b t:Int):AA×Bool:=bDb (aZy w b) b 2 (bO (dA w t).Store) (aXe (dA (aZy w b) b).Store)
def bJz (w:AA)(b t:Int):AC×Bool:=nJ (dA (aZy w b) b) (bLt w b t) (aXe (dA (aZy w b) b).Store (bLt w b t))
def bN2 (w:AA)(b t:Int):AA:={(bGe w b t).1 with Devices:=(bGe w b t).1.Devices.set b.toNat (bLo (bJz w b t).1 t true),Sites:=(bGe w b t).1.Sites.map (bGd t)}
def bLu (w:AA)(b t:Int):AA×Bool:=upF (bN2 w b t) b
def bGf (w:AA)(b t:Int):AA×Bool:=bif (bGe w b t).2&&((bJz w b t).2&&(bLu w b t).2) then(o6 (bLu w b t).1 4,true) else(w,false)
def bGg (w:AA)(b t:Int):AA×Bool:=bif (tV w b 0).2==0&&(!Ps w b&&(!(b==t)&&uX w t)) then bGf w b t else(w,false)
def bDe (d:AC)(l:List AD)(k:Int):(nJ d l k).1.sz<=d.sz+l.length:=by
 grind[bI,dY,decide,aK,bQ,AC.sz,nJ]
--needs aAS aAT aAQ
def kM (b:AQ)(id:Int):Int:=bH b.Seed [197,id]
def o7 (b:AQ)(acc now:Int):AX:=⟨b.Next,acc,IntKind.i64.wrap (now+5)⟩
def eZ (b:AQ)(acc now:Int):AQ×AX×Bool:=bif fI b&&(!(b.Next==1000000)&&(bD acc 0 1000000&&bD now 0 1000000)) then(⟨b.Seed,IntKind.i64.wrap (b.Next+1),(bif decide ((b.Open.length:Int)>=16) then b.Open.drop 1 else b.Open)++[o7 b acc now]⟩,o7 b acc now,true) else(b,⟨0,0,0⟩,false)
def nT (b:AQ)(id:Int):Int:=iR (λc=>c.Id==id) 0 b.Open
def aPt (b:AQ)(k:Int):AX:=b.Open.getD k.toNat default
def aDc (b:AQ)(id acc now:Int):AQ×Bool:=bif !fI b||decide (nT b id<0) then(b,false) else(⟨b.Seed,b.Next,b.Open.take (nT b id).toNat++b.Open.drop ((nT b id).toNat+1)⟩,(aPt b (nT b id)).aAG==acc&&decide (now<=(aPt b (nT b id)).Until))
def aHq (s:AF)(id now:Int):AF×Int×Int×Bool:=bif dN s&&(!decide (aU s id<0)&&(eZ s.Book id now).2.2) then({s with Book:=(eZ s.Book id now).1},(eZ s.Book id now).2.1.Id,kM (eZ s.Book id now).1 (eZ s.Book id now).2.1.Id,true) else(s,0,0,false)
def vV (s:AO):Bool:=bD s.Vendor 1 9&&(bD s.Serial 0 1000000&&(bQ s.Seed&&bD s.Counter 0 1000000))
def bDf (s:AO):AO:={s with Counter:=IntKind.i64.wrap (s.Counter+1)}
def Pw (s:AO)(site:ByteArray)(h:Int)(m:List Int):AO×Int×Bool:=bif vV s&& !(s.Counter==1000000) then(bDf s,pU (bY s site h) (m++[(bDf s).Counter]),true) else(s,0,false)
def jF (a:A0):List Int:=[199,cB a.Site,Bf 211 a.aAT,a.aAQ,a.Handle,bif a.Present then 1 else 0]
def aXf (j:Int):AY:=⟨true,⟨#[119,119,119,46]⟩++aA j,443⟩
def aU7 (j:Int):AY:=⟨true,⟨#[108,111,103,105,110,46]⟩++aA j++⟨#[46,101,118,105,108,46,110,101,116]⟩,443⟩
def bHm (j:Int):AY:=⟨true,aA j,443⟩
def bLv (k:Nat):AY:=match k with|0=>aXf 0|1=>aXf 1|2=>bHm 0|3=>bHm 1|4=>aU7 0|_=>aU7 1
def bLw:List UInt8->List UInt8->Bool
 |[],b=>b==[]
 |x::a,b=>b==x::a||bLw a b
def Px (o:AY)(z:ByteArray):Bool:=bLw (46::o.Host.data.toList) (46::z.data.toList)
def bHn (o:AY)(s:ByteArray):Prop:=(∃k:Nat,k<6/\o=bLv k)/\∃j:Int,(j=0\/j=1)/\s=aA j
noncomputable instance (o:AY) (s:ByteArray):Decidable (bHn o s):=Classical.propDecidable _
def bHo (o:AY):Prop:=∃k:Nat,k<6/\o=bLv k
def bHo.p {o:AY}(h:bHo o){j:Int}(hj:j=0\/j=1):bHn o (aA j):=⟨h,j,hj,rfl⟩
def bDg (o:AY):ByteArray:=⟨#[104,116,116,112,115,58,47,47]⟩++o.Host
def Y5 (s:AO)(o:AY)(site:ByteArray)(h a:Int)(p:Bool):A0:=⟨site,bDg o,a,h,p,0,0⟩
def bGh:A0:=⟨⟨#[]⟩,⟨#[]⟩,0,0,false,0,0⟩
def Py (s:AO)(o:AY)(site:ByteArray)(h a:Int)(p:Bool):AO×A0×Bool:=bif Px o site&&(Pw s site h (jF (Y5 s o site h a p))).2.2 then((Pw s site h (jF (Y5 s o site h a p))).1,{Y5 s o site h a p with Counter:=(Pw s site h (jF (Y5 s o site h a p))).1.Counter,Signature:=(Pw s site h (jF (Y5 s o site h a p))).2.1},true) else(s,bGh,false)
def Ky (b:Int)(a:A0)(site:ByteArray)(c cnt:Int):Int:=bif !(a.Site.toList==site.toList) then 1 else bif !a.Present then 2 else bif !(a.aAQ==c) then 3 else bif !fQ b (jF a++[a.Counter]) a.Signature then 5 else bif decide (a.Counter<=cnt) then 4 else 0
def aHr (a:AJ)(x:A0)(site:ByteArray)(b:Int):AJ×Int:=bif !bR a||(decide (dV a x.Handle<0)||(qY a (dV a x.Handle)).Cut) then(a,5) else({a with Credentials:=bif Ky (qY a (dV a x.Handle)).Public x site b (qY a (dV a x.Handle)).Counter==0 then a.Credentials.set (dV a x.Handle).toNat {qY a (dV a x.Handle) with Counter:=x.Counter} else bif Ky (qY a (dV a x.Handle)).Public x site b (qY a (dV a x.Handle)).Counter==4 then a.Credentials.set (dV a x.Handle).toNat {qY a (dV a x.Handle) with Cut:=true} else a.Credentials},Ky (qY a (dV a x.Handle)).Public x site b (qY a (dV a x.Handle)).Counter)
def aPu (a:AJ)(m:Int):Bool:=bR a&&(decide (a.Minimum<=m)&&(decide (m<=3)&&(!(m==3)||a.Credentials.any λc=> !c.Cut)))
def aXg (s:AF)(id b now:Int)(a:A0):AF×Int×Int:=bif !dN s||decide (aU s id<0) then(s,1,0) else bif !(aDc s.Book b id now).2 then({s with Book:=(aDc s.Book b id now).1},2,0) else bif !aPu (Aj s (aU s id)) 3 then({s with Book:=(aDc s.Book b id now).1},3,0) else bif !((aHr (Aj s (aU s id)) a s.Name (kM s.Book b)).2==0) then({s with Book:=(aDc s.Book b id now).1,Accounts:=s.Accounts.set (aU s id).toNat (aHr (Aj s (aU s id)) a s.Name (kM s.Book b)).1},4,(aHr (Aj s (aU s id)) a s.Name (kM s.Book b)).2) else({s with Book:=(aDc s.Book b id now).1,Accounts:=s.Accounts.set (aU s id).toNat (aHr (Aj s (aU s id)) a s.Name (kM s.Book b)).1,Logins:=s.Logins++[id]},0,0)
def iH (w:AA)(j:Int):AF:=w.Sites.getD j.toNat default
def La (w:AA)(j:Int):AF×Int×Int×Bool:=aHq (iH w j) 1 w.Now
def aSv (w:AA)(d j:Int)(o:AY):AO×A0×Bool:=Py (dA w d).Store o (aA j) d (La w j).2.2.1 true
def bGi (w:AA)(d j:Int)(o:AY):AF×Int×Int:=aXg (La w j).1 1 (La w j).2.1 w.Now (aSv w d j o).2.1
def bLx (w:AA)(d j:Int)(o:AY):AA:={w with Devices:=w.Devices.set d.toNat {dA w d with Store:=(aSv w d j o).1},Sites:=w.Sites.set j.toNat (bGi w d j o).1}
def Fb (w:AA)(d j:Int):Bool:=aX w&&(mE w d&&Kq w j)
def aHs (w:AA)(d j:Int)(o:AY):AA×A0×Int:=bif !Fb w d j then(w,bGh,1) else bif !(La w j).2.2.2 then(w,bGh,1) else bif !((bGi w d j o).2.1==0) then(bLx w d j o,(aSv w d j o).2.1,2) else(o6 (bLx w d j o) 1,(aSv w d j o).2.1,0)
def aPv (w:AA)(d j:Int)(o:AY):AA×Int:=((aHs w d j o).1,(aHs w d j o).2.2)
def aXh (w:AA)(d j:Int):AA×Int:=bif Fb w d j&& !Ps w d then aPv w d j (aXf j) else(w,1)
def Ih (m:Int):Nat->Int->Int->Int->Int
 |0,_,_,s=>s
 |k+1,b,n,s=>if n>0 then Ih m k ((IntKind.i64.wrap (b*b)).tmod m) (n/2) (bif n%2==1 then(IntKind.i64.wrap (s*b)).tmod m else s) else s
def iI (x:Int):Bool:=bD x 1 2038&&Ih 2039 11 x 1019 1==1
def dJ (g n:Int):Int:=bif iI g then Ih 2039 11 g (bJ n 1019) 1 else 0
def vB (l v:Int):Int:=dJ 4 (IntKind.i64.wrap (1+((IntKind.i64.wrap (bH l [89,v]*bH l [89,v])).tmod 2147483647).tmod 1018))
def Pz (s l i:Int):Int:=dJ (vB l i) s
def mG (e l:Int):Int:=gQ (bH e [157,l])
def Lb (k m:Int):Int:=bif bD k 0 2147483647 then aOr .i64 k (aJ m [251]) else 0
def oJ (o s:Int):Int:=bH o [257,s]
def vW (c:Int)(l:List Int)(n:Int):List AR:=bif bD n 1 7&&decide ((l.length:Int)<n) then(List.range n.toNat).map λ(i:Nat)=>⟨(i:Int)+1,Gp c l ((i:Int)+1)⟩ else[]
def o8 (k:AU):AB:=⟨k,[],iE k⟩
def o9 (pin salt key secret limit:Int):Bool:=bD pin 0 9999&&(bD salt 0 1000000&&(bQ key&&(!(bJ secret 1019==0)&&bD limit 1 10)))
def vX (pin salt key secret:Int)(cs:List Int)(n limit:Int):AS×List AB×Bool:=
 bif o9 pin salt key secret limit&& !((vW secret cs n).length==0) then(⟨salt,IntKind.i64.wrap ((cs.length:Int)+1),oJ (mG (Pz secret salt pin) salt) salt,Lb key (mG (Pz secret salt pin) salt)⟩,(vW secret cs n).map (λs=>o8 ⟨s,0,0,limit⟩),true) else(⟨0,0,0,0⟩,[],false)
def bT (log:List AD)(bx:AK):AL×Bool:=bif bI log&&kE bx log then(⟨log,bx,[]⟩,true) else(⟨[],⟨0,[]⟩,[]⟩,false)
def Bq (id:Int)(l:List AJ):Nat:=(l.takeWhile λa=>decide (a.Id<id)).length
def oK (s:AF)(id m:Int):AF:={s with Accounts:=s.Accounts.take (Bq id s.Accounts)++[⟨id,m,[]⟩]++s.Accounts.drop (Bq id s.Accounts)}
def iY (s:AF)(id m:Int):AF×Bool:=bif dN s&&dN (oK s id m) then(oK s id m,true) else(s,false)
def rR (nm:ByteArray):Nat->List AC->AF->AF
 |_,[],s=>s
 |i,d::l,s=>rR nm (i+1) l (iL s 1 (i:Int) (gI d.Store nm (i:Int))).1
def Lc (seed:Int)(l:List AC)(j:Int):AF:=rR (aA j) 0 l (iY (dR (aA j) (aJ seed [281,j])) 1 3).1
def kN (l:List AC)(seed:Int):List AF:=[Lc seed l 0,Lc seed l 1]
def aM (seed:Int):Nat->List AD
 |0=>[]
 |n+1=>(jM (aM seed n) 1 (bO (aQ seed (n:Int))) (aQ seed 0)).1
def bB (seed:Int)(n:Nat):List AC:=(List.range n).map λ(i:Nat)=>cZ (aQ seed (i:Int))
def Fe (nm:ByteArray):Nat->AC->AC
 |0,d=>d
 |i+1,d=>(fT (Fe nm i d) nm (i:Int) false).1
def dS (seed:Int)(n:Nat):AK:=(bK (aM seed n) (bE seed 0) 1000).1
def nK (seed:Int)(n:Nat)(d:AC):AC:=(nJ d (aM seed n) (bE seed 0)).1
def gF (seed:Int)(n:Nat):AC:=Fe (aA 1) n (Fe (aA 0) n (nK seed n (cZ (aQ seed 0))))
def Qf (seed:Int)(n:Nat):AC×AH×Bool:=jS (gF seed n)
def dU (seed:Int)(n:Nat):AL:=(dO (bT (aM seed n) (dS seed n)).1 (Qf seed n).2.1).1
def Y6 (seed:Int)(n:Nat)(d:AC):AC:=(dD (nK seed n d) (aM seed n) (dS seed n) (Qf seed n).2.1).1
def iB (seed:Int)(n:Nat):List AC:=(Qf seed n).1::((bB seed n).drop 1).map (Y6 seed n)
def Ff (seed t:Int):List Int:=(List.range (t-1).toNat).map λ(k:Nat)=>aJ seed [307,(k:Int)+1]
def Fg (seed t pin k:Int):AS×List AB×Bool:=vX pin 7 (aJ seed [283]) (IntKind.i64.wrap (1+(aJ seed [293]).tmod 1018)) (Ff seed t) k 5
def Qg (n k t pin seed:Int):Bool:=bD n 1 3&&(bD k 1 7&&(bD t 1 k&&(bD pin 0 9999&&bQ seed)))
def aPw:AA:=⟨0,0,[],[],⟨[],⟨0,[]⟩,[]⟩,[],⟨0,0,0,0⟩,[],0,⟨[]⟩⟩
def aT (n k t pin seed:Int):AA:=bif Qg n k t pin seed then⟨0,seed,iB seed n.toNat,List.replicate n.toNat false,dU seed n.toNat,kN (bB seed n.toNat) seed,(Fg seed t pin k).1,(Fg seed t pin k).2.1,pin,⟨[]⟩⟩ else aPw
theorem aU8 {l:List Int}(h:l.Nodup)(e:AD):(jK l e).Nodup:=by
 grind[List.nodup_append,jK]
theorem aU9 (log:List AD):(aD log).Nodup:=by
 have key:∀(l:List AD) (s:List Int),s.Nodup->(l.foldl jK s).Nodup:=by intro l;induction l<;>grind[aU8]
 exact key log [] gn
theorem aSw {e:Int}{d:List Int}:∀{i:Nat} {l:List Int},(eU e d i l).2=true->(eU e d i l).1.map (λb=>b.To)=l
 |_,[],_=>rfl
 |i,p::l,h=>by
  simp only[eU] at h ⊢;cases hc:(eH p (IntKind.i64.wrap (e+(i:Int))) d).2&&(eU e d (i+1) l).2 with
  |false=>rw[hc] at h;cases h
  |true=>
   rw[ab] at hc;simp only[ac,bh,aSw hc.2];have:(eH p (IntKind.i64.wrap (e+(i:Int))) d).1.To=p:=by
    have h1:=hc.1;unfold eH at h1 ⊢;cases hq:eX p==0||(!bQ (IntKind.i64.wrap (e+(i:Int)))||decide ((d.length:Int)>200)) with
    |true=>rw[hq] at h1;cases h1
    |false=>rfl
   rw[this]
theorem aNw:∀{l:List AN} {d:Int} {s:Int},(l.map λb=>b.To).Nodup->0<=s->s<1000->l.foldl (λn b=>bif b.To==d then IntKind.i64.wrap (n+1) else n) s=s+(if d∈l.map (λb=>b.To) then 1 else 0)
 |[],d,s,_,_,_=>by simp
 |b::l,d,s,h,h0,h1=>by
  rw[bh,cg] at h;rw[df];cases hc:b.To==d with
  |true=>
   have hd:b.To=d:=by simpa using hc
   have hn:d∉l.map (λb=>b.To):=hd▸h.1;have c:IntKind.i64.wrap (s+1)=s+1:=aH (by omega) (by omega);have key:∀(l:List AN) (s:Int),d∉l.map (λb=>b.To)->l.foldl (λn b=>bif b.To==d then IntKind.i64.wrap (n+1) else n) s=s:=by
    intro l;induction l with
    |nil=>exact λ_ _=>rfl
    |cons x l f=>
     intro s a;simp only[bh,ay,not_or] at a;have:(x.To==d)=false:=by simpa using λe=>a.1 e.symm
     rw[df,this,ah];exact f s a.2
   rw[ac,key l _ hn,c,bh,cG (by simp[hd])]
  |false=>
   have hd:¬b.To=d:=by simpa using hc
   rw[ah,aNw h.2 h0 h1,bh];have:(d∈b.To::l.map λb=>b.To)↔d∈l.map λb=>b.To:=by rw[ay];exact⟨λh=>h.resolve_left λe=>hd e.symm, .inr⟩
   simp only[this]
theorem aK6 {log:List AD}{k e:Int}(h:(bK log k e).2=true):kE (bK log k e).1 log=true:=by
 unfold bK at h ⊢;cases hc: !bI log||(!bQ k|| !(eU e (kY [aK log,k]) 0 (aD log)).2) with
 |true=>simp_all
 |false=>
  simp only[bz,dc] at hc
  grind[aNw,aU9,kE,rQ,List.all_eq_true,List.length_map,List.length,aSw]
theorem aZz {log:List AD}{k e:Int}(h:(bK log k e).2=false):(bK log k e).1=⟨0,[]⟩:=by
 grind[bI,bQ,eU,kY,aK,aD,bK]
def aNx {d:AC}{log:List AD}{bx:AK}{s:AH}(h:(nD d log bx s==0)=false):(dD d log bx s).1=d:=by
 grind[dD]
def bDh (d:AC)(bx:AK)(s:AH):(dD d [] bx s).1=d:=aNx rfl
theorem bJ0 (s:AO):(eO s ⟨0,[]⟩).2=false:=rfl
def aVa {log:List AD}{key e:Int}{s:AH}(hs:s=⟨0,0,[],0⟩\/s.Epoch=aK log)(d:AC):
  (dD d (dO (bT log (bK log key e).1).1 s).1.Log (dO (bT log (bK log key e).1).1 s).1.Boxes (jR (dO (bT log (bK log key e).1).1 s).1 0).1).1=(dD d log (bK log key e).1 s).1:=by
 cases hc:bI log&&kE (bK log key e).1 log with
 |true=>
  have b:(bT log (bK log key e).1).1=⟨log,(bK log key e).1,[]⟩:=by grind[bT]
  rw[b];cases hq:s.Epoch !=aK log with
  |true=>
   have c:s=⟨0,0,[],0⟩:=by simp_all
   have a:(dO ⟨log,(bK log key e).1,[]⟩ s).1=⟨log,(bK log key e).1,[]⟩:=by
    grind[bK,dO]
   rw[a,c];rfl
  |false=>
   have a:(dO ⟨log,(bK log key e).1,[]⟩ s).1=⟨log,(bK log key e).1,[s]⟩:=by
    grind[bK,dO]
   rw[a];rfl
 |false=>
  have b:(bT log (bK log key e).1).1=⟨[],⟨0,[]⟩,[]⟩:=by grind[bT]
  have a:(dO (bT log (bK log key e).1).1 s).1.Log=[]:=by rw[(Fa _ _).2,b]
  rw[a,bDh];refine(aNx ?_).symm;cases hl:bI log with
  |false=>grind[nD,Bool.not_false]
  |true=>
   grind[dY,gT,aD,bO,nD,bJ0,Bool.not_true,Bool.not_false,aZz,bK,aK6]
theorem aFr (nm:ByteArray):∀(i:Nat) (d:AC),(Fe nm i d).sz<=d.sz+i
 |0,d=>ak _
 |i+1,d=>by have h1:=aFr nm i d;grind[fT,Fe,aZq]
theorem kF (seed:Int):∀n:Nat,(aM seed n).length<=n
 |0=>ak _
 |n+1=>by have h1:=kF seed n;grind[jM,aM,bO,aQ,aHp]
theorem Qa (seed:Int)(n:Nat)(d:AC):(nK seed n d).sz<=d.sz+n:=by have h1:=bDe d (aM seed n) (bE seed 0);have h2:=kF seed n;show(nJ d (aM seed n) (bE seed 0)).1.sz<=_;omega
theorem Qb (s:AO):(cZ s).sz=0:=rfl
def Uz (seed:Int)(n:Nat):(gF seed n).sz<=3*n:=by
 grind[gF,Qb,Qa,cZ,aQ,aFr,aA,nK,Fe]
theorem Va (seed:Int)(n:Nat):(dS seed n).sz<=13*n:=by
 grind[dS,kF,aNq,aM,bE]
theorem yF (log:List AD)(bx:AK):(bT log bx).1.sz<=log.length+bx.sz:=by
 grind[bI,kE,bx,AL.sz,AK.sz,List.length_nil,bT]
def Vb (seed:Int)(n:Nat):(dU seed n).sz<=14*n+501:=by
 grind[dU,Qf,Pv,gF,kF,Va,yF,aM,dS,Fa,bT]
theorem aZ0 (seed:Int)(n:Nat)(d:AC):(Y6 seed n d).sz<=d.sz+2*n+20:=by
 grind[Y6,kF,Qa,aU1,nK,aM,dS,Qf]
def aVb {α:Type}{f:α->Nat}{b:Nat}:∀{l:List α},(∀x∈l,f x<=b)->(l.map f).sum<=l.length*b
 |[],_=>cr _
 |x::l,h=>by
  have h1:=h x (by simp);have h2:=aVb (l:=l) (f:=f) (b:=b) λy a=>h y (by simp[a]);simp only[bh,du,au,dk];omega
theorem Vd (nm:ByteArray):∀(i:Nat) (l:List AC) (s:AF),(rR nm i l s).sz<=s.sz+l.length
 |_,[],s=>ak _
 |i,d::l,s=>by
  have h1:=Vd nm (i+1) l (iL s 1 (i:Int) (gI d.Store nm (i:Int))).1
  grind[List.length_cons,rR,iL,gI,aZw]
def Ve (s:AF)(id m:Int):(iY s id m).1.sz<=s.sz+1:=by
 unfold iY;cases dN s&&dN (oK s id m) with
 |false=>simp
 |true=>
  grind[oK,AF.sz,List.length_append,List.length_cons,List.length_nil,AJ.sz,Bq,id,List.take_append_drop]
def Ld (nm:ByteArray)(s:Int):(dR nm s).sz<=nm.size:=by
 unfold dR;cases iW nm s with
 |true=>simp[AF.sz]
 |false=>exact cr _
def aDd (seed:Int)(l:List AC)(j:Int):(Lc seed l j).sz<=l.length+101:=by
 have h1:=Vd (aA j) 0 l (iY (dR (aA j) (aJ seed [281,j])) 1 3).1;have h2:=Ve (dR (aA j) (aJ seed [281,j])) 1 3;have a:=Ld (aA j) (aJ seed [281,j]);have b:(aA j).size<=100:=by unfold aA;cases j==0<;>cases j==1<;>decide
 grind[Lc]
def aNy (c:Int)(l:List Int)(n:Int):(vW c l n).length<=7:=by
 grind[bD,decide,fZ,List.length_map,List.length_range,vW]
def p8 (pin salt key secret:Int)(cs:List Int)(n limit:Int):(vX pin salt key secret cs n limit).2.1.length<=7/\((vX pin salt key secret cs n limit).2.1.map AB.sz).sum=0:=by
 unfold vX;cases o9 pin salt key secret limit&& !((vW secret cs n).length==0) with
 |false=>simp
 |true=>refine⟨by simp only[ac,ba];exact aNy _ _ _,?_⟩;have:=aVb (f:=AB.sz) (b:=0) (l:=(vW secret cs n).map λs=>o8 ⟨s,0,0,limit⟩) (λx a=>by obtain⟨s,_,rfl⟩:=cj.1 a;exact ak _);simp_all
def aDe (n k t pin seed:Int):(aT n k t pin seed).sz<=100000:=by
 unfold aT;cases hc:Qg n k t pin seed with
 |false=>exact cr _
 |true=>
  simp only[Qg,ab] at hc;have hn:=fZ hc.1;obtain⟨N,c⟩:∃N,N=n.toNat:=⟨_,rfl⟩;have d:N<=3:=by omega
  have h1:=Pv (gF seed N);have h2:=Uz seed N;have m:=Vb seed N;have o:=aDd seed (bB seed N) 0;have p:=aDd seed (bB seed N) 1;have e:=p8 pin 7 (aJ seed [283]) (IntKind.i64.wrap (1+(aJ seed [293]).tmod 1018)) (Ff seed t) k 5;have a:(bB seed N).length=N:=by simp[bB]
  have h:=aVb (f:=AC.sz) (b:=26) (l:=((bB seed N).drop 1).map (Y6 seed N)) (by grind[List.mem_of_mem_drop,bB,aZ0,cZ,aQ,Qb]);have i:(Qf seed N).1.sz=(gF seed N).sz:=h1.1;have j:(Fg seed t pin k).2.1.length<=7/\((Fg seed t pin k).2.1.map AB.sz).sum=0:=e;rw[ba,cy,a] at h;simp only[ac,<-c,AA.sz,iB,kN,au,ba,cy,a,bh,du,bn,fu,List.sum_nil,eC,i]
  grind[AL.sz,AK.sz,Nat.mul_le_mul_right,dU]
def aZ1 (d:AC)(n:ByteArray)(h:Int)(rm:Bool):(fT d n h rm).1.Key=d.Key/\(fT d n h rm).1.Epoch=d.Epoch:=by unfold fT;cases(Pq d n h rm).2<;>exact⟨rfl,rfl⟩
def aPx (nm:ByteArray):∀(i:Nat) (d:AC),(Fe nm i d).Key=d.Key/\(Fe nm i d).Epoch=d.Epoch
 |0,d=>⟨rfl,rfl⟩
 |i+1,d=>by
  simp[aZ1,Fe,aPx]
def aVc (seed:Int)(n:Nat):(gF seed n).Key=(nK seed n (cZ (aQ seed 0))).Key/\(gF seed n).Epoch=(nK seed n (cZ (aQ seed 0))).Epoch:=by obtain⟨h1,h2⟩:=aPx (aA 1) n (Fe (aA 0) n (nK seed n (cZ (aQ seed 0))));obtain⟨a,b⟩:=aPx (aA 0) n (nK seed n (cZ (aQ seed 0)));exact⟨h1.trans a,h2.trans b⟩
theorem aVd {seed:Int}{n:Nat}(h:bQ (nK seed n (cZ (aQ seed 0))).Key=true):(nK seed n (cZ (aQ seed 0))).Epoch=aK (aM seed n):=by
 unfold nK nJ at h ⊢;cases hq: !bI (aM seed n)||(!dY (aM seed n) (cZ (aQ seed 0)).Log||(decide (aK (aM seed n)<(cZ (aQ seed 0)).Epoch)|| !bQ (bE seed 0))) with
 |true=>rw[hq] at h;exact absurd (show bQ 0=true from h) (by decide)
 |false=>rfl
def aZ2 (seed:Int)(n:Nat):(Qf seed n).2.1=⟨0,0,[],0⟩\/(Qf seed n).2.1.Epoch=aK (aM seed n):=by
 obtain⟨k1,k2⟩:=aVc seed n;unfold Qf jS;generalize gF seed n=d at k1 k2 ⊢;cases hs:(mX d.Key d.Epoch (IntKind.i64.wrap (d.Version+1)) d.aAF).2 with
 |false=>simp
 |true=>
  refine .inr ?_;simp only[ac];unfold mX at hs ⊢;cases hc:bQ d.Key&&(bD d.Epoch 0 1000000&&bD (IntKind.i64.wrap (d.Version+1)) 0 1000000)&&aS d.aAF with
  |false=>grind
  |true=>
   simp only[ab] at hc;show d.Epoch=_
   grind[aVd,k1,k2]
def aXi (seed:Int)(n:Nat)(d:AC):(dD (nK seed n d) (dU seed n).Log (dU seed n).Boxes (jR (dU seed n) 0).1).1=Y6 seed n d:=aVa (aZ2 seed n) (nK seed n d)
def Bt (f:Int->Int)(l:List Int)(j:Nat)(x:Int):Bool:=(l.take j).any λq=>f q==f x
def vC (s:AR)(e:Int):Int:=bif iI e&&(!(e==1)&&bD s.Value 0 1018) then dJ e s.Value else 0
def dB (k:AU)(e:Int):AU×Int×Bool:=bif gD k&&(!(k.Guesses==k.Limit)&&(iI e&& !(e==1))) then({k with Guesses:=IntKind.i64.wrap (k.Guesses+1)},vC k.aAM e,true) else(k,0,false)
def bDi (l:List AU):List AU:=bif decide ((l.length:Int)>30) then l.drop 1 else l
def lN (h:AB)(e:Int):AB×Int×Bool:=bif decide (iE h.State<h.Monotonic)|| !(dB h.State e).2.2 then(h,0,false) else(⟨(dB h.State e).1,bDi (h.Saved++[h.State]),iE (dB h.State e).1⟩,(dB h.State e).2.1,true)
def bP (l i b:Int):Int:=bif bJ b 1019==0 then 0 else dJ (vB l i) b
def Lg (hs:List AB)(a:List Int)(i:Nat)(c:Int):Bool:=(decide (c<0)||decide (c>=(hs.length:Int)))||Bt (λq=>q) a i c
def fU (hs:List AB)(a:List Int):Bool:= !dP (Lg hs a) 0 a
def aK7 (e:Int)(s:List AB×List Int×List Int)(c:Int):List AB×List Int×List Int:=
 (s.1.set c.toNat (lN (s.1.getD c.toNat default) e).1,bif (lN (s.1.getD c.toNat default) e).2.2 then s.2.1++[(lN (s.1.getD c.toNat default) e).1.State.aAM.Index] else s.2.1,bif (lN (s.1.getD c.toNat default) e).2.2 then s.2.2++[(lN (s.1.getD c.toNat default) e).2.1] else s.2.2)
def gW (hs:List AB)(a:List Int)(e:Int):List AB×List Int×List Int:=a.foldl (aK7 e) (hs,[],[])
def pW (n:Int):Int:=bif bJ n 1019==0 then 0 else Ih 1019 11 (bJ n 1019) 1017 1
def p9 (l:List Int)(k a w:Int)(j:Nat):Int:=bif (j:Int)==k then w else(IntKind.i64.wrap ((IntKind.i64.wrap (w*bJ (IntKind.i64.wrap (bJ a 1019-bJ (l.getD j 0) 1019)) 1019)).tmod 1019*pW (IntKind.i64.wrap (bJ (l.getD k.toNat 0) 1019-bJ (l.getD j 0) 1019)))).tmod 1019
def tH (l:List Int)(k a:Int):Int:=bif (decide (k<0)||decide (k>=(l.length:Int)))||dP (Bt (λq=>bJ q 1019) l) 0 l then 0 else(List.range l.length).foldl (p9 l k a) 1
def gX (a b:Int):Int:=bif iI a&&iI b then(IntKind.i64.wrap (a*b)).tmod 2039 else 0
def mH (ix vs:List Int)(i:Nat)(x:Int):Bool:= !bD x 1 7||(!iI (vs.getD i 0)||Bt (λq=>q) ix i x)
def aXj (ix vs:List Int):Int:=(List.range vs.length).foldl (λo i=>gX o (dJ (vs.getD i 0) (tH ix (i:Int) 0))) 1
def iM (ix vs:List Int):Int×Bool:=bif (!(ix.length==vs.length)||ix.length==0)||dP (mH ix vs) 0 ix then(0,false) else(aXj ix vs,true)
def Te (c b:Int):Int:=bif bJ b 1019==0 then 0 else dJ c (pW b)
def Ak (v:AS)(o:Int):Int×Bool:=bif oJ o v.Salt==v.Check then(Lb v.Masked o,true) else(0,false)
def gY (v:AS)(hs:List AB)(a:List Int)(pin b:Int):List AB×List Int×List Int:=gW hs a (bP v.Salt pin b)
def Y7 (hs:List AB)(a:List Int)(pin b:Int):Bool:=fU hs a&&(!(bJ b 1019==0)&&bD pin 0 9999)
def jT (v:AS)(hs:List AB)(a:List Int)(pin b:Int):List AB×Int×Bool:=
 bif !Y7 hs a pin b then(hs,0,false) else
 bif decide ((a.length:Int)<v.Threshold)||(decide ((gY v hs a pin b).2.2.length<a.length)|| !(iM (gY v hs a pin b).2.1 (gY v hs a pin b).2.2).2) then((gY v hs a pin b).1,0,false) else
  ((gY v hs a pin b).1,Ak v (mG (Te (iM (gY v hs a pin b).2.1 (gY v hs a pin b).2.2).1 b) v.Salt))
def yG (v:AS)(hs:List AB)(a:List Int)(pin b:Int)(i:Nat):AB×Int×Bool:=lN (((a.take i).foldl (aK7 (bP v.Salt pin b)) (hs,([]:List Int),([]:List Int))).1.getD (a.getD i 0).toNat default) (bP v.Salt pin b)
def oL (v:AS)(hs:List AB)(a:List Int)(pin b:Int)(n:Nat):List Int:=(List.range n).map λi=>(yG v hs a pin b i).1.State.aAM.Index
def oM (v:AS)(hs:List AB)(a:List Int)(pin b:Int)(n:Nat):List Int:=(List.range n).map λi=>(yG v hs a pin b i).2.1
def aXk (v:AS)(hs:List AB)(a:List Int)(pin b:Int):List Int:=oL v hs a pin b a.length
def aXl (v:AS)(hs:List AB)(a:List Int)(pin b:Int):List Int:=oM v hs a pin b a.length
def bDj (v:AS)(hs:List AB)(a:List Int)(pin b:Int):Bool:=Y7 hs a pin b&&(gY v hs a pin b).2.2.length==a.length
def aXm (v:AS)(hs:List AB)(a:List Int)(pin b:Int):List AB×Int×Bool×Bool:=((jT v hs a pin b).1,(jT v hs a pin b).2.1,(jT v hs a pin b).2.2,bDj v hs a pin b)
def vY (w:AA):Int:=IntKind.i64.wrap (1+(aJ w.Seed [313,w.Now]).tmod 1018)
def bL (w:AA)(a:List Int)(pin:Int):AA×Int×Bool:=bif !aX w then(w,0,false) else
 (o6 {w with Hosts:=(jT w.aAK w.Hosts a pin (vY w)).1} 5,(jT w.aAK w.Hosts a pin (vY w)).2)
def kZ (w:AA):List Int:=(List.range (min w.aAK.Threshold ((w.Hosts.length:Int)+1)).toNat).map λ(i:Nat)=>(i:Int)
def oN (w:AA)(pin:Int):AA×Bool:=((bL w (kZ w) pin).1,(bL w (kZ w) pin).2.2)
def q8 {f:Int->Int}{l:List Int}{j:Nat}(hj:j<l.length)(hl:l.length<=1099511627776){τ:Type}(a b:τ){F:(Nat->Option τ)->Nat->Option τ}
  (c:∀rec i (hi:i<j),F rec i=bif f (l[i]'(by omega))==f l[j] then some a else rec (i+1)) (d:∀rec,F rec j=some b):EV.bG FUEL F 0=some (bif Bt f l j l[j] then a else b):=by
 have hlen:(l.take j).length=j:=by grind
 exact lZ (l:=l.take j) (λq=>f q==f l[j]) a b (by omega) (by simp_all) (by simp[*])
def bDk {p:Nat->Int->Bool}{l:List Int}{i:Nat}(hi:i<l.length)(h:dP p 0 (l.take i)=false)(h2:p i l[i]=false):dP p 0 (l.take (i+1))=false:=by
 grind[List.length_take,sF]
def bJ1 {p:Nat->Int->Bool}{l:List Int}{i:Nat}(hi:i<l.length)(h:p i l[i]=true):dP p 0 l=true:=(by grind[sF])
def bGj:((List.range 1019).all λ(x:Nat)=>x==0||((x:Int)*Ih 1019 11 (x:Int) 1017 1)%1019==1&&bD (Ih 1019 11 (x:Int) 1017 1) 1 1018)=true:=by kernel_rfl
def bJ2 {x:Int}(h0:0<x)(h1:x<1019):(x*Ih 1019 11 x 1017 1)%1019=1/\1<=Ih 1019 11 x 1017 1/\Ih 1019 11 x 1017 1<=1018:=by have:=ck.1 bGj x.toNat (by grind);rw[show((x.toNat:Nat):Int)=x by omega,cm.2 (show x.toNat≠0 by omega),cV,ab] at this;have hr:=fZ this.2;simp_all
def bDl {x m n:Int}(hm:0<=m/\m<1019)(hn:0<=n/\n<1019)(h1:(x*m)%1019=1)(h2:(x*n)%1019=1):m=n:=by
 have e:n*(x*m)=m*(x*n):=by rw[<-fX,<-fX,gj n x,gj m x,fX,fX,gj n m]
 have a:x*m=1+1019*(x*m/1019):=by omega
 have b:x*n=1+1019*(x*n/1019):=by omega
 rw[a,b,Int.mul_add,Int.mul_add,Int.mul_one,Int.mul_one] at e
 grind
def aVe {n:Int}:bJ n 1019=n%1019:=cG (by decide)
def aZ3 {n m:Int}(h:bJ n 1019=bJ m 1019):pW n=pW m:=by unfold pW;rw[h]
def aXn (h:AB)(e:Int):(lN h e).1.sz<=h.sz+1:=by
 grind[decide,iE,dB,AB.sz,bDi,List.length_drop,List.length_append,List.length_cons,List.length_nil,lN]
def iJ (e:Int)(hs:List AB)(a:List Int)(i:Nat):List AB×List Int×List Int:=(a.take i).foldl (aK7 e) (hs,[],[])
def qZ {e:Int}{hs:List AB}{a:List Int}{i:Nat}(hi:i<a.length):iJ e hs a (i+1)=aK7 e (iJ e hs a i) a[i]:=by
 grind[List.take_add_one,List.getElem?_eq_getElem,iJ]
def bJ3 {hs:List AB}{h:AB}(hm:h∈hs):h.sz<=mF AB.sz hs:=by
 grind[aPm,AB.sz]
structure AskIn (B:Nat) (hs:List AB) (i:Nat) (s:List AB×List Int×List Int):Prop where
 len:s.1.length=hs.length
 sz:∀h∈s.1,h.sz<=B+i
 eq:s.2.1.length=s.2.2.length
 le:s.2.2.length<=i
def Bu {hs:List AB}{a:List Int}(h:fU hs a=true){i:Nat}(hi:i<a.length):0<=a[i]/\a[i]<(hs.length:Int):=by
 grind[Kt,Bool.or_eq_false_iff,Lg,Bool.not_eq_true',sF,fU]
def Fh {e:Int}{hs:List AB}{a:List Int}(h:fU hs a=true):∀i,i<=a.length->AskIn (mF AB.sz hs) hs i (iJ e hs a i)
 |0,_=>⟨rfl,λh hm=>by have:h∈hs:=hm;have:=bJ3 this;omega,rfl,ak _⟩
 |i+1,hi=>by
  obtain⟨h1,h2,c,d⟩:=Fh (e:=e) h i (by omega);have hc:=Bu h (i:=i) hi;rw[qZ hi];generalize iJ e hs a i=s at*;have hk:a[i].toNat<s.1.length:=by omega
  have hg:s.1.getD a[i].toNat default=s.1[a[i].toNat]:=by simp[List.getD,aa hk]
  have f:=h2 _ (ce hk);have j:=aXn s.1[a[i].toNat] e;unfold aK7;rw[hg];refine⟨by simp[h1],λx b=> ?_,?_,?_⟩
  ·rcases List.mem_or_eq_of_mem_set b with b|rfl
   ·have:=h2 x b;omega
   ·omega
  ·cases(lN s.1[a[i].toNat] e).2.2<;>simp[c]
  ·cases(lN s.1[a[i].toNat] e).2.2<;>simp<;>omega
def aHt (w:AA):(kZ w).length<=w.Hosts.length+1:=by
 grind[List.length_map,List.length_range,kZ]
def aSx {α:Type}[Inhabited α]{f:α->Nat}{x:α}:∀{l:List α} {i:Nat},i<l.length->f x<=f (l.getD i default)+1->((l.set i x).map f).sum<=(l.map f).sum+1
 |y::l,0,_,h=>by
  simp only[List.getD,fo,cA] at h;simp only[gz,bh,du];omega
 |y::l,i+1,hi,h=>by
  have:=aSx (f:=f) (l:=l) (i:=i) (x:=x) (by simpa using hi) (by simpa[List.getD] using h);simp only[fR,bh,du];omega
def aXo {e:Int}{hs:List AB}{a:List Int}(h:fU hs a=true):∀i,i<=a.length->((iJ e hs a i).1.map AB.sz).sum<=(hs.map AB.sz).sum+i
 |0,_=>ak _
 |i+1,hi=>by
  have c:=aXo (e:=e) h i (by omega);have b:=Fh (e:=e) h i (by omega);have hc:=Bu h (i:=i) hi;rw[qZ hi];generalize iJ e hs a i=s at*;have hk:a[i].toNat<s.1.length:=by have:=b.len;omega
  have:=aSx (f:=AB.sz) hk (aXn (s.1.getD a[i].toNat default) e);unfold aK7;simp only;omega
theorem aXp (v:AS)(hs:List AB)(a:List Int)(pin b:Int):(jT v hs a pin b).1.length=hs.length/\((jT v hs a pin b).1.map AB.sz).sum<=(hs.map AB.sz).sum+a.length:=by
 unfold jT;cases hm:Y7 hs a pin b with
 |false=>simp
 |true=>
  have hc:fU hs a=true:=by
   grind[Y7]
  have hs1:=aXo (e:=bP v.Salt pin b) hc a.length (ak _);have c:=(Fh (e:=bP v.Salt pin b) hc a.length (ak _)).len;unfold iJ at hs1 c;rw[cI] at hs1 c;simp only[bf,ah];cases decide ((a.length:Int)<v.Threshold)||(decide ((gY v hs a pin b).2.2.length<a.length)|| !(iM (gY v hs a pin b).2.1 (gY v hs a pin b).2.2).2)<;>exact⟨c,hs1⟩
def aXq (w:AA)(a:List Int)(pin:Int):(bL w a pin).1.sz<=w.sz+a.length+1:=by
 grind[aX,Bool.not_false,q1,q2,aXp,vY,bGb,jT,Bool.not_true,AA.sz,bL]
--needs aAS aAT aAQ
def bJ4 (w:AA)(d:Int):AA×Bool:=bif Fb w d 0&& !Ps w d then({w with Stolen:=w.Stolen.set d.toNat true},true) else(w,false)
def bGk (b:AQ)(now:Int):AQ:=bif fI b then {b with Open:=b.Open.filter λc=>decide (c.Until>=now)} else b
def bDm (w:AA):AA:={w with Now:=IntKind.i64.wrap (w.Now+1)}
def bLy (w:AA):AA×Bool:=bif aX (bDm w) then({bDm w with Sites:=w.Sites.map λs=>{s with Book:=bGk s.Book (bDm w).Now}},true) else(w,false)
def bDn (w:AA)(d j:Int):AA×Int:=bif Fb w d j&&Ps w d then aPv w d j (aXf j) else(w,1)
def bDo (w:AA)(d j:Int):AA×Int:=bif Fb w d j&& !Ps w d then aPv w d j (aU7 j) else(w,1)
def bN3:ByteArray:=⟨#[97,46,110,101,116]⟩
def bJ5 (w:AA)(k d o v:Int)(f:Bool):AA×Bool:=
 bif !aX w then(w,false) else
 bif k==1 then bLy w else
 bif k==2 then((aXh w d o).1,(aXh w d o).2==0) else
 bif k==3 then((bDo w d o).1,(bDo w d o).2==0) else
 bif k==4 then bJ4 w d else
 bif k==5 then((bDn w d o).1,(bDn w d o).2==0) else
 bif k==6 then bGa w d else
 bif k==7 then bGg w d o else
 bif k==8 then bLm w d bN3 v f else
 bif k==9 then aXc w d else
 bif k==10 then((tV w d v).1,(tV w d v).2==0) else
 bif k==11 then oN w v else
 bif k==12 then dG w else
 bif k==13 then dX w o v else(w,false)
def aHu (l:List Int):Prop:=okL (λn:Int=>0<=n/\n<=255) l
noncomputable instance (l:List Int):Decidable (aHu l):=Classical.propDecidable _
def aZ4 (l:List Int):Bool:=decide ((l.length:Int)>1048576)
def atF (l:List Int)(i:Int):Int:=bif decide (i<(l.length:Int)) then IntKind.i64.wrap (l.getD i.toNat 0) else(IntKind.i64.wrap (IntKind.i64.wrap (i*31)+IntKind.i64.wrap ((l.length:Int)*7))).tmod 256
def aSy (b:AK):Prop:=∀x∈b.Boxes,aR x.Data
def tJ (c:AL):Prop:=aSy c.Boxes/\∀s∈c.History,aR s.Data
instance (b:AK):Decidable (aSy b):=inferInstanceAs (Decidable (∀x∈b.Boxes,aR x.Data))
instance (c:AL):Decidable (tJ c):=inferInstanceAs (Decidable (_/\_))
def bLz {l:List Int}(h:aHu l)(hb:l.length<=1048576){i:Int}(h0:0<=i)(h1:i<=1000):0<=atF l i/\atF l i<=255:=by
 unfold atF;by_cases hi:i<(l.length:Int)
 ·rw[ap hi,ac,List.getD,aa (show i.toNat<l.length by omega),cA];have:=h.2 _ (ce (show i.toNat<l.length by omega))
  grind[aH]
 grind[decide_eq_false,aH,Int.tmod_nonneg,Int.tmod_lt_of_pos]
--needs aAO
def aP (c:AG):Prop:=0<=c.i/\c.b.length<=1048576
instance (c:AG):Decidable (aP c):=by unfold aP;infer_instance
def bGl (h:Int):Int:=IntKind.i64.wrap (IntKind.i64.wrap (h*6364136223846793005)+1442695040888963407)
def bHq (h:Int):Int:=mR IntKind.i64 (aOr IntKind.i64 (Aa IntKind.i64 h 33) (Aa IntKind.i64 h 47)) 255
def jI (c:AG):AG×Int:=bif decide (c.i<(c.b.length:Int)) then(⟨c.b,IntKind.i64.wrap (c.i+1),bGl c.h⟩,mR IntKind.i64 (IntKind.i64.wrap (bHq (bGl c.h)+IntKind.i64.wrap (c.b.getD c.i.toNat 0))) 255) else(⟨c.b,c.i,bGl c.h⟩,bHq (bGl c.h))
def bS (c:AG)(n:Int):AG×Int:=bif decide (n<=0) then(c,0) else bif decide (n<=256) then((jI c).1,(jI c).2.tmod n) else
 ((jI (jI (jI c).1).1).1,(IntKind.i64.wrap (IntKind.i64.wrap (IntKind.i64.wrap ((jI c).2*65536)+IntKind.i64.wrap ((jI (jI c).1).2*256))+(jI (jI (jI c).1).1).2)).tmod n)
def iZ (c:AG)(n:Int):AG×Bool:=((bS c n).1,(bS c n).2==0)
def tK (c:AG)(l:List Int):AG×Int:=((bS c (l.length:Int)).1,l.getD (bS c (l.length:Int)).2.toNat 0)
def aHv (c:AG):AG×Int:=bif (iZ c 10).2 then tK (iZ c 10).1 [0,-1,1,2147483646,2147483647] else((bS (iZ c 10).1 99999).1,IntKind.i64.wrap (1+(bS (iZ c 10).1 99999).2))
--needs aAO Event
def eA (c:AG):AG×Int:=bS c 13
def eB (c:AG):AG×Int:=bS (eA c).1 4
def aK2 (e:AZ):Prop:=(1<=e.Kind/\e.Kind<=13)/\(0<=e.Device/\e.Device<=3)/\(0<=e.Other/\e.Other<=2)/\(0<=e.Value/\e.Value<=39)/\(e.Kind≠11->e.Value<=3)
--needs Event World
def evF (w:AA)(e:AZ):AA×Bool:=bJ5 w e.Kind e.Device e.Other e.Value e.Flag
def runN (w:AA)(l:List AZ):Nat->AA
 |0=>w
 |k+1=>(evF (runN w l k) (l.getD k default)).1
def bN4 (w:AA)(l:List AZ):AA:=runN w l (min l.length 60)
def bHr (w:AA)(l:List AZ):Prop:=w.sz<=34359738368/\∀k,k<min l.length 60->(runN w l k).sz<=33000000
noncomputable instance (w:AA) (l:List AZ):Decidable (bHr w l):=Classical.propDecidable _
--needs aAO
--needs aAO aAJ aAN
--needs Event World
def bN5 (w:AA)(l:List AZ)(k:Nat):Bool:=(evF (runN w l k) (l.getD k default)).2
def bL0 (q:Int)(w:AA)(l:List AZ):Nat->Nat
 |0=>0
 |k+1=>bL0 q w l k+bif bN5 w l k&&(l.getD k default).Kind==q then 1 else 0
def bJ6 (w:AA)(l:List AZ)(q:Int):Int:=bL0 q w l (min l.length 60)
def cntF (w:AA)(j:Int):Int:=bif Kq w j then((w.Sites.getD j.toNat default).Logins.length:Int) else 0
--needs Event World
--needs aAO aAJ aAN aAA
def bN6 (l:List AZ):Prop:=l.length=0
instance (l:List AZ):Decidable (bN6 l):=inferInstanceAs (Decidable (l.length=0))
end Go.VK
