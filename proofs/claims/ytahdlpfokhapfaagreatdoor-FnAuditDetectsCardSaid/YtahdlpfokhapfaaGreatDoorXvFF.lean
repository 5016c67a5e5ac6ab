import Derived.Test.YtahdlpfokhapfaaGreatDoorEVyltod
import Derived.Test.YtahdlpfokhapfaaGreatDoorXvS
/- Printed by wip/tools: models, walks, proofs. -/
set_option linter.all false
set_option maxRecDepth 100000
set_option maxHeartbeats 4000000
namespace Go.VK
open Go.RowKit Go.Proofs D
def qP (k:AU):Int:=IntKind.i64.wrap (IntKind.i64.wrap (k.Epoch*1000)+k.Guesses)
def dM (w:AA):Bool:= !w.Hosts.any λh=>decide (h.State.Guesses>h.State.Limit)||decide (qP h.State>h.Monotonic)
theorem aMc {h v:Int}(h0:0<=h)(h1:h<2147483647):0<=hstep h v/\hstep h v<2147483647:=by
 grind[Int.tmod_nonneg,Int.tmod_lt_of_pos,aH,fQ,hstep,sI]
def aMd (l:List Int):0<=qM l/\qM l<2147483647:=by
 unfold qM
 suffices ∀(l:List Int) (h:Int),0<=h->h<2147483647->0<=l.foldl hstep h/\l.foldl hstep h<2147483647 from(by grind)
 intro l;induction l<;>grind[aMc]
theorem lL (k:Int)(l:List Int):0<=bI k l/\bI k l<2147483647:=aMd _
def aJ4 (a b:Int):Int:=bif decide (b>a) then b else a
def Ez (a:List Int)(r:List (List Int)):List Int:=a++r.flatten
def iK (n:Int):Int:=bif n==0 then 1 else n
def bA (n:Int):Bool:=bX n 1 2147483646
def Cs (b:List Int):List Int:=[(b.length:Int)]++b.map IntKind.i64.wrap
def aW (seed:Int)(l:List Int):Int:=iK (bI seed ([151]++l))
def xR (k:Int)(s:ByteArray):Int:=iK (bI k (Cs (bO s)))
def dC (p:Int):Int:=bif !(bA p) then 0 else(IntKind.i64.wrap (p*48271)).tmod 2147483647
def fH (s:AK):Int:=aW s.Seed [181]
def aM (s:AK):Int:=dC (fH s)
def gB (l:List Int)(x:Int):Bool:=l.any λe=>e==x
def dD (log:List AC)(p:Int):Bool:=log.any λe=>e.Kind==2&&e.Device==p
def gY (s:List Int)(e:AC):List Int:=
 bif e.Kind==1 then(bif s.contains e.Device then s else s++[e.Device]) else bif e.Kind==2 then s.filter (λd=>d !=e.Device) else s
def aA (log:List AC):List Int:=log.foldl gY []
def aB (log:List AC):Int:=log.foldl (λn e=>bif e.Kind==2 then IntKind.i64.wrap (n+1) else n) 0
def aJ (b:AF)(site a:Int):Int:=iU (λe=>e.Site==site&&e.Handle==a) 0 b.Entries
def aF (s:AD)(id:Int):Int:=iU (λa=>a.Id==id) 0 s.Accounts
theorem I7 (s:List Int)(x:AC):(gY s x).length<=s.length+1:=by
 grind[List.length_filter_le,gY]
def gD (log:List AC):(aA log).length<=log.length:=by
 suffices ∀(l:List AC) (s:List Int),(l.foldl gY s).length<=s.length+l.length from by grind[aA]
 intro l;induction l<;>grind[List.length_cons,gY,List.length_filter_le]
def aMe {n:Int}(h:0<=n):aJ4 1 n=iK n:=by
 grind[aJ4,iK]
def bN (s:ByteArray):Int:=xR 173 s
def Ed (w:AA):Prop:=w.Devices.length<=34359738368/\w.Stolen.length<=34359738368/\w.aAB.Log.length<=34359738368/\w.Sites.length<=34359738368
instance (w:AA):Decidable (Ed w):=inferInstanceAs (Decidable (_/\_))
def aO (w:AA)(d:Int):Bool:=decide (0<=d)&&decide (d<w.Devices.length)
def aHx {w:AA}(h:Ed w)(d:Int):bX d 0 (IntKind.i64.wrap ((w.Devices.length:Int)-1))=aO w d:=by
 have:=h.1
 grind[bX,aO,aH]
def aD (w:AA)(d:Int):AB:=w.Devices.getD d.toNat default
theorem zZ {w:AA}{d:Int}(h:aO w d=true):bP w.Devices d=some (aD w d):=by
 grind[aD,List.getD,List.getElem?_eq_getElem,zJ,aO]
def aV (w:AA)(d:Int):Bool:=aO w d&&gB (aA w.aAB.Log) (aM (aD w d).Store)
def jX (w:AA)(d:Int):Bool:=aO w d&&dD w.aAB.Log (aM (aD w d).Store)
def bDb (w:AA)(i:Nat):Bool:=aV w i&&(decide (i<w.Stolen.length)&& !w.Stolen.getD i false)
def sQ (w:AA):List Int:=((List.range w.Devices.length).filter (bDb w)).map Int.ofNat
def rP (d:Int)(s:AD):Bool:= !decide (aF s 1<0)&&(s.Accounts.getD (aF s 1).toNat default).Credentials.any λc=>c.Handle==d&& !c.Cut
def iF (w:AA)(d:Int):Bool:= !jX w d||(!aV w d&& !(w.Sites.take 2).any (rP d))
def Ed.of {w:AA}(h:w.sz<=1048576):Ed w:=by
 grind[Ed,AA.sz,AO.sz]
def aJ5 (k:Int)(i:Nat)(z:Int):Int:=IntKind.u8.wrap ((z-bI k [(i:Int)])%256)
def Kc (k:Int)(b:List Int):List Int:=Co (λi z=>[aJ5 k i z]) 0 b
theorem aMf (x:Int):fQ (IntKind.i64.wrap x) 256=x%256:=by
 grind[fQ,IntKind.wrap_i64]
theorem aWj (k:Int)(i:Nat)(z:Int):IntKind.u8.wrap (fQ (IntKind.i64.wrap (IntKind.i64.wrap z-bI k [(i:Int)])) 256)=aJ5 k i z:=by
 grind[aMf,aJ5,IntKind.wrap_i64]
theorem aWk (k:Int)(i:Nat)(z:Int):IntKind.u8.wrap (fQ (IntKind.i64.wrap (IntKind.i64.wrap z-(bI k [(i:Int)]).tmod 256)) 256)=aJ5 k i z:=by
 grind[aMf,aJ5,IntKind.wrap_i64,Int.tmod_eq_emod_of_nonneg,lL]
def nD {α β:Type}{y:Nat->α->β}:∀{i:Nat} {l:List α},(Co (λi x=>[y i x]) i l).length=l.length
 |i,[]=>rfl
 |i,x::xs=>by simp[Co,nD]
def fI (p e:Int):Int:=aW p [163,e]
def Ke (k:Int)(b:AN):Int:=bI k ([167,b.To,b.Ephemeral]++Cs b.Data)
def dY (p:Int)(b:AN):List Int×Bool:=
 bif !bA p||(b.To !=dC p||(!bA b.Ephemeral||decide ((b.Data.length:Int)>200))) then([],false)
 else bif b.MAC !=Ke (fI p b.Ephemeral) b then([],false) else(Kc (fI p b.Ephemeral) b.Data,true)
def eG:List AN->Int->List Int×Bool
 |[],_=>([],false)
 |b::bs,p=>bif (dY p b).2 then((dY p b).1,true) else eG bs p
def aX (b:List Int):Prop:=b.length<=34359738368/\b.all (λz=>decide (0<=z)&&decide (z<=255))=true
instance (b:List Int):Decidable (aX b):=inferInstanceAs (Decidable (_/\_))
theorem vL {b:List Int}(h:aX b){i:Nat}(hi:i<b.length):0<=b[i]/\b[i]<=255:=by have:=cm.1 h.2 b[i] (cr hi);simp_all
def uvG (b:List Int)(p:Nat):Nat->Nat->Int->Int×Int×Bool
 |0,_,_=>(0,0,false)
 |k+1,i,n=>
  if p+i<b.length then
   bif decide (b.getD (p+i) 0<128) then
    (bif (decide (0<i)&&b.getD (p+i) 0==0)||decide (n+b.getD (p+i) 0%128*128^i>1000000000000) then(0,0,false) else(n+b.getD (p+i) 0%128*128^i,((p+i+1:Nat):Int),true))
   else uvG b p k (i+1) (n+b.getD (p+i) 0%128*128^i)
  else(0,0,false)
def xA (b:List Int)(at_:Int):Int×Int×Bool:=if at_<0 then(0,0,false) else uvG b at_.toNat 6 0 0
def aJ6 {i:Nat}(h:i<=6):(1:Int)<=128^i/\(128:Int)^i<=4398046511104:=by
 match i,h with
 |0,_|1,_|2,_|3,_|4,_|5,_|6,_=>decide
def aJ7 {z n:Int}{i:Nat}(hi:i<=5)(b:0<=z)(hn:0<=n)(a:n<128^i):0<=n+z%128*128^i/\n+z%128*128^i<128^(i+1)/\0<=z%128*128^i/\z%128*128^i<=127*128^i:=by have hp:=aJ6 (i:=i) (by omega);have h1:0<=z%128*128^i:=jo (by omega) (by omega);have h2:z%128*128^i<=127*128^i:=Int.mul_le_mul_of_nonneg_right (by omega) (by omega);omega
def aZn {z n:Int}{i:Nat}(hi:i<=5)(h:0<=z)(j:z<=255)(hn:0<=n)(c:n<128^i):
  orI .i64 n (Rm .i64 (qG .i64 z 127) (IntKind.i64.wrap (7*(i:Int))))=n+z%128*128^i:=by
 obtain⟨m,rfl⟩:=dz h;obtain⟨q,rfl⟩:=dz hn;have hp:=aJ6 (i:=i) (by omega);have hs:=aJ7 (z:=(m:Int)) (n:=(q:Int)) hi (by omega) (by omega) c;have t:qG .i64 (m:Int) 127=((m%128:Nat):Int):=by
  have e:((BitVec.ofInt 64 (m:Int))&&&(BitVec.ofInt 64 127)).toNat=m%128:=by
   rw[BitVec.toNat_and];have k:(BitVec.ofInt 64 (m:Int)).toNat=m:=by
    grind
   have l:(BitVec.ofInt 64 127).toNat=2^7-1:=by decide
   rw[k,l,fv]
  show IntKind.i64.wrap (((BitVec.ofInt 64 (m:Int))&&&(BitVec.ofInt 64 127)).toNat:Int)=_
  grind[aH]
 have u:IntKind.i64.wrap (7*(i:Int))=((7*i:Nat):Int):=by grind[aH]
 have d:(2:Nat)^(7*i)=128^i:=by rw[Nat.pow_mul]
 have o:((128^i:Nat):Int)=(128:Int)^i:=by simp
 have hb:Rm .i64 (qG .i64 (m:Int) 127) (IntKind.i64.wrap (7*(i:Int)))=((m%128*128^i:Nat):Int):=by
  grind[aH,Int.toNat_natCast,min,Nat.min_eq_left,IntKind.bits,Rm]
 rw[hb];have a:q<128^i:=by omega
 have f:(m%128*128^i)|||q=m%128*128^i+q:=by
  have:=jc (b:=q) (i:=7*i) (by rw[d];exact a) (m%128)
  grind[Nat.shiftLeft_eq]
 have p:m%128*128^i+q<2^63:=by
  grind
 have v:((BitVec.ofInt 64 (q:Int))|||(BitVec.ofInt 64 ((m%128*128^i:Nat):Int))).toNat=m%128*128^i+q:=by
  rw[BitVec.toNat_or];have r:(BitVec.ofInt 64 (q:Int)).toNat=q:=by grind
  have s:(BitVec.ofInt 64 ((m%128*128^i:Nat):Int)).toNat=m%128*128^i:=by rw[BitVec.toNat_ofInt];omega
  rw[r,s,Nat.or_comm,f]
 show IntKind.i64.wrap (((BitVec.ofInt 64 (q:Int))|||(BitVec.ofInt 64 ((m%128*128^i:Nat):Int))).toNat:Int)=_
 grind[aH]
def jE (b:List Int):Nat->Int->List Int->List Int×Int×Bool
 |0,a,s=>(s,a,true)
 |k+1,a,s=>bif (xA b a).2.2 then jE b k (xA b a).2.1 (s++[(xA b a).1]) else([],0,false)
def gZ (b:List Int)(a c:Int):List Int×Int×Bool:=bif !bX c 0 100|| !bX a 0 b.length then([],0,false) else jE b c.toNat a []
theorem aMg (b:List Int):∀(k:Nat) (a:Int) (s:List Int),(jE b k a s).2.2=true->(jE b k a s).1.length=s.length+k
 |0,a,s,_=>rfl
 |k+1,a,s,h=>by
  unfold jE at h ⊢;cases c:(xA b a).2.2 with
  |false=>rw[c] at h;simp at h
  |true=>rw[c] at h;simp only[ae] at h ⊢;rw[aMg b k _ _ h];simp;omega
theorem decode_len {b:List Int}{a c:Int}(hc:0<=c)(h:(gZ b a c).2.2=true):(gZ b a c).1.length=c.toNat:=by
 grind[bX,aMg,gZ]
theorem aQy {k:Int}{b:List Int}(h:b.length<=34359738368):aX (Kc k b):=by
 refine⟨by unfold Kc;rw[nD];exact h,?_⟩;rw[cm];intro z a;have:∀(b:List Int) (i:Nat),z∈Co (λi z=>[aJ5 k i z]) i b->0<=z/\z<=255:=by
  intro b;induction b with
  |nil=>simp[Co]
  |cons x xs c=>
   intro i h;simp only[Co,bo,cp] at h;rcases h with rfl|h
   ·have:=dE .u8 ((x-bI k [(i:Int)])%256);assumption
   grind
 have:=this b 0 a;simp[*]
def aOu (p:Int)(b:AN):aX (dY p b).1:=by
 grind[decide,bA,dC,Ke,fI,aQy,aX,dY]
theorem Ns (p:Int):∀bs,aX (eG bs p).1
 |[]=>show aX [] by decide
 |b::bs=>by
  unfold eG;cases(dY p b).2 with
  |true=>exact aOu p b
  |false=>exact Ns p bs
def Aa (e:AM)(x:List Int×Bool)(y:List Int×Int×Bool):Int×Bool:=
 bif !x.2||(!y.2.2||(y.2.1 !=(x.1.length:Int)||(y.1.getD 0 0 !=e.Epoch|| !bA (y.1.getD 1 0)))) then(0,false) else(y.1.getD 1 0,true)
def bS (s:AK)(e:AM):Int×Bool:=Aa e (eG e.Boxes (fH s)) (gZ (eG e.Boxes (fH s)).1 0 2)
def gM (w:AA)(d:Int):Bool:=aO w d&&(!aV w d||((aD w d).Epoch !=aB w.aAB.Log||(aD w d).Key==(bS (aD w d).Store w.aAB.Boxes).1))
theorem and_one {n:Int}(h0:0<=n)(h1:n<9223372036854775808):qG .i64 n 1=n%2:=by
 obtain⟨m,rfl⟩:=dz h0;have e:((BitVec.ofInt 64 (m:Int))&&&(BitVec.ofInt 64 1)).toNat=m%2:=by
  rw[BitVec.toNat_and];have a:(BitVec.ofInt 64 (m:Int)).toNat=m:=by grind
  have b:(BitVec.ofInt 64 1).toNat=2^1-1:=by decide
  rw[a,b,fv]
 show IntKind.i64.wrap (((BitVec.ofInt 64 (m:Int))&&&(BitVec.ofInt 64 1)).toNat:Int)=_
 grind[aH]
theorem aQz {n:Int}(h0:0<=n):Eh .i64 n 1=n/2:=by unfold Eh;rw[show min (Int.toNat 1) IntKind.i64.bits=1 from by decide,fS _ (by decide)];rfl
def aS8:Nat->Int->Int->Int->Int
 |0,_,_,s=>s
 |k+1,b,n,s=>if n>0 then aS8 k ((IntKind.i64.wrap (b*b)).tmod 2147483647) (n/2) (bif n%2==1 then(IntKind.i64.wrap (s*b)).tmod 2147483647 else s) else s
def aQ0:aS8 31 48271 2147483645 1=1899818559:=by decide+kernel
def eU (q:Int):Int:=bif !bA q then 0 else q*1899818559%2147483647
def nQ (p:Int)(l:List Int):Int:=bif !bA p then 0 else bI p ([139,(l.length:Int)]++l)
def eX (q:Int)(l:List Int)(g:Int):Bool:=eU q !=0&&nQ (eU q) l==g
theorem Fa {α:Type}[Inhabited α]{l:List α}{i:Nat}(h0:0<i)(hi:i<l.length)(hl:l.length<=34359738368):bP l (IntKind.i64.wrap ((i:Int)-1))=some (l.getD (i-1) default):=by
 grind[List.getD,List.getElem?_eq_getElem,aH,aS]
def oN (l:List AS)(i:Nat)(n:AS):Bool:= !bX n.Kind 1 5||(!bX n.aAH 0 1000000||(!bX n.Time 0 1000000||(decide (0<i)&&decide ((l.getD (i-1) default).Time>n.Time))))
def eF (m:AR):Bool:=decide (m.Notices.length<=30)&& !gX (oN m.Notices) 0 m.Notices
def fA (b:AQ)(i:Nat)(n:AY):Bool:= !bX n.Id 0 (IntKind.i64.wrap (b.Next-1))||((decide (0<i)&&decide ((b.Open.getD (i-1) default).Id>=n.Id))||(!bX n.aAH 0 1000005|| !bX n.Until 0 1000005))
def fJ (b:AQ):Bool:=bX b.Next 0 1000000&&decide (b.Open.length<=16)&& !gX (fA b) 0 b.Open
def pK (a:AH)(i:Nat)(n:AP):Bool:=(!bX n.Handle 0 1000000||((decide (0<i)&&decide ((a.Credentials.getD (i-1) default).Handle>=n.Handle))||(eU n.Public==0|| !bX n.Counter 0 1000000)))||(a.Credentials.take i).any λq=>q.Public==n.Public
def bD (a:AH):Bool:=bX a.Id 0 1000000&&bX a.Minimum 1 3&&decide (a.Credentials.length<=8)&& !gX (pK a) 0 a.Credentials
def bJ (e:AC):Int:=qM [229,e.Index,e.Kind,e.Device,e.By,e.Previous]
def eH (l:List AC):Int:=bif (l.length:Int)==0 then 0 else bJ (l.getD (l.length-1) default)
def iA (l:List AC)(e:AC):Bool:=
 e.Index==(l.length:Int)&&(e.Previous==eH l&&((gB (aA l) e.By||((l.length:Int)==0&&e.By==e.Device))&&(eX e.By [bJ e] e.Signature&&
  (bif e.Kind==2 then gB (aA l) e.Device&&decide (((aA l).length:Int)>1) else !dD l e.Device&&(e.Kind==1&&(!gB (aA l) e.Device&&decide (((aA l).length:Int)<6)))))))
def aT (l:List AC):Bool:=bX (l.length:Int) 1 40&& !gX (λi e=> !iA (l.take i) e) 0 l
theorem aWl {l:List Int}{x:Int}(h:gB l x=true):0<l.length:=by
 grind[gB]
def iL:List UInt8->List UInt8->List (List UInt8)
 |cur,[]=>[cur]
 |cur,b::r=>bif b==46 then cur::iL [] r else iL (cur++[b]) r
def aWm (s:List UInt8)(i:Nat):Lib.occAt s [46] i=decide (s[i]? =some 46):=by
 unfold Lib.occAt;cases h:s.drop i with
 |nil=>simp_all
 |cons b r=>
  have e:s[i]? =some b:=by have:=eu (xs:=s) (i:=i) (j:=0);simp_all
  grind
def aA6:∀(a cur r:List UInt8),(∀b∈a,b≠46)->iL cur (a++46::r)=(cur++a)::iL [] r
 |[],cur,r,_=>by simp[iL]
 |b::a,cur,r,h=>by
  have hb:(b==46)=false:=by simpa using h b (by simp)
  rw[cF,iL,hb,aj,aA6 a _ r (λx c=>h x (cC _ c))];simp
def I8:∀(a cur:List UInt8),(∀b∈a,b≠46)->iL cur a=[cur++a]
 |[],cur,_=>by simp[iL]
 |b::a,cur,h=>by
  have hb:(b==46)=false:=by simpa using h b (by simp)
  rw[iL,hb,aj,I8 a _ (λx c=>h x (cC _ c))];simp
def aMh:∀(n:Nat) (s:List UInt8),s.length<n->Lib.splitK [46] 0 (Lib.count s [46]) s=iL [] s
 |0,s,h=>absurd h (Nat.not_lt_zero _)
 |n+1,s,h=>by
  rcases Lib.index_spec s [46] with⟨h1,h2⟩|⟨i,h1,h2,a,l⟩
  ·rw[Lib.count_miss h1,I8 s [] (λb hb e=>by
    obtain⟨j,hj,c⟩:=List.getElem_of_mem hb;have:=h2 j (by omega);rw[aWm,ab hj,c,e] at this;simp at this)];rfl
  ·rw[aWm] at a;have a:s[i]? =some 46:=by simpa using a
   have hi:i<s.length:=by
    rcases Nat.lt_or_ge i s.length with d|f
    ·exact d
    ·rw[eW f] at a;cases a
   rw[Lib.count_hit (by simp) h1,Nat.add_comm,Lib.splitK,h1];have k:((i:Int)== -1)=false:=by simp
   rw[k];simp only[bj,dt,ay,cy,ck];rw[dc (by simp),aMh n (s.drop (i+1)) (by rw[cN];omega)];have es:s=s.take i++46::s.drop (i+1):=by
    have m:s[i]=46:=by rw[ab hi] at a;exact ai a
    rw[<-m,List.getElem_cons_drop hi,cP]
   conv=>rhs;rw[es]
   rw[aA6 (s.take i) [] _ (λb hb e=>by
    obtain⟨j,hj,c⟩:=List.getElem_of_mem hb;rw[cx] at hj;have:=l j (by omega);rw[aWm,ab (by omega)] at this;rw[List.getElem_take] at c;rw[c,e] at this;simp at this)];simp
def bC (s:ByteArray):List ByteArray:=(iL [] s.data.toList).map λl=>⟨l.toArray⟩
def aA7 (s:ByteArray):jL s ⟨#[46]⟩=bC s:=by
 have h1:(jL s ⟨#[46]⟩).map (·.data.toList)=iL [] s.data.toList:=by rw[jL,Lib.splitB_data];exact aMh _ _ (eo _)
 unfold bC;rw[<-h1,gq]
 conv=>lhs;rw[<-List.map_id (jL s ⟨#[46]⟩)]
 congr 1
def Sw (b:Int):Bool:=bX b 97 122||bX b 48 57||b==45
def pY (s:ByteArray):Bool:=decide (1<=s.size)&&decide (s.size<=20)&& !((bO s).getD 0 0==45)&& !((bO s).getD (s.size-1) 0==45)&& !((bO s).any λb=> !Sw b)
def iB (s:ByteArray):Bool:=decide (s.size<=60)&& !((bC s).any λl=> !pY l)
def jF (s:ByteArray):(bO s).length=s.size:=by simp[bO,bh]
theorem aMi {s:ByteArray}{i:Nat}(h:i<s.size):bP (bO s) (i:Int)=some ((bO s)[i]'(by rw[jF];exact h)):=aS _
def ext_list (s:ByteArray)(a b:Nat):s.extract a b=⟨((s.data.toList.drop a).take (b-a)).toArray⟩:=by apply ByteArray.ext;apply Array.toList_inj.1;rw[Lib.extract_data]
def Nt:∀(s cur:List UInt8),(iL cur s).length<=s.length+1
 |[],_=>by simp[iL]
 |b::r,cur=>by
  rw[iL];cases b==46 with
  |true=>have:=Nt r [];simp;omega
  |false=>have:=Nt r (cur++[b]);simp at this ⊢;omega
def Fb:∀(s cur:List UInt8) (l:List UInt8),l∈iL cur s->l.length<=cur.length+s.length
 |[],cur,l,h=>by simp[iL] at h;subst h;simp
 |b::r,cur,l,h=>by
  rw[iL] at h;cases hb:b==46 with
  |true=>
   rw[hb,ae] at h;rcases ba.1 h with rfl|h
   ·omega
   ·have:=Fb r [] l h;simp at this ⊢;omega
  |false=>rw[hb,aj] at h;have:=Fb r _ l h;simp at this ⊢;omega
def Fe (s:ByteArray):(bC s).length<=s.size+1:=by unfold bC;rw[bh];exact Nt _ _
def rQ (s l:ByteArray)(h:l∈bC s):l.size<=s.size:=by unfold bC at h;obtain⟨q,hq,rfl⟩:=ci.1 h;have:=Fb _ _ q hq;have h2:(⟨q.toArray⟩:ByteArray).size=q.length:=rfl;simp_all
theorem bE8 (z:ByteArray):(z.toList==(⟨#[]⟩:ByteArray).toList)=decide (z.size=0):=by
 rw[ByteArray.toList_eq,ByteArray.toList_eq,fi];simp only[cU,cD];constructor
 ·intro h;show z.data.size=0;simp_all
 simp_all
def rR:∀(s cur:List UInt8),(iL cur s).length=s.countP (·==46)+1
 |[],_=>rfl
 |b::r,cur=>by
  rw[iL,List.countP_cons];cases b==46 with
  |true=>rw[ae,ay,rR r []];simp
  |false=>rw[aj,rR r _];simp
def I9 (s:ByteArray):0<(bC s).length:=by simp[bh,rR,bC]
def Jm (s:ByteArray):Bool:=(bO s).any λb=>b==46
theorem aFi (s:ByteArray):Jm s=decide (2<=(bC s).length):=by
 unfold Jm bC bO;rw[bh,rR,List.any_map];have e:(λb:Int=>b==46)∘(λb:UInt8=>(b.toNat:Int))=λb:UInt8=>b==46:=by
  funext b;rw[fi];simp only[Function.comp,cU];constructor
  ·intro q;apply UInt8.toNat_inj.1;grind
  simp_all
 rw[e,fi,et,cD];simp
def aS9 (s:ByteArray):ByteArray:=bif iB s then(bif (bC s).length==1 then s else mQ ⟨#[46]⟩ ((bC s).drop ((bC s).length-2))) else⟨#[]⟩
def bBe {l:List ByteArray}(h:2<=l.length):∃a∈l,∃b∈l,mQ ⟨#[46]⟩ (l.drop (l.length-2))=a++⟨#[46]⟩++b:=by
 have hl:(l.drop (l.length-2)).length=2:=by grind
 match hm:l.drop (l.length-2),hl with
 |[a,b],_=>refine⟨a,cW (i:=l.length-2) (by rw[hm];simp),b,cW (i:=l.length-2) (by rw[hm];simp),?_⟩;rw[show[a,b]=[a]++[b] from rfl,aYp _ _ _ (by simp),aYo]
theorem Ff {s:ByteArray}(h:iB s=true):s.size<=60/\0<s.size:=by
 unfold iB at h;rw[aa,cD] at h;refine⟨h.1,Nat.pos_of_ne_zero λe=> ?_⟩
 have a:s.data.toList=[]:=bv e;have b:bC s=[⟨#[]⟩]:=by unfold bC;rw[a];rfl
 rw[b] at h;exact absurd h.2 (by decide)
theorem aZo {s:ByteArray}(h:iB s=true):decide ((aS9 s).size=0)=false:=by
 have hs:=Ff h;have hp:=I9 s;unfold aS9;rw[h,ae];refine aq ?_;cases h1:(bC s).length==1 with
 |true=>grind
 |false=>
  rw[aj];have:(bC s).length≠1:=by simp_all
  obtain⟨a,_,b,_,e⟩:=bBe (l:=bC s) (by omega);rw[e,ByteArray.size_append,ByteArray.size_append];have:(⟨#[46]⟩:ByteArray).size=1:=rfl;omega
def iX (s:ByteArray)(seed:Int):Bool:=iB s&&decide (2<=(bC s).length)&&bA seed
def Ab (l:List AH)(i:Nat)(n:AH):Bool:= !bD n||(decide (0<i)&&decide ((l.getD (i-1) default).Id>=n.Id))
def dK (s:AD):Bool:=iX s.Name s.Book.Seed&&decide (s.Accounts.length<=8)&&fJ s.Book&& !gX (Ab s.Accounts) 0 s.Accounts
def SOk (s:AD):Prop:=s.Name.size<=34359738368/\s.Accounts.length<=34359738368/\s.Book.Open.length<=34359738368/\∀a∈s.Accounts,a.Credentials.length<=34359738368
instance (s:AD):Decidable (SOk s):=inferInstanceAs (Decidable (_/\_))
def fB (name:ByteArray)(seed:Int):AD:=bif iX name seed then⟨name,[],⟨seed,0,[]⟩,[]⟩ else⟨⟨#[]⟩,[],⟨0,0,[]⟩,[]⟩
def aOv (name:ByteArray)(seed:Int):decide ((fB name seed).Name.size=0)= !iX name seed:=by
 unfold fB;cases h:iX name seed with
 |false=>rfl
 |true=>
  grind[decide_eq_false,Ff,iB,iX]
def aC (i:Int):ByteArray:=bif i==0 then⟨#[98,97,110,107,46,99,111,109]⟩ else bif i==1 then⟨#[115,104,111,112,46,111,114,103]⟩ else⟨#[]⟩
def nE (i:Nat)(s:AD):Bool:= !dK s|| !(s.Name.toList==(aC (i:Int)).toList)
def bL (w:AA):Bool:=bX w.Now 0 999900&&bX (w.Devices.length:Int) 1 6&&(w.Stolen.length:Int)==(w.Devices.length:Int)&&(w.Sites.length:Int)==2&&eF w.Mail&&aT w.aAB.Log&&bA w.Seed&& !gX nE 0 w.Sites
def bDc (w:AA):Prop:=Ed w/\w.Mail.Notices.length<=34359738368/\w.Hosts.length<=34359738368/\∀s∈w.Sites,SOk s
instance (w:AA):Decidable (bDc w):=inferInstanceAs (Decidable (_/\_))
theorem Nu {α:Type}{g:α->Nat}{x:α}:∀{l:List α},x∈l->g x<=(l.map g).sum
 |y::r,h=>by
  rw[bm,eg];rcases ba.1 h with rfl|h
  ·omega
  ·have:=Nu (g:=g) h;omega
def SOk.of {s:AD}(h:s.sz<=1048576):SOk s:=by
 simp only[AD.sz] at h;refine⟨by omega,by omega,by omega,λa b=> ?_⟩
 grind[AH.sz,Nu]
def bDc.of {w:AA}(h:w.sz<=1048576):bDc w:=by
 refine⟨Ed.of h,?_,?_,λs hs=>SOk.of ?_⟩
 all_goals grind[Nu,AD.sz,AA.sz]
def Nv (w:AA)(i:Nat)(_:AB):Bool:= !iF w (i:Int)|| !gM w (i:Int)
def mG (w:AA):Bool:=bL w&&dM w&& !gX (Nv w) 0 w.Devices
abbrev aHy (a:List Int)(r:List (List Int)):Prop:=a.length+r.flatten.length<=68719476736/\r.length<=1099511627776
def Fg (w:AA)(i:Int):Bool:=decide (0<=i)&&decide (i<w.Sites.length)
def dQ (a b:AG):Bool:=decide (a.Site<b.Site)||(a.Site==b.Site&&decide (a.Handle<b.Handle))
def qA (a:AG)(s h:Int):Bool:=decide (a.Site<s)||(a.Site==s&&decide (a.Handle<h))
def mH (x e:AG):Bool:=decide (x.Version>e.Version)||(x.Version==e.Version&&x.Deleted)
def vM (e x:AG):AG:=bif mH x e then x else e
def bG:List AG->List AG->List AG
 |[],bs=>bs
 |a::xs,[]=>a::xs
 |a::xs,b::bs=>bif dQ a b then a::bG xs (b::bs) else bif dQ b a then b::bG (a::xs) bs else vM a b::bG xs bs
termination_by xs bs=>xs.length+bs.length
def aJ8 (l:List AG)(i:Nat)(e:AG):Bool:= !bX e.Site 0 2147483646||(!bX e.Handle 0 1000000||(!bX e.Version 1 1000000||(decide ((i:Int)>0)&& !dQ (l.getD (i-1) default) e)))
def aP (b:AF):Bool:=decide ((b.Entries.length:Int)<=20)&& !gX (aJ8 b.Entries) 0 b.Entries
def iC (a b:AF):AF×Bool:=bif aP a&&aP b then(bif aP ⟨bG a.Entries b.Entries⟩ then(⟨bG a.Entries b.Entries⟩,true) else(a,false)) else(a,false)
def rT (b:AF)(x:AG):AF:=bif decide (aJ b x.Site x.Handle>=0) then⟨b.Entries.set (aJ b x.Site x.Handle).toNat x⟩ else⟨b.Entries.takeWhile (λe=>qA e x.Site x.Handle)++[x]++b.Entries.dropWhile (λe=>qA e x.Site x.Handle)⟩
theorem xS {a b:AG}:dQ a b=true↔a.Site<b.Site\/(a.Site=b.Site/\a.Handle<b.Handle):=by simp[dQ]
def aOw {a x:AG}:qA a x.Site x.Handle=dQ a x:=rfl
theorem kX {a b c:AG}(h:dQ a b=true)(k:dQ b c=true):dQ a c=true:=by
 grind[xS]
def sS {a b:AG}(h:dQ a b=false)(k:dQ b a=false):a.Site=b.Site/\a.Handle=b.Handle:=by
 grind[xS]
def xU {a b c:AG}(h:a.Site=b.Site/\a.Handle=b.Handle):dQ a c=dQ b c:=by unfold dQ;rw[h.1,h.2]
def aOx {a b c:AG}(h:a.Site=b.Site/\a.Handle=b.Handle):dQ c a=dQ c b:=by unfold dQ;rw[h.1,h.2]
def Sy {a b:AG}(h:a.Site=b.Site/\a.Handle=b.Handle):(vM a b).Site=b.Site/\(vM a b).Handle=b.Handle:=by
 grind[mH,vM]
def aQ1 (a b:AG):vM a b=a\/vM a b=b:=by
 grind[mH,vM]
def dU (l:List AG):bG l []=l:=by cases l<;>rw[bG]
def jG (l:List AG):bG [] l=l:=by rw[bG]
def xV:∀(n:Nat) (a b:List AG),a.length+b.length<=n->(bG a b).length<=a.length+b.length
 |_,[],b,_=>by rw[jG];simp
 |_,a::xs,[],_=>by rw[dU];simp
 |0,a::xs,b::bs,h=>by simp at h
 |n+1,a::xs,b::bs,h=>by
  simp only[ay] at h;rw[bG];cases dQ a b with
  |true=>have:=xV n xs (b::bs) (by simp only[ay];omega);simp only[ae,ay] at*;omega
  |false=>
   cases dQ b a with
   |true=>have:=xV n (a::xs) bs (by simp only[ay];omega);simp only[aj,ae,ay] at*;omega
   |false=>have:=xV n xs bs (by omega);simp only[aj,ay] at*;omega
def sU (a b:AG)(xs bs:List AG):bG (a::xs) (b::bs)=bif dQ a b then a::bG xs (b::bs) else bif dQ b a then b::bG (a::xs) bs else vM a b::bG xs bs:=by rw[bG]
def J2 (l:List AG):Prop:=l.Pairwise λa b=>dQ a b=true
def aHz:∀(A:List AG) {b:AG} {bs:List AG},J2 (b::bs)->bG (bG A [b]) bs=bG A (b::bs)
 |[],b,bs,h=>by
  rw[jG,jG];cases bs with
  |nil=>rw[dU]
  |cons c cs=>rw[bG,(cl.1 h).1 c (by simp),ae,jG]
 |a::xs,b,bs,h=>by
  have hc:=(cl.1 h).1;rw[sU a b xs [],sU a b xs bs];cases h1:dQ a b with
  |true=>
   simp only[ae];cases bs with
   |nil=>rw[dU]
   |cons c cs=>rw[bG,kX h1 (hc c (by simp)),ae,aHz xs h]
  |false=>
   cases h2:dQ b a with
   |true=>
    simp only[ae,aj];rw[dU];cases bs with
    |nil=>rw[dU,dU]
    |cons c cs=>rw[bG,hc c (by simp),ae]
   |false=>
    simp only[aj];rw[dU];cases bs with
    |nil=>rw[dU,dU]
    |cons c cs=>rw[bG,xU (Sy (sS h1 h2)),hc c (by simp),ae]
def aQ2:∀{l:List AG} {x y:AG},y∈bG l [x]->y∈l\/y=x
 |[],x,y,h=>by rw[jG] at h;simp at h;exact .inr h
 |a::xs,x,y,h=>by
  rw[bG] at h;cases h1:dQ a x with
  |true=>
   rw[h1,ae] at h;rcases ba.1 h with rfl|h
   ·exact .inl (by simp)
   ·exact(aQ2 h).imp (λh=>by simp[h]) id
  |false=>
   rw[h1,aj] at h;cases h2:dQ x a with
   |true=>
    rw[h2,ae,dU] at h;rcases ba.1 h with rfl|h
    ·exact .inr rfl
    ·exact .inl h
   |false=>
    rw[h2,aj,dU] at h;rcases ba.1 h with rfl|h
    ·rcases aQ1 a x with e|e
     ·rw[e];exact .inl (by simp)
     ·exact .inr e
    ·exact .inl (by simp[h])
theorem aQ3:∀{l:List AG} {x:AG},J2 l->J2 (bG l [x])
 |[],x,h=>by rw[jG];exact List.pairwise_singleton _ _
 |a::xs,x,h=>by
  obtain⟨c,hs⟩:=cl.1 h;rw[bG];cases h1:dQ a x with
  |true=>
   rw[ae];refine cl.2 ⟨λy b=> ?_,aQ3 hs⟩;rcases aQ2 b with b|rfl
   ·exact c y b
   ·exact h1
  |false=>
   cases h2:dQ x a with
   |true=>
    rw[aj,ae,dU];refine cl.2 ⟨λy b=> ?_,h⟩;rcases ba.1 b with rfl|b
    ·exact h2
    ·exact kX h2 (c y b)
   |false=>rw[aj,aj,dU];have hk:=sS h1 h2;refine cl.2 ⟨λy b=> ?_,hs⟩;rw[xU (Sy hk),<-xU hk];exact c y b
def aA8:∀(B A:List AG),J2 B->B.foldl (λo x=>bG o [x]) A=bG A B
 |[],A,_=>by rw[dU];rfl
 |b::bs,A,h=>by rw[df,aA8 bs _ (cl.1 h).2,aHz A h]
theorem Fh {α:Type}{p:α->Bool}:∀{l:List α} {i:Nat},iU p i l<0->∀y∈l,p y=false
 |[],i,_,y,a=>by simp at a
 |x::l,i,h,y,a=>by
  simp only[iU] at h;cases hp:p x with
  |true=>rw[hp,ae] at h;omega
  |false=>
   rw[hp,aj] at h;rcases ba.1 a with rfl|a
   ·exact hp
   ·exact Fh h y a
def Jn {α:Type}{p:α->Bool}:∀{l:List α} {i:Nat},0<=iU p i l->∃l1 e l2,l=l1++e::l2/\p e=true/\iU p i l=((i+l1.length:Nat):Int)
 |[],i,h=>by simp[iU] at h
 |x::l,i,h=>by
  simp only[iU] at h ⊢;cases hp:p x with
  |true=>exact⟨[],x,l,rfl,hp,by simp⟩
  |false=>rw[hp,aj] at h;obtain⟨l1,e,l2,h1,h2,a⟩:=Jn h;exact⟨x::l1,e,l2,by rw[h1];rfl,h2,by rw[aj,a];simp only[ay];omega⟩
theorem aQ4:∀{l:List AG} {x:AG},(∀y∈l,(y.Site==x.Site&&y.Handle==x.Handle)=false)->bG l [x]=l.takeWhile (λe=>qA e x.Site x.Handle)++[x]++l.dropWhile (λe=>qA e x.Site x.Handle)
 |[],x,_=>by rw[jG];rfl
 |a::xs,x,h=>by
  rw[bG,cR,List.dropWhile_cons,aOw];cases h1:dQ a x with
  |true=>simp only[ae,gC];rw[aQ4 (λy b=>h y (by simp[b]))];rfl
  |false=>
   cases h2:dQ x a with
   |true=>simp only[aj,ae];rw[dU];rfl
   |false=>have:=sS h1 h2;have:=h a (by simp);simp_all
def aQ5 {e x:AG}{l2:List AG}(he:(e.Site==x.Site&&e.Handle==x.Handle)=true):∀{l1:List AG},J2 (l1++e::l2)->bG (l1++e::l2) [x]=l1++vM e x::l2
 |[],_=>by
  have hk:e.Site=x.Site/\e.Handle=x.Handle:=by simpa using he
  have h1:dQ e x=false:=by
   cases h:dQ e x with
   |false=>rfl
   |true=>rw[xS] at h;omega
  have h2:dQ x e=false:=by
   cases h:dQ x e with
   |false=>rfl
   |true=>rw[xS] at h;omega
  rw[bz,bG,h1,aj,h2,aj,dU];rfl
 |a::l1,h=>by
  obtain⟨b,hs⟩:=cl.1 h;have hk:e.Site=x.Site/\e.Handle=x.Handle:=by simpa using he
  have h1:dQ a x=true:=by rw[<-aOx hk];exact b e (by simp)
  rw[cF,bG,h1,ae,aQ5 he hs];rfl
def aMj {l:List AG}{x:AG}(h:J2 l):(bif (decide (aJ ⟨l⟩ x.Site x.Handle<0)||mH x (l.getD (aJ ⟨l⟩ x.Site x.Handle).toNat default)) then(rT ⟨l⟩ x).Entries else l)=bG l [x]:=by
 unfold rT;by_cases b:aJ ⟨l⟩ x.Site x.Handle<0
 ·grind[aQ4,Fh,decide_eq_true,decide,aJ,decide_eq_false]
 ·obtain⟨l1,e,l2,h1,h2,c⟩:=Jn (show 0<=iU (λe=>e.Site==x.Site&&e.Handle==x.Handle) 0 l from by unfold aJ at b;simp only at b;omega);have a:aJ ⟨l⟩ x.Site x.Handle=(l1.length:Int):=by grind[aJ]
  rw[a,aq (by omega),dg,show decide ((l1.length:Int)>=0)=true from av (by omega),ae,bj];subst h1;rw[aQ5 h2 h];have g:(l1++e::l2).getD l1.length default=e:=by simp
  have st:(l1++e::l2).set l1.length x=l1++x::l2:=by simp
  rw[g];show(bif mH x e then(l1++e::l2).set l1.length x else l1++e::l2)=_;rw[st];unfold vM;cases mH x e<;>rfl
theorem aQ6 {α:Type}{p:Nat->α->Bool}:∀{l:List α} {j:Nat},gX p j l=false->∀(i:Nat) (hi:i<l.length),p (j+i) l[i]=false
 |[],j,_,i,hi=>by simp at hi
 |x::l,j,h,i,hi=>by
  simp only[gX,cg] at h;cases i with
  |zero=>exact h.1
  |succ i=>have:=aQ6 h.2 i (by simpa using hi);rw[show j+(i+1)=j+1+i by omega];exact this
def aOy {b:AF}(h:aP b=true):b.Entries.length<=20/\J2 b.Entries:=by
 simp only[aP,aa,cD,bp] at h;refine⟨by omega,?_⟩;have adj:∀i (hi:i+1<b.Entries.length),dQ b.Entries[i] b.Entries[i+1]=true:=(by grind[aQ6,aJ8,Bool.or_eq_false_iff,decide_eq_true,default,Nat.add_sub_cancel,List.getD,List.getElem?_eq_getElem]);have far:∀d i (hi:i+d+1<b.Entries.length),dQ b.Entries[i] b.Entries[i+d+1]=true:=λd=>by
  induction d<;>grind[kX]
 refine dr.2 λi j hi hj a=> ?_;obtain⟨d,rfl⟩:∃d,j=i+d+1:=⟨j-i-1,by omega⟩;simp[*]
theorem jM {α β:Type}{s:List α}(hs:s.length<=34359738368)(x:α)(k:Option β):gd (bK s [x]) k=k:=(by grind[aG,bK,List.length_singleton])
theorem xB {α β:Type}{s:List α}(hs:s.length<=34359738368)(k:Option β):gd (bK [] s) k=k:=(by grind[aG,bK,List.length_nil])
def aMk {α:Type}{l s:List α}:l.foldl (λs x=>s++[x]) s=s++l:=by have:=Xx (f:=λx:α=>[x]) (l:=l) (s:=s);rw[this];congr 1;induction l<;>simp_all
def aMl {α:Type}{l:List α}{F:(Nat×List α->Option (List α))->Nat×List α->Option (List α)}(hl:l.length<=34359738368)
  (a:∀rec i s (hi:i<l.length),s.length<=34359738368->F rec (i,s)=rec (i+1,s++[l[i]])) (b:∀rec s,F rec (l.length,s)=some s):EV.cZ FUEL F (0,[])=some l:=by
 rw[aHw (l:=l) (λs x=>s++[x]) (λi s=>s.length=i) (λs=>some s) (by omega) rfl (by simp) (by grind) (by simp[*]),aMk,bz]
def bFa {α:Type}{l:List α}{F:(List α×Nat->Option (List α))->List α×Nat->Option (List α)}(hl:l.length<=34359738368)
  (a:∀rec i s (hi:i<l.length),s.length<=34359738368->F rec (s,i)=rec (s++[l[i]],i+1)) (b:∀rec s,F rec (s,l.length)=some s):EV.cZ FUEL F ([],0)=some l:=by
 rw[fT (l:=l) (λs x=>s++[x]) (λi s=>s.length=i) (λs=>some s) (by omega) rfl (by simp) (by grind) (by simp[*]),aMk,bz]
abbrev szL {α:Type}(f:α->Nat)(l:List α):Nat:=l.length+(l.map f).sum
theorem iY {S τ:Type}{F:(S->Option τ)->S->Option τ}{n:Nat}{s:S}:EV.cZ (n+1) F s=F (EV.cZ n F) s:=rfl
def Sz {α:Type}{c:Bool}{x y:α}:(bif c then some x else some y)=some (bif c then x else y):=by cases c<;>rfl
theorem aA9 {c d:Bool}:(bif c then some true else some d)=some (c||d):=by cases c<;>rfl
def aWn {α:Type}[Inhabited α]{l:List α}{i:Nat}(h:i<l.length):l.set i (l.getD i default)=l:=by simp[*]
def bHf {α β:Type}{l:List α}(f:α->β){F:(List β×Nat->Option (List β))->List β×Nat->Option (List β)}(hl:l.length<=34359738368)
  (a:∀rec i s (hi:i<l.length),s.length<=34359738368->F rec (s,i)=rec (s++[f l[i]],i+1)) (b:∀rec s,F rec (s,l.length)=some s):EV.cZ FUEL F ([],0)=some (l.map f):=by
 rw[fT (l:=l) (λs x=>s++[f x]) (λi s=>s.length=i) (λs=>some s) (by omega) rfl (by simp) (by grind) (by simp[*]),Xy,bz]
def bBf {α β:Type}{l:List α}(f:α->β){s0:List β}{F:(List β×Nat->Option (List β))->List β×Nat->Option (List β)}(hl:s0.length+l.length<=34359738368)
  (a:∀rec i s (hi:i<l.length),s.length<=34359738368->F rec (s,i)=rec (s++[f l[i]],i+1)) (b:∀rec s,F rec (s,l.length)=some s):EV.cZ FUEL F (s0,0)=some (s0++l.map f):=by
 rw[fT (l:=l) (λs x=>s++[f x]) (λi s=>s.length=s0.length+i) (λs=>some s) (by omega) (by simp) (by simp at*;omega) (by grind) (by simp[*]),Xy]
def aH0 (h:AJ)(b:Int):AJ×Bool:=bif decide (b<0)||decide (b>=(h.Saved.length:Int)) then(h,false) else(⟨h.Saved.getD (h.Saved.length-1-b.toNat) default,h.Saved,h.Monotonic⟩,true)
def aOz (w:AA)(i b:Int):AA×Bool:=bif !bL w||(decide (i<0)||decide (i>=(w.Hosts.length:Int))) then(w,false) else bif (aH0 (w.Hosts.getD i.toNat default) b).2 then({w with Hosts:=w.Hosts.set i.toNat (aH0 (w.Hosts.getD i.toNat default) b).1},true) else(w,false)
theorem aZp {i:Int}{n:Nat}(h:n<=34359738368):(!bX i 0 (IntKind.i64.wrap ((n:Int)-1)))=(decide (i<0)||decide (i>=(n:Int))):=by
 grind[decide_eq_false,decide_eq_true,bX,aH]
theorem Fj {α:Type}[Inhabited α]{l:List α}{i:Int}(h0:0<=i)(h1:i<(l.length:Int)):bP l i=some (l.getD i.toNat default):=by
 grind[List.getD,List.getElem?_eq_getElem,zJ]
theorem aWo {i:Int}{n:Nat}(h:(decide (i<0)||decide (i>=(n:Int)))=false):0<=i/\i<(n:Int):=by simp_all
theorem Jo {α:Type}[Inhabited α]{f:α->Nat}{l:List α}{i:Nat}(h:i<l.length):f (l.getD i default)<=(l.map f).sum:=by
 grind[nC,List.getD,List.getElem?_eq_getElem]
def bHg (l:List AV)(i:Nat)(s:AV):Bool:= !bX s.Index 1 7||(!bX s.Value 0 1018||(l.take i).any λq=>q.Index==s.Index)
def bDd (l:List AV):Bool:=bX (l.length:Int) 1 7&& !gX (bHg l) 0 l
def aBa (x:Int)(z v:Int):Int:=(IntKind.i64.wrap (IntKind.i64.wrap (v+fQ z 1019)*x)).tmod 1019
def Fp (c:Int)(l:List Int)(x:Int):Int:=(l.foldr (aBa x) 0+fQ c 1019)%1019
def bDe (c:List Int)(s:AV):AV:=⟨s.Index,(IntKind.i64.wrap (s.Value+Fp 0 c s.Index)).tmod 1019⟩
def aWp (l:List AV)(c:List Int):List AV:=bif bDd l then l.map (bDe c) else[]
def cS (l:List AV)(i:Nat)(k:Int):Bool:=(l.take i).any λq=>q.Index==k
def aMm {x z v:Int}(a:0<=x/\x<=1000)(hv:0<=v/\v<1019):0<=aBa x z v/\aBa x z v<1019:=by
 have hm:=sI (p:=z) (q:=1019) (by omega);unfold aBa;generalize fQ z 1019=m at*;have b:IntKind.i64.wrap (v+m)=v+m:=(by grind[aH]);have h2:0<=(v+m)*x:=jo (by omega) a.1;have c:(v+m)*x<=3000*1000:=Int.mul_le_mul (by omega) a.2 a.1 (by omega)
 grind[Int.tmod_nonneg,Int.tmod_lt_of_pos,aH]
def aBb {x:Int}(a:0<=x/\x<=1000):∀l:List Int,0<=l.foldr (aBa x) 0/\l.foldr (aBa x) 0<1019
 |[]=>by simp
 |z::l=>aMm a (aBb a l)
def aWq {σ τ:Type}{l:List Int}(g:Int->σ->σ){s0:σ}(fin:σ->Option τ){F:(σ×Int->Option τ)->σ×Int->Option τ}(hl:l.length<=34359738368)
  (a:∀rec s i (hi:i<l.length),F rec (s,(i:Int))=rec (g l[i] s,(i:Int)-1)) (b:∀rec s,F rec (s,-1)=fin s) {n0:Int} (hn:n0=(l.length:Int)-1):EV.cZ FUEL F (s0,n0)=fin (l.foldr g s0):=by
 subst hn;refine aJ2 (λk s=>k<=l.length/\s=((l.drop (l.length-k)).foldr g s0,(l.length:Int)-1-k)) l.length _ (by omega) ⟨by omega,by simp⟩ (λk s rec hk hv=> ?_) (λs rec hv=> ?_)
 ·obtain⟨_,rfl⟩:=hv;refine .inl ⟨_,⟨hk,rfl⟩,?_⟩
  grind[List.drop_eq_getElem_cons]
 grind
def bDf {c d:Bool}:(bif c then some d else some false)=some (c&&d):=by cases c<;>rfl
def aH1 (k:AU):Bool:=bDd [k.aAQ]&&(bX k.Epoch 0 1000000&&(bX k.Limit 1 10&&bX k.Guesses 0 k.Limit))
def aWr (h:AJ)(s:AV):Bool:= !aH1 h.State||(decide (qP h.State<h.Monotonic)||(h.State.Epoch==1000000||(s.Index !=h.State.aAQ.Index|| !bDd [s])))
def bDg (h:AJ)(s:AV):AJ:=⟨⟨s,IntKind.i64.wrap (h.State.Epoch+1),0,h.State.Limit⟩,h.Saved,qP ⟨s,IntKind.i64.wrap (h.State.Epoch+1),0,h.State.Limit⟩⟩
def bDh (hs:List AJ)(a:List AV):List AJ×Bool:=bif ((a.length:Int)==0)||(hs.zip a).any (λp=>aWr p.1 p.2) then(hs,false) else(List.zipWith bDg hs a,true)
def J3 (hs:List AJ)(c:List Int):List AJ×Bool:=bDh hs (aWp (hs.map λh=>h.State.aAQ) c)
def bBg (w:AA):Nat->Int->List Int
 |0,_=>[]
 |n+1,k=>bif decide (k<w.aAP.Threshold)&&decide (k<=7) then aW w.Seed [317,w.Now,k]::bBg w n (k+1) else[]
def bBh (w:AA):List Int:=bBg w 8 1
def aMn (w:AA):AA×Bool:=bif bL w&&(J3 w.Hosts (bBh w)).2 then({w with Hosts:=(J3 w.Hosts (bBh w)).1},true) else(w,false)
def aZq (b:AF)(s h:Int):Int:=bif decide (aJ b s h>=0) then IntKind.i64.wrap ((b.Entries.getD (aJ b s h).toNat default).Version+1) else 1
def Ta (b:AF)(s h:Int):AG:=⟨s,h,aZq b s h,false⟩
def aFj (b:AF)(s h:Int):AF×Bool:=bif !(decide (aJ b s h>=0)&& !(b.Entries.getD (aJ b s h).toNat default).Deleted)&&(aP b&&aP (rT b (Ta b s h))) then(rT b (Ta b s h),true) else(b,false)
def aTa (b:AF)(s h:Int):AG:=⟨s,h,IntKind.i64.wrap ((b.Entries.getD (aJ b s h).toNat default).Version+1),true⟩
def aFk (b:AF)(s h:Int):AF×Bool:=bif !aP b||(decide (aJ b s h<0)||((b.Entries.getD (aJ b s h).toNat default).Deleted||(b.Entries.getD (aJ b s h).toNat default).Version==1000000)) then(b,false) else(rT b (aTa b s h),true)
def Ac (d:AB)(n:ByteArray)(h:Int)(rm:Bool):AF×Bool:=bif rm then aFk d.aAD (bN n) h else aFj d.aAD (bN n) h
def dP (d:AB)(n:ByteArray)(h:Int)(rm:Bool):AB×Bool:=bif (Ac d n h rm).2 then({d with aAD:=(Ac d n h rm).1},true) else(d,false)
def bFb (w:AA)(d:Int)(n:ByteArray)(h:Int)(rm:Bool):AA×Bool:=bif bL w&&aO w d then(bif (dP (aD w d) n h rm).2 then({w with Devices:=w.Devices.set d.toNat (dP (aD w d) n h rm).1},true) else(w,false)) else(w,false)
def aZr (b:List Int):(Cs b).length=b.length+1:=by simp[Cs,Nat.add_comm]
def aJ9 (l:List Int):List.map (λ(n:Int)=>n) l=l:=List.map_id l
theorem aMo (b:AF)(x:AG):(rT b x).Entries.length<=b.Entries.length+1:=by
 grind[decide,aJ,List.length,List.takeWhile_append_dropWhile,qA,List.length_append,List.length_singleton,rT]
theorem aZs (b:AF)(s h:Int):(aFj b s h).1.Entries.length<=b.Entries.length+1:=by
 grind[decide,aJ,default,aP,rT,Ta,aMo,aFj]
theorem aZt (b:AF)(s h:Int):(aFk b s h).1.Entries.length<=b.Entries.length+1:=by
 grind[aP,decide,aJ,default,aMo,aTa,aFk]
theorem Xz (d:AB)(n:ByteArray)(h:Int)(rm:Bool):(dP d n h rm).1.sz<=d.sz+1:=by
 grind[Ac,AB.sz,aZt,aZs,dP]
def fC (c:AO)(b:Int):AI×Bool:=bif decide (b<0)||decide (b>=(c.History.length:Int)) then(⟨0,0,[],0⟩,false) else(c.History.getD (c.History.length-1-b.toNat) default,true)
def aTb (a b:AC):Bool:=a.Index==b.Index&&(a.Kind==b.Kind&&(a.Device==b.Device&&(a.By==b.By&&(a.Previous==b.Previous&&(a.Signature==b.Signature&&true)))))
def bT (a b:List AC):Bool:=decide (b.length<=a.length)&& !gX (λi e=> !aTb (a.getD i default) e) 0 b
def kY (k:Int)(b:AI):Int:=bI k ([227,b.Epoch,b.Version]++Cs b.Data)
def kZ (k e v:Int):Int:=aW k [223,e,v]
def Xd:Nat->Int->List Int
 |0,n=>[n]
 |k+1,n=>bif decide (n>127) then(n%128+128)::Xd k (n/128) else[n]
theorem aKa:∀(k:Nat) (n:Int),1<=(Xd k n).length/\(Xd k n).length<=k+1
 |0,n=>by simp[Xd]
 |k+1,n=>by
  have:=aKa k (n/128);unfold Xd;cases decide (n>127)<;>simp<;>omega
def aZu {k:Nat}{z:Int}(h:z<=127):Xd k z=[z]:=by cases k<;>grind[Xd,decide_eq_false]
def aQ7:∀(k:Nat) (m n:Int) (x y:List Int),0<=m->0<=n->Xd k m++x=Xd k n++y->m=n/\x=y
 |0,m,n,x,y,_,_,h=>by simpa[Xd] using h
 |k+1,m,n,x,y,h0,h1,h=>by
  unfold Xd at h;by_cases hm:m>127<;>by_cases hn:n>127
  ·simp only[av hm,av hn,ae,cF,fg] at h;have:=aQ7 k (m/128) (n/128) x y (by omega) (by omega) h.2;exact⟨by omega,this.2⟩
  ·simp only[av hm,aq hn,ae,aj,cF,fg] at h;omega
  ·simp only[aq hm,av hn,ae,aj,cF,fg] at h;omega
  ·simpa only[aq hm,aq hn,aj,cF,bz,fg] using h
def aMp {F:(Int×List Int->Option (Int×List Int))->Int×List Int->Option (Int×List Int)}
  (a:∀rec (n:Int) (s:List Int),0<=n->n<9223372036854775807->s.length<=34359738368->F rec (n,s)=bif decide (n>127) then rec (n/128,s++[n%128+128]) else some (n,s)):
  ∀(k:Nat) (n:Int) (s:List Int) (f:Nat),k<f->0<=n->n<128^(k+1)->k<=6->s.length+k<=34359738368->∃m q,EV.cZ f F (n,s)=some (m,q)/\q++[m]=s++Xd k n/\0<=m/\m<=127
 |0,n,s,f+1,b,h0,h1,_,hs=>by
  refine⟨n,s,?_,rfl,h0,by simp at h1;omega⟩;rw[iY,a _ _ _ h0 (by simp at h1;omega) (by omega),aq (by simp at h1;omega)];rfl
 |k+1,n,s,f+1,b,h0,h1,hk,hs=>by
  have h2:(128:Int)^(k+1+1)=128*128^(k+1):=by rw[fb];omega
  have h:(128:Int)^(k+1+1)<=128^8:=by exact_mod_cast gy (by omega) (by omega)
  have i:(128:Int)^8=72057594037927936:=by decide
  rw[iY,a _ _ _ h0 (by omega) (by omega)];unfold Xd;by_cases hn:n>127
  ·rw[av hn,ae,ae];obtain⟨m,q,c,d,e⟩:=aMp a k (n/128) (s++[n%128+128]) f (by omega) (by omega) (by omega) (by omega) (by simp;omega);exact⟨m,q,c,by rw[d];simp,e⟩
  ·rw[aq hn,aj,aj];exact⟨n,s,rfl,rfl,h0,by omega⟩
theorem aZv {n:Int}(h0:0<=n)(h1:n<9223372036854775808):qG .i64 n 127=n%128:=by
 obtain⟨m,rfl⟩:=dz h0;have e:((BitVec.ofInt 64 (m:Int))&&&(BitVec.ofInt 64 127)).toNat=m%128:=by
  rw[BitVec.toNat_and];have a:(BitVec.ofInt 64 (m:Int)).toNat=m:=by grind
  have b:(BitVec.ofInt 64 127).toNat=2^7-1:=by decide
  rw[a,b,fv]
 show IntKind.i64.wrap (((BitVec.ofInt 64 (m:Int))&&&(BitVec.ofInt 64 127)).toNat:Int)=_
 grind[aH]
theorem bDi {n:Int}(h0:0<=n)(h1:n<128):orI .i64 n 128=n+128:=by
 obtain⟨m,rfl⟩:=dz h0;have e:((BitVec.ofInt 64 (m:Int))|||(BitVec.ofInt 64 128)).toNat=m+128:=by
  rw[BitVec.toNat_or];have a:(BitVec.ofInt 64 (m:Int)).toNat=m:=by grind
  have c:(BitVec.ofInt 64 128).toNat=1<<<7:=by decide
  have:=jc (b:=m) (i:=7) (by omega) 1
  grind
 show IntKind.i64.wrap (((BitVec.ofInt 64 (m:Int))|||(BitVec.ofInt 64 128)).toNat:Int)=_
 grind[aH]
theorem bFc {n:Int}(h0:0<=n):Eh .i64 n 7=n/128:=by unfold Eh;rw[show min (Int.toNat 7) IntKind.i64.bits=7 from by decide,fS _ (by decide)];rfl
theorem aMq {n:Int}(h0:0<=n)(h1:n<=255):IntKind.u8.wrap n=n:=by rw[IntKind.wrap_u8];omega
def enc1 (n:Int):List Int:=bif bX n 0 1000000000000 then Xd 5 n else[]
def Fq (b:List Int)(n:Int):List Int:=b++enc1 n
def gQ (l:List Int):List Int:=(l.map enc1).flatten
theorem aBc (n:Int):(enc1 n).length<=6:=by have:=(aKa 5 n).2;unfold enc1;cases bX n 0 1000000000000<;>simp<;>omega
theorem X4 {n:Int}(h:0<=n/\n<=1000000000000):enc1 n=Xd 5 n:=by
 grind[decide_eq_true,enc1,bX]
theorem oO (n:Int)(l:List Int):gQ (n::l)=enc1 n++gQ l:=rfl
theorem Tc:∀l:List Int,(gQ l).length<=6*l.length
 |[]=>by simp[gQ]
 |n::l=>by
  have:=Tc l
  grind[oO,List.length_append,List.length_cons,aBc]
def aFl (l:List Int):Prop:=∀v∈l,0<=v/\v<=(1000000000000:Int)
theorem aMr:∀(s t x y:List Int),aFl s->aFl t->s.length=t.length->gQ s++x=gQ t++y->s=t/\x=y
 |[],[],x,y,_,_,_,h=>⟨rfl,h⟩
 |m::s,n::t,x,y,hs,ht,hl,h=>by
  have hm:=hs m (by simp);have hn:=ht n (by simp);rw[oO,oO,ce,ce,X4 hm,X4 hn] at h;obtain⟨h1,h2⟩:=aQ7 5 m n _ _ hm.1 hn.1 h;obtain⟨a,b⟩:=aMr s t x y (λv hv=>hs v (by simp[hv])) (λv hv=>ht v (by simp[hv])) (by simpa using hl) h2;exact⟨by rw[h1,a],b⟩
theorem aQ8 {b:List Int}(hb:aX b){p:Nat}:∀(k i:Nat) (n m e:Int),uvG b p (k+1) i n=(m,e,true)->∃(r:Int) (q:Nat),(0<=r/\m=n+r*128^i/\m<=1000000000000/\e=(q:Int)/\q<=b.length/\(0<i->r≠0))/\b.drop (p+i)=Xd k r++b.drop q
 |k,i,n,m,e,h=>by
  unfold uvG at h;by_cases a:p+i<b.length
  ·rw[cA a] at h;have l:=vL hb a;have hg:b.getD (p+i) 0=b[p+i]:=by simp[List.getD,ab a]
   rw[hg] at h;have hd:b.drop (p+i)=b[p+i]::b.drop (p+i+1):=cJ a;generalize b[p+i]=z at l h hd;by_cases c:z<128
   ·rw[av c,ae] at h;have d:z%128=z:=by omega
    rw[d] at h;cases hc:(decide (0<i)&&z==0)||decide (n+z*128^i>1000000000000) with
    |true=>rw[hc] at h;simp at h
    |false=>rw[hc,aj] at h;rw[cg] at hc;have h1:=of_decide_eq_false hc.2;injection h with f j;injection j with j w;refine⟨z,p+i+1,⟨l.1,f.symm,by omega,j.symm,by omega,λhi h0=> ?_⟩,by rw[hd,aZu (by omega)];rfl⟩;subst h0;simp[hi] at hc
   ·rw[aq c,aj] at h
    match k,h with
    |0,h=>simp[uvG] at h
    |k+1,h=>
     obtain⟨r,q,⟨h1,h2,o,s,t,u⟩,v⟩:=aQ8 hb k (i+1) _ m e h;have hr:=u (by omega);refine⟨z%128+128*r,q,⟨by omega,?_,o,s,t,λ_=>by omega⟩,?_⟩
     ·rw[h2,fb,Int.add_mul,<-Int.add_assoc];congr 1;rw[iq 128 r,Int.mul_assoc,iq 128]
     ·rw[hd,show p+i+1=p+(i+1) from by omega,v];have f:Xd (k+1) (z%128+128*r)=z::Xd k r:=by rw[Xd,av (show z%128+128*r>127 by omega),ae,show(z%128+128*r)%128+128=z by omega,show(z%128+128*r)/128=r by omega]
      rw[f];rfl
  ·rw[dc a] at h;simp at h
def aKb {b:List Int}(hb:aX b){a m e:Int}(h:xA b a=(m,e,true)):∃q:Nat,(0<=a/\0<=m/\m<=1000000000000/\e=(q:Int)/\q<=b.length)/\b.drop a.toNat=enc1 m++b.drop q:=by
 grind[aQ8,X4,xA]
def Td {b:List Int}(hb:aX b):∀(k:Nat) (a:Int) (s v:List Int) (e:Int),0<=a->a<=b.length->jE b k a s=(v,e,true)->∃(t:List Int) (q:Nat),(v=s++t/\t.length=k/\e=(q:Int)/\q<=b.length/\aFl t)/\b.drop a.toNat=gQ t++b.drop q
 |0,a,s,v,e,h0,h1,h=>by
  unfold jE at h;injection h with i d;injection d with d _;exact⟨[],a.toNat,⟨by simp[i],rfl,by omega,by omega,λv hv=>by simp at hv⟩,rfl⟩
 |k+1,a,s,v,e,h0,h1,h=>by
  unfold jE at h;cases f:xA b a with
  |mk m r=>
   obtain⟨e',ok⟩:=r;rw[f] at h;cases ok with
   |false=>simp at h
   |true=>
    obtain⟨q,⟨p,j,l,n,u⟩,o⟩:=aKb hb f;subst n;obtain⟨t,q',⟨k1,k2,k3,k4,k5⟩,k6⟩:=Td hb k (q:Int) (s++[m]) v e (by omega) (by omega) h;refine⟨m::t,q',⟨by rw[k1];simp,by simp[k2],k3,k4,λx c=> ?_⟩,by rw[o,oO,ce];congr 1⟩;rcases ba.1 c with rfl|c
    ·exact⟨j,l⟩
    ·exact k5 x c
def aBd {b:List Int}:∀(j k:Nat) (a:Int) (s:List Int),jE b (j+k) a s=bif (jE b j a s).2.2 then jE b k (jE b j a s).2.1 (jE b j a s).1 else([],0,false)
 |0,k,a,s=>by rw[ck];rfl
 |j+1,k,a,s=>by
  have e:∀m,jE b (m+1) a s=bif (xA b a).2.2 then jE b m (xA b a).2.1 (s++[(xA b a).1]) else([],0,false):=λ_=>rfl;rw[show j+1+k=j+k+1 by omega,e,e];cases(xA b a).2.2 with
  |false=>rfl
  |true=>exact aBd j k _ _
def aBe {b:List Int}:∀(k:Nat) (a:Int) (s:List Int),jE b k a s=bif (jE b k a []).2.2 then(s++(jE b k a []).1,(jE b k a []).2.1,true) else([],0,false)
 |0,a,s=>by simp[jE]
 |k+1,a,s=>by
  unfold jE;cases(xA b a).2.2 with
  |false=>rfl
  |true=>simp only[ae,bz];rw[aBe k _ (s++[(xA b a).1]),aBe k _ [(xA b a).1]];cases(jE b k (xA b a).2.1 []).2.2<;>simp
def aMs (e:AG):List Int:=[e.Site,e.Handle,e.Version,bif e.Deleted then 1 else 0]
def lV:List Int->List AG
 |s::h::v::d::r=>⟨s,h,v,d==1⟩::lV r
 |_=>[]
def nG:List Int->Bool
 |_::_::_::d::r=>decide (d<=1)&&nG r
 |_=>true
def iQ (l:List AG):List Int:=l.flatMap aMs
theorem sF:∀l:List AG,(iQ l).length=4*l.length
 |[]=>rfl
 |e::l=>by
  have:=sF l
  grind[aMs,iQ,List.length_append,List.length_cons]
def aBf:∀(k:Nat) (l:List Int),l.length=4*k->(lV l).length=k
 |0,[],_=>rfl
 |k+1,s::h::v::d::r,hl=>by
  have:=aBf k r (by simp at hl;omega);simp[lV,this]
def aH2:∀(k:Nat) (l:List Int),l.length=4*k->aFl l->aFl (iQ (lV l))/\(nG l=true↔iQ (lV l)=l)
 |0,[],_,_=>⟨λv h=>by simp[iQ,lV] at h,by simp[nG,iQ,lV]⟩
 |k+1,s::h::v::d::r,hl,ho=>by
  obtain⟨h1,h2⟩:=aH2 k r (by simp at hl;omega) (λx a=>ho x (by simp[a]));have hs:=ho s (by simp);have b:=ho h (by simp);have hv:=ho v (by simp);have hd:=ho d (by simp);have e:iQ (lV (s::h::v::d::r))=s::h::v::(bif d==1 then 1 else 0)::iQ (lV r):=by simp[lV,iQ,aMs]
  rw[e];refine⟨λx a=> ?_,?_⟩
  ·simp only[ba] at a;rcases a with rfl|rfl|rfl|rfl|a
   ·exact hs
   ·exact b
   ·exact hv
   ·cases(d==1)<;>simp
   ·exact h1 x a
  ·simp only[nG,aa,cD,fg,true_and,h2];refine and_congr_left' ?_;by_cases h1:d=1
   ·subst h1;simp
   ·rw[show(d==1)=false by simpa using h1,aj];omega
def aMt:∀(k:Nat) (l r:List Int),l.length=4*k->lV (l++r)=lV l++lV r
 |0,[],r,_=>rfl
 |k+1,s::h::v::d::l,r,hl=>by
  have:=aMt k l r (by simp at hl;omega);simp[lV,this]
def sW (b:AF):List Int:=[(b.Entries.length:Int)]++iQ b.Entries
def mU (b:AF):List Int:=bif aP b then gQ (sW b) else[]
def aQ9 (d:List Int)(v:List Int×Int×Bool):AF×Bool:=bif !v.2.2||(v.2.1 !=(d.length:Int)||(!nG v.1|| !aP ⟨lV v.1⟩)) then(⟨[]⟩,false) else(⟨lV v.1⟩,true)
def Md (d:List Int):AF×Bool:=bif !(xA d 0).2.2||decide ((xA d 0).1>20) then(⟨[]⟩,false) else aQ9 d (jE d (4*(xA d 0).1).toNat (xA d 0).2.1 [])
def jY (key:Int)(s:AI):AF×Bool:=bif !(bA key&&(bX s.Epoch 0 1000000&&bX s.Version 0 1000000))||s.MAC !=kY key s then(⟨[]⟩,false) else Md (Kc (kZ key s.Epoch s.Version) s.Data)
def aWs {d:List Int}(hd:aX d){n e e':Int}{v:List Int}(h:xA d 0=(n,e,true))(hn:n<=20)(c:jE d (4*n).toNat e []=(v,e',true)):(gQ (sW ⟨lV v⟩)=d↔(e'=(d.length:Int)/\nG v=true))/\v.length=4*n.toNat/\aFl v/\(lV v).length=n.toNat:=by
 obtain⟨q,⟨_,k,m,f,o⟩,p⟩:=aKb hd h;subst f;obtain⟨t,q',⟨k1,k2,k3,k4,k5⟩,k6⟩:=Td hd _ _ _ _ _ (by omega) (by omega) c;rw[bz] at k1;subst k1;have hl:v.length=4*n.toNat:=by omega
 obtain⟨r,s⟩:=aH2 n.toNat v hl k5;have b:=aBf n.toNat v hl;refine⟨?_,hl,k5,b⟩;have i:d=gQ (n::v)++d.drop q':=by
  grind[oO,List.append_assoc,k6,Int.toNat]
 have hv:sW ⟨lV v⟩=n::iQ (lV v):=by show((lV v).length:Int)::_=_;simp at*;omega
 rw[hv];constructor
 ·intro hq;have a:gQ (n::iQ (lV v))++[]=gQ (n::v)++d.drop q':=by grind
  have j:∀l,aFl l->aFl (n::l):=λl hl x a=>by
   rcases ba.1 a with rfl|a
   ·omega
   ·exact hl x a
  grind[List.cons.inj,List.length_nil,List.length_drop,List.length,aMr,k5,sF]
 grind[List.drop_eq_nil_of_le]
def aH3 (l:List Int):(EV.aSa l).data.toList=l.map λn=>UInt8.ofNat n.toNat:=by
 unfold EV.aSa;have:∀(l:List Int) (r:ByteArray),(l.foldl (λr n=>r.push (UInt8.ofNat n.toNat)) r).data.toList=r.data.toList++l.map λn=>UInt8.ofNat n.toNat:=by intro l;induction l<;>simp_all
 simp[*]
def bytes_inj:∀{a b:List Int},(∀z∈a,0<=z/\z<=255)->(∀z∈b,0<=z/\z<=255)->(a.map λn=>UInt8.ofNat n.toNat)=(b.map λn=>UInt8.ofNat n.toNat)->a=b
 |[],[],_,_,_=>rfl
 |[],y::b,_,_,h=>by simp at h
 |x::a,[],_,_,h=>by simp at h
 |x::a,y::b,d,hb,h=>by
  simp only[bm,fg] at h;have f:=d x (by simp);have i:=hb y (by simp);have e:=congrArg UInt8.toNat h.1;rw[UInt8.toNat_ofNat',UInt8.toNat_ofNat'] at e;rw[bytes_inj (λz c=>d z (by simp[c])) (λz c=>hb z (by simp[c])) h.2,show x=y by omega]
def Fs {b:List Int}(h:aX b):∀z∈b,0<=z/\z<=255:=λz a=>by simpa using cm.1 h.2 z a
def aBg {b:List Int}(h:b.length<=34359738368)(h1:∀z∈b,0<=z/\z<=255):aX b:=⟨h,cm.2 λz a=>by simpa using h1 z a⟩
def aH4:∀(k:Nat) (n:Int),0<=n->n<128^(k+1)->∀z∈Xd k n,0<=z/\z<=255
 |0,n,h0,h1,z,a=>by simp[Xd] at a;subst a;simp at h1;omega
 |k+1,n,h0,h1,z,a=>by
  have h2:(128:Int)^(k+1+1)=128*128^(k+1):=by rw[fb];omega
  unfold Xd at a;by_cases hn:n>127
  ·rw[av hn,ae] at a;rcases ba.1 a with rfl|a
   ·omega
   ·exact aH4 k (n/128) (by omega) (by omega) z a
  ·rw[aq hn,aj] at a;simp at a;subst a;omega
def aO0 (n:Int):∀z∈enc1 n,0<=z/\z<=255:=λz a=>by
 unfold enc1 at a;cases hr:bX n 0 1000000000000 with
 |false=>simp_all
 |true=>
  rw[hr] at a;have:=gN hr;have b:(128:Int)^(5+1)=4398046511104:=by decide
  exact aH4 5 n this.1 (by omega) z a
def Nw (l:List Int):∀z∈gQ l,0<=z/\z<=255:=λz a=>by
 unfold gQ at a;obtain⟨x,b,a⟩:=iS.1 a;obtain⟨n,_,rfl⟩:=ci.1 b;exact aO0 n z a
theorem mI {b:AF}(h:aP b=true):b.Entries.length<=20:=by
 grind[aP]
def aBh (b:AF):aX (mU b):=by
 unfold mU;cases hb:aP b with
 |false=>exact⟨by simp,rfl⟩
 |true=>
  have:=mI hb;have h1:=Tc (sW b);have h2:(sW b).length=1+4*b.Entries.length:=by grind[sW,sF]
  exact aBg (by grind) (Nw _)
theorem aWt (d:List Int):(Md d).1.sz<=20:=by
 grind[xA,decide,jE,aQ9,aP,lV,Bool.not_false,mI,nG,AF.sz,Md]
theorem aTc (k:Int)(s:AI):(jY k s).1.sz<=20:=by
 grind[bA,bX,kY,AF.sz,aWt,jY]
theorem aH5 {a b:AF}(h:(iC a b).2=true):(iC a b).1.sz<=20:=by
 grind[aP,bG,mI,AF.sz,iC]
def iZ (d:AB)(log:List AC)(bx:AM)(s:AI):Int:=
 bif !aT log|| !bT log d.Log then 1 else bif !gB (aA log) (aM d.Store) then 2 else bif bx.Epoch !=aB log|| !(bS d.Store bx).2 then 3
 else bif decide (s.Epoch<aB log)||(decide (s.Epoch<d.Epoch)||(s.Epoch==d.Epoch&&decide (s.Version<d.Version))) then 4
 else bif !(jY (bS d.Store bx).1 s).2|| !(iC d.aAD (jY (bS d.Store bx).1 s).1).2 then 5 else 0
def bU (d:AB)(log:List AC)(bx:AM)(s:AI):AB×Int:=
 bif iZ d log bx s==0 then(⟨d.Store,log,(bS d.Store bx).1,s.Epoch,s.Version,(iC d.aAD (jY (bS d.Store bx).1 s).1).1⟩,0) else(d,iZ d log bx s)
def aU (w:AA)(d b:Int):AA×Int:=bif bL w&&aO w d then({w with Devices:=w.Devices.set d.toNat (bU (aD w d) w.aAB.Log w.aAB.Boxes (fC w.aAB b).1).1},(bU (aD w d) w.aAB.Log w.aAB.Boxes (fC w.aAB b).1).2) else(w,1)
def gF (w:AA)(d:Int):Bool:=w.Stolen.getD d.toNat false
theorem aBi (d:AB)(l:List AC)(bx:AM)(s:AI):(bU d l bx s).1.sz<=d.sz+l.length+20:=by
 unfold bU;cases hc:iZ d l bx s==0 with
 |false=>grind
 |true=>
  grind[AB.sz,AF.sz,aH5,iC,jY,bS,bx,iZ,aT,bT,gB,aA,aM,aB,decide]
def aTd (k:Int)(i:Nat)(z:Int):Int:=IntKind.u8.wrap ((z+bI k [(i:Int)])%256)
def lZ (k:Int)(b:List Int):List Int:=Co (λi z=>[aTd k i z]) 0 b
def dZ (k e v:Int)(b:AF):AI:=⟨e,v,lZ (kZ k e v) (mU b),kY k ⟨e,v,lZ (kZ k e v) (mU b),0⟩⟩
def qQ (k e v:Int)(b:AF):AI×Bool:=bif bA k&&(bX e 0 1000000&&bX v 0 1000000)&&aP b then(dZ k e v b,true) else(⟨0,0,[],0⟩,false)
def dI (d:AB):AB×AI×Bool:=bif (qQ d.Key d.Epoch (IntKind.i64.wrap (d.Version+1)) d.aAD).2 then({d with Version:=IntKind.i64.wrap (d.Version+1)},(qQ d.Key d.Epoch (IntKind.i64.wrap (d.Version+1)) d.aAD).1,true) else(d,⟨0,0,[],0⟩,false)
def oP (a b:AI):Bool:=decide (a.Epoch>b.Epoch)||(a.Epoch==b.Epoch&&decide (a.Version>b.Version))
def bZ (c:AO)(s:AI):AO×Bool:=bif s.Epoch !=aB c.Log||((decide ((c.History.length:Int)>0)&& !oP s (c.History.getD (c.History.length-1) default))||decide ((c.History.length:Int)>=60)) then(c,false) else({c with History:=c.History++[s]},true)
def X5 (w:AA)(d:Int):AA×Bool:=bif (dI (aD w d)).2.2&&(bZ w.aAB (dI (aD w d)).2.1).2 then({w with Devices:=w.Devices.set d.toNat (dI (aD w d)).1,aAB:=(bZ w.aAB (dI (aD w d)).2.1).1},true) else(w,false)
def vN (w:AA)(d:Int):AA×Bool:=bif (aU w d 0).2==0&&(X5 (aU w d 0).1 d).2 then((X5 (aU w d 0).1 d).1,true) else(w,false)
def X6:List Int->AA->AA×Bool
 |[],w=>(w,true)
 |i::l,w=>bif (vN w i).2 then X6 l (vN w i).1 else(w,false)
def aKc:List Int->AA->AA×Bool
 |[],w=>(w,true)
 |i::l,w=>bif (aU w i 0).2==0 then aKc l (aU w i 0).1 else(w,false)
def aZw (w:AA):AA×Bool:=bif bL w&&((X6 (sQ w) w).2&&(aKc (sQ w) (X6 (sQ w) w).1).2) then((aKc (sQ w) (X6 (sQ w) w).1).1,true) else(w,false)
theorem aH6 (b:AF):(mU b).length<=500:=by
 grind[aP,mI,Tc,sW,sF,mU]
theorem Fu (k:Int)(b:List Int):(lZ k b).length=b.length:=by simp[nD,lZ]
def aTe (k e v:Int)(b:AF):(qQ k e v b).1.Data.length<=500:=by
 grind[bA,bX,aP,dZ,Fu,aH6,qQ]
theorem xW (d:AB):(dI d).1.sz=d.sz/\(dI d).2.1.Data.length<=500:=by
 unfold dI;have:=aTe d.Key d.Epoch (IntKind.i64.wrap (d.Version+1)) d.aAD;cases(qQ d.Key d.Epoch (IntKind.i64.wrap (d.Version+1)) d.aAD).2 with
 |false=>simp
 |true=>exact⟨rfl,this⟩
theorem oQ (c:AO)(s:AI):(bZ c s).1.sz<=c.sz+1+s.Data.length/\(bZ c s).1.Log=c.Log:=by
 unfold bZ;cases s.Epoch !=aB c.Log||((decide ((c.History.length:Int)>0)&& !oP s (c.History.getD (c.History.length-1) default))||decide ((c.History.length:Int)>=60)) with
 |true=>grind
 |false=>grind[AO.sz,List.length_append,List.length_cons,List.length_nil,AI.sz]
theorem tC {α:Type}{f:α->Nat}:∀{l:List α} {i:Nat} {x:α} (hi:i<l.length),((l.set i x).map f).sum+f l[i]=(l.map f).sum+f x
 |y::l,0,x,_=>by simp only[ia,bm,eg,gr];omega
 |y::l,i+1,x,h=>by
  have:=tC (f:=f) (l:=l) (i:=i) (x:=x) (by simpa using h);simp only[fN,bm,eg,fu];omega
theorem vO {w:AA}{d b:Int}(h:((aU w d b).2==0)=true):(bL w=true/\aO w d=true)/\(aU w d b).1.aAB=w.aAB/\(aU w d b).1.Devices.length=w.Devices.length/\(aU w d b).1.sz<=w.sz+w.aAB.Log.length+20:=by
 unfold aU at*;cases hc:(bL w&&aO w d) with
 |false=>simp_all
 |true=>
  rw[hc] at h;simp only[ae] at h ⊢;rw[aa] at hc;refine⟨hc,by first|rfl|trivial,by first|exact au|simp,?_⟩;have hd:=hc.2;simp only[aO,aa,cD] at hd;have hi:d.toNat<w.Devices.length:=by omega
  have a:(bU (aD w d) w.aAB.Log w.aAB.Boxes (fC w.aAB b).1).1.sz<=w.aAB.Log.length+20:=by
   unfold bU at*;cases hs:iZ (aD w d) w.aAB.Log w.aAB.Boxes (fC w.aAB b).1==0 with
   |false=>simp_all
   |true=>
    have hm:(iC (aD w d).aAD (jY (bS (aD w d).Store w.aAB.Boxes).1 (fC w.aAB b).1).1).2=true:=by
     grind[iC,aD,jY,bS,fC,iZ,aT,bT,gB,aA,aM,aB,decide]
    grind[AB.sz,AF.sz,aH5]
  grind[AA.sz,List.length_set,bU,aD,fC,tC,AB.sz]
theorem bBi {w:AA}{d:Int}(hd:aO w d=true):(X5 w d).1.aAB.Log=w.aAB.Log/\(X5 w d).1.Devices.length=w.Devices.length/\(X5 w d).1.sz<=w.sz+501:=by
 unfold X5;cases(dI (aD w d)).2.2&&(bZ w.aAB (dI (aD w d)).2.1).2 with
 |false=>simp
 |true=>
  grind[AA.sz,AO.sz,List.length_set,dI,aD,bZ,List.getD,List.getElem?_eq_getElem,tC,AB.sz,aO,xW,oQ]
def aRa {w:AA}{d:Int}(h:(vN w d).2=true):(vN w d).1.aAB.Log=w.aAB.Log/\(vN w d).1.sz<=w.sz+w.aAB.Log.length+521:=by
 grind[aU,X5,k1,k2,k3,k4,k5,vO,aO,bBi,vN]
theorem aWu {k z:Int}(i:Nat)(h:0<=z/\z<=255):IntKind.u8.wrap ((IntKind.i64.wrap (IntKind.i64.wrap z+(bI k [(i:Int)]).tmod 256)).tmod 256)=aTd k i z:=by
 grind[aH,bI,Int.tmod_eq_emod_of_nonneg,aTd,lL]
def aL (seed n:Int):AK:=⟨1,n,aW seed [277,n],0⟩
def bE (s:AK):AB:=⟨s,[],0,0,0,⟨[]⟩⟩
def dB (s:AK)(n:ByteArray)(h:Int):Int:=aW s.Seed [179,bN n,h]
def gH (s:AK)(n:ByteArray)(h:Int):Int:=dC (dB s n h)
def kH (s:AK)(l:List Int):Int:=nQ (fH s) l
def aBj (log:List AC)(kind dev:Int)(s:AK):AC:=⟨(log.length:Int),kind,dev,aM s,eH log,0⟩
def xC (log:List AC)(kind dev:Int)(s:AK):AC:={aBj log kind dev s with Signature:=kH s [bJ (aBj log kind dev s)]}
def dG (log:List AC)(kind dev:Int)(s:AK):List AC×Bool:=bif (decide ((log.length:Int)>0)&& !aT log)|| !aT (log++[xC log kind dev s]) then(log,false) else(log++[xC log kind dev s],true)
def kI (p e:Int)(d:List Int):AN:=⟨p,e,lZ (fI (eU p) e) d,Ke (fI (eU p) e) ⟨p,e,lZ (fI (eU p) e) d,0⟩⟩
def fD (p e:Int)(d:List Int):AN×Bool:=bif eU p==0||(!bA e||decide ((d.length:Int)>200)) then(⟨0,0,[],0⟩,false) else(kI p e d,true)
def fE (e:Int)(d:List Int):Nat->List Int->List AN×Bool
 |_,[]=>([],true)
 |i,p::l=>bif (fD p (IntKind.i64.wrap (e+(i:Int))) d).2&&(fE e d (i+1) l).2 then((fD p (IntKind.i64.wrap (e+(i:Int))) d).1::(fE e d (i+1) l).1,true) else([],false)
def bB (log:List AC)(key eph:Int):AM×Bool:=bif !aT log||(!bA key|| !(fE eph (gQ [aB log,key]) 0 (aA log)).2) then(⟨0,[]⟩,false) else(⟨aB log,(fE eph (gQ [aB log,key]) 0 (aA log)).1⟩,true)
def pM (e:AM)(d:Int):Int:=e.Boxes.foldl (λn b=>bif b.To==d then IntKind.i64.wrap (n+1) else n) 0
def gL (e:AM)(log:List AC):Bool:=(e.Epoch==aB log&&(e.Boxes.length:Int)==((aA log).length:Int))&&(aA log).all λd=>pM e d==1
def jZ (c:AO)(log:List AC)(e:AM):AO×Bool:=bif !aT log||(!bT log c.Log|| !gL e log) then(c,false) else({c with Log:=log,Boxes:=e},true)
def Kg (h:Int)(l:List AP):Nat:=(l.takeWhile λc=>decide (c.Handle<h)).length
def Ya (l:List AP)(h p:Int):List AP:=l.take (Kg h l)++[⟨h,p,0,false⟩]++l.drop (Kg h l)
def fO (a:AH)(h p:Int):AH×Bool:=bif !bD a|| !bD {a with Credentials:=Ya a.Credentials h p} then(a,false) else({a with Credentials:=Ya a.Credentials h p},true)
def gG (s:AD)(id h p:Int):AD×Bool:=bif !dK s||decide (aF s id<0) then(s,false) else bif (fO (s.Accounts.getD (aF s id).toNat default) h p).2 then({s with Accounts:=s.Accounts.set (aF s id).toNat (fO (s.Accounts.getD (aF s id).toNat default) h p).1},true) else(s,false)
def tF (l:List AS):Nat:=bif l.any (λn=>n.Seen) then(l.takeWhile λn=> !n.Seen).length else 0
def Bj (l:List AS):List AS:=bif decide ((l.length:Int)>30) then l.take (tF l)++l.drop (tF l+1) else l
def Me (m:AR)(k a t:Int):AR×Bool:=bif !eF m|| !eF ⟨Bj (m.Notices++[⟨k,a,t,false⟩])⟩ then(m,false) else(⟨Bj (m.Notices++[⟨k,a,t,false⟩])⟩,true)
def gI (w:AA)(by_ kind pub:Int)(key:List AC->Int):AA×Bool:=
 let l:=dG w.aAB.Log kind pub (aD w by_).Store;let e:=bB l.1 (key l.1) (IntKind.i64.wrap (1000+IntKind.i64.wrap (10*(l.1.length:Int))));let c:=jZ w.aAB l.1 e.1
 bif l.2&&(e.2&&c.2) then({w with aAB:=c.1},true) else(w,false)
theorem tH (log:List AC)(k d:Int)(s:AK):(dG log k d s).1.length<=log.length+1:=by unfold dG;cases(decide ((log.length:Int)>0)&& !aT log)|| !aT (log++[xC log k d s])<;>simp
theorem aO1 (p e:Int)(d:List Int):(fD p e d).1.sz<=d.length:=by
 grind[eU,bA,decide,AN.sz,kI,Fu,fD]
def aMu {e:Int}{d:List Int}:∀{i:Nat} {l:List Int},(fE e d i l).1.length<=l.length/\((fE e d i l).1.map AN.sz).sum<=l.length*d.length
 |i,[]=>by simp[fE]
 |i,p::l=>by
  have h1:=aMu (e:=e) (d:=d) (i:=i+1) (l:=l)
  grind[fD,fE,List.length_cons,Nat.add_mul,aO1]
theorem aMv (a b:Int):(gQ [a,b]).length<=12:=Tc [a,b]
theorem Yc (log:List AC)(k e:Int):(bB log k e).1.sz<=13*log.length:=by
 unfold bB;have h1:=aMu (e:=e) (d:=gQ [aB log,k]) (i:=0) (l:=aA log);have h2:=gD log;have a:=aMv (aB log) k;have b:=fc (aA log).length a
 grind[aT,bA,fE,gQ,aB,aA,AM.sz]
theorem aWv (c:AO)(l:List AC)(e:AM):(jZ c l e).1.sz<=c.sz+l.length+e.sz/\(jZ c l e).1.History=c.History:=by
 grind[aT,bT,gL,AO.sz,AM.sz,jZ]
theorem aMw (l:List AP)(h p:Int):(Ya l h p).length=l.length+1:=by
 grind[Ya,List.length_append,List.length_take,List.length_drop,List.length_singleton]
theorem aO2 (a:AH)(h p:Int):(fO a h p).1.sz<=a.sz+1:=by
 grind[bD,Ya,AH.sz,aMw,fO]
theorem aH7 (l:List AS):(Bj l).length<=l.length:=by
 grind[decide,List.length_append,List.length_take,List.length_drop,Bj]
theorem aZx (m:AR)(k a t:Int):(Me m k a t).1.sz<=m.sz+1:=by
 grind[eF,Bj,AR.sz,List.length_append,List.length_singleton,aH7,Me]
def vP {α:Type}{p:α->Bool}{i:Nat}{l:List α}(h:decide (iU p i l<0)=false):(i:Int)<=iU p i l/\iU p i l<i+l.length:=by induction l generalizing i<;>grind[iU,List.length_cons]
theorem aH8 (s:AD)(id h p:Int):(gG s id h p).1.sz<=s.sz+1:=by
 unfold gG;cases hc: !dK s||decide (aF s id<0) with
 |true=>simp
 |false=>
  rw[cg] at hc;have hr:=vP hc.2
  grind[fO,aF,id,default,tC,AH.sz,aO2,List.getD,List.getElem?_eq_getElem,AD.sz,List.length_set]
def appW (w:AA)(x:AB):AA:={w with Devices:=w.Devices++[x],Stolen:=w.Stolen++[false]}
theorem aBk (w:AA)(b k p:Int)(key:List AC->Int):(gI w b k p key).1.sz<=w.sz+14*(w.aAB.Log.length+1)/\(gI w b k p key).1.aAB.Log.length<=w.aAB.Log.length+1/\(gI w b k p key).1.Devices=w.Devices/\(gI w b k p key).1.Sites=w.Sites:=by
 grind[AA.sz,AO.sz,jZ,bB,aT,bT,gL,aWv,Yc,dG,aD,tH,gI]
def jU (d:AB)(h:Int)(rm:Bool):AB:=(dP (dP d (aC 0) h rm).1 (aC 1) h rm).1
def kC (st:AK)(n:Int):Nat->List AD->List AD×Bool
 |_,[]=>([],true)
 |j,s::l=>bif (gG s 1 n (gH st (aC (j:Int)) n)).2&&(kC st n (j+1) l).2 then((gG s 1 n (gH st (aC (j:Int)) n)).1::(kC st n (j+1) l).1,true) else([],false)
def nR (w:AA)(k:Int):AA:={w with Mail:=(Me w.Mail k 1 w.Now).1}
def add1 (w:AA)(b:Int):AA×Bool:=gI (aU w b 0).1 b 1 (aM (aL w.Seed (w.Devices.length:Int))) λ_=>(aD (aU w b 0).1 b).Key
def aO3 (w:AA)(b:Int):List AD×Bool:=kC (aL w.Seed (w.Devices.length:Int)) (w.Devices.length:Int) 0 (add1 w b).1.Sites
def aFm (w:AA)(b:Int):AA×Bool:=vN {(add1 w b).1 with Sites:=(aO3 w b).1,Devices:=(add1 w b).1.Devices.set b.toNat (jU (aD (add1 w b).1 b) (w.Devices.length:Int) false)} b
def aO4 (w:AA)(b:Int):AA×Int:=aU (appW (aFm w b).1 (bE (aL w.Seed (w.Devices.length:Int)))) (w.Devices.length:Int) 0
def Te (w:AA)(b:Int):Bool:=(bL w&&(aO w b&&(!gF w b&& !decide ((w.Devices.length:Int)>=6))))&&((aU w b 0).2==0&&((add1 w b).2&&((aO3 w b).2&&((aFm w b).2&&(aO4 w b).2==0))))
def iD (w:AA)(b:Int):AA×Bool:=bif Te w b then(nR (aO4 w b).1 2,true) else(w,false)
theorem aKd (d:AB)(h:Int)(rm:Bool):(jU d h rm).sz<=d.sz+2:=by
 grind[jU,Xz,aC,dP]
def aH9 {st:AK}{n:Int}:∀{j:Nat} {l:List AD},(kC st n j l).1.length<=l.length/\((kC st n j l).1.map AD.sz).sum<=(l.map AD.sz).sum+l.length
 |j,[]=>by simp[kC]
 |j,s::l=>by
  have h1:=aH9 (st:=st) (n:=n) (j:=j+1) (l:=l)
  grind[gG,gH,aC,kC,List.length_cons,aH8]
def aAW (w:AA)(b:Int):AA:={(add1 w b).1 with Sites:=(aO3 w b).1,Devices:=(add1 w b).1.Devices.set b.toNat (jU (aD (add1 w b).1 b) (w.Devices.length:Int) false)}
def aZy (w:AA)(x:AB):(appW w x).sz=w.sz+x.sz+2:=by
 grind[appW,AA.sz,List.length_append,List.length_singleton]
theorem aRb (w:AA)(k:Int):(nR w k).sz<=w.sz+1:=by
 grind[nR,AA.sz,AR.sz,aZx]
theorem aIa {α:Type}{p:α->Bool}:∀{l:List α} {i:Nat} (hi:i<l.length),i<(l.takeWhile p).length->p l[i]=true
 |x::l,0,_,h=>by
  simp only[cR] at h;cases hp:p x with
  |true=>exact hp
  |false=>rw[hp] at h;simp at h
 |x::l,i+1,hi,h=>by
  simp only[cR] at h;cases hp:p x with
  |true=>
   have a:i<(l.takeWhile p).length:=by simpa[hp] using h
   exact aIa (l:=l) (i:=i) (by simpa using hi) a
  |false=>rw[hp] at h;simp at h
theorem aIb {α:Type}{p:α->Bool}:∀{l:List α} (h:(l.takeWhile p).length<l.length),p (l[(l.takeWhile p).length]'h)=false
 |x::l,h=>by
  cases hp:p x with
  |true=>
   have a:(l.takeWhile p).length<l.length:=by simpa[cR,hp] using h
   simpa[cR,hp] using aIb a
  |false=>simp[cR,hp]
theorem Fv {α:Type}{p:α->Bool}{l:List α}:(l.takeWhile p).length<=l.length:=(List.takeWhile_prefix p).length_le
def aIc {α τ S:Type}{l:List α}(p:α->Bool)(fin:Nat->Option τ)(e:Nat->S){F:(S->Option τ)->S->Option τ}(hl:l.length<=34359738368)
  (a:∀rec i (hi:i<l.length),F rec (e i)=bif p l[i] then rec (e (i+1)) else fin i) (b:∀rec,F rec (e l.length)=fin l.length):EV.cZ FUEL F (e 0)=fin (l.takeWhile p).length:=by
 have go:∀(k i n:Nat),i+k=(l.takeWhile p).length->k<n->EV.cZ n F (e i)=fin (l.takeWhile p).length:=by
  intro k;induction k with
  |zero=>
   intro i n hi hn;obtain⟨n,rfl⟩:∃m,n=m+1:=⟨n-1,by omega⟩
   grind[Fv,aIb,iY]
  |succ k c=>
   intro i n hi hn;obtain⟨n,rfl⟩:∃m,n=m+1:=⟨n-1,by omega⟩
   grind[iY,aIa,Fv]
 have:=Fv (p:=p) (l:=l);exact go (l.takeWhile p).length 0 FUEL (by omega) (by grind[gU])
def aId {e:Int}{d:List Int}{l:List Int}{τ:Type}{x:τ}{F:(List AN×Nat->Option (τ⊕List AN))->List AN×Nat->Option (τ⊕List AN)}
  (a:∀rec i s (hi:i<l.length),s.length<=i->F rec (s,i)=bif !(fD l[i] (IntKind.i64.wrap (e+(i:Int))) d).2 then some (.inl x) else rec (s++[(fD l[i] (IntKind.i64.wrap (e+(i:Int))) d).1],i+1)) (b:∀rec s,F rec (s,l.length)=some (.inr s)):
  ∀(k i n:Nat) (s:List AN),i+k=l.length->k<n->s.length<=i->EV.cZ n F (s,i)=some (bif (fE e d i (l.drop i)).2 then .inr (s++(fE e d i (l.drop i)).1) else .inl x)
 |0,i,n+1,s,h,_,_=>by
  have:i=l.length:=by omega
  subst this;rw[iY,b,gn];simp[fE]
 |k+1,i,n+1,s,h,hn,hs=>by
  have hi:i<l.length:=by omega
  rw[iY,a _ i s hi hs,cJ hi,fE];cases hb:(fD l[i] (IntKind.i64.wrap (e+(i:Int))) d).2 with
  |false=>rfl
  |true=>rw[bl,aj,aId a b k (i+1) n _ (by omega) (by omega) (by simp;omega)];cases(fE e d (i+1) (l.drop (i+1))).2<;>simp
def aO5 (l:List AS):Nat:=(l.takeWhile λn=> !n.Seen).length
def aTf {l:List AS}{x:AS}:aO5 (l++[x])=bif l.any (λn=>n.Seen) then aO5 l else bif x.Seen then l.length else l.length+1:=by
 induction l with
 |nil=>cases a:x.Seen<;>simp[aO5,a]
 |cons y l b=>
  grind[List.takeWhile_cons,Bool.not_false,List.length_cons,aO5]
def aIe {l:List AS}{F:(Int×Int->Option Int)->Int×Int->Option Int}(a:∀rec (k:Int) (i:Nat) (hi:i<l.length),F rec (k,(i:Int))=rec (bif l[i].Seen then(i:Int) else k,(i:Int)-1))(b:∀rec k,F rec (k,-1)=some k):
  ∀(n m:Nat) (k:Int),n<=l.length->n<m->EV.cZ m F (k,(n:Int)-1)=some (bif (l.take n).any (λx=>x.Seen) then(aO5 (l.take n):Int) else k)
 |0,m+1,k,_,_=>by rw[iY,show((0:Nat):Int)-1= -1 from rfl,b];simp
 |n+1,m+1,k,h,hm=>by
  have hn:n<l.length:=by omega
  rw[iY,show((n+1:Nat):Int)-1=(n:Int) by omega,a _ _ n hn,aIe a b n m _ (by omega) (by omega),e8,ab hn];simp only[eI,jf,aTf,jr,List.any_nil,gf,cx,jd (Nat.le_of_lt hn)];cases(l.take n).any (λx=>x.Seen)<;>cases l[n].Seen<;>rfl
def aWw (l:List AS):(tF l:Int)=bif l.any (λx=>x.Seen) then(aO5 l:Int) else 0:=by unfold tF aO5;cases l.any (λn=>n.Seen)<;>rfl
def aWx {l:List AS}(h:0<l.length):tF l<l.length:=by
 unfold tF;cases hs:l.any (λn=>n.Seen) with
 |false=>exact h
 |true=>
  obtain⟨x,b,hp⟩:=et.1 hs;have:∀l:List AS,x∈l->(l.takeWhile λn=> !n.Seen).length<l.length:=by
   intro l;induction l with
   |nil=>simp
   |cons y l c=>
    intro h;cases a:y.Seen with
    |true=>simp[a]
    |false=>
     rcases ba.1 h with rfl|h
     all_goals simp[*]
  simp[*]
def aWy {e:Int}{d:List Int}{i:Nat}{l:List Int}(h:(fE e d i l).2=false):fE e d i l=([],false):=by cases l<;>grind[fE,fD]
theorem aWz {s:AD}{i:Int}(b:s.sz<=34359738300)(h:decide (aF s i<0)=false):bP s.Accounts (aF s i)=some (s.Accounts.getD (aF s i).toNat default)/\(s.Accounts.getD (aF s i).toNat default).sz<=34359738300/\(aF s i).toNat<s.Accounts.length:=by
 have hr:=vP (p:=λa:AH=>a.Id==i) (i:=0) (l:=s.Accounts) h
 grind[AD.sz,Fj,aF,Jo,AH.sz]
def jN (d:AB)(log:List AC)(key:Int):AB×Bool:=bif !aT log||(!bT log d.Log||(decide (aB log<d.Epoch)|| !bA key)) then(d,false) else({d with Log:=log,Key:=key,Epoch:=aB log,Version:=0},true)
def bF (a:AH)(h:Int):Int:=iU (λc=>c.Handle==h) 0 a.Credentials
def jH (a:AH)(k:Int):AP:=a.Credentials.getD k.toNat default
def kJ (a:AH)(h:Int):AH×Bool:=bif !bD a||(decide (bF a h<0)||(jH a (bF a h)).Cut) then(a,false) else({a with Credentials:=a.Credentials.set (bF a h).toNat {jH a (bF a h) with Cut:=true}},true)
def kP (s:AD)(k:Int):AH:=s.Accounts.getD k.toNat default
def eQ (h:Int)(s:AD):AD:=bif decide (aF s 1>=0) then {s with Accounts:=s.Accounts.set (aF s 1).toNat (kJ (kP s (aF s 1)) h).1} else s
def bM (s e:Int):Int:=aW s [233,e]
def jA (s:AK)(l:List AC):Int:=bM (aW s.Seed [311]) (aB l)
def iM (w:AA)(b:Int):AA:=(aU w b 0).1
def Tf (w:AA)(b t:Int):List AC:=(dG (iM w b).aAB.Log 2 (aM (aD w t).Store) (aD (iM w b) b).Store).1
def jV (w:AA)(b t:Int):AA×Bool:=gI (iM w b) b 2 (aM (aD w t).Store) (jA (aD (iM w b) b).Store)
def cut2 (w:AA)(b t:Int):AB×Bool:=jN (aD (iM w b) b) (Tf w b t) (jA (aD (iM w b) b).Store (Tf w b t))
def Tg (w:AA)(b t:Int):AA:={(jV w b t).1 with Devices:=(jV w b t).1.Devices.set b.toNat (jU (cut2 w b t).1 t true),Sites:=(jV w b t).1.Sites.map (eQ t)}
def Ct (w:AA)(b t:Int):AA×Bool:=X5 (Tg w b t) b
def lM (w:AA)(b t:Int):AA×Bool:=bif (jV w b t).2&&((cut2 w b t).2&&(Ct w b t).2) then(nR (Ct w b t).1 4,true) else(w,false)
def dA (w:AA)(b t:Int):AA×Bool:=bif (aU w b 0).2==0&&(!gF w b&&(!(b==t)&&aV w t)) then lM w b t else(w,false)
theorem aBl (d:AB)(l:List AC)(k:Int):(jN d l k).1.sz<=d.sz+l.length:=by
 grind[aT,bT,decide,aB,bA,AB.sz,jN]
theorem aO6 (a:AH)(h:Int):(kJ a h).1.sz=a.sz:=by
 grind[bD,decide,bF,jH,AH.sz,List.length_set,kJ]
theorem aO7 (h:Int)(s:AD):(eQ h s).sz=s.sz:=by
 unfold eQ;cases hc:decide (aF s 1>=0) with
 |false=>rfl
 |true=>
  have h0:decide (aF s 1<0)=false:=by simp_all
  have hr:=vP h0
  grind[AD.sz,List.length_set,kP,aF,List.getD,List.getElem?_eq_getElem,aO6,tC,AH.sz,kJ]
theorem aMx (h:Int)(l:List AD):((l.map (eQ h)).map AD.sz).sum=(l.map AD.sz).sum:=by induction l<;>grind[aO7]
def aTg {w:AA}{b t:Int}(h0:((aU w b 0).2==0)=true):(aO (iM w b) b=true/\(iM w b).Devices.length=w.Devices.length/\(iM w b).aAB=w.aAB/\(iM w b).sz<=2*w.sz+20)/\(Tf w b t).length<=w.sz+1/\(aO (jV w b t).1 b=true/\(jV w b t).1.Devices=(iM w b).Devices)/\(jV w b t).1.sz<=16*w.sz+34/\(jV w b t).1.Sites=(iM w b).Sites:=by
 obtain⟨⟨k1,k2⟩,k3,k4,k5⟩:=vO h0;have a:w.aAB.Log.length<=w.sz:=by grind[AA.sz,AO.sz]
 grind[aO,gI,iM,aM,aD,jA,k4,k3,Tf,jV,k6,k5,aU,k2,aBk,tH]
--needs aAR aAS aAM
def kK (b:AQ)(id:Int):Int:=bI b.Seed [197,id]
def Ti (b:AQ)(acc now:Int):AY:=⟨b.Next,acc,IntKind.i64.wrap (now+5)⟩
def eT (b:AQ)(acc now:Int):AQ×AY×Bool:=bif fJ b&&(!(b.Next==1000000)&&(bX acc 0 1000000&&bX now 0 1000000)) then(⟨b.Seed,IntKind.i64.wrap (b.Next+1),(bif decide ((b.Open.length:Int)>=16) then b.Open.drop 1 else b.Open)++[Ti b acc now]⟩,Ti b acc now,true) else(b,⟨0,0,0⟩,false)
def mV (b:AQ)(id:Int):Int:=iU (λc=>c.Id==id) 0 b.Open
def aKe (b:AQ)(k:Int):AY:=b.Open.getD k.toNat default
def J4 (b:AQ)(id acc now:Int):AQ×Bool:=bif !fJ b||decide (mV b id<0) then(b,false) else(⟨b.Seed,b.Next,b.Open.take (mV b id).toNat++b.Open.drop ((mV b id).toNat+1)⟩,(aKe b (mV b id)).aAH==acc&&decide (now<=(aKe b (mV b id)).Until))
def aBm (s:AD)(id now:Int):AD×Int×Int×Bool:=bif dK s&&(!decide (aF s id<0)&&(eT s.Book id now).2.2) then({s with Book:=(eT s.Book id now).1},(eT s.Book id now).2.1.Id,kK (eT s.Book id now).1 (eT s.Book id now).2.1.Id,true) else(s,0,0,false)
def tJ (s:AK):Bool:=bX s.Vendor 1 9&&(bX s.Serial 0 1000000&&(bA s.Seed&&bX s.Counter 0 1000000))
def aW0 (s:AK):AK:={s with Counter:=IntKind.i64.wrap (s.Counter+1)}
def Jp (s:AK)(site:ByteArray)(h:Int)(m:List Int):AK×Int×Bool:=bif tJ s&& !(s.Counter==1000000) then(aW0 s,nQ (dB s site h) (m++[(aW0 s).Counter]),true) else(s,0,false)
def jI (a:A4):List Int:=[199,bN a.Site,xR 211 a.aAS,a.aAM,a.Handle,bif a.Present then 1 else 0]
def aRc (j:Int):AX:=⟨true,⟨#[119,119,119,46]⟩++aC j,443⟩
def aO8 (j:Int):AX:=⟨true,⟨#[108,111,103,105,110,46]⟩++aC j++⟨#[46,101,118,105,108,46,110,101,116]⟩,443⟩
def bBj (j:Int):AX:=⟨true,aC j,443⟩
def bFd (k:Nat):AX:=match k with|0=>aRc 0|1=>aRc 1|2=>bBj 0|3=>bBj 1|4=>aO8 0|_=>aO8 1
def bFe:List UInt8->List UInt8->Bool
 |[],b=>b==[]
 |x::a,b=>b==x::a||bFe a b
def Jq (o:AX)(z:ByteArray):Bool:=bFe (46::o.Host.data.toList) (46::z.data.toList)
def bBk (o:AX)(s:ByteArray):Prop:=(∃k:Nat,k<6/\o=bFd k)/\∃j:Int,(j=0\/j=1)/\s=aC j
noncomputable instance (o:AX) (s:ByteArray):Decidable (bBk o s):=Classical.propDecidable _
def bBl (o:AX):Prop:=∃k:Nat,k<6/\o=bFd k
def bBl.p {o:AX}(h:bBl o){j:Int}(hj:j=0\/j=1):bBk o (aC j):=⟨h,j,hj,rfl⟩
def aW1 (o:AX):ByteArray:=⟨#[104,116,116,112,115,58,47,47]⟩++o.Host
def Yd (s:AK)(o:AX)(site:ByteArray)(h a:Int)(p:Bool):A4:=⟨site,aW1 o,a,h,p,0,0⟩
def aZz:A4:=⟨⟨#[]⟩,⟨#[]⟩,0,0,false,0,0⟩
def Jr (s:AK)(o:AX)(site:ByteArray)(h a:Int)(p:Bool):AK×A4×Bool:=bif Jq o site&&(Jp s site h (jI (Yd s o site h a p))).2.2 then((Jp s site h (jI (Yd s o site h a p))).1,{Yd s o site h a p with Counter:=(Jp s site h (jI (Yd s o site h a p))).1.Counter,Signature:=(Jp s site h (jI (Yd s o site h a p))).2.1},true) else(s,aZz,false)
def Fw (pub:Int)(a:A4)(site:ByteArray)(b cnt:Int):Int:=bif !(a.Site.toList==site.toList) then 1 else bif !a.Present then 2 else bif !(a.aAM==b) then 3 else bif !eX pub (jI a++[a.Counter]) a.Signature then 5 else bif decide (a.Counter<=cnt) then 4 else 0
def aBn (a:AH)(x:A4)(site:ByteArray)(b:Int):AH×Int:=bif !bD a||(decide (bF a x.Handle<0)||(jH a (bF a x.Handle)).Cut) then(a,5) else({a with Credentials:=bif Fw (jH a (bF a x.Handle)).Public x site b (jH a (bF a x.Handle)).Counter==0 then a.Credentials.set (bF a x.Handle).toNat {jH a (bF a x.Handle) with Counter:=x.Counter} else bif Fw (jH a (bF a x.Handle)).Public x site b (jH a (bF a x.Handle)).Counter==4 then a.Credentials.set (bF a x.Handle).toNat {jH a (bF a x.Handle) with Cut:=true} else a.Credentials},Fw (jH a (bF a x.Handle)).Public x site b (jH a (bF a x.Handle)).Counter)
def aKf (a:AH)(m:Int):Bool:=bD a&&(decide (a.Minimum<=m)&&(decide (m<=3)&&(!(m==3)||a.Credentials.any λc=> !c.Cut)))
def aRd (s:AD)(id b now:Int)(a:A4):AD×Int×Int:=bif !dK s||decide (aF s id<0) then(s,1,0) else bif !(J4 s.Book b id now).2 then({s with Book:=(J4 s.Book b id now).1},2,0) else bif !aKf (kP s (aF s id)) 3 then({s with Book:=(J4 s.Book b id now).1},3,0) else bif !((aBn (kP s (aF s id)) a s.Name (kK s.Book b)).2==0) then({s with Book:=(J4 s.Book b id now).1,Accounts:=s.Accounts.set (aF s id).toNat (aBn (kP s (aF s id)) a s.Name (kK s.Book b)).1},4,(aBn (kP s (aF s id)) a s.Name (kK s.Book b)).2) else({s with Book:=(J4 s.Book b id now).1,Accounts:=s.Accounts.set (aF s id).toNat (aBn (kP s (aF s id)) a s.Name (kK s.Book b)).1,Logins:=s.Logins++[id]},0,0)
def iN (w:AA)(j:Int):AD:=w.Sites.getD j.toNat default
def Fx (w:AA)(j:Int):AD×Int×Int×Bool:=aBm (iN w j) 1 w.Now
def aMy (w:AA)(d j:Int)(o:AX):AK×A4×Bool:=Jr (aD w d).Store o (aC j) d (Fx w j).2.2.1 true
def aZ0 (w:AA)(d j:Int)(o:AX):AD×Int×Int:=aRd (Fx w j).1 1 (Fx w j).2.1 w.Now (aMy w d j o).2.1
def bFf (w:AA)(d j:Int)(o:AX):AA:={w with Devices:=w.Devices.set d.toNat {aD w d with Store:=(aMy w d j o).1},Sites:=w.Sites.set j.toNat (aZ0 w d j o).1}
def Ad (w:AA)(d j:Int):Bool:=bL w&&(aO w d&&Fg w j)
def aBo (w:AA)(d j:Int)(o:AX):AA×A4×Int:=bif !Ad w d j then(w,aZz,1) else bif !(Fx w j).2.2.2 then(w,aZz,1) else bif !((aZ0 w d j o).2.1==0) then(bFf w d j o,(aMy w d j o).2.1,2) else(nR (bFf w d j o) 1,(aMy w d j o).2.1,0)
def aKg (w:AA)(d j:Int)(o:AX):AA×Int:=((aBo w d j o).1,(aBo w d j o).2.2)
def aRe (w:AA)(d j:Int):AA×Int:=bif Ad w d j&& !gF w d then aKg w d j (aRc j) else(w,1)
def aO9 (m:Int):Nat->Int->Int->Int->Int
 |0,_,_,s=>s
 |k+1,b,n,s=>if n>0 then aO9 m k ((IntKind.i64.wrap (b*b)).tmod m) (n/2) (bif n%2==1 then(IntKind.i64.wrap (s*b)).tmod m else s) else s
def aBp (x:Int):Bool:=bX x 1 2038&&aO9 2039 11 x 1019 1==1
def tK (g n:Int):Int:=bif aBp g then aO9 2039 11 g (fQ n 1019) 1 else 0
def Tj (l v:Int):Int:=tK 4 (IntKind.i64.wrap (1+((IntKind.i64.wrap (bI l [89,v]*bI l [89,v])).tmod 2147483647).tmod 1018))
def Js (s l i:Int):Int:=tK (Tj l i) s
def vQ (e l:Int):Int:=iK (bI e [157,l])
def aIf (k m:Int):Int:=bif bX k 0 2147483647 then aR7 .i64 k (aW m [251]) else 0
def Tn (o s:Int):Int:=bI o [257,s]
def qJ (c:Int)(l:List Int)(n:Int):List AV:=bif bX n 1 7&&decide ((l.length:Int)<n) then(List.range n.toNat).map λ(i:Nat)=>⟨(i:Int)+1,Fp c l ((i:Int)+1)⟩ else[]
def vR (k:AU):AJ:=⟨k,[],qP k⟩
def Jt (pin salt key secret limit:Int):Bool:=bX pin 0 9999&&(bX salt 0 1000000&&(bA key&&(!(fQ secret 1019==0)&&bX limit 1 10)))
def xD (pin salt key secret:Int)(cs:List Int)(n limit:Int):A3×List AJ×Bool:=
 bif Jt pin salt key secret limit&& !((qJ secret cs n).length==0) then(⟨salt,IntKind.i64.wrap ((cs.length:Int)+1),Tn (vQ (Js secret salt pin) salt) salt,aIf key (vQ (Js secret salt pin) salt)⟩,(qJ secret cs n).map (λs=>vR ⟨s,0,0,limit⟩),true) else(⟨0,0,0,0⟩,[],false)
def dN (log:List AC)(bx:AM):AO×Bool:=bif aT log&&gL bx log then(⟨log,bx,[]⟩,true) else(⟨[],⟨0,[]⟩,[]⟩,false)
def xX (id:Int)(l:List AH):Nat:=(l.takeWhile λa=>decide (a.Id<id)).length
def nH (s:AD)(id m:Int):AD:={s with Accounts:=s.Accounts.take (xX id s.Accounts)++[⟨id,m,[]⟩]++s.Accounts.drop (xX id s.Accounts)}
def lC (s:AD)(id m:Int):AD×Bool:=bif dK s&&dK (nH s id m) then(nH s id m,true) else(s,false)
def pO (nm:ByteArray):Nat->List AB->AD->AD
 |_,[],s=>s
 |i,d::l,s=>pO nm (i+1) l (gG s 1 (i:Int) (gH d.Store nm (i:Int))).1
def Fy (seed:Int)(l:List AB)(j:Int):AD:=pO (aC j) 0 l (lC (fB (aC j) (aW seed [281,j])) 1 3).1
def tL (l:List AB)(seed:Int):List AD:=[Fy seed l 0,Fy seed l 1]
def aQ (seed:Int):Nat->List AC
 |0=>[]
 |n+1=>(dG (aQ seed n) 1 (aM (aL seed (n:Int))) (aL seed 0)).1
def cK (seed:Int)(n:Nat):List AB:=(List.range n).map λ(i:Nat)=>bE (aL seed (i:Int))
def Ae (nm:ByteArray):Nat->AB->AB
 |0,d=>d
 |i+1,d=>(dP (Ae nm i d) nm (i:Int) false).1
def fK (seed:Int)(n:Nat):AM:=(bB (aQ seed n) (bM seed 0) 1000).1
def rU (seed:Int)(n:Nat)(d:AB):AB:=(jN d (aQ seed n) (bM seed 0)).1
def jK (seed:Int)(n:Nat):AB:=Ae (aC 1) n (Ae (aC 0) n (rU seed n (bE (aL seed 0))))
def nwW (seed:Int)(n:Nat):AB×AI×Bool:=dI (jK seed n)
def fM (seed:Int)(n:Nat):AO:=(bZ (dN (aQ seed n) (fK seed n)).1 (nwW seed n).2.1).1
def tN (seed:Int)(n:Nat)(d:AB):AB:=(bU (rU seed n d) (aQ seed n) (fK seed n) (nwW seed n).2.1).1
def iG (seed:Int)(n:Nat):List AB:=(nwW seed n).1::((cK seed n).drop 1).map (tN seed n)
def Ny (seed t:Int):List Int:=(List.range (t-1).toNat).map λ(k:Nat)=>aW seed [307,(k:Int)+1]
def vS (seed t pin k:Int):A3×List AJ×Bool:=xD pin 7 (aW seed [283]) (IntKind.i64.wrap (1+(aW seed [293]).tmod 1018)) (Ny seed t) k 5
def Af (n k t pin seed:Int):Bool:=bX n 1 3&&(bX k 1 7&&(bX t 1 k&&(bX pin 0 9999&&bA seed)))
def aRf:AA:=⟨0,0,[],[],⟨[],⟨0,[]⟩,[]⟩,[],⟨0,0,0,0⟩,[],0,⟨[]⟩⟩
def aZ (n k t pin seed:Int):AA:=bif Af n k t pin seed then⟨0,seed,iG seed n.toNat,List.replicate n.toNat false,fM seed n.toNat,tL (cK seed n.toNat) seed,(vS seed t pin k).1,(vS seed t pin k).2.1,pin,⟨[]⟩⟩ else aRf
theorem aBq {l:List Int}(h:l.Nodup)(e:AC):(gY l e).Nodup:=by
 grind[List.nodup_append,gY]
theorem aPa (log:List AC):(aA log).Nodup:=by
 have key:∀(l:List AC) (s:List Int),s.Nodup->(l.foldl gY s).Nodup:=by intro l;induction l<;>grind[aBq]
 exact key log [] fR
theorem aMz {e:Int}{d:List Int}:∀{i:Nat} {l:List Int},(fE e d i l).2=true->(fE e d i l).1.map (λb=>b.To)=l
 |_,[],_=>rfl
 |i,p::l,h=>by
  simp only[fE] at h ⊢;cases hc:(fD p (IntKind.i64.wrap (e+(i:Int))) d).2&&(fE e d (i+1) l).2 with
  |false=>rw[hc] at h;cases h
  |true=>
   rw[aa] at hc;simp only[ae,bm,aMz hc.2];have:(fD p (IntKind.i64.wrap (e+(i:Int))) d).1.To=p:=by
    have h1:=hc.1;unfold fD at h1 ⊢;cases hq:eU p==0||(!bA (IntKind.i64.wrap (e+(i:Int)))||decide ((d.length:Int)>200)) with
    |true=>rw[hq] at h1;cases h1
    |false=>rfl
   rw[this]
theorem aIg:∀{l:List AN} {d:Int} {s:Int},(l.map λb=>b.To).Nodup->0<=s->s<1000->l.foldl (λn b=>bif b.To==d then IntKind.i64.wrap (n+1) else n) s=s+(if d∈l.map (λb=>b.To) then 1 else 0)
 |[],d,s,_,_,_=>by simp
 |b::l,d,s,h,h0,h1=>by
  rw[bm,cj] at h;rw[df];cases hc:b.To==d with
  |true=>
   have hd:b.To=d:=by simpa using hc
   have hn:d∉l.map (λb=>b.To):=hd▸h.1;have c:IntKind.i64.wrap (s+1)=s+1:=aH (by omega) (by omega);have key:∀(l:List AN) (s:Int),d∉l.map (λb=>b.To)->l.foldl (λn b=>bif b.To==d then IntKind.i64.wrap (n+1) else n) s=s:=by
    intro l;induction l with
    |nil=>exact λ_ _=>rfl
    |cons x l f=>
     intro s a;simp only[bm,ba,not_or] at a;have:(x.To==d)=false:=by simpa using λe=>a.1 e.symm
     rw[df,this,aj];exact f s a.2
   rw[ae,key l _ hn,c,bm,cA (by simp[hd])]
  |false=>
   have hd:¬b.To=d:=by simpa using hc
   rw[aj,aIg h.2 h0 h1,bm];have:(d∈b.To::l.map λb=>b.To)↔d∈l.map λb=>b.To:=by rw[ba];exact⟨λh=>h.resolve_left λe=>hd e.symm, .inr⟩
   simp only[this]
theorem aFn {log:List AC}{k e:Int}(h:(bB log k e).2=true):gL (bB log k e).1 log=true:=by
 unfold bB at h ⊢;cases hc: !aT log||(!bA k|| !(fE e (gQ [aB log,k]) 0 (aA log)).2) with
 |true=>simp_all
 |false=>
  simp only[cg,cY] at hc
  grind[aIg,aPa,gL,pM,List.all_eq_true,List.length_map,List.length,aMz]
theorem aTh {log:List AC}{k e:Int}(h:(bB log k e).2=false):(bB log k e).1=⟨0,[]⟩:=by
 grind[aT,bA,fE,gQ,aB,aA,bB]
def aIh {d:AB}{log:List AC}{bx:AM}{s:AI}(h:(iZ d log bx s==0)=false):(bU d log bx s).1=d:=by
 grind[bU]
def aW2 (d:AB)(bx:AM)(s:AI):(bU d [] bx s).1=d:=aIh rfl
theorem bDj (s:AK):(bS s ⟨0,[]⟩).2=false:=rfl
def aPb {log:List AC}{key e:Int}{s:AI}(hs:s=⟨0,0,[],0⟩\/s.Epoch=aB log)(d:AB):
  (bU d (bZ (dN log (bB log key e).1).1 s).1.Log (bZ (dN log (bB log key e).1).1 s).1.Boxes (fC (bZ (dN log (bB log key e).1).1 s).1 0).1).1=(bU d log (bB log key e).1 s).1:=by
 cases hc:aT log&&gL (bB log key e).1 log with
 |true=>
  have b:(dN log (bB log key e).1).1=⟨log,(bB log key e).1,[]⟩:=by grind[dN]
  rw[b];cases hq:s.Epoch !=aB log with
  |true=>
   have c:s=⟨0,0,[],0⟩:=by simp_all
   have a:(bZ ⟨log,(bB log key e).1,[]⟩ s).1=⟨log,(bB log key e).1,[]⟩:=by
    grind[bB,bZ]
   rw[a,c];rfl
  |false=>
   have a:(bZ ⟨log,(bB log key e).1,[]⟩ s).1=⟨log,(bB log key e).1,[s]⟩:=by
    grind[bB,bZ]
   rw[a];rfl
 |false=>
  have b:(dN log (bB log key e).1).1=⟨[],⟨0,[]⟩,[]⟩:=by grind[dN]
  have a:(bZ (dN log (bB log key e).1).1 s).1.Log=[]:=by rw[(oQ _ _).2,b]
  rw[a,aW2];refine(aIh ?_).symm;cases hl:aT log with
  |false=>grind[iZ,Bool.not_false]
  |true=>
   grind[bT,gB,aA,aM,iZ,bDj,Bool.not_true,Bool.not_false,aTh,bB,aFn]
theorem X7 (nm:ByteArray):∀(i:Nat) (d:AB),(Ae nm i d).sz<=d.sz+i
 |0,d=>ak _
 |i+1,d=>by have h1:=X7 nm i d;grind[dP,Ae,Xz]
theorem mJ (seed:Int):∀n:Nat,(aQ seed n).length<=n
 |0=>ak _
 |n+1=>by have h1:=mJ seed n;grind[dG,aQ,aM,aL,tH]
theorem X8 (seed:Int)(n:Nat)(d:AB):(rU seed n d).sz<=d.sz+n:=by have h1:=aBl d (aQ seed n) (bM seed 0);have h2:=mJ seed n;show(jN d (aQ seed n) (bM seed 0)).1.sz<=_;omega
theorem Ye (s:AK):(bE s).sz=0:=rfl
def aBr (seed:Int)(n:Nat):(jK seed n).sz<=3*n:=by
 grind[jK,Ye,X8,bE,aL,X7,aC,rU,Ae]
theorem aBs (seed:Int)(n:Nat):(fK seed n).sz<=13*n:=by
 grind[fK,mJ,Yc,aQ,bM]
theorem J5 (log:List AC)(bx:AM):(dN log bx).1.sz<=log.length+bx.sz:=by
 grind[aT,gL,bx,AO.sz,AM.sz,List.length_nil,dN]
def aBt (seed:Int)(n:Nat):(fM seed n).sz<=14*n+501:=by
 grind[fM,nwW,xW,jK,mJ,aBs,J5,aQ,fK,oQ,dN]
theorem aTi (seed:Int)(n:Nat)(d:AB):(tN seed n d).sz<=d.sz+2*n+20:=by
 grind[tN,mJ,X8,aBi,rU,aQ,fK,nwW]
def aPc {α:Type}{f:α->Nat}{b:Nat}:∀{l:List α},(∀x∈l,f x<=b)->(l.map f).sum<=l.length*b
 |[],_=>co _
 |x::l,h=>by
  have h1:=h x (by simp);have h2:=aPc (l:=l) (f:=f) (b:=b) λy a=>h y (by simp[a]);simp only[bm,eg,ay,dl];omega
theorem Oa (nm:ByteArray):∀(i:Nat) (l:List AB) (s:AD),(pO nm i l s).sz<=s.sz+l.length
 |_,[],s=>ak _
 |i,d::l,s=>by
  have h1:=Oa nm (i+1) l (gG s 1 (i:Int) (gH d.Store nm (i:Int))).1
  grind[List.length_cons,pO,gG,gH,aH8]
def aBu (s:AD)(id m:Int):(lC s id m).1.sz<=s.sz+1:=by
 unfold lC;cases dK s&&dK (nH s id m) with
 |false=>simp
 |true=>
  grind[nH,AD.sz,List.length_append,List.length_cons,List.length_nil,AH.sz,xX,id,List.take_append_drop]
def J6 (nm:ByteArray)(s:Int):(fB nm s).sz<=nm.size:=by
 unfold fB;cases iX nm s with
 |true=>simp[AD.sz]
 |false=>exact co _
def J7 (seed:Int)(l:List AB)(j:Int):(Fy seed l j).sz<=l.length+101:=by
 have h1:=Oa (aC j) 0 l (lC (fB (aC j) (aW seed [281,j])) 1 3).1;have h2:=aBu (fB (aC j) (aW seed [281,j])) 1 3;have a:=J6 (aC j) (aW seed [281,j]);have b:(aC j).size<=100:=by unfold aC;cases j==0<;>cases j==1<;>decide
 grind[Fy]
def aIi (c:Int)(l:List Int)(n:Int):(qJ c l n).length<=7:=by
 grind[bX,decide,gN,List.length_map,List.length_range,qJ]
def aKh (pin salt key secret:Int)(cs:List Int)(n limit:Int):(xD pin salt key secret cs n limit).2.1.length<=7/\((xD pin salt key secret cs n limit).2.1.map AJ.sz).sum=0:=by
 unfold xD;cases Jt pin salt key secret limit&& !((qJ secret cs n).length==0) with
 |false=>simp
 |true=>refine⟨by simp only[ae,bh];exact aIi _ _ _,?_⟩;have:=aPc (f:=AJ.sz) (b:=0) (l:=(qJ secret cs n).map λs=>vR ⟨s,0,0,limit⟩) (λx a=>by obtain⟨s,_,rfl⟩:=ci.1 a;exact ak _);simp_all
def aM0 (n k t pin seed:Int):(aZ n k t pin seed).sz<=100000:=by
 unfold aZ;cases hc:Af n k t pin seed with
 |false=>exact co _
 |true=>
  simp only[Af,aa] at hc;have hn:=gN hc.1;obtain⟨N,c⟩:∃N,N=n.toNat:=⟨_,rfl⟩;have d:N<=3:=by omega
  have h1:=xW (jK seed N);have h2:=aBr seed N;have m:=aBt seed N;have o:=J7 seed (cK seed N) 0;have p:=J7 seed (cK seed N) 1;have e:=aKh pin 7 (aW seed [283]) (IntKind.i64.wrap (1+(aW seed [293]).tmod 1018)) (Ny seed t) k 5;have a:(cK seed N).length=N:=by simp[cK]
  have h:=aPc (f:=AB.sz) (b:=26) (l:=((cK seed N).drop 1).map (tN seed N)) (by grind[List.mem_of_mem_drop,cK,aTi,bE,aL,Ye]);have i:(nwW seed N).1.sz=(jK seed N).sz:=h1.1;have j:(vS seed t pin k).2.1.length<=7/\((vS seed t pin k).2.1.map AJ.sz).sum=0:=e;rw[bh,cN,a] at h;simp only[ae,<-c,AA.sz,iG,tL,ay,bh,cN,a,bm,eg,cy,fL,List.sum_nil,eS,i]
  grind[AO.sz,AM.sz,Nat.mul_le_mul_right,fM]
def aTj (d:AB)(n:ByteArray)(h:Int)(rm:Bool):(dP d n h rm).1.Key=d.Key/\(dP d n h rm).1.Epoch=d.Epoch:=by unfold dP;cases(Ac d n h rm).2<;>exact⟨rfl,rfl⟩
def aKi (nm:ByteArray):∀(i:Nat) (d:AB),(Ae nm i d).Key=d.Key/\(Ae nm i d).Epoch=d.Epoch
 |0,d=>⟨rfl,rfl⟩
 |i+1,d=>by
  simp[aTj,Ae,aKi]
def aPd (seed:Int)(n:Nat):(jK seed n).Key=(rU seed n (bE (aL seed 0))).Key/\(jK seed n).Epoch=(rU seed n (bE (aL seed 0))).Epoch:=by obtain⟨h1,h2⟩:=aKi (aC 1) n (Ae (aC 0) n (rU seed n (bE (aL seed 0))));obtain⟨a,b⟩:=aKi (aC 0) n (rU seed n (bE (aL seed 0)));exact⟨h1.trans a,h2.trans b⟩
theorem aPe {seed:Int}{n:Nat}(h:bA (rU seed n (bE (aL seed 0))).Key=true):(rU seed n (bE (aL seed 0))).Epoch=aB (aQ seed n):=by
 unfold rU jN at h ⊢;cases hq: !aT (aQ seed n)||(!bT (aQ seed n) (bE (aL seed 0)).Log||(decide (aB (aQ seed n)<(bE (aL seed 0)).Epoch)|| !bA (bM seed 0))) with
 |true=>rw[hq] at h;exact absurd (show bA 0=true from h) (by decide)
 |false=>rfl
def aTk (seed:Int)(n:Nat):(nwW seed n).2.1=⟨0,0,[],0⟩\/(nwW seed n).2.1.Epoch=aB (aQ seed n):=by
 obtain⟨k1,k2⟩:=aPd seed n;unfold nwW dI;generalize jK seed n=d at k1 k2 ⊢;cases hs:(qQ d.Key d.Epoch (IntKind.i64.wrap (d.Version+1)) d.aAD).2 with
 |false=>simp
 |true=>
  refine .inr ?_;simp only[ae];unfold qQ at hs ⊢;cases hc:bA d.Key&&(bX d.Epoch 0 1000000&&bX (IntKind.i64.wrap (d.Version+1)) 0 1000000)&&aP d.aAD with
  |false=>grind
  |true=>
   simp only[aa] at hc;show d.Epoch=_
   grind[aPe,k1,k2]
def aZ1 (seed:Int)(n:Nat)(d:AB):(bU (rU seed n d) (fM seed n).Log (fM seed n).Boxes (fC (fM seed n) 0).1).1=tN seed n d:=aPb (aTk seed n) (rU seed n d)
def bDk (f:Int->Int)(l:List Int)(j:Nat)(x:Int):Bool:=(l.take j).any λq=>f q==f x
def aZ2 (s:AV)(e:Int):Int:=bif aBp e&&(!(e==1)&&bX s.Value 0 1018) then tK e s.Value else 0
def aRg (k:AU)(e:Int):AU×Int×Bool:=bif aH1 k&&(!(k.Guesses==k.Limit)&&(aBp e&& !(e==1))) then({k with Guesses:=IntKind.i64.wrap (k.Guesses+1)},aZ2 k.aAQ e,true) else(k,0,false)
def bHh (l:List AU):List AU:=bif decide ((l.length:Int)>30) then l.drop 1 else l
def aM1 (h:AJ)(e:Int):AJ×Int×Bool:=bif decide (qP h.State<h.Monotonic)|| !(aRg h.State e).2.2 then(h,0,false) else(⟨(aRg h.State e).1,bHh (h.Saved++[h.State]),qP (aRg h.State e).1⟩,(aRg h.State e).2.1,true)
def bDl (l i b:Int):Int:=bif fQ b 1019==0 then 0 else tK (Tj l i) b
def bDm (hs:List AJ)(a:List Int)(i:Nat)(c:Int):Bool:=(decide (c<0)||decide (c>=(hs.length:Int)))||bDk (λq=>q) a i c
def aZ3 (hs:List AJ)(a:List Int):Bool:= !gX (bDm hs a) 0 a
def bHi (e:Int)(s:List AJ×List Int×List Int)(c:Int):List AJ×List Int×List Int:=
 (s.1.set c.toNat (aM1 (s.1.getD c.toNat default) e).1,bif (aM1 (s.1.getD c.toNat default) e).2.2 then s.2.1++[(aM1 (s.1.getD c.toNat default) e).1.State.aAQ.Index] else s.2.1,bif (aM1 (s.1.getD c.toNat default) e).2.2 then s.2.2++[(aM1 (s.1.getD c.toNat default) e).2.1] else s.2.2)
def aZ4 (hs:List AJ)(a:List Int)(e:Int):List AJ×List Int×List Int:=a.foldl (bHi e) (hs,[],[])
def bBm (n:Int):Int:=bif fQ n 1019==0 then 0 else aO9 1019 11 (fQ n 1019) 1017 1
def bHj (l:List Int)(k a w:Int)(j:Nat):Int:=bif (j:Int)==k then w else(IntKind.i64.wrap ((IntKind.i64.wrap (w*fQ (IntKind.i64.wrap (fQ a 1019-fQ (l.getD j 0) 1019)) 1019)).tmod 1019*bBm (IntKind.i64.wrap (fQ (l.getD k.toNat 0) 1019-fQ (l.getD j 0) 1019)))).tmod 1019
def bHk (l:List Int)(k a:Int):Int:=bif (decide (k<0)||decide (k>=(l.length:Int)))||gX (bDk (λq=>fQ q 1019) l) 0 l then 0 else(List.range l.length).foldl (bHj l k a) 1
def bDn (a b:Int):Int:=bif aBp a&&aBp b then(IntKind.i64.wrap (a*b)).tmod 2039 else 0
def aZ5 (ix vs:List Int)(i:Nat)(x:Int):Bool:= !bX x 1 7||(!aBp (vs.getD i 0)||bDk (λq=>q) ix i x)
def bFg (ix vs:List Int):Int:=(List.range vs.length).foldl (λo i=>bDn o (tK (vs.getD i 0) (bHk ix (i:Int) 0))) 1
def bBn (ix vs:List Int):Int×Bool:=bif (!(ix.length==vs.length)||ix.length==0)||gX (aZ5 ix vs) 0 ix then(0,false) else(bFg ix vs,true)
def bFh (c b:Int):Int:=bif fQ b 1019==0 then 0 else tK c (bBm b)
def bDo (v:A3)(o:Int):Int×Bool:=bif Tn o v.Salt==v.Check then(aIf v.Masked o,true) else(0,false)
def Oc (v:A3)(hs:List AJ)(a:List Int)(pin b:Int):List AJ×List Int×List Int:=aZ4 hs a (bDl v.Salt pin b)
def bHl (hs:List AJ)(a:List Int)(pin b:Int):Bool:=aZ3 hs a&&(!(fQ b 1019==0)&&bX pin 0 9999)
def bBo (v:A3)(hs:List AJ)(a:List Int)(pin b:Int):List AJ×Int×Bool:=
 bif !bHl hs a pin b then(hs,0,false) else
 bif decide ((a.length:Int)<v.Threshold)||(decide ((Oc v hs a pin b).2.2.length<a.length)|| !(bBn (Oc v hs a pin b).2.1 (Oc v hs a pin b).2.2).2) then((Oc v hs a pin b).1,0,false) else
  ((Oc v hs a pin b).1,bDo v (vQ (bFh (bBn (Oc v hs a pin b).2.1 (Oc v hs a pin b).2.2).1 b) v.Salt))
def bBp (w:AA):Int:=IntKind.i64.wrap (1+(aW w.Seed [313,w.Now]).tmod 1018)
def aIj (w:AA)(a:List Int)(pin:Int):AA×Int×Bool:=bif !bL w then(w,0,false) else
 (nR {w with Hosts:=(bBo w.aAP w.Hosts a pin (bBp w)).1} 5,(bBo w.aAP w.Hosts a pin (bBp w)).2)
def aW3 (w:AA):List Int:=(List.range (min w.aAP.Threshold ((w.Hosts.length:Int)+1)).toNat).map λ(i:Nat)=>(i:Int)
def aZ6 (w:AA)(pin:Int):AA×Bool:=((aIj w (aW3 w) pin).1,(aIj w (aW3 w) pin).2.2)
def bDp {n:Int}:fQ n 1019=n%1019:=cA (by decide)
structure AskIn (B:Nat) (hs:List AJ) (i:Nat) (s:List AJ×List Int×List Int):Prop where
 len:s.1.length=hs.length
 sz:∀h∈s.1,h.sz<=B+i
 eq:s.2.1.length=s.2.2.length
 le:s.2.2.length<=i
--needs aAR aAS aAM
def bDq (w:AA)(d:Int):AA×Bool:=bif Ad w d 0&& !gF w d then({w with Stolen:=w.Stolen.set d.toNat true},true) else(w,false)
def aZ7 (b:AQ)(now:Int):AQ:=bif fJ b then {b with Open:=b.Open.filter λc=>decide (c.Until>=now)} else b
def aW4 (w:AA):AA:={w with Now:=IntKind.i64.wrap (w.Now+1)}
def bFi (w:AA):AA×Bool:=bif bL (aW4 w) then({aW4 w with Sites:=w.Sites.map λs=>{s with Book:=aZ7 s.Book (aW4 w).Now}},true) else(w,false)
def aW5 (w:AA)(d j:Int):AA×Int:=bif Ad w d j&&gF w d then aKg w d j (aRc j) else(w,1)
def aW6 (w:AA)(d j:Int):AA×Int:=bif Ad w d j&& !gF w d then aKg w d j (aO8 j) else(w,1)
def bHm:ByteArray:=⟨#[97,46,110,101,116]⟩
def bDr (w:AA)(k d o v:Int)(f:Bool):AA×Bool:=
 bif !bL w then(w,false) else
 bif k==1 then bFi w else
 bif k==2 then((aRe w d o).1,(aRe w d o).2==0) else
 bif k==3 then((aW6 w d o).1,(aW6 w d o).2==0) else
 bif k==4 then bDq w d else
 bif k==5 then((aW5 w d o).1,(aW5 w d o).2==0) else
 bif k==6 then iD w d else
 bif k==7 then dA w d o else
 bif k==8 then bFb w d bHm v f else
 bif k==9 then vN w d else
 bif k==10 then((aU w d v).1,(aU w d v).2==0) else
 bif k==11 then aZ6 w v else
 bif k==12 then aMn w else
 bif k==13 then aOz w o v else(w,false)
def aBv (l:List Int):Prop:=okL (λn:Int=>0<=n/\n<=255) l
noncomputable instance (l:List Int):Decidable (aBv l):=Classical.propDecidable _
def aTl (l:List Int):Bool:=decide ((l.length:Int)>1048576)
def atF (l:List Int)(i:Int):Int:=bif decide (i<(l.length:Int)) then IntKind.i64.wrap (l.getD i.toNat 0) else(IntKind.i64.wrap (IntKind.i64.wrap (i*31)+IntKind.i64.wrap ((l.length:Int)*7))).tmod 256
def bFj (b:AM):Prop:=∀x∈b.Boxes,aX x.Data
def aW7 (c:AO):Prop:=bFj c.Boxes/\∀s∈c.History,aX s.Data
instance (b:AM):Decidable (bFj b):=inferInstanceAs (Decidable (∀x∈b.Boxes,aX x.Data))
instance (c:AO):Decidable (aW7 c):=inferInstanceAs (Decidable (_/\_))
def bBq {l:List Int}(h:aBv l)(hb:l.length<=1048576){i:Int}(h0:0<=i)(h1:i<=1000):0<=atF l i/\atF l i<=255:=by
 unfold atF;by_cases hi:i<(l.length:Int)
 ·rw[av hi,ae,List.getD,ab (show i.toNat<l.length by omega),cw];have:=h.2 _ (cr (show i.toNat<l.length by omega))
  grind[aH]
 grind[decide_eq_false,aH,Int.tmod_nonneg,Int.tmod_lt_of_pos]
--needs aAY
def bBr (c:A0):Prop:=0<=c.i/\c.b.length<=1048576
instance (c:A0):Decidable (bBr c):=by unfold bBr;infer_instance
def aZ8 (h:Int):Int:=IntKind.i64.wrap (IntKind.i64.wrap (h*6364136223846793005)+1442695040888963407)
def bBs (h:Int):Int:=qG IntKind.i64 (aR7 IntKind.i64 (Eh IntKind.i64 h 33) (Eh IntKind.i64 h 47)) 255
def Ga (c:A0):A0×Int:=bif decide (c.i<(c.b.length:Int)) then(⟨c.b,IntKind.i64.wrap (c.i+1),aZ8 c.h⟩,qG IntKind.i64 (IntKind.i64.wrap (bBs (aZ8 c.h)+IntKind.i64.wrap (c.b.getD c.i.toNat 0))) 255) else(⟨c.b,c.i,aZ8 c.h⟩,bBs (aZ8 c.h))
def aW8 (c:A0)(n:Int):A0×Int:=bif decide (n<=0) then(c,0) else bif decide (n<=256) then((Ga c).1,(Ga c).2.tmod n) else
 ((Ga (Ga (Ga c).1).1).1,(IntKind.i64.wrap (IntKind.i64.wrap (IntKind.i64.wrap ((Ga c).2*65536)+IntKind.i64.wrap ((Ga (Ga c).1).2*256))+(Ga (Ga (Ga c).1).1).2)).tmod n)
--needs aAY Event
def eA (c:A0):A0×Int:=aW8 c 13
def eB (c:A0):A0×Int:=aW8 (eA c).1 4
def aFh (e:AZ):Prop:=(1<=e.Kind/\e.Kind<=13)/\(0<=e.Device/\e.Device<=3)/\(0<=e.Other/\e.Other<=2)/\(0<=e.Value/\e.Value<=39)/\(e.Kind≠11->e.Value<=3)
--needs Event World
def evF (w:AA)(e:AZ):AA×Bool:=bDr w e.Kind e.Device e.Other e.Value e.Flag
def runN (w:AA)(l:List AZ):Nat->AA
 |0=>w
 |k+1=>(evF (runN w l k) (l.getD k default)).1
def bHn (w:AA)(l:List AZ):AA:=runN w l (min l.length 60)
def bBt (w:AA)(l:List AZ):Prop:=w.sz<=34359738368/\∀k,k<min l.length 60->(runN w l k).sz<=33000000
noncomputable instance (w:AA) (l:List AZ):Decidable (bBt w l):=Classical.propDecidable _
--needs aAY
--needs aAY aAL aAN
--needs Event World
def bHo (w:AA)(l:List AZ)(k:Nat):Bool:=(evF (runN w l k) (l.getD k default)).2
def bFk (q:Int)(w:AA)(l:List AZ):Nat->Nat
 |0=>0
 |k+1=>bFk q w l k+bif bHo w l k&&(l.getD k default).Kind==q then 1 else 0
def bDs (w:AA)(l:List AZ)(q:Int):Int:=bFk q w l (min l.length 60)
def cntF (w:AA)(j:Int):Int:=bif Fg w j then((w.Sites.getD j.toNat default).Logins.length:Int) else 0
--needs Event World
--needs aAY aAL aAN aAE
def aPg (l:List AZ):Prop:=l.length=0
instance (l:List AZ):Decidable (aPg l):=inferInstanceAs (Decidable (l.length=0))
end Go.VK
