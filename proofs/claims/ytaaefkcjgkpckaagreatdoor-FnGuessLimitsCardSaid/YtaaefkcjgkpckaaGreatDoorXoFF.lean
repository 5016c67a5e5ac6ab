import Derived.Test.YtaaefkcjgkpckaaGreatDoorEWbtor
import Derived.Test.YtaaefkcjgkpckaaGreatDoorXoS
/- Printed by wip/tools: models, walks, proofs. -/
set_option linter.unusedVariables false
set_option linter.unusedSimpArgs false
set_option maxRecDepth 100000
set_option maxHeartbeats 4000000
namespace Go.VK
open Go.RowKit Go.Proofs
def fQ (k:D.aAQ):Int:=IntKind.i64.wrap (IntKind.i64.wrap (k.Epoch*1000)+k.Guesses)
theorem bAi {p q:Int}(h:1≤q∧q≤1000000000000):0≤aZ p q∧aZ p q<q:=iR h
theorem aB6 {h v:Int}(h0:0≤h)(h1:h<2147483647):0≤hstep h v∧hstep h v<2147483647:=by
 have hm:=iR (p:=v) (q:=2147483647) (by omega)
 unfold hstep
 generalize aZ v 2147483647=z at*
 have e1:IntKind.i64.wrap (h*1000003)=h*1000003:=aG (by omega) (by omega)
 have e2:IntKind.i64.wrap (h*1000003+z)=h*1000003+z:=aG (by omega) (by omega)
 have e3:IntKind.i64.wrap (h*1000003+z+13)=h*1000003+z+13:=aG (by omega) (by omega)
 rw[e1,e2,e3]
 exact⟨Int.tmod_nonneg _ (by omega),Int.tmod_lt_of_pos _ (by decide)⟩
theorem aQi (l:List Int):0≤rT l∧rT l<2147483647:=by
 unfold rT
 suffices ∀(l:List Int) (h:Int),0≤h→h<2147483647→0≤l.foldl hstep h∧l.foldl hstep h<2147483647 from this l 11 (by omega) (by omega)
 intro l
 induction l with
 |nil=>intro h h0 h1;exact⟨h0,h1⟩
 |cons x xs ih=>intro h h0 h1;exact ih _ (aB6 h0 h1).1 (aB6 h0 h1).2
theorem jR (k:Int)(l:List Int):0≤aX k l∧aX k l<2147483647:=aQi _
def Rx (a b:Int):Int:=bif decide (b>a) then b else a
def zC (a:List Int)(r:List (List Int)):List Int:=a++r.flatten
def gG (n:Int):Int:=bif n==0 then 1 else n
def bJ (n:Int):Bool:=aW n 1 2147483646
def Ry (b:List Int):List Int:=[(b.length:Int)]++b.map IntKind.i64.wrap
def aK (seed:Int)(l:List Int):Int:=gG (aX seed ([151]++l))
def zD (k:Int)(s:ByteArray):Int:=gG (aX k (Ry (bF s)))
def fC (p:Int):Int:=bif !(bJ p) then 0 else(IntKind.i64.wrap (p*48271)).tmod 2147483647
def gW (s:D.aAI):Int:=aK s.Seed [181]
def bN (s:D.aAI):Int:=fC (gW s)
def fV (l:List Int)(x:Int):Bool:=l.any fun e=>e==x
def iL (log:List D.aAB)(p:Int):Bool:=log.any fun e=>e.Kind==2&&e.Device==p
def gX (s:List Int)(e:D.aAB):List Int:=
 bif e.Kind==1 then(bif s.contains e.Device then s else s++[e.Device]) else bif e.Kind==2 then s.filter (fun d=>d !=e.Device) else s
def aB (log:List D.aAB):List Int:=log.foldl gX []
def aN (log:List D.aAB):Int:=log.foldl (fun n e=>bif e.Kind==2 then IntKind.i64.wrap (n+1) else n) 0
def aI (b:D.aAE)(site handle:Int):Int:=iC (fun e=>e.Site==site&&e.Handle==handle) 0 b.Entries
def aQ (s:D.Site)(id:Int):Int:=iC (fun a=>a.Id==id) 0 s.Accounts
theorem aB7 (s:List Int)(x:D.aAB):(gX s x).length≤s.length+1:=by
 unfold gX
 cases x.Kind==1 with
 |true=>cases s.contains x.Device<;>simp
 |false=>
  cases x.Kind==2 with
  |true=>have:=List.length_filter_le (fun d=>d !=x.Device) s;simp;omega
  |false=>simp
theorem kF (log:List D.aAB):(aB log).length≤log.length:=by
 suffices ∀(l:List D.aAB) (s:List Int),(l.foldl gX s).length≤s.length+l.length from by simpa[aB] using this log []
 intro l
 induction l with
 |nil=>intro s;simp
 |cons x xs ih=>
  intro s
  simp only[List.foldl_cons,List.length_cons]
  have h1:=ih (gX s x)
  have h2:(gX s x).length≤s.length+1:=by
   unfold gX
   cases x.Kind==1 with
   |true=>cases s.contains x.Device<;>simp
   |false=>
    cases x.Kind==2 with
    |true=>have:=List.length_filter_le (fun d=>d !=x.Device) s;simp;omega
    |false=>simp
  omega
theorem aQj {n:Int}(h:0≤n):Rx 1 n=gG n:=by
 unfold Rx gG
 rcases(show n=0∨n=1∨n>1 by omega) with rfl|rfl|h1
 ·rfl
 ·rfl
 ·have:(n==0)=false:=by simp;omega
  simp[h1,this]
def bT (s:ByteArray):Int:=zD 173 s
def WOk (w:D.World):Prop:=w.Devices.length≤34359738368∧w.Stolen.length≤34359738368∧w.aAH.Log.length≤34359738368∧w.Sites.length≤34359738368
instance (w:D.World):Decidable (WOk w):=inferInstanceAs (Decidable (_∧_))
def dO (w:D.World)(d:Int):Bool:=decide (0≤d)&&decide (d<w.Devices.length)
def cK (w:D.World)(d:Int):D.Device:=w.Devices.getD d.toNat default
def aU2 (w:D.World)(d:Int):Bool:=dO w d&&fV (aB w.aAH.Log) (bN (cK w d).Store)
def Cn (w:D.World):Int:=aK w.Seed [283]
theorem WOk.of {w:D.World}(h:w.sz≤1048576):WOk w:=by
 simp only[D.World.sz,D.aAH.sz] at h
 unfold WOk
 omega
def aSw (k:Int)(i:Nat)(z:Int):Int:=IntKind.u8.wrap ((z-aX k [(i:Int)])%256)
def aOb (k:Int)(b:List Int):List Int:=Fj (fun i z=>[aSw k i z]) 0 b
theorem bAj (x:Int):aZ (IntKind.i64.wrap x) 256=x%256:=by
 rw[aZ,if_pos (by omega),IntKind.wrap_i64];omega
theorem bAk (k:Int)(i:Nat)(z:Int):IntKind.u8.wrap (aZ (IntKind.i64.wrap (IntKind.i64.wrap z-(aX k [(i:Int)]).tmod 256)) 256)=aSw k i z:=by
 rw[bAj,aSw,IntKind.wrap_i64,Int.tmod_eq_emod_of_nonneg (jR _ _).1];congr 1;omega
theorem zF {α β:Type}{y:Nat→α→β}:∀{i:Nat} {l:List α},(Fj (fun i x=>[y i x]) i l).length=l.length
 |i,[]=>rfl
 |i,x::xs=>by simp[Fj,zF]
def jB (p e:Int):Int:=aK p [163,e]
def aJ0 (k:Int)(b:D.Box):Int:=aX k ([167,b.To,b.Ephemeral]++Ry b.Data)
def jI (p:Int)(b:D.Box):List Int×Bool:=
 bif !bJ p||(b.To !=fC p||(!bJ b.Ephemeral||decide ((b.Data.length:Int)>200))) then([],false)
 else bif b.MAC !=aJ0 (jB p b.Ephemeral) b then([],false) else(aOb (jB p b.Ephemeral) b.Data,true)
def jX:List D.Box→Int→List Int×Bool
 |[],_=>([],false)
 |b::bs,p=>bif (jI p b).2 then((jI p b).1,true) else jX bs p
def aR (b:List Int):Prop:=b.length≤34359738368∧b.all (fun z=>decide (0≤z)&&decide (z≤255))=true
instance (b:List Int):Decidable (aR b):=inferInstanceAs (Decidable (_∧_))
theorem Ie {b:List Int}(h:aR b){i:Nat}(hi:i<b.length):0≤b[i]∧b[i]≤255:=by
 have:=List.all_eq_true.1 h.2 b[i] (List.getElem_mem hi)
 simpa using this
def uvG (b:List Int)(p:Nat):Nat→Nat→Int→Int×Int×Bool
 |0,_,_=>(0,0,false)
 |k+1,i,n=>
  if p+i<b.length then
   bif decide (b.getD (p+i) 0<128) then
    (bif (decide (0<i)&&b.getD (p+i) 0==0)||decide (n+b.getD (p+i) 0%128*128^i>1000000000000) then(0,0,false) else(n+b.getD (p+i) 0%128*128^i,((p+i+1:Nat):Int),true))
   else uvG b p k (i+1) (n+b.getD (p+i) 0%128*128^i)
  else(0,0,false)
def Co (b:List Int)(at_:Int):Int×Int×Bool:=if at_<0 then(0,0,false) else uvG b at_.toNat 6 0 0
theorem bAl {i:Nat}(h:i≤6):(1:Int)≤128^i∧(128:Int)^i≤4398046511104:=by
 match i,h with
 |0,_|1,_|2,_|3,_|4,_|5,_|6,_=>decide
theorem aU3 {z n:Int}{i:Nat}(hi:i≤5)(hz:0≤z)(hn:0≤n)(hn':n<128^i):0≤n+z%128*128^i∧n+z%128*128^i<128^(i+1)∧0≤z%128*128^i∧z%128*128^i≤127*128^i:=by
 have hp:=bAl (i:=i) (by omega)
 have h1:0≤z%128*128^i:=Int.mul_nonneg (by omega) (by omega)
 have h2:z%128*128^i≤127*128^i:=Int.mul_le_mul_of_nonneg_right (by omega) (by omega)
 rw[Int.pow_succ]
 refine⟨by omega,by omega,h1,h2⟩
theorem bDb {z n:Int}{i:Nat}(hi:i≤5)(hz:0≤z)(hz':z≤255)(hn:0≤n)(hn':n<128^i):
  orI .i64 n (Wu .i64 (tC .i64 z 127) (IntKind.i64.wrap (7*(i:Int))))=n+z%128*128^i:=by
 obtain⟨m,rfl⟩:=Int.eq_ofNat_of_zero_le hz
 obtain⟨q,rfl⟩:=Int.eq_ofNat_of_zero_le hn
 have hp:=bAl (i:=i) (by omega)
 have hs:=aU3 (z:=(m:Int)) (n:=(q:Int)) hi (by omega) (by omega) hn'
 have ha:tC .i64 (m:Int) 127=((m%128:Nat):Int):=by
  have e:((BitVec.ofInt 64 (m:Int))&&&(BitVec.ofInt 64 127)).toNat=m%128:=by
   rw[BitVec.toNat_and]
   have e1:(BitVec.ofInt 64 (m:Int)).toNat=m:=by
    rw[BitVec.toNat_ofInt];omega
   have e2:(BitVec.ofInt 64 127).toNat=2^7-1:=by decide
   rw[e1,e2,Nat.and_two_pow_sub_one_eq_mod]
  show IntKind.i64.wrap (((BitVec.ofInt 64 (m:Int))&&&(BitVec.ofInt 64 127)).toNat:Int)=_
  rw[e];exact aG (by omega) (by omega)
 have hw:IntKind.i64.wrap (7*(i:Int))=((7*i:Nat):Int):=by rw[aG (by omega) (by omega)];omega
 have hpn:(2:Nat)^(7*i)=128^i:=by rw[Nat.pow_mul]
 have hpi:((128^i:Nat):Int)=(128:Int)^i:=by simp
 have hb:Wu .i64 (tC .i64 (m:Int) 127) (IntKind.i64.wrap (7*(i:Int)))=((m%128*128^i:Nat):Int):=by
  rw[ha,hw]
  unfold Wu
  rw[Int.toNat_natCast,show min (7*i) IntKind.i64.bits=7*i from Nat.min_eq_left (by simp[IntKind.bits];omega)]
  have e3:((m%128:Nat):Int)*2^(7*i)=((m%128*128^i:Nat):Int):=by
   rw[←hpn];simp
  rw[e3]
  have:((m%128*128^i:Nat):Int)=(m:Int)%128*128^i:=by simp
  rw[this]
  exact aG (by omega) (by omega)
 rw[hb]
 have hqlt:q<128^i:=by rw[←hpi] at hn';exact_mod_cast hn'
 have hor:(m%128*128^i)|||q=m%128*128^i+q:=by
  have:=Nat.shiftLeft_add_eq_or_of_lt (b:=q) (i:=7*i) (by rw[hpn];exact hqlt) (m%128)
  rw[Nat.shiftLeft_eq,hpn] at this
  exact this.symm
 have hle:m%128*128^i+q<2^63:=by
  have:((m%128*128^i+q:Nat):Int)=q+(m:Int)%128*128^i:=by simp;omega
  omega
 have e4:((BitVec.ofInt 64 (q:Int))|||(BitVec.ofInt 64 ((m%128*128^i:Nat):Int))).toNat=m%128*128^i+q:=by
  rw[BitVec.toNat_or]
  have e5:(BitVec.ofInt 64 (q:Int)).toNat=q:=by rw[BitVec.toNat_ofInt];omega
  have e6:(BitVec.ofInt 64 ((m%128*128^i:Nat):Int)).toNat=m%128*128^i:=by rw[BitVec.toNat_ofInt];omega
  rw[e5,e6,Nat.or_comm,hor]
 show IntKind.i64.wrap (((BitVec.ofInt 64 (q:Int))|||(BitVec.ofInt 64 ((m%128*128^i:Nat):Int))).toNat:Int)=_
 rw[e4,aG (by omega) (by omega)]
 simp
 omega
def jS (b:List Int):Nat→Int→List Int→List Int×Int×Bool
 |0,a,s=>(s,a,true)
 |k+1,a,s=>bif (Co b a).2.2 then jS b k (Co b a).2.1 (s++[(Co b a).1]) else([],0,false)
def mG (b:List Int)(a c:Int):List Int×Int×Bool:=bif !aW c 0 100|| !aW a 0 b.length then([],0,false) else jS b c.toNat a []
theorem aQk (b:List Int):∀(k:Nat) (a:Int) (s:List Int),(jS b k a s).2.2=true→(jS b k a s).1.length=s.length+k
 |0,a,s,_=>rfl
 |k+1,a,s,h=>by
  unfold jS at h ⊢
  cases hu:(Co b a).2.2 with
  |false=>rw[hu] at h;simp at h
  |true=>
   rw[hu] at h
   simp only[cond_true] at h ⊢
   rw[aQk b k _ _ h];simp;omega
theorem decode_len {b:List Int}{a c:Int}(hc:0≤c)(h:(mG b a c).2.2=true):(mG b a c).1.length=c.toNat:=by
 unfold mG at h ⊢
 cases hx:(!aW c 0 100|| !aW a 0 b.length) with
 |true=>rw[hx] at h;simp at h
 |false=>
  rw[hx] at h
  simp only[cond_false] at h ⊢
  rw[aQk _ _ _ _ h];simp
theorem aU4 {k:Int}{b:List Int}(h:b.length≤34359738368):aR (aOb k b):=by
 refine⟨by unfold aOb;rw[zF];exact h,?_⟩
 rw[List.all_eq_true]
 intro z hz
 have:∀(b:List Int) (i:Nat),z∈Fj (fun i z=>[aSw k i z]) i b→0≤z∧z≤255:=by
  intro b
  induction b with
  |nil=>intro i h;simp[Fj] at h
  |cons x xs ih=>
   intro i h
   simp only[Fj,List.mem_append,List.mem_singleton] at h
   rcases h with rfl|h
   ·have:=bW .u8 ((x-aX k [(i:Int)])%256)
    simpa[aSw,IntKind.min,IntKind.max,IntKind.signed,IntKind.bits] using this
   ·exact ih _ h
 have:=this b 0 hz
 simp[this.1,this.2]
theorem aSx (p:Int)(b:D.Box):aR (jI p b).1:=by
 unfold jI
 have h0:aR ([]:List Int):=by decide
 by_cases hl:b.Data.length≤200
 ·cases(!bJ p||(b.To !=fC p||(!bJ b.Ephemeral||decide ((b.Data.length:Int)>200))))<;>cases(b.MAC !=aJ0 (jB p b.Ephemeral) b)<;>first|exact h0|exact aU4 (by omega)
 ·have e1:decide ((b.Data.length:Int)>200)=true:=by simp;omega
  rw[e1];simpa using h0
theorem aF4 (p:Int):∀bs,aR (jX bs p).1
 |[]=>show aR [] by decide
 |b::bs=>by
  unfold jX
  cases(jI p b).2 with
  |true=>exact aSx p b
  |false=>exact aF4 p bs
def aF5 (e:D.aAD)(x:List Int×Bool)(y:List Int×Int×Bool):Int×Bool:=
 bif !x.2||(!y.2.2||(y.2.1 !=(x.1.length:Int)||(y.1.getD 0 0 !=e.Epoch|| !bJ (y.1.getD 1 0)))) then(0,false) else(y.1.getD 1 0,true)
def bY (s:D.aAI)(e:D.aAD):Int×Bool:=aF5 e (jX e.Boxes (gW s)) (mG (jX e.Boxes (gW s)).1 0 2)
theorem and_one {n:Int}(h0:0≤n)(h1:n<9223372036854775808):tC .i64 n 1=n%2:=by
 obtain⟨m,rfl⟩:=Int.eq_ofNat_of_zero_le h0
 have e:((BitVec.ofInt 64 (m:Int))&&&(BitVec.ofInt 64 1)).toNat=m%2:=by
  rw[BitVec.toNat_and]
  have e1:(BitVec.ofInt 64 (m:Int)).toNat=m:=by rw[BitVec.toNat_ofInt];omega
  have e2:(BitVec.ofInt 64 1).toNat=2^1-1:=by decide
  rw[e1,e2,Nat.and_two_pow_sub_one_eq_mod]
 show IntKind.i64.wrap (((BitVec.ofInt 64 (m:Int))&&&(BitVec.ofInt 64 1)).toNat:Int)=_
 rw[e,aG (by omega) (by omega)];omega
theorem aU5 {n:Int}(h0:0≤n):Rj .i64 n 1=n/2:=by
 unfold Rj
 rw[show min (Int.toNat 1) IntKind.i64.bits=1 from by decide,Int.fdiv_eq_ediv_of_nonneg _ (by decide)];rfl
def aXe:Nat→Int→Int→Int→Int
 |0,_,_,s=>s
 |k+1,b,n,s=>if n>0 then aXe k ((IntKind.i64.wrap (b*b)).tmod 2147483647) (n/2) (bif n%2==1 then(IntKind.i64.wrap (s*b)).tmod 2147483647 else s) else s
theorem aU6:aXe 31 48271 2147483645 1=1899818559:=by decide+kernel
def dW (q:Int):Int:=bif !bJ q then 0 else q*1899818559%2147483647
def zG (p:Int)(l:List Int):Int:=bif !bJ p then 0 else aX p ([139,(l.length:Int)]++l)
def gY (q:Int)(l:List Int)(g:Int):Bool:=dW q !=0&&zG (dW q) l==g
theorem Ig {α:Type}[Inhabited α]{l:List α}{i:Nat}(h0:0<i)(hi:i<l.length)(hl:l.length≤34359738368):bA l (IntKind.i64.wrap ((i:Int)-1))=some (l.getD (i-1) default):=by
 rw[aG (by omega) (by omega),show(i:Int)-1=((i-1:Nat):Int) by omega,aH (by omega)]
 simp[List.getD,List.getElem?_eq_getElem (show i-1<l.length by omega)]
def pO (l:List D.aAP)(i:Nat)(n:D.aAP):Bool:= !aW n.Kind 1 5||(!aW n.aAG 0 1000000||(!aW n.Time 0 1000000||(decide (0<i)&&decide ((l.getD (i-1) default).Time>n.Time))))
def cZ (m:D.aAJ):Bool:=decide (m.Notices.length≤30)&& !dJ (pO m.Notices) 0 m.Notices
def fO (b:D.aAF)(i:Nat)(n:D.aAO):Bool:= !aW n.Id 0 (IntKind.i64.wrap (b.Next-1))||((decide (0<i)&&decide ((b.Open.getD (i-1) default).Id≥n.Id))||(!aW n.aAG 0 1000005|| !aW n.Until 0 1000005))
def iM (b:D.aAF):Bool:=aW b.Next 0 1000000&&decide (b.Open.length≤16)&& !dJ (fO b) 0 b.Open
def qG (a:D.aAG)(i:Nat)(n:D.aAK):Bool:=(!aW n.Handle 0 1000000||((decide (0<i)&&decide ((a.Credentials.getD (i-1) default).Handle≥n.Handle))||(dW n.Public==0|| !aW n.Counter 0 1000000)))||(a.Credentials.take i).any fun q=>q.Public==n.Public
def bC (a:D.aAG):Bool:=aW a.Id 0 1000000&&aW a.Minimum 1 3&&decide (a.Credentials.length≤8)&& !dJ (qG a) 0 a.Credentials
def bL (e:D.aAB):Int:=rT [229,e.Index,e.Kind,e.Device,e.By,e.Previous]
def fD (l:List D.aAB):Int:=bif (l.length:Int)==0 then 0 else bL (l.getD (l.length-1) default)
def kJ (l:List D.aAB)(e:D.aAB):Bool:=
 e.Index==(l.length:Int)&&(e.Previous==fD l&&((fV (aB l) e.By||((l.length:Int)==0&&e.By==e.Device))&&(gY e.By [bL e] e.Signature&&
  (bif e.Kind==2 then fV (aB l) e.Device&&decide (((aB l).length:Int)>1) else !iL l e.Device&&(e.Kind==1&&(!fV (aB l) e.Device&&decide (((aB l).length:Int)<6)))))))
def aT (l:List D.aAB):Bool:=aW (l.length:Int) 1 40&& !dJ (fun i e=> !kJ (l.take i) e) 0 l
theorem bAm {l:List Int}{x:Int}(h:fV l x=true):0<l.length:=by
 cases l with
 |nil=>simp[fV] at h
 |cons a r=>simp
def gQ:List UInt8→List UInt8→List (List UInt8)
 |cur,[]=>[cur]
 |cur,b::r=>bif b==46 then cur::gQ [] r else gQ (cur++[b]) r
theorem bAn (s:List UInt8)(i:Nat):Lib.occAt s [46] i=decide (s[i]? =some 46):=by
 unfold Lib.occAt
 cases h:s.drop i with
 |nil=>
  have:s.length≤i:=List.drop_eq_nil_iff.1 h
  simp[List.getElem?_eq_none this,List.isPrefixOf]
 |cons b r=>
  have e:s[i]? =some b:=by
   have:=List.getElem?_drop (xs:=s) (i:=i) (j:=0)
   rw[h] at this;simpa using this.symm
  rw[e];simp only[List.isPrefixOf,Bool.and_true,Option.some.injEq]
  rw[Bool.eq_iff_iff];simp only[beq_iff_eq,decide_eq_true_eq];exact eq_comm
theorem aF6:∀(a cur r:List UInt8),(∀b∈a,b≠46)→gQ cur (a++46::r)=(cur++a)::gQ [] r
 |[],cur,r,_=>by simp[gQ]
 |b::a,cur,r,h=>by
  have hb:(b==46)=false:=by simpa using h b (by simp)
  rw[List.cons_append,gQ,hb,cond_false,aF6 a _ r (fun x hx=>h x (List.mem_cons_of_mem _ hx))];simp
theorem aB8:∀(a cur:List UInt8),(∀b∈a,b≠46)→gQ cur a=[cur++a]
 |[],cur,_=>by simp[gQ]
 |b::a,cur,h=>by
  have hb:(b==46)=false:=by simpa using h b (by simp)
  rw[gQ,hb,cond_false,aB8 a _ (fun x hx=>h x (List.mem_cons_of_mem _ hx))];simp
theorem aQl:∀(n:Nat) (s:List UInt8),s.length<n→Lib.splitK [46] 0 (Lib.count s [46]) s=gQ [] s
 |0,s,h=>absurd h (Nat.not_lt_zero _)
 |n+1,s,h=>by
  rcases Lib.index_spec s [46] with⟨h1,h2⟩|⟨i,h1,h2,h3,h4⟩
  ·rw[Lib.count_miss h1,aB8 s [] (fun b hb e=>by
    obtain⟨j,hj,ej⟩:=List.getElem_of_mem hb
    have:=h2 j (by omega)
    rw[bAn,List.getElem?_eq_getElem hj,ej,e] at this;simp at this)];rfl
  ·rw[bAn] at h3
   have h3:s[i]? =some 46:=by simpa using h3
   have hi:i<s.length:=by
    rcases Nat.lt_or_ge i s.length with hlt|hge
    ·exact hlt
    ·rw[List.getElem?_eq_none hge] at h3;cases h3
   rw[Lib.count_hit (by simp) h1,Nat.add_comm,Lib.splitK,h1]
   have hne:((i:Int)== -1)=false:=by simp
   rw[hne]
   simp only[Int.toNat_natCast,Nat.add_zero,List.length_cons,List.length_nil,Nat.zero_add]
   rw[if_neg (by simp),aQl n (s.drop (i+1)) (by rw[List.length_drop];omega)]
   have es:s=s.take i++46::s.drop (i+1):=by
    have e2:s[i]=46:=by rw[List.getElem?_eq_getElem hi] at h3;exact Option.some.inj h3
    rw[←e2,List.getElem_cons_drop hi,List.take_append_drop]
   conv=>rhs;rw[es]
   rw[aF6 (s.take i) [] _ (fun b hb e=>by
    obtain⟨j,hj,ej⟩:=List.getElem_of_mem hb
    rw[List.length_take] at hj
    have:=h4 j (by omega)
    rw[bAn,List.getElem?_eq_getElem (by omega)] at this
    rw[List.getElem_take] at ej
    rw[ej,e] at this;simp at this)];simp
def aU (s:ByteArray):List ByteArray:=(gQ [] s.data.toList).map fun l=>⟨l.toArray⟩
theorem aF7 (s:ByteArray):jH s ⟨#[46]⟩=aU s:=by
 have h1:(jH s ⟨#[46]⟩).map (·.data.toList)=gQ [] s.data.toList:=by
  rw[jH,Lib.splitB_data];exact aQl _ _ (Nat.lt_succ_self _)
 unfold aU
 rw[←h1,List.map_map]
 conv=>lhs;rw[←List.map_id (jH s ⟨#[46]⟩)]
 congr 1
def Xx (b:Int):Bool:=aW b 97 122||aW b 48 57||b==45
def qN (s:ByteArray):Bool:=decide (1≤s.size)&&decide (s.size≤20)&& !((bF s).getD 0 0==45)&& !((bF s).getD (s.size-1) 0==45)&& !((bF s).any fun b=> !Xx b)
def gH (s:ByteArray):Bool:=decide (s.size≤60)&& !((aU s).any fun l=> !qN l)
theorem iU (s:ByteArray):(bF s).length=s.size:=by simp only[bF,List.length_map];rfl
theorem aQm {s:ByteArray}{i:Nat}(h:i<s.size):bA (bF s) (i:Int)=some ((bF s)[i]'(by rw[iU];exact h)):=aH _
theorem ext_list (s:ByteArray)(a b:Nat):s.extract a b=⟨((s.data.toList.drop a).take (b-a)).toArray⟩:=by
 apply ByteArray.ext
 apply Array.toList_inj.1
 rw[Lib.extract_data]
theorem Rz:∀(s cur:List UInt8),(gQ cur s).length≤s.length+1
 |[],_=>by simp[gQ]
 |b::r,cur=>by
  rw[gQ]
  cases b==46 with
  |true=>have:=Rz r [];simp;omega
  |false=>have:=Rz r (cur++[b]);simp at this ⊢;omega
theorem Ih:∀(s cur:List UInt8) (l:List UInt8),l∈gQ cur s→l.length≤cur.length+s.length
 |[],cur,l,h=>by simp[gQ] at h;subst h;simp
 |b::r,cur,l,h=>by
  rw[gQ] at h
  cases hb:b==46 with
  |true=>
   rw[hb,cond_true] at h
   rcases List.mem_cons.1 h with rfl|h
   ·omega
   ·have:=Ih r [] l h;simp at this ⊢;omega
  |false=>rw[hb,cond_false] at h;have:=Ih r _ l h;simp at this ⊢;omega
theorem Ii (s:ByteArray):(aU s).length≤s.size+1:=by
 unfold aU;rw[List.length_map];exact Rz _ _
theorem tJ (s l:ByteArray)(h:l∈aU s):l.size≤s.size:=by
 unfold aU at h
 obtain⟨q,hq,rfl⟩:=List.mem_map.1 h
 have:=Ih _ _ q hq
 have h2:(⟨q.toArray⟩:ByteArray).size=q.length:=rfl
 have h3:s.data.toList.length=s.size:=rfl
 have h4:([]:List UInt8).length=0:=rfl
 omega
theorem bIk (z:ByteArray):(z.toList==(⟨#[]⟩:ByteArray).toList)=decide (z.size=0):=by
 rw[ByteArray.toList_eq,ByteArray.toList_eq,Bool.eq_iff_iff]
 simp only[beq_iff_eq,decide_eq_true_eq]
 constructor
 ·intro h
  show z.data.size=0
  rw[←Array.length_toList,h];rfl
 ·intro h
  exact List.eq_nil_of_length_eq_zero h
theorem tK:∀(s cur:List UInt8),(gQ cur s).length=s.countP (·==46)+1
 |[],_=>rfl
 |b::r,cur=>by
  rw[gQ,List.countP_cons]
  cases b==46 with
  |true=>rw[cond_true,List.length_cons,tK r []];simp
  |false=>rw[cond_false,tK r _];simp
theorem aB9 (s:ByteArray):0<(aU s).length:=by
 unfold aU;rw[List.length_map,tK];omega
def Ni (s:ByteArray):Bool:=(bF s).any fun b=>b==46
theorem aJ1 (s:ByteArray):Ni s=decide (2≤(aU s).length):=by
 unfold Ni aU bF
 rw[List.length_map,tK,List.any_map]
 have e:(fun b:Int=>b==46)∘(fun b:UInt8=>(b.toNat:Int))=fun b:UInt8=>b==46:=by
  funext b
  rw[Bool.eq_iff_iff]
  simp only[Function.comp,beq_iff_eq]
  constructor
  ·intro q;apply UInt8.toNat_inj.1;show _=46;omega
  ·intro q;rw[q];rfl
 rw[e,Bool.eq_iff_iff,List.any_eq_true,decide_eq_true_eq]
 have:=List.countP_pos_iff (p:=fun b:UInt8=>b==46) (l:=s.data.toList)
 constructor
 ·intro h;have:=this.2 h;omega
 ·intro h;exact this.1 (by omega)
def aXf (s:ByteArray):ByteArray:=bif gH s then(bif (aU s).length==1 then s else mZ ⟨#[46]⟩ ((aU s).drop ((aU s).length-2))) else⟨#[]⟩
theorem bEs {l:List ByteArray}(h:2≤l.length):∃a∈l,∃b∈l,mZ ⟨#[46]⟩ (l.drop (l.length-2))=a++⟨#[46]⟩++b:=by
 have hl:(l.drop (l.length-2)).length=2:=by rw[List.length_drop];omega
 match hm:l.drop (l.length-2),hl with
 |[a,b],_=>
  refine⟨a,List.mem_of_mem_drop (i:=l.length-2) (by rw[hm];simp),b,List.mem_of_mem_drop (i:=l.length-2) (by rw[hm];simp),?_⟩
  rw[show[a,b]=[a]++[b] from rfl,bCh _ _ _ (by simp),bCg]
theorem Ij {s:ByteArray}(h:gH s=true):s.size≤60∧0<s.size:=by
 unfold gH at h
 rw[Bool.and_eq_true,decide_eq_true_eq] at h
 refine⟨h.1,Nat.pos_of_ne_zero fun e=> ?_⟩
 have e2:s.data.toList=[]:=List.eq_nil_of_length_eq_zero e
 have e3:aU s=[⟨#[]⟩]:=by unfold aU;rw[e2];rfl
 rw[e3] at h
 exact absurd h.2 (by decide)
theorem bDc {s:ByteArray}(h:gH s=true):decide ((aXf s).size=0)=false:=by
 have hs:=Ij h
 have hp:=aB9 s
 unfold aXf
 rw[h,cond_true]
 refine decide_eq_false ?_
 cases h1:(aU s).length==1 with
 |true=>rw[cond_true];omega
 |false=>
  rw[cond_false]
  have:(aU s).length≠1:=by simpa using h1
  obtain⟨a,_,b,_,e⟩:=bEs (l:=aU s) (by omega)
  rw[e,ByteArray.size_append,ByteArray.size_append]
  have:(⟨#[46]⟩:ByteArray).size=1:=rfl
  omega
def iN (s:ByteArray)(seed:Int):Bool:=gH s&&decide (2≤(aU s).length)&&bJ seed
def Cq (l:List D.aAG)(i:Nat)(n:D.aAG):Bool:= !bC n||(decide (0<i)&&decide ((l.getD (i-1) default).Id≥n.Id))
def dQ (s:D.Site):Bool:=iN s.Name s.Book.Seed&&decide (s.Accounts.length≤8)&&iM s.Book&& !dJ (Cq s.Accounts) 0 s.Accounts
def SOk (s:D.Site):Prop:=s.Name.size≤34359738368∧s.Accounts.length≤34359738368∧s.Book.Open.length≤34359738368∧∀a∈s.Accounts,a.Credentials.length≤34359738368
instance (s:D.Site):Decidable (SOk s):=inferInstanceAs (Decidable (_∧_))
def eH (name:ByteArray)(seed:Int):D.Site:=bif iN name seed then⟨name,[],⟨seed,0,[]⟩,[]⟩ else⟨⟨#[]⟩,[],⟨0,0,[]⟩,[]⟩
theorem aSy (name:ByteArray)(seed:Int):decide ((eH name seed).Name.size=0)= !iN name seed:=by
 unfold eH
 cases h:iN name seed with
 |false=>rfl
 |true=>
  have:gH name=true:=by unfold iN at h;rw[Bool.and_eq_true,Bool.and_eq_true] at h;exact h.1.1
  have:=Ij this
  exact decide_eq_false (by show ¬name.size=0;omega)
def aD (i:Int):ByteArray:=bif i==0 then⟨#[98,97,110,107,46,99,111,109]⟩ else bif i==1 then⟨#[115,104,111,112,46,111,114,103]⟩ else⟨#[]⟩
def nG (i:Nat)(s:D.Site):Bool:= !dQ s|| !(s.Name.toList==(aD (i:Int)).toList)
def bK (w:D.World):Bool:=aW w.Now 0 999900&&aW (w.Devices.length:Int) 1 6&&(w.Stolen.length:Int)==(w.Devices.length:Int)&&(w.Sites.length:Int)==2&&cZ w.Mail&&aT w.aAH.Log&&bJ w.Seed&& !dJ nG 0 w.Sites
def bGy (w:D.World):Prop:=WOk w∧w.Mail.Notices.length≤34359738368∧w.Hosts.length≤34359738368∧∀s∈w.Sites,SOk s
instance (w:D.World):Decidable (bGy w):=inferInstanceAs (Decidable (_∧_))
theorem aOc {α:Type}{g:α→Nat}{x:α}:∀{l:List α},x∈l→g x≤(l.map g).sum
 |y::r,h=>by
  rw[List.map_cons,List.sum_cons]
  rcases List.mem_cons.1 h with rfl|h
  ·omega
  ·have:=aOc (g:=g) h;omega
theorem SOk.of {s:D.Site}(h:s.sz≤1048576):SOk s:=by
 simp only[D.Site.sz] at h
 refine⟨by omega,by omega,by omega,fun a ha=> ?_⟩
 have:=aOc (g:=D.aAG.sz) ha
 simp only[D.aAG.sz] at this h
 omega
theorem bGy.of {w:D.World}(h:w.sz≤1048576):bGy w:=by
 refine⟨WOk.of h,?_,?_,fun s hs=>SOk.of ?_⟩
 ·simp only[D.World.sz] at h;omega
 ·simp only[D.World.sz] at h;omega
 ·have:=aOc (g:=D.Site.sz) hs
  simp only[D.World.sz] at h;omega
def bGz (a b:Int):Int:=bif decide (b<a) then b else a
def fJ (v:Int)(h:D.aAA):Int:=bif decide ((bif decide (fQ h.State<h.Monotonic) then 0 else IntKind.i64.wrap (h.State.Limit-h.State.Guesses))<v) then(bif decide (fQ h.State<h.Monotonic) then 0 else IntKind.i64.wrap (h.State.Limit-h.State.Guesses)) else v
def dG (w:D.World):Int:=bif !bK w||decide ((w.Hosts.length:Int)<w.aAL.Threshold) then 0 else(w.Hosts.take w.aAL.Threshold.toNat).foldl fJ 10
abbrev Ik (a:List Int)(r:List (List Int)):Prop:=a.length+r.flatten.length≤68719476736∧r.length≤1099511627776
def eX (a b:D.Entry):Bool:=decide (a.Site<b.Site)||(a.Site==b.Site&&decide (a.Handle<b.Handle))
def qO (a:D.Entry)(s h:Int):Bool:=decide (a.Site<s)||(a.Site==s&&decide (a.Handle<h))
def yN (x e:D.Entry):Bool:=decide (x.Version>e.Version)||(x.Version==e.Version&&x.Deleted)
def Qm (e x:D.Entry):D.Entry:=bif yN x e then x else e
def dH:List D.Entry→List D.Entry→List D.Entry
 |[],bs=>bs
 |a::xs,[]=>a::xs
 |a::xs,b::bs=>bif eX a b then a::dH xs (b::bs) else bif eX b a then b::dH (a::xs) bs else Qm a b::dH xs bs
termination_by xs bs=>xs.length+bs.length
def aXg (l:List D.Entry)(i:Nat)(e:D.Entry):Bool:= !aW e.Site 0 2147483646||(!aW e.Handle 0 1000000||(!aW e.Version 1 1000000||(decide ((i:Int)>0)&& !eX (l.getD (i-1) default) e)))
def aP (b:D.aAE):Bool:=decide ((b.Entries.length:Int)≤20)&& !dJ (aXg b.Entries) 0 b.Entries
def lQ (a b:D.aAE):D.aAE×Bool:=bif aP a&&aP b then(bif aP ⟨dH a.Entries b.Entries⟩ then(⟨dH a.Entries b.Entries⟩,true) else(a,false)) else(a,false)
def Cr (b:D.aAE)(x:D.Entry):D.aAE:=bif decide (aI b x.Site x.Handle≥0) then⟨b.Entries.set (aI b x.Site x.Handle).toNat x⟩ else⟨b.Entries.takeWhile (fun e=>qO e x.Site x.Handle)++[x]++b.Entries.dropWhile (fun e=>qO e x.Site x.Handle)⟩
theorem zH {a b:D.Entry}:eX a b=true↔a.Site<b.Site∨(a.Site=b.Site∧a.Handle<b.Handle):=by
 simp[eX]
theorem aSz {a x:D.Entry}:qO a x.Site x.Handle=eX a x:=rfl
theorem Im {a b c:D.Entry}(h:eX a b=true)(k:eX b c=true):eX a c=true:=by
 rw[zH] at*;omega
theorem Sa {a b:D.Entry}(h:eX a b=false)(k:eX b a=false):a.Site=b.Site∧a.Handle=b.Handle:=by
 have h1:¬(a.Site<b.Site∨(a.Site=b.Site∧a.Handle<b.Handle)):=fun q=>by rw[zH.2 q] at h;cases h
 have h2:¬(b.Site<a.Site∨(b.Site=a.Site∧b.Handle<a.Handle)):=fun q=>by rw[zH.2 q] at k;cases k
 omega
theorem R5 {a b c:D.Entry}(h:a.Site=b.Site∧a.Handle=b.Handle):eX a c=eX b c:=by
 unfold eX;rw[h.1,h.2]
theorem aS0 {a b c:D.Entry}(h:a.Site=b.Site∧a.Handle=b.Handle):eX c a=eX c b:=by
 unfold eX;rw[h.1,h.2]
theorem aQn {a b:D.Entry}(h:a.Site=b.Site∧a.Handle=b.Handle):(Qm a b).Site=b.Site∧(Qm a b).Handle=b.Handle:=by
 unfold Qm
 cases yN b a
 ·exact h
 ·exact⟨rfl,rfl⟩
theorem bDd (a b:D.Entry):Qm a b=a∨Qm a b=b:=by
 unfold Qm
 cases yN b a
 ·exact .inl rfl
 ·exact .inr rfl
theorem eU (l:List D.Entry):dH l []=l:=by cases l<;>rw[dH]
theorem mO (l:List D.Entry):dH [] l=l:=by rw[dH]
theorem zI:∀(n:Nat) (a b:List D.Entry),a.length+b.length≤n→(dH a b).length≤a.length+b.length
 |_,[],b,_=>by rw[mO];simp
 |_,a::xs,[],_=>by rw[eU];simp
 |0,a::xs,b::bs,h=>by simp at h
 |n+1,a::xs,b::bs,h=>by
  simp only[List.length_cons] at h
  rw[dH]
  cases eX a b with
  |true=>have:=zI n xs (b::bs) (by simp only[List.length_cons];omega);simp only[cond_true,List.length_cons] at*;omega
  |false=>
   cases eX b a with
   |true=>have:=zI n (a::xs) bs (by simp only[List.length_cons];omega);simp only[cond_false,cond_true,List.length_cons] at*;omega
   |false=>have:=zI n xs bs (by omega);simp only[cond_false,List.length_cons] at*;omega
theorem aF8 (a b:D.Entry)(xs bs:List D.Entry):dH (a::xs) (b::bs)=bif eX a b then a::dH xs (b::bs) else bif eX b a then b::dH (a::xs) bs else Qm a b::dH xs bs:=by rw[dH]
def srt (l:List D.Entry):Prop:=l.Pairwise fun a b=>eX a b=true
theorem aMc:∀(A:List D.Entry) {b:D.Entry} {bs:List D.Entry},srt (b::bs)→dH (dH A [b]) bs=dH A (b::bs)
 |[],b,bs,h=>by
  rw[mO,mO]
  cases bs with
  |nil=>rw[eU]
  |cons c cs=>rw[dH,(List.pairwise_cons.1 h).1 c (by simp),cond_true,mO]
 |a::xs,b,bs,h=>by
  have hc:=(List.pairwise_cons.1 h).1
  rw[aF8 a b xs [],aF8 a b xs bs]
  cases h1:eX a b with
  |true=>
   simp only[cond_true]
   cases bs with
   |nil=>rw[eU]
   |cons c cs=>rw[dH,Im h1 (hc c (by simp)),cond_true,aMc xs h]
  |false=>
   cases h2:eX b a with
   |true=>
    simp only[cond_true,cond_false]
    rw[eU]
    cases bs with
    |nil=>rw[eU,eU]
    |cons c cs=>rw[dH,hc c (by simp),cond_true]
   |false=>
    simp only[cond_false]
    rw[eU]
    cases bs with
    |nil=>rw[eU,eU]
    |cons c cs=>rw[dH,R5 (aQn (Sa h1 h2)),hc c (by simp),cond_true]
theorem aU7:∀{l:List D.Entry} {x y:D.Entry},y∈dH l [x]→y∈l∨y=x
 |[],x,y,h=>by rw[mO] at h;simp at h;exact .inr h
 |a::xs,x,y,h=>by
  rw[dH] at h
  cases h1:eX a x with
  |true=>
   rw[h1,cond_true] at h
   rcases List.mem_cons.1 h with rfl|h
   ·exact .inl (by simp)
   ·exact(aU7 h).imp (fun h=>by simp[h]) id
  |false=>
   rw[h1,cond_false] at h
   cases h2:eX x a with
   |true=>
    rw[h2,cond_true,eU] at h
    rcases List.mem_cons.1 h with rfl|h
    ·exact .inr rfl
    ·exact .inl h
   |false=>
    rw[h2,cond_false,eU] at h
    rcases List.mem_cons.1 h with rfl|h
    ·rcases bDd a x with e|e
     ·rw[e];exact .inl (by simp)
     ·exact .inr e
    ·exact .inl (by simp[h])
theorem aU8:∀{l:List D.Entry} {x:D.Entry},srt l→srt (dH l [x])
 |[],x,h=>by rw[mO];exact List.pairwise_singleton _ _
 |a::xs,x,h=>by
  obtain⟨ha,hs⟩:=List.pairwise_cons.1 h
  rw[dH]
  cases h1:eX a x with
  |true=>
   rw[cond_true]
   refine List.pairwise_cons.2 ⟨fun y hy=> ?_,aU8 hs⟩
   rcases aU7 hy with hy|rfl
   ·exact ha y hy
   ·exact h1
  |false=>
   cases h2:eX x a with
   |true=>
    rw[cond_false,cond_true,eU]
    refine List.pairwise_cons.2 ⟨fun y hy=> ?_,h⟩
    rcases List.mem_cons.1 hy with rfl|hy
    ·exact h2
    ·exact Im h2 (ha y hy)
   |false=>
    rw[cond_false,cond_false,eU]
    have hk:=Sa h1 h2
    refine List.pairwise_cons.2 ⟨fun y hy=> ?_,hs⟩
    rw[R5 (aQn hk),←R5 hk];exact ha y hy
theorem aF9:∀(B A:List D.Entry),srt B→B.foldl (fun o x=>dH o [x]) A=dH A B
 |[],A,_=>by rw[eU];rfl
 |b::bs,A,h=>by rw[List.foldl_cons,aF9 bs _ (List.pairwise_cons.1 h).2,aMc A h]
theorem aQo {α:Type}{p:α→Bool}:∀{l:List α} {i:Nat},iC p i l<0→∀y∈l,p y=false
 |[],i,_,y,hy=>by simp at hy
 |x::l,i,h,y,hy=>by
  simp only[iC] at h
  cases hp:p x with
  |true=>rw[hp,cond_true] at h;omega
  |false=>
   rw[hp,cond_false] at h
   rcases List.mem_cons.1 hy with rfl|hy
   ·exact hp
   ·exact aQo h y hy
theorem R6 {α:Type}{p:α→Bool}:∀{l:List α} {i:Nat},0≤iC p i l→∃l1 e l2,l=l1++e::l2∧p e=true∧iC p i l=((i+l1.length:Nat):Int)
 |[],i,h=>by simp[iC] at h
 |x::l,i,h=>by
  simp only[iC] at h ⊢
  cases hp:p x with
  |true=>exact⟨[],x,l,rfl,hp,by simp⟩
  |false=>
   rw[hp,cond_false] at h
   obtain⟨l1,e,l2,h1,h2,h3⟩:=R6 h
   exact⟨x::l1,e,l2,by rw[h1];rfl,h2,by rw[cond_false,h3];simp only[List.length_cons];omega⟩
theorem aU9:∀{l:List D.Entry} {x:D.Entry},(∀y∈l,(y.Site==x.Site&&y.Handle==x.Handle)=false)→dH l [x]=l.takeWhile (fun e=>qO e x.Site x.Handle)++[x]++l.dropWhile (fun e=>qO e x.Site x.Handle)
 |[],x,_=>by rw[mO];rfl
 |a::xs,x,h=>by
  rw[dH,List.takeWhile_cons,List.dropWhile_cons,aSz]
  cases h1:eX a x with
  |true=>simp only[cond_true,if_true];rw[aU9 (fun y hy=>h y (by simp[hy]))];rfl
  |false=>
   cases h2:eX x a with
   |true=>simp only[cond_false,cond_true];rw[eU];rfl
   |false=>
    have:=Sa h1 h2
    have:=h a (by simp)
    simp_all
theorem aVa {e x:D.Entry}{l2:List D.Entry}(he:(e.Site==x.Site&&e.Handle==x.Handle)=true):∀{l1:List D.Entry},srt (l1++e::l2)→dH (l1++e::l2) [x]=l1++Qm e x::l2
 |[],_=>by
  have hk:e.Site=x.Site∧e.Handle=x.Handle:=by simpa using he
  have h1:eX e x=false:=by
   cases h:eX e x with
   |false=>rfl
   |true=>rw[zH] at h;omega
  have h2:eX x e=false:=by
   cases h:eX x e with
   |false=>rfl
   |true=>rw[zH] at h;omega
  rw[List.nil_append,dH,h1,cond_false,h2,cond_false,eU];rfl
 |a::l1,h=>by
  obtain⟨ha,hs⟩:=List.pairwise_cons.1 h
  have hk:e.Site=x.Site∧e.Handle=x.Handle:=by simpa using he
  have h1:eX a x=true:=by rw[←aS0 hk];exact ha e (by simp)
  rw[List.cons_append,dH,h1,cond_true,aVa he hs];rfl
theorem bAo {l:List D.Entry}{x:D.Entry}(h:srt l):(bif (decide (aI ⟨l⟩ x.Site x.Handle<0)||yN x (l.getD (aI ⟨l⟩ x.Site x.Handle).toNat default)) then(Cr ⟨l⟩ x).Entries else l)=dH l [x]:=by
 unfold Cr
 by_cases hf:aI ⟨l⟩ x.Site x.Handle<0
 ·rw[decide_eq_true hf,Bool.true_or,cond_true,show decide (aI ⟨l⟩ x.Site x.Handle≥0)=false from decide_eq_false (by omega),cond_false]
  exact(aU9 (aQo hf)).symm
 ·obtain⟨l1,e,l2,h1,h2,h3⟩:=R6 (show 0≤iC (fun e=>e.Site==x.Site&&e.Handle==x.Handle) 0 l from by unfold aI at hf;simp only at hf;omega)
  have h3':aI ⟨l⟩ x.Site x.Handle=(l1.length:Int):=by unfold aI;rw[h3];simp
  rw[h3',decide_eq_false (by omega),Bool.false_or,show decide ((l1.length:Int)≥0)=true from decide_eq_true (by omega),cond_true,Int.toNat_natCast]
  subst h1
  rw[aVa h2 h]
  have g:(l1++e::l2).getD l1.length default=e:=by simp[List.getD]
  have st:(l1++e::l2).set l1.length x=l1++x::l2:=by simp
  rw[g]
  show(bif yN x e then(l1++e::l2).set l1.length x else l1++e::l2)=_
  rw[st]
  unfold Qm
  cases yN x e<;>rfl
theorem aVb {α:Type}{p:Nat→α→Bool}:∀{l:List α} {j:Nat},dJ p j l=false→∀(i:Nat) (hi:i<l.length),p (j+i) l[i]=false
 |[],j,_,i,hi=>by simp at hi
 |x::l,j,h,i,hi=>by
  simp only[dJ,Bool.or_eq_false_iff] at h
  cases i with
  |zero=>exact h.1
  |succ i=>have:=aVb h.2 i (by simpa using hi);rw[show j+(i+1)=j+1+i by omega];exact this
theorem bAp {b:D.aAE}(h:aP b=true):b.Entries.length≤20∧srt b.Entries:=by
 simp only[aP,Bool.and_eq_true,decide_eq_true_eq,Bool.not_eq_true'] at h
 refine⟨by omega,?_⟩
 have adj:∀i (hi:i+1<b.Entries.length),eX b.Entries[i] b.Entries[i+1]=true:=fun i hi=>by
  have:=aVb h.2 (i+1) hi
  simp only[aXg,Bool.or_eq_false_iff,Nat.zero_add] at this
  have h4:=this.2.2.2
  rw[decide_eq_true (by omega),Bool.true_and] at h4
  have h5:(b.Entries.getD (i+1-1) default)=b.Entries[i]:=by rw[Nat.add_sub_cancel,List.getD,List.getElem?_eq_getElem (by omega),Option.getD_some]
  rw[h5] at h4;simpa using h4
 have far:∀d i (hi:i+d+1<b.Entries.length),eX b.Entries[i] b.Entries[i+d+1]=true:=fun d=>by
  induction d with
  |zero=>exact fun i hi=>adj i hi
  |succ d ih=>exact fun i hi=>Im (ih i (by omega)) (adj (i+d+1) (by omega))
 refine List.pairwise_iff_getElem.2 fun i j hi hj hij=> ?_
 obtain⟨d,rfl⟩:∃d,j=i+d+1:=⟨j-i-1,by omega⟩
 exact far d i hj
theorem eZ {α β:Type}{s:List α}(hs:s.length≤34359738368)(x:α)(k:Option β):gd (aO s [x]) k=k:=aA (by unfold aO;simp only[List.length_singleton];omega)
theorem kS {α β:Type}{s:List α}(hs:s.length≤34359738368)(k:Option β):gd (aO [] s) k=k:=aA (by unfold aO;simp only[List.length_nil];omega)
theorem aQp {α:Type}{l s:List α}:l.foldl (fun s x=>s++[x]) s=s++l:=by
 have:=R3 (f:=fun x:α=>[x]) (l:=l) (s:=s)
 rw[this];congr 1
 induction l with
 |nil=>rfl
 |cons x l ih=>simp[ih]
theorem Xy {α:Type}{l:List α}{F:(Nat×List α→Option (List α))→Nat×List α→Option (List α)}(hl:l.length≤34359738368)
  (hF:∀rec i s (hi:i<l.length),s.length≤34359738368→F rec (i,s)=rec (i+1,s++[l[i]])) (hE:∀rec s,F rec (l.length,s)=some s):EV.bM FUEL F (0,[])=some l:=by
 rw[aMb (l:=l) (fun s x=>s++[x]) (fun i s=>s.length=i) (fun s=>some s) (by omega) rfl (fun i s hi hv=>by simp;omega) (fun rec i s hi hv=>hF rec i s hi (by omega)) (fun rec s _=>hE rec s),aQp,List.nil_append]
theorem bAq {α:Type}{l:List α}{F:(List α×Nat→Option (List α))→List α×Nat→Option (List α)}(hl:l.length≤34359738368)
  (hF:∀rec i s (hi:i<l.length),s.length≤34359738368→F rec (s,i)=rec (s++[l[i]],i+1)) (hE:∀rec s,F rec (s,l.length)=some s):EV.bM FUEL F ([],0)=some l:=by
 rw[fI (l:=l) (fun s x=>s++[x]) (fun i s=>s.length=i) (fun s=>some s) (by omega) rfl (fun i s hi hv=>by simp;omega) (fun rec i s hi hv=>hF rec i s hi (by omega)) (fun rec s _=>hE rec s),aQp,List.nil_append]
abbrev lW {α:Type}(f:α→Nat)(l:List α):Nat:=l.length+(l.map f).sum
theorem jJ {S τ:Type}{F:(S→Option τ)→S→Option τ}{n:Nat}{s:S}:EV.bM (n+1) F s=F (EV.bM n F) s:=rfl
theorem jC {α:Type}{c:Bool}{x y:α}:(bif c then some x else some y)=some (bif c then x else y):=by cases c<;>rfl
theorem rW {c d:Bool}:(bif c then some true else some d)=some (c||d):=by cases c<;>rfl
theorem bAr {α:Type}[Inhabited α]{l:List α}{i:Nat}(h:i<l.length):l.set i (l.getD i default)=l:=by
 rw[List.getD,List.getElem?_eq_getElem h];simp
theorem qP {α:Type}{p:Nat→α→Bool}:∀(l:List α) (j:Nat),dJ p j l=true↔∃(i:Nat) (hi:i<l.length),p (j+i) l[i]=true
 |[],j=>by simp[dJ]
 |x::xs,j=>by
  simp only[dJ,Bool.or_eq_true,qP xs]
  constructor
  ·rintro(h|⟨i,hi,h⟩)
   ·exact⟨0,by simp,h⟩
   ·exact⟨i+1,by simpa using hi,by rw[show j+(i+1)=j+1+i by omega];exact h⟩
  ·rintro⟨i,hi,h⟩
   cases i with
   |zero=>exact .inl h
   |succ i=>exact .inr ⟨i,by simpa using hi,by rw[show j+1+i=j+(i+1) by omega];exact h⟩
theorem bDe {α:Type}{τ:Type}{l:List α}(p:α→Bool)(a b:τ)(i:Nat)(hi:i≤l.length)(h:l.length≤34359738368){F:(Nat→Option τ)→Nat→Option τ}(hF:∀rec j (hj:j<i),F rec j=bif p (l[j]'(by omega)) then some a else rec (j+1))(hE:∀rec,F rec i=some b):
  EV.bM FUEL F 0=some (bif (l.take i).any p then a else b):=by
 have ht:(l.take i).length=i:=by rw[List.length_take];omega
 exact lD (l:=l.take i) p _ _ (by omega) (fun rec j hj=>by rw[hF rec j (by omega),List.getElem_take]) (fun rec=>by rw[ht];exact hE rec)
theorem bG0 {α β:Type}{l:List α}(f:α→β){F:(List β×Nat→Option (List β))→List β×Nat→Option (List β)}(hl:l.length≤34359738368)
  (hF:∀rec i s (hi:i<l.length),s.length≤34359738368→F rec (s,i)=rec (s++[f l[i]],i+1)) (hE:∀rec s,F rec (s,l.length)=some s):EV.bM FUEL F ([],0)=some (l.map f):=by
 rw[fI (l:=l) (fun s x=>s++[f x]) (fun i s=>s.length=i) (fun s=>some s) (by omega) rfl (fun i s hi hv=>by simp;omega) (fun rec i s hi hv=>hF rec i s hi (by omega)) (fun rec s _=>hE rec s),R4,List.nil_append]
theorem bIm {α β:Type}{l:List α}(f:α→β){s0:List β}{F:(List β×Nat→Option (List β))→List β×Nat→Option (List β)}(hl:s0.length+l.length≤34359738368)
  (hF:∀rec i s (hi:i<l.length),s.length≤34359738368→F rec (s,i)=rec (s++[f l[i]],i+1)) (hE:∀rec s,F rec (s,l.length)=some s):EV.bM FUEL F (s0,0)=some (s0++l.map f):=by
 rw[fI (l:=l) (fun s x=>s++[f x]) (fun i s=>s.length=s0.length+i) (fun s=>some s) (by omega) (by simp) (fun i s hi hv=>by simp;omega) (fun rec i s hi hv=>hF rec i s hi (by omega)) (fun rec s _=>hE rec s),R4]
def fT (h:D.aAA)(b:Int):D.aAA×Bool:=bif decide (b<0)||decide (b≥(h.Saved.length:Int)) then(h,false) else(⟨h.Saved.getD (h.Saved.length-1-b.toNat) default,h.Saved,h.Monotonic⟩,true)
def dM (w:D.World)(i b:Int):D.World×Bool:=bif !bK w||(decide (i<0)||decide (i≥(w.Hosts.length:Int))) then(w,false) else bif (fT (w.Hosts.getD i.toNat default) b).2 then({w with Hosts:=w.Hosts.set i.toNat (fT (w.Hosts.getD i.toNat default) b).1},true) else(w,false)
theorem aOd {i:Int}{n:Nat}(h:n≤34359738368):(!aW i 0 (IntKind.i64.wrap ((n:Int)-1)))=(decide (i<0)||decide (i≥(n:Int))):=by
 rw[aG (by omega) (by omega)]
 unfold aW
 by_cases h0:i<0
 ·rw[decide_eq_true h0,decide_eq_false (show ¬0≤i by omega)];rfl
 ·rw[decide_eq_false h0,decide_eq_true (show 0≤i by omega)]
  by_cases h1:i≥(n:Int)
  ·rw[decide_eq_true h1,decide_eq_false (show ¬i≤(n:Int)-1 by omega)];rfl
  ·rw[decide_eq_false h1,decide_eq_true (show i≤(n:Int)-1 by omega)];rfl
theorem zJ {α:Type}[Inhabited α]{l:List α}{i:Int}(h0:0≤i)(h1:i<(l.length:Int)):bA l i=some (l.getD i.toNat default):=by
 rw[Nb h0 (by omega)];simp[List.getD,List.getElem?_eq_getElem (show i.toNat<l.length by omega)]
theorem Cs {i:Int}{n:Nat}(h:(decide (i<0)||decide (i≥(n:Int)))=false):0≤i∧i<(n:Int):=by
 simp only[Bool.or_eq_false_iff,decide_eq_false_iff_not] at h;omega
theorem aOe {α:Type}[Inhabited α]{f:α→Nat}{l:List α}{i:Nat}(h:i<l.length):f (l.getD i default)≤(l.map f).sum:=by
 rw[List.getD,List.getElem?_eq_getElem h];exact gF h
theorem aQq (h:D.aAA)(b:Int):(fT h b).1.sz=h.sz:=by
 unfold fT;cases(decide (b<0)||decide (b≥(h.Saved.length:Int)))<;>rfl
def nC (l:List D.aAM)(i:Nat)(s:D.aAM):Bool:= !aW s.Index 1 7||(!aW s.Value 0 1018||(l.take i).any fun q=>q.Index==s.Index)
def pQ (l:List D.aAM):Bool:=aW (l.length:Int) 1 7&& !dJ (nC l) 0 l
def aCa (x:Int)(z v:Int):Int:=(IntKind.i64.wrap (IntKind.i64.wrap (v+aZ z 1019)*x)).tmod 1019
def iD (c:Int)(l:List Int)(x:Int):Int:=(l.foldr (aCa x) 0+aZ c 1019)%1019
def Io (c:List Int)(s:D.aAM):D.aAM:=⟨s.Index,(IntKind.i64.wrap (s.Value+iD 0 c s.Index)).tmod 1019⟩
def fZ (l:List D.aAM)(c:List Int):List D.aAM:=bif pQ l then l.map (Io c) else[]
def cS (l:List D.aAM)(i:Nat)(k:Int):Bool:=(l.take i).any fun q=>q.Index==k
theorem bKb {l:List D.aAM}{i:Nat}{k:Int}(hi:i<l.length):cS l (i+1) k=(cS l i k||l[i].Index==k):=by
 unfold cS;rw[List.take_add_one,List.getElem?_eq_getElem hi,List.any_append];simp
theorem aQr {x z v:Int}(hx:0≤x∧x≤1000)(hv:0≤v∧v<1019):0≤aCa x z v∧aCa x z v<1019:=by
 have hm:=iR (p:=z) (q:=1019) (by omega)
 unfold aCa
 generalize aZ z 1019=m at*
 have e1:IntKind.i64.wrap (v+m)=v+m:=aG (by omega) (by omega)
 have h2:0≤(v+m)*x:=Int.mul_nonneg (by omega) hx.1
 have h3:(v+m)*x≤3000*1000:=Int.mul_le_mul (by omega) hx.2 hx.1 (by omega)
 rw[e1,aG (by omega) (by omega)]
 exact⟨Int.tmod_nonneg _ h2,Int.tmod_lt_of_pos _ (by omega)⟩
theorem Sb {x:Int}(hx:0≤x∧x≤1000):∀l:List Int,0≤l.foldr (aCa x) 0∧l.foldr (aCa x) 0<1019
 |[]=>by simp
 |z::l=>aQr hx (Sb hx l)
theorem aQs {σ τ:Type}{l:List Int}(g:Int→σ→σ){s0:σ}(fin:σ→Option τ){F:(σ×Int→Option τ)→σ×Int→Option τ}(hl:l.length≤34359738368)
  (hF:∀rec s i (hi:i<l.length),F rec (s,(i:Int))=rec (g l[i] s,(i:Int)-1)) (hE:∀rec s,F rec (s,-1)=fin s) {n0:Int} (hn:n0=(l.length:Int)-1):EV.bM FUEL F (s0,n0)=fin (l.foldr g s0):=by
 subst hn
 refine yM (fun k s=>k≤l.length∧s=((l.drop (l.length-k)).foldr g s0,(l.length:Int)-1-k)) l.length _ (by omega) ⟨by omega,by simp⟩ (fun k s rec hk hv=> ?_) (fun s rec hv=> ?_)
 ·obtain⟨_,rfl⟩:=hv
  refine .inl ⟨_,⟨hk,rfl⟩,?_⟩
  have e:(l.length:Int)-1-k=((l.length-1-k:Nat):Int):=by omega
  have e2:l.length-(k+1)=l.length-1-k:=by omega
  have hi:l.length-1-k<l.length:=by omega
  rw[e,hF rec _ _ hi,e2,List.drop_eq_getElem_cons hi,List.foldr_cons,show l.length-1-k+1=l.length-k by omega]
  congr 2;omega
 ·obtain⟨_,rfl⟩:=hv
  simp only[Nat.sub_self,List.drop_zero]
  rw[show(l.length:Int)-1-(l.length:Int)= -1 by omega,hE]
theorem aS1 {c d:Bool}:(bif c then some d else some false)=some (c&&d):=by cases c<;>rfl
def dX (k:D.aAQ):Bool:=pQ [k.aAM]&&(aW k.Epoch 0 1000000&&(aW k.Limit 1 10&&aW k.Guesses 0 k.Limit))
def fE (h:D.aAA)(s:D.aAM):Bool:= !dX h.State||(decide (fQ h.State<h.Monotonic)||(h.State.Epoch==1000000||(s.Index !=h.State.aAM.Index|| !pQ [s])))
def pR (h:D.aAA)(s:D.aAM):D.aAA:=⟨⟨s,IntKind.i64.wrap (h.State.Epoch+1),0,h.State.Limit⟩,h.Saved,fQ ⟨s,IntKind.i64.wrap (h.State.Epoch+1),0,h.State.Limit⟩⟩
def aGa (h:D.aAA)(s:D.aAM):D.aAA×Bool:=bif fE h s then(h,false) else(pR h s,true)
def aGb (hs:List D.aAA)(ss:List D.aAM):List D.aAA×Bool:=bif ((ss.length:Int)==0)||(hs.zip ss).any (fun p=>fE p.1 p.2) then(hs,false) else(List.zipWith pR hs ss,true)
def dC (hs:List D.aAA)(c:List Int):List D.aAA×Bool:=aGb hs (fZ (hs.map fun h=>h.State.aAM) c)
def Qn (w:D.World):Nat→Int→List Int
 |0,_=>[]
 |n+1,k=>bif decide (k<w.aAL.Threshold)&&decide (k≤7) then aK w.Seed [317,w.Now,k]::Qn w n (k+1) else[]
def Xz (w:D.World):List Int:=Qn w 8 1
def bR (w:D.World):D.World×Bool:=bif bK w&&(dC w.Hosts (Xz w)).2 then({w with Hosts:=(dC w.Hosts (Xz w)).1},true) else(w,false)
theorem aMd (w:D.World):∀(n:Nat) (k:Int),(Qn w n k).length≤n
 |0,_=>Nat.le_refl _
 |n+1,k=>by
  unfold Qn
  cases(decide (k<w.aAL.Threshold)&&decide (k≤7)) with
  |true=>have:=aMd w n (k+1);simp only[cond_true,List.length_cons];omega
  |false=>simp
theorem aQt (l:List D.aAM)(c:List Int):(fZ l c).length≤l.length:=by
 unfold fZ;cases pQ l<;>simp
theorem aQu {l:List D.aAM}{c:List Int}(h:((fZ l c).length:Int)≠0):(fZ l c).length=l.length:=by
 unfold fZ at h ⊢;cases hA:pQ l with
 |true=>simp
 |false=>rw[hA] at h;simp at h
def bG1 (b:D.aAE)(s h:Int):Int:=bif decide (aI b s h≥0) then IntKind.i64.wrap ((b.Entries.getD (aI b s h).toNat default).Version+1) else 1
def aCy (b:D.aAE)(s h:Int):D.Entry:=⟨s,h,bG1 b s h,false⟩
def aQv (b:D.aAE)(s h:Int):D.aAE×Bool:=bif !(decide (aI b s h≥0)&& !(b.Entries.getD (aI b s h).toNat default).Deleted)&&(aP b&&aP (Cr b (aCy b s h))) then(Cr b (aCy b s h),true) else(b,false)
def bG2 (b:D.aAE)(s h:Int):D.Entry:=⟨s,h,IntKind.i64.wrap ((b.Entries.getD (aI b s h).toNat default).Version+1),true⟩
def aQw (b:D.aAE)(s h:Int):D.aAE×Bool:=bif !aP b||(decide (aI b s h<0)||((b.Entries.getD (aI b s h).toNat default).Deleted||(b.Entries.getD (aI b s h).toNat default).Version==1000000)) then(b,false) else(Cr b (bG2 b s h),true)
def wL (d:D.Device)(n:ByteArray)(h:Int)(rm:Bool):D.aAE×Bool:=bif rm then aQw d.aAE (bT n) h else aQv d.aAE (bT n) h
def gZ (d:D.Device)(n:ByteArray)(h:Int)(rm:Bool):D.Device×Bool:=bif (wL d n h rm).2 then({d with aAE:=(wL d n h rm).1},true) else(d,false)
theorem bDf (b:List Int):(Ry b).length=b.length+1:=by simp[Ry,Nat.add_comm]
theorem aOf (l:List Int):List.map (fun(n:Int)=>n) l=l:=List.map_id l
theorem aXh (hs:List D.aAA):∀(ss:List D.aAM),(List.zipWith pR hs ss).length≤hs.length∧((List.zipWith pR hs ss).map D.aAA.sz).sum≤(hs.map D.aAA.sz).sum:=by
 induction hs with
 |nil=>intro ss;simp
 |cons h hs ih=>
  intro ss
  cases ss with
  |nil=>simp
  |cons s ss=>
   have:=ih ss
   have e:(pR h s).sz=h.sz:=rfl
   simp only[List.zipWith_cons_cons,List.length_cons,List.map_cons,List.sum_cons,e];omega
theorem aJ2 (hs:List D.aAA)(c:List Int):(dC hs c).1.length≤hs.length∧((dC hs c).1.map D.aAA.sz).sum≤(hs.map D.aAA.sz).sum:=by
 unfold dC aGb
 generalize fZ (hs.map fun h=>h.State.aAM) c=ss
 cases(((ss.length:Int)==0)||(hs.zip ss).any (fun p=>fE p.1 p.2)) with
 |true=>exact⟨Nat.le_refl _,Nat.le_refl _⟩
 |false=>exact aXh hs ss
theorem aJ3 (w:D.World):(bR w).1.sz≤w.sz:=by
 unfold bR
 have:=aJ2 w.Hosts (Xz w)
 cases(bK w&&(dC w.Hosts (Xz w)).2) with
 |false=>exact Nat.le_refl _
 |true=>simp only[cond_true,D.World.sz];omega
theorem aQx (b:D.aAE)(x:D.Entry):(Cr b x).Entries.length≤b.Entries.length+1:=by
 unfold Cr
 cases decide (aI b x.Site x.Handle≥0) with
 |true=>simp
 |false=>
  have:=congrArg List.length (List.takeWhile_append_dropWhile (p:=fun e=>qO e x.Site x.Handle) (l:=b.Entries))
  simp only[List.length_append] at this
  simp only[cond_false,List.length_append,List.length_singleton];omega
theorem bDg (b:D.aAE)(s h:Int):(aQv b s h).1.Entries.length≤b.Entries.length+1:=by
 unfold aQv
 have:=aQx b (aCy b s h)
 cases(!(decide (aI b s h≥0)&& !(b.Entries.getD (aI b s h).toNat default).Deleted)&&(aP b&&aP (Cr b (aCy b s h)))) with
 |true=>exact this
 |false=>simp
theorem bDh (b:D.aAE)(s h:Int):(aQw b s h).1.Entries.length≤b.Entries.length+1:=by
 unfold aQw
 have:=aQx b (bG2 b s h)
 cases(!aP b||(decide (aI b s h<0)||((b.Entries.getD (aI b s h).toNat default).Deleted||(b.Entries.getD (aI b s h).toNat default).Version==1000000))) with
 |true=>simp
 |false=>exact this
theorem R7 (d:D.Device)(n:ByteArray)(h:Int)(rm:Bool):(gZ d n h rm).1.sz≤d.sz+1:=by
 unfold gZ
 have:(wL d n h rm).1.Entries.length≤d.aAE.Entries.length+1:=by
  unfold wL;cases rm with
  |true=>exact bDh _ _ _
  |false=>exact bDg _ _ _
 cases(wL d n h rm).2 with
 |true=>simp only[cond_true,D.Device.sz];omega
 |false=>simp
def gI (c:D.aAH)(b:Int):D.aAC×Bool:=bif decide (b<0)||decide (b≥(c.History.length:Int)) then(⟨0,0,[],0⟩,false) else(c.History.getD (c.History.length-1-b.toNat) default,true)
def aS2 (a b:D.aAB):Bool:=a.Index==b.Index&&(a.Kind==b.Kind&&(a.Device==b.Device&&(a.By==b.By&&(a.Previous==b.Previous&&(a.Signature==b.Signature&&true)))))
def dI (a b:List D.aAB):Bool:=decide (b.length≤a.length)&& !dJ (fun i e=> !aS2 (a.getD i default) e) 0 b
def nH (k:Int)(b:D.aAC):Int:=aX k ([227,b.Epoch,b.Version]++Ry b.Data)
def nI (k e v:Int):Int:=aK k [223,e,v]
def uvE:Nat→Int→List Int
 |0,n=>[n]
 |k+1,n=>bif decide (n>127) then(n%128+128)::uvE k (n/128) else[n]
theorem aOg:∀(k:Nat) (n:Int),1≤(uvE k n).length∧(uvE k n).length≤k+1
 |0,n=>by simp[uvE]
 |k+1,n=>by
  have:=aOg k (n/128)
  unfold uvE
  cases decide (n>127)<;>simp<;>omega
theorem bDi {k:Nat}{z:Int}(h:z≤127):uvE k z=[z]:=by
 cases k with
 |zero=>rfl
 |succ k=>unfold uvE;rw[decide_eq_false (by omega)];rfl
theorem aVc:∀(k:Nat) (m n:Int) (x y:List Int),0≤m→0≤n→uvE k m++x=uvE k n++y→m=n∧x=y
 |0,m,n,x,y,_,_,h=>by simpa[uvE] using h
 |k+1,m,n,x,y,h0,h1,h=>by
  unfold uvE at h
  by_cases hm:m>127<;>by_cases hn:n>127
  ·simp only[decide_eq_true hm,decide_eq_true hn,cond_true,List.cons_append,List.cons.injEq] at h
   have:=aVc k (m/128) (n/128) x y (by omega) (by omega) h.2
   exact⟨by omega,this.2⟩
  ·simp only[decide_eq_true hm,decide_eq_false hn,cond_true,cond_false,List.cons_append,List.cons.injEq] at h;omega
  ·simp only[decide_eq_false hm,decide_eq_true hn,cond_true,cond_false,List.cons_append,List.cons.injEq] at h;omega
  ·simpa only[decide_eq_false hm,decide_eq_false hn,cond_false,List.cons_append,List.nil_append,List.cons.injEq] using h
theorem aQy {F:(Int×List Int→Option (Int×List Int))→Int×List Int→Option (Int×List Int)}
  (hF:∀rec (n:Int) (s:List Int),0≤n→n<9223372036854775807→s.length≤34359738368→F rec (n,s)=bif decide (n>127) then rec (n/128,s++[n%128+128]) else some (n,s)):
  ∀(k:Nat) (n:Int) (s:List Int) (f:Nat),k<f→0≤n→n<128^(k+1)→k≤6→s.length+k≤34359738368→∃m q,EV.bM f F (n,s)=some (m,q)∧q++[m]=s++uvE k n∧0≤m∧m≤127
 |0,n,s,f+1,hf,h0,h1,_,hs=>by
  refine⟨n,s,?_,rfl,h0,by simp at h1;omega⟩
  rw[jJ,hF _ _ _ h0 (by simp at h1;omega) (by omega),decide_eq_false (by simp at h1;omega)];rfl
 |k+1,n,s,f+1,hf,h0,h1,hk,hs=>by
  have h2:(128:Int)^(k+1+1)=128*128^(k+1):=by rw[Int.pow_succ];omega
  have h3:(128:Int)^(k+1+1)≤128^8:=by exact_mod_cast Nat.pow_le_pow_right (by omega) (by omega)
  have h4:(128:Int)^8=72057594037927936:=by decide
  rw[jJ,hF _ _ _ h0 (by omega) (by omega)]
  unfold uvE
  by_cases hn:n>127
  ·rw[decide_eq_true hn,cond_true,cond_true]
   obtain⟨m,q,e1,e2,e3⟩:=aQy hF k (n/128) (s++[n%128+128]) f (by omega) (by omega) (by omega) (by omega) (by simp;omega)
   exact⟨m,q,e1,by rw[e2];simp,e3⟩
  ·rw[decide_eq_false hn,cond_false,cond_false]
   exact⟨n,s,rfl,rfl,h0,by omega⟩
theorem bDj {n:Int}(h0:0≤n)(h1:n<9223372036854775808):tC .i64 n 127=n%128:=by
 obtain⟨m,rfl⟩:=Int.eq_ofNat_of_zero_le h0
 have e:((BitVec.ofInt 64 (m:Int))&&&(BitVec.ofInt 64 127)).toNat=m%128:=by
  rw[BitVec.toNat_and]
  have e1:(BitVec.ofInt 64 (m:Int)).toNat=m:=by rw[BitVec.toNat_ofInt];omega
  have e2:(BitVec.ofInt 64 127).toNat=2^7-1:=by decide
  rw[e1,e2,Nat.and_two_pow_sub_one_eq_mod]
 show IntKind.i64.wrap (((BitVec.ofInt 64 (m:Int))&&&(BitVec.ofInt 64 127)).toNat:Int)=_
 rw[e,aG (by omega) (by omega)];omega
theorem bG3 {n:Int}(h0:0≤n)(h1:n<128):orI .i64 n 128=n+128:=by
 obtain⟨m,rfl⟩:=Int.eq_ofNat_of_zero_le h0
 have e:((BitVec.ofInt 64 (m:Int))|||(BitVec.ofInt 64 128)).toNat=m+128:=by
  rw[BitVec.toNat_or]
  have e1:(BitVec.ofInt 64 (m:Int)).toNat=m:=by rw[BitVec.toNat_ofInt];omega
  have e2:(BitVec.ofInt 64 128).toNat=1<<<7:=by decide
  have:=Nat.shiftLeft_add_eq_or_of_lt (b:=m) (i:=7) (by omega) 1
  rw[e1,e2,Nat.or_comm,←this];omega
 show IntKind.i64.wrap (((BitVec.ofInt 64 (m:Int))|||(BitVec.ofInt 64 128)).toNat:Int)=_
 rw[e,aG (by omega) (by omega)];omega
theorem bIn {n:Int}(h0:0≤n):Rj .i64 n 7=n/128:=by
 unfold Rj
 rw[show min (Int.toNat 7) IntKind.i64.bits=7 from by decide,Int.fdiv_eq_ediv_of_nonneg _ (by decide)];rfl
theorem aQz {n:Int}(h0:0≤n)(h1:n≤255):IntKind.u8.wrap n=n:=by rw[IntKind.wrap_u8];omega
def enc1 (n:Int):List Int:=bif aW n 0 1000000000000 then uvE 5 n else[]
def Ip (b:List Int)(n:Int):List Int:=b++enc1 n
def jY (l:List Int):List Int:=(l.map enc1).flatten
theorem Ya (n:Int):(enc1 n).length≤6:=by
 have:=(aOg 5 n).2
 unfold enc1;cases aW n 0 1000000000000<;>simp<;>omega
theorem aOh {n:Int}(h:0≤n∧n≤1000000000000):enc1 n=uvE 5 n:=by
 unfold enc1 aW;rw[decide_eq_true h.1,decide_eq_true h.2];rfl
theorem tX (n:Int)(l:List Int):jY (n::l)=enc1 n++jY l:=rfl
theorem Yc:∀l:List Int,(jY l).length≤6*l.length
 |[]=>by simp[jY]
 |n::l=>by
  have:=Yc l
  have:=Ya n
  rw[tX,List.length_append,List.length_cons];omega
def aQ0 (l:List Int):Prop:=∀v∈l,0≤v∧v≤(1000000000000:Int)
theorem aQ1:∀(s t x y:List Int),aQ0 s→aQ0 t→s.length=t.length→jY s++x=jY t++y→s=t∧x=y
 |[],[],x,y,_,_,_,h=>⟨rfl,h⟩
 |m::s,n::t,x,y,hs,ht,hl,h=>by
  have hm:=hs m (by simp)
  have hn:=ht n (by simp)
  rw[tX,tX,List.append_assoc,List.append_assoc,aOh hm,aOh hn] at h
  obtain⟨h1,h2⟩:=aVc 5 m n _ _ hm.1 hn.1 h
  obtain⟨h3,h4⟩:=aQ1 s t x y (fun v hv=>hs v (by simp[hv])) (fun v hv=>ht v (by simp[hv])) (by simpa using hl) h2
  exact⟨by rw[h1,h3],h4⟩
theorem aVd {b:List Int}(hb:aR b){p:Nat}:∀(k i:Nat) (n m e:Int),uvG b p (k+1) i n=(m,e,true)→∃(r:Int) (q:Nat),(0≤r∧m=n+r*128^i∧m≤1000000000000∧e=(q:Int)∧q≤b.length∧(0<i→r≠0))∧b.drop (p+i)=uvE k r++b.drop q
 |k,i,n,m,e,h=>by
  unfold uvG at h
  by_cases hlt:p+i<b.length
  ·rw[if_pos hlt] at h
   have hz:=Ie hb hlt
   have hg:b.getD (p+i) 0=b[p+i]:=by simp[List.getD,List.getElem?_eq_getElem hlt]
   rw[hg] at h
   have hd:b.drop (p+i)=b[p+i]::b.drop (p+i+1):=List.drop_eq_getElem_cons hlt
   generalize b[p+i]=z at hz h hd
   by_cases h128:z<128
   ·rw[decide_eq_true h128,cond_true] at h
    have hzz:z%128=z:=by omega
    rw[hzz] at h
    cases hc:(decide (0<i)&&z==0)||decide (n+z*128^i>1000000000000) with
    |true=>rw[hc] at h;simp at h
    |false=>
     rw[hc,cond_false] at h
     rw[Bool.or_eq_false_iff] at hc
     have h1:=of_decide_eq_false hc.2
     injection h with e1 e2
     injection e2 with e2 e3
     refine⟨z,p+i+1,⟨hz.1,e1.symm,by omega,e2.symm,by omega,fun hi h0=> ?_⟩,by rw[hd,bDi (by omega)];rfl⟩
     subst h0
     simp[hi] at hc
   ·rw[decide_eq_false h128,cond_false] at h
    match k,h with
    |0,h=>simp[uvG] at h
    |k+1,h=>
     obtain⟨r,q,⟨h1,h2,h3,h4,h5,h6⟩,h7⟩:=aVd hb k (i+1) _ m e h
     have hr:=h6 (by omega)
     refine⟨z%128+128*r,q,⟨by omega,?_,h3,h4,h5,fun _=>by omega⟩,?_⟩
     ·rw[h2,Int.pow_succ,Int.add_mul,←Int.add_assoc]
      congr 1
      rw[Int.mul_comm 128 r,Int.mul_assoc,Int.mul_comm 128]
     ·rw[hd,show p+i+1=p+(i+1) from by omega,h7]
      have e1:uvE (k+1) (z%128+128*r)=z::uvE k r:=by
       rw[uvE,decide_eq_true (show z%128+128*r>127 by omega),cond_true,show(z%128+128*r)%128+128=z by omega,show(z%128+128*r)/128=r by omega]
      rw[e1];rfl
  ·rw[if_neg hlt] at h;simp at h
theorem aOi {b:List Int}(hb:aR b){a m e:Int}(h:Co b a=(m,e,true)):∃q:Nat,(0≤a∧0≤m∧m≤1000000000000∧e=(q:Int)∧q≤b.length)∧b.drop a.toNat=enc1 m++b.drop q:=by
 unfold Co at h
 by_cases h0:a<0
 ·rw[if_pos h0] at h;simp at h
 ·rw[if_neg h0] at h
  obtain⟨r,q,⟨h1,h2,h3,h4,h5,_⟩,h7⟩:=aVd hb 5 0 0 m e h
  have hm:m=r:=by rw[h2];simp
  subst hm
  exact⟨q,⟨by omega,h1,h3,h4,h5⟩,by rw[aOh ⟨h1,h3⟩];exact h7⟩
theorem Yd {b:List Int}(hb:aR b):∀(k:Nat) (a:Int) (s v:List Int) (e:Int),0≤a→a≤b.length→jS b k a s=(v,e,true)→∃(t:List Int) (q:Nat),(v=s++t∧t.length=k∧e=(q:Int)∧q≤b.length∧aQ0 t)∧b.drop a.toNat=jY t++b.drop q
 |0,a,s,v,e,h0,h1,h=>by
  unfold jS at h
  injection h with e1 e2
  injection e2 with e2 _
  exact⟨[],a.toNat,⟨by simp[e1],rfl,by omega,by omega,fun v hv=>by simp at hv⟩,rfl⟩
 |k+1,a,s,v,e,h0,h1,h=>by
  unfold jS at h
  cases hu:Co b a with
  |mk m r=>
   obtain⟨e',ok⟩:=r
   rw[hu] at h
   cases ok with
   |false=>simp at h
   |true=>
    obtain⟨q,⟨g0,g1,g2,g3,g4⟩,g5⟩:=aOi hb hu
    subst g3
    obtain⟨t,q',⟨k1,k2,k3,k4,k5⟩,k6⟩:=Yd hb k (q:Int) (s++[m]) v e (by omega) (by omega) h
    refine⟨m::t,q',⟨by rw[k1];simp,by simp[k2],k3,k4,fun x hx=> ?_⟩,by rw[g5,tX,List.append_assoc];congr 1⟩
    rcases List.mem_cons.1 hx with rfl|hx
    ·exact⟨g1,g2⟩
    ·exact k5 x hx
theorem aGd {b:List Int}:∀(j k:Nat) (a:Int) (s:List Int),jS b (j+k) a s=bif (jS b j a s).2.2 then jS b k (jS b j a s).2.1 (jS b j a s).1 else([],0,false)
 |0,k,a,s=>by rw[Nat.zero_add];rfl
 |j+1,k,a,s=>by
  have e:∀m,jS b (m+1) a s=bif (Co b a).2.2 then jS b m (Co b a).2.1 (s++[(Co b a).1]) else([],0,false):=fun _=>rfl
  rw[show j+1+k=j+k+1 by omega,e,e]
  cases(Co b a).2.2 with
  |false=>rfl
  |true=>exact aGd j k _ _
theorem aGe {b:List Int}:∀(k:Nat) (a:Int) (s:List Int),jS b k a s=bif (jS b k a []).2.2 then(s++(jS b k a []).1,(jS b k a []).2.1,true) else([],0,false)
 |0,a,s=>by simp[jS]
 |k+1,a,s=>by
  unfold jS
  cases(Co b a).2.2 with
  |false=>rfl
  |true=>
   simp only[cond_true,List.nil_append]
   rw[aGe k _ (s++[(Co b a).1]),aGe k _ [(Co b a).1]]
   cases(jS b k (Co b a).2.1 []).2.2<;>simp
def aXi (e:D.Entry):List Int:=[e.Site,e.Handle,e.Version,bif e.Deleted then 1 else 0]
def lZ:List Int→List D.Entry
 |s::h::v::d::r=>⟨s,h,v,d==1⟩::lZ r
 |_=>[]
def tL:List Int→Bool
 |_::_::_::d::r=>decide (d≤1)&&tL r
 |_=>true
def rX (l:List D.Entry):List Int:=l.flatMap aXi
theorem zK:∀l:List D.Entry,(rX l).length=4*l.length
 |[]=>rfl
 |e::l=>by
  have:=zK l
  simp only[rX,List.flatMap_cons,List.length_append,List.length_cons] at*
  rw[this];simp[aXi];omega
theorem aGf:∀(k:Nat) (l:List Int),l.length=4*k→(lZ l).length=k
 |0,[],_=>rfl
 |k+1,s::h::v::d::r,hl=>by
  have:=aGf k r (by simp at hl;omega)
  simp[lZ,this]
theorem aMe:∀(k:Nat) (l:List Int),l.length=4*k→aQ0 l→aQ0 (rX (lZ l))∧(tL l=true↔rX (lZ l)=l)
 |0,[],_,_=>⟨fun v h=>by simp[rX,lZ] at h,by simp[tL,rX,lZ]⟩
 |k+1,s::h::v::d::r,hl,ho=>by
  obtain⟨h1,h2⟩:=aMe k r (by simp at hl;omega) (fun x hx=>ho x (by simp[hx]))
  have hs:=ho s (by simp)
  have hh:=ho h (by simp)
  have hv:=ho v (by simp)
  have hd:=ho d (by simp)
  have e:rX (lZ (s::h::v::d::r))=s::h::v::(bif d==1 then 1 else 0)::rX (lZ r):=by simp[lZ,rX,aXi]
  rw[e]
  refine⟨fun x hx=> ?_,?_⟩
  ·simp only[List.mem_cons] at hx
   rcases hx with rfl|rfl|rfl|rfl|hx
   ·exact hs
   ·exact hh
   ·exact hv
   ·cases(d==1)<;>simp
   ·exact h1 x hx
  ·simp only[tL,Bool.and_eq_true,decide_eq_true_eq,List.cons.injEq,true_and,h2]
   refine and_congr_left' ?_
   by_cases h1:d=1
   ·subst h1;simp
   ·rw[show(d==1)=false by simpa using h1,cond_false];omega
theorem aQ2:∀(k:Nat) (l r:List Int),l.length=4*k→lZ (l++r)=lZ l++lZ r
 |0,[],r,_=>rfl
 |k+1,s::h::v::d::l,r,hl=>by
  have:=aQ2 k l r (by simp at hl;omega)
  simp[lZ,this]
def wM (b:D.aAE):List Int:=[(b.Entries.length:Int)]++rX b.Entries
def wN (b:D.aAE):List Int:=bif aP b then jY (wM b) else[]
def bAs (d:List Int)(v:List Int×Int×Bool):D.aAE×Bool:=bif !v.2.2||(v.2.1 !=(d.length:Int)||(!tL v.1|| !aP ⟨lZ v.1⟩)) then(⟨[]⟩,false) else(⟨lZ v.1⟩,true)
def aGg (d:List Int):D.aAE×Bool:=bif !(Co d 0).2.2||decide ((Co d 0).1>20) then(⟨[]⟩,false) else bAs d (jS d (4*(Co d 0).1).toNat (Co d 0).2.1 [])
def lS (key:Int)(s:D.aAC):D.aAE×Bool:=bif !(bJ key&&(aW s.Epoch 0 1000000&&aW s.Version 0 1000000))||s.MAC !=nH key s then(⟨[]⟩,false) else aGg (aOb (nI key s.Epoch s.Version) s.Data)
theorem bAt {d:List Int}(hd:aR d){n e e':Int}{v:List Int}(h:Co d 0=(n,e,true))(hn:n≤20)(h':jS d (4*n).toNat e []=(v,e',true)):(jY (wM ⟨lZ v⟩)=d↔(e'=(d.length:Int)∧tL v=true))∧v.length=4*n.toNat∧aQ0 v∧(lZ v).length=n.toNat:=by
 obtain⟨q,⟨_,g1,g2,g3,g4⟩,g5⟩:=aOi hd h
 subst g3
 obtain⟨t,q',⟨k1,k2,k3,k4,k5⟩,k6⟩:=Yd hd _ _ _ _ _ (by omega) (by omega) h'
 rw[List.nil_append] at k1
 subst k1
 have hl:v.length=4*n.toNat:=by omega
 obtain⟨f1,f2⟩:=aMe n.toNat v hl k5
 have hel:=aGf n.toNat v hl
 refine⟨?_,hl,k5,hel⟩
 have hdd:d=jY (n::v)++d.drop q':=by
  have h0:d.drop (Int.toNat 0)=d:=rfl
  rw[tX,List.append_assoc,←k6]
  exact h0▸g5
 have hv:wM ⟨lZ v⟩=n::rX (lZ v):=by
  show((lZ v).length:Int)::_=_
  rw[hel];congr 1;omega
 rw[hv]
 constructor
 ·intro hq
  have hx:jY (n::rX (lZ v))++[]=jY (n::v)++d.drop q':=by rw[List.append_nil,hq];exact hdd
  have hok:∀l,aQ0 l→aQ0 (n::l):=fun l hl x hx=>by
   rcases List.mem_cons.1 hx with rfl|hx
   ·exact⟨g1,g2⟩
   ·exact hl x hx
  obtain⟨y1,y2⟩:=aQ1 _ _ _ _ (hok _ f1) (hok _ k5) (by simp[zK,hel,hl]) hx
  have:=congrArg List.length y2
  simp only[List.length_nil,List.length_drop] at this
  exact⟨by omega,f2.2 (List.cons.inj y1).2⟩
 ·rintro⟨h1,h2⟩
  rw[f2.1 h2]
  have:d.drop q'=[]:=List.drop_eq_nil_of_le (by omega)
  rw[this,List.append_nil] at hdd
  exact hdd.symm
theorem aMf (l:List Int):(EV.aWh l).data.toList=l.map fun n=>UInt8.ofNat n.toNat:=by
 unfold EV.aWh
 have:∀(l:List Int) (r:ByteArray),(l.foldl (fun r n=>r.push (UInt8.ofNat n.toNat)) r).data.toList=r.data.toList++l.map fun n=>UInt8.ofNat n.toNat:=by
  intro l
  induction l with
  |nil=>intro r;simp
  |cons x l ih=>intro r;rw[List.foldl_cons,ih];simp
 rw[this];rfl
theorem bytes_inj:∀{a b:List Int},(∀z∈a,0≤z∧z≤255)→(∀z∈b,0≤z∧z≤255)→(a.map fun n=>UInt8.ofNat n.toNat)=(b.map fun n=>UInt8.ofNat n.toNat)→a=b
 |[],[],_,_,_=>rfl
 |[],y::b,_,_,h=>by simp at h
 |x::a,[],_,_,h=>by simp at h
 |x::a,y::b,ha,hb,h=>by
  simp only[List.map_cons,List.cons.injEq] at h
  have hx:=ha x (by simp)
  have hy:=hb y (by simp)
  have e:=congrArg UInt8.toNat h.1
  rw[UInt8.toNat_ofNat',UInt8.toNat_ofNat'] at e
  rw[bytes_inj (fun z hz=>ha z (by simp[hz])) (fun z hz=>hb z (by simp[hz])) h.2,show x=y by omega]
theorem aCb {b:List Int}(h:aR b):∀z∈b,0≤z∧z≤255:=fun z hz=>by simpa using List.all_eq_true.1 h.2 z hz
theorem aGh {b:List Int}(h:b.length≤34359738368)(h1:∀z∈b,0≤z∧z≤255):aR b:=⟨h,List.all_eq_true.2 fun z hz=>by simpa using h1 z hz⟩
theorem aMg:∀(k:Nat) (n:Int),0≤n→n<128^(k+1)→∀z∈uvE k n,0≤z∧z≤255
 |0,n,h0,h1,z,hz=>by simp[uvE] at hz;subst hz;simp at h1;omega
 |k+1,n,h0,h1,z,hz=>by
  have h2:(128:Int)^(k+1+1)=128*128^(k+1):=by rw[Int.pow_succ];omega
  unfold uvE at hz
  by_cases hn:n>127
  ·rw[decide_eq_true hn,cond_true] at hz
   rcases List.mem_cons.1 hz with rfl|hz
   ·omega
   ·exact aMg k (n/128) (by omega) (by omega) z hz
  ·rw[decide_eq_false hn,cond_false] at hz
   simp at hz;subst hz;omega
theorem aS3 (n:Int):∀z∈enc1 n,0≤z∧z≤255:=fun z hz=>by
 unfold enc1 at hz
 cases hr:aW n 0 1000000000000 with
 |false=>rw[hr] at hz;simp at hz
 |true=>
  rw[hr] at hz
  have:=gM hr
  have h7:(128:Int)^(5+1)=4398046511104:=by decide
  exact aMg 5 n this.1 (by omega) z hz
theorem aGi (l:List Int):∀z∈jY l,0≤z∧z≤255:=fun z hz=>by
 unfold jY at hz
 obtain⟨x,hx,hz⟩:=List.mem_flatten.1 hz
 obtain⟨n,_,rfl⟩:=List.mem_map.1 hx
 exact aS3 n z hz
theorem uJ {b:D.aAE}(h:aP b=true):b.Entries.length≤20:=by
 simp only[aP,Bool.and_eq_true,decide_eq_true_eq] at h;omega
theorem aQ3 (b:D.aAE):aR (wN b):=by
 unfold wN
 cases hb:aP b with
 |false=>exact⟨by simp,rfl⟩
 |true=>
  have:=uJ hb
  have h1:=Yc (wM b)
  have h2:(wM b).length=1+4*b.Entries.length:=by simp[wM,zK];omega
  exact aGh (by rw[cond_true];omega) (aGi _)
theorem bAu (d:List Int):(aGg d).1.sz≤20:=by
 have h0:(D.aAE.mk []).sz≤20:=by simp[D.aAE.sz]
 unfold aGg
 cases !(Co d 0).2.2||decide ((Co d 0).1>20) with
 |true=>exact h0
 |false=>
  rw[cond_false]
  generalize jS d (4*(Co d 0).1).toNat (Co d 0).2.1 []=v
  unfold bAs
  cases hb:aP ⟨lZ v.1⟩ with
  |false=>simp only[Bool.not_false,Bool.or_true,cond_true];exact h0
  |true=>
   have:=uJ hb
   cases !v.2.2||(v.2.1 !=(d.length:Int)||(!tL v.1|| !true)) with
   |true=>exact h0
   |false=>simp only[cond_false,D.aAE.sz] at*;omega
theorem aXj (k:Int)(s:D.aAC):(lS k s).1.sz≤20:=by
 unfold lS
 cases !(bJ k&&(aW s.Epoch 0 1000000&&aW s.Version 0 1000000))||s.MAC !=nH k s with
 |true=>simp[D.aAE.sz]
 |false=>exact bAu _
theorem aMh {a b:D.aAE}(h:(lQ a b).2=true):(lQ a b).1.sz≤20:=by
 unfold lQ at*
 cases hc:aP a&&aP b with
 |false=>rw[hc] at h;cases h
 |true=>
  rw[hc] at h
  cases hm:aP ⟨dH a.Entries b.Entries⟩ with
  |false=>rw[hm] at h;cases h
  |true=>have:=uJ hm;simp only[cond_true,D.aAE.sz];omega
def mH (d:D.Device)(log:List D.aAB)(bx:D.aAD)(s:D.aAC):Int:=
 bif !aT log|| !dI log d.Log then 1 else bif !fV (aB log) (bN d.Store) then 2 else bif bx.Epoch !=aN log|| !(bY d.Store bx).2 then 3
 else bif decide (s.Epoch<aN log)||(decide (s.Epoch<d.Epoch)||(s.Epoch==d.Epoch&&decide (s.Version<d.Version))) then 4
 else bif !(lS (bY d.Store bx).1 s).2|| !(lQ d.aAE (lS (bY d.Store bx).1 s).1).2 then 5 else 0
def dA (d:D.Device)(log:List D.aAB)(bx:D.aAD)(s:D.aAC):D.Device×Int:=
 bif mH d log bx s==0 then(⟨d.Store,log,(bY d.Store bx).1,s.Epoch,s.Version,(lQ d.aAE (lS (bY d.Store bx).1 s).1).1⟩,0) else(d,mH d log bx s)
def eO (w:D.World)(d b:Int):D.World×Int:=bif bK w&&dO w d then({w with Devices:=w.Devices.set d.toNat (dA (cK w d) w.aAH.Log w.aAH.Boxes (gI w.aAH b).1).1},(dA (cK w d) w.aAH.Log w.aAH.Boxes (gI w.aAH b).1).2) else(w,1)
def aOj (w:D.World)(d:Int):Bool:=w.Stolen.getD d.toNat false
theorem aGj (d:D.Device)(l:List D.aAB)(bx:D.aAD)(s:D.aAC):(dA d l bx s).1.sz≤d.sz+l.length+20:=by
 unfold dA
 cases hc:mH d l bx s==0 with
 |false=>simp only[cond_false];omega
 |true=>
  have hm:(lQ d.aAE (lS (bY d.Store bx).1 s).1).2=true:=by
   cases hm:(lQ d.aAE (lS (bY d.Store bx).1 s).1).2 with
   |true=>rfl
   |false=>
    unfold mH at hc
    rw[hm] at hc
    revert hc
    cases !aT l|| !dI l d.Log<;>cases !fV (aB l) (bN d.Store)<;>cases bx.Epoch !=aN l|| !(bY d.Store bx).2<;>cases decide (s.Epoch<aN l)||(decide (s.Epoch<d.Epoch)||(s.Epoch==d.Epoch&&decide (s.Version<d.Version)))<;>cases !(lS (bY d.Store bx).1 s).2<;>simp
  have:=aMh hm
  simp only[cond_true,D.Device.sz,D.aAE.sz] at*;omega
def aXk (k:Int)(i:Nat)(z:Int):Int:=IntKind.u8.wrap ((z+aX k [(i:Int)])%256)
def oG (k:Int)(b:List Int):List Int:=Fj (fun i z=>[aXk k i z]) 0 b
def Ye (k e v:Int)(b:D.aAE):D.aAC:=⟨e,v,oG (nI k e v) (wN b),nH k ⟨e,v,oG (nI k e v) (wN b),0⟩⟩
def wO (k e v:Int)(b:D.aAE):D.aAC×Bool:=bif bJ k&&(aW e 0 1000000&&aW v 0 1000000)&&aP b then(Ye k e v b,true) else(⟨0,0,[],0⟩,false)
def fA (d:D.Device):D.Device×D.aAC×Bool:=bif (wO d.Key d.Epoch (IntKind.i64.wrap (d.Version+1)) d.aAE).2 then({d with Version:=IntKind.i64.wrap (d.Version+1)},(wO d.Key d.Epoch (IntKind.i64.wrap (d.Version+1)) d.aAE).1,true) else(d,⟨0,0,[],0⟩,false)
def Iq (a b:D.aAC):Bool:=decide (a.Epoch>b.Epoch)||(a.Epoch==b.Epoch&&decide (a.Version>b.Version))
def dR (c:D.aAH)(s:D.aAC):D.aAH×Bool:=bif s.Epoch !=aN c.Log||((decide ((c.History.length:Int)>0)&& !Iq s (c.History.getD (c.History.length-1) default))||decide ((c.History.length:Int)≥60)) then(c,false) else({c with History:=c.History++[s]},true)
def upF (w:D.World)(d:Int):D.World×Bool:=bif (fA (cK w d)).2.2&&(dR w.aAH (fA (cK w d)).2.1).2 then({w with Devices:=w.Devices.set d.toNat (fA (cK w d)).1,aAH:=(dR w.aAH (fA (cK w d)).2.1).1},true) else(w,false)
def wP (w:D.World)(d:Int):D.World×Bool:=bif (eO w d 0).2==0&&(upF (eO w d 0).1 d).2 then((upF (eO w d 0).1 d).1,true) else(w,false)
theorem R8 (b:D.aAE):(wN b).length≤500:=by
 unfold wN
 cases hb:aP b with
 |false=>simp
 |true=>
  have:=uJ hb
  have h1:=Yc (wM b)
  have h2:(wM b).length=1+4*b.Entries.length:=by simp[wM,zK];omega
  rw[cond_true];omega
theorem zL (k:Int)(b:List Int):(oG k b).length=b.length:=by unfold oG;exact zF
theorem aXl (k e v:Int)(b:D.aAE):(wO k e v b).1.Data.length≤500:=by
 unfold wO
 cases bJ k&&(aW e 0 1000000&&aW v 0 1000000)&&aP b with
 |false=>simp
 |true=>simp only[cond_true,Ye,zL];exact R8 b
theorem Nj (d:D.Device):(fA d).1.sz=d.sz∧(fA d).2.1.Data.length≤500:=by
 unfold fA
 have:=aXl d.Key d.Epoch (IntKind.i64.wrap (d.Version+1)) d.aAE
 cases(wO d.Key d.Epoch (IntKind.i64.wrap (d.Version+1)) d.aAE).2 with
 |false=>exact⟨rfl,by simp⟩
 |true=>exact⟨rfl,this⟩
theorem pU (c:D.aAH)(s:D.aAC):(dR c s).1.sz≤c.sz+1+s.Data.length∧(dR c s).1.Log=c.Log:=by
 unfold dR
 cases s.Epoch !=aN c.Log||((decide ((c.History.length:Int)>0)&& !Iq s (c.History.getD (c.History.length-1) default))||decide ((c.History.length:Int)≥60)) with
 |true=>exact⟨by simp only[cond_true];omega,rfl⟩
 |false=>refine⟨?_,rfl⟩;simp only[cond_false,D.aAH.sz,List.length_append,List.map_append,List.sum_append,List.length_cons,List.length_nil,List.map_cons,List.map_nil,List.sum_cons,List.sum_nil,D.aAC.sz];omega
theorem Ct {α:Type}{f:α→Nat}:∀{l:List α} {i:Nat} {x:α} (hi:i<l.length),((l.set i x).map f).sum+f l[i]=(l.map f).sum+f x
 |y::l,0,x,_=>by simp only[List.set_cons_zero,List.map_cons,List.sum_cons,List.getElem_cons_zero];omega
 |y::l,i+1,x,h=>by
  have:=Ct (f:=f) (l:=l) (i:=i) (x:=x) (by simpa using h)
  simp only[List.set_cons_succ,List.map_cons,List.sum_cons,List.getElem_cons_succ];omega
theorem aEu {w:D.World}{d b:Int}(h:((eO w d b).2==0)=true):(bK w=true∧dO w d=true)∧(eO w d b).1.aAH=w.aAH∧(eO w d b).1.Devices.length=w.Devices.length∧(eO w d b).1.sz≤w.sz+w.aAH.Log.length+20:=by
 unfold eO at*
 cases hc:(bK w&&dO w d) with
 |false=>rw[hc] at h;cases h
 |true=>
  rw[hc] at h
  simp only[cond_true] at h ⊢
  rw[Bool.and_eq_true] at hc
  refine⟨hc,by first|rfl|trivial,by first|exact List.length_set|simp,?_⟩
  have hd:=hc.2
  simp only[dO,Bool.and_eq_true,decide_eq_true_eq] at hd
  have hi:d.toNat<w.Devices.length:=by omega
  have hz:(dA (cK w d) w.aAH.Log w.aAH.Boxes (gI w.aAH b).1).1.sz≤w.aAH.Log.length+20:=by
   unfold dA at*
   cases hs:mH (cK w d) w.aAH.Log w.aAH.Boxes (gI w.aAH b).1==0 with
   |false=>rw[hs] at h;simp only[cond_false] at h;rw[hs] at h;cases h
   |true=>
    have hm:(lQ (cK w d).aAE (lS (bY (cK w d).Store w.aAH.Boxes).1 (gI w.aAH b).1).1).2=true:=by
     cases hm:(lQ (cK w d).aAE (lS (bY (cK w d).Store w.aAH.Boxes).1 (gI w.aAH b).1).1).2 with
     |true=>rfl
     |false=>
      unfold mH at hs
      rw[hm] at hs
      revert hs
      generalize(cK w d)=x
      generalize(gI w.aAH b).1=s
      cases !aT w.aAH.Log|| !dI w.aAH.Log x.Log<;>cases !fV (aB w.aAH.Log) (bN x.Store)<;>cases w.aAH.Boxes.Epoch !=aN w.aAH.Log|| !(bY x.Store w.aAH.Boxes).2<;>cases decide (s.Epoch<aN w.aAH.Log)||(decide (s.Epoch<x.Epoch)||(s.Epoch==x.Epoch&&decide (s.Version<x.Version)))<;>cases !(lS (bY x.Store w.aAH.Boxes).1 s).2<;>simp
    have:=aMh hm
    simp only[cond_true,D.Device.sz,D.aAE.sz] at*;omega
  have h1:=Ct (f:=D.Device.sz) (l:=w.Devices) (i:=d.toNat) (x:=(dA (cK w d) w.aAH.Log w.aAH.Boxes (gI w.aAH b).1).1) hi
  generalize(dA (cK w d) w.aAH.Log w.aAH.Boxes (gI w.aAH b).1).1=x at*
  simp only[D.World.sz,List.length_set] at*;omega
theorem bIo {w:D.World}{d:Int}(hd:dO w d=true):(upF w d).1.aAH.Log=w.aAH.Log∧(upF w d).1.Devices.length=w.Devices.length∧(upF w d).1.sz≤w.sz+501:=by
 unfold upF
 cases(fA (cK w d)).2.2&&(dR w.aAH (fA (cK w d)).2.1).2 with
 |false=>exact⟨rfl,rfl,by simp only[cond_false];omega⟩
 |true=>
  have hu:=pU w.aAH (fA (cK w d)).2.1
  have hw:=Nj (cK w d)
  simp only[dO,Bool.and_eq_true,decide_eq_true_eq] at hd
  have hi:d.toNat<w.Devices.length:=by omega
  have h1:=Ct (f:=D.Device.sz) (l:=w.Devices) (i:=d.toNat) (x:=(fA (cK w d)).1) hi
  have e:w.Devices[d.toNat]=cK w d:=by simp[cK,List.getD,List.getElem?_eq_getElem hi]
  rw[e] at h1
  refine⟨hu.2,List.length_set,?_⟩
  generalize(dR w.aAH (fA (cK w d)).2.1).1=c at*
  generalize fA (cK w d)=x at*
  simp only[cond_true,D.World.sz,D.aAH.sz,List.length_set] at*;omega
theorem aVe {w:D.World}{d:Int}(h:(wP w d).2=true):(wP w d).1.aAH.Log=w.aAH.Log∧(wP w d).1.sz≤w.sz+w.aAH.Log.length+521:=by
 unfold wP at*
 cases hc:((eO w d 0).2==0&&(upF (eO w d 0).1 d).2) with
 |false=>rw[hc] at h;cases h
 |true=>
  rw[Bool.and_eq_true] at hc
  obtain⟨⟨k1,k2⟩,k3,k4,k5⟩:=aEu hc.1
  have hd:dO (eO w d 0).1 d=true:=by simp only[dO] at*;rw[k4];exact k2
  obtain⟨j1,j2,j3⟩:=bIo hd
  simp only[cond_true]
  exact⟨by rw[j1,k3],by omega⟩
theorem bAv {k z:Int}(i:Nat)(h:0≤z∧z≤255):IntKind.u8.wrap ((IntKind.i64.wrap (IntKind.i64.wrap z+(aX k [(i:Int)]).tmod 256)).tmod 256)=aXk k i z:=by
 have:=jR k [(i:Int)]
 rw[aG (n:=z) (by omega) (by omega),show(aX k [(i:Int)]).tmod 256=aX k [(i:Int)]%256 from Int.tmod_eq_emod_of_nonneg this.1,aG (by omega) (by omega),Int.tmod_eq_emod_of_nonneg (by omega),aXk]
 congr 1;omega
def aJ (seed n:Int):D.aAI:=⟨1,n,aK seed [277,n],0⟩
def bQ (s:D.aAI):D.Device:=⟨s,[],0,0,0,⟨[]⟩⟩
def fK (s:D.aAI)(n:ByteArray)(h:Int):Int:=aK s.Seed [179,bT n,h]
def fF (s:D.aAI)(n:ByteArray)(h:Int):Int:=fC (fK s n h)
def nJ (s:D.aAI)(l:List Int):Int:=zG (gW s) l
def aS4 (log:List D.aAB)(kind dev:Int)(s:D.aAI):D.aAB:=⟨(log.length:Int),kind,dev,bN s,fD log,0⟩
def aXm (log:List D.aAB)(kind dev:Int)(s:D.aAI):D.aAB:={aS4 log kind dev s with Signature:=nJ s [bL (aS4 log kind dev s)]}
def kK (log:List D.aAB)(kind dev:Int)(s:D.aAI):List D.aAB×Bool:=bif (decide ((log.length:Int)>0)&& !aT log)|| !aT (log++[aXm log kind dev s]) then(log,false) else(log++[aXm log kind dev s],true)
def qQ (p e:Int)(d:List Int):D.Box:=⟨p,e,oG (jB (dW p) e) d,aJ0 (jB (dW p) e) ⟨p,e,oG (jB (dW p) e) d,0⟩⟩
def eP (p e:Int)(d:List Int):D.Box×Bool:=bif dW p==0||(!bJ e||decide ((d.length:Int)>200)) then(⟨0,0,[],0⟩,false) else(qQ p e d,true)
def dZ (e:Int)(d:List Int):Nat→List Int→List D.Box×Bool
 |_,[]=>([],true)
 |i,p::l=>bif (eP p (IntKind.i64.wrap (e+(i:Int))) d).2&&(dZ e d (i+1) l).2 then((eP p (IntKind.i64.wrap (e+(i:Int))) d).1::(dZ e d (i+1) l).1,true) else([],false)
def bH (log:List D.aAB)(key eph:Int):D.aAD×Bool:=bif !aT log||(!bJ key|| !(dZ eph (jY [aN log,key]) 0 (aB log)).2) then(⟨0,[]⟩,false) else(⟨aN log,(dZ eph (jY [aN log,key]) 0 (aB log)).1⟩,true)
def nK (e:D.aAD)(d:Int):Int:=e.Boxes.foldl (fun n b=>bif b.To==d then IntKind.i64.wrap (n+1) else n) 0
def iO (e:D.aAD)(log:List D.aAB):Bool:=(e.Epoch==aN log&&(e.Boxes.length:Int)==((aB log).length:Int))&&(aB log).all fun d=>nK e d==1
def yO (c:D.aAH)(log:List D.aAB)(e:D.aAD):D.aAH×Bool:=bif !aT log||(!dI log c.Log|| !iO e log) then(c,false) else({c with Log:=log,Boxes:=e},true)
def Sc (h:Int)(l:List D.aAK):Nat:=(l.takeWhile fun c=>decide (c.Handle<h)).length
def aCz (l:List D.aAK)(h p:Int):List D.aAK:=l.take (Sc h l)++[⟨h,p,0,false⟩]++l.drop (Sc h l)
def gB (a:D.aAG)(h p:Int):D.aAG×Bool:=bif !bC a|| !bC {a with Credentials:=aCz a.Credentials h p} then(a,false) else({a with Credentials:=aCz a.Credentials h p},true)
def iA (s:D.Site)(id h p:Int):D.Site×Bool:=bif !dQ s||decide (aQ s id<0) then(s,false) else bif (gB (s.Accounts.getD (aQ s id).toNat default) h p).2 then({s with Accounts:=s.Accounts.set (aQ s id).toNat (gB (s.Accounts.getD (aQ s id).toNat default) h p).1},true) else(s,false)
def qR (l:List D.aAP):Nat:=bif l.any (fun n=>n.Seen) then(l.takeWhile fun n=> !n.Seen).length else 0
def zM (l:List D.aAP):List D.aAP:=bif decide ((l.length:Int)>30) then l.take (qR l)++l.drop (qR l+1) else l
def zN (m:D.aAJ)(k a t:Int):D.aAJ×Bool:=bif !cZ m|| !cZ ⟨zM (m.Notices++[⟨k,a,t,false⟩])⟩ then(m,false) else(⟨zM (m.Notices++[⟨k,a,t,false⟩])⟩,true)
def kH (w:D.World)(by_ kind pub:Int)(key:List D.aAB→Int):D.World×Bool:=
 let l:=kK w.aAH.Log kind pub (cK w by_).Store
 let e:=bH l.1 (key l.1) (IntKind.i64.wrap (1000+IntKind.i64.wrap (10*(l.1.length:Int))))
 let c:=yO w.aAH l.1 e.1
 bif l.2&&(e.2&&c.2) then({w with aAH:=c.1},true) else(w,false)
theorem aGk (log:List D.aAB)(k d:Int)(s:D.aAI):(kK log k d s).1.length≤log.length+1:=by
 unfold kK
 cases(decide ((log.length:Int)>0)&& !aT log)|| !aT (log++[aXm log k d s])<;>simp
theorem aS5 (p e:Int)(d:List Int):(eP p e d).1.sz≤d.length:=by
 unfold eP
 cases dW p==0||(!bJ e||decide ((d.length:Int)>200)) with
 |true=>simp[D.Box.sz]
 |false=>simp only[cond_false,qQ,D.Box.sz,zL];exact Nat.le_refl _
theorem aQ4 {e:Int}{d:List Int}:∀{i:Nat} {l:List Int},(dZ e d i l).1.length≤l.length∧((dZ e d i l).1.map D.Box.sz).sum≤l.length*d.length
 |i,[]=>by simp[dZ]
 |i,p::l=>by
  have h1:=aQ4 (e:=e) (d:=d) (i:=i+1) (l:=l)
  have h2:=aS5 p (IntKind.i64.wrap (e+(i:Int))) d
  unfold dZ
  cases(eP p (IntKind.i64.wrap (e+(i:Int))) d).2&&(dZ e d (i+1) l).2 with
  |false=>simp
  |true=>simp only[cond_true,List.length_cons,List.map_cons,List.sum_cons,Nat.add_mul];omega
theorem aQ5 (a b:Int):(jY [a,b]).length≤12:=Yc [a,b]
theorem aMi (log:List D.aAB)(k e:Int):(bH log k e).1.sz≤13*log.length:=by
 unfold bH
 have h1:=aQ4 (e:=e) (d:=jY [aN log,k]) (i:=0) (l:=aB log)
 have h2:=kF log
 have h3:=aQ5 (aN log) k
 have h4:=Nat.mul_le_mul_left (aB log).length h3
 cases !aT log||(!bJ k|| !(dZ e (jY [aN log,k]) 0 (aB log)).2) with
 |true=>simp[D.aAD.sz]
 |false=>simp only[cond_false,D.aAD.sz];omega
theorem bAw (c:D.aAH)(l:List D.aAB)(e:D.aAD):(yO c l e).1.sz≤c.sz+l.length+e.sz∧(yO c l e).1.History=c.History:=by
 unfold yO
 cases !aT l||(!dI l c.Log|| !iO e l) with
 |true=>exact⟨by simp only[cond_true];omega,rfl⟩
 |false=>exact⟨by simp only[cond_false,D.aAH.sz,D.aAD.sz];omega,rfl⟩
theorem aQ6 (l:List D.aAK)(h p:Int):(aCz l h p).length=l.length+1:=by
 simp only[aCz,List.length_append,List.length_take,List.length_drop,List.length_singleton];omega
theorem aS6 (a:D.aAG)(h p:Int):(gB a h p).1.sz≤a.sz+1:=by
 unfold gB
 cases !bC a|| !bC {a with Credentials:=aCz a.Credentials h p} with
 |true=>simp only[cond_true];omega
 |false=>simp only[cond_false,D.aAG.sz,aQ6];exact Nat.le_refl _
theorem aMj (l:List D.aAP):(zM l).length≤l.length:=by
 unfold zM
 cases decide ((l.length:Int)>30) with
 |false=>exact Nat.le_refl _
 |true=>simp only[cond_true,List.length_append,List.length_take,List.length_drop];omega
theorem bDk (m:D.aAJ)(k a t:Int):(zN m k a t).1.sz≤m.sz+1:=by
 unfold zN
 have:=aMj (m.Notices++[⟨k,a,t,false⟩])
 simp only[List.length_append,List.length_singleton] at this
 cases !cZ m|| !cZ ⟨zM (m.Notices++[⟨k,a,t,false⟩])⟩ with
 |true=>simp only[cond_true];omega
 |false=>simp only[cond_false,D.aAJ.sz];omega
theorem aCc {α:Type}{p:α→Bool}{i:Nat}{l:List α}(h:decide (iC p i l<0)=false):(i:Int)≤iC p i l∧iC p i l<i+l.length:=by
 induction l generalizing i with
 |nil=>simp[iC] at h
 |cons x l ih=>
  unfold iC at h ⊢
  cases hp:p x with
  |true=>simp only[cond_true,List.length_cons];omega
  |false=>
   rw[hp] at h
   have:=ih (i:=i+1) h
   simp only[cond_false,List.length_cons];omega
theorem aMk (s:D.Site)(id h p:Int):(iA s id h p).1.sz≤s.sz+1:=by
 unfold iA
 cases hc: !dQ s||decide (aQ s id<0) with
 |true=>simp only[cond_true];omega
 |false=>
  rw[Bool.or_eq_false_iff] at hc
  have hr:=aCc hc.2
  simp only[cond_false]
  cases(gB (s.Accounts.getD (aQ s id).toNat default) h p).2 with
  |false=>simp only[cond_false];omega
  |true=>
   have hi:(aQ s id).toNat<s.Accounts.length:=by unfold aQ;omega
   have h1:=Ct (f:=D.aAG.sz) (l:=s.Accounts) (i:=(aQ s id).toNat) (x:=(gB (s.Accounts.getD (aQ s id).toNat default) h p).1) hi
   have h2:=aS6 (s.Accounts.getD (aQ s id).toNat default) h p
   have e:s.Accounts.getD (aQ s id).toNat default=s.Accounts[(aQ s id).toNat]:=by simp[List.getD,List.getElem?_eq_getElem hi]
   rw[e] at h1 h2 ⊢
   simp only[cond_true,D.Site.sz,List.length_set];omega
def appW (w:D.World)(x:D.Device):D.World:={w with Devices:=w.Devices++[x],Stolen:=w.Stolen++[false]}
theorem bAx (w:D.World)(b k p:Int)(key:List D.aAB→Int):(kH w b k p key).1.sz≤w.sz+14*(w.aAH.Log.length+1)∧(kH w b k p key).1.aAH.Log.length≤w.aAH.Log.length+1∧(kH w b k p key).1.Devices=w.Devices∧(kH w b k p key).1.Sites=w.Sites:=by
 unfold kH
 dsimp only
 have h1:=aGk w.aAH.Log k p (cK w b).Store
 generalize(kK w.aAH.Log k p (cK w b).Store)=l at*
 have h2:=aMi l.1 (key l.1) (IntKind.i64.wrap (1000+IntKind.i64.wrap (10*(l.1.length:Int))))
 have h3:=(bAw w.aAH l.1 (bH l.1 (key l.1) (IntKind.i64.wrap (1000+IntKind.i64.wrap (10*(l.1.length:Int))))).1).1
 have h4:(yO w.aAH l.1 (bH l.1 (key l.1) (IntKind.i64.wrap (1000+IntKind.i64.wrap (10*(l.1.length:Int))))).1).1.Log.length≤w.aAH.Log.length+1:=by
  unfold yO
  cases !aT l.1||(!dI l.1 w.aAH.Log|| !iO (bH l.1 (key l.1) (IntKind.i64.wrap (1000+IntKind.i64.wrap (10*(l.1.length:Int))))).1 l.1) with
  |true=>simp only[cond_true];omega
  |false=>simp only[cond_false];exact h1
 generalize bH l.1 (key l.1) (IntKind.i64.wrap (1000+IntKind.i64.wrap (10*(l.1.length:Int))))=e at*
 generalize yO w.aAH l.1 e.1=c at*
 cases l.2&&(e.2&&c.2) with
 |false=>exact⟨by show w.sz≤_;omega,by show w.aAH.Log.length≤_;omega,rfl,rfl⟩
 |true=>exact⟨by show(D.World.sz {w with aAH:=c.1})≤_;simp only[D.World.sz,D.aAH.sz] at*;omega,h4,rfl,rfl⟩
def aOl (d:D.Device)(h:Int)(rm:Bool):D.Device:=(gZ (gZ d (aD 0) h rm).1 (aD 1) h rm).1
def lT (st:D.aAI)(n:Int):Nat→List D.Site→List D.Site×Bool
 |_,[]=>([],true)
 |j,s::l=>bif (iA s 1 n (fF st (aD (j:Int)) n)).2&&(lT st n (j+1) l).2 then((iA s 1 n (fF st (aD (j:Int)) n)).1::(lT st n (j+1) l).1,true) else([],false)
def aCd (w:D.World)(k:Int):D.World:={w with Mail:=(zN w.Mail k 1 w.Now).1}
def add1 (w:D.World)(b:Int):D.World×Bool:=kH (eO w b 0).1 b 1 (bN (aJ w.Seed (w.Devices.length:Int))) fun _=>(cK (eO w b 0).1 b).Key
def bAy (w:D.World)(b:Int):List D.Site×Bool:=lT (aJ w.Seed (w.Devices.length:Int)) (w.Devices.length:Int) 0 (add1 w b).1.Sites
def aC0 (w:D.World)(b:Int):D.World×Bool:=wP {(add1 w b).1 with Sites:=(bAy w b).1,Devices:=(add1 w b).1.Devices.set b.toNat (aOl (cK (add1 w b).1 b) (w.Devices.length:Int) false)} b
def aS7 (w:D.World)(b:Int):D.World×Int:=eO (appW (aC0 w b).1 (bQ (aJ w.Seed (w.Devices.length:Int)))) (w.Devices.length:Int) 0
def aQ7 (w:D.World)(b:Int):Bool:=(bK w&&(dO w b&&(!aOj w b&& !decide ((w.Devices.length:Int)≥6))))&&((eO w b 0).2==0&&((add1 w b).2&&((bAy w b).2&&((aC0 w b).2&&(aS7 w b).2==0))))
def Nk (w:D.World)(b:Int):D.World×Bool:=bif aQ7 w b then(aCd (aS7 w b).1 2,true) else(w,false)
theorem bDl (d:D.Device)(h:Int)(rm:Bool):(aOl d h rm).sz≤d.sz+2:=by
 have h1:=R7 (gZ d (aD 0) h rm).1 (aD 1) h rm
 have h2:=R7 d (aD 0) h rm
 unfold aOl;omega
theorem aMl {st:D.aAI}{n:Int}:∀{j:Nat} {l:List D.Site},(lT st n j l).1.length≤l.length∧((lT st n j l).1.map D.Site.sz).sum≤(l.map D.Site.sz).sum+l.length
 |j,[]=>by simp[lT]
 |j,s::l=>by
  have h1:=aMl (st:=st) (n:=n) (j:=j+1) (l:=l)
  have h2:=aMk s 1 n (fF st (aD (j:Int)) n)
  unfold lT
  cases(iA s 1 n (fF st (aD (j:Int)) n)).2&&(lT st n (j+1) l).2 with
  |false=>simp
  |true=>simp only[cond_true,List.length_cons,List.map_cons,List.sum_cons];omega
def Ea (w:D.World)(b:Int):D.World:={(add1 w b).1 with Sites:=(bAy w b).1,Devices:=(add1 w b).1.Devices.set b.toNat (aOl (cK (add1 w b).1 b) (w.Devices.length:Int) false)}
theorem bDm (w:D.World)(x:D.Device):(appW w x).sz=w.sz+x.sz+2:=by
 simp only[appW,D.World.sz,List.length_append,List.length_singleton,List.map_append,List.map_cons,List.map_nil,List.sum_append,List.sum_cons,List.sum_nil];omega
theorem aVf (w:D.World)(k:Int):(aCd w k).sz≤w.sz+1:=by
 have:=bDk w.Mail k 1 w.Now
 simp only[aCd,D.World.sz,D.aAJ.sz] at*;omega
theorem aMm {α:Type}{p:α→Bool}:∀{l:List α} {i:Nat} (hi:i<l.length),i<(l.takeWhile p).length→p l[i]=true
 |x::l,0,_,h=>by
  simp only[List.takeWhile_cons] at h
  cases hp:p x with
  |true=>exact hp
  |false=>rw[hp] at h;simp at h
 |x::l,i+1,hi,h=>by
  simp only[List.takeWhile_cons] at h
  cases hp:p x with
  |true=>
   have h':i<(l.takeWhile p).length:=by simpa[hp] using h
   exact aMm (l:=l) (i:=i) (by simpa using hi) h'
  |false=>rw[hp] at h;simp at h
theorem aMn {α:Type}{p:α→Bool}:∀{l:List α} (h:(l.takeWhile p).length<l.length),p (l[(l.takeWhile p).length]'h)=false
 |x::l,h=>by
  cases hp:p x with
  |true=>
   have h':(l.takeWhile p).length<l.length:=by simpa[List.takeWhile_cons,hp] using h
   simpa[List.takeWhile_cons,hp] using aMn h'
  |false=>simp[List.takeWhile_cons,hp]
theorem Ir {α:Type}{p:α→Bool}{l:List α}:(l.takeWhile p).length≤l.length:=(List.takeWhile_prefix p).length_le
theorem R9 {α τ S:Type}{l:List α}(p:α→Bool)(fin:Nat→Option τ)(e:Nat→S){F:(S→Option τ)→S→Option τ}(hl:l.length≤34359738368)
  (hF:∀rec i (hi:i<l.length),F rec (e i)=bif p l[i] then rec (e (i+1)) else fin i) (hE:∀rec,F rec (e l.length)=fin l.length):EV.bM FUEL F (e 0)=fin (l.takeWhile p).length:=by
 have go:∀(k i n:Nat),i+k=(l.takeWhile p).length→k<n→EV.bM n F (e i)=fin (l.takeWhile p).length:=by
  intro k
  induction k with
  |zero=>
   intro i n hi hn
   obtain⟨n,rfl⟩:∃m,n=m+1:=⟨n-1,by omega⟩
   have:i=(l.takeWhile p).length:=by omega
   subst this
   rw[jJ]
   by_cases h:(l.takeWhile p).length<l.length
   ·rw[hF _ _ h,aMn h,cond_false]
   ·have h2:(l.takeWhile p).length=l.length:=by have:=Ir (p:=p) (l:=l);omega
    rw[h2,hE]
  |succ k ih=>
   intro i n hi hn
   obtain⟨n,rfl⟩:∃m,n=m+1:=⟨n-1,by omega⟩
   have h1:i<l.length:=by have:=Ir (p:=p) (l:=l);omega
   rw[jJ,hF _ _ h1,aMm (p:=p) h1 (by omega),cond_true]
   exact ih (i+1) n (by omega) (by omega)
 have:=Ir (p:=p) (l:=l)
 exact go (l.takeWhile p).length 0 FUEL (by omega) (by have:=gU;omega)
theorem aMo {e:Int}{d:List Int}{l:List Int}{τ:Type}{x:τ}{F:(List D.Box×Nat→Option (τ⊕List D.Box))→List D.Box×Nat→Option (τ⊕List D.Box)}
  (hF:∀rec i s (hi:i<l.length),s.length≤i→F rec (s,i)=bif !(eP l[i] (IntKind.i64.wrap (e+(i:Int))) d).2 then some (.inl x) else rec (s++[(eP l[i] (IntKind.i64.wrap (e+(i:Int))) d).1],i+1)) (hE:∀rec s,F rec (s,l.length)=some (.inr s)):
  ∀(k i n:Nat) (s:List D.Box),i+k=l.length→k<n→s.length≤i→EV.bM n F (s,i)=some (bif (dZ e d i (l.drop i)).2 then .inr (s++(dZ e d i (l.drop i)).1) else .inl x)
 |0,i,n+1,s,h,_,_=>by
  have:i=l.length:=by omega
  subst this
  rw[jJ,hE,List.drop_length];simp[dZ]
 |k+1,i,n+1,s,h,hn,hs=>by
  have hi:i<l.length:=by omega
  rw[jJ,hF _ i s hi hs,List.drop_eq_getElem_cons hi,dZ]
  cases hb:(eP l[i] (IntKind.i64.wrap (e+(i:Int))) d).2 with
  |false=>rfl
  |true=>
   rw[Bool.not_true,cond_false,aMo hF hE k (i+1) n _ (by omega) (by omega) (by simp;omega)]
   cases(dZ e d (i+1) (l.drop (i+1))).2<;>simp
def aS8 (l:List D.aAP):Nat:=(l.takeWhile fun n=> !n.Seen).length
theorem aXn {l:List D.aAP}{x:D.aAP}:aS8 (l++[x])=bif l.any (fun n=>n.Seen) then aS8 l else bif x.Seen then l.length else l.length+1:=by
 induction l with
 |nil=>cases hx:x.Seen<;>simp[aS8,hx]
 |cons y l ih=>
  unfold aS8 at*
  cases hy:y.Seen with
  |true=>simp[hy]
  |false=>
   simp only[List.cons_append,List.takeWhile_cons,hy,Bool.not_false,if_true,List.length_cons,List.any_cons,Bool.false_or,ih]
   cases l.any (fun n=>n.Seen)<;>cases x.Seen<;>simp
theorem aMp {l:List D.aAP}{F:(Int×Int→Option Int)→Int×Int→Option Int}(hF:∀rec (k:Int) (i:Nat) (hi:i<l.length),F rec (k,(i:Int))=rec (bif l[i].Seen then(i:Int) else k,(i:Int)-1))(hE:∀rec k,F rec (k,-1)=some k):
  ∀(n m:Nat) (k:Int),n≤l.length→n<m→EV.bM m F (k,(n:Int)-1)=some (bif (l.take n).any (fun x=>x.Seen) then(aS8 (l.take n):Int) else k)
 |0,m+1,k,_,_=>by rw[jJ,show((0:Nat):Int)-1= -1 from rfl,hE];simp
 |n+1,m+1,k,h,hm=>by
  have hn:n<l.length:=by omega
  rw[jJ,show((n+1:Nat):Int)-1=(n:Int) by omega,hF _ _ n hn,aMp hF hE n m _ (by omega) (by omega),List.take_add_one,List.getElem?_eq_getElem hn]
  simp only[Option.toList_some,List.any_append,aXn,List.any_cons,List.any_nil,Bool.or_false,List.length_take,Nat.min_eq_left (Nat.le_of_lt hn)]
  cases(l.take n).any (fun x=>x.Seen)<;>cases l[n].Seen<;>rfl
theorem aQ8 (l:List D.aAP):(qR l:Int)=bif l.any (fun x=>x.Seen) then(aS8 l:Int) else 0:=by
 unfold qR aS8;cases l.any (fun n=>n.Seen)<;>rfl
theorem aQ9 {l:List D.aAP}(h:0<l.length):qR l<l.length:=by
 unfold qR
 cases hs:l.any (fun n=>n.Seen) with
 |false=>exact h
 |true=>
  obtain⟨x,hx,hp⟩:=List.any_eq_true.1 hs
  have:∀l:List D.aAP,x∈l→(l.takeWhile fun n=> !n.Seen).length<l.length:=by
   intro l
   induction l with
   |nil=>intro h;cases h
   |cons y l ih=>
    intro h
    cases hy:y.Seen with
    |true=>simp[hy]
    |false=>
     rcases List.mem_cons.1 h with rfl|h
     ·rw[hp] at hy;cases hy
     ·simpa[hy] using ih h
  exact this l hx
theorem bDn {τ S:Type}{l:List D.aAP}(fin:Int→Option τ)(st:Nat→S){F:(S→Option τ)→S→Option τ}(hl:l.length≤34359738368)(hF:∀rec i (hi:i<l.length),F rec (st i)=bif l[i].Seen then fin (i:Int) else rec (st (i+1)))(hE:∀rec,F rec (st l.length)=fin 0):EV.bM FUEL F (st 0)=fin (qR l:Int):=by
 have e:=R9 (l:=l) (fun n=> !n.Seen) (fun i=>bif decide (i<l.length) then fin (i:Int) else fin 0) st (F:=F) hl (fun rec i hi=>by
  rw[hF rec i hi,decide_eq_true hi];cases l[i].Seen<;>rfl) (fun rec=>by rw[hE,decide_eq_false (by omega)];rfl)
 rw[e,aQ8]
 cases hs:l.any (fun n=>n.Seen) with
 |true=>
  have h0:0<l.length:=by cases l with|nil=>simp at hs|cons=>simp
  have:=aQ9 h0
  unfold qR at this
  rw[hs,cond_true] at this
  rw[decide_eq_true this];rfl
 |false=>
  have hh:∀l:List D.aAP,l.any (fun n=>n.Seen)=false→(l.takeWhile fun n=> !n.Seen).length=l.length:=by
   intro l
   induction l with
   |nil=>intro _;rfl
   |cons x l ih=>
    intro h
    simp only[List.any_cons,Bool.or_eq_false_iff] at h
    simp[h.1,ih h.2]
  have this:=hh l hs
  rw[this,decide_eq_false (by omega)];rfl
theorem bAz {e:Int}{d:List Int}{i:Nat}{l:List Int}(h:(dZ e d i l).2=false):dZ e d i l=([],false):=by
 cases l with
 |nil=>cases h
 |cons p l=>
  unfold dZ at*
  cases hc:(eP p (IntKind.i64.wrap (e+(i:Int))) d).2&&(dZ e d (i+1) l).2 with
  |true=>rw[hc] at h;cases h
  |false=>rfl
theorem bG4 {s:D.Site}{i:Int}(hz:s.sz≤34359738300)(h:decide (aQ s i<0)=false):bA s.Accounts (aQ s i)=some (s.Accounts.getD (aQ s i).toNat default)∧(s.Accounts.getD (aQ s i).toNat default).sz≤34359738300∧(aQ s i).toNat<s.Accounts.length:=by
 have hr:=aCc (p:=fun a:D.aAG=>a.Id==i) (i:=0) (l:=s.Accounts) h
 have hi:(aQ s i).toNat<s.Accounts.length:=by unfold aQ;omega
 have h1:=aOe (f:=D.aAG.sz) hi
 refine⟨zJ (by unfold aQ;omega) (by unfold aQ;omega),?_,hi⟩
 simp only[D.Site.sz] at hz;omega
def pV (d:D.Device)(log:List D.aAB)(key:Int):D.Device×Bool:=bif !aT log||(!dI log d.Log||(decide (aN log<d.Epoch)|| !bJ key)) then(d,false) else({d with Log:=log,Key:=key,Epoch:=aN log,Version:=0},true)
def pW (a:D.aAG)(h:Int):Int:=iC (fun c=>c.Handle==h) 0 a.Credentials
def aGl (a:D.aAG)(k:Int):D.aAK:=a.Credentials.getD k.toNat default
def aGm (a:D.aAG)(h:Int):D.aAG×Bool:=bif !bC a||(decide (pW a h<0)||(aGl a (pW a h)).Cut) then(a,false) else({a with Credentials:=a.Credentials.set (pW a h).toNat {aGl a (pW a h) with Cut:=true}},true)
def aS9 (s:D.Site)(k:Int):D.aAG:=s.Accounts.getD k.toNat default
def aEv (h:Int)(s:D.Site):D.Site:=bif decide (aQ s 1≥0) then {s with Accounts:=s.Accounts.set (aQ s 1).toNat (aGm (aS9 s (aQ s 1)) h).1} else s
def bI (s e:Int):Int:=aK s [233,e]
def aOm (s:D.aAI)(l:List D.aAB):Int:=bI (aK s.Seed [311]) (aN l)
def aGn (w:D.World)(b:Int):D.World:=(eO w b 0).1
def bIp (w:D.World)(b t:Int):List D.aAB:=(kK (aGn w b).aAH.Log 2 (bN (cK w t).Store) (cK (aGn w b) b).Store).1
def S9 (w:D.World)(b t:Int):D.World×Bool:=kH (aGn w b) b 2 (bN (cK w t).Store) (aOm (cK (aGn w b) b).Store)
def bA0 (w:D.World)(b t:Int):D.Device×Bool:=pV (cK (aGn w b) b) (bIp w b t) (aOm (cK (aGn w b) b).Store (bIp w b t))
def bDo (w:D.World)(b t:Int):D.World:={(S9 w b t).1 with Devices:=(S9 w b t).1.Devices.set b.toNat (aOl (bA0 w b t).1 t true),Sites:=(S9 w b t).1.Sites.map (aEv t)}
def aXo (w:D.World)(b t:Int):D.World×Bool:=upF (bDo w b t) b
def aVg (w:D.World)(b t:Int):D.World×Bool:=bif (S9 w b t).2&&((bA0 w b t).2&&(aXo w b t).2) then(aCd (aXo w b t).1 4,true) else(w,false)
def aEw (w:D.World)(b t:Int):D.World×Bool:=bif (eO w b 0).2==0&&(!aOj w b&&(!(b==t)&&aU2 w t)) then aVg w b t else(w,false)
theorem bA1 (d:D.Device)(l:List D.aAB)(k:Int):(pV d l k).1.sz≤d.sz+l.length:=by
 unfold pV
 cases !aT l||(!dI l d.Log||(decide (aN l<d.Epoch)|| !bJ k)) with
 |true=>simp only[cond_true];omega
 |false=>simp only[cond_false,D.Device.sz];omega
--needs aAR aAS aAO
def aGo (s:D.aAI):Bool:=aW s.Vendor 1 9&&(aW s.Serial 0 1000000&&(bJ s.Seed&&aW s.Counter 0 1000000))
def bEu (s:D.aAI):D.aAI:={s with Counter:=IntKind.i64.wrap (s.Counter+1)}
def iP (s:D.aAI)(site:ByteArray)(h:Int)(m:List Int):D.aAI×Int×Bool:=bif aGo s&& !(s.Counter==1000000) then(bEu s,zG (fK s site h) (m++[(bEu s).Counter]),true) else(s,0,false)
def iW (a:D.aAR):List Int:=[199,bT a.Site,zD 211 a.aAS,a.aAO,a.Handle,bif a.Present then 1 else 0]
def bEv (j:Int):D.aAS:=⟨true,⟨#[119,119,119,46]⟩++aD j,443⟩
def bA2 (j:Int):D.aAS:=⟨true,⟨#[108,111,103,105,110,46]⟩++aD j++⟨#[46,101,118,105,108,46,110,101,116]⟩,443⟩
def bEw (j:Int):D.aAS:=⟨true,aD j,443⟩
def bIq (k:Nat):D.aAS:=match k with|0=>bEv 0|1=>bEv 1|2=>bEw 0|3=>bEw 1|4=>bA2 0|_=>bA2 1
def bIr:List UInt8→List UInt8→Bool
 |[],b=>b==[]
 |x::a,b=>b==x::a||bIr a b
def aVh (o:D.aAS)(z:ByteArray):Bool:=bIr (46::o.Host.data.toList) (46::z.data.toList)
def bEx (o:D.aAS)(s:ByteArray):Prop:=(∃k:Nat,k<6∧o=bIq k)∧∃j:Int,(j=0∨j=1)∧s=aD j
noncomputable instance (o:D.aAS) (s:ByteArray):Decidable (bEx o s):=Classical.propDecidable _
def bEy (o:D.aAS):Prop:=∃k:Nat,k<6∧o=bIq k
theorem bEy.p {o:D.aAS}(h:bEy o){j:Int}(hj:j=0∨j=1):bEx o (aD j):=⟨h,j,hj,rfl⟩
def bA3 (o:D.aAS):ByteArray:=⟨#[104,116,116,112,115,58,47,47]⟩++o.Host
def aGp (s:D.aAI)(o:D.aAS)(site:ByteArray)(h ch:Int)(p:Bool):D.aAR:=⟨site,bA3 o,ch,h,p,0,0⟩
def bKc:D.aAR:=⟨⟨#[]⟩,⟨#[]⟩,0,0,false,0,0⟩
def tN (s:D.aAI)(o:D.aAS)(site:ByteArray)(h ch:Int)(p:Bool):D.aAI×D.aAR×Bool:=bif aVh o site&&(iP s site h (iW (aGp s o site h ch p))).2.2 then((iP s site h (iW (aGp s o site h ch p))).1,{aGp s o site h ch p with Counter:=(iP s site h (iW (aGp s o site h ch p))).1.Counter,Signature:=(iP s site h (iW (aGp s o site h ch p))).2.1},true) else(s,bKc,false)
def wB (m:Int):Nat→Int→Int→Int→Int
 |0,_,_,s=>s
 |k+1,b,n,s=>if n>0 then wB m k ((IntKind.i64.wrap (b*b)).tmod m) (n/2) (bif n%2==1 then(IntKind.i64.wrap (s*b)).tmod m else s) else s
def fB (x:Int):Bool:=aW x 1 2038&&wB 2039 11 x 1019 1==1
def cO (g n:Int):Int:=bif fB g then wB 2039 11 g (aZ n 1019) 1 else 0
def nL (l v:Int):Int:=cO 4 (IntKind.i64.wrap (1+((IntKind.i64.wrap (aX l [89,v]*aX l [89,v])).tmod 2147483647).tmod 1018))
def wQ (s l i:Int):Int:=cO (nL l i) s
def jT (e l:Int):Int:=gG (aX e [157,l])
def Eb (k m:Int):Int:=bif aW k 0 2147483647 then aWe .i64 k (aK m [251]) else 0
def mI (o s:Int):Int:=aX o [257,s]
def uK (c:Int)(l:List Int)(n:Int):List D.aAM:=bif aW n 1 7&&decide ((l.length:Int)<n) then(List.range n.toNat).map fun(i:Nat)=>⟨(i:Int)+1,iD c l ((i:Int)+1)⟩ else[]
def Yf (k:D.aAQ):D.aAA:=⟨k,[],fQ k⟩
def Yg (pin salt key secret limit:Int):Bool:=aW pin 0 9999&&(aW salt 0 1000000&&(bJ key&&(!(aZ secret 1019==0)&&aW limit 1 10)))
def Cu (pin salt key secret:Int)(cs:List Int)(n limit:Int):D.aAL×List D.aAA×Bool:=
 bif Yg pin salt key secret limit&& !((uK secret cs n).length==0) then(⟨salt,IntKind.i64.wrap ((cs.length:Int)+1),mI (jT (wQ secret salt pin) salt) salt,Eb key (jT (wQ secret salt pin) salt)⟩,(uK secret cs n).map (fun s=>Yf ⟨s,0,0,limit⟩),true) else(⟨0,0,0,0⟩,[],false)
def dK (log:List D.aAB)(bx:D.aAD):D.aAH×Bool:=bif aT log&&iO bx log then(⟨log,bx,[]⟩,true) else(⟨[],⟨0,[]⟩,[]⟩,false)
def nM (id:Int)(l:List D.aAG):Nat:=(l.takeWhile fun a=>decide (a.Id<id)).length
def mD (s:D.Site)(id m:Int):D.Site:={s with Accounts:=s.Accounts.take (nM id s.Accounts)++[⟨id,m,[]⟩]++s.Accounts.drop (nM id s.Accounts)}
def kT (s:D.Site)(id m:Int):D.Site×Bool:=bif dQ s&&dQ (mD s id m) then(mD s id m,true) else(s,false)
def qH (nm:ByteArray):Nat→List D.Device→D.Site→D.Site
 |_,[],s=>s
 |i,d::l,s=>qH nm (i+1) l (iA s 1 (i:Int) (fF d.Store nm (i:Int))).1
def Iu (seed:Int)(l:List D.Device)(j:Int):D.Site:=qH (aD j) 0 l (kT (eH (aD j) (aK seed [281,j])) 1 3).1
def uL (l:List D.Device)(seed:Int):List D.Site:=[Iu seed l 0,Iu seed l 1]
def aM (seed:Int):Nat→List D.aAB
 |0=>[]
 |n+1=>(kK (aM seed n) 1 (bN (aJ seed (n:Int))) (aJ seed 0)).1
def bO (seed:Int)(n:Nat):List D.Device:=(List.range n).map fun(i:Nat)=>bQ (aJ seed (i:Int))
def zO (nm:ByteArray):Nat→D.Device→D.Device
 |0,d=>d
 |i+1,d=>(gZ (zO nm i d) nm (i:Int) false).1
def dY (seed:Int)(n:Nat):D.aAD:=(bH (aM seed n) (bI seed 0) 1000).1
def qU (seed:Int)(n:Nat)(d:D.Device):D.Device:=(pV d (aM seed n) (bI seed 0)).1
def jD (seed:Int)(n:Nat):D.Device:=zO (aD 1) n (zO (aD 0) n (qU seed n (bQ (aJ seed 0))))
def nwW (seed:Int)(n:Nat):D.Device×D.aAC×Bool:=fA (jD seed n)
def fU (seed:Int)(n:Nat):D.aAH:=(dR (dK (aM seed n) (dY seed n)).1 (nwW seed n).2.1).1
def Cw (seed:Int)(n:Nat)(d:D.Device):D.Device:=(dA (qU seed n d) (aM seed n) (dY seed n) (nwW seed n).2.1).1
def gN (seed:Int)(n:Nat):List D.Device:=(nwW seed n).1::((bO seed n).drop 1).map (Cw seed n)
def lU (seed t:Int):List Int:=(List.range (t-1).toNat).map fun(k:Nat)=>aK seed [307,(k:Int)+1]
def wR (seed t pin k:Int):D.aAL×List D.aAA×Bool:=Cu pin 7 (aK seed [283]) (IntKind.i64.wrap (1+(aK seed [293]).tmod 1018)) (lU seed t) k 5
def aGq (n k t pin seed:Int):Bool:=aW n 1 3&&(aW k 1 7&&(aW t 1 k&&(aW pin 0 9999&&bJ seed)))
def bDp:D.World:=⟨0,0,[],[],⟨[],⟨0,[]⟩,[]⟩,[],⟨0,0,0,0⟩,[],0,⟨[]⟩⟩
def aV (n k t pin seed:Int):D.World:=bif aGq n k t pin seed then⟨0,seed,gN seed n.toNat,List.replicate n.toNat false,fU seed n.toNat,uL (bO seed n.toNat) seed,(wR seed t pin k).1,(wR seed t pin k).2.1,pin,⟨[]⟩⟩ else bDp
theorem aTa {l:List Int}(h:l.Nodup)(e:D.aAB):(gX l e).Nodup:=by
 unfold gX
 cases e.Kind==1 with
 |true=>
  simp only[cond_true]
  cases hc:l.contains e.Device with
  |true=>exact h
  |false=>
   simp only[cond_false]
   rw[List.nodup_append]
   refine⟨h,by simp,fun a ha b hb e'=> ?_⟩
   simp at hb;subst hb;subst e'
   have:l.contains e.Device=true:=by simpa using ha
   rw[hc] at this;cases this
 |false=>
  simp only[cond_false]
  cases e.Kind==2 with
  |true=>exact h.filter _
  |false=>exact h
theorem aTb (log:List D.aAB):(aB log).Nodup:=by
 have key:∀(l:List D.aAB) (s:List Int),s.Nodup→(l.foldl gX s).Nodup:=by
  intro l
  induction l with
  |nil=>exact fun _ h=>h
  |cons e l ih=>exact fun s h=>ih _ (aTa h e)
 exact key log [] List.nodup_nil
theorem aRa {e:Int}{d:List Int}:∀{i:Nat} {l:List Int},(dZ e d i l).2=true→(dZ e d i l).1.map (fun b=>b.To)=l
 |_,[],_=>rfl
 |i,p::l,h=>by
  simp only[dZ] at h ⊢
  cases hc:(eP p (IntKind.i64.wrap (e+(i:Int))) d).2&&(dZ e d (i+1) l).2 with
  |false=>rw[hc] at h;cases h
  |true=>
   rw[Bool.and_eq_true] at hc
   simp only[cond_true,List.map_cons,aRa hc.2]
   have:(eP p (IntKind.i64.wrap (e+(i:Int))) d).1.To=p:=by
    have h1:=hc.1
    unfold eP at h1 ⊢
    cases hq:dW p==0||(!bJ (IntKind.i64.wrap (e+(i:Int)))||decide ((d.length:Int)>200)) with
    |true=>rw[hq] at h1;cases h1
    |false=>rfl
   rw[this]
theorem aMq:∀{l:List D.Box} {d:Int} {s:Int},(l.map fun b=>b.To).Nodup→0≤s→s<1000→l.foldl (fun n b=>bif b.To==d then IntKind.i64.wrap (n+1) else n) s=s+(if d∈l.map (fun b=>b.To) then 1 else 0)
 |[],d,s,_,_,_=>by simp
 |b::l,d,s,h,h0,h1=>by
  rw[List.map_cons,List.nodup_cons] at h
  rw[List.foldl_cons]
  cases hc:b.To==d with
  |true=>
   have hd:b.To=d:=by simpa using hc
   have hn:d∉l.map (fun b=>b.To):=hd▸h.1
   have hw:IntKind.i64.wrap (s+1)=s+1:=aG (by omega) (by omega)
   have key:∀(l:List D.Box) (s:Int),d∉l.map (fun b=>b.To)→l.foldl (fun n b=>bif b.To==d then IntKind.i64.wrap (n+1) else n) s=s:=by
    intro l
    induction l with
    |nil=>exact fun _ _=>rfl
    |cons x l ih=>
     intro s hx
     simp only[List.map_cons,List.mem_cons,not_or] at hx
     have:(x.To==d)=false:=by simpa using fun e=>hx.1 e.symm
     rw[List.foldl_cons,this,cond_false]
     exact ih s hx.2
   rw[cond_true,key l _ hn,hw,List.map_cons,if_pos (by simp[hd])]
  |false=>
   have hd:¬b.To=d:=by simpa using hc
   rw[cond_false,aMq h.2 h0 h1,List.map_cons]
   have:(d∈b.To::l.map fun b=>b.To)↔d∈l.map fun b=>b.To:=by rw[List.mem_cons];exact⟨fun h=>h.resolve_left fun e=>hd e.symm, .inr⟩
   simp only[this]
theorem aJ4 {log:List D.aAB}{k e:Int}(h:(bH log k e).2=true):iO (bH log k e).1 log=true:=by
 unfold bH at h ⊢
 cases hc: !aT log||(!bJ k|| !(dZ e (jY [aN log,k]) 0 (aB log)).2) with
 |true=>rw[hc] at h;cases h
 |false=>
  simp only[Bool.or_eq_false_iff,Bool.not_eq_false'] at hc
  have ht:=aRa hc.2.2
  have hl:=congrArg List.length ht
  rw[List.length_map] at hl
  simp only[cond_false,iO,nK,Bool.and_eq_true,beq_iff_eq,List.all_eq_true,hl,and_self,true_and,beq_self_eq_true]
  intro d hd
  rw[aMq (by rw[ht];exact aTb log) (by omega) (by omega),ht,if_pos hd];rfl
theorem aXp {log:List D.aAB}{k e:Int}(h:(bH log k e).2=false):(bH log k e).1=⟨0,[]⟩:=by
 unfold bH at h ⊢
 cases hc: !aT log||(!bJ k|| !(dZ e (jY [aN log,k]) 0 (aB log)).2) with
 |true=>rfl
 |false=>rw[hc] at h;cases h
theorem aMr {d:D.Device}{log:List D.aAB}{bx:D.aAD}{s:D.aAC}(h:(mH d log bx s==0)=false):(dA d log bx s).1=d:=by
 unfold dA;rw[h];rfl
theorem bA4 (d:D.Device)(bx:D.aAD)(s:D.aAC):(dA d [] bx s).1=d:=aMr rfl
theorem bG5 (s:D.aAI):(bY s ⟨0,[]⟩).2=false:=rfl
theorem aTc {log:List D.aAB}{key e:Int}{s:D.aAC}(hs:s=⟨0,0,[],0⟩∨s.Epoch=aN log)(d:D.Device):
  (dA d (dR (dK log (bH log key e).1).1 s).1.Log (dR (dK log (bH log key e).1).1 s).1.Boxes (gI (dR (dK log (bH log key e).1).1 s).1 0).1).1=(dA d log (bH log key e).1 s).1:=by
 cases hc:aT log&&iO (bH log key e).1 log with
 |true=>
  have e1:(dK log (bH log key e).1).1=⟨log,(bH log key e).1,[]⟩:=by unfold dK;rw[hc];rfl
  rw[e1]
  cases hq:s.Epoch !=aN log with
  |true=>
   have hs':s=⟨0,0,[],0⟩:=by
    rcases hs with h|h
    ·exact h
    ·rw[h] at hq;simp at hq
   have e2:(dR ⟨log,(bH log key e).1,[]⟩ s).1=⟨log,(bH log key e).1,[]⟩:=by
    unfold dR;rw[show(D.aAH.mk log (bH log key e).1 []).Log=log from rfl,hq];rfl
   rw[e2,hs'];rfl
  |false=>
   have e2:(dR ⟨log,(bH log key e).1,[]⟩ s).1=⟨log,(bH log key e).1,[s]⟩:=by
    unfold dR;rw[show(D.aAH.mk log (bH log key e).1 []).Log=log from rfl,hq];rfl
   rw[e2];rfl
 |false=>
  have e1:(dK log (bH log key e).1).1=⟨[],⟨0,[]⟩,[]⟩:=by unfold dK;rw[hc];rfl
  have e2:(dR (dK log (bH log key e).1).1 s).1.Log=[]:=by rw[(pU _ _).2,e1]
  rw[e2,bA4]
  refine(aMr ?_).symm
  cases hl:aT log with
  |false=>simp only[mH,hl,Bool.not_false,Bool.true_or,cond_true];rfl
  |true=>
   rw[hl,Bool.true_and] at hc
   have hm:(bH log key e).2=false:=by
    cases hm:(bH log key e).2 with
    |false=>rfl
    |true=>rw[aJ4 hm] at hc;cases hc
   rw[aXp hm]
   simp only[mH,hl,bG5,Bool.not_true,Bool.false_or,Bool.not_false,Bool.or_true,cond_true]
   cases !dI log d.Log with
   |true=>rfl
   |false=>
    simp only[cond_false]
    cases !fV (aB log) (bN d.Store)<;>rfl
theorem Yh (nm:ByteArray):∀(i:Nat) (d:D.Device),(zO nm i d).sz≤d.sz+i
 |0,d=>Nat.le_refl _
 |i+1,d=>by have h1:=Yh nm i d;have h2:=R7 (zO nm i d) nm (i:Int) false;show(gZ (zO nm i d) nm (i:Int) false).1.sz≤_;omega
theorem mP (seed:Int):∀n:Nat,(aM seed n).length≤n
 |0=>Nat.le_refl _
 |n+1=>by have h1:=mP seed n;have h2:=aGk (aM seed n) 1 (bN (aJ seed (n:Int))) (aJ seed 0);show(kK (aM seed n) 1 (bN (aJ seed (n:Int))) (aJ seed 0)).1.length≤_;omega
theorem aEx (seed:Int)(n:Nat)(d:D.Device):(qU seed n d).sz≤d.sz+n:=by
 have h1:=bA1 d (aM seed n) (bI seed 0);have h2:=mP seed n;show(pV d (aM seed n) (bI seed 0)).1.sz≤_;omega
theorem T9 (s:D.aAI):(bQ s).sz=0:=rfl
theorem aGr (seed:Int)(n:Nat):(jD seed n).sz≤3*n:=by
 have h1:=Yh (aD 1) n (zO (aD 0) n (qU seed n (bQ (aJ seed 0))))
 have h2:=Yh (aD 0) n (qU seed n (bQ (aJ seed 0)))
 have h3:=aEx seed n (bQ (aJ seed 0))
 rw[T9] at h3
 unfold jD;omega
theorem aGs (seed:Int)(n:Nat):(dY seed n).sz≤13*n:=by
 have h1:=aMi (aM seed n) (bI seed 0) 1000;have h2:=mP seed n;unfold dY;omega
theorem aCe (log:List D.aAB)(bx:D.aAD):(dK log bx).1.sz≤log.length+bx.sz:=by
 unfold dK
 cases aT log&&iO bx log with
 |true=>simp only[cond_true,D.aAH.sz,D.aAD.sz,List.length_nil,List.map_nil,List.sum_nil];omega
 |false=>exact Nat.zero_le _
theorem aGt (seed:Int)(n:Nat):(fU seed n).sz≤14*n+501:=by
 have h1:=(pU (dK (aM seed n) (dY seed n)).1 (nwW seed n).2.1).1
 have h2:=aCe (aM seed n) (dY seed n)
 have h3:=aGs seed n
 have h4:=mP seed n
 have h5:=(Nj (jD seed n)).2
 have h5:(nwW seed n).2.1.Data.length≤500:=h5
 unfold fU;omega
theorem aXq (seed:Int)(n:Nat)(d:D.Device):(Cw seed n d).sz≤d.sz+2*n+20:=by
 have h1:=aGj (qU seed n d) (aM seed n) (dY seed n) (nwW seed n).2.1
 have h2:=aEx seed n d
 have h3:=mP seed n
 unfold Cw;omega
theorem aTd {α:Type}{f:α→Nat}{b:Nat}:∀{l:List α},(∀x∈l,f x≤b)→(l.map f).sum≤l.length*b
 |[],_=>Nat.zero_le _
 |x::l,h=>by
  have h1:=h x (by simp);have h2:=aTd (l:=l) (f:=f) (b:=b) fun y hy=>h y (by simp[hy])
  simp only[List.map_cons,List.sum_cons,List.length_cons,Nat.add_mul];omega
theorem Sd (nm:ByteArray):∀(i:Nat) (l:List D.Device) (s:D.Site),(qH nm i l s).sz≤s.sz+l.length
 |_,[],s=>Nat.le_refl _
 |i,d::l,s=>by
  have h1:=Sd nm (i+1) l (iA s 1 (i:Int) (fF d.Store nm (i:Int))).1
  have h2:=aMk s 1 (i:Int) (fF d.Store nm (i:Int))
  show(qH nm (i+1) l (iA s 1 (i:Int) (fF d.Store nm (i:Int))).1).sz≤_
  rw[List.length_cons];omega
theorem aGu (s:D.Site)(id m:Int):(kT s id m).1.sz≤s.sz+1:=by
 unfold kT
 cases dQ s&&dQ (mD s id m) with
 |false=>simp only[cond_false];omega
 |true=>
  have e:(s.Accounts.map D.aAG.sz).sum=((s.Accounts.take (nM id s.Accounts)).map D.aAG.sz).sum+((s.Accounts.drop (nM id s.Accounts)).map D.aAG.sz).sum:=by rw[←List.sum_append,←List.map_append,List.take_append_drop]
  have el:(s.Accounts.take (nM id s.Accounts)).length+(s.Accounts.drop (nM id s.Accounts)).length=s.Accounts.length:=by rw[←List.length_append,List.take_append_drop]
  simp only[cond_true,mD,D.Site.sz,List.length_append,List.map_append,List.sum_append,List.length_cons,List.length_nil,List.map_cons,List.map_nil,List.sum_cons,List.sum_nil,D.aAG.sz]
  omega
theorem aCf (nm:ByteArray)(s:Int):(eH nm s).sz≤nm.size:=by
 unfold eH
 cases iN nm s with
 |true=>simp[D.Site.sz]
 |false=>exact Nat.zero_le _
theorem aCg (seed:Int)(l:List D.Device)(j:Int):(Iu seed l j).sz≤l.length+101:=by
 have h1:=Sd (aD j) 0 l (kT (eH (aD j) (aK seed [281,j])) 1 3).1
 have h2:=aGu (eH (aD j) (aK seed [281,j])) 1 3
 have h3:=aCf (aD j) (aK seed [281,j])
 have h4:(aD j).size≤100:=by unfold aD;cases j==0<;>cases j==1<;>decide
 unfold Iu;omega
theorem aMs (c:Int)(l:List Int)(n:Int):(uK c l n).length≤7:=by
 unfold uK
 cases hc:aW n 1 7&&decide ((l.length:Int)<n) with
 |false=>exact Nat.zero_le _
 |true=>
  rw[Bool.and_eq_true] at hc
  have:=gM hc.1
  simp only[cond_true,List.length_map,List.length_range];omega
theorem aOn (pin salt key secret:Int)(cs:List Int)(n limit:Int):(Cu pin salt key secret cs n limit).2.1.length≤7∧((Cu pin salt key secret cs n limit).2.1.map D.aAA.sz).sum=0:=by
 unfold Cu
 cases Yg pin salt key secret limit&& !((uK secret cs n).length==0) with
 |false=>exact⟨Nat.zero_le _,rfl⟩
 |true=>
  refine⟨by simp only[cond_true,List.length_map];exact aMs _ _ _,?_⟩
  have:=aTd (f:=D.aAA.sz) (b:=0) (l:=(uK secret cs n).map fun s=>Yf ⟨s,0,0,limit⟩) (fun x hx=>by obtain⟨s,_,rfl⟩:=List.mem_map.1 hx;exact Nat.le_refl _)
  simp only[cond_true];omega
theorem aRb (n k t pin seed:Int):(aV n k t pin seed).sz≤100000:=by
 unfold aV
 cases hc:aGq n k t pin seed with
 |false=>exact Nat.zero_le _
 |true=>
  simp only[aGq,Bool.and_eq_true] at hc
  have hn:=gM hc.1
  obtain⟨N,hN⟩:∃N,N=n.toNat:=⟨_,rfl⟩
  have hN3:N≤3:=by omega
  have h1:=Nj (jD seed N)
  have h2:=aGr seed N
  have h3:=aGt seed N
  have h4:=aCg seed (bO seed N) 0
  have h5:=aCg seed (bO seed N) 1
  have h6:=aOn pin 7 (aK seed [283]) (IntKind.i64.wrap (1+(aK seed [293]).tmod 1018)) (lU seed t) k 5
  have h7:(bO seed N).length=N:=by simp[bO]
  have h8:=aTd (f:=D.Device.sz) (b:=26) (l:=((bO seed N).drop 1).map (Cw seed N)) (fun x hx=>by
   obtain⟨d,hd,rfl⟩:=List.mem_map.1 hx
   have hd':=List.mem_of_mem_drop hd
   simp only[bO,List.mem_map] at hd'
   obtain⟨i,_,rfl⟩:=hd'
   have:=aXq seed N (bQ (aJ seed (i:Int)))
   rw[T9] at this;omega)
  have h9:(nwW seed N).1.sz=(jD seed N).sz:=h1.1
  have h6':(wR seed t pin k).2.1.length≤7∧((wR seed t pin k).2.1.map D.aAA.sz).sum=0:=h6
  rw[List.length_map,List.length_drop,h7] at h8
  simp only[cond_true,←hN,D.World.sz,gN,uL,List.length_cons,List.length_map,List.length_drop,h7,List.map_cons,List.sum_cons,List.length_nil,List.map_nil,List.sum_nil,List.length_replicate,h9]
  have h10:(fU seed N).sz≤14*N+501:=h3
  have h11:(N-1)*26≤52:=Nat.mul_le_mul_right 26 (show N-1≤2 by omega)
  simp only[D.aAH.sz,D.aAD.sz] at h10
  omega
theorem aXr (d:D.Device)(n:ByteArray)(h:Int)(rm:Bool):(gZ d n h rm).1.Key=d.Key∧(gZ d n h rm).1.Epoch=d.Epoch:=by
 unfold gZ
 cases(wL d n h rm).2<;>exact⟨rfl,rfl⟩
theorem aOo (nm:ByteArray):∀(i:Nat) (d:D.Device),(zO nm i d).Key=d.Key∧(zO nm i d).Epoch=d.Epoch
 |0,d=>⟨rfl,rfl⟩
 |i+1,d=>by
  obtain⟨h1,h2⟩:=aOo nm i d;obtain⟨h3,h4⟩:=aXr (zO nm i d) nm (i:Int) false
  exact⟨h3.trans h1,h4.trans h2⟩
theorem aTe (seed:Int)(n:Nat):(jD seed n).Key=(qU seed n (bQ (aJ seed 0))).Key∧(jD seed n).Epoch=(qU seed n (bQ (aJ seed 0))).Epoch:=by
 obtain⟨h1,h2⟩:=aOo (aD 1) n (zO (aD 0) n (qU seed n (bQ (aJ seed 0))))
 obtain⟨h3,h4⟩:=aOo (aD 0) n (qU seed n (bQ (aJ seed 0)))
 exact⟨h1.trans h3,h2.trans h4⟩
theorem aTf {seed:Int}{n:Nat}(h:bJ (qU seed n (bQ (aJ seed 0))).Key=true):(qU seed n (bQ (aJ seed 0))).Epoch=aN (aM seed n):=by
 unfold qU pV at h ⊢
 cases hq: !aT (aM seed n)||(!dI (aM seed n) (bQ (aJ seed 0)).Log||(decide (aN (aM seed n)<(bQ (aJ seed 0)).Epoch)|| !bJ (bI seed 0))) with
 |true=>rw[hq] at h;exact absurd (show bJ 0=true from h) (by decide)
 |false=>rfl
theorem aXs (seed:Int)(n:Nat):(nwW seed n).2.1=⟨0,0,[],0⟩∨(nwW seed n).2.1.Epoch=aN (aM seed n):=by
 obtain⟨k1,k2⟩:=aTe seed n
 unfold nwW fA
 generalize jD seed n=d at k1 k2 ⊢
 cases hs:(wO d.Key d.Epoch (IntKind.i64.wrap (d.Version+1)) d.aAE).2 with
 |false=>exact .inl rfl
 |true=>
  refine .inr ?_
  simp only[cond_true]
  unfold wO at hs ⊢
  cases hc:bJ d.Key&&(aW d.Epoch 0 1000000&&aW (IntKind.i64.wrap (d.Version+1)) 0 1000000)&&aP d.aAE with
  |false=>rw[hc] at hs;cases hs
  |true=>
   simp only[Bool.and_eq_true] at hc
   show d.Epoch=_
   rw[k2]
   exact aTf (k1▸hc.1.1)
theorem bDq (seed:Int)(n:Nat)(d:D.Device):(dA (qU seed n d) (fU seed n).Log (fU seed n).Boxes (gI (fU seed n) 0).1).1=Cw seed n d:=aTc (aXs seed n) (qU seed n d)
def zP (f:Int→Int)(l:List Int)(j:Nat)(x:Int):Bool:=(l.take j).any fun q=>f q==f x
def mJ (s:D.aAM)(e:Int):Int:=bif fB e&&(!(e==1)&&aW s.Value 0 1018) then cO e s.Value else 0
def eQ (k:D.aAQ)(e:Int):D.aAQ×Int×Bool:=bif dX k&&(!(k.Guesses==k.Limit)&&(fB e&& !(e==1))) then({k with Guesses:=IntKind.i64.wrap (k.Guesses+1)},mJ k.aAM e,true) else(k,0,false)
def aTg (l:List D.aAQ):List D.aAQ:=bif decide ((l.length:Int)>30) then l.drop 1 else l
def jK (h:D.aAA)(e:Int):D.aAA×Int×Bool:=bif decide (fQ h.State<h.Monotonic)|| !(eQ h.State e).2.2 then(h,0,false) else(⟨(eQ h.State e).1,aTg (h.Saved++[h.State]),fQ (eQ h.State e).1⟩,(eQ h.State e).2.1,true)
def bZ (l i b:Int):Int:=bif aZ b 1019==0 then 0 else cO (nL l i) b
def yP (hs:List D.aAA)(ch:List Int)(i:Nat)(c:Int):Bool:=(decide (c<0)||decide (c≥(hs.length:Int)))||zP (fun q=>q) ch i c
def gJ (hs:List D.aAA)(ch:List Int):Bool:= !dJ (yP hs ch) 0 ch
def Iw (e:Int)(s:List D.aAA×List Int×List Int)(c:Int):List D.aAA×List Int×List Int:=
 (s.1.set c.toNat (jK (s.1.getD c.toNat default) e).1,bif (jK (s.1.getD c.toNat default) e).2.2 then s.2.1++[(jK (s.1.getD c.toNat default) e).1.State.aAM.Index] else s.2.1,bif (jK (s.1.getD c.toNat default) e).2.2 then s.2.2++[(jK (s.1.getD c.toNat default) e).2.1] else s.2.2)
def jE (hs:List D.aAA)(ch:List Int)(e:Int):List D.aAA×List Int×List Int:=ch.foldl (Iw e) (hs,[],[])
def oH (n:Int):Int:=bif aZ n 1019==0 then 0 else wB 1019 11 (aZ n 1019) 1017 1
def Yi (l:List Int)(k a w:Int)(j:Nat):Int:=bif (j:Int)==k then w else(IntKind.i64.wrap ((IntKind.i64.wrap (w*aZ (IntKind.i64.wrap (aZ a 1019-aZ (l.getD j 0) 1019)) 1019)).tmod 1019*oH (IntKind.i64.wrap (aZ (l.getD k.toNat 0) 1019-aZ (l.getD j 0) 1019)))).tmod 1019
def rO (l:List Int)(k a:Int):Int:=bif (decide (k<0)||decide (k≥(l.length:Int)))||dJ (zP (fun q=>aZ q 1019) l) 0 l then 0 else(List.range l.length).foldl (Yi l k a) 1
def gL (a b:Int):Int:=bif fB a&&fB b then(IntKind.i64.wrap (a*b)).tmod 2039 else 0
def lF (ix vs:List Int)(i:Nat)(x:Int):Bool:= !aW x 1 7||(!fB (vs.getD i 0)||zP (fun q=>q) ix i x)
def aVi (ix vs:List Int):Int:=(List.range vs.length).foldl (fun o i=>gL o (cO (vs.getD i 0) (rO ix (i:Int) 0))) 1
def jL (ix vs:List Int):Int×Bool:=bif (!(ix.length==vs.length)||ix.length==0)||dJ (lF ix vs) 0 ix then(0,false) else(aVi ix vs,true)
def Qo (c b:Int):Int:=bif aZ b 1019==0 then 0 else cO c (oH b)
def yQ (v:D.aAL)(o:Int):Int×Bool:=bif mI o v.Salt==v.Check then(Eb v.Masked o,true) else(0,false)
def fM (v:D.aAL)(hs:List D.aAA)(ch:List Int)(pin b:Int):List D.aAA×List Int×List Int:=jE hs ch (bZ v.Salt pin b)
def Yj (hs:List D.aAA)(ch:List Int)(pin b:Int):Bool:=gJ hs ch&&(!(aZ b 1019==0)&&aW pin 0 9999)
def lM (v:D.aAL)(hs:List D.aAA)(ch:List Int)(pin b:Int):List D.aAA×Int×Bool:=
 bif !Yj hs ch pin b then(hs,0,false) else
 bif decide ((ch.length:Int)<v.Threshold)||(decide ((fM v hs ch pin b).2.2.length<ch.length)|| !(jL (fM v hs ch pin b).2.1 (fM v hs ch pin b).2.2).2) then((fM v hs ch pin b).1,0,false) else
  ((fM v hs ch pin b).1,yQ v (jT (Qo (jL (fM v hs ch pin b).2.1 (fM v hs ch pin b).2.2).1 b) v.Salt))
def wT (v:D.aAL)(hs:List D.aAA)(ch:List Int)(pin b:Int)(i:Nat):D.aAA×Int×Bool:=jK (((ch.take i).foldl (Iw (bZ v.Salt pin b)) (hs,([]:List Int),([]:List Int))).1.getD (ch.getD i 0).toNat default) (bZ v.Salt pin b)
def mQ (v:D.aAL)(hs:List D.aAA)(ch:List Int)(pin b:Int)(n:Nat):List Int:=(List.range n).map fun i=>(wT v hs ch pin b i).1.State.aAM.Index
def mR (v:D.aAL)(hs:List D.aAA)(ch:List Int)(pin b:Int)(n:Nat):List Int:=(List.range n).map fun i=>(wT v hs ch pin b i).2.1
def aVj (v:D.aAL)(hs:List D.aAA)(ch:List Int)(pin b:Int):List Int:=mQ v hs ch pin b ch.length
def aVk (v:D.aAL)(hs:List D.aAA)(ch:List Int)(pin b:Int):List Int:=mR v hs ch pin b ch.length
def bA5 (v:D.aAL)(hs:List D.aAA)(ch:List Int)(pin b:Int):Bool:=Yj hs ch pin b&&(fM v hs ch pin b).2.2.length==ch.length
def aVl (v:D.aAL)(hs:List D.aAA)(ch:List Int)(pin b:Int):List D.aAA×Int×Bool×Bool:=((lM v hs ch pin b).1,(lM v hs ch pin b).2.1,(lM v hs ch pin b).2.2,bA5 v hs ch pin b)
def Yk (w:D.World):Int:=IntKind.i64.wrap (1+(aK w.Seed [313,w.Now]).tmod 1018)
def cB (w:D.World)(ch:List Int)(pin:Int):D.World×Int×Bool:=bif !bK w then(w,0,false) else
 (aCd {w with Hosts:=(lM w.aAL w.Hosts ch pin (Yk w)).1} 5,(lM w.aAL w.Hosts ch pin (Yk w)).2)
def mU (w:D.World):List Int:=(List.range (min w.aAL.Threshold ((w.Hosts.length:Int)+1)).toNat).map fun(i:Nat)=>(i:Int)
def jU (w:D.World)(pin:Int):D.World×Bool:=((cB w (mU w) pin).1,(cB w (mU w) pin).2.2)
theorem Yl {f:Int→Int}{l:List Int}{j:Nat}(hj:j<l.length)(hl:l.length≤1099511627776){τ:Type}(a b:τ){F:(Nat→Option τ)→Nat→Option τ}
  (hF:∀rec i (hi:i<j),F rec i=bif f (l[i]'(by omega))==f l[j] then some a else rec (i+1)) (hE:∀rec,F rec j=some b):EV.bM FUEL F 0=some (bif zP f l j l[j] then a else b):=by
 have hlen:(l.take j).length=j:=by rw[List.length_take];omega
 exact lD (l:=l.take j) (fun q=>f q==f l[j]) a b (by omega) (fun rec i hi=>by
  rw[hlen] at hi
  rw[hF rec i hi];simp) (fun rec=>by rw[hlen];exact hE rec)
theorem bA6 {p:Nat→Int→Bool}{l:List Int}{i:Nat}(hi:i<l.length)(h:dJ p 0 (l.take i)=false)(h2:p i l[i]=false):dJ p 0 (l.take (i+1))=false:=by
 rw[Bool.eq_false_iff,Ne,qP] at h ⊢
 rintro⟨k,hk,e⟩
 rw[List.length_take] at hk
 rw[Nat.zero_add,List.getElem_take] at e
 by_cases hki:k<i
 ·exact h ⟨k,by rw[List.length_take];omega,by rw[Nat.zero_add,List.getElem_take];exact e⟩
 ·have:k=i:=by omega
  subst this
  rw[h2] at e;cases e
theorem bG6 {p:Nat→Int→Bool}{l:List Int}{i:Nat}(hi:i<l.length)(h:p i l[i]=true):dJ p 0 l=true:=(qP l 0).2 ⟨i,hi,by rw[Nat.zero_add];exact h⟩
theorem bDr:((List.range 1019).all fun(x:Nat)=>x==0||((x:Int)*wB 1019 11 (x:Int) 1017 1)%1019==1&&aW (wB 1019 11 (x:Int) 1017 1) 1 1018)=true:=by kernel_rfl
theorem bA7 {x:Int}(h0:0<x)(h1:x<1019):(x*wB 1019 11 x 1017 1)%1019=1∧1≤wB 1019 11 x 1017 1∧wB 1019 11 x 1017 1≤1018:=by
 have:=List.all_eq_true.1 bDr x.toNat (List.mem_range.2 (by omega))
 rw[show((x.toNat:Nat):Int)=x by omega,beq_eq_false_iff_ne.2 (show x.toNat≠0 by omega),Bool.false_or,Bool.and_eq_true] at this
 have hr:=gM this.2
 exact⟨eq_of_beq this.1,hr.1,by omega⟩
theorem bA8 {x m n:Int}(hm:0≤m∧m<1019)(hn:0≤n∧n<1019)(h1:(x*m)%1019=1)(h2:(x*n)%1019=1):m=n:=by
 have e:n*(x*m)=m*(x*n):=by rw[←Int.mul_assoc,←Int.mul_assoc,Int.mul_comm n x,Int.mul_comm m x,Int.mul_assoc,Int.mul_assoc,Int.mul_comm n m]
 have a1:x*m=1+1019*(x*m/1019):=by omega
 have a2:x*n=1+1019*(x*n/1019):=by omega
 rw[a1,a2,Int.mul_add,Int.mul_add,Int.mul_one,Int.mul_one] at e
 have b1:n*(1019*(x*m/1019))=1019*(n*(x*m/1019)):=by rw[←Int.mul_assoc,Int.mul_comm n 1019,Int.mul_assoc]
 have b2:m*(1019*(x*n/1019))=1019*(m*(x*n/1019)):=by rw[←Int.mul_assoc,Int.mul_comm m 1019,Int.mul_assoc]
 rw[b1,b2] at e
 generalize n*(x*m/1019)=p at e
 generalize m*(x*n/1019)=q at e
 omega
theorem aTh {n:Int}:aZ n 1019=n%1019:=if_pos (by decide)
theorem aXt {n m:Int}(h:aZ n 1019=aZ m 1019):oH n=oH m:=by unfold oH;rw[h]
theorem aVm (h:D.aAA)(e:Int):(jK h e).1.sz≤h.sz+1:=by
 unfold jK
 cases decide (fQ h.State<h.Monotonic)|| !(eQ h.State e).2.2 with
 |true=>exact Nat.le_succ _
 |false=>
  simp only[cond_false,D.aAA.sz]
  unfold aTg
  cases decide (((h.Saved++[h.State]).length:Int)>30)<;>simp only[cond_true,cond_false,List.length_drop,List.length_append,List.length_cons,List.length_nil]<;>omega
def jP (e:Int)(hs:List D.aAA)(ch:List Int)(i:Nat):List D.aAA×List Int×List Int:=(ch.take i).foldl (Iw e) (hs,[],[])
theorem uM {e:Int}{hs:List D.aAA}{ch:List Int}{i:Nat}(hi:i<ch.length):jP e hs ch (i+1)=Iw e (jP e hs ch i) ch[i]:=by
 unfold jP
 rw[List.take_add_one,List.getElem?_eq_getElem hi,List.foldl_append];rfl
theorem bG7 {hs:List D.aAA}{h:D.aAA}(hm:h∈hs):h.sz≤lW D.aAA.sz hs:=by
 have:=aOc (g:=D.aAA.sz) hm
 unfold lW;omega
structure AskIn (B:Nat) (hs:List D.aAA) (i:Nat) (s:List D.aAA×List Int×List Int):Prop where
 len:s.1.length=hs.length
 sz:∀h∈s.1,h.sz≤B+i
 eq:s.2.1.length=s.2.2.length
 le:s.2.2.length≤i
theorem Nl {hs:List D.aAA}{ch:List Int}(h:gJ hs ch=true){i:Nat}(hi:i<ch.length):0≤ch[i]∧ch[i]<(hs.length:Int):=by
 unfold gJ at h
 rw[Bool.not_eq_true',Bool.eq_false_iff,Ne,qP] at h
 have h2:yP hs ch i ch[i]≠true:=fun e=>h ⟨i,hi,by rw[Nat.zero_add];exact e⟩
 have h2:=Bool.eq_false_iff.2 h2
 unfold yP at h2
 exact Cs (Bool.or_eq_false_iff.1 h2).1
theorem Iy {e:Int}{hs:List D.aAA}{ch:List Int}(h:gJ hs ch=true):∀i,i≤ch.length→AskIn (lW D.aAA.sz hs) hs i (jP e hs ch i)
 |0,_=>⟨rfl,fun h hm=>by have:h∈hs:=hm;have:=bG7 this;omega,rfl,Nat.le_refl _⟩
 |i+1,hi=>by
  obtain⟨h1,h2,h3,h4⟩:=Iy (e:=e) h i (by omega)
  have hc:=Nl h (i:=i) hi
  rw[uM hi]
  generalize jP e hs ch i=s at*
  have hk:ch[i].toNat<s.1.length:=by omega
  have hg:s.1.getD ch[i].toNat default=s.1[ch[i].toNat]:=by simp[List.getD,List.getElem?_eq_getElem hk]
  have hz:=h2 _ (List.getElem_mem hk)
  have ha:=aVm s.1[ch[i].toNat] e
  unfold Iw
  rw[hg]
  refine⟨by simp[h1],fun x hx=> ?_,?_,?_⟩
  ·rcases List.mem_or_eq_of_mem_set hx with hx|rfl
   ·have:=h2 x hx;omega
   ·omega
  ·cases(jK s.1[ch[i].toNat] e).2.2<;>simp[h3]
  ·cases(jK s.1[ch[i].toNat] e).2.2<;>simp<;>omega
theorem aGv (w:D.World):(mU w).length≤w.Hosts.length+1:=by
 unfold mU
 rw[List.length_map,List.length_range];omega
theorem aRc {α:Type}[Inhabited α]{f:α→Nat}{x:α}:∀{l:List α} {i:Nat},i<l.length→f x≤f (l.getD i default)+1→((l.set i x).map f).sum≤(l.map f).sum+1
 |y::l,0,_,h=>by
  simp only[List.getD,List.getElem?_cons_zero,Option.getD_some] at h
  simp only[List.set_cons_zero,List.map_cons,List.sum_cons];omega
 |y::l,i+1,hi,h=>by
  have:=aRc (f:=f) (l:=l) (i:=i) (x:=x) (by simpa using hi) (by simpa[List.getD] using h)
  simp only[List.set_cons_succ,List.map_cons,List.sum_cons];omega
theorem aVn {e:Int}{hs:List D.aAA}{ch:List Int}(h:gJ hs ch=true):∀i,i≤ch.length→((jP e hs ch i).1.map D.aAA.sz).sum≤(hs.map D.aAA.sz).sum+i
 |0,_=>Nat.le_refl _
 |i+1,hi=>by
  have ih:=aVn (e:=e) h i (by omega)
  have hin:=Iy (e:=e) h i (by omega)
  have hc:=Nl h (i:=i) hi
  rw[uM hi]
  generalize jP e hs ch i=s at*
  have hk:ch[i].toNat<s.1.length:=by have:=hin.len;omega
  have:=aRc (f:=D.aAA.sz) hk (aVm (s.1.getD ch[i].toNat default) e)
  unfold Iw
  simp only
  omega
theorem bDs (v:D.aAL)(hs:List D.aAA)(ch:List Int)(pin b:Int):(lM v hs ch pin b).1.length=hs.length∧((lM v hs ch pin b).1.map D.aAA.sz).sum≤(hs.map D.aAA.sz).sum+ch.length:=by
 unfold lM
 cases hm:Yj hs ch pin b with
 |false=>exact⟨rfl,Nat.le_add_right _ _⟩
 |true=>
  have hc:gJ hs ch=true:=by
   unfold Yj at hm
   rw[Bool.and_eq_true] at hm;exact hm.1
  have hs1:=aVn (e:=bZ v.Salt pin b) hc ch.length (Nat.le_refl _)
  have hs2:=(Iy (e:=bZ v.Salt pin b) hc ch.length (Nat.le_refl _)).len
  unfold jP at hs1 hs2
  rw[List.take_length] at hs1 hs2
  simp only[Bool.not_true,cond_false]
  cases decide ((ch.length:Int)<v.Threshold)||(decide ((fM v hs ch pin b).2.2.length<ch.length)|| !(jL (fM v hs ch pin b).2.1 (fM v hs ch pin b).2.2).2)<;>exact⟨hs2,hs1⟩
theorem bDt (w:D.World)(ch:List Int)(pin:Int):(cB w ch pin).1.sz≤w.sz+ch.length+1:=by
 unfold cB
 cases bK w with
 |false=>simp only[Bool.not_false,cond_true];omega
 |true=>
  obtain⟨q1,q2⟩:=bDs w.aAL w.Hosts ch pin (Yk w)
  have:=aVf {w with Hosts:=(lM w.aAL w.Hosts ch pin (Yk w)).1} 5
  simp only[Bool.not_true,cond_false]
  simp only[D.World.sz] at this ⊢
  omega
--needs aAR aAS aAO
def U0 (l:List Int):Prop:=okL (fun n:Int=>0≤n∧n≤255) l
noncomputable instance (l:List Int):Decidable (U0 l):=Classical.propDecidable _
def bA9 (l:List Int):Bool:=decide ((l.length:Int)>1048576)
def atF (l:List Int)(i:Int):Int:=bif decide (i<(l.length:Int)) then IntKind.i64.wrap (l.getD i.toNat 0) else(IntKind.i64.wrap (IntKind.i64.wrap (i*31)+IntKind.i64.wrap ((l.length:Int)*7))).tmod 256
def aXu (b:D.aAD):Prop:=∀x∈b.Boxes,aR x.Data
def rP (c:D.aAH):Prop:=aXu c.Boxes∧∀s∈c.History,aR s.Data
instance (b:D.aAD):Decidable (aXu b):=inferInstanceAs (Decidable (∀x∈b.Boxes,aR x.Data))
instance (c:D.aAH):Decidable (rP c):=inferInstanceAs (Decidable (_∧_))
theorem bBa {l:List Int}(h:U0 l)(hb:l.length≤1048576){i:Int}(h0:0≤i)(h1:i≤1000):0≤atF l i∧atF l i≤255:=by
 unfold atF
 by_cases hi:i<(l.length:Int)
 ·rw[decide_eq_true hi,cond_true,List.getD,List.getElem?_eq_getElem (show i.toNat<l.length by omega),Option.getD_some]
  have:=h.2 _ (List.getElem_mem (show i.toNat<l.length by omega))
  rw[aG (by omega) (by omega)];exact this
 ·rw[decide_eq_false hi,cond_false,aG (show-9223372036854775808≤i*31 by omega) (by omega),aG (show-9223372036854775808≤(l.length:Int)*7 by omega) (by omega),aG (by omega) (by omega)]
  have:=Int.tmod_nonneg (a:=i*31+(l.length:Int)*7) 256 (by omega)
  have:=Int.tmod_lt_of_pos (i*31+(l.length:Int)*7) (show(0:Int)<256 by decide)
  omega
end Go.VK
