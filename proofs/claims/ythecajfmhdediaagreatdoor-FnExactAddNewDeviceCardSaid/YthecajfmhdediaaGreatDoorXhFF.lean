import Derived.Test.YthecajfmhdediaaGreatDoorEWptor
import Derived.Test.YthecajfmhdediaaGreatDoorXhS
/- Printed by wip/tools: models, walks, proofs. -/
set_option linter.unusedVariables false
set_option linter.unusedSimpArgs false
set_option maxRecDepth 100000
set_option maxHeartbeats 4000000
namespace Go.VK
open Go.RowKit Go.Proofs
theorem aJe {h v:Int}(h0:0≤h)(h1:h<2147483647):0≤hstep h v∧hstep h v<2147483647:=by
 have hm:=bA7 (p:=v) (q:=2147483647) (by omega)
 unfold hstep
 generalize rA v 2147483647=z at*
 have e1:IntKind.i64.wrap (h*1000003)=h*1000003:=aR (by omega) (by omega)
 have e2:IntKind.i64.wrap (h*1000003+z)=h*1000003+z:=aR (by omega) (by omega)
 have e3:IntKind.i64.wrap (h*1000003+z+13)=h*1000003+z+13:=aR (by omega) (by omega)
 rw[e1,e2,e3]
 exact⟨Int.tmod_nonneg _ (by omega),Int.tmod_lt_of_pos _ (by decide)⟩
theorem aZt (l:List Int):0≤Bb l∧Bb l<2147483647:=by
 unfold Bb
 suffices ∀(l:List Int) (h:Int),0≤h→h<2147483647→0≤l.foldl hstep h∧l.foldl hstep h<2147483647 from this l 11 (by omega) (by omega)
 intro l
 induction l with
 |nil=>intro h h0 h1;exact⟨h0,h1⟩
 |cons x xs ih=>intro h h0 h1;exact ih _ (aJe h0 h1).1 (aJe h0 h1).2
theorem nN (k:Int)(l:List Int):0≤eQ k l∧eQ k l<2147483647:=aZt _
def bBx (a b:Int):Int:=bif decide (b>a) then b else a
def nO (a:List Int)(r:List (List Int)):List Int:=a++r.flatten
def Ga (n:Int):Int:=bif n==0 then 1 else n
def dY (n:Int):Bool:=dI n 1 2147483646
def sK (b:List Int):List Int:=[(b.length:Int)]++b.map IntKind.i64.wrap
def dD (seed:Int)(l:List Int):Int:=Ga (eQ seed ([151]++l))
def nP (k:Int)(s:ByteArray):Int:=Ga (eQ k (sK (bW s)))
def fT (p:Int):Int:=bif !(dY p) then 0 else(IntKind.i64.wrap (p*48271)).tmod 2147483647
def mQ (s:D.aAI):Int:=dD s.Seed [181]
def dV (s:D.aAI):Int:=fT (mQ s)
def jW (l:List Int)(x:Int):Bool:=l.any fun e=>e==x
def nQ (log:List D.aAB)(p:Int):Bool:=log.any fun e=>e.Kind==2&&e.Device==p
def lM (s:List Int)(e:D.aAB):List Int:=
 bif e.Kind==1 then(bif s.contains e.Device then s else s++[e.Device]) else bif e.Kind==2 then s.filter (fun d=>d !=e.Device) else s
def aL (log:List D.aAB):List Int:=log.foldl lM []
def bR (log:List D.aAB):Int:=log.foldl (fun n e=>bif e.Kind==2 then IntKind.i64.wrap (n+1) else n) 0
def aJ (b:D.aAC)(site handle:Int):Int:=kD (fun e=>e.Site==site&&e.Handle==handle) 0 b.Entries
def bG (s:D.Site)(id:Int):Int:=kD (fun a=>a.Id==id) 0 s.Accounts
theorem aJf (s:List Int)(x:D.aAB):(lM s x).length≤s.length+1:=by
 unfold lM
 cases x.Kind==1 with
 |true=>cases s.contains x.Device<;>simp
 |false=>
  cases x.Kind==2 with
  |true=>have:=List.length_filter_le (fun d=>d !=x.Device) s;simp;omega
  |false=>simp
theorem gQ (log:List D.aAB):(aL log).length≤log.length:=by
 suffices ∀(l:List D.aAB) (s:List Int),(l.foldl lM s).length≤s.length+l.length from by simpa[aL] using this log []
 intro l
 induction l with
 |nil=>intro s;simp
 |cons x xs ih=>
  intro s
  simp only[List.foldl_cons,List.length_cons]
  have h1:=ih (lM s x)
  have h2:(lM s x).length≤s.length+1:=by
   unfold lM
   cases x.Kind==1 with
   |true=>cases s.contains x.Device<;>simp
   |false=>
    cases x.Kind==2 with
    |true=>have:=List.length_filter_le (fun d=>d !=x.Device) s;simp;omega
    |false=>simp
  omega
theorem aZu {n:Int}(h:0≤n):bBx 1 n=Ga n:=by
 unfold bBx Ga
 rcases(show n=0∨n=1∨n>1 by omega) with rfl|rfl|h1
 ·rfl
 ·rfl
 ·have:(n==0)=false:=by simp;omega
  simp[h1,this]
def fK (s:ByteArray):Int:=nP 173 s
def WOk (w:D.World):Prop:=w.Devices.length≤34359738368∧w.Stolen.length≤34359738368∧w.aAH.Log.length≤34359738368∧w.Sites.length≤34359738368
instance (w:D.World):Decidable (WOk w):=inferInstanceAs (Decidable (_∧_))
def bK (w:D.World)(d:Int):Bool:=decide (0≤d)&&decide (d<w.Devices.length)
theorem bE7 {w:D.World}(h:WOk w)(d:Int):dI d 0 (IntKind.i64.wrap ((w.Devices.length:Int)-1))=bK w d:=by
 have:=h.1
 rw[aR (by omega) (by omega)]
 unfold dI bK
 congr 1
 exact decide_eq_decide.2 (by omega)
def dC (w:D.World)(d:Int):D.Device:=w.Devices.getD d.toNat default
theorem Tu {w:D.World}{d:Int}(h:bK w d=true):aP w.Devices d=some (dC w d):=by
 simp only[bK,Bool.and_eq_true,decide_eq_true_eq] at h
 rw[uO h.1 (by omega)]
 simp[dC,List.getD,List.getElem?_eq_getElem (show d.toNat<w.Devices.length by omega)]
theorem WOk.of {w:D.World}(h:w.sz≤1048576):WOk w:=by
 simp only[D.World.sz,D.aAH.sz] at h
 unfold WOk
 omega
def aXn (k:Int)(i:Nat)(z:Int):Int:=IntKind.u8.wrap ((z-eQ k [(i:Int)])%256)
def aEa (k:Int)(b:List Int):List Int:=Ua (fun i z=>[aXn k i z]) 0 b
theorem aZv (x:Int):rA (IntKind.i64.wrap x) 256=x%256:=by
 rw[rA,if_pos (by omega),IntKind.wrap_i64];omega
theorem bG7 (k:Int)(i:Nat)(z:Int):IntKind.u8.wrap (rA (IntKind.i64.wrap (IntKind.i64.wrap z-eQ k [(i:Int)])) 256)=aXn k i z:=by
 rw[aZv,aXn,IntKind.wrap_i64];congr 1;omega
theorem bG8 (k:Int)(i:Nat)(z:Int):IntKind.u8.wrap (rA (IntKind.i64.wrap (IntKind.i64.wrap z-(eQ k [(i:Int)]).tmod 256)) 256)=aXn k i z:=by
 rw[aZv,aXn,IntKind.wrap_i64,Int.tmod_eq_emod_of_nonneg (nN _ _).1];congr 1;omega
theorem Nq {α β:Type}{y:Nat→α→β}:∀{i:Nat} {l:List α},(Ua (fun i x=>[y i x]) i l).length=l.length
 |i,[]=>rfl
 |i,x::xs=>by simp[Ua,Nq]
def fU (p e:Int):Int:=dD p [163,e]
def Ub (k:Int)(b:D.Box):Int:=eQ k ([167,b.To,b.Ephemeral]++sK b.Data)
def gI (p:Int)(b:D.Box):List Int×Bool:=
 bif !dY p||(b.To !=fT p||(!dY b.Ephemeral||decide ((b.Data.length:Int)>200))) then([],false)
 else bif b.MAC !=Ub (fU p b.Ephemeral) b then([],false) else(aEa (fU p b.Ephemeral) b.Data,true)
def iA:List D.Box→Int→List Int×Bool
 |[],_=>([],false)
 |b::bs,p=>bif (gI p b).2 then((gI p b).1,true) else iA bs p
def bA (b:List Int):Prop:=b.length≤34359738368∧b.all (fun z=>decide (0≤z)&&decide (z≤255))=true
instance (b:List Int):Decidable (bA b):=inferInstanceAs (Decidable (_∧_))
theorem rF {b:List Int}(h:bA b){i:Nat}(hi:i<b.length):0≤b[i]∧b[i]≤255:=by
 have:=List.all_eq_true.1 h.2 b[i] (List.getElem_mem hi)
 simpa using this
def uvG (b:List Int)(p:Nat):Nat→Nat→Int→Int×Int×Bool
 |0,_,_=>(0,0,false)
 |k+1,i,n=>
  if p+i<b.length then
   bif decide (b.getD (p+i) 0<128) then
    (bif (decide (0<i)&&b.getD (p+i) 0==0)||decide (n+b.getD (p+i) 0%128*128^i>1000000000000) then(0,0,false) else(n+b.getD (p+i) 0%128*128^i,((p+i+1:Nat):Int),true))
   else uvG b p k (i+1) (n+b.getD (p+i) 0%128*128^i)
  else(0,0,false)
def yG (b:List Int)(at_:Int):Int×Int×Bool:=if at_<0 then(0,0,false) else uvG b at_.toNat 6 0 0
theorem aXo {i:Nat}(h:i≤6):(1:Int)≤128^i∧(128:Int)^i≤4398046511104:=by
 match i,h with
 |0,_|1,_|2,_|3,_|4,_|5,_|6,_=>decide
theorem aXp {z n:Int}{i:Nat}(hi:i≤5)(hz:0≤z)(hn:0≤n)(hn':n<128^i):0≤n+z%128*128^i∧n+z%128*128^i<128^(i+1)∧0≤z%128*128^i∧z%128*128^i≤127*128^i:=by
 have hp:=aXo (i:=i) (by omega)
 have h1:0≤z%128*128^i:=Int.mul_nonneg (by omega) (by omega)
 have h2:z%128*128^i≤127*128^i:=Int.mul_le_mul_of_nonneg_right (by omega) (by omega)
 rw[Int.pow_succ]
 refine⟨by omega,by omega,h1,h2⟩
theorem bIy {z n:Int}{i:Nat}(hi:i≤5)(hz:0≤z)(hz':z≤255)(hn:0≤n)(hn':n<128^i):
  orI .i64 n (W9 .i64 (yI .i64 z 127) (IntKind.i64.wrap (7*(i:Int))))=n+z%128*128^i:=by
 obtain⟨m,rfl⟩:=Int.eq_ofNat_of_zero_le hz
 obtain⟨q,rfl⟩:=Int.eq_ofNat_of_zero_le hn
 have hp:=aXo (i:=i) (by omega)
 have hs:=aXp (z:=(m:Int)) (n:=(q:Int)) hi (by omega) (by omega) hn'
 have ha:yI .i64 (m:Int) 127=((m%128:Nat):Int):=by
  have e:((BitVec.ofInt 64 (m:Int))&&&(BitVec.ofInt 64 127)).toNat=m%128:=by
   rw[BitVec.toNat_and]
   have e1:(BitVec.ofInt 64 (m:Int)).toNat=m:=by
    rw[BitVec.toNat_ofInt];omega
   have e2:(BitVec.ofInt 64 127).toNat=2^7-1:=by decide
   rw[e1,e2,Nat.and_two_pow_sub_one_eq_mod]
  show IntKind.i64.wrap (((BitVec.ofInt 64 (m:Int))&&&(BitVec.ofInt 64 127)).toNat:Int)=_
  rw[e];exact aR (by omega) (by omega)
 have hw:IntKind.i64.wrap (7*(i:Int))=((7*i:Nat):Int):=by rw[aR (by omega) (by omega)];omega
 have hpn:(2:Nat)^(7*i)=128^i:=by rw[Nat.pow_mul]
 have hpi:((128^i:Nat):Int)=(128:Int)^i:=by simp
 have hb:W9 .i64 (yI .i64 (m:Int) 127) (IntKind.i64.wrap (7*(i:Int)))=((m%128*128^i:Nat):Int):=by
  rw[ha,hw]
  unfold W9
  rw[Int.toNat_natCast,show min (7*i) IntKind.i64.bits=7*i from Nat.min_eq_left (by simp[IntKind.bits];omega)]
  have e3:((m%128:Nat):Int)*2^(7*i)=((m%128*128^i:Nat):Int):=by
   rw[←hpn];simp
  rw[e3]
  have:((m%128*128^i:Nat):Int)=(m:Int)%128*128^i:=by simp
  rw[this]
  exact aR (by omega) (by omega)
 rw[hb]
 have hqlt:q<128^i:=by rw[←hpi] at hn';exact_mod_cast hn'
 have hor:(m%128*128^i)|||q=m%128*128^i+q:=by
  have:=Nat.shiftLeft_add_eq_or_of_lt (b:=q) (i:=7*i) (by rw[hpn];exact hqlt) (m%128)
  rw[Nat.shiftLeft_eq,hpn] at this
  exact this.symm
 have hle:m%128*128^i+q<2^63:=by
  have:((m%128*128^i+q:Nat):Int)=q+(m:Int)%128*128^i:=by simp;omega
  omega
 have e4:((BitVec.ofInt 64 (q:Int))|||(BitVec.ofInt 64 ((m%128*128^i:Nat):Int))).toNat=m%128*128^i+q:=by
  rw[BitVec.toNat_or]
  have e5:(BitVec.ofInt 64 (q:Int)).toNat=q:=by rw[BitVec.toNat_ofInt];omega
  have e6:(BitVec.ofInt 64 ((m%128*128^i:Nat):Int)).toNat=m%128*128^i:=by rw[BitVec.toNat_ofInt];omega
  rw[e5,e6,Nat.or_comm,hor]
 show IntKind.i64.wrap (((BitVec.ofInt 64 (q:Int))|||(BitVec.ofInt 64 ((m%128*128^i:Nat):Int))).toNat:Int)=_
 rw[e4,aR (by omega) (by omega)]
 simp
 omega
def jT (b:List Int):Nat→Int→List Int→List Int×Int×Bool
 |0,a,s=>(s,a,true)
 |k+1,a,s=>bif (yG b a).2.2 then jT b k (yG b a).2.1 (s++[(yG b a).1]) else([],0,false)
def iR (b:List Int)(a c:Int):List Int×Int×Bool:=bif !dI c 0 100|| !dI a 0 b.length then([],0,false) else jT b c.toNat a []
theorem aZw (b:List Int):∀(k:Nat) (a:Int) (s:List Int),(jT b k a s).2.2=true→(jT b k a s).1.length=s.length+k
 |0,a,s,_=>rfl
 |k+1,a,s,h=>by
  unfold jT at h ⊢
  cases hu:(yG b a).2.2 with
  |false=>rw[hu] at h;simp at h
  |true=>
   rw[hu] at h
   simp only[cond_true] at h ⊢
   rw[aZw b k _ _ h];simp;omega
theorem decode_len {b:List Int}{a c:Int}(hc:0≤c)(h:(iR b a c).2.2=true):(iR b a c).1.length=c.toNat:=by
 unfold iR at h ⊢
 cases hx:(!dI c 0 100|| !dI a 0 b.length) with
 |true=>rw[hx] at h;simp at h
 |false=>
  rw[hx] at h
  simp only[cond_false] at h ⊢
  rw[aZw _ _ _ _ h];simp
theorem aXq {k:Int}{b:List Int}(h:b.length≤34359738368):bA (aEa k b):=by
 refine⟨by unfold aEa;rw[Nq];exact h,?_⟩
 rw[List.all_eq_true]
 intro z hz
 have:∀(b:List Int) (i:Nat),z∈Ua (fun i z=>[aXn k i z]) i b→0≤z∧z≤255:=by
  intro b
  induction b with
  |nil=>intro i h;simp[Ua] at h
  |cons x xs ih=>
   intro i h
   simp only[Ua,List.mem_append,List.mem_singleton] at h
   rcases h with rfl|h
   ·have:=dR .u8 ((x-eQ k [(i:Int)])%256)
    simpa[aXn,IntKind.min,IntKind.max,IntKind.signed,IntKind.bits] using this
   ·exact ih _ h
 have:=this b 0 hz
 simp[this.1,this.2]
theorem bBy (p:Int)(b:D.Box):bA (gI p b).1:=by
 unfold gI
 have h0:bA ([]:List Int):=by decide
 by_cases hl:b.Data.length≤200
 ·cases(!dY p||(b.To !=fT p||(!dY b.Ephemeral||decide ((b.Data.length:Int)>200))))<;>cases(b.MAC !=Ub (fU p b.Ephemeral) b)<;>first|exact h0|exact aXq (by omega)
 ·have e1:decide ((b.Data.length:Int)>200)=true:=by simp;omega
  rw[e1];simpa using h0
theorem Zw (p:Int):∀bs,bA (iA bs p).1
 |[]=>show bA [] by decide
 |b::bs=>by
  unfold iA
  cases(gI p b).2 with
  |true=>exact bBy p b
  |false=>exact Zw p bs
def Zx (e:D.aAE)(x:List Int×Bool)(y:List Int×Int×Bool):Int×Bool:=
 bif !x.2||(!y.2.2||(y.2.1 !=(x.1.length:Int)||(y.1.getD 0 0 !=e.Epoch|| !dY (y.1.getD 1 0)))) then(0,false) else(y.1.getD 1 0,true)
def dK (s:D.aAI)(e:D.aAE):Int×Bool:=Zx e (iA e.Boxes (mQ s)) (iR (iA e.Boxes (mQ s)).1 0 2)
theorem and_one {n:Int}(h0:0≤n)(h1:n<9223372036854775808):yI .i64 n 1=n%2:=by
 obtain⟨m,rfl⟩:=Int.eq_ofNat_of_zero_le h0
 have e:((BitVec.ofInt 64 (m:Int))&&&(BitVec.ofInt 64 1)).toNat=m%2:=by
  rw[BitVec.toNat_and]
  have e1:(BitVec.ofInt 64 (m:Int)).toNat=m:=by rw[BitVec.toNat_ofInt];omega
  have e2:(BitVec.ofInt 64 1).toNat=2^1-1:=by decide
  rw[e1,e2,Nat.and_two_pow_sub_one_eq_mod]
 show IntKind.i64.wrap (((BitVec.ofInt 64 (m:Int))&&&(BitVec.ofInt 64 1)).toNat:Int)=_
 rw[e,aR (by omega) (by omega)];omega
theorem bIz {n:Int}(h0:0≤n):aDt .i64 n 1=n/2:=by
 unfold aDt
 rw[show min (Int.toNat 1) IntKind.i64.bits=1 from by decide,Int.fdiv_eq_ediv_of_nonneg _ (by decide)];rfl
def bE8:Nat→Int→Int→Int→Int
 |0,_,_,s=>s
 |k+1,b,n,s=>if n>0 then bE8 k ((IntKind.i64.wrap (b*b)).tmod 2147483647) (n/2) (bif n%2==1 then(IntKind.i64.wrap (s*b)).tmod 2147483647 else s) else s
theorem bDc:bE8 31 48271 2147483645 1=1899818559:=by decide+kernel
def fV (q:Int):Int:=bif !dY q then 0 else q*1899818559%2147483647
def Ij (p:Int)(l:List Int):Int:=bif !dY p then 0 else eQ p ([139,(l.length:Int)]++l)
def kM (q:Int)(l:List Int)(g:Int):Bool:=fV q !=0&&Ij (fV q) l==g
theorem Nr {α:Type}[Inhabited α]{l:List α}{i:Nat}(h0:0<i)(hi:i<l.length)(hl:l.length≤34359738368):aP l (IntKind.i64.wrap ((i:Int)-1))=some (l.getD (i-1) default):=by
 rw[aR (by omega) (by omega),show(i:Int)-1=((i-1:Nat):Int) by omega,aH (by omega)]
 simp[List.getD,List.getElem?_eq_getElem (show i-1<l.length by omega)]
def qH (l:List D.aAM)(i:Nat)(n:D.aAM):Bool:= !dI n.Kind 1 5||(!dI n.aAG 0 1000000||(!dI n.Time 0 1000000||(decide (0<i)&&decide ((l.getD (i-1) default).Time>n.Time))))
def fB (m:D.aAK):Bool:=decide (m.Notices.length≤30)&& !kI (qH m.Notices) 0 m.Notices
def jX (b:D.aAF)(i:Nat)(n:D.aAL):Bool:= !dI n.Id 0 (IntKind.i64.wrap (b.Next-1))||((decide (0<i)&&decide ((b.Open.getD (i-1) default).Id≥n.Id))||(!dI n.aAG 0 1000005|| !dI n.Until 0 1000005))
def nR (b:D.aAF):Bool:=dI b.Next 0 1000000&&decide (b.Open.length≤16)&& !kI (jX b) 0 b.Open
def Gb (a:D.aAG)(i:Nat)(n:D.aAJ):Bool:=(!dI n.Handle 0 1000000||((decide (0<i)&&decide ((a.Credentials.getD (i-1) default).Handle≥n.Handle))||(fV n.Public==0|| !dI n.Counter 0 1000000)))||(a.Credentials.take i).any fun q=>q.Public==n.Public
def bU (a:D.aAG):Bool:=dI a.Id 0 1000000&&dI a.Minimum 1 3&&decide (a.Credentials.length≤8)&& !kI (Gb a) 0 a.Credentials
def dE (e:D.aAB):Int:=Bb [229,e.Index,e.Kind,e.Device,e.By,e.Previous]
def gT (l:List D.aAB):Int:=bif (l.length:Int)==0 then 0 else dE (l.getD (l.length-1) default)
def qW (l:List D.aAB)(e:D.aAB):Bool:=
 e.Index==(l.length:Int)&&(e.Previous==gT l&&((jW (aL l) e.By||((l.length:Int)==0&&e.By==e.Device))&&(kM e.By [dE e] e.Signature&&
  (bif e.Kind==2 then jW (aL l) e.Device&&decide (((aL l).length:Int)>1) else !nQ l e.Device&&(e.Kind==1&&(!jW (aL l) e.Device&&decide (((aL l).length:Int)<6)))))))
def dH (l:List D.aAB):Bool:=dI (l.length:Int) 1 40&& !kI (fun i e=> !qW (l.take i) e) 0 l
theorem bG9 {l:List Int}{x:Int}(h:jW l x=true):0<l.length:=by
 cases l with
 |nil=>simp[jW] at h
 |cons a r=>simp
def iM:List UInt8→List UInt8→List (List UInt8)
 |cur,[]=>[cur]
 |cur,b::r=>bif b==46 then cur::iM [] r else iM (cur++[b]) r
theorem bHa (s:List UInt8)(i:Nat):Lib.occAt s [46] i=decide (s[i]? =some 46):=by
 unfold Lib.occAt
 cases h:s.drop i with
 |nil=>
  have:s.length≤i:=List.drop_eq_nil_iff.1 h
  simp[List.getElem?_eq_none this,List.isPrefixOf]
 |cons b r=>
  have e:s[i]? =some b:=by
   have:=List.getElem?_drop (xs:=s) (i:=i) (j:=0)
   rw[h] at this;simpa using this.symm
  rw[e];simp only[List.isPrefixOf,Bool.and_true,Option.some.injEq]
  rw[Bool.eq_iff_iff];simp only[beq_iff_eq,decide_eq_true_eq];exact eq_comm
theorem aOd:∀(a cur r:List UInt8),(∀b∈a,b≠46)→iM cur (a++46::r)=(cur++a)::iM [] r
 |[],cur,r,_=>by simp[iM]
 |b::a,cur,r,h=>by
  have hb:(b==46)=false:=by simpa using h b (by simp)
  rw[List.cons_append,iM,hb,cond_false,aOd a _ r (fun x hx=>h x (List.mem_cons_of_mem _ hx))];simp
theorem aJg:∀(a cur:List UInt8),(∀b∈a,b≠46)→iM cur a=[cur++a]
 |[],cur,_=>by simp[iM]
 |b::a,cur,h=>by
  have hb:(b==46)=false:=by simpa using h b (by simp)
  rw[iM,hb,cond_false,aJg a _ (fun x hx=>h x (List.mem_cons_of_mem _ hx))];simp
theorem aZx:∀(n:Nat) (s:List UInt8),s.length<n→Lib.splitK [46] 0 (Lib.count s [46]) s=iM [] s
 |0,s,h=>absurd h (Nat.not_lt_zero _)
 |n+1,s,h=>by
  rcases Lib.index_spec s [46] with⟨h1,h2⟩|⟨i,h1,h2,h3,h4⟩
  ·rw[Lib.count_miss h1,aJg s [] (fun b hb e=>by
    obtain⟨j,hj,ej⟩:=List.getElem_of_mem hb
    have:=h2 j (by omega)
    rw[bHa,List.getElem?_eq_getElem hj,ej,e] at this;simp at this)];rfl
  ·rw[bHa] at h3
   have h3:s[i]? =some 46:=by simpa using h3
   have hi:i<s.length:=by
    rcases Nat.lt_or_ge i s.length with hlt|hge
    ·exact hlt
    ·rw[List.getElem?_eq_none hge] at h3;cases h3
   rw[Lib.count_hit (by simp) h1,Nat.add_comm,Lib.splitK,h1]
   have hne:((i:Int)== -1)=false:=by simp
   rw[hne]
   simp only[Int.toNat_natCast,Nat.add_zero,List.length_cons,List.length_nil,Nat.zero_add]
   rw[if_neg (by simp),aZx n (s.drop (i+1)) (by rw[List.length_drop];omega)]
   have es:s=s.take i++46::s.drop (i+1):=by
    have e2:s[i]=46:=by rw[List.getElem?_eq_getElem hi] at h3;exact Option.some.inj h3
    rw[←e2,List.getElem_cons_drop hi,List.take_append_drop]
   conv=>rhs;rw[es]
   rw[aOd (s.take i) [] _ (fun b hb e=>by
    obtain⟨j,hj,ej⟩:=List.getElem_of_mem hb
    rw[List.length_take] at hj
    have:=h4 j (by omega)
    rw[bHa,List.getElem?_eq_getElem (by omega)] at this
    rw[List.getElem_take] at ej
    rw[ej,e] at this;simp at this)];simp
def bM (s:ByteArray):List ByteArray:=(iM [] s.data.toList).map fun l=>⟨l.toArray⟩
theorem aOe (s:ByteArray):jJ s ⟨#[46]⟩=bM s:=by
 have h1:(jJ s ⟨#[46]⟩).map (·.data.toList)=iM [] s.data.toList:=by
  rw[jJ,Lib.splitB_data];exact aZx _ _ (Nat.lt_succ_self _)
 unfold bM
 rw[←h1,List.map_map]
 conv=>lhs;rw[←List.map_id (jJ s ⟨#[46]⟩)]
 congr 1
def Z0 (b:Int):Bool:=dI b 97 122||dI b 48 57||b==45
def rG (s:ByteArray):Bool:=decide (1≤s.size)&&decide (s.size≤20)&& !((bW s).getD 0 0==45)&& !((bW s).getD (s.size-1) 0==45)&& !((bW s).any fun b=> !Z0 b)
def iT (s:ByteArray):Bool:=decide (s.size≤60)&& !((bM s).any fun l=> !rG l)
theorem iN (s:ByteArray):(bW s).length=s.size:=by simp only[bW,List.length_map];rfl
theorem aZy {s:ByteArray}{i:Nat}(h:i<s.size):aP (bW s) (i:Int)=some ((bW s)[i]'(by rw[iN];exact h)):=aH _
theorem ext_list (s:ByteArray)(a b:Nat):s.extract a b=⟨((s.data.toList.drop a).take (b-a)).toArray⟩:=by
 apply ByteArray.ext
 apply Array.toList_inj.1
 rw[Lib.extract_data]
theorem Zy:∀(s cur:List UInt8),(iM cur s).length≤s.length+1
 |[],_=>by simp[iM]
 |b::r,cur=>by
  rw[iM]
  cases b==46 with
  |true=>have:=Zy r [];simp;omega
  |false=>have:=Zy r (cur++[b]);simp at this ⊢;omega
theorem Ns:∀(s cur:List UInt8) (l:List UInt8),l∈iM cur s→l.length≤cur.length+s.length
 |[],cur,l,h=>by simp[iM] at h;subst h;simp
 |b::r,cur,l,h=>by
  rw[iM] at h
  cases hb:b==46 with
  |true=>
   rw[hb,cond_true] at h
   rcases List.mem_cons.1 h with rfl|h
   ·omega
   ·have:=Ns r [] l h;simp at this ⊢;omega
  |false=>rw[hb,cond_false] at h;have:=Ns r _ l h;simp at this ⊢;omega
theorem Nt (s:ByteArray):(bM s).length≤s.size+1:=by
 unfold bM;rw[List.length_map];exact Zy _ _
theorem uS (s l:ByteArray)(h:l∈bM s):l.size≤s.size:=by
 unfold bM at h
 obtain⟨q,hq,rfl⟩:=List.mem_map.1 h
 have:=Ns _ _ q hq
 have h2:(⟨q.toArray⟩:ByteArray).size=q.length:=rfl
 have h3:s.data.toList.length=s.size:=rfl
 have h4:([]:List UInt8).length=0:=rfl
 omega
theorem bLw (z:ByteArray):(z.toList==(⟨#[]⟩:ByteArray).toList)=decide (z.size=0):=by
 rw[ByteArray.toList_eq,ByteArray.toList_eq,Bool.eq_iff_iff]
 simp only[beq_iff_eq,decide_eq_true_eq]
 constructor
 ·intro h
  show z.data.size=0
  rw[←Array.length_toList,h];rfl
 ·intro h
  exact List.eq_nil_of_length_eq_zero h
theorem uT:∀(s cur:List UInt8),(iM cur s).length=s.countP (·==46)+1
 |[],_=>rfl
 |b::r,cur=>by
  rw[iM,List.countP_cons]
  cases b==46 with
  |true=>rw[cond_true,List.length_cons,uT r []];simp
  |false=>rw[cond_false,uT r _];simp
theorem aJh (s:ByteArray):0<(bM s).length:=by
 unfold bM;rw[List.length_map,uT];omega
def Tv (s:ByteArray):Bool:=(bW s).any fun b=>b==46
theorem aTn (s:ByteArray):Tv s=decide (2≤(bM s).length):=by
 unfold Tv bM bW
 rw[List.length_map,uT,List.any_map]
 have e:(fun b:Int=>b==46)∘(fun b:UInt8=>(b.toNat:Int))=fun b:UInt8=>b==46:=by
  funext b
  rw[Bool.eq_iff_iff]
  simp only[Function.comp,beq_iff_eq]
  constructor
  ·intro q;apply UInt8.toNat_inj.1;show _=46;omega
  ·intro q;rw[q];rfl
 rw[e,Bool.eq_iff_iff,List.any_eq_true,decide_eq_true_eq]
 have:=List.countP_pos_iff (p:=fun b:UInt8=>b==46) (l:=s.data.toList)
 constructor
 ·intro h;have:=this.2 h;omega
 ·intro h;exact this.1 (by omega)
def bE9 (s:ByteArray):ByteArray:=bif iT s then(bif (bM s).length==1 then s else nC ⟨#[46]⟩ ((bM s).drop ((bM s).length-2))) else⟨#[]⟩
theorem bJs {l:List ByteArray}(h:2≤l.length):∃a∈l,∃b∈l,nC ⟨#[46]⟩ (l.drop (l.length-2))=a++⟨#[46]⟩++b:=by
 have hl:(l.drop (l.length-2)).length=2:=by rw[List.length_drop];omega
 match hm:l.drop (l.length-2),hl with
 |[a,b],_=>
  refine⟨a,List.mem_of_mem_drop (i:=l.length-2) (by rw[hm];simp),b,List.mem_of_mem_drop (i:=l.length-2) (by rw[hm];simp),?_⟩
  rw[show[a,b]=[a]++[b] from rfl,bH3 _ _ _ (by simp),bH2]
theorem Nu {s:ByteArray}(h:iT s=true):s.size≤60∧0<s.size:=by
 unfold iT at h
 rw[Bool.and_eq_true,decide_eq_true_eq] at h
 refine⟨h.1,Nat.pos_of_ne_zero fun e=> ?_⟩
 have e2:s.data.toList=[]:=List.eq_nil_of_length_eq_zero e
 have e3:bM s=[⟨#[]⟩]:=by unfold bM;rw[e2];rfl
 rw[e3] at h
 exact absurd h.2 (by decide)
theorem bI0 {s:ByteArray}(h:iT s=true):decide ((bE9 s).size=0)=false:=by
 have hs:=Nu h
 have hp:=aJh s
 unfold bE9
 rw[h,cond_true]
 refine decide_eq_false ?_
 cases h1:(bM s).length==1 with
 |true=>rw[cond_true];omega
 |false=>
  rw[cond_false]
  have:(bM s).length≠1:=by simpa using h1
  obtain⟨a,_,b,_,e⟩:=bJs (l:=bM s) (by omega)
  rw[e,ByteArray.size_append,ByteArray.size_append]
  have:(⟨#[46]⟩:ByteArray).size=1:=rfl
  omega
def lN (s:ByteArray)(seed:Int):Bool:=iT s&&decide (2≤(bM s).length)&&dY seed
def Zz (l:List D.aAG)(i:Nat)(n:D.aAG):Bool:= !bU n||(decide (0<i)&&decide ((l.getD (i-1) default).Id≥n.Id))
def jC (s:D.Site):Bool:=lN s.Name s.Book.Seed&&decide (s.Accounts.length≤8)&&nR s.Book&& !kI (Zz s.Accounts) 0 s.Accounts
def SOk (s:D.Site):Prop:=s.Name.size≤34359738368∧s.Accounts.length≤34359738368∧s.Book.Open.length≤34359738368∧∀a∈s.Accounts,a.Credentials.length≤34359738368
instance (s:D.Site):Decidable (SOk s):=inferInstanceAs (Decidable (_∧_))
def vN (name:ByteArray)(seed:Int):D.Site:=bif lN name seed then⟨name,[],⟨seed,0,[]⟩,[]⟩ else⟨⟨#[]⟩,[],⟨0,0,[]⟩,[]⟩
theorem bBz (name:ByteArray)(seed:Int):decide ((vN name seed).Name.size=0)= !lN name seed:=by
 unfold vN
 cases h:lN name seed with
 |false=>rfl
 |true=>
  have:iT name=true:=by unfold lN at h;rw[Bool.and_eq_true,Bool.and_eq_true] at h;exact h.1.1
  have:=Nu this
  exact decide_eq_false (by show ¬name.size=0;omega)
def aW (i:Int):ByteArray:=bif i==0 then⟨#[98,97,110,107,46,99,111,109]⟩ else bif i==1 then⟨#[115,104,111,112,46,111,114,103]⟩ else⟨#[]⟩
def vO (i:Nat)(s:D.Site):Bool:= !jC s|| !(s.Name.toList==(aW (i:Int)).toList)
def dN (w:D.World):Bool:=dI w.Now 0 999900&&dI (w.Devices.length:Int) 1 6&&(w.Stolen.length:Int)==(w.Devices.length:Int)&&(w.Sites.length:Int)==2&&fB w.Mail&&dH w.aAH.Log&&dY w.Seed&& !kI vO 0 w.Sites
def bK5 (w:D.World):Prop:=WOk w∧w.Mail.Notices.length≤34359738368∧w.Hosts.length≤34359738368∧∀s∈w.Sites,SOk s
instance (w:D.World):Decidable (bK5 w):=inferInstanceAs (Decidable (_∧_))
theorem aOf {α:Type}{g:α→Nat}{x:α}:∀{l:List α},x∈l→g x≤(l.map g).sum
 |y::r,h=>by
  rw[List.map_cons,List.sum_cons]
  rcases List.mem_cons.1 h with rfl|h
  ·omega
  ·have:=aOf (g:=g) h;omega
theorem SOk.of {s:D.Site}(h:s.sz≤1048576):SOk s:=by
 simp only[D.Site.sz] at h
 refine⟨by omega,by omega,by omega,fun a ha=> ?_⟩
 have:=aOf (g:=D.aAG.sz) ha
 simp only[D.aAG.sz] at this h
 omega
theorem bK5.of {w:D.World}(h:w.sz≤1048576):bK5 w:=by
 refine⟨WOk.of h,?_,?_,fun s hs=>SOk.of ?_⟩
 ·simp only[D.World.sz] at h;omega
 ·simp only[D.World.sz] at h;omega
 ·have:=aOf (g:=D.Site.sz) hs
  simp only[D.World.sz] at h;omega
abbrev vP (a:List Int)(r:List (List Int)):Prop:=a.length+r.flatten.length≤68719476736∧r.length≤1099511627776
def eF (a b:D.Entry):Bool:=decide (a.Site<b.Site)||(a.Site==b.Site&&decide (a.Handle<b.Handle))
def iO (a:D.Entry)(s h:Int):Bool:=decide (a.Site<s)||(a.Site==s&&decide (a.Handle<h))
def vQ (x e:D.Entry):Bool:=decide (x.Version>e.Version)||(x.Version==e.Version&&x.Deleted)
def sQ (e x:D.Entry):D.Entry:=bif vQ x e then x else e
def dU:List D.Entry→List D.Entry→List D.Entry
 |[],bs=>bs
 |a::xs,[]=>a::xs
 |a::xs,b::bs=>bif eF a b then a::dU xs (b::bs) else bif eF b a then b::dU (a::xs) bs else sQ a b::dU xs bs
termination_by xs bs=>xs.length+bs.length
def Z4 (l:List D.Entry)(i:Nat)(e:D.Entry):Bool:= !dI e.Site 0 2147483646||(!dI e.Handle 0 1000000||(!dI e.Version 1 1000000||(decide ((i:Int)>0)&& !eF (l.getD (i-1) default) e)))
def aK (b:D.aAC):Bool:=decide ((b.Entries.length:Int)≤20)&& !kI (Z4 b.Entries) 0 b.Entries
def kY (a b:D.aAC):D.aAC×Bool:=bif aK a&&aK b then(bif aK ⟨dU a.Entries b.Entries⟩ then(⟨dU a.Entries b.Entries⟩,true) else(a,false)) else(a,false)
def nS (b:D.aAC)(x:D.Entry):D.aAC:=bif decide (aJ b x.Site x.Handle≥0) then⟨b.Entries.set (aJ b x.Site x.Handle).toNat x⟩ else⟨b.Entries.takeWhile (fun e=>iO e x.Site x.Handle)++[x]++b.Entries.dropWhile (fun e=>iO e x.Site x.Handle)⟩
theorem Bl {a b:D.Entry}:eF a b=true↔a.Site<b.Site∨(a.Site=b.Site∧a.Handle<b.Handle):=by
 simp[eF]
theorem bB0 {a x:D.Entry}:iO a x.Site x.Handle=eF a x:=rfl
theorem Nv {a b c:D.Entry}(h:eF a b=true)(k:eF b c=true):eF a c=true:=by
 rw[Bl] at*;omega
theorem d9 {a b:D.Entry}(h:eF a b=false)(k:eF b a=false):a.Site=b.Site∧a.Handle=b.Handle:=by
 have h1:¬(a.Site<b.Site∨(a.Site=b.Site∧a.Handle<b.Handle)):=fun q=>by rw[Bl.2 q] at h;cases h
 have h2:¬(b.Site<a.Site∨(b.Site=a.Site∧b.Handle<a.Handle)):=fun q=>by rw[Bl.2 q] at k;cases k
 omega
theorem Tw {a b c:D.Entry}(h:a.Site=b.Site∧a.Handle=b.Handle):eF a c=eF b c:=by
 unfold eF;rw[h.1,h.2]
theorem aOg {a b c:D.Entry}(h:a.Site=b.Site∧a.Handle=b.Handle):eF c a=eF c b:=by
 unfold eF;rw[h.1,h.2]
theorem aZz {a b:D.Entry}(h:a.Site=b.Site∧a.Handle=b.Handle):(sQ a b).Site=b.Site∧(sQ a b).Handle=b.Handle:=by
 unfold sQ
 cases vQ b a
 ·exact h
 ·exact⟨rfl,rfl⟩
theorem bI1 (a b:D.Entry):sQ a b=a∨sQ a b=b:=by
 unfold sQ
 cases vQ b a
 ·exact .inl rfl
 ·exact .inr rfl
theorem fC (l:List D.Entry):dU l []=l:=by cases l<;>rw[dU]
theorem jY (l:List D.Entry):dU [] l=l:=by rw[dU]
theorem uY:∀(n:Nat) (a b:List D.Entry),a.length+b.length≤n→(dU a b).length≤a.length+b.length
 |_,[],b,_=>by rw[jY];simp
 |_,a::xs,[],_=>by rw[fC];simp
 |0,a::xs,b::bs,h=>by simp at h
 |n+1,a::xs,b::bs,h=>by
  simp only[List.length_cons] at h
  rw[dU]
  cases eF a b with
  |true=>have:=uY n xs (b::bs) (by simp only[List.length_cons];omega);simp only[cond_true,List.length_cons] at*;omega
  |false=>
   cases eF b a with
   |true=>have:=uY n (a::xs) bs (by simp only[List.length_cons];omega);simp only[cond_false,cond_true,List.length_cons] at*;omega
   |false=>have:=uY n xs bs (by omega);simp only[cond_false,List.length_cons] at*;omega
theorem o5 (a b:D.Entry)(xs bs:List D.Entry):dU (a::xs) (b::bs)=bif eF a b then a::dU xs (b::bs) else bif eF b a then b::dU (a::xs) bs else sQ a b::dU xs bs:=by rw[dU]
def srt (l:List D.Entry):Prop:=l.Pairwise fun a b=>eF a b=true
theorem aV4:∀(A:List D.Entry) {b:D.Entry} {bs:List D.Entry},srt (b::bs)→dU (dU A [b]) bs=dU A (b::bs)
 |[],b,bs,h=>by
  rw[jY,jY]
  cases bs with
  |nil=>rw[fC]
  |cons c cs=>rw[dU,(List.pairwise_cons.1 h).1 c (by simp),cond_true,jY]
 |a::xs,b,bs,h=>by
  have hc:=(List.pairwise_cons.1 h).1
  rw[o5 a b xs [],o5 a b xs bs]
  cases h1:eF a b with
  |true=>
   simp only[cond_true]
   cases bs with
   |nil=>rw[fC]
   |cons c cs=>rw[dU,Nv h1 (hc c (by simp)),cond_true,aV4 xs h]
  |false=>
   cases h2:eF b a with
   |true=>
    simp only[cond_true,cond_false]
    rw[fC]
    cases bs with
    |nil=>rw[fC,fC]
    |cons c cs=>rw[dU,hc c (by simp),cond_true]
   |false=>
    simp only[cond_false]
    rw[fC]
    cases bs with
    |nil=>rw[fC,fC]
    |cons c cs=>rw[dU,Tw (aZz (d9 h1 h2)),hc c (by simp),cond_true]
theorem bDd:∀{l:List D.Entry} {x y:D.Entry},y∈dU l [x]→y∈l∨y=x
 |[],x,y,h=>by rw[jY] at h;simp at h;exact .inr h
 |a::xs,x,y,h=>by
  rw[dU] at h
  cases h1:eF a x with
  |true=>
   rw[h1,cond_true] at h
   rcases List.mem_cons.1 h with rfl|h
   ·exact .inl (by simp)
   ·exact(bDd h).imp (fun h=>by simp[h]) id
  |false=>
   rw[h1,cond_false] at h
   cases h2:eF x a with
   |true=>
    rw[h2,cond_true,fC] at h
    rcases List.mem_cons.1 h with rfl|h
    ·exact .inr rfl
    ·exact .inl h
   |false=>
    rw[h2,cond_false,fC] at h
    rcases List.mem_cons.1 h with rfl|h
    ·rcases bI1 a x with e|e
     ·rw[e];exact .inl (by simp)
     ·exact .inr e
    ·exact .inl (by simp[h])
theorem bDe:∀{l:List D.Entry} {x:D.Entry},srt l→srt (dU l [x])
 |[],x,h=>by rw[jY];exact List.pairwise_singleton _ _
 |a::xs,x,h=>by
  obtain⟨ha,hs⟩:=List.pairwise_cons.1 h
  rw[dU]
  cases h1:eF a x with
  |true=>
   rw[cond_true]
   refine List.pairwise_cons.2 ⟨fun y hy=> ?_,bDe hs⟩
   rcases bDd hy with hy|rfl
   ·exact ha y hy
   ·exact h1
  |false=>
   cases h2:eF x a with
   |true=>
    rw[cond_false,cond_true,fC]
    refine List.pairwise_cons.2 ⟨fun y hy=> ?_,h⟩
    rcases List.mem_cons.1 hy with rfl|hy
    ·exact h2
    ·exact Nv h2 (ha y hy)
   |false=>
    rw[cond_false,cond_false,fC]
    have hk:=d9 h1 h2
    refine List.pairwise_cons.2 ⟨fun y hy=> ?_,hs⟩
    rw[Tw (aZz hk),←Tw hk];exact ha y hy
theorem aOh:∀(B A:List D.Entry),srt B→B.foldl (fun o x=>dU o [x]) A=dU A B
 |[],A,_=>by rw[fC];rfl
 |b::bs,A,h=>by rw[List.foldl_cons,aOh bs _ (List.pairwise_cons.1 h).2,aV4 A h]
theorem aZ0 {α:Type}{p:α→Bool}:∀{l:List α} {i:Nat},kD p i l<0→∀y∈l,p y=false
 |[],i,_,y,hy=>by simp at hy
 |x::l,i,h,y,hy=>by
  simp only[kD] at h
  cases hp:p x with
  |true=>rw[hp,cond_true] at h;omega
  |false=>
   rw[hp,cond_false] at h
   rcases List.mem_cons.1 hy with rfl|hy
   ·exact hp
   ·exact aZ0 h y hy
theorem aEb {α:Type}{p:α→Bool}:∀{l:List α} {i:Nat},0≤kD p i l→∃l1 e l2,l=l1++e::l2∧p e=true∧kD p i l=((i+l1.length:Nat):Int)
 |[],i,h=>by simp[kD] at h
 |x::l,i,h=>by
  simp only[kD] at h ⊢
  cases hp:p x with
  |true=>exact⟨[],x,l,rfl,hp,by simp⟩
  |false=>
   rw[hp,cond_false] at h
   obtain⟨l1,e,l2,h1,h2,h3⟩:=aEb h
   exact⟨x::l1,e,l2,by rw[h1];rfl,h2,by rw[cond_false,h3];simp only[List.length_cons];omega⟩
theorem bDf:∀{l:List D.Entry} {x:D.Entry},(∀y∈l,(y.Site==x.Site&&y.Handle==x.Handle)=false)→dU l [x]=l.takeWhile (fun e=>iO e x.Site x.Handle)++[x]++l.dropWhile (fun e=>iO e x.Site x.Handle)
 |[],x,_=>by rw[jY];rfl
 |a::xs,x,h=>by
  rw[dU,List.takeWhile_cons,List.dropWhile_cons,bB0]
  cases h1:eF a x with
  |true=>simp only[cond_true,if_true];rw[bDf (fun y hy=>h y (by simp[hy]))];rfl
  |false=>
   cases h2:eF x a with
   |true=>simp only[cond_false,cond_true];rw[fC];rfl
   |false=>
    have:=d9 h1 h2
    have:=h a (by simp)
    simp_all
theorem bDg {e x:D.Entry}{l2:List D.Entry}(he:(e.Site==x.Site&&e.Handle==x.Handle)=true):∀{l1:List D.Entry},srt (l1++e::l2)→dU (l1++e::l2) [x]=l1++sQ e x::l2
 |[],_=>by
  have hk:e.Site=x.Site∧e.Handle=x.Handle:=by simpa using he
  have h1:eF e x=false:=by
   cases h:eF e x with
   |false=>rfl
   |true=>rw[Bl] at h;omega
  have h2:eF x e=false:=by
   cases h:eF x e with
   |false=>rfl
   |true=>rw[Bl] at h;omega
  rw[List.nil_append,dU,h1,cond_false,h2,cond_false,fC];rfl
 |a::l1,h=>by
  obtain⟨ha,hs⟩:=List.pairwise_cons.1 h
  have hk:e.Site=x.Site∧e.Handle=x.Handle:=by simpa using he
  have h1:eF a x=true:=by rw[←aOg hk];exact ha e (by simp)
  rw[List.cons_append,dU,h1,cond_true,bDg he hs];rfl
theorem bHb {l:List D.Entry}{x:D.Entry}(h:srt l):(bif (decide (aJ ⟨l⟩ x.Site x.Handle<0)||vQ x (l.getD (aJ ⟨l⟩ x.Site x.Handle).toNat default)) then(nS ⟨l⟩ x).Entries else l)=dU l [x]:=by
 unfold nS
 by_cases hf:aJ ⟨l⟩ x.Site x.Handle<0
 ·rw[decide_eq_true hf,Bool.true_or,cond_true,show decide (aJ ⟨l⟩ x.Site x.Handle≥0)=false from decide_eq_false (by omega),cond_false]
  exact(bDf (aZ0 hf)).symm
 ·obtain⟨l1,e,l2,h1,h2,h3⟩:=aEb (show 0≤kD (fun e=>e.Site==x.Site&&e.Handle==x.Handle) 0 l from by unfold aJ at hf;simp only at hf;omega)
  have h3':aJ ⟨l⟩ x.Site x.Handle=(l1.length:Int):=by unfold aJ;rw[h3];simp
  rw[h3',decide_eq_false (by omega),Bool.false_or,show decide ((l1.length:Int)≥0)=true from decide_eq_true (by omega),cond_true,Int.toNat_natCast]
  subst h1
  rw[bDg h2 h]
  have g:(l1++e::l2).getD l1.length default=e:=by simp[List.getD]
  have st:(l1++e::l2).set l1.length x=l1++x::l2:=by simp
  rw[g]
  show(bif vQ x e then(l1++e::l2).set l1.length x else l1++e::l2)=_
  rw[st]
  unfold sQ
  cases vQ x e<;>rfl
theorem bDh {α:Type}{p:Nat→α→Bool}:∀{l:List α} {j:Nat},kI p j l=false→∀(i:Nat) (hi:i<l.length),p (j+i) l[i]=false
 |[],j,_,i,hi=>by simp at hi
 |x::l,j,h,i,hi=>by
  simp only[kI,Bool.or_eq_false_iff] at h
  cases i with
  |zero=>exact h.1
  |succ i=>have:=bDh h.2 i (by simpa using hi);rw[show j+(i+1)=j+1+i by omega];exact this
theorem aXr {b:D.aAC}(h:aK b=true):b.Entries.length≤20∧srt b.Entries:=by
 simp only[aK,Bool.and_eq_true,decide_eq_true_eq,Bool.not_eq_true'] at h
 refine⟨by omega,?_⟩
 have adj:∀i (hi:i+1<b.Entries.length),eF b.Entries[i] b.Entries[i+1]=true:=fun i hi=>by
  have:=bDh h.2 (i+1) hi
  simp only[Z4,Bool.or_eq_false_iff,Nat.zero_add] at this
  have h4:=this.2.2.2
  rw[decide_eq_true (by omega),Bool.true_and] at h4
  have h5:(b.Entries.getD (i+1-1) default)=b.Entries[i]:=by rw[Nat.add_sub_cancel,List.getD,List.getElem?_eq_getElem (by omega),Option.getD_some]
  rw[h5] at h4;simpa using h4
 have far:∀d i (hi:i+d+1<b.Entries.length),eF b.Entries[i] b.Entries[i+d+1]=true:=fun d=>by
  induction d with
  |zero=>exact fun i hi=>adj i hi
  |succ d ih=>exact fun i hi=>Nv (ih i (by omega)) (adj (i+d+1) (by omega))
 refine List.pairwise_iff_getElem.2 fun i j hi hj hij=> ?_
 obtain⟨d,rfl⟩:∃d,j=i+d+1:=⟨j-i-1,by omega⟩
 exact far d i hj
theorem eT {α β:Type}{s:List α}(hs:s.length≤34359738368)(x:α)(k:Option β):gd (bI s [x]) k=k:=aD (by unfold bI;simp only[List.length_singleton];omega)
theorem kZ {α β:Type}{s:List α}(hs:s.length≤34359738368)(k:Option β):gd (bI [] s) k=k:=aD (by unfold bI;simp only[List.length_nil];omega)
theorem aZ1 {α:Type}{l s:List α}:l.foldl (fun s x=>s++[x]) s=s++l:=by
 have:=aD8 (f:=fun x:α=>[x]) (l:=l) (s:=s)
 rw[this];congr 1
 induction l with
 |nil=>rfl
 |cons x l ih=>simp[ih]
theorem Z5 {α:Type}{l:List α}{F:(Nat×List α→Option (List α))→Nat×List α→Option (List α)}(hl:l.length≤34359738368)
  (hF:∀rec i s (hi:i<l.length),s.length≤34359738368→F rec (i,s)=rec (i+1,s++[l[i]])) (hE:∀rec s,F rec (l.length,s)=some s):EV.bX FUEL F (0,[])=some l:=by
 rw[aV2 (l:=l) (fun s x=>s++[x]) (fun i s=>s.length=i) (fun s=>some s) (by omega) rfl (fun i s hi hv=>by simp;omega) (fun rec i s hi hv=>hF rec i s hi (by omega)) (fun rec s _=>hE rec s),aZ1,List.nil_append]
theorem bHc {α:Type}{l:List α}{F:(List α×Nat→Option (List α))→List α×Nat→Option (List α)}(hl:l.length≤34359738368)
  (hF:∀rec i s (hi:i<l.length),s.length≤34359738368→F rec (s,i)=rec (s++[l[i]],i+1)) (hE:∀rec s,F rec (s,l.length)=some s):EV.bX FUEL F ([],0)=some l:=by
 rw[fJ (l:=l) (fun s x=>s++[x]) (fun i s=>s.length=i) (fun s=>some s) (by omega) rfl (fun i s hi hv=>by simp;omega) (fun rec i s hi hv=>hF rec i s hi (by omega)) (fun rec s _=>hE rec s),aZ1,List.nil_append]
abbrev szL {α:Type}(f:α→Nat)(l:List α):Nat:=l.length+(l.map f).sum
theorem iW {S τ:Type}{F:(S→Option τ)→S→Option τ}{n:Nat}{s:S}:EV.bX (n+1) F s=F (EV.bX n F) s:=rfl
theorem jZ {α:Type}{c:Bool}{x y:α}:(bif c then some x else some y)=some (bif c then x else y):=by cases c<;>rfl
theorem sS {c d:Bool}:(bif c then some true else some d)=some (c||d):=by cases c<;>rfl
theorem bHd {α:Type}[Inhabited α]{l:List α}{i:Nat}(h:i<l.length):l.set i (l.getD i default)=l:=by
 rw[List.getD,List.getElem?_eq_getElem h];simp
theorem Z6 {α:Type}{p:Nat→α→Bool}:∀(l:List α) (j:Nat),kI p j l=true↔∃(i:Nat) (hi:i<l.length),p (j+i) l[i]=true
 |[],j=>by simp[kI]
 |x::xs,j=>by
  simp only[kI,Bool.or_eq_true,Z6 xs]
  constructor
  ·rintro(h|⟨i,hi,h⟩)
   ·exact⟨0,by simp,h⟩
   ·exact⟨i+1,by simpa using hi,by rw[show j+(i+1)=j+1+i by omega];exact h⟩
  ·rintro⟨i,hi,h⟩
   cases i with
   |zero=>exact .inl h
   |succ i=>exact .inr ⟨i,by simpa using hi,by rw[show j+1+i=j+(i+1) by omega];exact h⟩
theorem o6 {α:Type}{p:Nat→α→Bool}{l:List α}:kI p 0 l=false↔∀(i:Nat) (hi:i<l.length),p i l[i]=false:=by
 constructor
 ·intro h i hi
  cases hc:p i l[i] with
  |false=>rfl
  |true=>rw[(Z6 l 0).2 ⟨i,hi,by rw[Nat.zero_add];exact hc⟩] at h;cases h
 ·intro h
  cases hc:kI p 0 l with
  |false=>rfl
  |true=>
   obtain⟨i,hi,hp⟩:=(Z6 l 0).1 hc
   rw[Nat.zero_add,h i hi] at hp;cases hp
theorem bJu {α β:Type}{l:List α}(f:α→β){s0:List β}{F:(List β×Nat→Option (List β))→List β×Nat→Option (List β)}(hl:s0.length+l.length≤34359738368)
  (hF:∀rec i s (hi:i<l.length),s.length≤34359738368→F rec (s,i)=rec (s++[f l[i]],i+1)) (hE:∀rec s,F rec (s,l.length)=some s):EV.bX FUEL F (s0,0)=some (s0++l.map f):=by
 rw[fJ (l:=l) (fun s x=>s++[f x]) (fun i s=>s.length=s0.length+i) (fun s=>some s) (by omega) (by simp) (fun i s hi hv=>by simp;omega) (fun rec i s hi hv=>hF rec i s hi (by omega)) (fun rec s _=>hE rec s),aV3]
theorem bI2 {i:Int}{n:Nat}(h:n≤34359738368):(!dI i 0 (IntKind.i64.wrap ((n:Int)-1)))=(decide (i<0)||decide (i≥(n:Int))):=by
 rw[aR (by omega) (by omega)]
 unfold dI
 by_cases h0:i<0
 ·rw[decide_eq_true h0,decide_eq_false (show ¬0≤i by omega)];rfl
 ·rw[decide_eq_false h0,decide_eq_true (show 0≤i by omega)]
  by_cases h1:i≥(n:Int)
  ·rw[decide_eq_true h1,decide_eq_false (show ¬i≤(n:Int)-1 by omega)];rfl
  ·rw[decide_eq_false h1,decide_eq_true (show i≤(n:Int)-1 by omega)];rfl
theorem aOi {α:Type}[Inhabited α]{l:List α}{i:Int}(h0:0≤i)(h1:i<(l.length:Int)):aP l i=some (l.getD i.toNat default):=by
 rw[uO h0 (by omega)];simp[List.getD,List.getElem?_eq_getElem (show i.toNat<l.length by omega)]
theorem aXs {i:Int}{n:Nat}(h:(decide (i<0)||decide (i≥(n:Int)))=false):0≤i∧i<(n:Int):=by
 simp only[Bool.or_eq_false_iff,decide_eq_false_iff_not] at h;omega
theorem aM3 {α:Type}[Inhabited α]{f:α→Nat}{l:List α}{i:Nat}(h:i<l.length):f (l.getD i default)≤(l.map f).sum:=by
 rw[List.getD,List.getElem?_eq_getElem h];exact dP h
theorem bHe {α:Type}{n:Nat}{x:α}{β:Type}{k:Option β}(h:n≤68719476736):gd (eH n x x) k=k:=aD ⟨rfl,by omega⟩
theorem bHf {α:Type}[BEq α][ReflBEq α]{r:α}:(!r==r)=false:=by rw[beq_self_eq_true];rfl
def cS (l:List D.aAO)(i:Nat)(k:Int):Bool:=(l.take i).any fun q=>q.Index==k
theorem bK6 {c d:Bool}:(bif c then some d else some false)=some (c&&d):=by cases c<;>rfl
def bHg (b:D.aAC)(s h:Int):Int:=bif decide (aJ b s h≥0) then IntKind.i64.wrap ((b.Entries.getD (aJ b s h).toNat default).Version+1) else 1
def mW (b:D.aAC)(s h:Int):D.Entry:=⟨s,h,bHg b s h,false⟩
def aEc (b:D.aAC)(s h:Int):D.aAC×Bool:=bif !(decide (aJ b s h≥0)&& !(b.Entries.getD (aJ b s h).toNat default).Deleted)&&(aK b&&aK (nS b (mW b s h))) then(nS b (mW b s h),true) else(b,false)
def aJ1 (b:D.aAC)(s h:Int):D.Entry:=⟨s,h,IntKind.i64.wrap ((b.Entries.getD (aJ b s h).toNat default).Version+1),true⟩
def aEd (b:D.aAC)(s h:Int):D.aAC×Bool:=bif !aK b||(decide (aJ b s h<0)||((b.Entries.getD (aJ b s h).toNat default).Deleted||(b.Entries.getD (aJ b s h).toNat default).Version==1000000)) then(b,false) else(nS b (aJ1 b s h),true)
def Gc (d:D.Device)(n:ByteArray)(h:Int)(rm:Bool):D.aAC×Bool:=bif rm then aEd d.aAC (fK n) h else aEc d.aAC (fK n) h
def fD (d:D.Device)(n:ByteArray)(h:Int)(rm:Bool):D.Device×Bool:=bif (Gc d n h rm).2 then({d with aAC:=(Gc d n h rm).1},true) else(d,false)
theorem bDi (b:List Int):(sK b).length=b.length+1:=by simp[sK,Nat.add_comm]
theorem aM4 (l:List Int):List.map (fun(n:Int)=>n) l=l:=List.map_id l
theorem aZ3 (b:D.aAC)(x:D.Entry):(nS b x).Entries.length≤b.Entries.length+1:=by
 unfold nS
 cases decide (aJ b x.Site x.Handle≥0) with
 |true=>simp
 |false=>
  have:=congrArg List.length (List.takeWhile_append_dropWhile (p:=fun e=>iO e x.Site x.Handle) (l:=b.Entries))
  simp only[List.length_append] at this
  simp only[cond_false,List.length_append,List.length_singleton];omega
theorem bI3 (b:D.aAC)(s h:Int):(aEc b s h).1.Entries.length≤b.Entries.length+1:=by
 unfold aEc
 have:=aZ3 b (mW b s h)
 cases(!(decide (aJ b s h≥0)&& !(b.Entries.getD (aJ b s h).toNat default).Deleted)&&(aK b&&aK (nS b (mW b s h)))) with
 |true=>exact this
 |false=>simp
theorem bI4 (b:D.aAC)(s h:Int):(aEd b s h).1.Entries.length≤b.Entries.length+1:=by
 unfold aEd
 have:=aZ3 b (aJ1 b s h)
 cases(!aK b||(decide (aJ b s h<0)||((b.Entries.getD (aJ b s h).toNat default).Deleted||(b.Entries.getD (aJ b s h).toNat default).Version==1000000))) with
 |true=>simp
 |false=>exact this
theorem Tx (d:D.Device)(n:ByteArray)(h:Int)(rm:Bool):(fD d n h rm).1.sz≤d.sz+1:=by
 unfold fD
 have:(Gc d n h rm).1.Entries.length≤d.aAC.Entries.length+1:=by
  unfold Gc;cases rm with
  |true=>exact bI4 _ _ _
  |false=>exact bI3 _ _ _
 cases(Gc d n h rm).2 with
 |true=>simp only[cond_true,D.Device.sz];omega
 |false=>simp
def iX (c:D.aAH)(b:Int):D.aAA×Bool:=bif decide (b<0)||decide (b≥(c.History.length:Int)) then(⟨0,0,[],0⟩,false) else(c.History.getD (c.History.length-1-b.toNat) default,true)
def bI5 (a b:D.aAB):Bool:=a.Index==b.Index&&(a.Kind==b.Kind&&(a.Device==b.Device&&(a.By==b.By&&(a.Previous==b.Previous&&(a.Signature==b.Signature&&true)))))
def fM (a b:List D.aAB):Bool:=decide (b.length≤a.length)&& !kI (fun i e=> !bI5 (a.getD i default) e) 0 b
def iP (k:Int)(b:D.aAA):Int:=eQ k ([227,b.Epoch,b.Version]++sK b.Data)
def lC (k e v:Int):Int:=dD k [223,e,v]
def uvE:Nat→Int→List Int
 |0,n=>[n]
 |k+1,n=>bif decide (n>127) then(n%128+128)::uvE k (n/128) else[n]
theorem aXt:∀(k:Nat) (n:Int),1≤(uvE k n).length∧(uvE k n).length≤k+1
 |0,n=>by simp[uvE]
 |k+1,n=>by
  have:=aXt k (n/128)
  unfold uvE
  cases decide (n>127)<;>simp<;>omega
theorem bI6 {k:Nat}{z:Int}(h:z≤127):uvE k z=[z]:=by
 cases k with
 |zero=>rfl
 |succ k=>unfold uvE;rw[decide_eq_false (by omega)];rfl
theorem bDj:∀(k:Nat) (m n:Int) (x y:List Int),0≤m→0≤n→uvE k m++x=uvE k n++y→m=n∧x=y
 |0,m,n,x,y,_,_,h=>by simpa[uvE] using h
 |k+1,m,n,x,y,h0,h1,h=>by
  unfold uvE at h
  by_cases hm:m>127<;>by_cases hn:n>127
  ·simp only[decide_eq_true hm,decide_eq_true hn,cond_true,List.cons_append,List.cons.injEq] at h
   have:=bDj k (m/128) (n/128) x y (by omega) (by omega) h.2
   exact⟨by omega,this.2⟩
  ·simp only[decide_eq_true hm,decide_eq_false hn,cond_true,cond_false,List.cons_append,List.cons.injEq] at h;omega
  ·simp only[decide_eq_false hm,decide_eq_true hn,cond_true,cond_false,List.cons_append,List.cons.injEq] at h;omega
  ·simpa only[decide_eq_false hm,decide_eq_false hn,cond_false,List.cons_append,List.nil_append,List.cons.injEq] using h
theorem aZ4 {F:(Int×List Int→Option (Int×List Int))→Int×List Int→Option (Int×List Int)}
  (hF:∀rec (n:Int) (s:List Int),0≤n→n<9223372036854775807→s.length≤34359738368→F rec (n,s)=bif decide (n>127) then rec (n/128,s++[n%128+128]) else some (n,s)):
  ∀(k:Nat) (n:Int) (s:List Int) (f:Nat),k<f→0≤n→n<128^(k+1)→k≤6→s.length+k≤34359738368→∃m q,EV.bX f F (n,s)=some (m,q)∧q++[m]=s++uvE k n∧0≤m∧m≤127
 |0,n,s,f+1,hf,h0,h1,_,hs=>by
  refine⟨n,s,?_,rfl,h0,by simp at h1;omega⟩
  rw[iW,hF _ _ _ h0 (by simp at h1;omega) (by omega),decide_eq_false (by simp at h1;omega)];rfl
 |k+1,n,s,f+1,hf,h0,h1,hk,hs=>by
  have h2:(128:Int)^(k+1+1)=128*128^(k+1):=by rw[Int.pow_succ];omega
  have h3:(128:Int)^(k+1+1)≤128^8:=by exact_mod_cast Nat.pow_le_pow_right (by omega) (by omega)
  have h4:(128:Int)^8=72057594037927936:=by decide
  rw[iW,hF _ _ _ h0 (by omega) (by omega)]
  unfold uvE
  by_cases hn:n>127
  ·rw[decide_eq_true hn,cond_true,cond_true]
   obtain⟨m,q,e1,e2,e3⟩:=aZ4 hF k (n/128) (s++[n%128+128]) f (by omega) (by omega) (by omega) (by omega) (by simp;omega)
   exact⟨m,q,e1,by rw[e2];simp,e3⟩
  ·rw[decide_eq_false hn,cond_false,cond_false]
   exact⟨n,s,rfl,rfl,h0,by omega⟩
theorem bI7 {n:Int}(h0:0≤n)(h1:n<9223372036854775808):yI .i64 n 127=n%128:=by
 obtain⟨m,rfl⟩:=Int.eq_ofNat_of_zero_le h0
 have e:((BitVec.ofInt 64 (m:Int))&&&(BitVec.ofInt 64 127)).toNat=m%128:=by
  rw[BitVec.toNat_and]
  have e1:(BitVec.ofInt 64 (m:Int)).toNat=m:=by rw[BitVec.toNat_ofInt];omega
  have e2:(BitVec.ofInt 64 127).toNat=2^7-1:=by decide
  rw[e1,e2,Nat.and_two_pow_sub_one_eq_mod]
 show IntKind.i64.wrap (((BitVec.ofInt 64 (m:Int))&&&(BitVec.ofInt 64 127)).toNat:Int)=_
 rw[e,aR (by omega) (by omega)];omega
theorem bK7 {n:Int}(h0:0≤n)(h1:n<128):orI .i64 n 128=n+128:=by
 obtain⟨m,rfl⟩:=Int.eq_ofNat_of_zero_le h0
 have e:((BitVec.ofInt 64 (m:Int))|||(BitVec.ofInt 64 128)).toNat=m+128:=by
  rw[BitVec.toNat_or]
  have e1:(BitVec.ofInt 64 (m:Int)).toNat=m:=by rw[BitVec.toNat_ofInt];omega
  have e2:(BitVec.ofInt 64 128).toNat=1<<<7:=by decide
  have:=Nat.shiftLeft_add_eq_or_of_lt (b:=m) (i:=7) (by omega) 1
  rw[e1,e2,Nat.or_comm,←this];omega
 show IntKind.i64.wrap (((BitVec.ofInt 64 (m:Int))|||(BitVec.ofInt 64 128)).toNat:Int)=_
 rw[e,aR (by omega) (by omega)];omega
theorem bLy {n:Int}(h0:0≤n):aDt .i64 n 7=n/128:=by
 unfold aDt
 rw[show min (Int.toNat 7) IntKind.i64.bits=7 from by decide,Int.fdiv_eq_ediv_of_nonneg _ (by decide)];rfl
theorem aOk {n:Int}(h0:0≤n)(h1:n≤255):IntKind.u8.wrap n=n:=by rw[IntKind.wrap_u8];omega
def enc1 (n:Int):List Int:=bif dI n 0 1000000000000 then uvE 5 n else[]
def nT (b:List Int)(n:Int):List Int:=b++enc1 n
def kT (l:List Int):List Int:=(l.map enc1).flatten
theorem aOl (n:Int):(enc1 n).length≤6:=by
 have:=(aXt 5 n).2
 unfold enc1;cases dI n 0 1000000000000<;>simp<;>omega
theorem aXu {n:Int}(h:0≤n∧n≤1000000000000):enc1 n=uvE 5 n:=by
 unfold enc1 dI;rw[decide_eq_true h.1,decide_eq_true h.2];rfl
theorem uZ (n:Int)(l:List Int):kT (n::l)=enc1 n++kT l:=rfl
theorem Z7:∀l:List Int,(kT l).length≤6*l.length
 |[]=>by simp[kT]
 |n::l=>by
  have:=Z7 l
  have:=aOl n
  rw[uZ,List.length_append,List.length_cons];omega
def aZ5 (l:List Int):Prop:=∀v∈l,0≤v∧v≤(1000000000000:Int)
theorem aZ6:∀(s t x y:List Int),aZ5 s→aZ5 t→s.length=t.length→kT s++x=kT t++y→s=t∧x=y
 |[],[],x,y,_,_,_,h=>⟨rfl,h⟩
 |m::s,n::t,x,y,hs,ht,hl,h=>by
  have hm:=hs m (by simp)
  have hn:=ht n (by simp)
  rw[uZ,uZ,List.append_assoc,List.append_assoc,aXu hm,aXu hn] at h
  obtain⟨h1,h2⟩:=bDj 5 m n _ _ hm.1 hn.1 h
  obtain⟨h3,h4⟩:=aZ6 s t x y (fun v hv=>hs v (by simp[hv])) (fun v hv=>ht v (by simp[hv])) (by simpa using hl) h2
  exact⟨by rw[h1,h3],h4⟩
theorem bDk {b:List Int}(hb:bA b){p:Nat}:∀(k i:Nat) (n m e:Int),uvG b p (k+1) i n=(m,e,true)→∃(r:Int) (q:Nat),(0≤r∧m=n+r*128^i∧m≤1000000000000∧e=(q:Int)∧q≤b.length∧(0<i→r≠0))∧b.drop (p+i)=uvE k r++b.drop q
 |k,i,n,m,e,h=>by
  unfold uvG at h
  by_cases hlt:p+i<b.length
  ·rw[if_pos hlt] at h
   have hz:=rF hb hlt
   have hg:b.getD (p+i) 0=b[p+i]:=by simp[List.getD,List.getElem?_eq_getElem hlt]
   rw[hg] at h
   have hd:b.drop (p+i)=b[p+i]::b.drop (p+i+1):=List.drop_eq_getElem_cons hlt
   generalize b[p+i]=z at hz h hd
   by_cases h128:z<128
   ·rw[decide_eq_true h128,cond_true] at h
    have hzz:z%128=z:=by omega
    rw[hzz] at h
    cases hc:(decide (0<i)&&z==0)||decide (n+z*128^i>1000000000000) with
    |true=>rw[hc] at h;simp at h
    |false=>
     rw[hc,cond_false] at h
     rw[Bool.or_eq_false_iff] at hc
     have h1:=of_decide_eq_false hc.2
     injection h with e1 e2
     injection e2 with e2 e3
     refine⟨z,p+i+1,⟨hz.1,e1.symm,by omega,e2.symm,by omega,fun hi h0=> ?_⟩,by rw[hd,bI6 (by omega)];rfl⟩
     subst h0
     simp[hi] at hc
   ·rw[decide_eq_false h128,cond_false] at h
    match k,h with
    |0,h=>simp[uvG] at h
    |k+1,h=>
     obtain⟨r,q,⟨h1,h2,h3,h4,h5,h6⟩,h7⟩:=bDk hb k (i+1) _ m e h
     have hr:=h6 (by omega)
     refine⟨z%128+128*r,q,⟨by omega,?_,h3,h4,h5,fun _=>by omega⟩,?_⟩
     ·rw[h2,Int.pow_succ,Int.add_mul,←Int.add_assoc]
      congr 1
      rw[Int.mul_comm 128 r,Int.mul_assoc,Int.mul_comm 128]
     ·rw[hd,show p+i+1=p+(i+1) from by omega,h7]
      have e1:uvE (k+1) (z%128+128*r)=z::uvE k r:=by
       rw[uvE,decide_eq_true (show z%128+128*r>127 by omega),cond_true,show(z%128+128*r)%128+128=z by omega,show(z%128+128*r)/128=r by omega]
      rw[e1];rfl
  ·rw[if_neg hlt] at h;simp at h
theorem aXv {b:List Int}(hb:bA b){a m e:Int}(h:yG b a=(m,e,true)):∃q:Nat,(0≤a∧0≤m∧m≤1000000000000∧e=(q:Int)∧q≤b.length)∧b.drop a.toNat=enc1 m++b.drop q:=by
 unfold yG at h
 by_cases h0:a<0
 ·rw[if_pos h0] at h;simp at h
 ·rw[if_neg h0] at h
  obtain⟨r,q,⟨h1,h2,h3,h4,h5,_⟩,h7⟩:=bDk hb 5 0 0 m e h
  have hm:m=r:=by rw[h2];simp
  subst hm
  exact⟨q,⟨by omega,h1,h3,h4,h5⟩,by rw[aXu ⟨h1,h3⟩];exact h7⟩
theorem Nw {b:List Int}(hb:bA b):∀(k:Nat) (a:Int) (s v:List Int) (e:Int),0≤a→a≤b.length→jT b k a s=(v,e,true)→∃(t:List Int) (q:Nat),(v=s++t∧t.length=k∧e=(q:Int)∧q≤b.length∧aZ5 t)∧b.drop a.toNat=kT t++b.drop q
 |0,a,s,v,e,h0,h1,h=>by
  unfold jT at h
  injection h with e1 e2
  injection e2 with e2 _
  exact⟨[],a.toNat,⟨by simp[e1],rfl,by omega,by omega,fun v hv=>by simp at hv⟩,rfl⟩
 |k+1,a,s,v,e,h0,h1,h=>by
  unfold jT at h
  cases hu:yG b a with
  |mk m r=>
   obtain⟨e',ok⟩:=r
   rw[hu] at h
   cases ok with
   |false=>simp at h
   |true=>
    obtain⟨q,⟨g0,g1,g2,g3,g4⟩,g5⟩:=aXv hb hu
    subst g3
    obtain⟨t,q',⟨k1,k2,k3,k4,k5⟩,k6⟩:=Nw hb k (q:Int) (s++[m]) v e (by omega) (by omega) h
    refine⟨m::t,q',⟨by rw[k1];simp,by simp[k2],k3,k4,fun x hx=> ?_⟩,by rw[g5,uZ,List.append_assoc];congr 1⟩
    rcases List.mem_cons.1 hx with rfl|hx
    ·exact⟨g1,g2⟩
    ·exact k5 x hx
theorem aOm {b:List Int}:∀(j k:Nat) (a:Int) (s:List Int),jT b (j+k) a s=bif (jT b j a s).2.2 then jT b k (jT b j a s).2.1 (jT b j a s).1 else([],0,false)
 |0,k,a,s=>by rw[Nat.zero_add];rfl
 |j+1,k,a,s=>by
  have e:∀m,jT b (m+1) a s=bif (yG b a).2.2 then jT b m (yG b a).2.1 (s++[(yG b a).1]) else([],0,false):=fun _=>rfl
  rw[show j+1+k=j+k+1 by omega,e,e]
  cases(yG b a).2.2 with
  |false=>rfl
  |true=>exact aOm j k _ _
theorem aOn {b:List Int}:∀(k:Nat) (a:Int) (s:List Int),jT b k a s=bif (jT b k a []).2.2 then(s++(jT b k a []).1,(jT b k a []).2.1,true) else([],0,false)
 |0,a,s=>by simp[jT]
 |k+1,a,s=>by
  unfold jT
  cases(yG b a).2.2 with
  |false=>rfl
  |true=>
   simp only[cond_true,List.nil_append]
   rw[aOn k _ (s++[(yG b a).1]),aOn k _ [(yG b a).1]]
   cases(jT b k (yG b a).2.1 []).2.2<;>simp
def aZ7 (e:D.Entry):List Int:=[e.Site,e.Handle,e.Version,bif e.Deleted then 1 else 0]
def kJ:List Int→List D.Entry
 |s::h::v::d::r=>⟨s,h,v,d==1⟩::kJ r
 |_=>[]
def lQ:List Int→Bool
 |_::_::_::d::r=>decide (d≤1)&&lQ r
 |_=>true
def rH (l:List D.Entry):List Int:=l.flatMap aZ7
theorem vB:∀l:List D.Entry,(rH l).length=4*l.length
 |[]=>rfl
 |e::l=>by
  have:=vB l
  simp only[rH,List.flatMap_cons,List.length_append,List.length_cons] at*
  rw[this];simp[aZ7];omega
theorem Z8:∀(k:Nat) (l:List Int),l.length=4*k→(kJ l).length=k
 |0,[],_=>rfl
 |k+1,s::h::v::d::r,hl=>by
  have:=Z8 k r (by simp at hl;omega)
  simp[kJ,this]
theorem aV5:∀(k:Nat) (l:List Int),l.length=4*k→aZ5 l→aZ5 (rH (kJ l))∧(lQ l=true↔rH (kJ l)=l)
 |0,[],_,_=>⟨fun v h=>by simp[rH,kJ] at h,by simp[lQ,rH,kJ]⟩
 |k+1,s::h::v::d::r,hl,ho=>by
  obtain⟨h1,h2⟩:=aV5 k r (by simp at hl;omega) (fun x hx=>ho x (by simp[hx]))
  have hs:=ho s (by simp)
  have hh:=ho h (by simp)
  have hv:=ho v (by simp)
  have hd:=ho d (by simp)
  have e:rH (kJ (s::h::v::d::r))=s::h::v::(bif d==1 then 1 else 0)::rH (kJ r):=by simp[kJ,rH,aZ7]
  rw[e]
  refine⟨fun x hx=> ?_,?_⟩
  ·simp only[List.mem_cons] at hx
   rcases hx with rfl|rfl|rfl|rfl|hx
   ·exact hs
   ·exact hh
   ·exact hv
   ·cases(d==1)<;>simp
   ·exact h1 x hx
  ·simp only[lQ,Bool.and_eq_true,decide_eq_true_eq,List.cons.injEq,true_and,h2]
   refine and_congr_left' ?_
   by_cases h1:d=1
   ·subst h1;simp
   ·rw[show(d==1)=false by simpa using h1,cond_false];omega
theorem aZ8:∀(k:Nat) (l r:List Int),l.length=4*k→kJ (l++r)=kJ l++kJ r
 |0,[],r,_=>rfl
 |k+1,s::h::v::d::l,r,hl=>by
  have:=aZ8 k l r (by simp at hl;omega)
  simp[kJ,this]
def rJ (b:D.aAC):List Int:=[(b.Entries.length:Int)]++rH b.Entries
def oV (b:D.aAC):List Int:=bif aK b then kT (rJ b) else[]
def bDl (d:List Int)(v:List Int×Int×Bool):D.aAC×Bool:=bif !v.2.2||(v.2.1 !=(d.length:Int)||(!lQ v.1|| !aK ⟨kJ v.1⟩)) then(⟨[]⟩,false) else(⟨kJ v.1⟩,true)
def Ny (d:List Int):D.aAC×Bool:=bif !(yG d 0).2.2||decide ((yG d 0).1>20) then(⟨[]⟩,false) else bDl d (jT d (4*(yG d 0).1).toNat (yG d 0).2.1 [])
def kK (key:Int)(s:D.aAA):D.aAC×Bool:=bif !(dY key&&(dI s.Epoch 0 1000000&&dI s.Version 0 1000000))||s.MAC !=iP key s then(⟨[]⟩,false) else Ny (aEa (lC key s.Epoch s.Version) s.Data)
theorem bHh {d:List Int}(hd:bA d){n e e':Int}{v:List Int}(h:yG d 0=(n,e,true))(hn:n≤20)(h':jT d (4*n).toNat e []=(v,e',true)):(kT (rJ ⟨kJ v⟩)=d↔(e'=(d.length:Int)∧lQ v=true))∧v.length=4*n.toNat∧aZ5 v∧(kJ v).length=n.toNat:=by
 obtain⟨q,⟨_,g1,g2,g3,g4⟩,g5⟩:=aXv hd h
 subst g3
 obtain⟨t,q',⟨k1,k2,k3,k4,k5⟩,k6⟩:=Nw hd _ _ _ _ _ (by omega) (by omega) h'
 rw[List.nil_append] at k1
 subst k1
 have hl:v.length=4*n.toNat:=by omega
 obtain⟨f1,f2⟩:=aV5 n.toNat v hl k5
 have hel:=Z8 n.toNat v hl
 refine⟨?_,hl,k5,hel⟩
 have hdd:d=kT (n::v)++d.drop q':=by
  have h0:d.drop (Int.toNat 0)=d:=rfl
  rw[uZ,List.append_assoc,←k6]
  exact h0▸g5
 have hv:rJ ⟨kJ v⟩=n::rH (kJ v):=by
  show((kJ v).length:Int)::_=_
  rw[hel];congr 1;omega
 rw[hv]
 constructor
 ·intro hq
  have hx:kT (n::rH (kJ v))++[]=kT (n::v)++d.drop q':=by rw[List.append_nil,hq];exact hdd
  have hok:∀l,aZ5 l→aZ5 (n::l):=fun l hl x hx=>by
   rcases List.mem_cons.1 hx with rfl|hx
   ·exact⟨g1,g2⟩
   ·exact hl x hx
  obtain⟨y1,y2⟩:=aZ6 _ _ _ _ (hok _ f1) (hok _ k5) (by simp[vB,hel,hl]) hx
  have:=congrArg List.length y2
  simp only[List.length_nil,List.length_drop] at this
  exact⟨by omega,f2.2 (List.cons.inj y1).2⟩
 ·rintro⟨h1,h2⟩
  rw[f2.1 h2]
  have:d.drop q'=[]:=List.drop_eq_nil_of_le (by omega)
  rw[this,List.append_nil] at hdd
  exact hdd.symm
theorem aV6 (l:List Int):(EV.aDu l).data.toList=l.map fun n=>UInt8.ofNat n.toNat:=by
 unfold EV.aDu
 have:∀(l:List Int) (r:ByteArray),(l.foldl (fun r n=>r.push (UInt8.ofNat n.toNat)) r).data.toList=r.data.toList++l.map fun n=>UInt8.ofNat n.toNat:=by
  intro l
  induction l with
  |nil=>intro r;simp
  |cons x l ih=>intro r;rw[List.foldl_cons,ih];simp
 rw[this];rfl
theorem bytes_inj:∀{a b:List Int},(∀z∈a,0≤z∧z≤255)→(∀z∈b,0≤z∧z≤255)→(a.map fun n=>UInt8.ofNat n.toNat)=(b.map fun n=>UInt8.ofNat n.toNat)→a=b
 |[],[],_,_,_=>rfl
 |[],y::b,_,_,h=>by simp at h
 |x::a,[],_,_,h=>by simp at h
 |x::a,y::b,ha,hb,h=>by
  simp only[List.map_cons,List.cons.injEq] at h
  have hx:=ha x (by simp)
  have hy:=hb y (by simp)
  have e:=congrArg UInt8.toNat h.1
  rw[UInt8.toNat_ofNat',UInt8.toNat_ofNat'] at e
  rw[bytes_inj (fun z hz=>ha z (by simp[hz])) (fun z hz=>hb z (by simp[hz])) h.2,show x=y by omega]
theorem aJi {b:List Int}(h:bA b):∀z∈b,0≤z∧z≤255:=fun z hz=>by simpa using List.all_eq_true.1 h.2 z hz
theorem aOo {b:List Int}(h:b.length≤34359738368)(h1:∀z∈b,0≤z∧z≤255):bA b:=⟨h,List.all_eq_true.2 fun z hz=>by simpa using h1 z hz⟩
theorem aV7:∀(k:Nat) (n:Int),0≤n→n<128^(k+1)→∀z∈uvE k n,0≤z∧z≤255
 |0,n,h0,h1,z,hz=>by simp[uvE] at hz;subst hz;simp at h1;omega
 |k+1,n,h0,h1,z,hz=>by
  have h2:(128:Int)^(k+1+1)=128*128^(k+1):=by rw[Int.pow_succ];omega
  unfold uvE at hz
  by_cases hn:n>127
  ·rw[decide_eq_true hn,cond_true] at hz
   rcases List.mem_cons.1 hz with rfl|hz
   ·omega
   ·exact aV7 k (n/128) (by omega) (by omega) z hz
  ·rw[decide_eq_false hn,cond_false] at hz
   simp at hz;subst hz;omega
theorem bB1 (n:Int):∀z∈enc1 n,0≤z∧z≤255:=fun z hz=>by
 unfold enc1 at hz
 cases hr:dI n 0 1000000000000 with
 |false=>rw[hr] at hz;simp at hz
 |true=>
  rw[hr] at hz
  have:=aNc hr
  have h7:(128:Int)^(5+1)=4398046511104:=by decide
  exact aV7 5 n this.1 (by omega) z hz
theorem aOp (l:List Int):∀z∈kT l,0≤z∧z≤255:=fun z hz=>by
 unfold kT at hz
 obtain⟨x,hx,hz⟩:=List.mem_flatten.1 hz
 obtain⟨n,_,rfl⟩:=List.mem_map.1 hx
 exact bB1 n z hz
theorem qI {b:D.aAC}(h:aK b=true):b.Entries.length≤20:=by
 simp only[aK,Bool.and_eq_true,decide_eq_true_eq] at h;omega
theorem aOq (b:D.aAC):bA (oV b):=by
 unfold oV
 cases hb:aK b with
 |false=>exact⟨by simp,rfl⟩
 |true=>
  have:=qI hb
  have h1:=Z7 (rJ b)
  have h2:(rJ b).length=1+4*b.Entries.length:=by simp[rJ,vB];omega
  exact aOo (by rw[cond_true];omega) (aOp _)
theorem bHi (d:List Int):(Ny d).1.sz≤20:=by
 have h0:(D.aAC.mk []).sz≤20:=by simp[D.aAC.sz]
 unfold Ny
 cases !(yG d 0).2.2||decide ((yG d 0).1>20) with
 |true=>exact h0
 |false=>
  rw[cond_false]
  generalize jT d (4*(yG d 0).1).toNat (yG d 0).2.1 []=v
  unfold bDl
  cases hb:aK ⟨kJ v.1⟩ with
  |false=>simp only[Bool.not_false,Bool.or_true,cond_true];exact h0
  |true=>
   have:=qI hb
   cases !v.2.2||(v.2.1 !=(d.length:Int)||(!lQ v.1|| !true)) with
   |true=>exact h0
   |false=>simp only[cond_false,D.aAC.sz] at*;omega
theorem aV8 (k:Int)(s:D.aAA):(kK k s).1.sz≤20:=by
 unfold kK
 cases !(dY k&&(dI s.Epoch 0 1000000&&dI s.Version 0 1000000))||s.MAC !=iP k s with
 |true=>simp[D.aAC.sz]
 |false=>exact bHi _
theorem bFa {a b:D.aAC}(h:(kY a b).2=true):(kY a b).1.sz≤20:=by
 unfold kY at*
 cases hc:aK a&&aK b with
 |false=>rw[hc] at h;cases h
 |true=>
  rw[hc] at h
  cases hm:aK ⟨dU a.Entries b.Entries⟩ with
  |false=>rw[hm] at h;cases h
  |true=>have:=qI hm;simp only[cond_true,D.aAC.sz];omega
def Ty (d:D.Device)(log:List D.aAB)(bx:D.aAE)(s:D.aAA):Int:=
 bif !dH log|| !fM log d.Log then 1 else bif !jW (aL log) (dV d.Store) then 2 else bif bx.Epoch !=bR log|| !(dK d.Store bx).2 then 3
 else bif decide (s.Epoch<bR log)||(decide (s.Epoch<d.Epoch)||(s.Epoch==d.Epoch&&decide (s.Version<d.Version))) then 4
 else bif !(kK (dK d.Store bx).1 s).2|| !(kY d.aAC (kK (dK d.Store bx).1 s).1).2 then 5 else 0
def gU (d:D.Device)(log:List D.aAB)(bx:D.aAE)(s:D.aAA):D.Device×Int:=
 bif Ty d log bx s==0 then(⟨d.Store,log,(dK d.Store bx).1,s.Epoch,s.Version,(kY d.aAC (kK (dK d.Store bx).1 s).1).1⟩,0) else(d,Ty d log bx s)
def aN (w:D.World)(d b:Int):D.World×Int:=bif dN w&&bK w d then({w with Devices:=w.Devices.set d.toNat (gU (dC w d) w.aAH.Log w.aAH.Boxes (iX w.aAH b).1).1},(gU (dC w d) w.aAH.Log w.aAH.Boxes (iX w.aAH b).1).2) else(w,1)
def Gd (w:D.World)(d:Int):Bool:=w.Stolen.getD d.toNat false
def bFb (k:Int)(i:Nat)(z:Int):Int:=IntKind.u8.wrap ((z+eQ k [(i:Int)])%256)
def oW (k:Int)(b:List Int):List Int:=Ua (fun i z=>[bFb k i z]) 0 b
def bDm (k e v:Int)(b:D.aAC):D.aAA:=⟨e,v,oW (lC k e v) (oV b),iP k ⟨e,v,oW (lC k e v) (oV b),0⟩⟩
def vR (k e v:Int)(b:D.aAC):D.aAA×Bool:=bif dY k&&(dI e 0 1000000&&dI v 0 1000000)&&aK b then(bDm k e v b,true) else(⟨0,0,[],0⟩,false)
def gG (d:D.Device):D.Device×D.aAA×Bool:=bif (vR d.Key d.Epoch (IntKind.i64.wrap (d.Version+1)) d.aAC).2 then({d with Version:=IntKind.i64.wrap (d.Version+1)},(vR d.Key d.Epoch (IntKind.i64.wrap (d.Version+1)) d.aAC).1,true) else(d,⟨0,0,[],0⟩,false)
def sM (a b:D.aAA):Bool:=decide (a.Epoch>b.Epoch)||(a.Epoch==b.Epoch&&decide (a.Version>b.Version))
def iU (c:D.aAH)(s:D.aAA):D.aAH×Bool:=bif s.Epoch !=bR c.Log||((decide ((c.History.length:Int)>0)&& !sM s (c.History.getD (c.History.length-1) default))||decide ((c.History.length:Int)≥60)) then(c,false) else({c with History:=c.History++[s]},true)
def upF (w:D.World)(d:Int):D.World×Bool:=bif (gG (dC w d)).2.2&&(iU w.aAH (gG (dC w d)).2.1).2 then({w with Devices:=w.Devices.set d.toNat (gG (dC w d)).1,aAH:=(iU w.aAH (gG (dC w d)).2.1).1},true) else(w,false)
def kE (w:D.World)(d:Int):D.World×Bool:=bif (aN w d 0).2==0&&(upF (aN w d 0).1 d).2 then((upF (aN w d 0).1 d).1,true) else(w,false)
theorem aV9 (b:D.aAC):(oV b).length≤500:=by
 unfold oV
 cases hb:aK b with
 |false=>simp
 |true=>
  have:=qI hb
  have h1:=Z7 (rJ b)
  have h2:(rJ b).length=1+4*b.Entries.length:=by simp[rJ,vB];omega
  rw[cond_true];omega
theorem Z9 (k:Int)(b:List Int):(oW k b).length=b.length:=by unfold oW;exact Nq
theorem bFc (k e v:Int)(b:D.aAC):(vR k e v b).1.Data.length≤500:=by
 unfold vR
 cases dY k&&(dI e 0 1000000&&dI v 0 1000000)&&aK b with
 |false=>simp
 |true=>simp only[cond_true,bDm,Z9];exact aV9 b
theorem aWa (d:D.Device):(gG d).1.sz=d.sz∧(gG d).2.1.Data.length≤500:=by
 unfold gG
 have:=bFc d.Key d.Epoch (IntKind.i64.wrap (d.Version+1)) d.aAC
 cases(vR d.Key d.Epoch (IntKind.i64.wrap (d.Version+1)) d.aAC).2 with
 |false=>exact⟨rfl,by simp⟩
 |true=>exact⟨rfl,this⟩
theorem bB3 (c:D.aAH)(s:D.aAA):(iU c s).1.sz≤c.sz+1+s.Data.length∧(iU c s).1.Log=c.Log:=by
 unfold iU
 cases s.Epoch !=bR c.Log||((decide ((c.History.length:Int)>0)&& !sM s (c.History.getD (c.History.length-1) default))||decide ((c.History.length:Int)≥60)) with
 |true=>exact⟨by simp only[cond_true];omega,rfl⟩
 |false=>refine⟨?_,rfl⟩;simp only[cond_false,D.aAH.sz,List.length_append,List.map_append,List.sum_append,List.length_cons,List.length_nil,List.map_cons,List.map_nil,List.sum_cons,List.sum_nil,D.aAA.sz];omega
theorem vS {α:Type}{f:α→Nat}:∀{l:List α} {i:Nat} {x:α} (hi:i<l.length),((l.set i x).map f).sum+f l[i]=(l.map f).sum+f x
 |y::l,0,x,_=>by simp only[List.set_cons_zero,List.map_cons,List.sum_cons,List.getElem_cons_zero];omega
 |y::l,i+1,x,h=>by
  have:=vS (f:=f) (l:=l) (i:=i) (x:=x) (by simpa using h)
  simp only[List.set_cons_succ,List.map_cons,List.sum_cons,List.getElem_cons_succ];omega
theorem yN {w:D.World}{d b:Int}(h:((aN w d b).2==0)=true):(dN w=true∧bK w d=true)∧(aN w d b).1.aAH=w.aAH∧(aN w d b).1.Devices.length=w.Devices.length∧(aN w d b).1.sz≤w.sz+w.aAH.Log.length+20:=by
 unfold aN at*
 cases hc:(dN w&&bK w d) with
 |false=>rw[hc] at h;cases h
 |true=>
  rw[hc] at h
  simp only[cond_true] at h ⊢
  rw[Bool.and_eq_true] at hc
  refine⟨hc,by first|rfl|trivial,by first|exact List.length_set|simp,?_⟩
  have hd:=hc.2
  simp only[bK,Bool.and_eq_true,decide_eq_true_eq] at hd
  have hi:d.toNat<w.Devices.length:=by omega
  have hz:(gU (dC w d) w.aAH.Log w.aAH.Boxes (iX w.aAH b).1).1.sz≤w.aAH.Log.length+20:=by
   unfold gU at*
   cases hs:Ty (dC w d) w.aAH.Log w.aAH.Boxes (iX w.aAH b).1==0 with
   |false=>rw[hs] at h;simp only[cond_false] at h;rw[hs] at h;cases h
   |true=>
    have hm:(kY (dC w d).aAC (kK (dK (dC w d).Store w.aAH.Boxes).1 (iX w.aAH b).1).1).2=true:=by
     cases hm:(kY (dC w d).aAC (kK (dK (dC w d).Store w.aAH.Boxes).1 (iX w.aAH b).1).1).2 with
     |true=>rfl
     |false=>
      unfold Ty at hs
      rw[hm] at hs
      revert hs
      generalize(dC w d)=x
      generalize(iX w.aAH b).1=s
      cases !dH w.aAH.Log|| !fM w.aAH.Log x.Log<;>cases !jW (aL w.aAH.Log) (dV x.Store)<;>cases w.aAH.Boxes.Epoch !=bR w.aAH.Log|| !(dK x.Store w.aAH.Boxes).2<;>cases decide (s.Epoch<bR w.aAH.Log)||(decide (s.Epoch<x.Epoch)||(s.Epoch==x.Epoch&&decide (s.Version<x.Version)))<;>cases !(kK (dK x.Store w.aAH.Boxes).1 s).2<;>simp
    have:=bFa hm
    simp only[cond_true,D.Device.sz,D.aAC.sz] at*;omega
  have h1:=vS (f:=D.Device.sz) (l:=w.Devices) (i:=d.toNat) (x:=(gU (dC w d) w.aAH.Log w.aAH.Boxes (iX w.aAH b).1).1) hi
  generalize(gU (dC w d) w.aAH.Log w.aAH.Boxes (iX w.aAH b).1).1=x at*
  simp only[D.World.sz,List.length_set] at*;omega
theorem bLz {w:D.World}{d:Int}(hd:bK w d=true):(upF w d).1.aAH.Log=w.aAH.Log∧(upF w d).1.Devices.length=w.Devices.length∧(upF w d).1.sz≤w.sz+501:=by
 unfold upF
 cases(gG (dC w d)).2.2&&(iU w.aAH (gG (dC w d)).2.1).2 with
 |false=>exact⟨rfl,rfl,by simp only[cond_false];omega⟩
 |true=>
  have hu:=bB3 w.aAH (gG (dC w d)).2.1
  have hw:=aWa (dC w d)
  simp only[bK,Bool.and_eq_true,decide_eq_true_eq] at hd
  have hi:d.toNat<w.Devices.length:=by omega
  have h1:=vS (f:=D.Device.sz) (l:=w.Devices) (i:=d.toNat) (x:=(gG (dC w d)).1) hi
  have e:w.Devices[d.toNat]=dC w d:=by simp[dC,List.getD,List.getElem?_eq_getElem hi]
  rw[e] at h1
  refine⟨hu.2,List.length_set,?_⟩
  generalize(iU w.aAH (gG (dC w d)).2.1).1=c at*
  generalize gG (dC w d)=x at*
  simp only[cond_true,D.World.sz,D.aAH.sz,List.length_set] at*;omega
theorem bI8 {w:D.World}{d:Int}(h:(kE w d).2=true):(kE w d).1.aAH.Log=w.aAH.Log∧(kE w d).1.sz≤w.sz+w.aAH.Log.length+521:=by
 unfold kE at*
 cases hc:((aN w d 0).2==0&&(upF (aN w d 0).1 d).2) with
 |false=>rw[hc] at h;cases h
 |true=>
  rw[Bool.and_eq_true] at hc
  obtain⟨⟨k1,k2⟩,k3,k4,k5⟩:=yN hc.1
  have hd:bK (aN w d 0).1 d=true:=by simp only[bK] at*;rw[k4];exact k2
  obtain⟨j1,j2,j3⟩:=bLz hd
  simp only[cond_true]
  exact⟨by rw[j1,k3],by omega⟩
theorem bHj {k z:Int}(i:Nat)(h:0≤z∧z≤255):IntKind.u8.wrap ((IntKind.i64.wrap (IntKind.i64.wrap z+eQ k [(i:Int)])).tmod 256)=bFb k i z:=by
 have:=nN k [(i:Int)]
 rw[aR (n:=z) (by omega) (by omega),aR (by omega) (by omega),Int.tmod_eq_emod_of_nonneg (by omega)];rfl
theorem bHk {k z:Int}(i:Nat)(h:0≤z∧z≤255):IntKind.u8.wrap ((IntKind.i64.wrap (IntKind.i64.wrap z+(eQ k [(i:Int)]).tmod 256)).tmod 256)=bFb k i z:=by
 have:=nN k [(i:Int)]
 rw[aR (n:=z) (by omega) (by omega),show(eQ k [(i:Int)]).tmod 256=eQ k [(i:Int)]%256 from Int.tmod_eq_emod_of_nonneg this.1,aR (by omega) (by omega),Int.tmod_eq_emod_of_nonneg (by omega),bFb]
 congr 1;omega
def eD (seed n:Int):D.aAI:=⟨1,n,dD seed [277,n],0⟩
def iC (s:D.aAI):D.Device:=⟨s,[],0,0,0,⟨[]⟩⟩
def qJ (s:D.aAI)(n:ByteArray)(h:Int):Int:=dD s.Seed [179,fK n,h]
def iB (s:D.aAI)(n:ByteArray)(h:Int):Int:=fT (qJ s n h)
def lD (s:D.aAI)(l:List Int):Int:=Ij (mQ s) l
def bI9 (log:List D.aAB)(kind dev:Int)(s:D.aAI):D.aAB:=⟨(log.length:Int),kind,dev,dV s,gT log,0⟩
def bHl (log:List D.aAB)(kind dev:Int)(s:D.aAI):D.aAB:={bI9 log kind dev s with Signature:=lD s [dE (bI9 log kind dev s)]}
def kN (log:List D.aAB)(kind dev:Int)(s:D.aAI):List D.aAB×Bool:=bif (decide ((log.length:Int)>0)&& !dH log)|| !dH (log++[bHl log kind dev s]) then(log,false) else(log++[bHl log kind dev s],true)
def aOr (p e:Int)(d:List Int):D.Box:=⟨p,e,oW (fU (fV p) e) d,Ub (fU (fV p) e) ⟨p,e,oW (fU (fV p) e) d,0⟩⟩
def gV (p e:Int)(d:List Int):D.Box×Bool:=bif fV p==0||(!dY e||decide ((d.length:Int)>200)) then(⟨0,0,[],0⟩,false) else(aOr p e d,true)
def jD (e:Int)(d:List Int):Nat→List Int→List D.Box×Bool
 |_,[]=>([],true)
 |i,p::l=>bif (gV p (IntKind.i64.wrap (e+(i:Int))) d).2&&(jD e d (i+1) l).2 then((gV p (IntKind.i64.wrap (e+(i:Int))) d).1::(jD e d (i+1) l).1,true) else([],false)
def jE (log:List D.aAB)(key eph:Int):D.aAE×Bool:=bif !dH log||(!dY key|| !(jD eph (kT [bR log,key]) 0 (aL log)).2) then(⟨0,[]⟩,false) else(⟨bR log,(jD eph (kT [bR log,key]) 0 (aL log)).1⟩,true)
def kP (e:D.aAE)(d:Int):Int:=e.Boxes.foldl (fun n b=>bif b.To==d then IntKind.i64.wrap (n+1) else n) 0
def lS (e:D.aAE)(log:List D.aAB):Bool:=(e.Epoch==bR log&&(e.Boxes.length:Int)==((aL log).length:Int))&&(aL log).all fun d=>kP e d==1
def lF (c:D.aAH)(log:List D.aAB)(e:D.aAE):D.aAH×Bool:=bif !dH log||(!fM log c.Log|| !lS e log) then(c,false) else({c with Log:=log,Boxes:=e},true)
def aEe (h:Int)(l:List D.aAJ):Nat:=(l.takeWhile fun c=>decide (c.Handle<h)).length
def aTo (l:List D.aAJ)(h p:Int):List D.aAJ:=l.take (aEe h l)++[⟨h,p,0,false⟩]++l.drop (aEe h l)
def fZ (a:D.aAG)(h p:Int):D.aAG×Bool:=bif !bU a|| !bU {a with Credentials:=aTo a.Credentials h p} then(a,false) else({a with Credentials:=aTo a.Credentials h p},true)
def iD (s:D.Site)(id h p:Int):D.Site×Bool:=bif !jC s||decide (bG s id<0) then(s,false) else bif (fZ (s.Accounts.getD (bG s id).toNat default) h p).2 then({s with Accounts:=s.Accounts.set (bG s id).toNat (fZ (s.Accounts.getD (bG s id).toNat default) h p).1},true) else(s,false)
def rM (l:List D.aAM):Nat:=bif l.any (fun n=>n.Seen) then(l.takeWhile fun n=> !n.Seen).length else 0
def Ik (l:List D.aAM):List D.aAM:=bif decide ((l.length:Int)>30) then l.take (rM l)++l.drop (rM l+1) else l
def Bn (m:D.aAK)(k a t:Int):D.aAK×Bool:=bif !fB m|| !fB ⟨Ik (m.Notices++[⟨k,a,t,false⟩])⟩ then(m,false) else(⟨Ik (m.Notices++[⟨k,a,t,false⟩])⟩,true)
def o7 (w:D.World)(by_ kind pub:Int)(key:List D.aAB→Int):D.World×Bool:=
 let l:=kN w.aAH.Log kind pub (dC w by_).Store
 let e:=jE l.1 (key l.1) (IntKind.i64.wrap (1000+IntKind.i64.wrap (10*(l.1.length:Int))))
 let c:=lF w.aAH l.1 e.1
 bif l.2&&(e.2&&c.2) then({w with aAH:=c.1},true) else(w,false)
theorem o8 (log:List D.aAB)(k d:Int)(s:D.aAI):(kN log k d s).1.length≤log.length+1:=by
 unfold kN
 cases(decide ((log.length:Int)>0)&& !dH log)|| !dH (log++[bHl log k d s])<;>simp
theorem bB4 (p e:Int)(d:List Int):(gV p e d).1.sz≤d.length:=by
 unfold gV
 cases fV p==0||(!dY e||decide ((d.length:Int)>200)) with
 |true=>simp[D.Box.sz]
 |false=>simp only[cond_false,aOr,D.Box.sz,Z9];exact Nat.le_refl _
theorem aZ9 {e:Int}{d:List Int}:∀{i:Nat} {l:List Int},(jD e d i l).1.length≤l.length∧((jD e d i l).1.map D.Box.sz).sum≤l.length*d.length
 |i,[]=>by simp[jD]
 |i,p::l=>by
  have h1:=aZ9 (e:=e) (d:=d) (i:=i+1) (l:=l)
  have h2:=bB4 p (IntKind.i64.wrap (e+(i:Int))) d
  unfold jD
  cases(gV p (IntKind.i64.wrap (e+(i:Int))) d).2&&(jD e d (i+1) l).2 with
  |false=>simp
  |true=>simp only[cond_true,List.length_cons,List.map_cons,List.sum_cons,Nat.add_mul];omega
theorem bAa (a b:Int):(kT [a,b]).length≤12:=Z7 [a,b]
theorem aEf (log:List D.aAB)(k e:Int):(jE log k e).1.sz≤13*log.length:=by
 unfold jE
 have h1:=aZ9 (e:=e) (d:=kT [bR log,k]) (i:=0) (l:=aL log)
 have h2:=gQ log
 have h3:=bAa (bR log) k
 have h4:=Nat.mul_le_mul_left (aL log).length h3
 cases !dH log||(!dY k|| !(jD e (kT [bR log,k]) 0 (aL log)).2) with
 |true=>simp[D.aAE.sz]
 |false=>simp only[cond_false,D.aAE.sz];omega
theorem bHm (c:D.aAH)(l:List D.aAB)(e:D.aAE):(lF c l e).1.sz≤c.sz+l.length+e.sz∧(lF c l e).1.History=c.History:=by
 unfold lF
 cases !dH l||(!fM l c.Log|| !lS e l) with
 |true=>exact⟨by simp only[cond_true];omega,rfl⟩
 |false=>exact⟨by simp only[cond_false,D.aAH.sz,D.aAE.sz];omega,rfl⟩
theorem bAb (l:List D.aAJ)(h p:Int):(aTo l h p).length=l.length+1:=by
 simp only[aTo,List.length_append,List.length_take,List.length_drop,List.length_singleton];omega
theorem bB5 (a:D.aAG)(h p:Int):(fZ a h p).1.sz≤a.sz+1:=by
 unfold fZ
 cases !bU a|| !bU {a with Credentials:=aTo a.Credentials h p} with
 |true=>simp only[cond_true];omega
 |false=>simp only[cond_false,D.aAG.sz,bAb];exact Nat.le_refl _
theorem aWb (l:List D.aAM):(Ik l).length≤l.length:=by
 unfold Ik
 cases decide ((l.length:Int)>30) with
 |false=>exact Nat.le_refl _
 |true=>simp only[cond_true,List.length_append,List.length_take,List.length_drop];omega
theorem bJa (m:D.aAK)(k a t:Int):(Bn m k a t).1.sz≤m.sz+1:=by
 unfold Bn
 have:=aWb (m.Notices++[⟨k,a,t,false⟩])
 simp only[List.length_append,List.length_singleton] at this
 cases !fB m|| !fB ⟨Ik (m.Notices++[⟨k,a,t,false⟩])⟩ with
 |true=>simp only[cond_true];omega
 |false=>simp only[cond_false,D.aAK.sz];omega
theorem aJj {α:Type}{p:α→Bool}{i:Nat}{l:List α}(h:decide (kD p i l<0)=false):(i:Int)≤kD p i l∧kD p i l<i+l.length:=by
 induction l generalizing i with
 |nil=>simp[kD] at h
 |cons x l ih=>
  unfold kD at h ⊢
  cases hp:p x with
  |true=>simp only[cond_true,List.length_cons];omega
  |false=>
   rw[hp] at h
   have:=ih (i:=i+1) h
   simp only[cond_false,List.length_cons];omega
theorem bFd (s:D.Site)(id h p:Int):(iD s id h p).1.sz≤s.sz+1:=by
 unfold iD
 cases hc: !jC s||decide (bG s id<0) with
 |true=>simp only[cond_true];omega
 |false=>
  rw[Bool.or_eq_false_iff] at hc
  have hr:=aJj hc.2
  simp only[cond_false]
  cases(fZ (s.Accounts.getD (bG s id).toNat default) h p).2 with
  |false=>simp only[cond_false];omega
  |true=>
   have hi:(bG s id).toNat<s.Accounts.length:=by unfold bG;omega
   have h1:=vS (f:=D.aAG.sz) (l:=s.Accounts) (i:=(bG s id).toNat) (x:=(fZ (s.Accounts.getD (bG s id).toNat default) h p).1) hi
   have h2:=bB5 (s.Accounts.getD (bG s id).toNat default) h p
   have e:s.Accounts.getD (bG s id).toNat default=s.Accounts[(bG s id).toNat]:=by simp[List.getD,List.getElem?_eq_getElem hi]
   rw[e] at h1 h2 ⊢
   simp only[cond_true,D.Site.sz,List.length_set];omega
def appW (w:D.World)(x:D.Device):D.World:={w with Devices:=w.Devices++[x],Stolen:=w.Stolen++[false]}
theorem bAc {w:D.World}(x:D.Device){d:Int}(h:bK w d=true)(hn:w.Devices.length<6):dN (appW w x)=dN w:=by
 simp only[bK,Bool.and_eq_true,decide_eq_true_eq] at h
 have e1:dI ((w.Devices++[x]).length:Int) 1 6=dI (w.Devices.length:Int) 1 6:=by
  simp only[dI,List.length_append,List.length_singleton]
  rw[decide_eq_true (show(1:Int)≤((w.Devices.length+1:Nat):Int) by omega),decide_eq_true (show((w.Devices.length+1:Nat):Int)≤6 by omega),decide_eq_true (show(1:Int)≤(w.Devices.length:Int) by omega),decide_eq_true (show(w.Devices.length:Int)≤6 by omega)]
 have e2:(((w.Stolen++[false]).length:Int)==((w.Devices++[x]).length:Int))=((w.Stolen.length:Int)==(w.Devices.length:Int)):=by
  rw[Bool.eq_iff_iff,beq_iff_eq,beq_iff_eq]
  simp only[List.length_append,List.length_singleton];omega
 unfold dN
 simp only[appW,e1,e2]
theorem bB6 {w:D.World}(x:D.Device){d:Int}(h:bK w d=true):bK (appW w x) d=true:=by
 simp only[bK,Bool.and_eq_true,decide_eq_true_eq,appW,List.length_append,List.length_singleton] at*;omega
theorem aWc {w:D.World}(x:D.Device){d:Int}(h:bK w d=true):dC (appW w x) d=dC w d:=by
 simp only[bK,Bool.and_eq_true,decide_eq_true_eq] at h
 simp only[dC,appW,List.getD,List.getElem?_append_left (show d.toNat<w.Devices.length by omega)]
theorem bHn {w:D.World}(x:D.Device){d:Int}(b:Int)(h:bK w d=true)(hn:w.Devices.length<6):aN (appW w x) d b=(appW (aN w d b).1 x,(aN w d b).2):=by
 have h':=h
 simp only[bK,Bool.and_eq_true,decide_eq_true_eq] at h'
 unfold aN
 rw[bAc x h hn,bB6 x h,aWc x h,h]
 cases dN w with
 |false=>rfl
 |true=>
  simp only[Bool.and_self,cond_true]
  congr 1
  simp only[appW,List.set_append_left _ _ (show d.toNat<w.Devices.length by omega)]
theorem bK8 {w:D.World}(x:D.Device){d:Int}(h:bK w d=true):upF (appW w x) d=(appW (upF w d).1 x,(upF w d).2):=by
 have h':=h
 simp only[bK,Bool.and_eq_true,decide_eq_true_eq] at h'
 unfold upF
 rw[aWc x h,show(appW w x).aAH=w.aAH from rfl]
 cases(gG (dC w d)).2.2&&(iU w.aAH (gG (dC w d)).2.1).2 with
 |false=>rfl
 |true=>
  simp only[cond_true,appW,List.set_append_left _ _ (show d.toNat<w.Devices.length by omega)]
theorem bHo {w:D.World}(x:D.Device){d:Int}(h:bK w d=true)(hn:w.Devices.length<6):kE (appW w x) d=(appW (kE w d).1 x,(kE w d).2):=by
 unfold kE
 rw[bHn x 0 h hn]
 cases hs:((aN w d 0).2==0) with
 |false=>simp only[Bool.false_and,cond_false]
 |true=>
  obtain⟨_,_,k4,_⟩:=yN hs
  have hd:bK (aN w d 0).1 d=true:=by simp only[bK] at*;rw[k4];exact h
  rw[bK8 x hd]
  cases(upF (aN w d 0).1 d).2<;>rfl
theorem bHp (w:D.World)(b k p:Int)(key:List D.aAB→Int):(o7 w b k p key).1.sz≤w.sz+14*(w.aAH.Log.length+1)∧(o7 w b k p key).1.aAH.Log.length≤w.aAH.Log.length+1∧(o7 w b k p key).1.Devices=w.Devices∧(o7 w b k p key).1.Sites=w.Sites:=by
 unfold o7
 dsimp only
 have h1:=o8 w.aAH.Log k p (dC w b).Store
 generalize(kN w.aAH.Log k p (dC w b).Store)=l at*
 have h2:=aEf l.1 (key l.1) (IntKind.i64.wrap (1000+IntKind.i64.wrap (10*(l.1.length:Int))))
 have h3:=(bHm w.aAH l.1 (jE l.1 (key l.1) (IntKind.i64.wrap (1000+IntKind.i64.wrap (10*(l.1.length:Int))))).1).1
 have h4:(lF w.aAH l.1 (jE l.1 (key l.1) (IntKind.i64.wrap (1000+IntKind.i64.wrap (10*(l.1.length:Int))))).1).1.Log.length≤w.aAH.Log.length+1:=by
  unfold lF
  cases !dH l.1||(!fM l.1 w.aAH.Log|| !lS (jE l.1 (key l.1) (IntKind.i64.wrap (1000+IntKind.i64.wrap (10*(l.1.length:Int))))).1 l.1) with
  |true=>simp only[cond_true];omega
  |false=>simp only[cond_false];exact h1
 generalize jE l.1 (key l.1) (IntKind.i64.wrap (1000+IntKind.i64.wrap (10*(l.1.length:Int))))=e at*
 generalize lF w.aAH l.1 e.1=c at*
 cases l.2&&(e.2&&c.2) with
 |false=>exact⟨by show w.sz≤_;omega,by show w.aAH.Log.length≤_;omega,rfl,rfl⟩
 |true=>exact⟨by show(D.World.sz {w with aAH:=c.1})≤_;simp only[D.World.sz,D.aAH.sz] at*;omega,h4,rfl,rfl⟩
def o9 (d:D.Device)(h:Int)(rm:Bool):D.Device:=(fD (fD d (aW 0) h rm).1 (aW 1) h rm).1
def iQ (st:D.aAI)(n:Int):Nat→List D.Site→List D.Site×Bool
 |_,[]=>([],true)
 |j,s::l=>bif (iD s 1 n (iB st (aW (j:Int)) n)).2&&(iQ st n (j+1) l).2 then((iD s 1 n (iB st (aW (j:Int)) n)).1::(iQ st n (j+1) l).1,true) else([],false)
def bAd (w:D.World)(k:Int):D.World:={w with Mail:=(Bn w.Mail k 1 w.Now).1}
def add1 (w:D.World)(b:Int):D.World×Bool:=o7 (aN w b 0).1 b 1 (dV (eD w.Seed (w.Devices.length:Int))) fun _=>(dC (aN w b 0).1 b).Key
def aOs (w:D.World)(b:Int):List D.Site×Bool:=iQ (eD w.Seed (w.Devices.length:Int)) (w.Devices.length:Int) 0 (add1 w b).1.Sites
def sN (w:D.World)(b:Int):D.World×Bool:=kE {(add1 w b).1 with Sites:=(aOs w b).1,Devices:=(add1 w b).1.Devices.set b.toNat (o9 (dC (add1 w b).1 b) (w.Devices.length:Int) false)} b
def Ko (w:D.World)(b:Int):D.World×Int:=aN (appW (sN w b).1 (iC (eD w.Seed (w.Devices.length:Int)))) (w.Devices.length:Int) 0
def bAe (w:D.World)(b:Int):Bool:=(dN w&&(bK w b&&(!Gd w b&& !decide ((w.Devices.length:Int)≥6))))&&((aN w b 0).2==0&&((add1 w b).2&&((aOs w b).2&&((sN w b).2&&(Ko w b).2==0))))
def kQ (w:D.World)(b:Int):D.World×Bool:=bif bAe w b then(bAd (Ko w b).1 2,true) else(w,false)
theorem bJb (d:D.Device)(h:Int)(rm:Bool):(o9 d h rm).sz≤d.sz+2:=by
 have h1:=Tx (fD d (aW 0) h rm).1 (aW 1) h rm
 have h2:=Tx d (aW 0) h rm
 unfold o9;omega
theorem aWd {st:D.aAI}{n:Int}:∀{j:Nat} {l:List D.Site},(iQ st n j l).1.length≤l.length∧((iQ st n j l).1.map D.Site.sz).sum≤(l.map D.Site.sz).sum+l.length
 |j,[]=>by simp[iQ]
 |j,s::l=>by
  have h1:=aWd (st:=st) (n:=n) (j:=j+1) (l:=l)
  have h2:=bFd s 1 n (iB st (aW (j:Int)) n)
  unfold iQ
  cases(iD s 1 n (iB st (aW (j:Int)) n)).2&&(iQ st n (j+1) l).2 with
  |false=>simp
  |true=>simp only[cond_true,List.length_cons,List.map_cons,List.sum_cons];omega
theorem bFe {w:D.World}{b:Int}(h0:((aN w b 0).2==0)=true):(bK (add1 w b).1 b=true∧(add1 w b).1.Devices.length=w.Devices.length)∧(add1 w b).1.sz≤16*w.sz+34∧(add1 w b).1.aAH.Log.length≤w.sz+1:=by
 obtain⟨⟨k1,k2⟩,k3,k4,k5⟩:=yN h0
 have hL:w.aAH.Log.length≤w.sz:=by simp only[D.World.sz,D.aAH.sz];omega
 obtain⟨g1,g2,g3,g4⟩:=bHp (aN w b 0).1 b 1 (dV (eD w.Seed (w.Devices.length:Int))) (fun _=>(dC (aN w b 0).1 b).Key)
 rw[k3] at g1 g2
 refine⟨⟨?_,by show(o7 _ _ _ _ _).1.Devices.length=_;rw[g3,k4]⟩,by unfold add1;omega,by unfold add1;omega⟩
 simp only[bK] at*
 unfold add1
 rw[g3,k4];exact k2
def nE (w:D.World)(b:Int):D.World:={(add1 w b).1 with Sites:=(aOs w b).1,Devices:=(add1 w b).1.Devices.set b.toNat (o9 (dC (add1 w b).1 b) (w.Devices.length:Int) false)}
theorem aOt {w:D.World}{b:Int}(h0:((aN w b 0).2==0)=true):(bK (nE w b) b=true∧(nE w b).Devices.length=w.Devices.length)∧(nE w b).sz≤32*w.sz+80∧(nE w b).aAH.Log.length≤w.sz+1:=by
 obtain⟨⟨h1,h2⟩,h3,h4⟩:=bFe h0
 have h5:=aWd (st:=eD w.Seed (w.Devices.length:Int)) (n:=(w.Devices.length:Int)) (j:=0) (l:=(add1 w b).1.Sites)
 have h6:=bJb (dC (add1 w b).1 b) (w.Devices.length:Int) false
 have hd:=h1
 simp only[bK,Bool.and_eq_true,decide_eq_true_eq] at hd
 have hi:b.toNat<(add1 w b).1.Devices.length:=by omega
 have h7:=vS (f:=D.Device.sz) (l:=(add1 w b).1.Devices) (i:=b.toNat) (x:=o9 (dC (add1 w b).1 b) (w.Devices.length:Int) false) hi
 have e:(add1 w b).1.Devices[b.toNat]=dC (add1 w b).1 b:=by simp[dC,List.getD,List.getElem?_eq_getElem hi]
 rw[e] at h7
 refine⟨⟨?_,by simp only[nE,List.length_set];exact h2⟩,?_,h4⟩
 ·simp only[bK,nE,List.length_set] at*;exact h1
 ·simp only[nE,aOs]
  generalize(add1 w b).1=x at*
  simp only[D.World.sz,List.length_set] at*;omega
theorem aAa (w:D.World)(x:D.Device):(appW w x).sz=w.sz+x.sz+2:=by
 simp only[appW,D.World.sz,List.length_append,List.length_singleton,List.map_append,List.map_cons,List.map_nil,List.sum_append,List.sum_cons,List.sum_nil];omega
theorem bJc (w:D.World)(k:Int):(bAd w k).sz≤w.sz+1:=by
 have:=bJa w.Mail k 1 w.Now
 simp only[bAd,D.World.sz,D.aAK.sz] at*;omega
theorem aXw {w:D.World}{b:Int}(h0:((aN w b 0).2==0)=true)(h:(sN w b).2=true):(sN w b).1.sz≤33*w.sz+602∧(sN w b).1.aAH.Log.length≤w.sz+1:=by
 obtain⟨_,h1,h2⟩:=aOt h0
 obtain⟨h3,h4⟩:=bI8 (w:=nE w b) (d:=b) h
 exact⟨by show(kE (nE w b) b).1.sz≤_;omega,by show(kE (nE w b) b).1.aAH.Log.length≤_;rw[h3];exact h2⟩
theorem bFf (w:D.World)(b:Int):(kQ w b).1.sz≤34*w.sz+700:=by
 unfold kQ
 cases hc:bAe w b with
 |false=>simp only[cond_false];omega
 |true=>
  simp only[bAe,Bool.and_eq_true] at hc
  obtain⟨_,h0,_,_,h3,h4⟩:=hc
  obtain⟨g1,g2⟩:=aXw h0 h3
  obtain⟨_,_,_,g3⟩:=yN (w:=appW (sN w b).1 (iC (eD w.Seed (w.Devices.length:Int)))) h4
  rw[aAa] at g3
  have g4:(iC (eD w.Seed (w.Devices.length:Int))).sz=0:=rfl
  have g5:(appW (sN w b).1 (iC (eD w.Seed (w.Devices.length:Int)))).aAH.Log.length≤w.sz+1:=g2
  have:=bJc (Ko w b).1 2
  have g6:(Ko w b).1.sz≤34*w.sz+690:=by show(aN _ _ 0).1.sz≤_;omega
  simp only[cond_true];omega
theorem aWe {α:Type}{p:α→Bool}:∀{l:List α} {i:Nat} (hi:i<l.length),i<(l.takeWhile p).length→p l[i]=true
 |x::l,0,_,h=>by
  simp only[List.takeWhile_cons] at h
  cases hp:p x with
  |true=>exact hp
  |false=>rw[hp] at h;simp at h
 |x::l,i+1,hi,h=>by
  simp only[List.takeWhile_cons] at h
  cases hp:p x with
  |true=>
   have h':i<(l.takeWhile p).length:=by simpa[hp] using h
   exact aWe (l:=l) (i:=i) (by simpa using hi) h'
  |false=>rw[hp] at h;simp at h
theorem aWf {α:Type}{p:α→Bool}:∀{l:List α} (h:(l.takeWhile p).length<l.length),p (l[(l.takeWhile p).length]'h)=false
 |x::l,h=>by
  cases hp:p x with
  |true=>
   have h':(l.takeWhile p).length<l.length:=by simpa[List.takeWhile_cons,hp] using h
   simpa[List.takeWhile_cons,hp] using aWf h'
  |false=>simp[List.takeWhile_cons,hp]
theorem aAb {α:Type}{p:α→Bool}{l:List α}:(l.takeWhile p).length≤l.length:=(List.takeWhile_prefix p).length_le
theorem aWg {α τ S:Type}{l:List α}(p:α→Bool)(fin:Nat→Option τ)(e:Nat→S){F:(S→Option τ)→S→Option τ}(hl:l.length≤34359738368)
  (hF:∀rec i (hi:i<l.length),F rec (e i)=bif p l[i] then rec (e (i+1)) else fin i) (hE:∀rec,F rec (e l.length)=fin l.length):EV.bX FUEL F (e 0)=fin (l.takeWhile p).length:=by
 have go:∀(k i n:Nat),i+k=(l.takeWhile p).length→k<n→EV.bX n F (e i)=fin (l.takeWhile p).length:=by
  intro k
  induction k with
  |zero=>
   intro i n hi hn
   obtain⟨n,rfl⟩:∃m,n=m+1:=⟨n-1,by omega⟩
   have:i=(l.takeWhile p).length:=by omega
   subst this
   rw[iW]
   by_cases h:(l.takeWhile p).length<l.length
   ·rw[hF _ _ h,aWf h,cond_false]
   ·have h2:(l.takeWhile p).length=l.length:=by have:=aAb (p:=p) (l:=l);omega
    rw[h2,hE]
  |succ k ih=>
   intro i n hi hn
   obtain⟨n,rfl⟩:∃m,n=m+1:=⟨n-1,by omega⟩
   have h1:i<l.length:=by have:=aAb (p:=p) (l:=l);omega
   rw[iW,hF _ _ h1,aWe (p:=p) h1 (by omega),cond_true]
   exact ih (i+1) n (by omega) (by omega)
 have:=aAb (p:=p) (l:=l)
 exact go (l.takeWhile p).length 0 FUEL (by omega) (by have:=gN;omega)
theorem aEg {e:Int}{d:List Int}{l:List Int}{τ:Type}{x:τ}{F:(List D.Box×Nat→Option (τ⊕List D.Box))→List D.Box×Nat→Option (τ⊕List D.Box)}
  (hF:∀rec i s (hi:i<l.length),s.length≤i→F rec (s,i)=bif !(gV l[i] (IntKind.i64.wrap (e+(i:Int))) d).2 then some (.inl x) else rec (s++[(gV l[i] (IntKind.i64.wrap (e+(i:Int))) d).1],i+1)) (hE:∀rec s,F rec (s,l.length)=some (.inr s)):
  ∀(k i n:Nat) (s:List D.Box),i+k=l.length→k<n→s.length≤i→EV.bX n F (s,i)=some (bif (jD e d i (l.drop i)).2 then .inr (s++(jD e d i (l.drop i)).1) else .inl x)
 |0,i,n+1,s,h,_,_=>by
  have:i=l.length:=by omega
  subst this
  rw[iW,hE,List.drop_length];simp[jD]
 |k+1,i,n+1,s,h,hn,hs=>by
  have hi:i<l.length:=by omega
  rw[iW,hF _ i s hi hs,List.drop_eq_getElem_cons hi,jD]
  cases hb:(gV l[i] (IntKind.i64.wrap (e+(i:Int))) d).2 with
  |false=>rfl
  |true=>
   rw[Bool.not_true,cond_false,aEg hF hE k (i+1) n _ (by omega) (by omega) (by simp;omega)]
   cases(jD e d (i+1) (l.drop (i+1))).2<;>simp
def bB7 (l:List D.aAM):Nat:=(l.takeWhile fun n=> !n.Seen).length
theorem bFg {l:List D.aAM}{x:D.aAM}:bB7 (l++[x])=bif l.any (fun n=>n.Seen) then bB7 l else bif x.Seen then l.length else l.length+1:=by
 induction l with
 |nil=>cases hx:x.Seen<;>simp[bB7,hx]
 |cons y l ih=>
  unfold bB7 at*
  cases hy:y.Seen with
  |true=>simp[hy]
  |false=>
   simp only[List.cons_append,List.takeWhile_cons,hy,Bool.not_false,if_true,List.length_cons,List.any_cons,Bool.false_or,ih]
   cases l.any (fun n=>n.Seen)<;>cases x.Seen<;>simp
theorem aWh {l:List D.aAM}{F:(Int×Int→Option Int)→Int×Int→Option Int}(hF:∀rec (k:Int) (i:Nat) (hi:i<l.length),F rec (k,(i:Int))=rec (bif l[i].Seen then(i:Int) else k,(i:Int)-1))(hE:∀rec k,F rec (k,-1)=some k):
  ∀(n m:Nat) (k:Int),n≤l.length→n<m→EV.bX m F (k,(n:Int)-1)=some (bif (l.take n).any (fun x=>x.Seen) then(bB7 (l.take n):Int) else k)
 |0,m+1,k,_,_=>by rw[iW,show((0:Nat):Int)-1= -1 from rfl,hE];simp
 |n+1,m+1,k,h,hm=>by
  have hn:n<l.length:=by omega
  rw[iW,show((n+1:Nat):Int)-1=(n:Int) by omega,hF _ _ n hn,aWh hF hE n m _ (by omega) (by omega),List.take_add_one,List.getElem?_eq_getElem hn]
  simp only[Option.toList_some,List.any_append,bFg,List.any_cons,List.any_nil,Bool.or_false,List.length_take,Nat.min_eq_left (Nat.le_of_lt hn)]
  cases(l.take n).any (fun x=>x.Seen)<;>cases l[n].Seen<;>rfl
theorem bAf (l:List D.aAM):(rM l:Int)=bif l.any (fun x=>x.Seen) then(bB7 l:Int) else 0:=by
 unfold rM bB7;cases l.any (fun n=>n.Seen)<;>rfl
theorem bAg {l:List D.aAM}(h:0<l.length):rM l<l.length:=by
 unfold rM
 cases hs:l.any (fun n=>n.Seen) with
 |false=>exact h
 |true=>
  obtain⟨x,hx,hp⟩:=List.any_eq_true.1 hs
  have:∀l:List D.aAM,x∈l→(l.takeWhile fun n=> !n.Seen).length<l.length:=by
   intro l
   induction l with
   |nil=>intro h;cases h
   |cons y l ih=>
    intro h
    cases hy:y.Seen with
    |true=>simp[hy]
    |false=>
     rcases List.mem_cons.1 h with rfl|h
     ·rw[hp] at hy;cases hy
     ·simpa[hy] using ih h
  exact this l hx
theorem bJd {τ S:Type}{l:List D.aAM}(fin:Int→Option τ)(st:Nat→S){F:(S→Option τ)→S→Option τ}(hl:l.length≤34359738368)(hF:∀rec i (hi:i<l.length),F rec (st i)=bif l[i].Seen then fin (i:Int) else rec (st (i+1)))(hE:∀rec,F rec (st l.length)=fin 0):EV.bX FUEL F (st 0)=fin (rM l:Int):=by
 have e:=aWg (l:=l) (fun n=> !n.Seen) (fun i=>bif decide (i<l.length) then fin (i:Int) else fin 0) st (F:=F) hl (fun rec i hi=>by
  rw[hF rec i hi,decide_eq_true hi];cases l[i].Seen<;>rfl) (fun rec=>by rw[hE,decide_eq_false (by omega)];rfl)
 rw[e,bAf]
 cases hs:l.any (fun n=>n.Seen) with
 |true=>
  have h0:0<l.length:=by cases l with|nil=>simp at hs|cons=>simp
  have:=bAg h0
  unfold rM at this
  rw[hs,cond_true] at this
  rw[decide_eq_true this];rfl
 |false=>
  have hh:∀l:List D.aAM,l.any (fun n=>n.Seen)=false→(l.takeWhile fun n=> !n.Seen).length=l.length:=by
   intro l
   induction l with
   |nil=>intro _;rfl
   |cons x l ih=>
    intro h
    simp only[List.any_cons,Bool.or_eq_false_iff] at h
    simp[h.1,ih h.2]
  have this:=hh l hs
  rw[this,decide_eq_false (by omega)];rfl
theorem bAh {e:Int}{d:List Int}{i:Nat}{l:List Int}(h:(jD e d i l).2=false):jD e d i l=([],false):=by
 cases l with
 |nil=>cases h
 |cons p l=>
  unfold jD at*
  cases hc:(gV p (IntKind.i64.wrap (e+(i:Int))) d).2&&(jD e d (i+1) l).2 with
  |true=>rw[hc] at h;cases h
  |false=>rfl
end Go.VK
