import Derived.Test.YtffpnfmhcpcaaaaGreatDoorEWptor
import Derived.Test.YtffpnfmhcpcaaaaGreatDoorXgS
/-
  Printed by wip/tools (own work of this part): models of functions, walks over the value kit, and proofs.
-/
set_option linter.unusedVariables false
set_option linter.unusedSimpArgs false
set_option maxRecDepth 100000
set_option maxHeartbeats 4000000
namespace Go.VK
open Go.RowKit Go.Proofs
theorem aDb {h v:Int}(h0:0≤h)(h1:h<2147483647):0≤hstep h v∧hstep h v<2147483647:=by
 have hm:=aT8 (p:=v) (q:=2147483647) (by omega)
 unfold hstep
 generalize oF v 2147483647=z at*
 have e1:IntKind.i64.wrap (h*1000003)=h*1000003:=aS (by omega) (by omega)
 have e2:IntKind.i64.wrap (h*1000003+z)=h*1000003+z:=aS (by omega) (by omega)
 have e3:IntKind.i64.wrap (h*1000003+z+13)=h*1000003+z+13:=aS (by omega) (by omega)
 rw[e1,e2,e3]
 exact⟨Int.tmod_nonneg _ (by omega),Int.tmod_lt_of_pos _ (by decide)⟩
theorem aS5 (l:List Int):0≤xL l∧xL l<2147483647:=by
 unfold xL
 suffices ∀(l:List Int) (h:Int),0≤h→h<2147483647→0≤l.foldl hstep h∧l.foldl hstep h<2147483647 from this l 11 (by omega) (by omega)
 intro l
 induction l with
 |nil=>intro h h0 h1;exact⟨h0,h1⟩
 |cons x xs ih=>intro h h0 h1;exact ih _ (aDb h0 h1).1 (aDb h0 h1).2
theorem rC (k:Int)(l:List Int):0≤eF k l∧eF k l<2147483647:=aS5 _
def aX2 (a b:Int):Int:=bif decide (b>a) then b else a
def lI (a:List Int)(r:List (List Int)):List Int:=a++r.flatten
def Ub (n:Int):Int:=bif n==0 then 1 else n
def eG (n:Int):Bool:=dD n 1 2147483646
def xS (b:List Int):List Int:=[(b.length:Int)]++b.map IntKind.i64.wrap
def gD (seed:Int)(l:List Int):Int:=Ub (eF seed ([151]++l))
def fZ (p:Int):Int:=bif !(eG p) then 0 else(IntKind.i64.wrap (p*48271)).tmod 2147483647
def nW (s:D.KeyStore):Int:=gD s.Seed [181]
def jS (s:D.KeyStore):Int:=fZ (nW s)
def iE (l:List Int)(x:Int):Bool:=l.any fun e=>e==x
def lJ (log:List D.LogEntry)(p:Int):Bool:=log.any fun e=>e.Kind==2&&e.Device==p
def jT (s:List Int)(e:D.LogEntry):List Int:=
 bif e.Kind==1 then(bif s.contains e.Device then s else s++[e.Device]) else bif e.Kind==2 then s.filter (fun d=>d !=e.Device) else s
def aW (log:List D.LogEntry):List Int:=log.foldl jT []
def eO (log:List D.LogEntry):Int:=log.foldl (fun n e=>bif e.Kind==2 then IntKind.i64.wrap (n+1) else n) 0
def bS (b:D.Bundle)(site handle:Int):Int:=lF (fun e=>e.Site==site&&e.Handle==handle) 0 b.Entries
theorem aDc (s:List Int)(x:D.LogEntry):(jT s x).length≤s.length+1:=by
 unfold jT
 cases x.Kind==1 with
 |true=>cases s.contains x.Device<;>simp
 |false=>
  cases x.Kind==2 with
  |true=>have:=List.length_filter_le (fun d=>d !=x.Device) s;simp;omega
  |false=>simp
theorem jB (log:List D.LogEntry):(aW log).length≤log.length:=by
 suffices ∀(l:List D.LogEntry) (s:List Int),(l.foldl jT s).length≤s.length+l.length from by simpa[aW] using this log []
 intro l
 induction l with
 |nil=>intro s;simp
 |cons x xs ih=>
  intro s
  simp only[List.foldl_cons,List.length_cons]
  have h1:=ih (jT s x)
  have h2:(jT s x).length≤s.length+1:=by
   unfold jT
   cases x.Kind==1 with
   |true=>cases s.contains x.Device<;>simp
   |false=>
    cases x.Kind==2 with
    |true=>have:=List.length_filter_le (fun d=>d !=x.Device) s;simp;omega
    |false=>simp
  omega
theorem aZz {n:Int}(h:0≤n):aX2 1 n=Ub n:=by
 unfold aX2 Ub
 rcases(show n=0∨n=1∨n>1 by omega) with rfl|rfl|h1
 ·rfl
 ·rfl
 ·have:(n==0)=false:=by simp;omega
  simp[h1,this]
def WOk (w:D.World):Prop:=w.Devices.length≤34359738368∧w.Stolen.length≤34359738368∧w.Cloud.Log.length≤34359738368∧w.Sites.length≤34359738368
instance (w:D.World):Decidable (WOk w):=inferInstanceAs (Decidable (_∧_))
def dO (w:D.World)(d:Int):Bool:=decide (0≤d)&&decide (d<w.Devices.length)
theorem aPq {w:D.World}(h:WOk w)(d:Int):dD d 0 (IntKind.i64.wrap ((w.Devices.length:Int)-1))=dO w d:=by
 have:=h.1
 rw[aS (by omega) (by omega)]
 unfold dD dO
 congr 1
 exact decide_eq_decide.2 (by omega)
def fJ (w:D.World)(d:Int):D.Device:=w.Devices.getD d.toNat default
theorem Oj {w:D.World}{d:Int}(h:dO w d=true):aT w.Devices d=some (fJ w d):=by
 simp only[dO,Bool.and_eq_true,decide_eq_true_eq] at h
 rw[aGg h.1 (by omega)]
 simp[fJ,List.getD,List.getElem?_eq_getElem (show d.toNat<w.Devices.length by omega)]
def kP (w:D.World)(d:Int):Bool:=dO w d&&iE (aW w.Cloud.Log) (jS (fJ w d).Store)
def nK (w:D.World)(i:Nat):Bool:=kP w i&&(decide (i<w.Stolen.length)&& !w.Stolen.getD i false)
def cZ (w:D.World):List Int:=((List.range w.Devices.length).filter (nK w)).map Int.ofNat
theorem aX3 (w:D.World):(List.range (min w.Devices.length w.Stolen.length)).filter (nK w)=(List.range w.Devices.length).filter (nK w):=by
 rcases Nat.le_total w.Devices.length w.Stolen.length with h|h
 ·rw[Nat.min_eq_left h]
 ·rw[Nat.min_eq_right h]
  obtain⟨k,hk⟩:=Nat.exists_eq_add_of_le h
  rw[hk,List.range_add,List.filter_append]
  have:((List.range k).map (w.Stolen.length+·)).filter (nK w)=[]:=by
   rw[List.filter_eq_nil_iff]
   intro i hi
   obtain⟨j,_,rfl⟩:=List.mem_map.1 hi
   simp[nK]
  rw[this,List.append_nil]
theorem WOk.of {w:D.World}(h:w.sz≤1048576):WOk w:=by
 simp only[D.World.sz,D.Cloud.sz] at h
 unfold WOk
 omega
def aQz (k:Int)(i:Nat)(z:Int):Int:=IntKind.u8.wrap ((z-eF k [(i:Int)])%256)
def S9 (k:Int)(b:List Int):List Int:=Oo (fun i z=>[aQz k i z]) 0 b
theorem aS6 (x:Int):oF (IntKind.i64.wrap x) 256=x%256:=by
 rw[oF,if_pos (by omega),IntKind.wrap_i64];omega
theorem aZ0 (k:Int)(i:Nat)(z:Int):IntKind.u8.wrap (oF (IntKind.i64.wrap (IntKind.i64.wrap z-eF k [(i:Int)])) 256)=aQz k i z:=by
 rw[aS6,aQz,IntKind.wrap_i64];congr 1;omega
theorem aZ1 (k:Int)(i:Nat)(z:Int):IntKind.u8.wrap (oF (IntKind.i64.wrap (IntKind.i64.wrap z-(eF k [(i:Int)]).tmod 256)) 256)=aQz k i z:=by
 rw[aS6,aQz,IntKind.wrap_i64,Int.tmod_eq_emod_of_nonneg (rC _ _).1];congr 1;omega
theorem Ir {α β:Type}{y:Nat→α→β}:∀{i:Nat} {l:List α},(Oo (fun i x=>[y i x]) i l).length=l.length
 |i,[]=>rfl
 |i,x::xs=>by simp[Oo,Ir]
def jU (p e:Int):Int:=gD p [163,e]
def aDx (k:Int)(b:D.Box):Int:=eF k ([167,b.To,b.Ephemeral]++xS b.Data)
def fF (p:Int)(b:D.Box):List Int×Bool:=
 bif !eG p||(b.To !=fZ p||(!eG b.Ephemeral||decide ((b.Data.length:Int)>200))) then([],false)
 else bif b.MAC !=aDx (jU p b.Ephemeral) b then([],false) else(S9 (jU p b.Ephemeral) b.Data,true)
def gB:List D.Box→Int→List Int×Bool
 |[],_=>([],false)
 |b::bs,p=>bif (fF p b).2 then((fF p b).1,true) else gB bs p
def bF (b:List Int):Prop:=b.length≤34359738368∧b.all (fun z=>decide (0≤z)&&decide (z≤255))=true
instance (b:List Int):Decidable (bF b):=inferInstanceAs (Decidable (_∧_))
theorem oJ {b:List Int}(h:bF b){i:Nat}(hi:i<b.length):0≤b[i]∧b[i]≤255:=by
 have:=List.all_eq_true.1 h.2 b[i] (List.getElem_mem hi)
 simpa using this
def uvG (b:List Int)(p:Nat):Nat→Nat→Int→Int×Int×Bool
 |0,_,_=>(0,0,false)
 |k+1,i,n=>
  if p+i<b.length then
   bif decide (b.getD (p+i) 0<128) then
    (bif (decide (0<i)&&b.getD (p+i) 0==0)||decide (n+b.getD (p+i) 0%128*128^i>1000000000000) then(0,0,false) else(n+b.getD (p+i) 0%128*128^i,((p+i+1:Nat):Int),true))
   else uvG b p k (i+1) (n+b.getD (p+i) 0%128*128^i)
  else(0,0,false)
def vE (b:List Int)(at_:Int):Int×Int×Bool:=if at_<0 then(0,0,false) else uvG b at_.toNat 6 0 0
theorem aQ0 {i:Nat}(h:i≤6):(1:Int)≤128^i∧(128:Int)^i≤4398046511104:=by
 match i,h with
 |0,_|1,_|2,_|3,_|4,_|5,_|6,_=>decide
theorem aQ1 {z n:Int}{i:Nat}(hi:i≤5)(hz:0≤z)(hn:0≤n)(hn':n<128^i):0≤n+z%128*128^i∧n+z%128*128^i<128^(i+1)∧0≤z%128*128^i∧z%128*128^i≤127*128^i:=by
 have hp:=aQ0 (i:=i) (by omega)
 have h1:0≤z%128*128^i:=Int.mul_nonneg (by omega) (by omega)
 have h2:z%128*128^i≤127*128^i:=Int.mul_le_mul_of_nonneg_right (by omega) (by omega)
 rw[Int.pow_succ]
 refine⟨by omega,by omega,h1,h2⟩
theorem bBb {z n:Int}{i:Nat}(hi:i≤5)(hz:0≤z)(hz':z≤255)(hn:0≤n)(hn':n<128^i):
  orI .i64 n (Yy .i64 (vG .i64 z 127) (IntKind.i64.wrap (7*(i:Int))))=n+z%128*128^i:=by
 obtain⟨m,rfl⟩:=Int.eq_ofNat_of_zero_le hz
 obtain⟨q,rfl⟩:=Int.eq_ofNat_of_zero_le hn
 have hp:=aQ0 (i:=i) (by omega)
 have hs:=aQ1 (z:=(m:Int)) (n:=(q:Int)) hi (by omega) (by omega) hn'
 have ha:vG .i64 (m:Int) 127=((m%128:Nat):Int):=by
  have e:((BitVec.ofInt 64 (m:Int))&&&(BitVec.ofInt 64 127)).toNat=m%128:=by
   rw[BitVec.toNat_and]
   have e1:(BitVec.ofInt 64 (m:Int)).toNat=m:=by
    rw[BitVec.toNat_ofInt];omega
   have e2:(BitVec.ofInt 64 127).toNat=2^7-1:=by decide
   rw[e1,e2,Nat.and_two_pow_sub_one_eq_mod]
  show IntKind.i64.wrap (((BitVec.ofInt 64 (m:Int))&&&(BitVec.ofInt 64 127)).toNat:Int)=_
  rw[e];exact aS (by omega) (by omega)
 have hw:IntKind.i64.wrap (7*(i:Int))=((7*i:Nat):Int):=by rw[aS (by omega) (by omega)];omega
 have hpn:(2:Nat)^(7*i)=128^i:=by rw[Nat.pow_mul]
 have hpi:((128^i:Nat):Int)=(128:Int)^i:=by simp
 have hb:Yy .i64 (vG .i64 (m:Int) 127) (IntKind.i64.wrap (7*(i:Int)))=((m%128*128^i:Nat):Int):=by
  rw[ha,hw]
  unfold Yy
  rw[Int.toNat_natCast,show min (7*i) IntKind.i64.bits=7*i from Nat.min_eq_left (by simp[IntKind.bits];omega)]
  have e3:((m%128:Nat):Int)*2^(7*i)=((m%128*128^i:Nat):Int):=by
   rw[←hpn];simp
  rw[e3]
  have:((m%128*128^i:Nat):Int)=(m:Int)%128*128^i:=by simp
  rw[this]
  exact aS (by omega) (by omega)
 rw[hb]
 have hqlt:q<128^i:=by rw[←hpi] at hn';exact_mod_cast hn'
 have hor:(m%128*128^i)|||q=m%128*128^i+q:=by
  have:=Nat.shiftLeft_add_eq_or_of_lt (b:=q) (i:=7*i) (by rw[hpn];exact hqlt) (m%128)
  rw[Nat.shiftLeft_eq,hpn] at this
  exact this.symm
 have hle:m%128*128^i+q<2^63:=by
  have:((m%128*128^i+q:Nat):Int)=q+(m:Int)%128*128^i:=by simp;omega
  omega
 have e4:((BitVec.ofInt 64 (q:Int))|||(BitVec.ofInt 64 ((m%128*128^i:Nat):Int))).toNat=m%128*128^i+q:=by
  rw[BitVec.toNat_or]
  have e5:(BitVec.ofInt 64 (q:Int)).toNat=q:=by rw[BitVec.toNat_ofInt];omega
  have e6:(BitVec.ofInt 64 ((m%128*128^i:Nat):Int)).toNat=m%128*128^i:=by rw[BitVec.toNat_ofInt];omega
  rw[e5,e6,Nat.or_comm,hor]
 show IntKind.i64.wrap (((BitVec.ofInt 64 (q:Int))|||(BitVec.ofInt 64 ((m%128*128^i:Nat):Int))).toNat:Int)=_
 rw[e4,aS (by omega) (by omega)]
 simp
 omega
def iP (b:List Int):Nat→Int→List Int→List Int×Int×Bool
 |0,a,s=>(s,a,true)
 |k+1,a,s=>bif (vE b a).2.2 then iP b k (vE b a).2.1 (s++[(vE b a).1]) else([],0,false)
def gU (b:List Int)(a c:Int):List Int×Int×Bool:=bif !dD c 0 100|| !dD a 0 b.length then([],0,false) else iP b c.toNat a []
theorem aS7 (b:List Int):∀(k:Nat) (a:Int) (s:List Int),(iP b k a s).2.2=true→(iP b k a s).1.length=s.length+k
 |0,a,s,_=>rfl
 |k+1,a,s,h=>by
  unfold iP at h ⊢
  cases hu:(vE b a).2.2 with
  |false=>rw[hu] at h;simp at h
  |true=>
   rw[hu] at h
   simp only[cond_true] at h ⊢
   rw[aS7 b k _ _ h];simp;omega
theorem decode_len {b:List Int}{a c:Int}(hc:0≤c)(h:(gU b a c).2.2=true):(gU b a c).1.length=c.toNat:=by
 unfold gU at h ⊢
 cases hx:(!dD c 0 100|| !dD a 0 b.length) with
 |true=>rw[hx] at h;simp at h
 |false=>
  rw[hx] at h
  simp only[cond_false] at h ⊢
  rw[aS7 _ _ _ _ h];simp
theorem aQ2 {k:Int}{b:List Int}(h:b.length≤34359738368):bF (S9 k b):=by
 refine⟨by unfold S9;rw[Ir];exact h,?_⟩
 rw[List.all_eq_true]
 intro z hz
 have:∀(b:List Int) (i:Nat),z∈Oo (fun i z=>[aQz k i z]) i b→0≤z∧z≤255:=by
  intro b
  induction b with
  |nil=>intro i h;simp[Oo] at h
  |cons x xs ih=>
   intro i h
   simp only[Oo,List.mem_append,List.mem_singleton] at h
   rcases h with rfl|h
   ·have:=dG .u8 ((x-eF k [(i:Int)])%256)
    simpa[aQz,IntKind.min,IntKind.max,IntKind.signed,IntKind.bits] using this
   ·exact ih _ h
 have:=this b 0 hz
 simp[this.1,this.2]
theorem aUz (p:Int)(b:D.Box):bF (fF p b).1:=by
 unfold fF
 have h0:bF ([]:List Int):=by decide
 by_cases hl:b.Data.length≤200
 ·cases(!eG p||(b.To !=fZ p||(!eG b.Ephemeral||decide ((b.Data.length:Int)>200))))<;>cases(b.MAC !=aDx (jU p b.Ephemeral) b)<;>first|exact h0|exact aQ2 (by omega)
 ·have e1:decide ((b.Data.length:Int)>200)=true:=by simp;omega
  rw[e1];simpa using h0
theorem Uc (p:Int):∀bs,bF (gB bs p).1
 |[]=>show bF [] by decide
 |b::bs=>by
  unfold gB
  cases(fF p b).2 with
  |true=>exact aUz p b
  |false=>exact Uc p bs
def Ud (e:D.EpochBoxes)(x:List Int×Bool)(y:List Int×Int×Bool):Int×Bool:=
 bif !x.2||(!y.2.2||(y.2.1 !=(x.1.length:Int)||(y.1.getD 0 0 !=e.Epoch|| !eG (y.1.getD 1 0)))) then(0,false) else(y.1.getD 1 0,true)
def dA (s:D.KeyStore)(e:D.EpochBoxes):Int×Bool:=Ud e (gB e.Boxes (nW s)) (gU (gB e.Boxes (nW s)).1 0 2)
theorem and_one {n:Int}(h0:0≤n)(h1:n<9223372036854775808):vG .i64 n 1=n%2:=by
 obtain⟨m,rfl⟩:=Int.eq_ofNat_of_zero_le h0
 have e:((BitVec.ofInt 64 (m:Int))&&&(BitVec.ofInt 64 1)).toNat=m%2:=by
  rw[BitVec.toNat_and]
  have e1:(BitVec.ofInt 64 (m:Int)).toNat=m:=by rw[BitVec.toNat_ofInt];omega
  have e2:(BitVec.ofInt 64 1).toNat=2^1-1:=by decide
  rw[e1,e2,Nat.and_two_pow_sub_one_eq_mod]
 show IntKind.i64.wrap (((BitVec.ofInt 64 (m:Int))&&&(BitVec.ofInt 64 1)).toNat:Int)=_
 rw[e,aS (by omega) (by omega)];omega
theorem bBc {n:Int}(h0:0≤n):P8 .i64 n 1=n/2:=by
 unfold P8
 rw[show min (Int.toNat 1) IntKind.i64.bits=1 from by decide,Int.fdiv_eq_ediv_of_nonneg _ (by decide)];rfl
def aX4:Nat→Int→Int→Int→Int
 |0,_,_,s=>s
 |k+1,b,n,s=>if n>0 then aX4 k ((IntKind.i64.wrap (b*b)).tmod 2147483647) (n/2) (bif n%2==1 then(IntKind.i64.wrap (s*b)).tmod 2147483647 else s) else s
theorem aWa:aX4 31 48271 2147483645 1=1899818559:=by decide+kernel
def jM (q:Int):Int:=bif !eG q then 0 else q*1899818559%2147483647
def Zp (p:Int)(l:List Int):Int:=bif !eG p then 0 else eF p ([139,(l.length:Int)]++l)
def jG (q:Int)(l:List Int)(g:Int):Bool:=jM q !=0&&Zp (jM q) l==g
theorem Iu {α:Type}[Inhabited α]{l:List α}{i:Nat}(h0:0<i)(hi:i<l.length)(hl:l.length≤34359738368):aT l (IntKind.i64.wrap ((i:Int)-1))=some (l.getD (i-1) default):=by
 rw[aS (by omega) (by omega),show(i:Int)-1=((i-1:Nat):Int) by omega,aG (by omega)]
 simp[List.getD,List.getElem?_eq_getElem (show i-1<l.length by omega)]
def nL (l:List D.Notice)(i:Nat)(n:D.Notice):Bool:= !dD n.Kind 1 5||(!dD n.Account 0 1000000||(!dD n.Time 0 1000000||(decide (0<i)&&decide ((l.getD (i-1) default).Time>n.Time))))
def lK (m:D.Mailbox):Bool:=decide (m.Notices.length≤30)&& !kF (nL m.Notices) 0 m.Notices
def iT (b:D.ChallengeBook)(i:Nat)(n:D.Challenge):Bool:= !dD n.Id 0 (IntKind.i64.wrap (b.Next-1))||((decide (0<i)&&decide ((b.Open.getD (i-1) default).Id≥n.Id))||(!dD n.Account 0 1000005|| !dD n.Until 0 1000005))
def lL (b:D.ChallengeBook):Bool:=dD b.Next 0 1000000&&decide (b.Open.length≤16)&& !kF (iT b) 0 b.Open
def Bt (a:D.Account)(i:Nat)(n:D.Credential):Bool:=(!dD n.Handle 0 1000000||((decide (0<i)&&decide ((a.Credentials.getD (i-1) default).Handle≥n.Handle))||(jM n.Public==0|| !dD n.Counter 0 1000000)))||(a.Credentials.take i).any fun q=>q.Public==n.Public
def fI (a:D.Account):Bool:=dD a.Id 0 1000000&&dD a.Minimum 1 3&&decide (a.Credentials.length≤8)&& !kF (Bt a) 0 a.Credentials
def dL (e:D.LogEntry):Int:=xL [229,e.Index,e.Kind,e.Device,e.By,e.Previous]
def gY (l:List D.LogEntry):Int:=bif (l.length:Int)==0 then 0 else dL (l.getD (l.length-1) default)
def nX (l:List D.LogEntry)(e:D.LogEntry):Bool:=
 e.Index==(l.length:Int)&&(e.Previous==gY l&&((iE (aW l) e.By||((l.length:Int)==0&&e.By==e.Device))&&(jG e.By [dL e] e.Signature&&
  (bif e.Kind==2 then iE (aW l) e.Device&&decide (((aW l).length:Int)>1) else !lJ l e.Device&&(e.Kind==1&&(!iE (aW l) e.Device&&decide (((aW l).length:Int)<6)))))))
def jN (l:List D.LogEntry):Bool:=dD (l.length:Int) 1 40&& !kF (fun i e=> !nX (l.take i) e) 0 l
theorem aZ2 {l:List Int}{x:Int}(h:iE l x=true):0<l.length:=by
 cases l with
 |nil=>simp[iE] at h
 |cons a r=>simp
def gP:List UInt8→List UInt8→List (List UInt8)
 |cur,[]=>[cur]
 |cur,b::r=>bif b==46 then cur::gP [] r else gP (cur++[b]) r
theorem aZ3 (s:List UInt8)(i:Nat):Lib.occAt s [46] i=decide (s[i]? =some 46):=by
 unfold Lib.occAt
 cases h:s.drop i with
 |nil=>
  have:s.length≤i:=List.drop_eq_nil_iff.1 h
  simp[List.getElem?_eq_none this,List.isPrefixOf]
 |cons b r=>
  have e:s[i]? =some b:=by
   have:=List.getElem?_drop (xs:=s) (i:=i) (j:=0)
   rw[h] at this;simpa using this.symm
  rw[e];simp only[List.isPrefixOf,Bool.and_true,Option.some.injEq]
  rw[Bool.eq_iff_iff];simp only[beq_iff_eq,decide_eq_true_eq];exact eq_comm
theorem aHx:∀(a cur r:List UInt8),(∀b∈a,b≠46)→gP cur (a++46::r)=(cur++a)::gP [] r
 |[],cur,r,_=>by simp[gP]
 |b::a,cur,r,h=>by
  have hb:(b==46)=false:=by simpa using h b (by simp)
  rw[List.cons_append,gP,hb,cond_false,aHx a _ r (fun x hx=>h x (List.mem_cons_of_mem _ hx))];simp
theorem aDd:∀(a cur:List UInt8),(∀b∈a,b≠46)→gP cur a=[cur++a]
 |[],cur,_=>by simp[gP]
 |b::a,cur,h=>by
  have hb:(b==46)=false:=by simpa using h b (by simp)
  rw[gP,hb,cond_false,aDd a _ (fun x hx=>h x (List.mem_cons_of_mem _ hx))];simp
theorem aS8:∀(n:Nat) (s:List UInt8),s.length<n→Lib.splitK [46] 0 (Lib.count s [46]) s=gP [] s
 |0,s,h=>absurd h (Nat.not_lt_zero _)
 |n+1,s,h=>by
  rcases Lib.index_spec s [46] with⟨h1,h2⟩|⟨i,h1,h2,h3,h4⟩
  ·rw[Lib.count_miss h1,aDd s [] (fun b hb e=>by
    obtain⟨j,hj,ej⟩:=List.getElem_of_mem hb
    have:=h2 j (by omega)
    rw[aZ3,List.getElem?_eq_getElem hj,ej,e] at this;simp at this)];rfl
  ·rw[aZ3] at h3
   have h3:s[i]? =some 46:=by simpa using h3
   have hi:i<s.length:=by
    rcases Nat.lt_or_ge i s.length with hlt|hge
    ·exact hlt
    ·rw[List.getElem?_eq_none hge] at h3;cases h3
   rw[Lib.count_hit (by simp) h1,Nat.add_comm,Lib.splitK,h1]
   have hne:((i:Int)== -1)=false:=by simp
   rw[hne]
   simp only[Int.toNat_natCast,Nat.add_zero,List.length_cons,List.length_nil,Nat.zero_add]
   rw[if_neg (by simp),aS8 n (s.drop (i+1)) (by rw[List.length_drop];omega)]
   have es:s=s.take i++46::s.drop (i+1):=by
    have e2:s[i]=46:=by rw[List.getElem?_eq_getElem hi] at h3;exact Option.some.inj h3
    rw[←e2,List.getElem_cons_drop hi,List.take_append_drop]
   conv=>rhs;rw[es]
   rw[aHx (s.take i) [] _ (fun b hb e=>by
    obtain⟨j,hj,ej⟩:=List.getElem_of_mem hb
    rw[List.length_take] at hj
    have:=h4 j (by omega)
    rw[aZ3,List.getElem?_eq_getElem (by omega)] at this
    rw[List.getElem_take] at ej
    rw[ej,e] at this;simp at this)];simp
def bG (s:ByteArray):List ByteArray:=(gP [] s.data.toList).map fun l=>⟨l.toArray⟩
theorem aHy (s:ByteArray):iG s ⟨#[46]⟩=bG s:=by
 have h1:(iG s ⟨#[46]⟩).map (·.data.toList)=gP [] s.data.toList:=by
  rw[iG,Lib.splitB_data];exact aS8 _ _ (Nat.lt_succ_self _)
 unfold bG
 rw[←h1,List.map_map]
 conv=>lhs;rw[←List.map_id (iG s ⟨#[46]⟩)]
 congr 1
def Zq (b:Int):Bool:=dD b 97 122||dD b 48 57||b==45
def oK (s:ByteArray):Bool:=decide (1≤s.size)&&decide (s.size≤20)&& !((bQ s).getD 0 0==45)&& !((bQ s).getD (s.size-1) 0==45)&& !((bQ s).any fun b=> !Zq b)
def gV (s:ByteArray):Bool:=decide (s.size≤60)&& !((bG s).any fun l=> !oK l)
theorem iU (s:ByteArray):(bQ s).length=s.size:=by simp only[bQ,List.length_map];rfl
theorem aS9 {s:ByteArray}{i:Nat}(h:i<s.size):aT (bQ s) (i:Int)=some ((bQ s)[i]'(by rw[iU];exact h)):=aG _
theorem ext_list (s:ByteArray)(a b:Nat):s.extract a b=⟨((s.data.toList.drop a).take (b-a)).toArray⟩:=by
 apply ByteArray.ext
 apply Array.toList_inj.1
 rw[Lib.extract_data]
theorem Ue:∀(s cur:List UInt8),(gP cur s).length≤s.length+1
 |[],_=>by simp[gP]
 |b::r,cur=>by
  rw[gP]
  cases b==46 with
  |true=>have:=Ue r [];simp;omega
  |false=>have:=Ue r (cur++[b]);simp at this ⊢;omega
theorem Iw:∀(s cur:List UInt8) (l:List UInt8),l∈gP cur s→l.length≤cur.length+s.length
 |[],cur,l,h=>by simp[gP] at h;subst h;simp
 |b::r,cur,l,h=>by
  rw[gP] at h
  cases hb:b==46 with
  |true=>
   rw[hb,cond_true] at h
   rcases List.mem_cons.1 h with rfl|h
   ·omega
   ·have:=Iw r [] l h;simp at this ⊢;omega
  |false=>rw[hb,cond_false] at h;have:=Iw r _ l h;simp at this ⊢;omega
theorem Iy (s:ByteArray):(bG s).length≤s.size+1:=by
 unfold bG;rw[List.length_map];exact Ue _ _
theorem rD (s l:ByteArray)(h:l∈bG s):l.size≤s.size:=by
 unfold bG at h
 obtain⟨q,hq,rfl⟩:=List.mem_map.1 h
 have:=Iw _ _ q hq
 have h2:(⟨q.toArray⟩:ByteArray).size=q.length:=rfl
 have h3:s.data.toList.length=s.size:=rfl
 have h4:([]:List UInt8).length=0:=rfl
 omega
theorem bDv (z:ByteArray):(z.toList==(⟨#[]⟩:ByteArray).toList)=decide (z.size=0):=by
 rw[ByteArray.toList_eq,ByteArray.toList_eq,Bool.eq_iff_iff]
 simp only[beq_iff_eq,decide_eq_true_eq]
 constructor
 ·intro h
  show z.data.size=0
  rw[←Array.length_toList,h];rfl
 ·intro h
  exact List.eq_nil_of_length_eq_zero h
theorem rE:∀(s cur:List UInt8),(gP cur s).length=s.countP (·==46)+1
 |[],_=>rfl
 |b::r,cur=>by
  rw[gP,List.countP_cons]
  cases b==46 with
  |true=>rw[cond_true,List.length_cons,rE r []];simp
  |false=>rw[cond_false,rE r _];simp
theorem aDe (s:ByteArray):0<(bG s).length:=by
 unfold bG;rw[List.length_map,rE];omega
def Ol (s:ByteArray):Bool:=(bQ s).any fun b=>b==46
theorem aMz (s:ByteArray):Ol s=decide (2≤(bG s).length):=by
 unfold Ol bG bQ
 rw[List.length_map,rE,List.any_map]
 have e:(fun b:Int=>b==46)∘(fun b:UInt8=>(b.toNat:Int))=fun b:UInt8=>b==46:=by
  funext b
  rw[Bool.eq_iff_iff]
  simp only[Function.comp,beq_iff_eq]
  constructor
  ·intro q;apply UInt8.toNat_inj.1;show _=46;omega
  ·intro q;rw[q];rfl
 rw[e,Bool.eq_iff_iff,List.any_eq_true,decide_eq_true_eq]
 have:=List.countP_pos_iff (p:=fun b:UInt8=>b==46) (l:=s.data.toList)
 constructor
 ·intro h;have:=this.2 h;omega
 ·intro h;exact this.1 (by omega)
def aX5 (s:ByteArray):ByteArray:=bif gV s then(bif (bG s).length==1 then s else kW ⟨#[46]⟩ ((bG s).drop ((bG s).length-2))) else⟨#[]⟩
theorem bBz {l:List ByteArray}(h:2≤l.length):∃a∈l,∃b∈l,kW ⟨#[46]⟩ (l.drop (l.length-2))=a++⟨#[46]⟩++b:=by
 have hl:(l.drop (l.length-2)).length=2:=by rw[List.length_drop];omega
 match hm:l.drop (l.length-2),hl with
 |[a,b],_=>
  refine⟨a,List.mem_of_mem_drop (i:=l.length-2) (by rw[hm];simp),b,List.mem_of_mem_drop (i:=l.length-2) (by rw[hm];simp),?_⟩
  rw[show[a,b]=[a]++[b] from rfl,bAi _ _ _ (by simp),bAh]
theorem Iz {s:ByteArray}(h:gV s=true):s.size≤60∧0<s.size:=by
 unfold gV at h
 rw[Bool.and_eq_true,decide_eq_true_eq] at h
 refine⟨h.1,Nat.pos_of_ne_zero fun e=> ?_⟩
 have e2:s.data.toList=[]:=List.eq_nil_of_length_eq_zero e
 have e3:bG s=[⟨#[]⟩]:=by unfold bG;rw[e2];rfl
 rw[e3] at h
 exact absurd h.2 (by decide)
theorem bBd {s:ByteArray}(h:gV s=true):decide ((aX5 s).size=0)=false:=by
 have hs:=Iz h
 have hp:=aDe s
 unfold aX5
 rw[h,cond_true]
 refine decide_eq_false ?_
 cases h1:(bG s).length==1 with
 |true=>rw[cond_true];omega
 |false=>
  rw[cond_false]
  have:(bG s).length≠1:=by simpa using h1
  obtain⟨a,_,b,_,e⟩:=bBz (l:=bG s) (by omega)
  rw[e,ByteArray.size_append,ByteArray.size_append]
  have:(⟨#[46]⟩:ByteArray).size=1:=rfl
  omega
def jV (s:ByteArray)(seed:Int):Bool:=gV s&&decide (2≤(bG s).length)&&eG seed
def Uf (l:List D.Account)(i:Nat)(n:D.Account):Bool:= !fI n||(decide (0<i)&&decide ((l.getD (i-1) default).Id≥n.Id))
def lM (s:D.Site):Bool:=jV s.Name s.Book.Seed&&decide (s.Accounts.length≤8)&&lL s.Book&& !kF (Uf s.Accounts) 0 s.Accounts
def SOk (s:D.Site):Prop:=s.Name.size≤34359738368∧s.Accounts.length≤34359738368∧s.Book.Open.length≤34359738368∧∀a∈s.Accounts,a.Credentials.length≤34359738368
instance (s:D.Site):Decidable (SOk s):=inferInstanceAs (Decidable (_∧_))
def sF (name:ByteArray)(seed:Int):D.Site:=bif jV name seed then⟨name,[],⟨seed,0,[]⟩,[]⟩ else⟨⟨#[]⟩,[],⟨0,0,[]⟩,[]⟩
theorem aU0 (name:ByteArray)(seed:Int):decide ((sF name seed).Name.size=0)= !jV name seed:=by
 unfold sF
 cases h:jV name seed with
 |false=>rfl
 |true=>
  have:gV name=true:=by unfold jV at h;rw[Bool.and_eq_true,Bool.and_eq_true] at h;exact h.1.1
  have:=Iz this
  exact decide_eq_false (by show ¬name.size=0;omega)
def iJ (i:Int):ByteArray:=bif i==0 then⟨#[98,97,110,107,46,99,111,109]⟩ else bif i==1 then⟨#[115,104,111,112,46,111,114,103]⟩ else⟨#[]⟩
def sG (i:Nat)(s:D.Site):Bool:= !lM s|| !(s.Name.toList==(iJ (i:Int)).toList)
def dS (w:D.World):Bool:=dD w.Now 0 999900&&dD (w.Devices.length:Int) 1 6&&(w.Stolen.length:Int)==(w.Devices.length:Int)&&(w.Sites.length:Int)==2&&lK w.Mail&&jN w.Cloud.Log&&eG w.Seed&& !kF sG 0 w.Sites
def bC6 (w:D.World):Prop:=WOk w∧w.Mail.Notices.length≤34359738368∧w.Hosts.length≤34359738368∧∀s∈w.Sites,SOk s
instance (w:D.World):Decidable (bC6 w):=inferInstanceAs (Decidable (_∧_))
theorem aU1 {α:Type}{g:α→Nat}{x:α}:∀{l:List α},x∈l→g x≤(l.map g).sum
 |y::r,h=>by
  rw[List.map_cons,List.sum_cons]
  rcases List.mem_cons.1 h with rfl|h
  ·omega
  ·have:=aU1 (g:=g) h;omega
theorem SOk.of {s:D.Site}(h:s.sz≤1048576):SOk s:=by
 simp only[D.Site.sz] at h
 refine⟨by omega,by omega,by omega,fun a ha=> ?_⟩
 have:=aU1 (g:=D.Account.sz) ha
 simp only[D.Account.sz] at this h
 omega
theorem bC6.of {w:D.World}(h:w.sz≤1048576):bC6 w:=by
 refine⟨WOk.of h,?_,?_,fun s hs=>SOk.of ?_⟩
 ·simp only[D.World.sz] at h;omega
 ·simp only[D.World.sz] at h;omega
 ·have:=aU1 (g:=D.Site.sz) hs
  simp only[D.World.sz] at h;omega
abbrev sH (a:List Int)(r:List (List Int)):Prop:=a.length+r.flatten.length≤68719476736∧r.length≤1099511627776
def dY (a b:D.Entry):Bool:=decide (a.Site<b.Site)||(a.Site==b.Site&&decide (a.Handle<b.Handle))
def sI (a:D.Entry)(s h:Int):Bool:=decide (a.Site<s)||(a.Site==s&&decide (a.Handle<h))
def sJ (x e:D.Entry):Bool:=decide (x.Version>e.Version)||(x.Version==e.Version&&x.Deleted)
def pR (e x:D.Entry):D.Entry:=bif sJ x e then x else e
def dI:List D.Entry→List D.Entry→List D.Entry
 |[],bs=>bs
 |a::xs,[]=>a::xs
 |a::xs,b::bs=>bif dY a b then a::dI xs (b::bs) else bif dY b a then b::dI (a::xs) bs else pR a b::dI xs bs
termination_by xs bs=>xs.length+bs.length
def aTa (l:List D.Entry)(i:Nat)(e:D.Entry):Bool:= !dD e.Site 0 2147483646||(!dD e.Handle 0 1000000||(!dD e.Version 1 1000000||(decide ((i:Int)>0)&& !dY (l.getD (i-1) default) e)))
def bB (b:D.Bundle):Bool:=decide ((b.Entries.length:Int)≤20)&& !kF (aTa b.Entries) 0 b.Entries
def jO (a b:D.Bundle):D.Bundle×Bool:=bif bB a&&bB b then(bif bB ⟨dI a.Entries b.Entries⟩ then(⟨dI a.Entries b.Entries⟩,true) else(a,false)) else(a,false)
def aX6 (b:D.Bundle)(x:D.Entry):D.Bundle:=bif decide (bS b x.Site x.Handle≥0) then⟨b.Entries.set (bS b x.Site x.Handle).toNat x⟩ else⟨b.Entries.takeWhile (fun e=>sI e x.Site x.Handle)++[x]++b.Entries.dropWhile (fun e=>sI e x.Site x.Handle)⟩
theorem xU {a b:D.Entry}:dY a b=true↔a.Site<b.Site∨(a.Site=b.Site∧a.Handle<b.Handle):=by
 simp[dY]
theorem aU2 {a x:D.Entry}:sI a x.Site x.Handle=dY a x:=rfl
theorem Ja {a b c:D.Entry}(h:dY a b=true)(k:dY b c=true):dY a c=true:=by
 rw[xU] at*;omega
theorem Ug {a b:D.Entry}(h:dY a b=false)(k:dY b a=false):a.Site=b.Site∧a.Handle=b.Handle:=by
 have h1:¬(a.Site<b.Site∨(a.Site=b.Site∧a.Handle<b.Handle)):=fun q=>by rw[xU.2 q] at h;cases h
 have h2:¬(b.Site<a.Site∨(b.Site=a.Site∧b.Handle<a.Handle)):=fun q=>by rw[xU.2 q] at k;cases k
 omega
theorem T9 {a b c:D.Entry}(h:a.Site=b.Site∧a.Handle=b.Handle):dY a c=dY b c:=by
 unfold dY;rw[h.1,h.2]
theorem aU3 {a b c:D.Entry}(h:a.Site=b.Site∧a.Handle=b.Handle):dY c a=dY c b:=by
 unfold dY;rw[h.1,h.2]
theorem aTb {a b:D.Entry}(h:a.Site=b.Site∧a.Handle=b.Handle):(pR a b).Site=b.Site∧(pR a b).Handle=b.Handle:=by
 unfold pR
 cases sJ b a
 ·exact h
 ·exact⟨rfl,rfl⟩
theorem bBe (a b:D.Entry):pR a b=a∨pR a b=b:=by
 unfold pR
 cases sJ b a
 ·exact .inl rfl
 ·exact .inr rfl
theorem dZ (l:List D.Entry):dI l []=l:=by cases l<;>rw[dI]
theorem iW (l:List D.Entry):dI [] l=l:=by rw[dI]
theorem rJ:∀(n:Nat) (a b:List D.Entry),a.length+b.length≤n→(dI a b).length≤a.length+b.length
 |_,[],b,_=>by rw[iW];simp
 |_,a::xs,[],_=>by rw[dZ];simp
 |0,a::xs,b::bs,h=>by simp at h
 |n+1,a::xs,b::bs,h=>by
  simp only[List.length_cons] at h
  rw[dI]
  cases dY a b with
  |true=>have:=rJ n xs (b::bs) (by simp only[List.length_cons];omega);simp only[cond_true,List.length_cons] at*;omega
  |false=>
   cases dY b a with
   |true=>have:=rJ n (a::xs) bs (by simp only[List.length_cons];omega);simp only[cond_false,cond_true,List.length_cons] at*;omega
   |false=>have:=rJ n xs bs (by omega);simp only[cond_false,List.length_cons] at*;omega
theorem Uh (a b:D.Entry)(xs bs:List D.Entry):dI (a::xs) (b::bs)=bif dY a b then a::dI xs (b::bs) else bif dY b a then b::dI (a::xs) bs else pR a b::dI xs bs:=by rw[dI]
def srt (l:List D.Entry):Prop:=l.Pairwise fun a b=>dY a b=true
theorem aPr:∀(A:List D.Entry) {b:D.Entry} {bs:List D.Entry},srt (b::bs)→dI (dI A [b]) bs=dI A (b::bs)
 |[],b,bs,h=>by
  rw[iW,iW]
  cases bs with
  |nil=>rw[dZ]
  |cons c cs=>rw[dI,(List.pairwise_cons.1 h).1 c (by simp),cond_true,iW]
 |a::xs,b,bs,h=>by
  have hc:=(List.pairwise_cons.1 h).1
  rw[Uh a b xs [],Uh a b xs bs]
  cases h1:dY a b with
  |true=>
   simp only[cond_true]
   cases bs with
   |nil=>rw[dZ]
   |cons c cs=>rw[dI,Ja h1 (hc c (by simp)),cond_true,aPr xs h]
  |false=>
   cases h2:dY b a with
   |true=>
    simp only[cond_true,cond_false]
    rw[dZ]
    cases bs with
    |nil=>rw[dZ,dZ]
    |cons c cs=>rw[dI,hc c (by simp),cond_true]
   |false=>
    simp only[cond_false]
    rw[dZ]
    cases bs with
    |nil=>rw[dZ,dZ]
    |cons c cs=>rw[dI,T9 (aTb (Ug h1 h2)),hc c (by simp),cond_true]
theorem aWb:∀{l:List D.Entry} {x y:D.Entry},y∈dI l [x]→y∈l∨y=x
 |[],x,y,h=>by rw[iW] at h;simp at h;exact .inr h
 |a::xs,x,y,h=>by
  rw[dI] at h
  cases h1:dY a x with
  |true=>
   rw[h1,cond_true] at h
   rcases List.mem_cons.1 h with rfl|h
   ·exact .inl (by simp)
   ·exact(aWb h).imp (fun h=>by simp[h]) id
  |false=>
   rw[h1,cond_false] at h
   cases h2:dY x a with
   |true=>
    rw[h2,cond_true,dZ] at h
    rcases List.mem_cons.1 h with rfl|h
    ·exact .inr rfl
    ·exact .inl h
   |false=>
    rw[h2,cond_false,dZ] at h
    rcases List.mem_cons.1 h with rfl|h
    ·rcases bBe a x with e|e
     ·rw[e];exact .inl (by simp)
     ·exact .inr e
    ·exact .inl (by simp[h])
theorem aWc:∀{l:List D.Entry} {x:D.Entry},srt l→srt (dI l [x])
 |[],x,h=>by rw[iW];exact List.pairwise_singleton _ _
 |a::xs,x,h=>by
  obtain⟨ha,hs⟩:=List.pairwise_cons.1 h
  rw[dI]
  cases h1:dY a x with
  |true=>
   rw[cond_true]
   refine List.pairwise_cons.2 ⟨fun y hy=> ?_,aWc hs⟩
   rcases aWb hy with hy|rfl
   ·exact ha y hy
   ·exact h1
  |false=>
   cases h2:dY x a with
   |true=>
    rw[cond_false,cond_true,dZ]
    refine List.pairwise_cons.2 ⟨fun y hy=> ?_,h⟩
    rcases List.mem_cons.1 hy with rfl|hy
    ·exact h2
    ·exact Ja h2 (ha y hy)
   |false=>
    rw[cond_false,cond_false,dZ]
    have hk:=Ug h1 h2
    refine List.pairwise_cons.2 ⟨fun y hy=> ?_,hs⟩
    rw[T9 (aTb hk),←T9 hk];exact ha y hy
theorem aHz:∀(B A:List D.Entry),srt B→B.foldl (fun o x=>dI o [x]) A=dI A B
 |[],A,_=>by rw[dZ];rfl
 |b::bs,A,h=>by rw[List.foldl_cons,aHz bs _ (List.pairwise_cons.1 h).2,aPr A h]
theorem aTc {α:Type}{p:α→Bool}:∀{l:List α} {i:Nat},lF p i l<0→∀y∈l,p y=false
 |[],i,_,y,hy=>by simp at hy
 |x::l,i,h,y,hy=>by
  simp only[lF] at h
  cases hp:p x with
  |true=>rw[hp,cond_true] at h;omega
  |false=>
   rw[hp,cond_false] at h
   rcases List.mem_cons.1 hy with rfl|hy
   ·exact hp
   ·exact aTc h y hy
theorem aPs {α:Type}{p:α→Bool}:∀{l:List α} {i:Nat},0≤lF p i l→∃l1 e l2,l=l1++e::l2∧p e=true∧lF p i l=((i+l1.length:Nat):Int)
 |[],i,h=>by simp[lF] at h
 |x::l,i,h=>by
  simp only[lF] at h ⊢
  cases hp:p x with
  |true=>exact⟨[],x,l,rfl,hp,by simp⟩
  |false=>
   rw[hp,cond_false] at h
   obtain⟨l1,e,l2,h1,h2,h3⟩:=aPs h
   exact⟨x::l1,e,l2,by rw[h1];rfl,h2,by rw[cond_false,h3];simp only[List.length_cons];omega⟩
theorem aWd:∀{l:List D.Entry} {x:D.Entry},(∀y∈l,(y.Site==x.Site&&y.Handle==x.Handle)=false)→dI l [x]=l.takeWhile (fun e=>sI e x.Site x.Handle)++[x]++l.dropWhile (fun e=>sI e x.Site x.Handle)
 |[],x,_=>by rw[iW];rfl
 |a::xs,x,h=>by
  rw[dI,List.takeWhile_cons,List.dropWhile_cons,aU2]
  cases h1:dY a x with
  |true=>simp only[cond_true,if_true];rw[aWd (fun y hy=>h y (by simp[hy]))];rfl
  |false=>
   cases h2:dY x a with
   |true=>simp only[cond_false,cond_true];rw[dZ];rfl
   |false=>
    have:=Ug h1 h2
    have:=h a (by simp)
    simp_all
theorem aWe {e x:D.Entry}{l2:List D.Entry}(he:(e.Site==x.Site&&e.Handle==x.Handle)=true):∀{l1:List D.Entry},srt (l1++e::l2)→dI (l1++e::l2) [x]=l1++pR e x::l2
 |[],_=>by
  have hk:e.Site=x.Site∧e.Handle=x.Handle:=by simpa using he
  have h1:dY e x=false:=by
   cases h:dY e x with
   |false=>rfl
   |true=>rw[xU] at h;omega
  have h2:dY x e=false:=by
   cases h:dY x e with
   |false=>rfl
   |true=>rw[xU] at h;omega
  rw[List.nil_append,dI,h1,cond_false,h2,cond_false,dZ];rfl
 |a::l1,h=>by
  obtain⟨ha,hs⟩:=List.pairwise_cons.1 h
  have hk:e.Site=x.Site∧e.Handle=x.Handle:=by simpa using he
  have h1:dY a x=true:=by rw[←aU3 hk];exact ha e (by simp)
  rw[List.cons_append,dI,h1,cond_true,aWe he hs];rfl
theorem aZ4 {l:List D.Entry}{x:D.Entry}(h:srt l):(bif (decide (bS ⟨l⟩ x.Site x.Handle<0)||sJ x (l.getD (bS ⟨l⟩ x.Site x.Handle).toNat default)) then(aX6 ⟨l⟩ x).Entries else l)=dI l [x]:=by
 unfold aX6
 by_cases hf:bS ⟨l⟩ x.Site x.Handle<0
 ·rw[decide_eq_true hf,Bool.true_or,cond_true,show decide (bS ⟨l⟩ x.Site x.Handle≥0)=false from decide_eq_false (by omega),cond_false]
  exact(aWd (aTc hf)).symm
 ·obtain⟨l1,e,l2,h1,h2,h3⟩:=aPs (show 0≤lF (fun e=>e.Site==x.Site&&e.Handle==x.Handle) 0 l from by unfold bS at hf;simp only at hf;omega)
  have h3':bS ⟨l⟩ x.Site x.Handle=(l1.length:Int):=by unfold bS;rw[h3];simp
  rw[h3',decide_eq_false (by omega),Bool.false_or,show decide ((l1.length:Int)≥0)=true from decide_eq_true (by omega),cond_true,Int.toNat_natCast]
  subst h1
  rw[aWe h2 h]
  have g:(l1++e::l2).getD l1.length default=e:=by simp[List.getD]
  have st:(l1++e::l2).set l1.length x=l1++x::l2:=by simp
  rw[g]
  show(bif sJ x e then(l1++e::l2).set l1.length x else l1++e::l2)=_
  rw[st]
  unfold pR
  cases sJ x e<;>rfl
theorem aWf {α:Type}{p:Nat→α→Bool}:∀{l:List α} {j:Nat},kF p j l=false→∀(i:Nat) (hi:i<l.length),p (j+i) l[i]=false
 |[],j,_,i,hi=>by simp at hi
 |x::l,j,h,i,hi=>by
  simp only[kF,Bool.or_eq_false_iff] at h
  cases i with
  |zero=>exact h.1
  |succ i=>have:=aWf h.2 i (by simpa using hi);rw[show j+(i+1)=j+1+i by omega];exact this
theorem aQ3 {b:D.Bundle}(h:bB b=true):b.Entries.length≤20∧srt b.Entries:=by
 simp only[bB,Bool.and_eq_true,decide_eq_true_eq,Bool.not_eq_true'] at h
 refine⟨by omega,?_⟩
 have adj:∀i (hi:i+1<b.Entries.length),dY b.Entries[i] b.Entries[i+1]=true:=fun i hi=>by
  have:=aWf h.2 (i+1) hi
  simp only[aTa,Bool.or_eq_false_iff,Nat.zero_add] at this
  have h4:=this.2.2.2
  rw[decide_eq_true (by omega),Bool.true_and] at h4
  have h5:(b.Entries.getD (i+1-1) default)=b.Entries[i]:=by rw[Nat.add_sub_cancel,List.getD,List.getElem?_eq_getElem (by omega),Option.getD_some]
  rw[h5] at h4;simpa using h4
 have far:∀d i (hi:i+d+1<b.Entries.length),dY b.Entries[i] b.Entries[i+d+1]=true:=fun d=>by
  induction d with
  |zero=>exact fun i hi=>adj i hi
  |succ d ih=>exact fun i hi=>Ja (ih i (by omega)) (adj (i+d+1) (by omega))
 refine List.pairwise_iff_getElem.2 fun i j hi hj hij=> ?_
 obtain⟨d,rfl⟩:∃d,j=i+d+1:=⟨j-i-1,by omega⟩
 exact far d i hj
theorem fM {α β:Type}{s:List α}(hs:s.length≤34359738368)(x:α)(k:Option β):gd (bO s [x]) k=k:=aH (by unfold bO;simp only[List.length_singleton];omega)
theorem jP {α β:Type}{s:List α}(hs:s.length≤34359738368)(k:Option β):gd (bO [] s) k=k:=aH (by unfold bO;simp only[List.length_nil];omega)
theorem aTd {α:Type}{l s:List α}:l.foldl (fun s x=>s++[x]) s=s++l:=by
 have:=R8 (f:=fun x:α=>[x]) (l:=l) (s:=s)
 rw[this];congr 1
 induction l with
 |nil=>rfl
 |cons x l ih=>simp[ih]
theorem Zr {α:Type}{l:List α}{F:(Nat×List α→Option (List α))→Nat×List α→Option (List α)}(hl:l.length≤34359738368)
  (hF:∀rec i s (hi:i<l.length),s.length≤34359738368→F rec (i,s)=rec (i+1,s++[l[i]])) (hE:∀rec s,F rec (l.length,s)=some s):EV.bW FUEL F (0,[])=some l:=by
 rw[aPo (l:=l) (fun s x=>s++[x]) (fun i s=>s.length=i) (fun s=>some s) (by omega) rfl (fun i s hi hv=>by simp;omega) (fun rec i s hi hv=>hF rec i s hi (by omega)) (fun rec s _=>hE rec s),aTd,List.nil_append]
theorem aZ5 {α:Type}{l:List α}{F:(List α×Nat→Option (List α))→List α×Nat→Option (List α)}(hl:l.length≤34359738368)
  (hF:∀rec i s (hi:i<l.length),s.length≤34359738368→F rec (s,i)=rec (s++[l[i]],i+1)) (hE:∀rec s,F rec (s,l.length)=some s):EV.bW FUEL F ([],0)=some l:=by
 rw[fH (l:=l) (fun s x=>s++[x]) (fun i s=>s.length=i) (fun s=>some s) (by omega) rfl (fun i s hi hv=>by simp;omega) (fun rec i s hi hv=>hF rec i s hi (by omega)) (fun rec s _=>hE rec s),aTd,List.nil_append]
abbrev szL {α:Type}(f:α→Nat)(l:List α):Nat:=l.length+(l.map f).sum
theorem kJ {S τ:Type}{F:(S→Option τ)→S→Option τ}{n:Nat}{s:S}:EV.bW (n+1) F s=F (EV.bW n F) s:=rfl
theorem kQ {α:Type}{c:Bool}{x y:α}:(bif c then some x else some y)=some (bif c then x else y):=by cases c<;>rfl
theorem Dx {c d:Bool}:(bif c then some true else some d)=some (c||d):=by cases c<;>rfl
theorem bB1 {α β:Type}{l:List α}(f:α→β){s0:List β}{F:(List β×Nat→Option (List β))→List β×Nat→Option (List β)}(hl:s0.length+l.length≤34359738368)
  (hF:∀rec i s (hi:i<l.length),s.length≤34359738368→F rec (s,i)=rec (s++[f l[i]],i+1)) (hE:∀rec s,F rec (s,l.length)=some s):EV.bW FUEL F (s0,0)=some (s0++l.map f):=by
 rw[fH (l:=l) (fun s x=>s++[f x]) (fun i s=>s.length=s0.length+i) (fun s=>some s) (by omega) (by simp) (fun i s hi hv=>by simp;omega) (fun rec i s hi hv=>hF rec i s hi (by omega)) (fun rec s _=>hE rec s),aPp]
theorem bBf {i:Int}{n:Nat}(h:n≤34359738368):(!dD i 0 (IntKind.i64.wrap ((n:Int)-1)))=(decide (i<0)||decide (i≥(n:Int))):=by
 rw[aS (by omega) (by omega)]
 unfold dD
 by_cases h0:i<0
 ·rw[decide_eq_true h0,decide_eq_false (show ¬0≤i by omega)];rfl
 ·rw[decide_eq_false h0,decide_eq_true (show 0≤i by omega)]
  by_cases h1:i≥(n:Int)
  ·rw[decide_eq_true h1,decide_eq_false (show ¬i≤(n:Int)-1 by omega)];rfl
  ·rw[decide_eq_false h1,decide_eq_true (show i≤(n:Int)-1 by omega)];rfl
theorem aTf {α:Type}[Inhabited α]{l:List α}{i:Int}(h0:0≤i)(h1:i<(l.length:Int)):aT l i=some (l.getD i.toNat default):=by
 rw[aGg h0 (by omega)];simp[List.getD,List.getElem?_eq_getElem (show i.toNat<l.length by omega)]
theorem aQ4 {i:Int}{n:Nat}(h:(decide (i<0)||decide (i≥(n:Int)))=false):0≤i∧i<(n:Int):=by
 simp only[Bool.or_eq_false_iff,decide_eq_false_iff_not] at h;omega
theorem aQ5 {α:Type}[Inhabited α]{f:α→Nat}{l:List α}{i:Nat}(h:i<l.length):f (l.getD i default)≤(l.map f).sum:=by
 rw[List.getD,List.getElem?_eq_getElem h];exact dF h
theorem aZ6 {α:Type}{n:Nat}{x:α}{β:Type}{k:Option β}(h:n≤68719476736):gd (dN n x x) k=k:=aH ⟨rfl,by omega⟩
theorem aZ7 {α:Type}[BEq α][ReflBEq α]{r:α}:(!r==r)=false:=by rw[beq_self_eq_true];rfl
def cS (l:List D.Share)(i:Nat)(k:Int):Bool:=(l.take i).any fun q=>q.Index==k
theorem bC7 {c d:Bool}:(bif c then some d else some false)=some (c&&d):=by cases c<;>rfl
theorem aWg (l:List Int):List.map (fun(n:Int)=>n) l=l:=List.map_id l
def gW (c:D.Cloud)(b:Int):D.SealedBundle×Bool:=bif decide (b<0)||decide (b≥(c.History.length:Int)) then(⟨0,0,[],0⟩,false) else(c.History.getD (c.History.length-1-b.toNat) default,true)
def bBg (a b:D.LogEntry):Bool:=a.Index==b.Index&&(a.Kind==b.Kind&&(a.Device==b.Device&&(a.By==b.By&&(a.Previous==b.Previous&&(a.Signature==b.Signature&&true)))))
def iY (a b:List D.LogEntry):Bool:=decide (b.length≤a.length)&& !kF (fun i e=> !bBg (a.getD i default) e) 0 b
def gQ (k:Int)(b:D.SealedBundle):Int:=eF k ([227,b.Epoch,b.Version]++xS b.Data)
def jQ (k e v:Int):Int:=gD k [223,e,v]
def uvE:Nat→Int→List Int
 |0,n=>[n]
 |k+1,n=>bif decide (n>127) then(n%128+128)::uvE k (n/128) else[n]
theorem aQ6:∀(k:Nat) (n:Int),1≤(uvE k n).length∧(uvE k n).length≤k+1
 |0,n=>by simp[uvE]
 |k+1,n=>by
  have:=aQ6 k (n/128)
  unfold uvE
  cases decide (n>127)<;>simp<;>omega
theorem bBh {k:Nat}{z:Int}(h:z≤127):uvE k z=[z]:=by
 cases k with
 |zero=>rfl
 |succ k=>unfold uvE;rw[decide_eq_false (by omega)];rfl
theorem aWh:∀(k:Nat) (m n:Int) (x y:List Int),0≤m→0≤n→uvE k m++x=uvE k n++y→m=n∧x=y
 |0,m,n,x,y,_,_,h=>by simpa[uvE] using h
 |k+1,m,n,x,y,h0,h1,h=>by
  unfold uvE at h
  by_cases hm:m>127<;>by_cases hn:n>127
  ·simp only[decide_eq_true hm,decide_eq_true hn,cond_true,List.cons_append,List.cons.injEq] at h
   have:=aWh k (m/128) (n/128) x y (by omega) (by omega) h.2
   exact⟨by omega,this.2⟩
  ·simp only[decide_eq_true hm,decide_eq_false hn,cond_true,cond_false,List.cons_append,List.cons.injEq] at h;omega
  ·simp only[decide_eq_false hm,decide_eq_true hn,cond_true,cond_false,List.cons_append,List.cons.injEq] at h;omega
  ·simpa only[decide_eq_false hm,decide_eq_false hn,cond_false,List.cons_append,List.nil_append,List.cons.injEq] using h
theorem aTg {F:(Int×List Int→Option (Int×List Int))→Int×List Int→Option (Int×List Int)}
  (hF:∀rec (n:Int) (s:List Int),0≤n→n<9223372036854775807→s.length≤34359738368→F rec (n,s)=bif decide (n>127) then rec (n/128,s++[n%128+128]) else some (n,s)):
  ∀(k:Nat) (n:Int) (s:List Int) (f:Nat),k<f→0≤n→n<128^(k+1)→k≤6→s.length+k≤34359738368→∃m q,EV.bW f F (n,s)=some (m,q)∧q++[m]=s++uvE k n∧0≤m∧m≤127
 |0,n,s,f+1,hf,h0,h1,_,hs=>by
  refine⟨n,s,?_,rfl,h0,by simp at h1;omega⟩
  rw[kJ,hF _ _ _ h0 (by simp at h1;omega) (by omega),decide_eq_false (by simp at h1;omega)];rfl
 |k+1,n,s,f+1,hf,h0,h1,hk,hs=>by
  have h2:(128:Int)^(k+1+1)=128*128^(k+1):=by rw[Int.pow_succ];omega
  have h3:(128:Int)^(k+1+1)≤128^8:=by exact_mod_cast Nat.pow_le_pow_right (by omega) (by omega)
  have h4:(128:Int)^8=72057594037927936:=by decide
  rw[kJ,hF _ _ _ h0 (by omega) (by omega)]
  unfold uvE
  by_cases hn:n>127
  ·rw[decide_eq_true hn,cond_true,cond_true]
   obtain⟨m,q,e1,e2,e3⟩:=aTg hF k (n/128) (s++[n%128+128]) f (by omega) (by omega) (by omega) (by omega) (by simp;omega)
   exact⟨m,q,e1,by rw[e2];simp,e3⟩
  ·rw[decide_eq_false hn,cond_false,cond_false]
   exact⟨n,s,rfl,rfl,h0,by omega⟩
theorem bBi {n:Int}(h0:0≤n)(h1:n<9223372036854775808):vG .i64 n 127=n%128:=by
 obtain⟨m,rfl⟩:=Int.eq_ofNat_of_zero_le h0
 have e:((BitVec.ofInt 64 (m:Int))&&&(BitVec.ofInt 64 127)).toNat=m%128:=by
  rw[BitVec.toNat_and]
  have e1:(BitVec.ofInt 64 (m:Int)).toNat=m:=by rw[BitVec.toNat_ofInt];omega
  have e2:(BitVec.ofInt 64 127).toNat=2^7-1:=by decide
  rw[e1,e2,Nat.and_two_pow_sub_one_eq_mod]
 show IntKind.i64.wrap (((BitVec.ofInt 64 (m:Int))&&&(BitVec.ofInt 64 127)).toNat:Int)=_
 rw[e,aS (by omega) (by omega)];omega
theorem bC8 {n:Int}(h0:0≤n)(h1:n<128):orI .i64 n 128=n+128:=by
 obtain⟨m,rfl⟩:=Int.eq_ofNat_of_zero_le h0
 have e:((BitVec.ofInt 64 (m:Int))|||(BitVec.ofInt 64 128)).toNat=m+128:=by
  rw[BitVec.toNat_or]
  have e1:(BitVec.ofInt 64 (m:Int)).toNat=m:=by rw[BitVec.toNat_ofInt];omega
  have e2:(BitVec.ofInt 64 128).toNat=1<<<7:=by decide
  have:=Nat.shiftLeft_add_eq_or_of_lt (b:=m) (i:=7) (by omega) 1
  rw[e1,e2,Nat.or_comm,←this];omega
 show IntKind.i64.wrap (((BitVec.ofInt 64 (m:Int))|||(BitVec.ofInt 64 128)).toNat:Int)=_
 rw[e,aS (by omega) (by omega)];omega
theorem bDx {n:Int}(h0:0≤n):P8 .i64 n 7=n/128:=by
 unfold P8
 rw[show min (Int.toNat 7) IntKind.i64.bits=7 from by decide,Int.fdiv_eq_ediv_of_nonneg _ (by decide)];rfl
theorem aH1 {n:Int}(h0:0≤n)(h1:n≤255):IntKind.u8.wrap n=n:=by rw[IntKind.wrap_u8];omega
def enc1 (n:Int):List Int:=bif dD n 0 1000000000000 then uvE 5 n else[]
def lN (b:List Int)(n:Int):List Int:=b++enc1 n
def rF (l:List Int):List Int:=(l.map enc1).flatten
theorem aH2 (n:Int):(enc1 n).length≤6:=by
 have:=(aQ6 5 n).2
 unfold enc1;cases dD n 0 1000000000000<;>simp<;>omega
theorem aQ7 {n:Int}(h:0≤n∧n≤1000000000000):enc1 n=uvE 5 n:=by
 unfold enc1 dD;rw[decide_eq_true h.1,decide_eq_true h.2];rfl
theorem rM (n:Int)(l:List Int):rF (n::l)=enc1 n++rF l:=rfl
theorem aH3:∀l:List Int,(rF l).length≤6*l.length
 |[]=>by simp[rF]
 |n::l=>by
  have:=aH3 l
  have:=aH2 n
  rw[rM,List.length_append,List.length_cons];omega
def aTh (l:List Int):Prop:=∀v∈l,0≤v∧v≤(1000000000000:Int)
theorem aTi:∀(s t x y:List Int),aTh s→aTh t→s.length=t.length→rF s++x=rF t++y→s=t∧x=y
 |[],[],x,y,_,_,_,h=>⟨rfl,h⟩
 |m::s,n::t,x,y,hs,ht,hl,h=>by
  have hm:=hs m (by simp)
  have hn:=ht n (by simp)
  rw[rM,rM,List.append_assoc,List.append_assoc,aQ7 hm,aQ7 hn] at h
  obtain⟨h1,h2⟩:=aWh 5 m n _ _ hm.1 hn.1 h
  obtain⟨h3,h4⟩:=aTi s t x y (fun v hv=>hs v (by simp[hv])) (fun v hv=>ht v (by simp[hv])) (by simpa using hl) h2
  exact⟨by rw[h1,h3],h4⟩
theorem aWi {b:List Int}(hb:bF b){p:Nat}:∀(k i:Nat) (n m e:Int),uvG b p (k+1) i n=(m,e,true)→∃(r:Int) (q:Nat),(0≤r∧m=n+r*128^i∧m≤1000000000000∧e=(q:Int)∧q≤b.length∧(0<i→r≠0))∧b.drop (p+i)=uvE k r++b.drop q
 |k,i,n,m,e,h=>by
  unfold uvG at h
  by_cases hlt:p+i<b.length
  ·rw[if_pos hlt] at h
   have hz:=oJ hb hlt
   have hg:b.getD (p+i) 0=b[p+i]:=by simp[List.getD,List.getElem?_eq_getElem hlt]
   rw[hg] at h
   have hd:b.drop (p+i)=b[p+i]::b.drop (p+i+1):=List.drop_eq_getElem_cons hlt
   generalize b[p+i]=z at hz h hd
   by_cases h128:z<128
   ·rw[decide_eq_true h128,cond_true] at h
    have hzz:z%128=z:=by omega
    rw[hzz] at h
    cases hc:(decide (0<i)&&z==0)||decide (n+z*128^i>1000000000000) with
    |true=>rw[hc] at h;simp at h
    |false=>
     rw[hc,cond_false] at h
     rw[Bool.or_eq_false_iff] at hc
     have h1:=of_decide_eq_false hc.2
     injection h with e1 e2
     injection e2 with e2 e3
     refine⟨z,p+i+1,⟨hz.1,e1.symm,by omega,e2.symm,by omega,fun hi h0=> ?_⟩,by rw[hd,bBh (by omega)];rfl⟩
     subst h0
     simp[hi] at hc
   ·rw[decide_eq_false h128,cond_false] at h
    match k,h with
    |0,h=>simp[uvG] at h
    |k+1,h=>
     obtain⟨r,q,⟨h1,h2,h3,h4,h5,h6⟩,h7⟩:=aWi hb k (i+1) _ m e h
     have hr:=h6 (by omega)
     refine⟨z%128+128*r,q,⟨by omega,?_,h3,h4,h5,fun _=>by omega⟩,?_⟩
     ·rw[h2,Int.pow_succ,Int.add_mul,←Int.add_assoc]
      congr 1
      rw[Int.mul_comm 128 r,Int.mul_assoc,Int.mul_comm 128]
     ·rw[hd,show p+i+1=p+(i+1) from by omega,h7]
      have e1:uvE (k+1) (z%128+128*r)=z::uvE k r:=by
       rw[uvE,decide_eq_true (show z%128+128*r>127 by omega),cond_true,show(z%128+128*r)%128+128=z by omega,show(z%128+128*r)/128=r by omega]
      rw[e1];rfl
  ·rw[if_neg hlt] at h;simp at h
theorem aQ8 {b:List Int}(hb:bF b){a m e:Int}(h:vE b a=(m,e,true)):∃q:Nat,(0≤a∧0≤m∧m≤1000000000000∧e=(q:Int)∧q≤b.length)∧b.drop a.toNat=enc1 m++b.drop q:=by
 unfold vE at h
 by_cases h0:a<0
 ·rw[if_pos h0] at h;simp at h
 ·rw[if_neg h0] at h
  obtain⟨r,q,⟨h1,h2,h3,h4,h5,_⟩,h7⟩:=aWi hb 5 0 0 m e h
  have hm:m=r:=by rw[h2];simp
  subst hm
  exact⟨q,⟨by omega,h1,h3,h4,h5⟩,by rw[aQ7 ⟨h1,h3⟩];exact h7⟩
theorem Jb {b:List Int}(hb:bF b):∀(k:Nat) (a:Int) (s v:List Int) (e:Int),0≤a→a≤b.length→iP b k a s=(v,e,true)→∃(t:List Int) (q:Nat),(v=s++t∧t.length=k∧e=(q:Int)∧q≤b.length∧aTh t)∧b.drop a.toNat=rF t++b.drop q
 |0,a,s,v,e,h0,h1,h=>by
  unfold iP at h
  injection h with e1 e2
  injection e2 with e2 _
  exact⟨[],a.toNat,⟨by simp[e1],rfl,by omega,by omega,fun v hv=>by simp at hv⟩,rfl⟩
 |k+1,a,s,v,e,h0,h1,h=>by
  unfold iP at h
  cases hu:vE b a with
  |mk m r=>
   obtain⟨e',ok⟩:=r
   rw[hu] at h
   cases ok with
   |false=>simp at h
   |true=>
    obtain⟨q,⟨g0,g1,g2,g3,g4⟩,g5⟩:=aQ8 hb hu
    subst g3
    obtain⟨t,q',⟨k1,k2,k3,k4,k5⟩,k6⟩:=Jb hb k (q:Int) (s++[m]) v e (by omega) (by omega) h
    refine⟨m::t,q',⟨by rw[k1];simp,by simp[k2],k3,k4,fun x hx=> ?_⟩,by rw[g5,rM,List.append_assoc];congr 1⟩
    rcases List.mem_cons.1 hx with rfl|hx
    ·exact⟨g1,g2⟩
    ·exact k5 x hx
theorem aH4 {b:List Int}:∀(j k:Nat) (a:Int) (s:List Int),iP b (j+k) a s=bif (iP b j a s).2.2 then iP b k (iP b j a s).2.1 (iP b j a s).1 else([],0,false)
 |0,k,a,s=>by rw[Nat.zero_add];rfl
 |j+1,k,a,s=>by
  have e:∀m,iP b (m+1) a s=bif (vE b a).2.2 then iP b m (vE b a).2.1 (s++[(vE b a).1]) else([],0,false):=fun _=>rfl
  rw[show j+1+k=j+k+1 by omega,e,e]
  cases(vE b a).2.2 with
  |false=>rfl
  |true=>exact aH4 j k _ _
theorem aH5 {b:List Int}:∀(k:Nat) (a:Int) (s:List Int),iP b k a s=bif (iP b k a []).2.2 then(s++(iP b k a []).1,(iP b k a []).2.1,true) else([],0,false)
 |0,a,s=>by simp[iP]
 |k+1,a,s=>by
  unfold iP
  cases(vE b a).2.2 with
  |false=>rfl
  |true=>
   simp only[cond_true,List.nil_append]
   rw[aH5 k _ (s++[(vE b a).1]),aH5 k _ [(vE b a).1]]
   cases(iP b k (vE b a).2.1 []).2.2<;>simp
def aTj (e:D.Entry):List Int:=[e.Site,e.Handle,e.Version,bif e.Deleted then 1 else 0]
def jD:List Int→List D.Entry
 |s::h::v::d::r=>⟨s,h,v,d==1⟩::jD r
 |_=>[]
def jW:List Int→Bool
 |_::_::_::d::r=>decide (d≤1)&&jW r
 |_=>true
def oL (l:List D.Entry):List Int:=l.flatMap aTj
theorem rO:∀l:List D.Entry,(oL l).length=4*l.length
 |[]=>rfl
 |e::l=>by
  have:=rO l
  simp only[oL,List.flatMap_cons,List.length_append,List.length_cons] at*
  rw[this];simp[aTj];omega
theorem Zt:∀(k:Nat) (l:List Int),l.length=4*k→(jD l).length=k
 |0,[],_=>rfl
 |k+1,s::h::v::d::r,hl=>by
  have:=Zt k r (by simp at hl;omega)
  simp[jD,this]
theorem aPt:∀(k:Nat) (l:List Int),l.length=4*k→aTh l→aTh (oL (jD l))∧(jW l=true↔oL (jD l)=l)
 |0,[],_,_=>⟨fun v h=>by simp[oL,jD] at h,by simp[jW,oL,jD]⟩
 |k+1,s::h::v::d::r,hl,ho=>by
  obtain⟨h1,h2⟩:=aPt k r (by simp at hl;omega) (fun x hx=>ho x (by simp[hx]))
  have hs:=ho s (by simp)
  have hh:=ho h (by simp)
  have hv:=ho v (by simp)
  have hd:=ho d (by simp)
  have e:oL (jD (s::h::v::d::r))=s::h::v::(bif d==1 then 1 else 0)::oL (jD r):=by simp[jD,oL,aTj]
  rw[e]
  refine⟨fun x hx=> ?_,?_⟩
  ·simp only[List.mem_cons] at hx
   rcases hx with rfl|rfl|rfl|rfl|hx
   ·exact hs
   ·exact hh
   ·exact hv
   ·cases(d==1)<;>simp
   ·exact h1 x hx
  ·simp only[jW,Bool.and_eq_true,decide_eq_true_eq,List.cons.injEq,true_and,h2]
   refine and_congr_left' ?_
   by_cases h1:d=1
   ·subst h1;simp
   ·rw[show(d==1)=false by simpa using h1,cond_false];omega
theorem aTk:∀(k:Nat) (l r:List Int),l.length=4*k→jD (l++r)=jD l++jD r
 |0,[],r,_=>rfl
 |k+1,s::h::v::d::l,r,hl=>by
  have:=aTk k l r (by simp at hl;omega)
  simp[jD,this]
def oM (b:D.Bundle):List Int:=[(b.Entries.length:Int)]++oL b.Entries
def mO (b:D.Bundle):List Int:=bif bB b then rF (oM b) else[]
def aWj (d:List Int)(v:List Int×Int×Bool):D.Bundle×Bool:=bif !v.2.2||(v.2.1 !=(d.length:Int)||(!jW v.1|| !bB ⟨jD v.1⟩)) then(⟨[]⟩,false) else(⟨jD v.1⟩,true)
def Jc (d:List Int):D.Bundle×Bool:=bif !(vE d 0).2.2||decide ((vE d 0).1>20) then(⟨[]⟩,false) else aWj d (iP d (4*(vE d 0).1).toNat (vE d 0).2.1 [])
def jE (key:Int)(s:D.SealedBundle):D.Bundle×Bool:=bif !(eG key&&(dD s.Epoch 0 1000000&&dD s.Version 0 1000000))||s.MAC !=gQ key s then(⟨[]⟩,false) else Jc (S9 (jQ key s.Epoch s.Version) s.Data)
theorem aZ8 {d:List Int}(hd:bF d){n e e':Int}{v:List Int}(h:vE d 0=(n,e,true))(hn:n≤20)(h':iP d (4*n).toNat e []=(v,e',true)):(rF (oM ⟨jD v⟩)=d↔(e'=(d.length:Int)∧jW v=true))∧v.length=4*n.toNat∧aTh v∧(jD v).length=n.toNat:=by
 obtain⟨q,⟨_,g1,g2,g3,g4⟩,g5⟩:=aQ8 hd h
 subst g3
 obtain⟨t,q',⟨k1,k2,k3,k4,k5⟩,k6⟩:=Jb hd _ _ _ _ _ (by omega) (by omega) h'
 rw[List.nil_append] at k1
 subst k1
 have hl:v.length=4*n.toNat:=by omega
 obtain⟨f1,f2⟩:=aPt n.toNat v hl k5
 have hel:=Zt n.toNat v hl
 refine⟨?_,hl,k5,hel⟩
 have hdd:d=rF (n::v)++d.drop q':=by
  have h0:d.drop (Int.toNat 0)=d:=rfl
  rw[rM,List.append_assoc,←k6]
  exact h0▸g5
 have hv:oM ⟨jD v⟩=n::oL (jD v):=by
  show((jD v).length:Int)::_=_
  rw[hel];congr 1;omega
 rw[hv]
 constructor
 ·intro hq
  have hx:rF (n::oL (jD v))++[]=rF (n::v)++d.drop q':=by rw[List.append_nil,hq];exact hdd
  have hok:∀l,aTh l→aTh (n::l):=fun l hl x hx=>by
   rcases List.mem_cons.1 hx with rfl|hx
   ·exact⟨g1,g2⟩
   ·exact hl x hx
  obtain⟨y1,y2⟩:=aTi _ _ _ _ (hok _ f1) (hok _ k5) (by simp[rO,hel,hl]) hx
  have:=congrArg List.length y2
  simp only[List.length_nil,List.length_drop] at this
  exact⟨by omega,f2.2 (List.cons.inj y1).2⟩
 ·rintro⟨h1,h2⟩
  rw[f2.1 h2]
  have:d.drop q'=[]:=List.drop_eq_nil_of_le (by omega)
  rw[this,List.append_nil] at hdd
  exact hdd.symm
theorem aPu (l:List Int):(EV.P9 l).data.toList=l.map fun n=>UInt8.ofNat n.toNat:=by
 unfold EV.P9
 have:∀(l:List Int) (r:ByteArray),(l.foldl (fun r n=>r.push (UInt8.ofNat n.toNat)) r).data.toList=r.data.toList++l.map fun n=>UInt8.ofNat n.toNat:=by
  intro l
  induction l with
  |nil=>intro r;simp
  |cons x l ih=>intro r;rw[List.foldl_cons,ih];simp
 rw[this];rfl
theorem bytes_inj:∀{a b:List Int},(∀z∈a,0≤z∧z≤255)→(∀z∈b,0≤z∧z≤255)→(a.map fun n=>UInt8.ofNat n.toNat)=(b.map fun n=>UInt8.ofNat n.toNat)→a=b
 |[],[],_,_,_=>rfl
 |[],y::b,_,_,h=>by simp at h
 |x::a,[],_,_,h=>by simp at h
 |x::a,y::b,ha,hb,h=>by
  simp only[List.map_cons,List.cons.injEq] at h
  have hx:=ha x (by simp)
  have hy:=hb y (by simp)
  have e:=congrArg UInt8.toNat h.1
  rw[UInt8.toNat_ofNat',UInt8.toNat_ofNat'] at e
  rw[bytes_inj (fun z hz=>ha z (by simp[hz])) (fun z hz=>hb z (by simp[hz])) h.2,show x=y by omega]
theorem aDf {b:List Int}(h:bF b):∀z∈b,0≤z∧z≤255:=fun z hz=>by simpa using List.all_eq_true.1 h.2 z hz
theorem aU4 {b:List Int}(h:b.length≤34359738368)(h1:∀z∈b,0≤z∧z≤255):bF b:=⟨h,List.all_eq_true.2 fun z hz=>by simpa using h1 z hz⟩
theorem aPv:∀(k:Nat) (n:Int),0≤n→n<128^(k+1)→∀z∈uvE k n,0≤z∧z≤255
 |0,n,h0,h1,z,hz=>by simp[uvE] at hz;subst hz;simp at h1;omega
 |k+1,n,h0,h1,z,hz=>by
  have h2:(128:Int)^(k+1+1)=128*128^(k+1):=by rw[Int.pow_succ];omega
  unfold uvE at hz
  by_cases hn:n>127
  ·rw[decide_eq_true hn,cond_true] at hz
   rcases List.mem_cons.1 hz with rfl|hz
   ·omega
   ·exact aPv k (n/128) (by omega) (by omega) z hz
  ·rw[decide_eq_false hn,cond_false] at hz
   simp at hz;subst hz;omega
theorem aU5 (n:Int):∀z∈enc1 n,0≤z∧z≤255:=fun z hz=>by
 unfold enc1 at hz
 cases hr:dD n 0 1000000000000 with
 |false=>rw[hr] at hz;simp at hz
 |true=>
  rw[hr] at hz
  have:=aGx hr
  have h7:(128:Int)^(5+1)=4398046511104:=by decide
  exact aPv 5 n this.1 (by omega) z hz
theorem aU6 (l:List Int):∀z∈rF l,0≤z∧z≤255:=fun z hz=>by
 unfold rF at hz
 obtain⟨x,hx,hz⟩:=List.mem_flatten.1 hz
 obtain⟨n,_,rfl⟩:=List.mem_map.1 hx
 exact aU5 n z hz
theorem nM {b:D.Bundle}(h:bB b=true):b.Entries.length≤20:=by
 simp only[bB,Bool.and_eq_true,decide_eq_true_eq] at h;omega
theorem aH6 (b:D.Bundle):bF (mO b):=by
 unfold mO
 cases hb:bB b with
 |false=>exact⟨by simp,rfl⟩
 |true=>
  have:=nM hb
  have h1:=aH3 (oM b)
  have h2:(oM b).length=1+4*b.Entries.length:=by simp[oM,rO];omega
  exact aU4 (by rw[cond_true];omega) (aU6 _)
theorem aZ9 (d:List Int):(Jc d).1.sz≤20:=by
 have h0:(D.Bundle.mk []).sz≤20:=by simp[D.Bundle.sz]
 unfold Jc
 cases !(vE d 0).2.2||decide ((vE d 0).1>20) with
 |true=>exact h0
 |false=>
  rw[cond_false]
  generalize iP d (4*(vE d 0).1).toNat (vE d 0).2.1 []=v
  unfold aWj
  cases hb:bB ⟨jD v.1⟩ with
  |false=>simp only[Bool.not_false,Bool.or_true,cond_true];exact h0
  |true=>
   have:=nM hb
   cases !v.2.2||(v.2.1 !=(d.length:Int)||(!jW v.1|| !true)) with
   |true=>exact h0
   |false=>simp only[cond_false,D.Bundle.sz] at*;omega
theorem aPw (k:Int)(s:D.SealedBundle):(jE k s).1.sz≤20:=by
 unfold jE
 cases !(eG k&&(dD s.Epoch 0 1000000&&dD s.Version 0 1000000))||s.MAC !=gQ k s with
 |true=>simp[D.Bundle.sz]
 |false=>exact aZ9 _
theorem aX7 {a b:D.Bundle}(h:(jO a b).2=true):(jO a b).1.sz≤20:=by
 unfold jO at*
 cases hc:bB a&&bB b with
 |false=>rw[hc] at h;cases h
 |true=>
  rw[hc] at h
  cases hm:bB ⟨dI a.Entries b.Entries⟩ with
  |false=>rw[hm] at h;cases h
  |true=>have:=nM hm;simp only[cond_true,D.Bundle.sz];omega
def Om (d:D.Device)(log:List D.LogEntry)(bx:D.EpochBoxes)(s:D.SealedBundle):Int:=
 bif !jN log|| !iY log d.Log then 1 else bif !iE (aW log) (jS d.Store) then 2 else bif bx.Epoch !=eO log|| !(dA d.Store bx).2 then 3
 else bif decide (s.Epoch<eO log)||(decide (s.Epoch<d.Epoch)||(s.Epoch==d.Epoch&&decide (s.Version<d.Version))) then 4
 else bif !(jE (dA d.Store bx).1 s).2|| !(jO d.Bundle (jE (dA d.Store bx).1 s).1).2 then 5 else 0
def fO (d:D.Device)(log:List D.LogEntry)(bx:D.EpochBoxes)(s:D.SealedBundle):D.Device×Int:=
 bif Om d log bx s==0 then(⟨d.Store,log,(dA d.Store bx).1,s.Epoch,s.Version,(jO d.Bundle (jE (dA d.Store bx).1 s).1).1⟩,0) else(d,Om d log bx s)
def eD (w:D.World)(d b:Int):D.World×Int:=bif dS w&&dO w d then({w with Devices:=w.Devices.set d.toNat (fO (fJ w d) w.Cloud.Log w.Cloud.Boxes (gW w.Cloud b).1).1},(fO (fJ w d) w.Cloud.Log w.Cloud.Boxes (gW w.Cloud b).1).2) else(w,1)
def aX8 (k:Int)(i:Nat)(z:Int):Int:=IntKind.u8.wrap ((z+eF k [(i:Int)])%256)
def Dy (k:Int)(b:List Int):List Int:=Oo (fun i z=>[aX8 k i z]) 0 b
def aWk (k e v:Int)(b:D.Bundle):D.SealedBundle:=⟨e,v,Dy (jQ k e v) (mO b),gQ k ⟨e,v,Dy (jQ k e v) (mO b),0⟩⟩
def sK (k e v:Int)(b:D.Bundle):D.SealedBundle×Bool:=bif eG k&&(dD e 0 1000000&&dD v 0 1000000)&&bB b then(aWk k e v b,true) else(⟨0,0,[],0⟩,false)
def fP (d:D.Device):D.Device×D.SealedBundle×Bool:=bif (sK d.Key d.Epoch (IntKind.i64.wrap (d.Version+1)) d.Bundle).2 then({d with Version:=IntKind.i64.wrap (d.Version+1)},(sK d.Key d.Epoch (IntKind.i64.wrap (d.Version+1)) d.Bundle).1,true) else(d,⟨0,0,[],0⟩,false)
def pO (a b:D.SealedBundle):Bool:=decide (a.Epoch>b.Epoch)||(a.Epoch==b.Epoch&&decide (a.Version>b.Version))
def gZ (c:D.Cloud)(s:D.SealedBundle):D.Cloud×Bool:=bif s.Epoch !=eO c.Log||((decide ((c.History.length:Int)>0)&& !pO s (c.History.getD (c.History.length-1) default))||decide ((c.History.length:Int)≥60)) then(c,false) else({c with History:=c.History++[s]},true)
def upF (w:D.World)(d:Int):D.World×Bool:=bif (fP (fJ w d)).2.2&&(gZ w.Cloud (fP (fJ w d)).2.1).2 then({w with Devices:=w.Devices.set d.toNat (fP (fJ w d)).1,Cloud:=(gZ w.Cloud (fP (fJ w d)).2.1).1},true) else(w,false)
def kY (w:D.World)(d:Int):D.World×Bool:=bif (eD w d 0).2==0&&(upF (eD w d 0).1 d).2 then((upF (eD w d 0).1 d).1,true) else(w,false)
def iA:List Int→D.World→D.World×Bool
 |[],w=>(w,true)
 |i::l,w=>bif (kY w i).2 then iA l (kY w i).1 else(w,false)
def lQ:List Int→D.World→D.World×Bool
 |[],w=>(w,true)
 |i::l,w=>bif (eD w i 0).2==0 then lQ l (eD w i 0).1 else(w,false)
def kR (w:D.World):D.World×Bool:=bif dS w&&((iA (cZ w) w).2&&(lQ (cZ w) (iA (cZ w) w).1).2) then((lQ (cZ w) (iA (cZ w) w).1).1,true) else(w,false)
theorem aPx (b:D.Bundle):(mO b).length≤500:=by
 unfold mO
 cases hb:bB b with
 |false=>simp
 |true=>
  have:=nM hb
  have h1:=aH3 (oM b)
  have h2:(oM b).length=1+4*b.Entries.length:=by simp[oM,rO];omega
  rw[cond_true];omega
theorem aTl (k:Int)(b:List Int):(Dy k b).length=b.length:=by unfold Dy;exact Ir
theorem aX9 (k e v:Int)(b:D.Bundle):(sK k e v b).1.Data.length≤500:=by
 unfold sK
 cases eG k&&(dD e 0 1000000&&dD v 0 1000000)&&bB b with
 |false=>simp
 |true=>simp only[cond_true,aWk,aTl];exact aPx b
theorem aPy (d:D.Device):(fP d).1.sz=d.sz∧(fP d).2.1.Data.length≤500:=by
 unfold fP
 have:=aX9 d.Key d.Epoch (IntKind.i64.wrap (d.Version+1)) d.Bundle
 cases(sK d.Key d.Epoch (IntKind.i64.wrap (d.Version+1)) d.Bundle).2 with
 |false=>exact⟨rfl,by simp⟩
 |true=>exact⟨rfl,this⟩
theorem aU7 (c:D.Cloud)(s:D.SealedBundle):(gZ c s).1.sz≤c.sz+1+s.Data.length∧(gZ c s).1.Log=c.Log:=by
 unfold gZ
 cases s.Epoch !=eO c.Log||((decide ((c.History.length:Int)>0)&& !pO s (c.History.getD (c.History.length-1) default))||decide ((c.History.length:Int)≥60)) with
 |true=>exact⟨by simp only[cond_true];omega,rfl⟩
 |false=>refine⟨?_,rfl⟩;simp only[cond_false,D.Cloud.sz,List.length_append,List.map_append,List.sum_append,List.length_cons,List.length_nil,List.map_cons,List.map_nil,List.sum_cons,List.sum_nil,D.SealedBundle.sz];omega
theorem Ui {α:Type}{f:α→Nat}:∀{l:List α} {i:Nat} {x:α} (hi:i<l.length),((l.set i x).map f).sum+f l[i]=(l.map f).sum+f x
 |y::l,0,x,_=>by simp only[List.set_cons_zero,List.map_cons,List.sum_cons,List.getElem_cons_zero];omega
 |y::l,i+1,x,h=>by
  have:=Ui (f:=f) (l:=l) (i:=i) (x:=x) (by simpa using h)
  simp only[List.set_cons_succ,List.map_cons,List.sum_cons,List.getElem_cons_succ];omega
theorem Zu {w:D.World}{d b:Int}(h:((eD w d b).2==0)=true):(dS w=true∧dO w d=true)∧(eD w d b).1.Cloud=w.Cloud∧(eD w d b).1.Devices.length=w.Devices.length∧(eD w d b).1.sz≤w.sz+w.Cloud.Log.length+20:=by
 unfold eD at*
 cases hc:(dS w&&dO w d) with
 |false=>rw[hc] at h;cases h
 |true=>
  rw[hc] at h
  simp only[cond_true] at h ⊢
  rw[Bool.and_eq_true] at hc
  refine⟨hc,by first|rfl|trivial,by first|exact List.length_set|simp,?_⟩
  have hd:=hc.2
  simp only[dO,Bool.and_eq_true,decide_eq_true_eq] at hd
  have hi:d.toNat<w.Devices.length:=by omega
  have hz:(fO (fJ w d) w.Cloud.Log w.Cloud.Boxes (gW w.Cloud b).1).1.sz≤w.Cloud.Log.length+20:=by
   unfold fO at*
   cases hs:Om (fJ w d) w.Cloud.Log w.Cloud.Boxes (gW w.Cloud b).1==0 with
   |false=>rw[hs] at h;simp only[cond_false] at h;rw[hs] at h;cases h
   |true=>
    have hm:(jO (fJ w d).Bundle (jE (dA (fJ w d).Store w.Cloud.Boxes).1 (gW w.Cloud b).1).1).2=true:=by
     cases hm:(jO (fJ w d).Bundle (jE (dA (fJ w d).Store w.Cloud.Boxes).1 (gW w.Cloud b).1).1).2 with
     |true=>rfl
     |false=>
      unfold Om at hs
      rw[hm] at hs
      revert hs
      generalize(fJ w d)=x
      generalize(gW w.Cloud b).1=s
      cases !jN w.Cloud.Log|| !iY w.Cloud.Log x.Log<;>cases !iE (aW w.Cloud.Log) (jS x.Store)<;>cases w.Cloud.Boxes.Epoch !=eO w.Cloud.Log|| !(dA x.Store w.Cloud.Boxes).2<;>cases decide (s.Epoch<eO w.Cloud.Log)||(decide (s.Epoch<x.Epoch)||(s.Epoch==x.Epoch&&decide (s.Version<x.Version)))<;>cases !(jE (dA x.Store w.Cloud.Boxes).1 s).2<;>simp
    have:=aX7 hm
    simp only[cond_true,D.Device.sz,D.Bundle.sz] at*;omega
  have h1:=Ui (f:=D.Device.sz) (l:=w.Devices) (i:=d.toNat) (x:=(fO (fJ w d) w.Cloud.Log w.Cloud.Boxes (gW w.Cloud b).1).1) hi
  generalize(fO (fJ w d) w.Cloud.Log w.Cloud.Boxes (gW w.Cloud b).1).1=x at*
  simp only[D.World.sz,List.length_set] at*;omega
theorem bDy {w:D.World}{d:Int}(hd:dO w d=true):(upF w d).1.Cloud.Log=w.Cloud.Log∧(upF w d).1.Devices.length=w.Devices.length∧(upF w d).1.sz≤w.sz+501:=by
 unfold upF
 cases(fP (fJ w d)).2.2&&(gZ w.Cloud (fP (fJ w d)).2.1).2 with
 |false=>exact⟨rfl,rfl,by simp only[cond_false];omega⟩
 |true=>
  have hu:=aU7 w.Cloud (fP (fJ w d)).2.1
  have hw:=aPy (fJ w d)
  simp only[dO,Bool.and_eq_true,decide_eq_true_eq] at hd
  have hi:d.toNat<w.Devices.length:=by omega
  have h1:=Ui (f:=D.Device.sz) (l:=w.Devices) (i:=d.toNat) (x:=(fP (fJ w d)).1) hi
  have e:w.Devices[d.toNat]=fJ w d:=by simp[fJ,List.getD,List.getElem?_eq_getElem hi]
  rw[e] at h1
  refine⟨hu.2,List.length_set,?_⟩
  generalize(gZ w.Cloud (fP (fJ w d)).2.1).1=c at*
  generalize fP (fJ w d)=x at*
  simp only[cond_true,D.World.sz,D.Cloud.sz,List.length_set] at*;omega
theorem aQ9 {w:D.World}{d:Int}(h:(kY w d).2=true):(kY w d).1.Cloud.Log=w.Cloud.Log∧(kY w d).1.sz≤w.sz+w.Cloud.Log.length+521:=by
 unfold kY at*
 cases hc:((eD w d 0).2==0&&(upF (eD w d 0).1 d).2) with
 |false=>rw[hc] at h;cases h
 |true=>
  rw[Bool.and_eq_true] at hc
  obtain⟨⟨k1,k2⟩,k3,k4,k5⟩:=Zu hc.1
  have hd:dO (eD w d 0).1 d=true:=by simp only[dO] at*;rw[k4];exact k2
  obtain⟨j1,j2,j3⟩:=bDy hd
  simp only[cond_true]
  exact⟨by rw[j1,k3],by omega⟩
theorem Bu:∀(l:List Int) (w:D.World),(iA l w).1.sz≤w.sz+l.length*(w.Cloud.Log.length+521)∧(iA l w).1.Cloud.Log=w.Cloud.Log
 |[],w=>⟨by simp[iA],rfl⟩
 |i::l,w=>by
  unfold iA
  cases hp:(kY w i).2 with
  |false=>exact⟨by simp only[cond_false];omega,rfl⟩
  |true=>
   obtain⟨h1,h2⟩:=aQ9 hp
   obtain⟨h3,h4⟩:=Bu l (kY w i).1
   rw[h1] at h3 h4
   simp only[cond_true,List.length_cons,Nat.add_mul]
   exact⟨by omega,h4⟩
theorem aH7:∀(l:List Int) (w:D.World),(lQ l w).1.sz≤w.sz+l.length*(w.Cloud.Log.length+20)
 |[],w=>by simp[lQ]
 |i::l,w=>by
  unfold lQ
  cases hp:((eD w i 0).2==0) with
  |false=>simp only[cond_false];omega
  |true=>
   obtain⟨_,h1,_,h2⟩:=Zu hp
   have h3:=aH7 l (eD w i 0).1
   rw[h1] at h3
   simp only[cond_true,List.length_cons,Nat.add_mul]
   omega
theorem bAa {k z:Int}(i:Nat)(h:0≤z∧z≤255):IntKind.u8.wrap ((IntKind.i64.wrap (IntKind.i64.wrap z+eF k [(i:Int)])).tmod 256)=aX8 k i z:=by
 have:=rC k [(i:Int)]
 rw[aS (n:=z) (by omega) (by omega),aS (by omega) (by omega),Int.tmod_eq_emod_of_nonneg (by omega)];rfl
theorem bAb {k z:Int}(i:Nat)(h:0≤z∧z≤255):IntKind.u8.wrap ((IntKind.i64.wrap (IntKind.i64.wrap z+(eF k [(i:Int)]).tmod 256)).tmod 256)=aX8 k i z:=by
 have:=rC k [(i:Int)]
 rw[aS (n:=z) (by omega) (by omega),show(eF k [(i:Int)]).tmod 256=eF k [(i:Int)]%256 from Int.tmod_eq_emod_of_nonneg this.1,aS (by omega) (by omega),Int.tmod_eq_emod_of_nonneg (by omega),aX8]
 congr 1;omega
end Go.VK
