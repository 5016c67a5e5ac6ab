import Derived.Test.YtaaefkcjgkpckaaGreatDoorEWbtor
import Derived.Test.YtaaefkcjgkpckaaGreatDoorXoS
/- Printed by wip/tools: models, walks, proofs. -/
set_option linter.unusedVariables false
set_option linter.unusedSimpArgs false
set_option maxRecDepth 100000
set_option maxHeartbeats 4000000
namespace Go.VK
open Go.RowKit Go.Proofs
def aE9 (k:D.aAS):Int:=IntKind.i64.wrap (IntKind.i64.wrap (k.Epoch*1000)+k.Guesses)
theorem aA8 {h v:Int}(h0:0≤h)(h1:h<2147483647):0≤hstep h v∧hstep h v<2147483647:=by
 have hm:=vD (p:=v) (q:=2147483647) (by omega)
 unfold hstep
 generalize kN v 2147483647=z at*
 have e1:IntKind.i64.wrap (h*1000003)=h*1000003:=aK (by omega) (by omega)
 have e2:IntKind.i64.wrap (h*1000003+z)=h*1000003+z:=aK (by omega) (by omega)
 have e3:IntKind.i64.wrap (h*1000003+z+13)=h*1000003+z+13:=aK (by omega) (by omega)
 rw[e1,e2,e3]
 exact⟨Int.tmod_nonneg _ (by omega),Int.tmod_lt_of_pos _ (by decide)⟩
theorem aPw (l:List Int):0≤sW l∧sW l<2147483647:=by
 unfold sW
 suffices ∀(l:List Int) (h:Int),0≤h→h<2147483647→0≤l.foldl hstep h∧l.foldl hstep h<2147483647 from this l 11 (by omega) (by omega)
 intro l
 induction l with
 |nil=>intro h h0 h1;exact⟨h0,h1⟩
 |cons x xs ih=>intro h h0 h1;exact ih _ (aA8 h0 h1).1 (aA8 h0 h1).2
theorem kL (k:Int)(l:List Int):0≤bH k l∧bH k l<2147483647:=aPw _
def aNp (a b:Int):Int:=bif decide (b>a) then b else a
def oL (a:List Int)(r:List (List Int)):List Int:=a++r.flatten
def iH (n:Int):Int:=bif n==0 then 1 else n
def bE (n:Int):Bool:=bR n 1 2147483646
def Di (b:List Int):List Int:=[(b.length:Int)]++b.map IntKind.i64.wrap
def bA (seed:Int)(l:List Int):Int:=iH (bH seed ([151]++l))
def lK (k:Int)(s:ByteArray):Int:=iH (bH k (Di (bQ s)))
def dI (p:Int):Int:=bif !(bE p) then 0 else(IntKind.i64.wrap (p*48271)).tmod 2147483647
def gM (s:D.aAH):Int:=bA s.Seed [181]
def aN (s:D.aAH):Int:=dI (gM s)
def gP (l:List Int)(x:Int):Bool:=l.any fun e=>e==x
def dM (log:List D.aAA)(p:Int):Bool:=log.any fun e=>e.Kind==2&&e.Device==p
def gZ (s:List Int)(e:D.aAA):List Int:=
 bif e.Kind==1 then(bif s.contains e.Device then s else s++[e.Device]) else bif e.Kind==2 then s.filter (fun d=>d !=e.Device) else s
def aB (log:List D.aAA):List Int:=log.foldl gZ []
def aD (log:List D.aAA):Int:=log.foldl (fun n e=>bif e.Kind==2 then IntKind.i64.wrap (n+1) else n) 0
def aJ (b:D.aAE)(site handle:Int):Int:=iL (fun e=>e.Site==site&&e.Handle==handle) 0 b.Entries
def aC (s:D.Site)(id:Int):Int:=iL (fun a=>a.Id==id) 0 s.Accounts
theorem aA9 (s:List Int)(x:D.aAA):(gZ s x).length≤s.length+1:=by
 unfold gZ
 cases x.Kind==1 with
 |true=>cases s.contains x.Device<;>simp
 |false=>
  cases x.Kind==2 with
  |true=>have:=List.length_filter_le (fun d=>d !=x.Device) s;simp;omega
  |false=>simp
theorem iJ (log:List D.aAA):(aB log).length≤log.length:=by
 suffices ∀(l:List D.aAA) (s:List Int),(l.foldl gZ s).length≤s.length+l.length from by simpa[aB] using this log []
 intro l
 induction l with
 |nil=>intro s;simp
 |cons x xs ih=>
  intro s
  simp only[List.foldl_cons,List.length_cons]
  have h1:=ih (gZ s x)
  have h2:(gZ s x).length≤s.length+1:=by
   unfold gZ
   cases x.Kind==1 with
   |true=>cases s.contains x.Device<;>simp
   |false=>
    cases x.Kind==2 with
    |true=>have:=List.length_filter_le (fun d=>d !=x.Device) s;simp;omega
    |false=>simp
  omega
theorem aPx {n:Int}(h:0≤n):aNp 1 n=iH n:=by
 unfold aNp iH
 rcases(show n=0∨n=1∨n>1 by omega) with rfl|rfl|h1
 ·rfl
 ·rfl
 ·have:(n==0)=false:=by simp;omega
  simp[h1,this]
def bB (s:ByteArray):Int:=lK 173 s
def WOk (w:D.World):Prop:=w.Devices.length≤34359738368∧w.Stolen.length≤34359738368∧w.aAB.Log.length≤34359738368∧w.Sites.length≤34359738368
instance (w:D.World):Decidable (WOk w):=inferInstanceAs (Decidable (_∧_))
def aQ (w:D.World)(d:Int):Bool:=decide (0≤d)&&decide (d<w.Devices.length)
theorem aLq {w:D.World}(h:WOk w)(d:Int):bR d 0 (IntKind.i64.wrap ((w.Devices.length:Int)-1))=aQ w d:=by
 have:=h.1
 rw[aK (by omega) (by omega)]
 unfold bR aQ
 congr 1
 exact decide_eq_decide.2 (by omega)
def aF (w:D.World)(d:Int):D.Device:=w.Devices.getD d.toNat default
theorem Ya {w:D.World}{d:Int}(h:aQ w d=true):bT w.Devices d=some (aF w d):=by
 simp only[aQ,Bool.and_eq_true,decide_eq_true_eq] at h
 rw[uI h.1 (by omega)]
 simp[aF,List.getD,List.getElem?_eq_getElem (show d.toNat<w.Devices.length by omega)]
def cB (w:D.World)(d:Int):Bool:=aQ w d&&gP (aB w.aAB.Log) (aN (aF w d).Store)
def bGg (w:D.World)(i:Nat):Bool:=cB w i&&(decide (i<w.Stolen.length)&& !w.Stolen.getD i false)
def vL (w:D.World):List Int:=((List.range w.Devices.length).filter (bGg w)).map Int.ofNat
theorem WOk.of {w:D.World}(h:w.sz≤1048576):WOk w:=by
 simp only[D.World.sz,D.aAB.sz] at h
 unfold WOk
 omega
def aNq (k:Int)(i:Nat)(z:Int):Int:=IntKind.u8.wrap ((z-bH k [(i:Int)])%256)
def O0 (k:Int)(b:List Int):List Int:=Gj (fun i z=>[aNq k i z]) 0 b
theorem bAj (x:Int):kN (IntKind.i64.wrap x) 256=x%256:=by
 rw[kN,if_pos (by omega),IntKind.wrap_i64];omega
theorem bAk (k:Int)(i:Nat)(z:Int):IntKind.u8.wrap (kN (IntKind.i64.wrap (IntKind.i64.wrap z-(bH k [(i:Int)]).tmod 256)) 256)=aNq k i z:=by
 rw[bAj,aNq,IntKind.wrap_i64,Int.tmod_eq_emod_of_nonneg (kL _ _).1];congr 1;omega
theorem oM {α β:Type}{y:Nat→α→β}:∀{i:Nat} {l:List α},(Gj (fun i x=>[y i x]) i l).length=l.length
 |i,[]=>rfl
 |i,x::xs=>by simp[Gj,oM]
def iR (p e:Int):Int:=bA p [163,e]
def aB0 (k:Int)(b:D.Box):Int:=bH k ([167,b.To,b.Ephemeral]++Di b.Data)
def gQ (p:Int)(b:D.Box):List Int×Bool:=
 bif !bE p||(b.To !=dI p||(!bE b.Ephemeral||decide ((b.Data.length:Int)>200))) then([],false)
 else bif b.MAC !=aB0 (iR p b.Ephemeral) b then([],false) else(O0 (iR p b.Ephemeral) b.Data,true)
def iD:List D.Box→Int→List Int×Bool
 |[],_=>([],false)
 |b::bs,p=>bif (gQ p b).2 then((gQ p b).1,true) else iD bs p
def bF (b:List Int):Prop:=b.length≤34359738368∧b.all (fun z=>decide (0≤z)&&decide (z≤255))=true
instance (b:List Int):Decidable (bF b):=inferInstanceAs (Decidable (_∧_))
theorem Jh {b:List Int}(h:bF b){i:Nat}(hi:i<b.length):0≤b[i]∧b[i]≤255:=by
 have:=List.all_eq_true.1 h.2 b[i] (List.getElem_mem hi)
 simpa using this
def uvG (b:List Int)(p:Nat):Nat→Nat→Int→Int×Int×Bool
 |0,_,_=>(0,0,false)
 |k+1,i,n=>
  if p+i<b.length then
   bif decide (b.getD (p+i) 0<128) then
    (bif (decide (0<i)&&b.getD (p+i) 0==0)||decide (n+b.getD (p+i) 0%128*128^i>1000000000000) then(0,0,false) else(n+b.getD (p+i) 0%128*128^i,((p+i+1:Nat):Int),true))
   else uvG b p k (i+1) (n+b.getD (p+i) 0%128*128^i)
  else(0,0,false)
def zM (b:List Int)(at_:Int):Int×Int×Bool:=if at_<0 then(0,0,false) else uvG b at_.toNat 6 0 0
theorem bAm {i:Nat}(h:i≤6):(1:Int)≤128^i∧(128:Int)^i≤4398046511104:=by
 match i,h with
 |0,_|1,_|2,_|3,_|4,_|5,_|6,_=>decide
theorem aUv {z n:Int}{i:Nat}(hi:i≤5)(hz:0≤z)(hn:0≤n)(hn':n<128^i):0≤n+z%128*128^i∧n+z%128*128^i<128^(i+1)∧0≤z%128*128^i∧z%128*128^i≤127*128^i:=by
 have hp:=bAm (i:=i) (by omega)
 have h1:0≤z%128*128^i:=Int.mul_nonneg (by omega) (by omega)
 have h2:z%128*128^i≤127*128^i:=Int.mul_le_mul_of_nonneg_right (by omega) (by omega)
 rw[Int.pow_succ]
 refine⟨by omega,by omega,h1,h2⟩
theorem bDa {z n:Int}{i:Nat}(hi:i≤5)(hz:0≤z)(hz':z≤255)(hn:0≤n)(hn':n<128^i):
  orI .i64 n (Xa .i64 (uH .i64 z 127) (IntKind.i64.wrap (7*(i:Int))))=n+z%128*128^i:=by
 obtain⟨m,rfl⟩:=Int.eq_ofNat_of_zero_le hz
 obtain⟨q,rfl⟩:=Int.eq_ofNat_of_zero_le hn
 have hp:=bAm (i:=i) (by omega)
 have hs:=aUv (z:=(m:Int)) (n:=(q:Int)) hi (by omega) (by omega) hn'
 have ha:uH .i64 (m:Int) 127=((m%128:Nat):Int):=by
  have e:((BitVec.ofInt 64 (m:Int))&&&(BitVec.ofInt 64 127)).toNat=m%128:=by
   rw[BitVec.toNat_and]
   have e1:(BitVec.ofInt 64 (m:Int)).toNat=m:=by
    rw[BitVec.toNat_ofInt];omega
   have e2:(BitVec.ofInt 64 127).toNat=2^7-1:=by decide
   rw[e1,e2,Nat.and_two_pow_sub_one_eq_mod]
  show IntKind.i64.wrap (((BitVec.ofInt 64 (m:Int))&&&(BitVec.ofInt 64 127)).toNat:Int)=_
  rw[e];exact aK (by omega) (by omega)
 have hw:IntKind.i64.wrap (7*(i:Int))=((7*i:Nat):Int):=by rw[aK (by omega) (by omega)];omega
 have hpn:(2:Nat)^(7*i)=128^i:=by rw[Nat.pow_mul]
 have hpi:((128^i:Nat):Int)=(128:Int)^i:=by simp
 have hb:Xa .i64 (uH .i64 (m:Int) 127) (IntKind.i64.wrap (7*(i:Int)))=((m%128*128^i:Nat):Int):=by
  rw[ha,hw]
  unfold Xa
  rw[Int.toNat_natCast,show min (7*i) IntKind.i64.bits=7*i from Nat.min_eq_left (by simp[IntKind.bits];omega)]
  have e3:((m%128:Nat):Int)*2^(7*i)=((m%128*128^i:Nat):Int):=by
   rw[←hpn];simp
  rw[e3]
  have:((m%128*128^i:Nat):Int)=(m:Int)%128*128^i:=by simp
  rw[this]
  exact aK (by omega) (by omega)
 rw[hb]
 have hqlt:q<128^i:=by rw[←hpi] at hn';exact_mod_cast hn'
 have hor:(m%128*128^i)|||q=m%128*128^i+q:=by
  have:=Nat.shiftLeft_add_eq_or_of_lt (b:=q) (i:=7*i) (by rw[hpn];exact hqlt) (m%128)
  rw[Nat.shiftLeft_eq,hpn] at this
  exact this.symm
 have hle:m%128*128^i+q<2^63:=by
  have:((m%128*128^i+q:Nat):Int)=q+(m:Int)%128*128^i:=by simp;omega
  omega
 have e4:((BitVec.ofInt 64 (q:Int))|||(BitVec.ofInt 64 ((m%128*128^i:Nat):Int))).toNat=m%128*128^i+q:=by
  rw[BitVec.toNat_or]
  have e5:(BitVec.ofInt 64 (q:Int)).toNat=q:=by rw[BitVec.toNat_ofInt];omega
  have e6:(BitVec.ofInt 64 ((m%128*128^i:Nat):Int)).toNat=m%128*128^i:=by rw[BitVec.toNat_ofInt];omega
  rw[e5,e6,Nat.or_comm,hor]
 show IntKind.i64.wrap (((BitVec.ofInt 64 (q:Int))|||(BitVec.ofInt 64 ((m%128*128^i:Nat):Int))).toNat:Int)=_
 rw[e4,aK (by omega) (by omega)]
 simp
 omega
def jR (b:List Int):Nat→Int→List Int→List Int×Int×Bool
 |0,a,s=>(s,a,true)
 |k+1,a,s=>bif (zM b a).2.2 then jR b k (zM b a).2.1 (s++[(zM b a).1]) else([],0,false)
def lD (b:List Int)(a c:Int):List Int×Int×Bool:=bif !bR c 0 100|| !bR a 0 b.length then([],0,false) else jR b c.toNat a []
theorem aPy (b:List Int):∀(k:Nat) (a:Int) (s:List Int),(jR b k a s).2.2=true→(jR b k a s).1.length=s.length+k
 |0,a,s,_=>rfl
 |k+1,a,s,h=>by
  unfold jR at h ⊢
  cases hu:(zM b a).2.2 with
  |false=>rw[hu] at h;simp at h
  |true=>
   rw[hu] at h
   simp only[cond_true] at h ⊢
   rw[aPy b k _ _ h];simp;omega
theorem decode_len {b:List Int}{a c:Int}(hc:0≤c)(h:(lD b a c).2.2=true):(lD b a c).1.length=c.toNat:=by
 unfold lD at h ⊢
 cases hx:(!bR c 0 100|| !bR a 0 b.length) with
 |true=>rw[hx] at h;simp at h
 |false=>
  rw[hx] at h
  simp only[cond_false] at h ⊢
  rw[aPy _ _ _ _ h];simp
theorem aUw {k:Int}{b:List Int}(h:b.length≤34359738368):bF (O0 k b):=by
 refine⟨by unfold O0;rw[oM];exact h,?_⟩
 rw[List.all_eq_true]
 intro z hz
 have:∀(b:List Int) (i:Nat),z∈Gj (fun i z=>[aNq k i z]) i b→0≤z∧z≤255:=by
  intro b
  induction b with
  |nil=>intro i h;simp[Gj] at h
  |cons x xs ih=>
   intro i h
   simp only[Gj,List.mem_append,List.mem_singleton] at h
   rcases h with rfl|h
   ·have:=dN .u8 ((x-bH k [(i:Int)])%256)
    simpa[aNq,IntKind.min,IntKind.max,IntKind.signed,IntKind.bits] using this
   ·exact ih _ h
 have:=this b 0 hz
 simp[this.1,this.2]
theorem aSn (p:Int)(b:D.Box):bF (gQ p b).1:=by
 unfold gQ
 have h0:bF ([]:List Int):=by decide
 by_cases hl:b.Data.length≤200
 ·cases(!bE p||(b.To !=dI p||(!bE b.Ephemeral||decide ((b.Data.length:Int)>200))))<;>cases(b.MAC !=aB0 (iR p b.Ephemeral) b)<;>first|exact h0|exact aUw (by omega)
 ·have e1:decide ((b.Data.length:Int)>200)=true:=by simp;omega
  rw[e1];simpa using h0
theorem aFa (p:Int):∀bs,bF (iD bs p).1
 |[]=>show bF [] by decide
 |b::bs=>by
  unfold iD
  cases(gQ p b).2 with
  |true=>exact aSn p b
  |false=>exact aFa p bs
def Sg (e:D.aAG)(x:List Int×Bool)(y:List Int×Int×Bool):Int×Bool:=
 bif !x.2||(!y.2.2||(y.2.1 !=(x.1.length:Int)||(y.1.getD 0 0 !=e.Epoch|| !bE (y.1.getD 1 0)))) then(0,false) else(y.1.getD 1 0,true)
def bW (s:D.aAH)(e:D.aAG):Int×Bool:=Sg e (iD e.Boxes (gM s)) (lD (iD e.Boxes (gM s)).1 0 2)
theorem and_one {n:Int}(h0:0≤n)(h1:n<9223372036854775808):uH .i64 n 1=n%2:=by
 obtain⟨m,rfl⟩:=Int.eq_ofNat_of_zero_le h0
 have e:((BitVec.ofInt 64 (m:Int))&&&(BitVec.ofInt 64 1)).toNat=m%2:=by
  rw[BitVec.toNat_and]
  have e1:(BitVec.ofInt 64 (m:Int)).toNat=m:=by rw[BitVec.toNat_ofInt];omega
  have e2:(BitVec.ofInt 64 1).toNat=2^1-1:=by decide
  rw[e1,e2,Nat.and_two_pow_sub_one_eq_mod]
 show IntKind.i64.wrap (((BitVec.ofInt 64 (m:Int))&&&(BitVec.ofInt 64 1)).toNat:Int)=_
 rw[e,aK (by omega) (by omega)];omega
theorem aUx {n:Int}(h0:0≤n):Rt .i64 n 1=n/2:=by
 unfold Rt
 rw[show min (Int.toNat 1) IntKind.i64.bits=1 from by decide,Int.fdiv_eq_ediv_of_nonneg _ (by decide)];rfl
def aW3:Nat→Int→Int→Int→Int
 |0,_,_,s=>s
 |k+1,b,n,s=>if n>0 then aW3 k ((IntKind.i64.wrap (b*b)).tmod 2147483647) (n/2) (bif n%2==1 then(IntKind.i64.wrap (s*b)).tmod 2147483647 else s) else s
theorem aUy:aW3 31 48271 2147483645 1=1899818559:=by decide+kernel
def fF (q:Int):Int:=bif !bE q then 0 else q*1899818559%2147483647
def oN (p:Int)(l:List Int):Int:=bif !bE p then 0 else bH p ([139,(l.length:Int)]++l)
def fA (q:Int)(l:List Int)(g:Int):Bool:=fF q !=0&&oN (fF q) l==g
theorem Ji {α:Type}[Inhabited α]{l:List α}{i:Nat}(h0:0<i)(hi:i<l.length)(hl:l.length≤34359738368):bT l (IntKind.i64.wrap ((i:Int)-1))=some (l.getD (i-1) default):=by
 rw[aK (by omega) (by omega),show(i:Int)-1=((i-1:Nat):Int) by omega,aR (by omega)]
 simp[List.getD,List.getElem?_eq_getElem (show i-1<l.length by omega)]
def qR (l:List D.aAP)(i:Nat)(n:D.aAP):Bool:= !bR n.Kind 1 5||(!bR n.aAF 0 1000000||(!bR n.Time 0 1000000||(decide (0<i)&&decide ((l.getD (i-1) default).Time>n.Time))))
def dP (m:D.aAN):Bool:=decide (m.Notices.length≤30)&& !jB (qR m.Notices) 0 m.Notices
def fP (b:D.aAD)(i:Nat)(n:D.aAM):Bool:= !bR n.Id 0 (IntKind.i64.wrap (b.Next-1))||((decide (0<i)&&decide ((b.Open.getD (i-1) default).Id≥n.Id))||(!bR n.aAF 0 1000005|| !bR n.Until 0 1000005))
def dV (b:D.aAD):Bool:=bR b.Next 0 1000000&&decide (b.Open.length≤16)&& !jB (fP b) 0 b.Open
def rD (a:D.aAF)(i:Nat)(n:D.aAJ):Bool:=(!bR n.Handle 0 1000000||((decide (0<i)&&decide ((a.Credentials.getD (i-1) default).Handle≥n.Handle))||(fF n.Public==0|| !bR n.Counter 0 1000000)))||(a.Credentials.take i).any fun q=>q.Public==n.Public
def aU (a:D.aAF):Bool:=bR a.Id 0 1000000&&bR a.Minimum 1 3&&decide (a.Credentials.length≤8)&& !jB (rD a) 0 a.Credentials
def bN (e:D.aAA):Int:=sW [229,e.Index,e.Kind,e.Device,e.By,e.Previous]
def fH (l:List D.aAA):Int:=bif (l.length:Int)==0 then 0 else bN (l.getD (l.length-1) default)
def iT (l:List D.aAA)(e:D.aAA):Bool:=
 e.Index==(l.length:Int)&&(e.Previous==fH l&&((gP (aB l) e.By||((l.length:Int)==0&&e.By==e.Device))&&(fA e.By [bN e] e.Signature&&
  (bif e.Kind==2 then gP (aB l) e.Device&&decide (((aB l).length:Int)>1) else !dM l e.Device&&(e.Kind==1&&(!gP (aB l) e.Device&&decide (((aB l).length:Int)<6)))))))
def aT (l:List D.aAA):Bool:=bR (l.length:Int) 1 40&& !jB (fun i e=> !iT (l.take i) e) 0 l
theorem bAn {l:List Int}{x:Int}(h:gP l x=true):0<l.length:=by
 cases l with
 |nil=>simp[gP] at h
 |cons a r=>simp
def iM:List UInt8→List UInt8→List (List UInt8)
 |cur,[]=>[cur]
 |cur,b::r=>bif b==46 then cur::iM [] r else iM (cur++[b]) r
theorem bAo (s:List UInt8)(i:Nat):Lib.occAt s [46] i=decide (s[i]? =some 46):=by
 unfold Lib.occAt
 cases h:s.drop i with
 |nil=>
  have:s.length≤i:=List.drop_eq_nil_iff.1 h
  simp[List.getElem?_eq_none this,List.isPrefixOf]
 |cons b r=>
  have e:s[i]? =some b:=by
   have:=List.getElem?_drop (xs:=s) (i:=i) (j:=0)
   rw[h] at this;simpa using this.symm
  rw[e];simp only[List.isPrefixOf,Bool.and_true,Option.some.injEq]
  rw[Bool.eq_iff_iff];simp only[beq_iff_eq,decide_eq_true_eq];exact eq_comm
theorem aFb:∀(a cur r:List UInt8),(∀b∈a,b≠46)→iM cur (a++46::r)=(cur++a)::iM [] r
 |[],cur,r,_=>by simp[iM]
 |b::a,cur,r,h=>by
  have hb:(b==46)=false:=by simpa using h b (by simp)
  rw[List.cons_append,iM,hb,cond_false,aFb a _ r (fun x hx=>h x (List.mem_cons_of_mem _ hx))];simp
theorem aBa:∀(a cur:List UInt8),(∀b∈a,b≠46)→iM cur a=[cur++a]
 |[],cur,_=>by simp[iM]
 |b::a,cur,h=>by
  have hb:(b==46)=false:=by simpa using h b (by simp)
  rw[iM,hb,cond_false,aBa a _ (fun x hx=>h x (List.mem_cons_of_mem _ hx))];simp
theorem aPz:∀(n:Nat) (s:List UInt8),s.length<n→Lib.splitK [46] 0 (Lib.count s [46]) s=iM [] s
 |0,s,h=>absurd h (Nat.not_lt_zero _)
 |n+1,s,h=>by
  rcases Lib.index_spec s [46] with⟨h1,h2⟩|⟨i,h1,h2,h3,h4⟩
  ·rw[Lib.count_miss h1,aBa s [] (fun b hb e=>by
    obtain⟨j,hj,ej⟩:=List.getElem_of_mem hb
    have:=h2 j (by omega)
    rw[bAo,List.getElem?_eq_getElem hj,ej,e] at this;simp at this)];rfl
  ·rw[bAo] at h3
   have h3:s[i]? =some 46:=by simpa using h3
   have hi:i<s.length:=by
    rcases Nat.lt_or_ge i s.length with hlt|hge
    ·exact hlt
    ·rw[List.getElem?_eq_none hge] at h3;cases h3
   rw[Lib.count_hit (by simp) h1,Nat.add_comm,Lib.splitK,h1]
   have hne:((i:Int)== -1)=false:=by simp
   rw[hne]
   simp only[Int.toNat_natCast,Nat.add_zero,List.length_cons,List.length_nil,Nat.zero_add]
   rw[if_neg (by simp),aPz n (s.drop (i+1)) (by rw[List.length_drop];omega)]
   have es:s=s.take i++46::s.drop (i+1):=by
    have e2:s[i]=46:=by rw[List.getElem?_eq_getElem hi] at h3;exact Option.some.inj h3
    rw[←e2,List.getElem_cons_drop hi,List.take_append_drop]
   conv=>rhs;rw[es]
   rw[aFb (s.take i) [] _ (fun b hb e=>by
    obtain⟨j,hj,ej⟩:=List.getElem_of_mem hb
    rw[List.length_take] at hj
    have:=h4 j (by omega)
    rw[bAo,List.getElem?_eq_getElem (by omega)] at this
    rw[List.getElem_take] at ej
    rw[ej,e] at this;simp at this)];simp
def bD (s:ByteArray):List ByteArray:=(iM [] s.data.toList).map fun l=>⟨l.toArray⟩
theorem aFc (s:ByteArray):jX s ⟨#[46]⟩=bD s:=by
 have h1:(jX s ⟨#[46]⟩).map (·.data.toList)=iM [] s.data.toList:=by
  rw[jX,Lib.splitB_data];exact aPz _ _ (Nat.lt_succ_self _)
 unfold bD
 rw[←h1,List.map_map]
 conv=>lhs;rw[←List.map_id (jX s ⟨#[46]⟩)]
 congr 1
def Yc (b:Int):Bool:=bR b 97 122||bR b 48 57||b==45
def rO (s:ByteArray):Bool:=decide (1≤s.size)&&decide (s.size≤20)&& !((bQ s).getD 0 0==45)&& !((bQ s).getD (s.size-1) 0==45)&& !((bQ s).any fun b=> !Yc b)
def fQ (s:ByteArray):Bool:=decide (s.size≤60)&& !((bD s).any fun l=> !rO l)
theorem iN (s:ByteArray):(bQ s).length=s.size:=by simp only[bQ,List.length_map];rfl
theorem aP0 {s:ByteArray}{i:Nat}(h:i<s.size):bT (bQ s) (i:Int)=some ((bQ s)[i]'(by rw[iN];exact h)):=aR _
theorem ext_list (s:ByteArray)(a b:Nat):s.extract a b=⟨((s.data.toList.drop a).take (b-a)).toArray⟩:=by
 apply ByteArray.ext
 apply Array.toList_inj.1
 rw[Lib.extract_data]
theorem Si:∀(s cur:List UInt8),(iM cur s).length≤s.length+1
 |[],_=>by simp[iM]
 |b::r,cur=>by
  rw[iM]
  cases b==46 with
  |true=>have:=Si r [];simp;omega
  |false=>have:=Si r (cur++[b]);simp at this ⊢;omega
theorem Jj:∀(s cur:List UInt8) (l:List UInt8),l∈iM cur s→l.length≤cur.length+s.length
 |[],cur,l,h=>by simp[iM] at h;subst h;simp
 |b::r,cur,l,h=>by
  rw[iM] at h
  cases hb:b==46 with
  |true=>
   rw[hb,cond_true] at h
   rcases List.mem_cons.1 h with rfl|h
   ·omega
   ·have:=Jj r [] l h;simp at this ⊢;omega
  |false=>rw[hb,cond_false] at h;have:=Jj r _ l h;simp at this ⊢;omega
theorem Jk (s:ByteArray):(bD s).length≤s.size+1:=by
 unfold bD;rw[List.length_map];exact Si _ _
theorem uM (s l:ByteArray)(h:l∈bD s):l.size≤s.size:=by
 unfold bD at h
 obtain⟨q,hq,rfl⟩:=List.mem_map.1 h
 have:=Jj _ _ q hq
 have h2:(⟨q.toArray⟩:ByteArray).size=q.length:=rfl
 have h3:s.data.toList.length=s.size:=rfl
 have h4:([]:List UInt8).length=0:=rfl
 omega
theorem bHz (z:ByteArray):(z.toList==(⟨#[]⟩:ByteArray).toList)=decide (z.size=0):=by
 rw[ByteArray.toList_eq,ByteArray.toList_eq,Bool.eq_iff_iff]
 simp only[beq_iff_eq,decide_eq_true_eq]
 constructor
 ·intro h
  show z.data.size=0
  rw[←Array.length_toList,h];rfl
 ·intro h
  exact List.eq_nil_of_length_eq_zero h
theorem uN:∀(s cur:List UInt8),(iM cur s).length=s.countP (·==46)+1
 |[],_=>rfl
 |b::r,cur=>by
  rw[iM,List.countP_cons]
  cases b==46 with
  |true=>rw[cond_true,List.length_cons,uN r []];simp
  |false=>rw[cond_false,uN r _];simp
theorem aBb (s:ByteArray):0<(bD s).length:=by
 unfold bD;rw[List.length_map,uN];omega
def Nu (s:ByteArray):Bool:=(bQ s).any fun b=>b==46
theorem aJe (s:ByteArray):Nu s=decide (2≤(bD s).length):=by
 unfold Nu bD bQ
 rw[List.length_map,uN,List.any_map]
 have e:(fun b:Int=>b==46)∘(fun b:UInt8=>(b.toNat:Int))=fun b:UInt8=>b==46:=by
  funext b
  rw[Bool.eq_iff_iff]
  simp only[Function.comp,beq_iff_eq]
  constructor
  ·intro q;apply UInt8.toNat_inj.1;show _=46;omega
  ·intro q;rw[q];rfl
 rw[e,Bool.eq_iff_iff,List.any_eq_true,decide_eq_true_eq]
 have:=List.countP_pos_iff (p:=fun b:UInt8=>b==46) (l:=s.data.toList)
 constructor
 ·intro h;have:=this.2 h;omega
 ·intro h;exact this.1 (by omega)
def aW4 (s:ByteArray):ByteArray:=bif fQ s then(bif (bD s).length==1 then s else nS ⟨#[46]⟩ ((bD s).drop ((bD s).length-2))) else⟨#[]⟩
theorem bEu {l:List ByteArray}(h:2≤l.length):∃a∈l,∃b∈l,nS ⟨#[46]⟩ (l.drop (l.length-2))=a++⟨#[46]⟩++b:=by
 have hl:(l.drop (l.length-2)).length=2:=by rw[List.length_drop];omega
 match hm:l.drop (l.length-2),hl with
 |[a,b],_=>
  refine⟨a,List.mem_of_mem_drop (i:=l.length-2) (by rw[hm];simp),b,List.mem_of_mem_drop (i:=l.length-2) (by rw[hm];simp),?_⟩
  rw[show[a,b]=[a]++[b] from rfl,bCh _ _ _ (by simp),bCg]
theorem Jl {s:ByteArray}(h:fQ s=true):s.size≤60∧0<s.size:=by
 unfold fQ at h
 rw[Bool.and_eq_true,decide_eq_true_eq] at h
 refine⟨h.1,Nat.pos_of_ne_zero fun e=> ?_⟩
 have e2:s.data.toList=[]:=List.eq_nil_of_length_eq_zero e
 have e3:bD s=[⟨#[]⟩]:=by unfold bD;rw[e2];rfl
 rw[e3] at h
 exact absurd h.2 (by decide)
theorem bDb {s:ByteArray}(h:fQ s=true):decide ((aW4 s).size=0)=false:=by
 have hs:=Jl h
 have hp:=aBb s
 unfold aW4
 rw[h,cond_true]
 refine decide_eq_false ?_
 cases h1:(bD s).length==1 with
 |true=>rw[cond_true];omega
 |false=>
  rw[cond_false]
  have:(bD s).length≠1:=by simpa using h1
  obtain⟨a,_,b,_,e⟩:=bEu (l:=bD s) (by omega)
  rw[e,ByteArray.size_append,ByteArray.size_append]
  have:(⟨#[46]⟩:ByteArray).size=1:=rfl
  omega
def iU (s:ByteArray)(seed:Int):Bool:=fQ s&&decide (2≤(bD s).length)&&bE seed
def Dj (l:List D.aAF)(i:Nat)(n:D.aAF):Bool:= !aU n||(decide (0<i)&&decide ((l.getD (i-1) default).Id≥n.Id))
def bL (s:D.Site):Bool:=iU s.Name s.Book.Seed&&decide (s.Accounts.length≤8)&&dV s.Book&& !jB (Dj s.Accounts) 0 s.Accounts
def SOk (s:D.Site):Prop:=s.Name.size≤34359738368∧s.Accounts.length≤34359738368∧s.Book.Open.length≤34359738368∧∀a∈s.Accounts,a.Credentials.length≤34359738368
instance (s:D.Site):Decidable (SOk s):=inferInstanceAs (Decidable (_∧_))
def fD (name:ByteArray)(seed:Int):D.Site:=bif iU name seed then⟨name,[],⟨seed,0,[]⟩,[]⟩ else⟨⟨#[]⟩,[],⟨0,0,[]⟩,[]⟩
theorem aSo (name:ByteArray)(seed:Int):decide ((fD name seed).Name.size=0)= !iU name seed:=by
 unfold fD
 cases h:iU name seed with
 |false=>rfl
 |true=>
  have:fQ name=true:=by unfold iU at h;rw[Bool.and_eq_true,Bool.and_eq_true] at h;exact h.1.1
  have:=Jl this
  exact decide_eq_false (by show ¬name.size=0;omega)
def aA (i:Int):ByteArray:=bif i==0 then⟨#[98,97,110,107,46,99,111,109]⟩ else bif i==1 then⟨#[115,104,111,112,46,111,114,103]⟩ else⟨#[]⟩
def kP (i:Nat)(s:D.Site):Bool:= !bL s|| !(s.Name.toList==(aA (i:Int)).toList)
def bK (w:D.World):Bool:=bR w.Now 0 999900&&bR (w.Devices.length:Int) 1 6&&(w.Stolen.length:Int)==(w.Devices.length:Int)&&(w.Sites.length:Int)==2&&dP w.Mail&&aT w.aAB.Log&&bE w.Seed&& !jB kP 0 w.Sites
def bGh (w:D.World):Prop:=WOk w∧w.Mail.Notices.length≤34359738368∧w.Hosts.length≤34359738368∧∀s∈w.Sites,SOk s
instance (w:D.World):Decidable (bGh w):=inferInstanceAs (Decidable (_∧_))
theorem aNr {α:Type}{g:α→Nat}{x:α}:∀{l:List α},x∈l→g x≤(l.map g).sum
 |y::r,h=>by
  rw[List.map_cons,List.sum_cons]
  rcases List.mem_cons.1 h with rfl|h
  ·omega
  ·have:=aNr (g:=g) h;omega
theorem SOk.of {s:D.Site}(h:s.sz≤1048576):SOk s:=by
 simp only[D.Site.sz] at h
 refine⟨by omega,by omega,by omega,fun a ha=> ?_⟩
 have:=aNr (g:=D.aAF.sz) ha
 simp only[D.aAF.sz] at this h
 omega
theorem bGh.of {w:D.World}(h:w.sz≤1048576):bGh w:=by
 refine⟨WOk.of h,?_,?_,fun s hs=>SOk.of ?_⟩
 ·simp only[D.World.sz] at h;omega
 ·simp only[D.World.sz] at h;omega
 ·have:=aNr (g:=D.Site.sz) hs
  simp only[D.World.sz] at h;omega
abbrev tH (a:List Int)(r:List (List Int)):Prop:=a.length+r.flatten.length≤68719476736∧r.length≤1099511627776
def iE (w:D.World)(i:Int):Bool:=decide (0≤i)&&decide (i<w.Sites.length)
def eO (a b:D.Entry):Bool:=decide (a.Site<b.Site)||(a.Site==b.Site&&decide (a.Handle<b.Handle))
def rP (a:D.Entry)(s h:Int):Bool:=decide (a.Site<s)||(a.Site==s&&decide (a.Handle<h))
def nG (x e:D.Entry):Bool:=decide (x.Version>e.Version)||(x.Version==e.Version&&x.Deleted)
def xU (e x:D.Entry):D.Entry:=bif nG x e then x else e
def bJ:List D.Entry→List D.Entry→List D.Entry
 |[],bs=>bs
 |a::xs,[]=>a::xs
 |a::xs,b::bs=>bif eO a b then a::bJ xs (b::bs) else bif eO b a then b::bJ (a::xs) bs else xU a b::bJ xs bs
termination_by xs bs=>xs.length+bs.length
def aNs (l:List D.Entry)(i:Nat)(e:D.Entry):Bool:= !bR e.Site 0 2147483646||(!bR e.Handle 0 1000000||(!bR e.Version 1 1000000||(decide ((i:Int)>0)&& !eO (l.getD (i-1) default) e)))
def aP (b:D.aAE):Bool:=decide ((b.Entries.length:Int)≤20)&& !jB (aNs b.Entries) 0 b.Entries
def iB (a b:D.aAE):D.aAE×Bool:=bif aP a&&aP b then(bif aP ⟨bJ a.Entries b.Entries⟩ then(⟨bJ a.Entries b.Entries⟩,true) else(a,false)) else(a,false)
def uO (b:D.aAE)(x:D.Entry):D.aAE:=bif decide (aJ b x.Site x.Handle≥0) then⟨b.Entries.set (aJ b x.Site x.Handle).toNat x⟩ else⟨b.Entries.takeWhile (fun e=>rP e x.Site x.Handle)++[x]++b.Entries.dropWhile (fun e=>rP e x.Site x.Handle)⟩
theorem uW {a b:D.Entry}:eO a b=true↔a.Site<b.Site∨(a.Site=b.Site∧a.Handle<b.Handle):=by
 simp[eO]
theorem aSp {a x:D.Entry}:rP a x.Site x.Handle=eO a x:=rfl
theorem lL {a b c:D.Entry}(h:eO a b=true)(k:eO b c=true):eO a c=true:=by
 rw[uW] at*;omega
theorem vM {a b:D.Entry}(h:eO a b=false)(k:eO b a=false):a.Site=b.Site∧a.Handle=b.Handle:=by
 have h1:¬(a.Site<b.Site∨(a.Site=b.Site∧a.Handle<b.Handle)):=fun q=>by rw[uW.2 q] at h;cases h
 have h2:¬(b.Site<a.Site∨(b.Site=a.Site∧b.Handle<a.Handle)):=fun q=>by rw[uW.2 q] at k;cases k
 omega
theorem zW {a b c:D.Entry}(h:a.Site=b.Site∧a.Handle=b.Handle):eO a c=eO b c:=by
 unfold eO;rw[h.1,h.2]
theorem aSq {a b c:D.Entry}(h:a.Site=b.Site∧a.Handle=b.Handle):eO c a=eO c b:=by
 unfold eO;rw[h.1,h.2]
theorem Yd {a b:D.Entry}(h:a.Site=b.Site∧a.Handle=b.Handle):(xU a b).Site=b.Site∧(xU a b).Handle=b.Handle:=by
 unfold xU
 cases nG b a
 ·exact h
 ·exact⟨rfl,rfl⟩
theorem aUz (a b:D.Entry):xU a b=a∨xU a b=b:=by
 unfold xU
 cases nG b a
 ·exact .inl rfl
 ·exact .inr rfl
theorem eX (l:List D.Entry):bJ l []=l:=by cases l<;>rw[bJ]
theorem jS (l:List D.Entry):bJ [] l=l:=by rw[bJ]
theorem zX:∀(n:Nat) (a b:List D.Entry),a.length+b.length≤n→(bJ a b).length≤a.length+b.length
 |_,[],b,_=>by rw[jS];simp
 |_,a::xs,[],_=>by rw[eX];simp
 |0,a::xs,b::bs,h=>by simp at h
 |n+1,a::xs,b::bs,h=>by
  simp only[List.length_cons] at h
  rw[bJ]
  cases eO a b with
  |true=>have:=zX n xs (b::bs) (by simp only[List.length_cons];omega);simp only[cond_true,List.length_cons] at*;omega
  |false=>
   cases eO b a with
   |true=>have:=zX n (a::xs) bs (by simp only[List.length_cons];omega);simp only[cond_false,cond_true,List.length_cons] at*;omega
   |false=>have:=zX n xs bs (by omega);simp only[cond_false,List.length_cons] at*;omega
theorem vN (a b:D.Entry)(xs bs:List D.Entry):bJ (a::xs) (b::bs)=bif eO a b then a::bJ xs (b::bs) else bif eO b a then b::bJ (a::xs) bs else xU a b::bJ xs bs:=by rw[bJ]
def srt (l:List D.Entry):Prop:=l.Pairwise fun a b=>eO a b=true
theorem aLr:∀(A:List D.Entry) {b:D.Entry} {bs:List D.Entry},srt (b::bs)→bJ (bJ A [b]) bs=bJ A (b::bs)
 |[],b,bs,h=>by
  rw[jS,jS]
  cases bs with
  |nil=>rw[eX]
  |cons c cs=>rw[bJ,(List.pairwise_cons.1 h).1 c (by simp),cond_true,jS]
 |a::xs,b,bs,h=>by
  have hc:=(List.pairwise_cons.1 h).1
  rw[vN a b xs [],vN a b xs bs]
  cases h1:eO a b with
  |true=>
   simp only[cond_true]
   cases bs with
   |nil=>rw[eX]
   |cons c cs=>rw[bJ,lL h1 (hc c (by simp)),cond_true,aLr xs h]
  |false=>
   cases h2:eO b a with
   |true=>
    simp only[cond_true,cond_false]
    rw[eX]
    cases bs with
    |nil=>rw[eX,eX]
    |cons c cs=>rw[bJ,hc c (by simp),cond_true]
   |false=>
    simp only[cond_false]
    rw[eX]
    cases bs with
    |nil=>rw[eX,eX]
    |cons c cs=>rw[bJ,zW (Yd (vM h1 h2)),hc c (by simp),cond_true]
theorem aU0:∀{l:List D.Entry} {x y:D.Entry},y∈bJ l [x]→y∈l∨y=x
 |[],x,y,h=>by rw[jS] at h;simp at h;exact .inr h
 |a::xs,x,y,h=>by
  rw[bJ] at h
  cases h1:eO a x with
  |true=>
   rw[h1,cond_true] at h
   rcases List.mem_cons.1 h with rfl|h
   ·exact .inl (by simp)
   ·exact(aU0 h).imp (fun h=>by simp[h]) id
  |false=>
   rw[h1,cond_false] at h
   cases h2:eO x a with
   |true=>
    rw[h2,cond_true,eX] at h
    rcases List.mem_cons.1 h with rfl|h
    ·exact .inr rfl
    ·exact .inl h
   |false=>
    rw[h2,cond_false,eX] at h
    rcases List.mem_cons.1 h with rfl|h
    ·rcases aUz a x with e|e
     ·rw[e];exact .inl (by simp)
     ·exact .inr e
    ·exact .inl (by simp[h])
theorem aU1:∀{l:List D.Entry} {x:D.Entry},srt l→srt (bJ l [x])
 |[],x,h=>by rw[jS];exact List.pairwise_singleton _ _
 |a::xs,x,h=>by
  obtain⟨ha,hs⟩:=List.pairwise_cons.1 h
  rw[bJ]
  cases h1:eO a x with
  |true=>
   rw[cond_true]
   refine List.pairwise_cons.2 ⟨fun y hy=> ?_,aU1 hs⟩
   rcases aU0 hy with hy|rfl
   ·exact ha y hy
   ·exact h1
  |false=>
   cases h2:eO x a with
   |true=>
    rw[cond_false,cond_true,eX]
    refine List.pairwise_cons.2 ⟨fun y hy=> ?_,h⟩
    rcases List.mem_cons.1 hy with rfl|hy
    ·exact h2
    ·exact lL h2 (ha y hy)
   |false=>
    rw[cond_false,cond_false,eX]
    have hk:=vM h1 h2
    refine List.pairwise_cons.2 ⟨fun y hy=> ?_,hs⟩
    rw[zW (Yd hk),←zW hk];exact ha y hy
theorem aFd:∀(B A:List D.Entry),srt B→B.foldl (fun o x=>bJ o [x]) A=bJ A B
 |[],A,_=>by rw[eX];rfl
 |b::bs,A,h=>by rw[List.foldl_cons,aFd bs _ (List.pairwise_cons.1 h).2,aLr A h]
theorem Jm {α:Type}{p:α→Bool}:∀{l:List α} {i:Nat},iL p i l<0→∀y∈l,p y=false
 |[],i,_,y,hy=>by simp at hy
 |x::l,i,h,y,hy=>by
  simp only[iL] at h
  cases hp:p x with
  |true=>rw[hp,cond_true] at h;omega
  |false=>
   rw[hp,cond_false] at h
   rcases List.mem_cons.1 hy with rfl|hy
   ·exact hp
   ·exact Jm h y hy
theorem Nv {α:Type}{p:α→Bool}:∀{l:List α} {i:Nat},0≤iL p i l→∃l1 e l2,l=l1++e::l2∧p e=true∧iL p i l=((i+l1.length:Nat):Int)
 |[],i,h=>by simp[iL] at h
 |x::l,i,h=>by
  simp only[iL] at h ⊢
  cases hp:p x with
  |true=>exact⟨[],x,l,rfl,hp,by simp⟩
  |false=>
   rw[hp,cond_false] at h
   obtain⟨l1,e,l2,h1,h2,h3⟩:=Nv h
   exact⟨x::l1,e,l2,by rw[h1];rfl,h2,by rw[cond_false,h3];simp only[List.length_cons];omega⟩
theorem aU2:∀{l:List D.Entry} {x:D.Entry},(∀y∈l,(y.Site==x.Site&&y.Handle==x.Handle)=false)→bJ l [x]=l.takeWhile (fun e=>rP e x.Site x.Handle)++[x]++l.dropWhile (fun e=>rP e x.Site x.Handle)
 |[],x,_=>by rw[jS];rfl
 |a::xs,x,h=>by
  rw[bJ,List.takeWhile_cons,List.dropWhile_cons,aSp]
  cases h1:eO a x with
  |true=>simp only[cond_true,if_true];rw[aU2 (fun y hy=>h y (by simp[hy]))];rfl
  |false=>
   cases h2:eO x a with
   |true=>simp only[cond_false,cond_true];rw[eX];rfl
   |false=>
    have:=vM h1 h2
    have:=h a (by simp)
    simp_all
theorem aU3 {e x:D.Entry}{l2:List D.Entry}(he:(e.Site==x.Site&&e.Handle==x.Handle)=true):∀{l1:List D.Entry},srt (l1++e::l2)→bJ (l1++e::l2) [x]=l1++xU e x::l2
 |[],_=>by
  have hk:e.Site=x.Site∧e.Handle=x.Handle:=by simpa using he
  have h1:eO e x=false:=by
   cases h:eO e x with
   |false=>rfl
   |true=>rw[uW] at h;omega
  have h2:eO x e=false:=by
   cases h:eO x e with
   |false=>rfl
   |true=>rw[uW] at h;omega
  rw[List.nil_append,bJ,h1,cond_false,h2,cond_false,eX];rfl
 |a::l1,h=>by
  obtain⟨ha,hs⟩:=List.pairwise_cons.1 h
  have hk:e.Site=x.Site∧e.Handle=x.Handle:=by simpa using he
  have h1:eO a x=true:=by rw[←aSq hk];exact ha e (by simp)
  rw[List.cons_append,bJ,h1,cond_true,aU3 he hs];rfl
theorem aP1 {l:List D.Entry}{x:D.Entry}(h:srt l):(bif (decide (aJ ⟨l⟩ x.Site x.Handle<0)||nG x (l.getD (aJ ⟨l⟩ x.Site x.Handle).toNat default)) then(uO ⟨l⟩ x).Entries else l)=bJ l [x]:=by
 unfold uO
 by_cases hf:aJ ⟨l⟩ x.Site x.Handle<0
 ·rw[decide_eq_true hf,Bool.true_or,cond_true,show decide (aJ ⟨l⟩ x.Site x.Handle≥0)=false from decide_eq_false (by omega),cond_false]
  exact(aU2 (Jm hf)).symm
 ·obtain⟨l1,e,l2,h1,h2,h3⟩:=Nv (show 0≤iL (fun e=>e.Site==x.Site&&e.Handle==x.Handle) 0 l from by unfold aJ at hf;simp only at hf;omega)
  have h3':aJ ⟨l⟩ x.Site x.Handle=(l1.length:Int):=by unfold aJ;rw[h3];simp
  rw[h3',decide_eq_false (by omega),Bool.false_or,show decide ((l1.length:Int)≥0)=true from decide_eq_true (by omega),cond_true,Int.toNat_natCast]
  subst h1
  rw[aU3 h2 h]
  have g:(l1++e::l2).getD l1.length default=e:=by simp[List.getD]
  have st:(l1++e::l2).set l1.length x=l1++x::l2:=by simp
  rw[g]
  show(bif nG x e then(l1++e::l2).set l1.length x else l1++e::l2)=_
  rw[st]
  unfold xU
  cases nG x e<;>rfl
theorem aU4 {α:Type}{p:Nat→α→Bool}:∀{l:List α} {j:Nat},jB p j l=false→∀(i:Nat) (hi:i<l.length),p (j+i) l[i]=false
 |[],j,_,i,hi=>by simp at hi
 |x::l,j,h,i,hi=>by
  simp only[jB,Bool.or_eq_false_iff] at h
  cases i with
  |zero=>exact h.1
  |succ i=>have:=aU4 h.2 i (by simpa using hi);rw[show j+(i+1)=j+1+i by omega];exact this
theorem aSr {b:D.aAE}(h:aP b=true):b.Entries.length≤20∧srt b.Entries:=by
 simp only[aP,Bool.and_eq_true,decide_eq_true_eq,Bool.not_eq_true'] at h
 refine⟨by omega,?_⟩
 have adj:∀i (hi:i+1<b.Entries.length),eO b.Entries[i] b.Entries[i+1]=true:=fun i hi=>by
  have:=aU4 h.2 (i+1) hi
  simp only[aNs,Bool.or_eq_false_iff,Nat.zero_add] at this
  have h4:=this.2.2.2
  rw[decide_eq_true (by omega),Bool.true_and] at h4
  have h5:(b.Entries.getD (i+1-1) default)=b.Entries[i]:=by rw[Nat.add_sub_cancel,List.getD,List.getElem?_eq_getElem (by omega),Option.getD_some]
  rw[h5] at h4;simpa using h4
 have far:∀d i (hi:i+d+1<b.Entries.length),eO b.Entries[i] b.Entries[i+d+1]=true:=fun d=>by
  induction d with
  |zero=>exact fun i hi=>adj i hi
  |succ d ih=>exact fun i hi=>lL (ih i (by omega)) (adj (i+d+1) (by omega))
 refine List.pairwise_iff_getElem.2 fun i j hi hj hij=> ?_
 obtain⟨d,rfl⟩:∃d,j=i+d+1:=⟨j-i-1,by omega⟩
 exact far d i hj
theorem iC {α β:Type}{s:List α}(hs:s.length≤34359738368)(x:α)(k:Option β):gd (aX s [x]) k=k:=aG (by unfold aX;simp only[List.length_singleton];omega)
theorem lM {α β:Type}{s:List α}(hs:s.length≤34359738368)(k:Option β):gd (aX [] s) k=k:=aG (by unfold aX;simp only[List.length_nil];omega)
theorem aP2 {α:Type}{l s:List α}:l.foldl (fun s x=>s++[x]) s=s++l:=by
 have:=N8 (f:=fun x:α=>[x]) (l:=l) (s:=s)
 rw[this];congr 1
 induction l with
 |nil=>rfl
 |cons x l ih=>simp[ih]
theorem Ye {α:Type}{l:List α}{F:(Nat×List α→Option (List α))→Nat×List α→Option (List α)}(hl:l.length≤34359738368)
  (hF:∀rec i s (hi:i<l.length),s.length≤34359738368→F rec (i,s)=rec (i+1,s++[l[i]])) (hE:∀rec s,F rec (l.length,s)=some s):EV.dL FUEL F (0,[])=some l:=by
 rw[aLp (l:=l) (fun s x=>s++[x]) (fun i s=>s.length=i) (fun s=>some s) (by omega) rfl (fun i s hi hv=>by simp;omega) (fun rec i s hi hv=>hF rec i s hi (by omega)) (fun rec s _=>hE rec s),aP2,List.nil_append]
theorem bAp {α:Type}{l:List α}{F:(List α×Nat→Option (List α))→List α×Nat→Option (List α)}(hl:l.length≤34359738368)
  (hF:∀rec i s (hi:i<l.length),s.length≤34359738368→F rec (s,i)=rec (s++[l[i]],i+1)) (hE:∀rec s,F rec (s,l.length)=some s):EV.dL FUEL F ([],0)=some l:=by
 rw[gY (l:=l) (fun s x=>s++[x]) (fun i s=>s.length=i) (fun s=>some s) (by omega) rfl (fun i s hi hv=>by simp;omega) (fun rec i s hi hv=>hF rec i s hi (by omega)) (fun rec s _=>hE rec s),aP2,List.nil_append]
abbrev szL {α:Type}(f:α→Nat)(l:List α):Nat:=l.length+(l.map f).sum
theorem jY {S τ:Type}{F:(S→Option τ)→S→Option τ}{n:Nat}{s:S}:EV.dL (n+1) F s=F (EV.dL n F) s:=rfl
theorem nA {α:Type}{c:Bool}{x y:α}:(bif c then some x else some y)=some (bif c then x else y):=by cases c<;>rfl
theorem aFe {c d:Bool}:(bif c then some true else some d)=some (c||d):=by cases c<;>rfl
theorem bAq {α:Type}[Inhabited α]{l:List α}{i:Nat}(h:i<l.length):l.set i (l.getD i default)=l:=by
 rw[List.getD,List.getElem?_eq_getElem h];simp
theorem bJ0 {α β:Type}{l:List α}(f:α→β){F:(List β×Nat→Option (List β))→List β×Nat→Option (List β)}(hl:l.length≤34359738368)
  (hF:∀rec i s (hi:i<l.length),s.length≤34359738368→F rec (s,i)=rec (s++[f l[i]],i+1)) (hE:∀rec s,F rec (s,l.length)=some s):EV.dL FUEL F ([],0)=some (l.map f):=by
 rw[gY (l:=l) (fun s x=>s++[f x]) (fun i s=>s.length=i) (fun s=>some s) (by omega) rfl (fun i s hi hv=>by simp;omega) (fun rec i s hi hv=>hF rec i s hi (by omega)) (fun rec s _=>hE rec s),N9,List.nil_append]
theorem bEv {α β:Type}{l:List α}(f:α→β){s0:List β}{F:(List β×Nat→Option (List β))→List β×Nat→Option (List β)}(hl:s0.length+l.length≤34359738368)
  (hF:∀rec i s (hi:i<l.length),s.length≤34359738368→F rec (s,i)=rec (s++[f l[i]],i+1)) (hE:∀rec s,F rec (s,l.length)=some s):EV.dL FUEL F (s0,0)=some (s0++l.map f):=by
 rw[gY (l:=l) (fun s x=>s++[f x]) (fun i s=>s.length=s0.length+i) (fun s=>some s) (by omega) (by simp) (fun i s hi hv=>by simp;omega) (fun rec i s hi hv=>hF rec i s hi (by omega)) (fun rec s _=>hE rec s),N9]
theorem bDc {i:Int}{n:Nat}(h:n≤34359738368):(!bR i 0 (IntKind.i64.wrap ((n:Int)-1)))=(decide (i<0)||decide (i≥(n:Int))):=by
 rw[aK (by omega) (by omega)]
 unfold bR
 by_cases h0:i<0
 ·rw[decide_eq_true h0,decide_eq_false (show ¬0≤i by omega)];rfl
 ·rw[decide_eq_false h0,decide_eq_true (show 0≤i by omega)]
  by_cases h1:i≥(n:Int)
  ·rw[decide_eq_true h1,decide_eq_false (show ¬i≤(n:Int)-1 by omega)];rfl
  ·rw[decide_eq_false h1,decide_eq_true (show i≤(n:Int)-1 by omega)];rfl
theorem rQ {α:Type}[Inhabited α]{l:List α}{i:Int}(h0:0≤i)(h1:i<(l.length:Int)):bT l i=some (l.getD i.toNat default):=by
 rw[uI h0 (by omega)];simp[List.getD,List.getElem?_eq_getElem (show i.toNat<l.length by omega)]
theorem aSs {i:Int}{n:Nat}(h:(decide (i<0)||decide (i≥(n:Int)))=false):0≤i∧i<(n:Int):=by
 simp only[Bool.or_eq_false_iff,decide_eq_false_iff_not] at h;omega
theorem Nw {α:Type}[Inhabited α]{f:α→Nat}{l:List α}{i:Nat}(h:i<l.length):f (l.getD i default)≤(l.map f).sum:=by
 rw[List.getD,List.getElem?_eq_getElem h];exact jJ h
def aFf (x:Int)(z v:Int):Int:=(IntKind.i64.wrap (IntKind.i64.wrap (v+kN z 1019)*x)).tmod 1019
def Yf (c:Int)(l:List Int)(x:Int):Int:=(l.foldr (aFf x) 0+kN c 1019)%1019
def cS (l:List D.aAV)(i:Nat)(k:Int):Bool:=(l.take i).any fun q=>q.Index==k
theorem aP4 {x z v:Int}(hx:0≤x∧x≤1000)(hv:0≤v∧v<1019):0≤aFf x z v∧aFf x z v<1019:=by
 have hm:=vD (p:=z) (q:=1019) (by omega)
 unfold aFf
 generalize kN z 1019=m at*
 have e1:IntKind.i64.wrap (v+m)=v+m:=aK (by omega) (by omega)
 have h2:0≤(v+m)*x:=Int.mul_nonneg (by omega) hx.1
 have h3:(v+m)*x≤3000*1000:=Int.mul_le_mul (by omega) hx.2 hx.1 (by omega)
 rw[e1,aK (by omega) (by omega)]
 exact⟨Int.tmod_nonneg _ h2,Int.tmod_lt_of_pos _ (by omega)⟩
theorem aFg {x:Int}(hx:0≤x∧x≤1000):∀l:List Int,0≤l.foldr (aFf x) 0∧l.foldr (aFf x) 0<1019
 |[]=>by simp
 |z::l=>aP4 hx (aFg hx l)
theorem bAr {σ τ:Type}{l:List Int}(g:Int→σ→σ){s0:σ}(fin:σ→Option τ){F:(σ×Int→Option τ)→σ×Int→Option τ}(hl:l.length≤34359738368)
  (hF:∀rec s i (hi:i<l.length),F rec (s,(i:Int))=rec (g l[i] s,(i:Int)-1)) (hE:∀rec s,F rec (s,-1)=fin s) {n0:Int} (hn:n0=(l.length:Int)-1):EV.dL FUEL F (s0,n0)=fin (l.foldr g s0):=by
 subst hn
 refine aPv (fun k s=>k≤l.length∧s=((l.drop (l.length-k)).foldr g s0,(l.length:Int)-1-k)) l.length _ (by omega) ⟨by omega,by simp⟩ (fun k s rec hk hv=> ?_) (fun s rec hv=> ?_)
 ·obtain⟨_,rfl⟩:=hv
  refine .inl ⟨_,⟨hk,rfl⟩,?_⟩
  have e:(l.length:Int)-1-k=((l.length-1-k:Nat):Int):=by omega
  have e2:l.length-(k+1)=l.length-1-k:=by omega
  have hi:l.length-1-k<l.length:=by omega
  rw[e,hF rec _ _ hi,e2,List.drop_eq_getElem_cons hi,List.foldr_cons,show l.length-1-k+1=l.length-k by omega]
  congr 2;omega
 ·obtain⟨_,rfl⟩:=hv
  simp only[Nat.sub_self,List.drop_zero]
  rw[show(l.length:Int)-1-(l.length:Int)= -1 by omega,hE]
theorem bGi {c d:Bool}:(bif c then some d else some false)=some (c&&d):=by cases c<;>rfl
def bAs (w:D.World):Nat→Int→List Int
 |0,_=>[]
 |n+1,k=>bif decide (k<w.aAU.Threshold)&&decide (k≤7) then bA w.Seed [317,w.Now,k]::bAs w n (k+1) else[]
theorem aW5 (w:D.World):∀(n:Nat) (k:Int),(bAs w n k).length≤n
 |0,_=>Nat.le_refl _
 |n+1,k=>by
  unfold bAs
  cases(decide (k<w.aAU.Threshold)&&decide (k≤7)) with
  |true=>have:=aW5 w n (k+1);simp only[cond_true,List.length_cons];omega
  |false=>simp
def bDd (b:D.aAE)(s h:Int):Int:=bif decide (aJ b s h≥0) then IntKind.i64.wrap ((b.Entries.getD (aJ b s h).toNat default).Version+1) else 1
def Sj (b:D.aAE)(s h:Int):D.Entry:=⟨s,h,bDd b s h,false⟩
def aJf (b:D.aAE)(s h:Int):D.aAE×Bool:=bif !(decide (aJ b s h≥0)&& !(b.Entries.getD (aJ b s h).toNat default).Deleted)&&(aP b&&aP (uO b (Sj b s h))) then(uO b (Sj b s h),true) else(b,false)
def aW6 (b:D.aAE)(s h:Int):D.Entry:=⟨s,h,IntKind.i64.wrap ((b.Entries.getD (aJ b s h).toNat default).Version+1),true⟩
def aJg (b:D.aAE)(s h:Int):D.aAE×Bool:=bif !aP b||(decide (aJ b s h<0)||((b.Entries.getD (aJ b s h).toNat default).Deleted||(b.Entries.getD (aJ b s h).toNat default).Version==1000000)) then(b,false) else(uO b (aW6 b s h),true)
def uP (d:D.Device)(n:ByteArray)(h:Int)(rm:Bool):D.aAE×Bool:=bif rm then aJg d.aAE (bB n) h else aJf d.aAE (bB n) h
def fB (d:D.Device)(n:ByteArray)(h:Int)(rm:Bool):D.Device×Bool:=bif (uP d n h rm).2 then({d with aAE:=(uP d n h rm).1},true) else(d,false)
theorem aU5 (b:List Int):(Di b).length=b.length+1:=by simp[Di,Nat.add_comm]
theorem aDv (l:List Int):List.map (fun(n:Int)=>n) l=l:=List.map_id l
theorem aP5 (b:D.aAE)(x:D.Entry):(uO b x).Entries.length≤b.Entries.length+1:=by
 unfold uO
 cases decide (aJ b x.Site x.Handle≥0) with
 |true=>simp
 |false=>
  have:=congrArg List.length (List.takeWhile_append_dropWhile (p:=fun e=>rP e x.Site x.Handle) (l:=b.Entries))
  simp only[List.length_append] at this
  simp only[cond_false,List.length_append,List.length_singleton];omega
theorem bDe (b:D.aAE)(s h:Int):(aJf b s h).1.Entries.length≤b.Entries.length+1:=by
 unfold aJf
 have:=aP5 b (Sj b s h)
 cases(!(decide (aJ b s h≥0)&& !(b.Entries.getD (aJ b s h).toNat default).Deleted)&&(aP b&&aP (uO b (Sj b s h)))) with
 |true=>exact this
 |false=>simp
theorem bDf (b:D.aAE)(s h:Int):(aJg b s h).1.Entries.length≤b.Entries.length+1:=by
 unfold aJg
 have:=aP5 b (aW6 b s h)
 cases(!aP b||(decide (aJ b s h<0)||((b.Entries.getD (aJ b s h).toNat default).Deleted||(b.Entries.getD (aJ b s h).toNat default).Version==1000000))) with
 |true=>simp
 |false=>exact this
theorem Ny (d:D.Device)(n:ByteArray)(h:Int)(rm:Bool):(fB d n h rm).1.sz≤d.sz+1:=by
 unfold fB
 have:(uP d n h rm).1.Entries.length≤d.aAE.Entries.length+1:=by
  unfold uP;cases rm with
  |true=>exact bDf _ _ _
  |false=>exact bDe _ _ _
 cases(uP d n h rm).2 with
 |true=>simp only[cond_true,D.Device.sz];omega
 |false=>simp
def fG (c:D.aAB)(b:Int):D.aAC×Bool:=bif decide (b<0)||decide (b≥(c.History.length:Int)) then(⟨0,0,[],0⟩,false) else(c.History.getD (c.History.length-1-b.toNat) default,true)
def aW7 (a b:D.aAA):Bool:=a.Index==b.Index&&(a.Kind==b.Kind&&(a.Device==b.Device&&(a.By==b.By&&(a.Previous==b.Previous&&(a.Signature==b.Signature&&true)))))
def cO (a b:List D.aAA):Bool:=decide (b.length≤a.length)&& !jB (fun i e=> !aW7 (a.getD i default) e) 0 b
def lN (k:Int)(b:D.aAC):Int:=bH k ([227,b.Epoch,b.Version]++Di b.Data)
def lQ (k e v:Int):Int:=bA k [223,e,v]
def J6:Nat→Int→List Int
 |0,n=>[n]
 |k+1,n=>bif decide (n>127) then(n%128+128)::J6 k (n/128) else[n]
theorem aNt:∀(k:Nat) (n:Int),1≤(J6 k n).length∧(J6 k n).length≤k+1
 |0,n=>by simp[J6]
 |k+1,n=>by
  have:=aNt k (n/128)
  unfold J6
  cases decide (n>127)<;>simp<;>omega
theorem bDg {k:Nat}{z:Int}(h:z≤127):J6 k z=[z]:=by
 cases k with
 |zero=>rfl
 |succ k=>unfold J6;rw[decide_eq_false (by omega)];rfl
theorem aU6:∀(k:Nat) (m n:Int) (x y:List Int),0≤m→0≤n→J6 k m++x=J6 k n++y→m=n∧x=y
 |0,m,n,x,y,_,_,h=>by simpa[J6] using h
 |k+1,m,n,x,y,h0,h1,h=>by
  unfold J6 at h
  by_cases hm:m>127<;>by_cases hn:n>127
  ·simp only[decide_eq_true hm,decide_eq_true hn,cond_true,List.cons_append,List.cons.injEq] at h
   have:=aU6 k (m/128) (n/128) x y (by omega) (by omega) h.2
   exact⟨by omega,this.2⟩
  ·simp only[decide_eq_true hm,decide_eq_false hn,cond_true,cond_false,List.cons_append,List.cons.injEq] at h;omega
  ·simp only[decide_eq_false hm,decide_eq_true hn,cond_true,cond_false,List.cons_append,List.cons.injEq] at h;omega
  ·simpa only[decide_eq_false hm,decide_eq_false hn,cond_false,List.cons_append,List.nil_append,List.cons.injEq] using h
theorem aP6 {F:(Int×List Int→Option (Int×List Int))→Int×List Int→Option (Int×List Int)}
  (hF:∀rec (n:Int) (s:List Int),0≤n→n<9223372036854775807→s.length≤34359738368→F rec (n,s)=bif decide (n>127) then rec (n/128,s++[n%128+128]) else some (n,s)):
  ∀(k:Nat) (n:Int) (s:List Int) (f:Nat),k<f→0≤n→n<128^(k+1)→k≤6→s.length+k≤34359738368→∃m q,EV.dL f F (n,s)=some (m,q)∧q++[m]=s++J6 k n∧0≤m∧m≤127
 |0,n,s,f+1,hf,h0,h1,_,hs=>by
  refine⟨n,s,?_,rfl,h0,by simp at h1;omega⟩
  rw[jY,hF _ _ _ h0 (by simp at h1;omega) (by omega),decide_eq_false (by simp at h1;omega)];rfl
 |k+1,n,s,f+1,hf,h0,h1,hk,hs=>by
  have h2:(128:Int)^(k+1+1)=128*128^(k+1):=by rw[Int.pow_succ];omega
  have h3:(128:Int)^(k+1+1)≤128^8:=by exact_mod_cast Nat.pow_le_pow_right (by omega) (by omega)
  have h4:(128:Int)^8=72057594037927936:=by decide
  rw[jY,hF _ _ _ h0 (by omega) (by omega)]
  unfold J6
  by_cases hn:n>127
  ·rw[decide_eq_true hn,cond_true,cond_true]
   obtain⟨m,q,e1,e2,e3⟩:=aP6 hF k (n/128) (s++[n%128+128]) f (by omega) (by omega) (by omega) (by omega) (by simp;omega)
   exact⟨m,q,e1,by rw[e2];simp,e3⟩
  ·rw[decide_eq_false hn,cond_false,cond_false]
   exact⟨n,s,rfl,rfl,h0,by omega⟩
theorem bDh {n:Int}(h0:0≤n)(h1:n<9223372036854775808):uH .i64 n 127=n%128:=by
 obtain⟨m,rfl⟩:=Int.eq_ofNat_of_zero_le h0
 have e:((BitVec.ofInt 64 (m:Int))&&&(BitVec.ofInt 64 127)).toNat=m%128:=by
  rw[BitVec.toNat_and]
  have e1:(BitVec.ofInt 64 (m:Int)).toNat=m:=by rw[BitVec.toNat_ofInt];omega
  have e2:(BitVec.ofInt 64 127).toNat=2^7-1:=by decide
  rw[e1,e2,Nat.and_two_pow_sub_one_eq_mod]
 show IntKind.i64.wrap (((BitVec.ofInt 64 (m:Int))&&&(BitVec.ofInt 64 127)).toNat:Int)=_
 rw[e,aK (by omega) (by omega)];omega
theorem bGj {n:Int}(h0:0≤n)(h1:n<128):orI .i64 n 128=n+128:=by
 obtain⟨m,rfl⟩:=Int.eq_ofNat_of_zero_le h0
 have e:((BitVec.ofInt 64 (m:Int))|||(BitVec.ofInt 64 128)).toNat=m+128:=by
  rw[BitVec.toNat_or]
  have e1:(BitVec.ofInt 64 (m:Int)).toNat=m:=by rw[BitVec.toNat_ofInt];omega
  have e2:(BitVec.ofInt 64 128).toNat=1<<<7:=by decide
  have:=Nat.shiftLeft_add_eq_or_of_lt (b:=m) (i:=7) (by omega) 1
  rw[e1,e2,Nat.or_comm,←this];omega
 show IntKind.i64.wrap (((BitVec.ofInt 64 (m:Int))|||(BitVec.ofInt 64 128)).toNat:Int)=_
 rw[e,aK (by omega) (by omega)];omega
theorem bH1 {n:Int}(h0:0≤n):Rt .i64 n 7=n/128:=by
 unfold Rt
 rw[show min (Int.toNat 7) IntKind.i64.bits=7 from by decide,Int.fdiv_eq_ediv_of_nonneg _ (by decide)];rfl
theorem aP7 {n:Int}(h0:0≤n)(h1:n≤255):IntKind.u8.wrap n=n:=by rw[IntKind.wrap_u8];omega
def enc1 (n:Int):List Int:=bif bR n 0 1000000000000 then J6 5 n else[]
def Jn (b:List Int)(n:Int):List Int:=b++enc1 n
def gV (l:List Int):List Int:=(l.map enc1).flatten
theorem Yg (n:Int):(enc1 n).length≤6:=by
 have:=(aNt 5 n).2
 unfold enc1;cases bR n 0 1000000000000<;>simp<;>omega
theorem aDw {n:Int}(h:0≤n∧n≤1000000000000):enc1 n=J6 5 n:=by
 unfold enc1 bR;rw[decide_eq_true h.1,decide_eq_true h.2];rfl
theorem qU (n:Int)(l:List Int):gV (n::l)=enc1 n++gV l:=rfl
theorem Yh:∀l:List Int,(gV l).length≤6*l.length
 |[]=>by simp[gV]
 |n::l=>by
  have:=Yh l
  have:=Yg n
  rw[qU,List.length_append,List.length_cons];omega
def aJh (l:List Int):Prop:=∀v∈l,0≤v∧v≤(1000000000000:Int)
theorem aP8:∀(s t x y:List Int),aJh s→aJh t→s.length=t.length→gV s++x=gV t++y→s=t∧x=y
 |[],[],x,y,_,_,_,h=>⟨rfl,h⟩
 |m::s,n::t,x,y,hs,ht,hl,h=>by
  have hm:=hs m (by simp)
  have hn:=ht n (by simp)
  rw[qU,qU,List.append_assoc,List.append_assoc,aDw hm,aDw hn] at h
  obtain⟨h1,h2⟩:=aU6 5 m n _ _ hm.1 hn.1 h
  obtain⟨h3,h4⟩:=aP8 s t x y (fun v hv=>hs v (by simp[hv])) (fun v hv=>ht v (by simp[hv])) (by simpa using hl) h2
  exact⟨by rw[h1,h3],h4⟩
theorem aU7 {b:List Int}(hb:bF b){p:Nat}:∀(k i:Nat) (n m e:Int),uvG b p (k+1) i n=(m,e,true)→∃(r:Int) (q:Nat),(0≤r∧m=n+r*128^i∧m≤1000000000000∧e=(q:Int)∧q≤b.length∧(0<i→r≠0))∧b.drop (p+i)=J6 k r++b.drop q
 |k,i,n,m,e,h=>by
  unfold uvG at h
  by_cases hlt:p+i<b.length
  ·rw[if_pos hlt] at h
   have hz:=Jh hb hlt
   have hg:b.getD (p+i) 0=b[p+i]:=by simp[List.getD,List.getElem?_eq_getElem hlt]
   rw[hg] at h
   have hd:b.drop (p+i)=b[p+i]::b.drop (p+i+1):=List.drop_eq_getElem_cons hlt
   generalize b[p+i]=z at hz h hd
   by_cases h128:z<128
   ·rw[decide_eq_true h128,cond_true] at h
    have hzz:z%128=z:=by omega
    rw[hzz] at h
    cases hc:(decide (0<i)&&z==0)||decide (n+z*128^i>1000000000000) with
    |true=>rw[hc] at h;simp at h
    |false=>
     rw[hc,cond_false] at h
     rw[Bool.or_eq_false_iff] at hc
     have h1:=of_decide_eq_false hc.2
     injection h with e1 e2
     injection e2 with e2 e3
     refine⟨z,p+i+1,⟨hz.1,e1.symm,by omega,e2.symm,by omega,fun hi h0=> ?_⟩,by rw[hd,bDg (by omega)];rfl⟩
     subst h0
     simp[hi] at hc
   ·rw[decide_eq_false h128,cond_false] at h
    match k,h with
    |0,h=>simp[uvG] at h
    |k+1,h=>
     obtain⟨r,q,⟨h1,h2,h3,h4,h5,h6⟩,h7⟩:=aU7 hb k (i+1) _ m e h
     have hr:=h6 (by omega)
     refine⟨z%128+128*r,q,⟨by omega,?_,h3,h4,h5,fun _=>by omega⟩,?_⟩
     ·rw[h2,Int.pow_succ,Int.add_mul,←Int.add_assoc]
      congr 1
      rw[Int.mul_comm 128 r,Int.mul_assoc,Int.mul_comm 128]
     ·rw[hd,show p+i+1=p+(i+1) from by omega,h7]
      have e1:J6 (k+1) (z%128+128*r)=z::J6 k r:=by
       rw[J6,decide_eq_true (show z%128+128*r>127 by omega),cond_true,show(z%128+128*r)%128+128=z by omega,show(z%128+128*r)/128=r by omega]
      rw[e1];rfl
  ·rw[if_neg hlt] at h;simp at h
theorem aNu {b:List Int}(hb:bF b){a m e:Int}(h:zM b a=(m,e,true)):∃q:Nat,(0≤a∧0≤m∧m≤1000000000000∧e=(q:Int)∧q≤b.length)∧b.drop a.toNat=enc1 m++b.drop q:=by
 unfold zM at h
 by_cases h0:a<0
 ·rw[if_pos h0] at h;simp at h
 ·rw[if_neg h0] at h
  obtain⟨r,q,⟨h1,h2,h3,h4,h5,_⟩,h7⟩:=aU7 hb 5 0 0 m e h
  have hm:m=r:=by rw[h2];simp
  subst hm
  exact⟨q,⟨by omega,h1,h3,h4,h5⟩,by rw[aDw ⟨h1,h3⟩];exact h7⟩
theorem Yi {b:List Int}(hb:bF b):∀(k:Nat) (a:Int) (s v:List Int) (e:Int),0≤a→a≤b.length→jR b k a s=(v,e,true)→∃(t:List Int) (q:Nat),(v=s++t∧t.length=k∧e=(q:Int)∧q≤b.length∧aJh t)∧b.drop a.toNat=gV t++b.drop q
 |0,a,s,v,e,h0,h1,h=>by
  unfold jR at h
  injection h with e1 e2
  injection e2 with e2 _
  exact⟨[],a.toNat,⟨by simp[e1],rfl,by omega,by omega,fun v hv=>by simp at hv⟩,rfl⟩
 |k+1,a,s,v,e,h0,h1,h=>by
  unfold jR at h
  cases hu:zM b a with
  |mk m r=>
   obtain⟨e',ok⟩:=r
   rw[hu] at h
   cases ok with
   |false=>simp at h
   |true=>
    obtain⟨q,⟨g0,g1,g2,g3,g4⟩,g5⟩:=aNu hb hu
    subst g3
    obtain⟨t,q',⟨k1,k2,k3,k4,k5⟩,k6⟩:=Yi hb k (q:Int) (s++[m]) v e (by omega) (by omega) h
    refine⟨m::t,q',⟨by rw[k1];simp,by simp[k2],k3,k4,fun x hx=> ?_⟩,by rw[g5,qU,List.append_assoc];congr 1⟩
    rcases List.mem_cons.1 hx with rfl|hx
    ·exact⟨g1,g2⟩
    ·exact k5 x hx
theorem aFh {b:List Int}:∀(j k:Nat) (a:Int) (s:List Int),jR b (j+k) a s=bif (jR b j a s).2.2 then jR b k (jR b j a s).2.1 (jR b j a s).1 else([],0,false)
 |0,k,a,s=>by rw[Nat.zero_add];rfl
 |j+1,k,a,s=>by
  have e:∀m,jR b (m+1) a s=bif (zM b a).2.2 then jR b m (zM b a).2.1 (s++[(zM b a).1]) else([],0,false):=fun _=>rfl
  rw[show j+1+k=j+k+1 by omega,e,e]
  cases(zM b a).2.2 with
  |false=>rfl
  |true=>exact aFh j k _ _
theorem aFi {b:List Int}:∀(k:Nat) (a:Int) (s:List Int),jR b k a s=bif (jR b k a []).2.2 then(s++(jR b k a []).1,(jR b k a []).2.1,true) else([],0,false)
 |0,a,s=>by simp[jR]
 |k+1,a,s=>by
  unfold jR
  cases(zM b a).2.2 with
  |false=>rfl
  |true=>
   simp only[cond_true,List.nil_append]
   rw[aFi k _ (s++[(zM b a).1]),aFi k _ [(zM b a).1]]
   cases(jR b k (zM b a).2.1 []).2.2<;>simp
def aP9 (e:D.Entry):List Int:=[e.Site,e.Handle,e.Version,bif e.Deleted then 1 else 0]
def lS:List Int→List D.Entry
 |s::h::v::d::r=>⟨s,h,v,d==1⟩::lS r
 |_=>[]
def nC:List Int→Bool
 |_::_::_::d::r=>decide (d≤1)&&nC r
 |_=>true
def jA (l:List D.Entry):List Int:=l.flatMap aP9
theorem uX:∀l:List D.Entry,(jA l).length=4*l.length
 |[]=>rfl
 |e::l=>by
  have:=uX l
  simp only[jA,List.flatMap_cons,List.length_append,List.length_cons] at*
  rw[this];simp[aP9];omega
theorem aFj:∀(k:Nat) (l:List Int),l.length=4*k→(lS l).length=k
 |0,[],_=>rfl
 |k+1,s::h::v::d::r,hl=>by
  have:=aFj k r (by simp at hl;omega)
  simp[lS,this]
theorem aLs:∀(k:Nat) (l:List Int),l.length=4*k→aJh l→aJh (jA (lS l))∧(nC l=true↔jA (lS l)=l)
 |0,[],_,_=>⟨fun v h=>by simp[jA,lS] at h,by simp[nC,jA,lS]⟩
 |k+1,s::h::v::d::r,hl,ho=>by
  obtain⟨h1,h2⟩:=aLs k r (by simp at hl;omega) (fun x hx=>ho x (by simp[hx]))
  have hs:=ho s (by simp)
  have hh:=ho h (by simp)
  have hv:=ho v (by simp)
  have hd:=ho d (by simp)
  have e:jA (lS (s::h::v::d::r))=s::h::v::(bif d==1 then 1 else 0)::jA (lS r):=by simp[lS,jA,aP9]
  rw[e]
  refine⟨fun x hx=> ?_,?_⟩
  ·simp only[List.mem_cons] at hx
   rcases hx with rfl|rfl|rfl|rfl|hx
   ·exact hs
   ·exact hh
   ·exact hv
   ·cases(d==1)<;>simp
   ·exact h1 x hx
  ·simp only[nC,Bool.and_eq_true,decide_eq_true_eq,List.cons.injEq,true_and,h2]
   refine and_congr_left' ?_
   by_cases h1:d=1
   ·subst h1;simp
   ·rw[show(d==1)=false by simpa using h1,cond_false];omega
theorem aQa:∀(k:Nat) (l r:List Int),l.length=4*k→lS (l++r)=lS l++lS r
 |0,[],r,_=>rfl
 |k+1,s::h::v::d::l,r,hl=>by
  have:=aQa k l r (by simp at hl;omega)
  simp[lS,this]
def pU (b:D.aAE):List Int:=[(b.Entries.length:Int)]++jA b.Entries
def nT (b:D.aAE):List Int:=bif aP b then gV (pU b) else[]
def aU8 (d:List Int)(v:List Int×Int×Bool):D.aAE×Bool:=bif !v.2.2||(v.2.1 !=(d.length:Int)||(!nC v.1|| !aP ⟨lS v.1⟩)) then(⟨[]⟩,false) else(⟨lS v.1⟩,true)
def Qv (d:List Int):D.aAE×Bool:=bif !(zM d 0).2.2||decide ((zM d 0).1>20) then(⟨[]⟩,false) else aU8 d (jR d (4*(zM d 0).1).toNat (zM d 0).2.1 [])
def iO (key:Int)(s:D.aAC):D.aAE×Bool:=bif !(bE key&&(bR s.Epoch 0 1000000&&bR s.Version 0 1000000))||s.MAC !=lN key s then(⟨[]⟩,false) else Qv (O0 (lQ key s.Epoch s.Version) s.Data)
theorem bAt {d:List Int}(hd:bF d){n e e':Int}{v:List Int}(h:zM d 0=(n,e,true))(hn:n≤20)(h':jR d (4*n).toNat e []=(v,e',true)):(gV (pU ⟨lS v⟩)=d↔(e'=(d.length:Int)∧nC v=true))∧v.length=4*n.toNat∧aJh v∧(lS v).length=n.toNat:=by
 obtain⟨q,⟨_,g1,g2,g3,g4⟩,g5⟩:=aNu hd h
 subst g3
 obtain⟨t,q',⟨k1,k2,k3,k4,k5⟩,k6⟩:=Yi hd _ _ _ _ _ (by omega) (by omega) h'
 rw[List.nil_append] at k1
 subst k1
 have hl:v.length=4*n.toNat:=by omega
 obtain⟨f1,f2⟩:=aLs n.toNat v hl k5
 have hel:=aFj n.toNat v hl
 refine⟨?_,hl,k5,hel⟩
 have hdd:d=gV (n::v)++d.drop q':=by
  have h0:d.drop (Int.toNat 0)=d:=rfl
  rw[qU,List.append_assoc,←k6]
  exact h0▸g5
 have hv:pU ⟨lS v⟩=n::jA (lS v):=by
  show((lS v).length:Int)::_=_
  rw[hel];congr 1;omega
 rw[hv]
 constructor
 ·intro hq
  have hx:gV (n::jA (lS v))++[]=gV (n::v)++d.drop q':=by rw[List.append_nil,hq];exact hdd
  have hok:∀l,aJh l→aJh (n::l):=fun l hl x hx=>by
   rcases List.mem_cons.1 hx with rfl|hx
   ·exact⟨g1,g2⟩
   ·exact hl x hx
  obtain⟨y1,y2⟩:=aP8 _ _ _ _ (hok _ f1) (hok _ k5) (by simp[uX,hel,hl]) hx
  have:=congrArg List.length y2
  simp only[List.length_nil,List.length_drop] at this
  exact⟨by omega,f2.2 (List.cons.inj y1).2⟩
 ·rintro⟨h1,h2⟩
  rw[f2.1 h2]
  have:d.drop q'=[]:=List.drop_eq_nil_of_le (by omega)
  rw[this,List.append_nil] at hdd
  exact hdd.symm
theorem aLt (l:List Int):(EV.aV5 l).data.toList=l.map fun n=>UInt8.ofNat n.toNat:=by
 unfold EV.aV5
 have:∀(l:List Int) (r:ByteArray),(l.foldl (fun r n=>r.push (UInt8.ofNat n.toNat)) r).data.toList=r.data.toList++l.map fun n=>UInt8.ofNat n.toNat:=by
  intro l
  induction l with
  |nil=>intro r;simp
  |cons x l ih=>intro r;rw[List.foldl_cons,ih];simp
 rw[this];rfl
theorem bytes_inj:∀{a b:List Int},(∀z∈a,0≤z∧z≤255)→(∀z∈b,0≤z∧z≤255)→(a.map fun n=>UInt8.ofNat n.toNat)=(b.map fun n=>UInt8.ofNat n.toNat)→a=b
 |[],[],_,_,_=>rfl
 |[],y::b,_,_,h=>by simp at h
 |x::a,[],_,_,h=>by simp at h
 |x::a,y::b,ha,hb,h=>by
  simp only[List.map_cons,List.cons.injEq] at h
  have hx:=ha x (by simp)
  have hy:=hb y (by simp)
  have e:=congrArg UInt8.toNat h.1
  rw[UInt8.toNat_ofNat',UInt8.toNat_ofNat'] at e
  rw[bytes_inj (fun z hz=>ha z (by simp[hz])) (fun z hz=>hb z (by simp[hz])) h.2,show x=y by omega]
theorem Jo {b:List Int}(h:bF b):∀z∈b,0≤z∧z≤255:=fun z hz=>by simpa using List.all_eq_true.1 h.2 z hz
theorem aFk {b:List Int}(h:b.length≤34359738368)(h1:∀z∈b,0≤z∧z≤255):bF b:=⟨h,List.all_eq_true.2 fun z hz=>by simpa using h1 z hz⟩
theorem aLu:∀(k:Nat) (n:Int),0≤n→n<128^(k+1)→∀z∈J6 k n,0≤z∧z≤255
 |0,n,h0,h1,z,hz=>by simp[J6] at hz;subst hz;simp at h1;omega
 |k+1,n,h0,h1,z,hz=>by
  have h2:(128:Int)^(k+1+1)=128*128^(k+1):=by rw[Int.pow_succ];omega
  unfold J6 at hz
  by_cases hn:n>127
  ·rw[decide_eq_true hn,cond_true] at hz
   rcases List.mem_cons.1 hz with rfl|hz
   ·omega
   ·exact aLu k (n/128) (by omega) (by omega) z hz
  ·rw[decide_eq_false hn,cond_false] at hz
   simp at hz;subst hz;omega
theorem aSt (n:Int):∀z∈enc1 n,0≤z∧z≤255:=fun z hz=>by
 unfold enc1 at hz
 cases hr:bR n 0 1000000000000 with
 |false=>rw[hr] at hz;simp at hz
 |true=>
  rw[hr] at hz
  have:=gW hr
  have h7:(128:Int)^(5+1)=4398046511104:=by decide
  exact aLu 5 n this.1 (by omega) z hz
theorem Sk (l:List Int):∀z∈gV l,0≤z∧z≤255:=fun z hz=>by
 unfold gV at hz
 obtain⟨x,hx,hz⟩:=List.mem_flatten.1 hz
 obtain⟨n,_,rfl⟩:=List.mem_map.1 hx
 exact aSt n z hz
theorem nH {b:D.aAE}(h:aP b=true):b.Entries.length≤20:=by
 simp only[aP,Bool.and_eq_true,decide_eq_true_eq] at h;omega
theorem aFl (b:D.aAE):bF (nT b):=by
 unfold nT
 cases hb:aP b with
 |false=>exact⟨by simp,rfl⟩
 |true=>
  have:=nH hb
  have h1:=Yh (pU b)
  have h2:(pU b).length=1+4*b.Entries.length:=by simp[pU,uX];omega
  exact aFk (by rw[cond_true];omega) (Sk _)
theorem bAu (d:List Int):(Qv d).1.sz≤20:=by
 have h0:(D.aAE.mk []).sz≤20:=by simp[D.aAE.sz]
 unfold Qv
 cases !(zM d 0).2.2||decide ((zM d 0).1>20) with
 |true=>exact h0
 |false=>
  rw[cond_false]
  generalize jR d (4*(zM d 0).1).toNat (zM d 0).2.1 []=v
  unfold aU8
  cases hb:aP ⟨lS v.1⟩ with
  |false=>simp only[Bool.not_false,Bool.or_true,cond_true];exact h0
  |true=>
   have:=nH hb
   cases !v.2.2||(v.2.1 !=(d.length:Int)||(!nC v.1|| !true)) with
   |true=>exact h0
   |false=>simp only[cond_false,D.aAE.sz] at*;omega
theorem aW8 (k:Int)(s:D.aAC):(iO k s).1.sz≤20:=by
 unfold iO
 cases !(bE k&&(bR s.Epoch 0 1000000&&bR s.Version 0 1000000))||s.MAC !=lN k s with
 |true=>simp[D.aAE.sz]
 |false=>exact bAu _
theorem aLv {a b:D.aAE}(h:(iB a b).2=true):(iB a b).1.sz≤20:=by
 unfold iB at*
 cases hc:aP a&&aP b with
 |false=>rw[hc] at h;cases h
 |true=>
  rw[hc] at h
  cases hm:aP ⟨bJ a.Entries b.Entries⟩ with
  |false=>rw[hm] at h;cases h
  |true=>have:=nH hm;simp only[cond_true,D.aAE.sz];omega
def jL (d:D.Device)(log:List D.aAA)(bx:D.aAG)(s:D.aAC):Int:=
 bif !aT log|| !cO log d.Log then 1 else bif !gP (aB log) (aN d.Store) then 2 else bif bx.Epoch !=aD log|| !(bW d.Store bx).2 then 3
 else bif decide (s.Epoch<aD log)||(decide (s.Epoch<d.Epoch)||(s.Epoch==d.Epoch&&decide (s.Version<d.Version))) then 4
 else bif !(iO (bW d.Store bx).1 s).2|| !(iB d.aAE (iO (bW d.Store bx).1 s).1).2 then 5 else 0
def cK (d:D.Device)(log:List D.aAA)(bx:D.aAG)(s:D.aAC):D.Device×Int:=
 bif jL d log bx s==0 then(⟨d.Store,log,(bW d.Store bx).1,s.Epoch,s.Version,(iB d.aAE (iO (bW d.Store bx).1 s).1).1⟩,0) else(d,jL d log bx s)
def aV (w:D.World)(d b:Int):D.World×Int:=bif bK w&&aQ w d then({w with Devices:=w.Devices.set d.toNat (cK (aF w d) w.aAB.Log w.aAB.Boxes (fG w.aAB b).1).1},(cK (aF w d) w.aAB.Log w.aAB.Boxes (fG w.aAB b).1).2) else(w,1)
def bM (w:D.World)(d:Int):Bool:=w.Stolen.getD d.toNat false
theorem aFm (d:D.Device)(l:List D.aAA)(bx:D.aAG)(s:D.aAC):(cK d l bx s).1.sz≤d.sz+l.length+20:=by
 unfold cK
 cases hc:jL d l bx s==0 with
 |false=>simp only[cond_false];omega
 |true=>
  have hm:(iB d.aAE (iO (bW d.Store bx).1 s).1).2=true:=by
   cases hm:(iB d.aAE (iO (bW d.Store bx).1 s).1).2 with
   |true=>rfl
   |false=>
    unfold jL at hc
    rw[hm] at hc
    revert hc
    cases !aT l|| !cO l d.Log<;>cases !gP (aB l) (aN d.Store)<;>cases bx.Epoch !=aD l|| !(bW d.Store bx).2<;>cases decide (s.Epoch<aD l)||(decide (s.Epoch<d.Epoch)||(s.Epoch==d.Epoch&&decide (s.Version<d.Version)))<;>cases !(iO (bW d.Store bx).1 s).2<;>simp
  have:=aLv hm
  simp only[cond_true,D.Device.sz,D.aAE.sz] at*;omega
def aQb (k:Int)(i:Nat)(z:Int):Int:=IntKind.u8.wrap ((z+bH k [(i:Int)])%256)
def lT (k:Int)(b:List Int):List Int:=Gj (fun i z=>[aQb k i z]) 0 b
def eU (k e v:Int)(b:D.aAE):D.aAC:=⟨e,v,lT (lQ k e v) (nT b),lN k ⟨e,v,lT (lQ k e v) (nT b),0⟩⟩
def tJ (k e v:Int)(b:D.aAE):D.aAC×Bool:=bif bE k&&(bR e 0 1000000&&bR v 0 1000000)&&aP b then(eU k e v b,true) else(⟨0,0,[],0⟩,false)
def dF (d:D.Device):D.Device×D.aAC×Bool:=bif (tJ d.Key d.Epoch (IntKind.i64.wrap (d.Version+1)) d.aAE).2 then({d with Version:=IntKind.i64.wrap (d.Version+1)},(tJ d.Key d.Epoch (IntKind.i64.wrap (d.Version+1)) d.aAE).1,true) else(d,⟨0,0,[],0⟩,false)
def sJ (a b:D.aAC):Bool:=decide (a.Epoch>b.Epoch)||(a.Epoch==b.Epoch&&decide (a.Version>b.Version))
def cZ (c:D.aAB)(s:D.aAC):D.aAB×Bool:=bif s.Epoch !=aD c.Log||((decide ((c.History.length:Int)>0)&& !sJ s (c.History.getD (c.History.length-1) default))||decide ((c.History.length:Int)≥60)) then(c,false) else({c with History:=c.History++[s]},true)
def O1 (w:D.World)(d:Int):D.World×Bool:=bif (dF (aF w d)).2.2&&(cZ w.aAB (dF (aF w d)).2.1).2 then({w with Devices:=w.Devices.set d.toNat (dF (aF w d)).1,aAB:=(cZ w.aAB (dF (aF w d)).2.1).1},true) else(w,false)
def zY (w:D.World)(d:Int):D.World×Bool:=bif (aV w d 0).2==0&&(O1 (aV w d 0).1 d).2 then((O1 (aV w d 0).1 d).1,true) else(w,false)
def aDx:List Int→D.World→D.World×Bool
 |[],w=>(w,true)
 |i::l,w=>bif (zY w i).2 then aDx l (zY w i).1 else(w,false)
def aNv:List Int→D.World→D.World×Bool
 |[],w=>(w,true)
 |i::l,w=>bif (aV w i 0).2==0 then aNv l (aV w i 0).1 else(w,false)
def bDi (w:D.World):D.World×Bool:=bif bK w&&((aDx (vL w) w).2&&(aNv (vL w) (aDx (vL w) w).1).2) then((aNv (vL w) (aDx (vL w) w).1).1,true) else(w,false)
theorem aLw (b:D.aAE):(nT b).length≤500:=by
 unfold nT
 cases hb:aP b with
 |false=>simp
 |true=>
  have:=nH hb
  have h1:=Yh (pU b)
  have h2:(pU b).length=1+4*b.Entries.length:=by simp[pU,uX];omega
  rw[cond_true];omega
theorem Jp (k:Int)(b:List Int):(lT k b).length=b.length:=by unfold lT;exact oM
theorem aW9 (k e v:Int)(b:D.aAE):(tJ k e v b).1.Data.length≤500:=by
 unfold tJ
 cases bE k&&(bR e 0 1000000&&bR v 0 1000000)&&aP b with
 |false=>simp
 |true=>simp only[cond_true,eU,Jp];exact aLw b
theorem zZ (d:D.Device):(dF d).1.sz=d.sz∧(dF d).2.1.Data.length≤500:=by
 unfold dF
 have:=aW9 d.Key d.Epoch (IntKind.i64.wrap (d.Version+1)) d.aAE
 cases(tJ d.Key d.Epoch (IntKind.i64.wrap (d.Version+1)) d.aAE).2 with
 |false=>exact⟨rfl,by simp⟩
 |true=>exact⟨rfl,this⟩
theorem nI (c:D.aAB)(s:D.aAC):(cZ c s).1.sz≤c.sz+1+s.Data.length∧(cZ c s).1.Log=c.Log:=by
 unfold cZ
 cases s.Epoch !=aD c.Log||((decide ((c.History.length:Int)>0)&& !sJ s (c.History.getD (c.History.length-1) default))||decide ((c.History.length:Int)≥60)) with
 |true=>exact⟨by simp only[cond_true];omega,rfl⟩
 |false=>refine⟨?_,rfl⟩;simp only[cond_false,D.aAB.sz,List.length_append,List.map_append,List.sum_append,List.length_cons,List.length_nil,List.map_cons,List.map_nil,List.sum_cons,List.sum_nil,D.aAC.sz];omega
theorem vO {α:Type}{f:α→Nat}:∀{l:List α} {i:Nat} {x:α} (hi:i<l.length),((l.set i x).map f).sum+f l[i]=(l.map f).sum+f x
 |y::l,0,x,_=>by simp only[List.set_cons_zero,List.map_cons,List.sum_cons,List.getElem_cons_zero];omega
 |y::l,i+1,x,h=>by
  have:=vO (f:=f) (l:=l) (i:=i) (x:=x) (by simpa using h)
  simp only[List.set_cons_succ,List.map_cons,List.sum_cons,List.getElem_cons_succ];omega
theorem uQ {w:D.World}{d b:Int}(h:((aV w d b).2==0)=true):(bK w=true∧aQ w d=true)∧(aV w d b).1.aAB=w.aAB∧(aV w d b).1.Devices.length=w.Devices.length∧(aV w d b).1.sz≤w.sz+w.aAB.Log.length+20:=by
 unfold aV at*
 cases hc:(bK w&&aQ w d) with
 |false=>rw[hc] at h;cases h
 |true=>
  rw[hc] at h
  simp only[cond_true] at h ⊢
  rw[Bool.and_eq_true] at hc
  refine⟨hc,by first|rfl|trivial,by first|exact List.length_set|simp,?_⟩
  have hd:=hc.2
  simp only[aQ,Bool.and_eq_true,decide_eq_true_eq] at hd
  have hi:d.toNat<w.Devices.length:=by omega
  have hz:(cK (aF w d) w.aAB.Log w.aAB.Boxes (fG w.aAB b).1).1.sz≤w.aAB.Log.length+20:=by
   unfold cK at*
   cases hs:jL (aF w d) w.aAB.Log w.aAB.Boxes (fG w.aAB b).1==0 with
   |false=>rw[hs] at h;simp only[cond_false] at h;rw[hs] at h;cases h
   |true=>
    have hm:(iB (aF w d).aAE (iO (bW (aF w d).Store w.aAB.Boxes).1 (fG w.aAB b).1).1).2=true:=by
     cases hm:(iB (aF w d).aAE (iO (bW (aF w d).Store w.aAB.Boxes).1 (fG w.aAB b).1).1).2 with
     |true=>rfl
     |false=>
      unfold jL at hs
      rw[hm] at hs
      revert hs
      generalize(aF w d)=x
      generalize(fG w.aAB b).1=s
      cases !aT w.aAB.Log|| !cO w.aAB.Log x.Log<;>cases !gP (aB w.aAB.Log) (aN x.Store)<;>cases w.aAB.Boxes.Epoch !=aD w.aAB.Log|| !(bW x.Store w.aAB.Boxes).2<;>cases decide (s.Epoch<aD w.aAB.Log)||(decide (s.Epoch<x.Epoch)||(s.Epoch==x.Epoch&&decide (s.Version<x.Version)))<;>cases !(iO (bW x.Store w.aAB.Boxes).1 s).2<;>simp
    have:=aLv hm
    simp only[cond_true,D.Device.sz,D.aAE.sz] at*;omega
  have h1:=vO (f:=D.Device.sz) (l:=w.Devices) (i:=d.toNat) (x:=(cK (aF w d) w.aAB.Log w.aAB.Boxes (fG w.aAB b).1).1) hi
  generalize(cK (aF w d) w.aAB.Log w.aAB.Boxes (fG w.aAB b).1).1=x at*
  simp only[D.World.sz,List.length_set] at*;omega
theorem bEw {w:D.World}{d:Int}(hd:aQ w d=true):(O1 w d).1.aAB.Log=w.aAB.Log∧(O1 w d).1.Devices.length=w.Devices.length∧(O1 w d).1.sz≤w.sz+501:=by
 unfold O1
 cases(dF (aF w d)).2.2&&(cZ w.aAB (dF (aF w d)).2.1).2 with
 |false=>exact⟨rfl,rfl,by simp only[cond_false];omega⟩
 |true=>
  have hu:=nI w.aAB (dF (aF w d)).2.1
  have hw:=zZ (aF w d)
  simp only[aQ,Bool.and_eq_true,decide_eq_true_eq] at hd
  have hi:d.toNat<w.Devices.length:=by omega
  have h1:=vO (f:=D.Device.sz) (l:=w.Devices) (i:=d.toNat) (x:=(dF (aF w d)).1) hi
  have e:w.Devices[d.toNat]=aF w d:=by simp[aF,List.getD,List.getElem?_eq_getElem hi]
  rw[e] at h1
  refine⟨hu.2,List.length_set,?_⟩
  generalize(cZ w.aAB (dF (aF w d)).2.1).1=c at*
  generalize dF (aF w d)=x at*
  simp only[cond_true,D.World.sz,D.aAB.sz,List.length_set] at*;omega
theorem aU9 {w:D.World}{d:Int}(h:(zY w d).2=true):(zY w d).1.aAB.Log=w.aAB.Log∧(zY w d).1.sz≤w.sz+w.aAB.Log.length+521:=by
 unfold zY at*
 cases hc:((aV w d 0).2==0&&(O1 (aV w d 0).1 d).2) with
 |false=>rw[hc] at h;cases h
 |true=>
  rw[Bool.and_eq_true] at hc
  obtain⟨⟨k1,k2⟩,k3,k4,k5⟩:=uQ hc.1
  have hd:aQ (aV w d 0).1 d=true:=by simp only[aQ] at*;rw[k4];exact k2
  obtain⟨j1,j2,j3⟩:=bEw hd
  simp only[cond_true]
  exact⟨by rw[j1,k3],by omega⟩
theorem bH2 {k z:Int}(i:Nat)(h:0≤z∧z≤255):IntKind.u8.wrap ((IntKind.i64.wrap (IntKind.i64.wrap z+bH k [(i:Int)])).tmod 256)=aQb k i z:=by
 have:=kL k [(i:Int)]
 rw[aK (n:=z) (by omega) (by omega),aK (by omega) (by omega),Int.tmod_eq_emod_of_nonneg (by omega)];rfl
theorem bAv {k z:Int}(i:Nat)(h:0≤z∧z≤255):IntKind.u8.wrap ((IntKind.i64.wrap (IntKind.i64.wrap z+(bH k [(i:Int)]).tmod 256)).tmod 256)=aQb k i z:=by
 have:=kL k [(i:Int)]
 rw[aK (n:=z) (by omega) (by omega),show(bH k [(i:Int)]).tmod 256=bH k [(i:Int)]%256 from Int.tmod_eq_emod_of_nonneg this.1,aK (by omega) (by omega),Int.tmod_eq_emod_of_nonneg (by omega),aQb]
 congr 1;omega
def aL (seed n:Int):D.aAH:=⟨1,n,bA seed [277,n],0⟩
def bG (s:D.aAH):D.Device:=⟨s,[],0,0,0,⟨[]⟩⟩
def bS (s:D.aAH)(n:ByteArray)(h:Int):Int:=bA s.Seed [179,bB n,h]
def fT (s:D.aAH)(n:ByteArray)(h:Int):Int:=dI (bS s n h)
def kQ (s:D.aAH)(l:List Int):Int:=oN (gM s) l
def aFn (log:List D.aAA)(kind dev:Int)(s:D.aAH):D.aAA:=⟨(log.length:Int),kind,dev,aN s,fH log,0⟩
def zI (log:List D.aAA)(kind dev:Int)(s:D.aAH):D.aAA:={aFn log kind dev s with Signature:=kQ s [bN (aFn log kind dev s)]}
def dD (log:List D.aAA)(kind dev:Int)(s:D.aAH):List D.aAA×Bool:=bif (decide ((log.length:Int)>0)&& !aT log)|| !aT (log++[zI log kind dev s]) then(log,false) else(log++[zI log kind dev s],true)
def gI (p e:Int)(d:List Int):D.Box:=⟨p,e,lT (iR (fF p) e) d,aB0 (iR (fF p) e) ⟨p,e,lT (iR (fF p) e) d,0⟩⟩
def fU (p e:Int)(d:List Int):D.Box×Bool:=bif fF p==0||(!bE e||decide ((d.length:Int)>200)) then(⟨0,0,[],0⟩,false) else(gI p e d,true)
def fI (e:Int)(d:List Int):Nat→List Int→List D.Box×Bool
 |_,[]=>([],true)
 |i,p::l=>bif (fU p (IntKind.i64.wrap (e+(i:Int))) d).2&&(fI e d (i+1) l).2 then((fU p (IntKind.i64.wrap (e+(i:Int))) d).1::(fI e d (i+1) l).1,true) else([],false)
def aW (log:List D.aAA)(key eph:Int):D.aAG×Bool:=bif !aT log||(!bE key|| !(fI eph (gV [aD log,key]) 0 (aB log)).2) then(⟨0,[]⟩,false) else(⟨aD log,(fI eph (gV [aD log,key]) 0 (aB log)).1⟩,true)
def oO (e:D.aAG)(d:Int):Int:=e.Boxes.foldl (fun n b=>bif b.To==d then IntKind.i64.wrap (n+1) else n) 0
def iA (e:D.aAG)(log:List D.aAA):Bool:=(e.Epoch==aD log&&(e.Boxes.length:Int)==((aB log).length:Int))&&(aB log).all fun d=>oO e d==1
def iP (c:D.aAB)(log:List D.aAA)(e:D.aAG):D.aAB×Bool:=bif !aT log||(!cO log c.Log|| !iA e log) then(c,false) else({c with Log:=log,Boxes:=e},true)
def Jq (h:Int)(l:List D.aAJ):Nat:=(l.takeWhile fun c=>decide (c.Handle<h)).length
def O3 (l:List D.aAJ)(h p:Int):List D.aAJ:=l.take (Jq h l)++[⟨h,p,0,false⟩]++l.drop (Jq h l)
def fE (a:D.aAF)(h p:Int):D.aAF×Bool:=bif !aU a|| !aU {a with Credentials:=O3 a.Credentials h p} then(a,false) else({a with Credentials:=O3 a.Credentials h p},true)
def fV (s:D.Site)(id h p:Int):D.Site×Bool:=bif !bL s||decide (aC s id<0) then(s,false) else bif (fE (s.Accounts.getD (aC s id).toNat default) h p).2 then({s with Accounts:=s.Accounts.set (aC s id).toNat (fE (s.Accounts.getD (aC s id).toNat default) h p).1},true) else(s,false)
def rR (l:List D.aAP):Nat:=bif l.any (fun n=>n.Seen) then(l.takeWhile fun n=> !n.Seen).length else 0
def Aa (l:List D.aAP):List D.aAP:=bif decide ((l.length:Int)>30) then l.take (rR l)++l.drop (rR l+1) else l
def xV (m:D.aAN)(k a t:Int):D.aAN×Bool:=bif !dP m|| !dP ⟨Aa (m.Notices++[⟨k,a,t,false⟩])⟩ then(m,false) else(⟨Aa (m.Notices++[⟨k,a,t,false⟩])⟩,true)
def gJ (w:D.World)(by_ kind pub:Int)(key:List D.aAA→Int):D.World×Bool:=
 let l:=dD w.aAB.Log kind pub (aF w by_).Store
 let e:=aW l.1 (key l.1) (IntKind.i64.wrap (1000+IntKind.i64.wrap (10*(l.1.length:Int))))
 let c:=iP w.aAB l.1 e.1
 bif l.2&&(e.2&&c.2) then({w with aAB:=c.1},true) else(w,false)
theorem vP (log:List D.aAA)(k d:Int)(s:D.aAH):(dD log k d s).1.length≤log.length+1:=by
 unfold dD
 cases(decide ((log.length:Int)>0)&& !aT log)|| !aT (log++[zI log k d s])<;>simp
theorem aSu (p e:Int)(d:List Int):(fU p e d).1.sz≤d.length:=by
 unfold fU
 cases fF p==0||(!bE e||decide ((d.length:Int)>200)) with
 |true=>simp[D.Box.sz]
 |false=>simp only[cond_false,gI,D.Box.sz,Jp];exact Nat.le_refl _
theorem aQc {e:Int}{d:List Int}:∀{i:Nat} {l:List Int},(fI e d i l).1.length≤l.length∧((fI e d i l).1.map D.Box.sz).sum≤l.length*d.length
 |i,[]=>by simp[fI]
 |i,p::l=>by
  have h1:=aQc (e:=e) (d:=d) (i:=i+1) (l:=l)
  have h2:=aSu p (IntKind.i64.wrap (e+(i:Int))) d
  unfold fI
  cases(fU p (IntKind.i64.wrap (e+(i:Int))) d).2&&(fI e d (i+1) l).2 with
  |false=>simp
  |true=>simp only[cond_true,List.length_cons,List.map_cons,List.sum_cons,Nat.add_mul];omega
theorem aQd (a b:Int):(gV [a,b]).length≤12:=Yh [a,b]
theorem O4 (log:List D.aAA)(k e:Int):(aW log k e).1.sz≤13*log.length:=by
 unfold aW
 have h1:=aQc (e:=e) (d:=gV [aD log,k]) (i:=0) (l:=aB log)
 have h2:=iJ log
 have h3:=aQd (aD log) k
 have h4:=Nat.mul_le_mul_left (aB log).length h3
 cases !aT log||(!bE k|| !(fI e (gV [aD log,k]) 0 (aB log)).2) with
 |true=>simp[D.aAG.sz]
 |false=>simp only[cond_false,D.aAG.sz];omega
theorem bAw (c:D.aAB)(l:List D.aAA)(e:D.aAG):(iP c l e).1.sz≤c.sz+l.length+e.sz∧(iP c l e).1.History=c.History:=by
 unfold iP
 cases !aT l||(!cO l c.Log|| !iA e l) with
 |true=>exact⟨by simp only[cond_true];omega,rfl⟩
 |false=>exact⟨by simp only[cond_false,D.aAB.sz,D.aAG.sz];omega,rfl⟩
theorem aQe (l:List D.aAJ)(h p:Int):(O3 l h p).length=l.length+1:=by
 simp only[O3,List.length_append,List.length_take,List.length_drop,List.length_singleton];omega
theorem aSv (a:D.aAF)(h p:Int):(fE a h p).1.sz≤a.sz+1:=by
 unfold fE
 cases !aU a|| !aU {a with Credentials:=O3 a.Credentials h p} with
 |true=>simp only[cond_true];omega
 |false=>simp only[cond_false,D.aAF.sz,aQe];exact Nat.le_refl _
theorem aLx (l:List D.aAP):(Aa l).length≤l.length:=by
 unfold Aa
 cases decide ((l.length:Int)>30) with
 |false=>exact Nat.le_refl _
 |true=>simp only[cond_true,List.length_append,List.length_take,List.length_drop];omega
theorem bDj (m:D.aAN)(k a t:Int):(xV m k a t).1.sz≤m.sz+1:=by
 unfold xV
 have:=aLx (m.Notices++[⟨k,a,t,false⟩])
 simp only[List.length_append,List.length_singleton] at this
 cases !dP m|| !dP ⟨Aa (m.Notices++[⟨k,a,t,false⟩])⟩ with
 |true=>simp only[cond_true];omega
 |false=>simp only[cond_false,D.aAN.sz];omega
theorem lU {α:Type}{p:α→Bool}{i:Nat}{l:List α}(h:decide (iL p i l<0)=false):(i:Int)≤iL p i l∧iL p i l<i+l.length:=by
 induction l generalizing i with
 |nil=>simp[iL] at h
 |cons x l ih=>
  unfold iL at h ⊢
  cases hp:p x with
  |true=>simp only[cond_true,List.length_cons];omega
  |false=>
   rw[hp] at h
   have:=ih (i:=i+1) h
   simp only[cond_false,List.length_cons];omega
theorem aLy (s:D.Site)(id h p:Int):(fV s id h p).1.sz≤s.sz+1:=by
 unfold fV
 cases hc: !bL s||decide (aC s id<0) with
 |true=>simp only[cond_true];omega
 |false=>
  rw[Bool.or_eq_false_iff] at hc
  have hr:=lU hc.2
  simp only[cond_false]
  cases(fE (s.Accounts.getD (aC s id).toNat default) h p).2 with
  |false=>simp only[cond_false];omega
  |true=>
   have hi:(aC s id).toNat<s.Accounts.length:=by unfold aC;omega
   have h1:=vO (f:=D.aAF.sz) (l:=s.Accounts) (i:=(aC s id).toNat) (x:=(fE (s.Accounts.getD (aC s id).toNat default) h p).1) hi
   have h2:=aSv (s.Accounts.getD (aC s id).toNat default) h p
   have e:s.Accounts.getD (aC s id).toNat default=s.Accounts[(aC s id).toNat]:=by simp[List.getD,List.getElem?_eq_getElem hi]
   rw[e] at h1 h2 ⊢
   simp only[cond_true,D.Site.sz,List.length_set];omega
def appW (w:D.World)(x:D.Device):D.World:={w with Devices:=w.Devices++[x],Stolen:=w.Stolen++[false]}
theorem Yj (w:D.World)(b k p:Int)(key:List D.aAA→Int):(gJ w b k p key).1.sz≤w.sz+14*(w.aAB.Log.length+1)∧(gJ w b k p key).1.aAB.Log.length≤w.aAB.Log.length+1∧(gJ w b k p key).1.Devices=w.Devices∧(gJ w b k p key).1.Sites=w.Sites:=by
 unfold gJ
 dsimp only
 have h1:=vP w.aAB.Log k p (aF w b).Store
 generalize(dD w.aAB.Log k p (aF w b).Store)=l at*
 have h2:=O4 l.1 (key l.1) (IntKind.i64.wrap (1000+IntKind.i64.wrap (10*(l.1.length:Int))))
 have h3:=(bAw w.aAB l.1 (aW l.1 (key l.1) (IntKind.i64.wrap (1000+IntKind.i64.wrap (10*(l.1.length:Int))))).1).1
 have h4:(iP w.aAB l.1 (aW l.1 (key l.1) (IntKind.i64.wrap (1000+IntKind.i64.wrap (10*(l.1.length:Int))))).1).1.Log.length≤w.aAB.Log.length+1:=by
  unfold iP
  cases !aT l.1||(!cO l.1 w.aAB.Log|| !iA (aW l.1 (key l.1) (IntKind.i64.wrap (1000+IntKind.i64.wrap (10*(l.1.length:Int))))).1 l.1) with
  |true=>simp only[cond_true];omega
  |false=>simp only[cond_false];exact h1
 generalize aW l.1 (key l.1) (IntKind.i64.wrap (1000+IntKind.i64.wrap (10*(l.1.length:Int))))=e at*
 generalize iP w.aAB l.1 e.1=c at*
 cases l.2&&(e.2&&c.2) with
 |false=>exact⟨by show w.sz≤_;omega,by show w.aAB.Log.length≤_;omega,rfl,rfl⟩
 |true=>exact⟨by show(D.World.sz {w with aAB:=c.1})≤_;simp only[D.World.sz,D.aAB.sz] at*;omega,h4,rfl,rfl⟩
def jZ (d:D.Device)(h:Int)(rm:Bool):D.Device:=(fB (fB d (aA 0) h rm).1 (aA 1) h rm).1
def kC (st:D.aAH)(n:Int):Nat→List D.Site→List D.Site×Bool
 |_,[]=>([],true)
 |j,s::l=>bif (fV s 1 n (fT st (aA (j:Int)) n)).2&&(kC st n (j+1) l).2 then((fV s 1 n (fT st (aA (j:Int)) n)).1::(kC st n (j+1) l).1,true) else([],false)
def mO (w:D.World)(k:Int):D.World:={w with Mail:=(xV w.Mail k 1 w.Now).1}
def add1 (w:D.World)(b:Int):D.World×Bool:=gJ (aV w b 0).1 b 1 (aN (aL w.Seed (w.Devices.length:Int))) fun _=>(aF (aV w b 0).1 b).Key
def aSw (w:D.World)(b:Int):List D.Site×Bool:=kC (aL w.Seed (w.Devices.length:Int)) (w.Devices.length:Int) 0 (add1 w b).1.Sites
def aFo (w:D.World)(b:Int):D.World×Bool:=zY {(add1 w b).1 with Sites:=(aSw w b).1,Devices:=(add1 w b).1.Devices.set b.toNat (jZ (aF (add1 w b).1 b) (w.Devices.length:Int) false)} b
def aQf (w:D.World)(b:Int):D.World×Int:=aV (appW (aFo w b).1 (bG (aL w.Seed (w.Devices.length:Int)))) (w.Devices.length:Int) 0
def Yk (w:D.World)(b:Int):Bool:=(bK w&&(aQ w b&&(!bM w b&& !decide ((w.Devices.length:Int)≥6))))&&((aV w b 0).2==0&&((add1 w b).2&&((aSw w b).2&&((aFo w b).2&&(aQf w b).2==0))))
def iW (w:D.World)(b:Int):D.World×Bool:=bif Yk w b then(mO (aQf w b).1 2,true) else(w,false)
theorem aNw (d:D.Device)(h:Int)(rm:Bool):(jZ d h rm).sz≤d.sz+2:=by
 have h1:=Ny (fB d (aA 0) h rm).1 (aA 1) h rm
 have h2:=Ny d (aA 0) h rm
 unfold jZ;omega
theorem aLz {st:D.aAH}{n:Int}:∀{j:Nat} {l:List D.Site},(kC st n j l).1.length≤l.length∧((kC st n j l).1.map D.Site.sz).sum≤(l.map D.Site.sz).sum+l.length
 |j,[]=>by simp[kC]
 |j,s::l=>by
  have h1:=aLz (st:=st) (n:=n) (j:=j+1) (l:=l)
  have h2:=aLy s 1 n (fT st (aA (j:Int)) n)
  unfold kC
  cases(fV s 1 n (fT st (aA (j:Int)) n)).2&&(kC st n (j+1) l).2 with
  |false=>simp
  |true=>simp only[cond_true,List.length_cons,List.map_cons,List.sum_cons];omega
theorem bHg {w:D.World}{b:Int}(h0:((aV w b 0).2==0)=true):(aQ (add1 w b).1 b=true∧(add1 w b).1.Devices.length=w.Devices.length)∧(add1 w b).1.sz≤16*w.sz+34∧(add1 w b).1.aAB.Log.length≤w.sz+1:=by
 obtain⟨⟨k1,k2⟩,k3,k4,k5⟩:=uQ h0
 have hL:w.aAB.Log.length≤w.sz:=by simp only[D.World.sz,D.aAB.sz];omega
 obtain⟨g1,g2,g3,g4⟩:=Yj (aV w b 0).1 b 1 (aN (aL w.Seed (w.Devices.length:Int))) (fun _=>(aF (aV w b 0).1 b).Key)
 rw[k3] at g1 g2
 refine⟨⟨?_,by show(gJ _ _ _ _ _).1.Devices.length=_;rw[g3,k4]⟩,by unfold add1;omega,by unfold add1;omega⟩
 simp only[aQ] at*
 unfold add1
 rw[g3,k4];exact k2
def aAW (w:D.World)(b:Int):D.World:={(add1 w b).1 with Sites:=(aSw w b).1,Devices:=(add1 w b).1.Devices.set b.toNat (jZ (aF (add1 w b).1 b) (w.Devices.length:Int) false)}
theorem bDk (w:D.World)(x:D.Device):(appW w x).sz=w.sz+x.sz+2:=by
 simp only[appW,D.World.sz,List.length_append,List.length_singleton,List.map_append,List.map_cons,List.map_nil,List.sum_append,List.sum_cons,List.sum_nil];omega
theorem aNx (w:D.World)(k:Int):(mO w k).sz≤w.sz+1:=by
 have:=bDj w.Mail k 1 w.Now
 simp only[mO,D.World.sz,D.aAN.sz] at*;omega
theorem aL0 {α:Type}{p:α→Bool}:∀{l:List α} {i:Nat} (hi:i<l.length),i<(l.takeWhile p).length→p l[i]=true
 |x::l,0,_,h=>by
  simp only[List.takeWhile_cons] at h
  cases hp:p x with
  |true=>exact hp
  |false=>rw[hp] at h;simp at h
 |x::l,i+1,hi,h=>by
  simp only[List.takeWhile_cons] at h
  cases hp:p x with
  |true=>
   have h':i<(l.takeWhile p).length:=by simpa[hp] using h
   exact aL0 (l:=l) (i:=i) (by simpa using hi) h'
  |false=>rw[hp] at h;simp at h
theorem aL1 {α:Type}{p:α→Bool}:∀{l:List α} (h:(l.takeWhile p).length<l.length),p (l[(l.takeWhile p).length]'h)=false
 |x::l,h=>by
  cases hp:p x with
  |true=>
   have h':(l.takeWhile p).length<l.length:=by simpa[List.takeWhile_cons,hp] using h
   simpa[List.takeWhile_cons,hp] using aL1 h'
  |false=>simp[List.takeWhile_cons,hp]
theorem Jr {α:Type}{p:α→Bool}{l:List α}:(l.takeWhile p).length≤l.length:=(List.takeWhile_prefix p).length_le
theorem O5 {α τ S:Type}{l:List α}(p:α→Bool)(fin:Nat→Option τ)(e:Nat→S){F:(S→Option τ)→S→Option τ}(hl:l.length≤34359738368)
  (hF:∀rec i (hi:i<l.length),F rec (e i)=bif p l[i] then rec (e (i+1)) else fin i) (hE:∀rec,F rec (e l.length)=fin l.length):EV.dL FUEL F (e 0)=fin (l.takeWhile p).length:=by
 have go:∀(k i n:Nat),i+k=(l.takeWhile p).length→k<n→EV.dL n F (e i)=fin (l.takeWhile p).length:=by
  intro k
  induction k with
  |zero=>
   intro i n hi hn
   obtain⟨n,rfl⟩:∃m,n=m+1:=⟨n-1,by omega⟩
   have:i=(l.takeWhile p).length:=by omega
   subst this
   rw[jY]
   by_cases h:(l.takeWhile p).length<l.length
   ·rw[hF _ _ h,aL1 h,cond_false]
   ·have h2:(l.takeWhile p).length=l.length:=by have:=Jr (p:=p) (l:=l);omega
    rw[h2,hE]
  |succ k ih=>
   intro i n hi hn
   obtain⟨n,rfl⟩:∃m,n=m+1:=⟨n-1,by omega⟩
   have h1:i<l.length:=by have:=Jr (p:=p) (l:=l);omega
   rw[jY,hF _ _ h1,aL0 (p:=p) h1 (by omega),cond_true]
   exact ih (i+1) n (by omega) (by omega)
 have:=Jr (p:=p) (l:=l)
 exact go (l.takeWhile p).length 0 FUEL (by omega) (by have:=jF;omega)
theorem aL2 {e:Int}{d:List Int}{l:List Int}{τ:Type}{x:τ}{F:(List D.Box×Nat→Option (τ⊕List D.Box))→List D.Box×Nat→Option (τ⊕List D.Box)}
  (hF:∀rec i s (hi:i<l.length),s.length≤i→F rec (s,i)=bif !(fU l[i] (IntKind.i64.wrap (e+(i:Int))) d).2 then some (.inl x) else rec (s++[(fU l[i] (IntKind.i64.wrap (e+(i:Int))) d).1],i+1)) (hE:∀rec s,F rec (s,l.length)=some (.inr s)):
  ∀(k i n:Nat) (s:List D.Box),i+k=l.length→k<n→s.length≤i→EV.dL n F (s,i)=some (bif (fI e d i (l.drop i)).2 then .inr (s++(fI e d i (l.drop i)).1) else .inl x)
 |0,i,n+1,s,h,_,_=>by
  have:i=l.length:=by omega
  subst this
  rw[jY,hE,List.drop_length];simp[fI]
 |k+1,i,n+1,s,h,hn,hs=>by
  have hi:i<l.length:=by omega
  rw[jY,hF _ i s hi hs,List.drop_eq_getElem_cons hi,fI]
  cases hb:(fU l[i] (IntKind.i64.wrap (e+(i:Int))) d).2 with
  |false=>rfl
  |true=>
   rw[Bool.not_true,cond_false,aL2 hF hE k (i+1) n _ (by omega) (by omega) (by simp;omega)]
   cases(fI e d (i+1) (l.drop (i+1))).2<;>simp
def aSx (l:List D.aAP):Nat:=(l.takeWhile fun n=> !n.Seen).length
theorem aXa {l:List D.aAP}{x:D.aAP}:aSx (l++[x])=bif l.any (fun n=>n.Seen) then aSx l else bif x.Seen then l.length else l.length+1:=by
 induction l with
 |nil=>cases hx:x.Seen<;>simp[aSx,hx]
 |cons y l ih=>
  unfold aSx at*
  cases hy:y.Seen with
  |true=>simp[hy]
  |false=>
   simp only[List.cons_append,List.takeWhile_cons,hy,Bool.not_false,if_true,List.length_cons,List.any_cons,Bool.false_or,ih]
   cases l.any (fun n=>n.Seen)<;>cases x.Seen<;>simp
theorem aL3 {l:List D.aAP}{F:(Int×Int→Option Int)→Int×Int→Option Int}(hF:∀rec (k:Int) (i:Nat) (hi:i<l.length),F rec (k,(i:Int))=rec (bif l[i].Seen then(i:Int) else k,(i:Int)-1))(hE:∀rec k,F rec (k,-1)=some k):
  ∀(n m:Nat) (k:Int),n≤l.length→n<m→EV.dL m F (k,(n:Int)-1)=some (bif (l.take n).any (fun x=>x.Seen) then(aSx (l.take n):Int) else k)
 |0,m+1,k,_,_=>by rw[jY,show((0:Nat):Int)-1= -1 from rfl,hE];simp
 |n+1,m+1,k,h,hm=>by
  have hn:n<l.length:=by omega
  rw[jY,show((n+1:Nat):Int)-1=(n:Int) by omega,hF _ _ n hn,aL3 hF hE n m _ (by omega) (by omega),List.take_add_one,List.getElem?_eq_getElem hn]
  simp only[Option.toList_some,List.any_append,aXa,List.any_cons,List.any_nil,Bool.or_false,List.length_take,Nat.min_eq_left (Nat.le_of_lt hn)]
  cases(l.take n).any (fun x=>x.Seen)<;>cases l[n].Seen<;>rfl
theorem aQg (l:List D.aAP):(rR l:Int)=bif l.any (fun x=>x.Seen) then(aSx l:Int) else 0:=by
 unfold rR aSx;cases l.any (fun n=>n.Seen)<;>rfl
theorem aQh {l:List D.aAP}(h:0<l.length):rR l<l.length:=by
 unfold rR
 cases hs:l.any (fun n=>n.Seen) with
 |false=>exact h
 |true=>
  obtain⟨x,hx,hp⟩:=List.any_eq_true.1 hs
  have:∀l:List D.aAP,x∈l→(l.takeWhile fun n=> !n.Seen).length<l.length:=by
   intro l
   induction l with
   |nil=>intro h;cases h
   |cons y l ih=>
    intro h
    cases hy:y.Seen with
    |true=>simp[hy]
    |false=>
     rcases List.mem_cons.1 h with rfl|h
     ·rw[hp] at hy;cases hy
     ·simpa[hy] using ih h
  exact this l hx
theorem bDl {τ S:Type}{l:List D.aAP}(fin:Int→Option τ)(st:Nat→S){F:(S→Option τ)→S→Option τ}(hl:l.length≤34359738368)(hF:∀rec i (hi:i<l.length),F rec (st i)=bif l[i].Seen then fin (i:Int) else rec (st (i+1)))(hE:∀rec,F rec (st l.length)=fin 0):EV.dL FUEL F (st 0)=fin (rR l:Int):=by
 have e:=O5 (l:=l) (fun n=> !n.Seen) (fun i=>bif decide (i<l.length) then fin (i:Int) else fin 0) st (F:=F) hl (fun rec i hi=>by
  rw[hF rec i hi,decide_eq_true hi];cases l[i].Seen<;>rfl) (fun rec=>by rw[hE,decide_eq_false (by omega)];rfl)
 rw[e,aQg]
 cases hs:l.any (fun n=>n.Seen) with
 |true=>
  have h0:0<l.length:=by cases l with|nil=>simp at hs|cons=>simp
  have:=aQh h0
  unfold rR at this
  rw[hs,cond_true] at this
  rw[decide_eq_true this];rfl
 |false=>
  have hh:∀l:List D.aAP,l.any (fun n=>n.Seen)=false→(l.takeWhile fun n=> !n.Seen).length=l.length:=by
   intro l
   induction l with
   |nil=>intro _;rfl
   |cons x l ih=>
    intro h
    simp only[List.any_cons,Bool.or_eq_false_iff] at h
    simp[h.1,ih h.2]
  have this:=hh l hs
  rw[this,decide_eq_false (by omega)];rfl
theorem bAx {e:Int}{d:List Int}{i:Nat}{l:List Int}(h:(fI e d i l).2=false):fI e d i l=([],false):=by
 cases l with
 |nil=>cases h
 |cons p l=>
  unfold fI at*
  cases hc:(fU p (IntKind.i64.wrap (e+(i:Int))) d).2&&(fI e d (i+1) l).2 with
  |true=>rw[hc] at h;cases h
  |false=>rfl
theorem bAy {s:D.Site}{i:Int}(hz:s.sz≤34359738300)(h:decide (aC s i<0)=false):bT s.Accounts (aC s i)=some (s.Accounts.getD (aC s i).toNat default)∧(s.Accounts.getD (aC s i).toNat default).sz≤34359738300∧(aC s i).toNat<s.Accounts.length:=by
 have hr:=lU (p:=fun a:D.aAF=>a.Id==i) (i:=0) (l:=s.Accounts) h
 have hi:(aC s i).toNat<s.Accounts.length:=by unfold aC;omega
 have h1:=Nw (f:=D.aAF.sz) hi
 refine⟨rQ (by unfold aC;omega) (by unfold aC;omega),?_,hi⟩
 simp only[D.Site.sz] at hz;omega
def kD (d:D.Device)(log:List D.aAA)(key:Int):D.Device×Bool:=bif !aT log||(!cO log d.Log||(decide (aD log<d.Epoch)|| !bE key)) then(d,false) else({d with Log:=log,Key:=key,Epoch:=aD log,Version:=0},true)
def aM (a:D.aAF)(h:Int):Int:=iL (fun c=>c.Handle==h) 0 a.Credentials
def dU (a:D.aAF)(k:Int):D.aAJ:=a.Credentials.getD k.toNat default
def kR (a:D.aAF)(h:Int):D.aAF×Bool:=bif !aU a||(decide (aM a h<0)||(dU a (aM a h)).Cut) then(a,false) else({a with Credentials:=a.Credentials.set (aM a h).toNat {dU a (aM a h) with Cut:=true}},true)
def dK (s:D.Site)(k:Int):D.aAF:=s.Accounts.getD k.toNat default
def eH (h:Int)(s:D.Site):D.Site:=bif decide (aC s 1≥0) then {s with Accounts:=s.Accounts.set (aC s 1).toNat (kR (dK s (aC s 1)) h).1} else s
def bP (s e:Int):Int:=bA s [233,e]
def iX (s:D.aAH)(l:List D.aAA):Int:=bP (bA s.Seed [311]) (aD l)
def fK (w:D.World)(b:Int):D.World:=(aV w b 0).1
def Js (w:D.World)(b t:Int):List D.aAA:=(dD (fK w b).aAB.Log 2 (aN (aF w t).Store) (aF (fK w b) b).Store).1
def kI (w:D.World)(b t:Int):D.World×Bool:=gJ (fK w b) b 2 (aN (aF w t).Store) (iX (aF (fK w b) b).Store)
def zJ (w:D.World)(b t:Int):D.Device×Bool:=kD (aF (fK w b) b) (Js w b t) (iX (aF (fK w b) b).Store (Js w b t))
def Ot (w:D.World)(b t:Int):D.World:={(kI w b t).1 with Devices:=(kI w b t).1.Devices.set b.toNat (jZ (zJ w b t).1 t true),Sites:=(kI w b t).1.Sites.map (eH t)}
def Dk (w:D.World)(b t:Int):D.World×Bool:=O1 (Ot w b t) b
def mE (w:D.World)(b t:Int):D.World×Bool:=bif (kI w b t).2&&((zJ w b t).2&&(Dk w b t).2) then(mO (Dk w b t).1 4,true) else(w,false)
def dJ (w:D.World)(b t:Int):D.World×Bool:=bif (aV w b 0).2==0&&(!bM w b&&(!(b==t)&&cB w t)) then mE w b t else(w,false)
theorem aFp (d:D.Device)(l:List D.aAA)(k:Int):(kD d l k).1.sz≤d.sz+l.length:=by
 unfold kD
 cases !aT l||(!cO l d.Log||(decide (aD l<d.Epoch)|| !bE k)) with
 |true=>simp only[cond_true];omega
 |false=>simp only[cond_false,D.Device.sz];omega
theorem aSy (a:D.aAF)(h:Int):(kR a h).1.sz=a.sz:=by
 unfold kR
 cases !aU a||(decide (aM a h<0)||(dU a (aM a h)).Cut) with
 |true=>rfl
 |false=>simp only[cond_false,D.aAF.sz,List.length_set]
theorem aSz (h:Int)(s:D.Site):(eH h s).sz=s.sz:=by
 unfold eH
 cases hc:decide (aC s 1≥0) with
 |false=>rfl
 |true=>
  have h0:decide (aC s 1<0)=false:=by rw[decide_eq_true_iff] at hc;exact decide_eq_false (by omega)
  have hr:=lU h0
  have hi:(aC s 1).toNat<s.Accounts.length:=by unfold aC;omega
  have h1:=vO (f:=D.aAF.sz) (l:=s.Accounts) (i:=(aC s 1).toNat) (x:=(kR (dK s (aC s 1)) h).1) hi
  have h2:=aSy (dK s (aC s 1)) h
  have e:dK s (aC s 1)=s.Accounts[(aC s 1).toNat]:=by simp[dK,List.getD,List.getElem?_eq_getElem hi]
  rw[e] at h1 h2 ⊢
  simp only[cond_true,D.Site.sz,List.length_set];omega
theorem aQi (h:Int)(l:List D.Site):((l.map (eH h)).map D.Site.sz).sum=(l.map D.Site.sz).sum:=by
 induction l with
 |nil=>rfl
 |cons s l ih=>simp only[List.map_cons,List.sum_cons,aSz,ih]
theorem aXb {w:D.World}{b t:Int}(h0:((aV w b 0).2==0)=true):(aQ (fK w b) b=true∧(fK w b).Devices.length=w.Devices.length∧(fK w b).aAB=w.aAB∧(fK w b).sz≤2*w.sz+20)∧(Js w b t).length≤w.sz+1∧(aQ (kI w b t).1 b=true∧(kI w b t).1.Devices=(fK w b).Devices)∧(kI w b t).1.sz≤16*w.sz+34∧(kI w b t).1.Sites=(fK w b).Sites:=by
 obtain⟨⟨k1,k2⟩,k3,k4,k5⟩:=uQ h0
 have hL:w.aAB.Log.length≤w.sz:=by simp only[D.World.sz,D.aAB.sz];omega
 have hl:=vP (fK w b).aAB.Log 2 (aN (aF w t).Store) (aF (fK w b) b).Store
 obtain⟨g1,g2,g3,g4⟩:=Yj (fK w b) b 2 (aN (aF w t).Store) (iX (aF (fK w b) b).Store)
 have hd0:aQ (aV w b 0).1 b=true:=by simp only[aQ] at*;rw[k4];exact k2
 have hd:aQ (fK w b) b=true:=hd0
 have kc:(fK w b).aAB=w.aAB:=k3
 rw[kc] at g1 hl
 have k6:(fK w b).sz≤w.sz+w.aAB.Log.length+20:=k5
 refine⟨⟨hd,k4,k3,by omega⟩,by unfold Js;rw[kc];omega,⟨?_,g3⟩,by unfold kI;omega,g4⟩
 have h:aQ (gJ (fK w b) b 2 (aN (aF w t).Store) (iX (aF (fK w b) b).Store)).1 b=true:=by simp only[aQ] at*;rw[g3];exact hd
 exact h
--needs aAL aAK aAM
def dH (b:D.aAD)(id:Int):Int:=bH b.Seed [197,id]
def Yl (b:D.aAD)(acc now:Int):D.aAM:=⟨b.Next,acc,IntKind.i64.wrap (now+5)⟩
def dO (b:D.aAD)(acc now:Int):D.aAD×D.aAM×Bool:=bif dV b&&(!(b.Next==1000000)&&(bR acc 0 1000000&&bR now 0 1000000)) then(⟨b.Seed,IntKind.i64.wrap (b.Next+1),(bif decide ((b.Open.length:Int)≥16) then b.Open.drop 1 else b.Open)++[Yl b acc now]⟩,Yl b acc now,true) else(b,⟨0,0,0⟩,false)
def dC (b:D.aAD)(id:Int):Int:=iL (fun c=>c.Id==id) 0 b.Open
def O6 (b:D.aAD)(k:Int):D.aAM:=b.Open.getD k.toNat default
def kS (b:D.aAD)(id acc now:Int):D.aAD×Bool:=bif !dV b||decide (dC b id<0) then(b,false) else(⟨b.Seed,b.Next,b.Open.take (dC b id).toNat++b.Open.drop ((dC b id).toNat+1)⟩,(O6 b (dC b id)).aAF==acc&&decide (now≤(O6 b (dC b id)).Until))
def gT (s:D.Site)(id now:Int):D.Site×Int×Int×Bool:=bif bL s&&(!decide (aC s id<0)&&(dO s.Book id now).2.2) then({s with Book:=(dO s.Book id now).1},(dO s.Book id now).2.1.Id,dH (dO s.Book id now).1 (dO s.Book id now).2.1.Id,true) else(s,0,0,false)
def jM (s:D.aAH):Bool:=bR s.Vendor 1 9&&(bR s.Serial 0 1000000&&(bE s.Seed&&bR s.Counter 0 1000000))
def aVa (s:D.aAH):D.aAH:={s with Counter:=IntKind.i64.wrap (s.Counter+1)}
def fC (s:D.aAH)(site:ByteArray)(h:Int)(m:List Int):D.aAH×Int×Bool:=bif jM s&& !(s.Counter==1000000) then(aVa s,oN (bS s site h) (m++[(aVa s).Counter]),true) else(s,0,false)
def aY (a:D.aAL):List Int:=[199,bB a.Site,lK 211 a.aAK,a.aAM,a.Handle,bif a.Present then 1 else 0]
def nU (j:Int):D.aAK:=⟨true,⟨#[119,119,119,46]⟩++aA j,443⟩
def bAz (j:Int):D.aAK:=⟨true,⟨#[108,111,103,105,110,46]⟩++aA j++⟨#[46,101,118,105,108,46,110,101,116]⟩,443⟩
def Ab (j:Int):D.aAK:=⟨true,aA j,443⟩
def pR (k:Nat):D.aAK:=match k with|0=>nU 0|1=>nU 1|2=>Ab 0|3=>Ab 1|4=>bAz 0|_=>bAz 1
def sK (k:Nat):ByteArray:=⟨#[104,116,116,112,115,58,47,47]⟩++(pR k).Host
def bH3:List UInt8→List UInt8→Bool
 |[],b=>b==[]
 |x::a,b=>b==x::a||bH3 a b
def iI (o:D.aAK)(z:ByteArray):Bool:=bH3 (46::o.Host.data.toList) (46::z.data.toList)
def Ep (o:D.aAK)(s:ByteArray):Prop:=(∃k:Nat,k<6∧o=pR k)∧∃j:Int,(j=0∨j=1)∧s=aA j
noncomputable instance (o:D.aAK) (s:ByteArray):Decidable (Ep o s):=Classical.propDecidable _
def kT (o:D.aAK):Prop:=∃k:Nat,k<6∧o=pR k
theorem kT.p {o:D.aAK}(h:kT o){j:Int}(hj:j=0∨j=1):Ep o (aA j):=⟨h,j,hj,rfl⟩
theorem bA0 {j:Int}(hj:j=0∨j=1):kT (nU j):=by
 rcases hj with rfl|rfl
 ·exact⟨0,by decide,rfl⟩
 ·exact⟨1,by decide,rfl⟩
noncomputable instance (o:D.aAK):Decidable (kT o):=Classical.propDecidable _
def oP (o:D.aAK):ByteArray:=⟨#[104,116,116,112,115,58,47,47]⟩++o.Host
def aXc (s:ByteArray):Prop:=s=⟨#[]⟩∨∃k:Nat,k<4∧s=sK k
noncomputable instance (s:ByteArray):Decidable (aXc s):=Classical.propDecidable _
def uY (s:ByteArray):D.aAK×Bool:=bif decide (s.size=0) then(⟨false,⟨#[]⟩,0⟩,false) else(⟨true,s.extract 8 s.size,443⟩,true)
def xP (s:D.aAH)(o:D.aAK)(site:ByteArray)(h ch:Int)(p:Bool):D.aAL:=⟨site,oP o,ch,h,p,0,0⟩
def aFq:D.aAL:=⟨⟨#[]⟩,⟨#[]⟩,0,0,false,0,0⟩
def fZ (s:D.aAH)(o:D.aAK)(site:ByteArray)(h ch:Int)(p:Bool):D.aAH×D.aAL×Bool:=bif iI o site&&(fC s site h (aY (xP s o site h ch p))).2.2 then((fC s site h (aY (xP s o site h ch p))).1,{xP s o site h ch p with Counter:=(fC s site h (aY (xP s o site h ch p))).1.Counter,Signature:=(fC s site h (aY (xP s o site h ch p))).2.1},true) else(s,aFq,false)
def AsP (a:D.aAL)(site:ByteArray):Prop:=∃j:Int,(j=0∨j=1)∧site=aA j∧(a=aFq∨(a.Site=site∧∃k:Nat,k<4∧a.aAK=sK k∧iI (pR k) site=true))
noncomputable instance (a:D.aAL) (s:ByteArray):Decidable (AsP a s):=Classical.propDecidable _
def dQ (pub:Int)(a:D.aAL)(site:ByteArray)(ch cnt:Int):Int:=bif !(a.Site.toList==site.toList) then 1 else bif !a.Present then 2 else bif !(a.aAM==ch) then 3 else bif !fA pub (aY a++[a.Counter]) a.Signature then 5 else bif decide (a.Counter≤cnt) then 4 else 0
def eQ (a:D.aAF)(x:D.aAL)(site:ByteArray)(ch:Int):D.aAF×Int:=bif !aU a||(decide (aM a x.Handle<0)||(dU a (aM a x.Handle)).Cut) then(a,5) else({a with Credentials:=bif dQ (dU a (aM a x.Handle)).Public x site ch (dU a (aM a x.Handle)).Counter==0 then a.Credentials.set (aM a x.Handle).toNat {dU a (aM a x.Handle) with Counter:=x.Counter} else bif dQ (dU a (aM a x.Handle)).Public x site ch (dU a (aM a x.Handle)).Counter==4 then a.Credentials.set (aM a x.Handle).toNat {dU a (aM a x.Handle) with Cut:=true} else a.Credentials},dQ (dU a (aM a x.Handle)).Public x site ch (dU a (aM a x.Handle)).Counter)
def mF (a:D.aAF)(m:Int):Bool:=aU a&&(decide (a.Minimum≤m)&&(decide (m≤3)&&(!(m==3)||a.Credentials.any fun c=> !c.Cut)))
def jN (s:D.Site)(id ch now:Int)(a:D.aAL):D.Site×Int×Int:=bif !bL s||decide (aC s id<0) then(s,1,0) else bif !(kS s.Book ch id now).2 then({s with Book:=(kS s.Book ch id now).1},2,0) else bif !mF (dK s (aC s id)) 3 then({s with Book:=(kS s.Book ch id now).1},3,0) else bif !((eQ (dK s (aC s id)) a s.Name (dH s.Book ch)).2==0) then({s with Book:=(kS s.Book ch id now).1,Accounts:=s.Accounts.set (aC s id).toNat (eQ (dK s (aC s id)) a s.Name (dH s.Book ch)).1},4,(eQ (dK s (aC s id)) a s.Name (dH s.Book ch)).2) else({s with Book:=(kS s.Book ch id now).1,Accounts:=s.Accounts.set (aC s id).toNat (eQ (dK s (aC s id)) a s.Name (dH s.Book ch)).1,Logins:=s.Logins++[id]},0,0)
def dA (w:D.World)(j:Int):D.Site:=w.Sites.getD j.toNat default
def eT (w:D.World)(j:Int):D.Site×Int×Int×Bool:=gT (dA w j) 1 w.Now
def mQ (w:D.World)(d j:Int)(o:D.aAK):D.aAH×D.aAL×Bool:=fZ (aF w d).Store o (aA j) d (eT w j).2.2.1 true
def xQ (w:D.World)(d j:Int)(o:D.aAK):D.Site×Int×Int:=jN (eT w j).1 1 (eT w j).2.1 w.Now (mQ w d j o).2.1
def aB1 (w:D.World)(d j:Int)(o:D.aAK):D.World:={w with Devices:=w.Devices.set d.toNat {aF w d with Store:=(mQ w d j o).1},Sites:=w.Sites.set j.toNat (xQ w d j o).1}
def bU (w:D.World)(d j:Int):Bool:=bK w&&(aQ w d&&iE w j)
def dY (w:D.World)(d j:Int)(o:D.aAK):D.World×D.aAL×Int:=bif !bU w d j then(w,aFq,1) else bif !(eT w j).2.2.2 then(w,aFq,1) else bif !((xQ w d j o).2.1==0) then(aB1 w d j o,(mQ w d j o).2.1,2) else(mO (aB1 w d j o) 1,(mQ w d j o).2.1,0)
def nD (w:D.World)(d j:Int)(o:D.aAK):D.World×Int:=((dY w d j o).1,(dY w d j o).2.2)
def uR (w:D.World)(d j:Int):D.World×Int:=bif bU w d j&& !bM w d then nD w d j (nU j) else(w,1)
def nV (o:D.aAK):Bool:=fQ o.Host&&bR o.Port 1 65535
def aXd (m:Int):Nat→Int→Int→Int→Int
 |0,_,_,s=>s
 |k+1,b,n,s=>if n>0 then aXd m k ((IntKind.i64.wrap (b*b)).tmod m) (n/2) (bif n%2==1 then(IntKind.i64.wrap (s*b)).tmod m else s) else s
def aXe (x:Int):Bool:=bR x 1 2038&&aXd 2039 11 x 1019 1==1
def Sl (g n:Int):Int:=bif aXe g then aXd 2039 11 g (kN n 1019) 1 else 0
def aDy (l v:Int):Int:=Sl 4 (IntKind.i64.wrap (1+((IntKind.i64.wrap (bH l [89,v]*bH l [89,v])).tmod 2147483647).tmod 1018))
def Oa (s l i:Int):Int:=Sl (aDy l i) s
def Dl (e l:Int):Int:=iH (bH e [157,l])
def aQj (k m:Int):Int:=bif bR k 0 2147483647 then aYy .i64 k (bA m [251]) else 0
def aDz (o s:Int):Int:=bH o [257,s]
def qV (c:Int)(l:List Int)(n:Int):List D.aAV:=bif bR n 1 7&&decide ((l.length:Int)<n) then(List.range n.toNat).map fun(i:Nat)=>⟨(i:Int)+1,Yf c l ((i:Int)+1)⟩ else[]
def xW (k:D.aAS):D.aAI:=⟨k,[],aE9 k⟩
def aD0 (pin salt key secret limit:Int):Bool:=bR pin 0 9999&&(bR salt 0 1000000&&(bE key&&(!(kN secret 1019==0)&&bR limit 1 10)))
def Dm (pin salt key secret:Int)(cs:List Int)(n limit:Int):D.aAU×List D.aAI×Bool:=
 bif aD0 pin salt key secret limit&& !((qV secret cs n).length==0) then(⟨salt,IntKind.i64.wrap ((cs.length:Int)+1),aDz (Dl (Oa secret salt pin) salt) salt,aQj key (Dl (Oa secret salt pin) salt)⟩,(qV secret cs n).map (fun s=>xW ⟨s,0,0,limit⟩),true) else(⟨0,0,0,0⟩,[],false)
def dW (log:List D.aAA)(bx:D.aAG):D.aAB×Bool:=bif aT log&&iA bx log then(⟨log,bx,[]⟩,true) else(⟨[],⟨0,[]⟩,[]⟩,false)
def oQ (id:Int)(l:List D.aAF):Nat:=(l.takeWhile fun a=>decide (a.Id<id)).length
def lV (s:D.Site)(id m:Int):D.Site:={s with Accounts:=s.Accounts.take (oQ id s.Accounts)++[⟨id,m,[]⟩]++s.Accounts.drop (oQ id s.Accounts)}
def kU (s:D.Site)(id m:Int):D.Site×Bool:=bif bL s&&bL (lV s id m) then(lV s id m,true) else(s,false)
def mG (nm:ByteArray):Nat→List D.Device→D.Site→D.Site
 |_,[],s=>s
 |i,d::l,s=>mG nm (i+1) l (fV s 1 (i:Int) (fT d.Store nm (i:Int))).1
def rT (seed:Int)(l:List D.Device)(j:Int):D.Site:=mG (aA j) 0 l (kU (fD (aA j) (bA seed [281,j])) 1 3).1
def oU (l:List D.Device)(seed:Int):List D.Site:=[rT seed l 0,rT seed l 1]
def aO (seed:Int):Nat→List D.aAA
 |0=>[]
 |n+1=>(dD (aO seed n) 1 (aN (aL seed (n:Int))) (aL seed 0)).1
def bX (seed:Int)(n:Nat):List D.Device:=(List.range n).map fun(i:Nat)=>bG (aL seed (i:Int))
def Ac (nm:ByteArray):Nat→D.Device→D.Device
 |0,d=>d
 |i+1,d=>(fB (Ac nm i d) nm (i:Int) false).1
def gB (seed:Int)(n:Nat):D.aAG:=(aW (aO seed n) (bP seed 0) 1000).1
def rU (seed:Int)(n:Nat)(d:D.Device):D.Device:=(kD d (aO seed n) (bP seed 0)).1
def jW (seed:Int)(n:Nat):D.Device:=Ac (aA 1) n (Ac (aA 0) n (rU seed n (bG (aL seed 0))))
def nwW (seed:Int)(n:Nat):D.Device×D.aAC×Bool:=dF (jW seed n)
def gH (seed:Int)(n:Nat):D.aAB:=(cZ (dW (aO seed n) (gB seed n)).1 (nwW seed n).2.1).1
def oV (seed:Int)(n:Nat)(d:D.Device):D.Device:=(cK (rU seed n d) (aO seed n) (gB seed n) (nwW seed n).2.1).1
def gK (seed:Int)(n:Nat):List D.Device:=(nwW seed n).1::((bX seed n).drop 1).map (oV seed n)
def Sm (seed t:Int):List Int:=(List.range (t-1).toNat).map fun(k:Nat)=>bA seed [307,(k:Int)+1]
def Oc (seed t pin k:Int):D.aAU×List D.aAI×Bool:=Dm pin 7 (bA seed [283]) (IntKind.i64.wrap (1+(bA seed [293]).tmod 1018)) (Sm seed t) k 5
def Dp (n k t pin seed:Int):Bool:=bR n 1 3&&(bR k 1 7&&(bR t 1 k&&(bR pin 0 9999&&bE seed)))
def aVc:D.World:=⟨0,0,[],[],⟨[],⟨0,[]⟩,[]⟩,[],⟨0,0,0,0⟩,[],0,⟨[]⟩⟩
def aZ (n k t pin seed:Int):D.World:=bif Dp n k t pin seed then⟨0,seed,gK seed n.toNat,List.replicate n.toNat false,gH seed n.toNat,oU (bX seed n.toNat) seed,(Oc seed t pin k).1,(Oc seed t pin k).2.1,pin,⟨[]⟩⟩ else aVc
theorem aFr {l:List Int}(h:l.Nodup)(e:D.aAA):(gZ l e).Nodup:=by
 unfold gZ
 cases e.Kind==1 with
 |true=>
  simp only[cond_true]
  cases hc:l.contains e.Device with
  |true=>exact h
  |false=>
   simp only[cond_false]
   rw[List.nodup_append]
   refine⟨h,by simp,fun a ha b hb e'=> ?_⟩
   simp at hb;subst hb;subst e'
   have:l.contains e.Device=true:=by simpa using ha
   rw[hc] at this;cases this
 |false=>
  simp only[cond_false]
  cases e.Kind==2 with
  |true=>exact h.filter _
  |false=>exact h
theorem aS0 (log:List D.aAA):(aB log).Nodup:=by
 have key:∀(l:List D.aAA) (s:List Int),s.Nodup→(l.foldl gZ s).Nodup:=by
  intro l
  induction l with
  |nil=>exact fun _ h=>h
  |cons e l ih=>exact fun s h=>ih _ (aFr h e)
 exact key log [] List.nodup_nil
theorem aQk {e:Int}{d:List Int}:∀{i:Nat} {l:List Int},(fI e d i l).2=true→(fI e d i l).1.map (fun b=>b.To)=l
 |_,[],_=>rfl
 |i,p::l,h=>by
  simp only[fI] at h ⊢
  cases hc:(fU p (IntKind.i64.wrap (e+(i:Int))) d).2&&(fI e d (i+1) l).2 with
  |false=>rw[hc] at h;cases h
  |true=>
   rw[Bool.and_eq_true] at hc
   simp only[cond_true,List.map_cons,aQk hc.2]
   have:(fU p (IntKind.i64.wrap (e+(i:Int))) d).1.To=p:=by
    have h1:=hc.1
    unfold fU at h1 ⊢
    cases hq:fF p==0||(!bE (IntKind.i64.wrap (e+(i:Int)))||decide ((d.length:Int)>200)) with
    |true=>rw[hq] at h1;cases h1
    |false=>rfl
   rw[this]
theorem aL4:∀{l:List D.Box} {d:Int} {s:Int},(l.map fun b=>b.To).Nodup→0≤s→s<1000→l.foldl (fun n b=>bif b.To==d then IntKind.i64.wrap (n+1) else n) s=s+(if d∈l.map (fun b=>b.To) then 1 else 0)
 |[],d,s,_,_,_=>by simp
 |b::l,d,s,h,h0,h1=>by
  rw[List.map_cons,List.nodup_cons] at h
  rw[List.foldl_cons]
  cases hc:b.To==d with
  |true=>
   have hd:b.To=d:=by simpa using hc
   have hn:d∉l.map (fun b=>b.To):=hd▸h.1
   have hw:IntKind.i64.wrap (s+1)=s+1:=aK (by omega) (by omega)
   have key:∀(l:List D.Box) (s:Int),d∉l.map (fun b=>b.To)→l.foldl (fun n b=>bif b.To==d then IntKind.i64.wrap (n+1) else n) s=s:=by
    intro l
    induction l with
    |nil=>exact fun _ _=>rfl
    |cons x l ih=>
     intro s hx
     simp only[List.map_cons,List.mem_cons,not_or] at hx
     have:(x.To==d)=false:=by simpa using fun e=>hx.1 e.symm
     rw[List.foldl_cons,this,cond_false]
     exact ih s hx.2
   rw[cond_true,key l _ hn,hw,List.map_cons,if_pos (by simp[hd])]
  |false=>
   have hd:¬b.To=d:=by simpa using hc
   rw[cond_false,aL4 h.2 h0 h1,List.map_cons]
   have:(d∈b.To::l.map fun b=>b.To)↔d∈l.map fun b=>b.To:=by rw[List.mem_cons];exact⟨fun h=>h.resolve_left fun e=>hd e.symm, .inr⟩
   simp only[this]
theorem aJi {log:List D.aAA}{k e:Int}(h:(aW log k e).2=true):iA (aW log k e).1 log=true:=by
 unfold aW at h ⊢
 cases hc: !aT log||(!bE k|| !(fI e (gV [aD log,k]) 0 (aB log)).2) with
 |true=>rw[hc] at h;cases h
 |false=>
  simp only[Bool.or_eq_false_iff,Bool.not_eq_false'] at hc
  have ht:=aQk hc.2.2
  have hl:=congrArg List.length ht
  rw[List.length_map] at hl
  simp only[cond_false,iA,oO,Bool.and_eq_true,beq_iff_eq,List.all_eq_true,hl,and_self,true_and,beq_self_eq_true]
  intro d hd
  rw[aL4 (by rw[ht];exact aS0 log) (by omega) (by omega),ht,if_pos hd];rfl
theorem aXf {log:List D.aAA}{k e:Int}(h:(aW log k e).2=false):(aW log k e).1=⟨0,[]⟩:=by
 unfold aW at h ⊢
 cases hc: !aT log||(!bE k|| !(fI e (gV [aD log,k]) 0 (aB log)).2) with
 |true=>rfl
 |false=>rw[hc] at h;cases h
theorem aL5 {d:D.Device}{log:List D.aAA}{bx:D.aAG}{s:D.aAC}(h:(jL d log bx s==0)=false):(cK d log bx s).1=d:=by
 unfold cK;rw[h];rfl
theorem bA1 (d:D.Device)(bx:D.aAG)(s:D.aAC):(cK d [] bx s).1=d:=aL5 rfl
theorem bGk (s:D.aAH):(bW s ⟨0,[]⟩).2=false:=rfl
theorem aS1 {log:List D.aAA}{key e:Int}{s:D.aAC}(hs:s=⟨0,0,[],0⟩∨s.Epoch=aD log)(d:D.Device):
  (cK d (cZ (dW log (aW log key e).1).1 s).1.Log (cZ (dW log (aW log key e).1).1 s).1.Boxes (fG (cZ (dW log (aW log key e).1).1 s).1 0).1).1=(cK d log (aW log key e).1 s).1:=by
 cases hc:aT log&&iA (aW log key e).1 log with
 |true=>
  have e1:(dW log (aW log key e).1).1=⟨log,(aW log key e).1,[]⟩:=by unfold dW;rw[hc];rfl
  rw[e1]
  cases hq:s.Epoch !=aD log with
  |true=>
   have hs':s=⟨0,0,[],0⟩:=by
    rcases hs with h|h
    ·exact h
    ·rw[h] at hq;simp at hq
   have e2:(cZ ⟨log,(aW log key e).1,[]⟩ s).1=⟨log,(aW log key e).1,[]⟩:=by
    unfold cZ;rw[show(D.aAB.mk log (aW log key e).1 []).Log=log from rfl,hq];rfl
   rw[e2,hs'];rfl
  |false=>
   have e2:(cZ ⟨log,(aW log key e).1,[]⟩ s).1=⟨log,(aW log key e).1,[s]⟩:=by
    unfold cZ;rw[show(D.aAB.mk log (aW log key e).1 []).Log=log from rfl,hq];rfl
   rw[e2];rfl
 |false=>
  have e1:(dW log (aW log key e).1).1=⟨[],⟨0,[]⟩,[]⟩:=by unfold dW;rw[hc];rfl
  have e2:(cZ (dW log (aW log key e).1).1 s).1.Log=[]:=by rw[(nI _ _).2,e1]
  rw[e2,bA1]
  refine(aL5 ?_).symm
  cases hl:aT log with
  |false=>simp only[jL,hl,Bool.not_false,Bool.true_or,cond_true];rfl
  |true=>
   rw[hl,Bool.true_and] at hc
   have hm:(aW log key e).2=false:=by
    cases hm:(aW log key e).2 with
    |false=>rfl
    |true=>rw[aJi hm] at hc;cases hc
   rw[aXf hm]
   simp only[jL,hl,bGk,Bool.not_true,Bool.false_or,Bool.not_false,Bool.or_true,cond_true]
   cases !cO log d.Log with
   |true=>rfl
   |false=>
    simp only[cond_false]
    cases !gP (aB log) (aN d.Store)<;>rfl
theorem Ym (nm:ByteArray):∀(i:Nat) (d:D.Device),(Ac nm i d).sz≤d.sz+i
 |0,d=>Nat.le_refl _
 |i+1,d=>by have h1:=Ym nm i d;have h2:=Ny (Ac nm i d) nm (i:Int) false;show(fB (Ac nm i d) nm (i:Int) false).1.sz≤_;omega
theorem nJ (seed:Int):∀n:Nat,(aO seed n).length≤n
 |0=>Nat.le_refl _
 |n+1=>by have h1:=nJ seed n;have h2:=vP (aO seed n) 1 (aN (aL seed (n:Int))) (aL seed 0);show(dD (aO seed n) 1 (aN (aL seed (n:Int))) (aL seed 0)).1.length≤_;omega
theorem aD1 (seed:Int)(n:Nat)(d:D.Device):(rU seed n d).sz≤d.sz+n:=by
 have h1:=aFp d (aO seed n) (bP seed 0);have h2:=nJ seed n;show(kD d (aO seed n) (bP seed 0)).1.sz≤_;omega
theorem O7 (s:D.aAH):(bG s).sz=0:=rfl
theorem aFs (seed:Int)(n:Nat):(jW seed n).sz≤3*n:=by
 have h1:=Ym (aA 1) n (Ac (aA 0) n (rU seed n (bG (aL seed 0))))
 have h2:=Ym (aA 0) n (rU seed n (bG (aL seed 0)))
 have h3:=aD1 seed n (bG (aL seed 0))
 rw[O7] at h3
 unfold jW;omega
theorem aFt (seed:Int)(n:Nat):(gB seed n).sz≤13*n:=by
 have h1:=O4 (aO seed n) (bP seed 0) 1000;have h2:=nJ seed n;unfold gB;omega
theorem aBd (log:List D.aAA)(bx:D.aAG):(dW log bx).1.sz≤log.length+bx.sz:=by
 unfold dW
 cases aT log&&iA bx log with
 |true=>simp only[cond_true,D.aAB.sz,D.aAG.sz,List.length_nil,List.map_nil,List.sum_nil];omega
 |false=>exact Nat.zero_le _
theorem aFu (seed:Int)(n:Nat):(gH seed n).sz≤14*n+501:=by
 have h1:=(nI (dW (aO seed n) (gB seed n)).1 (nwW seed n).2.1).1
 have h2:=aBd (aO seed n) (gB seed n)
 have h3:=aFt seed n
 have h4:=nJ seed n
 have h5:=(zZ (jW seed n)).2
 have h5:(nwW seed n).2.1.Data.length≤500:=h5
 unfold gH;omega
theorem aXg (seed:Int)(n:Nat)(d:D.Device):(oV seed n d).sz≤d.sz+2*n+20:=by
 have h1:=aFm (rU seed n d) (aO seed n) (gB seed n) (nwW seed n).2.1
 have h2:=aD1 seed n d
 have h3:=nJ seed n
 unfold oV;omega
theorem aS2 {α:Type}{f:α→Nat}{b:Nat}:∀{l:List α},(∀x∈l,f x≤b)→(l.map f).sum≤l.length*b
 |[],_=>Nat.zero_le _
 |x::l,h=>by
  have h1:=h x (by simp);have h2:=aS2 (l:=l) (f:=f) (b:=b) fun y hy=>h y (by simp[hy])
  simp only[List.map_cons,List.sum_cons,List.length_cons,Nat.add_mul];omega
theorem Sq (nm:ByteArray):∀(i:Nat) (l:List D.Device) (s:D.Site),(mG nm i l s).sz≤s.sz+l.length
 |_,[],s=>Nat.le_refl _
 |i,d::l,s=>by
  have h1:=Sq nm (i+1) l (fV s 1 (i:Int) (fT d.Store nm (i:Int))).1
  have h2:=aLy s 1 (i:Int) (fT d.Store nm (i:Int))
  show(mG nm (i+1) l (fV s 1 (i:Int) (fT d.Store nm (i:Int))).1).sz≤_
  rw[List.length_cons];omega
theorem aFv (s:D.Site)(id m:Int):(kU s id m).1.sz≤s.sz+1:=by
 unfold kU
 cases bL s&&bL (lV s id m) with
 |false=>simp only[cond_false];omega
 |true=>
  have e:(s.Accounts.map D.aAF.sz).sum=((s.Accounts.take (oQ id s.Accounts)).map D.aAF.sz).sum+((s.Accounts.drop (oQ id s.Accounts)).map D.aAF.sz).sum:=by rw[←List.sum_append,←List.map_append,List.take_append_drop]
  have el:(s.Accounts.take (oQ id s.Accounts)).length+(s.Accounts.drop (oQ id s.Accounts)).length=s.Accounts.length:=by rw[←List.length_append,List.take_append_drop]
  simp only[cond_true,lV,D.Site.sz,List.length_append,List.map_append,List.sum_append,List.length_cons,List.length_nil,List.map_cons,List.map_nil,List.sum_cons,List.sum_nil,D.aAF.sz]
  omega
theorem aBe (nm:ByteArray)(s:Int):(fD nm s).sz≤nm.size:=by
 unfold fD
 cases iU nm s with
 |true=>simp[D.Site.sz]
 |false=>exact Nat.zero_le _
theorem aBf (seed:Int)(l:List D.Device)(j:Int):(rT seed l j).sz≤l.length+101:=by
 have h1:=Sq (aA j) 0 l (kU (fD (aA j) (bA seed [281,j])) 1 3).1
 have h2:=aFv (fD (aA j) (bA seed [281,j])) 1 3
 have h3:=aBe (aA j) (bA seed [281,j])
 have h4:(aA j).size≤100:=by unfold aA;cases j==0<;>cases j==1<;>decide
 unfold rT;omega
theorem aL6 (c:Int)(l:List Int)(n:Int):(qV c l n).length≤7:=by
 unfold qV
 cases hc:bR n 1 7&&decide ((l.length:Int)<n) with
 |false=>exact Nat.zero_le _
 |true=>
  rw[Bool.and_eq_true] at hc
  have:=gW hc.1
  simp only[cond_true,List.length_map,List.length_range];omega
theorem aNy (pin salt key secret:Int)(cs:List Int)(n limit:Int):(Dm pin salt key secret cs n limit).2.1.length≤7∧((Dm pin salt key secret cs n limit).2.1.map D.aAI.sz).sum=0:=by
 unfold Dm
 cases aD0 pin salt key secret limit&& !((qV secret cs n).length==0) with
 |false=>exact⟨Nat.zero_le _,rfl⟩
 |true=>
  refine⟨by simp only[cond_true,List.length_map];exact aL6 _ _ _,?_⟩
  have:=aS2 (f:=D.aAI.sz) (b:=0) (l:=(qV secret cs n).map fun s=>xW ⟨s,0,0,limit⟩) (fun x hx=>by obtain⟨s,_,rfl⟩:=List.mem_map.1 hx;exact Nat.le_refl _)
  simp only[cond_true];omega
theorem aQl (n k t pin seed:Int):(aZ n k t pin seed).sz≤100000:=by
 unfold aZ
 cases hc:Dp n k t pin seed with
 |false=>exact Nat.zero_le _
 |true=>
  simp only[Dp,Bool.and_eq_true] at hc
  have hn:=gW hc.1
  obtain⟨N,hN⟩:∃N,N=n.toNat:=⟨_,rfl⟩
  have hN3:N≤3:=by omega
  have h1:=zZ (jW seed N)
  have h2:=aFs seed N
  have h3:=aFu seed N
  have h4:=aBf seed (bX seed N) 0
  have h5:=aBf seed (bX seed N) 1
  have h6:=aNy pin 7 (bA seed [283]) (IntKind.i64.wrap (1+(bA seed [293]).tmod 1018)) (Sm seed t) k 5
  have h7:(bX seed N).length=N:=by simp[bX]
  have h8:=aS2 (f:=D.Device.sz) (b:=26) (l:=((bX seed N).drop 1).map (oV seed N)) (fun x hx=>by
   obtain⟨d,hd,rfl⟩:=List.mem_map.1 hx
   have hd':=List.mem_of_mem_drop hd
   simp only[bX,List.mem_map] at hd'
   obtain⟨i,_,rfl⟩:=hd'
   have:=aXg seed N (bG (aL seed (i:Int)))
   rw[O7] at this;omega)
  have h9:(nwW seed N).1.sz=(jW seed N).sz:=h1.1
  have h6':(Oc seed t pin k).2.1.length≤7∧((Oc seed t pin k).2.1.map D.aAI.sz).sum=0:=h6
  rw[List.length_map,List.length_drop,h7] at h8
  simp only[cond_true,←hN,D.World.sz,gK,oU,List.length_cons,List.length_map,List.length_drop,h7,List.map_cons,List.sum_cons,List.length_nil,List.map_nil,List.sum_nil,List.length_replicate,h9]
  have h10:(gH seed N).sz≤14*N+501:=h3
  have h11:(N-1)*26≤52:=Nat.mul_le_mul_right 26 (show N-1≤2 by omega)
  simp only[D.aAB.sz,D.aAG.sz] at h10
  omega
theorem aXh (d:D.Device)(n:ByteArray)(h:Int)(rm:Bool):(fB d n h rm).1.Key=d.Key∧(fB d n h rm).1.Epoch=d.Epoch:=by
 unfold fB
 cases(uP d n h rm).2<;>exact⟨rfl,rfl⟩
theorem aNz (nm:ByteArray):∀(i:Nat) (d:D.Device),(Ac nm i d).Key=d.Key∧(Ac nm i d).Epoch=d.Epoch
 |0,d=>⟨rfl,rfl⟩
 |i+1,d=>by
  obtain⟨h1,h2⟩:=aNz nm i d;obtain⟨h3,h4⟩:=aXh (Ac nm i d) nm (i:Int) false
  exact⟨h3.trans h1,h4.trans h2⟩
theorem aS3 (seed:Int)(n:Nat):(jW seed n).Key=(rU seed n (bG (aL seed 0))).Key∧(jW seed n).Epoch=(rU seed n (bG (aL seed 0))).Epoch:=by
 obtain⟨h1,h2⟩:=aNz (aA 1) n (Ac (aA 0) n (rU seed n (bG (aL seed 0))))
 obtain⟨h3,h4⟩:=aNz (aA 0) n (rU seed n (bG (aL seed 0)))
 exact⟨h1.trans h3,h2.trans h4⟩
theorem aS4 {seed:Int}{n:Nat}(h:bE (rU seed n (bG (aL seed 0))).Key=true):(rU seed n (bG (aL seed 0))).Epoch=aD (aO seed n):=by
 unfold rU kD at h ⊢
 cases hq: !aT (aO seed n)||(!cO (aO seed n) (bG (aL seed 0)).Log||(decide (aD (aO seed n)<(bG (aL seed 0)).Epoch)|| !bE (bP seed 0))) with
 |true=>rw[hq] at h;exact absurd (show bE 0=true from h) (by decide)
 |false=>rfl
theorem aXi (seed:Int)(n:Nat):(nwW seed n).2.1=⟨0,0,[],0⟩∨(nwW seed n).2.1.Epoch=aD (aO seed n):=by
 obtain⟨k1,k2⟩:=aS3 seed n
 unfold nwW dF
 generalize jW seed n=d at k1 k2 ⊢
 cases hs:(tJ d.Key d.Epoch (IntKind.i64.wrap (d.Version+1)) d.aAE).2 with
 |false=>exact .inl rfl
 |true=>
  refine .inr ?_
  simp only[cond_true]
  unfold tJ at hs ⊢
  cases hc:bE d.Key&&(bR d.Epoch 0 1000000&&bR (IntKind.i64.wrap (d.Version+1)) 0 1000000)&&aP d.aAE with
  |false=>rw[hc] at hs;cases hs
  |true=>
   simp only[Bool.and_eq_true] at hc
   show d.Epoch=_
   rw[k2]
   exact aS4 (k1▸hc.1.1)
theorem bDm (seed:Int)(n:Nat)(d:D.Device):(cK (rU seed n d) (gH seed n).Log (gH seed n).Boxes (fG (gH seed n) 0).1).1=oV seed n d:=aS1 (aXi seed n) (rU seed n d)
structure AskIn (B:Nat) (hs:List D.aAI) (i:Nat) (s:List D.aAI×List Int×List Int):Prop where
 len:s.1.length=hs.length
 sz:∀h∈s.1,h.sz≤B+i
 eq:s.2.1.length=s.2.2.length
 le:s.2.2.length≤i
--needs aAL aAK aAM
def gU (w:D.World)(d:Int):D.World×Bool:=bif bU w d 0&& !bM w d then({w with Stolen:=w.Stolen.set d.toNat true},true) else(w,false)
def nK (w:D.World)(d j:Int):D.World×Int:=bif bU w d j&&bM w d then nD w d j (nU j) else(w,1)
def aFw (l:List Int):Prop:=okL (fun n:Int=>0≤n∧n≤255) l
noncomputable instance (l:List Int):Decidable (aFw l):=Classical.propDecidable _
def bA2 (l:List Int):Bool:=decide ((l.length:Int)>1048576)
def atF (l:List Int)(i:Int):Int:=bif decide (i<(l.length:Int)) then IntKind.i64.wrap (l.getD i.toNat 0) else(IntKind.i64.wrap (IntKind.i64.wrap (i*31)+IntKind.i64.wrap ((l.length:Int)*7))).tmod 256
def bH4 (b:D.aAG):Prop:=∀x∈b.Boxes,bF x.Data
def bGl (c:D.aAB):Prop:=bH4 c.Boxes∧∀s∈c.History,bF s.Data
instance (b:D.aAG):Decidable (bH4 b):=inferInstanceAs (Decidable (∀x∈b.Boxes,bF x.Data))
instance (c:D.aAB):Decidable (bGl c):=inferInstanceAs (Decidable (_∧_))
theorem bH5 {l:List Int}(h:aFw l)(hb:l.length≤1048576){i:Int}(h0:0≤i)(h1:i≤1000):0≤atF l i∧atF l i≤255:=by
 unfold atF
 by_cases hi:i<(l.length:Int)
 ·rw[decide_eq_true hi,cond_true,List.getD,List.getElem?_eq_getElem (show i.toNat<l.length by omega),Option.getD_some]
  have:=h.2 _ (List.getElem_mem (show i.toNat<l.length by omega))
  rw[aK (by omega) (by omega)];exact this
 ·rw[decide_eq_false hi,cond_false,aK (show-9223372036854775808≤i*31 by omega) (by omega),aK (show-9223372036854775808≤(l.length:Int)*7 by omega) (by omega),aK (by omega) (by omega)]
  have:=Int.tmod_nonneg (a:=i*31+(l.length:Int)*7) 256 (by omega)
  have:=Int.tmod_lt_of_pos (i*31+(l.length:Int)*7) (show(0:Int)<256 by decide)
  omega
end Go.VK
