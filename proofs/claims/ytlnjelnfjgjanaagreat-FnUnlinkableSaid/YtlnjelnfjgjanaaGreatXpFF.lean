import Derived.Test.YtlnjelnfjgjanaaGreatEWbtod
import Derived.Test.YtlnjelnfjgjanaaGreatXpS
/- Printed by wip/tools: models, walks, proofs. -/
set_option linter.unusedVariables false
set_option linter.unusedSimpArgs false
set_option maxRecDepth 100000
set_option maxHeartbeats 4000000
namespace Go.VK
open Go.RowKit Go.Proofs
def pR (k:D.aAT):Int:=IntKind.i64.wrap (IntKind.i64.wrap (k.Epoch*1000)+k.Guesses)
theorem aBe {h v:Int}(h0:0≤h)(h1:h<2147483647):0≤hstep h v∧hstep h v<2147483647:=by
 have hm:=qI (p:=v) (q:=2147483647) (by omega)
 unfold hstep
 generalize dI v 2147483647=z at*
 have e1:IntKind.i64.wrap (h*1000003)=h*1000003:=aG (by omega) (by omega)
 have e2:IntKind.i64.wrap (h*1000003+z)=h*1000003+z:=aG (by omega) (by omega)
 have e3:IntKind.i64.wrap (h*1000003+z+13)=h*1000003+z+13:=aG (by omega) (by omega)
 rw[e1,e2,e3]
 exact⟨Int.tmod_nonneg _ (by omega),Int.tmod_lt_of_pos _ (by decide)⟩
theorem aPp (l:List Int):0≤vF l∧vF l<2147483647:=by
 unfold vF
 suffices ∀(l:List Int) (h:Int),0≤h→h<2147483647→0≤l.foldl hstep h∧l.foldl hstep h<2147483647 from this l 11 (by omega) (by omega)
 intro l
 induction l with
 |nil=>intro h h0 h1;exact⟨h0,h1⟩
 |cons x xs ih=>intro h h0 h1;exact ih _ (aBe h0 h1).1 (aBe h0 h1).2
theorem jN (k:Int)(l:List Int):0≤bI k l∧bI k l<2147483647:=aPp _
def aNq (a b:Int):Int:=bif decide (b>a) then b else a
def aBf (a:List Int)(r:List (List Int)):List Int:=a++r.flatten
def gQ (n:Int):Int:=bif n==0 then 1 else n
def bM (n:Int):Bool:=bF n 1 2147483646
def Tq (b:List Int):List Int:=[(b.length:Int)]++b.map IntKind.i64.wrap
def aU (seed:Int)(l:List Int):Int:=gQ (bI seed ([151]++l))
def vO (k:Int)(s:ByteArray):Int:=gQ (bI k (Tq (bY s)))
def eF (p:Int):Int:=bif !(bM p) then 0 else(IntKind.i64.wrap (p*48271)).tmod 2147483647
def iA (s:D.aAI):Int:=aU s.Seed [181]
def aX (s:D.aAI):Int:=eF (iA s)
def iZ (l:List Int)(x:Int):Bool:=l.any fun e=>e==x
def rU (log:List D.aAC)(p:Int):Bool:=log.any fun e=>e.Kind==2&&e.Device==p
def iB (s:List Int)(e:D.aAC):List Int:=
 bif e.Kind==1 then(bif s.contains e.Device then s else s++[e.Device]) else bif e.Kind==2 then s.filter (fun d=>d !=e.Device) else s
def aH (log:List D.aAC):List Int:=log.foldl iB []
def aQ (log:List D.aAC):Int:=log.foldl (fun n e=>bif e.Kind==2 then IntKind.i64.wrap (n+1) else n) 0
def aL (b:D.aAG)(site handle:Int):Int:=gP (fun e=>e.Site==site&&e.Handle==handle) 0 b.Entries
def aC (s:D.Site)(id:Int):Int:=gP (fun a=>a.Id==id) 0 s.Accounts
theorem aBg (s:List Int)(x:D.aAC):(iB s x).length≤s.length+1:=by
 unfold iB
 cases x.Kind==1 with
 |true=>cases s.contains x.Device<;>simp
 |false=>
  cases x.Kind==2 with
  |true=>have:=List.length_filter_le (fun d=>d !=x.Device) s;simp;omega
  |false=>simp
theorem iT (log:List D.aAC):(aH log).length≤log.length:=by
 suffices ∀(l:List D.aAC) (s:List Int),(l.foldl iB s).length≤s.length+l.length from by simpa[aH] using this log []
 intro l
 induction l with
 |nil=>intro s;simp
 |cons x xs ih=>
  intro s
  simp only[List.foldl_cons,List.length_cons]
  have h1:=ih (iB s x)
  have h2:(iB s x).length≤s.length+1:=by
   unfold iB
   cases x.Kind==1 with
   |true=>cases s.contains x.Device<;>simp
   |false=>
    cases x.Kind==2 with
    |true=>have:=List.length_filter_le (fun d=>d !=x.Device) s;simp;omega
    |false=>simp
  omega
theorem aPq {n:Int}(h:0≤n):aNq 1 n=gQ n:=by
 unfold aNq gQ
 rcases(show n=0∨n=1∨n>1 by omega) with rfl|rfl|h1
 ·rfl
 ·rfl
 ·have:(n==0)=false:=by simp;omega
  simp[h1,this]
def bU (s:ByteArray):Int:=vO 173 s
def WOk (w:D.World):Prop:=w.Devices.length≤34359738368∧w.Stolen.length≤34359738368∧w.aAE.Log.length≤34359738368∧w.Sites.length≤34359738368
instance (w:D.World):Decidable (WOk w):=inferInstanceAs (Decidable (_∧_))
def aK (w:D.World)(d:Int):Bool:=decide (0≤d)&&decide (d<w.Devices.length)
theorem aL1 {w:D.World}(h:WOk w)(d:Int):bF d 0 (IntKind.i64.wrap ((w.Devices.length:Int)-1))=aK w d:=by
 have:=h.1
 rw[aG (by omega) (by omega)]
 unfold bF aK
 congr 1
 exact decide_eq_decide.2 (by omega)
def aO (w:D.World)(d:Int):D.Device:=w.Devices.getD d.toNat default
theorem uR {w:D.World}{d:Int}(h:aK w d=true):bA w.Devices d=some (aO w d):=by
 simp only[aK,Bool.and_eq_true,decide_eq_true_eq] at h
 rw[mP h.1 (by omega)]
 simp[aO,List.getD,List.getElem?_eq_getElem (show d.toNat<w.Devices.length by omega)]
def gF (w:D.World)(d:Int):Bool:=aK w d&&iZ (aH w.aAE.Log) (aX (aO w d).Store)
def aFa (w:D.World)(i:Nat):Bool:=gF w i&&(decide (i<w.Stolen.length)&& !w.Stolen.getD i false)
def Dz (w:D.World):List Int:=((List.range w.Devices.length).filter (aFa w)).map Int.ofNat
theorem WOk.of {w:D.World}(h:w.sz≤1048576):WOk w:=by
 simp only[D.World.sz,D.aAE.sz] at h
 unfold WOk
 omega
def aR8 (k:Int)(i:Nat)(z:Int):Int:=IntKind.u8.wrap ((z-bI k [(i:Int)])%256)
def aNr (k:Int)(b:List Int):List Int:=Oj (fun i z=>[aR8 k i z]) 0 b
theorem aZ5 (x:Int):dI (IntKind.i64.wrap x) 256=x%256:=by
 rw[dI,if_pos (by omega),IntKind.wrap_i64];omega
theorem aZ6 (k:Int)(i:Nat)(z:Int):IntKind.u8.wrap (dI (IntKind.i64.wrap (IntKind.i64.wrap z-(bI k [(i:Int)]).tmod 256)) 256)=aR8 k i z:=by
 rw[aZ5,aR8,IntKind.wrap_i64,Int.tmod_eq_emod_of_nonneg (jN _ _).1];congr 1;omega
theorem Ij {α β:Type}{y:Nat→α→β}:∀{i:Nat} {l:List α},(Oj (fun i x=>[y i x]) i l).length=l.length
 |i,[]=>rfl
 |i,x::xs=>by simp[Oj,Ij]
def jB (p e:Int):Int:=aU p [163,e]
def aI8 (k:Int)(b:D.Box):Int:=bI k ([167,b.To,b.Ephemeral]++Tq b.Data)
def jH (p:Int)(b:D.Box):List Int×Bool:=
 bif !bM p||(b.To !=eF p||(!bM b.Ephemeral||decide ((b.Data.length:Int)>200))) then([],false)
 else bif b.MAC !=aI8 (jB p b.Ephemeral) b then([],false) else(aNr (jB p b.Ephemeral) b.Data,true)
def jW:List D.Box→Int→List Int×Bool
 |[],_=>([],false)
 |b::bs,p=>bif (jH p b).2 then((jH p b).1,true) else jW bs p
def bB (b:List Int):Prop:=b.length≤34359738368∧b.all (fun z=>decide (0≤z)&&decide (z≤255))=true
instance (b:List Int):Decidable (bB b):=inferInstanceAs (Decidable (_∧_))
theorem Ik {b:List Int}(h:bB b){i:Nat}(hi:i<b.length):0≤b[i]∧b[i]≤255:=by
 have:=List.all_eq_true.1 h.2 b[i] (List.getElem_mem hi)
 simpa using this
def uvG (b:List Int)(p:Nat):Nat→Nat→Int→Int×Int×Bool
 |0,_,_=>(0,0,false)
 |k+1,i,n=>
  if p+i<b.length then
   bif decide (b.getD (p+i) 0<128) then
    (bif (decide (0<i)&&b.getD (p+i) 0==0)||decide (n+b.getD (p+i) 0%128*128^i>1000000000000) then(0,0,false) else(n+b.getD (p+i) 0%128*128^i,((p+i+1:Nat):Int),true))
   else uvG b p k (i+1) (n+b.getD (p+i) 0%128*128^i)
  else(0,0,false)
def Ea (b:List Int)(at_:Int):Int×Int×Bool:=if at_<0 then(0,0,false) else uvG b at_.toNat 6 0 0
theorem aZ7 {i:Nat}(h:i≤6):(1:Int)≤128^i∧(128:Int)^i≤4398046511104:=by
 match i,h with
 |0,_|1,_|2,_|3,_|4,_|5,_|6,_=>decide
theorem aUj {z n:Int}{i:Nat}(hi:i≤5)(hz:0≤z)(hn:0≤n)(hn':n<128^i):0≤n+z%128*128^i∧n+z%128*128^i<128^(i+1)∧0≤z%128*128^i∧z%128*128^i≤127*128^i:=by
 have hp:=aZ7 (i:=i) (by omega)
 have h1:0≤z%128*128^i:=Int.mul_nonneg (by omega) (by omega)
 have h2:z%128*128^i≤127*128^i:=Int.mul_le_mul_of_nonneg_right (by omega) (by omega)
 rw[Int.pow_succ]
 refine⟨by omega,by omega,h1,h2⟩
theorem bDb {z n:Int}{i:Nat}(hi:i≤5)(hz:0≤z)(hz':z≤255)(hn:0≤n)(hn':n<128^i):
  orI .i64 n (Ww .i64 (lD .i64 z 127) (IntKind.i64.wrap (7*(i:Int))))=n+z%128*128^i:=by
 obtain⟨m,rfl⟩:=Int.eq_ofNat_of_zero_le hz
 obtain⟨q,rfl⟩:=Int.eq_ofNat_of_zero_le hn
 have hp:=aZ7 (i:=i) (by omega)
 have hs:=aUj (z:=(m:Int)) (n:=(q:Int)) hi (by omega) (by omega) hn'
 have ha:lD .i64 (m:Int) 127=((m%128:Nat):Int):=by
  have e:((BitVec.ofInt 64 (m:Int))&&&(BitVec.ofInt 64 127)).toNat=m%128:=by
   rw[BitVec.toNat_and]
   have e1:(BitVec.ofInt 64 (m:Int)).toNat=m:=by
    rw[BitVec.toNat_ofInt];omega
   have e2:(BitVec.ofInt 64 127).toNat=2^7-1:=by decide
   rw[e1,e2,Nat.and_two_pow_sub_one_eq_mod]
  show IntKind.i64.wrap (((BitVec.ofInt 64 (m:Int))&&&(BitVec.ofInt 64 127)).toNat:Int)=_
  rw[e];exact aG (by omega) (by omega)
 have hw:IntKind.i64.wrap (7*(i:Int))=((7*i:Nat):Int):=by rw[aG (by omega) (by omega)];omega
 have hpn:(2:Nat)^(7*i)=128^i:=by rw[Nat.pow_mul]
 have hpi:((128^i:Nat):Int)=(128:Int)^i:=by simp
 have hb:Ww .i64 (lD .i64 (m:Int) 127) (IntKind.i64.wrap (7*(i:Int)))=((m%128*128^i:Nat):Int):=by
  rw[ha,hw]
  unfold Ww
  rw[Int.toNat_natCast,show min (7*i) IntKind.i64.bits=7*i from Nat.min_eq_left (by simp[IntKind.bits];omega)]
  have e3:((m%128:Nat):Int)*2^(7*i)=((m%128*128^i:Nat):Int):=by
   rw[←hpn];simp
  rw[e3]
  have:((m%128*128^i:Nat):Int)=(m:Int)%128*128^i:=by simp
  rw[this]
  exact aG (by omega) (by omega)
 rw[hb]
 have hqlt:q<128^i:=by rw[←hpi] at hn';exact_mod_cast hn'
 have hor:(m%128*128^i)|||q=m%128*128^i+q:=by
  have:=Nat.shiftLeft_add_eq_or_of_lt (b:=q) (i:=7*i) (by rw[hpn];exact hqlt) (m%128)
  rw[Nat.shiftLeft_eq,hpn] at this
  exact this.symm
 have hle:m%128*128^i+q<2^63:=by
  have:((m%128*128^i+q:Nat):Int)=q+(m:Int)%128*128^i:=by simp;omega
  omega
 have e4:((BitVec.ofInt 64 (q:Int))|||(BitVec.ofInt 64 ((m%128*128^i:Nat):Int))).toNat=m%128*128^i+q:=by
  rw[BitVec.toNat_or]
  have e5:(BitVec.ofInt 64 (q:Int)).toNat=q:=by rw[BitVec.toNat_ofInt];omega
  have e6:(BitVec.ofInt 64 ((m%128*128^i:Nat):Int)).toNat=m%128*128^i:=by rw[BitVec.toNat_ofInt];omega
  rw[e5,e6,Nat.or_comm,hor]
 show IntKind.i64.wrap (((BitVec.ofInt 64 (q:Int))|||(BitVec.ofInt 64 ((m%128*128^i:Nat):Int))).toNat:Int)=_
 rw[e4,aG (by omega) (by omega)]
 simp
 omega
def jO (b:List Int):Nat→Int→List Int→List Int×Int×Bool
 |0,a,s=>(s,a,true)
 |k+1,a,s=>bif (Ea b a).2.2 then jO b k (Ea b a).2.1 (s++[(Ea b a).1]) else([],0,false)
def mV (b:List Int)(a c:Int):List Int×Int×Bool:=bif !bF c 0 100|| !bF a 0 b.length then([],0,false) else jO b c.toNat a []
theorem aPr (b:List Int):∀(k:Nat) (a:Int) (s:List Int),(jO b k a s).2.2=true→(jO b k a s).1.length=s.length+k
 |0,a,s,_=>rfl
 |k+1,a,s,h=>by
  unfold jO at h ⊢
  cases hu:(Ea b a).2.2 with
  |false=>rw[hu] at h;simp at h
  |true=>
   rw[hu] at h
   simp only[cond_true] at h ⊢
   rw[aPr b k _ _ h];simp;omega
theorem decode_len {b:List Int}{a c:Int}(hc:0≤c)(h:(mV b a c).2.2=true):(mV b a c).1.length=c.toNat:=by
 unfold mV at h ⊢
 cases hx:(!bF c 0 100|| !bF a 0 b.length) with
 |true=>rw[hx] at h;simp at h
 |false=>
  rw[hx] at h
  simp only[cond_false] at h ⊢
  rw[aPr _ _ _ _ h];simp
theorem aUk {k:Int}{b:List Int}(h:b.length≤34359738368):bB (aNr k b):=by
 refine⟨by unfold aNr;rw[Ij];exact h,?_⟩
 rw[List.all_eq_true]
 intro z hz
 have:∀(b:List Int) (i:Nat),z∈Oj (fun i z=>[aR8 k i z]) i b→0≤z∧z≤255:=by
  intro b
  induction b with
  |nil=>intro i h;simp[Oj] at h
  |cons x xs ih=>
   intro i h
   simp only[Oj,List.mem_append,List.mem_singleton] at h
   rcases h with rfl|h
   ·have:=cK .u8 ((x-bI k [(i:Int)])%256)
    simpa[aR8,IntKind.min,IntKind.max,IntKind.signed,IntKind.bits] using this
   ·exact ih _ h
 have:=this b 0 hz
 simp[this.1,this.2]
theorem aR9 (p:Int)(b:D.Box):bB (jH p b).1:=by
 unfold jH
 have h0:bB ([]:List Int):=by decide
 by_cases hl:b.Data.length≤200
 ·cases(!bM p||(b.To !=eF p||(!bM b.Ephemeral||decide ((b.Data.length:Int)>200))))<;>cases(b.MAC !=aI8 (jB p b.Ephemeral) b)<;>first|exact h0|exact aUk (by omega)
 ·have e1:decide ((b.Data.length:Int)>200)=true:=by simp;omega
  rw[e1];simpa using h0
theorem aFb (p:Int):∀bs,bB (jW bs p).1
 |[]=>show bB [] by decide
 |b::bs=>by
  unfold jW
  cases(jH p b).2 with
  |true=>exact aR9 p b
  |false=>exact aFb p bs
def aFc (e:D.aAH)(x:List Int×Bool)(y:List Int×Int×Bool):Int×Bool:=
 bif !x.2||(!y.2.2||(y.2.1 !=(x.1.length:Int)||(y.1.getD 0 0 !=e.Epoch|| !bM (y.1.getD 1 0)))) then(0,false) else(y.1.getD 1 0,true)
def cO (s:D.aAI)(e:D.aAH):Int×Bool:=aFc e (jW e.Boxes (iA s)) (mV (jW e.Boxes (iA s)).1 0 2)
theorem and_one {n:Int}(h0:0≤n)(h1:n<9223372036854775808):lD .i64 n 1=n%2:=by
 obtain⟨m,rfl⟩:=Int.eq_ofNat_of_zero_le h0
 have e:((BitVec.ofInt 64 (m:Int))&&&(BitVec.ofInt 64 1)).toNat=m%2:=by
  rw[BitVec.toNat_and]
  have e1:(BitVec.ofInt 64 (m:Int)).toNat=m:=by rw[BitVec.toNat_ofInt];omega
  have e2:(BitVec.ofInt 64 1).toNat=2^1-1:=by decide
  rw[e1,e2,Nat.and_two_pow_sub_one_eq_mod]
 show IntKind.i64.wrap (((BitVec.ofInt 64 (m:Int))&&&(BitVec.ofInt 64 1)).toNat:Int)=_
 rw[e,aG (by omega) (by omega)];omega
theorem aUl {n:Int}(h0:0≤n):zL .i64 n 1=n/2:=by
 unfold zL
 rw[show min (Int.toNat 1) IntKind.i64.bits=1 from by decide,Int.fdiv_eq_ediv_of_nonneg _ (by decide)];rfl
def aZ8:Nat→Int→Int→Int→Int
 |0,_,_,s=>s
 |k+1,b,n,s=>if n>0 then aZ8 k ((IntKind.i64.wrap (b*b)).tmod 2147483647) (n/2) (bif n%2==1 then(IntKind.i64.wrap (s*b)).tmod 2147483647 else s) else s
theorem bDc:aZ8 31 48271 2147483645 1=1899818559:=by decide+kernel
def gG (q:Int):Int:=bif !bM q then 0 else q*1899818559%2147483647
def Ri (p:Int)(l:List Int):Int:=bif !bM p then 0 else bI p ([139,(l.length:Int)]++l)
def lI (q:Int)(l:List Int)(g:Int):Bool:=gG q !=0&&Ri (gG q) l==g
theorem Xx {α:Type}[Inhabited α]{l:List α}{i:Nat}(h0:0<i)(hi:i<l.length)(hl:l.length≤34359738368):bA l (IntKind.i64.wrap ((i:Int)-1))=some (l.getD (i-1) default):=by
 rw[aG (by omega) (by omega),show(i:Int)-1=((i-1:Nat):Int) by omega,aM (by omega)]
 simp[List.getD,List.getElem?_eq_getElem (show i-1<l.length by omega)]
def Aj (l:List D.aAS)(i:Nat)(n:D.aAS):Bool:= !bF n.Kind 1 5||(!bF n.aAF 0 1000000||(!bF n.Time 0 1000000||(decide (0<i)&&decide ((l.getD (i-1) default).Time>n.Time))))
def fO (m:D.aAP):Bool:=decide (m.Notices.length≤30)&& !gB (Aj m.Notices) 0 m.Notices
def iL (b:D.aAB)(i:Nat)(n:D.aAM):Bool:= !bF n.Id 0 (IntKind.i64.wrap (b.Next-1))||((decide (0<i)&&decide ((b.Open.getD (i-1) default).Id≥n.Id))||(!bF n.aAF 0 1000005|| !bF n.Until 0 1000005))
def eG (b:D.aAB):Bool:=bF b.Next 0 1000000&&decide (b.Open.length≤16)&& !gB (iL b) 0 b.Open
def xN (a:D.aAF)(i:Nat)(n:D.aAJ):Bool:=(!bF n.Handle 0 1000000||((decide (0<i)&&decide ((a.Credentials.getD (i-1) default).Handle≥n.Handle))||(gG n.Public==0|| !bF n.Counter 0 1000000)))||(a.Credentials.take i).any fun q=>q.Public==n.Public
def aY (a:D.aAF):Bool:=bF a.Id 0 1000000&&bF a.Minimum 1 3&&decide (a.Credentials.length≤8)&& !gB (xN a) 0 a.Credentials
def dY (e:D.aAC):Int:=vF [229,e.Index,e.Kind,e.Device,e.By,e.Previous]
def mI (l:List D.aAC):Int:=bif (l.length:Int)==0 then 0 else dY (l.getD (l.length-1) default)
def nW (l:List D.aAC)(e:D.aAC):Bool:=
 e.Index==(l.length:Int)&&(e.Previous==mI l&&((iZ (aH l) e.By||((l.length:Int)==0&&e.By==e.Device))&&(lI e.By [dY e] e.Signature&&
  (bif e.Kind==2 then iZ (aH l) e.Device&&decide (((aH l).length:Int)>1) else !rU l e.Device&&(e.Kind==1&&(!iZ (aH l) e.Device&&decide (((aH l).length:Int)<6)))))))
def bE (l:List D.aAC):Bool:=bF (l.length:Int) 1 40&& !gB (fun i e=> !nW (l.take i) e) 0 l
def nX:List UInt8→List UInt8→List (List UInt8)
 |cur,[]=>[cur]
 |cur,b::r=>bif b==46 then cur::nX [] r else nX (cur++[b]) r
theorem bKb (s:List UInt8)(i:Nat):Lib.occAt s [46] i=decide (s[i]? =some 46):=by
 unfold Lib.occAt
 cases h:s.drop i with
 |nil=>
  have:s.length≤i:=List.drop_eq_nil_iff.1 h
  simp[List.getElem?_eq_none this,List.isPrefixOf]
 |cons b r=>
  have e:s[i]? =some b:=by
   have:=List.getElem?_drop (xs:=s) (i:=i) (j:=0)
   rw[h] at this;simpa using this.symm
  rw[e];simp only[List.isPrefixOf,Bool.and_true,Option.some.injEq]
  rw[Bool.eq_iff_iff];simp only[beq_iff_eq,decide_eq_true_eq];exact eq_comm
def dR (s:ByteArray):List ByteArray:=(nX [] s.data.toList).map fun l=>⟨l.toArray⟩
def aNs (b:Int):Bool:=bF b 97 122||bF b 48 57||b==45
def Ak (s:ByteArray):Bool:=decide (1≤s.size)&&decide (s.size≤20)&& !((bY s).getD 0 0==45)&& !((bY s).getD (s.size-1) 0==45)&& !((bY s).any fun b=> !aNs b)
def jC (s:ByteArray):Bool:=decide (s.size≤60)&& !((dR s).any fun l=> !Ak l)
theorem qN (s:ByteArray):(bY s).length=s.size:=by simp only[bY,List.length_map];rfl
theorem bDd {s:ByteArray}{i:Nat}(h:i<s.size):bA (bY s) (i:Int)=some ((bY s)[i]'(by rw[qN];exact h)):=aM _
theorem ext_list (s:ByteArray)(a b:Nat):s.extract a b=⟨((s.data.toList.drop a).take (b-a)).toArray⟩:=by
 apply ByteArray.ext
 apply Array.toList_inj.1
 rw[Lib.extract_data]
theorem Tt:∀(s cur:List UInt8),(nX cur s).length≤s.length+1
 |[],_=>by simp[nX]
 |b::r,cur=>by
  rw[nX]
  cases b==46 with
  |true=>have:=Tt r [];simp;omega
  |false=>have:=Tt r (cur++[b]);simp at this ⊢;omega
theorem Im:∀(s cur:List UInt8) (l:List UInt8),l∈nX cur s→l.length≤cur.length+s.length
 |[],cur,l,h=>by simp[nX] at h;subst h;simp
 |b::r,cur,l,h=>by
  rw[nX] at h
  cases hb:b==46 with
  |true=>
   rw[hb,cond_true] at h
   rcases List.mem_cons.1 h with rfl|h
   ·omega
   ·have:=Im r [] l h;simp at this ⊢;omega
  |false=>rw[hb,cond_false] at h;have:=Im r _ l h;simp at this ⊢;omega
theorem aPs (s:ByteArray):(dR s).length≤s.size+1:=by
 unfold dR;rw[List.length_map];exact Tt _ _
theorem aNt (s l:ByteArray)(h:l∈dR s):l.size≤s.size:=by
 unfold dR at h
 obtain⟨q,hq,rfl⟩:=List.mem_map.1 h
 have:=Im _ _ q hq
 have h2:(⟨q.toArray⟩:ByteArray).size=q.length:=rfl
 have h3:s.data.toList.length=s.size:=rfl
 have h4:([]:List UInt8).length=0:=rfl
 omega
theorem bJ1 (z:ByteArray):(z.toList==(⟨#[]⟩:ByteArray).toList)=decide (z.size=0):=by
 rw[ByteArray.toList_eq,ByteArray.toList_eq,Bool.eq_iff_iff]
 simp only[beq_iff_eq,decide_eq_true_eq]
 constructor
 ·intro h
  show z.data.size=0
  rw[←Array.length_toList,h];rfl
 ·intro h
  exact List.eq_nil_of_length_eq_zero h
theorem Eb:∀(s cur:List UInt8),(nX cur s).length=s.countP (·==46)+1
 |[],_=>rfl
 |b::r,cur=>by
  rw[nX,List.countP_cons]
  cases b==46 with
  |true=>rw[cond_true,List.length_cons,Eb r []];simp
  |false=>rw[cond_false,Eb r _];simp
theorem aPt (s:ByteArray):0<(dR s).length:=by
 unfold dR;rw[List.length_map,Eb];omega
def bH5 (s:ByteArray):ByteArray:=bif jC s then(bif (dR s).length==1 then s else aD6 ⟨#[46]⟩ ((dR s).drop ((dR s).length-2))) else⟨#[]⟩
theorem bH6 {l:List ByteArray}(h:2≤l.length):∃a∈l,∃b∈l,aD6 ⟨#[46]⟩ (l.drop (l.length-2))=a++⟨#[46]⟩++b:=by
 have hl:(l.drop (l.length-2)).length=2:=by rw[List.length_drop];omega
 match hm:l.drop (l.length-2),hl with
 |[a,b],_=>
  refine⟨a,List.mem_of_mem_drop (i:=l.length-2) (by rw[hm];simp),b,List.mem_of_mem_drop (i:=l.length-2) (by rw[hm];simp),?_⟩
  rw[show[a,b]=[a]++[b] from rfl,bCc _ _ _ (by simp),bCb]
theorem aBh {s:ByteArray}(h:jC s=true):s.size≤60∧0<s.size:=by
 unfold jC at h
 rw[Bool.and_eq_true,decide_eq_true_eq] at h
 refine⟨h.1,Nat.pos_of_ne_zero fun e=> ?_⟩
 have e2:s.data.toList=[]:=List.eq_nil_of_length_eq_zero e
 have e3:dR s=[⟨#[]⟩]:=by unfold dR;rw[e2];rfl
 rw[e3] at h
 exact absurd h.2 (by decide)
theorem bI1 {s:ByteArray}(h:jC s=true):decide ((bH5 s).size=0)=false:=by
 have hs:=aBh h
 have hp:=aPt s
 unfold bH5
 rw[h,cond_true]
 refine decide_eq_false ?_
 cases h1:(dR s).length==1 with
 |true=>rw[cond_true];omega
 |false=>
  rw[cond_false]
  have:(dR s).length≠1:=by simpa using h1
  obtain⟨a,_,b,_,e⟩:=bH6 (l:=dR s) (by omega)
  rw[e,ByteArray.size_append,ByteArray.size_append]
  have:(⟨#[46]⟩:ByteArray).size=1:=rfl
  omega
def mW (s:ByteArray)(seed:Int):Bool:=jC s&&decide (2≤(dR s).length)&&bM seed
def M5 (l:List D.aAF)(i:Nat)(n:D.aAF):Bool:= !aY n||(decide (0<i)&&decide ((l.getD (i-1) default).Id≥n.Id))
def cZ (s:D.Site):Bool:=mW s.Name s.Book.Seed&&decide (s.Accounts.length≤8)&&eG s.Book&& !gB (M5 s.Accounts) 0 s.Accounts
def SOk (s:D.Site):Prop:=s.Name.size≤34359738368∧s.Accounts.length≤34359738368∧s.Book.Open.length≤34359738368∧∀a∈s.Accounts,a.Credentials.length≤34359738368
instance (s:D.Site):Decidable (SOk s):=inferInstanceAs (Decidable (_∧_))
def eY (name:ByteArray)(seed:Int):D.Site:=bif mW name seed then⟨name,[],⟨seed,0,[]⟩,[]⟩ else⟨⟨#[]⟩,[],⟨0,0,[]⟩,[]⟩
theorem aSa (name:ByteArray)(seed:Int):decide ((eY name seed).Name.size=0)= !mW name seed:=by
 unfold eY
 cases h:mW name seed with
 |false=>rfl
 |true=>
  have:jC name=true:=by unfold mW at h;rw[Bool.and_eq_true,Bool.and_eq_true] at h;exact h.1.1
  have:=aBh this
  exact decide_eq_false (by show ¬name.size=0;omega)
def aA (i:Int):ByteArray:=bif i==0 then⟨#[98,97,110,107,46,99,111,109]⟩ else bif i==1 then⟨#[115,104,111,112,46,111,114,103]⟩ else⟨#[]⟩
def nY (i:Nat)(s:D.Site):Bool:= !cZ s|| !(s.Name.toList==(aA (i:Int)).toList)
def aN (w:D.World):Bool:=bF w.Now 0 999900&&bF (w.Devices.length:Int) 1 6&&(w.Stolen.length:Int)==(w.Devices.length:Int)&&(w.Sites.length:Int)==2&&fO w.Mail&&bE w.aAE.Log&&bM w.Seed&& !gB nY 0 w.Sites
def bGp (w:D.World):Prop:=WOk w∧w.Mail.Notices.length≤34359738368∧w.Hosts.length≤34359738368∧∀s∈w.Sites,SOk s
instance (w:D.World):Decidable (bGp w):=inferInstanceAs (Decidable (_∧_))
theorem M6 {α:Type}{g:α→Nat}{x:α}:∀{l:List α},x∈l→g x≤(l.map g).sum
 |y::r,h=>by
  rw[List.map_cons,List.sum_cons]
  rcases List.mem_cons.1 h with rfl|h
  ·omega
  ·have:=M6 (g:=g) h;omega
theorem SOk.of {s:D.Site}(h:s.sz≤1048576):SOk s:=by
 simp only[D.Site.sz] at h
 refine⟨by omega,by omega,by omega,fun a ha=> ?_⟩
 have:=M6 (g:=D.aAF.sz) ha
 simp only[D.aAF.sz] at this h
 omega
theorem bGp.of {w:D.World}(h:w.sz≤1048576):bGp w:=by
 refine⟨WOk.of h,?_,?_,fun s hs=>SOk.of ?_⟩
 ·simp only[D.World.sz] at h;omega
 ·simp only[D.World.sz] at h;omega
 ·have:=M6 (g:=D.Site.sz) hs
  simp only[D.World.sz] at h;omega
abbrev aL2 (a:List Int)(r:List (List Int)):Prop:=a.length+r.flatten.length≤68719476736∧r.length≤1099511627776
def gI (w:D.World)(i:Int):Bool:=decide (0≤i)&&decide (i<w.Sites.length)
def jD (a:D.aAF):List Int:=a.Credentials.map fun c=>c.Public
def Nu (s:D.Site):List Int:=(s.Accounts.map jD).flatten
def jK (w:D.World)(i:Int):List Int:=bif gI w i then Nu (w.Sites.getD i.toNat default) else[]
def fI (a b:D.Entry):Bool:=decide (a.Site<b.Site)||(a.Site==b.Site&&decide (a.Handle<b.Handle))
def rV (a:D.Entry)(s h:Int):Bool:=decide (a.Site<s)||(a.Site==s&&decide (a.Handle<h))
def zP (x e:D.Entry):Bool:=decide (x.Version>e.Version)||(x.Version==e.Version&&x.Deleted)
def Rj (e x:D.Entry):D.Entry:=bif zP x e then x else e
def dN:List D.Entry→List D.Entry→List D.Entry
 |[],bs=>bs
 |a::xs,[]=>a::xs
 |a::xs,b::bs=>bif fI a b then a::dN xs (b::bs) else bif fI b a then b::dN (a::xs) bs else Rj a b::dN xs bs
termination_by xs bs=>xs.length+bs.length
def aWk (l:List D.Entry)(i:Nat)(e:D.Entry):Bool:= !bF e.Site 0 2147483646||(!bF e.Handle 0 1000000||(!bF e.Version 1 1000000||(decide ((i:Int)>0)&& !fI (l.getD (i-1) default) e)))
def aT (b:D.aAG):Bool:=decide ((b.Entries.length:Int)≤20)&& !gB (aWk b.Entries) 0 b.Entries
def nZ (a b:D.aAG):D.aAG×Bool:=bif aT a&&aT b then(bif aT ⟨dN a.Entries b.Entries⟩ then(⟨dN a.Entries b.Entries⟩,true) else(a,false)) else(a,false)
def Ec (b:D.aAG)(x:D.Entry):D.aAG:=bif decide (aL b x.Site x.Handle≥0) then⟨b.Entries.set (aL b x.Site x.Handle).toNat x⟩ else⟨b.Entries.takeWhile (fun e=>rV e x.Site x.Handle)++[x]++b.Entries.dropWhile (fun e=>rV e x.Site x.Handle)⟩
theorem Al {a b:D.Entry}:fI a b=true↔a.Site<b.Site∨(a.Site=b.Site∧a.Handle<b.Handle):=by
 simp[fI]
theorem aSb {a x:D.Entry}:rV a x.Site x.Handle=fI a x:=rfl
theorem Io {a b c:D.Entry}(h:fI a b=true)(k:fI b c=true):fI a c=true:=by
 rw[Al] at*;omega
theorem Tu {a b:D.Entry}(h:fI a b=false)(k:fI b a=false):a.Site=b.Site∧a.Handle=b.Handle:=by
 have h1:¬(a.Site<b.Site∨(a.Site=b.Site∧a.Handle<b.Handle)):=fun q=>by rw[Al.2 q] at h;cases h
 have h2:¬(b.Site<a.Site∨(b.Site=a.Site∧b.Handle<a.Handle)):=fun q=>by rw[Al.2 q] at k;cases k
 omega
theorem M7 {a b c:D.Entry}(h:a.Site=b.Site∧a.Handle=b.Handle):fI a c=fI b c:=by
 unfold fI;rw[h.1,h.2]
theorem aSc {a b c:D.Entry}(h:a.Site=b.Site∧a.Handle=b.Handle):fI c a=fI c b:=by
 unfold fI;rw[h.1,h.2]
theorem aPu {a b:D.Entry}(h:a.Site=b.Site∧a.Handle=b.Handle):(Rj a b).Site=b.Site∧(Rj a b).Handle=b.Handle:=by
 unfold Rj
 cases zP b a
 ·exact h
 ·exact⟨rfl,rfl⟩
theorem bDe (a b:D.Entry):Rj a b=a∨Rj a b=b:=by
 unfold Rj
 cases zP b a
 ·exact .inl rfl
 ·exact .inr rfl
theorem fE (l:List D.Entry):dN l []=l:=by cases l<;>rw[dN]
theorem nA (l:List D.Entry):dN [] l=l:=by rw[dN]
theorem Ao:∀(n:Nat) (a b:List D.Entry),a.length+b.length≤n→(dN a b).length≤a.length+b.length
 |_,[],b,_=>by rw[nA];simp
 |_,a::xs,[],_=>by rw[fE];simp
 |0,a::xs,b::bs,h=>by simp at h
 |n+1,a::xs,b::bs,h=>by
  simp only[List.length_cons] at h
  rw[dN]
  cases fI a b with
  |true=>have:=Ao n xs (b::bs) (by simp only[List.length_cons];omega);simp only[cond_true,List.length_cons] at*;omega
  |false=>
   cases fI b a with
   |true=>have:=Ao n (a::xs) bs (by simp only[List.length_cons];omega);simp only[cond_false,cond_true,List.length_cons] at*;omega
   |false=>have:=Ao n xs bs (by omega);simp only[cond_false,List.length_cons] at*;omega
theorem aFd (a b:D.Entry)(xs bs:List D.Entry):dN (a::xs) (b::bs)=bif fI a b then a::dN xs (b::bs) else bif fI b a then b::dN (a::xs) bs else Rj a b::dN xs bs:=by rw[dN]
def srt (l:List D.Entry):Prop:=l.Pairwise fun a b=>fI a b=true
theorem aL3:∀(A:List D.Entry) {b:D.Entry} {bs:List D.Entry},srt (b::bs)→dN (dN A [b]) bs=dN A (b::bs)
 |[],b,bs,h=>by
  rw[nA,nA]
  cases bs with
  |nil=>rw[fE]
  |cons c cs=>rw[dN,(List.pairwise_cons.1 h).1 c (by simp),cond_true,nA]
 |a::xs,b,bs,h=>by
  have hc:=(List.pairwise_cons.1 h).1
  rw[aFd a b xs [],aFd a b xs bs]
  cases h1:fI a b with
  |true=>
   simp only[cond_true]
   cases bs with
   |nil=>rw[fE]
   |cons c cs=>rw[dN,Io h1 (hc c (by simp)),cond_true,aL3 xs h]
  |false=>
   cases h2:fI b a with
   |true=>
    simp only[cond_true,cond_false]
    rw[fE]
    cases bs with
    |nil=>rw[fE,fE]
    |cons c cs=>rw[dN,hc c (by simp),cond_true]
   |false=>
    simp only[cond_false]
    rw[fE]
    cases bs with
    |nil=>rw[fE,fE]
    |cons c cs=>rw[dN,M7 (aPu (Tu h1 h2)),hc c (by simp),cond_true]
theorem aUm:∀{l:List D.Entry} {x y:D.Entry},y∈dN l [x]→y∈l∨y=x
 |[],x,y,h=>by rw[nA] at h;simp at h;exact .inr h
 |a::xs,x,y,h=>by
  rw[dN] at h
  cases h1:fI a x with
  |true=>
   rw[h1,cond_true] at h
   rcases List.mem_cons.1 h with rfl|h
   ·exact .inl (by simp)
   ·exact(aUm h).imp (fun h=>by simp[h]) id
  |false=>
   rw[h1,cond_false] at h
   cases h2:fI x a with
   |true=>
    rw[h2,cond_true,fE] at h
    rcases List.mem_cons.1 h with rfl|h
    ·exact .inr rfl
    ·exact .inl h
   |false=>
    rw[h2,cond_false,fE] at h
    rcases List.mem_cons.1 h with rfl|h
    ·rcases bDe a x with e|e
     ·rw[e];exact .inl (by simp)
     ·exact .inr e
    ·exact .inl (by simp[h])
theorem aUn:∀{l:List D.Entry} {x:D.Entry},srt l→srt (dN l [x])
 |[],x,h=>by rw[nA];exact List.pairwise_singleton _ _
 |a::xs,x,h=>by
  obtain⟨ha,hs⟩:=List.pairwise_cons.1 h
  rw[dN]
  cases h1:fI a x with
  |true=>
   rw[cond_true]
   refine List.pairwise_cons.2 ⟨fun y hy=> ?_,aUn hs⟩
   rcases aUm hy with hy|rfl
   ·exact ha y hy
   ·exact h1
  |false=>
   cases h2:fI x a with
   |true=>
    rw[cond_false,cond_true,fE]
    refine List.pairwise_cons.2 ⟨fun y hy=> ?_,h⟩
    rcases List.mem_cons.1 hy with rfl|hy
    ·exact h2
    ·exact Io h2 (ha y hy)
   |false=>
    rw[cond_false,cond_false,fE]
    have hk:=Tu h1 h2
    refine List.pairwise_cons.2 ⟨fun y hy=> ?_,hs⟩
    rw[M7 (aPu hk),←M7 hk];exact ha y hy
theorem aFe:∀(B A:List D.Entry),srt B→B.foldl (fun o x=>dN o [x]) A=dN A B
 |[],A,_=>by rw[fE];rfl
 |b::bs,A,h=>by rw[List.foldl_cons,aFe bs _ (List.pairwise_cons.1 h).2,aL3 A h]
theorem aPv {α:Type}{p:α→Bool}:∀{l:List α} {i:Nat},gP p i l<0→∀y∈l,p y=false
 |[],i,_,y,hy=>by simp at hy
 |x::l,i,h,y,hy=>by
  simp only[gP] at h
  cases hp:p x with
  |true=>rw[hp,cond_true] at h;omega
  |false=>
   rw[hp,cond_false] at h
   rcases List.mem_cons.1 hy with rfl|hy
   ·exact hp
   ·exact aPv h y hy
theorem M8 {α:Type}{p:α→Bool}:∀{l:List α} {i:Nat},0≤gP p i l→∃l1 e l2,l=l1++e::l2∧p e=true∧gP p i l=((i+l1.length:Nat):Int)
 |[],i,h=>by simp[gP] at h
 |x::l,i,h=>by
  simp only[gP] at h ⊢
  cases hp:p x with
  |true=>exact⟨[],x,l,rfl,hp,by simp⟩
  |false=>
   rw[hp,cond_false] at h
   obtain⟨l1,e,l2,h1,h2,h3⟩:=M8 h
   exact⟨x::l1,e,l2,by rw[h1];rfl,h2,by rw[cond_false,h3];simp only[List.length_cons];omega⟩
theorem aUo:∀{l:List D.Entry} {x:D.Entry},(∀y∈l,(y.Site==x.Site&&y.Handle==x.Handle)=false)→dN l [x]=l.takeWhile (fun e=>rV e x.Site x.Handle)++[x]++l.dropWhile (fun e=>rV e x.Site x.Handle)
 |[],x,_=>by rw[nA];rfl
 |a::xs,x,h=>by
  rw[dN,List.takeWhile_cons,List.dropWhile_cons,aSb]
  cases h1:fI a x with
  |true=>simp only[cond_true,if_true];rw[aUo (fun y hy=>h y (by simp[hy]))];rfl
  |false=>
   cases h2:fI x a with
   |true=>simp only[cond_false,cond_true];rw[fE];rfl
   |false=>
    have:=Tu h1 h2
    have:=h a (by simp)
    simp_all
theorem aUp {e x:D.Entry}{l2:List D.Entry}(he:(e.Site==x.Site&&e.Handle==x.Handle)=true):∀{l1:List D.Entry},srt (l1++e::l2)→dN (l1++e::l2) [x]=l1++Rj e x::l2
 |[],_=>by
  have hk:e.Site=x.Site∧e.Handle=x.Handle:=by simpa using he
  have h1:fI e x=false:=by
   cases h:fI e x with
   |false=>rfl
   |true=>rw[Al] at h;omega
  have h2:fI x e=false:=by
   cases h:fI x e with
   |false=>rfl
   |true=>rw[Al] at h;omega
  rw[List.nil_append,dN,h1,cond_false,h2,cond_false,fE];rfl
 |a::l1,h=>by
  obtain⟨ha,hs⟩:=List.pairwise_cons.1 h
  have hk:e.Site=x.Site∧e.Handle=x.Handle:=by simpa using he
  have h1:fI a x=true:=by rw[←aSc hk];exact ha e (by simp)
  rw[List.cons_append,dN,h1,cond_true,aUp he hs];rfl
theorem aZ9 {l:List D.Entry}{x:D.Entry}(h:srt l):(bif (decide (aL ⟨l⟩ x.Site x.Handle<0)||zP x (l.getD (aL ⟨l⟩ x.Site x.Handle).toNat default)) then(Ec ⟨l⟩ x).Entries else l)=dN l [x]:=by
 unfold Ec
 by_cases hf:aL ⟨l⟩ x.Site x.Handle<0
 ·rw[decide_eq_true hf,Bool.true_or,cond_true,show decide (aL ⟨l⟩ x.Site x.Handle≥0)=false from decide_eq_false (by omega),cond_false]
  exact(aUo (aPv hf)).symm
 ·obtain⟨l1,e,l2,h1,h2,h3⟩:=M8 (show 0≤gP (fun e=>e.Site==x.Site&&e.Handle==x.Handle) 0 l from by unfold aL at hf;simp only at hf;omega)
  have h3':aL ⟨l⟩ x.Site x.Handle=(l1.length:Int):=by unfold aL;rw[h3];simp
  rw[h3',decide_eq_false (by omega),Bool.false_or,show decide ((l1.length:Int)≥0)=true from decide_eq_true (by omega),cond_true,Int.toNat_natCast]
  subst h1
  rw[aUp h2 h]
  have g:(l1++e::l2).getD l1.length default=e:=by simp[List.getD]
  have st:(l1++e::l2).set l1.length x=l1++x::l2:=by simp
  rw[g]
  show(bif zP x e then(l1++e::l2).set l1.length x else l1++e::l2)=_
  rw[st]
  unfold Rj
  cases zP x e<;>rfl
theorem aUq {α:Type}{p:Nat→α→Bool}:∀{l:List α} {j:Nat},gB p j l=false→∀(i:Nat) (hi:i<l.length),p (j+i) l[i]=false
 |[],j,_,i,hi=>by simp at hi
 |x::l,j,h,i,hi=>by
  simp only[gB,Bool.or_eq_false_iff] at h
  cases i with
  |zero=>exact h.1
  |succ i=>have:=aUq h.2 i (by simpa using hi);rw[show j+(i+1)=j+1+i by omega];exact this
theorem bAa {b:D.aAG}(h:aT b=true):b.Entries.length≤20∧srt b.Entries:=by
 simp only[aT,Bool.and_eq_true,decide_eq_true_eq,Bool.not_eq_true'] at h
 refine⟨by omega,?_⟩
 have adj:∀i (hi:i+1<b.Entries.length),fI b.Entries[i] b.Entries[i+1]=true:=fun i hi=>by
  have:=aUq h.2 (i+1) hi
  simp only[aWk,Bool.or_eq_false_iff,Nat.zero_add] at this
  have h4:=this.2.2.2
  rw[decide_eq_true (by omega),Bool.true_and] at h4
  have h5:(b.Entries.getD (i+1-1) default)=b.Entries[i]:=by rw[Nat.add_sub_cancel,List.getD,List.getElem?_eq_getElem (by omega),Option.getD_some]
  rw[h5] at h4;simpa using h4
 have far:∀d i (hi:i+d+1<b.Entries.length),fI b.Entries[i] b.Entries[i+d+1]=true:=fun d=>by
  induction d with
  |zero=>exact fun i hi=>adj i hi
  |succ d ih=>exact fun i hi=>Io (ih i (by omega)) (adj (i+d+1) (by omega))
 refine List.pairwise_iff_getElem.2 fun i j hi hj hij=> ?_
 obtain⟨d,rfl⟩:∃d,j=i+d+1:=⟨j-i-1,by omega⟩
 exact far d i hj
theorem gT {α β:Type}{s:List α}(hs:s.length≤34359738368)(x:α)(k:Option β):gd (aS s [x]) k=k:=aB (by unfold aS;simp only[List.length_singleton];omega)
theorem zQ {α β:Type}{s:List α}(hs:s.length≤34359738368)(k:Option β):gd (aS [] s) k=k:=aB (by unfold aS;simp only[List.length_nil];omega)
theorem aPw {α:Type}{l s:List α}:l.foldl (fun s x=>s++[x]) s=s++l:=by
 have:=Ns (f:=fun x:α=>[x]) (l:=l) (s:=s)
 rw[this];congr 1
 induction l with
 |nil=>rfl
 |cons x l ih=>simp[ih]
theorem aPx {α:Type}{l:List α}{F:(Nat×List α→Option (List α))→Nat×List α→Option (List α)}(hl:l.length≤34359738368)
  (hF:∀rec i s (hi:i<l.length),s.length≤34359738368→F rec (i,s)=rec (i+1,s++[l[i]])) (hE:∀rec s,F rec (l.length,s)=some s):EV.bT FUEL F (0,[])=some l:=by
 rw[aLz (l:=l) (fun s x=>s++[x]) (fun i s=>s.length=i) (fun s=>some s) (by omega) rfl (fun i s hi hv=>by simp;omega) (fun rec i s hi hv=>hF rec i s hi (by omega)) (fun rec s _=>hE rec s),aPw,List.nil_append]
theorem bH8 {α:Type}{l:List α}{F:(List α×Nat→Option (List α))→List α×Nat→Option (List α)}(hl:l.length≤34359738368)
  (hF:∀rec i s (hi:i<l.length),s.length≤34359738368→F rec (s,i)=rec (s++[l[i]],i+1)) (hE:∀rec s,F rec (s,l.length)=some s):EV.bT FUEL F ([],0)=some l:=by
 rw[fD (l:=l) (fun s x=>s++[x]) (fun i s=>s.length=i) (fun s=>some s) (by omega) rfl (fun i s hi hv=>by simp;omega) (fun rec i s hi hv=>hF rec i s hi (by omega)) (fun rec s _=>hE rec s),aPw,List.nil_append]
abbrev Nv {α:Type}(f:α→Nat)(l:List α):Nat:=l.length+(l.map f).sum
theorem gU {S τ:Type}{F:(S→Option τ)→S→Option τ}{n:Nat}{s:S}:EV.bT (n+1) F s=F (EV.bT n F) s:=rfl
theorem rF {α:Type}{c:Bool}{x y:α}:(bif c then some x else some y)=some (bif c then x else y):=by cases c<;>rfl
theorem Ap {c d:Bool}:(bif c then some true else some d)=some (c||d):=by cases c<;>rfl
theorem aFf {α:Type}[Inhabited α]{l:List α}{i:Nat}(h:i<l.length):l.set i (l.getD i default)=l:=by
 rw[List.getD,List.getElem?_eq_getElem h];simp
theorem Ip {α:Type}{p:Nat→α→Bool}:∀(l:List α) (j:Nat),gB p j l=true↔∃(i:Nat) (hi:i<l.length),p (j+i) l[i]=true
 |[],j=>by simp[gB]
 |x::xs,j=>by
  simp only[gB,Bool.or_eq_true,Ip xs]
  constructor
  ·rintro(h|⟨i,hi,h⟩)
   ·exact⟨0,by simp,h⟩
   ·exact⟨i+1,by simpa using hi,by rw[show j+(i+1)=j+1+i by omega];exact h⟩
  ·rintro⟨i,hi,h⟩
   cases i with
   |zero=>exact .inl h
   |succ i=>exact .inr ⟨i,by simpa using hi,by rw[show j+1+i=j+(i+1) by omega];exact h⟩
theorem bDf {α:Type}{τ:Type}{l:List α}(p:α→Bool)(a b:τ)(i:Nat)(hi:i≤l.length)(h:l.length≤34359738368){F:(Nat→Option τ)→Nat→Option τ}(hF:∀rec j (hj:j<i),F rec j=bif p (l[j]'(by omega)) then some a else rec (j+1))(hE:∀rec,F rec i=some b):
  EV.bT FUEL F 0=some (bif (l.take i).any p then a else b):=by
 have ht:(l.take i).length=i:=by rw[List.length_take];omega
 exact mU (l:=l.take i) p _ _ (by omega) (fun rec j hj=>by rw[hF rec j (by omega),List.getElem_take]) (fun rec=>by rw[ht];exact hE rec)
theorem bGq {α β:Type}{l:List α}(f:α→β){F:(List β×Nat→Option (List β))→List β×Nat→Option (List β)}(hl:l.length≤34359738368)
  (hF:∀rec i s (hi:i<l.length),s.length≤34359738368→F rec (s,i)=rec (s++[f l[i]],i+1)) (hE:∀rec s,F rec (s,l.length)=some s):EV.bT FUEL F ([],0)=some (l.map f):=by
 rw[fD (l:=l) (fun s x=>s++[f x]) (fun i s=>s.length=i) (fun s=>some s) (by omega) rfl (fun i s hi hv=>by simp;omega) (fun rec i s hi hv=>hF rec i s hi (by omega)) (fun rec s _=>hE rec s),Nt,List.nil_append]
theorem bH9 {α β:Type}{l:List α}(f:α→β){s0:List β}{F:(List β×Nat→Option (List β))→List β×Nat→Option (List β)}(hl:s0.length+l.length≤34359738368)
  (hF:∀rec i s (hi:i<l.length),s.length≤34359738368→F rec (s,i)=rec (s++[f l[i]],i+1)) (hE:∀rec s,F rec (s,l.length)=some s):EV.bT FUEL F (s0,0)=some (s0++l.map f):=by
 rw[fD (l:=l) (fun s x=>s++[f x]) (fun i s=>s.length=s0.length+i) (fun s=>some s) (by omega) (by simp) (fun i s hi hv=>by simp;omega) (fun rec i s hi hv=>hF rec i s hi (by omega)) (fun rec s _=>hE rec s),Nt]
def fF (h:D.aAA)(b:Int):D.aAA×Bool:=bif decide (b<0)||decide (b≥(h.Saved.length:Int)) then(h,false) else(⟨h.Saved.getD (h.Saved.length-1-b.toNat) default,h.Saved,h.Monotonic⟩,true)
def eZ (w:D.World)(i b:Int):D.World×Bool:=bif !aN w||(decide (i<0)||decide (i≥(w.Hosts.length:Int))) then(w,false) else bif (fF (w.Hosts.getD i.toNat default) b).2 then({w with Hosts:=w.Hosts.set i.toNat (fF (w.Hosts.getD i.toNat default) b).1},true) else(w,false)
theorem Xy {i:Int}{n:Nat}(h:n≤34359738368):(!bF i 0 (IntKind.i64.wrap ((n:Int)-1)))=(decide (i<0)||decide (i≥(n:Int))):=by
 rw[aG (by omega) (by omega)]
 unfold bF
 by_cases h0:i<0
 ·rw[decide_eq_true h0,decide_eq_false (show ¬0≤i by omega)];rfl
 ·rw[decide_eq_false h0,decide_eq_true (show 0≤i by omega)]
  by_cases h1:i≥(n:Int)
  ·rw[decide_eq_true h1,decide_eq_false (show ¬i≤(n:Int)-1 by omega)];rfl
  ·rw[decide_eq_false h1,decide_eq_true (show i≤(n:Int)-1 by omega)];rfl
theorem oC {α:Type}[Inhabited α]{l:List α}{i:Int}(h0:0≤i)(h1:i<(l.length:Int)):bA l i=some (l.getD i.toNat default):=by
 rw[mP h0 (by omega)];simp[List.getD,List.getElem?_eq_getElem (show i.toNat<l.length by omega)]
theorem Iq {i:Int}{n:Nat}(h:(decide (i<0)||decide (i≥(n:Int)))=false):0≤i∧i<(n:Int):=by
 simp only[Bool.or_eq_false_iff,decide_eq_false_iff_not] at h;omega
theorem xO {α:Type}[Inhabited α]{f:α→Nat}{l:List α}{i:Nat}(h:i<l.length):f (l.getD i default)≤(l.map f).sum:=by
 rw[List.getD,List.getElem?_eq_getElem h];exact mR h
theorem aPy (h:D.aAA)(b:Int):(fF h b).1.sz=h.sz:=by
 unfold fF;cases(decide (b<0)||decide (b≥(h.Saved.length:Int)))<;>rfl
def aSd (l:List D.aAQ)(i:Nat)(s:D.aAQ):Bool:= !bF s.Index 1 7||(!bF s.Value 0 1018||(l.take i).any fun q=>q.Index==s.Index)
def Oo (l:List D.aAQ):Bool:=bF (l.length:Int) 1 7&& !gB (aSd l) 0 l
def aFg (x:Int)(z v:Int):Int:=(IntKind.i64.wrap (IntKind.i64.wrap (v+dI z 1019)*x)).tmod 1019
def Ir (c:Int)(l:List Int)(x:Int):Int:=(l.foldr (aFg x) 0+dI c 1019)%1019
def bAb (c:List Int)(s:D.aAQ):D.aAQ:=⟨s.Index,(IntKind.i64.wrap (s.Value+Ir 0 c s.Index)).tmod 1019⟩
def jI (l:List D.aAQ)(c:List Int):List D.aAQ:=bif Oo l then l.map (bAb c) else[]
def cS (l:List D.aAQ)(i:Nat)(k:Int):Bool:=(l.take i).any fun q=>q.Index==k
theorem aPz {x z v:Int}(hx:0≤x∧x≤1000)(hv:0≤v∧v<1019):0≤aFg x z v∧aFg x z v<1019:=by
 have hm:=qI (p:=z) (q:=1019) (by omega)
 unfold aFg
 generalize dI z 1019=m at*
 have e1:IntKind.i64.wrap (v+m)=v+m:=aG (by omega) (by omega)
 have h2:0≤(v+m)*x:=Int.mul_nonneg (by omega) hx.1
 have h3:(v+m)*x≤3000*1000:=Int.mul_le_mul (by omega) hx.2 hx.1 (by omega)
 rw[e1,aG (by omega) (by omega)]
 exact⟨Int.tmod_nonneg _ h2,Int.tmod_lt_of_pos _ (by omega)⟩
theorem aFh {x:Int}(hx:0≤x∧x≤1000):∀l:List Int,0≤l.foldr (aFg x) 0∧l.foldr (aFg x) 0<1019
 |[]=>by simp
 |z::l=>aPz hx (aFh hx l)
theorem bAc {σ τ:Type}{l:List Int}(g:Int→σ→σ){s0:σ}(fin:σ→Option τ){F:(σ×Int→Option τ)→σ×Int→Option τ}(hl:l.length≤34359738368)
  (hF:∀rec s i (hi:i<l.length),F rec (s,(i:Int))=rec (g l[i] s,(i:Int)-1)) (hE:∀rec s,F rec (s,-1)=fin s) {n0:Int} (hn:n0=(l.length:Int)-1):EV.bT FUEL F (s0,n0)=fin (l.foldr g s0):=by
 subst hn
 refine Om (fun k s=>k≤l.length∧s=((l.drop (l.length-k)).foldr g s0,(l.length:Int)-1-k)) l.length _ (by omega) ⟨by omega,by simp⟩ (fun k s rec hk hv=> ?_) (fun s rec hv=> ?_)
 ·obtain⟨_,rfl⟩:=hv
  refine .inl ⟨_,⟨hk,rfl⟩,?_⟩
  have e:(l.length:Int)-1-k=((l.length-1-k:Nat):Int):=by omega
  have e2:l.length-(k+1)=l.length-1-k:=by omega
  have hi:l.length-1-k<l.length:=by omega
  rw[e,hF rec _ _ hi,e2,List.drop_eq_getElem_cons hi,List.foldr_cons,show l.length-1-k+1=l.length-k by omega]
  congr 2;omega
 ·obtain⟨_,rfl⟩:=hv
  simp only[Nat.sub_self,List.drop_zero]
  rw[show(l.length:Int)-1-(l.length:Int)= -1 by omega,hE]
theorem aNu {c d:Bool}:(bif c then some d else some false)=some (c&&d):=by cases c<;>rfl
def lJ (k:D.aAT):Bool:=Oo [k.aAQ]&&(bF k.Epoch 0 1000000&&(bF k.Limit 1 10&&bF k.Guesses 0 k.Limit))
def iM (h:D.aAA)(s:D.aAQ):Bool:= !lJ h.State||(decide (pR h.State<h.Monotonic)||(h.State.Epoch==1000000||(s.Index !=h.State.aAQ.Index|| !Oo [s])))
def sW (h:D.aAA)(s:D.aAQ):D.aAA:=⟨⟨s,IntKind.i64.wrap (h.State.Epoch+1),0,h.State.Limit⟩,h.Saved,pR ⟨s,IntKind.i64.wrap (h.State.Epoch+1),0,h.State.Limit⟩⟩
def aFi (h:D.aAA)(s:D.aAQ):D.aAA×Bool:=bif iM h s then(h,false) else(sW h s,true)
def aSe (hs:List D.aAA)(ss:List D.aAQ):List D.aAA×Bool:=bif ((ss.length:Int)==0)||(hs.zip ss).any (fun p=>iM p.1 p.2) then(hs,false) else(List.zipWith sW hs ss,true)
def eQ (hs:List D.aAA)(c:List Int):List D.aAA×Bool:=aSe hs (jI (hs.map fun h=>h.State.aAQ) c)
def aBi (w:D.World):Nat→Int→List Int
 |0,_=>[]
 |n+1,k=>bif decide (k<w.aAO.Threshold)&&decide (k≤7) then aU w.Seed [317,w.Now,k]::aBi w n (k+1) else[]
def aFj (w:D.World):List Int:=aBi w 8 1
def eH (w:D.World):D.World×Bool:=bif aN w&&(eQ w.Hosts (aFj w)).2 then({w with Hosts:=(eQ w.Hosts (aFj w)).1},true) else(w,false)
theorem aL4 (w:D.World):∀(n:Nat) (k:Int),(aBi w n k).length≤n
 |0,_=>Nat.le_refl _
 |n+1,k=>by
  unfold aBi
  cases(decide (k<w.aAO.Threshold)&&decide (k≤7)) with
  |true=>have:=aL4 w n (k+1);simp only[cond_true,List.length_cons];omega
  |false=>simp
theorem aP0 (l:List D.aAQ)(c:List Int):(jI l c).length≤l.length:=by
 unfold jI;cases Oo l<;>simp
theorem aP1 {l:List D.aAQ}{c:List Int}(h:((jI l c).length:Int)≠0):(jI l c).length=l.length:=by
 unfold jI at h ⊢;cases hA:Oo l with
 |true=>simp
 |false=>rw[hA] at h;simp at h
def bGr (b:D.aAG)(s h:Int):Int:=bif decide (aL b s h≥0) then IntKind.i64.wrap ((b.Entries.getD (aL b s h).toNat default).Version+1) else 1
def aB9 (b:D.aAG)(s h:Int):D.Entry:=⟨s,h,bGr b s h,false⟩
def aP2 (b:D.aAG)(s h:Int):D.aAG×Bool:=bif !(decide (aL b s h≥0)&& !(b.Entries.getD (aL b s h).toNat default).Deleted)&&(aT b&&aT (Ec b (aB9 b s h))) then(Ec b (aB9 b s h),true) else(b,false)
def bGs (b:D.aAG)(s h:Int):D.Entry:=⟨s,h,IntKind.i64.wrap ((b.Entries.getD (aL b s h).toNat default).Version+1),true⟩
def aP3 (b:D.aAG)(s h:Int):D.aAG×Bool:=bif !aT b||(decide (aL b s h<0)||((b.Entries.getD (aL b s h).toNat default).Deleted||(b.Entries.getD (aL b s h).toNat default).Version==1000000)) then(b,false) else(Ec b (bGs b s h),true)
def rG (d:D.Device)(n:ByteArray)(h:Int)(rm:Bool):D.aAG×Bool:=bif rm then aP3 d.aAG (bU n) h else aP2 d.aAG (bU n) h
def bX (d:D.Device)(n:ByteArray)(h:Int)(rm:Bool):D.Device×Bool:=bif (rG d n h rm).2 then({d with aAG:=(rG d n h rm).1},true) else(d,false)
def xP (w:D.World)(d:Int)(n:ByteArray)(h:Int)(rm:Bool):D.World×Bool:=bif aN w&&aK w d then(bif (bX (aO w d) n h rm).2 then({w with Devices:=w.Devices.set d.toNat (bX (aO w d) n h rm).1},true) else(w,false)) else(w,false)
theorem bDg (b:List Int):(Tq b).length=b.length+1:=by simp[Tq,Nat.add_comm]
theorem aNv (l:List Int):List.map (fun(n:Int)=>n) l=l:=List.map_id l
theorem aWl (hs:List D.aAA):∀(ss:List D.aAQ),(List.zipWith sW hs ss).length≤hs.length∧((List.zipWith sW hs ss).map D.aAA.sz).sum≤(hs.map D.aAA.sz).sum:=by
 induction hs with
 |nil=>intro ss;simp
 |cons h hs ih=>
  intro ss
  cases ss with
  |nil=>simp
  |cons s ss=>
   have:=ih ss
   have e:(sW h s).sz=h.sz:=rfl
   simp only[List.zipWith_cons_cons,List.length_cons,List.map_cons,List.sum_cons,e];omega
theorem Rk (hs:List D.aAA)(c:List Int):(eQ hs c).1.length≤hs.length∧((eQ hs c).1.map D.aAA.sz).sum≤(hs.map D.aAA.sz).sum:=by
 unfold eQ aSe
 generalize jI (hs.map fun h=>h.State.aAQ) c=ss
 cases(((ss.length:Int)==0)||(hs.zip ss).any (fun p=>iM p.1 p.2)) with
 |true=>exact⟨Nat.le_refl _,Nat.le_refl _⟩
 |false=>exact aWl hs ss
theorem aI9 (w:D.World):(eH w).1.sz≤w.sz:=by
 unfold eH
 have:=Rk w.Hosts (aFj w)
 cases(aN w&&(eQ w.Hosts (aFj w)).2) with
 |false=>exact Nat.le_refl _
 |true=>simp only[cond_true,D.World.sz];omega
theorem aP4 (b:D.aAG)(x:D.Entry):(Ec b x).Entries.length≤b.Entries.length+1:=by
 unfold Ec
 cases decide (aL b x.Site x.Handle≥0) with
 |true=>simp
 |false=>
  have:=congrArg List.length (List.takeWhile_append_dropWhile (p:=fun e=>rV e x.Site x.Handle) (l:=b.Entries))
  simp only[List.length_append] at this
  simp only[cond_false,List.length_append,List.length_singleton];omega
theorem bDh (b:D.aAG)(s h:Int):(aP2 b s h).1.Entries.length≤b.Entries.length+1:=by
 unfold aP2
 have:=aP4 b (aB9 b s h)
 cases(!(decide (aL b s h≥0)&& !(b.Entries.getD (aL b s h).toNat default).Deleted)&&(aT b&&aT (Ec b (aB9 b s h)))) with
 |true=>exact this
 |false=>simp
theorem bDi (b:D.aAG)(s h:Int):(aP3 b s h).1.Entries.length≤b.Entries.length+1:=by
 unfold aP3
 have:=aP4 b (bGs b s h)
 cases(!aT b||(decide (aL b s h<0)||((b.Entries.getD (aL b s h).toNat default).Deleted||(b.Entries.getD (aL b s h).toNat default).Version==1000000))) with
 |true=>simp
 |false=>exact this
theorem Aq (d:D.Device)(n:ByteArray)(h:Int)(rm:Bool):(bX d n h rm).1.sz≤d.sz+1:=by
 unfold bX
 have:(rG d n h rm).1.Entries.length≤d.aAG.Entries.length+1:=by
  unfold rG;cases rm with
  |true=>exact bDi _ _ _
  |false=>exact bDh _ _ _
 cases(rG d n h rm).2 with
 |true=>simp only[cond_true,D.Device.sz];omega
 |false=>simp
def gH (c:D.aAE)(b:Int):D.aAD×Bool:=bif decide (b<0)||decide (b≥(c.History.length:Int)) then(⟨0,0,[],0⟩,false) else(c.History.getD (c.History.length-1-b.toNat) default,true)
def bDj (a b:D.aAC):Bool:=a.Index==b.Index&&(a.Kind==b.Kind&&(a.Device==b.Device&&(a.By==b.By&&(a.Previous==b.Previous&&(a.Signature==b.Signature&&true)))))
def dX (a b:List D.aAC):Bool:=decide (b.length≤a.length)&& !gB (fun i e=> !bDj (a.getD i default) e) 0 b
def oD (k:Int)(b:D.aAD):Int:=bI k ([227,b.Epoch,b.Version]++Tq b.Data)
def oF (k e v:Int):Int:=aU k [223,e,v]
def uvE:Nat→Int→List Int
 |0,n=>[n]
 |k+1,n=>bif decide (n>127) then(n%128+128)::uvE k (n/128) else[n]
theorem aNw:∀(k:Nat) (n:Int),1≤(uvE k n).length∧(uvE k n).length≤k+1
 |0,n=>by simp[uvE]
 |k+1,n=>by
  have:=aNw k (n/128)
  unfold uvE
  cases decide (n>127)<;>simp<;>omega
theorem bDk {k:Nat}{z:Int}(h:z≤127):uvE k z=[z]:=by
 cases k with
 |zero=>rfl
 |succ k=>unfold uvE;rw[decide_eq_false (by omega)];rfl
theorem aUr:∀(k:Nat) (m n:Int) (x y:List Int),0≤m→0≤n→uvE k m++x=uvE k n++y→m=n∧x=y
 |0,m,n,x,y,_,_,h=>by simpa[uvE] using h
 |k+1,m,n,x,y,h0,h1,h=>by
  unfold uvE at h
  by_cases hm:m>127<;>by_cases hn:n>127
  ·simp only[decide_eq_true hm,decide_eq_true hn,cond_true,List.cons_append,List.cons.injEq] at h
   have:=aUr k (m/128) (n/128) x y (by omega) (by omega) h.2
   exact⟨by omega,this.2⟩
  ·simp only[decide_eq_true hm,decide_eq_false hn,cond_true,cond_false,List.cons_append,List.cons.injEq] at h;omega
  ·simp only[decide_eq_false hm,decide_eq_true hn,cond_true,cond_false,List.cons_append,List.cons.injEq] at h;omega
  ·simpa only[decide_eq_false hm,decide_eq_false hn,cond_false,List.cons_append,List.nil_append,List.cons.injEq] using h
theorem aP5 {F:(Int×List Int→Option (Int×List Int))→Int×List Int→Option (Int×List Int)}
  (hF:∀rec (n:Int) (s:List Int),0≤n→n<9223372036854775807→s.length≤34359738368→F rec (n,s)=bif decide (n>127) then rec (n/128,s++[n%128+128]) else some (n,s)):
  ∀(k:Nat) (n:Int) (s:List Int) (f:Nat),k<f→0≤n→n<128^(k+1)→k≤6→s.length+k≤34359738368→∃m q,EV.bT f F (n,s)=some (m,q)∧q++[m]=s++uvE k n∧0≤m∧m≤127
 |0,n,s,f+1,hf,h0,h1,_,hs=>by
  refine⟨n,s,?_,rfl,h0,by simp at h1;omega⟩
  rw[gU,hF _ _ _ h0 (by simp at h1;omega) (by omega),decide_eq_false (by simp at h1;omega)];rfl
 |k+1,n,s,f+1,hf,h0,h1,hk,hs=>by
  have h2:(128:Int)^(k+1+1)=128*128^(k+1):=by rw[Int.pow_succ];omega
  have h3:(128:Int)^(k+1+1)≤128^8:=by exact_mod_cast Nat.pow_le_pow_right (by omega) (by omega)
  have h4:(128:Int)^8=72057594037927936:=by decide
  rw[gU,hF _ _ _ h0 (by omega) (by omega)]
  unfold uvE
  by_cases hn:n>127
  ·rw[decide_eq_true hn,cond_true,cond_true]
   obtain⟨m,q,e1,e2,e3⟩:=aP5 hF k (n/128) (s++[n%128+128]) f (by omega) (by omega) (by omega) (by omega) (by simp;omega)
   exact⟨m,q,e1,by rw[e2];simp,e3⟩
  ·rw[decide_eq_false hn,cond_false,cond_false]
   exact⟨n,s,rfl,rfl,h0,by omega⟩
theorem bDl {n:Int}(h0:0≤n)(h1:n<9223372036854775808):lD .i64 n 127=n%128:=by
 obtain⟨m,rfl⟩:=Int.eq_ofNat_of_zero_le h0
 have e:((BitVec.ofInt 64 (m:Int))&&&(BitVec.ofInt 64 127)).toNat=m%128:=by
  rw[BitVec.toNat_and]
  have e1:(BitVec.ofInt 64 (m:Int)).toNat=m:=by rw[BitVec.toNat_ofInt];omega
  have e2:(BitVec.ofInt 64 127).toNat=2^7-1:=by decide
  rw[e1,e2,Nat.and_two_pow_sub_one_eq_mod]
 show IntKind.i64.wrap (((BitVec.ofInt 64 (m:Int))&&&(BitVec.ofInt 64 127)).toNat:Int)=_
 rw[e,aG (by omega) (by omega)];omega
theorem bGt {n:Int}(h0:0≤n)(h1:n<128):orI .i64 n 128=n+128:=by
 obtain⟨m,rfl⟩:=Int.eq_ofNat_of_zero_le h0
 have e:((BitVec.ofInt 64 (m:Int))|||(BitVec.ofInt 64 128)).toNat=m+128:=by
  rw[BitVec.toNat_or]
  have e1:(BitVec.ofInt 64 (m:Int)).toNat=m:=by rw[BitVec.toNat_ofInt];omega
  have e2:(BitVec.ofInt 64 128).toNat=1<<<7:=by decide
  have:=Nat.shiftLeft_add_eq_or_of_lt (b:=m) (i:=7) (by omega) 1
  rw[e1,e2,Nat.or_comm,←this];omega
 show IntKind.i64.wrap (((BitVec.ofInt 64 (m:Int))|||(BitVec.ofInt 64 128)).toNat:Int)=_
 rw[e,aG (by omega) (by omega)];omega
theorem bIa {n:Int}(h0:0≤n):zL .i64 n 7=n/128:=by
 unfold zL
 rw[show min (Int.toNat 7) IntKind.i64.bits=7 from by decide,Int.fdiv_eq_ediv_of_nonneg _ (by decide)];rfl
theorem aP6 {n:Int}(h0:0≤n)(h1:n≤255):IntKind.u8.wrap n=n:=by rw[IntKind.wrap_u8];omega
def enc1 (n:Int):List Int:=bif bF n 0 1000000000000 then uvE 5 n else[]
def Iu (b:List Int)(n:Int):List Int:=b++enc1 n
def jX (l:List Int):List Int:=(l.map enc1).flatten
theorem Xz (n:Int):(enc1 n).length≤6:=by
 have:=(aNw 5 n).2
 unfold enc1;cases bF n 0 1000000000000<;>simp<;>omega
theorem aNx {n:Int}(h:0≤n∧n≤1000000000000):enc1 n=uvE 5 n:=by
 unfold enc1 bF;rw[decide_eq_true h.1,decide_eq_true h.2];rfl
theorem uY (n:Int)(l:List Int):jX (n::l)=enc1 n++jX l:=rfl
theorem Ya:∀l:List Int,(jX l).length≤6*l.length
 |[]=>by simp[jX]
 |n::l=>by
  have:=Ya l
  have:=Xz n
  rw[uY,List.length_append,List.length_cons];omega
def aP7 (l:List Int):Prop:=∀v∈l,0≤v∧v≤(1000000000000:Int)
theorem aP8:∀(s t x y:List Int),aP7 s→aP7 t→s.length=t.length→jX s++x=jX t++y→s=t∧x=y
 |[],[],x,y,_,_,_,h=>⟨rfl,h⟩
 |m::s,n::t,x,y,hs,ht,hl,h=>by
  have hm:=hs m (by simp)
  have hn:=ht n (by simp)
  rw[uY,uY,List.append_assoc,List.append_assoc,aNx hm,aNx hn] at h
  obtain⟨h1,h2⟩:=aUr 5 m n _ _ hm.1 hn.1 h
  obtain⟨h3,h4⟩:=aP8 s t x y (fun v hv=>hs v (by simp[hv])) (fun v hv=>ht v (by simp[hv])) (by simpa using hl) h2
  exact⟨by rw[h1,h3],h4⟩
theorem aUs {b:List Int}(hb:bB b){p:Nat}:∀(k i:Nat) (n m e:Int),uvG b p (k+1) i n=(m,e,true)→∃(r:Int) (q:Nat),(0≤r∧m=n+r*128^i∧m≤1000000000000∧e=(q:Int)∧q≤b.length∧(0<i→r≠0))∧b.drop (p+i)=uvE k r++b.drop q
 |k,i,n,m,e,h=>by
  unfold uvG at h
  by_cases hlt:p+i<b.length
  ·rw[if_pos hlt] at h
   have hz:=Ik hb hlt
   have hg:b.getD (p+i) 0=b[p+i]:=by simp[List.getD,List.getElem?_eq_getElem hlt]
   rw[hg] at h
   have hd:b.drop (p+i)=b[p+i]::b.drop (p+i+1):=List.drop_eq_getElem_cons hlt
   generalize b[p+i]=z at hz h hd
   by_cases h128:z<128
   ·rw[decide_eq_true h128,cond_true] at h
    have hzz:z%128=z:=by omega
    rw[hzz] at h
    cases hc:(decide (0<i)&&z==0)||decide (n+z*128^i>1000000000000) with
    |true=>rw[hc] at h;simp at h
    |false=>
     rw[hc,cond_false] at h
     rw[Bool.or_eq_false_iff] at hc
     have h1:=of_decide_eq_false hc.2
     injection h with e1 e2
     injection e2 with e2 e3
     refine⟨z,p+i+1,⟨hz.1,e1.symm,by omega,e2.symm,by omega,fun hi h0=> ?_⟩,by rw[hd,bDk (by omega)];rfl⟩
     subst h0
     simp[hi] at hc
   ·rw[decide_eq_false h128,cond_false] at h
    match k,h with
    |0,h=>simp[uvG] at h
    |k+1,h=>
     obtain⟨r,q,⟨h1,h2,h3,h4,h5,h6⟩,h7⟩:=aUs hb k (i+1) _ m e h
     have hr:=h6 (by omega)
     refine⟨z%128+128*r,q,⟨by omega,?_,h3,h4,h5,fun _=>by omega⟩,?_⟩
     ·rw[h2,Int.pow_succ,Int.add_mul,←Int.add_assoc]
      congr 1
      rw[Int.mul_comm 128 r,Int.mul_assoc,Int.mul_comm 128]
     ·rw[hd,show p+i+1=p+(i+1) from by omega,h7]
      have e1:uvE (k+1) (z%128+128*r)=z::uvE k r:=by
       rw[uvE,decide_eq_true (show z%128+128*r>127 by omega),cond_true,show(z%128+128*r)%128+128=z by omega,show(z%128+128*r)/128=r by omega]
      rw[e1];rfl
  ·rw[if_neg hlt] at h;simp at h
theorem aNy {b:List Int}(hb:bB b){a m e:Int}(h:Ea b a=(m,e,true)):∃q:Nat,(0≤a∧0≤m∧m≤1000000000000∧e=(q:Int)∧q≤b.length)∧b.drop a.toNat=enc1 m++b.drop q:=by
 unfold Ea at h
 by_cases h0:a<0
 ·rw[if_pos h0] at h;simp at h
 ·rw[if_neg h0] at h
  obtain⟨r,q,⟨h1,h2,h3,h4,h5,_⟩,h7⟩:=aUs hb 5 0 0 m e h
  have hm:m=r:=by rw[h2];simp
  subst hm
  exact⟨q,⟨by omega,h1,h3,h4,h5⟩,by rw[aNx ⟨h1,h3⟩];exact h7⟩
theorem Yc {b:List Int}(hb:bB b):∀(k:Nat) (a:Int) (s v:List Int) (e:Int),0≤a→a≤b.length→jO b k a s=(v,e,true)→∃(t:List Int) (q:Nat),(v=s++t∧t.length=k∧e=(q:Int)∧q≤b.length∧aP7 t)∧b.drop a.toNat=jX t++b.drop q
 |0,a,s,v,e,h0,h1,h=>by
  unfold jO at h
  injection h with e1 e2
  injection e2 with e2 _
  exact⟨[],a.toNat,⟨by simp[e1],rfl,by omega,by omega,fun v hv=>by simp at hv⟩,rfl⟩
 |k+1,a,s,v,e,h0,h1,h=>by
  unfold jO at h
  cases hu:Ea b a with
  |mk m r=>
   obtain⟨e',ok⟩:=r
   rw[hu] at h
   cases ok with
   |false=>simp at h
   |true=>
    obtain⟨q,⟨g0,g1,g2,g3,g4⟩,g5⟩:=aNy hb hu
    subst g3
    obtain⟨t,q',⟨k1,k2,k3,k4,k5⟩,k6⟩:=Yc hb k (q:Int) (s++[m]) v e (by omega) (by omega) h
    refine⟨m::t,q',⟨by rw[k1];simp,by simp[k2],k3,k4,fun x hx=> ?_⟩,by rw[g5,uY,List.append_assoc];congr 1⟩
    rcases List.mem_cons.1 hx with rfl|hx
    ·exact⟨g1,g2⟩
    ·exact k5 x hx
theorem aFl {b:List Int}:∀(j k:Nat) (a:Int) (s:List Int),jO b (j+k) a s=bif (jO b j a s).2.2 then jO b k (jO b j a s).2.1 (jO b j a s).1 else([],0,false)
 |0,k,a,s=>by rw[Nat.zero_add];rfl
 |j+1,k,a,s=>by
  have e:∀m,jO b (m+1) a s=bif (Ea b a).2.2 then jO b m (Ea b a).2.1 (s++[(Ea b a).1]) else([],0,false):=fun _=>rfl
  rw[show j+1+k=j+k+1 by omega,e,e]
  cases(Ea b a).2.2 with
  |false=>rfl
  |true=>exact aFl j k _ _
theorem aFm {b:List Int}:∀(k:Nat) (a:Int) (s:List Int),jO b k a s=bif (jO b k a []).2.2 then(s++(jO b k a []).1,(jO b k a []).2.1,true) else([],0,false)
 |0,a,s=>by simp[jO]
 |k+1,a,s=>by
  unfold jO
  cases(Ea b a).2.2 with
  |false=>rfl
  |true=>
   simp only[cond_true,List.nil_append]
   rw[aFm k _ (s++[(Ea b a).1]),aFm k _ [(Ea b a).1]]
   cases(jO b k (Ea b a).2.1 []).2.2<;>simp
def aWm (e:D.Entry):List Int:=[e.Site,e.Handle,e.Version,bif e.Deleted then 1 else 0]
def mJ:List Int→List D.Entry
 |s::h::v::d::r=>⟨s,h,v,d==1⟩::mJ r
 |_=>[]
def uS:List Int→Bool
 |_::_::_::d::r=>decide (d≤1)&&uS r
 |_=>true
def tQ (l:List D.Entry):List Int:=l.flatMap aWm
theorem Ar:∀l:List D.Entry,(tQ l).length=4*l.length
 |[]=>rfl
 |e::l=>by
  have:=Ar l
  simp only[tQ,List.flatMap_cons,List.length_append,List.length_cons] at*
  rw[this];simp[aWm];omega
theorem aFn:∀(k:Nat) (l:List Int),l.length=4*k→(mJ l).length=k
 |0,[],_=>rfl
 |k+1,s::h::v::d::r,hl=>by
  have:=aFn k r (by simp at hl;omega)
  simp[mJ,this]
theorem aL5:∀(k:Nat) (l:List Int),l.length=4*k→aP7 l→aP7 (tQ (mJ l))∧(uS l=true↔tQ (mJ l)=l)
 |0,[],_,_=>⟨fun v h=>by simp[tQ,mJ] at h,by simp[uS,tQ,mJ]⟩
 |k+1,s::h::v::d::r,hl,ho=>by
  obtain⟨h1,h2⟩:=aL5 k r (by simp at hl;omega) (fun x hx=>ho x (by simp[hx]))
  have hs:=ho s (by simp)
  have hh:=ho h (by simp)
  have hv:=ho v (by simp)
  have hd:=ho d (by simp)
  have e:tQ (mJ (s::h::v::d::r))=s::h::v::(bif d==1 then 1 else 0)::tQ (mJ r):=by simp[mJ,tQ,aWm]
  rw[e]
  refine⟨fun x hx=> ?_,?_⟩
  ·simp only[List.mem_cons] at hx
   rcases hx with rfl|rfl|rfl|rfl|hx
   ·exact hs
   ·exact hh
   ·exact hv
   ·cases(d==1)<;>simp
   ·exact h1 x hx
  ·simp only[uS,Bool.and_eq_true,decide_eq_true_eq,List.cons.injEq,true_and,h2]
   refine and_congr_left' ?_
   by_cases h1:d=1
   ·subst h1;simp
   ·rw[show(d==1)=false by simpa using h1,cond_false];omega
theorem aP9:∀(k:Nat) (l r:List Int),l.length=4*k→mJ (l++r)=mJ l++mJ r
 |0,[],r,_=>rfl
 |k+1,s::h::v::d::l,r,hl=>by
  have:=aP9 k l r (by simp at hl;omega)
  simp[mJ,this]
def xQ (b:D.aAG):List Int:=[(b.Entries.length:Int)]++tQ b.Entries
def xR (b:D.aAG):List Int:=bif aT b then jX (xQ b) else[]
def bAd (d:List Int)(v:List Int×Int×Bool):D.aAG×Bool:=bif !v.2.2||(v.2.1 !=(d.length:Int)||(!uS v.1|| !aT ⟨mJ v.1⟩)) then(⟨[]⟩,false) else(⟨mJ v.1⟩,true)
def aFo (d:List Int):D.aAG×Bool:=bif !(Ea d 0).2.2||decide ((Ea d 0).1>20) then(⟨[]⟩,false) else bAd d (jO d (4*(Ea d 0).1).toNat (Ea d 0).2.1 [])
def lW (key:Int)(s:D.aAD):D.aAG×Bool:=bif !(bM key&&(bF s.Epoch 0 1000000&&bF s.Version 0 1000000))||s.MAC !=oD key s then(⟨[]⟩,false) else aFo (aNr (oF key s.Epoch s.Version) s.Data)
theorem bAe {d:List Int}(hd:bB d){n e e':Int}{v:List Int}(h:Ea d 0=(n,e,true))(hn:n≤20)(h':jO d (4*n).toNat e []=(v,e',true)):(jX (xQ ⟨mJ v⟩)=d↔(e'=(d.length:Int)∧uS v=true))∧v.length=4*n.toNat∧aP7 v∧(mJ v).length=n.toNat:=by
 obtain⟨q,⟨_,g1,g2,g3,g4⟩,g5⟩:=aNy hd h
 subst g3
 obtain⟨t,q',⟨k1,k2,k3,k4,k5⟩,k6⟩:=Yc hd _ _ _ _ _ (by omega) (by omega) h'
 rw[List.nil_append] at k1
 subst k1
 have hl:v.length=4*n.toNat:=by omega
 obtain⟨f1,f2⟩:=aL5 n.toNat v hl k5
 have hel:=aFn n.toNat v hl
 refine⟨?_,hl,k5,hel⟩
 have hdd:d=jX (n::v)++d.drop q':=by
  have h0:d.drop (Int.toNat 0)=d:=rfl
  rw[uY,List.append_assoc,←k6]
  exact h0▸g5
 have hv:xQ ⟨mJ v⟩=n::tQ (mJ v):=by
  show((mJ v).length:Int)::_=_
  rw[hel];congr 1;omega
 rw[hv]
 constructor
 ·intro hq
  have hx:jX (n::tQ (mJ v))++[]=jX (n::v)++d.drop q':=by rw[List.append_nil,hq];exact hdd
  have hok:∀l,aP7 l→aP7 (n::l):=fun l hl x hx=>by
   rcases List.mem_cons.1 hx with rfl|hx
   ·exact⟨g1,g2⟩
   ·exact hl x hx
  obtain⟨y1,y2⟩:=aP8 _ _ _ _ (hok _ f1) (hok _ k5) (by simp[Ar,hel,hl]) hx
  have:=congrArg List.length y2
  simp only[List.length_nil,List.length_drop] at this
  exact⟨by omega,f2.2 (List.cons.inj y1).2⟩
 ·rintro⟨h1,h2⟩
  rw[f2.1 h2]
  have:d.drop q'=[]:=List.drop_eq_nil_of_le (by omega)
  rw[this,List.append_nil] at hdd
  exact hdd.symm
theorem aL6 (l:List Int):(EV.aVl l).data.toList=l.map fun n=>UInt8.ofNat n.toNat:=by
 unfold EV.aVl
 have:∀(l:List Int) (r:ByteArray),(l.foldl (fun r n=>r.push (UInt8.ofNat n.toNat)) r).data.toList=r.data.toList++l.map fun n=>UInt8.ofNat n.toNat:=by
  intro l
  induction l with
  |nil=>intro r;simp
  |cons x l ih=>intro r;rw[List.foldl_cons,ih];simp
 rw[this];rfl
theorem bytes_inj:∀{a b:List Int},(∀z∈a,0≤z∧z≤255)→(∀z∈b,0≤z∧z≤255)→(a.map fun n=>UInt8.ofNat n.toNat)=(b.map fun n=>UInt8.ofNat n.toNat)→a=b
 |[],[],_,_,_=>rfl
 |[],y::b,_,_,h=>by simp at h
 |x::a,[],_,_,h=>by simp at h
 |x::a,y::b,ha,hb,h=>by
  simp only[List.map_cons,List.cons.injEq] at h
  have hx:=ha x (by simp)
  have hy:=hb y (by simp)
  have e:=congrArg UInt8.toNat h.1
  rw[UInt8.toNat_ofNat',UInt8.toNat_ofNat'] at e
  rw[bytes_inj (fun z hz=>ha z (by simp[hz])) (fun z hz=>hb z (by simp[hz])) h.2,show x=y by omega]
theorem aBj {b:List Int}(h:bB b):∀z∈b,0≤z∧z≤255:=fun z hz=>by simpa using List.all_eq_true.1 h.2 z hz
theorem aFp {b:List Int}(h:b.length≤34359738368)(h1:∀z∈b,0≤z∧z≤255):bB b:=⟨h,List.all_eq_true.2 fun z hz=>by simpa using h1 z hz⟩
theorem aL7:∀(k:Nat) (n:Int),0≤n→n<128^(k+1)→∀z∈uvE k n,0≤z∧z≤255
 |0,n,h0,h1,z,hz=>by simp[uvE] at hz;subst hz;simp at h1;omega
 |k+1,n,h0,h1,z,hz=>by
  have h2:(128:Int)^(k+1+1)=128*128^(k+1):=by rw[Int.pow_succ];omega
  unfold uvE at hz
  by_cases hn:n>127
  ·rw[decide_eq_true hn,cond_true] at hz
   rcases List.mem_cons.1 hz with rfl|hz
   ·omega
   ·exact aL7 k (n/128) (by omega) (by omega) z hz
  ·rw[decide_eq_false hn,cond_false] at hz
   simp at hz;subst hz;omega
theorem aSf (n:Int):∀z∈enc1 n,0≤z∧z≤255:=fun z hz=>by
 unfold enc1 at hz
 cases hr:bF n 0 1000000000000 with
 |false=>rw[hr] at hz;simp at hz
 |true=>
  rw[hr] at hz
  have:=kJ hr
  have h7:(128:Int)^(5+1)=4398046511104:=by decide
  exact aL7 5 n this.1 (by omega) z hz
theorem aFq (l:List Int):∀z∈jX l,0≤z∧z≤255:=fun z hz=>by
 unfold jX at hz
 obtain⟨x,hx,hz⟩:=List.mem_flatten.1 hz
 obtain⟨n,_,rfl⟩:=List.mem_map.1 hx
 exact aSf n z hz
theorem vP {b:D.aAG}(h:aT b=true):b.Entries.length≤20:=by
 simp only[aT,Bool.and_eq_true,decide_eq_true_eq] at h;omega
theorem aQa (b:D.aAG):bB (xR b):=by
 unfold xR
 cases hb:aT b with
 |false=>exact⟨by simp,rfl⟩
 |true=>
  have:=vP hb
  have h1:=Ya (xQ b)
  have h2:(xQ b).length=1+4*b.Entries.length:=by simp[xQ,Ar];omega
  exact aFp (by rw[cond_true];omega) (aFq _)
theorem bAf (d:List Int):(aFo d).1.sz≤20:=by
 have h0:(D.aAG.mk []).sz≤20:=by simp[D.aAG.sz]
 unfold aFo
 cases !(Ea d 0).2.2||decide ((Ea d 0).1>20) with
 |true=>exact h0
 |false=>
  rw[cond_false]
  generalize jO d (4*(Ea d 0).1).toNat (Ea d 0).2.1 []=v
  unfold bAd
  cases hb:aT ⟨mJ v.1⟩ with
  |false=>simp only[Bool.not_false,Bool.or_true,cond_true];exact h0
  |true=>
   have:=vP hb
   cases !v.2.2||(v.2.1 !=(d.length:Int)||(!uS v.1|| !true)) with
   |true=>exact h0
   |false=>simp only[cond_false,D.aAG.sz] at*;omega
theorem aWn (k:Int)(s:D.aAD):(lW k s).1.sz≤20:=by
 unfold lW
 cases !(bM k&&(bF s.Epoch 0 1000000&&bF s.Version 0 1000000))||s.MAC !=oD k s with
 |true=>simp[D.aAG.sz]
 |false=>exact bAf _
theorem aL8 {a b:D.aAG}(h:(nZ a b).2=true):(nZ a b).1.sz≤20:=by
 unfold nZ at*
 cases hc:aT a&&aT b with
 |false=>rw[hc] at h;cases h
 |true=>
  rw[hc] at h
  cases hm:aT ⟨dN a.Entries b.Entries⟩ with
  |false=>rw[hm] at h;cases h
  |true=>have:=vP hm;simp only[cond_true,D.aAG.sz];omega
def mX (d:D.Device)(log:List D.aAC)(bx:D.aAH)(s:D.aAD):Int:=
 bif !bE log|| !dX log d.Log then 1 else bif !iZ (aH log) (aX d.Store) then 2 else bif bx.Epoch !=aQ log|| !(cO d.Store bx).2 then 3
 else bif decide (s.Epoch<aQ log)||(decide (s.Epoch<d.Epoch)||(s.Epoch==d.Epoch&&decide (s.Version<d.Version))) then 4
 else bif !(lW (cO d.Store bx).1 s).2|| !(nZ d.aAG (lW (cO d.Store bx).1 s).1).2 then 5 else 0
def dJ (d:D.Device)(log:List D.aAC)(bx:D.aAH)(s:D.aAD):D.Device×Int:=
 bif mX d log bx s==0 then(⟨d.Store,log,(cO d.Store bx).1,s.Epoch,s.Version,(nZ d.aAG (lW (cO d.Store bx).1 s).1).1⟩,0) else(d,mX d log bx s)
def aI (w:D.World)(d b:Int):D.World×Int:=bif aN w&&aK w d then({w with Devices:=w.Devices.set d.toNat (dJ (aO w d) w.aAE.Log w.aAE.Boxes (gH w.aAE b).1).1},(dJ (aO w d) w.aAE.Log w.aAE.Boxes (gH w.aAE b).1).2) else(w,1)
def dV (w:D.World)(d:Int):Bool:=w.Stolen.getD d.toNat false
theorem aFr (d:D.Device)(l:List D.aAC)(bx:D.aAH)(s:D.aAD):(dJ d l bx s).1.sz≤d.sz+l.length+20:=by
 unfold dJ
 cases hc:mX d l bx s==0 with
 |false=>simp only[cond_false];omega
 |true=>
  have hm:(nZ d.aAG (lW (cO d.Store bx).1 s).1).2=true:=by
   cases hm:(nZ d.aAG (lW (cO d.Store bx).1 s).1).2 with
   |true=>rfl
   |false=>
    unfold mX at hc
    rw[hm] at hc
    revert hc
    cases !bE l|| !dX l d.Log<;>cases !iZ (aH l) (aX d.Store)<;>cases bx.Epoch !=aQ l|| !(cO d.Store bx).2<;>cases decide (s.Epoch<aQ l)||(decide (s.Epoch<d.Epoch)||(s.Epoch==d.Epoch&&decide (s.Version<d.Version)))<;>cases !(lW (cO d.Store bx).1 s).2<;>simp
  have:=aL8 hm
  simp only[cond_true,D.Device.sz,D.aAG.sz] at*;omega
def aWo (k:Int)(i:Nat)(z:Int):Int:=IntKind.u8.wrap ((z+bI k [(i:Int)])%256)
def xS (k:Int)(b:List Int):List Int:=Oj (fun i z=>[aWo k i z]) 0 b
def bAg (k e v:Int)(b:D.aAG):D.aAD:=⟨e,v,xS (oF k e v) (xR b),oD k ⟨e,v,xS (oF k e v) (xR b),0⟩⟩
def Au (k e v:Int)(b:D.aAG):D.aAD×Bool:=bif bM k&&(bF e 0 1000000&&bF v 0 1000000)&&aT b then(bAg k e v b,true) else(⟨0,0,[],0⟩,false)
def bW (d:D.Device):D.Device×D.aAD×Bool:=bif (Au d.Key d.Epoch (IntKind.i64.wrap (d.Version+1)) d.aAG).2 then({d with Version:=IntKind.i64.wrap (d.Version+1)},(Au d.Key d.Epoch (IntKind.i64.wrap (d.Version+1)) d.aAG).1,true) else(d,⟨0,0,[],0⟩,false)
def Iw (a b:D.aAD):Bool:=decide (a.Epoch>b.Epoch)||(a.Epoch==b.Epoch&&decide (a.Version>b.Version))
def dF (c:D.aAE)(s:D.aAD):D.aAE×Bool:=bif s.Epoch !=aQ c.Log||((decide ((c.History.length:Int)>0)&& !Iw s (c.History.getD (c.History.length-1) default))||decide ((c.History.length:Int)≥60)) then(c,false) else({c with History:=c.History++[s]},true)
def Rl (w:D.World)(d:Int):D.World×Bool:=bif (bW (aO w d)).2.2&&(dF w.aAE (bW (aO w d)).2.1).2 then({w with Devices:=w.Devices.set d.toNat (bW (aO w d)).1,aAE:=(dF w.aAE (bW (aO w d)).2.1).1},true) else(w,false)
def fQ (w:D.World)(d:Int):D.World×Bool:=bif (aI w d 0).2==0&&(Rl (aI w d 0).1 d).2 then((Rl (aI w d 0).1 d).1,true) else(w,false)
theorem aL9 (b:D.aAG):(xR b).length≤500:=by
 unfold xR
 cases hb:aT b with
 |false=>simp
 |true=>
  have:=vP hb
  have h1:=Ya (xQ b)
  have h2:(xQ b).length=1+4*b.Entries.length:=by simp[xQ,Ar];omega
  rw[cond_true];omega
theorem Yd (k:Int)(b:List Int):(xS k b).length=b.length:=by unfold xS;exact Ij
theorem aWp (k e v:Int)(b:D.aAG):(Au k e v b).1.Data.length≤500:=by
 unfold Au
 cases bM k&&(bF e 0 1000000&&bF v 0 1000000)&&aT b with
 |false=>simp
 |true=>simp only[cond_true,bAg,Yd];exact aL9 b
theorem uZ (d:D.Device):(bW d).1.sz=d.sz∧(bW d).2.1.Data.length≤500:=by
 unfold bW
 have:=aWp d.Key d.Epoch (IntKind.i64.wrap (d.Version+1)) d.aAG
 cases(Au d.Key d.Epoch (IntKind.i64.wrap (d.Version+1)) d.aAG).2 with
 |false=>exact⟨rfl,by simp⟩
 |true=>exact⟨rfl,this⟩
theorem qO (c:D.aAE)(s:D.aAD):(dF c s).1.sz≤c.sz+1+s.Data.length∧(dF c s).1.Log=c.Log:=by
 unfold dF
 cases s.Epoch !=aQ c.Log||((decide ((c.History.length:Int)>0)&& !Iw s (c.History.getD (c.History.length-1) default))||decide ((c.History.length:Int)≥60)) with
 |true=>exact⟨by simp only[cond_true];omega,rfl⟩
 |false=>refine⟨?_,rfl⟩;simp only[cond_false,D.aAE.sz,List.length_append,List.map_append,List.sum_append,List.length_cons,List.length_nil,List.map_cons,List.map_nil,List.sum_cons,List.sum_nil,D.aAD.sz];omega
theorem qP {α:Type}{f:α→Nat}:∀{l:List α} {i:Nat} {x:α} (hi:i<l.length),((l.set i x).map f).sum+f l[i]=(l.map f).sum+f x
 |y::l,0,x,_=>by simp only[List.set_cons_zero,List.map_cons,List.sum_cons,List.getElem_cons_zero];omega
 |y::l,i+1,x,h=>by
  have:=qP (f:=f) (l:=l) (i:=i) (x:=x) (by simpa using h)
  simp only[List.set_cons_succ,List.map_cons,List.sum_cons,List.getElem_cons_succ];omega
theorem lK {w:D.World}{d b:Int}(h:((aI w d b).2==0)=true):(aN w=true∧aK w d=true)∧(aI w d b).1.aAE=w.aAE∧(aI w d b).1.Devices.length=w.Devices.length∧(aI w d b).1.sz≤w.sz+w.aAE.Log.length+20:=by
 unfold aI at*
 cases hc:(aN w&&aK w d) with
 |false=>rw[hc] at h;cases h
 |true=>
  rw[hc] at h
  simp only[cond_true] at h ⊢
  rw[Bool.and_eq_true] at hc
  refine⟨hc,by first|rfl|trivial,by first|exact List.length_set|simp,?_⟩
  have hd:=hc.2
  simp only[aK,Bool.and_eq_true,decide_eq_true_eq] at hd
  have hi:d.toNat<w.Devices.length:=by omega
  have hz:(dJ (aO w d) w.aAE.Log w.aAE.Boxes (gH w.aAE b).1).1.sz≤w.aAE.Log.length+20:=by
   unfold dJ at*
   cases hs:mX (aO w d) w.aAE.Log w.aAE.Boxes (gH w.aAE b).1==0 with
   |false=>rw[hs] at h;simp only[cond_false] at h;rw[hs] at h;cases h
   |true=>
    have hm:(nZ (aO w d).aAG (lW (cO (aO w d).Store w.aAE.Boxes).1 (gH w.aAE b).1).1).2=true:=by
     cases hm:(nZ (aO w d).aAG (lW (cO (aO w d).Store w.aAE.Boxes).1 (gH w.aAE b).1).1).2 with
     |true=>rfl
     |false=>
      unfold mX at hs
      rw[hm] at hs
      revert hs
      generalize(aO w d)=x
      generalize(gH w.aAE b).1=s
      cases !bE w.aAE.Log|| !dX w.aAE.Log x.Log<;>cases !iZ (aH w.aAE.Log) (aX x.Store)<;>cases w.aAE.Boxes.Epoch !=aQ w.aAE.Log|| !(cO x.Store w.aAE.Boxes).2<;>cases decide (s.Epoch<aQ w.aAE.Log)||(decide (s.Epoch<x.Epoch)||(s.Epoch==x.Epoch&&decide (s.Version<x.Version)))<;>cases !(lW (cO x.Store w.aAE.Boxes).1 s).2<;>simp
    have:=aL8 hm
    simp only[cond_true,D.Device.sz,D.aAG.sz] at*;omega
  have h1:=qP (f:=D.Device.sz) (l:=w.Devices) (i:=d.toNat) (x:=(dJ (aO w d) w.aAE.Log w.aAE.Boxes (gH w.aAE b).1).1) hi
  generalize(dJ (aO w d) w.aAE.Log w.aAE.Boxes (gH w.aAE b).1).1=x at*
  simp only[D.World.sz,List.length_set] at*;omega
theorem bE4 {w:D.World}{d:Int}(hd:aK w d=true):(Rl w d).1.aAE.Log=w.aAE.Log∧(Rl w d).1.Devices.length=w.Devices.length∧(Rl w d).1.sz≤w.sz+501:=by
 unfold Rl
 cases(bW (aO w d)).2.2&&(dF w.aAE (bW (aO w d)).2.1).2 with
 |false=>exact⟨rfl,rfl,by simp only[cond_false];omega⟩
 |true=>
  have hu:=qO w.aAE (bW (aO w d)).2.1
  have hw:=uZ (aO w d)
  simp only[aK,Bool.and_eq_true,decide_eq_true_eq] at hd
  have hi:d.toNat<w.Devices.length:=by omega
  have h1:=qP (f:=D.Device.sz) (l:=w.Devices) (i:=d.toNat) (x:=(bW (aO w d)).1) hi
  have e:w.Devices[d.toNat]=aO w d:=by simp[aO,List.getD,List.getElem?_eq_getElem hi]
  rw[e] at h1
  refine⟨hu.2,List.length_set,?_⟩
  generalize(dF w.aAE (bW (aO w d)).2.1).1=c at*
  generalize bW (aO w d)=x at*
  simp only[cond_true,D.World.sz,D.aAE.sz,List.length_set] at*;omega
theorem aDs {w:D.World}{d:Int}(h:(fQ w d).2=true):(fQ w d).1.aAE.Log=w.aAE.Log∧(fQ w d).1.sz≤w.sz+w.aAE.Log.length+521:=by
 unfold fQ at*
 cases hc:((aI w d 0).2==0&&(Rl (aI w d 0).1 d).2) with
 |false=>rw[hc] at h;cases h
 |true=>
  rw[Bool.and_eq_true] at hc
  obtain⟨⟨k1,k2⟩,k3,k4,k5⟩:=lK hc.1
  have hd:aK (aI w d 0).1 d=true:=by simp only[aK] at*;rw[k4];exact k2
  obtain⟨j1,j2,j3⟩:=bE4 hd
  simp only[cond_true]
  exact⟨by rw[j1,k3],by omega⟩
theorem bIb {k z:Int}(i:Nat)(h:0≤z∧z≤255):IntKind.u8.wrap ((IntKind.i64.wrap (IntKind.i64.wrap z+bI k [(i:Int)])).tmod 256)=aWo k i z:=by
 have:=jN k [(i:Int)]
 rw[aG (n:=z) (by omega) (by omega),aG (by omega) (by omega),Int.tmod_eq_emod_of_nonneg (by omega)];rfl
theorem bAh {k z:Int}(i:Nat)(h:0≤z∧z≤255):IntKind.u8.wrap ((IntKind.i64.wrap (IntKind.i64.wrap z+(bI k [(i:Int)]).tmod 256)).tmod 256)=aWo k i z:=by
 have:=jN k [(i:Int)]
 rw[aG (n:=z) (by omega) (by omega),show(bI k [(i:Int)]).tmod 256=bI k [(i:Int)]%256 from Int.tmod_eq_emod_of_nonneg this.1,aG (by omega) (by omega),Int.tmod_eq_emod_of_nonneg (by omega),aWo]
 congr 1;omega
def aJ (seed n:Int):D.aAI:=⟨1,n,aU seed [277,n],0⟩
def bJ (s:D.aAI):D.Device:=⟨s,[],0,0,0,⟨[]⟩⟩
def eO (s:D.aAI)(n:ByteArray)(h:Int):Int:=aU s.Seed [179,bU n,h]
def dO (s:D.aAI)(n:ByteArray)(h:Int):Int:=eF (eO s n h)
def oG (s:D.aAI)(l:List Int):Int:=Ri (iA s) l
def aSg (log:List D.aAC)(kind dev:Int)(s:D.aAI):D.aAC:=⟨(log.length:Int),kind,dev,aX s,mI log,0⟩
def aWq (log:List D.aAC)(kind dev:Int)(s:D.aAI):D.aAC:={aSg log kind dev s with Signature:=oG s [dY (aSg log kind dev s)]}
def gK (log:List D.aAC)(kind dev:Int)(s:D.aAI):List D.aAC×Bool:=bif (decide ((log.length:Int)>0)&& !bE log)|| !bE (log++[aWq log kind dev s]) then(log,false) else(log++[aWq log kind dev s],true)
def rW (p e:Int)(d:List Int):D.Box:=⟨p,e,xS (jB (gG p) e) d,aI8 (jB (gG p) e) ⟨p,e,xS (jB (gG p) e) d,0⟩⟩
def fA (p e:Int)(d:List Int):D.Box×Bool:=bif gG p==0||(!bM e||decide ((d.length:Int)>200)) then(⟨0,0,[],0⟩,false) else(rW p e d,true)
def eU (e:Int)(d:List Int):Nat→List Int→List D.Box×Bool
 |_,[]=>([],true)
 |i,p::l=>bif (fA p (IntKind.i64.wrap (e+(i:Int))) d).2&&(eU e d (i+1) l).2 then((fA p (IntKind.i64.wrap (e+(i:Int))) d).1::(eU e d (i+1) l).1,true) else([],false)
def bG (log:List D.aAC)(key eph:Int):D.aAH×Bool:=bif !bE log||(!bM key|| !(eU eph (jX [aQ log,key]) 0 (aH log)).2) then(⟨0,[]⟩,false) else(⟨aQ log,(eU eph (jX [aQ log,key]) 0 (aH log)).1⟩,true)
def oH (e:D.aAH)(d:Int):Int:=e.Boxes.foldl (fun n b=>bif b.To==d then IntKind.i64.wrap (n+1) else n) 0
def gL (e:D.aAH)(log:List D.aAC):Bool:=(e.Epoch==aQ log&&(e.Boxes.length:Int)==((aH log).length:Int))&&(aH log).all fun d=>oH e d==1
def kF (c:D.aAE)(log:List D.aAC)(e:D.aAH):D.aAE×Bool:=bif !bE log||(!dX log c.Log|| !gL e log) then(c,false) else({c with Log:=log,Boxes:=e},true)
def Tv (h:Int)(l:List D.aAJ):Nat:=(l.takeWhile fun c=>decide (c.Handle<h)).length
def aCa (l:List D.aAJ)(h p:Int):List D.aAJ:=l.take (Tv h l)++[⟨h,p,0,false⟩]++l.drop (Tv h l)
def gJ (a:D.aAF)(h p:Int):D.aAF×Bool:=bif !aY a|| !aY {a with Credentials:=aCa a.Credentials h p} then(a,false) else({a with Credentials:=aCa a.Credentials h p},true)
def eP (s:D.Site)(id h p:Int):D.Site×Bool:=bif !cZ s||decide (aC s id<0) then(s,false) else bif (gJ (s.Accounts.getD (aC s id).toNat default) h p).2 then({s with Accounts:=s.Accounts.set (aC s id).toNat (gJ (s.Accounts.getD (aC s id).toNat default) h p).1},true) else(s,false)
def vQ (l:List D.aAS):Nat:=bif l.any (fun n=>n.Seen) then(l.takeWhile fun n=> !n.Seen).length else 0
def Et (l:List D.aAS):List D.aAS:=bif decide ((l.length:Int)>30) then l.take (vQ l)++l.drop (vQ l+1) else l
def xU (m:D.aAP)(k a t:Int):D.aAP×Bool:=bif !fO m|| !fO ⟨Et (m.Notices++[⟨k,a,t,false⟩])⟩ then(m,false) else(⟨Et (m.Notices++[⟨k,a,t,false⟩])⟩,true)
def iE (w:D.World)(by_ kind pub:Int)(key:List D.aAC→Int):D.World×Bool:=
 let l:=gK w.aAE.Log kind pub (aO w by_).Store
 let e:=bG l.1 (key l.1) (IntKind.i64.wrap (1000+IntKind.i64.wrap (10*(l.1.length:Int))))
 let c:=kF w.aAE l.1 e.1
 bif l.2&&(e.2&&c.2) then({w with aAE:=c.1},true) else(w,false)
theorem qQ (log:List D.aAC)(k d:Int)(s:D.aAI):(gK log k d s).1.length≤log.length+1:=by
 unfold gK
 cases(decide ((log.length:Int)>0)&& !bE log)|| !bE (log++[aWq log k d s])<;>simp
theorem aSh (p e:Int)(d:List Int):(fA p e d).1.sz≤d.length:=by
 unfold fA
 cases gG p==0||(!bM e||decide ((d.length:Int)>200)) with
 |true=>simp[D.Box.sz]
 |false=>simp only[cond_false,rW,D.Box.sz,Yd];exact Nat.le_refl _
theorem aQb {e:Int}{d:List Int}:∀{i:Nat} {l:List Int},(eU e d i l).1.length≤l.length∧((eU e d i l).1.map D.Box.sz).sum≤l.length*d.length
 |i,[]=>by simp[eU]
 |i,p::l=>by
  have h1:=aQb (e:=e) (d:=d) (i:=i+1) (l:=l)
  have h2:=aSh p (IntKind.i64.wrap (e+(i:Int))) d
  unfold eU
  cases(fA p (IntKind.i64.wrap (e+(i:Int))) d).2&&(eU e d (i+1) l).2 with
  |false=>simp
  |true=>simp only[cond_true,List.length_cons,List.map_cons,List.sum_cons,Nat.add_mul];omega
theorem aQc (a b:Int):(jX [a,b]).length≤12:=Ya [a,b]
theorem Nw (log:List D.aAC)(k e:Int):(bG log k e).1.sz≤13*log.length:=by
 unfold bG
 have h1:=aQb (e:=e) (d:=jX [aQ log,k]) (i:=0) (l:=aH log)
 have h2:=iT log
 have h3:=aQc (aQ log) k
 have h4:=Nat.mul_le_mul_left (aH log).length h3
 cases !bE log||(!bM k|| !(eU e (jX [aQ log,k]) 0 (aH log)).2) with
 |true=>simp[D.aAH.sz]
 |false=>simp only[cond_false,D.aAH.sz];omega
theorem bAi (c:D.aAE)(l:List D.aAC)(e:D.aAH):(kF c l e).1.sz≤c.sz+l.length+e.sz∧(kF c l e).1.History=c.History:=by
 unfold kF
 cases !bE l||(!dX l c.Log|| !gL e l) with
 |true=>exact⟨by simp only[cond_true];omega,rfl⟩
 |false=>exact⟨by simp only[cond_false,D.aAE.sz,D.aAH.sz];omega,rfl⟩
theorem aQd (l:List D.aAJ)(h p:Int):(aCa l h p).length=l.length+1:=by
 simp only[aCa,List.length_append,List.length_take,List.length_drop,List.length_singleton];omega
theorem aSi (a:D.aAF)(h p:Int):(gJ a h p).1.sz≤a.sz+1:=by
 unfold gJ
 cases !aY a|| !aY {a with Credentials:=aCa a.Credentials h p} with
 |true=>simp only[cond_true];omega
 |false=>simp only[cond_false,D.aAF.sz,aQd];exact Nat.le_refl _
theorem aMa (l:List D.aAS):(Et l).length≤l.length:=by
 unfold Et
 cases decide ((l.length:Int)>30) with
 |false=>exact Nat.le_refl _
 |true=>simp only[cond_true,List.length_append,List.length_take,List.length_drop];omega
theorem bDm (m:D.aAP)(k a t:Int):(xU m k a t).1.sz≤m.sz+1:=by
 unfold xU
 have:=aMa (m.Notices++[⟨k,a,t,false⟩])
 simp only[List.length_append,List.length_singleton] at this
 cases !fO m|| !fO ⟨Et (m.Notices++[⟨k,a,t,false⟩])⟩ with
 |true=>simp only[cond_true];omega
 |false=>simp only[cond_false,D.aAP.sz];omega
theorem kV {α:Type}{p:α→Bool}{i:Nat}{l:List α}(h:decide (gP p i l<0)=false):(i:Int)≤gP p i l∧gP p i l<i+l.length:=by
 induction l generalizing i with
 |nil=>simp[gP] at h
 |cons x l ih=>
  unfold gP at h ⊢
  cases hp:p x with
  |true=>simp only[cond_true,List.length_cons];omega
  |false=>
   rw[hp] at h
   have:=ih (i:=i+1) h
   simp only[cond_false,List.length_cons];omega
theorem aMb (s:D.Site)(id h p:Int):(eP s id h p).1.sz≤s.sz+1:=by
 unfold eP
 cases hc: !cZ s||decide (aC s id<0) with
 |true=>simp only[cond_true];omega
 |false=>
  rw[Bool.or_eq_false_iff] at hc
  have hr:=kV hc.2
  simp only[cond_false]
  cases(gJ (s.Accounts.getD (aC s id).toNat default) h p).2 with
  |false=>simp only[cond_false];omega
  |true=>
   have hi:(aC s id).toNat<s.Accounts.length:=by unfold aC;omega
   have h1:=qP (f:=D.aAF.sz) (l:=s.Accounts) (i:=(aC s id).toNat) (x:=(gJ (s.Accounts.getD (aC s id).toNat default) h p).1) hi
   have h2:=aSi (s.Accounts.getD (aC s id).toNat default) h p
   have e:s.Accounts.getD (aC s id).toNat default=s.Accounts[(aC s id).toNat]:=by simp[List.getD,List.getElem?_eq_getElem hi]
   rw[e] at h1 h2 ⊢
   simp only[cond_true,D.Site.sz,List.length_set];omega
def appW (w:D.World)(x:D.Device):D.World:={w with Devices:=w.Devices++[x],Stolen:=w.Stolen++[false]}
theorem aQe {w:D.World}(x:D.Device){d:Int}(h:aK w d=true)(hn:w.Devices.length<6):aN (appW w x)=aN w:=by
 simp only[aK,Bool.and_eq_true,decide_eq_true_eq] at h
 have e1:bF ((w.Devices++[x]).length:Int) 1 6=bF (w.Devices.length:Int) 1 6:=by
  simp only[bF,List.length_append,List.length_singleton]
  rw[decide_eq_true (show(1:Int)≤((w.Devices.length+1:Nat):Int) by omega),decide_eq_true (show((w.Devices.length+1:Nat):Int)≤6 by omega),decide_eq_true (show(1:Int)≤(w.Devices.length:Int) by omega),decide_eq_true (show(w.Devices.length:Int)≤6 by omega)]
 have e2:(((w.Stolen++[false]).length:Int)==((w.Devices++[x]).length:Int))=((w.Stolen.length:Int)==(w.Devices.length:Int)):=by
  rw[Bool.eq_iff_iff,beq_iff_eq,beq_iff_eq]
  simp only[List.length_append,List.length_singleton];omega
 unfold aN
 simp only[appW,e1,e2]
theorem aSj {w:D.World}(x:D.Device){d:Int}(h:aK w d=true):aK (appW w x) d=true:=by
 simp only[aK,Bool.and_eq_true,decide_eq_true_eq,appW,List.length_append,List.length_singleton] at*;omega
theorem aMc {w:D.World}(x:D.Device){d:Int}(h:aK w d=true):aO (appW w x) d=aO w d:=by
 simp only[aK,Bool.and_eq_true,decide_eq_true_eq] at h
 simp only[aO,appW,List.getD,List.getElem?_append_left (show d.toNat<w.Devices.length by omega)]
theorem bAj {w:D.World}(x:D.Device){d:Int}(b:Int)(h:aK w d=true)(hn:w.Devices.length<6):aI (appW w x) d b=(appW (aI w d b).1 x,(aI w d b).2):=by
 have h':=h
 simp only[aK,Bool.and_eq_true,decide_eq_true_eq] at h'
 unfold aI
 rw[aQe x h hn,aSj x h,aMc x h,h]
 cases aN w with
 |false=>rfl
 |true=>
  simp only[Bool.and_self,cond_true]
  congr 1
  simp only[appW,List.set_append_left _ _ (show d.toNat<w.Devices.length by omega)]
theorem bGu {w:D.World}(x:D.Device){d:Int}(h:aK w d=true):Rl (appW w x) d=(appW (Rl w d).1 x,(Rl w d).2):=by
 have h':=h
 simp only[aK,Bool.and_eq_true,decide_eq_true_eq] at h'
 unfold Rl
 rw[aMc x h,show(appW w x).aAE=w.aAE from rfl]
 cases(bW (aO w d)).2.2&&(dF w.aAE (bW (aO w d)).2.1).2 with
 |false=>rfl
 |true=>
  simp only[cond_true,appW,List.set_append_left _ _ (show d.toNat<w.Devices.length by omega)]
theorem bAk {w:D.World}(x:D.Device){d:Int}(h:aK w d=true)(hn:w.Devices.length<6):fQ (appW w x) d=(appW (fQ w d).1 x,(fQ w d).2):=by
 unfold fQ
 rw[bAj x 0 h hn]
 cases hs:((aI w d 0).2==0) with
 |false=>simp only[Bool.false_and,cond_false]
 |true=>
  obtain⟨_,_,k4,_⟩:=lK hs
  have hd:aK (aI w d 0).1 d=true:=by simp only[aK] at*;rw[k4];exact h
  rw[bGu x hd]
  cases(Rl (aI w d 0).1 d).2<;>rfl
theorem Ye (w:D.World)(b k p:Int)(key:List D.aAC→Int):(iE w b k p key).1.sz≤w.sz+14*(w.aAE.Log.length+1)∧(iE w b k p key).1.aAE.Log.length≤w.aAE.Log.length+1∧(iE w b k p key).1.Devices=w.Devices∧(iE w b k p key).1.Sites=w.Sites:=by
 unfold iE
 dsimp only
 have h1:=qQ w.aAE.Log k p (aO w b).Store
 generalize(gK w.aAE.Log k p (aO w b).Store)=l at*
 have h2:=Nw l.1 (key l.1) (IntKind.i64.wrap (1000+IntKind.i64.wrap (10*(l.1.length:Int))))
 have h3:=(bAi w.aAE l.1 (bG l.1 (key l.1) (IntKind.i64.wrap (1000+IntKind.i64.wrap (10*(l.1.length:Int))))).1).1
 have h4:(kF w.aAE l.1 (bG l.1 (key l.1) (IntKind.i64.wrap (1000+IntKind.i64.wrap (10*(l.1.length:Int))))).1).1.Log.length≤w.aAE.Log.length+1:=by
  unfold kF
  cases !bE l.1||(!dX l.1 w.aAE.Log|| !gL (bG l.1 (key l.1) (IntKind.i64.wrap (1000+IntKind.i64.wrap (10*(l.1.length:Int))))).1 l.1) with
  |true=>simp only[cond_true];omega
  |false=>simp only[cond_false];exact h1
 generalize bG l.1 (key l.1) (IntKind.i64.wrap (1000+IntKind.i64.wrap (10*(l.1.length:Int))))=e at*
 generalize kF w.aAE l.1 e.1=c at*
 cases l.2&&(e.2&&c.2) with
 |false=>exact⟨by show w.sz≤_;omega,by show w.aAE.Log.length≤_;omega,rfl,rfl⟩
 |true=>exact⟨by show(D.World.sz {w with aAE:=c.1})≤_;simp only[D.World.sz,D.aAE.sz] at*;omega,h4,rfl,rfl⟩
def lL (d:D.Device)(h:Int)(rm:Bool):D.Device:=(bX (bX d (aA 0) h rm).1 (aA 1) h rm).1
def fK (st:D.aAI)(n:Int):Nat→List D.Site→List D.Site×Bool
 |_,[]=>([],true)
 |j,s::l=>bif (eP s 1 n (dO st (aA (j:Int)) n)).2&&(fK st n (j+1) l).2 then((eP s 1 n (dO st (aA (j:Int)) n)).1::(fK st n (j+1) l).1,true) else([],false)
def Iy (w:D.World)(k:Int):D.World:={w with Mail:=(xU w.Mail k 1 w.Now).1}
def add1 (w:D.World)(b:Int):D.World×Bool:=iE (aI w b 0).1 b 1 (aX (aJ w.Seed (w.Devices.length:Int))) fun _=>(aO (aI w b 0).1 b).Key
def aFs (w:D.World)(b:Int):List D.Site×Bool:=fK (aJ w.Seed (w.Devices.length:Int)) (w.Devices.length:Int) 0 (add1 w b).1.Sites
def oI (w:D.World)(b:Int):D.World×Bool:=fQ {(add1 w b).1 with Sites:=(aFs w b).1,Devices:=(add1 w b).1.Devices.set b.toNat (lL (aO (add1 w b).1 b) (w.Devices.length:Int) false)} b
def zR (w:D.World)(b:Int):D.World×Int:=aI (appW (oI w b).1 (bJ (aJ w.Seed (w.Devices.length:Int)))) (w.Devices.length:Int) 0
def aBk (w:D.World)(b:Int):Bool:=(aN w&&(aK w b&&(!dV w b&& !decide ((w.Devices.length:Int)≥6))))&&((aI w b 0).2==0&&((add1 w b).2&&((aFs w b).2&&((oI w b).2&&(zR w b).2==0))))
def jE (w:D.World)(b:Int):D.World×Bool:=bif aBk w b then(Iy (zR w b).1 2,true) else(w,false)
theorem aDt (d:D.Device)(h:Int)(rm:Bool):(lL d h rm).sz≤d.sz+2:=by
 have h1:=Aq (bX d (aA 0) h rm).1 (aA 1) h rm
 have h2:=Aq d (aA 0) h rm
 unfold lL;omega
theorem M9 {st:D.aAI}{n:Int}:∀{j:Nat} {l:List D.Site},(fK st n j l).1.length≤l.length∧((fK st n j l).1.map D.Site.sz).sum≤(l.map D.Site.sz).sum+l.length
 |j,[]=>by simp[fK]
 |j,s::l=>by
  have h1:=M9 (st:=st) (n:=n) (j:=j+1) (l:=l)
  have h2:=aMb s 1 n (dO st (aA (j:Int)) n)
  unfold fK
  cases(eP s 1 n (dO st (aA (j:Int)) n)).2&&(fK st n (j+1) l).2 with
  |false=>simp
  |true=>simp only[cond_true,List.length_cons,List.map_cons,List.sum_cons];omega
theorem aWr {w:D.World}{b:Int}(h0:((aI w b 0).2==0)=true):(aK (add1 w b).1 b=true∧(add1 w b).1.Devices.length=w.Devices.length)∧(add1 w b).1.sz≤16*w.sz+34∧(add1 w b).1.aAE.Log.length≤w.sz+1:=by
 obtain⟨⟨k1,k2⟩,k3,k4,k5⟩:=lK h0
 have hL:w.aAE.Log.length≤w.sz:=by simp only[D.World.sz,D.aAE.sz];omega
 obtain⟨g1,g2,g3,g4⟩:=Ye (aI w b 0).1 b 1 (aX (aJ w.Seed (w.Devices.length:Int))) (fun _=>(aO (aI w b 0).1 b).Key)
 rw[k3] at g1 g2
 refine⟨⟨?_,by show(iE _ _ _ _ _).1.Devices.length=_;rw[g3,k4]⟩,by unfold add1;omega,by unfold add1;omega⟩
 simp only[aK] at*
 unfold add1
 rw[g3,k4];exact k2
def iW (w:D.World)(b:Int):D.World:={(add1 w b).1 with Sites:=(aFs w b).1,Devices:=(add1 w b).1.Devices.set b.toNat (lL (aO (add1 w b).1 b) (w.Devices.length:Int) false)}
theorem aQf {w:D.World}{b:Int}(h0:((aI w b 0).2==0)=true):(aK (iW w b) b=true∧(iW w b).Devices.length=w.Devices.length)∧(iW w b).sz≤32*w.sz+80∧(iW w b).aAE.Log.length≤w.sz+1:=by
 obtain⟨⟨h1,h2⟩,h3,h4⟩:=aWr h0
 have h5:=M9 (st:=aJ w.Seed (w.Devices.length:Int)) (n:=(w.Devices.length:Int)) (j:=0) (l:=(add1 w b).1.Sites)
 have h6:=aDt (aO (add1 w b).1 b) (w.Devices.length:Int) false
 have hd:=h1
 simp only[aK,Bool.and_eq_true,decide_eq_true_eq] at hd
 have hi:b.toNat<(add1 w b).1.Devices.length:=by omega
 have h7:=qP (f:=D.Device.sz) (l:=(add1 w b).1.Devices) (i:=b.toNat) (x:=lL (aO (add1 w b).1 b) (w.Devices.length:Int) false) hi
 have e:(add1 w b).1.Devices[b.toNat]=aO (add1 w b).1 b:=by simp[aO,List.getD,List.getElem?_eq_getElem hi]
 rw[e] at h7
 refine⟨⟨?_,by simp only[iW,List.length_set];exact h2⟩,?_,h4⟩
 ·simp only[aK,iW,List.length_set] at*;exact h1
 ·simp only[iW,aFs]
  generalize(add1 w b).1=x at*
  simp only[D.World.sz,List.length_set] at*;omega
theorem Yf (w:D.World)(x:D.Device):(appW w x).sz=w.sz+x.sz+2:=by
 simp only[appW,D.World.sz,List.length_append,List.length_singleton,List.map_append,List.map_cons,List.map_nil,List.sum_append,List.sum_cons,List.sum_nil];omega
theorem aDu (w:D.World)(k:Int):(Iy w k).sz≤w.sz+1:=by
 have:=bDm w.Mail k 1 w.Now
 simp only[Iy,D.World.sz,D.aAP.sz] at*;omega
theorem bDn {w:D.World}{b:Int}(h0:((aI w b 0).2==0)=true)(h:(oI w b).2=true):(oI w b).1.sz≤33*w.sz+602∧(oI w b).1.aAE.Log.length≤w.sz+1:=by
 obtain⟨_,h1,h2⟩:=aQf h0
 obtain⟨h3,h4⟩:=aDs (w:=iW w b) (d:=b) h
 exact⟨by show(fQ (iW w b) b).1.sz≤_;omega,by show(fQ (iW w b) b).1.aAE.Log.length≤_;rw[h3];exact h2⟩
theorem aMd {α:Type}{p:α→Bool}:∀{l:List α} {i:Nat} (hi:i<l.length),i<(l.takeWhile p).length→p l[i]=true
 |x::l,0,_,h=>by
  simp only[List.takeWhile_cons] at h
  cases hp:p x with
  |true=>exact hp
  |false=>rw[hp] at h;simp at h
 |x::l,i+1,hi,h=>by
  simp only[List.takeWhile_cons] at h
  cases hp:p x with
  |true=>
   have h':i<(l.takeWhile p).length:=by simpa[hp] using h
   exact aMd (l:=l) (i:=i) (by simpa using hi) h'
  |false=>rw[hp] at h;simp at h
theorem aMe {α:Type}{p:α→Bool}:∀{l:List α} (h:(l.takeWhile p).length<l.length),p (l[(l.takeWhile p).length]'h)=false
 |x::l,h=>by
  cases hp:p x with
  |true=>
   have h':(l.takeWhile p).length<l.length:=by simpa[List.takeWhile_cons,hp] using h
   simpa[List.takeWhile_cons,hp] using aMe h'
  |false=>simp[List.takeWhile_cons,hp]
theorem Iz {α:Type}{p:α→Bool}{l:List α}:(l.takeWhile p).length≤l.length:=(List.takeWhile_prefix p).length_le
theorem aMf {α τ S:Type}{l:List α}(p:α→Bool)(fin:Nat→Option τ)(e:Nat→S){F:(S→Option τ)→S→Option τ}(hl:l.length≤34359738368)
  (hF:∀rec i (hi:i<l.length),F rec (e i)=bif p l[i] then rec (e (i+1)) else fin i) (hE:∀rec,F rec (e l.length)=fin l.length):EV.bT FUEL F (e 0)=fin (l.takeWhile p).length:=by
 have go:∀(k i n:Nat),i+k=(l.takeWhile p).length→k<n→EV.bT n F (e i)=fin (l.takeWhile p).length:=by
  intro k
  induction k with
  |zero=>
   intro i n hi hn
   obtain⟨n,rfl⟩:∃m,n=m+1:=⟨n-1,by omega⟩
   have:i=(l.takeWhile p).length:=by omega
   subst this
   rw[gU]
   by_cases h:(l.takeWhile p).length<l.length
   ·rw[hF _ _ h,aMe h,cond_false]
   ·have h2:(l.takeWhile p).length=l.length:=by have:=Iz (p:=p) (l:=l);omega
    rw[h2,hE]
  |succ k ih=>
   intro i n hi hn
   obtain⟨n,rfl⟩:∃m,n=m+1:=⟨n-1,by omega⟩
   have h1:i<l.length:=by have:=Iz (p:=p) (l:=l);omega
   rw[gU,hF _ _ h1,aMd (p:=p) h1 (by omega),cond_true]
   exact ih (i+1) n (by omega) (by omega)
 have:=Iz (p:=p) (l:=l)
 exact go (l.takeWhile p).length 0 FUEL (by omega) (by have:=gY;omega)
theorem aMg {e:Int}{d:List Int}{l:List Int}{τ:Type}{x:τ}{F:(List D.Box×Nat→Option (τ⊕List D.Box))→List D.Box×Nat→Option (τ⊕List D.Box)}
  (hF:∀rec i s (hi:i<l.length),s.length≤i→F rec (s,i)=bif !(fA l[i] (IntKind.i64.wrap (e+(i:Int))) d).2 then some (.inl x) else rec (s++[(fA l[i] (IntKind.i64.wrap (e+(i:Int))) d).1],i+1)) (hE:∀rec s,F rec (s,l.length)=some (.inr s)):
  ∀(k i n:Nat) (s:List D.Box),i+k=l.length→k<n→s.length≤i→EV.bT n F (s,i)=some (bif (eU e d i (l.drop i)).2 then .inr (s++(eU e d i (l.drop i)).1) else .inl x)
 |0,i,n+1,s,h,_,_=>by
  have:i=l.length:=by omega
  subst this
  rw[gU,hE,List.drop_length];simp[eU]
 |k+1,i,n+1,s,h,hn,hs=>by
  have hi:i<l.length:=by omega
  rw[gU,hF _ i s hi hs,List.drop_eq_getElem_cons hi,eU]
  cases hb:(fA l[i] (IntKind.i64.wrap (e+(i:Int))) d).2 with
  |false=>rfl
  |true=>
   rw[Bool.not_true,cond_false,aMg hF hE k (i+1) n _ (by omega) (by omega) (by simp;omega)]
   cases(eU e d (i+1) (l.drop (i+1))).2<;>simp
def aSk (l:List D.aAS):Nat:=(l.takeWhile fun n=> !n.Seen).length
theorem aWs {l:List D.aAS}{x:D.aAS}:aSk (l++[x])=bif l.any (fun n=>n.Seen) then aSk l else bif x.Seen then l.length else l.length+1:=by
 induction l with
 |nil=>cases hx:x.Seen<;>simp[aSk,hx]
 |cons y l ih=>
  unfold aSk at*
  cases hy:y.Seen with
  |true=>simp[hy]
  |false=>
   simp only[List.cons_append,List.takeWhile_cons,hy,Bool.not_false,if_true,List.length_cons,List.any_cons,Bool.false_or,ih]
   cases l.any (fun n=>n.Seen)<;>cases x.Seen<;>simp
theorem aMh {l:List D.aAS}{F:(Int×Int→Option Int)→Int×Int→Option Int}(hF:∀rec (k:Int) (i:Nat) (hi:i<l.length),F rec (k,(i:Int))=rec (bif l[i].Seen then(i:Int) else k,(i:Int)-1))(hE:∀rec k,F rec (k,-1)=some k):
  ∀(n m:Nat) (k:Int),n≤l.length→n<m→EV.bT m F (k,(n:Int)-1)=some (bif (l.take n).any (fun x=>x.Seen) then(aSk (l.take n):Int) else k)
 |0,m+1,k,_,_=>by rw[gU,show((0:Nat):Int)-1= -1 from rfl,hE];simp
 |n+1,m+1,k,h,hm=>by
  have hn:n<l.length:=by omega
  rw[gU,show((n+1:Nat):Int)-1=(n:Int) by omega,hF _ _ n hn,aMh hF hE n m _ (by omega) (by omega),List.take_add_one,List.getElem?_eq_getElem hn]
  simp only[Option.toList_some,List.any_append,aWs,List.any_cons,List.any_nil,Bool.or_false,List.length_take,Nat.min_eq_left (Nat.le_of_lt hn)]
  cases(l.take n).any (fun x=>x.Seen)<;>cases l[n].Seen<;>rfl
theorem bAl (l:List D.aAS):(vQ l:Int)=bif l.any (fun x=>x.Seen) then(aSk l:Int) else 0:=by
 unfold vQ aSk;cases l.any (fun n=>n.Seen)<;>rfl
theorem bAm {l:List D.aAS}(h:0<l.length):vQ l<l.length:=by
 unfold vQ
 cases hs:l.any (fun n=>n.Seen) with
 |false=>exact h
 |true=>
  obtain⟨x,hx,hp⟩:=List.any_eq_true.1 hs
  have:∀l:List D.aAS,x∈l→(l.takeWhile fun n=> !n.Seen).length<l.length:=by
   intro l
   induction l with
   |nil=>intro h;cases h
   |cons y l ih=>
    intro h
    cases hy:y.Seen with
    |true=>simp[hy]
    |false=>
     rcases List.mem_cons.1 h with rfl|h
     ·rw[hp] at hy;cases hy
     ·simpa[hy] using ih h
  exact this l hx
theorem bAn {e:Int}{d:List Int}{i:Nat}{l:List Int}(h:(eU e d i l).2=false):eU e d i l=([],false):=by
 cases l with
 |nil=>cases h
 |cons p l=>
  unfold eU at*
  cases hc:(fA p (IntKind.i64.wrap (e+(i:Int))) d).2&&(eU e d (i+1) l).2 with
  |true=>rw[hc] at h;cases h
  |false=>rfl
theorem bAo {s:D.Site}{i:Int}(hz:s.sz≤34359738300)(h:decide (aC s i<0)=false):bA s.Accounts (aC s i)=some (s.Accounts.getD (aC s i).toNat default)∧(s.Accounts.getD (aC s i).toNat default).sz≤34359738300∧(aC s i).toNat<s.Accounts.length:=by
 have hr:=kV (p:=fun a:D.aAF=>a.Id==i) (i:=0) (l:=s.Accounts) h
 have hi:(aC s i).toNat<s.Accounts.length:=by unfold aC;omega
 have h1:=xO (f:=D.aAF.sz) hi
 refine⟨oC (by unfold aC;omega) (by unfold aC;omega),?_,hi⟩
 simp only[D.Site.sz] at hz;omega
def nC (d:D.Device)(log:List D.aAC)(key:Int):D.Device×Bool:=bif !bE log||(!dX log d.Log||(decide (aQ log<d.Epoch)|| !bM key)) then(d,false) else({d with Log:=log,Key:=key,Epoch:=aQ log,Version:=0},true)
def aR (a:D.aAF)(h:Int):Int:=gP (fun c=>c.Handle==h) 0 a.Credentials
def fB (a:D.aAF)(k:Int):D.aAJ:=a.Credentials.getD k.toNat default
def mK (a:D.aAF)(h:Int):D.aAF×Bool:=bif !aY a||(decide (aR a h<0)||(fB a (aR a h)).Cut) then(a,false) else({a with Credentials:=a.Credentials.set (aR a h).toNat {fB a (aR a h) with Cut:=true}},true)
def fM (s:D.Site)(k:Int):D.aAF:=s.Accounts.getD k.toNat default
def jF (h:Int)(s:D.Site):D.Site:=bif decide (aC s 1≥0) then {s with Accounts:=s.Accounts.set (aC s 1).toNat (mK (fM s (aC s 1)) h).1} else s
def fG (s e:Int):Int:=aU s [233,e]
def lM (s:D.aAI)(l:List D.aAC):Int:=fG (aU s.Seed [311]) (aQ l)
def gM (w:D.World)(b:Int):D.World:=(aI w b 0).1
def Yg (w:D.World)(b t:Int):List D.aAC:=(gK (gM w b).aAE.Log 2 (aX (aO w t).Store) (aO (gM w b) b).Store).1
def lX (w:D.World)(b t:Int):D.World×Bool:=iE (gM w b) b 2 (aX (aO w t).Store) (lM (aO (gM w b) b).Store)
def N7 (w:D.World)(b t:Int):D.Device×Bool:=nC (aO (gM w b) b) (Yg w b t) (lM (aO (gM w b) b).Store (Yg w b t))
def N8 (w:D.World)(b t:Int):D.World:={(lX w b t).1 with Devices:=(lX w b t).1.Devices.set b.toNat (lL (N7 w b t).1 t true),Sites:=(lX w b t).1.Sites.map (jF t)}
def N9 (w:D.World)(b t:Int):D.World×Bool:=Rl (N8 w b t) b
def rH (w:D.World)(b t:Int):D.World×Bool:=bif (lX w b t).2&&((N7 w b t).2&&(N9 w b t).2) then(Iy (N9 w b t).1 4,true) else(w,false)
def jG (w:D.World)(b t:Int):D.World×Bool:=bif (aI w b 0).2==0&&(!dV w b&&(!(b==t)&&gF w t)) then rH w b t else(w,false)
theorem aFt (d:D.Device)(l:List D.aAC)(k:Int):(nC d l k).1.sz≤d.sz+l.length:=by
 unfold nC
 cases !bE l||(!dX l d.Log||(decide (aQ l<d.Epoch)|| !bM k)) with
 |true=>simp only[cond_true];omega
 |false=>simp only[cond_false,D.Device.sz];omega
theorem aSl (a:D.aAF)(h:Int):(mK a h).1.sz=a.sz:=by
 unfold mK
 cases !aY a||(decide (aR a h<0)||(fB a (aR a h)).Cut) with
 |true=>rfl
 |false=>simp only[cond_false,D.aAF.sz,List.length_set]
theorem aSm (h:Int)(s:D.Site):(jF h s).sz=s.sz:=by
 unfold jF
 cases hc:decide (aC s 1≥0) with
 |false=>rfl
 |true=>
  have h0:decide (aC s 1<0)=false:=by rw[decide_eq_true_iff] at hc;exact decide_eq_false (by omega)
  have hr:=kV h0
  have hi:(aC s 1).toNat<s.Accounts.length:=by unfold aC;omega
  have h1:=qP (f:=D.aAF.sz) (l:=s.Accounts) (i:=(aC s 1).toNat) (x:=(mK (fM s (aC s 1)) h).1) hi
  have h2:=aSl (fM s (aC s 1)) h
  have e:fM s (aC s 1)=s.Accounts[(aC s 1).toNat]:=by simp[fM,List.getD,List.getElem?_eq_getElem hi]
  rw[e] at h1 h2 ⊢
  simp only[cond_true,D.Site.sz,List.length_set];omega
theorem aQg (h:Int)(l:List D.Site):((l.map (jF h)).map D.Site.sz).sum=(l.map D.Site.sz).sum:=by
 induction l with
 |nil=>rfl
 |cons s l ih=>simp only[List.map_cons,List.sum_cons,aSm,ih]
theorem aWt {w:D.World}{b t:Int}(h0:((aI w b 0).2==0)=true):(aK (gM w b) b=true∧(gM w b).Devices.length=w.Devices.length∧(gM w b).aAE=w.aAE∧(gM w b).sz≤2*w.sz+20)∧(Yg w b t).length≤w.sz+1∧(aK (lX w b t).1 b=true∧(lX w b t).1.Devices=(gM w b).Devices)∧(lX w b t).1.sz≤16*w.sz+34∧(lX w b t).1.Sites=(gM w b).Sites:=by
 obtain⟨⟨k1,k2⟩,k3,k4,k5⟩:=lK h0
 have hL:w.aAE.Log.length≤w.sz:=by simp only[D.World.sz,D.aAE.sz];omega
 have hl:=qQ (gM w b).aAE.Log 2 (aX (aO w t).Store) (aO (gM w b) b).Store
 obtain⟨g1,g2,g3,g4⟩:=Ye (gM w b) b 2 (aX (aO w t).Store) (lM (aO (gM w b) b).Store)
 have hd0:aK (aI w b 0).1 b=true:=by simp only[aK] at*;rw[k4];exact k2
 have hd:aK (gM w b) b=true:=hd0
 have kc:(gM w b).aAE=w.aAE:=k3
 rw[kc] at g1 hl
 have k6:(gM w b).sz≤w.sz+w.aAE.Log.length+20:=k5
 refine⟨⟨hd,k4,k3,by omega⟩,by unfold Yg;rw[kc];omega,⟨?_,g3⟩,by unfold lX;omega,g4⟩
 have h:aK (iE (gM w b) b 2 (aX (aO w t).Store) (lM (aO (gM w b) b).Store)).1 b=true:=by simp only[aK] at*;rw[g3];exact hd
 exact h
--needs aAL aAK aAM
def iN (b:D.aAB)(id:Int):Int:=bI b.Seed [197,id]
def aDv (b:D.aAB)(acc now:Int):D.aAM:=⟨b.Next,acc,IntKind.i64.wrap (now+5)⟩
def iF (b:D.aAB)(acc now:Int):D.aAB×D.aAM×Bool:=bif eG b&&(!(b.Next==1000000)&&(bF acc 0 1000000&&bF now 0 1000000)) then(⟨b.Seed,IntKind.i64.wrap (b.Next+1),(bif decide ((b.Open.length:Int)≥16) then b.Open.drop 1 else b.Open)++[aDv b acc now]⟩,aDv b acc now,true) else(b,⟨0,0,0⟩,false)
def dG (b:D.aAB)(id:Int):Int:=gP (fun c=>c.Id==id) 0 b.Open
def aNz (b:D.aAB)(k:Int):D.aAM:=b.Open.getD k.toNat default
def rX (b:D.aAB)(id acc now:Int):D.aAB×Bool:=bif !eG b||decide (dG b id<0) then(b,false) else(⟨b.Seed,b.Next,b.Open.take (dG b id).toNat++b.Open.drop ((dG b id).toNat+1)⟩,(aNz b (dG b id)).aAF==acc&&decide (now≤(aNz b (dG b id)).Until))
def qR (s:D.Site)(id now:Int):D.Site×Int×Int×Bool:=bif cZ s&&(!decide (aC s id<0)&&(iF s.Book id now).2.2) then({s with Book:=(iF s.Book id now).1},(iF s.Book id now).2.1.Id,iN (iF s.Book id now).1 (iF s.Book id now).2.1.Id,true) else(s,0,0,false)
def rY (s:D.aAI):Bool:=bF s.Vendor 1 9&&(bF s.Serial 0 1000000&&(bM s.Seed&&bF s.Counter 0 1000000))
def bE5 (s:D.aAI):D.aAI:={s with Counter:=IntKind.i64.wrap (s.Counter+1)}
def fC (s:D.aAI)(site:ByteArray)(h:Int)(m:List Int):D.aAI×Int×Bool:=bif rY s&& !(s.Counter==1000000) then(bE5 s,Ri (eO s site h) (m++[(bE5 s).Counter]),true) else(s,0,false)
def bO (a:D.aAL):List Int:=[199,bU a.Site,vO 211 a.aAK,a.aAM,a.Handle,bif a.Present then 1 else 0]
def aFu (j:Int):D.aAK:=⟨true,⟨#[119,119,119,46]⟩++aA j,443⟩
def aFv (j:Int):D.aAK:=⟨true,⟨#[108,111,103,105,110,46]⟩++aA j++⟨#[46,101,118,105,108,46,110,101,116]⟩,443⟩
def bE6 (j:Int):D.aAK:=⟨true,aA j,443⟩
def pO (k:Nat):D.aAK:=match k with|0=>aFu 0|1=>aFu 1|2=>bE6 0|3=>bE6 1|4=>aFv 0|_=>aFv 1
def Ja (k:Nat):ByteArray:=⟨#[104,116,116,112,115,58,47,47]⟩++(pO k).Host
def bIc:List UInt8→List UInt8→Bool
 |[],b=>b==[]
 |x::a,b=>b==x::a||bIc a b
def rJ (o:D.aAK)(z:ByteArray):Bool:=bIc (46::o.Host.data.toList) (46::z.data.toList)
def Eu (o:D.aAK)(s:ByteArray):Prop:=(∃k:Nat,k<6∧o=pO k)∧∃j:Int,(j=0∨j=1)∧s=aA j
noncomputable instance (o:D.aAK) (s:ByteArray):Decidable (Eu o s):=Classical.propDecidable _
def jY (o:D.aAK):Prop:=∃k:Nat,k<6∧o=pO k
theorem jY.p {o:D.aAK}(h:jY o){j:Int}(hj:j=0∨j=1):Eu o (aA j):=⟨h,j,hj,rfl⟩
theorem bAp {j:Int}(hj:j=0∨j=1):jY (aFu j):=by
 rcases hj with rfl|rfl
 ·exact⟨0,by decide,rfl⟩
 ·exact⟨1,by decide,rfl⟩
noncomputable instance (o:D.aAK):Decidable (jY o):=Classical.propDecidable _
def mM (o:D.aAK):ByteArray:=⟨#[104,116,116,112,115,58,47,47]⟩++o.Host
def aWu (s:ByteArray):Prop:=s=⟨#[]⟩∨∃k:Nat,k<4∧s=Ja k
noncomputable instance (s:ByteArray):Decidable (aWu s):=Classical.propDecidable _
def vB (s:ByteArray):D.aAK×Bool:=bif decide (s.size=0) then(⟨false,⟨#[]⟩,0⟩,false) else(⟨true,s.extract 8 s.size,443⟩,true)
def O0 (s:D.aAI)(o:D.aAK)(site:ByteArray)(h ch:Int)(p:Bool):D.aAL:=⟨site,mM o,ch,h,p,0,0⟩
def bAq:D.aAL:=⟨⟨#[]⟩,⟨#[]⟩,0,0,false,0,0⟩
def iO (s:D.aAI)(o:D.aAK)(site:ByteArray)(h ch:Int)(p:Bool):D.aAI×D.aAL×Bool:=bif rJ o site&&(fC s site h (bO (O0 s o site h ch p))).2.2 then((fC s site h (bO (O0 s o site h ch p))).1,{O0 s o site h ch p with Counter:=(fC s site h (bO (O0 s o site h ch p))).1.Counter,Signature:=(fC s site h (bO (O0 s o site h ch p))).2.1},true) else(s,bAq,false)
def AsP (a:D.aAL)(site:ByteArray):Prop:=∃j:Int,(j=0∨j=1)∧site=aA j∧(a=bAq∨(a.Site=site∧∃k:Nat,k<4∧a.aAK=Ja k∧rJ (pO k) site=true))
noncomputable instance (a:D.aAL) (s:ByteArray):Decidable (AsP a s):=Classical.propDecidable _
def jZ (pub:Int)(a:D.aAL)(site:ByteArray)(ch cnt:Int):Int:=bif !(a.Site.toList==site.toList) then 1 else bif !a.Present then 2 else bif !(a.aAM==ch) then 3 else bif !lI pub (bO a++[a.Counter]) a.Signature then 5 else bif decide (a.Counter≤cnt) then 4 else 0
def lY (a:D.aAF)(x:D.aAL)(site:ByteArray)(ch:Int):D.aAF×Int:=bif !aY a||(decide (aR a x.Handle<0)||(fB a (aR a x.Handle)).Cut) then(a,5) else({a with Credentials:=bif jZ (fB a (aR a x.Handle)).Public x site ch (fB a (aR a x.Handle)).Counter==0 then a.Credentials.set (aR a x.Handle).toNat {fB a (aR a x.Handle) with Counter:=x.Counter} else bif jZ (fB a (aR a x.Handle)).Public x site ch (fB a (aR a x.Handle)).Counter==4 then a.Credentials.set (aR a x.Handle).toNat {fB a (aR a x.Handle) with Cut:=true} else a.Credentials},jZ (fB a (aR a x.Handle)).Public x site ch (fB a (aR a x.Handle)).Counter)
def xV (a:D.aAF)(m:Int):Bool:=aY a&&(decide (a.Minimum≤m)&&(decide (m≤3)&&(!(m==3)||a.Credentials.any fun c=> !c.Cut)))
def rM (s:D.Site)(id ch now:Int)(a:D.aAL):D.Site×Int×Int:=bif !cZ s||decide (aC s id<0) then(s,1,0) else bif !(rX s.Book ch id now).2 then({s with Book:=(rX s.Book ch id now).1},2,0) else bif !xV (fM s (aC s id)) 3 then({s with Book:=(rX s.Book ch id now).1},3,0) else bif !((lY (fM s (aC s id)) a s.Name (iN s.Book ch)).2==0) then({s with Book:=(rX s.Book ch id now).1,Accounts:=s.Accounts.set (aC s id).toNat (lY (fM s (aC s id)) a s.Name (iN s.Book ch)).1},4,(lY (fM s (aC s id)) a s.Name (iN s.Book ch)).2) else({s with Book:=(rX s.Book ch id now).1,Accounts:=s.Accounts.set (aC s id).toNat (lY (fM s (aC s id)) a s.Name (iN s.Book ch)).1,Logins:=s.Logins++[id]},0,0)
def lZ (w:D.World)(j:Int):D.Site:=w.Sites.getD j.toNat default
def sZ (w:D.World)(j:Int):D.Site×Int×Int×Bool:=qR (lZ w j) 1 w.Now
def aJa (w:D.World)(d j:Int)(o:D.aAK):D.aAI×D.aAL×Bool:=iO (aO w d).Store o (aA j) d (sZ w j).2.2.1 true
def aFw (w:D.World)(d j:Int)(o:D.aAK):D.Site×Int×Int:=rM (sZ w j).1 1 (sZ w j).2.1 w.Now (aJa w d j o).2.1
def aWv (w:D.World)(d j:Int)(o:D.aAK):D.World:={w with Devices:=w.Devices.set d.toNat {aO w d with Store:=(aJa w d j o).1},Sites:=w.Sites.set j.toNat (aFw w d j o).1}
def dU (w:D.World)(d j:Int):Bool:=aN w&&(aK w d&&gI w j)
def mD (w:D.World)(d j:Int)(o:D.aAK):D.World×D.aAL×Int:=bif !dU w d j then(w,bAq,1) else bif !(sZ w j).2.2.2 then(w,bAq,1) else bif !((aFw w d j o).2.1==0) then(aWv w d j o,(aJa w d j o).2.1,2) else(Iy (aWv w d j o) 1,(aJa w d j o).2.1,0)
def oJ (w:D.World)(d j:Int)(o:D.aAK):D.World×Int:=((mD w d j o).1,(mD w d j o).2.2)
def xW (w:D.World)(d j:Int):D.World×Int:=bif dU w d j&& !dV w d then oJ w d j (aFu j) else(w,1)
def nM (o:D.aAK):Bool:=jC o.Host&&bF o.Port 1 65535
def O1 (m:Int):Nat→Int→Int→Int→Int
 |0,_,_,s=>s
 |k+1,b,n,s=>if n>0 then O1 m k ((IntKind.i64.wrap (b*b)).tmod m) (n/2) (bif n%2==1 then(IntKind.i64.wrap (s*b)).tmod m else s) else s
def zS (x:Int):Bool:=bF x 1 2038&&O1 2039 11 x 1019 1==1
def mE (g n:Int):Int:=bif zS g then O1 2039 11 g (dI n 1019) 1 else 0
def Ny (l v:Int):Int:=mE 4 (IntKind.i64.wrap (1+((IntKind.i64.wrap (bI l [89,v]*bI l [89,v])).tmod 2147483647).tmod 1018))
def Oa (s l i:Int):Int:=mE (Ny l i) s
def uT (e l:Int):Int:=gQ (bI e [157,l])
def aFx (k m:Int):Int:=bif bF k 0 2147483647 then aOk .i64 k (aU m [251]) else 0
def Ed (o s:Int):Int:=bI o [257,s]
def vR (c:Int)(l:List Int)(n:Int):List D.aAQ:=bif bF n 1 7&&decide ((l.length:Int)<n) then(List.range n.toNat).map fun(i:Nat)=>⟨(i:Int)+1,Ir c l ((i:Int)+1)⟩ else[]
def Yh (k:D.aAT):D.aAA:=⟨k,[],pR k⟩
def aN0 (pin salt key secret limit:Int):Bool:=bF pin 0 9999&&(bF salt 0 1000000&&(bM key&&(!(dI secret 1019==0)&&bF limit 1 10)))
def Jb (pin salt key secret:Int)(cs:List Int)(n limit:Int):D.aAO×List D.aAA×Bool:=
 bif aN0 pin salt key secret limit&& !((vR secret cs n).length==0) then(⟨salt,IntKind.i64.wrap ((cs.length:Int)+1),Ed (uT (Oa secret salt pin) salt) salt,aFx key (uT (Oa secret salt pin) salt)⟩,(vR secret cs n).map (fun s=>Yh ⟨s,0,0,limit⟩),true) else(⟨0,0,0,0⟩,[],false)
def dW (log:List D.aAC)(bx:D.aAH):D.aAE×Bool:=bif bE log&&gL bx log then(⟨log,bx,[]⟩,true) else(⟨[],⟨0,[]⟩,[]⟩,false)
def oK (id:Int)(l:List D.aAF):Nat:=(l.takeWhile fun a=>decide (a.Id<id)).length
def mO (s:D.Site)(id m:Int):D.Site:={s with Accounts:=s.Accounts.take (oK id s.Accounts)++[⟨id,m,[]⟩]++s.Accounts.drop (oK id s.Accounts)}
def kW (s:D.Site)(id m:Int):D.Site×Bool:=bif cZ s&&cZ (mO s id m) then(mO s id m,true) else(s,false)
def rO (nm:ByteArray):Nat→List D.Device→D.Site→D.Site
 |_,[],s=>s
 |i,d::l,s=>rO nm (i+1) l (eP s 1 (i:Int) (dO d.Store nm (i:Int))).1
def Jc (seed:Int)(l:List D.Device)(j:Int):D.Site:=rO (aA j) 0 l (kW (eY (aA j) (aU seed [281,j])) 1 3).1
def vS (l:List D.Device)(seed:Int):List D.Site:=[Jc seed l 0,Jc seed l 1]
def aW (seed:Int):Nat→List D.aAC
 |0=>[]
 |n+1=>(gK (aW seed n) 1 (aX (aJ seed (n:Int))) (aJ seed 0)).1
def bQ (seed:Int)(n:Nat):List D.Device:=(List.range n).map fun(i:Nat)=>bJ (aJ seed (i:Int))
def Gg (nm:ByteArray):Nat→D.Device→D.Device
 |0,d=>d
 |i+1,d=>(bX (Gg nm i d) nm (i:Int) false).1
def jP (seed:Int)(n:Nat):D.aAH:=(bG (aW seed n) (fG seed 0) 1000).1
def uU (seed:Int)(n:Nat)(d:D.Device):D.Device:=(nC d (aW seed n) (fG seed 0)).1
def kL (seed:Int)(n:Nat):D.Device:=Gg (aA 1) n (Gg (aA 0) n (uU seed n (bJ (aJ seed 0))))
def nwW (seed:Int)(n:Nat):D.Device×D.aAD×Bool:=bW (kL seed n)
def iC (seed:Int)(n:Nat):D.aAE:=(dF (dW (aW seed n) (jP seed n)).1 (nwW seed n).2.1).1
def Ee (seed:Int)(n:Nat)(d:D.Device):D.Device:=(dJ (uU seed n d) (aW seed n) (jP seed n) (nwW seed n).2.1).1
def gN (seed:Int)(n:Nat):List D.Device:=(nwW seed n).1::((bQ seed n).drop 1).map (Ee seed n)
def O3 (seed t:Int):List Int:=(List.range (t-1).toNat).map fun(k:Nat)=>aU seed [307,(k:Int)+1]
def aDw (seed t pin k:Int):D.aAO×List D.aAA×Bool:=Jb pin 7 (aU seed [283]) (IntKind.i64.wrap (1+(aU seed [293]).tmod 1018)) (O3 seed t) k 5
def Yi (n k t pin seed:Int):Bool:=bF n 1 3&&(bF k 1 7&&(bF t 1 k&&(bF pin 0 9999&&bM seed)))
def bDo:D.World:=⟨0,0,[],[],⟨[],⟨0,[]⟩,[]⟩,[],⟨0,0,0,0⟩,[],0,⟨[]⟩⟩
def dH (n k t pin seed:Int):D.World:=bif Yi n k t pin seed then⟨0,seed,gN seed n.toNat,List.replicate n.toNat false,iC seed n.toNat,vS (bQ seed n.toNat) seed,(aDw seed t pin k).1,(aDw seed t pin k).2.1,pin,⟨[]⟩⟩ else bDo
theorem aSn {l:List Int}(h:l.Nodup)(e:D.aAC):(iB l e).Nodup:=by
 unfold iB
 cases e.Kind==1 with
 |true=>
  simp only[cond_true]
  cases hc:l.contains e.Device with
  |true=>exact h
  |false=>
   simp only[cond_false]
   rw[List.nodup_append]
   refine⟨h,by simp,fun a ha b hb e'=> ?_⟩
   simp at hb;subst hb;subst e'
   have:l.contains e.Device=true:=by simpa using ha
   rw[hc] at this;cases this
 |false=>
  simp only[cond_false]
  cases e.Kind==2 with
  |true=>exact h.filter _
  |false=>exact h
theorem aSo (log:List D.aAC):(aH log).Nodup:=by
 have key:∀(l:List D.aAC) (s:List Int),s.Nodup→(l.foldl iB s).Nodup:=by
  intro l
  induction l with
  |nil=>exact fun _ h=>h
  |cons e l ih=>exact fun s h=>ih _ (aSn h e)
 exact key log [] List.nodup_nil
theorem aQh {e:Int}{d:List Int}:∀{i:Nat} {l:List Int},(eU e d i l).2=true→(eU e d i l).1.map (fun b=>b.To)=l
 |_,[],_=>rfl
 |i,p::l,h=>by
  simp only[eU] at h ⊢
  cases hc:(fA p (IntKind.i64.wrap (e+(i:Int))) d).2&&(eU e d (i+1) l).2 with
  |false=>rw[hc] at h;cases h
  |true=>
   rw[Bool.and_eq_true] at hc
   simp only[cond_true,List.map_cons,aQh hc.2]
   have:(fA p (IntKind.i64.wrap (e+(i:Int))) d).1.To=p:=by
    have h1:=hc.1
    unfold fA at h1 ⊢
    cases hq:gG p==0||(!bM (IntKind.i64.wrap (e+(i:Int)))||decide ((d.length:Int)>200)) with
    |true=>rw[hq] at h1;cases h1
    |false=>rfl
   rw[this]
theorem aMi:∀{l:List D.Box} {d:Int} {s:Int},(l.map fun b=>b.To).Nodup→0≤s→s<1000→l.foldl (fun n b=>bif b.To==d then IntKind.i64.wrap (n+1) else n) s=s+(if d∈l.map (fun b=>b.To) then 1 else 0)
 |[],d,s,_,_,_=>by simp
 |b::l,d,s,h,h0,h1=>by
  rw[List.map_cons,List.nodup_cons] at h
  rw[List.foldl_cons]
  cases hc:b.To==d with
  |true=>
   have hd:b.To=d:=by simpa using hc
   have hn:d∉l.map (fun b=>b.To):=hd▸h.1
   have hw:IntKind.i64.wrap (s+1)=s+1:=aG (by omega) (by omega)
   have key:∀(l:List D.Box) (s:Int),d∉l.map (fun b=>b.To)→l.foldl (fun n b=>bif b.To==d then IntKind.i64.wrap (n+1) else n) s=s:=by
    intro l
    induction l with
    |nil=>exact fun _ _=>rfl
    |cons x l ih=>
     intro s hx
     simp only[List.map_cons,List.mem_cons,not_or] at hx
     have:(x.To==d)=false:=by simpa using fun e=>hx.1 e.symm
     rw[List.foldl_cons,this,cond_false]
     exact ih s hx.2
   rw[cond_true,key l _ hn,hw,List.map_cons,if_pos (by simp[hd])]
  |false=>
   have hd:¬b.To=d:=by simpa using hc
   rw[cond_false,aMi h.2 h0 h1,List.map_cons]
   have:(d∈b.To::l.map fun b=>b.To)↔d∈l.map fun b=>b.To:=by rw[List.mem_cons];exact⟨fun h=>h.resolve_left fun e=>hd e.symm, .inr⟩
   simp only[this]
theorem aJb {log:List D.aAC}{k e:Int}(h:(bG log k e).2=true):gL (bG log k e).1 log=true:=by
 unfold bG at h ⊢
 cases hc: !bE log||(!bM k|| !(eU e (jX [aQ log,k]) 0 (aH log)).2) with
 |true=>rw[hc] at h;cases h
 |false=>
  simp only[Bool.or_eq_false_iff,Bool.not_eq_false'] at hc
  have ht:=aQh hc.2.2
  have hl:=congrArg List.length ht
  rw[List.length_map] at hl
  simp only[cond_false,gL,oH,Bool.and_eq_true,beq_iff_eq,List.all_eq_true,hl,and_self,true_and,beq_self_eq_true]
  intro d hd
  rw[aMi (by rw[ht];exact aSo log) (by omega) (by omega),ht,if_pos hd];rfl
theorem aWw {log:List D.aAC}{k e:Int}(h:(bG log k e).2=false):(bG log k e).1=⟨0,[]⟩:=by
 unfold bG at h ⊢
 cases hc: !bE log||(!bM k|| !(eU e (jX [aQ log,k]) 0 (aH log)).2) with
 |true=>rfl
 |false=>rw[hc] at h;cases h
theorem aMj {d:D.Device}{log:List D.aAC}{bx:D.aAH}{s:D.aAD}(h:(mX d log bx s==0)=false):(dJ d log bx s).1=d:=by
 unfold dJ;rw[h];rfl
theorem bAr (d:D.Device)(bx:D.aAH)(s:D.aAD):(dJ d [] bx s).1=d:=aMj rfl
theorem bGv (s:D.aAI):(cO s ⟨0,[]⟩).2=false:=rfl
theorem aSp {log:List D.aAC}{key e:Int}{s:D.aAD}(hs:s=⟨0,0,[],0⟩∨s.Epoch=aQ log)(d:D.Device):
  (dJ d (dF (dW log (bG log key e).1).1 s).1.Log (dF (dW log (bG log key e).1).1 s).1.Boxes (gH (dF (dW log (bG log key e).1).1 s).1 0).1).1=(dJ d log (bG log key e).1 s).1:=by
 cases hc:bE log&&gL (bG log key e).1 log with
 |true=>
  have e1:(dW log (bG log key e).1).1=⟨log,(bG log key e).1,[]⟩:=by unfold dW;rw[hc];rfl
  rw[e1]
  cases hq:s.Epoch !=aQ log with
  |true=>
   have hs':s=⟨0,0,[],0⟩:=by
    rcases hs with h|h
    ·exact h
    ·rw[h] at hq;simp at hq
   have e2:(dF ⟨log,(bG log key e).1,[]⟩ s).1=⟨log,(bG log key e).1,[]⟩:=by
    unfold dF;rw[show(D.aAE.mk log (bG log key e).1 []).Log=log from rfl,hq];rfl
   rw[e2,hs'];rfl
  |false=>
   have e2:(dF ⟨log,(bG log key e).1,[]⟩ s).1=⟨log,(bG log key e).1,[s]⟩:=by
    unfold dF;rw[show(D.aAE.mk log (bG log key e).1 []).Log=log from rfl,hq];rfl
   rw[e2];rfl
 |false=>
  have e1:(dW log (bG log key e).1).1=⟨[],⟨0,[]⟩,[]⟩:=by unfold dW;rw[hc];rfl
  have e2:(dF (dW log (bG log key e).1).1 s).1.Log=[]:=by rw[(qO _ _).2,e1]
  rw[e2,bAr]
  refine(aMj ?_).symm
  cases hl:bE log with
  |false=>simp only[mX,hl,Bool.not_false,Bool.true_or,cond_true];rfl
  |true=>
   rw[hl,Bool.true_and] at hc
   have hm:(bG log key e).2=false:=by
    cases hm:(bG log key e).2 with
    |false=>rfl
    |true=>rw[aJb hm] at hc;cases hc
   rw[aWw hm]
   simp only[mX,hl,bGv,Bool.not_true,Bool.false_or,Bool.not_false,Bool.or_true,cond_true]
   cases !dX log d.Log with
   |true=>rfl
   |false=>
    simp only[cond_false]
    cases !iZ (aH log) (aX d.Store)<;>rfl
theorem Yj (nm:ByteArray):∀(i:Nat) (d:D.Device),(Gg nm i d).sz≤d.sz+i
 |0,d=>Nat.le_refl _
 |i+1,d=>by have h1:=Yj nm i d;have h2:=Aq (Gg nm i d) nm (i:Int) false;show(bX (Gg nm i d) nm (i:Int) false).1.sz≤_;omega
theorem nD (seed:Int):∀n:Nat,(aW seed n).length≤n
 |0=>Nat.le_refl _
 |n+1=>by have h1:=nD seed n;have h2:=qQ (aW seed n) 1 (aX (aJ seed (n:Int))) (aJ seed 0);show(gK (aW seed n) 1 (aX (aJ seed (n:Int))) (aJ seed 0)).1.length≤_;omega
theorem aDx (seed:Int)(n:Nat)(d:D.Device):(uU seed n d).sz≤d.sz+n:=by
 have h1:=aFt d (aW seed n) (fG seed 0);have h2:=nD seed n;show(nC d (aW seed n) (fG seed 0)).1.sz≤_;omega
theorem O4 (s:D.aAI):(bJ s).sz=0:=rfl
theorem aFz (seed:Int)(n:Nat):(kL seed n).sz≤3*n:=by
 have h1:=Yj (aA 1) n (Gg (aA 0) n (uU seed n (bJ (aJ seed 0))))
 have h2:=Yj (aA 0) n (uU seed n (bJ (aJ seed 0)))
 have h3:=aDx seed n (bJ (aJ seed 0))
 rw[O4] at h3
 unfold kL;omega
theorem aF0 (seed:Int)(n:Nat):(jP seed n).sz≤13*n:=by
 have h1:=Nw (aW seed n) (fG seed 0) 1000;have h2:=nD seed n;unfold jP;omega
theorem aBl (log:List D.aAC)(bx:D.aAH):(dW log bx).1.sz≤log.length+bx.sz:=by
 unfold dW
 cases bE log&&gL bx log with
 |true=>simp only[cond_true,D.aAE.sz,D.aAH.sz,List.length_nil,List.map_nil,List.sum_nil];omega
 |false=>exact Nat.zero_le _
theorem aF1 (seed:Int)(n:Nat):(iC seed n).sz≤14*n+501:=by
 have h1:=(qO (dW (aW seed n) (jP seed n)).1 (nwW seed n).2.1).1
 have h2:=aBl (aW seed n) (jP seed n)
 have h3:=aF0 seed n
 have h4:=nD seed n
 have h5:=(uZ (kL seed n)).2
 have h5:(nwW seed n).2.1.Data.length≤500:=h5
 unfold iC;omega
theorem aWx (seed:Int)(n:Nat)(d:D.Device):(Ee seed n d).sz≤d.sz+2*n+20:=by
 have h1:=aFr (uU seed n d) (aW seed n) (jP seed n) (nwW seed n).2.1
 have h2:=aDx seed n d
 have h3:=nD seed n
 unfold Ee;omega
theorem aSq {α:Type}{f:α→Nat}{b:Nat}:∀{l:List α},(∀x∈l,f x≤b)→(l.map f).sum≤l.length*b
 |[],_=>Nat.zero_le _
 |x::l,h=>by
  have h1:=h x (by simp);have h2:=aSq (l:=l) (f:=f) (b:=b) fun y hy=>h y (by simp[hy])
  simp only[List.map_cons,List.sum_cons,List.length_cons,Nat.add_mul];omega
theorem Tw (nm:ByteArray):∀(i:Nat) (l:List D.Device) (s:D.Site),(rO nm i l s).sz≤s.sz+l.length
 |_,[],s=>Nat.le_refl _
 |i,d::l,s=>by
  have h1:=Tw nm (i+1) l (eP s 1 (i:Int) (dO d.Store nm (i:Int))).1
  have h2:=aMb s 1 (i:Int) (dO d.Store nm (i:Int))
  show(rO nm (i+1) l (eP s 1 (i:Int) (dO d.Store nm (i:Int))).1).sz≤_
  rw[List.length_cons];omega
theorem aF2 (s:D.Site)(id m:Int):(kW s id m).1.sz≤s.sz+1:=by
 unfold kW
 cases cZ s&&cZ (mO s id m) with
 |false=>simp only[cond_false];omega
 |true=>
  have e:(s.Accounts.map D.aAF.sz).sum=((s.Accounts.take (oK id s.Accounts)).map D.aAF.sz).sum+((s.Accounts.drop (oK id s.Accounts)).map D.aAF.sz).sum:=by rw[←List.sum_append,←List.map_append,List.take_append_drop]
  have el:(s.Accounts.take (oK id s.Accounts)).length+(s.Accounts.drop (oK id s.Accounts)).length=s.Accounts.length:=by rw[←List.length_append,List.take_append_drop]
  simp only[cond_true,mO,D.Site.sz,List.length_append,List.map_append,List.sum_append,List.length_cons,List.length_nil,List.map_cons,List.map_nil,List.sum_cons,List.sum_nil,D.aAF.sz]
  omega
theorem aBm (nm:ByteArray)(s:Int):(eY nm s).sz≤nm.size:=by
 unfold eY
 cases mW nm s with
 |true=>simp[D.Site.sz]
 |false=>exact Nat.zero_le _
theorem aBn (seed:Int)(l:List D.Device)(j:Int):(Jc seed l j).sz≤l.length+101:=by
 have h1:=Tw (aA j) 0 l (kW (eY (aA j) (aU seed [281,j])) 1 3).1
 have h2:=aF2 (eY (aA j) (aU seed [281,j])) 1 3
 have h3:=aBm (aA j) (aU seed [281,j])
 have h4:(aA j).size≤100:=by unfold aA;cases j==0<;>cases j==1<;>decide
 unfold Jc;omega
theorem aMk (c:Int)(l:List Int)(n:Int):(vR c l n).length≤7:=by
 unfold vR
 cases hc:bF n 1 7&&decide ((l.length:Int)<n) with
 |false=>exact Nat.zero_le _
 |true=>
  rw[Bool.and_eq_true] at hc
  have:=kJ hc.1
  simp only[cond_true,List.length_map,List.length_range];omega
theorem Yk (pin salt key secret:Int)(cs:List Int)(n limit:Int):(Jb pin salt key secret cs n limit).2.1.length≤7∧((Jb pin salt key secret cs n limit).2.1.map D.aAA.sz).sum=0:=by
 unfold Jb
 cases aN0 pin salt key secret limit&& !((vR secret cs n).length==0) with
 |false=>exact⟨Nat.zero_le _,rfl⟩
 |true=>
  refine⟨by simp only[cond_true,List.length_map];exact aMk _ _ _,?_⟩
  have:=aSq (f:=D.aAA.sz) (b:=0) (l:=(vR secret cs n).map fun s=>Yh ⟨s,0,0,limit⟩) (fun x hx=>by obtain⟨s,_,rfl⟩:=List.mem_map.1 hx;exact Nat.le_refl _)
  simp only[cond_true];omega
theorem aBo (n k t pin seed:Int):(dH n k t pin seed).sz≤100000:=by
 unfold dH
 cases hc:Yi n k t pin seed with
 |false=>exact Nat.zero_le _
 |true=>
  simp only[Yi,Bool.and_eq_true] at hc
  have hn:=kJ hc.1
  obtain⟨N,hN⟩:∃N,N=n.toNat:=⟨_,rfl⟩
  have hN3:N≤3:=by omega
  have h1:=uZ (kL seed N)
  have h2:=aFz seed N
  have h3:=aF1 seed N
  have h4:=aBn seed (bQ seed N) 0
  have h5:=aBn seed (bQ seed N) 1
  have h6:=Yk pin 7 (aU seed [283]) (IntKind.i64.wrap (1+(aU seed [293]).tmod 1018)) (O3 seed t) k 5
  have h7:(bQ seed N).length=N:=by simp[bQ]
  have h8:=aSq (f:=D.Device.sz) (b:=26) (l:=((bQ seed N).drop 1).map (Ee seed N)) (fun x hx=>by
   obtain⟨d,hd,rfl⟩:=List.mem_map.1 hx
   have hd':=List.mem_of_mem_drop hd
   simp only[bQ,List.mem_map] at hd'
   obtain⟨i,_,rfl⟩:=hd'
   have:=aWx seed N (bJ (aJ seed (i:Int)))
   rw[O4] at this;omega)
  have h9:(nwW seed N).1.sz=(kL seed N).sz:=h1.1
  have h6':(aDw seed t pin k).2.1.length≤7∧((aDw seed t pin k).2.1.map D.aAA.sz).sum=0:=h6
  rw[List.length_map,List.length_drop,h7] at h8
  simp only[cond_true,←hN,D.World.sz,gN,vS,List.length_cons,List.length_map,List.length_drop,h7,List.map_cons,List.sum_cons,List.length_nil,List.map_nil,List.sum_nil,List.length_replicate,h9]
  have h10:(iC seed N).sz≤14*N+501:=h3
  have h11:(N-1)*26≤52:=Nat.mul_le_mul_right 26 (show N-1≤2 by omega)
  simp only[D.aAE.sz,D.aAH.sz] at h10
  omega
theorem aWy (d:D.Device)(n:ByteArray)(h:Int)(rm:Bool):(bX d n h rm).1.Key=d.Key∧(bX d n h rm).1.Epoch=d.Epoch:=by
 unfold bX
 cases(rG d n h rm).2<;>exact⟨rfl,rfl⟩
theorem aN1 (nm:ByteArray):∀(i:Nat) (d:D.Device),(Gg nm i d).Key=d.Key∧(Gg nm i d).Epoch=d.Epoch
 |0,d=>⟨rfl,rfl⟩
 |i+1,d=>by
  obtain⟨h1,h2⟩:=aN1 nm i d;obtain⟨h3,h4⟩:=aWy (Gg nm i d) nm (i:Int) false
  exact⟨h3.trans h1,h4.trans h2⟩
theorem aSr (seed:Int)(n:Nat):(kL seed n).Key=(uU seed n (bJ (aJ seed 0))).Key∧(kL seed n).Epoch=(uU seed n (bJ (aJ seed 0))).Epoch:=by
 obtain⟨h1,h2⟩:=aN1 (aA 1) n (Gg (aA 0) n (uU seed n (bJ (aJ seed 0))))
 obtain⟨h3,h4⟩:=aN1 (aA 0) n (uU seed n (bJ (aJ seed 0)))
 exact⟨h1.trans h3,h2.trans h4⟩
theorem aSs {seed:Int}{n:Nat}(h:bM (uU seed n (bJ (aJ seed 0))).Key=true):(uU seed n (bJ (aJ seed 0))).Epoch=aQ (aW seed n):=by
 unfold uU nC at h ⊢
 cases hq: !bE (aW seed n)||(!dX (aW seed n) (bJ (aJ seed 0)).Log||(decide (aQ (aW seed n)<(bJ (aJ seed 0)).Epoch)|| !bM (fG seed 0))) with
 |true=>rw[hq] at h;exact absurd (show bM 0=true from h) (by decide)
 |false=>rfl
theorem aWz (seed:Int)(n:Nat):(nwW seed n).2.1=⟨0,0,[],0⟩∨(nwW seed n).2.1.Epoch=aQ (aW seed n):=by
 obtain⟨k1,k2⟩:=aSr seed n
 unfold nwW bW
 generalize kL seed n=d at k1 k2 ⊢
 cases hs:(Au d.Key d.Epoch (IntKind.i64.wrap (d.Version+1)) d.aAG).2 with
 |false=>exact .inl rfl
 |true=>
  refine .inr ?_
  simp only[cond_true]
  unfold Au at hs ⊢
  cases hc:bM d.Key&&(bF d.Epoch 0 1000000&&bF (IntKind.i64.wrap (d.Version+1)) 0 1000000)&&aT d.aAG with
  |false=>rw[hc] at hs;cases hs
  |true=>
   simp only[Bool.and_eq_true] at hc
   show d.Epoch=_
   rw[k2]
   exact aSs (k1▸hc.1.1)
theorem bDp (seed:Int)(n:Nat)(d:D.Device):(dJ (uU seed n d) (iC seed n).Log (iC seed n).Boxes (gH (iC seed n) 0).1).1=Ee seed n d:=aSp (aWz seed n) (uU seed n d)
def aJc (f:Int→Int)(l:List Int)(j:Nat)(x:Int):Bool:=(l.take j).any fun q=>f q==f x
def Yl (s:D.aAQ)(e:Int):Int:=bif zS e&&(!(e==1)&&bF s.Value 0 1018) then mE e s.Value else 0
def lT (k:D.aAT)(e:Int):D.aAT×Int×Bool:=bif lJ k&&(!(k.Guesses==k.Limit)&&(zS e&& !(e==1))) then({k with Guesses:=IntKind.i64.wrap (k.Guesses+1)},Yl k.aAQ e,true) else(k,0,false)
def bGw (l:List D.aAT):List D.aAT:=bif decide ((l.length:Int)>30) then l.drop 1 else l
def Rm (h:D.aAA)(e:Int):D.aAA×Int×Bool:=bif decide (pR h.State<h.Monotonic)|| !(lT h.State e).2.2 then(h,0,false) else(⟨(lT h.State e).1,bGw (h.Saved++[h.State]),pR (lT h.State e).1⟩,(lT h.State e).2.1,true)
def vT (l i b:Int):Int:=bif dI b 1019==0 then 0 else mE (Ny l i) b
def O5 (hs:List D.aAA)(ch:List Int)(i:Nat)(c:Int):Bool:=(decide (c<0)||decide (c≥(hs.length:Int)))||aJc (fun q=>q) ch i c
def jQ (hs:List D.aAA)(ch:List Int):Bool:= !gB (O5 hs ch) 0 ch
def aW0 (e:Int)(s:List D.aAA×List Int×List Int)(c:Int):List D.aAA×List Int×List Int:=
 (s.1.set c.toNat (Rm (s.1.getD c.toNat default) e).1,bif (Rm (s.1.getD c.toNat default) e).2.2 then s.2.1++[(Rm (s.1.getD c.toNat default) e).1.State.aAQ.Index] else s.2.1,bif (Rm (s.1.getD c.toNat default) e).2.2 then s.2.2++[(Rm (s.1.getD c.toNat default) e).2.1] else s.2.2)
def mY (hs:List D.aAA)(ch:List Int)(e:Int):List D.aAA×List Int×List Int:=ch.foldl (aW0 e) (hs,[],[])
def Ew (n:Int):Int:=bif dI n 1019==0 then 0 else O1 1019 11 (dI n 1019) 1017 1
def bDq (l:List Int)(k a w:Int)(j:Nat):Int:=bif (j:Int)==k then w else(IntKind.i64.wrap ((IntKind.i64.wrap (w*dI (IntKind.i64.wrap (dI a 1019-dI (l.getD j 0) 1019)) 1019)).tmod 1019*Ew (IntKind.i64.wrap (dI (l.getD k.toNat 0) 1019-dI (l.getD j 0) 1019)))).tmod 1019
def aW1 (l:List Int)(k a:Int):Int:=bif (decide (k<0)||decide (k≥(l.length:Int)))||gB (aJc (fun q=>dI q 1019) l) 0 l then 0 else(List.range l.length).foldl (bDq l k a) 1
def O6 (a b:Int):Int:=bif zS a&&zS b then(IntKind.i64.wrap (a*b)).tmod 2039 else 0
def aDy (ix vs:List Int)(i:Nat)(x:Int):Bool:= !bF x 1 7||(!zS (vs.getD i 0)||aJc (fun q=>q) ix i x)
def bAs (ix vs:List Int):Int:=(List.range vs.length).foldl (fun o i=>O6 o (mE (vs.getD i 0) (aW1 ix (i:Int) 0))) 1
def aBp (ix vs:List Int):Int×Bool:=bif (!(ix.length==vs.length)||ix.length==0)||gB (aDy ix vs) 0 ix then(0,false) else(bAs ix vs,true)
def aQi (c b:Int):Int:=bif dI b 1019==0 then 0 else mE c (Ew b)
def aF3 (v:D.aAO)(o:Int):Int×Bool:=bif Ed o v.Salt==v.Check then(aFx v.Masked o,true) else(0,false)
def vU (v:D.aAO)(hs:List D.aAA)(ch:List Int)(pin b:Int):List D.aAA×List Int×List Int:=mY hs ch (vT v.Salt pin b)
def bDr (hs:List D.aAA)(ch:List Int)(pin b:Int):Bool:=jQ hs ch&&(!(dI b 1019==0)&&bF pin 0 9999)
def Jd (v:D.aAO)(hs:List D.aAA)(ch:List Int)(pin b:Int):List D.aAA×Int×Bool:=
 bif !bDr hs ch pin b then(hs,0,false) else
 bif decide ((ch.length:Int)<v.Threshold)||(decide ((vU v hs ch pin b).2.2.length<ch.length)|| !(aBp (vU v hs ch pin b).2.1 (vU v hs ch pin b).2.2).2) then((vU v hs ch pin b).1,0,false) else
  ((vU v hs ch pin b).1,aF3 v (uT (aQi (aBp (vU v hs ch pin b).2.1 (vU v hs ch pin b).2.2).1 b) v.Salt))
def aQj (w:D.World):Int:=IntKind.i64.wrap (1+(aU w.Seed [313,w.Now]).tmod 1018)
def fV (w:D.World)(ch:List Int)(pin:Int):D.World×Int×Bool:=bif !aN w then(w,0,false) else
 (Iy {w with Hosts:=(Jd w.aAO w.Hosts ch pin (aQj w)).1} 5,(Jd w.aAO w.Hosts ch pin (aQj w)).2)
def zT (w:D.World):List Int:=(List.range (min w.aAO.Threshold ((w.Hosts.length:Int)+1)).toNat).map fun(i:Nat)=>(i:Int)
def uV (w:D.World)(pin:Int):D.World×Bool:=((fV w (zT w) pin).1,(fV w (zT w) pin).2.2)
theorem aF4 {f:Int→Int}{l:List Int}{j:Nat}(hj:j<l.length)(hl:l.length≤1099511627776){τ:Type}(a b:τ){F:(Nat→Option τ)→Nat→Option τ}
  (hF:∀rec i (hi:i<j),F rec i=bif f (l[i]'(by omega))==f l[j] then some a else rec (i+1)) (hE:∀rec,F rec j=some b):EV.bT FUEL F 0=some (bif aJc f l j l[j] then a else b):=by
 have hlen:(l.take j).length=j:=by rw[List.length_take];omega
 exact mU (l:=l.take j) (fun q=>f q==f l[j]) a b (by omega) (fun rec i hi=>by
  rw[hlen] at hi
  rw[hF rec i hi];simp) (fun rec=>by rw[hlen];exact hE rec)
theorem bAt {p:Nat→Int→Bool}{l:List Int}{i:Nat}(hi:i<l.length)(h:gB p 0 (l.take i)=false)(h2:p i l[i]=false):gB p 0 (l.take (i+1))=false:=by
 rw[Bool.eq_false_iff,Ne,Ip] at h ⊢
 rintro⟨k,hk,e⟩
 rw[List.length_take] at hk
 rw[Nat.zero_add,List.getElem_take] at e
 by_cases hki:k<i
 ·exact h ⟨k,by rw[List.length_take];omega,by rw[Nat.zero_add,List.getElem_take];exact e⟩
 ·have:k=i:=by omega
  subst this
  rw[h2] at e;cases e
theorem bGx {p:Nat→Int→Bool}{l:List Int}{i:Nat}(hi:i<l.length)(h:p i l[i]=true):gB p 0 l=true:=(Ip l 0).2 ⟨i,hi,by rw[Nat.zero_add];exact h⟩
theorem bDs:((List.range 1019).all fun(x:Nat)=>x==0||((x:Int)*O1 1019 11 (x:Int) 1017 1)%1019==1&&bF (O1 1019 11 (x:Int) 1017 1) 1 1018)=true:=by kernel_rfl
theorem bGy {x:Int}(h0:0<x)(h1:x<1019):(x*O1 1019 11 x 1017 1)%1019=1∧1≤O1 1019 11 x 1017 1∧O1 1019 11 x 1017 1≤1018:=by
 have:=List.all_eq_true.1 bDs x.toNat (List.mem_range.2 (by omega))
 rw[show((x.toNat:Nat):Int)=x by omega,beq_eq_false_iff_ne.2 (show x.toNat≠0 by omega),Bool.false_or,Bool.and_eq_true] at this
 have hr:=kJ this.2
 exact⟨eq_of_beq this.1,hr.1,by omega⟩
theorem bAu {x m n:Int}(hm:0≤m∧m<1019)(hn:0≤n∧n<1019)(h1:(x*m)%1019=1)(h2:(x*n)%1019=1):m=n:=by
 have e:n*(x*m)=m*(x*n):=by rw[←Int.mul_assoc,←Int.mul_assoc,Int.mul_comm n x,Int.mul_comm m x,Int.mul_assoc,Int.mul_assoc,Int.mul_comm n m]
 have a1:x*m=1+1019*(x*m/1019):=by omega
 have a2:x*n=1+1019*(x*n/1019):=by omega
 rw[a1,a2,Int.mul_add,Int.mul_add,Int.mul_one,Int.mul_one] at e
 have b1:n*(1019*(x*m/1019))=1019*(n*(x*m/1019)):=by rw[←Int.mul_assoc,Int.mul_comm n 1019,Int.mul_assoc]
 have b2:m*(1019*(x*n/1019))=1019*(m*(x*n/1019)):=by rw[←Int.mul_assoc,Int.mul_comm m 1019,Int.mul_assoc]
 rw[b1,b2] at e
 generalize n*(x*m/1019)=p at e
 generalize m*(x*n/1019)=q at e
 omega
theorem bAv {n:Int}:dI n 1019=n%1019:=if_pos (by decide)
theorem aW2 {n m:Int}(h:dI n 1019=dI m 1019):Ew n=Ew m:=by unfold Ew;rw[h]
theorem aUu (h:D.aAA)(e:Int):(Rm h e).1.sz≤h.sz+1:=by
 unfold Rm
 cases decide (pR h.State<h.Monotonic)|| !(lT h.State e).2.2 with
 |true=>exact Nat.le_succ _
 |false=>
  simp only[cond_false,D.aAA.sz]
  unfold bGw
  cases decide (((h.Saved++[h.State]).length:Int)>30)<;>simp only[cond_true,cond_false,List.length_drop,List.length_append,List.length_cons,List.length_nil]<;>omega
def xX (e:Int)(hs:List D.aAA)(ch:List Int)(i:Nat):List D.aAA×List Int×List Int:=(ch.take i).foldl (aW0 e) (hs,[],[])
theorem Tx {e:Int}{hs:List D.aAA}{ch:List Int}{i:Nat}(hi:i<ch.length):xX e hs ch (i+1)=aW0 e (xX e hs ch i) ch[i]:=by
 unfold xX
 rw[List.take_add_one,List.getElem?_eq_getElem hi,List.foldl_append];rfl
theorem bGz {hs:List D.aAA}{h:D.aAA}(hm:h∈hs):h.sz≤Nv D.aAA.sz hs:=by
 have:=M6 (g:=D.aAA.sz) hm
 unfold Nv;omega
structure AskIn (B:Nat) (hs:List D.aAA) (i:Nat) (s:List D.aAA×List Int×List Int):Prop where
 len:s.1.length=hs.length
 sz:∀h∈s.1,h.sz≤B+i
 eq:s.2.1.length=s.2.2.length
 le:s.2.2.length≤i
theorem O7 {hs:List D.aAA}{ch:List Int}(h:jQ hs ch=true){i:Nat}(hi:i<ch.length):0≤ch[i]∧ch[i]<(hs.length:Int):=by
 unfold jQ at h
 rw[Bool.not_eq_true',Bool.eq_false_iff,Ne,Ip] at h
 have h2:O5 hs ch i ch[i]≠true:=fun e=>h ⟨i,hi,by rw[Nat.zero_add];exact e⟩
 have h2:=Bool.eq_false_iff.2 h2
 unfold O5 at h2
 exact Iq (Bool.or_eq_false_iff.1 h2).1
theorem aF5 {e:Int}{hs:List D.aAA}{ch:List Int}(h:jQ hs ch=true):∀i,i≤ch.length→AskIn (Nv D.aAA.sz hs) hs i (xX e hs ch i)
 |0,_=>⟨rfl,fun h hm=>by have:h∈hs:=hm;have:=bGz this;omega,rfl,Nat.le_refl _⟩
 |i+1,hi=>by
  obtain⟨h1,h2,h3,h4⟩:=aF5 (e:=e) h i (by omega)
  have hc:=O7 h (i:=i) hi
  rw[Tx hi]
  generalize xX e hs ch i=s at*
  have hk:ch[i].toNat<s.1.length:=by omega
  have hg:s.1.getD ch[i].toNat default=s.1[ch[i].toNat]:=by simp[List.getD,List.getElem?_eq_getElem hk]
  have hz:=h2 _ (List.getElem_mem hk)
  have ha:=aUu s.1[ch[i].toNat] e
  unfold aW0
  rw[hg]
  refine⟨by simp[h1],fun x hx=> ?_,?_,?_⟩
  ·rcases List.mem_or_eq_of_mem_set hx with hx|rfl
   ·have:=h2 x hx;omega
   ·omega
  ·cases(Rm s.1[ch[i].toNat] e).2.2<;>simp[h3]
  ·cases(Rm s.1[ch[i].toNat] e).2.2<;>simp<;>omega
theorem aF6 (w:D.World):(zT w).length≤w.Hosts.length+1:=by
 unfold zT
 rw[List.length_map,List.length_range];omega
theorem aQk {α:Type}[Inhabited α]{f:α→Nat}{x:α}:∀{l:List α} {i:Nat},i<l.length→f x≤f (l.getD i default)+1→((l.set i x).map f).sum≤(l.map f).sum+1
 |y::l,0,_,h=>by
  simp only[List.getD,List.getElem?_cons_zero,Option.getD_some] at h
  simp only[List.set_cons_zero,List.map_cons,List.sum_cons];omega
 |y::l,i+1,hi,h=>by
  have:=aQk (f:=f) (l:=l) (i:=i) (x:=x) (by simpa using hi) (by simpa[List.getD] using h)
  simp only[List.set_cons_succ,List.map_cons,List.sum_cons];omega
theorem aUv {e:Int}{hs:List D.aAA}{ch:List Int}(h:jQ hs ch=true):∀i,i≤ch.length→((xX e hs ch i).1.map D.aAA.sz).sum≤(hs.map D.aAA.sz).sum+i
 |0,_=>Nat.le_refl _
 |i+1,hi=>by
  have ih:=aUv (e:=e) h i (by omega)
  have hin:=aF5 (e:=e) h i (by omega)
  have hc:=O7 h (i:=i) hi
  rw[Tx hi]
  generalize xX e hs ch i=s at*
  have hk:ch[i].toNat<s.1.length:=by have:=hin.len;omega
  have:=aQk (f:=D.aAA.sz) hk (aUu (s.1.getD ch[i].toNat default) e)
  unfold aW0
  simp only
  omega
theorem aUw (v:D.aAO)(hs:List D.aAA)(ch:List Int)(pin b:Int):(Jd v hs ch pin b).1.length=hs.length∧((Jd v hs ch pin b).1.map D.aAA.sz).sum≤(hs.map D.aAA.sz).sum+ch.length:=by
 unfold Jd
 cases hm:bDr hs ch pin b with
 |false=>exact⟨rfl,Nat.le_add_right _ _⟩
 |true=>
  have hc:jQ hs ch=true:=by
   unfold bDr at hm
   rw[Bool.and_eq_true] at hm;exact hm.1
  have hs1:=aUv (e:=vT v.Salt pin b) hc ch.length (Nat.le_refl _)
  have hs2:=(aF5 (e:=vT v.Salt pin b) hc ch.length (Nat.le_refl _)).len
  unfold xX at hs1 hs2
  rw[List.take_length] at hs1 hs2
  simp only[Bool.not_true,cond_false]
  cases decide ((ch.length:Int)<v.Threshold)||(decide ((vU v hs ch pin b).2.2.length<ch.length)|| !(aBp (vU v hs ch pin b).2.1 (vU v hs ch pin b).2.2).2)<;>exact⟨hs2,hs1⟩
theorem bDt (w:D.World)(ch:List Int)(pin:Int):(fV w ch pin).1.sz≤w.sz+ch.length+1:=by
 unfold fV
 cases aN w with
 |false=>simp only[Bool.not_false,cond_true];omega
 |true=>
  obtain⟨q1,q2⟩:=aUw w.aAO w.Hosts ch pin (aQj w)
  have:=aDu {w with Hosts:=(Jd w.aAO w.Hosts ch pin (aQj w)).1} 5
  simp only[Bool.not_true,cond_false]
  simp only[D.World.sz] at this ⊢
  omega
--needs aAL aAK aAM
def qU (w:D.World)(d:Int):D.World×Bool:=bif dU w d 0&& !dV w d then({w with Stolen:=w.Stolen.set d.toNat true},true) else(w,false)
def kM (b:D.aAB)(now:Int):D.aAB:=bif eG b then {b with Open:=b.Open.filter fun c=>decide (c.Until≥now)} else b
def rZ (w:D.World):D.World:={w with Now:=IntKind.i64.wrap (w.Now+1)}
def Av (w:D.World):D.World×Bool:=bif aN (rZ w) then({rZ w with Sites:=w.Sites.map fun s=>{s with Book:=kM s.Book (rZ w).Now}},true) else(w,false)
def Je (w:D.World)(d j:Int):D.World×Int:=bif dU w d j&&dV w d then oJ w d j (aFu j) else(w,1)
def iU (w:D.World)(d j:Int):D.World×Int:=bif dU w d j&& !dV w d then oJ w d j (aFv j) else(w,1)
def bAw:ByteArray:=⟨#[97,46,110,101,116]⟩
def aF7 (w:D.World)(k d o v:Int)(f:Bool):D.World×Bool:=
 bif !aN w then(w,false) else
 bif k==1 then Av w else
 bif k==2 then((xW w d o).1,(xW w d o).2==0) else
 bif k==3 then((iU w d o).1,(iU w d o).2==0) else
 bif k==4 then qU w d else
 bif k==5 then((Je w d o).1,(Je w d o).2==0) else
 bif k==6 then jE w d else
 bif k==7 then jG w d o else
 bif k==8 then xP w d bAw v f else
 bif k==9 then fQ w d else
 bif k==10 then((aI w d v).1,(aI w d v).2==0) else
 bif k==11 then uV w v else
 bif k==12 then eH w else
 bif k==13 then eZ w o v else(w,false)
def aN2 (l:List Int):Prop:=okL (fun n:Int=>0≤n∧n≤255) l
noncomputable instance (l:List Int):Decidable (aN2 l):=Classical.propDecidable _
def bAx (l:List Int):Bool:=decide ((l.length:Int)>1048576)
def bId (b:D.aAH):Prop:=∀x∈b.Boxes,bB x.Data
def bG0 (c:D.aAE):Prop:=bId c.Boxes∧∀s∈c.History,bB s.Data
instance (b:D.aAH):Decidable (bId b):=inferInstanceAs (Decidable (∀x∈b.Boxes,bB x.Data))
instance (c:D.aAE):Decidable (bG0 c):=inferInstanceAs (Decidable (_∧_))
--needs aAR Event
def bP (c:D.aAR):Prop:=0≤c.i∧c.b.length≤1048576
instance (c:D.aAR):Decidable (bP c):=by unfold bP;infer_instance
def bDu (h:Int):Int:=IntKind.i64.wrap (IntKind.i64.wrap (h*6364136223846793005)+1442695040888963407)
def bE7 (h:Int):Int:=lD IntKind.i64 (aOk IntKind.i64 (zL IntKind.i64 h 33) (zL IntKind.i64 h 47)) 255
def iX (c:D.aAR):D.aAR×Int:=bif decide (c.i<(c.b.length:Int)) then(⟨c.b,IntKind.i64.wrap (c.i+1),bDu c.h⟩,lD IntKind.i64 (IntKind.i64.wrap (bE7 (bDu c.h)+IntKind.i64.wrap (c.b.getD c.i.toNat 0))) 255) else(⟨c.b,c.i,bDu c.h⟩,bE7 (bDu c.h))
def cB (c:D.aAR)(n:Int):D.aAR×Int:=bif decide (n≤0) then(c,0) else bif decide (n≤256) then((iX c).1,(iX c).2.tmod n) else
 ((iX (iX (iX c).1).1).1,(IntKind.i64.wrap (IntKind.i64.wrap (IntKind.i64.wrap ((iX c).2*65536)+IntKind.i64.wrap ((iX (iX c).1).2*256))+(iX (iX (iX c).1).1).2)).tmod n)
def Ex (c:D.aAR)(n:Int):D.aAR×Bool:=((cB c n).1,(cB c n).2==0)
def dA (c:D.aAR):D.aAR×Int:=cB c 4
def dB (c:D.aAR):D.aAR×Int:=cB (dA c).1 3
def dC (c:D.aAR):D.aAR×Int:=cB (dB c).1 (IntKind.i64.wrap (1+(dA c).2))
def dD (c:D.aAR):D.aAR×Int:=cB (dC c).1 40
def dE (c:D.aAR):D.aAR×Int:=cB (dD c).1 999
def kX (c:D.aAR):D.aAR×D.World:=((dE c).1,dH (IntKind.i64.wrap (1+(dB c).2)) (IntKind.i64.wrap (1+(dA c).2)) (IntKind.i64.wrap (1+(dC c).2)) (dD c).2 (IntKind.i64.wrap (1+(dE c).2)))
def eA (c:D.aAR):D.aAR×Int:=cB c 13
def eB (c:D.aAR):D.aAR×Int:=cB (eA c).1 4
def eC (c:D.aAR):D.aAR×Int:=cB (eB c).1 3
def eD (c:D.aAR):D.aAR×Int:=cB (eC c).1 4
def eE (c:D.aAR):D.aAR×Bool:=Ex (eD c).1 3
def eK (c:D.aAR):Int:=IntKind.i64.wrap (1+(eA c).2)
def Ef (c:D.aAR):D.aAR×D.Event:=
 bif eK c==11 then((cB (eE c).1 40).1,⟨eK c,(eB c).2,(eC c).2,(cB (eE c).1 40).2,(eE c).2⟩) else
 bif eK c==4||eK c==13 then((Ex (eE c).1 2).1,⟨bif (Ex (eE c).1 2).2 then 2 else eK c,(eB c).2,(eC c).2,(eD c).2,(eE c).2⟩) else
 ((eE c).1,⟨eK c,(eB c).2,(eC c).2,(eD c).2,(eE c).2⟩)
def xD (c:D.aAR):Nat→D.aAR×List D.Event
 |0=>(c,[])
 |n+1=>((Ef (xD c n).1).1,(xD c n).2++[(Ef (xD c n).1).2])
def Oc (c:D.aAR)(m:Int):D.aAR×List D.Event:=xD (cB c m).1 (cB c m).2.toNat
def aUx (l:List Int):Nat→Int
 |0=>IntKind.i64.wrap (193017+(l.length:Int))
 |k+1=>lD IntKind.i64 (IntKind.i64.wrap (IntKind.i64.wrap (IntKind.i64.wrap (aUx l k*137)+IntKind.i64.wrap (l.getD k 0))+11)) 1073741823
def bE8 (l:List Int):Int:=aUx l (min l.length 4000)
def aW3 (l:List Int):D.aAR:=⟨l,0,bE8 l⟩
def xY (l:List Int)(m:Int):Int:=bif decide (IntKind.i64.wrap (3+IntKind.i64.wrap ((l.length:Int).tdiv 12))>m) then m else IntKind.i64.wrap (3+IntKind.i64.wrap ((l.length:Int).tdiv 12))
def aBq (l:List Int):D.World×List D.Event:=((kX (aW3 l)).2,(Oc (kX (aW3 l)).1 (IntKind.i64.wrap (6+xY l 14))).2)
def aB8 (e:D.Event):Prop:=(1≤e.Kind∧e.Kind≤13)∧(0≤e.Device∧e.Device≤3)∧(0≤e.Other∧e.Other≤2)∧(0≤e.Value∧e.Value≤39)∧(e.Kind≠11→e.Value≤3)
--needs Event World
def aDz (w:D.World)(d j:Int)(h:ByteArray):D.World×Int:=bif dU w d j&& !dV w d then oJ w d j ⟨true,h,443⟩ else(w,1)
def O8 (w:D.World)(d j:Int)(h:ByteArray):Prop:=dU w d j=true→jY ⟨true,h,443⟩
noncomputable instance (w:D.World) (d j:Int) (h:ByteArray):Decidable (O8 w d j h):=Classical.propDecidable _
def Ty (w:D.World)(e:D.Event):D.World×Bool:=
 bif e.Kind==2 then((xW w e.Device e.Other).1,(xW w e.Device e.Other).2==0) else
 bif e.Kind==3 then((iU w e.Device e.Other).1,(iU w e.Device e.Other).2==0) else((Je w e.Device e.Other).1,(Je w e.Device e.Other).2==0)
def aF8 (w:D.World)(e:D.Event):D.World×Bool:=
 bif e.Kind==11 then uV w e.Value else bif e.Kind==12 then eH w else bif e.Kind==13 then eZ w e.Other e.Value else(w,false)
def evF (w:D.World)(e:D.Event):D.World×Bool:=aF7 w e.Kind e.Device e.Other e.Value e.Flag
def runN (w:D.World)(l:List D.Event):Nat→D.World
 |0=>w
 |k+1=>(evF (runN w l k) (l.getD k default)).1
def aSt (w:D.World)(l:List D.Event):D.World:=runN w l (min l.length 60)
def aQl (w:D.World)(l:List D.Event):Prop:=w.sz≤34359738368∧∀k,k<min l.length 60→(runN w l k).sz≤33000000
noncomputable instance (w:D.World) (l:List D.Event):Decidable (aQl w l):=Classical.propDecidable _
end Go.VK
