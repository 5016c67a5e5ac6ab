import Derived.Test.YtinkjfapmhcgmaaGreatDoorEVztot
import Derived.Test.YtinkjfapmhcgmaaGreatDoorXjS
/- Printed by wip/tools: models, walks, proofs. -/
set_option linter.unusedVariables false
set_option linter.unusedSimpArgs false
set_option maxRecDepth 100000
set_option maxHeartbeats 4000000
namespace Go.VK
open Go.RowKit Go.Proofs
theorem aIi {h v:Int}(h0:0≤h)(h1:h<2147483647):0≤hstep h v∧hstep h v<2147483647:=by
 have hm:=bA1 (p:=v) (q:=2147483647) (by omega)
 unfold hstep
 generalize rH v 2147483647=z at*
 have e1:IntKind.i64.wrap (h*1000003)=h*1000003:=aP (by omega) (by omega)
 have e2:IntKind.i64.wrap (h*1000003+z)=h*1000003+z:=aP (by omega) (by omega)
 have e3:IntKind.i64.wrap (h*1000003+z+13)=h*1000003+z+13:=aP (by omega) (by omega)
 rw[e1,e2,e3]
 exact⟨Int.tmod_nonneg _ (by omega),Int.tmod_lt_of_pos _ (by decide)⟩
theorem aZr (l:List Int):0≤Ac l∧Ac l<2147483647:=by
 unfold Ac
 suffices ∀(l:List Int) (h:Int),0≤h→h<2147483647→0≤l.foldl hstep h∧l.foldl hstep h<2147483647 from this l 11 (by omega) (by omega)
 intro l
 induction l with
 |nil=>intro h h0 h1;exact⟨h0,h1⟩
 |cons x xs ih=>intro h h0 h1;exact ih _ (aIi h0 h1).1 (aIi h0 h1).2
theorem nP (k:Int)(l:List Int):0≤eP k l∧eP k l<2147483647:=aZr _
def bBq (a b:Int):Int:=bif decide (b>a) then b else a
def nQ (a:List Int)(r:List (List Int)):List Int:=a++r.flatten
def Fv (n:Int):Int:=bif n==0 then 1 else n
def dP (n:Int):Bool:=dG n 1 2147483646
def sS (b:List Int):List Int:=[(b.length:Int)]++b.map IntKind.i64.wrap
def eU (seed:Int)(l:List Int):Int:=Fv (eP seed ([151]++l))
def nR (k:Int)(s:ByteArray):Int:=Fv (eP k (sS (bS s)))
def gV (p:Int):Int:=bif !(dP p) then 0 else(IntKind.i64.wrap (p*48271)).tmod 2147483647
def mQ (s:D.aAJ):Int:=eU s.Seed [181]
def dB (s:D.aAJ):Int:=gV (mQ s)
def jC (l:List Int)(x:Int):Bool:=l.any fun e=>e==x
def nS (log:List D.aAB)(p:Int):Bool:=log.any fun e=>e.Kind==2&&e.Device==p
def lU (s:List Int)(e:D.aAB):List Int:=
 bif e.Kind==1 then(bif s.contains e.Device then s else s++[e.Device]) else bif e.Kind==2 then s.filter (fun d=>d !=e.Device) else s
def aI (log:List D.aAB):List Int:=log.foldl lU []
def bC (log:List D.aAB):Int:=log.foldl (fun n e=>bif e.Kind==2 then IntKind.i64.wrap (n+1) else n) 0
def aH (b:D.aAD)(site handle:Int):Int:=jW (fun e=>e.Site==site&&e.Handle==handle) 0 b.Entries
def bA (s:D.Site)(id:Int):Int:=jW (fun a=>a.Id==id) 0 s.Accounts
theorem aIj (s:List Int)(x:D.aAB):(lU s x).length≤s.length+1:=by
 unfold lU
 cases x.Kind==1 with
 |true=>cases s.contains x.Device<;>simp
 |false=>
  cases x.Kind==2 with
  |true=>have:=List.length_filter_le (fun d=>d !=x.Device) s;simp;omega
  |false=>simp
theorem fE (log:List D.aAB):(aI log).length≤log.length:=by
 suffices ∀(l:List D.aAB) (s:List Int),(l.foldl lU s).length≤s.length+l.length from by simpa[aI] using this log []
 intro l
 induction l with
 |nil=>intro s;simp
 |cons x xs ih=>
  intro s
  simp only[List.foldl_cons,List.length_cons]
  have h1:=ih (lU s x)
  have h2:(lU s x).length≤s.length+1:=by
   unfold lU
   cases x.Kind==1 with
   |true=>cases s.contains x.Device<;>simp
   |false=>
    cases x.Kind==2 with
    |true=>have:=List.length_filter_le (fun d=>d !=x.Device) s;simp;omega
    |false=>simp
  omega
theorem aZs {n:Int}(h:0≤n):bBq 1 n=Fv n:=by
 unfold bBq Fv
 rcases(show n=0∨n=1∨n>1 by omega) with rfl|rfl|h1
 ·rfl
 ·rfl
 ·have:(n==0)=false:=by simp;omega
  simp[h1,this]
def gW (s:ByteArray):Int:=nR 173 s
def WOk (w:D.World):Prop:=w.Devices.length≤34359738368∧w.Stolen.length≤34359738368∧w.aAH.Log.length≤34359738368∧w.Sites.length≤34359738368
instance (w:D.World):Decidable (WOk w):=inferInstanceAs (Decidable (_∧_))
def bH (w:D.World)(d:Int):Bool:=decide (0≤d)&&decide (d<w.Devices.length)
theorem aVr {w:D.World}(h:WOk w)(d:Int):dG d 0 (IntKind.i64.wrap ((w.Devices.length:Int)-1))=bH w d:=by
 have:=h.1
 rw[aP (by omega) (by omega)]
 unfold dG bH
 congr 1
 exact decide_eq_decide.2 (by omega)
def bR (w:D.World)(d:Int):D.Device:=w.Devices.getD d.toNat default
theorem xZ {w:D.World}{d:Int}(h:bH w d=true):aL w.Devices d=some (bR w d):=by
 simp only[bH,Bool.and_eq_true,decide_eq_true_eq] at h
 rw[nK h.1 (by omega)]
 simp[bR,List.getD,List.getElem?_eq_getElem (show d.toNat<w.Devices.length by omega)]
def jF (w:D.World)(d:Int):Bool:=bH w d&&jC (aI w.aAH.Log) (dB (bR w d).Store)
theorem WOk.of {w:D.World}(h:w.sz≤1048576):WOk w:=by
 simp only[D.World.sz,D.aAH.sz] at h
 unfold WOk
 omega
def aXb (k:Int)(i:Nat)(z:Int):Int:=IntKind.u8.wrap ((z-eP k [(i:Int)])%256)
def aDf (k:Int)(b:List Int):List Int:=Tz (fun i z=>[aXb k i z]) 0 b
theorem aZt (x:Int):rH (IntKind.i64.wrap x) 256=x%256:=by
 rw[rH,if_pos (by omega),IntKind.wrap_i64];omega
theorem bG2 (k:Int)(i:Nat)(z:Int):IntKind.u8.wrap (rH (IntKind.i64.wrap (IntKind.i64.wrap z-eP k [(i:Int)])) 256)=aXb k i z:=by
 rw[aZt,aXb,IntKind.wrap_i64];congr 1;omega
theorem bG3 (k:Int)(i:Nat)(z:Int):IntKind.u8.wrap (rH (IntKind.i64.wrap (IntKind.i64.wrap z-(eP k [(i:Int)]).tmod 256)) 256)=aXb k i z:=by
 rw[aZt,aXb,IntKind.wrap_i64,Int.tmod_eq_emod_of_nonneg (nP _ _).1];congr 1;omega
theorem Ns {α β:Type}{y:Nat→α→β}:∀{i:Nat} {l:List α},(Tz (fun i x=>[y i x]) i l).length=l.length
 |i,[]=>rfl
 |i,x::xs=>by simp[Tz,Ns]
def fU (p e:Int):Int:=eU p [163,e]
def Uc (k:Int)(b:D.Box):Int:=eP k ([167,b.To,b.Ephemeral]++sS b.Data)
def gG (p:Int)(b:D.Box):List Int×Bool:=
 bif !dP p||(b.To !=gV p||(!dP b.Ephemeral||decide ((b.Data.length:Int)>200))) then([],false)
 else bif b.MAC !=Uc (fU p b.Ephemeral) b then([],false) else(aDf (fU p b.Ephemeral) b.Data,true)
def gY:List D.Box→Int→List Int×Bool
 |[],_=>([],false)
 |b::bs,p=>bif (gG p b).2 then((gG p b).1,true) else gY bs p
def aW (b:List Int):Prop:=b.length≤34359738368∧b.all (fun z=>decide (0≤z)&&decide (z≤255))=true
instance (b:List Int):Decidable (aW b):=inferInstanceAs (Decidable (_∧_))
theorem rO {b:List Int}(h:aW b){i:Nat}(hi:i<b.length):0≤b[i]∧b[i]≤255:=by
 have:=List.all_eq_true.1 h.2 b[i] (List.getElem_mem hi)
 simpa using this
def uvG (b:List Int)(p:Nat):Nat→Nat→Int→Int×Int×Bool
 |0,_,_=>(0,0,false)
 |k+1,i,n=>
  if p+i<b.length then
   bif decide (b.getD (p+i) 0<128) then
    (bif (decide (0<i)&&b.getD (p+i) 0==0)||decide (n+b.getD (p+i) 0%128*128^i>1000000000000) then(0,0,false) else(n+b.getD (p+i) 0%128*128^i,((p+i+1:Nat):Int),true))
   else uvG b p k (i+1) (n+b.getD (p+i) 0%128*128^i)
  else(0,0,false)
def xS (b:List Int)(at_:Int):Int×Int×Bool:=if at_<0 then(0,0,false) else uvG b at_.toNat 6 0 0
theorem aXc {i:Nat}(h:i≤6):(1:Int)≤128^i∧(128:Int)^i≤4398046511104:=by
 match i,h with
 |0,_|1,_|2,_|3,_|4,_|5,_|6,_=>decide
theorem aXd {z n:Int}{i:Nat}(hi:i≤5)(hz:0≤z)(hn:0≤n)(hn':n<128^i):0≤n+z%128*128^i∧n+z%128*128^i<128^(i+1)∧0≤z%128*128^i∧z%128*128^i≤127*128^i:=by
 have hp:=aXc (i:=i) (by omega)
 have h1:0≤z%128*128^i:=Int.mul_nonneg (by omega) (by omega)
 have h2:z%128*128^i≤127*128^i:=Int.mul_le_mul_of_nonneg_right (by omega) (by omega)
 rw[Int.pow_succ]
 refine⟨by omega,by omega,h1,h2⟩
theorem bIr {z n:Int}{i:Nat}(hi:i≤5)(hz:0≤z)(hz':z≤255)(hn:0≤n)(hn':n<128^i):
  orI .i64 n (T9 .i64 (xV .i64 z 127) (IntKind.i64.wrap (7*(i:Int))))=n+z%128*128^i:=by
 obtain⟨m,rfl⟩:=Int.eq_ofNat_of_zero_le hz
 obtain⟨q,rfl⟩:=Int.eq_ofNat_of_zero_le hn
 have hp:=aXc (i:=i) (by omega)
 have hs:=aXd (z:=(m:Int)) (n:=(q:Int)) hi (by omega) (by omega) hn'
 have ha:xV .i64 (m:Int) 127=((m%128:Nat):Int):=by
  have e:((BitVec.ofInt 64 (m:Int))&&&(BitVec.ofInt 64 127)).toNat=m%128:=by
   rw[BitVec.toNat_and]
   have e1:(BitVec.ofInt 64 (m:Int)).toNat=m:=by
    rw[BitVec.toNat_ofInt];omega
   have e2:(BitVec.ofInt 64 127).toNat=2^7-1:=by decide
   rw[e1,e2,Nat.and_two_pow_sub_one_eq_mod]
  show IntKind.i64.wrap (((BitVec.ofInt 64 (m:Int))&&&(BitVec.ofInt 64 127)).toNat:Int)=_
  rw[e];exact aP (by omega) (by omega)
 have hw:IntKind.i64.wrap (7*(i:Int))=((7*i:Nat):Int):=by rw[aP (by omega) (by omega)];omega
 have hpn:(2:Nat)^(7*i)=128^i:=by rw[Nat.pow_mul]
 have hpi:((128^i:Nat):Int)=(128:Int)^i:=by simp
 have hb:T9 .i64 (xV .i64 (m:Int) 127) (IntKind.i64.wrap (7*(i:Int)))=((m%128*128^i:Nat):Int):=by
  rw[ha,hw]
  unfold T9
  rw[Int.toNat_natCast,show min (7*i) IntKind.i64.bits=7*i from Nat.min_eq_left (by simp[IntKind.bits];omega)]
  have e3:((m%128:Nat):Int)*2^(7*i)=((m%128*128^i:Nat):Int):=by
   rw[←hpn];simp
  rw[e3]
  have:((m%128*128^i:Nat):Int)=(m:Int)%128*128^i:=by simp
  rw[this]
  exact aP (by omega) (by omega)
 rw[hb]
 have hqlt:q<128^i:=by rw[←hpi] at hn';exact_mod_cast hn'
 have hor:(m%128*128^i)|||q=m%128*128^i+q:=by
  have:=Nat.shiftLeft_add_eq_or_of_lt (b:=q) (i:=7*i) (by rw[hpn];exact hqlt) (m%128)
  rw[Nat.shiftLeft_eq,hpn] at this
  exact this.symm
 have hle:m%128*128^i+q<2^63:=by
  have:((m%128*128^i+q:Nat):Int)=q+(m:Int)%128*128^i:=by simp;omega
  omega
 have e4:((BitVec.ofInt 64 (q:Int))|||(BitVec.ofInt 64 ((m%128*128^i:Nat):Int))).toNat=m%128*128^i+q:=by
  rw[BitVec.toNat_or]
  have e5:(BitVec.ofInt 64 (q:Int)).toNat=q:=by rw[BitVec.toNat_ofInt];omega
  have e6:(BitVec.ofInt 64 ((m%128*128^i:Nat):Int)).toNat=m%128*128^i:=by rw[BitVec.toNat_ofInt];omega
  rw[e5,e6,Nat.or_comm,hor]
 show IntKind.i64.wrap (((BitVec.ofInt 64 (q:Int))|||(BitVec.ofInt 64 ((m%128*128^i:Nat):Int))).toNat:Int)=_
 rw[e4,aP (by omega) (by omega)]
 simp
 omega
def jV (b:List Int):Nat→Int→List Int→List Int×Int×Bool
 |0,a,s=>(s,a,true)
 |k+1,a,s=>bif (xS b a).2.2 then jV b k (xS b a).2.1 (s++[(xS b a).1]) else([],0,false)
def iL (b:List Int)(a c:Int):List Int×Int×Bool:=bif !dG c 0 100|| !dG a 0 b.length then([],0,false) else jV b c.toNat a []
theorem aZu (b:List Int):∀(k:Nat) (a:Int) (s:List Int),(jV b k a s).2.2=true→(jV b k a s).1.length=s.length+k
 |0,a,s,_=>rfl
 |k+1,a,s,h=>by
  unfold jV at h ⊢
  cases hu:(xS b a).2.2 with
  |false=>rw[hu] at h;simp at h
  |true=>
   rw[hu] at h
   simp only[cond_true] at h ⊢
   rw[aZu b k _ _ h];simp;omega
theorem decode_len {b:List Int}{a c:Int}(hc:0≤c)(h:(iL b a c).2.2=true):(iL b a c).1.length=c.toNat:=by
 unfold iL at h ⊢
 cases hx:(!dG c 0 100|| !dG a 0 b.length) with
 |true=>rw[hx] at h;simp at h
 |false=>
  rw[hx] at h
  simp only[cond_false] at h ⊢
  rw[aZu _ _ _ _ h];simp
theorem aXe {k:Int}{b:List Int}(h:b.length≤34359738368):aW (aDf k b):=by
 refine⟨by unfold aDf;rw[Ns];exact h,?_⟩
 rw[List.all_eq_true]
 intro z hz
 have:∀(b:List Int) (i:Nat),z∈Tz (fun i z=>[aXb k i z]) i b→0≤z∧z≤255:=by
  intro b
  induction b with
  |nil=>intro i h;simp[Tz] at h
  |cons x xs ih=>
   intro i h
   simp only[Tz,List.mem_append,List.mem_singleton] at h
   rcases h with rfl|h
   ·have:=dN .u8 ((x-eP k [(i:Int)])%256)
    simpa[aXb,IntKind.min,IntKind.max,IntKind.signed,IntKind.bits] using this
   ·exact ih _ h
 have:=this b 0 hz
 simp[this.1,this.2]
theorem bBr (p:Int)(b:D.Box):aW (gG p b).1:=by
 unfold gG
 have h0:aW ([]:List Int):=by decide
 by_cases hl:b.Data.length≤200
 ·cases(!dP p||(b.To !=gV p||(!dP b.Ephemeral||decide ((b.Data.length:Int)>200))))<;>cases(b.MAC !=Uc (fU p b.Ephemeral) b)<;>first|exact h0|exact aXe (by omega)
 ·have e1:decide ((b.Data.length:Int)>200)=true:=by simp;omega
  rw[e1];simpa using h0
theorem Zu (p:Int):∀bs,aW (gY bs p).1
 |[]=>show aW [] by decide
 |b::bs=>by
  unfold gY
  cases(gG p b).2 with
  |true=>exact bBr p b
  |false=>exact Zu p bs
def Zv (e:D.aAE)(x:List Int×Bool)(y:List Int×Int×Bool):Int×Bool:=
 bif !x.2||(!y.2.2||(y.2.1 !=(x.1.length:Int)||(y.1.getD 0 0 !=e.Epoch|| !dP (y.1.getD 1 0)))) then(0,false) else(y.1.getD 1 0,true)
def dI (s:D.aAJ)(e:D.aAE):Int×Bool:=Zv e (gY e.Boxes (mQ s)) (iL (gY e.Boxes (mQ s)).1 0 2)
theorem and_one {n:Int}(h0:0≤n)(h1:n<9223372036854775808):xV .i64 n 1=n%2:=by
 obtain⟨m,rfl⟩:=Int.eq_ofNat_of_zero_le h0
 have e:((BitVec.ofInt 64 (m:Int))&&&(BitVec.ofInt 64 1)).toNat=m%2:=by
  rw[BitVec.toNat_and]
  have e1:(BitVec.ofInt 64 (m:Int)).toNat=m:=by rw[BitVec.toNat_ofInt];omega
  have e2:(BitVec.ofInt 64 1).toNat=2^1-1:=by decide
  rw[e1,e2,Nat.and_two_pow_sub_one_eq_mod]
 show IntKind.i64.wrap (((BitVec.ofInt 64 (m:Int))&&&(BitVec.ofInt 64 1)).toNat:Int)=_
 rw[e,aP (by omega) (by omega)];omega
theorem bIs {n:Int}(h0:0≤n):aCw .i64 n 1=n/2:=by
 unfold aCw
 rw[show min (Int.toNat 1) IntKind.i64.bits=1 from by decide,Int.fdiv_eq_ediv_of_nonneg _ (by decide)];rfl
def bE1:Nat→Int→Int→Int→Int
 |0,_,_,s=>s
 |k+1,b,n,s=>if n>0 then bE1 k ((IntKind.i64.wrap (b*b)).tmod 2147483647) (n/2) (bif n%2==1 then(IntKind.i64.wrap (s*b)).tmod 2147483647 else s) else s
theorem bC6:bE1 31 48271 2147483645 1=1899818559:=by decide+kernel
def fV (q:Int):Int:=bif !dP q then 0 else q*1899818559%2147483647
def Ih (p:Int)(l:List Int):Int:=bif !dP p then 0 else eP p ([139,(l.length:Int)]++l)
def kV (q:Int)(l:List Int)(g:Int):Bool:=fV q !=0&&Ih (fV q) l==g
theorem Nt {α:Type}[Inhabited α]{l:List α}{i:Nat}(h0:0<i)(hi:i<l.length)(hl:l.length≤34359738368):aL l (IntKind.i64.wrap ((i:Int)-1))=some (l.getD (i-1) default):=by
 rw[aP (by omega) (by omega),show(i:Int)-1=((i-1:Nat):Int) by omega,aF (by omega)]
 simp[List.getD,List.getElem?_eq_getElem (show i-1<l.length by omega)]
def qN (l:List D.aAM)(i:Nat)(n:D.aAM):Bool:= !dG n.Kind 1 5||(!dG n.aAG 0 1000000||(!dG n.Time 0 1000000||(decide (0<i)&&decide ((l.getD (i-1) default).Time>n.Time))))
def eZ (m:D.aAK):Bool:=decide (m.Notices.length≤30)&& !kS (qN m.Notices) 0 m.Notices
def kD (b:D.aAF)(i:Nat)(n:D.aAL):Bool:= !dG n.Id 0 (IntKind.i64.wrap (b.Next-1))||((decide (0<i)&&decide ((b.Open.getD (i-1) default).Id≥n.Id))||(!dG n.aAG 0 1000005|| !dG n.Until 0 1000005))
def nT (b:D.aAF):Bool:=dG b.Next 0 1000000&&decide (b.Open.length≤16)&& !kS (kD b) 0 b.Open
def Fw (a:D.aAG)(i:Nat)(n:D.aAI):Bool:=(!dG n.Handle 0 1000000||((decide (0<i)&&decide ((a.Credentials.getD (i-1) default).Handle≥n.Handle))||(fV n.Public==0|| !dG n.Counter 0 1000000)))||(a.Credentials.take i).any fun q=>q.Public==n.Public
def dW (a:D.aAG):Bool:=dG a.Id 0 1000000&&dG a.Minimum 1 3&&decide (a.Credentials.length≤8)&& !kS (Fw a) 0 a.Credentials
def dC (e:D.aAB):Int:=Ac [229,e.Index,e.Kind,e.Device,e.By,e.Previous]
def gM (l:List D.aAB):Int:=bif (l.length:Int)==0 then 0 else dC (l.getD (l.length-1) default)
def rC (l:List D.aAB)(e:D.aAB):Bool:=
 e.Index==(l.length:Int)&&(e.Previous==gM l&&((jC (aI l) e.By||((l.length:Int)==0&&e.By==e.Device))&&(kV e.By [dC e] e.Signature&&
  (bif e.Kind==2 then jC (aI l) e.Device&&decide (((aI l).length:Int)>1) else !nS l e.Device&&(e.Kind==1&&(!jC (aI l) e.Device&&decide (((aI l).length:Int)<6)))))))
def cB (l:List D.aAB):Bool:=dG (l.length:Int) 1 40&& !kS (fun i e=> !rC (l.take i) e) 0 l
theorem bG4 {l:List Int}{x:Int}(h:jC l x=true):0<l.length:=by
 cases l with
 |nil=>simp[jC] at h
 |cons a r=>simp
def iH:List UInt8→List UInt8→List (List UInt8)
 |cur,[]=>[cur]
 |cur,b::r=>bif b==46 then cur::iH [] r else iH (cur++[b]) r
theorem bG5 (s:List UInt8)(i:Nat):Lib.occAt s [46] i=decide (s[i]? =some 46):=by
 unfold Lib.occAt
 cases h:s.drop i with
 |nil=>
  have:s.length≤i:=List.drop_eq_nil_iff.1 h
  simp[List.getElem?_eq_none this,List.isPrefixOf]
 |cons b r=>
  have e:s[i]? =some b:=by
   have:=List.getElem?_drop (xs:=s) (i:=i) (j:=0)
   rw[h] at this;simpa using this.symm
  rw[e];simp only[List.isPrefixOf,Bool.and_true,Option.some.injEq]
  rw[Bool.eq_iff_iff];simp only[beq_iff_eq,decide_eq_true_eq];exact eq_comm
theorem aNm:∀(a cur r:List UInt8),(∀b∈a,b≠46)→iH cur (a++46::r)=(cur++a)::iH [] r
 |[],cur,r,_=>by simp[iH]
 |b::a,cur,r,h=>by
  have hb:(b==46)=false:=by simpa using h b (by simp)
  rw[List.cons_append,iH,hb,cond_false,aNm a _ r (fun x hx=>h x (List.mem_cons_of_mem _ hx))];simp
theorem aIk:∀(a cur:List UInt8),(∀b∈a,b≠46)→iH cur a=[cur++a]
 |[],cur,_=>by simp[iH]
 |b::a,cur,h=>by
  have hb:(b==46)=false:=by simpa using h b (by simp)
  rw[iH,hb,cond_false,aIk a _ (fun x hx=>h x (List.mem_cons_of_mem _ hx))];simp
theorem aZv:∀(n:Nat) (s:List UInt8),s.length<n→Lib.splitK [46] 0 (Lib.count s [46]) s=iH [] s
 |0,s,h=>absurd h (Nat.not_lt_zero _)
 |n+1,s,h=>by
  rcases Lib.index_spec s [46] with⟨h1,h2⟩|⟨i,h1,h2,h3,h4⟩
  ·rw[Lib.count_miss h1,aIk s [] (fun b hb e=>by
    obtain⟨j,hj,ej⟩:=List.getElem_of_mem hb
    have:=h2 j (by omega)
    rw[bG5,List.getElem?_eq_getElem hj,ej,e] at this;simp at this)];rfl
  ·rw[bG5] at h3
   have h3:s[i]? =some 46:=by simpa using h3
   have hi:i<s.length:=by
    rcases Nat.lt_or_ge i s.length with hlt|hge
    ·exact hlt
    ·rw[List.getElem?_eq_none hge] at h3;cases h3
   rw[Lib.count_hit (by simp) h1,Nat.add_comm,Lib.splitK,h1]
   have hne:((i:Int)== -1)=false:=by simp
   rw[hne]
   simp only[Int.toNat_natCast,Nat.add_zero,List.length_cons,List.length_nil,Nat.zero_add]
   rw[if_neg (by simp),aZv n (s.drop (i+1)) (by rw[List.length_drop];omega)]
   have es:s=s.take i++46::s.drop (i+1):=by
    have e2:s[i]=46:=by rw[List.getElem?_eq_getElem hi] at h3;exact Option.some.inj h3
    rw[←e2,List.getElem_cons_drop hi,List.take_append_drop]
   conv=>rhs;rw[es]
   rw[aNm (s.take i) [] _ (fun b hb e=>by
    obtain⟨j,hj,ej⟩:=List.getElem_of_mem hb
    rw[List.length_take] at hj
    have:=h4 j (by omega)
    rw[bG5,List.getElem?_eq_getElem (by omega)] at this
    rw[List.getElem_take] at ej
    rw[ej,e] at this;simp at this)];simp
def bI (s:ByteArray):List ByteArray:=(iH [] s.data.toList).map fun l=>⟨l.toArray⟩
theorem aNn (s:ByteArray):jI s ⟨#[46]⟩=bI s:=by
 have h1:(jI s ⟨#[46]⟩).map (·.data.toList)=iH [] s.data.toList:=by
  rw[jI,Lib.splitB_data];exact aZv _ _ (Nat.lt_succ_self _)
 unfold bI
 rw[←h1,List.map_map]
 conv=>lhs;rw[←List.map_id (jI s ⟨#[46]⟩)]
 congr 1
def V9 (b:Int):Bool:=dG b 97 122||dG b 48 57||b==45
def rP (s:ByteArray):Bool:=decide (1≤s.size)&&decide (s.size≤20)&& !((bS s).getD 0 0==45)&& !((bS s).getD (s.size-1) 0==45)&& !((bS s).any fun b=> !V9 b)
def iM (s:ByteArray):Bool:=decide (s.size≤60)&& !((bI s).any fun l=> !rP l)
theorem iI (s:ByteArray):(bS s).length=s.size:=by simp only[bS,List.length_map];rfl
theorem aZw {s:ByteArray}{i:Nat}(h:i<s.size):aL (bS s) (i:Int)=some ((bS s)[i]'(by rw[iI];exact h)):=aF _
theorem ext_list (s:ByteArray)(a b:Nat):s.extract a b=⟨((s.data.toList.drop a).take (b-a)).toArray⟩:=by
 apply ByteArray.ext
 apply Array.toList_inj.1
 rw[Lib.extract_data]
theorem Zw:∀(s cur:List UInt8),(iH cur s).length≤s.length+1
 |[],_=>by simp[iH]
 |b::r,cur=>by
  rw[iH]
  cases b==46 with
  |true=>have:=Zw r [];simp;omega
  |false=>have:=Zw r (cur++[b]);simp at this ⊢;omega
theorem Nu:∀(s cur:List UInt8) (l:List UInt8),l∈iH cur s→l.length≤cur.length+s.length
 |[],cur,l,h=>by simp[iH] at h;subst h;simp
 |b::r,cur,l,h=>by
  rw[iH] at h
  cases hb:b==46 with
  |true=>
   rw[hb,cond_true] at h
   rcases List.mem_cons.1 h with rfl|h
   ·omega
   ·have:=Nu r [] l h;simp at this ⊢;omega
  |false=>rw[hb,cond_false] at h;have:=Nu r _ l h;simp at this ⊢;omega
theorem Nv (s:ByteArray):(bI s).length≤s.size+1:=by
 unfold bI;rw[List.length_map];exact Zw _ _
theorem uT (s l:ByteArray)(h:l∈bI s):l.size≤s.size:=by
 unfold bI at h
 obtain⟨q,hq,rfl⟩:=List.mem_map.1 h
 have:=Nu _ _ q hq
 have h2:(⟨q.toArray⟩:ByteArray).size=q.length:=rfl
 have h3:s.data.toList.length=s.size:=rfl
 have h4:([]:List UInt8).length=0:=rfl
 omega
theorem bMi (z:ByteArray):(z.toList==(⟨#[]⟩:ByteArray).toList)=decide (z.size=0):=by
 rw[ByteArray.toList_eq,ByteArray.toList_eq,Bool.eq_iff_iff]
 simp only[beq_iff_eq,decide_eq_true_eq]
 constructor
 ·intro h
  show z.data.size=0
  rw[←Array.length_toList,h];rfl
 ·intro h
  exact List.eq_nil_of_length_eq_zero h
theorem uU:∀(s cur:List UInt8),(iH cur s).length=s.countP (·==46)+1
 |[],_=>rfl
 |b::r,cur=>by
  rw[iH,List.countP_cons]
  cases b==46 with
  |true=>rw[cond_true,List.length_cons,uU r []];simp
  |false=>rw[cond_false,uU r _];simp
theorem aIl (s:ByteArray):0<(bI s).length:=by
 unfold bI;rw[List.length_map,uU];omega
def Tv (s:ByteArray):Bool:=(bS s).any fun b=>b==46
theorem aS0 (s:ByteArray):Tv s=decide (2≤(bI s).length):=by
 unfold Tv bI bS
 rw[List.length_map,uU,List.any_map]
 have e:(fun b:Int=>b==46)∘(fun b:UInt8=>(b.toNat:Int))=fun b:UInt8=>b==46:=by
  funext b
  rw[Bool.eq_iff_iff]
  simp only[Function.comp,beq_iff_eq]
  constructor
  ·intro q;apply UInt8.toNat_inj.1;show _=46;omega
  ·intro q;rw[q];rfl
 rw[e,Bool.eq_iff_iff,List.any_eq_true,decide_eq_true_eq]
 have:=List.countP_pos_iff (p:=fun b:UInt8=>b==46) (l:=s.data.toList)
 constructor
 ·intro h;have:=this.2 h;omega
 ·intro h;exact this.1 (by omega)
def bE2 (s:ByteArray):ByteArray:=bif iM s then(bif (bI s).length==1 then s else nC ⟨#[46]⟩ ((bI s).drop ((bI s).length-2))) else⟨#[]⟩
theorem bJl {l:List ByteArray}(h:2≤l.length):∃a∈l,∃b∈l,nC ⟨#[46]⟩ (l.drop (l.length-2))=a++⟨#[46]⟩++b:=by
 have hl:(l.drop (l.length-2)).length=2:=by rw[List.length_drop];omega
 match hm:l.drop (l.length-2),hl with
 |[a,b],_=>
  refine⟨a,List.mem_of_mem_drop (i:=l.length-2) (by rw[hm];simp),b,List.mem_of_mem_drop (i:=l.length-2) (by rw[hm];simp),?_⟩
  rw[show[a,b]=[a]++[b] from rfl,bHv _ _ _ (by simp),bHu]
theorem Nw {s:ByteArray}(h:iM s=true):s.size≤60∧0<s.size:=by
 unfold iM at h
 rw[Bool.and_eq_true,decide_eq_true_eq] at h
 refine⟨h.1,Nat.pos_of_ne_zero fun e=> ?_⟩
 have e2:s.data.toList=[]:=List.eq_nil_of_length_eq_zero e
 have e3:bI s=[⟨#[]⟩]:=by unfold bI;rw[e2];rfl
 rw[e3] at h
 exact absurd h.2 (by decide)
theorem bIt {s:ByteArray}(h:iM s=true):decide ((bE2 s).size=0)=false:=by
 have hs:=Nw h
 have hp:=aIl s
 unfold bE2
 rw[h,cond_true]
 refine decide_eq_false ?_
 cases h1:(bI s).length==1 with
 |true=>rw[cond_true];omega
 |false=>
  rw[cond_false]
  have:(bI s).length≠1:=by simpa using h1
  obtain⟨a,_,b,_,e⟩:=bJl (l:=bI s) (by omega)
  rw[e,ByteArray.size_append,ByteArray.size_append]
  have:(⟨#[46]⟩:ByteArray).size=1:=rfl
  omega
def lV (s:ByteArray)(seed:Int):Bool:=iM s&&decide (2≤(bI s).length)&&dP seed
def Zx (l:List D.aAG)(i:Nat)(n:D.aAG):Bool:= !dW n||(decide (0<i)&&decide ((l.getD (i-1) default).Id≥n.Id))
def nU (s:D.Site):Bool:=lV s.Name s.Book.Seed&&decide (s.Accounts.length≤8)&&nT s.Book&& !kS (Zx s.Accounts) 0 s.Accounts
def SOk (s:D.Site):Prop:=s.Name.size≤34359738368∧s.Accounts.length≤34359738368∧s.Book.Open.length≤34359738368∧∀a∈s.Accounts,a.Credentials.length≤34359738368
instance (s:D.Site):Decidable (SOk s):=inferInstanceAs (Decidable (_∧_))
def vL (name:ByteArray)(seed:Int):D.Site:=bif lV name seed then⟨name,[],⟨seed,0,[]⟩,[]⟩ else⟨⟨#[]⟩,[],⟨0,0,[]⟩,[]⟩
theorem bBs (name:ByteArray)(seed:Int):decide ((vL name seed).Name.size=0)= !lV name seed:=by
 unfold vL
 cases h:lV name seed with
 |false=>rfl
 |true=>
  have:iM name=true:=by unfold lV at h;rw[Bool.and_eq_true,Bool.and_eq_true] at h;exact h.1.1
  have:=Nw this
  exact decide_eq_false (by show ¬name.size=0;omega)
def bD (i:Int):ByteArray:=bif i==0 then⟨#[98,97,110,107,46,99,111,109]⟩ else bif i==1 then⟨#[115,104,111,112,46,111,114,103]⟩ else⟨#[]⟩
def vM (i:Nat)(s:D.Site):Bool:= !nU s|| !(s.Name.toList==(bD (i:Int)).toList)
def dU (w:D.World):Bool:=dG w.Now 0 999900&&dG (w.Devices.length:Int) 1 6&&(w.Stolen.length:Int)==(w.Devices.length:Int)&&(w.Sites.length:Int)==2&&eZ w.Mail&&cB w.aAH.Log&&dP w.Seed&& !kS vM 0 w.Sites
def bLl (w:D.World):Prop:=WOk w∧w.Mail.Notices.length≤34359738368∧w.Hosts.length≤34359738368∧∀s∈w.Sites,SOk s
instance (w:D.World):Decidable (bLl w):=inferInstanceAs (Decidable (_∧_))
theorem aXf {α:Type}{g:α→Nat}{x:α}:∀{l:List α},x∈l→g x≤(l.map g).sum
 |y::r,h=>by
  rw[List.map_cons,List.sum_cons]
  rcases List.mem_cons.1 h with rfl|h
  ·omega
  ·have:=aXf (g:=g) h;omega
theorem SOk.of {s:D.Site}(h:s.sz≤1048576):SOk s:=by
 simp only[D.Site.sz] at h
 refine⟨by omega,by omega,by omega,fun a ha=> ?_⟩
 have:=aXf (g:=D.aAG.sz) ha
 simp only[D.aAG.sz] at this h
 omega
theorem bLl.of {w:D.World}(h:w.sz≤1048576):bLl w:=by
 refine⟨WOk.of h,?_,?_,fun s hs=>SOk.of ?_⟩
 ·simp only[D.World.sz] at h;omega
 ·simp only[D.World.sz] at h;omega
 ·have:=aXf (g:=D.Site.sz) hs
  simp only[D.World.sz] at h;omega
abbrev vN (a:List Int)(r:List (List Int)):Prop:=a.length+r.flatten.length≤68719476736∧r.length≤1099511627776
def dX (a b:D.Entry):Bool:=decide (a.Site<b.Site)||(a.Site==b.Site&&decide (a.Handle<b.Handle))
def iJ (a:D.Entry)(s h:Int):Bool:=decide (a.Site<s)||(a.Site==s&&decide (a.Handle<h))
def vO (x e:D.Entry):Bool:=decide (x.Version>e.Version)||(x.Version==e.Version&&x.Deleted)
def tC (e x:D.Entry):D.Entry:=bif vO x e then x else e
def dQ:List D.Entry→List D.Entry→List D.Entry
 |[],bs=>bs
 |a::xs,[]=>a::xs
 |a::xs,b::bs=>bif dX a b then a::dQ xs (b::bs) else bif dX b a then b::dQ (a::xs) bs else tC a b::dQ xs bs
termination_by xs bs=>xs.length+bs.length
def W9 (l:List D.Entry)(i:Nat)(e:D.Entry):Bool:= !dG e.Site 0 2147483646||(!dG e.Handle 0 1000000||(!dG e.Version 1 1000000||(decide ((i:Int)>0)&& !dX (l.getD (i-1) default) e)))
def aJ (b:D.aAD):Bool:=decide ((b.Entries.length:Int)≤20)&& !kS (W9 b.Entries) 0 b.Entries
def lH (a b:D.aAD):D.aAD×Bool:=bif aJ a&&aJ b then(bif aJ ⟨dQ a.Entries b.Entries⟩ then(⟨dQ a.Entries b.Entries⟩,true) else(a,false)) else(a,false)
def nV (b:D.aAD)(x:D.Entry):D.aAD:=bif decide (aH b x.Site x.Handle≥0) then⟨b.Entries.set (aH b x.Site x.Handle).toNat x⟩ else⟨b.Entries.takeWhile (fun e=>iJ e x.Site x.Handle)++[x]++b.Entries.dropWhile (fun e=>iJ e x.Site x.Handle)⟩
theorem Aw {a b:D.Entry}:dX a b=true↔a.Site<b.Site∨(a.Site=b.Site∧a.Handle<b.Handle):=by
 simp[dX]
theorem bBt {a x:D.Entry}:iJ a x.Site x.Handle=dX a x:=rfl
theorem Ny {a b c:D.Entry}(h:dX a b=true)(k:dX b c=true):dX a c=true:=by
 rw[Aw] at*;omega
theorem Zy {a b:D.Entry}(h:dX a b=false)(k:dX b a=false):a.Site=b.Site∧a.Handle=b.Handle:=by
 have h1:¬(a.Site<b.Site∨(a.Site=b.Site∧a.Handle<b.Handle)):=fun q=>by rw[Aw.2 q] at h;cases h
 have h2:¬(b.Site<a.Site∨(b.Site=a.Site∧b.Handle<a.Handle)):=fun q=>by rw[Aw.2 q] at k;cases k
 omega
theorem Tw {a b c:D.Entry}(h:a.Site=b.Site∧a.Handle=b.Handle):dX a c=dX b c:=by
 unfold dX;rw[h.1,h.2]
theorem aNo {a b c:D.Entry}(h:a.Site=b.Site∧a.Handle=b.Handle):dX c a=dX c b:=by
 unfold dX;rw[h.1,h.2]
theorem aZx {a b:D.Entry}(h:a.Site=b.Site∧a.Handle=b.Handle):(tC a b).Site=b.Site∧(tC a b).Handle=b.Handle:=by
 unfold tC
 cases vO b a
 ·exact h
 ·exact⟨rfl,rfl⟩
theorem bIu (a b:D.Entry):tC a b=a∨tC a b=b:=by
 unfold tC
 cases vO b a
 ·exact .inl rfl
 ·exact .inr rfl
theorem fA (l:List D.Entry):dQ l []=l:=by cases l<;>rw[dQ]
theorem kE (l:List D.Entry):dQ [] l=l:=by rw[dQ]
theorem uX:∀(n:Nat) (a b:List D.Entry),a.length+b.length≤n→(dQ a b).length≤a.length+b.length
 |_,[],b,_=>by rw[kE];simp
 |_,a::xs,[],_=>by rw[fA];simp
 |0,a::xs,b::bs,h=>by simp at h
 |n+1,a::xs,b::bs,h=>by
  simp only[List.length_cons] at h
  rw[dQ]
  cases dX a b with
  |true=>have:=uX n xs (b::bs) (by simp only[List.length_cons];omega);simp only[cond_true,List.length_cons] at*;omega
  |false=>
   cases dX b a with
   |true=>have:=uX n (a::xs) bs (by simp only[List.length_cons];omega);simp only[cond_false,cond_true,List.length_cons] at*;omega
   |false=>have:=uX n xs bs (by omega);simp only[cond_false,List.length_cons] at*;omega
theorem Zz (a b:D.Entry)(xs bs:List D.Entry):dQ (a::xs) (b::bs)=bif dX a b then a::dQ xs (b::bs) else bif dX b a then b::dQ (a::xs) bs else tC a b::dQ xs bs:=by rw[dQ]
def srt (l:List D.Entry):Prop:=l.Pairwise fun a b=>dX a b=true
theorem aVs:∀(A:List D.Entry) {b:D.Entry} {bs:List D.Entry},srt (b::bs)→dQ (dQ A [b]) bs=dQ A (b::bs)
 |[],b,bs,h=>by
  rw[kE,kE]
  cases bs with
  |nil=>rw[fA]
  |cons c cs=>rw[dQ,(List.pairwise_cons.1 h).1 c (by simp),cond_true,kE]
 |a::xs,b,bs,h=>by
  have hc:=(List.pairwise_cons.1 h).1
  rw[Zz a b xs [],Zz a b xs bs]
  cases h1:dX a b with
  |true=>
   simp only[cond_true]
   cases bs with
   |nil=>rw[fA]
   |cons c cs=>rw[dQ,Ny h1 (hc c (by simp)),cond_true,aVs xs h]
  |false=>
   cases h2:dX b a with
   |true=>
    simp only[cond_true,cond_false]
    rw[fA]
    cases bs with
    |nil=>rw[fA,fA]
    |cons c cs=>rw[dQ,hc c (by simp),cond_true]
   |false=>
    simp only[cond_false]
    rw[fA]
    cases bs with
    |nil=>rw[fA,fA]
    |cons c cs=>rw[dQ,Tw (aZx (Zy h1 h2)),hc c (by simp),cond_true]
theorem bC7:∀{l:List D.Entry} {x y:D.Entry},y∈dQ l [x]→y∈l∨y=x
 |[],x,y,h=>by rw[kE] at h;simp at h;exact .inr h
 |a::xs,x,y,h=>by
  rw[dQ] at h
  cases h1:dX a x with
  |true=>
   rw[h1,cond_true] at h
   rcases List.mem_cons.1 h with rfl|h
   ·exact .inl (by simp)
   ·exact(bC7 h).imp (fun h=>by simp[h]) id
  |false=>
   rw[h1,cond_false] at h
   cases h2:dX x a with
   |true=>
    rw[h2,cond_true,fA] at h
    rcases List.mem_cons.1 h with rfl|h
    ·exact .inr rfl
    ·exact .inl h
   |false=>
    rw[h2,cond_false,fA] at h
    rcases List.mem_cons.1 h with rfl|h
    ·rcases bIu a x with e|e
     ·rw[e];exact .inl (by simp)
     ·exact .inr e
    ·exact .inl (by simp[h])
theorem bC8:∀{l:List D.Entry} {x:D.Entry},srt l→srt (dQ l [x])
 |[],x,h=>by rw[kE];exact List.pairwise_singleton _ _
 |a::xs,x,h=>by
  obtain⟨ha,hs⟩:=List.pairwise_cons.1 h
  rw[dQ]
  cases h1:dX a x with
  |true=>
   rw[cond_true]
   refine List.pairwise_cons.2 ⟨fun y hy=> ?_,bC8 hs⟩
   rcases bC7 hy with hy|rfl
   ·exact ha y hy
   ·exact h1
  |false=>
   cases h2:dX x a with
   |true=>
    rw[cond_false,cond_true,fA]
    refine List.pairwise_cons.2 ⟨fun y hy=> ?_,h⟩
    rcases List.mem_cons.1 hy with rfl|hy
    ·exact h2
    ·exact Ny h2 (ha y hy)
   |false=>
    rw[cond_false,cond_false,fA]
    have hk:=Zy h1 h2
    refine List.pairwise_cons.2 ⟨fun y hy=> ?_,hs⟩
    rw[Tw (aZx hk),←Tw hk];exact ha y hy
theorem aNp:∀(B A:List D.Entry),srt B→B.foldl (fun o x=>dQ o [x]) A=dQ A B
 |[],A,_=>by rw[fA];rfl
 |b::bs,A,h=>by rw[List.foldl_cons,aNp bs _ (List.pairwise_cons.1 h).2,aVs A h]
theorem aZy {α:Type}{p:α→Bool}:∀{l:List α} {i:Nat},jW p i l<0→∀y∈l,p y=false
 |[],i,_,y,hy=>by simp at hy
 |x::l,i,h,y,hy=>by
  simp only[jW] at h
  cases hp:p x with
  |true=>rw[hp,cond_true] at h;omega
  |false=>
   rw[hp,cond_false] at h
   rcases List.mem_cons.1 hy with rfl|hy
   ·exact hp
   ·exact aZy h y hy
theorem aDg {α:Type}{p:α→Bool}:∀{l:List α} {i:Nat},0≤jW p i l→∃l1 e l2,l=l1++e::l2∧p e=true∧jW p i l=((i+l1.length:Nat):Int)
 |[],i,h=>by simp[jW] at h
 |x::l,i,h=>by
  simp only[jW] at h ⊢
  cases hp:p x with
  |true=>exact⟨[],x,l,rfl,hp,by simp⟩
  |false=>
   rw[hp,cond_false] at h
   obtain⟨l1,e,l2,h1,h2,h3⟩:=aDg h
   exact⟨x::l1,e,l2,by rw[h1];rfl,h2,by rw[cond_false,h3];simp only[List.length_cons];omega⟩
theorem bC9:∀{l:List D.Entry} {x:D.Entry},(∀y∈l,(y.Site==x.Site&&y.Handle==x.Handle)=false)→dQ l [x]=l.takeWhile (fun e=>iJ e x.Site x.Handle)++[x]++l.dropWhile (fun e=>iJ e x.Site x.Handle)
 |[],x,_=>by rw[kE];rfl
 |a::xs,x,h=>by
  rw[dQ,List.takeWhile_cons,List.dropWhile_cons,bBt]
  cases h1:dX a x with
  |true=>simp only[cond_true,if_true];rw[bC9 (fun y hy=>h y (by simp[hy]))];rfl
  |false=>
   cases h2:dX x a with
   |true=>simp only[cond_false,cond_true];rw[fA];rfl
   |false=>
    have:=Zy h1 h2
    have:=h a (by simp)
    simp_all
theorem bDa {e x:D.Entry}{l2:List D.Entry}(he:(e.Site==x.Site&&e.Handle==x.Handle)=true):∀{l1:List D.Entry},srt (l1++e::l2)→dQ (l1++e::l2) [x]=l1++tC e x::l2
 |[],_=>by
  have hk:e.Site=x.Site∧e.Handle=x.Handle:=by simpa using he
  have h1:dX e x=false:=by
   cases h:dX e x with
   |false=>rfl
   |true=>rw[Aw] at h;omega
  have h2:dX x e=false:=by
   cases h:dX x e with
   |false=>rfl
   |true=>rw[Aw] at h;omega
  rw[List.nil_append,dQ,h1,cond_false,h2,cond_false,fA];rfl
 |a::l1,h=>by
  obtain⟨ha,hs⟩:=List.pairwise_cons.1 h
  have hk:e.Site=x.Site∧e.Handle=x.Handle:=by simpa using he
  have h1:dX a x=true:=by rw[←aNo hk];exact ha e (by simp)
  rw[List.cons_append,dQ,h1,cond_true,bDa he hs];rfl
theorem bG6 {l:List D.Entry}{x:D.Entry}(h:srt l):(bif (decide (aH ⟨l⟩ x.Site x.Handle<0)||vO x (l.getD (aH ⟨l⟩ x.Site x.Handle).toNat default)) then(nV ⟨l⟩ x).Entries else l)=dQ l [x]:=by
 unfold nV
 by_cases hf:aH ⟨l⟩ x.Site x.Handle<0
 ·rw[decide_eq_true hf,Bool.true_or,cond_true,show decide (aH ⟨l⟩ x.Site x.Handle≥0)=false from decide_eq_false (by omega),cond_false]
  exact(bC9 (aZy hf)).symm
 ·obtain⟨l1,e,l2,h1,h2,h3⟩:=aDg (show 0≤jW (fun e=>e.Site==x.Site&&e.Handle==x.Handle) 0 l from by unfold aH at hf;simp only at hf;omega)
  have h3':aH ⟨l⟩ x.Site x.Handle=(l1.length:Int):=by unfold aH;rw[h3];simp
  rw[h3',decide_eq_false (by omega),Bool.false_or,show decide ((l1.length:Int)≥0)=true from decide_eq_true (by omega),cond_true,Int.toNat_natCast]
  subst h1
  rw[bDa h2 h]
  have g:(l1++e::l2).getD l1.length default=e:=by simp[List.getD]
  have st:(l1++e::l2).set l1.length x=l1++x::l2:=by simp
  rw[g]
  show(bif vO x e then(l1++e::l2).set l1.length x else l1++e::l2)=_
  rw[st]
  unfold tC
  cases vO x e<;>rfl
theorem bDb {α:Type}{p:Nat→α→Bool}:∀{l:List α} {j:Nat},kS p j l=false→∀(i:Nat) (hi:i<l.length),p (j+i) l[i]=false
 |[],j,_,i,hi=>by simp at hi
 |x::l,j,h,i,hi=>by
  simp only[kS,Bool.or_eq_false_iff] at h
  cases i with
  |zero=>exact h.1
  |succ i=>have:=bDb h.2 i (by simpa using hi);rw[show j+(i+1)=j+1+i by omega];exact this
theorem aXg {b:D.aAD}(h:aJ b=true):b.Entries.length≤20∧srt b.Entries:=by
 simp only[aJ,Bool.and_eq_true,decide_eq_true_eq,Bool.not_eq_true'] at h
 refine⟨by omega,?_⟩
 have adj:∀i (hi:i+1<b.Entries.length),dX b.Entries[i] b.Entries[i+1]=true:=fun i hi=>by
  have:=bDb h.2 (i+1) hi
  simp only[W9,Bool.or_eq_false_iff,Nat.zero_add] at this
  have h4:=this.2.2.2
  rw[decide_eq_true (by omega),Bool.true_and] at h4
  have h5:(b.Entries.getD (i+1-1) default)=b.Entries[i]:=by rw[Nat.add_sub_cancel,List.getD,List.getElem?_eq_getElem (by omega),Option.getD_some]
  rw[h5] at h4;simpa using h4
 have far:∀d i (hi:i+d+1<b.Entries.length),dX b.Entries[i] b.Entries[i+d+1]=true:=fun d=>by
  induction d with
  |zero=>exact fun i hi=>adj i hi
  |succ d ih=>exact fun i hi=>Ny (ih i (by omega)) (adj (i+d+1) (by omega))
 refine List.pairwise_iff_getElem.2 fun i j hi hj hij=> ?_
 obtain⟨d,rfl⟩:∃d,j=i+d+1:=⟨j-i-1,by omega⟩
 exact far d i hj
theorem fF {α β:Type}{s:List α}(hs:s.length≤34359738368)(x:α)(k:Option β):gd (bJ s [x]) k=k:=aC (by unfold bJ;simp only[List.length_singleton];omega)
theorem lI {α β:Type}{s:List α}(hs:s.length≤34359738368)(k:Option β):gd (bJ [] s) k=k:=aC (by unfold bJ;simp only[List.length_nil];omega)
theorem aZz {α:Type}{l s:List α}:l.foldl (fun s x=>s++[x]) s=s++l:=by
 have:=aDd (f:=fun x:α=>[x]) (l:=l) (s:=s)
 rw[this];congr 1
 induction l with
 |nil=>rfl
 |cons x l ih=>simp[ih]
theorem X3 {α:Type}{l:List α}{F:(Nat×List α→Option (List α))→Nat×List α→Option (List α)}(hl:l.length≤34359738368)
  (hF:∀rec i s (hi:i<l.length),s.length≤34359738368→F rec (i,s)=rec (i+1,s++[l[i]])) (hE:∀rec s,F rec (l.length,s)=some s):EV.bU FUEL F (0,[])=some l:=by
 rw[aVp (l:=l) (fun s x=>s++[x]) (fun i s=>s.length=i) (fun s=>some s) (by omega) rfl (fun i s hi hv=>by simp;omega) (fun rec i s hi hv=>hF rec i s hi (by omega)) (fun rec s _=>hE rec s),aZz,List.nil_append]
theorem bG7 {α:Type}{l:List α}{F:(List α×Nat→Option (List α))→List α×Nat→Option (List α)}(hl:l.length≤34359738368)
  (hF:∀rec i s (hi:i<l.length),s.length≤34359738368→F rec (s,i)=rec (s++[l[i]],i+1)) (hE:∀rec s,F rec (s,l.length)=some s):EV.bU FUEL F ([],0)=some l:=by
 rw[fK (l:=l) (fun s x=>s++[x]) (fun i s=>s.length=i) (fun s=>some s) (by omega) rfl (fun i s hi hv=>by simp;omega) (fun rec i s hi hv=>hF rec i s hi (by omega)) (fun rec s _=>hE rec s),aZz,List.nil_append]
abbrev szL {α:Type}(f:α→Nat)(l:List α):Nat:=l.length+(l.map f).sum
theorem iN {S τ:Type}{F:(S→Option τ)→S→Option τ}{n:Nat}{s:S}:EV.bU (n+1) F s=F (EV.bU n F) s:=rfl
theorem kF {α:Type}{c:Bool}{x y:α}:(bif c then some x else some y)=some (bif c then x else y):=by cases c<;>rfl
theorem Ay {c d:Bool}:(bif c then some true else some d)=some (c||d):=by cases c<;>rfl
theorem X4 {α:Type}{p:Nat→α→Bool}:∀(l:List α) (j:Nat),kS p j l=true↔∃(i:Nat) (hi:i<l.length),p (j+i) l[i]=true
 |[],j=>by simp[kS]
 |x::xs,j=>by
  simp only[kS,Bool.or_eq_true,X4 xs]
  constructor
  ·rintro(h|⟨i,hi,h⟩)
   ·exact⟨0,by simp,h⟩
   ·exact⟨i+1,by simpa using hi,by rw[show j+(i+1)=j+1+i by omega];exact h⟩
  ·rintro⟨i,hi,h⟩
   cases i with
   |zero=>exact .inl h
   |succ i=>exact .inr ⟨i,by simpa using hi,by rw[show j+1+i=j+(i+1) by omega];exact h⟩
theorem d9 {α:Type}{p:Nat→α→Bool}{l:List α}:kS p 0 l=false↔∀(i:Nat) (hi:i<l.length),p i l[i]=false:=by
 constructor
 ·intro h i hi
  cases hc:p i l[i] with
  |false=>rfl
  |true=>rw[(X4 l 0).2 ⟨i,hi,by rw[Nat.zero_add];exact hc⟩] at h;cases h
 ·intro h
  cases hc:kS p 0 l with
  |false=>rfl
  |true=>
   obtain⟨i,hi,hp⟩:=(X4 l 0).1 hc
   rw[Nat.zero_add,h i hi] at hp;cases hp
theorem bJn {α β:Type}{l:List α}(f:α→β){s0:List β}{F:(List β×Nat→Option (List β))→List β×Nat→Option (List β)}(hl:s0.length+l.length≤34359738368)
  (hF:∀rec i s (hi:i<l.length),s.length≤34359738368→F rec (s,i)=rec (s++[f l[i]],i+1)) (hE:∀rec s,F rec (s,l.length)=some s):EV.bU FUEL F (s0,0)=some (s0++l.map f):=by
 rw[fK (l:=l) (fun s x=>s++[f x]) (fun i s=>s.length=s0.length+i) (fun s=>some s) (by omega) (by simp) (fun i s hi hv=>by simp;omega) (fun rec i s hi hv=>hF rec i s hi (by omega)) (fun rec s _=>hE rec s),aVq]
theorem bIv {i:Int}{n:Nat}(h:n≤34359738368):(!dG i 0 (IntKind.i64.wrap ((n:Int)-1)))=(decide (i<0)||decide (i≥(n:Int))):=by
 rw[aP (by omega) (by omega)]
 unfold dG
 by_cases h0:i<0
 ·rw[decide_eq_true h0,decide_eq_false (show ¬0≤i by omega)];rfl
 ·rw[decide_eq_false h0,decide_eq_true (show 0≤i by omega)]
  by_cases h1:i≥(n:Int)
  ·rw[decide_eq_true h1,decide_eq_false (show ¬i≤(n:Int)-1 by omega)];rfl
  ·rw[decide_eq_false h1,decide_eq_true (show i≤(n:Int)-1 by omega)];rfl
theorem X5 {α:Type}[Inhabited α]{l:List α}{i:Int}(h0:0≤i)(h1:i<(l.length:Int)):aL l i=some (l.getD i.toNat default):=by
 rw[nK h0 (by omega)];simp[List.getD,List.getElem?_eq_getElem (show i.toNat<l.length by omega)]
theorem aXh {i:Int}{n:Nat}(h:(decide (i<0)||decide (i≥(n:Int)))=false):0≤i∧i<(n:Int):=by
 simp only[Bool.or_eq_false_iff,decide_eq_false_iff_not] at h;omega
theorem aMc {α:Type}[Inhabited α]{f:α→Nat}{l:List α}{i:Nat}(h:i<l.length):f (l.getD i default)≤(l.map f).sum:=by
 rw[List.getD,List.getElem?_eq_getElem h];exact dM h
theorem bG8 {α:Type}{n:Nat}{x:α}{β:Type}{k:Option β}(h:n≤68719476736):gd (eD n x x) k=k:=aC ⟨rfl,by omega⟩
theorem bG9 {α:Type}[BEq α][ReflBEq α]{r:α}:(!r==r)=false:=by rw[beq_self_eq_true];rfl
def cS (l:List D.aAO)(i:Nat)(k:Int):Bool:=(l.take i).any fun q=>q.Index==k
theorem bLm {c d:Bool}:(bif c then some d else some false)=some (c&&d):=by cases c<;>rfl
def bHa (b:D.aAD)(s h:Int):Int:=bif decide (aH b s h≥0) then IntKind.i64.wrap ((b.Entries.getD (aH b s h).toNat default).Version+1) else 1
def mW (b:D.aAD)(s h:Int):D.Entry:=⟨s,h,bHa b s h,false⟩
def aDh (b:D.aAD)(s h:Int):D.aAD×Bool:=bif !(decide (aH b s h≥0)&& !(b.Entries.getD (aH b s h).toNat default).Deleted)&&(aJ b&&aJ (nV b (mW b s h))) then(nV b (mW b s h),true) else(b,false)
def aI4 (b:D.aAD)(s h:Int):D.Entry:=⟨s,h,IntKind.i64.wrap ((b.Entries.getD (aH b s h).toNat default).Version+1),true⟩
def aDi (b:D.aAD)(s h:Int):D.aAD×Bool:=bif !aJ b||(decide (aH b s h<0)||((b.Entries.getD (aH b s h).toNat default).Deleted||(b.Entries.getD (aH b s h).toNat default).Version==1000000)) then(b,false) else(nV b (aI4 b s h),true)
def Fx (d:D.Device)(n:ByteArray)(h:Int)(rm:Bool):D.aAD×Bool:=bif rm then aDi d.aAD (gW n) h else aDh d.aAD (gW n) h
def fC (d:D.Device)(n:ByteArray)(h:Int)(rm:Bool):D.Device×Bool:=bif (Fx d n h rm).2 then({d with aAD:=(Fx d n h rm).1},true) else(d,false)
theorem bDc (b:List Int):(sS b).length=b.length+1:=by simp[sS,Nat.add_comm]
theorem aMd (l:List Int):List.map (fun(n:Int)=>n) l=l:=List.map_id l
theorem aZ1 (b:D.aAD)(x:D.Entry):(nV b x).Entries.length≤b.Entries.length+1:=by
 unfold nV
 cases decide (aH b x.Site x.Handle≥0) with
 |true=>simp
 |false=>
  have:=congrArg List.length (List.takeWhile_append_dropWhile (p:=fun e=>iJ e x.Site x.Handle) (l:=b.Entries))
  simp only[List.length_append] at this
  simp only[cond_false,List.length_append,List.length_singleton];omega
theorem bIw (b:D.aAD)(s h:Int):(aDh b s h).1.Entries.length≤b.Entries.length+1:=by
 unfold aDh
 have:=aZ1 b (mW b s h)
 cases(!(decide (aH b s h≥0)&& !(b.Entries.getD (aH b s h).toNat default).Deleted)&&(aJ b&&aJ (nV b (mW b s h)))) with
 |true=>exact this
 |false=>simp
theorem bIx (b:D.aAD)(s h:Int):(aDi b s h).1.Entries.length≤b.Entries.length+1:=by
 unfold aDi
 have:=aZ1 b (aI4 b s h)
 cases(!aJ b||(decide (aH b s h<0)||((b.Entries.getD (aH b s h).toNat default).Deleted||(b.Entries.getD (aH b s h).toNat default).Version==1000000))) with
 |true=>simp
 |false=>exact this
theorem Tx (d:D.Device)(n:ByteArray)(h:Int)(rm:Bool):(fC d n h rm).1.sz≤d.sz+1:=by
 unfold fC
 have:(Fx d n h rm).1.Entries.length≤d.aAD.Entries.length+1:=by
  unfold Fx;cases rm with
  |true=>exact bIx _ _ _
  |false=>exact bIw _ _ _
 cases(Fx d n h rm).2 with
 |true=>simp only[cond_true,D.Device.sz];omega
 |false=>simp
def iO (c:D.aAH)(b:Int):D.aAA×Bool:=bif decide (b<0)||decide (b≥(c.History.length:Int)) then(⟨0,0,[],0⟩,false) else(c.History.getD (c.History.length-1-b.toNat) default,true)
def bIy (a b:D.aAB):Bool:=a.Index==b.Index&&(a.Kind==b.Kind&&(a.Device==b.Device&&(a.By==b.By&&(a.Previous==b.Previous&&(a.Signature==b.Signature&&true)))))
def dY (a b:List D.aAB):Bool:=decide (b.length≤a.length)&& !kS (fun i e=> !bIy (a.getD i default) e) 0 b
def iK (k:Int)(b:D.aAA):Int:=eP k ([227,b.Epoch,b.Version]++sS b.Data)
def lJ (k e v:Int):Int:=eU k [223,e,v]
def uvE:Nat→Int→List Int
 |0,n=>[n]
 |k+1,n=>bif decide (n>127) then(n%128+128)::uvE k (n/128) else[n]
theorem aXi:∀(k:Nat) (n:Int),1≤(uvE k n).length∧(uvE k n).length≤k+1
 |0,n=>by simp[uvE]
 |k+1,n=>by
  have:=aXi k (n/128)
  unfold uvE
  cases decide (n>127)<;>simp<;>omega
theorem bIz {k:Nat}{z:Int}(h:z≤127):uvE k z=[z]:=by
 cases k with
 |zero=>rfl
 |succ k=>unfold uvE;rw[decide_eq_false (by omega)];rfl
theorem bDd:∀(k:Nat) (m n:Int) (x y:List Int),0≤m→0≤n→uvE k m++x=uvE k n++y→m=n∧x=y
 |0,m,n,x,y,_,_,h=>by simpa[uvE] using h
 |k+1,m,n,x,y,h0,h1,h=>by
  unfold uvE at h
  by_cases hm:m>127<;>by_cases hn:n>127
  ·simp only[decide_eq_true hm,decide_eq_true hn,cond_true,List.cons_append,List.cons.injEq] at h
   have:=bDd k (m/128) (n/128) x y (by omega) (by omega) h.2
   exact⟨by omega,this.2⟩
  ·simp only[decide_eq_true hm,decide_eq_false hn,cond_true,cond_false,List.cons_append,List.cons.injEq] at h;omega
  ·simp only[decide_eq_false hm,decide_eq_true hn,cond_true,cond_false,List.cons_append,List.cons.injEq] at h;omega
  ·simpa only[decide_eq_false hm,decide_eq_false hn,cond_false,List.cons_append,List.nil_append,List.cons.injEq] using h
theorem aZ2 {F:(Int×List Int→Option (Int×List Int))→Int×List Int→Option (Int×List Int)}
  (hF:∀rec (n:Int) (s:List Int),0≤n→n<9223372036854775807→s.length≤34359738368→F rec (n,s)=bif decide (n>127) then rec (n/128,s++[n%128+128]) else some (n,s)):
  ∀(k:Nat) (n:Int) (s:List Int) (f:Nat),k<f→0≤n→n<128^(k+1)→k≤6→s.length+k≤34359738368→∃m q,EV.bU f F (n,s)=some (m,q)∧q++[m]=s++uvE k n∧0≤m∧m≤127
 |0,n,s,f+1,hf,h0,h1,_,hs=>by
  refine⟨n,s,?_,rfl,h0,by simp at h1;omega⟩
  rw[iN,hF _ _ _ h0 (by simp at h1;omega) (by omega),decide_eq_false (by simp at h1;omega)];rfl
 |k+1,n,s,f+1,hf,h0,h1,hk,hs=>by
  have h2:(128:Int)^(k+1+1)=128*128^(k+1):=by rw[Int.pow_succ];omega
  have h3:(128:Int)^(k+1+1)≤128^8:=by exact_mod_cast Nat.pow_le_pow_right (by omega) (by omega)
  have h4:(128:Int)^8=72057594037927936:=by decide
  rw[iN,hF _ _ _ h0 (by omega) (by omega)]
  unfold uvE
  by_cases hn:n>127
  ·rw[decide_eq_true hn,cond_true,cond_true]
   obtain⟨m,q,e1,e2,e3⟩:=aZ2 hF k (n/128) (s++[n%128+128]) f (by omega) (by omega) (by omega) (by omega) (by simp;omega)
   exact⟨m,q,e1,by rw[e2];simp,e3⟩
  ·rw[decide_eq_false hn,cond_false,cond_false]
   exact⟨n,s,rfl,rfl,h0,by omega⟩
theorem bI0 {n:Int}(h0:0≤n)(h1:n<9223372036854775808):xV .i64 n 127=n%128:=by
 obtain⟨m,rfl⟩:=Int.eq_ofNat_of_zero_le h0
 have e:((BitVec.ofInt 64 (m:Int))&&&(BitVec.ofInt 64 127)).toNat=m%128:=by
  rw[BitVec.toNat_and]
  have e1:(BitVec.ofInt 64 (m:Int)).toNat=m:=by rw[BitVec.toNat_ofInt];omega
  have e2:(BitVec.ofInt 64 127).toNat=2^7-1:=by decide
  rw[e1,e2,Nat.and_two_pow_sub_one_eq_mod]
 show IntKind.i64.wrap (((BitVec.ofInt 64 (m:Int))&&&(BitVec.ofInt 64 127)).toNat:Int)=_
 rw[e,aP (by omega) (by omega)];omega
theorem bLn {n:Int}(h0:0≤n)(h1:n<128):orI .i64 n 128=n+128:=by
 obtain⟨m,rfl⟩:=Int.eq_ofNat_of_zero_le h0
 have e:((BitVec.ofInt 64 (m:Int))|||(BitVec.ofInt 64 128)).toNat=m+128:=by
  rw[BitVec.toNat_or]
  have e1:(BitVec.ofInt 64 (m:Int)).toNat=m:=by rw[BitVec.toNat_ofInt];omega
  have e2:(BitVec.ofInt 64 128).toNat=1<<<7:=by decide
  have:=Nat.shiftLeft_add_eq_or_of_lt (b:=m) (i:=7) (by omega) 1
  rw[e1,e2,Nat.or_comm,←this];omega
 show IntKind.i64.wrap (((BitVec.ofInt 64 (m:Int))|||(BitVec.ofInt 64 128)).toNat:Int)=_
 rw[e,aP (by omega) (by omega)];omega
theorem bMk {n:Int}(h0:0≤n):aCw .i64 n 7=n/128:=by
 unfold aCw
 rw[show min (Int.toNat 7) IntKind.i64.bits=7 from by decide,Int.fdiv_eq_ediv_of_nonneg _ (by decide)];rfl
theorem aNr {n:Int}(h0:0≤n)(h1:n≤255):IntKind.u8.wrap n=n:=by rw[IntKind.wrap_u8];omega
def enc1 (n:Int):List Int:=bif dG n 0 1000000000000 then uvE 5 n else[]
def nW (b:List Int)(n:Int):List Int:=b++enc1 n
def kY (l:List Int):List Int:=(l.map enc1).flatten
theorem aNs (n:Int):(enc1 n).length≤6:=by
 have:=(aXi 5 n).2
 unfold enc1;cases dG n 0 1000000000000<;>simp<;>omega
theorem aXj {n:Int}(h:0≤n∧n≤1000000000000):enc1 n=uvE 5 n:=by
 unfold enc1 dG;rw[decide_eq_true h.1,decide_eq_true h.2];rfl
theorem uY (n:Int)(l:List Int):kY (n::l)=enc1 n++kY l:=rfl
theorem X6:∀l:List Int,(kY l).length≤6*l.length
 |[]=>by simp[kY]
 |n::l=>by
  have:=X6 l
  have:=aNs n
  rw[uY,List.length_append,List.length_cons];omega
def aZ3 (l:List Int):Prop:=∀v∈l,0≤v∧v≤(1000000000000:Int)
theorem aZ4:∀(s t x y:List Int),aZ3 s→aZ3 t→s.length=t.length→kY s++x=kY t++y→s=t∧x=y
 |[],[],x,y,_,_,_,h=>⟨rfl,h⟩
 |m::s,n::t,x,y,hs,ht,hl,h=>by
  have hm:=hs m (by simp)
  have hn:=ht n (by simp)
  rw[uY,uY,List.append_assoc,List.append_assoc,aXj hm,aXj hn] at h
  obtain⟨h1,h2⟩:=bDd 5 m n _ _ hm.1 hn.1 h
  obtain⟨h3,h4⟩:=aZ4 s t x y (fun v hv=>hs v (by simp[hv])) (fun v hv=>ht v (by simp[hv])) (by simpa using hl) h2
  exact⟨by rw[h1,h3],h4⟩
theorem bDe {b:List Int}(hb:aW b){p:Nat}:∀(k i:Nat) (n m e:Int),uvG b p (k+1) i n=(m,e,true)→∃(r:Int) (q:Nat),(0≤r∧m=n+r*128^i∧m≤1000000000000∧e=(q:Int)∧q≤b.length∧(0<i→r≠0))∧b.drop (p+i)=uvE k r++b.drop q
 |k,i,n,m,e,h=>by
  unfold uvG at h
  by_cases hlt:p+i<b.length
  ·rw[if_pos hlt] at h
   have hz:=rO hb hlt
   have hg:b.getD (p+i) 0=b[p+i]:=by simp[List.getD,List.getElem?_eq_getElem hlt]
   rw[hg] at h
   have hd:b.drop (p+i)=b[p+i]::b.drop (p+i+1):=List.drop_eq_getElem_cons hlt
   generalize b[p+i]=z at hz h hd
   by_cases h128:z<128
   ·rw[decide_eq_true h128,cond_true] at h
    have hzz:z%128=z:=by omega
    rw[hzz] at h
    cases hc:(decide (0<i)&&z==0)||decide (n+z*128^i>1000000000000) with
    |true=>rw[hc] at h;simp at h
    |false=>
     rw[hc,cond_false] at h
     rw[Bool.or_eq_false_iff] at hc
     have h1:=of_decide_eq_false hc.2
     injection h with e1 e2
     injection e2 with e2 e3
     refine⟨z,p+i+1,⟨hz.1,e1.symm,by omega,e2.symm,by omega,fun hi h0=> ?_⟩,by rw[hd,bIz (by omega)];rfl⟩
     subst h0
     simp[hi] at hc
   ·rw[decide_eq_false h128,cond_false] at h
    match k,h with
    |0,h=>simp[uvG] at h
    |k+1,h=>
     obtain⟨r,q,⟨h1,h2,h3,h4,h5,h6⟩,h7⟩:=bDe hb k (i+1) _ m e h
     have hr:=h6 (by omega)
     refine⟨z%128+128*r,q,⟨by omega,?_,h3,h4,h5,fun _=>by omega⟩,?_⟩
     ·rw[h2,Int.pow_succ,Int.add_mul,←Int.add_assoc]
      congr 1
      rw[Int.mul_comm 128 r,Int.mul_assoc,Int.mul_comm 128]
     ·rw[hd,show p+i+1=p+(i+1) from by omega,h7]
      have e1:uvE (k+1) (z%128+128*r)=z::uvE k r:=by
       rw[uvE,decide_eq_true (show z%128+128*r>127 by omega),cond_true,show(z%128+128*r)%128+128=z by omega,show(z%128+128*r)/128=r by omega]
      rw[e1];rfl
  ·rw[if_neg hlt] at h;simp at h
theorem aXk {b:List Int}(hb:aW b){a m e:Int}(h:xS b a=(m,e,true)):∃q:Nat,(0≤a∧0≤m∧m≤1000000000000∧e=(q:Int)∧q≤b.length)∧b.drop a.toNat=enc1 m++b.drop q:=by
 unfold xS at h
 by_cases h0:a<0
 ·rw[if_pos h0] at h;simp at h
 ·rw[if_neg h0] at h
  obtain⟨r,q,⟨h1,h2,h3,h4,h5,_⟩,h7⟩:=bDe hb 5 0 0 m e h
  have hm:m=r:=by rw[h2];simp
  subst hm
  exact⟨q,⟨by omega,h1,h3,h4,h5⟩,by rw[aXj ⟨h1,h3⟩];exact h7⟩
theorem Oa {b:List Int}(hb:aW b):∀(k:Nat) (a:Int) (s v:List Int) (e:Int),0≤a→a≤b.length→jV b k a s=(v,e,true)→∃(t:List Int) (q:Nat),(v=s++t∧t.length=k∧e=(q:Int)∧q≤b.length∧aZ3 t)∧b.drop a.toNat=kY t++b.drop q
 |0,a,s,v,e,h0,h1,h=>by
  unfold jV at h
  injection h with e1 e2
  injection e2 with e2 _
  exact⟨[],a.toNat,⟨by simp[e1],rfl,by omega,by omega,fun v hv=>by simp at hv⟩,rfl⟩
 |k+1,a,s,v,e,h0,h1,h=>by
  unfold jV at h
  cases hu:xS b a with
  |mk m r=>
   obtain⟨e',ok⟩:=r
   rw[hu] at h
   cases ok with
   |false=>simp at h
   |true=>
    obtain⟨q,⟨g0,g1,g2,g3,g4⟩,g5⟩:=aXk hb hu
    subst g3
    obtain⟨t,q',⟨k1,k2,k3,k4,k5⟩,k6⟩:=Oa hb k (q:Int) (s++[m]) v e (by omega) (by omega) h
    refine⟨m::t,q',⟨by rw[k1];simp,by simp[k2],k3,k4,fun x hx=> ?_⟩,by rw[g5,uY,List.append_assoc];congr 1⟩
    rcases List.mem_cons.1 hx with rfl|hx
    ·exact⟨g1,g2⟩
    ·exact k5 x hx
theorem aNt {b:List Int}:∀(j k:Nat) (a:Int) (s:List Int),jV b (j+k) a s=bif (jV b j a s).2.2 then jV b k (jV b j a s).2.1 (jV b j a s).1 else([],0,false)
 |0,k,a,s=>by rw[Nat.zero_add];rfl
 |j+1,k,a,s=>by
  have e:∀m,jV b (m+1) a s=bif (xS b a).2.2 then jV b m (xS b a).2.1 (s++[(xS b a).1]) else([],0,false):=fun _=>rfl
  rw[show j+1+k=j+k+1 by omega,e,e]
  cases(xS b a).2.2 with
  |false=>rfl
  |true=>exact aNt j k _ _
theorem aNu {b:List Int}:∀(k:Nat) (a:Int) (s:List Int),jV b k a s=bif (jV b k a []).2.2 then(s++(jV b k a []).1,(jV b k a []).2.1,true) else([],0,false)
 |0,a,s=>by simp[jV]
 |k+1,a,s=>by
  unfold jV
  cases(xS b a).2.2 with
  |false=>rfl
  |true=>
   simp only[cond_true,List.nil_append]
   rw[aNu k _ (s++[(xS b a).1]),aNu k _ [(xS b a).1]]
   cases(jV b k (xS b a).2.1 []).2.2<;>simp
def aZ5 (e:D.Entry):List Int:=[e.Site,e.Handle,e.Version,bif e.Deleted then 1 else 0]
def kT:List Int→List D.Entry
 |s::h::v::d::r=>⟨s,h,v,d==1⟩::kT r
 |_=>[]
def lW:List Int→Bool
 |_::_::_::d::r=>decide (d≤1)&&lW r
 |_=>true
def rQ (l:List D.Entry):List Int:=l.flatMap aZ5
theorem uZ:∀l:List D.Entry,(rQ l).length=4*l.length
 |[]=>rfl
 |e::l=>by
  have:=uZ l
  simp only[rQ,List.flatMap_cons,List.length_append,List.length_cons] at*
  rw[this];simp[aZ5];omega
theorem X7:∀(k:Nat) (l:List Int),l.length=4*k→(kT l).length=k
 |0,[],_=>rfl
 |k+1,s::h::v::d::r,hl=>by
  have:=X7 k r (by simp at hl;omega)
  simp[kT,this]
theorem aVt:∀(k:Nat) (l:List Int),l.length=4*k→aZ3 l→aZ3 (rQ (kT l))∧(lW l=true↔rQ (kT l)=l)
 |0,[],_,_=>⟨fun v h=>by simp[rQ,kT] at h,by simp[lW,rQ,kT]⟩
 |k+1,s::h::v::d::r,hl,ho=>by
  obtain⟨h1,h2⟩:=aVt k r (by simp at hl;omega) (fun x hx=>ho x (by simp[hx]))
  have hs:=ho s (by simp)
  have hh:=ho h (by simp)
  have hv:=ho v (by simp)
  have hd:=ho d (by simp)
  have e:rQ (kT (s::h::v::d::r))=s::h::v::(bif d==1 then 1 else 0)::rQ (kT r):=by simp[kT,rQ,aZ5]
  rw[e]
  refine⟨fun x hx=> ?_,?_⟩
  ·simp only[List.mem_cons] at hx
   rcases hx with rfl|rfl|rfl|rfl|hx
   ·exact hs
   ·exact hh
   ·exact hv
   ·cases(d==1)<;>simp
   ·exact h1 x hx
  ·simp only[lW,Bool.and_eq_true,decide_eq_true_eq,List.cons.injEq,true_and,h2]
   refine and_congr_left' ?_
   by_cases h1:d=1
   ·subst h1;simp
   ·rw[show(d==1)=false by simpa using h1,cond_false];omega
theorem aZ6:∀(k:Nat) (l r:List Int),l.length=4*k→kT (l++r)=kT l++kT r
 |0,[],r,_=>rfl
 |k+1,s::h::v::d::l,r,hl=>by
  have:=aZ6 k l r (by simp at hl;omega)
  simp[kT,this]
def rR (b:D.aAD):List Int:=[(b.Entries.length:Int)]++rQ b.Entries
def pF (b:D.aAD):List Int:=bif aJ b then kY (rR b) else[]
def bDf (d:List Int)(v:List Int×Int×Bool):D.aAD×Bool:=bif !v.2.2||(v.2.1 !=(d.length:Int)||(!lW v.1|| !aJ ⟨kT v.1⟩)) then(⟨[]⟩,false) else(⟨kT v.1⟩,true)
def Oc (d:List Int):D.aAD×Bool:=bif !(xS d 0).2.2||decide ((xS d 0).1>20) then(⟨[]⟩,false) else bDf d (jV d (4*(xS d 0).1).toNat (xS d 0).2.1 [])
def kU (key:Int)(s:D.aAA):D.aAD×Bool:=bif !(dP key&&(dG s.Epoch 0 1000000&&dG s.Version 0 1000000))||s.MAC !=iK key s then(⟨[]⟩,false) else Oc (aDf (lJ key s.Epoch s.Version) s.Data)
theorem bHb {d:List Int}(hd:aW d){n e e':Int}{v:List Int}(h:xS d 0=(n,e,true))(hn:n≤20)(h':jV d (4*n).toNat e []=(v,e',true)):(kY (rR ⟨kT v⟩)=d↔(e'=(d.length:Int)∧lW v=true))∧v.length=4*n.toNat∧aZ3 v∧(kT v).length=n.toNat:=by
 obtain⟨q,⟨_,g1,g2,g3,g4⟩,g5⟩:=aXk hd h
 subst g3
 obtain⟨t,q',⟨k1,k2,k3,k4,k5⟩,k6⟩:=Oa hd _ _ _ _ _ (by omega) (by omega) h'
 rw[List.nil_append] at k1
 subst k1
 have hl:v.length=4*n.toNat:=by omega
 obtain⟨f1,f2⟩:=aVt n.toNat v hl k5
 have hel:=X7 n.toNat v hl
 refine⟨?_,hl,k5,hel⟩
 have hdd:d=kY (n::v)++d.drop q':=by
  have h0:d.drop (Int.toNat 0)=d:=rfl
  rw[uY,List.append_assoc,←k6]
  exact h0▸g5
 have hv:rR ⟨kT v⟩=n::rQ (kT v):=by
  show((kT v).length:Int)::_=_
  rw[hel];congr 1;omega
 rw[hv]
 constructor
 ·intro hq
  have hx:kY (n::rQ (kT v))++[]=kY (n::v)++d.drop q':=by rw[List.append_nil,hq];exact hdd
  have hok:∀l,aZ3 l→aZ3 (n::l):=fun l hl x hx=>by
   rcases List.mem_cons.1 hx with rfl|hx
   ·exact⟨g1,g2⟩
   ·exact hl x hx
  obtain⟨y1,y2⟩:=aZ4 _ _ _ _ (hok _ f1) (hok _ k5) (by simp[uZ,hel,hl]) hx
  have:=congrArg List.length y2
  simp only[List.length_nil,List.length_drop] at this
  exact⟨by omega,f2.2 (List.cons.inj y1).2⟩
 ·rintro⟨h1,h2⟩
  rw[f2.1 h2]
  have:d.drop q'=[]:=List.drop_eq_nil_of_le (by omega)
  rw[this,List.append_nil] at hdd
  exact hdd.symm
theorem aVu (l:List Int):(EV.aCy l).data.toList=l.map fun n=>UInt8.ofNat n.toNat:=by
 unfold EV.aCy
 have:∀(l:List Int) (r:ByteArray),(l.foldl (fun r n=>r.push (UInt8.ofNat n.toNat)) r).data.toList=r.data.toList++l.map fun n=>UInt8.ofNat n.toNat:=by
  intro l
  induction l with
  |nil=>intro r;simp
  |cons x l ih=>intro r;rw[List.foldl_cons,ih];simp
 rw[this];rfl
theorem bytes_inj:∀{a b:List Int},(∀z∈a,0≤z∧z≤255)→(∀z∈b,0≤z∧z≤255)→(a.map fun n=>UInt8.ofNat n.toNat)=(b.map fun n=>UInt8.ofNat n.toNat)→a=b
 |[],[],_,_,_=>rfl
 |[],y::b,_,_,h=>by simp at h
 |x::a,[],_,_,h=>by simp at h
 |x::a,y::b,ha,hb,h=>by
  simp only[List.map_cons,List.cons.injEq] at h
  have hx:=ha x (by simp)
  have hy:=hb y (by simp)
  have e:=congrArg UInt8.toNat h.1
  rw[UInt8.toNat_ofNat',UInt8.toNat_ofNat'] at e
  rw[bytes_inj (fun z hz=>ha z (by simp[hz])) (fun z hz=>hb z (by simp[hz])) h.2,show x=y by omega]
theorem aIm {b:List Int}(h:aW b):∀z∈b,0≤z∧z≤255:=fun z hz=>by simpa using List.all_eq_true.1 h.2 z hz
theorem aNv {b:List Int}(h:b.length≤34359738368)(h1:∀z∈b,0≤z∧z≤255):aW b:=⟨h,List.all_eq_true.2 fun z hz=>by simpa using h1 z hz⟩
theorem aVv:∀(k:Nat) (n:Int),0≤n→n<128^(k+1)→∀z∈uvE k n,0≤z∧z≤255
 |0,n,h0,h1,z,hz=>by simp[uvE] at hz;subst hz;simp at h1;omega
 |k+1,n,h0,h1,z,hz=>by
  have h2:(128:Int)^(k+1+1)=128*128^(k+1):=by rw[Int.pow_succ];omega
  unfold uvE at hz
  by_cases hn:n>127
  ·rw[decide_eq_true hn,cond_true] at hz
   rcases List.mem_cons.1 hz with rfl|hz
   ·omega
   ·exact aVv k (n/128) (by omega) (by omega) z hz
  ·rw[decide_eq_false hn,cond_false] at hz
   simp at hz;subst hz;omega
theorem bBu (n:Int):∀z∈enc1 n,0≤z∧z≤255:=fun z hz=>by
 unfold enc1 at hz
 cases hr:dG n 0 1000000000000 with
 |false=>rw[hr] at hz;simp at hz
 |true=>
  rw[hr] at hz
  have:=aMn hr
  have h7:(128:Int)^(5+1)=4398046511104:=by decide
  exact aVv 5 n this.1 (by omega) z hz
theorem aNw (l:List Int):∀z∈kY l,0≤z∧z≤255:=fun z hz=>by
 unfold kY at hz
 obtain⟨x,hx,hz⟩:=List.mem_flatten.1 hz
 obtain⟨n,_,rfl⟩:=List.mem_map.1 hx
 exact bBu n z hz
theorem qO {b:D.aAD}(h:aJ b=true):b.Entries.length≤20:=by
 simp only[aJ,Bool.and_eq_true,decide_eq_true_eq] at h;omega
theorem aNx (b:D.aAD):aW (pF b):=by
 unfold pF
 cases hb:aJ b with
 |false=>exact⟨by simp,rfl⟩
 |true=>
  have:=qO hb
  have h1:=X6 (rR b)
  have h2:(rR b).length=1+4*b.Entries.length:=by simp[rR,uZ];omega
  exact aNv (by rw[cond_true];omega) (aNw _)
theorem bHc (d:List Int):(Oc d).1.sz≤20:=by
 have h0:(D.aAD.mk []).sz≤20:=by simp[D.aAD.sz]
 unfold Oc
 cases !(xS d 0).2.2||decide ((xS d 0).1>20) with
 |true=>exact h0
 |false=>
  rw[cond_false]
  generalize jV d (4*(xS d 0).1).toNat (xS d 0).2.1 []=v
  unfold bDf
  cases hb:aJ ⟨kT v.1⟩ with
  |false=>simp only[Bool.not_false,Bool.or_true,cond_true];exact h0
  |true=>
   have:=qO hb
   cases !v.2.2||(v.2.1 !=(d.length:Int)||(!lW v.1|| !true)) with
   |true=>exact h0
   |false=>simp only[cond_false,D.aAD.sz] at*;omega
theorem aVw (k:Int)(s:D.aAA):(kU k s).1.sz≤20:=by
 unfold kU
 cases !(dP k&&(dG s.Epoch 0 1000000&&dG s.Version 0 1000000))||s.MAC !=iK k s with
 |true=>simp[D.aAD.sz]
 |false=>exact bHc _
theorem bE3 {a b:D.aAD}(h:(lH a b).2=true):(lH a b).1.sz≤20:=by
 unfold lH at*
 cases hc:aJ a&&aJ b with
 |false=>rw[hc] at h;cases h
 |true=>
  rw[hc] at h
  cases hm:aJ ⟨dQ a.Entries b.Entries⟩ with
  |false=>rw[hm] at h;cases h
  |true=>have:=qO hm;simp only[cond_true,D.aAD.sz];omega
def Ty (d:D.Device)(log:List D.aAB)(bx:D.aAE)(s:D.aAA):Int:=
 bif !cB log|| !dY log d.Log then 1 else bif !jC (aI log) (dB d.Store) then 2 else bif bx.Epoch !=bC log|| !(dI d.Store bx).2 then 3
 else bif decide (s.Epoch<bC log)||(decide (s.Epoch<d.Epoch)||(s.Epoch==d.Epoch&&decide (s.Version<d.Version))) then 4
 else bif !(kU (dI d.Store bx).1 s).2|| !(lH d.aAD (kU (dI d.Store bx).1 s).1).2 then 5 else 0
def gN (d:D.Device)(log:List D.aAB)(bx:D.aAE)(s:D.aAA):D.Device×Int:=
 bif Ty d log bx s==0 then(⟨d.Store,log,(dI d.Store bx).1,s.Epoch,s.Version,(lH d.aAD (kU (dI d.Store bx).1 s).1).1⟩,0) else(d,Ty d log bx s)
def bO (w:D.World)(d b:Int):D.World×Int:=bif dU w&&bH w d then({w with Devices:=w.Devices.set d.toNat (gN (bR w d) w.aAH.Log w.aAH.Boxes (iO w.aAH b).1).1},(gN (bR w d) w.aAH.Log w.aAH.Boxes (iO w.aAH b).1).2) else(w,1)
def yA (w:D.World)(d:Int):Bool:=w.Stolen.getD d.toNat false
def bE4 (k:Int)(i:Nat)(z:Int):Int:=IntKind.u8.wrap ((z+eP k [(i:Int)])%256)
def pG (k:Int)(b:List Int):List Int:=Tz (fun i z=>[bE4 k i z]) 0 b
def bDg (k e v:Int)(b:D.aAD):D.aAA:=⟨e,v,pG (lJ k e v) (pF b),iK k ⟨e,v,pG (lJ k e v) (pF b),0⟩⟩
def vP (k e v:Int)(b:D.aAD):D.aAA×Bool:=bif dP k&&(dG e 0 1000000&&dG v 0 1000000)&&aJ b then(bDg k e v b,true) else(⟨0,0,[],0⟩,false)
def fB (d:D.Device):D.Device×D.aAA×Bool:=bif (vP d.Key d.Epoch (IntKind.i64.wrap (d.Version+1)) d.aAD).2 then({d with Version:=IntKind.i64.wrap (d.Version+1)},(vP d.Key d.Epoch (IntKind.i64.wrap (d.Version+1)) d.aAD).1,true) else(d,⟨0,0,[],0⟩,false)
def sU (a b:D.aAA):Bool:=decide (a.Epoch>b.Epoch)||(a.Epoch==b.Epoch&&decide (a.Version>b.Version))
def gX (c:D.aAH)(s:D.aAA):D.aAH×Bool:=bif s.Epoch !=bC c.Log||((decide ((c.History.length:Int)>0)&& !sU s (c.History.getD (c.History.length-1) default))||decide ((c.History.length:Int)≥60)) then(c,false) else({c with History:=c.History++[s]},true)
def upF (w:D.World)(d:Int):D.World×Bool:=bif (fB (bR w d)).2.2&&(gX w.aAH (fB (bR w d)).2.1).2 then({w with Devices:=w.Devices.set d.toNat (fB (bR w d)).1,aAH:=(gX w.aAH (fB (bR w d)).2.1).1},true) else(w,false)
theorem aVx (b:D.aAD):(pF b).length≤500:=by
 unfold pF
 cases hb:aJ b with
 |false=>simp
 |true=>
  have:=qO hb
  have h1:=X6 (rR b)
  have h2:(rR b).length=1+4*b.Entries.length:=by simp[rR,uZ];omega
  rw[cond_true];omega
theorem X8 (k:Int)(b:List Int):(pG k b).length=b.length:=by unfold pG;exact Ns
theorem bE5 (k e v:Int)(b:D.aAD):(vP k e v b).1.Data.length≤500:=by
 unfold vP
 cases dP k&&(dG e 0 1000000&&dG v 0 1000000)&&aJ b with
 |false=>simp
 |true=>simp only[cond_true,bDg,X8];exact aVx b
theorem aVy (d:D.Device):(fB d).1.sz=d.sz∧(fB d).2.1.Data.length≤500:=by
 unfold fB
 have:=bE5 d.Key d.Epoch (IntKind.i64.wrap (d.Version+1)) d.aAD
 cases(vP d.Key d.Epoch (IntKind.i64.wrap (d.Version+1)) d.aAD).2 with
 |false=>exact⟨rfl,by simp⟩
 |true=>exact⟨rfl,this⟩
theorem bBv (c:D.aAH)(s:D.aAA):(gX c s).1.sz≤c.sz+1+s.Data.length∧(gX c s).1.Log=c.Log:=by
 unfold gX
 cases s.Epoch !=bC c.Log||((decide ((c.History.length:Int)>0)&& !sU s (c.History.getD (c.History.length-1) default))||decide ((c.History.length:Int)≥60)) with
 |true=>exact⟨by simp only[cond_true];omega,rfl⟩
 |false=>refine⟨?_,rfl⟩;simp only[cond_false,D.aAH.sz,List.length_append,List.map_append,List.sum_append,List.length_cons,List.length_nil,List.map_cons,List.map_nil,List.sum_cons,List.sum_nil,D.aAA.sz];omega
theorem vQ {α:Type}{f:α→Nat}:∀{l:List α} {i:Nat} {x:α} (hi:i<l.length),((l.set i x).map f).sum+f l[i]=(l.map f).sum+f x
 |y::l,0,x,_=>by simp only[List.set_cons_zero,List.map_cons,List.sum_cons,List.getElem_cons_zero];omega
 |y::l,i+1,x,h=>by
  have:=vQ (f:=f) (l:=l) (i:=i) (x:=x) (by simpa using h)
  simp only[List.set_cons_succ,List.map_cons,List.sum_cons,List.getElem_cons_succ];omega
theorem aMe {w:D.World}{d b:Int}(h:((bO w d b).2==0)=true):(dU w=true∧bH w d=true)∧(bO w d b).1.aAH=w.aAH∧(bO w d b).1.Devices.length=w.Devices.length∧(bO w d b).1.sz≤w.sz+w.aAH.Log.length+20:=by
 unfold bO at*
 cases hc:(dU w&&bH w d) with
 |false=>rw[hc] at h;cases h
 |true=>
  rw[hc] at h
  simp only[cond_true] at h ⊢
  rw[Bool.and_eq_true] at hc
  refine⟨hc,by first|rfl|trivial,by first|exact List.length_set|simp,?_⟩
  have hd:=hc.2
  simp only[bH,Bool.and_eq_true,decide_eq_true_eq] at hd
  have hi:d.toNat<w.Devices.length:=by omega
  have hz:(gN (bR w d) w.aAH.Log w.aAH.Boxes (iO w.aAH b).1).1.sz≤w.aAH.Log.length+20:=by
   unfold gN at*
   cases hs:Ty (bR w d) w.aAH.Log w.aAH.Boxes (iO w.aAH b).1==0 with
   |false=>rw[hs] at h;simp only[cond_false] at h;rw[hs] at h;cases h
   |true=>
    have hm:(lH (bR w d).aAD (kU (dI (bR w d).Store w.aAH.Boxes).1 (iO w.aAH b).1).1).2=true:=by
     cases hm:(lH (bR w d).aAD (kU (dI (bR w d).Store w.aAH.Boxes).1 (iO w.aAH b).1).1).2 with
     |true=>rfl
     |false=>
      unfold Ty at hs
      rw[hm] at hs
      revert hs
      generalize(bR w d)=x
      generalize(iO w.aAH b).1=s
      cases !cB w.aAH.Log|| !dY w.aAH.Log x.Log<;>cases !jC (aI w.aAH.Log) (dB x.Store)<;>cases w.aAH.Boxes.Epoch !=bC w.aAH.Log|| !(dI x.Store w.aAH.Boxes).2<;>cases decide (s.Epoch<bC w.aAH.Log)||(decide (s.Epoch<x.Epoch)||(s.Epoch==x.Epoch&&decide (s.Version<x.Version)))<;>cases !(kU (dI x.Store w.aAH.Boxes).1 s).2<;>simp
    have:=bE3 hm
    simp only[cond_true,D.Device.sz,D.aAD.sz] at*;omega
  have h1:=vQ (f:=D.Device.sz) (l:=w.Devices) (i:=d.toNat) (x:=(gN (bR w d) w.aAH.Log w.aAH.Boxes (iO w.aAH b).1).1) hi
  generalize(gN (bR w d) w.aAH.Log w.aAH.Boxes (iO w.aAH b).1).1=x at*
  simp only[D.World.sz,List.length_set] at*;omega
theorem bMl {w:D.World}{d:Int}(hd:bH w d=true):(upF w d).1.aAH.Log=w.aAH.Log∧(upF w d).1.Devices.length=w.Devices.length∧(upF w d).1.sz≤w.sz+501:=by
 unfold upF
 cases(fB (bR w d)).2.2&&(gX w.aAH (fB (bR w d)).2.1).2 with
 |false=>exact⟨rfl,rfl,by simp only[cond_false];omega⟩
 |true=>
  have hu:=bBv w.aAH (fB (bR w d)).2.1
  have hw:=aVy (bR w d)
  simp only[bH,Bool.and_eq_true,decide_eq_true_eq] at hd
  have hi:d.toNat<w.Devices.length:=by omega
  have h1:=vQ (f:=D.Device.sz) (l:=w.Devices) (i:=d.toNat) (x:=(fB (bR w d)).1) hi
  have e:w.Devices[d.toNat]=bR w d:=by simp[bR,List.getD,List.getElem?_eq_getElem hi]
  rw[e] at h1
  refine⟨hu.2,List.length_set,?_⟩
  generalize(gX w.aAH (fB (bR w d)).2.1).1=c at*
  generalize fB (bR w d)=x at*
  simp only[cond_true,D.World.sz,D.aAH.sz,List.length_set] at*;omega
theorem bHd {k z:Int}(i:Nat)(h:0≤z∧z≤255):IntKind.u8.wrap ((IntKind.i64.wrap (IntKind.i64.wrap z+eP k [(i:Int)])).tmod 256)=bE4 k i z:=by
 have:=nP k [(i:Int)]
 rw[aP (n:=z) (by omega) (by omega),aP (by omega) (by omega),Int.tmod_eq_emod_of_nonneg (by omega)];rfl
theorem bHe {k z:Int}(i:Nat)(h:0≤z∧z≤255):IntKind.u8.wrap ((IntKind.i64.wrap (IntKind.i64.wrap z+(eP k [(i:Int)]).tmod 256)).tmod 256)=bE4 k i z:=by
 have:=nP k [(i:Int)]
 rw[aP (n:=z) (by omega) (by omega),show(eP k [(i:Int)]).tmod 256=eP k [(i:Int)]%256 from Int.tmod_eq_emod_of_nonneg this.1,aP (by omega) (by omega),Int.tmod_eq_emod_of_nonneg (by omega),bE4]
 congr 1;omega
def lK (s:D.aAJ)(l:List Int):Int:=Ih (mQ s) l
def bI1 (log:List D.aAB)(kind dev:Int)(s:D.aAJ):D.aAB:=⟨(log.length:Int),kind,dev,dB s,gM log,0⟩
def bHf (log:List D.aAB)(kind dev:Int)(s:D.aAJ):D.aAB:={bI1 log kind dev s with Signature:=lK s [dC (bI1 log kind dev s)]}
def kG (log:List D.aAB)(kind dev:Int)(s:D.aAJ):List D.aAB×Bool:=bif (decide ((log.length:Int)>0)&& !cB log)|| !cB (log++[bHf log kind dev s]) then(log,false) else(log++[bHf log kind dev s],true)
def aNy (p e:Int)(d:List Int):D.Box:=⟨p,e,pG (fU (fV p) e) d,Uc (fU (fV p) e) ⟨p,e,pG (fU (fV p) e) d,0⟩⟩
def gP (p e:Int)(d:List Int):D.Box×Bool:=bif fV p==0||(!dP e||decide ((d.length:Int)>200)) then(⟨0,0,[],0⟩,false) else(aNy p e d,true)
def iW (e:Int)(d:List Int):Nat→List Int→List D.Box×Bool
 |_,[]=>([],true)
 |i,p::l=>bif (gP p (IntKind.i64.wrap (e+(i:Int))) d).2&&(iW e d (i+1) l).2 then((gP p (IntKind.i64.wrap (e+(i:Int))) d).1::(iW e d (i+1) l).1,true) else([],false)
def iX (log:List D.aAB)(key eph:Int):D.aAE×Bool:=bif !cB log||(!dP key|| !(iW eph (kY [bC log,key]) 0 (aI log)).2) then(⟨0,[]⟩,false) else(⟨bC log,(iW eph (kY [bC log,key]) 0 (aI log)).1⟩,true)
def kW (e:D.aAE)(d:Int):Int:=e.Boxes.foldl (fun n b=>bif b.To==d then IntKind.i64.wrap (n+1) else n) 0
def lX (e:D.aAE)(log:List D.aAB):Bool:=(e.Epoch==bC log&&(e.Boxes.length:Int)==((aI log).length:Int))&&(aI log).all fun d=>kW e d==1
def lL (c:D.aAH)(log:List D.aAB)(e:D.aAE):D.aAH×Bool:=bif !cB log||(!dY log c.Log|| !lX e log) then(c,false) else({c with Log:=log,Boxes:=e},true)
def rT (l:List D.aAM):Nat:=bif l.any (fun n=>n.Seen) then(l.takeWhile fun n=> !n.Seen).length else 0
def Ii (l:List D.aAM):List D.aAM:=bif decide ((l.length:Int)>30) then l.take (rT l)++l.drop (rT l+1) else l
def Ij (m:D.aAK)(k a t:Int):D.aAK×Bool:=bif !eZ m|| !eZ ⟨Ii (m.Notices++[⟨k,a,t,false⟩])⟩ then(m,false) else(⟨Ii (m.Notices++[⟨k,a,t,false⟩])⟩,true)
def o5 (w:D.World)(by_ kind pub:Int)(key:List D.aAB→Int):D.World×Bool:=
 let l:=kG w.aAH.Log kind pub (bR w by_).Store
 let e:=iX l.1 (key l.1) (IntKind.i64.wrap (1000+IntKind.i64.wrap (10*(l.1.length:Int))))
 let c:=lL w.aAH l.1 e.1
 bif l.2&&(e.2&&c.2) then({w with aAH:=c.1},true) else(w,false)
theorem Fy (log:List D.aAB)(k d:Int)(s:D.aAJ):(kG log k d s).1.length≤log.length+1:=by
 unfold kG
 cases(decide ((log.length:Int)>0)&& !cB log)|| !cB (log++[bHf log k d s])<;>simp
theorem bBw (p e:Int)(d:List Int):(gP p e d).1.sz≤d.length:=by
 unfold gP
 cases fV p==0||(!dP e||decide ((d.length:Int)>200)) with
 |true=>simp[D.Box.sz]
 |false=>simp only[cond_false,aNy,D.Box.sz,X8];exact Nat.le_refl _
theorem aZ7 {e:Int}{d:List Int}:∀{i:Nat} {l:List Int},(iW e d i l).1.length≤l.length∧((iW e d i l).1.map D.Box.sz).sum≤l.length*d.length
 |i,[]=>by simp[iW]
 |i,p::l=>by
  have h1:=aZ7 (e:=e) (d:=d) (i:=i+1) (l:=l)
  have h2:=bBw p (IntKind.i64.wrap (e+(i:Int))) d
  unfold iW
  cases(gP p (IntKind.i64.wrap (e+(i:Int))) d).2&&(iW e d (i+1) l).2 with
  |false=>simp
  |true=>simp only[cond_true,List.length_cons,List.map_cons,List.sum_cons,Nat.add_mul];omega
theorem aZ8 (a b:Int):(kY [a,b]).length≤12:=X6 [a,b]
theorem aDj (log:List D.aAB)(k e:Int):(iX log k e).1.sz≤13*log.length:=by
 unfold iX
 have h1:=aZ7 (e:=e) (d:=kY [bC log,k]) (i:=0) (l:=aI log)
 have h2:=fE log
 have h3:=aZ8 (bC log) k
 have h4:=Nat.mul_le_mul_left (aI log).length h3
 cases !cB log||(!dP k|| !(iW e (kY [bC log,k]) 0 (aI log)).2) with
 |true=>simp[D.aAE.sz]
 |false=>simp only[cond_false,D.aAE.sz];omega
theorem bHg (c:D.aAH)(l:List D.aAB)(e:D.aAE):(lL c l e).1.sz≤c.sz+l.length+e.sz∧(lL c l e).1.History=c.History:=by
 unfold lL
 cases !cB l||(!dY l c.Log|| !lX e l) with
 |true=>exact⟨by simp only[cond_true];omega,rfl⟩
 |false=>exact⟨by simp only[cond_false,D.aAH.sz,D.aAE.sz];omega,rfl⟩
theorem aVz (l:List D.aAM):(Ii l).length≤l.length:=by
 unfold Ii
 cases decide ((l.length:Int)>30) with
 |false=>exact Nat.le_refl _
 |true=>simp only[cond_true,List.length_append,List.length_take,List.length_drop];omega
theorem bI2 (m:D.aAK)(k a t:Int):(Ij m k a t).1.sz≤m.sz+1:=by
 unfold Ij
 have:=aVz (m.Notices++[⟨k,a,t,false⟩])
 simp only[List.length_append,List.length_singleton] at this
 cases !eZ m|| !eZ ⟨Ii (m.Notices++[⟨k,a,t,false⟩])⟩ with
 |true=>simp only[cond_true];omega
 |false=>simp only[cond_false,D.aAK.sz];omega
theorem Od {α:Type}{p:α→Bool}{i:Nat}{l:List α}(h:decide (jW p i l<0)=false):(i:Int)≤jW p i l∧jW p i l<i+l.length:=by
 induction l generalizing i with
 |nil=>simp[jW] at h
 |cons x l ih=>
  unfold jW at h ⊢
  cases hp:p x with
  |true=>simp only[cond_true,List.length_cons];omega
  |false=>
   rw[hp] at h
   have:=ih (i:=i+1) h
   simp only[cond_false,List.length_cons];omega
theorem bHh (w:D.World)(b k p:Int)(key:List D.aAB→Int):(o5 w b k p key).1.sz≤w.sz+14*(w.aAH.Log.length+1)∧(o5 w b k p key).1.aAH.Log.length≤w.aAH.Log.length+1∧(o5 w b k p key).1.Devices=w.Devices∧(o5 w b k p key).1.Sites=w.Sites:=by
 unfold o5
 dsimp only
 have h1:=Fy w.aAH.Log k p (bR w b).Store
 generalize(kG w.aAH.Log k p (bR w b).Store)=l at*
 have h2:=aDj l.1 (key l.1) (IntKind.i64.wrap (1000+IntKind.i64.wrap (10*(l.1.length:Int))))
 have h3:=(bHg w.aAH l.1 (iX l.1 (key l.1) (IntKind.i64.wrap (1000+IntKind.i64.wrap (10*(l.1.length:Int))))).1).1
 have h4:(lL w.aAH l.1 (iX l.1 (key l.1) (IntKind.i64.wrap (1000+IntKind.i64.wrap (10*(l.1.length:Int))))).1).1.Log.length≤w.aAH.Log.length+1:=by
  unfold lL
  cases !cB l.1||(!dY l.1 w.aAH.Log|| !lX (iX l.1 (key l.1) (IntKind.i64.wrap (1000+IntKind.i64.wrap (10*(l.1.length:Int))))).1 l.1) with
  |true=>simp only[cond_true];omega
  |false=>simp only[cond_false];exact h1
 generalize iX l.1 (key l.1) (IntKind.i64.wrap (1000+IntKind.i64.wrap (10*(l.1.length:Int))))=e at*
 generalize lL w.aAH l.1 e.1=c at*
 cases l.2&&(e.2&&c.2) with
 |false=>exact⟨by show w.sz≤_;omega,by show w.aAH.Log.length≤_;omega,rfl,rfl⟩
 |true=>exact⟨by show(D.World.sz {w with aAH:=c.1})≤_;simp only[D.World.sz,D.aAH.sz] at*;omega,h4,rfl,rfl⟩
def rU (d:D.Device)(h:Int)(rm:Bool):D.Device:=(fC (fC d (bD 0) h rm).1 (bD 1) h rm).1
def bDh (w:D.World)(k:Int):D.World:={w with Mail:=(Ij w.Mail k 1 w.Now).1}
theorem bDi (d:D.Device)(h:Int)(rm:Bool):(rU d h rm).sz≤d.sz+2:=by
 have h1:=Tx (fC d (bD 0) h rm).1 (bD 1) h rm
 have h2:=Tx d (bD 0) h rm
 unfold rU;omega
theorem bI3 (w:D.World)(k:Int):(bDh w k).sz≤w.sz+1:=by
 have:=bI2 w.Mail k 1 w.Now
 simp only[bDh,D.World.sz,D.aAK.sz] at*;omega
theorem aV0 {α:Type}{p:α→Bool}:∀{l:List α} {i:Nat} (hi:i<l.length),i<(l.takeWhile p).length→p l[i]=true
 |x::l,0,_,h=>by
  simp only[List.takeWhile_cons] at h
  cases hp:p x with
  |true=>exact hp
  |false=>rw[hp] at h;simp at h
 |x::l,i+1,hi,h=>by
  simp only[List.takeWhile_cons] at h
  cases hp:p x with
  |true=>
   have h':i<(l.takeWhile p).length:=by simpa[hp] using h
   exact aV0 (l:=l) (i:=i) (by simpa using hi) h'
  |false=>rw[hp] at h;simp at h
theorem aV1 {α:Type}{p:α→Bool}:∀{l:List α} (h:(l.takeWhile p).length<l.length),p (l[(l.takeWhile p).length]'h)=false
 |x::l,h=>by
  cases hp:p x with
  |true=>
   have h':(l.takeWhile p).length<l.length:=by simpa[List.takeWhile_cons,hp] using h
   simpa[List.takeWhile_cons,hp] using aV1 h'
  |false=>simp[List.takeWhile_cons,hp]
theorem aNz {α:Type}{p:α→Bool}{l:List α}:(l.takeWhile p).length≤l.length:=(List.takeWhile_prefix p).length_le
theorem bE6 {α τ S:Type}{l:List α}(p:α→Bool)(fin:Nat→Option τ)(e:Nat→S){F:(S→Option τ)→S→Option τ}(hl:l.length≤34359738368)
  (hF:∀rec i (hi:i<l.length),F rec (e i)=bif p l[i] then rec (e (i+1)) else fin i) (hE:∀rec,F rec (e l.length)=fin l.length):EV.bU FUEL F (e 0)=fin (l.takeWhile p).length:=by
 have go:∀(k i n:Nat),i+k=(l.takeWhile p).length→k<n→EV.bU n F (e i)=fin (l.takeWhile p).length:=by
  intro k
  induction k with
  |zero=>
   intro i n hi hn
   obtain⟨n,rfl⟩:∃m,n=m+1:=⟨n-1,by omega⟩
   have:i=(l.takeWhile p).length:=by omega
   subst this
   rw[iN]
   by_cases h:(l.takeWhile p).length<l.length
   ·rw[hF _ _ h,aV1 h,cond_false]
   ·have h2:(l.takeWhile p).length=l.length:=by have:=aNz (p:=p) (l:=l);omega
    rw[h2,hE]
  |succ k ih=>
   intro i n hi hn
   obtain⟨n,rfl⟩:∃m,n=m+1:=⟨n-1,by omega⟩
   have h1:i<l.length:=by have:=aNz (p:=p) (l:=l);omega
   rw[iN,hF _ _ h1,aV0 (p:=p) h1 (by omega),cond_true]
   exact ih (i+1) n (by omega) (by omega)
 have:=aNz (p:=p) (l:=l)
 exact go (l.takeWhile p).length 0 FUEL (by omega) (by have:=gK;omega)
theorem aDk {e:Int}{d:List Int}{l:List Int}{τ:Type}{x:τ}{F:(List D.Box×Nat→Option (τ⊕List D.Box))→List D.Box×Nat→Option (τ⊕List D.Box)}
  (hF:∀rec i s (hi:i<l.length),s.length≤i→F rec (s,i)=bif !(gP l[i] (IntKind.i64.wrap (e+(i:Int))) d).2 then some (.inl x) else rec (s++[(gP l[i] (IntKind.i64.wrap (e+(i:Int))) d).1],i+1)) (hE:∀rec s,F rec (s,l.length)=some (.inr s)):
  ∀(k i n:Nat) (s:List D.Box),i+k=l.length→k<n→s.length≤i→EV.bU n F (s,i)=some (bif (iW e d i (l.drop i)).2 then .inr (s++(iW e d i (l.drop i)).1) else .inl x)
 |0,i,n+1,s,h,_,_=>by
  have:i=l.length:=by omega
  subst this
  rw[iN,hE,List.drop_length];simp[iW]
 |k+1,i,n+1,s,h,hn,hs=>by
  have hi:i<l.length:=by omega
  rw[iN,hF _ i s hi hs,List.drop_eq_getElem_cons hi,iW]
  cases hb:(gP l[i] (IntKind.i64.wrap (e+(i:Int))) d).2 with
  |false=>rfl
  |true=>
   rw[Bool.not_true,cond_false,aDk hF hE k (i+1) n _ (by omega) (by omega) (by simp;omega)]
   cases(iW e d (i+1) (l.drop (i+1))).2<;>simp
def bBx (l:List D.aAM):Nat:=(l.takeWhile fun n=> !n.Seen).length
theorem bE7 {l:List D.aAM}{x:D.aAM}:bBx (l++[x])=bif l.any (fun n=>n.Seen) then bBx l else bif x.Seen then l.length else l.length+1:=by
 induction l with
 |nil=>cases hx:x.Seen<;>simp[bBx,hx]
 |cons y l ih=>
  unfold bBx at*
  cases hy:y.Seen with
  |true=>simp[hy]
  |false=>
   simp only[List.cons_append,List.takeWhile_cons,hy,Bool.not_false,if_true,List.length_cons,List.any_cons,Bool.false_or,ih]
   cases l.any (fun n=>n.Seen)<;>cases x.Seen<;>simp
theorem aV2 {l:List D.aAM}{F:(Int×Int→Option Int)→Int×Int→Option Int}(hF:∀rec (k:Int) (i:Nat) (hi:i<l.length),F rec (k,(i:Int))=rec (bif l[i].Seen then(i:Int) else k,(i:Int)-1))(hE:∀rec k,F rec (k,-1)=some k):
  ∀(n m:Nat) (k:Int),n≤l.length→n<m→EV.bU m F (k,(n:Int)-1)=some (bif (l.take n).any (fun x=>x.Seen) then(bBx (l.take n):Int) else k)
 |0,m+1,k,_,_=>by rw[iN,show((0:Nat):Int)-1= -1 from rfl,hE];simp
 |n+1,m+1,k,h,hm=>by
  have hn:n<l.length:=by omega
  rw[iN,show((n+1:Nat):Int)-1=(n:Int) by omega,hF _ _ n hn,aV2 hF hE n m _ (by omega) (by omega),List.take_add_one,List.getElem?_eq_getElem hn]
  simp only[Option.toList_some,List.any_append,bE7,List.any_cons,List.any_nil,Bool.or_false,List.length_take,Nat.min_eq_left (Nat.le_of_lt hn)]
  cases(l.take n).any (fun x=>x.Seen)<;>cases l[n].Seen<;>rfl
theorem aZ9 (l:List D.aAM):(rT l:Int)=bif l.any (fun x=>x.Seen) then(bBx l:Int) else 0:=by
 unfold rT bBx;cases l.any (fun n=>n.Seen)<;>rfl
theorem bAa {l:List D.aAM}(h:0<l.length):rT l<l.length:=by
 unfold rT
 cases hs:l.any (fun n=>n.Seen) with
 |false=>exact h
 |true=>
  obtain⟨x,hx,hp⟩:=List.any_eq_true.1 hs
  have:∀l:List D.aAM,x∈l→(l.takeWhile fun n=> !n.Seen).length<l.length:=by
   intro l
   induction l with
   |nil=>intro h;cases h
   |cons y l ih=>
    intro h
    cases hy:y.Seen with
    |true=>simp[hy]
    |false=>
     rcases List.mem_cons.1 h with rfl|h
     ·rw[hp] at hy;cases hy
     ·simpa[hy] using ih h
  exact this l hx
theorem bI4 {τ S:Type}{l:List D.aAM}(fin:Int→Option τ)(st:Nat→S){F:(S→Option τ)→S→Option τ}(hl:l.length≤34359738368)(hF:∀rec i (hi:i<l.length),F rec (st i)=bif l[i].Seen then fin (i:Int) else rec (st (i+1)))(hE:∀rec,F rec (st l.length)=fin 0):EV.bU FUEL F (st 0)=fin (rT l:Int):=by
 have e:=bE6 (l:=l) (fun n=> !n.Seen) (fun i=>bif decide (i<l.length) then fin (i:Int) else fin 0) st (F:=F) hl (fun rec i hi=>by
  rw[hF rec i hi,decide_eq_true hi];cases l[i].Seen<;>rfl) (fun rec=>by rw[hE,decide_eq_false (by omega)];rfl)
 rw[e,aZ9]
 cases hs:l.any (fun n=>n.Seen) with
 |true=>
  have h0:0<l.length:=by cases l with|nil=>simp at hs|cons=>simp
  have:=bAa h0
  unfold rT at this
  rw[hs,cond_true] at this
  rw[decide_eq_true this];rfl
 |false=>
  have hh:∀l:List D.aAM,l.any (fun n=>n.Seen)=false→(l.takeWhile fun n=> !n.Seen).length=l.length:=by
   intro l
   induction l with
   |nil=>intro _;rfl
   |cons x l ih=>
    intro h
    simp only[List.any_cons,Bool.or_eq_false_iff] at h
    simp[h.1,ih h.2]
  have this:=hh l hs
  rw[this,decide_eq_false (by omega)];rfl
theorem bAb {e:Int}{d:List Int}{i:Nat}{l:List Int}(h:(iW e d i l).2=false):iW e d i l=([],false):=by
 cases l with
 |nil=>cases h
 |cons p l=>
  unfold iW at*
  cases hc:(gP p (IntKind.i64.wrap (e+(i:Int))) d).2&&(iW e d (i+1) l).2 with
  |true=>rw[hc] at h;cases h
  |false=>rfl
theorem bLp {s:D.Site}{i:Int}(hz:s.sz≤34359738300)(h:decide (bA s i<0)=false):aL s.Accounts (bA s i)=some (s.Accounts.getD (bA s i).toNat default)∧(s.Accounts.getD (bA s i).toNat default).sz≤34359738300∧(bA s i).toNat<s.Accounts.length:=by
 have hr:=Od (p:=fun a:D.aAG=>a.Id==i) (i:=0) (l:=s.Accounts) h
 have hi:(bA s i).toNat<s.Accounts.length:=by unfold bA;omega
 have h1:=aMc (f:=D.aAG.sz) hi
 refine⟨X5 (by unfold bA;omega) (by unfold bA;omega),?_,hi⟩
 simp only[D.Site.sz] at hz;omega
def nX (d:D.Device)(log:List D.aAB)(key:Int):D.Device×Bool:=bif !cB log||(!dY log d.Log||(decide (bC log<d.Epoch)|| !dP key)) then(d,false) else({d with Log:=log,Key:=key,Epoch:=bC log,Version:=0},true)
def eG (a:D.aAG)(h:Int):Int:=jW (fun c=>c.Handle==h) 0 a.Credentials
def aDl (a:D.aAG)(k:Int):D.aAI:=a.Credentials.getD k.toNat default
def kL (a:D.aAG)(h:Int):D.aAG×Bool:=bif !dW a||(decide (eG a h<0)||(aDl a (eG a h)).Cut) then(a,false) else({a with Credentials:=a.Credentials.set (eG a h).toNat {aDl a (eG a h) with Cut:=true}},true)
def Oe (s:D.Site)(k:Int):D.aAG:=s.Accounts.getD k.toNat default
def kH (h:Int)(s:D.Site):D.Site:=bif decide (bA s 1≥0) then {s with Accounts:=s.Accounts.set (bA s 1).toNat (kL (Oe s (bA s 1)) h).1} else s
def kQ (s e:Int):Int:=eU s [233,e]
def kI (s:D.aAJ)(l:List D.aAB):Int:=kQ (eU s.Seed [311]) (bC l)
def kM (w:D.World)(b:Int):D.World:=(bO w b 0).1
def aDm (w:D.World)(b t:Int):List D.aAB:=(kG (kM w b).aAH.Log 2 (dB (bR w t).Store) (bR (kM w b) b).Store).1
def Az (w:D.World)(b t:Int):D.World×Bool:=o5 (kM w b) b 2 (dB (bR w t).Store) (kI (bR (kM w b) b).Store)
def aS1 (w:D.World)(b t:Int):D.Device×Bool:=nX (bR (kM w b) b) (aDm w b t) (kI (bR (kM w b) b).Store (aDm w b t))
def aXl (w:D.World)(b t:Int):D.World:={(Az w b t).1 with Devices:=(Az w b t).1.Devices.set b.toNat (rU (aS1 w b t).1 t true),Sites:=(Az w b t).1.Sites.map (kH t)}
def bBy (w:D.World)(b t:Int):D.World×Bool:=upF (aXl w b t) b
def Fz (w:D.World)(b t:Int):D.World×Bool:=bif (Az w b t).2&&((aS1 w b t).2&&(bBy w b t).2) then(bDh (bBy w b t).1 4,true) else(w,false)
def kJ (w:D.World)(b t:Int):D.World×Bool:=bif (bO w b 0).2==0&&(!yA w b&&(!(b==t)&&jF w t)) then Fz w b t else(w,false)
theorem bAc (d:D.Device)(l:List D.aAB)(k:Int):(nX d l k).1.sz≤d.sz+l.length:=by
 unfold nX
 cases !cB l||(!dY l d.Log||(decide (bC l<d.Epoch)|| !dP k)) with
 |true=>simp only[cond_true];omega
 |false=>simp only[cond_false,D.Device.sz];omega
theorem bBz (a:D.aAG)(h:Int):(kL a h).1.sz=a.sz:=by
 unfold kL
 cases !dW a||(decide (eG a h<0)||(aDl a (eG a h)).Cut) with
 |true=>rfl
 |false=>simp only[cond_false,D.aAG.sz,List.length_set]
theorem bB0 (h:Int)(s:D.Site):(kH h s).sz=s.sz:=by
 unfold kH
 cases hc:decide (bA s 1≥0) with
 |false=>rfl
 |true=>
  have h0:decide (bA s 1<0)=false:=by rw[decide_eq_true_iff] at hc;exact decide_eq_false (by omega)
  have hr:=Od h0
  have hi:(bA s 1).toNat<s.Accounts.length:=by unfold bA;omega
  have h1:=vQ (f:=D.aAG.sz) (l:=s.Accounts) (i:=(bA s 1).toNat) (x:=(kL (Oe s (bA s 1)) h).1) hi
  have h2:=bBz (Oe s (bA s 1)) h
  have e:Oe s (bA s 1)=s.Accounts[(bA s 1).toNat]:=by simp[Oe,List.getD,List.getElem?_eq_getElem hi]
  rw[e] at h1 h2 ⊢
  simp only[cond_true,D.Site.sz,List.length_set];omega
theorem bAd (h:Int)(l:List D.Site):((l.map (kH h)).map D.Site.sz).sum=(l.map D.Site.sz).sum:=by
 induction l with
 |nil=>rfl
 |cons s l ih=>simp only[List.map_cons,List.sum_cons,bB0,ih]
theorem aV3 {w:D.World}{b t:Int}(h0:((bO w b 0).2==0)=true):(bH (kM w b) b=true∧(kM w b).Devices.length=w.Devices.length∧(kM w b).aAH=w.aAH∧(kM w b).sz≤2*w.sz+20)∧(aDm w b t).length≤w.sz+1∧(bH (Az w b t).1 b=true∧(Az w b t).1.Devices=(kM w b).Devices)∧(Az w b t).1.sz≤16*w.sz+34∧(Az w b t).1.Sites=(kM w b).Sites:=by
 obtain⟨⟨k1,k2⟩,k3,k4,k5⟩:=aMe h0
 have hL:w.aAH.Log.length≤w.sz:=by simp only[D.World.sz,D.aAH.sz];omega
 have hl:=Fy (kM w b).aAH.Log 2 (dB (bR w t).Store) (bR (kM w b) b).Store
 obtain⟨g1,g2,g3,g4⟩:=bHh (kM w b) b 2 (dB (bR w t).Store) (kI (bR (kM w b) b).Store)
 have hd0:bH (bO w b 0).1 b=true:=by simp only[bH] at*;rw[k4];exact k2
 have hd:bH (kM w b) b=true:=hd0
 have kc:(kM w b).aAH=w.aAH:=k3
 rw[kc] at g1 hl
 have k6:(kM w b).sz≤w.sz+w.aAH.Log.length+20:=k5
 refine⟨⟨hd,k4,k3,by omega⟩,by unfold aDm;rw[kc];omega,⟨?_,g3⟩,by unfold Az;omega,g4⟩
 have h:bH (o5 (kM w b) b 2 (dB (bR w t).Store) (kI (bR (kM w b) b).Store)).1 b=true:=by simp only[bH] at*;rw[g3];exact hd
 exact h
theorem bI5 {w:D.World}{b t:Int}(h0:((bO w b 0).2==0)=true):bH (aXl w b t) b=true∧(aXl w b t).sz≤40*w.sz+200:=by
 obtain⟨⟨a1,a2,a3,a4⟩,a5,⟨h1,h2⟩,h3,h4⟩:=aV3 (t:=t) h0
 have hd:=a1
 simp only[bH,Bool.and_eq_true,decide_eq_true_eq] at hd
 have hi:b.toNat<(kM w b).Devices.length:=by omega
 have h5:=bAc (bR (kM w b) b) (aDm w b t) (kI (bR (kM w b) b).Store (aDm w b t))
 have h6:=bDi (aS1 w b t).1 t true
 have h7:=vQ (f:=D.Device.sz) (l:=(kM w b).Devices) (i:=b.toNat) (x:=rU (aS1 w b t).1 t true) hi
 have e:(kM w b).Devices[b.toNat]=bR (kM w b) b:=by simp[bR,List.getD,List.getElem?_eq_getElem hi]
 rw[e] at h7
 have h8:=bAd t (Az w b t).1.Sites
 have h9:(aS1 w b t).1.sz≤(bR (kM w b) b).sz+(aDm w b t).length:=h5
 refine⟨?_,?_⟩
 ·have h:bH (Az w b t).1 b=true:=h1
  simp only[bH] at h ⊢
  simp only[aXl,List.length_set];exact h
 ·simp only[aXl]
  rw[h2]
  have h10:(Az w b t).1.sz≤16*w.sz+34:=h3
  generalize(Az w b t).1=x at*
  simp only[D.World.sz,List.length_set,h8,h2,List.length_map] at*;omega
theorem bE8 (w:D.World)(b t:Int):(kJ w b t).1.sz≤50*w.sz+1000:=by
 unfold kJ
 cases hc:(bO w b 0).2==0&&(!yA w b&&(!(b==t)&&jF w t)) with
 |false=>simp only[cond_false];omega
 |true=>
  rw[Bool.and_eq_true] at hc
  obtain⟨g1,g2⟩:=bI5 (t:=t) hc.1
  simp only[cond_true,Fz]
  cases(Az w b t).2&&((aS1 w b t).2&&(bBy w b t).2) with
  |false=>simp only[cond_false];omega
  |true=>
   obtain⟨_,_,h1⟩:=bMl g1
   have:=bI3 (bBy w b t).1 4
   simp only[cond_true,bBy] at*;omega
end Go.VK
