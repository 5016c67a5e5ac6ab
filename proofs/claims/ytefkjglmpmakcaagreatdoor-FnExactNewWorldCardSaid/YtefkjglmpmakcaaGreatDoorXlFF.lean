import Derived.Test.YtefkjglmpmakcaaGreatDoorEVztor
import Derived.Test.YtefkjglmpmakcaaGreatDoorXlS
/- Printed by wip/tools: models, walks, proofs. -/
set_option linter.unusedVariables false
set_option linter.unusedSimpArgs false
set_option maxRecDepth 100000
set_option maxHeartbeats 4000000
namespace Go.VK
open Go.RowKit Go.Proofs
def Kn (k:D.aAL):Int:=IntKind.i64.wrap (IntKind.i64.wrap (k.Epoch*1000)+k.Guesses)
theorem aFz {h v:Int}(h0:0≤h)(h1:h<2147483647):0≤hstep h v∧hstep h v<2147483647:=by
 have hm:=pX (p:=v) (q:=2147483647) (by omega)
 unfold hstep
 generalize iJ v 2147483647=z at*
 have e1:IntKind.i64.wrap (h*1000003)=h*1000003:=aK (by omega) (by omega)
 have e2:IntKind.i64.wrap (h*1000003+z)=h*1000003+z:=aK (by omega) (by omega)
 have e3:IntKind.i64.wrap (h*1000003+z+13)=h*1000003+z+13:=aK (by omega) (by omega)
 rw[e1,e2,e3]
 exact⟨Int.tmod_nonneg _ (by omega),Int.tmod_lt_of_pos _ (by decide)⟩
theorem aVh (l:List Int):0≤zR l∧zR l<2147483647:=by
 unfold zR
 suffices ∀(l:List Int) (h:Int),0≤h→h<2147483647→0≤l.foldl hstep h∧l.foldl hstep h<2147483647 from this l 11 (by omega) (by omega)
 intro l
 induction l with
 |nil=>intro h h0 h1;exact⟨h0,h1⟩
 |cons x xs ih=>intro h h0 h1;exact ih _ (aFz h0 h1).1 (aFz h0 h1).2
theorem lI (k:Int)(l:List Int):0≤dH k l∧dH k l<2147483647:=aVh _
def aS0 (a b:Int):Int:=bif decide (b>a) then b else a
def nJ (a:List Int)(r:List (List Int)):List Int:=a++r.flatten
def rT (n:Int):Int:=bif n==0 then 1 else n
def dG (n:Int):Bool:=cK n 1 2147483646
def rU (b:List Int):List Int:=[(b.length:Int)]++b.map IntKind.i64.wrap
def aY (seed:Int)(l:List Int):Int:=rT (dH seed ([151]++l))
def nK (k:Int)(s:ByteArray):Int:=rT (dH k (rU (bQ s)))
def fZ (p:Int):Int:=bif !(dG p) then 0 else(IntKind.i64.wrap (p*48271)).tmod 2147483647
def mH (s:D.aAH):Int:=aY s.Seed [181]
def dY (s:D.aAH):Int:=fZ (mH s)
def jP (l:List Int)(x:Int):Bool:=l.any fun e=>e==x
def nL (log:List D.aAB)(p:Int):Bool:=log.any fun e=>e.Kind==2&&e.Device==p
def jA (s:List Int)(e:D.aAB):List Int:=
 bif e.Kind==1 then(bif s.contains e.Device then s else s++[e.Device]) else bif e.Kind==2 then s.filter (fun d=>d !=e.Device) else s
def aJ (log:List D.aAB):List Int:=log.foldl jA []
def bC (log:List D.aAB):Int:=log.foldl (fun n e=>bif e.Kind==2 then IntKind.i64.wrap (n+1) else n) 0
def aH (b:D.aAC)(site handle:Int):Int:=kD (fun e=>e.Site==site&&e.Handle==handle) 0 b.Entries
def bE (s:D.Site)(id:Int):Int:=kD (fun a=>a.Id==id) 0 s.Accounts
theorem aF0 (s:List Int)(x:D.aAB):(jA s x).length≤s.length+1:=by
 unfold jA
 cases x.Kind==1 with
 |true=>cases s.contains x.Device<;>simp
 |false=>
  cases x.Kind==2 with
  |true=>have:=List.length_filter_le (fun d=>d !=x.Device) s;simp;omega
  |false=>simp
theorem gN (log:List D.aAB):(aJ log).length≤log.length:=by
 suffices ∀(l:List D.aAB) (s:List Int),(l.foldl jA s).length≤s.length+l.length from by simpa[aJ] using this log []
 intro l
 induction l with
 |nil=>intro s;simp
 |cons x xs ih=>
  intro s
  simp only[List.foldl_cons,List.length_cons]
  have h1:=ih (jA s x)
  have h2:(jA s x).length≤s.length+1:=by
   unfold jA
   cases x.Kind==1 with
   |true=>cases s.contains x.Device<;>simp
   |false=>
    cases x.Kind==2 with
    |true=>have:=List.length_filter_le (fun d=>d !=x.Device) s;simp;omega
    |false=>simp
  omega
theorem aVi {n:Int}(h:0≤n):aS0 1 n=rT n:=by
 unfold aS0 rT
 rcases(show n=0∨n=1∨n>1 by omega) with rfl|rfl|h1
 ·rfl
 ·rfl
 ·have:(n==0)=false:=by simp;omega
  simp[h1,this]
def fI (s:ByteArray):Int:=nK 173 s
def WOk (w:D.World):Prop:=w.Devices.length≤34359738368∧w.Stolen.length≤34359738368∧w.aAJ.Log.length≤34359738368∧w.Sites.length≤34359738368
instance (w:D.World):Decidable (WOk w):=inferInstanceAs (Decidable (_∧_))
def aJs (w:D.World):Int:=aY w.Seed [283]
theorem WOk.of {w:D.World}(h:w.sz≤1048576):WOk w:=by
 simp only[D.World.sz,D.aAJ.sz] at h
 unfold WOk
 omega
def aS1 (k:Int)(i:Nat)(z:Int):Int:=IntKind.u8.wrap ((z-dH k [(i:Int)])%256)
def aBd (k:Int)(b:List Int):List Int:=Ps (fun i z=>[aS1 k i z]) 0 b
theorem aVj (x:Int):iJ (IntKind.i64.wrap x) 256=x%256:=by
 rw[iJ,if_pos (by omega),IntKind.wrap_i64];omega
theorem bCx (k:Int)(i:Nat)(z:Int):IntKind.u8.wrap (iJ (IntKind.i64.wrap (IntKind.i64.wrap z-dH k [(i:Int)])) 256)=aS1 k i z:=by
 rw[aVj,aS1,IntKind.wrap_i64];congr 1;omega
theorem bCy (k:Int)(i:Nat)(z:Int):IntKind.u8.wrap (iJ (IntKind.i64.wrap (IntKind.i64.wrap z-(dH k [(i:Int)]).tmod 256)) 256)=aS1 k i z:=by
 rw[aVj,aS1,IntKind.wrap_i64,Int.tmod_eq_emod_of_nonneg (lI _ _).1];congr 1;omega
theorem Ko {α β:Type}{y:Nat→α→β}:∀{i:Nat} {l:List α},(Ps (fun i x=>[y i x]) i l).length=l.length
 |i,[]=>rfl
 |i,x::xs=>by simp[Ps,Ko]
def gB (p e:Int):Int:=aY p [163,e]
def Pw (k:Int)(b:D.Box):Int:=dH k ([167,b.To,b.Ephemeral]++rU b.Data)
def gL (p:Int)(b:D.Box):List Int×Bool:=
 bif !dG p||(b.To !=fZ p||(!dG b.Ephemeral||decide ((b.Data.length:Int)>200))) then([],false)
 else bif b.MAC !=Pw (gB p b.Ephemeral) b then([],false) else(aBd (gB p b.Ephemeral) b.Data,true)
def gX:List D.Box→Int→List Int×Bool
 |[],_=>([],false)
 |b::bs,p=>bif (gL p b).2 then((gL p b).1,true) else gX bs p
def aW (b:List Int):Prop:=b.length≤34359738368∧b.all (fun z=>decide (0≤z)&&decide (z≤255))=true
instance (b:List Int):Decidable (aW b):=inferInstanceAs (Decidable (_∧_))
theorem qW {b:List Int}(h:aW b){i:Nat}(hi:i<b.length):0≤b[i]∧b[i]≤255:=by
 have:=List.all_eq_true.1 h.2 b[i] (List.getElem_mem hi)
 simpa using this
def uvG (b:List Int)(p:Nat):Nat→Nat→Int→Int×Int×Bool
 |0,_,_=>(0,0,false)
 |k+1,i,n=>
  if p+i<b.length then
   bif decide (b.getD (p+i) 0<128) then
    (bif (decide (0<i)&&b.getD (p+i) 0==0)||decide (n+b.getD (p+i) 0%128*128^i>1000000000000) then(0,0,false) else(n+b.getD (p+i) 0%128*128^i,((p+i+1:Nat):Int),true))
   else uvG b p k (i+1) (n+b.getD (p+i) 0%128*128^i)
  else(0,0,false)
def xB (b:List Int)(at_:Int):Int×Int×Bool:=if at_<0 then(0,0,false) else uvG b at_.toNat 6 0 0
theorem aS2 {i:Nat}(h:i≤6):(1:Int)≤128^i∧(128:Int)^i≤4398046511104:=by
 match i,h with
 |0,_|1,_|2,_|3,_|4,_|5,_|6,_=>decide
theorem aS3 {z n:Int}{i:Nat}(hi:i≤5)(hz:0≤z)(hn:0≤n)(hn':n<128^i):0≤n+z%128*128^i∧n+z%128*128^i<128^(i+1)∧0≤z%128*128^i∧z%128*128^i≤127*128^i:=by
 have hp:=aS2 (i:=i) (by omega)
 have h1:0≤z%128*128^i:=Int.mul_nonneg (by omega) (by omega)
 have h2:z%128*128^i≤127*128^i:=Int.mul_le_mul_of_nonneg_right (by omega) (by omega)
 rw[Int.pow_succ]
 refine⟨by omega,by omega,h1,h2⟩
theorem bEk {z n:Int}{i:Nat}(hi:i≤5)(hz:0≤z)(hz':z≤255)(hn:0≤n)(hn':n<128^i):
  orI .i64 n (F7 .i64 (tJ .i64 z 127) (IntKind.i64.wrap (7*(i:Int))))=n+z%128*128^i:=by
 obtain⟨m,rfl⟩:=Int.eq_ofNat_of_zero_le hz
 obtain⟨q,rfl⟩:=Int.eq_ofNat_of_zero_le hn
 have hp:=aS2 (i:=i) (by omega)
 have hs:=aS3 (z:=(m:Int)) (n:=(q:Int)) hi (by omega) (by omega) hn'
 have ha:tJ .i64 (m:Int) 127=((m%128:Nat):Int):=by
  have e:((BitVec.ofInt 64 (m:Int))&&&(BitVec.ofInt 64 127)).toNat=m%128:=by
   rw[BitVec.toNat_and]
   have e1:(BitVec.ofInt 64 (m:Int)).toNat=m:=by
    rw[BitVec.toNat_ofInt];omega
   have e2:(BitVec.ofInt 64 127).toNat=2^7-1:=by decide
   rw[e1,e2,Nat.and_two_pow_sub_one_eq_mod]
  show IntKind.i64.wrap (((BitVec.ofInt 64 (m:Int))&&&(BitVec.ofInt 64 127)).toNat:Int)=_
  rw[e];exact aK (by omega) (by omega)
 have hw:IntKind.i64.wrap (7*(i:Int))=((7*i:Nat):Int):=by rw[aK (by omega) (by omega)];omega
 have hpn:(2:Nat)^(7*i)=128^i:=by rw[Nat.pow_mul]
 have hpi:((128^i:Nat):Int)=(128:Int)^i:=by simp
 have hb:F7 .i64 (tJ .i64 (m:Int) 127) (IntKind.i64.wrap (7*(i:Int)))=((m%128*128^i:Nat):Int):=by
  rw[ha,hw]
  unfold F7
  rw[Int.toNat_natCast,show min (7*i) IntKind.i64.bits=7*i from Nat.min_eq_left (by simp[IntKind.bits];omega)]
  have e3:((m%128:Nat):Int)*2^(7*i)=((m%128*128^i:Nat):Int):=by
   rw[←hpn];simp
  rw[e3]
  have:((m%128*128^i:Nat):Int)=(m:Int)%128*128^i:=by simp
  rw[this]
  exact aK (by omega) (by omega)
 rw[hb]
 have hqlt:q<128^i:=by rw[←hpi] at hn';exact_mod_cast hn'
 have hor:(m%128*128^i)|||q=m%128*128^i+q:=by
  have:=Nat.shiftLeft_add_eq_or_of_lt (b:=q) (i:=7*i) (by rw[hpn];exact hqlt) (m%128)
  rw[Nat.shiftLeft_eq,hpn] at this
  exact this.symm
 have hle:m%128*128^i+q<2^63:=by
  have:((m%128*128^i+q:Nat):Int)=q+(m:Int)%128*128^i:=by simp;omega
  omega
 have e4:((BitVec.ofInt 64 (q:Int))|||(BitVec.ofInt 64 ((m%128*128^i:Nat):Int))).toNat=m%128*128^i+q:=by
  rw[BitVec.toNat_or]
  have e5:(BitVec.ofInt 64 (q:Int)).toNat=q:=by rw[BitVec.toNat_ofInt];omega
  have e6:(BitVec.ofInt 64 ((m%128*128^i:Nat):Int)).toNat=m%128*128^i:=by rw[BitVec.toNat_ofInt];omega
  rw[e5,e6,Nat.or_comm,hor]
 show IntKind.i64.wrap (((BitVec.ofInt 64 (q:Int))|||(BitVec.ofInt 64 ((m%128*128^i:Nat):Int))).toNat:Int)=_
 rw[e4,aK (by omega) (by omega)]
 simp
 omega
def jQ (b:List Int):Nat→Int→List Int→List Int×Int×Bool
 |0,a,s=>(s,a,true)
 |k+1,a,s=>bif (xB b a).2.2 then jQ b k (xB b a).2.1 (s++[(xB b a).1]) else([],0,false)
def iG (b:List Int)(a c:Int):List Int×Int×Bool:=bif !cK c 0 100|| !cK a 0 b.length then([],0,false) else jQ b c.toNat a []
theorem aVk (b:List Int):∀(k:Nat) (a:Int) (s:List Int),(jQ b k a s).2.2=true→(jQ b k a s).1.length=s.length+k
 |0,a,s,_=>rfl
 |k+1,a,s,h=>by
  unfold jQ at h ⊢
  cases hu:(xB b a).2.2 with
  |false=>rw[hu] at h;simp at h
  |true=>
   rw[hu] at h
   simp only[cond_true] at h ⊢
   rw[aVk b k _ _ h];simp;omega
theorem decode_len {b:List Int}{a c:Int}(hc:0≤c)(h:(iG b a c).2.2=true):(iG b a c).1.length=c.toNat:=by
 unfold iG at h ⊢
 cases hx:(!cK c 0 100|| !cK a 0 b.length) with
 |true=>rw[hx] at h;simp at h
 |false=>
  rw[hx] at h
  simp only[cond_false] at h ⊢
  rw[aVk _ _ _ _ h];simp
theorem aS4 {k:Int}{b:List Int}(h:b.length≤34359738368):aW (aBd k b):=by
 refine⟨by unfold aBd;rw[Ko];exact h,?_⟩
 rw[List.all_eq_true]
 intro z hz
 have:∀(b:List Int) (i:Nat),z∈Ps (fun i z=>[aS1 k i z]) i b→0≤z∧z≤255:=by
  intro b
  induction b with
  |nil=>intro i h;simp[Ps] at h
  |cons x xs ih=>
   intro i h
   simp only[Ps,List.mem_append,List.mem_singleton] at h
   rcases h with rfl|h
   ·have:=dP .u8 ((x-dH k [(i:Int)])%256)
    simpa[aS1,IntKind.min,IntKind.max,IntKind.signed,IntKind.bits] using this
   ·exact ih _ h
 have:=this b 0 hz
 simp[this.1,this.2]
theorem aXe (p:Int)(b:D.Box):aW (gL p b).1:=by
 unfold gL
 have h0:aW ([]:List Int):=by decide
 by_cases hl:b.Data.length≤200
 ·cases(!dG p||(b.To !=fZ p||(!dG b.Ephemeral||decide ((b.Data.length:Int)>200))))<;>cases(b.MAC !=Pw (gB p b.Ephemeral) b)<;>first|exact h0|exact aS4 (by omega)
 ·have e1:decide ((b.Data.length:Int)>200)=true:=by simp;omega
  rw[e1];simpa using h0
theorem Vb (p:Int):∀bs,aW (gX bs p).1
 |[]=>show aW [] by decide
 |b::bs=>by
  unfold gX
  cases(gL p b).2 with
  |true=>exact aXe p b
  |false=>exact Vb p bs
def Vd (e:D.aAD)(x:List Int×Bool)(y:List Int×Int×Bool):Int×Bool:=
 bif !x.2||(!y.2.2||(y.2.1 !=(x.1.length:Int)||(y.1.getD 0 0 !=e.Epoch|| !dG (y.1.getD 1 0)))) then(0,false) else(y.1.getD 1 0,true)
def dD (s:D.aAH)(e:D.aAD):Int×Bool:=Vd e (gX e.Boxes (mH s)) (iG (gX e.Boxes (mH s)).1 0 2)
theorem and_one {n:Int}(h0:0≤n)(h1:n<9223372036854775808):tJ .i64 n 1=n%2:=by
 obtain⟨m,rfl⟩:=Int.eq_ofNat_of_zero_le h0
 have e:((BitVec.ofInt 64 (m:Int))&&&(BitVec.ofInt 64 1)).toNat=m%2:=by
  rw[BitVec.toNat_and]
  have e1:(BitVec.ofInt 64 (m:Int)).toNat=m:=by rw[BitVec.toNat_ofInt];omega
  have e2:(BitVec.ofInt 64 1).toNat=2^1-1:=by decide
  rw[e1,e2,Nat.and_two_pow_sub_one_eq_mod]
 show IntKind.i64.wrap (((BitVec.ofInt 64 (m:Int))&&&(BitVec.ofInt 64 1)).toNat:Int)=_
 rw[e,aK (by omega) (by omega)];omega
theorem aYz {n:Int}(h0:0≤n):Uo .i64 n 1=n/2:=by
 unfold Uo
 rw[show min (Int.toNat 1) IntKind.i64.bits=1 from by decide,Int.fdiv_eq_ediv_of_nonneg _ (by decide)];rfl
def bAq:Nat→Int→Int→Int→Int
 |0,_,_,s=>s
 |k+1,b,n,s=>if n>0 then bAq k ((IntKind.i64.wrap (b*b)).tmod 2147483647) (n/2) (bif n%2==1 then(IntKind.i64.wrap (s*b)).tmod 2147483647 else s) else s
theorem aY0:bAq 31 48271 2147483645 1=1899818559:=by decide+kernel
def fQ (q:Int):Int:=bif !dG q then 0 else q*1899818559%2147483647
def Gb (p:Int)(l:List Int):Int:=bif !dG p then 0 else dH p ([139,(l.length:Int)]++l)
def kP (q:Int)(l:List Int)(g:Int):Bool:=fQ q !=0&&Gb (fQ q) l==g
theorem J3 {α:Type}[Inhabited α]{l:List α}{i:Nat}(h0:0<i)(hi:i<l.length)(hl:l.length≤34359738368):aT l (IntKind.i64.wrap ((i:Int)-1))=some (l.getD (i-1) default):=by
 rw[aK (by omega) (by omega),show(i:Int)-1=((i-1:Nat):Int) by omega,aF (by omega)]
 simp[List.getD,List.getElem?_eq_getElem (show i-1<l.length by omega)]
def jV (b:D.aAG)(i:Nat)(n:D.aAK):Bool:= !cK n.Id 0 (IntKind.i64.wrap (b.Next-1))||((decide (0<i)&&decide ((b.Open.getD (i-1) default).Id≥n.Id))||(!cK n.aAF 0 1000005|| !cK n.Until 0 1000005))
def nM (b:D.aAG):Bool:=cK b.Next 0 1000000&&decide (b.Open.length≤16)&& !mK (jV b) 0 b.Open
def Ec (a:D.aAF)(i:Nat)(n:D.aAI):Bool:=(!cK n.Handle 0 1000000||((decide (0<i)&&decide ((a.Credentials.getD (i-1) default).Handle≥n.Handle))||(fQ n.Public==0|| !cK n.Counter 0 1000000)))||(a.Credentials.take i).any fun q=>q.Public==n.Public
def bP (a:D.aAF):Bool:=cK a.Id 0 1000000&&cK a.Minimum 1 3&&decide (a.Credentials.length≤8)&& !mK (Ec a) 0 a.Credentials
def dE (e:D.aAB):Int:=zR [229,e.Index,e.Kind,e.Device,e.By,e.Previous]
def gP (l:List D.aAB):Int:=bif (l.length:Int)==0 then 0 else dE (l.getD (l.length-1) default)
def qN (l:List D.aAB)(e:D.aAB):Bool:=
 e.Index==(l.length:Int)&&(e.Previous==gP l&&((jP (aJ l) e.By||((l.length:Int)==0&&e.By==e.Device))&&(kP e.By [dE e] e.Signature&&
  (bif e.Kind==2 then jP (aJ l) e.Device&&decide (((aJ l).length:Int)>1) else !nL l e.Device&&(e.Kind==1&&(!jP (aJ l) e.Device&&decide (((aJ l).length:Int)<6)))))))
def cO (l:List D.aAB):Bool:=cK (l.length:Int) 1 40&& !mK (fun i e=> !qN (l.take i) e) 0 l
theorem bCz {l:List Int}{x:Int}(h:jP l x=true):0<l.length:=by
 cases l with
 |nil=>simp[jP] at h
 |cons a r=>simp
def iC:List UInt8→List UInt8→List (List UInt8)
 |cur,[]=>[cur]
 |cur,b::r=>bif b==46 then cur::iC [] r else iC (cur++[b]) r
theorem bC0 (s:List UInt8)(i:Nat):Lib.occAt s [46] i=decide (s[i]? =some 46):=by
 unfold Lib.occAt
 cases h:s.drop i with
 |nil=>
  have:s.length≤i:=List.drop_eq_nil_iff.1 h
  simp[List.getElem?_eq_none this,List.isPrefixOf]
 |cons b r=>
  have e:s[i]? =some b:=by
   have:=List.getElem?_drop (xs:=s) (i:=i) (j:=0)
   rw[h] at this;simpa using this.symm
  rw[e];simp only[List.isPrefixOf,Bool.and_true,Option.some.injEq]
  rw[Bool.eq_iff_iff];simp only[beq_iff_eq,decide_eq_true_eq];exact eq_comm
theorem aK1:∀(a cur r:List UInt8),(∀b∈a,b≠46)→iC cur (a++46::r)=(cur++a)::iC [] r
 |[],cur,r,_=>by simp[iC]
 |b::a,cur,r,h=>by
  have hb:(b==46)=false:=by simpa using h b (by simp)
  rw[List.cons_append,iC,hb,cond_false,aK1 a _ r (fun x hx=>h x (List.mem_cons_of_mem _ hx))];simp
theorem aF1:∀(a cur:List UInt8),(∀b∈a,b≠46)→iC cur a=[cur++a]
 |[],cur,_=>by simp[iC]
 |b::a,cur,h=>by
  have hb:(b==46)=false:=by simpa using h b (by simp)
  rw[iC,hb,cond_false,aF1 a _ (fun x hx=>h x (List.mem_cons_of_mem _ hx))];simp
theorem aVl:∀(n:Nat) (s:List UInt8),s.length<n→Lib.splitK [46] 0 (Lib.count s [46]) s=iC [] s
 |0,s,h=>absurd h (Nat.not_lt_zero _)
 |n+1,s,h=>by
  rcases Lib.index_spec s [46] with⟨h1,h2⟩|⟨i,h1,h2,h3,h4⟩
  ·rw[Lib.count_miss h1,aF1 s [] (fun b hb e=>by
    obtain⟨j,hj,ej⟩:=List.getElem_of_mem hb
    have:=h2 j (by omega)
    rw[bC0,List.getElem?_eq_getElem hj,ej,e] at this;simp at this)];rfl
  ·rw[bC0] at h3
   have h3:s[i]? =some 46:=by simpa using h3
   have hi:i<s.length:=by
    rcases Nat.lt_or_ge i s.length with hlt|hge
    ·exact hlt
    ·rw[List.getElem?_eq_none hge] at h3;cases h3
   rw[Lib.count_hit (by simp) h1,Nat.add_comm,Lib.splitK,h1]
   have hne:((i:Int)== -1)=false:=by simp
   rw[hne]
   simp only[Int.toNat_natCast,Nat.add_zero,List.length_cons,List.length_nil,Nat.zero_add]
   rw[if_neg (by simp),aVl n (s.drop (i+1)) (by rw[List.length_drop];omega)]
   have es:s=s.take i++46::s.drop (i+1):=by
    have e2:s[i]=46:=by rw[List.getElem?_eq_getElem hi] at h3;exact Option.some.inj h3
    rw[←e2,List.getElem_cons_drop hi,List.take_append_drop]
   conv=>rhs;rw[es]
   rw[aK1 (s.take i) [] _ (fun b hb e=>by
    obtain⟨j,hj,ej⟩:=List.getElem_of_mem hb
    rw[List.length_take] at hj
    have:=h4 j (by omega)
    rw[bC0,List.getElem?_eq_getElem (by omega)] at this
    rw[List.getElem_take] at ej
    rw[ej,e] at this;simp at this)];simp
def bH (s:ByteArray):List ByteArray:=(iC [] s.data.toList).map fun l=>⟨l.toArray⟩
theorem aK2 (s:ByteArray):jE s ⟨#[46]⟩=bH s:=by
 have h1:(jE s ⟨#[46]⟩).map (·.data.toList)=iC [] s.data.toList:=by
  rw[jE,Lib.splitB_data];exact aVl _ _ (Nat.lt_succ_self _)
 unfold bH
 rw[←h1,List.map_map]
 conv=>lhs;rw[←List.map_id (jE s ⟨#[46]⟩)]
 congr 1
def J4 (b:Int):Bool:=cK b 97 122||cK b 48 57||b==45
def qX (s:ByteArray):Bool:=decide (1≤s.size)&&decide (s.size≤20)&& !((bQ s).getD 0 0==45)&& !((bQ s).getD (s.size-1) 0==45)&& !((bQ s).any fun b=> !J4 b)
def iH (s:ByteArray):Bool:=decide (s.size≤60)&& !((bH s).any fun l=> !qX l)
theorem iD (s:ByteArray):(bQ s).length=s.size:=by simp only[bQ,List.length_map];rfl
theorem aVm {s:ByteArray}{i:Nat}(h:i<s.size):aT (bQ s) (i:Int)=some ((bQ s)[i]'(by rw[iD];exact h)):=aF _
theorem ext_list (s:ByteArray)(a b:Nat):s.extract a b=⟨((s.data.toList.drop a).take (b-a)).toArray⟩:=by
 apply ByteArray.ext
 apply Array.toList_inj.1
 rw[Lib.extract_data]
theorem Ve:∀(s cur:List UInt8),(iC cur s).length≤s.length+1
 |[],_=>by simp[iC]
 |b::r,cur=>by
  rw[iC]
  cases b==46 with
  |true=>have:=Ve r [];simp;omega
  |false=>have:=Ve r (cur++[b]);simp at this ⊢;omega
theorem Kq:∀(s cur:List UInt8) (l:List UInt8),l∈iC cur s→l.length≤cur.length+s.length
 |[],cur,l,h=>by simp[iC] at h;subst h;simp
 |b::r,cur,l,h=>by
  rw[iC] at h
  cases hb:b==46 with
  |true=>
   rw[hb,cond_true] at h
   rcases List.mem_cons.1 h with rfl|h
   ·omega
   ·have:=Kq r [] l h;simp at this ⊢;omega
  |false=>rw[hb,cond_false] at h;have:=Kq r _ l h;simp at this ⊢;omega
theorem Kr (s:ByteArray):(bH s).length≤s.size+1:=by
 unfold bH;rw[List.length_map];exact Ve _ _
theorem tO (s l:ByteArray)(h:l∈bH s):l.size≤s.size:=by
 unfold bH at h
 obtain⟨q,hq,rfl⟩:=List.mem_map.1 h
 have:=Kq _ _ q hq
 have h2:(⟨q.toArray⟩:ByteArray).size=q.length:=rfl
 have h3:s.data.toList.length=s.size:=rfl
 have h4:([]:List UInt8).length=0:=rfl
 omega
theorem bIb (z:ByteArray):(z.toList==(⟨#[]⟩:ByteArray).toList)=decide (z.size=0):=by
 rw[ByteArray.toList_eq,ByteArray.toList_eq,Bool.eq_iff_iff]
 simp only[beq_iff_eq,decide_eq_true_eq]
 constructor
 ·intro h
  show z.data.size=0
  rw[←Array.length_toList,h];rfl
 ·intro h
  exact List.eq_nil_of_length_eq_zero h
theorem tQ:∀(s cur:List UInt8),(iC cur s).length=s.countP (·==46)+1
 |[],_=>rfl
 |b::r,cur=>by
  rw[iC,List.countP_cons]
  cases b==46 with
  |true=>rw[cond_true,List.length_cons,tQ r []];simp
  |false=>rw[cond_false,tQ r _];simp
theorem aF2 (s:ByteArray):0<(bH s).length:=by
 unfold bH;rw[List.length_map,tQ];omega
def Pm (s:ByteArray):Bool:=(bQ s).any fun b=>b==46
theorem aPc (s:ByteArray):Pm s=decide (2≤(bH s).length):=by
 unfold Pm bH bQ
 rw[List.length_map,tQ,List.any_map]
 have e:(fun b:Int=>b==46)∘(fun b:UInt8=>(b.toNat:Int))=fun b:UInt8=>b==46:=by
  funext b
  rw[Bool.eq_iff_iff]
  simp only[Function.comp,beq_iff_eq]
  constructor
  ·intro q;apply UInt8.toNat_inj.1;show _=46;omega
  ·intro q;rw[q];rfl
 rw[e,Bool.eq_iff_iff,List.any_eq_true,decide_eq_true_eq]
 have:=List.countP_pos_iff (p:=fun b:UInt8=>b==46) (l:=s.data.toList)
 constructor
 ·intro h;have:=this.2 h;omega
 ·intro h;exact this.1 (by omega)
def bAr (s:ByteArray):ByteArray:=bif iH s then(bif (bH s).length==1 then s else mW ⟨#[46]⟩ ((bH s).drop ((bH s).length-2))) else⟨#[]⟩
theorem bFa {l:List ByteArray}(h:2≤l.length):∃a∈l,∃b∈l,mW ⟨#[46]⟩ (l.drop (l.length-2))=a++⟨#[46]⟩++b:=by
 have hl:(l.drop (l.length-2)).length=2:=by rw[List.length_drop];omega
 match hm:l.drop (l.length-2),hl with
 |[a,b],_=>
  refine⟨a,List.mem_of_mem_drop (i:=l.length-2) (by rw[hm];simp),b,List.mem_of_mem_drop (i:=l.length-2) (by rw[hm];simp),?_⟩
  rw[show[a,b]=[a]++[b] from rfl,bDp _ _ _ (by simp),bDo]
theorem Kt {s:ByteArray}(h:iH s=true):s.size≤60∧0<s.size:=by
 unfold iH at h
 rw[Bool.and_eq_true,decide_eq_true_eq] at h
 refine⟨h.1,Nat.pos_of_ne_zero fun e=> ?_⟩
 have e2:s.data.toList=[]:=List.eq_nil_of_length_eq_zero e
 have e3:bH s=[⟨#[]⟩]:=by unfold bH;rw[e2];rfl
 rw[e3] at h
 exact absurd h.2 (by decide)
theorem bEl {s:ByteArray}(h:iH s=true):decide ((bAr s).size=0)=false:=by
 have hs:=Kt h
 have hp:=aF2 s
 unfold bAr
 rw[h,cond_true]
 refine decide_eq_false ?_
 cases h1:(bH s).length==1 with
 |true=>rw[cond_true];omega
 |false=>
  rw[cond_false]
  have:(bH s).length≠1:=by simpa using h1
  obtain⟨a,_,b,_,e⟩:=bFa (l:=bH s) (by omega)
  rw[e,ByteArray.size_append,ByteArray.size_append]
  have:(⟨#[46]⟩:ByteArray).size=1:=rfl
  omega
def jB (s:ByteArray)(seed:Int):Bool:=iH s&&decide (2≤(bH s).length)&&dG seed
def Vf (l:List D.aAF)(i:Nat)(n:D.aAF):Bool:= !bP n||(decide (0<i)&&decide ((l.getD (i-1) default).Id≥n.Id))
def fP (s:D.Site):Bool:=jB s.Name s.Book.Seed&&decide (s.Accounts.length≤8)&&nM s.Book&& !mK (Vf s.Accounts) 0 s.Accounts
def SOk (s:D.Site):Prop:=s.Name.size≤34359738368∧s.Accounts.length≤34359738368∧s.Book.Open.length≤34359738368∧∀a∈s.Accounts,a.Credentials.length≤34359738368
instance (s:D.Site):Decidable (SOk s):=inferInstanceAs (Decidable (_∧_))
def eY (name:ByteArray)(seed:Int):D.Site:=bif jB name seed then⟨name,[],⟨seed,0,[]⟩,[]⟩ else⟨⟨#[]⟩,[],⟨0,0,[]⟩,[]⟩
theorem aXf (name:ByteArray)(seed:Int):decide ((eY name seed).Name.size=0)= !jB name seed:=by
 unfold eY
 cases h:jB name seed with
 |false=>rfl
 |true=>
  have:iH name=true:=by unfold jB at h;rw[Bool.and_eq_true,Bool.and_eq_true] at h;exact h.1.1
  have:=Kt this
  exact decide_eq_false (by show ¬name.size=0;omega)
def aQ (i:Int):ByteArray:=bif i==0 then⟨#[98,97,110,107,46,99,111,109]⟩ else bif i==1 then⟨#[115,104,111,112,46,111,114,103]⟩ else⟨#[]⟩
def bHd (w:D.World):Prop:=WOk w∧w.Mail.Notices.length≤34359738368∧w.Hosts.length≤34359738368∧∀s∈w.Sites,SOk s
instance (w:D.World):Decidable (bHd w):=inferInstanceAs (Decidable (_∧_))
theorem aXg {α:Type}{g:α→Nat}{x:α}:∀{l:List α},x∈l→g x≤(l.map g).sum
 |y::r,h=>by
  rw[List.map_cons,List.sum_cons]
  rcases List.mem_cons.1 h with rfl|h
  ·omega
  ·have:=aXg (g:=g) h;omega
theorem SOk.of {s:D.Site}(h:s.sz≤1048576):SOk s:=by
 simp only[D.Site.sz] at h
 refine⟨by omega,by omega,by omega,fun a ha=> ?_⟩
 have:=aXg (g:=D.aAF.sz) ha
 simp only[D.aAF.sz] at this h
 omega
theorem bHd.of {w:D.World}(h:w.sz≤1048576):bHd w:=by
 refine⟨WOk.of h,?_,?_,fun s hs=>SOk.of ?_⟩
 ·simp only[D.World.sz] at h;omega
 ·simp only[D.World.sz] at h;omega
 ·have:=aXg (g:=D.Site.sz) hs
  simp only[D.World.sz] at h;omega
abbrev uP (a:List Int)(r:List (List Int)):Prop:=a.length+r.flatten.length≤68719476736∧r.length≤1099511627776
def eD (a b:D.Entry):Bool:=decide (a.Site<b.Site)||(a.Site==b.Site&&decide (a.Handle<b.Handle))
def iE (a:D.Entry)(s h:Int):Bool:=decide (a.Site<s)||(a.Site==s&&decide (a.Handle<h))
def uQ (x e:D.Entry):Bool:=decide (x.Version>e.Version)||(x.Version==e.Version&&x.Deleted)
def rZ (e x:D.Entry):D.Entry:=bif uQ x e then x else e
def dU:List D.Entry→List D.Entry→List D.Entry
 |[],bs=>bs
 |a::xs,[]=>a::xs
 |a::xs,b::bs=>bif eD a b then a::dU xs (b::bs) else bif eD b a then b::dU (a::xs) bs else rZ a b::dU xs bs
termination_by xs bs=>xs.length+bs.length
def J5 (l:List D.Entry)(i:Nat)(e:D.Entry):Bool:= !cK e.Site 0 2147483646||(!cK e.Handle 0 1000000||(!cK e.Version 1 1000000||(decide ((i:Int)>0)&& !eD (l.getD (i-1) default) e)))
def aI (b:D.aAC):Bool:=decide ((b.Entries.length:Int)≤20)&& !mK (J5 b.Entries) 0 b.Entries
def kX (a b:D.aAC):D.aAC×Bool:=bif aI a&&aI b then(bif aI ⟨dU a.Entries b.Entries⟩ then(⟨dU a.Entries b.Entries⟩,true) else(a,false)) else(a,false)
def nN (b:D.aAC)(x:D.Entry):D.aAC:=bif decide (aH b x.Site x.Handle≥0) then⟨b.Entries.set (aH b x.Site x.Handle).toNat x⟩ else⟨b.Entries.takeWhile (fun e=>iE e x.Site x.Handle)++[x]++b.Entries.dropWhile (fun e=>iE e x.Site x.Handle)⟩
theorem Ah {a b:D.Entry}:eD a b=true↔a.Site<b.Site∨(a.Site=b.Site∧a.Handle<b.Handle):=by
 simp[eD]
theorem aXh {a x:D.Entry}:iE a x.Site x.Handle=eD a x:=rfl
theorem Ku {a b c:D.Entry}(h:eD a b=true)(k:eD b c=true):eD a c=true:=by
 rw[Ah] at*;omega
theorem Vg {a b:D.Entry}(h:eD a b=false)(k:eD b a=false):a.Site=b.Site∧a.Handle=b.Handle:=by
 have h1:¬(a.Site<b.Site∨(a.Site=b.Site∧a.Handle<b.Handle)):=fun q=>by rw[Ah.2 q] at h;cases h
 have h2:¬(b.Site<a.Site∨(b.Site=a.Site∧b.Handle<a.Handle)):=fun q=>by rw[Ah.2 q] at k;cases k
 omega
theorem Pn {a b c:D.Entry}(h:a.Site=b.Site∧a.Handle=b.Handle):eD a c=eD b c:=by
 unfold eD;rw[h.1,h.2]
theorem aK3 {a b c:D.Entry}(h:a.Site=b.Site∧a.Handle=b.Handle):eD c a=eD c b:=by
 unfold eD;rw[h.1,h.2]
theorem aVn {a b:D.Entry}(h:a.Site=b.Site∧a.Handle=b.Handle):(rZ a b).Site=b.Site∧(rZ a b).Handle=b.Handle:=by
 unfold rZ
 cases uQ b a
 ·exact h
 ·exact⟨rfl,rfl⟩
theorem bEm (a b:D.Entry):rZ a b=a∨rZ a b=b:=by
 unfold rZ
 cases uQ b a
 ·exact .inl rfl
 ·exact .inr rfl
theorem fA (l:List D.Entry):dU l []=l:=by cases l<;>rw[dU]
theorem jW (l:List D.Entry):dU [] l=l:=by rw[dU]
theorem tZ:∀(n:Nat) (a b:List D.Entry),a.length+b.length≤n→(dU a b).length≤a.length+b.length
 |_,[],b,_=>by rw[jW];simp
 |_,a::xs,[],_=>by rw[fA];simp
 |0,a::xs,b::bs,h=>by simp at h
 |n+1,a::xs,b::bs,h=>by
  simp only[List.length_cons] at h
  rw[dU]
  cases eD a b with
  |true=>have:=tZ n xs (b::bs) (by simp only[List.length_cons];omega);simp only[cond_true,List.length_cons] at*;omega
  |false=>
   cases eD b a with
   |true=>have:=tZ n (a::xs) bs (by simp only[List.length_cons];omega);simp only[cond_false,cond_true,List.length_cons] at*;omega
   |false=>have:=tZ n xs bs (by omega);simp only[cond_false,List.length_cons] at*;omega
theorem Vh (a b:D.Entry)(xs bs:List D.Entry):dU (a::xs) (b::bs)=bif eD a b then a::dU xs (b::bs) else bif eD b a then b::dU (a::xs) bs else rZ a b::dU xs bs:=by rw[dU]
def srt (l:List D.Entry):Prop:=l.Pairwise fun a b=>eD a b=true
theorem aRk:∀(A:List D.Entry) {b:D.Entry} {bs:List D.Entry},srt (b::bs)→dU (dU A [b]) bs=dU A (b::bs)
 |[],b,bs,h=>by
  rw[jW,jW]
  cases bs with
  |nil=>rw[fA]
  |cons c cs=>rw[dU,(List.pairwise_cons.1 h).1 c (by simp),cond_true,jW]
 |a::xs,b,bs,h=>by
  have hc:=(List.pairwise_cons.1 h).1
  rw[Vh a b xs [],Vh a b xs bs]
  cases h1:eD a b with
  |true=>
   simp only[cond_true]
   cases bs with
   |nil=>rw[fA]
   |cons c cs=>rw[dU,Ku h1 (hc c (by simp)),cond_true,aRk xs h]
  |false=>
   cases h2:eD b a with
   |true=>
    simp only[cond_true,cond_false]
    rw[fA]
    cases bs with
    |nil=>rw[fA,fA]
    |cons c cs=>rw[dU,hc c (by simp),cond_true]
   |false=>
    simp only[cond_false]
    rw[fA]
    cases bs with
    |nil=>rw[fA,fA]
    |cons c cs=>rw[dU,Pn (aVn (Vg h1 h2)),hc c (by simp),cond_true]
theorem aY1:∀{l:List D.Entry} {x y:D.Entry},y∈dU l [x]→y∈l∨y=x
 |[],x,y,h=>by rw[jW] at h;simp at h;exact .inr h
 |a::xs,x,y,h=>by
  rw[dU] at h
  cases h1:eD a x with
  |true=>
   rw[h1,cond_true] at h
   rcases List.mem_cons.1 h with rfl|h
   ·exact .inl (by simp)
   ·exact(aY1 h).imp (fun h=>by simp[h]) id
  |false=>
   rw[h1,cond_false] at h
   cases h2:eD x a with
   |true=>
    rw[h2,cond_true,fA] at h
    rcases List.mem_cons.1 h with rfl|h
    ·exact .inr rfl
    ·exact .inl h
   |false=>
    rw[h2,cond_false,fA] at h
    rcases List.mem_cons.1 h with rfl|h
    ·rcases bEm a x with e|e
     ·rw[e];exact .inl (by simp)
     ·exact .inr e
    ·exact .inl (by simp[h])
theorem aY2:∀{l:List D.Entry} {x:D.Entry},srt l→srt (dU l [x])
 |[],x,h=>by rw[jW];exact List.pairwise_singleton _ _
 |a::xs,x,h=>by
  obtain⟨ha,hs⟩:=List.pairwise_cons.1 h
  rw[dU]
  cases h1:eD a x with
  |true=>
   rw[cond_true]
   refine List.pairwise_cons.2 ⟨fun y hy=> ?_,aY2 hs⟩
   rcases aY1 hy with hy|rfl
   ·exact ha y hy
   ·exact h1
  |false=>
   cases h2:eD x a with
   |true=>
    rw[cond_false,cond_true,fA]
    refine List.pairwise_cons.2 ⟨fun y hy=> ?_,h⟩
    rcases List.mem_cons.1 hy with rfl|hy
    ·exact h2
    ·exact Ku h2 (ha y hy)
   |false=>
    rw[cond_false,cond_false,fA]
    have hk:=Vg h1 h2
    refine List.pairwise_cons.2 ⟨fun y hy=> ?_,hs⟩
    rw[Pn (aVn hk),←Pn hk];exact ha y hy
theorem aK4:∀(B A:List D.Entry),srt B→B.foldl (fun o x=>dU o [x]) A=dU A B
 |[],A,_=>by rw[fA];rfl
 |b::bs,A,h=>by rw[List.foldl_cons,aK4 bs _ (List.pairwise_cons.1 h).2,aRk A h]
theorem aVo {α:Type}{p:α→Bool}:∀{l:List α} {i:Nat},kD p i l<0→∀y∈l,p y=false
 |[],i,_,y,hy=>by simp at hy
 |x::l,i,h,y,hy=>by
  simp only[kD] at h
  cases hp:p x with
  |true=>rw[hp,cond_true] at h;omega
  |false=>
   rw[hp,cond_false] at h
   rcases List.mem_cons.1 hy with rfl|hy
   ·exact hp
   ·exact aVo h y hy
theorem aBe {α:Type}{p:α→Bool}:∀{l:List α} {i:Nat},0≤kD p i l→∃l1 e l2,l=l1++e::l2∧p e=true∧kD p i l=((i+l1.length:Nat):Int)
 |[],i,h=>by simp[kD] at h
 |x::l,i,h=>by
  simp only[kD] at h ⊢
  cases hp:p x with
  |true=>exact⟨[],x,l,rfl,hp,by simp⟩
  |false=>
   rw[hp,cond_false] at h
   obtain⟨l1,e,l2,h1,h2,h3⟩:=aBe h
   exact⟨x::l1,e,l2,by rw[h1];rfl,h2,by rw[cond_false,h3];simp only[List.length_cons];omega⟩
theorem aY3:∀{l:List D.Entry} {x:D.Entry},(∀y∈l,(y.Site==x.Site&&y.Handle==x.Handle)=false)→dU l [x]=l.takeWhile (fun e=>iE e x.Site x.Handle)++[x]++l.dropWhile (fun e=>iE e x.Site x.Handle)
 |[],x,_=>by rw[jW];rfl
 |a::xs,x,h=>by
  rw[dU,List.takeWhile_cons,List.dropWhile_cons,aXh]
  cases h1:eD a x with
  |true=>simp only[cond_true,if_true];rw[aY3 (fun y hy=>h y (by simp[hy]))];rfl
  |false=>
   cases h2:eD x a with
   |true=>simp only[cond_false,cond_true];rw[fA];rfl
   |false=>
    have:=Vg h1 h2
    have:=h a (by simp)
    simp_all
theorem aY4 {e x:D.Entry}{l2:List D.Entry}(he:(e.Site==x.Site&&e.Handle==x.Handle)=true):∀{l1:List D.Entry},srt (l1++e::l2)→dU (l1++e::l2) [x]=l1++rZ e x::l2
 |[],_=>by
  have hk:e.Site=x.Site∧e.Handle=x.Handle:=by simpa using he
  have h1:eD e x=false:=by
   cases h:eD e x with
   |false=>rfl
   |true=>rw[Ah] at h;omega
  have h2:eD x e=false:=by
   cases h:eD x e with
   |false=>rfl
   |true=>rw[Ah] at h;omega
  rw[List.nil_append,dU,h1,cond_false,h2,cond_false,fA];rfl
 |a::l1,h=>by
  obtain⟨ha,hs⟩:=List.pairwise_cons.1 h
  have hk:e.Site=x.Site∧e.Handle=x.Handle:=by simpa using he
  have h1:eD a x=true:=by rw[←aK3 hk];exact ha e (by simp)
  rw[List.cons_append,dU,h1,cond_true,aY4 he hs];rfl
theorem bC1 {l:List D.Entry}{x:D.Entry}(h:srt l):(bif (decide (aH ⟨l⟩ x.Site x.Handle<0)||uQ x (l.getD (aH ⟨l⟩ x.Site x.Handle).toNat default)) then(nN ⟨l⟩ x).Entries else l)=dU l [x]:=by
 unfold nN
 by_cases hf:aH ⟨l⟩ x.Site x.Handle<0
 ·rw[decide_eq_true hf,Bool.true_or,cond_true,show decide (aH ⟨l⟩ x.Site x.Handle≥0)=false from decide_eq_false (by omega),cond_false]
  exact(aY3 (aVo hf)).symm
 ·obtain⟨l1,e,l2,h1,h2,h3⟩:=aBe (show 0≤kD (fun e=>e.Site==x.Site&&e.Handle==x.Handle) 0 l from by unfold aH at hf;simp only at hf;omega)
  have h3':aH ⟨l⟩ x.Site x.Handle=(l1.length:Int):=by unfold aH;rw[h3];simp
  rw[h3',decide_eq_false (by omega),Bool.false_or,show decide ((l1.length:Int)≥0)=true from decide_eq_true (by omega),cond_true,Int.toNat_natCast]
  subst h1
  rw[aY4 h2 h]
  have g:(l1++e::l2).getD l1.length default=e:=by simp[List.getD]
  have st:(l1++e::l2).set l1.length x=l1++x::l2:=by simp
  rw[g]
  show(bif uQ x e then(l1++e::l2).set l1.length x else l1++e::l2)=_
  rw[st]
  unfold rZ
  cases uQ x e<;>rfl
theorem aY5 {α:Type}{p:Nat→α→Bool}:∀{l:List α} {j:Nat},mK p j l=false→∀(i:Nat) (hi:i<l.length),p (j+i) l[i]=false
 |[],j,_,i,hi=>by simp at hi
 |x::l,j,h,i,hi=>by
  simp only[mK,Bool.or_eq_false_iff] at h
  cases i with
  |zero=>exact h.1
  |succ i=>have:=aY5 h.2 i (by simpa using hi);rw[show j+(i+1)=j+1+i by omega];exact this
theorem aS5 {b:D.aAC}(h:aI b=true):b.Entries.length≤20∧srt b.Entries:=by
 simp only[aI,Bool.and_eq_true,decide_eq_true_eq,Bool.not_eq_true'] at h
 refine⟨by omega,?_⟩
 have adj:∀i (hi:i+1<b.Entries.length),eD b.Entries[i] b.Entries[i+1]=true:=fun i hi=>by
  have:=aY5 h.2 (i+1) hi
  simp only[J5,Bool.or_eq_false_iff,Nat.zero_add] at this
  have h4:=this.2.2.2
  rw[decide_eq_true (by omega),Bool.true_and] at h4
  have h5:(b.Entries.getD (i+1-1) default)=b.Entries[i]:=by rw[Nat.add_sub_cancel,List.getD,List.getElem?_eq_getElem (by omega),Option.getD_some]
  rw[h5] at h4;simpa using h4
 have far:∀d i (hi:i+d+1<b.Entries.length),eD b.Entries[i] b.Entries[i+d+1]=true:=fun d=>by
  induction d with
  |zero=>exact fun i hi=>adj i hi
  |succ d ih=>exact fun i hi=>Ku (ih i (by omega)) (adj (i+d+1) (by omega))
 refine List.pairwise_iff_getElem.2 fun i j hi hj hij=> ?_
 obtain⟨d,rfl⟩:∃d,j=i+d+1:=⟨j-i-1,by omega⟩
 exact far d i hj
theorem gM {α β:Type}{s:List α}(hs:s.length≤34359738368)(x:α)(k:Option β):gd (bD s [x]) k=k:=aB (by unfold bD;simp only[List.length_singleton];omega)
theorem nO {α β:Type}{s:List α}(hs:s.length≤34359738368)(k:Option β):gd (bD [] s) k=k:=aB (by unfold bD;simp only[List.length_nil];omega)
theorem aVp {α:Type}{l s:List α}:l.foldl (fun s x=>s++[x]) s=s++l:=by
 have:=aBb (f:=fun x:α=>[x]) (l:=l) (s:=s)
 rw[this];congr 1
 induction l with
 |nil=>rfl
 |cons x l ih=>simp[ih]
theorem aK5 {α:Type}{l:List α}{F:(Nat×List α→Option (List α))→Nat×List α→Option (List α)}(hl:l.length≤34359738368)
  (hF:∀rec i s (hi:i<l.length),s.length≤34359738368→F rec (i,s)=rec (i+1,s++[l[i]])) (hE:∀rec s,F rec (l.length,s)=some s):EV.bS FUEL F (0,[])=some l:=by
 rw[aRj (l:=l) (fun s x=>s++[x]) (fun i s=>s.length=i) (fun s=>some s) (by omega) rfl (fun i s hi hv=>by simp;omega) (fun rec i s hi hv=>hF rec i s hi (by omega)) (fun rec s _=>hE rec s),aVp,List.nil_append]
theorem bFc {α:Type}{l:List α}{F:(List α×Nat→Option (List α))→List α×Nat→Option (List α)}(hl:l.length≤34359738368)
  (hF:∀rec i s (hi:i<l.length),s.length≤34359738368→F rec (s,i)=rec (s++[l[i]],i+1)) (hE:∀rec s,F rec (s,l.length)=some s):EV.bS FUEL F ([],0)=some l:=by
 rw[fB (l:=l) (fun s x=>s++[x]) (fun i s=>s.length=i) (fun s=>some s) (by omega) rfl (fun i s hi hv=>by simp;omega) (fun rec i s hi hv=>hF rec i s hi (by omega)) (fun rec s _=>hE rec s),aVp,List.nil_append]
abbrev szL {α:Type}(f:α→Nat)(l:List α):Nat:=l.length+(l.map f).sum
theorem jF {S τ:Type}{F:(S→Option τ)→S→Option τ}{n:Nat}{s:S}:EV.bS (n+1) F s=F (EV.bS n F) s:=rfl
theorem jC {α:Type}{c:Bool}{x y:α}:(bif c then some x else some y)=some (bif c then x else y):=by cases c<;>rfl
theorem Ai {c d:Bool}:(bif c then some true else some d)=some (c||d):=by cases c<;>rfl
theorem bC3 {α:Type}[Inhabited α]{l:List α}{i:Nat}(h:i<l.length):l.set i (l.getD i default)=l:=by
 rw[List.getD,List.getElem?_eq_getElem h];simp
theorem J6 {α:Type}{p:Nat→α→Bool}:∀(l:List α) (j:Nat),mK p j l=true↔∃(i:Nat) (hi:i<l.length),p (j+i) l[i]=true
 |[],j=>by simp[mK]
 |x::xs,j=>by
  simp only[mK,Bool.or_eq_true,J6 xs]
  constructor
  ·rintro(h|⟨i,hi,h⟩)
   ·exact⟨0,by simp,h⟩
   ·exact⟨i+1,by simpa using hi,by rw[show j+(i+1)=j+1+i by omega];exact h⟩
  ·rintro⟨i,hi,h⟩
   cases i with
   |zero=>exact .inl h
   |succ i=>exact .inr ⟨i,by simpa using hi,by rw[show j+1+i=j+(i+1) by omega];exact h⟩
theorem Vi {α:Type}{p:Nat→α→Bool}{l:List α}:mK p 0 l=false↔∀(i:Nat) (hi:i<l.length),p i l[i]=false:=by
 constructor
 ·intro h i hi
  cases hc:p i l[i] with
  |false=>rfl
  |true=>rw[(J6 l 0).2 ⟨i,hi,by rw[Nat.zero_add];exact hc⟩] at h;cases h
 ·intro h
  cases hc:mK p 0 l with
  |false=>rfl
  |true=>
   obtain⟨i,hi,hp⟩:=(J6 l 0).1 hc
   rw[Nat.zero_add,h i hi] at hp;cases hp
theorem bId {α β:Type}{l:List α}(f:α→β){F:(List β×Nat→Option (List β))→List β×Nat→Option (List β)}(hl:l.length≤34359738368)
  (hF:∀rec i s (hi:i<l.length),s.length≤34359738368→F rec (s,i)=rec (s++[f l[i]],i+1)) (hE:∀rec s,F rec (s,l.length)=some s):EV.bS FUEL F ([],0)=some (l.map f):=by
 rw[fB (l:=l) (fun s x=>s++[f x]) (fun i s=>s.length=i) (fun s=>some s) (by omega) rfl (fun i s hi hv=>by simp;omega) (fun rec i s hi hv=>hF rec i s hi (by omega)) (fun rec s _=>hE rec s),aBc,List.nil_append]
theorem bFd {α β:Type}{l:List α}(f:α→β){s0:List β}{F:(List β×Nat→Option (List β))→List β×Nat→Option (List β)}(hl:s0.length+l.length≤34359738368)
  (hF:∀rec i s (hi:i<l.length),s.length≤34359738368→F rec (s,i)=rec (s++[f l[i]],i+1)) (hE:∀rec s,F rec (s,l.length)=some s):EV.bS FUEL F (s0,0)=some (s0++l.map f):=by
 rw[fB (l:=l) (fun s x=>s++[f x]) (fun i s=>s.length=s0.length+i) (fun s=>some s) (by omega) (by simp) (fun i s hi hv=>by simp;omega) (fun rec i s hi hv=>hF rec i s hi (by omega)) (fun rec s _=>hE rec s),aBc]
theorem bEn {i:Int}{n:Nat}(h:n≤34359738368):(!cK i 0 (IntKind.i64.wrap ((n:Int)-1)))=(decide (i<0)||decide (i≥(n:Int))):=by
 rw[aK (by omega) (by omega)]
 unfold cK
 by_cases h0:i<0
 ·rw[decide_eq_true h0,decide_eq_false (show ¬0≤i by omega)];rfl
 ·rw[decide_eq_false h0,decide_eq_true (show 0≤i by omega)]
  by_cases h1:i≥(n:Int)
  ·rw[decide_eq_true h1,decide_eq_false (show ¬i≤(n:Int)-1 by omega)];rfl
  ·rw[decide_eq_false h1,decide_eq_true (show i≤(n:Int)-1 by omega)];rfl
theorem aK6 {α:Type}[Inhabited α]{l:List α}{i:Int}(h0:0≤i)(h1:i<(l.length:Int)):aT l i=some (l.getD i.toNat default):=by
 rw[F8 h0 (by omega)];simp[List.getD,List.getElem?_eq_getElem (show i.toNat<l.length by omega)]
theorem aXi {i:Int}{n:Nat}(h:(decide (i<0)||decide (i≥(n:Int)))=false):0≤i∧i<(n:Int):=by
 simp only[Bool.or_eq_false_iff,decide_eq_false_iff_not] at h;omega
theorem aS6 {α:Type}[Inhabited α]{f:α→Nat}{l:List α}{i:Nat}(h:i<l.length):f (l.getD i default)≤(l.map f).sum:=by
 rw[List.getD,List.getElem?_eq_getElem h];exact fO h
theorem bHe {α:Type}{n:Nat}{x:α}{β:Type}{k:Option β}(h:n≤68719476736):gd (eO n x x) k=k:=aB ⟨rfl,by omega⟩
theorem bC4 {α:Type}[BEq α][ReflBEq α]{r:α}:(!r==r)=false:=by rw[beq_self_eq_true];rfl
def aF3 (x:Int)(z v:Int):Int:=(IntKind.i64.wrap (IntKind.i64.wrap (v+iJ z 1019)*x)).tmod 1019
def xH (c:Int)(l:List Int)(x:Int):Int:=(l.foldr (aF3 x) 0+iJ c 1019)%1019
def cS (l:List D.aAM)(i:Nat)(k:Int):Bool:=(l.take i).any fun q=>q.Index==k
theorem aVq {x z v:Int}(hx:0≤x∧x≤1000)(hv:0≤v∧v<1019):0≤aF3 x z v∧aF3 x z v<1019:=by
 have hm:=pX (p:=z) (q:=1019) (by omega)
 unfold aF3
 generalize iJ z 1019=m at*
 have e1:IntKind.i64.wrap (v+m)=v+m:=aK (by omega) (by omega)
 have h2:0≤(v+m)*x:=Int.mul_nonneg (by omega) hx.1
 have h3:(v+m)*x≤3000*1000:=Int.mul_le_mul (by omega) hx.2 hx.1 (by omega)
 rw[e1,aK (by omega) (by omega)]
 exact⟨Int.tmod_nonneg _ h2,Int.tmod_lt_of_pos _ (by omega)⟩
theorem Vj {x:Int}(hx:0≤x∧x≤1000):∀l:List Int,0≤l.foldr (aF3 x) 0∧l.foldr (aF3 x) 0<1019
 |[]=>by simp
 |z::l=>aVq hx (Vj hx l)
theorem aVr {σ τ:Type}{l:List Int}(g:Int→σ→σ){s0:σ}(fin:σ→Option τ){F:(σ×Int→Option τ)→σ×Int→Option τ}(hl:l.length≤34359738368)
  (hF:∀rec s i (hi:i<l.length),F rec (s,(i:Int))=rec (g l[i] s,(i:Int)-1)) (hE:∀rec s,F rec (s,-1)=fin s) {n0:Int} (hn:n0=(l.length:Int)-1):EV.bS FUEL F (s0,n0)=fin (l.foldr g s0):=by
 subst hn
 refine aBa (fun k s=>k≤l.length∧s=((l.drop (l.length-k)).foldr g s0,(l.length:Int)-1-k)) l.length _ (by omega) ⟨by omega,by simp⟩ (fun k s rec hk hv=> ?_) (fun s rec hv=> ?_)
 ·obtain⟨_,rfl⟩:=hv
  refine .inl ⟨_,⟨hk,rfl⟩,?_⟩
  have e:(l.length:Int)-1-k=((l.length-1-k:Nat):Int):=by omega
  have e2:l.length-(k+1)=l.length-1-k:=by omega
  have hi:l.length-1-k<l.length:=by omega
  rw[e,hF rec _ _ hi,e2,List.drop_eq_getElem_cons hi,List.foldr_cons,show l.length-1-k+1=l.length-k by omega]
  congr 2;omega
 ·obtain⟨_,rfl⟩:=hv
  simp only[Nat.sub_self,List.drop_zero]
  rw[show(l.length:Int)-1-(l.length:Int)= -1 by omega,hE]
def bC5 (b:D.aAC)(s h:Int):Int:=bif decide (aH b s h≥0) then IntKind.i64.wrap ((b.Entries.getD (aH b s h).toNat default).Version+1) else 1
def mO (b:D.aAC)(s h:Int):D.Entry:=⟨s,h,bC5 b s h,false⟩
def aBf (b:D.aAC)(s h:Int):D.aAC×Bool:=bif !(decide (aH b s h≥0)&& !(b.Entries.getD (aH b s h).toNat default).Deleted)&&(aI b&&aI (nN b (mO b s h))) then(nN b (mO b s h),true) else(b,false)
def aGs (b:D.aAC)(s h:Int):D.Entry:=⟨s,h,IntKind.i64.wrap ((b.Entries.getD (aH b s h).toNat default).Version+1),true⟩
def aBg (b:D.aAC)(s h:Int):D.aAC×Bool:=bif !aI b||(decide (aH b s h<0)||((b.Entries.getD (aH b s h).toNat default).Deleted||(b.Entries.getD (aH b s h).toNat default).Version==1000000)) then(b,false) else(nN b (aGs b s h),true)
def xI (d:D.Device)(n:ByteArray)(h:Int)(rm:Bool):D.aAC×Bool:=bif rm then aBg d.aAC (fI n) h else aBf d.aAC (fI n) h
def jD (d:D.Device)(n:ByteArray)(h:Int)(rm:Bool):D.Device×Bool:=bif (xI d n h rm).2 then({d with aAC:=(xI d n h rm).1},true) else(d,false)
theorem aY6 (b:List Int):(rU b).length=b.length+1:=by simp[rU,Nat.add_comm]
theorem aJt (l:List Int):List.map (fun(n:Int)=>n) l=l:=List.map_id l
theorem aVs (b:D.aAC)(x:D.Entry):(nN b x).Entries.length≤b.Entries.length+1:=by
 unfold nN
 cases decide (aH b x.Site x.Handle≥0) with
 |true=>simp
 |false=>
  have:=congrArg List.length (List.takeWhile_append_dropWhile (p:=fun e=>iE e x.Site x.Handle) (l:=b.Entries))
  simp only[List.length_append] at this
  simp only[cond_false,List.length_append,List.length_singleton];omega
theorem bEo (b:D.aAC)(s h:Int):(aBf b s h).1.Entries.length≤b.Entries.length+1:=by
 unfold aBf
 have:=aVs b (mO b s h)
 cases(!(decide (aH b s h≥0)&& !(b.Entries.getD (aH b s h).toNat default).Deleted)&&(aI b&&aI (nN b (mO b s h)))) with
 |true=>exact this
 |false=>simp
theorem bEp (b:D.aAC)(s h:Int):(aBg b s h).1.Entries.length≤b.Entries.length+1:=by
 unfold aBg
 have:=aVs b (aGs b s h)
 cases(!aI b||(decide (aH b s h<0)||((b.Entries.getD (aH b s h).toNat default).Deleted||(b.Entries.getD (aH b s h).toNat default).Version==1000000))) with
 |true=>simp
 |false=>exact this
theorem bAs (d:D.Device)(n:ByteArray)(h:Int)(rm:Bool):(jD d n h rm).1.sz≤d.sz+1:=by
 unfold jD
 have:(xI d n h rm).1.Entries.length≤d.aAC.Entries.length+1:=by
  unfold xI;cases rm with
  |true=>exact bEp _ _ _
  |false=>exact bEo _ _ _
 cases(xI d n h rm).2 with
 |true=>simp only[cond_true,D.Device.sz];omega
 |false=>simp
def qB (c:D.aAJ)(b:Int):D.aAA×Bool:=bif decide (b<0)||decide (b≥(c.History.length:Int)) then(⟨0,0,[],0⟩,false) else(c.History.getD (c.History.length-1-b.toNat) default,true)
def bEq (a b:D.aAB):Bool:=a.Index==b.Index&&(a.Kind==b.Kind&&(a.Device==b.Device&&(a.By==b.By&&(a.Previous==b.Previous&&(a.Signature==b.Signature&&true)))))
def fJ (a b:List D.aAB):Bool:=decide (b.length≤a.length)&& !mK (fun i e=> !bEq (a.getD i default) e) 0 b
def iF (k:Int)(b:D.aAA):Int:=dH k ([227,b.Epoch,b.Version]++rU b.Data)
def kY (k e v:Int):Int:=aY k [223,e,v]
def uvE:Nat→Int→List Int
 |0,n=>[n]
 |k+1,n=>bif decide (n>127) then(n%128+128)::uvE k (n/128) else[n]
theorem aS7:∀(k:Nat) (n:Int),1≤(uvE k n).length∧(uvE k n).length≤k+1
 |0,n=>by simp[uvE]
 |k+1,n=>by
  have:=aS7 k (n/128)
  unfold uvE
  cases decide (n>127)<;>simp<;>omega
theorem bEr {k:Nat}{z:Int}(h:z≤127):uvE k z=[z]:=by
 cases k with
 |zero=>rfl
 |succ k=>unfold uvE;rw[decide_eq_false (by omega)];rfl
theorem aY7:∀(k:Nat) (m n:Int) (x y:List Int),0≤m→0≤n→uvE k m++x=uvE k n++y→m=n∧x=y
 |0,m,n,x,y,_,_,h=>by simpa[uvE] using h
 |k+1,m,n,x,y,h0,h1,h=>by
  unfold uvE at h
  by_cases hm:m>127<;>by_cases hn:n>127
  ·simp only[decide_eq_true hm,decide_eq_true hn,cond_true,List.cons_append,List.cons.injEq] at h
   have:=aY7 k (m/128) (n/128) x y (by omega) (by omega) h.2
   exact⟨by omega,this.2⟩
  ·simp only[decide_eq_true hm,decide_eq_false hn,cond_true,cond_false,List.cons_append,List.cons.injEq] at h;omega
  ·simp only[decide_eq_false hm,decide_eq_true hn,cond_true,cond_false,List.cons_append,List.cons.injEq] at h;omega
  ·simpa only[decide_eq_false hm,decide_eq_false hn,cond_false,List.cons_append,List.nil_append,List.cons.injEq] using h
theorem aVt {F:(Int×List Int→Option (Int×List Int))→Int×List Int→Option (Int×List Int)}
  (hF:∀rec (n:Int) (s:List Int),0≤n→n<9223372036854775807→s.length≤34359738368→F rec (n,s)=bif decide (n>127) then rec (n/128,s++[n%128+128]) else some (n,s)):
  ∀(k:Nat) (n:Int) (s:List Int) (f:Nat),k<f→0≤n→n<128^(k+1)→k≤6→s.length+k≤34359738368→∃m q,EV.bS f F (n,s)=some (m,q)∧q++[m]=s++uvE k n∧0≤m∧m≤127
 |0,n,s,f+1,hf,h0,h1,_,hs=>by
  refine⟨n,s,?_,rfl,h0,by simp at h1;omega⟩
  rw[jF,hF _ _ _ h0 (by simp at h1;omega) (by omega),decide_eq_false (by simp at h1;omega)];rfl
 |k+1,n,s,f+1,hf,h0,h1,hk,hs=>by
  have h2:(128:Int)^(k+1+1)=128*128^(k+1):=by rw[Int.pow_succ];omega
  have h3:(128:Int)^(k+1+1)≤128^8:=by exact_mod_cast Nat.pow_le_pow_right (by omega) (by omega)
  have h4:(128:Int)^8=72057594037927936:=by decide
  rw[jF,hF _ _ _ h0 (by omega) (by omega)]
  unfold uvE
  by_cases hn:n>127
  ·rw[decide_eq_true hn,cond_true,cond_true]
   obtain⟨m,q,e1,e2,e3⟩:=aVt hF k (n/128) (s++[n%128+128]) f (by omega) (by omega) (by omega) (by omega) (by simp;omega)
   exact⟨m,q,e1,by rw[e2];simp,e3⟩
  ·rw[decide_eq_false hn,cond_false,cond_false]
   exact⟨n,s,rfl,rfl,h0,by omega⟩
theorem bEs {n:Int}(h0:0≤n)(h1:n<9223372036854775808):tJ .i64 n 127=n%128:=by
 obtain⟨m,rfl⟩:=Int.eq_ofNat_of_zero_le h0
 have e:((BitVec.ofInt 64 (m:Int))&&&(BitVec.ofInt 64 127)).toNat=m%128:=by
  rw[BitVec.toNat_and]
  have e1:(BitVec.ofInt 64 (m:Int)).toNat=m:=by rw[BitVec.toNat_ofInt];omega
  have e2:(BitVec.ofInt 64 127).toNat=2^7-1:=by decide
  rw[e1,e2,Nat.and_two_pow_sub_one_eq_mod]
 show IntKind.i64.wrap (((BitVec.ofInt 64 (m:Int))&&&(BitVec.ofInt 64 127)).toNat:Int)=_
 rw[e,aK (by omega) (by omega)];omega
theorem bHf {n:Int}(h0:0≤n)(h1:n<128):orI .i64 n 128=n+128:=by
 obtain⟨m,rfl⟩:=Int.eq_ofNat_of_zero_le h0
 have e:((BitVec.ofInt 64 (m:Int))|||(BitVec.ofInt 64 128)).toNat=m+128:=by
  rw[BitVec.toNat_or]
  have e1:(BitVec.ofInt 64 (m:Int)).toNat=m:=by rw[BitVec.toNat_ofInt];omega
  have e2:(BitVec.ofInt 64 128).toNat=1<<<7:=by decide
  have:=Nat.shiftLeft_add_eq_or_of_lt (b:=m) (i:=7) (by omega) 1
  rw[e1,e2,Nat.or_comm,←this];omega
 show IntKind.i64.wrap (((BitVec.ofInt 64 (m:Int))|||(BitVec.ofInt 64 128)).toNat:Int)=_
 rw[e,aK (by omega) (by omega)];omega
theorem bIe {n:Int}(h0:0≤n):Uo .i64 n 7=n/128:=by
 unfold Uo
 rw[show min (Int.toNat 7) IntKind.i64.bits=7 from by decide,Int.fdiv_eq_ediv_of_nonneg _ (by decide)];rfl
theorem aK8 {n:Int}(h0:0≤n)(h1:n≤255):IntKind.u8.wrap n=n:=by rw[IntKind.wrap_u8];omega
def enc1 (n:Int):List Int:=bif cK n 0 1000000000000 then uvE 5 n else[]
def nP (b:List Int)(n:Int):List Int:=b++enc1 n
def kF (l:List Int):List Int:=(l.map enc1).flatten
theorem aK9 (n:Int):(enc1 n).length≤6:=by
 have:=(aS7 5 n).2
 unfold enc1;cases cK n 0 1000000000000<;>simp<;>omega
theorem aS8 {n:Int}(h:0≤n∧n≤1000000000000):enc1 n=uvE 5 n:=by
 unfold enc1 cK;rw[decide_eq_true h.1,decide_eq_true h.2];rfl
theorem uA (n:Int)(l:List Int):kF (n::l)=enc1 n++kF l:=rfl
theorem J7:∀l:List Int,(kF l).length≤6*l.length
 |[]=>by simp[kF]
 |n::l=>by
  have:=J7 l
  have:=aK9 n
  rw[uA,List.length_append,List.length_cons];omega
def aVu (l:List Int):Prop:=∀v∈l,0≤v∧v≤(1000000000000:Int)
theorem aVv:∀(s t x y:List Int),aVu s→aVu t→s.length=t.length→kF s++x=kF t++y→s=t∧x=y
 |[],[],x,y,_,_,_,h=>⟨rfl,h⟩
 |m::s,n::t,x,y,hs,ht,hl,h=>by
  have hm:=hs m (by simp)
  have hn:=ht n (by simp)
  rw[uA,uA,List.append_assoc,List.append_assoc,aS8 hm,aS8 hn] at h
  obtain⟨h1,h2⟩:=aY7 5 m n _ _ hm.1 hn.1 h
  obtain⟨h3,h4⟩:=aVv s t x y (fun v hv=>hs v (by simp[hv])) (fun v hv=>ht v (by simp[hv])) (by simpa using hl) h2
  exact⟨by rw[h1,h3],h4⟩
theorem aY8 {b:List Int}(hb:aW b){p:Nat}:∀(k i:Nat) (n m e:Int),uvG b p (k+1) i n=(m,e,true)→∃(r:Int) (q:Nat),(0≤r∧m=n+r*128^i∧m≤1000000000000∧e=(q:Int)∧q≤b.length∧(0<i→r≠0))∧b.drop (p+i)=uvE k r++b.drop q
 |k,i,n,m,e,h=>by
  unfold uvG at h
  by_cases hlt:p+i<b.length
  ·rw[if_pos hlt] at h
   have hz:=qW hb hlt
   have hg:b.getD (p+i) 0=b[p+i]:=by simp[List.getD,List.getElem?_eq_getElem hlt]
   rw[hg] at h
   have hd:b.drop (p+i)=b[p+i]::b.drop (p+i+1):=List.drop_eq_getElem_cons hlt
   generalize b[p+i]=z at hz h hd
   by_cases h128:z<128
   ·rw[decide_eq_true h128,cond_true] at h
    have hzz:z%128=z:=by omega
    rw[hzz] at h
    cases hc:(decide (0<i)&&z==0)||decide (n+z*128^i>1000000000000) with
    |true=>rw[hc] at h;simp at h
    |false=>
     rw[hc,cond_false] at h
     rw[Bool.or_eq_false_iff] at hc
     have h1:=of_decide_eq_false hc.2
     injection h with e1 e2
     injection e2 with e2 e3
     refine⟨z,p+i+1,⟨hz.1,e1.symm,by omega,e2.symm,by omega,fun hi h0=> ?_⟩,by rw[hd,bEr (by omega)];rfl⟩
     subst h0
     simp[hi] at hc
   ·rw[decide_eq_false h128,cond_false] at h
    match k,h with
    |0,h=>simp[uvG] at h
    |k+1,h=>
     obtain⟨r,q,⟨h1,h2,h3,h4,h5,h6⟩,h7⟩:=aY8 hb k (i+1) _ m e h
     have hr:=h6 (by omega)
     refine⟨z%128+128*r,q,⟨by omega,?_,h3,h4,h5,fun _=>by omega⟩,?_⟩
     ·rw[h2,Int.pow_succ,Int.add_mul,←Int.add_assoc]
      congr 1
      rw[Int.mul_comm 128 r,Int.mul_assoc,Int.mul_comm 128]
     ·rw[hd,show p+i+1=p+(i+1) from by omega,h7]
      have e1:uvE (k+1) (z%128+128*r)=z::uvE k r:=by
       rw[uvE,decide_eq_true (show z%128+128*r>127 by omega),cond_true,show(z%128+128*r)%128+128=z by omega,show(z%128+128*r)/128=r by omega]
      rw[e1];rfl
  ·rw[if_neg hlt] at h;simp at h
theorem aS9 {b:List Int}(hb:aW b){a m e:Int}(h:xB b a=(m,e,true)):∃q:Nat,(0≤a∧0≤m∧m≤1000000000000∧e=(q:Int)∧q≤b.length)∧b.drop a.toNat=enc1 m++b.drop q:=by
 unfold xB at h
 by_cases h0:a<0
 ·rw[if_pos h0] at h;simp at h
 ·rw[if_neg h0] at h
  obtain⟨r,q,⟨h1,h2,h3,h4,h5,_⟩,h7⟩:=aY8 hb 5 0 0 m e h
  have hm:m=r:=by rw[h2];simp
  subst hm
  exact⟨q,⟨by omega,h1,h3,h4,h5⟩,by rw[aS8 ⟨h1,h3⟩];exact h7⟩
theorem Kv {b:List Int}(hb:aW b):∀(k:Nat) (a:Int) (s v:List Int) (e:Int),0≤a→a≤b.length→jQ b k a s=(v,e,true)→∃(t:List Int) (q:Nat),(v=s++t∧t.length=k∧e=(q:Int)∧q≤b.length∧aVu t)∧b.drop a.toNat=kF t++b.drop q
 |0,a,s,v,e,h0,h1,h=>by
  unfold jQ at h
  injection h with e1 e2
  injection e2 with e2 _
  exact⟨[],a.toNat,⟨by simp[e1],rfl,by omega,by omega,fun v hv=>by simp at hv⟩,rfl⟩
 |k+1,a,s,v,e,h0,h1,h=>by
  unfold jQ at h
  cases hu:xB b a with
  |mk m r=>
   obtain⟨e',ok⟩:=r
   rw[hu] at h
   cases ok with
   |false=>simp at h
   |true=>
    obtain⟨q,⟨g0,g1,g2,g3,g4⟩,g5⟩:=aS9 hb hu
    subst g3
    obtain⟨t,q',⟨k1,k2,k3,k4,k5⟩,k6⟩:=Kv hb k (q:Int) (s++[m]) v e (by omega) (by omega) h
    refine⟨m::t,q',⟨by rw[k1];simp,by simp[k2],k3,k4,fun x hx=> ?_⟩,by rw[g5,uA,List.append_assoc];congr 1⟩
    rcases List.mem_cons.1 hx with rfl|hx
    ·exact⟨g1,g2⟩
    ·exact k5 x hx
theorem aLa {b:List Int}:∀(j k:Nat) (a:Int) (s:List Int),jQ b (j+k) a s=bif (jQ b j a s).2.2 then jQ b k (jQ b j a s).2.1 (jQ b j a s).1 else([],0,false)
 |0,k,a,s=>by rw[Nat.zero_add];rfl
 |j+1,k,a,s=>by
  have e:∀m,jQ b (m+1) a s=bif (xB b a).2.2 then jQ b m (xB b a).2.1 (s++[(xB b a).1]) else([],0,false):=fun _=>rfl
  rw[show j+1+k=j+k+1 by omega,e,e]
  cases(xB b a).2.2 with
  |false=>rfl
  |true=>exact aLa j k _ _
theorem aLb {b:List Int}:∀(k:Nat) (a:Int) (s:List Int),jQ b k a s=bif (jQ b k a []).2.2 then(s++(jQ b k a []).1,(jQ b k a []).2.1,true) else([],0,false)
 |0,a,s=>by simp[jQ]
 |k+1,a,s=>by
  unfold jQ
  cases(xB b a).2.2 with
  |false=>rfl
  |true=>
   simp only[cond_true,List.nil_append]
   rw[aLb k _ (s++[(xB b a).1]),aLb k _ [(xB b a).1]]
   cases(jQ b k (xB b a).2.1 []).2.2<;>simp
def aVw (e:D.Entry):List Int:=[e.Site,e.Handle,e.Version,bif e.Deleted then 1 else 0]
def kM:List Int→List D.Entry
 |s::h::v::d::r=>⟨s,h,v,d==1⟩::kM r
 |_=>[]
def lJ:List Int→Bool
 |_::_::_::d::r=>decide (d≤1)&&lJ r
 |_=>true
def qY (l:List D.Entry):List Int:=l.flatMap aVw
theorem uB:∀l:List D.Entry,(qY l).length=4*l.length
 |[]=>rfl
 |e::l=>by
  have:=uB l
  simp only[qY,List.flatMap_cons,List.length_append,List.length_cons] at*
  rw[this];simp[aVw];omega
theorem J8:∀(k:Nat) (l:List Int),l.length=4*k→(kM l).length=k
 |0,[],_=>rfl
 |k+1,s::h::v::d::r,hl=>by
  have:=J8 k r (by simp at hl;omega)
  simp[kM,this]
theorem aRl:∀(k:Nat) (l:List Int),l.length=4*k→aVu l→aVu (qY (kM l))∧(lJ l=true↔qY (kM l)=l)
 |0,[],_,_=>⟨fun v h=>by simp[qY,kM] at h,by simp[lJ,qY,kM]⟩
 |k+1,s::h::v::d::r,hl,ho=>by
  obtain⟨h1,h2⟩:=aRl k r (by simp at hl;omega) (fun x hx=>ho x (by simp[hx]))
  have hs:=ho s (by simp)
  have hh:=ho h (by simp)
  have hv:=ho v (by simp)
  have hd:=ho d (by simp)
  have e:qY (kM (s::h::v::d::r))=s::h::v::(bif d==1 then 1 else 0)::qY (kM r):=by simp[kM,qY,aVw]
  rw[e]
  refine⟨fun x hx=> ?_,?_⟩
  ·simp only[List.mem_cons] at hx
   rcases hx with rfl|rfl|rfl|rfl|hx
   ·exact hs
   ·exact hh
   ·exact hv
   ·cases(d==1)<;>simp
   ·exact h1 x hx
  ·simp only[lJ,Bool.and_eq_true,decide_eq_true_eq,List.cons.injEq,true_and,h2]
   refine and_congr_left' ?_
   by_cases h1:d=1
   ·subst h1;simp
   ·rw[show(d==1)=false by simpa using h1,cond_false];omega
theorem aVx:∀(k:Nat) (l r:List Int),l.length=4*k→kM (l++r)=kM l++kM r
 |0,[],r,_=>rfl
 |k+1,s::h::v::d::l,r,hl=>by
  have:=aVx k l r (by simp at hl;omega)
  simp[kM,this]
def qZ (b:D.aAC):List Int:=[(b.Entries.length:Int)]++qY b.Entries
def oO (b:D.aAC):List Int:=bif aI b then kF (qZ b) else[]
def aY9 (d:List Int)(v:List Int×Int×Bool):D.aAC×Bool:=bif !v.2.2||(v.2.1 !=(d.length:Int)||(!lJ v.1|| !aI ⟨kM v.1⟩)) then(⟨[]⟩,false) else(⟨kM v.1⟩,true)
def Kw (d:List Int):D.aAC×Bool:=bif !(xB d 0).2.2||decide ((xB d 0).1>20) then(⟨[]⟩,false) else aY9 d (jQ d (4*(xB d 0).1).toNat (xB d 0).2.1 [])
def kN (key:Int)(s:D.aAA):D.aAC×Bool:=bif !(dG key&&(cK s.Epoch 0 1000000&&cK s.Version 0 1000000))||s.MAC !=iF key s then(⟨[]⟩,false) else Kw (aBd (kY key s.Epoch s.Version) s.Data)
theorem bC6 {d:List Int}(hd:aW d){n e e':Int}{v:List Int}(h:xB d 0=(n,e,true))(hn:n≤20)(h':jQ d (4*n).toNat e []=(v,e',true)):(kF (qZ ⟨kM v⟩)=d↔(e'=(d.length:Int)∧lJ v=true))∧v.length=4*n.toNat∧aVu v∧(kM v).length=n.toNat:=by
 obtain⟨q,⟨_,g1,g2,g3,g4⟩,g5⟩:=aS9 hd h
 subst g3
 obtain⟨t,q',⟨k1,k2,k3,k4,k5⟩,k6⟩:=Kv hd _ _ _ _ _ (by omega) (by omega) h'
 rw[List.nil_append] at k1
 subst k1
 have hl:v.length=4*n.toNat:=by omega
 obtain⟨f1,f2⟩:=aRl n.toNat v hl k5
 have hel:=J8 n.toNat v hl
 refine⟨?_,hl,k5,hel⟩
 have hdd:d=kF (n::v)++d.drop q':=by
  have h0:d.drop (Int.toNat 0)=d:=rfl
  rw[uA,List.append_assoc,←k6]
  exact h0▸g5
 have hv:qZ ⟨kM v⟩=n::qY (kM v):=by
  show((kM v).length:Int)::_=_
  rw[hel];congr 1;omega
 rw[hv]
 constructor
 ·intro hq
  have hx:kF (n::qY (kM v))++[]=kF (n::v)++d.drop q':=by rw[List.append_nil,hq];exact hdd
  have hok:∀l,aVu l→aVu (n::l):=fun l hl x hx=>by
   rcases List.mem_cons.1 hx with rfl|hx
   ·exact⟨g1,g2⟩
   ·exact hl x hx
  obtain⟨y1,y2⟩:=aVv _ _ _ _ (hok _ f1) (hok _ k5) (by simp[uB,hel,hl]) hx
  have:=congrArg List.length y2
  simp only[List.length_nil,List.length_drop] at this
  exact⟨by omega,f2.2 (List.cons.inj y1).2⟩
 ·rintro⟨h1,h2⟩
  rw[f2.1 h2]
  have:d.drop q'=[]:=List.drop_eq_nil_of_le (by omega)
  rw[this,List.append_nil] at hdd
  exact hdd.symm
theorem aRm (l:List Int):(EV.aAx l).data.toList=l.map fun n=>UInt8.ofNat n.toNat:=by
 unfold EV.aAx
 have:∀(l:List Int) (r:ByteArray),(l.foldl (fun r n=>r.push (UInt8.ofNat n.toNat)) r).data.toList=r.data.toList++l.map fun n=>UInt8.ofNat n.toNat:=by
  intro l
  induction l with
  |nil=>intro r;simp
  |cons x l ih=>intro r;rw[List.foldl_cons,ih];simp
 rw[this];rfl
theorem bytes_inj:∀{a b:List Int},(∀z∈a,0≤z∧z≤255)→(∀z∈b,0≤z∧z≤255)→(a.map fun n=>UInt8.ofNat n.toNat)=(b.map fun n=>UInt8.ofNat n.toNat)→a=b
 |[],[],_,_,_=>rfl
 |[],y::b,_,_,h=>by simp at h
 |x::a,[],_,_,h=>by simp at h
 |x::a,y::b,ha,hb,h=>by
  simp only[List.map_cons,List.cons.injEq] at h
  have hx:=ha x (by simp)
  have hy:=hb y (by simp)
  have e:=congrArg UInt8.toNat h.1
  rw[UInt8.toNat_ofNat',UInt8.toNat_ofNat'] at e
  rw[bytes_inj (fun z hz=>ha z (by simp[hz])) (fun z hz=>hb z (by simp[hz])) h.2,show x=y by omega]
theorem aF4 {b:List Int}(h:aW b):∀z∈b,0≤z∧z≤255:=fun z hz=>by simpa using List.all_eq_true.1 h.2 z hz
theorem aLc {b:List Int}(h:b.length≤34359738368)(h1:∀z∈b,0≤z∧z≤255):aW b:=⟨h,List.all_eq_true.2 fun z hz=>by simpa using h1 z hz⟩
theorem aRn:∀(k:Nat) (n:Int),0≤n→n<128^(k+1)→∀z∈uvE k n,0≤z∧z≤255
 |0,n,h0,h1,z,hz=>by simp[uvE] at hz;subst hz;simp at h1;omega
 |k+1,n,h0,h1,z,hz=>by
  have h2:(128:Int)^(k+1+1)=128*128^(k+1):=by rw[Int.pow_succ];omega
  unfold uvE at hz
  by_cases hn:n>127
  ·rw[decide_eq_true hn,cond_true] at hz
   rcases List.mem_cons.1 hz with rfl|hz
   ·omega
   ·exact aRn k (n/128) (by omega) (by omega) z hz
  ·rw[decide_eq_false hn,cond_false] at hz
   simp at hz;subst hz;omega
theorem aXj (n:Int):∀z∈enc1 n,0≤z∧z≤255:=fun z hz=>by
 unfold enc1 at hz
 cases hr:cK n 0 1000000000000 with
 |false=>rw[hr] at hz;simp at hz
 |true=>
  rw[hr] at hz
  have:=nE hr
  have h7:(128:Int)^(5+1)=4398046511104:=by decide
  exact aRn 5 n this.1 (by omega) z hz
theorem aLd (l:List Int):∀z∈kF l,0≤z∧z≤255:=fun z hz=>by
 unfold kF at hz
 obtain⟨x,hx,hz⟩:=List.mem_flatten.1 hz
 obtain⟨n,_,rfl⟩:=List.mem_map.1 hx
 exact aXj n z hz
theorem qC {b:D.aAC}(h:aI b=true):b.Entries.length≤20:=by
 simp only[aI,Bool.and_eq_true,decide_eq_true_eq] at h;omega
theorem aLe (b:D.aAC):aW (oO b):=by
 unfold oO
 cases hb:aI b with
 |false=>exact⟨by simp,rfl⟩
 |true=>
  have:=qC hb
  have h1:=J7 (qZ b)
  have h2:(qZ b).length=1+4*b.Entries.length:=by simp[qZ,uB];omega
  exact aLc (by rw[cond_true];omega) (aLd _)
theorem bC7 (d:List Int):(Kw d).1.sz≤20:=by
 have h0:(D.aAC.mk []).sz≤20:=by simp[D.aAC.sz]
 unfold Kw
 cases !(xB d 0).2.2||decide ((xB d 0).1>20) with
 |true=>exact h0
 |false=>
  rw[cond_false]
  generalize jQ d (4*(xB d 0).1).toNat (xB d 0).2.1 []=v
  unfold aY9
  cases hb:aI ⟨kM v.1⟩ with
  |false=>simp only[Bool.not_false,Bool.or_true,cond_true];exact h0
  |true=>
   have:=qC hb
   cases !v.2.2||(v.2.1 !=(d.length:Int)||(!lJ v.1|| !true)) with
   |true=>exact h0
   |false=>simp only[cond_false,D.aAC.sz] at*;omega
theorem aRo (k:Int)(s:D.aAA):(kN k s).1.sz≤20:=by
 unfold kN
 cases !(dG k&&(cK s.Epoch 0 1000000&&cK s.Version 0 1000000))||s.MAC !=iF k s with
 |true=>simp[D.aAC.sz]
 |false=>exact bC7 _
theorem bAt {a b:D.aAC}(h:(kX a b).2=true):(kX a b).1.sz≤20:=by
 unfold kX at*
 cases hc:aI a&&aI b with
 |false=>rw[hc] at h;cases h
 |true=>
  rw[hc] at h
  cases hm:aI ⟨dU a.Entries b.Entries⟩ with
  |false=>rw[hm] at h;cases h
  |true=>have:=qC hm;simp only[cond_true,D.aAC.sz];omega
def tT (d:D.Device)(log:List D.aAB)(bx:D.aAD)(s:D.aAA):Int:=
 bif !cO log|| !fJ log d.Log then 1 else bif !jP (aJ log) (dY d.Store) then 2 else bif bx.Epoch !=bC log|| !(dD d.Store bx).2 then 3
 else bif decide (s.Epoch<bC log)||(decide (s.Epoch<d.Epoch)||(s.Epoch==d.Epoch&&decide (s.Version<d.Version))) then 4
 else bif !(kN (dD d.Store bx).1 s).2|| !(kX d.aAC (kN (dD d.Store bx).1 s).1).2 then 5 else 0
def eP (d:D.Device)(log:List D.aAB)(bx:D.aAD)(s:D.aAA):D.Device×Int:=
 bif tT d log bx s==0 then(⟨d.Store,log,(dD d.Store bx).1,s.Epoch,s.Version,(kX d.aAC (kN (dD d.Store bx).1 s).1).1⟩,0) else(d,tT d log bx s)
theorem aXk (d:D.Device)(l:List D.aAB)(bx:D.aAD)(s:D.aAA):(eP d l bx s).1.sz≤d.sz+l.length+20:=by
 unfold eP
 cases hc:tT d l bx s==0 with
 |false=>simp only[cond_false];omega
 |true=>
  have hm:(kX d.aAC (kN (dD d.Store bx).1 s).1).2=true:=by
   cases hm:(kX d.aAC (kN (dD d.Store bx).1 s).1).2 with
   |true=>rfl
   |false=>
    unfold tT at hc
    rw[hm] at hc
    revert hc
    cases !cO l|| !fJ l d.Log<;>cases !jP (aJ l) (dY d.Store)<;>cases bx.Epoch !=bC l|| !(dD d.Store bx).2<;>cases decide (s.Epoch<bC l)||(decide (s.Epoch<d.Epoch)||(s.Epoch==d.Epoch&&decide (s.Version<d.Version)))<;>cases !(kN (dD d.Store bx).1 s).2<;>simp
  have:=bAt hm
  simp only[cond_true,D.Device.sz,D.aAC.sz] at*;omega
def bAu (k:Int)(i:Nat)(z:Int):Int:=IntKind.u8.wrap ((z+dH k [(i:Int)])%256)
def oP (k:Int)(b:List Int):List Int:=Ps (fun i z=>[bAu k i z]) 0 b
def aZa (k e v:Int)(b:D.aAC):D.aAA:=⟨e,v,oP (kY k e v) (oO b),iF k ⟨e,v,oP (kY k e v) (oO b),0⟩⟩
def rA (k e v:Int)(b:D.aAC):D.aAA×Bool:=bif dG k&&(cK e 0 1000000&&cK v 0 1000000)&&aI b then(aZa k e v b,true) else(⟨0,0,[],0⟩,false)
def mP (d:D.Device):D.Device×D.aAA×Bool:=bif (rA d.Key d.Epoch (IntKind.i64.wrap (d.Version+1)) d.aAC).2 then({d with Version:=IntKind.i64.wrap (d.Version+1)},(rA d.Key d.Epoch (IntKind.i64.wrap (d.Version+1)) d.aAC).1,true) else(d,⟨0,0,[],0⟩,false)
def rV (a b:D.aAA):Bool:=decide (a.Epoch>b.Epoch)||(a.Epoch==b.Epoch&&decide (a.Version>b.Version))
def gJ (c:D.aAJ)(s:D.aAA):D.aAJ×Bool:=bif s.Epoch !=bC c.Log||((decide ((c.History.length:Int)>0)&& !rV s (c.History.getD (c.History.length-1) default))||decide ((c.History.length:Int)≥60)) then(c,false) else({c with History:=c.History++[s]},true)
theorem aRp (b:D.aAC):(oO b).length≤500:=by
 unfold oO
 cases hb:aI b with
 |false=>simp
 |true=>
  have:=qC hb
  have h1:=J7 (qZ b)
  have h2:(qZ b).length=1+4*b.Entries.length:=by simp[qZ,uB];omega
  rw[cond_true];omega
theorem J9 (k:Int)(b:List Int):(oP k b).length=b.length:=by unfold oP;exact Ko
theorem bAv (k e v:Int)(b:D.aAC):(rA k e v b).1.Data.length≤500:=by
 unfold rA
 cases dG k&&(cK e 0 1000000&&cK v 0 1000000)&&aI b with
 |false=>simp
 |true=>simp only[cond_true,aZa,J9];exact aRp b
theorem Po (d:D.Device):(mP d).1.sz=d.sz∧(mP d).2.1.Data.length≤500:=by
 unfold mP
 have:=bAv d.Key d.Epoch (IntKind.i64.wrap (d.Version+1)) d.aAC
 cases(rA d.Key d.Epoch (IntKind.i64.wrap (d.Version+1)) d.aAC).2 with
 |false=>exact⟨rfl,by simp⟩
 |true=>exact⟨rfl,this⟩
theorem aLf (c:D.aAJ)(s:D.aAA):(gJ c s).1.sz≤c.sz+1+s.Data.length∧(gJ c s).1.Log=c.Log:=by
 unfold gJ
 cases s.Epoch !=bC c.Log||((decide ((c.History.length:Int)>0)&& !rV s (c.History.getD (c.History.length-1) default))||decide ((c.History.length:Int)≥60)) with
 |true=>exact⟨by simp only[cond_true];omega,rfl⟩
 |false=>refine⟨?_,rfl⟩;simp only[cond_false,D.aAJ.sz,List.length_append,List.map_append,List.sum_append,List.length_cons,List.length_nil,List.map_cons,List.map_nil,List.sum_cons,List.sum_nil,D.aAA.sz];omega
theorem aLg {α:Type}{f:α→Nat}:∀{l:List α} {i:Nat} {x:α} (hi:i<l.length),((l.set i x).map f).sum+f l[i]=(l.map f).sum+f x
 |y::l,0,x,_=>by simp only[List.set_cons_zero,List.map_cons,List.sum_cons,List.getElem_cons_zero];omega
 |y::l,i+1,x,h=>by
  have:=aLg (f:=f) (l:=l) (i:=i) (x:=x) (by simpa using h)
  simp only[List.set_cons_succ,List.map_cons,List.sum_cons,List.getElem_cons_succ];omega
theorem bC8 {k z:Int}(i:Nat)(h:0≤z∧z≤255):IntKind.u8.wrap ((IntKind.i64.wrap (IntKind.i64.wrap z+dH k [(i:Int)])).tmod 256)=bAu k i z:=by
 have:=lI k [(i:Int)]
 rw[aK (n:=z) (by omega) (by omega),aK (by omega) (by omega),Int.tmod_eq_emod_of_nonneg (by omega)];rfl
theorem bC9 {k z:Int}(i:Nat)(h:0≤z∧z≤255):IntKind.u8.wrap ((IntKind.i64.wrap (IntKind.i64.wrap z+(dH k [(i:Int)]).tmod 256)).tmod 256)=bAu k i z:=by
 have:=lI k [(i:Int)]
 rw[aK (n:=z) (by omega) (by omega),show(dH k [(i:Int)]).tmod 256=dH k [(i:Int)]%256 from Int.tmod_eq_emod_of_nonneg this.1,aK (by omega) (by omega),Int.tmod_eq_emod_of_nonneg (by omega),bAu]
 congr 1;omega
def dZ (seed n:Int):D.aAH:=⟨1,n,aY seed [277,n],0⟩
def dR (s:D.aAH):D.Device:=⟨s,[],0,0,0,⟨[]⟩⟩
def qD (s:D.aAH)(n:ByteArray)(h:Int):Int:=aY s.Seed [179,fI n,h]
def kG (s:D.aAH)(n:ByteArray)(h:Int):Int:=fZ (qD s n h)
def kZ (s:D.aAH)(l:List Int):Int:=Gb (mH s) l
def bEt (log:List D.aAB)(kind dev:Int)(s:D.aAH):D.aAB:=⟨(log.length:Int),kind,dev,dY s,gP log,0⟩
def bDa (log:List D.aAB)(kind dev:Int)(s:D.aAH):D.aAB:={bEt log kind dev s with Signature:=kZ s [dE (bEt log kind dev s)]}
def mI (log:List D.aAB)(kind dev:Int)(s:D.aAH):List D.aAB×Bool:=bif (decide ((log.length:Int)>0)&& !cO log)|| !cO (log++[bDa log kind dev s]) then(log,false) else(log++[bDa log kind dev s],true)
def aLh (p e:Int)(d:List Int):D.Box:=⟨p,e,oP (gB (fQ p) e) d,Pw (gB (fQ p) e) ⟨p,e,oP (gB (fQ p) e) d,0⟩⟩
def fK (p e:Int)(d:List Int):D.Box×Bool:=bif fQ p==0||(!dG e||decide ((d.length:Int)>200)) then(⟨0,0,[],0⟩,false) else(aLh p e d,true)
def gQ (e:Int)(d:List Int):Nat→List Int→List D.Box×Bool
 |_,[]=>([],true)
 |i,p::l=>bif (fK p (IntKind.i64.wrap (e+(i:Int))) d).2&&(gQ e d (i+1) l).2 then((fK p (IntKind.i64.wrap (e+(i:Int))) d).1::(gQ e d (i+1) l).1,true) else([],false)
def dL (log:List D.aAB)(key eph:Int):D.aAD×Bool:=bif !cO log||(!dG key|| !(gQ eph (kF [bC log,key]) 0 (aJ log)).2) then(⟨0,[]⟩,false) else(⟨bC log,(gQ eph (kF [bC log,key]) 0 (aJ log)).1⟩,true)
def jX (e:D.aAD)(d:Int):Int:=e.Boxes.foldl (fun n b=>bif b.To==d then IntKind.i64.wrap (n+1) else n) 0
def jY (e:D.aAD)(log:List D.aAB):Bool:=(e.Epoch==bC log&&(e.Boxes.length:Int)==((aJ log).length:Int))&&(aJ log).all fun d=>jX e d==1
def aBh (h:Int)(l:List D.aAI):Nat:=(l.takeWhile fun c=>decide (c.Handle<h)).length
def aPd (l:List D.aAI)(h p:Int):List D.aAI:=l.take (aBh h l)++[⟨h,p,0,false⟩]++l.drop (aBh h l)
def gD (a:D.aAF)(h p:Int):D.aAF×Bool:=bif !bP a|| !bP {a with Credentials:=aPd a.Credentials h p} then(a,false) else({a with Credentials:=aPd a.Credentials h p},true)
def jZ (s:D.Site)(id h p:Int):D.Site×Bool:=bif !fP s||decide (bE s id<0) then(s,false) else bif (gD (s.Accounts.getD (bE s id).toNat default) h p).2 then({s with Accounts:=s.Accounts.set (bE s id).toNat (gD (s.Accounts.getD (bE s id).toNat default) h p).1},true) else(s,false)
theorem aXl (log:List D.aAB)(k d:Int)(s:D.aAH):(mI log k d s).1.length≤log.length+1:=by
 unfold mI
 cases(decide ((log.length:Int)>0)&& !cO log)|| !cO (log++[bDa log k d s])<;>simp
theorem aXm (p e:Int)(d:List Int):(fK p e d).1.sz≤d.length:=by
 unfold fK
 cases fQ p==0||(!dG e||decide ((d.length:Int)>200)) with
 |true=>simp[D.Box.sz]
 |false=>simp only[cond_false,aLh,D.Box.sz,J9];exact Nat.le_refl _
theorem aVy {e:Int}{d:List Int}:∀{i:Nat} {l:List Int},(gQ e d i l).1.length≤l.length∧((gQ e d i l).1.map D.Box.sz).sum≤l.length*d.length
 |i,[]=>by simp[gQ]
 |i,p::l=>by
  have h1:=aVy (e:=e) (d:=d) (i:=i+1) (l:=l)
  have h2:=aXm p (IntKind.i64.wrap (e+(i:Int))) d
  unfold gQ
  cases(fK p (IntKind.i64.wrap (e+(i:Int))) d).2&&(gQ e d (i+1) l).2 with
  |false=>simp
  |true=>simp only[cond_true,List.length_cons,List.map_cons,List.sum_cons,Nat.add_mul];omega
theorem aVz (a b:Int):(kF [a,b]).length≤12:=J7 [a,b]
theorem bAw (log:List D.aAB)(k e:Int):(dL log k e).1.sz≤13*log.length:=by
 unfold dL
 have h1:=aVy (e:=e) (d:=kF [bC log,k]) (i:=0) (l:=aJ log)
 have h2:=gN log
 have h3:=aVz (bC log) k
 have h4:=Nat.mul_le_mul_left (aJ log).length h3
 cases !cO log||(!dG k|| !(gQ e (kF [bC log,k]) 0 (aJ log)).2) with
 |true=>simp[D.aAD.sz]
 |false=>simp only[cond_false,D.aAD.sz];omega
theorem aV0 (l:List D.aAI)(h p:Int):(aPd l h p).length=l.length+1:=by
 simp only[aPd,List.length_append,List.length_take,List.length_drop,List.length_singleton];omega
theorem aXn (a:D.aAF)(h p:Int):(gD a h p).1.sz≤a.sz+1:=by
 unfold gD
 cases !bP a|| !bP {a with Credentials:=aPd a.Credentials h p} with
 |true=>simp only[cond_true];omega
 |false=>simp only[cond_false,D.aAF.sz,aV0];exact Nat.le_refl _
theorem aF5 {α:Type}{p:α→Bool}{i:Nat}{l:List α}(h:decide (kD p i l<0)=false):(i:Int)≤kD p i l∧kD p i l<i+l.length:=by
 induction l generalizing i with
 |nil=>simp[kD] at h
 |cons x l ih=>
  unfold kD at h ⊢
  cases hp:p x with
  |true=>simp only[cond_true,List.length_cons];omega
  |false=>
   rw[hp] at h
   have:=ih (i:=i+1) h
   simp only[cond_false,List.length_cons];omega
theorem bAx (s:D.Site)(id h p:Int):(jZ s id h p).1.sz≤s.sz+1:=by
 unfold jZ
 cases hc: !fP s||decide (bE s id<0) with
 |true=>simp only[cond_true];omega
 |false=>
  rw[Bool.or_eq_false_iff] at hc
  have hr:=aF5 hc.2
  simp only[cond_false]
  cases(gD (s.Accounts.getD (bE s id).toNat default) h p).2 with
  |false=>simp only[cond_false];omega
  |true=>
   have hi:(bE s id).toNat<s.Accounts.length:=by unfold bE;omega
   have h1:=aLg (f:=D.aAF.sz) (l:=s.Accounts) (i:=(bE s id).toNat) (x:=(gD (s.Accounts.getD (bE s id).toNat default) h p).1) hi
   have h2:=aXn (s.Accounts.getD (bE s id).toNat default) h p
   have e:s.Accounts.getD (bE s id).toNat default=s.Accounts[(bE s id).toNat]:=by simp[List.getD,List.getElem?_eq_getElem hi]
   rw[e] at h1 h2 ⊢
   simp only[cond_true,D.Site.sz,List.length_set];omega
theorem aRq {α:Type}{p:α→Bool}:∀{l:List α} {i:Nat} (hi:i<l.length),i<(l.takeWhile p).length→p l[i]=true
 |x::l,0,_,h=>by
  simp only[List.takeWhile_cons] at h
  cases hp:p x with
  |true=>exact hp
  |false=>rw[hp] at h;simp at h
 |x::l,i+1,hi,h=>by
  simp only[List.takeWhile_cons] at h
  cases hp:p x with
  |true=>
   have h':i<(l.takeWhile p).length:=by simpa[hp] using h
   exact aRq (l:=l) (i:=i) (by simpa using hi) h'
  |false=>rw[hp] at h;simp at h
theorem aRr {α:Type}{p:α→Bool}:∀{l:List α} (h:(l.takeWhile p).length<l.length),p (l[(l.takeWhile p).length]'h)=false
 |x::l,h=>by
  cases hp:p x with
  |true=>
   have h':(l.takeWhile p).length<l.length:=by simpa[List.takeWhile_cons,hp] using h
   simpa[List.takeWhile_cons,hp] using aRr h'
  |false=>simp[List.takeWhile_cons,hp]
theorem Ky {α:Type}{p:α→Bool}{l:List α}:(l.takeWhile p).length≤l.length:=(List.takeWhile_prefix p).length_le
theorem aRs {α τ S:Type}{l:List α}(p:α→Bool)(fin:Nat→Option τ)(e:Nat→S){F:(S→Option τ)→S→Option τ}(hl:l.length≤34359738368)
  (hF:∀rec i (hi:i<l.length),F rec (e i)=bif p l[i] then rec (e (i+1)) else fin i) (hE:∀rec,F rec (e l.length)=fin l.length):EV.bS FUEL F (e 0)=fin (l.takeWhile p).length:=by
 have go:∀(k i n:Nat),i+k=(l.takeWhile p).length→k<n→EV.bS n F (e i)=fin (l.takeWhile p).length:=by
  intro k
  induction k with
  |zero=>
   intro i n hi hn
   obtain⟨n,rfl⟩:∃m,n=m+1:=⟨n-1,by omega⟩
   have:i=(l.takeWhile p).length:=by omega
   subst this
   rw[jF]
   by_cases h:(l.takeWhile p).length<l.length
   ·rw[hF _ _ h,aRr h,cond_false]
   ·have h2:(l.takeWhile p).length=l.length:=by have:=Ky (p:=p) (l:=l);omega
    rw[h2,hE]
  |succ k ih=>
   intro i n hi hn
   obtain⟨n,rfl⟩:∃m,n=m+1:=⟨n-1,by omega⟩
   have h1:i<l.length:=by have:=Ky (p:=p) (l:=l);omega
   rw[jF,hF _ _ h1,aRq (p:=p) h1 (by omega),cond_true]
   exact ih (i+1) n (by omega) (by omega)
 have:=Ky (p:=p) (l:=l)
 exact go (l.takeWhile p).length 0 FUEL (by omega) (by have:=gU;omega)
theorem aBi {e:Int}{d:List Int}{l:List Int}{τ:Type}{x:τ}{F:(List D.Box×Nat→Option (τ⊕List D.Box))→List D.Box×Nat→Option (τ⊕List D.Box)}
  (hF:∀rec i s (hi:i<l.length),s.length≤i→F rec (s,i)=bif !(fK l[i] (IntKind.i64.wrap (e+(i:Int))) d).2 then some (.inl x) else rec (s++[(fK l[i] (IntKind.i64.wrap (e+(i:Int))) d).1],i+1)) (hE:∀rec s,F rec (s,l.length)=some (.inr s)):
  ∀(k i n:Nat) (s:List D.Box),i+k=l.length→k<n→s.length≤i→EV.bS n F (s,i)=some (bif (gQ e d i (l.drop i)).2 then .inr (s++(gQ e d i (l.drop i)).1) else .inl x)
 |0,i,n+1,s,h,_,_=>by
  have:i=l.length:=by omega
  subst this
  rw[jF,hE,List.drop_length];simp[gQ]
 |k+1,i,n+1,s,h,hn,hs=>by
  have hi:i<l.length:=by omega
  rw[jF,hF _ i s hi hs,List.drop_eq_getElem_cons hi,gQ]
  cases hb:(fK l[i] (IntKind.i64.wrap (e+(i:Int))) d).2 with
  |false=>rfl
  |true=>
   rw[Bool.not_true,cond_false,aBi hF hE k (i+1) n _ (by omega) (by omega) (by simp;omega)]
   cases(gQ e d (i+1) (l.drop (i+1))).2<;>simp
theorem aV1 {e:Int}{d:List Int}{i:Nat}{l:List Int}(h:(gQ e d i l).2=false):gQ e d i l=([],false):=by
 cases l with
 |nil=>cases h
 |cons p l=>
  unfold gQ at*
  cases hc:(fK p (IntKind.i64.wrap (e+(i:Int))) d).2&&(gQ e d (i+1) l).2 with
  |true=>rw[hc] at h;cases h
  |false=>rfl
theorem bDb {s:D.Site}{i:Int}(hz:s.sz≤34359738300)(h:decide (bE s i<0)=false):aT s.Accounts (bE s i)=some (s.Accounts.getD (bE s i).toNat default)∧(s.Accounts.getD (bE s i).toNat default).sz≤34359738300∧(bE s i).toNat<s.Accounts.length:=by
 have hr:=aF5 (p:=fun a:D.aAF=>a.Id==i) (i:=0) (l:=s.Accounts) h
 have hi:(bE s i).toNat<s.Accounts.length:=by unfold bE;omega
 have h1:=aS6 (f:=D.aAF.sz) hi
 refine⟨aK6 (by unfold bE;omega) (by unfold bE;omega),?_,hi⟩
 simp only[D.Site.sz] at hz;omega
def qE (d:D.Device)(log:List D.aAB)(key:Int):D.Device×Bool:=bif !cO log||(!fJ log d.Log||(decide (bC log<d.Epoch)|| !dG key)) then(d,false) else({d with Log:=log,Key:=key,Epoch:=bC log,Version:=0},true)
def gH (s e:Int):Int:=aY s [233,e]
theorem bDc (d:D.Device)(l:List D.aAB)(k:Int):(qE d l k).1.sz≤d.sz+l.length:=by
 unfold qE
 cases !cO l||(!fJ l d.Log||(decide (bC l<d.Epoch)|| !dG k)) with
 |true=>simp only[cond_true];omega
 |false=>simp only[cond_false,D.Device.sz];omega
def aXo (m:Int):Nat→Int→Int→Int→Int
 |0,_,_,s=>s
 |k+1,b,n,s=>if n>0 then aXo m k ((IntKind.i64.wrap (b*b)).tmod m) (n/2) (bif n%2==1 then(IntKind.i64.wrap (s*b)).tmod m else s) else s
def aGt (x:Int):Bool:=cK x 1 2038&&aXo 2039 11 x 1019 1==1
def rW (g n:Int):Int:=bif aGt g then aXo 2039 11 g (iJ n 1019) 1 else 0
def Ed (l v:Int):Int:=rW 4 (IntKind.i64.wrap (1+((IntKind.i64.wrap (dH l [89,v]*dH l [89,v])).tmod 2147483647).tmod 1018))
def qO (s l i:Int):Int:=rW (Ed l i) s
def nQ (e l:Int):Int:=rT (dH e [157,l])
def K3 (k m:Int):Int:=bif cK k 0 2147483647 then aZq .i64 k (aY m [251]) else 0
def Ee (o s:Int):Int:=dH o [257,s]
def lU (c:Int)(l:List Int)(n:Int):List D.aAM:=bif cK n 1 7&&decide ((l.length:Int)<n) then(List.range n.toNat).map fun(i:Nat)=>⟨(i:Int)+1,xH c l ((i:Int)+1)⟩ else[]
def xJ (k:D.aAL):D.aAE:=⟨k,[],Kn k⟩
def aJu (pin salt key secret limit:Int):Bool:=cK pin 0 9999&&(cK salt 0 1000000&&(dG key&&(!(iJ secret 1019==0)&&cK limit 1 10)))
def qF (pin salt key secret:Int)(cs:List Int)(n limit:Int):D.aAQ×List D.aAE×Bool:=
 bif aJu pin salt key secret limit&& !((lU secret cs n).length==0) then(⟨salt,IntKind.i64.wrap ((cs.length:Int)+1),Ee (nQ (qO secret salt pin) salt) salt,K3 key (nQ (qO secret salt pin) salt)⟩,(lU secret cs n).map (fun s=>xJ ⟨s,0,0,limit⟩),true) else(⟨0,0,0,0⟩,[],false)
def dS (log:List D.aAB)(bx:D.aAD):D.aAJ×Bool:=bif cO log&&jY bx log then(⟨log,bx,[]⟩,true) else(⟨[],⟨0,[]⟩,[]⟩,false)
def jR (id:Int)(l:List D.aAF):Nat:=(l.takeWhile fun a=>decide (a.Id<id)).length
def kH (s:D.Site)(id m:Int):D.Site:={s with Accounts:=s.Accounts.take (jR id s.Accounts)++[⟨id,m,[]⟩]++s.Accounts.drop (jR id s.Accounts)}
def iP (s:D.Site)(id m:Int):D.Site×Bool:=bif fP s&&fP (kH s id m) then(kH s id m,true) else(s,false)
def tV (nm:ByteArray):Nat→List D.Device→D.Site→D.Site
 |_,[],s=>s
 |i,d::l,s=>tV nm (i+1) l (jZ s 1 (i:Int) (kG d.Store nm (i:Int))).1
def K4 (seed:Int)(l:List D.Device)(j:Int):D.Site:=tV (aQ j) 0 l (iP (eY (aQ j) (aY seed [281,j])) 1 3).1
def kI (l:List D.Device)(seed:Int):List D.Site:=[K4 seed l 0,K4 seed l 1]
def bZ (seed:Int):Nat→List D.aAB
 |0=>[]
 |n+1=>(mI (bZ seed n) 1 (dY (dZ seed (n:Int))) (dZ seed 0)).1
def bI (seed:Int)(n:Nat):List D.Device:=(List.range n).map fun(i:Nat)=>dR (dZ seed (i:Int))
def Px (nm:ByteArray):Nat→D.Device→D.Device
 |0,d=>d
 |i+1,d=>(jD (Px nm i d) nm (i:Int) false).1
def gW (seed:Int)(n:Nat):D.aAD:=(dL (bZ seed n) (gH seed 0) 1000).1
def nR (seed:Int)(n:Nat)(d:D.Device):D.Device:=(qE d (bZ seed n) (gH seed 0)).1
def iQ (seed:Int)(n:Nat):D.Device:=Px (aQ 1) n (Px (aQ 0) n (nR seed n (dR (dZ seed 0))))
def Py (seed:Int)(n:Nat):D.Device×D.aAA×Bool:=mP (iQ seed n)
def iI (seed:Int)(n:Nat):D.aAJ:=(gJ (dS (bZ seed n) (gW seed n)).1 (Py seed n).2.1).1
def aLi (seed:Int)(n:Nat)(d:D.Device):D.Device:=(eP (nR seed n d) (bZ seed n) (gW seed n) (Py seed n).2.1).1
def uC (seed:Int)(n:Nat):List D.Device:=(Py seed n).1::((bI seed n).drop 1).map (aLi seed n)
def La (seed t:Int):List Int:=(List.range (t-1).toNat).map fun(k:Nat)=>aY seed [307,(k:Int)+1]
def Ef (seed t pin k:Int):D.aAQ×List D.aAE×Bool:=qF pin 7 (aY seed [283]) (IntKind.i64.wrap (1+(aY seed [293]).tmod 1018)) (La seed t) k 5
def bAy (n k t pin seed:Int):Bool:=cK n 1 3&&(cK k 1 7&&(cK t 1 k&&(cK pin 0 9999&&dG seed)))
def bEu:D.World:=⟨0,0,[],[],⟨[],⟨0,[]⟩,[]⟩,[],⟨0,0,0,0⟩,[],0,⟨[]⟩⟩
def bG (n k t pin seed:Int):D.World:=bif bAy n k t pin seed then⟨0,seed,uC seed n.toNat,List.replicate n.toNat false,iI seed n.toNat,kI (bI seed n.toNat) seed,(Ef seed t pin k).1,(Ef seed t pin k).2.1,pin,⟨[]⟩⟩ else bEu
theorem aXp {l:List Int}(h:l.Nodup)(e:D.aAB):(jA l e).Nodup:=by
 unfold jA
 cases e.Kind==1 with
 |true=>
  simp only[cond_true]
  cases hc:l.contains e.Device with
  |true=>exact h
  |false=>
   simp only[cond_false]
   rw[List.nodup_append]
   refine⟨h,by simp,fun a ha b hb e'=> ?_⟩
   simp at hb;subst hb;subst e'
   have:l.contains e.Device=true:=by simpa using ha
   rw[hc] at this;cases this
 |false=>
  simp only[cond_false]
  cases e.Kind==2 with
  |true=>exact h.filter _
  |false=>exact h
theorem aXq (log:List D.aAB):(aJ log).Nodup:=by
 have key:∀(l:List D.aAB) (s:List Int),s.Nodup→(l.foldl jA s).Nodup:=by
  intro l
  induction l with
  |nil=>exact fun _ h=>h
  |cons e l ih=>exact fun s h=>ih _ (aXp h e)
 exact key log [] List.nodup_nil
theorem aV2 {e:Int}{d:List Int}:∀{i:Nat} {l:List Int},(gQ e d i l).2=true→(gQ e d i l).1.map (fun b=>b.To)=l
 |_,[],_=>rfl
 |i,p::l,h=>by
  simp only[gQ] at h ⊢
  cases hc:(fK p (IntKind.i64.wrap (e+(i:Int))) d).2&&(gQ e d (i+1) l).2 with
  |false=>rw[hc] at h;cases h
  |true=>
   rw[Bool.and_eq_true] at hc
   simp only[cond_true,List.map_cons,aV2 hc.2]
   have:(fK p (IntKind.i64.wrap (e+(i:Int))) d).1.To=p:=by
    have h1:=hc.1
    unfold fK at h1 ⊢
    cases hq:fQ p==0||(!dG (IntKind.i64.wrap (e+(i:Int)))||decide ((d.length:Int)>200)) with
    |true=>rw[hq] at h1;cases h1
    |false=>rfl
   rw[this]
theorem aRt:∀{l:List D.Box} {d:Int} {s:Int},(l.map fun b=>b.To).Nodup→0≤s→s<1000→l.foldl (fun n b=>bif b.To==d then IntKind.i64.wrap (n+1) else n) s=s+(if d∈l.map (fun b=>b.To) then 1 else 0)
 |[],d,s,_,_,_=>by simp
 |b::l,d,s,h,h0,h1=>by
  rw[List.map_cons,List.nodup_cons] at h
  rw[List.foldl_cons]
  cases hc:b.To==d with
  |true=>
   have hd:b.To=d:=by simpa using hc
   have hn:d∉l.map (fun b=>b.To):=hd▸h.1
   have hw:IntKind.i64.wrap (s+1)=s+1:=aK (by omega) (by omega)
   have key:∀(l:List D.Box) (s:Int),d∉l.map (fun b=>b.To)→l.foldl (fun n b=>bif b.To==d then IntKind.i64.wrap (n+1) else n) s=s:=by
    intro l
    induction l with
    |nil=>exact fun _ _=>rfl
    |cons x l ih=>
     intro s hx
     simp only[List.map_cons,List.mem_cons,not_or] at hx
     have:(x.To==d)=false:=by simpa using fun e=>hx.1 e.symm
     rw[List.foldl_cons,this,cond_false]
     exact ih s hx.2
   rw[cond_true,key l _ hn,hw,List.map_cons,if_pos (by simp[hd])]
  |false=>
   have hd:¬b.To=d:=by simpa using hc
   rw[cond_false,aRt h.2 h0 h1,List.map_cons]
   have:(d∈b.To::l.map fun b=>b.To)↔d∈l.map fun b=>b.To:=by rw[List.mem_cons];exact⟨fun h=>h.resolve_left fun e=>hd e.symm, .inr⟩
   simp only[this]
theorem aPe {log:List D.aAB}{k e:Int}(h:(dL log k e).2=true):jY (dL log k e).1 log=true:=by
 unfold dL at h ⊢
 cases hc: !cO log||(!dG k|| !(gQ e (kF [bC log,k]) 0 (aJ log)).2) with
 |true=>rw[hc] at h;cases h
 |false=>
  simp only[Bool.or_eq_false_iff,Bool.not_eq_false'] at hc
  have ht:=aV2 hc.2.2
  have hl:=congrArg List.length ht
  rw[List.length_map] at hl
  simp only[cond_false,jY,jX,Bool.and_eq_true,beq_iff_eq,List.all_eq_true,hl,and_self,true_and,beq_self_eq_true]
  intro d hd
  rw[aRt (by rw[ht];exact aXq log) (by omega) (by omega),ht,if_pos hd];rfl
theorem bAz {log:List D.aAB}{k e:Int}(h:(dL log k e).2=false):(dL log k e).1=⟨0,[]⟩:=by
 unfold dL at h ⊢
 cases hc: !cO log||(!dG k|| !(gQ e (kF [bC log,k]) 0 (aJ log)).2) with
 |true=>rfl
 |false=>rw[hc] at h;cases h
theorem aRu {d:D.Device}{log:List D.aAB}{bx:D.aAD}{s:D.aAA}(h:(tT d log bx s==0)=false):(eP d log bx s).1=d:=by
 unfold eP;rw[h];rfl
theorem bDd (d:D.Device)(bx:D.aAD)(s:D.aAA):(eP d [] bx s).1=d:=aRu rfl
theorem bHg (s:D.aAH):(dD s ⟨0,[]⟩).2=false:=rfl
theorem aXr {log:List D.aAB}{key e:Int}{s:D.aAA}(hs:s=⟨0,0,[],0⟩∨s.Epoch=bC log)(d:D.Device):
  (eP d (gJ (dS log (dL log key e).1).1 s).1.Log (gJ (dS log (dL log key e).1).1 s).1.Boxes (qB (gJ (dS log (dL log key e).1).1 s).1 0).1).1=(eP d log (dL log key e).1 s).1:=by
 cases hc:cO log&&jY (dL log key e).1 log with
 |true=>
  have e1:(dS log (dL log key e).1).1=⟨log,(dL log key e).1,[]⟩:=by unfold dS;rw[hc];rfl
  rw[e1]
  cases hq:s.Epoch !=bC log with
  |true=>
   have hs':s=⟨0,0,[],0⟩:=by
    rcases hs with h|h
    ·exact h
    ·rw[h] at hq;simp at hq
   have e2:(gJ ⟨log,(dL log key e).1,[]⟩ s).1=⟨log,(dL log key e).1,[]⟩:=by
    unfold gJ;rw[show(D.aAJ.mk log (dL log key e).1 []).Log=log from rfl,hq];rfl
   rw[e2,hs'];rfl
  |false=>
   have e2:(gJ ⟨log,(dL log key e).1,[]⟩ s).1=⟨log,(dL log key e).1,[s]⟩:=by
    unfold gJ;rw[show(D.aAJ.mk log (dL log key e).1 []).Log=log from rfl,hq];rfl
   rw[e2];rfl
 |false=>
  have e1:(dS log (dL log key e).1).1=⟨[],⟨0,[]⟩,[]⟩:=by unfold dS;rw[hc];rfl
  have e2:(gJ (dS log (dL log key e).1).1 s).1.Log=[]:=by rw[(aLf _ _).2,e1]
  rw[e2,bDd]
  refine(aRu ?_).symm
  cases hl:cO log with
  |false=>simp only[tT,hl,Bool.not_false,Bool.true_or,cond_true];rfl
  |true=>
   rw[hl,Bool.true_and] at hc
   have hm:(dL log key e).2=false:=by
    cases hm:(dL log key e).2 with
    |false=>rfl
    |true=>rw[aPe hm] at hc;cases hc
   rw[bAz hm]
   simp only[tT,hl,bHg,Bool.not_true,Bool.false_or,Bool.not_false,Bool.or_true,cond_true]
   cases !fJ log d.Log with
   |true=>rfl
   |false=>
    simp only[cond_false]
    cases !jP (aJ log) (dY d.Store)<;>rfl
theorem K5 (nm:ByteArray):∀(i:Nat) (d:D.Device),(Px nm i d).sz≤d.sz+i
 |0,d=>Nat.le_refl _
 |i+1,d=>by have h1:=K5 nm i d;have h2:=bAs (Px nm i d) nm (i:Int) false;show(jD (Px nm i d) nm (i:Int) false).1.sz≤_;omega
theorem kC (seed:Int):∀n:Nat,(bZ seed n).length≤n
 |0=>Nat.le_refl _
 |n+1=>by have h1:=kC seed n;have h2:=aXl (bZ seed n) 1 (dY (dZ seed (n:Int))) (dZ seed 0);show(mI (bZ seed n) 1 (dY (dZ seed (n:Int))) (dZ seed 0)).1.length≤_;omega
theorem Pp (seed:Int)(n:Nat)(d:D.Device):(nR seed n d).sz≤d.sz+n:=by
 have h1:=bDc d (bZ seed n) (gH seed 0);have h2:=kC seed n;show(qE d (bZ seed n) (gH seed 0)).1.sz≤_;omega
theorem Pq (s:D.aAH):(dR s).sz=0:=rfl
theorem Vk (seed:Int)(n:Nat):(iQ seed n).sz≤3*n:=by
 have h1:=K5 (aQ 1) n (Px (aQ 0) n (nR seed n (dR (dZ seed 0))))
 have h2:=K5 (aQ 0) n (nR seed n (dR (dZ seed 0)))
 have h3:=Pp seed n (dR (dZ seed 0))
 rw[Pq] at h3
 unfold iQ;omega
theorem Vl (seed:Int)(n:Nat):(gW seed n).sz≤13*n:=by
 have h1:=bAw (bZ seed n) (gH seed 0) 1000;have h2:=kC seed n;unfold gW;omega
theorem Lb (log:List D.aAB)(bx:D.aAD):(dS log bx).1.sz≤log.length+bx.sz:=by
 unfold dS
 cases cO log&&jY bx log with
 |true=>simp only[cond_true,D.aAJ.sz,D.aAD.sz,List.length_nil,List.map_nil,List.sum_nil];omega
 |false=>exact Nat.zero_le _
theorem Vm (seed:Int)(n:Nat):(iI seed n).sz≤14*n+501:=by
 have h1:=(aLf (dS (bZ seed n) (gW seed n)).1 (Py seed n).2.1).1
 have h2:=Lb (bZ seed n) (gW seed n)
 have h3:=Vl seed n
 have h4:=kC seed n
 have h5:=(Po (iQ seed n)).2
 have h5:(Py seed n).2.1.Data.length≤500:=h5
 unfold iI;omega
theorem bA0 (seed:Int)(n:Nat)(d:D.Device):(aLi seed n d).sz≤d.sz+2*n+20:=by
 have h1:=aXk (nR seed n d) (bZ seed n) (gW seed n) (Py seed n).2.1
 have h2:=Pp seed n d
 have h3:=kC seed n
 unfold aLi;omega
theorem aXs {α:Type}{f:α→Nat}{b:Nat}:∀{l:List α},(∀x∈l,f x≤b)→(l.map f).sum≤l.length*b
 |[],_=>Nat.zero_le _
 |x::l,h=>by
  have h1:=h x (by simp);have h2:=aXs (l:=l) (f:=f) (b:=b) fun y hy=>h y (by simp[hy])
  simp only[List.map_cons,List.sum_cons,List.length_cons,Nat.add_mul];omega
theorem Vn (nm:ByteArray):∀(i:Nat) (l:List D.Device) (s:D.Site),(tV nm i l s).sz≤s.sz+l.length
 |_,[],s=>Nat.le_refl _
 |i,d::l,s=>by
  have h1:=Vn nm (i+1) l (jZ s 1 (i:Int) (kG d.Store nm (i:Int))).1
  have h2:=bAx s 1 (i:Int) (kG d.Store nm (i:Int))
  show(tV nm (i+1) l (jZ s 1 (i:Int) (kG d.Store nm (i:Int))).1).sz≤_
  rw[List.length_cons];omega
theorem Vo (s:D.Site)(id m:Int):(iP s id m).1.sz≤s.sz+1:=by
 unfold iP
 cases fP s&&fP (kH s id m) with
 |false=>simp only[cond_false];omega
 |true=>
  have e:(s.Accounts.map D.aAF.sz).sum=((s.Accounts.take (jR id s.Accounts)).map D.aAF.sz).sum+((s.Accounts.drop (jR id s.Accounts)).map D.aAF.sz).sum:=by rw[←List.sum_append,←List.map_append,List.take_append_drop]
  have el:(s.Accounts.take (jR id s.Accounts)).length+(s.Accounts.drop (jR id s.Accounts)).length=s.Accounts.length:=by rw[←List.length_append,List.take_append_drop]
  simp only[cond_true,kH,D.Site.sz,List.length_append,List.map_append,List.sum_append,List.length_cons,List.length_nil,List.map_cons,List.map_nil,List.sum_cons,List.sum_nil,D.aAF.sz]
  omega
theorem Lc (nm:ByteArray)(s:Int):(eY nm s).sz≤nm.size:=by
 unfold eY
 cases jB nm s with
 |true=>simp[D.Site.sz]
 |false=>exact Nat.zero_le _
theorem aF6 (seed:Int)(l:List D.Device)(j:Int):(K4 seed l j).sz≤l.length+101:=by
 have h1:=Vn (aQ j) 0 l (iP (eY (aQ j) (aY seed [281,j])) 1 3).1
 have h2:=Vo (eY (aQ j) (aY seed [281,j])) 1 3
 have h3:=Lc (aQ j) (aY seed [281,j])
 have h4:(aQ j).size≤100:=by unfold aQ;cases j==0<;>cases j==1<;>decide
 unfold K4;omega
theorem aBj (c:Int)(l:List Int)(n:Int):(lU c l n).length≤7:=by
 unfold lU
 cases hc:cK n 1 7&&decide ((l.length:Int)<n) with
 |false=>exact Nat.zero_le _
 |true=>
  rw[Bool.and_eq_true] at hc
  have:=nE hc.1
  simp only[cond_true,List.length_map,List.length_range];omega
theorem aTa (pin salt key secret:Int)(cs:List Int)(n limit:Int):(qF pin salt key secret cs n limit).2.1.length≤7∧((qF pin salt key secret cs n limit).2.1.map D.aAE.sz).sum=0:=by
 unfold qF
 cases aJu pin salt key secret limit&& !((lU secret cs n).length==0) with
 |false=>exact⟨Nat.zero_le _,rfl⟩
 |true=>
  refine⟨by simp only[cond_true,List.length_map];exact aBj _ _ _,?_⟩
  have:=aXs (f:=D.aAE.sz) (b:=0) (l:=(lU secret cs n).map fun s=>xJ ⟨s,0,0,limit⟩) (fun x hx=>by obtain⟨s,_,rfl⟩:=List.mem_map.1 hx;exact Nat.le_refl _)
  simp only[cond_true];omega
theorem aF7 (n k t pin seed:Int):(bG n k t pin seed).sz≤100000:=by
 unfold bG
 cases hc:bAy n k t pin seed with
 |false=>exact Nat.zero_le _
 |true=>
  simp only[bAy,Bool.and_eq_true] at hc
  have hn:=nE hc.1
  obtain⟨N,hN⟩:∃N,N=n.toNat:=⟨_,rfl⟩
  have hN3:N≤3:=by omega
  have h1:=Po (iQ seed N)
  have h2:=Vk seed N
  have h3:=Vm seed N
  have h4:=aF6 seed (bI seed N) 0
  have h5:=aF6 seed (bI seed N) 1
  have h6:=aTa pin 7 (aY seed [283]) (IntKind.i64.wrap (1+(aY seed [293]).tmod 1018)) (La seed t) k 5
  have h7:(bI seed N).length=N:=by simp[bI]
  have h8:=aXs (f:=D.Device.sz) (b:=26) (l:=((bI seed N).drop 1).map (aLi seed N)) (fun x hx=>by
   obtain⟨d,hd,rfl⟩:=List.mem_map.1 hx
   have hd':=List.mem_of_mem_drop hd
   simp only[bI,List.mem_map] at hd'
   obtain⟨i,_,rfl⟩:=hd'
   have:=bA0 seed N (dR (dZ seed (i:Int)))
   rw[Pq] at this;omega)
  have h9:(Py seed N).1.sz=(iQ seed N).sz:=h1.1
  have h6':(Ef seed t pin k).2.1.length≤7∧((Ef seed t pin k).2.1.map D.aAE.sz).sum=0:=h6
  rw[List.length_map,List.length_drop,h7] at h8
  simp only[cond_true,←hN,D.World.sz,uC,kI,List.length_cons,List.length_map,List.length_drop,h7,List.map_cons,List.sum_cons,List.length_nil,List.map_nil,List.sum_nil,List.length_replicate,h9]
  have h10:(iI seed N).sz≤14*N+501:=h3
  have h11:(N-1)*26≤52:=Nat.mul_le_mul_right 26 (show N-1≤2 by omega)
  simp only[D.aAJ.sz,D.aAD.sz] at h10
  omega
theorem bA1 (d:D.Device)(n:ByteArray)(h:Int)(rm:Bool):(jD d n h rm).1.Key=d.Key∧(jD d n h rm).1.Epoch=d.Epoch:=by
 unfold jD
 cases(xI d n h rm).2<;>exact⟨rfl,rfl⟩
theorem aTb (nm:ByteArray):∀(i:Nat) (d:D.Device),(Px nm i d).Key=d.Key∧(Px nm i d).Epoch=d.Epoch
 |0,d=>⟨rfl,rfl⟩
 |i+1,d=>by
  obtain⟨h1,h2⟩:=aTb nm i d;obtain⟨h3,h4⟩:=bA1 (Px nm i d) nm (i:Int) false
  exact⟨h3.trans h1,h4.trans h2⟩
theorem aXt (seed:Int)(n:Nat):(iQ seed n).Key=(nR seed n (dR (dZ seed 0))).Key∧(iQ seed n).Epoch=(nR seed n (dR (dZ seed 0))).Epoch:=by
 obtain⟨h1,h2⟩:=aTb (aQ 1) n (Px (aQ 0) n (nR seed n (dR (dZ seed 0))))
 obtain⟨h3,h4⟩:=aTb (aQ 0) n (nR seed n (dR (dZ seed 0)))
 exact⟨h1.trans h3,h2.trans h4⟩
theorem aXu {seed:Int}{n:Nat}(h:dG (nR seed n (dR (dZ seed 0))).Key=true):(nR seed n (dR (dZ seed 0))).Epoch=bC (bZ seed n):=by
 unfold nR qE at h ⊢
 cases hq: !cO (bZ seed n)||(!fJ (bZ seed n) (dR (dZ seed 0)).Log||(decide (bC (bZ seed n)<(dR (dZ seed 0)).Epoch)|| !dG (gH seed 0))) with
 |true=>rw[hq] at h;exact absurd (show dG 0=true from h) (by decide)
 |false=>rfl
theorem bA2 (seed:Int)(n:Nat):(Py seed n).2.1=⟨0,0,[],0⟩∨(Py seed n).2.1.Epoch=bC (bZ seed n):=by
 obtain⟨k1,k2⟩:=aXt seed n
 unfold Py mP
 generalize iQ seed n=d at k1 k2 ⊢
 cases hs:(rA d.Key d.Epoch (IntKind.i64.wrap (d.Version+1)) d.aAC).2 with
 |false=>exact .inl rfl
 |true=>
  refine .inr ?_
  simp only[cond_true]
  unfold rA at hs ⊢
  cases hc:dG d.Key&&(cK d.Epoch 0 1000000&&cK (IntKind.i64.wrap (d.Version+1)) 0 1000000)&&aI d.aAC with
  |false=>rw[hc] at hs;cases hs
  |true=>
   simp only[Bool.and_eq_true] at hc
   show d.Epoch=_
   rw[k2]
   exact aXu (k1▸hc.1.1)
theorem bEv (seed:Int)(n:Nat)(d:D.Device):(eP (nR seed n d) (iI seed n).Log (iI seed n).Boxes (qB (iI seed n) 0).1).1=aLi seed n d:=aXr (bA2 seed n) (nR seed n d)
end Go.VK
