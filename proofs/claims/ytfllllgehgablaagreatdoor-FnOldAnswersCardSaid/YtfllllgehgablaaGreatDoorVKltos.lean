import Derived.Test.YtfllllgehgablaaGreatDoorVKatog
import Derived.Lib.LaidTab
import Derived.BarOnce
import Derived.Lib.ItoaMem
import Derived.Lib.ItoaLen
import Derived.Sort.Grow
import Derived.Carry
import Derived.ChangeArms
import Derived.DataElems
import Derived.DataReads
import Derived.ChangeOld
import Derived.WideShapes
import Derived.ChangeShapes
import Derived.Lib.LaidU8
import Derived.Lib.Join
import Derived.Lib.ConvBytes
import Derived.Laws.AppendOwn
import Derived.Laws.StructEq
import Derived.Lib.Split
/-
  THE VALUE KIT, eighth part, printed by a program of ours (genlists.py): places in lists, by name. Plain facts; no condition.
-/
set_option linter.all false
namespace Go.VK
section
variable {α:Type} {a0 a1 a2 a3 a4 a5 a6 a7 a8 a9 b0 b1 b2 b3 b4 b5 b6 b7 b8 b9 c0 c1 c2 c3 c4 c5 c6 c7 c8 c9 f0 f1 f2 f3 f4 f5 f6 f7 f8 f9 g0 g1 g2 g3 g4 g5 g6 g7 g8 g9 h0 h1 h2 h3 h4 h5 h6 h7 h8 h9 i0 i1 i2 i3 i4 i5 i6 i7 i8 i9 j0 j1 j2 j3 j4 j5 j6 j7 j8 j9 l0 l1 l2 l3 l4 l5 l6 l7 l8 l9 m0 m1 m2 m3 m4 m5 m6 m7 m8 m9 x:α} {t:List α}
def n0:At (x::t) 0 x:= .z
def n1:At (a0::x::t) 1 x:= .s n0
def n2:At (a0::a1::x::t) 2 x:= .s n1
def n3:At (a0::a1::a2::x::t) 3 x:= .s n2
def n4:At (a0::a1::a2::a3::x::t) 4 x:= .s n3
def n5:At (a0::a1::a2::a3::a4::x::t) 5 x:= .s n4
end
section
variable {a0 a1 a2 a3 a4 a5 a6 a7 a8 a9 b0 b1 b2 b3 b4 b5 b6 b7 b8 b9 c0 c1 c2 c3 c4 c5 c6 c7 c8 c9 f0 f1 f2 f3 f4 f5 f6 f7 f8 f9 g0 g1 g2 g3 g4 g5 g6 g7 g8 g9 h0 h1 h2 h3 h4 h5 h6 h7 h8 h9 i0 i1 i2 i3 i4 i5 i6 i7 i8 i9 j0 j1 j2 j3 j4 j5 j6 j7 j8 j9 l0 l1 l2 l3 l4 l5 l6 l7 l8 l9 m0 m1 m2 m3 m4 m5 m6 m7 m8 m9 x y:V} {t:List V}
def u0:Upd (x::t) 0 y (y::t):= .z
def u1:Upd (a0::x::t) 1 y (a0::y::t):= .s u0
def u2:Upd (a0::a1::x::t) 2 y (a0::a1::y::t):= .s u1
def u3:Upd (a0::a1::a2::x::t) 3 y (a0::a1::a2::y::t):= .s u2
def u4:Upd (a0::a1::a2::a3::x::t) 4 y (a0::a1::a2::a3::y::t):= .s u3
def u5:Upd (a0::a1::a2::a3::a4::x::t) 5 y (a0::a1::a2::a3::a4::y::t):= .s u4
def u6:Upd (a0::a1::a2::a3::a4::a5::x::t) 6 y (a0::a1::a2::a3::a4::a5::y::t):= .s u5
def u7:Upd (a0::a1::a2::a3::a4::a5::a6::x::t) 7 y (a0::a1::a2::a3::a4::a5::a6::y::t):= .s u6
def u8:Upd (a0::a1::a2::a3::a4::a5::a6::a7::x::t) 8 y (a0::a1::a2::a3::a4::a5::a6::a7::y::t):= .s u7
def d0:Dr (t) 0 t:= .z
def d1:Dr (a0::t) 1 t:= .s d0
def d2:Dr (a0::a1::t) 2 t:= .s d1
def d3:Dr (a0::a1::a2::t) 3 t:= .s d2
def d4:Dr (a0::a1::a2::a3::t) 4 t:= .s d3
def d5:Dr (a0::a1::a2::a3::a4::t) 5 t:= .s d4
def d6:Dr (a0::a1::a2::a3::a4::a5::t) 6 t:= .s d5
def d7:Dr (a0::a1::a2::a3::a4::a5::a6::t) 7 t:= .s d6
def k0:Tk (t) 0 []:= .z
def k1:Tk (a0::t) 1 [a0]:= .s k0
def k2:Tk (a0::a1::t) 2 [a0,a1]:= .s k1
def k3:Tk (a0::a1::a2::t) 3 [a0,a1,a2]:= .s k2
def k4:Tk (a0::a1::a2::a3::t) 4 [a0,a1,a2,a3]:= .s k3
def k5:Tk (a0::a1::a2::a3::a4::t) 5 [a0,a1,a2,a3,a4]:= .s k4
def k6:Tk (a0::a1::a2::a3::a4::a5::t) 6 [a0,a1,a2,a3,a4,a5]:= .s k5
def k7:Tk (a0::a1::a2::a3::a4::a5::a6::t) 7 [a0,a1,a2,a3,a4,a5,a6]:= .s k6
def k8:Tk (a0::a1::a2::a3::a4::a5::a6::a7::t) 8 [a0,a1,a2,a3,a4,a5,a6,a7]:= .s k7
def k9:Tk (a0::a1::a2::a3::a4::a5::a6::a7::a8::t) 9 [a0,a1,a2,a3,a4,a5,a6,a7,a8]:= .s k8
end
section
variable {a0 a1 a2 a3 a4 a5 a6 a7 a8 a9 b0 b1 b2 b3 b4 b5 b6 b7 b8 b9 c0 c1 c2 c3 c4 c5 c6 c7 c8 c9 f0 f1 f2 f3 f4 f5 f6 f7 f8 f9 g0 g1 g2 g3 g4 g5 g6 g7 g8 g9 h0 h1 h2 h3 h4 h5 h6 h7 h8 h9 i0 i1 i2 i3 i4 i5 i6 i7 i8 i9 j0 j1 j2 j3 j4 j5 j6 j7 j8 j9 l0 l1 l2 l3 l4 l5 l6 l7 l8 l9 m0 m1 m2 m3 m4 m5 m6 m7 m8 m9 x y:Ob} {t:List Ob}
def s0:Sn [] x 0 [x]:= .z
def s1:Sn [a0] x 1 [a0,x]:= .s s0
def s2:Sn [a0,a1] x 2 [a0,a1,x]:= .s s1
def s3:Sn [a0,a1,a2] x 3 [a0,a1,a2,x]:= .s s2
def s4:Sn [a0,a1,a2,a3] x 4 [a0,a1,a2,a3,x]:= .s s3
def s5:Sn [a0,a1,a2,a3,a4] x 5 [a0,a1,a2,a3,a4,x]:= .s s4
def s6:Sn [a0,a1,a2,a3,a4,a5] x 6 [a0,a1,a2,a3,a4,a5,x]:= .s s5
def q0:UpO (x::t) 0 y (y::t):= .z
def q1:UpO (a0::x::t) 1 y (a0::y::t):= .s q0
def q2:UpO (a0::a1::x::t) 2 y (a0::a1::y::t):= .s q1
def q3:UpO (a0::a1::a2::x::t) 3 y (a0::a1::a2::y::t):= .s q2
def q4:UpO (a0::a1::a2::a3::x::t) 4 y (a0::a1::a2::a3::y::t):= .s q3
def q5:UpO (a0::a1::a2::a3::a4::x::t) 5 y (a0::a1::a2::a3::a4::y::t):= .s q4
def q6:UpO (a0::a1::a2::a3::a4::a5::x::t) 6 y (a0::a1::a2::a3::a4::a5::y::t):= .s q5
def q7:UpO (a0::a1::a2::a3::a4::a5::a6::x::t) 7 y (a0::a1::a2::a3::a4::a5::a6::y::t):= .s q6
def q8:UpO (a0::a1::a2::a3::a4::a5::a6::a7::x::t) 8 y (a0::a1::a2::a3::a4::a5::a6::a7::y::t):= .s q7
def q9:UpO (a0::a1::a2::a3::a4::a5::a6::a7::a8::x::t) 9 y (a0::a1::a2::a3::a4::a5::a6::a7::a8::y::t):= .s q8
end
end Go.VK

namespace Go.VK
open Go.RowKit
def iV (n:Int):List V:=[.int .i64 n]
def bV (b:Bool):List V:=[.bool b]
def sV (s:ByteArray):List V:=[.str s]
def y8 (n:Int):List V:=[.int .u8 n]
def yV (n:UInt8):List V:=[.int .u8 n.toNat]
section
variable {P:Program} {g:GI} {E:Env P g} {s:S}
end
end Go.VK

namespace Go.VK
open Go.RowKit
def aI {n:Int}(h0: -9223372036854775808<=n)(h1:n<=9223372036854775807):IntKind.i64.wrap n=n:=by rw[IntKind.wrap_i64];omega
def bI (n a b:Int):Bool:=decide (a<=n)&&decide (n<=b)
def jS {n a b:Int}(h:bI n a b=true):a<=n/\n<=b:=by simpa[bI] using h
end Go.VK

namespace Go.VK
open Go.RowKit Go.WideShapes Go.ChangeShapes
variable {P:Program}
def bGz (w:World)(cs:List Value)(us:List V):Prop:=
 cs.length=us.length/\∀(i:Nat) (v:Value) (c:V),cs[i]? =some v->us[i]? =some c->Rd w (λ_=>False) [] v c
def Qf (P:Program)(t:TypeId)(α:Type)(f:α->List V):Prop:=
 ∀(w:World) (H:Type) (enc:TypeId×Value->H) (sp:Nat->Bool) (held:Bool) (fuel:Nat) (cs:List Value) (x:DataW H×List MemPlace),
  DataW.trod enc P w 0 sp held fuel t cs=some x->∃a:α,bGz w cs (f a)
def bKu {w:World}{v:Value}{c:V}(h:Rd w (λ_=>False) [] v c):bGz w [v] [c]:=
 ⟨rfl,λi v' c' h1 h2=>by
  cases i with
  |zero=>simp at h1 h2;subst h1;subst h2;exact h
  |succ i=>simp at h1⟩
def bM8 {t:TypeId}(ht:P.underlying t=some (.int .u8)):Qf P t Int y8:=by
 intro w H enc sp held fuel cs x h
 obtain⟨n,rfl,_,hwf⟩:=DataW.trod_int ht h
 simp only[Lit.wf,aa,bp] at hwf
 exact⟨n,bKu (.int hwf.1 hwf.2)⟩
def choice {α:Type}{p:Nat->α->Prop}:∀(n:Nat),(∀i,i<n->∃a,p i a)->∃l:List α,l.length=n/\∀i a,l[i]? =some a->p i a
 |0,_=>⟨[],rfl,by simp⟩
 |n+1,h=>by
  obtain⟨l,h1,h2⟩:=choice n (λi hi=>h i (by omega))
  obtain⟨a,ha⟩:=h n (by omega)
  refine⟨l++[a],by simp[h1],λi b hb=> ?_⟩
  by_cases hi:i<n
  ·rw[aq (by omega)] at hb;exact h2 i b hb
  ·rw[ay (by omega)] at hb
   have:i=n:=by
    have:=(aE.1 hb).1
    simp at this;omega
   subst this
   simp[h1] at hb;subst hb;exact ha
def bDa {w:World}{a:Addr}{n:Nat}{cs:List Value}(h:w.cells? 0 a n=some cs):cs.length=n/\∀j v,cs[j]? =some v->w.cell? (a.add j)=some v:=by
 unfold World.cells? at h
 rw[cH (cw _)] at h
 have hl:cs.length=n:=by simpa using mapM_some_length h
 refine⟨hl,λj v hv=> ?_⟩
 have hj:j<n:=by rw[<-hl];exact(aE.1 hv).1
 rw[<-hv]
 exact mapM_some_get h j j (by simp[hj])
def bDb {t e k:Nat}{α:Type}{f:α->List V}(ht:P.underlying t=some (.slice e))(hk:P.cellsOf e=k)(h0:0<k)(hf:∀a,(f a).length=k)(h:Qf P e α f):
  Qf P t (List α) (λl=>[.slice k (l.map f)]):=by
 intro w H enc sp held fuel cs x hx
 rcases DataW.trod_slice ht hx with⟨rfl,_⟩|⟨a,len,cap,elems,rest,n,_,rfl,_,_,h3,h4,h5,h6,_,_⟩
 ·exact⟨[],bKu (.slice0 (cw _))⟩
 ·have hc:∀i,i<len->∃b:α,∃cs,w.cells? 0 (a.add (i*k)) k=some cs/\bGz w cs (f b):=by
   intro i hi
   have:=h6 i hi
   rw[hk,ac (by omega)] at this
   obtain⟨cs,h7,h8⟩:=Option.bind_eq_some_iff.1 this
   obtain⟨b,hb⟩:=h w H enc sp held n cs _ h8
   exact⟨b,cs,h7,hb⟩
  obtain⟨l,hl,hp⟩:=choice len hc
  refine⟨l,bKu ?_⟩
  cases hlen:len with
  |zero=>
   have:l=[]:=bu (by omega)
   subst this
   exact .slice0 h4
  |succ m=>
   have hget:∀(i:Nat) (e:List V),(l.map f)[i]? =some e->∃b,e=f b/\∃cs,w.cells? 0 (a.add (i*k)) k=some cs/\bGz w cs (f b):=by
    intro i e he
    rw[bg] at he
    obtain⟨b,hb,rfl⟩:=eE.1 he
    exact⟨b,rfl,hp i b hb⟩
   have hcell:∀(i j:Nat) (e:List V) (d:V),(l.map f)[i]? =some e->e[j]? =some d->∃v,w.cell? (a.add (i*k+j))=some v/\Rd w (λ_=>False) [] v d:=by
    intro i j e d he hd
    obtain⟨b,rfl,cs,h7,h8,h9⟩:=hget i e he
    obtain⟨c1,c2⟩:=bDa h7
    have hj:j<cs.length:=by rw[h8];exact(aE.1 hd).1
    have hv:cs[j]? =some cs[j]:=ac hj
    refine⟨cs[j],?_,h9 j _ d hv hd⟩
    rw[<-Addr.add_add];exact c2 j _ hv
   have hblock:a.block<w.heap.size:=by
    obtain⟨b,cs,h7,_⟩:=hc 0 (by omega)
    have:=World.cells?_block h7 h0
    rwa [show(a.add (0*k)).block=a.block by unfold Addr.add;split<;>rfl] at this
   refine .slice (val:=λi j=>(w.cell? (a.add (i*k+j))).getD undef) (by simp[hl,hlen]) (by simp;omega) (by omega) h4 (λh=>h) hblock
    (λe he=>by obtain⟨b,_,rfl⟩:=cg.1 he;exact hf b) (λi j e d he hd=> ?_) (λi j e d he hd=> ?_)
   ·obtain⟨v,h7,_⟩:=hcell i j e d he hd
    rw[h7];rfl
   ·obtain⟨v,h7,h8⟩:=hcell i j e d he hd
    rw[h7];exact h8
def bAc {H:Type}{enc:TypeId×Value->H}{t e:TypeId}{α:Type}{g:α->V}(hd:Qf P t α (λa=>[g a]))(ht:P.underlying t=some (.slice e)){W:World}{base:Nat}{sp:Nat->Bool}{held:Bool}{v:Value}{d:DataW H}{p:List MemPlace}
  (hv:Value.okWide P W .any base t v) (h:DataW.Trod enc P W 0 sp held t v d p):∃a,Rd W (λ_=>False) [] v (g a):=by
 obtain⟨b,len,cap,rfl⟩:=okWide_slice ht hv
 obtain⟨fuel,hf⟩:=h
 obtain⟨a,h1,h2⟩:=hd W H enc sp held fuel _ _ hf
 exact⟨a,h2 0 _ _ rfl rfl⟩
end Go.VK

namespace Go.VK
open Go.RowKit
def nW (sep:ByteArray)(l:List ByteArray):ByteArray:=⟨(Lib.join (l.map (·.data.toList)) sep.data.toList).toArray⟩
def bG0 (sep x:ByteArray):nW sep [x]=x:=by
 unfold nW;simp[Lib.join_one]
def bG1 (sep y:ByteArray)(l:List ByteArray)(h:l≠[]):nW sep (l++[y])=nW sep l++sep++y:=by
 cases l with
 |nil=>exact absurd rfl h
 |cons x r=>
  unfold nW
  apply ByteArray.ext
  simp only[cA,bm,Lib.join_cons,cT,ex,Lib.joinTail,ey,ByteArray.data_append]
  apply jf.1
  simp
def sF (x:ByteArray):x.size=x.data.toList.length:=(cx).symm
def bAd {P:Program}{g:GI}{F:FuncId}(hE:∀args w,(callFunc F args).run P w= .ok (.enter F args) w)
  (hJ:∀(bk o c:Nat) (xs:List ByteArray) (sep:ByteArray) (w:World),(∀(j:Nat) x,xs[j]? =some x->w.cell? ⟨bk,o+j,none⟩=some (.string x))->bk<w.heap.size->xs.length<=140737488355328->xs.length<=c->(Lib.join (xs.map (·.data.toList)) sep.data.toList).length<=140737488355328->
   Calls P F #[.slice (some ⟨bk,o,none⟩) xs.length c, .string sep] w λe w'=>e= .returned (.string ⟨(Lib.join (xs.map (·.data.toList)) sep.data.toList).toArray⟩)/\Below w.heap.size w w')
  (l:List ByteArray) (sep:ByteArray) (h0:l≠[]) (hsz:(nW sep l).size<=140737488355328) (hln:l.length<=140737488355328):Spec P g F [.slice 1 (l.map sV), .str sep] (λr=>r= .str (nW sep l)):=by
 refine⟨hE,λw X0 vs hG hX0 hvs=> ?_⟩
 obtain⟨v,u,rfl⟩:∃v u,vs=[v,u]:=by
  match vs,hvs.1 with
  |[v,u],_=>exact⟨v,u,rfl⟩
 have hu:=(hvs.2 1 u _ rfl rfl).aAT
 obtain⟨rfl,hu2⟩:=hu
 have hv:=hvs.2 0 v _ rfl rfl
 generalize hes:l.map sV=es at hv
 cases hv with
 |slice0 h=>exact absurd (List.map_eq_nil_iff.1 hes) h0
 | @slice _ a n c k es val hn hpos hc hm hX hb hk hcell hrd=>
  subst hes
  simp only[bl] at hn
  subst hn
  have hcs:∀(j:Nat) x,l[j]? =some x->w.cell? (a.add j)=some (.string x):=by
   intro j x hx
   have e1:(l.map sV)[j]? =some [V.str x]:=by simp[hx,sV]
   have e2:=hcell j 0 _ _ e1 rfl
   obtain⟨e3,_⟩:=(hrd j 0 _ _ e1 rfl).aAT
   rw[e3] at e2
   simpa using e2
  obtain⟨b,o,sp⟩:=a
  have hsp:sp=none:=by
   cases l with
   |nil=>exact absurd rfl h0
   |cons x r=>
    have:=hcs 0 x rfl
    rw[show(⟨b,o,sp⟩:Addr).add 0=⟨b,o,sp⟩ by simp[Addr.add]] at this
    exact Proofs.cell_spot this
  subst hsp
  refine(hJ b o c l sep w (λj x hx=> ?_) hb hln hc (by rw[sF] at hsz;exact hsz)).mono ?_
  ·rw[<-hcs j x hx];congr 1;unfold Addr.add;split<;>simp_all
  ·rintro e w' ⟨rfl,hbel⟩
   exact⟨_,_,rfl,rfl, .str (by unfold maxLen;unfold nW at hsz;omega),hbel⟩
end Go.VK

namespace Go.VK
open Go.RowKit
def gK (p q:Int):Int:=if 1<=q/\q<=1000000000000 then p%q else 0
def bDc {p q:Int}(h:¬(1<=q/\q<=1000000000000)):gK p q=0:=cX h
def Ey {p q:Int}(h:1<=q): -q<p.tmod q/\p.tmod q<q/\p%q=(p.tmod q)%q:=by
 have h1:p.tmod q+q*p.tdiv q=p:=Int.tmod_add_mul_tdiv p q
 refine⟨?_,?_,?_⟩
 ·have:=Int.lt_tmod_of_pos p (show 0<q by omega);exact this
 ·exact fw p (by omega)
 ·conv=>lhs;rw[<-h1]
  exact Int.add_mul_emod_self_left _ _ _
def bKv {p q:Int}(h:1<=q/\q<=1000000000000)(ht:p.tmod q<0):gK p q=p.tmod q+q:=by
 obtain⟨h1,h2,h3⟩:=Ey (p:=p) h.1
 rw[gK,cH h,h3,<-Int.add_emod_right,Int.emod_eq_of_lt (by omega) (by omega)]
def bKw {p q:Int}(h:1<=q/\q<=1000000000000)(ht:¬p.tmod q<0):gK p q=p.tmod q:=by
 obtain⟨h1,h2,h3⟩:=Ey (p:=p) h.1
 rw[gK,cH h,h3,Int.emod_eq_of_lt (by omega) (by omega)]
def bKx {p q:Int}(h:1<=q/\q<=1000000000000):(IntKind.i64.wrap (p.tmod q+q)).tmod q=gK p q:=by
 obtain⟨h1,h2,h3⟩:=Ey (p:=p) h.1
 rw[aI (by omega) (by omega),cp (by omega),Int.add_emod_right,gK,cH h,h3]
def vV {p q:Int}(h:1<=q/\q<=1000000000000):0<=gK p q/\gK p q<q:=by
 rw[gK,cH h];exact⟨jl _ (by omega),io _ (by omega)⟩
def hstep (h v:Int):Int:=(IntKind.i64.wrap (IntKind.i64.wrap (IntKind.i64.wrap (h*1000003)+gK v 2147483647)+13)).tmod 2147483647
def tY (l:List Int):Int:=l.foldl hstep 11
def bJ (k:Int)(l:List Int):Int:=tY ([k]++[l,[k]].flatten)
end Go.VK

namespace Go.VK
open Go.RowKit
variable {P:Program} {g:GI} {E:Env P g} {s:S}
def mn2 {x y:Operand}{k:IntKind}{a b:Int}{ats:Array TypeId}(hx:Ev E s x (.int k a))(hy:Ev E s y (.int k b)):yN E s (.call {callee:= .builtin .min,args:= #[x,y],argTypes:=ats}) (.int k (if b<a then b else a)):=λβ c w rl op ho=>by
 have h1:=(hx β c w rl).aAO
 have h2:=(hy β c w rl).aAO
 refine⟨.int k (if b<a then b else a),λw' _=>by simp[execOp,ho,resolve,invoke,builtin,h1.1,h2.1,Builtin.min_,Builtin.min2],?_⟩
 split
 ·exact .int h2.2.1 h2.2.2
 ·exact .int h1.2.1 h1.2.2
def mx2 {x y:Operand}{k:IntKind}{a b:Int}{ats:Array TypeId}(hx:Ev E s x (.int k a))(hy:Ev E s y (.int k b)):yN E s (.call {callee:= .builtin .max,args:= #[x,y],argTypes:=ats}) (.int k (if b>a then b else a)):=λβ c w rl op ho=>by
 have h1:=(hx β c w rl).aAO
 have h2:=(hy β c w rl).aAO
 refine⟨.int k (if b>a then b else a),λw' _=>by simp[execOp,ho,resolve,invoke,builtin,h1.1,h2.1,Builtin.max_,Builtin.max2],?_⟩
 split
 ·exact .int h2.2.1 h2.2.2
 ·exact .int h1.2.1 h1.2.2
def bQ (z:ByteArray):List Int:=z.data.toList.map λb=>(b.toNat:Int)
def aYk {d:Nat}{xs ys:Array Value}{w:World}:(Op.eqFields d xs ys []).run P w= .ok true w:=rfl
def o9 {t off:Nat}{xs:Array Value}{a:Value}{w:World}(h1:Kn P t=true)(ha:xs[off]? =some a):(part t xs off).run P w= .ok a w:=by
 have h2:=(qY (w:=w) h1).1
 simp[part,h2,ha]
def bDd {d:Nat}{xs ys:Array Value}{w:World}{f:Field}{fs:List Field}{a b:Value}{r q:Bool}(hn:(f.name != "_")=true)(h1:Kn P f.type=true)(ha:xs[f.offset]? =some a)(hb:ys[f.offset]? =some b)
  (he:(Op.equalIn d f.type a b).run P w= .ok r w) (hq:(Op.eqFields d xs ys fs).run P w= .ok q w):(Op.eqFields d xs ys (f::fs)).run P w= .ok (r&&q) w:=by
 simp only[Op.eqFields]
 rw[cH (by simpa using hn)]
 simp only[Sem.run_bind,o9 h1 ha,o9 h1 hb,Result.andThen_ok,he]
 cases r with
 |false=>simp
 |true=>simpa using hq
end Go.VK

namespace Go.VK
open Go.RowKit
section
variable {α β σ τ:Type}
def gd (c:Prop)[Decidable c](x:Option α):Option α:=if c then x else none
def bd (x:Option α)(f:α->Option β):Option β:=match x with|none=>none|some a=>f a
def nx (x:Option (α⊕β))(f:β->Option α):Option α:=match x with|none=>none|some (.inl a)=>some a|some (.inr b)=>f b
def nk (q:α⊕β)(f:β->Option α)(o:α):Prop:=match q with| .inl a=>a=o| .inr b=>f b=some o
def bA (l:List α)(i:Int):Option α:=if 0<=i then l[i.toNat]? else none
def aW (a b:List α):Prop:=a.length+b.length<=68719476736
instance (a b:List α):Decidable (aW a b):=inferInstanceAs (Decidable (_<=_))
def aYl:∃n:Nat,2^70<=n:=⟨_,aj _⟩
noncomputable def FUEL:Nat:=Classical.choose aYl
def fO:1180591620717411303424<=FUEL:=Classical.choose_spec aYl
def jN {c:Prop}[Decidable c]{x:Option α}{r:α}(h:gd c x=some r):c/\x=some r:=by
 unfold gd at h;split at h
 ·exact⟨‹_›,h⟩
 ·cases h
def iP {x:Option α}{f:α->Option β}{r:β}(h:bd x f=some r):∃a,x=some a/\f a=some r:=by
 cases x with
 |none=>cases h
 |some a=>exact⟨a,rfl,h⟩
def bG2 {x:Option (α⊕β)}{f:β->Option α}{o:α}(h:nx x f=some o):∃q,x=some q/\nk q f o:=by
 match x,h with
 |some (.inl a),h=>exact⟨_,rfl,ak h⟩
 |some (.inr b),h=>exact⟨_,rfl,h⟩
def b1 {q:β}{f:β->Option α}{o:α}{b:β}(h:some b=some q)(hq:f q=some o):f b=some o:=by cases h;exact hq
def Kq {l:List α}{i:Int}{x:α}(h:bA l i=some x):0<=i/\l[i.toNat]? =some x:=by
 unfold bA at h;split at h
 ·exact⟨‹_›,h⟩
 ·cases h
end
variable {P:Program} {g:GI} {E:Env P g} {s:S}
variable {N:S->Prop} {X:Nat->S->Prop} {R:S->Prop}
section
variable {σ τ:Type} {o:τ}
end
mutual
inductive Nz:V->V->Prop
 |r {U:V}:Nz U U
 |n {k:Nat}:Nz .nil (.slice k [])
 |a {cs ds:List V} (h:NzL cs ds):Nz (.agg cs) (.agg ds)
inductive NzL:List V->List V->Prop
 |n:NzL [] []
 |c {x y:V} {xs ys:List V} (h:Nz x y) (hr:NzL xs ys):NzL (x::xs) (y::ys)
end
mutual
def Nz.rd {w:World}{Y:Nat->Prop}{β:List Tr}:∀{U U':V},Nz U U'->∀{v:Value},Rd w Y β v U->Rd w Y β v U'
 |_,_, .r,_,h=>h
 |_,_, .n,_,h=>by rw[h.aBM];exact .slice0 (cw _)
 |_,_, .a hl,_,h=>by
  obtain⟨vs,rfl,h2,h3⟩:=h.aBA
  have hh:=NzL.rd (w:=w) (Y:=Y) (β:=β) hl
  exact .agg (h2.trans hh.1) (λi v d h5 h6=>hh.2 i v d h6 (λc hc=>h3 i v c h5 hc))
def NzL.rd {w:World}{Y:Nat->Prop}{β:List Tr}:∀{cs ds:List V},NzL cs ds->cs.length=ds.length/\∀(i:Nat) (v:Value) (d:V),ds[i]? =some d->(∀c,cs[i]? =some c->Rd w Y β v c)->Rd w Y β v d
 |_,_, .n=>⟨rfl,by simp⟩
 |_,_, .c h hr=>by
  have ih:=NzL.rd (w:=w) (Y:=Y) (β:=β) hr
  refine⟨by simp[ih.1],λi v d h5 h6=> ?_⟩
  cases i with
  |zero=>simp at h5;subst h5;exact h.rd (h6 _ rfl)
  |succ i=>exact ih.2 i v d (by simpa using h5) (λc hc=>h6 c (by simpa using hc))
end
def nz {x:Operand}{U U':V}(h:Ev E s x U)(c:Nz U U'):Ev E s x U':=λβ a w r=>c.rd (h β a w r)
section
variable {α:Type} {l:List α} {f:α->List V} {c:α} {m:Int}
def ixq {x y:Operand}{t e k b:Nat}{kk:IntKind}(hm:bA l m=some c)(ht:slB P t e k b=true)(hx:Ev E s x (.slice k (l.map f)))(hy:Ev E s y (.int kk m)):yN E s (.indexAddr t x y) (.elem (f c)):=
 ixm ht (Kq hm).1 (Kq hm).2 hx hy
def bKy (n:Int):Prop:=0<=n/\n<=68719476736
instance (n:Int):Decidable (bKy n):=inferInstanceAs (Decidable (_/\_))
def jH (l:List α)(n:Int):Prop:=0<=n/\n.toNat<=l.length
instance (l:List α) (n:Int):Decidable (jH l n):=inferInstanceAs (Decidable (_/\_))
def Rd.sub {w:World}{Y:Nat->Prop}{β:List Tr}{A:Option Addr}{n c k a b:Nat}{es:List (List V)}(hr:Rd w Y β (.slice A n c) (.slice k es))(hab:a<=b)(hb:b<=es.length):
  Rd w Y β (.slice (if c=a then A else A.map λq=>q.add (a*k)) (b-a) (c-a)) (.slice k ((es.take b).drop a)):=by
 have hlen:((es.take b).drop a).length=b-a:=by simp;omega
 rcases Nat.eq_zero_or_pos (b-a) with h0|h0
 ·have:(es.take b).drop a=[]:=bu (by omega)
  rw[this,h0]
  obtain⟨A',c',h1,h2,h3⟩:=hr.aBD
  injection h1 with h1 h4 h5
  exact .slice0 (by omega)
 ·cases hr with
  |slice0=>simp at hb;omega
  | @slice _ ad _ _ _ _ val hn hpos hc hm hX hblk hk hcell hrd=>
   rw[cX (by omega)]
   have hget:∀(i:Nat) (e:List V),((es.take b).drop a)[i]? =some e->es[a+i]? =some e:=by
    intro i e h
    rw[eg,eJ] at h
    split at h
    ·exact h
    ·cases h
   refine .slice (val:=λi j=>val (a+i) j) hlen.symm (by omega) (by omega) (by omega) (by rw[add_block];exact hX) (by rw[add_block];exact hblk) (λe he=>hk e (gf (dl he))) (λi j e d h1 h2=> ?_) (λi j e d h1 h2=>hrd _ j e d (hget i e h1) h2)
   rw[add_add',show a*k+(i*k+j)=(a+i)*k+j by rw[dr];omega]
   exact hcell _ j e d (hget i e h1) h2
def mF (k:IntKind)(x y:Int):Int:=k.wrap ((BitVec.ofInt k.bits x&&&BitVec.ofInt k.bits y).toNat:Nat)
def orI (k:IntKind)(x y:Int):Int:=k.wrap ((BitVec.ofInt k.bits x|||BitVec.ofInt k.bits y).toNat:Nat)
def aSx (k:IntKind)(x y:Int):Int:=k.wrap ((BitVec.ofInt k.bits x^^^BitVec.ofInt k.bits y).toNat:Nat)
def p8 (k:IntKind)(x y:Int):Int:=k.wrap (x*2^(min y.toNat k.bits))
def Bf (k:IntKind)(x y:Int):Int:=x.fdiv (2^(min y.toNat k.bits))
def bKz {x y:Operand}{k:IntKind}{m n:Int}{t u:TypeId}(hx:Ev E s x (.int k m))(hy:Ev E s y (.int k n)):yN E s (.binOp .and t x y u) (.int k (mF k m n)):=λβ a w r o ho=>
 ⟨_,λw' _=>by simp[execOp,ho,(hx β a w r).aAO.1,(hy β a w r).aAO.1,eqGuard_at_int,binOp_and,Op.intBits,mF], .int (dG _ _).1 (dG _ _).2⟩
def bM9 {x y:Operand}{k:IntKind}{m n:Int}{t u:TypeId}(hx:Ev E s x (.int k m))(hy:Ev E s y (.int k n)):yN E s (.binOp .or t x y u) (.int k (orI k m n)):=λβ a w r o ho=>
 ⟨_,λw' _=>by simp[execOp,ho,(hx β a w r).aAO.1,(hy β a w r).aAO.1,eqGuard_at_int,binOp_or,Op.intBits,orI], .int (dG _ _).1 (dG _ _).2⟩
def bK0 {x y:Operand}{k:IntKind}{m n:Int}{t u:TypeId}(hx:Ev E s x (.int k m))(hy:Ev E s y (.int k n)):yN E s (.binOp .xor t x y u) (.int k (aSx k m n)):=λβ a w r o ho=>
 ⟨_,λw' _=>by simp[execOp,ho,(hx β a w r).aAO.1,(hy β a w r).aAO.1,eqGuard_at_int,binOp_xor,Op.intBits,aSx], .int (dG _ _).1 (dG _ _).2⟩
def bOz {x y:Operand}{k j:IntKind}{m n:Int}{t u:TypeId}(h0:0<=n)(hx:Ev E s x (.int k m))(hy:Ev E s y (.int j n)):yN E s (.binOp .shl t x y u) (.int k (p8 k m n)):=λβ a w r o ho=>
 ⟨_,λw' _=>by simp[execOp,ho,(hx β a w r).aAO.1,(hy β a w r).aAO.1,eqGuard_at_int,binOp_shl,Op.shift,p8,show ¬n<0 by omega], .int (dG _ _).1 (dG _ _).2⟩
def bO0 {x y:Operand}{k j:IntKind}{m n:Int}{t u:TypeId}(h0:0<=n)(hx:Ev E s x (.int k m))(hy:Ev E s y (.int j n)):yN E s (.binOp .shr t x y u) (.int k (Bf k m n)):=λβ a w r o ho=>
 have hm:=(hx β a w r).aAO
 have hd:(0:Int)<2^(min n.toNat k.bits):=Int.pow_pos (by decide)
 have hk0:k.min<=0:=by cases k<;>decide
 have hk1:0<=k.max:=by cases k<;>decide
 ⟨.int k (Bf k m n),λw' _=>by simp[execOp,ho,(hx β a w r).aAO.1,(hy β a w r).aAO.1,eqGuard_at_int,binOp_shr,Op.shift,Bf,show ¬n<0 by omega],by
  unfold Bf
  rw[gl _ (Int.le_of_lt hd)]
  refine .int ?_ ?_
  ·rcases Int.le_total 0 m with h|h
   ·exact e9 hk0 (Int.ediv_nonneg h (Int.le_of_lt hd))
   ·refine e9 hm.2.1 ?_
    rw[Int.le_ediv_iff_mul_le hd]
    have h1:(1:Int)<=2^(min n.toNat k.bits):=hd
    have:=Int.mul_le_mul_of_nonpos_left h h1
    simpa using this
  ·rcases Int.le_total 0 m with h|h
   ·exact e9 (Int.ediv_le_self _ h) hm.2.2
   ·refine e9 ?_ hk1
    exact Int.ediv_le_of_le_mul hd (by simpa using h)⟩
def bAe {w:World}{Y:Nat->Prop}{β:List Tr}{v:Value}{U:V}(h:Rd w Y β v U)(h1:mU U.parts=true):v.cells.size=U.parts.length/\∀(j:Nat) (u:Value) (c:V),v.cells[j]? =some u->U.parts[j]? =some c->Rd w Y β u c:=by
 by_cases hA:∃cs,U= .agg cs
 ·obtain⟨cs,rfl⟩:=hA
  obtain⟨vs,rfl,k2,k3⟩:=h.aBA
  exact⟨k2,λj u c h5 h6=>k3 j u c h5 h6⟩
 ·have hU:U.parts=[U]:=by cases U<;>first|rfl|exact absurd ⟨_,rfl⟩ hA
  rw[hU] at h1 ⊢
  have ho:U.one=true:=by simpa[mU] using h1
  rw[Qd (h.one ho)]
  refine⟨rfl,λj u c h5 h6=> ?_⟩
  cases j with
  |zero=>simp at h5 h6;subst h5;subst h6;exact h
  |succ j=>simp at h5
inductive BP (E:Env P g) (s:S) (pls:List (Nat×Nat)):List (Nat×Operand)->List V->List V->Prop
 |n {cs:List V}:BP E s pls [] cs cs
 |c {i:Nat} {x:Operand} {U:V} {xs:List (Nat×Operand)} {cs cs1 ds:List V} {off sz:Nat} (h:Ev E s x U) (hpl:At pls i (off,sz)) (hsz:U.parts.length=sz) (h1:mU U.parts=true) (hsp:Sp cs off U.parts cs1) (hr:BP E s pls xs cs1 ds):BP E s pls ((i,x)::xs) cs ds
def BP.spec {pls:List (Nat×Nat)}{xs:List (Nat×Operand)}{cs ds:List V}(h:BP E s pls xs cs ds){β:List Tr}{a:Act}{w:World}(r:RelB E s β a w):
  ∀cells:Array Value,cells.size=cs.length->(∀(j:Nat) (v:Value) (c:V),cells[j]? =some v->cs[j]? =some c->Rd w (E.X β) β v c)->
  ∃res,Instr.fill (λi=>pls.toArray[i]?) cells (xs.map λ(i,x)=>(i,a.eval x))=some res/\res.size=ds.length/\∀(j:Nat) (v:Value) (c:V),res[j]? =some v->ds[j]? =some c->Rd w (E.X β) β v c:=by
 induction h with
 |n=>exact λcells h1 h2=>⟨cells,rfl,h1,h2⟩
 | @c i x U xs cs cs1 ds off sz h hpl hsz h1 hsp hr ih=>
  intro cells hs hrd
  have hp:=bAe (h β a w r) h1
  obtain⟨p1,p2,p3⟩:=hsp.spec
  have hf:=o8 off (a.eval x).cells.toList 0 cells (by simp[hp.1];omega)
  obtain⟨res,r1,r2,r3⟩:=ih ((((a.eval x).cells.toList.zipIdx 0).foldl (λcs (cc,j)=>cs.setIfInBounds (off+j) cc) cells)) (by rw[hf.1,hs,p2]) (λj v cc h5 h6=>by
   rw[hf.2] at h5
   rw[p3] at h6
   simp only[ee,cx,hp.1] at h5
   split at h5
   ·rename_i hj;rw[cH hj] at h6;exact hp.2 _ v cc (by simpa using h5) h6
   ·rename_i hj;rw[cX hj] at h6;exact hrd j v cc h5 h6)
  refine⟨res,?_,r2,r3⟩
  simp only[bm,Instr.fill]
  have hg:pls.toArray[i]? =some (off,sz):=by simpa using hpl.get
  rw[hg]
  simp only
  rw[cX (by simp[hp.1,hsz,hs];omega)]
  rw[<-ip,ij]
  exact r1
def aQn (P:Program):List Field->Option (List (Nat×Nat))
 |[]=>some []
 |f::fs=>match P.info? f.type,aQn P fs with|some i,some l=>some ((f.offset,i.size)::l)|_,_=>none
def aG4 (P:Program)(t:TypeId):Option (List (Nat×Nat)):=match P.underlying t with|some (.struct fs)=>aQn P fs.toList|_=>none
def aG5 {w:World}:∀{fs:List Field} {l:List (Nat×Nat)},aQn P fs=some l->(fs.mapM λf=>(Prod.mk f.offset<$>sizeOf f.type:Sem (Nat×Nat))).run P w= .ok l w
 |[],l,h=>by simp[aQn] at h;subst h;rfl
 |f::fs,l,h=>by
  simp only[aQn] at h
  cases hi:P.info? f.type with
  |none=>simp[hi] at h
  |some i=>
   cases hl:aQn P fs with
   |none=>simp[hi,hl] at h
   |some l'=>
    simp[hi,hl] at h
    subst h
    have ih:=aG5 (w:=w) hl
    simp only[jq,Sem.run_bind]
    have e:(sizeOf f.type).run P w= .ok i.size w:=by simp[sizeOf,typeInfo,hi]
    simp only[Sem.run_map,e,Result.andThen_ok,Sem.run_pure,ih]
def bld {t:TypeId}{xs:List (Nat×Operand)}{pls:List (Nat×Nat)}{zs ds:List V}(hz:aGg P t=some zs)(hp:aG4 P t=some pls)(hb:BP E s pls xs zs ds):yN E s (.build t xs.toArray) (.agg ds):=λβ a w r o ho=>by
 obtain⟨i,z,hi,hz',hzs⟩:=o6 hz
 have hzr:=aQl (w:=w) (X:=E.X β) (β:=β) hzs
 obtain⟨res,r1,r2,r3⟩:=hb.spec r z.cells (by simpa using hzr.1) (λj v c h5 h6=>(hzr.2 j v c (by simpa using h5) h6).1)
 refine⟨.agg res,λw' _=> ?_, .agg r2 r3⟩
 unfold aG4 at hp
 cases hu:P.underlying t with
 |none=>simp[hu] at hp
 |some d=>
  cases d<;>simp[hu] at hp
  rename_i fs
  have hm:=aG5 (w:=w') hp
  have hm':(fs.mapM λf=>(Prod.mk f.offset<$>sizeOf f.type:Sem (Nat×Nat))).run P w'= .ok pls.toArray w':=by
   rw[<-Array.toArray_toList (xs:=fs),gn]
   simp only[Sem.run_map,hm,Result.andThen_ok]
   try rfl
  have e1:((xs.toArray.map λ(x:Nat×Operand)=>(x.1,a.eval x.2))).toList=xs.map λ(i,x)=>(i,a.eval x):=by simp
  simp[execOp,ho,Instr.build,zeroValue,typeInfo,hi,hz',run_underlying hu,hm']
  have r1':Instr.fill (λi=>pls[i]?) z.cells (xs.map λx=>(x.1,a.eval x.2))=some res:=by simpa using r1
  simp[r1']
def bAf (P:Program)(t f ft off:Nat):Bool:=match P.underlying t with|some (.struct fs)=>(match fs[f]? with|some fd=>fd.type==ft&&fd.offset==off|none=>false)|_=>false
def aYm {t f ft off:Nat}{w:World}{vs:Array Value}(h:bAf P t f ft off=true):(Instr.field t (.agg vs) f).run P w=(part ft vs off).run P w:=by
 unfold bAf at h
 cases hu:P.underlying t with
 |none=>simp[hu] at h
 |some d=>
  cases d<;>simp[hu] at h
  rename_i fs
  cases hf:fs[f]? with
  |none=>simp[hf] at h
  |some fd=>
   simp[hf] at h
   obtain⟨rfl,rfl⟩:=h
   simp[Instr.field,run_underlying hu,hf,asAgg]
def fld1 {x:Operand}{t f ft off:Nat}{cs:List V}{U:V}(hf:bAf P t f ft off=true)(ht:Kn P ft=true)(hc:At cs off U)(hx:Ev E s x (.agg cs)):yN E s (.field t x f) U:=λβ a w r o ho=>by
 obtain⟨vs,h1,h2,h3⟩:=(hx β a w r).aBA
 have hlt:off<vs.size:=by rw[h2];exact(aE.1 hc.get).1
 refine⟨vs[off],λw' _=> ?_,h3 off _ U (cQ hlt) hc.get⟩
 simp[execOp,ho,h1,aYm hf,o9 (w:=w') ht (cQ hlt)]
def bK1 {z:ByteArray}{n:Nat}{c:Int}(h:(bQ z)[n]? =some c):∃b,z[n]? =some b/\c=(b.toNat:Int):=by
 unfold bQ at h
 rw[bg] at h
 obtain⟨b,hb,rfl⟩:=eE.1 h
 refine⟨b,?_,rfl⟩
 obtain⟨hlt,hb⟩:=aE.1 hb
 have hlt':n<z.size:=by rw[cx] at hlt;exact hlt
 rw[getElem?_pos z n hlt']
 rw[<-hb];rfl
def bO1 {x y:Operand}{t:TypeId}{z:ByteArray}{kk:IntKind}{m c:Int}(hm:bA (bQ z) m=some c)(ht:P.underlying t=some .string)(hx:Ev E s x (.str z))(hy:Ev E s y (.int kk m)):yN E s (.index t x y) (.int .u8 c):=λβ a w r o ho=>by
 obtain⟨h0,h1⟩:=Kq hm
 obtain⟨b,hb,rfl⟩:=bK1 h1
 have hlt:=b.toNat_lt
 refine⟨_,λw' _=> ?_, .int (im _) (show((b.toNat:Nat):Int)<=255 by omega)⟩
 simp[execOp,ho,(hx β a w r).aAT.1,(hy β a w r).aAO.1,Instr.index,asIntOf,run_underlying ht,h0,hb]
def tZ (z:ByteArray)(l h:Int):Prop:=0<=l/\l<=h/\h<=(z.size:Int)
instance (z:ByteArray) (l h:Int):Decidable (tZ z l h):=inferInstanceAs (Decidable (_/\_))
def ext_size (z:ByteArray)(l h:Nat):(z.extract l h).size<=z.size:=by
 rw[ByteArray.size_extract];omega
def bO2 {x y q:Operand}{t:TypeId}{z:ByteArray}{kk jj:IntKind}{m n:Int}(hm:tZ z m n)(ht:P.underlying t=some .string)(hx:Ev E s x (.str z))(hy:Ev E s y (.int kk m))(hq:Ev E s q (.int jj n)):yN E s (.slice t x (some y) (some q) none) (.str (z.extract m.toNat n.toNat)):=λβ a w r o ho=>by
 obtain⟨h0,h1,h2⟩:=hm
 obtain⟨g1,g2⟩:=(hx β a w r).aAT
 refine⟨_,λw' _=> ?_, .str (bq (ext_size z m.toNat n.toNat) g2)⟩
 have e1:(0<=n/\n<=(z.size:Int)):=⟨by omega,h2⟩
 have e2:(0<=m/\m<=((n.toNat:Nat):Int)):=⟨h0,by omega⟩
 simp[execOp,ho,g1,(hy β a w r).aAO.1,(hq β a w r).aAO.1,Instr.sliceAt,Instr.slice,run_underlying ht,Instr.sliceBounds,Instr.sliceBound,asIntOf,e1,e2]
 try (intro hh;exfalso;omega)
def bO3 {x q:Operand}{t:TypeId}{z:ByteArray}{jj:IntKind}{n:Int}(hm:tZ z 0 n)(ht:P.underlying t=some .string)(hx:Ev E s x (.str z))(hq:Ev E s q (.int jj n)):yN E s (.slice t x none (some q) none) (.str (z.extract 0 n.toNat)):=λβ a w r o ho=>by
 obtain⟨h0,h1,h2⟩:=hm
 obtain⟨g1,g2⟩:=(hx β a w r).aAT
 refine⟨_,λw' _=> ?_, .str (bq (ext_size z 0 n.toNat) g2)⟩
 have e1:(0<=n/\n<=(z.size:Int)):=⟨by omega,h2⟩
 simp[execOp,ho,g1,(hq β a w r).aAO.1,Instr.sliceAt,Instr.slice,run_underlying ht,Instr.sliceBounds,Instr.sliceBound,asIntOf,e1]
def bO4 {x y:Operand}{t:TypeId}{z:ByteArray}{kk:IntKind}{m:Int}(hm:tZ z m z.size)(ht:P.underlying t=some .string)(hx:Ev E s x (.str z))(hy:Ev E s y (.int kk m)):yN E s (.slice t x (some y) none none) (.str (z.extract m.toNat z.size)):=λβ a w r o ho=>by
 obtain⟨h0,h1,h2⟩:=hm
 obtain⟨g1,g2⟩:=(hx β a w r).aAT
 refine⟨_,λw' _=> ?_, .str (bq (ext_size z m.toNat z.size) g2)⟩
 have e2:(0<=m/\m<=(z.size:Int)):=⟨h0,h1⟩
 simp[execOp,ho,g1,(hy β a w r).aAO.1,Instr.sliceAt,Instr.slice,run_underlying ht,Instr.sliceBounds,Instr.sliceBound,asIntOf,e2]
section
variable {F:S->Prop}
variable {a0:Option Nat}
end
end
end Go.VK

namespace Go.VK
section
variable {α β σ τ:Type}
@[simp] theorem bd_s {a:α} {f:α->Option β}:bd (some a) f=f a:=rfl
@[simp] theorem bd_n {f:α->Option β}:bd none f=none:=rfl
@[simp] theorem nx_l {a:α} {f:β->Option α}:nx (some (.inl a)) f=some a:=rfl
@[simp] theorem nx_r {b:β} {f:β->Option α}:nx (some (.inr b)) f=f b:=rfl
@[simp] theorem nx_n {f:β->Option α}:nx none f=none:=rfl
def aB {c:Prop}[Decidable c]{x:Option α}(h:c):gd c x=x:=cH h
@[simp] theorem gd_T {x:Option α}:gd True x=x:=rfl
def bO5 {b:Bool}{x y:Option α}{f:α->Option β}:bd (bif b then x else y) f=bif b then bd x f else bd y f:=by cases b<;>rfl
@[simp] theorem bd_bb {b:Bool} {x y:α} {f:α->Option β}:bd (bif b then some x else some y) f=f (bif b then x else y):=by cases b<;>rfl
@[simp] theorem bif_and {a b:Bool}:(bif a then b else false)=(a&&b):=by cases a<;>rfl
@[simp] theorem bif_or {a b:Bool}:(bif a then true else b)=(a||b):=by cases a<;>rfl
@[simp] theorem bif_some {a:Bool} {x y:α}:(bif a then some x else some y)=some (bif a then x else y):=by cases a<;>rfl
def bP6 {x:Option α}:bd x (λa=>some a)=x:=by cases x<;>rfl
def aM {l:List α}{i:Nat}(h:i<l.length):bA l (i:Int)=some l[i]:=by
 unfold bA;rw[cH (im _),cm,ac h]
def rQ {l:List α}{i:Int}(h0:0<=i)(h:i.toNat<l.length):bA l i=some l[i.toNat]:=by
 unfold bA;rw[cH h0,ac h]
def bO6 (step:Nat->α->Option τ->Option τ)(fin:Option τ):Nat->List α->Option τ
 |_,[]=>fin
 |i,x::xs=>step i x (bO6 step fin (i+1) xs)
def iG (p:α->Bool):Nat->List α->Int
 |_,[]=> -1
 |i,x::xs=>bif p x then(i:Int) else iG p (i+1) xs
def aG6 {p:α->Bool}:∀{i:Nat} {l:List α},0<=iG p i l->(i:Int)<=iG p i l/\iG p i l<i+l.length
 |i,[],h=>by simp[iG] at h
 |i,x::xs,h=>by
  simp only[iG] at h ⊢
  cases hp:p x with
  |true=>simp;omega
  |false=>
   rw[hp] at h
   have:=aG6 (i:=i+1) (l:=xs) (by simpa using h)
   simp only[av,ab]
   omega
def gL (p:Nat->α->Bool):Nat->List α->Bool
 |_,[]=>false
 |i,x::xs=>p i x||gL p (i+1) xs
def Ez {p:α->Bool}:∀{l:List α} {s:List α},l.foldl (λs x=>bif p x then s++[x] else s) s=s++l.filter p
 |[],s=>by simp
 |x::xs,s=>by
  simp only[dc,je]
  cases p x<;>simp[Ez]
def Iu (y:Nat->α->List β):Nat->List α->List β
 |_,[]=>[]
 |i,x::xs=>y i x++Iu y (i+1) xs
end
def jT (z sep:ByteArray):List ByteArray:=Lib.splitB sep 0 (Lib.countB z sep) z
end Go.VK
