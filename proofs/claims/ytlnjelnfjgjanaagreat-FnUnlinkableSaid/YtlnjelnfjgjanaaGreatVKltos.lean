import Derived.Test.YtlnjelnfjgjanaaGreatVKatog
import Derived.Lib.LaidTab
import Derived.BarOnce
import Derived.Lib.ItoaMem
import Derived.Lib.ItoaLen
import Derived.Sort.Grow
import Derived.Carry
import Derived.ChangeArms
import Derived.DataElems
import Derived.DataReads
import Derived.ChangeOld
import Derived.WideShapes
import Derived.ChangeShapes
import Derived.Lib.LaidU8
import Derived.Lib.Join
import Derived.Lib.ConvBytes
import Derived.Laws.AppendOwn
import Derived.Laws.StructEq
import Derived.Lib.Split
/-
  THE VALUE KIT, eighth part, printed by a program of ours (genlists.py): places in lists, by name. Plain facts; no condition.
-/
set_option linter.unusedVariables false
namespace Go.VK
section
variable {α:Type} {a0 a1 a2 a3 a4 a5 a6 a7 a8 a9 b0 b1 b2 b3 b4 b5 b6 b7 b8 b9 c0 c1 c2 c3 c4 c5 c6 c7 c8 c9 f0 f1 f2 f3 f4 f5 f6 f7 f8 f9 g0 g1 g2 g3 g4 g5 g6 g7 g8 g9 h0 h1 h2 h3 h4 h5 h6 h7 h8 h9 i0 i1 i2 i3 i4 i5 i6 i7 i8 i9 j0 j1 j2 j3 j4 j5 j6 j7 j8 j9 l0 l1 l2 l3 l4 l5 l6 l7 l8 l9 m0 m1 m2 m3 m4 m5 m6 m7 m8 m9 x:α} {t:List α}
theorem n0:At (x::t) 0 x:= .z
theorem n1:At (a0::x::t) 1 x:= .s n0
theorem n2:At (a0::a1::x::t) 2 x:= .s n1
theorem n3:At (a0::a1::a2::x::t) 3 x:= .s n2
theorem n4:At (a0::a1::a2::a3::x::t) 4 x:= .s n3
theorem n5:At (a0::a1::a2::a3::a4::x::t) 5 x:= .s n4
end
section
variable {a0 a1 a2 a3 a4 a5 a6 a7 a8 a9 b0 b1 b2 b3 b4 b5 b6 b7 b8 b9 c0 c1 c2 c3 c4 c5 c6 c7 c8 c9 f0 f1 f2 f3 f4 f5 f6 f7 f8 f9 g0 g1 g2 g3 g4 g5 g6 g7 g8 g9 h0 h1 h2 h3 h4 h5 h6 h7 h8 h9 i0 i1 i2 i3 i4 i5 i6 i7 i8 i9 j0 j1 j2 j3 j4 j5 j6 j7 j8 j9 l0 l1 l2 l3 l4 l5 l6 l7 l8 l9 m0 m1 m2 m3 m4 m5 m6 m7 m8 m9 x y:V} {t:List V}
theorem u0:Upd (x::t) 0 y (y::t):= .z
theorem u1:Upd (a0::x::t) 1 y (a0::y::t):= .s u0
theorem u2:Upd (a0::a1::x::t) 2 y (a0::a1::y::t):= .s u1
theorem u3:Upd (a0::a1::a2::x::t) 3 y (a0::a1::a2::y::t):= .s u2
theorem u4:Upd (a0::a1::a2::a3::x::t) 4 y (a0::a1::a2::a3::y::t):= .s u3
theorem u5:Upd (a0::a1::a2::a3::a4::x::t) 5 y (a0::a1::a2::a3::a4::y::t):= .s u4
theorem u6:Upd (a0::a1::a2::a3::a4::a5::x::t) 6 y (a0::a1::a2::a3::a4::a5::y::t):= .s u5
theorem u7:Upd (a0::a1::a2::a3::a4::a5::a6::x::t) 7 y (a0::a1::a2::a3::a4::a5::a6::y::t):= .s u6
theorem u8:Upd (a0::a1::a2::a3::a4::a5::a6::a7::x::t) 8 y (a0::a1::a2::a3::a4::a5::a6::a7::y::t):= .s u7
theorem d0:Dr (t) 0 t:= .z
theorem d1:Dr (a0::t) 1 t:= .s d0
theorem d2:Dr (a0::a1::t) 2 t:= .s d1
theorem d3:Dr (a0::a1::a2::t) 3 t:= .s d2
theorem d4:Dr (a0::a1::a2::a3::t) 4 t:= .s d3
theorem d5:Dr (a0::a1::a2::a3::a4::t) 5 t:= .s d4
theorem d6:Dr (a0::a1::a2::a3::a4::a5::t) 6 t:= .s d5
theorem d7:Dr (a0::a1::a2::a3::a4::a5::a6::t) 7 t:= .s d6
theorem k0:Tk (t) 0 []:= .z
theorem k1:Tk (a0::t) 1 [a0]:= .s k0
theorem k2:Tk (a0::a1::t) 2 [a0,a1]:= .s k1
theorem k3:Tk (a0::a1::a2::t) 3 [a0,a1,a2]:= .s k2
theorem k4:Tk (a0::a1::a2::a3::t) 4 [a0,a1,a2,a3]:= .s k3
theorem k5:Tk (a0::a1::a2::a3::a4::t) 5 [a0,a1,a2,a3,a4]:= .s k4
theorem k6:Tk (a0::a1::a2::a3::a4::a5::t) 6 [a0,a1,a2,a3,a4,a5]:= .s k5
theorem k7:Tk (a0::a1::a2::a3::a4::a5::a6::t) 7 [a0,a1,a2,a3,a4,a5,a6]:= .s k6
theorem k8:Tk (a0::a1::a2::a3::a4::a5::a6::a7::t) 8 [a0,a1,a2,a3,a4,a5,a6,a7]:= .s k7
theorem k9:Tk (a0::a1::a2::a3::a4::a5::a6::a7::a8::t) 9 [a0,a1,a2,a3,a4,a5,a6,a7,a8]:= .s k8
end
section
variable {a0 a1 a2 a3 a4 a5 a6 a7 a8 a9 b0 b1 b2 b3 b4 b5 b6 b7 b8 b9 c0 c1 c2 c3 c4 c5 c6 c7 c8 c9 f0 f1 f2 f3 f4 f5 f6 f7 f8 f9 g0 g1 g2 g3 g4 g5 g6 g7 g8 g9 h0 h1 h2 h3 h4 h5 h6 h7 h8 h9 i0 i1 i2 i3 i4 i5 i6 i7 i8 i9 j0 j1 j2 j3 j4 j5 j6 j7 j8 j9 l0 l1 l2 l3 l4 l5 l6 l7 l8 l9 m0 m1 m2 m3 m4 m5 m6 m7 m8 m9 x y:Ob} {t:List Ob}
theorem s0:Sn [] x 0 [x]:= .z
theorem s1:Sn [a0] x 1 [a0,x]:= .s s0
theorem s2:Sn [a0,a1] x 2 [a0,a1,x]:= .s s1
theorem s3:Sn [a0,a1,a2] x 3 [a0,a1,a2,x]:= .s s2
theorem s4:Sn [a0,a1,a2,a3] x 4 [a0,a1,a2,a3,x]:= .s s3
theorem s5:Sn [a0,a1,a2,a3,a4] x 5 [a0,a1,a2,a3,a4,x]:= .s s4
theorem s6:Sn [a0,a1,a2,a3,a4,a5] x 6 [a0,a1,a2,a3,a4,a5,x]:= .s s5
theorem q0:UpO (x::t) 0 y (y::t):= .z
theorem q1:UpO (a0::x::t) 1 y (a0::y::t):= .s q0
theorem q2:UpO (a0::a1::x::t) 2 y (a0::a1::y::t):= .s q1
theorem q3:UpO (a0::a1::a2::x::t) 3 y (a0::a1::a2::y::t):= .s q2
theorem q4:UpO (a0::a1::a2::a3::x::t) 4 y (a0::a1::a2::a3::y::t):= .s q3
theorem q5:UpO (a0::a1::a2::a3::a4::x::t) 5 y (a0::a1::a2::a3::a4::y::t):= .s q4
theorem q6:UpO (a0::a1::a2::a3::a4::a5::x::t) 6 y (a0::a1::a2::a3::a4::a5::y::t):= .s q5
end
end Go.VK

namespace Go.VK
open Go.RowKit
def iV (n:Int):List V:=[.int .i64 n]
def bV (b:Bool):List V:=[.bool b]
def sV (s:ByteArray):List V:=[.str s]
def y8 (n:Int):List V:=[.int .u8 n]
def yV (n:UInt8):List V:=[.int .u8 n.toNat]
section
variable {P:Program} {g:GI} {E:Env P g} {s:S}
end
end Go.VK

set_option linter.unusedSimpArgs false
namespace Go.VK
open Go.RowKit
theorem aG {n:Int}(h0: -9223372036854775808≤n)(h1:n≤9223372036854775807):IntKind.i64.wrap n=n:=by rw[IntKind.wrap_i64];omega
def bF (n a b:Int):Bool:=decide (a≤n)&&decide (n≤b)
theorem kJ {n a b:Int}(h:bF n a b=true):a≤n∧n≤b:=by simpa[bF] using h
end Go.VK

namespace Go.VK
open Go.RowKit Go.WideShapes Go.ChangeShapes
variable {P:Program}
def bCa (w:World)(cs:List Value)(us:List V):Prop:=
 cs.length=us.length∧∀(i:Nat) (v:Value) (c:V),cs[i]? =some v→us[i]? =some c→Rd w (fun _=>False) [] v c
def Nl (P:Program)(t:TypeId)(α:Type)(f:α→List V):Prop:=
 ∀(w:World) (H:Type) (enc:TypeId×Value→H) (sp:Nat→Bool) (held:Bool) (fuel:Nat) (cs:List Value) (x:DataW H×List MemPlace),
  DataW.trod enc P w 0 sp held fuel t cs=some x→∃a:α,bCa w cs (f a)
theorem bFm {w:World}{v:Value}{c:V}(h:Rd w (fun _=>False) [] v c):bCa w [v] [c]:=
 ⟨rfl,fun i v' c' h1 h2=>by
  cases i with
  |zero=>simp at h1 h2;subst h1;subst h2;exact h
  |succ i=>simp at h1⟩
theorem bHr {t:TypeId}(ht:P.underlying t=some (.int .u8)):Nl P t Int y8:=by
 intro w H enc sp held fuel cs x h
 obtain⟨n,rfl,_,hwf⟩:=DataW.trod_int ht h
 simp only[Lit.wf,Bool.and_eq_true,decide_eq_true_eq] at hwf
 exact⟨n,bFm (.int hwf.1 hwf.2)⟩
theorem choice {α:Type}{p:Nat→α→Prop}:∀(n:Nat),(∀i,i<n→∃a,p i a)→∃l:List α,l.length=n∧∀i a,l[i]? =some a→p i a
 |0,_=>⟨[],rfl,by simp⟩
 |n+1,h=>by
  obtain⟨l,h1,h2⟩:=choice n (fun i hi=>h i (by omega))
  obtain⟨a,ha⟩:=h n (by omega)
  refine⟨l++[a],by simp[h1],fun i b hb=> ?_⟩
  by_cases hi:i<n
  ·rw[List.getElem?_append_left (by omega)] at hb;exact h2 i b hb
  ·rw[List.getElem?_append_right (by omega)] at hb
   have:i=n:=by
    have:=(List.getElem?_eq_some_iff.1 hb).1
    simp at this;omega
   subst this
   simp[h1] at hb;subst hb;exact ha
theorem aYg {w:World}{a:Addr}{n:Nat}{cs:List Value}(h:w.cells? 0 a n=some cs):cs.length=n∧∀j v,cs[j]? =some v→w.cell? (a.add j)=some v:=by
 unfold World.cells? at h
 rw[if_pos (Nat.zero_le _)] at h
 have hl:cs.length=n:=by simpa using mapM_some_length h
 refine⟨hl,fun j v hv=> ?_⟩
 have hj:j<n:=by rw[←hl];exact(List.getElem?_eq_some_iff.1 hv).1
 rw[←hv]
 exact mapM_some_get h j j (by simp[hj])
theorem aYh {t e k:Nat}{α:Type}{f:α→List V}(ht:P.underlying t=some (.slice e))(hk:P.cellsOf e=k)(h0:0<k)(hf:∀a,(f a).length=k)(h:Nl P e α f):
  Nl P t (List α) (fun l=>[.slice k (l.map f)]):=by
 intro w H enc sp held fuel cs x hx
 rcases DataW.trod_slice ht hx with⟨rfl,_⟩|⟨a,len,cap,elems,rest,n,_,rfl,_,_,h3,h4,h5,h6,_,_⟩
 ·exact⟨[],bFm (.slice0 (Nat.zero_le _))⟩
 ·have hc:∀i,i<len→∃b:α,∃cs,w.cells? 0 (a.add (i*k)) k=some cs∧bCa w cs (f b):=by
   intro i hi
   have:=h6 i hi
   rw[hk,List.getElem?_eq_getElem (by omega)] at this
   obtain⟨cs,h7,h8⟩:=Option.bind_eq_some_iff.1 this
   obtain⟨b,hb⟩:=h w H enc sp held n cs _ h8
   exact⟨b,cs,h7,hb⟩
  obtain⟨l,hl,hp⟩:=choice len hc
  refine⟨l,bFm ?_⟩
  cases hlen:len with
  |zero=>
   have:l=[]:=List.eq_nil_of_length_eq_zero (by omega)
   subst this
   exact .slice0 h4
  |succ m=>
   have hget:∀(i:Nat) (e:List V),(l.map f)[i]? =some e→∃b,e=f b∧∃cs,w.cells? 0 (a.add (i*k)) k=some cs∧bCa w cs (f b):=by
    intro i e he
    rw[List.getElem?_map] at he
    obtain⟨b,hb,rfl⟩:=Option.map_eq_some_iff.1 he
    exact⟨b,rfl,hp i b hb⟩
   have hcell:∀(i j:Nat) (e:List V) (d:V),(l.map f)[i]? =some e→e[j]? =some d→∃v,w.cell? (a.add (i*k+j))=some v∧Rd w (fun _=>False) [] v d:=by
    intro i j e d he hd
    obtain⟨b,rfl,cs,h7,h8,h9⟩:=hget i e he
    obtain⟨c1,c2⟩:=aYg h7
    have hj:j<cs.length:=by rw[h8];exact(List.getElem?_eq_some_iff.1 hd).1
    have hv:cs[j]? =some cs[j]:=List.getElem?_eq_getElem hj
    refine⟨cs[j],?_,h9 j _ d hv hd⟩
    rw[←Addr.add_add];exact c2 j _ hv
   have hblock:a.block<w.heap.size:=by
    obtain⟨b,cs,h7,_⟩:=hc 0 (by omega)
    have:=World.cells?_block h7 h0
    rwa [show(a.add (0*k)).block=a.block by unfold Addr.add;split<;>rfl] at this
   refine .slice (val:=fun i j=>(w.cell? (a.add (i*k+j))).getD undef) (by simp[hl,hlen]) (by simp;omega) (by omega) h4 (fun h=>h) hblock
    (fun e he=>by obtain⟨b,_,rfl⟩:=List.mem_map.1 he;exact hf b) (fun i j e d he hd=> ?_) (fun i j e d he hd=> ?_)
   ·obtain⟨v,h7,_⟩:=hcell i j e d he hd
    rw[h7];rfl
   ·obtain⟨v,h7,h8⟩:=hcell i j e d he hd
    rw[h7];exact h8
theorem aVj {H:Type}{enc:TypeId×Value→H}{t e:TypeId}{α:Type}{g:α→V}(hd:Nl P t α (fun a=>[g a]))(ht:P.underlying t=some (.slice e)){W:World}{base:Nat}{sp:Nat→Bool}{held:Bool}{v:Value}{d:DataW H}{p:List MemPlace}
  (hv:Value.okWide P W .any base t v) (h:DataW.Trod enc P W 0 sp held t v d p):∃a,Rd W (fun _=>False) [] v (g a):=by
 obtain⟨b,len,cap,rfl⟩:=okWide_slice ht hv
 obtain⟨fuel,hf⟩:=h
 obtain⟨a,h1,h2⟩:=hd W H enc sp held fuel _ _ hf
 exact⟨a,h2 0 _ _ rfl rfl⟩
end Go.VK

namespace Go.VK
open Go.RowKit
def aD6 (sep:ByteArray)(l:List ByteArray):ByteArray:=⟨(Lib.join (l.map (·.data.toList)) sep.data.toList).toArray⟩
theorem bCb (sep x:ByteArray):aD6 sep [x]=x:=by
 unfold aD6;simp[Lib.join_one]
theorem bCc (sep y:ByteArray)(l:List ByteArray)(h:l≠[]):aD6 sep (l++[y])=aD6 sep l++sep++y:=by
 cases l with
 |nil=>exact absurd rfl h
 |cons x r=>
  unfold aD6
  apply ByteArray.ext
  simp only[List.cons_append,List.map_cons,Lib.join_cons,List.map_append,List.map_nil,Lib.joinTail,List.flatten_append,ByteArray.data_append]
  apply Array.toList_inj.1
  simp
theorem xJ (x:ByteArray):x.size=x.data.toList.length:=(Array.length_toList).symm
end Go.VK

namespace Go.VK
open Go.RowKit
def dI (p q:Int):Int:=if 1≤q∧q≤1000000000000 then p%q else 0
theorem aYi {p q:Int}(h:¬(1≤q∧q≤1000000000000)):dI p q=0:=if_neg h
theorem Df {p q:Int}(h:1≤q): -q<p.tmod q∧p.tmod q<q∧p%q=(p.tmod q)%q:=by
 have h1:p.tmod q+q*p.tdiv q=p:=Int.tmod_add_mul_tdiv p q
 refine⟨?_,?_,?_⟩
 ·have:=Int.lt_tmod_of_pos p (show 0<q by omega);exact this
 ·exact Int.tmod_lt_of_pos p (by omega)
 ·conv=>lhs;rw[←h1]
  exact Int.add_mul_emod_self_left _ _ _
theorem bFn {p q:Int}(h:1≤q∧q≤1000000000000)(ht:p.tmod q<0):dI p q=p.tmod q+q:=by
 obtain⟨h1,h2,h3⟩:=Df (p:=p) h.1
 rw[dI,if_pos h,h3,←Int.add_emod_right,Int.emod_eq_of_lt (by omega) (by omega)]
theorem bFo {p q:Int}(h:1≤q∧q≤1000000000000)(ht:¬p.tmod q<0):dI p q=p.tmod q:=by
 obtain⟨h1,h2,h3⟩:=Df (p:=p) h.1
 rw[dI,if_pos h,h3,Int.emod_eq_of_lt (by omega) (by omega)]
theorem bFp {p q:Int}(h:1≤q∧q≤1000000000000):(IntKind.i64.wrap (p.tmod q+q)).tmod q=dI p q:=by
 obtain⟨h1,h2,h3⟩:=Df (p:=p) h.1
 rw[aG (by omega) (by omega),Int.tmod_eq_emod_of_nonneg (by omega),Int.add_emod_right,dI,if_pos h,h3]
theorem qI {p q:Int}(h:1≤q∧q≤1000000000000):0≤dI p q∧dI p q<q:=by
 rw[dI,if_pos h];exact⟨Int.emod_nonneg _ (by omega),Int.emod_lt_of_pos _ (by omega)⟩
def hstep (h v:Int):Int:=(IntKind.i64.wrap (IntKind.i64.wrap (IntKind.i64.wrap (h*1000003)+dI v 2147483647)+13)).tmod 2147483647
def vF (l:List Int):Int:=l.foldl hstep 11
def bI (k:Int)(l:List Int):Int:=vF ([k]++[l,[k]].flatten)
end Go.VK

namespace Go.VK
open Go.RowKit
def bHs:GI where
 G _:=True
 st _ _ _ _:=trivial
variable {P:Program} {g:GI} {E:Env P g} {s:S}
theorem mn2 {x y:Operand}{k:IntKind}{a b:Int}{ats:Array TypeId}(hx:Ev E s x (.int k a))(hy:Ev E s y (.int k b)):xI E s (.call {callee:= .builtin .min,args:= #[x,y],argTypes:=ats}) (.int k (if b<a then b else a)):=fun β c w rl op ho=>by
 have h1:=(hx β c w rl).aAN
 have h2:=(hy β c w rl).aAN
 refine⟨.int k (if b<a then b else a),fun w' _=>by simp[execOp,ho,resolve,invoke,builtin,h1.1,h2.1,Builtin.min_,Builtin.min2],?_⟩
 split
 ·exact .int h2.2.1 h2.2.2
 ·exact .int h1.2.1 h1.2.2
theorem mx2 {x y:Operand}{k:IntKind}{a b:Int}{ats:Array TypeId}(hx:Ev E s x (.int k a))(hy:Ev E s y (.int k b)):xI E s (.call {callee:= .builtin .max,args:= #[x,y],argTypes:=ats}) (.int k (if b>a then b else a)):=fun β c w rl op ho=>by
 have h1:=(hx β c w rl).aAN
 have h2:=(hy β c w rl).aAN
 refine⟨.int k (if b>a then b else a),fun w' _=>by simp[execOp,ho,resolve,invoke,builtin,h1.1,h2.1,Builtin.max_,Builtin.max2],?_⟩
 split
 ·exact .int h2.2.1 h2.2.2
 ·exact .int h1.2.1 h1.2.2
def bY (z:ByteArray):List Int:=z.data.toList.map fun b=>(b.toNat:Int)
theorem aTw {d:Nat}{xs ys:Array Value}{w:World}:(Op.eqFields d xs ys []).run P w= .ok true w:=rfl
theorem aD7 {t off:Nat}{xs:Array Value}{a:Value}{w:World}(h1:Oi P t=true)(ha:xs[off]? =some a):(part t xs off).run P w= .ok a w:=by
 have h2:=(qH (w:=w) h1).1
 simp[part,h2,ha]
theorem aYj {d:Nat}{xs ys:Array Value}{w:World}{f:Field}{fs:List Field}{a b:Value}{r q:Bool}(hn:(f.name != "_")=true)(h1:Oi P f.type=true)(ha:xs[f.offset]? =some a)(hb:ys[f.offset]? =some b)
  (he:(Op.equalIn d f.type a b).run P w= .ok r w) (hq:(Op.eqFields d xs ys fs).run P w= .ok q w):(Op.eqFields d xs ys (f::fs)).run P w= .ok (r&&q) w:=by
 simp only[Op.eqFields]
 rw[if_pos (by simpa using hn)]
 simp only[Sem.run_bind,aD7 h1 ha,aD7 h1 hb,Result.andThen_ok,he]
 cases r with
 |false=>simp
 |true=>simpa using hq
end Go.VK

namespace Go.VK
open Go.RowKit
section
variable {α β σ τ:Type}
def gd (c:Prop)[Decidable c](x:Option α):Option α:=if c then x else none
def bd (x:Option α)(f:α→Option β):Option β:=match x with|none=>none|some a=>f a
def nx (x:Option (α⊕β))(f:β→Option α):Option α:=match x with|none=>none|some (.inl a)=>some a|some (.inr b)=>f b
def nk (q:α⊕β)(f:β→Option α)(o:α):Prop:=match q with| .inl a=>a=o| .inr b=>f b=some o
def bA (l:List α)(i:Int):Option α:=if 0≤i then l[i.toNat]? else none
def aS (a b:List α):Prop:=a.length+b.length≤68719476736
instance (a b:List α):Decidable (aS a b):=inferInstanceAs (Decidable (_≤_))
theorem aTx:∃n:Nat,2^70≤n:=⟨_,Nat.le_refl _⟩
noncomputable def FUEL:Nat:=Classical.choose aTx
theorem gY:1180591620717411303424≤FUEL:=Classical.choose_spec aTx
theorem jA {c:Prop}[Decidable c]{x:Option α}{r:α}(h:gd c x=some r):c∧x=some r:=by
 unfold gd at h;split at h
 ·exact⟨‹_›,h⟩
 ·cases h
theorem gZ {x:Option α}{f:α→Option β}{r:β}(h:bd x f=some r):∃a,x=some a∧f a=some r:=by
 cases x with
 |none=>cases h
 |some a=>exact⟨a,rfl,h⟩
theorem bCd {x:Option (α⊕β)}{f:β→Option α}{o:α}(h:nx x f=some o):∃q,x=some q∧nk q f o:=by
 match x,h with
 |some (.inl a),h=>exact⟨_,rfl,Option.some.inj h⟩
 |some (.inr b),h=>exact⟨_,rfl,h⟩
theorem b1 {q:β}{f:β→Option α}{o:α}{b:β}(h:some b=some q)(hq:f q=some o):f b=some o:=by cases h;exact hq
theorem Hr {l:List α}{i:Int}{x:α}(h:bA l i=some x):0≤i∧l[i.toNat]? =some x:=by
 unfold bA at h;split at h
 ·exact⟨‹_›,h⟩
 ·cases h
end
variable {P:Program} {g:GI} {E:Env P g} {s:S}
variable {N:S→Prop} {X:Nat→S→Prop} {R:S→Prop}
section
variable {σ τ:Type} {o:τ}
end
mutual
inductive Nz:V→V→Prop
 |r {U:V}:Nz U U
 |n {k:Nat}:Nz .nil (.slice k [])
 |a {cs ds:List V} (h:NzL cs ds):Nz (.agg cs) (.agg ds)
inductive NzL:List V→List V→Prop
 |n:NzL [] []
 |c {x y:V} {xs ys:List V} (h:Nz x y) (hr:NzL xs ys):NzL (x::xs) (y::ys)
end
mutual
theorem Nz.rd {w:World}{Y:Nat→Prop}{β:List Tr}:∀{U U':V},Nz U U'→∀{v:Value},Rd w Y β v U→Rd w Y β v U'
 |_,_, .r,_,h=>h
 |_,_, .n,_,h=>by rw[h.aBH];exact .slice0 (Nat.zero_le _)
 |_,_, .a hl,_,h=>by
  obtain⟨vs,rfl,h2,h3⟩:=h.aBA
  have hh:=NzL.rd (w:=w) (Y:=Y) (β:=β) hl
  exact .agg (h2.trans hh.1) (fun i v d h5 h6=>hh.2 i v d h6 (fun c hc=>h3 i v c h5 hc))
theorem NzL.rd {w:World}{Y:Nat→Prop}{β:List Tr}:∀{cs ds:List V},NzL cs ds→cs.length=ds.length∧∀(i:Nat) (v:Value) (d:V),ds[i]? =some d→(∀c,cs[i]? =some c→Rd w Y β v c)→Rd w Y β v d
 |_,_, .n=>⟨rfl,by simp⟩
 |_,_, .c h hr=>by
  have ih:=NzL.rd (w:=w) (Y:=Y) (β:=β) hr
  refine⟨by simp[ih.1],fun i v d h5 h6=> ?_⟩
  cases i with
  |zero=>simp at h5;subst h5;exact h.rd (h6 _ rfl)
  |succ i=>exact ih.2 i v d (by simpa using h5) (fun c hc=>h6 c (by simpa using hc))
end
theorem nz {x:Operand}{U U':V}(h:Ev E s x U)(c:Nz U U'):Ev E s x U':=fun β a w r=>c.rd (h β a w r)
section
variable {α:Type} {l:List α} {f:α→List V} {c:α} {m:Int}
theorem ixq {x y:Operand}{t e k b:Nat}{kk:IntKind}(hm:bA l m=some c)(ht:slB P t e k b=true)(hx:Ev E s x (.slice k (l.map f)))(hy:Ev E s y (.int kk m)):xI E s (.indexAddr t x y) (.elem (f c)):=
 ixm ht (Hr hm).1 (Hr hm).2 hx hy
def bFq (n:Int):Prop:=0≤n∧n≤68719476736
instance (n:Int):Decidable (bFq n):=inferInstanceAs (Decidable (_∧_))
def nT (l:List α)(n:Int):Prop:=0≤n∧n.toNat≤l.length
instance (l:List α) (n:Int):Decidable (nT l n):=inferInstanceAs (Decidable (_∧_))
theorem Rd.sub {w:World}{Y:Nat→Prop}{β:List Tr}{A:Option Addr}{n c k a b:Nat}{es:List (List V)}(hr:Rd w Y β (.slice A n c) (.slice k es))(hab:a≤b)(hb:b≤es.length):
  Rd w Y β (.slice (if c=a then A else A.map fun q=>q.add (a*k)) (b-a) (c-a)) (.slice k ((es.take b).drop a)):=by
 have hlen:((es.take b).drop a).length=b-a:=by simp;omega
 rcases Nat.eq_zero_or_pos (b-a) with h0|h0
 ·have:(es.take b).drop a=[]:=List.eq_nil_of_length_eq_zero (by omega)
  rw[this,h0]
  obtain⟨A',c',h1,h2,h3⟩:=hr.aBD
  injection h1 with h1 h4 h5
  exact .slice0 (by omega)
 ·cases hr with
  |slice0=>simp at hb;omega
  | @slice _ ad _ _ _ _ val hn hpos hc hm hX hblk hk hcell hrd=>
   rw[if_neg (by omega)]
   have hget:∀(i:Nat) (e:List V),((es.take b).drop a)[i]? =some e→es[a+i]? =some e:=by
    intro i e h
    rw[List.getElem?_drop,List.getElem?_take] at h
    split at h
    ·exact h
    ·cases h
   refine .slice (val:=fun i j=>val (a+i) j) hlen.symm (by omega) (by omega) (by omega) (by rw[add_block];exact hX) (by rw[add_block];exact hblk) (fun e he=>hk e (List.mem_of_mem_take (List.mem_of_mem_drop he))) (fun i j e d h1 h2=> ?_) (fun i j e d h1 h2=>hrd _ j e d (hget i e h1) h2)
   rw[add_add',show a*k+(i*k+j)=(a+i)*k+j by rw[Nat.add_mul];omega]
   exact hcell _ j e d (hget i e h1) h2
def lD (k:IntKind)(x y:Int):Int:=k.wrap ((BitVec.ofInt k.bits x&&&BitVec.ofInt k.bits y).toNat:Nat)
def orI (k:IntKind)(x y:Int):Int:=k.wrap ((BitVec.ofInt k.bits x|||BitVec.ofInt k.bits y).toNat:Nat)
def aOk (k:IntKind)(x y:Int):Int:=k.wrap ((BitVec.ofInt k.bits x^^^BitVec.ofInt k.bits y).toNat:Nat)
def Ww (k:IntKind)(x y:Int):Int:=k.wrap (x*2^(min y.toNat k.bits))
def zL (k:IntKind)(x y:Int):Int:=x.fdiv (2^(min y.toNat k.bits))
theorem bFr {x y:Operand}{k:IntKind}{m n:Int}{t u:TypeId}(hx:Ev E s x (.int k m))(hy:Ev E s y (.int k n)):xI E s (.binOp .and t x y u) (.int k (lD k m n)):=fun β a w r o ho=>
 ⟨_,fun w' _=>by simp[execOp,ho,(hx β a w r).aAN.1,(hy β a w r).aAN.1,eqGuard_at_int,binOp_and,Op.intBits,lD], .int (cK _ _).1 (cK _ _).2⟩
theorem bHt {x y:Operand}{k:IntKind}{m n:Int}{t u:TypeId}(hx:Ev E s x (.int k m))(hy:Ev E s y (.int k n)):xI E s (.binOp .or t x y u) (.int k (orI k m n)):=fun β a w r o ho=>
 ⟨_,fun w' _=>by simp[execOp,ho,(hx β a w r).aAN.1,(hy β a w r).aAN.1,eqGuard_at_int,binOp_or,Op.intBits,orI], .int (cK _ _).1 (cK _ _).2⟩
theorem bFs {x y:Operand}{k:IntKind}{m n:Int}{t u:TypeId}(hx:Ev E s x (.int k m))(hy:Ev E s y (.int k n)):xI E s (.binOp .xor t x y u) (.int k (aOk k m n)):=fun β a w r o ho=>
 ⟨_,fun w' _=>by simp[execOp,ho,(hx β a w r).aAN.1,(hy β a w r).aAN.1,eqGuard_at_int,binOp_xor,Op.intBits,aOk], .int (cK _ _).1 (cK _ _).2⟩
theorem bJe {x y:Operand}{k j:IntKind}{m n:Int}{t u:TypeId}(h0:0≤n)(hx:Ev E s x (.int k m))(hy:Ev E s y (.int j n)):xI E s (.binOp .shl t x y u) (.int k (Ww k m n)):=fun β a w r o ho=>
 ⟨_,fun w' _=>by simp[execOp,ho,(hx β a w r).aAN.1,(hy β a w r).aAN.1,eqGuard_at_int,binOp_shl,Op.shift,Ww,show ¬n<0 by omega], .int (cK _ _).1 (cK _ _).2⟩
theorem bJf {x y:Operand}{k j:IntKind}{m n:Int}{t u:TypeId}(h0:0≤n)(hx:Ev E s x (.int k m))(hy:Ev E s y (.int j n)):xI E s (.binOp .shr t x y u) (.int k (zL k m n)):=fun β a w r o ho=>
 have hm:=(hx β a w r).aAN
 have hd:(0:Int)<2^(min n.toNat k.bits):=Int.pow_pos (by decide)
 have hk0:k.min≤0:=by cases k<;>decide
 have hk1:0≤k.max:=by cases k<;>decide
 ⟨.int k (zL k m n),fun w' _=>by simp[execOp,ho,(hx β a w r).aAN.1,(hy β a w r).aAN.1,eqGuard_at_int,binOp_shr,Op.shift,zL,show ¬n<0 by omega],by
  unfold zL
  rw[Int.fdiv_eq_ediv_of_nonneg _ (Int.le_of_lt hd)]
  refine .int ?_ ?_
  ·rcases Int.le_total 0 m with h|h
   ·exact Int.le_trans hk0 (Int.ediv_nonneg h (Int.le_of_lt hd))
   ·refine Int.le_trans hm.2.1 ?_
    rw[Int.le_ediv_iff_mul_le hd]
    have h1:(1:Int)≤2^(min n.toNat k.bits):=hd
    have:=Int.mul_le_mul_of_nonpos_left h h1
    simpa using this
  ·rcases Int.le_total 0 m with h|h
   ·exact Int.le_trans (Int.ediv_le_self _ h) hm.2.2
   ·refine Int.le_trans ?_ hk1
    exact Int.ediv_le_of_le_mul hd (by simpa using h)⟩
theorem aVk {w:World}{Y:Nat→Prop}{β:List Tr}{v:Value}{U:V}(h:Rd w Y β v U)(h1:lV U.parts=true):v.cells.size=U.parts.length∧∀(j:Nat) (u:Value) (c:V),v.cells[j]? =some u→U.parts[j]? =some c→Rd w Y β u c:=by
 by_cases hA:∃cs,U= .agg cs
 ·obtain⟨cs,rfl⟩:=hA
  obtain⟨vs,rfl,k2,k3⟩:=h.aBA
  exact⟨k2,fun j u c h5 h6=>k3 j u c h5 h6⟩
 ·have hU:U.parts=[U]:=by cases U<;>first|rfl|exact absurd ⟨_,rfl⟩ hA
  rw[hU] at h1 ⊢
  have ho:U.one=true:=by simpa[lV] using h1
  rw[Nk (h.one ho)]
  refine⟨rfl,fun j u c h5 h6=> ?_⟩
  cases j with
  |zero=>simp at h5 h6;subst h5;subst h6;exact h
  |succ j=>simp at h5
inductive BP (E:Env P g) (s:S) (pls:List (Nat×Nat)):List (Nat×Operand)→List V→List V→Prop
 |n {cs:List V}:BP E s pls [] cs cs
 |c {i:Nat} {x:Operand} {U:V} {xs:List (Nat×Operand)} {cs cs1 ds:List V} {off sz:Nat} (h:Ev E s x U) (hpl:At pls i (off,sz)) (hsz:U.parts.length=sz) (h1:lV U.parts=true) (hsp:Sp cs off U.parts cs1) (hr:BP E s pls xs cs1 ds):BP E s pls ((i,x)::xs) cs ds
theorem BP.spec {pls:List (Nat×Nat)}{xs:List (Nat×Operand)}{cs ds:List V}(h:BP E s pls xs cs ds){β:List Tr}{a:Act}{w:World}(r:RelB E s β a w):
  ∀cells:Array Value,cells.size=cs.length→(∀(j:Nat) (v:Value) (c:V),cells[j]? =some v→cs[j]? =some c→Rd w (E.X β) β v c)→
  ∃res,Instr.fill (fun i=>pls.toArray[i]?) cells (xs.map fun(i,x)=>(i,a.eval x))=some res∧res.size=ds.length∧∀(j:Nat) (v:Value) (c:V),res[j]? =some v→ds[j]? =some c→Rd w (E.X β) β v c:=by
 induction h with
 |n=>exact fun cells h1 h2=>⟨cells,rfl,h1,h2⟩
 | @c i x U xs cs cs1 ds off sz h hpl hsz h1 hsp hr ih=>
  intro cells hs hrd
  have hp:=aVk (h β a w r) h1
  obtain⟨p1,p2,p3⟩:=hsp.spec
  have hf:=Wv off (a.eval x).cells.toList 0 cells (by simp[hp.1];omega)
  obtain⟨res,r1,r2,r3⟩:=ih ((((a.eval x).cells.toList.zipIdx 0).foldl (fun cs (cc,j)=>cs.setIfInBounds (off+j) cc) cells)) (by rw[hf.1,hs,p2]) (fun j v cc h5 h6=>by
   rw[hf.2] at h5
   rw[p3] at h6
   simp only[Nat.add_zero,Array.length_toList,hp.1] at h5
   split at h5
   ·rename_i hj;rw[if_pos hj] at h6;exact hp.2 _ v cc (by simpa using h5) h6
   ·rename_i hj;rw[if_neg hj] at h6;exact hrd j v cc h5 h6)
  refine⟨res,?_,r2,r3⟩
  simp only[List.map_cons,Instr.fill]
  have hg:pls.toArray[i]? =some (off,sz):=by simpa using hpl.get
  rw[hg]
  simp only
  rw[if_neg (by simp[hp.1,hsz,hs];omega)]
  rw[←Array.foldl_toList,Array.toList_zipIdx]
  exact r1
def aM1 (P:Program):List Field→Option (List (Nat×Nat))
 |[]=>some []
 |f::fs=>match P.info? f.type,aM1 P fs with|some i,some l=>some ((f.offset,i.size)::l)|_,_=>none
def aD8 (P:Program)(t:TypeId):Option (List (Nat×Nat)):=match P.underlying t with|some (.struct fs)=>aM1 P fs.toList|_=>none
theorem aD9 {w:World}:∀{fs:List Field} {l:List (Nat×Nat)},aM1 P fs=some l→(fs.mapM fun f=>(Prod.mk f.offset<$>sizeOf f.type:Sem (Nat×Nat))).run P w= .ok l w
 |[],l,h=>by simp[aM1] at h;subst h;rfl
 |f::fs,l,h=>by
  simp only[aM1] at h
  cases hi:P.info? f.type with
  |none=>simp[hi] at h
  |some i=>
   cases hl:aM1 P fs with
   |none=>simp[hi,hl] at h
   |some l'=>
    simp[hi,hl] at h
    subst h
    have ih:=aD9 (w:=w) hl
    simp only[List.mapM_cons,Sem.run_bind]
    have e:(sizeOf f.type).run P w= .ok i.size w:=by simp[sizeOf,typeInfo,hi]
    simp only[Sem.run_map,e,Result.andThen_ok,Sem.run_pure,ih]
theorem bld {t:TypeId}{xs:List (Nat×Operand)}{pls:List (Nat×Nat)}{zs ds:List V}(hz:aDi P t=some zs)(hp:aD8 P t=some pls)(hb:BP E s pls xs zs ds):xI E s (.build t xs.toArray) (.agg ds):=fun β a w r o ho=>by
 obtain⟨i,z,hi,hz',hzs⟩:=Ws hz
 have hzr:=aMy (w:=w) (X:=E.X β) (β:=β) hzs
 obtain⟨res,r1,r2,r3⟩:=hb.spec r z.cells (by simpa using hzr.1) (fun j v c h5 h6=>(hzr.2 j v c (by simpa using h5) h6).1)
 refine⟨.agg res,fun w' _=> ?_, .agg r2 r3⟩
 unfold aD8 at hp
 cases hu:P.underlying t with
 |none=>simp[hu] at hp
 |some d=>
  cases d<;>simp[hu] at hp
  rename_i fs
  have hm:=aD9 (w:=w') hp
  have hm':(fs.mapM fun f=>(Prod.mk f.offset<$>sizeOf f.type:Sem (Nat×Nat))).run P w'= .ok pls.toArray w':=by
   rw[←Array.toArray_toList (xs:=fs),List.mapM_toArray]
   simp only[Sem.run_map,hm,Result.andThen_ok]
   try rfl
  have e1:((xs.toArray.map fun(x:Nat×Operand)=>(x.1,a.eval x.2))).toList=xs.map fun(i,x)=>(i,a.eval x):=by simp
  simp[execOp,ho,Instr.build,zeroValue,typeInfo,hi,hz',run_underlying hu,hm']
  have r1':Instr.fill (fun i=>pls[i]?) z.cells (xs.map fun x=>(x.1,a.eval x.2))=some res:=by simpa using r1
  simp[r1']
def aYk (P:Program)(t f ft off:Nat):Bool:=match P.underlying t with|some (.struct fs)=>(match fs[f]? with|some fd=>fd.type==ft&&fd.offset==off|none=>false)|_=>false
theorem bCe {t f ft off:Nat}{w:World}{vs:Array Value}(h:aYk P t f ft off=true):(Instr.field t (.agg vs) f).run P w=(part ft vs off).run P w:=by
 unfold aYk at h
 cases hu:P.underlying t with
 |none=>simp[hu] at h
 |some d=>
  cases d<;>simp[hu] at h
  rename_i fs
  cases hf:fs[f]? with
  |none=>simp[hf] at h
  |some fd=>
   simp[hf] at h
   obtain⟨rfl,rfl⟩:=h
   simp[Instr.field,run_underlying hu,hf,asAgg]
theorem bFt {z:ByteArray}{n:Nat}{c:Int}(h:(bY z)[n]? =some c):∃b,z[n]? =some b∧c=(b.toNat:Int):=by
 unfold bY at h
 rw[List.getElem?_map] at h
 obtain⟨b,hb,rfl⟩:=Option.map_eq_some_iff.1 h
 refine⟨b,?_,rfl⟩
 obtain⟨hlt,hb⟩:=List.getElem?_eq_some_iff.1 hb
 have hlt':n<z.size:=by rw[Array.length_toList] at hlt;exact hlt
 rw[getElem?_pos z n hlt']
 rw[←hb];rfl
theorem bJg {x y:Operand}{t:TypeId}{z:ByteArray}{kk:IntKind}{m c:Int}(hm:bA (bY z) m=some c)(ht:P.underlying t=some .string)(hx:Ev E s x (.str z))(hy:Ev E s y (.int kk m)):xI E s (.index t x y) (.int .u8 c):=fun β a w r o ho=>by
 obtain⟨h0,h1⟩:=Hr hm
 obtain⟨b,hb,rfl⟩:=bFt h1
 have hlt:=b.toNat_lt
 refine⟨_,fun w' _=> ?_, .int (Int.natCast_nonneg _) (show((b.toNat:Nat):Int)≤255 by omega)⟩
 simp[execOp,ho,(hx β a w r).aAW.1,(hy β a w r).aAN.1,Instr.index,asIntOf,run_underlying ht,h0,hb]
def tL (z:ByteArray)(l h:Int):Prop:=0≤l∧l≤h∧h≤(z.size:Int)
instance (z:ByteArray) (l h:Int):Decidable (tL z l h):=inferInstanceAs (Decidable (_∧_))
theorem ext_size (z:ByteArray)(l h:Nat):(z.extract l h).size≤z.size:=by
 rw[ByteArray.size_extract];omega
theorem bJh {x y q:Operand}{t:TypeId}{z:ByteArray}{kk jj:IntKind}{m n:Int}(hm:tL z m n)(ht:P.underlying t=some .string)(hx:Ev E s x (.str z))(hy:Ev E s y (.int kk m))(hq:Ev E s q (.int jj n)):xI E s (.slice t x (some y) (some q) none) (.str (z.extract m.toNat n.toNat)):=fun β a w r o ho=>by
 obtain⟨h0,h1,h2⟩:=hm
 obtain⟨g1,g2⟩:=(hx β a w r).aAW
 refine⟨_,fun w' _=> ?_, .str (Nat.le_trans (ext_size z m.toNat n.toNat) g2)⟩
 have e1:(0≤n∧n≤(z.size:Int)):=⟨by omega,h2⟩
 have e2:(0≤m∧m≤((n.toNat:Nat):Int)):=⟨h0,by omega⟩
 simp[execOp,ho,g1,(hy β a w r).aAN.1,(hq β a w r).aAN.1,Instr.sliceAt,Instr.slice,run_underlying ht,Instr.sliceBounds,Instr.sliceBound,asIntOf,e1,e2]
 try (intro hh;exfalso;omega)
theorem bJi {x q:Operand}{t:TypeId}{z:ByteArray}{jj:IntKind}{n:Int}(hm:tL z 0 n)(ht:P.underlying t=some .string)(hx:Ev E s x (.str z))(hq:Ev E s q (.int jj n)):xI E s (.slice t x none (some q) none) (.str (z.extract 0 n.toNat)):=fun β a w r o ho=>by
 obtain⟨h0,h1,h2⟩:=hm
 obtain⟨g1,g2⟩:=(hx β a w r).aAW
 refine⟨_,fun w' _=> ?_, .str (Nat.le_trans (ext_size z 0 n.toNat) g2)⟩
 have e1:(0≤n∧n≤(z.size:Int)):=⟨by omega,h2⟩
 simp[execOp,ho,g1,(hq β a w r).aAN.1,Instr.sliceAt,Instr.slice,run_underlying ht,Instr.sliceBounds,Instr.sliceBound,asIntOf,e1]
theorem bJj {x y:Operand}{t:TypeId}{z:ByteArray}{kk:IntKind}{m:Int}(hm:tL z m z.size)(ht:P.underlying t=some .string)(hx:Ev E s x (.str z))(hy:Ev E s y (.int kk m)):xI E s (.slice t x (some y) none none) (.str (z.extract m.toNat z.size)):=fun β a w r o ho=>by
 obtain⟨h0,h1,h2⟩:=hm
 obtain⟨g1,g2⟩:=(hx β a w r).aAW
 refine⟨_,fun w' _=> ?_, .str (Nat.le_trans (ext_size z m.toNat z.size) g2)⟩
 have e2:(0≤m∧m≤(z.size:Int)):=⟨h0,h1⟩
 simp[execOp,ho,g1,(hy β a w r).aAN.1,Instr.sliceAt,Instr.slice,run_underlying ht,Instr.sliceBounds,Instr.sliceBound,asIntOf,e2]
section
variable {F:S→Prop}
variable {a0:Option Nat}
end
end
end Go.VK

namespace Go.VK
section
variable {α β σ τ:Type}
@[simp] theorem bd_s {a:α} {f:α→Option β}:bd (some a) f=f a:=rfl
@[simp] theorem bd_n {f:α→Option β}:bd none f=none:=rfl
@[simp] theorem nx_l {a:α} {f:β→Option α}:nx (some (.inl a)) f=some a:=rfl
@[simp] theorem nx_r {b:β} {f:β→Option α}:nx (some (.inr b)) f=f b:=rfl
@[simp] theorem nx_n {f:β→Option α}:nx none f=none:=rfl
theorem aB {c:Prop}[Decidable c]{x:Option α}(h:c):gd c x=x:=if_pos h
@[simp] theorem gd_T {x:Option α}:gd True x=x:=rfl
theorem aYl {b:Bool}{x y:Option α}{f:α→Option β}:bd (bif b then x else y) f=bif b then bd x f else bd y f:=by cases b<;>rfl
@[simp] theorem bd_bb {b:Bool} {x y:α} {f:α→Option β}:bd (bif b then some x else some y) f=f (bif b then x else y):=by cases b<;>rfl
@[simp] theorem bif_and {a b:Bool}:(bif a then b else false)=(a&&b):=by cases a<;>rfl
@[simp] theorem bif_or {a b:Bool}:(bif a then true else b)=(a||b):=by cases a<;>rfl
@[simp] theorem bif_some {a:Bool} {x y:α}:(bif a then some x else some y)=some (bif a then x else y):=by cases a<;>rfl
theorem bJ4 {x:Option α}:bd x (fun a=>some a)=x:=by cases x<;>rfl
theorem aM {l:List α}{i:Nat}(h:i<l.length):bA l (i:Int)=some l[i]:=by
 unfold bA;rw[if_pos (Int.natCast_nonneg _),Int.toNat_natCast,List.getElem?_eq_getElem h]
theorem mP {l:List α}{i:Int}(h0:0≤i)(h:i.toNat<l.length):bA l i=some l[i.toNat]:=by
 unfold bA;rw[if_pos h0,List.getElem?_eq_getElem h]
def bJk (step:Nat→α→Option τ→Option τ)(fin:Option τ):Nat→List α→Option τ
 |_,[]=>fin
 |i,x::xs=>step i x (bJk step fin (i+1) xs)
def gP (p:α→Bool):Nat→List α→Int
 |_,[]=> -1
 |i,x::xs=>bif p x then(i:Int) else gP p (i+1) xs
theorem aEa {p:α→Bool}:∀{i:Nat} {l:List α},0≤gP p i l→(i:Int)≤gP p i l∧gP p i l<i+l.length
 |i,[],h=>by simp[gP] at h
 |i,x::xs,h=>by
  simp only[gP] at h ⊢
  cases hp:p x with
  |true=>simp;omega
  |false=>
   rw[hp] at h
   have:=aEa (i:=i+1) (l:=xs) (by simpa using h)
   simp only[List.length_cons,cond_false]
   omega
def gB (p:Nat→α→Bool):Nat→List α→Bool
 |_,[]=>false
 |i,x::xs=>p i x||gB p (i+1) xs
theorem Dh {p:α→Bool}:∀{l:List α} {s:List α},l.foldl (fun s x=>bif p x then s++[x] else s) s=s++l.filter p
 |[],s=>by simp
 |x::xs,s=>by
  simp only[List.foldl_cons,List.filter_cons]
  cases p x<;>simp[Dh]
def Oj (y:Nat→α→List β):Nat→List α→List β
 |_,[]=>[]
 |i,x::xs=>y i x++Oj y (i+1) xs
end
end Go.VK
