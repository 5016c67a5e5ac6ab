import Derived.Test.YtefkjglmpmakcaaGreatDoorVKatop
import Derived.Lib.ConvBytes
import Derived.Laws.AppendOwn
import Derived.Laws.StructEq
import Derived.Lib.Split
/-
  THE VALUE KIT, thirteenth part: what the printed models go by: elements by number, slicing, min and max. Theorems over any program.
-/
set_option linter.unusedVariables false
namespace Go.VK
open Go.RowKit
variable {P:Program} {g:GI} {E:Env P g} {s:S}
theorem mn2 {x y:Operand}{k:IntKind}{a b:Int}{ats:Array TypeId}(hx:Ev E s x (.int k a))(hy:Ev E s y (.int k b)):xC E s (.call {callee:= .builtin .min,args:= #[x,y],argTypes:=ats}) (.int k (if b<a then b else a)):=fun β c w rl op ho=>by
 have h1:=(hx β c w rl).aAN
 have h2:=(hy β c w rl).aAN
 refine⟨.int k (if b<a then b else a),fun w' _=>by simp[execOp,ho,resolve,invoke,builtin,h1.1,h2.1,Builtin.min_,Builtin.min2],?_⟩
 split
 ·exact .int h2.2.1 h2.2.2
 ·exact .int h1.2.1 h1.2.2
theorem mx2 {x y:Operand}{k:IntKind}{a b:Int}{ats:Array TypeId}(hx:Ev E s x (.int k a))(hy:Ev E s y (.int k b)):xC E s (.call {callee:= .builtin .max,args:= #[x,y],argTypes:=ats}) (.int k (if b>a then b else a)):=fun β c w rl op ho=>by
 have h1:=(hx β c w rl).aAN
 have h2:=(hy β c w rl).aAN
 refine⟨.int k (if b>a then b else a),fun w' _=>by simp[execOp,ho,resolve,invoke,builtin,h1.1,h2.1,Builtin.max_,Builtin.max2],?_⟩
 split
 ·exact .int h2.2.1 h2.2.2
 ·exact .int h1.2.1 h1.2.2
def bQ (z:ByteArray):List Int:=z.data.toList.map fun b=>(b.toNat:Int)
def V.val:V→Value
 | .int k n=> .int k n
 | .bool b=> .bool b
 | .str z=> .string z
 |_=>undef
theorem bDq {d:Nat}{xs ys:Array Value}{w:World}:(Op.eqFields d xs ys []).run P w= .ok true w:=rfl
theorem F6 {t off:Nat}{xs:Array Value}{a:Value}{w:World}(h1:Kc P t=true)(ha:xs[off]? =some a):(part t xs off).run P w= .ok a w:=by
 have h2:=(pW (w:=w) h1).1
 simp[part,h2,ha]
theorem bBg {d:Nat}{xs ys:Array Value}{w:World}{f:Field}{fs:List Field}{a b:Value}{r q:Bool}(hn:(f.name != "_")=true)(h1:Kc P f.type=true)(ha:xs[f.offset]? =some a)(hb:ys[f.offset]? =some b)
  (he:(Op.equalIn d f.type a b).run P w= .ok r w) (hq:(Op.eqFields d xs ys fs).run P w= .ok q w):(Op.eqFields d xs ys (f::fs)).run P w= .ok (r&&q) w:=by
 simp only[Op.eqFields]
 rw[if_pos (by simpa using hn)]
 simp only[Sem.run_bind,F6 h1 ha,F6 h1 hb,Result.andThen_ok,he]
 cases r with
 |false=>simp
 |true=>simpa using hq
end Go.VK

set_option linter.unusedSimpArgs false
namespace Go.VK
open Go.RowKit
section
variable {α β σ τ:Type}
def gd (c:Prop)[Decidable c](x:Option α):Option α:=if c then x else none
def bd (x:Option α)(f:α→Option β):Option β:=match x with|none=>none|some a=>f a
def nx (x:Option (α⊕β))(f:β→Option α):Option α:=match x with|none=>none|some (.inl a)=>some a|some (.inr b)=>f b
def nk (q:α⊕β)(f:β→Option α)(o:α):Prop:=match q with| .inl a=>a=o| .inr b=>f b=some o
def aT (l:List α)(i:Int):Option α:=if 0≤i then l[i.toNat]? else none
def bD (a b:List α):Prop:=a.length+b.length≤68719476736
instance (a b:List α):Decidable (bD a b):=inferInstanceAs (Decidable (_≤_))
theorem aYe:∃n:Nat,2^70≤n:=⟨_,Nat.le_refl _⟩
noncomputable def FUEL:Nat:=Classical.choose aYe
theorem gU:1180591620717411303424≤FUEL:=Classical.choose_spec aYe
theorem iX {c:Prop}[Decidable c]{x:Option α}{r:α}(h:gd c x=some r):c∧x=some r:=by
 unfold gd at h;split at h
 ·exact⟨‹_›,h⟩
 ·cases h
theorem iY {x:Option α}{f:α→Option β}{r:β}(h:bd x f=some r):∃a,x=some a∧f a=some r:=by
 cases x with
 |none=>cases h
 |some a=>exact⟨a,rfl,h⟩
theorem bDr {x:Option (α⊕β)}{f:β→Option α}{o:α}(h:nx x f=some o):∃q,x=some q∧nk q f o:=by
 match x,h with
 |some (.inl a),h=>exact⟨_,rfl,Option.some.inj h⟩
 |some (.inr b),h=>exact⟨_,rfl,h⟩
theorem b1 {q:β}{f:β→Option α}{o:α}{b:β}(h:some b=some q)(hq:f q=some o):f b=some o:=by cases h;exact hq
theorem Kg {l:List α}{i:Int}{x:α}(h:aT l i=some x):0≤i∧l[i.toNat]? =some x:=by
 unfold aT at h;split at h
 ·exact⟨‹_›,h⟩
 ·cases h
end
variable {P:Program} {g:GI} {E:Env P g} {s:S}
variable {N:S→Prop} {X:Nat→S→Prop} {R:S→Prop}
section
variable {σ τ:Type} {o:τ}
end
mutual
inductive Nz:V→V→Prop
 |r {U:V}:Nz U U
 |n {k:Nat}:Nz .nil (.slice k [])
 |a {cs ds:List V} (h:NzL cs ds):Nz (.agg cs) (.agg ds)
inductive NzL:List V→List V→Prop
 |n:NzL [] []
 |c {x y:V} {xs ys:List V} (h:Nz x y) (hr:NzL xs ys):NzL (x::xs) (y::ys)
end
mutual
theorem Nz.rd {w:World}{Y:Nat→Prop}{β:List Tr}:∀{U U':V},Nz U U'→∀{v:Value},Rd w Y β v U→Rd w Y β v U'
 |_,_, .r,_,h=>h
 |_,_, .n,_,h=>by rw[h.aBC];exact .slice0 (Nat.zero_le _)
 |_,_, .a hl,_,h=>by
  obtain⟨vs,rfl,h2,h3⟩:=h.aAX
  have hh:=NzL.rd (w:=w) (Y:=Y) (β:=β) hl
  exact .agg (h2.trans hh.1) (fun i v d h5 h6=>hh.2 i v d h6 (fun c hc=>h3 i v c h5 hc))
theorem NzL.rd {w:World}{Y:Nat→Prop}{β:List Tr}:∀{cs ds:List V},NzL cs ds→cs.length=ds.length∧∀(i:Nat) (v:Value) (d:V),ds[i]? =some d→(∀c,cs[i]? =some c→Rd w Y β v c)→Rd w Y β v d
 |_,_, .n=>⟨rfl,by simp⟩
 |_,_, .c h hr=>by
  have ih:=NzL.rd (w:=w) (Y:=Y) (β:=β) hr
  refine⟨by simp[ih.1],fun i v d h5 h6=> ?_⟩
  cases i with
  |zero=>simp at h5;subst h5;exact h.rd (h6 _ rfl)
  |succ i=>exact ih.2 i v d (by simpa using h5) (fun c hc=>h6 c (by simpa using hc))
end
section
variable {α:Type} {l:List α} {f:α→List V} {c:α} {m:Int}
theorem ixq {x y:Operand}{t e k b:Nat}{kk:IntKind}(hm:aT l m=some c)(ht:slB P t e k b=true)(hx:Ev E s x (.slice k (l.map f)))(hy:Ev E s y (.int kk m)):xC E s (.indexAddr t x y) (.elem (f c)):=
 ixm ht (Kg hm).1 (Kg hm).2 hx hy
def bBh (n:Int):Prop:=0≤n∧n≤68719476736
instance (n:Int):Decidable (bBh n):=inferInstanceAs (Decidable (_∧_))
def jN (l:List α)(n:Int):Prop:=0≤n∧n.toNat≤l.length
instance (l:List α) (n:Int):Decidable (jN l n):=inferInstanceAs (Decidable (_∧_))
theorem Rd.sub {w:World}{Y:Nat→Prop}{β:List Tr}{A:Option Addr}{n c k a b:Nat}{es:List (List V)}(hr:Rd w Y β (.slice A n c) (.slice k es))(hab:a≤b)(hb:b≤es.length):
  Rd w Y β (.slice (if c=a then A else A.map fun q=>q.add (a*k)) (b-a) (c-a)) (.slice k ((es.take b).drop a)):=by
 have hlen:((es.take b).drop a).length=b-a:=by simp;omega
 rcases Nat.eq_zero_or_pos (b-a) with h0|h0
 ·have:(es.take b).drop a=[]:=List.eq_nil_of_length_eq_zero (by omega)
  rw[this,h0]
  obtain⟨A',c',h1,h2,h3⟩:=hr.aBA
  injection h1 with h1 h4 h5
  exact .slice0 (by omega)
 ·cases hr with
  |slice0=>simp at hb;omega
  | @slice _ ad _ _ _ _ val hn hpos hc hm hX hblk hk hcell hrd=>
   rw[if_neg (by omega)]
   have hget:∀(i:Nat) (e:List V),((es.take b).drop a)[i]? =some e→es[a+i]? =some e:=by
    intro i e h
    rw[List.getElem?_drop,List.getElem?_take] at h
    split at h
    ·exact h
    ·cases h
   refine .slice (val:=fun i j=>val (a+i) j) hlen.symm (by omega) (by omega) (by omega) (by rw[add_block];exact hX) (by rw[add_block];exact hblk) (fun e he=>hk e (List.mem_of_mem_take (List.mem_of_mem_drop he))) (fun i j e d h1 h2=> ?_) (fun i j e d h1 h2=>hrd _ j e d (hget i e h1) h2)
   rw[add_add',show a*k+(i*k+j)=(a+i)*k+j by rw[Nat.add_mul];omega]
   exact hcell _ j e d (hget i e h1) h2
def tJ (k:IntKind)(x y:Int):Int:=k.wrap ((BitVec.ofInt k.bits x&&&BitVec.ofInt k.bits y).toNat:Nat)
def orI (k:IntKind)(x y:Int):Int:=k.wrap ((BitVec.ofInt k.bits x|||BitVec.ofInt k.bits y).toNat:Nat)
def aZq (k:IntKind)(x y:Int):Int:=k.wrap ((BitVec.ofInt k.bits x^^^BitVec.ofInt k.bits y).toNat:Nat)
def F7 (k:IntKind)(x y:Int):Int:=k.wrap (x*2^(min y.toNat k.bits))
def Uo (k:IntKind)(x y:Int):Int:=x.fdiv (2^(min y.toNat k.bits))
theorem bGh {x y:Operand}{k:IntKind}{m n:Int}{t u:TypeId}(hx:Ev E s x (.int k m))(hy:Ev E s y (.int k n)):xC E s (.binOp .and t x y u) (.int k (tJ k m n)):=fun β a w r o ho=>
 ⟨_,fun w' _=>by simp[execOp,ho,(hx β a w r).aAN.1,(hy β a w r).aAN.1,eqGuard_at_int,binOp_and,Op.intBits,tJ], .int (dP _ _).1 (dP _ _).2⟩
theorem bHx {x y:Operand}{k:IntKind}{m n:Int}{t u:TypeId}(hx:Ev E s x (.int k m))(hy:Ev E s y (.int k n)):xC E s (.binOp .or t x y u) (.int k (orI k m n)):=fun β a w r o ho=>
 ⟨_,fun w' _=>by simp[execOp,ho,(hx β a w r).aAN.1,(hy β a w r).aAN.1,eqGuard_at_int,binOp_or,Op.intBits,orI], .int (dP _ _).1 (dP _ _).2⟩
theorem bGi {x y:Operand}{k:IntKind}{m n:Int}{t u:TypeId}(hx:Ev E s x (.int k m))(hy:Ev E s y (.int k n)):xC E s (.binOp .xor t x y u) (.int k (aZq k m n)):=fun β a w r o ho=>
 ⟨_,fun w' _=>by simp[execOp,ho,(hx β a w r).aAN.1,(hy β a w r).aAN.1,eqGuard_at_int,binOp_xor,Op.intBits,aZq], .int (dP _ _).1 (dP _ _).2⟩
theorem bI6 {x y:Operand}{k j:IntKind}{m n:Int}{t u:TypeId}(h0:0≤n)(hx:Ev E s x (.int k m))(hy:Ev E s y (.int j n)):xC E s (.binOp .shl t x y u) (.int k (F7 k m n)):=fun β a w r o ho=>
 ⟨_,fun w' _=>by simp[execOp,ho,(hx β a w r).aAN.1,(hy β a w r).aAN.1,eqGuard_at_int,binOp_shl,Op.shift,F7,show ¬n<0 by omega], .int (dP _ _).1 (dP _ _).2⟩
theorem bI7 {x y:Operand}{k j:IntKind}{m n:Int}{t u:TypeId}(h0:0≤n)(hx:Ev E s x (.int k m))(hy:Ev E s y (.int j n)):xC E s (.binOp .shr t x y u) (.int k (Uo k m n)):=fun β a w r o ho=>
 have hm:=(hx β a w r).aAN
 have hd:(0:Int)<2^(min n.toNat k.bits):=Int.pow_pos (by decide)
 have hk0:k.min≤0:=by cases k<;>decide
 have hk1:0≤k.max:=by cases k<;>decide
 ⟨.int k (Uo k m n),fun w' _=>by simp[execOp,ho,(hx β a w r).aAN.1,(hy β a w r).aAN.1,eqGuard_at_int,binOp_shr,Op.shift,Uo,show ¬n<0 by omega],by
  unfold Uo
  rw[Int.fdiv_eq_ediv_of_nonneg _ (Int.le_of_lt hd)]
  refine .int ?_ ?_
  ·rcases Int.le_total 0 m with h|h
   ·exact Int.le_trans hk0 (Int.ediv_nonneg h (Int.le_of_lt hd))
   ·refine Int.le_trans hm.2.1 ?_
    rw[Int.le_ediv_iff_mul_le hd]
    have h1:(1:Int)≤2^(min n.toNat k.bits):=hd
    have:=Int.mul_le_mul_of_nonpos_left h h1
    simpa using this
  ·rcases Int.le_total 0 m with h|h
   ·exact Int.le_trans (Int.ediv_le_self _ h) hm.2.2
   ·refine Int.le_trans ?_ hk1
    exact Int.ediv_le_of_le_mul hd (by simpa using h)⟩
theorem aZr {w:World}{Y:Nat→Prop}{β:List Tr}{v:Value}{U:V}(h:Rd w Y β v U)(h1:eU U.parts=true):v.cells.size=U.parts.length∧∀(j:Nat) (u:Value) (c:V),v.cells[j]? =some u→U.parts[j]? =some c→Rd w Y β u c:=by
 by_cases hA:∃cs,U= .agg cs
 ·obtain⟨cs,rfl⟩:=hA
  obtain⟨vs,rfl,k2,k3⟩:=h.aAX
  exact⟨k2,fun j u c h5 h6=>k3 j u c h5 h6⟩
 ·have hU:U.parts=[U]:=by cases U<;>first|rfl|exact absurd ⟨_,rfl⟩ hA
  rw[hU] at h1 ⊢
  have ho:U.one=true:=by simpa[eU] using h1
  rw[Ph (h.one ho)]
  refine⟨rfl,fun j u c h5 h6=> ?_⟩
  cases j with
  |zero=>simp at h5 h6;subst h5;subst h6;exact h
  |succ j=>simp at h5
inductive BP (E:Env P g) (s:S) (pls:List (Nat×Nat)):List (Nat×Operand)→List V→List V→Prop
 |n {cs:List V}:BP E s pls [] cs cs
 |c {i:Nat} {x:Operand} {U:V} {xs:List (Nat×Operand)} {cs cs1 ds:List V} {off sz:Nat} (h:Ev E s x U) (hpl:At pls i (off,sz)) (hsz:U.parts.length=sz) (h1:eU U.parts=true) (hsp:Sp cs off U.parts cs1) (hr:BP E s pls xs cs1 ds):BP E s pls ((i,x)::xs) cs ds
theorem BP.spec {pls:List (Nat×Nat)}{xs:List (Nat×Operand)}{cs ds:List V}(h:BP E s pls xs cs ds){β:List Tr}{a:Act}{w:World}(r:RelB E s β a w):
  ∀cells:Array Value,cells.size=cs.length→(∀(j:Nat) (v:Value) (c:V),cells[j]? =some v→cs[j]? =some c→Rd w (E.X β) β v c)→
  ∃res,Instr.fill (fun i=>pls.toArray[i]?) cells (xs.map fun(i,x)=>(i,a.eval x))=some res∧res.size=ds.length∧∀(j:Nat) (v:Value) (c:V),res[j]? =some v→ds[j]? =some c→Rd w (E.X β) β v c:=by
 induction h with
 |n=>exact fun cells h1 h2=>⟨cells,rfl,h1,h2⟩
 | @c i x U xs cs cs1 ds off sz h hpl hsz h1 hsp hr ih=>
  intro cells hs hrd
  have hp:=aZr (h β a w r) h1
  obtain⟨p1,p2,p3⟩:=hsp.spec
  have hf:=F4 off (a.eval x).cells.toList 0 cells (by simp[hp.1];omega)
  obtain⟨res,r1,r2,r3⟩:=ih ((((a.eval x).cells.toList.zipIdx 0).foldl (fun cs (cc,j)=>cs.setIfInBounds (off+j) cc) cells)) (by rw[hf.1,hs,p2]) (fun j v cc h5 h6=>by
   rw[hf.2] at h5
   rw[p3] at h6
   simp only[Nat.add_zero,Array.length_toList,hp.1] at h5
   split at h5
   ·rename_i hj;rw[if_pos hj] at h6;exact hp.2 _ v cc (by simpa using h5) h6
   ·rename_i hj;rw[if_neg hj] at h6;exact hrd j v cc h5 h6)
  refine⟨res,?_,r2,r3⟩
  simp only[List.map_cons,Instr.fill]
  have hg:pls.toArray[i]? =some (off,sz):=by simpa using hpl.get
  rw[hg]
  simp only
  rw[if_neg (by simp[hp.1,hsz,hs];omega)]
  rw[←Array.foldl_toList,Array.toList_zipIdx]
  exact r1
def aR8 (P:Program):List Field→Option (List (Nat×Nat))
 |[]=>some []
 |f::fs=>match P.info? f.type,aR8 P fs with|some i,some l=>some ((f.offset,i.size)::l)|_,_=>none
def aJ3 (P:Program)(t:TypeId):Option (List (Nat×Nat)):=match P.underlying t with|some (.struct fs)=>aR8 P fs.toList|_=>none
theorem aJ4 {w:World}:∀{fs:List Field} {l:List (Nat×Nat)},aR8 P fs=some l→(fs.mapM fun f=>(Prod.mk f.offset<$>sizeOf f.type:Sem (Nat×Nat))).run P w= .ok l w
 |[],l,h=>by simp[aR8] at h;subst h;rfl
 |f::fs,l,h=>by
  simp only[aR8] at h
  cases hi:P.info? f.type with
  |none=>simp[hi] at h
  |some i=>
   cases hl:aR8 P fs with
   |none=>simp[hi,hl] at h
   |some l'=>
    simp[hi,hl] at h
    subst h
    have ih:=aJ4 (w:=w) hl
    simp only[List.mapM_cons,Sem.run_bind]
    have e:(sizeOf f.type).run P w= .ok i.size w:=by simp[sizeOf,typeInfo,hi]
    simp only[Sem.run_map,e,Result.andThen_ok,Sem.run_pure,ih]
theorem bld {t:TypeId}{xs:List (Nat×Operand)}{pls:List (Nat×Nat)}{zs ds:List V}(hz:aJh P t=some zs)(hp:aJ3 P t=some pls)(hb:BP E s pls xs zs ds):xC E s (.build t xs.toArray) (.agg ds):=fun β a w r o ho=>by
 obtain⟨i,z,hi,hz',hzs⟩:=E8 hz
 have hzr:=aR6 (w:=w) (X:=E.X β) (β:=β) hzs
 obtain⟨res,r1,r2,r3⟩:=hb.spec r z.cells (by simpa using hzr.1) (fun j v c h5 h6=>(hzr.2 j v c (by simpa using h5) h6).1)
 refine⟨.agg res,fun w' _=> ?_, .agg r2 r3⟩
 unfold aJ3 at hp
 cases hu:P.underlying t with
 |none=>simp[hu] at hp
 |some d=>
  cases d<;>simp[hu] at hp
  rename_i fs
  have hm:=aJ4 (w:=w') hp
  have hm':(fs.mapM fun f=>(Prod.mk f.offset<$>sizeOf f.type:Sem (Nat×Nat))).run P w'= .ok pls.toArray w':=by
   rw[←Array.toArray_toList (xs:=fs),List.mapM_toArray]
   simp only[Sem.run_map,hm,Result.andThen_ok]
   try rfl
  have e1:((xs.toArray.map fun(x:Nat×Operand)=>(x.1,a.eval x.2))).toList=xs.map fun(i,x)=>(i,a.eval x):=by simp
  simp[execOp,ho,Instr.build,zeroValue,typeInfo,hi,hz',run_underlying hu,hm']
  have r1':Instr.fill (fun i=>pls[i]?) z.cells (xs.map fun x=>(x.1,a.eval x.2))=some res:=by simpa using r1
  simp[r1']
def aZs (P:Program)(t f ft off:Nat):Bool:=match P.underlying t with|some (.struct fs)=>(match fs[f]? with|some fd=>fd.type==ft&&fd.offset==off|none=>false)|_=>false
theorem aYf {t f ft off:Nat}{w:World}{vs:Array Value}(h:aZs P t f ft off=true):(Instr.field t (.agg vs) f).run P w=(part ft vs off).run P w:=by
 unfold aZs at h
 cases hu:P.underlying t with
 |none=>simp[hu] at h
 |some d=>
  cases d<;>simp[hu] at h
  rename_i fs
  cases hf:fs[f]? with
  |none=>simp[hf] at h
  |some fd=>
   simp[hf] at h
   obtain⟨rfl,rfl⟩:=h
   simp[Instr.field,run_underlying hu,hf,asAgg]
theorem fld1 {x:Operand}{t f ft off:Nat}{cs:List V}{U:V}(hf:aZs P t f ft off=true)(ht:Kc P ft=true)(hc:At cs off U)(hx:Ev E s x (.agg cs)):xC E s (.field t x f) U:=fun β a w r o ho=>by
 obtain⟨vs,h1,h2,h3⟩:=(hx β a w r).aAX
 have hlt:off<vs.size:=by rw[h2];exact(List.getElem?_eq_some_iff.1 hc.get).1
 refine⟨vs[off],fun w' _=> ?_,h3 off _ U (Array.getElem?_eq_getElem hlt) hc.get⟩
 simp[execOp,ho,h1,aYf hf,F6 (w:=w') ht (Array.getElem?_eq_getElem hlt)]
theorem bGj {z:ByteArray}{n:Nat}{c:Int}(h:(bQ z)[n]? =some c):∃b,z[n]? =some b∧c=(b.toNat:Int):=by
 unfold bQ at h
 rw[List.getElem?_map] at h
 obtain⟨b,hb,rfl⟩:=Option.map_eq_some_iff.1 h
 refine⟨b,?_,rfl⟩
 obtain⟨hlt,hb⟩:=List.getElem?_eq_some_iff.1 hb
 have hlt':n<z.size:=by rw[Array.length_toList] at hlt;exact hlt
 rw[getElem?_pos z n hlt']
 rw[←hb];rfl
theorem bI8 {x y:Operand}{t:TypeId}{z:ByteArray}{kk:IntKind}{m c:Int}(hm:aT (bQ z) m=some c)(ht:P.underlying t=some .string)(hx:Ev E s x (.str z))(hy:Ev E s y (.int kk m)):xC E s (.index t x y) (.int .u8 c):=fun β a w r o ho=>by
 obtain⟨h0,h1⟩:=Kg hm
 obtain⟨b,hb,rfl⟩:=bGj h1
 have hlt:=b.toNat_lt
 refine⟨_,fun w' _=> ?_, .int (Int.natCast_nonneg _) (show((b.toNat:Nat):Int)≤255 by omega)⟩
 simp[execOp,ho,(hx β a w r).aAR.1,(hy β a w r).aAN.1,Instr.index,asIntOf,run_underlying ht,h0,hb]
def Tf (z:ByteArray)(l h:Int):Prop:=0≤l∧l≤h∧h≤(z.size:Int)
instance (z:ByteArray) (l h:Int):Decidable (Tf z l h):=inferInstanceAs (Decidable (_∧_))
theorem ext_size (z:ByteArray)(l h:Nat):(z.extract l h).size≤z.size:=by
 rw[ByteArray.size_extract];omega
theorem bI9 {x y q:Operand}{t:TypeId}{z:ByteArray}{kk jj:IntKind}{m n:Int}(hm:Tf z m n)(ht:P.underlying t=some .string)(hx:Ev E s x (.str z))(hy:Ev E s y (.int kk m))(hq:Ev E s q (.int jj n)):xC E s (.slice t x (some y) (some q) none) (.str (z.extract m.toNat n.toNat)):=fun β a w r o ho=>by
 obtain⟨h0,h1,h2⟩:=hm
 obtain⟨g1,g2⟩:=(hx β a w r).aAR
 refine⟨_,fun w' _=> ?_, .str (Nat.le_trans (ext_size z m.toNat n.toNat) g2)⟩
 have e1:(0≤n∧n≤(z.size:Int)):=⟨by omega,h2⟩
 have e2:(0≤m∧m≤((n.toNat:Nat):Int)):=⟨h0,by omega⟩
 simp[execOp,ho,g1,(hy β a w r).aAN.1,(hq β a w r).aAN.1,Instr.sliceAt,Instr.slice,run_underlying ht,Instr.sliceBounds,Instr.sliceBound,asIntOf,e1,e2]
 try (intro hh;exfalso;omega)
theorem bJa {x q:Operand}{t:TypeId}{z:ByteArray}{jj:IntKind}{n:Int}(hm:Tf z 0 n)(ht:P.underlying t=some .string)(hx:Ev E s x (.str z))(hq:Ev E s q (.int jj n)):xC E s (.slice t x none (some q) none) (.str (z.extract 0 n.toNat)):=fun β a w r o ho=>by
 obtain⟨h0,h1,h2⟩:=hm
 obtain⟨g1,g2⟩:=(hx β a w r).aAR
 refine⟨_,fun w' _=> ?_, .str (Nat.le_trans (ext_size z 0 n.toNat) g2)⟩
 have e1:(0≤n∧n≤(z.size:Int)):=⟨by omega,h2⟩
 simp[execOp,ho,g1,(hq β a w r).aAN.1,Instr.sliceAt,Instr.slice,run_underlying ht,Instr.sliceBounds,Instr.sliceBound,asIntOf,e1]
theorem bJb {x y:Operand}{t:TypeId}{z:ByteArray}{kk:IntKind}{m:Int}(hm:Tf z m z.size)(ht:P.underlying t=some .string)(hx:Ev E s x (.str z))(hy:Ev E s y (.int kk m)):xC E s (.slice t x (some y) none none) (.str (z.extract m.toNat z.size)):=fun β a w r o ho=>by
 obtain⟨h0,h1,h2⟩:=hm
 obtain⟨g1,g2⟩:=(hx β a w r).aAR
 refine⟨_,fun w' _=> ?_, .str (Nat.le_trans (ext_size z m.toNat z.size) g2)⟩
 have e2:(0≤m∧m≤(z.size:Int)):=⟨h0,h1⟩
 simp[execOp,ho,g1,(hy β a w r).aAN.1,Instr.sliceAt,Instr.slice,run_underlying ht,Instr.sliceBounds,Instr.sliceBound,asIntOf,e2]
section
variable {F:S→Prop}
variable {a0:Option Nat}
end
end
end Go.VK

namespace Go.VK
section
variable {α β σ τ:Type}
@[simp] theorem bd_s {a:α} {f:α→Option β}:bd (some a) f=f a:=rfl
@[simp] theorem bd_n {f:α→Option β}:bd none f=none:=rfl
@[simp] theorem nx_l {a:α} {f:β→Option α}:nx (some (.inl a)) f=some a:=rfl
@[simp] theorem nx_r {b:β} {f:β→Option α}:nx (some (.inr b)) f=f b:=rfl
@[simp] theorem nx_n {f:β→Option α}:nx none f=none:=rfl
theorem aB {c:Prop}[Decidable c]{x:Option α}(h:c):gd c x=x:=if_pos h
@[simp] theorem gd_T {x:Option α}:gd True x=x:=rfl
theorem bJc {b:Bool}{x y:Option α}{f:α→Option β}:bd (bif b then x else y) f=bif b then bd x f else bd y f:=by cases b<;>rfl
@[simp] theorem bd_bb {b:Bool} {x y:α} {f:α→Option β}:bd (bif b then some x else some y) f=f (bif b then x else y):=by cases b<;>rfl
@[simp] theorem bif_and {a b:Bool}:(bif a then b else false)=(a&&b):=by cases a<;>rfl
@[simp] theorem bif_or {a b:Bool}:(bif a then true else b)=(a||b):=by cases a<;>rfl
@[simp] theorem bif_some {a:Bool} {x y:α}:(bif a then some x else some y)=some (bif a then x else y):=by cases a<;>rfl
theorem bJp {x:Option α}:bd x (fun a=>some a)=x:=by cases x<;>rfl
theorem aF {l:List α}{i:Nat}(h:i<l.length):aT l (i:Int)=some l[i]:=by
 unfold aT;rw[if_pos (Int.natCast_nonneg _),Int.toNat_natCast,List.getElem?_eq_getElem h]
theorem F8 {l:List α}{i:Int}(h0:0≤i)(h:i.toNat<l.length):aT l i=some l[i.toNat]:=by
 unfold aT;rw[if_pos h0,List.getElem?_eq_getElem h]
def kD (p:α→Bool):Nat→List α→Int
 |_,[]=> -1
 |i,x::xs=>bif p x then(i:Int) else kD p (i+1) xs
theorem aJ5 {p:α→Bool}:∀{i:Nat} {l:List α},0≤kD p i l→(i:Int)≤kD p i l∧kD p i l<i+l.length
 |i,[],h=>by simp[kD] at h
 |i,x::xs,h=>by
  simp only[kD] at h ⊢
  cases hp:p x with
  |true=>simp;omega
  |false=>
   rw[hp] at h
   have:=aJ5 (i:=i+1) (l:=xs) (by simpa using h)
   simp only[List.length_cons,cond_false]
   omega
def mK (p:Nat→α→Bool):Nat→List α→Bool
 |_,[]=>false
 |i,x::xs=>p i x||mK p (i+1) xs
theorem Dp {p:α→Bool}:∀{l:List α} {s:List α},l.foldl (fun s x=>bif p x then s++[x] else s) s=s++l.filter p
 |[],s=>by simp
 |x::xs,s=>by
  simp only[List.foldl_cons,List.filter_cons]
  cases p x<;>simp[Dp]
def Ps (y:Nat→α→List β):Nat→List α→List β
 |_,[]=>[]
 |i,x::xs=>y i x++Ps y (i+1) xs
end
def jE (z sep:ByteArray):List ByteArray:=Lib.splitB sep 0 (Lib.countB z sep) z
theorem VLs.x2 {ρ:List Nat}{so:List Ob}{u0 u1:V}{xs ys:List V}(h:VLs ρ so xs ys):VLs ρ so (u0::u1::xs) (.any:: .any::ys):= .c .a (.c .a h)
theorem VLs.x4 {ρ:List Nat}{so:List Ob}{u0 u1 u2 u3:V}{xs ys:List V}(h:VLs ρ so xs ys):VLs ρ so (u0::u1::u2::u3::xs) (.any:: .any:: .any:: .any::ys):= .x2 (.x2 h)
end Go.VK
