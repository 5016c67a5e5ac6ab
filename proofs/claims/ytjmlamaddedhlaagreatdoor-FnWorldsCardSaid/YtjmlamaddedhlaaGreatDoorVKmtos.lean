import Derived.Test.YtjmlamaddedhlaaGreatDoorVKatoj
import Derived.Lib.Join
import Derived.Lib.ConvBytes
import Derived.Laws.AppendOwn
import Derived.Laws.StructEq
import Derived.Lib.Split
/-
  THE VALUE KIT, eleventh part: joined strings, appended rows. Plain theorems.
-/
set_option linter.all false
namespace Go.VK
open Go.RowKit
def lY (sep:ByteArray)(l:List ByteArray):ByteArray:=⟨(Lib.join (l.map (·.data.toList)) sep.data.toList).toArray⟩
def bCl (sep x:ByteArray):lY sep [x]=x:=by
 unfold lY;simp[Lib.join_one]
def bCm (sep y:ByteArray)(l:List ByteArray)(h:l≠[]):lY sep (l++[y])=lY sep l++sep++y:=by
 cases l with
 |nil=>exact absurd rfl h
 |cons x r=>
  unfold lY
  apply ByteArray.ext
  simp only[cz,bj,Lib.join_cons,cQ,ey,Lib.joinTail,dr,ByteArray.data_append]
  apply Array.toList_inj.1
  simp
def pK (x:ByteArray):x.size=x.data.toList.length:=(cm).symm
def aWp {P:Program}{g:GI}{F:FuncId}(hE:∀args w,(callFunc F args).run P w= .ok (.enter F args) w)
  (hJ:∀(bk o c:Nat) (xs:List ByteArray) (sep:ByteArray) (w:World),(∀(j:Nat) x,xs[j]? =some x->w.cell? ⟨bk,o+j,none⟩=some (.string x))->bk<w.heap.size->xs.length<=140737488355328->xs.length<=c->(Lib.join (xs.map (·.data.toList)) sep.data.toList).length<=140737488355328->
   Calls P F #[.slice (some ⟨bk,o,none⟩) xs.length c, .string sep] w λe w'=>e= .returned (.string ⟨(Lib.join (xs.map (·.data.toList)) sep.data.toList).toArray⟩)/\Below w.heap.size w w')
  (l:List ByteArray) (sep:ByteArray) (h0:l≠[]) (hsz:(lY sep l).size<=140737488355328) (hln:l.length<=140737488355328):Spec P g F [.slice 1 (l.map sV), .str sep] (λr=>r= .str (lY sep l)):=by
 refine⟨hE,λw X0 vs hG hX0 hvs=> ?_⟩
 obtain⟨v,u,rfl⟩:∃v u,vs=[v,u]:=by
  match vs,hvs.1 with
  |[v,u],_=>exact⟨v,u,rfl⟩
 have hu:=(hvs.2 1 u _ rfl rfl).aAR
 obtain⟨rfl,hu2⟩:=hu
 have hv:=hvs.2 0 v _ rfl rfl
 generalize hes:l.map sV=es at hv
 cases hv with
 |slice0 h=>exact absurd (List.map_eq_nil_iff.1 hes) h0
 | @slice _ a n c k es val hn hpos hc hm hX hb hk hcell hrd=>
  subst hes
  simp only[bc] at hn
  subst hn
  have hcs:∀(j:Nat) x,l[j]? =some x->w.cell? (a.add j)=some (.string x):=by
   intro j x hx
   have e1:(l.map sV)[j]? =some [V.str x]:=by simp[hx,sV]
   have e2:=hcell j 0 _ _ e1 rfl
   obtain⟨e3,_⟩:=(hrd j 0 _ _ e1 rfl).aAR
   rw[e3] at e2
   simpa using e2
  obtain⟨b,o,sp⟩:=a
  have hsp:sp=none:=by
   cases l with
   |nil=>exact absurd rfl h0
   |cons x r=>
    have:=hcs 0 x rfl
    rw[show(⟨b,o,sp⟩:Addr).add 0=⟨b,o,sp⟩ by simp[Addr.add]] at this
    exact Proofs.cell_spot this
  subst hsp
  refine(hJ b o c l sep w (λj x hx=> ?_) hb hln hc (by rw[pK] at hsz;exact hsz)).mono ?_
  ·rw[<-hcs j x hx];congr 1;unfold Addr.add;split<;>simp_all
  ·rintro e w' ⟨rfl,hbel⟩
   exact⟨_,_,rfl,rfl, .str (by unfold maxLen;unfold lY at hsz;omega),hbel⟩
end Go.VK

namespace Go.VK
open Go.RowKit
def dW (p q:Int):Int:=if 1<=q/\q<=1000000000000 then p%q else 0
def aYw {p q:Int}(h:¬(1<=q/\q<=1000000000000)):dW p q=0:=cJ h
def Bf {p q:Int}(h:1<=q): -q<p.tmod q/\p.tmod q<q/\p%q=(p.tmod q)%q:=by
 have h1:p.tmod q+q*p.tdiv q=p:=Int.tmod_add_mul_tdiv p q
 refine⟨?_,?_,?_⟩
 ·have:=Int.lt_tmod_of_pos p (show 0<q by omega);exact this
 ·exact eL p (by omega)
 ·conv=>lhs;rw[<-h1]
  exact Int.add_mul_emod_self_left _ _ _
def bGe {p q:Int}(h:1<=q/\q<=1000000000000)(ht:p.tmod q<0):dW p q=p.tmod q+q:=by
 obtain⟨h1,h2,h3⟩:=Bf (p:=p) h.1
 rw[dW,cr h,h3,<-Int.add_emod_right,Int.emod_eq_of_lt (by omega) (by omega)]
def bGf {p q:Int}(h:1<=q/\q<=1000000000000)(ht:¬p.tmod q<0):dW p q=p.tmod q:=by
 obtain⟨h1,h2,h3⟩:=Bf (p:=p) h.1
 rw[dW,cr h,h3,Int.emod_eq_of_lt (by omega) (by omega)]
def bGg {p q:Int}(h:1<=q/\q<=1000000000000):(IntKind.i64.wrap (p.tmod q+q)).tmod q=dW p q:=by
 obtain⟨h1,h2,h3⟩:=Bf (p:=p) h.1
 rw[aH (by omega) (by omega),cb (by omega),Int.add_emod_right,dW,cr h,h3]
def lN {p q:Int}(h:1<=q/\q<=1000000000000):0<=dW p q/\dW p q<q:=by
 rw[dW,cr h];exact⟨iS _ (by omega),ib _ (by omega)⟩
def hstep (h v:Int):Int:=(IntKind.i64.wrap (IntKind.i64.wrap (IntKind.i64.wrap (h*1000003)+dW v 2147483647)+13)).tmod 2147483647
def qI (l:List Int):Int:=l.foldl hstep 11
def aX (k:Int)(l:List Int):Int:=qI ([k]++[l,[k]].flatten)
end Go.VK

namespace Go.VK
open Go.RowKit
variable {P:Program} {g:GI} {E:Env P g} {s:S}
def mn2 {x y:Operand}{k:IntKind}{a b:Int}{ats:Array TypeId}(hx:Ev E s x (.int k a))(hy:Ev E s y (.int k b)):vN E s (.call {callee:= .builtin .min,args:= #[x,y],argTypes:=ats}) (.int k (if b<a then b else a)):=λβ c w rl op ho=>by
 have h1:=(hx β c w rl).aAK
 have h2:=(hy β c w rl).aAK
 refine⟨.int k (if b<a then b else a),λw' _=>by simp[execOp,ho,resolve,invoke,builtin,h1.1,h2.1,Builtin.min_,Builtin.min2],?_⟩
 split
 ·exact .int h2.2.1 h2.2.2
 ·exact .int h1.2.1 h1.2.2
def mx2 {x y:Operand}{k:IntKind}{a b:Int}{ats:Array TypeId}(hx:Ev E s x (.int k a))(hy:Ev E s y (.int k b)):vN E s (.call {callee:= .builtin .max,args:= #[x,y],argTypes:=ats}) (.int k (if b>a then b else a)):=λβ c w rl op ho=>by
 have h1:=(hx β c w rl).aAK
 have h2:=(hy β c w rl).aAK
 refine⟨.int k (if b>a then b else a),λw' _=>by simp[execOp,ho,resolve,invoke,builtin,h1.1,h2.1,Builtin.max_,Builtin.max2],?_⟩
 split
 ·exact .int h2.2.1 h2.2.2
 ·exact .int h1.2.1 h1.2.2
def bI (z:ByteArray):List Int:=z.data.toList.map λb=>(b.toNat:Int)
def aUs {d:Nat}{xs ys:Array Value}{w:World}:(Op.eqFields d xs ys []).run P w= .ok true w:=rfl
def Xe {t off:Nat}{xs:Array Value}{a:Value}{w:World}(h1:Gr P t=true)(ha:xs[off]? =some a):(part t xs off).run P w= .ok a w:=by
 have h2:=(oD (w:=w) h1).1
 simp[part,h2,ha]
def aYx {d:Nat}{xs ys:Array Value}{w:World}{f:Field}{fs:List Field}{a b:Value}{r q:Bool}(hn:(f.name != "_")=true)(h1:Gr P f.type=true)(ha:xs[f.offset]? =some a)(hb:ys[f.offset]? =some b)
  (he:(Op.equalIn d f.type a b).run P w= .ok r w) (hq:(Op.eqFields d xs ys fs).run P w= .ok q w):(Op.eqFields d xs ys (f::fs)).run P w= .ok (r&&q) w:=by
 simp only[Op.eqFields]
 rw[cr (by simpa using hn)]
 simp only[Sem.run_bind,Xe h1 ha,Xe h1 hb,Result.andThen_ok,he]
 cases r with
 |false=>simp
 |true=>simpa using hq
end Go.VK

namespace Go.VK
open Go.RowKit
section
variable {α β σ τ:Type}
def gd (c:Prop)[Decidable c](x:Option α):Option α:=if c then x else none
def bd (x:Option α)(f:α->Option β):Option β:=match x with|none=>none|some a=>f a
def nx (x:Option (α⊕β))(f:β->Option α):Option α:=match x with|none=>none|some (.inl a)=>some a|some (.inr b)=>f b
def nk (q:α⊕β)(f:β->Option α)(o:α):Prop:=match q with| .inl a=>a=o| .inr b=>f b=some o
def aZ (l:List α)(i:Int):Option α:=if 0<=i then l[i.toNat]? else none
def aS (a b:List α):Prop:=a.length+b.length<=68719476736
instance (a b:List α):Decidable (aS a b):=inferInstanceAs (Decidable (_<=_))
def aUt:∃n:Nat,2^70<=n:=⟨_,ak _⟩
noncomputable def FUEL:Nat:=Classical.choose aUt
def fP:1180591620717411303424<=FUEL:=Classical.choose_spec aUt
def iJ {c:Prop}[Decidable c]{x:Option α}{r:α}(h:gd c x=some r):c/\x=some r:=by
 unfold gd at h;split at h
 ·exact⟨‹_›,h⟩
 ·cases h
def gM {x:Option α}{f:α->Option β}{r:β}(h:bd x f=some r):∃a,x=some a/\f a=some r:=by
 cases x with
 |none=>cases h
 |some a=>exact⟨a,rfl,h⟩
def bCn {x:Option (α⊕β)}{f:β->Option α}{o:α}(h:nx x f=some o):∃q,x=some q/\nk q f o:=by
 match x,h with
 |some (.inl a),h=>exact⟨_,rfl,aj h⟩
 |some (.inr b),h=>exact⟨_,rfl,h⟩
def b1 {q:β}{f:β->Option α}{o:α}{b:β}(h:some b=some q)(hq:f q=some o):f b=some o:=by cases h;exact hq
def Gt {l:List α}{i:Int}{x:α}(h:aZ l i=some x):0<=i/\l[i.toNat]? =some x:=by
 unfold aZ at h;split at h
 ·exact⟨‹_›,h⟩
 ·cases h
end
variable {P:Program} {g:GI} {E:Env P g} {s:S}
variable {N:S->Prop} {X:Nat->S->Prop} {R:S->Prop}
section
variable {σ τ:Type} {o:τ}
end
mutual
inductive Nz:V->V->Prop
 |r {U:V}:Nz U U
 |n {k:Nat}:Nz .nil (.slice k [])
 |a {cs ds:List V} (h:NzL cs ds):Nz (.agg cs) (.agg ds)
inductive NzL:List V->List V->Prop
 |n:NzL [] []
 |c {x y:V} {xs ys:List V} (h:Nz x y) (hr:NzL xs ys):NzL (x::xs) (y::ys)
end
section
variable {α:Type} {l:List α} {f:α->List V} {c:α} {m:Int}
def ixq {x y:Operand}{t e k b:Nat}{kk:IntKind}(hm:aZ l m=some c)(ht:slB P t e k b=true)(hx:Ev E s x (.slice k (l.map f)))(hy:Ev E s y (.int kk m)):vN E s (.indexAddr t x y) (.elem (f c)):=
 ixm ht (Gt hm).1 (Gt hm).2 hx hy
def aYy (n:Int):Prop:=0<=n/\n<=68719476736
instance (n:Int):Decidable (aYy n):=inferInstanceAs (Decidable (_/\_))
def jF (l:List α)(n:Int):Prop:=0<=n/\n.toNat<=l.length
instance (l:List α) (n:Int):Decidable (jF l n):=inferInstanceAs (Decidable (_/\_))
def Rd.sub {w:World}{Y:Nat->Prop}{β:List Tr}{A:Option Addr}{n c k a b:Nat}{es:List (List V)}(hr:Rd w Y β (.slice A n c) (.slice k es))(hab:a<=b)(hb:b<=es.length):
  Rd w Y β (.slice (if c=a then A else A.map λq=>q.add (a*k)) (b-a) (c-a)) (.slice k ((es.take b).drop a)):=by
 have hlen:((es.take b).drop a).length=b-a:=by simp;omega
 rcases Nat.eq_zero_or_pos (b-a) with h0|h0
 ·have:(es.take b).drop a=[]:=bm (by omega)
  rw[this,h0]
  obtain⟨A',c',h1,h2,h3⟩:=hr.aBD
  injection h1 with h1 h4 h5
  exact .slice0 (by omega)
 ·cases hr with
  |slice0=>simp at hb;omega
  | @slice _ ad _ _ _ _ val hn hpos hc hm hX hblk hk hcell hrd=>
   rw[cJ (by omega)]
   have hget:∀(i:Nat) (e:List V),((es.take b).drop a)[i]? =some e->es[a+i]? =some e:=by
    intro i e h
    rw[dn,eh] at h
    split at h
    ·exact h
    ·cases h
   refine .slice (val:=λi j=>val (a+i) j) hlen.symm (by omega) (by omega) (by omega) (by rw[add_block];exact hX) (by rw[add_block];exact hblk) (λe he=>hk e (fS (cY he))) (λi j e d h1 h2=> ?_) (λi j e d h1 h2=>hrd _ j e d (hget i e h1) h2)
   rw[add_add',show a*k+(i*k+j)=(a+i)*k+j by rw[de];omega]
   exact hcell _ j e d (hget i e h1) h2
def kR (k:IntKind)(x y:Int):Int:=k.wrap ((BitVec.ofInt k.bits x&&&BitVec.ofInt k.bits y).toNat:Nat)
def orI (k:IntKind)(x y:Int):Int:=k.wrap ((BitVec.ofInt k.bits x|||BitVec.ofInt k.bits y).toNat:Nat)
def aNy (k:IntKind)(x y:Int):Int:=k.wrap ((BitVec.ofInt k.bits x^^^BitVec.ofInt k.bits y).toNat:Nat)
def Xf (k:IntKind)(x y:Int):Int:=k.wrap (x*2^(min y.toNat k.bits))
def yB (k:IntKind)(x y:Int):Int:=x.fdiv (2^(min y.toNat k.bits))
def bGh {x y:Operand}{k:IntKind}{m n:Int}{t u:TypeId}(hx:Ev E s x (.int k m))(hy:Ev E s y (.int k n)):vN E s (.binOp .and t x y u) (.int k (kR k m n)):=λβ a w r o ho=>
 ⟨_,λw' _=>by simp[execOp,ho,(hx β a w r).aAK.1,(hy β a w r).aAK.1,eqGuard_at_int,binOp_and,Op.intBits,kR], .int (bZ _ _).1 (bZ _ _).2⟩
def bIm {x y:Operand}{k:IntKind}{m n:Int}{t u:TypeId}(hx:Ev E s x (.int k m))(hy:Ev E s y (.int k n)):vN E s (.binOp .or t x y u) (.int k (orI k m n)):=λβ a w r o ho=>
 ⟨_,λw' _=>by simp[execOp,ho,(hx β a w r).aAK.1,(hy β a w r).aAK.1,eqGuard_at_int,binOp_or,Op.intBits,orI], .int (bZ _ _).1 (bZ _ _).2⟩
def bGi {x y:Operand}{k:IntKind}{m n:Int}{t u:TypeId}(hx:Ev E s x (.int k m))(hy:Ev E s y (.int k n)):vN E s (.binOp .xor t x y u) (.int k (aNy k m n)):=λβ a w r o ho=>
 ⟨_,λw' _=>by simp[execOp,ho,(hx β a w r).aAK.1,(hy β a w r).aAK.1,eqGuard_at_int,binOp_xor,Op.intBits,aNy], .int (bZ _ _).1 (bZ _ _).2⟩
def bKj {x y:Operand}{k j:IntKind}{m n:Int}{t u:TypeId}(h0:0<=n)(hx:Ev E s x (.int k m))(hy:Ev E s y (.int j n)):vN E s (.binOp .shl t x y u) (.int k (Xf k m n)):=λβ a w r o ho=>
 ⟨_,λw' _=>by simp[execOp,ho,(hx β a w r).aAK.1,(hy β a w r).aAK.1,eqGuard_at_int,binOp_shl,Op.shift,Xf,show ¬n<0 by omega], .int (bZ _ _).1 (bZ _ _).2⟩
def bKk {x y:Operand}{k j:IntKind}{m n:Int}{t u:TypeId}(h0:0<=n)(hx:Ev E s x (.int k m))(hy:Ev E s y (.int j n)):vN E s (.binOp .shr t x y u) (.int k (yB k m n)):=λβ a w r o ho=>
 have hm:=(hx β a w r).aAK
 have hd:(0:Int)<2^(min n.toNat k.bits):=Int.pow_pos (by decide)
 have hk0:k.min<=0:=by cases k<;>decide
 have hk1:0<=k.max:=by cases k<;>decide
 ⟨.int k (yB k m n),λw' _=>by simp[execOp,ho,(hx β a w r).aAK.1,(hy β a w r).aAK.1,eqGuard_at_int,binOp_shr,Op.shift,yB,show ¬n<0 by omega],by
  unfold yB
  rw[gi _ (Int.le_of_lt hd)]
  refine .int ?_ ?_
  ·rcases Int.le_total 0 m with h|h
   ·exact eC hk0 (Int.ediv_nonneg h (Int.le_of_lt hd))
   ·refine eC hm.2.1 ?_
    rw[Int.le_ediv_iff_mul_le hd]
    have h1:(1:Int)<=2^(min n.toNat k.bits):=hd
    have:=Int.mul_le_mul_of_nonpos_left h h1
    simpa using this
  ·rcases Int.le_total 0 m with h|h
   ·exact eC (Int.ediv_le_self _ h) hm.2.2
   ·refine eC ?_ hk1
    exact Int.ediv_le_of_le_mul hd (by simpa using h)⟩
def aWq {w:World}{Y:Nat->Prop}{β:List Tr}{v:Value}{U:V}(h:Rd w Y β v U)(h1:mH U.parts=true):v.cells.size=U.parts.length/\∀(j:Nat) (u:Value) (c:V),v.cells[j]? =some u->U.parts[j]? =some c->Rd w Y β u c:=by
 by_cases hA:∃cs,U= .agg cs
 ·obtain⟨cs,rfl⟩:=hA
  obtain⟨vs,rfl,k2,k3⟩:=h.aBA
  exact⟨k2,λj u c h5 h6=>k3 j u c h5 h6⟩
 ·have hU:U.parts=[U]:=by cases U<;>first|rfl|exact absurd ⟨_,rfl⟩ hA
  rw[hU] at h1 ⊢
  have ho:U.one=true:=by simpa[mH] using h1
  rw[Lc (h.one ho)]
  refine⟨rfl,λj u c h5 h6=> ?_⟩
  cases j with
  |zero=>simp at h5 h6;subst h5;subst h6;exact h
  |succ j=>simp at h5
inductive BP (E:Env P g) (s:S) (pls:List (Nat×Nat)):List (Nat×Operand)->List V->List V->Prop
 |n {cs:List V}:BP E s pls [] cs cs
 |c {i:Nat} {x:Operand} {U:V} {xs:List (Nat×Operand)} {cs cs1 ds:List V} {off sz:Nat} (h:Ev E s x U) (hpl:At pls i (off,sz)) (hsz:U.parts.length=sz) (h1:mH U.parts=true) (hsp:Sp cs off U.parts cs1) (hr:BP E s pls xs cs1 ds):BP E s pls ((i,x)::xs) cs ds
def BP.spec {pls:List (Nat×Nat)}{xs:List (Nat×Operand)}{cs ds:List V}(h:BP E s pls xs cs ds){β:List Tr}{a:Act}{w:World}(r:RelB E s β a w):
  ∀cells:Array Value,cells.size=cs.length->(∀(j:Nat) (v:Value) (c:V),cells[j]? =some v->cs[j]? =some c->Rd w (E.X β) β v c)->
  ∃res,Instr.fill (λi=>pls.toArray[i]?) cells (xs.map λ(i,x)=>(i,a.eval x))=some res/\res.size=ds.length/\∀(j:Nat) (v:Value) (c:V),res[j]? =some v->ds[j]? =some c->Rd w (E.X β) β v c:=by
 induction h with
 |n=>exact λcells h1 h2=>⟨cells,rfl,h1,h2⟩
 | @c i x U xs cs cs1 ds off sz h hpl hsz h1 hsp hr ih=>
  intro cells hs hrd
  have hp:=aWq (h β a w r) h1
  obtain⟨p1,p2,p3⟩:=hsp.spec
  have hf:=Xd off (a.eval x).cells.toList 0 cells (by simp[hp.1];omega)
  obtain⟨res,r1,r2,r3⟩:=ih ((((a.eval x).cells.toList.zipIdx 0).foldl (λcs (cc,j)=>cs.setIfInBounds (off+j) cc) cells)) (by rw[hf.1,hs,p2]) (λj v cc h5 h6=>by
   rw[hf.2] at h5
   rw[p3] at h6
   simp only[dz,cm,hp.1] at h5
   split at h5
   ·rename_i hj;rw[cr hj] at h6;exact hp.2 _ v cc (by simpa using h5) h6
   ·rename_i hj;rw[cJ hj] at h6;exact hrd j v cc h5 h6)
  refine⟨res,?_,r2,r3⟩
  simp only[bj,Instr.fill]
  have hg:pls.toArray[i]? =some (off,sz):=by simpa using hpl.get
  rw[hg]
  simp only
  rw[cJ (by simp[hp.1,hsz,hs];omega)]
  rw[<-ic,gS]
  exact r1
def aNz (P:Program):List Field->Option (List (Nat×Nat))
 |[]=>some []
 |f::fs=>match P.info? f.type,aNz P fs with|some i,some l=>some ((f.offset,i.size)::l)|_,_=>none
def aFo (P:Program)(t:TypeId):Option (List (Nat×Nat)):=match P.underlying t with|some (.struct fs)=>aNz P fs.toList|_=>none
def aFp {w:World}:∀{fs:List Field} {l:List (Nat×Nat)},aNz P fs=some l->(fs.mapM λf=>(Prod.mk f.offset<$>sizeOf f.type:Sem (Nat×Nat))).run P w= .ok l w
 |[],l,h=>by simp[aNz] at h;subst h;rfl
 |f::fs,l,h=>by
  simp only[aNz] at h
  cases hi:P.info? f.type with
  |none=>simp[hi] at h
  |some i=>
   cases hl:aNz P fs with
   |none=>simp[hi,hl] at h
   |some l'=>
    simp[hi,hl] at h
    subst h
    have ih:=aFp (w:=w) hl
    simp only[jd,Sem.run_bind]
    have e:(sizeOf f.type).run P w= .ok i.size w:=by simp[sizeOf,typeInfo,hi]
    simp only[Sem.run_map,e,Result.andThen_ok,Sem.run_pure,ih]
def bld {t:TypeId}{xs:List (Nat×Operand)}{pls:List (Nat×Nat)}{zs ds:List V}(hz:aE5 P t=some zs)(hp:aFo P t=some pls)(hb:BP E s pls xs zs ds):vN E s (.build t xs.toArray) (.agg ds):=λβ a w r o ho=>by
 obtain⟨i,z,hi,hz',hzs⟩:=Xb hz
 have hzr:=aNw (w:=w) (X:=E.X β) (β:=β) hzs
 obtain⟨res,r1,r2,r3⟩:=hb.spec r z.cells (by simpa using hzr.1) (λj v c h5 h6=>(hzr.2 j v c (by simpa using h5) h6).1)
 refine⟨.agg res,λw' _=> ?_, .agg r2 r3⟩
 unfold aFo at hp
 cases hu:P.underlying t with
 |none=>simp[hu] at hp
 |some d=>
  cases d<;>simp[hu] at hp
  rename_i fs
  have hm:=aFp (w:=w') hp
  have hm':(fs.mapM λf=>(Prod.mk f.offset<$>sizeOf f.type:Sem (Nat×Nat))).run P w'= .ok pls.toArray w':=by
   rw[<-Array.toArray_toList (xs:=fs),gk]
   simp only[Sem.run_map,hm,Result.andThen_ok]
   try rfl
  have e1:((xs.toArray.map λ(x:Nat×Operand)=>(x.1,a.eval x.2))).toList=xs.map λ(i,x)=>(i,a.eval x):=by simp
  simp[execOp,ho,Instr.build,zeroValue,typeInfo,hi,hz',run_underlying hu,hm']
  have r1':Instr.fill (λi=>pls[i]?) z.cells (xs.map λx=>(x.1,a.eval x.2))=some res:=by simpa using r1
  simp[r1']
def aWr (P:Program)(t f ft off:Nat):Bool:=match P.underlying t with|some (.struct fs)=>(match fs[f]? with|some fd=>fd.type==ft&&fd.offset==off|none=>false)|_=>false
def aUu {t f ft off:Nat}{w:World}{vs:Array Value}(h:aWr P t f ft off=true):(Instr.field t (.agg vs) f).run P w=(part ft vs off).run P w:=by
 unfold aWr at h
 cases hu:P.underlying t with
 |none=>simp[hu] at h
 |some d=>
  cases d<;>simp[hu] at h
  rename_i fs
  cases hf:fs[f]? with
  |none=>simp[hf] at h
  |some fd=>
   simp[hf] at h
   obtain⟨rfl,rfl⟩:=h
   simp[Instr.field,run_underlying hu,hf,asAgg]
def fld1 {x:Operand}{t f ft off:Nat}{cs:List V}{U:V}(hf:aWr P t f ft off=true)(ht:Gr P ft=true)(hc:At cs off U)(hx:Ev E s x (.agg cs)):vN E s (.field t x f) U:=λβ a w r o ho=>by
 obtain⟨vs,h1,h2,h3⟩:=(hx β a w r).aBA
 have hlt:off<vs.size:=by rw[h2];exact(ax.1 hc.get).1
 refine⟨vs[off],λw' _=> ?_,h3 off _ U (cC hlt) hc.get⟩
 simp[execOp,ho,h1,aUu hf,Xe (w:=w') ht (cC hlt)]
def bGj {z:ByteArray}{n:Nat}{c:Int}(h:(bI z)[n]? =some c):∃b,z[n]? =some b/\c=(b.toNat:Int):=by
 unfold bI at h
 rw[aE] at h
 obtain⟨b,hb,rfl⟩:=ee.1 h
 refine⟨b,?_,rfl⟩
 obtain⟨hlt,hb⟩:=ax.1 hb
 have hlt':n<z.size:=by rw[cm] at hlt;exact hlt
 rw[getElem?_pos z n hlt']
 rw[<-hb];rfl
def bKl {x y:Operand}{t:TypeId}{z:ByteArray}{kk:IntKind}{m c:Int}(hm:aZ (bI z) m=some c)(ht:P.underlying t=some .string)(hx:Ev E s x (.str z))(hy:Ev E s y (.int kk m)):vN E s (.index t x y) (.int .u8 c):=λβ a w r o ho=>by
 obtain⟨h0,h1⟩:=Gt hm
 obtain⟨b,hb,rfl⟩:=bGj h1
 have hlt:=b.toNat_lt
 refine⟨_,λw' _=> ?_, .int (ia _) (show((b.toNat:Nat):Int)<=255 by omega)⟩
 simp[execOp,ho,(hx β a w r).aAR.1,(hy β a w r).aAK.1,Instr.index,asIntOf,run_underlying ht,h0,hb]
def Pk (z:ByteArray)(l h:Int):Prop:=0<=l/\l<=h/\h<=(z.size:Int)
instance (z:ByteArray) (l h:Int):Decidable (Pk z l h):=inferInstanceAs (Decidable (_/\_))
def ext_size (z:ByteArray)(l h:Nat):(z.extract l h).size<=z.size:=by
 rw[ByteArray.size_extract];omega
def bKm {x y q:Operand}{t:TypeId}{z:ByteArray}{kk jj:IntKind}{m n:Int}(hm:Pk z m n)(ht:P.underlying t=some .string)(hx:Ev E s x (.str z))(hy:Ev E s y (.int kk m))(hq:Ev E s q (.int jj n)):vN E s (.slice t x (some y) (some q) none) (.str (z.extract m.toNat n.toNat)):=λβ a w r o ho=>by
 obtain⟨h0,h1,h2⟩:=hm
 obtain⟨g1,g2⟩:=(hx β a w r).aAR
 refine⟨_,λw' _=> ?_, .str (bw (ext_size z m.toNat n.toNat) g2)⟩
 have e1:(0<=n/\n<=(z.size:Int)):=⟨by omega,h2⟩
 have e2:(0<=m/\m<=((n.toNat:Nat):Int)):=⟨h0,by omega⟩
 simp[execOp,ho,g1,(hy β a w r).aAK.1,(hq β a w r).aAK.1,Instr.sliceAt,Instr.slice,run_underlying ht,Instr.sliceBounds,Instr.sliceBound,asIntOf,e1,e2]
 try (intro hh;exfalso;omega)
def bKn {x q:Operand}{t:TypeId}{z:ByteArray}{jj:IntKind}{n:Int}(hm:Pk z 0 n)(ht:P.underlying t=some .string)(hx:Ev E s x (.str z))(hq:Ev E s q (.int jj n)):vN E s (.slice t x none (some q) none) (.str (z.extract 0 n.toNat)):=λβ a w r o ho=>by
 obtain⟨h0,h1,h2⟩:=hm
 obtain⟨g1,g2⟩:=(hx β a w r).aAR
 refine⟨_,λw' _=> ?_, .str (bw (ext_size z 0 n.toNat) g2)⟩
 have e1:(0<=n/\n<=(z.size:Int)):=⟨by omega,h2⟩
 simp[execOp,ho,g1,(hq β a w r).aAK.1,Instr.sliceAt,Instr.slice,run_underlying ht,Instr.sliceBounds,Instr.sliceBound,asIntOf,e1]
def bKo {x y:Operand}{t:TypeId}{z:ByteArray}{kk:IntKind}{m:Int}(hm:Pk z m z.size)(ht:P.underlying t=some .string)(hx:Ev E s x (.str z))(hy:Ev E s y (.int kk m)):vN E s (.slice t x (some y) none none) (.str (z.extract m.toNat z.size)):=λβ a w r o ho=>by
 obtain⟨h0,h1,h2⟩:=hm
 obtain⟨g1,g2⟩:=(hx β a w r).aAR
 refine⟨_,λw' _=> ?_, .str (bw (ext_size z m.toNat z.size) g2)⟩
 have e2:(0<=m/\m<=(z.size:Int)):=⟨h0,h1⟩
 simp[execOp,ho,g1,(hy β a w r).aAK.1,Instr.sliceAt,Instr.slice,run_underlying ht,Instr.sliceBounds,Instr.sliceBound,asIntOf,e2]
section
variable {F:S->Prop}
variable {a0:Option Nat}
end
end
end Go.VK

namespace Go.VK
section
variable {α β σ τ:Type}
@[simp] theorem bd_s {a:α} {f:α->Option β}:bd (some a) f=f a:=rfl
@[simp] theorem bd_n {f:α->Option β}:bd none f=none:=rfl
@[simp] theorem nx_l {a:α} {f:β->Option α}:nx (some (.inl a)) f=some a:=rfl
@[simp] theorem nx_r {b:β} {f:β->Option α}:nx (some (.inr b)) f=f b:=rfl
@[simp] theorem nx_n {f:β->Option α}:nx none f=none:=rfl
def aA {c:Prop}[Decidable c]{x:Option α}(h:c):gd c x=x:=cr h
@[simp] theorem gd_T {x:Option α}:gd True x=x:=rfl
def bGk {b:Bool}{x y:Option α}{f:α->Option β}:bd (bif b then x else y) f=bif b then bd x f else bd y f:=by cases b<;>rfl
@[simp] theorem bd_bb {b:Bool} {x y:α} {f:α->Option β}:bd (bif b then some x else some y) f=f (bif b then x else y):=by cases b<;>rfl
@[simp] theorem bif_and {a b:Bool}:(bif a then b else false)=(a&&b):=by cases a<;>rfl
@[simp] theorem bif_or {a b:Bool}:(bif a then true else b)=(a||b):=by cases a<;>rfl
@[simp] theorem bif_some {a:Bool} {x y:α}:(bif a then some x else some y)=some (bif a then x else y):=by cases a<;>rfl
def bLh {x:Option α}:bd x (λa=>some a)=x:=by cases x<;>rfl
def aK {l:List α}{i:Nat}(h:i<l.length):aZ l (i:Int)=some l[i]:=by
 unfold aZ;rw[cr (ia _),bp,ab h]
def Bg {l:List α}{i:Int}(h0:0<=i)(h:i.toNat<l.length):aZ l i=some l[i.toNat]:=by
 unfold aZ;rw[cr h0,ab h]
def bKp (step:Nat->α->Option τ->Option τ)(fin:Option τ):Nat->List α->Option τ
 |_,[]=>fin
 |i,x::xs=>step i x (bKp step fin (i+1) xs)
def iP (p:α->Bool):Nat->List α->Int
 |_,[]=> -1
 |i,x::xs=>bif p x then(i:Int) else iP p (i+1) xs
def aFq {p:α->Bool}:∀{i:Nat} {l:List α},0<=iP p i l->(i:Int)<=iP p i l/\iP p i l<i+l.length
 |i,[],h=>by simp[iP] at h
 |i,x::xs,h=>by
  simp only[iP] at h ⊢
  cases hp:p x with
  |true=>simp;omega
  |false=>
   rw[hp] at h
   have:=aFq (i:=i+1) (l:=xs) (by simpa using h)
   simp only[az,ac]
   omega
def fD (p:Nat->α->Bool):Nat->List α->Bool
 |_,[]=>false
 |i,x::xs=>p i x||fD p (i+1) xs
def Bh {p:α->Bool}:∀{l:List α} {s:List α},l.foldl (λs x=>bif p x then s++[x] else s) s=s++l.filter p
 |[],s=>by simp
 |x::xs,s=>by
  simp only[cM,iq]
  cases p x<;>simp[Bh]
def Eu (y:Nat->α->List β):Nat->List α->List β
 |_,[]=>[]
 |i,x::xs=>y i x++Eu y (i+1) xs
end
def iQ (z sep:ByteArray):List ByteArray:=Lib.splitB sep 0 (Lib.countB z sep) z
end Go.VK
