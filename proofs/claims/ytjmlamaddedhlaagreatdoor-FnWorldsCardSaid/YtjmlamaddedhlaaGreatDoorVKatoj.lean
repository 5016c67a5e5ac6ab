import Derived.Below
import Derived.OrdersHeld
import Derived.Laws.AppendOwn
import Derived.Laws.OwnMore
import Derived.Laws.MakeOwn
import Derived.KernelRfl
import Derived.Laws.Concat
import Derived.Laws.Strings2
import Derived.Laws.Small
import Derived.Laws.Slices
import Derived.IntWalk
import Derived.Maps.AppendAt
import Derived.Deep.RegionHeld3
import Derived.Laws.BytesString
import Derived.Lib.LaidTab
import Derived.BarOnce
import Derived.Lib.ItoaMem
import Derived.Lib.ItoaLen
import Derived.Sort.Grow
import Derived.Carry
import Derived.ChangeArms
import Derived.DataElems
import Derived.DataReads
import Derived.ChangeOld
import Derived.WideShapes
import Derived.ChangeShapes
import Derived.Lib.LaidU8
/-
  THE VALUE KIT, first part: data that Go values stand for, what it means that a value reads as a datum in a world, the symbolic state of a walk. Plain definitions and theorems over any program; no condition.
-/
set_option linter.all false
namespace Go.VK
def aa:=@Bool.and_eq_true
def ab:=@List.getElem?_eq_getElem
def ac:=@cond_false
def ae:=@cond_true
def ah:=@Nat.eq_of_beq_eq_true
def ai:=@Option.some.injEq
def aj:=@Option.some.inj
def ak:=@Nat.le_refl
def ao:=@List.getElem?_append_left
def ap:=@decide_eq_true
def aq:=@decide_eq_false
def au:=@List.getElem?_append_right
def av:=@List.mem_of_getElem?
def aw:=@List.length_append
def ax:=@List.getElem?_eq_some_iff
def ay:=@Nat.le_of_ble_eq_true
def az:=@List.length_cons
def aE:=@List.getElem?_map
def ba:=@List.mem_cons
def bc:=@List.length_map
def bf:=@List.getElem?_set_ne
def bg:=@List.getElem?_set_self
def bh:=@List.nil_append
def bj:=@List.map_cons
def bl:=@Bool.not_true
def bm:=@List.eq_nil_of_length_eq_zero
def bn:=@Array.getElem?_eq_some_iff
def bo:=@List.mem_map
def bp:=@Int.toNat_natCast
def bq:=@List.length_set
def bu:=@Nat.zero_add
def bv:=@Bool.or_eq_false_iff
def bw:=@Nat.le_trans
def bz:=@List.mem_append
def ca:=@List.append_assoc
def cb:=@Int.tmod_eq_emod_of_nonneg
def ce:=@List.length_nil
def cf:=@Array.getD_eq_getD_getElem?
def cg:=@Nat.lt_of_lt_of_le
def ci:=@List.length_take
def cj:=@List.drop_eq_getElem_cons
def ck:=@Bool.or_eq_true
def cl:=@List.nodup_cons
def cm:=@Array.length_toList
def cn:=@Nat.zero_le
def co:=@bne_self_eq_false
def cp:=@List.length_drop
def cq:=@Bool.not_eq_true'
def cr:=@if_pos
def ct:=@beq_eq_false_iff_ne
def cu:=@decide_eq_decide
def cw:=@List.all_eq_true
def cx:=@Option.map_some
def cy:=@List.take_append_drop
def cz:=@List.cons_append
def cA:=@Nat.add_sub_cancel_left
def cC:=@Array.getElem?_eq_getElem
def cD:=@List.flatten_cons
def cE:=@Bool.false_or
def cF:=@beq_iff_eq
def cG:=@Prod.mk.injEq
def cH:=@List.mem_iff_getElem?
def cI:=@List.append_nil
def cJ:=@if_neg
def cL:=@Option.getD_some
def cM:=@List.foldl_cons
def cN:=@List.mem_singleton
def cP:=@Nat.le_add_right
def cQ:=@List.map_append
def cR:=@List.getElem_mem
def cT:=@Bool.and_false
def cU:=@List.getElem?_eq_none
def cV:=@List.getElem?_range
def cW:=@decide_eq_true_eq
def cX:=@List.nodup_append
def cY:=@List.mem_of_mem_drop
def da:=@Nat.beq_refl
def db:=@Nat.lt_succ_self
def dc:=@Bool.true_and
def de:=@Nat.add_mul
def df:=@List.takeWhile_cons
def dg:=@beq_self_eq_true
def dh:=@List.take_of_length_le
def di:=@List.drop_length
def dk:=@Nat.ble_eq_true_of_le
def dl:=@Bool.and_self
def dm:=@List.mem_cons_self
def dn:=@List.getElem?_drop
def dp:=@List.mem_cons_of_mem
def dq:=@List.getElem?_cons_succ
def dr:=@List.flatten_append
def dt:=@List.pairwise_iff_getElem
def du:=@List.singleton_append
def dw:=@List.length_singleton
def dx:=@eq_of_heq
def dy:=@List.pairwise_cons
def dz:=@Nat.add_zero
def dT:=@List.sum_cons
def d8:=@Int.eq_ofNat_of_zero_le
def ee:=@Option.map_eq_some_iff
def ef:=@Nat.le_succ
def eg:=@Bool.and_true
def eh:=@List.getElem?_take
def en:=@Bool.not_eq_false'
def eo:=@Bool.false_and
def et:=@Array.setIfInBounds_eq_of_size_le
def eu:=@Bool.eq_iff_iff
def ex:=@Nat.mul_le_mul_right
def ey:=@List.map_nil
def ez:=@List.length_range
def eC:=@Int.le_trans
def eE:=@List.takeWhile_append_dropWhile
def eI:=@decide_eq_false_iff_not
def eJ:=@Bool.not_false
def eK:=@List.getElem_cons_succ
def eL:=@Int.tmod_lt_of_pos
def eM:=@Int.pow_succ
def eN:=@Bool.false_ne_true
def eR:=@Int.tmod_nonneg
def eS:=@List.set_append_right
def eV:=@List.length_replicate
def eW:=@List.nodup_nil
def e8:=@List.mem_iff_getElem
def e9:=@Int.le_refl
def fa:=@Array.getElem?_append_left
def fb:=@Nat.mul_comm
def fc:=@Nat.lt_or_ge
def fe:=@List.take_length
def fg:=@List.not_mem_nil
def fh:=@Nat.mul_le_mul_left
def fi:=@List.map_drop
def fj:=@Array.setIfInBounds_comm
def fk:=@List.cons.injEq
def fm:=@Option.toList_some
def fo:=@Nat.sub_self
def fp:=@List.take_add_one
def fq:=@List.size_toArray
def fu:=@List.drop_zero
def fv:=@List.drop_eq_nil_of_le
def fw:=@List.getElem_set_self
def fx:=@Nat.and_two_pow_sub_one_eq_mod
def fy:=@List.getElem_map
def fL:=@List.flatten_nil
def fN:=@Nat.add_assoc
def fR:=@List.all_cons
def fS:=@List.mem_of_mem_take
def fW:=@List.sum_append
def fX:=@List.map_congr_left
def fY:=@List.drop_succ_cons
def ga:=@List.map_map
def gb:=@List.take_left
def gf:=@List.mem_range
def gh:=@Int.tdiv_eq_ediv_of_nonneg
def gi:=@Int.fdiv_eq_ediv_of_nonneg
def gj:=@List.pairwise_map
def gk:=@List.mapM_toArray
def gl:=@List.getElem_take
def gm:=@List.foldl_append
def gn:=@Bool.or_false
def gp:=@Array.getElem?_replicate
def gq:=@List.zipIdx_cons
def gr:=@List.sum_nil
def gt:=@Array.ext'
def gu:=@Nat.div_add_mod
def gv:=@List.range_succ
def gx:=@Nat.add_sub_add_right
def gy:=@List.pairwise_flatten
def gz:=@Nat.pow_le_pow_right
def gA:=@Nat.mul_le_mul
def gC:=@List.foldl_nil
def gE:=@List.drop_left
def gO:=@if_true
def gR:=@List.take_succ_cons
def gS:=@Array.toList_zipIdx
def hH:=@List.set_cons_succ
def ia:=@Int.natCast_nonneg
def ib:=@Int.emod_lt_of_pos
def ic:=@Array.foldl_toList
def ie:=@Option.mem_toList
def ig:=@List.take_succ_eq_append_getElem
def ij:=@Int.mul_comm
def im:=@Array.size_append
def io:=@Nat.mod_eq_of_lt
def ip:=@List.mem_flatten
def iq:=@List.filter_cons
def ir:=@List.any_eq_true
def iv:=@Nat.shiftLeft_add_eq_or_of_lt
def iw:=@List.mem_zipIdx_iff_getElem?
def iy:=@List.length_zip
def iS:=@Int.emod_nonneg
def ja:=@Array.getElem?_setIfInBounds
def jb:=@Nat.lt_of_mul_lt_mul_right
def jc:=@List.nodup_iff_pairwise_ne
def jd:=@List.mapM_cons
def je:=@Int.mul_nonneg
def jf:=@Array.toList_setIfInBounds
def jg:=@Nat.add_lt_add_iff_right
def jh:=@List.getElem_append_left
open Go.RowKit
inductive V where
 |int (k:IntKind) (n:Int)
 |bool (b:Bool)
 |str (s:ByteArray)
 |slice (k:Nat) (es:List (List V))
 |nil
 |agg (cs:List V)
 |tup (vs:List V)
 |box (i off:Nat)
 |elem (cs:List V)
 |own (i:Nat)
 |oel (i off:Nat)
 |und
 |any
structure Tr where
 b:Option Nat
 n:Nat
 c:Nat
def Tr.val (t:Tr):Value:= .slice (t.b.map λb=>⟨b,0,none⟩) t.n t.c
def Ext (w w':World):Prop:=Below w.heap.size w w'
def Ext.refl (w:World):Ext w w:=Below.refl _ _
def Ext.trans {a b c:World}(h:Ext a b)(k:Ext b c):Ext a c:=Below.trans h (Below.mono k h.size)
def Ext.cell {w w':World}(h:Ext w w'){p:Addr}{u:Value}(hc:w.cell? p=some u):w'.cell? p=some u:=
 (Below.cell h (World.block_lt_of_cell? w p hc)).trans hc
def Ext.heap {w w':World}(h:Ext w w'){b:Nat}{o:Obj}(hb:w.heap[b]? =some o):w'.heap[b]? =some o:=
 (h.block b (bn.1 hb).1).trans hb
def Ext.drew (w:World):Ext w w.drew:=(Below.refl _ _).drew
def Ext.alloc (w:World)(o:Obj):Ext w (w.alloc o):=(Below.refl _ _).alloc (ak _) o
inductive Rd (w:World) (X:Nat->Prop):List Tr->Value->V->Prop
 |int {β:List Tr} {k:IntKind} {n:Int} (h1:k.min<=n) (h2:n<=k.max):Rd w X β (.int k n) (.int k n)
 |bool {β:List Tr} {b:Bool}:Rd w X β (.bool b) (.bool b)
 |str {β:List Tr} {s:ByteArray} (h:s.size<=maxLen):Rd w X β (.string s) (.str s)
 |slice0 {β:List Tr} {A:Option Addr} {c k:Nat} (h:c<=maxLen):Rd w X β (.slice A 0 c) (.slice k [])
 |slice {β:List Tr} {a:Addr} {n c k:Nat} {es:List (List V)} {val:Nat->Nat->Value} (hn:n=es.length) (hpos:0<es.length) (hc:n<=c) (hm:c<=maxLen)
   (hX:¬X a.block) (hb:a.block<w.heap.size) (hk:∀e∈es,e.length=k)
   (hcell:∀(i j:Nat) (e:List V) (d:V),es[i]? =some e->e[j]? =some d->w.cell? (a.add (i*k+j))=some (val i j))
   (hrd:∀(i j:Nat) (e:List V) (d:V),es[i]? =some e->e[j]? =some d->Rd w X [] (val i j) d):Rd w X β (.slice (some a) n c) (.slice k es)
 |nil {β:List Tr}:Rd w X β (.slice none 0 0) .nil
 |agg {β:List Tr} {vs:Array Value} {cs:List V} (hl:vs.size=cs.length) (h:∀(i:Nat) (v:Value) (c:V),vs[i]? =some v->cs[i]? =some c->Rd w X β v c):Rd w X β (.agg vs) (.agg cs)
 |tup {β:List Tr} {vs:Array Value} {cs:List V} (hl:vs.size=cs.length) (h:∀(i:Nat) (v:Value) (c:V),vs[i]? =some v->cs[i]? =some c->Rd w X β v c):Rd w X β (.tuple vs) (.tup cs)
 |box {β:List Tr} {i off b:Nat} {t:Tr} (h:β[i]? =some t) (hb:t.b=some b):Rd w X β (.pointer (some ⟨b,off,none⟩)) (.box i off)
 |elem {β:List Tr} {a:Addr} {cs:List V} {val:Nat->Value} (hX:¬X a.block) (hb:a.block<w.heap.size)
   (hcell:∀(j:Nat) (d:V),cs[j]? =some d->w.cell? (a.add j)=some (val j))
   (hrd:∀(j:Nat) (d:V),cs[j]? =some d->Rd w X [] (val j) d):Rd w X β (.pointer (some a)) (.elem cs)
 |own {β:List Tr} {i:Nat} {t:Tr} (h:β[i]? =some t):Rd w X β t.val (.own i)
 |oel {β:List Tr} {i off b:Nat} {t:Tr} (h:β[i]? =some t) (hb:t.b=some b):Rd w X β (.pointer (some ⟨b,off,none⟩)) (.oel i off)
 |und {β:List Tr}:Rd w X β undef .und
 |any {β:List Tr} {v:Value}:Rd w X β v .any
def Rd.conv {w w':World}{X X':Nat->Prop}{β:List Tr}{v:Value}{U:V}(h:Rd w X β v U)(hsz:w.heap.size<=w'.heap.size)
  (hX:∀b,b<w.heap.size->X' b->X b) (hcell:∀(p:Addr) (u:Value),¬X p.block->w.cell? p=some u->w'.cell? p=some u):
  ∀{β':List Tr},(∀(i:Nat) (t:Tr),β[i]? =some t->β'[i]? =some t)->Rd w' X' β' v U:=by
 induction h with
 |int h1 h2=>exact λ_=> .int h1 h2
 |bool=>exact λ_=> .bool
 |str h=>exact λ_=> .str h
 |slice0 h=>exact λ_=> .slice0 h
 | @slice β a n c k es val hn hpos hc hm hXa hb hk hce hrd ih=>
  intro β' _
  refine .slice (val:=val) hn hpos hc hm (λh=>hXa (hX _ hb h)) (cg hb hsz) hk (λi j e d h1 h2=>hcell _ _ ?_ (hce i j e d h1 h2)) (λi j e d h1 h2=>ih i j e d h1 h2 (λ_ _ h=>h))
  have:(a.add (i*k+j)).block=a.block:=by unfold Addr.add;split<;>rfl
  rw[this];exact hXa
 |nil=>exact λ_=> .nil
 |agg hl _ ih=>exact λhβ=> .agg hl (λi v c h1 h2=>ih i v c h1 h2 hβ)
 |tup hl _ ih=>exact λhβ=> .tup hl (λi v c h1 h2=>ih i v c h1 h2 hβ)
 |box h hb=>exact λhβ=> .box (hβ _ _ h) hb
 | @elem β a cs val hXa hb hce hrd ih=>
  intro β' _
  refine .elem (val:=val) (λh=>hXa (hX _ hb h)) (cg hb hsz) (λj d h=>hcell _ _ ?_ (hce j d h)) (λj d h=>ih j d h (λ_ _ h=>h))
  have:(a.add j).block=a.block:=by unfold Addr.add;split<;>rfl
  rw[this];exact hXa
 |own h=>exact λhβ=> .own (hβ _ _ h)
 |oel h hb=>exact λhβ=> .oel (hβ _ _ h) hb
 |und=>exact λ_=> .und
 |any=>exact λ_=> .any
def Rd.ext {w w':World}{X:Nat->Prop}{β:List Tr}{v:Value}{U:V}(h:Rd w X β v U)(he:Ext w w'):Rd w' X β v U:=
 h.conv he.size (λ_ _ h=>h) (λ_ _ _ hc=>he.cell hc) (λ_ _ h=>h)
def V.plain:V->Bool
 | .int .. | .bool _| .str _| .slice .. | .nil=>true
 | .agg cs=>allPlain cs
 | .tup cs=>allPlain cs
 |_=>false
 where allPlain:List V->Bool
 |[]=>true
 |c::cs=>c.plain&&allPlain cs
def V.aBB {cs:List V}(h:V.plain.allPlain cs=true):∀(i:Nat) (c:V),cs[i]? =some c->c.plain=true:=by
 induction cs with
 |nil=>intro i c hc;simp at hc
 |cons x xs ih=>
  simp only[V.plain.allPlain,aa] at h
  intro i c hc
  cases i with
  |zero=>simp at hc;rw[<-hc];exact h.1
  |succ i=>exact ih h.2 i c (by simpa using hc)
def Rd.aBP {w:World}{X:Nat->Prop}{β:List Tr}{v:Value}{U:V}(h:Rd w X β v U):U.plain=true->∀{β':List Tr},Rd w X β' v U:=by
 induction h with
 |int h1 h2=>exact λ_ _=> .int h1 h2
 |bool=>exact λ_ _=> .bool
 |str h=>exact λ_ _=> .str h
 |slice0 h=>exact λ_ _=> .slice0 h
 |slice hn hpos hc hm hXa hb hk hce hrd ih=>exact λ_ _=> .slice hn hpos hc hm hXa hb hk hce hrd
 |nil=>exact λ_ _=> .nil
 |agg hl _ ih=>exact λhp β'=> .agg hl (λi v c h1 h2=>ih i v c h1 h2 (V.aBB (by simpa[V.plain] using hp) i c h2))
 |tup hl _ ih=>exact λhp β'=> .tup hl (λi v c h1 h2=>ih i v c h1 h2 (V.aBB (by simpa[V.plain] using hp) i c h2))
 |_=>intro hp;simp[V.plain] at hp
inductive Ob where
 |box (T:TypeId) (cs:List V)
 |row (T:TypeId) (k:Nat) (es:List (List V))
structure S where
 t:List V
 o:List Ob
structure GI where
 G:World->Prop
 st:∀w w',G w->Ext w w'->G w'
structure Env (P:Program) (g:GI) where
 X0:Nat->Prop
 w0:World
 h0:∀b,X0 b->b<w0.heap.size
 hg:g.G w0
def Ob.ok (w:World)(X:Nat->Prop)(β:List Tr)(t:Tr):Ob->Prop
 | .box T cs=>∃(b:Nat) (vs:List Value),t.b=some b/\w.heap[b]? =some (.cells vs.toArray T (0,0))/\vs.length=cs.length/\
   ∀(i:Nat) (v:Value) (c:V),vs[i]? =some v->cs[i]? =some c->Rd w X β v c
 | .row T k es=>0<k/\(∀e∈es,e.length=k)/\∃xs:List Value,w.ownsRow 0 T k t.val es.length xs/\
   ∀(i j:Nat) (e:List V) (d:V),es[i]? =some e->e[j]? =some d->∃v,xs[i*k+j]? =some v/\v.oneCell'=true/\Rd w X [] v d
section
variable {P:Program} {g:GI}
def Env.X (E:Env P g)(β:List Tr)(b:Nat):Prop:=E.X0 b\/∃t∈β,t.b=some b
structure RelB (E:Env P g) (s:S) (β:List Tr) (a:Act) (w:World):Prop where
 ext:Ext E.w0 w
 defers:a.defers=[]
 tsz:a.tmps.size=s.t.length
 tmps:∀(n:Nat) (U:V),s.t[n]? =some U->Rd w (E.X β) β (a.tmps.getD n undef) U
 blen:β.length=s.o.length
 new:∀(i:Nat) (t:Tr) (b:Nat),β[i]? =some t->t.b=some b->E.w0.heap.size<=b/\b<w.heap.size
 dist:∀(i j:Nat) (t u:Tr) (b:Nat),i≠j->β[i]? =some t->β[j]? =some u->t.b=some b->u.b≠some b
 objs:∀(i:Nat) (t:Tr) (o:Ob),β[i]? =some t->s.o[i]? =some o->o.ok w (E.X β) β t
def aW (E:Env P g)(s:S)(a:Act)(w:World):Prop:=∃β,RelB E s β a w
def Ob.ok.ext {w w':World}{X:Nat->Prop}{β:List Tr}{t:Tr}{o:Ob}(h:o.ok w X β t)(he:Ext w w'):o.ok w' X β t:=by
 cases o with
 |box T cs=>
  obtain⟨b,vs,hb,hh,hl,hr⟩:=h
  exact⟨b,vs,hb,he.heap hh,hl,λi v c h1 h2=>(hr i v c h1 h2).ext he⟩
 |row T k es=>
  obtain⟨h1,h2,xs,h3,h4⟩:=h
  refine⟨h1,h2,xs,?_,λi j e d k1 k2=>let ⟨v,k3,k4,k5⟩:=h4 i j e d k1 k2;⟨v,k3,k4,k5.ext he⟩⟩
  obtain⟨a1,a2⟩:=h3
  refine⟨a1,a2.imp id ?_⟩
  rintro⟨gg,cap,cur,c1,c2,c3,c4⟩
  exact⟨gg,cap,cur,c1,c2,he.heap c3,c4⟩
def RelB.extend {E:Env P g}{s:S}{β:List Tr}{a:Act}{w w':World}(h:RelB E s β a w)(he:Ext w w'):RelB E s β a w' where
 ext:=h.ext.trans he
 defers:=h.defers
 tsz:=h.tsz
 tmps n U hn:=(h.tmps n U hn).ext he
 blen:=h.blen
 new i t b h1 h2:=⟨(h.new i t b h1 h2).1,cg (h.new i t b h1 h2).2 he.size⟩
 dist:=h.dist
 objs i t o h1 h2:=(h.objs i t o h1 h2).ext he
inductive Upd:List V->Nat->V->List V->Prop
 |z {x y:V} {l:List V}:Upd (x::l) 0 y (y::l)
 |s {x y:V} {l l':List V} {n:Nat} (h:Upd l n y l'):Upd (x::l) (n+1) y (x::l')
def Upd.eq {l l':List V}{n:Nat}{y:V}(h:Upd l n y l'):l'=l.set n y/\n<l.length:=by
 induction h with
 |z=>simp
 |s _ ih=>simp[ih.1,ih.2]
def sG {α:Type}(l:Array α)(n m:Nat)(x d:α)(hn:n<l.size):(l.setIfInBounds n x).getD m d=if n=m then x else l.getD m d:=by
 simp only[cf,ja]
 split
 ·rename_i h;subst h;rfl
 ·rfl
def RelB.put {E:Env P g}{s:S}{β:List Tr}{a:Act}{w:World}(h:RelB E s β a w){n:Nat}{v:Value}{U:V}{l':List V}(hr:Rd w (E.X β) β v U)(hu:Upd s.t n U l'):
  RelB E ⟨l',s.o⟩ β (a.put (some n) v) w where
 ext:=h.ext
 defers:=h.defers
 tsz:=by rw[hu.eq.1];simpa[Act.put] using h.tsz
 tmps m U' hm:=by
  have hn:n<a.tmps.size:=by rw[h.tsz];exact hu.eq.2
  simp only[Act.put]
  rw[sG _ _ _ _ _ hn]
  simp only[hu.eq.1] at hm
  split
  ·rename_i he;subst he
   rw[bg (by have:=hu.eq.2;omega)] at hm
   injection hm with hm
   rw[<-hm];exact hr
  ·rename_i he
   rw[bf he] at hm
   exact h.tmps m U' hm
 blen:=h.blen
 new:=h.new
 dist:=h.dist
 objs:=h.objs
def RelB.gw {E:Env P g}{s:S}{β:List Tr}{a:Act}{w:World}(h:RelB E s β a w):g.G w:=g.st _ _ E.hg h.ext
inductive At {α:Type}:List α->Nat->α->Prop
 |z {x:α} {l:List α}:At (x::l) 0 x
 |s {x y:α} {l:List α} {n:Nat} (h:At l n y):At (x::l) (n+1) y
def At.get {α:Type}{l:List α}{n:Nat}{x:α}(h:At l n x):l[n]? =some x:=by
 induction h with
 |z=>rfl
 |s _ ih=>simpa using ih
def Ev (E:Env P g)(s:S)(x:Operand)(U:V):Prop:=∀(β:List Tr) (a:Act) (w:World),RelB E s β a w->Rd w (E.X β) β (a.eval x) U
def Ev.t {E:Env P g}{s:S}{n:Nat}{U:V}(h:At s.t n U):Ev E s (.tmp n) U:=λβ a w r=>r.tmps n U h.get
def Ev.i {E:Env P g}{s:S}{k:IntKind}{n:Int}(h:decide (k.min<=n/\n<=k.max)=true):Ev E s (.const (.int k n)) (.int k n):=
 λ_ _ _ _=> .int (of_decide_eq_true h).1 (of_decide_eq_true h).2
def Ev.b {E:Env P g}{s:S}{b:Bool}:Ev E s (.const (.bool b)) (.bool b):=λ_ _ _ _=> .bool
def Ev.s {E:Env P g}{s:S}{x:ByteArray}(h:decide (x.size<=1000)=true):Ev E s (.const (.string x)) (.str x):=λ_ _ _ _=> .str (by have:=of_decide_eq_true h;unfold maxLen;omega)
def Ev.n {E:Env P g}{s:S}:Ev E s (.const (.slice none 0 0)) .nil:=λ_ _ _ _=> .nil
end
end Go.VK

namespace Go.VK
open Go.RowKit
variable {P:Program} {g:GI}
def Rd.aAK {w:World}{X:Nat->Prop}{β:List Tr}{v:Value}{k:IntKind}{n:Int}(h:Rd w X β v (.int k n)):v= .int k n/\k.min<=n/\n<=k.max:=by
 cases h with|int h1 h2=>exact⟨rfl,h1,h2⟩
def Rd.aAU {w:World}{X:Nat->Prop}{β:List Tr}{v:Value}{b:Bool}(h:Rd w X β v (.bool b)):v= .bool b:=by cases h;rfl
def Rd.aAR {w:World}{X:Nat->Prop}{β:List Tr}{v:Value}{s:ByteArray}(h:Rd w X β v (.str s)):v= .string s/\s.size<=maxLen:=by
 cases h with|str h=>exact⟨rfl,h⟩
def Rd.aBL {w:World}{X:Nat->Prop}{β:List Tr}{v:Value}(h:Rd w X β v .nil):v= .slice none 0 0:=by cases h;rfl
def Rd.aBA {w:World}{X:Nat->Prop}{β:List Tr}{v:Value}{cs:List V}(h:Rd w X β v (.agg cs)):
  ∃vs:Array Value,v= .agg vs/\vs.size=cs.length/\∀(i:Nat) (v:Value) (c:V),vs[i]? =some v->cs[i]? =some c->Rd w X β v c:=by
 cases h with|agg hl h=>exact⟨_,rfl,hl,h⟩
def Rd.aBZ {w:World}{X:Nat->Prop}{β:List Tr}{v:Value}{cs:List V}(h:Rd w X β v (.tup cs)):
  ∃vs:Array Value,v= .tuple vs/\vs.size=cs.length/\∀(i:Nat) (v:Value) (c:V),vs[i]? =some v->cs[i]? =some c->Rd w X β v c:=by
 cases h with|tup hl h=>exact⟨_,rfl,hl,h⟩
def Rd.aBD {w:World}{X:Nat->Prop}{β:List Tr}{v:Value}{k:Nat}{es:List (List V)}(h:Rd w X β v (.slice k es)):∃A c,v= .slice A es.length c/\es.length<=c/\c<=maxLen:=by
 cases h with
 |slice0 h=>exact⟨_,_,rfl,cn _,h⟩
 |slice hn _ hc hm=>subst hn;exact⟨_,_,rfl,hc,hm⟩
def Rd.aBQ {w:World}{X:Nat->Prop}{β:List Tr}{v:Value}{i off:Nat}(h:Rd w X β v (.box i off)):∃t b,β[i]? =some t/\t.b=some b/\v= .pointer (some ⟨b,off,none⟩):=by
 cases h with|box h hb=>exact⟨_,_,h,hb,rfl⟩
def Rd.aCQ {w:World}{X:Nat->Prop}{β:List Tr}{v:Value}{i off:Nat}(h:Rd w X β v (.oel i off)):∃t b,β[i]? =some t/\t.b=some b/\v= .pointer (some ⟨b,off,none⟩):=by
 cases h with|oel h hb=>exact⟨_,_,h,hb,rfl⟩
def Rd.aBS {w:World}{X:Nat->Prop}{β:List Tr}{v:Value}{i:Nat}(h:Rd w X β v (.own i)):∃t,β[i]? =some t/\v=t.val:=by
 cases h with|own h=>exact⟨_,h,rfl⟩
def vN (E:Env P g)(s:S)(op:Op)(U:V):Prop:=
 ∀(β:List Tr) (a:Act) (w:World),RelB E s β a w->∀o:Oper,o.op=op->∃v,(∀w',Ext w w'->(execOp a.eval o).run P w'= .ok (.value v) w')/\Rd w (E.X β) β v U
section
variable {E:Env P g} {s:S}
def bZ (k:IntKind)(n:Int):k.min<=k.wrap n/\k.wrap n<=k.max:=by
 cases k<;>simp[IntKind.wrap,IntKind.min,IntKind.max,IntKind.bits,IntKind.signed]<;>omega
def add {x y:Operand}{k:IntKind}{m n:Int}{t u:TypeId}(hx:Ev E s x (.int k m))(hy:Ev E s y (.int k n)):vN E s (.binOp .add t x y u) (.int k (k.wrap (m+n))):=λβ a w r o ho=>
 ⟨_,λw' _=>by simp[execOp,ho,(hx β a w r).aAK.1,(hy β a w r).aAK.1,eqGuard_at_int,binOp_add,Op.intArith], .int (bZ _ _).1 (bZ _ _).2⟩
def sub {x y:Operand}{k:IntKind}{m n:Int}{t u:TypeId}(hx:Ev E s x (.int k m))(hy:Ev E s y (.int k n)):vN E s (.binOp .sub t x y u) (.int k (k.wrap (m-n))):=λβ a w r o ho=>
 ⟨_,λw' _=>by simp[execOp,ho,(hx β a w r).aAK.1,(hy β a w r).aAK.1,eqGuard_at_int,binOp_sub,Op.intArith], .int (bZ _ _).1 (bZ _ _).2⟩
def mul {x y:Operand}{k:IntKind}{m n:Int}{t u:TypeId}(hx:Ev E s x (.int k m))(hy:Ev E s y (.int k n)):vN E s (.binOp .mul t x y u) (.int k (k.wrap (m*n))):=λβ a w r o ho=>
 ⟨_,λw' _=>by simp[execOp,ho,(hx β a w r).aAK.1,(hy β a w r).aAK.1,eqGuard_at_int,binOp_mul,Op.intArith], .int (bZ _ _).1 (bZ _ _).2⟩
def lss {x y:Operand}{k:IntKind}{m n:Int}{t u:TypeId}(hx:Ev E s x (.int k m))(hy:Ev E s y (.int k n)):vN E s (.binOp .lss t x y u) (.bool (decide (m<n))):=λβ a w r o ho=>
 ⟨_,λw' _=>by simp[execOp,ho,(hx β a w r).aAK.1,(hy β a w r).aAK.1,eqGuard_at_int,binOp_lss], .bool⟩
def leq {x y:Operand}{k:IntKind}{m n:Int}{t u:TypeId}(hx:Ev E s x (.int k m))(hy:Ev E s y (.int k n)):vN E s (.binOp .leq t x y u) (.bool (decide (m<=n))):=λβ a w r o ho=>
 ⟨_,λw' _=>by simp[execOp,ho,(hx β a w r).aAK.1,(hy β a w r).aAK.1,eqGuard_at_int,binOp_leq], .bool⟩
def gtr {x y:Operand}{k:IntKind}{m n:Int}{t u:TypeId}(hx:Ev E s x (.int k m))(hy:Ev E s y (.int k n)):vN E s (.binOp .gtr t x y u) (.bool (decide (m>n))):=λβ a w r o ho=>
 ⟨_,λw' _=>by simp[execOp,ho,(hx β a w r).aAK.1,(hy β a w r).aAK.1,eqGuard_at_int,binOp_gtr], .bool⟩
def geq {x y:Operand}{k:IntKind}{m n:Int}{t u:TypeId}(hx:Ev E s x (.int k m))(hy:Ev E s y (.int k n)):vN E s (.binOp .geq t x y u) (.bool (decide (m>=n))):=λβ a w r o ho=>
 ⟨_,λw' _=>by simp[execOp,ho,(hx β a w r).aAK.1,(hy β a w r).aAK.1,eqGuard_at_int,binOp_geq], .bool⟩
def eql {x y:Operand}{k:IntKind}{m n:Int}{t u:TypeId}(hx:Ev E s x (.int k m))(hy:Ev E s y (.int k n)):vN E s (.binOp .eql t x y u) (.bool (m==n)):=λβ a w r o ho=>
 ⟨_,λw' _=>by simp[execOp,ho,(hx β a w r).aAK.1,(hy β a w r).aAK.1,eqGuard_at_int,binOp_eql], .bool⟩
def neq {x y:Operand}{k:IntKind}{m n:Int}{t u:TypeId}(hx:Ev E s x (.int k m))(hy:Ev E s y (.int k n)):vN E s (.binOp .neq t x y u) (.bool (m !=n)):=λβ a w r o ho=>
 ⟨_,λw' _=>by simp[execOp,ho,(hx β a w r).aAK.1,(hy β a w r).aAK.1,eqGuard_at_int,binOp_neq], .bool⟩
def quo {x y:Operand}{k:IntKind}{m n:Int}{t u:TypeId}(hn:n≠0)(hx:Ev E s x (.int k m))(hy:Ev E s y (.int k n)):vN E s (.binOp .quo t x y u) (.int k (k.wrap (m.tdiv n))):=λβ a w r o ho=>
 ⟨_,λw' _=>by simp[execOp,ho,(hx β a w r).aAK.1,(hy β a w r).aAK.1,eqGuard_at_int,binOp_quo,Op.intDiv,hn], .int (bZ _ _).1 (bZ _ _).2⟩
def aFl (k:IntKind)(m n:Int)(h1:k.min<=m)(h2:m<=k.max):k.min<=m.tmod n/\m.tmod n<=k.max:=by
 have h0:k.min<=0:=by cases k<;>decide
 have h3:0<=k.max:=by cases k<;>decide
 have hlt:(m.tmod n).natAbs<=m.natAbs:=by rw[Int.natAbs_tmod];exact Nat.mod_le _ _
 have hs:0<=m->0<=m.tmod n:=λh=>eR _ h
 have hs':m<=0->m.tmod n<=0:=λh=>by
  have h4:0<=(-m).tmod n:=eR _ (by omega)
  rw[Int.neg_tmod] at h4
  omega
 rcases Int.le_total 0 m with h|h
 ·have:=hs h;omega
 ·have:=hs' h;omega
def rem {x y:Operand}{k:IntKind}{m n:Int}{t u:TypeId}(hn:n≠0)(hx:Ev E s x (.int k m))(hy:Ev E s y (.int k n)):vN E s (.binOp .rem t x y u) (.int k (m.tmod n)):=λβ a w r o ho=>
 have hm:=(hx β a w r).aAK
 ⟨_,λw' _=>by simp[execOp,ho,(hx β a w r).aAK.1,(hy β a w r).aAK.1,eqGuard_at_int,binOp_rem,Op.intDiv,hn], .int (aFl _ _ _ hm.2.1 hm.2.2).1 (aFl _ _ _ hm.2.1 hm.2.2).2⟩
def cnv {x:Operand}{k j:IntKind}{n:Int}{t u:TypeId}(ht:(P.underlying t).isSome=true)(hu:P.underlying u=some (.int j))(hx:Ev E s x (.int k n)):vN E s (.convert t u x) (.int j (j.wrap n)):=λβ a w r o ho=>
 ⟨_,λw' _=>by
  obtain⟨d,hd⟩:=Option.isSome_iff_exists.1 ht
  simp[execOp,ho,(hx β a w r).aAK.1,convert,run_underlying hu,run_underlying hd,Conv.intToInt], .int (bZ _ _).1 (bZ _ _).2⟩
def not_ {x:Operand}{b:Bool}{t:TypeId}(hx:Ev E s x (.bool b)):vN E s (.unOp .not t x) (.bool (!b)):=λβ a w r o ho=>
 ⟨_,λw' _=>by simp[execOp,ho,(hx β a w r).aAU,Op.unary], .bool⟩
def bJ9 {x:Operand}{k:IntKind}{n:Int}{t:TypeId}(hx:Ev E s x (.int k n)):vN E s (.unOp .neg t x) (.int k (k.wrap (0-n))):=λβ a w r o ho=>
 ⟨_,λw' _=>by simp[execOp,ho,(hx β a w r).aAK.1,Op.unary,Op.intArith], .int (bZ _ _).1 (bZ _ _).2⟩
def bKa {x y:Operand}{m n:ByteArray}{t u:TypeId}(hs:m.size+n.size<=9223372036854775807)(hx:Ev E s x (.str m))(hy:Ev E s y (.str n)):vN E s (.binOp .add t x y u) (.str (m++n)):=λβ a w r o ho=>
 ⟨_,λw' _=>by simp[execOp,ho,(hx β a w r).aAR.1,(hy β a w r).aAR.1,eqGuard_at_string,binOp_string_add,run_string_add_sum _ _ _ hs], .str (by simp[ByteArray.size_append];unfold maxLen;omega)⟩
def bKb {x y:Operand}{m n:ByteArray}{t u:TypeId}(hx:Ev E s x (.str m))(hy:Ev E s y (.str n)):vN E s (.binOp .eql t x y u) (.bool (m.toList==n.toList)):=λβ a w r o ho=>
 ⟨_,λw' _=>by simp[execOp,ho,(hx β a w r).aAR.1,(hy β a w r).aAR.1,eqGuard_at_string,binOp_string_eql], .bool⟩
def sne {x y:Operand}{m n:ByteArray}{t u:TypeId}(hx:Ev E s x (.str m))(hy:Ev E s y (.str n)):vN E s (.binOp .neq t x y u) (.bool (!(m.toList==n.toList))):=λβ a w r o ho=>
 ⟨_,λw' _=>by simp[execOp,ho,(hx β a w r).aAR.1,(hy β a w r).aAR.1,eqGuard_at_string,binOp_string_neq], .bool⟩
def bKc {x y:Operand}{m n:Bool}{t u:TypeId}(ht:P.underlying t=some .bool)(hx:Ev E s x (.bool m))(hy:Ev E s y (.bool n)):vN E s (.binOp .eql t x y u) (.bool (m==n)):=λβ a w r o ho=>
 ⟨_,λw' _=>by simp[execOp,ho,(hx β a w r).aAU,(hy β a w r).aAU,eqGuard_at_bool,run_eql_bool _ _ _ _ ht], .bool⟩
def bKd {x y:Operand}{m n:Bool}{t u:TypeId}(ht:P.underlying t=some .bool)(hx:Ev E s x (.bool m))(hy:Ev E s y (.bool n)):vN E s (.binOp .neq t x y u) (.bool (!(m==n))):=λβ a w r o ho=>
 ⟨_,λw' _=>by simp[execOp,ho,(hx β a w r).aAU,(hy β a w r).aAU,eqGuard_at_bool,run_neq_bool _ _ _ _ ht], .bool⟩
end
end Go.VK

namespace Go.VK
open Go.RowKit
variable {P:Program} {g:GI}
def aWk (P:Program)(t:TypeId)(n:Nat):Bool:=
 (match P.underlying t with|some (.struct _)=>true|some (.array _ _)=>true|_=>false)&&(match P.info? t with|some i=>i.size==n|none=>false)
def Gr (P:Program)(t:TypeId):Bool:=
 (match P.underlying t with|some (.struct _)=>false|some (.array _ _)=>false|some _=>true|none=>false)&&(match P.info? t with|some i=>i.size==1|none=>false)
def aYq (P:Program)(t f off:Nat):Bool:=
 match P.underlying t with
 |some (.struct fs)=>(match fs[f]? with|some fd=>fd.offset==off&&(match P.info? fd.type with|some i=>i.size !=0|none=>false)|none=>false)
 |_=>false
def slB (P:Program)(t e k bytes:Nat):Bool:=
 (match P.underlying t with|some (.slice e')=>e'==e|_=>false)&&(match P.info? e with|some i=>i.size==k&&i.bytes==bytes&&k !=0&&(match i.zero with|some z=>z.cells.size==k|none=>false)|none=>false)
section
variable {w:World}
def sH {t n:Nat}(h:aWk P t n=true):(isAgg t).run P w= .ok true w/\(sizeOf t).run P w= .ok n w:=by
 simp only[aWk,aa] at h
 obtain⟨h1,h2⟩:=h
 constructor
 ·cases hu:P.underlying t with
  |none=>simp[hu] at h1
  |some d=>cases d<;>simp[hu] at h1<;>simp[isAgg,run_underlying hu]
 ·cases hi:P.info? t with
  |none=>simp[hi] at h2
  |some i=>simp[hi] at h2;simp[sizeOf,typeInfo,hi,h2]
def oD {t:Nat}(h:Gr P t=true):(isAgg t).run P w= .ok false w/\(sizeOf t).run P w= .ok 1 w:=by
 simp only[Gr,aa] at h
 obtain⟨h1,h2⟩:=h
 constructor
 ·cases hu:P.underlying t with
  |none=>simp[hu] at h1
  |some d=>cases d<;>simp[hu] at h1<;>simp[isAgg,run_underlying hu]
 ·cases hi:P.info? t with
  |none=>simp[hi] at h2
  |some i=>simp[hi] at h2;simp[sizeOf,typeInfo,hi,h2]
def aFm {t f off:Nat}(h:aYq P t f off=true)(a:Addr):(Instr.fieldAt t (.pointer (some a)) f).run P w= .ok (.pointer (some (a.add off))) w:=by
 unfold aYq at h
 cases hu:P.underlying t with
 |none=>simp[hu] at h
 |some d=>
  cases d<;>simp[hu] at h
  rename_i fs
  cases hf:fs[f]? with
  |none=>simp[hf] at h
  |some fd=>
   simp[hf] at h
   obtain⟨h1,h2⟩:=h
   cases hi:P.info? fd.type with
   |none=>simp[hi] at h2
   |some i=>
    simp[hi] at h2
    simp[Instr.fieldAt,run_underlying hu,hf,Instr.sureAddr,fieldPlace,sizeOf,typeInfo,hi,h2,h1]
def dV {t e k bytes:Nat}(h:slB P t e k bytes=true):P.underlying t=some (.slice e)/\∃i z,P.info? e=some i/\i.zero=some z/\i.size=k/\i.bytes=bytes/\z.cells.size=k/\0<k:=by
 simp only[slB,aa] at h
 obtain⟨h1,h2⟩:=h
 constructor
 ·cases hu:P.underlying t with
  |none=>simp[hu] at h1
  |some d=>cases d<;>simp[hu] at h1;simp[h1]
 ·cases hi:P.info? e with
  |none=>simp[hi] at h2
  |some i=>
   simp[hi] at h2
   obtain⟨⟨⟨a1,a2⟩,a3⟩,a4⟩:=h2
   cases hz:i.zero with
   |none=>simp[hz] at a4
   |some z=>simp[hz] at a4;exact⟨i,z,rfl,hz,a1,a2,a4,by omega⟩
def aB5 {t:Nat}(h:Gr P t=true){a:Addr}{v:Value}(hc:w.cell? a=some v):(loadVar t a).run P w= .ok v w:=by
 simp[loadVar,(oD (w:=w) h).1,hc]
def aB6 {t:Nat}{vs:List Value}(h:aWk P t vs.length=true){a:Addr}(hc:∀(j:Nat) (v:Value),vs[j]? =some v->w.cell? (a.add j)=some v):(loadVar t a).run P w= .ok (.agg vs.toArray) w:=by
 simp[loadVar,(sH (w:=w) h).1,(sH (w:=w) h).2,run_loadCells_list w a vs hc]
end
inductive Dr:List V->Nat->List V->Prop
 |z {l:List V}:Dr l 0 l
 |s {x:V} {l l':List V} {n:Nat} (h:Dr l n l'):Dr (x::l) (n+1) l'
inductive Tk:List V->Nat->List V->Prop
 |z {l:List V}:Tk l 0 []
 |s {x:V} {l l':List V} {n:Nat} (h:Tk l n l'):Tk (x::l) (n+1) (x::l')
def Tk.len {l l':List V}{n:Nat}(h:Tk l n l'):l'.length=n:=by induction h<;>simp_all
section
variable {E:Env P g} {s:S}
def eF (b o n:Nat):(⟨b,o,none⟩:Addr).add n=⟨b,o+n,none⟩:=by unfold Addr.add;split<;>simp_all
def aLu {β:List Tr}{a:Act}{w:World}(r:RelB E s β a w){i T:Nat}{cs:List V}(hi:At s.o i (.box T cs)){t:Tr}{b:Nat}(hb:β[i]? =some t)(htb:t.b=some b):
  ∃vs:List Value,w.heap[b]? =some (.cells vs.toArray T (0,0))/\vs.length=cs.length/\∀(i:Nat) (v:Value) (c:V),vs[i]? =some v->cs[i]? =some c->Rd w (E.X β) β v c:=by
 obtain⟨b',vs,h1,h2,h3,h4⟩:=r.objs i t _ hb hi.get
 rw[htb] at h1
 injection h1 with h1
 subst h1
 exact⟨vs,h2,h3,h4⟩
def add_add' (a:Addr)(m n:Nat):(a.add m).add n=a.add (m+n):=by
 unfold Addr.add;by_cases h1:m=0<;>by_cases h2:n=0<;>simp[h1,h2,fN]
def add_block (a:Addr)(n:Nat):(a.add n).block=a.block:=by unfold Addr.add;split<;>rfl
def ix {x y:Operand}{t e k b:Nat}{es:List (List V)}{kk:IntKind}{m:Int}{c:List V}(ht:slB P t e k b=true)(h0:0<=m)(hm:es[m.toNat]? =some c)
  (hx:Ev E s x (.slice k es)) (hy:Ev E s y (.int kk m)):vN E s (.indexAddr t x y) (.elem c):=λβ a w rl op ho=>by
 obtain⟨hu,i,z,hi,hz,hik,hib,hzk,hk0⟩:=dV ht
 have h1:=hx β a w rl
 have h2:=(hy β a w rl).aAK.1
 have hlt:=(ax.1 hm).1
 cases hv:a.eval x with
 |slice A n cc=>
  rw[hv] at h1
  cases h1 with
  |slice0=>simp at hlt
  | @slice _ ad _ _ _ _ val hn hpos hc hmx hX hb hk hcell hrd=>
   refine⟨.pointer (some (ad.add (m.toNat*k))),λw' _=> ?_,?_⟩
   ·have hmn:m<n:=by omega
    simp[execOp,ho,hv,h2,Instr.indexAt,asIntOf,run_underlying hu,sizeOf,typeInfo,hi,hik,h0,hmn]
   ·refine .elem (val:=λj=>val m.toNat j) (by rw[add_block];exact hX) (by rw[add_block];exact hb) (λj d hj=> ?_) (λj d hj=>hrd _ j _ d hm hj)
    rw[add_add'];exact hcell _ j _ d hm hj
 |_=>rw[hv] at h1;cases h1
def ixm {α:Type}{x y:Operand}{t e k b:Nat}{l:List α}{f:α->List V}{kk:IntKind}{m:Int}{c:α}(ht:slB P t e k b=true)(h0:0<=m)(hm:l[m.toNat]? =some c)
  (hx:Ev E s x (.slice k (l.map f))) (hy:Ev E s y (.int kk m)):vN E s (.indexAddr t x y) (.elem (f c)):=
 ix ht h0 (by rw[aE,hm];rfl) hx hy
def aUq {w:World}{t:Nat}{a:Act}{x:Operand}{A:Option Addr}{n c:Nat}{e:Nat}(hu:P.underlying t=some (.slice e))(hv:a.eval x= .slice A n c){o:Oper}
  (ho:o.op= .call {callee:= .builtin .len,args:= #[x],argTypes:= #[t]}):(execOp a.eval o).run P w= .ok (.value (.int .i64 n)) w:=by
 simp[execOp,ho,resolve,invoke,builtin,hv,Builtin.len_,run_underlying hu,goInt]
def lens {x:Operand}{t e k b k':Nat}{es:List (List V)}(ht:slB P t e k b=true)(hx:Ev E s x (.slice k' es)):vN E s (.call {callee:= .builtin .len,args:= #[x],argTypes:= #[t]}) (.int .i64 (es.length:Int)):=λβ a w rl op ho=>by
 obtain⟨A,c,h1,h2,h3⟩:=(hx β a w rl).aBD
 refine⟨_,λw' _=>aUq (dV ht).1 h1 ho, .int ?_ ?_⟩
 ·simp[IntKind.min,IntKind.signed,IntKind.bits]
 ·unfold maxLen at h3;simp[IntKind.max,IntKind.signed,IntKind.bits];omega
def bKe {α:Type}{x:Operand}{t e k b k':Nat}{l:List α}{f:α->List V}(ht:slB P t e k b=true)(hx:Ev E s x (.slice k' (l.map f))):vN E s (.call {callee:= .builtin .len,args:= #[x],argTypes:= #[t]}) (.int .i64 (l.length:Int)):=by
 have:=lens ht hx
 rwa [bc] at this
def bKf {x:Operand}{t e k b:Nat}(ht:slB P t e k b=true)(hx:Ev E s x .nil):vN E s (.call {callee:= .builtin .len,args:= #[x],argTypes:= #[t]}) (.int .i64 0):=λβ a w rl op ho=>
 ⟨_,λw' _=>aUq (dV ht).1 (hx β a w rl).aBL ho, .int (by decide) (by decide)⟩
def bKg {x:Operand}{t:Nat}{m:ByteArray}(ht:P.underlying t=some .string)(hx:Ev E s x (.str m)):vN E s (.call {callee:= .builtin .len,args:= #[x],argTypes:= #[t]}) (.int .i64 (m.size:Int)):=λβ a w rl op ho=>by
 obtain⟨h1,h2⟩:=(hx β a w rl).aAR
 refine⟨_,λw' _=>by simp[execOp,ho,resolve,invoke,builtin,h1,Builtin.len_,run_underlying ht,goInt], .int ?_ ?_⟩
 ·simp[IntKind.min,IntKind.signed,IntKind.bits]
 ·unfold maxLen at h2;simp[IntKind.max,IntKind.signed,IntKind.bits];omega
end
end Go.VK

namespace Go.VK
open Go.RowKit
variable {P:Program} {g:GI}
def V.one:V->Bool
 | .agg _| .tup _| .any| .und=>false
 |_=>true
def mH:List V->Bool
 |[]=>true
 |c::cs=>c.one&&mH cs
def aFn {cs:List V}(h:mH cs=true):∀(i:Nat) (c:V),cs[i]? =some c->c.one=true:=by
 induction cs with
 |nil=>intro i c hc;simp at hc
 |cons x xs ih=>
  simp only[mH,aa] at h
  intro i c hc
  cases i with
  |zero=>simp at hc;rw[<-hc];exact h.1
  |succ i=>exact ih h.2 i c (by simpa using hc)
def Rd.one {w:World}{X:Nat->Prop}{β:List Tr}{v:Value}{U:V}(h:Rd w X β v U)(h1:U.one=true):v.oneCell'=true:=by
 cases h<;>first|rfl|(simp[V.one] at h1)
def Lc {v:Value}(h:v.oneCell'=true):v.cells= #[v]:=by cases v<;>simp_all [Value.oneCell',Value.cells]
def SOp (E:Env P g)(s:S)(op:Op)(d:Option Nat)(s':S)(e:Bool):Prop:=
 ∀(β:List Tr) (a:Act) (w:World),RelB E s β a w->∀o:Oper,o.op=op->o.dst=d->∃v w' β',
  ((execOp a.eval o).run P w= .ok (.value v) w'\/((execOp a.eval o).run P w= .ok .skip w'/\v=undef))/\RelB E s' β' (a.put d v) w'/\(e=true->Ext w w')
inductive Sn:List Ob->Ob->Nat->List Ob->Prop
 |z {x:Ob}:Sn [] x 0 [x]
 |s {x y:Ob} {l l':List Ob} {n:Nat} (h:Sn l x n l'):Sn (y::l) x (n+1) (y::l')
def Sn.eq {l l':List Ob}{x:Ob}{n:Nat}(h:Sn l x n l'):l'=l++[x]/\n=l.length:=by
 induction h with
 |z=>simp
 |s _ ih=>simp[ih.1,ih.2]
inductive UpO:List Ob->Nat->Ob->List Ob->Prop
 |z {x y:Ob} {l:List Ob}:UpO (x::l) 0 y (y::l)
 |s {x y:Ob} {l l':List Ob} {n:Nat} (h:UpO l n y l'):UpO (x::l) (n+1) y (x::l')
section
variable {E:Env P g} {s:S}
def Ob.ok.conv {w w':World}{X X':Nat->Prop}{β β':List Tr}{t:Tr}{o:Ob}(h:o.ok w X β t)(hsz:w.heap.size<=w'.heap.size)
  (hX:∀b,b<w.heap.size->X' b->X b) (hcell:∀(p:Addr) (u:Value),¬X p.block->w.cell? p=some u->w'.cell? p=some u)
  (hβ:∀(i:Nat) (t:Tr),β[i]? =some t->β'[i]? =some t) (hh:∀b,t.b=some b->w'.heap[b]? =w.heap[b]?):o.ok w' X' β' t:=by
 cases o with
 |box T cs=>
  obtain⟨b,vs,h1,h2,h3,h4⟩:=h
  exact⟨b,vs,h1,by rw[hh b h1];exact h2,h3,λi v c h5 h6=>(h4 i v c h5 h6).conv hsz hX hcell hβ⟩
 |row T k es=>
  obtain⟨h1,h2,xs,h3,h4⟩:=h
  refine⟨h1,h2,xs,?_,λi j e d k1 k2=>let ⟨v,k3,k4,k5⟩:=h4 i j e d k1 k2;⟨v,k3,k4,k5.conv hsz hX hcell (λ_ _ h=>h)⟩⟩
  obtain⟨a1,a2⟩:=h3
  refine⟨a1,a2.imp id ?_⟩
  rintro⟨gg,cap,cur,c1,c2,c3,c4⟩
  refine⟨gg,cap,cur,c1,c2,?_,c4⟩
  rw[hh gg ?_]
  ·exact c3
  ·cases hb:t.b with
   |none=>simp[Tr.val,hb] at c1
   |some b=>simp[Tr.val,hb] at c1;rw[c1.1]
def RelB.aBY {β:List Tr}{a:Act}{w w':World}(r:RelB E s β a w){t:Tr}{x:Ob}{n:Nat}{o':List Ob}(hs:Sn s.o x n o')(he:Ext w w')
  (hb:∀b,t.b=some b->w.heap.size<=b/\b<w'.heap.size) (hok:x.ok w' (E.X (β++[t])) (β++[t]) t):RelB E ⟨s.t,o'⟩ (β++[t]) a w'/\(β++[t])[n]? =some t:=by
 have hX:∀b,b<w.heap.size->E.X (β++[t]) b->E.X β b:=by
  rintro b hlt (h|⟨u,hu,hub⟩)
  ·exact .inl h
  ·rcases bz.1 hu with hu|hu
   ·exact .inr ⟨u,hu,hub⟩
   ·simp at hu;subst hu;have:=(hb b hub).1;omega
 have hβ:∀(i:Nat) (u:Tr),β[i]? =some u->(β++[t])[i]? =some u:=λi u h=>by
  rw[ao (ax.1 h).1];exact h
 have hget:∀(i:Nat) (u:Tr),(β++[t])[i]? =some u->β[i]? =some u\/(i=β.length/\u=t):=λi u h=>by
  by_cases hi:i<β.length
  ·rw[ao hi] at h;exact .inl h
  ·have hlt:=(ax.1 h).1
   simp at hlt
   have:i=β.length:=by omega
   subst this
   simp at h
   exact .inr ⟨rfl,h.symm⟩
 obtain⟨e1,e2⟩:=hs.eq
 refine⟨{ext:=r.ext.trans he,defers:=r.defers,tsz:=r.tsz,tmps:=λn U h=>(r.tmps n U h).conv he.size hX (λ_ _ _ hc=>he.cell hc) hβ,blen:=by rw[e1];simp[r.blen],new:= ?_,dist:= ?_,objs:= ?_},by rw[e2,<-r.blen];simp⟩
 ·intro i u b hi hub
  rcases hget i u hi with h|⟨_,rfl⟩
  ·have:=r.new i u b h hub;exact⟨this.1,cg this.2 he.size⟩
  ·have:=hb b hub;exact⟨bw r.ext.size this.1,this.2⟩
 ·intro i j u v b hij hi hj hub hvb
  rcases hget i u hi with h|⟨h1,rfl⟩<;>rcases hget j v hj with k|⟨k1,rfl⟩
  ·exact r.dist i j u v b hij h k hub hvb
  ·have:=(r.new i u b h hub).2;have:=(hb b hvb).1;omega
  ·have:=(r.new j v b k hvb).2;have:=(hb b hub).1;omega
  ·omega
 ·intro i u o hi ho
  simp only[e1] at ho
  rcases hget i u hi with h|⟨h1,rfl⟩
  ·have hil:i<s.o.length:=by rw[<-r.blen];exact(ax.1 h).1
   rw[ao hil] at ho
   exact(r.objs i u o h ho).conv he.size hX (λ_ _ _ hc=>he.cell hc) hβ (λb hb'=>he.block b (r.new i u b h hb').2)
  ·have hol:s.o.length=β.length:=r.blen.symm
   rw[h1,<-hol] at ho
   simp at ho
   rw[<-ho]
   exact hok
def bx {x:Operand}{T d n:Nat}{cs:List V}{t':List V}{o':List Ob}(h1:mH cs=true)(hn:Sn s.o (.box T cs) n o')(hu:Upd s.t d (.box n 0) t')(h:Ev E s x (.agg cs)):SOp E s (.box T x) (some d) ⟨t',o'⟩ true:=λβ a w r o ho hd=>by
 obtain⟨vs,k1,k2,k3⟩:=(h β a w r).aBA
 have he:Ext w (w.alloc (.cells vs T)):=Ext.alloc _ _
 obtain⟨r1,r2⟩:=r.aBY (t:=⟨some w.heap.size,0,0⟩) hn he (λb hb=>by injection hb with hb;subst hb;simp) (by
  refine⟨w.heap.size,vs.toList,rfl,by simpa using heap_alloc_new w _,by simpa using k2,λi v c h5 h6=> ?_⟩
  refine(k3 i v c (by simpa using h5) h6).conv he.size ?_ (λ_ _ _ hc=>he.cell hc) (λi u h=>by rw[ao (ax.1 h).1];exact h)
  rintro b hlt (h|⟨u,hu,hub⟩)
  ·exact .inl h
  ·rcases bz.1 hu with hu|hu
   ·exact .inr ⟨u,hu,hub⟩
   ·simp at hu;subst hu;injection hub with hub;omega)
 refine⟨.pointer (some ⟨w.heap.size,0,none⟩),_,_, .inl ?_,r1.put (.box r2 rfl) hu,λ_=>he⟩
 simp[execOp,ho,k1,Instr.box,newVar,newRow,Value.cells]
def zV:Value->Option V
 | .int k n=>if k.min<=n&&n<=k.max then some (.int k n) else none
 | .bool b=>some (.bool b)
 | .string s=>if s.size<=1000 then some (.str s) else none
 | .slice none 0 0=>some .nil
 |_=>none
def zVs:List Value->Option (List V)
 |[]=>some []
 |v::vs=>match zV v,zVs vs with|some c,some cs=>some (c::cs)|_,_=>none
def aE5 (P:Program)(t:TypeId):Option (List V):=match P.info? t with|some i=>(match i.zero with|some z=>zVs z.cells.toList|none=>none)|none=>none
def bIk {w:World}{X:Nat->Prop}{β:List Tr}{v:Value}{c:V}(h:zV v=some c):Rd w X β v c/\c.one=true:=by
 cases v<;>simp[zV] at h
 case int k n=>obtain⟨h1,h2⟩:=h;subst h2;exact⟨.int h1.1 h1.2,rfl⟩
 case bool b=>subst h;exact⟨.bool,rfl⟩
 case string s=>obtain⟨h1,h2⟩:=h;subst h2;exact⟨.str (by unfold maxLen;omega),rfl⟩
 case slice A n c=>cases A<;>cases n<;>cases c<;>simp at h;subst h;exact⟨.nil,rfl⟩
def aNw {w:World}{X:Nat->Prop}{β:List Tr}:∀{vs:List Value} {cs:List V},zVs vs=some cs->vs.length=cs.length/\∀(i:Nat) (v:Value) (c:V),vs[i]? =some v->cs[i]? =some c->Rd w X β v c/\c.one=true
 |[],cs,h=>by simp[zVs] at h;subst h;simp
 |v::vs,cs,h=>by
  simp only[zVs] at h
  cases h1:zV v with
  |none=>simp[h1] at h
  |some c=>
   cases h2:zVs vs with
   |none=>simp[h1,h2] at h
   |some ds=>
    simp[h1,h2] at h
    subst h
    have ih:=aNw (w:=w) (X:=X) (β:=β) h2
    refine⟨by simp[ih.1],λi v' c' h5 h6=> ?_⟩
    cases i with
    |zero=>simp at h5 h6;subst h5;subst h6;exact bIk h1
    |succ i=>exact ih.2 i v' c' (by simpa using h5) (by simpa using h6)
def Xb {t:Nat}{cs:List V}(h:aE5 P t=some cs):∃i z,P.info? t=some i/\i.zero=some z/\zVs z.cells.toList=some cs:=by
 unfold aE5 at h
 cases hi:P.info? t with
 |none=>simp[hi] at h
 |some i=>
  cases hz:i.zero with
  |none=>simp[hi,hz] at h
  |some z=>exact⟨i,z,rfl,hz,by simpa[hi,hz] using h⟩
def al {T d n:Nat}{cs:List V}{t':List V}{o':List Ob}(hz:aE5 P T=some cs)(hn:Sn s.o (.box T cs) n o')(hu:Upd s.t d (.box n 0) t'):SOp E s (.alloc T) (some d) ⟨t',o'⟩ true:=λβ a w r o ho hd=>by
 obtain⟨i,z,hi,hz,hzs⟩:=Xb hz
 have he:Ext w (w.alloc (.cells z.cells T)):=Ext.alloc _ _
 obtain⟨r1,r2⟩:=r.aBY (t:=⟨some w.heap.size,0,0⟩) hn he (λb hb=>by injection hb with hb;subst hb;simp) (by
  refine⟨w.heap.size,z.cells.toList,rfl,by simpa using heap_alloc_new w _,(aNw (w:=w) (X:=E.X β) (β:=β) hzs).1,λi v c h5 h6=>(aNw hzs).2 i v c h5 h6|>.1⟩)
 refine⟨.pointer (some ⟨w.heap.size,0,none⟩),_,_, .inl ?_,r1.put (.box r2 rfl) hu,λ_=>he⟩
 simp[execOp,ho,Instr.alloc,zeroValue,typeInfo,hi,hz,newVar,newRow]
inductive Sp:List V->Nat->List V->List V->Prop
 |n {l:List V}:Sp l 0 [] l
 |z {x y:V} {l vs l':List V} (h:Sp l 0 vs l'):Sp (x::l) 0 (y::vs) (y::l')
 |s {x:V} {l vs l':List V} {n:Nat} (h:Sp l n vs l'):Sp (x::l) (n+1) vs (x::l')
def Sp.spec {l vs l':List V}{n:Nat}(h:Sp l n vs l'):n+vs.length<=l.length/\l'.length=l.length/\∀(j:Nat),l'[j]? =if n<=j/\j<n+vs.length then vs[j-n]? else l[j]? :=by
 induction h with
 |n=>simp
 | @z x y l vs l' _ ih=>
  refine⟨by simp at ih ⊢;omega,by simp[ih.2.1],λj=> ?_⟩
  cases j with
  |zero=>simp
  |succ j=>simp[ih.2.2 j]
 | @s x l vs l' n _ ih=>
  refine⟨by simp;omega,by simp[ih.2.1],λj=> ?_⟩
  cases j with
  |zero=>simp
  |succ j=>
   simp only[dq,ih.2.2 j,Nat.add_le_add_iff_right,gx]
   congr 1
   rw[eq_iff_iff]
   omega
def Be (w:World)(b:Nat)(cs:Array Value):(w.setRow b cs).heap.size=w.heap.size/\(w.setRow b cs).os=w.os/\(w.setRow b cs).tape=w.tape/\(w.setRow b cs).output=w.output/\∀k,k≠b->(w.setRow b cs).heap[k]? =w.heap[k]? :=by
 refine⟨size_setRow _ _ _,rfl,rfl,rfl,λk hk=> ?_⟩
 simp only[World.setRow,Array.getElem?_modify]
 rw[cJ (Ne.symm hk)]
def N9 {w:World}{T t b off:Nat}{vs cur:List Value}{v:Value}(hv:v.cells=vs.toArray)(hsz:(sizeOf t).run P w= .ok vs.length w)(hg:w.heap[b]? =some (.cells cur.toArray T (0,0)))(hl:off+vs.length<=cur.length)
  (h1:∀v∈vs,v.oneCell'=true):(storeVar t ⟨b,off,none⟩ v).run P w= .ok () (w.setRow b (cur.take off++vs++cur.drop (off+vs.length)).toArray):=by
 have:=run_storeCells_at P b off T vs 0 cur.toArray w hg (by simpa using hl) h1
 simp only[dz] at this
 simp[storeVar,hsz,hv,this]
def sI {α:Type}(cur vs:List α)(off j:Nat)(hl:off+vs.length<=cur.length):(cur.take off++vs++cur.drop (off+vs.length))[j]? =if off<=j/\j<off+vs.length then vs[j-off]? else cur[j]? :=by
 by_cases h1:j<off
 ·rw[ca,ao (by rw[ci];omega),eh,cr h1,cJ (by omega)]
 ·rw[ca,au (by rw[ci];omega),ci,show min off cur.length=off by omega]
  by_cases h2:j<off+vs.length
  ·rw[ao (by omega),cr ⟨by omega,h2⟩]
  ·rw[au (by omega),dn,cJ (by omega)]
   congr 1
   omega
end
end Go.VK

namespace Go.VK
open Go.RowKit
variable {P:Program} {g:GI}
def RdL (w:World)(X:Nat->Prop)(vs:List Value)(Us:List V):Prop:=vs.length=Us.length/\∀(i:Nat) (v:Value) (U:V),vs[i]? =some v->Us[i]? =some U->Rd w X [] v U
def Spec (P:Program)(g:GI)(f:FuncId)(Us:List V)(R:V->Prop):Prop:=
 (∀args w,(callFunc f args).run P w= .ok (.enter f args) w)/\
 ∀(w:World) (X:Nat->Prop) (vs:List Value),g.G w->(∀b,X b->b<w.heap.size)->RdL w X vs Us->
  Calls P f vs.toArray w λe w'=>∃v r,e= .returned v/\R r/\Rd w' X [] v r/\Ext w w'
section
variable {E:Env P g} {s:S}
def RF (E:Env P g)(ops:Array Oper)(l:List Oper)(F:S->Prop)(s:S):Prop:=
 ∀Q:Exit->Act->World->Prop,(∀s' a w,F s'->aW E s' a w->Q .normal a w)->∀a w,aW E s a w->wpList P ops Q l a w
def e {ops:Array Oper}{F:S->Prop}(h:F s):RF E ops [] F s:=λQ hQ a w r=>hQ s a w h r
def wpo {o:Oper}{K:Act->World->Prop}{Q:Exit->Act->World->Prop}{a:Act}{w w':World}{v:Value}(h:(execOp a.eval o).run P w= .ok (.value v) w'\/((execOp a.eval o).run P w= .ok .skip w'/\v=undef))(hk:K (a.put o.dst v) w'):o.wp P a w K Q:=by
 unfold Oper.wp
 rcases h with h|⟨h,rfl⟩<;>rw[h]<;>exact hk
def m {ops:Array Oper}{F:S->Prop}{rest:List Oper}{d ty:Nat}{op:Op}{pos:String}{af:Array Edge}{U:V}{t':List V}(h:vN E s op U)(hu:Upd s.t d U t')(hr:RF E ops rest F ⟨t',s.o⟩):
  RF E ops (⟨some d,op,ty,pos,af,none⟩::rest) F s:=λQ hQ a w ⟨β,r⟩=>by
 obtain⟨v,h1,h2⟩:=h β a w r ⟨some d,op,ty,pos,af,none⟩ rfl
 exact wpList_plain rfl λK hK=>wpo (.inl (h1 w (Ext.refl w))) (hK _ _ (hr Q hQ _ _ ⟨β,r.put h2 hu⟩))
def k {ops:Array Oper}{F:S->Prop}{rest:List Oper}{d:Option Nat}{ty:Nat}{op:Op}{pos:String}{af:Array Edge}{s':S}{b:Bool}(h:SOp E s op d s' b)(hr:RF E ops rest F s'):
  RF E ops (⟨d,op,ty,pos,af,none⟩::rest) F s:=λQ hQ a w ⟨β,r⟩=>by
 obtain⟨v,w',β',h1,h2,_⟩:=h β a w r ⟨d,op,ty,pos,af,none⟩ rfl rfl
 exact wpList_plain rfl λK hK=>wpo h1 (hK _ _ (hr Q hQ _ _ ⟨β',h2⟩))
def aSk {ops:List Oper}{j:Nat}{oj:Oper}{dj:Nat}{b:Bool}{β:List Tr}{a:Act}{w:World}(r:RelB E s β a w)(hj:At ops j oj)(hd:oj.dst=some dj)(hv:At s.t dj (.bool b)):yielded ops.toArray a.tmps j=some b:=by
 have h1:=(r.tmps dj _ hv.get).aAU
 have hlt:dj<a.tmps.size:=by rw[r.tsz];exact(ax.1 hv.get).1
 have h2:a.tmps[dj]? =some (.bool b):=by
  rw[cf,cC hlt] at h1
  rw[cC hlt];exact congrArg some h1
 simp[yielded,hj.get,hd,h2]
def aUr {β:List Tr}{a:Act}{w:World}(r:RelB E s β a w){n:Nat}{U:V}{t':List V}{b:Bool}(hv:At s.t n (.bool b))(hb:b=true\/b=false)(hu:Upd s.t n U t')(hU:U= .bool b):RelB E ⟨t',s.o⟩ β a w where
 ext:=r.ext
 defers:=r.defers
 tsz:=by rw[hu.eq.1];simpa using r.tsz
 tmps m V hm:=by
  simp only[hu.eq.1] at hm
  by_cases he:n=m
  ·subst he
   rw[bg (by have:=hu.eq.2;omega)] at hm
   injection hm with hm
   rw[<-hm,hU];exact r.tmps n _ hv.get
  ·rw[bf he] at hm
   exact r.tmps m V hm
 blen:=r.blen
 new:=r.new
 dist:=r.dist
 objs:=r.objs
def sp {ops:Array Oper}{l:List Oper}{F:S->Prop}{n:Nat}{b:Bool}{t1 t2:List V}(hv:At s.t n (.bool b))(h1:Upd s.t n (.bool true) t1)(h2:Upd s.t n (.bool false) t2)
  (ht:b=true->RF E ops l F ⟨t1,s.o⟩) (hf:b=false->RF E ops l F ⟨t2,s.o⟩):RF E ops l F s:=λQ hQ a w ⟨β,r⟩=>by
 cases b with
 |true=>exact ht rfl Q hQ a w ⟨β,aUr r hv (.inl rfl) h1 rfl⟩
 |false=>exact hf rfl Q hQ a w ⟨β,aUr r hv (.inr rfl) h2 rfl⟩
def QX (E:Env P g)(Q:Exit->Act->World->Prop)(e:Exit)(s:S):Prop:=∀a w,aW E s a w->Q e a w
def CW (E:Env P g)(c:Code)(N:S->Prop)(X:Nat->S->Prop)(R:S->Prop)(s:S):Prop:=
 ∀Q:Exit->Act->World->Prop,(∀s',N s'->QX E Q .normal s')->(∀i s',X i s'->QX E Q (.exit i) s')->(∀s',R s'->QX E Q .ret s')->∀a w,aW E s a w->c.wp P Q a w
variable {N:S->Prop} {X:Nat->S->Prop} {R:S->Prop}
def sq {x y:Code}(h:CW E x (λs'=>CW E y N X R s') X R s):CW E (.seq x y) N X R s:=λQ hN hX hR a w r=>
 wp_seq (h (Exit.then (y.wp P Q) Q) (λs' h' a w r=>h' Q hN hX hR a w r) (λi s' h'=>hX i s' h') (λs' h'=>hR s' h') a w r)
def rg {id:Nat}{l:List Oper}(h:RF E l.toArray l N s):CW E (.region id l.toArray false) N X R s:=λQ hN hX hR a w r=>
 wp_region_lit (h Q (λs' a w h' r'=>hN s' h' a w r') a w r)
def skp (h:N s):CW E .skip N X R s:=λQ hN _ _ a w r=>wp_skip (hN s h a w r)
def bk {id:Nat}{c:Code}(h:CW E c N (λi s'=>if i=id then N s' else X i s') R s):CW E (.block id c) N X R s:=λQ hN hX hR a w r=>
 wp_block (h (Exit.inBlock id Q) (λs' h'=>hN s' h') (λi s' h' a w r=>by
  simp only[Exit.inBlock]
  simp only at h'
  split at h'
  ·rename_i hi;rw[cr hi];exact hN s' h' a w r
  ·rename_i hi;rw[cJ hi];exact hX i s' h' a w r) (λs' h'=>hR s' h') a w r)
def x1 {id:Nat}{A:Prop}{B:Prop}(h:A):(if id=id then A else B):=by rw[cr rfl];exact h
def x2 {i j:Nat}{A:Prop}{B:Prop}(hij:(i==j)=false)(h:B):(if i=j then A else B):=by rw[cJ (by simpa using hij)];exact h
def Le (E:Env P g)(s s':S):Prop:=∀a w,aW E s a w->aW E s' a w
def wk {c:Code}{s':S}(hl:Le E s s')(h:CW E c N X R s'):CW E c N X R s:=λQ hN hX hR a w r=>h Q hN hX hR a w (hl a w r)
inductive EvL (E:Env P g) (s:S):List Operand->List V->Prop
 |n:EvL E s [] []
 |c {x:Operand} {U:V} {xs:List Operand} {Us:List V} (h:Ev E s x U) (hp:U.plain=true) (hr:EvL E s xs Us):EvL E s (x::xs) (U::Us)
def EvL.rd {xs:List Operand}{Us:List V}(h:EvL E s xs Us){β:List Tr}{a:Act}{w:World}(r:RelB E s β a w):RdL w (E.X β) (xs.map a.eval) Us:=by
 induction h with
 |n=>exact⟨rfl,by simp⟩
 | @c x U xs Us h hp hr ih=>
  refine⟨by simp[ih.1],λi v W h1 h2=> ?_⟩
  cases i with
  |zero=>simp at h1 h2;subst h1;subst h2;exact(h β a w r).aBP hp
  |succ i=>exact ih.2 i v W (by simpa using h1) (by simpa using h2)
def aBW {β:List Tr}{a:Act}{w:World}(r:RelB E s β a w)(b:Nat)(h:E.X β b):b<w.heap.size:=by
 rcases h with h|⟨t,ht,hb⟩
 ·exact cg (E.h0 b h) r.ext.size
 ·obtain⟨i,hi⟩:=cH.1 ht
  exact(r.new i t b hi hb).2
def aLw {f:FuncId}{xs:List Operand}{ats:Array TypeId}{a:Act}{w:World}{o:Oper}(ho:o.op= .call {callee:= .value (.func f),args:=xs.toArray,argTypes:=ats})
  (h:∀args w,(callFunc f args).run P w= .ok (.enter f args) w):(execOp a.eval o).run P w= .ok (.enter f (xs.map a.eval).toArray) w:=by
 simp[execOp,ho,resolve,Act.eval,Deferred.ofValue,invoke,h]
def COp (E:Env P g)(s:S)(op:Op)(R:V->Prop):Prop:=
 ∀(β:List Tr) (a:Act) (w:World),RelB E s β a w->∀o:Oper,o.op=op->∃f args,(execOp a.eval o).run P w= .ok (.enter f args) w/\
  Calls P f args w λe w'=>∃v r,e= .returned v/\R r/\Rd w' (E.X β) β v r/\Ext w w'
def call {f:FuncId}{xs:List Operand}{ats:Array TypeId}{Us:List V}{R':V->Prop}(hs:Spec P g f Us R')(ha:EvL E s xs Us):COp E s (.call {callee:= .value (.func f),args:=xs.toArray,argTypes:=ats}) R':=λβ a w r o ho=>
 ⟨f,_,aLw ho hs.1,(hs.2 w (E.X β) _ r.gw (aBW r) (ha.rd r)).mono λe w' ⟨v,r',h1,h2,h3,h4⟩=>⟨v,r',h1,h2,h3.conv (ak _) (λ_ _ h=>h) (λ_ _ _ h=>h) (λ_ _ h=>by simp at h),h4⟩⟩
def wpc {o:Oper}{K:Act->World->Prop}{Q:Exit->Act->World->Prop}{a:Act}{w:World}{f:FuncId}{args:Array Value}{R':Value->World->Prop}(h:(execOp a.eval o).run P w= .ok (.enter f args) w)
  (hc:Calls P f args w λe w'=>∃v,e= .returned v/\R' v w') (hk:∀v w',R' v w'->K (a.put o.dst v) w'):o.wp P a w K Q:=by
 unfold Oper.wp
 rw[h]
 refine Calls.mono hc ?_
 rintro e w' ⟨v,rfl,h⟩
 exact hk v w' h
def c {ops:Array Oper}{F:S->Prop}{rest:List Oper}{d ty:Nat}{op:Op}{pos:String}{af:Array Edge}{r0:V}{t':List V}(h:COp E s op (λr=>r=r0))(hu:Upd s.t d r0 t')(hr:RF E ops rest F ⟨t',s.o⟩):
  RF E ops (⟨some d,op,ty,pos,af,none⟩::rest) F s:=λQ hQ a w ⟨β,r⟩=>by
 obtain⟨f,args,h1,h2⟩:=h β a w r ⟨some d,op,ty,pos,af,none⟩ rfl
 refine wpList_plain rfl λK hK=>wpc h1 (R':=λv w'=>Rd w' (E.X β) β v r0/\Ext w w') (h2.mono ?_) ?_
 ·rintro e w' ⟨v,r',e1,rfl,e3,e4⟩;exact⟨v,e1,e3,e4⟩
 ·rintro v w' ⟨h3,h4⟩
  exact hK _ _ (hr Q hQ _ _ ⟨β,(r.extend h4).put h3 hu⟩)
section orders
variable {md:Region.Mode} {ops:Array Oper}
def eQ (a0:Option Nat)(listed:Array Bool):Bool:=match a0 with|none=>true|some a=> !listed.getD a false
def cZ (P:Program)(md:Region.Mode)(ops:Array Oper)(a0:Option Nat)(Q:Exit->Act->World->Prop)(S:World->Prop):Nat->Array Bool->Act->World->Prop
 |0,listed,a,w=>Region.ready md ops listed=[]/\Q .normal a w
 |fuel+1,listed,a,w=>
  (Region.ready md ops listed=[]->Q .normal a w)/\
  ∀i∈Region.ready md ops listed,wpOp P ops Q i (λa' w'=>(eQ a0 (listed.setIfInBounds i true)=true->S w')/\cZ P md ops a0 Q S fuel (listed.setIfInBounds i true) a' w') a w
def Dn (md:Region.Mode)(ops:Array Oper)(listed:Array Bool):Prop:=∀(j:Nat) (oj:Oper),ops[j]? =some oj->listed.getD j true=true->∀e∈oj.after,Region.binds md e=true->listed.getD e.on false=true
def aWl (md:Region.Mode)(ops:Array Oper):Nat->Nat->Nat->Bool
 |0,_,_=>false
 |f+1,cur,i=>match ops[cur]? with|none=>false|some o=>o.after.any λe=>Region.binds md e&&(e.on==i||aWl md ops f e.on i)
def Dn.set {listed:Array Bool}(h:Dn md ops listed){i:Nat}(hi:i∈Region.ready md ops listed):Dn md ops (listed.setIfInBounds i true):=λj oj hj hl e he hb=>by
 refine getD_set_true ?_
 by_cases hji:j=i
 ·subst hji
  obtain⟨_,o,ho,hall⟩:=mem_ready.1 hi
  rw[hj] at ho;injection ho with ho;subst ho
  exact hall e he hb
 ·rw[getD_set_ne true (Ne.symm hji)] at hl
  exact h j oj hj hl e he hb
def getD_in {l:Array Bool}{i:Nat}(h:l.getD i true=false):l.getD i false=false:=by
 rcases fc i l.size with h'|h'
 ·simpa[h'] using h
 ·simp[Array.getElem?_eq_none h'] at h
def Ld {listed:Array Bool}(h:Dn md ops listed){i:Nat}(hi:listed.getD i true=false):∀(f cur:Nat),aWl md ops f cur i=true->listed.getD cur true=false
 |0,_,hr=>by simp[aWl] at hr
 |f+1,cur,hr=>by
  simp only[aWl] at hr
  cases ho:ops[cur]? with
  |none=>simp[ho] at hr
  |some o=>
   simp only[ho,Array.any_eq_true',aa,ck,cF] at hr
   obtain⟨e,he,hb,hor⟩:=hr
   cases hc:listed.getD cur true with
   |false=>rfl
   |true=>
    have h1:=h cur o ho hc e he hb
    rcases hor with rfl|hor
    ·rw[getD_in hi] at h1;cases h1
    ·have h2:=Ld h hi f e.on hor
     rw[getD_in h2] at h1;cases h1
def kF {P:Program}{a0:Option Nat}{Q:Exit->Act->World->Prop}{S:World->Prop}:∀(fuel:Nat) (listed:Array Bool) (a:Act) (w:World),cZ P md ops a0 Q S fuel listed a w->wpAny P md ops Q fuel listed a w
 |0,_,_,_,h=>h
 |fuel+1,_,_,_,h=>⟨h.1,λi hi=>wpOp_mono (λa' w' h'=>kF fuel _ a' w' h'.2) (h.2 i hi)⟩
def pJ {P:Program}{a0:Option Nat}{Q:Exit->Act->World->Prop}{S S':World->Prop}(hS:∀w,S w->S' w):∀(fuel:Nat) (listed:Array Bool) (a:Act) (w:World),cZ P md ops a0 Q S fuel listed a w->cZ P md ops a0 Q S' fuel listed a w
 |0,_,_,_,h=>h
 |fuel+1,_,_,_,h=>⟨h.1,λi hi=>wpOp_mono (λa' w' h'=>⟨λhn=>hS w' (h'.1 hn),pJ hS fuel _ a' w' h'.2⟩) (h.2 i hi)⟩
def kG {a0:Option Nat}{listed:Array Bool}{i:Nat}(h:eQ a0 listed=false):eQ a0 (listed.setIfInBounds i true)=false:=by
 cases a0 with
 |none=>cases h
 |some a=>
  simp only[eQ,en] at h ⊢
  exact getD_set_true h
def lW {P:Program}{a0:Option Nat}{Q:Exit->Act->World->Prop}{S S':World->Prop}:∀(fuel:Nat) (listed:Array Bool) (a:Act) (w:World),eQ a0 listed=false->cZ P md ops a0 Q S fuel listed a w->cZ P md ops a0 Q S' fuel listed a w
 |0,_,_,_,_,h=>h
 |fuel+1,_,_,_,hn,h=>⟨h.1,λi hi=>wpOp_mono (λa' w' h'=>⟨λhy=>(by rw[kG hn] at hy;cases hy),lW fuel _ a' w' (kG hn) h'.2⟩) (h.2 i hi)⟩
def jI {P:Program}{a0:Option Nat}{Q:Exit->Act->World->Prop}{S:World->Prop}{i:Nat}{oi:Oper}{v:Value}(hi:ops[i]? =some oi)(hsel:∀(j:Nat) (o:Oper) cs b,ops[j]? =some o->o.op≠ .select cs b)
  (hQ:∀c a w,Q (.panic c) (a.put oi.dst v) w->Q (.panic c) a w) (hne:a0≠some i) (hbar:∀listed,Dn md ops listed->listed.getD i true=false->eQ a0 listed=true):
  ∀(fuel:Nat) (listed:Array Bool) (a:Act) (w:World),
   (∀j oj,ops[j]? =some oj->j≠i->listed.getD j true=false->(∀e∈oj.after,Region.binds md e=true->e.on≠i)->oi.apart ops oj=true)->
   Dn md ops listed->i∈Region.ready md ops listed->YieldsIf P ops S oi v a->S w->
   cZ P md ops a0 Q S fuel (listed.setIfInBounds i true) (a.put oi.dst v) w->cZ P md ops a0 Q S (fuel+1) listed a w:=by
 intro fuel
 induction fuel with
 |zero=>
  intro listed a w _ _ hr hy hS H
  refine⟨λh=>(by rw[h] at hr;cases hr),λj hj=> ?_⟩
  by_cases hji:j=i
  ·subst hji;exact hy.wpOp hi hS ⟨λ_=>hS,H⟩
  ·have:=ready_mono hj hji
   rw[H.1] at this
   cases this
 |succ fuel ih=>
  intro listed a w hfree hD hr hy hS H
  refine⟨λh=>(by rw[h] at hr;cases hr),λj hj=> ?_⟩
  by_cases hji:j=i
  ·subst hji;exact hy.wpOp hi hS ⟨λ_=>hS,H⟩
  ·have h1:=H.2 j (ready_mono hj hji)
   obtain⟨hjun,oj,hoj,hall⟩:=mem_ready.1 hj
   have hnot:∀e∈oj.after,Region.binds md e=true->e.on≠i:=λe he hb heq=>by
    have h1:=hall e he hb
    have h0:=(mem_ready.1 hr).1
    rw[heq,getD_in h0] at h1
    cases h1
   have h2:=wpOp_putIf hoj (hfree j oj hoj hji hjun hnot) (λcs b=>hsel i oi cs b hi) (λcs b=>hsel j oj cs b hoj) hQ hy h1
   have hfree':∀k ok,ops[k]? =some ok->k≠i->(listed.setIfInBounds j true).getD k true=false->
     (∀e∈ok.after,Region.binds md e=true->e.on≠i)->oi.apart ops ok=true:=λk ok hk hki hun hno=>by
    refine hfree k ok hk hki ?_ hno
    by_cases hjk:j=k
    ·subst hjk;exact hjun
    ·rw[getD_set_ne true hjk] at hun;exact hun
   have hD':=hD.set hj
   have hun':(listed.setIfInBounds j true).getD i true=false:=by rw[getD_set_ne true hji];exact(mem_ready.1 hr).1
   have hny:eQ a0 ((listed.setIfInBounds i true).setIfInBounds j true)=true:=by
    have:=hbar _ hD' hun'
    cases a0 with
    |none=>rfl
    |some a=>
     have hai:i≠a:=λe=>hne (by rw[e])
     rw[fj _ _ (Ne.symm hji)]
     simp only[eQ] at this ⊢
     rwa [getD_set_ne false hai]
   refine wpOp_mono (λa' w' h3=>⟨λ_=>h3.2.1 hny,ih (listed.setIfInBounds j true) a' w' hfree' hD' (ready_mono hr (Ne.symm hji)) h3.1 (h3.2.1 hny) ?_⟩) h2
   rw[fj _ _ hji]
   exact h3.2.2
def rM {a0:Option Nat}{listed:Array Bool}{i:Nat}(hne:a0≠some i):eQ a0 (listed.setIfInBounds i true)=eQ a0 listed:=by
 cases a0 with
 |none=>rfl
 |some a=>
  have hai:i≠a:=λe=>hne (by rw[e])
  simp only[eQ]
  rw[getD_set_ne false hai]
def bGb:Op->Bool
 | .move _=>true
 | .assign _=>true
 |_=>false
def bGc (md:Region.Mode)(ops:Array Oper)(b i:Nat):Bool:=aWl md ops 40 b i||(match ops[i]? with|some o=>bGb o.op|none=>false)
def aYr {P:Program}{o:Oper}(h:bGb o.op=true){a:Act}{w:World}{v:Value}(hr:(execOp a.eval o).run P w= .ok (.value v) w)(w':World):(execOp a.eval o).run P w'= .ok (.value v) w':=by
 cases ho:o.op<;>simp[ho,bGb] at h<;>(simp[execOp,ho] at hr ⊢;exact hr)
def yA {P:Program}{a0:Option Nat}{Q:Exit->Act->World->Prop}{S:World->Prop}{i:Nat}{oi:Oper}{v:Value}(hi:ops[i]? =some oi)(hsel:∀(j:Nat) (o:Oper) cs b,ops[j]? =some o->o.op≠ .select cs b)
  (hQ:∀c a w,Q (.panic c) (a.put oi.dst v) w->Q (.panic c) a w) (hne:a0≠some i):
  ∀(fuel:Nat) (listed:Array Bool) (a:Act) (w:World),
   (∀j oj,ops[j]? =some oj->j≠i->listed.getD j true=false->(∀e∈oj.after,Region.binds md e=true->e.on≠i)->oi.apart ops oj=true)->
   i∈Region.ready md ops listed->YieldsIf P ops (λ_=>True) oi v a->(eQ a0 listed=true->S w)->
   cZ P md ops a0 Q S fuel (listed.setIfInBounds i true) (a.put oi.dst v) w->cZ P md ops a0 Q S (fuel+1) listed a w:=by
 intro fuel
 induction fuel with
 |zero=>
  intro listed a w _ hr hy hS H
  refine⟨λh=>(by rw[h] at hr;cases hr),λj hj=> ?_⟩
  by_cases hji:j=i
  ·subst hji;exact hy.wpOp hi trivial ⟨λhn=>hS (by rw[<-hn];exact(rM hne).symm),H⟩
  ·have:=ready_mono hj hji
   rw[H.1] at this
   cases this
 |succ fuel ih=>
  intro listed a w hfree hr hy hS H
  refine⟨λh=>(by rw[h] at hr;cases hr),λj hj=> ?_⟩
  by_cases hji:j=i
  ·subst hji;exact hy.wpOp hi trivial ⟨λhn=>hS (by rw[<-hn];exact(rM hne).symm),H⟩
  ·have h1:=H.2 j (ready_mono hj hji)
   obtain⟨hjun,oj,hoj,hall⟩:=mem_ready.1 hj
   have hnot:∀e∈oj.after,Region.binds md e=true->e.on≠i:=λe he hb heq=>by
    have h1:=hall e he hb
    have h0:=(mem_ready.1 hr).1
    rw[heq,getD_in h0] at h1
    cases h1
   have h2:=wpOp_putIf hoj (hfree j oj hoj hji hjun hnot) (λcs b=>hsel i oi cs b hi) (λcs b=>hsel j oj cs b hoj) hQ hy h1
   have hfree':∀k ok,ops[k]? =some ok->k≠i->(listed.setIfInBounds j true).getD k true=false->
     (∀e∈ok.after,Region.binds md e=true->e.on≠i)->oi.apart ops ok=true:=λk ok hk hki hun hno=>by
    refine hfree k ok hk hki ?_ hno
    by_cases hjk:j=k
    ·subst hjk;exact hjun
    ·rw[getD_set_ne true hjk] at hun;exact hun
   have hny:eQ a0 ((listed.setIfInBounds i true).setIfInBounds j true)=eQ a0 (listed.setIfInBounds j true):=by
    rw[fj _ _ (Ne.symm hji)];exact rM hne
   refine wpOp_mono (λa' w' h3=>⟨λhn=>h3.2.1 (hny.trans hn),ih (listed.setIfInBounds j true) a' w' hfree' (ready_mono hr (Ne.symm hji)) h3.1 (λhn=>h3.2.1 (hny.trans hn)) ?_⟩) h2
   rw[fj _ _ hji]
   exact h3.2.2
def Gs {P:Program}{a0:Option Nat}{Q:Exit->Act->World->Prop}{S:World->Prop}{i:Nat}{oi:Oper}{v:Value}{fuel:Nat}{listed:Array Bool}{a:Act}{w:World}(hi:ops[i]? =some oi)
  (hs:Region.noSelect ops=true) (hf:Region.free md ops listed i=true) (hr:(Region.ready md ops listed).contains i=true) (ha:(match a0 with|none=>true|some b=>b !=i&&bGc md ops b i)=true) (hD:Dn md ops listed)
  (hQ:∀c a w,Q (.panic c) (a.put oi.dst v) w->Q (.panic c) a w) (hy:YieldsIf P ops S oi v a) (hS:S w)
  (h:cZ P md ops a0 Q S fuel (listed.setIfInBounds i true) (a.put oi.dst v) w):cZ P md ops a0 Q S (fuel+1) listed a w:=by
 cases a0 with
 |none=>exact jI hi (Region.noSelect_spec hs) hQ (by simp) (λ_ _ _=>rfl) fuel listed a w (Region.free_spec hi hf) hD (by simpa using hr) hy hS h
 |some b=>
  simp only[aa,bGc,ck,hi] at ha
  have hne:some b≠some i:=λe=>by injection e with e;subst e;simp at ha
  rcases ha.2 with ha|ha
  ·refine jI hi (Region.noSelect_spec hs) hQ hne (λlisted hD hun=> ?_) fuel listed a w (Region.free_spec hi hf) hD (by simpa using hr) hy hS h
   simp only[eQ,cq]
   exact getD_in (Ld hD hun 40 b ha)
  ·refine yA hi (Region.noSelect_spec hs) hQ hne fuel listed a w (Region.free_spec hi hf) (by simpa using hr) (hy.imp (λ⟨h1,h2⟩=>⟨h1,λw' _=>aYr ha (h2 w hS) w'⟩) id) (λ_=>hS) h
def iF {P:Program}{a0:Option Nat}{Q:Exit->Act->World->Prop}{S:World->Prop}{rs:List Nat}{fuel:Nat}{listed:Array Bool}{a:Act}{w:World}(hr:Region.ready md ops listed=rs)(hne:rs≠[])
  (h:∀i∈rs,wpOp P ops Q i (λa' w'=>(eQ a0 (listed.setIfInBounds i true)=true->S w')/\cZ P md ops a0 Q S fuel (listed.setIfInBounds i true) a' w') a w):cZ P md ops a0 Q S (fuel+1) listed a w:=
 ⟨λh0=>absurd (hr▸h0) hne,hr▸h⟩
def lX {P:Program}{a0:Option Nat}{Q:Exit->Act->World->Prop}{S:World->Prop}{listed:Array Bool}{a:Act}{w:World}(hr:Region.ready md ops listed=[])(h:Q .normal a w):
  ∀fuel,cZ P md ops a0 Q S fuel listed a w
 |0=>⟨hr,h⟩
 |_+1=>⟨λ_=>h,by rw[hr];simp⟩
end orders
def chk (ops:Array Oper)(a0:Option Nat):List (Nat×Bool)->Array Bool->Bool
 |[],listed=>(Region.ready .any ops listed).isEmpty
 |(i,true)::r,listed=>Region.free .any ops listed i&&(Region.ready .any ops listed).contains i&&(match a0 with|none=>true|some b=>b !=i&&bGc .any ops b i)&&chk ops a0 r (listed.setIfInBounds i true)
 |(i,false)::r,listed=>(Region.ready .any ops listed==[i])&&(a0 !=some i|| !eQ a0 (listed.setIfInBounds i true))&&chk ops a0 r (listed.setIfInBounds i true)
def O0 (ops:Array Oper)(a0:Option Nat)(ord:List (Nat×Bool)):Bool:=Region.noSelect ops&&ord.length==ops.size&&chk ops a0 ord (Array.replicate ops.size false)
variable {a0:Option Nat}
def RO (E:Env P g)(ops:Array Oper)(a0:Option Nat)(ord:List (Nat×Bool))(F:S->Prop)(s:S):Prop:=
 Region.noSelect ops=true->∀Q:Exit->Act->World->Prop,(∀s' a w,F s'->aW E s' a w->Q .normal a w)->∀(listed:Array Bool),(Dn .any ops listed/\chk ops a0 ord listed=true)->∀a w,aW E s a w->cZ P .any ops a0 (NoPanic Q) (Ext w) ord.length listed a w
def os {ops:List Oper}{ord:List (Nat×Bool)}{F:S->Prop}{i d ty j dj:Nat}{oj:Oper}{b cc:Bool}{op:Op}{pos:String}{af:Array Edge}{t':List V}(hi:At ops i ⟨some d,op,ty,pos,af,some (j,cc)⟩)(hj:At ops j oj)(hd:oj.dst=some dj)(hv:At s.t dj (.bool b))(hb:(b==cc)=false)(hu:Upd s.t d .und t')(hr:RO E ops.toArray a0 ord F ⟨t',s.o⟩):
  RO E ops.toArray a0 ((i,true)::ord) F s:=λhs Q hQ listed hc a w ⟨β,r⟩=>by
 obtain⟨hD,hc⟩:=hc
 simp only[chk,aa] at hc
 have hD':=hD.set (by simpa using hc.1.1.2)
 refine Gs (i:=i) (oi:=⟨some d,op,ty,pos,af,some (j,cc)⟩) (v:=undef) (by simpa using hi.get) hs hc.1.1.1 hc.1.1.2 hc.1.2 hD (λ_ _ _ h=>h) (.inr ⟨by simp[Region.wanted,aSk r hj hd hv];intro e;subst e;simp at hb,rfl⟩) (Ext.refl w) ?_
 exact hr hs Q hQ _ ⟨hD',hc.2⟩ _ _ ⟨β,r.put .und hu⟩
def rd {id:Nat}{l:List Oper}(a0:Option Nat)(ord:List (Nat×Bool))(hm:P.follows .mixedOrders=true)(hc:O0 l.toArray a0 ord=true)(h:RO E l.toArray a0 ord N s):CW E (.region id l.toArray true) N X R s:=λQ hN hX hR a w ⟨β,r⟩=>by
 simp only[O0,aa,cF] at hc
 refine wp_region_noPanic (wp_region_any hm (kF (a0:=a0) (S:=Ext w.drew) _ _ _ _ ?_))
 have:=h hc.1.1 Q (λs' a w h' r'=>hN s' h' a w r') _ ⟨λj oj hj hl=>(by
  have hlt:=(bn.1 hj).1
  rw[cf,gp,cr hlt] at hl
  cases hl),hc.2⟩ a w.drew ⟨β,r.extend (Ext.drew w)⟩
 rw[hc.1.2] at this
 exact this
def sd {id:Nat}{l:List Oper}{y:Code}(a0:Option Nat)(ord:List (Nat×Bool))(hm:P.follows .mixedOrders=true)(hc:O0 l.toArray a0 ord=true)(h:RO E l.toArray a0 ord (λs'=>CW E y N X R s') s):CW E (.seq (.region id l.toArray true) y) N X R s:=sq (rd a0 ord hm hc h)
def chz (ops:Array Oper):List Nat->Array Bool->Bool
 |[],listed=>(Region.ready .any ops listed).isEmpty
 |i::r,listed=>(Region.ready .any ops listed==[i])&&chz ops r (listed.setIfInBounds i true)
def RZ (E:Env P g)(ops:Array Oper)(ord:List Nat)(F:S->Prop)(s:S):Prop:=
 ∀Q:Exit->Act->World->Prop,(∀s' a w,F s'->aW E s' a w->Q .normal a w)->∀(listed:Array Bool),chz ops ord listed=true->∀a w,aW E s a w->wpAny P .any ops (NoPanic Q) ord.length listed a w
def aSl {P:Program}{md:Region.Mode}{ops:Array Oper}{Q:Exit->Act->World->Prop}{i fuel:Nat}{listed:Array Bool}{a:Act}{w:World}(hr:Region.ready md ops listed=[i])
  (h:wpOp P ops Q i (λa' w'=>wpAny P md ops Q fuel (listed.setIfInBounds i true) a' w') a w):wpAny P md ops Q (fuel+1) listed a w:=
 ⟨λh0=>(by rw[hr] at h0;cases h0),λj hj=>(by rw[hr] at hj;simp at hj;subst hj;exact h)⟩
def zc {ops:List Oper}{ord:List Nat}{F:S->Prop}{i d ty:Nat}{op:Op}{pos:String}{af:Array Edge}{r0:V}{t':List V}(hi:At ops i ⟨some d,op,ty,pos,af,none⟩)(h:COp E s op (λr=>r=r0))(hu:Upd s.t d r0 t')(hr:RZ E ops.toArray ord F ⟨t',s.o⟩):RZ E ops.toArray (i::ord) F s:=λQ hQ listed hc a w ⟨β,r⟩=>by
 obtain⟨f,args,h1,h2⟩:=h β a w r ⟨some d,op,ty,pos,af,none⟩ rfl
 simp only[chz,aa,cF] at hc
 have hg:ops.toArray[i]? =some ⟨some d,op,ty,pos,af,none⟩:=by simpa using hi.get
 refine aSl hc.1 (wpOp_step hg λK hK=> ?_)
 rw[cr (by simp[Region.wanted])]
 refine wpc h1 (R':=λv w'=>Rd w' (E.X β) β v r0/\Ext w w') (h2.mono ?_) ?_
 ·rintro e w' ⟨v,r',e1,rfl,e3,e4⟩;exact⟨v,e1,e3,e4⟩
 ·rintro v w' ⟨h3,h4⟩
  exact hK _ _ (hr Q hQ _ hc.2 _ _ ⟨β,(r.extend h4).put h3 hu⟩)
def hz0 {ops:Array Oper}{a0:Option Nat}(listed:Array Bool)(h:chk ops a0 [] listed=true):chz ops (([]:List (Nat×Bool)).map Prod.fst) listed=true:=h
def hzs {ops:Array Oper}{a0:Option Nat}{i:Nat}{r:List (Nat×Bool)}(hr:∀listed,chk ops a0 r listed=true->chz ops (r.map Prod.fst) listed=true)(listed:Array Bool)(h:chk ops a0 ((i,false)::r) listed=true):chz ops (((i,false)::r).map Prod.fst) listed=true:=by
 simp only[chk,aa] at h
 simp only[bj,chz,aa]
 exact⟨h.1.1,hr _ h.2⟩
inductive Cv (s:S):V->V->Prop
 |p {U:V} (h:U.plain=true):Cv s U U
 |o {i T k:Nat} {es:List (List V)} (h:At s.o i (.row T k es)):Cv s (.own i) (.slice k es)
 |n {k:Nat}:Cv s .nil (.slice k [])
 |a {cs ds:List V} (hl:cs.length=ds.length) (h:∀(i:Nat) (c d:V),cs[i]? =some c->ds[i]? =some d->Cv s c d):Cv s (.agg cs) (.agg ds)
inductive CvL (s:S):List V->List V->Prop
 |n:CvL s [] []
 |c {x y:V} {xs ys:List V} (h:Cv s x y) (hr:CvL s xs ys):CvL s (x::xs) (y::ys)
def CvL.spec {xs ys:List V}(h:CvL s xs ys):xs.length=ys.length/\∀(i:Nat) (c d:V),xs[i]? =some c->ys[i]? =some d->Cv s c d:=by
 induction h with
 |n=>simp
 |c h hr ih=>refine⟨by simp[ih.1],λi c d h1 h2=> ?_⟩;cases i with
  |zero=>simp at h1 h2;subst h1;subst h2;exact h
  |succ i=>exact ih.2 i c d (by simpa using h1) (by simpa using h2)
def Cv.l {cs ds:List V}(h:CvL s cs ds):Cv s (.agg cs) (.agg ds):= .a h.spec.1 h.spec.2
def aYs {β:List Tr}{a:Act}{w:World}(r:RelB E s β a w){i T k:Nat}{es:List (List V)}{t:Tr}(hb:β[i]? =some t)(hi:At s.o i (.row T k es)){X0:Nat->Prop}(hX:∀b,X0 b->E.X β b)(hX0:∀b,t.b=some b->¬X0 b):Rd w X0 [] t.val (.slice k es):=by
 obtain⟨h1,h2,xs,h3,h4⟩:=r.objs i t _ hb hi.get
 rcases h3.2 with⟨h5,h6⟩|⟨gg,cap,cur,h5,_,h6,h7,h8,h9,h10⟩
 ·rw[h5]
  have:es=[]:=bm h6
  subst this
  exact .slice0 (cn _)
 ·rw[h5]
  have htb:t.b=some gg:=by
   cases hb':t.b with
   |none=>simp[Tr.val,hb'] at h5
   |some b=>simp[Tr.val,hb'] at h5;rw[h5.1]
  cases es with
  |nil=>exact .slice0 h8
  |cons e0 es'=>
   refine .slice (val:=λi j=>xs.getD (i*k+j) undef) rfl (by simp) h7 h8 (hX0 gg htb) (bn.1 h6).1 h2 (λi' j e d k1 k2=> ?_) (λi' j e d k1 k2=> ?_)
   ·obtain⟨v,k3,_,_⟩:=h4 i' j e d k1 k2
    rw[h3.cells (g:=gg) (by rw[h5];rfl) _ v k3]
    simp[List.getD,k3]
   ·obtain⟨v,k3,_,k5⟩:=h4 i' j e d k1 k2
    simp only[List.getD,k3,cL]
    exact k5.conv (ak _) (λb _ hb=>hX b hb) (λ_ _ _ h=>h) (λ_ _ h=>by simp at h)
def Cv.rd {U U':V}(h:Cv s U U'){β:List Tr}{a:Act}{w:World}(r:RelB E s β a w):∀{v:Value},Rd w (E.X β) β v U->Rd w E.X0 [] v U':=by
 induction h with
 |p h=>exact λhv=>(hv.aBP (β':=[]) h).conv (ak _) (λb _ hb=> .inl hb) (λ_ _ _ h=>h) (λ_ _ h=>h)
 |o h=>
  intro v hv
  obtain⟨t,h1,rfl⟩:=hv.aBS
  exact aYs r h1 h (λb hb=> .inl hb) (λb hb hx=>by have:=(r.new _ t b h1 hb).1;have:=E.h0 b hx;omega)
 |n=>intro v hv;rw[hv.aBL];exact .slice0 (cn _)
 |a hl h ih=>
  intro v hv
  obtain⟨vs,rfl,k2,k3⟩:=hv.aBA
  refine .agg (by rw[k2,hl]) (λi v d h1 h2=> ?_)
  have hlt:i<vs.size:=(bn.1 h1).1
  exact ih i _ d (ab (by rw[<-k2];exact hlt)) h2 (k3 i v _ h1 (ab _))
inductive Rs (E:Env P g) (s:S):List ResultVar->List V->Prop
 |n:Rs E s [] []
 |t {n:Nat} {U U':V} {l:List ResultVar} {Us:List V} (h:At s.t n U) (hc:Cv s U U') (hr:Rs E s l Us):Rs E s (.tmp n::l) (U'::Us)
 |a {n i T m:Nat} {cs ds:List V} {l:List ResultVar} {Us:List V} (h:At s.t n (.box i 0)) (ht:aWk P T m=true) (hi:At s.o i (.box T cs)) (hl:cs.length=m) (hc:CvL s cs ds) (hr:Rs E s l Us):Rs E s (.cell n T::l) (.agg ds::Us)
 |b {n i T:Nat} {U U':V} {l:List ResultVar} {Us:List V} (h:At s.t n (.box i 0)) (ht:Gr P T=true) (hi:At s.o i (.box T [U])) (hc:Cv s U U') (hr:Rs E s l Us):Rs E s (.cell n T::l) (U'::Us)
def Xc (P:Program)(w:World)(tmps:Array Value)(x:ResultVar):Sem Value:=match x with
 | .tmp t=>pure (tmps.getD t undef)
 | .cell a t=>do loadVar t (<-asAddr (tmps.getD a undef))
def Rs.run {l:List ResultVar}{Us:List V}(h:Rs E s l Us){β:List Tr}{a:Act}{w:World}(r:RelB E s β a w):
  ∃vs:List Value,(l.mapM (Xc P w a.tmps)).run P w= .ok vs w/\vs.length=Us.length/\∀(i:Nat) (v:Value) (U:V),vs[i]? =some v->Us[i]? =some U->Rd w E.X0 [] v U:=by
 have cons:∀{x:ResultVar} {v:Value} {U:V} {l:List ResultVar} {Us:List V},(Xc P w a.tmps x).run P w= .ok v w->Rd w E.X0 [] v U->
   (∃vs:List Value,(l.mapM (Xc P w a.tmps)).run P w= .ok vs w/\vs.length=Us.length/\∀(i:Nat) (v:Value) (U:V),vs[i]? =some v->Us[i]? =some U->Rd w E.X0 [] v U)->
   ∃vs:List Value,((x::l).mapM (Xc P w a.tmps)).run P w= .ok vs w/\vs.length=(U::Us).length/\∀(i:Nat) (v:Value) (W:V),vs[i]? =some v->(U::Us)[i]? =some W->Rd w E.X0 [] v W:=by
  rintro x v U l Us h1 h2 ⟨vs,h3,h4,h5⟩
  refine⟨v::vs,by simp[jd,h1,h3],by simp[h4],λi v' W k1 k2=> ?_⟩
  cases i with
  |zero=>simp at k1 k2;subst k1;subst k2;exact h2
  |succ i=>exact h5 i v' W (by simpa using k1) (by simpa using k2)
 induction h with
 |n=>exact⟨[],rfl,rfl,by simp⟩
 |t h hc hr ih=>exact cons (by simp[Xc]) (hc.rd r (r.tmps _ _ h.get)) ih
 | @a n i T m cs ds l Us h ht hi hl hc hr ih=>
  obtain⟨tr,b,h1,h2,h3⟩:=(r.tmps _ _ h.get).aBQ
  obtain⟨vs,k1,k2,k3⟩:=aLu r hi h1 h2
  refine cons (v:= .agg vs.toArray) ?_ ((Cv.l hc).rd r (.agg (by simpa using k2) (λi v c h5 h6=>k3 i v c (by simpa using h5) h6))) ih
  have:=aB6 (P:=P) (w:=w) (t:=T) (vs:=vs) (by rw[k2,hl];exact ht) (a:=⟨b,0,none⟩) (λj v hj=>by
   rw[eF,cell_of_row w b _ _ T (0,0) k1]
   simpa using hj)
  simp only[Xc,h3,asAddr,Sem.run_bind,Sem.run_pure,Result.andThen_ok,this]
 | @b n i T U U' l Us h ht hi hc hr ih=>
  obtain⟨tr,b,h1,h2,h3⟩:=(r.tmps _ _ h.get).aBQ
  obtain⟨vs,k1,k2,k3⟩:=aLu r hi h1 h2
  match vs,k2 with
  |[v],_=>
   refine cons (v:=v) ?_ (hc.rd r (k3 0 v U rfl rfl)) ih
   have hcell:w.cell? ⟨b,0,none⟩=some v:=by rw[cell_of_row w b 0 _ T (0,0) k1];rfl
   simp only[Xc,h3,asAddr,Sem.run_bind,Sem.run_pure,Result.andThen_ok,aB5 ht hcell]
def kH:List V->V
 |[U]=>U
 |Us=> .tup Us
def Ret (E:Env P g)(l:List ResultVar)(R:V->Prop)(s:S):Prop:=∃Us r,Rs E s l Us/\r=kH Us/\R r
def bCj {fn:Func}{l:List ResultVar}(hf:fn.results=l.toArray){Us:List V}{r:V}(h:Rs E s l Us)(hU:r=kH Us){β:List Tr}{a:Act}{w:World}(rr:RelB E s β a w):
  ∃v,(results fn a.tmps).run P w= .ok v w/\Rd w E.X0 [] v r:=by
 obtain⟨vs,h1,h2,h3⟩:=h.run rr
 have hm:(results fn a.tmps).run P w= .ok (if h:vs.toArray.size=1 then vs.toArray[0] else .tuple vs.toArray) w:=by
  have e1:results fn a.tmps=(do
    let vs<-fn.results.mapM (Xc P w a.tmps)
    pure (if h:vs.size=1 then vs[0] else .tuple vs)):=rfl
  rw[e1,hf,gk]
  simp only[Sem.run_bind,Sem.run_map,h1,Result.andThen_ok,Sem.run_pure]
 refine⟨_,hm,?_⟩
 subst hU
 clear h h1 hm
 match Us,vs,h2,h3 with
 |[U],[v],_,h3=>exact h3 0 v U rfl rfl
 |[],[],_,_=>exact .tup rfl (by simp)
 |U::U'::Us,v::v'::vs,h2,h3=>
  rw[dif_neg (by simp)]
  exact .tup (by simpa using h2) (λi v c h5 h6=>h3 i v c (by simpa using h5) h6)
def enter {f:FuncId}{fn:Func}{cd:Code}{n:Nat}{l:List ResultVar}{Us:List V}{R':V->Prop}(hf:P.funcs[f]? =some fn)(hb:fn.body=some cd)(hn:fn.ntmps=n)(hl:fn.results=l.toArray)
  (hE:∀args w,(callFunc f args).run P w= .ok (.enter f args) w)
  (h:∀E:Env P g,CW E cd (Ret E l R') (λ_ _=>False) (Ret E l R') ⟨Us++List.replicate (n-Us.length) .any,[]⟩):Spec P g f Us R':=by
 refine⟨hE,λw X0 vs hG hX0 hvs=>calls_of_wp hf hb ?_⟩
 let E:Env P g:=⟨X0,w,hX0,hG⟩
 have rb:RelB E ⟨Us++List.replicate (n-Us.length) .any,[]⟩ [] {tmps:=vs.toArray++Array.replicate (fn.ntmps-vs.toArray.size) undef,defers:=[]} w:=by
  refine {ext:=Ext.refl w,defers:=rfl,tsz:= ?_,tmps:=λm U hm=> ?_,blen:=rfl,new:=by simp,dist:=by simp,objs:=by simp}
  ·simp[hn,hvs.1]
  ·by_cases hlt:m<Us.length
   ·simp only at hm
    rw[ao hlt] at hm
    have hv:(vs.toArray++Array.replicate (fn.ntmps-vs.toArray.size) undef).getD m undef=vs[m]'(by rw[hvs.1];exact hlt):=by
     rw[cf,fa (by simpa[hvs.1] using hlt)]
     simp[ab (show m<vs.length by rw[hvs.1];exact hlt)]
    rw[hv]
    exact(hvs.2 m _ U (ab _) hm).conv (ak _) (λb _ hb=>by
     rcases hb with hb|⟨t,ht,_⟩
     ·exact hb
     ·simp at ht) (λ_ _ _ h=>h) (λ_ _ h=>h)
   ·simp only at hm
    rw[au (by omega)] at hm
    have:=av hm
    simp at this
    rw[this.2];exact .any
 have fin:∀s',Ret E l R' s'->∀a w',aW E s' a w'->a.defers=[]/\∃v,(results fn a.tmps).run P w'= .ok v w'/\(∃v' r,Ending.returned v= .returned v'/\R' r/\Rd w' X0 [] v' r/\Ext w w'):=by
  rintro s' ⟨Us',r,h1,h2,h3⟩ a w' ⟨β,rr⟩
  obtain⟨v,k1,k2⟩:=bCj hl h1 h2 rr
  exact⟨rr.defers,v,k1,v,r,rfl,h3,k2,rr.ext⟩
 exact h E _ (λs' h' a w' r=>fin s' h' a w' r) (λi s' h'=>h'.elim) (λs' h' a w' r=>fin s' h' a w' r) _ _ ⟨[],rb⟩
end
end Go.VK

namespace Go.VK
open Go.RowKit
variable {P:Program} {g:GI} {E:Env P g} {s:S}
mutual
inductive VL (ρ:List Nat) (so:List Ob):V->V->Prop
 |a {U:V}:VL ρ so U .any
 |e {U U':V} (h:U=U') (hp:U'.plain=true):VL ρ so U U'
 |el {cs:List V}:VL ρ so (.elem cs) (.elem cs)
 |b {i j off:Nat} (h:At ρ j i):VL ρ so (.box i off) (.box j off)
 |w {i j:Nat} (h:At ρ j i):VL ρ so (.own i) (.own j)
 |p {i j off:Nat} (h:At ρ j i):VL ρ so (.oel i off) (.oel j off)
 |z {i T k:Nat} {es:List (List V)} (h:At so i (.row T k es)) (hd:(ρ.contains i)=false):VL ρ so (.own i) (.slice k es)
 |n {k:Nat}:VL ρ so .nil (.slice k [])
 |g {cs ds:List V} (h:VLs ρ so cs ds):VL ρ so (.agg cs) (.agg ds)
inductive VLs (ρ:List Nat) (so:List Ob):List V->List V->Prop
 |n:VLs ρ so [] []
 |c {x y:V} {xs ys:List V} (h:VL ρ so x y) (hr:VLs ρ so xs ys):VLs ρ so (x::xs) (y::ys)
end
def VLs.spec {ρ:List Nat}{so:List Ob}:∀{xs ys:List V},VLs ρ so xs ys->xs.length=ys.length/\∀(i:Nat) (c d:V),xs[i]? =some c->ys[i]? =some d->VL ρ so c d
 |[],[], .n=>by simp
 |x::xs,y::ys, .c h hr=>by
  have ih:=VLs.spec hr
  refine⟨by simp[ih.1],λi c d h1 h2=> ?_⟩
  cases i with
  |zero=>simp at h1 h2;subst h1;subst h2;exact h
  |succ i=>exact ih.2 i c d (by simpa using h1) (by simpa using h2)
inductive OL (ρ:List Nat) (so:List Ob):List Nat->List Ob->Prop
 |n:OL ρ so [] []
 |b {i T:Nat} {cs ds:List V} {r:List Nat} {os:List Ob} (h:At so i (.box T cs)) (hl:VLs ρ so cs ds) (hr:OL ρ so r os):OL ρ so (i::r) (.box T ds::os)
 |r {i T k:Nat} {es es':List (List V)} {r:List Nat} {os:List Ob} (h:At so i (.row T k es)) (he:es=es') (hr:OL ρ so r os):OL ρ so (i::r) (.row T k es'::os)
inductive ObL (ρ:List Nat) (so:List Ob):Ob->Ob->Prop
 |b {T:Nat} {cs ds:List V} (hl:VLs ρ so cs ds):ObL ρ so (.box T cs) (.box T ds)
 |r {T k:Nat} {es:List (List V)}:ObL ρ so (.row T k es) (.row T k es)
def OL.spec {ρ:List Nat}{so:List Ob}{r:List Nat}{os:List Ob}(h:OL ρ so r os):r.length=os.length/\(∀i∈r,i<so.length)/\∀(j i:Nat) (o':Ob),r[j]? =some i->os[j]? =some o'->∃o,so[i]? =some o/\ObL ρ so o o':=by
 induction h with
 |n=>simp
 | @b i T cs ds r os h hl hr ih=>
  refine⟨by simp[ih.1],λi' hi'=> ?_,λj i' o' h1 h2=> ?_⟩
  ·rcases ba.1 hi' with rfl|hi'
   ·exact(ax.1 h.get).1
   ·exact ih.2.1 i' hi'
  ·cases j with
   |zero=>simp at h1 h2;subst h1;subst h2;exact⟨_,h.get, .b hl⟩
   |succ j=>exact ih.2.2 j i' o' (by simpa using h1) (by simpa using h2)
 | @r i T k es es' r os h he hr ih=>
  subst he
  refine⟨by simp[ih.1],λi' hi'=> ?_,λj i' o' h1 h2=> ?_⟩
  ·rcases ba.1 hi' with rfl|hi'
   ·exact(ax.1 h.get).1
   ·exact ih.2.1 i' hi'
  ·cases j with
   |zero=>simp at h1 h2;subst h1;subst h2;exact⟨_,h.get, .r⟩
   |succ j=>exact ih.2.2 j i' o' (by simpa using h1) (by simpa using h2)
def VL.rd {β:List Tr}{a:Act}{w:World}(r:RelB E s β a w){ρ:List Nat}{β':List Tr}(hβ:∀(j i:Nat),ρ[j]? =some i->∀t,β[i]? =some t->β'[j]? =some t)
  (hX:∀b,E.X β' b->E.X β b) (hfree:∀(i:Nat) (t:Tr) (b:Nat),(ρ.contains i)=false->β[i]? =some t->t.b=some b->¬E.X β' b):
  ∀{U U':V},VL ρ s.o U U'->∀{v:Value},Rd w (E.X β) β v U->Rd w (E.X β') β' v U'
 |_,_, .a,_,_=> .any
 |_,_, .e h hp,v,hv=>by subst h;exact(hv.aBP (β':=β') hp).conv (ak _) (λb _ hb=>hX b hb) (λ_ _ _ h=>h) (λ_ _ h=>h)
 |_,_, .el,v,hv=>by
  cases hv with
  |elem h1 h2 h3 h4=>exact .elem (λh=>h1 (hX _ h)) h2 h3 (λj d hd=>(h4 j d hd).conv (ak _) (λb _ hb=>hX b hb) (λ_ _ _ h=>h) (λ_ _ h=>h))
 |_,_, .b h,v,hv=>by obtain⟨t,b,h1,h2,rfl⟩:=hv.aBQ;exact .box (hβ _ _ h.get _ h1) h2
 |_,_, .w h,v,hv=>by obtain⟨t,h1,rfl⟩:=hv.aBS;exact .own (hβ _ _ h.get _ h1)
 |_,_, .p h,v,hv=>by obtain⟨t,b,h1,h2,rfl⟩:=hv.aCQ;exact .oel (hβ _ _ h.get _ h1) h2
 |_,_, .z h hd,v,hv=>by
  obtain⟨t,h1,rfl⟩:=hv.aBS
  exact(aYs r h1 h hX (λb hb=>hfree _ t b hd h1 hb)).conv (ak _) (λ_ _ h=>h) (λ_ _ _ h=>h) (λ_ _ h=>by simp at h)
 |_,_, .n,v,hv=>by rw[hv.aBL];exact .slice0 (cn _)
 |_,_, .g (cs:=cs) (ds:=ds) h,v,hv=>by
  obtain⟨vs,rfl,k2,k3⟩:=hv.aBA
  have hsp:=h.spec
  refine .agg (by rw[k2,hsp.1]) (λi v d h1 h2=> ?_)
  have hlt:i<cs.length:=by rw[<-k2];exact(bn.1 h1).1
  exact go (r:=r) (hβ:=hβ) (hX:=hX) (hfree:=hfree) h i v d _ h2 (ab hlt) (k3 i v _ h1 (ab hlt))
 where go {β:List Tr} {a:Act} {w:World} {r:RelB E s β a w} {ρ:List Nat} {β':List Tr} {hβ:∀(j i:Nat),ρ[j]? =some i->∀t,β[i]? =some t->β'[j]? =some t}
  {hX:∀b,E.X β' b->E.X β b} {hfree:∀(i:Nat) (t:Tr) (b:Nat),(ρ.contains i)=false->β[i]? =some t->t.b=some b->¬E.X β' b}:
  ∀{cs ds:List V},VLs ρ s.o cs ds->∀(i:Nat) (v:Value) (d c:V),ds[i]? =some d->cs[i]? =some c->Rd w (E.X β) β v c->Rd w (E.X β') β' v d
 |_,_, .n,i,v,d,c,h1,_,_=>by simp at h1
 |_,_, .c h hr,0,v,d,c,h1,h2,h3=>by simp at h1 h2;subst h1;subst h2;exact VL.rd r hβ hX hfree h h3
 |_,_, .c h hr,i+1,v,d,c,h1,h2,h3=>go (r:=r) (hβ:=hβ) (hX:=hX) (hfree:=hfree) hr i v d c (by simpa using h1) (by simpa using h2) h3
def le {t':List V}{o':List Ob}(ρ:List Nat)(hn:ρ.Nodup)(ht:VLs ρ s.o s.t t')(ho:OL ρ s.o ρ o'):Le E s ⟨t',o'⟩:=λa w ⟨β,r⟩=>by
 obtain⟨o1,o2,o3⟩:=ho.spec
 obtain⟨t1,t2⟩:=ht.spec
 let β':List Tr:=ρ.map λi=>β.getD i ⟨none,0,0⟩
 have hget:∀i∈ρ,β[i]? =some (β.getD i ⟨none,0,0⟩):=λi hi=>by
  have:i<β.length:=by rw[r.blen];exact o2 i hi
  simp[List.getD,ab this]
 have hβ:∀(j i:Nat),ρ[j]? =some i->∀t,β[i]? =some t->β'[j]? =some t:=λj i hj t ht=>by
  simp only[β',aE,hj,cx]
  rw[<-hget i (av hj)];exact ht
 have hβi:∀(j:Nat) (t:Tr),β'[j]? =some t->∃i,ρ[j]? =some i/\β[i]? =some t:=λj t hj=>by
  simp only[β',aE] at hj
  cases hi:ρ[j]? with
  |none=>simp[hi] at hj
  |some i=>simp only[hi,cx,ai] at hj;exact⟨i,rfl,by rw[hget i (av hi),hj]⟩
 have hX:∀b,E.X β' b->E.X β b:=by
  rintro b (h|⟨t,ht,hb⟩)
  ·exact .inl h
  ·obtain⟨j,hj⟩:=cH.1 ht
   obtain⟨i,_,hi⟩:=hβi j t hj
   exact .inr ⟨t,av hi,hb⟩
 have hfree:∀(i:Nat) (t:Tr) (b:Nat),(ρ.contains i)=false->β[i]? =some t->t.b=some b->¬E.X β' b:=by
  rintro i t b hni hi hb (h|⟨u,hu,hub⟩)
  ·have:=(r.new i t b hi hb).1;have:=E.h0 b h;omega
  ·obtain⟨j,hj⟩:=cH.1 hu
   obtain⟨i',hi',hi''⟩:=hβi j u hj
   have hne:i≠i':=by
    rintro rfl
    have:=av hi'
    simp at hni
    exact hni this
   exact r.dist i i' t u b hne hi hi'' hb hub
 refine⟨β',{ext:=r.ext,defers:=r.defers,tsz:=by rw[r.tsz,t1],tmps:=λn U hU=> ?_,blen:=by simp[β',o1],new:= ?_,dist:= ?_,objs:= ?_}⟩
 ·have hlt:n<s.t.length:=by rw[t1];exact(ax.1 hU).1
  exact VL.rd r hβ hX hfree (t2 n _ U (ab hlt) hU) (r.tmps n _ (ab hlt))
 ·intro j t b hj hb
  obtain⟨i,_,hi⟩:=hβi j t hj
  exact r.new i t b hi hb
 ·intro j j' t u b hjj hj hj' hb hub
  obtain⟨i,hi,hit⟩:=hβi j t hj
  obtain⟨i',hi',hit'⟩:=hβi j' u hj'
  refine r.dist i i' t u b ?_ hit hit' hb hub
  rintro rfl
  have h1:=(ax.1 hi)
  have h2:=(ax.1 hi')
  obtain⟨l1,e1⟩:=h1
  obtain⟨l2,e2⟩:=h2
  have hp:=dt.1 hn
  rcases Nat.lt_trichotomy j j' with h|h|h
  ·exact hp j j' l1 l2 h (e1.trans e2.symm)
  ·exact hjj h
  ·exact hp j' j l2 l1 h (e2.trans e1.symm)
 ·intro j t o2' hj ho'
  obtain⟨i,hi,hit⟩:=hβi j t hj
  obtain⟨o,ho1,ho2⟩:=o3 j i o2' hi ho'
  have hok:=r.objs i t o hit ho1
  cases ho2 with
  |b hl=>
   obtain⟨b,vs,k1,k2,k3,k4⟩:=hok
   have hsp:=hl.spec
   refine⟨b,vs,k1,k2,by rw[k3,hsp.1],λi v c h5 h6=> ?_⟩
   have hlt:i<_:=(ax.1 h6).1
   rw[<-hsp.1] at hlt
   exact VL.rd r hβ hX hfree (hsp.2 i _ c (ab hlt) h6) (k4 i v _ h5 (ab hlt))
  |r=>
   obtain⟨h1,h2,xs,h3,h4⟩:=hok
   exact⟨h1,h2,xs,h3,λi j e d k1 k2=>let ⟨v,k3,k4,k5⟩:=h4 i j e d k1 k2;⟨v,k3,k4,k5.conv (ak _) (λb _ hb=>hX b hb) (λ_ _ _ h=>h) (λ_ _ h=>h)⟩⟩
def rng {c:Code}{N:S->Prop}{X:Nat->S->Prop}{R:S->Prop}{n:Nat}{k:IntKind}{x:Int}(hv:At s.t n (.int k x))(h:k.min<=x->x<=k.max->CW E c N X R s):CW E c N X R s:=λQ hN hX hR a w ⟨β,r⟩=>by
 have:=(r.tmps n _ hv.get).aAK
 exact h this.2.1 this.2.2 Q hN hX hR a w ⟨β,r⟩
end Go.VK

namespace Go.VK
open Go.RowKit
variable {P:Program} {g:GI} {E:Env P g} {s:S}
def Xd (off:Nat):∀(l:List Value) (j0:Nat) (cs:Array Value),off+j0+l.length<=cs.size->
  ((l.zipIdx j0).foldl (λcs (c,j)=>cs.setIfInBounds (off+j) c) cs).size=cs.size/\
  ∀m,((l.zipIdx j0).foldl (λcs (c,j)=>cs.setIfInBounds (off+j) c) cs)[m]? =if off+j0<=m/\m<off+j0+l.length then l[m-(off+j0)]? else cs[m]?
 |[],j0,cs,_=>by simp;intro m;intro h1 h2;omega
 |v::l,j0,cs,h=>by
  simp only[az] at h
  have ih:=Xd off l (j0+1) (cs.setIfInBounds (off+j0) v) (by simp;omega)
  simp only[gq,cM]
  refine⟨by rw[ih.1];simp,λm=> ?_⟩
  rw[ih.2 m]
  by_cases h1:off+j0=m
  ·subst h1
   rw[cJ (by omega),cr (by simp)]
   simp[ja];omega
  ·rw[Array.getElem?_setIfInBounds_ne h1]
   by_cases h2:off+j0<=m/\m<off+j0+(l.length+1)
   ·rw[cr (by omega),cr (by simpa using h2),show m-(off+j0)=(m-(off+(j0+1)))+1 by omega,dq]
   ·rw[cJ (by omega),cJ (by simpa using h2)]
def O1 (k:Nat):∀(vs:List Value) (i:Nat) (cs:Array Value),(∀v∈vs,v.cells.size=k)->(i+vs.length)*k<=cs.size->
  ∃res,Instr.fill (λi=>some (i*k,k)) cs (vs.zipIdx i|>.map λ(v,j)=>(j,v))=some res/\res.size=cs.size/\(∀m,m<i*k->res[m]? =cs[m]?)/\
   ∀(a j:Nat) (v:Value),vs[a]? =some v->j<k->res[(i+a)*k+j]? =v.cells[j]?
 |[],i,cs,_,_=>⟨cs,rfl,rfl,λ_ _=>rfl,by simp⟩
 |v::vs,i,cs,h,hl=>by
  have hv:=h v (by simp)
  simp only[az] at hl
  have h1:i*k+k<=cs.size:=by
   have:(i+1)*k<=(i+(vs.length+1))*k:=ex _ (by omega)
   rw[de] at this;omega
  have hf:=Xd (i*k) v.cells.toList 0 cs (by simpa[hv] using h1)
  obtain⟨res,r1,r2,r3,r4⟩:=O1 k vs (i+1) (((v.cells.toList.zipIdx 0).foldl (λcs (c,j)=>cs.setIfInBounds (i*k+j) c) cs)) (λv hv=>h v (by simp[hv]))
   (by rw[hf.1];rwa [show i+1+vs.length=i+(vs.length+1) by omega])
  refine⟨res,?_,by rw[r2,hf.1],λm hm=> ?_,λa j v' ha hj=> ?_⟩
  ·simp only[gq,bj,Instr.fill,hv]
   rw[cJ (by simp;omega)]
   rw[<-ic,gS]
   exact r1
  ·rw[r3 m (by rw[de];omega),hf.2 m,cJ (by omega)]
  ·cases a with
   |zero=>
    simp at ha;subst ha
    simp only[dz]
    rw[r3 _ (by rw[de];omega),hf.2,cr (by simp[hv];omega)]
    simp
   |succ a=>
    have:=r4 a j v' (by simpa using ha) hj
    rwa [show i+1+a=i+(a+1) by omega] at this
def V.parts:V->List V
 | .agg cs=>cs
 |U=>[U]
inductive BL (E:Env P g) (s:S) (k:Nat):Nat->List (Nat×Operand)->List (List V)->Prop
 |n {i:Nat}:BL E s k i [] []
 |c {i:Nat} {x:Operand} {U:V} {xs:List (Nat×Operand)} {es:List (List V)} (h:Ev E s x U) (hk:U.parts.length=k) (h1:mH U.parts=true) (hp:U.plain=true) (hr:BL E s k (i+1) xs es):BL E s k i ((i,x)::xs) (U.parts::es)
def aYt {w:World}{X:Nat->Prop}{β:List Tr}{v:Value}{U:V}(h:Rd w X β v U)(h1:mH U.parts=true)(hp:U.plain=true):v.cells.size=U.parts.length/\∀(j:Nat) (u:Value) (c:V),v.cells[j]? =some u->U.parts[j]? =some c->Rd w X [] u c/\u.oneCell'=true:=by
 by_cases hA:∃cs,U= .agg cs
 ·obtain⟨cs,rfl⟩:=hA
  obtain⟨vs,rfl,k2,k3⟩:=h.aBA
  exact⟨k2,λj u c h5 h6=>⟨(k3 j u c h5 h6).aBP (V.aBB (cs:=cs) (by simpa[V.plain] using hp) j c h6),(k3 j u c h5 h6).one (aFn h1 j c h6)⟩⟩
 ·have hU:U.parts=[U]:=by cases U<;>first|rfl|exact absurd ⟨_,rfl⟩ hA
  rw[hU] at h1 ⊢
  have ho:U.one=true:=by simpa[mH] using h1
  rw[Lc (h.one ho)]
  refine⟨rfl,λj u c h5 h6=> ?_⟩
  cases j with
  |zero=>simp at h5 h6;subst h5;subst h6;exact⟨h.aBP hp,h.one ho⟩
  |succ j=>simp at h5
def BL.spec {k i:Nat}{xs:List (Nat×Operand)}{es:List (List V)}(h:BL E s k i xs es){β:List Tr}{a:Act}{w:World}(r:RelB E s β a w):
  ∃vs:List Value,(xs.map λ(i,x)=>(i,a.eval x))=(vs.zipIdx i|>.map λ(v,j)=>(j,v))/\vs.length=es.length/\(∀v∈vs,v.cells.size=k)/\(∀e∈es,e.length=k)/\
   ∀(a j:Nat) (v:Value) (e:List V),vs[a]? =some v->es[a]? =some e->∀(u:Value) (c:V),v.cells[j]? =some u->e[j]? =some c->Rd w (E.X β) [] u c/\u.oneCell'=true:=by
 induction h with
 |n=>exact⟨[],rfl,rfl,by simp,by simp,by simp⟩
 | @c i x U xs es h hk h1 hp hr ih=>
  obtain⟨vs,e1,e2,e3,e4,e5⟩:=ih
  have hpr:=aYt (h β a w r) h1 hp
  refine⟨a.eval x::vs,by simp[gq,e1],by simp[e2],λv hv=> ?_,λe he=> ?_,λb j v e hb he u c=> ?_⟩
  ·rcases ba.1 hv with rfl|hv
   ·rw[hpr.1,hk]
   ·exact e3 v hv
  ·rcases ba.1 he with rfl|he
   ·exact hk
   ·exact e4 e he
  ·cases b with
   |zero=>simp at hb he;subst hb;subst he;exact hpr.2 j u c
   |succ b=>exact e5 b j v e (by simpa using hb) (by simpa using he) u c
def aWm {t e k bts n:Nat}{xs:List (Nat×Operand)}{es:List (List V)}(ht:slB P t e k bts=true)(hn:es.length=n)(h24:decide (n*k<=16777216)=true)(hb:BL E s k 0 xs es){β:List Tr}{a:Act}{w:World}(r:RelB E s β a w){o:Oper}(ho:o.op= .buildSlice t n xs.toArray):
  ∃cells:Array Value,(execOp a.eval o).run P w= .ok (.value (.slice (some ⟨w.heap.size,0,none⟩) n n)) (w.alloc (.cells cells e))/\cells.size=n*k/\(∀e∈es,e.length=k)/\
   ∀(i j:Nat) (e:List V) (d:V),es[i]? =some e->e[j]? =some d->∃v,cells[i*k+j]? =some v/\v.oneCell'=true/\Rd w (E.X β) [] v d:=by
 obtain⟨hu,i,z,hi,hz,hik,hib,hzk,hk0⟩:=dV ht
 obtain⟨vs,e1,e2,e3,e4,e5⟩:=hb.spec r
 have hz0:∃zc:Array Value,(if n*k=0 then(pure #[]:Sem (Array Value)) else do pure (<-zeroValue e).cells).run P w= .ok zc w:=by
  by_cases h:n*k=0
  ·exact⟨#[],by simp[h]⟩
  ·exact⟨z.cells,by simp[h,zeroValue,typeInfo,hi,hz]⟩
 obtain⟨zc,hzc⟩:=hz0
 obtain⟨res,r1,r2,r3,r4⟩:=O1 k vs 0 ((Array.range (n*k)).map (zc[·%zc.size]!)) e3 (by simp[e2,hn])
 have h24':=of_decide_eq_true h24
 refine⟨res,?_,by rw[r2];simp,e4,λi j e d h1 h2=> ?_⟩
 ·have hp:((xs.toArray.map λ(i,x)=>(i,a.eval x)):Array (Nat×Value)).toList=((vs.zipIdx 0).map λ(v,j)=>(j,v)):=by
   rw[<-e1];simp
  simp only[execOp,ho,Instr.buildSlice,Sem.run_bind,run_underlying hu,Result.andThen_ok]
  have hs:(sizeOf e).run P w= .ok k w:=by simp[sizeOf,typeInfo,hi,hik]
  simp only[hs,Result.andThen_ok]
  rw[cJ (by omega)]
  by_cases h:n*k=0
  ·have hzc':zc= #[]:=by simp[h] at hzc;exact hzc
   subst hzc'
   simp only[h,gO,Sem.run_bind,Sem.run_pure,Result.andThen_ok]
   rw[h] at r1
   simp only[hp,r1,newRow,Sem.run_bind,run_newObj,Sem.run_pure,Result.andThen_ok]
   rfl
  ·simp only[h,if_false,Sem.run_bind,Sem.run_pure] at hzc ⊢
   have hzc':((zeroValue e).run P w).andThen (λa w'=>Result.ok a.cells w')= .ok zc w:=hzc
   have hz2:(zeroValue e).run P w= .ok z w:=by simp[zeroValue,typeInfo,hi,hz]
   rw[hz2] at hzc'
   simp only[Result.andThen_ok,Result.ok.injEq,and_true] at hzc'
   simp only[hz2,Result.andThen_ok,hzc',hp,r1,newRow,Sem.run_bind,run_newObj,Sem.run_pure]
   rfl
 ·have hlt:i<vs.length:=by rw[e2];exact(ax.1 h1).1
  have hv:vs[i]? =some vs[i]:=ab hlt
  have hjk:j<k:=by rw[<-e4 e (av h1)];exact(ax.1 h2).1
  have hc:=e3 vs[i] (av hv)
  have hcell:(vs[i]).cells[j]? =some ((vs[i]).cells[j]'(by rw[hc];exact hjk)):=cC _
  obtain⟨k1,k2⟩:=e5 i j vs[i] e hv h1 _ d hcell h2
  refine⟨_,?_,k2,k1⟩
  have:=r4 i j vs[i] hv hjk
  rw[bu] at this
  rw[this,hcell]
def bs {t e k bts n d:Nat}{xs:List (Nat×Operand)}{es:List (List V)}{t':List V}(ht:slB P t e k bts=true)(hn:es.length=n)(h24:decide (n*k<=16777216)=true)(hb:BL E s k 0 xs es)(hu:Upd s.t d (.slice k es) t'):
  SOp E s (.buildSlice t n xs.toArray) (some d) ⟨t',s.o⟩ true:=λβ a w r o ho hd=>by
 obtain⟨cells,h1,h2,h3,h4⟩:=aWm ht hn h24 hb r ho
 have he:Ext w (w.alloc (.cells cells e)):=Ext.alloc _ _
 have h24':=of_decide_eq_true h24
 have hk0:=(dV ht).2
 refine⟨_,_,β, .inl h1,(r.extend he).put ?_ hu,λ_=>he⟩
 have hnm:n<=maxLen:=by
  obtain⟨_,_,_,_,_,_,_,hk0⟩:=hk0
  have:n*1<=n*k:=fh _ hk0
  unfold maxLen;omega
 cases es with
 |nil=>simp at hn;subst hn;exact .slice0 (by unfold maxLen;omega)
 |cons e0 es'=>
  refine .slice (val:=λi j=>cells.getD (i*k+j) undef) hn.symm (by simp) (ak _) hnm (λhx=>by have:=aBW r _ hx;simp at this) (by simp) h3 (λi j e d k1 k2=> ?_) (λi j e d k1 k2=> ?_)
  ·obtain⟨v,k3,_,_⟩:=h4 i j e d k1 k2
   rw[eF,bu,World.cell?_alloc_new,k3]
   simp[cf,k3]
  ·obtain⟨v,k3,_,k5⟩:=h4 i j e d k1 k2
   simp only[cf,k3,cL]
   exact k5.ext he
def aWn {w:World}{X:Nat->Prop}{β:List Tr}{v:Value}{k:Nat}{news:List (List V)}(h:Rd w X β v (.slice k news))(hone:∀e∈news,mH e=true):
  ∃(A:Option Addr) (c:Nat) (xs:List Value),v= .slice A news.length c/\xs.length=news.length*k/\(news=[]\/∃a,A=some a/\∀j u,xs[j]? =some u->w.cell? (a.add j)=some u)/\(∀u∈xs,u.oneCell'=true)/\(∀e∈news,e.length=k)/\
   ∀(i j:Nat) (e:List V) (d:V),news[i]? =some e->e[j]? =some d->∃u,xs[i*k+j]? =some u/\Rd w X [] u d:=by
 cases h with
 |slice0=>exact⟨_,_,[],rfl,by simp, .inl rfl,by simp,by simp,by simp⟩
 | @slice _ a n c _ _ val hn hpos hc hm hX hb hk hcell hrd=>
  subst hn
  have key:∀q,q<news.length*k->∃(e:List V) (d:V),news[q/k]? =some e/\e[q%k]? =some d/\q/k*k+q%k=q:=λq hq=>by
   have hk0:0<k:=by
    rcases Nat.eq_zero_or_pos k with h|h
    ·subst h;simp at hq
    ·exact h
   have h1:q/k<news.length:=Nat.div_lt_of_lt_mul (by rwa [fb])
   have h2:q%k<(news[q/k]).length:=by rw[hk _ (cR h1)];exact Nat.mod_lt _ hk0
   exact⟨_,_,ab h1,ab h2,by rw[fb];exact gu q k⟩
  refine⟨some a,c,(List.range (news.length*k)).map (λq=>val (q/k) (q%k)),rfl,by simp, .inr ⟨a,rfl,λq u hu=> ?_⟩,λu hu=> ?_,hk,λi j e d h1 h2=> ?_⟩
  ·have hq:q<news.length*k:=by have:=(ax.1 hu).1;simpa using this
   obtain⟨e,d,k1,k2,k3⟩:=key q hq
   have:=hcell _ _ e d k1 k2
   rw[k3] at this
   simp[aE,cV hq] at hu
   rw[this,hu]
  ·obtain⟨q,hq⟩:=cH.1 hu
   have hql:q<news.length*k:=by have:=(ax.1 hq).1;simpa using this
   obtain⟨e,d,k1,k2,k3⟩:=key q hql
   simp[aE,cV hql] at hq
   rw[<-hq]
   exact(hrd _ _ e d k1 k2).one (aFn (hone e (av k1)) _ d k2)
  ·have hj:j<k:=by rw[<-hk e (av h1)];exact(ax.1 h2).1
   have hi:i<news.length:=(ax.1 h1).1
   have hq:i*k+j<news.length*k:=by
    have:(i+1)*k<=news.length*k:=ex _ hi
    rw[de] at this;omega
   refine⟨val i j,?_,hrd i j e d h1 h2⟩
   have hk0:0<k:=by omega
   rw[aE,cV hq,cx]
   rw[show(i*k+j)/k=i by rw[fb,Nat.mul_add_div hk0,Nat.div_eq_of_lt hj,dz],show(i*k+j)%k=j by rw[fb,Nat.mul_add_mod,io hj]]
def aSm {w:World}{t ty e k bts:Nat}(ht:slB P t e k bts=true){v:Value}{n:Nat}{xs:List Value}(hown:w.ownsRow 0 e k v n xs){A:Option Addr}{m c:Nat}{news:List Value}(hl:news.length=m*k)
  (hsrc:m=0\/∃a,A=some a/\∀j u,news[j]? =some u->w.cell? (a.add j)=some u) (h1:∀u∈news,u.oneCell'=true) (hm:n+m<=maxLen) (hb:(n+m)*bts<=140737488355328):
  ∃v' w',(Builtin.append_ #[t,t] ty #[v, .slice A m c]).run P w= .ok v' w'/\w'.ownsRow 0 e k v' (n+m) (xs++news)/\w.grownBy w' v.ownBlock/\(v'.ownBlock=v.ownBlock\/v'.ownBlock=some w.heap.size):=by
 obtain⟨hu,i,z,hi,hz,hik,hib,hzk,hk0⟩:=dV ht
 cases A with
 |some a=>
  have hc:∀j u,news[j]? =some u->w.cell? (a.add j)=some u:=by
   rcases hsrc with h0|⟨a',h2,h3⟩
   ·subst h0
    have:news=[]:=bm (by simpa using hl)
    subst this;simp
   ·injection h2 with h2;subst h2;exact h3
  obtain⟨v',w',h2,h3,h4,_,h6⟩:=run_append_own_at (P:=P) w 0 t ty e i z k bts hu hi hz hik hib hzk hk0 v n xs hown a m c news hl hc h1 hm hb (cn _)
  exact⟨v',w',h2,h3,h4,h6⟩
 |none=>
  have h0:m=0:=by
   rcases hsrc with h0|⟨a',h2,_⟩
   ·exact h0
   ·cases h2
  subst h0
  have hn:news=[]:=bm (by simpa using hl)
  subst hn
  refine⟨v,w,?_,by simpa using hown,⟨rfl,rfl,rfl,ak _,λ_ _ _=>rfl⟩, .inl rfl⟩
  rcases hown.2 with⟨rfl,rfl⟩|⟨gg,cap,cur,rfl,_,_,hnc,_⟩
  ·simp[Builtin.append_,run_underlying hu,sizeOf,typeInfo,hi,Builtin.lenOf,Builtin.firstCells]
  ·simp[Builtin.append_,run_underlying hu,sizeOf,typeInfo,hi,Builtin.lenOf,Builtin.firstCells,hnc,storeCells]
def no {ops:Array Oper}{l:List Oper}{F:S->Prop}{n T k m:Nat}{t':List V}{o':List Ob}(hk:decide (0<k)=true)(hv:At s.t n .nil)(hs:Sn s.o (.row T k []) m o')(hu:Upd s.t n (.own m) t')(h:RF E ops l F ⟨t',o'⟩):RF E ops l F s:=λQ hQ a w ⟨β,r⟩=>by
 have h0:=(r.tmps n _ hv.get).aBL
 obtain⟨r1,r2⟩:=r.aBY (t:=⟨none,0,0⟩) hs (Ext.refl w) (λb hb=>by cases hb) ⟨of_decide_eq_true hk,by simp,[],World.ownsRow_nil w 0 T k,by simp⟩
 have hn:n<a.tmps.size:=by rw[r.tsz];exact(ax.1 hv.get).1
 have hp:=r1.put (v:=a.tmps.getD n undef) (by rw[h0];exact .own (t:=⟨none,0,0⟩) r2) hu
 have ha:a.put (some n) (a.tmps.getD n undef)=a:=by
  unfold Act.put
  simp only
  congr 1
  rw[cf,cC hn]
  apply gt
  rw[jf,<-Array.getElem_toList hn,cL,List.set_getElem_self]
 rw[ha] at hp
 exact h Q hQ a w ⟨_,hp⟩
inductive EvM (E:Env P g) (s:S):List Operand->List V->Prop
 |n:EvM E s [] []
 |c {x:Operand} {U U':V} {xs:List Operand} {Us:List V} (h:Ev E s x U) (hp:Cv s U U') (hr:EvM E s xs Us):EvM E s (x::xs) (U'::Us)
def wi {i:Nat}(h:i+1<9223372036854775808):V.int .i64 (IntKind.i64.wrap ((i:Int)+1))=V.int .i64 (((i+1:Nat):Int)):=by
 congr 1;rw[IntKind.wrap_i64];omega
def b2s {x:Operand}{t e u:Nat}{ns:List Int}(ht:P.underlying t=some (.slice e))(he:P.underlying e=some (.int .u8))(hu:P.underlying u=some .string)(hl:ns.length<=maxLen)
  (hx:Ev E s x (.slice 1 (ns.map λn=>[V.int .u8 n]))):vN E s (.convert t u x) (.str (ns.foldl (λr n=>r.push (UInt8.ofNat n.toNat)) ByteArray.empty)):=λβ a w r o ho=>by
 have h0:=hx β a w r
 have hsz:∀(ns:List Int) (s:ByteArray),(ns.foldl (λr n=>r.push (UInt8.ofNat n.toNat)) s).size=s.size+ns.length:=by
  intro ns
  induction ns with
  |nil=>simp
  |cons n ns ih=>intro s;simp only[cM,ih,ByteArray.size_push,az];omega
 refine⟨_,λw' hw=> ?_, .str (by rw[hsz];simpa using hl)⟩
 cases hv:a.eval x with
 |slice A n c=>
  rw[hv] at h0
  cases ns with
  |nil=>
   have:n=0:=by
    obtain⟨A',c',h1,_,_⟩:=h0.aBD
    simp at h1;exact h1.2.1
   subst this
   cases A with
   |none=>simp[execOp,ho,hv,run_convert_bytes_string w' t u e _ _ _ ht he hu,Conv.bytesToString]
   |some ad=>
    have:=run_bytesToString (P:=P) w' ad 0 c [] (by simp[loadCells,loadCellsFrom])
    simp only[gC] at this
    simp[execOp,ho,hv,run_convert_bytes_string w' t u e _ _ _ ht he hu,this]
  |cons n0 ns'=>
   generalize hns:n0::ns'=ns at*
   generalize hes:(ns.map λn=>[V.int .u8 n])=es at h0
   cases h0 with
   |slice0=>subst hns;simp at hes
   | @slice _ ad _ _ _ _ val hn hpos hc hm hX hb hk hcell hrd=>
    subst hes
    have hcells:(loadCells ad n).run P w'= .ok (ns.map (Value.int .u8)).toArray w':=by
     have hlen:(ns.map (Value.int .u8)).length=n:=by rw[hn];simp
     rw[<-hlen]
     refine run_loadCells_list w' ad _ (λj v hj=> ?_)
     have hjl:j<ns.length:=by have:=(ax.1 hj).1;simpa using this
     have h1:(ns.map λn=>[V.int .u8 n])[j]? =some [V.int .u8 ns[j]]:=by simp[aE,ab hjl]
     have h2:=hcell j 0 _ _ h1 rfl
     have h3:=(hrd j 0 _ _ h1 rfl).aAK.1
     rw[Nat.mul_one,dz] at h2
     rw[hw.cell h2,h3]
     simp[aE,ab hjl] at hj
     rw[hj]
    have:=run_bytesToString (P:=P) w' ad n c ns hcells
    simp[execOp,ho,hv,run_convert_bytes_string w' t u e _ _ _ ht he hu,this]
 |_=>rw[hv] at h0;cases ns<;>cases h0
end Go.VK

namespace Go.VK
section
variable {α:Type} {a0 a1 a2 a3 a4 a5 a6 a7 a8 a9 b0 b1 b2 b3 b4 b5 b6 b7 b8 b9 c0 c1 c2 c3 c4 c5 c6 c7 c8 c9 f0 f1 f2 f3 f4 f5 f6 f7 f8 f9 g0 g1 g2 g3 g4 g5 g6 g7 g8 g9 h0 h1 h2 h3 h4 h5 h6 h7 h8 h9 i0 i1 i2 i3 i4 i5 i6 i7 i8 i9 j0 j1 j2 j3 j4 j5 j6 j7 j8 j9 l0 l1 l2 l3 l4 l5 l6 l7 l8 l9 m0 m1 m2 m3 m4 m5 m6 m7 m8 m9 x:α} {t:List α}
def n0:At (x::t) 0 x:= .z
def n1:At (a0::x::t) 1 x:= .s n0
def n2:At (a0::a1::x::t) 2 x:= .s n1
def n3:At (a0::a1::a2::x::t) 3 x:= .s n2
def n4:At (a0::a1::a2::a3::x::t) 4 x:= .s n3
def n5:At (a0::a1::a2::a3::a4::x::t) 5 x:= .s n4
end
section
variable {a0 a1 a2 a3 a4 a5 a6 a7 a8 a9 b0 b1 b2 b3 b4 b5 b6 b7 b8 b9 c0 c1 c2 c3 c4 c5 c6 c7 c8 c9 f0 f1 f2 f3 f4 f5 f6 f7 f8 f9 g0 g1 g2 g3 g4 g5 g6 g7 g8 g9 h0 h1 h2 h3 h4 h5 h6 h7 h8 h9 i0 i1 i2 i3 i4 i5 i6 i7 i8 i9 j0 j1 j2 j3 j4 j5 j6 j7 j8 j9 l0 l1 l2 l3 l4 l5 l6 l7 l8 l9 m0 m1 m2 m3 m4 m5 m6 m7 m8 m9 x y:V} {t:List V}
def u0:Upd (x::t) 0 y (y::t):= .z
def u1:Upd (a0::x::t) 1 y (a0::y::t):= .s u0
def u2:Upd (a0::a1::x::t) 2 y (a0::a1::y::t):= .s u1
def u3:Upd (a0::a1::a2::x::t) 3 y (a0::a1::a2::y::t):= .s u2
def u4:Upd (a0::a1::a2::a3::x::t) 4 y (a0::a1::a2::a3::y::t):= .s u3
def u5:Upd (a0::a1::a2::a3::a4::x::t) 5 y (a0::a1::a2::a3::a4::y::t):= .s u4
def u6:Upd (a0::a1::a2::a3::a4::a5::x::t) 6 y (a0::a1::a2::a3::a4::a5::y::t):= .s u5
def u7:Upd (a0::a1::a2::a3::a4::a5::a6::x::t) 7 y (a0::a1::a2::a3::a4::a5::a6::y::t):= .s u6
def u8:Upd (a0::a1::a2::a3::a4::a5::a6::a7::x::t) 8 y (a0::a1::a2::a3::a4::a5::a6::a7::y::t):= .s u7
def d0:Dr (t) 0 t:= .z
def d1:Dr (a0::t) 1 t:= .s d0
def d2:Dr (a0::a1::t) 2 t:= .s d1
def d3:Dr (a0::a1::a2::t) 3 t:= .s d2
def d4:Dr (a0::a1::a2::a3::t) 4 t:= .s d3
def d5:Dr (a0::a1::a2::a3::a4::t) 5 t:= .s d4
def d6:Dr (a0::a1::a2::a3::a4::a5::t) 6 t:= .s d5
def d7:Dr (a0::a1::a2::a3::a4::a5::a6::t) 7 t:= .s d6
def k0:Tk (t) 0 []:= .z
def k1:Tk (a0::t) 1 [a0]:= .s k0
def k2:Tk (a0::a1::t) 2 [a0,a1]:= .s k1
def k3:Tk (a0::a1::a2::t) 3 [a0,a1,a2]:= .s k2
def k4:Tk (a0::a1::a2::a3::t) 4 [a0,a1,a2,a3]:= .s k3
def k5:Tk (a0::a1::a2::a3::a4::t) 5 [a0,a1,a2,a3,a4]:= .s k4
def k6:Tk (a0::a1::a2::a3::a4::a5::t) 6 [a0,a1,a2,a3,a4,a5]:= .s k5
def k7:Tk (a0::a1::a2::a3::a4::a5::a6::t) 7 [a0,a1,a2,a3,a4,a5,a6]:= .s k6
end
section
variable {a0 a1 a2 a3 a4 a5 a6 a7 a8 a9 b0 b1 b2 b3 b4 b5 b6 b7 b8 b9 c0 c1 c2 c3 c4 c5 c6 c7 c8 c9 f0 f1 f2 f3 f4 f5 f6 f7 f8 f9 g0 g1 g2 g3 g4 g5 g6 g7 g8 g9 h0 h1 h2 h3 h4 h5 h6 h7 h8 h9 i0 i1 i2 i3 i4 i5 i6 i7 i8 i9 j0 j1 j2 j3 j4 j5 j6 j7 j8 j9 l0 l1 l2 l3 l4 l5 l6 l7 l8 l9 m0 m1 m2 m3 m4 m5 m6 m7 m8 m9 x y:Ob} {t:List Ob}
def s0:Sn [] x 0 [x]:= .z
def s1:Sn [a0] x 1 [a0,x]:= .s s0
def s2:Sn [a0,a1] x 2 [a0,a1,x]:= .s s1
def s3:Sn [a0,a1,a2] x 3 [a0,a1,a2,x]:= .s s2
def s4:Sn [a0,a1,a2,a3] x 4 [a0,a1,a2,a3,x]:= .s s3
def q0:UpO (x::t) 0 y (y::t):= .z
def q1:UpO (a0::x::t) 1 y (a0::y::t):= .s q0
def q2:UpO (a0::a1::x::t) 2 y (a0::a1::y::t):= .s q1
def q3:UpO (a0::a1::a2::x::t) 3 y (a0::a1::a2::y::t):= .s q2
def q4:UpO (a0::a1::a2::a3::x::t) 4 y (a0::a1::a2::a3::y::t):= .s q3
def q5:UpO (a0::a1::a2::a3::a4::x::t) 5 y (a0::a1::a2::a3::a4::y::t):= .s q4
def q6:UpO (a0::a1::a2::a3::a4::a5::x::t) 6 y (a0::a1::a2::a3::a4::a5::y::t):= .s q5
end
end Go.VK

namespace Go.VK
open Go.RowKit
def iV (n:Int):List V:=[.int .i64 n]
def bV (b:Bool):List V:=[.bool b]
def sV (s:ByteArray):List V:=[.str s]
def y8 (n:Int):List V:=[.int .u8 n]
def yV (n:UInt8):List V:=[.int .u8 n.toNat]
section
variable {P:Program} {g:GI} {E:Env P g} {s:S}
end
end Go.VK

namespace Go.VK
open Go.RowKit
def aH {n:Int}(h0: -9223372036854775808<=n)(h1:n<=9223372036854775807):IntKind.i64.wrap n=n:=by rw[IntKind.wrap_i64];omega
def bE (n a b:Int):Bool:=decide (a<=n)&&decide (n<=b)
def gX {n a b:Int}(h:bE n a b=true):a<=n/\n<=b:=by simpa[bE] using h
end Go.VK

namespace Go.VK
open Go.RowKit Go.WideShapes Go.ChangeShapes
variable {P:Program}
def bCk (w:World)(cs:List Value)(us:List V):Prop:=
 cs.length=us.length/\∀(i:Nat) (v:Value) (c:V),cs[i]? =some v->us[i]? =some c->Rd w (λ_=>False) [] v c
def Lg (P:Program)(t:TypeId)(α:Type)(f:α->List V):Prop:=
 ∀(w:World) (H:Type) (enc:TypeId×Value->H) (sp:Nat->Bool) (held:Bool) (fuel:Nat) (cs:List Value) (x:DataW H×List MemPlace),
  DataW.trod enc P w 0 sp held fuel t cs=some x->∃a:α,bCk w cs (f a)
def bGd {w:World}{v:Value}{c:V}(h:Rd w (λ_=>False) [] v c):bCk w [v] [c]:=
 ⟨rfl,λi v' c' h1 h2=>by
  cases i with
  |zero=>simp at h1 h2;subst h1;subst h2;exact h
  |succ i=>simp at h1⟩
def bIl {t:TypeId}(ht:P.underlying t=some (.int .u8)):Lg P t Int y8:=by
 intro w H enc sp held fuel cs x h
 obtain⟨n,rfl,_,hwf⟩:=DataW.trod_int ht h
 simp only[Lit.wf,aa,cW] at hwf
 exact⟨n,bGd (.int hwf.1 hwf.2)⟩
def choice {α:Type}{p:Nat->α->Prop}:∀(n:Nat),(∀i,i<n->∃a,p i a)->∃l:List α,l.length=n/\∀i a,l[i]? =some a->p i a
 |0,_=>⟨[],rfl,by simp⟩
 |n+1,h=>by
  obtain⟨l,h1,h2⟩:=choice n (λi hi=>h i (by omega))
  obtain⟨a,ha⟩:=h n (by omega)
  refine⟨l++[a],by simp[h1],λi b hb=> ?_⟩
  by_cases hi:i<n
  ·rw[ao (by omega)] at hb;exact h2 i b hb
  ·rw[au (by omega)] at hb
   have:i=n:=by
    have:=(ax.1 hb).1
    simp at this;omega
   subst this
   simp[h1] at hb;subst hb;exact ha
def aYu {w:World}{a:Addr}{n:Nat}{cs:List Value}(h:w.cells? 0 a n=some cs):cs.length=n/\∀j v,cs[j]? =some v->w.cell? (a.add j)=some v:=by
 unfold World.cells? at h
 rw[cr (cn _)] at h
 have hl:cs.length=n:=by simpa using mapM_some_length h
 refine⟨hl,λj v hv=> ?_⟩
 have hj:j<n:=by rw[<-hl];exact(ax.1 hv).1
 rw[<-hv]
 exact mapM_some_get h j j (by simp[hj])
def aYv {t e k:Nat}{α:Type}{f:α->List V}(ht:P.underlying t=some (.slice e))(hk:P.cellsOf e=k)(h0:0<k)(hf:∀a,(f a).length=k)(h:Lg P e α f):
  Lg P t (List α) (λl=>[.slice k (l.map f)]):=by
 intro w H enc sp held fuel cs x hx
 rcases DataW.trod_slice ht hx with⟨rfl,_⟩|⟨a,len,cap,elems,rest,n,_,rfl,_,_,h3,h4,h5,h6,_,_⟩
 ·exact⟨[],bGd (.slice0 (cn _))⟩
 ·have hc:∀i,i<len->∃b:α,∃cs,w.cells? 0 (a.add (i*k)) k=some cs/\bCk w cs (f b):=by
   intro i hi
   have:=h6 i hi
   rw[hk,ab (by omega)] at this
   obtain⟨cs,h7,h8⟩:=Option.bind_eq_some_iff.1 this
   obtain⟨b,hb⟩:=h w H enc sp held n cs _ h8
   exact⟨b,cs,h7,hb⟩
  obtain⟨l,hl,hp⟩:=choice len hc
  refine⟨l,bGd ?_⟩
  cases hlen:len with
  |zero=>
   have:l=[]:=bm (by omega)
   subst this
   exact .slice0 h4
  |succ m=>
   have hget:∀(i:Nat) (e:List V),(l.map f)[i]? =some e->∃b,e=f b/\∃cs,w.cells? 0 (a.add (i*k)) k=some cs/\bCk w cs (f b):=by
    intro i e he
    rw[aE] at he
    obtain⟨b,hb,rfl⟩:=ee.1 he
    exact⟨b,rfl,hp i b hb⟩
   have hcell:∀(i j:Nat) (e:List V) (d:V),(l.map f)[i]? =some e->e[j]? =some d->∃v,w.cell? (a.add (i*k+j))=some v/\Rd w (λ_=>False) [] v d:=by
    intro i j e d he hd
    obtain⟨b,rfl,cs,h7,h8,h9⟩:=hget i e he
    obtain⟨c1,c2⟩:=aYu h7
    have hj:j<cs.length:=by rw[h8];exact(ax.1 hd).1
    have hv:cs[j]? =some cs[j]:=ab hj
    refine⟨cs[j],?_,h9 j _ d hv hd⟩
    rw[<-Addr.add_add];exact c2 j _ hv
   have hblock:a.block<w.heap.size:=by
    obtain⟨b,cs,h7,_⟩:=hc 0 (by omega)
    have:=World.cells?_block h7 h0
    rwa [show(a.add (0*k)).block=a.block by unfold Addr.add;split<;>rfl] at this
   refine .slice (val:=λi j=>(w.cell? (a.add (i*k+j))).getD undef) (by simp[hl,hlen]) (by simp;omega) (by omega) h4 (λh=>h) hblock
    (λe he=>by obtain⟨b,_,rfl⟩:=bo.1 he;exact hf b) (λi j e d he hd=> ?_) (λi j e d he hd=> ?_)
   ·obtain⟨v,h7,_⟩:=hcell i j e d he hd
    rw[h7];rfl
   ·obtain⟨v,h7,h8⟩:=hcell i j e d he hd
    rw[h7];exact h8
def aWo {H:Type}{enc:TypeId×Value->H}{t e:TypeId}{α:Type}{g:α->V}(hd:Lg P t α (λa=>[g a]))(ht:P.underlying t=some (.slice e)){W:World}{base:Nat}{sp:Nat->Bool}{held:Bool}{v:Value}{d:DataW H}{p:List MemPlace}
  (hv:Value.okWide P W .any base t v) (h:DataW.Trod enc P W 0 sp held t v d p):∃a,Rd W (λ_=>False) [] v (g a):=by
 obtain⟨b,len,cap,rfl⟩:=okWide_slice ht hv
 obtain⟨fuel,hf⟩:=h
 obtain⟨a,h1,h2⟩:=hd W H enc sp held fuel _ _ hf
 exact⟨a,h2 0 _ _ rfl rfl⟩
end Go.VK
