import Derived.Below
import Derived.OrdersHeld
import Derived.Laws.AppendOwn
import Derived.Laws.OwnMore
import Derived.Laws.MakeOwn
import Derived.KernelRfl
import Derived.Laws.Concat
import Derived.Laws.Strings2
import Derived.Laws.Small
import Derived.Laws.Slices
import Derived.IntWalk
import Derived.Maps.AppendAt
import Derived.Deep.RegionHeld3
import Derived.Laws.BytesString
import Derived.Lib.LaidTab
import Derived.BarOnce
import Derived.Lib.ItoaMem
import Derived.Lib.ItoaLen
import Derived.Sort.Grow
import Derived.Carry
import Derived.ChangeArms
import Derived.DataElems
import Derived.DataReads
import Derived.ChangeOld
import Derived.WideShapes
import Derived.ChangeShapes
import Derived.Lib.LaidU8
import Derived.Lib.Join
import Derived.Lib.ConvBytes
import Derived.Laws.StructEq
import Derived.Lib.Split
/- Printed by wip/tools: models, walks, proofs. -/
set_option linter.all false
namespace Go.VK
def aa:=@List.getElem?_eq_getElem
def ab:=@Bool.and_eq_true
def ac:=@cond_false
def ae:=@cond_true
def ah:=@Bool.not_true
def ai:=@Nat.eq_of_beq_eq_true
def aj:=@Option.some.injEq
def ak:=@Option.some.inj
def ao:=@Nat.le_refl
def aq:=@List.getElem?_append_left
def au:=@decide_eq_true
def av:=@decide_eq_false
def aw:=@List.length_cons
def ax:=@List.getElem?_append_right
def ay:=@List.length_set
def az:=@List.length_append
def aE:=@Nat.le_of_ble_eq_true
def ba:=@List.mem_of_getElem?
def bc:=@Bool.not_false
def bf:=@List.getElem?_eq_some_iff
def bg:=@List.getElem?_set_ne
def bh:=@bne_self_eq_false
def bj:=@List.length_nil
def bl:=@List.mem_cons
def bm:=@List.getElem?_set_self
def bn:=@List.length_map
def bo:=@Nat.le_trans
def bp:=@List.nil_append
def bq:=@List.getElem?_map
def bu:=@Bool.or_eq_false_iff
def bv:=@Int.tmod_eq_emod_of_nonneg
def bw:=@List.map_cons
def bz:=@Array.getElem?_eq_some_iff
def ca:=@Nat.lt_of_lt_of_le
def cb:=@List.length_take
def ce:=@List.mem_append
def cf:=@List.length_singleton
def cg:=@decide_eq_true_eq
def ci:=@Int.toNat_natCast
def cj:=@List.eq_nil_of_length_eq_zero
def ck:=@Bool.or_eq_true
def cl:=@Nat.zero_add
def cm:=@Nat.zero_le
def cn:=@Bool.not_eq_true'
def co:=@List.nodup_cons
def cp:=@beq_eq_false_iff_ne
def cq:=@List.take_length
def cr:=@List.length_drop
def ct:=@Array.getD_eq_getD_getElem?
def cu:=@if_pos
def cw:=@List.append_assoc
def cx:=@List.getElem_mem
def cy:=@Bool.false_or
def cz:=@List.mem_map
def cA:=@Bool.true_and
def cC:=@Nat.add_sub_cancel_left
def cD:=@Prod.mk.injEq
def cE:=@List.map_append
def cF:=@List.drop_eq_getElem_cons
def cG:=@if_neg
def cH:=@List.cons_append
def cI:=@List.all_eq_true
def cJ:=@List.take_add_one
def cL:=@Array.getElem?_eq_getElem
def cM:=@List.flatten_cons
def cN:=@beq_iff_eq
def cP:=@Bool.false_ne_true
def cQ:=@List.mem_iff_getElem?
def cR:=@List.takeWhile_cons
def cT:=@Array.length_toList
def cU:=@decide_eq_decide
def cV:=@Option.getD_some
def cW:=@List.take_append_drop
def cX:=@Option.toList_some
def cY:=@List.pairwise_cons
def da:=@Option.map_some
def db:=@List.foldl_cons
def dc:=@Nat.le_add_right
def de:=@Nat.beq_refl
def df:=@List.getElem?_range
def dg:=@Nat.add_zero
def dh:=@List.mem_singleton
def di:=@decide_eq_false_iff_not
def dk:=@List.drop_length
def dl:=@Bool.and_self
def dm:=@Bool.and_false
def dn:=@List.flatten_append
def dp:=@Nat.add_mul
def dq:=@List.range_succ
def dr:=@Bool.not_eq_false'
def dt:=@Nat.mul_le_mul_right
def du:=@List.mem_iff_getElem
def dv:=@eq_of_heq
def dw:=@Int.eq_ofNat_of_zero_le
def dx:=@Option.map_eq_some_iff
def dy:=@Nat.le_succ
def dz:=@List.sum_cons
def dT:=@List.mem_cons_self
def d8:=@Nat.ble_eq_true_of_le
def ee:=@Array.setIfInBounds_eq_of_size_le
def eg:=@List.nodup_append
def eh:=@List.mem_cons_of_mem
def en:=@List.length_range
def eo:=@List.takeWhile_append_dropWhile
def et:=@Nat.lt_succ_self
def eu:=@Nat.lt_or_ge
def ex:=@List.take_of_length_le
def ey:=@List.append_nil
def ez:=@List.set_append_right
def eC:=@List.length_filter_le
def eE:=@List.getElem?_eq_none
def eI:=@List.mem_of_mem_drop
def eJ:=@Int.tdiv_eq_ediv_of_nonneg
def eK:=@List.set_set
def eL:=@List.map_nil
def eM:=@List.pairwise_iff_getElem
def eN:=@List.map_drop
def eR:=@List.cons.injEq
def eS:=@Bool.eq_iff_iff
def eV:=@List.getElem?_take
def eW:=@List.getElem?_drop
def e8:=@List.getElem?_cons_zero
def e9:=@List.getElem?_cons_succ
def fa:=@Nat.mul_comm
def fb:=@List.getElem_take
def fc:=@List.foldl_append
def fe:=@List.drop_eq_nil_of_le
def fg:=@beq_self_eq_true
def fh:=@Nat.and_two_pow_sub_one_eq_mod
def fi:=@List.any_eq_true
def fj:=@Nat.mul_le_mul_left
def fk:=@List.drop_succ_cons
def fm:=@Int.pow_succ
def fo:=@List.set_cons_succ
def fp:=@List.foldl_nil
def fq:=@Int.fdiv_eq_ediv_of_nonneg
def fu:=@Array.getElem?_append_left
def fv:=@Int.mul_assoc
def fw:=@Bool.or_false
def fx:=@Array.setIfInBounds_comm
def fy:=@List.zipIdx_cons
def fL:=@Nat.sub_self
def fN:=@List.getElem_cons_zero
def fR:=@List.getElem_cons_succ
def fS:=@Int.mul_comm
def fW:=@Int.le_trans
def fX:=@Nat.div_add_mod
def fY:=@Int.tmod_nonneg
def ga:=@List.getElem_set_self
def gb:=@Nat.pow_le_pow_right
def gf:=@List.take_left
def gh:=@List.drop_zero
def gi:=@if_true
def gj:=@List.take_succ_cons
def gk:=@List.map_congr_left
def gl:=@List.getElem_of_mem
def gm:=@Array.toList_zipIdx
def gn:=@List.all_cons
def gp:=@Bool.and_true
def gq:=@List.set_cons_zero
def gr:=@Int.tmod_lt_of_pos
def gt:=@Int.natCast_nonneg
def gu:=@Array.foldl_toList
def gv:=@Option.mem_toList
def gx:=@List.take_succ_eq_append_getElem
def gy:=@List.size_toArray
def gz:=@List.map_map
def gA:=@Bool.or_self
def gC:=@Array.size_append
def gE:=@Nat.mod_eq_of_lt
def gO:=@List.not_mem_nil
def gR:=@List.mem_flatten
def gS:=@List.map_toArray
def hC:=@List.flatten_nil
def hH:=@List.filter_cons
def ia:=@Array.toList_inj
def ib:=@Nat.shiftLeft_add_eq_or_of_lt
def ic:=@Nat.min_eq_left
def ie:=@List.any_append
def ig:=@Array.getElem?_setIfInBounds
def ij:=@Nat.mul_le_mul
def im:=@Nat.lt_of_mul_lt_mul_right
def io:=@List.nodup_nil
def ip:=@List.mapM_cons
def iq:=@Int.mul_nonneg
def ir:=@Bool.false_and
def iv:=@List.mem_or_eq_of_mem_set
def iw:=@Nat.add_lt_add_iff_right
def iy:=@Nat.add_assoc
def iS:=@List.set_eq_of_length_le
def ja:=@Array.getElem?_replicate
abbrev Qa (n:Nat):Prop:=n<=34359738368
abbrev Qb (n:Nat):Prop:=n<=34359738300
abbrev Qc (n:Nat):Prop:=n<=34359738200
abbrev Qd (n:Nat):Prop:=n<=34359738100
abbrev Qe (n:Nat):Prop:=n<=34359738360
open Go.RowKit
inductive V where
 |int (k:IntKind) (n:Int)
 |bool (b:Bool)
 |str (s:ByteArray)
 |slice (k:Nat) (es:List (List V))
 |nil
 |agg (cs:List V)
 |tup (vs:List V)
 |box (i off:Nat)
 |elem (cs:List V)
 |own (i:Nat)
 |oel (i off:Nat)
 |und
 |any
structure Tr where
 b:Option Nat
 n:Nat
 c:Nat
def Tr.val (t:Tr):Value:= .slice (t.b.map λb=>⟨b,0,none⟩) t.n t.c
def Ext (w w':World):Prop:=Below w.heap.size w w'
theorem Ext.refl (w:World):Ext w w:=Below.refl _ _
theorem Ext.trans {a b c:World}(h:Ext a b)(k:Ext b c):Ext a c:=Below.trans h (Below.mono k h.size)
def Ext.cell {w w':World}(h:Ext w w'){p:Addr}{u:Value}(hc:w.cell? p=some u):w'.cell? p=some u:=
 (Below.cell h (World.block_lt_of_cell? w p hc)).trans hc
def Ext.heap {w w':World}(h:Ext w w'){b:Nat}{o:Obj}(hb:w.heap[b]? =some o):w'.heap[b]? =some o:=
 (h.block b (bz.1 hb).1).trans hb
def Ext.drew (w:World):Ext w w.drew:=(Below.refl _ _).drew
def Ext.alloc (w:World)(o:Obj):Ext w (w.alloc o):=(Below.refl _ _).alloc (ao _) o
inductive Rd (w:World) (X:Nat->Prop):List Tr->Value->V->Prop
 |int {β:List Tr} {k:IntKind} {n:Int} (h1:k.min<=n) (h2:n<=k.max):Rd w X β (.int k n) (.int k n)
 |bool {β:List Tr} {b:Bool}:Rd w X β (.bool b) (.bool b)
 |str {β:List Tr} {s:ByteArray} (h:s.size<=maxLen):Rd w X β (.string s) (.str s)
 |slice0 {β:List Tr} {A:Option Addr} {c k:Nat} (h:c<=maxLen):Rd w X β (.slice A 0 c) (.slice k [])
 |slice {β:List Tr} {a:Addr} {n c k:Nat} {es:List (List V)} {val:Nat->Nat->Value} (hn:n=es.length) (hpos:0<es.length) (hc:n<=c) (hm:c<=maxLen)
   (hX:¬X a.block) (hb:a.block<w.heap.size) (hk:∀e∈es,e.length=k)
   (hcell:∀(i j:Nat) (e:List V) (d:V),es[i]? =some e->e[j]? =some d->w.cell? (a.add (i*k+j))=some (val i j))
   (hrd:∀(i j:Nat) (e:List V) (d:V),es[i]? =some e->e[j]? =some d->Rd w X [] (val i j) d):Rd w X β (.slice (some a) n c) (.slice k es)
 |nil {β:List Tr}:Rd w X β (.slice none 0 0) .nil
 |agg {β:List Tr} {vs:Array Value} {cs:List V} (hl:vs.size=cs.length) (h:∀(i:Nat) (v:Value) (c:V),vs[i]? =some v->cs[i]? =some c->Rd w X β v c):Rd w X β (.agg vs) (.agg cs)
 |tup {β:List Tr} {vs:Array Value} {cs:List V} (hl:vs.size=cs.length) (h:∀(i:Nat) (v:Value) (c:V),vs[i]? =some v->cs[i]? =some c->Rd w X β v c):Rd w X β (.tuple vs) (.tup cs)
 |box {β:List Tr} {i off b:Nat} {t:Tr} (h:β[i]? =some t) (hb:t.b=some b):Rd w X β (.pointer (some ⟨b,off,none⟩)) (.box i off)
 |elem {β:List Tr} {a:Addr} {cs:List V} {val:Nat->Value} (hX:¬X a.block) (hb:a.block<w.heap.size)
   (hcell:∀(j:Nat) (d:V),cs[j]? =some d->w.cell? (a.add j)=some (val j))
   (hrd:∀(j:Nat) (d:V),cs[j]? =some d->Rd w X [] (val j) d):Rd w X β (.pointer (some a)) (.elem cs)
 |own {β:List Tr} {i:Nat} {t:Tr} (h:β[i]? =some t):Rd w X β t.val (.own i)
 |oel {β:List Tr} {i off b:Nat} {t:Tr} (h:β[i]? =some t) (hb:t.b=some b):Rd w X β (.pointer (some ⟨b,off,none⟩)) (.oel i off)
 |und {β:List Tr}:Rd w X β undef .und
 |any {β:List Tr} {v:Value}:Rd w X β v .any
def Rd.conv {w w':World}{X X':Nat->Prop}{β:List Tr}{v:Value}{U:V}(h:Rd w X β v U)(hsz:w.heap.size<=w'.heap.size)
  (hX:∀b,b<w.heap.size->X' b->X b) (hcell:∀(p:Addr) (u:Value),¬X p.block->w.cell? p=some u->w'.cell? p=some u):
  ∀{β':List Tr},(∀(i:Nat) (t:Tr),β[i]? =some t->β'[i]? =some t)->Rd w' X' β' v U:=by
 induction h with
 |int h1 h2=>exact λ_=> .int h1 h2
 |bool=>exact λ_=> .bool
 |str h=>exact λ_=> .str h
 |slice0 h=>exact λ_=> .slice0 h
 | @slice β a n c k es val hn hpos hc hm q hb hk r hrd z=>
  intro β' _;refine .slice (val:=val) hn hpos hc hm (λh=>q (hX _ hb h)) (ca hb hsz) hk (λi j e d h1 h2=>hcell _ _ ?_ (r i j e d h1 h2)) (λi j e d h1 h2=>z i j e d h1 h2 (λ_ _ h=>h));have:(a.add (i*k+j)).block=a.block:=by unfold Addr.add;split<;>rfl
  rw[this];exact q
 |nil=>exact λ_=> .nil
 |agg hl _ z=>exact λhβ=> .agg hl (λi v c h1 h2=>z i v c h1 h2 hβ)
 |tup hl _ z=>exact λhβ=> .tup hl (λi v c h1 h2=>z i v c h1 h2 hβ)
 |box h hb=>exact λhβ=> .box (hβ _ _ h) hb
 | @elem β a cs val q hb r hrd z=>
  intro β' _;refine .elem (val:=val) (λh=>q (hX _ hb h)) (ca hb hsz) (λj d h=>hcell _ _ ?_ (r j d h)) (λj d h=>z j d h (λ_ _ h=>h));have:(a.add j).block=a.block:=by unfold Addr.add;split<;>rfl
  rw[this];exact q
 |own h=>exact λhβ=> .own (hβ _ _ h)
 |oel h hb=>exact λhβ=> .oel (hβ _ _ h) hb
 |und=>exact λ_=> .und
 |any=>exact λ_=> .any
def Rd.ext {w w':World}{X:Nat->Prop}{β:List Tr}{v:Value}{U:V}(h:Rd w X β v U)(he:Ext w w'):Rd w' X β v U:=
 h.conv he.size (λ_ _ h=>h) (λ_ _ _ hc=>he.cell hc) (λ_ _ h=>h)
def V.plain:V->Bool
 | .int .. | .bool _| .str _| .slice .. | .nil=>true
 | .agg cs=>allPlain cs
 | .tup cs=>allPlain cs
 |_=>false
 where allPlain:List V->Bool
 |[]=>true
 |c::cs=>c.plain&&allPlain cs
def V.aBC {cs:List V}(h:V.plain.allPlain cs=true):∀(i:Nat) (c:V),cs[i]? =some c->c.plain=true:=by
 induction cs with
 |nil=>intro i c hc;simp at hc
 |cons x xs a=>
  simp only[V.plain.allPlain,ab] at h;intro i c hc;cases i with
  |zero=>simp at hc;rw[<-hc];exact h.1
  |succ i=>exact a h.2 i c (by simpa using hc)
def Rd.aBM {w:World}{X:Nat->Prop}{β:List Tr}{v:Value}{U:V}(h:Rd w X β v U):U.plain=true->∀{β':List Tr},Rd w X β' v U:=by
 induction h with
 |int h1 h2=>exact λ_ _=> .int h1 h2
 |bool=>exact λ_ _=> .bool
 |str h=>exact λ_ _=> .str h
 |slice0 h=>exact λ_ _=> .slice0 h
 |slice hn hpos hc hm b hb hk d hrd a=>exact λ_ _=> .slice hn hpos hc hm b hb hk d hrd
 |nil=>exact λ_ _=> .nil
 |agg hl _ a=>exact λhp β'=> .agg hl (λi v c h1 h2=>a i v c h1 h2 (V.aBC (by simpa[V.plain] using hp) i c h2))
 |tup hl _ a=>exact λhp β'=> .tup hl (λi v c h1 h2=>a i v c h1 h2 (V.aBC (by simpa[V.plain] using hp) i c h2))
 |_=>intro hp;simp[V.plain] at hp
inductive Ob where
 |box (T:TypeId) (cs:List V)
 |row (T:TypeId) (k:Nat) (es:List (List V))
structure S where
 t:List V
 o:List Ob
structure GI where
 G:World->Prop
 st:∀w w',G w->Ext w w'->G w'
structure Env (P:Program) (g:GI) where
 X0:Nat->Prop
 w0:World
 h0:∀b,X0 b->b<w0.heap.size
 hg:g.G w0
def Ob.ok (w:World)(X:Nat->Prop)(β:List Tr)(t:Tr):Ob->Prop
 | .box T cs=>∃(b:Nat) (vs:List Value),t.b=some b/\w.heap[b]? =some (.cells vs.toArray T (0,0))/\vs.length=cs.length/\
   ∀(i:Nat) (v:Value) (c:V),vs[i]? =some v->cs[i]? =some c->Rd w X β v c
 | .row T k es=>0<k/\(∀e∈es,e.length=k)/\∃xs:List Value,w.ownsRow 0 T k t.val es.length xs/\
   ∀(i j:Nat) (e:List V) (d:V),es[i]? =some e->e[j]? =some d->∃v,xs[i*k+j]? =some v/\v.oneCell'=true/\Rd w X [] v d
section
variable {P:Program} {g:GI}
def Env.X (E:Env P g)(β:List Tr)(b:Nat):Prop:=E.X0 b\/∃t∈β,t.b=some b
structure RelB (E:Env P g) (s:S) (β:List Tr) (a:Act) (w:World):Prop where
 ext:Ext E.w0 w
 defers:a.defers=[]
 tsz:a.tmps.size=s.t.length
 tmps:∀(n:Nat) (U:V),s.t[n]? =some U->Rd w (E.X β) β (a.tmps.getD n undef) U
 blen:β.length=s.o.length
 new:∀(i:Nat) (t:Tr) (b:Nat),β[i]? =some t->t.b=some b->E.w0.heap.size<=b/\b<w.heap.size
 dist:∀(i j:Nat) (t u:Tr) (b:Nat),i≠j->β[i]? =some t->β[j]? =some u->t.b=some b->u.b≠some b
 objs:∀(i:Nat) (t:Tr) (o:Ob),β[i]? =some t->s.o[i]? =some o->o.ok w (E.X β) β t
def bB (E:Env P g)(s:S)(a:Act)(w:World):Prop:=∃β,RelB E s β a w
def Ob.ok.ext {w w':World}{X:Nat->Prop}{β:List Tr}{t:Tr}{o:Ob}(h:o.ok w X β t)(he:Ext w w'):o.ok w' X β t:=by
 cases o with
 |box T cs=>obtain⟨b,vs,hb,a,hl,hr⟩:=h;exact⟨b,vs,hb,he.heap a,hl,λi v c h1 h2=>(hr i v c h1 h2).ext he⟩
 |row T k es=>obtain⟨h1,h2,xs,h3,h4⟩:=h;refine⟨h1,h2,xs,?_,λi j e d k1 k2=>let ⟨v,k3,k4,k5⟩:=h4 i j e d k1 k2;⟨v,k3,k4,k5.ext he⟩⟩;obtain⟨a1,a2⟩:=h3;refine⟨a1,a2.imp id ?_⟩;rintro⟨n,cap,cur,c1,c2,c3,c4⟩;exact⟨n,cap,cur,c1,c2,he.heap c3,c4⟩
def RelB.extend {E:Env P g}{s:S}{β:List Tr}{a:Act}{w w':World}(h:RelB E s β a w)(he:Ext w w'):RelB E s β a w' where
 ext:=h.ext.trans he
 defers:=h.defers
 tsz:=h.tsz
 tmps n U hn:=(h.tmps n U hn).ext he
 blen:=h.blen
 new i t b h1 h2:=⟨(h.new i t b h1 h2).1,ca (h.new i t b h1 h2).2 he.size⟩
 dist:=h.dist
 objs i t o h1 h2:=(h.objs i t o h1 h2).ext he
inductive Upd:List V->Nat->V->List V->Prop
 |z {x y:V} {l:List V}:Upd (x::l) 0 y (y::l)
 |s {x y:V} {l l':List V} {n:Nat} (h:Upd l n y l'):Upd (x::l) (n+1) y (x::l')
def Upd.eq {l l':List V}{n:Nat}{y:V}(h:Upd l n y l'):l'=l.set n y/\n<l.length:=by
 induction h with
 |z=>simp
 |s _ a=>simp[a.1,a.2]
def Fa {α:Type}(l:Array α)(n m:Nat)(x d:α)(hn:n<l.size):(l.setIfInBounds n x).getD m d=if n=m then x else l.getD m d:=by
 simp only[ct,ig];split
 ·rename_i h;subst h;rfl
 ·rfl
def RelB.put {E:Env P g}{s:S}{β:List Tr}{a:Act}{w:World}(h:RelB E s β a w){n:Nat}{v:Value}{U:V}{l':List V}(hr:Rd w (E.X β) β v U)(b:Upd s.t n U l'):
  RelB E ⟨l',s.o⟩ β (a.put (some n) v) w where
 ext:=h.ext
 defers:=h.defers
 tsz:=by rw[b.eq.1];simpa[Act.put] using h.tsz
 tmps m U' hm:=by
  have hn:n<a.tmps.size:=by rw[h.tsz];exact b.eq.2
  simp only[Act.put];rw[Fa _ _ _ _ _ hn];simp only[b.eq.1] at hm;split
  ·rename_i he;subst he;rw[bm (by have:=b.eq.2;omega)] at hm;injection hm with hm;rw[<-hm];exact hr
  ·rename_i he;rw[bg he] at hm;exact h.tmps m U' hm
 blen:=h.blen
 new:=h.new
 dist:=h.dist
 objs:=h.objs
def RelB.gw {E:Env P g}{s:S}{β:List Tr}{a:Act}{w:World}(h:RelB E s β a w):g.G w:=g.st _ _ E.hg h.ext
inductive At {α:Type}:List α->Nat->α->Prop
 |z {x:α} {l:List α}:At (x::l) 0 x
 |s {x y:α} {l:List α} {n:Nat} (h:At l n y):At (x::l) (n+1) y
def At.get {α:Type}{l:List α}{n:Nat}{x:α}(h:At l n x):l[n]? =some x:=by
 induction h with
 |z=>rfl
 |s _ a=>simpa using a
def Ev (E:Env P g)(s:S)(x:Operand)(U:V):Prop:=∀(β:List Tr) (a:Act) (w:World),RelB E s β a w->Rd w (E.X β) β (a.eval x) U
def Ev.t {E:Env P g}{s:S}{n:Nat}{U:V}(h:At s.t n U):Ev E s (.tmp n) U:=λβ a w r=>r.tmps n U h.get
def Ev.i {E:Env P g}{s:S}{k:IntKind}{n:Int}(h:decide (k.min<=n/\n<=k.max)=true):Ev E s (.const (.int k n)) (.int k n):=
 λ_ _ _ _=> .int (of_decide_eq_true h).1 (of_decide_eq_true h).2
def Ev.b {E:Env P g}{s:S}{b:Bool}:Ev E s (.const (.bool b)) (.bool b):=λ_ _ _ _=> .bool
def Ev.s {E:Env P g}{s:S}{x:ByteArray}(h:decide (x.size<=1000)=true):Ev E s (.const (.string x)) (.str x):=λ_ _ _ _=> .str (by have:=of_decide_eq_true h;unfold maxLen;omega)
def Ev.n {E:Env P g}{s:S}:Ev E s (.const (.slice none 0 0)) .nil:=λ_ _ _ _=> .nil
end
end Go.VK
namespace Go.VK
open Go.RowKit
variable {P:Program} {g:GI}
def Rd.aAR {w:World}{X:Nat->Prop}{β:List Tr}{v:Value}{k:IntKind}{n:Int}(h:Rd w X β v (.int k n)):v= .int k n/\k.min<=n/\n<=k.max:=by cases h with|int h1 h2=>exact⟨rfl,h1,h2⟩
def Rd.aAU {w:World}{X:Nat->Prop}{β:List Tr}{v:Value}{b:Bool}(h:Rd w X β v (.bool b)):v= .bool b:=by cases h;rfl
def Rd.aAT {w:World}{X:Nat->Prop}{β:List Tr}{v:Value}{s:ByteArray}(h:Rd w X β v (.str s)):v= .string s/\s.size<=maxLen:=by cases h with|str h=>exact⟨rfl,h⟩
def Rd.aBI {w:World}{X:Nat->Prop}{β:List Tr}{v:Value}(h:Rd w X β v .nil):v= .slice none 0 0:=by cases h;rfl
def Rd.aAZ {w:World}{X:Nat->Prop}{β:List Tr}{v:Value}{cs:List V}(h:Rd w X β v (.agg cs)):
  ∃vs:Array Value,v= .agg vs/\vs.size=cs.length/\∀(i:Nat) (v:Value) (c:V),vs[i]? =some v->cs[i]? =some c->Rd w X β v c:=by
 cases h with|agg hl h=>exact⟨_,rfl,hl,h⟩
def Rd.aBX {w:World}{X:Nat->Prop}{β:List Tr}{v:Value}{cs:List V}(h:Rd w X β v (.tup cs)):
  ∃vs:Array Value,v= .tuple vs/\vs.size=cs.length/\∀(i:Nat) (v:Value) (c:V),vs[i]? =some v->cs[i]? =some c->Rd w X β v c:=by
 cases h with|tup hl h=>exact⟨_,rfl,hl,h⟩
def Rd.aBA {w:World}{X:Nat->Prop}{β:List Tr}{v:Value}{k:Nat}{es:List (List V)}(h:Rd w X β v (.slice k es)):∃A c,v= .slice A es.length c/\es.length<=c/\c<=maxLen:=by
 cases h with
 |slice0 h=>exact⟨_,_,rfl,cm _,h⟩
 |slice hn _ hc hm=>subst hn;exact⟨_,_,rfl,hc,hm⟩
def Rd.aBN {w:World}{X:Nat->Prop}{β:List Tr}{v:Value}{i off:Nat}(h:Rd w X β v (.box i off)):∃t b,β[i]? =some t/\t.b=some b/\v= .pointer (some ⟨b,off,none⟩):=by cases h with|box h hb=>exact⟨_,_,h,hb,rfl⟩
def Rd.aCM {w:World}{X:Nat->Prop}{β:List Tr}{v:Value}{i off:Nat}(h:Rd w X β v (.oel i off)):∃t b,β[i]? =some t/\t.b=some b/\v= .pointer (some ⟨b,off,none⟩):=by cases h with|oel h hb=>exact⟨_,_,h,hb,rfl⟩
def Rd.aBK {w:World}{X:Nat->Prop}{β:List Tr}{v:Value}{i:Nat}(h:Rd w X β v (.own i)):∃t,β[i]? =some t/\v=t.val:=by cases h with|own h=>exact⟨_,h,rfl⟩
def Kg (E:Env P g)(s:S)(op:Op)(U:V):Prop:=
 ∀(β:List Tr) (a:Act) (w:World),RelB E s β a w->∀o:Oper,o.op=op->∃v,(∀w',Ext w w'->(execOp a.eval o).run P w'= .ok (.value v) w')/\Rd w (E.X β) β v U
section
variable {E:Env P g} {s:S}
def dF (k:IntKind)(n:Int):k.min<=k.wrap n/\k.wrap n<=k.max:=by cases k<;>simp[IntKind.wrap,IntKind.min,IntKind.max,IntKind.bits,IntKind.signed]<;>omega
theorem add {x y:Operand}{k:IntKind}{m n:Int}{t u:TypeId}(b:Ev E s x (.int k m))(d:Ev E s y (.int k n)):Kg E s (.binOp .add t x y u) (.int k (k.wrap (m+n))):=λβ a w r o ho=>
 ⟨_,λw' _=>by simp[execOp,ho,(b β a w r).aAR.1,(d β a w r).aAR.1,eqGuard_at_int,binOp_add,Op.intArith], .int (dF _ _).1 (dF _ _).2⟩
theorem sub {x y:Operand}{k:IntKind}{m n:Int}{t u:TypeId}(b:Ev E s x (.int k m))(d:Ev E s y (.int k n)):Kg E s (.binOp .sub t x y u) (.int k (k.wrap (m-n))):=λβ a w r o ho=>
 ⟨_,λw' _=>by simp[execOp,ho,(b β a w r).aAR.1,(d β a w r).aAR.1,eqGuard_at_int,binOp_sub,Op.intArith], .int (dF _ _).1 (dF _ _).2⟩
theorem mul {x y:Operand}{k:IntKind}{m n:Int}{t u:TypeId}(b:Ev E s x (.int k m))(d:Ev E s y (.int k n)):Kg E s (.binOp .mul t x y u) (.int k (k.wrap (m*n))):=λβ a w r o ho=>
 ⟨_,λw' _=>by simp[execOp,ho,(b β a w r).aAR.1,(d β a w r).aAR.1,eqGuard_at_int,binOp_mul,Op.intArith], .int (dF _ _).1 (dF _ _).2⟩
def lss {x y:Operand}{k:IntKind}{m n:Int}{t u:TypeId}(b:Ev E s x (.int k m))(d:Ev E s y (.int k n)):Kg E s (.binOp .lss t x y u) (.bool (decide (m<n))):=λβ a w r o ho=>
 ⟨_,λw' _=>by simp[execOp,ho,(b β a w r).aAR.1,(d β a w r).aAR.1,eqGuard_at_int,binOp_lss], .bool⟩
def leq {x y:Operand}{k:IntKind}{m n:Int}{t u:TypeId}(b:Ev E s x (.int k m))(d:Ev E s y (.int k n)):Kg E s (.binOp .leq t x y u) (.bool (decide (m<=n))):=λβ a w r o ho=>
 ⟨_,λw' _=>by simp[execOp,ho,(b β a w r).aAR.1,(d β a w r).aAR.1,eqGuard_at_int,binOp_leq], .bool⟩
def gtr {x y:Operand}{k:IntKind}{m n:Int}{t u:TypeId}(b:Ev E s x (.int k m))(d:Ev E s y (.int k n)):Kg E s (.binOp .gtr t x y u) (.bool (decide (m>n))):=λβ a w r o ho=>
 ⟨_,λw' _=>by simp[execOp,ho,(b β a w r).aAR.1,(d β a w r).aAR.1,eqGuard_at_int,binOp_gtr], .bool⟩
def geq {x y:Operand}{k:IntKind}{m n:Int}{t u:TypeId}(b:Ev E s x (.int k m))(d:Ev E s y (.int k n)):Kg E s (.binOp .geq t x y u) (.bool (decide (m>=n))):=λβ a w r o ho=>
 ⟨_,λw' _=>by simp[execOp,ho,(b β a w r).aAR.1,(d β a w r).aAR.1,eqGuard_at_int,binOp_geq], .bool⟩
def eql {x y:Operand}{k:IntKind}{m n:Int}{t u:TypeId}(b:Ev E s x (.int k m))(d:Ev E s y (.int k n)):Kg E s (.binOp .eql t x y u) (.bool (m==n)):=λβ a w r o ho=>
 ⟨_,λw' _=>by simp[execOp,ho,(b β a w r).aAR.1,(d β a w r).aAR.1,eqGuard_at_int,binOp_eql], .bool⟩
def neq {x y:Operand}{k:IntKind}{m n:Int}{t u:TypeId}(b:Ev E s x (.int k m))(d:Ev E s y (.int k n)):Kg E s (.binOp .neq t x y u) (.bool (m !=n)):=λβ a w r o ho=>
 ⟨_,λw' _=>by simp[execOp,ho,(b β a w r).aAR.1,(d β a w r).aAR.1,eqGuard_at_int,binOp_neq], .bool⟩
def quo {x y:Operand}{k:IntKind}{m n:Int}{t u:TypeId}(hn:n≠0)(b:Ev E s x (.int k m))(d:Ev E s y (.int k n)):Kg E s (.binOp .quo t x y u) (.int k (k.wrap (m.tdiv n))):=λβ a w r o ho=>
 ⟨_,λw' _=>by simp[execOp,ho,(b β a w r).aAR.1,(d β a w r).aAR.1,eqGuard_at_int,binOp_quo,Op.intDiv,hn], .int (dF _ _).1 (dF _ _).2⟩
def aYl (k:IntKind)(m n:Int)(h1:k.min<=m)(h2:m<=k.max):k.min<=m.tmod n/\m.tmod n<=k.max:=by
 have h0:k.min<=0:=by cases k<;>decide
 have h3:0<=k.max:=by cases k<;>decide
 have b:(m.tmod n).natAbs<=m.natAbs:=by rw[Int.natAbs_tmod];exact Nat.mod_le _ _
 have hs:0<=m->0<=m.tmod n:=λh=>fY _ h;have a:m<=0->m.tmod n<=0:=λh=>by
  have h4:0<=(-m).tmod n:=fY _ (by omega);rw[Int.neg_tmod] at h4;omega
 rcases Int.le_total 0 m with h|h
 ·have:=hs h;omega
 ·have:=a h;omega
def rem {x y:Operand}{k:IntKind}{m n:Int}{t u:TypeId}(hn:n≠0)(b:Ev E s x (.int k m))(d:Ev E s y (.int k n)):Kg E s (.binOp .rem t x y u) (.int k (m.tmod n)):=λβ a w r o ho=>
 have hm:=(b β a w r).aAR
 ⟨_,λw' _=>by simp[execOp,ho,(b β a w r).aAR.1,(d β a w r).aAR.1,eqGuard_at_int,binOp_rem,Op.intDiv,hn], .int (aYl _ _ _ hm.2.1 hm.2.2).1 (aYl _ _ _ hm.2.1 hm.2.2).2⟩
def cnv {x:Operand}{k j:IntKind}{n:Int}{t u:TypeId}(ht:(P.underlying t).isSome=true)(b:P.underlying u=some (.int j))(e:Ev E s x (.int k n)):Kg E s (.convert t u x) (.int j (j.wrap n)):=λβ a w r o ho=>
 ⟨_,λw' _=>by
  obtain⟨d,hd⟩:=Option.isSome_iff_exists.1 ht;simp[execOp,ho,(e β a w r).aAR.1,convert,run_underlying b,run_underlying hd,Conv.intToInt], .int (dF _ _).1 (dF _ _).2⟩
theorem not_ {x:Operand}{b:Bool}{t:TypeId}(d:Ev E s x (.bool b)):Kg E s (.unOp .not t x) (.bool (!b)):=λβ a w r o ho=>
 ⟨_,λw' _=>by simp[execOp,ho,(d β a w r).aAU,Op.unary], .bool⟩
theorem cEh {x:Operand}{k:IntKind}{n:Int}{t:TypeId}(b:Ev E s x (.int k n)):Kg E s (.unOp .neg t x) (.int k (k.wrap (0-n))):=λβ a w r o ho=>
 ⟨_,λw' _=>by simp[execOp,ho,(b β a w r).aAR.1,Op.unary,Op.intArith], .int (dF _ _).1 (dF _ _).2⟩
def cEi {x y:Operand}{m n:ByteArray}{t u:TypeId}(hs:m.size+n.size<=9223372036854775807)(b:Ev E s x (.str m))(d:Ev E s y (.str n)):Kg E s (.binOp .add t x y u) (.str (m++n)):=λβ a w r o ho=>
 ⟨_,λw' _=>by simp[execOp,ho,(b β a w r).aAT.1,(d β a w r).aAT.1,eqGuard_at_string,binOp_string_add,run_string_add_sum _ _ _ hs], .str (by simp[ByteArray.size_append];unfold maxLen;omega)⟩
def cEj {x y:Operand}{m n:ByteArray}{t u:TypeId}(b:Ev E s x (.str m))(d:Ev E s y (.str n)):Kg E s (.binOp .eql t x y u) (.bool (m.toList==n.toList)):=λβ a w r o ho=>
 ⟨_,λw' _=>by simp[execOp,ho,(b β a w r).aAT.1,(d β a w r).aAT.1,eqGuard_at_string,binOp_string_eql], .bool⟩
def sne {x y:Operand}{m n:ByteArray}{t u:TypeId}(b:Ev E s x (.str m))(d:Ev E s y (.str n)):Kg E s (.binOp .neq t x y u) (.bool (!(m.toList==n.toList))):=λβ a w r o ho=>
 ⟨_,λw' _=>by simp[execOp,ho,(b β a w r).aAT.1,(d β a w r).aAT.1,eqGuard_at_string,binOp_string_neq], .bool⟩
def cEk {x y:Operand}{m n:Bool}{t u:TypeId}(ht:P.underlying t=some .bool)(b:Ev E s x (.bool m))(d:Ev E s y (.bool n)):Kg E s (.binOp .eql t x y u) (.bool (m==n)):=λβ a w r o ho=>
 ⟨_,λw' _=>by simp[execOp,ho,(b β a w r).aAU,(d β a w r).aAU,eqGuard_at_bool,run_eql_bool _ _ _ _ ht], .bool⟩
def cEl {x y:Operand}{m n:Bool}{t u:TypeId}(ht:P.underlying t=some .bool)(b:Ev E s x (.bool m))(d:Ev E s y (.bool n)):Kg E s (.binOp .neq t x y u) (.bool (!(m==n))):=λβ a w r o ho=>
 ⟨_,λw' _=>by simp[execOp,ho,(b β a w r).aAU,(d β a w r).aAU,eqGuard_at_bool,run_neq_bool _ _ _ _ ht], .bool⟩
end
end Go.VK
namespace Go.VK
open Go.RowKit
variable {P:Program} {g:GI}
def bSu (P:Program)(t:TypeId)(n:Nat):Bool:=
 (match P.underlying t with|some (.struct _)=>true|some (.array _ _)=>true|_=>false)&&(match P.info? t with|some i=>i.size==n|none=>false)
def J7 (P:Program)(t:TypeId):Bool:=
 (match P.underlying t with|some (.struct _)=>false|some (.array _ _)=>false|some _=>true|none=>false)&&(match P.info? t with|some i=>i.size==1|none=>false)
def bUw (P:Program)(t f off:Nat):Bool:=
 match P.underlying t with
 |some (.struct fs)=>(match fs[f]? with|some a=>a.offset==off&&(match P.info? a.type with|some i=>i.size !=0|none=>false)|none=>false)
 |_=>false
def slB (P:Program)(t e k bytes:Nat):Bool:=
 (match P.underlying t with|some (.slice e')=>e'==e|_=>false)&&(match P.info? e with|some i=>i.size==k&&i.bytes==bytes&&k !=0&&(match i.zero with|some z=>z.cells.size==k|none=>false)|none=>false)
section
variable {w:World}
def Fb {t n:Nat}(h:bSu P t n=true):(isAgg t).run P w= .ok true w/\(sizeOf t).run P w= .ok n w:=by
 simp only[bSu,ab] at h;obtain⟨h1,h2⟩:=h;constructor
 ·cases a:P.underlying t with
  |none=>simp[a] at h1
  |some d=>cases d<;>simp[a] at h1<;>simp[isAgg,run_underlying a]
 ·cases hi:P.info? t with
  |none=>simp[hi] at h2
  |some i=>simp[hi] at h2;simp[sizeOf,typeInfo,hi,h2]
def wM {t:Nat}(h:J7 P t=true):(isAgg t).run P w= .ok false w/\(sizeOf t).run P w= .ok 1 w:=by
 simp only[J7,ab] at h;obtain⟨h1,h2⟩:=h;constructor
 ·cases a:P.underlying t with
  |none=>simp[a] at h1
  |some d=>cases d<;>simp[a] at h1<;>simp[isAgg,run_underlying a]
 ·cases hi:P.info? t with
  |none=>simp[hi] at h2
  |some i=>simp[hi] at h2;simp[sizeOf,typeInfo,hi,h2]
def aYm {t f off:Nat}(h:bUw P t f off=true)(a:Addr):(Instr.fieldAt t (.pointer (some a)) f).run P w= .ok (.pointer (some (a.add off))) w:=by
 unfold bUw at h;cases b:P.underlying t with
 |none=>simp[b] at h
 |some d=>
  cases d<;>simp[b] at h;rename_i fs;cases e:fs[f]? with
  |none=>simp[e] at h
  |some j=>
   simp[e] at h;obtain⟨h1,h2⟩:=h;cases hi:P.info? j.type with
   |none=>simp[hi] at h2
   |some i=>simp[hi] at h2;simp[Instr.fieldAt,run_underlying b,e,Instr.sureAddr,fieldPlace,sizeOf,typeInfo,hi,h2,h1]
def fH {t e k bytes:Nat}(h:slB P t e k bytes=true):P.underlying t=some (.slice e)/\∃i z,P.info? e=some i/\i.zero=some z/\i.size=k/\i.bytes=bytes/\z.cells.size=k/\0<k:=by
 simp only[slB,ab] at h;obtain⟨h1,h2⟩:=h;constructor
 ·cases b:P.underlying t with
  |none=>simp[b] at h1
  |some d=>cases d<;>simp[b] at h1;simp[h1]
 ·cases hi:P.info? e with
  |none=>simp[hi] at h2
  |some i=>
   simp[hi] at h2;obtain⟨⟨⟨a1,a2⟩,a3⟩,a4⟩:=h2;cases a:i.zero with
   |none=>simp[a] at a4
   |some z=>simp[a] at a4;exact⟨i,z,rfl,a,a1,a2,a4,by omega⟩
theorem aT7 {t:Nat}(h:J7 P t=true){a:Addr}{v:Value}(hc:w.cell? a=some v):(loadVar t a).run P w= .ok v w:=by simp[loadVar,(wM (w:=w) h).1,hc]
theorem aT8 {t:Nat}{vs:List Value}(h:bSu P t vs.length=true){a:Addr}(hc:∀(j:Nat) (v:Value),vs[j]? =some v->w.cell? (a.add j)=some v):(loadVar t a).run P w= .ok (.agg vs.toArray) w:=by simp[loadVar,(Fb (w:=w) h).1,(Fb (w:=w) h).2,run_loadCells_list w a vs hc]
end
inductive Dr:List V->Nat->List V->Prop
 |z {l:List V}:Dr l 0 l
 |s {x:V} {l l':List V} {n:Nat} (h:Dr l n l'):Dr (x::l) (n+1) l'
inductive Tk:List V->Nat->List V->Prop
 |z {l:List V}:Tk l 0 []
 |s {x:V} {l l':List V} {n:Nat} (h:Tk l n l'):Tk (x::l) (n+1) (x::l')
section
variable {E:Env P g} {s:S}
theorem fT (b o n:Nat):(⟨b,o,none⟩:Addr).add n=⟨b,o+n,none⟩:=by unfold Addr.add;split<;>simp_all
def bGz {β:List Tr}{a:Act}{w:World}(r:RelB E s β a w){i T:Nat}{cs:List V}(hi:At s.o i (.box T cs)){t:Tr}{b:Nat}(hb:β[i]? =some t)(d:t.b=some b):
  ∃vs:List Value,w.heap[b]? =some (.cells vs.toArray T (0,0))/\vs.length=cs.length/\∀(i:Nat) (v:Value) (c:V),vs[i]? =some v->cs[i]? =some c->Rd w (E.X β) β v c:=by
 obtain⟨e,vs,h1,h2,h3,h4⟩:=r.objs i t _ hb hi.get;rw[d] at h1;injection h1 with h1;subst h1;exact⟨vs,h2,h3,h4⟩
theorem add_add' (a:Addr)(m n:Nat):(a.add m).add n=a.add (m+n):=by unfold Addr.add;by_cases h1:m=0<;>by_cases h2:n=0<;>simp[h1,h2,iy]
theorem add_block (a:Addr)(n:Nat):(a.add n).block=a.block:=by unfold Addr.add;split<;>rfl
def ix {x y:Operand}{t e k b:Nat}{es:List (List V)}{v:IntKind}{m:Int}{c:List V}(ht:slB P t e k b=true)(h0:0<=m)(hm:es[m.toNat]? =some c)
  (B:Ev E s x (.slice k es)) (D:Ev E s y (.int v m)):Kg E s (.indexAddr t x y) (.elem c):=λβ a w u op ho=>by
 obtain⟨G,i,z,hi,M,h,H,I,J⟩:=fH ht;have h1:=B β a w u;have h2:=(D β a w u).aAR.1;have p:=(bf.1 hm).1;cases hv:a.eval x with
 |slice A n O=>
  rw[hv] at h1;cases h1 with
  |slice0=>simp at p
  | @slice _ K _ _ _ _ val hn hpos hc L hX hb hk hcell hrd=>
   refine⟨.pointer (some (K.add (m.toNat*k))),λw' _=> ?_,?_⟩
   ·have q:m<n:=by omega
    simp[execOp,ho,hv,h2,Instr.indexAt,asIntOf,run_underlying G,sizeOf,typeInfo,hi,h,h0,q]
   ·refine .elem (val:=λj=>val m.toNat j) (by rw[add_block];exact hX) (by rw[add_block];exact hb) (λj d r=> ?_) (λj d r=>hrd _ j _ d hm r);rw[add_add'];exact hcell _ j _ d hm r
 |_=>rw[hv] at h1;cases h1
def ixm {α:Type}{x y:Operand}{t e k b:Nat}{l:List α}{f:α->List V}{a:IntKind}{m:Int}{c:α}(ht:slB P t e k b=true)(h0:0<=m)(hm:l[m.toNat]? =some c)
  (d:Ev E s x (.slice k (l.map f))) (h:Ev E s y (.int a m)):Kg E s (.indexAddr t x y) (.elem (f c)):=
 ix ht h0 (by rw[bq,hm];rfl) d h
def bJe {w:World}{t:Nat}{a:Act}{x:Operand}{A:Option Addr}{n c:Nat}{e:Nat}(b:P.underlying t=some (.slice e))(hv:a.eval x= .slice A n c){o:Oper}
  (ho:o.op= .call {callee:= .builtin .len,args:= #[x],argTypes:= #[t]}):(execOp a.eval o).run P w= .ok (.value (.int .i64 n)) w:=by
 simp[execOp,ho,resolve,invoke,builtin,hv,Builtin.len_,run_underlying b,goInt]
def lens {x:Operand}{t e k b d:Nat}{es:List (List V)}(ht:slB P t e k b=true)(h:Ev E s x (.slice d es)):Kg E s (.call {callee:= .builtin .len,args:= #[x],argTypes:= #[t]}) (.int .i64 (es.length:Int)):=λβ a w i op ho=>by
 obtain⟨A,c,h1,h2,h3⟩:=(h β a w i).aBA;refine⟨_,λw' _=>bJe (fH ht).1 h1 ho, .int ?_ ?_⟩
 ·simp[IntKind.min,IntKind.signed,IntKind.bits]
 ·unfold maxLen at h3;simp[IntKind.max,IntKind.signed,IntKind.bits];omega
def cEm {α:Type}{x:Operand}{t e k b a:Nat}{l:List α}{f:α->List V}(ht:slB P t e k b=true)(d:Ev E s x (.slice a (l.map f))):Kg E s (.call {callee:= .builtin .len,args:= #[x],argTypes:= #[t]}) (.int .i64 (l.length:Int)):=by have:=lens ht d;rwa [bn] at this
theorem cEn {x:Operand}{t e k b:Nat}(ht:slB P t e k b=true)(d:Ev E s x .nil):Kg E s (.call {callee:= .builtin .len,args:= #[x],argTypes:= #[t]}) (.int .i64 0):=λβ a w h op ho=>
 ⟨_,λw' _=>bJe (fH ht).1 (d β a w h).aBI ho, .int (by decide) (by decide)⟩
def cEo {x:Operand}{t:Nat}{m:ByteArray}(ht:P.underlying t=some .string)(b:Ev E s x (.str m)):Kg E s (.call {callee:= .builtin .len,args:= #[x],argTypes:= #[t]}) (.int .i64 (m.size:Int)):=λβ a w d op ho=>by
 obtain⟨h1,h2⟩:=(b β a w d).aAT;refine⟨_,λw' _=>by simp[execOp,ho,resolve,invoke,builtin,h1,Builtin.len_,run_underlying ht,goInt], .int ?_ ?_⟩
 ·simp[IntKind.min,IntKind.signed,IntKind.bits]
 ·unfold maxLen at h2;simp[IntKind.max,IntKind.signed,IntKind.bits];omega
end
end Go.VK
namespace Go.VK
open Go.RowKit
variable {P:Program} {g:GI}
def V.one:V->Bool
 | .agg _| .tup _| .any| .und=>false
 |_=>true
def pI:List V->Bool
 |[]=>true
 |c::cs=>c.one&&pI cs
theorem aYn {cs:List V}(h:pI cs=true):∀(i:Nat) (c:V),cs[i]? =some c->c.one=true:=by induction cs<;>grind[pI]
def Rd.one {w:World}{X:Nat->Prop}{β:List Tr}{v:Value}{U:V}(h:Rd w X β v U)(h1:U.one=true):v.oneCell'=true:=by cases h<;>first|rfl|grind[V.one]
def aCz {v:Value}(h:v.oneCell'=true):v.cells= #[v]:=by cases v<;>simp_all [Value.oneCell',Value.cells]
def SOp (E:Env P g)(s:S)(op:Op)(d:Option Nat)(s':S)(e:Bool):Prop:=
 ∀(β:List Tr) (a:Act) (w:World),RelB E s β a w->∀o:Oper,o.op=op->o.dst=d->∃v w' β',
  ((execOp a.eval o).run P w= .ok (.value v) w'\/((execOp a.eval o).run P w= .ok .skip w'/\v=undef))/\RelB E s' β' (a.put d v) w'/\(e=true->Ext w w')
inductive Sn:List Ob->Ob->Nat->List Ob->Prop
 |z {x:Ob}:Sn [] x 0 [x]
 |s {x y:Ob} {l l':List Ob} {n:Nat} (h:Sn l x n l'):Sn (y::l) x (n+1) (y::l')
def Sn.eq {l l':List Ob}{x:Ob}{n:Nat}(h:Sn l x n l'):l'=l++[x]/\n=l.length:=by induction h<;>grind
inductive UpO:List Ob->Nat->Ob->List Ob->Prop
 |z {x y:Ob} {l:List Ob}:UpO (x::l) 0 y (y::l)
 |s {x y:Ob} {l l':List Ob} {n:Nat} (h:UpO l n y l'):UpO (x::l) (n+1) y (x::l')
def UpO.eq {l l':List Ob}{n:Nat}{y:Ob}(h:UpO l n y l'):l'=l.set n y/\n<l.length:=by induction h<;>grind
section
variable {E:Env P g} {s:S}
def Ob.ok.conv {w w':World}{X X':Nat->Prop}{β β':List Tr}{t:Tr}{o:Ob}(h:o.ok w X β t)(hsz:w.heap.size<=w'.heap.size)
  (hX:∀b,b<w.heap.size->X' b->X b) (hcell:∀(p:Addr) (u:Value),¬X p.block->w.cell? p=some u->w'.cell? p=some u)
  (hβ:∀(i:Nat) (t:Tr),β[i]? =some t->β'[i]? =some t) (a:∀b,t.b=some b->w'.heap[b]? =w.heap[b]?):o.ok w' X' β' t:=by
 cases o with
 |box T cs=>obtain⟨b,vs,h1,h2,h3,h4⟩:=h;exact⟨b,vs,h1,by rw[a b h1];exact h2,h3,λi v c h5 h6=>(h4 i v c h5 h6).conv hsz hX hcell hβ⟩
 |row T k es=>
  obtain⟨h1,h2,xs,h3,h4⟩:=h;refine⟨h1,h2,xs,?_,λi j e d k1 k2=>let ⟨v,k3,k4,k5⟩:=h4 i j e d k1 k2;⟨v,k3,k4,k5.conv hsz hX hcell (λ_ _ h=>h)⟩⟩;obtain⟨a1,a2⟩:=h3;refine⟨a1,a2.imp id ?_⟩;rintro⟨n,cap,cur,c1,c2,c3,c4⟩;refine⟨n,cap,cur,c1,c2,?_,c4⟩;rw[a n ?_]
  ·exact c3
  ·cases hb:t.b with
   |none=>simp[Tr.val,hb] at c1
   |some b=>simp[Tr.val,hb] at c1;rw[c1.1]
def RelB.aBW {β:List Tr}{a:Act}{w w':World}(r:RelB E s β a w){t:Tr}{x:Ob}{n:Nat}{H:List Ob}(hs:Sn s.o x n H)(he:Ext w w')
  (hb:∀b,t.b=some b->w.heap.size<=b/\b<w'.heap.size) (A:x.ok w' (E.X (β++[t])) (β++[t]) t):RelB E ⟨s.t,H⟩ (β++[t]) a w'/\(β++[t])[n]? =some t:=by
 have hX:∀b,b<w.heap.size->E.X (β++[t]) b->E.X β b:=by
  rintro b z (h|⟨u,q,d⟩)
  ·exact .inl h
  ·rcases ce.1 q with q|q
   ·exact .inr ⟨u,q,d⟩
   ·simp at q;subst q;have:=(hb b d).1;omega
 have hβ:∀(i:Nat) (u:Tr),β[i]? =some u->(β++[t])[i]? =some u:=λi u h=>by
  rw[aq (bf.1 h).1];exact h
 have e:∀(i:Nat) (u:Tr),(β++[t])[i]? =some u->β[i]? =some u\/(i=β.length/\u=t):=λi u h=>by
  by_cases hi:i<β.length
  ·rw[aq hi] at h;exact .inl h
  ·have z:=(bf.1 h).1;simp at z;have:i=β.length:=by omega
   subst this;simp at h;exact .inr ⟨rfl,h.symm⟩
 obtain⟨I,J⟩:=hs.eq;refine⟨{ext:=r.ext.trans he,defers:=r.defers,tsz:=r.tsz,tmps:=λn U h=>(r.tmps n U h).conv he.size hX (λ_ _ _ hc=>he.cell hc) hβ,blen:=by rw[I];simp[r.blen],new:= ?_,dist:= ?_,objs:= ?_},by rw[J,<-r.blen];simp⟩
 ·intro i u b hi d;rcases e i u hi with h|⟨_,rfl⟩
  ·have:=r.new i u b h d;exact⟨this.1,ca this.2 he.size⟩
  ·have:=hb b d;exact⟨bo r.ext.size this.1,this.2⟩
 ·intro i j u v b B hi K d p;rcases e i u hi with h|⟨h1,rfl⟩<;>rcases e j v K with k|⟨k1,rfl⟩
  ·exact r.dist i j u v b B h k d p
  ·have:=(r.new i u b h d).2;have:=(hb b p).1;omega
  ·have:=(r.new j v b k p).2;have:=(hb b d).1;omega
  ·omega
 ·intro i u o hi ho;simp only[I] at ho;rcases e i u hi with h|⟨h1,rfl⟩
  ·have D:i<s.o.length:=by rw[<-r.blen];exact(bf.1 h).1
   rw[aq D] at ho;exact(r.objs i u o h ho).conv he.size hX (λ_ _ _ hc=>he.cell hc) hβ (λb hb'=>he.block b (r.new i u b h hb').2)
  ·have G:s.o.length=β.length:=r.blen.symm;rw[h1,<-G] at ho;simp at ho;rw[<-ho];exact A
theorem bx {x:Operand}{T d n:Nat}{cs:List V}{t':List V}{k:List Ob}(h1:pI cs=true)(hn:Sn s.o (.box T cs) n k)(e:Upd s.t d (.box n 0) t')(h:Ev E s x (.agg cs)):SOp E s (.box T x) (some d) ⟨t',k⟩ true:=λβ a w r o ho hd=>by
 obtain⟨vs,k1,k2,k3⟩:=(h β a w r).aAZ;have he:Ext w (w.alloc (.cells vs T)):=Ext.alloc _ _;obtain⟨p,q⟩:=r.aBW (t:=⟨some w.heap.size,0,0⟩) hn he (by simp) (by
  refine⟨w.heap.size,vs.toList,rfl,by simpa using heap_alloc_new w _,by simpa using k2,λi v c h5 h6=> ?_⟩;refine(k3 i v c (by simpa using h5) h6).conv he.size ?_ (λ_ _ _ hc=>he.cell hc) (by grind[List.getElem?_append_left,List.getElem?_eq_some_iff]);rintro b z (h|⟨u,e,j⟩)
  ·exact .inl h
  ·rcases ce.1 e with e|e
   ·exact .inr ⟨u,e,j⟩
   simp_all)
 refine⟨.pointer (some ⟨w.heap.size,0,none⟩),_,_, .inl ?_,p.put (.box q rfl) e,λ_=>he⟩;simp_all[execOp,Instr.box,newVar,newRow,Value.cells]
def zV:Value->Option V
 | .int k n=>if k.min<=n&&n<=k.max then some (.int k n) else none
 | .bool b=>some (.bool b)
 | .string s=>if s.size<=1000 then some (.str s) else none
 | .slice none 0 0=>some .nil
 |_=>none
def zVs:List Value->Option (List V)
 |[]=>some []
 |v::vs=>match zV v,zVs vs with|some c,some cs=>some (c::cs)|_,_=>none
def aX3 (P:Program)(t:TypeId):Option (List V):=match P.info? t with|some i=>(match i.zero with|some z=>zVs z.cells.toList|none=>none)|none=>none
def cCz {w:World}{X:Nat->Prop}{β:List Tr}{v:Value}{c:V}(h:zV v=some c):Rd w X β v c/\c.one=true:=by
 cases v<;>simp[zV] at h
 case int k n=>obtain⟨h1,h2⟩:=h;subst h2;exact⟨.int h1.1 h1.2,rfl⟩
 case bool b=>subst h;exact⟨.bool,rfl⟩
 case string s=>obtain⟨h1,h2⟩:=h;subst h2;exact⟨.str (by unfold maxLen;omega),rfl⟩
 case slice A n c=>cases A<;>cases n<;>cases c<;>simp at h;subst h;exact⟨.nil,rfl⟩
def bJf {w:World}{X:Nat->Prop}{β:List Tr}:∀{vs:List Value} {cs:List V},zVs vs=some cs->vs.length=cs.length/\∀(i:Nat) (v:Value) (c:V),vs[i]? =some v->cs[i]? =some c->Rd w X β v c/\c.one=true
 |[],cs,h=>by simp[zVs] at h;subst h;simp
 |v::vs,cs,h=>by
  simp only[zVs] at h;cases h1:zV v with
  |none=>simp[h1] at h
  |some c=>
   cases h2:zVs vs with
   |none=>simp[h1,h2] at h
   |some ds=>
    simp[h1,h2] at h;subst h;have a:=bJf (w:=w) (X:=X) (β:=β) h2;refine⟨by simp[a.1],λi b d h5 h6=> ?_⟩
    cases i with
    |zero=>simp at h5 h6;subst h5;subst h6;exact cCz h1
    |succ i=>exact a.2 i b d (by simpa using h5) (by simpa using h6)
def aKt {t:Nat}{cs:List V}(h:aX3 P t=some cs):∃i z,P.info? t=some i/\i.zero=some z/\zVs z.cells.toList=some cs:=by
 grind[aX3]
def al {T d n:Nat}{cs:List V}{t':List V}{b:List Ob}(e:aX3 P T=some cs)(hn:Sn s.o (.box T cs) n b)(h:Upd s.t d (.box n 0) t'):SOp E s (.alloc T) (some d) ⟨t',b⟩ true:=λβ a w r o ho hd=>by
 obtain⟨i,z,hi,e,hzs⟩:=aKt e;have he:Ext w (w.alloc (.cells z.cells T)):=Ext.alloc _ _;obtain⟨j,k⟩:=r.aBW (t:=⟨some w.heap.size,0,0⟩) hn he (by simp) (by
  refine⟨w.heap.size,z.cells.toList,rfl,by simpa using heap_alloc_new w _,(bJf (w:=w) (X:=E.X β) (β:=β) hzs).1,λi v c h5 h6=>(bJf hzs).2 i v c h5 h6|>.1⟩)
 refine⟨.pointer (some ⟨w.heap.size,0,none⟩),_,_, .inl ?_,j.put (.box k rfl) h,λ_=>he⟩;simp_all[execOp,Instr.alloc,zeroValue,typeInfo,newVar,newRow]
inductive Sp:List V->Nat->List V->List V->Prop
 |n {l:List V}:Sp l 0 [] l
 |z {x y:V} {l vs l':List V} (h:Sp l 0 vs l'):Sp (x::l) 0 (y::vs) (y::l')
 |s {x:V} {l vs l':List V} {n:Nat} (h:Sp l n vs l'):Sp (x::l) (n+1) vs (x::l')
def Sp.spec {l vs l':List V}{n:Nat}(h:Sp l n vs l'):n+vs.length<=l.length/\l'.length=l.length/\∀(j:Nat),l'[j]? =if n<=j/\j<n+vs.length then vs[j-n]? else l[j]? :=by induction h<;>grind
def Wj (w:World)(b:Nat)(cs:Array Value):(w.setRow b cs).heap.size=w.heap.size/\(w.setRow b cs).os=w.os/\(w.setRow b cs).tape=w.tape/\(w.setRow b cs).output=w.output/\∀k,k≠b->(w.setRow b cs).heap[k]? =w.heap[k]? :=by refine⟨size_setRow _ _ _,rfl,rfl,rfl,λk hk=> ?_⟩;simp only[World.setRow,Array.getElem?_modify];rw[cG (Ne.symm hk)]
def aPz {w:World}{T t b off:Nat}{vs cur:List Value}{v:Value}(hv:v.cells=vs.toArray)(hsz:(sizeOf t).run P w= .ok vs.length w)(hg:w.heap[b]? =some (.cells cur.toArray T (0,0)))(hl:off+vs.length<=cur.length)
  (h1:∀v∈vs,v.oneCell'=true):(storeVar t ⟨b,off,none⟩ v).run P w= .ok () (w.setRow b (cur.take off++vs++cur.drop (off+vs.length)).toArray):=by
 have:=run_storeCells_at P b off T vs 0 cur.toArray w hg (by assumption) h1;simp_all[storeVar,dg]
theorem Wl {α:Type}(cur vs:List α)(off j:Nat)(hl:off+vs.length<=cur.length):(cur.take off++vs++cur.drop (off+vs.length))[j]? =if off<=j/\j<off+vs.length then vs[j-off]? else cur[j]? :=by
 grind[List.append_assoc,List.getElem?_append_right,List.length_take,min,List.getElem?_append_left]
end
end Go.VK
namespace Go.VK
open Go.RowKit
variable {P:Program} {g:GI}
def RdL (w:World)(X:Nat->Prop)(vs:List Value)(Us:List V):Prop:=vs.length=Us.length/\∀(i:Nat) (v:Value) (U:V),vs[i]? =some v->Us[i]? =some U->Rd w X [] v U
def Spec (P:Program)(g:GI)(f:FuncId)(Us:List V)(R:V->Prop):Prop:=
 (∀args w,(callFunc f args).run P w= .ok (.enter f args) w)/\
 ∀(w:World) (X:Nat->Prop) (vs:List Value),g.G w->(∀b,X b->b<w.heap.size)->RdL w X vs Us->
  Calls P f vs.toArray w λe w'=>∃v r,e= .returned v/\R r/\Rd w' X [] v r/\Ext w w'
section
variable {E:Env P g} {s:S}
def RF (E:Env P g)(ops:Array Oper)(l:List Oper)(F:S->Prop)(s:S):Prop:=
 ∀Q:Exit->Act->World->Prop,(∀s' a w,F s'->bB E s' a w->Q .normal a w)->∀a w,bB E s a w->wpList P ops Q l a w
def e {ops:Array Oper}{F:S->Prop}(h:F s):RF E ops [] F s:=λQ b a w r=>b s a w h r
theorem wpo {o:Oper}{K:Act->World->Prop}{Q:Exit->Act->World->Prop}{a:Act}{w w':World}{v:Value}(h:(execOp a.eval o).run P w= .ok (.value v) w'\/((execOp a.eval o).run P w= .ok .skip w'/\v=undef))(hk:K (a.put o.dst v) w'):o.wp P a w K Q:=by unfold Oper.wp;rcases h with h|⟨h,rfl⟩<;>rw[h]<;>exact hk
def m {ops:Array Oper}{F:S->Prop}{rest:List Oper}{d ty:Nat}{op:Op}{pos:String}{b:Array Edge}{U:V}{t':List V}(h:Kg E s op U)(e:Upd s.t d U t')(hr:RF E ops rest F ⟨t',s.o⟩):
  RF E ops (⟨some d,op,ty,pos,b,none⟩::rest) F s:=λQ i a w ⟨β,r⟩=>by
 obtain⟨v,h1,h2⟩:=h β a w r ⟨some d,op,ty,pos,b,none⟩ rfl;exact wpList_plain rfl λK hK=>wpo (.inl (h1 w (Ext.refl w))) (hK _ _ (hr Q i _ _ ⟨β,r.put h2 e⟩))
def k {ops:Array Oper}{F:S->Prop}{rest:List Oper}{d:Option Nat}{ty:Nat}{op:Op}{pos:String}{e:Array Edge}{s':S}{b:Bool}(h:SOp E s op d s' b)(hr:RF E ops rest F s'):
  RF E ops (⟨d,op,ty,pos,e,none⟩::rest) F s:=λQ i a w ⟨β,r⟩=>by
 obtain⟨v,w',β',h1,h2,_⟩:=h β a w r ⟨d,op,ty,pos,e,none⟩ rfl rfl;exact wpList_plain rfl λK hK=>wpo h1 (hK _ _ (hr Q i _ _ ⟨β',h2⟩))
def bOm {ops:List Oper}{j:Nat}{oj:Oper}{d:Nat}{b:Bool}{β:List Tr}{a:Act}{w:World}(r:RelB E s β a w)(e:At ops j oj)(hd:oj.dst=some d)(hv:At s.t d (.bool b)):yielded ops.toArray a.tmps j=some b:=by
 have h1:=(r.tmps d _ hv.get).aAU;have h:d<a.tmps.size:=by rw[r.tsz];exact(bf.1 hv.get).1
 have h2:a.tmps[d]? =some (.bool b):=by simp_all
 simp[yielded,e.get,hd,h2]
theorem bQo {β:List Tr}{a:Act}{w:World}(r:RelB E s β a w){n:Nat}{U:V}{t':List V}{b:Bool}(hv:At s.t n (.bool b))(hb:b=true\/b=false)(d:Upd s.t n U t')(e:U= .bool b):RelB E ⟨t',s.o⟩ β a w where
 ext:=r.ext
 defers:=r.defers
 tsz:=by rw[d.eq.1];simpa using r.tsz
 tmps m V hm:=by
  simp only[d.eq.1] at hm;by_cases he:n=m
  ·subst he;rw[bm (by have:=d.eq.2;omega)] at hm;injection hm with hm;rw[<-hm,e];exact r.tmps n _ hv.get
  ·rw[bg he] at hm;exact r.tmps m V hm
 blen:=r.blen
 new:=r.new
 dist:=r.dist
 objs:=r.objs
def sp {ops:Array Oper}{l:List Oper}{F:S->Prop}{n:Nat}{b:Bool}{d t2:List V}(hv:At s.t n (.bool b))(h1:Upd s.t n (.bool true) d)(h2:Upd s.t n (.bool false) t2)
  (ht:b=true->RF E ops l F ⟨d,s.o⟩) (h:b=false->RF E ops l F ⟨t2,s.o⟩):RF E ops l F s:=λQ e a w ⟨β,r⟩=>by
 cases b with
 |true=>exact ht rfl Q e a w ⟨β,(by grind[bQo])⟩
 |false=>exact h rfl Q e a w ⟨β,(by grind[bQo])⟩
def QX (E:Env P g)(Q:Exit->Act->World->Prop)(e:Exit)(s:S):Prop:=∀a w,bB E s a w->Q e a w
def CW (E:Env P g)(c:Code)(N:S->Prop)(X:Nat->S->Prop)(R:S->Prop)(s:S):Prop:=
 ∀Q:Exit->Act->World->Prop,(∀s',N s'->QX E Q .normal s')->(∀i s',X i s'->QX E Q (.exit i) s')->(∀s',R s'->QX E Q .ret s')->∀a w,bB E s a w->c.wp P Q a w
variable {N:S->Prop} {X:Nat->S->Prop} {R:S->Prop}
def skp (h:N s):CW E .skip N X R s:=λQ b _ _ a w r=>wp_skip (b s h a w r)
def bk {id:Nat}{c:Code}(h:CW E c N (λi s'=>if i=id then N s' else X i s') R s):CW E (.block id c) N X R s:=λQ d hX e a w r=>
 wp_block (h (Exit.inBlock id Q) (λs' b=>d s' b) (λi s' b a w r=>by
  simp only[Exit.inBlock];simp only at b;split at b
  ·rename_i hi;rw[cu hi];exact d s' b a w r
  ·rename_i hi;rw[cG hi];exact hX i s' b a w r) (λs' b=>e s' b) a w r)
def x1 {id:Nat}{A:Prop}{B:Prop}(h:A):(if id=id then A else B):=by simp[*]
def x2 {i j:Nat}{A:Prop}{B:Prop}(a:(i==j)=false)(h:B):(if i=j then A else B):=by simp_all
def Le (E:Env P g)(s s':S):Prop:=∀a w,bB E s a w->bB E s' a w
def wk {c:Code}{s':S}(hl:Le E s s')(h:CW E c N X R s'):CW E c N X R s:=λQ b hX d a w r=>h Q b hX d a w (hl a w r)
inductive EvL (E:Env P g) (s:S):List Operand->List V->Prop
 |n:EvL E s [] []
 |c {x:Operand} {U:V} {xs:List Operand} {Us:List V} (h:Ev E s x U) (hp:U.plain=true) (hr:EvL E s xs Us):EvL E s (x::xs) (U::Us)
def EvL.rd {xs:List Operand}{Us:List V}(h:EvL E s xs Us){β:List Tr}{a:Act}{w:World}(r:RelB E s β a w):RdL w (E.X β) (xs.map a.eval) Us:=by
 induction h with
 |n=>exact⟨rfl,by simp⟩
 | @c x U xs Us h hp hr b=>
  refine⟨by simp[b.1],λi v W h1 h2=> ?_⟩;cases i with
  |zero=>simp at h1 h2;subst h1;subst h2;exact(h β a w r).aBM hp
  |succ i=>exact b.2 i v W (by assumption) (by assumption)
def aBZ {β:List Tr}{a:Act}{w:World}(r:RelB E s β a w)(b:Nat)(h:E.X β b):b<w.heap.size:=by
 rcases h with h|⟨t,ht,hb⟩
 ·exact ca (E.h0 b h) r.ext.size
 ·obtain⟨i,hi⟩:=cQ.1 ht;exact(r.new i t b hi hb).2
def bG0 {f:FuncId}{xs:List Operand}{ats:Array TypeId}{a:Act}{w:World}{o:Oper}(ho:o.op= .call {callee:= .value (.func f),args:=xs.toArray,argTypes:=ats})
  (h:∀args w,(callFunc f args).run P w= .ok (.enter f args) w):(execOp a.eval o).run P w= .ok (.enter f (xs.map a.eval).toArray) w:=by
 grind[execOp,resolve,Act.eval,Deferred.ofValue,invoke]
def COp (E:Env P g)(s:S)(op:Op)(R:V->Prop):Prop:=
 ∀(β:List Tr) (a:Act) (w:World),RelB E s β a w->∀o:Oper,o.op=op->∃f args,(execOp a.eval o).run P w= .ok (.enter f args) w/\
  Calls P f args w λe w'=>∃v r,e= .returned v/\R r/\Rd w' (E.X β) β v r/\Ext w w'
def call {f:FuncId}{xs:List Operand}{ats:Array TypeId}{Us:List V}{R':V->Prop}(hs:Spec P g f Us R')(b:EvL E s xs Us):COp E s (.call {callee:= .value (.func f),args:=xs.toArray,argTypes:=ats}) R':=λβ a w r o ho=>
 ⟨f,_,bG0 ho hs.1,(hs.2 w (E.X β) _ r.gw (aBZ r) (b.rd r)).mono λe w' ⟨v,d,h1,h2,h3,h4⟩=>⟨v,d,h1,h2,h3.conv (ao _) (λ_ _ h=>h) (λ_ _ _ h=>h) (λ_ _ h=>by simp at h),h4⟩⟩
def wpc {o:Oper}{K:Act->World->Prop}{Q:Exit->Act->World->Prop}{a:Act}{w:World}{f:FuncId}{args:Array Value}{R':Value->World->Prop}(h:(execOp a.eval o).run P w= .ok (.enter f args) w)
  (hc:Calls P f args w λe w'=>∃v,e= .returned v/\R' v w') (hk:∀v w',R' v w'->K (a.put o.dst v) w'):o.wp P a w K Q:=by
 unfold Oper.wp;rw[h];refine Calls.mono hc ?_;simp_all
def c {ops:Array Oper}{F:S->Prop}{rest:List Oper}{d ty:Nat}{op:Op}{pos:String}{e:Array Edge}{b:V}{t':List V}(h:COp E s op (λr=>r=b))(i:Upd s.t d b t')(hr:RF E ops rest F ⟨t',s.o⟩):
  RF E ops (⟨some d,op,ty,pos,e,none⟩::rest) F s:=λQ j a w ⟨β,r⟩=>by
 obtain⟨f,args,h1,h2⟩:=h β a w r ⟨some d,op,ty,pos,e,none⟩ rfl;refine wpList_plain rfl λK hK=>wpc h1 (R':=λv w'=>Rd w' (E.X β) β v b/\Ext w w') (h2.mono ?_) ?_
 ·simp
 ·rintro v w' ⟨h3,h4⟩;exact hK _ _ (hr Q j _ _ ⟨β,(r.extend h4).put h3 i⟩)
section orders
variable {md:Region.Mode} {ops:Array Oper}
def gH (a0:Option Nat)(b:Array Bool):Bool:=match a0 with|none=>true|some a=> !b.getD a false
def dO (P:Program)(md:Region.Mode)(ops:Array Oper)(a0:Option Nat)(Q:Exit->Act->World->Prop)(S:World->Prop):Nat->Array Bool->Act->World->Prop
 |0,b,a,w=>Region.ready md ops b=[]/\Q .normal a w
 |fuel+1,b,a,w=>
  (Region.ready md ops b=[]->Q .normal a w)/\
  ∀i∈Region.ready md ops b,wpOp P ops Q i (λd w'=>(gH a0 (b.setIfInBounds i true)=true->S w')/\dO P md ops a0 Q S fuel (b.setIfInBounds i true) d w') a w
def Dn (md:Region.Mode)(ops:Array Oper)(a:Array Bool):Prop:=∀(j:Nat) (oj:Oper),ops[j]? =some oj->a.getD j true=true->∀e∈oj.after,Region.binds md e=true->a.getD e.on false=true
def bSv (md:Region.Mode)(ops:Array Oper):Nat->Nat->Nat->Bool
 |0,_,_=>false
 |f+1,cur,i=>match ops[cur]? with|none=>false|some o=>o.after.any λe=>Region.binds md e&&(e.on==i||bSv md ops f e.on i)
def Dn.set {a:Array Bool}(h:Dn md ops a){i:Nat}(hi:i∈Region.ready md ops a):Dn md ops (a.setIfInBounds i true):=λj oj d hl e he hb=>by
 refine getD_set_true ?_;by_cases b:j=i
 ·grind[mem_ready]
 ·rw[getD_set_ne true (Ne.symm b)] at hl;exact h j oj d hl e he hb
theorem getD_in {l:Array Bool}{i:Nat}(h:l.getD i true=false):l.getD i false=false:=by
 grind
theorem aC0 {a:Array Bool}(h:Dn md ops a){i:Nat}(hi:a.getD i true=false):∀(f cur:Nat),bSv md ops f cur i=true->a.getD cur true=false
 |0,_,hr=>by simp[bSv] at hr
 |f+1,cur,hr=>by
  simp only[bSv] at hr;cases ho:ops[cur]? with
  |none=>simp[ho] at hr
  |some o=>
   simp only[ho,Array.any_eq_true',ab,ck,cN] at hr;obtain⟨e,he,hb,b⟩:=hr;cases hc:a.getD cur true with
   |false=>rfl
   |true=>
    have h1:=h cur o ho hc e he hb;rcases b with rfl|b
    ·rw[getD_in hi] at h1;cases h1
    ·have h2:=aC0 h hi f e.on b;rw[getD_in h2] at h1;cases h1
def qM {P:Program}{a0:Option Nat}{Q:Exit->Act->World->Prop}{S:World->Prop}:∀(fuel:Nat) (b:Array Bool) (a:Act) (w:World),dO P md ops a0 Q S fuel b a w->wpAny P md ops Q fuel b a w
 |0,_,_,_,h=>h
 |fuel+1,_,_,_,h=>⟨h.1,λi hi=>wpOp_mono (λd w' e=>qM fuel _ d w' e.2) (h.2 i hi)⟩
def xU {P:Program}{a0:Option Nat}{Q:Exit->Act->World->Prop}{S d:World->Prop}(e:∀w,S w->d w):∀(fuel:Nat) (b:Array Bool) (a:Act) (w:World),dO P md ops a0 Q S fuel b a w->dO P md ops a0 Q d fuel b a w
 |0,_,_,_,h=>h
 |fuel+1,_,_,_,h=>⟨h.1,λi hi=>wpOp_mono (λk w' j=>⟨λhn=>e w' (j.1 hn),xU e fuel _ k w' j.2⟩) (h.2 i hi)⟩
theorem nK {a0:Option Nat}{a:Array Bool}{i:Nat}(h:gH a0 a=false):gH a0 (a.setIfInBounds i true)=false:=by cases a0<;>grind[gH,Bool.not_eq_false',getD_set_true]
theorem qX {P:Program}{a0:Option Nat}{Q:Exit->Act->World->Prop}{S e:World->Prop}:∀(fuel:Nat) (b:Array Bool) (a:Act) (w:World),gH a0 b=false->dO P md ops a0 Q S fuel b a w->dO P md ops a0 Q e fuel b a w
 |0,_,_,_,_,h=>h
 |fuel+1,_,_,_,hn,h=>⟨h.1,λi hi=>wpOp_mono (λj w' k=>⟨λd=>(by rw[nK hn] at d;cases d),qX fuel _ j w' (nK hn) k.2⟩) (h.2 i hi)⟩
theorem oG {P:Program}{a0:Option Nat}{Q:Exit->Act->World->Prop}{S:World->Prop}{i:Nat}{oi:Oper}{v:Value}(hi:ops[i]? =some oi)(L:∀(j:Nat) (o:Oper) cs b,ops[j]? =some o->o.op≠ .select cs b)
  (W:∀c a w,Q (.panic c) (a.put oi.dst v) w->Q (.panic c) a w) (B:a0≠some i) (p:∀d,Dn md ops d->d.getD i true=false->gH a0 d=true):
  ∀(fuel:Nat) (d:Array Bool) (a:Act) (w:World),
   (∀j oj,ops[j]? =some oj->j≠i->d.getD j true=false->(∀e∈oj.after,Region.binds md e=true->e.on≠i)->oi.apart ops oj=true)->
   Dn md ops d->i∈Region.ready md ops d->YieldsIf P ops S oi v a->S w->
   dO P md ops a0 Q S fuel (d.setIfInBounds i true) (a.put oi.dst v) w->dO P md ops a0 Q S (fuel+1) d a w:=by
 intro fuel;induction fuel with
 |zero=>
  intro d a w _ _ hr z q H;refine⟨λh=>(by rw[h] at hr;cases hr),λj r=> ?_⟩
  by_cases n:j=i
  ·subst n;exact z.wpOp hi q ⟨λ_=>q,H⟩
  ·have:=ready_mono r n;rw[H.1] at this;cases this
 |succ fuel ih=>
  intro d a w hfree Z hr z q H;refine⟨λh=>(by rw[h] at hr;cases hr),λj r=> ?_⟩
  by_cases n:j=i
  ·subst n;exact z.wpOp hi q ⟨λ_=>q,H⟩
  ·have h1:=H.2 j (ready_mono r n);obtain⟨M,oj,D,O⟩:=mem_ready.1 r;have T:∀e∈oj.after,Region.binds md e=true->e.on≠i:=(by grind[mem_ready,getD_in]);have h2:=wpOp_putIf D (by grind) (by grind) (by grind) W z h1;have A:∀k ok,ops[k]? =some ok->k≠i->(d.setIfInBounds j true).getD k true=false->
     (∀e∈ok.after,Region.binds md e=true->e.on≠i)->oi.apart ops ok=true:=λk ok hk G hun I=>by
    refine hfree k ok hk G ?_ I;by_cases hjk:j=k
    ·simp_all
    simp_all
   have J:=Z.set r;have u:(d.setIfInBounds j true).getD i true=false:=by rw[getD_set_ne true n];grind[mem_ready]
   have hny:gH a0 ((d.setIfInBounds i true).setIfInBounds j true)=true:=by
    have:=p _ J u;cases a0 with
    |none=>rfl
    |some a=>have K:i≠a:=λe=>B (by rw[e]);rw[fx _ _ (Ne.symm n)];simp only[gH] at this ⊢;rwa [getD_set_ne false K]
   grind[Array.setIfInBounds_comm,wpOp_mono,ready_mono]
theorem Ee {a0:Option Nat}{b:Array Bool}{i:Nat}(d:a0≠some i):gH a0 (b.setIfInBounds i true)=gH a0 b:=by
 cases a0 with
 |none=>rfl
 |some a=>have h:i≠a:=λe=>d (by rw[e]);simp only[gH];rw[getD_set_ne false h]
def cAs:Op->Bool
 | .move _=>true
 | .assign _=>true
 |_=>false
def cAt (md:Region.Mode)(ops:Array Oper)(b i:Nat):Bool:=bSv md ops 40 b i||(match ops[i]? with|some o=>cAs o.op|none=>false)
theorem bUx {P:Program}{o:Oper}(h:cAs o.op=true){a:Act}{w:World}{v:Value}(hr:(execOp a.eval o).run P w= .ok (.value v) w)(w':World):(execOp a.eval o).run P w'= .ok (.value v) w':=by cases ho:o.op<;>simp[ho,cAs] at h<;>(simp_all[execOp])
theorem Qg {P:Program}{a0:Option Nat}{Q:Exit->Act->World->Prop}{S:World->Prop}{i:Nat}{oi:Oper}{v:Value}(hi:ops[i]? =some oi)(G:∀(j:Nat) (o:Oper) cs b,ops[j]? =some o->o.op≠ .select cs b)
  (L:∀c a w,Q (.panic c) (a.put oi.dst v) w->Q (.panic c) a w) (p:a0≠some i):
  ∀(fuel:Nat) (d:Array Bool) (a:Act) (w:World),
   (∀j oj,ops[j]? =some oj->j≠i->d.getD j true=false->(∀e∈oj.after,Region.binds md e=true->e.on≠i)->oi.apart ops oj=true)->
   i∈Region.ready md ops d->YieldsIf P ops (λ_=>True) oi v a->(gH a0 d=true->S w)->
   dO P md ops a0 Q S fuel (d.setIfInBounds i true) (a.put oi.dst v) w->dO P md ops a0 Q S (fuel+1) d a w:=by
 intro fuel;induction fuel with
 |zero=>
  intro d a w _ hr q z H;refine⟨λh=>(by rw[h] at hr;cases hr),λj r=> ?_⟩
  by_cases n:j=i
  ·subst n;exact q.wpOp hi trivial ⟨λhn=>z (by rw[<-hn];exact(Ee p).symm),H⟩
  ·have:=ready_mono r n;rw[H.1] at this;cases this
 |succ fuel T=>
  intro d a w hfree hr q z H;refine⟨λh=>(by rw[h] at hr;cases hr),λj r=> ?_⟩
  by_cases n:j=i
  ·subst n;exact q.wpOp hi trivial ⟨λhn=>z (by rw[<-hn];exact(Ee p).symm),H⟩
  ·have h1:=H.2 j (ready_mono r n);obtain⟨I,oj,A,J⟩:=mem_ready.1 r;have K:∀e∈oj.after,Region.binds md e=true->e.on≠i:=(by grind[mem_ready,getD_in]);have h2:=wpOp_putIf A (by grind) (by grind) (by grind) L q h1;have u:∀k ok,ops[k]? =some ok->k≠i->(d.setIfInBounds j true).getD k true=false->
     (∀e∈ok.after,Region.binds md e=true->e.on≠i)->oi.apart ops ok=true:=λk ok hk B M D=>by
    refine hfree k ok hk B ?_ D;by_cases O:j=k
    ·simp_all
    simp_all
   grind[Array.setIfInBounds_comm,wpOp_mono,ready_mono,gH,Ee]
def J8 {P:Program}{a0:Option Nat}{Q:Exit->Act->World->Prop}{S:World->Prop}{i:Nat}{oi:Oper}{v:Value}{fuel:Nat}{d:Array Bool}{a:Act}{w:World}(hi:ops[i]? =some oi)
  (hs:Region.noSelect ops=true) (k:Region.free md ops d i=true) (hr:(Region.ready md ops d).contains i=true) (e:(match a0 with|none=>true|some b=>b !=i&&cAt md ops b i)=true) (r:Dn md ops d)
  (n:∀c a w,Q (.panic c) (a.put oi.dst v) w->Q (.panic c) a w) (p:YieldsIf P ops S oi v a) (q:S w)
  (h:dO P md ops a0 Q S fuel (d.setIfInBounds i true) (a.put oi.dst v) w):dO P md ops a0 Q S (fuel+1) d a w:=by
 cases a0 with
 |none=>exact oG hi (Region.noSelect_spec hs) n (by simp) (λ_ _ _=>rfl) fuel d a w (Region.free_spec hi k) r (by simp_all) p q h
 |some b=>
  simp only[ab,cAt,ck,hi] at e;have j:some b≠some i:=(by simp_all);rcases e.2 with e|e
  ·grind[getD_in,aC0,gH,Bool.not_eq_true',oG,Region.noSelect_spec,Region.free_spec]
  ·refine Qg hi (Region.noSelect_spec hs) n j fuel d a w (Region.free_spec hi k) (by simp_all) (p.imp (by grind[bUx]) id) (λ_=>q) h
def lQ {P:Program}{a0:Option Nat}{Q:Exit->Act->World->Prop}{S:World->Prop}{rs:List Nat}{fuel:Nat}{b:Array Bool}{a:Act}{w:World}(hr:Region.ready md ops b=rs)(d:rs≠[])
  (h:∀i∈rs,wpOp P ops Q i (λe w'=>(gH a0 (b.setIfInBounds i true)=true->S w')/\dO P md ops a0 Q S fuel (b.setIfInBounds i true) e w') a w):dO P md ops a0 Q S (fuel+1) b a w:=
 ⟨λh0=>absurd (hr▸h0) d,hr▸h⟩
def xV {P:Program}{a0:Option Nat}{Q:Exit->Act->World->Prop}{S:World->Prop}{b:Array Bool}{a:Act}{w:World}(hr:Region.ready md ops b=[])(h:Q .normal a w):
  ∀fuel,dO P md ops a0 Q S fuel b a w
 |0=>⟨hr,h⟩
 |_+1=>⟨λ_=>h,by rw[hr];simp⟩
end orders
def chk (ops:Array Oper)(a0:Option Nat):List (Nat×Bool)->Array Bool->Bool
 |[],a=>(Region.ready .any ops a).isEmpty
 |(i,true)::r,a=>Region.free .any ops a i&&(Region.ready .any ops a).contains i&&(match a0 with|none=>true|some b=>b !=i&&cAt .any ops b i)&&chk ops a0 r (a.setIfInBounds i true)
 |(i,false)::r,a=>(Region.ready .any ops a==[i])&&(a0 !=some i|| !gH a0 (a.setIfInBounds i true))&&chk ops a0 r (a.setIfInBounds i true)
def bJh (ops:Array Oper)(a0:Option Nat)(ord:List (Nat×Bool)):Bool:=Region.noSelect ops&&ord.length==ops.size&&chk ops a0 ord (Array.replicate ops.size false)
variable {a0:Option Nat}
def RO (E:Env P g)(ops:Array Oper)(a0:Option Nat)(ord:List (Nat×Bool))(F:S->Prop)(s:S):Prop:=
 Region.noSelect ops=true->∀Q:Exit->Act->World->Prop,(∀s' a w,F s'->bB E s' a w->Q .normal a w)->∀(b:Array Bool),(Dn .any ops b/\chk ops a0 ord b=true)->∀a w,bB E s a w->dO P .any ops a0 (NoPanic Q) (Ext w) ord.length b a w
theorem os {ops:List Oper}{ord:List (Nat×Bool)}{F:S->Prop}{i d ty j q:Nat}{oj:Oper}{b n:Bool}{op:Op}{pos:String}{u:Array Edge}{t':List V}(hi:At ops i ⟨some d,op,ty,pos,u,some (j,n)⟩)(A:At ops j oj)(hd:oj.dst=some q)(hv:At s.t q (.bool b))(hb:(b==n)=false)(B:Upd s.t d .und t')(hr:RO E ops.toArray a0 ord F ⟨t',s.o⟩):
  RO E ops.toArray a0 ((i,true)::ord) F s:=λhs Q D k hc a w ⟨β,r⟩=>by
 obtain⟨z,hc⟩:=hc;simp only[chk,ab] at hc;have p:=z.set (by simpa using hc.1.1.2);refine J8 (i:=i) (oi:=⟨some d,op,ty,pos,u,some (j,n)⟩) (v:=undef) (by simpa using hi.get) hs hc.1.1.1 hc.1.1.2 hc.1.2 z (λ_ _ _ h=>h) (.inr ⟨by simp[Region.wanted,bOm r A hd hv];intro e;subst e;simp at hb,rfl⟩) (Ext.refl w) ?_;exact hr hs Q D _ ⟨p,hc.2⟩ _ _ ⟨β,r.put .und B⟩
def rd {id:Nat}{l:List Oper}(a0:Option Nat)(ord:List (Nat×Bool))(hm:P.follows .mixedOrders=true)(hc:bJh l.toArray a0 ord=true)(h:RO E l.toArray a0 ord N s):CW E (.region id l.toArray true) N X R s:=λQ d hX n a w ⟨β,r⟩=>by
 simp only[bJh,ab,cN] at hc;refine wp_region_noPanic (wp_region_any hm (qM (a0:=a0) (S:=Ext w.drew) _ _ _ _ ?_));have:=h hc.1.1 Q (λs' a w e i=>d s' e a w i) _ ⟨λj oj k hl=>(by
  have b:=(bz.1 k).1;rw[ct,ja,cu b] at hl;cases hl),hc.2⟩ a w.drew ⟨β,r.extend (Ext.drew w)⟩
 simp_all
def chz (ops:Array Oper):List Nat->Array Bool->Bool
 |[],a=>(Region.ready .any ops a).isEmpty
 |i::r,a=>(Region.ready .any ops a==[i])&&chz ops r (a.setIfInBounds i true)
def RZ (E:Env P g)(ops:Array Oper)(ord:List Nat)(F:S->Prop)(s:S):Prop:=
 ∀Q:Exit->Act->World->Prop,(∀s' a w,F s'->bB E s' a w->Q .normal a w)->∀(b:Array Bool),chz ops ord b=true->∀a w,bB E s a w->wpAny P .any ops (NoPanic Q) ord.length b a w
def bOn {P:Program}{md:Region.Mode}{ops:Array Oper}{Q:Exit->Act->World->Prop}{i fuel:Nat}{b:Array Bool}{a:Act}{w:World}(hr:Region.ready md ops b=[i])
  (h:wpOp P ops Q i (λe w'=>wpAny P md ops Q fuel (b.setIfInBounds i true) e w') a w):wpAny P md ops Q (fuel+1) b a w:=
 ⟨λh0=>(by rw[hr] at h0;cases h0),λj d=>(by rw[hr] at d;simp at d;subst d;exact h)⟩
def zc {ops:List Oper}{ord:List Nat}{F:S->Prop}{i d ty:Nat}{op:Op}{pos:String}{e:Array Edge}{j:V}{t':List V}(hi:At ops i ⟨some d,op,ty,pos,e,none⟩)(h:COp E s op (λr=>r=j))(k:Upd s.t d j t')(hr:RZ E ops.toArray ord F ⟨t',s.o⟩):RZ E ops.toArray (i::ord) F s:=λQ n b hc a w ⟨β,r⟩=>by
 obtain⟨f,args,h1,h2⟩:=h β a w r ⟨some d,op,ty,pos,e,none⟩ rfl;simp only[chz,ab,cN] at hc;have hg:ops.toArray[i]? =some ⟨some d,op,ty,pos,e,none⟩:=by simpa using hi.get
 refine bOn hc.1 (wpOp_step hg λK hK=> ?_);rw[cu (by rfl)];refine wpc h1 (R':=λv w'=>Rd w' (E.X β) β v j/\Ext w w') (h2.mono ?_) ?_
 ·simp
 ·rintro v w' ⟨h3,h4⟩;exact hK _ _ (hr Q n _ hc.2 _ _ ⟨β,(r.extend h4).put h3 k⟩)
def hz0 {ops:Array Oper}{a0:Option Nat}(a:Array Bool)(h:chk ops a0 [] a=true):chz ops (([]:List (Nat×Bool)).map Prod.fst) a=true:=h
theorem hzs {ops:Array Oper}{a0:Option Nat}{i:Nat}{r:List (Nat×Bool)}(hr:∀a,chk ops a0 r a=true->chz ops (r.map Prod.fst) a=true)(a:Array Bool)(h:chk ops a0 ((i,false)::r) a=true):chz ops (((i,false)::r).map Prod.fst) a=true:=by
 grind[chz,chk]
inductive Cv (s:S):V->V->Prop
 |p {U:V} (h:U.plain=true):Cv s U U
 |o {i T k:Nat} {es:List (List V)} (h:At s.o i (.row T k es)):Cv s (.own i) (.slice k es)
 |n {k:Nat}:Cv s .nil (.slice k [])
 |a {cs ds:List V} (hl:cs.length=ds.length) (h:∀(i:Nat) (c d:V),cs[i]? =some c->ds[i]? =some d->Cv s c d):Cv s (.agg cs) (.agg ds)
inductive CvL (s:S):List V->List V->Prop
 |n:CvL s [] []
 |c {x y:V} {xs ys:List V} (h:Cv s x y) (hr:CvL s xs ys):CvL s (x::xs) (y::ys)
def CvL.spec {xs ys:List V}(h:CvL s xs ys):xs.length=ys.length/\∀(i:Nat) (c d:V),xs[i]? =some c->ys[i]? =some d->Cv s c d:=by induction h<;>grind
def Cv.l {cs ds:List V}(h:CvL s cs ds):Cv s (.agg cs) (.agg ds):= .a h.spec.1 h.spec.2
def bUy {β:List Tr}{a:Act}{w:World}(r:RelB E s β a w){i T k:Nat}{es:List (List V)}{t:Tr}(hb:β[i]? =some t)(hi:At s.o i (.row T k es)){X0:Nat->Prop}(hX:∀b,X0 b->E.X β b)(n:∀b,t.b=some b->¬X0 b):Rd w X0 [] t.val (.slice k es):=by
 obtain⟨h1,h2,xs,h3,h4⟩:=r.objs i t _ hb hi.get;rcases h3.2 with⟨h5,h6⟩|⟨p,cap,cur,h5,_,h6,h7,h8,h9,z⟩
 ·rw[h5];have:es=[]:=cj h6;subst this;exact .slice0 (cm _)
 ·rw[h5];have q:t.b=some p:=by simp_all[Tr.val]
  cases es with
  |nil=>exact .slice0 h8
  |cons e0 es'=>
   refine .slice (val:=λi j=>xs.getD (i*k+j) undef) rfl (by simp) h7 h8 (n p q) (bz.1 h6).1 h2 (λu j e d k1 k2=> ?_) (λu j e d k1 k2=> ?_)
   ·obtain⟨v,k3,_,_⟩:=h4 u j e d k1 k2;rw[h3.cells (g:=p) (by rw[h5];rfl) _ v k3];simp[*]
   ·obtain⟨v,k3,_,k5⟩:=h4 u j e d k1 k2;simp only[List.getD,k3,cV];exact k5.conv (ao _) (λb _ hb=>hX b hb) (λ_ _ _ h=>h) (by simp)
def Cv.rd {U U':V}(h:Cv s U U'){β:List Tr}{a:Act}{w:World}(r:RelB E s β a w):∀{v:Value},Rd w (E.X β) β v U->Rd w E.X0 [] v U':=by
 induction h with
 |p h=>exact λhv=>(hv.aBM (β':=[]) h).conv (ao _) (λb _ hb=> .inl hb) (λ_ _ _ h=>h) (λ_ _ h=>h)
 |o h=>intro v hv;obtain⟨t,h1,rfl⟩:=hv.aBK;exact bUy r h1 h (λb hb=> .inl hb) (λb hb e=>by have:=(r.new _ t b h1 hb).1;have:=E.h0 b e;omega)
 |n=>intro v hv;rw[hv.aBI];exact .slice0 (cm _)
 |a hl h j=>
  intro v hv;obtain⟨vs,rfl,k2,k3⟩:=hv.aAZ;refine .agg (by rw[k2,hl]) (λi v d h1 h2=> ?_)
  grind
inductive Rs (E:Env P g) (s:S):List ResultVar->List V->Prop
 |n:Rs E s [] []
 |t {n:Nat} {U U':V} {l:List ResultVar} {Us:List V} (h:At s.t n U) (hc:Cv s U U') (hr:Rs E s l Us):Rs E s (.tmp n::l) (U'::Us)
 |a {n i T m:Nat} {cs ds:List V} {l:List ResultVar} {Us:List V} (h:At s.t n (.box i 0)) (ht:bSu P T m=true) (hi:At s.o i (.box T cs)) (hl:cs.length=m) (hc:CvL s cs ds) (hr:Rs E s l Us):Rs E s (.cell n T::l) (.agg ds::Us)
 |b {n i T:Nat} {U U':V} {l:List ResultVar} {Us:List V} (h:At s.t n (.box i 0)) (ht:J7 P T=true) (hi:At s.o i (.box T [U])) (hc:Cv s U U') (hr:Rs E s l Us):Rs E s (.cell n T::l) (U'::Us)
def aKu (P:Program)(w:World)(tmps:Array Value)(x:ResultVar):Sem Value:=match x with
 | .tmp t=>pure (tmps.getD t undef)
 | .cell a t=>do loadVar t (<-asAddr (tmps.getD a undef))
def Rs.run {l:List ResultVar}{Us:List V}(h:Rs E s l Us){β:List Tr}{a:Act}{w:World}(r:RelB E s β a w):
  ∃vs:List Value,(l.mapM (aKu P w a.tmps)).run P w= .ok vs w/\vs.length=Us.length/\∀(i:Nat) (v:Value) (U:V),vs[i]? =some v->Us[i]? =some U->Rd w E.X0 [] v U:=by
 have cons:∀{x:ResultVar} {v:Value} {U:V} {l:List ResultVar} {Us:List V},(aKu P w a.tmps x).run P w= .ok v w->Rd w E.X0 [] v U->
   (∃vs:List Value,(l.mapM (aKu P w a.tmps)).run P w= .ok vs w/\vs.length=Us.length/\∀(i:Nat) (v:Value) (U:V),vs[i]? =some v->Us[i]? =some U->Rd w E.X0 [] v U)->
   ∃vs:List Value,((x::l).mapM (aKu P w a.tmps)).run P w= .ok vs w/\vs.length=(U::Us).length/\∀(i:Nat) (v:Value) (W:V),vs[i]? =some v->(U::Us)[i]? =some W->Rd w E.X0 [] v W:=by
  rintro x v U l Us h1 h2 ⟨vs,h3,h4,h5⟩;refine⟨v::vs,by simp[ip,h1,h3],by simp[h4],λi e W k1 k2=> ?_⟩
  grind
 induction h with
 |n=>simp
 |t h hc hr d=>exact cons (by simp[aKu]) (hc.rd r (r.tmps _ _ h.get)) d
 | @a n i T m cs ds l Us h ht hi hl hc hr d=>
  obtain⟨tr,b,h1,h2,h3⟩:=(r.tmps _ _ h.get).aBN;obtain⟨vs,k1,k2,k3⟩:=bGz r hi h1 h2;refine cons (v:= .agg vs.toArray) ?_ ((Cv.l hc).rd r (.agg (by assumption) (by grind))) d;have:=aT8 (P:=P) (w:=w) (t:=T) (vs:=vs) (by simp[*]) (a:=⟨b,0,none⟩) (λj v k=>by
   rw[fT,cell_of_row w b _ _ T (0,0) k1];simp[*])
  grind[aKu,asAddr,Sem.run_bind,Sem.run_pure,Result.andThen_ok]
 | @b n i T U U' l Us h ht hi hc hr d=>
  obtain⟨tr,b,h1,h2,h3⟩:=(r.tmps _ _ h.get).aBN;obtain⟨vs,k1,k2,k3⟩:=bGz r hi h1 h2
  match vs,k2 with
  |[v],_=>
   refine cons (v:=v) ?_ (hc.rd r (k3 0 v U rfl rfl)) d;have hcell:w.cell? ⟨b,0,none⟩=some v:=by rw[cell_of_row w b 0 _ T (0,0) k1];rfl
   grind[aKu,asAddr,Sem.run_bind,Sem.run_pure,Result.andThen_ok,aT7]
def jC:List V->V
 |[U]=>U
 |Us=> .tup Us
def Ret (E:Env P g)(l:List ResultVar)(R:V->Prop)(s:S):Prop:=∃Us r,Rs E s l Us/\r=jC Us/\R r
def bX6 {b:Func}{l:List ResultVar}(i:b.results=l.toArray){Us:List V}{r:V}(h:Rs E s l Us)(d:r=jC Us){β:List Tr}{a:Act}{w:World}(e:RelB E s β a w):
  ∃v,(results b a.tmps).run P w= .ok v w/\Rd w E.X0 [] v r:=by
 obtain⟨vs,h1,h2,h3⟩:=h.run e;have hm:(results b a.tmps).run P w= .ok (if h:vs.toArray.size=1 then vs.toArray[0] else .tuple vs.toArray) w:=by
  have j:results b a.tmps=(do
    let vs<-b.results.mapM (aKu P w a.tmps)
    pure (if h:vs.size=1 then vs[0] else .tuple vs)):=rfl
  simp[*]
 refine⟨_,hm,?_⟩;subst d;clear h h1 hm
 match Us,vs,h2,h3 with
 |[U],[v],_,h3=>exact h3 0 v U rfl rfl
 |[],[],_,_=>exact .tup rfl (by simp)
 |U::U'::Us,v::k::vs,h2,h3=>rw[dif_neg (by simp)];exact .tup (by assumption) (by grind)
def enter {f:FuncId}{e:Func}{p:Code}{n:Nat}{l:List ResultVar}{Us:List V}{R':V->Prop}(u:P.funcs[f]? =some e)(hb:e.body=some p)(hn:e.ntmps=n)(hl:e.results=l.toArray)
  (z:∀args w,(callFunc f args).run P w= .ok (.enter f args) w)
  (h:∀E:Env P g,CW E p (Ret E l R') (λ_ _=>False) (Ret E l R') ⟨Us++List.replicate (n-Us.length) .any,[]⟩):Spec P g f Us R':=by
 refine⟨z,λw X0 vs A j d=>calls_of_wp u hb ?_⟩;let E:Env P g:=⟨X0,w,j,A⟩;have B:RelB E ⟨Us++List.replicate (n-Us.length) .any,[]⟩ [] {tmps:=vs.toArray++Array.replicate (e.ntmps-vs.toArray.size) undef,defers:=[]} w:=by
  refine {ext:=Ext.refl w,defers:=rfl,tsz:= ?_,tmps:=λm U hm=> ?_,blen:=rfl,new:=by simp,dist:=by simp,objs:=by simp}
  ·simp[hn,d.1]
  ·by_cases i:m<Us.length
   ·simp only at hm;rw[aq i] at hm;have hv:(vs.toArray++Array.replicate (e.ntmps-vs.toArray.size) undef).getD m undef=vs[m]'(by rw[d.1];exact i):=by
     rw[ct,fu (by simpa[d.1] using i)]
     grind
    rw[hv];exact(d.2 m _ U (aa _) hm).conv (ao _) (λb _ hb=>by
     rcases hb with hb|⟨t,ht,_⟩
     all_goals grind) (λ_ _ _ h=>h) (λ_ _ h=>h)
   ·simp only at hm;rw[ax (by omega)] at hm;have:=ba hm;simp at this;rw[this.2];exact .any
 have fin:∀s',Ret E l R' s'->∀a w',bB E s' a w'->a.defers=[]/\∃v,(results e a.tmps).run P w'= .ok v w'/\(∃q r,Ending.returned v= .returned q/\R' r/\Rd w' X0 [] q r/\Ext w w'):=by rintro s' ⟨Us',r,h1,h2,h3⟩ a w' ⟨β,k⟩;obtain⟨v,k1,k2⟩:=bX6 hl h1 h2 k;exact⟨k.defers,v,k1,v,r,rfl,h3,k2,k.ext⟩
 exact h E _ (by assumption) (by simp) (by assumption) _ _ ⟨[],B⟩
end
end Go.VK
namespace Go.VK
open Go.RowKit
variable {P:Program} {g:GI} {E:Env P g} {s:S}
mutual
inductive VL (ρ:List Nat) (so:List Ob):V->V->Prop
 |a {U:V}:VL ρ so U .any
 |e {U U':V} (h:U=U') (hp:U'.plain=true):VL ρ so U U'
 |el {cs:List V}:VL ρ so (.elem cs) (.elem cs)
 |b {i j off:Nat} (h:At ρ j i):VL ρ so (.box i off) (.box j off)
 |w {i j:Nat} (h:At ρ j i):VL ρ so (.own i) (.own j)
 |p {i j off:Nat} (h:At ρ j i):VL ρ so (.oel i off) (.oel j off)
 |z {i T k:Nat} {es:List (List V)} (h:At so i (.row T k es)) (hd:(ρ.contains i)=false):VL ρ so (.own i) (.slice k es)
 |n {k:Nat}:VL ρ so .nil (.slice k [])
 |g {cs ds:List V} (h:VLs ρ so cs ds):VL ρ so (.agg cs) (.agg ds)
inductive VLs (ρ:List Nat) (so:List Ob):List V->List V->Prop
 |n:VLs ρ so [] []
 |c {x y:V} {xs ys:List V} (h:VL ρ so x y) (hr:VLs ρ so xs ys):VLs ρ so (x::xs) (y::ys)
end
def VLs.spec {ρ:List Nat}{so:List Ob}:∀{xs ys:List V},VLs ρ so xs ys->xs.length=ys.length/\∀(i:Nat) (c d:V),xs[i]? =some c->ys[i]? =some d->VL ρ so c d
 |[],[], .n=>by simp
 |x::xs,y::ys, .c h hr=>by
  have a:=VLs.spec hr;refine⟨by simp[a.1],λi c d h1 h2=> ?_⟩;cases i with
  |zero=>simp at h1 h2;subst h1;subst h2;exact h
  |succ i=>exact a.2 i c d (by simpa using h1) (by simpa using h2)
inductive OL (ρ:List Nat) (so:List Ob):List Nat->List Ob->Prop
 |n:OL ρ so [] []
 |b {i T:Nat} {cs ds:List V} {r:List Nat} {os:List Ob} (h:At so i (.box T cs)) (hl:VLs ρ so cs ds) (hr:OL ρ so r os):OL ρ so (i::r) (.box T ds::os)
 |r {i T k:Nat} {es es':List (List V)} {r:List Nat} {os:List Ob} (h:At so i (.row T k es)) (he:es=es') (hr:OL ρ so r os):OL ρ so (i::r) (.row T k es'::os)
inductive ObL (ρ:List Nat) (so:List Ob):Ob->Ob->Prop
 |b {T:Nat} {cs ds:List V} (hl:VLs ρ so cs ds):ObL ρ so (.box T cs) (.box T ds)
 |r {T k:Nat} {es:List (List V)}:ObL ρ so (.row T k es) (.row T k es)
def OL.spec {ρ:List Nat}{so:List Ob}{r:List Nat}{os:List Ob}(h:OL ρ so r os):r.length=os.length/\(∀i∈r,i<so.length)/\∀(j i:Nat) (p:Ob),r[j]? =some i->os[j]? =some p->∃o,so[i]? =some o/\ObL ρ so o p:=by
 induction h with
 |n=>simp
 | @b i T cs ds r os h hl hr d=>
  refine⟨by simp[d.1],λe a=> ?_,λj e p h1 h2=> ?_⟩
  ·rcases bl.1 a with rfl|a
   ·exact(bf.1 h.get).1
   ·exact d.2.1 e a
  ·cases j with
   |zero=>simp at h1 h2;subst h1;subst h2;exact⟨_,h.get, .b hl⟩
   |succ j=>exact d.2.2 j e p (by simpa using h1) (by simpa using h2)
 | @r i T k es es' r os h he hr d=>
  subst he;refine⟨by simp[d.1],λe a=> ?_,λj e p h1 h2=> ?_⟩
  ·rcases bl.1 a with rfl|a
   ·exact(bf.1 h.get).1
   ·exact d.2.1 e a
  ·cases j with
   |zero=>simp at h1 h2;subst h1;subst h2;exact⟨_,h.get, .r⟩
   |succ j=>exact d.2.2 j e p (by simpa using h1) (by simpa using h2)
def VL.rd {β:List Tr}{a:Act}{w:World}(r:RelB E s β a w){ρ:List Nat}{β':List Tr}(hβ:∀(j i:Nat),ρ[j]? =some i->∀t,β[i]? =some t->β'[j]? =some t)
  (hX:∀b,E.X β' b->E.X β b) (hfree:∀(i:Nat) (t:Tr) (b:Nat),(ρ.contains i)=false->β[i]? =some t->t.b=some b->¬E.X β' b):
  ∀{U U':V},VL ρ s.o U U'->∀{v:Value},Rd w (E.X β) β v U->Rd w (E.X β') β' v U'
 |_,_, .a,_,_=> .any
 |_,_, .e h hp,v,hv=>by subst h;exact(hv.aBM (β':=β') hp).conv (ao _) (λb _ hb=>hX b hb) (λ_ _ _ h=>h) (λ_ _ h=>h)
 |_,_, .el,v,hv=>by
  cases hv with
  |elem h1 h2 h3 h4=>exact .elem (λh=>h1 (hX _ h)) h2 h3 (λj d hd=>(h4 j d hd).conv (ao _) (λb _ hb=>hX b hb) (λ_ _ _ h=>h) (λ_ _ h=>h))
 |_,_, .b h,v,hv=>by obtain⟨t,b,h1,h2,rfl⟩:=hv.aBN;exact .box (hβ _ _ h.get _ h1) h2
 |_,_, .w h,v,hv=>by obtain⟨t,h1,rfl⟩:=hv.aBK;exact .own (hβ _ _ h.get _ h1)
 |_,_, .p h,v,hv=>by obtain⟨t,b,h1,h2,rfl⟩:=hv.aCM;exact .oel (hβ _ _ h.get _ h1) h2
 |_,_, .z h hd,v,hv=>by
  obtain⟨t,h1,rfl⟩:=hv.aBK;exact(bUy r h1 h hX (λb hb=>hfree _ t b hd h1 hb)).conv (ao _) (λ_ _ h=>h) (λ_ _ _ h=>h) (λ_ _ h=>by simp at h)
 |_,_, .n,v,hv=>by rw[hv.aBI];exact .slice0 (cm _)
 |_,_, .g (cs:=cs) (ds:=ds) h,v,hv=>by
  obtain⟨vs,rfl,k2,k3⟩:=hv.aAZ;have hsp:=h.spec;refine .agg (by rw[k2,hsp.1]) (λi v d h1 h2=> ?_);have k:i<cs.length:=by rw[<-k2];exact(bz.1 h1).1
  exact go (r:=r) (hβ:=hβ) (hX:=hX) (hfree:=hfree) h i v d _ h2 (aa k) (k3 i v _ h1 (aa k))
 where go {β:List Tr} {a:Act} {w:World} {r:RelB E s β a w} {ρ:List Nat} {β':List Tr} {hβ:∀(j i:Nat),ρ[j]? =some i->∀t,β[i]? =some t->β'[j]? =some t}
  {hX:∀b,E.X β' b->E.X β b} {hfree:∀(i:Nat) (t:Tr) (b:Nat),(ρ.contains i)=false->β[i]? =some t->t.b=some b->¬E.X β' b}:
  ∀{cs ds:List V},VLs ρ s.o cs ds->∀(i:Nat) (v:Value) (d c:V),ds[i]? =some d->cs[i]? =some c->Rd w (E.X β) β v c->Rd w (E.X β') β' v d
 |_,_, .n,i,v,d,c,h1,_,_=>by simp at h1
 |_,_, .c h hr,0,v,d,c,h1,h2,h3=>by simp at h1 h2;subst h1;subst h2;exact VL.rd r hβ hX hfree h h3
 |_,_, .c h hr,i+1,v,d,c,h1,h2,h3=>go (r:=r) (hβ:=hβ) (hX:=hX) (hfree:=hfree) hr i v d c (by simpa using h1) (by simpa using h2) h3
def le {t':List V}{o':List Ob}(ρ:List Nat)(hn:ρ.Nodup)(ht:VLs ρ s.o s.t t')(ho:OL ρ s.o ρ o'):Le E s ⟨t',o'⟩:=λa w ⟨β,r⟩=>by
 obtain⟨o1,o2,o3⟩:=ho.spec;obtain⟨t1,t2⟩:=ht.spec;let β':List Tr:=ρ.map λi=>β.getD i ⟨none,0,0⟩;have z:∀i∈ρ,β[i]? =some (β.getD i ⟨none,0,0⟩):=λi hi=>by
  have:i<β.length:=by rw[r.blen];exact o2 i hi
  simp[List.getD,aa this]
 have hβ:∀(j i:Nat),ρ[j]? =some i->∀t,β[i]? =some t->β'[j]? =some t:=λj i k t ht=>by
  simp only[β',bq,k,da];rw[<-z i (ba k)];exact ht
 have p:∀(j:Nat) (t:Tr),β'[j]? =some t->∃i,ρ[j]? =some i/\β[i]? =some t:=λj t k=>by
  simp only[β',bq] at k;cases hi:ρ[j]? with
  |none=>simp[hi] at k
  |some i=>simp only[hi,da,aj] at k;exact⟨i,rfl,by rw[z i (ba hi),k]⟩
 have hX:∀b,E.X β' b->E.X β b:=by
  rintro b (h|⟨t,ht,hb⟩)
  ·exact .inl h
  ·obtain⟨j,k⟩:=cQ.1 ht;obtain⟨i,_,hi⟩:=p j t k;exact .inr ⟨t,ba hi,hb⟩
 have hfree:∀(i:Nat) (t:Tr) (b:Nat),(ρ.contains i)=false->β[i]? =some t->t.b=some b->¬E.X β' b:=by
  rintro i t b G hi hb (h|⟨u,hu,A⟩)
  ·have:=(r.new i t b hi hb).1;have:=E.h0 b h;omega
  ·obtain⟨j,k⟩:=cQ.1 hu;obtain⟨K,B,H⟩:=p j u k;have L:i≠K:=by rintro rfl;have:=ba B;simp at G;exact G this
   exact r.dist i K t u b L hi H hb A
 refine⟨β',{ext:=r.ext,defers:=r.defers,tsz:=by rw[r.tsz,t1],tmps:=λn U hU=> ?_,blen:=by simp[β',o1],new:= ?_,dist:= ?_,objs:= ?_}⟩
 ·have q:n<s.t.length:=by rw[t1];exact(bf.1 hU).1
  exact VL.rd r hβ hX hfree (t2 n _ U (aa q) hU) (r.tmps n _ (aa q))
 ·intro j t b k hb;obtain⟨i,_,hi⟩:=p j t k;exact r.new i t b hi hb
 ·intro j j' t u b M k O hb A;obtain⟨i,hi,D⟩:=p j t k;obtain⟨K,B,I⟩:=p j' u O;refine r.dist i K t u b ?_ D I hb A;rintro rfl;have h1:=(bf.1 hi);have h2:=(bf.1 B);obtain⟨l1,e1⟩:=h1;obtain⟨l2,e2⟩:=h2;have hp:=eM.1 hn;rcases Nat.lt_trichotomy j j' with h|h|h
  ·exact hp j j' l1 l2 h (e1.trans e2.symm)
  ·exact M h
  ·exact hp j' j l2 l1 h (e2.trans e1.symm)
 ·intro j t Q k T;obtain⟨i,hi,D⟩:=p j t k;obtain⟨o,W,Z⟩:=o3 j i Q hi T;have J:=r.objs i t o D W;cases Z with
  |b hl=>obtain⟨b,vs,k1,k2,k3,k4⟩:=J;have hsp:=hl.spec;refine⟨b,vs,k1,k2,by rw[k3,hsp.1],λi v c h5 h6=> ?_⟩;have q:i<_:=(bf.1 h6).1;rw[<-hsp.1] at q;exact VL.rd r hβ hX hfree (hsp.2 i _ c (aa q) h6) (k4 i v _ h5 (aa q))
  |r=>obtain⟨h1,h2,xs,h3,h4⟩:=J;exact⟨h1,h2,xs,h3,λi j e d k1 k2=>let ⟨v,k3,k4,k5⟩:=h4 i j e d k1 k2;⟨v,k3,k4,k5.conv (ao _) (λb _ hb=>hX b hb) (λ_ _ _ h=>h) (λ_ _ h=>h)⟩⟩
def RelB.drop {β:List Tr}{a:Act}{w:World}(r:RelB E s β a w){n:Nat}{t':List V}(b:Upd s.t n .any t'):RelB E ⟨t',s.o⟩ β a w where
 ext:=r.ext
 defers:=r.defers
 tsz:=by rw[b.eq.1];simpa using r.tsz
 tmps m V hm:=by
  simp only[b.eq.1] at hm;by_cases he:n=m
  ·subst he;rw[bm (by have:=b.eq.2;omega)] at hm;injection hm with hm;rw[<-hm];exact .any
  ·rw[bg he] at hm;exact r.tmps m V hm
 blen:=r.blen
 new:=r.new
 dist:=r.dist
 objs:=r.objs
def rng {c:Code}{N:S->Prop}{X:Nat->S->Prop}{R:S->Prop}{n:Nat}{k:IntKind}{x:Int}(hv:At s.t n (.int k x))(h:k.min<=x->x<=k.max->CW E c N X R s):CW E c N X R s:=λQ b hX d a w ⟨β,r⟩=>by
 have:=(r.tmps n _ hv.get).aAR;exact h this.2.1 this.2.2 Q b hX d a w ⟨β,r⟩
end Go.VK
namespace Go.VK
open Go.RowKit
variable {P:Program} {g:GI} {E:Env P g} {s:S}
def aKv (off:Nat):∀(l:List Value) (j0:Nat) (cs:Array Value),off+j0+l.length<=cs.size->
  ((l.zipIdx j0).foldl (λcs (c,j)=>cs.setIfInBounds (off+j) c) cs).size=cs.size/\
  ∀m,((l.zipIdx j0).foldl (λcs (c,j)=>cs.setIfInBounds (off+j) c) cs)[m]? =if off+j0<=m/\m<off+j0+l.length then l[m-(off+j0)]? else cs[m]?
 |[],j0,cs,_=>by simp;intro m;intro h1 h2;omega
 |v::l,j0,cs,h=>by
  simp only[aw] at h;have a:=aKv off l (j0+1) (cs.setIfInBounds (off+j0) v) (by simp;omega);simp only[fy,db];refine⟨by rw[a.1];simp,λm=> ?_⟩
  rw[a.2 m];by_cases h1:off+j0=m
  ·subst h1;rw[cG (by omega),cu (by simp)];simp[ig];omega
  ·rw[Array.getElem?_setIfInBounds_ne h1];by_cases h2:off+j0<=m/\m<off+j0+(l.length+1)
   ·rw[cu (by omega),cu (by simpa using h2),show m-(off+j0)=(m-(off+(j0+1)))+1 by omega,e9]
   ·rw[cG (by omega),cG (by simpa using h2)]
def aP0 (k:Nat):∀(vs:List Value) (i:Nat) (cs:Array Value),(∀v∈vs,v.cells.size=k)->(i+vs.length)*k<=cs.size->
  ∃res,Instr.fill (λi=>some (i*k,k)) cs (vs.zipIdx i|>.map λ(v,j)=>(j,v))=some res/\res.size=cs.size/\(∀m,m<i*k->res[m]? =cs[m]?)/\
   ∀(a j:Nat) (v:Value),vs[a]? =some v->j<k->res[(i+a)*k+j]? =v.cells[j]?
 |[],i,cs,_,_=>⟨cs,rfl,rfl,λ_ _=>rfl,by simp⟩
 |v::vs,i,cs,h,hl=>by
  have hv:=h v (by simp);simp only[aw] at hl;have h1:i*k+k<=cs.size:=by have:(i+1)*k<=(i+(vs.length+1))*k:=dt _ (by omega);rw[dp] at this;omega
  have b:=aKv (i*k) v.cells.toList 0 cs (by simpa[hv] using h1);obtain⟨res,n,p,e,q⟩:=aP0 k vs (i+1) (((v.cells.toList.zipIdx 0).foldl (λcs (c,j)=>cs.setIfInBounds (i*k+j) c) cs)) (λv hv=>h v (by simp[hv]))
   (by rw[b.1];rwa [show i+1+vs.length=i+(vs.length+1) by omega])
  refine⟨res,?_,by rw[p,b.1],λm hm=> ?_,λa j r d u=> ?_⟩
  ·simp only[fy,bw,Instr.fill,hv];rw[cG (by simp;omega)];rw[<-gu,gm];exact n
  ·rw[e m (by rw[dp];omega),b.2 m,cG (by omega)]
  ·cases a with
   |zero=>simp at d;subst d;simp only[dg];rw[e _ (by rw[dp];omega),b.2,cu (by simp[hv];omega)];simp
   |succ a=>have:=q a j r (by simpa using d) u;rwa [show i+1+a=i+(a+1) by omega] at this
def V.parts:V->List V
 | .agg cs=>cs
 |U=>[U]
inductive BL (E:Env P g) (s:S) (k:Nat):Nat->List (Nat×Operand)->List (List V)->Prop
 |n {i:Nat}:BL E s k i [] []
 |c {i:Nat} {x:Operand} {U:V} {xs:List (Nat×Operand)} {es:List (List V)} (h:Ev E s x U) (hk:U.parts.length=k) (h1:pI U.parts=true) (hp:U.plain=true) (hr:BL E s k (i+1) xs es):BL E s k i ((i,x)::xs) (U.parts::es)
def bUz {w:World}{X:Nat->Prop}{β:List Tr}{v:Value}{U:V}(h:Rd w X β v U)(h1:pI U.parts=true)(hp:U.plain=true):v.cells.size=U.parts.length/\∀(j:Nat) (u:Value) (c:V),v.cells[j]? =some u->U.parts[j]? =some c->Rd w X [] u c/\u.oneCell'=true:=by
 by_cases a:∃cs,U= .agg cs
 ·obtain⟨cs,rfl⟩:=a;obtain⟨vs,rfl,k2,k3⟩:=h.aAZ;exact⟨k2,λj u c h5 h6=>⟨(k3 j u c h5 h6).aBM (V.aBC (cs:=cs) (by simpa[V.plain] using hp) j c h6),(k3 j u c h5 h6).one (aYn h1 j c h6)⟩⟩
 ·have b:U.parts=[U]:=by cases U<;>first|rfl|simp_all
  rw[b] at h1 ⊢;have ho:U.one=true:=by grind[pI]
  rw[aCz (h.one ho)];refine⟨rfl,λj u c h5 h6=> ?_⟩;cases j with
  |zero=>simp at h5 h6;subst h5;subst h6;exact⟨h.aBM hp,h.one ho⟩
  |succ j=>simp at h5
def BL.spec {k i:Nat}{xs:List (Nat×Operand)}{es:List (List V)}(h:BL E s k i xs es){β:List Tr}{a:Act}{w:World}(r:RelB E s β a w):
  ∃vs:List Value,(xs.map λ(i,x)=>(i,a.eval x))=(vs.zipIdx i|>.map λ(v,j)=>(j,v))/\vs.length=es.length/\(∀v∈vs,v.cells.size=k)/\(∀e∈es,e.length=k)/\
   ∀(a j:Nat) (v:Value) (e:List V),vs[a]? =some v->es[a]? =some e->∀(u:Value) (c:V),v.cells[j]? =some u->e[j]? =some c->Rd w (E.X β) [] u c/\u.oneCell'=true:=by
 induction h with
 |n=>simp
 | @c i x U xs es h hk h1 hp hr d=>
  obtain⟨vs,p,q,A,B,D⟩:=d;have z:=bUz (h β a w r) h1 hp;refine⟨a.eval x::vs,by simp[fy,p],by simp[q],λv hv=> ?_,λe he=> ?_,λb j v e hb he u c=> ?_⟩
  all_goals grind
def bSw {t e k bts n:Nat}{xs:List (Nat×Operand)}{es:List (List V)}(ht:slB P t e k bts=true)(hn:es.length=n)(q:decide (n*k<=16777216)=true)(hb:BL E s k 0 xs es){β:List Tr}{a:Act}{w:World}(r:RelB E s β a w){o:Oper}(ho:o.op= .buildSlice t n xs.toArray):
  ∃cells:Array Value,(execOp a.eval o).run P w= .ok (.value (.slice (some ⟨w.heap.size,0,none⟩) n n)) (w.alloc (.cells cells e))/\cells.size=n*k/\(∀e∈es,e.length=k)/\
   ∀(i j:Nat) (e:List V) (d:V),es[i]? =some e->e[j]? =some d->∃v,cells[i*k+j]? =some v/\v.oneCell'=true/\Rd w (E.X β) [] v d:=by
 obtain⟨G,i,z,hi,T,H,I,J,K⟩:=fH ht;obtain⟨vs,W,Z,B,L,M⟩:=hb.spec r;have hz0:∃zc:Array Value,(if n*k=0 then(pure #[]:Sem (Array Value)) else do pure (<-zeroValue e).cells).run P w= .ok zc w:=by
  by_cases h:n*k=0
  all_goals simp_all[zeroValue,typeInfo]
 obtain⟨zc,b⟩:=hz0;obtain⟨res,r1,O,r3,Q⟩:=aP0 k vs 0 ((Array.range (n*k)).map (zc[·%zc.size]!)) B (by simp[*]);have D:=of_decide_eq_true q;refine⟨res,?_,by rw[O];simp,L,λi j e d h1 h2=> ?_⟩
 ·have hp:((xs.toArray.map λ(i,x)=>(i,a.eval x)):Array (Nat×Value)).toList=((vs.zipIdx 0).map λ(v,j)=>(j,v)):=by simp[*]
  simp only[execOp,ho,Instr.buildSlice,Sem.run_bind,run_underlying G,Result.andThen_ok];have hs:(sizeOf e).run P w= .ok k w:=by simp_all[sizeOf,typeInfo]
  simp only[hs,Result.andThen_ok];rw[cG (by omega)];by_cases h:n*k=0
  ·have p:zc= #[]:=by simp_all
   simp_all[newRow,Sem.run_bind,run_newObj,Sem.run_pure,Result.andThen_ok,gi]
  ·simp only[h,if_false,Sem.run_bind,Sem.run_pure] at b ⊢;have p:((zeroValue e).run P w).andThen (λa w'=>Result.ok a.cells w')= .ok zc w:=b;simp_all[Result.andThen_ok,newRow,Sem.run_bind,run_newObj,Sem.run_pure,Result.ok.injEq,and_true,zeroValue,typeInfo]
 ·have u:i<vs.length:=by grind
  have hv:vs[i]? =some vs[i]:=aa u;have A:j<k:=by grind
  have hc:=B vs[i] (ba hv);have hcell:(vs[i]).cells[j]? =some ((vs[i]).cells[j]'(by omega)):=cL _;obtain⟨k1,k2⟩:=M i j vs[i] e hv h1 _ d hcell h2;refine⟨_,?_,k2,k1⟩;have:=Q i j vs[i] hv A;rw[cl] at this;rw[this,hcell]
theorem bs {t e k bts n d:Nat}{xs:List (Nat×Operand)}{es:List (List V)}{t':List V}(ht:slB P t e k bts=true)(hn:es.length=n)(h:decide (n*k<=16777216)=true)(hb:BL E s k 0 xs es)(u:Upd s.t d (.slice k es) t'):
  SOp E s (.buildSlice t n xs.toArray) (some d) ⟨t',s.o⟩ true:=λβ a w r o ho hd=>by
 obtain⟨cells,h1,h2,h3,h4⟩:=bSw ht hn h hb r ho;have he:Ext w (w.alloc (.cells cells e)):=Ext.alloc _ _;have q:=of_decide_eq_true h;have b:=(fH ht).2;refine⟨_,_,β, .inl h1,(r.extend he).put ?_ u,λ_=>he⟩;have p:n<=maxLen:=by
  obtain⟨_,_,_,_,_,_,_,b⟩:=b;have:n*1<=n*k:=fj _ b
  grind[maxLen]
 cases es with
 |nil=>simp at hn;subst hn;exact .slice0 (by assumption)
 |cons e0 es'=>
  refine .slice (val:=λi j=>cells.getD (i*k+j) undef) hn.symm (by simp) (ao _) p (λz=>by have:=aBZ r _ z;grind) (by simp) h3 (λi j e d k1 k2=> ?_) (λi j e d k1 k2=> ?_)
  ·obtain⟨v,k3,_,_⟩:=h4 i j e d k1 k2;simp_all[ct,fT,cl,World.cell?_alloc_new]
  ·obtain⟨v,k3,_,k5⟩:=h4 i j e d k1 k2;simp only[ct,k3,cV];exact k5.ext he
mutual
def V.nr (i:Nat):V->Bool
 | .box j _=> !Nat.beq j i
 | .own j=> !Nat.beq j i
 | .oel j _=> !Nat.beq j i
 | .agg cs=>nrs i cs
 | .tup cs=>nrs i cs
 |_=>true
def nrs (i:Nat):List V->Bool
 |[]=>true
 |c::cs=>V.nr i c&&nrs i cs
end
theorem aX4 {i:Nat}{cs:List V}(h:nrs i cs=true):∀(j:Nat) (c:V),cs[j]? =some c->V.nr i c=true:=by induction cs<;>grind[nrs]
def nro (i:Nat):List Ob->Bool
 |[]=>true
 | .box _ cs::os=>nrs i cs&&nro i os
 | .row .. ::os=>nro i os
def bX8 {i:Nat}{os:List Ob}(h:nro i os=true):∀(j:Nat) (T:Nat) (cs:List V),os[j]? =some (.box T cs)->nrs i cs=true:=by
 induction os with
 |nil=>simp
 |cons x xs a=>intro j T cs hc;cases x<;>grind[nro]
def Rd.aCU {w w':World}{X X':Nat->Prop}{β:List Tr}{v:Value}{U:V}(h:Rd w X β v U){i:Nat}{t':Tr}(hsz:w.heap.size<=w'.heap.size)
  (hX:∀b,b<w.heap.size->X' b->X b) (hcell:∀(p:Addr) (u:Value),¬X p.block->w.cell? p=some u->w'.cell? p=some u):U.nr i=true->Rd w' X' (β.set i t') v U:=by
 have k:∀{j:Nat} {t:Tr} {l:List Tr},Nat.beq j i=false->l[j]? =some t->(l.set i t')[j]? =some t:=λ{j t l} n ht=>by
  rw[bg (by rintro rfl;simp at n)];exact ht
 induction h with
 |int h1 h2=>exact λ_=> .int h1 h2
 |bool=>exact λ_=> .bool
 |str h=>exact λ_=> .str h
 |slice0 h=>exact λ_=> .slice0 h
 |slice hn hpos hc hm a hb hk d hrd e=>exact λ_=>(Rd.slice (β:=[]) hn hpos hc hm a hb hk d hrd).conv hsz hX hcell (by simp)
 |nil=>exact λ_=> .nil
 |agg hl _ e=>exact λhp=> .agg hl (by grind[aX4,V.nr])
 |tup hl _ e=>exact λhp=> .tup hl (by grind[aX4,V.nr])
 |box h hb=>exact λhp=> .box (by grind[V.nr]) hb
 |elem a hb d hrd e=>exact λ_=>(Rd.elem (β:=[]) a hb d hrd).conv hsz hX hcell (by simp)
 |own h=>exact λhp=> .own (by grind[V.nr])
 |oel h hb=>exact λhp=> .oel (by grind[V.nr]) hb
 |und=>exact λ_=> .und
 |any=>exact λ_=> .any
def bG1 {w:World}{X:Nat->Prop}{β:List Tr}{v:Value}{k:Nat}{news:List (List V)}(h:Rd w X β v (.slice k news))(z:∀e∈news,pI e=true):
  ∃(A:Option Addr) (c:Nat) (xs:List Value),v= .slice A news.length c/\xs.length=news.length*k/\(news=[]\/∃a,A=some a/\∀j u,xs[j]? =some u->w.cell? (a.add j)=some u)/\(∀u∈xs,u.oneCell'=true)/\(∀e∈news,e.length=k)/\
   ∀(i j:Nat) (e:List V) (d:V),news[i]? =some e->e[j]? =some d->∃u,xs[i*k+j]? =some u/\Rd w X [] u d:=by
 cases h with
 |slice0=>simp
 | @slice _ a n c _ _ val hn hpos hc hm hX hb hk hcell hrd=>
  subst hn;have key:∀q,q<news.length*k->∃(e:List V) (d:V),news[q/k]? =some e/\e[q%k]? =some d/\q/k*k+q%k=q:=λq hq=>by
   have b:0<k:=by
    grind
   simp_all[aa,fa,fX,cx,Nat.mod_lt,Nat.div_lt_of_lt_mul]
  refine⟨some a,c,(List.range (news.length*k)).map (λq=>val (q/k) (q%k)),rfl,by simp, .inr ⟨a,rfl,λq u r=> ?_⟩,λu r=> ?_,hk,λi j e d h1 h2=> ?_⟩
  ·have hq:q<news.length*k:=by grind
   obtain⟨e,d,k1,k2,k3⟩:=key q hq;have:=hcell _ _ e d k1 k2;rw[k3] at this;simp[bq,df hq] at r;rw[this,r]
  ·obtain⟨q,hq⟩:=cQ.1 r;have p:q<news.length*k:=by grind
   obtain⟨e,d,k1,k2,k3⟩:=key q p;simp[bq,df p] at hq;rw[<-hq];exact(hrd _ _ e d k1 k2).one (by grind[aYn,List.mem_of_getElem?])
  ·have B:j<k:=by grind
   have hi:i<news.length:=(bf.1 h1).1;have hq:i*k+j<news.length*k:=by
    have:(i+1)*k<=news.length*k:=dt _ hi
    grind
   refine⟨val i j,?_,hrd i j e d h1 h2⟩;have b:0<k:=by omega
   rw[bq,df hq,da];rw[show(i*k+j)/k=i by rw[fa,Nat.mul_add_div b,Nat.div_eq_of_lt B,dg],show(i*k+j)%k=j by rw[fa,Nat.mul_add_mod,gE B]]
def aYo {w:World}{t ty e k bts:Nat}(ht:slB P t e k bts=true){v:Value}{n:Nat}{xs:List Value}(hown:w.ownsRow 0 e k v n xs){A:Option Addr}{m c:Nat}{news:List Value}(hl:news.length=m*k)
  (D:m=0\/∃a,A=some a/\∀j u,news[j]? =some u->w.cell? (a.add j)=some u) (h1:∀u∈news,u.oneCell'=true) (hm:n+m<=maxLen) (hb:(n+m)*bts<=140737488355328):
  ∃b w',(Builtin.append_ #[t,t] ty #[v, .slice A m c]).run P w= .ok b w'/\w'.ownsRow 0 e k b (n+m) (xs++news)/\w.grownBy w' v.ownBlock/\(b.ownBlock=v.ownBlock\/b.ownBlock=some w.heap.size):=by
 obtain⟨d,i,z,hi,G,h,p,q,r⟩:=fH ht;cases A with
 |some a=>
  have hc:∀j u,news[j]? =some u->w.cell? (a.add j)=some u:=by
   grind
  obtain⟨b,w',h2,h3,h4,_,h6⟩:=run_append_own_at (P:=P) w 0 t ty e i z k bts d hi G h p q r v n xs hown a m c news hl hc h1 hm hb (cm _)
  grind
 |none=>
  have h0:m=0:=by simp_all
  subst h0;have hn:news=[]:=(by grind);subst hn;refine⟨v,w,?_,by simpa using hown,⟨rfl,rfl,rfl,ao _,λ_ _ _=>rfl⟩, .inl rfl⟩
  rcases hown.2 with⟨rfl,rfl⟩|⟨H,cap,cur,rfl,_,_,B,_⟩
  ·simp[Builtin.append_,run_underlying d,sizeOf,typeInfo,hi,Builtin.lenOf,Builtin.firstCells]
  ·simp[Builtin.append_,run_underlying d,sizeOf,typeInfo,hi,Builtin.lenOf,Builtin.firstCells,B,storeCells]
def bLr {w:World}{e k n:Nat}{v:Value}{xs:List Value}(h:w.ownsRow 0 e k v n xs):∃t:Tr,t.val=v/\t.b=v.ownBlock:=by
 rcases h.2 with⟨rfl,_⟩|⟨a,cap,cur,rfl,_⟩
 ·exact⟨⟨none,0,0⟩,rfl,rfl⟩
 ·exact⟨⟨some a,n,cap⟩,rfl,rfl⟩
def bX9 {β:List Tr}{a:Act}{w:World}(r:RelB E s β a w){i T k bts t ty:Nat}{es news:List (List V)}{x:Value}{o':List Ob}{tr:Tr}(ht:slB P t T k bts=true)(hi:At s.o i (.row T k es))(hb:β[i]? =some tr)
  (L:∃β0:List Tr,Rd w (E.X β) β0 x (.slice k news)) (M:∀e∈news,pI e=true) (hsz:(es.length+news.length)*bts<=140737488355328) (hm:es.length+news.length<=maxLen)
  (hup:UpO s.o i (.row T k (es++news)) o') (I:(nrs i s.t&&nro i s.o)=true):
  ∃v' w' z,(Builtin.append_ #[t,t] ty #[tr.val,x]).run P w= .ok v' w'/\z.val=v'/\RelB E ⟨s.t,o'⟩ (β.set i z) a w'/\(β.set i z)[i]? =some z:=by
 obtain⟨β0,L⟩:=L;simp only[ab] at I;obtain⟨h1,h2,xs,h3,h4⟩:=r.objs i tr _ hb hi.get;obtain⟨A,c,ys,y1,y2,y3,y4,y5,y6⟩:=bG1 L M;subst y1;obtain⟨v',w',a1,a2,a3,a4⟩:=aYo (P:=P) (ty:=ty) ht h3 (A:=A) (c:=c) y2 (by
  simp[*]) y4 hm hsz
 obtain⟨z,t1,t2⟩:=bLr a2;have htv:tr.val.ownBlock=tr.b:=by cases h:tr.b<;>simp[Tr.val,Value.ownBlock,h]
 rw[htv] at a3 a4;rw[<-t2] at a4;have hil:i<β.length:=(bf.1 hb).1;have J:(β.set i z)[i]? =some z:=bm hil;have hX:∀b,b<w.heap.size->E.X (β.set i z) b->E.X β b:=by
  rintro b H (h|⟨u,O,B⟩)
  ·exact .inl h
  ·rcases iv O with O|O
   ·exact .inr ⟨u,O,B⟩
   ·subst O;rcases a4 with h|h
    ·exact .inr ⟨tr,ba hb,by rw[<-h];exact B⟩
    simp_all
 have hcell:∀(p:Addr) (u:Value),¬E.X β p.block->w.cell? p=some u->w'.cell? p=some u:=λp u hp hc=>by
  have H:=World.block_lt_of_cell? w p hc;rw[World.cell?_of_block (a3.block p.block H (λe=>hp (.inr ⟨tr,ba hb,e.symm⟩)))];exact hc
 have D:∀(j:Nat) (u:Tr),(β.set i z)[j]? =some u->(j=i/\u=z)\/(j≠i/\β[j]? =some u):=(by grind);have hnew:∀b,z.b=some b->E.w0.heap.size<=b/\b<w'.heap.size:=λb hb'=>by
  have H:b<w'.heap.size:=by have:=a2.lt b (by rw[<-t2];exact hb');exact this.2
  refine⟨?_,H⟩;rcases a4 with h|h
  ·rw[h] at hb';exact(r.new i tr b hb hb').1
  ·rw[h] at hb';injection hb' with hb';have:=r.ext.size;omega
 obtain⟨e1,e2⟩:=hup.eq;refine⟨v',w',z,a1,t1,{ext:= ?_,defers:=r.defers,tsz:=r.tsz,tmps:=λn U h=>(r.tmps n U h).aCU a3.size hX hcell (aX4 I.1 n U h),blen:=by rw[e1];simpa using r.blen,new:= ?_,dist:= ?_,objs:= ?_},J⟩
 ·refine⟨a3.os.trans r.ext.os,a3.tape.trans r.ext.tape,a3.output.trans r.ext.output,bo r.ext.size a3.size,λq hq=> ?_⟩;rw[a3.block q (ca hq r.ext.size) (λe=>by have:=(r.new i tr q hb e.symm).1;omega)];exact r.ext.block q hq
 ·intro j u b Q B;rcases D j u Q with⟨_,rfl⟩|⟨_,h⟩
  ·simp[*]
  ·exact⟨(r.new j u b h B).1,ca (r.new j u b h B).2 a3.size⟩
 ·intro j j' u u' b hjj Q hj' B W;have aux:∀(q:Nat) (x:Tr),q≠i->β[q]? =some x->x.b=some b->z.b=some b->False:=λq x hq L Z G=>by
   rcases a4 with h|h
   ·rw[h] at G;exact r.dist i q tr x b (Ne.symm hq) hb L G Z
   ·rw[h] at G;injection G with G;have:=(r.new q x b L Z).2;omega
  rcases D j u Q with⟨rfl,rfl⟩|⟨K,h⟩<;>rcases D j' u' hj' with⟨rfl,rfl⟩|⟨hne',h'⟩
  ·omega
  ·grind
  ·grind
  ·exact r.dist j j' u u' b hjj h h' B W
 ·intro j u o Q ho;simp only[e1] at ho;rcases D j u Q with⟨rfl,rfl⟩|⟨K,h⟩
  ·rw[bm e2] at ho;injection ho with ho;subst ho;refine⟨h1,λe he=> ?_,xs++ys,by rw[t1,az];exact a2,λq j' e d q1 q2=> ?_⟩
   ·grind
   ·by_cases hq:q<es.length
    ·rw[aq hq] at q1;obtain⟨v,k3,k4,k5⟩:=h4 q j' e d q1 q2;refine⟨v,?_,k4,k5.conv a3.size hX hcell (λ_ _ h=>by simp at h)⟩
     grind
    ·rw[ax (by omega)] at q1;obtain⟨v,k3,k5⟩:=y6 _ j' e d q1 q2;refine⟨v,?_,y4 v (ba k3),k5.conv a3.size hX hcell (λ_ _ h=>by simp at h)⟩;rw[ax (by rw[h3.1];have:es.length*k<=q*k:=dt _ (by omega);omega),h3.1];rw[show q*k+j'-es.length*k=(q-es.length)*k+j' by rw[Nat.sub_mul];have:es.length*k<=q*k:=dt _ (by omega);omega];exact k3
  ·rw[bg (Ne.symm K)] at ho;have hob:∀b,u.b=some b->w'.heap[b]? =w.heap[b]? :=λb B=>a3.block b (r.new j u b h B).2 (λe=>r.dist j i u tr b K h hb B e.symm);have hk:=r.objs j u o h ho;cases o with
   |box T' cs=>obtain⟨b,vs,k1,k2,k3,k4⟩:=hk;exact⟨b,vs,k1,by rw[hob b k1];exact k2,k3,λq v c q1 q2=>(k4 q v c q1 q2).aCU a3.size hX hcell (aX4 (bX8 I.2 j T' cs ho) q c q2)⟩
   |row T' k' es'=>have:=Ob.ok.conv (o:= .row T' k' es') hk a3.size hX hcell (β':=β) (λ_ _ h=>h) hob;exact this
def ap {A x:Operand}{i t T k bts d:Nat}{es news:List (List V)}{j t':List V}{B:List Ob}(n:Nat)(ht:slB P t T k bts=true)(p:A= .tmp n)(hn:At s.t n (.own i))(q:Upd s.t n .any j)(hi:At s.o i (.row T k es))(D:Ev E s x (.slice k news))(b:∀e∈news,pI e=true)
  (hsz:(es.length+news.length)*bts<=140737488355328) (hm:es.length+news.length<=maxLen) (u:UpO s.o i (.row T k (es++news)) B) (v:(nrs i j&&nro i s.o)=true) (G:Upd j d (.own i) t'):
  SOp E s (.call {callee:= .builtin .append,args:= #[A,x],argTypes:= #[t,t]}) (some d) ⟨t',B⟩ false:=λβ a w r o ho hd=>by
 subst p;obtain⟨tr,h1,h2⟩:=(r.tmps n _ hn.get).aBK;obtain⟨H,w',z,a1,a2,a3,a4⟩:=bX9 (P:=P) (r.drop q) (ty:=o.type) ht hi h1 ⟨β,D β a w r⟩ b hsz hm u v;refine⟨H,w',β.set i z, .inl ?_,a3.put (by rw[<-a2];exact .own a4) G,λh=>by cases h⟩
 have he:a.eval (.tmp n)=tr.val:=h2;simp_all[execOp,resolve,invoke,builtin,Sem.run_bind,Sem.run_pure,Result.andThen_ok,gS,bw,eL]
def no {ops:Array Oper}{l:List Oper}{F:S->Prop}{n T k m:Nat}{t':List V}{b:List Ob}(hk:decide (0<k)=true)(hv:At s.t n .nil)(hs:Sn s.o (.row T k []) m b)(d:Upd s.t n (.own m) t')(h:RF E ops l F ⟨t',b⟩):RF E ops l F s:=λQ e a w ⟨β,r⟩=>by
 have h0:=(r.tmps n _ hv.get).aBI;obtain⟨i,j⟩:=r.aBW (t:=⟨none,0,0⟩) hs (Ext.refl w) (by simp) ⟨of_decide_eq_true hk,by simp,[],World.ownsRow_nil w 0 T k,by simp⟩;have hn:n<a.tmps.size:=by rw[r.tsz];exact(bf.1 hv.get).1
 have hp:=i.put (v:=a.tmps.getD n undef) (by rw[h0];exact .own (t:=⟨none,0,0⟩) j) d;have p:a.put (some n) (a.tmps.getD n undef)=a:=by unfold Act.put;simp only;congr 1;rw[ct,cL hn];apply Array.ext';rw[Array.toList_setIfInBounds,<-Array.getElem_toList hn,cV,List.set_getElem_self]
 rw[p] at hp;exact h Q e a w ⟨_,hp⟩
inductive EvM (E:Env P g) (s:S):List Operand->List V->Prop
 |n:EvM E s [] []
 |c {x:Operand} {U U':V} {xs:List Operand} {Us:List V} (h:Ev E s x U) (hp:Cv s U U') (hr:EvM E s xs Us):EvM E s (x::xs) (U'::Us)
def wi {i:Nat}(h:i+1<9223372036854775808):V.int .i64 (IntKind.i64.wrap ((i:Int)+1))=V.int .i64 (((i+1:Nat):Int)):=by
 grind[IntKind.wrap_i64]
def b2s {x:Operand}{t e u:Nat}{ns:List Int}(ht:P.underlying t=some (.slice e))(he:P.underlying e=some (.int .u8))(D:P.underlying u=some .string)(hl:ns.length<=maxLen)
  (q:Ev E s x (.slice 1 (ns.map λn=>[V.int .u8 n]))):Kg E s (.convert t u x) (.str (ns.foldl (λr n=>r.push (UInt8.ofNat n.toNat)) ByteArray.empty)):=λβ a w r o ho=>by
 have h0:=q β a w r;have hsz:∀(ns:List Int) (s:ByteArray),(ns.foldl (λr n=>r.push (UInt8.ofNat n.toNat)) s).size=s.size+ns.length:=by intro ns;induction ns<;>grind[ByteArray.size_push,List.length_cons]
 refine⟨_,λw' z=> ?_, .str (by rw[hsz];simpa using hl)⟩;cases hv:a.eval x with
 |slice A n c=>
  rw[hv] at h0;cases ns with
  |nil=>
   have:n=0:=by obtain⟨G,H,h1,_,_⟩:=h0.aBA;simp_all
   subst this;cases A<;>simp_all[execOp,run_convert_bytes_string,Conv.bytesToString,run_bytesToString,loadCells,loadCellsFrom,fp]
  |cons n0 d=>
   generalize B:n0::d=ns at*;generalize h:(ns.map λn=>[V.int .u8 n])=es at h0;cases h0 with
   |slice0=>simp_all
   | @slice _ i _ _ _ _ val hn hpos hc hm hX hb hk hcell hrd=>
    subst h;have b:(loadCells i n).run P w'= .ok (ns.map (Value.int .u8)).toArray w':=by
     have hlen:(ns.map (Value.int .u8)).length=n:=by simp[*]
     rw[<-hlen];refine run_loadCells_list w' i _ (λj v p=> ?_);have k:j<ns.length:=by grind
     have h1:(ns.map λn=>[V.int .u8 n])[j]? =some [V.int .u8 ns[j]]:=by simp
     have h2:=hcell j 0 _ _ h1 rfl;have h3:=(hrd j 0 _ _ h1 rfl).aAR.1;rw[Nat.mul_one,dg] at h2;rw[z.cell h2,h3];simp[bq,aa k] at p;rw[p]
    have:=run_bytesToString (P:=P) w' i n c ns b;simp_all[execOp,run_convert_bytes_string]
 |_=>rw[hv] at h0;cases ns<;>cases h0
end Go.VK
namespace Go.VK
section
variable {α:Type} {a0 a1 a2 a3 a4 a5 a6 a7 a8 a9 b0 b1 b2 b3 b4 b5 b6 b7 b8 b9 c0 c1 c2 c3 c4 c5 c6 c7 c8 c9 f0 f1 f2 f3 f4 f5 f6 f7 f8 f9 g0 g1 g2 g3 g4 g5 g6 g7 g8 g9 h0 h1 h2 h3 h4 h5 h6 h7 h8 h9 i0 i1 i2 i3 i4 i5 i6 i7 i8 i9 j0 j1 j2 j3 j4 j5 j6 j7 j8 j9 l0 l1 l2 l3 l4 l5 l6 l7 l8 l9 m0 m1 m2 m3 m4 m5 m6 m7 m8 m9 x:α} {t:List α}
def n0:At (x::t) 0 x:= .z
theorem n1:At (a0::x::t) 1 x:= .s n0
theorem n2:At (a0::a1::x::t) 2 x:= .s n1
def n3:At (a0::a1::a2::x::t) 3 x:= .s n2
def n4:At (a0::a1::a2::a3::x::t) 4 x:= .s n3
theorem n5:At (a0::a1::a2::a3::a4::x::t) 5 x:= .s n4
end
section
variable {a0 a1 a2 a3 a4 a5 a6 a7 a8 a9 b0 b1 b2 b3 b4 b5 b6 b7 b8 b9 c0 c1 c2 c3 c4 c5 c6 c7 c8 c9 f0 f1 f2 f3 f4 f5 f6 f7 f8 f9 g0 g1 g2 g3 g4 g5 g6 g7 g8 g9 h0 h1 h2 h3 h4 h5 h6 h7 h8 h9 i0 i1 i2 i3 i4 i5 i6 i7 i8 i9 j0 j1 j2 j3 j4 j5 j6 j7 j8 j9 l0 l1 l2 l3 l4 l5 l6 l7 l8 l9 m0 m1 m2 m3 m4 m5 m6 m7 m8 m9 x y:V} {t:List V}
def u0:Upd (x::t) 0 y (y::t):= .z
def u1:Upd (a0::x::t) 1 y (a0::y::t):= .s u0
theorem u2:Upd (a0::a1::x::t) 2 y (a0::a1::y::t):= .s u1
def u3:Upd (a0::a1::a2::x::t) 3 y (a0::a1::a2::y::t):= .s u2
def u4:Upd (a0::a1::a2::a3::x::t) 4 y (a0::a1::a2::a3::y::t):= .s u3
def u5:Upd (a0::a1::a2::a3::a4::x::t) 5 y (a0::a1::a2::a3::a4::y::t):= .s u4
def u6:Upd (a0::a1::a2::a3::a4::a5::x::t) 6 y (a0::a1::a2::a3::a4::a5::y::t):= .s u5
def u7:Upd (a0::a1::a2::a3::a4::a5::a6::x::t) 7 y (a0::a1::a2::a3::a4::a5::a6::y::t):= .s u6
def u8:Upd (a0::a1::a2::a3::a4::a5::a6::a7::x::t) 8 y (a0::a1::a2::a3::a4::a5::a6::a7::y::t):= .s u7
theorem d0:Dr (t) 0 t:= .z
theorem d1:Dr (a0::t) 1 t:= .s d0
def d2:Dr (a0::a1::t) 2 t:= .s d1
theorem d3:Dr (a0::a1::a2::t) 3 t:= .s d2
def d4:Dr (a0::a1::a2::a3::t) 4 t:= .s d3
theorem d5:Dr (a0::a1::a2::a3::a4::t) 5 t:= .s d4
def d6:Dr (a0::a1::a2::a3::a4::a5::t) 6 t:= .s d5
theorem d7:Dr (a0::a1::a2::a3::a4::a5::a6::t) 7 t:= .s d6
def k0:Tk (t) 0 []:= .z
theorem k1:Tk (a0::t) 1 [a0]:= .s k0
theorem k2:Tk (a0::a1::t) 2 [a0,a1]:= .s k1
theorem k3:Tk (a0::a1::a2::t) 3 [a0,a1,a2]:= .s k2
theorem k4:Tk (a0::a1::a2::a3::t) 4 [a0,a1,a2,a3]:= .s k3
theorem k5:Tk (a0::a1::a2::a3::a4::t) 5 [a0,a1,a2,a3,a4]:= .s k4
theorem k6:Tk (a0::a1::a2::a3::a4::a5::t) 6 [a0,a1,a2,a3,a4,a5]:= .s k5
def k7:Tk (a0::a1::a2::a3::a4::a5::a6::t) 7 [a0,a1,a2,a3,a4,a5,a6]:= .s k6
def k8:Tk (a0::a1::a2::a3::a4::a5::a6::a7::t) 8 [a0,a1,a2,a3,a4,a5,a6,a7]:= .s k7
def k9:Tk (a0::a1::a2::a3::a4::a5::a6::a7::a8::t) 9 [a0,a1,a2,a3,a4,a5,a6,a7,a8]:= .s k8
end
section
variable {a0 a1 a2 a3 a4 a5 a6 a7 a8 a9 b0 b1 b2 b3 b4 b5 b6 b7 b8 b9 c0 c1 c2 c3 c4 c5 c6 c7 c8 c9 f0 f1 f2 f3 f4 f5 f6 f7 f8 f9 g0 g1 g2 g3 g4 g5 g6 g7 g8 g9 h0 h1 h2 h3 h4 h5 h6 h7 h8 h9 i0 i1 i2 i3 i4 i5 i6 i7 i8 i9 j0 j1 j2 j3 j4 j5 j6 j7 j8 j9 l0 l1 l2 l3 l4 l5 l6 l7 l8 l9 m0 m1 m2 m3 m4 m5 m6 m7 m8 m9 x y:Ob} {t:List Ob}
def s0:Sn [] x 0 [x]:= .z
def s1:Sn [a0] x 1 [a0,x]:= .s s0
def s2:Sn [a0,a1] x 2 [a0,a1,x]:= .s s1
def s3:Sn [a0,a1,a2] x 3 [a0,a1,a2,x]:= .s s2
def s4:Sn [a0,a1,a2,a3] x 4 [a0,a1,a2,a3,x]:= .s s3
def s5:Sn [a0,a1,a2,a3,a4] x 5 [a0,a1,a2,a3,a4,x]:= .s s4
def s6:Sn [a0,a1,a2,a3,a4,a5] x 6 [a0,a1,a2,a3,a4,a5,x]:= .s s5
theorem q0:UpO (x::t) 0 y (y::t):= .z
theorem q1:UpO (a0::x::t) 1 y (a0::y::t):= .s q0
theorem q2:UpO (a0::a1::x::t) 2 y (a0::a1::y::t):= .s q1
theorem q3:UpO (a0::a1::a2::x::t) 3 y (a0::a1::a2::y::t):= .s q2
theorem q4:UpO (a0::a1::a2::a3::x::t) 4 y (a0::a1::a2::a3::y::t):= .s q3
theorem q5:UpO (a0::a1::a2::a3::a4::x::t) 5 y (a0::a1::a2::a3::a4::y::t):= .s q4
theorem q6:UpO (a0::a1::a2::a3::a4::a5::x::t) 6 y (a0::a1::a2::a3::a4::a5::y::t):= .s q5
theorem q7:UpO (a0::a1::a2::a3::a4::a5::a6::x::t) 7 y (a0::a1::a2::a3::a4::a5::a6::y::t):= .s q6
theorem q8:UpO (a0::a1::a2::a3::a4::a5::a6::a7::x::t) 8 y (a0::a1::a2::a3::a4::a5::a6::a7::y::t):= .s q7
end
end Go.VK
namespace Go.VK
open Go.RowKit
def iV (n:Int):List V:=[.int .i64 n]
def bV (b:Bool):List V:=[.bool b]
def sV (s:ByteArray):List V:=[.str s]
def y8 (n:Int):List V:=[.int .u8 n]
def yV (n:UInt8):List V:=[.int .u8 n.toNat]
section
variable {P:Program} {g:GI} {E:Env P g} {s:S}
end
end Go.VK
namespace Go.VK
open Go.RowKit
theorem aI {n:Int}(h0: -9223372036854775808<=n)(h1:n<=9223372036854775807):IntKind.i64.wrap n=n:=by rw[IntKind.wrap_i64];omega
def bE (n a b:Int):Bool:=decide (a<=n)&&decide (n<=b)
theorem sG {n a b:Int}(h:bE n a b=true):a<=n/\n<=b:=by simpa[bE] using h
end Go.VK
namespace Go.VK
open Go.RowKit Go.WideShapes Go.ChangeShapes
variable {P:Program}
def bU0 (w:World)(cs:List Value)(a:List V):Prop:=
 cs.length=a.length/\∀(i:Nat) (v:Value) (c:V),cs[i]? =some v->a[i]? =some c->Rd w (λ_=>False) [] v c
def bH (P:Program)(t:TypeId)(α:Type)(f:α->List V):Prop:=
 ∀(w:World) (H:Type) (enc:TypeId×Value->H) (sp:Nat->Bool) (b:Bool) (fuel:Nat) (cs:List Value) (x:DataW H×List MemPlace),
  DataW.trod enc P w 0 sp b fuel t cs=some x->∃a:α,bU0 w cs (f a)
def bSx {w:World}{v:Value}{c:V}(h:Rd w (λ_=>False) [] v c):bU0 w [v] [c]:=
 ⟨rfl,λi a b h1 h2=>by
  cases i with
  |zero=>simp at h1 h2;subst h1;subst h2;exact h
  |succ i=>simp at h1⟩
def cAu {t:TypeId}(ht:P.underlying t=some (.int .i64)):bH P t Int iV:=by intro w H enc sp b fuel cs x h;obtain⟨n,rfl,_,a⟩:=DataW.trod_int ht h;simp only[Lit.wf,ab,cg] at a;exact⟨n,bSx (.int a.1 a.2)⟩
def cC0 {t:TypeId}(ht:P.underlying t=some (.int .u8)):bH P t Int y8:=by intro w H enc sp b fuel cs x h;obtain⟨n,rfl,_,a⟩:=DataW.trod_int ht h;simp only[Lit.wf,ab,cg] at a;exact⟨n,bSx (.int a.1 a.2)⟩
def bYa {t:TypeId}(ht:P.underlying t=some .bool):bH P t Bool bV:=by intro w H enc sp a fuel cs x h;obtain⟨b,rfl,_⟩:=DataW.trod_bool ht h;exact⟨b,bSx .bool⟩
def cAv {t:TypeId}(ht:P.underlying t=some .string):bH P t ByteArray sV:=by intro w H enc sp a fuel cs x h;obtain⟨s,rfl,_,hs⟩:=DataW.trod_string ht h;exact⟨s,bSx (.str hs)⟩
def choice {α:Type}{p:Nat->α->Prop}:∀(n:Nat),(∀i,i<n->∃a,p i a)->∃l:List α,l.length=n/\∀i a,l[i]? =some a->p i a
 |0,_=>⟨[],rfl,by simp⟩
 |n+1,h=>by
  obtain⟨l,h1,h2⟩:=choice n (λi hi=>h i (by omega));obtain⟨a,d⟩:=h n (by omega);refine⟨l++[a],by simp[h1],λi b hb=> ?_⟩;by_cases hi:i<n
  ·rw[aq (by omega)] at hb;exact h2 i b hb
  ·rw[ax (by omega)] at hb;have:i=n:=by have:=(bf.1 hb).1;simp at this;omega
   subst this;simp[h1] at hb;subst hb;exact d
def bU1 {w:World}{a:Addr}{n:Nat}{cs:List Value}(h:w.cells? 0 a n=some cs):cs.length=n/\∀j v,cs[j]? =some v->w.cell? (a.add j)=some v:=by
 unfold World.cells? at h;rw[cu (cm _)] at h;have hl:cs.length=n:=by simpa using mapM_some_length h
 refine⟨hl,λj v hv=> ?_⟩;have b:j<n:=by rw[<-hl];exact(bf.1 hv).1
 rw[<-hv];exact mapM_some_get h j j (by simp[b])
def iC {t e k:Nat}{α:Type}{f:α->List V}(ht:P.underlying t=some (.slice e))(hk:P.cellsOf e=k)(h0:0<k)(u:∀a,(f a).length=k)(h:bH P e α f):
  bH P t (List α) (λl=>[.slice k (l.map f)]):=by
 intro w H enc sp q fuel cs x z;rcases DataW.trod_slice ht z with⟨rfl,_⟩|⟨a,len,cap,elems,rest,n,_,rfl,_,_,h3,h4,h5,h6,_,_⟩
 ·exact⟨[],bSx (.slice0 (cm _))⟩
 ·have hc:∀i,i<len->∃b:α,∃cs,w.cells? 0 (a.add (i*k)) k=some cs/\bU0 w cs (f b):=by intro i hi;have:=h6 i hi;rw[hk,aa (by omega)] at this;obtain⟨cs,h7,h8⟩:=Option.bind_eq_some_iff.1 this;obtain⟨b,hb⟩:=h w H enc sp q n cs _ h8;exact⟨b,cs,h7,hb⟩
  obtain⟨l,hl,hp⟩:=choice len hc;refine⟨l,bSx ?_⟩;cases hlen:len with
  |zero=>have:l=[]:=cj (by omega);subst this;exact .slice0 h4
  |succ m=>
   have r:∀(i:Nat) (e:List V),(l.map f)[i]? =some e->∃b,e=f b/\∃cs,w.cells? 0 (a.add (i*k)) k=some cs/\bU0 w cs (f b):=by intro i e he;rw[bq] at he;obtain⟨b,hb,rfl⟩:=dx.1 he;exact⟨b,rfl,hp i b hb⟩
   have hcell:∀(i j:Nat) (e:List V) (d:V),(l.map f)[i]? =some e->e[j]? =some d->∃v,w.cell? (a.add (i*k+j))=some v/\Rd w (λ_=>False) [] v d:=by
    intro i j e d he hd;obtain⟨b,rfl,cs,h7,h8,h9⟩:=r i e he;obtain⟨c1,c2⟩:=bU1 h7;have A:j<cs.length:=by rw[h8];exact(bf.1 hd).1
    have hv:cs[j]? =some cs[j]:=aa A;refine⟨cs[j],?_,h9 j _ d hv hd⟩;rw[<-Addr.add_add];exact c2 j _ hv
   have p:a.block<w.heap.size:=by obtain⟨b,cs,h7,_⟩:=hc 0 (by omega);have:=World.cells?_block h7 h0;rwa [show(a.add (0*k)).block=a.block by unfold Addr.add;split<;>rfl] at this
   refine .slice (val:=λi j=>(w.cell? (a.add (i*k+j))).getD undef) (by simp[hl,hlen]) (by simp;omega) (by omega) h4 (λh=>h) p
    (λe he=>by obtain⟨b,_,rfl⟩:=cz.1 he;exact u b) (λi j e d he hd=> ?_) (λi j e d he hd=> ?_)
   ·obtain⟨v,h7,_⟩:=hcell i j e d he hd;rw[h7];rfl
   ·obtain⟨v,h7,h8⟩:=hcell i j e d he hd;rw[h7];exact h8
def aC1 (P:Program)(fs:List Field)(off n:Nat)(α:Type)(f:α->List V):Prop:=
 ∀(w:World) (H:Type) (enc:TypeId×Value->H) (sp:Nat->Bool) (b:Bool) (fuel:Nat) (cs:List Value),cs.length=off+n->
  (∀(i:Nat) (d:Field),fs[i]? =some d->∃y,DataW.trod enc P w 0 sp b fuel d.type ((cs.drop d.offset).take (P.cellsOf d.type))=some y)->∃a:α,bU0 w (cs.drop off) (f a)
def jE {off:Nat}:aC1 P [] off 0 Unit (λ_=>[]):=by intro w H enc sp a fuel cs hl _;refine⟨(),by simp[hl],λi v c _ h2=>by simp at h2⟩
def aP {e:Field}{fs:List Field}{off k n:Nat}{α β:Type}{f:α->List V}{g:β->List V}(h:bH P e.type α f)(ho:e.offset=off)(hk:P.cellsOf e.type=k)(hr:aC1 P fs (off+k) n β g):
  aC1 P (e::fs) off (k+n) (α×β) (λp=>f p.1++g p.2):=by
 intro w H enc sp d fuel cs hl u;obtain⟨y,h1⟩:=u 0 e rfl;rw[ho,hk] at h1;obtain⟨a,z⟩:=h w H enc sp d fuel _ _ h1;obtain⟨b,hb⟩:=hr w H enc sp d fuel cs (by omega) (λi j hi=>u (i+1) j (by simpa using hi));have q:=z.1;have r:=hb.1;simp only[cb,cr,hl] at q r;have A:(f a).length=k:=by omega
 refine⟨(a,b),by simp[hl];omega,λi v c h2 h3=> ?_⟩;replace h3:(f a++g b)[i]? =some c:=h3;by_cases hi:i<k
 ·refine z.2 i v c ?_ (by rw[aq (by omega)] at h3;exact h3);rw[eV,cu hi];exact h2
 ·refine hb.2 (i-k) v c ?_ (by rw[ax (by omega),A] at h3;exact h3);rw[eW] at h2 ⊢;rw[<-h2];congr 1;omega
def dP {t n:Nat}{fs:List Field}{α β:Type}{f:α->List V}{g:β->List V}(ht:P.underlying t=some (.struct fs.toArray))(hn:P.cellsOf t=n)(h:aC1 P fs 0 n α f)(m:α->β)(hm:∀a,g (m a)=f a):bH P t β g:=by
 intro w H enc sp b fuel cs x k;obtain⟨xs,p,_,_,h3,h4,h5⟩:=DataW.trod_struct ht k;obtain⟨a,q⟩:=h w H enc sp b p cs (by rw[h3,hn];omega) (λi j hi=>by
  have d:fs.toArray[i]? =some j:=by simpa using hi
  have h6:=h5 i j d;have e:i<xs.length:=by rw[h4];exact(bz.1 d).1
  exact⟨_,h6.trans (aa e)⟩)
 refine⟨m a,?_⟩;rw[hm];simpa using q
def bOo {H:Type}{enc:TypeId×Value->H}{t:TypeId}{fs:Array Field}{α:Type}{f:α->List V}(hd:bH P t α f)(ht:P.underlying t=some (.struct fs)){W:World}{base:Nat}{sp:Nat->Bool}{b:Bool}{v:Value}{d:DataW H}{p:List MemPlace}
  (hv:Value.okWide P W .any base t v) (h:DataW.Trod enc P W 0 sp b t v d p):∃a,Rd W (λ_=>False) [] v (.agg (f a)):=by
 unfold Value.okWide at hv;rw[ht] at hv;obtain⟨cs,rfl,_,_⟩:=hv;obtain⟨fuel,e⟩:=h;obtain⟨a,h1,h2⟩:=hd W H enc sp b fuel _ _ e;refine⟨a, .agg (by simpa[Value.cells] using h1) (λi v c h3 h4=>h2 i v c (by simpa[Value.cells] using h3) h4)⟩
def bSy {H:Type}{enc:TypeId×Value->H}{t e:TypeId}{α:Type}{g:α->V}(hd:bH P t α (λa=>[g a]))(ht:P.underlying t=some (.slice e)){W:World}{base:Nat}{sp:Nat->Bool}{i:Bool}{v:Value}{d:DataW H}{p:List MemPlace}
  (hv:Value.okWide P W .any base t v) (h:DataW.Trod enc P W 0 sp i t v d p):∃a,Rd W (λ_=>False) [] v (g a):=by
 obtain⟨b,len,cap,rfl⟩:=okWide_slice ht hv;obtain⟨fuel,j⟩:=h;obtain⟨a,h1,h2⟩:=hd W H enc sp i fuel _ _ j;exact⟨a,h2 0 _ _ rfl rfl⟩
def bYb {H:Type}{enc:TypeId×Value->H}{t:TypeId}(ht:P.underlying t=some (.int .i64)){W:World}{base:Nat}{sp:Nat->Bool}{b:Bool}{v:Value}{d:DataW H}{p:List MemPlace}
  (hv:Value.okWide P W .any base t v) (h:DataW.Trod enc P W 0 sp b t v d p):∃n:Int,Rd W (λ_=>False) [] v (.int .i64 n):=by
 obtain⟨n,rfl,rfl,rfl,a⟩:=open_int ht hv h;simp only[Lit.wf,ab,cg] at a;exact⟨n, .int a.1 a.2⟩
end Go.VK
namespace Go.VK
open Go.RowKit
def qY (sep:ByteArray)(l:List ByteArray):ByteArray:=⟨(Lib.join (l.map (·.data.toList)) sep.data.toList).toArray⟩
def bYc (sep x:ByteArray):qY sep [x]=x:=by unfold qY;simp[Lib.join_one]
def bYd (sep y:ByteArray)(l:List ByteArray)(h:l≠[]):qY sep (l++[y])=qY sep l++sep++y:=by
 cases l with
 |nil=>exact absurd rfl h
 |cons x r=>unfold qY;apply ByteArray.ext;simp only[cH,bw,Lib.join_cons,cE,eL,Lib.joinTail,dn,ByteArray.data_append];apply ia.1;simp
theorem Kq (x:ByteArray):x.size=x.data.toList.length:=(cT).symm
def bSz {P:Program}{g:GI}{F:FuncId}(G:∀args w,(callFunc F args).run P w= .ok (.enter F args) w)
  (H:∀(bk o c:Nat) (xs:List ByteArray) (sep:ByteArray) (w:World),(∀(j:Nat) x,xs[j]? =some x->w.cell? ⟨bk,o+j,none⟩=some (.string x))->bk<w.heap.size->xs.length<=140737488355328->xs.length<=c->(Lib.join (xs.map (·.data.toList)) sep.data.toList).length<=140737488355328->
   Calls P F #[.slice (some ⟨bk,o,none⟩) xs.length c, .string sep] w λe w'=>e= .returned (.string ⟨(Lib.join (xs.map (·.data.toList)) sep.data.toList).toArray⟩)/\Below w.heap.size w w')
  (l:List ByteArray) (sep:ByteArray) (h0:l≠[]) (hsz:(qY sep l).size<=140737488355328) (z:l.length<=140737488355328):Spec P g F [.slice 1 (l.map sV), .str sep] (λr=>r= .str (qY sep l)):=by
 refine⟨G,λw X0 vs M I d=> ?_⟩;obtain⟨v,u,rfl⟩:∃v u,vs=[v,u]:=by
  match vs,d.1 with
  |[v,u],_=>exact⟨v,u,rfl⟩
 have J:=(d.2 1 u _ rfl rfl).aAT;obtain⟨rfl,K⟩:=J;have hv:=d.2 0 v _ rfl rfl;generalize i:l.map sV=es at hv;cases hv with
 |slice0 h=>exact absurd (List.map_eq_nil_iff.1 i) h0
 | @slice _ a n c k es val hn hpos hc hm hX hb hk hcell hrd=>
  subst i;simp only[bn] at hn;subst hn;have p:∀(j:Nat) x,l[j]? =some x->w.cell? (a.add j)=some (.string x):=by
   intro j x A;have B:(l.map sV)[j]? =some [V.str x]:=by simp[A,sV]
   have D:=hcell j 0 _ _ B rfl;obtain⟨L,_⟩:=(hrd j 0 _ _ B rfl).aAT;rw[L] at D;simpa using D
  obtain⟨b,o,sp⟩:=a;have hsp:sp=none:=by
   cases l with
   |nil=>exact absurd rfl h0
   |cons x r=>have:=p 0 x rfl;rw[show(⟨b,o,sp⟩:Addr).add 0=⟨b,o,sp⟩ by simp[Addr.add]] at this;exact Proofs.cell_spot this
  subst hsp;refine(H b o c l sep w (λj x A=> ?_) hb z hc (by rw[Kq] at hsz;exact hsz)).mono ?_
  ·rw[<-p j x A];congr 1;unfold Addr.add;split<;>simp_all
  ·rintro e w' ⟨rfl,q⟩;exact⟨_,_,rfl,rfl, .str (by unfold maxLen;unfold qY at hsz;omega),q⟩
def bQ (p q:Int):Int:=if 1<=q/\q<=1000000000000 then p%q else 0
theorem bU2 {p q:Int}(h:¬(1<=q/\q<=1000000000000)):bQ p q=0:=cG h
def nL {p q:Int}(h:1<=q): -q<p.tmod q/\p.tmod q<q/\p%q=(p.tmod q)%q:=by
 have h1:p.tmod q+q*p.tdiv q=p:=Int.tmod_add_mul_tdiv p q;refine⟨?_,?_,?_⟩
 ·have:=Int.lt_tmod_of_pos p (show 0<q by omega);exact this
 ·exact gr p (by omega)
 ·conv=>lhs;rw[<-h1]
  exact Int.add_mul_emod_self_left _ _ _
def cAw {p q:Int}(h:1<=q/\q<=1000000000000)(ht:p.tmod q<0):bQ p q=p.tmod q+q:=by obtain⟨h1,h2,h3⟩:=nL (p:=p) h.1;rw[bQ,cu h,h3,<-Int.add_emod_right,Int.emod_eq_of_lt (by omega) (by omega)]
theorem cAx {p q:Int}(h:1<=q/\q<=1000000000000)(ht:¬p.tmod q<0):bQ p q=p.tmod q:=by obtain⟨h1,h2,h3⟩:=nL (p:=p) h.1;rw[bQ,cu h,h3,Int.emod_eq_of_lt (by omega) (by omega)]
theorem cAy {p q:Int}(h:1<=q/\q<=1000000000000):(IntKind.i64.wrap (p.tmod q+q)).tmod q=bQ p q:=by obtain⟨h1,h2,h3⟩:=nL (p:=p) h.1;rw[aI (by omega) (by omega),bv (by omega),Int.add_emod_right,bQ,cu h,h3]
theorem lS {p q:Int}(h:1<=q/\q<=1000000000000):0<=bQ p q/\bQ p q<q:=by rw[bQ,cu h];exact⟨Int.emod_nonneg _ (by omega),Int.emod_lt_of_pos _ (by omega)⟩
def hstep (h v:Int):Int:=(IntKind.i64.wrap (IntKind.i64.wrap (IntKind.i64.wrap (h*1000003)+bQ v 2147483647)+13)).tmod 2147483647
def Yd (l:List Int):Int:=l.foldl hstep 11
def bN (k:Int)(l:List Int):Int:=Yd ([k]++[l,[k]].flatten)
variable {P:Program} {g:GI} {E:Env P g} {s:S}
def mn2 {x y:Operand}{k:IntKind}{a b:Int}{ats:Array TypeId}(e:Ev E s x (.int k a))(h:Ev E s y (.int k b)):Kg E s (.call {callee:= .builtin .min,args:= #[x,y],argTypes:=ats}) (.int k (if b<a then b else a)):=λβ c w d op ho=>by
 have h1:=(e β c w d).aAR;have h2:=(h β c w d).aAR;refine⟨.int k (if b<a then b else a),λw' _=>by simp[execOp,ho,resolve,invoke,builtin,h1.1,h2.1,Builtin.min_,Builtin.min2],?_⟩;split
 ·exact .int h2.2.1 h2.2.2
 ·exact .int h1.2.1 h1.2.2
def mx2 {x y:Operand}{k:IntKind}{a b:Int}{ats:Array TypeId}(e:Ev E s x (.int k a))(h:Ev E s y (.int k b)):Kg E s (.call {callee:= .builtin .max,args:= #[x,y],argTypes:=ats}) (.int k (if b>a then b else a)):=λβ c w d op ho=>by
 have h1:=(e β c w d).aAR;have h2:=(h β c w d).aAR;refine⟨.int k (if b>a then b else a),λw' _=>by simp[execOp,ho,resolve,invoke,builtin,h1.1,h2.1,Builtin.max_,Builtin.max2],?_⟩;split
 ·exact .int h2.2.1 h2.2.2
 ·exact .int h1.2.1 h1.2.2
def bK (z:ByteArray):List Int:=z.data.toList.map λb=>(b.toNat:Int)
def bQp {d:Nat}{xs ys:Array Value}{w:World}:(Op.eqFields d xs ys []).run P w= .ok true w:=rfl
def aKw {t off:Nat}{xs:Array Value}{a:Value}{w:World}(h1:J7 P t=true)(b:xs[off]? =some a):(part t xs off).run P w= .ok a w:=by have h2:=(wM (w:=w) h1).1;simp[part,h2,b]
def bU3 {d:Nat}{xs ys:Array Value}{w:World}{f:Field}{fs:List Field}{a b:Value}{r q:Bool}(hn:(f.name != "_")=true)(h1:J7 P f.type=true)(ha:xs[f.offset]? =some a)(hb:ys[f.offset]? =some b)
  (he:(Op.equalIn d f.type a b).run P w= .ok r w) (hq:(Op.eqFields d xs ys fs).run P w= .ok q w):(Op.eqFields d xs ys (f::fs)).run P w= .ok (r&&q) w:=by
 simp only[Op.eqFields];rw[cu (by simpa using hn)];simp only[Sem.run_bind,aKw h1 ha,aKw h1 hb,Result.andThen_ok,he];cases r with
 |false=>simp
 |true=>simpa using hq
end Go.VK
namespace Go.VK
open Go.RowKit
section
variable {α β σ τ:Type}
def gd (c:Prop)[Decidable c](x:Option α):Option α:=if c then x else none
def bd (x:Option α)(f:α->Option β):Option β:=match x with|none=>none|some a=>f a
def nx (x:Option (α⊕β))(f:β->Option α):Option α:=match x with|none=>none|some (.inl a)=>some a|some (.inr b)=>f b
def nk (q:α⊕β)(f:β->Option α)(o:α):Prop:=match q with| .inl a=>a=o| .inr b=>f b=some o
def aN (l:List α)(i:Int):Option α:=if 0<=i then l[i.toNat]? else none
def aO (a b:List α):Prop:=a.length+b.length<=68719476736
instance (a b:List α):Decidable (aO a b):=inferInstanceAs (Decidable (_<=_))
def bQq:∃n:Nat,2^70<=n:=⟨_,ao _⟩
noncomputable def FUEL:Nat:=Classical.choose bQq
theorem fA:1180591620717411303424<=FUEL:=Classical.choose_spec bQq
def kM {c:Prop}[Decidable c]{x:Option α}{r:α}(h:gd c x=some r):c/\x=some r:=by
 grind[gd]
def jN {x:Option α}{f:α->Option β}{r:β}(h:bd x f=some r):∃a,x=some a/\f a=some r:=by
 cases x with
 |none=>cases h
 |some a=>exact⟨a,rfl,h⟩
def bYe {x:Option (α⊕β)}{f:β->Option α}{o:α}(h:nx x f=some o):∃q,x=some q/\nk q f o:=by
 match x,h with
 |some (.inl a),h=>exact⟨_,rfl,ak h⟩
 |some (.inr b),h=>exact⟨_,rfl,h⟩
def b1 {q:β}{f:β->Option α}{o:α}{b:β}(h:some b=some q)(hq:f q=some o):f b=some o:=by simp_all
def J9 {l:List α}{i:Int}{x:α}(h:aN l i=some x):0<=i/\l[i.toNat]? =some x:=by
 grind[aN]
end
variable {P:Program} {g:GI} {E:Env P g} {s:S}
variable {N:S->Prop} {X:Nat->S->Prop} {R:S->Prop}
section
variable {σ τ:Type} {o:τ}
end
mutual
inductive Nz:V->V->Prop
 |r {U:V}:Nz U U
 |n {k:Nat}:Nz .nil (.slice k [])
 |a {cs ds:List V} (h:NzL cs ds):Nz (.agg cs) (.agg ds)
inductive NzL:List V->List V->Prop
 |n:NzL [] []
 |c {x y:V} {xs ys:List V} (h:Nz x y) (hr:NzL xs ys):NzL (x::xs) (y::ys)
end
mutual
def Nz.rd {w:World}{Y:Nat->Prop}{β:List Tr}:∀{U U':V},Nz U U'->∀{v:Value},Rd w Y β v U->Rd w Y β v U'
 |_,_, .r,_,h=>h
 |_,_, .n,_,h=>by rw[h.aBI];exact .slice0 (cm _)
 |_,_, .a hl,_,h=>by
  obtain⟨vs,rfl,h2,h3⟩:=h.aAZ;have hh:=NzL.rd (w:=w) (Y:=Y) (β:=β) hl;exact .agg (h2.trans hh.1) (λi v d h5 h6=>hh.2 i v d h6 (λc hc=>h3 i v c h5 hc))
def NzL.rd {w:World}{Y:Nat->Prop}{β:List Tr}:∀{cs ds:List V},NzL cs ds->cs.length=ds.length/\∀(i:Nat) (v:Value) (d:V),ds[i]? =some d->(∀c,cs[i]? =some c->Rd w Y β v c)->Rd w Y β v d
 |_,_, .n=>⟨rfl,by simp⟩
 |_,_, .c h hr=>by
  have ih:=NzL.rd (w:=w) (Y:=Y) (β:=β) hr;refine⟨by simp[ih.1],λi v d h5 h6=> ?_⟩;cases i with
  |zero=>simp at h5;subst h5;exact h.rd (h6 _ rfl)
  |succ i=>exact ih.2 i v d (by simpa using h5) (λc hc=>h6 c (by simpa using hc))
end
def nz {x:Operand}{U U':V}(h:Ev E s x U)(c:Nz U U'):Ev E s x U':=λβ a w r=>c.rd (h β a w r)
section
variable {α:Type} {l:List α} {f:α->List V} {c:α} {m:Int}
def ixq {x y:Operand}{t e k b:Nat}{a:IntKind}(hm:aN l m=some c)(ht:slB P t e k b=true)(d:Ev E s x (.slice k (l.map f)))(h:Ev E s y (.int a m)):Kg E s (.indexAddr t x y) (.elem (f c)):=
 ixm ht (J9 hm).1 (J9 hm).2 d h
def Qu (n:Int):Prop:=0<=n/\n<=68719476736
instance (n:Int):Decidable (Qu n):=inferInstanceAs (Decidable (_/\_))
def gI (l:List α)(n:Int):Prop:=0<=n/\n.toNat<=l.length
instance (l:List α) (n:Int):Decidable (gI l n):=inferInstanceAs (Decidable (_/\_))
theorem Rd.sub {w:World}{Y:Nat->Prop}{β:List Tr}{A:Option Addr}{n c k a b:Nat}{es:List (List V)}(hr:Rd w Y β (.slice A n c) (.slice k es))(r:a<=b)(hb:b<=es.length):
  Rd w Y β (.slice (if c=a then A else A.map λq=>q.add (a*k)) (b-a) (c-a)) (.slice k ((es.take b).drop a)):=by
 have hlen:((es.take b).drop a).length=b-a:=by simp;omega
 rcases Nat.eq_zero_or_pos (b-a) with h0|h0
 ·have:(es.take b).drop a=[]:=(by grind);rw[this,h0];obtain⟨u,v,h1,h2,h3⟩:=hr.aBA;injection h1 with h1 h4 h5;exact .slice0 (by omega)
 ·cases hr with
  |slice0=>simp_all
  | @slice _ z _ _ _ _ val hn hpos hc hm hX h hk hcell hrd=>
   rw[cG (by omega)];have p:∀(i:Nat) (e:List V),((es.take b).drop a)[i]? =some e->es[a+i]? =some e:=by
    grind
   refine .slice (val:=λi j=>val (a+i) j) hlen.symm (by omega) (by omega) (by omega) (by grind[add_block]) (by grind[add_block]) (by grind[List.mem_of_mem_take,List.mem_of_mem_drop]) (λi j e d h1 h2=> ?_) (by grind)
   grind[add_add',Nat.add_mul]
def Fe (k:IntKind)(x y:Int):Int:=k.wrap ((BitVec.ofInt k.bits x&&&BitVec.ofInt k.bits y).toNat:Nat)
def orI (k:IntKind)(x y:Int):Int:=k.wrap ((BitVec.ofInt k.bits x|||BitVec.ofInt k.bits y).toNat:Nat)
def bU4 (k:IntKind)(x y:Int):Int:=k.wrap ((BitVec.ofInt k.bits x^^^BitVec.ofInt k.bits y).toNat:Nat)
def aKx (k:IntKind)(x y:Int):Int:=k.wrap (x*2^(min y.toNat k.bits))
def aHr (k:IntKind)(x y:Int):Int:=x.fdiv (2^(min y.toNat k.bits))
theorem cAz {x y:Operand}{k:IntKind}{m n:Int}{t u:TypeId}(b:Ev E s x (.int k m))(d:Ev E s y (.int k n)):Kg E s (.binOp .and t x y u) (.int k (Fe k m n)):=λβ a w r o ho=>
 ⟨_,λw' _=>by simp[execOp,ho,(b β a w r).aAR.1,(d β a w r).aAR.1,eqGuard_at_int,binOp_and,Op.intBits,Fe], .int (dF _ _).1 (dF _ _).2⟩
theorem cC1 {x y:Operand}{k:IntKind}{m n:Int}{t u:TypeId}(b:Ev E s x (.int k m))(d:Ev E s y (.int k n)):Kg E s (.binOp .or t x y u) (.int k (orI k m n)):=λβ a w r o ho=>
 ⟨_,λw' _=>by simp[execOp,ho,(b β a w r).aAR.1,(d β a w r).aAR.1,eqGuard_at_int,binOp_or,Op.intBits,orI], .int (dF _ _).1 (dF _ _).2⟩
theorem cA0 {x y:Operand}{k:IntKind}{m n:Int}{t u:TypeId}(b:Ev E s x (.int k m))(d:Ev E s y (.int k n)):Kg E s (.binOp .xor t x y u) (.int k (bU4 k m n)):=λβ a w r o ho=>
 ⟨_,λw' _=>by simp[execOp,ho,(b β a w r).aAR.1,(d β a w r).aAR.1,eqGuard_at_int,binOp_xor,Op.intBits,bU4], .int (dF _ _).1 (dF _ _).2⟩
def cEr {x y:Operand}{k j:IntKind}{m n:Int}{t u:TypeId}(h0:0<=n)(b:Ev E s x (.int k m))(d:Ev E s y (.int j n)):Kg E s (.binOp .shl t x y u) (.int k (aKx k m n)):=λβ a w r o ho=>
 ⟨_,λw' _=>by simp[execOp,ho,(b β a w r).aAR.1,(d β a w r).aAR.1,eqGuard_at_int,binOp_shl,Op.shift,aKx,show ¬n<0 by omega], .int (dF _ _).1 (dF _ _).2⟩
def cEs {x y:Operand}{k j:IntKind}{m n:Int}{t u:TypeId}(h0:0<=n)(e:Ev E s x (.int k m))(i:Ev E s y (.int j n)):Kg E s (.binOp .shr t x y u) (.int k (aHr k m n)):=λβ a w r o ho=>
 have hm:=(e β a w r).aAR;have hd:(0:Int)<2^(min n.toNat k.bits):=Int.pow_pos (by decide);have b:k.min<=0:=by cases k<;>decide
 have d:0<=k.max:=by cases k<;>decide
 ⟨.int k (aHr k m n),λw' _=>by simp[execOp,ho,(e β a w r).aAR.1,(i β a w r).aAR.1,eqGuard_at_int,binOp_shr,Op.shift,aHr,show ¬n<0 by omega],by
  unfold aHr;rw[fq _ (Int.le_of_lt hd)];refine .int ?_ ?_
  ·rcases Int.le_total 0 m with h|h
   ·exact fW b (Int.ediv_nonneg h (Int.le_of_lt hd))
   ·refine fW hm.2.1 ?_;rw[Int.le_ediv_iff_mul_le hd];have h1:(1:Int)<=2^(min n.toNat k.bits):=hd;have:=Int.mul_le_mul_of_nonpos_left h h1;simpa using this
  ·rcases Int.le_total 0 m with h|h
   ·exact fW (Int.ediv_le_self _ h) hm.2.2
   ·refine fW ?_ d;exact Int.ediv_le_of_le_mul hd (by simpa using h)⟩
def bS0 {w:World}{Y:Nat->Prop}{β:List Tr}{v:Value}{U:V}(h:Rd w Y β v U)(h1:pI U.parts=true):v.cells.size=U.parts.length/\∀(j:Nat) (u:Value) (c:V),v.cells[j]? =some u->U.parts[j]? =some c->Rd w Y β u c:=by
 by_cases a:∃cs,U= .agg cs
 ·obtain⟨cs,rfl⟩:=a;obtain⟨vs,rfl,k2,k3⟩:=h.aAZ;exact⟨k2,λj u c h5 h6=>k3 j u c h5 h6⟩
 ·have b:U.parts=[U]:=by cases U<;>first|rfl|exact absurd ⟨_,rfl⟩ a
  rw[b] at h1 ⊢;have ho:U.one=true:=by simpa[pI] using h1
  rw[aCz (h.one ho)];refine⟨rfl,λj u c h5 h6=> ?_⟩;cases j with
  |zero=>simp at h5 h6;subst h5;subst h6;exact h
  |succ j=>simp at h5
inductive BP (E:Env P g) (s:S) (pls:List (Nat×Nat)):List (Nat×Operand)->List V->List V->Prop
 |n {cs:List V}:BP E s pls [] cs cs
 |c {i:Nat} {x:Operand} {U:V} {xs:List (Nat×Operand)} {cs cs1 ds:List V} {off sz:Nat} (h:Ev E s x U) (hpl:At pls i (off,sz)) (hsz:U.parts.length=sz) (h1:pI U.parts=true) (hsp:Sp cs off U.parts cs1) (hr:BP E s pls xs cs1 ds):BP E s pls ((i,x)::xs) cs ds
def BP.spec {pls:List (Nat×Nat)}{xs:List (Nat×Operand)}{cs ds:List V}(h:BP E s pls xs cs ds){β:List Tr}{a:Act}{w:World}(r:RelB E s β a w):
  ∀cells:Array Value,cells.size=cs.length->(∀(j:Nat) (v:Value) (c:V),cells[j]? =some v->cs[j]? =some c->Rd w (E.X β) β v c)->
  ∃res,Instr.fill (λi=>pls.toArray[i]?) cells (xs.map λ(i,x)=>(i,a.eval x))=some res/\res.size=ds.length/\∀(j:Nat) (v:Value) (c:V),res[j]? =some v->ds[j]? =some c->Rd w (E.X β) β v c:=by
 induction h with
 |n=>exact λcells h1 h2=>⟨cells,rfl,h1,h2⟩
 | @c i x U xs cs cs1 ds off sz h hpl hsz h1 hsp hr k=>
  intro cells hs hrd;have hp:=bS0 (h β a w r) h1;obtain⟨B,p,q⟩:=hsp.spec;have e:=aKv off (a.eval x).cells.toList 0 cells (by simp[hp.1];omega);obtain⟨res,u,z,A⟩:=k ((((a.eval x).cells.toList.zipIdx 0).foldl (λcs (b,j)=>cs.setIfInBounds (off+j) b) cells)) (by rw[e.1,hs,p]) (λj v b h5 h6=>by
   rw[e.2] at h5;rw[q] at h6;simp only[dg,cT,hp.1] at h5;split at h5
   ·rename_i d;rw[cu d] at h6;exact hp.2 _ v b (by simpa using h5) h6
   ·rename_i d;rw[cG d] at h6;exact hrd j v b h5 h6)
  refine⟨res,?_,z,A⟩;simp only[bw,Instr.fill];have hg:pls.toArray[i]? =some (off,sz):=by simpa using hpl.get
  rw[hg];simp only;rw[cG (by simp[hp.1,hsz,hs];omega)];rw[<-gu,gm];exact u
def bJi (P:Program):List Field->Option (List (Nat×Nat))
 |[]=>some []
 |f::fs=>match P.info? f.type,bJi P fs with|some i,some l=>some ((f.offset,i.size)::l)|_,_=>none
def aYp (P:Program)(t:TypeId):Option (List (Nat×Nat)):=match P.underlying t with|some (.struct fs)=>bJi P fs.toList|_=>none
def aYq {w:World}:∀{fs:List Field} {l:List (Nat×Nat)},bJi P fs=some l->(fs.mapM λf=>(Prod.mk f.offset<$>sizeOf f.type:Sem (Nat×Nat))).run P w= .ok l w
 |[],l,h=>by simp[bJi] at h;subst h;rfl
 |f::fs,l,h=>by
  simp only[bJi] at h;cases hi:P.info? f.type with
  |none=>simp[hi] at h
  |some i=>
   cases hl:bJi P fs with
   |none=>simp[hi,hl] at h
   |some l'=>
    simp[hi,hl] at h;subst h;have a:=aYq (w:=w) hl;simp only[ip,Sem.run_bind];have e:(sizeOf f.type).run P w= .ok i.size w:=by simp[sizeOf,typeInfo,hi]
    simp only[Sem.run_map,e,Result.andThen_ok,Sem.run_pure,a]
def bld {t:TypeId}{xs:List (Nat×Operand)}{pls:List (Nat×Nat)}{p ds:List V}(q:aX3 P t=some p)(hp:aYp P t=some pls)(hb:BP E s pls xs p ds):Kg E s (.build t xs.toArray) (.agg ds):=λβ a w r o ho=>by
 obtain⟨i,z,hi,e,hzs⟩:=aKt q;have b:=bJf (w:=w) (X:=E.X β) (β:=β) hzs;obtain⟨res,u,A,B⟩:=hb.spec r z.cells (by simpa using b.1) (λj v c h5 h6=>(b.2 j v c (by simpa using h5) h6).1);refine⟨.agg res,λw' _=> ?_, .agg A B⟩;unfold aYp at hp;cases h:P.underlying t with
 |none=>simp[h] at hp
 |some d=>
  cases d<;>simp[h] at hp;rename_i fs;have hm:=aYq (w:=w') hp;have k:(fs.mapM λf=>(Prod.mk f.offset<$>sizeOf f.type:Sem (Nat×Nat))).run P w'= .ok pls.toArray w':=by
   rw[<-Array.toArray_toList (xs:=fs),List.mapM_toArray];simp only[Sem.run_map,hm,Result.andThen_ok]
   try rfl
  have D:((xs.toArray.map λ(x:Nat×Operand)=>(x.1,a.eval x.2))).toList=xs.map λ(i,x)=>(i,a.eval x):=by simp
  simp[execOp,ho,Instr.build,zeroValue,typeInfo,hi,e,run_underlying h,k];have n:Instr.fill (λi=>pls[i]?) z.cells (xs.map λx=>(x.1,a.eval x.2))=some res:=by simpa using u
  simp[n]
def bS1 (P:Program)(t f ft off:Nat):Bool:=match P.underlying t with|some (.struct fs)=>(match fs[f]? with|some a=>a.type==ft&&a.offset==off|none=>false)|_=>false
def bQr {t f ft off:Nat}{w:World}{vs:Array Value}(h:bS1 P t f ft off=true):(Instr.field t (.agg vs) f).run P w=(part ft vs off).run P w:=by
 unfold bS1 at h;cases a:P.underlying t with
 |none=>simp[a] at h
 |some d=>
  cases d<;>simp[a] at h;rename_i fs;cases b:fs[f]? with
  |none=>simp[b] at h
  |some e=>simp[b] at h;obtain⟨rfl,rfl⟩:=h;simp[Instr.field,run_underlying a,b,asAgg]
def fld1 {x:Operand}{t f ft off:Nat}{cs:List V}{U:V}(d:bS1 P t f ft off=true)(ht:J7 P ft=true)(hc:At cs off U)(e:Ev E s x (.agg cs)):Kg E s (.field t x f) U:=λβ a w r o ho=>by
 obtain⟨vs,h1,h2,h3⟩:=(e β a w r).aAZ;have b:off<vs.size:=by rw[h2];exact(bf.1 hc.get).1
 refine⟨vs[off],λw' _=> ?_,h3 off _ U (cL b) hc.get⟩;simp[execOp,ho,h1,bQr d,aKw (w:=w') ht (cL b)]
def cA1 {z:ByteArray}{n:Nat}{c:Int}(h:(bK z)[n]? =some c):∃b,z[n]? =some b/\c=(b.toNat:Int):=by
 unfold bK at h;rw[bq] at h;obtain⟨b,hb,rfl⟩:=dx.1 h;refine⟨b,?_,rfl⟩;obtain⟨a,hb⟩:=bf.1 hb;have d:n<z.size:=by rw[cT] at a;exact a
 rw[getElem?_pos z n d];rw[<-hb];rfl
def cEt {x y:Operand}{t:TypeId}{z:ByteArray}{d:IntKind}{m c:Int}(hm:aN (bK z) m=some c)(ht:P.underlying t=some .string)(e:Ev E s x (.str z))(h:Ev E s y (.int d m)):Kg E s (.index t x y) (.int .u8 c):=λβ a w r o ho=>by
 obtain⟨h0,h1⟩:=J9 hm;obtain⟨b,hb,rfl⟩:=cA1 h1;have i:=b.toNat_lt;refine⟨_,λw' _=> ?_, .int (gt _) (show((b.toNat:Nat):Int)<=255 by omega)⟩;simp[execOp,ho,(e β a w r).aAT.1,(h β a w r).aAR.1,Instr.index,asIntOf,run_underlying ht,h0,hb]
def pV (z:ByteArray)(l h:Int):Prop:=0<=l/\l<=h/\h<=(z.size:Int)
instance (z:ByteArray) (l h:Int):Decidable (pV z l h):=inferInstanceAs (Decidable (_/\_))
def ext_size (z:ByteArray)(l h:Nat):(z.extract l h).size<=z.size:=by rw[ByteArray.size_extract];omega
def cEu {x y q:Operand}{t:TypeId}{z:ByteArray}{b d:IntKind}{m n:Int}(hm:pV z m n)(ht:P.underlying t=some .string)(e:Ev E s x (.str z))(h:Ev E s y (.int b m))(hq:Ev E s q (.int d n)):Kg E s (.slice t x (some y) (some q) none) (.str (z.extract m.toNat n.toNat)):=λβ a w r o ho=>by
 obtain⟨h0,h1,h2⟩:=hm;obtain⟨g1,g2⟩:=(e β a w r).aAT;refine⟨_,λw' _=> ?_, .str (bo (ext_size z m.toNat n.toNat) g2)⟩;have i:(0<=n/\n<=(z.size:Int)):=⟨by omega,h2⟩;have j:(0<=m/\m<=((n.toNat:Nat):Int)):=⟨h0,by omega⟩;simp[execOp,ho,g1,(h β a w r).aAR.1,(hq β a w r).aAR.1,Instr.sliceAt,Instr.slice,run_underlying ht,Instr.sliceBounds,Instr.sliceBound,asIntOf,i,j]
 try (intro k;exfalso;omega)
def cEv {x q:Operand}{t:TypeId}{z:ByteArray}{b:IntKind}{n:Int}(hm:pV z 0 n)(ht:P.underlying t=some .string)(d:Ev E s x (.str z))(hq:Ev E s q (.int b n)):Kg E s (.slice t x none (some q) none) (.str (z.extract 0 n.toNat)):=λβ a w r o ho=>by
 obtain⟨h0,h1,h2⟩:=hm;obtain⟨g1,g2⟩:=(d β a w r).aAT;refine⟨_,λw' _=> ?_, .str (bo (ext_size z 0 n.toNat) g2)⟩;have e:(0<=n/\n<=(z.size:Int)):=⟨by omega,h2⟩;simp[execOp,ho,g1,(hq β a w r).aAR.1,Instr.sliceAt,Instr.slice,run_underlying ht,Instr.sliceBounds,Instr.sliceBound,asIntOf,e]
def cEw {x y:Operand}{t:TypeId}{z:ByteArray}{b:IntKind}{m:Int}(hm:pV z m z.size)(ht:P.underlying t=some .string)(d:Ev E s x (.str z))(e:Ev E s y (.int b m)):Kg E s (.slice t x (some y) none none) (.str (z.extract m.toNat z.size)):=λβ a w r o ho=>by
 obtain⟨h0,h1,h2⟩:=hm;obtain⟨g1,g2⟩:=(d β a w r).aAT;refine⟨_,λw' _=> ?_, .str (bo (ext_size z m.toNat z.size) g2)⟩;have h:(0<=m/\m<=(z.size:Int)):=⟨h0,h1⟩;simp[execOp,ho,g1,(e β a w r).aAR.1,Instr.sliceAt,Instr.slice,run_underlying ht,Instr.sliceBounds,Instr.sliceBound,asIntOf,h]
section
variable {F:S->Prop}
variable {a0:Option Nat}
end
end
end Go.VK
namespace Go.VK
section
variable {α β σ τ:Type}
@[simp] theorem bd_s {a:α} {f:α->Option β}:bd (some a) f=f a:=rfl
@[simp] theorem bd_n {f:α->Option β}:bd none f=none:=rfl
@[simp] theorem nx_l {a:α} {f:β->Option α}:nx (some (.inl a)) f=some a:=rfl
@[simp] theorem nx_r {b:β} {f:β->Option α}:nx (some (.inr b)) f=f b:=rfl
@[simp] theorem nx_n {f:β->Option α}:nx none f=none:=rfl
theorem aA {c:Prop}[Decidable c]{x:Option α}(h:c):gd c x=x:=cu h
@[simp] theorem gd_T {x:Option α}:gd True x=x:=rfl
def cA2 {b:Bool}{x y:Option α}{f:α->Option β}:bd (bif b then x else y) f=bif b then bd x f else bd y f:=by cases b<;>rfl
@[simp] theorem bd_bb {b:Bool} {x y:α} {f:α->Option β}:bd (bif b then some x else some y) f=f (bif b then x else y):=by cases b<;>rfl
@[simp] theorem bif_and {a b:Bool}:(bif a then b else false)=(a&&b):=by cases a<;>rfl
@[simp] theorem bif_or {a b:Bool}:(bif a then true else b)=(a||b):=by cases a<;>rfl
@[simp] theorem bif_some {a:Bool} {x y:α}:(bif a then some x else some y)=some (bif a then x else y):=by cases a<;>rfl
def cFo {x:Option α}:bd x (λa=>some a)=x:=by cases x<;>rfl
theorem aD {l:List α}{i:Nat}(h:i<l.length):aN l (i:Int)=some l[i]:=by unfold aN;rw[cu (gt _),ci,aa h]
theorem jO {l:List α}{i:Int}(h0:0<=i)(h:i.toNat<l.length):aN l i=some l[i.toNat]:=by unfold aN;rw[cu h0,aa h]
def jP (p:α->Bool):Nat->List α->Int
 |_,[]=> -1
 |i,x::xs=>bif p x then(i:Int) else jP p (i+1) xs
def aYr {p:α->Bool}:∀{i:Nat} {l:List α},0<=jP p i l->(i:Int)<=jP p i l/\jP p i l<i+l.length
 |i,[],h=>by simp[jP] at h
 |i,x::xs,h=>by
  simp only[jP] at h ⊢;cases hp:p x with
  |true=>simp;omega
  |false=>rw[hp] at h;have:=aYr (i:=i+1) (l:=xs) (by simpa using h);simp only[aw,ac];omega
def dR (p:Nat->α->Bool):Nat->List α->Bool
 |_,[]=>false
 |i,x::xs=>p i x||dR p (i+1) xs
def Wm {p:α->Bool}:∀{l:List α} {s:List α},l.foldl (λs x=>bif p x then s++[x] else s) s=s++l.filter p
 |[],s=>by simp
 |x::xs,s=>by
  simp only[db,hH];cases p x<;>simp[Wm]
def aDd (y:Nat->α->List β):Nat->List α->List β
 |_,[]=>[]
 |i,x::xs=>y i x++aDd y (i+1) xs
end
def kT (z sep:ByteArray):List ByteArray:=Lib.splitB sep 0 (Lib.countB z sep) z
def VLs.x2 {ρ:List Nat}{so:List Ob}{u0 u1:V}{xs ys:List V}(h:VLs ρ so xs ys):VLs ρ so (u0::u1::xs) (.any:: .any::ys):= .c .a (.c .a h)
end Go.VK
