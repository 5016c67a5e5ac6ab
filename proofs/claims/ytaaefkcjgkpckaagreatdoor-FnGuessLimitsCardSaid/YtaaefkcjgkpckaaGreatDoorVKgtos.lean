import Derived.Test.YtaaefkcjgkpckaaGreatDoorVKatof
import Derived.Laws.BytesString
import Derived.Lib.LaidTab
import Derived.BarOnce
import Derived.Lib.ItoaMem
import Derived.Lib.ItoaLen
import Derived.Sort.Grow
import Derived.Carry
import Derived.ChangeArms
import Derived.DataElems
import Derived.DataReads
import Derived.ChangeOld
import Derived.WideShapes
import Derived.ChangeShapes
import Derived.Lib.LaidU8
import Derived.Lib.Join
import Derived.Lib.ConvBytes
import Derived.Laws.AppendOwn
import Derived.Laws.StructEq
import Derived.Lib.Split
/-
  THE VALUE KIT, seventh part: literals, make, append, stores into the walk's own slices; calls that are handed such slices. Theorems over any program; the conditions stand in each.
-/
set_option linter.unusedVariables false
namespace Go.VK
open Go.RowKit
variable {P:Program} {g:GI} {E:Env P g} {s:S}
theorem Ws (off:Nat):∀(l:List Value) (j0:Nat) (cs:Array Value),off+j0+l.length≤cs.size→
  ((l.zipIdx j0).foldl (fun cs (c,j)=>cs.setIfInBounds (off+j) c) cs).size=cs.size∧
  ∀m,((l.zipIdx j0).foldl (fun cs (c,j)=>cs.setIfInBounds (off+j) c) cs)[m]? =if off+j0≤m∧m<off+j0+l.length then l[m-(off+j0)]? else cs[m]?
 |[],j0,cs,_=>by simp;intro m;intro h1 h2;omega
 |v::l,j0,cs,h=>by
  simp only[List.length_cons] at h
  have ih:=Ws off l (j0+1) (cs.setIfInBounds (off+j0) v) (by simp;omega)
  simp only[List.zipIdx_cons,List.foldl_cons]
  refine⟨by rw[ih.1];simp,fun m=> ?_⟩
  rw[ih.2 m]
  by_cases h1:off+j0=m
  ·subst h1
   rw[if_neg (by omega),if_pos (by simp)]
   simp[Array.getElem?_setIfInBounds];omega
  ·rw[Array.getElem?_setIfInBounds_ne h1]
   by_cases h2:off+j0≤m∧m<off+j0+(l.length+1)
   ·rw[if_pos (by omega),if_pos (by simpa using h2),show m-(off+j0)=(m-(off+(j0+1)))+1 by omega,List.getElem?_cons_succ]
   ·rw[if_neg (by omega),if_neg (by simpa using h2)]
theorem O4 (k:Nat):∀(vs:List Value) (i:Nat) (cs:Array Value),(∀v∈vs,v.cells.size=k)→(i+vs.length)*k≤cs.size→
  ∃res,Instr.fill (fun i=>some (i*k,k)) cs (vs.zipIdx i|>.map fun(v,j)=>(j,v))=some res∧res.size=cs.size∧(∀m,m<i*k→res[m]? =cs[m]?)∧
   ∀(a j:Nat) (v:Value),vs[a]? =some v→j<k→res[(i+a)*k+j]? =v.cells[j]?
 |[],i,cs,_,_=>⟨cs,rfl,rfl,fun _ _=>rfl,by simp⟩
 |v::vs,i,cs,h,hl=>by
  have hv:=h v (by simp)
  simp only[List.length_cons] at hl
  have h1:i*k+k≤cs.size:=by
   have:(i+1)*k≤(i+(vs.length+1))*k:=Nat.mul_le_mul_right _ (by omega)
   rw[Nat.add_mul] at this;omega
  have hf:=Ws (i*k) v.cells.toList 0 cs (by simpa[hv] using h1)
  obtain⟨res,r1,r2,r3,r4⟩:=O4 k vs (i+1) (((v.cells.toList.zipIdx 0).foldl (fun cs (c,j)=>cs.setIfInBounds (i*k+j) c) cs)) (fun v hv=>h v (by simp[hv]))
   (by rw[hf.1];rwa [show i+1+vs.length=i+(vs.length+1) by omega])
  refine⟨res,?_,by rw[r2,hf.1],fun m hm=> ?_,fun a j v' ha hj=> ?_⟩
  ·simp only[List.zipIdx_cons,List.map_cons,Instr.fill,hv]
   rw[if_neg (by simp;omega)]
   rw[←Array.foldl_toList,Array.toList_zipIdx]
   exact r1
  ·rw[r3 m (by rw[Nat.add_mul];omega),hf.2 m,if_neg (by omega)]
  ·cases a with
   |zero=>
    simp at ha;subst ha
    simp only[Nat.add_zero]
    rw[r3 _ (by rw[Nat.add_mul];omega),hf.2,if_pos (by simp[hv];omega)]
    simp
   |succ a=>
    have:=r4 a j v' (by simpa using ha) hj
    rwa [show i+1+a=i+(a+1) by omega] at this
def V.parts:V→List V
 | .agg cs=>cs
 |U=>[U]
inductive BL (E:Env P g) (s:S) (k:Nat):Nat→List (Nat×Operand)→List (List V)→Prop
 |n {i:Nat}:BL E s k i [] []
 |c {i:Nat} {x:Operand} {U:V} {xs:List (Nat×Operand)} {es:List (List V)} (h:Ev E s x U) (hk:U.parts.length=k) (h1:dB U.parts=true) (hp:U.plain=true) (hr:BL E s k (i+1) xs es):BL E s k i ((i,x)::xs) (U.parts::es)
theorem aYu {w:World}{X:Nat→Prop}{β:List Tr}{v:Value}{U:V}(h:Rd w X β v U)(h1:dB U.parts=true)(hp:U.plain=true):v.cells.size=U.parts.length∧∀(j:Nat) (u:Value) (c:V),v.cells[j]? =some u→U.parts[j]? =some c→Rd w X [] u c∧u.oneCell'=true:=by
 by_cases hA:∃cs,U= .agg cs
 ·obtain⟨cs,rfl⟩:=hA
  obtain⟨vs,rfl,k2,k3⟩:=h.aAY
  exact⟨k2,fun j u c h5 h6=>⟨(k3 j u c h5 h6).aBP (V.aBB (cs:=cs) (by simpa[V.plain] using hp) j c h6),(k3 j u c h5 h6).one (aE1 h1 j c h6)⟩⟩
 ·have hU:U.parts=[U]:=by cases U<;>first|rfl|exact absurd ⟨_,rfl⟩ hA
  rw[hU] at h1 ⊢
  have ho:U.one=true:=by simpa[dB] using h1
  rw[Mx (h.one ho)]
  refine⟨rfl,fun j u c h5 h6=> ?_⟩
  cases j with
  |zero=>simp at h5 h6;subst h5;subst h6;exact⟨h.aBP hp,h.one ho⟩
  |succ j=>simp at h5
theorem BL.spec {k i:Nat}{xs:List (Nat×Operand)}{es:List (List V)}(h:BL E s k i xs es){β:List Tr}{a:Act}{w:World}(r:RelB E s β a w):
  ∃vs:List Value,(xs.map fun(i,x)=>(i,a.eval x))=(vs.zipIdx i|>.map fun(v,j)=>(j,v))∧vs.length=es.length∧(∀v∈vs,v.cells.size=k)∧(∀e∈es,e.length=k)∧
   ∀(a j:Nat) (v:Value) (e:List V),vs[a]? =some v→es[a]? =some e→∀(u:Value) (c:V),v.cells[j]? =some u→e[j]? =some c→Rd w (E.X β) [] u c∧u.oneCell'=true:=by
 induction h with
 |n=>exact⟨[],rfl,rfl,by simp,by simp,by simp⟩
 | @c i x U xs es h hk h1 hp hr ih=>
  obtain⟨vs,e1,e2,e3,e4,e5⟩:=ih
  have hpr:=aYu (h β a w r) h1 hp
  refine⟨a.eval x::vs,by simp[List.zipIdx_cons,e1],by simp[e2],fun v hv=> ?_,fun e he=> ?_,fun b j v e hb he u c=> ?_⟩
  ·rcases List.mem_cons.1 hv with rfl|hv
   ·rw[hpr.1,hk]
   ·exact e3 v hv
  ·rcases List.mem_cons.1 he with rfl|he
   ·exact hk
   ·exact e4 e he
  ·cases b with
   |zero=>simp at hb he;subst hb;subst he;exact hpr.2 j u c
   |succ b=>exact e5 b j v e (by simpa using hb) (by simpa using he) u c
theorem aWc {t e k bts n:Nat}{xs:List (Nat×Operand)}{es:List (List V)}(ht:slB P t e k bts=true)(hn:es.length=n)(h24:decide (n*k≤16777216)=true)(hb:BL E s k 0 xs es){β:List Tr}{a:Act}{w:World}(r:RelB E s β a w){o:Oper}(ho:o.op= .buildSlice t n xs.toArray):
  ∃cells:Array Value,(execOp a.eval o).run P w= .ok (.value (.slice (some ⟨w.heap.size,0,none⟩) n n)) (w.alloc (.cells cells e))∧cells.size=n*k∧(∀e∈es,e.length=k)∧
   ∀(i j:Nat) (e:List V) (d:V),es[i]? =some e→e[j]? =some d→∃v,cells[i*k+j]? =some v∧v.oneCell'=true∧Rd w (E.X β) [] v d:=by
 obtain⟨hu,i,z,hi,hz,hik,hib,hzk,hk0⟩:=eD ht
 obtain⟨vs,e1,e2,e3,e4,e5⟩:=hb.spec r
 have hz0:∃zc:Array Value,(if n*k=0 then(pure #[]:Sem (Array Value)) else do pure (←zeroValue e).cells).run P w= .ok zc w:=by
  by_cases h:n*k=0
  ·exact⟨#[],by simp[h]⟩
  ·exact⟨z.cells,by simp[h,zeroValue,typeInfo,hi,hz]⟩
 obtain⟨zc,hzc⟩:=hz0
 obtain⟨res,r1,r2,r3,r4⟩:=O4 k vs 0 ((Array.range (n*k)).map (zc[·%zc.size]!)) e3 (by simp[e2,hn])
 have h24':=of_decide_eq_true h24
 refine⟨res,?_,by rw[r2];simp,e4,fun i j e d h1 h2=> ?_⟩
 ·have hp:((xs.toArray.map fun(i,x)=>(i,a.eval x)):Array (Nat×Value)).toList=((vs.zipIdx 0).map fun(v,j)=>(j,v)):=by
   rw[←e1];simp
  simp only[execOp,ho,Instr.buildSlice,Sem.run_bind,run_underlying hu,Result.andThen_ok]
  have hs:(sizeOf e).run P w= .ok k w:=by simp[sizeOf,typeInfo,hi,hik]
  simp only[hs,Result.andThen_ok]
  rw[if_neg (by omega)]
  by_cases h:n*k=0
  ·have hzc':zc= #[]:=by simp[h] at hzc;exact hzc
   subst hzc'
   simp only[h,if_true,Sem.run_bind,Sem.run_pure,Result.andThen_ok]
   rw[h] at r1
   simp only[hp,r1,newRow,Sem.run_bind,run_newObj,Sem.run_pure,Result.andThen_ok]
   rfl
  ·simp only[h,if_false,Sem.run_bind,Sem.run_pure] at hzc ⊢
   have hzc':((zeroValue e).run P w).andThen (fun a w'=>Result.ok a.cells w')= .ok zc w:=hzc
   have hz2:(zeroValue e).run P w= .ok z w:=by simp[zeroValue,typeInfo,hi,hz]
   rw[hz2] at hzc'
   simp only[Result.andThen_ok,Result.ok.injEq,and_true] at hzc'
   simp only[hz2,Result.andThen_ok,hzc',hp,r1,newRow,Sem.run_bind,run_newObj,Sem.run_pure]
   rfl
 ·have hlt:i<vs.length:=by rw[e2];exact(List.getElem?_eq_some_iff.1 h1).1
  have hv:vs[i]? =some vs[i]:=List.getElem?_eq_getElem hlt
  have hjk:j<k:=by rw[←e4 e (List.mem_of_getElem? h1)];exact(List.getElem?_eq_some_iff.1 h2).1
  have hc:=e3 vs[i] (List.mem_of_getElem? hv)
  have hcell:(vs[i]).cells[j]? =some ((vs[i]).cells[j]'(by rw[hc];exact hjk)):=Array.getElem?_eq_getElem _
  obtain⟨k1,k2⟩:=e5 i j vs[i] e hv h1 _ d hcell h2
  refine⟨_,?_,k2,k1⟩
  have:=r4 i j vs[i] hv hjk
  rw[Nat.zero_add] at this
  rw[this,hcell]
theorem bs {t e k bts n d:Nat}{xs:List (Nat×Operand)}{es:List (List V)}{t':List V}(ht:slB P t e k bts=true)(hn:es.length=n)(h24:decide (n*k≤16777216)=true)(hb:BL E s k 0 xs es)(hu:Upd s.t d (.slice k es) t'):
  SOp E s (.buildSlice t n xs.toArray) (some d) ⟨t',s.o⟩ true:=fun β a w r o ho hd=>by
 obtain⟨cells,h1,h2,h3,h4⟩:=aWc ht hn h24 hb r ho
 have he:Ext w (w.alloc (.cells cells e)):=Ext.alloc _ _
 have h24':=of_decide_eq_true h24
 have hk0:=(eD ht).2
 refine⟨_,_,β, .inl h1,(r.extend he).put ?_ hu,fun _=>he⟩
 have hnm:n≤maxLen:=by
  obtain⟨_,_,_,_,_,_,_,hk0⟩:=hk0
  have:n*1≤n*k:=Nat.mul_le_mul_left _ hk0
  unfold maxLen;omega
 cases es with
 |nil=>simp at hn;subst hn;exact .slice0 (by unfold maxLen;omega)
 |cons e0 es'=>
  refine .slice (val:=fun i j=>cells.getD (i*k+j) undef) hn.symm (by simp) (Nat.le_refl _) hnm (fun hx=>by have:=aCB r _ hx;simp at this) (by simp) h3 (fun i j e d k1 k2=> ?_) (fun i j e d k1 k2=> ?_)
  ·obtain⟨v,k3,_,_⟩:=h4 i j e d k1 k2
   rw[eF,Nat.zero_add,World.cell?_alloc_new,k3]
   simp[Array.getD_eq_getD_getElem?,k3]
  ·obtain⟨v,k3,_,k5⟩:=h4 i j e d k1 k2
   simp only[Array.getD_eq_getD_getElem?,k3,Option.getD_some]
   exact k5.ext he
mutual
def V.nr (i:Nat):V→Bool
 | .box j _=> !Nat.beq j i
 | .own j=> !Nat.beq j i
 | .oel j _=> !Nat.beq j i
 | .agg cs=>nrs i cs
 | .tup cs=>nrs i cs
 |_=>true
def nrs (i:Nat):List V→Bool
 |[]=>true
 |c::cs=>V.nr i c&&nrs i cs
end
theorem aEn {i:Nat}{cs:List V}(h:nrs i cs=true):∀(j:Nat) (c:V),cs[j]? =some c→V.nr i c=true:=by
 induction cs with
 |nil=>intro j c hc;simp at hc
 |cons x xs ih=>
  simp only[nrs,Bool.and_eq_true] at h
  intro j c hc
  cases j with
  |zero=>simp at hc;rw[←hc];exact h.1
  |succ j=>exact ih h.2 j c (by simpa using hc)
def nro (i:Nat):List Ob→Bool
 |[]=>true
 | .box _ cs::os=>nrs i cs&&nro i os
 | .row .. ::os=>nro i os
theorem bCd {i:Nat}{os:List Ob}(h:nro i os=true):∀(j:Nat) (T:Nat) (cs:List V),os[j]? =some (.box T cs)→nrs i cs=true:=by
 induction os with
 |nil=>intro j T cs hc;simp at hc
 |cons x xs ih=>
  intro j T cs hc
  cases x with
  |box T' cs'=>
   simp only[nro,Bool.and_eq_true] at h
   cases j with
   |zero=>simp at hc;rw[←hc.2];exact h.1
   |succ j=>exact ih h.2 j T cs (by simpa using hc)
  |row T' k' es'=>
   simp only[nro] at h
   cases j with
   |zero=>simp at hc
   |succ j=>exact ih h j T cs (by simpa using hc)
theorem Rd.aDA {w w':World}{X X':Nat→Prop}{β:List Tr}{v:Value}{U:V}(h:Rd w X β v U){i:Nat}{t':Tr}(hsz:w.heap.size≤w'.heap.size)
  (hX:∀b,b<w.heap.size→X' b→X b) (hcell:∀(p:Addr) (u:Value),¬X p.block→w.cell? p=some u→w'.cell? p=some u):U.nr i=true→Rd w' X' (β.set i t') v U:=by
 have hset:∀{j:Nat} {t:Tr} {l:List Tr},Nat.beq j i=false→l[j]? =some t→(l.set i t')[j]? =some t:=fun {j t l} hj ht=>by
  rw[List.getElem?_set_ne (by rintro rfl;simp at hj)];exact ht
 induction h with
 |int h1 h2=>exact fun _=> .int h1 h2
 |bool=>exact fun _=> .bool
 |str h=>exact fun _=> .str h
 |slice0 h=>exact fun _=> .slice0 h
 |slice hn hpos hc hm hXa hb hk hce hrd ih=>exact fun _=>(Rd.slice (β:=[]) hn hpos hc hm hXa hb hk hce hrd).conv hsz hX hcell (fun _ _ h=>by simp at h)
 |nil=>exact fun _=> .nil
 |agg hl _ ih=>exact fun hp=> .agg hl (fun j v c h1 h2=>ih j v c h1 h2 (aEn (by simpa[V.nr] using hp) j c h2))
 |tup hl _ ih=>exact fun hp=> .tup hl (fun j v c h1 h2=>ih j v c h1 h2 (aEn (by simpa[V.nr] using hp) j c h2))
 |box h hb=>exact fun hp=> .box (hset (by simpa[V.nr] using hp) h) hb
 |elem hXa hb hce hrd ih=>exact fun _=>(Rd.elem (β:=[]) hXa hb hce hrd).conv hsz hX hcell (fun _ _ h=>by simp at h)
 |own h=>exact fun hp=> .own (hset (by simpa[V.nr] using hp) h)
 |oel h hb=>exact fun hp=> .oel (hset (by simpa[V.nr] using hp) h) hb
 |und=>exact fun _=> .und
 |any=>exact fun _=> .any
theorem aK4 {w:World}{X:Nat→Prop}{β:List Tr}{v:Value}{k:Nat}{news:List (List V)}(h:Rd w X β v (.slice k news))(hone:∀e∈news,dB e=true):
  ∃(A:Option Addr) (c:Nat) (xs:List Value),v= .slice A news.length c∧xs.length=news.length*k∧(news=[]∨∃a,A=some a∧∀j u,xs[j]? =some u→w.cell? (a.add j)=some u)∧(∀u∈xs,u.oneCell'=true)∧(∀e∈news,e.length=k)∧
   ∀(i j:Nat) (e:List V) (d:V),news[i]? =some e→e[j]? =some d→∃u,xs[i*k+j]? =some u∧Rd w X [] u d:=by
 cases h with
 |slice0=>exact⟨_,_,[],rfl,by simp, .inl rfl,by simp,by simp,by simp⟩
 | @slice _ a n c _ _ val hn hpos hc hm hX hb hk hcell hrd=>
  subst hn
  have key:∀q,q<news.length*k→∃(e:List V) (d:V),news[q/k]? =some e∧e[q%k]? =some d∧q/k*k+q%k=q:=fun q hq=>by
   have hk0:0<k:=by
    rcases Nat.eq_zero_or_pos k with h|h
    ·subst h;simp at hq
    ·exact h
   have h1:q/k<news.length:=Nat.div_lt_of_lt_mul (by rwa [Nat.mul_comm])
   have h2:q%k<(news[q/k]).length:=by rw[hk _ (List.getElem_mem h1)];exact Nat.mod_lt _ hk0
   exact⟨_,_,List.getElem?_eq_getElem h1,List.getElem?_eq_getElem h2,by rw[Nat.mul_comm];exact Nat.div_add_mod q k⟩
  refine⟨some a,c,(List.range (news.length*k)).map (fun q=>val (q/k) (q%k)),rfl,by simp, .inr ⟨a,rfl,fun q u hu=> ?_⟩,fun u hu=> ?_,hk,fun i j e d h1 h2=> ?_⟩
  ·have hq:q<news.length*k:=by have:=(List.getElem?_eq_some_iff.1 hu).1;simpa using this
   obtain⟨e,d,k1,k2,k3⟩:=key q hq
   have:=hcell _ _ e d k1 k2
   rw[k3] at this
   simp[List.getElem?_map,List.getElem?_range hq] at hu
   rw[this,hu]
  ·obtain⟨q,hq⟩:=List.mem_iff_getElem?.1 hu
   have hql:q<news.length*k:=by have:=(List.getElem?_eq_some_iff.1 hq).1;simpa using this
   obtain⟨e,d,k1,k2,k3⟩:=key q hql
   simp[List.getElem?_map,List.getElem?_range hql] at hq
   rw[←hq]
   exact(hrd _ _ e d k1 k2).one (aE1 (hone e (List.mem_of_getElem? k1)) _ d k2)
  ·have hj:j<k:=by rw[←hk e (List.mem_of_getElem? h1)];exact(List.getElem?_eq_some_iff.1 h2).1
   have hi:i<news.length:=(List.getElem?_eq_some_iff.1 h1).1
   have hq:i*k+j<news.length*k:=by
    have:(i+1)*k≤news.length*k:=Nat.mul_le_mul_right _ hi
    rw[Nat.add_mul] at this;omega
   refine⟨val i j,?_,hrd i j e d h1 h2⟩
   have hk0:0<k:=by omega
   rw[List.getElem?_map,List.getElem?_range hq,Option.map_some]
   rw[show(i*k+j)/k=i by rw[Nat.mul_comm,Nat.mul_add_div hk0,Nat.div_eq_of_lt hj,Nat.add_zero],show(i*k+j)%k=j by rw[Nat.mul_comm,Nat.mul_add_mod,Nat.mod_eq_of_lt hj]]
theorem aE2 {w:World}{t ty e k bts:Nat}(ht:slB P t e k bts=true){v:Value}{n:Nat}{xs:List Value}(hown:w.ownsRow 0 e k v n xs){A:Option Addr}{m c:Nat}{news:List Value}(hl:news.length=m*k)
  (hsrc:m=0∨∃a,A=some a∧∀j u,news[j]? =some u→w.cell? (a.add j)=some u) (h1:∀u∈news,u.oneCell'=true) (hm:n+m≤maxLen) (hb:(n+m)*bts≤140737488355328):
  ∃v' w',(Builtin.append_ #[t,t] ty #[v, .slice A m c]).run P w= .ok v' w'∧w'.ownsRow 0 e k v' (n+m) (xs++news)∧w.grownBy w' v.ownBlock∧(v'.ownBlock=v.ownBlock∨v'.ownBlock=some w.heap.size):=by
 obtain⟨hu,i,z,hi,hz,hik,hib,hzk,hk0⟩:=eD ht
 cases A with
 |some a=>
  have hc:∀j u,news[j]? =some u→w.cell? (a.add j)=some u:=by
   rcases hsrc with h0|⟨a',h2,h3⟩
   ·subst h0
    have:news=[]:=List.eq_nil_of_length_eq_zero (by simpa using hl)
    subst this;simp
   ·injection h2 with h2;subst h2;exact h3
  obtain⟨v',w',h2,h3,h4,_,h6⟩:=run_append_own_at (P:=P) w 0 t ty e i z k bts hu hi hz hik hib hzk hk0 v n xs hown a m c news hl hc h1 hm hb (Nat.zero_le _)
  exact⟨v',w',h2,h3,h4,h6⟩
 |none=>
  have h0:m=0:=by
   rcases hsrc with h0|⟨a',h2,_⟩
   ·exact h0
   ·cases h2
  subst h0
  have hn:news=[]:=List.eq_nil_of_length_eq_zero (by simpa using hl)
  subst hn
  refine⟨v,w,?_,by simpa using hown,⟨rfl,rfl,rfl,Nat.le_refl _,fun _ _ _=>rfl⟩, .inl rfl⟩
  rcases hown.2 with⟨rfl,rfl⟩|⟨gg,cap,cur,rfl,_,_,hnc,_⟩
  ·simp[Builtin.append_,run_underlying hu,sizeOf,typeInfo,hi,Builtin.lenOf,Builtin.firstCells]
  ·simp[Builtin.append_,run_underlying hu,sizeOf,typeInfo,hi,Builtin.lenOf,Builtin.firstCells,hnc,storeCells]
theorem aO9 {w:World}{e k n:Nat}{v:Value}{xs:List Value}(h:w.ownsRow 0 e k v n xs):∃t:Tr,t.val=v∧t.b=v.ownBlock:=by
 rcases h.2 with⟨rfl,_⟩|⟨gg,cap,cur,rfl,_⟩
 ·exact⟨⟨none,0,0⟩,rfl,rfl⟩
 ·exact⟨⟨some gg,n,cap⟩,rfl,rfl⟩
theorem bCe {β:List Tr}{a:Act}{w:World}(r:RelB E s β a w){i T k bts t ty:Nat}{es news:List (List V)}{x:Value}{o':List Ob}{tr:Tr}(ht:slB P t T k bts=true)(hi:At s.o i (.row T k es))(hb:β[i]? =some tr)
  (hx:∃β0:List Tr,Rd w (E.X β) β0 x (.slice k news)) (hone:∀e∈news,dB e=true) (hsz:(es.length+news.length)*bts≤140737488355328) (hm:es.length+news.length≤maxLen)
  (hup:UpO s.o i (.row T k (es++news)) o') (hnr:(nrs i s.t&&nro i s.o)=true):
  ∃v' w' tr',(Builtin.append_ #[t,t] ty #[tr.val,x]).run P w= .ok v' w'∧tr'.val=v'∧RelB E ⟨s.t,o'⟩ (β.set i tr') a w'∧(β.set i tr')[i]? =some tr':=by
 obtain⟨β0,hx⟩:=hx
 simp only[Bool.and_eq_true] at hnr
 obtain⟨h1,h2,xs,h3,h4⟩:=r.objs i tr _ hb hi.get
 obtain⟨A,c,ys,y1,y2,y3,y4,y5,y6⟩:=aK4 hx hone
 subst y1
 obtain⟨v',w',a1,a2,a3,a4⟩:=aE2 (P:=P) (ty:=ty) ht h3 (A:=A) (c:=c) y2 (by
  rcases y3 with h|h
  ·exact .inl (by rw[h];rfl)
  ·exact .inr h) y4 hm hsz
 obtain⟨tr',t1,t2⟩:=aO9 a2
 have htv:tr.val.ownBlock=tr.b:=by cases h:tr.b<;>simp[Tr.val,Value.ownBlock,h]
 rw[htv] at a3 a4
 rw[←t2] at a4
 have hil:i<β.length:=(List.getElem?_eq_some_iff.1 hb).1
 have hself:(β.set i tr')[i]? =some tr':=List.getElem?_set_self hil
 have hX:∀b,b<w.heap.size→E.X (β.set i tr') b→E.X β b:=by
  rintro b hlt (h|⟨u,hu,hub⟩)
  ·exact .inl h
  ·rcases List.mem_or_eq_of_mem_set hu with hu|hu
   ·exact .inr ⟨u,hu,hub⟩
   ·subst hu
    rcases a4 with h|h
    ·exact .inr ⟨tr,List.mem_of_getElem? hb,by rw[←h];exact hub⟩
    ·rw[h] at hub;injection hub with hub;omega
 have hcell:∀(p:Addr) (u:Value),¬E.X β p.block→w.cell? p=some u→w'.cell? p=some u:=fun p u hp hc=>by
  have hlt:=World.block_lt_of_cell? w p hc
  rw[World.cell?_of_block (a3.block p.block hlt (fun e=>hp (.inr ⟨tr,List.mem_of_getElem? hb,e.symm⟩)))]
  exact hc
 have hget:∀(j:Nat) (u:Tr),(β.set i tr')[j]? =some u→(j=i∧u=tr')∨(j≠i∧β[j]? =some u):=fun j u hj=>by
  by_cases h:i=j
  ·subst h;rw[hself] at hj;injection hj with hj;exact .inl ⟨rfl,hj.symm⟩
  ·rw[List.getElem?_set_ne h] at hj;exact .inr ⟨Ne.symm h,hj⟩
 have hnew:∀b,tr'.b=some b→E.w0.heap.size≤b∧b<w'.heap.size:=fun b hb'=>by
  have hlt:b<w'.heap.size:=by
   have:=a2.lt b (by rw[←t2];exact hb')
   exact this.2
  refine⟨?_,hlt⟩
  rcases a4 with h|h
  ·rw[h] at hb';exact(r.new i tr b hb hb').1
  ·rw[h] at hb';injection hb' with hb';have:=r.ext.size;omega
 obtain⟨e1,e2⟩:=hup.eq
 refine⟨v',w',tr',a1,t1,{ext:= ?_,defers:=r.defers,tsz:=r.tsz,tmps:=fun n U h=>(r.tmps n U h).aDA a3.size hX hcell (aEn hnr.1 n U h),blen:=by rw[e1];simpa using r.blen,new:= ?_,dist:= ?_,objs:= ?_},hself⟩
 ·refine⟨a3.os.trans r.ext.os,a3.tape.trans r.ext.tape,a3.output.trans r.ext.output,Nat.le_trans r.ext.size a3.size,fun q hq=> ?_⟩
  rw[a3.block q (Nat.lt_of_lt_of_le hq r.ext.size) (fun e=>by have:=(r.new i tr q hb e.symm).1;omega)]
  exact r.ext.block q hq
 ·intro j u b hj hub
  rcases hget j u hj with⟨_,rfl⟩|⟨_,h⟩
  ·exact hnew b hub
  ·exact⟨(r.new j u b h hub).1,Nat.lt_of_lt_of_le (r.new j u b h hub).2 a3.size⟩
 ·intro j j' u u' b hjj hj hj' hub hub'
  have aux:∀(q:Nat) (x:Tr),q≠i→β[q]? =some x→x.b=some b→tr'.b=some b→False:=fun q x hq hx hxb htb=>by
   rcases a4 with h|h
   ·rw[h] at htb;exact r.dist i q tr x b (Ne.symm hq) hb hx htb hxb
   ·rw[h] at htb;injection htb with htb;have:=(r.new q x b hx hxb).2;omega
  rcases hget j u hj with⟨rfl,rfl⟩|⟨hne,h⟩<;>rcases hget j' u' hj' with⟨rfl,rfl⟩|⟨hne',h'⟩
  ·exact hjj rfl
  ·exact aux j' u' hne' h' hub' hub
  ·exact aux j u hne h hub hub'
  ·exact r.dist j j' u u' b hjj h h' hub hub'
 ·intro j u o hj ho
  simp only[e1] at ho
  rcases hget j u hj with⟨rfl,rfl⟩|⟨hne,h⟩
  ·rw[List.getElem?_set_self e2] at ho
   injection ho with ho
   subst ho
   refine⟨h1,fun e he=> ?_,xs++ys,by rw[t1,List.length_append];exact a2,fun q j' e d q1 q2=> ?_⟩
   ·rcases List.mem_append.1 he with he|he
    ·exact h2 e he
    ·exact y5 e he
   ·by_cases hq:q<es.length
    ·rw[List.getElem?_append_left hq] at q1
     obtain⟨v,k3,k4,k5⟩:=h4 q j' e d q1 q2
     refine⟨v,?_,k4,k5.conv a3.size hX hcell (fun _ _ h=>by simp at h)⟩
     rw[List.getElem?_append_left (List.getElem?_eq_some_iff.1 k3).1];exact k3
    ·rw[List.getElem?_append_right (by omega)] at q1
     obtain⟨v,k3,k5⟩:=y6 _ j' e d q1 q2
     refine⟨v,?_,y4 v (List.mem_of_getElem? k3),k5.conv a3.size hX hcell (fun _ _ h=>by simp at h)⟩
     rw[List.getElem?_append_right (by rw[h3.1];have:es.length*k≤q*k:=Nat.mul_le_mul_right _ (by omega);omega),h3.1]
     rw[show q*k+j'-es.length*k=(q-es.length)*k+j' by rw[Nat.sub_mul];have:es.length*k≤q*k:=Nat.mul_le_mul_right _ (by omega);omega]
     exact k3
  ·rw[List.getElem?_set_ne (Ne.symm hne)] at ho
   have hob:∀b,u.b=some b→w'.heap[b]? =w.heap[b]? :=fun b hub=>a3.block b (r.new j u b h hub).2 (fun e=>r.dist j i u tr b hne h hb hub e.symm)
   have hk:=r.objs j u o h ho
   cases o with
   |box T' cs=>
    obtain⟨b,vs,k1,k2,k3,k4⟩:=hk
    exact⟨b,vs,k1,by rw[hob b k1];exact k2,k3,fun q v c q1 q2=>(k4 q v c q1 q2).aDA a3.size hX hcell (aEn (bCd hnr.2 j T' cs ho) q c q2)⟩
   |row T' k' es'=>
    have:=Ob.ok.conv (o:= .row T' k' es') hk a3.size hX hcell (β':=β) (fun _ _ h=>h) hob
    exact this
theorem ap {sx x:Operand}{i t T k bts d:Nat}{es news:List (List V)}{t0 t':List V}{o':List Ob}(n:Nat)(ht:slB P t T k bts=true)(hsx:sx= .tmp n)(hn:At s.t n (.own i))(hd0:Upd s.t n .any t0)(hi:At s.o i (.row T k es))(hx:Ev E s x (.slice k news))(hone:∀e∈news,dB e=true)
  (hsz:(es.length+news.length)*bts≤140737488355328) (hm:es.length+news.length≤maxLen) (hup:UpO s.o i (.row T k (es++news)) o') (hnr:(nrs i t0&&nro i s.o)=true) (hu:Upd t0 d (.own i) t'):
  SOp E s (.call {callee:= .builtin .append,args:= #[sx,x],argTypes:= #[t,t]}) (some d) ⟨t',o'⟩ false:=fun β a w r o ho hd=>by
 subst hsx
 obtain⟨tr,h1,h2⟩:=(r.tmps n _ hn.get).aBM
 obtain⟨v',w',tr',a1,a2,a3,a4⟩:=bCe (P:=P) (r.drop hd0) (ty:=o.type) ht hi h1 ⟨β,hx β a w r⟩ hone hsz hm hup hnr
 refine⟨v',w',β.set i tr', .inl ?_,a3.put (by rw[←a2];exact .own a4) hu,fun h=>by cases h⟩
 have he:a.eval (.tmp n)=tr.val:=h2
 simp only[execOp,ho,resolve,invoke,builtin,Sem.run_bind,Sem.run_pure,Result.andThen_ok,List.map_toArray,List.map_cons,List.map_nil,he,a1]
theorem no {ops:Array Oper}{l:List Oper}{F:S→Prop}{n T k m:Nat}{t':List V}{o':List Ob}(hk:decide (0<k)=true)(hv:At s.t n .nil)(hs:Sn s.o (.row T k []) m o')(hu:Upd s.t n (.own m) t')(h:RF E ops l F ⟨t',o'⟩):RF E ops l F s:=fun Q hQ a w ⟨β,r⟩=>by
 have h0:=(r.tmps n _ hv.get).aBJ
 obtain⟨r1,r2⟩:=r.aBY (t:=⟨none,0,0⟩) hs (Ext.refl w) (fun b hb=>by cases hb) ⟨of_decide_eq_true hk,by simp,[],World.ownsRow_nil w 0 T k,by simp⟩
 have hn:n<a.tmps.size:=by rw[r.tsz];exact(List.getElem?_eq_some_iff.1 hv.get).1
 have hp:=r1.put (v:=a.tmps.getD n undef) (by rw[h0];exact .own (t:=⟨none,0,0⟩) r2) hu
 have ha:a.put (some n) (a.tmps.getD n undef)=a:=by
  unfold Act.put
  simp only
  congr 1
  rw[Array.getD_eq_getD_getElem?,Array.getElem?_eq_getElem hn]
  apply Array.ext'
  rw[Array.toList_setIfInBounds,←Array.getElem_toList hn,Option.getD_some,List.set_getElem_self]
 rw[ha] at hp
 exact h Q hQ a w ⟨_,hp⟩
mutual
def V.flat:V→Bool
 | .int .. | .bool _| .str _=>true
 | .tup cs=>aPa cs
 | .agg cs=>aPa cs
 |_=>false
def aPa:List V→Bool
 |[]=>true
 |c::cs=>V.flat c&&aPa cs
end
theorem aK5 {cs:List V}(h:aPa cs=true):∀(j:Nat) (c:V),cs[j]? =some c→V.flat c=true:=by
 induction cs with
 |nil=>intro j c hc;simp at hc
 |cons x xs ih=>
  simp only[aPa,Bool.and_eq_true] at h
  intro j c hc
  cases j with
  |zero=>simp at hc;rw[←hc];exact h.1
  |succ j=>exact ih h.2 j c (by simpa using hc)
theorem Rd.flat {w w':World}{X X':Nat→Prop}{β:List Tr}{v:Value}{U:V}(h:Rd w X β v U):U.flat=true→∀{β':List Tr},Rd w' X' β' v U:=by
 induction h with
 |int h1 h2=>exact fun _ _=> .int h1 h2
 |bool=>exact fun _ _=> .bool
 |str h=>exact fun _ _=> .str h
 |agg hl _ ih=>exact fun hp β'=> .agg hl (fun i v c h1 h2=>ih i v c h1 h2 (aK5 (by simpa[V.flat] using hp) i c h2))
 |tup hl _ ih=>exact fun hp β'=> .tup hl (fun i v c h1 h2=>ih i v c h1 h2 (aK5 (by simpa[V.flat] using hp) i c h2))
 |_=>intro hp;simp[V.flat] at hp
inductive EvM (E:Env P g) (s:S):List Operand→List V→Prop
 |n:EvM E s [] []
 |c {x:Operand} {U U':V} {xs:List Operand} {Us:List V} (h:Ev E s x U) (hp:Cv s U U') (hr:EvM E s xs Us):EvM E s (x::xs) (U'::Us)
theorem EvM.rd {xs:List Operand}{Us:List V}(h:EvM E s xs Us){β:List Tr}{a:Act}{w:World}(r:RelB E s β a w):RdL w E.X0 (xs.map a.eval) Us:=by
 induction h with
 |n=>exact⟨rfl,by simp⟩
 | @c x U U' xs Us h hp hr ih=>
  refine⟨by simp[ih.1],fun i v W h1 h2=> ?_⟩
  cases i with
  |zero=>simp at h1 h2;subst h1;subst h2;exact hp.rd r (h β a w r)
  |succ i=>exact ih.2 i v W (by simpa using h1) (by simpa using h2)
theorem wi {i:Nat}(h:i+1<9223372036854775808):V.int .i64 (IntKind.i64.wrap ((i:Int)+1))=V.int .i64 (((i+1:Nat):Int)):=by
 congr 1;rw[IntKind.wrap_i64];omega
theorem b2s {x:Operand}{t e u:Nat}{ns:List Int}(ht:P.underlying t=some (.slice e))(he:P.underlying e=some (.int .u8))(hu:P.underlying u=some .string)(hl:ns.length≤maxLen)
  (hx:Ev E s x (.slice 1 (ns.map fun n=>[V.int .u8 n]))):vX E s (.convert t u x) (.str (ns.foldl (fun r n=>r.push (UInt8.ofNat n.toNat)) ByteArray.empty)):=fun β a w r o ho=>by
 have h0:=hx β a w r
 have hsz:∀(ns:List Int) (s:ByteArray),(ns.foldl (fun r n=>r.push (UInt8.ofNat n.toNat)) s).size=s.size+ns.length:=by
  intro ns
  induction ns with
  |nil=>simp
  |cons n ns ih=>intro s;simp only[List.foldl_cons,ih,ByteArray.size_push,List.length_cons];omega
 refine⟨_,fun w' hw=> ?_, .str (by rw[hsz];simpa using hl)⟩
 cases hv:a.eval x with
 |slice A n c=>
  rw[hv] at h0
  cases ns with
  |nil=>
   have:n=0:=by
    obtain⟨A',c',h1,_,_⟩:=h0.aAZ
    simp at h1;exact h1.2.1
   subst this
   cases A with
   |none=>simp[execOp,ho,hv,run_convert_bytes_string w' t u e _ _ _ ht he hu,Conv.bytesToString]
   |some ad=>
    have:=run_bytesToString (P:=P) w' ad 0 c [] (by simp[loadCells,loadCellsFrom])
    simp only[List.foldl_nil] at this
    simp[execOp,ho,hv,run_convert_bytes_string w' t u e _ _ _ ht he hu,this]
  |cons n0 ns'=>
   generalize hns:n0::ns'=ns at*
   generalize hes:(ns.map fun n=>[V.int .u8 n])=es at h0
   cases h0 with
   |slice0=>subst hns;simp at hes
   | @slice _ ad _ _ _ _ val hn hpos hc hm hX hb hk hcell hrd=>
    subst hes
    have hcells:(loadCells ad n).run P w'= .ok (ns.map (Value.int .u8)).toArray w':=by
     have hlen:(ns.map (Value.int .u8)).length=n:=by rw[hn];simp
     rw[←hlen]
     refine run_loadCells_list w' ad _ (fun j v hj=> ?_)
     have hjl:j<ns.length:=by have:=(List.getElem?_eq_some_iff.1 hj).1;simpa using this
     have h1:(ns.map fun n=>[V.int .u8 n])[j]? =some [V.int .u8 ns[j]]:=by simp[List.getElem?_map,List.getElem?_eq_getElem hjl]
     have h2:=hcell j 0 _ _ h1 rfl
     have h3:=(hrd j 0 _ _ h1 rfl).aAN.1
     rw[Nat.mul_one,Nat.add_zero] at h2
     rw[hw.cell h2,h3]
     simp[List.getElem?_map,List.getElem?_eq_getElem hjl] at hj
     rw[hj]
    have:=run_bytesToString (P:=P) w' ad n c ns hcells
    simp[execOp,ho,hv,run_convert_bytes_string w' t u e _ _ _ ht he hu,this]
 |_=>rw[hv] at h0;cases ns<;>cases h0
end Go.VK

namespace Go.VK
section
variable {α:Type} {a0 a1 a2 a3 a4 a5 a6 a7 a8 a9 b0 b1 b2 b3 b4 b5 b6 b7 b8 b9 c0 c1 c2 c3 c4 c5 c6 c7 c8 c9 f0 f1 f2 f3 f4 f5 f6 f7 f8 f9 g0 g1 g2 g3 g4 g5 g6 g7 g8 g9 h0 h1 h2 h3 h4 h5 h6 h7 h8 h9 i0 i1 i2 i3 i4 i5 i6 i7 i8 i9 j0 j1 j2 j3 j4 j5 j6 j7 j8 j9 l0 l1 l2 l3 l4 l5 l6 l7 l8 l9 m0 m1 m2 m3 m4 m5 m6 m7 m8 m9 x:α} {t:List α}
theorem n0:At (x::t) 0 x:= .z
theorem n1:At (a0::x::t) 1 x:= .s n0
theorem n2:At (a0::a1::x::t) 2 x:= .s n1
theorem n3:At (a0::a1::a2::x::t) 3 x:= .s n2
theorem n4:At (a0::a1::a2::a3::x::t) 4 x:= .s n3
theorem n5:At (a0::a1::a2::a3::a4::x::t) 5 x:= .s n4
end
section
variable {a0 a1 a2 a3 a4 a5 a6 a7 a8 a9 b0 b1 b2 b3 b4 b5 b6 b7 b8 b9 c0 c1 c2 c3 c4 c5 c6 c7 c8 c9 f0 f1 f2 f3 f4 f5 f6 f7 f8 f9 g0 g1 g2 g3 g4 g5 g6 g7 g8 g9 h0 h1 h2 h3 h4 h5 h6 h7 h8 h9 i0 i1 i2 i3 i4 i5 i6 i7 i8 i9 j0 j1 j2 j3 j4 j5 j6 j7 j8 j9 l0 l1 l2 l3 l4 l5 l6 l7 l8 l9 m0 m1 m2 m3 m4 m5 m6 m7 m8 m9 x y:V} {t:List V}
theorem u0:Upd (x::t) 0 y (y::t):= .z
theorem u1:Upd (a0::x::t) 1 y (a0::y::t):= .s u0
theorem u2:Upd (a0::a1::x::t) 2 y (a0::a1::y::t):= .s u1
theorem u3:Upd (a0::a1::a2::x::t) 3 y (a0::a1::a2::y::t):= .s u2
theorem u4:Upd (a0::a1::a2::a3::x::t) 4 y (a0::a1::a2::a3::y::t):= .s u3
theorem u5:Upd (a0::a1::a2::a3::a4::x::t) 5 y (a0::a1::a2::a3::a4::y::t):= .s u4
theorem u6:Upd (a0::a1::a2::a3::a4::a5::x::t) 6 y (a0::a1::a2::a3::a4::a5::y::t):= .s u5
theorem u7:Upd (a0::a1::a2::a3::a4::a5::a6::x::t) 7 y (a0::a1::a2::a3::a4::a5::a6::y::t):= .s u6
theorem u8:Upd (a0::a1::a2::a3::a4::a5::a6::a7::x::t) 8 y (a0::a1::a2::a3::a4::a5::a6::a7::y::t):= .s u7
theorem d0:Dr (t) 0 t:= .z
theorem d1:Dr (a0::t) 1 t:= .s d0
theorem d2:Dr (a0::a1::t) 2 t:= .s d1
theorem d3:Dr (a0::a1::a2::t) 3 t:= .s d2
theorem d4:Dr (a0::a1::a2::a3::t) 4 t:= .s d3
theorem d5:Dr (a0::a1::a2::a3::a4::t) 5 t:= .s d4
theorem d6:Dr (a0::a1::a2::a3::a4::a5::t) 6 t:= .s d5
theorem d7:Dr (a0::a1::a2::a3::a4::a5::a6::t) 7 t:= .s d6
theorem k0:Tk (t) 0 []:= .z
theorem k1:Tk (a0::t) 1 [a0]:= .s k0
theorem k2:Tk (a0::a1::t) 2 [a0,a1]:= .s k1
theorem k3:Tk (a0::a1::a2::t) 3 [a0,a1,a2]:= .s k2
theorem k4:Tk (a0::a1::a2::a3::t) 4 [a0,a1,a2,a3]:= .s k3
theorem k5:Tk (a0::a1::a2::a3::a4::t) 5 [a0,a1,a2,a3,a4]:= .s k4
theorem k6:Tk (a0::a1::a2::a3::a4::a5::t) 6 [a0,a1,a2,a3,a4,a5]:= .s k5
theorem k7:Tk (a0::a1::a2::a3::a4::a5::a6::t) 7 [a0,a1,a2,a3,a4,a5,a6]:= .s k6
theorem k8:Tk (a0::a1::a2::a3::a4::a5::a6::a7::t) 8 [a0,a1,a2,a3,a4,a5,a6,a7]:= .s k7
theorem k9:Tk (a0::a1::a2::a3::a4::a5::a6::a7::a8::t) 9 [a0,a1,a2,a3,a4,a5,a6,a7,a8]:= .s k8
end
section
variable {a0 a1 a2 a3 a4 a5 a6 a7 a8 a9 b0 b1 b2 b3 b4 b5 b6 b7 b8 b9 c0 c1 c2 c3 c4 c5 c6 c7 c8 c9 f0 f1 f2 f3 f4 f5 f6 f7 f8 f9 g0 g1 g2 g3 g4 g5 g6 g7 g8 g9 h0 h1 h2 h3 h4 h5 h6 h7 h8 h9 i0 i1 i2 i3 i4 i5 i6 i7 i8 i9 j0 j1 j2 j3 j4 j5 j6 j7 j8 j9 l0 l1 l2 l3 l4 l5 l6 l7 l8 l9 m0 m1 m2 m3 m4 m5 m6 m7 m8 m9 x y:Ob} {t:List Ob}
theorem s0:Sn [] x 0 [x]:= .z
theorem s1:Sn [a0] x 1 [a0,x]:= .s s0
theorem s2:Sn [a0,a1] x 2 [a0,a1,x]:= .s s1
theorem s3:Sn [a0,a1,a2] x 3 [a0,a1,a2,x]:= .s s2
theorem s4:Sn [a0,a1,a2,a3] x 4 [a0,a1,a2,a3,x]:= .s s3
theorem s5:Sn [a0,a1,a2,a3,a4] x 5 [a0,a1,a2,a3,a4,x]:= .s s4
theorem s6:Sn [a0,a1,a2,a3,a4,a5] x 6 [a0,a1,a2,a3,a4,a5,x]:= .s s5
theorem q0:UpO (x::t) 0 y (y::t):= .z
theorem q1:UpO (a0::x::t) 1 y (a0::y::t):= .s q0
theorem q2:UpO (a0::a1::x::t) 2 y (a0::a1::y::t):= .s q1
theorem q3:UpO (a0::a1::a2::x::t) 3 y (a0::a1::a2::y::t):= .s q2
theorem q4:UpO (a0::a1::a2::a3::x::t) 4 y (a0::a1::a2::a3::y::t):= .s q3
theorem q5:UpO (a0::a1::a2::a3::a4::x::t) 5 y (a0::a1::a2::a3::a4::y::t):= .s q4
theorem q6:UpO (a0::a1::a2::a3::a4::a5::x::t) 6 y (a0::a1::a2::a3::a4::a5::y::t):= .s q5
end
end Go.VK

namespace Go.VK
open Go.RowKit
def iV (n:Int):List V:=[.int .i64 n]
def bV (b:Bool):List V:=[.bool b]
def sV (s:ByteArray):List V:=[.str s]
def y8 (n:Int):List V:=[.int .u8 n]
def yV (n:UInt8):List V:=[.int .u8 n.toNat]
section
variable {P:Program} {g:GI} {E:Env P g} {s:S}
end
end Go.VK

set_option linter.unusedSimpArgs false
namespace Go.VK
open Go.RowKit
theorem aG {n:Int}(h0: -9223372036854775808≤n)(h1:n≤9223372036854775807):IntKind.i64.wrap n=n:=by rw[IntKind.wrap_i64];omega
def aW (n a b:Int):Bool:=decide (a≤n)&&decide (n≤b)
theorem gM {n a b:Int}(h:aW n a b=true):a≤n∧n≤b:=by simpa[aW] using h
end Go.VK

namespace Go.VK
open Go.RowKit Go.WideShapes Go.ChangeShapes
variable {P:Program}
def bCf (w:World)(cs:List Value)(us:List V):Prop:=
 cs.length=us.length∧∀(i:Nat) (v:Value) (c:V),cs[i]? =some v→us[i]? =some c→Rd w (fun _=>False) [] v c
def Na (P:Program)(t:TypeId)(α:Type)(f:α→List V):Prop:=
 ∀(w:World) (H:Type) (enc:TypeId×Value→H) (sp:Nat→Bool) (held:Bool) (fuel:Nat) (cs:List Value) (x:DataW H×List MemPlace),
  DataW.trod enc P w 0 sp held fuel t cs=some x→∃a:α,bCf w cs (f a)
theorem bFw {w:World}{v:Value}{c:V}(h:Rd w (fun _=>False) [] v c):bCf w [v] [c]:=
 ⟨rfl,fun i v' c' h1 h2=>by
  cases i with
  |zero=>simp at h1 h2;subst h1;subst h2;exact h
  |succ i=>simp at h1⟩
theorem bH5 {t:TypeId}(ht:P.underlying t=some (.int .u8)):Na P t Int y8:=by
 intro w H enc sp held fuel cs x h
 obtain⟨n,rfl,_,hwf⟩:=DataW.trod_int ht h
 simp only[Lit.wf,Bool.and_eq_true,decide_eq_true_eq] at hwf
 exact⟨n,bFw (.int hwf.1 hwf.2)⟩
theorem choice {α:Type}{p:Nat→α→Prop}:∀(n:Nat),(∀i,i<n→∃a,p i a)→∃l:List α,l.length=n∧∀i a,l[i]? =some a→p i a
 |0,_=>⟨[],rfl,by simp⟩
 |n+1,h=>by
  obtain⟨l,h1,h2⟩:=choice n (fun i hi=>h i (by omega))
  obtain⟨a,ha⟩:=h n (by omega)
  refine⟨l++[a],by simp[h1],fun i b hb=> ?_⟩
  by_cases hi:i<n
  ·rw[List.getElem?_append_left (by omega)] at hb;exact h2 i b hb
  ·rw[List.getElem?_append_right (by omega)] at hb
   have:i=n:=by
    have:=(List.getElem?_eq_some_iff.1 hb).1
    simp at this;omega
   subst this
   simp[h1] at hb;subst hb;exact ha
theorem aYv {w:World}{a:Addr}{n:Nat}{cs:List Value}(h:w.cells? 0 a n=some cs):cs.length=n∧∀j v,cs[j]? =some v→w.cell? (a.add j)=some v:=by
 unfold World.cells? at h
 rw[if_pos (Nat.zero_le _)] at h
 have hl:cs.length=n:=by simpa using mapM_some_length h
 refine⟨hl,fun j v hv=> ?_⟩
 have hj:j<n:=by rw[←hl];exact(List.getElem?_eq_some_iff.1 hv).1
 rw[←hv]
 exact mapM_some_get h j j (by simp[hj])
theorem aYw {t e k:Nat}{α:Type}{f:α→List V}(ht:P.underlying t=some (.slice e))(hk:P.cellsOf e=k)(h0:0<k)(hf:∀a,(f a).length=k)(h:Na P e α f):
  Na P t (List α) (fun l=>[.slice k (l.map f)]):=by
 intro w H enc sp held fuel cs x hx
 rcases DataW.trod_slice ht hx with⟨rfl,_⟩|⟨a,len,cap,elems,rest,n,_,rfl,_,_,h3,h4,h5,h6,_,_⟩
 ·exact⟨[],bFw (.slice0 (Nat.zero_le _))⟩
 ·have hc:∀i,i<len→∃b:α,∃cs,w.cells? 0 (a.add (i*k)) k=some cs∧bCf w cs (f b):=by
   intro i hi
   have:=h6 i hi
   rw[hk,List.getElem?_eq_getElem (by omega)] at this
   obtain⟨cs,h7,h8⟩:=Option.bind_eq_some_iff.1 this
   obtain⟨b,hb⟩:=h w H enc sp held n cs _ h8
   exact⟨b,cs,h7,hb⟩
  obtain⟨l,hl,hp⟩:=choice len hc
  refine⟨l,bFw ?_⟩
  cases hlen:len with
  |zero=>
   have:l=[]:=List.eq_nil_of_length_eq_zero (by omega)
   subst this
   exact .slice0 h4
  |succ m=>
   have hget:∀(i:Nat) (e:List V),(l.map f)[i]? =some e→∃b,e=f b∧∃cs,w.cells? 0 (a.add (i*k)) k=some cs∧bCf w cs (f b):=by
    intro i e he
    rw[List.getElem?_map] at he
    obtain⟨b,hb,rfl⟩:=Option.map_eq_some_iff.1 he
    exact⟨b,rfl,hp i b hb⟩
   have hcell:∀(i j:Nat) (e:List V) (d:V),(l.map f)[i]? =some e→e[j]? =some d→∃v,w.cell? (a.add (i*k+j))=some v∧Rd w (fun _=>False) [] v d:=by
    intro i j e d he hd
    obtain⟨b,rfl,cs,h7,h8,h9⟩:=hget i e he
    obtain⟨c1,c2⟩:=aYv h7
    have hj:j<cs.length:=by rw[h8];exact(List.getElem?_eq_some_iff.1 hd).1
    have hv:cs[j]? =some cs[j]:=List.getElem?_eq_getElem hj
    refine⟨cs[j],?_,h9 j _ d hv hd⟩
    rw[←Addr.add_add];exact c2 j _ hv
   have hblock:a.block<w.heap.size:=by
    obtain⟨b,cs,h7,_⟩:=hc 0 (by omega)
    have:=World.cells?_block h7 h0
    rwa [show(a.add (0*k)).block=a.block by unfold Addr.add;split<;>rfl] at this
   refine .slice (val:=fun i j=>(w.cell? (a.add (i*k+j))).getD undef) (by simp[hl,hlen]) (by simp;omega) (by omega) h4 (fun h=>h) hblock
    (fun e he=>by obtain⟨b,_,rfl⟩:=List.mem_map.1 he;exact hf b) (fun i j e d he hd=> ?_) (fun i j e d he hd=> ?_)
   ·obtain⟨v,h7,_⟩:=hcell i j e d he hd
    rw[h7];rfl
   ·obtain⟨v,h7,h8⟩:=hcell i j e d he hd
    rw[h7];exact h8
theorem aK6 {H:Type}{enc:TypeId×Value→H}{t e:TypeId}{α:Type}{g:α→V}(hd:Na P t α (fun a=>[g a]))(ht:P.underlying t=some (.slice e)){W:World}{base:Nat}{sp:Nat→Bool}{held:Bool}{v:Value}{d:DataW H}{p:List MemPlace}
  (hv:Value.okWide P W .any base t v) (h:DataW.Trod enc P W 0 sp held t v d p):∃a,Rd W (fun _=>False) [] v (g a):=by
 obtain⟨b,len,cap,rfl⟩:=okWide_slice ht hv
 obtain⟨fuel,hf⟩:=h
 obtain⟨a,h1,h2⟩:=hd W H enc sp held fuel _ _ hf
 exact⟨a,h2 0 _ _ rfl rfl⟩
end Go.VK

namespace Go.VK
open Go.RowKit
def mZ (sep:ByteArray)(l:List ByteArray):ByteArray:=⟨(Lib.join (l.map (·.data.toList)) sep.data.toList).toArray⟩
theorem bCg (sep x:ByteArray):mZ sep [x]=x:=by
 unfold mZ;simp[Lib.join_one]
theorem bCh (sep y:ByteArray)(l:List ByteArray)(h:l≠[]):mZ sep (l++[y])=mZ sep l++sep++y:=by
 cases l with
 |nil=>exact absurd rfl h
 |cons x r=>
  unfold mZ
  apply ByteArray.ext
  simp only[List.cons_append,List.map_cons,Lib.join_cons,List.map_append,List.map_nil,Lib.joinTail,List.flatten_append,ByteArray.data_append]
  apply Array.toList_inj.1
  simp
theorem qK (x:ByteArray):x.size=x.data.toList.length:=(Array.length_toList).symm
theorem aWd {P:Program}{g:GI}{F:FuncId}(hE:∀args w,(callFunc F args).run P w= .ok (.enter F args) w)
  (hJ:∀(bk o c:Nat) (xs:List ByteArray) (sep:ByteArray) (w:World),(∀(j:Nat) x,xs[j]? =some x→w.cell? ⟨bk,o+j,none⟩=some (.string x))→bk<w.heap.size→xs.length≤140737488355328→xs.length≤c→(Lib.join (xs.map (·.data.toList)) sep.data.toList).length≤140737488355328→
   Calls P F #[.slice (some ⟨bk,o,none⟩) xs.length c, .string sep] w fun e w'=>e= .returned (.string ⟨(Lib.join (xs.map (·.data.toList)) sep.data.toList).toArray⟩)∧Below w.heap.size w w')
  (l:List ByteArray) (sep:ByteArray) (h0:l≠[]) (hsz:(mZ sep l).size≤140737488355328) (hln:l.length≤140737488355328):Spec P g F [.slice 1 (l.map sV), .str sep] (fun r=>r= .str (mZ sep l)):=by
 refine⟨hE,fun w X0 vs hG hX0 hvs=> ?_⟩
 obtain⟨v,u,rfl⟩:∃v u,vs=[v,u]:=by
  match vs,hvs.1 with
  |[v,u],_=>exact⟨v,u,rfl⟩
 have hu:=(hvs.2 1 u _ rfl rfl).aAT
 obtain⟨rfl,hu2⟩:=hu
 have hv:=hvs.2 0 v _ rfl rfl
 generalize hes:l.map sV=es at hv
 cases hv with
 |slice0 h=>exact absurd (List.map_eq_nil_iff.1 hes) h0
 | @slice _ a n c k es val hn hpos hc hm hX hb hk hcell hrd=>
  subst hes
  simp only[List.length_map] at hn
  subst hn
  have hcs:∀(j:Nat) x,l[j]? =some x→w.cell? (a.add j)=some (.string x):=by
   intro j x hx
   have e1:(l.map sV)[j]? =some [V.str x]:=by simp[hx,sV]
   have e2:=hcell j 0 _ _ e1 rfl
   obtain⟨e3,_⟩:=(hrd j 0 _ _ e1 rfl).aAT
   rw[e3] at e2
   simpa using e2
  obtain⟨b,o,sp⟩:=a
  have hsp:sp=none:=by
   cases l with
   |nil=>exact absurd rfl h0
   |cons x r=>
    have:=hcs 0 x rfl
    rw[show(⟨b,o,sp⟩:Addr).add 0=⟨b,o,sp⟩ by simp[Addr.add]] at this
    exact Proofs.cell_spot this
  subst hsp
  refine(hJ b o c l sep w (fun j x hx=> ?_) hb hln hc (by rw[qK] at hsz;exact hsz)).mono ?_
  ·rw[←hcs j x hx];congr 1;unfold Addr.add;split<;>simp_all
  ·rintro e w' ⟨rfl,hbel⟩
   exact⟨_,_,rfl,rfl, .str (by unfold maxLen;unfold mZ at hsz;omega),hbel⟩
end Go.VK

namespace Go.VK
open Go.RowKit
def aZ (p q:Int):Int:=if 1≤q∧q≤1000000000000 then p%q else 0
theorem aYx {p q:Int}(h:¬(1≤q∧q≤1000000000000)):aZ p q=0:=if_neg h
theorem kP {p q:Int}(h:1≤q): -q<p.tmod q∧p.tmod q<q∧p%q=(p.tmod q)%q:=by
 have h1:p.tmod q+q*p.tdiv q=p:=Int.tmod_add_mul_tdiv p q
 refine⟨?_,?_,?_⟩
 ·have:=Int.lt_tmod_of_pos p (show 0<q by omega);exact this
 ·exact Int.tmod_lt_of_pos p (by omega)
 ·conv=>lhs;rw[←h1]
  exact Int.add_mul_emod_self_left _ _ _
theorem bFx {p q:Int}(h:1≤q∧q≤1000000000000)(ht:p.tmod q<0):aZ p q=p.tmod q+q:=by
 obtain⟨h1,h2,h3⟩:=kP (p:=p) h.1
 rw[aZ,if_pos h,h3,←Int.add_emod_right,Int.emod_eq_of_lt (by omega) (by omega)]
theorem bFy {p q:Int}(h:1≤q∧q≤1000000000000)(ht:¬p.tmod q<0):aZ p q=p.tmod q:=by
 obtain⟨h1,h2,h3⟩:=kP (p:=p) h.1
 rw[aZ,if_pos h,h3,Int.emod_eq_of_lt (by omega) (by omega)]
theorem bFz {p q:Int}(h:1≤q∧q≤1000000000000):(IntKind.i64.wrap (p.tmod q+q)).tmod q=aZ p q:=by
 obtain⟨h1,h2,h3⟩:=kP (p:=p) h.1
 rw[aG (by omega) (by omega),Int.tmod_eq_emod_of_nonneg (by omega),Int.add_emod_right,aZ,if_pos h,h3]
theorem iR {p q:Int}(h:1≤q∧q≤1000000000000):0≤aZ p q∧aZ p q<q:=by
 rw[aZ,if_pos h];exact⟨Int.emod_nonneg _ (by omega),Int.emod_lt_of_pos _ (by omega)⟩
def hstep (h v:Int):Int:=(IntKind.i64.wrap (IntKind.i64.wrap (IntKind.i64.wrap (h*1000003)+aZ v 2147483647)+13)).tmod 2147483647
def rT (l:List Int):Int:=l.foldl hstep 11
def aX (k:Int)(l:List Int):Int:=rT ([k]++[l,[k]].flatten)
end Go.VK

namespace Go.VK
open Go.RowKit
variable {P:Program} {g:GI} {E:Env P g} {s:S}
theorem mn2 {x y:Operand}{k:IntKind}{a b:Int}{ats:Array TypeId}(hx:Ev E s x (.int k a))(hy:Ev E s y (.int k b)):vX E s (.call {callee:= .builtin .min,args:= #[x,y],argTypes:=ats}) (.int k (if b<a then b else a)):=fun β c w rl op ho=>by
 have h1:=(hx β c w rl).aAN
 have h2:=(hy β c w rl).aAN
 refine⟨.int k (if b<a then b else a),fun w' _=>by simp[execOp,ho,resolve,invoke,builtin,h1.1,h2.1,Builtin.min_,Builtin.min2],?_⟩
 split
 ·exact .int h2.2.1 h2.2.2
 ·exact .int h1.2.1 h1.2.2
theorem mx2 {x y:Operand}{k:IntKind}{a b:Int}{ats:Array TypeId}(hx:Ev E s x (.int k a))(hy:Ev E s y (.int k b)):vX E s (.call {callee:= .builtin .max,args:= #[x,y],argTypes:=ats}) (.int k (if b>a then b else a)):=fun β c w rl op ho=>by
 have h1:=(hx β c w rl).aAN
 have h2:=(hy β c w rl).aAN
 refine⟨.int k (if b>a then b else a),fun w' _=>by simp[execOp,ho,resolve,invoke,builtin,h1.1,h2.1,Builtin.max_,Builtin.max2],?_⟩
 split
 ·exact .int h2.2.1 h2.2.2
 ·exact .int h1.2.1 h1.2.2
def bF (z:ByteArray):List Int:=z.data.toList.map fun b=>(b.toNat:Int)
def V.val:V→Value
 | .int k n=> .int k n
 | .bool b=> .bool b
 | .str z=> .string z
 |_=>undef
theorem aUb {d:Nat}{xs ys:Array Value}{w:World}:(Op.eqFields d xs ys []).run P w= .ok true w:=rfl
theorem Wt {t off:Nat}{xs:Array Value}{a:Value}{w:World}(h1:Ha P t=true)(ha:xs[off]? =some a):(part t xs off).run P w= .ok a w:=by
 have h2:=(pI (w:=w) h1).1
 simp[part,h2,ha]
theorem aYy {d:Nat}{xs ys:Array Value}{w:World}{f:Field}{fs:List Field}{a b:Value}{r q:Bool}(hn:(f.name != "_")=true)(h1:Ha P f.type=true)(ha:xs[f.offset]? =some a)(hb:ys[f.offset]? =some b)
  (he:(Op.equalIn d f.type a b).run P w= .ok r w) (hq:(Op.eqFields d xs ys fs).run P w= .ok q w):(Op.eqFields d xs ys (f::fs)).run P w= .ok (r&&q) w:=by
 simp only[Op.eqFields]
 rw[if_pos (by simpa using hn)]
 simp only[Sem.run_bind,Wt h1 ha,Wt h1 hb,Result.andThen_ok,he]
 cases r with
 |false=>simp
 |true=>simpa using hq
end Go.VK

namespace Go.VK
open Go.RowKit
section
variable {α β σ τ:Type}
def gd (c:Prop)[Decidable c](x:Option α):Option α:=if c then x else none
def bd (x:Option α)(f:α→Option β):Option β:=match x with|none=>none|some a=>f a
def nx (x:Option (α⊕β))(f:β→Option α):Option α:=match x with|none=>none|some (.inl a)=>some a|some (.inr b)=>f b
def nk (q:α⊕β)(f:β→Option α)(o:α):Prop:=match q with| .inl a=>a=o| .inr b=>f b=some o
def bA (l:List α)(i:Int):Option α:=if 0≤i then l[i.toNat]? else none
def aO (a b:List α):Prop:=a.length+b.length≤68719476736
instance (a b:List α):Decidable (aO a b):=inferInstanceAs (Decidable (_≤_))
theorem aUc:∃n:Nat,2^70≤n:=⟨_,Nat.le_refl _⟩
noncomputable def FUEL:Nat:=Classical.choose aUc
theorem gU:1180591620717411303424≤FUEL:=Classical.choose_spec aUc
theorem jA {c:Prop}[Decidable c]{x:Option α}{r:α}(h:gd c x=some r):c∧x=some r:=by
 unfold gd at h;split at h
 ·exact⟨‹_›,h⟩
 ·cases h
theorem iI {x:Option α}{f:α→Option β}{r:β}(h:bd x f=some r):∃a,x=some a∧f a=some r:=by
 cases x with
 |none=>cases h
 |some a=>exact⟨a,rfl,h⟩
theorem bCi {x:Option (α⊕β)}{f:β→Option α}{o:α}(h:nx x f=some o):∃q,x=some q∧nk q f o:=by
 match x,h with
 |some (.inl a),h=>exact⟨_,rfl,Option.some.inj h⟩
 |some (.inr b),h=>exact⟨_,rfl,h⟩
theorem b1 {q:β}{f:β→Option α}{o:α}{b:β}(h:some b=some q)(hq:f q=some o):f b=some o:=by cases h;exact hq
theorem Hf {l:List α}{i:Int}{x:α}(h:bA l i=some x):0≤i∧l[i.toNat]? =some x:=by
 unfold bA at h;split at h
 ·exact⟨‹_›,h⟩
 ·cases h
end
variable {P:Program} {g:GI} {E:Env P g} {s:S}
variable {N:S→Prop} {X:Nat→S→Prop} {R:S→Prop}
section
variable {σ τ:Type} {o:τ}
end
mutual
inductive Nz:V→V→Prop
 |r {U:V}:Nz U U
 |n {k:Nat}:Nz .nil (.slice k [])
 |a {cs ds:List V} (h:NzL cs ds):Nz (.agg cs) (.agg ds)
inductive NzL:List V→List V→Prop
 |n:NzL [] []
 |c {x y:V} {xs ys:List V} (h:Nz x y) (hr:NzL xs ys):NzL (x::xs) (y::ys)
end
mutual
theorem Nz.rd {w:World}{Y:Nat→Prop}{β:List Tr}:∀{U U':V},Nz U U'→∀{v:Value},Rd w Y β v U→Rd w Y β v U'
 |_,_, .r,_,h=>h
 |_,_, .n,_,h=>by rw[h.aBJ];exact .slice0 (Nat.zero_le _)
 |_,_, .a hl,_,h=>by
  obtain⟨vs,rfl,h2,h3⟩:=h.aAY
  have hh:=NzL.rd (w:=w) (Y:=Y) (β:=β) hl
  exact .agg (h2.trans hh.1) (fun i v d h5 h6=>hh.2 i v d h6 (fun c hc=>h3 i v c h5 hc))
theorem NzL.rd {w:World}{Y:Nat→Prop}{β:List Tr}:∀{cs ds:List V},NzL cs ds→cs.length=ds.length∧∀(i:Nat) (v:Value) (d:V),ds[i]? =some d→(∀c,cs[i]? =some c→Rd w Y β v c)→Rd w Y β v d
 |_,_, .n=>⟨rfl,by simp⟩
 |_,_, .c h hr=>by
  have ih:=NzL.rd (w:=w) (Y:=Y) (β:=β) hr
  refine⟨by simp[ih.1],fun i v d h5 h6=> ?_⟩
  cases i with
  |zero=>simp at h5;subst h5;exact h.rd (h6 _ rfl)
  |succ i=>exact ih.2 i v d (by simpa using h5) (fun c hc=>h6 c (by simpa using hc))
end
section
variable {α:Type} {l:List α} {f:α→List V} {c:α} {m:Int}
theorem ixq {x y:Operand}{t e k b:Nat}{kk:IntKind}(hm:bA l m=some c)(ht:slB P t e k b=true)(hx:Ev E s x (.slice k (l.map f)))(hy:Ev E s y (.int kk m)):vX E s (.indexAddr t x y) (.elem (f c)):=
 ixm ht (Hf hm).1 (Hf hm).2 hx hy
def bF0 (n:Int):Prop:=0≤n∧n≤68719476736
instance (n:Int):Decidable (bF0 n):=inferInstanceAs (Decidable (_∧_))
def jG (l:List α)(n:Int):Prop:=0≤n∧n.toNat≤l.length
instance (l:List α) (n:Int):Decidable (jG l n):=inferInstanceAs (Decidable (_∧_))
theorem Rd.sub {w:World}{Y:Nat→Prop}{β:List Tr}{A:Option Addr}{n c k a b:Nat}{es:List (List V)}(hr:Rd w Y β (.slice A n c) (.slice k es))(hab:a≤b)(hb:b≤es.length):
  Rd w Y β (.slice (if c=a then A else A.map fun q=>q.add (a*k)) (b-a) (c-a)) (.slice k ((es.take b).drop a)):=by
 have hlen:((es.take b).drop a).length=b-a:=by simp;omega
 rcases Nat.eq_zero_or_pos (b-a) with h0|h0
 ·have:(es.take b).drop a=[]:=List.eq_nil_of_length_eq_zero (by omega)
  rw[this,h0]
  obtain⟨A',c',h1,h2,h3⟩:=hr.aAZ
  injection h1 with h1 h4 h5
  exact .slice0 (by omega)
 ·cases hr with
  |slice0=>simp at hb;omega
  | @slice _ ad _ _ _ _ val hn hpos hc hm hX hblk hk hcell hrd=>
   rw[if_neg (by omega)]
   have hget:∀(i:Nat) (e:List V),((es.take b).drop a)[i]? =some e→es[a+i]? =some e:=by
    intro i e h
    rw[List.getElem?_drop,List.getElem?_take] at h
    split at h
    ·exact h
    ·cases h
   refine .slice (val:=fun i j=>val (a+i) j) hlen.symm (by omega) (by omega) (by omega) (by rw[add_block];exact hX) (by rw[add_block];exact hblk) (fun e he=>hk e (List.mem_of_mem_take (List.mem_of_mem_drop he))) (fun i j e d h1 h2=> ?_) (fun i j e d h1 h2=>hrd _ j e d (hget i e h1) h2)
   rw[add_add',show a*k+(i*k+j)=(a+i)*k+j by rw[Nat.add_mul];omega]
   exact hcell _ j e d (hget i e h1) h2
def tC (k:IntKind)(x y:Int):Int:=k.wrap ((BitVec.ofInt k.bits x&&&BitVec.ofInt k.bits y).toNat:Nat)
def orI (k:IntKind)(x y:Int):Int:=k.wrap ((BitVec.ofInt k.bits x|||BitVec.ofInt k.bits y).toNat:Nat)
def aWe (k:IntKind)(x y:Int):Int:=k.wrap ((BitVec.ofInt k.bits x^^^BitVec.ofInt k.bits y).toNat:Nat)
def Wu (k:IntKind)(x y:Int):Int:=k.wrap (x*2^(min y.toNat k.bits))
def Rj (k:IntKind)(x y:Int):Int:=x.fdiv (2^(min y.toNat k.bits))
theorem bF1 {x y:Operand}{k:IntKind}{m n:Int}{t u:TypeId}(hx:Ev E s x (.int k m))(hy:Ev E s y (.int k n)):vX E s (.binOp .and t x y u) (.int k (tC k m n)):=fun β a w r o ho=>
 ⟨_,fun w' _=>by simp[execOp,ho,(hx β a w r).aAN.1,(hy β a w r).aAN.1,eqGuard_at_int,binOp_and,Op.intBits,tC], .int (bW _ _).1 (bW _ _).2⟩
theorem bH6 {x y:Operand}{k:IntKind}{m n:Int}{t u:TypeId}(hx:Ev E s x (.int k m))(hy:Ev E s y (.int k n)):vX E s (.binOp .or t x y u) (.int k (orI k m n)):=fun β a w r o ho=>
 ⟨_,fun w' _=>by simp[execOp,ho,(hx β a w r).aAN.1,(hy β a w r).aAN.1,eqGuard_at_int,binOp_or,Op.intBits,orI], .int (bW _ _).1 (bW _ _).2⟩
theorem bF2 {x y:Operand}{k:IntKind}{m n:Int}{t u:TypeId}(hx:Ev E s x (.int k m))(hy:Ev E s y (.int k n)):vX E s (.binOp .xor t x y u) (.int k (aWe k m n)):=fun β a w r o ho=>
 ⟨_,fun w' _=>by simp[execOp,ho,(hx β a w r).aAN.1,(hy β a w r).aAN.1,eqGuard_at_int,binOp_xor,Op.intBits,aWe], .int (bW _ _).1 (bW _ _).2⟩
theorem bJw {x y:Operand}{k j:IntKind}{m n:Int}{t u:TypeId}(h0:0≤n)(hx:Ev E s x (.int k m))(hy:Ev E s y (.int j n)):vX E s (.binOp .shl t x y u) (.int k (Wu k m n)):=fun β a w r o ho=>
 ⟨_,fun w' _=>by simp[execOp,ho,(hx β a w r).aAN.1,(hy β a w r).aAN.1,eqGuard_at_int,binOp_shl,Op.shift,Wu,show ¬n<0 by omega], .int (bW _ _).1 (bW _ _).2⟩
theorem bJx {x y:Operand}{k j:IntKind}{m n:Int}{t u:TypeId}(h0:0≤n)(hx:Ev E s x (.int k m))(hy:Ev E s y (.int j n)):vX E s (.binOp .shr t x y u) (.int k (Rj k m n)):=fun β a w r o ho=>
 have hm:=(hx β a w r).aAN
 have hd:(0:Int)<2^(min n.toNat k.bits):=Int.pow_pos (by decide)
 have hk0:k.min≤0:=by cases k<;>decide
 have hk1:0≤k.max:=by cases k<;>decide
 ⟨.int k (Rj k m n),fun w' _=>by simp[execOp,ho,(hx β a w r).aAN.1,(hy β a w r).aAN.1,eqGuard_at_int,binOp_shr,Op.shift,Rj,show ¬n<0 by omega],by
  unfold Rj
  rw[Int.fdiv_eq_ediv_of_nonneg _ (Int.le_of_lt hd)]
  refine .int ?_ ?_
  ·rcases Int.le_total 0 m with h|h
   ·exact Int.le_trans hk0 (Int.ediv_nonneg h (Int.le_of_lt hd))
   ·refine Int.le_trans hm.2.1 ?_
    rw[Int.le_ediv_iff_mul_le hd]
    have h1:(1:Int)≤2^(min n.toNat k.bits):=hd
    have:=Int.mul_le_mul_of_nonpos_left h h1
    simpa using this
  ·rcases Int.le_total 0 m with h|h
   ·exact Int.le_trans (Int.ediv_le_self _ h) hm.2.2
   ·refine Int.le_trans ?_ hk1
    exact Int.ediv_le_of_le_mul hd (by simpa using h)⟩
theorem aWf {w:World}{Y:Nat→Prop}{β:List Tr}{v:Value}{U:V}(h:Rd w Y β v U)(h1:dB U.parts=true):v.cells.size=U.parts.length∧∀(j:Nat) (u:Value) (c:V),v.cells[j]? =some u→U.parts[j]? =some c→Rd w Y β u c:=by
 by_cases hA:∃cs,U= .agg cs
 ·obtain⟨cs,rfl⟩:=hA
  obtain⟨vs,rfl,k2,k3⟩:=h.aAY
  exact⟨k2,fun j u c h5 h6=>k3 j u c h5 h6⟩
 ·have hU:U.parts=[U]:=by cases U<;>first|rfl|exact absurd ⟨_,rfl⟩ hA
  rw[hU] at h1 ⊢
  have ho:U.one=true:=by simpa[dB] using h1
  rw[Mx (h.one ho)]
  refine⟨rfl,fun j u c h5 h6=> ?_⟩
  cases j with
  |zero=>simp at h5 h6;subst h5;subst h6;exact h
  |succ j=>simp at h5
inductive BP (E:Env P g) (s:S) (pls:List (Nat×Nat)):List (Nat×Operand)→List V→List V→Prop
 |n {cs:List V}:BP E s pls [] cs cs
 |c {i:Nat} {x:Operand} {U:V} {xs:List (Nat×Operand)} {cs cs1 ds:List V} {off sz:Nat} (h:Ev E s x U) (hpl:At pls i (off,sz)) (hsz:U.parts.length=sz) (h1:dB U.parts=true) (hsp:Sp cs off U.parts cs1) (hr:BP E s pls xs cs1 ds):BP E s pls ((i,x)::xs) cs ds
theorem BP.spec {pls:List (Nat×Nat)}{xs:List (Nat×Operand)}{cs ds:List V}(h:BP E s pls xs cs ds){β:List Tr}{a:Act}{w:World}(r:RelB E s β a w):
  ∀cells:Array Value,cells.size=cs.length→(∀(j:Nat) (v:Value) (c:V),cells[j]? =some v→cs[j]? =some c→Rd w (E.X β) β v c)→
  ∃res,Instr.fill (fun i=>pls.toArray[i]?) cells (xs.map fun(i,x)=>(i,a.eval x))=some res∧res.size=ds.length∧∀(j:Nat) (v:Value) (c:V),res[j]? =some v→ds[j]? =some c→Rd w (E.X β) β v c:=by
 induction h with
 |n=>exact fun cells h1 h2=>⟨cells,rfl,h1,h2⟩
 | @c i x U xs cs cs1 ds off sz h hpl hsz h1 hsp hr ih=>
  intro cells hs hrd
  have hp:=aWf (h β a w r) h1
  obtain⟨p1,p2,p3⟩:=hsp.spec
  have hf:=Ws off (a.eval x).cells.toList 0 cells (by simp[hp.1];omega)
  obtain⟨res,r1,r2,r3⟩:=ih ((((a.eval x).cells.toList.zipIdx 0).foldl (fun cs (cc,j)=>cs.setIfInBounds (off+j) cc) cells)) (by rw[hf.1,hs,p2]) (fun j v cc h5 h6=>by
   rw[hf.2] at h5
   rw[p3] at h6
   simp only[Nat.add_zero,Array.length_toList,hp.1] at h5
   split at h5
   ·rename_i hj;rw[if_pos hj] at h6;exact hp.2 _ v cc (by simpa using h5) h6
   ·rename_i hj;rw[if_neg hj] at h6;exact hrd j v cc h5 h6)
  refine⟨res,?_,r2,r3⟩
  simp only[List.map_cons,Instr.fill]
  have hg:pls.toArray[i]? =some (off,sz):=by simpa using hpl.get
  rw[hg]
  simp only
  rw[if_neg (by simp[hp.1,hsz,hs];omega)]
  rw[←Array.foldl_toList,Array.toList_zipIdx]
  exact r1
def aNf (P:Program):List Field→Option (List (Nat×Nat))
 |[]=>some []
 |f::fs=>match P.info? f.type,aNf P fs with|some i,some l=>some ((f.offset,i.size)::l)|_,_=>none
def aE3 (P:Program)(t:TypeId):Option (List (Nat×Nat)):=match P.underlying t with|some (.struct fs)=>aNf P fs.toList|_=>none
theorem aE4 {w:World}:∀{fs:List Field} {l:List (Nat×Nat)},aNf P fs=some l→(fs.mapM fun f=>(Prod.mk f.offset<$>sizeOf f.type:Sem (Nat×Nat))).run P w= .ok l w
 |[],l,h=>by simp[aNf] at h;subst h;rfl
 |f::fs,l,h=>by
  simp only[aNf] at h
  cases hi:P.info? f.type with
  |none=>simp[hi] at h
  |some i=>
   cases hl:aNf P fs with
   |none=>simp[hi,hl] at h
   |some l'=>
    simp[hi,hl] at h
    subst h
    have ih:=aE4 (w:=w) hl
    simp only[List.mapM_cons,Sem.run_bind]
    have e:(sizeOf f.type).run P w= .ok i.size w:=by simp[sizeOf,typeInfo,hi]
    simp only[Sem.run_map,e,Result.andThen_ok,Sem.run_pure,ih]
theorem bld {t:TypeId}{xs:List (Nat×Operand)}{pls:List (Nat×Nat)}{zs ds:List V}(hz:aEm P t=some zs)(hp:aE3 P t=some pls)(hb:BP E s pls xs zs ds):vX E s (.build t xs.toArray) (.agg ds):=fun β a w r o ho=>by
 obtain⟨i,z,hi,hz',hzs⟩:=Wn hz
 have hzr:=aNc (w:=w) (X:=E.X β) (β:=β) hzs
 obtain⟨res,r1,r2,r3⟩:=hb.spec r z.cells (by simpa using hzr.1) (fun j v c h5 h6=>(hzr.2 j v c (by simpa using h5) h6).1)
 refine⟨.agg res,fun w' _=> ?_, .agg r2 r3⟩
 unfold aE3 at hp
 cases hu:P.underlying t with
 |none=>simp[hu] at hp
 |some d=>
  cases d<;>simp[hu] at hp
  rename_i fs
  have hm:=aE4 (w:=w') hp
  have hm':(fs.mapM fun f=>(Prod.mk f.offset<$>sizeOf f.type:Sem (Nat×Nat))).run P w'= .ok pls.toArray w':=by
   rw[←Array.toArray_toList (xs:=fs),List.mapM_toArray]
   simp only[Sem.run_map,hm,Result.andThen_ok]
   try rfl
  have e1:((xs.toArray.map fun(x:Nat×Operand)=>(x.1,a.eval x.2))).toList=xs.map fun(i,x)=>(i,a.eval x):=by simp
  simp[execOp,ho,Instr.build,zeroValue,typeInfo,hi,hz',run_underlying hu,hm']
  have r1':Instr.fill (fun i=>pls[i]?) z.cells (xs.map fun x=>(x.1,a.eval x.2))=some res:=by simpa using r1
  simp[r1']
def aWg (P:Program)(t f ft off:Nat):Bool:=match P.underlying t with|some (.struct fs)=>(match fs[f]? with|some fd=>fd.type==ft&&fd.offset==off|none=>false)|_=>false
theorem aUd {t f ft off:Nat}{w:World}{vs:Array Value}(h:aWg P t f ft off=true):(Instr.field t (.agg vs) f).run P w=(part ft vs off).run P w:=by
 unfold aWg at h
 cases hu:P.underlying t with
 |none=>simp[hu] at h
 |some d=>
  cases d<;>simp[hu] at h
  rename_i fs
  cases hf:fs[f]? with
  |none=>simp[hf] at h
  |some fd=>
   simp[hf] at h
   obtain⟨rfl,rfl⟩:=h
   simp[Instr.field,run_underlying hu,hf,asAgg]
theorem fld1 {x:Operand}{t f ft off:Nat}{cs:List V}{U:V}(hf:aWg P t f ft off=true)(ht:Ha P ft=true)(hc:At cs off U)(hx:Ev E s x (.agg cs)):vX E s (.field t x f) U:=fun β a w r o ho=>by
 obtain⟨vs,h1,h2,h3⟩:=(hx β a w r).aAY
 have hlt:off<vs.size:=by rw[h2];exact(List.getElem?_eq_some_iff.1 hc.get).1
 refine⟨vs[off],fun w' _=> ?_,h3 off _ U (Array.getElem?_eq_getElem hlt) hc.get⟩
 simp[execOp,ho,h1,aUd hf,Wt (w:=w') ht (Array.getElem?_eq_getElem hlt)]
theorem bF3 {z:ByteArray}{n:Nat}{c:Int}(h:(bF z)[n]? =some c):∃b,z[n]? =some b∧c=(b.toNat:Int):=by
 unfold bF at h
 rw[List.getElem?_map] at h
 obtain⟨b,hb,rfl⟩:=Option.map_eq_some_iff.1 h
 refine⟨b,?_,rfl⟩
 obtain⟨hlt,hb⟩:=List.getElem?_eq_some_iff.1 hb
 have hlt':n<z.size:=by rw[Array.length_toList] at hlt;exact hlt
 rw[getElem?_pos z n hlt']
 rw[←hb];rfl
theorem bJy {x y:Operand}{t:TypeId}{z:ByteArray}{kk:IntKind}{m c:Int}(hm:bA (bF z) m=some c)(ht:P.underlying t=some .string)(hx:Ev E s x (.str z))(hy:Ev E s y (.int kk m)):vX E s (.index t x y) (.int .u8 c):=fun β a w r o ho=>by
 obtain⟨h0,h1⟩:=Hf hm
 obtain⟨b,hb,rfl⟩:=bF3 h1
 have hlt:=b.toNat_lt
 refine⟨_,fun w' _=> ?_, .int (Int.natCast_nonneg _) (show((b.toNat:Nat):Int)≤255 by omega)⟩
 simp[execOp,ho,(hx β a w r).aAT.1,(hy β a w r).aAN.1,Instr.index,asIntOf,run_underlying ht,h0,hb]
def Qj (z:ByteArray)(l h:Int):Prop:=0≤l∧l≤h∧h≤(z.size:Int)
instance (z:ByteArray) (l h:Int):Decidable (Qj z l h):=inferInstanceAs (Decidable (_∧_))
theorem ext_size (z:ByteArray)(l h:Nat):(z.extract l h).size≤z.size:=by
 rw[ByteArray.size_extract];omega
theorem bJz {x y q:Operand}{t:TypeId}{z:ByteArray}{kk jj:IntKind}{m n:Int}(hm:Qj z m n)(ht:P.underlying t=some .string)(hx:Ev E s x (.str z))(hy:Ev E s y (.int kk m))(hq:Ev E s q (.int jj n)):vX E s (.slice t x (some y) (some q) none) (.str (z.extract m.toNat n.toNat)):=fun β a w r o ho=>by
 obtain⟨h0,h1,h2⟩:=hm
 obtain⟨g1,g2⟩:=(hx β a w r).aAT
 refine⟨_,fun w' _=> ?_, .str (Nat.le_trans (ext_size z m.toNat n.toNat) g2)⟩
 have e1:(0≤n∧n≤(z.size:Int)):=⟨by omega,h2⟩
 have e2:(0≤m∧m≤((n.toNat:Nat):Int)):=⟨h0,by omega⟩
 simp[execOp,ho,g1,(hy β a w r).aAN.1,(hq β a w r).aAN.1,Instr.sliceAt,Instr.slice,run_underlying ht,Instr.sliceBounds,Instr.sliceBound,asIntOf,e1,e2]
 try (intro hh;exfalso;omega)
theorem bJ0 {x q:Operand}{t:TypeId}{z:ByteArray}{jj:IntKind}{n:Int}(hm:Qj z 0 n)(ht:P.underlying t=some .string)(hx:Ev E s x (.str z))(hq:Ev E s q (.int jj n)):vX E s (.slice t x none (some q) none) (.str (z.extract 0 n.toNat)):=fun β a w r o ho=>by
 obtain⟨h0,h1,h2⟩:=hm
 obtain⟨g1,g2⟩:=(hx β a w r).aAT
 refine⟨_,fun w' _=> ?_, .str (Nat.le_trans (ext_size z 0 n.toNat) g2)⟩
 have e1:(0≤n∧n≤(z.size:Int)):=⟨by omega,h2⟩
 simp[execOp,ho,g1,(hq β a w r).aAN.1,Instr.sliceAt,Instr.slice,run_underlying ht,Instr.sliceBounds,Instr.sliceBound,asIntOf,e1]
theorem bJ1 {x y:Operand}{t:TypeId}{z:ByteArray}{kk:IntKind}{m:Int}(hm:Qj z m z.size)(ht:P.underlying t=some .string)(hx:Ev E s x (.str z))(hy:Ev E s y (.int kk m)):vX E s (.slice t x (some y) none none) (.str (z.extract m.toNat z.size)):=fun β a w r o ho=>by
 obtain⟨h0,h1,h2⟩:=hm
 obtain⟨g1,g2⟩:=(hx β a w r).aAT
 refine⟨_,fun w' _=> ?_, .str (Nat.le_trans (ext_size z m.toNat z.size) g2)⟩
 have e2:(0≤m∧m≤(z.size:Int)):=⟨h0,h1⟩
 simp[execOp,ho,g1,(hy β a w r).aAN.1,Instr.sliceAt,Instr.slice,run_underlying ht,Instr.sliceBounds,Instr.sliceBound,asIntOf,e2]
section
variable {F:S→Prop}
variable {a0:Option Nat}
end
end
end Go.VK

namespace Go.VK
section
variable {α β σ τ:Type}
@[simp] theorem bd_s {a:α} {f:α→Option β}:bd (some a) f=f a:=rfl
@[simp] theorem bd_n {f:α→Option β}:bd none f=none:=rfl
@[simp] theorem nx_l {a:α} {f:β→Option α}:nx (some (.inl a)) f=some a:=rfl
@[simp] theorem nx_r {b:β} {f:β→Option α}:nx (some (.inr b)) f=f b:=rfl
@[simp] theorem nx_n {f:β→Option α}:nx none f=none:=rfl
theorem aA {c:Prop}[Decidable c]{x:Option α}(h:c):gd c x=x:=if_pos h
@[simp] theorem gd_T {x:Option α}:gd True x=x:=rfl
theorem bJ2 {b:Bool}{x y:Option α}{f:α→Option β}:bd (bif b then x else y) f=bif b then bd x f else bd y f:=by cases b<;>rfl
@[simp] theorem bd_bb {b:Bool} {x y:α} {f:α→Option β}:bd (bif b then some x else some y) f=f (bif b then x else y):=by cases b<;>rfl
@[simp] theorem bif_and {a b:Bool}:(bif a then b else false)=(a&&b):=by cases a<;>rfl
@[simp] theorem bif_or {a b:Bool}:(bif a then true else b)=(a||b):=by cases a<;>rfl
@[simp] theorem bif_some {a:Bool} {x y:α}:(bif a then some x else some y)=some (bif a then x else y):=by cases a<;>rfl
theorem bKi {x:Option α}:bd x (fun a=>some a)=x:=by cases x<;>rfl
theorem aH {l:List α}{i:Nat}(h:i<l.length):bA l (i:Int)=some l[i]:=by
 unfold bA;rw[if_pos (Int.natCast_nonneg _),Int.toNat_natCast,List.getElem?_eq_getElem h]
theorem Nb {l:List α}{i:Int}(h0:0≤i)(h:i.toNat<l.length):bA l i=some l[i.toNat]:=by
 unfold bA;rw[if_pos h0,List.getElem?_eq_getElem h]
def iC (p:α→Bool):Nat→List α→Int
 |_,[]=> -1
 |i,x::xs=>bif p x then(i:Int) else iC p (i+1) xs
theorem aE5 {p:α→Bool}:∀{i:Nat} {l:List α},0≤iC p i l→(i:Int)≤iC p i l∧iC p i l<i+l.length
 |i,[],h=>by simp[iC] at h
 |i,x::xs,h=>by
  simp only[iC] at h ⊢
  cases hp:p x with
  |true=>simp;omega
  |false=>
   rw[hp] at h
   have:=aE5 (i:=i+1) (l:=xs) (by simpa using h)
   simp only[List.length_cons,cond_false]
   omega
def dJ (p:Nat→α→Bool):Nat→List α→Bool
 |_,[]=>false
 |i,x::xs=>p i x||dJ p (i+1) xs
theorem Bv {p:α→Bool}:∀{l:List α} {s:List α},l.foldl (fun s x=>bif p x then s++[x] else s) s=s++l.filter p
 |[],s=>by simp
 |x::xs,s=>by
  simp only[List.foldl_cons,List.filter_cons]
  cases p x<;>simp[Bv]
def Fj (y:Nat→α→List β):Nat→List α→List β
 |_,[]=>[]
 |i,x::xs=>y i x++Fj y (i+1) xs
end
def jH (z sep:ByteArray):List ByteArray:=Lib.splitB sep 0 (Lib.countB z sep) z
theorem VLs.x2 {ρ:List Nat}{so:List Ob}{u0 u1:V}{xs ys:List V}(h:VLs ρ so xs ys):VLs ρ so (u0::u1::xs) (.any:: .any::ys):= .c .a (.c .a h)
end Go.VK
