import Derived.Test.YtlnjelnfjgjanaaGreatEVftol
/-
  THE EVALUATOR's KIT, thirteenth part: operations that make memory. Plain theorems over any program; the conditions stand in each.
-/
set_option linter.unusedVariables false
set_option linter.unusedSimpArgs false
namespace Go.EV
open Go.RowKit Go.VK
variable {U:Uni} {Y:Lay U} {TI:List (Nat×TInfo)} {P:Program} {g:GI} {E:Env U g}
def kdL:Lf U→Option Kd
 | .int k _=>some (.int k)
 | .bool _=>some .bool
 | .str _=>some .str
 | .sl τ _=>some (.sl τ)
 |_=>none
theorem aY9 {cs:List (Lf U)}{ks:List Kd}(h:cs.map kdL=ks.map some):∀c∈cs,c.aAZ=true:=fun c hc=>by
 have h1:kdL c∈cs.map kdL:=List.mem_map.2 ⟨c,hc,rfl⟩
 rw[h] at h1
 obtain⟨k,_,hk⟩:=List.mem_map.1 h1
 cases c<;>first|rfl|cases hk
structure LayOk (Y:Lay U):Prop where
 kds:∀(τ:Nat) (x:U.El τ),(Y.C.cel τ x).map kdL=(Y.kd τ).map some
 pos:∀(τ τ':Nat),Kd.sl τ'∈Y.kd τ→0<U.K τ'
section
variable {s:St U} {a:Act} {w:World} {β:List Tr} {α:Type}
def SO (P:Program)(C:Cod U)(E:Env U g)(a:Act)(w:World)(o:Oper)(x:Sv U)(s':St U)(e:Bool):Prop:=
 ∀(K:Act→World→Prop) (Q:Exit→Act→World→Prop),(∀v w' β',aZ C E s' a w' β'→(o.dst≠none→x.mean C w' (E.X β') β' s'.m v)→(e=true→Ext w w')→K (a.put o.dst v) w')→o.wp P a w K Q
theorem SO.aCN (r:aZ Y.C E s a w β){o:Oper}{x:Sv U}(h:MO P Y.C E s a w β o.op x):SO P Y.C E a w o x s true:=fun K Q hK=>by
 obtain⟨v,h1,h2⟩:=h o rfl
 exact wpo (.inl (h1 w (Ext.refl w))) (hK v w β r (fun _=>h2) (fun _=>Ext.refl w))
theorem SO.soft {o:Oper}{x:Sv U}{s':St U}{e:Bool}{C:Cod U}(h:SO P C E a w o x s' e):SO P C E a w o x s' false:=fun K Q hK=>h K Q fun v w' β' h1 h2 _=>hK v w' β' h1 h2 (fun h=>by cases h)
theorem aZa (w:World)(cs:Array Value)(T:Nat):(w.alloc (.cells cs T)).heap[w.heap.size]? =some (.cells cs T (0,0)):=by simpa using heap_alloc_new w _
theorem aZ.aCC (r:aZ Y.C E s a w β){T:Nat}{vs:Array Value}{cs:List (Lf U)}(hM:Ms Y.C w (E.X β) β s.m vs.toList cs):
  ∃β',aZ Y.C E (psh s (.box T cs (cs.map fun _=>s.m.k))) a (w.alloc (.cells vs T)) β'∧(Lf.box (len s.m.o) 0:Lf U).mean Y.C (w.alloc (.cells vs T)) (E.X β') β' (psh s (.box T cs (cs.map fun _=>s.m.k))).m (.pointer (some ⟨w.heap.size,0,none⟩)):=by
 have he:Ext w (w.alloc (.cells vs T)):=Ext.alloc _ _
 have r':=r.add he [(⟨.box T cs (cs.map fun _=>s.m.k),s.m.k,s.m.k⟩,⟨some w.heap.size,0,0,[]⟩)] (by simp) (by simp[Tr.all]) (by simp[Tr.all]) (fun hev x hx=>by
  simp at hx;subst hx
  exact⟨by simp,w.heap.size,vs.toList,rfl,rfl,by simpa using aZa w vs T,hM.go hev⟩)
 refine⟨_,r',rfl,⟨.box T cs (cs.map fun _=>s.m.k),s.m.k,s.m.k⟩,⟨some w.heap.size,0,0,[]⟩,?_,?_,fun _=>⟨_,rfl,rfl⟩⟩
 ·simp[psh,bC]
 ·rw[List.getElem?_append_right (by rw[r.hp.len,bC];exact Nat.le_refl _),r.hp.len,bC];simp
theorem aVv (r:aZ Y.C E s a w β){o:Oper}{T:TypeId}{x:Operand}(ho:o.op= .box T x){cs:List (Lf U)}(hp:parts (rR s x)=some cs)(h1:zM cs=true):
  SO P Y.C E a w o (.l (.box (len s.m.o) 0)) (psh s (.box T cs (cs.map fun _=>s.m.k))) true:=fun K Q hK=>by
 have hM:=(vJ (iK r (x:=x)) hp h1).1
 obtain⟨β',r1,r2⟩:=r.aCC (T:=T) hM
 refine wpo (w':=w.alloc (.cells (a.eval x).cells T)) (v:= .pointer (some ⟨w.heap.size,0,none⟩)) (.inl ?_) (hK _ _ β' r1 (fun _=>r2) (fun _=>Ext.alloc _ _))
 simp[execOp,ho,Instr.box,newVar,newRow]
theorem aO5 (hTI:pM P TI=true)(r:aZ Y.C E s a w β){o:Oper}{T:TypeId}{i:TInfo}(ho:o.op= .alloc T)(hf:iP TI T=some i):
  SO P Y.C E a w o (.l (.box (len s.m.o) 0)) (psh s (.box T (i.z.map Kz.lf) (i.z.map fun _=>s.m.k))) true:=fun K Q hK=>by
 obtain⟨j,z,k3,k4,k5⟩:=aDm (bH hTI hf)
 have hM:Ms Y.C w (E.X β) β s.m z.cells.toList (i.z.map Kz.lf):=Ia k5
 obtain⟨β',r1,r2⟩:=r.aCC (T:=T) hM
 have e:((i.z.map (Kz.lf:Kz→Lf U)).map fun _=>s.m.k)=i.z.map fun _=>s.m.k:=by simp
 rw[e] at r1 r2
 refine wpo (w':=w.alloc (.cells z.cells T)) (v:= .pointer (some ⟨w.heap.size,0,none⟩)) (.inl ?_) (hK _ _ β' r1 (fun _=>r2) (fun _=>Ext.alloc _ _))
 simp[execOp,ho,Instr.alloc,zeroValue,typeInfo,k3,k4,newVar,newRow]
theorem aZ.aCG (r:aZ Y.C E s a w β){τ n:Nat}{cells:Array Value}{l:List (U.El τ)}{d:Bool}(hk:0<U.K τ)(hn:l.length=n)(hm:n≤maxLen)(hsz:cells.size=n*U.K τ)
  (hO:OwL Y.C w (E.X β) d cells.toList (l.map (Y.C.cel τ)).flatten []):
  ∃β',aZ Y.C E (psh s (.tree τ d l)) a (w.alloc (.cells cells τ)) β'∧(Lf.own (len s.m.o) s.m.k:Lf U).mean Y.C (w.alloc (.cells cells τ)) (E.X β') β' (psh s (.tree τ d l)).m (.slice (some ⟨w.heap.size,0,none⟩) n n):=by
 have he:Ext w (w.alloc (.cells cells τ)):=Ext.alloc _ _
 have r':=r.add he [(⟨.tree τ d l,s.m.k,s.m.k⟩,⟨some w.heap.size,n,n,[]⟩)] (by simp) (by simp[Tr.all]) (by simp[Tr.all]) (fun hev x hx=>by
  simp at hx;subst hx
  refine⟨hk,cells.toList,?_,hO.conv hev.sz hev.hX hev.hc (by simp)⟩
  rw[hn];exact World.ownsRow_lit w cells n (Nat.zero_le _) hm hsz)
 refine⟨_,r',⟨Nat.le_refl _,rfl⟩,⟨.tree τ d l,s.m.k,s.m.k⟩,⟨some w.heap.size,n,n,[]⟩,?_,?_,fun _=>rfl⟩
 ·simp[psh,bC]
 ·rw[List.getElem?_append_right (by rw[r.hp.len,bC];exact Nat.le_refl _),r.hp.len,bC];simp
theorem OwL.flatten {C:Cod U}{X:Nat→Prop}{d:Bool}:∀{vss:List (List Value)} {xss:List (List (Lf U))},vss.length=xss.length→(∀(i:Nat) (vs:List Value) (xs:List (Lf U)),vss[i]? =some vs→xss[i]? =some xs→OwL C w X d vs xs [])→OwL C w X d vss.flatten xss.flatten []
 |[],[],_,_=> .n
 |[],_::_,h,_=>by simp at h
 |_::_,[],h,_=>by simp at h
 |vs::vss,xs::xss,h,h1=>by
  have:=OwL.app (h1 0 vs xs rfl rfl) (OwL.flatten (vss:=vss) (xss:=xss) (by simpa using h) fun i vs xs a b=>h1 (i+1) vs xs (by simpa using a) (by simpa using b))
  simpa using this
theorem aO6 (hY:LayOk Y)(r:aZ Y.C E s a w β){e:Nat}:∀{ks:List Kd} {zs:List Kz} {ds:List (Lf U)} {vs:List Value},rds s.m ks (zs.map Kz.lf)=some ds→aRq vs zs=true→(∀τ',Kd.sl τ'∈ks→0<U.K τ')→OwL Y.C w (E.X β) true vs ds []
 |[],[],ds,[],h,_,_=>by simp only[List.map_nil,rds,Option.some.injEq] at h;subst h;exact .n
 |[],_::_,_,_,h,_,_=>by cases h
 |_::_,[],_,_,h,_,_=>by cases h
 |_,[],_,_::_,_,h,_=>by cases h
 |_,_::_,_,[],_,h,_=>by cases h
 |kd::ks,z::zs,ds,v::vs,h,hz,hp=>by
  simp only[List.map_cons,rds] at h
  simp only[aRq,Bool.and_eq_true] at hz
  cases h1:rdn s.m kd (z.lf:Lf U) with
  |none=>simp[h1] at h
  |some y=>
   cases h2:rds s.m ks (zs.map (Kz.lf:Kz→Lf U)) with
   |none=>simp[h1,h2] at h
   |some ys=>
    simp only[h1,h2,Option.some.injEq] at h
    subst h
    have hm:(z.lf:Lf U).mean Y.C w (E.X β) β s.m v:=aT5 hz.1
    have ho:Ow Y.C w (E.X β) true v y []:=by
     cases z with
     |int k=>simp only[Kz.lf,rdn,pJ,Option.some.injEq] at h1;subst h1;obtain⟨rfl,q1,q2⟩:=hm;exact .int q1 q2
     |bool=>simp only[Kz.lf,rdn,pJ,Option.some.injEq] at h1;subst h1;obtain rfl:=hm;exact .bool
     |str=>simp only[Kz.lf,rdn,pJ,Option.some.injEq] at h1;subst h1;obtain⟨rfl,q1⟩:=hm;exact .str q1
     |nil=>
      obtain rfl:=hm
      cases kd with
      |sl τ=>
       simp only[Kz.lf,rdn,Option.some.injEq] at h1;subst h1
       exact .sl K7 (hp τ (by simp)) (World.ownsRow_nil w 0 τ (U.K τ)) .n
      |_=>cases h1
    have:=OwL.c ho (aO6 hY r (e:=e) h2 hz.2 (fun τ' hh=>hp τ' (by simp[hh])))
    simpa using this
theorem aVw {x y:Operand}(h:aEg x y=true):x=y:=by
 cases x<;>cases y<;>simp only[aEg] at h
 ·rw[Nat.eq_of_beq_eq_true h]
 all_goals first|cases h|skip
 rename_i v u
 split at h<;>simp_all
theorem aRs (hTI:pM P TI=true)(hY:LayOk Y)(r:aZ Y.C E s a w β){o:Oper}{t:TypeId}{x y:Operand}{e ek eb k:Nat}{zz:List Kz}{i:TInfo}{n:Int}{ds:List (Lf U)}{z:U.El e}(ho:o.op= .makeSlice t x y)
  (h1:iP TI t=some ⟨.sl e ek eb,k,zz⟩) (h2:iP TI e=some i) (h3:dP s x= .l (.int .i64 n)) (h4:aEg x y=true) (h5:Nat.ble eb 2048=true) (h6:Hw (U:=U) e ek e=true) (h7:rds s.m (Y.kd e) (i.z.map Kz.lf)=some ds) (h8:Y.C.bld e ds=some z) (hg:bFq n):
  SO P Y.C E a w o (.l (.own (len s.m.o) s.m.k)) (psh s (.tree e true (List.replicate n.toNat z))) true:=fun K Q hK=>by
 have hsl:=(zZ (bH hTI h1) rfl).1
 obtain⟨hu',ii,zv,hii,hz',hik,hib,hzk,hk0⟩:=eX hsl
 obtain⟨j,zc,k3,k4,k5⟩:=aDm (bH hTI h2)
 rw[hii] at k3;injection k3 with k3;subst k3
 rw[hz'] at k4;injection k4 with k4;subst k4
 simp only[Hw,Bool.and_eq_true] at h6
 have hKe:U.K e=ek:=Nat.eq_of_beq_eq_true h6.2
 have hb':eb≤2048:=Nat.le_of_ble_eq_true h5
 have hnn:((n.toNat:Nat):Int)=n:=Int.toNat_of_nonneg hg.1
 have hN:n.toNat≤68719476736:=by have:=hg.2;omega
 have hb:(ii.bytes:Int)*n≤281474976710656:=by
  have h:((ii.bytes*n.toNat:Nat):Int)≤281474976710656:=by
   rw[hib]
   have:eb*n.toNat≤2048*68719476736:=Nat.mul_le_mul hb' hN
   omega
  rw[Int.natCast_mul,hnn] at h;exact h
 have hxv:a.eval x= .int .i64 n:=(kP r h3).1
 have hyv:a.eval y= .int .i64 n:=by rw[←aVw h4];exact hxv
 have hrun:=run_make (P:=P) w t e ii zv hu' hii hz' .i64 .i64 n n hg.1 (Int.le_refl _) hb (by have:=hg.2;omega)
 rw[hik,←hKe] at hrun
 have hO:OwL Y.C w (E.X β) true zv.cells.toList (Y.C.cel e z) []:=by
  have:=aO6 hY r (e:=e) h7 k5 (fun τ' hh=>hY.pos e τ' hh)
  rw[Y.C.hmk e ds z h8] at this;exact this
 have hcells:(madeCells zv.cells (n.toNat*U.K e)).toList=(List.replicate n.toNat zv.cells.toList).flatten:=by
  apply List.ext_getElem?
  intro q
  have hKz:zv.cells.size=U.K e:=by rw[hzk,hKe]
  have hkp:0<U.K e:=by rw[hKe];exact hk0
  by_cases hq:q<n.toNat*U.K e
  ·obtain⟨q0,q1,hq1,rfl⟩:∃q0 q1,q1<U.K e∧q=q0*U.K e+q1:=⟨q/U.K e,q%U.K e,Nat.mod_lt _ hkp,by rw[Nat.mul_comm];exact(Nat.div_add_mod q _).symm⟩
   have hdiv:q0<n.toNat:=Nat.lt_of_mul_lt_mul_right (Nat.lt_of_le_of_lt (Nat.le_add_right _ _) hq)
   obtain⟨l1,l2,_,_,f3,f4⟩:=Wx (f:=fun(_:Unit)=>zv.cells.toList) (k:=U.K e) (fun _=>by simp[hKz]) (l:=List.replicate n.toNat ()) (i:=q0) (x:=()) (by rw[List.getElem?_replicate,if_pos hdiv])
   have em:((List.replicate n.toNat ()).map fun(_:Unit)=>zv.cells.toList)=List.replicate n.toNat zv.cells.toList:=by simp
   rw[em] at f3
   have hR:(List.replicate n.toNat zv.cells.toList).flatten[q0*U.K e+q1]? =zv.cells.toList[q1]? :=by
    rw[f3,←f4,List.getElem?_append_right (Nat.le_add_right _ _),Nat.add_sub_cancel_left,List.getElem?_append_left (by simp[hKz];exact hq1)]
   rw[hR]
   have hm:(q0*U.K e+q1)%U.K e=q1:=by rw[Nat.mul_comm,Nat.mul_add_mod];exact Nat.mod_eq_of_lt hq1
   simp only[madeCells,Array.toList_map,List.getElem?_map,Array.toList_range,List.getElem?_range hq,Option.map_some,hKz,hm]
   rw[getElem!_pos zv.cells q1 (by rw[hKz];exact hq1)]
   simp[hKz,hq1]
  ·rw[List.getElem?_eq_none (by simp[size_madeCells];omega),List.getElem?_eq_none (by simp[hKz];omega)]
 obtain⟨β',r1,r2⟩:=r.aCG (τ:=e) (n:=n.toNat) (cells:=madeCells zv.cells (n.toNat*U.K e)) (l:=List.replicate n.toNat z) (d:=true) (by rw[hKe];exact hk0) (by simp) (by unfold maxLen;omega) (size_madeCells _ _) (by
  rw[hcells,List.map_replicate]
  exact OwL.flatten (by simp) fun i vs xs q1 q2=>by
   rw[List.getElem?_replicate] at q1 q2
   split at q1
   ·rw[if_pos ‹_›] at q2
    injection q1 with q1;injection q2 with q2;subst q1;subst q2;exact hO
   ·cases q1)
 refine wpo (w':=w.alloc (.cells (madeCells zv.cells (n.toNat*U.K e)) e)) (v:= .slice (some ⟨w.heap.size,0,none⟩) n.toNat n.toNat) (.inl ?_) (hK _ _ β' r1 (fun _=>r2) (fun _=>Ext.alloc _ _))
 simp only[execOp,ho,hxv,hyv,Sem.run_bind,hrun,Result.andThen_ok,Sem.run_pure]
end
end Go.EV

namespace Go.EV
open Go.RowKit Go.VK
variable {U:Uni} {Y:Lay U} {TI:List (Nat×TInfo)} {P:Program} {g:GI} {E:Env U g}
section
variable {s:St U} {a:Act} {w:World} {β:List Tr} {α:Type}
theorem aNf {t:Nat}{i:TInfo}(h:tiB P t i=true)(w:World):(sizeOf t).run P w= .ok i.k w:=by
 cases hi:i.u with
 |int k=>have:=Hz h hi;rw[this.2.2];exact(qH this.2.1).2
 |bool=>have:=Xf h hi;rw[this.2.2];exact(qH this.2.1).2
 |str=>have:=Dl h hi;rw[this.2.2];exact(qH this.2.1).2
 |sl e ek eb=>have:=zZ h hi;rw[this.2.2];exact(qH this.2.1).2
 |st fs=>exact(vD (Xg h hi).1).2
theorem Dp (hTI:pM P TI=true)(r:aZ Y.C E s a w β){o:Oper}{t:TypeId}{x y:Operand}{i:TInfo}{b off T rv cv:Nat}{cs ps:List (Lf U)}{us:List Nat}(ho:o.op= .store t x y)
  (h1:iP TI t=some i) (h2:dP s x= .l (.box b off)) (h3:parts (rR s y)=some ps) (h4:s.m.o[b]? =some ⟨.box T cs us,rv,cv⟩) (h5:ps.length=i.k) (h6:off+i.k≤cs.length) (h7:zM ps=true):
  ∃(w':World) (β':List Tr) (t':Tr) (bb:Nat),(execOp a.eval o).run P w= .ok .skip w'∧aZ Y.C E (trn s b (.box T (Wq cs off ps) (Wq us off (ps.map fun _=>Nat.succ s.m.k))) rv) a w' β'∧Evo w w' (E.X β) (E.X β') β β' s.m (trn s b (.box T (Wq cs off ps) (Wq us off (ps.map fun _=>Nat.succ s.m.k))) rv).m s.m.o.length s.m.ns.length s.m.k∧Bel (fun k=>k=bb) w w'∧β[b]? =some t'∧t'.b=some bb:=by
 have hti:=bH hTI h1
 obtain⟨hpm,hone⟩:=vJ (iK r (x:=y)) h3 h7
 have hxm:=kP r h2
 obtain⟨_,e',t',k1,k2,k3⟩:=hxm
 rw[h4] at k1;injection k1 with k1;subst k1
 obtain⟨bb,k4,k5⟩:=k3 rfl
 have hok:=r.hp.ok b t' _ k2 h4
 obtain⟨q0,b',vs,q1,q2,q3,q4⟩:=hok
 rw[k4] at q1;injection q1 with q1;subst q1
 have hl:off+(a.eval y).cells.toList.length≤vs.length:=by rw[hpm.1,h5,q4.1];exact h6
 have hrun:=J2 (P:=P) (T:=T) (t:=t) (b:=bb) (off:=off) (cur:=vs) (vs:=(a.eval y).cells.toList) (v:=a.eval y) (w:=w) (by simp) (by rw[hpm.1,h5];exact aNf hti w) q3 hl hone
 obtain⟨f1,f2,f3,f4,f5⟩:=De w bb (vs.take off++(a.eval y).cells.toList++vs.drop (off+(a.eval y).cells.toList.length)).toArray
 obtain⟨β',r1,_,hev⟩:=r.turn (J:=[]) (ob:= .box T (Wq cs off ps) (Wq us off (ps.map fun _=>Nat.succ s.m.k))) (rv:=rv) (t':=t') h4 k2 (by simp) (by rw[f1];exact Nat.le_refl _) f2 f3 f4
  (fun k _ hk=>f5 k (fun e=>hk (by rw[e];exact Tr.root k4))) (fun k hk=>⟨by rw[f1];exact(r.hp.new b t' k k2 hk).2, .inr (.inl hk)⟩) (r.hp.nd b t' k2) (.inl ⟨rfl,rfl⟩) (fun _=>⟨rfl,rfl⟩) (fun β' m' hev=>by
   have hcs:(Wq cs off ps).length=cs.length:=by
    rw[Dk _ _ _ (by rw[h5];exact h6)];simp;omega
   refine⟨?_,bb,_,k4,q2,setRow_heap _ _ _ _ _ _ q3,?_⟩
   ·rw[hcs,q0,Dk _ _ _ (by simp[h5];omega)];simp;omega
   ·have hg:=hpm.go hev
    have hq:=q4.go hev
    refine⟨by rw[hcs,←q4.1];simp only[List.length_append,List.length_take,List.length_drop];omega,fun j v c h8 h9=> ?_⟩
    rw[vE _ _ _ _ hl] at h8
    rw[Dk _ _ _ (by rw[h5];exact h6),vE _ _ _ _ (by rw[h5];exact h6)] at h9
    rw[hpm.1] at h8
    split at h8
    ·rename_i hj;rw[if_pos hj] at h9;exact hg.2 _ v c h8 h9
    ·rename_i hj;rw[if_neg hj] at h9;exact hq.2 _ v c h8 h9)
 refine⟨w.setRow bb (vs.take off++(a.eval y).cells.toList++vs.drop (off+(a.eval y).cells.toList.length)).toArray,β',t',bb,?_,r1,hev,⟨f2,f3,f4,by rw[f1];exact Nat.le_refl _,fun k _ hk=>f5 k hk⟩,k2,k4⟩
 simp only[execOp,ho,k5,Instr.storeAt,Instr.sureAddr,Sem.run_bind,Sem.run_pure,Result.andThen_ok,hrun]
theorem aEw (hTI:pM P TI=true)(r:aZ Y.C E s a w β){o:Oper}{t:TypeId}{x y:Operand}{i:TInfo}{b off T rv cv:Nat}{cs ps:List (Lf U)}{us:List Nat}(ho:o.op= .store t x y)
  (h1:iP TI t=some i) (h2:dP s x= .l (.box b off)) (h3:parts (rR s y)=some ps) (h4:s.m.o[b]? =some ⟨.box T cs us,rv,cv⟩) (h5:ps.length=i.k) (h6:off+i.k≤cs.length) (h7:zM ps=true):
  SO P Y.C E a w o (.l .any) (trn s b (.box T (Wq cs off ps) (Wq us off (ps.map fun _=>Nat.succ s.m.k))) rv) false:=fun K Q hK=>by
 obtain⟨w',β',t',bb,e1,r1,_,_,_,_⟩:=Dp hTI r ho h1 h2 h3 h4 h5 h6 h7
 exact wpo (.inr ⟨e1,rfl⟩) (hK _ _ β' r1 (fun _=>trivial) (fun h=>by cases h))
theorem aVx {A M M' D:List Nat}(h:(A++(M++D)).Nodup)(hM:M'.Nodup)(hd:∀x,x∈M'→x∉A++(M++D)):(A++(M'++D)).Nodup:=by
 rw[List.nodup_append] at h ⊢
 obtain⟨h1,h2,h3⟩:=h
 rw[List.nodup_append] at h2
 obtain⟨h4,h5,h6⟩:=h2
 refine⟨h1,?_,fun x hx y hy=> ?_⟩
 ·rw[List.nodup_append]
  refine⟨hM,h5,fun x hx y hy e=> ?_⟩
  subst e
  exact hd x hx (by simp[hy])
 ·rcases List.mem_append.1 hy with hy|hy
  ·rintro rfl
   exact hd x hy (by simp[hx])
  ·exact h3 x hx y (by simp[hy])
theorem aRt {α:Type}(l:List α)(off n:Nat)(h:off+n≤l.length):l=l.take off++((l.drop off).take n++l.drop (off+n))∧(l.take off).length=off∧((l.drop off).take n).length=n:=by
 refine⟨?_,by simp;omega,by simp;omega⟩
 rw[←List.drop_drop,List.take_append_drop,List.take_append_drop]
theorem aK5 {C:Cod U}{X:Nat→Prop}{d d':Bool}{t:Tr}{b τ q off:Nat}{L:List (U.El τ)}{z z':U.El τ}{xs vs:List Value}{ds:List (Lf U)}{D:List Nat}(hb:t.b=some b)
  (hown:w.ownsRow 0 τ (U.K τ) t.val L.length xs) (hc:OwL C w X d xs (L.map (C.cel τ)).flatten t.bs) (hz:L[q]? =some z) (hD:OwL C w X d' vs ds D) (hl:off+vs.length≤U.K τ)
  (h9:C.cel τ z'=(C.cel τ z).take off++(ds++(C.cel τ z).drop (off+vs.length))):
  ∃(cur:Array Value) (A M Z:List Nat),w.heap[b]? =some (.cells cur τ (0,0))∧q*U.K τ+off+vs.length≤cur.toList.length∧t.bs=A++(M++Z)∧
   ∀(w':World) (X':Nat→Prop),w.heap.size≤w'.heap.size→(∀b,b<w.heap.size→X' b→X b)→(∀(p:Addr) (u:Value),¬X p.block→w.cell? p=some u→w'.cell? p=some u)→
    w'.heap[b]? =some (.cells (cur.toList.take (q*U.K τ+off)++vs++cur.toList.drop (q*U.K τ+off+vs.length)).toArray τ (0,0))→(∀k,k≠b→w'.heap[k]? =w.heap[k]?)→b∉t.bs→b∉D→
    ∃xs',w'.ownsRow 0 τ (U.K τ) t.val L.length xs'∧OwL C w' X' (d&&d') xs' ((L.set q z').map (C.cel τ)).flatten (A++(D++Z)):=by
 obtain⟨l1,l2,x1,xz,x2,B1,Bz,B2,g1,g2,g3,g4,g5,g6,o1,o2,o3⟩:=aM8 hc hz
 obtain⟨s1,s2,s3⟩:=aRt (C.cel τ z) off vs.length (by rw[C.hlen];exact hl)
 rw[s1] at o2
 obtain⟨z1,zr,Bz1,Bzr,e1,e2,p1,p2⟩:=OwL.split o2
 obtain⟨z2,z3,Bz2,Bz3,e3,e4,p3,p4⟩:=OwL.split p2
 have hz1:z1.length=off:=by rw[p1.len,s2]
 have hz2:z2.length=vs.length:=by rw[p3.len,s3]
 rcases dM hown with⟨b1,_⟩|⟨b',cur,b1,b2,b3,b4,b5,b6,b7⟩
 ·rw[hb] at b1;cases b1
 rw[hb] at b1;injection b1 with b1;subst b1
 have hxs:cur.toList=(x1++(xz++x2))++cur.toList.drop (L.length*U.K τ):=by
  rw[←g3,←b7,List.take_append_drop]
 have hcur:cur.toList=(x1++z1)++(z2++(z3++(x2++cur.toList.drop (L.length*U.K τ)))):=by
  rw[e1,e3] at hxs
  simpa[List.append_assoc] using hxs
 have hpos:q*U.K τ+off=(x1++z1).length:=by rw[List.length_append,g4,hz1]
 have hnew:cur.toList.take (q*U.K τ+off)++vs++cur.toList.drop (q*U.K τ+off+vs.length)=(x1++((z1++(vs++z3))++x2))++cur.toList.drop (L.length*U.K τ):=by
  rw[hpos]
  rw[show cur.toList.take (x1++z1).length=x1++z1 by rw[hcur,List.take_left]]
  rw[show cur.toList.drop ((x1++z1).length+vs.length)=z3++(x2++cur.toList.drop (L.length*U.K τ)) by
   rw[←List.drop_drop]
   conv=>lhs;rw[hcur]
   rw[List.drop_left,←hz2,List.drop_left]]
  simp[List.append_assoc]
 refine⟨cur,B1++Bz1,Bz2,Bz3++B2,b5,by rw[hcur,hpos];simp;omega,by rw[g6,e2,e4];simp,fun w' X' c1 c2 c3 c4 c5 c6 c7=> ?_⟩
 rw[hnew] at c4
 have hne:∀k,(k∈B1∨k∈Bz1∨k∈Bz3∨k∈B2)→w'.heap[k]? =w.heap[k]? :=fun k hk=>c5 k fun e=>by
  subst e;apply c6;rw[g6,e2,e4];rcases hk with h|h|h|h<;>simp[h]
 have hlx:(x1++((z1++(vs++z3))++x2)).length=L.length*U.K τ:=by
  have:=hown.1
  rw[g3,e1,e3] at this
  simp only[List.length_append] at this ⊢
  rw[←hz2];omega
 have hset:L.set q z'=l1++z'::l2:=by rw[g1,←g2];simp
 refine⟨x1++((z1++(vs++z3))++x2),⟨hlx, .inr ⟨b,t.c,_,?_,Nat.zero_le _,c4,b3,b4,?_,?_⟩⟩,?_⟩
 ·simp[Tr.val,hb,b2]
 ·have hh:cur.size=cur.toList.length:=by simp
  rw[←b6,hh]
  simp only[List.size_toArray,List.length_append,List.length_drop]
  simp only[List.length_append] at hlx
  have:L.length*U.K τ≤cur.toList.length:=by rw[←hh,b6];exact Nat.mul_le_mul_right _ b3
  omega
 ·simp only[List.toList_toArray]
  rw[←hlx,List.take_left]
 ·rw[hset,List.map_append,List.flatten_append,List.map_cons,List.flatten_cons,h9]
  have hsoft:(d&&d')=true→d=true:=fun h=>by simp at h;exact h.1
  have hsoft':(d&&d')=true→d'=true:=fun h=>by simp at h;exact h.2
  rw[show(B1++Bz1)++(D++(Bz3++B2))=B1++((Bz1++(D++Bz3))++B2) by simp]
  exact OwL.app ((o1.conv c1 c2 c3 (fun k hk=>hne k (.inl hk))).fl hsoft)
   (OwL.app (OwL.app ((p1.conv c1 c2 c3 (fun k hk=>hne k (.inr (.inl hk)))).fl hsoft)
    (OwL.app ((hD.conv c1 c2 c3 (fun k hk=>c5 k fun e=>c7 (e▸hk))).fl hsoft') ((p4.conv c1 c2 c3 (fun k hk=>hne k (.inr (.inr (.inl hk))))).fl hsoft)))
    ((o3.conv c1 c2 c3 (fun k hk=>hne k (.inr (.inr (.inr hk))))).fl hsoft))
theorem bCu {C:Cod U}{X:Nat→Prop}{d:Bool}{B:List Nat}{τ τ' q j:Nat}{L:List (U.El τ)}{z:U.El τ}{l:List (U.El τ')}{xs:List Value}(hc:OwL C w X d xs (L.map (C.cel τ)).flatten B)(hz:L[q]? =some z)(hj:(C.cel τ z)[j]? =some (.sl τ' l)):
  ∃(v:Value) (A B0 Z:List Nat),xs[q*U.K τ+j]? =some v∧Ow C w X d v (.sl τ' l) B0∧B=A++(B0++Z)∧
   ∀(w':World) (X':Nat→Prop) (d2:Bool) (l':List (U.El τ')) (z2:U.El τ) (B':List Nat),w.heap.size≤w'.heap.size→(∀b,b<w.heap.size→X' b→X b)→(∀(p:Addr) (u:Value),¬X p.block→w.cell? p=some u→w'.cell? p=some u)→
    (∀k,k∈A∨k∈Z→w'.heap[k]? =w.heap[k]?)→(d2=true→d=true)→Ow C w' X' d2 v (.sl τ' l') B'→C.cel τ z2=(C.cel τ z).take j++(.sl τ' l'::(C.cel τ z).drop (j+1))→OwL C w' X' d2 xs ((L.set q z2).map (C.cel τ)).flatten (A++(B'++Z)):=by
 obtain⟨l1,l2,x1,xz,x2,B1,Bz,B2,g1,g2,g3,g4,g5,g6,o1,o2,o3⟩:=aM8 hc hz
 have hjl:j<(C.cel τ z).length:=lt_of_some hj
 have s1:C.cel τ z=(C.cel τ z).take j++((.sl τ' l)::(C.cel τ z).drop (j+1)):=by
  rw[List.getElem?_eq_getElem hjl] at hj;injection hj with hj
  rw[←hj,←List.drop_eq_getElem_cons hjl,List.take_append_drop]
 rw[s1] at o2
 obtain⟨z1,zr,Bz1,Bzr,e1,e2,p1,p2⟩:=OwL.split o2
 have hz1:z1.length=j:=by rw[p1.len,List.length_take];omega
 cases p2 with
 | @c v _ B0 Br vs _ hv hr=>
  refine⟨v,B1++Bz1,B0,Br++B2,?_,hv,by rw[g6,e2];simp,fun w' X' d2 l' z2 B' c1 c2 c3 c4 c5 c6 c7=> ?_⟩
  ·rw[g3,e1,←g4,List.getElem?_append_right (Nat.le_add_right _ _),Nat.add_sub_cancel_left,List.append_assoc,←hz1,List.getElem?_append_right (Nat.le_refl _),Nat.sub_self];rfl
  ·rw[show L.set q z2=l1++z2::l2 by rw[g1,←g2];simp,List.map_append,List.flatten_append,List.map_cons,List.flatten_cons,c7,g3,e1]
   rw[show(B1++Bz1)++(B'++(Br++B2))=B1++((Bz1++(B'++Br))++B2) by simp]
   exact OwL.app ((o1.conv c1 c2 c3 (fun k hk=>c4 k (.inl (by simp[hk])))).fl c5)
    (OwL.app (OwL.app ((p1.conv c1 c2 c3 (fun k hk=>c4 k (.inl (by simp[hk])))).fl c5) (.c c6 ((hr.conv c1 c2 c3 (fun k hk=>c4 k (.inr (by simp[hk])))).fl c5)))
     ((o3.conv c1 c2 c3 (fun k hk=>c4 k (.inr (by simp[hk])))).fl c5))
theorem aO7 {ids:List Nat}{b:Nat}{t t2:Tr}(r:aZ Y.C E s a w β)(k2:β[b]? =some t)(hJ:(b::ids).Nodup){A M Z:List Nat}(h1:t.all=A++(M++Z))(h2:t2.all=A++(iY β ids++Z)):
  t2.all.Nodup∧(∀k∈t2.all,k<w.heap.size∧(w.heap.size≤k∨k∈t.all∨∃j∈ids,∃u,β[j]? =some u∧k∈u.all))∧∀k,k∈iY β ids→k∉t.all:=by
 have hdisj:∀k,k∈iY β ids→k∉t.all:=fun k hk hk'=>by
  obtain⟨j,hj,u,hu,hub⟩:=uQ hk
  exact r.hp.dist j b u t k (fun e=>(List.nodup_cons.1 hJ).1 (e▸hj)) hu k2 hub hk'
 refine⟨?_,fun k hk=> ?_,hdisj⟩
 ·rw[h2];exact aVx (h1▸r.hp.nd b t k2) (aNe r.hp (List.nodup_cons.1 hJ).2) (fun k hk=>h1▸hdisj k hk)
 ·have:k∈t.all∨k∈iY β ids:=by
   rw[h2] at hk;rw[h1];simp only[List.mem_append] at hk ⊢
   rcases hk with h|h|h
   ·exact .inl (.inl h)
   ·exact .inr h
   ·exact .inl (.inr (.inr h))
  rcases this with h|h
  ·exact⟨(r.hp.new b t k k2 h).2, .inr (.inl h)⟩
  ·obtain⟨j,hj,u,hu,hub⟩:=uQ h
   exact⟨(r.hp.new j u k hu hub).2, .inr (.inr ⟨j,hj,u,hu,hub⟩)⟩
theorem aB4 (hTI:pM P TI=true)(hY:LayOk Y)(r:aZ Y.C E s a w β){o:Oper}{t:TypeId}{x y:Operand}{i:TInfo}{b c τ off rv cv:Nat}{q:Int}{z z':U.El τ}{d d':Bool}{L:List (U.El τ)}{ps ds:List (Lf U)}{ids:List Nat}(ho:o.op= .store t x y)
  (h1:iP TI t=some i) (h2:dP s x= .l (.oel b c τ q z off)) (h3:parts (rR s y)=some ps) (h4:s.m.o[b]? =some ⟨.tree τ d L,rv,cv⟩) (hcv:cv=c) (h5:ps.length=i.k) (h6:off+i.k≤U.K τ) (h7:zM ps=true)
  (h8:J6 s.m ((((Y.kd τ).drop off).take i.k)) ps=some (ds,ids,d')) (hJ:(b::ids).Nodup) (h9:Y.C.bld τ (Wq (Y.C.cel τ z) off ds)=some z'):
  SO P Y.C E a w o (.l .any) ⟨s.t,⟨Nn (Nat.succ s.m.k) ids (upd s.m.o b ⟨.tree τ (d&&d') (L.set q.toNat z'),rv,Nat.succ s.m.k⟩),Nat.succ s.m.k,s.m.ns⟩,s.fr⟩ false:=fun K Q hK=>by
 have hti:=bH hTI h1
 obtain⟨hpm,hone⟩:=vJ (iK r (x:=y)) h3 h7
 obtain⟨_,e',t',k1,k2,k3⟩:=kP r h2
 rw[h4] at k1;injection k1 with k1;subst k1
 obtain⟨d0,L0,bb,a1,a2,a3,a4,a5⟩:=k3 hcv
 injection a1 with _ a1 a1'
 subst a1;subst a1'
 obtain⟨hk0,xs,c1,c2⟩:=r.hp.ok b t' _ k2 h4
 have hO:=Ab r.hp h8 hpm (fun kd hk τ' e=>hY.pos τ τ' (by subst e;exact List.mem_of_mem_drop (List.mem_of_mem_take hk)))
 have hvl:(a.eval y).cells.toList.length=i.k:=by rw[hpm.1,h5]
 have hdl:ds.length=i.k:=by rw[←hO.len,hvl]
 obtain⟨cur,A,M,Z,f1,f2,f3,f4⟩:=aK5 (d':=d') a4 c1 c2 a3 hO (by rw[hvl];exact h6) (z':=z') (by rw[←Y.C.hmk τ _ z' h9,Dk _ _ _ (by rw[hdl,Y.C.hlen];exact h6),hdl,hvl,List.append_assoc])
 have hrun:=J2 (P:=P) (T:=τ) (t:=t) (b:=bb) (off:=q.toNat*U.K τ+off) (cur:=cur.toList) (vs:=(a.eval y).cells.toList) (v:=a.eval y) (w:=w) (by simp) (by rw[hvl];exact aNf hti w) (by simpa using f1) f2 hone
 generalize hN:(cur.toList.take (q.toNat*U.K τ+off)++(a.eval y).cells.toList++cur.toList.drop (q.toNat*U.K τ+off+(a.eval y).cells.toList.length)).toArray=N at hrun f4
 obtain⟨n1,n2,n3,n4,n5⟩:=De w bb N
 have hall:t'.all=(bb::A)++(M++Z):=by simp[Tr.all,a4,f3]
 let t2:Tr:=⟨t'.b,t'.n,t'.c,A++(iY β ids++Z)⟩
 obtain⟨m1,m2,m3⟩:=aO7 (t2:=t2) r k2 hJ hall (by simp[t2,Tr.all,a4])
 have hnd:=r.hp.nd b t' k2
 have hbs:bb∉t'.bs:=fun h=>by simp[Tr.all,a4] at hnd;exact hnd.1 h
 obtain⟨β',r1,_,_⟩:=r.turn (J:=ids) (ob:= .tree τ (d&&d') (L.set q.toNat z')) (rv:=rv) (t':=t2) h4 k2 hJ (by rw[n1];exact Nat.le_refl _) n2 n3 n4
  (fun k _ hk=>n5 k (fun e=>hk (by rw[e];exact Tr.root a4))) (fun k hk=>⟨by rw[n1];exact(m2 k hk).1,(m2 k hk).2⟩) m1 (.inl ⟨rfl,rfl⟩) (fun h=>by cases h) (fun β' m' hev=>by
   obtain⟨xs',p1,p2⟩:=f4 _ (E.X β') hev.sz hev.hX hev.hc (setRow_heap _ _ _ _ _ _ f1) n5 hbs (fun h=>m3 _ h (Tr.root a4))
   exact⟨hk0,xs',by rw[List.length_set];exact p1,p2⟩)
 refine wpo (w':=w.setRow bb N) (v:=undef) (.inr ⟨?_,rfl⟩) (hK _ _ β' r1 (fun _=>trivial) (fun h=>by cases h))
 simp only[execOp,ho,a5,Instr.storeAt,Instr.sureAddr,Sem.run_bind,Sem.run_pure,Result.andThen_ok,hrun]
theorem aI5 (hTI:pM P TI=true)(hY:LayOk Y)(r:aZ Y.C E s a w β){o:Oper}{t:TypeId}{x y:Operand}{i:TInfo}{b c τ τ' j off rv cv:Nat}{q q':Int}{z z3:U.El τ}{z' z2:U.El τ'}{l:List (U.El τ')}{d d':Bool}{L:List (U.El τ)}{ps ds:List (Lf U)}{ids:List Nat}(ho:o.op= .store t x y)
  (h1:iP TI t=some i) (h2:dP s x= .l (.oin b c τ q z j τ' l q' z' off)) (h3:parts (rR s y)=some ps) (h4:s.m.o[b]? =some ⟨.tree τ d L,rv,cv⟩) (hcv:cv=c) (h5:ps.length=i.k) (h6:off+i.k≤U.K τ') (h7:zM ps=true)
  (h8:J6 s.m ((((Y.kd τ').drop off).take i.k)) ps=some (ds,ids,d')) (hJ:(b::ids).Nodup) (h9:Y.C.bld τ' (Wq (Y.C.cel τ' z') off ds)=some z2) (h10:Y.C.bld τ (upd (Y.C.cel τ z) j (.sl τ' (l.set q'.toNat z2)))=some z3):
  SO P Y.C E a w o (.l .any) ⟨s.t,⟨Nn (Nat.succ s.m.k) ids (upd s.m.o b ⟨.tree τ (d&&d') (L.set q.toNat z3),rv,Nat.succ s.m.k⟩),Nat.succ s.m.k,s.m.ns⟩,s.fr⟩ false:=fun K Q hK=>by
 have hti:=bH hTI h1
 obtain⟨hpm,hone⟩:=vJ (iK r (x:=y)) h3 h7
 obtain⟨_,e',t',k1,k2,k3⟩:=kP r h2
 rw[h4] at k1;injection k1 with k1;subst k1
 obtain⟨L0,xs,v0,b2,n',c',a1,a2,a3,a4,a5,a6,a7,a8,a9,a10⟩:=k3 hcv
 injection a1 with _ a1 a1'
 subst a1;subst a1'
 obtain⟨hk0,xs1,c1,c2⟩:=r.hp.ok b t' _ k2 h4
 obtain rfl:=aOu a5 c1
 have hO:=Ab r.hp h8 hpm (fun kd hk τ2 e=>hY.pos τ' τ2 (by subst e;exact List.mem_of_mem_drop (List.mem_of_mem_take hk)))
 have hvl:(a.eval y).cells.toList.length=i.k:=by rw[hpm.1,h5]
 have hdl:ds.length=i.k:=by rw[←hO.len,hvl]
 obtain⟨v1,A,B0,Z,d1,d2,d3,d4⟩:=bCu c2 a3 a4
 rw[a6] at d1;injection d1 with d1;subst d1
 cases d2 with
 |fz hd=>cases hd
 |su hd=>cases hd
 |sl u hk hown hc=>
  have hub:=bEy a7
  obtain⟨cur,A1,M,Z1,f1,f2,f3,f4⟩:=aK5 (d':=d') hub hown hc a9 hO (by rw[hvl];exact h6) (z':=z2) (by rw[←Y.C.hmk τ' _ z2 h9,Dk _ _ _ (by rw[hdl,Y.C.hlen];exact h6),hdl,hvl,List.append_assoc])
  have hrun:=J2 (P:=P) (T:=τ') (t:=t) (b:=b2) (off:=q'.toNat*U.K τ'+off) (cur:=cur.toList) (vs:=(a.eval y).cells.toList) (v:=a.eval y) (w:=w) (by simp) (by rw[hvl];exact aNf hti w) (by simpa using f1) f2 hone
  generalize hN:(cur.toList.take (q'.toNat*U.K τ'+off)++(a.eval y).cells.toList++cur.toList.drop (q'.toNat*U.K τ'+off+(a.eval y).cells.toList.length)).toArray=N at hrun f4
  obtain⟨n1,n2,n3,n4,n5⟩:=De w b2 N
  let u2:Tr:=⟨u.b,u.n,u.c,A1++(iY β ids++Z1)⟩
  let t2:Tr:=⟨t'.b,t'.n,t'.c,A++(u2.all++Z)⟩
  have hall:t'.all=(t'.b.toList++(A++(b2::A1)))++(M++(Z1++Z)):=by simp[Tr.all,d3,f3,hub]
  obtain⟨m1,m2,m3⟩:=aO7 (t2:=t2) r k2 hJ hall (by simp[t2,u2,Tr.all,hub])
  have hin:b2∈t'.all:=by rw[hall];simp
  have hnd:=r.hp.nd b t' k2
  have hall2:t'.all=(t'.b.toList++A)++(b2::(u.bs++Z)):=by simp[Tr.all,d3,hub]
  rw[hall2,List.nodup_append,List.nodup_cons] at hnd
  have hA:∀k,k∈t'.b.toList∨k∈A∨k∈Z→k≠b2:=fun k hk e=>by
   subst e
   rcases hk with h|h|h
   ·exact hnd.2.2 k (by simp[h]) k (by simp) rfl
   ·exact hnd.2.2 k (by simp[h]) k (by simp) rfl
   ·exact hnd.2.1.1 (by simp[h])
  obtain⟨β',r1,_,_⟩:=r.turn (J:=ids) (ob:= .tree τ (true&&d') (L.set q.toNat z3)) (rv:=rv) (t':=t2) h4 k2 hJ (by rw[n1];exact Nat.le_refl _) n2 n3 n4
   (fun k _ hk=>n5 k (fun e=>hk (by rw[e];exact hin))) (fun k hk=>⟨by rw[n1];exact(m2 k hk).1,(m2 k hk).2⟩) m1 (.inl ⟨rfl,rfl⟩) (fun h=>by cases h) (fun β' m' hev=>by
    obtain⟨ys,p1,p2⟩:=f4 _ (E.X β') hev.sz hev.hX hev.hc (setRow_heap _ _ _ _ _ _ f1) n5 (fun h=>hnd.2.1.1 (by simp[h])) (fun h=>m3 _ h hin)
    refine⟨hk0,xs,by rw[List.length_set];exact lF c1 (fun k hk=>n5 k (hA k (.inl (by rw[show t'.b=some k from hk];simp)))),?_⟩
    refine d4 _ (E.X β') (true&&d') (l.set q'.toNat z2) z3 u2.all hev.sz hev.hX hev.hc (fun k hk=>n5 k (hA k (.inr hk))) (fun _=>rfl) (.sl u2 hk (by rw[List.length_set];exact p1) p2) ?_
    rw[←Y.C.hmk τ _ z3 h10,bK,List.set_eq_take_append_cons_drop,if_pos (lt_of_some a4)])
  refine wpo (w':=w.setRow b2 N) (v:=undef) (.inr ⟨?_,rfl⟩) (hK _ _ β' r1 (fun _=>trivial) (fun h=>by cases h))
  simp only[execOp,ho,a10,Instr.storeAt,Instr.sureAddr,Sem.run_bind,Sem.run_pure,Result.andThen_ok,hrun]
end
end Go.EV

namespace Go.EV
open Go.RowKit Go.VK
variable {U:Uni} {Y:Lay U} {TI:List (Nat×TInfo)} {P:Program} {g:GI} {E:Env U g}
section
variable {s:St U} {a:Act} {w:World} {β:List Tr} {α:Type}
theorem aEx {t:TypeId}{e k bts n:Nat}{ps:Array (Nat×Operand)}{vs:List Value}(ht:slB P t e k bts=true)(hn:vs.length=n)(h24:n*k≤16777216)(hps:(ps.toList.map fun(i,x)=>(i,a.eval x))=(vs.zipIdx 0|>.map fun(v,j)=>(j,v)))(hsz:∀v∈vs,v.cells.size=k){o:Oper}(ho:o.op= .buildSlice t n ps):
  ∃cells:Array Value,(execOp a.eval o).run P w= .ok (.value (.slice (some ⟨w.heap.size,0,none⟩) n n)) (w.alloc (.cells cells e))∧cells.toList=(vs.map fun v=>v.cells.toList).flatten:=by
 obtain⟨hu,i,z,hi,hz,hik,hib,hzk,hk0⟩:=eX ht
 have hz0:∃zc:Array Value,(if n*k=0 then(pure #[]:Sem (Array Value)) else do pure (←zeroValue e).cells).run P w= .ok zc w:=by
  by_cases h:n*k=0
  ·exact⟨#[],by simp[h]⟩
  ·exact⟨z.cells,by simp[h,zeroValue,typeInfo,hi,hz]⟩
 obtain⟨zc,hzc⟩:=hz0
 obtain⟨res,r1,r2,r3,r4⟩:=J4 k vs 0 ((Array.range (n*k)).map (zc[·%zc.size]!)) hsz (by simp[hn])
 have r2':res.size=n*k:=by rw[r2];simp
 refine⟨res,?_,?_⟩
 ·have hp:((ps.map fun(i,x)=>(i,a.eval x)):Array (Nat×Value)).toList=((vs.zipIdx 0).map fun(v,j)=>(j,v)):=by
   rw[←hps];simp
  simp only[execOp,ho,Instr.buildSlice,Sem.run_bind,run_underlying hu,Result.andThen_ok]
  have hs:(sizeOf e).run P w= .ok k w:=by simp[sizeOf,typeInfo,hi,hik]
  simp only[hs,Result.andThen_ok]
  rw[if_neg (by omega)]
  by_cases h:n*k=0
  ·have hzc':zc= #[]:=by simp[h] at hzc;exact hzc
   subst hzc'
   simp only[h,if_true,Sem.run_bind,Sem.run_pure,Result.andThen_ok]
   rw[h] at r1
   simp only[hp,r1,newRow,Sem.run_bind,run_newObj,Sem.run_pure,Result.andThen_ok]
   rfl
  ·simp only[h,if_false,Sem.run_bind,Sem.run_pure] at hzc ⊢
   have hzc':((zeroValue e).run P w).andThen (fun a w'=>Result.ok a.cells w')= .ok zc w:=hzc
   have hz2:(zeroValue e).run P w= .ok z w:=by simp[zeroValue,typeInfo,hi,hz]
   rw[hz2] at hzc'
   simp only[Result.andThen_ok,Result.ok.injEq,and_true] at hzc'
   simp only[hz2,Result.andThen_ok,hzc',hp,r1,newRow,Sem.run_bind,run_newObj,Sem.run_pure]
   rfl
 ·have hlen:(vs.map fun v=>v.cells.toList).flatten.length=n*k:=by
   have:∀(vs:List Value),(∀v∈vs,v.cells.size=k)→(vs.map fun v=>v.cells.toList).flatten.length=vs.length*k:=by
    intro vs
    induction vs with
    |nil=>simp
    |cons v vs ih=>
     intro h
     simp only[List.map_cons,List.flatten_cons,List.length_append,Array.length_toList,h v (by simp),ih (fun v hv=>h v (by simp[hv])),List.length_cons,Nat.add_mul];omega
   rw[this vs hsz,hn]
  apply List.ext_getElem?
  intro q
  by_cases hq:q<n*k
  ·obtain⟨q0,q1,hq1,rfl⟩:∃q0 q1,q1<k∧q=q0*k+q1:=⟨q/k,q%k,Nat.mod_lt _ hk0,by rw[Nat.mul_comm];exact(Nat.div_add_mod q _).symm⟩
   have hdiv:q0<n:=Nat.lt_of_mul_lt_mul_right (Nat.lt_of_le_of_lt (Nat.le_add_right _ _) hq)
   have hv:vs[q0]? =some (vs[q0]'(by omega)):=List.getElem?_eq_getElem _
   have h4:=r4 q0 q1 _ hv hq1
   rw[Nat.zero_add] at h4
   have key:∀(vs:List Value) (q0:Nat) (v:Value),(∀v∈vs,v.cells.size=k)→vs[q0]? =some v→(vs.map fun v=>v.cells.toList).flatten[q0*k+q1]? =v.cells.toList[q1]? :=by
    intro vs
    induction vs with
    |nil=>intro q0 v _ h;simp at h
    |cons u vs ih=>
     intro q0 v h hv
     cases q0 with
     |zero=>
      simp at hv;subst hv
      simp only[List.map_cons,List.flatten_cons,Nat.zero_mul,Nat.zero_add]
      rw[List.getElem?_append_left (by simp[h u (by simp)];exact hq1)]
     |succ q0=>
      simp only[List.map_cons,List.flatten_cons]
      have hu:u.cells.toList.length=k:=by simp[h u (by simp)]
      rw[show(q0+1)*k+q1=u.cells.toList.length+(q0*k+q1) by rw[hu,Nat.add_mul];omega,List.getElem?_append_right (Nat.le_add_right _ _),Nat.add_sub_cancel_left]
      exact ih q0 v (fun v hv=>h v (by simp[hv])) (by simpa using hv)
   rw[key vs q0 _ hsz hv]
   simpa using h4
  ·rw[List.getElem?_eq_none (by simp[r2'];omega),List.getElem?_eq_none (by omega)]
theorem aVy (hY:LayOk Y)(r:aZ Y.C E s a w β){e:Nat}{x:Operand}{z:U.El e}{ids:List Nat}{d:Bool}(h:bCi Y s e (dP s x)=some (z,ids,d)):
  OwL Y.C w (E.X β) d (a.eval x).cells.toList (Y.C.cel e z) (iY β ids):=by
 unfold bCi at h
 cases hp:parts (dP s x) with
 |none=>simp[hp] at h
 |some cs=>
  cases hab:J6 s.m (Y.kd e) cs with
  |none=>simp[hp,hab] at h
  |some q=>
   obtain⟨ds,ids',d'⟩:=q
   cases hb:Y.C.bld e ds with
   |none=>simp[hp,hab,hb] at h
   |some z'=>
    simp only[hp,hab,hb,Option.some.injEq,Prod.mk.injEq] at h
    obtain⟨rfl,rfl,rfl⟩:=h
    rw[←Y.C.hmk e ds z' hb]
    have hm:=vH r (x:=x)
    cases ho:dP s x with
    |l y=>
     rw[ho] at hm hp
     simp only[parts,Option.some.injEq] at hp
     subst hp
     cases hk:Y.kd e with
     |nil=>rw[hk] at hab;cases hab
     |cons kd ks=>
      rw[hk] at hab
      simp only[J6] at hab
      cases h1:aOn s.m kd y with
      |none=>simp[h1] at hab
      |some q1=>
       obtain⟨y',i1,d1⟩:=q1
       have ho:=aK4 r.hp h1 hm (fun τ e'=>hY.pos e τ (by rw[hk,e'];simp))
       have:(a.eval x).cells= #[a.eval x]:=Nk ho.one
       rw[this]
       refine Ab r.hp (ks:=kd::ks) (xs:=[y]) (by simp only[J6];exact hab) ⟨rfl,fun i u c h5 h6=> ?_⟩ (fun kd' hkd τ e'=>hY.pos e τ (by rw[hk];subst e';exact hkd))
       cases i with
       |zero=>simp at h5 h6;subst h5;subst h6;exact hm
       |succ i=>simp at h5
    |a ds'=>
     rw[ho] at hm hp
     simp only[parts,Option.some.injEq] at hp
     subst hp
     obtain⟨vs,hv,hM⟩:=hm
     rw[hv]
     exact Ab r.hp hab hM (fun kd' hkd τ e'=>hY.pos e τ (by subst e';exact hkd))
    |t xs=>rw[ho] at hp;cases hp
theorem Tc (hY:LayOk Y)(r:aZ Y.C E s a w β){e:Nat}:∀{ps:List (Nat×Operand)} {n:Nat} {l:List (U.El e)} {ids:List Nat} {d:Bool},Re Y s e n ps=some (l,ids,d)→
  ∃vs:List Value,(ps.map fun(i,x)=>(i,a.eval x))=(vs.zipIdx n|>.map fun(v,j)=>(j,v))∧vs.length=ps.length∧l.length=ps.length∧(∀v∈vs,v.cells.size=U.K e)∧OwL Y.C w (E.X β) d (vs.map fun v=>v.cells.toList).flatten (l.map (Y.C.cel e)).flatten (iY β ids)
 |[],n,l,ids,d,h=>by
  simp only[Re,Option.some.injEq,Prod.mk.injEq] at h
  obtain⟨rfl,rfl,rfl⟩:=h
  exact⟨[],rfl,rfl,rfl,by simp, .n⟩
 |(i,x)::ps,n,l,ids,d,h=>by
  simp only[Re] at h
  cases hb:Nat.beq i n with
  |false=>simp[hb] at h
  |true=>
   have hin:i=n:=Nat.eq_of_beq_eq_true hb
   subst hin
   simp only[hb,cond_true] at h
   cases h1:bCi Y s e (dP s x) with
   |none=>simp[h1] at h
   |some q=>
    obtain⟨z,i1,d1⟩:=q
    cases h2:Re Y s e (Nat.succ i) ps with
    |none=>simp[h1,h2] at h
    |some q2=>
     obtain⟨zs,i2,d2⟩:=q2
     simp only[h1,h2,Option.some.injEq,Prod.mk.injEq] at h
     obtain⟨rfl,rfl,rfl⟩:=h
     obtain⟨vs,k1,k2,k3,k4,k5⟩:=Tc hY r h2
     have hO:=aVy hY r h1
     refine⟨a.eval x::vs,by simp[List.zipIdx_cons,k1],by simp[k2],by simp[k3],fun v hv=> ?_,?_⟩
     ·rcases List.mem_cons.1 hv with rfl|hv
      ·have:=hO.len;rw[Y.C.hlen] at this;simpa using this
      ·exact k4 v hv
     ·rw[Xk]
      simp only[List.map_cons,List.flatten_cons]
      exact OwL.app (hO.fl (by simp;exact fun h _=>h)) (k5.fl (by simp))
theorem aO8 (hTI:pM P TI=true)(hY:LayOk Y)(r:aZ Y.C E s a w β){o:Oper}{t:TypeId}{n e ek eb k:Nat}{zz:List Kz}{ps:Array (Nat×Operand)}{l:List (U.El e)}{ids:List Nat}{d:Bool}(ho:o.op= .buildSlice t n ps)
  (h1:iP TI t=some ⟨.sl e ek eb,k,zz⟩) (h2:ps.toList.length=n) (h3:n*ek≤16777216) (h4:Hw (U:=U) e ek e=true) (h5:Re Y s e 0 ps.toList=some (l,ids,d)) (hJ:(s.m.o.length::ids).Nodup):
  SO P Y.C E a w o (.l (.own (len s.m.o) s.m.k)) ⟨s.t,⟨Nn (Nat.succ s.m.k) ids (upd (s.m.o++[⟨.dead,s.m.k,s.m.k⟩]) (len s.m.o) ⟨.tree e d l,s.m.k,Nat.succ s.m.k⟩),Nat.succ s.m.k,s.m.ns⟩,s.fr⟩ true:=fun K Q hK=>by
 have hsl:=(zZ (bH hTI h1) rfl).1
 obtain⟨_,_,_,_,_,_,_,_,hk0⟩:=eX hsl
 simp only[Hw,Bool.and_eq_true] at h4
 have hKe:U.K e=ek:=Nat.eq_of_beq_eq_true h4.2
 obtain⟨vs,k1,k2,k3,k4,k5⟩:=Tc hY r h5
 rw[hKe] at k4
 obtain⟨cells,q1,q2⟩:=aEx (w:=w) hsl (k2.trans h2) h3 k1 k4 ho
 have he:Ext w (w.alloc (.cells cells e)):=Ext.alloc _ _
 have hnm:n≤maxLen:=by
  have:n*1≤n*ek:=Nat.mul_le_mul_left _ hk0
  unfold maxLen;omega
 have r1:=r.add he [((⟨.dead,s.m.k,s.m.k⟩:EO U),(⟨some w.heap.size,n,n,[]⟩:Tr))] (by simp) (by simp[Tr.all]) (by simp[Tr.all]) (fun _ x hx=>by simp at hx;subst hx;trivial)
 have hli:(s.m.o++[(⟨.dead,s.m.k,s.m.k⟩:EO U)])[s.m.o.length]? =some ⟨.dead,s.m.k,s.m.k⟩:=by simp
 have hlb:(β++[(⟨some w.heap.size,n,n,[]⟩:Tr)])[s.m.o.length]? =some ⟨some w.heap.size,n,n,[]⟩:=by rw[←r.hp.len];simp
 have hidl:∀j∈ids,∀u,(β++[(⟨some w.heap.size,n,n,[]⟩:Tr)])[j]? =some u→β[j]? =some u:=fun j hj u hu=>by
  have hne:j≠s.m.o.length:=fun e=>(List.nodup_cons.1 hJ).1 (e▸hj)
  by_cases hl:j<β.length
  ·rwa [List.getElem?_append_left hl] at hu
  ·have:=lt_of_some hu
   simp at this
   rw[r.hp.len] at this hl;omega
 have hbl:iY (β++[(⟨some w.heap.size,n,n,[]⟩:Tr)]) ids=iY β ids:=by
  unfold iY
  congr 1
  apply List.map_congr_left
  intro j hj
  by_cases hl:j<β.length
  ·rw[List.getElem?_append_left hl]
  ·have hne:j≠s.m.o.length:=fun e=>(List.nodup_cons.1 hJ).1 (e▸hj)
   rw[List.getElem?_eq_none (by simp;rw[r.hp.len] at hl ⊢;omega),List.getElem?_eq_none (by omega)]
 obtain⟨β',r2,r3,r4⟩:=r1.turn (w':=w.alloc (.cells cells e)) (J:=ids) (ob:= .tree e d l) (rv:=s.m.k) (t':=⟨some w.heap.size,n,n,iY β ids⟩) hli hlb hJ (Nat.le_refl _) rfl rfl rfl (fun _ _ _=>rfl)
  (fun b hb=>by
   simp only[Tr.all,Option.toList_some,List.cons_append,List.nil_append,List.mem_cons] at hb
   rcases hb with rfl|hb
   ·exact⟨by simp, .inr (.inl (by simp[Tr.all]))⟩
   ·obtain⟨j,hj,u,hu,hub⟩:=uQ hb
    have:=(r.hp.new j u b hu hub).2
    refine⟨by simp;omega, .inr (.inr ⟨j,hj,u,?_,hub⟩)⟩
    rw[List.getElem?_append_left (lt_of_some hu)];exact hu)
  (by
   simp only[Tr.all,Option.toList_some,List.cons_append,List.nil_append]
   rw[List.nodup_cons]
   refine⟨fun hb=> ?_,aNe r.hp (List.nodup_cons.1 hJ).2⟩
   obtain⟨j,_,u,hu,hub⟩:=uQ hb
   have:=(r.hp.new j u _ hu hub).2;omega)
  (.inl ⟨rfl,rfl⟩) (fun h=>by cases h) (fun β' m' hev=>by
   refine⟨by rw[hKe];exact hk0,cells.toList,?_,?_⟩
   ·rw[k3,h2]
    exact World.ownsRow_lit w cells n (Nat.zero_le _) hnm (by
     have hc:cells.size=cells.toList.length:=by simp
     rw[hc,q2,k5.len,Ht (Y.C.hlen e),k3,h2])
   ·rw[q2]
    have hX0:∀b,b<w.heap.size→E.X (β++[(⟨some w.heap.size,n,n,[]⟩:Tr)]) b→E.X β b:=fun b hb hx=>by
     rcases hx with h|h|⟨u,hu,hub⟩
     ·exact .inl h
     ·exact .inr (.inl h)
     ·rcases List.mem_append.1 hu with hu|hu
      ·exact .inr (.inr ⟨u,hu,hub⟩)
      ·simp at hu;subst hu;simp[Tr.all] at hub;omega
    exact k5.conv he.size (fun b hb hx=>hX0 b hb (hev.hX b (Nat.lt_of_lt_of_le hb he.size) hx)) (fun p u _ hc=>he.cell hc) (fun b hb=>by
     obtain⟨j,_,u,hu,hub⟩:=uQ hb
     exact he.block b (r.hp.new j u b hu hub).2))
 rw[←bC] at r2 r3
 refine wpo (w':=w.alloc (.cells cells e)) (v:= .slice (some ⟨w.heap.size,0,none⟩) n n) (.inl q1) (hK _ _ β' r2 (fun _=> ?_) (fun _=>he))
 refine⟨⟨Nat.le_succ _,rfl⟩,⟨.tree e d l,s.m.k,Nat.succ s.m.k⟩,_,?_,r3,fun _=>rfl⟩
 rw[uP (by rw[bC];exact(List.nodup_cons.1 hJ).1),bK,List.getElem?_set_self (by rw[bC];simp)]
end
end Go.EV

namespace Go.EV
open Go.RowKit Go.VK
variable {U:Uni} {Y:Lay U} {TI:List (Nat×TInfo)} {P:Program} {g:GI} {E:Env U g}
section
variable {s:St U} {a:Act} {w:World} {β:List Tr} {α:Type}
theorem aT8 {α β:Type}{f:α→List β}{k:Nat}(hk:∀x,(f x).length=k)(h0:0<k):∀{l:List α} {q:Nat} {c:β},(l.map f).flatten[q]? =some c→∃x,l[q/k]? =some x∧(f x)[q%k]? =some c
 |[],q,c,h=>by simp at h
 |x::l,q,c,h=>by
  simp only[List.map_cons,List.flatten_cons] at h
  by_cases hq:q<k
  ·rw[List.getElem?_append_left (by rw[hk];exact hq)] at h
   exact⟨x,by rw[Nat.div_eq_of_lt hq];rfl,by rw[Nat.mod_eq_of_lt hq];exact h⟩
  ·rw[List.getElem?_append_right (by rw[hk];omega),hk] at h
   obtain⟨y,h1,h2⟩:=aT8 hk h0 h
   have e:q=q-k+k:=by omega
   refine⟨y,?_,?_⟩
   ·rw[e,Nat.add_div_right _ h0];simpa using h1
   ·rw[e,Nat.add_mod_right];exact h2
theorem OwL.aCO {C:Cod U}{X:Nat→Prop}{d:Bool}:∀{vs:List Value} {xs:List (Lf U)},vs.length=xs.length→(∀(i:Nat) (v:Value) (x:Lf U),vs[i]? =some v→xs[i]? =some x→Ow C w X d v x [])→OwL C w X d vs xs []
 |[],[],_,_=> .n
 |[],_::_,h,_=>by simp at h
 |_::_,[],h,_=>by simp at h
 |v::vs,x::xs,h,h1=>by
  have:=OwL.c (h1 0 v x rfl rfl) (OwL.aCO (by simpa using h) fun i v x a b=>h1 (i+1) v x (by simpa using a) (by simpa using b))
  simpa using this
theorem aK6:∀{l:List Kd},aEc l=false↔∀τ,Kd.sl τ∉l
 |[]=>by simp[aEc]
 |x::l=>by
  have e:aEc (x::l)=cond x.aCT true (aEc l):=rfl
  rw[e]
  cases x with
  |sl τ=>exact⟨fun h=>(by cases h),fun h=>absurd List.mem_cons_self (h τ)⟩
  |_=>simp only[Kd.aCT,cond_false,List.mem_cons,reduceCtorEq,false_or];exact aK6
theorem aK7 (hY:LayOk Y){τ:Nat}(h:aEd Y τ=true){z:U.El τ}{c:Lf U}(hc:c∈Y.C.cel τ z):∀τ' l,c≠ .sl τ' l:=fun τ' l e=>by
 subst e
 have h':aEc (Y.kd τ)=false:=by
  unfold aEd at h;cases ha:aEc (Y.kd τ) with
  |false=>rfl
  |true=>rw[ha] at h;cases h
 have hk:=hY.kds τ z
 have:some (Kd.sl τ')∈(Y.kd τ).map some:=by rw[←hk];exact List.mem_map.2 ⟨_,hc,rfl⟩
 obtain⟨k,hk1,hk2⟩:=List.mem_map.1 this
 injection hk2 with hk2;subst hk2
 exact aK6.1 h' τ' hk1
theorem aRu (Y:Lay U){τ:Nat}{z:U.El τ}:lV (U.enc τ z)=true:=by
 rw[←Y.C.hcel]
 have:∀(cs:List (Lf U)),(∀c∈cs,c.aAZ=true)→lV (cs.map Lf.toV)=true:=by
  intro cs
  induction cs with
  |nil=>intro _;rfl
  |cons c cs ih=>intro h;simp only[List.map_cons,lV,Bool.and_eq_true];exact⟨Lf.aBZ (h c (by simp)),ih fun c hc=>h c (by simp[hc])⟩
 exact this _ (Y.C.hdat τ z)
theorem aK8 (hY:LayOk Y){e:Nat}(hk:0<U.K e){X Z:Nat→Prop}{d:Bool}{v:Value}{l:List (U.El e)}(h:Rd w Z [] v (.slice (U.K e) (l.map (U.enc e))))(hd:aEd Y e=true∨(d=false∧∀b,X b→Z b)):
  ∃(A:Option Addr) (c:Nat) (news:List Value),v= .slice A l.length c∧news.length=l.length*U.K e∧(l.length=0∨∃p,A=some p∧∀j u,news[j]? =some u→w.cell? (p.add j)=some u)∧OwL Y.C w X d news (l.map (Y.C.cel e)).flatten []:=by
 obtain⟨A,c,xs,h1,h2,h3,h4,h5,h6⟩:=aKs h (fun e' he=>by
  obtain⟨z,_,rfl⟩:=List.mem_map.1 he
  exact aRu Y)
 rw[List.length_map] at h1 h2
 refine⟨A,c,xs,h1,h2,h3.imp (fun hn=>by simpa using congrArg List.length hn) id,OwL.aCO (by rw[h2,Ht (Y.C.hlen e)]) fun q u x hu hx=> ?_⟩
 obtain⟨z,q1,q2⟩:=aT8 (Y.C.hlen e) hk hx
 have hz:(l.map (U.enc e))[q/U.K e]? =some (U.enc e z):=by rw[List.getElem?_map,q1];rfl
 have hc:(U.enc e z)[q%U.K e]? =some x.toV:=by rw[←Y.C.hcel,List.getElem?_map,q2];rfl
 obtain⟨u',k1,k2⟩:=h6 _ _ _ _ hz hc
 have hq:q/U.K e*U.K e+q%U.K e=q:=by rw[Nat.mul_comm];exact Nat.div_add_mod q _
 rw[hq,hu] at k1
 injection k1 with k1;subst k1
 have hmem:=List.mem_of_getElem? q2
 have hdat:=Y.C.hdat e z x hmem
 cases x with
 |int k n=>obtain⟨rfl,a1,a2⟩:=k2.aAN;exact .int a1 a2
 |bool b=>obtain rfl:=k2.aAV;exact .bool
 |str b=>obtain⟨rfl,a1⟩:=k2.aAW;exact .str a1
 |sl τ' l'=>
  rcases hd with hd|⟨hd,hX⟩
  ·exact absurd rfl (aK7 hY hd hmem τ' l')
  ·exact .fz hd (Rd.conv k2 (Nat.le_refl _) (fun b _ hb=>hX b hb) (fun _ _ _ h=>h) (fun _ _ h=>h))
 |_=>cases hdat
theorem aVz {i j r:Nat}(h:aA4 i (.own j r:Lf U)=true):j≠i:=fun e=>by
 subst e
 have:aA4 j (.own j r:Lf U)=cond (Nat.beq j j) false true:=rfl
 rw[this,show Nat.beq j j=true from Nat.beq_refl j] at h;cases h
theorem aZb (r:aZ Y.C E s a w β){e i:Nat}(hke:0<U.K e){x:Operand}{px:Lf U}{d:Bool}{l:List (U.El e)}{s1:St U}(hx:dP s x= .l px)(h:apD s e px=some (i,d,l,s1)):
  ∃β1 t rv cv,aZ Y.C E s1 a w β1∧s1.t=s.t∧s1.m.ns=s.m.ns∧s1.fr=s.fr∧β1[i]? =some t∧s1.m.o[i]? =some ⟨.tree e d l,rv,cv⟩∧a.eval x=t.val∧rv≤s1.m.k:=by
 have hm:=kP r hx
 cases px with
 |nil=>
  simp only[apD,Option.some.injEq,Prod.mk.injEq] at h
  obtain⟨rfl,rfl,rfl,rfl⟩:=h
  have r1:=r.add (Ext.refl w) [((⟨.tree e true [],s.m.k,s.m.k⟩:EO U),K7)] (by simp) (by simp[mH]) (by simp[mH]) (fun hev x hx=>by
   simp at hx;subst hx
   exact⟨hke,[],World.ownsRow_nil w 0 e (U.K e), .n⟩)
  refine⟨_,K7,s.m.k,s.m.k,r1,rfl,rfl,rfl,?_,?_,?_,Nat.le_refl _⟩
  ·rw[bC,←r.hp.len];simp
  ·simp[psh,bC]
  ·have hm':a.eval x= .slice none 0 0:=hm
   rw[hm'];rfl
 |own j q=>
  simp only[apD,aP] at h
  obtain⟨_,e',t,k1,k2,k3⟩:=hm
  simp only[k1] at h
  obtain⟨ob,rv,cv⟩:=e'
  cases ob with
  |tree τ d0 l0=>
   cases hb:Nat.beq rv q with
   |false=>simp[hb] at h
   |true=>
    simp only[hb,cond_true] at h
    cases hs:I7 e τ l0 with
    |none=>simp[hs] at h
    |some l1=>
     simp only[hs,Option.some.injEq,Prod.mk.injEq] at h
     obtain⟨rfl,rfl,rfl,rfl⟩:=h
     obtain⟨rfl,hh⟩:=kR hs
     obtain rfl:=eq_of_heq hh
     exact⟨β,t,rv,cv,r,rfl,rfl,rfl,k2,k1,k3 (Nat.eq_of_beq_eq_true hb),(r.hp.vers _ _ k1).1⟩
  |_=>cases h
 |_=>cases h
theorem aO9 (hY:LayOk Y)(r:aZ Y.C E s a w β){e i:Nat}(hke:0<U.K e){py:Lf U}{v:Value}{l:List (U.El e)}{ids:List Nat}{d:Bool}(hm:py.mean Y.C w (E.X β) β s.m v)(h:apS Y s.m e i py=some (l,ids,d)):
  (i::ids).Nodup∧∃(A:Option Addr) (c:Nat) (news:List Value),v= .slice A l.length c∧news.length=l.length*U.K e∧(l.length=0∨∃p,A=some p∧∀j u,news[j]? =some u→w.cell? (p.add j)=some u)∧∃B,OwL Y.C w (E.X β) d news (l.map (Y.C.cel e)).flatten B∧(∀b∈B,b∈iY β ids)∧B.Nodup:=by
 by_cases hn:py= .nil
 ·subst hn
  simp only[apS,Option.some.injEq,Prod.mk.injEq] at h
  obtain⟨rfl,rfl,rfl⟩:=h
  obtain rfl:=hm
  exact⟨by simp,none,0,[],rfl,by simp, .inl rfl,[], .n,by simp,List.nodup_nil⟩
 ·have h':(bif aEd Y e then(match pJ s.m py with
   |some (.sl τ l)=>match I7 e τ l with
    |some l=>bif aA4 i py then some (l,[],true) else none
    |none=>none
   |_=>none) else(match py with
   | .sl τ l=>match I7 e τ l with
    |some l=>some (l,[],false)
    |none=>none
   | .own j r=>match nth s.m.o j with
    |some ⟨.tree τ d l,rv,_⟩=>bif Nat.beq rv r&&aA4 i py then(match I7 e τ l with
     |some l=>some (l,[j],d)
     |none=>none) else none
    |_=>none
   |_=>none))=some (l,ids,d):=by
   cases py<;>first|exact absurd rfl hn|exact h
  cases hf:aEd Y e with
  |true=>
   rw[hf] at h'
   simp only[cond_true] at h'
   split at h'
   ·rename_i τ l0 hr
    cases hs:I7 e τ l0 with
    |none=>simp[hs] at h'
    |some l1=>
     simp only[hs] at h'
     cases hni:aA4 i py with
     |false=>simp[hni] at h'
     |true=>
      simp only[hni,cond_true,Option.some.injEq,Prod.mk.injEq] at h'
      obtain⟨rfl,rfl,rfl⟩:=h'
      obtain⟨rfl,hh⟩:=kR hs
      obtain rfl:=eq_of_heq hh
      have hrd:=(zY r.hp hm hr (Z:=fun _=>False) (fun _ h=>h.elim) (.inr fun _ _ _ _ _ h=>h)).2
      obtain⟨A,c,news,q1,q2,q3,q4⟩:=aK8 (X:=E.X β) (d:=true) hY hke hrd (.inl hf)
      exact⟨by simp,A,c,news,q1,q2,q3,[],q4,by simp,List.nodup_nil⟩
   ·cases h'
  |false=>
   rw[hf] at h'
   simp only[cond_false] at h'
   cases py with
   |nil=>exact absurd rfl hn
   |sl τ l0=>
    simp only at h'
    cases hs:I7 e τ l0 with
    |none=>simp[hs] at h'
    |some l1=>
     simp only[hs,Option.some.injEq,Prod.mk.injEq] at h'
     obtain⟨rfl,rfl,rfl⟩:=h'
     obtain⟨rfl,hh⟩:=kR hs
     obtain rfl:=eq_of_heq hh
     obtain⟨A,c,news,q1,q2,q3,q4⟩:=aK8 (X:=E.X β) (d:=false) hY hke (Z:=E.X β) hm (.inr ⟨rfl,fun _ h=>h⟩)
     exact⟨by simp,A,c,news,q1,q2,q3,[],q4,by simp,List.nodup_nil⟩
   |own j q=>
    simp only at h'
    split at h'
    ·rename_i τ d0 l0 rv cv ho
     rw[aP] at ho
     cases hb:(Nat.beq rv q&&aA4 i (.own j q:Lf U)) with
     |false=>rw[hb] at h';cases h'
     |true=>
      rw[hb] at h'
      simp only[cond_true] at h'
      simp only[Bool.and_eq_true] at hb
      cases hs:I7 e τ l0 with
      |none=>simp[hs] at h'
      |some l1=>
       simp only[hs,Option.some.injEq,Prod.mk.injEq] at h'
       obtain⟨rfl,rfl,rfl⟩:=h'
       obtain⟨rfl,hh⟩:=kR hs
       obtain rfl:=eq_of_heq hh
       obtain⟨_,e',t,k1,k2,k3⟩:=hm
       rw[ho] at k1;injection k1 with k1;subst k1
       have hv:=k3 (Nat.eq_of_beq_eq_true hb.1)
       have hok:=r.hp.ok j t _ k2 ho
       obtain⟨_,xs,c1,c2⟩:=hok
       have hbl:iY β [j]=t.all:=by simp[iY,k2]
       have hsub:∀b∈t.bs,b∈iY β [j]:=fun b hb'=>by rw[hbl];simp[Tr.all,hb']
       have hnd:t.bs.Nodup:=(List.nodup_append.1 (r.hp.nd j t k2)).2.1
       refine⟨by simp;exact(aVz hb.2).symm,?_⟩
       rcases dM c1 with⟨b1,b2,b3,b4,b5⟩|⟨b,cur,b1,b2,b3,b4,b5,b6,b7⟩
       ·have:l0=[]:=List.eq_nil_of_length_eq_zero b2
        subst this
        exact⟨none,0,xs,by rw[hv];simp[Tr.val,b1,b4,b5],c1.1, .inl rfl,t.bs,c2,hsub,hnd⟩
       ·exact⟨some ⟨b,0,none⟩,t.c,xs,by rw[hv];simp[Tr.val,b1,b2],c1.1, .inr ⟨_,rfl,fun j u hu=>nV c1 b1 hu⟩,t.bs,c2,hsub,hnd⟩
    ·cases h'
   |_=>cases h'
theorem bCv {e k n:Nat}{v:Value}{xs:List Value}{w:World}(h:w.ownsRow 0 e k v n xs)(bs:List Nat):∃t:Tr,t.val=v∧t.b=v.ownBlock∧t.bs=bs:=by
 rcases h.2 with⟨rfl,_⟩|⟨gg,cap,cur,rfl,_⟩
 ·exact⟨⟨none,0,0,bs⟩,rfl,rfl,rfl⟩
 ·exact⟨⟨some gg,n,cap,bs⟩,rfl,rfl,rfl⟩
theorem aNg (hTI:pM P TI=true)(hY:LayOk Y)(r:aZ Y.C E s a w β){o:Oper}{t:TypeId}{x y:Operand}{e ek eb k i:Nat}{zz:List Kz}{px py:Lf U}{d d':Bool}{l l':List (U.El e)}{s1:St U}{ids:List Nat}
  (ho:o.op= .call {callee:= .builtin .append,args:= #[x,y],argTypes:= #[t,t]}) (h1:iP TI t=some ⟨.sl e ek eb,k,zz⟩) (h2:Nat.ble eb 2048=true) (h3:Hw (U:=U) e ek e=true) (h4:dP s x= .l px) (h5:dP s y= .l py)
  (h6:apD s e px=some (i,d,l,s1)) (h7:apS Y s1.m e i py=some (l',ids,d')) (hg:aS l l'):
  SO P Y.C E a w o (.l (.own i (Nat.succ s1.m.k))) ⟨s1.t,⟨Nn (Nat.succ s1.m.k) ids (upd s1.m.o i ⟨.tree e (d&&d') (l++l'),Nat.succ s1.m.k,Nat.succ s1.m.k⟩),Nat.succ s1.m.k,s1.m.ns⟩,s1.fr⟩ false:=fun K Q hK=>by
 have hsl:=(zZ (bH hTI h1) rfl).1
 obtain⟨_,_,_,_,_,_,_,_,hk0⟩:=eX hsl
 simp only[Hw,Bool.and_eq_true] at h3
 have hKe:U.K e=ek:=Nat.eq_of_beq_eq_true h3.2
 have hke:0<U.K e:=by rw[hKe];exact hk0
 obtain⟨β1,tr,rv,cv,r1,e1,e2,e3,e4,e5,e6,_⟩:=aZb r hke h4 h6
 have h5':dP s1 y= .l py:=by
  rw[←h5];unfold dP rR;rw[e1,e2]
 obtain⟨hJ,A,c,news,q1,q2,q3,B,q4,q5,q6⟩:=aO9 hY r1 hke (kP r1 h5') h7
 have hok:=r1.hp.ok i tr _ e4 e5
 obtain⟨_,xs,c1,c2⟩:=hok
 have hb':eb≤2048:=Nat.le_of_ble_eq_true h2
 unfold aS at hg
 rw[hKe] at c1 q2
 obtain⟨v',w',a1,a2,a3,a4⟩:=aD5 (P:=P) (ty:=o.type) hsl c1 (A:=A) (c:=c) q2 q3 q4.ones (by unfold maxLen;omega) (by
  calc (l.length+l'.length)*eb≤68719476736*2048:=Nat.mul_le_mul hg hb'
   _=140737488355328:=by decide)
 obtain⟨t2,t3,t4,t5⟩:=bCv a2 (tr.bs++B)
 have htv:tr.val.ownBlock=tr.b:=by cases h:tr.b<;>simp[Tr.val,Value.ownBlock,h]
 rw[htv] at a3 a4
 rw[←t4] at a4
 have hnd:=r1.hp.nd i tr e4
 have hBd:∀b∈B,b∉tr.all:=fun b hb hb'=>by
  obtain⟨j,hj,u,hu,hub⟩:=uQ (q5 b hb)
  exact r1.hp.dist j i u tr b (fun e=>(List.nodup_cons.1 hJ).1 (e▸hj)) hu e4 hub hb'
 have hlt:∀b∈B,b<w.heap.size:=fun b hb=>by
  obtain⟨j,hj,u,hu,hub⟩:=uQ (q5 b hb)
  exact(r1.hp.new j u b hu hub).2
 have hne:∀b,(b∈tr.bs∨b∈B)→some b≠tr.b:=fun b hb e=>by
  rcases hb with hb|hb
  ·have h':b∈tr.b.toList:=by rw[←e];simp
   exact(List.nodup_append.1 hnd).2.2 b h' b hb rfl
  ·exact hBd b hb (Tr.root e.symm)
 obtain⟨β',r2,r3,_⟩:=r1.turn (w':=w') (J:=ids) (ob:= .tree e (d&&d') (l++l')) (rv:=s1.m.k+1) (t':=t2) e5 e4 hJ a3.size a3.os a3.tape a3.output
  (fun b hb hn=>a3.block b hb (fun e=>hn (Tr.root e.symm)))
  (fun b hb=>by
   simp only[Tr.all,t5,List.mem_append,Option.mem_toList] at hb
   rcases hb with hb|hb|hb
   ·rcases a4 with h|h
    ·have hb2:tr.b=some b:=by rw[←h];exact hb
     exact⟨Nat.lt_of_lt_of_le (r1.hp.new i tr b e4 (Tr.root hb2)).2 a3.size, .inr (.inl (Tr.root hb2))⟩
    ·rw[h] at hb
     have hb2:b=w.heap.size:=by simpa using hb.symm
     refine⟨?_, .inl (by omega)⟩
     have:=a2.lt b (by rw[←t4,h,hb2])
     exact this.2
   ·exact⟨Nat.lt_of_lt_of_le (r1.hp.new i tr b e4 (by simp[Tr.all,hb])).2 a3.size, .inr (.inl (by simp[Tr.all,hb]))⟩
   ·obtain⟨j,hj,u,hu,hub⟩:=uQ (q5 b hb)
    exact⟨Nat.lt_of_lt_of_le (hlt b hb) a3.size, .inr (.inr ⟨j,hj,u,hu,hub⟩)⟩)
  (by
   have hbs:(tr.bs++B).Nodup:=by
    rw[List.nodup_append]
    refine⟨(List.nodup_append.1 hnd).2.1,q6,fun b hb b' hb' e=> ?_⟩
    subst e;exact hBd b hb' (by simp[Tr.all,hb])
   rw[Tr.all,t5,List.nodup_append]
   refine⟨by cases t2.b<;>simp,hbs,fun b hb b' hb' e=> ?_⟩
   subst e
   have hb2:t2.b=some b:=by simpa using hb
   rcases a4 with h|h
   ·rw[h] at hb2
    exact hne b (by simpa using hb') hb2.symm
   ·rw[h] at hb2
    injection hb2 with hb2
    rcases List.mem_append.1 hb' with hb'|hb'
    ·have:=(r1.hp.new i tr b e4 (by simp[Tr.all,hb'])).2;omega
    ·have:=hlt b hb';omega)
  (.inr rfl) (fun h=>by cases h) (fun β' m' hev=>by
   refine⟨hke,xs++news,?_,?_⟩
   ·rw[t3,List.length_append,hKe];exact a2
   ·rw[List.map_append,List.flatten_append,t5]
    have hsoft:(d&&d')=true→d=true:=fun h=>by simp at h;exact h.1
    have hsoft':(d&&d')=true→d'=true:=fun h=>by simp at h;exact h.2
    exact OwL.app ((c2.conv hev.sz hev.hX hev.hc (fun b hb=>a3.block b (r1.hp.new i tr b e4 (by simp[Tr.all,hb])).2 (hne b (.inl hb)))).fl hsoft)
     ((q4.conv hev.sz hev.hX hev.hc (fun b hb=>a3.block b (hlt b hb) (hne b (.inr hb)))).fl hsoft'))
 refine wpo (w':=w') (v:=v') (.inl ?_) (hK _ _ β' r2 (fun _=> ?_) (fun h=>by cases h))
 ·simp only[execOp,ho,resolve,invoke,builtin,Sem.run_bind,Sem.run_pure,Result.andThen_ok,List.map_toArray,List.map_cons,List.map_nil,e6,q1,a1]
 ·refine⟨⟨Nat.le_refl _,by rw[←t3];rfl⟩,⟨.tree e (d&&d') (l++l'),s1.m.k+1,s1.m.k+1⟩,t2,?_,r3,fun _=>t3.symm⟩
  rw[uP (List.nodup_cons.1 hJ).1,bK,List.getElem?_set_self (lt_of_some e5)]
theorem aEy {t ty e:TypeId}{i:TypeInfo}(ht:P.underlying t=some (.slice e))(hi:P.info? e=some i)(gg o sLen sCap:Nat)(cur:Array Value)(hg:w.heap[gg]? =some (.cells cur e (0,0)))
  (p:Addr) (m c:Nat) (news:List Value) (hl:news.length=m*i.size) (hnews:∀j u,news[j]? =some u→w.cell? (p.add j)=some u) (h1:∀u∈news,u.oneCell'=true)
  (hroom:sLen+m≤sCap) (hfit:o+sLen*i.size+news.length≤cur.size):
  (Builtin.append_ #[t,t] ty #[.slice (some ⟨gg,o,none⟩) sLen sCap, .slice (some p) m c]).run P w=
   .ok (.slice (some ⟨gg,o,none⟩) (sLen+m) sCap) (w.setRow gg (cur.toList.take (o+sLen*i.size)++news++cur.toList.drop (o+sLen*i.size+news.length)).toArray):=by
 have hf:=run_firstCells_some (P:=P) w i.size m p m c news hl hnews
 have hst:=run_storeCells_at P gg (o+sLen*i.size) e news 0 cur w hg (by simpa using hfit) h1
 simp only[Nat.add_zero] at hst
 simp[Builtin.append_,run_underlying ht,sizeOf,typeInfo,hi,Builtin.lenOf,hroom,hf,fP,hst]
theorem aEz {t ty e k bts:Nat}(ht:slB P t e k bts=true){u:Tr}{n q:Nat}{xs:List Value}(hown:w.ownsRow 0 e k u.val n xs)(hq:q≤n){A:Option Addr}{m c:Nat}{news:List Value}(hl:news.length=m*k)(hm0:0<m)
  (hsrc:m=0∨∃p,A=some p∧∀j u,news[j]? =some u→w.cell? (p.add j)=some u) (h1:∀u∈news,u.oneCell'=true) (hm:n+m≤maxLen) (hb:(n+m)*bts≤140737488355328):
  ∃(v':Value) (w':World) (b' c' n' q':Nat) (ys:List Value),(Builtin.append_ #[t,t] ty #[J5 k u q n, .slice A m c]).run P w= .ok v' w'∧w'.ownsRow 0 e k (.slice (some ⟨b',0,none⟩) n' c') n' (ys++news)∧w.grownBy w' u.b∧
   v'= .slice (if c'=q' then some ⟨b',0,none⟩ else some (Addr.add ⟨b',0,none⟩ (q'*k))) (n'-q') (c'-q')∧
   ((u.b=some b'∧q'=q∧n'=n+m∧ys=xs)∨(b'=w.heap.size∧q'=0∧n'=n-q+m∧ys=xs.drop (q*k))):=by
 obtain⟨hu,i,z,hi,hz,hik,hib,hzk,hk0⟩:=eX ht
 subst hik;subst hib
 obtain⟨p,hA,hnews⟩:∃p,A=some p∧∀j u,news[j]? =some u→w.cell? (p.add j)=some u:=hsrc.resolve_left (by omega)
 subst hA
 have hxl:=hown.1
 have hdl:(xs.drop (q*i.size)).length=(n-q)*i.size:=by rw[List.length_drop,hxl,Nat.sub_mul]
 have hlen:(xs.drop (q*i.size)++news).length=(n-q+m)*i.size:=by rw[List.length_append,hdl,hl,Nat.add_mul]
 have h63:n+m≤9223372036854775807:=by simp only[maxLen] at hm;omega
 have grown:∀(old:Nat),old<n-q+m→(w.drew.alloc (.cells ((xs.drop (q*i.size)).toArray++news.toArray++Builtin.zeroCells z.cells (grownCap w (n-q+m) old e-(n-q+m))) e)).ownsRow 0 e i.size
    (.slice (some ⟨w.heap.size,0,none⟩) (n-q+m) (grownCap w (n-q+m) old e)) (n-q+m) (xs.drop (q*i.size)++news)∧
   w.grownBy (w.drew.alloc (.cells ((xs.drop (q*i.size)).toArray++news.toArray++Builtin.zeroCells z.cells (grownCap w (n-q+m) old e-(n-q+m))) e)) u.b:=by
  intro old ho
  have hge:=grownCap_ge w (n-q+m) old e
  have hcm:grownCap w (n-q+m) old e≤maxLen:=grownCap_le_maxLen w (n-q+m) old e (by omega)
  refine⟨⟨hlen, .inr ⟨w.heap.size,_,_,rfl,Nat.zero_le _,heap_alloc_new w.drew _,hge,hcm,?_,?_⟩⟩,⟨rfl,rfl,rfl,by simp,fun k hk _=>heap_alloc_old w.drew _ hk⟩⟩
  ·simp only[Array.size_append,List.size_toArray,size_zeroCells,hzk,hdl,hl,←Nat.add_mul]
   congr 1
   omega
  ·simp only[Array.toList_append,List.append_assoc]
   rw[←List.append_assoc,←hlen]
   exact List.take_left
 rcases dM hown with⟨b1,b2,b3,b4,b5⟩|⟨b,cur,b1,b2,b3,b4,b5,b6,b7⟩
 ·have hq0:q=0:=by omega
  subst b2;subst b3;subst hq0
  have hs:J5 i.size u 0 0= .slice none 0 0:=by simp[J5,b1,b5]
  have hr:=run_append_nil (P:=P) w t ty e i z hu hi hz p m c news hl hnews (by omega) (by omega) (by simp only[Nat.zero_add] at hb;omega)
  have hgr:=grown 0 (by omega)
  simp only[Nat.sub_self,Nat.zero_add,List.drop_nil,List.nil_append,Array.empty_append,Nat.zero_mul] at hgr
  refine⟨_,_,_,_,_,0,[],by rw[hs];exact hr,by simpa using hgr.1,hgr.2,?_, .inr ⟨rfl,rfl,by simp,by simp⟩⟩
  have hge:=grownCap_ge w m 0 e
  rw[if_neg (by omega)];simp[Addr.add]
 ·by_cases hroom:n+m≤u.c
  ·have hcq:¬u.c=q:=by omega
   have hs:J5 i.size u q n= .slice (some ⟨b,q*i.size,none⟩) (n-q) (u.c-q):=by simp[J5,b1,hcq,fP]
   have hqn:q*i.size+(n-q)*i.size=n*i.size:=by rw[←Nat.add_mul];congr 1;omega
   have hfit:q*i.size+(n-q)*i.size+news.length≤cur.size:=by rw[hqn,hl,b6,←Nat.add_mul];exact Nat.mul_le_mul_right _ hroom
   have hr:=aEy (P:=P) (w:=w) (ty:=ty) hu hi b (q*i.size) (n-q) (u.c-q) cur b5 p m c news hl hnews h1 (by omega) hfit
   rw[hqn] at hr hfit
   refine⟨_,_,b,u.c,n+m,q,xs,by rw[hs];exact hr,⟨by rw[List.length_append,hxl,hl,Nat.add_mul], .inr ⟨b,u.c,_,rfl,Nat.zero_le _,setRow_heap w b cur _ e _ b5,hroom,b4,?_,?_⟩⟩,⟨rfl,rfl,rfl,by simp,fun k _ hk=>setRow_other w b k _ (fun e=>hk (by rw[b1,e]))⟩,?_, .inl ⟨b1,rfl,rfl,rfl⟩⟩
   ·simp only[List.size_toArray,List.length_append,List.length_take,List.length_drop,Array.length_toList]
    omega
   ·rw[b7,show(n+m)*i.size=(xs++news).length by rw[List.length_append,hxl,hl,Nat.add_mul]]
    exact List.take_left
   ·rw[if_neg hcq,fP,Nat.zero_add];congr 1<;>omega
  ·have holds:∀(p':Addr),(∀j,p'.add j=⟨b,q*i.size+j,none⟩)→∀j u',(xs.drop (q*i.size))[j]? =some u'→w.cell? (p'.add j)=some u':=fun p' hp j u' hj=>by
    rw[hp]
    have:=nV hown b1 (i:=q*i.size+j) (by simpa using hj)
    rw[fP] at this
    simpa using this
   have hgr:=grown (u.c-q) (by omega)
   have hge:=grownCap_ge w (n-q+m) (u.c-q) e
   have hfits:=growslice_fits (old:=u.c-q) (need:=n-q+m) (bytes:=i.bytes) (by omega) (Nat.le_trans (Nat.mul_le_mul_right _ (by omega)) hb)
   refine⟨.slice (some ⟨w.heap.size,0,none⟩) (n-q+m) (grownCap w (n-q+m) (u.c-q) e),_,w.heap.size,grownCap w (n-q+m) (u.c-q) e,n-q+m,0,_,?_,hgr.1,hgr.2,by rw[if_neg (by omega)];simp[Addr.add], .inr ⟨rfl,rfl,rfl,rfl⟩⟩
   by_cases hcq:u.c=q
   ·have hqn:n-q=0:=by omega
    have hs:J5 i.size u q n= .slice (some ⟨b,0,none⟩) (n-q) (u.c-q):=by simp[J5,b1,hcq]
    rw[hs]
    refine run_append_grow (P:=P) w t ty e i z hu hi hz ⟨b,0,none⟩ (n-q) (u.c-q) _ hdl (fun j u' hj=> ?_) p m c news hl hnews (by omega) (by omega) hfits
    have:j<(n-q)*i.size:=by rw[←hdl];exact lt_of_some hj
    rw[hqn] at this;omega
   ·have hs:J5 i.size u q n= .slice (some ⟨b,q*i.size,none⟩) (n-q) (u.c-q):=by simp[J5,b1,hcq,fP]
    rw[hs]
    exact run_append_grow (P:=P) w t ty e i z hu hi hz ⟨b,q*i.size,none⟩ (n-q) (u.c-q) _ hdl (holds _ fun j=>by rw[fP]) p m c news hl hnews (by omega) (by omega) hfits
theorem aB5 (hTI:pM P TI=true)(hY:LayOk Y)(r:aZ Y.C E s a w β){o:Oper}{t:TypeId}{x y:Operand}{e ek eb k i c:Nat}{zz:List Kz}{py:Lf U}{d':Bool}{n:Int}{l l':List (U.El e)}
  (ho:o.op= .call {callee:= .builtin .append,args:= #[x,y],argTypes:= #[t,t]}) (h1:iP TI t=some ⟨.sl e ek eb,k,zz⟩) (h2:Nat.ble eb 2048=true) (h3:Hw (U:=U) e ek e=true) (h4:dP s x= .l (.suf i c e n l)) (h5:dP s y= .l py)
  (h6:okv s.m i c=true) (h7:apS Y s.m e i py=some (l',[],d')) (hne:1≤l'.length) (hg:aS l l'):
  SO P Y.C E a w o (.l (.bor i (Nat.succ s.m.k) e (l.drop n.toNat++l'))) ⟨s.t,⟨upd s.m.o i ⟨.dead,Nat.succ s.m.k,Nat.succ s.m.k⟩,Nat.succ s.m.k,s.m.ns⟩,s.fr⟩ false:=fun K Q hK=>by
 have hsl:=(zZ (bH hTI h1) rfl).1
 obtain⟨_,_,_,_,_,_,_,_,hk0⟩:=eX hsl
 simp only[Hw,Bool.and_eq_true] at h3
 have hKe:U.K e=ek:=Nat.eq_of_beq_eq_true h3.2
 have hke:0<U.K e:=by rw[hKe];exact hk0
 obtain⟨hJ,A,c0,news,q1,q2,q3,B,q4,q5,q6⟩:=aO9 hY r hke (kP r h5) h7
 have hB:B=[]:=by
  cases B with
  |nil=>rfl
  |cons b B=>have:=q5 b (by simp);simp[iY] at this
 subst hB
 obtain⟨_,e',tr,k1,k2,k3⟩:=kP r h4
 obtain⟨e2,g1,g2⟩:=Aa h6
 rw[k1] at g1;injection g1 with g1;subst g1
 obtain⟨d,a1,a2,a3,a4⟩:=k3 g2
 have hok:=r.hp.ok i tr _ k2 k1
 rw[a1] at hok
 obtain⟨_,xs,c1,c2⟩:=hok
 have hb':eb≤2048:=Nat.le_of_ble_eq_true h2
 unfold aS at hg
 rw[hKe] at c1 q2
 obtain⟨v',w',b',c',n',q',ys,p1,p2,p3,p4,p5⟩:=aEz (P:=P) (ty:=o.type) hsl c1 a3 (A:=A) (c:=c0) q2 (by omega) q3 q4.ones (by unfold maxLen;omega) (by
  calc (l.length+l'.length)*eb≤68719476736*2048:=Nat.mul_le_mul hg hb'
   _=140737488355328:=by decide)
 obtain⟨L,Bs,hL,hLl,hLd,hBs⟩:∃(L:List (U.El e)) (Bs:List Nat),OwL Y.C w (E.X β) d ys (L.map (Y.C.cel e)).flatten Bs∧n'=L.length+l'.length∧(L++l').drop q'=l.drop n.toNat++l'∧List.Sublist Bs tr.bs:=by
  rcases p5 with⟨_,rfl,rfl,rfl⟩|⟨_,rfl,rfl,rfl⟩
  ·exact⟨l,tr.bs,c2,rfl,by rw[List.drop_append_of_le_length a3],List.Sublist.refl _⟩
  ·have hsp:(l.map (Y.C.cel e)).flatten=((l.take n.toNat).map (Y.C.cel e)).flatten++((l.drop n.toNat).map (Y.C.cel e)).flatten:=by rw[←List.flatten_append,←List.map_append,List.take_append_drop]
   rw[hsp] at c2
   obtain⟨v1,v2,B1,B2,e1,e2,o1,o2⟩:=OwL.split c2
   have hv1:v1.length=n.toNat*ek:=by rw[o1.len,Ht (Y.C.hlen e),List.length_take,Nat.min_eq_left a3,hKe]
   exact⟨l.drop n.toNat,B2,by rw[e1,←hv1,List.drop_left];exact o2,by rw[List.length_drop],rfl,by rw[e2];exact List.sublist_append_right _ _⟩
 have htv:tr.val.ownBlock=tr.b:=by cases h:tr.b<;>simp[Tr.val,Value.ownBlock,h]
 have hnd:=r.hp.nd i tr k2
 let t2:Tr:=⟨some b',n',c',Bs⟩
 have hbs:∀b∈Bs,b∈tr.all∧some b≠tr.b:=fun b hb=>by
  have hm:=hBs.subset hb
  refine⟨by simp[Tr.all,hm],fun e=> ?_⟩
  have h':b∈tr.b.toList:=by rw[←e];simp
  exact(List.nodup_append.1 hnd).2.2 b h' b hm rfl
 have hb2:(b'∈tr.all∧tr.b=some b')∨b'=w.heap.size:=by
  rcases p5 with⟨h,_⟩|⟨h,_⟩
  ·exact .inl ⟨Tr.root h,h⟩
  ·exact .inr h
 have hb'lt:b'<w'.heap.size:=(p2.lt b' rfl).2
 obtain⟨β',r2,r3,hev⟩:=r.turn (w':=w') (J:=[]) (ob:= .dead) (rv:=s.m.k+1) (t':=t2) k1 k2 (by simp) p3.size p3.os p3.tape p3.output
  (fun b hb hn=>p3.block b hb (fun e=>hn (Tr.root e.symm)))
  (fun b hb=>by
   simp only[t2,Tr.all,Option.toList_some,List.mem_append,List.mem_singleton] at hb
   rcases hb with rfl|hb
   ·exact⟨hb'lt,hb2.elim (fun h=> .inr (.inl h.1)) (fun h=> .inl (by omega))⟩
   ·exact⟨Nat.lt_of_lt_of_le (r.hp.new i tr b k2 (hbs b hb).1).2 p3.size, .inr (.inl (hbs b hb).1)⟩)
  (by
   simp only[t2,Tr.all,Option.toList_some,List.singleton_append,List.nodup_cons]
   refine⟨fun h=> ?_,hBs.nodup (List.nodup_append.1 hnd).2.1⟩
   rcases hb2 with h2|h2
   ·exact(hbs b' h).2 h2.2.symm
   ·have:=(r.hp.new i tr b' k2 (hbs b' h).1).2;omega)
  (.inr rfl) (fun h=>by cases h) (fun _ _ _=>trivial)
 have hOw:Ow Y.C w' (fun b=>E.X β' b∨b∈t2.all) false t2.val (.sl e (L++l')) t2.all:=by
  have hX:∀b,b<w.heap.size→(E.X β' b∨b∈t2.all)→E.X β b:=fun b hb h=>h.elim (hev.hX b hb) (fun h=>hev.hX b hb (bF0 r3 h))
  refine .sl t2 hke (xs:=ys++news) ?_ ?_
  ·rw[List.length_append,hKe,←hLl];exact p2
  ·rw[List.map_append,List.flatten_append]
   have:=OwL.app ((hL.conv hev.sz hX hev.hc (fun b hb=>p3.block b (r.hp.new i tr b k2 (hbs b hb).1).2 (hbs b hb).2)).soft) ((q4.conv hev.sz hX hev.hc (fun b hb=>by simp at hb)).soft)
   simpa[t2] using this
 have hRd:=hOw.rd (Z:=fun b=>E.X β' b∧b∉t2.all) (fun b hb=> .inl hb.1) (fun b hb hn=>hn.2 hb)
 refine wpo (w':=w') (v:=v') (.inl ?_) (hK _ _ β' (by simpa[Nn] using r2) (fun _=> ?_) (fun h=>by cases h))
 ·simp only[execOp,ho,resolve,invoke,builtin,Sem.run_bind,Sem.run_pure,Result.andThen_ok,List.map_toArray,List.map_cons,List.map_nil,a4,hKe,q1,p1]
 ·refine⟨⟨Nat.le_refl _,by rw[p4];rfl⟩,⟨.dead,s.m.k+1,s.m.k+1⟩,t2,?_,r3,fun _=> ?_⟩
  ·simp only[bK];rw[List.getElem?_set_self (lt_of_some k1)]
  ·have hle:q'≤n':=by rcases p5 with⟨_,rfl,rfl,_⟩|⟨_,rfl,rfl,_⟩<;>omega
   have:=Rd.sub (A:=some ⟨b',0,none⟩) (n:=n') (c:=c') hRd (a:=q') (b:=n') hle (by rw[List.length_map,List.length_append];omega)
   have e1:((((L++l').map (U.enc e)).take n').drop q')=(l.drop n.toNat++l').map (U.enc e):=by
    rw[←hLd,List.map_drop,List.take_of_length_le (by rw[List.length_map,List.length_append];omega)]
   rw[e1] at this
   rw[p4,hKe] at*
   simpa using this
end
end Go.EV

namespace Go.EV
open Go.RowKit Go.VK
variable {U:Uni} {Y:Lay U} {TI:List (Nat×TInfo)} {P:Program} {g:GI} {E:Env U g}
def Ac:Bool×List (Lf U)→V
 |(true,cs)=> .agg (cs.map Lf.toV)
 |(false,[x])=>x.toV
 |_=> .any
def OwP (C:Cod U)(w:World)(v:Value)(B:List Nat):Bool×List (Lf U)→Prop
 |(true,cs)=>∃vs:List Value,v= .agg vs.toArray∧OwL C w (fun _=>False) true vs cs B
 |(false,cs)=>∃c,cs=[c]∧Ow C w (fun _=>False) true v c B
inductive OwPs (C:Cod U) (w:World):List Value→List (Bool×List (Lf U))→List Nat→Prop
 |n:OwPs C w [] [] []
 |c {v:Value} {x:Bool×List (Lf U)} {B B':List Nat} {vs:List Value} {xs:List (Bool×List (Lf U))} (h:OwP C w v B x) (hr:OwPs C w vs xs B'):OwPs C w (v::vs) (x::xs) (B++B')
def OwR (C:Cod U)(w:World)(v:Value)(cps:List (Bool×List (Lf U)))(B:List Nat):Prop:=
 match cps with
 |[x]=>OwP C w v B x
 |xs=>∃vs:List Value,v= .tuple vs.toArray∧OwPs C w vs xs B
def bE0 (P:Program)(g:GI)(C:Cod U)(f:FuncId)(Us:List V)(cps:List (Bool×List (Lf U))):Prop:=
 (∀args w,(callFunc f args).run P w= .ok (.enter f args) w)∧
 ∀(w:World) (X:Nat→Prop) (vs:List Value),g.G w→(∀b,X b→b<w.heap.size)→RdL w X vs Us→
  Calls P f vs.toArray w fun e w'=>∃v B,e= .returned v∧Ext w w'∧B.Nodup∧(∀b∈B,w.heap.size≤b)∧OwR C w' v cps B
def bHz (P:Program)(g:GI)(C:Cod U)(f:FuncId)(b:Bool)(cs ds:List (Lf U))(u:V)(k:Int):Prop:=
 (∀args w,(callFunc f args).run P w= .ok (.enter f args) w)∧
 ∀(w:World) (v v1:Value) (B:List Nat),B.Nodup→(∀w',Bel (·∈B) w w'→g.G w')→OwP C w v B (b,cs)→Rd w (fun _=>False) [] v1 u→
  Calls P f #[v,v1] w fun e w'=>e= .returned (.int .i64 k)∧(IntKind.i64.min≤k∧k≤IntKind.i64.max)∧Bel (·∈B) w w'∧∃B',B'.Nodup∧(∀x∈B',x∈B∨w.heap.size≤x)∧OwP C w' v B' (b,ds)
def bE1 (P:Program)(g:GI)(f:FuncId)(T:Nat)(cs ds us:List V)(r:V):Prop:=
 (∀args w,(callFunc f args).run P w= .ok (.enter f args) w)∧
 ∀(w:World) (X:Nat→Prop) (b:Nat) (ws vs:List Value),(∀w',Bel (·=b) w w'→g.G w')→(∀x,X x→x<w.heap.size)→X b→w.heap[b]? =some (.cells ws.toArray T (0,0))→RdL w X ws cs→RdL w X vs us→
  Calls P f ((.pointer (some ⟨b,0,none⟩)::vs).toArray) w fun e w'=>∃v ws',e= .returned v∧Bel (·=b) w w'∧w'.heap[b]? =some (.cells ws'.toArray T (0,0))∧RdL w' X ws' ds∧Rd w' X [] v r
def Er (P:Program)(g:GI)(Y:Lay U)(f:FuncId)(S:Sum U):Prop:=
 ∀(a:qJ U S.ar) (r:qJ U S.rs),S.m a=some r→
  (S.wt=false→S.fr=false→VK.Spec P g f ((bS Y S.ar a).map Ac) (fun v=>v=nU ((bS Y S.rs r).map Ac)))∧(S.wt=false→S.fr=true→bE0 P g Y.C f ((bS Y S.ar a).map Ac) (bS Y S.rs r))∧
  (S.wt=true→S.fr=false→∀b cs u b' ds b'' k,bS Y S.ar a=[(b,cs),u]→bS Y S.rs r=[(b',ds),(b'',[.int .i64 k])]→bHz P g Y.C f b cs ds (Ac u) k)∧
  (S.wt=true→S.fr=true→∀T ks cs us ds rs,S.ar= .st T::ks→bS Y S.ar a=(true,cs)::us→bS Y S.rs r=(true,ds)::rs→bE1 P g f T (cs.map Lf.toV) (ds.map Lf.toV) (us.map Ac) (nU (rs.map Ac)))
section
variable {s:St U} {a:Act} {w w':World} {β:List Tr} {α:Type}
theorem aZ.aCF {C:Cod U}(r:aZ C E s a w β){ns':List (Nat×Bool)}(hn:∀(a i:Nat) (f:Bool),s.m.ns[a]? =some (i,f)→∃f',ns'[a]? =some (i,f'))(hc:∀(a i:Nat),ns'[a]? =some (i,true)→(i:Int)+1≤9223372036854775807):
  aZ C E ⟨s.t,⟨s.m.o,s.m.k,ns'⟩,s.fr⟩ a w β:=by
 obtain⟨h1,h2⟩:=r.hp.step (s':=⟨s.m.o,s.m.k,ns'⟩) (β':=β) (w':=w) (fun _=>False) (fun _=>False) (Nat.le_refl _) hn hc r.hp.len (Nat.le_refl _) (Nat.le_refl _) rfl rfl rfl (fun _ _ _=>rfl) (fun _ h=>h.elim) (fun _ _ _=>⟨rfl,rfl⟩)
  (fun j t b hj ht _=>by rcases hj with h|h;exact h.elim;have:=lt_of_some ht;rw[r.hp.len] at this;omega)
  (fun i j t u b hi hj _ ht _ _=>by rcases hi with h|h;exact h.elim;have:=lt_of_some ht;rw[r.hp.len] at this;omega)
  (fun j t hj ht=>by rcases hj with h|h;exact h.elim;have:=lt_of_some ht;rw[r.hp.len] at this;omega)
  (fun j e hj he=>by rcases hj with h|h;exact h.elim;have:=lt_of_some he;simp only at this;omega)
  (fun _ _ _ _ _ h=>h.elim)
  (fun _ j t e hj ht _=>by rcases hj with h|h;exact h.elim;have:=lt_of_some ht;rw[r.hp.len] at this;omega)
 exact r.go h1 h2
def PO (P:Program)(C:Cod U)(E:Env U g)(a:Act)(w:World)(β:List Tr)(o:Oper)(x:Sv U)(s':St U):Prop:=
 ∃v,(∀w',Ext w w'→(execOp a.eval o).run P w'= .ok (.value v) w')∧aZ C E s' a w β∧x.mean C w (E.X β) β s'.m v
theorem SO.aCU {C:Cod U}{o:Oper}{x:Sv U}{s':St U}(h:PO P C E a w β o x s'):SO P C E a w o x s' true:=fun K Q hK=>by
 obtain⟨v,h1,h2,h3⟩:=h
 exact wpo (.inl (h1 w (Ext.refl w))) (hK v w β h2 (fun _=>h3) (fun _=>Ext.refl w))
theorem aV0 (r:aZ Y.C E s a w β){o:Oper}{t u:TypeId}{x:Operand}{n:Int}{c i:Nat}(ho:o.op= .binOp .add t x (.const (.int .i64 n)) u)(hn:n=1)(hx:rR s x= .l (.nat c))(hc:s.m.ns[c]? =some (i,true)):
  PO P Y.C E a w β o (.l (.nat (len s.m.ns))) ⟨s.t,⟨s.m.o,s.m.k,s.m.ns++[(Nat.succ i,false)]⟩,s.fr⟩:=by
 subst hn
 have hcn:=r.hp.cnt c i hc
 have hm:=iK r (x:=x)
 rw[hx] at hm
 obtain⟨i',f,k1,k2,k3⟩:=hm
 rw[hc] at k1
 injection k1 with k1;injection k1 with k1 _;subst k1
 have r1:aZ Y.C E ⟨s.t,⟨s.m.o,s.m.k,s.m.ns++[(Nat.succ i,false)]⟩,s.fr⟩ a w β:=r.aCF (fun a' j f' h=>⟨f',by rw[List.getElem?_append_left (lt_of_some h)];exact h⟩) (fun a' j h=>by
  by_cases hl:a'<s.m.ns.length
  ·rw[List.getElem?_append_left hl] at h;exact r.hp.cnt a' j h
  ·rw[List.getElem?_append_right (by omega)] at h
   cases hq:a'-s.m.ns.length with
   |zero=>rw[hq] at h;simp at h
   |succ q=>rw[hq] at h;simp at h)
 have hw:IntKind.i64.wrap ((i:Int)+1)=((Nat.succ i:Nat):Int):=by rw[IntKind.wrap_i64];omega
 have hx':dP s x= .l (.int .i64 (i:Int)):=by unfold dP;rw[hx];simp only[rsv,aP,hc]
 have hy':dP s (.const (.int .i64 (1:Int)))= .l (.int .i64 (1:Int)):=rfl
 obtain⟨v,h1,h2⟩:=jM (P:=P) r (fun _=>add (t:=t) (u:=u) (bR hx') (bR hy')) o ho
 have hv:v= .int .i64 ((Nat.succ i:Nat):Int):=by rw[←hw];exact h2.1
 exact⟨v,h1,r1,Nat.succ i,false,by rw[bC];simp,hv,by omega⟩
theorem Np {kd:Kd}{x:Lf U}{v:kd.ty U}(h:aBz kd x=some v):x=bFu kd v:=by
 cases kd with
 |int k=>
  cases x with
  |int k' n=>
   have h':(if k'=k then some n else none)=some (show Int from v):=h
   split at h'
   ·rename_i e;subst e;have:=Option.some.inj h';subst this;rfl
   ·cases h'
  |_=>cases h
 |bool=>
  cases x with
  |bool b=>have h':some b=some (show Bool from v):=h;have:=Option.some.inj h';subst this;rfl
  |_=>cases h
 |str=>
  cases x with
  |str b=>have h':some b=some (show ByteArray from v):=h;have:=Option.some.inj h';subst this;rfl
  |_=>cases h
 |sl τ=>
  cases x with
  |sl τ' l=>exact bCr (show I7 τ τ' l=some v from h)
  |_=>cases h
 |st T=>cases x<;>cases h
def lfs:(ks:List Kd)→qJ U ks→List (Lf U)
 |[],_=>[]
 |[k],x=>[bFu k x]
 |k::k'::ks,x=>bFu k x.1::lfs (k'::ks) x.2
def apC {β:Type}:(ks:List Kd)→Cur U β ks→qJ U ks→β
 |[],f,_=>f
 |[_],f,x=>f x
 |_::k'::ks,f,x=>apC (k'::ks) (f x.1) x.2
theorem aT9 {β:Type}:∀{ks:List Kd} {f:Cur U β ks} {cs:List (Lf U)} {x:β},jL ks f cs=some x→∃t:qJ U ks,cs=lfs ks t∧x=apC ks f t
 |[],f,[],x,h=>⟨(),rfl,(Option.some.inj h).symm⟩
 |[],f,_::_,x,h=>by cases h
 |k::ks,f,[],x,h=>by cases h
 |[k],f,[c],x,h=>by
  cases hc:aBz k c with
  |none=>simp[jL,hc] at h
  |some a=>
   simp only[jL,hc] at h
   exact⟨a,by rw[Np hc];rfl,(Option.some.inj h).symm⟩
 |[k],f,c::_::_,x,h=>by
  cases hc:aBz k c with
  |none=>simp[jL,hc] at h
  |some a=>simp[jL,hc] at h
 |k::k'::ks,f,c::cs,x,h=>by
  cases hc:aBz k c with
  |none=>simp[jL,hc] at h
  |some a=>
   have h':jL (k'::ks) (f a) cs=some x:=by rw[←h];conv=>rhs;unfold jL;rw[hc]
   obtain⟨t,rfl,rfl⟩:=aT9 h'
   exact⟨(a,t),by rw[Np hc];rfl,rfl⟩
theorem aPa {f:FuncId}{fn:Func}{c:Code}(hf:P.funcs[f]? =some fn)(hb:fn.body=some c)(hn:(fn.name== "runtime.NumGoroutine")=false)(args:Array Value)(w:World):(callFunc f args).run P w= .ok (.enter f args) w:=by
 have hn':¬fn.name= "runtime.NumGoroutine" :=by simpa using hn
 simp[callFunc,hf,hb,hn']
theorem aK9 {C:Cod U}(H:Hp C E s.m β w){v:Value}{x y:Lf U}{kd:Kd}(hm:x.mean C w (E.X β) β s.m v)(h:rdn s.m kd x=some y){Z:Nat→Prop}(hZ:∀b,Z b→E.X β b)(hZt:Fz β Z x):
  y.aAZ=true∧Rd w Z [] v y.toV:=by
 by_cases hx:x= .nil
 ·subst hx
  obtain rfl:=hm
  cases kd with
  |sl τ=>simp only[rdn,Option.some.injEq] at h;subst h;exact⟨rfl, .slice0 (Nat.zero_le _)⟩
  |_=>cases h
 ·have h':pJ s.m x=some y:=by
   cases x<;>first|exact absurd rfl hx|exact h
  exact aKz H hm h' hZ hZt
theorem aPb {m:Mm U}{kd:Kd}{ks:List Kd}{x:Lf U}{xs ys:List (Lf U)}(h:rds m (kd::ks) (x::xs)=some ys):∃y ys',rdn m kd x=some y∧rds m ks xs=some ys'∧ys=y::ys':=by
 simp only[rds] at h
 cases h1:rdn m kd x with
 |none=>rw[h1] at h;cases h
 |some y=>
  cases h2:rds m ks xs with
  |none=>rw[h1,h2] at h;cases h
  |some ys'=>rw[h1,h2] at h;exact⟨y,ys',rfl,rfl,(Option.some.inj h).symm⟩
theorem aZd {Z:Nat→Prop}:∀{xs:List (Lf U)},(Dj xs=true∨∀(i:Nat) (t:Tr) (b:Nat),β[i]? =some t→b∈t.all→¬Z b)→∀x∈xs,Fz β Z x
 |[],_,x,hx=>by simp at hx
 |y::ys,h,x,hx=>by
  rcases List.mem_cons.1 hx with rfl|hx
  ·exact Fz.of (h.imp (fun h=>by simp only[Dj,Bool.and_eq_true] at h;exact h.1) id)
  ·exact aZd (h.imp (fun h=>by simp only[Dj,Bool.and_eq_true] at h;exact h.2) id) x hx
def aB6:Sv U→List (Lf U)
 | .l x=>[x]
 | .a cs=>cs
 | .t _=>[]
theorem aZe {Z:Nat→Prop}{x:Sv U}(h:aEe x=true∨∀(i:Nat) (t:Tr) (b:Nat),β[i]? =some t→b∈t.all→¬Z b):∀c∈aB6 x,Fz β Z c:=by
 cases x with
 |l x=>intro c hc;simp only[aB6,List.mem_singleton] at hc;subst hc;exact Fz.of h
 |a cs=>exact aZd h
 |t xs=>intro c hc;simp[aB6] at hc
theorem aUa {Z:Nat→Prop}:∀{xs:List (Sv U)},(kE xs=true∨∀(i:Nat) (t:Tr) (b:Nat),β[i]? =some t→b∈t.all→¬Z b)→∀x∈xs,∀c∈aB6 x,Fz β Z c
 |[],_,x,hx=>by simp at hx
 |y::ys,h,x,hx=>by
  rcases List.mem_cons.1 hx with rfl|hx
  ·exact aZe (h.imp (fun h=>by simp only[kE,Bool.and_eq_true] at h;exact h.1) id)
  ·exact aUa (h.imp (fun h=>by simp only[kE,Bool.and_eq_true] at h;exact h.2) id) x hx
theorem aV1 {C:Cod U}(H:Hp C E s.m β w){Z:Nat→Prop}(hZ:∀b,Z b→E.X β b)(ks:List Kd):∀{xs ys:List (Lf U)} {vs:List Value},rds s.m ks xs=some ys→Ms C w (E.X β) β s.m vs xs→(∀x∈xs,Fz β Z x)→
  vs.length=ys.length∧∀(i:Nat) (v:Value) (y:Lf U),vs[i]? =some v→ys[i]? =some y→Rd w Z [] v y.toV:=by
 induction ks with
 |nil=>
  intro xs ys vs h hM _
  cases xs with
  |nil=>
   have e:ys=[]:=(Option.some.inj h).symm
   have:vs=[]:=List.eq_nil_of_length_eq_zero hM.1
   subst this;subst e;simp
  |cons x xs=>cases h
 |cons kd ks ih=>
  intro xs ys vs h hM hf
  cases xs with
  |nil=>cases h
  |cons x xs=>
   obtain⟨y,ys',h1,h2,rfl⟩:=aPb h
   cases vs with
   |nil=>have:=hM.1;simp at this
   |cons v vs=>
    have k1:=(aK9 H (hM.2 0 v x rfl rfl) h1 hZ (hf x (by simp))).2
    have k2:=ih h2 ⟨by have:=hM.1;simpa using this,fun i u c p q=>hM.2 (i+1) u c (by simpa using p) (by simpa using q)⟩ (fun y hy=>hf y (by simp[hy]))
    refine⟨by simp[k2.1],fun i u c p q=> ?_⟩
    cases i with
    |zero=>simp at p q;subst p;subst q;exact k1
    |succ i=>exact k2.2 i u c (by simpa using p) (by simpa using q)
theorem Td (r:aZ Y.C E s a w β){kd:Kd}{x:Sv U}{v:Value}{z:kd.ty U}{Z:Nat→Prop}(hm:x.mean Y.C w (E.X β) β s.m v)(h:Hu Y s.m kd x=some z)(hZ:∀b,Z b→E.X β b)(hf:∀c∈aB6 x,Fz β Z c):
  Rd w Z [] v (Ac (Wy Y kd z)):=by
 have leaf:∀{y:Lf U},x= .l y→(∀T,kd≠ .st T)→(match rdn s.m kd y with|some q=>aBz kd q|none=>none)=some z→Rd w Z [] v (Ac (Wy Y kd z)):=fun {y} hx hkd h0=>by
  subst hx
  cases hr:rdn s.m kd y with
  |none=>rw[hr] at h0;cases h0
  |some q=>
   rw[hr] at h0
   have hq:=Np (show aBz kd q=some z from h0)
   have:=(aK9 r.hp hm hr hZ (hf y (by simp[aB6]))).2
   rw[hq] at this
   cases kd with
   |st T=>exact absurd rfl (hkd T)
   |_=>exact this
 cases kd with
 |st T=>
  cases x with
  |a cs=>
   have h':(match rds s.m (Y.kd T) cs with|some ds=>Y.C.bld T ds|none=>none)=some z:=h
   cases hr:rds s.m (Y.kd T) cs with
   |none=>rw[hr] at h';cases h'
   |some ds=>
    rw[hr] at h'
    obtain⟨vs,rfl,hM⟩:=hm
    have hrd:=aV1 r.hp hZ _ hr hM hf
    rw[Y.C.hmk T ds z h'] at hrd
    simp only[Wy,Ac]
    refine .agg (by simp[hrd.1]) (fun i u c p q=> ?_)
    rw[List.getElem?_map] at q
    cases hc:(Y.C.cel T z)[i]? with
    |none=>simp[hc] at q
    |some c'=>
     simp only[hc,Option.map_some,Option.some.injEq] at q
     subst q
     exact hrd.2 i u c' (by simpa using p) hc
  |l y=>
   have h':(match rdn s.m (.st T) y with|some q=>aBz (.st T) q|none=>none)=some z:=h
   cases hr:rdn s.m (.st T) y with
   |none=>rw[hr] at h';cases h'
   |some q=>rw[hr] at h';cases q<;>cases h'
  |t xs=>cases h
 |int k=>cases x with
  |l y=>exact leaf rfl (by simp) h
  |_=>cases h
 |bool=>cases x with
  |l y=>exact leaf rfl (by simp) h
  |_=>cases h
 |str=>cases x with
  |l y=>exact leaf rfl (by simp) h
  |_=>cases h
 |sl τ=>cases x with
  |l y=>exact leaf rfl (by simp) h
  |_=>cases h
theorem aV2 (r:aZ Y.C E s a w β){kd:Kd}{x:Sv U}{v:Value}{z:kd.ty U}{Z:Nat→Prop}(hm:x.mean Y.C w (E.X β) β s.m v)(h:Hu Y s.m kd x=some z)(hZ:∀b,Z b→E.X β b)(hf:aEe x=true∨∀(i:Nat) (t:Tr) (b:Nat),β[i]? =some t→b∈t.all→¬Z b):
  Rd w Z [] v (Ac (Wy Y kd z)):=Td r hm h hZ (aZe hf)
theorem Ib (r:aZ Y.C E s a w β){Z:Nat→Prop}(hZ:∀b,Z b→E.X β b)(ks:List Kd):∀{xs:List (Sv U)} {vs:List Value} {z:qJ U ks},kK Y s.m ks xs=some z→vs.length=xs.length→(∀(i:Nat) (v:Value) (x:Sv U),vs[i]? =some v→xs[i]? =some x→x.mean Y.C w (E.X β) β s.m v)→
  (∀x∈xs,∀c∈aB6 x,Fz β Z c)→RdL w Z vs ((bS Y ks z).map Ac):=by
 induction ks with
 |nil=>
  intro xs vs z h hl _ _
  cases xs with
  |nil=>
   have:vs=[]:=List.eq_nil_of_length_eq_zero hl
   subst this;exact⟨rfl,by simp⟩
  |cons x xs=>cases h
 |cons k ks ih=>
  intro xs vs z h hl hm hf
  cases xs with
  |nil=>cases ks<;>cases h
  |cons x xs=>
   cases vs with
   |nil=>simp at hl
   |cons v vs=>
    cases ks with
    |nil=>
     cases xs with
     |cons y ys=>cases h
     |nil=>
      have e:vs=[]:=List.eq_nil_of_length_eq_zero (by simpa using hl)
      subst e
      have k1:=Td r (hm 0 v x rfl rfl) (show Hu Y s.m k x=some z from h) hZ (hf x (by simp))
      refine⟨rfl,fun i u W p q=> ?_⟩
      cases i with
      |zero=>simp[bS] at p q;subst p;subst q;exact k1
      |succ i=>simp at p
    |cons k' ks=>
     have h':(match Hu Y s.m k x with
      |some a=>match kK Y s.m (k'::ks) xs with
       |some b=>some ((a,b):qJ U (k::k'::ks))
       |none=>none
      |none=>none)=some z:=h
     cases h1:Hu Y s.m k x with
     |none=>rw[h1] at h';cases h'
     |some z1=>
      cases h2:kK Y s.m (k'::ks) xs with
      |none=>rw[h1,h2] at h';cases h'
      |some z2=>
       rw[h1,h2] at h'
       have e:=(Option.some.inj h').symm
       subst e
       have k1:=Td r (hm 0 v x rfl rfl) h1 hZ (hf x (by simp))
       have k2:=ih h2 (by simpa using hl) (fun i v x p q=>hm (i+1) v x (by simpa using p) (by simpa using q)) (fun y hy=>hf y (by simp[hy]))
       refine⟨by simp[bS,k2.1],fun i u W p q=> ?_⟩
       cases i with
       |zero=>simp[bS] at p q;subst p;subst q;exact k1
       |succ i=>exact k2.2 i u W (by simpa using p) (by simpa[bS] using q)
theorem Dq (r:aZ Y.C E s a w β){Z:Nat→Prop}(hZ:∀b,Z b→E.X β b)(ks:List Kd):∀{xs:List (Sv U)} {vs:List Value} {z:qJ U ks},kK Y s.m ks xs=some z→vs.length=xs.length→(∀(i:Nat) (v:Value) (x:Sv U),vs[i]? =some v→xs[i]? =some x→x.mean Y.C w (E.X β) β s.m v)→
  (kE xs=true∨∀(i:Nat) (t:Tr) (b:Nat),β[i]? =some t→b∈t.all→¬Z b)→RdL w Z vs ((bS Y ks z).map Ac):=fun h hl hm hf=>Ib r hZ ks h hl hm (aUa hf)
end
end Go.EV

namespace Go.EV
open Go.RowKit Go.VK
variable {U:Uni} {Y:Lay U} {TI:List (Nat×TInfo)} {P:Program} {g:GI} {E:Env U g}
section
variable {s:St U} {a:Act} {w w':World} {β:List Tr} {α:Type} {C:Cod U}
mutual
theorem Ow.aCD {X X':Nat→Prop}{d:Bool}(hd:d=true):∀{v:Value} {x:Lf U} {B:List Nat},Ow C w X d v x B→Ow C w X' d v x B
 |_,_,_, .int h1 h2=> .int h1 h2
 |_,_,_, .bool=> .bool
 |_,_,_, .str h=> .str h
 |_,_,_, .fz h0 _=>by rw[hd] at h0;cases h0
 |_,_,_, .su h0 .. =>by rw[hd] at h0;cases h0
 |_,_,_, .sl t hk hown hc=> .sl t hk hown (OwL.aCD hd hc)
theorem OwL.aCD {X X':Nat→Prop}{d:Bool}(hd:d=true):∀{vs:List Value} {xs:List (Lf U)} {B:List Nat},OwL C w X d vs xs B→OwL C w X' d vs xs B
 |_,_,_, .n=> .n
 |_,_,_, .c h hr=> .c (Ow.aCD hd h) (OwL.aCD hd hr)
end
theorem Ad {X Z:Nat→Prop}{m:Mm U}{v:Value}{c:Lf U}(hc:c.aAZ=true)(h:Rd w Z [] v c.toV)(hX:(∀b,X b→Z b)∨∀τ l,c≠ .sl τ l):c.mean C w X β m v:=by
 cases c with
 |int k n=>exact h.aAN
 |bool b=>exact h.aAV
 |str b=>exact h.aAW
 |sl τ l=>
  rcases hX with hX|hX
  ·exact Rd.conv h (Nat.le_refl _) (fun b _ hb=>hX b hb) (fun _ _ _ h=>h) (fun _ _ h=>h)
  ·exact absurd rfl (hX τ l)
 |_=>cases hc
def aV3 (x:Bool×List (Lf U)):Prop:=(∀c∈x.2,c.aAZ=true)∧(x.1=false→∃c,x.2=[c])
theorem Xl {X Z:Nat→Prop}{m:Mm U}{v:Value}{x:Bool×List (Lf U)}(hx:aV3 x)(h:Rd w Z [] v (Ac x))(hX:(∀b,X b→Z b)∨∀c∈x.2,∀τ l,c≠ .sl τ l):Mp C w X β m v x:=by
 obtain⟨b,cs⟩:=x
 cases b with
 |false=>
  obtain⟨c,rfl⟩:=hx.2 rfl
  exact⟨c,rfl,Ad (hx.1 c (by simp)) h (hX.imp id fun h=>h c (by simp))⟩
 |true=>
  obtain⟨vs,rfl,h2,h3⟩:=Rd.aBA (show Rd w Z [] v (.agg (cs.map Lf.toV)) from h)
  refine⟨vs.toList,by simp,by simpa using h2,fun i u c p q=> ?_⟩
  exact Ad (hx.1 c (List.mem_of_getElem? q)) (h3 i u _ (by simpa using p) (by rw[List.getElem?_map,q];rfl)) (hX.imp id fun h=>h c (List.mem_of_getElem? q))
theorem aNh {k:Kd}{x:k.ty U}:aV3 (Wy Y k x):=by
 cases k with
 |st T=>exact⟨Y.C.hdat T x,fun h=>by cases h⟩
 |_=>exact⟨fun c hc=>by simp only[Wy,List.mem_singleton] at hc;subst hc;rfl,fun _=>⟨_,rfl⟩⟩
theorem Ae (ks:List Kd):∀(z:qJ U ks),∀x∈bS Y ks z,aV3 x:=by
 induction ks with
 |nil=>intro z x hx;simp[bS] at hx
 |cons k ks ih=>
  intro z x hx
  cases ks with
  |nil=>simp only[bS,List.mem_singleton] at hx;subst hx;exact aNh
  |cons k' ks=>
   simp only[bS,List.mem_cons] at hx
   rcases hx with rfl|hx
   ·exact aNh
   ·exact ih z.2 x hx
theorem aPc (hY:LayOk Y){k:Kd}(h:flatK Y k=true){x:k.ty U}:∀c∈(Wy Y k x).2,∀τ l,c≠ .sl τ l:=by
 cases k with
 |st T=>exact fun c hc=>aK7 hY h hc
 |sl τ=>cases h
 |_=>intro c hc τ l e;simp only[Wy,List.mem_singleton] at hc;rw[hc] at e;cases e
theorem aPd {k:Kd}{ks:List Kd}(h:vG Y (k::ks)=true):flatK Y k=true∧vG Y ks=true:=by
 have e:vG Y (k::ks)=cond (flatK Y k) (vG Y ks) false:=rfl
 rw[e] at h
 cases hk:flatK Y k with
 |true=>rw[hk] at h;exact⟨rfl,h⟩
 |false=>rw[hk] at h;cases h
theorem aRv (hY:LayOk Y)(ks:List Kd):∀(z:qJ U ks),vG Y ks=true→∀x∈bS Y ks z,∀c∈x.2,∀τ l,c≠ .sl τ l:=by
 induction ks with
 |nil=>intro z _ x hx;simp[bS] at hx
 |cons k ks ih=>
  intro z h x hx
  obtain⟨h1,h2⟩:=aPd h
  cases ks with
  |nil=>simp only[bS,List.mem_singleton] at hx;subst hx;exact aPc hY h1
  |cons k' ks=>
   simp only[bS,List.mem_cons] at hx
   rcases hx with rfl|hx
   ·exact aPc hY h1
   ·exact ih z.2 h2 x hx
theorem aPe {X Z:Nat→Prop}{m:Mm U}{v:Value}{cps:List (Bool×List (Lf U))}(hc:∀x∈cps,aV3 x)(h:Rd w Z [] v (nU (cps.map Ac)))(hX:(∀b,X b→Z b)∨∀x∈cps,∀c∈x.2,∀τ l,c≠ .sl τ l):(tN cps).mean C w X β m v:=by
 have many:(∀x,cps≠[x])→(Sv.t cps:Sv U).mean C w X β m v:=fun hn=>by
  have e:nU (cps.map Ac)= .tup (cps.map Ac):=by
   match cps,hn with
   |[],_=>rfl
   |[x],hn=>exact absurd rfl (hn x)
   |_::_::_,_=>rfl
  rw[e] at h
  obtain⟨vs,rfl,h2,h3⟩:=h.aBW
  refine⟨vs.toList,by simp,by simpa using h2,fun i u x p q=> ?_⟩
  have hm:=List.mem_of_getElem? q
  exact Xl (hc x hm) (h3 i u _ (by simpa using p) (by rw[List.getElem?_map,q];rfl)) (hX.imp id fun h=>h x hm)
 match cps,many,hc,h,hX with
 |[],many,_,_,_=>exact many (by simp)
 |[x],_,hc,h,hX=>exact qK (Xl (hc x (by simp)) h (hX.imp id fun h=>h x (by simp)))
 |_::_::_,many,_,_,_=>exact many (by simp)
theorem aDn (r:aZ C E s a w β):∀(i:Nat) (t:Tr) (b:Nat),β[i]? =some t→b∈t.all→¬E.X0 b:=fun i t b ht hb hx=>by
 rcases(r.hp.new i t b ht hb).1 with h|h
 ·rcases E.h0 b hx with h'|⟨x,h',rfl⟩
  ·omega
  ·exact(r.hp.prm x h').2.2.2 i t ht hb
 ·exact E.hXY b hx h
theorem Af {xa:Array Operand}:∀(i:Nat) (v:Value) (x:Sv U),(xa.toList.map a.eval)[i]? =some v→(xa.toList.map (dP s))[i]? =some x→∃y,v=a.eval y∧x=dP s y:=fun i v x p q=>by
 rw[List.getElem?_map] at p q
 cases h:xa.toList[i]? with
 |none=>simp[h] at p
 |some y=>simp only[h,Option.map_some,Option.some.injEq] at p q;exact⟨y,p.symm,q.symm⟩
theorem vL {f:FuncId}{xa:Array Operand}{ats:Array TypeId}{o:Oper}(ho:o.op= .call {callee:= .value (.func f),args:=xa,argTypes:=ats})(h:∀args w,(callFunc f args).run P w= .ok (.enter f args) w):(execOp a.eval o).run P w= .ok (.enter f (xa.toList.map a.eval).toArray) w:=
 aKr (xs:=xa.toList) (by rw[ho]) h
theorem Es (hY:LayOk Y)(r:aZ Y.C E s a w β){o:Oper}{f:FuncId}{xa:Array Operand}{ats:Array TypeId}{S:Sum U}{z:qJ U S.ar}{q:qJ U S.rs}(ho:o.op= .call {callee:= .value (.func f),args:=xa,argTypes:=ats})
  (hS:Er P g Y f S) (hz:kK Y s.m S.ar (xa.toList.map (dP s))=some z) (hmk:S.wt=false) (hfr:S.fr=false) (hff:vG Y S.rs=true∨kE (xa.toList.map (dP s))=true) (hq:S.m z=some q):
  SO P Y.C E a w o (tN (bS Y S.rs q)) s true:=fun K Q hK=>by
 have hsp:=(hS z q hq).1 hmk hfr
 have hm:∀(i:Nat) (v:Value) (x:Sv U),(xa.toList.map a.eval)[i]? =some v→(xa.toList.map (dP s))[i]? =some x→x.mean Y.C w (E.X β) β s.m v:=fun i v x p q=>by
  obtain⟨y,rfl,rfl⟩:=Af i v x p q;exact vH r
 have go:∀(Z:Nat→Prop),(∀b,Z b→E.X β b)→(kE (xa.toList.map (dP s))=true∨∀(i:Nat) (t:Tr) (b:Nat),β[i]? =some t→b∈t.all→¬Z b)→((∀b,E.X β b→Z b)∨vG Y S.rs=true)→o.wp P a w K Q:=fun Z hZ hf hX=>by
  have hrd:=Dq r hZ _ hz (by simp) hm hf
  refine wpc (vL ho hsp.1) (R':=fun v w'=>Rd w' Z [] v (nU ((bS Y S.rs q).map Ac))∧Ext w w') ((hsp.2 w Z _ r.hp.gw (fun b hb=>r.hp.aBT b (hZ b hb)) hrd).mono ?_) ?_
  ·rintro e w' ⟨v,r',e1,rfl,e3,e4⟩;exact⟨v,e1,e3,e4⟩
  ·rintro v w' ⟨h3,h4⟩
   exact hK v w' β (r.ext h4) (fun _=>aPe (Ae _ q) h3 (hX.imp id fun h=>aRv hY _ q h)) (fun _=>h4)
 rcases hff with hff|hff
 ·exact go E.X0 (fun b hb=> .inl hb) (.inr (aDn r)) (.inr hff)
 ·exact go (E.X β) (fun _ h=>h) (.inl hff) (.inl fun _ h=>h)
theorem aLa {Z X:Nat→Prop}{m:Mm U}{i:Nat}{e:EO U}{t:Tr}(he:m.o[i]? =some e)(ht:β[i]? =some t)(hk:e.cv≤m.k)(hZ:∀b,X b∧b∉t.all→Z b){vs:List Value}:
  ∀{cs:List (Lf U)},(∀c∈cs,c.aAZ=true)→vs.length=cs.length→(∀(j:Nat) (v:Value) (c:Lf U),vs[j]? =some v→cs[j]? =some c→Rd w Z [] v c.toV)→Ms C w X β m vs (aI1 i e.cv cs):=by
 induction vs with
 |nil=>
  intro cs _ hl _
  cases cs with
  |nil=>exact⟨rfl,fun j v c h=>by simp at h⟩
  |cons c cs=>simp at hl
 |cons v vs ih=>
  intro cs hd hl h
  cases cs with
  |nil=>simp at hl
  |cons c cs=>
   have ih:=ih (cs:=cs) (fun x hx=>hd x (by simp[hx])) (by simpa using hl) (fun j v c p q=>h (j+1) v c (by simpa using p) (by simpa using q))
   have h0:=h 0 v c rfl rfl
   have hc:∃c',aI1 i e.cv (c::cs)=c'::aI1 i e.cv cs∧c'.mean C w X β m v:=by
    by_cases hs:∃τ l,c= .sl τ l
    ·obtain⟨τ,l,rfl⟩:=hs
     exact⟨.bor i e.cv τ l,rfl,⟨hk,h0.one rfl⟩,e,t,he,ht,fun _=>h0.conv (Nat.le_refl _) (fun b _ hb=>hZ b hb) (fun _ _ _ hc=>hc) (fun _ _ h=>h)⟩
    ·refine⟨c,?_,Ad (hd c (by simp)) h0 (.inr fun τ l e=>hs ⟨τ,l,e⟩)⟩
     cases c<;>first|rfl|exact absurd ⟨_,_,rfl⟩ hs
   obtain⟨c',e1,e2⟩:=hc
   rw[e1]
   exact⟨by simp[ih.1],fun j u x p q=>by
    cases j with
    |zero=>simp at p q;subst p;subst q;exact e2
    |succ j=>exact ih.2 j u x (by simpa using p) (by simpa using q)⟩
theorem aLb {i c:Nat}:∀{cps:List (Bool×List (Lf U))} {j:Nat},(Eo i c cps)[j]? =(cps[j]?).map fun x=>(x.1,aI1 i c x.2)
 |[],j=>by simp[Eo]
 |(b,cs)::xs,0=>by simp[Eo]
 |(b,cs)::xs,j+1=>by simp[Eo,aLb (cps:=xs)]
theorem aLc {i c:Nat}:∀{cps:List (Bool×List (Lf U))},(Eo i c cps).length=cps.length
 |[]=>rfl
 |(b,cs)::xs=>by simp[Eo,aLc (cps:=xs)]
theorem aZf {i c:Nat}(x:Lf U):∃y,aI1 i c [x]=[y]:=by cases x<;>exact⟨_,rfl⟩
theorem bCw {X Z:Nat→Prop}{m:Mm U}{i:Nat}{e:EO U}{t:Tr}{v:Value}{cps:List (Bool×List (Lf U))}(he:m.o[i]? =some e)(ht:β[i]? =some t)(hk:e.cv≤m.k)(hZ:∀b,X b∧b∉t.all→Z b)(hc:∀x∈cps,aV3 x)(h:Rd w Z [] v (nU (cps.map Ac))):
  (tN (Eo i e.cv cps)).mean C w X β m v:=by
 have one:∀{x:Bool×List (Lf U)} {v:Value},aV3 x→Rd w Z [] v (Ac x)→Mp C w X β m v (x.1,aI1 i e.cv x.2):=fun {x v} hx h=>by
  obtain⟨b,cs⟩:=x
  cases b with
  |false=>
   obtain⟨c,rfl⟩:=hx.2 rfl
   have:=aLa (C:=C) (vs:=[v]) he ht hk hZ (cs:=[c]) (fun x hx'=>hx.1 x hx') rfl (fun j v' c' p q=>by
    cases j with
    |zero=>simp at p q;subst p;subst q;exact h
    |succ j=>simp at p)
   obtain⟨y,hy⟩:=aZf (i:=i) (c:=e.cv) c
   show ∃c',aI1 i e.cv [c]=[c']∧c'.mean C w X β m v
   rw[hy] at this ⊢
   exact⟨y,rfl,this.2 0 v y rfl rfl⟩
  |true=>
   obtain⟨vs,rfl,h2,h3⟩:=Rd.aBA (show Rd w Z [] v (.agg (cs.map Lf.toV)) from h)
   exact⟨vs.toList,by simp,aLa (C:=C) he ht hk hZ (fun c hc=>hx.1 c hc) (by simpa using h2) (fun j u c p q=>h3 j u _ (by simpa using p) (by rw[List.getElem?_map,q];rfl))⟩
 have many:(∀x,cps≠[x])→(Sv.t (Eo i e.cv cps):Sv U).mean C w X β m v:=fun hn=>by
  have e0:nU (cps.map Ac)= .tup (cps.map Ac):=by
   match cps,hn with
   |[],_=>rfl
   |[x],hn=>exact absurd rfl (hn x)
   |_::_::_,_=>rfl
  rw[e0] at h
  obtain⟨vs,rfl,h2,h3⟩:=h.aBW
  refine⟨vs.toList,by simp,by rw[aLc];simpa using h2,fun j u x p q=> ?_⟩
  rw[aLb] at q
  obtain⟨y,hy,rfl⟩:=Option.map_eq_some_iff.1 q
  exact one (hc y (List.mem_of_getElem? hy)) (h3 j u _ (by simpa using p) (by rw[List.getElem?_map,hy];rfl))
 match cps,many,hc,h with
 |[],many,_,_=>exact many (by simp)
 |[(b,cs)],_,hc,h=>exact qK (one (hc (b,cs) (by simp)) h)
 |(b,cs)::(b',cs')::r,many,_,_=>exact many (by simp)
theorem aUb {i:Nat}{t:Tr}{Z:Nat→Prop}(ht:β[i]? =some t)(hZ:∀b∈t.all,¬Z b):∀{xs:List (Lf U)},aEf i xs=true→∀c∈xs,Fz β Z c
 |[],_,c,hc=>by simp at hc
 |x::xs,h,c,hc=>by
  have key:(lS x=true∨∃r,x= .own i r)∧aEf i xs=true:=by
   cases x with
   |own j r=>
    simp only[aEf,Bool.and_eq_true] at h
    have:=Nat.eq_of_beq_eq_true h.1
    subst this
    exact⟨.inr ⟨r,rfl⟩,h.2⟩
   |_=>simp only[aEf,Bool.and_eq_true] at h;exact⟨.inl h.1,h.2⟩
  rcases List.mem_cons.1 hc with rfl|hc
  ·rcases key.1 with h1|⟨r,rfl⟩
   ·exact Fz.of (.inl h1)
   ·intro j u b ho hu hb
    have:i=j:=Option.some.inj ho
    subst this
    rw[ht] at hu;injection hu with hu;subst hu
    exact hZ b hb
  ·exact aUb ht hZ key.2 c hc
theorem bF6 (x:Sv U):lsV x=aB6 x:=by cases x<;>rfl
theorem aPf {i:Nat}{t:Tr}{Z:Nat→Prop}(ht:β[i]? =some t)(hZ:∀b∈t.all,¬Z b):∀{xs:List (Sv U)},aOo i xs=true→∀x∈xs,∀c∈aB6 x,Fz β Z c
 |[],_,x,hx=>by simp at hx
 |y::ys,h,x,hx=>by
  simp only[aOo,Bool.and_eq_true] at h
  rcases List.mem_cons.1 hx with rfl|hx
  ·rw[←bF6];exact aUb ht hZ h.1
  ·exact aPf ht hZ h.2 x hx
theorem aI6 (r:aZ Y.C E s a w β){o:Oper}{f:FuncId}{xa:Array Operand}{ats:Array TypeId}{S:Sum U}{z:qJ U S.ar}{q:qJ U S.rs}(ho:o.op= .call {callee:= .value (.func f),args:=xa,argTypes:=ats})
  (hS:Er P g Y f S) (hz:kK Y s.m S.ar (xa.toList.map (dP s))=some z) (hmk:S.wt=false) (hfr:S.fr=false) {i c:Nat} (hi:aOp s.m (xa.toList.map (dP s))=some (i,c)) (hq:S.m z=some q):
  SO P Y.C E a w o (tN (Eo i c (bS Y S.rs q))) s true:=fun K Q hK=>by
 have hsp:=(hS z q hq).1 hmk hfr
 have hm:∀(i:Nat) (v:Value) (x:Sv U),(xa.toList.map a.eval)[i]? =some v→(xa.toList.map (dP s))[i]? =some x→x.mean Y.C w (E.X β) β s.m v:=fun i v x p q=>by
  obtain⟨y,rfl,rfl⟩:=Af i v x p q;exact vH r
 unfold aOp at hi
 split at hi
 ·rename_i i' hf
  cases hon:aOo i' (xa.toList.map (dP s)) with
  |false=>rw[hon] at hi;cases hi
  |true=>
   rw[hon] at hi
   simp only[cond_true] at hi
   cases hn:nth s.m.o i' with
   |none=>rw[hn] at hi;cases hi
   |some e=>
    rw[hn] at hi
    injection hi with hi
    injection hi with h1 h2
    subst h1;subst h2
    have he:s.m.o[i']? =some e:=by rw[←aP];exact hn
    obtain⟨t,ht⟩:∃t,β[i']? =some t:=by
     have:=lt_of_some he
     rw[←r.hp.len] at this
     exact⟨_,List.getElem?_eq_getElem this⟩
    have hk:=(r.hp.vers i' e he).2
    have hrd:=Ib r (Z:=fun b=>E.X β b∧b∉t.all) (fun b hb=>hb.1) S.ar hz (by simp) hm (aPf ht (fun b hb h=>h.2 hb) hon)
    refine wpc (vL ho hsp.1) (R':=fun v w'=>Rd w' (fun b=>E.X β b∧b∉t.all) [] v (nU ((bS Y S.rs q).map Ac))∧Ext w w') ((hsp.2 w _ _ r.hp.gw (fun b hb=>r.hp.aBT b hb.1) hrd).mono ?_) ?_
    ·rintro e' w' ⟨v,r',e1,rfl,e3,e4⟩;exact⟨v,e1,e3,e4⟩
    ·rintro v w' ⟨h3,h4⟩
     exact hK v w' β (r.ext h4) (fun _=>bCw he ht hk (fun b hb=>hb) (Ae _ q) h3) (fun _=>h4)
 ·cases hi
theorem K8 {k:Nat}:∀{vs:List Value} {cs:List (Lf U)} {B:List Nat} (n:Nat),OwL C w (fun _=>False) true vs cs B→
  ∃ts:List Tr,ts.length=(pK k n cs).2.length∧(ts.map Tr.all).flatten=B∧(∀(j:Nat) (e:EO U) (t:Tr),(pK k n cs).2[j]? =some e→ts[j]? =some t→e.rv=k∧e.cv=k∧∃τ l xs,e.ob= .tree τ true l∧0<U.K τ∧w.ownsRow 0 τ (U.K τ) t.val l.length xs∧OwL C w (fun _=>False) true xs (l.map (C.cel τ)).flatten t.bs)∧
   ∀(X:Nat→Prop) (β':List Tr) (m':Mm U),k≤m'.k→(∀(j:Nat) (e:EO U) (t:Tr),(pK k n cs).2[j]? =some e→ts[j]? =some t→m'.o[n+j]? =some e∧β'[n+j]? =some t)→Ms C w X β' m' vs (pK k n cs).1
 |_,_,_,n, .n=>⟨[],rfl,rfl,by simp[pK],fun _ _ _ _ _=>⟨rfl,by simp⟩⟩
 |_,_,_,n, .c (v:=v) (x:=x) (vs:=vs) (xs:=xs) h hr=>by
  have flat:∀{y:Lf U} {B:List Nat},Ow C w (fun _=>False) true v y B→(∀τ l,y≠ .sl τ l)→B=[]∧∀(X:Nat→Prop) (β':List Tr) (m':Mm U),y.mean C w X β' m' v:=fun {y B} h hn=>by
   cases h with
   |int h1 h2=>exact⟨rfl,fun _ _ _=>⟨rfl,h1,h2⟩⟩
   |bool=>exact⟨rfl,fun _ _ _=>rfl⟩
   |str h9=>exact⟨rfl,fun _ _ _=>⟨rfl,h9⟩⟩
   |fz=>exact absurd rfl (hn _ _)
   |su=>exact absurd rfl (hn _ _)
   |sl=>exact absurd rfl (hn _ _)
  by_cases hs:∃τ l,x= .sl τ l
  ·obtain⟨τ,l,rfl⟩:=hs
   cases h with
   |fz h0=>cases h0
   |su h0=>cases h0
   |sl t hk hown hc=>
    obtain⟨ts,k1,k2,k3,k4⟩:=K8 (k:=k) (Nat.succ n) hr
    refine⟨t::ts,by simp[pK,k1],by simp[k2],fun j e t' p q=> ?_,fun X β' m' hkm hm=> ?_⟩
    ·cases j with
     |zero=>
      simp only[pK,List.getElem?_cons_zero,Option.some.injEq] at p q
      subst p;subst q
      exact⟨rfl,rfl,τ,l,_,rfl,hk,hown,hc⟩
     |succ j=>exact k3 j e t' (by simpa[pK] using p) (by simpa using q)
    ·have h0:=hm 0 ⟨.tree τ true l,k,k⟩ t (by simp[pK]) rfl
     have hr':=k4 X β' m' hkm (fun j e t' p q=>by
      have:=hm (j+1) e t' (by simpa[pK] using p) (by simpa using q)
      rw[show n+(j+1)=Nat.succ n+j by omega] at this;exact this)
     have e1:(pK k n (.sl τ l::xs)).1= .own n k::(pK k (Nat.succ n) xs).1:=rfl
     rw[e1]
     refine⟨by simp[hr'.1],fun i u c p q=> ?_⟩
     cases i with
     |zero=>
      simp at p q;subst p;subst q
      exact⟨⟨hkm,rfl⟩,_,t,h0.1,h0.2,fun _=>rfl⟩
     |succ i=>exact hr'.2 i u c (by simpa using p) (by simpa using q)
  ·have hn:∀τ l,x≠ .sl τ l:=fun τ l e=>hs ⟨τ,l,e⟩
   obtain⟨rfl,hm0⟩:=flat h hn
   obtain⟨ts,k1,k2,k3,k4⟩:=K8 (k:=k) n hr
   have e1:pK k n (x::xs)=(x::(pK k n xs).1,(pK k n xs).2):=by
    cases x<;>first|rfl|exact absurd rfl (hn _ _)
   rw[e1]
   refine⟨ts,k1,by simpa using k2,k3,fun X β' m' hkm hm=> ?_⟩
   have hr':=k4 X β' m' hkm hm
   refine⟨by simp[hr'.1],fun i u c p q=> ?_⟩
   cases i with
   |zero=>simp at p q;subst p;subst q;exact hm0 X β' m'
   |succ i=>exact hr'.2 i u c (by simpa using p) (by simpa using q)
theorem Te {k:Nat}:∀{vs:List Value} {cps:List (Bool×List (Lf U))} {B:List Nat} (n:Nat),OwPs C w vs cps B→
  ∃ts:List Tr,ts.length=(iJ k n cps).2.length∧(ts.map Tr.all).flatten=B∧(∀(j:Nat) (e:EO U) (t:Tr),(iJ k n cps).2[j]? =some e→ts[j]? =some t→e.rv=k∧e.cv=k∧∃τ l xs,e.ob= .tree τ true l∧0<U.K τ∧w.ownsRow 0 τ (U.K τ) t.val l.length xs∧OwL C w (fun _=>False) true xs (l.map (C.cel τ)).flatten t.bs)∧
   ∀(X:Nat→Prop) (β':List Tr) (m':Mm U),k≤m'.k→(∀(j:Nat) (e:EO U) (t:Tr),(iJ k n cps).2[j]? =some e→ts[j]? =some t→m'.o[n+j]? =some e∧β'[n+j]? =some t)→
    vs.length=(iJ k n cps).1.length∧∀(i:Nat) (v:Value) (x:Bool×List (Lf U)),vs[i]? =some v→(iJ k n cps).1[i]? =some x→Mp C w X β' m' v x
 |_,_,_,n, .n=>⟨[],rfl,rfl,by simp[iJ],fun _ _ _ _ _=>⟨rfl,by simp⟩⟩
 |_,_,_,n, .c (v:=v) (x:=x) (B:=B0) (vs:=vs) (xs:=xs) h hr=>by
  obtain⟨b,cs⟩:=x
  have h1:∃us:List Value,OwL C w (fun _=>False) true us cs B0∧∀(X:Nat→Prop) (β':List Tr) (m':Mm U) (cs':List (Lf U)),Ms C w X β' m' us cs'→cs'.length=cs.length→Mp C w X β' m' v (b,cs'):=by
   cases b with
   |true=>
    obtain⟨us,rfl,hu⟩:=h
    exact⟨us,hu,fun _ _ _ cs' hM _=>⟨us,rfl,hM⟩⟩
   |false=>
    obtain⟨c,rfl,hc⟩:=h
    refine⟨[v],by simpa using OwL.c hc .n,fun X β' m' cs' hM hl=> ?_⟩
    match cs',hl with
    |[c'],_=>exact⟨c',rfl,hM.2 0 v c' rfl rfl⟩
  obtain⟨us,hu,hMp⟩:=h1
  obtain⟨t1,a1,a2,a3,a4⟩:=K8 (k:=k) n hu
  obtain⟨t2,b1,b2,b3,b4⟩:=Te (k:=k) (n+(pK k n cs).2.length) hr
  have e1:iJ k n ((b,cs)::xs)=((b,(pK k n cs).1)::(iJ k (n+(pK k n cs).2.length) xs).1,(pK k n cs).2++(iJ k (n+(pK k n cs).2.length) xs).2):=by
   simp only[iJ,bC]
  rw[e1]
  refine⟨t1++t2,by simp[a1,b1],by simp[a2,b2],fun j e t p q=> ?_,fun X β' m' hkm hm=> ?_⟩
  ·by_cases hj:j<(pK k n cs).2.length
   ·rw[List.getElem?_append_left hj] at p
    rw[List.getElem?_append_left (by omega)] at q
    exact a3 j e t p q
   ·rw[List.getElem?_append_right (by omega)] at p
    rw[List.getElem?_append_right (by omega),a1] at q
    exact b3 _ e t p q
  ·have m1:=a4 X β' m' hkm (fun j e t p q=>by
    have hj:=lt_of_some p
    exact hm j e t (by rw[List.getElem?_append_left hj];exact p) (by rw[List.getElem?_append_left (by omega)];exact q))
   have m2:=b4 X β' m' hkm (fun j e t p q=>by
    have:=hm ((pK k n cs).2.length+j) e t (by rw[List.getElem?_append_right (by omega)];simpa using p) (by rw[List.getElem?_append_right (by omega),a1];simpa using q)
    rw[show n+((pK k n cs).2.length+j)=n+(pK k n cs).2.length+j by omega] at this;exact this)
   refine⟨by simp[m2.1],fun i u x p q=> ?_⟩
   cases i with
   |zero=>
    simp at p q;subst p;subst q
    exact hMp X β' m' _ m1 (by rw[←m1.1,hu.len])
   |succ i=>exact m2.2 i u x (by simpa using p) (by simpa using q)
theorem aNi {v:Value}{cps:List (Bool×List (Lf U))}{B:List Nat}{k n:Nat}(h:OwR C w v cps B):
  ∃ts:List Tr,ts.length=(iJ k n cps).2.length∧(ts.map Tr.all).flatten=B∧(∀(j:Nat) (e:EO U) (t:Tr),(iJ k n cps).2[j]? =some e→ts[j]? =some t→e.rv=k∧e.cv=k∧∃τ l xs,e.ob= .tree τ true l∧0<U.K τ∧w.ownsRow 0 τ (U.K τ) t.val l.length xs∧OwL C w (fun _=>False) true xs (l.map (C.cel τ)).flatten t.bs)∧
   ∀(X:Nat→Prop) (β':List Tr) (m':Mm U),k≤m'.k→(∀(j:Nat) (e:EO U) (t:Tr),(iJ k n cps).2[j]? =some e→ts[j]? =some t→m'.o[n+j]? =some e∧β'[n+j]? =some t)→(tN (iJ k n cps).1).mean C w X β' m' v:=by
 have many:(∀x,cps≠[x])→(∃vs:List Value,v= .tuple vs.toArray∧OwPs C w vs cps B)→∃ts:List Tr,ts.length=(iJ k n cps).2.length∧(ts.map Tr.all).flatten=B∧(∀(j:Nat) (e:EO U) (t:Tr),(iJ k n cps).2[j]? =some e→ts[j]? =some t→e.rv=k∧e.cv=k∧∃τ l xs,e.ob= .tree τ true l∧0<U.K τ∧w.ownsRow 0 τ (U.K τ) t.val l.length xs∧OwL C w (fun _=>False) true xs (l.map (C.cel τ)).flatten t.bs)∧
   ∀(X:Nat→Prop) (β':List Tr) (m':Mm U),k≤m'.k→(∀(j:Nat) (e:EO U) (t:Tr),(iJ k n cps).2[j]? =some e→ts[j]? =some t→m'.o[n+j]? =some e∧β'[n+j]? =some t)→(tN (iJ k n cps).1).mean C w X β' m' v:=fun hn ⟨vs,hv,ho⟩=>by
  obtain⟨ts,a1,a2,a3,a4⟩:=Te (k:=k) n ho
  refine⟨ts,a1,a2,a3,fun X β' m' hk hm=> ?_⟩
  obtain⟨m1,m2⟩:=a4 X β' m' hk hm
  have hl:vs.length=cps.length:=by
   have:∀{vs:List Value} {cps:List (Bool×List (Lf U))} {B:List Nat},OwPs C w vs cps B→vs.length=cps.length:=by
    intro vs cps B h
    induction h with
    |n=>rfl
    |c _ _ ih=>simp[ih]
   exact this ho
  have e:tN (iJ k n cps).1= .t (iJ k n cps).1:=by
   have hlen:(iJ k n cps).1.length≠1:=by
    rw[←m1,hl]
    intro h1
    match cps,hn,h1 with
    |[x],hn,_=>exact hn x rfl
   generalize(iJ k n cps).1=ys at hlen
   match ys,hlen with
   |[],_=>rfl
   |[_],h=>exact absurd rfl h
   |_::_::_,_=>rfl
  rw[e]
  exact⟨vs,hv,m1,m2⟩
 match cps,many,h with
 |[],many,h=>exact many (by simp) h
 |[x],_,h=>
  have h1:OwPs C w [v] [x] B:=by simpa using OwPs.c (h:OwP C w v B x) .n
  obtain⟨ts,a1,a2,a3,a4⟩:=Te (k:=k) n h1
  refine⟨ts,a1,a2,a3,fun X β' m' hk hm=> ?_⟩
  obtain⟨m1,m2⟩:=a4 X β' m' hk hm
  obtain⟨b,cs⟩:=x
  have e1:(iJ k n [(b,cs)]).1=[(b,(pK k n cs).1)]:=rfl
  rw[e1] at m2 ⊢
  exact qK (m2 0 v _ rfl rfl)
 |_::_::_,many,h=>exact many (by simp) h
theorem aB7 (r:aZ Y.C E s a w β){o:Oper}{f:FuncId}{xa:Array Operand}{ats:Array TypeId}{S:Sum U}{z:qJ U S.ar}{q:qJ U S.rs}(ho:o.op= .call {callee:= .value (.func f),args:=xa,argTypes:=ats})
  (hS:Er P g Y f S) (hz:kK Y s.m S.ar (xa.toList.map (dP s))=some z) (hmk:S.wt=false) (hfr:S.fr=true) (hq:S.m z=some q):
  SO P Y.C E a w o (tN (iJ s.m.k (len s.m.o) (bS Y S.rs q)).1) ⟨s.t,⟨s.m.o++(iJ s.m.k (len s.m.o) (bS Y S.rs q)).2,s.m.k,s.m.ns⟩,s.fr⟩ true:=fun K Q hK=>by
 have hsp:=(hS z q hq).2.1 hmk hfr
 have hm:∀(i:Nat) (v:Value) (x:Sv U),(xa.toList.map a.eval)[i]? =some v→(xa.toList.map (dP s))[i]? =some x→x.mean Y.C w (E.X β) β s.m v:=fun i v x p q=>by
  obtain⟨y,rfl,rfl⟩:=Af i v x p q;exact vH r
 have hrd:=Dq r (Z:=E.X0) (fun b hb=> .inl hb) S.ar hz (by simp) hm (.inr (aDn r))
 refine wpc (vL ho hsp.1) (R':=fun v w'=>∃B,Ext w w'∧B.Nodup∧(∀b∈B,w.heap.size≤b)∧OwR Y.C w' v (bS Y S.rs q) B) ((hsp.2 w E.X0 _ r.hp.gw (fun b hb=>r.hp.aBT b (.inl hb)) hrd).mono ?_) ?_
 ·rintro e w' ⟨v,B,e1,e2⟩;exact⟨v,e1,B,e2⟩
 ·rintro v w' ⟨B,he,hnd,hfresh,hR⟩
  obtain⟨ts,a1,a2,a3,a4⟩:=aNi (k:=s.m.k) (n:=len s.m.o) hR
  generalize hes:(iJ s.m.k (len s.m.o) (bS Y S.rs q)).2=es at a1 a3 a4 hK
  have hz1:(es.zip ts).map (·.1)=es:=List.map_fst_zip (by omega)
  have hz2:(es.zip ts).map (·.2)=ts:=List.map_snd_zip (by omega)
  have hget:∀x∈es.zip ts,∃j,es[j]? =some x.1∧ts[j]? =some x.2:=fun x hx=>by
   obtain⟨j,hj⟩:=List.mem_iff_getElem?.1 hx
   rw[List.getElem?_zip_eq_some] at hj
   exact⟨j,hj⟩
  have hB:∀x∈es.zip ts,∀b∈x.2.all,b∈B:=fun x hx b hb=>by
   obtain⟨j,_,hj⟩:=hget x hx
   rw[←a2]
   exact List.mem_flatten.2 ⟨_,List.mem_map.2 ⟨_,List.mem_of_getElem? hj,rfl⟩,hb⟩
  have r1:=r.add he (es.zip ts) (fun x hx=>by
    obtain⟨j,h1,h2⟩:=hget x hx
    have:=a3 j x.1 x.2 h1 h2
    rw[this.1,this.2.1];exact⟨Nat.le_refl _,Nat.le_refl _⟩)
   (fun x hx b hb=>by
    obtain⟨j,h1,h2⟩:=hget x hx
    refine⟨hfresh b (hB x hx b hb),?_⟩
    obtain⟨_,_,τ,l,xs,_,c2,c3,c4⟩:=a3 j x.1 x.2 h1 h2
    have ho:Ow Y.C w' (fun _=>False) true x.2.val (.sl τ l) x.2.all:= .sl x.2 c2 c3 c4
    exact ho.lt b hb)
   (by
    have e:((es.zip ts).map fun x=>x.2.all)=ts.map Tr.all:=by
     have:=congrArg (List.map Tr.all) hz2
     rw[List.map_map] at this;exact this
    rw[e,a2];exact hnd)
   (fun hev x hx=>by
    obtain⟨j,h1,h2⟩:=hget x hx
    obtain⟨_,_,τ,l,xs,c1,c2,c3,c4⟩:=a3 j x.1 x.2 h1 h2
    rw[c1]
    exact⟨c2,xs,c3,c4.aCD rfl⟩)
  rw[hz1,hz2] at r1
  refine hK v w' _ r1 (fun _=>a4 _ _ _ (Nat.le_refl _) (fun j e t p q=> ?_)) (fun _=>he)
  rw[bC]
  refine⟨by rw[List.getElem?_append_right (Nat.le_add_right _ _),Nat.add_sub_cancel_left];exact p,?_⟩
  rw[←r.hp.len,List.getElem?_append_right (Nat.le_add_right _ _),Nat.add_sub_cancel_left];exact q
end
end Go.EV
