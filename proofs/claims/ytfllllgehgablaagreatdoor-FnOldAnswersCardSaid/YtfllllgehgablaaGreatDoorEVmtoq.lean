import Derived.Test.YtfllllgehgablaaGreatDoorEVftol
/-
  THE EVALUATOR's KIT, thirteenth part: operations that make memory. Plain theorems over any program; the conditions stand in each.
-/
set_option linter.all false
namespace Go.EV
open Go.RowKit Go.VK
variable {U:Uni} {Y:Lay U} {TI:List (Nat×TInfo)} {P:Program} {g:GI} {E:Env U g}
def kdL:Lf U->Option Kd
 | .int k _=>some (.int k)
 | .bool _=>some .bool
 | .str _=>some .str
 | .sl τ _=>some (.sl τ)
 |_=>none
def bD1 {cs:List (Lf U)}{ks:List Kd}(h:cs.map kdL=ks.map some):∀c∈cs,c.aAZ=true:=λc hc=>by
 have h1:kdL c∈cs.map kdL:=cg.2 ⟨c,hc,rfl⟩
 rw[h] at h1
 obtain⟨k,_,hk⟩:=cg.1 h1
 cases c<;>first|rfl|cases hk
structure LayOk (Y:Lay U):Prop where
 kds:∀(τ:Nat) (x:U.El τ),(Y.C.cel τ x).map kdL=(Y.kd τ).map some
 pos:∀(τ τ':Nat),Kd.sl τ'∈Y.kd τ->0<U.K τ'
section
variable {s:St U} {a:Act} {w:World} {β:List Tr} {α:Type}
def SO (P:Program)(C:Cod U)(E:Env U g)(a:Act)(w:World)(o:Oper)(x:Sv U)(s':St U)(e:Bool):Prop:=
 ∀(K:Act->World->Prop) (Q:Exit->Act->World->Prop),(∀v w' β',bE C E s' a w' β'->(o.dst≠none->x.mean C w' (E.X β') β' s'.m v)->(e=true->Ext w w')->K (a.put o.dst v) w')->o.wp P a w K Q
def SO.aDB (r:bE Y.C E s a w β){o:Oper}{x:Sv U}(h:MO P Y.C E s a w β o.op x):SO P Y.C E a w o x s true:=λK Q hK=>by
 obtain⟨v,h1,h2⟩:=h o rfl
 exact wpo (.inl (h1 w (Ext.refl w))) (hK v w β r (λ_=>h2) (λ_=>Ext.refl w))
def SO.soft {o:Oper}{x:Sv U}{s':St U}{e:Bool}{C:Cod U}(h:SO P C E a w o x s' e):SO P C E a w o x s' false:=λK Q hK=>h K Q λv w' β' h1 h2 _=>hK v w' β' h1 h2 (λh=>by cases h)
def bD2 (w:World)(cs:Array Value)(T:Nat):(w.alloc (.cells cs T)).heap[w.heap.size]? =some (.cells cs T (0,0)):=by simpa using heap_alloc_new w _
def bE.aCL (r:bE Y.C E s a w β){T:Nat}{vs:Array Value}{cs:List (Lf U)}(hM:Ms Y.C w (E.X β) β s.m vs.toList cs):
  ∃β',bE Y.C E (psh s (.box T cs (cs.map λ_=>s.m.k))) a (w.alloc (.cells vs T)) β'/\(Lf.box (len s.m.o) 0:Lf U).mean Y.C (w.alloc (.cells vs T)) (E.X β') β' (psh s (.box T cs (cs.map λ_=>s.m.k))).m (.pointer (some ⟨w.heap.size,0,none⟩)):=by
 have he:Ext w (w.alloc (.cells vs T)):=Ext.alloc _ _
 have r':=r.add he [(⟨.box T cs (cs.map λ_=>s.m.k),s.m.k,s.m.k⟩,⟨some w.heap.size,0,0,[]⟩)] (by simp) (by simp[Tr.all]) (by simp[Tr.all]) (λhev x hx=>by
  simp at hx;subst hx
  exact⟨by simp,w.heap.size,vs.toList,rfl,rfl,by simpa using bD2 w vs T,hM.go hev⟩)
 refine⟨_,r',rfl,⟨.box T cs (cs.map λ_=>s.m.k),s.m.k,s.m.k⟩,⟨some w.heap.size,0,0,[]⟩,?_,?_,λ_=>⟨_,rfl,rfl⟩⟩
 ·simp[psh,bH]
 ·rw[ay (by rw[r.hp.len,bH];exact aj _),r.hp.len,bH];simp
def bAq (r:bE Y.C E s a w β){o:Oper}{T:TypeId}{x:Operand}(ho:o.op= .box T x){cs:List (Lf U)}(hp:parts (sG s x)=some cs)(h1:Bg cs=true):
  SO P Y.C E a w o (.l (.box (len s.m.o) 0)) (psh s (.box T cs (cs.map λ_=>s.m.k))) true:=λK Q hK=>by
 have hM:=(vZ (iZ r (x:=x)) hp h1).1
 obtain⟨β',r1,r2⟩:=r.aCL (T:=T) hM
 refine wpo (w':=w.alloc (.cells (a.eval x).cells T)) (v:= .pointer (some ⟨w.heap.size,0,none⟩)) (.inl ?_) (hK _ _ β' r1 (λ_=>r2) (λ_=>Ext.alloc _ _))
 simp[execOp,ho,Instr.box,newVar,newRow]
def aTh (hTI:oO P TI=true)(r:bE Y.C E s a w β){o:Oper}{T:TypeId}{i:TInfo}(ho:o.op= .alloc T)(hf:iE TI T=some i):
  SO P Y.C E a w o (.l (.box (len s.m.o) 0)) (psh s (.box T (i.z.map Kz.lf) (i.z.map λ_=>s.m.k))) true:=λK Q hK=>by
 obtain⟨j,z,k3,k4,k5⟩:=aGk (bP hTI hf)
 have hM:Ms Y.C w (E.X β) β s.m z.cells.toList (i.z.map Kz.lf):=Kw k5
 obtain⟨β',r1,r2⟩:=r.aCL (T:=T) hM
 have e:((i.z.map (Kz.lf:Kz->Lf U)).map λ_=>s.m.k)=i.z.map λ_=>s.m.k:=by simp
 rw[e] at r1 r2
 refine wpo (w':=w.alloc (.cells z.cells T)) (v:= .pointer (some ⟨w.heap.size,0,none⟩)) (.inl ?_) (hK _ _ β' r1 (λ_=>r2) (λ_=>Ext.alloc _ _))
 simp[execOp,ho,Instr.alloc,zeroValue,typeInfo,k3,k4,newVar,newRow]
def bE.aCV (r:bE Y.C E s a w β){τ n:Nat}{cells:Array Value}{l:List (U.El τ)}{d:Bool}(hk:0<U.K τ)(hn:l.length=n)(hm:n<=maxLen)(hsz:cells.size=n*U.K τ)
  (hO:OwL Y.C w (E.X β) d cells.toList (l.map (Y.C.cel τ)).flatten []):
  ∃β',bE Y.C E (psh s (.tree τ d l)) a (w.alloc (.cells cells τ)) β'/\(Lf.own (len s.m.o) s.m.k:Lf U).mean Y.C (w.alloc (.cells cells τ)) (E.X β') β' (psh s (.tree τ d l)).m (.slice (some ⟨w.heap.size,0,none⟩) n n):=by
 have he:Ext w (w.alloc (.cells cells τ)):=Ext.alloc _ _
 have r':=r.add he [(⟨.tree τ d l,s.m.k,s.m.k⟩,⟨some w.heap.size,n,n,[]⟩)] (by simp) (by simp[Tr.all]) (by simp[Tr.all]) (λhev x hx=>by
  simp at hx;subst hx
  refine⟨hk,cells.toList,?_,hO.conv hev.sz hev.hX hev.hc (by simp)⟩
  rw[hn];exact World.ownsRow_lit w cells n (cw _) hm hsz)
 refine⟨_,r',⟨aj _,rfl⟩,⟨.tree τ d l,s.m.k,s.m.k⟩,⟨some w.heap.size,n,n,[]⟩,?_,?_,λ_=>rfl⟩
 ·simp[psh,bH]
 ·rw[ay (by rw[r.hp.len,bH];exact aj _),r.hp.len,bH];simp
def OwL.flatten {C:Cod U}{X:Nat->Prop}{d:Bool}:∀{vss:List (List Value)} {xss:List (List (Lf U))},vss.length=xss.length->(∀(i:Nat) (vs:List Value) (xs:List (Lf U)),vss[i]? =some vs->xss[i]? =some xs->OwL C w X d vs xs [])->OwL C w X d vss.flatten xss.flatten []
 |[],[],_,_=> .n
 |[],_::_,h,_=>by simp at h
 |_::_,[],h,_=>by simp at h
 |vs::vss,xs::xss,h,h1=>by
  have:=OwL.app (h1 0 vs xs rfl rfl) (OwL.flatten (vss:=vss) (xss:=xss) (by simpa using h) λi vs xs a b=>h1 (i+1) vs xs (by simpa using a) (by simpa using b))
  simpa using this
def aTi (hY:LayOk Y)(r:bE Y.C E s a w β){e:Nat}:∀{ks:List Kd} {zs:List Kz} {ds:List (Lf U)} {vs:List Value},rds s.m ks (zs.map Kz.lf)=some ds->aWc vs zs=true->(∀τ',Kd.sl τ'∈ks->0<U.K τ')->OwL Y.C w (E.X β) true vs ds []
 |[],[],ds,[],h,_,_=>by simp only[ex,rds,ai] at h;subst h;exact .n
 |[],_::_,_,_,h,_,_=>by cases h
 |_::_,[],_,_,h,_,_=>by cases h
 |_,[],_,_::_,_,h,_=>by cases h
 |_,_::_,_,[],_,h,_=>by cases h
 |kd::ks,z::zs,ds,v::vs,h,hz,hp=>by
  simp only[bm,rds] at h
  simp only[aWc,aa] at hz
  cases h1:rdn s.m kd (z.lf:Lf U) with
  |none=>simp[h1] at h
  |some y=>
   cases h2:rds s.m ks (zs.map (Kz.lf:Kz->Lf U)) with
   |none=>simp[h1,h2] at h
   |some ys=>
    simp only[h1,h2,ai] at h
    subst h
    have hm:(z.lf:Lf U).mean Y.C w (E.X β) β s.m v:=aYu hz.1
    have ho:Ow Y.C w (E.X β) true v y []:=by
     cases z with
     |int k=>simp only[Kz.lf,rdn,qA,ai] at h1;subst h1;obtain⟨rfl,q1,q2⟩:=hm;exact .int q1 q2
     |bool=>simp only[Kz.lf,rdn,qA,ai] at h1;subst h1;obtain rfl:=hm;exact .bool
     |str=>simp only[Kz.lf,rdn,qA,ai] at h1;subst h1;obtain⟨rfl,q1⟩:=hm;exact .str q1
     |nil=>
      obtain rfl:=hm
      cases kd with
      |sl τ=>
       simp only[Kz.lf,rdn,ai] at h1;subst h1
       exact .sl aAp (hp τ (by simp)) (World.ownsRow_nil w 0 τ (U.K τ)) .n
      |_=>cases h1
    have:=OwL.c ho (aTi hY r (e:=e) h2 hz.2 (λτ' hh=>hp τ' (by simp[hh])))
    simpa using this
def bAr {x y:Operand}(h:aHc x y=true):x=y:=by
 cases x<;>cases y<;>simp only[aHc] at h
 ·rw[ah h]
 all_goals first|cases h|skip
 rename_i v u
 split at h<;>simp_all
def aWe (hTI:oO P TI=true)(hY:LayOk Y)(r:bE Y.C E s a w β){o:Oper}{t:TypeId}{x y:Operand}{e ek eb k:Nat}{zz:List Kz}{i:TInfo}{n:Int}{ds:List (Lf U)}{z:U.El e}(ho:o.op= .makeSlice t x y)
  (h1:iE TI t=some ⟨.sl e ek eb,k,zz⟩) (h2:iE TI e=some i) (h3:dS s x= .l (.int .i64 n)) (h4:aHc x y=true) (h5:Nat.ble eb 2048=true) (h6:Fa (U:=U) e ek e=true) (h7:rds s.m (Y.kd e) (i.z.map Kz.lf)=some ds) (h8:Y.C.bld e ds=some z) (hg:bKy n):
  SO P Y.C E a w o (.l (.own (len s.m.o) s.m.k)) (psh s (.tree e true (List.replicate n.toNat z))) true:=λK Q hK=>by
 have hsl:=(yS (bP hTI h1) rfl).1
 obtain⟨hu',ii,zv,hii,hz',hik,hib,hzk,hk0⟩:=eX hsl
 obtain⟨j,zc,k3,k4,k5⟩:=aGk (bP hTI h2)
 rw[hii] at k3;injection k3 with k3;subst k3
 rw[hz'] at k4;injection k4 with k4;subst k4
 simp only[Fa,aa] at h6
 have hKe:U.K e=ek:=ah h6.2
 have hb':eb<=2048:=bc h5
 have hnn:((n.toNat:Nat):Int)=n:=Int.toNat_of_nonneg hg.1
 have hN:n.toNat<=68719476736:=by have:=hg.2;omega
 have hb:(ii.bytes:Int)*n<=281474976710656:=by
  have h:((ii.bytes*n.toNat:Nat):Int)<=281474976710656:=by
   rw[hib]
   have:eb*n.toNat<=2048*68719476736:=ia hb' hN
   omega
  rw[Int.natCast_mul,hnn] at h;exact h
 have hxv:a.eval x= .int .i64 n:=(lJ r h3).1
 have hyv:a.eval y= .int .i64 n:=by rw[<-bAr h4];exact hxv
 have hrun:=run_make (P:=P) w t e ii zv hu' hii hz' .i64 .i64 n n hg.1 (du _) hb (by have:=hg.2;omega)
 rw[hik,<-hKe] at hrun
 have hO:OwL Y.C w (E.X β) true zv.cells.toList (Y.C.cel e z) []:=by
  have:=aTi hY r (e:=e) h7 k5 (λτ' hh=>hY.pos e τ' hh)
  rw[Y.C.hmk e ds z h8] at this;exact this
 have hcells:(madeCells zv.cells (n.toNat*U.K e)).toList=(List.replicate n.toNat zv.cells.toList).flatten:=by
  apply List.ext_getElem?
  intro q
  have hKz:zv.cells.size=U.K e:=by rw[hzk,hKe]
  have hkp:0<U.K e:=by rw[hKe];exact hk0
  by_cases hq:q<n.toNat*U.K e
  ·obtain⟨q0,q1,hq1,rfl⟩:∃q0 q1,q1<U.K e/\q=q0*U.K e+q1:=⟨q/U.K e,q%U.K e,Nat.mod_lt _ hkp,by rw[fk];exact(gE q _).symm⟩
   have hdiv:q0<n.toNat:=jn (Nat.lt_of_le_of_lt (db _ _) hq)
   obtain⟨l1,l2,_,_,f3,f4⟩:=p9 (f:=λ(_:Unit)=>zv.cells.toList) (k:=U.K e) (λ_=>by simp[hKz]) (l:=List.replicate n.toNat ()) (i:=q0) (x:=()) (by rw[List.getElem?_replicate,cH hdiv])
   have em:((List.replicate n.toNat ()).map λ(_:Unit)=>zv.cells.toList)=List.replicate n.toNat zv.cells.toList:=by simp
   rw[em] at f3
   have hR:(List.replicate n.toNat zv.cells.toList).flatten[q0*U.K e+q1]? =zv.cells.toList[q1]? :=by
    rw[f3,<-f4,ay (db _ _),cP,aq (by simp[hKz];exact hq1)]
   rw[hR]
   have hm:(q0*U.K e+q1)%U.K e=q1:=by rw[fk,Nat.mul_add_mod];exact jb hq1
   simp only[madeCells,Array.toList_map,bg,Array.toList_range,dT hq,cJ,hKz,hm]
   rw[getElem!_pos zv.cells q1 (by rw[hKz];exact hq1)]
   simp[hKz,hq1]
  ·rw[dg (by simp[size_madeCells];omega),dg (by simp[hKz];omega)]
 obtain⟨β',r1,r2⟩:=r.aCV (τ:=e) (n:=n.toNat) (cells:=madeCells zv.cells (n.toNat*U.K e)) (l:=List.replicate n.toNat z) (d:=true) (by rw[hKe];exact hk0) (by simp) (by unfold maxLen;omega) (size_madeCells _ _) (by
  rw[hcells,List.map_replicate]
  exact OwL.flatten (by simp) λi vs xs q1 q2=>by
   rw[List.getElem?_replicate] at q1 q2
   split at q1
   ·rw[cH ‹_›] at q2
    injection q1 with q1;injection q2 with q2;subst q1;subst q2;exact hO
   ·cases q1)
 refine wpo (w':=w.alloc (.cells (madeCells zv.cells (n.toNat*U.K e)) e)) (v:= .slice (some ⟨w.heap.size,0,none⟩) n.toNat n.toNat) (.inl ?_) (hK _ _ β' r1 (λ_=>r2) (λ_=>Ext.alloc _ _))
 simp only[execOp,ho,hxv,hyv,Sem.run_bind,hrun,Result.andThen_ok,Sem.run_pure]
end
end Go.EV

namespace Go.EV
open Go.RowKit Go.VK
variable {U:Uni} {Y:Lay U} {TI:List (Nat×TInfo)} {P:Program} {g:GI} {E:Env U g}
section
variable {s:St U} {a:Act} {w:World} {β:List Tr} {α:Type}
def aQ2 {t:Nat}{i:TInfo}(h:tiB P t i=true)(w:World):(sizeOf t).run P w= .ok i.k w:=by
 cases hi:i.u with
 |int k=>have:=Kv h hi;rw[this.2.2];exact(qY this.2.1).2
 |bool=>have:=A7 h hi;rw[this.2.2];exact(qY this.2.1).2
 |str=>have:=Fg h hi;rw[this.2.2];exact(qY this.2.1).2
 |sl e ek eb=>have:=yS h hi;rw[this.2.2];exact(qY this.2.1).2
 |st fs=>exact(vT (A8 h hi).1).2
def Fj (hTI:oO P TI=true)(r:bE Y.C E s a w β){o:Oper}{t:TypeId}{x y:Operand}{i:TInfo}{b off T rv cv:Nat}{cs ps:List (Lf U)}{us:List Nat}(ho:o.op= .store t x y)
  (h1:iE TI t=some i) (h2:dS s x= .l (.box b off)) (h3:parts (sG s y)=some ps) (h4:s.m.o[b]? =some ⟨.box T cs us,rv,cv⟩) (h5:ps.length=i.k) (h6:off+i.k<=cs.length) (h7:Bg ps=true):
  ∃(w':World) (β':List Tr) (t':Tr) (bb:Nat),(execOp a.eval o).run P w= .ok .skip w'/\bE Y.C E (trn s b (.box T (o5 cs off ps) (o5 us off (ps.map λ_=>Nat.succ s.m.k))) rv) a w' β'/\Evo w w' (E.X β) (E.X β') β β' s.m (trn s b (.box T (o5 cs off ps) (o5 us off (ps.map λ_=>Nat.succ s.m.k))) rv).m s.m.o.length s.m.ns.length s.m.k/\Bel (λk=>k=bb) w w'/\β[b]? =some t'/\t'.b=some bb:=by
 have hti:=bP hTI h1
 obtain⟨hpm,hone⟩:=vZ (iZ r (x:=y)) h3 h7
 have hxm:=lJ r h2
 obtain⟨_,e',t',k1,k2,k3⟩:=hxm
 rw[h4] at k1;injection k1 with k1;subst k1
 obtain⟨bb,k4,k5⟩:=k3 rfl
 have hok:=r.hp.ok b t' _ k2 h4
 obtain⟨q0,b',vs,q1,q2,q3,q4⟩:=hok
 rw[k4] at q1;injection q1 with q1;subst q1
 have hl:off+(a.eval y).cells.toList.length<=vs.length:=by rw[hpm.1,h5,q4.1];exact h6
 have hrun:=aAd (P:=P) (T:=T) (t:=t) (b:=bb) (off:=off) (cur:=vs) (vs:=(a.eval y).cells.toList) (v:=a.eval y) (w:=w) (by simp) (by rw[hpm.1,h5];exact aQ2 hti w) q3 hl hone
 obtain⟨f1,f2,f3,f4,f5⟩:=Ew w bb (vs.take off++(a.eval y).cells.toList++vs.drop (off+(a.eval y).cells.toList.length)).toArray
 obtain⟨β',r1,_,hev⟩:=r.turn (J:=[]) (ob:= .box T (o5 cs off ps) (o5 us off (ps.map λ_=>Nat.succ s.m.k))) (rv:=rv) (t':=t') h4 k2 (by simp) (by rw[f1];exact aj _) f2 f3 f4
  (λk _ hk=>f5 k (λe=>hk (by rw[e];exact Tr.root k4))) (λk hk=>⟨by rw[f1];exact(r.hp.new b t' k k2 hk).2, .inr (.inl hk)⟩) (r.hp.nd b t' k2) (.inl ⟨rfl,rfl⟩) (λ_=>⟨rfl,rfl⟩) (λβ' m' hev=>by
   have hcs:(o5 cs off ps).length=cs.length:=by
    rw[Ff _ _ _ (by rw[h5];exact h6)];simp;omega
   refine⟨?_,bb,_,k4,q2,setRow_heap _ _ _ _ _ _ q3,?_⟩
   ·rw[hcs,q0,Ff _ _ _ (by simp[h5];omega)];simp;omega
   ·have hg:=hpm.go hev
    have hq:=q4.go hev
    refine⟨by rw[hcs,<-q4.1];simp only[aw,bz,ck];omega,λj v c h8 h9=> ?_⟩
    rw[vU _ _ _ _ hl] at h8
    rw[Ff _ _ _ (by rw[h5];exact h6),vU _ _ _ _ (by rw[h5];exact h6)] at h9
    rw[hpm.1] at h8
    split at h8
    ·rename_i hj;rw[cH hj] at h9;exact hg.2 _ v c h8 h9
    ·rename_i hj;rw[cX hj] at h9;exact hq.2 _ v c h8 h9)
 refine⟨w.setRow bb (vs.take off++(a.eval y).cells.toList++vs.drop (off+(a.eval y).cells.toList.length)).toArray,β',t',bb,?_,r1,hev,⟨f2,f3,f4,by rw[f1];exact aj _,λk _ hk=>f5 k hk⟩,k2,k4⟩
 simp only[execOp,ho,k5,Instr.storeAt,Instr.sureAddr,Sem.run_bind,Sem.run_pure,Result.andThen_ok,hrun]
def aHs (hTI:oO P TI=true)(r:bE Y.C E s a w β){o:Oper}{t:TypeId}{x y:Operand}{i:TInfo}{b off T rv cv:Nat}{cs ps:List (Lf U)}{us:List Nat}(ho:o.op= .store t x y)
  (h1:iE TI t=some i) (h2:dS s x= .l (.box b off)) (h3:parts (sG s y)=some ps) (h4:s.m.o[b]? =some ⟨.box T cs us,rv,cv⟩) (h5:ps.length=i.k) (h6:off+i.k<=cs.length) (h7:Bg ps=true):
  SO P Y.C E a w o (.l .any) (trn s b (.box T (o5 cs off ps) (o5 us off (ps.map λ_=>Nat.succ s.m.k))) rv) false:=λK Q hK=>by
 obtain⟨w',β',t',bb,e1,r1,_,_,_,_⟩:=Fj hTI r ho h1 h2 h3 h4 h5 h6 h7
 exact wpo (.inr ⟨e1,rfl⟩) (hK _ _ β' r1 (λ_=>trivial) (λh=>by cases h))
def bAs {A M M' D:List Nat}(h:(A++(M++D)).Nodup)(hM:M'.Nodup)(hd:∀x,x∈M'->x∉A++(M++D)):(A++(M'++D)).Nodup:=by
 rw[dk] at h ⊢
 obtain⟨h1,h2,h3⟩:=h
 rw[dk] at h2
 obtain⟨h4,h5,h6⟩:=h2
 refine⟨h1,?_,λx hx y hy=> ?_⟩
 ·rw[dk]
  refine⟨hM,h5,λx hx y hy e=> ?_⟩
  subst e
  exact hd x hx (by simp[hy])
 ·rcases bw.1 hy with hy|hy
  ·rintro rfl
   exact hd x hy (by simp[hx])
  ·exact h3 x hx y (by simp[hy])
def aWf {α:Type}(l:List α)(off n:Nat)(h:off+n<=l.length):l=l.take off++((l.drop off).take n++l.drop (off+n))/\(l.take off).length=off/\((l.drop off).take n).length=n:=by
 refine⟨?_,by simp;omega,by simp;omega⟩
 rw[<-jt,cF,cF]
def aOe {C:Cod U}{X:Nat->Prop}{d d':Bool}{t:Tr}{b τ q off:Nat}{L:List (U.El τ)}{z z':U.El τ}{xs vs:List Value}{ds:List (Lf U)}{D:List Nat}(hb:t.b=some b)
  (hown:w.ownsRow 0 τ (U.K τ) t.val L.length xs) (hc:OwL C w X d xs (L.map (C.cel τ)).flatten t.bs) (hz:L[q]? =some z) (hD:OwL C w X d' vs ds D) (hl:off+vs.length<=U.K τ)
  (h9:C.cel τ z'=(C.cel τ z).take off++(ds++(C.cel τ z).drop (off+vs.length))):
  ∃(cur:Array Value) (A M Z:List Nat),w.heap[b]? =some (.cells cur τ (0,0))/\q*U.K τ+off+vs.length<=cur.toList.length/\t.bs=A++(M++Z)/\
   ∀(w':World) (X':Nat->Prop),w.heap.size<=w'.heap.size->(∀b,b<w.heap.size->X' b->X b)->(∀(p:Addr) (u:Value),¬X p.block->w.cell? p=some u->w'.cell? p=some u)->
    w'.heap[b]? =some (.cells (cur.toList.take (q*U.K τ+off)++vs++cur.toList.drop (q*U.K τ+off+vs.length)).toArray τ (0,0))->(∀k,k≠b->w'.heap[k]? =w.heap[k]?)->b∉t.bs->b∉D->
    ∃xs',w'.ownsRow 0 τ (U.K τ) t.val L.length xs'/\OwL C w' X' (d&&d') xs' ((L.set q z').map (C.cel τ)).flatten (A++(D++Z)):=by
 obtain⟨l1,l2,x1,xz,x2,B1,Bz,B2,g1,g2,g3,g4,g5,g6,o1,o2,o3⟩:=aQv hc hz
 obtain⟨s1,s2,s3⟩:=aWf (C.cel τ z) off vs.length (by rw[C.hlen];exact hl)
 rw[s1] at o2
 obtain⟨z1,zr,Bz1,Bzr,e1,e2,p1,p2⟩:=OwL.split o2
 obtain⟨z2,z3,Bz2,Bz3,e3,e4,p3,p4⟩:=OwL.split p2
 have hz1:z1.length=off:=by rw[p1.len,s2]
 have hz2:z2.length=vs.length:=by rw[p3.len,s3]
 rcases dO hown with⟨b1,_⟩|⟨b',cur,b1,b2,b3,b4,b5,b6,b7⟩
 ·rw[hb] at b1;cases b1
 rw[hb] at b1;injection b1 with b1;subst b1
 have hxs:cur.toList=(x1++(xz++x2))++cur.toList.drop (L.length*U.K τ):=by
  rw[<-g3,<-b7,cF]
 have hcur:cur.toList=(x1++z1)++(z2++(z3++(x2++cur.toList.drop (L.length*U.K τ)))):=by
  rw[e1,e3] at hxs
  simpa[ce] using hxs
 have hpos:q*U.K τ+off=(x1++z1).length:=by rw[aw,g4,hz1]
 have hnew:cur.toList.take (q*U.K τ+off)++vs++cur.toList.drop (q*U.K τ+off+vs.length)=(x1++((z1++(vs++z3))++x2))++cur.toList.drop (L.length*U.K τ):=by
  rw[hpos]
  rw[show cur.toList.take (x1++z1).length=x1++z1 by rw[hcur,ib]]
  rw[show cur.toList.drop ((x1++z1).length+vs.length)=z3++(x2++cur.toList.drop (L.length*U.K τ)) by
   rw[<-jt]
   conv=>lhs;rw[hcur]
   rw[jr,<-hz2,jr]]
  simp[ce]
 refine⟨cur,B1++Bz1,Bz2,Bz3++B2,b5,by rw[hcur,hpos];simp;omega,by rw[g6,e2,e4];simp,λw' X' c1 c2 c3 c4 c5 c6 c7=> ?_⟩
 rw[hnew] at c4
 have hne:∀k,(k∈B1\/k∈Bz1\/k∈Bz3\/k∈B2)->w'.heap[k]? =w.heap[k]? :=λk hk=>c5 k λe=>by
  subst e;apply c6;rw[g6,e2,e4];rcases hk with h|h|h|h<;>simp[h]
 have hlx:(x1++((z1++(vs++z3))++x2)).length=L.length*U.K τ:=by
  have:=hown.1
  rw[g3,e1,e3] at this
  simp only[aw] at this ⊢
  rw[<-hz2];omega
 have hset:L.set q z'=l1++z'::l2:=by rw[g1,<-g2];simp
 refine⟨x1++((z1++(vs++z3))++x2),⟨hlx, .inr ⟨b,t.c,_,?_,cw _,c4,b3,b4,?_,?_⟩⟩,?_⟩
 ·simp[Tr.val,hb,b2]
 ·have hh:cur.size=cur.toList.length:=by simp
  rw[<-b6,hh]
  simp only[fL,aw,ck]
  simp only[aw] at hlx
  have:L.length*U.K τ<=cur.toList.length:=by rw[<-hh,b6];exact en _ b3
  omega
 ·simp only[List.toList_toArray]
  rw[<-hlx,ib]
 ·rw[hset,cT,ey,bm,cR,h9]
  have hsoft:(d&&d')=true->d=true:=λh=>by simp at h;exact h.1
  have hsoft':(d&&d')=true->d'=true:=λh=>by simp at h;exact h.2
  rw[show(B1++Bz1)++(D++(Bz3++B2))=B1++((Bz1++(D++Bz3))++B2) by simp]
  exact OwL.app ((o1.conv c1 c2 c3 (λk hk=>hne k (.inl hk))).fl hsoft)
   (OwL.app (OwL.app ((p1.conv c1 c2 c3 (λk hk=>hne k (.inr (.inl hk)))).fl hsoft)
    (OwL.app ((hD.conv c1 c2 c3 (λk hk=>c5 k λe=>c7 (e▸hk))).fl hsoft') ((p4.conv c1 c2 c3 (λk hk=>hne k (.inr (.inr (.inl hk))))).fl hsoft)))
    ((o3.conv c1 c2 c3 (λk hk=>hne k (.inr (.inr (.inr hk))))).fl hsoft))
def bHi {C:Cod U}{X:Nat->Prop}{d:Bool}{B:List Nat}{τ τ' q j:Nat}{L:List (U.El τ)}{z:U.El τ}{l:List (U.El τ')}{xs:List Value}(hc:OwL C w X d xs (L.map (C.cel τ)).flatten B)(hz:L[q]? =some z)(hj:(C.cel τ z)[j]? =some (.sl τ' l)):
  ∃(v:Value) (A B0 Z:List Nat),xs[q*U.K τ+j]? =some v/\Ow C w X d v (.sl τ' l) B0/\B=A++(B0++Z)/\
   ∀(w':World) (X':Nat->Prop) (d2:Bool) (l':List (U.El τ')) (z2:U.El τ) (B':List Nat),w.heap.size<=w'.heap.size->(∀b,b<w.heap.size->X' b->X b)->(∀(p:Addr) (u:Value),¬X p.block->w.cell? p=some u->w'.cell? p=some u)->
    (∀k,k∈A\/k∈Z->w'.heap[k]? =w.heap[k]?)->(d2=true->d=true)->Ow C w' X' d2 v (.sl τ' l') B'->C.cel τ z2=(C.cel τ z).take j++(.sl τ' l'::(C.cel τ z).drop (j+1))->OwL C w' X' d2 xs ((L.set q z2).map (C.cel τ)).flatten (A++(B'++Z)):=by
 obtain⟨l1,l2,x1,xz,x2,B1,Bz,B2,g1,g2,g3,g4,g5,g6,o1,o2,o3⟩:=aQv hc hz
 have hjl:j<(C.cel τ z).length:=lt_of_some hj
 have s1:C.cel τ z=(C.cel τ z).take j++((.sl τ' l)::(C.cel τ z).drop (j+1)):=by
  rw[ac hjl] at hj;injection hj with hj
  rw[<-hj,<-co hjl,cF]
 rw[s1] at o2
 obtain⟨z1,zr,Bz1,Bzr,e1,e2,p1,p2⟩:=OwL.split o2
 have hz1:z1.length=j:=by rw[p1.len,bz];omega
 cases p2 with
 | @c v _ B0 Br vs _ hv hr=>
  refine⟨v,B1++Bz1,B0,Br++B2,?_,hv,by rw[g6,e2];simp,λw' X' d2 l' z2 B' c1 c2 c3 c4 c5 c6 c7=> ?_⟩
  ·rw[g3,e1,<-g4,ay (db _ _),cP,ce,<-hz1,ay (aj _),fj];rfl
  ·rw[show L.set q z2=l1++z2::l2 by rw[g1,<-g2];simp,cT,ey,bm,cR,c7,g3,e1]
   rw[show(B1++Bz1)++(B'++(Br++B2))=B1++((Bz1++(B'++Br))++B2) by simp]
   exact OwL.app ((o1.conv c1 c2 c3 (λk hk=>c4 k (.inl (by simp[hk])))).fl c5)
    (OwL.app (OwL.app ((p1.conv c1 c2 c3 (λk hk=>c4 k (.inl (by simp[hk])))).fl c5) (.c c6 ((hr.conv c1 c2 c3 (λk hk=>c4 k (.inr (by simp[hk])))).fl c5)))
     ((o3.conv c1 c2 c3 (λk hk=>c4 k (.inr (by simp[hk])))).fl c5))
def aTj {ids:List Nat}{b:Nat}{t t2:Tr}(r:bE Y.C E s a w β)(k2:β[b]? =some t)(hJ:(b::ids).Nodup){A M Z:List Nat}(h1:t.all=A++(M++Z))(h2:t2.all=A++(jM β ids++Z)):
  t2.all.Nodup/\(∀k∈t2.all,k<w.heap.size/\(w.heap.size<=k\/k∈t.all\/∃j∈ids,∃u,β[j]? =some u/\k∈u.all))/\∀k,k∈jM β ids->k∉t.all:=by
 have hdisj:∀k,k∈jM β ids->k∉t.all:=λk hk hk'=>by
  obtain⟨j,hj,u,hu,hub⟩:=vB hk
  exact r.hp.dist j b u t k (λe=>(cu.1 hJ).1 (e▸hj)) hu k2 hub hk'
 refine⟨?_,λk hk=> ?_,hdisj⟩
 ·rw[h2];exact bAs (h1▸r.hp.nd b t k2) (aQ1 r.hp (cu.1 hJ).2) (λk hk=>h1▸hdisj k hk)
 ·have:k∈t.all\/k∈jM β ids:=by
   rw[h2] at hk;rw[h1];simp only[bw] at hk ⊢
   rcases hk with h|h|h
   ·exact .inl (.inl h)
   ·exact .inr h
   ·exact .inl (.inr (.inr h))
  rcases this with h|h
  ·exact⟨(r.hp.new b t k k2 h).2, .inr (.inl h)⟩
  ·obtain⟨j,hj,u,hu,hub⟩:=vB h
   exact⟨(r.hp.new j u k hu hub).2, .inr (.inr ⟨j,hj,u,hu,hub⟩)⟩
def aEn (hTI:oO P TI=true)(hY:LayOk Y)(r:bE Y.C E s a w β){o:Oper}{t:TypeId}{x y:Operand}{i:TInfo}{b c τ off rv cv:Nat}{q:Int}{z z':U.El τ}{d d':Bool}{L:List (U.El τ)}{ps ds:List (Lf U)}{ids:List Nat}(ho:o.op= .store t x y)
  (h1:iE TI t=some i) (h2:dS s x= .l (.oel b c τ q z off)) (h3:parts (sG s y)=some ps) (h4:s.m.o[b]? =some ⟨.tree τ d L,rv,cv⟩) (hcv:cv=c) (h5:ps.length=i.k) (h6:off+i.k<=U.K τ) (h7:Bg ps=true)
  (h8:aAg s.m ((((Y.kd τ).drop off).take i.k)) ps=some (ds,ids,d')) (hJ:(b::ids).Nodup) (h9:Y.C.bld τ (o5 (Y.C.cel τ z) off ds)=some z'):
  SO P Y.C E a w o (.l .any) ⟨s.t,⟨Qg (Nat.succ s.m.k) ids (upd s.m.o b ⟨.tree τ (d&&d') (L.set q.toNat z'),rv,Nat.succ s.m.k⟩),Nat.succ s.m.k,s.m.ns⟩,s.fr⟩ false:=λK Q hK=>by
 have hti:=bP hTI h1
 obtain⟨hpm,hone⟩:=vZ (iZ r (x:=y)) h3 h7
 obtain⟨_,e',t',k1,k2,k3⟩:=lJ r h2
 rw[h4] at k1;injection k1 with k1;subst k1
 obtain⟨d0,L0,bb,a1,a2,a3,a4,a5⟩:=k3 hcv
 injection a1 with _ a1 a1'
 subst a1;subst a1'
 obtain⟨hk0,xs,c1,c2⟩:=r.hp.ok b t' _ k2 h4
 have hO:=Bv r.hp h8 hpm (λkd hk τ' e=>hY.pos τ τ' (by subst e;exact dl (gf hk)))
 have hvl:(a.eval y).cells.toList.length=i.k:=by rw[hpm.1,h5]
 have hdl:ds.length=i.k:=by rw[<-hO.len,hvl]
 obtain⟨cur,A,M,Z,f1,f2,f3,f4⟩:=aOe (d':=d') a4 c1 c2 a3 hO (by rw[hvl];exact h6) (z':=z') (by rw[<-Y.C.hmk τ _ z' h9,Ff _ _ _ (by rw[hdl,Y.C.hlen];exact h6),hdl,hvl,ce])
 have hrun:=aAd (P:=P) (T:=τ) (t:=t) (b:=bb) (off:=q.toNat*U.K τ+off) (cur:=cur.toList) (vs:=(a.eval y).cells.toList) (v:=a.eval y) (w:=w) (by simp) (by rw[hvl];exact aQ2 hti w) (by simpa using f1) f2 hone
 generalize hN:(cur.toList.take (q.toNat*U.K τ+off)++(a.eval y).cells.toList++cur.toList.drop (q.toNat*U.K τ+off+(a.eval y).cells.toList.length)).toArray=N at hrun f4
 obtain⟨n1,n2,n3,n4,n5⟩:=Ew w bb N
 have hall:t'.all=(bb::A)++(M++Z):=by simp[Tr.all,a4,f3]
 let t2:Tr:=⟨t'.b,t'.n,t'.c,A++(jM β ids++Z)⟩
 obtain⟨m1,m2,m3⟩:=aTj (t2:=t2) r k2 hJ hall (by simp[t2,Tr.all,a4])
 have hnd:=r.hp.nd b t' k2
 have hbs:bb∉t'.bs:=λh=>by simp[Tr.all,a4] at hnd;exact hnd.1 h
 obtain⟨β',r1,_,_⟩:=r.turn (J:=ids) (ob:= .tree τ (d&&d') (L.set q.toNat z')) (rv:=rv) (t':=t2) h4 k2 hJ (by rw[n1];exact aj _) n2 n3 n4
  (λk _ hk=>n5 k (λe=>hk (by rw[e];exact Tr.root a4))) (λk hk=>⟨by rw[n1];exact(m2 k hk).1,(m2 k hk).2⟩) m1 (.inl ⟨rfl,rfl⟩) (λh=>by cases h) (λβ' m' hev=>by
   obtain⟨xs',p1,p2⟩:=f4 _ (E.X β') hev.sz hev.hX hev.hc (setRow_heap _ _ _ _ _ _ f1) n5 hbs (λh=>m3 _ h (Tr.root a4))
   exact⟨hk0,xs',by rw[ax];exact p1,p2⟩)
 refine wpo (w':=w.setRow bb N) (v:=undef) (.inr ⟨?_,rfl⟩) (hK _ _ β' r1 (λ_=>trivial) (λh=>by cases h))
 simp only[execOp,ho,a5,Instr.storeAt,Instr.sureAddr,Sem.run_bind,Sem.run_pure,Result.andThen_ok,hrun]
def aMd (hTI:oO P TI=true)(hY:LayOk Y)(r:bE Y.C E s a w β){o:Oper}{t:TypeId}{x y:Operand}{i:TInfo}{b c τ τ' j off rv cv:Nat}{q q':Int}{z z3:U.El τ}{z' z2:U.El τ'}{l:List (U.El τ')}{d d':Bool}{L:List (U.El τ)}{ps ds:List (Lf U)}{ids:List Nat}(ho:o.op= .store t x y)
  (h1:iE TI t=some i) (h2:dS s x= .l (.oin b c τ q z j τ' l q' z' off)) (h3:parts (sG s y)=some ps) (h4:s.m.o[b]? =some ⟨.tree τ d L,rv,cv⟩) (hcv:cv=c) (h5:ps.length=i.k) (h6:off+i.k<=U.K τ') (h7:Bg ps=true)
  (h8:aAg s.m ((((Y.kd τ').drop off).take i.k)) ps=some (ds,ids,d')) (hJ:(b::ids).Nodup) (h9:Y.C.bld τ' (o5 (Y.C.cel τ' z') off ds)=some z2) (h10:Y.C.bld τ (upd (Y.C.cel τ z) j (.sl τ' (l.set q'.toNat z2)))=some z3):
  SO P Y.C E a w o (.l .any) ⟨s.t,⟨Qg (Nat.succ s.m.k) ids (upd s.m.o b ⟨.tree τ (d&&d') (L.set q.toNat z3),rv,Nat.succ s.m.k⟩),Nat.succ s.m.k,s.m.ns⟩,s.fr⟩ false:=λK Q hK=>by
 have hti:=bP hTI h1
 obtain⟨hpm,hone⟩:=vZ (iZ r (x:=y)) h3 h7
 obtain⟨_,e',t',k1,k2,k3⟩:=lJ r h2
 rw[h4] at k1;injection k1 with k1;subst k1
 obtain⟨L0,xs,v0,b2,n',c',a1,a2,a3,a4,a5,a6,a7,a8,a9,a10⟩:=k3 hcv
 injection a1 with _ a1 a1'
 subst a1;subst a1'
 obtain⟨hk0,xs1,c1,c2⟩:=r.hp.ok b t' _ k2 h4
 obtain rfl:=aS6 a5 c1
 have hO:=Bv r.hp h8 hpm (λkd hk τ2 e=>hY.pos τ' τ2 (by subst e;exact dl (gf hk)))
 have hvl:(a.eval y).cells.toList.length=i.k:=by rw[hpm.1,h5]
 have hdl:ds.length=i.k:=by rw[<-hO.len,hvl]
 obtain⟨v1,A,B0,Z,d1,d2,d3,d4⟩:=bHi c2 a3 a4
 rw[a6] at d1;injection d1 with d1;subst d1
 cases d2 with
 |fz hd=>cases hd
 |su hd=>cases hd
 |sl u hk hown hc=>
  have hub:=bJl a7
  obtain⟨cur,A1,M,Z1,f1,f2,f3,f4⟩:=aOe (d':=d') hub hown hc a9 hO (by rw[hvl];exact h6) (z':=z2) (by rw[<-Y.C.hmk τ' _ z2 h9,Ff _ _ _ (by rw[hdl,Y.C.hlen];exact h6),hdl,hvl,ce])
  have hrun:=aAd (P:=P) (T:=τ') (t:=t) (b:=b2) (off:=q'.toNat*U.K τ'+off) (cur:=cur.toList) (vs:=(a.eval y).cells.toList) (v:=a.eval y) (w:=w) (by simp) (by rw[hvl];exact aQ2 hti w) (by simpa using f1) f2 hone
  generalize hN:(cur.toList.take (q'.toNat*U.K τ'+off)++(a.eval y).cells.toList++cur.toList.drop (q'.toNat*U.K τ'+off+(a.eval y).cells.toList.length)).toArray=N at hrun f4
  obtain⟨n1,n2,n3,n4,n5⟩:=Ew w b2 N
  let u2:Tr:=⟨u.b,u.n,u.c,A1++(jM β ids++Z1)⟩
  let t2:Tr:=⟨t'.b,t'.n,t'.c,A++(u2.all++Z)⟩
  have hall:t'.all=(t'.b.toList++(A++(b2::A1)))++(M++(Z1++Z)):=by simp[Tr.all,d3,f3,hub]
  obtain⟨m1,m2,m3⟩:=aTj (t2:=t2) r k2 hJ hall (by simp[t2,u2,Tr.all,hub])
  have hin:b2∈t'.all:=by rw[hall];simp
  have hnd:=r.hp.nd b t' k2
  have hall2:t'.all=(t'.b.toList++A)++(b2::(u.bs++Z)):=by simp[Tr.all,d3,hub]
  rw[hall2,dk,cu] at hnd
  have hA:∀k,k∈t'.b.toList\/k∈A\/k∈Z->k≠b2:=λk hk e=>by
   subst e
   rcases hk with h|h|h
   ·exact hnd.2.2 k (by simp[h]) k (by simp) rfl
   ·exact hnd.2.2 k (by simp[h]) k (by simp) rfl
   ·exact hnd.2.1.1 (by simp[h])
  obtain⟨β',r1,_,_⟩:=r.turn (J:=ids) (ob:= .tree τ (true&&d') (L.set q.toNat z3)) (rv:=rv) (t':=t2) h4 k2 hJ (by rw[n1];exact aj _) n2 n3 n4
   (λk _ hk=>n5 k (λe=>hk (by rw[e];exact hin))) (λk hk=>⟨by rw[n1];exact(m2 k hk).1,(m2 k hk).2⟩) m1 (.inl ⟨rfl,rfl⟩) (λh=>by cases h) (λβ' m' hev=>by
    obtain⟨ys,p1,p2⟩:=f4 _ (E.X β') hev.sz hev.hX hev.hc (setRow_heap _ _ _ _ _ _ f1) n5 (λh=>hnd.2.1.1 (by simp[h])) (λh=>m3 _ h hin)
    refine⟨hk0,xs,by rw[ax];exact mG c1 (λk hk=>n5 k (hA k (.inl (by rw[show t'.b=some k from hk];simp)))),?_⟩
    refine d4 _ (E.X β') (true&&d') (l.set q'.toNat z2) z3 u2.all hev.sz hev.hX hev.hc (λk hk=>n5 k (hA k (.inr hk))) (λ_=>rfl) (.sl u2 hk (by rw[ax];exact p1) p2) ?_
    rw[<-Y.C.hmk τ _ z3 h10,bX,List.set_eq_take_append_cons_drop,cH (lt_of_some a4)])
  refine wpo (w':=w.setRow b2 N) (v:=undef) (.inr ⟨?_,rfl⟩) (hK _ _ β' r1 (λ_=>trivial) (λh=>by cases h))
  simp only[execOp,ho,a10,Instr.storeAt,Instr.sureAddr,Sem.run_bind,Sem.run_pure,Result.andThen_ok,hrun]
end
end Go.EV

namespace Go.EV
open Go.RowKit Go.VK
variable {U:Uni} {Y:Lay U} {TI:List (Nat×TInfo)} {P:Program} {g:GI} {E:Env U g}
section
variable {s:St U} {a:Act} {w:World} {β:List Tr} {α:Type}
def Vg {t:TypeId}{e k bts n:Nat}{ps:Array (Nat×Operand)}{vs:List Value}(ht:slB P t e k bts=true)(hn:vs.length=n)(h24:n*k<=16777216)(hps:(ps.toList.map λ(i,x)=>(i,a.eval x))=(vs.zipIdx 0|>.map λ(v,j)=>(j,v)))(hsz:∀v∈vs,v.cells.size=k){o:Oper}(ho:o.op= .buildSlice t n ps):
  ∃cells:Array Value,(execOp a.eval o).run P w= .ok (.value (.slice (some ⟨w.heap.size,0,none⟩) n n)) (w.alloc (.cells cells e))/\cells.toList=(vs.map λv=>v.cells.toList).flatten:=by
 obtain⟨hu,i,z,hi,hz,hik,hib,hzk,hk0⟩:=eX ht
 have hz0:∃zc:Array Value,(if n*k=0 then(pure #[]:Sem (Array Value)) else do pure (<-zeroValue e).cells).run P w= .ok zc w:=by
  by_cases h:n*k=0
  ·exact⟨#[],by simp[h]⟩
  ·exact⟨z.cells,by simp[h,zeroValue,typeInfo,hi,hz]⟩
 obtain⟨zc,hzc⟩:=hz0
 obtain⟨res,r1,r2,r3,r4⟩:=aAe k vs 0 ((Array.range (n*k)).map (zc[·%zc.size]!)) hsz (by simp[hn])
 have r2':res.size=n*k:=by rw[r2];simp
 refine⟨res,?_,?_⟩
 ·have hp:((ps.map λ(i,x)=>(i,a.eval x)):Array (Nat×Value)).toList=((vs.zipIdx 0).map λ(v,j)=>(j,v)):=by
   rw[<-hps];simp
  simp only[execOp,ho,Instr.buildSlice,Sem.run_bind,run_underlying hu,Result.andThen_ok]
  have hs:(sizeOf e).run P w= .ok k w:=by simp[sizeOf,typeInfo,hi,hik]
  simp only[hs,Result.andThen_ok]
  rw[cX (by omega)]
  by_cases h:n*k=0
  ·have hzc':zc= #[]:=by simp[h] at hzc;exact hzc
   subst hzc'
   simp only[h,gy,Sem.run_bind,Sem.run_pure,Result.andThen_ok]
   rw[h] at r1
   simp only[hp,r1,newRow,Sem.run_bind,run_newObj,Sem.run_pure,Result.andThen_ok]
   rfl
  ·simp only[h,if_false,Sem.run_bind,Sem.run_pure] at hzc ⊢
   have hzc':((zeroValue e).run P w).andThen (λa w'=>Result.ok a.cells w')= .ok zc w:=hzc
   have hz2:(zeroValue e).run P w= .ok z w:=by simp[zeroValue,typeInfo,hi,hz]
   rw[hz2] at hzc'
   simp only[Result.andThen_ok,Result.ok.injEq,and_true] at hzc'
   simp only[hz2,Result.andThen_ok,hzc',hp,r1,newRow,Sem.run_bind,run_newObj,Sem.run_pure]
   rfl
 ·have hlen:(vs.map λv=>v.cells.toList).flatten.length=n*k:=by
   have:∀(vs:List Value),(∀v∈vs,v.cells.size=k)->(vs.map λv=>v.cells.toList).flatten.length=vs.length*k:=by
    intro vs
    induction vs with
    |nil=>simp
    |cons v vs ih=>
     intro h
     simp only[bm,cR,aw,cx,h v (by simp),ih (λv hv=>h v (by simp[hv])),av,dr];omega
   rw[this vs hsz,hn]
  apply List.ext_getElem?
  intro q
  by_cases hq:q<n*k
  ·obtain⟨q0,q1,hq1,rfl⟩:∃q0 q1,q1<k/\q=q0*k+q1:=⟨q/k,q%k,Nat.mod_lt _ hk0,by rw[fk];exact(gE q _).symm⟩
   have hdiv:q0<n:=jn (Nat.lt_of_le_of_lt (db _ _) hq)
   have hv:vs[q0]? =some (vs[q0]'(by omega)):=ac _
   have h4:=r4 q0 q1 _ hv hq1
   rw[ca] at h4
   have key:∀(vs:List Value) (q0:Nat) (v:Value),(∀v∈vs,v.cells.size=k)->vs[q0]? =some v->(vs.map λv=>v.cells.toList).flatten[q0*k+q1]? =v.cells.toList[q1]? :=by
    intro vs
    induction vs with
    |nil=>intro q0 v _ h;simp at h
    |cons u vs ih=>
     intro q0 v h hv
     cases q0 with
     |zero=>
      simp at hv;subst hv
      simp only[bm,cR,Nat.zero_mul,ca]
      rw[aq (by simp[h u (by simp)];exact hq1)]
     |succ q0=>
      simp only[bm,cR]
      have hu:u.cells.toList.length=k:=by simp[h u (by simp)]
      rw[show(q0+1)*k+q1=u.cells.toList.length+(q0*k+q1) by rw[hu,dr];omega,ay (db _ _),cP]
      exact ih q0 v (λv hv=>h v (by simp[hv])) (by simpa using hv)
   rw[key vs q0 _ hsz hv]
   simpa using h4
  ·rw[dg (by simp[r2'];omega),dg (by omega)]
def bAt (hY:LayOk Y)(r:bE Y.C E s a w β){e:Nat}{x:Operand}{z:U.El e}{ids:List Nat}{d:Bool}(h:bG6 Y s e (dS s x)=some (z,ids,d)):
  OwL Y.C w (E.X β) d (a.eval x).cells.toList (Y.C.cel e z) (jM β ids):=by
 unfold bG6 at h
 cases hp:parts (dS s x) with
 |none=>simp[hp] at h
 |some cs=>
  cases hab:aAg s.m (Y.kd e) cs with
  |none=>simp[hp,hab] at h
  |some q=>
   obtain⟨ds,ids',d'⟩:=q
   cases hb:Y.C.bld e ds with
   |none=>simp[hp,hab,hb] at h
   |some z'=>
    simp only[hp,hab,hb,ai,cU] at h
    obtain⟨rfl,rfl,rfl⟩:=h
    rw[<-Y.C.hmk e ds z' hb]
    have hm:=vX r (x:=x)
    cases ho:dS s x with
    |l y=>
     rw[ho] at hm hp
     simp only[parts,ai] at hp
     subst hp
     cases hk:Y.kd e with
     |nil=>rw[hk] at hab;cases hab
     |cons kd ks=>
      rw[hk] at hab
      simp only[aAg] at hab
      cases h1:aS0 s.m kd y with
      |none=>simp[h1] at hab
      |some q1=>
       obtain⟨y',i1,d1⟩:=q1
       have ho:=aOd r.hp h1 hm (λτ e'=>hY.pos e τ (by rw[hk,e'];simp))
       have:(a.eval x).cells= #[a.eval x]:=Qd ho.one
       rw[this]
       refine Bv r.hp (ks:=kd::ks) (xs:=[y]) (by simp only[aAg];exact hab) ⟨rfl,λi u c h5 h6=> ?_⟩ (λkd' hkd τ e'=>hY.pos e τ (by rw[hk];subst e';exact hkd))
       cases i with
       |zero=>simp at h5 h6;subst h5;subst h6;exact hm
       |succ i=>simp at h5
    |a ds'=>
     rw[ho] at hm hp
     simp only[parts,ai] at hp
     subst hp
     obtain⟨vs,hv,hM⟩:=hm
     rw[hv]
     exact Bv r.hp hab hM (λkd' hkd τ e'=>hY.pos e τ (by subst e';exact hkd))
    |t xs=>rw[ho] at hp;cases hp
def Fp (hY:LayOk Y)(r:bE Y.C E s a w β){e:Nat}:∀{ps:List (Nat×Operand)} {n:Nat} {l:List (U.El e)} {ids:List Nat} {d:Bool},Kt Y s e n ps=some (l,ids,d)->
  ∃vs:List Value,(ps.map λ(i,x)=>(i,a.eval x))=(vs.zipIdx n|>.map λ(v,j)=>(j,v))/\vs.length=ps.length/\l.length=ps.length/\(∀v∈vs,v.cells.size=U.K e)/\OwL Y.C w (E.X β) d (vs.map λv=>v.cells.toList).flatten (l.map (Y.C.cel e)).flatten (jM β ids)
 |[],n,l,ids,d,h=>by
  simp only[Kt,ai,cU] at h
  obtain⟨rfl,rfl,rfl⟩:=h
  exact⟨[],rfl,rfl,rfl,by simp, .n⟩
 |(i,x)::ps,n,l,ids,d,h=>by
  simp only[Kt] at h
  cases hb:Nat.beq i n with
  |false=>simp[hb] at h
  |true=>
   have hin:i=n:=ah hb
   subst hin
   simp only[hb,ae] at h
   cases h1:bG6 Y s e (dS s x) with
   |none=>simp[h1] at h
   |some q=>
    obtain⟨z,i1,d1⟩:=q
    cases h2:Kt Y s e (Nat.succ i) ps with
    |none=>simp[h1,h2] at h
    |some q2=>
     obtain⟨zs,i2,d2⟩:=q2
     simp only[h1,h2,ai,cU] at h
     obtain⟨rfl,rfl,rfl⟩:=h
     obtain⟨vs,k1,k2,k3,k4,k5⟩:=Fp hY r h2
     have hO:=bAt hY r h1
     refine⟨a.eval x::vs,by simp[gu,k1],by simp[k2],by simp[k3],λv hv=> ?_,?_⟩
     ·rcases ba.1 hv with rfl|hv
      ·have:=hO.len;rw[Y.C.hlen] at this;simpa using this
      ·exact k4 v hv
     ·rw[D5]
      simp only[bm,cR]
      exact OwL.app (hO.fl (by simp;exact λh _=>h)) (k5.fl (by simp))
def aTk (hTI:oO P TI=true)(hY:LayOk Y)(r:bE Y.C E s a w β){o:Oper}{t:TypeId}{n e ek eb k:Nat}{zz:List Kz}{ps:Array (Nat×Operand)}{l:List (U.El e)}{d:Bool}(ho:o.op= .buildSlice t n ps)
  (h1:iE TI t=some ⟨.sl e ek eb,k,zz⟩) (h2:ps.toList.length=n) (h3:n*ek<=16777216) (h4:Fa (U:=U) e ek e=true) (h5:Kt Y s e 0 ps.toList=some (l,[],d)):SO P Y.C E a w o (.l (.sl e l)) s true:=λK Q hK=>by
 have hsl:=(yS (bP hTI h1) rfl).1
 obtain⟨_,_,_,_,_,_,_,_,hk0⟩:=eX hsl
 simp only[Fa,aa] at h4
 have hKe:U.K e=ek:=ah h4.2
 obtain⟨vs,k1,k2,k3,k4,k5⟩:=Fp hY r h5
 rw[hKe] at k4
 obtain⟨cells,q1,q2⟩:=Vg (w:=w) hsl (k2.trans h2) h3 k1 k4 ho
 have he:Ext w (w.alloc (.cells cells e)):=Ext.alloc _ _
 have hnm:n<=maxLen:=by
  have:n*1<=n*ek:=fo _ hk0
  unfold maxLen;omega
 refine wpo (w':=w.alloc (.cells cells e)) (v:= .slice (some ⟨w.heap.size,0,none⟩) n n) (.inl q1) (hK _ _ β (r.ext he) (λ_=> ?_) (λ_=>he))
 have hown:(w.alloc (.cells cells e)).ownsRow 0 e (U.K e) (.slice (some ⟨w.heap.size,0,none⟩) n n) l.length cells.toList:=by
  rw[k3,h2]
  exact World.ownsRow_lit w cells n (cw _) hnm (by
   have hc:cells.size=cells.toList.length:=by simp
   rw[hc,q2,k5.len,Bp (Y.C.hlen e),k3,h2])
 exact Ow.rd (X:=E.X β) (Z:=E.X β) (λ_ h=>h) (Ow.sl ⟨some w.heap.size,n,n,[]⟩ (by rw[hKe];exact hk0) hown (by
  rw[q2]
  exact k5.conv he.size (λb _ h=>h) (λp u _ hc=>he.cell hc) (λb hb=>absurd (show b∈([]:List Nat) from hb) (by simp)))) (λb hb hx=>by
  simp[Tr.all] at hb;subst hb;exact Nat.lt_irrefl _ (r.hp.aCB _ hx))
def aTl (hTI:oO P TI=true)(hY:LayOk Y)(r:bE Y.C E s a w β){o:Oper}{t:TypeId}{n e ek eb k:Nat}{zz:List Kz}{ps:Array (Nat×Operand)}{l:List (U.El e)}{ids:List Nat}{d:Bool}(ho:o.op= .buildSlice t n ps)
  (h1:iE TI t=some ⟨.sl e ek eb,k,zz⟩) (h2:ps.toList.length=n) (h3:n*ek<=16777216) (h4:Fa (U:=U) e ek e=true) (h5:Kt Y s e 0 ps.toList=some (l,ids,d)) (hJ:(s.m.o.length::ids).Nodup):
  SO P Y.C E a w o (.l (.own (len s.m.o) s.m.k)) ⟨s.t,⟨Qg (Nat.succ s.m.k) ids (upd (s.m.o++[⟨.dead,s.m.k,s.m.k⟩]) (len s.m.o) ⟨.tree e d l,s.m.k,Nat.succ s.m.k⟩),Nat.succ s.m.k,s.m.ns⟩,s.fr⟩ true:=λK Q hK=>by
 have hsl:=(yS (bP hTI h1) rfl).1
 obtain⟨_,_,_,_,_,_,_,_,hk0⟩:=eX hsl
 simp only[Fa,aa] at h4
 have hKe:U.K e=ek:=ah h4.2
 obtain⟨vs,k1,k2,k3,k4,k5⟩:=Fp hY r h5
 rw[hKe] at k4
 obtain⟨cells,q1,q2⟩:=Vg (w:=w) hsl (k2.trans h2) h3 k1 k4 ho
 have he:Ext w (w.alloc (.cells cells e)):=Ext.alloc _ _
 have hnm:n<=maxLen:=by
  have:n*1<=n*ek:=fo _ hk0
  unfold maxLen;omega
 have r1:=r.add he [((⟨.dead,s.m.k,s.m.k⟩:EO U),(⟨some w.heap.size,n,n,[]⟩:Tr))] (by simp) (by simp[Tr.all]) (by simp[Tr.all]) (λ_ x hx=>by simp at hx;subst hx;trivial)
 have hli:(s.m.o++[(⟨.dead,s.m.k,s.m.k⟩:EO U)])[s.m.o.length]? =some ⟨.dead,s.m.k,s.m.k⟩:=by simp
 have hlb:(β++[(⟨some w.heap.size,n,n,[]⟩:Tr)])[s.m.o.length]? =some ⟨some w.heap.size,n,n,[]⟩:=by rw[<-r.hp.len];simp
 have hidl:∀j∈ids,∀u,(β++[(⟨some w.heap.size,n,n,[]⟩:Tr)])[j]? =some u->β[j]? =some u:=λj hj u hu=>by
  have hne:j≠s.m.o.length:=λe=>(cu.1 hJ).1 (e▸hj)
  by_cases hl:j<β.length
  ·rwa [aq hl] at hu
  ·have:=lt_of_some hu
   simp at this
   rw[r.hp.len] at this hl;omega
 have hbl:jM (β++[(⟨some w.heap.size,n,n,[]⟩:Tr)]) ids=jM β ids:=by
  unfold jM
  congr 1
  apply gh
  intro j hj
  by_cases hl:j<β.length
  ·rw[aq hl]
  ·have hne:j≠s.m.o.length:=λe=>(cu.1 hJ).1 (e▸hj)
   rw[dg (by simp;rw[r.hp.len] at hl ⊢;omega),dg (by omega)]
 obtain⟨β',r2,r3,r4⟩:=r1.turn (w':=w.alloc (.cells cells e)) (J:=ids) (ob:= .tree e d l) (rv:=s.m.k) (t':=⟨some w.heap.size,n,n,jM β ids⟩) hli hlb hJ (aj _) rfl rfl rfl (λ_ _ _=>rfl)
  (λb hb=>by
   simp only[Tr.all,eW,cA,bn,ba] at hb
   rcases hb with rfl|hb
   ·exact⟨by simp, .inr (.inl (by simp[Tr.all]))⟩
   ·obtain⟨j,hj,u,hu,hub⟩:=vB hb
    have:=(r.hp.new j u b hu hub).2
    refine⟨by simp;omega, .inr (.inr ⟨j,hj,u,?_,hub⟩)⟩
    rw[aq (lt_of_some hu)];exact hu)
  (by
   simp only[Tr.all,eW,cA,bn]
   rw[cu]
   refine⟨λhb=> ?_,aQ1 r.hp (cu.1 hJ).2⟩
   obtain⟨j,_,u,hu,hub⟩:=vB hb
   have:=(r.hp.new j u _ hu hub).2;omega)
  (.inl ⟨rfl,rfl⟩) (λh=>by cases h) (λβ' m' hev=>by
   refine⟨by rw[hKe];exact hk0,cells.toList,?_,?_⟩
   ·rw[k3,h2]
    exact World.ownsRow_lit w cells n (cw _) hnm (by
     have hc:cells.size=cells.toList.length:=by simp
     rw[hc,q2,k5.len,Bp (Y.C.hlen e),k3,h2])
   ·rw[q2]
    have hX0:∀b,b<w.heap.size->E.X (β++[(⟨some w.heap.size,n,n,[]⟩:Tr)]) b->E.X β b:=λb hb hx=>by
     rcases hx with h|h|⟨u,hu,hub⟩
     ·exact .inl h
     ·exact .inr (.inl h)
     ·rcases bw.1 hu with hu|hu
      ·exact .inr (.inr ⟨u,hu,hub⟩)
      ·simp at hu;subst hu;simp[Tr.all] at hub;omega
    exact k5.conv he.size (λb hb hx=>hX0 b hb (hev.hX b (cf hb he.size) hx)) (λp u _ hc=>he.cell hc) (λb hb=>by
     obtain⟨j,_,u,hu,hub⟩:=vB hb
     exact he.block b (r.hp.new j u b hu hub).2))
 rw[<-bH] at r2 r3
 refine wpo (w':=w.alloc (.cells cells e)) (v:= .slice (some ⟨w.heap.size,0,none⟩) n n) (.inl q1) (hK _ _ β' r2 (λ_=> ?_) (λ_=>he))
 refine⟨⟨eo _,rfl⟩,⟨.tree e d l,s.m.k,Nat.succ s.m.k⟩,_,?_,r3,λ_=>rfl⟩
 rw[uZ (by rw[bH];exact(cu.1 hJ).1),bX,bh (by rw[bH];simp)]
end
end Go.EV

namespace Go.EV
open Go.RowKit Go.VK
variable {U:Uni} {Y:Lay U} {TI:List (Nat×TInfo)} {P:Program} {g:GI} {E:Env U g}
section
variable {s:St U} {a:Act} {w:World} {β:List Tr} {α:Type}
def aYx {α β:Type}{f:α->List β}{k:Nat}(hk:∀x,(f x).length=k)(h0:0<k):∀{l:List α} {q:Nat} {c:β},(l.map f).flatten[q]? =some c->∃x,l[q/k]? =some x/\(f x)[q%k]? =some c
 |[],q,c,h=>by simp at h
 |x::l,q,c,h=>by
  simp only[bm,cR] at h
  by_cases hq:q<k
  ·rw[aq (by rw[hk];exact hq)] at h
   exact⟨x,by rw[Nat.div_eq_of_lt hq];rfl,by rw[jb hq];exact h⟩
  ·rw[ay (by rw[hk];omega),hk] at h
   obtain⟨y,h1,h2⟩:=aYx hk h0 h
   have e:q=q-k+k:=by omega
   refine⟨y,?_,?_⟩
   ·rw[e,Nat.add_div_right _ h0];simpa using h1
   ·rw[e,Nat.add_mod_right];exact h2
def OwL.aDC {C:Cod U}{X:Nat->Prop}{d:Bool}:∀{vs:List Value} {xs:List (Lf U)},vs.length=xs.length->(∀(i:Nat) (v:Value) (x:Lf U),vs[i]? =some v->xs[i]? =some x->Ow C w X d v x [])->OwL C w X d vs xs []
 |[],[],_,_=> .n
 |[],_::_,h,_=>by simp at h
 |_::_,[],h,_=>by simp at h
 |v::vs,x::xs,h,h1=>by
  have:=OwL.c (h1 0 v x rfl rfl) (OwL.aDC (by simpa using h) λi v x a b=>h1 (i+1) v x (by simpa using a) (by simpa using b))
  simpa using this
def aOf:∀{l:List Kd},aG8 l=false↔∀τ,Kd.sl τ∉l
 |[]=>by simp[aG8]
 |x::l=>by
  have e:aG8 (x::l)=cond x.aDI true (aG8 l):=rfl
  rw[e]
  cases x with
  |sl τ=>exact⟨λh=>(by cases h),λh=>absurd de (h τ)⟩
  |_=>simp only[Kd.aDI,ab,ba,reduceCtorEq,false_or];exact aOf
def aOg (hY:LayOk Y){τ:Nat}(h:aG9 Y τ=true){z:U.El τ}{c:Lf U}(hc:c∈Y.C.cel τ z):∀τ' l,c≠ .sl τ' l:=λτ' l e=>by
 subst e
 have h':aG8 (Y.kd τ)=false:=by
  unfold aG9 at h;cases ha:aG8 (Y.kd τ) with
  |false=>rfl
  |true=>rw[ha] at h;cases h
 have hk:=hY.kds τ z
 have:some (Kd.sl τ')∈(Y.kd τ).map some:=by rw[<-hk];exact cg.2 ⟨_,hc,rfl⟩
 obtain⟨k,hk1,hk2⟩:=cg.1 this
 injection hk2 with hk2;subst hk2
 exact aOf.1 h' τ' hk1
def aWg (Y:Lay U){τ:Nat}{z:U.El τ}:mU (U.enc τ z)=true:=by
 rw[<-Y.C.hcel]
 have:∀(cs:List (Lf U)),(∀c∈cs,c.aAZ=true)->mU (cs.map Lf.toV)=true:=by
  intro cs
  induction cs with
  |nil=>intro _;rfl
  |cons c cs ih=>intro h;simp only[bm,mU,aa];exact⟨Lf.aCH (h c (by simp)),ih λc hc=>h c (by simp[hc])⟩
 exact this _ (Y.C.hdat τ z)
def aOh (hY:LayOk Y){e:Nat}(hk:0<U.K e){X Z:Nat->Prop}{d:Bool}{v:Value}{l:List (U.El e)}(h:Rd w Z [] v (.slice (U.K e) (l.map (U.enc e))))(hd:aG9 Y e=true\/(d=false/\∀b,X b->Z b)):
  ∃(A:Option Addr) (c:Nat) (news:List Value),v= .slice A l.length c/\news.length=l.length*U.K e/\(l.length=0\/∃p,A=some p/\∀j u,news[j]? =some u->w.cell? (p.add j)=some u)/\OwL Y.C w X d news (l.map (Y.C.cel e)).flatten []:=by
 obtain⟨A,c,xs,h1,h2,h3,h4,h5,h6⟩:=aN1 h (λe' he=>by
  obtain⟨z,_,rfl⟩:=cg.1 he
  exact aWg Y)
 rw[bl] at h1 h2
 refine⟨A,c,xs,h1,h2,h3.imp (λhn=>by simpa using congrArg List.length hn) id,OwL.aDC (by rw[h2,Bp (Y.C.hlen e)]) λq u x hu hx=> ?_⟩
 obtain⟨z,q1,q2⟩:=aYx (Y.C.hlen e) hk hx
 have hz:(l.map (U.enc e))[q/U.K e]? =some (U.enc e z):=by rw[bg,q1];rfl
 have hc:(U.enc e z)[q%U.K e]? =some x.toV:=by rw[<-Y.C.hcel,bg,q2];rfl
 obtain⟨u',k1,k2⟩:=h6 _ _ _ _ hz hc
 have hq:q/U.K e*U.K e+q%U.K e=q:=by rw[fk];exact gE q _
 rw[hq,hu] at k1
 injection k1 with k1;subst k1
 have hmem:=az q2
 have hdat:=Y.C.hdat e z x hmem
 cases x with
 |int k n=>obtain⟨rfl,a1,a2⟩:=k2.aAO;exact .int a1 a2
 |bool b=>obtain rfl:=k2.aAW;exact .bool
 |str b=>obtain⟨rfl,a1⟩:=k2.aAT;exact .str a1
 |sl τ' l'=>
  rcases hd with hd|⟨hd,hX⟩
  ·exact absurd rfl (aOg hY hd hmem τ' l')
  ·exact .fz hd (Rd.conv k2 (aj _) (λb _ hb=>hX b hb) (λ_ _ _ h=>h) (λ_ _ h=>h))
 |_=>cases hdat
def bAu {i j r:Nat}(h:aDq i (.own j r:Lf U)=true):j≠i:=λe=>by
 subst e
 have:aDq j (.own j r:Lf U)=cond (Nat.beq j j) false true:=rfl
 rw[this,show Nat.beq j j=true from dn j] at h;cases h
def bD3 (r:bE Y.C E s a w β){e i:Nat}(hke:0<U.K e){x:Operand}{px:Lf U}{d:Bool}{l:List (U.El e)}{s1:St U}(hx:dS s x= .l px)(h:apD s e px=some (i,d,l,s1)):
  ∃β1 t rv cv,bE Y.C E s1 a w β1/\s1.t=s.t/\s1.m.ns=s.m.ns/\s1.fr=s.fr/\β1[i]? =some t/\s1.m.o[i]? =some ⟨.tree e d l,rv,cv⟩/\a.eval x=t.val/\rv<=s1.m.k:=by
 have hm:=lJ r hx
 cases px with
 |nil=>
  simp only[apD,ai,cU] at h
  obtain⟨rfl,rfl,rfl,rfl⟩:=h
  have r1:=r.add (Ext.refl w) [((⟨.tree e true [],s.m.k,s.m.k⟩:EO U),aAp)] (by simp) (by simp[nC]) (by simp[nC]) (λhev x hx=>by
   simp at hx;subst hx
   exact⟨hke,[],World.ownsRow_nil w 0 e (U.K e), .n⟩)
  refine⟨_,aAp,s.m.k,s.m.k,r1,rfl,rfl,rfl,?_,?_,?_,aj _⟩
  ·rw[bH,<-r.hp.len];simp
  ·simp[psh,bH]
  ·have hm':a.eval x= .slice none 0 0:=hm
   rw[hm'];rfl
 |own j q=>
  simp only[apD,aR] at h
  obtain⟨_,e',t,k1,k2,k3⟩:=hm
  simp only[k1] at h
  obtain⟨ob,rv,cv⟩:=e'
  cases ob with
  |tree τ d0 l0=>
   cases hb:Nat.beq rv q with
   |false=>simp[hb] at h
   |true=>
    simp only[hb,ae] at h
    cases hs:slq e τ l0 with
    |none=>simp[hs] at h
    |some l1=>
     simp only[hs,ai,cU] at h
     obtain⟨rfl,rfl,rfl,rfl⟩:=h
     obtain⟨rfl,hh⟩:=lN hs
     obtain rfl:=ez hh
     exact⟨β,t,rv,cv,r,rfl,rfl,rfl,k2,k1,k3 (ah hb),(r.hp.vers _ _ k1).1⟩
  |_=>cases h
 |_=>cases h
def aTm (hY:LayOk Y)(r:bE Y.C E s a w β){e i:Nat}(hke:0<U.K e){py:Lf U}{v:Value}{l:List (U.El e)}{ids:List Nat}{d:Bool}(hm:py.mean Y.C w (E.X β) β s.m v)(h:apS Y s.m e i py=some (l,ids,d)):
  (i::ids).Nodup/\∃(A:Option Addr) (c:Nat) (news:List Value),v= .slice A l.length c/\news.length=l.length*U.K e/\(l.length=0\/∃p,A=some p/\∀j u,news[j]? =some u->w.cell? (p.add j)=some u)/\∃B,OwL Y.C w (E.X β) d news (l.map (Y.C.cel e)).flatten B/\(∀b∈B,b∈jM β ids)/\B.Nodup:=by
 by_cases hn:py= .nil
 ·subst hn
  simp only[apS,ai,cU] at h
  obtain⟨rfl,rfl,rfl⟩:=h
  obtain rfl:=hm
  exact⟨by simp,none,0,[],rfl,by simp, .inl rfl,[], .n,by simp,fh⟩
 ·have h':(bif aG9 Y e then(match qA s.m py with
   |some (.sl τ l)=>match slq e τ l with
    |some l=>bif aDq i py then some (l,[],true) else none
    |none=>none
   |_=>none) else(match py with
   | .sl τ l=>match slq e τ l with
    |some l=>some (l,[],false)
    |none=>none
   | .own j r=>match nth s.m.o j with
    |some ⟨.tree τ d l,rv,_⟩=>bif Nat.beq rv r&&aDq i py then(match slq e τ l with
     |some l=>some (l,[j],d)
     |none=>none) else none
    |_=>none
   |_=>none))=some (l,ids,d):=by
   cases py<;>first|exact absurd rfl hn|exact h
  cases hf:aG9 Y e with
  |true=>
   rw[hf] at h'
   simp only[ae] at h'
   split at h'
   ·rename_i τ l0 hr
    cases hs:slq e τ l0 with
    |none=>simp[hs] at h'
    |some l1=>
     simp only[hs] at h'
     cases hni:aDq i py with
     |false=>simp[hni] at h'
     |true=>
      simp only[hni,ae,ai,cU] at h'
      obtain⟨rfl,rfl,rfl⟩:=h'
      obtain⟨rfl,hh⟩:=lN hs
      obtain rfl:=ez hh
      have hrd:=(Bt r.hp hm hr (Z:=λ_=>False) (λ_ h=>h.elim) (.inr λ_ _ _ _ _ h=>h)).2
      obtain⟨A,c,news,q1,q2,q3,q4⟩:=aOh (X:=E.X β) (d:=true) hY hke hrd (.inl hf)
      exact⟨by simp,A,c,news,q1,q2,q3,[],q4,by simp,fh⟩
   ·cases h'
  |false=>
   rw[hf] at h'
   simp only[ab] at h'
   cases py with
   |nil=>exact absurd rfl hn
   |sl τ l0=>
    simp only at h'
    cases hs:slq e τ l0 with
    |none=>simp[hs] at h'
    |some l1=>
     simp only[hs,ai,cU] at h'
     obtain⟨rfl,rfl,rfl⟩:=h'
     obtain⟨rfl,hh⟩:=lN hs
     obtain rfl:=ez hh
     obtain⟨A,c,news,q1,q2,q3,q4⟩:=aOh (X:=E.X β) (d:=false) hY hke (Z:=E.X β) hm (.inr ⟨rfl,λ_ h=>h⟩)
     exact⟨by simp,A,c,news,q1,q2,q3,[],q4,by simp,fh⟩
   |own j q=>
    simp only at h'
    split at h'
    ·rename_i τ d0 l0 rv cv ho
     rw[aR] at ho
     cases hb:(Nat.beq rv q&&aDq i (.own j q:Lf U)) with
     |false=>rw[hb] at h';cases h'
     |true=>
      rw[hb] at h'
      simp only[ae] at h'
      simp only[aa] at hb
      cases hs:slq e τ l0 with
      |none=>simp[hs] at h'
      |some l1=>
       simp only[hs,ai,cU] at h'
       obtain⟨rfl,rfl,rfl⟩:=h'
       obtain⟨rfl,hh⟩:=lN hs
       obtain rfl:=ez hh
       obtain⟨_,e',t,k1,k2,k3⟩:=hm
       rw[ho] at k1;injection k1 with k1;subst k1
       have hv:=k3 (ah hb.1)
       have hok:=r.hp.ok j t _ k2 ho
       obtain⟨_,xs,c1,c2⟩:=hok
       have hbl:jM β [j]=t.all:=by simp[jM,k2]
       have hsub:∀b∈t.bs,b∈jM β [j]:=λb hb'=>by rw[hbl];simp[Tr.all,hb']
       have hnd:t.bs.Nodup:=(dk.1 (r.hp.nd j t k2)).2.1
       refine⟨by simp;exact(bAu hb.2).symm,?_⟩
       rcases dO c1 with⟨b1,b2,b3,b4,b5⟩|⟨b,cur,b1,b2,b3,b4,b5,b6,b7⟩
       ·have:l0=[]:=bu b2
        subst this
        exact⟨none,0,xs,by rw[hv];simp[Tr.val,b1,b4,b5],c1.1, .inl rfl,t.bs,c2,hsub,hnd⟩
       ·exact⟨some ⟨b,0,none⟩,t.c,xs,by rw[hv];simp[Tr.val,b1,b2],c1.1, .inr ⟨_,rfl,λj u hu=>oN c1 b1 hu⟩,t.bs,c2,hsub,hnd⟩
    ·cases h'
   |_=>cases h'
def bHj {e k n:Nat}{v:Value}{xs:List Value}{w:World}(h:w.ownsRow 0 e k v n xs)(bs:List Nat):∃t:Tr,t.val=v/\t.b=v.ownBlock/\t.bs=bs:=by
 rcases h.2 with⟨rfl,_⟩|⟨gg,cap,cur,rfl,_⟩
 ·exact⟨⟨none,0,0,bs⟩,rfl,rfl,rfl⟩
 ·exact⟨⟨some gg,n,cap,bs⟩,rfl,rfl,rfl⟩
def aQ3 (hTI:oO P TI=true)(hY:LayOk Y)(r:bE Y.C E s a w β){o:Oper}{t:TypeId}{x y:Operand}{e ek eb k i:Nat}{zz:List Kz}{px py:Lf U}{d d':Bool}{l l':List (U.El e)}{s1:St U}{ids:List Nat}
  (ho:o.op= .call {callee:= .builtin .append,args:= #[x,y],argTypes:= #[t,t]}) (h1:iE TI t=some ⟨.sl e ek eb,k,zz⟩) (h2:Nat.ble eb 2048=true) (h3:Fa (U:=U) e ek e=true) (h4:dS s x= .l px) (h5:dS s y= .l py)
  (h6:apD s e px=some (i,d,l,s1)) (h7:apS Y s1.m e i py=some (l',ids,d')) (hg:aW l l'):
  SO P Y.C E a w o (.l (.own i (Nat.succ s1.m.k))) ⟨s1.t,⟨Qg (Nat.succ s1.m.k) ids (upd s1.m.o i ⟨.tree e (d&&d') (l++l'),Nat.succ s1.m.k,Nat.succ s1.m.k⟩),Nat.succ s1.m.k,s1.m.ns⟩,s1.fr⟩ false:=λK Q hK=>by
 have hsl:=(yS (bP hTI h1) rfl).1
 obtain⟨_,_,_,_,_,_,_,_,hk0⟩:=eX hsl
 simp only[Fa,aa] at h3
 have hKe:U.K e=ek:=ah h3.2
 have hke:0<U.K e:=by rw[hKe];exact hk0
 obtain⟨β1,tr,rv,cv,r1,e1,e2,e3,e4,e5,e6,_⟩:=bD3 r hke h4 h6
 have h5':dS s1 y= .l py:=by
  rw[<-h5];unfold dS sG;rw[e1,e2]
 obtain⟨hJ,A,c,news,q1,q2,q3,B,q4,q5,q6⟩:=aTm hY r1 hke (lJ r1 h5') h7
 have hok:=r1.hp.ok i tr _ e4 e5
 obtain⟨_,xs,c1,c2⟩:=hok
 have hb':eb<=2048:=bc h2
 unfold aW at hg
 rw[hKe] at c1 q2
 obtain⟨v',w',a1,a2,a3,a4⟩:=aG3 (P:=P) (ty:=o.type) hsl c1 (A:=A) (c:=c) q2 q3 q4.ones (by unfold maxLen;omega) (by
  calc (l.length+l'.length)*eb<=68719476736*2048:=ia hg hb'
   _=140737488355328:=by decide)
 obtain⟨t2,t3,t4,t5⟩:=bHj a2 (tr.bs++B)
 have htv:tr.val.ownBlock=tr.b:=by cases h:tr.b<;>simp[Tr.val,Value.ownBlock,h]
 rw[htv] at a3 a4
 rw[<-t4] at a4
 have hnd:=r1.hp.nd i tr e4
 have hBd:∀b∈B,b∉tr.all:=λb hb hb'=>by
  obtain⟨j,hj,u,hu,hub⟩:=vB (q5 b hb)
  exact r1.hp.dist j i u tr b (λe=>(cu.1 hJ).1 (e▸hj)) hu e4 hub hb'
 have hlt:∀b∈B,b<w.heap.size:=λb hb=>by
  obtain⟨j,hj,u,hu,hub⟩:=vB (q5 b hb)
  exact(r1.hp.new j u b hu hub).2
 have hne:∀b,(b∈tr.bs\/b∈B)->some b≠tr.b:=λb hb e=>by
  rcases hb with hb|hb
  ·have h':b∈tr.b.toList:=by rw[<-e];simp
   exact(dk.1 hnd).2.2 b h' b hb rfl
  ·exact hBd b hb (Tr.root e.symm)
 obtain⟨β',r2,r3,_⟩:=r1.turn (w':=w') (J:=ids) (ob:= .tree e (d&&d') (l++l')) (rv:=s1.m.k+1) (t':=t2) e5 e4 hJ a3.size a3.os a3.tape a3.output
  (λb hb hn=>a3.block b hb (λe=>hn (Tr.root e.symm)))
  (λb hb=>by
   simp only[Tr.all,t5,bw,iq] at hb
   rcases hb with hb|hb|hb
   ·rcases a4 with h|h
    ·have hb2:tr.b=some b:=by rw[<-h];exact hb
     exact⟨cf (r1.hp.new i tr b e4 (Tr.root hb2)).2 a3.size, .inr (.inl (Tr.root hb2))⟩
    ·rw[h] at hb
     have hb2:b=w.heap.size:=by simpa using hb.symm
     refine⟨?_, .inl (by omega)⟩
     have:=a2.lt b (by rw[<-t4,h,hb2])
     exact this.2
   ·exact⟨cf (r1.hp.new i tr b e4 (by simp[Tr.all,hb])).2 a3.size, .inr (.inl (by simp[Tr.all,hb]))⟩
   ·obtain⟨j,hj,u,hu,hub⟩:=vB (q5 b hb)
    exact⟨cf (hlt b hb) a3.size, .inr (.inr ⟨j,hj,u,hu,hub⟩)⟩)
  (by
   have hbs:(tr.bs++B).Nodup:=by
    rw[dk]
    refine⟨(dk.1 hnd).2.1,q6,λb hb b' hb' e=> ?_⟩
    subst e;exact hBd b hb' (by simp[Tr.all,hb])
   rw[Tr.all,t5,dk]
   refine⟨by cases t2.b<;>simp,hbs,λb hb b' hb' e=> ?_⟩
   subst e
   have hb2:t2.b=some b:=by simpa using hb
   rcases a4 with h|h
   ·rw[h] at hb2
    exact hne b (by simpa using hb') hb2.symm
   ·rw[h] at hb2
    injection hb2 with hb2
    rcases bw.1 hb' with hb'|hb'
    ·have:=(r1.hp.new i tr b e4 (by simp[Tr.all,hb'])).2;omega
    ·have:=hlt b hb';omega)
  (.inr rfl) (λh=>by cases h) (λβ' m' hev=>by
   refine⟨hke,xs++news,?_,?_⟩
   ·rw[t3,aw,hKe];exact a2
   ·rw[cT,ey,t5]
    have hsoft:(d&&d')=true->d=true:=λh=>by simp at h;exact h.1
    have hsoft':(d&&d')=true->d'=true:=λh=>by simp at h;exact h.2
    exact OwL.app ((c2.conv hev.sz hev.hX hev.hc (λb hb=>a3.block b (r1.hp.new i tr b e4 (by simp[Tr.all,hb])).2 (hne b (.inl hb)))).fl hsoft)
     ((q4.conv hev.sz hev.hX hev.hc (λb hb=>a3.block b (hlt b hb) (hne b (.inr hb)))).fl hsoft'))
 refine wpo (w':=w') (v:=v') (.inl ?_) (hK _ _ β' r2 (λ_=> ?_) (λh=>by cases h))
 ·simp only[execOp,ho,resolve,invoke,builtin,Sem.run_bind,Sem.run_pure,Result.andThen_ok,jd,bm,ex,e6,q1,a1]
 ·refine⟨⟨aj _,by rw[<-t3];rfl⟩,⟨.tree e (d&&d') (l++l'),s1.m.k+1,s1.m.k+1⟩,t2,?_,r3,λ_=>t3.symm⟩
  rw[uZ (cu.1 hJ).1,bX,bh (lt_of_some e5)]
def aHt {t ty e:TypeId}{i:TypeInfo}(ht:P.underlying t=some (.slice e))(hi:P.info? e=some i)(gg o sLen sCap:Nat)(cur:Array Value)(hg:w.heap[gg]? =some (.cells cur e (0,0)))
  (p:Addr) (m c:Nat) (news:List Value) (hl:news.length=m*i.size) (hnews:∀j u,news[j]? =some u->w.cell? (p.add j)=some u) (h1:∀u∈news,u.oneCell'=true)
  (hroom:sLen+m<=sCap) (hfit:o+sLen*i.size+news.length<=cur.size):
  (Builtin.append_ #[t,t] ty #[.slice (some ⟨gg,o,none⟩) sLen sCap, .slice (some p) m c]).run P w=
   .ok (.slice (some ⟨gg,o,none⟩) (sLen+m) sCap) (w.setRow gg (cur.toList.take (o+sLen*i.size)++news++cur.toList.drop (o+sLen*i.size+news.length)).toArray):=by
 have hf:=run_firstCells_some (P:=P) w i.size m p m c news hl hnews
 have hst:=run_storeCells_at P gg (o+sLen*i.size) e news 0 cur w hg (by simpa using hfit) h1
 simp only[ee] at hst
 simp[Builtin.append_,run_underlying ht,sizeOf,typeInfo,hi,Builtin.lenOf,hroom,hf,fC,hst]
def aHu {t ty e k bts:Nat}(ht:slB P t e k bts=true){u:Tr}{n q:Nat}{xs:List Value}(hown:w.ownsRow 0 e k u.val n xs)(hq:q<=n){A:Option Addr}{m c:Nat}{news:List Value}(hl:news.length=m*k)(hm0:0<m)
  (hsrc:m=0\/∃p,A=some p/\∀j u,news[j]? =some u->w.cell? (p.add j)=some u) (h1:∀u∈news,u.oneCell'=true) (hm:n+m<=maxLen) (hb:(n+m)*bts<=140737488355328):
  ∃(v':Value) (w':World) (b' c' n' q':Nat) (ys:List Value),(Builtin.append_ #[t,t] ty #[aAf k u q n, .slice A m c]).run P w= .ok v' w'/\w'.ownsRow 0 e k (.slice (some ⟨b',0,none⟩) n' c') n' (ys++news)/\w.grownBy w' u.b/\
   v'= .slice (if c'=q' then some ⟨b',0,none⟩ else some (Addr.add ⟨b',0,none⟩ (q'*k))) (n'-q') (c'-q')/\
   ((u.b=some b'/\q'=q/\n'=n+m/\ys=xs)\/(b'=w.heap.size/\q'=0/\n'=n-q+m/\ys=xs.drop (q*k))):=by
 obtain⟨hu,i,z,hi,hz,hik,hib,hzk,hk0⟩:=eX ht
 subst hik;subst hib
 obtain⟨p,hA,hnews⟩:∃p,A=some p/\∀j u,news[j]? =some u->w.cell? (p.add j)=some u:=hsrc.resolve_left (by omega)
 subst hA
 have hxl:=hown.1
 have hdl:(xs.drop (q*i.size)).length=(n-q)*i.size:=by rw[ck,hxl,Nat.sub_mul]
 have hlen:(xs.drop (q*i.size)++news).length=(n-q+m)*i.size:=by rw[aw,hdl,hl,dr]
 have h63:n+m<=9223372036854775807:=by simp only[maxLen] at hm;omega
 have grown:∀(old:Nat),old<n-q+m->(w.drew.alloc (.cells ((xs.drop (q*i.size)).toArray++news.toArray++Builtin.zeroCells z.cells (grownCap w (n-q+m) old e-(n-q+m))) e)).ownsRow 0 e i.size
    (.slice (some ⟨w.heap.size,0,none⟩) (n-q+m) (grownCap w (n-q+m) old e)) (n-q+m) (xs.drop (q*i.size)++news)/\
   w.grownBy (w.drew.alloc (.cells ((xs.drop (q*i.size)).toArray++news.toArray++Builtin.zeroCells z.cells (grownCap w (n-q+m) old e-(n-q+m))) e)) u.b:=by
  intro old ho
  have hge:=grownCap_ge w (n-q+m) old e
  have hcm:grownCap w (n-q+m) old e<=maxLen:=grownCap_le_maxLen w (n-q+m) old e (by omega)
  refine⟨⟨hlen, .inr ⟨w.heap.size,_,_,rfl,cw _,heap_alloc_new w.drew _,hge,hcm,?_,?_⟩⟩,⟨rfl,rfl,rfl,by simp,λk hk _=>heap_alloc_old w.drew _ hk⟩⟩
  ·simp only[iS,fL,size_zeroCells,hzk,hdl,hl,<-dr]
   congr 1
   omega
  ·simp only[Array.toList_append,ce]
   rw[<-ce,<-hlen]
   exact ib
 rcases dO hown with⟨b1,b2,b3,b4,b5⟩|⟨b,cur,b1,b2,b3,b4,b5,b6,b7⟩
 ·have hq0:q=0:=by omega
  subst b2;subst b3;subst hq0
  have hs:aAf i.size u 0 0= .slice none 0 0:=by simp[aAf,b1,b5]
  have hr:=run_append_nil (P:=P) w t ty e i z hu hi hz p m c news hl hnews (by omega) (by omega) (by simp only[ca] at hb;omega)
  have hgr:=grown 0 (by omega)
  simp only[fj,ca,List.drop_nil,bn,Array.empty_append,Nat.zero_mul] at hgr
  refine⟨_,_,_,_,_,0,[],by rw[hs];exact hr,by simpa using hgr.1,hgr.2,?_, .inr ⟨rfl,rfl,by simp,by simp⟩⟩
  have hge:=grownCap_ge w m 0 e
  rw[cX (by omega)];simp[Addr.add]
 ·by_cases hroom:n+m<=u.c
  ·have hcq:¬u.c=q:=by omega
   have hs:aAf i.size u q n= .slice (some ⟨b,q*i.size,none⟩) (n-q) (u.c-q):=by simp[aAf,b1,hcq,fC]
   have hqn:q*i.size+(n-q)*i.size=n*i.size:=by rw[<-dr];congr 1;omega
   have hfit:q*i.size+(n-q)*i.size+news.length<=cur.size:=by rw[hqn,hl,b6,<-dr];exact en _ hroom
   have hr:=aHt (P:=P) (w:=w) (ty:=ty) hu hi b (q*i.size) (n-q) (u.c-q) cur b5 p m c news hl hnews h1 (by omega) hfit
   rw[hqn] at hr hfit
   refine⟨_,_,b,u.c,n+m,q,xs,by rw[hs];exact hr,⟨by rw[aw,hxl,hl,dr], .inr ⟨b,u.c,_,rfl,cw _,setRow_heap w b cur _ e _ b5,hroom,b4,?_,?_⟩⟩,⟨rfl,rfl,rfl,by simp,λk _ hk=>setRow_other w b k _ (λe=>hk (by rw[b1,e]))⟩,?_, .inl ⟨b1,rfl,rfl,rfl⟩⟩
   ·simp only[fL,aw,bz,ck,cx]
    omega
   ·rw[b7,show(n+m)*i.size=(xs++news).length by rw[aw,hxl,hl,dr]]
    exact ib
   ·rw[cX hcq,fC,ca];congr 1<;>omega
  ·have holds:∀(p':Addr),(∀j,p'.add j=⟨b,q*i.size+j,none⟩)->∀j u',(xs.drop (q*i.size))[j]? =some u'->w.cell? (p'.add j)=some u':=λp' hp j u' hj=>by
    rw[hp]
    have:=oN hown b1 (i:=q*i.size+j) (by simpa using hj)
    rw[fC] at this
    simpa using this
   have hgr:=grown (u.c-q) (by omega)
   have hge:=grownCap_ge w (n-q+m) (u.c-q) e
   have hfits:=growslice_fits (old:=u.c-q) (need:=n-q+m) (bytes:=i.bytes) (by omega) (bq (en _ (by omega)) hb)
   refine⟨.slice (some ⟨w.heap.size,0,none⟩) (n-q+m) (grownCap w (n-q+m) (u.c-q) e),_,w.heap.size,grownCap w (n-q+m) (u.c-q) e,n-q+m,0,_,?_,hgr.1,hgr.2,by rw[cX (by omega)];simp[Addr.add], .inr ⟨rfl,rfl,rfl,rfl⟩⟩
   by_cases hcq:u.c=q
   ·have hqn:n-q=0:=by omega
    have hs:aAf i.size u q n= .slice (some ⟨b,0,none⟩) (n-q) (u.c-q):=by simp[aAf,b1,hcq]
    rw[hs]
    refine run_append_grow (P:=P) w t ty e i z hu hi hz ⟨b,0,none⟩ (n-q) (u.c-q) _ hdl (λj u' hj=> ?_) p m c news hl hnews (by omega) (by omega) hfits
    have:j<(n-q)*i.size:=by rw[<-hdl];exact lt_of_some hj
    rw[hqn] at this;omega
   ·have hs:aAf i.size u q n= .slice (some ⟨b,q*i.size,none⟩) (n-q) (u.c-q):=by simp[aAf,b1,hcq,fC]
    rw[hs]
    exact run_append_grow (P:=P) w t ty e i z hu hi hz ⟨b,q*i.size,none⟩ (n-q) (u.c-q) _ hdl (holds _ λj=>by rw[fC]) p m c news hl hnews (by omega) (by omega) hfits
def aEo (hTI:oO P TI=true)(hY:LayOk Y)(r:bE Y.C E s a w β){o:Oper}{t:TypeId}{x y:Operand}{e ek eb k i c:Nat}{zz:List Kz}{py:Lf U}{d':Bool}{n:Int}{l l':List (U.El e)}
  (ho:o.op= .call {callee:= .builtin .append,args:= #[x,y],argTypes:= #[t,t]}) (h1:iE TI t=some ⟨.sl e ek eb,k,zz⟩) (h2:Nat.ble eb 2048=true) (h3:Fa (U:=U) e ek e=true) (h4:dS s x= .l (.suf i c e n l)) (h5:dS s y= .l py)
  (h6:okv s.m i c=true) (h7:apS Y s.m e i py=some (l',[],d')) (hne:1<=l'.length) (hg:aW l l'):
  SO P Y.C E a w o (.l (.bor i (Nat.succ s.m.k) e (l.drop n.toNat++l'))) ⟨s.t,⟨upd s.m.o i ⟨.dead,Nat.succ s.m.k,Nat.succ s.m.k⟩,Nat.succ s.m.k,s.m.ns⟩,s.fr⟩ false:=λK Q hK=>by
 have hsl:=(yS (bP hTI h1) rfl).1
 obtain⟨_,_,_,_,_,_,_,_,hk0⟩:=eX hsl
 simp only[Fa,aa] at h3
 have hKe:U.K e=ek:=ah h3.2
 have hke:0<U.K e:=by rw[hKe];exact hk0
 obtain⟨hJ,A,c0,news,q1,q2,q3,B,q4,q5,q6⟩:=aTm hY r hke (lJ r h5) h7
 have hB:B=[]:=by
  cases B with
  |nil=>rfl
  |cons b B=>have:=q5 b (by simp);simp[jM] at this
 subst hB
 obtain⟨_,e',tr,k1,k2,k3⟩:=lJ r h4
 obtain⟨e2,g1,g2⟩:=Bu h6
 rw[k1] at g1;injection g1 with g1;subst g1
 obtain⟨d,a1,a2,a3,a4⟩:=k3 g2
 have hok:=r.hp.ok i tr _ k2 k1
 rw[a1] at hok
 obtain⟨_,xs,c1,c2⟩:=hok
 have hb':eb<=2048:=bc h2
 unfold aW at hg
 rw[hKe] at c1 q2
 obtain⟨v',w',b',c',n',q',ys,p1,p2,p3,p4,p5⟩:=aHu (P:=P) (ty:=o.type) hsl c1 a3 (A:=A) (c:=c0) q2 (by omega) q3 q4.ones (by unfold maxLen;omega) (by
  calc (l.length+l'.length)*eb<=68719476736*2048:=ia hg hb'
   _=140737488355328:=by decide)
 obtain⟨L,Bs,hL,hLl,hLd,hBs⟩:∃(L:List (U.El e)) (Bs:List Nat),OwL Y.C w (E.X β) d ys (L.map (Y.C.cel e)).flatten Bs/\n'=L.length+l'.length/\(L++l').drop q'=l.drop n.toNat++l'/\List.Sublist Bs tr.bs:=by
  rcases p5 with⟨_,rfl,rfl,rfl⟩|⟨_,rfl,rfl,rfl⟩
  ·exact⟨l,tr.bs,c2,rfl,by rw[List.drop_append_of_le_length a3],List.Sublist.refl _⟩
  ·have hsp:(l.map (Y.C.cel e)).flatten=((l.take n.toNat).map (Y.C.cel e)).flatten++((l.drop n.toNat).map (Y.C.cel e)).flatten:=by rw[<-ey,<-cT,cF]
   rw[hsp] at c2
   obtain⟨v1,v2,B1,B2,e1,e2,o1,o2⟩:=OwL.split c2
   have hv1:v1.length=n.toNat*ek:=by rw[o1.len,Bp (Y.C.hlen e),bz,jh a3,hKe]
   exact⟨l.drop n.toNat,B2,by rw[e1,<-hv1,jr];exact o2,by rw[ck],rfl,by rw[e2];exact List.sublist_append_right _ _⟩
 have htv:tr.val.ownBlock=tr.b:=by cases h:tr.b<;>simp[Tr.val,Value.ownBlock,h]
 have hnd:=r.hp.nd i tr k2
 let t2:Tr:=⟨some b',n',c',Bs⟩
 have hbs:∀b∈Bs,b∈tr.all/\some b≠tr.b:=λb hb=>by
  have hm:=hBs.subset hb
  refine⟨by simp[Tr.all,hm],λe=> ?_⟩
  have h':b∈tr.b.toList:=by rw[<-e];simp
  exact(dk.1 hnd).2.2 b h' b hm rfl
 have hb2:(b'∈tr.all/\tr.b=some b')\/b'=w.heap.size:=by
  rcases p5 with⟨h,_⟩|⟨h,_⟩
  ·exact .inl ⟨Tr.root h,h⟩
  ·exact .inr h
 have hb'lt:b'<w'.heap.size:=(p2.lt b' rfl).2
 obtain⟨β',r2,r3,hev⟩:=r.turn (w':=w') (J:=[]) (ob:= .dead) (rv:=s.m.k+1) (t':=t2) k1 k2 (by simp) p3.size p3.os p3.tape p3.output
  (λb hb hn=>p3.block b hb (λe=>hn (Tr.root e.symm)))
  (λb hb=>by
   simp only[t2,Tr.all,eW,bw,cy] at hb
   rcases hb with rfl|hb
   ·exact⟨hb'lt,hb2.elim (λh=> .inr (.inl h.1)) (λh=> .inl (by omega))⟩
   ·exact⟨cf (r.hp.new i tr b k2 (hbs b hb).1).2 p3.size, .inr (.inl (hbs b hb).1)⟩)
  (by
   simp only[t2,Tr.all,eW,fb,cu]
   refine⟨λh=> ?_,hBs.nodup (dk.1 hnd).2.1⟩
   rcases hb2 with h2|h2
   ·exact(hbs b' h).2 h2.2.symm
   ·have:=(r.hp.new i tr b' k2 (hbs b' h).1).2;omega)
  (.inr rfl) (λh=>by cases h) (λ_ _ _=>trivial)
 have hOw:Ow Y.C w' (λb=>E.X β' b\/b∈t2.all) false t2.val (.sl e (L++l')) t2.all:=by
  have hX:∀b,b<w.heap.size->(E.X β' b\/b∈t2.all)->E.X β b:=λb hb h=>h.elim (hev.hX b hb) (λh=>hev.hX b hb (bK7 r3 h))
  refine .sl t2 hke (xs:=ys++news) ?_ ?_
  ·rw[aw,hKe,<-hLl];exact p2
  ·rw[cT,ey]
   have:=OwL.app ((hL.conv hev.sz hX hev.hc (λb hb=>p3.block b (r.hp.new i tr b k2 (hbs b hb).1).2 (hbs b hb).2)).soft) ((q4.conv hev.sz hX hev.hc (λb hb=>by simp at hb)).soft)
   simpa[t2] using this
 have hRd:=hOw.rd (Z:=λb=>E.X β' b/\b∉t2.all) (λb hb=> .inl hb.1) (λb hb hn=>hn.2 hb)
 refine wpo (w':=w') (v:=v') (.inl ?_) (hK _ _ β' (by simpa[Qg] using r2) (λ_=> ?_) (λh=>by cases h))
 ·simp only[execOp,ho,resolve,invoke,builtin,Sem.run_bind,Sem.run_pure,Result.andThen_ok,jd,bm,ex,a4,hKe,q1,p1]
 ·refine⟨⟨aj _,by rw[p4];rfl⟩,⟨.dead,s.m.k+1,s.m.k+1⟩,t2,?_,r3,λ_=> ?_⟩
  ·simp only[bX];rw[bh (lt_of_some k1)]
  ·have hle:q'<=n':=by rcases p5 with⟨_,rfl,rfl,_⟩|⟨_,rfl,rfl,_⟩<;>omega
   have:=Rd.sub (A:=some ⟨b',0,none⟩) (n:=n') (c:=c') hRd (a:=q') (b:=n') hle (by rw[bl,aw];omega)
   have e1:((((L++l').map (U.enc e)).take n').drop q')=(l.drop n.toNat++l').map (U.enc e):=by
    rw[<-hLd,fp,dy (by rw[bl,aw];omega)]
   rw[e1] at this
   rw[p4,hKe] at*
   simpa using this
end
end Go.EV

namespace Go.EV
open Go.RowKit Go.VK
variable {U:Uni} {Y:Lay U} {TI:List (Nat×TInfo)} {P:Program} {g:GI} {E:Env U g}
def vC:Bool×List (Lf U)->V
 |(true,cs)=> .agg (cs.map Lf.toV)
 |(false,[x])=>x.toV
 |_=> .any
def OwP (C:Cod U)(w:World)(v:Value)(B:List Nat):Bool×List (Lf U)->Prop
 |(true,cs)=>∃vs:List Value,v= .agg vs.toArray/\OwL C w (λ_=>False) true vs cs B
 |(false,cs)=>∃c,cs=[c]/\Ow C w (λ_=>False) true v c B
inductive OwPs (C:Cod U) (w:World):List Value->List (Bool×List (Lf U))->List Nat->Prop
 |n:OwPs C w [] [] []
 |c {v:Value} {x:Bool×List (Lf U)} {B B':List Nat} {vs:List Value} {xs:List (Bool×List (Lf U))} (h:OwP C w v B x) (hr:OwPs C w vs xs B'):OwPs C w (v::vs) (x::xs) (B++B')
def OwR (C:Cod U)(w:World)(v:Value)(cps:List (Bool×List (Lf U)))(B:List Nat):Prop:=
 match cps with
 |[x]=>OwP C w v B x
 |xs=>∃vs:List Value,v= .tuple vs.toArray/\OwPs C w vs xs B
def bJn (P:Program)(g:GI)(C:Cod U)(f:FuncId)(Us:List V)(cps:List (Bool×List (Lf U))):Prop:=
 (∀args w,(callFunc f args).run P w= .ok (.enter f args) w)/\
 ∀(w:World) (X:Nat->Prop) (vs:List Value),g.G w->(∀b,X b->b<w.heap.size)->RdL w X vs Us->
  Calls P f vs.toArray w λe w'=>∃v B,e= .returned v/\Ext w w'/\B.Nodup/\(∀b∈B,w.heap.size<=b)/\OwR C w' v cps B
def bNg (P:Program)(g:GI)(C:Cod U)(f:FuncId)(b:Bool)(cs ds:List (Lf U))(u:V)(k:Int):Prop:=
 (∀args w,(callFunc f args).run P w= .ok (.enter f args) w)/\
 ∀(w:World) (v v1:Value) (B:List Nat),B.Nodup->(∀w',Bel (·∈B) w w'->g.G w')->OwP C w v B (b,cs)->Rd w (λ_=>False) [] v1 u->
  Calls P f #[v,v1] w λe w'=>e= .returned (.int .i64 k)/\(IntKind.i64.min<=k/\k<=IntKind.i64.max)/\Bel (·∈B) w w'/\∃B',B'.Nodup/\(∀x∈B',x∈B\/w.heap.size<=x)/\OwP C w' v B' (b,ds)
def bJo (P:Program)(g:GI)(f:FuncId)(T:Nat)(cs ds us:List V)(r:V):Prop:=
 (∀args w,(callFunc f args).run P w= .ok (.enter f args) w)/\
 ∀(w:World) (X:Nat->Prop) (b:Nat) (ws vs:List Value),(∀w',Bel (·=b) w w'->g.G w')->(∀x,X x->x<w.heap.size)->X b->w.heap[b]? =some (.cells ws.toArray T (0,0))->RdL w X ws cs->RdL w X vs us->
  Calls P f ((.pointer (some ⟨b,0,none⟩)::vs).toArray) w λe w'=>∃v ws',e= .returned v/\Bel (·=b) w w'/\w'.heap[b]? =some (.cells ws'.toArray T (0,0))/\RdL w' X ws' ds/\Rd w' X [] v r
def yT (P:Program)(g:GI)(Y:Lay U)(f:FuncId)(S:Sum U):Prop:=
 ∀(a:qB U S.ar) (r:qB U S.rs),S.m a=some r->
  (S.wt=false->S.fr=false->VK.Spec P g f ((bW Y S.ar a).map vC) (λv=>v=lM ((bW Y S.rs r).map vC)))/\(S.wt=false->S.fr=true->bJn P g Y.C f ((bW Y S.ar a).map vC) (bW Y S.rs r))/\
  (S.wt=true->S.fr=false->∀b cs u b' ds b'' k,bW Y S.ar a=[(b,cs),u]->bW Y S.rs r=[(b',ds),(b'',[.int .i64 k])]->bNg P g Y.C f b cs ds (vC u) k)/\
  (S.wt=true->S.fr=true->∀T ks cs us ds rs,S.ar= .st T::ks->bW Y S.ar a=(true,cs)::us->bW Y S.rs r=(true,ds)::rs->bJo P g f T (cs.map Lf.toV) (ds.map Lf.toV) (us.map vC) (lM (rs.map vC)))
section
variable {s:St U} {a:Act} {w w':World} {β:List Tr} {α:Type}
def bE.aCO {C:Cod U}(r:bE C E s a w β){ns':List (Nat×Bool)}(hn:∀(a i:Nat) (f:Bool),s.m.ns[a]? =some (i,f)->∃f',ns'[a]? =some (i,f'))(hc:∀(a i:Nat),ns'[a]? =some (i,true)->(i:Int)+1<=9223372036854775807):
  bE C E ⟨s.t,⟨s.m.o,s.m.k,ns'⟩,s.fr⟩ a w β:=by
 obtain⟨h1,h2⟩:=r.hp.step (s':=⟨s.m.o,s.m.k,ns'⟩) (β':=β) (w':=w) (λ_=>False) (λ_=>False) (aj _) hn hc r.hp.len (aj _) (aj _) rfl rfl rfl (λ_ _ _=>rfl) (λ_ h=>h.elim) (λ_ _ _=>⟨rfl,rfl⟩)
  (λj t b hj ht _=>by rcases hj with h|h;exact h.elim;have:=lt_of_some ht;rw[r.hp.len] at this;omega)
  (λi j t u b hi hj _ ht _ _=>by rcases hi with h|h;exact h.elim;have:=lt_of_some ht;rw[r.hp.len] at this;omega)
  (λj t hj ht=>by rcases hj with h|h;exact h.elim;have:=lt_of_some ht;rw[r.hp.len] at this;omega)
  (λj e hj he=>by rcases hj with h|h;exact h.elim;have:=lt_of_some he;simp only at this;omega)
  (λ_ _ _ _ _ h=>h.elim)
  (λ_ j t e hj ht _=>by rcases hj with h|h;exact h.elim;have:=lt_of_some ht;rw[r.hp.len] at this;omega)
 exact r.go h1 h2
def PO (P:Program)(C:Cod U)(E:Env U g)(a:Act)(w:World)(β:List Tr)(o:Oper)(x:Sv U)(s':St U):Prop:=
 ∃v,(∀w',Ext w w'->(execOp a.eval o).run P w'= .ok (.value v) w')/\bE C E s' a w β/\x.mean C w (E.X β) β s'.m v
def SO.aDJ {C:Cod U}{o:Oper}{x:Sv U}{s':St U}(h:PO P C E a w β o x s'):SO P C E a w o x s' true:=λK Q hK=>by
 obtain⟨v,h1,h2,h3⟩:=h
 exact wpo (.inl (h1 w (Ext.refl w))) (hK v w β h2 (λ_=>h3) (λ_=>Ext.refl w))
def bAv (r:bE Y.C E s a w β){o:Oper}{t u:TypeId}{x:Operand}{n:Int}{c i:Nat}(ho:o.op= .binOp .add t x (.const (.int .i64 n)) u)(hn:n=1)(hx:sG s x= .l (.nat c))(hc:s.m.ns[c]? =some (i,true)):
  PO P Y.C E a w β o (.l (.nat (len s.m.ns))) ⟨s.t,⟨s.m.o,s.m.k,s.m.ns++[(Nat.succ i,false)]⟩,s.fr⟩:=by
 subst hn
 have hcn:=r.hp.cnt c i hc
 have hm:=iZ r (x:=x)
 rw[hx] at hm
 obtain⟨i',f,k1,k2,k3⟩:=hm
 rw[hc] at k1
 injection k1 with k1;injection k1 with k1 _;subst k1
 have r1:bE Y.C E ⟨s.t,⟨s.m.o,s.m.k,s.m.ns++[(Nat.succ i,false)]⟩,s.fr⟩ a w β:=r.aCO (λa' j f' h=>⟨f',by rw[aq (lt_of_some h)];exact h⟩) (λa' j h=>by
  by_cases hl:a'<s.m.ns.length
  ·rw[aq hl] at h;exact r.hp.cnt a' j h
  ·rw[ay (by omega)] at h
   cases hq:a'-s.m.ns.length with
   |zero=>rw[hq] at h;simp at h
   |succ q=>rw[hq] at h;simp at h)
 have hw:IntKind.i64.wrap ((i:Int)+1)=((Nat.succ i:Nat):Int):=by rw[IntKind.wrap_i64];omega
 have hx':dS s x= .l (.int .i64 (i:Int)):=by unfold dS;rw[hx];simp only[rsv,aR,hc]
 have hy':dS s (.const (.int .i64 (1:Int)))= .l (.int .i64 (1:Int)):=rfl
 obtain⟨v,h1,h2⟩:=kE (P:=P) r (λ_=>add (t:=t) (u:=u) (dC hx') (dC hy')) o ho
 have hv:v= .int .i64 ((Nat.succ i:Nat):Int):=by rw[<-hw];exact h2.1
 exact⟨v,h1,r1,Nat.succ i,false,by rw[bH];simp,hv,by omega⟩
def Qh {kd:Kd}{x:Lf U}{v:kd.ty U}(h:aEi kd x=some v):x=bK2 kd v:=by
 cases kd with
 |int k=>
  cases x with
  |int k' n=>
   have h':(if k'=k then some n else none)=some (show Int from v):=h
   split at h'
   ·rename_i e;subst e;have:=ak h';subst this;rfl
   ·cases h'
  |_=>cases h
 |bool=>
  cases x with
  |bool b=>have h':some b=some (show Bool from v):=h;have:=ak h';subst this;rfl
  |_=>cases h
 |str=>
  cases x with
  |str b=>have h':some b=some (show ByteArray from v):=h;have:=ak h';subst this;rfl
  |_=>cases h
 |sl τ=>
  cases x with
  |sl τ' l=>exact bHf (show slq τ τ' l=some v from h)
  |_=>cases h
 |st T=>cases x<;>cases h
def lfs:(ks:List Kd)->qB U ks->List (Lf U)
 |[],_=>[]
 |[k],x=>[bK2 k x]
 |k::k'::ks,x=>bK2 k x.1::lfs (k'::ks) x.2
def apC {β:Type}:(ks:List Kd)->Cur U β ks->qB U ks->β
 |[],f,_=>f
 |[_],f,x=>f x
 |_::k'::ks,f,x=>apC (k'::ks) (f x.1) x.2
def aYy {β:Type}:∀{ks:List Kd} {f:Cur U β ks} {cs:List (Lf U)} {x:β},kM ks f cs=some x->∃t:qB U ks,cs=lfs ks t/\x=apC ks f t
 |[],f,[],x,h=>⟨(),rfl,(ak h).symm⟩
 |[],f,_::_,x,h=>by cases h
 |k::ks,f,[],x,h=>by cases h
 |[k],f,[c],x,h=>by
  cases hc:aEi k c with
  |none=>simp[kM,hc] at h
  |some a=>
   simp only[kM,hc] at h
   exact⟨a,by rw[Qh hc];rfl,(ak h).symm⟩
 |[k],f,c::_::_,x,h=>by
  cases hc:aEi k c with
  |none=>simp[kM,hc] at h
  |some a=>simp[kM,hc] at h
 |k::k'::ks,f,c::cs,x,h=>by
  cases hc:aEi k c with
  |none=>simp[kM,hc] at h
  |some a=>
   have h':kM (k'::ks) (f a) cs=some x:=by rw[<-h];conv=>rhs;unfold kM;rw[hc]
   obtain⟨t,rfl,rfl⟩:=aYy h'
   exact⟨(a,t),by rw[Qh hc];rfl,rfl⟩
def aTn {f:FuncId}{fn:Func}{c:Code}(hf:P.funcs[f]? =some fn)(hb:fn.body=some c)(hn:(fn.name== "runtime.NumGoroutine")=false)(args:Array Value)(w:World):(callFunc f args).run P w= .ok (.enter f args) w:=by
 have hn':¬fn.name= "runtime.NumGoroutine" :=by simpa using hn
 simp[callFunc,hf,hb,hn']
def aOi {C:Cod U}(H:Hp C E s.m β w){v:Value}{x y:Lf U}{kd:Kd}(hm:x.mean C w (E.X β) β s.m v)(h:rdn s.m kd x=some y){Z:Nat->Prop}(hZ:∀b,Z b->E.X β b)(hZt:Fz β Z x):
  y.aAZ=true/\Rd w Z [] v y.toV:=by
 by_cases hx:x= .nil
 ·subst hx
  obtain rfl:=hm
  cases kd with
  |sl τ=>simp only[rdn,ai] at h;subst h;exact⟨rfl, .slice0 (cw _)⟩
  |_=>cases h
 ·have h':qA s.m x=some y:=by
   cases x<;>first|exact absurd rfl hx|exact h
  exact aN8 H hm h' hZ hZt
def aTo {m:Mm U}{kd:Kd}{ks:List Kd}{x:Lf U}{xs ys:List (Lf U)}(h:rds m (kd::ks) (x::xs)=some ys):∃y ys',rdn m kd x=some y/\rds m ks xs=some ys'/\ys=y::ys':=by
 simp only[rds] at h
 cases h1:rdn m kd x with
 |none=>rw[h1] at h;cases h
 |some y=>
  cases h2:rds m ks xs with
  |none=>rw[h1,h2] at h;cases h
  |some ys'=>rw[h1,h2] at h;exact⟨y,ys',rfl,rfl,(ak h).symm⟩
def bD5 {Z:Nat->Prop}:∀{xs:List (Lf U)},(Fe xs=true\/∀(i:Nat) (t:Tr) (b:Nat),β[i]? =some t->b∈t.all->¬Z b)->∀x∈xs,Fz β Z x
 |[],_,x,hx=>by simp at hx
 |y::ys,h,x,hx=>by
  rcases ba.1 hx with rfl|hx
  ·exact Fz.of (h.imp (λh=>by simp only[Fe,aa] at h;exact h.1) id)
  ·exact bD5 (h.imp (λh=>by simp only[Fe,aa] at h;exact h.2) id) x hx
def aEp:Sv U->List (Lf U)
 | .l x=>[x]
 | .a cs=>cs
 | .t _=>[]
def bD6 {Z:Nat->Prop}{x:Sv U}(h:aHa x=true\/∀(i:Nat) (t:Tr) (b:Nat),β[i]? =some t->b∈t.all->¬Z b):∀c∈aEp x,Fz β Z c:=by
 cases x with
 |l x=>intro c hc;simp only[aEp,cy] at hc;subst hc;exact Fz.of h
 |a cs=>exact bD5 h
 |t xs=>intro c hc;simp[aEp] at hc
def aYz {Z:Nat->Prop}:∀{xs:List (Sv U)},(kV xs=true\/∀(i:Nat) (t:Tr) (b:Nat),β[i]? =some t->b∈t.all->¬Z b)->∀x∈xs,∀c∈aEp x,Fz β Z c
 |[],_,x,hx=>by simp at hx
 |y::ys,h,x,hx=>by
  rcases ba.1 hx with rfl|hx
  ·exact bD6 (h.imp (λh=>by simp only[kV,aa] at h;exact h.1) id)
  ·exact aYz (h.imp (λh=>by simp only[kV,aa] at h;exact h.2) id) x hx
def bAw {C:Cod U}(H:Hp C E s.m β w){Z:Nat->Prop}(hZ:∀b,Z b->E.X β b)(ks:List Kd):∀{xs ys:List (Lf U)} {vs:List Value},rds s.m ks xs=some ys->Ms C w (E.X β) β s.m vs xs->(∀x∈xs,Fz β Z x)->
  vs.length=ys.length/\∀(i:Nat) (v:Value) (y:Lf U),vs[i]? =some v->ys[i]? =some y->Rd w Z [] v y.toV:=by
 induction ks with
 |nil=>
  intro xs ys vs h hM _
  cases xs with
  |nil=>
   have e:ys=[]:=(ak h).symm
   have:vs=[]:=bu hM.1
   subst this;subst e;simp
  |cons x xs=>cases h
 |cons kd ks ih=>
  intro xs ys vs h hM hf
  cases xs with
  |nil=>cases h
  |cons x xs=>
   obtain⟨y,ys',h1,h2,rfl⟩:=aTo h
   cases vs with
   |nil=>have:=hM.1;simp at this
   |cons v vs=>
    have k1:=(aOi H (hM.2 0 v x rfl rfl) h1 hZ (hf x (by simp))).2
    have k2:=ih h2 ⟨by have:=hM.1;simpa using this,λi u c p q=>hM.2 (i+1) u c (by simpa using p) (by simpa using q)⟩ (λy hy=>hf y (by simp[hy]))
    refine⟨by simp[k2.1],λi u c p q=> ?_⟩
    cases i with
    |zero=>simp at p q;subst p;subst q;exact k1
    |succ i=>exact k2.2 i u c (by simpa using p) (by simpa using q)
def Vh (r:bE Y.C E s a w β){kd:Kd}{x:Sv U}{v:Value}{z:kd.ty U}{Z:Nat->Prop}(hm:x.mean Y.C w (E.X β) β s.m v)(h:Kr Y s.m kd x=some z)(hZ:∀b,Z b->E.X β b)(hf:∀c∈aEp x,Fz β Z c):
  Rd w Z [] v (vC (w9 Y kd z)):=by
 have leaf:∀{y:Lf U},x= .l y->(∀T,kd≠ .st T)->(match rdn s.m kd y with|some q=>aEi kd q|none=>none)=some z->Rd w Z [] v (vC (w9 Y kd z)):=λ{y} hx hkd h0=>by
  subst hx
  cases hr:rdn s.m kd y with
  |none=>rw[hr] at h0;cases h0
  |some q=>
   rw[hr] at h0
   have hq:=Qh (show aEi kd q=some z from h0)
   have:=(aOi r.hp hm hr hZ (hf y (by simp[aEp]))).2
   rw[hq] at this
   cases kd with
   |st T=>exact absurd rfl (hkd T)
   |_=>exact this
 cases kd with
 |st T=>
  cases x with
  |a cs=>
   have h':(match rds s.m (Y.kd T) cs with|some ds=>Y.C.bld T ds|none=>none)=some z:=h
   cases hr:rds s.m (Y.kd T) cs with
   |none=>rw[hr] at h';cases h'
   |some ds=>
    rw[hr] at h'
    obtain⟨vs,rfl,hM⟩:=hm
    have hrd:=bAw r.hp hZ _ hr hM hf
    rw[Y.C.hmk T ds z h'] at hrd
    simp only[w9,vC]
    refine .agg (by simp[hrd.1]) (λi u c p q=> ?_)
    rw[bg] at q
    cases hc:(Y.C.cel T z)[i]? with
    |none=>simp[hc] at q
    |some c'=>
     simp only[hc,cJ,ai] at q
     subst q
     exact hrd.2 i u c' (by simpa using p) hc
  |l y=>
   have h':(match rdn s.m (.st T) y with|some q=>aEi (.st T) q|none=>none)=some z:=h
   cases hr:rdn s.m (.st T) y with
   |none=>rw[hr] at h';cases h'
   |some q=>rw[hr] at h';cases q<;>cases h'
  |t xs=>cases h
 |int k=>cases x with
  |l y=>exact leaf rfl (by simp) h
  |_=>cases h
 |bool=>cases x with
  |l y=>exact leaf rfl (by simp) h
  |_=>cases h
 |str=>cases x with
  |l y=>exact leaf rfl (by simp) h
  |_=>cases h
 |sl τ=>cases x with
  |l y=>exact leaf rfl (by simp) h
  |_=>cases h
def bAx (r:bE Y.C E s a w β){kd:Kd}{x:Sv U}{v:Value}{z:kd.ty U}{Z:Nat->Prop}(hm:x.mean Y.C w (E.X β) β s.m v)(h:Kr Y s.m kd x=some z)(hZ:∀b,Z b->E.X β b)(hf:aHa x=true\/∀(i:Nat) (t:Tr) (b:Nat),β[i]? =some t->b∈t.all->¬Z b):
  Rd w Z [] v (vC (w9 Y kd z)):=Vh r hm h hZ (bD6 hf)
def Ky (r:bE Y.C E s a w β){Z:Nat->Prop}(hZ:∀b,Z b->E.X β b)(ks:List Kd):∀{xs:List (Sv U)} {vs:List Value} {z:qB U ks},lC Y s.m ks xs=some z->vs.length=xs.length->(∀(i:Nat) (v:Value) (x:Sv U),vs[i]? =some v->xs[i]? =some x->x.mean Y.C w (E.X β) β s.m v)->
  (∀x∈xs,∀c∈aEp x,Fz β Z c)->RdL w Z vs ((bW Y ks z).map vC):=by
 induction ks with
 |nil=>
  intro xs vs z h hl _ _
  cases xs with
  |nil=>
   have:vs=[]:=bu hl
   subst this;exact⟨rfl,by simp⟩
  |cons x xs=>cases h
 |cons k ks ih=>
  intro xs vs z h hl hm hf
  cases xs with
  |nil=>cases ks<;>cases h
  |cons x xs=>
   cases vs with
   |nil=>simp at hl
   |cons v vs=>
    cases ks with
    |nil=>
     cases xs with
     |cons y ys=>cases h
     |nil=>
      have e:vs=[]:=bu (by simpa using hl)
      subst e
      have k1:=Vh r (hm 0 v x rfl rfl) (show Kr Y s.m k x=some z from h) hZ (hf x (by simp))
      refine⟨rfl,λi u W p q=> ?_⟩
      cases i with
      |zero=>simp[bW] at p q;subst p;subst q;exact k1
      |succ i=>simp at p
    |cons k' ks=>
     have h':(match Kr Y s.m k x with
      |some a=>match lC Y s.m (k'::ks) xs with
       |some b=>some ((a,b):qB U (k::k'::ks))
       |none=>none
      |none=>none)=some z:=h
     cases h1:Kr Y s.m k x with
     |none=>rw[h1] at h';cases h'
     |some z1=>
      cases h2:lC Y s.m (k'::ks) xs with
      |none=>rw[h1,h2] at h';cases h'
      |some z2=>
       rw[h1,h2] at h'
       have e:=(ak h').symm
       subst e
       have k1:=Vh r (hm 0 v x rfl rfl) h1 hZ (hf x (by simp))
       have k2:=ih h2 (by simpa using hl) (λi v x p q=>hm (i+1) v x (by simpa using p) (by simpa using q)) (λy hy=>hf y (by simp[hy]))
       refine⟨by simp[bW,k2.1],λi u W p q=> ?_⟩
       cases i with
       |zero=>simp[bW] at p q;subst p;subst q;exact k1
       |succ i=>exact k2.2 i u W (by simpa using p) (by simpa[bW] using q)
def Fq (r:bE Y.C E s a w β){Z:Nat->Prop}(hZ:∀b,Z b->E.X β b)(ks:List Kd):∀{xs:List (Sv U)} {vs:List Value} {z:qB U ks},lC Y s.m ks xs=some z->vs.length=xs.length->(∀(i:Nat) (v:Value) (x:Sv U),vs[i]? =some v->xs[i]? =some x->x.mean Y.C w (E.X β) β s.m v)->
  (kV xs=true\/∀(i:Nat) (t:Tr) (b:Nat),β[i]? =some t->b∈t.all->¬Z b)->RdL w Z vs ((bW Y ks z).map vC):=λh hl hm hf=>Ky r hZ ks h hl hm (aYz hf)
end
end Go.EV
