import Derived.Test.YthecajfmhdediaaGreatDoorEVatof
/-
  THE EVALUATOR's KIT, seventh part: fields, loads, builds. Plain theorems over any program; the conditions stand in each.
-/
set_option linter.unusedVariables false
set_option linter.unusedSimpArgs false
namespace Go.EV
open Go.RowKit Go.VK
variable {U:Uni} {Y:Lay U} {TI:List (Nat×TInfo)} {P:Program} {g:GI} {E:Env U g}
section
variable {C:Cod U} {s:St U} {m:Mm U} {a:Act} {w w':World} {β β':List Tr} {X:Nat→Prop}
theorem aVd {i:TInfo}{cs:List (Lf U)}{off:Nat}{x:Sv U}(h:cut i cs off=some x):
  (∃fs ds,i.u= .st fs∧ds=(cs.drop off).take i.k∧ds.length=i.k∧x= .a ds)∨((∀fs,i.u≠ .st fs)∧∃y,cs[off]? =some y∧x= .l y):=by
 unfold cut at h
 split at h
 ·rename_i fs hu
  left
  simp only[aNp,aYy,dA] at h
  cases hb:Nat.beq ((cs.drop off).take i.k).length i.k with
  |false=>rw[hb] at h;cases h
  |true=>
   simp only[hb,cond_true,Option.some.injEq] at h
   exact⟨fs,_,hu,rfl,Nat.eq_of_beq_eq_true hb,h.symm⟩
 ·rename_i hu
  right
  refine⟨fun fs he=>hu fs he,?_⟩
  rw[bC] at h
  cases hc:cs[off]? with
  |none=>simp[hc] at h
  |some y=>simp only[hc,Option.some.injEq] at h;exact⟨y,rfl,h.symm⟩
theorem bF7 {t:Nat}{i:TInfo}(h:tiB P t i=true)(hu:∀fs,i.u≠ .st fs):Nb P t=true∧i.k=1:=by
 cases hi:i.u with
 |int k=>have:=Zn h hi;exact this.2
 |bool=>have:=aMu h hi;exact this.2
 |str=>have:=Nj h hi;exact this.2
 |sl e ek eb=>have:=Nk h hi;exact this.2
 |st fs=>exact absurd hi (hu fs)
theorem add_zero' (p:Addr):p.add 0=p:=by simp[Addr.add]
theorem aVe {S:World→Prop}{t:Nat}{i:TInfo}{p:Addr}{vs:List Value}{cs:List (Lf U)}{off:Nat}{x:Sv U}(hti:tiB P t i=true)(hc:cut i cs off=some x)(hM:Ms C w X β m vs (cs.drop off))
  (hcell:∀w',S w'→∀(j:Nat) (v:Value),vs[j]? =some v→w'.cell? (p.add j)=some v):
  ∃v,(∀w',S w'→(loadVar t p).run P w'= .ok v w')∧x.mean C w X β m v:=by
 rcases aVd hc with⟨fs,ds,hu,h1,h2,rfl⟩|⟨hu,y,h1,rfl⟩
 ·have hag:=(aI5 hti hu).1
  have hl:i.k≤vs.length:=by
   rw[hM.1,←h2,h1,List.length_take];exact Nat.min_le_right _ _
  have hvl:(vs.take i.k).length=i.k:=by rw[List.length_take];omega
  refine⟨.agg (vs.take i.k).toArray,fun w' he=> ?_,vs.take i.k,rfl,by rw[hvl,h2],fun j v c h5 h6=> ?_⟩
  ·exact aIz (by rw[hvl];exact hag) (fun j v hj=>hcell w' he j v (by rw[List.getElem?_take] at hj;split at hj;exact hj;cases hj))
  ·rw[List.getElem?_take] at h5
   split at h5
   ·rw[h1,List.getElem?_take] at h6
    split at h6
    ·exact hM.2 j v c h5 h6
    ·exact absurd ‹j<i.k› ‹¬j<i.k›
   ·simp at h5
 ·have ho:=(bF7 hti hu).1
  have h0:(cs.drop off)[0]? =some y:=by rw[List.getElem?_drop];exact h1
  have hl:0<vs.length:=by rw[hM.1];exact lt_of_some h0
  have hv0:vs[0]? =some vs[0]:=List.getElem?_eq_getElem hl
  refine⟨vs[0],fun w' he=> ?_,hM.2 0 _ y hv0 h0⟩
  have:=hcell w' he 0 _ hv0
  rw[add_zero'] at this
  exact aIy ho this
theorem aNr {t:Nat}{i:TInfo}{p:Addr}{vs:List Value}{cs:List (Lf U)}{off:Nat}{x:Sv U}(hti:tiB P t i=true)(hc:cut i cs off=some x)(hM:Ms C w X β m vs (cs.drop off))
  (hcell:∀w',Ext w w'→∀(j:Nat) (v:Value),vs[j]? =some v→w'.cell? (p.add j)=some v):
  ∃v,(∀w',Ext w w'→(loadVar t p).run P w'= .ok v w')∧x.mean C w X β m v:=aVe (S:=Ext w) hti hc hM hcell
theorem Ms.drop {vs:List Value}{cs:List (Lf U)}(h:Ms C w X β m vs cs)(n:Nat):Ms C w X β m (vs.drop n) (cs.drop n):=
 ⟨by simp[h.1],fun i v c h1 h2=>h.2 (n+i) v c (by simpa using h1) (by simpa using h2)⟩
theorem aW4 (H:Hp C E m β w){i n:Nat}{t:Tr}{e:EO U}{τ:Nat}{d:Bool}{L:List (U.El τ)}{z:U.El τ}(hβ:β[i]? =some t)(ho:m.o[i]? =some e)(he:e.ob= .tree τ d L)(hz:L[n]? =some z):
  ∃(l1 l2:List (U.El τ)) (x1 xz x2:List Value) (B1 Bz B2:List Nat),L=l1++z::l2∧l1.length=n∧w.ownsRow 0 τ (U.K τ) t.val L.length (x1++(xz++x2))∧x1.length=n*U.K τ∧xz.length=U.K τ∧t.bs=B1++(Bz++B2)∧
   OwL C w (E.X β) d x1 (l1.map (C.cel τ)).flatten B1∧OwL C w (E.X β) d xz (C.cel τ z) Bz∧OwL C w (E.X β) d x2 (l2.map (C.cel τ)).flatten B2∧0<U.K τ:=by
 have hok:=H.ok i t e hβ ho
 rw[he] at hok
 obtain⟨h1,xs,h2,h3⟩:=hok
 obtain⟨l1,l2,g1,g2,g3,g4⟩:=Tj (C.hlen τ) hz
 rw[g3] at h3
 obtain⟨x1,xr,B1,Br,e1,e2,o1,o2⟩:=OwL.split h3
 obtain⟨xz,x2,Bz,B2,e3,e4,o3,o4⟩:=OwL.split o2
 refine⟨l1,l2,x1,xz,x2,B1,Bz,B2,g1,g2,?_,?_,?_,?_,o1,o3,o4,h1⟩
 ·rw[←e3,←e1];exact h2
 ·rw[o1.len,g4]
 ·rw[o3.len,C.hlen]
 ·rw[←e4,←e2]
theorem aY0 {i c τ:Nat}{q:Int}{z:U.El τ}:∀(cs:List (Lf U)) (j0 j:Nat) (x:Lf U),(aJv i c τ q z j0 cs)[j]? =some x→∃y,cs[j]? =some y∧((∃τ' l,y= .sl τ' l∧x= .inn i c τ q z (j0+j) τ' l)∨((∀τ' l,y≠ .sl τ' l)∧x=y))
 |[],j0,j,x,h=>by simp[aJv] at h
 |y::cs,j0,0,x,h=>by
  refine⟨y,rfl,?_⟩
  cases y with
  |sl τ' l=>simp[aJv] at h;subst h;exact .inl ⟨τ',l,rfl,rfl⟩
  |_=>simp[aJv] at h;subst h;exact .inr ⟨by simp,rfl⟩
 |y::cs,j0,j+1,x,h=>by
  have h':(aJv i c τ q z (Nat.succ j0) cs)[j]? =some x:=by
   cases y<;>simpa[aJv] using h
  obtain⟨y',h1,h2⟩:=aY0 cs (Nat.succ j0) j x h'
  refine⟨y',by simpa using h1,?_⟩
  rw[show j0+(j+1)=Nat.succ j0+j by omega];exact h2
theorem aY1 {i c τ:Nat}{q:Int}{z:U.El τ}:∀(cs:List (Lf U)) (j0:Nat),(aJv i c τ q z j0 cs).length=cs.length
 |[],_=>rfl
 |y::cs,j0=>by cases y<;>simp[aJv,aY1 cs]
theorem OwL.at {d:Bool}:∀{vs:List Value} {xs:List (Lf U)} {B:List Nat},OwL C w X d vs xs B→∀(i:Nat) (v:Value) (x:Lf U),vs[i]? =some v→xs[i]? =some x→∃B',Ow C w X d v x B'∧∀b∈B',b∈B
 |_,_,_, .n,i,v,x,h,_=>by simp at h
 |_,_,_, .c h hr,i,v,x,h1,h2=>by
  cases i with
  |zero=>simp at h1 h2;subst h1;subst h2;exact⟨_,h,fun b hb=>by simp[hb]⟩
  |succ i=>
   obtain⟨B',k1,k2⟩:=OwL.at hr i v x (by simpa using h1) (by simpa using h2)
   exact⟨B',k1,fun b hb=>by simp[k2 b hb]⟩
theorem bEc (H:Hp C E m β w){i:Nat}{q:Int}{t:Tr}{e:EO U}{τ:Nat}{d:Bool}{L:List (U.El τ)}{z:U.El τ}(hβ:β[i]? =some t)(ho:m.o[i]? =some e)(he:e.ob= .tree τ d L)(h0:0≤q)(hz:L[q.toNat]? =some z):
  ∃xz:List Value,Ms C w (E.X β) β m xz (aJv i e.cv τ q z 0 (C.cel τ z))∧∀b,t.b=some b→∀(j:Nat) (v:Value),xz[j]? =some v→w.cell? (Addr.add ⟨b,0,none⟩ (q.toNat*U.K τ+j))=some v:=by
 obtain⟨l1,l2,x1,xz,x2,B1,Bz,B2,g1,g2,g3,g4,g5,g6,o1,o2,o3,_⟩:=aW4 H hβ ho he hz
 have hx:∀(j:Nat) (v:Value),xz[j]? =some v→(x1++(xz++x2))[q.toNat*U.K τ+j]? =some v:=fun j v hj=>by
  rw[←g4,List.getElem?_append_right (Nat.le_add_right _ _),Nat.add_sub_cancel_left,List.getElem?_append_left (lt_of_some hj)];exact hj
 refine⟨xz,⟨by rw[aY1,o2.len],fun j v x h1 h2=> ?_⟩,fun b hb j v hj=>Fe g3 hb (hx j v hj)⟩
 obtain⟨y,k1,k2⟩:=aY0 _ _ _ _ h2
 rw[Nat.zero_add] at k2
 obtain⟨B',k3,_⟩:=o2.at j v y h1 k1
 rcases k2 with⟨τ',l,rfl,rfl⟩|⟨k2,rfl⟩
 ·exact⟨⟨(H.vers i e ho).2,o2.ones v (List.mem_of_getElem? h1)⟩,e,t,ho,hβ,fun _=>⟨d,L,_,he,h0,hz,k1,g3,hx j v h1⟩⟩
 ·cases k3 with
  |int q1 q2=>exact⟨rfl,q1,q2⟩
  |bool=>rfl
  |str q=>exact⟨rfl,q⟩
  |fz=>exact absurd rfl (k2 _ _)
  |sl=>exact absurd rfl (k2 _ _)
theorem aNs {i c:Nat}(h:okv m i c=true):∃e,m.o[i]? =some e∧e.cv=c:=by
 unfold okv at h
 rw[bC] at h
 cases he:m.o[i]? with
 |none=>simp[he] at h
 |some e=>simp only[he] at h;exact⟨e,rfl,Nat.eq_of_beq_eq_true h⟩
theorem aW5 (r:bY C E s a w β){t k j i off:Nat}{y:Lf U}{v:Value}(kk:IntKind)(ha:arB P t k=true)(hj:j<k)(hm:(Lf.box i off:Lf U).mean C w (E.X β) β s.m v)(h:yK s.m j (.box i off)=some y):
  ∃v',(∀w':World,(Instr.indexAt t v (.int kk (j:Int))).run P w'= .ok v' w')∧y.mean C w (E.X β) β s.m v':=by
 simp only[yK,bC] at h
 obtain⟨_,e,tr,h1,h2,h3⟩:=hm
 simp only[h1] at h
 obtain⟨ob,rv,cv⟩:=e
 cases ob with
 |box T cs us=>
  simp only[Option.some.injEq] at h
  subst h
  obtain⟨b,h4,rfl⟩:=h3 rfl
  refine⟨_,fun w'=>bIj ha hj _ kk,⟨rfl,⟨.box T cs us,rv,cv⟩,tr,h1,h2,fun _=>⟨b,h4,by rw[kU]⟩⟩⟩
 |_=>cases h
theorem aW6 (r:bY C E s a w β){t f:Nat}{off:Nat}{x y:Lf U}{v:Value}(hf:bFn P t f off=true)(hm:x.mean C w (E.X β) β s.m v)(h:yK s.m off x=some y):
  ∃v',(∀w':World,(Instr.fieldAt t v f).run P w'= .ok v' w')∧y.mean C w (E.X β) β s.m v':=by
 cases x with
 |box i o=>
  simp only[yK,bC] at h
  obtain⟨_,e,tr,h1,h2,h3⟩:=hm
  simp only[h1] at h
  obtain⟨ob,rv,cv⟩:=e
  cases ob with
  |box T cs us=>
   simp only[Option.some.injEq] at h
   subst h
   obtain⟨b,h4,rfl⟩:=h3 rfl
   refine⟨_,fun w'=>aM9 hf _,⟨rfl,⟨.box T cs us,rv,cv⟩,tr,h1,h2,fun _=>⟨b,h4,by rw[kU]⟩⟩⟩
  |_=>cases h
 |ptr τ z o=>
  simp only[yK,Option.some.injEq] at h
  subst h
  have hm':Rd w (E.X β) [] v (.elem ((U.enc τ z).drop o)):=hm
  cases v with
  |pointer p=>
   cases hm' with
   | @elem _ ad _ val hX hb hcell hrd=>
    refine⟨.pointer (some (ad.add off)),fun w'=>aM9 hf _,?_⟩
    show Rd w (E.X β) [] _ (.elem ((U.enc τ z).drop (o+off)))
    refine .elem (val:=fun j=>val (off+j)) (by rw[add_block];exact hX) (by rw[add_block];exact hb) (fun j d hj=> ?_) (fun j d hj=> ?_)
    ·rw[add_add'];exact hcell _ d (by rw[List.getElem?_drop] at hj ⊢;rw[←Nat.add_assoc];exact hj)
    ·exact hrd _ d (by rw[List.getElem?_drop] at hj ⊢;rw[←Nat.add_assoc];exact hj)
  |_=>cases hm'
 |oel i c τ q z o=>
  simp only[yK] at h
  cases hv:okv s.m i c with
  |false=>simp[hv] at h
  |true=>
   simp only[hv,cond_true,Option.some.injEq] at h
   subst h
   obtain⟨h0,e,tr,h1,h2,h3⟩:=hm
   obtain⟨e',k1,k2⟩:=aNs hv
   rw[h1] at k1;injection k1 with k1;subst k1
   obtain⟨d,L,b,a1,a2,a3,a4,rfl⟩:=h3 k2
   refine⟨_,fun w'=>aM9 hf _,⟨⟨h0.1,rfl⟩,e,tr,h1,h2,fun _=>⟨d,L,b,a1,a2,a3,a4,by rw[kU,Nat.add_assoc]⟩⟩⟩
 |_=>cases h
theorem aVf (r:bY Y.C E s a w β){t:Nat}{i:TInfo}(hti:tiB P t i=true){x:Lf U}{y:Sv U}{v:Value}(hm:x.mean Y.C w (E.X β) β s.m v)(h:load Y s i x=some y):
  ∃p v',v= .pointer (some p)∧(∀w',Ext w w'→(loadVar t p).run P w'= .ok v' w')∧y.mean Y.C w (E.X β) β s.m v':=by
 cases x with
 |box b o=>
  simp only[load,bC] at h
  obtain⟨_,e,tr,h1,h2,h3⟩:=hm
  simp only[h1] at h
  have hok:=r.hp.ok b tr e h2 h1
  obtain⟨ob,rv,cv⟩:=e
  cases ob with
  |box T cs us=>
   obtain⟨bb,h4,rfl⟩:=h3 rfl
   obtain⟨_,b',vs,k1,k2,k3,k4⟩:=hok
   rw[h4] at k1;injection k1 with k1;subst k1
   obtain⟨v',q1,q2⟩:=aNr (P:=P) (p:=⟨bb,o,none⟩) hti h (k4.drop o) (fun w' he j u hj=>by
    rw[kU,cell_of_row w' bb (o+j) _ T (0,0) (he.heap k3)]
    simpa using hj)
   exact⟨_,v',rfl,q1,q2⟩
  |_=>cases h
 |ptr τ z o=>
  simp only[load] at h
  have hm':Rd w (E.X β) [] v (.elem ((U.enc τ z).drop o)):=hm
  cases v with
  |pointer p=>
   cases hm' with
   | @elem _ ad _ val hX hb hcell hrd=>
    have hlen:((List.range ((Y.C.cel τ z).drop o).length).map val).length=((Y.C.cel τ z).drop o).length:=by simp
    obtain⟨v',q1,q2⟩:=aNr (P:=P) (p:=ad) (vs:=(List.range ((Y.C.cel τ z).drop o).length).map val) hti h (m:=s.m) (C:=Y.C) (w:=w) (X:=E.X β) (β:=β) ⟨hlen,fun j u c h5 h6=>by
      have hjl:=lt_of_some h6
      simp only[List.getElem?_map,List.getElem?_range hjl,Option.map_some,Option.some.injEq] at h5
      subst h5
      have hd:((U.enc τ z).drop o)[j]? =some c.toV:=by
       rw[←Y.C.hcel,←List.map_drop,List.getElem?_map,h6];rfl
      have hr:=hrd j _ hd
      have hdat:=Y.C.hdat τ z c (List.mem_of_mem_drop (List.mem_of_getElem? h6))
      cases c with
      |int k n=>exact hr.aAP
      |bool b=>exact hr.aAS
      |str b=>exact hr.aAR
      |sl τ' l=>exact hr
      |_=>cases hdat⟩ (fun w' he j u hj=>by
      have hjl:j<((Y.C.cel τ z).drop o).length:=by have:=lt_of_some hj;rw[hlen] at this;exact this
      simp only[List.getElem?_map,List.getElem?_range hjl,Option.map_some,Option.some.injEq] at hj
      subst hj
      exact he.cell (hcell j (((U.enc τ z).drop o)[j]'(by rw[←Y.C.hcel,←List.map_drop,List.length_map];exact hjl)) (List.getElem?_eq_getElem _)))
    exact⟨_,v',rfl,q1,q2⟩
  |_=>cases hm'
 |oel b c τ q z o=>
  simp only[load] at h
  cases hv:okv s.m b c with
  |false=>simp[hv] at h
  |true=>
   simp only[hv,cond_true] at h
   obtain⟨h0,e,tr,h1,h2,h3⟩:=hm
   obtain⟨e',k1,k2⟩:=aNs hv
   rw[h1] at k1;injection k1 with k1;subst k1
   subst k2
   obtain⟨d,L,bb,a1,a2,a3,a4,rfl⟩:=h3 rfl
   obtain⟨xz,m1,m2⟩:=bEc r.hp h2 h1 a1 a2 a3
   obtain⟨v',q1,q2⟩:=aNr (P:=P) (p:=⟨bb,q.toNat*U.K τ+o,none⟩) hti h (m1.drop o) (fun w' he j u hj=>by
    have:=he.cell (m2 bb a4 (o+j) u (by simpa using hj))
    rw[kU] at this ⊢
    rw[show q.toNat*U.K τ+o+j=0+(q.toNat*U.K τ+(o+j)) by omega];exact this)
   exact⟨_,v',rfl,q1,q2⟩
 |_=>cases h
end
end Go.EV

namespace Go.EV
open Go.RowKit Go.VK
variable {U:Uni} {Y:Lay U} {TI:List (Nat×TInfo)} {P:Program} {g:GI} {E:Env U g}
section
variable {s:St U} {m:Mm U} {a:Act} {w w':World} {β β':List Tr} {X:Nat→Prop}
theorem vG {x:Operand}(r:bY Y.C E s a w β){y:Lf U}(h:gH s x= .l y):y.mean Y.C w (E.X β) β s.m (a.eval x):=by
 have:=Bd r (x:=x);rw[h] at this;exact this
theorem bKm {x:Operand}(r:bY Y.C E s a w β){cs:List (Lf U)}(h:Km s x= .a cs):∃vs:List Value,a.eval x= .agg vs.toArray∧Ms Y.C w (E.X β) β s.m vs cs:=by
 have:=jK r (x:=x);rw[h] at this;exact this
theorem bF8 {x:Operand}{cs:List (Lf U)}(h:gH s x= .a cs):Km s x= .a cs:=by
 unfold gH at h;cases ho:Km s x with
 |l y=>simp[ho] at h
 |a ds=>simp only[ho] at h;exact h
 |t xs=>simp[ho] at h
theorem bLn {x:Operand}{xs:List (Bool×List (Lf U))}(h:gH s x= .t xs):Km s x= .t xs:=by
 unfold gH at h;cases ho:Km s x with
 |l y=>simp[ho] at h
 |a ds=>simp[ho] at h
 |t xs=>simp only[ho] at h;exact h
theorem aNt {v:Value}{x:Lf U}(hm:x.mean Y.C w X β m v)(h:bFv x=true):v.oneCell'=true:=by
 cases x with
 |int=>obtain⟨rfl,_⟩:=hm;rfl
 |bool=>obtain rfl:=hm;rfl
 |str=>obtain⟨rfl,_⟩:=hm;rfl
 |nat=>obtain⟨_,_,_,rfl,_⟩:=hm;rfl
 |lt=>obtain⟨_,_,_,rfl,_⟩:=hm;rfl
 |sl τ l=>exact Rd.one hm rfl
 |nil=>obtain rfl:=hm;rfl
 |own=>exact hm.1.2
 |bor=>exact hm.1.2
 |inn=>exact hm.1.2
 |oel=>exact hm.1.2
 |box=>exact hm.1
 |ptr τ z off=>
  have hm':Rd w X [] v (.elem ((U.enc τ z).drop off)):=hm
  exact Rd.one hm' rfl
 |und=>cases h
 |any=>cases h
theorem aW7:∀{cs:List (Lf U)},Nf cs=true→∀c∈cs,bFv c=true
 |[],_,c,hc=>by simp at hc
 |x::xs,h,c,hc=>by
  simp only[Nf,Bool.and_eq_true] at h
  rcases List.mem_cons.1 hc with rfl|hc
  ·exact h.1
  ·exact aW7 h.2 c hc
theorem Fp {v:Value}{x:Sv U}{ps:List (Lf U)}(hm:x.mean Y.C w X β m v)(hp:parts x=some ps)(h1:Nf ps=true):Ms Y.C w X β m v.cells.toList ps∧∀u∈v.cells.toList,u.oneCell'=true:=by
 have key:∀{vs:List Value},Ms Y.C w X β m vs ps→∀u∈vs,u.oneCell'=true:=fun {vs} hM u hu=>by
  obtain⟨i,hi⟩:=List.mem_iff_getElem?.1 hu
  have hil:i<ps.length:=by rw[←hM.1];exact lt_of_some hi
  exact aNt (hM.2 i u _ hi (List.getElem?_eq_getElem hil)) (aW7 h1 _ (List.getElem_mem hil))
 cases x with
 |l y=>
  simp only[parts,Option.some.injEq] at hp
  subst hp
  have ho:=aNt (Y:=Y) (m:=m) (β:=β) hm (aW7 h1 y (by simp))
  rw[Tg ho]
  have hM:Ms Y.C w X β m [v] [y]:=⟨rfl,fun i u c h5 h6=>by
   cases i with
   |zero=>simp at h5 h6;subst h5;subst h6;exact hm
   |succ i=>simp at h5⟩
  exact⟨hM,key hM⟩
 |a cs=>
  simp only[parts,Option.some.injEq] at hp
  subst hp
  obtain⟨vs,rfl,hM⟩:=hm
  have e:(Value.agg vs.toArray).cells.toList=vs:=rfl
  rw[e]
  exact⟨hM,key hM⟩
 |t xs=>cases hp
theorem bCx:∀{l:List (Nat×Nat)} {fs:List (Nat×Nat×Nat)} {n:Nat} {off ft k:Nat},aW0 l fs=true→fs[n]? =some (off,ft,k)→l[n]? =some (off,k)
 |[],[],n,off,ft,k,_,h=>by simp at h
 |[],_::_,n,off,ft,k,h,_=>by cases h
 |_::_,[],n,off,ft,k,h,_=>by cases h
 |(x,y)::l,(o,f,c)::fs,0,off,ft,k,h,hn=>by
  simp only[aW0,Bool.and_eq_true] at h
  simp at hn
  obtain⟨rfl,rfl,rfl⟩:=hn
  rw[Nat.eq_of_beq_eq_true h.1.1,Nat.eq_of_beq_eq_true h.1.2];rfl
 |(x,y)::l,(o,f,c)::fs,n+1,off,ft,k,h,hn=>by
  simp only[aW0,Bool.and_eq_true] at h
  simpa using bCx h.2 (by simpa using hn)
theorem aY2 (r:bY Y.C E s a w β){pls:List (Nat×Nat)}{fs:List (Nat×Nat×Nat)}(hp:aW0 pls fs=true):∀{xs:List (Nat×Operand)} {cs ds:List (Lf U)},bA9 s fs xs cs=some ds→
  ∀cells:Array Value,Ms Y.C w (E.X β) β s.m cells.toList cs→∃res,Instr.fill (fun i=>pls.toArray[i]?) cells (xs.map fun(i,x)=>(i,a.eval x))=some res∧Ms Y.C w (E.X β) β s.m res.toList ds
 |[],cs,ds,h,cells,hM=>by
  simp only[bA9,Option.some.injEq] at h
  subst h;exact⟨cells,rfl,hM⟩
 |(f,x)::xs,cs,ds,h,cells,hM=>by
  simp only[bA9,fld,bC] at h
  cases hf:fs[f]? with
  |none=>simp[hf] at h
  |some q=>
   obtain⟨off,ft,n⟩:=q
   cases hps:parts (Km s x) with
   |none=>simp[hf,hps] at h
   |some ps=>
    simp only[hf,hps] at h
    cases hb:(Nat.beq (len ps) n&&Nat.ble (off+n) (len cs)&&Nf ps) with
    |false=>rw[hb] at h;cases h
    |true=>
     rw[hb] at h
     simp only[cond_true] at h
     simp only[Bool.and_eq_true,dA] at hb
     obtain⟨⟨b1,b2⟩,b3⟩:=hb
     have b1:=Nat.eq_of_beq_eq_true b1
     have b2:=Nat.le_of_ble_eq_true b2
     have hpm:=(Fp (jK r (x:=x)) hps b3).1
     have hcl:cells.size=cs.length:=by have:=hM.1;simpa using this
     have hsz:(a.eval x).cells.toList.length=n:=by rw[hpm.1,b1]
     have hfg:=V7 off (a.eval x).cells.toList 0 cells (by rw[hsz,hcl];omega)
     rw[Ni _ _ _ (by rw[b1];omega)] at h
     obtain⟨res,r1,r2⟩:=aY2 r hp h ((((a.eval x).cells.toList.zipIdx 0).foldl (fun cs (cc,j)=>cs.setIfInBounds (off+j) cc) cells)) ⟨by
       have:=hfg.1
       simp only[Array.length_toList,this,hcl,List.length_append,List.length_take,List.length_drop]
       omega,fun j v c h5 h6=>by
       have h5':(((a.eval x).cells.toList.zipIdx 0).foldl (fun cs (cc,j)=>cs.setIfInBounds (off+j) cc) cells)[j]? =some v:=by simpa using h5
       rw[hfg.2] at h5'
       rw[vD _ _ _ _ (by rw[b1];omega)] at h6
       simp only[Nat.add_zero,hsz] at h5'
       rw[b1] at h6
       split at h5'
       ·rename_i hj;rw[if_pos hj] at h6;exact hpm.2 _ v c h5' h6
       ·rename_i hj;rw[if_neg hj] at h6;exact hM.2 j v c (by simpa using h5') h6⟩
     refine⟨res,?_,r2⟩
     simp only[List.map_cons,Instr.fill]
     have hg:pls.toArray[f]? =some (off,n):=by simpa using bCx hp hf
     rw[hg]
     simp only
     have hcs:(a.eval x).cells.size=n:=by rw[←hsz];simp
     rw[if_neg (by simp only[hcs,hcl];simp;omega)]
     rw[←Array.foldl_toList,Array.toList_zipIdx]
     exact r1
theorem bCy {v:Value}{z:Kz}(h:kzB v z=true):(z.lf:Lf U).mean Y.C w X β m v:=by
 unfold kzB at h
 split at h
 ·simp only[Bool.and_eq_true,decide_eq_true_eq] at h
  obtain⟨⟨⟨rfl,rfl⟩,h1⟩,h2⟩:=h
  exact⟨rfl,h1,h2⟩
 ·rename_i b
  have:b=false:=by simpa using h
  subst this;rfl
 ·rename_i b
  have hs:b.data.size=0:=Nat.eq_of_beq_eq_true h
  have hb:b=⟨#[]⟩:=by
   cases b with
   |mk d=>have hd:d= #[]:=Array.eq_empty_of_size_eq_zero hs;rw[hd]
  subst hb
  exact⟨rfl,by decide⟩
 ·rfl
 ·cases h
theorem Nl:∀{vs:List Value} {zs:List Kz},bBh vs zs=true→Ms Y.C w X β m vs (zs.map (Kz.lf:Kz→Lf U))
 |[],[],_=>⟨rfl,by simp⟩
 |[],_::_,h=>by cases h
 |_::_,[],h=>by cases h
 |v::vs,z::zs,h=>by
  simp only[bBh,Bool.and_eq_true] at h
  have ih:=Nl h.2
  refine⟨by simp[ih.1],fun i u c h1 h2=> ?_⟩
  cases i with
  |zero=>simp at h1 h2;subst h1;subst h2;exact bCy h.1
  |succ i=>exact ih.2 i u c (by simpa using h1) (by simpa using h2)
theorem Be {C:Cod U}{v:Value}{x:Bool×List (Lf U)}(h:Mp C w X β m v x):(aJu x).mean C w X β m v:=by
 obtain⟨b,cs⟩:=x
 cases b with
 |false=>obtain⟨c,rfl,h⟩:=h;exact h
 |true=>exact h
theorem bF9 {t:Nat}{i:TInfo}{vs:List Value}{cs:List (Lf U)}{off:Nat}{x:Sv U}(hti:tiB P t i=true)(hc:cut i cs off=some x)(hM:Ms Y.C w X β m vs cs):
  ∃v,(∀w',(part t vs.toArray off).run P w'= .ok v w')∧x.mean Y.C w X β m v:=by
 rcases aVd hc with⟨fs,ds,hu,h1,h2,rfl⟩|⟨hu,y,h1,rfl⟩
 ·have hag:=(aI5 hti hu).1
  have hl:i.k≤vs.length-off:=by
   rw[hM.1,←h2,h1,List.length_take,List.length_drop];exact Nat.min_le_right _ _
  refine⟨.agg (vs.toArray.extract off (off+i.k)),fun w'=> ?_,(vs.drop off).take i.k,?_,?_,fun j v c h5 h6=> ?_⟩
  ·have e1:=(vC (w:=w') hag).1
   have e2:=(vC (w:=w') hag).2
   simp[part,e1,e2]
  ·congr 1
   apply Array.ext'
   simp[List.extract,Nat.add_sub_cancel_left]
  ·rw[h2,List.length_take,List.length_drop];omega
  ·rw[List.getElem?_take] at h5
   split at h5
   ·rw[h1,List.getElem?_take] at h6
    split at h6
    ·exact hM.2 (off+j) v c (by simpa using h5) (by simpa using h6)
    ·exact absurd ‹j<i.k› ‹¬j<i.k›
   ·simp at h5
 ·have ho:=(bF7 hti hu).1
  have hl:off<vs.length:=by rw[hM.1];exact lt_of_some h1
  exact⟨vs[off],fun w'=>V8 ho (by simp[hl]),hM.2 off _ y (List.getElem?_eq_getElem hl) h1⟩
end
end Go.EV

namespace Go.EV
open Go.RowKit Go.VK
variable {U:Uni} {Y:Lay U} {TI:List (Nat×TInfo)} {P:Program} {g:GI} {E:Env U g}
section
variable {s:St U} {a:Act} {w:World} {β:List Tr} {α:Type}
theorem jV (r:bY Y.C E s a w β){op:Op}{k:IntKind}{n:Int}(h:∀E':VK.Env P g,yH E' (brS s false) op (.int k n)):MO P Y.C E s a w β op (.l (.int k n)):=aYz r false h (fun v hv=>bLm hv)
theorem lL (r:bY Y.C E s a w β){op:Op}{b:Bool}(h:∀E':VK.Env P g,yH E' (brS s false) op (.bool b)):MO P Y.C E s a w β op (.l (.bool b)):=aYz r false h (fun v hv=>bKl hv)
theorem aW8 (r:bY Y.C E s a w β){op:Op}{z:ByteArray}(h:∀E':VK.Env P g,yH E' (brS s false) op (.str z)):MO P Y.C E s a w β op (.l (.str z)):=aYz r false h (fun v hv=>bJn hv)
theorem aNu (r:bY Y.C E s a w β){b:BinOp}{t u:TypeId}{x y:Operand}{k:IntKind}{m n:Int}{z:Lf U}(hx:gH s x= .l (.int k m))(hy:gH s y= .l (.int k n))(h:bH6 b k m n=some z):MO P Y.C E s a w β (.binOp b t x y u) (.l z):=by
 cases b<;>simp only[bH6,Option.some.injEq,reduceCtorEq] at h<;>subst h
 ·exact jV r fun _=>add (dB hx) (dB hy)
 ·exact jV r fun _=>sub (dB hx) (dB hy)
 ·exact jV r fun _=>mul (dB hx) (dB hy)
 ·exact jV r fun _=>bKb (dB hx) (dB hy)
 ·exact jV r fun _=>bLj (dB hx) (dB hy)
 ·exact jV r fun _=>bKc (dB hx) (dB hy)
 ·exact lL r fun _=>eql (dB hx) (dB hy)
 ·exact lL r fun _=>neq (dB hx) (dB hy)
 ·exact lL r fun _=>lss (dB hx) (dB hy)
 ·exact lL r fun _=>leq (dB hx) (dB hy)
 ·exact lL r fun _=>gtr (dB hx) (dB hy)
 ·exact lL r fun _=>geq (dB hx) (dB hy)
theorem aNv (r:bY Y.C E s a w β){b:BinOp}{t u:TypeId}{x y:Operand}{m n:ByteArray}{z:Lf U}(hx:gH s x= .l (.str m))(hy:gH s y= .l (.str n))(h:bH7 b m n=some z):MO P Y.C E s a w β (.binOp b t x y u) (.l z):=by
 cases b<;>simp only[bH7,Option.some.injEq,reduceCtorEq] at h<;>subst h
 ·exact lL r fun _=>bMg (vF hx) (vF hy)
 ·exact lL r fun _=>sne (vF hx) (vF hy)
theorem bGa {i off ft n:Nat}{fs:List (Nat×Nat×Nat)}{c d:Lf U}{cs ds:List (Lf U)}{z:Bool}(h:eqQ TI i ((off,ft,n)::fs) (c::cs) (d::ds)=some z):off=i∧∃r,eqQ TI (Nat.succ i) fs cs ds=some r∧
  ((∃k k1 z1 q m n,mE TI ft=some ⟨.int q,k1,z1⟩∧c= .int k m∧d= .int k n∧z=(m==n&&r))∨(∃k1 z1 m n,mE TI ft=some ⟨.bool,k1,z1⟩∧c= .bool m∧d= .bool n∧z=(m==n&&r))∨(∃k1 z1 m n,mE TI ft=some ⟨.str,k1,z1⟩∧c= .str m∧d= .str n∧z=(m.toList==n.toList&&r))):=by
 unfold eqQ at h
 cases hb:Nat.beq off i with
 |false=>rw[hb] at h;cases h
 |true=>
  rw[hb] at h
  refine⟨Nat.eq_of_beq_eq_true hb,?_⟩
  simp only[cond_true] at h
  split at h
  ·rename_i r hr
   refine⟨r,hr,?_⟩
   split at h
   ·rename_i q k1 z1 k m k' n hf
    split at h
    ·rename_i he;subst he
     exact .inl ⟨k,k1,z1,q,m,n,hf,rfl,rfl,(Option.some.inj h).symm⟩
    ·cases h
   ·rename_i k1 z1 m n hf;exact .inr (.inl ⟨k1,z1,m,n,hf,rfl,rfl,(Option.some.inj h).symm⟩)
   ·rename_i k1 z1 m n hf;exact .inr (.inr ⟨k1,z1,m,n,hf,rfl,rfl,(Option.some.inj h).symm⟩)
   ·cases h
  ·cases h
theorem bGb {D:Nat}{w w':World}{C:Cod U}{X:Nat→Prop}{β:List Tr}{m:Mm U}(hTI:Ao P TI=true){xs ys:Array Value}:∀{fs:List (Nat×Nat×Nat)} {fds:List Field} {i:Nat} {cs ds:List (Lf U)} {z:Bool},fds.length=fs.length→
  (∀(j:Nat) (fd:Field) (q:Nat×Nat×Nat),fds[j]? =some fd→fs[j]? =some q→fd.type=q.2.1∧fd.offset=q.1)→
  (∀(j:Nat) (c:Lf U),cs[j]? =some c→∃v,xs[i+j]? =some v∧c.mean C w X β m v)→(∀(j:Nat) (c:Lf U),ds[j]? =some c→∃v,ys[i+j]? =some v∧c.mean C w X β m v)→
  eqQ TI i fs cs ds=some z→fds.all (Zm P)=true∧((fds.all fun f=>f.name != "_")=true→(Op.eqFields (D+1) xs ys fds).run P w'= .ok z w')
 |[],fds,i,cs,ds,z,hl,_,_,_,he=>by
  have h1:fds=[]:=List.length_eq_zero_iff.1 hl
  subst h1
  cases cs<;>cases ds<;>first|(simp only[eqQ,Option.some.injEq] at he;subst he;exact⟨rfl,fun _=>bH4⟩)|cases he
 |(off,ft,n)::fs,[],i,cs,ds,z,hl,_,_,_,_=>by cases hl
 |(off,ft,n)::fs,fd::fds,i,[],ds,z,_,_,_,_,he=>by cases ds<;>cases he
 |(off,ft,n)::fs,fd::fds,i,c::cs,[],z,_,_,_,_,he=>by cases he
 |(off,ft,n)::fs,fd::fds,i,c::cs,d::ds,z,hl,hfd,hx,hy,he=>by
  obtain⟨h1,r,hr,hcase⟩:=bGa he
  obtain⟨k1,k2⟩:=hfd 0 fd (off,ft,n) rfl rfl
  have ho:fd.offset=i:=k2.trans h1
  obtain⟨v,x1,x2⟩:=hx 0 c rfl
  obtain⟨u,y1,y2⟩:=hy 0 d rfl
  rw[Nat.add_zero] at x1 y1
  obtain⟨g1,g2⟩:=bGb (D:=D) (w':=w') hTI (fs:=fs) (fds:=fds) (i:=Nat.succ i) (by simpa using hl) (fun j fd q a b=>hfd (j+1) fd q (by simpa using a) (by simpa using b))
   (fun j c h=>by have:=hx (j+1) c (by simpa using h);rwa [show i+(j+1)=Nat.succ i+j by omega] at this) (fun j c h=>by have:=hy (j+1) c (by simpa using h);rwa [show i+(j+1)=Nat.succ i+j by omega] at this) hr
  have fin:∀{q:Bool},Zm P fd=true→Nb P fd.type=true→(Op.equalIn (D+1) fd.type v u).run P w'= .ok q w'→z=(q&&r)→(fd::fds).all (Zm P)=true∧(((fd::fds).all fun f=>f.name != "_")=true→(Op.eqFields (D+1) xs ys (fd::fds)).run P w'= .ok z w'):=fun a1 a2 a3 a4=>by
   refine⟨by rw[List.all_cons,a1,g1];rfl,fun hn=> ?_⟩
   rw[List.all_cons,Bool.and_eq_true] at hn
   rw[a4]
   exact bFu hn.1 a2 (by rw[ho];exact x1) (by rw[ho];exact y1) a3 (g2 hn.2)
  have k1:fd.type=ft:=k1
  rcases hcase with⟨k,j1,z1,q,m,n,hf,rfl,rfl,hz⟩|⟨j1,z1,m,n,hf,rfl,rfl,hz⟩|⟨j1,z1,m,n,hf,rfl,rfl,hz⟩
  ·obtain⟨t1,t2,_⟩:=Zn (dM hTI hf) rfl
   obtain⟨rfl,_⟩:=x2
   obtain⟨rfl,_⟩:=y2
   exact fin (by simp[Zm,k1,t1]) (by rw[k1];exact t2) (by rw[k1];exact run_equalIn_int w' D _ _ _ _ _ t1) hz
  ·obtain⟨t1,t2,_⟩:=aMu (dM hTI hf) rfl
   obtain rfl:=x2
   obtain rfl:=y2
   exact fin (by simp[Zm,k1,t1]) (by rw[k1];exact t2) (by rw[k1];exact run_equalIn_bool' w' D _ _ _ t1) hz
  ·obtain⟨t1,t2,_⟩:=Nj (dM hTI hf) rfl
   obtain⟨rfl,_⟩:=x2
   obtain⟨rfl,_⟩:=y2
   exact fin (by simp[Zm,k1,t1]) (by rw[k1];exact t2) (by rw[k1];exact run_equalIn_string w' D _ _ _ t1) hz
theorem aY3 {P:Program}:∀{fs:List Field} {l:List (Nat×Nat)},aWv P fs=some l→l.length=fs.length
 |[],l,h=>by simp[aWv] at h;subst h;rfl
 |f::fs,l,h=>by
  simp only[aWv] at h
  split at h
  ·rename_i i l' _ h2
   have:=Option.some.inj h;subst this
   simp[aY3 h2]
  ·cases h
theorem aY4:∀{l:List (Nat×Nat)} {fs:List (Nat×Nat×Nat)},aW0 l fs=true→l.length=fs.length
 |[],[],_=>rfl
 |[],_::_,h=>by cases h
 |_::_,[],h=>by cases h
 |(a,b)::l,(off,ft,n)::fs,h=>by
  simp only[aW0,Bool.and_eq_true] at h
  simp[aY4 h.2]
theorem aVg (hTI:Ao P TI=true)(r:bY Y.C E s a w β){b:BinOp}{t u:TypeId}{x y:Operand}{f:Nat×Nat×Nat}{fs:List (Nat×Nat×Nat)}{k:Nat}{zz:List Kz}{cs ds:List (Lf U)}{q:Bool}(hx:gH s x= .a cs)(hy:gH s y= .a ds)(h1:mE TI t=some ⟨.st (f::fs),k,zz⟩)(h2:eqQ TI 0 (f::fs) cs ds=some q)(hb:b= .eql∨b= .neq):
  MO P Y.C E s a w β (.binOp b t x y u) (.l (.bool (if b= .eql then q else !q))):=fun o ho=>by
 obtain⟨_,hfs,hor⟩:=aI5 (dM hTI h1) rfl
 have heq:=bLk (dM hTI h1) rfl
 rcases hor with⟨_,pls,k1,k2⟩|⟨hne,_⟩
 ·unfold aNd at k1
  cases hu:P.underlying t with
  |none=>simp[hu] at k1
  |some d=>
   cases d<;>simp[hu] at k1
   rename_i fds
   obtain⟨vs,q1,q2⟩:=bKm r (bF8 hx)
   obtain⟨us,p1,p2⟩:=bKm r (bF8 hy)
   have hlen:fds.toList.length=(f::fs).length:=(aY3 k1).symm.trans (aY4 k2)
   have hget:∀(l:List Value) (e:List (Lf U)),Ms Y.C w (E.X β) β s.m l e→∀(j:Nat) (c:Lf U),e[j]? =some c→∃v,l.toArray[0+j]? =some v∧c.mean Y.C w (E.X β) β s.m v:=fun l e hm j c hc=>by
    have hj:j<l.length:=by rw[hm.1];exact(List.getElem?_eq_some_iff.1 hc).1
    exact⟨l[j],by simp[hj],hm.2 j _ c (List.getElem?_eq_getElem hj) hc⟩
   have key:=fun w':World=>bGb (D:=9998) (w:=w) (w':=w') (C:=Y.C) (X:=E.X β) (β:=β) (m:=s.m) hTI (xs:=vs.toArray) (ys:=us.toArray) (fds:=fds.toList) (i:=0) hlen (fun j fd qq ha hc=>by
    have h5:=(aW1 hfs (n:=j) (off:=qq.1) (ft:=qq.2.1) (k:=qq.2.2) hc).2.1
    rw[Nat.zero_add] at h5
    simp only[bD8,hu] at h5
    rw[←Array.getElem?_toList,ha] at h5
    simpa using h5) (hget vs cs q2) (hget us ds p2) h2
   simp only[bKk,hu,(key w).1,Bool.not_true,Bool.false_or,Bool.and_eq_true,Bool.not_eq_true'] at heq
   obtain⟨e1,e2,e3⟩:=heq
   have hq:∀w':World,(Op.equalIn 10000 t (.agg vs.toArray) (.agg us.toArray)).run P w'= .ok q w':=fun w'=>by
    have hfo:P.fieldsOf t=fds:=by simp[Program.fieldsOf,hu]
    rw[run_equalIn_struct w' 9999 t _ _ (by rw[hfo];exact hu) e2,hfo]
    exact(key w').2 e3
   rcases hb with rfl|rfl
   ·exact⟨.bool q,fun w' _=>by simp only[execOp,ho,q1,p1,Sem.run_bind,run_eqGuard_agg _ _ _ _ _ _ _ e1,Result.andThen_ok,run_eql_struct,hq,Sem.run_pure],rfl⟩
   ·exact⟨.bool (!q),fun w' _=>by simp only[execOp,ho,q1,p1,Sem.run_bind,run_eqGuard_agg _ _ _ _ _ _ _ e1,Result.andThen_ok,run_neq_struct,hq,Sem.run_pure],rfl⟩
 ·cases hne
theorem bEd (hTI:Ao P TI=true)(r:bY Y.C E s a w β){b:BinOp}{t u:TypeId}{x y:Operand}{z:Lf U}(h:bin TI b t (gH s x) (gH s y)=some z):MO P Y.C E s a w β (.binOp b t x y u) (.l z):=by
 generalize hx:gH s x=vx at h
 generalize hy:gH s y=vy at h
 unfold bin at h
 split at h
 ·split at h
  ·rename_i he;subst he;exact aNu r hx hy h
  ·cases h
 ·exact aNv r hx hy h
 ·split at h
  ·rename_i i k z' hf
   have ht:=(aMu (dM hTI hf) rfl).1
   split at h
   ·simp only[Option.some.injEq] at h;subst h;exact lL r fun _=>bMh ht (X9 hx) (X9 hy)
   ·simp only[Option.some.injEq] at h;subst h;exact lL r fun _=>bMi ht (X9 hx) (X9 hy)
   ·cases h
  ·cases h
 ·split at h
  ·rename_i f fs k zz hf
   split at h
   ·rename_i q hq
    split at h
    ·simp only[Option.some.injEq] at h;subst h;exact aVg hTI r hx hy hf hq (.inl rfl)
    ·simp only[Option.some.injEq] at h;subst h;exact aVg hTI r hx hy hf hq (.inr rfl)
    ·cases h
   ·cases h
  ·cases h
 ·cases h
theorem aI6 {xs:Array Operand}{x y:Operand}(h:xs.toList=[x,y]):xs= #[x,y]:=by apply Array.ext';simpa using h
theorem aI7 {α:Type}{xs:Array α}{x:α}(h:xs.toList=[x]):xs= #[x]:=by apply Array.ext';simpa using h
theorem aVh (hTI:Ao P TI=true)(r:bY Y.C E s a w β){op:Op}{x:Sv U}(h:pur Y TI s op=some x):MO P Y.C E s a w β op x:=by
 unfold pur at h
 split at h
 ·simp only[Option.some.injEq] at h;subst h
  exact fun o ho=>⟨_,fun w' _=>by simp[execOp,ho],jK r⟩
 ·simp only[Option.some.injEq] at h;subst h
  exact fun o ho=>⟨_,fun w' _=>by simp[execOp,ho],jK r⟩
 ·rename_i c y z
  split at h
  ·rename_i b hc
   have hcv:a.eval c= .bool b:=vG r hc
   cases b with
   |true=>
    simp only[cond_true,Option.some.injEq] at h;subst h
    exact fun o ho=>⟨_,fun w' _=>by simp[execOp,ho,hcv,asBool],jK r⟩
   |false=>
    simp only[cond_false,Option.some.injEq] at h;subst h
    exact fun o ho=>⟨_,fun w' _=>by simp[execOp,ho,hcv,asBool],jK r⟩
  ·cases h
 ·rename_i y
  split at h
  ·rename_i b off hx
   split at h
   ·rename_i T cs us rv cv h4
    simp only[Option.some.injEq] at h;subst h
    rw[bC] at h4
    have hm:=vG r hx
    obtain⟨_,e,tr,h1,h2,h3⟩:=vG r hx
    rw[h4] at h1;injection h1 with h1;subst h1
    obtain⟨bb,_,hv⟩:=h3 rfl
    exact fun o ho=>⟨a.eval y,fun w' _=>by simp[execOp,ho,hv],hm⟩
   ·cases h
  ·cases h
 ·rename_i u t y
  split at h
  ·rename_i b hy
   simp only[Option.some.injEq] at h;subst h;exact lL r fun _=>not_ (X9 hy)
  ·rename_i k n hy
   simp only[Option.some.injEq] at h;subst h;exact jV r fun _=>bMe (dB hy)
  ·cases h
 ·rename_i t u y
  split at h
  ·rename_i k1 i1 z1 j i2 z2 k n h1 h2 h3
   simp only[Option.some.injEq] at h;subst h
   exact jV r fun _=>cnv (by rw[(Zn (dM hTI h1) rfl).1];rfl) (Zn (dM hTI h2) rfl).1 (dB h3)
  ·cases h
 ·rename_i t y f
  split at h
  ·rename_i fs i z p h1 h2
   split at h
   ·rename_i off ft n h3
    split at h
    ·rename_i q h4
     simp only[Option.some.injEq] at h;subst h
     have hfb:=(aI5 (dM hTI h1) rfl).2.1
     simp only[fld,bC] at h3
     have h5:=(aW1 hfb h3).1
     rw[Nat.zero_add] at h5
     obtain⟨v',q1,q2⟩:=aW6 r h5 (vG r h2) h4
     exact fun o ho=>⟨v',fun w' _=>by simp[execOp,ho,q1],q2⟩
    ·cases h
   ·cases h
  ·cases h
 ·rename_i t y
  split at h
  ·rename_i i p h1 h2
   obtain⟨p',v',q1,q2,q3⟩:=aVf r (dM hTI h1) (vG r h2) h
   exact fun o ho=>⟨v',fun w' he=>by simp[execOp,ho,q1,Instr.loadAt,Instr.sureAddr,q2 w' he],q3⟩
  ·cases h
 ·rename_i t y f
  split at h
  ·rename_i fs i z cs h1 h2
   split at h
   ·rename_i off ft n h3
    split at h
    ·rename_i j h4
     have hfb:=(aI5 (dM hTI h1) rfl).2.1
     simp only[fld,bC] at h3
     have h5:=(aW1 hfb h3).2.1
     rw[Nat.zero_add] at h5
     obtain⟨vs,q1,q2⟩:=bKm r (bF8 h2)
     obtain⟨v',q3,q4⟩:=bF9 (dM hTI h4) h q2
     exact fun o ho=>⟨v',fun w' _=>by simp only[execOp,ho,q1,bCr h5,q3,Sem.run_bind,Sem.run_pure,Result.andThen_ok,Sem.run_map],q4⟩
    ·cases h
   ·cases h
  ·cases h
 ·rename_i t ps
  split at h
  ·rename_i fs k z h1
   split at h
   ·rename_i cs h2
    simp only[Option.some.injEq] at h;subst h
    have hti:=dM hTI h1
    obtain⟨j,zv,k3,k4,k5⟩:=aMv hti
    obtain⟨hagg,_,hor⟩:=aI5 hti rfl
    rcases hor with⟨_,pls,k1,k2⟩|⟨rfl,har⟩
    rotate_left
    ·--an array:nothing is put in
     have hps:ps.toList=[]:=by
      cases hp:ps.toList with
      |nil=>rfl
      |cons x xs=>rw[hp] at h2;obtain⟨f,y⟩:=x;simp[bA9,fld,bC] at h2
     rw[hps] at h2
     simp only[bA9,Option.some.injEq] at h2
     subst h2
     refine fun o ho=>⟨.agg zv.cells,fun w' _=> ?_,zv.cells.toList,by simp,Nl k5⟩
     unfold arB at har
     cases hu:P.underlying t with
     |none=>simp[hu] at har
     |some d=>
      cases d<;>simp[hu] at har
      rename_i n e
      cases hi:P.info? e with
      |none=>simp[hi] at har
      |some i=>simp[execOp,ho,Instr.build,zeroValue,typeInfo,k3,k4,run_underlying hu,sizeOf,hi,hps,Instr.fill]
    obtain⟨res,k6,k7⟩:=aY2 r k2 h2 zv.cells (Nl k5)
    refine fun o ho=>⟨.agg res,fun w' _=> ?_,res.toList,by simp,k7⟩
    unfold aNd at k1
    cases hu:P.underlying t with
    |none=>simp[hu] at k1
    |some d=>
     cases d<;>simp[hu] at k1
     rename_i fds
     have hm:=aNe (w:=w') k1
     have hm':(fds.mapM fun f=>(Prod.mk f.offset<$>sizeOf f.type:Sem (Nat×Nat))).run P w'= .ok pls.toArray w':=by
      rw[←Array.toArray_toList (xs:=fds),List.mapM_toArray]
      simp only[Sem.run_map,hm,Result.andThen_ok]
      try rfl
     simp[execOp,ho,Instr.build,zeroValue,typeInfo,k3,k4,run_underlying hu,hm']
     have k6':Instr.fill (fun i=>pls[i]?) zv.cells (ps.toList.map fun x=>(x.1,a.eval x.2))=some res:=by simpa using k6
     simp[k6']
   ·cases h
  ·cases h
 ·rename_i y i
  split at h
  ·rename_i xs h1
   split at h
   ·rename_i c h2
    simp only[Option.some.injEq] at h;subst h
    rw[bC] at h2
    have hm:=jK r (x:=y)
    rw[bLn h1] at hm
    obtain⟨vs,q1,q2,q3⟩:=hm
    have hl:i<vs.length:=by rw[q2];exact lt_of_some h2
    exact fun o ho=>⟨vs[i],fun w' _=>by simp[execOp,ho,q1,Instr.extract,hl],Be (q3 i _ c (List.getElem?_eq_getElem hl) h2)⟩
   ·cases h
  ·cases h
 ·rename_i xa ats
  split at h
  ·rename_i y t hxa hats
   rw[aI7 hxa,aI7 hats]
   split at h
   ·rename_i e ek eb i z p h1 h2
    have hs:=(Nk (dM hTI h1) rfl).1
    split at h
    ·cases h
    ·rename_i hns
     cases hl:lenOf s.m p with
     |none=>simp[hl] at h
     |some q=>
      simp only[hl,Option.some.injEq] at h;subst h
      cases p with
      |nil=>
       simp only[lenOf,Option.some.injEq] at hl;subst hl
       have hv:∀E':VK.Env P g,VK.Ev E' (brS s false) y .nil:=fun E'=>by
        have:vw s.m false (Km s y)= .nil:=by
         unfold gH at h2
         cases ho:Km s y with
         |l z=>
          simp only[ho,Sv.l.injEq] at h2
          cases z with
          |nil=>rfl
          |nat a=>simp only[rsv,bC] at h2;cases hn:s.m.ns[a]? <;>simp[hn] at h2
          |lt a n=>simp only[rsv,bC] at h2;cases hn:s.m.ns[a]? <;>simp[hn] at h2
          |_=>simp[rsv] at h2
         |_=>simp[ho] at h2
        rw[←this];exact aW2
       exact jV r fun E'=>bMk hs (hv E')
      |str z=>exact absurd rfl (hns z)
      |_=>
       simp only[lenOf] at hl
       split at hl
       ·rename_i τ l hr
        simp only[Option.some.injEq] at hl;subst hl
        exact jV r fun _=>bMj hs (bJm h2 hr)
       ·cases hl
   ·rename_i i z q h1 h2
    simp only[Option.some.injEq] at h;subst h
    exact jV r fun _=>bMl (Nj (dM hTI h1) rfl).1 (vF h2)
   ·cases h
  ·cases h
 ·rename_i xa ats
  split at h
  ·rename_i y z hxa
   rw[aI6 hxa]
   split at h
   ·rename_i k m k' n h1 h2
    split at h
    ·rename_i he;subst he
     simp only[Option.some.injEq] at h;subst h
     exact jV r fun _=>mn2 (dB h1) (dB h2)
    ·cases h
   ·cases h
  ·cases h
 ·rename_i xa ats
  split at h
  ·rename_i y z hxa
   rw[aI6 hxa]
   split at h
   ·rename_i k m k' n h1 h2
    split at h
    ·rename_i he;subst he
     simp only[Option.some.injEq] at h;subst h
     exact jV r fun _=>mx2 (dB h1) (dB h2)
    ·cases h
   ·cases h
  ·cases h
 ·cases h
end
end Go.EV

namespace Go.EV
open Go.RowKit Go.VK
variable {U:Uni} {Y:Lay U} {TI:List (Nat×TInfo)} {P:Program} {g:GI} {E:Env U g}
section
variable {s:St U} {a:Act} {w:World} {β:List Tr} {α:Type}
theorem nD {x:Operand}{n:Int}(h:yL (gH s x)=some n):∃k,gH s x= .l (.int k n):=by
 cases ho:gH s x with
 |l y=>
  cases y with
  |int k m=>rw[ho] at h;simp only[yL,Option.some.injEq] at h;subst h;exact⟨k,rfl⟩
  |_=>rw[ho] at h;cases h
 |_=>rw[ho] at h;cases h
theorem bEe (r:bY Y.C E s a w β){f:(τ:Nat)→List (U.El τ)→List (U.El τ)}{p p':Lf U}{τ:Nat}{l:List (U.El τ)}(hr:mF s.m p=some (.sl τ l))(hs:aTj f s.m.o p=some p'){v v0:Value}(hm:p.mean Y.C w (E.X β) β s.m v0)
  (h1:v.oneCell'=true) (hv:∀Z:Nat→Prop,Rd w Z [] v0 (.slice (U.K τ) (l.map (U.enc τ)))→Rd w Z [] v (.slice (U.K τ) ((f τ l).map (U.enc τ)))):p'.mean Y.C w (E.X β) β s.m v:=by
 have own:∀(i c:Nat) (e:EO U),s.m.o[i]? =some e→e.cv=c→mG p=false→(∀t,β[i]? =some t→Rd w (fun b=>E.X β b∧b∉t.all) [] v0 (.slice (U.K τ) (l.map (U.enc τ))))→(Lf.bor i c τ (f τ l):Lf U).mean Y.C w (E.X β) β s.m v:=fun i c e he hc _ hrd=>by
  obtain⟨t,ht⟩:=r.hp.tr he
  exact⟨⟨hc▸(r.hp.vers i e he).2,h1⟩,e,t,he,ht,fun _=>hv _ (hrd t ht)⟩
 cases p with
 |sl τ' l'=>
  simp only[mF,Option.some.injEq,Lf.sl.injEq] at hr
  obtain⟨rfl,hl⟩:=hr
  obtain rfl:=eq_of_heq hl
  simp only[aTj,Option.some.injEq] at hs;subst hs
  exact hv _ hm
 |own i q=>
  obtain⟨_,e,t,k1,k2,k3⟩:=hm
  simp only[mF,bC,k1] at hr
  simp only[aTj,bC,k1] at hs
  obtain⟨ob,rv,cv⟩:=e
  cases ob with
  |tree τ' d l'=>
   cases hb:Nat.beq rv q with
   |false=>simp[hb] at hr
   |true=>
    simp only[hb,cond_true,Option.some.injEq,Lf.sl.injEq] at hr hs
    obtain⟨rfl,hl⟩:=hr
    obtain rfl:=eq_of_heq hl
    subst hs
    refine own i cv _ k1 rfl rfl (fun t' ht'=> ?_)
    rw[k2] at ht';injection ht' with ht';subst ht'
    rw[k3 (Nat.eq_of_beq_eq_true hb)]
    exact(Hp.tree r.hp k2 k1 rfl).rd (fun b hb'=>hb'.1) (fun b hb' hn=>hn.2 hb')
  |_=>cases hr
 |bor i c τ' l'=>
  obtain⟨h0,e,t,k1,k2,k3⟩:=hm
  simp only[mF,okv,bC,k1] at hr
  simp only[aTj,Option.some.injEq] at hs
  cases hb:Nat.beq e.cv c with
  |false=>simp[hb] at hr
  |true=>
   simp only[hb,cond_true,Option.some.injEq,Lf.sl.injEq] at hr
   obtain⟨rfl,hl⟩:=hr
   obtain rfl:=eq_of_heq hl
   subst hs
   refine own i c e k1 (Nat.eq_of_beq_eq_true hb) rfl (fun t' ht'=> ?_)
   rw[k2] at ht';injection ht' with ht';subst ht'
   exact k3 (Nat.eq_of_beq_eq_true hb)
 |inn i c τ0 q z j τ' l'=>
  have hm0:=hm
  obtain⟨h0,e,t,k1,k2,k3⟩:=hm
  have hr0:=hr
  simp only[mF,okv,bC,k1] at hr
  simp only[aTj,Option.some.injEq] at hs
  cases hb:Nat.beq e.cv c with
  |false=>simp[hb] at hr
  |true=>
   simp only[hb,cond_true,Option.some.injEq,Lf.sl.injEq] at hr
   obtain⟨rfl,hl⟩:=hr
   obtain rfl:=eq_of_heq hl
   subst hs
   refine own i c e k1 (Nat.eq_of_beq_eq_true hb) rfl (fun t' ht'=> ?_)
   rw[k2] at ht';injection ht' with ht';subst ht'
   have hc:=Nat.eq_of_beq_eq_true hb
   obtain⟨d,L,xs,a1,a2,a3,a4,a5,a6⟩:=k3 hc
   have hok:=r.hp.ok i t e k2 k1
   rw[a1] at hok
   obtain⟨_,xs',b2,b3⟩:=hok
   obtain⟨l1,l2,x1,xz,x2,B1,Bz,B2,g1,g2,g3,g4,g5,g6,o1,o2,o3,_⟩:=aW4 r.hp k2 k1 a1 a3
   have hxs:xs=x1++(xz++x2):=by
    rcases fQ a5 with⟨c1,c2,c3,_⟩|⟨b,cur,c1,_,_,_,c5,_,c7⟩
    ·have:=g3.1;rw[c2] at this;simp at this
     rw[c3,this.1,this.2.1,this.2.2];rfl
    ·rcases fQ g3 with⟨d1,_⟩|⟨b',cur',d1,_,_,_,d5,_,d7⟩
     ·rw[c1] at d1;cases d1
     ·rw[c1] at d1;injection d1 with d1;subst d1
      rw[c5] at d5;injection d5 with d5;injection d5 with d5;subst d5
      rw[←c7,←d7]
   have hvz:xz[j]? =some v0:=by
    have hjl:j<xz.length:=by rw[g5,←Y.C.hlen τ0 z];exact lt_of_some a4
    rw[hxs,←g4,List.getElem?_append_right (Nat.le_add_right _ _),Nat.add_sub_cancel_left,List.getElem?_append_left hjl] at a6
    exact a6
   exact(o2.rd (Z:=fun b=>E.X β b∧b∉t.all) (fun b hb'=>hb'.1) (fun b hb' hn=>hn.2 (by simp[Tr.all,g6,hb']))).2 j v0 _ hvz a4
 |_=>cases hs
theorem aW9 (r:bY Y.C E s a w β){op:Op}{f:(τ:Nat)→List (U.El τ)→List (U.El τ)}{x:Operand}{p p':Lf U}{τ:Nat}{l:List (U.El τ)}(hx:gH s x= .l p)(hr:mF s.m p=some (.sl τ l))(hs:aTj f s.m.o p=some p')
  (a0 b0:Nat) (hab:a0≤b0) (hb:b0≤l.length) (hf:f τ l=(l.take b0).drop a0)
  (hrun:∀(A:Option Addr) (c:Nat),a.eval x= .slice A l.length c→l.length≤c→∀o:Oper,o.op=op→∀w',(execOp a.eval o).run P w'= .ok (.value (.slice (if c=a0 then A else A.map fun q=>q.add (a0*U.K τ)) (b0-a0) (c-a0))) w'):MO P Y.C E s a w β op (.l p'):=fun o ho=>by
 have hm:=vG r hx
 have h0:=(rC r.hp hm hr (Z:=fun _=>False) (fun _ h=>h.elim) (.inr fun _ _ _ _ _ h=>h)).2
 obtain⟨A,c,h1,h2,h3⟩:=Rd.aBB (show Rd w _ [] (a.eval x) (.slice (U.K τ) (l.map (U.enc τ))) from h0)
 rw[List.length_map] at h1 h2
 refine⟨_,fun w' _=>hrun A c h1 h2 o ho w',bEe r hr hs hm rfl fun Z hZ=> ?_⟩
 rw[h1] at hZ
 rw[hf,List.map_drop,List.map_take]
 exact hZ.sub hab (by rw[List.length_map];exact hb)
theorem aY5 (hTI:Ao P TI=true)(r:bY Y.C E s a w β){t:TypeId}{x:Operand}{lo hi:Option Operand}{K:Sv U→Option α}{z:α}(h:aDv Y TI s (.slice t x lo hi none) K=some z):∃y,K y=some z∧MO P Y.C E s a w β (.slice t x lo hi none) y:=by
 simp only[aDv] at h
 split at h
 ·rename_i i k zz str h1 h2
  have ht:=(Nj (dM hTI h1) rfl).1
  split at h
  ·rename_i hh
   split at h
   ·rename_i n hn
    obtain⟨hg,h⟩:=kL h
    obtain⟨kk,hn⟩:=nD hn
    exact⟨_,h,aW8 r fun _=>bMs hg ht (vF h2) (dB hn)⟩
   ·cases h
  ·rename_i ll
   split at h
   ·rename_i n hn
    obtain⟨hg,h⟩:=kL h
    obtain⟨kk,hn⟩:=nD hn
    exact⟨_,h,aW8 r fun _=>bMt hg ht (vF h2) (dB hn)⟩
   ·cases h
  ·rename_i ll hh
   split at h
   ·rename_i m n hm hn
    obtain⟨hg,h⟩:=kL h
    obtain⟨kk,hn⟩:=nD hn
    obtain⟨kk',hm⟩:=nD hm
    exact⟨_,h,aW8 r fun _=>bMr hg ht (vF h2) (dB hm) (dB hn)⟩
   ·cases h
  ·cases h
 ·rename_i e ek eb k zz p h1 h2
  have hsl:=(Nk (dM hTI h1) rfl).1
  obtain⟨hu,ii,zz',hii,hz,hik,hib,hzk,hk0⟩:=iG hsl
  split at h
  ·rename_i τ l hr
   cases hoe:okE (U:=U) e ek τ with
   |false=>simp[hoe] at h
   |true=>
    simp only[hoe,cond_true] at h
    simp only[okE,Bool.and_eq_true] at hoe
    have he:e=τ:=Nat.eq_of_beq_eq_true hoe.1
    have hk:U.K τ=ek:=Nat.eq_of_beq_eq_true hoe.2
    subst he
    split at h
    ·split at h
     ·rename_i p' hs
      refine⟨_,h,aW9 r h2 hr hs 0 l.length (Nat.zero_le _) (Nat.le_refl _) (by simp) fun A c hA hc o ho w'=> ?_⟩
      simp[execOp,ho,hA,Instr.sliceAt,Instr.slice,run_underlying hu,Instr.sliceBounds,Instr.sliceBound,asIntOf,sizeOf,typeInfo,hii,hc]
     ·cases h
    ·rename_i hh
     split at h
     ·rename_i n p' hn hs
      obtain⟨hg,h⟩:=kL h
      rw[hn] at hs
      obtain⟨kk,hn'⟩:=nD hn
      have hnv:a.eval hh= .int kk n:=(vG r hn').1
      refine⟨_,h,aW9 r h2 hr hs 0 n.toNat (Nat.zero_le _) hg.2 (by simp) fun A c hA hc o ho w'=> ?_⟩
      have e1:(0≤n∧n≤(c:Int)):=⟨hg.1,by have:=hg.2;have:=hg.1;omega⟩
      simp[execOp,ho,hA,hnv,Instr.sliceAt,Instr.slice,run_underlying hu,Instr.sliceBounds,Instr.sliceBound,asIntOf,e1,sizeOf,typeInfo,hii]
     ·cases h
    ·rename_i bb
     split at h
     ·rename_i n p' hn hs
      obtain⟨hg,h⟩:=kL h
      rw[hn] at hs
      obtain⟨kk,hn'⟩:=nD hn
      have hnv:a.eval bb= .int kk n:=(vG r hn').1
      refine⟨_,h,aW9 r h2 hr hs n.toNat l.length hg.2 (Nat.le_refl _) (by simp) fun A c hA hc o ho w'=> ?_⟩
      have e1:(0≤n∧n≤(l.length:Int)):=⟨hg.1,by have:=hg.2;have:=hg.1;omega⟩
      simp[execOp,ho,hA,hnv,Instr.sliceAt,Instr.slice,run_underlying hu,Instr.sliceBounds,Instr.sliceBound,asIntOf,e1,sizeOf,typeInfo,hii,hik,hk]
     ·cases h
    ·rename_i bb hh
     split at h
     ·rename_i n m p' hn hm hs
      obtain⟨hg,h⟩:=kL h
      rw[hn,hm] at hs
      obtain⟨kk,hn'⟩:=nD hn
      obtain⟨kk',hm'⟩:=nD hm
      have hnv:a.eval bb= .int kk n:=(vG r hn').1
      have hmv:a.eval hh= .int kk' m:=(vG r hm').1
      obtain⟨g1,g2,g3,g4⟩:=hg
      refine⟨_,h,aW9 r h2 hr hs n.toNat m.toNat (by omega) g4 (by simp) fun A c hA hc o ho w'=> ?_⟩
      have e1:(0≤m∧m≤(c:Int)):=⟨g3,by omega⟩
      have e2:(0≤n∧n≤((m.toNat:Nat):Int)):=⟨g1,by omega⟩
      simp[execOp,ho,hA,hnv,hmv,Instr.sliceAt,Instr.slice,run_underlying hu,Instr.sliceBounds,Instr.sliceBound,asIntOf,e1,e2,sizeOf,typeInfo,hii,hik,hk]
      intro hh;exfalso;omega
     ·cases h
  ·cases h
 ·cases h
end
end Go.EV

namespace Go.EV
open Go.RowKit Go.VK
variable {U:Uni} {Y:Lay U} {TI:List (Nat×TInfo)} {P:Program} {g:GI} {E:Env U g}
section
variable {s:St U} {a:Act} {w:World} {β:List Tr} {α:Type}
theorem bIk (r:bY Y.C E s a w β){x y:Operand}{c:Nat}{k:IntKind}{m n:Int}{t u:TypeId}(hc:Km s x= .l (.nat c))(hx:gH s x= .l (.int k m))(hy:gH s y= .l (.int k n)):MO P Y.C E s a w β (.binOp .lss t x y u) (.l (.lt c n)):=fun o ho=>by
 obtain⟨v,h1,h2⟩:=lL (P:=P) r (fun _=>lss (t:=t) (u:=u) (dB hx) (dB hy)) o ho
 refine⟨v,h1,?_⟩
 have hm:=jK r (x:=x)
 rw[hc] at hm
 obtain⟨i,f,k1,k2,k3⟩:=hm
 have hk:k= .i64∧m=(i:Int):=by
  have:=(vG r hx).1
  rw[k2] at this;injection this with e1 e2;exact⟨e1.symm,e2.symm⟩
 obtain⟨rfl,rfl⟩:=hk
 have hn:=(vG r hy).2.2
 exact⟨i,f,k1,h2,by simpa[IntKind.max,IntKind.signed,IntKind.bits] using hn⟩
theorem bGc (r:bY Y.C E s a w β){t:TypeId}{e ek eb:Nat}(hsl:slB P t e ek eb=true){x y:Operand}{i q0:Nat}{τ:Nat}{d:Bool}{l:List (U.El τ)}{rv cv:Nat}{k:IntKind}{q:Int}{z:U.El τ}(hx:gH s x= .l (.own i q0))(hy:gH s y= .l (.int k q))
  (ho:s.m.o[i]? =some ⟨.tree τ d l,rv,cv⟩) (hr:rv=q0) (hk:U.K τ=ek) (hz:aP l q=some z):MO P Y.C E s a w β (.indexAddr t x y) (.l (.oel i cv τ q z 0)):=fun o hop=>by
 obtain⟨hu,ii,zz,hii,hzz,hik,hib,hzk,hk0⟩:=iG hsl
 obtain⟨h0,hq⟩:=V9 hz
 have hm:=vG r hx
 obtain⟨_,e',t',k1,k2,k3⟩:=hm
 rw[ho] at k1;injection k1 with k1;subst k1
 have hv:=k3 hr
 have hyv:a.eval y= .int k q:=(vG r hy).1
 have hok:=r.hp.ok i t' _ k2 ho
 obtain⟨_,xs,c1,_⟩:=hok
 have hlt:q.toNat<l.length:=lt_of_some hq
 rcases fQ c1 with⟨_,b2,_⟩|⟨b,cur,b1,b2,_⟩
 ·omega
 ·have hval:a.eval x= .slice (some ⟨b,0,none⟩) l.length t'.c:=by rw[hv];simp[Tr.val,b1,b2]
  refine⟨.pointer (some (Addr.add ⟨b,0,none⟩ (q.toNat*ek))),fun w' _=> ?_,⟨⟨(r.hp.vers i _ ho).2,rfl⟩,⟨.tree τ d l,rv,cv⟩,t',ho,k2,fun _=>⟨d,l,b,rfl,h0,hq,b1,?_⟩⟩⟩
  ·have hmn:q.toNat<l.length:=hlt
   simp[execOp,hop,hval,hyv,Instr.indexAt,asIntOf,run_underlying hu,sizeOf,typeInfo,hii,hik,h0,hmn]
   intro hh;exfalso;omega
  ·rw[kU,hk];simp
theorem bGd (hTI:Ao P TI=true)(r:bY Y.C E s a w β){ta tb:TypeId}{x:Operand}{ek eb k1 k2 k3:Nat}{z1 z2 z3:List Kz}{p:Lf U}{l:List (U.El Y.bt)}(h1:mE TI ta=some ⟨.sl Y.bt ek eb,k1,z1⟩)(h2:mE TI tb=some ⟨.str,k2,z2⟩)(h4:mE TI Y.bt=some ⟨.int .u8,k3,z3⟩)
  (hx:gH s x= .l p) (hr:mF s.m p=some (.sl Y.bt l)) (hg:l.length≤68719476736):MO P Y.C E s a w β (.convert ta tb x) (.l (.str (aDu (l.map Y.bi)))):=by
 have hK:U.K Y.bt=1:=by rw[←Y.C.hlen Y.bt (Y.be 0),Y.hb];rfl
 have henc:∀x,U.enc Y.bt x=[V.int .u8 (Y.bi x)]:=fun x=>by rw[←Y.C.hcel,Y.hb];rfl
 have hmap:l.map (U.enc Y.bt)=(l.map Y.bi).map fun n=>[V.int .u8 n]:=by rw[List.map_map];exact List.map_congr_left fun x _=>henc x
 refine aYz r false (fun E'=>b2s (iG (Nk (dM hTI h1) rfl).1).1 (Zn (dM hTI h4) rfl).1 (Nj (dM hTI h2) rfl).1 (ns:=l.map Y.bi) (by rw[List.length_map];unfold maxLen;omega) ?_) fun v hv=>bJn hv
 have:=bJm (E':=E') hx hr
 rw[hK,hmap] at this
 exact this
theorem aY6 {α:Type}{q:Int}{F:Nat→Option α}{z:α}:∀{n:Nat},brA q F n=some z→∃j,j<n∧q=(j:Int)∧F j=some z
 |0,h=>by cases h
 |n+1,h=>by
  have h:(bif decide (q=(n:Int)) then F n else brA q F n)=some z:=h
  by_cases hq:q=(n:Int)
  ·rw[decide_eq_true hq] at h;exact⟨n,Nat.lt_succ_self _,hq,h⟩
  ·rw[decide_eq_false hq] at h
   obtain⟨j,h1,h2,h3⟩:=aY6 h
   exact⟨j,by omega,h2,h3⟩
theorem Zo (hTI:Ao P TI=true)(r:bY Y.C E s a w β){op:Op}{K:Sv U→Option α}{z:α}(h:aDv Y TI s op K=some z):∃x,K x=some z∧MO P Y.C E s a w β op x:=by
 unfold aDv at h
 split at h
 ·rename_i b t x y u
  generalize hx:gH s x=vx at h
  generalize hy:gH s y=vy at h
  split at h
  ·rename_i k m k' n
   split at h
   ·split at h
    ·rename_i he;subst he
     split at h
     ·rename_i c hc;exact⟨_,h,bIk r hc hx hy⟩
     ·exact⟨_,h,lL r fun _=>lss (dB hx) (dB hy)⟩
    ·cases h
   ·split at h
    ·rename_i he;subst he
     obtain⟨hg,h⟩:=kL h
     exact⟨_,h,jV r fun _=>quo hg (dB hx) (dB hy)⟩
    ·cases h
   ·split at h
    ·rename_i he;subst he
     obtain⟨hg,h⟩:=kL h
     exact⟨_,h,jV r fun _=>rem hg (dB hx) (dB hy)⟩
    ·cases h
   ·obtain⟨hg,h⟩:=kL h
    exact⟨_,h,jV r fun _=>bMo hg (dB hx) (dB hy)⟩
   ·obtain⟨hg,h⟩:=kL h
    exact⟨_,h,jV r fun _=>bMp hg (dB hx) (dB hy)⟩
   ·split at h
    ·rename_i he;subst he
     split at h
     ·rename_i z' hz;exact⟨_,h,aNu r hx hy hz⟩
     ·cases h
    ·cases h
  ·rename_i m n
   split at h
   ·obtain⟨hg,h⟩:=kL h
    exact⟨_,h,aW8 r fun _=>bMf hg (vF hx) (vF hy)⟩
   ·split at h
    ·rename_i z' hz;exact⟨_,h,aNv r hx hy hz⟩
    ·cases h
  ·split at h
   ·rename_i z' hz
    refine⟨_,h,bEd hTI r ?_⟩
    rw[hx,hy];exact hz
   ·cases h
 ·rename_i t x y
  split at h
  ·rename_i e ek eb k zz p kk q h1 h2 h3
   have hsl:=(Nk (dM hTI h1) rfl).1
   split at h
   ·rename_i τ l
    cases hoe:okE (U:=U) e ek τ with
    |false=>simp[hoe] at h
    |true=>
     simp only[hoe,cond_true] at h
     simp only[okE,Bool.and_eq_true] at hoe
     have he:e=τ:=Nat.eq_of_beq_eq_true hoe.1
     have hk:U.K τ=ek:=Nat.eq_of_beq_eq_true hoe.2
     subst he;subst hk
     obtain⟨c,hc,h⟩:=aC h
     refine⟨_,h,aYz r true (fun _=>ixq hc hsl (bLl h2) (dB h3 true)) fun v hv=> ?_⟩
     show Rd w (E.X β) [] v (.elem ((U.enc e c).drop 0))
     rw[List.drop_zero]
     exact hv.conv (Nat.le_refl _) (fun b _ hb=>⟨rfl,hb⟩) (fun _ _ _ h=>h) (fun _ _ h=>h)
   ·rename_i i q0
    split at h
    ·rename_i τ d l rv cv ho
     rw[bC] at ho
     cases hoe:(Nat.beq rv q0&&okE (U:=U) e ek τ) with
     |false=>rw[hoe] at h;cases h
     |true=>
      rw[hoe] at h
      simp only[cond_true] at h
      simp only[okE,Bool.and_eq_true] at hoe
      obtain⟨c,hc,h⟩:=aC h
      exact⟨_,h,bGc r hsl h2 h3 ho (Nat.eq_of_beq_eq_true hoe.1) (Nat.eq_of_beq_eq_true hoe.2.2) hc⟩
    ·cases h
   ·cases h
  ·rename_i k zz b0 off kk q h1 h2 h3
   obtain⟨j,hj,hq,h'⟩:=aY6 h
   subst hq
   clear h
   split at h'
   ·rename_i y' hz
    rcases(aI5 (dM hTI h1) rfl).2.2 with⟨hne,_⟩|⟨_,har⟩
    ·exact absurd rfl hne
    ·obtain⟨v',q1,q2⟩:=aW5 r kk har hj (vG r h2) hz
     have hv:a.eval y= .int kk (j:Int):=(vG r h3).1
     exact⟨_,h',fun o ho=>⟨v',fun w' _=>by simp[execOp,ho,hv,q1],q2⟩⟩
   ·cases h'
  ·cases h
 ·rename_i t x y
  split at h
  ·rename_i k zz z' kk q h1 h2 h3
   obtain⟨c,hc,h⟩:=aC h
   exact⟨_,h,jV r fun _=>bMq hc (Nj (dM hTI h1) rfl).1 (vF h2) (dB h3)⟩
  ·cases h
 ·exact aY5 hTI r (by unfold aDv;exact h)
 ·rename_i ta tb x
  split at h
  ·rename_i e ek eb k1 z1 k2 z2 p h1 h2 h3
   split at h
   ·rename_i τ l k3 z3 hr h4
    split at h
    ·rename_i l' hs
     obtain⟨rfl,hl⟩:=mH hs
     have hl:=eq_of_heq hl;subst hl
     cases hb:Nat.beq e Y.bt with
     |false=>rw[hb] at h;cases h
     |true=>
      rw[hb] at h
      obtain⟨hg,h⟩:=kL h
      have he:=Nat.eq_of_beq_eq_true hb
      subst he
      refine⟨_,h,bGd hTI r h1 h2 h4 h3 hr hg⟩
    ·cases h
   ·cases h
  ·split at h
   ·rename_i x' hx
    exact⟨x',h,aVh hTI r hx⟩
   ·cases h
 ·split at h
  ·rename_i x hx
   exact⟨x,h,aVh hTI r hx⟩
  ·cases h
end
end Go.EV

namespace Go.EV
open Go.RowKit Go.VK
variable {U:Uni} {Y:Lay U} {TI:List (Nat×TInfo)} {P:Program} {g:GI} {E:Env U g} {C:Cod U}
theorem Bf:∀{l:List Nat} {i:Nat},aJw i l=true↔i∈l
 |[],i=>by simp[aJw]
 |x::l,i=>by
  have e:aJw i (x::l)=cond (Nat.beq x i) true (aJw i l):=rfl
  rw[e,List.mem_cons]
  cases hb:Nat.beq x i with
  |true=>simp[(Nat.eq_of_beq_eq_true hb).symm]
  |false=>simp only[cond_false];rw[Bf];exact⟨.inr,fun h=>h.resolve_left (fun e=>by rw[e,show Nat.beq x x=true from Nat.beq_refl x] at hb;cases hb)⟩
theorem rD:∀{l:List Nat},dist l=true↔l.Nodup
 |[]=>by simp[dist]
 |x::l=>by
  have e:dist (x::l)=cond (aJw x l) false (dist l):=rfl
  rw[e,List.nodup_cons,←rD (l:=l),←Bf (l:=l)]
  cases aJw x l<;>simp
theorem Fq {k:Nat}:∀{ids:List Nat} {o:List (EO U)},(U9 k ids o).length=o.length
 |[],o=>rfl
 |i::ids,o=>by
  have e:U9 k (i::ids) o=upd (U9 k ids o) i ⟨.dead,k,k⟩:=rfl
  rw[e,cB,List.length_set,Fq]
theorem aDz {k:Nat}:∀{ids:List Nat} {o:List (EO U)} {j:Nat},j∈ids→j<o.length→(U9 k ids o)[j]? =some ⟨.dead,k,k⟩
 |[],o,j,h,_=>by simp at h
 |i::ids,o,j,h,hj=>by
  have e:U9 k (i::ids) o=upd (U9 k ids o) i ⟨.dead,k,k⟩:=rfl
  rw[e,cB]
  by_cases hij:i=j
  ·subst hij;rw[List.getElem?_set_self (by rw[Fq];exact hj)]
  ·rw[List.getElem?_set_ne hij];exact aDz (by rcases List.mem_cons.1 h with h|h;exact absurd h.symm hij;exact h) hj
theorem uQ {k:Nat}:∀{ids:List Nat} {o:List (EO U)} {j:Nat},j∉ids→(U9 k ids o)[j]? =o[j]?
 |[],o,j,_=>rfl
 |i::ids,o,j,h=>by
  have e:U9 k (i::ids) o=upd (U9 k ids o) i ⟨.dead,k,k⟩:=rfl
  rw[e,cB,List.getElem?_set_ne (fun e=>h (by simp[e])),uQ (fun hh=>h (by simp[hh]))]
def Zp:Tr:=⟨none,0,0,[]⟩
theorem mI:Zp.all=[]:=rfl
def aY7:List Nat→List Tr→List Tr
 |[],β=>β
 |i::ids,β=>(aY7 ids β).set i Zp
theorem aNw:∀{ids:List Nat} {β:List Tr},(aY7 ids β).length=β.length
 |[],_=>rfl
 |i::ids,β=>by simp[aY7,aNw]
theorem bCz:∀{ids:List Nat} {β:List Tr} {j:Nat},j∈ids→j<β.length→(aY7 ids β)[j]? =some Zp
 |[],_,j,h,_=>by simp at h
 |i::ids,β,j,h,hj=>by
  simp only[aY7]
  by_cases hij:i=j
  ·subst hij;rw[List.getElem?_set_self (by rw[aNw];exact hj)]
  ·rw[List.getElem?_set_ne hij];exact bCz (by rcases List.mem_cons.1 h with h|h;exact absurd h.symm hij;exact h) hj
theorem aNx:∀{ids:List Nat} {β:List Tr} {j:Nat},j∉ids→(aY7 ids β)[j]? =β[j]?
 |[],_,j,_=>rfl
 |i::ids,β,j,h=>by
  simp only[aY7]
  rw[List.getElem?_set_ne (fun e=>h (by simp[e])),aNx (fun hh=>h (by simp[hh]))]
section
variable {s:St U} {a:Act} {w w':World} {β:List Tr}
theorem bY.add (r:bY C E s a w β)(he:Ext w w')(bs:List (EO U×Tr))(hv:∀x∈bs,x.1.rv≤s.m.k∧x.1.cv≤s.m.k)(hb:∀x∈bs,∀b∈x.2.all,w.heap.size≤b∧b<w'.heap.size)
  (hnd:((bs.map fun x=>x.2.all).flatten).Nodup)
  (hok:Evo w w' (E.X β) (E.X (β++bs.map (·.2))) β (β++bs.map (·.2)) s.m ⟨s.m.o++bs.map (·.1),s.m.k,s.m.ns⟩ s.m.o.length s.m.ns.length s.m.k→∀x∈bs,x.1.ob.ok C w' (E.X (β++bs.map (·.2))) (β++bs.map (·.2)) ⟨s.m.o++bs.map (·.1),s.m.k,s.m.ns⟩ x.2):
  bY C E ⟨s.t,⟨s.m.o++bs.map (·.1),s.m.k,s.m.ns⟩,s.fr⟩ a w' (β++bs.map (·.2)):=by
 have hlen:=r.hp.len
 have hget:∀(j:Nat) (t:Tr),s.m.o.length≤j→(β++bs.map (·.2))[j]? =some t→∃x,bs[j-s.m.o.length]? =some x∧t=x.2:=fun j t hj ht=>by
  rw[List.getElem?_append_right (by omega),hlen,List.getElem?_map] at ht
  cases hx:bs[j-s.m.o.length]? with
  |none=>simp[hx] at ht
  |some x=>simp only[hx,Option.map_some,Option.some.injEq] at ht;exact⟨x,rfl,ht.symm⟩
 have hgeto:∀(j:Nat) (e:EO U),s.m.o.length≤j→(s.m.o++bs.map (·.1))[j]? =some e→∃x,bs[j-s.m.o.length]? =some x∧e=x.1:=fun j e hj ht=>by
  rw[List.getElem?_append_right hj,List.getElem?_map] at ht
  cases hx:bs[j-s.m.o.length]? with
  |none=>simp[hx] at ht
  |some x=>simp only[hx,Option.map_some,Option.some.injEq] at ht;exact⟨x,rfl,ht.symm⟩
 have hF:∀{j:Nat},(False∨s.m.o.length≤j)→s.m.o.length≤j:=fun h=>h.resolve_left id
 have hpw:∀(i j:Nat) (x y:EO U×Tr) (b:Nat),i≠j→bs[i]? =some x→bs[j]? =some y→b∈x.2.all→b∉y.2.all:=fun i j x y b hij hx hy hbx hby=>by
  have hp:=(List.pairwise_flatten.1 hnd).2
  rw[List.pairwise_map] at hp
  have:=List.pairwise_iff_getElem.1 hp
  obtain⟨l1,e1⟩:=List.getElem?_eq_some_iff.1 hx
  obtain⟨l2,e2⟩:=List.getElem?_eq_some_iff.1 hy
  rcases Nat.lt_or_gt_of_ne hij with h|h
  ·exact this i j l1 l2 h b (by rw[e1];exact hbx) b (by rw[e2];exact hby) rfl
  ·exact this j i l2 l1 h b (by rw[e2];exact hby) b (by rw[e1];exact hbx) rfl
 obtain⟨h1,h2⟩:=r.hp.step (s':=⟨s.m.o++bs.map (·.1),s.m.k,s.m.ns⟩) (β':=β++bs.map (·.2)) (w':=w') (fun _=>False) (fun _=>False) (Nat.le_refl _) (fun _ _ f h=>⟨f,h⟩) r.hp.cnt (by simp[hlen]) (by simp) he.size he.os he.tape he.output
  (fun b hb _=>he.block b hb) (fun _ h=>h.elim) (fun i _ hi=>⟨by rw[List.getElem?_append_left hi],by rw[List.getElem?_append_left (by rw[hlen];exact hi)]⟩)
  (fun j t b hj ht hbt=>by
   obtain⟨x,hx,rfl⟩:=hget j t (hF hj) ht
   have:=hb x (List.mem_of_getElem? hx) b hbt
   exact⟨this.2, .inl this.1⟩)
  (fun i j t u b hi hj hij ht hu hbt hbu=>by
   obtain⟨x,hx,rfl⟩:=hget i t (hF hi) ht
   obtain⟨y,hy,rfl⟩:=hget j u (hF hj) hu
   exact hpw _ _ x y b (by have:=hF hi;have:=hF hj;omega) hx hy hbt hbu)
  (fun j t hj ht=>by
   obtain⟨x,hx,rfl⟩:=hget j t (hF hj) ht
   exact(List.pairwise_flatten.1 hnd).1 _ (List.mem_map.2 ⟨x,List.mem_of_getElem? hx,rfl⟩))
  (fun j e hj he'=>by
   obtain⟨x,hx,rfl⟩:=hgeto j e (hF hj) he'
   exact hv x (List.mem_of_getElem? hx))
  (fun _ _ _ _ _ h=>h.elim)
  (fun hev j t e hj ht he'=>by
   obtain⟨x,hx,rfl⟩:=hget j t (hF hj) ht
   obtain⟨y,hy,rfl⟩:=hgeto j e (hF hj) he'
   rw[hx] at hy;injection hy with hy;subst hy
   exact hok hev x (List.mem_of_getElem? hx))
 exact r.go h1 h2
theorem bY.turn (r:bY C E s a w β){i:Nat}{J:List Nat}{e:EO U}{t t':Tr}{ob:Ob U}{rv:Nat}(hi:s.m.o[i]? =some e)(ht:β[i]? =some t)(hJ:(i::J).Nodup)
  (hsz:w.heap.size≤w'.heap.size) (hos:w'.os=w.os) (htape:w'.tape=w.tape) (hout:w'.output=w.output) (hheap:∀b,b<w.heap.size→b∉t.all→w'.heap[b]? =w.heap[b]?)
  (hnew:∀b∈t'.all,b<w'.heap.size∧(w.heap.size≤b∨b∈t.all∨∃j∈J,∃u,β[j]? =some u∧b∈u.all)) (hnd:t'.all.Nodup) (hrv:(rv=e.rv∧t'.val=t.val)∨rv=s.m.k+1)
  (hbox:ob.aAT=true→e.ob.aAT=true∧t'.b=t.b)
  (hok:∀(β':List Tr) (m':Mm U),Evo w w' (E.X β) (E.X β') β β' s.m m' s.m.o.length s.m.ns.length s.m.k→ob.ok C w' (E.X β') β' m' t'):
  ∃β',bY C E ⟨s.t,⟨U9 (s.m.k+1) J (upd s.m.o i ⟨ob,rv,s.m.k+1⟩),s.m.k+1,s.m.ns⟩,s.fr⟩ a w' β'∧β'[i]? =some t'∧Evo w w' (E.X β) (E.X β') β β' s.m ⟨U9 (s.m.k+1) J (upd s.m.o i ⟨ob,rv,s.m.k+1⟩),s.m.k+1,s.m.ns⟩ s.m.o.length s.m.ns.length s.m.k:=by
 have hiJ:i∉J:=(List.nodup_cons.1 hJ).1
 have hil:i<s.m.o.length:=lt_of_some hi
 have hlen:=r.hp.len
 let o':=U9 (s.m.k+1) J (upd s.m.o i ⟨ob,rv,s.m.k+1⟩)
 let β':=aY7 J (β.set i t')
 have hol:o'.length=s.m.o.length:=by simp only[o',Fq,cB,List.length_set]
 have hbl:β'.length=β.length:=by simp only[β',aNw,List.length_set]
 have ho_i:o'[i]? =some ⟨ob,rv,s.m.k+1⟩:=by simp only[o'];rw[uQ hiJ,cB,List.getElem?_set_self hil]
 have hb_i:β'[i]? =some t':=by simp only[β'];rw[aNx hiJ,List.getElem?_set_self (by rw[hlen];exact hil)]
 have ho_J:∀j∈J,j<s.m.o.length→o'[j]? =some ⟨.dead,s.m.k+1,s.m.k+1⟩:=fun j hj hl=>aDz hj (by rw[cB,List.length_set];exact hl)
 have hb_J:∀j∈J,j<s.m.o.length→β'[j]? =some Zp:=fun j hj hl=>bCz hj (by rw[List.length_set,hlen];exact hl)
 have ho_n:∀j,j≠i→j∉J→o'[j]? =s.m.o[j]? :=fun j h1 h2=>by simp only[o'];rw[uQ h2,cB,List.getElem?_set_ne (Ne.symm h1)]
 have hb_n:∀j,j≠i→j∉J→β'[j]? =β[j]? :=fun j h1 h2=>by simp only[β'];rw[aNx h2,List.getElem?_set_ne (Ne.symm h1)]
 have hcase:∀j,((j=i∨j∈J)∨s.m.o.length≤j)→j=i∨(j∈J∧j<s.m.o.length)∨s.m.o.length≤j:=fun j h=>by
  rcases h with(h|h)|h
  ·exact .inl h
  ·by_cases hl:j<s.m.o.length
   ·exact .inr (.inl ⟨h,hl⟩)
   ·exact .inr (.inr (by omega))
  ·exact .inr (.inr h)
 have htr:∀(j:Nat) (u:Tr),((j=i∨j∈J)∨s.m.o.length≤j)→β'[j]? =some u→(j=i∧u=t')∨u=Zp:=fun j u h hu=>by
  rcases hcase j h with rfl|⟨h1,h2⟩|h1
  ·rw[hb_i] at hu;injection hu with hu;exact .inl ⟨rfl,hu.symm⟩
  ·rw[hb_J j h1 h2] at hu;injection hu with hu;exact .inr hu.symm
  ·have:=lt_of_some hu;omega
 obtain⟨h1,h2⟩:=r.hp.step (s':=⟨o',s.m.k+1,s.m.ns⟩) (β':=β') (w':=w') (fun j=>j=i∨j∈J) (fun b=>b∈t.all∨∃j∈J,∃u,β[j]? =some u∧b∈u.all) (Nat.le_succ _) (fun _ _ f h=>⟨f,h⟩) r.hp.cnt (by rw[hbl,hol,hlen]) (by rw[hol];exact Nat.le_refl _) hsz hos htape hout
  (fun b hb hn=>hheap b hb (fun h=>hn (.inl h)))
  (fun b hb=>by
   rcases hb with hb|⟨j,hj,u,hu,hub⟩
   ·exact⟨i,t, .inl rfl,ht,hb⟩
   ·exact⟨j,u, .inr hj,hu,hub⟩)
  (fun j hj _=>⟨ho_n j (fun e=>hj (.inl e)) (fun e=>hj (.inr e)),hb_n j (fun e=>hj (.inl e)) (fun e=>hj (.inr e))⟩)
  (fun j u b hj hu hb=>by
   rcases htr j u hj hu with⟨_,rfl⟩|rfl
   ·obtain⟨q1,q2⟩:=hnew b hb
    refine⟨q1,q2.imp id fun q=> ?_⟩
    rcases q with q|⟨j',hj',u',hu',hub'⟩
    ·exact⟨i,t, .inl rfl,ht,q⟩
    ·exact⟨j',u', .inr hj',hu',hub'⟩
   ·simp[mI] at hb)
  (fun j j' u u' b hj hj' hjj hu hu' hb hb'=>by
   rcases htr j u hj hu with⟨e1,rfl⟩|rfl
   ·rcases htr j' u' hj' hu' with⟨e2,rfl⟩|rfl
    ·exact hjj (e1.trans e2.symm)
    ·simp[mI] at hb'
   ·simp[mI] at hb)
  (fun j u hj hu=>by
   rcases htr j u hj hu with⟨_,rfl⟩|rfl
   ·exact hnd
   ·rw[mI];exact List.nodup_nil)
  (fun j e' hj he'=>by
   rcases hcase j hj with rfl|⟨q1,q2⟩|q
   ·rw[ho_i] at he';injection he' with he';subst he'
    refine⟨?_,Nat.le_refl _⟩
    rcases hrv with⟨h,_⟩|h
    ·have:=(r.hp.vers _ e hi).1;simp only;omega
    ·simp only;omega
   ·rw[ho_J j q1 q2] at he';injection he' with he';subst he';exact⟨Nat.le_refl _,Nat.le_refl _⟩
   ·have:=lt_of_some he';simp only at this;omega)
  (fun j e0 e' u u' hj he0 he' hu hu'=>by
   rcases hj with rfl|hj
   ·rw[ho_i] at he';injection he' with he';subst he'
    rw[hi] at he0;injection he0 with he0;subst he0
    rw[ht] at hu;injection hu with hu;subst hu
    rw[hb_i] at hu';injection hu' with hu';subst hu'
    refine⟨fun hle=> ?_,Nat.lt_succ_self _,hbox⟩
    rcases hrv with h|h
    ·exact h
    ·simp only at hle;omega
   ·have hl:=lt_of_some he0
    rw[ho_J j hj hl] at he';injection he' with he';subst he'
    exact⟨fun hle=>by simp only at hle;omega,Nat.lt_succ_self _,fun h=>by cases h⟩)
  (fun hev j u e' hj hu he'=>by
   rcases hcase j hj with rfl|⟨q1,q2⟩|q
   ·rw[ho_i] at he';injection he' with he';subst he'
    rw[hb_i] at hu;injection hu with hu;subst hu
    exact hok _ _ hev
   ·rw[ho_J j q1 q2] at he';injection he' with he';subst he';trivial
   ·have:=lt_of_some he';simp only at this;omega)
 exact⟨β',r.go h1 h2,hb_i,h2⟩
def jG (β:List Tr)(ids:List Nat):List Nat:=(ids.map fun j=>match β[j]? with|some t=>t.all|none=>[]).flatten
theorem qV {ids:List Nat}{b:Nat}(h:b∈jG β ids):∃j∈ids,∃u,β[j]? =some u∧b∈u.all:=by
 simp only[jG,List.mem_flatten,List.mem_map] at h
 obtain⟨l,⟨j,hj,rfl⟩,hb⟩:=h
 cases hu:β[j]? with
 |none=>simp[hu] at hb
 |some u=>simp only[hu] at hb;exact⟨j,hj,u,hu,hb⟩
theorem aMw (H:Hp C E s.m β w){ids:List Nat}(h:ids.Nodup):(jG β ids).Nodup:=by
 unfold jG
 refine List.pairwise_flatten.2 ⟨fun l hl=> ?_,?_⟩
 ·obtain⟨j,_,rfl⟩:=List.mem_map.1 hl
  cases hu:β[j]? with
  |none=>exact List.nodup_nil
  |some u=>exact H.nd j u hu
 ·rw[List.pairwise_map]
  refine h.imp fun {j j'} hjj b hb b' hb'=> ?_
  rintro rfl
  cases hu:β[j]? with
  |none=>simp[hu] at hb
  |some u=>
   cases hu':β[j']? with
   |none=>simp[hu'] at hb'
   |some u'=>simp only[hu] at hb;simp only[hu'] at hb';exact H.dist j j' u u' b hjj hu hu' hb hb'
theorem Y1 {i j:List Nat}:jG β (i++j)=jG β i++jG β j:=by simp[jG]
theorem aVi (H:Hp C E s.m β w){kd:Kd}{x y:Lf U}{ids:List Nat}{d:Bool}(h:bBa s.m kd x=some (y,ids,d)){v:Value}(hm:x.mean C w (E.X β) β s.m v)(hK:∀τ,kd= .sl τ→0<U.K τ):Ow C w (E.X β) d v y (jG β ids):=by
 have flat:∀{x:Lf U},x.mean C w (E.X β) β s.m v→mG x=true→(∀τ l,x≠ .sl τ l)→(match mF s.m x with|some y=>some (y,([]:List Nat),true)|none=>none)=some (y,ids,d)→Ow C w (E.X β) d v y (jG β ids):=fun {x} hm hf hns h=>by
  cases hr:mF s.m x with
  |none=>simp[hr] at h
  |some y'=>
   simp only[hr,Option.some.injEq,Prod.mk.injEq] at h
   obtain⟨rfl,rfl,rfl⟩:=h
   have:=(rC H hm hr (Z:=fun _=>False) (fun _ h=>h.elim) (.inl hf)).2
   have hb:jG β []=[]:=rfl
   rw[hb]
   cases x with
   |int k n=>simp only[mF,Option.some.injEq] at hr;subst hr;obtain⟨rfl,h1,h2⟩:=this.aAP;exact .int h1 h2
   |bool k=>simp only[mF,Option.some.injEq] at hr;subst hr;obtain rfl:=this.aAS;exact .bool
   |str k=>simp only[mF,Option.some.injEq] at hr;subst hr;obtain⟨rfl,h1⟩:=this.aAR;exact .str h1
   |nat c=>
    simp only[mF] at hr
    split at hr
    ·simp only[Option.some.injEq] at hr;subst hr;obtain⟨rfl,h1,h2⟩:=this.aAP;exact .int h1 h2
    ·cases hr
   |lt c n=>
    simp only[mF] at hr
    split at hr
    ·simp only[Option.some.injEq] at hr;subst hr;obtain rfl:=this.aAS;exact .bool
    ·cases hr
   |sl τ l=>exact absurd rfl (hns τ l)
   |own=>cases hf
   |bor=>cases hf
   |inn=>cases hf
   |_=>cases hr
 cases x with
 |nil=>
  obtain rfl:=hm
  cases kd with
  |sl τ=>
   simp only[bBa,Option.some.injEq,Prod.mk.injEq] at h
   obtain⟨rfl,rfl,rfl⟩:=h
   exact .sl Zp (hK τ rfl) (World.ownsRow_nil w 0 τ (U.K τ)) .n
  |_=>cases h
 |sl τ l=>
  simp only[bBa,Option.some.injEq,Prod.mk.injEq] at h
  obtain⟨rfl,rfl,rfl⟩:=h
  exact .fz rfl hm
 |own i q=>
  obtain⟨_,e,t,k1,k2,k3⟩:=hm
  simp only[bBa,bC,k1] at h
  obtain⟨ob,rv,cv⟩:=e
  cases ob with
  |tree τ d' l=>
   cases hb:Nat.beq rv q with
   |false=>simp[hb] at h
   |true=>
    simp only[hb,cond_true,Option.some.injEq,Prod.mk.injEq] at h
    obtain⟨rfl,rfl,rfl⟩:=h
    rw[k3 (Nat.eq_of_beq_eq_true hb)]
    have:=Hp.tree H k2 k1 rfl
    simpa[jG,k2] using this
  |_=>cases h
 |bor=>cases h
 |inn=>cases h
 |int k n=>exact flat hm rfl (by simp) h
 |bool b=>exact flat hm rfl (by simp) h
 |str b=>exact flat hm rfl (by simp) h
 |nat c=>exact flat hm rfl (by simp) h
 |lt c n=>exact flat hm rfl (by simp) h
 |_=>cases h
theorem Ow.fl {X:Nat→Prop}{d d':Bool}{v:Value}{x:Lf U}{B:List Nat}(h:Ow C w X d v x B)(hd:d'=true→d=true):Ow C w X d' v x B:=by
 cases d' with
 |false=>exact h.soft
 |true=>rw[hd rfl] at h;exact h
theorem OwL.fl {X:Nat→Prop}{d d':Bool}{v:List Value}{x:List (Lf U)}{B:List Nat}(h:OwL C w X d v x B)(hd:d'=true→d=true):OwL C w X d' v x B:=by
 cases d' with
 |false=>exact h.soft
 |true=>rw[hd rfl] at h;exact h
theorem Tn (H:Hp C E s.m β w):∀{ks:List Kd} {xs ys:List (Lf U)} {ids:List Nat} {d:Bool} {vs:List Value},aNg s.m ks xs=some (ys,ids,d)→Ms C w (E.X β) β s.m vs xs→(∀kd∈ks,∀τ,kd= .sl τ→0<U.K τ)→OwL C w (E.X β) d vs ys (jG β ids)
 |[],[],ys,ids,d,vs,h,hM,_=>by
  simp only[aNg,Option.some.injEq,Prod.mk.injEq] at h
  obtain⟨rfl,rfl,rfl⟩:=h
  have:vs=[]:=List.eq_nil_of_length_eq_zero hM.1
  subst this;exact .n
 |[],_::_,_,_,_,_,h,_,_=>by cases h
 |_::_,[],_,_,_,_,h,_,_=>by cases h
 |kd::ks,x::xs,ys,ids,d,vs,h,hM,hK=>by
  simp only[aNg] at h
  cases h1:bBa s.m kd x with
  |none=>simp[h1] at h
  |some q=>
   obtain⟨y,i,d1⟩:=q
   cases h2:aNg s.m ks xs with
   |none=>simp[h1,h2] at h
   |some q2=>
    obtain⟨ys',is,ds⟩:=q2
    simp only[h1,h2,Option.some.injEq,Prod.mk.injEq] at h
    obtain⟨rfl,rfl,rfl⟩:=h
    match vs,hM with
    |[],hM=>have:=hM.1;simp at this
    |v::vs,hM=>
     rw[Y1]
     refine .c ((aVi H h1 (hM.2 0 v x rfl rfl) (hK kd (by simp))).fl (by simp;exact fun h _=>h)) ((Tn H h2 ⟨by have:=hM.1;simpa using this,fun i u c a b=>hM.2 (i+1) u c (by simpa using a) (by simpa using b)⟩ (fun kd' hk=>hK kd' (by simp[hk]))).fl (by simp))
end
end Go.EV

namespace Go.EV
open Go.RowKit Go.VK
variable {U:Uni} {Y:Lay U} {TI:List (Nat×TInfo)} {P:Program} {g:GI} {E:Env U g}
def kdL:Lf U→Option Kd
 | .int k _=>some (.int k)
 | .bool _=>some .bool
 | .str _=>some .str
 | .sl τ _=>some (.sl τ)
 |_=>none
structure LayOk (Y:Lay U):Prop where
 kds:∀(τ:Nat) (x:U.El τ),(Y.C.cel τ x).map kdL=(Y.kd τ).map some
 pos:∀(τ τ':Nat),Kd.sl τ'∈Y.kd τ→0<U.K τ'
section
variable {s:St U} {a:Act} {w:World} {β:List Tr} {α:Type}
def SO (P:Program)(C:Cod U)(E:Env U g)(a:Act)(w:World)(o:Oper)(x:Sv U)(s':St U)(e:Bool):Prop:=
 ∀(K:Act→World→Prop) (Q:Exit→Act→World→Prop),(∀v w' β',bY C E s' a w' β'→(o.dst≠none→x.mean C w' (E.X β') β' s'.m v)→(e=true→Ext w w')→K (a.put o.dst v) w')→o.wp P a w K Q
theorem SO.aCB (r:bY Y.C E s a w β){o:Oper}{x:Sv U}(h:MO P Y.C E s a w β o.op x):SO P Y.C E a w o x s true:=fun K Q hK=>by
 obtain⟨v,h1,h2⟩:=h o rfl
 exact wpo (.inl (h1 w (Ext.refl w))) (hK v w β r (fun _=>h2) (fun _=>Ext.refl w))
theorem SO.soft {o:Oper}{x:Sv U}{s':St U}{e:Bool}{C:Cod U}(h:SO P C E a w o x s' e):SO P C E a w o x s' false:=fun K Q hK=>h K Q fun v w' β' h1 h2 _=>hK v w' β' h1 h2 (fun h=>by cases h)
theorem bGe (w:World)(cs:Array Value)(T:Nat):(w.alloc (.cells cs T)).heap[w.heap.size]? =some (.cells cs T (0,0)):=by simpa using heap_alloc_new w _
theorem bY.aBR (r:bY Y.C E s a w β){T:Nat}{vs:Array Value}{cs:List (Lf U)}(hM:Ms Y.C w (E.X β) β s.m vs.toList cs):
  ∃β',bY Y.C E (psh s (.box T cs (cs.map fun _=>s.m.k))) a (w.alloc (.cells vs T)) β'∧(Lf.box (len s.m.o) 0:Lf U).mean Y.C (w.alloc (.cells vs T)) (E.X β') β' (psh s (.box T cs (cs.map fun _=>s.m.k))).m (.pointer (some ⟨w.heap.size,0,none⟩)):=by
 have he:Ext w (w.alloc (.cells vs T)):=Ext.alloc _ _
 have r':=r.add he [(⟨.box T cs (cs.map fun _=>s.m.k),s.m.k,s.m.k⟩,⟨some w.heap.size,0,0,[]⟩)] (by simp) (by simp[Tr.all]) (by simp[Tr.all]) (fun hev x hx=>by
  simp at hx;subst hx
  exact⟨by simp,w.heap.size,vs.toList,rfl,rfl,by simpa using bGe w vs T,hM.go hev⟩)
 refine⟨_,r',rfl,⟨.box T cs (cs.map fun _=>s.m.k),s.m.k,s.m.k⟩,⟨some w.heap.size,0,0,[]⟩,?_,?_,fun _=>⟨_,rfl,rfl⟩⟩
 ·simp[psh,dA]
 ·rw[List.getElem?_append_right (by rw[r.hp.len,dA];exact Nat.le_refl _),r.hp.len,dA];simp
theorem bEf (r:bY Y.C E s a w β){o:Oper}{T:TypeId}{x:Operand}(ho:o.op= .box T x){cs:List (Lf U)}(hp:parts (Km s x)=some cs)(h1:Nf cs=true):
  SO P Y.C E a w o (.l (.box (len s.m.o) 0)) (psh s (.box T cs (cs.map fun _=>s.m.k))) true:=fun K Q hK=>by
 have hM:=(Fp (jK r (x:=x)) hp h1).1
 obtain⟨β',r1,r2⟩:=r.aBR (T:=T) hM
 refine wpo (w':=w.alloc (.cells (a.eval x).cells T)) (v:= .pointer (some ⟨w.heap.size,0,none⟩)) (.inl ?_) (hK _ _ β' r1 (fun _=>r2) (fun _=>Ext.alloc _ _))
 simp[execOp,ho,Instr.box,newVar,newRow]
theorem aY8 (hTI:Ao P TI=true)(r:bY Y.C E s a w β){o:Oper}{T:TypeId}{i:TInfo}(ho:o.op= .alloc T)(hf:mE TI T=some i):
  SO P Y.C E a w o (.l (.box (len s.m.o) 0)) (psh s (.box T (i.z.map Kz.lf) (i.z.map fun _=>s.m.k))) true:=fun K Q hK=>by
 obtain⟨j,z,k3,k4,k5⟩:=aMv (dM hTI hf)
 have hM:Ms Y.C w (E.X β) β s.m z.cells.toList (i.z.map Kz.lf):=Nl k5
 obtain⟨β',r1,r2⟩:=r.aBR (T:=T) hM
 have e:((i.z.map (Kz.lf:Kz→Lf U)).map fun _=>s.m.k)=i.z.map fun _=>s.m.k:=by simp
 rw[e] at r1 r2
 refine wpo (w':=w.alloc (.cells z.cells T)) (v:= .pointer (some ⟨w.heap.size,0,none⟩)) (.inl ?_) (hK _ _ β' r1 (fun _=>r2) (fun _=>Ext.alloc _ _))
 simp[execOp,ho,Instr.alloc,zeroValue,typeInfo,k3,k4,newVar,newRow]
theorem bY.aBU (r:bY Y.C E s a w β){τ n:Nat}{cells:Array Value}{l:List (U.El τ)}{d:Bool}(hk:0<U.K τ)(hn:l.length=n)(hm:n≤maxLen)(hsz:cells.size=n*U.K τ)
  (hO:OwL Y.C w (E.X β) d cells.toList (l.map (Y.C.cel τ)).flatten []):
  ∃β',bY Y.C E (psh s (.tree τ d l)) a (w.alloc (.cells cells τ)) β'∧(Lf.own (len s.m.o) s.m.k:Lf U).mean Y.C (w.alloc (.cells cells τ)) (E.X β') β' (psh s (.tree τ d l)).m (.slice (some ⟨w.heap.size,0,none⟩) n n):=by
 have he:Ext w (w.alloc (.cells cells τ)):=Ext.alloc _ _
 have r':=r.add he [(⟨.tree τ d l,s.m.k,s.m.k⟩,⟨some w.heap.size,n,n,[]⟩)] (by simp) (by simp[Tr.all]) (by simp[Tr.all]) (fun hev x hx=>by
  simp at hx;subst hx
  refine⟨hk,cells.toList,?_,hO.conv hev.sz hev.hX hev.hc (by simp)⟩
  rw[hn];exact World.ownsRow_lit w cells n (Nat.zero_le _) hm hsz)
 refine⟨_,r',⟨Nat.le_refl _,rfl⟩,⟨.tree τ d l,s.m.k,s.m.k⟩,⟨some w.heap.size,n,n,[]⟩,?_,?_,fun _=>rfl⟩
 ·simp[psh,dA]
 ·rw[List.getElem?_append_right (by rw[r.hp.len,dA];exact Nat.le_refl _),r.hp.len,dA];simp
theorem OwL.flatten {C:Cod U}{X:Nat→Prop}{d:Bool}:∀{vss:List (List Value)} {xss:List (List (Lf U))},vss.length=xss.length→(∀(i:Nat) (vs:List Value) (xs:List (Lf U)),vss[i]? =some vs→xss[i]? =some xs→OwL C w X d vs xs [])→OwL C w X d vss.flatten xss.flatten []
 |[],[],_,_=> .n
 |[],_::_,h,_=>by simp at h
 |_::_,[],h,_=>by simp at h
 |vs::vss,xs::xss,h,h1=>by
  have:=OwL.app (h1 0 vs xs rfl rfl) (OwL.flatten (vss:=vss) (xss:=xss) (by simpa using h) fun i vs xs a b=>h1 (i+1) vs xs (by simpa using a) (by simpa using b))
  simpa using this
theorem aY9 (hY:LayOk Y)(r:bY Y.C E s a w β){e:Nat}:∀{ks:List Kd} {zs:List Kz} {ds:List (Lf U)} {vs:List Value},rds s.m ks (zs.map Kz.lf)=some ds→bBh vs zs=true→(∀τ',Kd.sl τ'∈ks→0<U.K τ')→OwL Y.C w (E.X β) true vs ds []
 |[],[],ds,[],h,_,_=>by simp only[List.map_nil,rds,Option.some.injEq] at h;subst h;exact .n
 |[],_::_,_,_,h,_,_=>by cases h
 |_::_,[],_,_,h,_,_=>by cases h
 |_,[],_,_::_,_,h,_=>by cases h
 |_,_::_,_,[],_,h,_=>by cases h
 |kd::ks,z::zs,ds,v::vs,h,hz,hp=>by
  simp only[List.map_cons,rds] at h
  simp only[bBh,Bool.and_eq_true] at hz
  cases h1:rdn s.m kd (z.lf:Lf U) with
  |none=>simp[h1] at h
  |some y=>
   cases h2:rds s.m ks (zs.map (Kz.lf:Kz→Lf U)) with
   |none=>simp[h1,h2] at h
   |some ys=>
    simp only[h1,h2,Option.some.injEq] at h
    subst h
    have hm:(z.lf:Lf U).mean Y.C w (E.X β) β s.m v:=bCy hz.1
    have ho:Ow Y.C w (E.X β) true v y []:=by
     cases z with
     |int k=>simp only[Kz.lf,rdn,mF,Option.some.injEq] at h1;subst h1;obtain⟨rfl,q1,q2⟩:=hm;exact .int q1 q2
     |bool=>simp only[Kz.lf,rdn,mF,Option.some.injEq] at h1;subst h1;obtain rfl:=hm;exact .bool
     |str=>simp only[Kz.lf,rdn,mF,Option.some.injEq] at h1;subst h1;obtain⟨rfl,q1⟩:=hm;exact .str q1
     |nil=>
      obtain rfl:=hm
      cases kd with
      |sl τ=>
       simp only[Kz.lf,rdn,Option.some.injEq] at h1;subst h1
       exact .sl Zp (hp τ (by simp)) (World.ownsRow_nil w 0 τ (U.K τ)) .n
      |_=>cases h1
    have:=OwL.c ho (aY9 hY r (e:=e) h2 hz.2 (fun τ' hh=>hp τ' (by simp[hh])))
    simpa using this
theorem bEg {x y:Operand}(h:aNj x y=true):x=y:=by
 cases x<;>cases y<;>simp only[aNj] at h
 ·rw[Nat.eq_of_beq_eq_true h]
 all_goals first|cases h|skip
 rename_i v u
 split at h<;>simp_all
theorem bBj (hTI:Ao P TI=true)(hY:LayOk Y)(r:bY Y.C E s a w β){o:Oper}{t:TypeId}{x y:Operand}{e ek eb k:Nat}{zz:List Kz}{i:TInfo}{n:Int}{ds:List (Lf U)}{z:U.El e}(ho:o.op= .makeSlice t x y)
  (h1:mE TI t=some ⟨.sl e ek eb,k,zz⟩) (h2:mE TI e=some i) (h3:gH s x= .l (.int .i64 n)) (h4:aNj x y=true) (h5:Nat.ble eb 2048=true) (h6:okE (U:=U) e ek e=true) (h7:rds s.m (Y.kd e) (i.z.map Kz.lf)=some ds) (h8:Y.C.bld e ds=some z) (hg:Fa n):
  SO P Y.C E a w o (.l (.own (len s.m.o) s.m.k)) (psh s (.tree e true (List.replicate n.toNat z))) true:=fun K Q hK=>by
 have hsl:=(Nk (dM hTI h1) rfl).1
 obtain⟨hu',ii,zv,hii,hz',hik,hib,hzk,hk0⟩:=iG hsl
 obtain⟨j,zc,k3,k4,k5⟩:=aMv (dM hTI h2)
 rw[hii] at k3;injection k3 with k3;subst k3
 rw[hz'] at k4;injection k4 with k4;subst k4
 simp only[okE,Bool.and_eq_true] at h6
 have hKe:U.K e=ek:=Nat.eq_of_beq_eq_true h6.2
 have hb':eb≤2048:=Nat.le_of_ble_eq_true h5
 have hnn:((n.toNat:Nat):Int)=n:=Int.toNat_of_nonneg hg.1
 have hN:n.toNat≤68719476736:=by have:=hg.2;omega
 have hb:(ii.bytes:Int)*n≤281474976710656:=by
  have h:((ii.bytes*n.toNat:Nat):Int)≤281474976710656:=by
   rw[hib]
   have:eb*n.toNat≤2048*68719476736:=Nat.mul_le_mul hb' hN
   omega
  rw[Int.natCast_mul,hnn] at h;exact h
 have hxv:a.eval x= .int .i64 n:=(vG r h3).1
 have hyv:a.eval y= .int .i64 n:=by rw[←bEg h4];exact hxv
 have hrun:=run_make (P:=P) w t e ii zv hu' hii hz' .i64 .i64 n n hg.1 (Int.le_refl _) hb (by have:=hg.2;omega)
 rw[hik,←hKe] at hrun
 have hO:OwL Y.C w (E.X β) true zv.cells.toList (Y.C.cel e z) []:=by
  have:=aY9 hY r (e:=e) h7 k5 (fun τ' hh=>hY.pos e τ' hh)
  rw[Y.C.hmk e ds z h8] at this;exact this
 have hcells:(madeCells zv.cells (n.toNat*U.K e)).toList=(List.replicate n.toNat zv.cells.toList).flatten:=by
  apply List.ext_getElem?
  intro q
  have hKz:zv.cells.size=U.K e:=by rw[hzk,hKe]
  have hkp:0<U.K e:=by rw[hKe];exact hk0
  by_cases hq:q<n.toNat*U.K e
  ·obtain⟨q0,q1,hq1,rfl⟩:∃q0 q1,q1<U.K e∧q=q0*U.K e+q1:=⟨q/U.K e,q%U.K e,Nat.mod_lt _ hkp,by rw[Nat.mul_comm];exact(Nat.div_add_mod q _).symm⟩
   have hdiv:q0<n.toNat:=Nat.lt_of_mul_lt_mul_right (Nat.lt_of_le_of_lt (Nat.le_add_right _ _) hq)
   obtain⟨l1,l2,_,_,f3,f4⟩:=Tj (f:=fun(_:Unit)=>zv.cells.toList) (k:=U.K e) (fun _=>by simp[hKz]) (l:=List.replicate n.toNat ()) (i:=q0) (x:=()) (by rw[List.getElem?_replicate,if_pos hdiv])
   have em:((List.replicate n.toNat ()).map fun(_:Unit)=>zv.cells.toList)=List.replicate n.toNat zv.cells.toList:=by simp
   rw[em] at f3
   have hR:(List.replicate n.toNat zv.cells.toList).flatten[q0*U.K e+q1]? =zv.cells.toList[q1]? :=by
    rw[f3,←f4,List.getElem?_append_right (Nat.le_add_right _ _),Nat.add_sub_cancel_left,List.getElem?_append_left (by simp[hKz];exact hq1)]
   rw[hR]
   have hm:(q0*U.K e+q1)%U.K e=q1:=by rw[Nat.mul_comm,Nat.mul_add_mod];exact Nat.mod_eq_of_lt hq1
   simp only[madeCells,Array.toList_map,List.getElem?_map,Array.toList_range,List.getElem?_range hq,Option.map_some,hKz,hm]
   rw[getElem!_pos zv.cells q1 (by rw[hKz];exact hq1)]
   simp[hKz,hq1]
  ·rw[List.getElem?_eq_none (by simp[size_madeCells];omega),List.getElem?_eq_none (by simp[hKz];omega)]
 obtain⟨β',r1,r2⟩:=r.aBU (τ:=e) (n:=n.toNat) (cells:=madeCells zv.cells (n.toNat*U.K e)) (l:=List.replicate n.toNat z) (d:=true) (by rw[hKe];exact hk0) (by simp) (by unfold maxLen;omega) (size_madeCells _ _) (by
  rw[hcells,List.map_replicate]
  exact OwL.flatten (by simp) fun i vs xs q1 q2=>by
   rw[List.getElem?_replicate] at q1 q2
   split at q1
   ·rw[if_pos ‹_›] at q2
    injection q1 with q1;injection q2 with q2;subst q1;subst q2;exact hO
   ·cases q1)
 refine wpo (w':=w.alloc (.cells (madeCells zv.cells (n.toNat*U.K e)) e)) (v:= .slice (some ⟨w.heap.size,0,none⟩) n.toNat n.toNat) (.inl ?_) (hK _ _ β' r1 (fun _=>r2) (fun _=>Ext.alloc _ _))
 simp only[execOp,ho,hxv,hyv,Sem.run_bind,hrun,Result.andThen_ok,Sem.run_pure]
end
end Go.EV

namespace Go.EV
open Go.RowKit Go.VK
variable {U:Uni} {Y:Lay U} {TI:List (Nat×TInfo)} {P:Program} {g:GI} {E:Env U g}
section
variable {s:St U} {a:Act} {w:World} {β:List Tr} {α:Type}
theorem bC0 {t:Nat}{i:TInfo}(h:tiB P t i=true)(w:World):(sizeOf t).run P w= .ok i.k w:=by
 cases hi:i.u with
 |int k=>have:=Zn h hi;rw[this.2.2];exact(qF this.2.1).2
 |bool=>have:=aMu h hi;rw[this.2.2];exact(qF this.2.1).2
 |str=>have:=Nj h hi;rw[this.2.2];exact(qF this.2.1).2
 |sl e ek eb=>have:=Nk h hi;rw[this.2.2];exact(qF this.2.1).2
 |st fs=>exact(vC (aI5 h hi).1).2
theorem Y2 (hTI:Ao P TI=true)(r:bY Y.C E s a w β){o:Oper}{t:TypeId}{x y:Operand}{i:TInfo}{b off T rv cv:Nat}{cs ps:List (Lf U)}{us:List Nat}(ho:o.op= .store t x y)
  (h1:mE TI t=some i) (h2:gH s x= .l (.box b off)) (h3:parts (Km s y)=some ps) (h4:s.m.o[b]? =some ⟨.box T cs us,rv,cv⟩) (h5:ps.length=i.k) (h6:off+i.k≤cs.length) (h7:Nf ps=true):
  ∃(w':World) (β':List Tr) (t':Tr) (bb:Nat),(execOp a.eval o).run P w= .ok .skip w'∧bY Y.C E (trn s b (.box T (spl cs off ps) (spl us off (ps.map fun _=>Nat.succ s.m.k))) rv) a w' β'∧Evo w w' (E.X β) (E.X β') β β' s.m (trn s b (.box T (spl cs off ps) (spl us off (ps.map fun _=>Nat.succ s.m.k))) rv).m s.m.o.length s.m.ns.length s.m.k∧Bel (fun k=>k=bb) w w'∧β[b]? =some t'∧t'.b=some bb:=by
 have hti:=dM hTI h1
 obtain⟨hpm,hone⟩:=Fp (jK r (x:=y)) h3 h7
 have hxm:=vG r h2
 obtain⟨_,e',t',k1,k2,k3⟩:=hxm
 rw[h4] at k1;injection k1 with k1;subst k1
 obtain⟨bb,k4,k5⟩:=k3 rfl
 have hok:=r.hp.ok b t' _ k2 h4
 obtain⟨q0,b',vs,q1,q2,q3,q4⟩:=hok
 rw[k4] at q1;injection q1 with q1;subst q1
 have hl:off+(a.eval y).cells.toList.length≤vs.length:=by rw[hpm.1,h5,q4.1];exact h6
 have hrun:=aU9 (P:=P) (T:=T) (t:=t) (b:=bb) (off:=off) (cur:=vs) (vs:=(a.eval y).cells.toList) (v:=a.eval y) (w:=w) (by simp) (by rw[hpm.1,h5];exact bC0 hti w) q3 hl hone
 obtain⟨f1,f2,f3,f4,f5⟩:=V4 w bb (vs.take off++(a.eval y).cells.toList++vs.drop (off+(a.eval y).cells.toList.length)).toArray
 obtain⟨β',r1,_,hev⟩:=r.turn (J:=[]) (ob:= .box T (spl cs off ps) (spl us off (ps.map fun _=>Nat.succ s.m.k))) (rv:=rv) (t':=t') h4 k2 (by simp) (by rw[f1];exact Nat.le_refl _) f2 f3 f4
  (fun k _ hk=>f5 k (fun e=>hk (by rw[e];exact Tr.root k4))) (fun k hk=>⟨by rw[f1];exact(r.hp.new b t' k k2 hk).2, .inr (.inl hk)⟩) (r.hp.nd b t' k2) (.inl ⟨rfl,rfl⟩) (fun _=>⟨rfl,rfl⟩) (fun β' m' hev=>by
   have hcs:(spl cs off ps).length=cs.length:=by
    rw[Ni _ _ _ (by rw[h5];exact h6)];simp;omega
   refine⟨?_,bb,_,k4,q2,setRow_heap _ _ _ _ _ _ q3,?_⟩
   ·rw[hcs,q0,Ni _ _ _ (by simp[h5];omega)];simp;omega
   ·have hg:=hpm.go hev
    have hq:=q4.go hev
    refine⟨by rw[hcs,←q4.1];simp only[List.length_append,List.length_take,List.length_drop];omega,fun j v c h8 h9=> ?_⟩
    rw[vD _ _ _ _ hl] at h8
    rw[Ni _ _ _ (by rw[h5];exact h6),vD _ _ _ _ (by rw[h5];exact h6)] at h9
    rw[hpm.1] at h8
    split at h8
    ·rename_i hj;rw[if_pos hj] at h9;exact hg.2 _ v c h8 h9
    ·rename_i hj;rw[if_neg hj] at h9;exact hq.2 _ v c h8 h9)
 refine⟨w.setRow bb (vs.take off++(a.eval y).cells.toList++vs.drop (off+(a.eval y).cells.toList.length)).toArray,β',t',bb,?_,r1,hev,⟨f2,f3,f4,by rw[f1];exact Nat.le_refl _,fun k _ hk=>f5 k hk⟩,k2,k4⟩
 simp only[execOp,ho,k5,Instr.storeAt,Instr.sureAddr,Sem.run_bind,Sem.run_pure,Result.andThen_ok,hrun]
theorem aNy (hTI:Ao P TI=true)(r:bY Y.C E s a w β){o:Oper}{t:TypeId}{x y:Operand}{i:TInfo}{b off T rv cv:Nat}{cs ps:List (Lf U)}{us:List Nat}(ho:o.op= .store t x y)
  (h1:mE TI t=some i) (h2:gH s x= .l (.box b off)) (h3:parts (Km s y)=some ps) (h4:s.m.o[b]? =some ⟨.box T cs us,rv,cv⟩) (h5:ps.length=i.k) (h6:off+i.k≤cs.length) (h7:Nf ps=true):
  SO P Y.C E a w o (.l .any) (trn s b (.box T (spl cs off ps) (spl us off (ps.map fun _=>Nat.succ s.m.k))) rv) false:=fun K Q hK=>by
 obtain⟨w',β',t',bb,e1,r1,_,_,_,_⟩:=Y2 hTI r ho h1 h2 h3 h4 h5 h6 h7
 exact wpo (.inr ⟨e1,rfl⟩) (hK _ _ β' r1 (fun _=>trivial) (fun h=>by cases h))
theorem bEh {A M M' D:List Nat}(h:(A++(M++D)).Nodup)(hM:M'.Nodup)(hd:∀x,x∈M'→x∉A++(M++D)):(A++(M'++D)).Nodup:=by
 rw[List.nodup_append] at h ⊢
 obtain⟨h1,h2,h3⟩:=h
 rw[List.nodup_append] at h2
 obtain⟨h4,h5,h6⟩:=h2
 refine⟨h1,?_,fun x hx y hy=> ?_⟩
 ·rw[List.nodup_append]
  refine⟨hM,h5,fun x hx y hy e=> ?_⟩
  subst e
  exact hd x hx (by simp[hy])
 ·rcases List.mem_append.1 hy with hy|hy
  ·rintro rfl
   exact hd x hy (by simp[hx])
  ·exact h3 x hx y (by simp[hy])
theorem bBk {α:Type}(l:List α)(off n:Nat)(h:off+n≤l.length):l=l.take off++((l.drop off).take n++l.drop (off+n))∧(l.take off).length=off∧((l.drop off).take n).length=n:=by
 refine⟨?_,by simp;omega,by simp;omega⟩
 rw[←List.drop_drop,List.take_append_drop,List.take_append_drop]
theorem aJy (hTI:Ao P TI=true)(hY:LayOk Y)(r:bY Y.C E s a w β){o:Oper}{t:TypeId}{x y:Operand}{i:TInfo}{b c τ off rv cv:Nat}{q:Int}{z z':U.El τ}{d d':Bool}{L:List (U.El τ)}{ps ds:List (Lf U)}{ids:List Nat}(ho:o.op= .store t x y)
  (h1:mE TI t=some i) (h2:gH s x= .l (.oel b c τ q z off)) (h3:parts (Km s y)=some ps) (h4:s.m.o[b]? =some ⟨.tree τ d L,rv,cv⟩) (hcv:cv=c) (h5:ps.length=i.k) (h6:off+i.k≤U.K τ) (h7:Nf ps=true)
  (h8:aNg s.m ((((Y.kd τ).drop off).take i.k)) ps=some (ds,ids,d')) (hJ:(b::ids).Nodup) (h9:Y.C.bld τ (spl (Y.C.cel τ z) off ds)=some z'):
  SO P Y.C E a w o (.l .any) ⟨s.t,⟨U9 (Nat.succ s.m.k) ids (upd s.m.o b ⟨.tree τ (d&&d') (L.set q.toNat z'),rv,Nat.succ s.m.k⟩),Nat.succ s.m.k,s.m.ns⟩,s.fr⟩ false:=fun K Q hK=>by
 have hti:=dM hTI h1
 obtain⟨hpm,hone⟩:=Fp (jK r (x:=y)) h3 h7
 have hxm:=vG r h2
 obtain⟨_,e',t',k1,k2,k3⟩:=hxm
 rw[h4] at k1;injection k1 with k1;subst k1
 obtain⟨d0,L0,bb,a1,a2,a3,a4,a5⟩:=k3 hcv
 injection a1 with _ a1 a1'
 subst a1;subst a1'
 obtain⟨l1,l2,x1,xz,x2,B1,Bz,B2,g1,g2,g3,g4,g5,g6,o1,o2,o3,hk0⟩:=aW4 r.hp k2 h4 rfl a3
 have hO:=Tn r.hp h8 hpm (fun kd hk τ' e=>hY.pos τ τ' (by subst e;exact List.mem_of_mem_drop (List.mem_of_mem_take hk)))
 have hvl:(a.eval y).cells.toList.length=i.k:=by rw[hpm.1,h5]
 have hdl:ds.length=i.k:=by rw[←hO.len,hvl]
 obtain⟨s1,s2,s3⟩:=bBk (Y.C.cel τ z) off i.k (by rw[Y.C.hlen];exact h6)
 rw[s1] at o2
 obtain⟨z1,zr,Bz1,Bzr,e1,e2,p1,p2⟩:=OwL.split o2
 obtain⟨z2,z3,Bz2,Bz3,e3,e4,p3,p4⟩:=OwL.split p2
 have hz1:z1.length=off:=by rw[p1.len,s2]
 have hz2:z2.length=i.k:=by rw[p3.len,s3]
 rcases fQ g3 with⟨b1,_⟩|⟨b',cur,b1,b2,b3,b4,b5,b6,b7⟩
 ·rw[a4] at b1;cases b1
 rw[a4] at b1;injection b1 with b1;subst b1
 have hxs:cur.toList=(x1++(xz++x2))++cur.toList.drop (L.length*U.K τ):=by
  rw[←b7,List.take_append_drop]
 have hcur:cur.toList=(x1++z1)++(z2++(z3++(x2++cur.toList.drop (L.length*U.K τ)))):=by
  rw[e1,e3] at hxs
  simpa[List.append_assoc] using hxs
 have hpos:q.toNat*U.K τ+off=(x1++z1).length:=by rw[List.length_append,g4,hz1]
 have hnew:cur.toList.take (q.toNat*U.K τ+off)++(a.eval y).cells.toList++cur.toList.drop (q.toNat*U.K τ+off+(a.eval y).cells.toList.length)=(x1++((z1++((a.eval y).cells.toList++z3))++x2))++cur.toList.drop (L.length*U.K τ):=by
  rw[hvl,hpos]
  rw[show cur.toList.take (x1++z1).length=x1++z1 by rw[hcur,List.take_left]]
  rw[show cur.toList.drop ((x1++z1).length+i.k)=z3++(x2++cur.toList.drop (L.length*U.K τ)) by
   rw[←List.drop_drop]
   conv=>lhs;rw[hcur]
   rw[List.drop_left,←hz2,List.drop_left]]
  simp[List.append_assoc]
 have hll:q.toNat*U.K τ+off+(a.eval y).cells.toList.length≤cur.toList.length:=by
  rw[hvl,hcur,hpos];simp;omega
 have hrun:=aU9 (P:=P) (T:=τ) (t:=t) (b:=bb) (off:=q.toNat*U.K τ+off) (cur:=cur.toList) (vs:=(a.eval y).cells.toList) (v:=a.eval y) (w:=w) (by simp) (by rw[hvl];exact bC0 hti w) (by simpa using b5) hll hone
 rw[hnew] at hrun
 obtain⟨f1,f2,f3,f4,f5⟩:=V4 w bb ((x1++((z1++((a.eval y).cells.toList++z3))++x2))++cur.toList.drop (L.length*U.K τ)).toArray
 have hnd:=r.hp.nd b t' k2
 have hall:t'.all=bb::(B1++((Bz1++(Bz2++Bz3))++B2)):=by simp[Tr.all,a4,g6,e2,e4]
 rw[hall] at hnd
 have hbi:=aMw r.hp (List.nodup_cons.1 hJ).2
 have hdisj:∀k,k∈jG β ids→k∉t'.all:=fun k hk hk'=>by
  obtain⟨j,hj,u,hu,hub⟩:=qV hk
  exact r.hp.dist j b u t' k (fun e=>(List.nodup_cons.1 hJ).1 (e▸hj)) hu k2 hub hk'
 let t2:Tr:=⟨t'.b,t'.n,t'.c,B1++((Bz1++(jG β ids++Bz3))++B2)⟩
 have hall2:t2.all=bb::(B1++((Bz1++(jG β ids++Bz3))++B2)):=by simp[t2,Tr.all,a4]
 have hin2:∀k∈t2.all,k∈t'.all∨k∈jG β ids:=fun k hk=>by
  rw[hall2] at hk;rw[hall]
  simp only[List.mem_cons,List.mem_append] at hk ⊢
  rcases hk with h|h|(h|h|h)|h
  ·exact .inl (.inl h)
  ·exact .inl (.inr (.inl h))
  ·exact .inl (.inr (.inr (.inl (.inl h))))
  ·exact .inr h
  ·exact .inl (.inr (.inr (.inl (.inr (.inr h)))))
  ·exact .inl (.inr (.inr (.inr h)))
 have hnd2:t2.all.Nodup:=by
  rw[hall2]
  have hd':∀k,k∈jG β ids→k∉bb::(B1++((Bz1++(Bz2++Bz3))++B2)):=fun k hk=>by rw[←hall];exact hdisj k hk
  have e1:bb::(B1++((Bz1++(Bz2++Bz3))++B2))=(bb::(B1++Bz1))++(Bz2++(Bz3++B2)):=by simp
  have e2:bb::(B1++((Bz1++(jG β ids++Bz3))++B2))=(bb::(B1++Bz1))++(jG β ids++(Bz3++B2)):=by simp
  rw[e1] at hnd hd'
  rw[e2]
  exact bEh hnd hbi hd'
 obtain⟨β',r1,_,_⟩:=r.turn (J:=ids) (ob:= .tree τ (d&&d') (L.set q.toNat z')) (rv:=rv) (t':=t2) h4 k2 hJ (by rw[f1];exact Nat.le_refl _) f2 f3 f4
  (fun k _ hk=>f5 k (fun e=>hk (by rw[e];exact Tr.root a4))) (fun k hk=>by
   rcases hin2 k hk with h|h
   ·exact⟨by rw[f1];exact(r.hp.new b t' k k2 h).2, .inr (.inl h)⟩
   ·obtain⟨j,hj,u,hu,hub⟩:=qV h
    exact⟨by rw[f1];exact(r.hp.new j u k hu hub).2, .inr (.inr ⟨j,hj,u,hu,hub⟩)⟩) hnd2 (.inl ⟨rfl,rfl⟩) (fun h=>by cases h) (fun β' m' hev=>by
   have hkeep:∀k,k≠bb→(w.setRow bb ((x1++((z1++((a.eval y).cells.toList++z3))++x2))++cur.toList.drop (L.length*U.K τ)).toArray).heap[k]? =w.heap[k]? :=fun k hk=>f5 k hk
   have hne:∀k,(k∈B1∨k∈Bz1∨k∈Bz3∨k∈B2)→k≠bb:=fun k hk e=>by
    subst e
    simp only[List.nodup_cons,List.mem_append] at hnd
    exact hnd.1 (by rcases hk with h|h|h|h<;>simp[h])
   have hneb:∀k,k∈jG β ids→k≠bb:=fun k hk e=>hdisj k hk (by rw[e];exact Tr.root a4)
   have hcel:Y.C.cel τ z'=(Y.C.cel τ z).take off++(ds++(Y.C.cel τ z).drop (off+i.k)):=by
    rw[←Y.C.hmk τ _ z' h9,Ni _ _ _ (by rw[hdl,Y.C.hlen];exact h6),hdl,List.append_assoc]
   have hset:L.set q.toNat z'=l1++z'::l2:=by rw[g1,←g2];simp
   refine⟨hk0,x1++((z1++((a.eval y).cells.toList++z3))++x2),?_,?_⟩
   ·have hlx:(x1++((z1++((a.eval y).cells.toList++z3))++x2)).length=L.length*U.K τ:=by
     have:=g3.1
     rw[e1,e3] at this
     simp only[List.length_append] at this ⊢
     rw[hvl,←hz2];omega
    rw[List.length_set]
    refine⟨hlx, .inr ⟨bb,t'.c,_,?_,Nat.zero_le _,setRow_heap _ _ _ _ _ _ (by simpa using b5),b3,b4,?_,?_⟩⟩
    ·simp[t2,Tr.val,a4,b2]
    ·have hh:cur.size=cur.toList.length:=by simp
     rw[←b6,hh]
     simp only[List.size_toArray,List.length_append,List.length_drop]
     simp only[List.length_append] at hlx
     have:L.length*U.K τ≤cur.toList.length:=by rw[←hh,b6];exact Nat.mul_le_mul_right _ b3
     omega
    ·simp only[List.toList_toArray]
     rw[←hlx,List.take_left]
   ·rw[hset,List.map_append,List.flatten_append,List.map_cons,List.flatten_cons,hcel]
    have hsoft:(d&&d')=true→d=true:=fun h=>by simp at h;exact h.1
    have hsoft':(d&&d')=true→d'=true:=fun h=>by simp at h;exact h.2
    exact OwL.app ((o1.conv hev.sz hev.hX hev.hc (fun k hk=>hkeep k (hne k (.inl hk)))).fl hsoft)
     (OwL.app (OwL.app ((p1.conv hev.sz hev.hX hev.hc (fun k hk=>hkeep k (hne k (.inr (.inl hk))))).fl hsoft)
      (OwL.app ((hO.conv hev.sz hev.hX hev.hc (fun k hk=>hkeep k (hneb k hk))).fl hsoft') ((p4.conv hev.sz hev.hX hev.hc (fun k hk=>hkeep k (hne k (.inr (.inr (.inl hk)))))).fl hsoft)))
      ((o3.conv hev.sz hev.hX hev.hc (fun k hk=>hkeep k (hne k (.inr (.inr (.inr hk)))))).fl hsoft)))
 refine wpo (w':=w.setRow bb ((x1++((z1++((a.eval y).cells.toList++z3))++x2))++cur.toList.drop (L.length*U.K τ)).toArray) (v:=undef) (.inr ⟨?_,rfl⟩) (hK _ _ β' r1 (fun _=>trivial) (fun h=>by cases h))
 simp only[execOp,ho,a5,Instr.storeAt,Instr.sureAddr,Sem.run_bind,Sem.run_pure,Result.andThen_ok,hrun]
end
end Go.EV

namespace Go.EV
open Go.RowKit Go.VK
variable {U:Uni} {Y:Lay U} {TI:List (Nat×TInfo)} {P:Program} {g:GI} {E:Env U g}
section
variable {s:St U} {a:Act} {w:World} {β:List Tr} {α:Type}
theorem aNz {t:TypeId}{e k bts n:Nat}{ps:Array (Nat×Operand)}{vs:List Value}(ht:slB P t e k bts=true)(hn:vs.length=n)(h24:n*k≤16777216)(hps:(ps.toList.map fun(i,x)=>(i,a.eval x))=(vs.zipIdx 0|>.map fun(v,j)=>(j,v)))(hsz:∀v∈vs,v.cells.size=k){o:Oper}(ho:o.op= .buildSlice t n ps):
  ∃cells:Array Value,(execOp a.eval o).run P w= .ok (.value (.slice (some ⟨w.heap.size,0,none⟩) n n)) (w.alloc (.cells cells e))∧cells.toList=(vs.map fun v=>v.cells.toList).flatten:=by
 obtain⟨hu,i,z,hi,hz,hik,hib,hzk,hk0⟩:=iG ht
 have hz0:∃zc:Array Value,(if n*k=0 then(pure #[]:Sem (Array Value)) else do pure (←zeroValue e).cells).run P w= .ok zc w:=by
  by_cases h:n*k=0
  ·exact⟨#[],by simp[h]⟩
  ·exact⟨z.cells,by simp[h,zeroValue,typeInfo,hi,hz]⟩
 obtain⟨zc,hzc⟩:=hz0
 obtain⟨res,r1,r2,r3,r4⟩:=aDs k vs 0 ((Array.range (n*k)).map (zc[·%zc.size]!)) hsz (by simp[hn])
 have r2':res.size=n*k:=by rw[r2];simp
 refine⟨res,?_,?_⟩
 ·have hp:((ps.map fun(i,x)=>(i,a.eval x)):Array (Nat×Value)).toList=((vs.zipIdx 0).map fun(v,j)=>(j,v)):=by
   rw[←hps];simp
  simp only[execOp,ho,Instr.buildSlice,Sem.run_bind,run_underlying hu,Result.andThen_ok]
  have hs:(sizeOf e).run P w= .ok k w:=by simp[sizeOf,typeInfo,hi,hik]
  simp only[hs,Result.andThen_ok]
  rw[if_neg (by omega)]
  by_cases h:n*k=0
  ·have hzc':zc= #[]:=by simp[h] at hzc;exact hzc
   subst hzc'
   simp only[h,if_true,Sem.run_bind,Sem.run_pure,Result.andThen_ok]
   rw[h] at r1
   simp only[hp,r1,newRow,Sem.run_bind,run_newObj,Sem.run_pure,Result.andThen_ok]
   rfl
  ·simp only[h,if_false,Sem.run_bind,Sem.run_pure] at hzc ⊢
   have hzc':((zeroValue e).run P w).andThen (fun a w'=>Result.ok a.cells w')= .ok zc w:=hzc
   have hz2:(zeroValue e).run P w= .ok z w:=by simp[zeroValue,typeInfo,hi,hz]
   rw[hz2] at hzc'
   simp only[Result.andThen_ok,Result.ok.injEq,and_true] at hzc'
   simp only[hz2,Result.andThen_ok,hzc',hp,r1,newRow,Sem.run_bind,run_newObj,Sem.run_pure]
   rfl
 ·have hlen:(vs.map fun v=>v.cells.toList).flatten.length=n*k:=by
   have:∀(vs:List Value),(∀v∈vs,v.cells.size=k)→(vs.map fun v=>v.cells.toList).flatten.length=vs.length*k:=by
    intro vs
    induction vs with
    |nil=>simp
    |cons v vs ih=>
     intro h
     simp only[List.map_cons,List.flatten_cons,List.length_append,Array.length_toList,h v (by simp),ih (fun v hv=>h v (by simp[hv])),List.length_cons,Nat.add_mul];omega
   rw[this vs hsz,hn]
  apply List.ext_getElem?
  intro q
  by_cases hq:q<n*k
  ·obtain⟨q0,q1,hq1,rfl⟩:∃q0 q1,q1<k∧q=q0*k+q1:=⟨q/k,q%k,Nat.mod_lt _ hk0,by rw[Nat.mul_comm];exact(Nat.div_add_mod q _).symm⟩
   have hdiv:q0<n:=Nat.lt_of_mul_lt_mul_right (Nat.lt_of_le_of_lt (Nat.le_add_right _ _) hq)
   have hv:vs[q0]? =some (vs[q0]'(by omega)):=List.getElem?_eq_getElem _
   have h4:=r4 q0 q1 _ hv hq1
   rw[Nat.zero_add] at h4
   have key:∀(vs:List Value) (q0:Nat) (v:Value),(∀v∈vs,v.cells.size=k)→vs[q0]? =some v→(vs.map fun v=>v.cells.toList).flatten[q0*k+q1]? =v.cells.toList[q1]? :=by
    intro vs
    induction vs with
    |nil=>intro q0 v _ h;simp at h
    |cons u vs ih=>
     intro q0 v h hv
     cases q0 with
     |zero=>
      simp at hv;subst hv
      simp only[List.map_cons,List.flatten_cons,Nat.zero_mul,Nat.zero_add]
      rw[List.getElem?_append_left (by simp[h u (by simp)];exact hq1)]
     |succ q0=>
      simp only[List.map_cons,List.flatten_cons]
      have hu:u.cells.toList.length=k:=by simp[h u (by simp)]
      rw[show(q0+1)*k+q1=u.cells.toList.length+(q0*k+q1) by rw[hu,Nat.add_mul];omega,List.getElem?_append_right (Nat.le_add_right _ _),Nat.add_sub_cancel_left]
      exact ih q0 v (fun v hv=>h v (by simp[hv])) (by simpa using hv)
   rw[key vs q0 _ hsz hv]
   simpa using h4
  ·rw[List.getElem?_eq_none (by simp[r2'];omega),List.getElem?_eq_none (by omega)]
theorem bEi (hY:LayOk Y)(r:bY Y.C E s a w β){e:Nat}{x:Operand}{z:U.El e}{ids:List Nat}{d:Bool}(h:bH8 Y s e (gH s x)=some (z,ids,d)):
  OwL Y.C w (E.X β) d (a.eval x).cells.toList (Y.C.cel e z) (jG β ids):=by
 unfold bH8 at h
 cases hp:parts (gH s x) with
 |none=>simp[hp] at h
 |some cs=>
  cases hab:aNg s.m (Y.kd e) cs with
  |none=>simp[hp,hab] at h
  |some q=>
   obtain⟨ds,ids',d'⟩:=q
   cases hb:Y.C.bld e ds with
   |none=>simp[hp,hab,hb] at h
   |some z'=>
    simp only[hp,hab,hb,Option.some.injEq,Prod.mk.injEq] at h
    obtain⟨rfl,rfl,rfl⟩:=h
    rw[←Y.C.hmk e ds z' hb]
    have hm:=Bd r (x:=x)
    cases ho:gH s x with
    |l y=>
     rw[ho] at hm hp
     simp only[parts,Option.some.injEq] at hp
     subst hp
     cases hk:Y.kd e with
     |nil=>rw[hk] at hab;cases hab
     |cons kd ks=>
      rw[hk] at hab
      simp only[aNg] at hab
      cases h1:bBa s.m kd y with
      |none=>simp[h1] at hab
      |some q1=>
       obtain⟨y',i1,d1⟩:=q1
       have ho:=aVi r.hp h1 hm (fun τ e'=>hY.pos e τ (by rw[hk,e'];simp))
       have:(a.eval x).cells= #[a.eval x]:=Tg ho.one
       rw[this]
       refine Tn r.hp (ks:=kd::ks) (xs:=[y]) (by simp only[aNg];exact hab) ⟨rfl,fun i u c h5 h6=> ?_⟩ (fun kd' hkd τ e'=>hY.pos e τ (by rw[hk];subst e';exact hkd))
       cases i with
       |zero=>simp at h5 h6;subst h5;subst h6;exact hm
       |succ i=>simp at h5
    |a ds'=>
     rw[ho] at hm hp
     simp only[parts,Option.some.injEq] at hp
     subst hp
     obtain⟨vs,hv,hM⟩:=hm
     rw[hv]
     exact Tn r.hp hab hM (fun kd' hkd τ e'=>hY.pos e τ (by subst e';exact hkd))
    |t xs=>rw[ho] at hp;cases hp
theorem Zq (hY:LayOk Y)(r:bY Y.C E s a w β){e:Nat}:∀{ps:List (Nat×Operand)} {n:Nat} {l:List (U.El e)} {ids:List Nat} {d:Bool},Yg Y s e n ps=some (l,ids,d)→
  ∃vs:List Value,(ps.map fun(i,x)=>(i,a.eval x))=(vs.zipIdx n|>.map fun(v,j)=>(j,v))∧vs.length=ps.length∧l.length=ps.length∧(∀v∈vs,v.cells.size=U.K e)∧OwL Y.C w (E.X β) d (vs.map fun v=>v.cells.toList).flatten (l.map (Y.C.cel e)).flatten (jG β ids)
 |[],n,l,ids,d,h=>by
  simp only[Yg,Option.some.injEq,Prod.mk.injEq] at h
  obtain⟨rfl,rfl,rfl⟩:=h
  exact⟨[],rfl,rfl,rfl,by simp, .n⟩
 |(i,x)::ps,n,l,ids,d,h=>by
  simp only[Yg] at h
  cases hb:Nat.beq i n with
  |false=>simp[hb] at h
  |true=>
   have hin:i=n:=Nat.eq_of_beq_eq_true hb
   subst hin
   simp only[hb,cond_true] at h
   cases h1:bH8 Y s e (gH s x) with
   |none=>simp[h1] at h
   |some q=>
    obtain⟨z,i1,d1⟩:=q
    cases h2:Yg Y s e (Nat.succ i) ps with
    |none=>simp[h1,h2] at h
    |some q2=>
     obtain⟨zs,i2,d2⟩:=q2
     simp only[h1,h2,Option.some.injEq,Prod.mk.injEq] at h
     obtain⟨rfl,rfl,rfl⟩:=h
     obtain⟨vs,k1,k2,k3,k4,k5⟩:=Zq hY r h2
     have hO:=bEi hY r h1
     refine⟨a.eval x::vs,by simp[List.zipIdx_cons,k1],by simp[k2],by simp[k3],fun v hv=> ?_,?_⟩
     ·rcases List.mem_cons.1 hv with rfl|hv
      ·have:=hO.len;rw[Y.C.hlen] at this;simpa using this
      ·exact k4 v hv
     ·rw[Y1]
      simp only[List.map_cons,List.flatten_cons]
      exact OwL.app (hO.fl (by simp;exact fun h _=>h)) (k5.fl (by simp))
theorem aZa (hTI:Ao P TI=true)(hY:LayOk Y)(r:bY Y.C E s a w β){o:Oper}{t:TypeId}{n e ek eb k:Nat}{zz:List Kz}{ps:Array (Nat×Operand)}{l:List (U.El e)}{ids:List Nat}{d:Bool}(ho:o.op= .buildSlice t n ps)
  (h1:mE TI t=some ⟨.sl e ek eb,k,zz⟩) (h2:ps.toList.length=n) (h3:n*ek≤16777216) (h4:okE (U:=U) e ek e=true) (h5:Yg Y s e 0 ps.toList=some (l,ids,d)) (hJ:(s.m.o.length::ids).Nodup):
  SO P Y.C E a w o (.l (.own (len s.m.o) s.m.k)) ⟨s.t,⟨U9 (Nat.succ s.m.k) ids (upd (s.m.o++[⟨.dead,s.m.k,s.m.k⟩]) (len s.m.o) ⟨.tree e d l,s.m.k,Nat.succ s.m.k⟩),Nat.succ s.m.k,s.m.ns⟩,s.fr⟩ true:=fun K Q hK=>by
 have hsl:=(Nk (dM hTI h1) rfl).1
 obtain⟨_,_,_,_,_,_,_,_,hk0⟩:=iG hsl
 simp only[okE,Bool.and_eq_true] at h4
 have hKe:U.K e=ek:=Nat.eq_of_beq_eq_true h4.2
 obtain⟨vs,k1,k2,k3,k4,k5⟩:=Zq hY r h5
 rw[hKe] at k4
 obtain⟨cells,q1,q2⟩:=aNz (w:=w) hsl (k2.trans h2) h3 k1 k4 ho
 have he:Ext w (w.alloc (.cells cells e)):=Ext.alloc _ _
 have hnm:n≤maxLen:=by
  have:n*1≤n*ek:=Nat.mul_le_mul_left _ hk0
  unfold maxLen;omega
 have r1:=r.add he [((⟨.dead,s.m.k,s.m.k⟩:EO U),(⟨some w.heap.size,n,n,[]⟩:Tr))] (by simp) (by simp[Tr.all]) (by simp[Tr.all]) (fun _ x hx=>by simp at hx;subst hx;trivial)
 have hli:(s.m.o++[(⟨.dead,s.m.k,s.m.k⟩:EO U)])[s.m.o.length]? =some ⟨.dead,s.m.k,s.m.k⟩:=by simp
 have hlb:(β++[(⟨some w.heap.size,n,n,[]⟩:Tr)])[s.m.o.length]? =some ⟨some w.heap.size,n,n,[]⟩:=by rw[←r.hp.len];simp
 have hidl:∀j∈ids,∀u,(β++[(⟨some w.heap.size,n,n,[]⟩:Tr)])[j]? =some u→β[j]? =some u:=fun j hj u hu=>by
  have hne:j≠s.m.o.length:=fun e=>(List.nodup_cons.1 hJ).1 (e▸hj)
  by_cases hl:j<β.length
  ·rwa [List.getElem?_append_left hl] at hu
  ·have:=lt_of_some hu
   simp at this
   rw[r.hp.len] at this hl;omega
 have hbl:jG (β++[(⟨some w.heap.size,n,n,[]⟩:Tr)]) ids=jG β ids:=by
  unfold jG
  congr 1
  apply List.map_congr_left
  intro j hj
  by_cases hl:j<β.length
  ·rw[List.getElem?_append_left hl]
  ·have hne:j≠s.m.o.length:=fun e=>(List.nodup_cons.1 hJ).1 (e▸hj)
   rw[List.getElem?_eq_none (by simp;rw[r.hp.len] at hl ⊢;omega),List.getElem?_eq_none (by omega)]
 obtain⟨β',r2,r3,r4⟩:=r1.turn (w':=w.alloc (.cells cells e)) (J:=ids) (ob:= .tree e d l) (rv:=s.m.k) (t':=⟨some w.heap.size,n,n,jG β ids⟩) hli hlb hJ (Nat.le_refl _) rfl rfl rfl (fun _ _ _=>rfl)
  (fun b hb=>by
   simp only[Tr.all,Option.toList_some,List.cons_append,List.nil_append,List.mem_cons] at hb
   rcases hb with rfl|hb
   ·exact⟨by simp, .inr (.inl (by simp[Tr.all]))⟩
   ·obtain⟨j,hj,u,hu,hub⟩:=qV hb
    have:=(r.hp.new j u b hu hub).2
    refine⟨by simp;omega, .inr (.inr ⟨j,hj,u,?_,hub⟩)⟩
    rw[List.getElem?_append_left (lt_of_some hu)];exact hu)
  (by
   simp only[Tr.all,Option.toList_some,List.cons_append,List.nil_append]
   rw[List.nodup_cons]
   refine⟨fun hb=> ?_,aMw r.hp (List.nodup_cons.1 hJ).2⟩
   obtain⟨j,_,u,hu,hub⟩:=qV hb
   have:=(r.hp.new j u _ hu hub).2;omega)
  (.inl ⟨rfl,rfl⟩) (fun h=>by cases h) (fun β' m' hev=>by
   refine⟨by rw[hKe];exact hk0,cells.toList,?_,?_⟩
   ·rw[k3,h2]
    exact World.ownsRow_lit w cells n (Nat.zero_le _) hnm (by
     have hc:cells.size=cells.toList.length:=by simp
     rw[hc,q2,k5.len,X3 (Y.C.hlen e),k3,h2])
   ·rw[q2]
    have hX0:∀b,b<w.heap.size→E.X (β++[(⟨some w.heap.size,n,n,[]⟩:Tr)]) b→E.X β b:=fun b hb hx=>by
     rcases hx with h|h|⟨u,hu,hub⟩
     ·exact .inl h
     ·exact .inr (.inl h)
     ·rcases List.mem_append.1 hu with hu|hu
      ·exact .inr (.inr ⟨u,hu,hub⟩)
      ·simp at hu;subst hu;simp[Tr.all] at hub;omega
    exact k5.conv he.size (fun b hb hx=>hX0 b hb (hev.hX b (Nat.lt_of_lt_of_le hb he.size) hx)) (fun p u _ hc=>he.cell hc) (fun b hb=>by
     obtain⟨j,_,u,hu,hub⟩:=qV hb
     exact he.block b (r.hp.new j u b hu hub).2))
 rw[←dA] at r2 r3
 refine wpo (w':=w.alloc (.cells cells e)) (v:= .slice (some ⟨w.heap.size,0,none⟩) n n) (.inl q1) (hK _ _ β' r2 (fun _=> ?_) (fun _=>he))
 refine⟨⟨Nat.le_succ _,rfl⟩,⟨.tree e d l,s.m.k,Nat.succ s.m.k⟩,_,?_,r3,fun _=>rfl⟩
 rw[uQ (by rw[dA];exact(List.nodup_cons.1 hJ).1),cB,List.getElem?_set_self (by rw[dA];simp)]
end
end Go.EV
