import Derived.Test.YthecajfmhdediaaGreatDoorEVgtoo
/-
  THE EVALUATOR's KIT, sixteenth part: append. Plain theorems over any program; the conditions stand in each.
-/
set_option linter.unusedVariables false
set_option linter.unusedSimpArgs false
namespace Go.EV
open Go.RowKit Go.VK
variable {U:Uni} {Y:Lay U} {TI:List (Nat×TInfo)} {P:Program} {g:GI} {E:Env U g}
section
variable {s:St U} {a:Act} {w:World} {β:List Tr} {α:Type}
theorem bC1 {α β:Type}{f:α→List β}{k:Nat}(hk:∀x,(f x).length=k)(h0:0<k):∀{l:List α} {q:Nat} {c:β},(l.map f).flatten[q]? =some c→∃x,l[q/k]? =some x∧(f x)[q%k]? =some c
 |[],q,c,h=>by simp at h
 |x::l,q,c,h=>by
  simp only[List.map_cons,List.flatten_cons] at h
  by_cases hq:q<k
  ·rw[List.getElem?_append_left (by rw[hk];exact hq)] at h
   exact⟨x,by rw[Nat.div_eq_of_lt hq];rfl,by rw[Nat.mod_eq_of_lt hq];exact h⟩
  ·rw[List.getElem?_append_right (by rw[hk];omega),hk] at h
   obtain⟨y,h1,h2⟩:=bC1 hk h0 h
   have e:q=q-k+k:=by omega
   refine⟨y,?_,?_⟩
   ·rw[e,Nat.add_div_right _ h0];simpa using h1
   ·rw[e,Nat.add_mod_right];exact h2
theorem OwL.aCC {C:Cod U}{X:Nat→Prop}{d:Bool}:∀{vs:List Value} {xs:List (Lf U)},vs.length=xs.length→(∀(i:Nat) (v:Value) (x:Lf U),vs[i]? =some v→xs[i]? =some x→Ow C w X d v x [])→OwL C w X d vs xs []
 |[],[],_,_=> .n
 |[],_::_,h,_=>by simp at h
 |_::_,[],h,_=>by simp at h
 |v::vs,x::xs,h,h1=>by
  have:=OwL.c (h1 0 v x rfl rfl) (OwL.aCC (by simpa using h) fun i v x a b=>h1 (i+1) v x (by simpa using a) (by simpa using b))
  simpa using this
theorem aVj:∀{l:List Kd},aNh l=false↔∀τ,Kd.sl τ∉l
 |[]=>by simp[aNh]
 |x::l=>by
  have e:aNh (x::l)=cond x.aCY true (aNh l):=rfl
  rw[e]
  cases x with
  |sl τ=>exact⟨fun h=>(by cases h),fun h=>absurd List.mem_cons_self (h τ)⟩
  |_=>simp only[Kd.aCY,cond_false,List.mem_cons,reduceCtorEq,false_or];exact aVj
theorem aVk (hY:LayOk Y){τ:Nat}(h:aNi Y τ=true){z:U.El τ}{c:Lf U}(hc:c∈Y.C.cel τ z):∀τ' l,c≠ .sl τ' l:=fun τ' l e=>by
 subst e
 have h':aNh (Y.kd τ)=false:=by
  unfold aNi at h;cases ha:aNh (Y.kd τ) with
  |false=>rfl
  |true=>rw[ha] at h;cases h
 have hk:=hY.kds τ z
 have:some (Kd.sl τ')∈(Y.kd τ).map some:=by rw[←hk];exact List.mem_map.2 ⟨_,hc,rfl⟩
 obtain⟨k,hk1,hk2⟩:=List.mem_map.1 this
 injection hk2 with hk2;subst hk2
 exact aVj.1 h' τ' hk1
theorem bBl (Y:Lay U){τ:Nat}{z:U.El τ}:eY (U.enc τ z)=true:=by
 rw[←Y.C.hcel]
 have:∀(cs:List (Lf U)),(∀c∈cs,c.aAZ=true)→eY (cs.map Lf.toV)=true:=by
  intro cs
  induction cs with
  |nil=>intro _;rfl
  |cons c cs ih=>intro h;simp only[List.map_cons,eY,Bool.and_eq_true];exact⟨Lf.aBQ (h c (by simp)),ih fun c hc=>h c (by simp[hc])⟩
 exact this _ (Y.C.hdat τ z)
theorem aVl (hY:LayOk Y){e:Nat}(hk:0<U.K e){X Z:Nat→Prop}{d:Bool}{v:Value}{l:List (U.El e)}(h:Rd w Z [] v (.slice (U.K e) (l.map (U.enc e))))(hd:aNi Y e=true∨(d=false∧∀b,X b→Z b)):
  ∃(A:Option Addr) (c:Nat) (news:List Value),v= .slice A l.length c∧news.length=l.length*U.K e∧(l.length=0∨∃p,A=some p∧∀j u,news[j]? =some u→w.cell? (p.add j)=some u)∧OwL Y.C w X d news (l.map (Y.C.cel e)).flatten []:=by
 obtain⟨A,c,xs,h1,h2,h3,h4,h5,h6⟩:=bD4 h (fun e' he=>by
  obtain⟨z,_,rfl⟩:=List.mem_map.1 he
  exact bBl Y)
 rw[List.length_map] at h1 h2
 refine⟨A,c,xs,h1,h2,h3.imp (fun hn=>by simpa using congrArg List.length hn) id,OwL.aCC (by rw[h2,X3 (Y.C.hlen e)]) fun q u x hu hx=> ?_⟩
 obtain⟨z,q1,q2⟩:=bC1 (Y.C.hlen e) hk hx
 have hz:(l.map (U.enc e))[q/U.K e]? =some (U.enc e z):=by rw[List.getElem?_map,q1];rfl
 have hc:(U.enc e z)[q%U.K e]? =some x.toV:=by rw[←Y.C.hcel,List.getElem?_map,q2];rfl
 obtain⟨u',k1,k2⟩:=h6 _ _ _ _ hz hc
 have hq:q/U.K e*U.K e+q%U.K e=q:=by rw[Nat.mul_comm];exact Nat.div_add_mod q _
 rw[hq,hu] at k1
 injection k1 with k1;subst k1
 have hmem:=List.mem_of_getElem? q2
 have hdat:=Y.C.hdat e z x hmem
 cases x with
 |int k n=>obtain⟨rfl,a1,a2⟩:=k2.aAP;exact .int a1 a2
 |bool b=>obtain rfl:=k2.aAS;exact .bool
 |str b=>obtain⟨rfl,a1⟩:=k2.aAR;exact .str a1
 |sl τ' l'=>
  rcases hd with hd|⟨hd,hX⟩
  ·exact absurd rfl (aVk hY hd hmem τ' l')
  ·exact .fz hd (Rd.conv k2 (Nat.le_refl _) (fun b _ hb=>hX b hb) (fun _ _ _ h=>h) (fun _ _ h=>h))
 |_=>cases hdat
theorem bEj {i j r:Nat}(h:aI2 i (.own j r:Lf U)=true):j≠i:=fun e=>by
 subst e
 have:aI2 j (.own j r:Lf U)=cond (Nat.beq j j) false true:=rfl
 rw[this,show Nat.beq j j=true from Nat.beq_refl j] at h;cases h
theorem bGf (r:bY Y.C E s a w β){e i:Nat}(hke:0<U.K e){x:Operand}{px:Lf U}{d:Bool}{l:List (U.El e)}{s1:St U}(hx:gH s x= .l px)(h:apD s e px=some (i,d,l,s1)):
  ∃β1 t rv cv,bY Y.C E s1 a w β1∧s1.t=s.t∧s1.m.ns=s.m.ns∧s1.fr=s.fr∧β1[i]? =some t∧s1.m.o[i]? =some ⟨.tree e d l,rv,cv⟩∧a.eval x=t.val∧rv≤s1.m.k:=by
 have hm:=vG r hx
 cases px with
 |nil=>
  simp only[apD,Option.some.injEq,Prod.mk.injEq] at h
  obtain⟨rfl,rfl,rfl,rfl⟩:=h
  have r1:=r.add (Ext.refl w) [((⟨.tree e true [],s.m.k,s.m.k⟩:EO U),Zp)] (by simp) (by simp[mI]) (by simp[mI]) (fun hev x hx=>by
   simp at hx;subst hx
   exact⟨hke,[],World.ownsRow_nil w 0 e (U.K e), .n⟩)
  refine⟨_,Zp,s.m.k,s.m.k,r1,rfl,rfl,rfl,?_,?_,?_,Nat.le_refl _⟩
  ·rw[dA,←r.hp.len];simp
  ·simp[psh,dA]
  ·have hm':a.eval x= .slice none 0 0:=hm
   rw[hm'];rfl
 |own j q=>
  simp only[apD,bC] at h
  obtain⟨_,e',t,k1,k2,k3⟩:=hm
  simp only[k1] at h
  obtain⟨ob,rv,cv⟩:=e'
  cases ob with
  |tree τ d0 l0=>
   cases hb:Nat.beq rv q with
   |false=>simp[hb] at h
   |true=>
    simp only[hb,cond_true] at h
    cases hs:slq e τ l0 with
    |none=>simp[hs] at h
    |some l1=>
     simp only[hs,Option.some.injEq,Prod.mk.injEq] at h
     obtain⟨rfl,rfl,rfl,rfl⟩:=h
     obtain⟨rfl,hh⟩:=mH hs
     obtain rfl:=eq_of_heq hh
     exact⟨β,t,rv,cv,r,rfl,rfl,rfl,k2,k1,k3 (Nat.eq_of_beq_eq_true hb),(r.hp.vers _ _ k1).1⟩
  |_=>cases h
 |_=>cases h
theorem bGg (hY:LayOk Y)(r:bY Y.C E s a w β){e i:Nat}(hke:0<U.K e){py:Lf U}{v:Value}{l:List (U.El e)}{ids:List Nat}{d:Bool}(hm:py.mean Y.C w (E.X β) β s.m v)(h:apS Y s.m e i py=some (l,ids,d)):
  (i::ids).Nodup∧∃(A:Option Addr) (c:Nat) (news:List Value),v= .slice A l.length c∧news.length=l.length*U.K e∧(l.length=0∨∃p,A=some p∧∀j u,news[j]? =some u→w.cell? (p.add j)=some u)∧∃B,OwL Y.C w (E.X β) d news (l.map (Y.C.cel e)).flatten B∧(∀b∈B,b∈jG β ids)∧B.Nodup:=by
 by_cases hn:py= .nil
 ·subst hn
  simp only[apS,Option.some.injEq,Prod.mk.injEq] at h
  obtain⟨rfl,rfl,rfl⟩:=h
  obtain rfl:=hm
  exact⟨by simp,none,0,[],rfl,by simp, .inl rfl,[], .n,by simp,List.nodup_nil⟩
 ·have h':(bif aNi Y e then(match mF s.m py with
   |some (.sl τ l)=>match slq e τ l with
    |some l=>bif aI2 i py then some (l,[],true) else none
    |none=>none
   |_=>none) else(match py with
   | .sl τ l=>match slq e τ l with
    |some l=>some (l,[],false)
    |none=>none
   | .own j r=>match nth s.m.o j with
    |some ⟨.tree τ d l,rv,_⟩=>bif Nat.beq rv r&&aI2 i py then(match slq e τ l with
     |some l=>some (l,[j],d)
     |none=>none) else none
    |_=>none
   |_=>none))=some (l,ids,d):=by
   cases py<;>first|exact absurd rfl hn|exact h
  cases hf:aNi Y e with
  |true=>
   rw[hf] at h'
   simp only[cond_true] at h'
   split at h'
   ·rename_i τ l0 hr
    cases hs:slq e τ l0 with
    |none=>simp[hs] at h'
    |some l1=>
     simp only[hs] at h'
     cases hni:aI2 i py with
     |false=>simp[hni] at h'
     |true=>
      simp only[hni,cond_true,Option.some.injEq,Prod.mk.injEq] at h'
      obtain⟨rfl,rfl,rfl⟩:=h'
      obtain⟨rfl,hh⟩:=mH hs
      obtain rfl:=eq_of_heq hh
      have hrd:=(rC r.hp hm hr (Z:=fun _=>False) (fun _ h=>h.elim) (.inr fun _ _ _ _ _ h=>h)).2
      obtain⟨A,c,news,q1,q2,q3,q4⟩:=aVl (X:=E.X β) (d:=true) hY hke hrd (.inl hf)
      exact⟨by simp,A,c,news,q1,q2,q3,[],q4,by simp,List.nodup_nil⟩
   ·cases h'
  |false=>
   rw[hf] at h'
   simp only[cond_false] at h'
   cases py with
   |nil=>exact absurd rfl hn
   |sl τ l0=>
    simp only at h'
    cases hs:slq e τ l0 with
    |none=>simp[hs] at h'
    |some l1=>
     simp only[hs,Option.some.injEq,Prod.mk.injEq] at h'
     obtain⟨rfl,rfl,rfl⟩:=h'
     obtain⟨rfl,hh⟩:=mH hs
     obtain rfl:=eq_of_heq hh
     obtain⟨A,c,news,q1,q2,q3,q4⟩:=aVl (X:=E.X β) (d:=false) hY hke (Z:=E.X β) hm (.inr ⟨rfl,fun _ h=>h⟩)
     exact⟨by simp,A,c,news,q1,q2,q3,[],q4,by simp,List.nodup_nil⟩
   |own j q=>
    simp only at h'
    split at h'
    ·rename_i τ d0 l0 rv cv ho
     rw[bC] at ho
     cases hb:(Nat.beq rv q&&aI2 i (.own j q:Lf U)) with
     |false=>rw[hb] at h';cases h'
     |true=>
      rw[hb] at h'
      simp only[cond_true] at h'
      simp only[Bool.and_eq_true] at hb
      cases hs:slq e τ l0 with
      |none=>simp[hs] at h'
      |some l1=>
       simp only[hs,Option.some.injEq,Prod.mk.injEq] at h'
       obtain⟨rfl,rfl,rfl⟩:=h'
       obtain⟨rfl,hh⟩:=mH hs
       obtain rfl:=eq_of_heq hh
       obtain⟨_,e',t,k1,k2,k3⟩:=hm
       rw[ho] at k1;injection k1 with k1;subst k1
       have hv:=k3 (Nat.eq_of_beq_eq_true hb.1)
       have hok:=r.hp.ok j t _ k2 ho
       obtain⟨_,xs,c1,c2⟩:=hok
       have hbl:jG β [j]=t.all:=by simp[jG,k2]
       have hsub:∀b∈t.bs,b∈jG β [j]:=fun b hb'=>by rw[hbl];simp[Tr.all,hb']
       have hnd:t.bs.Nodup:=(List.nodup_append.1 (r.hp.nd j t k2)).2.1
       refine⟨by simp;exact(bEj hb.2).symm,?_⟩
       rcases fQ c1 with⟨b1,b2,b3,b4,b5⟩|⟨b,cur,b1,b2,b3,b4,b5,b6,b7⟩
       ·have:l0=[]:=List.eq_nil_of_length_eq_zero b2
        subst this
        exact⟨none,0,xs,by rw[hv];simp[Tr.val,b1,b4,b5],c1.1, .inl rfl,t.bs,c2,hsub,hnd⟩
       ·exact⟨some ⟨b,0,none⟩,t.c,xs,by rw[hv];simp[Tr.val,b1,b2],c1.1, .inr ⟨_,rfl,fun j u hu=>Fe c1 b1 hu⟩,t.bs,c2,hsub,hnd⟩
    ·cases h'
   |_=>cases h'
theorem bIl {e k n:Nat}{v:Value}{xs:List Value}{w:World}(h:w.ownsRow 0 e k v n xs)(bs:List Nat):∃t:Tr,t.val=v∧t.b=v.ownBlock∧t.bs=bs:=by
 rcases h.2 with⟨rfl,_⟩|⟨gg,cap,cur,rfl,_⟩
 ·exact⟨⟨none,0,0,bs⟩,rfl,rfl,rfl⟩
 ·exact⟨⟨some gg,n,cap,bs⟩,rfl,rfl,rfl⟩
theorem aXa (hTI:Ao P TI=true)(hY:LayOk Y)(r:bY Y.C E s a w β){o:Oper}{t:TypeId}{x y:Operand}{e ek eb k i:Nat}{zz:List Kz}{px py:Lf U}{d d':Bool}{l l':List (U.El e)}{s1:St U}{ids:List Nat}
  (ho:o.op= .call {callee:= .builtin .append,args:= #[x,y],argTypes:= #[t,t]}) (h1:mE TI t=some ⟨.sl e ek eb,k,zz⟩) (h2:Nat.ble eb 2048=true) (h3:okE (U:=U) e ek e=true) (h4:gH s x= .l px) (h5:gH s y= .l py)
  (h6:apD s e px=some (i,d,l,s1)) (h7:apS Y s1.m e i py=some (l',ids,d')) (hg:bI l l'):
  SO P Y.C E a w o (.l (.own i (Nat.succ s1.m.k))) ⟨s1.t,⟨U9 (Nat.succ s1.m.k) ids (upd s1.m.o i ⟨.tree e (d&&d') (l++l'),Nat.succ s1.m.k,Nat.succ s1.m.k⟩),Nat.succ s1.m.k,s1.m.ns⟩,s1.fr⟩ false:=fun K Q hK=>by
 have hsl:=(Nk (dM hTI h1) rfl).1
 obtain⟨_,_,_,_,_,_,_,_,hk0⟩:=iG hsl
 simp only[okE,Bool.and_eq_true] at h3
 have hKe:U.K e=ek:=Nat.eq_of_beq_eq_true h3.2
 have hke:0<U.K e:=by rw[hKe];exact hk0
 obtain⟨β1,tr,rv,cv,r1,e1,e2,e3,e4,e5,e6,_⟩:=bGf r hke h4 h6
 have h5':gH s1 y= .l py:=by
  rw[←h5];unfold gH Km;rw[e1,e2]
 obtain⟨hJ,A,c,news,q1,q2,q3,B,q4,q5,q6⟩:=bGg hY r1 hke (vG r1 h5') h7
 have hok:=r1.hp.ok i tr _ e4 e5
 obtain⟨_,xs,c1,c2⟩:=hok
 have hb':eb≤2048:=Nat.le_of_ble_eq_true h2
 unfold bI at hg
 rw[hKe] at c1 q2
 obtain⟨v',w',a1,a2,a3,a4⟩:=bA5 (P:=P) (ty:=o.type) hsl c1 (A:=A) (c:=c) q2 q3 q4.ones (by unfold maxLen;omega) (by
  calc (l.length+l'.length)*eb≤68719476736*2048:=Nat.mul_le_mul hg hb'
   _=140737488355328:=by decide)
 obtain⟨t2,t3,t4,t5⟩:=bIl a2 (tr.bs++B)
 have htv:tr.val.ownBlock=tr.b:=by cases h:tr.b<;>simp[Tr.val,Value.ownBlock,h]
 rw[htv] at a3 a4
 rw[←t4] at a4
 have hnd:=r1.hp.nd i tr e4
 have hBd:∀b∈B,b∉tr.all:=fun b hb hb'=>by
  obtain⟨j,hj,u,hu,hub⟩:=qV (q5 b hb)
  exact r1.hp.dist j i u tr b (fun e=>(List.nodup_cons.1 hJ).1 (e▸hj)) hu e4 hub hb'
 have hlt:∀b∈B,b<w.heap.size:=fun b hb=>by
  obtain⟨j,hj,u,hu,hub⟩:=qV (q5 b hb)
  exact(r1.hp.new j u b hu hub).2
 have hne:∀b,(b∈tr.bs∨b∈B)→some b≠tr.b:=fun b hb e=>by
  rcases hb with hb|hb
  ·have h':b∈tr.b.toList:=by rw[←e];simp
   exact(List.nodup_append.1 hnd).2.2 b h' b hb rfl
  ·exact hBd b hb (Tr.root e.symm)
 obtain⟨β',r2,r3,_⟩:=r1.turn (w':=w') (J:=ids) (ob:= .tree e (d&&d') (l++l')) (rv:=s1.m.k+1) (t':=t2) e5 e4 hJ a3.size a3.os a3.tape a3.output
  (fun b hb hn=>a3.block b hb (fun e=>hn (Tr.root e.symm)))
  (fun b hb=>by
   simp only[Tr.all,t5,List.mem_append,Option.mem_toList] at hb
   rcases hb with hb|hb|hb
   ·rcases a4 with h|h
    ·have hb2:tr.b=some b:=by rw[←h];exact hb
     exact⟨Nat.lt_of_lt_of_le (r1.hp.new i tr b e4 (Tr.root hb2)).2 a3.size, .inr (.inl (Tr.root hb2))⟩
    ·rw[h] at hb
     have hb2:b=w.heap.size:=by simpa using hb.symm
     refine⟨?_, .inl (by omega)⟩
     have:=a2.lt b (by rw[←t4,h,hb2])
     exact this.2
   ·exact⟨Nat.lt_of_lt_of_le (r1.hp.new i tr b e4 (by simp[Tr.all,hb])).2 a3.size, .inr (.inl (by simp[Tr.all,hb]))⟩
   ·obtain⟨j,hj,u,hu,hub⟩:=qV (q5 b hb)
    exact⟨Nat.lt_of_lt_of_le (hlt b hb) a3.size, .inr (.inr ⟨j,hj,u,hu,hub⟩)⟩)
  (by
   have hbs:(tr.bs++B).Nodup:=by
    rw[List.nodup_append]
    refine⟨(List.nodup_append.1 hnd).2.1,q6,fun b hb b' hb' e=> ?_⟩
    subst e;exact hBd b hb' (by simp[Tr.all,hb])
   rw[Tr.all,t5,List.nodup_append]
   refine⟨by cases t2.b<;>simp,hbs,fun b hb b' hb' e=> ?_⟩
   subst e
   have hb2:t2.b=some b:=by simpa using hb
   rcases a4 with h|h
   ·rw[h] at hb2
    exact hne b (by simpa using hb') hb2.symm
   ·rw[h] at hb2
    injection hb2 with hb2
    rcases List.mem_append.1 hb' with hb'|hb'
    ·have:=(r1.hp.new i tr b e4 (by simp[Tr.all,hb'])).2;omega
    ·have:=hlt b hb';omega)
  (.inr rfl) (fun h=>by cases h) (fun β' m' hev=>by
   refine⟨hke,xs++news,?_,?_⟩
   ·rw[t3,List.length_append,hKe];exact a2
   ·rw[List.map_append,List.flatten_append,t5]
    have hsoft:(d&&d')=true→d=true:=fun h=>by simp at h;exact h.1
    have hsoft':(d&&d')=true→d'=true:=fun h=>by simp at h;exact h.2
    exact OwL.app ((c2.conv hev.sz hev.hX hev.hc (fun b hb=>a3.block b (r1.hp.new i tr b e4 (by simp[Tr.all,hb])).2 (hne b (.inl hb)))).fl hsoft)
     ((q4.conv hev.sz hev.hX hev.hc (fun b hb=>a3.block b (hlt b hb) (hne b (.inr hb)))).fl hsoft'))
 refine wpo (w':=w') (v:=v') (.inl ?_) (hK _ _ β' r2 (fun _=> ?_) (fun h=>by cases h))
 ·simp only[execOp,ho,resolve,invoke,builtin,Sem.run_bind,Sem.run_pure,Result.andThen_ok,List.map_toArray,List.map_cons,List.map_nil,e6,q1,a1]
 ·refine⟨⟨Nat.le_refl _,by rw[←t3];rfl⟩,⟨.tree e (d&&d') (l++l'),s1.m.k+1,s1.m.k+1⟩,t2,?_,r3,fun _=>t3.symm⟩
  rw[uQ (List.nodup_cons.1 hJ).1,cB,List.getElem?_set_self (lt_of_some e5)]
end
end Go.EV

namespace Go.EV
open Go.RowKit Go.VK
variable {U:Uni} {Y:Lay U} {TI:List (Nat×TInfo)} {P:Program} {g:GI} {E:Env U g}
def Ig:Bool×List (Lf U)→V
 |(true,cs)=> .agg (cs.map Lf.toV)
 |(false,[x])=>x.toV
 |_=> .any
def OwP (C:Cod U)(w:World)(v:Value)(B:List Nat):Bool×List (Lf U)→Prop
 |(true,cs)=>∃vs:List Value,v= .agg vs.toArray∧OwL C w (fun _=>False) true vs cs B
 |(false,cs)=>∃c,cs=[c]∧Ow C w (fun _=>False) true v c B
inductive OwPs (C:Cod U) (w:World):List Value→List (Bool×List (Lf U))→List Nat→Prop
 |n:OwPs C w [] [] []
 |c {v:Value} {x:Bool×List (Lf U)} {B B':List Nat} {vs:List Value} {xs:List (Bool×List (Lf U))} (h:OwP C w v B x) (hr:OwPs C w vs xs B'):OwPs C w (v::vs) (x::xs) (B++B')
def OwR (C:Cod U)(w:World)(v:Value)(cps:List (Bool×List (Lf U)))(B:List Nat):Prop:=
 match cps with
 |[x]=>OwP C w v B x
 |xs=>∃vs:List Value,v= .tuple vs.toArray∧OwPs C w vs xs B
def bJp (P:Program)(g:GI)(C:Cod U)(f:FuncId)(Us:List V)(cps:List (Bool×List (Lf U))):Prop:=
 (∀args w,(callFunc f args).run P w= .ok (.enter f args) w)∧
 ∀(w:World) (X:Nat→Prop) (vs:List Value),g.G w→(∀b,X b→b<w.heap.size)→RdL w X vs Us→
  Calls P f vs.toArray w fun e w'=>∃v B,e= .returned v∧Ext w w'∧B.Nodup∧(∀b∈B,w.heap.size≤b)∧OwR C w' v cps B
def bJq (P:Program)(g:GI)(C:Cod U)(f:FuncId)(b:Bool)(cs ds:List (Lf U))(u:V)(k:Int):Prop:=
 (∀args w,(callFunc f args).run P w= .ok (.enter f args) w)∧
 ∀(w:World) (v v1:Value) (B:List Nat),B.Nodup→(∀w',Bel (·∈B) w w'→g.G w')→OwP C w v B (b,cs)→Rd w (fun _=>False) [] v1 u→
  Calls P f #[v,v1] w fun e w'=>e= .returned (.int .i64 k)∧(IntKind.i64.min≤k∧k≤IntKind.i64.max)∧Bel (·∈B) w w'∧∃B',B'.Nodup∧(∀x∈B',x∈B∨w.heap.size≤x)∧OwP C w' v B' (b,ds)
def Ih (P:Program)(g:GI)(Y:Lay U)(f:FuncId)(S:Sum U):Prop:=
 ∀(a:sI U S.ar) (r:sI U S.rs),S.m a=some r→
  (S.wt=false→S.fr=false→VK.Spec P g f ((dJ Y S.ar a).map Ig) (fun v=>v=vE ((dJ Y S.rs r).map Ig)))∧(S.wt=false→S.fr=true→bJp P g Y.C f ((dJ Y S.ar a).map Ig) (dJ Y S.rs r))∧
  (S.wt=true→∀b cs u b' ds b'' k,dJ Y S.ar a=[(b,cs),u]→dJ Y S.rs r=[(b',ds),(b'',[.int .i64 k])]→bJq P g Y.C f b cs ds (Ig u) k)
section
variable {s:St U} {a:Act} {w w':World} {β:List Tr} {α:Type}
theorem bY.aBT {C:Cod U}(r:bY C E s a w β){ns':List (Nat×Bool)}(hn:∀(a i:Nat) (f:Bool),s.m.ns[a]? =some (i,f)→∃f',ns'[a]? =some (i,f'))(hc:∀(a i:Nat),ns'[a]? =some (i,true)→(i:Int)+1≤9223372036854775807):
  bY C E ⟨s.t,⟨s.m.o,s.m.k,ns'⟩,s.fr⟩ a w β:=by
 obtain⟨h1,h2⟩:=r.hp.step (s':=⟨s.m.o,s.m.k,ns'⟩) (β':=β) (w':=w) (fun _=>False) (fun _=>False) (Nat.le_refl _) hn hc r.hp.len (Nat.le_refl _) (Nat.le_refl _) rfl rfl rfl (fun _ _ _=>rfl) (fun _ h=>h.elim) (fun _ _ _=>⟨rfl,rfl⟩)
  (fun j t b hj ht _=>by rcases hj with h|h;exact h.elim;have:=lt_of_some ht;rw[r.hp.len] at this;omega)
  (fun i j t u b hi hj _ ht _ _=>by rcases hi with h|h;exact h.elim;have:=lt_of_some ht;rw[r.hp.len] at this;omega)
  (fun j t hj ht=>by rcases hj with h|h;exact h.elim;have:=lt_of_some ht;rw[r.hp.len] at this;omega)
  (fun j e hj he=>by rcases hj with h|h;exact h.elim;have:=lt_of_some he;simp only at this;omega)
  (fun _ _ _ _ _ h=>h.elim)
  (fun _ j t e hj ht _=>by rcases hj with h|h;exact h.elim;have:=lt_of_some ht;rw[r.hp.len] at this;omega)
 exact r.go h1 h2
def PO (P:Program)(C:Cod U)(E:Env U g)(a:Act)(w:World)(β:List Tr)(o:Oper)(x:Sv U)(s':St U):Prop:=
 ∃v,(∀w',Ext w w'→(execOp a.eval o).run P w'= .ok (.value v) w')∧bY C E s' a w β∧x.mean C w (E.X β) β s'.m v
theorem SO.aCZ {C:Cod U}{o:Oper}{x:Sv U}{s':St U}(h:PO P C E a w β o x s'):SO P C E a w o x s' true:=fun K Q hK=>by
 obtain⟨v,h1,h2,h3⟩:=h
 exact wpo (.inl (h1 w (Ext.refl w))) (hK v w β h2 (fun _=>h3) (fun _=>Ext.refl w))
theorem bEk (r:bY Y.C E s a w β){o:Oper}{t u:TypeId}{x:Operand}{n:Int}{c i:Nat}(ho:o.op= .binOp .add t x (.const (.int .i64 n)) u)(hn:n=1)(hx:Km s x= .l (.nat c))(hc:s.m.ns[c]? =some (i,true)):
  PO P Y.C E a w β o (.l (.nat (len s.m.ns))) ⟨s.t,⟨s.m.o,s.m.k,s.m.ns++[(Nat.succ i,false)]⟩,s.fr⟩:=by
 subst hn
 have hcn:=r.hp.cnt c i hc
 have hm:=jK r (x:=x)
 rw[hx] at hm
 obtain⟨i',f,k1,k2,k3⟩:=hm
 rw[hc] at k1
 injection k1 with k1;injection k1 with k1 _;subst k1
 have r1:bY Y.C E ⟨s.t,⟨s.m.o,s.m.k,s.m.ns++[(Nat.succ i,false)]⟩,s.fr⟩ a w β:=r.aBT (fun a' j f' h=>⟨f',by rw[List.getElem?_append_left (lt_of_some h)];exact h⟩) (fun a' j h=>by
  by_cases hl:a'<s.m.ns.length
  ·rw[List.getElem?_append_left hl] at h;exact r.hp.cnt a' j h
  ·rw[List.getElem?_append_right (by omega)] at h
   cases hq:a'-s.m.ns.length with
   |zero=>rw[hq] at h;simp at h
   |succ q=>rw[hq] at h;simp at h)
 have hw:IntKind.i64.wrap ((i:Int)+1)=((Nat.succ i:Nat):Int):=by rw[IntKind.wrap_i64];omega
 have hx':gH s x= .l (.int .i64 (i:Int)):=by unfold gH;rw[hx];simp only[rsv,bC,hc]
 have hy':gH s (.const (.int .i64 (1:Int)))= .l (.int .i64 (1:Int)):=rfl
 obtain⟨v,h1,h2⟩:=jV (P:=P) r (fun _=>add (t:=t) (u:=u) (dB hx') (dB hy')) o ho
 have hv:v= .int .i64 ((Nat.succ i:Nat):Int):=by rw[←hw];exact h2.1
 exact⟨v,h1,r1,Nat.succ i,false,by rw[dA];simp,hv,by omega⟩
theorem aA {kd:Kd}{x:Lf U}{v:kd.ty U}(h:aU kd x=some v):x=bMv kd v:=by
 cases kd with
 |int k=>
  cases x with
  |int k' n=>
   have h':(if k'=k then some n else none)=some (show Int from v):=h
   split at h'
   ·rename_i e;subst e;have:=Option.some.inj h';subst this;rfl
   ·cases h'
  |_=>cases h
 |bool=>
  cases x with
  |bool b=>have h':some b=some (show Bool from v):=h;have:=Option.some.inj h';subst this;rfl
  |_=>cases h
 |str=>
  cases x with
  |str b=>have h':some b=some (show ByteArray from v):=h;have:=Option.some.inj h';subst this;rfl
  |_=>cases h
 |sl τ=>
  cases x with
  |sl τ' l=>exact bIi (show slq τ τ' l=some v from h)
  |_=>cases h
 |st T=>cases x<;>cases h
theorem aZb {C:Cod U}(H:Hp C E s.m β w){v:Value}{x y:Lf U}{kd:Kd}(hm:x.mean C w (E.X β) β s.m v)(h:rdn s.m kd x=some y){Z:Nat→Prop}(hZ:∀b,Z b→E.X β b)(hZt:mG x=true∨∀(i:Nat) (t:Tr) (b:Nat),β[i]? =some t→b∈t.all→¬Z b):
  y.aAZ=true∧Rd w Z [] v y.toV:=by
 by_cases hx:x= .nil
 ·subst hx
  obtain rfl:=hm
  cases kd with
  |sl τ=>simp only[rdn,Option.some.injEq] at h;subst h;exact⟨rfl, .slice0 (Nat.zero_le _)⟩
  |_=>cases h
 ·have h':mF s.m x=some y:=by
   cases x<;>first|exact absurd rfl hx|exact h
  exact rC H hm h' hZ hZt
theorem aN0 {m:Mm U}{kd:Kd}{ks:List Kd}{x:Lf U}{xs ys:List (Lf U)}(h:rds m (kd::ks) (x::xs)=some ys):∃y ys',rdn m kd x=some y∧rds m ks xs=some ys'∧ys=y::ys':=by
 simp only[rds] at h
 cases h1:rdn m kd x with
 |none=>rw[h1] at h;cases h
 |some y=>
  cases h2:rds m ks xs with
  |none=>rw[h1,h2] at h;cases h
  |some ys'=>rw[h1,h2] at h;exact⟨y,ys',rfl,rfl,(Option.some.inj h).symm⟩
theorem bGh {C:Cod U}(H:Hp C E s.m β w){Z:Nat→Prop}(hZ:∀b,Z b→E.X β b)(ks:List Kd):∀{xs ys:List (Lf U)} {vs:List Value},rds s.m ks xs=some ys→Ms C w (E.X β) β s.m vs xs→(aDw xs=true∨∀(i:Nat) (t:Tr) (b:Nat),β[i]? =some t→b∈t.all→¬Z b)→
  vs.length=ys.length∧∀(i:Nat) (v:Value) (y:Lf U),vs[i]? =some v→ys[i]? =some y→Rd w Z [] v y.toV:=by
 induction ks with
 |nil=>
  intro xs ys vs h hM _
  cases xs with
  |nil=>
   have e:ys=[]:=(Option.some.inj h).symm
   have:vs=[]:=List.eq_nil_of_length_eq_zero hM.1
   subst this;subst e;simp
  |cons x xs=>cases h
 |cons kd ks ih=>
  intro xs ys vs h hM hf
  cases xs with
  |nil=>cases h
  |cons x xs=>
   obtain⟨y,ys',h1,h2,rfl⟩:=aN0 h
   cases vs with
   |nil=>have:=hM.1;simp at this
   |cons v vs=>
    have hf1:mG x=true∨∀(i:Nat) (t:Tr) (b:Nat),β[i]? =some t→b∈t.all→¬Z b:=hf.imp (fun h=>by simp only[aDw,Bool.and_eq_true] at h;exact h.1) id
    have hf2:aDw xs=true∨∀(i:Nat) (t:Tr) (b:Nat),β[i]? =some t→b∈t.all→¬Z b:=hf.imp (fun h=>by simp only[aDw,Bool.and_eq_true] at h;exact h.2) id
    have k1:=(aZb H (hM.2 0 v x rfl rfl) h1 hZ hf1).2
    have k2:=ih h2 ⟨by have:=hM.1;simpa using this,fun i u c p q=>hM.2 (i+1) u c (by simpa using p) (by simpa using q)⟩ hf2
    refine⟨by simp[k2.1],fun i u c p q=> ?_⟩
    cases i with
    |zero=>simp at p q;subst p;subst q;exact k1
    |succ i=>exact k2.2 i u c (by simpa using p) (by simpa using q)
theorem Bg (r:bY Y.C E s a w β){kd:Kd}{x:Sv U}{v:Value}{z:kd.ty U}{Z:Nat→Prop}(hm:x.mean Y.C w (E.X β) β s.m v)(h:Ff Y s.m kd x=some z)(hZ:∀b,Z b→E.X β b)(hf:aYt x=true∨∀(i:Nat) (t:Tr) (b:Nat),β[i]? =some t→b∈t.all→¬Z b):
  Rd w Z [] v (Ig (gJ Y kd z)):=by
 have leaf:∀{y:Lf U},x= .l y→(∀T,kd≠ .st T)→(match rdn s.m kd y with|some q=>aU kd q|none=>none)=some z→Rd w Z [] v (Ig (gJ Y kd z)):=fun {y} hx hkd h0=>by
  subst hx
  cases hr:rdn s.m kd y with
  |none=>rw[hr] at h0;cases h0
  |some q=>
   rw[hr] at h0
   have hq:=aA (show aU kd q=some z from h0)
   have:=(aZb r.hp hm hr hZ (hf.imp (fun h=>h) id)).2
   rw[hq] at this
   cases kd with
   |st T=>exact absurd rfl (hkd T)
   |_=>exact this
 cases kd with
 |st T=>
  cases x with
  |a cs=>
   have h':(match rds s.m (Y.kd T) cs with|some ds=>Y.C.bld T ds|none=>none)=some z:=h
   cases hr:rds s.m (Y.kd T) cs with
   |none=>rw[hr] at h';cases h'
   |some ds=>
    rw[hr] at h'
    obtain⟨vs,rfl,hM⟩:=hm
    have hrd:=bGh r.hp hZ _ hr hM (hf.imp (fun h=>h) id)
    rw[Y.C.hmk T ds z h'] at hrd
    simp only[gJ,Ig]
    refine .agg (by simp[hrd.1]) (fun i u c p q=> ?_)
    rw[List.getElem?_map] at q
    cases hc:(Y.C.cel T z)[i]? with
    |none=>simp[hc] at q
    |some c'=>
     simp only[hc,Option.map_some,Option.some.injEq] at q
     subst q
     exact hrd.2 i u c' (by simpa using p) hc
  |l y=>
   have h':(match rdn s.m (.st T) y with|some q=>aU (.st T) q|none=>none)=some z:=h
   cases hr:rdn s.m (.st T) y with
   |none=>rw[hr] at h';cases h'
   |some q=>rw[hr] at h';cases q<;>cases h'
  |t xs=>cases h
 |int k=>cases x with
  |l y=>exact leaf rfl (by simp) h
  |_=>cases h
 |bool=>cases x with
  |l y=>exact leaf rfl (by simp) h
  |_=>cases h
 |str=>cases x with
  |l y=>exact leaf rfl (by simp) h
  |_=>cases h
 |sl τ=>cases x with
  |l y=>exact leaf rfl (by simp) h
  |_=>cases h
theorem Zr (r:bY Y.C E s a w β){Z:Nat→Prop}(hZ:∀b,Z b→E.X β b)(ks:List Kd):∀{xs:List (Sv U)} {vs:List Value} {z:sI U ks},nL Y s.m ks xs=some z→vs.length=xs.length→(∀(i:Nat) (v:Value) (x:Sv U),vs[i]? =some v→xs[i]? =some x→x.mean Y.C w (E.X β) β s.m v)→
  (Fh xs=true∨∀(i:Nat) (t:Tr) (b:Nat),β[i]? =some t→b∈t.all→¬Z b)→RdL w Z vs ((dJ Y ks z).map Ig):=by
 induction ks with
 |nil=>
  intro xs vs z h hl _ _
  cases xs with
  |nil=>
   have:vs=[]:=List.eq_nil_of_length_eq_zero hl
   subst this;exact⟨rfl,by simp⟩
  |cons x xs=>cases h
 |cons k ks ih=>
  intro xs vs z h hl hm hf
  cases xs with
  |nil=>cases ks<;>cases h
  |cons x xs=>
   cases vs with
   |nil=>simp at hl
   |cons v vs=>
    have hf1:aYt x=true∨∀(i:Nat) (t:Tr) (b:Nat),β[i]? =some t→b∈t.all→¬Z b:=hf.imp (fun h=>by simp only[Fh,Bool.and_eq_true] at h;exact h.1) id
    have hf2:Fh xs=true∨∀(i:Nat) (t:Tr) (b:Nat),β[i]? =some t→b∈t.all→¬Z b:=hf.imp (fun h=>by simp only[Fh,Bool.and_eq_true] at h;exact h.2) id
    cases ks with
    |nil=>
     cases xs with
     |cons y ys=>cases h
     |nil=>
      have e:vs=[]:=List.eq_nil_of_length_eq_zero (by simpa using hl)
      subst e
      have k1:=Bg r (hm 0 v x rfl rfl) (show Ff Y s.m k x=some z from h) hZ hf1
      refine⟨rfl,fun i u W p q=> ?_⟩
      cases i with
      |zero=>simp[dJ] at p q;subst p;subst q;exact k1
      |succ i=>simp at p
    |cons k' ks=>
     have h':(match Ff Y s.m k x with
      |some a=>match nL Y s.m (k'::ks) xs with
       |some b=>some ((a,b):sI U (k::k'::ks))
       |none=>none
      |none=>none)=some z:=h
     cases h1:Ff Y s.m k x with
     |none=>rw[h1] at h';cases h'
     |some z1=>
      cases h2:nL Y s.m (k'::ks) xs with
      |none=>rw[h1,h2] at h';cases h'
      |some z2=>
       rw[h1,h2] at h'
       have e:=(Option.some.inj h').symm
       subst e
       have k1:=Bg r (hm 0 v x rfl rfl) h1 hZ hf1
       have k2:=ih h2 (by simpa using hl) (fun i v x p q=>hm (i+1) v x (by simpa using p) (by simpa using q)) hf2
       refine⟨by simp[dJ,k2.1],fun i u W p q=> ?_⟩
       cases i with
       |zero=>simp[dJ] at p q;subst p;subst q;exact k1
       |succ i=>exact k2.2 i u W (by simpa using p) (by simpa[dJ] using q)
end
end Go.EV

namespace Go.EV
open Go.RowKit Go.VK
variable {U:Uni} {Y:Lay U} {TI:List (Nat×TInfo)} {P:Program} {g:GI} {E:Env U g}
section
variable {s:St U} {a:Act} {w w':World} {β:List Tr} {α:Type} {C:Cod U}
mutual
theorem Ow.aBK {X X':Nat→Prop}{d:Bool}(hd:d=true):∀{v:Value} {x:Lf U} {B:List Nat},Ow C w X d v x B→Ow C w X' d v x B
 |_,_,_, .int h1 h2=> .int h1 h2
 |_,_,_, .bool=> .bool
 |_,_,_, .str h=> .str h
 |_,_,_, .fz h0 _=>by rw[hd] at h0;cases h0
 |_,_,_, .sl t hk hown hc=> .sl t hk hown (OwL.aBK hd hc)
theorem OwL.aBK {X X':Nat→Prop}{d:Bool}(hd:d=true):∀{vs:List Value} {xs:List (Lf U)} {B:List Nat},OwL C w X d vs xs B→OwL C w X' d vs xs B
 |_,_,_, .n=> .n
 |_,_,_, .c h hr=> .c (Ow.aBK hd h) (OwL.aBK hd hr)
end
theorem aVm {X Z:Nat→Prop}{m:Mm U}{v:Value}{c:Lf U}(hc:c.aAZ=true)(h:Rd w Z [] v c.toV)(hX:(∀b,X b→Z b)∨∀τ l,c≠ .sl τ l):c.mean C w X β m v:=by
 cases c with
 |int k n=>exact h.aAP
 |bool b=>exact h.aAS
 |str b=>exact h.aAR
 |sl τ l=>
  rcases hX with hX|hX
  ·exact Rd.conv h (Nat.le_refl _) (fun b _ hb=>hX b hb) (fun _ _ _ h=>h) (fun _ _ h=>h)
  ·exact absurd rfl (hX τ l)
 |_=>cases hc
def bIm (x:Bool×List (Lf U)):Prop:=(∀c∈x.2,c.aAZ=true)∧(x.1=false→∃c,x.2=[c])
theorem aMx {X Z:Nat→Prop}{m:Mm U}{v:Value}{x:Bool×List (Lf U)}(hx:bIm x)(h:Rd w Z [] v (Ig x))(hX:(∀b,X b→Z b)∨∀c∈x.2,∀τ l,c≠ .sl τ l):Mp C w X β m v x:=by
 obtain⟨b,cs⟩:=x
 cases b with
 |false=>
  obtain⟨c,rfl⟩:=hx.2 rfl
  exact⟨c,rfl,aVm (hx.1 c (by simp)) h (hX.imp id fun h=>h c (by simp))⟩
 |true=>
  obtain⟨vs,rfl,h2,h3⟩:=Rd.aAX (show Rd w Z [] v (.agg (cs.map Lf.toV)) from h)
  refine⟨vs.toList,by simp,by simpa using h2,fun i u c p q=> ?_⟩
  exact aVm (hx.1 c (List.mem_of_getElem? q)) (h3 i u _ (by simpa using p) (by rw[List.getElem?_map,q];rfl)) (hX.imp id fun h=>h c (List.mem_of_getElem? q))
theorem aMy {k:Kd}{x:k.ty U}:bIm (gJ Y k x):=by
 cases k with
 |st T=>exact⟨Y.C.hdat T x,fun h=>by cases h⟩
 |_=>exact⟨fun c hc=>by simp only[gJ,List.mem_singleton] at hc;subst hc;rfl,fun _=>⟨_,rfl⟩⟩
theorem aZc (ks:List Kd):∀(z:sI U ks),∀x∈dJ Y ks z,bIm x:=by
 induction ks with
 |nil=>intro z x hx;simp[dJ] at hx
 |cons k ks ih=>
  intro z x hx
  cases ks with
  |nil=>simp only[dJ,List.mem_singleton] at hx;subst hx;exact aMy
  |cons k' ks=>
   simp only[dJ,List.mem_cons] at hx
   rcases hx with rfl|hx
   ·exact aMy
   ·exact ih z.2 x hx
theorem aZd (hY:LayOk Y){k:Kd}(h:flatK Y k=true){x:k.ty U}:∀c∈(gJ Y k x).2,∀τ l,c≠ .sl τ l:=by
 cases k with
 |st T=>exact fun c hc=>aVk hY h hc
 |sl τ=>cases h
 |_=>intro c hc τ l e;simp only[gJ,List.mem_singleton] at hc;rw[hc] at e;cases e
theorem aZe {k:Kd}{ks:List Kd}(h:Fg Y (k::ks)=true):flatK Y k=true∧Fg Y ks=true:=by
 have e:Fg Y (k::ks)=cond (flatK Y k) (Fg Y ks) false:=rfl
 rw[e] at h
 cases hk:flatK Y k with
 |true=>rw[hk] at h;exact⟨rfl,h⟩
 |false=>rw[hk] at h;cases h
theorem bBn (hY:LayOk Y)(ks:List Kd):∀(z:sI U ks),Fg Y ks=true→∀x∈dJ Y ks z,∀c∈x.2,∀τ l,c≠ .sl τ l:=by
 induction ks with
 |nil=>intro z _ x hx;simp[dJ] at hx
 |cons k ks ih=>
  intro z h x hx
  obtain⟨h1,h2⟩:=aZe h
  cases ks with
  |nil=>simp only[dJ,List.mem_singleton] at hx;subst hx;exact aZd hY h1
  |cons k' ks=>
   simp only[dJ,List.mem_cons] at hx
   rcases hx with rfl|hx
   ·exact aZd hY h1
   ·exact ih z.2 h2 x hx
theorem bGi {X Z:Nat→Prop}{m:Mm U}{v:Value}{cps:List (Bool×List (Lf U))}(hc:∀x∈cps,bIm x)(h:Rd w Z [] v (vE (cps.map Ig)))(hX:(∀b,X b→Z b)∨∀x∈cps,∀c∈x.2,∀τ l,c≠ .sl τ l):(aI0 cps).mean C w X β m v:=by
 have many:(∀x,cps≠[x])→(Sv.t cps:Sv U).mean C w X β m v:=fun hn=>by
  have e:vE (cps.map Ig)= .tup (cps.map Ig):=by
   match cps,hn with
   |[],_=>rfl
   |[x],hn=>exact absurd rfl (hn x)
   |_::_::_,_=>rfl
  rw[e] at h
  obtain⟨vs,rfl,h2,h3⟩:=h.aBW
  refine⟨vs.toList,by simp,by simpa using h2,fun i u x p q=> ?_⟩
  have hm:=List.mem_of_getElem? q
  exact aMx (hc x hm) (h3 i u _ (by simpa using p) (by rw[List.getElem?_map,q];rfl)) (hX.imp id fun h=>h x hm)
 match cps,many,hc,h,hX with
 |[],many,_,_,_=>exact many (by simp)
 |[x],_,hc,h,hX=>exact Be (aMx (hc x (by simp)) h (hX.imp id fun h=>h x (by simp)))
 |_::_::_,many,_,_,_=>exact many (by simp)
theorem aXb (r:bY C E s a w β):∀(i:Nat) (t:Tr) (b:Nat),β[i]? =some t→b∈t.all→¬E.X0 b:=fun i t b ht hb hx=>by
 rcases(r.hp.new i t b ht hb).1 with h|h
 ·rcases E.h0 b hx with h'|⟨x,h',rfl⟩
  ·omega
  ·exact(r.hp.prm x h').2.2.2 i t ht hb
 ·exact E.hXY b hx h
theorem Tq {xa:Array Operand}:∀(i:Nat) (v:Value) (x:Sv U),(xa.toList.map a.eval)[i]? =some v→(xa.toList.map (gH s))[i]? =some x→∃y,v=a.eval y∧x=gH s y:=fun i v x p q=>by
 rw[List.getElem?_map] at p q
 cases h:xa.toList[i]? with
 |none=>simp[h] at p
 |some y=>simp only[h,Option.map_some,Option.some.injEq] at p q;exact⟨y,p.symm,q.symm⟩
theorem Fs {f:FuncId}{xa:Array Operand}{ats:Array TypeId}{o:Oper}(ho:o.op= .call {callee:= .value (.func f),args:=xa,argTypes:=ats})(h:∀args w,(callFunc f args).run P w= .ok (.enter f args) w):(execOp a.eval o).run P w= .ok (.enter f (xa.toList.map a.eval).toArray) w:=
 aVa (xs:=xa.toList) (by rw[ho]) h
theorem aJz (hY:LayOk Y)(r:bY Y.C E s a w β){o:Oper}{f:FuncId}{xa:Array Operand}{ats:Array TypeId}{S:Sum U}{z:sI U S.ar}{q:sI U S.rs}(ho:o.op= .call {callee:= .value (.func f),args:=xa,argTypes:=ats})
  (hS:Ih P g Y f S) (hz:nL Y s.m S.ar (xa.toList.map (gH s))=some z) (hmk:S.wt=false) (hfr:S.fr=false) (hff:Fg Y S.rs=true∨Fh (xa.toList.map (gH s))=true) (hq:S.m z=some q):
  SO P Y.C E a w o (aI0 (dJ Y S.rs q)) s true:=fun K Q hK=>by
 have hsp:=(hS z q hq).1 hmk hfr
 have hm:∀(i:Nat) (v:Value) (x:Sv U),(xa.toList.map a.eval)[i]? =some v→(xa.toList.map (gH s))[i]? =some x→x.mean Y.C w (E.X β) β s.m v:=fun i v x p q=>by
  obtain⟨y,rfl,rfl⟩:=Tq i v x p q;exact Bd r
 have go:∀(Z:Nat→Prop),(∀b,Z b→E.X β b)→(Fh (xa.toList.map (gH s))=true∨∀(i:Nat) (t:Tr) (b:Nat),β[i]? =some t→b∈t.all→¬Z b)→((∀b,E.X β b→Z b)∨Fg Y S.rs=true)→o.wp P a w K Q:=fun Z hZ hf hX=>by
  have hrd:=Zr r hZ _ hz (by simp) hm hf
  refine wpc (Fs ho hsp.1) (R':=fun v w'=>Rd w' Z [] v (vE ((dJ Y S.rs q).map Ig))∧Ext w w') ((hsp.2 w Z _ r.hp.gw (fun b hb=>r.hp.aBP b (hZ b hb)) hrd).mono ?_) ?_
  ·rintro e w' ⟨v,r',e1,rfl,e3,e4⟩;exact⟨v,e1,e3,e4⟩
  ·rintro v w' ⟨h3,h4⟩
   exact hK v w' β (r.ext h4) (fun _=>bGi (aZc _ q) h3 (hX.imp id fun h=>bBn hY _ q h)) (fun _=>h4)
 rcases hff with hff|hff
 ·exact go E.X0 (fun b hb=> .inl hb) (.inr (aXb r)) (.inr hff)
 ·exact go (E.X β) (fun _ h=>h) (.inl hff) (.inl fun _ h=>h)
theorem aD0 {k:Nat}:∀{vs:List Value} {cs:List (Lf U)} {B:List Nat} (n:Nat),OwL C w (fun _=>False) true vs cs B→
  ∃ts:List Tr,ts.length=(kV k n cs).2.length∧(ts.map Tr.all).flatten=B∧(∀(j:Nat) (e:EO U) (t:Tr),(kV k n cs).2[j]? =some e→ts[j]? =some t→e.rv=k∧e.cv=k∧∃τ l xs,e.ob= .tree τ true l∧0<U.K τ∧w.ownsRow 0 τ (U.K τ) t.val l.length xs∧OwL C w (fun _=>False) true xs (l.map (C.cel τ)).flatten t.bs)∧
   ∀(X:Nat→Prop) (β':List Tr) (m':Mm U),k≤m'.k→(∀(j:Nat) (e:EO U) (t:Tr),(kV k n cs).2[j]? =some e→ts[j]? =some t→m'.o[n+j]? =some e∧β'[n+j]? =some t)→Ms C w X β' m' vs (kV k n cs).1
 |_,_,_,n, .n=>⟨[],rfl,rfl,by simp[kV],fun _ _ _ _ _=>⟨rfl,by simp⟩⟩
 |_,_,_,n, .c (v:=v) (x:=x) (vs:=vs) (xs:=xs) h hr=>by
  have flat:∀{y:Lf U} {B:List Nat},Ow C w (fun _=>False) true v y B→(∀τ l,y≠ .sl τ l)→B=[]∧∀(X:Nat→Prop) (β':List Tr) (m':Mm U),y.mean C w X β' m' v:=fun {y B} h hn=>by
   cases h with
   |int h1 h2=>exact⟨rfl,fun _ _ _=>⟨rfl,h1,h2⟩⟩
   |bool=>exact⟨rfl,fun _ _ _=>rfl⟩
   |str h9=>exact⟨rfl,fun _ _ _=>⟨rfl,h9⟩⟩
   |fz=>exact absurd rfl (hn _ _)
   |sl=>exact absurd rfl (hn _ _)
  by_cases hs:∃τ l,x= .sl τ l
  ·obtain⟨τ,l,rfl⟩:=hs
   cases h with
   |fz h0=>cases h0
   |sl t hk hown hc=>
    obtain⟨ts,k1,k2,k3,k4⟩:=aD0 (k:=k) (Nat.succ n) hr
    refine⟨t::ts,by simp[kV,k1],by simp[k2],fun j e t' p q=> ?_,fun X β' m' hkm hm=> ?_⟩
    ·cases j with
     |zero=>
      simp only[kV,List.getElem?_cons_zero,Option.some.injEq] at p q
      subst p;subst q
      exact⟨rfl,rfl,τ,l,_,rfl,hk,hown,hc⟩
     |succ j=>exact k3 j e t' (by simpa[kV] using p) (by simpa using q)
    ·have h0:=hm 0 ⟨.tree τ true l,k,k⟩ t (by simp[kV]) rfl
     have hr':=k4 X β' m' hkm (fun j e t' p q=>by
      have:=hm (j+1) e t' (by simpa[kV] using p) (by simpa using q)
      rw[show n+(j+1)=Nat.succ n+j by omega] at this;exact this)
     have e1:(kV k n (.sl τ l::xs)).1= .own n k::(kV k (Nat.succ n) xs).1:=rfl
     rw[e1]
     refine⟨by simp[hr'.1],fun i u c p q=> ?_⟩
     cases i with
     |zero=>
      simp at p q;subst p;subst q
      exact⟨⟨hkm,rfl⟩,_,t,h0.1,h0.2,fun _=>rfl⟩
     |succ i=>exact hr'.2 i u c (by simpa using p) (by simpa using q)
  ·have hn:∀τ l,x≠ .sl τ l:=fun τ l e=>hs ⟨τ,l,e⟩
   obtain⟨rfl,hm0⟩:=flat h hn
   obtain⟨ts,k1,k2,k3,k4⟩:=aD0 (k:=k) n hr
   have e1:kV k n (x::xs)=(x::(kV k n xs).1,(kV k n xs).2):=by
    cases x<;>first|rfl|exact absurd rfl (hn _ _)
   rw[e1]
   refine⟨ts,k1,by simpa using k2,k3,fun X β' m' hkm hm=> ?_⟩
   have hr':=k4 X β' m' hkm hm
   refine⟨by simp[hr'.1],fun i u c p q=> ?_⟩
   cases i with
   |zero=>simp at p q;subst p;subst q;exact hm0 X β' m'
   |succ i=>exact hr'.2 i u c (by simpa using p) (by simpa using q)
theorem Fu {k:Nat}:∀{vs:List Value} {cps:List (Bool×List (Lf U))} {B:List Nat} (n:Nat),OwPs C w vs cps B→
  ∃ts:List Tr,ts.length=(iE k n cps).2.length∧(ts.map Tr.all).flatten=B∧(∀(j:Nat) (e:EO U) (t:Tr),(iE k n cps).2[j]? =some e→ts[j]? =some t→e.rv=k∧e.cv=k∧∃τ l xs,e.ob= .tree τ true l∧0<U.K τ∧w.ownsRow 0 τ (U.K τ) t.val l.length xs∧OwL C w (fun _=>False) true xs (l.map (C.cel τ)).flatten t.bs)∧
   ∀(X:Nat→Prop) (β':List Tr) (m':Mm U),k≤m'.k→(∀(j:Nat) (e:EO U) (t:Tr),(iE k n cps).2[j]? =some e→ts[j]? =some t→m'.o[n+j]? =some e∧β'[n+j]? =some t)→
    vs.length=(iE k n cps).1.length∧∀(i:Nat) (v:Value) (x:Bool×List (Lf U)),vs[i]? =some v→(iE k n cps).1[i]? =some x→Mp C w X β' m' v x
 |_,_,_,n, .n=>⟨[],rfl,rfl,by simp[iE],fun _ _ _ _ _=>⟨rfl,by simp⟩⟩
 |_,_,_,n, .c (v:=v) (x:=x) (B:=B0) (vs:=vs) (xs:=xs) h hr=>by
  obtain⟨b,cs⟩:=x
  have h1:∃us:List Value,OwL C w (fun _=>False) true us cs B0∧∀(X:Nat→Prop) (β':List Tr) (m':Mm U) (cs':List (Lf U)),Ms C w X β' m' us cs'→cs'.length=cs.length→Mp C w X β' m' v (b,cs'):=by
   cases b with
   |true=>
    obtain⟨us,rfl,hu⟩:=h
    exact⟨us,hu,fun _ _ _ cs' hM _=>⟨us,rfl,hM⟩⟩
   |false=>
    obtain⟨c,rfl,hc⟩:=h
    refine⟨[v],by simpa using OwL.c hc .n,fun X β' m' cs' hM hl=> ?_⟩
    match cs',hl with
    |[c'],_=>exact⟨c',rfl,hM.2 0 v c' rfl rfl⟩
  obtain⟨us,hu,hMp⟩:=h1
  obtain⟨t1,a1,a2,a3,a4⟩:=aD0 (k:=k) n hu
  obtain⟨t2,b1,b2,b3,b4⟩:=Fu (k:=k) (n+(kV k n cs).2.length) hr
  have e1:iE k n ((b,cs)::xs)=((b,(kV k n cs).1)::(iE k (n+(kV k n cs).2.length) xs).1,(kV k n cs).2++(iE k (n+(kV k n cs).2.length) xs).2):=by
   simp only[iE,dA]
  rw[e1]
  refine⟨t1++t2,by simp[a1,b1],by simp[a2,b2],fun j e t p q=> ?_,fun X β' m' hkm hm=> ?_⟩
  ·by_cases hj:j<(kV k n cs).2.length
   ·rw[List.getElem?_append_left hj] at p
    rw[List.getElem?_append_left (by omega)] at q
    exact a3 j e t p q
   ·rw[List.getElem?_append_right (by omega)] at p
    rw[List.getElem?_append_right (by omega),a1] at q
    exact b3 _ e t p q
  ·have m1:=a4 X β' m' hkm (fun j e t p q=>by
    have hj:=lt_of_some p
    exact hm j e t (by rw[List.getElem?_append_left hj];exact p) (by rw[List.getElem?_append_left (by omega)];exact q))
   have m2:=b4 X β' m' hkm (fun j e t p q=>by
    have:=hm ((kV k n cs).2.length+j) e t (by rw[List.getElem?_append_right (by omega)];simpa using p) (by rw[List.getElem?_append_right (by omega),a1];simpa using q)
    rw[show n+((kV k n cs).2.length+j)=n+(kV k n cs).2.length+j by omega] at this;exact this)
   refine⟨by simp[m2.1],fun i u x p q=> ?_⟩
   cases i with
   |zero=>
    simp at p q;subst p;subst q
    exact hMp X β' m' _ m1 (by rw[←m1.1,hu.len])
   |succ i=>exact m2.2 i u x (by simpa using p) (by simpa using q)
theorem aXc {v:Value}{cps:List (Bool×List (Lf U))}{B:List Nat}{k n:Nat}(h:OwR C w v cps B):
  ∃ts:List Tr,ts.length=(iE k n cps).2.length∧(ts.map Tr.all).flatten=B∧(∀(j:Nat) (e:EO U) (t:Tr),(iE k n cps).2[j]? =some e→ts[j]? =some t→e.rv=k∧e.cv=k∧∃τ l xs,e.ob= .tree τ true l∧0<U.K τ∧w.ownsRow 0 τ (U.K τ) t.val l.length xs∧OwL C w (fun _=>False) true xs (l.map (C.cel τ)).flatten t.bs)∧
   ∀(X:Nat→Prop) (β':List Tr) (m':Mm U),k≤m'.k→(∀(j:Nat) (e:EO U) (t:Tr),(iE k n cps).2[j]? =some e→ts[j]? =some t→m'.o[n+j]? =some e∧β'[n+j]? =some t)→(aI0 (iE k n cps).1).mean C w X β' m' v:=by
 have many:(∀x,cps≠[x])→(∃vs:List Value,v= .tuple vs.toArray∧OwPs C w vs cps B)→∃ts:List Tr,ts.length=(iE k n cps).2.length∧(ts.map Tr.all).flatten=B∧(∀(j:Nat) (e:EO U) (t:Tr),(iE k n cps).2[j]? =some e→ts[j]? =some t→e.rv=k∧e.cv=k∧∃τ l xs,e.ob= .tree τ true l∧0<U.K τ∧w.ownsRow 0 τ (U.K τ) t.val l.length xs∧OwL C w (fun _=>False) true xs (l.map (C.cel τ)).flatten t.bs)∧
   ∀(X:Nat→Prop) (β':List Tr) (m':Mm U),k≤m'.k→(∀(j:Nat) (e:EO U) (t:Tr),(iE k n cps).2[j]? =some e→ts[j]? =some t→m'.o[n+j]? =some e∧β'[n+j]? =some t)→(aI0 (iE k n cps).1).mean C w X β' m' v:=fun hn ⟨vs,hv,ho⟩=>by
  obtain⟨ts,a1,a2,a3,a4⟩:=Fu (k:=k) n ho
  refine⟨ts,a1,a2,a3,fun X β' m' hk hm=> ?_⟩
  obtain⟨m1,m2⟩:=a4 X β' m' hk hm
  have hl:vs.length=cps.length:=by
   have:∀{vs:List Value} {cps:List (Bool×List (Lf U))} {B:List Nat},OwPs C w vs cps B→vs.length=cps.length:=by
    intro vs cps B h
    induction h with
    |n=>rfl
    |c _ _ ih=>simp[ih]
   exact this ho
  have e:aI0 (iE k n cps).1= .t (iE k n cps).1:=by
   have hlen:(iE k n cps).1.length≠1:=by
    rw[←m1,hl]
    intro h1
    match cps,hn,h1 with
    |[x],hn,_=>exact hn x rfl
   generalize(iE k n cps).1=ys at hlen
   match ys,hlen with
   |[],_=>rfl
   |[_],h=>exact absurd rfl h
   |_::_::_,_=>rfl
  rw[e]
  exact⟨vs,hv,m1,m2⟩
 match cps,many,h with
 |[],many,h=>exact many (by simp) h
 |[x],_,h=>
  have h1:OwPs C w [v] [x] B:=by simpa using OwPs.c (h:OwP C w v B x) .n
  obtain⟨ts,a1,a2,a3,a4⟩:=Fu (k:=k) n h1
  refine⟨ts,a1,a2,a3,fun X β' m' hk hm=> ?_⟩
  obtain⟨m1,m2⟩:=a4 X β' m' hk hm
  obtain⟨b,cs⟩:=x
  have e1:(iE k n [(b,cs)]).1=[(b,(kV k n cs).1)]:=rfl
  rw[e1] at m2 ⊢
  exact Be (m2 0 v _ rfl rfl)
 |_::_::_,many,h=>exact many (by simp) h
theorem aJ0 (r:bY Y.C E s a w β){o:Oper}{f:FuncId}{xa:Array Operand}{ats:Array TypeId}{S:Sum U}{z:sI U S.ar}{q:sI U S.rs}(ho:o.op= .call {callee:= .value (.func f),args:=xa,argTypes:=ats})
  (hS:Ih P g Y f S) (hz:nL Y s.m S.ar (xa.toList.map (gH s))=some z) (hmk:S.wt=false) (hfr:S.fr=true) (hq:S.m z=some q):
  SO P Y.C E a w o (aI0 (iE s.m.k (len s.m.o) (dJ Y S.rs q)).1) ⟨s.t,⟨s.m.o++(iE s.m.k (len s.m.o) (dJ Y S.rs q)).2,s.m.k,s.m.ns⟩,s.fr⟩ true:=fun K Q hK=>by
 have hsp:=(hS z q hq).2.1 hmk hfr
 have hm:∀(i:Nat) (v:Value) (x:Sv U),(xa.toList.map a.eval)[i]? =some v→(xa.toList.map (gH s))[i]? =some x→x.mean Y.C w (E.X β) β s.m v:=fun i v x p q=>by
  obtain⟨y,rfl,rfl⟩:=Tq i v x p q;exact Bd r
 have hrd:=Zr r (Z:=E.X0) (fun b hb=> .inl hb) S.ar hz (by simp) hm (.inr (aXb r))
 refine wpc (Fs ho hsp.1) (R':=fun v w'=>∃B,Ext w w'∧B.Nodup∧(∀b∈B,w.heap.size≤b)∧OwR Y.C w' v (dJ Y S.rs q) B) ((hsp.2 w E.X0 _ r.hp.gw (fun b hb=>r.hp.aBP b (.inl hb)) hrd).mono ?_) ?_
 ·rintro e w' ⟨v,B,e1,e2⟩;exact⟨v,e1,B,e2⟩
 ·rintro v w' ⟨B,he,hnd,hfresh,hR⟩
  obtain⟨ts,a1,a2,a3,a4⟩:=aXc (k:=s.m.k) (n:=len s.m.o) hR
  generalize hes:(iE s.m.k (len s.m.o) (dJ Y S.rs q)).2=es at a1 a3 a4 hK
  have hz1:(es.zip ts).map (·.1)=es:=List.map_fst_zip (by omega)
  have hz2:(es.zip ts).map (·.2)=ts:=List.map_snd_zip (by omega)
  have hget:∀x∈es.zip ts,∃j,es[j]? =some x.1∧ts[j]? =some x.2:=fun x hx=>by
   obtain⟨j,hj⟩:=List.mem_iff_getElem?.1 hx
   rw[List.getElem?_zip_eq_some] at hj
   exact⟨j,hj⟩
  have hB:∀x∈es.zip ts,∀b∈x.2.all,b∈B:=fun x hx b hb=>by
   obtain⟨j,_,hj⟩:=hget x hx
   rw[←a2]
   exact List.mem_flatten.2 ⟨_,List.mem_map.2 ⟨_,List.mem_of_getElem? hj,rfl⟩,hb⟩
  have r1:=r.add he (es.zip ts) (fun x hx=>by
    obtain⟨j,h1,h2⟩:=hget x hx
    have:=a3 j x.1 x.2 h1 h2
    rw[this.1,this.2.1];exact⟨Nat.le_refl _,Nat.le_refl _⟩)
   (fun x hx b hb=>by
    obtain⟨j,h1,h2⟩:=hget x hx
    refine⟨hfresh b (hB x hx b hb),?_⟩
    obtain⟨_,_,τ,l,xs,_,c2,c3,c4⟩:=a3 j x.1 x.2 h1 h2
    have ho:Ow Y.C w' (fun _=>False) true x.2.val (.sl τ l) x.2.all:= .sl x.2 c2 c3 c4
    exact ho.lt b hb)
   (by
    have e:((es.zip ts).map fun x=>x.2.all)=ts.map Tr.all:=by
     have:=congrArg (List.map Tr.all) hz2
     rw[List.map_map] at this;exact this
    rw[e,a2];exact hnd)
   (fun hev x hx=>by
    obtain⟨j,h1,h2⟩:=hget x hx
    obtain⟨_,_,τ,l,xs,c1,c2,c3,c4⟩:=a3 j x.1 x.2 h1 h2
    rw[c1]
    exact⟨c2,xs,c3,c4.aBK rfl⟩)
  rw[hz1,hz2] at r1
  refine hK v w' _ r1 (fun _=>a4 _ _ _ (Nat.le_refl _) (fun j e t p q=> ?_)) (fun _=>he)
  rw[dA]
  refine⟨by rw[List.getElem?_append_right (Nat.le_add_right _ _),Nat.add_sub_cancel_left];exact p,?_⟩
  rw[←r.hp.len,List.getElem?_append_right (Nat.le_add_right _ _),Nat.add_sub_cancel_left];exact q
end
end Go.EV

namespace Go.EV
open Go.RowKit Go.VK
variable {U:Uni} {Y:Lay U} {TI:List (Nat×TInfo)} {FZ:List (Nat×Sum U)} {P:Program} {g:GI} {E:Env U g}
section
variable {s:St U} {a:Act} {w:World} {β:List Tr} {α:Type} {C:Cod U}
theorem vH:∀{l:List (Nat×EO U)} {o:List (EO U)},(aBE l o).length=o.length
 |[],o=>rfl
 |x::l,o=>by
  have e:aBE (x::l) o=upd (aBE l o) x.1 x.2:=rfl
  rw[e,cB,List.length_set,vH]
theorem aMz:∀{l:List (Nat×EO U)},Fj l=l.map (·.1)
 |[]=>rfl
 |x::l=>by
  have e:Fj (x::l)=x.1::Fj l:=rfl
  rw[e,aMz];rfl
theorem aN1:∀{l:List (Nat×EO U)} {o:List (EO U)} {j:Nat},j∉Fj l→(aBE l o)[j]? =o[j]?
 |[],o,j,_=>rfl
 |x::l,o,j,h=>by
  have e:aBE (x::l) o=upd (aBE l o) x.1 x.2:=rfl
  have e2:Fj (x::l)=x.1::Fj l:=rfl
  rw[e2] at h
  rw[e,cB,List.getElem?_set_ne (fun hh=>h (by simp[hh])),aN1 (fun hh=>h (by simp[hh]))]
theorem bC2:∀{l:List (Nat×EO U)} {o:List (EO U)} {j:Nat} {e:EO U},(Fj l).Nodup→(j,e)∈l→j<o.length→(aBE l o)[j]? =some e
 |[],o,j,e,_,h,_=>by simp at h
 |x::l,o,j,e,hn,h,hj=>by
  have e1:aBE (x::l) o=upd (aBE l o) x.1 x.2:=rfl
  have e2:Fj (x::l)=x.1::Fj l:=rfl
  rw[e2] at hn
  obtain⟨n1,n2⟩:=List.nodup_cons.1 hn
  rw[e1,cB]
  rcases List.mem_cons.1 h with h|h
  ·subst h
   rw[List.getElem?_set_self (by rw[vH];exact hj)]
  ·have hm:j∈Fj l:=by rw[aMz];exact List.mem_map.2 ⟨_,h,rfl⟩
   rw[List.getElem?_set_ne (fun hh=>n1 (by rw[hh];exact hm))]
   exact bC2 n2 h hj
theorem aXd {τ k n:Nat}{t:Tr}{xs xs':List Value}(k2:w.ownsRow 0 τ k t.val n xs)(a5:w.ownsRow 0 τ k t.val n xs'):xs=xs':=by
 rcases fQ k2 with⟨b1,b2,b3,_⟩|⟨b,cur,b1,_,_,_,b5,_,b7⟩
 ·rw[b3]
  have:=a5.1;rw[b2] at this;simp at this;exact this.symm
 ·rcases fQ a5 with⟨c1,_⟩|⟨b',cur',c1,_,_,_,c5,_,c7⟩
  ·rw[b1] at c1;cases c1
  ·rw[b1] at c1;injection c1 with c1;subst c1
   rw[b5] at c5;injection c5 with c5;injection c5 with c5;subst c5
   rw[←b7,←c7]
theorem in4 {x:Nat}{l a b c d:List Nat}(hl:l=a++(b++(c++d)))(h:x∈a++(b++d)):x∈l:=by
 rw[hl]
 simp only[List.mem_append] at h ⊢
 rcases h with h|h|h
 ·exact .inl h
 ·exact .inr (.inl h)
 ·exact .inr (.inr (.inr h))
theorem bKn {δ:Type}{l:List δ}(h:l.Nodup){i j:Nat}{x:δ}(hi:l[i]? =some x)(hj:l[j]? =some x):i=j:=by
 have hp:=List.pairwise_iff_getElem.1 h
 obtain⟨l1,e1⟩:=List.getElem?_eq_some_iff.1 hi
 obtain⟨l2,e2⟩:=List.getElem?_eq_some_iff.1 hj
 rcases Nat.lt_trichotomy i j with q|q|q
 ·exact absurd (e1.trans e2.symm) (hp i j l1 l2 q)
 ·exact q
 ·exact absurd (e2.trans e1.symm) (hp j i l2 l1 q)
theorem vI:∀{ks:List Kd},Ng (U:=U) ks=true→∀kd∈ks,∀τ,kd= .sl τ→0<U.K τ
 |[],_,kd,h,_,_=>by simp at h
 |k::ks,h,kd,hk,τ,e=>by
  cases k with
  |sl τ'=>
   simp only[Ng,Bool.and_eq_true] at h
   rcases List.mem_cons.1 hk with rfl|hk
   ·injection e with e;subst e;exact Nat.le_of_ble_eq_true h.1
   ·exact vI h.2 kd hk τ e
  |_=>
   rcases List.mem_cons.1 hk with rfl|hk
   ·cases e
   ·exact vI (ks:=ks) h kd hk τ e
def bIn (C:Cod U)(w:World)(t:Tr)(τ:Nat)(L:List (U.El τ)):Prop:=0<U.K τ∧∃xs,w.ownsRow 0 τ (U.K τ) t.val L.length xs∧OwL C w (fun _=>False) true xs (L.map (C.cel τ)).flatten t.bs
structure Hd (C:Cod U) (m:Mm U) (w:World) (β:List Tr) (v:Value) (y':Lf U) (i:Nat) (e:EO U) (t:Tr) (B:List Nat):Prop where
 ht:β[i]? =some t
 he:∃e0 τ L,m.o[i]? =some e0∧e0.ob.aAT=false∧e=⟨.tree τ true L,e0.rv,Nat.succ m.k⟩
 sub:∀b∈B,b∈t.all
 back:∀w' B',w.heap.size≤w'.heap.size→Ow C w' (fun _=>False) true v y' B'→(∀b∈t.all,b∉B→w'.heap[b]? =w.heap[b]?)→
  ∃t' τ L,t'.val=t.val∧(∀b∈t'.all,b∈B'∨(b∈t.all∧b∉B))∧(B'.Nodup→(∀b∈B',b∈t.all→b∈B)→t'.all.Nodup)∧e.ob= .tree τ true L∧bIn C w' t' τ L
theorem bGj {X:Nat→Prop}{y:Lf U}{B:List Nat}(h:Ow C w X true (.slice none 0 0) y B):B=[]:=by
 generalize hv:Value.slice none 0 0=v at h
 cases h with
 |int=>cases hv
 |bool=>cases hv
 |str=>cases hv
 |fz h0=>cases h0
 |sl t hk hown hc=>
  obtain⟨b,n,c,bs⟩:=t
  simp only[Tr.val,Value.slice.injEq] at hv
  obtain⟨h1,rfl,rfl⟩:=hv
  cases b with
  |some b=>cases h1
  |none=>
   rcases fQ hown with⟨_,h2,h3,_⟩|⟨b,_,h2,_⟩
   ·subst h3
    have hl:=List.eq_nil_of_length_eq_zero h2
    subst hl
    cases hc
    rfl
   ·cases h2
theorem bGk {X:Nat→Prop}{v:Value}{y:Lf U}{B:List Nat}(h:Ow C w X true v y B)(hv:∀b n c,v≠ .slice b n c):B=[]:=by
 cases h with
 |sl t=>exact absurd rfl (hv _ _ _)
 |_=>rfl
theorem bGl (hY:LayOk Y)(H:Hp Y.C E s.m β w){kd:Kd}{x y y':Lf U}{us:List (Nat×EO U)}{v:Value}(hm:x.mean Y.C w (E.X β) β s.m v)(hr:rdn s.m kd x=some y)(hw:wr1 Y s.m x y'=some us)(hK:∀τ,kd= .sl τ→0<U.K τ):
  ∃B,Ow Y.C w (fun _=>False) true v y B∧B.Nodup∧((us=[]∧B=[]∧∀w' B',Ow Y.C w' (fun _=>False) true v y' B'→B'=[])∨∃i e t,us=[(i,e)]∧Hd Y.C s.m w β v y' i e t B):=by
 have flat:mG x=true→mF s.m x=some y→us=[]→(∀τ ll,y≠ .sl τ ll)→∃B,Ow Y.C w (fun _=>False) true v y B∧B.Nodup∧((us=[]∧B=[]∧∀w' B',Ow Y.C w' (fun _=>False) true v y' B'→B'=[])∨∃i e t,us=[(i,e)]∧Hd Y.C s.m w β v y' i e t B):=fun hf hr hl hns=>by
  obtain⟨k1,k2⟩:=rC H hm hr (Z:=fun _=>False) (fun _ h=>h.elim) (.inl hf)
  refine⟨[],?_,List.nodup_nil, .inl ⟨hl,rfl,fun w' B' h=>bGk h ?_⟩⟩
  ·cases y with
   |int k n=>obtain⟨rfl,h1,h2⟩:=k2.aAP;exact .int h1 h2
   |bool b=>obtain rfl:=k2.aAS;exact .bool
   |str z=>obtain⟨rfl,h1⟩:=k2.aAR;exact .str h1
   |sl τ ll=>exact absurd rfl (hns τ ll)
   |_=>cases k1
  ·cases y with
   |int k n=>obtain⟨rfl,h1,h2⟩:=k2.aAP;intro _ _ _ e;cases e
   |bool b=>obtain rfl:=k2.aAS;intro _ _ _ e;cases e
   |str z=>obtain⟨rfl,h1⟩:=k2.aAR;intro _ _ _ e;cases e
   |sl τ ll=>exact absurd rfl (hns τ ll)
   |_=>cases k1
 cases x with
 |own i r=>
  obtain⟨_,e,t,h2,h3,h4⟩:=hm
  obtain⟨ob,rv,cv⟩:=e
  replace hr:mF s.m (.own i r)=some y:=hr
  simp only[mF,bC,h2] at hr
  simp only[wr1,bC,h2] at hw
  cases ob with
  |tree τ' d l0=>
   simp only at hr
   split at hw
   ·rename_i o' τ1 d1 l1 rv1 cv1 τ l heq
    injection heq with heq
    injection heq with q1 q2 q3
    injection q1 with q4 q5 q6
    subst q4;subst q5;subst q2;subst q3
    have q6:=eq_of_heq q6;subst q6
    cases hb:(d&&(Nat.beq rv r&&Nat.beq τ' τ)) with
    |false=>rw[hb] at hw;cases hw
    |true=>
     rw[hb] at hw
     simp only[cond_true] at hw
     have:=Option.some.inj hw;subst this
     simp only[Bool.and_eq_true] at hb
     obtain⟨hd,hb1,hb2⟩:=hb
     subst hd
     have hb2:=Nat.eq_of_beq_eq_true hb2;subst hb2
     rw[hb1] at hr
     have:=Option.some.inj hr;subst this
     have hv:=h4 (Nat.eq_of_beq_eq_true hb1)
     refine⟨t.all,?_,H.nd i t h3, .inr ⟨i,_,t,rfl,h3,⟨_,τ',l,h2,rfl,rfl⟩,fun _ h=>h,fun w' B' hsz ho hh=> ?_⟩⟩
     ·rw[hv];exact(Hp.tree H h3 h2 rfl).aBK rfl
     ·generalize hyy:(Lf.sl τ' l:Lf U)=yy at ho
      cases ho with
      |fz h0=>cases h0
      |sl t' hk hown hc=>
       injection hyy with e1 e2
       subst e1;have e2:=eq_of_heq e2;subst e2
       refine⟨t',_,_,hv,fun b hb=> .inl hb,fun hnd _=>hnd,rfl,hk,_,hown,hc⟩
      |_=>cases hyy
   ·cases hw
  |_=>cases hr
 |inn i c τ q z j τ' l0=>
  obtain⟨hone,e,t,h2,h3,h4⟩:=hm
  obtain⟨ob,rv,cv⟩:=e
  replace hr:mF s.m (.inn i c τ q z j τ' l0)=some y:=hr
  simp only[mF,okv,bC,h2] at hr
  simp only[wr1,bC,h2] at hw
  cases ob with
  |tree τ1 d L0=>
   split at hw
   ·rename_i o' τ2 d1 l1 rv1 cv1 τ'' l heq
    injection heq with heq
    injection heq with q1 q2 q3
    injection q1 with q4 q5 q6
    subst q4;subst q5;subst q2;subst q3
    have q6:=eq_of_heq q6;subst q6
    cases hb:(d&&(Nat.beq cv c&&Nat.beq τ'' τ')) with
    |false=>rw[hb] at hw;cases hw
    |true=>
     rw[hb] at hw
     simp only[cond_true] at hw
     simp only[Bool.and_eq_true] at hb
     obtain⟨hd,hb1,hb2⟩:=hb
     subst hd
     have hb2:=Nat.eq_of_beq_eq_true hb2;subst hb2
     rw[hb1] at hr
     have:=Option.some.inj hr;subst this
     cases hs:slq τ τ1 L0 with
     |none=>rw[hs] at hw;cases hw
     |some L=>
      rw[hs] at hw
      obtain⟨rfl,hL⟩:=mH hs
      have hL:=eq_of_heq hL;subst hL
      simp only at hw
      split at hw
      ·rename_i z' hz'
       have:=Option.some.inj hw;subst this
       obtain⟨d',L',xs,a1,a2,a3,a4,a5,a6⟩:=h4 (Nat.eq_of_beq_eq_true hb1)
       injection a1 with a11 a12 a13
       subst a12;subst a13
       have hok:=H.ok i t _ h3 h2
       obtain⟨k1,xs',k2,k3⟩:=hok
       obtain rfl:=aXd k2 a5
       obtain⟨l1,l2,g1,g2,g3,g4⟩:=Tj (Y.C.hlen τ1) a3
       obtain⟨c1,c2,g5,g6⟩:∃c1 c2,Y.C.cel τ1 z=c1++(.sl τ'' l0)::c2∧c1.length=j:=by
        obtain⟨hj,hj2⟩:=List.getElem?_eq_some_iff.1 a4
        exact⟨(Y.C.cel τ1 z).take j,(Y.C.cel τ1 z).drop (j+1),by rw[←hj2,List.getElem_cons_drop,List.take_append_drop],by rw[List.length_take];omega⟩
       have hcel':Y.C.cel τ1 z'=c1++(.sl τ'' l)::c2:=by
        rw[←Y.C.hmk _ _ _ hz',cB,g5,List.set_append_right _ _ (by omega)]
        simp[g6]
       rw[g3,g5] at k3
       rw[show(l1.map (Y.C.cel τ1)).flatten++((c1++ .sl τ'' l0::c2)++(l2.map (Y.C.cel τ1)).flatten)=((l1.map (Y.C.cel τ1)).flatten++c1)++(.sl τ'' l0::(c2++(l2.map (Y.C.cel τ1)).flatten)) by simp] at k3
       obtain⟨v1,v2,B1,B2',rfl,hbs,o1,o2⟩:=OwL.split k3
       cases o2 with
       |c ho orest=>
        rename_i u B Br vr
        have hlen1:v1.length=q.toNat*U.K τ1+j:=by rw[o1.len,List.length_append,g4,g6]
        have hu:u=v:=by
         rw[←hlen1,List.getElem?_append_right (Nat.le_refl _),Nat.sub_self] at a6
         simpa using a6
        subst hu
        have hnd:=H.nd i t h3
        have hsub:∀b∈B,b∈t.bs:=fun b hb=>by rw[hbs];simp[hb]
        have hall:t.all=t.b.toList++(B1++(B++Br)):=by rw[←hbs];rfl
        rw[hall] at hnd
        obtain⟨n1,n2,n3⟩:=List.nodup_append.1 hnd
        obtain⟨n4,n5,n6⟩:=List.nodup_append.1 n2
        obtain⟨n7,n8,n9⟩:=List.nodup_append.1 n5
        refine⟨B,ho.aBK rfl,n7, .inr ⟨i,_,t,rfl,h3,⟨_,τ1,_,h2,rfl,rfl⟩,fun b hb=>by rw[hall];simp[hb],fun w' B' hsz ho' hh=> ?_⟩⟩
        have hkeep:∀b∈t.b.toList++(B1++Br),w'.heap[b]? =w.heap[b]? :=fun b hb=>by
         refine hh b (in4 hall hb) (fun hB=> ?_)
         simp only[List.mem_append] at hb
         rcases hb with hb|hb|hb
         ·exact n3 b hb b (by simp[hB]) rfl
         ·exact n6 b hb b (by simp[hB]) rfl
         ·exact n9 b hB b hb rfl
        let t':Tr:=⟨t.b,t.n,t.c,B1++(B'++Br)⟩
        have hval:t'.val=t.val:=rfl
        refine⟨t',τ1,L0.set q.toNat z',hval,fun b hb=> ?_,fun hB' hdis=> ?_,rfl,k1,v1++u::vr,?_,?_⟩
        ·have hb':b∈t.b.toList++(B1++(B'++Br)):=hb
         simp only[List.mem_append] at hb'
         have key:b∈t.b.toList++(B1++Br)→b∈t.all∧b∉B:=fun hb=>by
          refine⟨in4 hall hb,fun hB=> ?_⟩
          simp only[List.mem_append] at hb
          rcases hb with hb|hb|hb
          ·exact n3 b hb b (by simp[hB]) rfl
          ·exact n6 b hb b (by simp[hB]) rfl
          ·exact n9 b hB b hb rfl
         rcases hb' with hb'|hb'|hb'|hb'
         ·exact .inr (key (by simp[hb']))
         ·exact .inr (key (by simp[hb']))
         ·exact .inl hb'
         ·exact .inr (key (by simp[hb']))
        ·show(t.b.toList++(B1++(B'++Br))).Nodup
         have hin:∀b∈B',b∈t.b.toList++(B1++Br)→False:=fun b hb hb2=>by
          have hB:=hdis b hb (in4 hall hb2)
          simp only[List.mem_append] at hb2
          rcases hb2 with h|h|h
          ·exact n3 b h b (by simp[hB]) rfl
          ·exact n6 b h b (by simp[hB]) rfl
          ·exact n9 b hB b h rfl
         refine List.nodup_append.2 ⟨n1,List.nodup_append.2 ⟨n4,List.nodup_append.2 ⟨hB',n8,fun x hx y hy e=> ?_⟩,fun x hx y hy e=> ?_⟩,fun x hx y hy e=> ?_⟩
         ·subst e;exact hin x hx (by simp[hy])
         ·subst e
          rcases List.mem_append.1 hy with hy|hy
          ·exact hin x hy (by simp[hx])
          ·exact n6 x hx x (by simp[hy]) rfl
         ·subst e
          simp only[List.mem_append] at hy
          rcases hy with hy|hy|hy
          ·exact n3 x hx x (by simp[hy]) rfl
          ·exact hin x hy (by simp[hx])
          ·exact n3 x hx x (by simp[hy]) rfl
        ·rw[List.length_set]
         exact uP (t:=t) k2 (fun b hb=>hkeep b (by simp[hb]))
        ·have hLs:(L0.set q.toNat z')=l1++z'::l2:=by
          rw[g1,List.set_append_right _ _ (by omega)]
          simp[g2]
         rw[hLs]
         simp only[List.map_append,List.map_cons,List.flatten_append,List.flatten_cons,hcel']
         rw[show(l1.map (Y.C.cel τ1)).flatten++((c1++ .sl τ'' l::c2)++(l2.map (Y.C.cel τ1)).flatten)=((l1.map (Y.C.cel τ1)).flatten++c1)++(.sl τ'' l::(c2++(l2.map (Y.C.cel τ1)).flatten)) by simp]
         refine OwL.app ?_ (.c ho' ?_)
         ·exact(o1.aBK (X':=fun _=>True) rfl).conv hsz (fun _ _ _=>trivial) (fun _ _ h=>absurd trivial h) (fun b hb=>hkeep b (by simp[hb]))
         ·exact(orest.aBK (X':=fun _=>True) rfl).conv hsz (fun _ _ _=>trivial) (fun _ _ h=>absurd trivial h) (fun b hb=>hkeep b (by simp[hb]))
      ·cases hw
   ·cases hw
  |_=>cases y'<;>cases hw
 |nil=>
  obtain rfl:=hm
  have:=Option.some.inj (show some []=some us from hw);subst this
  cases kd with
  |sl τ=>
   have:=Option.some.inj (show some (Lf.sl τ [])=some y from hr);subst this
   exact⟨[], .sl Zp (hK τ rfl) (World.ownsRow_nil w 0 τ (U.K τ)) .n,List.nodup_nil, .inl ⟨rfl,rfl,fun w' B' h=>bGj h⟩⟩
  |_=>cases hr
 |int k n=>have e:=Option.some.inj (show some (Lf.int k n)=some y from hr);exact flat rfl hr (Option.some.inj hw).symm (fun _ _ e'=>by rw[←e] at e';cases e')
 |bool b=>have e:=Option.some.inj (show some (Lf.bool b)=some y from hr);exact flat rfl hr (Option.some.inj hw).symm (fun _ _ e'=>by rw[←e] at e';cases e')
 |str b=>have e:=Option.some.inj (show some (Lf.str b)=some y from hr);exact flat rfl hr (Option.some.inj hw).symm (fun _ _ e'=>by rw[←e] at e';cases e')
 |nat c=>
  refine flat rfl hr (Option.some.inj hw).symm (fun τ ll e'=> ?_)
  subst e'
  replace hr:mF s.m (.nat c)=some (.sl τ ll):=hr
  simp only[mF] at hr
  split at hr<;>cases hr
 |lt c n=>
  refine flat rfl hr (Option.some.inj hw).symm (fun τ ll e'=> ?_)
  subst e'
  replace hr:mF s.m (.lt c n)=some (.sl τ ll):=hr
  simp only[mF] at hr
  split at hr<;>cases hr
 |sl=>cases hw
 |bor=>cases hw
 |_=>cases hr
structure Wo (U:Uni) where
 i:Nat
 e:EO U
 t:Tr
 B:List Nat
 v:Value
 y:Lf U
theorem aZf {m:Mm U}{x y:Lf U}{xs ys:List (Lf U)}{us:List (Nat×EO U)}(h:wrm Y m (x::xs) (y::ys)=some us):∃u u',wr1 Y m x y=some u∧wrm Y m xs ys=some u'∧us=u++u':=by
 simp only[wrm] at h
 cases h1:wr1 Y m x y with
 |none=>rw[h1] at h;cases h
 |some u=>
  cases h2:wrm Y m xs ys with
  |none=>rw[h1,h2] at h;cases h
  |some u'=>rw[h1,h2] at h;exact⟨u,u',rfl,rfl,(Option.some.inj h).symm⟩
theorem aZg (hY:LayOk Y)(H:Hp Y.C E s.m β w):∀(ks:List Kd) {cs csd ds:List (Lf U)} {us:List (Nat×EO U)} {vs:List Value},rds s.m ks cs=some csd→wrm Y s.m cs ds=some us→Ms Y.C w (E.X β) β s.m vs cs→(∀kd∈ks,∀τ,kd= .sl τ→0<U.K τ)→
  ∃W:List (Wo U),OwL Y.C w (fun _=>False) true vs csd ((W.map (·.B)).flatten)∧us=W.map (fun r=>(r.i,r.e))∧(∀r∈W,r.B.Nodup∧Hd Y.C s.m w β r.v r.y r.i r.e r.t r.B)∧
   ∀w' B',OwL Y.C w' (fun _=>False) true vs ds B'→∃Bs:List (List Nat),Bs.length=W.length∧Bs.flatten=B'∧∀(n:Nat) (r:Wo U) (b:List Nat),W[n]? =some r→Bs[n]? =some b→Ow Y.C w' (fun _=>False) true r.v r.y b
 |[],[],csd,ds,us,vs,h,hw,hM,_=>by
  have:=Option.some.inj h;subst this
  have hv:vs=[]:=List.eq_nil_of_length_eq_zero hM.1
  subst hv
  cases ds with
  |nil=>
   have:=Option.some.inj hw;subst this
   refine⟨[], .n,rfl,by simp,fun w' B' h=>⟨[],rfl,?_,by simp⟩⟩
   cases h;rfl
  |cons=>cases hw
 |[],_::_,_,_,_,_,h,_,_,_=>by cases h
 |_::_,[],_,_,_,_,h,_,_,_=>by cases h
 |kd::ks,x::xs,csd,ds,us,vs,h,hw,hM,hK=>by
  obtain⟨y,ys,h1,h2,rfl⟩:=aN0 h
  cases ds with
  |nil=>cases hw
  |cons y' ys'=>
   obtain⟨u,u',w1,w2,rfl⟩:=aZf hw
   cases vs with
   |nil=>have:=hM.1;simp at this
   |cons v vs=>
    obtain⟨W,p1,p2,p3,p4⟩:=aZg hY H ks h2 w2 ⟨by have:=hM.1;simpa using this,fun i u c p q=>hM.2 (i+1) u c (by simpa using p) (by simpa using q)⟩ (fun kd' hk=>hK kd' (by simp[hk]))
    obtain⟨B,q1,q2,q3⟩:=bGl hY H (hM.2 0 v x rfl rfl) h1 w1 (hK kd (by simp))
    rcases q3 with⟨rfl,rfl,q4⟩|⟨i,e,t,rfl,q4⟩
    ·refine⟨W,by simpa using OwL.c q1 p1,by simpa using p2,p3,fun w' B' ho=> ?_⟩
     cases ho with
     |c ho hr=>
      have:=q4 w' _ ho;subst this
      obtain⟨Bs,a1,a2,a3⟩:=p4 w' _ hr
      exact⟨Bs,a1,by simpa using a2,a3⟩
    ·refine⟨⟨i,e,t,B,v,y'⟩::W,by simpa using OwL.c q1 p1,by simp[p2],fun r hr=> ?_,fun w' B' ho=> ?_⟩
     ·rcases List.mem_cons.1 hr with rfl|hr
      ·exact⟨q2,q4⟩
      ·exact p3 r hr
     ·cases ho with
      |c ho hr=>
       rename_i b b'
       obtain⟨Bs,a1,a2,a3⟩:=p4 w' _ hr
       refine⟨b::Bs,by simp[a1],by simp[a2],fun n r c e1 e2=> ?_⟩
       cases n with
       |zero=>simp at e1 e2;subst e1;subst e2;exact ho
       |succ n=>exact a3 n r c (by simpa using e1) (by simpa using e2)
noncomputable def aXe (W:List (Nat×Tr))(β:List Tr):List Tr:=W.foldr (fun x l=>l.set x.1 x.2) β
theorem Y3:∀{W:List (Nat×Tr)} {β:List Tr},(aXe W β).length=β.length
 |[],_=>rfl
 |x::W,β=>by show((aXe W β).set _ _).length=_;rw[List.length_set,Y3]
theorem aZh:∀{W:List (Nat×Tr)} {β:List Tr} {j:Nat},j∉W.map (·.1)→(aXe W β)[j]? =β[j]?
 |[],_,_,_=>rfl
 |x::W,β,j,h=>by
  simp only[List.map_cons,List.mem_cons,not_or] at h
  show((aXe W β).set _ _)[j]? =_
  rw[List.getElem?_set_ne (Ne.symm h.1),aZh h.2]
theorem bC3:∀{W:List (Nat×Tr)} {β:List Tr} {j:Nat} {t:Tr},(W.map (·.1)).Nodup→(j,t)∈W→j<β.length→(aXe W β)[j]? =some t
 |[],_,_,_,_,h,_=>by simp at h
 |x::W,β,j,t,hn,h,hj=>by
  simp only[List.map_cons] at hn
  obtain⟨n1,n2⟩:=List.nodup_cons.1 hn
  show((aXe W β).set _ _)[j]? =_
  rcases List.mem_cons.1 h with h|h
  ·subst h;rw[List.getElem?_set_self (by rw[Y3];exact hj)]
  ·have hm:j∈W.map (·.1):=List.mem_map.2 ⟨_,h,rfl⟩
   rw[List.getElem?_set_ne (fun hh=>n1 (by rw[hh];exact hm))]
   exact bC3 n2 h hj
theorem bY.wrote (r:bY Y.C E s a w β){w':World}{W:List (Wo U)}(hn:(W.map (·.i)).Nodup)(hW:∀r∈W,r.B.Nodup∧Hd Y.C s.m w β r.v r.y r.i r.e r.t r.B)(hbel:Bel (·∈(W.map (·.B)).flatten) w w')
  {Bs:List (List Nat)} (hl:Bs.length=W.length) (hnd:Bs.flatten.Nodup) (hsub:∀x∈Bs.flatten,x∈(W.map (·.B)).flatten∨w.heap.size≤x) (how:∀(n:Nat) (r:Wo U) (b:List Nat),W[n]? =some r→Bs[n]? =some b→Ow Y.C w' (fun _=>False) true r.v r.y b):
  ∃β',bY Y.C E ⟨s.t,⟨aBE (W.map fun r=>(r.i,r.e)) s.m.o,Nat.succ s.m.k,s.m.ns⟩,s.fr⟩ a w' β':=by
 have H:=r.hp
 have hget:∀{n:Nat} {r:Wo U},W[n]? =some r→r∈W:=fun h=>List.mem_of_getElem? h
 have hdisj:∀{r1 r2:Wo U} {b:Nat},r1∈W→r2∈W→r1.i≠r2.i→b∈r1.t.all→b∉r2.t.all:=fun {r1 r2 b} h1 h2 hne hb=>
  H.dist r1.i r2.i r1.t r2.t b hne (hW r1 h1).2.ht (hW r2 h2).2.ht hb
 have hBall:∀{b:Nat},b∈(W.map (·.B)).flatten→∃r∈W,b∈r.B:=fun {b} h=>by
  obtain⟨l,hl,hb⟩:=List.mem_flatten.1 h
  obtain⟨r,hr,rfl⟩:=List.mem_map.1 hl
  exact⟨r,hr,hb⟩
 have hinj:∀{r1 r2:Wo U},r1∈W→r2∈W→r1.i=r2.i→r1=r2:=fun {r1 r2} h1 h2 he=>by
  obtain⟨n1,q1⟩:=List.mem_iff_getElem?.1 h1
  obtain⟨n2,q2⟩:=List.mem_iff_getElem?.1 h2
  have:n1=n2:=bKn hn (x:=r1.i) (by rw[List.getElem?_map,q1];rfl) (by rw[List.getElem?_map,q2,he];rfl)
  subst this
  rw[q1] at q2;exact Option.some.inj q2
 have hBt:∀{r1:Wo U} {b:Nat},r1∈W→b∈r1.t.all→b∈(W.map (·.B)).flatten→b∈r1.B:=fun {r1 b} h1 hb hB=>by
  obtain⟨r2,h2,hb2⟩:=hBall hB
  by_cases he:r1.i=r2.i
  ·rw[hinj h1 h2 he];exact hb2
  ·exact absurd ((hW r2 h2).2.sub b hb2) (hdisj h1 h2 he hb)
 have hback:∀(n:Nat) (r1:Wo U) (b:List Nat),W[n]? =some r1→Bs[n]? =some b→∃t':Tr,t'.val=r1.t.val∧(∀x∈t'.all,x∈b∨(x∈r1.t.all∧x∉r1.B))∧t'.all.Nodup∧∃τ L,r1.e.ob= .tree τ true L∧bIn Y.C w' t' τ L:=fun n r1 b h1 h2=>by
  have hr1:=hget h1
  have hbB:∀x∈b,x∈r1.t.all→x∈(W.map (·.B)).flatten:=fun x hx hxt=>(hsub x (List.mem_flatten.2 ⟨b,List.mem_of_getElem? h2,hx⟩)).resolve_right (fun h=>by have:=(H.new r1.i r1.t x (hW r1 hr1).2.ht hxt).2;omega)
  obtain⟨t',τ,L,a1,a2,a3,a4,a5⟩:=(hW r1 hr1).2.back w' b hbel.size (how n r1 b h1 h2) (fun x hx hxn=>hbel.block x (H.new r1.i r1.t x (hW r1 hr1).2.ht hx).2 (fun hB=>hxn (hBt hr1 hx hB)))
  exact⟨t',a1,a2,a3 ((List.pairwise_flatten.1 hnd).1 b (List.mem_of_getElem? h2)) (fun x hx hxt=>hBt hr1 hxt (hbB x hx hxt)),τ,L,a4,a5⟩
 have hex:∀n:Nat,∃t':Tr,∀r1:Wo U,W[n]? =some r1→∃b,Bs[n]? =some b∧t'.val=r1.t.val∧(∀x∈t'.all,x∈b∨(x∈r1.t.all∧x∉r1.B))∧t'.all.Nodup∧∃τ L,r1.e.ob= .tree τ true L∧bIn Y.C w' t' τ L:=fun n=>by
  cases h1:W[n]? with
  |none=>exact⟨Zp,fun r1 h=>by cases h⟩
  |some r0=>
   have h2:Bs[n]? =some (Bs[n]'(by rw[hl];exact lt_of_some h1)):=List.getElem?_eq_getElem _
   obtain⟨t',h3⟩:=hback n r0 _ h1 h2
   exact⟨t',fun r1 h=>by have:=Option.some.inj h;subst this;exact⟨_,h2,h3⟩⟩
 let T:Nat→Tr:=fun n=>Classical.choose (hex n)
 have hT:∀(n:Nat) (r1:Wo U),W[n]? =some r1→∃b,Bs[n]? =some b∧(T n).val=r1.t.val∧(∀x∈(T n).all,x∈b∨(x∈r1.t.all∧x∉r1.B))∧(T n).all.Nodup∧∃τ L,r1.e.ob= .tree τ true L∧bIn Y.C w' (T n) τ L:=fun n=>Classical.choose_spec (hex n)
 let V:List (Nat×Tr):=(List.range W.length).map fun n=>((W.map (·.i)).getD n 0,T n)
 have hV1:V.map (·.1)=W.map (·.i):=by
  simp only[V,List.map_map]
  apply List.ext_getElem?
  intro n
  rw[List.getElem?_map]
  by_cases h:n<W.length
  ·simp[List.getElem?_range h,List.getElem?_eq_getElem h]
  ·simp[List.getElem?_eq_none (Nat.le_of_not_lt h),List.getElem?_eq_none (show(List.range W.length).length≤n by simp;omega)]
 have hVin:∀{n:Nat} {r1:Wo U},W[n]? =some r1→(r1.i,T n)∈V:=fun {n r1} h=>by
  refine List.mem_map.2 ⟨n,List.mem_range.2 (lt_of_some h),?_⟩
  simp[List.getD,h]
 have hids:Fj (W.map fun r=>(r.i,r.e))=W.map (·.i):=by rw[aMz,List.map_map];rfl
 have hmem:∀{j:Nat},j∈W.map (·.i)→∃(n:Nat) (r1:Wo U),W[n]? =some r1∧r1.i=j:=fun {j} h=>by
  obtain⟨r1,h1,rfl⟩:=List.mem_map.1 h
  obtain⟨n,hn⟩:=List.mem_iff_getElem?.1 h1
  exact⟨n,r1,hn,rfl⟩
 let β':=aXe V β
 have hβin:∀{n:Nat} {r1:Wo U},W[n]? =some r1→β'[r1.i]? =some (T n):=fun {n r1} h=>bC3 (by rw[hV1];exact hn) (hVin h) (lt_of_some (hW r1 (hget h)).2.ht)
 have hβout:∀{j:Nat},j∉W.map (·.i)→β'[j]? =β[j]? :=fun h=>aZh (by rw[hV1];exact h)
 have hoin:∀{n:Nat} {r1:Wo U},W[n]? =some r1→(aBE (W.map fun r=>(r.i,r.e)) s.m.o)[r1.i]? =some r1.e:=fun {n r1} h=>
  bC2 (by rw[hids];exact hn) (List.mem_map.2 ⟨r1,hget h,rfl⟩) (by rw[←H.len];exact lt_of_some (hW r1 (hget h)).2.ht)
 have hoout:∀{j:Nat},j∉W.map (·.i)→(aBE (W.map fun r=>(r.i,r.e)) s.m.o)[j]? =s.m.o[j]? :=fun h=>aN1 (by rw[hids];exact h)
 have hI0:∀{j:Nat},(j∈W.map (·.i)∨s.m.o.length≤j)→(β'[j]? ≠none∨(aBE (W.map fun r=>(r.i,r.e)) s.m.o)[j]? ≠none)→j∈W.map (·.i):=fun {j} h hb=>by
  rcases h with h|h
  ·exact h
  ·rcases hb with hb|hb
   ·exact absurd (List.getElem?_eq_none (by show(aXe V β).length≤j;rw[Y3,H.len];exact h)) hb
   ·exact absurd (List.getElem?_eq_none (by rw[vH];exact h)) hb
 have hTall:∀{n:Nat} {r1:Wo U} {x:Nat},W[n]? =some r1→x∈(T n).all→(w.heap.size≤x∧x<w'.heap.size)∨∃i u,i∈W.map (·.i)∧β[i]? =some u∧x∈u.all:=fun {n r1 x} h hx=>by
  obtain⟨b,h2,_,a2,_⟩:=hT n r1 h
  rcases a2 x hx with h3|h3
  ·rcases hsub x (List.mem_flatten.2 ⟨b,List.mem_of_getElem? h2,h3⟩) with h4|h4
   case inr=>exact .inl ⟨h4,(how n r1 b h h2).lt x h3⟩
   obtain⟨r2,k1,k2⟩:=hBall h4
   exact .inr ⟨r2.i,r2.t,List.mem_map.2 ⟨r2,k1,rfl⟩,(hW r2 k1).2.ht,(hW r2 k1).2.sub x k2⟩
  ·exact .inr ⟨r1.i,r1.t,List.mem_map.2 ⟨r1,hget h,rfl⟩,(hW r1 (hget h)).2.ht,h3.1⟩
 obtain⟨h1,h2⟩:=H.step (s':=⟨aBE (W.map fun r=>(r.i,r.e)) s.m.o,Nat.succ s.m.k,s.m.ns⟩) (β':=β') (w':=w') (fun j=>j∈W.map (·.i)) (·∈(W.map (·.B)).flatten) (Nat.le_succ _) (fun _ _ f h=>⟨f,h⟩) H.cnt (by show(aXe V β).length=_;rw[Y3,vH,H.len]) (by rw[vH];exact Nat.le_refl _) hbel.size hbel.os hbel.tape hbel.output hbel.block
  (fun b hb=>by
   obtain⟨r1,k1,k2⟩:=hBall hb
   exact⟨r1.i,r1.t,List.mem_map.2 ⟨r1,k1,rfl⟩,(hW r1 k1).2.ht,(hW r1 k1).2.sub b k2⟩)
  (fun j hj _=>⟨hoout hj,hβout hj⟩)
  (fun j t b hj ht hb=>by
   have hj':=hI0 hj (.inl (by rw[ht];simp))
   obtain⟨n,r1,k1,rfl⟩:=hmem hj'
   rw[hβin k1] at ht
   have:=Option.some.inj ht;subst this
   rcases hTall k1 hb with h9|⟨i,u,z1,z2,z3⟩
   ·exact⟨h9.2, .inl h9.1⟩
   exact⟨Nat.lt_of_lt_of_le (H.new i u b z2 z3).2 hbel.size, .inr ⟨i,u,z1,z2,z3⟩⟩)
  (fun i j t u b hi hj hij ht hu hb hub=>by
   have hi':=hI0 hi (.inl (by rw[ht];simp))
   have hj':=hI0 hj (.inl (by rw[hu];simp))
   obtain⟨n,r1,k1,rfl⟩:=hmem hi'
   obtain⟨n2,r2,k2,rfl⟩:=hmem hj'
   rw[hβin k1] at ht
   rw[hβin k2] at hu
   have:=Option.some.inj ht;subst this
   have:=Option.some.inj hu;subst this
   obtain⟨b1,c1,_,c2,_⟩:=hT n r1 k1
   obtain⟨b2,d1,_,d2,_⟩:=hT n2 r2 k2
   have hne:n≠n2:=fun e=>hij (by subst e;rw[k1] at k2;rw[Option.some.inj k2])
   have hall:∀{bb:List Nat} {m:Nat} {r3:Wo U},r3∈W→b∈r3.t.all→Bs[m]? =some bb→b∈bb→b∈(W.map (·.B)).flatten:=fun {bb m r3} m3 hb3 h1 h2=>(hsub b (List.mem_flatten.2 ⟨_,List.mem_of_getElem? h1,h2⟩)).resolve_right (fun h=>by have:=(H.new r3.i r3.t b (hW r3 m3).2.ht hb3).2;omega)
   rcases c2 b hb with hb1|hb1<;>rcases d2 b hub with hb2|hb2
   ·have hp:=List.pairwise_iff_getElem.1 (List.pairwise_flatten.1 hnd).2
    obtain⟨l1,e1⟩:=List.getElem?_eq_some_iff.1 c1
    obtain⟨l2,e2⟩:=List.getElem?_eq_some_iff.1 d1
    rcases Nat.lt_or_gt_of_ne hne with h|h
    ·exact hp n n2 l1 l2 h b (by rw[e1];exact hb1) b (by rw[e2];exact hb2) rfl
    ·exact hp n2 n l2 l1 h b (by rw[e2];exact hb2) b (by rw[e1];exact hb1) rfl
   ·exact hb2.2 (hBt (hget k2) hb2.1 (hall (hget k2) hb2.1 c1 hb1))
   ·exact hb1.2 (hBt (hget k1) hb1.1 (hall (hget k1) hb1.1 d1 hb2))
   ·exact hdisj (hget k1) (hget k2) hij hb1.1 hb2.1)
  (fun j t hj ht=>by
   have hj':=hI0 hj (.inl (by rw[ht];simp))
   obtain⟨n,r1,k1,rfl⟩:=hmem hj'
   rw[hβin k1] at ht
   have:=Option.some.inj ht;subst this
   obtain⟨b1,c1,_,_,c2,_⟩:=hT n r1 k1
   exact c2)
  (fun j e hj he=>by
   have hj':=hI0 hj (.inr (by simp only at he;rw[he];simp))
   obtain⟨n,r1,k1,rfl⟩:=hmem hj'
   simp only at he
   rw[hoin k1] at he
   have:=Option.some.inj he;subst this
   obtain⟨e0,τ,L,z1,z2,z3⟩:=(hW r1 (hget k1)).2.he
   rw[z3]
   exact⟨Nat.le_succ_of_le (H.vers _ _ z1).1,Nat.le_refl _⟩)
  (fun j e0 e' t t' hj he0 he' ht ht'=>by
   obtain⟨n,r1,k1,rfl⟩:=hmem hj
   simp only at he'
   rw[hoin k1] at he'
   have:=Option.some.inj he';subst this
   rw[hβin k1] at ht'
   have:=Option.some.inj ht';subst this
   obtain⟨e1,τ,L,z1,z2,z3⟩:=(hW r1 (hget k1)).2.he
   rw[he0] at z1
   have:=Option.some.inj z1;subst this
   have hW2:=(hW r1 (hget k1)).2.ht
   rw[ht] at hW2
   have:=Option.some.inj hW2;subst this
   obtain⟨b1,c1,c2,_⟩:=hT n r1 k1
   rw[z3]
   exact⟨fun _=>⟨rfl,c2⟩,Nat.lt_succ_self _,fun h=>by cases h⟩)
  (fun hev j t e hj ht he=>by
   have hj':=hI0 hj (.inl (by rw[ht];simp))
   obtain⟨n,r1,k1,rfl⟩:=hmem hj'
   simp only at he
   rw[hoin k1] at he
   have:=Option.some.inj he;subst this
   rw[hβin k1] at ht
   have:=Option.some.inj ht;subst this
   obtain⟨b1,c1,_,_,_,τ,L,c3,c4,xs,c5,c6⟩:=hT n r1 k1
   rw[c3]
   exact⟨c4,xs,c5,c6.aBK rfl⟩)
 exact⟨β',r.go h1 h2⟩
theorem aN2 {m:Mm U}{k k':Kd}{ks:List Kd}{x:Sv U}{xs:List (Sv U)}{z:sI U (k::k'::ks)}(h:nL Y m (k::k'::ks) (x::xs)=some z):∃(z1:k.ty U) (z2:sI U (k'::ks)),Ff Y m k x=some z1∧nL Y m (k'::ks) xs=some z2∧dJ Y (k::k'::ks) z=gJ Y k z1::dJ Y (k'::ks) z2:=by
 have h':(match Ff Y m k x with
  |some a=>match nL Y m (k'::ks) xs with
   |some b=>some ((a,b):sI U (k::k'::ks))
   |none=>none
  |none=>none)=some z:=h
 cases h1:Ff Y m k x with
 |none=>rw[h1] at h';cases h'
 |some z1=>
  cases h2:nL Y m (k'::ks) xs with
  |none=>rw[h1,h2] at h';cases h'
  |some z2=>
   rw[h1,h2] at h'
   have:=Option.some.inj h';subst this
   exact⟨z1,z2,rfl,rfl,rfl⟩
theorem bEl {m:Mm U}{k:Kd}{ks:List Kd}:nL Y m (k::ks) []=none:=by cases ks<;>rfl
theorem bEm {m:Mm U}{ks:List Kd}{x y:Sv U}{z:sI U ks}(h:nL Y m ks [x,y]=some z):∃(k1 k2:Kd) (z1:k1.ty U) (z2:k2.ty U),ks=[k1,k2]∧Ff Y m k1 x=some z1∧Ff Y m k2 y=some z2∧dJ Y ks z=[gJ Y k1 z1,gJ Y k2 z2]:=by
 cases ks with
 |nil=>cases h
 |cons k1 ks=>
  cases ks with
  |nil=>cases h
  |cons k2 ks=>
   obtain⟨z1,z2,h1,h2,h3⟩:=aN2 h
   cases ks with
   |nil=>exact⟨k1,k2,z1,z2,rfl,h1,h2,h3⟩
   |cons k3 ks=>
    obtain⟨z3,z4,_,h4,_⟩:=aN2 h2
    rw[bEl] at h4;cases h4
theorem bBo (hY:LayOk Y){m:Mm U}{kd:Kd}{x:Sv U}{z:kd.ty U}{cs:List (Lf U)}(h:Ff Y m kd x=some z)(hp:parts x=some cs):∃ks,rds m ks cs=some (gJ Y kd z).2∧((∃T,kd= .st T∧ks=Y.kd T∧x= .a cs∧(gJ Y kd z).1=true)∨(ks=[kd]∧(∃y,x= .l y∧cs=[y])∧(gJ Y kd z).1=false)):=by
 have leaf:∀{y:Lf U},x= .l y→(∀T,kd≠ .st T)→(match rdn m kd y with|some q=>aU kd q|none=>none)=some z→∃ks,rds m ks cs=some (gJ Y kd z).2∧((∃T,kd= .st T∧ks=Y.kd T∧x= .a cs∧(gJ Y kd z).1=true)∨(ks=[kd]∧(∃y,x= .l y∧cs=[y])∧(gJ Y kd z).1=false)):=fun {y} hx hkd h0=>by
  subst hx
  have:=Option.some.inj hp;subst this
  cases hr:rdn m kd y with
  |none=>rw[hr] at h0;cases h0
  |some q=>
   rw[hr] at h0
   have hq:=aA (show aU kd q=some z from h0)
   subst hq
   refine⟨[kd],?_, .inr ⟨rfl,⟨y,rfl,rfl⟩,?_⟩⟩
   ·simp only[rds,hr]
    cases kd with
    |st T=>exact absurd rfl (hkd T)
    |_=>rfl
   ·cases kd with
    |st T=>exact absurd rfl (hkd T)
    |_=>rfl
 cases kd with
 |st T=>
  cases x with
  |a cs'=>
   have:=Option.some.inj hp;subst this
   have h':(match rds m (Y.kd T) cs' with|some ds=>Y.C.bld T ds|none=>none)=some z:=h
   cases hr:rds m (Y.kd T) cs' with
   |none=>rw[hr] at h';cases h'
   |some ds=>
    rw[hr] at h'
    refine⟨Y.kd T,?_, .inl ⟨T,rfl,rfl,rfl,rfl⟩⟩
    rw[hr,Y.C.hmk T ds z h'];rfl
  |l y=>
   have h':(match rdn m (Kd.st T) y with|some q=>aU (Kd.st T) q|none=>none)=some z:=h
   cases hr:rdn m (Kd.st T) y with
   |none=>rw[hr] at h';cases h'
   |some q=>rw[hr] at h';cases q<;>cases h'
  |t y=>cases h
 |int k=>cases x with
  |l y=>exact leaf rfl (by simp) h
  |_=>cases h
 |bool=>cases x with
  |l y=>exact leaf rfl (by simp) h
  |_=>cases h
 |str=>cases x with
  |l y=>exact leaf rfl (by simp) h
  |_=>cases h
 |sl τ=>cases x with
  |l y=>exact leaf rfl (by simp) h
  |_=>cases h
theorem aN3 (hY:LayOk Y)(r:bY Y.C E s a w β){o:Oper}{f:FuncId}{xa:Array Operand}{ats:Array TypeId}{S:Sum U}{z:sI U S.ar}{q:sI U S.rs}(ho:o.op= .call {callee:= .value (.func f),args:=xa,argTypes:=ats})
  (hS:Ih P g Y f S) (hz:nL Y s.m S.ar (xa.toList.map (gH s))=some z) (hmk:S.wt=true) (hq:S.m z=some q) {x y:Sv U} (hxs:xa.toList.map (gH s)=[x,y]) {cs ds:List (Lf U)} (hp:parts x=some cs) {b1 b2:Bool} {k:Int} (hr:dJ Y S.rs q=[(b1,ds),(b2,[.int .i64 k])]) (hpos:Ng (U:=U) S.ar=true) {us:List (Nat×EO U)} (hw:wrm Y s.m cs ds=some us) (hd:(Fj us).Nodup):
  SO P Y.C E a w o (.l (.int .i64 k)) ⟨s.t,⟨aBE us s.m.o,Nat.succ s.m.k,s.m.ns⟩,s.fr⟩ false:=fun K Q hK=>by
 have hm:∀(i:Nat) (v:Value) (x:Sv U),(xa.toList.map a.eval)[i]? =some v→(xa.toList.map (gH s))[i]? =some x→x.mean Y.C w (E.X β) β s.m v:=fun i v x p q=>by
  obtain⟨y,rfl,rfl⟩:=Tq i v x p q;exact Bd r
 rw[hxs] at hz hm
 obtain⟨v,v1,hvs⟩:∃v v1,xa.toList.map a.eval=[v,v1]:=by
  have hl:(xa.toList.map a.eval).length=2:=by
   have:=congrArg List.length hxs
   simpa using this
  match hh:xa.toList.map a.eval,hl with
  |[v,v1],_=>exact⟨v,v1,rfl⟩
 rw[hvs] at hm
 have hx:=hm 0 v x rfl rfl
 have hy:=hm 1 v1 y rfl rfl
 obtain⟨k1,k2,z1,z2,h0,h1,h2,h3⟩:=bEm hz
 obtain⟨ks,c1,c2⟩:=bBo hY h1 hp
 obtain⟨vs,hM,hsh⟩:∃vs:List Value,Ms Y.C w (E.X β) β s.m vs cs∧((x= .a cs∧(gJ Y k1 z1).1=true∧v= .agg vs.toArray)∨(∃y,x= .l y∧cs=[y]∧(gJ Y k1 z1).1=false∧vs=[v])):=by
  rcases c2 with⟨T,_,_,rfl,c3⟩|⟨_,⟨y',rfl,rfl⟩,c3⟩
  ·obtain⟨vs,rfl,hM⟩:=hx
   exact⟨vs,hM, .inl ⟨rfl,c3,rfl⟩⟩
  ·refine⟨[v],⟨rfl,fun i u c p q=> ?_⟩, .inr ⟨y',rfl,rfl,c3,rfl⟩⟩
   cases i with
   |zero=>simp at p q;subst p;subst q;exact hx
   |succ i=>simp at p
 have hK':∀kd∈ks,∀τ,kd= .sl τ→0<U.K τ:=by
  rcases c2 with⟨T,_,rfl,_⟩|⟨rfl,_⟩
  ·exact fun kd hk τ e=>hY.pos T τ (e▸hk)
  ·intro kd hk
   simp only[List.mem_singleton] at hk
   subst hk
   exact vI hpos kd (by rw[h0];simp)
 have hread:Rd w (fun _=>False) [] v1 (Ig (gJ Y k2 z2)):=Bg r hy h2 (fun _ h=>h.elim) (.inr fun _ _ _ _ _ h=>h)
 obtain⟨W,p1,p2,p3,p4⟩:=aZg hY r.hp ks c1 hw hM hK'
 subst p2
 have hd':(W.map (·.i)).Nodup:=by rw[aMz,List.map_map] at hd;exact hd
 have hBt:∀b∈(W.map (·.B)).flatten,∃r1∈W,b∈r1.t.all:=fun b hb=>by
  obtain⟨l,hl,hb⟩:=List.mem_flatten.1 hb
  obtain⟨r1,hr1,rfl⟩:=List.mem_map.1 hl
  exact⟨r1,hr1,(p3 r1 hr1).2.sub b hb⟩
 have hBnd:((W.map (·.B)).flatten).Nodup:=by
  refine List.pairwise_flatten.2 ⟨fun l hl=> ?_,?_⟩
  ·obtain⟨r1,hr1,rfl⟩:=List.mem_map.1 hl
   exact(p3 r1 hr1).1
  ·rw[List.pairwise_map]
   have hdd:W.Pairwise (fun r1 r2=>r1.i≠r2.i):=by
    have:=hd'
    unfold List.Nodup at this
    rwa [List.pairwise_map] at this
   refine List.Pairwise.imp_of_mem (fun {r1 r2} m1 m2 hne x hx y hy e=> ?_) hdd
   subst e
   exact r.hp.dist r1.i r2.i r1.t r2.t x hne (p3 r1 m1).2.ht (p3 r2 m2).2.ht ((p3 r1 m1).2.sub x hx) ((p3 r2 m2).2.sub x hy)
 have hsp:=(hS z q hq).2.2 hmk (gJ Y k1 z1).1 (gJ Y k1 z1).2 (gJ Y k2 z2) b1 ds b2 k (by rw[h3]) hr
 have hOw:OwP Y.C w v ((W.map (·.B)).flatten) ((gJ Y k1 z1).1,(gJ Y k1 z1).2):=by
  rcases hsh with⟨_,e1,rfl⟩|⟨y',_,rfl,e1,rfl⟩
  ·rw[e1];exact⟨vs,rfl,p1⟩
  ·rw[e1]
   generalize(gJ Y k1 z1).2=ll at p1 ⊢
   generalize(W.map (·.B)).flatten=BB at p1 ⊢
   cases p1 with
   |c h hr=>
    cases hr
    rw[List.append_nil]
    exact⟨_,rfl,h⟩
 have hG:∀w',Bel (·∈(W.map (·.B)).flatten) w w'→g.G w':=fun w' hb=>E.hg w' ⟨hb.os.trans r.hp.ext.os,hb.tape.trans r.hp.ext.tape,hb.output.trans r.hp.ext.output,Nat.le_trans r.hp.ext.size hb.size,fun b hlt hy=>by
  rw[hb.block b (Nat.lt_of_lt_of_le hlt r.hp.ext.size) (fun hB=> ?_)]
  ·exact r.hp.ext.block b hlt hy
  ·obtain⟨r1,m1,hb1⟩:=hBt b hB
   rcases(r.hp.new r1.i r1.t b (p3 r1 m1).2.ht hb1).1 with h|h
   ·omega
   ·exact hy h⟩
 have hcall:=hsp.2 w v v1 _ hBnd hG hOw hread
 have hargs:(xa.toList.map a.eval).toArray= #[v,v1]:=by rw[hvs]
 refine wpc (Fs ho hsp.1) (R':=fun u w'=>u= .int .i64 k∧(IntKind.i64.min≤k∧k≤IntKind.i64.max)∧Bel (·∈(W.map (·.B)).flatten) w w'∧∃B',B'.Nodup∧(∀x∈B',x∈(W.map (·.B)).flatten∨w.heap.size≤x)∧OwP Y.C w' v B' ((gJ Y k1 z1).1,ds)) ?_ ?_
 ·rw[hargs]
  refine hcall.mono ?_
  rintro e w' ⟨rfl,h4,h5,h6⟩
  exact⟨_,rfl,rfl,h4,h5,h6⟩
 ·rintro u w' ⟨rfl,h4,h5,B',h6,h7,h8⟩
  have hL:OwL Y.C w' (fun _=>False) true vs ds B':=by
   rcases hsh with⟨_,e1,rfl⟩|⟨y',_,_,e1,rfl⟩
   ·rw[e1] at h8
    obtain⟨vs',e2,h9⟩:=h8
    have:vs=vs':=by
     injection e2 with e2
     have:=congrArg Array.toList e2
     simpa using this
    subst this;exact h9
   ·rw[e1] at h8
    obtain⟨c,rfl,h9⟩:=h8
    simpa using OwL.c h9 .n
  obtain⟨Bs,l1,l2,l3⟩:=p4 w' B' hL
  subst l2
  obtain⟨β',r'⟩:=r.wrote hd' p3 h5 l1 h6 h7 l3
  exact hK _ w' β' r' (fun _=>⟨rfl,h4.1,h4.2⟩) (fun h=>by cases h)
end
end Go.EV

namespace Go.EV
open Go.RowKit Go.VK
variable {U:Uni} {Y:Lay U} {TI:List (Nat×TInfo)} {FZ:List (Nat×Sum U)} {P:Program} {g:GI} {E:Env U g}
structure Good (P:Program) (g:GI) (Y:Lay U) (TI:List (Nat×TInfo)) (FZ:List (Nat×Sum U)):Prop where
 ti:Ao P TI=true
 lay:LayOk Y
 fs:∀(f:Nat) (S:Sum U),(f,S)∈FZ→Ih P g Y f S
structure Am (m m':Mm U):Prop where
 k:m.k≤m'.k
 ns:∀(a i:Nat) (f:Bool),m.ns[a]? =some (i,f)→∃f',m'.ns[a]? =some (i,f')
 ol:m.o.length≤m'.o.length
 o:∀(i:Nat) (e e':EO U),m.o[i]? =some e→m'.o[i]? =some e'→(e'.cv≤m.k→e'=e)∧(e'.ob.aAT=true→e.ob.aAT=true)∧
  ∀T cs vs T' cs' vs',e.ob= .box T cs vs→e'.ob= .box T' cs' vs'→T'=T∧cs'.length=cs.length∧vs'.length=vs.length∧∀(j v:Nat),vs'[j]? =some v→v≤m.k→cs'[j]? =cs[j]? ∧vs[j]? =some v
theorem Am.refl (m:Mm U):Am m m:=⟨Nat.le_refl _,fun _ _ f h=>⟨f,h⟩,Nat.le_refl _,fun i e e' h h'=>by
 rw[h] at h';injection h' with h';subst h'
 refine⟨fun _=>rfl,id,fun T cs vs T' cs' vs' h1 h2=> ?_⟩
 rw[h1] at h2;injection h2 with a b c;subst a;subst b;subst c
 exact⟨rfl,rfl,rfl,fun j v hv _=>⟨rfl,hv⟩⟩⟩
theorem Am.trans {m m' m'':Mm U}(h:Am m m')(h':Am m' m''):Am m m'':=by
 refine⟨Nat.le_trans h.k h'.k,fun a i f hf=> ?_,Nat.le_trans h.ol h'.ol,fun i e e'' he he''=> ?_⟩
 ·obtain⟨f',h1⟩:=h.ns a i f hf;exact h'.ns a i f' h1
 ·have hl:i<m'.o.length:=Nat.lt_of_lt_of_le (lt_of_some he) h.ol
  obtain⟨a1,a2,a3⟩:=h.o i e _ he (List.getElem?_eq_getElem hl)
  obtain⟨b1,b2,b3⟩:=h'.o i _ e'' (List.getElem?_eq_getElem hl) he''
  refine⟨fun hc=> ?_,fun hb=>a2 (b2 hb),fun T cs vs T'' cs'' vs'' h1 h2=> ?_⟩
  ·have e1:=b1 (Nat.le_trans hc h.k)
   rw[e1] at hc ⊢
   exact a1 hc
  ·have hb:(m'.o[i]).ob.aAT=true:=b2 (by rw[h2];rfl)
   cases hm:(m'.o[i]).ob with
   |box T' cs' vs'=>
    obtain⟨p1,p2,p3,p4⟩:=a3 T cs vs T' cs' vs' h1 hm
    obtain⟨q1,q2,q3,q4⟩:=b3 T' cs' vs' T'' cs'' vs'' hm h2
    refine⟨q1.trans p1,q2.trans p2,q3.trans p3,fun j v hv hvk=> ?_⟩
    obtain⟨r1,r2⟩:=q4 j v hv (Nat.le_trans hvk h.k)
    obtain⟨r3,r4⟩:=p4 j v r2 hvk
    exact⟨r1.trans r3,r4⟩
   |_=>rw[hm] at hb;cases hb
theorem Am.add (m:Mm U)(es:List (EO U)):Am m ⟨m.o++es,m.k,m.ns⟩:=by
 refine⟨Nat.le_refl _,fun _ _ f h=>⟨f,h⟩,by simp,fun i e e' he he'=> ?_⟩
 have h2:(m.o++es)[i]? =some e:=by rw[List.getElem?_append_left (lt_of_some he)];exact he
 simp only at he'
 rw[h2] at he'
 exact(Am.refl m).o i e e' he (he.trans he')
theorem Am.aBT (m:Mm U){ns':List (Nat×Bool)}(h:∀(a i:Nat) (f:Bool),m.ns[a]? =some (i,f)→∃f',ns'[a]? =some (i,f')):Am m ⟨m.o,m.k,ns'⟩:=⟨Nat.le_refl _,h,Nat.le_refl _,(Am.refl m).o⟩
theorem aZi {Y:Lay U}{m:Mm U}:∀{cs ds:List (Lf U)} {us:List (Nat×EO U)},wrm Y m cs ds=some us→∀x∈us,m.k<x.2.cv∧x.2.ob.aAT=false
 |[],[],us,h=>by have:=Option.some.inj h;subst this;simp
 |[],_::_,_,h=>by cases h
 |_::_,[],_,h=>by cases h
 |x::xs,y::ys,us,h=>by
  obtain⟨u,u',h1,h2,rfl⟩:=aZf h
  intro p hp
  rcases List.mem_append.1 hp with hp|hp
  ·unfold wr1 at h1
   split at h1
   ·split at h1
    ·rename_i τ' d l rv cv τ l' _
     cases hb:(d&&(Nat.beq rv _&&Nat.beq τ' τ)) with
     |false=>rw[hb] at h1;cases h1
     |true=>
      rw[hb] at h1
      have:=Option.some.inj h1;subst this
      simp only[List.mem_singleton] at hp;subst hp
      exact⟨Nat.lt_succ_self _,rfl⟩
    ·cases h1
   ·split at h1
    ·rename_i τ1 d L rv cv τ'' l _
     rw[Bool.cond_eq_ite] at h1
     split at h1
     ·split at h1
      ·split at h1
       ·have:=Option.some.inj h1;subst this
        simp only[List.mem_singleton] at hp;subst hp
        exact⟨Nat.lt_succ_self _,rfl⟩
       ·cases h1
      ·cases h1
     ·cases h1
    ·cases h1
   ·cases h1
   ·cases h1
   ·have:=Option.some.inj h1;subst this;simp at hp
  ·exact aZi h2 p hp
theorem Am.aBE (m:Mm U){us:List (Nat×EO U)}(h:∀x∈us,m.k<x.2.cv∧x.2.ob.aAT=false):Am m ⟨EV.aBE us m.o,Nat.succ m.k,m.ns⟩:=by
 refine⟨Nat.le_succ _,fun _ _ f h=>⟨f,h⟩,by rw[vH];exact Nat.le_refl _,fun j e e' he he'=> ?_⟩
 simp only at he'
 by_cases hj:j∈Fj us
 ·have hin:∃x∈us,e'=x.2:=by
   clear h
   revert e'
   induction us with
   |nil=>simp[Fj] at hj
   |cons x us ih=>
    intro e' he'
    have e1:EV.aBE (x::us) m.o=upd (EV.aBE us m.o) x.1 x.2:=rfl
    rw[e1,cB] at he'
    by_cases hx:x.1=j
    ·subst hx
     rw[List.getElem?_set_self (by rw[vH];exact lt_of_some he)] at he'
     exact⟨x,by simp,(Option.some.inj he').symm⟩
    ·rw[List.getElem?_set_ne hx] at he'
     have hj':j∈Fj us:=by
      have e2:Fj (x::us)=x.1::Fj us:=rfl
      rw[e2] at hj
      rcases List.mem_cons.1 hj with h|h
      ·exact absurd h.symm hx
      ·exact h
     obtain⟨y,h1,h2⟩:=ih hj' e' he'
     exact⟨y,by simp[h1],h2⟩
  obtain⟨x,hx,rfl⟩:=hin
  obtain⟨h1,h2⟩:=h x hx
  refine⟨fun hc=>by omega,fun hb=> ?_,fun T cs vs T' cs' vs' _ hb=> ?_⟩
  ·rw[h2] at hb;cases hb
  ·rw[hb] at h2;cases h2
 ·rw[aN1 hj,he] at he'
  have:=Option.some.inj he';subst this
  exact(Am.refl m).o j _ _ he he
theorem Am.turn (m:Mm U){i:Nat}{ids:List Nat}{ob:Ob U}{rv:Nat}(hb:ob.aAT=true→∀e,m.o[i]? =some e→e.ob.aAT=true∧∀T cs vs T' cs' vs',e.ob= .box T cs vs→ob= .box T' cs' vs'→T'=T∧cs'.length=cs.length∧vs'.length=vs.length∧∀(j v:Nat),vs'[j]? =some v→v≤m.k→cs'[j]? =cs[j]? ∧vs[j]? =some v):
  Am m ⟨U9 (Nat.succ m.k) ids (upd m.o i ⟨ob,rv,Nat.succ m.k⟩),Nat.succ m.k,m.ns⟩:=by
 refine⟨Nat.le_succ _,fun _ _ f h=>⟨f,h⟩,by rw[Fq,cB,List.length_set];exact Nat.le_refl _,fun j e e' he he'=> ?_⟩
 simp only at he'
 by_cases hj:j∈ids
 ·rw[aDz hj (by rw[cB,List.length_set];exact lt_of_some he)] at he'
  injection he' with he';subst he'
  exact⟨fun h=>(by simp only at h;omega),fun h=>(by cases h),fun _ _ _ _ _ _ _ h=>(by cases h)⟩
 ·rw[uQ hj,cB] at he'
  by_cases hij:i=j
  ·subst hij
   rw[List.getElem?_set_self (lt_of_some he)] at he'
   injection he' with he';subst he'
   refine⟨fun h=>by simp only at h;omega,fun h=>(hb h e he).1,fun T cs vs T' cs' vs' h1 h2=> ?_⟩
   have hbx:ob.aAT=true:=by simp only at h2;rw[h2];rfl
   exact(hb hbx e he).2 T cs vs T' cs' vs' h1 h2
  ·rw[List.getElem?_set_ne hij] at he'
   exact(Am.refl m).o j e e' he he'
theorem Am.tree (m:Mm U){i:Nat}{ids:List Nat}{τ:Nat}{d:Bool}{l:List (U.El τ)}{rv:Nat}:Am m ⟨U9 (Nat.succ m.k) ids (upd m.o i ⟨.tree τ d l,rv,Nat.succ m.k⟩),Nat.succ m.k,m.ns⟩:=Am.turn m (fun h=>by cases h)
section
variable {s:St U} {a:Act} {w:World} {β:List Tr} {α:Type}
theorem bEn (r:bY Y.C E s a w β){o:Oper}{ta tb e:Nat}{x:Operand}{z:ByteArray}(ho:o.op= .convert ta tb x)(hs:P.underlying ta=some .string)(hd:P.underlying tb=some (.slice e))(he:P.underlying e=some (.int .u8))(hx:gH s x= .l (.str z)):SO P Y.C E a w o (.l (.sl Y.bt ((bW z).map Y.be))) s true:=fun K Q hK=>by
 obtain⟨h1,h2⟩:=(vG r hx:(Lf.str z:Lf U).mean Y.C w (E.X β) β s.m (a.eval x))
 have hE:Ext w (Lib.bytesWorld w e z):=⟨rfl,rfl,rfl,by rw[Lib.bytesWorld_size];omega,fun b hb=>Lib.bytesWorld_at_old w e z b hb⟩
 refine wpo (w':=Lib.bytesWorld w e z) (v:= .slice (some ⟨w.heap.size,0,none⟩) z.size (grownCap w z.size 0 e)) (.inl (by simp[execOp,ho,h1,Lib.run_convert_string_bytes (P:=P) w ta tb e z hs hd he])) (hK _ _ β (r.ext hE) (fun _=> ?_) (fun _=>hE))
 have hen:∀n,U.enc Y.bt (Y.be n)=[V.int .u8 n]:=fun n=>by
  rw[←Y.C.hcel Y.bt (Y.be n),Y.hb,Y.hbe];rfl
 have hk:U.K Y.bt=1:=by rw[←Y.C.hlen Y.bt (Y.be 0),Y.hb];rfl
 have el:((bW z).map Y.be).map (U.enc Y.bt)=z.data.toList.map yV:=by
  rw[List.map_map]
  have:(U.enc Y.bt∘Y.be)=fun n=>[V.int .u8 n]:=funext hen
  rw[this];simp[bW,yV]
 show Rd _ (E.X β) [] _ (.slice (U.K Y.bt) (((bW z).map Y.be).map (U.enc Y.bt)))
 rw[el,hk]
 have hc:=grownCap_le_maxLen w z.size 0 e h2
 have hg:=grownCap_ge w z.size 0 e
 cases hz:z.data.toList with
 |nil=>
  have:z.size=0:=by rw[qZ,hz];rfl
  rw[this] at hc ⊢
  exact .slice0 hc
 |cons b0 bs=>
  rw[←hz]
  have hlen:z.size=(z.data.toList.map yV).length:=by rw[List.length_map,qZ]
  have hget:∀(i j:Nat) (e':List V) (d':V),(z.data.toList.map yV)[i]? =some e'→e'[j]? =some d'→i<z.size∧j=0∧d'= .int .u8 ((z.data.toList.getD i 0).toNat:Int):=by
   intro i j e' d' h3 h4
   rw[List.getElem?_map] at h3
   obtain⟨b,hb,rfl⟩:=Option.map_eq_some_iff.1 h3
   have hi:i<z.data.toList.length:=(List.getElem?_eq_some_iff.1 hb).1
   cases j with
   |zero=>
    simp[yV] at h4
    refine⟨by rw[qZ];exact hi,rfl,?_⟩
    rw[←h4];simp[List.getD,hb]
   |succ j=>simp[yV] at h4
  refine .slice (val:=fun i j=> .int .u8 ((z.data.toList.getD i 0).toNat:Int)) hlen (by rw[←hlen,qZ,hz];simp) hg hc (fun hxx=>by have:=r.hp.aBP _ hxx;simp at this) (by rw[Lib.bytesWorld_size];simp)
   (fun e' he'=>by obtain⟨b,_,rfl⟩:=List.mem_map.1 he';rfl) (fun i j e' d' h3 h4=> ?_) (fun i j e' d' h3 h4=> ?_)
  ·obtain⟨h5,rfl,rfl⟩:=hget i j e' d' h3 h4
   rw[kU,Nat.zero_add,Nat.mul_one,Nat.add_zero]
   exact Lib.bytesWorld_cell w e z i h5
  ·obtain⟨h5,rfl,rfl⟩:=hget i j e' d' h3 h4
   have hb:=(z.data.toList.getD i 0).toNat_lt
   exact .int (Int.natCast_nonneg _) (show(((z.data.toList.getD i 0).toNat:Nat):Int)≤255 by omega)
theorem vJ (G:Good P g Y TI FZ)(r:bY Y.C E s a w β){o:Oper}{op:Op}(ho:o.op=op){K:Sv U→St U→Option α}{z:α}(h:aDv Y TI s op (fun x=>K x s)=some z):∃x s',K x s'=some z∧PO P Y.C E a w β o x s'∧s'.t=s.t∧s'.fr=s.fr∧Am s.m s'.m:=by
 obtain⟨x,h1,h2⟩:=Zo G.ti r h
 obtain⟨v,k1,k2⟩:=h2 o ho
 exact⟨x,s,h1,⟨v,k1,r,k2⟩,rfl,rfl,Am.refl _⟩
theorem aN4 (G:Good P g Y TI FZ)(r:bY Y.C E s a w β){o:Oper}{op:Op}(ho:o.op=op)(hc:Bc FZ op=0){K:Sv U→St U→Option α}{z:α}(h:stp Y TI FZ s op K=some z):∃x s',K x s'=some z∧PO P Y.C E a w β o x s'∧s'.t=s.t∧s'.fr=s.fr∧Am s.m s'.m:=by
 unfold stp at h
 split at h
 ·cases hc
 ·cases hc
 ·cases hc
 ·cases hc
 ·cases hc
 ·cases hc
 ·rename_i f xa ats
  exfalso
  simp only[Bc] at hc
  split at hc
  ·cases hw:(Sum.wt _)<;>rw[hw] at hc<;>cases hc
  ·cases hc
 ·rename_i t x y u
  split at h
  ·rename_i c n hx
   cases hn:decide (n=1) with
   |false=>rw[hn] at h;exact vJ G r ho h
   |true=>
    rw[hn] at h
    simp only[cond_true] at h
    cases hm:nth s.m.ns c with
    |none=>rw[hm] at h;cases h
    |some p=>
     obtain⟨i,f⟩:=p
     rw[hm] at h
     cases f with
     |false=>exact vJ G r ho h
     |true=>exact⟨_,_,h,bEk r ho (of_decide_eq_true hn) hx (by rw[←bC];exact hm),rfl,rfl,Am.aBT _ (fun a' j f' h=>⟨f',by rw[List.getElem?_append_left (lt_of_some h)];exact h⟩)⟩
  ·exact vJ G r ho h
 ·rename_i ta tb x
  cases hm:mE FZ (tb+1000000) with
  |some S=>simp only[Bc,hm] at hc;cases hc
  |none=>simp only[hm] at h;exact vJ G r ho h
 ·exact vJ G r ho h
theorem bY.aBM {C:Cod U}(r:bY C E s a w β){b T rv cv:Nat}{cs:List (Lf U)}{us:List Nat}(h:s.m.o[b]? =some ⟨.box T cs us,rv,cv⟩):cs.length=us.length:=by
 obtain⟨t,ht⟩:=r.hp.tr h
 exact(r.hp.ok b t _ ht h).1
theorem aI8 {b T rv cv off n:Nat}{cs ps:List (Lf U)}{us:List Nat}{rv':Nat}(h4:s.m.o[b]? =some ⟨.box T cs us,rv,cv⟩)(h5:ps.length=n)(h6:off+n≤cs.length)(hl:cs.length=us.length):
  Am s.m (trn s b (.box T (spl cs off ps) (spl us off (ps.map fun _=>Nat.succ s.m.k))) rv').m:=by
 have e1:=Ni cs off ps (by rw[h5];exact h6)
 have e2:=Ni us off (ps.map fun _=>Nat.succ s.m.k) (by rw[List.length_map,h5,←hl];exact h6)
 refine Am.turn (ids:=[]) s.m fun _ e he=> ?_
 rw[h4] at he;injection he with he;subst he
 refine⟨rfl,fun T1 cs1 vs1 T' cs' vs' k1 k2=> ?_⟩
 injection k1 with a1 a2 a3
 injection k2 with b1 b2 b3
 subst a1;subst a2;subst a3;subst b1;subst b2;subst b3
 refine⟨rfl,by rw[e1];simp;omega,by rw[e2];simp;omega,fun j v hv hvk=> ?_⟩
 rw[e2,vD _ _ _ _ (by rw[List.length_map,h5,←hl];exact h6)] at hv
 rw[e1,vD _ _ _ _ (by rw[h5];exact h6)]
 rw[List.length_map,h5] at hv
 rw[h5]
 split at hv
 ·rename_i hj
  rw[List.getElem?_map] at hv
  cases hp:ps[j-off]? with
  |none=>simp[hp] at hv
  |some y=>simp only[hp,Option.map_some,Option.some.injEq] at hv;omega
 ·rename_i hj
  rw[if_neg hj];exact⟨rfl,hv⟩
theorem bBp {e i:Nat}{px:Lf U}{d:Bool}{l:List (U.El e)}{s1:St U}(h:apD s e px=some (i,d,l,s1)):s1.t=s.t∧s1.fr=s.fr∧Am s.m s1.m:=by
 cases px with
 |nil=>
  simp only[apD,Option.some.injEq,Prod.mk.injEq] at h
  obtain⟨_,_,_,rfl⟩:=h
  exact⟨rfl,rfl,Am.add _ _⟩
 |own j q=>
  simp only[apD] at h
  split at h
  ·rename_i τ d0 l0 rv cv ho
   cases hb:Nat.beq rv q with
   |false=>simp[hb] at h
   |true=>
    simp only[hb,cond_true] at h
    split at h
    ·simp only[Option.some.injEq,Prod.mk.injEq] at h
     obtain⟨_,_,_,rfl⟩:=h
     exact⟨rfl,rfl,Am.refl _⟩
    ·cases h
  ·cases h
 |_=>cases h
theorem SO.to {C:Cod U}{o:Oper}{x:Sv U}{s':St U}{b:Bool}(h:SO P C E a w o x s' true):SO P C E a w o x s' b:=by
 cases b with
 |true=>exact h
 |false=>exact h.soft
theorem bEo {xs:Array Operand}{l:List Operand}(h:xs.toList=l):xs=l.toArray:=by apply Array.ext';simpa using h
theorem bEp {xs:Array TypeId}{l:List TypeId}(h:xs.toList=l):xs=l.toArray:=by apply Array.ext';simpa using h
theorem aVn (G:Good P g Y TI FZ)(r:bY Y.C E s a w β){o:Oper}{op:Op}(ho:o.op=op){K:Sv U→St U→Option α}{z:α}(h:stp Y TI FZ s op K=some z):∃x s',K x s'=some z∧SO P Y.C E a w o x s' (Nat.ble (Bc FZ op) 1)∧s'.t=s.t∧s'.fr=s.fr∧Am s.m s'.m:=by
 by_cases hc:Bc FZ op=0
 ·obtain⟨x,s',h1,h2,h3⟩:=aN4 G r ho hc h
  rw[hc];exact⟨x,s',h1,SO.aCZ h2,h3⟩
 unfold stp at h
 split at h
 ·rename_i T x
  cases hp:parts (Km s x) with
  |none=>rw[hp] at h;cases h
  |some cs=>
   rw[hp] at h
   cases ha:Nf cs with
   |false=>simp[ha] at h
   |true=>
    simp only[ha,cond_true] at h
    exact⟨_,_,h,bEf r ho hp ha,rfl,rfl,Am.add _ _⟩
 ·rename_i T
  cases hf:mE TI T with
  |none=>rw[hf] at h;cases h
  |some i=>rw[hf] at h;exact⟨_,_,h,aY8 G.ti r ho hf,rfl,rfl,Am.add _ _⟩
 ·rename_i t x y
  split at h
  ·rename_i i b off ps h1 h2 h3
   split at h
   ·rename_i T cs us rv cv h4
    rw[bC] at h4
    cases hb:(Nat.beq (len ps) i.k&&(Nat.ble (off+i.k) (len cs)&&Nf ps)) with
    |false=>rw[hb] at h;cases h
    |true=>
     rw[hb] at h
     simp only[cond_true] at h
     simp only[Bool.and_eq_true,dA] at hb
     exact⟨_,_,h,aNy G.ti r ho h1 h2 h3 h4 (Nat.eq_of_beq_eq_true hb.1) (Nat.le_of_ble_eq_true hb.2.1) hb.2.2,rfl,rfl,aI8 h4 (Nat.eq_of_beq_eq_true hb.1) (Nat.le_of_ble_eq_true hb.2.1) (r.aBM h4)⟩
   ·cases h
  ·rename_i i b c τ q z' off ps h1 h2 h3
   cases hv:okv s.m b c with
   |false=>rw[hv] at h;cases h
   |true=>
    rw[hv] at h
    simp only[cond_true] at h
    split at h
    ·rename_i τ' d l rv cv h4
     rw[bC] at h4
     cases hs:slq τ τ' l with
     |none=>rw[hs] at h;cases h
     |some l1=>
      rw[hs] at h
      obtain⟨rfl,hh⟩:=mH hs
      obtain rfl:=eq_of_heq hh
      simp only at h
      split at h
      ·rename_i ds ids d' h8
       rw[aYy,aNp] at h8
       cases hb:(Nat.beq (len ps) i.k&&(Nat.ble (off+i.k) (U.K τ')&&(Nf ps&&dist (b::ids)))) with
       |false=>rw[hb] at h;cases h
       |true=>
        rw[hb] at h
        simp only[cond_true] at h
        simp only[Bool.and_eq_true,dA] at hb
        split at h
        ·rename_i z2 h9
         obtain⟨e',k1,k2⟩:=aNs hv
         rw[h4] at k1;injection k1 with k1;subst k1
         exact⟨_,_,h,aJy G.ti G.lay r ho h1 h2 h3 h4 k2 (Nat.eq_of_beq_eq_true hb.1) (Nat.le_of_ble_eq_true hb.2.1) hb.2.2.1 h8 (rD.1 hb.2.2.2) h9,rfl,rfl,Am.tree _⟩
        ·cases h
      ·cases h
    ·cases h
  ·cases h
 ·rename_i t n ps
  split at h
  ·rename_i e ek eb k zz h1
   cases hb:(Nat.beq (len ps.toList) n&&(Nat.ble (n*ek) 16777216&&okE (U:=U) e ek e)) with
   |false=>rw[hb] at h;cases h
   |true=>
    rw[hb] at h
    simp only[cond_true] at h
    simp only[Bool.and_eq_true,dA] at hb
    split at h
    ·rename_i l ids d h5
     cases hd:dist (len s.m.o::ids) with
     |false=>rw[hd] at h;cases h
     |true=>
      rw[hd] at h
      simp only[cond_true] at h
      have hJ:=rD.1 hd
      rw[dA] at hJ
      exact⟨_,_,h,aZa G.ti G.lay r ho h1 (Nat.eq_of_beq_eq_true hb.1) (Nat.le_of_ble_eq_true hb.2.1) hb.2.2 h5 hJ,rfl,rfl,(Am.add s.m [⟨.dead,s.m.k,s.m.k⟩]).trans (Am.tree _)⟩
    ·cases h
  ·cases h
 ·rename_i t x y
  split at h
  ·rename_i e ek eb k zz h1
   split at h
   ·rename_i i n h2 h3
    cases hb:(aNj x y&&(Nat.ble eb 2048&&okE (U:=U) e ek e)) with
    |false=>rw[hb] at h;cases h
    |true=>
     rw[hb] at h
     simp only[cond_true] at h
     simp only[Bool.and_eq_true] at hb
     split at h
     ·rename_i ds h7
      split at h
      ·rename_i z2 h8
       obtain⟨hg,h⟩:=kL h
       exact⟨_,_,h,bBj G.ti G.lay r ho h1 h2 h3 hb.1 hb.2.1 hb.2.2 h7 h8 hg,rfl,rfl,Am.add _ _⟩
      ·cases h
     ·cases h
   ·cases h
  ·cases h
 ·rename_i xa ats
  split at h
  ·rename_i x y t t2 hxa hats
   split at h
   ·rename_i e ek eb k zz h1
    cases hb:(Nat.beq t t2&&(Nat.ble eb 2048&&okE (U:=U) e ek e)) with
    |false=>rw[hb] at h;cases h
    |true=>
     rw[hb] at h
     simp only[cond_true] at h
     simp only[Bool.and_eq_true] at hb
     obtain rfl:t=t2:=Nat.eq_of_beq_eq_true hb.1
     split at h
     ·rename_i px py h4 h5
      split at h
      ·rename_i i d l s1 h6
       split at h
       ·rename_i l' ids d' h7
        obtain⟨hg,h⟩:=kL h
        rw[bEo hxa,bEp hats] at ho ⊢
        exact⟨_,_,h,aXa G.ti G.lay r ho h1 hb.2.1 hb.2.2 h4 h5 h6 h7 hg,(bBp h6).1,(bBp h6).2.1,(bBp h6).2.2.trans (Am.tree _)⟩
       ·cases h
      ·cases h
     ·cases h
   ·cases h
  ·cases h
 ·rename_i f xa ats
  split at h
  ·rename_i S hS
   have hok:=G.fs f S (bCv hS)
   simp only at h
   split at h
   ·rename_i z1 hz
    cases hmk:S.wt with
    |true=>
     rw[hmk] at h
     simp only[cond_true] at h
     split at h
     ·rename_i x y hxs
      split at h
      ·rename_i cs hp
       obtain⟨q,hq,h⟩:=aC h
       split at h
       ·rename_i b1 ds b2 k hr
        split at h
        ·rename_i us hw
         cases hd:(dist (Fj us)&&Ng (U:=U) S.ar) with
         |false=>rw[hd] at h;cases h
         |true=>
          rw[hd] at h
          simp only[cond_true] at h
          simp only[Bool.and_eq_true] at hd
          have hcl:Nat.ble (Bc FZ (.call {callee:= .value (.func f),args:=xa,argTypes:=ats})) 1=false:=by simp only[Bc,hS,hmk,cond_true];rfl
          rw[hcl]
          exact⟨_,_,h,aN3 G.lay r ho hok hz hmk hq hxs hp hr hd.2 hw (rD.1 hd.1),rfl,rfl,Am.aBE _ (aZi hw)⟩
        ·cases h
       ·cases h
      ·cases h
     ·cases h
    |false=>
     rw[hmk] at h
     simp only[cond_false] at h
     cases hfr:S.fr with
     |true=>
      rw[hfr] at h
      simp only[cond_true] at h
      obtain⟨q,hq,h⟩:=aC h
      exact⟨_,_,h,(aJ0 r ho hok hz hmk hfr hq).to,rfl,rfl,Am.add _ _⟩
     |false=>
      rw[hfr] at h
      simp only[cond_false] at h
      cases hff:(Fg Y S.rs||Fh (xa.toList.map (gH s))) with
      |false=>rw[hff] at h;cases h
      |true=>
       rw[hff] at h
       simp only[cond_true] at h
       obtain⟨q,hq,h⟩:=aC h
       rw[Bool.or_eq_true] at hff
       exact⟨_,_,h,(aJz G.lay r ho hok hz hmk hfr hff hq).to,rfl,rfl,Am.refl _⟩
   ·cases h
  ·cases h
 ·exact absurd rfl hc
 ·rename_i ta tb x
  have mk:∀{K:Sv U→St U→Option α} {z:α},aDv Y TI s (.convert ta tb x) (fun x=>K x s)=some z→∃y s',K y s'=some z∧SO P Y.C E a w o y s' (Nat.ble (Bc FZ (.convert ta tb x)) 1)∧s'.t=s.t∧s'.fr=s.fr∧Am s.m s'.m:=fun h=>by
   obtain⟨y,k1,k2⟩:=Zo G.ti r h
   exact⟨y,s,k1,(SO.aCB r (o:=o) (by rw[ho];exact k2)).to,rfl,rfl,Am.refl _⟩
  cases hm:mE FZ (tb+1000000) with
  |none=>simp only[hm] at h;exact mk h
  |some S=>
   simp only[hm] at h
   split at h
   ·rename_i k1 z1 e ek eb k2 z2 k3 z3 z h1 h2 h3 h4
    cases hb:Nat.beq e Y.bt with
    |false=>rw[hb] at h;cases h
    |true=>
     rw[hb] at h
     have he:=Nat.eq_of_beq_eq_true hb
     subst he
     exact⟨_,_,h,(bEn r ho (Nj (dM G.ti h1) rfl).1 (iG (Nk (dM G.ti h2) rfl).1).1 (Zn (dM G.ti h3) rfl).1 h4).to,rfl,rfl,Am.refl _⟩
   ·exact mk h
 ·rename_i h1 h2 h3 h4 h5 h6 h7 h8 h9
  obtain⟨x,k1,k2⟩:=Zo G.ti r h
  refine⟨x,s,k1,?_,rfl,rfl,Am.refl _⟩
  exact(by
   have hle:Nat.ble (Bc FZ op) 1=true∨Nat.ble (Bc FZ op) 1=false:=by cases Nat.ble (Bc FZ op) 1<;>simp
   have:=SO.aCB r (o:=o) (by rw[ho];exact k2)
   rcases hle with e|e
   ·rw[e];exact this
   ·rw[e];exact this.soft)
end
end Go.EV
