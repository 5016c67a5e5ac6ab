import Derived.Test.YtehmmnigkcmhoaaGreatDoorEVntorp
/-
  THE EVALUATOR's KIT: calls of functions that write their first argument. Plain theorems over any program; the conditions stand in each.
-/
set_option linter.unusedVariables false
set_option linter.unusedSimpArgs false
namespace Go.EV
open Go.RowKit Go.VK
variable {U:Uni} {Y:Lay U} {TI:List (Nat×TInfo)} {FZ:List (Nat×Sum U)} {P:Program} {g:GI} {E:Env U g}
section
variable {s:St U} {a:Act} {w:World} {β:List Tr} {α:Type} {C:Cod U}
theorem rU:∀{l:List (Nat×EO U)} {o:List (EO U)},(aBK l o).length=o.length
 |[],o=>rfl
 |x::l,o=>by
  have e:aBK (x::l) o=upd (aBK l o) x.1 x.2:=rfl
  rw[e,bK,List.length_set,rU]
theorem aE8:∀{l:List (Nat×EO U)},wU l=l.map (·.1)
 |[]=>rfl
 |x::l=>by
  have e:wU (x::l)=x.1::wU l:=rfl
  rw[e,aE8];rfl
theorem aGa:∀{l:List (Nat×EO U)} {o:List (EO U)} {j:Nat},j∉wU l→(aBK l o)[j]? =o[j]?
 |[],o,j,_=>rfl
 |x::l,o,j,h=>by
  have e:aBK (x::l) o=upd (aBK l o) x.1 x.2:=rfl
  have e2:wU (x::l)=x.1::wU l:=rfl
  rw[e2] at h
  rw[e,bK,List.getElem?_set_ne (fun hh=>h (by simp[hh])),aGa (fun hh=>h (by simp[hh]))]
theorem aTr:∀{l:List (Nat×EO U)} {o:List (EO U)} {j:Nat} {e:EO U},(wU l).Nodup→(j,e)∈l→j<o.length→(aBK l o)[j]? =some e
 |[],o,j,e,_,h,_=>by simp at h
 |x::l,o,j,e,hn,h,hj=>by
  have e1:aBK (x::l) o=upd (aBK l o) x.1 x.2:=rfl
  have e2:wU (x::l)=x.1::wU l:=rfl
  rw[e2] at hn
  obtain⟨n1,n2⟩:=List.nodup_cons.1 hn
  rw[e1,bK]
  rcases List.mem_cons.1 h with h|h
  ·subst h
   rw[List.getElem?_set_self (by rw[rU];exact hj)]
  ·have hm:j∈wU l:=by rw[aE8];exact List.mem_map.2 ⟨_,h,rfl⟩
   rw[List.getElem?_set_ne (fun hh=>n1 (by rw[hh];exact hm))]
   exact aTr n2 h hj
theorem aOs {τ k n:Nat}{t:Tr}{xs xs':List Value}(k2:w.ownsRow 0 τ k t.val n xs)(a5:w.ownsRow 0 τ k t.val n xs'):xs=xs':=by
 rcases bZ k2 with⟨b1,b2,b3,_⟩|⟨b,cur,b1,_,_,_,b5,_,b7⟩
 ·rw[b3]
  have:=a5.1;rw[b2] at this;simp at this;exact this.symm
 ·rcases bZ a5 with⟨c1,_⟩|⟨b',cur',c1,_,_,_,c5,_,c7⟩
  ·rw[b1] at c1;cases c1
  ·rw[b1] at c1;injection c1 with c1;subst c1
   rw[b5] at c5;injection c5 with c5;injection c5 with c5;subst c5
   rw[←b7,←c7]
theorem Tr.aCN {t t':Tr}(h:t'.val=t.val):t'.b=t.b∧t'.n=t.n∧t'.c=t.c:=by
 obtain⟨b,n,c,bs⟩:=t
 obtain⟨b',n',c',bs'⟩:=t'
 simp only[Tr.val,Value.slice.injEq] at h
 refine⟨?_,h.2.1,h.2.2⟩
 cases b<;>cases b'<;>simp_all
theorem in4 {x:Nat}{l a b c d:List Nat}(hl:l=a++(b++(c++d)))(h:x∈a++(b++d)):x∈l:=by
 rw[hl]
 simp only[List.mem_append] at h ⊢
 rcases h with h|h|h
 ·exact .inl h
 ·exact .inr (.inl h)
 ·exact .inr (.inr (.inr h))
theorem bBj {δ:Type}{l:List δ}(h:l.Nodup){i j:Nat}{x:δ}(hi:l[i]? =some x)(hj:l[j]? =some x):i=j:=by
 have hp:=List.pairwise_iff_getElem.1 h
 obtain⟨l1,e1⟩:=List.getElem?_eq_some_iff.1 hi
 obtain⟨l2,e2⟩:=List.getElem?_eq_some_iff.1 hj
 rcases Nat.lt_trichotomy i j with q|q|q
 ·exact absurd (e1.trans e2.symm) (hp i j l1 l2 q)
 ·exact q
 ·exact absurd (e2.trans e1.symm) (hp j i l2 l1 q)
theorem rV:∀{ks:List Kd},Cs (U:=U) ks=true→∀kd∈ks,∀τ,kd= .sl τ→0<U.K τ
 |[],_,kd,h,_,_=>by simp at h
 |k::ks,h,kd,hk,τ,e=>by
  cases k with
  |sl τ'=>
   simp only[Cs,Bool.and_eq_true] at h
   rcases List.mem_cons.1 hk with rfl|hk
   ·injection e with e;subst e;exact Nat.le_of_ble_eq_true h.1
   ·exact rV h.2 kd hk τ e
  |_=>
   rcases List.mem_cons.1 hk with rfl|hk
   ·cases e
   ·exact rV (ks:=ks) h kd hk τ e
def aY9 (C:Cod U)(w:World)(t:Tr)(τ:Nat)(L:List (U.El τ)):Prop:=0<U.K τ∧∃xs,w.ownsRow 0 τ (U.K τ) t.val L.length xs∧OwL C w (fun _=>False) true xs (L.map (C.cel τ)).flatten t.bs
structure Hd (C:Cod U) (m:Mm U) (w:World) (β:List Tr) (v:Value) (y':Lf U) (i:Nat) (e:EO U) (t:Tr) (B:List Nat):Prop where
 ht:β[i]? =some t
 he:∃e0 τ L,m.o[i]? =some e0∧e0.ob.aAU=false∧e=⟨.tree τ true L,e0.rv,Nat.succ m.k⟩
 sub:∀b∈B,b∈t.all
 back:∀w' B',w.heap.size≤w'.heap.size→Ow C w' (fun _=>False) true v y' B'→(∀b∈t.all,b∉B→w'.heap[b]? =w.heap[b]?)→
  ∃t' τ L,t'.val=t.val∧(∀b∈t'.all,b∈B'∨(b∈t.all∧b∉B))∧(B'.Nodup→(∀b∈B',b∈t.all→b∈B)→t'.all.Nodup)∧e.ob= .tree τ true L∧aY9 C w' t' τ L
theorem aW7 {X:Nat→Prop}{y:Lf U}{B:List Nat}(h:Ow C w X true (.slice none 0 0) y B):B=[]:=by
 generalize hv:Value.slice none 0 0=v at h
 cases h with
 |int=>cases hv
 |bool=>cases hv
 |str=>cases hv
 |fz h0=>cases h0
 |su h0=>cases h0
 |sl t hk hown hc=>
  obtain⟨b,n,c,bs⟩:=t
  simp only[Tr.val,Value.slice.injEq] at hv
  obtain⟨h1,rfl,rfl⟩:=hv
  cases b with
  |some b=>cases h1
  |none=>
   rcases bZ hown with⟨_,h2,h3,_⟩|⟨b,_,h2,_⟩
   ·subst h3
    have hl:=List.eq_nil_of_length_eq_zero h2
    subst hl
    cases hc
    rfl
   ·cases h2
theorem aW8 {X:Nat→Prop}{v:Value}{y:Lf U}{B:List Nat}(h:Ow C w X true v y B)(hv:∀b n c,v≠ .slice b n c):B=[]:=by
 cases h with
 |sl t=>exact absurd rfl (hv _ _ _)
 |su h0=>cases h0
 |_=>rfl
theorem aW9 (hY:LayOk Y)(H:Hp Y.C E s.m β w){kd:Kd}{x y y':Lf U}{us:List (Nat×EO U)}{v:Value}(hm:x.mean Y.C w (E.X β) β s.m v)(hr:F7 s.m kd x=some y)(hw:wr1 Y s.m x y'=some us)(hK:∀τ,kd= .sl τ→0<U.K τ):
  ∃B,Ow Y.C w (fun _=>False) true v y B∧B.Nodup∧((us=[]∧B=[]∧∀w' B',Ow Y.C w' (fun _=>False) true v y' B'→B'=[])∨∃i e t,us=[(i,e)]∧Hd Y.C s.m w β v y' i e t B):=by
 have flat:jG x=true→jX s.m x=some y→us=[]→(∀τ ll,y≠ .sl τ ll)→∃B,Ow Y.C w (fun _=>False) true v y B∧B.Nodup∧((us=[]∧B=[]∧∀w' B',Ow Y.C w' (fun _=>False) true v y' B'→B'=[])∨∃i e t,us=[(i,e)]∧Hd Y.C s.m w β v y' i e t B):=fun hf hr hl hns=>by
  obtain⟨k1,k2⟩:=rP H hm hr (Z:=fun _=>False) (fun _ h=>h.elim) (.inl hf)
  refine⟨[],?_,List.nodup_nil, .inl ⟨hl,rfl,fun w' B' h=>aW8 h ?_⟩⟩
  ·cases y with
   |int k n=>obtain⟨rfl,h1,h2⟩:=k2.aAP;exact .int h1 h2
   |bool b=>obtain rfl:=k2.aAS;exact .bool
   |str z=>obtain⟨rfl,h1⟩:=k2.aAR;exact .str h1
   |sl τ ll=>exact absurd rfl (hns τ ll)
   |_=>cases k1
  ·cases y with
   |int k n=>obtain⟨rfl,h1,h2⟩:=k2.aAP;intro _ _ _ e;cases e
   |bool b=>obtain rfl:=k2.aAS;intro _ _ _ e;cases e
   |str z=>obtain⟨rfl,h1⟩:=k2.aAR;intro _ _ _ e;cases e
   |sl τ ll=>exact absurd rfl (hns τ ll)
   |_=>cases k1
 cases x with
 |own i r=>
  obtain⟨_,e,t,h2,h3,h4⟩:=hm
  obtain⟨ob,rv,cv⟩:=e
  replace hr:jX s.m (.own i r)=some y:=hr
  simp only[jX,aM,h2] at hr
  simp only[wr1,aM,h2] at hw
  cases ob with
  |tree τ' d l0=>
   simp only at hr
   split at hw
   ·rename_i o' τ1 d1 l1 rv1 cv1 τ l heq
    injection heq with heq
    injection heq with q1 q2 q3
    injection q1 with q4 q5 q6
    subst q4;subst q5;subst q2;subst q3
    have q6:=eq_of_heq q6;subst q6
    cases hb:(d&&(Nat.beq rv r&&Nat.beq τ' τ)) with
    |false=>rw[hb] at hw;cases hw
    |true=>
     rw[hb] at hw
     simp only[cond_true] at hw
     have:=Option.some.inj hw;subst this
     simp only[Bool.and_eq_true] at hb
     obtain⟨hd,hb1,hb2⟩:=hb
     subst hd
     have hb2:=Nat.eq_of_beq_eq_true hb2;subst hb2
     rw[hb1] at hr
     have:=Option.some.inj hr;subst this
     have hv:=h4 (Nat.eq_of_beq_eq_true hb1)
     refine⟨t.all,?_,H.nd i t h3, .inr ⟨i,_,t,rfl,h3,⟨_,τ',l,h2,rfl,rfl⟩,fun _ h=>h,fun w' B' hsz ho hh=> ?_⟩⟩
     ·rw[hv];exact(Hp.tree H h3 h2 rfl).aBU rfl
     ·generalize hyy:(Lf.sl τ' l:Lf U)=yy at ho
      cases ho with
      |fz h0=>cases h0
      |su h0=>cases h0
      |sl t' hk hown hc=>
       injection hyy with e1 e2
       subst e1;have e2:=eq_of_heq e2;subst e2
       refine⟨t',_,_,hv,fun b hb=> .inl hb,fun hnd _=>hnd,rfl,hk,_,hown,hc⟩
      |_=>cases hyy
   ·cases hw
  |_=>cases hr
 |inn i c τ q z j τ' l0=>
  obtain⟨hone,e,t,h2,h3,h4⟩:=hm
  obtain⟨ob,rv,cv⟩:=e
  replace hr:jX s.m (.inn i c τ q z j τ' l0)=some y:=hr
  simp only[jX,okv,aM,h2] at hr
  simp only[wr1,aM,h2] at hw
  cases ob with
  |tree τ1 d L0=>
   split at hw
   ·rename_i o' τ2 d1 l1 rv1 cv1 τ'' l heq
    injection heq with heq
    injection heq with q1 q2 q3
    injection q1 with q4 q5 q6
    subst q4;subst q5;subst q2;subst q3
    have q6:=eq_of_heq q6;subst q6
    cases hb:(d&&(Nat.beq cv c&&Nat.beq τ'' τ')) with
    |false=>rw[hb] at hw;cases hw
    |true=>
     rw[hb] at hw
     simp only[cond_true] at hw
     simp only[Bool.and_eq_true] at hb
     obtain⟨hd,hb1,hb2⟩:=hb
     subst hd
     have hb2:=Nat.eq_of_beq_eq_true hb2;subst hb2
     rw[hb1] at hr
     have:=Option.some.inj hr;subst this
     cases hs:Vw τ τ1 L0 with
     |none=>rw[hs] at hw;cases hw
     |some L=>
      rw[hs] at hw
      obtain⟨rfl,hL⟩:=iN hs
      have hL:=eq_of_heq hL;subst hL
      simp only at hw
      split at hw
      ·rename_i z' hz'
       have:=Option.some.inj hw;subst this
       obtain⟨d',L',xs,a1,a2,a3,a4,a5,a6⟩:=h4 (Nat.eq_of_beq_eq_true hb1)
       injection a1 with a11 a12 a13
       subst a12;subst a13
       have hok:=H.ok i t _ h3 h2
       obtain⟨k1,xs',k2,k3⟩:=hok
       obtain rfl:=aOs k2 a5
       obtain⟨l1,l2,g1,g2,g3,g4⟩:=Mr (Y.C.hlen τ1) a3
       obtain⟨c1,c2,g5,g6⟩:∃c1 c2,Y.C.cel τ1 z=c1++(.sl τ'' l0)::c2∧c1.length=j:=by
        obtain⟨hj,hj2⟩:=List.getElem?_eq_some_iff.1 a4
        exact⟨(Y.C.cel τ1 z).take j,(Y.C.cel τ1 z).drop (j+1),by rw[←hj2,List.getElem_cons_drop,List.take_append_drop],by rw[List.length_take];omega⟩
       have hcel':Y.C.cel τ1 z'=c1++(.sl τ'' l)::c2:=by
        rw[←Y.C.hmk _ _ _ hz',bK,g5,List.set_append_right _ _ (by omega)]
        simp[g6]
       rw[g3,g5] at k3
       rw[show(l1.map (Y.C.cel τ1)).flatten++((c1++ .sl τ'' l0::c2)++(l2.map (Y.C.cel τ1)).flatten)=((l1.map (Y.C.cel τ1)).flatten++c1)++(.sl τ'' l0::(c2++(l2.map (Y.C.cel τ1)).flatten)) by simp] at k3
       obtain⟨v1,v2,B1,B2',rfl,hbs,o1,o2⟩:=OwL.split k3
       cases o2 with
       |c ho orest=>
        rename_i u B Br vr
        have hlen1:v1.length=q.toNat*U.K τ1+j:=by rw[o1.len,List.length_append,g4,g6]
        have hu:u=v:=by
         rw[←hlen1,List.getElem?_append_right (Nat.le_refl _),Nat.sub_self] at a6
         simpa using a6
        subst hu
        have hnd:=H.nd i t h3
        have hsub:∀b∈B,b∈t.bs:=fun b hb=>by rw[hbs];simp[hb]
        have hall:t.all=t.b.toList++(B1++(B++Br)):=by rw[←hbs];rfl
        rw[hall] at hnd
        obtain⟨n1,n2,n3⟩:=List.nodup_append.1 hnd
        obtain⟨n4,n5,n6⟩:=List.nodup_append.1 n2
        obtain⟨n7,n8,n9⟩:=List.nodup_append.1 n5
        refine⟨B,ho.aBU rfl,n7, .inr ⟨i,_,t,rfl,h3,⟨_,τ1,_,h2,rfl,rfl⟩,fun b hb=>by rw[hall];simp[hb],fun w' B' hsz ho' hh=> ?_⟩⟩
        have hkeep:∀b∈t.b.toList++(B1++Br),w'.heap[b]? =w.heap[b]? :=fun b hb=>by
         refine hh b (in4 hall hb) (fun hB=> ?_)
         simp only[List.mem_append] at hb
         rcases hb with hb|hb|hb
         ·exact n3 b hb b (by simp[hB]) rfl
         ·exact n6 b hb b (by simp[hB]) rfl
         ·exact n9 b hB b hb rfl
        let t':Tr:=⟨t.b,t.n,t.c,B1++(B'++Br)⟩
        have hval:t'.val=t.val:=rfl
        refine⟨t',τ1,L0.set q.toNat z',hval,fun b hb=> ?_,fun hB' hdis=> ?_,rfl,k1,v1++u::vr,?_,?_⟩
        ·have hb':b∈t.b.toList++(B1++(B'++Br)):=hb
         simp only[List.mem_append] at hb'
         have key:b∈t.b.toList++(B1++Br)→b∈t.all∧b∉B:=fun hb=>by
          refine⟨in4 hall hb,fun hB=> ?_⟩
          simp only[List.mem_append] at hb
          rcases hb with hb|hb|hb
          ·exact n3 b hb b (by simp[hB]) rfl
          ·exact n6 b hb b (by simp[hB]) rfl
          ·exact n9 b hB b hb rfl
         rcases hb' with hb'|hb'|hb'|hb'
         ·exact .inr (key (by simp[hb']))
         ·exact .inr (key (by simp[hb']))
         ·exact .inl hb'
         ·exact .inr (key (by simp[hb']))
        ·show(t.b.toList++(B1++(B'++Br))).Nodup
         have hin:∀b∈B',b∈t.b.toList++(B1++Br)→False:=fun b hb hb2=>by
          have hB:=hdis b hb (in4 hall hb2)
          simp only[List.mem_append] at hb2
          rcases hb2 with h|h|h
          ·exact n3 b h b (by simp[hB]) rfl
          ·exact n6 b h b (by simp[hB]) rfl
          ·exact n9 b hB b h rfl
         refine List.nodup_append.2 ⟨n1,List.nodup_append.2 ⟨n4,List.nodup_append.2 ⟨hB',n8,fun x hx y hy e=> ?_⟩,fun x hx y hy e=> ?_⟩,fun x hx y hy e=> ?_⟩
         ·subst e;exact hin x hx (by simp[hy])
         ·subst e
          rcases List.mem_append.1 hy with hy|hy
          ·exact hin x hy (by simp[hx])
          ·exact n6 x hx x (by simp[hy]) rfl
         ·subst e
          simp only[List.mem_append] at hy
          rcases hy with hy|hy|hy
          ·exact n3 x hx x (by simp[hy]) rfl
          ·exact hin x hy (by simp[hx])
          ·exact n3 x hx x (by simp[hy]) rfl
        ·rw[List.length_set]
         exact iJ (t:=t) k2 (fun b hb=>hkeep b (by simp[hb]))
        ·have hLs:(L0.set q.toNat z')=l1++z'::l2:=by
          rw[g1,List.set_append_right _ _ (by omega)]
          simp[g2]
         rw[hLs]
         simp only[List.map_append,List.map_cons,List.flatten_append,List.flatten_cons,hcel']
         rw[show(l1.map (Y.C.cel τ1)).flatten++((c1++ .sl τ'' l::c2)++(l2.map (Y.C.cel τ1)).flatten)=((l1.map (Y.C.cel τ1)).flatten++c1)++(.sl τ'' l::(c2++(l2.map (Y.C.cel τ1)).flatten)) by simp]
         refine OwL.app ?_ (.c ho' ?_)
         ·exact(o1.aBU (X':=fun _=>True) rfl).conv hsz (fun _ _ _=>trivial) (fun _ _ h=>absurd trivial h) (fun b hb=>hkeep b (by simp[hb]))
         ·exact(orest.aBU (X':=fun _=>True) rfl).conv hsz (fun _ _ _=>trivial) (fun _ _ h=>absurd trivial h) (fun b hb=>hkeep b (by simp[hb]))
      ·cases hw
   ·cases hw
  |_=>cases y'<;>cases hw
 |nil=>
  obtain rfl:=hm
  have:=Option.some.inj (show some []=some us from hw);subst this
  cases kd with
  |sl τ=>
   have:=Option.some.inj (show some (Lf.sl τ [])=some y from hr);subst this
   exact⟨[], .sl Rm (hK τ rfl) (World.ownsRow_nil w 0 τ (U.K τ)) .n,List.nodup_nil, .inl ⟨rfl,rfl,fun w' B' h=>aW7 h⟩⟩
  |_=>cases hr
 |int k n=>have e:=Option.some.inj (show some (Lf.int k n)=some y from hr);exact flat rfl hr (Option.some.inj hw).symm (fun _ _ e'=>by rw[←e] at e';cases e')
 |bool b=>have e:=Option.some.inj (show some (Lf.bool b)=some y from hr);exact flat rfl hr (Option.some.inj hw).symm (fun _ _ e'=>by rw[←e] at e';cases e')
 |str b=>have e:=Option.some.inj (show some (Lf.str b)=some y from hr);exact flat rfl hr (Option.some.inj hw).symm (fun _ _ e'=>by rw[←e] at e';cases e')
 |nat c=>
  refine flat rfl hr (Option.some.inj hw).symm (fun τ ll e'=> ?_)
  subst e'
  replace hr:jX s.m (.nat c)=some (.sl τ ll):=hr
  simp only[jX] at hr
  split at hr<;>cases hr
 |lt c n=>
  refine flat rfl hr (Option.some.inj hw).symm (fun τ ll e'=> ?_)
  subst e'
  replace hr:jX s.m (.lt c n)=some (.sl τ ll):=hr
  simp only[jX] at hr
  split at hr<;>cases hr
 |sl=>cases hw
 |bor=>cases hw
 |_=>cases hr
structure Wo (U:Uni) where
 i:Nat
 e:EO U
 t:Tr
 B:List Nat
 v:Value
 y:Lf U
theorem aQz {m:Mm U}{x y:Lf U}{xs ys:List (Lf U)}{us:List (Nat×EO U)}(h:wrm Y m (x::xs) (y::ys)=some us):∃u u',wr1 Y m x y=some u∧wrm Y m xs ys=some u'∧us=u++u':=by
 simp only[wrm] at h
 cases h1:wr1 Y m x y with
 |none=>rw[h1] at h;cases h
 |some u=>
  cases h2:wrm Y m xs ys with
  |none=>rw[h1,h2] at h;cases h
  |some u'=>rw[h1,h2] at h;exact⟨u,u',rfl,rfl,(Option.some.inj h).symm⟩
theorem aQ0 (hY:LayOk Y)(H:Hp Y.C E s.m β w):∀(ks:List Kd) {cs csd ds:List (Lf U)} {us:List (Nat×EO U)} {vs:List Value},F8 s.m ks cs=some csd→wrm Y s.m cs ds=some us→Ms Y.C w (E.X β) β s.m vs cs→(∀kd∈ks,∀τ,kd= .sl τ→0<U.K τ)→
  ∃W:List (Wo U),OwL Y.C w (fun _=>False) true vs csd ((W.map (·.B)).flatten)∧us=W.map (fun r=>(r.i,r.e))∧(∀r∈W,r.B.Nodup∧Hd Y.C s.m w β r.v r.y r.i r.e r.t r.B)∧
   ∀w' B',OwL Y.C w' (fun _=>False) true vs ds B'→∃Bs:List (List Nat),Bs.length=W.length∧Bs.flatten=B'∧∀(n:Nat) (r:Wo U) (b:List Nat),W[n]? =some r→Bs[n]? =some b→Ow Y.C w' (fun _=>False) true r.v r.y b
 |[],[],csd,ds,us,vs,h,hw,hM,_=>by
  have:=Option.some.inj h;subst this
  have hv:vs=[]:=List.eq_nil_of_length_eq_zero hM.1
  subst hv
  cases ds with
  |nil=>
   have:=Option.some.inj hw;subst this
   refine⟨[], .n,rfl,by simp,fun w' B' h=>⟨[],rfl,?_,by simp⟩⟩
   cases h;rfl
  |cons=>cases hw
 |[],_::_,_,_,_,_,h,_,_,_=>by cases h
 |_::_,[],_,_,_,_,h,_,_,_=>by cases h
 |kd::ks,x::xs,csd,ds,us,vs,h,hw,hM,hK=>by
  obtain⟨y,ys,h1,h2,rfl⟩:=aF9 h
  cases ds with
  |nil=>cases hw
  |cons y' ys'=>
   obtain⟨u,u',w1,w2,rfl⟩:=aQz hw
   cases vs with
   |nil=>have:=hM.1;simp at this
   |cons v vs=>
    obtain⟨W,p1,p2,p3,p4⟩:=aQ0 hY H ks h2 w2 ⟨by have:=hM.1;simpa using this,fun i u c p q=>hM.2 (i+1) u c (by simpa using p) (by simpa using q)⟩ (fun kd' hk=>hK kd' (by simp[hk]))
    obtain⟨B,q1,q2,q3⟩:=aW9 hY H (hM.2 0 v x rfl rfl) h1 w1 (hK kd (by simp))
    rcases q3 with⟨rfl,rfl,q4⟩|⟨i,e,t,rfl,q4⟩
    ·refine⟨W,by simpa using OwL.c q1 p1,by simpa using p2,p3,fun w' B' ho=> ?_⟩
     cases ho with
     |c ho hr=>
      have:=q4 w' _ ho;subst this
      obtain⟨Bs,a1,a2,a3⟩:=p4 w' _ hr
      exact⟨Bs,a1,by simpa using a2,a3⟩
    ·refine⟨⟨i,e,t,B,v,y'⟩::W,by simpa using OwL.c q1 p1,by simp[p2],fun r hr=> ?_,fun w' B' ho=> ?_⟩
     ·rcases List.mem_cons.1 hr with rfl|hr
      ·exact⟨q2,q4⟩
      ·exact p3 r hr
     ·cases ho with
      |c ho hr=>
       rename_i b b'
       obtain⟨Bs,a1,a2,a3⟩:=p4 w' _ hr
       refine⟨b::Bs,by simp[a1],by simp[a2],fun n r c e1 e2=> ?_⟩
       cases n with
       |zero=>simp at e1 e2;subst e1;subst e2;exact ho
       |succ n=>exact a3 n r c (by simpa using e1) (by simpa using e2)
noncomputable def aOt (W:List (Nat×Tr))(β:List Tr):List Tr:=W.foldr (fun x l=>l.set x.1 x.2) β
theorem Wq:∀{W:List (Nat×Tr)} {β:List Tr},(aOt W β).length=β.length
 |[],_=>rfl
 |x::W,β=>by show((aOt W β).set _ _).length=_;rw[List.length_set,Wq]
theorem aQ1:∀{W:List (Nat×Tr)} {β:List Tr} {j:Nat},j∉W.map (·.1)→(aOt W β)[j]? =β[j]?
 |[],_,_,_=>rfl
 |x::W,β,j,h=>by
  simp only[List.map_cons,List.mem_cons,not_or] at h
  show((aOt W β).set _ _)[j]? =_
  rw[List.getElem?_set_ne (Ne.symm h.1),aQ1 h.2]
theorem aTs:∀{W:List (Nat×Tr)} {β:List Tr} {j:Nat} {t:Tr},(W.map (·.1)).Nodup→(j,t)∈W→j<β.length→(aOt W β)[j]? =some t
 |[],_,_,_,_,h,_=>by simp at h
 |x::W,β,j,t,hn,h,hj=>by
  simp only[List.map_cons] at hn
  obtain⟨n1,n2⟩:=List.nodup_cons.1 hn
  show((aOt W β).set _ _)[j]? =_
  rcases List.mem_cons.1 h with h|h
  ·subst h;rw[List.getElem?_set_self (by rw[Wq];exact hj)]
  ·have hm:j∈W.map (·.1):=List.mem_map.2 ⟨_,h,rfl⟩
   rw[List.getElem?_set_ne (fun hh=>n1 (by rw[hh];exact hm))]
   exact aTs n2 h hj
theorem aW.wrote (r:aW Y.C E s a w β){w':World}{W:List (Wo U)}(hn:(W.map (·.i)).Nodup)(hW:∀r∈W,r.B.Nodup∧Hd Y.C s.m w β r.v r.y r.i r.e r.t r.B)(hbel:Bel (·∈(W.map (·.B)).flatten) w w')
  {Bs:List (List Nat)} (hl:Bs.length=W.length) (hnd:Bs.flatten.Nodup) (hsub:∀x∈Bs.flatten,x∈(W.map (·.B)).flatten∨w.heap.size≤x) (how:∀(n:Nat) (r:Wo U) (b:List Nat),W[n]? =some r→Bs[n]? =some b→Ow Y.C w' (fun _=>False) true r.v r.y b):
  ∃β',aW Y.C E ⟨s.t,⟨aBK (W.map fun r=>(r.i,r.e)) s.m.o,Nat.succ s.m.k,s.m.ns⟩,s.fr⟩ a w' β':=by
 have H:=r.hp
 have hget:∀{n:Nat} {r:Wo U},W[n]? =some r→r∈W:=fun h=>List.mem_of_getElem? h
 have hdisj:∀{r1 r2:Wo U} {b:Nat},r1∈W→r2∈W→r1.i≠r2.i→b∈r1.t.all→b∉r2.t.all:=fun {r1 r2 b} h1 h2 hne hb=>
  H.dist r1.i r2.i r1.t r2.t b hne (hW r1 h1).2.ht (hW r2 h2).2.ht hb
 have hBall:∀{b:Nat},b∈(W.map (·.B)).flatten→∃r∈W,b∈r.B:=fun {b} h=>by
  obtain⟨l,hl,hb⟩:=List.mem_flatten.1 h
  obtain⟨r,hr,rfl⟩:=List.mem_map.1 hl
  exact⟨r,hr,hb⟩
 have hinj:∀{r1 r2:Wo U},r1∈W→r2∈W→r1.i=r2.i→r1=r2:=fun {r1 r2} h1 h2 he=>by
  obtain⟨n1,q1⟩:=List.mem_iff_getElem?.1 h1
  obtain⟨n2,q2⟩:=List.mem_iff_getElem?.1 h2
  have:n1=n2:=bBj hn (x:=r1.i) (by rw[List.getElem?_map,q1];rfl) (by rw[List.getElem?_map,q2,he];rfl)
  subst this
  rw[q1] at q2;exact Option.some.inj q2
 have hBt:∀{r1:Wo U} {b:Nat},r1∈W→b∈r1.t.all→b∈(W.map (·.B)).flatten→b∈r1.B:=fun {r1 b} h1 hb hB=>by
  obtain⟨r2,h2,hb2⟩:=hBall hB
  by_cases he:r1.i=r2.i
  ·rw[hinj h1 h2 he];exact hb2
  ·exact absurd ((hW r2 h2).2.sub b hb2) (hdisj h1 h2 he hb)
 have hback:∀(n:Nat) (r1:Wo U) (b:List Nat),W[n]? =some r1→Bs[n]? =some b→∃t':Tr,t'.val=r1.t.val∧(∀x∈t'.all,x∈b∨(x∈r1.t.all∧x∉r1.B))∧t'.all.Nodup∧∃τ L,r1.e.ob= .tree τ true L∧aY9 Y.C w' t' τ L:=fun n r1 b h1 h2=>by
  have hr1:=hget h1
  have hbB:∀x∈b,x∈r1.t.all→x∈(W.map (·.B)).flatten:=fun x hx hxt=>(hsub x (List.mem_flatten.2 ⟨b,List.mem_of_getElem? h2,hx⟩)).resolve_right (fun h=>by have:=(H.new r1.i r1.t x (hW r1 hr1).2.ht hxt).2;omega)
  obtain⟨t',τ,L,a1,a2,a3,a4,a5⟩:=(hW r1 hr1).2.back w' b hbel.size (how n r1 b h1 h2) (fun x hx hxn=>hbel.block x (H.new r1.i r1.t x (hW r1 hr1).2.ht hx).2 (fun hB=>hxn (hBt hr1 hx hB)))
  exact⟨t',a1,a2,a3 ((List.pairwise_flatten.1 hnd).1 b (List.mem_of_getElem? h2)) (fun x hx hxt=>hBt hr1 hxt (hbB x hx hxt)),τ,L,a4,a5⟩
 have hex:∀n:Nat,∃t':Tr,∀r1:Wo U,W[n]? =some r1→∃b,Bs[n]? =some b∧t'.val=r1.t.val∧(∀x∈t'.all,x∈b∨(x∈r1.t.all∧x∉r1.B))∧t'.all.Nodup∧∃τ L,r1.e.ob= .tree τ true L∧aY9 Y.C w' t' τ L:=fun n=>by
  cases h1:W[n]? with
  |none=>exact⟨Rm,fun r1 h=>by cases h⟩
  |some r0=>
   have h2:Bs[n]? =some (Bs[n]'(by rw[hl];exact lt_of_some h1)):=List.getElem?_eq_getElem _
   obtain⟨t',h3⟩:=hback n r0 _ h1 h2
   exact⟨t',fun r1 h=>by have:=Option.some.inj h;subst this;exact⟨_,h2,h3⟩⟩
 let T:Nat→Tr:=fun n=>Classical.choose (hex n)
 have hT:∀(n:Nat) (r1:Wo U),W[n]? =some r1→∃b,Bs[n]? =some b∧(T n).val=r1.t.val∧(∀x∈(T n).all,x∈b∨(x∈r1.t.all∧x∉r1.B))∧(T n).all.Nodup∧∃τ L,r1.e.ob= .tree τ true L∧aY9 Y.C w' (T n) τ L:=fun n=>Classical.choose_spec (hex n)
 let V:List (Nat×Tr):=(List.range W.length).map fun n=>((W.map (·.i)).getD n 0,T n)
 have hV1:V.map (·.1)=W.map (·.i):=by
  simp only[V,List.map_map]
  apply List.ext_getElem?
  intro n
  rw[List.getElem?_map]
  by_cases h:n<W.length
  ·simp[List.getElem?_range h,List.getElem?_eq_getElem h]
  ·simp[List.getElem?_eq_none (Nat.le_of_not_lt h),List.getElem?_eq_none (show(List.range W.length).length≤n by simp;omega)]
 have hVin:∀{n:Nat} {r1:Wo U},W[n]? =some r1→(r1.i,T n)∈V:=fun {n r1} h=>by
  refine List.mem_map.2 ⟨n,List.mem_range.2 (lt_of_some h),?_⟩
  simp[List.getD,h]
 have hids:wU (W.map fun r=>(r.i,r.e))=W.map (·.i):=by rw[aE8,List.map_map];rfl
 have hmem:∀{j:Nat},j∈W.map (·.i)→∃(n:Nat) (r1:Wo U),W[n]? =some r1∧r1.i=j:=fun {j} h=>by
  obtain⟨r1,h1,rfl⟩:=List.mem_map.1 h
  obtain⟨n,hn⟩:=List.mem_iff_getElem?.1 h1
  exact⟨n,r1,hn,rfl⟩
 let β':=aOt V β
 have hβin:∀{n:Nat} {r1:Wo U},W[n]? =some r1→β'[r1.i]? =some (T n):=fun {n r1} h=>aTs (by rw[hV1];exact hn) (hVin h) (lt_of_some (hW r1 (hget h)).2.ht)
 have hβout:∀{j:Nat},j∉W.map (·.i)→β'[j]? =β[j]? :=fun h=>aQ1 (by rw[hV1];exact h)
 have hoin:∀{n:Nat} {r1:Wo U},W[n]? =some r1→(aBK (W.map fun r=>(r.i,r.e)) s.m.o)[r1.i]? =some r1.e:=fun {n r1} h=>
  aTr (by rw[hids];exact hn) (List.mem_map.2 ⟨r1,hget h,rfl⟩) (by rw[←H.len];exact lt_of_some (hW r1 (hget h)).2.ht)
 have hoout:∀{j:Nat},j∉W.map (·.i)→(aBK (W.map fun r=>(r.i,r.e)) s.m.o)[j]? =s.m.o[j]? :=fun h=>aGa (by rw[hids];exact h)
 have hI0:∀{j:Nat},(j∈W.map (·.i)∨s.m.o.length≤j)→(β'[j]? ≠none∨(aBK (W.map fun r=>(r.i,r.e)) s.m.o)[j]? ≠none)→j∈W.map (·.i):=fun {j} h hb=>by
  rcases h with h|h
  ·exact h
  ·rcases hb with hb|hb
   ·exact absurd (List.getElem?_eq_none (by show(aOt V β).length≤j;rw[Wq,H.len];exact h)) hb
   ·exact absurd (List.getElem?_eq_none (by rw[rU];exact h)) hb
 have hTall:∀{n:Nat} {r1:Wo U} {x:Nat},W[n]? =some r1→x∈(T n).all→(w.heap.size≤x∧x<w'.heap.size)∨∃i u,i∈W.map (·.i)∧β[i]? =some u∧x∈u.all:=fun {n r1 x} h hx=>by
  obtain⟨b,h2,_,a2,_⟩:=hT n r1 h
  rcases a2 x hx with h3|h3
  ·rcases hsub x (List.mem_flatten.2 ⟨b,List.mem_of_getElem? h2,h3⟩) with h4|h4
   case inr=>exact .inl ⟨h4,(how n r1 b h h2).lt x h3⟩
   obtain⟨r2,k1,k2⟩:=hBall h4
   exact .inr ⟨r2.i,r2.t,List.mem_map.2 ⟨r2,k1,rfl⟩,(hW r2 k1).2.ht,(hW r2 k1).2.sub x k2⟩
  ·exact .inr ⟨r1.i,r1.t,List.mem_map.2 ⟨r1,hget h,rfl⟩,(hW r1 (hget h)).2.ht,h3.1⟩
 obtain⟨h1,h2⟩:=H.step (s':=⟨aBK (W.map fun r=>(r.i,r.e)) s.m.o,Nat.succ s.m.k,s.m.ns⟩) (β':=β') (w':=w') (fun j=>j∈W.map (·.i)) (·∈(W.map (·.B)).flatten) (Nat.le_succ _) (fun _ _ f h=>⟨f,h⟩) H.cnt (by show(aOt V β).length=_;rw[Wq,rU,H.len]) (by rw[rU];exact Nat.le_refl _) hbel.size hbel.os hbel.tape hbel.output hbel.block
  (fun b hb=>by
   obtain⟨r1,k1,k2⟩:=hBall hb
   exact⟨r1.i,r1.t,List.mem_map.2 ⟨r1,k1,rfl⟩,(hW r1 k1).2.ht,(hW r1 k1).2.sub b k2⟩)
  (fun j hj _=>⟨hoout hj,hβout hj⟩)
  (fun j t b hj ht hb=>by
   have hj':=hI0 hj (.inl (by rw[ht];simp))
   obtain⟨n,r1,k1,rfl⟩:=hmem hj'
   rw[hβin k1] at ht
   have:=Option.some.inj ht;subst this
   rcases hTall k1 hb with h9|⟨i,u,z1,z2,z3⟩
   ·exact⟨h9.2, .inl h9.1⟩
   exact⟨Nat.lt_of_lt_of_le (H.new i u b z2 z3).2 hbel.size, .inr ⟨i,u,z1,z2,z3⟩⟩)
  (fun i j t u b hi hj hij ht hu hb hub=>by
   have hi':=hI0 hi (.inl (by rw[ht];simp))
   have hj':=hI0 hj (.inl (by rw[hu];simp))
   obtain⟨n,r1,k1,rfl⟩:=hmem hi'
   obtain⟨n2,r2,k2,rfl⟩:=hmem hj'
   rw[hβin k1] at ht
   rw[hβin k2] at hu
   have:=Option.some.inj ht;subst this
   have:=Option.some.inj hu;subst this
   obtain⟨b1,c1,_,c2,_⟩:=hT n r1 k1
   obtain⟨b2,d1,_,d2,_⟩:=hT n2 r2 k2
   have hne:n≠n2:=fun e=>hij (by subst e;rw[k1] at k2;rw[Option.some.inj k2])
   have hall:∀{bb:List Nat} {m:Nat} {r3:Wo U},r3∈W→b∈r3.t.all→Bs[m]? =some bb→b∈bb→b∈(W.map (·.B)).flatten:=fun {bb m r3} m3 hb3 h1 h2=>(hsub b (List.mem_flatten.2 ⟨_,List.mem_of_getElem? h1,h2⟩)).resolve_right (fun h=>by have:=(H.new r3.i r3.t b (hW r3 m3).2.ht hb3).2;omega)
   rcases c2 b hb with hb1|hb1<;>rcases d2 b hub with hb2|hb2
   ·have hp:=List.pairwise_iff_getElem.1 (List.pairwise_flatten.1 hnd).2
    obtain⟨l1,e1⟩:=List.getElem?_eq_some_iff.1 c1
    obtain⟨l2,e2⟩:=List.getElem?_eq_some_iff.1 d1
    rcases Nat.lt_or_gt_of_ne hne with h|h
    ·exact hp n n2 l1 l2 h b (by rw[e1];exact hb1) b (by rw[e2];exact hb2) rfl
    ·exact hp n2 n l2 l1 h b (by rw[e2];exact hb2) b (by rw[e1];exact hb1) rfl
   ·exact hb2.2 (hBt (hget k2) hb2.1 (hall (hget k2) hb2.1 c1 hb1))
   ·exact hb1.2 (hBt (hget k1) hb1.1 (hall (hget k1) hb1.1 d1 hb2))
   ·exact hdisj (hget k1) (hget k2) hij hb1.1 hb2.1)
  (fun j t hj ht=>by
   have hj':=hI0 hj (.inl (by rw[ht];simp))
   obtain⟨n,r1,k1,rfl⟩:=hmem hj'
   rw[hβin k1] at ht
   have:=Option.some.inj ht;subst this
   obtain⟨b1,c1,_,_,c2,_⟩:=hT n r1 k1
   exact c2)
  (fun j e hj he=>by
   have hj':=hI0 hj (.inr (by simp only at he;rw[he];simp))
   obtain⟨n,r1,k1,rfl⟩:=hmem hj'
   simp only at he
   rw[hoin k1] at he
   have:=Option.some.inj he;subst this
   obtain⟨e0,τ,L,z1,z2,z3⟩:=(hW r1 (hget k1)).2.he
   rw[z3]
   exact⟨Nat.le_succ_of_le (H.vers _ _ z1).1,Nat.le_refl _⟩)
  (fun j e0 e' t t' hj he0 he' ht ht'=>by
   obtain⟨n,r1,k1,rfl⟩:=hmem hj
   simp only at he'
   rw[hoin k1] at he'
   have:=Option.some.inj he';subst this
   rw[hβin k1] at ht'
   have:=Option.some.inj ht';subst this
   obtain⟨e1,τ,L,z1,z2,z3⟩:=(hW r1 (hget k1)).2.he
   rw[he0] at z1
   have:=Option.some.inj z1;subst this
   have hW2:=(hW r1 (hget k1)).2.ht
   rw[ht] at hW2
   have:=Option.some.inj hW2;subst this
   obtain⟨b1,c1,c2,_⟩:=hT n r1 k1
   rw[z3]
   exact⟨fun _=>⟨rfl,c2⟩,Nat.lt_succ_self _,fun h=>by cases h⟩)
  (fun hev j t e hj ht he=>by
   have hj':=hI0 hj (.inl (by rw[ht];simp))
   obtain⟨n,r1,k1,rfl⟩:=hmem hj'
   simp only at he
   rw[hoin k1] at he
   have:=Option.some.inj he;subst this
   rw[hβin k1] at ht
   have:=Option.some.inj ht;subst this
   obtain⟨b1,c1,_,_,_,τ,L,c3,c4,xs,c5,c6⟩:=hT n r1 k1
   rw[c3]
   exact⟨c4,xs,c5,c6.aBU rfl⟩)
 exact⟨β',r.go h1 h2⟩
theorem aGb {m:Mm U}{k k':Kd}{ks:List Kd}{x:Sv U}{xs:List (Sv U)}{z:kV U (k::k'::ks)}(h:gG Y m (k::k'::ks) (x::xs)=some z):∃(z1:k.ty U) (z2:kV U (k'::ks)),pI Y m k x=some z1∧gG Y m (k'::ks) xs=some z2∧aY Y (k::k'::ks) z=eY Y k z1::aY Y (k'::ks) z2:=by
 have h':(match pI Y m k x with
  |some a=>match gG Y m (k'::ks) xs with
   |some b=>some ((a,b):kV U (k::k'::ks))
   |none=>none
  |none=>none)=some z:=h
 cases h1:pI Y m k x with
 |none=>rw[h1] at h';cases h'
 |some z1=>
  cases h2:gG Y m (k'::ks) xs with
  |none=>rw[h1,h2] at h';cases h'
  |some z2=>
   rw[h1,h2] at h'
   have:=Option.some.inj h';subst this
   exact⟨z1,z2,rfl,rfl,rfl⟩
theorem aVa {m:Mm U}{k:Kd}{ks:List Kd}:gG Y m (k::ks) []=none:=by cases ks<;>rfl
theorem aVb {m:Mm U}{ks:List Kd}{x y:Sv U}{z:kV U ks}(h:gG Y m ks [x,y]=some z):∃(k1 k2:Kd) (z1:k1.ty U) (z2:k2.ty U),ks=[k1,k2]∧pI Y m k1 x=some z1∧pI Y m k2 y=some z2∧aY Y ks z=[eY Y k1 z1,eY Y k2 z2]:=by
 cases ks with
 |nil=>cases h
 |cons k1 ks=>
  cases ks with
  |nil=>cases h
  |cons k2 ks=>
   obtain⟨z1,z2,h1,h2,h3⟩:=aGb h
   cases ks with
   |nil=>exact⟨k1,k2,z1,z2,rfl,h1,h2,h3⟩
   |cons k3 ks=>
    obtain⟨z3,z4,_,h4,_⟩:=aGb h2
    rw[aVa] at h4;cases h4
theorem aSg (hY:LayOk Y){m:Mm U}{kd:Kd}{x:Sv U}{z:kd.ty U}{cs:List (Lf U)}(h:pI Y m kd x=some z)(hp:parts x=some cs):∃ks,F8 m ks cs=some (eY Y kd z).2∧((∃T,kd= .st T∧ks=Y.kd T∧x= .a cs∧(eY Y kd z).1=true)∨(ks=[kd]∧(∃y,x= .l y∧cs=[y])∧(eY Y kd z).1=false)):=by
 have leaf:∀{y:Lf U},x= .l y→(∀T,kd≠ .st T)→(match F7 m kd y with|some q=>Rh kd q|none=>none)=some z→∃ks,F8 m ks cs=some (eY Y kd z).2∧((∃T,kd= .st T∧ks=Y.kd T∧x= .a cs∧(eY Y kd z).1=true)∨(ks=[kd]∧(∃y,x= .l y∧cs=[y])∧(eY Y kd z).1=false)):=fun {y} hx hkd h0=>by
  subst hx
  have:=Option.some.inj hp;subst this
  cases hr:F7 m kd y with
  |none=>rw[hr] at h0;cases h0
  |some q=>
   rw[hr] at h0
   have hq:=wY (show Rh kd q=some z from h0)
   subst hq
   refine⟨[kd],?_, .inr ⟨rfl,⟨y,rfl,rfl⟩,?_⟩⟩
   ·simp only[F8,hr]
    cases kd with
    |st T=>exact absurd rfl (hkd T)
    |_=>rfl
   ·cases kd with
    |st T=>exact absurd rfl (hkd T)
    |_=>rfl
 cases kd with
 |st T=>
  cases x with
  |a cs'=>
   have:=Option.some.inj hp;subst this
   have h':(match F8 m (Y.kd T) cs' with|some ds=>Y.C.bld T ds|none=>none)=some z:=h
   cases hr:F8 m (Y.kd T) cs' with
   |none=>rw[hr] at h';cases h'
   |some ds=>
    rw[hr] at h'
    refine⟨Y.kd T,?_, .inl ⟨T,rfl,rfl,rfl,rfl⟩⟩
    rw[hr,Y.C.hmk T ds z h'];rfl
  |l y=>
   have h':(match F7 m (Kd.st T) y with|some q=>Rh (Kd.st T) q|none=>none)=some z:=h
   cases hr:F7 m (Kd.st T) y with
   |none=>rw[hr] at h';cases h'
   |some q=>rw[hr] at h';cases q<;>cases h'
  |t y=>cases h
 |int k=>cases x with
  |l y=>exact leaf rfl (by simp) h
  |_=>cases h
 |bool=>cases x with
  |l y=>exact leaf rfl (by simp) h
  |_=>cases h
 |str=>cases x with
  |l y=>exact leaf rfl (by simp) h
  |_=>cases h
 |sl τ=>cases x with
  |l y=>exact leaf rfl (by simp) h
  |_=>cases h
theorem aGc (hY:LayOk Y)(r:aW Y.C E s a w β){o:Oper}{f:FuncId}{xa:Array Operand}{ats:Array TypeId}{S:Sum U}{z:kV U S.ar}{q:kV U S.rs}(ho:o.op= .call {callee:= .value (.func f),args:=xa,argTypes:=ats})
  (hS:rT P g Y f S) (hz:gG Y s.m S.ar (xa.toList.map (dN s))=some z) (hmk:S.wt=true) (hfr0:S.fr=false) (hq:S.m z=some q) {x y:Sv U} (hxs:xa.toList.map (dN s)=[x,y]) {cs ds:List (Lf U)} (hp:parts x=some cs) {b1 b2:Bool} {k:Int} (hr:aY Y S.rs q=[(b1,ds),(b2,[.int .i64 k])]) (hpos:Cs (U:=U) S.ar=true) {us:List (Nat×EO U)} (hw:wrm Y s.m cs ds=some us) (hd:(wU us).Nodup):
  SO P Y.C E a w o (.l (.int .i64 k)) ⟨s.t,⟨aBK us s.m.o,Nat.succ s.m.k,s.m.ns⟩,s.fr⟩ false:=fun K Q hK=>by
 have hm:∀(i:Nat) (v:Value) (x:Sv U),(xa.toList.map a.eval)[i]? =some v→(xa.toList.map (dN s))[i]? =some x→x.mean Y.C w (E.X β) β s.m v:=fun i v x p q=>by
  obtain⟨y,rfl,rfl⟩:=rD i v x p q;exact oC r
 rw[hxs] at hz hm
 obtain⟨v,v1,hvs⟩:∃v v1,xa.toList.map a.eval=[v,v1]:=by
  have hl:(xa.toList.map a.eval).length=2:=by
   have:=congrArg List.length hxs
   simpa using this
  match hh:xa.toList.map a.eval,hl with
  |[v,v1],_=>exact⟨v,v1,rfl⟩
 rw[hvs] at hm
 have hx:=hm 0 v x rfl rfl
 have hy:=hm 1 v1 y rfl rfl
 obtain⟨k1,k2,z1,z2,h0,h1,h2,h3⟩:=aVb hz
 obtain⟨ks,c1,c2⟩:=aSg hY h1 hp
 obtain⟨vs,hM,hsh⟩:∃vs:List Value,Ms Y.C w (E.X β) β s.m vs cs∧((x= .a cs∧(eY Y k1 z1).1=true∧v= .agg vs.toArray)∨(∃y,x= .l y∧cs=[y]∧(eY Y k1 z1).1=false∧vs=[v])):=by
  rcases c2 with⟨T,_,_,rfl,c3⟩|⟨_,⟨y',rfl,rfl⟩,c3⟩
  ·obtain⟨vs,rfl,hM⟩:=hx
   exact⟨vs,hM, .inl ⟨rfl,c3,rfl⟩⟩
  ·refine⟨[v],⟨rfl,fun i u c p q=> ?_⟩, .inr ⟨y',rfl,rfl,c3,rfl⟩⟩
   cases i with
   |zero=>simp at p q;subst p;subst q;exact hx
   |succ i=>simp at p
 have hK':∀kd∈ks,∀τ,kd= .sl τ→0<U.K τ:=by
  rcases c2 with⟨T,_,rfl,_⟩|⟨rfl,_⟩
  ·exact fun kd hk τ e=>hY.pos T τ (e▸hk)
  ·intro kd hk
   simp only[List.mem_singleton] at hk
   subst hk
   exact rV hpos kd (by rw[h0];simp)
 have hread:Rd w (fun _=>False) [] v1 (jZ (eY Y k2 z2)):=H6 r hy h2 (fun _ h=>h.elim) (.inr fun _ _ _ _ _ h=>h)
 obtain⟨W,p1,p2,p3,p4⟩:=aQ0 hY r.hp ks c1 hw hM hK'
 subst p2
 have hd':(W.map (·.i)).Nodup:=by rw[aE8,List.map_map] at hd;exact hd
 have hBt:∀b∈(W.map (·.B)).flatten,∃r1∈W,b∈r1.t.all:=fun b hb=>by
  obtain⟨l,hl,hb⟩:=List.mem_flatten.1 hb
  obtain⟨r1,hr1,rfl⟩:=List.mem_map.1 hl
  exact⟨r1,hr1,(p3 r1 hr1).2.sub b hb⟩
 have hBnd:((W.map (·.B)).flatten).Nodup:=by
  refine List.pairwise_flatten.2 ⟨fun l hl=> ?_,?_⟩
  ·obtain⟨r1,hr1,rfl⟩:=List.mem_map.1 hl
   exact(p3 r1 hr1).1
  ·rw[List.pairwise_map]
   have hdd:W.Pairwise (fun r1 r2=>r1.i≠r2.i):=by
    have:=hd'
    unfold List.Nodup at this
    rwa [List.pairwise_map] at this
   refine List.Pairwise.imp_of_mem (fun {r1 r2} m1 m2 hne x hx y hy e=> ?_) hdd
   subst e
   exact r.hp.dist r1.i r2.i r1.t r2.t x hne (p3 r1 m1).2.ht (p3 r2 m2).2.ht ((p3 r1 m1).2.sub x hx) ((p3 r2 m2).2.sub x hy)
 have hsp:=(hS z q hq).2.2.1 hmk hfr0 (eY Y k1 z1).1 (eY Y k1 z1).2 (eY Y k2 z2) b1 ds b2 k (by rw[h3]) hr
 have hOw:OwP Y.C w v ((W.map (·.B)).flatten) ((eY Y k1 z1).1,(eY Y k1 z1).2):=by
  rcases hsh with⟨_,e1,rfl⟩|⟨y',_,rfl,e1,rfl⟩
  ·rw[e1];exact⟨vs,rfl,p1⟩
  ·rw[e1]
   generalize(eY Y k1 z1).2=ll at p1 ⊢
   generalize(W.map (·.B)).flatten=BB at p1 ⊢
   cases p1 with
   |c h hr=>
    cases hr
    rw[List.append_nil]
    exact⟨_,rfl,h⟩
 have hG:∀w',Bel (·∈(W.map (·.B)).flatten) w w'→g.G w':=fun w' hb=>E.hg w' ⟨hb.os.trans r.hp.ext.os,hb.tape.trans r.hp.ext.tape,hb.output.trans r.hp.ext.output,Nat.le_trans r.hp.ext.size hb.size,fun b hlt hy=>by
  rw[hb.block b (Nat.lt_of_lt_of_le hlt r.hp.ext.size) (fun hB=> ?_)]
  ·exact r.hp.ext.block b hlt hy
  ·obtain⟨r1,m1,hb1⟩:=hBt b hB
   rcases(r.hp.new r1.i r1.t b (p3 r1 m1).2.ht hb1).1 with h|h
   ·omega
   ·exact hy h⟩
 have hcall:=hsp.2 w v v1 _ hBnd hG hOw hread
 have hargs:(xa.toList.map a.eval).toArray= #[v,v1]:=by rw[hvs]
 refine wpc (nM ho hsp.1) (R':=fun u w'=>u= .int .i64 k∧(IntKind.i64.min≤k∧k≤IntKind.i64.max)∧Bel (·∈(W.map (·.B)).flatten) w w'∧∃B',B'.Nodup∧(∀x∈B',x∈(W.map (·.B)).flatten∨w.heap.size≤x)∧OwP Y.C w' v B' ((eY Y k1 z1).1,ds)) ?_ ?_
 ·rw[hargs]
  refine hcall.mono ?_
  rintro e w' ⟨rfl,h4,h5,h6⟩
  exact⟨_,rfl,rfl,h4,h5,h6⟩
 ·rintro u w' ⟨rfl,h4,h5,B',h6,h7,h8⟩
  have hL:OwL Y.C w' (fun _=>False) true vs ds B':=by
   rcases hsh with⟨_,e1,rfl⟩|⟨y',_,_,e1,rfl⟩
   ·rw[e1] at h8
    obtain⟨vs',e2,h9⟩:=h8
    have:vs=vs':=by
     injection e2 with e2
     have:=congrArg Array.toList e2
     simpa using this
    subst this;exact h9
   ·rw[e1] at h8
    obtain⟨c,rfl,h9⟩:=h8
    simpa using OwL.c h9 .n
  obtain⟨Bs,l1,l2,l3⟩:=p4 w' B' hL
  subst l2
  obtain⟨β',r'⟩:=r.wrote hd' p3 h5 l1 h6 h7 l3
  exact hK _ w' β' r' (fun _=>⟨rfl,h4.1,h4.2⟩) (fun h=>by cases h)
end
end Go.EV

namespace Go.EV
open Go.RowKit Go.VK
variable {U:Uni} {Y:Lay U} {TI:List (Nat×TInfo)} {FZ:List (Nat×Sum U)} {P:Program} {g:GI} {E:Env U g}
structure Good (P:Program) (g:GI) (Y:Lay U) (TI:List (Nat×TInfo)) (FZ:List (Nat×Sum U)):Prop where
 ti:qO P TI=true
 lay:LayOk Y
 fs:∀(f:Nat) (S:Sum U),(f,S)∈FZ→rT P g Y f S
structure Am (m m':Mm U):Prop where
 k:m.k≤m'.k
 ns:∀(a i:Nat) (f:Bool),m.ns[a]? =some (i,f)→∃f',m'.ns[a]? =some (i,f')
 ol:m.o.length≤m'.o.length
 o:∀(i:Nat) (e e':EO U),m.o[i]? =some e→m'.o[i]? =some e'→(e'.cv≤m.k→e'=e)∧(e'.ob.aAU=true→e.ob.aAU=true)∧
  ∀T cs vs T' cs' vs',e.ob= .box T cs vs→e'.ob= .box T' cs' vs'→T'=T∧cs'.length=cs.length∧vs'.length=vs.length∧∀(j v:Nat),vs'[j]? =some v→v≤m.k→cs'[j]? =cs[j]? ∧vs[j]? =some v
theorem Am.refl (m:Mm U):Am m m:=⟨Nat.le_refl _,fun _ _ f h=>⟨f,h⟩,Nat.le_refl _,fun i e e' h h'=>by
 rw[h] at h';injection h' with h';subst h'
 refine⟨fun _=>rfl,id,fun T cs vs T' cs' vs' h1 h2=> ?_⟩
 rw[h1] at h2;injection h2 with a b c;subst a;subst b;subst c
 exact⟨rfl,rfl,rfl,fun j v hv _=>⟨rfl,hv⟩⟩⟩
theorem Am.trans {m m' m'':Mm U}(h:Am m m')(h':Am m' m''):Am m m'':=by
 refine⟨Nat.le_trans h.k h'.k,fun a i f hf=> ?_,Nat.le_trans h.ol h'.ol,fun i e e'' he he''=> ?_⟩
 ·obtain⟨f',h1⟩:=h.ns a i f hf;exact h'.ns a i f' h1
 ·have hl:i<m'.o.length:=Nat.lt_of_lt_of_le (lt_of_some he) h.ol
  obtain⟨a1,a2,a3⟩:=h.o i e _ he (List.getElem?_eq_getElem hl)
  obtain⟨b1,b2,b3⟩:=h'.o i _ e'' (List.getElem?_eq_getElem hl) he''
  refine⟨fun hc=> ?_,fun hb=>a2 (b2 hb),fun T cs vs T'' cs'' vs'' h1 h2=> ?_⟩
  ·have e1:=b1 (Nat.le_trans hc h.k)
   rw[e1] at hc ⊢
   exact a1 hc
  ·have hb:(m'.o[i]).ob.aAU=true:=b2 (by rw[h2];rfl)
   cases hm:(m'.o[i]).ob with
   |box T' cs' vs'=>
    obtain⟨p1,p2,p3,p4⟩:=a3 T cs vs T' cs' vs' h1 hm
    obtain⟨q1,q2,q3,q4⟩:=b3 T' cs' vs' T'' cs'' vs'' hm h2
    refine⟨q1.trans p1,q2.trans p2,q3.trans p3,fun j v hv hvk=> ?_⟩
    obtain⟨r1,r2⟩:=q4 j v hv (Nat.le_trans hvk h.k)
    obtain⟨r3,r4⟩:=p4 j v r2 hvk
    exact⟨r1.trans r3,r4⟩
   |_=>rw[hm] at hb;cases hb
theorem Am.add (m:Mm U)(es:List (EO U)):Am m ⟨m.o++es,m.k,m.ns⟩:=by
 refine⟨Nat.le_refl _,fun _ _ f h=>⟨f,h⟩,by simp,fun i e e' he he'=> ?_⟩
 have h2:(m.o++es)[i]? =some e:=by rw[List.getElem?_append_left (lt_of_some he)];exact he
 simp only at he'
 rw[h2] at he'
 exact(Am.refl m).o i e e' he (he.trans he')
theorem Am.aCF (m:Mm U){ns':List (Nat×Bool)}(h:∀(a i:Nat) (f:Bool),m.ns[a]? =some (i,f)→∃f',ns'[a]? =some (i,f')):Am m ⟨m.o,m.k,ns'⟩:=⟨Nat.le_refl _,h,Nat.le_refl _,(Am.refl m).o⟩
theorem aQ2 {Y:Lay U}{m:Mm U}:∀{cs ds:List (Lf U)} {us:List (Nat×EO U)},wrm Y m cs ds=some us→∀x∈us,m.k<x.2.cv∧x.2.ob.aAU=false
 |[],[],us,h=>by have:=Option.some.inj h;subst this;simp
 |[],_::_,_,h=>by cases h
 |_::_,[],_,h=>by cases h
 |x::xs,y::ys,us,h=>by
  obtain⟨u,u',h1,h2,rfl⟩:=aQz h
  intro p hp
  rcases List.mem_append.1 hp with hp|hp
  ·unfold wr1 at h1
   split at h1
   ·split at h1
    ·rename_i τ' d l rv cv τ l' _
     cases hb:(d&&(Nat.beq rv _&&Nat.beq τ' τ)) with
     |false=>rw[hb] at h1;cases h1
     |true=>
      rw[hb] at h1
      have:=Option.some.inj h1;subst this
      simp only[List.mem_singleton] at hp;subst hp
      exact⟨Nat.lt_succ_self _,rfl⟩
    ·cases h1
   ·split at h1
    ·rename_i τ1 d L rv cv τ'' l _
     rw[Bool.cond_eq_ite] at h1
     split at h1
     ·split at h1
      ·split at h1
       ·have:=Option.some.inj h1;subst this
        simp only[List.mem_singleton] at hp;subst hp
        exact⟨Nat.lt_succ_self _,rfl⟩
       ·cases h1
      ·cases h1
     ·cases h1
    ·cases h1
   ·cases h1
   ·cases h1
   ·have:=Option.some.inj h1;subst this;simp at hp
  ·exact aQ2 h2 p hp
theorem Am.aBK (m:Mm U){us:List (Nat×EO U)}(h:∀x∈us,m.k<x.2.cv∧x.2.ob.aAU=false):Am m ⟨EV.aBK us m.o,Nat.succ m.k,m.ns⟩:=by
 refine⟨Nat.le_succ _,fun _ _ f h=>⟨f,h⟩,by rw[rU];exact Nat.le_refl _,fun j e e' he he'=> ?_⟩
 simp only at he'
 by_cases hj:j∈wU us
 ·have hin:∃x∈us,e'=x.2:=by
   clear h
   revert e'
   induction us with
   |nil=>simp[wU] at hj
   |cons x us ih=>
    intro e' he'
    have e1:EV.aBK (x::us) m.o=upd (EV.aBK us m.o) x.1 x.2:=rfl
    rw[e1,bK] at he'
    by_cases hx:x.1=j
    ·subst hx
     rw[List.getElem?_set_self (by rw[rU];exact lt_of_some he)] at he'
     exact⟨x,by simp,(Option.some.inj he').symm⟩
    ·rw[List.getElem?_set_ne hx] at he'
     have hj':j∈wU us:=by
      have e2:wU (x::us)=x.1::wU us:=rfl
      rw[e2] at hj
      rcases List.mem_cons.1 hj with h|h
      ·exact absurd h.symm hx
      ·exact h
     obtain⟨y,h1,h2⟩:=ih hj' e' he'
     exact⟨y,by simp[h1],h2⟩
  obtain⟨x,hx,rfl⟩:=hin
  obtain⟨h1,h2⟩:=h x hx
  refine⟨fun hc=>by omega,fun hb=> ?_,fun T cs vs T' cs' vs' _ hb=> ?_⟩
  ·rw[h2] at hb;cases hb
  ·rw[hb] at h2;cases h2
 ·rw[aGa hj,he] at he'
  have:=Option.some.inj he';subst this
  exact(Am.refl m).o j _ _ he he
theorem Am.turn (m:Mm U){i:Nat}{ids:List Nat}{ob:Ob U}{rv:Nat}(hb:ob.aAU=true→∀e,m.o[i]? =some e→e.ob.aAU=true∧∀T cs vs T' cs' vs',e.ob= .box T cs vs→ob= .box T' cs' vs'→T'=T∧cs'.length=cs.length∧vs'.length=vs.length∧∀(j v:Nat),vs'[j]? =some v→v≤m.k→cs'[j]? =cs[j]? ∧vs[j]? =some v):
  Am m ⟨Mv (Nat.succ m.k) ids (upd m.o i ⟨ob,rv,Nat.succ m.k⟩),Nat.succ m.k,m.ns⟩:=by
 refine⟨Nat.le_succ _,fun _ _ f h=>⟨f,h⟩,by rw[zZ,bK,List.length_set];exact Nat.le_refl _,fun j e e' he he'=> ?_⟩
 simp only at he'
 by_cases hj:j∈ids
 ·rw[H5 hj (by rw[bK,List.length_set];exact lt_of_some he)] at he'
  injection he' with he';subst he'
  exact⟨fun h=>(by simp only at h;omega),fun h=>(by cases h),fun _ _ _ _ _ _ _ h=>(by cases h)⟩
 ·rw[qP hj,bK] at he'
  by_cases hij:i=j
  ·subst hij
   rw[List.getElem?_set_self (lt_of_some he)] at he'
   injection he' with he';subst he'
   refine⟨fun h=>by simp only at h;omega,fun h=>(hb h e he).1,fun T cs vs T' cs' vs' h1 h2=> ?_⟩
   have hbx:ob.aAU=true:=by simp only at h2;rw[h2];rfl
   exact(hb hbx e he).2 T cs vs T' cs' vs' h1 h2
  ·rw[List.getElem?_set_ne hij] at he'
   exact(Am.refl m).o j e e' he he'
theorem Am.tree (m:Mm U){i:Nat}{ids:List Nat}{τ:Nat}{d:Bool}{l:List (U.El τ)}{rv:Nat}:Am m ⟨Mv (Nat.succ m.k) ids (upd m.o i ⟨.tree τ d l,rv,Nat.succ m.k⟩),Nat.succ m.k,m.ns⟩:=Am.turn m (fun h=>by cases h)
section
variable {s:St U} {a:Act} {w:World} {β:List Tr} {α:Type}
theorem aVc (r:aW Y.C E s a w β){o:Oper}{ta tb e:Nat}{x:Operand}{z:ByteArray}(ho:o.op= .convert ta tb x)(hs:P.underlying ta=some .string)(hd:P.underlying tb=some (.slice e))(he:P.underlying e=some (.int .u8))(hx:dN s x= .l (.str z)):SO P Y.C E a w o (.l (.sl Y.bt ((bO z).map Y.be))) s true:=fun K Q hK=>by
 obtain⟨h1,h2⟩:=(jC r hx:(Lf.str z:Lf U).mean Y.C w (E.X β) β s.m (a.eval x))
 have hE:Ext w (Lib.bytesWorld w e z):=⟨rfl,rfl,rfl,by rw[Lib.bytesWorld_size];omega,fun b hb=>Lib.bytesWorld_at_old w e z b hb⟩
 refine wpo (w':=Lib.bytesWorld w e z) (v:= .slice (some ⟨w.heap.size,0,none⟩) z.size (grownCap w z.size 0 e)) (.inl (by simp[execOp,ho,h1,Lib.run_convert_string_bytes (P:=P) w ta tb e z hs hd he])) (hK _ _ β (r.ext hE) (fun _=> ?_) (fun _=>hE))
 have hen:∀n,U.enc Y.bt (Y.be n)=[V.int .u8 n]:=fun n=>by
  rw[←Y.C.hcel Y.bt (Y.be n),Y.hb,Y.hbe];rfl
 have hk:U.K Y.bt=1:=by rw[←Y.C.hlen Y.bt (Y.be 0),Y.hb];rfl
 have el:((bO z).map Y.be).map (U.enc Y.bt)=z.data.toList.map yV:=by
  rw[List.map_map]
  have:(U.enc Y.bt∘Y.be)=fun n=>[V.int .u8 n]:=funext hen
  rw[this];simp[bO,yV]
 show Rd _ (E.X β) [] _ (.slice (U.K Y.bt) (((bO z).map Y.be).map (U.enc Y.bt)))
 rw[el,hk]
 have hc:=grownCap_le_maxLen w z.size 0 e h2
 have hg:=grownCap_ge w z.size 0 e
 cases hz:z.data.toList with
 |nil=>
  have:z.size=0:=by rw[nX,hz];rfl
  rw[this] at hc ⊢
  exact .slice0 hc
 |cons b0 bs=>
  rw[←hz]
  have hlen:z.size=(z.data.toList.map yV).length:=by rw[List.length_map,nX]
  have hget:∀(i j:Nat) (e':List V) (d':V),(z.data.toList.map yV)[i]? =some e'→e'[j]? =some d'→i<z.size∧j=0∧d'= .int .u8 ((z.data.toList.getD i 0).toNat:Int):=by
   intro i j e' d' h3 h4
   rw[List.getElem?_map] at h3
   obtain⟨b,hb,rfl⟩:=Option.map_eq_some_iff.1 h3
   have hi:i<z.data.toList.length:=(List.getElem?_eq_some_iff.1 hb).1
   cases j with
   |zero=>
    simp[yV] at h4
    refine⟨by rw[nX];exact hi,rfl,?_⟩
    rw[←h4];simp[List.getD,hb]
   |succ j=>simp[yV] at h4
  refine .slice (val:=fun i j=> .int .u8 ((z.data.toList.getD i 0).toNat:Int)) hlen (by rw[←hlen,nX,hz];simp) hg hc (fun hxx=>by have:=r.hp.aBW _ hxx;simp at this) (by rw[Lib.bytesWorld_size];simp)
   (fun e' he'=>by obtain⟨b,_,rfl⟩:=List.mem_map.1 he';rfl) (fun i j e' d' h3 h4=> ?_) (fun i j e' d' h3 h4=> ?_)
  ·obtain⟨h5,rfl,rfl⟩:=hget i j e' d' h3 h4
   rw[eH,Nat.zero_add,Nat.mul_one,Nat.add_zero]
   exact Lib.bytesWorld_cell w e z i h5
  ·obtain⟨h5,rfl,rfl⟩:=hget i j e' d' h3 h4
   have hb:=(z.data.toList.getD i 0).toNat_lt
   exact .int (Int.natCast_nonneg _) (show(((z.data.toList.getD i 0).toNat:Nat):Int)≤255 by omega)
theorem jJ (G:Good P g Y TI FZ)(r:aW Y.C E s a w β){o:Oper}{op:Op}(ho:o.op=op){K:Sv U→St U→Option α}{z:α}(h:Nf Y TI s op (fun x=>K x s)=some z):∃x s',K x s'=some z∧PO P Y.C E a w β o x s'∧s'.t=s.t∧s'.fr=s.fr∧Am s.m s'.m:=by
 obtain⟨x,h1,h2⟩:=Rl G.ti r h
 obtain⟨v,k1,k2⟩:=h2 o ho
 exact⟨x,s,h1,⟨v,k1,r,k2⟩,rfl,rfl,Am.refl _⟩
theorem rW (G:Good P g Y TI FZ)(r:aW Y.C E s a w β){o:Oper}{op:Op}(ho:o.op=op)(hc:nZ FZ op=0){K:Sv U→St U→Option α}{z:α}(h:stp Y TI FZ s op K=some z):∃x s',K x s'=some z∧PO P Y.C E a w β o x s'∧s'.t=s.t∧s'.fr=s.fr∧Am s.m s'.m:=by
 unfold stp at h
 split at h
 ·cases hc
 ·cases hc
 ·cases hc
 ·cases hc
 ·cases hc
 ·cases hc
 ·rename_i f xa ats
  exfalso
  simp only[nZ] at hc
  split at hc
  ·cases hw:(Sum.wt _)<;>rw[hw] at hc<;>cases hc
  ·cases hc
 ·rename_i t x y u
  split at h
  ·rename_i c n hx
   cases hn:decide (n=1) with
   |false=>rw[hn] at h;exact jJ G r ho h
   |true=>
    rw[hn] at h
    simp only[cond_true] at h
    cases hm:nth s.m.ns c with
    |none=>rw[hm] at h;cases h
    |some p=>
     obtain⟨i,f⟩:=p
     rw[hm] at h
     cases f with
     |false=>exact jJ G r ho h
     |true=>exact⟨_,_,h,aU7 r ho (of_decide_eq_true hn) hx (by rw[←aM];exact hm),rfl,rfl,Am.aCF _ (fun a' j f' h=>⟨f',by rw[List.getElem?_append_left (lt_of_some h)];exact h⟩)⟩
  ·exact jJ G r ho h
 ·rename_i ta tb x
  cases hm:iF FZ (tb+1000000) with
  |some S=>simp only[nZ,hm] at hc;cases hc
  |none=>simp only[hm] at h;exact jJ G r ho h
 ·exact jJ G r ho h
 ·rename_i t x b
  cases hm:iF FZ 2000000 with
  |none=>simp only[hm] at h;exact jJ G r ho h
  |some S=>
   simp only[hm] at h
   split at h
   ·rename_i e ek eb k zz i q0 n h1 h2 h3
    split at h
    ·rename_i τ d l rv cv h4
     rw[aM] at h4
     cases hb:(Nat.beq rv q0&&He (U:=U) e ek τ) with
     |false=>rw[hb] at h;cases h
     |true=>
      rw[hb] at h;simp only[cond_true] at h
      simp only[He,Bool.and_eq_true] at hb
      obtain⟨hg,h⟩:=gT h
      obtain⟨v,k1,k2⟩:=aW0 G.ti r h1 h2 h3 h4 (Nat.eq_of_beq_eq_true hb.1) (Nat.eq_of_beq_eq_true hb.2.2) hg o ho
      exact⟨_,s,h,⟨v,k1,r,k2⟩,rfl,rfl,Am.refl _⟩
    ·cases h
   ·exact jJ G r ho h
 ·exact jJ G r ho h
theorem aW.aBL {C:Cod U}(r:aW C E s a w β){b T rv cv:Nat}{cs:List (Lf U)}{us:List Nat}(h:s.m.o[b]? =some ⟨.box T cs us,rv,cv⟩):cs.length=us.length:=by
 obtain⟨t,ht⟩:=r.hp.tr h
 exact(r.hp.ok b t _ ht h).1
theorem uV {b T rv cv off n:Nat}{cs ps:List (Lf U)}{us:List Nat}{rv':Nat}(h4:s.m.o[b]? =some ⟨.box T cs us,rv,cv⟩)(h5:ps.length=n)(h6:off+n≤cs.length)(hl:cs.length=us.length):
  Am s.m (trn s b (.box T (Mt cs off ps) (Mt us off (ps.map fun _=>Nat.succ s.m.k))) rv').m:=by
 have e1:=zY cs off ps (by rw[h5];exact h6)
 have e2:=zY us off (ps.map fun _=>Nat.succ s.m.k) (by rw[List.length_map,h5,←hl];exact h6)
 refine Am.turn (ids:=[]) s.m fun _ e he=> ?_
 rw[h4] at he;injection he with he;subst he
 refine⟨rfl,fun T1 cs1 vs1 T' cs' vs' k1 k2=> ?_⟩
 injection k1 with a1 a2 a3
 injection k2 with b1 b2 b3
 subst a1;subst a2;subst a3;subst b1;subst b2;subst b3
 refine⟨rfl,by rw[e1];simp;omega,by rw[e2];simp;omega,fun j v hv hvk=> ?_⟩
 rw[e2,rJ _ _ _ _ (by rw[List.length_map,h5,←hl];exact h6)] at hv
 rw[e1,rJ _ _ _ _ (by rw[h5];exact h6)]
 rw[List.length_map,h5] at hv
 rw[h5]
 split at hv
 ·rename_i hj
  rw[List.getElem?_map] at hv
  cases hp:ps[j-off]? with
  |none=>simp[hp] at hv
  |some y=>simp only[hp,Option.map_some,Option.some.injEq] at hv;omega
 ·rename_i hj
  rw[if_neg hj];exact⟨rfl,hv⟩
theorem aSh {e i:Nat}{px:Lf U}{d:Bool}{l:List (U.El e)}{s1:St U}(h:apD s e px=some (i,d,l,s1)):s1.t=s.t∧s1.fr=s.fr∧Am s.m s1.m:=by
 cases px with
 |nil=>
  simp only[apD,Option.some.injEq,Prod.mk.injEq] at h
  obtain⟨_,_,_,rfl⟩:=h
  exact⟨rfl,rfl,Am.add _ _⟩
 |own j q=>
  simp only[apD] at h
  split at h
  ·rename_i τ d0 l0 rv cv ho
   cases hb:Nat.beq rv q with
   |false=>simp[hb] at h
   |true=>
    simp only[hb,cond_true] at h
    split at h
    ·simp only[Option.some.injEq,Prod.mk.injEq] at h
     obtain⟨_,_,_,rfl⟩:=h
     exact⟨rfl,rfl,Am.refl _⟩
    ·cases h
  ·cases h
 |_=>cases h
theorem SO.to {C:Cod U}{o:Oper}{x:Sv U}{s':St U}{b:Bool}(h:SO P C E a w o x s' true):SO P C E a w o x s' b:=by
 cases b with
 |true=>exact h
 |false=>exact h.soft
theorem aM6 {xs:Array Operand}{l:List Operand}(h:xs.toList=l):xs=l.toArray:=by apply Array.ext';simpa using h
theorem aM7 {xs:Array TypeId}{l:List TypeId}(h:xs.toList=l):xs=l.toArray:=by apply Array.ext';simpa using h
theorem aXa {T:Nat}{ks:List Kd}(z:kV U (.st T::ks)):∃cs us,aY Y (.st T::ks) z=(true,cs)::us:=by
 cases ks with
 |nil=>exact⟨_,_,rfl⟩
 |cons k ks=>exact⟨_,_,rfl⟩
theorem RdL.cons_inv {w:World}{X:Nat→Prop}{vs:List Value}{u:V}{us:List V}(h:RdL w X vs (u::us)):∃v vs',vs=v::vs'∧Rd w X [] v u∧RdL w X vs' us:=by
 obtain⟨h1,h2⟩:=h
 cases vs with
 |nil=>simp at h1
 |cons v vs=>exact⟨v,vs,rfl,h2 0 v u rfl rfl,by simpa using h1,fun i v u p q=>h2 (i+1) v u (by simpa using p) (by simpa using q)⟩
theorem RdL.agg {w:World}{X:Nat→Prop}{vs:List Value}{us:List V}(h:Rd w X [] (.agg vs.toArray) (.agg us)):RdL w X vs us:=by
 obtain⟨vs',e,h2,h3⟩:=h.aAZ
 injection e with e
 subst e
 exact⟨by simpa using h2,fun i v c p q=>h3 i v c (by simpa using p) q⟩
theorem aK3 (hY:LayOk Y)(r:aW Y.C E s a w β){o:Oper}{f:FuncId}{xa:Array Operand}{ats:Array TypeId}{S:Sum U}(ho:o.op= .call {callee:= .value (.func f),args:=xa,argTypes:=ats})
  (hS:rT P g Y f S) (hmk:S.wt=true) (hfr:S.fr=true) {K:Sv U→St U→Option α} {z:α} (h:bA9 Y s S (xa.toList.map (dN s)) K=some z):
  ∃x s',K x s'=some z∧SO P Y.C E a w o x s' false∧s'.t=s.t∧s'.fr=s.fr∧Am s.m s'.m:=by
 unfold bA9 at h
 split at h
 ·rename_i i off ys hxs
  split at h
  ·rename_i T cs us rv cv hi
   rw[aM] at hi
   split at h
   ·rename_i z1 hz
    cases hb:(Nat.beq off 0&&(hdT T S.ar&&(zW cs&&iX ys))) with
    |false=>rw[hb] at h;cases h
    |true=>
     rw[hb] at h
     simp only[cond_true] at h
     obtain⟨q,hq,hk⟩:=fK h
     clear h
     split at hk
     ·rename_i ds rs hr
      cases hlen:Nat.beq (len ds) (len cs) with
      |false=>rw[hlen] at hk;cases hk
      |true=>
       rw[hlen] at hk
       simp only[cond_true] at hk
       have hlen:=Nat.eq_of_beq_eq_true hlen
       rw[aZ,aZ] at hlen
       simp only[Bool.and_eq_true] at hb
       obtain⟨hoff,hT,hfc,hfy⟩:=hb
       have hoff:=Nat.eq_of_beq_eq_true hoff
       subst hoff
       obtain⟨ar,rs0,fr,wt,mm⟩:=S
       obtain⟨ks,rfl⟩:∃ks,ar= .st T::ks:=by
        simp only[hdT] at hT
        cases ar with
        |nil=>cases hT
        |cons k ks=>cases k with
         |st T'=>exact⟨ks,by rw[Nat.eq_of_beq_eq_true hT]⟩
         |_=>cases hT
       obtain⟨cs0,us0,hcp⟩:=aXa (Y:=Y) z1
       have hsp:=(hS z1 q hq).2.2.2 hmk hfr T ks cs0 us0 ds rs rfl hcp hr
       have hbl:=r.aBL hi
       refine⟨_,_,hk,fun K' Q hK=> ?_,rfl,rfl,?_⟩
       ·--the arguments
        obtain⟨tr,ht⟩:=r.hp.tr hi
        obtain⟨_,b,ws,e1,e2,e3,e4⟩:=r.hp.ok i tr _ ht hi
        have hm:∀(i:Nat) (v:Value) (x:Sv U),(xa.toList.map a.eval)[i]? =some v→(xa.toList.map (dN s))[i]? =some x→x.mean Y.C w (E.X β) β s.m v:=fun i v x p q=>by
         obtain⟨y,rfl,rfl⟩:=rD i v x p q;exact oC r
        obtain⟨v0,vs,hvs,hvl⟩:∃v0 vs,xa.toList.map a.eval=v0::vs∧vs.length=ys.length:=by
         have hl:(xa.toList.map a.eval).length=(Sv.l (.box i 0)::ys).length:=by rw[←hxs];simp
         match hh:xa.toList.map a.eval,hl with
         |v0::vs,hl=>exact⟨v0,vs,rfl,by simpa using hl⟩
        rw[hxs,hvs] at hm
        obtain⟨_,e',t',g1,g2,g3⟩:=hm 0 v0 _ rfl rfl
        rw[hi] at g1;injection g1 with g1;subst g1
        rw[ht] at g2;injection g2 with g2;subst g2
        obtain⟨b',g4,rfl⟩:=g3 rfl
        rw[e1] at g4;injection g4 with g4;subst g4
        have hall:tr.all=[b]:=by simp[Tr.all,e1,e2]
        have hfree:iX (.a cs::ys)=true:=by simp only[iX,aFq,Bool.and_eq_true];exact⟨hfc,hfy⟩
        have hrd:=Aa r (Z:=E.X β) (fun _ h=>h) _ hz (vs:= .agg ws.toArray::vs) (by simp[hvl]) (fun j v x p q=>by
         cases j with
         |zero=>simp at p q;subst p;subst q;exact⟨ws,rfl,e4⟩
         |succ j=>exact hm (j+1) v x (by simpa using p) (by simpa using q)) (.inl hfree)
        rw[hcp,List.map_cons] at hrd
        obtain⟨_,_,he,hr1,hr2⟩:=RdL.cons_inv hrd
        injection he with he1 he2
        subst he1;subst he2
        have hr1:=RdL.agg (show Rd w (E.X β) [] (.agg ws.toArray) (.agg (cs0.map Lf.toV)) from hr1)
        have hXb:E.X β b:=aY3 ht (by rw[hall];simp)
        have hG:∀w',Bel (·=b) w w'→g.G w':=fun w' hb'=>E.hg w' ⟨hb'.os.trans r.hp.ext.os,hb'.tape.trans r.hp.ext.tape,hb'.output.trans r.hp.ext.output,Nat.le_trans r.hp.ext.size hb'.size,fun x hlt hy=>by
         rw[hb'.block x (Nat.lt_of_lt_of_le hlt r.hp.ext.size) (fun hB=> ?_)]
         ·exact r.hp.ext.block x hlt hy
         ·subst hB
          rcases(r.hp.new i tr x ht (by rw[hall];simp)).1 with h|h
          ·omega
          ·exact hy h⟩
        have hcall:=hsp.2 w (E.X β) b ws vs hG (fun x hx=>r.hp.aBW x hx) hXb e3 hr1 hr2
        have hargs:(xa.toList.map a.eval).toArray=(.pointer (some ⟨b,0,none⟩)::vs).toArray:=by rw[hvs]
        refine wpc (nM ho hsp.1) (R':=fun u w'=>∃ws',Bel (·=b) w w'∧w'.heap[b]? =some (.cells ws'.toArray T (0,0))∧RdL w' (E.X β) ws' (ds.map Lf.toV)∧Rd w' (E.X β) [] u (gJ (rs.map jZ))) ?_ ?_
        ·rw[hargs]
         refine hcall.mono ?_
         rintro e w' ⟨v,ws',rfl,h4⟩
         exact⟨v,rfl,ws',h4⟩
        ·rintro u w' ⟨ws',h4,h5,h6,h7⟩
         have hlen':=r.hp.len
         have hil:i<s.m.o.length:=lt_of_some hi
         have hcase:∀j,(j=i∨s.m.o.length≤j)→∀t,β[j]? =some t→j=i∧t=tr:=fun j hj t ht'=>by
          rcases hj with rfl|hj
          ·rw[ht] at ht';injection ht' with ht';exact⟨rfl,ht'.symm⟩
          ·have:=lt_of_some ht';omega
         have hcaseo:∀j,(j=i∨s.m.o.length≤j)→∀e,(s.m.o.set i ⟨.box T ds (us.map fun _=>Nat.succ s.m.k),rv,Nat.succ s.m.k⟩)[j]? =some e→e=⟨.box T ds (us.map fun _=>Nat.succ s.m.k),rv,Nat.succ s.m.k⟩:=fun j hj e he=>by
          rcases hj with rfl|hj
          ·rw[List.getElem?_set_self hil] at he;injection he with he;exact he.symm
          ·have:=lt_of_some he;simp at this;omega
         obtain⟨q1,q2⟩:=r.hp.step (s':=⟨s.m.o.set i ⟨.box T ds (us.map fun _=>Nat.succ s.m.k),rv,Nat.succ s.m.k⟩,Nat.succ s.m.k,s.m.ns⟩) (β':=β) (w':=w') (fun j=>j=i) (fun x=>x=b) (Nat.le_succ _) (fun _ _ f h=>⟨f,h⟩) r.hp.cnt (by simp[hlen']) (by simp) h4.size h4.os h4.tape h4.output
          (fun x hx hn=>h4.block x hx hn)
          (fun x hx=>⟨i,tr,rfl,ht,by rw[hall,hx];simp⟩)
          (fun j hj _=>⟨by rw[List.getElem?_set_ne (Ne.symm hj)],rfl⟩)
          (fun j t x hj ht' hx=>by
           obtain⟨rfl,rfl⟩:=hcase j hj t ht'
           exact⟨Nat.lt_of_lt_of_le (r.hp.new _ _ x ht hx).2 h4.size, .inr ⟨_,_,rfl,ht,hx⟩⟩)
          (fun j j' t t' x hj hj' hjj ht1 ht2 _=>by
           have:=(hcase j hj t ht1).1;have:=(hcase j' hj' t' ht2).1;omega)
          (fun j t hj ht'=>by obtain⟨rfl,rfl⟩:=hcase j hj t ht';exact r.hp.nd _ _ ht)
          (fun j e hj he=>by
           have:=hcaseo j hj e he;subst this
           refine⟨?_,Nat.le_refl _⟩
           have:=(r.hp.vers _ _ hi).1
           simp only at this ⊢;omega)
          (fun j e e' t t' hj h1 h2 h3 h4=>by
           subst hj
           have:=hcaseo _ (.inl rfl) e' h2;subst this
           rw[hi] at h1;injection h1 with h1;subst h1
           rw[h3] at h4;injection h4 with h4;subst h4
           exact⟨fun _=>⟨rfl,rfl⟩,Nat.lt_succ_self _,fun _=>⟨rfl,rfl⟩⟩)
          (fun hev j t e hj ht' he=>by
           obtain⟨rfl,rfl⟩:=hcase j hj t ht'
           have:=hcaseo _ (.inl rfl) e he;subst this
           refine⟨by rw[List.length_map,hlen,hbl],b,ws',e1,e2,h5,by have:=h6.1;simpa using this,fun l v c p q'=> ?_⟩
           have hcd:c.aAW=true:=(Hm rs0 q (true,ds) (by rw[hr];simp)).1 c (List.mem_of_getElem? q')
           exact Mw hcd (h6.2 l v _ p (by rw[List.getElem?_map,q'];rfl)) (.inl fun _ h=>h))
         have r':=r.go q1 q2 (fr:=s.fr)
         have e5:(trn s i (.box T ds (us.map fun _=>Nat.succ s.m.k)) rv)=⟨s.t,⟨s.m.o.set i ⟨.box T ds (us.map fun _=>Nat.succ s.m.k),rv,Nat.succ s.m.k⟩,Nat.succ s.m.k,s.m.ns⟩,s.fr⟩:=by simp only[trn,bK]
         rw[e5] at hK
         exact hK u w' β r' (fun _=>aQx (fun x hx=>Hm rs0 q x (by rw[hr];simp[hx])) h7 (.inl fun _ h=>h)) (fun h=>by cases h)
       ·have:=Am.turn s.m (i:=i) (ids:=[]) (ob:= .box T ds (us.map fun _=>Nat.succ s.m.k)) (rv:=rv) (fun _ e he=>by
         rw[hi] at he;injection he with he;subst he
         refine⟨rfl,fun T0 cs0 vs0 T' cs' vs' h1 h2=> ?_⟩
         injection h1 with a1 a2 a3;injection h2 with b1 b2 b3
         subst a1;subst a2;subst a3;subst b1;subst b2;subst b3
         refine⟨rfl,hlen,by simp,fun j v hv hvk=> ?_⟩
         rw[List.getElem?_map] at hv
         cases hu:us[j]? with
         |none=>rw[hu] at hv;cases hv
         |some x=>rw[hu] at hv;simp at hv;omega)
        exact this
     ·cases hk
   ·cases h
  ·cases h
 ·cases h
theorem aM8 (G:Good P g Y TI FZ)(r:aW Y.C E s a w β){o:Oper}{op:Op}(ho:o.op=op){K:Sv U→St U→Option α}{z:α}(h:stp Y TI FZ s op K=some z):∃x s',K x s'=some z∧SO P Y.C E a w o x s' (Nat.ble (nZ FZ op) 1)∧s'.t=s.t∧s'.fr=s.fr∧Am s.m s'.m:=by
 by_cases hc:nZ FZ op=0
 ·obtain⟨x,s',h1,h2,h3⟩:=rW G r ho hc h
  rw[hc];exact⟨x,s',h1,SO.aDQ h2,h3⟩
 unfold stp at h
 split at h
 ·rename_i T x
  cases hp:parts (nY s x) with
  |none=>rw[hp] at h;cases h
  |some cs=>
   rw[hp] at h
   cases ha:uJ cs with
   |false=>simp[ha] at h
   |true=>
    simp only[ha,cond_true] at h
    exact⟨_,_,h,aU2 r ho hp ha,rfl,rfl,Am.add _ _⟩
 ·rename_i T
  cases hf:iF TI T with
  |none=>rw[hf] at h;cases h
  |some i=>rw[hf] at h;exact⟨_,_,h,aQp G.ti r ho hf,rfl,rfl,Am.add _ _⟩
 ·rename_i t x y
  split at h
  ·rename_i i b off ps h1 h2 h3
   split at h
   ·rename_i T cs us rv cv h4
    rw[aM] at h4
    cases hb:(Nat.beq (len ps) i.k&&(Nat.ble (off+i.k) (len cs)&&uJ ps)) with
    |false=>rw[hb] at h;cases h
    |true=>
     rw[hb] at h
     simp only[cond_true] at h
     simp only[Bool.and_eq_true,aZ] at hb
     exact⟨_,_,h,aF5 G.ti r ho h1 h2 h3 h4 (Nat.eq_of_beq_eq_true hb.1) (Nat.le_of_ble_eq_true hb.2.1) hb.2.2,rfl,rfl,uV h4 (Nat.eq_of_beq_eq_true hb.1) (Nat.le_of_ble_eq_true hb.2.1) (r.aBL h4)⟩
   ·cases h
  ·rename_i i b c τ q z' off ps h1 h2 h3
   cases hv:okv s.m b c with
   |false=>rw[hv] at h;cases h
   |true=>
    rw[hv] at h
    simp only[cond_true] at h
    split at h
    ·rename_i τ' d l rv cv h4
     rw[aM] at h4
     cases hs:Vw τ τ' l with
     |none=>rw[hs] at h;cases h
     |some l1=>
      rw[hs] at h
      obtain⟨rfl,hh⟩:=iN hs
      obtain rfl:=eq_of_heq hh
      simp only at h
      split at h
      ·rename_i ds ids d' h8
       rw[aMr,G8] at h8
       cases hb:(Nat.beq (len ps) i.k&&(Nat.ble (off+i.k) (U.K τ')&&(uJ ps&&dist (b::ids)))) with
       |false=>rw[hb] at h;cases h
       |true=>
        rw[hb] at h
        simp only[cond_true] at h
        simp only[Bool.and_eq_true,aZ] at hb
        split at h
        ·rename_i z2 h9
         obtain⟨e',k1,k2⟩:=wW hv
         rw[h4] at k1;injection k1 with k1;subst k1
         exact⟨_,_,h,aCf G.ti G.lay r ho h1 h2 h3 h4 k2 (Nat.eq_of_beq_eq_true hb.1) (Nat.le_of_ble_eq_true hb.2.1) hb.2.2.1 h8 (lC.1 hb.2.2.2) h9,rfl,rfl,Am.tree _⟩
        ·cases h
      ·cases h
    ·cases h
  ·rename_i i b c τ q z j τ' l q' z' off ps h1 h2 h3
   cases hv:okv s.m b c with
   |false=>rw[hv] at h;cases h
   |true=>
    rw[hv] at h
    simp only[cond_true] at h
    split at h
    ·rename_i τ1 d L rv cv h4
     rw[aM] at h4
     cases hs:Vw τ τ1 L with
     |none=>rw[hs] at h;cases h
     |some l1=>
      rw[hs] at h
      obtain⟨rfl,hh⟩:=iN hs
      obtain rfl:=eq_of_heq hh
      simp only at h
      split at h
      ·rename_i ds ids d' h8
       rw[aMr,G8] at h8
       cases hb:(Nat.beq (len ps) i.k&&(Nat.ble (off+i.k) (U.K τ')&&(uJ ps&&dist (b::ids)))) with
       |false=>rw[hb] at h;cases h
       |true=>
        rw[hb] at h
        simp only[cond_true] at h
        simp only[Bool.and_eq_true,aZ] at hb
        split at h
        ·rename_i z2 h9
         split at h
         ·rename_i z3 h10
          obtain⟨e',k1,k2⟩:=wW hv
          rw[h4] at k1;injection k1 with k1;subst k1
          exact⟨_,_,h,aK1 G.ti G.lay r ho h1 h2 h3 h4 k2 (Nat.eq_of_beq_eq_true hb.1) (Nat.le_of_ble_eq_true hb.2.1) hb.2.2.1 h8 (lC.1 hb.2.2.2) h9 h10,rfl,rfl,Am.tree _⟩
         ·cases h
        ·cases h
      ·cases h
    ·cases h
  ·cases h
 ·rename_i t n ps
  split at h
  ·rename_i e ek eb k zz h1
   cases hb:(Nat.beq (len ps.toList) n&&(Nat.ble (n*ek) 16777216&&He (U:=U) e ek e)) with
   |false=>rw[hb] at h;cases h
   |true=>
    rw[hb] at h
    simp only[cond_true] at h
    simp only[Bool.and_eq_true,aZ] at hb
    split at h
    ·rename_i l ids d h5
     cases hd:dist (len s.m.o::ids) with
     |false=>rw[hd] at h;cases h
     |true=>
      rw[hd] at h
      simp only[cond_true] at h
      have hJ:=lC.1 hd
      rw[aZ] at hJ
      exact⟨_,_,h,aQs G.ti G.lay r ho h1 (Nat.eq_of_beq_eq_true hb.1) (Nat.le_of_ble_eq_true hb.2.1) hb.2.2 h5 hJ,rfl,rfl,(Am.add s.m [⟨.dead,s.m.k,s.m.k⟩]).trans (Am.tree _)⟩
    ·cases h
  ·cases h
 ·rename_i t x y
  split at h
  ·rename_i e ek eb k zz h1
   split at h
   ·rename_i i n h2 h3
    cases hb:(aFs x y&&(Nat.ble eb 2048&&He (U:=U) e ek e)) with
    |false=>rw[hb] at h;cases h
    |true=>
     rw[hb] at h
     simp only[cond_true] at h
     simp only[Bool.and_eq_true] at hb
     split at h
     ·rename_i ds h7
      split at h
      ·rename_i z2 h8
       obtain⟨hg,h⟩:=gT h
       exact⟨_,_,h,aSb G.ti G.lay r ho h1 h2 h3 hb.1 hb.2.1 hb.2.2 h7 h8 hg,rfl,rfl,Am.add _ _⟩
      ·cases h
     ·cases h
   ·cases h
  ·cases h
 ·rename_i xa ats
  split at h
  ·rename_i x y t t2 hxa hats
   split at h
   ·rename_i e ek eb k zz h1
    cases hb:(Nat.beq t t2&&(Nat.ble eb 2048&&He (U:=U) e ek e)) with
    |false=>rw[hb] at h;cases h
    |true=>
     rw[hb] at h
     simp only[cond_true] at h
     simp only[Bool.and_eq_true] at hb
     obtain rfl:t=t2:=Nat.eq_of_beq_eq_true hb.1
     split at h
     ·rename_i i c τ n l py h4 h5
      cases hv:okv s.m i c with
      |false=>rw[hv] at h;cases h
      |true=>
       rw[hv] at h
       simp only[cond_true] at h
       cases hs:Vw e τ l with
       |none=>rw[hs] at h;cases h
       |some l1=>
        rw[hs] at h
        obtain⟨rfl,hh⟩:=iN hs
        obtain rfl:=eq_of_heq hh
        simp only at h
        split at h
        ·rename_i l' d' h7
         cases hne:Nat.ble 1 (len l') with
         |false=>rw[hne] at h;cases h
         |true=>
          rw[hne] at h
          obtain⟨hg,h⟩:=gT h
          rw[aM6 hxa,aM7 hats] at ho ⊢
          exact⟨_,_,h,aCg G.ti G.lay r ho h1 hb.2.1 hb.2.2 h4 h5 hv h7 (by rw[←aZ];exact Nat.le_of_ble_eq_true hne) hg,rfl,rfl,Am.turn (ids:=[]) s.m (fun h=>by cases h)⟩
        ·cases h
     ·rename_i px py _ h4 h5
      split at h
      ·rename_i i d l s1 h6
       split at h
       ·rename_i l' ids d' h7
        obtain⟨hg,h⟩:=gT h
        rw[aM6 hxa,aM7 hats] at ho ⊢
        exact⟨_,_,h,aOo G.ti G.lay r ho h1 hb.2.1 hb.2.2 h4 h5 h6 h7 hg,(aSh h6).1,(aSh h6).2.1,(aSh h6).2.2.trans (Am.tree _)⟩
       ·cases h
      ·cases h
     ·cases h
   ·cases h
  ·cases h
 ·rename_i f xa ats
  split at h
  ·rename_i S hS
   have hok:=G.fs f S (aOd hS)
   cases hpt:(S.wt&&S.fr) with
   |true=>
    simp only[hpt,cond_true] at h
    rw[Bool.and_eq_true] at hpt
    have hcl:Nat.ble (nZ FZ (.call {callee:= .value (.func f),args:=xa,argTypes:=ats})) 1=false:=by simp only[nZ,hS,hpt.1,cond_true];rfl
    rw[hcl]
    exact aK3 G.lay r ho hok hpt.1 hpt.2 h
   |false=>
   simp only[hpt,cond_false] at h
   split at h
   ·rename_i z1 hz
    cases hmk:S.wt with
    |true=>
     have hfr0:S.fr=false:=by rw[hmk] at hpt;simpa using hpt
     rw[hmk] at h
     simp only[cond_true] at h
     split at h
     ·rename_i x y hxs
      split at h
      ·rename_i cs hp
       obtain⟨q,hq,h⟩:=fK h
       split at h
       ·rename_i b1 ds b2 k hr
        split at h
        ·rename_i us hw
         cases hd:(dist (wU us)&&Cs (U:=U) S.ar) with
         |false=>rw[hd] at h;cases h
         |true=>
          rw[hd] at h
          simp only[cond_true] at h
          simp only[Bool.and_eq_true] at hd
          have hcl:Nat.ble (nZ FZ (.call {callee:= .value (.func f),args:=xa,argTypes:=ats})) 1=false:=by simp only[nZ,hS,hmk,cond_true];rfl
          rw[hcl]
          exact⟨_,_,h,aGc G.lay r ho hok hz hmk hfr0 hq hxs hp hr hd.2 hw (lC.1 hd.1),rfl,rfl,Am.aBK _ (aQ2 hw)⟩
        ·cases h
       ·cases h
      ·cases h
     ·cases h
    |false=>
     rw[hmk] at h
     simp only[cond_false] at h
     cases hfr:S.fr with
     |true=>
      rw[hfr] at h
      simp only[cond_true] at h
      obtain⟨q,hq,h⟩:=fK h
      exact⟨_,_,h,(aCh r ho hok hz hmk hfr hq).to,rfl,rfl,Am.add _ _⟩
     |false=>
      rw[hfr] at h
      simp only[cond_false] at h
      cases hff:(rO Y S.rs||iX (xa.toList.map (dN s))) with
      |false=>
       rw[hff] at h
       simp only[cond_false] at h
       cases hi:aP8 s.m (xa.toList.map (dN s)) with
       |none=>rw[hi] at h;cases h
       |some p=>
        obtain⟨i,c⟩:=p
        rw[hi] at h
        simp only at h
        obtain⟨q,hq,h⟩:=fK h
        exact⟨_,_,h,(aK2 r ho hok hz hmk hfr hi hq).to,rfl,rfl,Am.refl _⟩
      |true=>
       rw[hff] at h
       simp only[cond_true] at h
       obtain⟨q,hq,h⟩:=fK h
       rw[Bool.or_eq_true] at hff
       exact⟨_,_,h,(Ct G.lay r ho hok hz hmk hfr hff hq).to,rfl,rfl,Am.refl _⟩
   ·cases h
  ·cases h
 ·exact absurd rfl hc
 ·rename_i ta tb x
  have mk:∀{K:Sv U→St U→Option α} {z:α},Nf Y TI s (.convert ta tb x) (fun x=>K x s)=some z→∃y s',K y s'=some z∧SO P Y.C E a w o y s' (Nat.ble (nZ FZ (.convert ta tb x)) 1)∧s'.t=s.t∧s'.fr=s.fr∧Am s.m s'.m:=fun h=>by
   obtain⟨y,k1,k2⟩:=Rl G.ti r h
   exact⟨y,s,k1,(SO.aCT r (o:=o) (by rw[ho];exact k2)).to,rfl,rfl,Am.refl _⟩
  cases hm:iF FZ (tb+1000000) with
  |none=>simp only[hm] at h;exact mk h
  |some S=>
   simp only[hm] at h
   split at h
   ·rename_i k1 z1 e ek eb k2 z2 k3 z3 z h1 h2 h3 h4
    cases hb:Nat.beq e Y.bt with
    |false=>rw[hb] at h;cases h
    |true=>
     rw[hb] at h
     have he:=Nat.eq_of_beq_eq_true hb
     subst he
     exact⟨_,_,h,(aVc r ho (Hg (bQ G.ti h1) rfl).1 (eG (wV (bQ G.ti h2) rfl).1).1 (Rk (bQ G.ti h3) rfl).1 h4).to,rfl,rfl,Am.refl _⟩
   ·exact mk h
 ·exact absurd rfl hc
 ·exact absurd rfl hc
 ·rename_i h1 h2 h3 h4 h5 h6 h7 h8 h9
  obtain⟨x,k1,k2⟩:=Rl G.ti r h
  refine⟨x,s,k1,?_,rfl,rfl,Am.refl _⟩
  exact(by
   have hle:Nat.ble (nZ FZ op) 1=true∨Nat.ble (nZ FZ op) 1=false:=by cases Nat.ble (nZ FZ op) 1<;>simp
   have:=SO.aCT r (o:=o) (by rw[ho];exact k2)
   rcases hle with e|e
   ·rw[e];exact this
   ·rw[e];exact this.soft)
end
end Go.EV

namespace Go.EV
open Go.RowKit Go.VK
variable {U:Uni} {Y:Lay U} {TI:List (Nat×TInfo)} {FZ:List (Nat×Sum U)} {P:Program} {g:GI} {E:Env U g}
structure Ag (D:Nat→Prop) (s s':St U):Prop where
 t:∀n,¬D n→s'.t[n]? =s.t[n]?
 tl:s'.t.length=s.t.length
 fr:s'.fr=s.fr
 m:Am s.m s'.m
theorem Ag.refl {D:Nat→Prop}(s:St U):Ag D s s:=⟨fun _ _=>rfl,rfl,rfl,Am.refl _⟩
theorem Ag.trans {D:Nat→Prop}{s s' s'':St U}(h:Ag D s s')(h':Ag D s' s''):Ag D s s'':=⟨fun n hn=>(h'.t n hn).trans (h.t n hn),h'.tl.trans h.tl,h'.fr.trans h.fr,h.m.trans h'.m⟩
theorem Ag.mono {D D':Nat→Prop}{s s':St U}(h:Ag D s s')(hd:∀n,D n→D' n):Ag D' s s':=⟨fun n hn=>h.t n (fun hh=>hn (hd n hh)),h.tl,h.fr,h.m⟩
theorem Ag.put {D:Nat→Prop}{s s':St U}(h:Ag D s s'){d:Option Nat}{x:Sv U}(hd:∀n,d=some n→D n):Ag D s (put s' d x):=by
 cases d with
 |none=>exact h
 |some n=>
  refine⟨fun k hk=> ?_,?_,h.fr,h.m⟩
  ·simp only[EV.put,bK]
   rw[List.getElem?_set_ne (fun e=>hk (by rw[←e];exact hd n rfl))]
   exact h.t k hk
  ·simp only[EV.put,bK,List.length_set];exact h.tl
section
variable {s:St U} {a:Act} {w:World} {β:List Tr} {α:Type} {C:Cod U}
theorem aW.set (r:aW C E s a w β){n:Nat}{x:Sv U}(h:x.mean C w (E.X β) β s.m (a.tmps.getD n undef)):aW C E (EV.put s (some n) x) a w β:=by
 refine⟨r.hp,r.defers,by simp only[EV.put,bK,List.length_set];exact r.tsz,fun m y hm=> ?_⟩
 simp only[EV.put,bK] at hm ⊢
 by_cases he:n=m
 ·subst he
  have hl:n<s.t.length:=by have:=lt_of_some hm;simpa using this
  rw[List.getElem?_set_self hl] at hm
  injection hm with hm;subst hm;exact h
 ·rw[List.getElem?_set_ne he] at hm;exact r.tm m y hm
theorem aM9 (r:aW C E s a w β){n:Nat}{T F:St U→Option α}{z:α}(h:tst n s T F=some z):
  ∃b s',a.tmps.getD n undef= .bool b∧n<s.t.length∧aW C E s' a w β∧(b=true→T s'=some z)∧(b=false→F s'=some z)∧Ag (fun k=>k=n) s s':=by
 unfold tst at h
 rw[aM] at h
 split at h
 ·rename_i b hx
  have hm:a.tmps.getD n undef= .bool b:=r.tm n _ hx
  cases b with
  |true=>exact⟨true,_,hm,lt_of_some hx,r.set (x:= .l (.bool true)) hm,fun _=>h,fun h=>(by cases h),(Ag.refl s).put (fun k e=>by injection e with e;exact e.symm)⟩
  |false=>exact⟨false,_,hm,lt_of_some hx,r.set (x:= .l (.bool false)) hm,fun h=>(by cases h),fun _=>h,(Ag.refl s).put (fun k e=>by injection e with e;exact e.symm)⟩
 ·rename_i c m hx
  obtain⟨i,f,k1,k2,k3⟩:=r.tm n _ hx
  rw[aM,k1] at h
  simp only at h
  cases hb:decide ((i:Int)<m) with
  |true=>
   rw[hb] at h k2
   have hlt:=of_decide_eq_true hb
   have hns:∀(a' j:Nat) (f':Bool),s.m.ns[a']? =some (j,f')→∃f'',(upd s.m.ns c (i,true))[a']? =some (j,f''):=fun a' j f' h'=>by
    rw[bK]
    by_cases he:c=a'
    ·subst he
     rw[k1] at h';injection h' with h';injection h' with h' _;subst h'
     exact⟨true,List.getElem?_set_self (lt_of_some k1)⟩
    ·exact⟨f',by rw[List.getElem?_set_ne he];exact h'⟩
   have r1:aW C E ⟨s.t,⟨s.m.o,s.m.k,upd s.m.ns c (i,true)⟩,s.fr⟩ a w β:=r.aCF hns (fun a' j h'=>by
    rw[bK] at h'
    by_cases he:c=a'
    ·subst he
     rw[List.getElem?_set_self (lt_of_some k1)] at h'
     have hij:i=j:=congrArg Prod.fst (Option.some.inj h')
     rw[←hij]
     exact Int.le_trans (Int.add_one_le_iff.2 hlt) k3
    ·rw[List.getElem?_set_ne he] at h';exact r.hp.cnt a' j h')
   have hag:Ag (fun k=>k=n) s (⟨s.t,⟨s.m.o,s.m.k,upd s.m.ns c (i,true)⟩,s.fr⟩:St U):=⟨fun _ _=>rfl,rfl,rfl,Am.aCF _ hns⟩
   exact⟨true,_,k2,lt_of_some hx,r1.set (x:= .l (.bool true)) k2,fun _=>h,fun h=>(by cases h),hag.put (fun k e=>by injection e with e;exact e.symm)⟩
  |false=>
   rw[hb] at h k2
   exact⟨false,_,k2,lt_of_some hx,r.set (x:= .l (.bool false)) k2,fun h=>(by cases h),fun _=>h,(Ag.refl s).put (fun k e=>by injection e with e;exact e.symm)⟩
 ·cases h
def Wr (al:List Oper)(o:Oper)(n:Nat):Prop:=o.dst=some n∨∃j b oj,o.guard=some (j,b)∧al[j]? =some oj∧oj.dst=some n
theorem aSi {al:List Oper}{j n:Nat}{oj:Oper}{b:Bool}(hj:al[j]? =some oj)(hd:oj.dst=some n)(hn:n<a.tmps.size)(hv:a.tmps.getD n undef= .bool b):yielded al.toArray a.tmps j=some b:=by
 have h2:a.tmps[n]? =some (.bool b):=by
  rw[Array.getD_eq_getD_getElem?,Array.getElem?_eq_getElem hn] at hv
  rw[Array.getElem?_eq_getElem hn];exact congrArg some hv
 simp[yielded,hj,hd,h2]
theorem aVd {al:List Oper}{j n:Nat}{oj:Oper}(hj:al[j]? =some oj)(hd:oj.dst=some n)(hn:n<a.tmps.size)(hv:a.tmps.getD n undef=undef):yielded al.toArray a.tmps j=none:=by
 have h2:a.tmps[n]? =some undef:=by
  rw[Array.getD_eq_getD_getElem?,Array.getElem?_eq_getElem hn] at hv
  rw[Array.getElem?_eq_getElem hn];exact congrArg some hv
 simp[yielded,hj,hd,h2,undef]
theorem rX (r:aW C E s a w β){al:List Oper}{o:Oper}{run:St U→Option α}{K:St U→Option α}{z:α}(h:aFt al o run s K=some z):
  ∃s',aW C E s' a w β∧Ag (Wr al o) s s'∧((Region.wanted o (yielded al.toArray a.tmps)=true∧run s'=some z)∨(Region.wanted o (yielded al.toArray a.tmps)=false∧skp o s' K=some z)):=by
 unfold aFt at h
 split at h
 ·rename_i hg
  exact⟨s,r,Ag.refl s, .inl ⟨by simp[Region.wanted,hg],h⟩⟩
 ·rename_i j want hg
  rw[aM] at h
  split at h
  ·rename_i oj hj
   split at h
   ·rename_i n hd
    cases hu:aZ5 (nth s.t n) with
    |true=>
     rw[hu] at h
     rw[aM] at hu
     have hx:s.t[n]? =some (.l .und):=by
      cases hq:s.t[n]? with
      |none=>rw[hq] at hu;cases hu
      |some x=>
       rw[hq] at hu
       cases x with
       |l y=>cases y<;>first|rfl|cases hu
       |_=>cases hu
     have hv:a.tmps.getD n undef=undef:=r.tm n _ hx
     have hy:=aVd (a:=a) hj hd (by rw[r.tsz];exact lt_of_some hx) hv
     exact⟨s,r,Ag.refl s, .inr ⟨by simp[Region.wanted,hg,hy],h⟩⟩
    |false=>
     rw[hu] at h
     simp only[cond_false] at h
     obtain⟨b,s',k1,k2,k3,k4,k5,k6⟩:=aM9 r h
     have hy:=aSi (a:=a) hj hd (by rw[r.tsz];exact k2) k1
     refine⟨s',k3,k6.mono (fun k e=>by subst e;exact .inr ⟨j,want,oj,hg,hj,hd⟩),?_⟩
     cases b with
     |true=>
      have h4:=k4 rfl
      cases want with
      |true=>exact .inl ⟨by simp[Region.wanted,hg,hy],h4⟩
      |false=>exact .inr ⟨by simp[Region.wanted,hg,hy],h4⟩
     |false=>
      have h5:=k5 rfl
      cases want with
      |true=>exact .inr ⟨by simp[Region.wanted,hg,hy],h5⟩
      |false=>exact .inl ⟨by simp[Region.wanted,hg,hy],h5⟩
   ·cases h
  ·cases h
theorem H8 (r:aW C E s a w β){al:List Oper}{o:Oper}{K:St U→Option α}{z:α}(h:grd Y TI FZ al o s K=some z):
  ∃s',aW C E s' a w β∧Ag (Wr al o) s s'∧((Region.wanted o (yielded al.toArray a.tmps)=true∧one Y TI FZ o s' K=some z)∨(Region.wanted o (yielded al.toArray a.tmps)=false∧skp o s' K=some z)):=rX r h
theorem aOu (G:Good P g Y TI FZ)(r:aW Y.C E s a w β){al:List Oper}{o:Oper}{K:St U→Option α}{z:α}(h:grd Y TI FZ al o s K=some z){K':Act→World→Prop}{Q:Exit→Act→World→Prop}
  (hk:∀s' a' w' β',Ag (Wr al o) s s'→K s'=some z→aW Y.C E s' a' w' β'→(Nat.ble (nZ FZ o.op) 1=true→Ext w w')→K' a' w'):if Region.wanted o (yielded al.toArray a.tmps)=true then o.wp P a w K' Q else K' (a.put o.dst undef) w:=by
 obtain⟨s1,r1,h1,h2⟩:=H8 r h
 rcases h2 with⟨hw,h2⟩|⟨hw,h2⟩
 ·rw[if_pos hw]
  unfold one at h2
  obtain⟨x,s2,k1,k2,k3,k4,k5⟩:=aM8 G r1 rfl h2
  exact k2 K' Q fun v w' β' q1 q2 q3=>hk _ _ w' β' (Ag.put ⟨fun n hn=>by rw[k3];exact h1.t n hn,by rw[k3];exact h1.tl,by rw[k4];exact h1.fr,h1.m.trans k5⟩ (fun n e=> .inl e)) k1 (q1.put q2) q3
 ·rw[if_neg (by rw[hw];simp)]
  exact hk _ _ w β (h1.put (fun n e=> .inl e)) h2 (r1.put (x:= .l .und) (v:=undef) (fun _=>rfl)) (fun _=>Ext.refl w)
theorem aZa (G:Good P g Y TI FZ)(r:aW Y.C E s a w β){al:List Oper}{o:Oper}(hc:nZ FZ o.op=0){K:St U→Option α}{z:α}(h:grd Y TI FZ al o s K=some z):
  ∃v s',((Region.wanted o (yielded al.toArray a.tmps)=true∧∀w',Ext w w'→(execOp a.eval o).run P w'= .ok (.value v) w')∨(Region.wanted o (yielded al.toArray a.tmps)=false∧v=undef))∧aW Y.C E s' (a.put o.dst v) w β∧K s'=some z∧Ag (Wr al o) s s':=by
 obtain⟨s1,r1,h1,h2⟩:=H8 r h
 rcases h2 with⟨hw,h2⟩|⟨hw,h2⟩
 ·unfold one at h2
  obtain⟨x,s2,k1,⟨v,p1,p2,p3⟩,k3,k4,k5⟩:=rW G r1 rfl hc h2
  exact⟨v,_, .inl ⟨hw,p1⟩,p2.put (fun _=>p3),k1,Ag.put ⟨fun n hn=>by rw[k3];exact h1.t n hn,by rw[k3];exact h1.tl,by rw[k4];exact h1.fr,h1.m.trans k5⟩ (fun n e=> .inl e)⟩
 ·exact⟨undef,_, .inr ⟨hw,rfl⟩,r1.put (x:= .l .und) (v:=undef) (fun _=>rfl),h2,h1.put (fun n e=> .inl e)⟩
theorem Mx (G:Good P g Y TI FZ){al:List Oper}{Q:Exit→Act→World→Prop}{D:Nat→Prop}:∀(l:List Oper) (s:St U) (K:St U→Option α) (z:α),(∀o∈l,∀n,Wr al o n→D n)→ops Y TI FZ al l s K=some z→
  ∀(rest:List Oper),(∀s' a w β,Ag D s s'→K s'=some z→aW Y.C E s' a w β→wpList P al.toArray Q rest a w)→∀a w β,aW Y.C E s a w β→wpList P al.toArray Q (l++rest) a w
 |[],s,K,z,_,h,rest,hk,a,w,β,r=>hk s a w β (Ag.refl s) h r
 |o::l,s,K,z,hD,h,rest,hk,a,w,β,r=>by
  simp only[ops] at h
  refine wpList_step fun K' hK'=>aOu G r h fun s' a' w' β' q1 q2 q3 _=>hK' _ _ ?_
  have q1':=q1.mono (hD o (by simp))
  exact Mx G l s' K z (fun o ho=>hD o (by simp[ho])) q2 rest (fun s2 a2 w2 β2 p1 p2 p3=>hk s2 a2 w2 β2 (q1'.trans p1) p2 p3) a' w' β' q3
end
end Go.EV

namespace Go.EV
open Go.RowKit Go.VK
variable {U:Uni} {Y:Lay U} {TI:List (Nat×TInfo)} {FZ:List (Nat×Sum U)} {P:Program} {g:GI} {E:Env U g}
def Env.frm (E:Env U g)(l:List (World×Nat×Nat)):Env U g:=⟨E.X0,E.Y0,E.w0,E.prm,l,E.h0,E.hY,E.hXY,E.hg,E.pin⟩
section
variable {C:Cod U} {s:St U} {a:Act} {w w':World} {β:List Tr}
theorem aW.frame (r:aW C E s a w β)(hp:E.prm=[]):aW C (E.frm [(w,s.m.o.length,s.m.k)]) s a w β:=by
 have H:=r.hp
 refine⟨⟨H.ext,H.len,H.vers,H.cnt,H.new,H.dist,H.nd,H.ok,H.pin,fun x hx=> ?_,fun f hf=> ?_⟩,r.defers,r.tsz,r.tm⟩
 ·have hx':x∈E.prm:=hx
  rw[hp] at hx';simp at hx'
 ·have hf':f∈[(w,s.m.o.length,s.m.k)]:=hf
  simp at hf';subst hf'
  refine⟨Nat.le_refl _,Nat.le_refl _,Nat.le_refl _, .inr ⟨Ext.refl w,fun i t b hi ht _=> ?_⟩⟩
  have h1:=lt_of_some ht
  have h2:s.m.o.length≤i:=hi
  rw[H.len] at h1;omega
theorem aW.aBZ {l:List (World×Nat×Nat)}(r:aW C (E.frm l) s a w β)(hE:E.fr=[]):aW C E s a w β:=by
 have H:=r.hp
 exact⟨⟨H.ext,H.len,H.vers,H.cnt,H.new,H.dist,H.nd,H.ok,H.pin,fun x hx=>by
  obtain⟨h1,h2,_,h4⟩:=H.prm x hx
  exact⟨h1,h2,by rw[hE];simp,h4⟩,by rw[hE];simp⟩,r.defers,r.tsz,r.tm⟩
theorem aQ3:∀{n k:Nat} {o:List (EO U)},unt n k o=true→∀(j:Nat) (e:EO U),j<n→o[j]? =some e→e.cv≤k
 |0,_,_,_,j,_,h,_=>by omega
 |_+1,_,[],_,j,e,_,h=>by simp at h
 |n+1,k,x::o,h,j,e,hj,he=>by
  simp only[unt,Bool.and_eq_true] at h
  cases j with
  |zero=>have:=Option.some.inj he;subst this;exact Nat.le_of_ble_eq_true h.1
  |succ j=>exact aQ3 h.2 j e (by omega) (by simpa using he)
theorem aW.unt (r:aW C E s a w β){f:World×Nat×Nat}(hf:f∈E.fr)(h:unt f.2.1 f.2.2 s.m.o=true):Ext f.1 w:=by
 obtain⟨_,_,_,h3⟩:=r.hp.fr f hf
 rcases h3 with⟨j,e,h1,h2,h3⟩|⟨h3,_⟩
 ·have:=aQ3 h j e h1 h2;omega
 ·exact h3
def Env.ahd (E:Env U g)(b:Nat)(blk:Obj)(hb:E.w0.heap.size≤b):Env U g:=
 ⟨fun b'=>E.X0 b'∨b'=b,E.Y0,E.w0,(b,blk)::E.prm,E.fr,fun b' h=>by
  rcases h with h|rfl
  ·rcases E.h0 b' h with h|⟨x,hx,e⟩
   ·exact .inl h
   ·exact .inr ⟨x,by simp[hx],e⟩
  ·exact .inr ⟨(b',blk),List.mem_cons_self,rfl⟩,E.hY,fun b' h hy=>by
  rcases h with h|rfl
  ·exact E.hXY b' h hy
  ·have:=E.hY _ hy;omega,E.hg,E.pin⟩
theorem bAd {b:Nat}{blk:Obj}{hb:E.w0.heap.size≤b}{β:List Tr}{b':Nat}:(E.ahd b blk hb).X β b'↔E.X β b'∨b'=b:=by
 unfold Env.X
 constructor
 ·rintro((h|h)|h|h)
  ·exact .inl (.inl h)
  ·exact .inr h
  ·exact .inl (.inr (.inl h))
  ·exact .inl (.inr (.inr h))
 ·rintro((h|h|h)|h)
  ·exact .inl (.inl h)
  ·exact .inr (.inl h)
  ·exact .inr (.inr h)
  ·exact .inl (.inr h)
theorem aW.ahead (r:aW C E s a w β){blk:Obj}(hb:E.w0.heap.size≤w.heap.size):aW C (E.ahd w.heap.size blk hb) s a (w.alloc blk) β:=by
 have H:=r.hp
 have he:Ext w (w.alloc blk):=Ext.alloc _ _
 have hbs:(w.alloc blk).heap[w.heap.size]? =some blk:=by show(w.heap.push blk)[w.heap.size]? =some blk;simp
 have ev:Evo w (w.alloc blk) (E.X β) ((E.ahd w.heap.size blk hb).X β) β β s.m s.m s.m.o.length s.m.ns.length s.m.k:=⟨he.size,fun b hb' h=>(bAd.1 h).resolve_right (by omega),fun _ _ _ h=>he.cell h,Nat.le_refl _,fun a i f _ h=>⟨f,h⟩,fun i e t _ h1 h2=>⟨e,t,h1,h2,fun _=>⟨rfl,rfl⟩,fun _=>⟨rfl,rfl,rfl,fun b hb=>he.block b (H.new i t b h2 hb).2⟩,fun h=>⟨h,rfl⟩⟩⟩
 refine⟨⟨H.ext.trans (Bel.aBF he),H.len,H.vers,H.cnt,fun i t b h1 h2=>⟨(H.new i t b h1 h2).1,Nat.lt_of_lt_of_le (H.new i t b h1 h2).2 he.size⟩,H.dist,H.nd,fun i t e h1 h2=>Ob.aBC ev (H.ok i t e h1 h2) fun b hb=>he.block b (H.new i t b h1 hb).2,fun x hx=>Sv.aAT ev (H.pin x hx),fun x hx=> ?_,fun f hf=> ?_⟩,r.defers,r.tsz,fun n x hx=>Sv.aAT ev (r.tm n x hx)⟩
 ·have hx':x∈(w.heap.size,blk)::E.prm:=hx
  rcases List.mem_cons.1 hx' with rfl|hx'
  ·refine⟨hb,hbs,fun f hf=> ?_,fun i t ht hm=> ?_⟩
   ·exact(H.fr f hf).2.2.1
   ·have:=(H.new i t _ ht hm).2;omega
  ·obtain⟨h1,h2,h3,h4⟩:=H.prm x hx'
   exact⟨h1,(he.block _ (Array.getElem?_eq_some_iff.1 h2).1).trans h2,h3,h4⟩
 ·obtain⟨h1,h2,h0,h3⟩:=H.fr f hf
  exact⟨h1,h2,Nat.le_trans h0 he.size,h3.imp id fun q=>⟨q.1.trans he,q.2⟩⟩
theorem aW.aCO {b:Nat}{blk:Obj}{hb:E.w0.heap.size≤b}(r:aW C (E.ahd b blk hb) s a w β)(hP:E.prm=[]){e':EO U}{t':Tr}{k':Nat}(hk:s.m.k≤k')(hv:e'.rv≤k'∧e'.cv≤k')(ht:t'.all=[b])
  (hok:Evo w w ((E.ahd b blk hb).X β) (E.X (β++[t'])) β (β++[t']) s.m ⟨s.m.o++[e'],k',s.m.ns⟩ s.m.o.length s.m.ns.length s.m.k→w.heap[b]? =some blk→e'.ob.ok C w (E.X (β++[t'])) (β++[t']) ⟨s.m.o++[e'],k',s.m.ns⟩ t'):
  aW C E ⟨s.t,⟨s.m.o++[e'],k',s.m.ns⟩,s.fr⟩ a w (β++[t']):=by
 have H:=r.hp
 have hlen:=H.len
 obtain⟨_,p2,p3,p4⟩:=H.prm (b,blk) List.mem_cons_self
 have hbl:b<w.heap.size:=(Array.getElem?_eq_some_iff.1 p2).1
 have ev:Evo w w ((E.ahd b blk hb).X β) (E.X (β++[t'])) β (β++[t']) s.m ⟨s.m.o++[e'],k',s.m.ns⟩ s.m.o.length s.m.ns.length s.m.k:=by
  refine⟨Nat.le_refl _,fun b' _ h=>bAd.2 ?_,fun _ _ _ h=>h,hk,fun a i f _ h=>⟨f,h⟩,fun i e t hi he ht'=>⟨e,t,?_,?_,fun _=>⟨rfl,rfl⟩,fun _=>⟨rfl,rfl,rfl,fun _ _=>rfl⟩,fun h=>⟨h,rfl⟩⟩⟩
  ·rcases h with h|h|⟨u,hu,hm⟩
   ·exact .inl (.inl h)
   ·exact .inl (.inr (.inl h))
   ·rcases List.mem_append.1 hu with hu|hu
    ·exact .inl (.inr (.inr ⟨u,hu,hm⟩))
    ·simp at hu;subst hu;rw[ht] at hm;simp at hm;exact .inr hm
  ·exact(List.getElem?_append_left hi).trans he
  ·exact(List.getElem?_append_left (lt_of_some ht')).trans ht'
 have hb':∀(i:Nat) (t:Tr),(β++[t'])[i]? =some t→β[i]? =some t∨(i=β.length∧t=t'):=fun i t h=>by
  by_cases hi:i<β.length
  ·rw[List.getElem?_append_left hi] at h;exact .inl h
  ·have:=lt_of_some h
   simp at this
   have e:i=β.length:=by omega
   subst e;simp at h;exact .inr ⟨rfl,h.symm⟩
 have ho':∀(i:Nat) (e:EO U),(s.m.o++[e'])[i]? =some e→s.m.o[i]? =some e∨(i=s.m.o.length∧e=e'):=fun i e h=>by
  by_cases hi:i<s.m.o.length
  ·rw[List.getElem?_append_left hi] at h;exact .inl h
  ·have:=lt_of_some h
   simp at this
   have e1:i=s.m.o.length:=by omega
   subst e1;simp at h;exact .inr ⟨rfl,h.symm⟩
 refine⟨⟨H.ext,by simp[hlen],fun i e he=> ?_,H.cnt,fun i t x h1 h2=> ?_,fun i j t u x hij h1 h2 h3 h4=> ?_,fun i t h1=> ?_,fun i t e h1 h2=> ?_,fun x hx=>Sv.aAT ev (H.pin x hx),fun x hx=>by rw[hP] at hx;simp at hx,fun f hf=> ?_⟩,r.defers,r.tsz,fun n x hx=>Sv.aAT ev (r.tm n x hx)⟩
 ·rcases ho' i e he with h|⟨_,rfl⟩
  ·have:=H.vers i e h;exact⟨Nat.le_trans this.1 hk,Nat.le_trans this.2 hk⟩
  ·exact hv
 ·rcases hb' i t h1 with h|⟨_,rfl⟩
  ·exact H.new i t x h h2
  ·rw[ht] at h2;simp at h2;subst h2;exact⟨.inl hb,hbl⟩
 ·rcases hb' i t h1 with h|⟨ei,rfl⟩<;>rcases hb' j u h2 with h'|⟨ej,rfl⟩
  ·exact H.dist i j t u x hij h h' h3 h4
  ·rw[ht] at h4;simp at h4;subst h4;exact p4 i t h h3
  ·rw[ht] at h3;simp at h3;subst h3;exact p4 j u h' h4
  ·exact hij (ei.trans ej.symm)
 ·rcases hb' i t h1 with h|⟨_,rfl⟩
  ·exact H.nd i t h
  ·rw[ht];simp
 ·rcases hb' i t h1 with h|⟨ei,rfl⟩
  ·rcases ho' i e h2 with h'|⟨ei,_⟩
   ·exact Ob.aBC ev (H.ok i t e h h') fun _ _=>rfl
   ·have:=lt_of_some h;rw[hlen] at this;omega
  ·rcases ho' i e h2 with h'|⟨_,rfl⟩
   ·have:=lt_of_some h';rw[hlen] at ei;omega
   ·exact hok ev p2
 ·obtain⟨h1,h2,h0,h3⟩:=H.fr f hf
  refine⟨by simp;omega,Nat.le_trans h2 hk,h0,?_⟩
  rcases h3 with⟨j,e,q1,q2,q3⟩|⟨q1,q2⟩
  ·exact .inl ⟨j,e,q1,(List.getElem?_append_left (lt_of_some q2)).trans q2,q3⟩
  ·refine .inr ⟨q1,fun i t x hi h1 hx=> ?_⟩
   rcases hb' i t h1 with h|⟨_,rfl⟩
   ·exact q2 i t x hi h hx
   ·rw[ht] at hx;simp at hx;subst hx;exact p3 f hf
def mkF (op:Op)(b:Nat):Value:=match op with
 | .buildSlice _ n _=> .slice (some ⟨b,0,none⟩) n n
 |_=> .pointer (some ⟨b,0,none⟩)
def Flp (P:Program)(a:Act)(o:Oper)(blk:Obj):Prop:=∀w:World,(execOp a.eval o).run P w= .ok (.value (mkF o.op w.heap.size)) (w.alloc blk)
theorem aSj {γ:Type}{x:Option γ}(h:(!Wd x)=true):∃y,x=some y:=by
 cases x with
 |none=>cases h
 |some y=>exact⟨y,rfl⟩
theorem Rp (hTI:qO P TI=true){o:Oper}{T:TypeId}{i:TInfo}(ho:o.op= .alloc T)(hf:iF TI T=some i):∃vs:Array Value,Flp P a o (.cells vs T)∧∀(w:World) (X:Nat→Prop) (β:List Tr) (m:Mm U),Ms Y.C w X β m vs.toList (i.z.map Kz.lf):=by
 obtain⟨j,z,k3,k4,k5⟩:=aE4 (bQ hTI hf)
 refine⟨z.cells,fun w=> ?_,fun w X β m=>Hl k5⟩
 simp[execOp,ho,Instr.alloc,zeroValue,typeInfo,k3,k4,newVar,newRow,mkF]
theorem Ho {T:TypeId}(h:uU Y TI s (.alloc T)=true):∃i,iF TI T=some i:=aSj h
theorem Hq {t:TypeId}{n:Nat}{ps:Array (Nat×Operand)}(h:uU Y TI s (.buildSlice t n ps)=true):∃e ek eb k zz l d,iF TI t=some ⟨.sl e ek eb,k,zz⟩∧ps.toList.length=n∧n*ek≤16777216∧He (U:=U) e ek e=true∧Qf Y s e 0 ps.toList=some (l,[],d):=by
 unfold uU at h
 simp only at h
 split at h
 ·rename_i e ek eb k zz h1
  simp only[Bool.and_eq_true,aZ] at h
  obtain⟨q1,q2,q3,q4⟩:=h
  split at q4
  ·rename_i l d h5
   exact⟨e,ek,eb,k,zz,l,d,h1,Nat.eq_of_beq_eq_true q1,Nat.le_of_ble_eq_true q2,q3,h5⟩
  ·cases q4
 ·cases h
theorem H9 (hTI:qO P TI=true)(hY:LayOk Y)(r:aW Y.C E s a w β){o:Oper}{t:TypeId}{n e ek eb k:Nat}{zz:List Kz}{ps:Array (Nat×Operand)}{l:List (U.El e)}{d:Bool}(ho:o.op= .buildSlice t n ps)
  (h1:iF TI t=some ⟨.sl e ek eb,k,zz⟩) (h2:ps.toList.length=n) (h3:n*ek≤16777216) (h4:He (U:=U) e ek e=true) (h5:Qf Y s e 0 ps.toList=some (l,[],d)):
  ∃cells:Array Value,Flp P a o (.cells cells e)∧0<U.K e∧n≤maxLen∧l.length=n∧cells.size=n*U.K e∧OwL Y.C w (E.X β) d cells.toList (l.map (Y.C.cel e)).flatten []:=by
 have hsl:=(wV (bQ hTI h1) rfl).1
 obtain⟨_,_,_,_,_,_,_,_,hk0⟩:=eG hsl
 simp only[He,Bool.and_eq_true] at h4
 have hKe:U.K e=ek:=Nat.eq_of_beq_eq_true h4.2
 obtain⟨vs,k1,k2,k3,k4,k5⟩:=Rn hY r h5
 rw[hKe] at k4
 have hnm:n≤maxLen:=by
  have:n*1≤n*ek:=Nat.mul_le_mul_left _ hk0
  unfold maxLen;omega
 refine⟨(vs.map fun v=>v.cells.toList).flatten.toArray,fun w=> ?_,by rw[hKe];exact hk0,hnm,k3.trans h2,?_,by rw[List.toList_toArray];exact k5⟩
 ·obtain⟨cells,q1,q2⟩:=aF6 (w:=w) hsl (k2.trans h2) h3 k1 k4 ho
  have:cells=(vs.map fun v=>v.cells.toList).flatten.toArray:=by rw[←q2]
  rw[q1,←this];simp only[mkF,ho]
 ·have:=k5.len
  rw[Ha (Y.C.hlen e),k3,h2] at this
  simpa using this
theorem aNa (G:Good P g Y TI FZ)(r:aW Y.C E s a w β){o:Oper}(h:uU Y TI s o.op=true):∃blk,Flp P a o blk:=by
 cases ho:o.op with
 |alloc T=>
  rw[ho] at h
  obtain⟨i,hf⟩:=Ho h
  obtain⟨vs,k,_⟩:=Rp (Y:=Y) (a:=a) G.ti ho hf
  exact⟨_,k⟩
 |buildSlice t n ps=>
  rw[ho] at h
  obtain⟨e,ek,eb,k,zz,l,d,h1,h2,h3,h4,h5⟩:=Hq h
  obtain⟨cells,q,_⟩:=H9 G.ti G.lay r ho h1 h2 h3 h4 h5
  exact⟨_,q⟩
 |_=>rw[ho] at h;cases h
theorem Flp.keep {o:Oper}{blk:Obj}(h:Flp P a o blk){d:Option Nat}{v:Value}(hd:aR6 o d=true):Flp P (a.put d v) o blk:=by
 have e:execOp (a.put d v).eval o=execOp a.eval o:=by
  cases d with
  |none=>rfl
  |some n=>
   have hd2:(match o.op with
    | .alloc _=>true
    | .buildSlice _ _ ps=>ps.toList.all fun x=>match x.2 with| .tmp m=> !Nat.beq n m|_=>true
    |_=>false)=true:=hd
   cases ho:o.op with
   |alloc T=>simp only[execOp,ho]
   |buildSlice t m ps=>
    rw[ho] at hd2
    simp only[List.all_eq_true] at hd2
    have:ps.map (fun(i,x)=>(i,(a.put (some n) v).eval x))=ps.map (fun(i,x)=>(i,a.eval x)):=by
     apply Array.map_congr_left
     intro x hx
     have:=hd2 x (by simpa using hx)
     obtain⟨i,x⟩:=x
     simp only[Prod.mk.injEq,true_and]
     refine Act.eval_put fun d hd hxd=> ?_
     have hd':=Option.some.inj hd
     subst hd';subst hxd
     simp at this
    simp only[execOp,ho,this]
   |_=>rw[ho] at hd2;cases hd2
 intro w
 rw[e];exact h w
theorem aVe {w:World}{x y:Obj}(h:w.alloc x=w.alloc y):x=y:=by
 have h1:w.heap.push x=w.heap.push y:=congrArg World.heap h
 have h2:(w.heap.push x)[w.heap.size]? =(w.heap.push y)[w.heap.size]? :=by rw[h1]
 simpa using h2
theorem Flp.inj {o:Oper}{x y:Obj}(w:World)(h1:Flp P a o x)(h2:Flp P a o y):x=y:=by
 have:=(h1 w).symm.trans (h2 w)
 injection this with _ h
 exact aVe h
theorem aVf (G:Good P g Y TI FZ){b:Nat}{blk:Obj}{hb:E.w0.heap.size≤b}(r:aW Y.C (E.ahd b blk hb) s a w β)(hP:E.prm=[]){o:Oper}(hf:Flp P a o blk)(hg:uU Y TI s o.op=true){α:Type}{K:Sv U→St U→Option α}{z:α}(h:stp Y TI FZ s o.op K=some z):
  ∃x s' β',K x s'=some z∧aW Y.C E s' a w β'∧x.mean Y.C w (E.X β') β' s'.m (mkF o.op b)∧s'.t=s.t∧s'.fr=s.fr∧Am s.m s'.m:=by
 have hlen:=r.hp.len
 cases ho:o.op with
 |alloc T=>
  rw[ho] at hg h
  obtain⟨i,hi⟩:=Ho hg
  obtain⟨vs,k,hM⟩:=Rp (Y:=Y) (a:=a) G.ti ho hi
  have hblk:=hf.inj w k
  subst hblk
  have h':K (.l (.box (len s.m.o) 0)) (psh s (.box T (i.z.map Kz.lf) (i.z.map fun _=>s.m.k)))=some z:=by
   have:stp Y TI FZ s (.alloc T) K=match iF TI T with
    |some i=>K (.l (.box (len s.m.o) 0)) (psh s (.box T (i.z.map Kz.lf) (i.z.map fun _=>s.m.k)))
    |none=>none:=rfl
   rw[this,hi] at h;exact h
  have r':=r.aCO hP (e':=⟨.box T (i.z.map Kz.lf) (i.z.map fun _=>s.m.k),s.m.k,s.m.k⟩) (t':=⟨some b,0,0,[]⟩) (Nat.le_refl _) ⟨Nat.le_refl _,Nat.le_refl _⟩ rfl (fun hev hbk=>⟨by simp,b,vs.toList,rfl,rfl,by simpa using hbk,hM _ _ _ _⟩)
  refine⟨_,_,_,h',r',⟨rfl,⟨.box T (i.z.map Kz.lf) (i.z.map fun _=>s.m.k),s.m.k,s.m.k⟩,⟨some b,0,0,[]⟩,?_,?_,fun _=>⟨_,rfl,rfl⟩⟩,rfl,rfl,Am.add _ _⟩
  ·simp[psh,aZ]
  ·rw[List.getElem?_append_right (by rw[hlen,aZ];exact Nat.le_refl _),hlen,aZ];simp
 |buildSlice t n ps=>
  rw[ho] at hg h
  obtain⟨e,ek,eb,k,zz,l,d,h1,h2,h3,h4,h5⟩:=Hq hg
  obtain⟨cells,q1,q2,q3,q4,q5,q6⟩:=H9 G.ti G.lay r ho h1 h2 h3 h4 h5
  have hblk:=hf.inj w q1
  subst hblk
  have hst:∀o':List (EO U),o'=s.m.o++[(⟨.tree e d l,s.m.k,Nat.succ s.m.k⟩:EO U)]→K (.l (.own (len s.m.o) s.m.k)) ⟨s.t,⟨o',Nat.succ s.m.k,s.m.ns⟩,s.fr⟩=some z:=fun o' ho'=>by
   have:stp Y TI FZ s (.buildSlice t n ps) K=bif Nat.beq (len ps.toList) n&&(Nat.ble (n*ek) 16777216&&He (U:=U) e ek e) then(bif dist (len s.m.o::[]) then K (.l (.own (len s.m.o) s.m.k)) ⟨s.t,⟨upd (s.m.o++[⟨.dead,s.m.k,s.m.k⟩]) (len s.m.o) ⟨.tree e d l,s.m.k,Nat.succ s.m.k⟩,Nat.succ s.m.k,s.m.ns⟩,s.fr⟩ else none) else none:=by
    show(match iF TI t with
     |some ⟨.sl e ek _,_,_⟩=>_
     |_=>none)=_
    rw[h1]
    simp only
    rw[h5]
    rfl
   rw[this,aZ,h2] at h
   rw[show Nat.beq n n=true from Nat.beq_refl n,Nat.ble_eq_true_of_le h3,h4] at h
   simp only[Bool.and_self,cond_true] at h
   have hd:dist [len s.m.o]=true:=rfl
   rw[hd] at h
   simp only[cond_true] at h
   rw[bK,aZ,List.set_append_right _ _ (Nat.le_refl _),Nat.sub_self] at h
   rw[ho',aZ];exact h
  have r':=r.aCO hP (e':=⟨.tree e d l,s.m.k,Nat.succ s.m.k⟩) (t':=⟨some b,n,n,[]⟩) (Nat.le_succ _) ⟨Nat.le_succ _,Nat.le_refl _⟩ rfl (fun hev hbk=>by
   refine⟨q2,cells.toList,?_,q6.conv (Nat.le_refl _) hev.hX (fun _ _ _ h=>h) (by simp)⟩
   exact⟨by rw[q4,Array.length_toList,q5], .inr ⟨b,n,cells,by rw[q4];rfl,Nat.zero_le _,hbk,by rw[q4];exact Nat.le_refl _,q3,q5,by rw[q4];exact List.take_of_length_le (by rw[Array.length_toList,q5];exact Nat.le_refl _)⟩⟩)
  refine⟨_,_,_,hst _ rfl,r',⟨⟨Nat.le_succ _,rfl⟩,⟨.tree e d l,s.m.k,Nat.succ s.m.k⟩,⟨some b,n,n,[]⟩,?_,?_,fun _=>rfl⟩,rfl,rfl,?_⟩
  ·simp[aZ]
  ·rw[List.getElem?_append_right (by rw[hlen,aZ];exact Nat.le_refl _),hlen,aZ];simp
  ·have a1:=(Am.add s.m [(⟨.dead,s.m.k,s.m.k⟩:EO U)]).trans (Am.tree (ids:=[]) (i:=len s.m.o) (τ:=e) (d:=d) (l:=l) (rv:=s.m.k) _)
   have e1:(⟨Mv (Nat.succ s.m.k) [] (upd (s.m.o++[(⟨.dead,s.m.k,s.m.k⟩:EO U)]) (len s.m.o) ⟨.tree e d l,s.m.k,Nat.succ s.m.k⟩),Nat.succ s.m.k,s.m.ns⟩:Mm U)=⟨s.m.o++[⟨.tree e d l,s.m.k,Nat.succ s.m.k⟩],Nat.succ s.m.k,s.m.ns⟩:=by
    rw[bK,aZ,List.set_append_right _ _ (Nat.le_refl _),Nat.sub_self];rfl
   exact e1▸a1
 |_=>rw[ho] at hg;cases hg
end
end Go.EV

namespace Go.EV
open Go.RowKit Go.VK
variable {U:Uni} {C:Cod U} {P:Program} {g:GI} {E:Env U g}
def Ob.bd (N M K:Nat):Ob U→Prop
 | .box _ cs _=>∀c∈cs,c.bd N M K
 |_=>True
def gQ (β:List Tr):Option Nat→Tr
 |some i=>match β[i]? with|some t=>t|none=>Rm
 |none=>Rm
inductive Src (N M K:Nat) (m:Mm U) (q:Option Nat) (j:Nat) (e':EO U):Prop
 |keep (hq:q=some j) (he:m.o[j]? =some e') (hb:e'.ob.bd N M K)
 |box (hq:q=some j) {e:EO U} {T:Nat} {cs cs':List (Lf U)} {vs vs':List Nat} (he:m.o[j]? =some e) (h1:e.ob= .box T cs vs) (h2:e'.ob= .box T cs' vs') (l1:cs'.length=cs.length) (l2:cs'.length=vs'.length) (hc:∀(i:Nat) (c:Lf U),cs'[i]? =some c→c= .any∨(cs[i]? =some c∧c.bd N M K)) (hv:K<e'.rv∧K<e'.cv)
 |dead (h:e'.ob= .dead) (hv:K<e'.rv∧K<e'.cv)
 |tree {i:Nat} {e:EO U} {τ:Nat} {d d':Bool} {l:List (U.El τ)} (hq:q=some i) (he:m.o[i]? =some e) (h1:e.ob= .tree τ d' l) (hd:d=true→d'=true) (h2:e'.ob= .tree τ d l) (hv:K<e'.rv∧K<e'.cv)
 |ti {e:EO U} {τ:Nat} {d d':Bool} {l:List (U.El τ)} (hq:q=some j) (he:m.o[j]? =some e) (h1:e.ob= .tree τ d' l) (hd:d=true→d'=true) (h2:e'.ob= .tree τ d l) (hr:e'.rv=e.rv) (hv:K<e'.cv)
 |nil {τ:Nat} {d:Bool} (hq:q=none) (h2:e'.ob= .tree τ d []) (hK:0<U.K τ) (hv:K<e'.rv∧K<e'.cv)
section
variable {m m':Mm U} {w:World} {β:List Tr} {σ:List (Option Nat)} {N M K:Nat}
theorem Ws {q:Option Nat}{b:Nat}(h:b∈(gQ β q).all):∃i t,q=some i∧β[i]? =some t∧gQ β q=t:=by
 cases q with
 |none=>simp[gQ,kC] at h
 |some i=>
  cases hb:β[i]? with
  |none=>simp[gQ,hb,kC] at h
  |some t=>exact⟨i,t,rfl,hb,by simp[gQ,hb]⟩
theorem Hp.ren (H:Hp C E m β w)(hl:σ.length=m'.o.length)(hN:N≤m'.o.length)(hinj:∀(j j' i:Nat),σ[j]? =some (some i)→σ[j']? =some (some i)→j=j')(hk:K≤m'.k)
  (hver:∀(i:Nat) (e:EO U),m'.o[i]? =some e→e.rv≤m'.k∧e.cv≤m'.k) (hcnt:∀(a i:Nat),m'.ns[a]? =some (i,true)→(i:Int)+1≤9223372036854775807)
  (hn:∀(a i:Nat) (f:Bool),a<M→m.ns[a]? =some (i,f)→∃f',m'.ns[a]? =some (i,f'))
  (hs:∀(j:Nat) (q:Option Nat) (e':EO U),σ[j]? =some q→m'.o[j]? =some e'→Src N M K m q j e') (hpin:∀x∈E.pin,x.1.bd N M K) (hfr:E.fr=[]):
  Hp C E m' (σ.map (gQ β)) w∧Evo w w (E.X β) (E.X (σ.map (gQ β))) β (σ.map (gQ β)) m m' N M K:=by
 have hget:∀(j:Nat) (t:Tr),(σ.map (gQ β))[j]? =some t→∃q,σ[j]? =some q∧t=gQ β q:=fun j t h=>by
  rw[List.getElem?_map] at h
  cases hq:σ[j]? with
  |none=>simp[hq] at h
  |some q=>simp only[hq,Option.map_some,Option.some.injEq] at h;exact⟨q,rfl,h.symm⟩
 have hX:∀b,E.X (σ.map (gQ β)) b→E.X β b:=by
  rintro b (h|h|⟨t,ht,hb⟩)
  ·exact .inl h
  ·exact .inr (.inl h)
  ·obtain⟨q,_,rfl⟩:=List.mem_map.1 ht
   obtain⟨i,t,_,h2,h3⟩:=Ws hb
   rw[h3] at hb
   exact .inr (.inr ⟨t,List.mem_of_getElem? h2,hb⟩)
 have hev:Evo w w (E.X β) (E.X (σ.map (gQ β))) β (σ.map (gQ β)) m m' N M K:=by
  refine⟨Nat.le_refl _,fun b _=>hX b,fun _ _ _ h=>h,hk,fun a i f ha h=>hn a i f ha h,fun i e t hi he ht=> ?_⟩
  have hi':i<m'.o.length:=Nat.lt_of_lt_of_le hi hN
  have h1:m'.o[i]? =some m'.o[i]:=List.getElem?_eq_getElem hi'
  have h2:σ[i]? =some (σ[i]'(by omega)):=List.getElem?_eq_getElem _
  have h3:(σ.map (gQ β))[i]? =some (gQ β (σ[i]'(by omega))):=by rw[List.getElem?_map,h2];rfl
  refine⟨_,_,h1,h3,?_⟩
  have hsr:=hs i _ _ h2 h1
  have big:K<(m'.o[i]).rv∧K<(m'.o[i]).cv→(m'.o[i]).ob.aAU=false→((m'.o[i]).rv≤K→(m'.o[i]).rv=e.rv∧(gQ β (σ[i]'(by omega))).val=t.val)∧((m'.o[i]).cv≤K→(m'.o[i]).cv=e.cv∧(m'.o[i]).ob=e.ob∧gQ β (σ[i]'(by omega))=t∧∀b∈t.all,w.heap[b]? =w.heap[b]?)∧((m'.o[i]).ob.aAU=true→e.ob.aAU=true∧(gQ β (σ[i]'(by omega))).b=t.b):=fun hv hb=>
   ⟨fun h=>absurd h (by omega),fun h=>absurd h (by omega),fun h=>by rw[hb] at h;cases h⟩
  cases hsr with
  |keep hq he' hb=>
   rw[he] at he'
   have e0:e=m'.o[i]:=Option.some.inj he'
   have e1:gQ β (σ[i]'(by omega))=t:=by rw[hq];simp[gQ,ht]
   rw[e1,←e0]
   exact⟨fun _=>⟨rfl,rfl⟩,fun _=>⟨rfl,rfl,rfl,fun _ _=>rfl⟩,fun h=>⟨h,rfl⟩⟩
  |box hq he' q1 q2 _ _ _ hv=>
   rw[he] at he'
   have e0:=Option.some.inj he'
   have e1:gQ β (σ[i]'(by omega))=t:=by rw[hq];simp[gQ,ht]
   rw[e1]
   refine⟨fun h=>absurd h (by omega),fun h=>absurd h (by omega),fun _=>⟨?_,rfl⟩⟩
   rw[e0,q1];rfl
  |dead h hv=>exact big hv (by rw[h];rfl)
  |tree _ _ _ _ h hv=>exact big hv (by rw[h];rfl)
  |ti hq he' _ _ h hr hv=>
   rw[he] at he'
   have e0:=Option.some.inj he'
   have e1:gQ β (σ[i]'(by omega))=t:=by rw[hq];simp[gQ,ht]
   rw[e1,e0]
   exact⟨fun _=>⟨hr,rfl⟩,fun h=>absurd h (by omega),fun hb=>by rw[h] at hb;cases hb⟩
  |nil _ h _ hv=>exact big hv (by rw[h];rfl)
 refine⟨⟨H.ext,by rw[List.length_map,hl],hver,hcnt,?_,?_,?_,?_,fun x hx=>Sv.aAV hev (hpin x hx) (H.pin x hx),fun x hx=> ?_,fun f hf=>by rw[hfr] at hf;simp at hf⟩,hev⟩
 ·intro j t b ht hb
  obtain⟨q,_,rfl⟩:=hget j t ht
  obtain⟨i,t,_,h2,h3⟩:=Ws hb
  rw[h3] at hb
  exact H.new i t b h2 hb
 ·intro j j' t u b hjj ht hu hb hub
  obtain⟨q,hq,rfl⟩:=hget j t ht
  obtain⟨q',hq',rfl⟩:=hget j' u hu
  obtain⟨i,t,e1,h2,h3⟩:=Ws hb
  obtain⟨i',t',e1',h2',h3'⟩:=Ws hub
  rw[h3] at hb;rw[h3'] at hub
  refine H.dist i i' t t' b (fun e=>hjj ?_) h2 h2' hb hub
  subst e;subst e1;subst e1'
  exact hinj j j' i hq hq'
 ·intro j t ht
  obtain⟨q,hq,rfl⟩:=hget j t ht
  cases q with
  |none=>rw[show gQ β none=Rm from rfl,kC];exact List.nodup_nil
  |some i=>
   cases hb:β[i]? with
   |none=>simp[gQ,hb,kC]
   |some t=>simp only[gQ,hb];exact H.nd i t hb
 ·intro j t e' ht he'
  obtain⟨q,hq,rfl⟩:=hget j t ht
  cases hs j q e' hq he' with
  |keep hq he hb=>
   subst hq
   obtain⟨t,ht⟩:=H.tr he
   simp only[gQ,ht]
   have hok:=H.ok j t e' ht he
   generalize e'.ob=x at hok hb ⊢
   cases x with
   |dead=>trivial
   |box T cs us=>
    obtain⟨h0,b,vs,h1,h2,h3,h4⟩:=hok
    exact⟨h0,b,vs,h1,h2,h3,h4.evo hev hb⟩
   |tree τ d l=>
    obtain⟨h1,xs,h2,h3⟩:=hok
    exact⟨h1,xs,h2,h3.conv (Nat.le_refl _) (fun b _=>hX b) (fun _ _ _ h=>h) (fun _ _=>rfl)⟩
  |box hq he h1 h2 l1 l2 hc hv=>
   subst hq
   obtain⟨t,ht⟩:=H.tr he
   simp only[gQ,ht]
   have hok:=H.ok j t _ ht he
   rw[h1] at hok
   rw[h2]
   obtain⟨h0,b,vs,k1,k2,k3,k4⟩:=hok
   refine⟨l2,b,vs,k1,k2,k3,by rw[k4.1,l1],fun i v c hv hc'=> ?_⟩
   rcases hc i c hc' with rfl|⟨hc1,hc2⟩
   ·trivial
   ·exact Lf.aAV hev hc2 (k4.2 i v c hv hc1)
  |dead h hv=>rw[h];trivial
  |tree hq he h1 hd h2 hv=>
   subst hq
   obtain⟨t,ht⟩:=H.tr he
   simp only[gQ,ht]
   have hok:=H.ok _ t _ ht he
   rw[h1] at hok
   rw[h2]
   obtain⟨k1,xs,k2,k3⟩:=hok
   exact⟨k1,xs,k2,(k3.fl hd).conv (Nat.le_refl _) (fun b _=>hX b) (fun _ _ _ h=>h) (fun _ _=>rfl)⟩
  |ti hq he h1 hd h2 hr hv=>
   subst hq
   obtain⟨t,ht⟩:=H.tr he
   simp only[gQ,ht]
   have hok:=H.ok _ t _ ht he
   rw[h1] at hok
   rw[h2]
   obtain⟨k1,xs,k2,k3⟩:=hok
   exact⟨k1,xs,k2,(k3.fl hd).conv (Nat.le_refl _) (fun b _=>hX b) (fun _ _ _ h=>h) (fun _ _=>rfl)⟩
  |nil hq h2 hK hv=>
   subst hq
   rw[h2]
   exact⟨hK,[],World.ownsRow_nil w 0 _ _, .n⟩
 ·obtain⟨h1,h2,h3,h4⟩:=H.prm x hx
  refine⟨h1,h2,h3,fun j t ht hb=> ?_⟩
  obtain⟨q,_,rfl⟩:=hget j t ht
  obtain⟨i,t,_,q2,q3⟩:=Ws hb
  rw[q3] at hb
  exact h4 i t q2 hb
end
end Go.EV
