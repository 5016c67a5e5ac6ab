import Derived.Test.YtlnjelnfjgjanaaGreatEVmtor
/-
  THE EVALUATOR's KIT: a contract with fresh results, taken for one whose results are only read. Plain theorems over any program; the conditions stand in each.
-/
set_option linter.unusedVariables false
set_option linter.unusedSimpArgs false
namespace Go.EV
open Go.RowKit Go.VK
variable {U:Uni} {Y:Lay U} {P:Program} {g:GI} {C:Cod U}
theorem OwP.rd {w:World}{Z:Nat→Prop}{v:Value}{B:List Nat}:∀{x:Bool×List (Lf U)},OwP C w v B x→(∀b∈B,¬Z b)→Rd w Z [] v (Ac x)
 |(true,cs),h,hB=>by
  obtain⟨vs,rfl,ho⟩:=h
  obtain⟨h1,h2⟩:=(OwL.aCD (X':=Z) rfl ho).rd (Z:=Z) (fun _ h=>h) hB
  refine .agg (by simpa using h1) fun i v c h3 h4=> ?_
  rw[List.getElem?_map] at h4
  obtain⟨x,h5,rfl⟩:=Option.map_eq_some_iff.1 h4
  exact h2 i v x (by simpa using h3) h5
 |(false,cs),h,hB=>by
  obtain⟨c,rfl,ho⟩:=h
  exact(Ow.aCD (X':=Z) rfl ho).rd (fun _ h=>h) hB
theorem OwPs.rd {w:World}{Z:Nat→Prop}:∀{vs:List Value} {xs:List (Bool×List (Lf U))} {B:List Nat},OwPs C w vs xs B→(∀b∈B,¬Z b)→vs.length=(xs.map Ac).length∧∀(i:Nat) (v:Value) (c:V),vs[i]? =some v→(xs.map Ac)[i]? =some c→Rd w Z [] v c
 |_,_,_, .n,_=>⟨rfl,fun i v c h=>by simp at h⟩
 |_,_,_, .c h hr,hB=>by
  obtain⟨h1,h2⟩:=hr.rd (Z:=Z) fun b hb=>hB b (List.mem_append.2 (.inr hb))
  refine⟨by simp only[List.length_cons,List.map_cons,h1],fun i v c h3 h4=> ?_⟩
  cases i with
  |zero=>
   simp only[List.getElem?_cons_zero,List.map_cons,Option.some.injEq] at h3 h4
   subst h3;subst h4
   exact h.rd fun b hb=>hB b (List.mem_append.2 (.inl hb))
  |succ i=>exact h2 i v c (by simpa using h3) (by simpa using h4)
theorem OwR.rd {w:World}{Z:Nat→Prop}{v:Value}{B:List Nat}{cps:List (Bool×List (Lf U))}(h:OwR C w v cps B)(hB:∀b∈B,¬Z b):Rd w Z [] v (nU (cps.map Ac)):=by
 unfold OwR at h
 split at h
 ·exact h.rd hB
 ·rename_i hne
  obtain⟨vs,rfl,ho⟩:=h
  obtain⟨h1,h2⟩:=ho.rd hB
  have e:nU (cps.map Ac)= .tup (cps.map Ac):=by
   match cps,hne with
   |[],_=>rfl
   |[x],hne=>exact absurd rfl (hne x)
   |x::y::r,_=>rfl
  rw[e]
  exact .tup (by simpa using h1) fun i v c h3 h4=>h2 i v c (by simpa using h3) h4
def Sum.pl (S:Sum U):Sum U:=⟨S.ar,S.rs,false,S.wt,S.m⟩
theorem aZg {f:FuncId}{S:Sum U}(h:Er P g Y f S)(hw:S.wt=false)(hf:S.fr=true):Er P g Y f S.pl:=fun a r hr=>by
 obtain⟨_,h2,_⟩:=h a r hr
 obtain⟨k1,k2⟩:=h2 hw hf
 refine⟨fun _ _=>⟨k1,fun w X vs hG hX hrd=>(k2 w X vs hG hX hrd).mono fun e w' hq=> ?_⟩,fun _ h=>(by cases h),fun hh=>(by
  have hh:S.wt=true:=hh
  rw[hw] at hh;cases hh),fun hh=>(by
  have hh:S.wt=true:=hh
  rw[hw] at hh;cases hh)⟩
 obtain⟨v,B,e1,e2,e3,e4,e5⟩:=hq
 exact⟨v,_,e1,rfl,e5.rd fun b hb hx=>by have:=e4 b hb;have:=hX b hx;omega,e2⟩
end Go.EV

namespace Go.EV
open Go.RowKit Go.VK
variable {U:Uni} {Y:Lay U} {TI:List (Nat×TInfo)} {FZ:List (Nat×Sum U)} {P:Program} {g:GI} {E:Env U g}
section
variable {s:St U} {a:Act} {w:World} {β:List Tr} {α:Type} {C:Cod U}
theorem Tf:∀{ks:List Kd},aEh (U:=U) ks=true→∀kd∈ks,∀τ,kd= .sl τ→0<U.K τ
 |[],_,kd,h,_,_=>by simp at h
 |k::ks,h,kd,hk,τ,e=>by
  cases k with
  |sl τ'=>
   simp only[aEh,Bool.and_eq_true] at h
   rcases List.mem_cons.1 hk with rfl|hk
   ·injection e with e;subst e;exact Nat.le_of_ble_eq_true h.1
   ·exact Tf h.2 kd hk τ e
  |_=>
   rcases List.mem_cons.1 hk with rfl|hk
   ·cases e
   ·exact Tf (ks:=ks) h kd hk τ e
def bJy (C:Cod U)(w:World)(t:Tr)(τ:Nat)(L:List (U.El τ)):Prop:=0<U.K τ∧∃xs,w.ownsRow 0 τ (U.K τ) t.val L.length xs∧OwL C w (fun _=>False) true xs (L.map (C.cel τ)).flatten t.bs
structure Hd (C:Cod U) (m:Mm U) (w:World) (β:List Tr) (v:Value) (y':Lf U) (i:Nat) (e:EO U) (t:Tr) (B:List Nat):Prop where
 ht:β[i]? =some t
 he:∃e0 τ L,m.o[i]? =some e0∧e0.ob.aAX=false∧e=⟨.tree τ true L,e0.rv,Nat.succ m.k⟩
 sub:∀b∈B,b∈t.all
 back:∀w' B',w.heap.size≤w'.heap.size→Ow C w' (fun _=>False) true v y' B'→(∀b∈t.all,b∉B→w'.heap[b]? =w.heap[b]?)→
  ∃t' τ L,t'.val=t.val∧(∀b∈t'.all,b∈B'∨(b∈t.all∧b∉B))∧(B'.Nodup→(∀b∈B',b∈t.all→b∈B)→t'.all.Nodup)∧e.ob= .tree τ true L∧bJy C w' t' τ L
structure Wo (U:Uni) where
 i:Nat
 e:EO U
 t:Tr
 B:List Nat
 v:Value
 y:Lf U
end
end Go.EV

namespace Go.EV
open Go.RowKit Go.VK
variable {U:Uni} {Y:Lay U} {TI:List (Nat×TInfo)} {FZ:List (Nat×Sum U)} {P:Program} {g:GI} {E:Env U g}
structure Good (P:Program) (g:GI) (Y:Lay U) (TI:List (Nat×TInfo)) (FZ:List (Nat×Sum U)):Prop where
 ti:pM P TI=true
 lay:LayOk Y
 fs:∀(f:Nat) (S:Sum U),(f,S)∈FZ→Er P g Y f S
structure Am (m m':Mm U):Prop where
 k:m.k≤m'.k
 ns:∀(a i:Nat) (f:Bool),m.ns[a]? =some (i,f)→∃f',m'.ns[a]? =some (i,f')
 ol:m.o.length≤m'.o.length
 o:∀(i:Nat) (e e':EO U),m.o[i]? =some e→m'.o[i]? =some e'→(e'.cv≤m.k→e'=e)∧(e'.ob.aAX=true→e.ob.aAX=true)∧
  ∀T cs vs T' cs' vs',e.ob= .box T cs vs→e'.ob= .box T' cs' vs'→T'=T∧cs'.length=cs.length∧vs'.length=vs.length∧∀(j v:Nat),vs'[j]? =some v→v≤m.k→cs'[j]? =cs[j]? ∧vs[j]? =some v
theorem Am.refl (m:Mm U):Am m m:=⟨Nat.le_refl _,fun _ _ f h=>⟨f,h⟩,Nat.le_refl _,fun i e e' h h'=>by
 rw[h] at h';injection h' with h';subst h'
 refine⟨fun _=>rfl,id,fun T cs vs T' cs' vs' h1 h2=> ?_⟩
 rw[h1] at h2;injection h2 with a b c;subst a;subst b;subst c
 exact⟨rfl,rfl,rfl,fun j v hv _=>⟨rfl,hv⟩⟩⟩
theorem Am.trans {m m' m'':Mm U}(h:Am m m')(h':Am m' m''):Am m m'':=by
 refine⟨Nat.le_trans h.k h'.k,fun a i f hf=> ?_,Nat.le_trans h.ol h'.ol,fun i e e'' he he''=> ?_⟩
 ·obtain⟨f',h1⟩:=h.ns a i f hf;exact h'.ns a i f' h1
 ·have hl:i<m'.o.length:=Nat.lt_of_lt_of_le (lt_of_some he) h.ol
  obtain⟨a1,a2,a3⟩:=h.o i e _ he (List.getElem?_eq_getElem hl)
  obtain⟨b1,b2,b3⟩:=h'.o i _ e'' (List.getElem?_eq_getElem hl) he''
  refine⟨fun hc=> ?_,fun hb=>a2 (b2 hb),fun T cs vs T'' cs'' vs'' h1 h2=> ?_⟩
  ·have e1:=b1 (Nat.le_trans hc h.k)
   rw[e1] at hc ⊢
   exact a1 hc
  ·have hb:(m'.o[i]).ob.aAX=true:=b2 (by rw[h2];rfl)
   cases hm:(m'.o[i]).ob with
   |box T' cs' vs'=>
    obtain⟨p1,p2,p3,p4⟩:=a3 T cs vs T' cs' vs' h1 hm
    obtain⟨q1,q2,q3,q4⟩:=b3 T' cs' vs' T'' cs'' vs'' hm h2
    refine⟨q1.trans p1,q2.trans p2,q3.trans p3,fun j v hv hvk=> ?_⟩
    obtain⟨r1,r2⟩:=q4 j v hv (Nat.le_trans hvk h.k)
    obtain⟨r3,r4⟩:=p4 j v r2 hvk
    exact⟨r1.trans r3,r4⟩
   |_=>rw[hm] at hb;cases hb
theorem Am.add (m:Mm U)(es:List (EO U)):Am m ⟨m.o++es,m.k,m.ns⟩:=by
 refine⟨Nat.le_refl _,fun _ _ f h=>⟨f,h⟩,by simp,fun i e e' he he'=> ?_⟩
 have h2:(m.o++es)[i]? =some e:=by rw[List.getElem?_append_left (lt_of_some he)];exact he
 simp only at he'
 rw[h2] at he'
 exact(Am.refl m).o i e e' he (he.trans he')
theorem Am.aCF (m:Mm U){ns':List (Nat×Bool)}(h:∀(a i:Nat) (f:Bool),m.ns[a]? =some (i,f)→∃f',ns'[a]? =some (i,f')):Am m ⟨m.o,m.k,ns'⟩:=⟨Nat.le_refl _,h,Nat.le_refl _,(Am.refl m).o⟩
theorem Am.turn (m:Mm U){i:Nat}{ids:List Nat}{ob:Ob U}{rv:Nat}(hb:ob.aAX=true→∀e,m.o[i]? =some e→e.ob.aAX=true∧∀T cs vs T' cs' vs',e.ob= .box T cs vs→ob= .box T' cs' vs'→T'=T∧cs'.length=cs.length∧vs'.length=vs.length∧∀(j v:Nat),vs'[j]? =some v→v≤m.k→cs'[j]? =cs[j]? ∧vs[j]? =some v):
  Am m ⟨Nn (Nat.succ m.k) ids (upd m.o i ⟨ob,rv,Nat.succ m.k⟩),Nat.succ m.k,m.ns⟩:=by
 refine⟨Nat.le_succ _,fun _ _ f h=>⟨f,h⟩,by rw[Dm,bK,List.length_set];exact Nat.le_refl _,fun j e e' he he'=> ?_⟩
 simp only at he'
 by_cases hj:j∈ids
 ·rw[K6 hj (by rw[bK,List.length_set];exact lt_of_some he)] at he'
  injection he' with he';subst he'
  exact⟨fun h=>(by simp only at h;omega),fun h=>(by cases h),fun _ _ _ _ _ _ _ h=>(by cases h)⟩
 ·rw[uP hj,bK] at he'
  by_cases hij:i=j
  ·subst hij
   rw[List.getElem?_set_self (lt_of_some he)] at he'
   injection he' with he';subst he'
   refine⟨fun h=>by simp only at h;omega,fun h=>(hb h e he).1,fun T cs vs T' cs' vs' h1 h2=> ?_⟩
   have hbx:ob.aAX=true:=by simp only at h2;rw[h2];rfl
   exact(hb hbx e he).2 T cs vs T' cs' vs' h1 h2
  ·rw[List.getElem?_set_ne hij] at he'
   exact(Am.refl m).o j e e' he he'
theorem Am.tree (m:Mm U){i:Nat}{ids:List Nat}{τ:Nat}{d:Bool}{l:List (U.El τ)}{rv:Nat}:Am m ⟨Nn (Nat.succ m.k) ids (upd m.o i ⟨.tree τ d l,rv,Nat.succ m.k⟩),Nat.succ m.k,m.ns⟩:=Am.turn m (fun h=>by cases h)
section
variable {s:St U} {a:Act} {w:World} {β:List Tr} {α:Type}
theorem aV4 (r:aZ Y.C E s a w β){o:Oper}{ta tb e:Nat}{x:Operand}{z:ByteArray}(ho:o.op= .convert ta tb x)(hs:P.underlying ta=some .string)(hd:P.underlying tb=some (.slice e))(he:P.underlying e=some (.int .u8))(hx:dP s x= .l (.str z)):SO P Y.C E a w o (.l (.sl Y.bt ((bY z).map Y.be))) s true:=fun K Q hK=>by
 obtain⟨h1,h2⟩:=(kP r hx:(Lf.str z:Lf U).mean Y.C w (E.X β) β s.m (a.eval x))
 have hE:Ext w (Lib.bytesWorld w e z):=⟨rfl,rfl,rfl,by rw[Lib.bytesWorld_size];omega,fun b hb=>Lib.bytesWorld_at_old w e z b hb⟩
 refine wpo (w':=Lib.bytesWorld w e z) (v:= .slice (some ⟨w.heap.size,0,none⟩) z.size (grownCap w z.size 0 e)) (.inl (by simp[execOp,ho,h1,Lib.run_convert_string_bytes (P:=P) w ta tb e z hs hd he])) (hK _ _ β (r.ext hE) (fun _=> ?_) (fun _=>hE))
 have hen:∀n,U.enc Y.bt (Y.be n)=[V.int .u8 n]:=fun n=>by
  rw[←Y.C.hcel Y.bt (Y.be n),Y.hb,Y.hbe];rfl
 have hk:U.K Y.bt=1:=by rw[←Y.C.hlen Y.bt (Y.be 0),Y.hb];rfl
 have el:((bY z).map Y.be).map (U.enc Y.bt)=z.data.toList.map yV:=by
  rw[List.map_map]
  have:(U.enc Y.bt∘Y.be)=fun n=>[V.int .u8 n]:=funext hen
  rw[this];simp[bY,yV]
 show Rd _ (E.X β) [] _ (.slice (U.K Y.bt) (((bY z).map Y.be).map (U.enc Y.bt)))
 rw[el,hk]
 have hc:=grownCap_le_maxLen w z.size 0 e h2
 have hg:=grownCap_ge w z.size 0 e
 cases hz:z.data.toList with
 |nil=>
  have:z.size=0:=by rw[xJ,hz];rfl
  rw[this] at hc ⊢
  exact .slice0 hc
 |cons b0 bs=>
  rw[←hz]
  have hlen:z.size=(z.data.toList.map yV).length:=by rw[List.length_map,xJ]
  have hget:∀(i j:Nat) (e':List V) (d':V),(z.data.toList.map yV)[i]? =some e'→e'[j]? =some d'→i<z.size∧j=0∧d'= .int .u8 ((z.data.toList.getD i 0).toNat:Int):=by
   intro i j e' d' h3 h4
   rw[List.getElem?_map] at h3
   obtain⟨b,hb,rfl⟩:=Option.map_eq_some_iff.1 h3
   have hi:i<z.data.toList.length:=(List.getElem?_eq_some_iff.1 hb).1
   cases j with
   |zero=>
    simp[yV] at h4
    refine⟨by rw[xJ];exact hi,rfl,?_⟩
    rw[←h4];simp[List.getD,hb]
   |succ j=>simp[yV] at h4
  refine .slice (val:=fun i j=> .int .u8 ((z.data.toList.getD i 0).toNat:Int)) hlen (by rw[←hlen,xJ,hz];simp) hg hc (fun hxx=>by have:=r.hp.aBT _ hxx;simp at this) (by rw[Lib.bytesWorld_size];simp)
   (fun e' he'=>by obtain⟨b,_,rfl⟩:=List.mem_map.1 he';rfl) (fun i j e' d' h3 h4=> ?_) (fun i j e' d' h3 h4=> ?_)
  ·obtain⟨h5,rfl,rfl⟩:=hget i j e' d' h3 h4
   rw[fP,Nat.zero_add,Nat.mul_one,Nat.add_zero]
   exact Lib.bytesWorld_cell w e z i h5
  ·obtain⟨h5,rfl,rfl⟩:=hget i j e' d' h3 h4
   have hb:=(z.data.toList.getD i 0).toNat_lt
   exact .int (Int.natCast_nonneg _) (show(((z.data.toList.getD i 0).toNat:Nat):Int)≤255 by omega)
theorem kT (G:Good P g Y TI FZ)(r:aZ Y.C E s a w β){o:Oper}{op:Op}(ho:o.op=op){K:Sv U→St U→Option α}{z:α}(h:Ol Y TI s op (fun x=>K x s)=some z):∃x s',K x s'=some z∧PO P Y.C E a w β o x s'∧s'.t=s.t∧s'.fr=s.fr∧Am s.m s'.m:=by
 obtain⟨x,h1,h2⟩:=Ta G.ti r h
 obtain⟨v,k1,k2⟩:=h2 o ho
 exact⟨x,s,h1,⟨v,k1,r,k2⟩,rfl,rfl,Am.refl _⟩
theorem Dt (G:Good P g Y TI FZ)(r:aZ Y.C E s a w β){o:Oper}{op:Op}(ho:o.op=op)(hc:uO FZ op=0){K:Sv U→St U→Option α}{z:α}(h:stp Y TI FZ s op K=some z):∃x s',K x s'=some z∧PO P Y.C E a w β o x s'∧s'.t=s.t∧s'.fr=s.fr∧Am s.m s'.m:=by
 unfold stp at h
 split at h
 ·cases hc
 ·cases hc
 ·cases hc
 ·cases hc
 ·cases hc
 ·cases hc
 ·rename_i f xa ats
  exfalso
  simp only[uO] at hc
  split at hc
  ·cases hw:(Sum.wt _)<;>rw[hw] at hc<;>cases hc
  ·cases hc
 ·rename_i t x y u
  split at h
  ·rename_i c n hx
   cases hn:decide (n=1) with
   |false=>rw[hn] at h;exact kT G r ho h
   |true=>
    rw[hn] at h
    simp only[cond_true] at h
    cases hm:nth s.m.ns c with
    |none=>rw[hm] at h;cases h
    |some p=>
     obtain⟨i,f⟩:=p
     rw[hm] at h
     cases f with
     |false=>exact kT G r ho h
     |true=>exact⟨_,_,h,aV0 r ho (of_decide_eq_true hn) hx (by rw[←aP];exact hm),rfl,rfl,Am.aCF _ (fun a' j f' h=>⟨f',by rw[List.getElem?_append_left (lt_of_some h)];exact h⟩)⟩
  ·exact kT G r ho h
 ·rename_i ta tb x
  cases hm:iP FZ (tb+1000000) with
  |some S=>simp only[uO,hm] at hc;cases hc
  |none=>simp only[hm] at h;exact kT G r ho h
 ·exact kT G r ho h
 ·rename_i t x b
  cases hm:iP FZ 2000000 with
  |none=>simp only[hm] at h;exact kT G r ho h
  |some S=>
   simp only[hm] at h
   split at h
   ·rename_i e ek eb k zz i q0 n h1 h2 h3
    split at h
    ·rename_i τ d l rv cv h4
     rw[aP] at h4
     cases hb:(Nat.beq rv q0&&Hw (U:=U) e ek τ) with
     |false=>rw[hb] at h;cases h
     |true=>
      rw[hb] at h;simp only[cond_true] at h
      simp only[Hw,Bool.and_eq_true] at hb
      obtain⟨hg,h⟩:=jA h
      obtain⟨v,k1,k2⟩:=aY8 G.ti r h1 h2 h3 h4 (Nat.eq_of_beq_eq_true hb.1) (Nat.eq_of_beq_eq_true hb.2.2) hg o ho
      exact⟨_,s,h,⟨v,k1,r,k2⟩,rfl,rfl,Am.refl _⟩
    ·cases h
   ·exact kT G r ho h
 ·exact kT G r ho h
theorem aZ.aBM {C:Cod U}(r:aZ C E s a w β){b T rv cv:Nat}{cs:List (Lf U)}{us:List Nat}(h:s.m.o[b]? =some ⟨.box T cs us,rv,cv⟩):cs.length=us.length:=by
 obtain⟨t,ht⟩:=r.hp.tr h
 exact(r.hp.ok b t _ ht h).1
theorem Ic {b T rv cv off n:Nat}{cs ps:List (Lf U)}{us:List Nat}{rv':Nat}(h4:s.m.o[b]? =some ⟨.box T cs us,rv,cv⟩)(h5:ps.length=n)(h6:off+n≤cs.length)(hl:cs.length=us.length):
  Am s.m (trn s b (.box T (Wq cs off ps) (Wq us off (ps.map fun _=>Nat.succ s.m.k))) rv').m:=by
 have e1:=Dk cs off ps (by rw[h5];exact h6)
 have e2:=Dk us off (ps.map fun _=>Nat.succ s.m.k) (by rw[List.length_map,h5,←hl];exact h6)
 refine Am.turn (ids:=[]) s.m fun _ e he=> ?_
 rw[h4] at he;injection he with he;subst he
 refine⟨rfl,fun T1 cs1 vs1 T' cs' vs' k1 k2=> ?_⟩
 injection k1 with a1 a2 a3
 injection k2 with b1 b2 b3
 subst a1;subst a2;subst a3;subst b1;subst b2;subst b3
 refine⟨rfl,by rw[e1];simp;omega,by rw[e2];simp;omega,fun j v hv hvk=> ?_⟩
 rw[e2,vE _ _ _ _ (by rw[List.length_map,h5,←hl];exact h6)] at hv
 rw[e1,vE _ _ _ _ (by rw[h5];exact h6)]
 rw[List.length_map,h5] at hv
 rw[h5]
 split at hv
 ·rename_i hj
  rw[List.getElem?_map] at hv
  cases hp:ps[j-off]? with
  |none=>simp[hp] at hv
  |some y=>simp only[hp,Option.map_some,Option.some.injEq] at hv;omega
 ·rename_i hj
  rw[if_neg hj];exact⟨rfl,hv⟩
theorem aRw {e i:Nat}{px:Lf U}{d:Bool}{l:List (U.El e)}{s1:St U}(h:apD s e px=some (i,d,l,s1)):s1.t=s.t∧s1.fr=s.fr∧Am s.m s1.m:=by
 cases px with
 |nil=>
  simp only[apD,Option.some.injEq,Prod.mk.injEq] at h
  obtain⟨_,_,_,rfl⟩:=h
  exact⟨rfl,rfl,Am.add _ _⟩
 |own j q=>
  simp only[apD] at h
  split at h
  ·rename_i τ d0 l0 rv cv ho
   cases hb:Nat.beq rv q with
   |false=>simp[hb] at h
   |true=>
    simp only[hb,cond_true] at h
    split at h
    ·simp only[Option.some.injEq,Prod.mk.injEq] at h
     obtain⟨_,_,_,rfl⟩:=h
     exact⟨rfl,rfl,Am.refl _⟩
    ·cases h
  ·cases h
 |_=>cases h
theorem SO.to {C:Cod U}{o:Oper}{x:Sv U}{s':St U}{b:Bool}(h:SO P C E a w o x s' true):SO P C E a w o x s' b:=by
 cases b with
 |true=>exact h
 |false=>exact h.soft
theorem aLd {xs:Array Operand}{l:List Operand}(h:xs.toList=l):xs=l.toArray:=by apply Array.ext';simpa using h
theorem aLe {xs:Array TypeId}{l:List TypeId}(h:xs.toList=l):xs=l.toArray:=by apply Array.ext';simpa using h
theorem aZh {T:Nat}{ks:List Kd}(z:qJ U (.st T::ks)):∃cs us,bS Y (.st T::ks) z=(true,cs)::us:=by
 cases ks with
 |nil=>exact⟨_,_,rfl⟩
 |cons k ks=>exact⟨_,_,rfl⟩
theorem RdL.cons_inv {w:World}{X:Nat→Prop}{vs:List Value}{u:V}{us:List V}(h:RdL w X vs (u::us)):∃v vs',vs=v::vs'∧Rd w X [] v u∧RdL w X vs' us:=by
 obtain⟨h1,h2⟩:=h
 cases vs with
 |nil=>simp at h1
 |cons v vs=>exact⟨v,vs,rfl,h2 0 v u rfl rfl,by simpa using h1,fun i v u p q=>h2 (i+1) v u (by simpa using p) (by simpa using q)⟩
theorem RdL.agg {w:World}{X:Nat→Prop}{vs:List Value}{us:List V}(h:Rd w X [] (.agg vs.toArray) (.agg us)):RdL w X vs us:=by
 obtain⟨vs',e,h2,h3⟩:=h.aBA
 injection e with e
 subst e
 exact⟨by simpa using h2,fun i v c p q=>h3 i v c (by simpa using p) q⟩
theorem aA9 (hY:LayOk Y)(r:aZ Y.C E s a w β){o:Oper}{f:FuncId}{xa:Array Operand}{ats:Array TypeId}{S:Sum U}(ho:o.op= .call {callee:= .value (.func f),args:=xa,argTypes:=ats})
  (hS:Er P g Y f S) (hmk:S.wt=true) (hfr:S.fr=true) {K:Sv U→St U→Option α} {z:α} (h:bCj Y s S (xa.toList.map (dP s)) K=some z):
  ∃x s' i b,K x s'=some z∧(∃ys,xa.toList.map (dP s)= .l (.box i 0)::ys)∧(∀v,(Sv.l (.box i 0):Sv U).mean Y.C w (E.X β) β s.m v→v= .pointer (some ⟨b,0,none⟩))∧
   (∀(K':Act→World→Prop) (Q:Exit→Act→World→Prop),(∀v w' β',aZ Y.C E s' a w' β'→(o.dst≠none→x.mean Y.C w' (E.X β') β' s'.m v)→Bel (·=b) w w'→K' (a.put o.dst v) w')→o.wp P a w K' Q)∧s'.t=s.t∧s'.fr=s.fr∧Am s.m s'.m:=by
 unfold bCj at h
 split at h
 ·rename_i i off ys hxs
  split at h
  ·rename_i T cs us rv cv hi
   rw[aP] at hi
   split at h
   ·rename_i z1 hz
    cases hb:(Nat.beq off 0&&(hdT T S.ar&&(Dj cs&&kE ys))) with
    |false=>rw[hb] at h;cases h
    |true=>
     rw[hb] at h
     simp only[cond_true] at h
     obtain⟨q,hq,hk⟩:=gZ h
     clear h
     split at hk
     ·rename_i ds rs hr
      cases hlen:Nat.beq (len ds) (len cs) with
      |false=>rw[hlen] at hk;cases hk
      |true=>
       rw[hlen] at hk
       simp only[cond_true] at hk
       have hlen:=Nat.eq_of_beq_eq_true hlen
       rw[bC,bC] at hlen
       simp only[Bool.and_eq_true] at hb
       obtain⟨hoff,hT,hfc,hfy⟩:=hb
       have hoff:=Nat.eq_of_beq_eq_true hoff
       subst hoff
       obtain⟨ar,rs0,fr,wt,mm⟩:=S
       obtain⟨ks,rfl⟩:∃ks,ar= .st T::ks:=by
        simp only[hdT] at hT
        cases ar with
        |nil=>cases hT
        |cons k ks=>cases k with
         |st T'=>exact⟨ks,by rw[Nat.eq_of_beq_eq_true hT]⟩
         |_=>cases hT
       obtain⟨cs0,us0,hcp⟩:=aZh (Y:=Y) z1
       have hsp:=(hS z1 q hq).2.2.2 hmk hfr T ks cs0 us0 ds rs rfl hcp hr
       have hbl:=r.aBM hi
       obtain⟨tr,ht⟩:=r.hp.tr hi
       obtain⟨_,b,ws,e1,e2,e3,e4⟩:=r.hp.ok i tr _ ht hi
       refine⟨_,_,i,b,hk,⟨ys,hxs⟩,fun v hv=> ?_,fun K' Q hK=> ?_,rfl,rfl,?_⟩
       ·obtain⟨_,e',t',g1,g2,g3⟩:=hv
        rw[hi] at g1;injection g1 with g1;subst g1
        rw[ht] at g2;injection g2 with g2;subst g2
        obtain⟨b',g4,rfl⟩:=g3 rfl
        rw[e1] at g4;injection g4 with g4;rw[g4]
       ·--the arguments
        have hm:∀(i:Nat) (v:Value) (x:Sv U),(xa.toList.map a.eval)[i]? =some v→(xa.toList.map (dP s))[i]? =some x→x.mean Y.C w (E.X β) β s.m v:=fun i v x p q=>by
         obtain⟨y,rfl,rfl⟩:=Af i v x p q;exact vH r
        obtain⟨v0,vs,hvs,hvl⟩:∃v0 vs,xa.toList.map a.eval=v0::vs∧vs.length=ys.length:=by
         have hl:(xa.toList.map a.eval).length=(Sv.l (.box i 0)::ys).length:=by rw[←hxs];simp
         match hh:xa.toList.map a.eval,hl with
         |v0::vs,hl=>exact⟨v0,vs,rfl,by simpa using hl⟩
        rw[hxs,hvs] at hm
        obtain⟨_,e',t',g1,g2,g3⟩:=hm 0 v0 _ rfl rfl
        rw[hi] at g1;injection g1 with g1;subst g1
        rw[ht] at g2;injection g2 with g2;subst g2
        obtain⟨b',g4,rfl⟩:=g3 rfl
        rw[e1] at g4;injection g4 with g4;subst g4
        have hall:tr.all=[b]:=by simp[Tr.all,e1,e2]
        have hfree:kE (.a cs::ys)=true:=by simp only[kE,aEe,Bool.and_eq_true];exact⟨hfc,hfy⟩
        have hrd:=Dq r (Z:=E.X β) (fun _ h=>h) _ hz (vs:= .agg ws.toArray::vs) (by simp[hvl]) (fun j v x p q=>by
         cases j with
         |zero=>simp at p q;subst p;subst q;exact⟨ws,rfl,e4⟩
         |succ j=>exact hm (j+1) v x (by simpa using p) (by simpa using q)) (.inl hfree)
        rw[hcp,List.map_cons] at hrd
        obtain⟨_,_,he,hr1,hr2⟩:=RdL.cons_inv hrd
        injection he with he1 he2
        subst he1;subst he2
        have hr1:=RdL.agg (show Rd w (E.X β) [] (.agg ws.toArray) (.agg (cs0.map Lf.toV)) from hr1)
        have hXb:E.X β b:=bF0 ht (by rw[hall];simp)
        have hG:∀w',Bel (·=b) w w'→g.G w':=fun w' hb'=>E.hg w' ⟨hb'.os.trans r.hp.ext.os,hb'.tape.trans r.hp.ext.tape,hb'.output.trans r.hp.ext.output,Nat.le_trans r.hp.ext.size hb'.size,fun x hlt hy=>by
         rw[hb'.block x (Nat.lt_of_lt_of_le hlt r.hp.ext.size) (fun hB=> ?_)]
         ·exact r.hp.ext.block x hlt hy
         ·subst hB
          rcases(r.hp.new i tr x ht (by rw[hall];simp)).1 with h|h
          ·omega
          ·exact hy h⟩
        have hcall:=hsp.2 w (E.X β) b ws vs hG (fun x hx=>r.hp.aBT x hx) hXb e3 hr1 hr2
        have hargs:(xa.toList.map a.eval).toArray=(.pointer (some ⟨b,0,none⟩)::vs).toArray:=by rw[hvs]
        refine wpc (vL ho hsp.1) (R':=fun u w'=>∃ws',Bel (·=b) w w'∧w'.heap[b]? =some (.cells ws'.toArray T (0,0))∧RdL w' (E.X β) ws' (ds.map Lf.toV)∧Rd w' (E.X β) [] u (nU (rs.map Ac))) ?_ ?_
        ·rw[hargs]
         refine hcall.mono ?_
         rintro e w' ⟨v,ws',rfl,h4⟩
         exact⟨v,rfl,ws',h4⟩
        ·rintro u w' ⟨ws',h4,h5,h6,h7⟩
         have hlen':=r.hp.len
         have hil:i<s.m.o.length:=lt_of_some hi
         have hcase:∀j,(j=i∨s.m.o.length≤j)→∀t,β[j]? =some t→j=i∧t=tr:=fun j hj t ht'=>by
          rcases hj with rfl|hj
          ·rw[ht] at ht';injection ht' with ht';exact⟨rfl,ht'.symm⟩
          ·have:=lt_of_some ht';omega
         have hcaseo:∀j,(j=i∨s.m.o.length≤j)→∀e,(s.m.o.set i ⟨.box T ds (us.map fun _=>Nat.succ s.m.k),rv,Nat.succ s.m.k⟩)[j]? =some e→e=⟨.box T ds (us.map fun _=>Nat.succ s.m.k),rv,Nat.succ s.m.k⟩:=fun j hj e he=>by
          rcases hj with rfl|hj
          ·rw[List.getElem?_set_self hil] at he;injection he with he;exact he.symm
          ·have:=lt_of_some he;simp at this;omega
         obtain⟨q1,q2⟩:=r.hp.step (s':=⟨s.m.o.set i ⟨.box T ds (us.map fun _=>Nat.succ s.m.k),rv,Nat.succ s.m.k⟩,Nat.succ s.m.k,s.m.ns⟩) (β':=β) (w':=w') (fun j=>j=i) (fun x=>x=b) (Nat.le_succ _) (fun _ _ f h=>⟨f,h⟩) r.hp.cnt (by simp[hlen']) (by simp) h4.size h4.os h4.tape h4.output
          (fun x hx hn=>h4.block x hx hn)
          (fun x hx=>⟨i,tr,rfl,ht,by rw[hall,hx];simp⟩)
          (fun j hj _=>⟨by rw[List.getElem?_set_ne (Ne.symm hj)],rfl⟩)
          (fun j t x hj ht' hx=>by
           obtain⟨rfl,rfl⟩:=hcase j hj t ht'
           exact⟨Nat.lt_of_lt_of_le (r.hp.new _ _ x ht hx).2 h4.size, .inr ⟨_,_,rfl,ht,hx⟩⟩)
          (fun j j' t t' x hj hj' hjj ht1 ht2 _=>by
           have:=(hcase j hj t ht1).1;have:=(hcase j' hj' t' ht2).1;omega)
          (fun j t hj ht'=>by obtain⟨rfl,rfl⟩:=hcase j hj t ht';exact r.hp.nd _ _ ht)
          (fun j e hj he=>by
           have:=hcaseo j hj e he;subst this
           refine⟨?_,Nat.le_refl _⟩
           have:=(r.hp.vers _ _ hi).1
           simp only at this ⊢;omega)
          (fun j e e' t t' hj h1 h2 h3 h4=>by
           subst hj
           have:=hcaseo _ (.inl rfl) e' h2;subst this
           rw[hi] at h1;injection h1 with h1;subst h1
           rw[h3] at h4;injection h4 with h4;subst h4
           exact⟨fun _=>⟨rfl,rfl⟩,Nat.lt_succ_self _,fun _=>⟨rfl,rfl⟩⟩)
          (fun hev j t e hj ht' he=>by
           obtain⟨rfl,rfl⟩:=hcase j hj t ht'
           have:=hcaseo _ (.inl rfl) e he;subst this
           refine⟨by rw[List.length_map,hlen,hbl],b,ws',e1,e2,h5,by have:=h6.1;simpa using this,fun l v c p q'=> ?_⟩
           have hcd:c.aAZ=true:=(Ae rs0 q (true,ds) (by rw[hr];simp)).1 c (List.mem_of_getElem? q')
           exact Ad hcd (h6.2 l v _ p (by rw[List.getElem?_map,q'];rfl)) (.inl fun _ h=>h))
         have r':=r.go q1 q2 (fr:=s.fr)
         have e5:(trn s i (.box T ds (us.map fun _=>Nat.succ s.m.k)) rv)=⟨s.t,⟨s.m.o.set i ⟨.box T ds (us.map fun _=>Nat.succ s.m.k),rv,Nat.succ s.m.k⟩,Nat.succ s.m.k,s.m.ns⟩,s.fr⟩:=by simp only[trn,bK]
         rw[e5] at hK
         exact hK u w' β r' (fun _=>aPe (fun x hx=>Ae rs0 q x (by rw[hr];simp[hx])) h7 (.inl fun _ h=>h)) h4
       ·have:=Am.turn s.m (i:=i) (ids:=[]) (ob:= .box T ds (us.map fun _=>Nat.succ s.m.k)) (rv:=rv) (fun _ e he=>by
         rw[hi] at he;injection he with he;subst he
         refine⟨rfl,fun T0 cs0 vs0 T' cs' vs' h1 h2=> ?_⟩
         injection h1 with a1 a2 a3;injection h2 with b1 b2 b3
         subst a1;subst a2;subst a3;subst b1;subst b2;subst b3
         refine⟨rfl,hlen,by simp,fun j v hv hvk=> ?_⟩
         rw[List.getElem?_map] at hv
         cases hu:us[j]? with
         |none=>rw[hu] at hv;cases hv
         |some x=>rw[hu] at hv;simp at hv;omega)
        exact this
     ·cases hk
   ·cases h
  ·cases h
 ·cases h
theorem aI7 (hY:LayOk Y)(r:aZ Y.C E s a w β){o:Oper}{f:FuncId}{xa:Array Operand}{ats:Array TypeId}{S:Sum U}(ho:o.op= .call {callee:= .value (.func f),args:=xa,argTypes:=ats})
  (hS:Er P g Y f S) (hmk:S.wt=true) (hfr:S.fr=true) {K:Sv U→St U→Option α} {z:α} (h:bCj Y s S (xa.toList.map (dP s)) K=some z):
  ∃x s',K x s'=some z∧SO P Y.C E a w o x s' false∧s'.t=s.t∧s'.fr=s.fr∧Am s.m s'.m:=by
 obtain⟨x,s',i,b,h1,_,_,h4,h5⟩:=aA9 hY r ho hS hmk hfr h
 exact⟨x,s',h1,fun K' Q hK=>h4 K' Q fun v w' β' k1 k2 _=>hK v w' β' k1 k2 (fun h=>by cases h),h5⟩
theorem aLf (G:Good P g Y TI FZ)(r:aZ Y.C E s a w β){o:Oper}{op:Op}(ho:o.op=op){K:Sv U→St U→Option α}{z:α}(h:stp Y TI FZ s op K=some z):∃x s',K x s'=some z∧SO P Y.C E a w o x s' (Nat.ble (uO FZ op) 1)∧s'.t=s.t∧s'.fr=s.fr∧Am s.m s'.m:=by
 by_cases hc:uO FZ op=0
 ·obtain⟨x,s',h1,h2,h3⟩:=Dt G r ho hc h
  rw[hc];exact⟨x,s',h1,SO.aCU h2,h3⟩
 unfold stp at h
 split at h
 ·rename_i T x
  cases hp:parts (rR s x) with
  |none=>rw[hp] at h;cases h
  |some cs=>
   rw[hp] at h
   cases ha:zM cs with
   |false=>simp[ha] at h
   |true=>
    simp only[ha,cond_true] at h
    exact⟨_,_,h,aVv r ho hp ha,rfl,rfl,Am.add _ _⟩
 ·rename_i T
  cases hf:iP TI T with
  |none=>rw[hf] at h;cases h
  |some i=>rw[hf] at h;exact⟨_,_,h,aO5 G.ti r ho hf,rfl,rfl,Am.add _ _⟩
 ·rename_i t x y
  split at h
  ·rename_i i b off ps h1 h2 h3
   split at h
   ·rename_i T cs us rv cv h4
    rw[aP] at h4
    cases hb:(Nat.beq (len ps) i.k&&(Nat.ble (off+i.k) (len cs)&&zM ps)) with
    |false=>rw[hb] at h;cases h
    |true=>
     rw[hb] at h
     simp only[cond_true] at h
     simp only[Bool.and_eq_true,bC] at hb
     exact⟨_,_,h,aEw G.ti r ho h1 h2 h3 h4 (Nat.eq_of_beq_eq_true hb.1) (Nat.le_of_ble_eq_true hb.2.1) hb.2.2,rfl,rfl,Ic h4 (Nat.eq_of_beq_eq_true hb.1) (Nat.le_of_ble_eq_true hb.2.1) (r.aBM h4)⟩
   ·cases h
  ·rename_i i b c τ q z' off ps h1 h2 h3
   cases hv:okv s.m b c with
   |false=>rw[hv] at h;cases h
   |true=>
    rw[hv] at h
    simp only[cond_true] at h
    split at h
    ·rename_i τ' d l rv cv h4
     rw[aP] at h4
     cases hs:I7 τ τ' l with
     |none=>rw[hs] at h;cases h
     |some l1=>
      rw[hs] at h
      obtain⟨rfl,hh⟩:=kR hs
      obtain rfl:=eq_of_heq hh
      simp only at h
      split at h
      ·rename_i ds ids d' h8
       rw[aKy,K4] at h8
       cases hb:(Nat.beq (len ps) i.k&&(Nat.ble (off+i.k) (U.K τ')&&(zM ps&&dist (b::ids)))) with
       |false=>rw[hb] at h;cases h
       |true=>
        rw[hb] at h
        simp only[cond_true] at h
        simp only[Bool.and_eq_true,bC] at hb
        split at h
        ·rename_i z2 h9
         obtain⟨e',k1,k2⟩:=Aa hv
         rw[h4] at k1;injection k1 with k1;subst k1
         exact⟨_,_,h,aB4 G.ti G.lay r ho h1 h2 h3 h4 k2 (Nat.eq_of_beq_eq_true hb.1) (Nat.le_of_ble_eq_true hb.2.1) hb.2.2.1 h8 (vK.1 hb.2.2.2) h9,rfl,rfl,Am.tree _⟩
        ·cases h
      ·cases h
    ·cases h
  ·rename_i i b c τ q z j τ' l q' z' off ps h1 h2 h3
   cases hv:okv s.m b c with
   |false=>rw[hv] at h;cases h
   |true=>
    rw[hv] at h
    simp only[cond_true] at h
    split at h
    ·rename_i τ1 d L rv cv h4
     rw[aP] at h4
     cases hs:I7 τ τ1 L with
     |none=>rw[hs] at h;cases h
     |some l1=>
      rw[hs] at h
      obtain⟨rfl,hh⟩:=kR hs
      obtain rfl:=eq_of_heq hh
      simp only at h
      split at h
      ·rename_i ds ids d' h8
       rw[aKy,K4] at h8
       cases hb:(Nat.beq (len ps) i.k&&(Nat.ble (off+i.k) (U.K τ')&&(zM ps&&dist (b::ids)))) with
       |false=>rw[hb] at h;cases h
       |true=>
        rw[hb] at h
        simp only[cond_true] at h
        simp only[Bool.and_eq_true,bC] at hb
        split at h
        ·rename_i z2 h9
         split at h
         ·rename_i z3 h10
          obtain⟨e',k1,k2⟩:=Aa hv
          rw[h4] at k1;injection k1 with k1;subst k1
          exact⟨_,_,h,aI5 G.ti G.lay r ho h1 h2 h3 h4 k2 (Nat.eq_of_beq_eq_true hb.1) (Nat.le_of_ble_eq_true hb.2.1) hb.2.2.1 h8 (vK.1 hb.2.2.2) h9 h10,rfl,rfl,Am.tree _⟩
         ·cases h
        ·cases h
      ·cases h
    ·cases h
  ·cases h
 ·rename_i t n ps
  split at h
  ·rename_i e ek eb k zz h1
   cases hb:(Nat.beq (len ps.toList) n&&(Nat.ble (n*ek) 16777216&&Hw (U:=U) e ek e)) with
   |false=>rw[hb] at h;cases h
   |true=>
    rw[hb] at h
    simp only[cond_true] at h
    simp only[Bool.and_eq_true,bC] at hb
    split at h
    ·rename_i l ids d h5
     cases hd:dist (len s.m.o::ids) with
     |false=>rw[hd] at h;cases h
     |true=>
      rw[hd] at h
      simp only[cond_true] at h
      have hJ:=vK.1 hd
      rw[bC] at hJ
      exact⟨_,_,h,aO8 G.ti G.lay r ho h1 (Nat.eq_of_beq_eq_true hb.1) (Nat.le_of_ble_eq_true hb.2.1) hb.2.2 h5 hJ,rfl,rfl,(Am.add s.m [⟨.dead,s.m.k,s.m.k⟩]).trans (Am.tree _)⟩
    ·cases h
  ·cases h
 ·rename_i t x y
  split at h
  ·rename_i e ek eb k zz h1
   split at h
   ·rename_i i n h2 h3
    cases hb:(aEg x y&&(Nat.ble eb 2048&&Hw (U:=U) e ek e)) with
    |false=>rw[hb] at h;cases h
    |true=>
     rw[hb] at h
     simp only[cond_true] at h
     simp only[Bool.and_eq_true] at hb
     split at h
     ·rename_i ds h7
      split at h
      ·rename_i z2 h8
       obtain⟨hg,h⟩:=jA h
       exact⟨_,_,h,aRs G.ti G.lay r ho h1 h2 h3 hb.1 hb.2.1 hb.2.2 h7 h8 hg,rfl,rfl,Am.add _ _⟩
      ·cases h
     ·cases h
   ·cases h
  ·cases h
 ·rename_i xa ats
  split at h
  ·rename_i x y t t2 hxa hats
   split at h
   ·rename_i e ek eb k zz h1
    cases hb:(Nat.beq t t2&&(Nat.ble eb 2048&&Hw (U:=U) e ek e)) with
    |false=>rw[hb] at h;cases h
    |true=>
     rw[hb] at h
     simp only[cond_true] at h
     simp only[Bool.and_eq_true] at hb
     obtain rfl:t=t2:=Nat.eq_of_beq_eq_true hb.1
     split at h
     ·rename_i i c τ n l py h4 h5
      cases hv:okv s.m i c with
      |false=>rw[hv] at h;cases h
      |true=>
       rw[hv] at h
       simp only[cond_true] at h
       cases hs:I7 e τ l with
       |none=>rw[hs] at h;cases h
       |some l1=>
        rw[hs] at h
        obtain⟨rfl,hh⟩:=kR hs
        obtain rfl:=eq_of_heq hh
        simp only at h
        split at h
        ·rename_i l' d' h7
         cases hne:Nat.ble 1 (len l') with
         |false=>rw[hne] at h;cases h
         |true=>
          rw[hne] at h
          obtain⟨hg,h⟩:=jA h
          rw[aLd hxa,aLe hats] at ho ⊢
          exact⟨_,_,h,aB5 G.ti G.lay r ho h1 hb.2.1 hb.2.2 h4 h5 hv h7 (by rw[←bC];exact Nat.le_of_ble_eq_true hne) hg,rfl,rfl,Am.turn (ids:=[]) s.m (fun h=>by cases h)⟩
        ·cases h
     ·rename_i px py _ h4 h5
      split at h
      ·rename_i i d l s1 h6
       split at h
       ·rename_i l' ids d' h7
        obtain⟨hg,h⟩:=jA h
        rw[aLd hxa,aLe hats] at ho ⊢
        exact⟨_,_,h,aNg G.ti G.lay r ho h1 hb.2.1 hb.2.2 h4 h5 h6 h7 hg,(aRw h6).1,(aRw h6).2.1,(aRw h6).2.2.trans (Am.tree _)⟩
       ·cases h
      ·cases h
     ·cases h
   ·cases h
  ·cases h
 ·rename_i f xa ats
  split at h
  ·rename_i S hS
   have hok:=G.fs f S (aDk hS)
   cases hpt:(S.wt&&S.fr) with
   |true=>
    simp only[hpt,cond_true] at h
    rw[Bool.and_eq_true] at hpt
    have hcl:Nat.ble (uO FZ (.call {callee:= .value (.func f),args:=xa,argTypes:=ats})) 1=false:=by simp only[uO,hS,hpt.1,cond_true];rfl
    rw[hcl]
    exact aI7 G.lay r ho hok hpt.1 hpt.2 h
   |false=>
   simp only[hpt,cond_false] at h
   split at h
   ·rename_i z1 hz
    cases hmk:S.wt with
    |true=>
     rw[hmk] at h;cases h
    |false=>
     rw[hmk] at h
     simp only[cond_false] at h
     cases hfr:S.fr with
     |true=>
      rw[hfr] at h
      simp only[cond_true] at h
      obtain⟨q,hq,h⟩:=gZ h
      exact⟨_,_,h,(aB7 r ho hok hz hmk hfr hq).to,rfl,rfl,Am.add _ _⟩
     |false=>
      rw[hfr] at h
      simp only[cond_false] at h
      cases hff:(vG Y S.rs||kE (xa.toList.map (dP s))) with
      |false=>
       rw[hff] at h
       simp only[cond_false] at h
       cases hi:aOp s.m (xa.toList.map (dP s)) with
       |none=>rw[hi] at h;cases h
       |some p=>
        obtain⟨i,c⟩:=p
        rw[hi] at h
        simp only at h
        obtain⟨q,hq,h⟩:=gZ h
        exact⟨_,_,h,(aI6 r ho hok hz hmk hfr hi hq).to,rfl,rfl,Am.refl _⟩
      |true=>
       rw[hff] at h
       simp only[cond_true] at h
       obtain⟨q,hq,h⟩:=gZ h
       rw[Bool.or_eq_true] at hff
       exact⟨_,_,h,(Es G.lay r ho hok hz hmk hfr hff hq).to,rfl,rfl,Am.refl _⟩
   ·cases h
  ·cases h
 ·exact absurd rfl hc
 ·rename_i ta tb x
  have mk:∀{K:Sv U→St U→Option α} {z:α},Ol Y TI s (.convert ta tb x) (fun x=>K x s)=some z→∃y s',K y s'=some z∧SO P Y.C E a w o y s' (Nat.ble (uO FZ (.convert ta tb x)) 1)∧s'.t=s.t∧s'.fr=s.fr∧Am s.m s'.m:=fun h=>by
   obtain⟨y,k1,k2⟩:=Ta G.ti r h
   exact⟨y,s,k1,(SO.aCN r (o:=o) (by rw[ho];exact k2)).to,rfl,rfl,Am.refl _⟩
  cases hm:iP FZ (tb+1000000) with
  |none=>simp only[hm] at h;exact mk h
  |some S=>
   simp only[hm] at h
   split at h
   ·rename_i k1 z1 e ek eb k2 z2 k3 z3 z h1 h2 h3 h4
    cases hb:Nat.beq e Y.bt with
    |false=>rw[hb] at h;cases h
    |true=>
     rw[hb] at h
     have he:=Nat.eq_of_beq_eq_true hb
     subst he
     exact⟨_,_,h,(aV4 r ho (Dl (bH G.ti h1) rfl).1 (eX (zZ (bH G.ti h2) rfl).1).1 (Hz (bH G.ti h3) rfl).1 h4).to,rfl,rfl,Am.refl _⟩
   ·exact mk h
 ·exact absurd rfl hc
 ·exact absurd rfl hc
 ·rename_i h1 h2 h3 h4 h5 h6 h7 h8 h9
  obtain⟨x,k1,k2⟩:=Ta G.ti r h
  refine⟨x,s,k1,?_,rfl,rfl,Am.refl _⟩
  exact(by
   have hle:Nat.ble (uO FZ op) 1=true∨Nat.ble (uO FZ op) 1=false:=by cases Nat.ble (uO FZ op) 1<;>simp
   have:=SO.aCN r (o:=o) (by rw[ho];exact k2)
   rcases hle with e|e
   ·rw[e];exact this
   ·rw[e];exact this.soft)
end
end Go.EV

namespace Go.EV
open Go.RowKit Go.VK
variable {U:Uni} {Y:Lay U} {TI:List (Nat×TInfo)} {FZ:List (Nat×Sum U)} {P:Program} {g:GI} {E:Env U g}
structure Ag (D:Nat→Prop) (s s':St U):Prop where
 t:∀n,¬D n→s'.t[n]? =s.t[n]?
 tl:s'.t.length=s.t.length
 fr:s'.fr=s.fr
 m:Am s.m s'.m
theorem Ag.refl {D:Nat→Prop}(s:St U):Ag D s s:=⟨fun _ _=>rfl,rfl,rfl,Am.refl _⟩
theorem Ag.trans {D:Nat→Prop}{s s' s'':St U}(h:Ag D s s')(h':Ag D s' s''):Ag D s s'':=⟨fun n hn=>(h'.t n hn).trans (h.t n hn),h'.tl.trans h.tl,h'.fr.trans h.fr,h.m.trans h'.m⟩
theorem Ag.mono {D D':Nat→Prop}{s s':St U}(h:Ag D s s')(hd:∀n,D n→D' n):Ag D' s s':=⟨fun n hn=>h.t n (fun hh=>hn (hd n hh)),h.tl,h.fr,h.m⟩
theorem Ag.put {D:Nat→Prop}{s s':St U}(h:Ag D s s'){d:Option Nat}{x:Sv U}(hd:∀n,d=some n→D n):Ag D s (put s' d x):=by
 cases d with
 |none=>exact h
 |some n=>
  refine⟨fun k hk=> ?_,?_,h.fr,h.m⟩
  ·simp only[EV.put,bK]
   rw[List.getElem?_set_ne (fun e=>hk (by rw[←e];exact hd n rfl))]
   exact h.t k hk
  ·simp only[EV.put,bK,List.length_set];exact h.tl
section
variable {s:St U} {a:Act} {w:World} {β:List Tr} {α:Type} {C:Cod U}
theorem aZ.set (r:aZ C E s a w β){n:Nat}{x:Sv U}(h:x.mean C w (E.X β) β s.m (a.tmps.getD n undef)):aZ C E (EV.put s (some n) x) a w β:=by
 refine⟨r.hp,r.defers,by simp only[EV.put,bK,List.length_set];exact r.tsz,fun m y hm=> ?_⟩
 simp only[EV.put,bK] at hm ⊢
 by_cases he:n=m
 ·subst he
  have hl:n<s.t.length:=by have:=lt_of_some hm;simpa using this
  rw[List.getElem?_set_self hl] at hm
  injection hm with hm;subst hm;exact h
 ·rw[List.getElem?_set_ne he] at hm;exact r.tm m y hm
theorem aLg (r:aZ C E s a w β){n:Nat}{T F:St U→Option α}{z:α}(h:tst n s T F=some z):
  ∃b s',a.tmps.getD n undef= .bool b∧n<s.t.length∧aZ C E s' a w β∧(b=true→T s'=some z)∧(b=false→F s'=some z)∧Ag (fun k=>k=n) s s':=by
 unfold tst at h
 rw[aP] at h
 split at h
 ·rename_i b hx
  have hm:a.tmps.getD n undef= .bool b:=r.tm n _ hx
  cases b with
  |true=>exact⟨true,_,hm,lt_of_some hx,r.set (x:= .l (.bool true)) hm,fun _=>h,fun h=>(by cases h),(Ag.refl s).put (fun k e=>by injection e with e;exact e.symm)⟩
  |false=>exact⟨false,_,hm,lt_of_some hx,r.set (x:= .l (.bool false)) hm,fun h=>(by cases h),fun _=>h,(Ag.refl s).put (fun k e=>by injection e with e;exact e.symm)⟩
 ·rename_i c m hx
  obtain⟨i,f,k1,k2,k3⟩:=r.tm n _ hx
  rw[aP,k1] at h
  simp only at h
  cases hb:decide ((i:Int)<m) with
  |true=>
   rw[hb] at h k2
   have hlt:=of_decide_eq_true hb
   have hns:∀(a' j:Nat) (f':Bool),s.m.ns[a']? =some (j,f')→∃f'',(upd s.m.ns c (i,true))[a']? =some (j,f''):=fun a' j f' h'=>by
    rw[bK]
    by_cases he:c=a'
    ·subst he
     rw[k1] at h';injection h' with h';injection h' with h' _;subst h'
     exact⟨true,List.getElem?_set_self (lt_of_some k1)⟩
    ·exact⟨f',by rw[List.getElem?_set_ne he];exact h'⟩
   have r1:aZ C E ⟨s.t,⟨s.m.o,s.m.k,upd s.m.ns c (i,true)⟩,s.fr⟩ a w β:=r.aCF hns (fun a' j h'=>by
    rw[bK] at h'
    by_cases he:c=a'
    ·subst he
     rw[List.getElem?_set_self (lt_of_some k1)] at h'
     have hij:i=j:=congrArg Prod.fst (Option.some.inj h')
     rw[←hij]
     exact Int.le_trans (Int.add_one_le_iff.2 hlt) k3
    ·rw[List.getElem?_set_ne he] at h';exact r.hp.cnt a' j h')
   have hag:Ag (fun k=>k=n) s (⟨s.t,⟨s.m.o,s.m.k,upd s.m.ns c (i,true)⟩,s.fr⟩:St U):=⟨fun _ _=>rfl,rfl,rfl,Am.aCF _ hns⟩
   exact⟨true,_,k2,lt_of_some hx,r1.set (x:= .l (.bool true)) k2,fun _=>h,fun h=>(by cases h),hag.put (fun k e=>by injection e with e;exact e.symm)⟩
  |false=>
   rw[hb] at h k2
   exact⟨false,_,k2,lt_of_some hx,r.set (x:= .l (.bool false)) k2,fun h=>(by cases h),fun _=>h,(Ag.refl s).put (fun k e=>by injection e with e;exact e.symm)⟩
 ·cases h
def Wr (al:List Oper)(o:Oper)(n:Nat):Prop:=o.dst=some n∨∃j b oj,o.guard=some (j,b)∧al[j]? =some oj∧oj.dst=some n
theorem aRx {al:List Oper}{j n:Nat}{oj:Oper}{b:Bool}(hj:al[j]? =some oj)(hd:oj.dst=some n)(hn:n<a.tmps.size)(hv:a.tmps.getD n undef= .bool b):yielded al.toArray a.tmps j=some b:=by
 have h2:a.tmps[n]? =some (.bool b):=by
  rw[Array.getD_eq_getD_getElem?,Array.getElem?_eq_getElem hn] at hv
  rw[Array.getElem?_eq_getElem hn];exact congrArg some hv
 simp[yielded,hj,hd,h2]
theorem aV5 {al:List Oper}{j n:Nat}{oj:Oper}(hj:al[j]? =some oj)(hd:oj.dst=some n)(hn:n<a.tmps.size)(hv:a.tmps.getD n undef=undef):yielded al.toArray a.tmps j=none:=by
 have h2:a.tmps[n]? =some undef:=by
  rw[Array.getD_eq_getD_getElem?,Array.getElem?_eq_getElem hn] at hv
  rw[Array.getElem?_eq_getElem hn];exact congrArg some hv
 simp[yielded,hj,hd,h2,undef]
theorem Du (r:aZ C E s a w β){al:List Oper}{o:Oper}{run:St U→Option α}{K:St U→Option α}{z:α}(h:aI2 al o run s K=some z):
  ∃s',aZ C E s' a w β∧Ag (Wr al o) s s'∧((Region.wanted o (yielded al.toArray a.tmps)=true∧run s'=some z)∨(Region.wanted o (yielded al.toArray a.tmps)=false∧skp o s' K=some z)):=by
 unfold aI2 at h
 split at h
 ·rename_i hg
  exact⟨s,r,Ag.refl s, .inl ⟨by simp[Region.wanted,hg],h⟩⟩
 ·rename_i j want hg
  rw[aP] at h
  split at h
  ·rename_i oj hj
   split at h
   ·rename_i n hd
    cases hu:bEs (nth s.t n) with
    |true=>
     rw[hu] at h
     rw[aP] at hu
     have hx:s.t[n]? =some (.l .und):=by
      cases hq:s.t[n]? with
      |none=>rw[hq] at hu;cases hu
      |some x=>
       rw[hq] at hu
       cases x with
       |l y=>cases y<;>first|rfl|cases hu
       |_=>cases hu
     have hv:a.tmps.getD n undef=undef:=r.tm n _ hx
     have hy:=aV5 (a:=a) hj hd (by rw[r.tsz];exact lt_of_some hx) hv
     exact⟨s,r,Ag.refl s, .inr ⟨by simp[Region.wanted,hg,hy],h⟩⟩
    |false=>
     rw[hu] at h
     simp only[cond_false] at h
     obtain⟨b,s',k1,k2,k3,k4,k5,k6⟩:=aLg r h
     have hy:=aRx (a:=a) hj hd (by rw[r.tsz];exact k2) k1
     refine⟨s',k3,k6.mono (fun k e=>by subst e;exact .inr ⟨j,want,oj,hg,hj,hd⟩),?_⟩
     cases b with
     |true=>
      have h4:=k4 rfl
      cases want with
      |true=>exact .inl ⟨by simp[Region.wanted,hg,hy],h4⟩
      |false=>exact .inr ⟨by simp[Region.wanted,hg,hy],h4⟩
     |false=>
      have h5:=k5 rfl
      cases want with
      |true=>exact .inr ⟨by simp[Region.wanted,hg,hy],h5⟩
      |false=>exact .inl ⟨by simp[Region.wanted,hg,hy],h5⟩
   ·cases h
  ·cases h
theorem K9 (r:aZ C E s a w β){al:List Oper}{o:Oper}{K:St U→Option α}{z:α}(h:grd Y TI FZ al o s K=some z):
  ∃s',aZ C E s' a w β∧Ag (Wr al o) s s'∧((Region.wanted o (yielded al.toArray a.tmps)=true∧one Y TI FZ o s' K=some z)∨(Region.wanted o (yielded al.toArray a.tmps)=false∧skp o s' K=some z)):=Du r h
theorem aNj (G:Good P g Y TI FZ)(r:aZ Y.C E s a w β){al:List Oper}{o:Oper}{K:St U→Option α}{z:α}(h:grd Y TI FZ al o s K=some z){K':Act→World→Prop}{Q:Exit→Act→World→Prop}
  (hk:∀s' a' w' β',Ag (Wr al o) s s'→K s'=some z→aZ Y.C E s' a' w' β'→(Nat.ble (uO FZ o.op) 1=true→Ext w w')→K' a' w'):if Region.wanted o (yielded al.toArray a.tmps)=true then o.wp P a w K' Q else K' (a.put o.dst undef) w:=by
 obtain⟨s1,r1,h1,h2⟩:=K9 r h
 rcases h2 with⟨hw,h2⟩|⟨hw,h2⟩
 ·rw[if_pos hw]
  unfold one at h2
  obtain⟨x,s2,k1,k2,k3,k4,k5⟩:=aLf G r1 rfl h2
  exact k2 K' Q fun v w' β' q1 q2 q3=>hk _ _ w' β' (Ag.put ⟨fun n hn=>by rw[k3];exact h1.t n hn,by rw[k3];exact h1.tl,by rw[k4];exact h1.fr,h1.m.trans k5⟩ (fun n e=> .inl e)) k1 (q1.put q2) q3
 ·rw[if_neg (by rw[hw];simp)]
  exact hk _ _ w β (h1.put (fun n e=> .inl e)) h2 (r1.put (x:= .l .und) (v:=undef) (fun _=>rfl)) (fun _=>Ext.refl w)
theorem bCx (G:Good P g Y TI FZ)(r:aZ Y.C E s a w β){al:List Oper}{o:Oper}(hc:uO FZ o.op=0){K:St U→Option α}{z:α}(h:grd Y TI FZ al o s K=some z):
  ∃v s',((Region.wanted o (yielded al.toArray a.tmps)=true∧∀w',Ext w w'→(execOp a.eval o).run P w'= .ok (.value v) w')∨(Region.wanted o (yielded al.toArray a.tmps)=false∧v=undef))∧aZ Y.C E s' (a.put o.dst v) w β∧K s'=some z∧Ag (Wr al o) s s':=by
 obtain⟨s1,r1,h1,h2⟩:=K9 r h
 rcases h2 with⟨hw,h2⟩|⟨hw,h2⟩
 ·unfold one at h2
  obtain⟨x,s2,k1,⟨v,p1,p2,p3⟩,k3,k4,k5⟩:=Dt G r1 rfl hc h2
  exact⟨v,_, .inl ⟨hw,p1⟩,p2.put (fun _=>p3),k1,Ag.put ⟨fun n hn=>by rw[k3];exact h1.t n hn,by rw[k3];exact h1.tl,by rw[k4];exact h1.fr,h1.m.trans k5⟩ (fun n e=> .inl e)⟩
 ·exact⟨undef,_, .inr ⟨hw,rfl⟩,r1.put (x:= .l .und) (v:=undef) (fun _=>rfl),h2,h1.put (fun n e=> .inl e)⟩
theorem Nq (G:Good P g Y TI FZ){al:List Oper}{Q:Exit→Act→World→Prop}{D:Nat→Prop}:∀(l:List Oper) (s:St U) (K:St U→Option α) (z:α),(∀o∈l,∀n,Wr al o n→D n)→ops Y TI FZ al l s K=some z→
  ∀(rest:List Oper),(∀s' a w β,Ag D s s'→K s'=some z→aZ Y.C E s' a w β→wpList P al.toArray Q rest a w)→∀a w β,aZ Y.C E s a w β→wpList P al.toArray Q (l++rest) a w
 |[],s,K,z,_,h,rest,hk,a,w,β,r=>hk s a w β (Ag.refl s) h r
 |o::l,s,K,z,hD,h,rest,hk,a,w,β,r=>by
  simp only[ops] at h
  refine wpList_step fun K' hK'=>aNj G r h fun s' a' w' β' q1 q2 q3 _=>hK' _ _ ?_
  have q1':=q1.mono (hD o (by simp))
  exact Nq G l s' K z (fun o ho=>hD o (by simp[ho])) q2 rest (fun s2 a2 w2 β2 p1 p2 p3=>hk s2 a2 w2 β2 (q1'.trans p1) p2 p3) a' w' β' q3
end
end Go.EV

namespace Go.EV
open Go.RowKit Go.VK
variable {U:Uni} {Y:Lay U} {TI:List (Nat×TInfo)} {FZ:List (Nat×Sum U)} {P:Program} {g:GI} {E:Env U g}
def Env.frm (E:Env U g)(l:List (World×Nat×Nat)):Env U g:=⟨E.X0,E.Y0,E.w0,E.prm,l,E.h0,E.hY,E.hXY,E.hg,E.pin⟩
section
variable {C:Cod U} {s:St U} {a:Act} {w w':World} {β:List Tr}
theorem aZ.frame (r:aZ C E s a w β)(hp:E.prm=[]):aZ C (E.frm [(w,s.m.o.length,s.m.k)]) s a w β:=by
 have H:=r.hp
 refine⟨⟨H.ext,H.len,H.vers,H.cnt,H.new,H.dist,H.nd,H.ok,H.pin,fun x hx=> ?_,fun f hf=> ?_⟩,r.defers,r.tsz,r.tm⟩
 ·have hx':x∈E.prm:=hx
  rw[hp] at hx';simp at hx'
 ·have hf':f∈[(w,s.m.o.length,s.m.k)]:=hf
  simp at hf';subst hf'
  refine⟨Nat.le_refl _,Nat.le_refl _,Nat.le_refl _, .inr ⟨Ext.refl w,fun i t b hi ht _=> ?_⟩⟩
  have h1:=lt_of_some ht
  have h2:s.m.o.length≤i:=hi
  rw[H.len] at h1;omega
theorem aZ.aBX {l:List (World×Nat×Nat)}(r:aZ C (E.frm l) s a w β)(hE:E.fr=[]):aZ C E s a w β:=by
 have H:=r.hp
 exact⟨⟨H.ext,H.len,H.vers,H.cnt,H.new,H.dist,H.nd,H.ok,H.pin,fun x hx=>by
  obtain⟨h1,h2,_,h4⟩:=H.prm x hx
  exact⟨h1,h2,by rw[hE];simp,h4⟩,by rw[hE];simp⟩,r.defers,r.tsz,r.tm⟩
theorem aPg:∀{n k:Nat} {o:List (EO U)},unt n k o=true→∀(j:Nat) (e:EO U),j<n→o[j]? =some e→e.cv≤k
 |0,_,_,_,j,_,h,_=>by omega
 |_+1,_,[],_,j,e,_,h=>by simp at h
 |n+1,k,x::o,h,j,e,hj,he=>by
  simp only[unt,Bool.and_eq_true] at h
  cases j with
  |zero=>have:=Option.some.inj he;subst this;exact Nat.le_of_ble_eq_true h.1
  |succ j=>exact aPg h.2 j e (by omega) (by simpa using he)
theorem aZ.unt (r:aZ C E s a w β){f:World×Nat×Nat}(hf:f∈E.fr)(h:unt f.2.1 f.2.2 s.m.o=true):Ext f.1 w:=by
 obtain⟨_,_,_,h3⟩:=r.hp.fr f hf
 rcases h3 with⟨j,e,h1,h2,h3⟩|⟨h3,_⟩
 ·have:=aPg h j e h1 h2;omega
 ·exact h3
def Env.ahd (E:Env U g)(b:Nat)(blk:Obj)(hb:E.w0.heap.size≤b):Env U g:=
 ⟨fun b'=>E.X0 b'∨b'=b,E.Y0,E.w0,(b,blk)::E.prm,E.fr,fun b' h=>by
  rcases h with h|rfl
  ·rcases E.h0 b' h with h|⟨x,hx,e⟩
   ·exact .inl h
   ·exact .inr ⟨x,by simp[hx],e⟩
  ·exact .inr ⟨(b',blk),List.mem_cons_self,rfl⟩,E.hY,fun b' h hy=>by
  rcases h with h|rfl
  ·exact E.hXY b' h hy
  ·have:=E.hY _ hy;omega,E.hg,E.pin⟩
theorem bE2 {b:Nat}{blk:Obj}{hb:E.w0.heap.size≤b}{β:List Tr}{b':Nat}:(E.ahd b blk hb).X β b'↔E.X β b'∨b'=b:=by
 unfold Env.X
 constructor
 ·rintro((h|h)|h|h)
  ·exact .inl (.inl h)
  ·exact .inr h
  ·exact .inl (.inr (.inl h))
  ·exact .inl (.inr (.inr h))
 ·rintro((h|h|h)|h)
  ·exact .inl (.inl h)
  ·exact .inr (.inl h)
  ·exact .inr (.inr h)
  ·exact .inl (.inr h)
theorem aZ.ahead (r:aZ C E s a w β){blk:Obj}(hb:E.w0.heap.size≤w.heap.size):aZ C (E.ahd w.heap.size blk hb) s a (w.alloc blk) β:=by
 have H:=r.hp
 have he:Ext w (w.alloc blk):=Ext.alloc _ _
 have hbs:(w.alloc blk).heap[w.heap.size]? =some blk:=by show(w.heap.push blk)[w.heap.size]? =some blk;simp
 have ev:Evo w (w.alloc blk) (E.X β) ((E.ahd w.heap.size blk hb).X β) β β s.m s.m s.m.o.length s.m.ns.length s.m.k:=⟨he.size,fun b hb' h=>(bE2.1 h).resolve_right (by omega),fun _ _ _ h=>he.cell h,Nat.le_refl _,fun a i f _ h=>⟨f,h⟩,fun i e t _ h1 h2=>⟨e,t,h1,h2,fun _=>⟨rfl,rfl⟩,fun _=>⟨rfl,rfl,rfl,fun b hb=>he.block b (H.new i t b h2 hb).2⟩,fun h=>⟨h,rfl⟩⟩⟩
 refine⟨⟨H.ext.trans (Bel.aBI he),H.len,H.vers,H.cnt,fun i t b h1 h2=>⟨(H.new i t b h1 h2).1,Nat.lt_of_lt_of_le (H.new i t b h1 h2).2 he.size⟩,H.dist,H.nd,fun i t e h1 h2=>Ob.aBE ev (H.ok i t e h1 h2) fun b hb=>he.block b (H.new i t b h1 hb).2,fun x hx=>Sv.aAU ev (H.pin x hx),fun x hx=> ?_,fun f hf=> ?_⟩,r.defers,r.tsz,fun n x hx=>Sv.aAU ev (r.tm n x hx)⟩
 ·have hx':x∈(w.heap.size,blk)::E.prm:=hx
  rcases List.mem_cons.1 hx' with rfl|hx'
  ·refine⟨hb,hbs,fun f hf=> ?_,fun i t ht hm=> ?_⟩
   ·exact(H.fr f hf).2.2.1
   ·have:=(H.new i t _ ht hm).2;omega
  ·obtain⟨h1,h2,h3,h4⟩:=H.prm x hx'
   exact⟨h1,(he.block _ (Array.getElem?_eq_some_iff.1 h2).1).trans h2,h3,h4⟩
 ·obtain⟨h1,h2,h0,h3⟩:=H.fr f hf
  exact⟨h1,h2,Nat.le_trans h0 he.size,h3.imp id fun q=>⟨q.1.trans he,q.2⟩⟩
theorem aZ.aCK {b:Nat}{blk:Obj}{hb:E.w0.heap.size≤b}(r:aZ C (E.ahd b blk hb) s a w β)(hP:E.prm=[]){e':EO U}{t':Tr}{k':Nat}(hk:s.m.k≤k')(hv:e'.rv≤k'∧e'.cv≤k')(ht:t'.all=[b])
  (hok:Evo w w ((E.ahd b blk hb).X β) (E.X (β++[t'])) β (β++[t']) s.m ⟨s.m.o++[e'],k',s.m.ns⟩ s.m.o.length s.m.ns.length s.m.k→w.heap[b]? =some blk→e'.ob.ok C w (E.X (β++[t'])) (β++[t']) ⟨s.m.o++[e'],k',s.m.ns⟩ t'):
  aZ C E ⟨s.t,⟨s.m.o++[e'],k',s.m.ns⟩,s.fr⟩ a w (β++[t']):=by
 have H:=r.hp
 have hlen:=H.len
 obtain⟨_,p2,p3,p4⟩:=H.prm (b,blk) List.mem_cons_self
 have hbl:b<w.heap.size:=(Array.getElem?_eq_some_iff.1 p2).1
 have ev:Evo w w ((E.ahd b blk hb).X β) (E.X (β++[t'])) β (β++[t']) s.m ⟨s.m.o++[e'],k',s.m.ns⟩ s.m.o.length s.m.ns.length s.m.k:=by
  refine⟨Nat.le_refl _,fun b' _ h=>bE2.2 ?_,fun _ _ _ h=>h,hk,fun a i f _ h=>⟨f,h⟩,fun i e t hi he ht'=>⟨e,t,?_,?_,fun _=>⟨rfl,rfl⟩,fun _=>⟨rfl,rfl,rfl,fun _ _=>rfl⟩,fun h=>⟨h,rfl⟩⟩⟩
  ·rcases h with h|h|⟨u,hu,hm⟩
   ·exact .inl (.inl h)
   ·exact .inl (.inr (.inl h))
   ·rcases List.mem_append.1 hu with hu|hu
    ·exact .inl (.inr (.inr ⟨u,hu,hm⟩))
    ·simp at hu;subst hu;rw[ht] at hm;simp at hm;exact .inr hm
  ·exact(List.getElem?_append_left hi).trans he
  ·exact(List.getElem?_append_left (lt_of_some ht')).trans ht'
 have hb':∀(i:Nat) (t:Tr),(β++[t'])[i]? =some t→β[i]? =some t∨(i=β.length∧t=t'):=fun i t h=>by
  by_cases hi:i<β.length
  ·rw[List.getElem?_append_left hi] at h;exact .inl h
  ·have:=lt_of_some h
   simp at this
   have e:i=β.length:=by omega
   subst e;simp at h;exact .inr ⟨rfl,h.symm⟩
 have ho':∀(i:Nat) (e:EO U),(s.m.o++[e'])[i]? =some e→s.m.o[i]? =some e∨(i=s.m.o.length∧e=e'):=fun i e h=>by
  by_cases hi:i<s.m.o.length
  ·rw[List.getElem?_append_left hi] at h;exact .inl h
  ·have:=lt_of_some h
   simp at this
   have e1:i=s.m.o.length:=by omega
   subst e1;simp at h;exact .inr ⟨rfl,h.symm⟩
 refine⟨⟨H.ext,by simp[hlen],fun i e he=> ?_,H.cnt,fun i t x h1 h2=> ?_,fun i j t u x hij h1 h2 h3 h4=> ?_,fun i t h1=> ?_,fun i t e h1 h2=> ?_,fun x hx=>Sv.aAU ev (H.pin x hx),fun x hx=>by rw[hP] at hx;simp at hx,fun f hf=> ?_⟩,r.defers,r.tsz,fun n x hx=>Sv.aAU ev (r.tm n x hx)⟩
 ·rcases ho' i e he with h|⟨_,rfl⟩
  ·have:=H.vers i e h;exact⟨Nat.le_trans this.1 hk,Nat.le_trans this.2 hk⟩
  ·exact hv
 ·rcases hb' i t h1 with h|⟨_,rfl⟩
  ·exact H.new i t x h h2
  ·rw[ht] at h2;simp at h2;subst h2;exact⟨.inl hb,hbl⟩
 ·rcases hb' i t h1 with h|⟨ei,rfl⟩<;>rcases hb' j u h2 with h'|⟨ej,rfl⟩
  ·exact H.dist i j t u x hij h h' h3 h4
  ·rw[ht] at h4;simp at h4;subst h4;exact p4 i t h h3
  ·rw[ht] at h3;simp at h3;subst h3;exact p4 j u h' h4
  ·exact hij (ei.trans ej.symm)
 ·rcases hb' i t h1 with h|⟨_,rfl⟩
  ·exact H.nd i t h
  ·rw[ht];simp
 ·rcases hb' i t h1 with h|⟨ei,rfl⟩
  ·rcases ho' i e h2 with h'|⟨ei,_⟩
   ·exact Ob.aBE ev (H.ok i t e h h') fun _ _=>rfl
   ·have:=lt_of_some h;rw[hlen] at this;omega
  ·rcases ho' i e h2 with h'|⟨_,rfl⟩
   ·have:=lt_of_some h';rw[hlen] at ei;omega
   ·exact hok ev p2
 ·obtain⟨h1,h2,h0,h3⟩:=H.fr f hf
  refine⟨by simp;omega,Nat.le_trans h2 hk,h0,?_⟩
  rcases h3 with⟨j,e,q1,q2,q3⟩|⟨q1,q2⟩
  ·exact .inl ⟨j,e,q1,(List.getElem?_append_left (lt_of_some q2)).trans q2,q3⟩
  ·refine .inr ⟨q1,fun i t x hi h1 hx=> ?_⟩
   rcases hb' i t h1 with h|⟨_,rfl⟩
   ·exact q2 i t x hi h hx
   ·rw[ht] at hx;simp at hx;subst hx;exact p3 f hf
def mkF (op:Op)(b:Nat):Value:=match op with
 | .buildSlice _ n _=> .slice (some ⟨b,0,none⟩) n n
 |_=> .pointer (some ⟨b,0,none⟩)
def Flp (P:Program)(a:Act)(o:Oper)(blk:Obj):Prop:=∀w:World,(execOp a.eval o).run P w= .ok (.value (mkF o.op w.heap.size)) (w.alloc blk)
theorem aRy {γ:Type}{x:Option γ}(h:(!Xc x)=true):∃y,x=some y:=by
 cases x with
 |none=>cases h
 |some y=>exact⟨y,rfl⟩
theorem Tg (hTI:pM P TI=true){o:Oper}{T:TypeId}{i:TInfo}(ho:o.op= .alloc T)(hf:iP TI T=some i):∃vs:Array Value,Flp P a o (.cells vs T)∧∀(w:World) (X:Nat→Prop) (β:List Tr) (m:Mm U),Ms Y.C w X β m vs.toList (i.z.map Kz.lf):=by
 obtain⟨j,z,k3,k4,k5⟩:=aDm (bH hTI hf)
 refine⟨z.cells,fun w=> ?_,fun w X β m=>Ia k5⟩
 simp[execOp,ho,Instr.alloc,zeroValue,typeInfo,k3,k4,newVar,newRow,mkF]
theorem Ie {T:TypeId}(h:xK Y TI s (.alloc T)=true):∃i,iP TI T=some i:=aRy h
theorem Ig {t:TypeId}{n:Nat}{ps:Array (Nat×Operand)}(h:xK Y TI s (.buildSlice t n ps)=true):∃e ek eb k zz l d,iP TI t=some ⟨.sl e ek eb,k,zz⟩∧ps.toList.length=n∧n*ek≤16777216∧Hw (U:=U) e ek e=true∧Re Y s e 0 ps.toList=some (l,[],d):=by
 unfold xK at h
 simp only at h
 split at h
 ·rename_i e ek eb k zz h1
  simp only[Bool.and_eq_true,bC] at h
  obtain⟨q1,q2,q3,q4⟩:=h
  split at q4
  ·rename_i l d h5
   exact⟨e,ek,eb,k,zz,l,d,h1,Nat.eq_of_beq_eq_true q1,Nat.le_of_ble_eq_true q2,q3,h5⟩
  ·cases q4
 ·cases h
theorem L6 (hTI:pM P TI=true)(hY:LayOk Y)(r:aZ Y.C E s a w β){o:Oper}{t:TypeId}{n e ek eb k:Nat}{zz:List Kz}{ps:Array (Nat×Operand)}{l:List (U.El e)}{d:Bool}(ho:o.op= .buildSlice t n ps)
  (h1:iP TI t=some ⟨.sl e ek eb,k,zz⟩) (h2:ps.toList.length=n) (h3:n*ek≤16777216) (h4:Hw (U:=U) e ek e=true) (h5:Re Y s e 0 ps.toList=some (l,[],d)):
  ∃cells:Array Value,Flp P a o (.cells cells e)∧0<U.K e∧n≤maxLen∧l.length=n∧cells.size=n*U.K e∧OwL Y.C w (E.X β) d cells.toList (l.map (Y.C.cel e)).flatten []:=by
 have hsl:=(zZ (bH hTI h1) rfl).1
 obtain⟨_,_,_,_,_,_,_,_,hk0⟩:=eX hsl
 simp only[Hw,Bool.and_eq_true] at h4
 have hKe:U.K e=ek:=Nat.eq_of_beq_eq_true h4.2
 obtain⟨vs,k1,k2,k3,k4,k5⟩:=Tc hY r h5
 rw[hKe] at k4
 have hnm:n≤maxLen:=by
  have:n*1≤n*ek:=Nat.mul_le_mul_left _ hk0
  unfold maxLen;omega
 refine⟨(vs.map fun v=>v.cells.toList).flatten.toArray,fun w=> ?_,by rw[hKe];exact hk0,hnm,k3.trans h2,?_,by rw[List.toList_toArray];exact k5⟩
 ·obtain⟨cells,q1,q2⟩:=aEx (w:=w) hsl (k2.trans h2) h3 k1 k4 ho
  have:cells=(vs.map fun v=>v.cells.toList).flatten.toArray:=by rw[←q2]
  rw[q1,←this];simp only[mkF,ho]
 ·have:=k5.len
  rw[Ht (Y.C.hlen e),k3,h2] at this
  simpa using this
theorem aLh (G:Good P g Y TI FZ)(r:aZ Y.C E s a w β){o:Oper}(h:xK Y TI s o.op=true):∃blk,Flp P a o blk:=by
 cases ho:o.op with
 |alloc T=>
  rw[ho] at h
  obtain⟨i,hf⟩:=Ie h
  obtain⟨vs,k,_⟩:=Tg (Y:=Y) (a:=a) G.ti ho hf
  exact⟨_,k⟩
 |buildSlice t n ps=>
  rw[ho] at h
  obtain⟨e,ek,eb,k,zz,l,d,h1,h2,h3,h4,h5⟩:=Ig h
  obtain⟨cells,q,_⟩:=L6 G.ti G.lay r ho h1 h2 h3 h4 h5
  exact⟨_,q⟩
 |_=>rw[ho] at h;cases h
theorem Flp.keep {o:Oper}{blk:Obj}(h:Flp P a o blk){d:Option Nat}{v:Value}(hd:aRn o d=true):Flp P (a.put d v) o blk:=by
 have e:execOp (a.put d v).eval o=execOp a.eval o:=by
  cases d with
  |none=>rfl
  |some n=>
   have hd2:(match o.op with
    | .alloc _=>true
    | .buildSlice _ _ ps=>ps.toList.all fun x=>match x.2 with| .tmp m=> !Nat.beq n m|_=>true
    |_=>false)=true:=hd
   cases ho:o.op with
   |alloc T=>simp only[execOp,ho]
   |buildSlice t m ps=>
    rw[ho] at hd2
    simp only[List.all_eq_true] at hd2
    have:ps.map (fun(i,x)=>(i,(a.put (some n) v).eval x))=ps.map (fun(i,x)=>(i,a.eval x)):=by
     apply Array.map_congr_left
     intro x hx
     have:=hd2 x (by simpa using hx)
     obtain⟨i,x⟩:=x
     simp only[Prod.mk.injEq,true_and]
     refine Act.eval_put fun d hd hxd=> ?_
     have hd':=Option.some.inj hd
     subst hd';subst hxd
     simp at this
    simp only[execOp,ho,this]
   |_=>rw[ho] at hd2;cases hd2
 intro w
 rw[e];exact h w
theorem aV6 {w:World}{x y:Obj}(h:w.alloc x=w.alloc y):x=y:=by
 have h1:w.heap.push x=w.heap.push y:=congrArg World.heap h
 have h2:(w.heap.push x)[w.heap.size]? =(w.heap.push y)[w.heap.size]? :=by rw[h1]
 simpa using h2
theorem Flp.inj {o:Oper}{x y:Obj}(w:World)(h1:Flp P a o x)(h2:Flp P a o y):x=y:=by
 have:=(h1 w).symm.trans (h2 w)
 injection this with _ h
 exact aV6 h
theorem aV7 (G:Good P g Y TI FZ){b:Nat}{blk:Obj}{hb:E.w0.heap.size≤b}(r:aZ Y.C (E.ahd b blk hb) s a w β)(hP:E.prm=[]){o:Oper}(hf:Flp P a o blk)(hg:xK Y TI s o.op=true){α:Type}{K:Sv U→St U→Option α}{z:α}(h:stp Y TI FZ s o.op K=some z):
  ∃x s' β',K x s'=some z∧aZ Y.C E s' a w β'∧x.mean Y.C w (E.X β') β' s'.m (mkF o.op b)∧s'.t=s.t∧s'.fr=s.fr∧Am s.m s'.m:=by
 have hlen:=r.hp.len
 cases ho:o.op with
 |alloc T=>
  rw[ho] at hg h
  obtain⟨i,hi⟩:=Ie hg
  obtain⟨vs,k,hM⟩:=Tg (Y:=Y) (a:=a) G.ti ho hi
  have hblk:=hf.inj w k
  subst hblk
  have h':K (.l (.box (len s.m.o) 0)) (psh s (.box T (i.z.map Kz.lf) (i.z.map fun _=>s.m.k)))=some z:=by
   have:stp Y TI FZ s (.alloc T) K=match iP TI T with
    |some i=>K (.l (.box (len s.m.o) 0)) (psh s (.box T (i.z.map Kz.lf) (i.z.map fun _=>s.m.k)))
    |none=>none:=rfl
   rw[this,hi] at h;exact h
  have r':=r.aCK hP (e':=⟨.box T (i.z.map Kz.lf) (i.z.map fun _=>s.m.k),s.m.k,s.m.k⟩) (t':=⟨some b,0,0,[]⟩) (Nat.le_refl _) ⟨Nat.le_refl _,Nat.le_refl _⟩ rfl (fun hev hbk=>⟨by simp,b,vs.toList,rfl,rfl,by simpa using hbk,hM _ _ _ _⟩)
  refine⟨_,_,_,h',r',⟨rfl,⟨.box T (i.z.map Kz.lf) (i.z.map fun _=>s.m.k),s.m.k,s.m.k⟩,⟨some b,0,0,[]⟩,?_,?_,fun _=>⟨_,rfl,rfl⟩⟩,rfl,rfl,Am.add _ _⟩
  ·simp[psh,bC]
  ·rw[List.getElem?_append_right (by rw[hlen,bC];exact Nat.le_refl _),hlen,bC];simp
 |buildSlice t n ps=>
  rw[ho] at hg h
  obtain⟨e,ek,eb,k,zz,l,d,h1,h2,h3,h4,h5⟩:=Ig hg
  obtain⟨cells,q1,q2,q3,q4,q5,q6⟩:=L6 G.ti G.lay r ho h1 h2 h3 h4 h5
  have hblk:=hf.inj w q1
  subst hblk
  have hst:∀o':List (EO U),o'=s.m.o++[(⟨.tree e d l,s.m.k,Nat.succ s.m.k⟩:EO U)]→K (.l (.own (len s.m.o) s.m.k)) ⟨s.t,⟨o',Nat.succ s.m.k,s.m.ns⟩,s.fr⟩=some z:=fun o' ho'=>by
   have:stp Y TI FZ s (.buildSlice t n ps) K=bif Nat.beq (len ps.toList) n&&(Nat.ble (n*ek) 16777216&&Hw (U:=U) e ek e) then(bif dist (len s.m.o::[]) then K (.l (.own (len s.m.o) s.m.k)) ⟨s.t,⟨upd (s.m.o++[⟨.dead,s.m.k,s.m.k⟩]) (len s.m.o) ⟨.tree e d l,s.m.k,Nat.succ s.m.k⟩,Nat.succ s.m.k,s.m.ns⟩,s.fr⟩ else none) else none:=by
    show(match iP TI t with
     |some ⟨.sl e ek _,_,_⟩=>_
     |_=>none)=_
    rw[h1]
    simp only
    rw[h5]
    rfl
   rw[this,bC,h2] at h
   rw[show Nat.beq n n=true from Nat.beq_refl n,Nat.ble_eq_true_of_le h3,h4] at h
   simp only[Bool.and_self,cond_true] at h
   have hd:dist [len s.m.o]=true:=rfl
   rw[hd] at h
   simp only[cond_true] at h
   rw[bK,bC,List.set_append_right _ _ (Nat.le_refl _),Nat.sub_self] at h
   rw[ho',bC];exact h
  have r':=r.aCK hP (e':=⟨.tree e d l,s.m.k,Nat.succ s.m.k⟩) (t':=⟨some b,n,n,[]⟩) (Nat.le_succ _) ⟨Nat.le_succ _,Nat.le_refl _⟩ rfl (fun hev hbk=>by
   refine⟨q2,cells.toList,?_,q6.conv (Nat.le_refl _) hev.hX (fun _ _ _ h=>h) (by simp)⟩
   exact⟨by rw[q4,Array.length_toList,q5], .inr ⟨b,n,cells,by rw[q4];rfl,Nat.zero_le _,hbk,by rw[q4];exact Nat.le_refl _,q3,q5,by rw[q4];exact List.take_of_length_le (by rw[Array.length_toList,q5];exact Nat.le_refl _)⟩⟩)
  refine⟨_,_,_,hst _ rfl,r',⟨⟨Nat.le_succ _,rfl⟩,⟨.tree e d l,s.m.k,Nat.succ s.m.k⟩,⟨some b,n,n,[]⟩,?_,?_,fun _=>rfl⟩,rfl,rfl,?_⟩
  ·simp[bC]
  ·rw[List.getElem?_append_right (by rw[hlen,bC];exact Nat.le_refl _),hlen,bC];simp
  ·have a1:=(Am.add s.m [(⟨.dead,s.m.k,s.m.k⟩:EO U)]).trans (Am.tree (ids:=[]) (i:=len s.m.o) (τ:=e) (d:=d) (l:=l) (rv:=s.m.k) _)
   have e1:(⟨Nn (Nat.succ s.m.k) [] (upd (s.m.o++[(⟨.dead,s.m.k,s.m.k⟩:EO U)]) (len s.m.o) ⟨.tree e d l,s.m.k,Nat.succ s.m.k⟩),Nat.succ s.m.k,s.m.ns⟩:Mm U)=⟨s.m.o++[⟨.tree e d l,s.m.k,Nat.succ s.m.k⟩],Nat.succ s.m.k,s.m.ns⟩:=by
    rw[bK,bC,List.set_append_right _ _ (Nat.le_refl _),Nat.sub_self];rfl
   exact e1▸a1
 |_=>rw[ho] at hg;cases hg
end
end Go.EV

namespace Go.EV
open Go.RowKit Go.VK
variable {U:Uni} {C:Cod U} {P:Program} {g:GI} {E:Env U g}
def Ob.bd (N M K:Nat):Ob U→Prop
 | .box _ cs _=>∀c∈cs,c.bd N M K
 |_=>True
def iR (β:List Tr):Option Nat→Tr
 |some i=>match β[i]? with|some t=>t|none=>K7
 |none=>K7
inductive Src (N M K:Nat) (m:Mm U) (q:Option Nat) (j:Nat) (e':EO U):Prop
 |keep (hq:q=some j) (he:m.o[j]? =some e') (hb:e'.ob.bd N M K)
 |box (hq:q=some j) {e:EO U} {T:Nat} {cs cs':List (Lf U)} {vs vs':List Nat} (he:m.o[j]? =some e) (h1:e.ob= .box T cs vs) (h2:e'.ob= .box T cs' vs') (l1:cs'.length=cs.length) (l2:cs'.length=vs'.length) (hc:∀(i:Nat) (c:Lf U),cs'[i]? =some c→c= .any∨(cs[i]? =some c∧c.bd N M K)) (hv:K<e'.rv∧K<e'.cv)
 |dead (h:e'.ob= .dead) (hv:K<e'.rv∧K<e'.cv)
 |tree {i:Nat} {e:EO U} {τ:Nat} {d d':Bool} {l:List (U.El τ)} (hq:q=some i) (he:m.o[i]? =some e) (h1:e.ob= .tree τ d' l) (hd:d=true→d'=true) (h2:e'.ob= .tree τ d l) (hv:K<e'.rv∧K<e'.cv)
 |ti {e:EO U} {τ:Nat} {d d':Bool} {l:List (U.El τ)} (hq:q=some j) (he:m.o[j]? =some e) (h1:e.ob= .tree τ d' l) (hd:d=true→d'=true) (h2:e'.ob= .tree τ d l) (hr:e'.rv=e.rv) (hv:K<e'.cv)
 |nil {τ:Nat} {d:Bool} (hq:q=none) (h2:e'.ob= .tree τ d []) (hK:0<U.K τ) (hv:K<e'.rv∧K<e'.cv)
section
variable {m m':Mm U} {w:World} {β:List Tr} {σ:List (Option Nat)} {N M K:Nat}
theorem Xm {q:Option Nat}{b:Nat}(h:b∈(iR β q).all):∃i t,q=some i∧β[i]? =some t∧iR β q=t:=by
 cases q with
 |none=>simp[iR,mH] at h
 |some i=>
  cases hb:β[i]? with
  |none=>simp[iR,hb,mH] at h
  |some t=>exact⟨i,t,rfl,hb,by simp[iR,hb]⟩
theorem Hp.ren (H:Hp C E m β w)(hl:σ.length=m'.o.length)(hN:N≤m'.o.length)(hinj:∀(j j' i:Nat),σ[j]? =some (some i)→σ[j']? =some (some i)→j=j')(hk:K≤m'.k)
  (hver:∀(i:Nat) (e:EO U),m'.o[i]? =some e→e.rv≤m'.k∧e.cv≤m'.k) (hcnt:∀(a i:Nat),m'.ns[a]? =some (i,true)→(i:Int)+1≤9223372036854775807)
  (hn:∀(a i:Nat) (f:Bool),a<M→m.ns[a]? =some (i,f)→∃f',m'.ns[a]? =some (i,f'))
  (hs:∀(j:Nat) (q:Option Nat) (e':EO U),σ[j]? =some q→m'.o[j]? =some e'→Src N M K m q j e') (hpin:∀x∈E.pin,x.1.bd N M K) (hfr:E.fr=[]):
  Hp C E m' (σ.map (iR β)) w∧Evo w w (E.X β) (E.X (σ.map (iR β))) β (σ.map (iR β)) m m' N M K:=by
 have hget:∀(j:Nat) (t:Tr),(σ.map (iR β))[j]? =some t→∃q,σ[j]? =some q∧t=iR β q:=fun j t h=>by
  rw[List.getElem?_map] at h
  cases hq:σ[j]? with
  |none=>simp[hq] at h
  |some q=>simp only[hq,Option.map_some,Option.some.injEq] at h;exact⟨q,rfl,h.symm⟩
 have hX:∀b,E.X (σ.map (iR β)) b→E.X β b:=by
  rintro b (h|h|⟨t,ht,hb⟩)
  ·exact .inl h
  ·exact .inr (.inl h)
  ·obtain⟨q,_,rfl⟩:=List.mem_map.1 ht
   obtain⟨i,t,_,h2,h3⟩:=Xm hb
   rw[h3] at hb
   exact .inr (.inr ⟨t,List.mem_of_getElem? h2,hb⟩)
 have hev:Evo w w (E.X β) (E.X (σ.map (iR β))) β (σ.map (iR β)) m m' N M K:=by
  refine⟨Nat.le_refl _,fun b _=>hX b,fun _ _ _ h=>h,hk,fun a i f ha h=>hn a i f ha h,fun i e t hi he ht=> ?_⟩
  have hi':i<m'.o.length:=Nat.lt_of_lt_of_le hi hN
  have h1:m'.o[i]? =some m'.o[i]:=List.getElem?_eq_getElem hi'
  have h2:σ[i]? =some (σ[i]'(by omega)):=List.getElem?_eq_getElem _
  have h3:(σ.map (iR β))[i]? =some (iR β (σ[i]'(by omega))):=by rw[List.getElem?_map,h2];rfl
  refine⟨_,_,h1,h3,?_⟩
  have hsr:=hs i _ _ h2 h1
  have big:K<(m'.o[i]).rv∧K<(m'.o[i]).cv→(m'.o[i]).ob.aAX=false→((m'.o[i]).rv≤K→(m'.o[i]).rv=e.rv∧(iR β (σ[i]'(by omega))).val=t.val)∧((m'.o[i]).cv≤K→(m'.o[i]).cv=e.cv∧(m'.o[i]).ob=e.ob∧iR β (σ[i]'(by omega))=t∧∀b∈t.all,w.heap[b]? =w.heap[b]?)∧((m'.o[i]).ob.aAX=true→e.ob.aAX=true∧(iR β (σ[i]'(by omega))).b=t.b):=fun hv hb=>
   ⟨fun h=>absurd h (by omega),fun h=>absurd h (by omega),fun h=>by rw[hb] at h;cases h⟩
  cases hsr with
  |keep hq he' hb=>
   rw[he] at he'
   have e0:e=m'.o[i]:=Option.some.inj he'
   have e1:iR β (σ[i]'(by omega))=t:=by rw[hq];simp[iR,ht]
   rw[e1,←e0]
   exact⟨fun _=>⟨rfl,rfl⟩,fun _=>⟨rfl,rfl,rfl,fun _ _=>rfl⟩,fun h=>⟨h,rfl⟩⟩
  |box hq he' q1 q2 _ _ _ hv=>
   rw[he] at he'
   have e0:=Option.some.inj he'
   have e1:iR β (σ[i]'(by omega))=t:=by rw[hq];simp[iR,ht]
   rw[e1]
   refine⟨fun h=>absurd h (by omega),fun h=>absurd h (by omega),fun _=>⟨?_,rfl⟩⟩
   rw[e0,q1];rfl
  |dead h hv=>exact big hv (by rw[h];rfl)
  |tree _ _ _ _ h hv=>exact big hv (by rw[h];rfl)
  |ti hq he' _ _ h hr hv=>
   rw[he] at he'
   have e0:=Option.some.inj he'
   have e1:iR β (σ[i]'(by omega))=t:=by rw[hq];simp[iR,ht]
   rw[e1,e0]
   exact⟨fun _=>⟨hr,rfl⟩,fun h=>absurd h (by omega),fun hb=>by rw[h] at hb;cases hb⟩
  |nil _ h _ hv=>exact big hv (by rw[h];rfl)
 refine⟨⟨H.ext,by rw[List.length_map,hl],hver,hcnt,?_,?_,?_,?_,fun x hx=>Sv.aAY hev (hpin x hx) (H.pin x hx),fun x hx=> ?_,fun f hf=>by rw[hfr] at hf;simp at hf⟩,hev⟩
 ·intro j t b ht hb
  obtain⟨q,_,rfl⟩:=hget j t ht
  obtain⟨i,t,_,h2,h3⟩:=Xm hb
  rw[h3] at hb
  exact H.new i t b h2 hb
 ·intro j j' t u b hjj ht hu hb hub
  obtain⟨q,hq,rfl⟩:=hget j t ht
  obtain⟨q',hq',rfl⟩:=hget j' u hu
  obtain⟨i,t,e1,h2,h3⟩:=Xm hb
  obtain⟨i',t',e1',h2',h3'⟩:=Xm hub
  rw[h3] at hb;rw[h3'] at hub
  refine H.dist i i' t t' b (fun e=>hjj ?_) h2 h2' hb hub
  subst e;subst e1;subst e1'
  exact hinj j j' i hq hq'
 ·intro j t ht
  obtain⟨q,hq,rfl⟩:=hget j t ht
  cases q with
  |none=>rw[show iR β none=K7 from rfl,mH];exact List.nodup_nil
  |some i=>
   cases hb:β[i]? with
   |none=>simp[iR,hb,mH]
   |some t=>simp only[iR,hb];exact H.nd i t hb
 ·intro j t e' ht he'
  obtain⟨q,hq,rfl⟩:=hget j t ht
  cases hs j q e' hq he' with
  |keep hq he hb=>
   subst hq
   obtain⟨t,ht⟩:=H.tr he
   simp only[iR,ht]
   have hok:=H.ok j t e' ht he
   generalize e'.ob=x at hok hb ⊢
   cases x with
   |dead=>trivial
   |box T cs us=>
    obtain⟨h0,b,vs,h1,h2,h3,h4⟩:=hok
    exact⟨h0,b,vs,h1,h2,h3,h4.evo hev hb⟩
   |tree τ d l=>
    obtain⟨h1,xs,h2,h3⟩:=hok
    exact⟨h1,xs,h2,h3.conv (Nat.le_refl _) (fun b _=>hX b) (fun _ _ _ h=>h) (fun _ _=>rfl)⟩
  |box hq he h1 h2 l1 l2 hc hv=>
   subst hq
   obtain⟨t,ht⟩:=H.tr he
   simp only[iR,ht]
   have hok:=H.ok j t _ ht he
   rw[h1] at hok
   rw[h2]
   obtain⟨h0,b,vs,k1,k2,k3,k4⟩:=hok
   refine⟨l2,b,vs,k1,k2,k3,by rw[k4.1,l1],fun i v c hv hc'=> ?_⟩
   rcases hc i c hc' with rfl|⟨hc1,hc2⟩
   ·trivial
   ·exact Lf.aAY hev hc2 (k4.2 i v c hv hc1)
  |dead h hv=>rw[h];trivial
  |tree hq he h1 hd h2 hv=>
   subst hq
   obtain⟨t,ht⟩:=H.tr he
   simp only[iR,ht]
   have hok:=H.ok _ t _ ht he
   rw[h1] at hok
   rw[h2]
   obtain⟨k1,xs,k2,k3⟩:=hok
   exact⟨k1,xs,k2,(k3.fl hd).conv (Nat.le_refl _) (fun b _=>hX b) (fun _ _ _ h=>h) (fun _ _=>rfl)⟩
  |ti hq he h1 hd h2 hr hv=>
   subst hq
   obtain⟨t,ht⟩:=H.tr he
   simp only[iR,ht]
   have hok:=H.ok _ t _ ht he
   rw[h1] at hok
   rw[h2]
   obtain⟨k1,xs,k2,k3⟩:=hok
   exact⟨k1,xs,k2,(k3.fl hd).conv (Nat.le_refl _) (fun b _=>hX b) (fun _ _ _ h=>h) (fun _ _=>rfl)⟩
  |nil hq h2 hK hv=>
   subst hq
   rw[h2]
   exact⟨hK,[],World.ownsRow_nil w 0 _ _, .n⟩
 ·obtain⟨h1,h2,h3,h4⟩:=H.prm x hx
  refine⟨h1,h2,h3,fun j t ht hb=> ?_⟩
  obtain⟨q,_,rfl⟩:=hget j t ht
  obtain⟨i,t,_,q2,q3⟩:=Xm hb
  rw[q3] at hb
  exact h4 i t q2 hb
end
end Go.EV

namespace Go.EV
open Go.RowKit Go.VK
variable {U:Uni} {Y:Lay U} {P:Program} {g:GI} {E:Env U g}
def Dhd:{x:DI}→{xs:List DI}→Dat U (x::xs)→x.ty U
 |_,[],d=>d
 |_,_::_,d=>d.1
def Dtl:{x:DI}→{xs:List DI}→Dat U (x::xs)→Dat U xs
 |_,[],_=>()
 |_,_::_,d=>d.2
theorem kD {s:St U}{x:DI}{xs:List DI}{d:Dat U (x::xs)}(h:gets Y s (x::xs)=some d):aM2 Y s x=some (Dhd d)∧gets Y s xs=some (Dtl d):=by
 cases xs with
 |nil=>exact⟨h,rfl⟩
 |cons x' xs=>
  simp only[gets] at h
  cases h1:aM2 Y s x with
  |none=>rw[h1] at h;cases h
  |some a=>
   cases h2:gets Y s (x'::xs) with
   |none=>rw[h1,h2] at h;cases h
   |some b=>rw[h1,h2] at h;have:=Option.some.inj h;subst this;exact⟨rfl,rfl⟩
theorem qL {k:Nat}{x:DI}{xs:List DI}{d:Dat U (x::xs)}{o:List (EO U)}:aB2 k (x::xs) d o=aB2 k xs (Dtl d) (aEk k x (Dhd d) o):=by
 cases xs with
 |nil=>rfl
 |cons=>rfl
theorem aLi {k n:Nat}{x:DI}{xs:List DI}{d:Dat U (x::xs)}{s:St U}:sets Y k n s (x::xs) d=sets Y k (nxt n x) (set1 Y k n s x (Dhd d)) xs (Dtl d):=by
 cases xs with
 |nil=>rfl
 |cons=>rfl
theorem Ih {k:Nat}:∀{l:List (Nat×Nat)} {o:List (EO U)},(Gf k l o).length=o.length
 |[],o=>rfl
 |x::l,o=>by
  have e:Gf k (x::l) o=match nth (Gf k l o) x.1 with|some ⟨.box T cs vs,_,_⟩=>upd (Gf k l o) x.1 ⟨.box T (upd cs x.2 .any) (upd vs x.2 k),k,k⟩|_=>Gf k l o:=rfl
  rw[e]
  split
  ·rw[bK,List.length_set];exact Ih
  ·exact Ih
theorem vM {k:Nat}{o:List (EO U)}{j:Nat}{e:EO U}(he:o[j]? =some e):∀(l:List (Nat×Nat)),∃e',(Gf k l o)[j]? =some e'∧((e.ob.aAX=false∨hasB j l=false)→e'=e)∧
  (∀T cs vs,e.ob= .box T cs vs→∃cs' vs',e'.ob= .box T cs' vs'∧cs'.length=cs.length∧vs'.length=vs.length∧(hasB j l=true→e'.rv=k∧e'.cv=k)∧
   ∀i,(aEj j i l=true→∀c,cs'[i]? =some c→c= .any)∧(aEj j i l=true→∀v,vs'[i]? =some v→v=k)∧(aEj j i l=false→cs'[i]? =cs[i]? ∧vs'[i]? =vs[i]?))
 |[]=>⟨e,he,fun _=>rfl,fun T cs vs h=>⟨cs,vs,h,rfl,rfl,fun h=>(by cases h),fun i=>⟨fun h=>(by cases h),fun h=>(by cases h),fun _=>⟨rfl,rfl⟩⟩⟩⟩
 |(b,p)::l=>by
  obtain⟨e1,h1,h2,h3⟩:=vM he l
  have e0:Gf k ((b,p)::l) o=match nth (Gf k l o) b with|some ⟨.box T cs vs,_,_⟩=>upd (Gf k l o) b ⟨.box T (upd cs p .any) (upd vs p k),k,k⟩|_=>Gf k l o:=rfl
  have eB:hasB j ((b,p)::l)=cond (Nat.beq b j) true (hasB j l):=rfl
  have eA:∀i,aEj j i ((b,p)::l)=cond (Nat.beq b j&&Nat.beq p i) true (aEj j i l):=fun _=>rfl
  rw[e0,eB]
  simp only[eA]
  by_cases hb:b=j
  ·subst hb
   have hbb:Nat.beq b b=true:=Nat.beq_refl b
   rw[aP,h1,hbb]
   obtain⟨ob,rv,cv⟩:=e1
   cases ob with
   |box T1 cs1 vs1=>
    refine⟨⟨.box T1 (upd cs1 p .any) (upd vs1 p k),k,k⟩,by show(upd (Gf k l o) b _)[b]? =_;rw[bK,List.getElem?_set_self (lt_of_some h1)],fun h=> ?_,fun T cs vs h=> ?_⟩
    ·rcases h with h|h
     ·have:=h2 (.inl h);subst this;cases h
     ·cases h
    ·obtain⟨cs',vs',k1,k2,k3,k4,k5⟩:=h3 T cs vs h
     injection k1 with q1 q2 q3;subst q1;subst q2;subst q3
     refine⟨_,_,rfl,by rw[bK,List.length_set,k2],by rw[bK,List.length_set,k3],fun _=>⟨rfl,rfl⟩,fun i=> ?_⟩
     by_cases hp:p=i
     ·subst hp
      have hpp:Nat.beq p p=true:=Nat.beq_refl p
      simp only[hpp,Bool.and_self,cond_true]
      refine⟨fun _ c hc=> ?_,fun _ v hv=> ?_,fun h=>by cases h⟩
      ·rw[bK] at hc
       have hl:p<cs1.length:=by have:=lt_of_some hc;simpa using this
       rw[List.getElem?_set_self hl] at hc;exact(Option.some.inj hc).symm
      ·rw[bK] at hv
       have hl:p<vs1.length:=by have:=lt_of_some hv;simpa using this
       rw[List.getElem?_set_self hl] at hv;exact(Option.some.inj hv).symm
     ·have hpp:Nat.beq p i=false:=by
       cases hq:Nat.beq p i with
       |false=>rfl
       |true=>exact absurd (Nat.eq_of_beq_eq_true hq) hp
      simp only[hpp,Bool.and_false,cond_false]
      rw[bK,bK,List.getElem?_set_ne hp,List.getElem?_set_ne hp]
      exact k5 i
   |dead=>
    refine⟨_,h1,fun h=> ?_,fun T cs vs h=> ?_⟩
    ·refine h2 (.inl ?_)
     cases ho:e.ob with
     |box T cs vs=>obtain⟨_,_,k1,_⟩:=h3 T cs vs ho;cases k1
     |_=>rfl
    ·obtain⟨_,_,k1,_⟩:=h3 T cs vs h;cases k1
   |tree=>
    refine⟨_,h1,fun h=> ?_,fun T cs vs h=> ?_⟩
    ·refine h2 (.inl ?_)
     cases ho:e.ob with
     |box T cs vs=>obtain⟨_,_,k1,_⟩:=h3 T cs vs ho;cases k1
     |_=>rfl
    ·obtain⟨_,_,k1,_⟩:=h3 T cs vs h;cases k1
  ·have hbb:Nat.beq b j=false:=by
    cases hq:Nat.beq b j with
    |false=>rfl
    |true=>exact absurd (Nat.eq_of_beq_eq_true hq) hb
   simp only[hbb,Bool.false_and,cond_false]
   refine⟨e1,?_,h2,h3⟩
   split
   ·rw[bK,List.getElem?_set_ne hb];exact h1
   ·exact h1
theorem aLj {cs:List (Nat×Nat)}{k b:Nat}:∀{j:Nat} {vs:List Nat},bCk cs k b j vs=true→∀(i v:Nat),vs[i]? =some v→v≤k∨aEj b (j+i) cs=true
 |j,[],_,i,v,h=>by simp at h
 |j,x::vs,h,i,v,hv=>by
  simp only[bCk,Bool.and_eq_true,Bool.or_eq_true] at h
  cases i with
  |zero=>simp at hv;subst hv;exact h.1.imp Nat.le_of_ble_eq_true id
  |succ i=>
   have:=aLj h.2 i v (by simpa using hv)
   rwa [show Nat.succ j+i=j+(i+1) by omega] at this
theorem aLk {cs:List (Nat×Nat)}{dd:List Nat}{k:Nat}:∀{i:Nat} {es es':List (EO U)},aRj cs dd k i es es'=true→∀(j:Nat) (e:EO U),es[j]? =some e→∃e',es'[j]? =some e'∧(e'.cv≤k∨(i+j)∈dd∨∃T c vs,e'.ob= .box T c vs∧hasB (i+j) cs=true∧∀(p v:Nat),vs[p]? =some v→v≤k∨aEj (i+j) p cs=true)
 |i,[],es',_,j,e,h=>by simp at h
 |i,x::es,[],h,j,e,he=>by cases h
 |i,x::es,y::es',h,j,e,he=>by
  simp only[aRj,Bool.and_eq_true,Bool.or_eq_true] at h
  cases j with
  |zero=>
   refine⟨y,rfl,?_⟩
   rcases h.1 with h1|h1|h1
   ·exact .inl (Nat.le_of_ble_eq_true h1)
   ·exact .inr (.inl (kS.1 h1))
   ·refine .inr (.inr ?_)
    obtain⟨ob,rv,cv⟩:=y
    cases ob with
    |box T c vs=>
     simp only[Bool.and_eq_true] at h1
     exact⟨T,c,vs,rfl,h1.1,fun p v hv=>by have:=aLj h1.2 p v hv;rwa [Nat.zero_add] at this⟩
    |_=>cases h1
  |succ j=>
   obtain⟨e',q1,q2⟩:=aLk h.2 j e (by simpa using he)
   rw[show Nat.succ i+j=i+(j+1) by omega] at q2
   exact⟨e',by simpa using q1,q2⟩
def sg0 (dd:List Nat)(N:Nat):List (Option Nat):=(List.range N).map fun j=>if j∈dd then none else some j
theorem aUd {dd:List Nat}{N:Nat}:(sg0 dd N).length=N:=by simp[sg0]
theorem aDo {dd:List Nat}{N j:Nat}{q:Option Nat}(h:(sg0 dd N)[j]? =some q):j<N∧((j∈dd∧q=none)∨(j∉dd∧q=some j)):=by
 have hl:j<N:=by have:=lt_of_some h;rwa [aUd] at this
 refine⟨hl,?_⟩
 rw[sg0,List.getElem?_map,List.getElem?_range hl] at h
 simp only[Option.map_some,Option.some.injEq] at h
 by_cases hd:j∈dd
 ·rw[if_pos hd] at h;exact .inl ⟨hd,h.symm⟩
 ·rw[if_neg hd] at h;exact .inr ⟨hd,h.symm⟩
structure Inv (N M K k:Nat) (m:Mm U) (σ:List (Option Nat)) (o:List (EO U)):Prop where
 len:σ.length=o.length
 ge:N≤o.length
 inj:∀(j j' i:Nat),σ[j]? =some (some i)→σ[j']? =some (some i)→j=j'
 ver:∀(i:Nat) (e:EO U),o[i]? =some e→e.rv≤k∧e.cv≤k
 src:∀(j:Nat) (q:Option Nat) (e':EO U),σ[j]? =some q→o[j]? =some e'→Src N M K m q j e'
section
variable {C:Cod U} {b s:St U} {a a0:Act} {w w0:World} {β β0:List Tr} {D:Nat→Prop}
theorem aZ.obd (r:aZ C E b a0 w0 β0){j:Nat}{e:EO U}(h:b.m.o[j]? =some e):e.ob.bd b.m.o.length b.m.ns.length b.m.k:=by
 obtain⟨t,ht⟩:=r.hp.tr h
 have:=r.hp.ok j t e ht h
 generalize e.ob=x at this ⊢
 cases x with
 |box T cs vs=>obtain⟨_,b',vs',_,_,_,h4⟩:=this;exact h4.bd
 |_=>trivial
theorem inv0 (rb:aZ C E b a0 w0 β0)(hag:Am b.m s.m){cs:List (Nat×Nat)}{dd:List Nat}(hc:aRj cs dd b.m.k 0 b.m.o s.m.o=true):
  Inv b.m.o.length b.m.ns.length b.m.k (Nat.succ b.m.k) s.m (sg0 dd b.m.o.length) (Gf (Nat.succ b.m.k) cs (Nn (Nat.succ b.m.k) dd b.m.o)):=by
 have hlen:(Gf (Nat.succ b.m.k) cs (Nn (Nat.succ b.m.k) dd b.m.o)).length=b.m.o.length:=by rw[Ih,Dm]
 refine⟨by rw[aUd,hlen],by rw[hlen];exact Nat.le_refl _,fun j j' i h1 h2=> ?_,fun j e' he'=> ?_,fun j q e' hq he'=> ?_⟩
 ·obtain⟨_,h1⟩:=aDo h1
  obtain⟨_,h2⟩:=aDo h2
  rcases h1 with⟨_,h1⟩|⟨_,h1⟩
  ·cases h1
  ·rcases h2 with⟨_,h2⟩|⟨_,h2⟩
   ·cases h2
   ·exact(Option.some.inj h1).symm.trans (Option.some.inj h2)
 ·have hl:j<b.m.o.length:=by have:=lt_of_some he';rwa [hlen] at this
  by_cases hd:j∈dd
  ·obtain⟨e1,h1,h2,_⟩:=vM (k:=Nat.succ b.m.k) (K6 (k:=Nat.succ b.m.k) hd hl) cs
   rw[he'] at h1;have:=Option.some.inj h1;subst this
   rw[h2 (.inl rfl)];exact⟨Nat.le_refl _,Nat.le_refl _⟩
  ·have h0:=uP (k:=Nat.succ b.m.k) (o:=b.m.o) hd
   rw[List.getElem?_eq_getElem hl] at h0
   have hv:=rb.hp.vers j _ (List.getElem?_eq_getElem hl)
   obtain⟨e1,h1,h2,h3⟩:=vM (k:=Nat.succ b.m.k) h0 cs
   rw[he'] at h1;have:=Option.some.inj h1;subst this
   by_cases hk:(b.m.o[j]).ob.aAX=false∨hasB j cs=false
   ·rw[h2 hk];exact⟨Nat.le_succ_of_le hv.1,Nat.le_succ_of_le hv.2⟩
   ·cases ho:(b.m.o[j]).ob with
    |box T c vs=>
     obtain⟨_,_,_,_,_,h4,_⟩:=h3 T c vs ho
     have hB:hasB j cs=true:=by
      cases hh:hasB j cs with
      |true=>rfl
      |false=>exact absurd (.inr hh) hk
     obtain⟨q1,q2⟩:=h4 hB
     rw[q1,q2];exact⟨Nat.le_refl _,Nat.le_refl _⟩
    |_=>exact absurd (.inl (by rw[ho];rfl)) hk
 ·obtain⟨hl,hq⟩:=aDo hq
  rcases hq with⟨hd,rfl⟩|⟨hd,rfl⟩
  ·obtain⟨e1,h1,h2,_⟩:=vM (k:=Nat.succ b.m.k) (K6 (k:=Nat.succ b.m.k) hd hl) cs
   rw[he'] at h1;have:=Option.some.inj h1;subst this
   rw[h2 (.inl rfl)]
   exact .dead rfl ⟨Nat.lt_succ_self _,Nat.lt_succ_self _⟩
  ·have hb:b.m.o[j]? =some b.m.o[j]:=List.getElem?_eq_getElem hl
   have h0:(Nn (Nat.succ b.m.k) dd b.m.o)[j]? =some b.m.o[j]:=by rw[uP hd];exact hb
   obtain⟨e1,h1,h2,h3⟩:=vM (k:=Nat.succ b.m.k) h0 cs
   rw[he'] at h1;have:=Option.some.inj h1;subst this
   obtain⟨es,hs1,hs2⟩:=aLk hc j _ hb
   rw[Nat.zero_add] at hs2
   obtain⟨am1,am2,am3⟩:=hag.o j _ es hb hs1
   by_cases hk:(b.m.o[j]).ob.aAX=false∨hasB j cs=false
   ·have he:=h2 hk
    rw[he]
    refine .keep rfl ?_ (rb.obd hb)
    rcases hs2 with h|h|⟨T,c,vs,h,h',_⟩
    ·rw[←am1 h];exact hs1
    ·exact absurd h hd
    ·rcases hk with hk|hk
     ·rw[am2 (by rw[h];rfl)] at hk;cases hk
     ·rw[h'] at hk;cases hk
   ·have hB:hasB j cs=true:=by
     cases hh:hasB j cs with
     |true=>rfl
     |false=>exact absurd (.inr hh) hk
    cases ho:(b.m.o[j]).ob with
    |box T c vs=>
     obtain⟨cs',vs',k1,k2,k3,k4,k5⟩:=h3 T c vs ho
     obtain⟨q1,q2⟩:=k4 hB
     have hbl:c.length=vs.length:=rb.aBM (b:=j) (T:=T) (rv:=(b.m.o[j]).rv) (cv:=(b.m.o[j]).cv) (by rw[hb,←ho])
     have hbd:=rb.obd hb
     rw[ho] at hbd
     have hv:b.m.k<e'.rv∧b.m.k<e'.cv:=by rw[q1,q2];exact⟨Nat.lt_succ_self _,Nat.lt_succ_self _⟩
     have cell:∀(cS:List (Lf U)),(∀(i:Nat),aEj j i cs=false→i<c.length→cS[i]? =c[i]?)→∀(i:Nat) (x:Lf U),cs'[i]? =some x→x= .any∨(cS[i]? =some x∧x.bd b.m.o.length b.m.ns.length b.m.k):=fun cS hS i x hx=>by
      cases hA:aEj j i cs with
      |true=>exact .inl ((k5 i).1 hA x hx)
      |false=>
       have h5:=((k5 i).2.2 hA).1
       rw[hx] at h5
       have hil:i<c.length:=lt_of_some h5.symm
       exact .inr ⟨(hS i hA hil).trans h5.symm,hbd x (List.mem_of_getElem? h5.symm)⟩
     rcases hs2 with h|h|⟨T1,c1,vs1,h,_,h'⟩
     ·have e1:=am1 h
      exact .box rfl hs1 (by rw[e1];exact ho) k1 k2 (by rw[k2,k3,hbl]) (cell c (fun _ _ _=>rfl)) hv
     ·exact absurd h hd
     ·obtain⟨p1,p2,p3,p4⟩:=am3 T c vs T1 c1 vs1 ho h
      refine .box rfl hs1 (by rw[h,p1]) k1 (by rw[k2,p2]) (by rw[k2,k3,hbl]) (cell c1 (fun i hA hil=> ?_)) hv
      have hvl:i<vs1.length:=by rw[p3,←hbl];exact hil
      rcases h' i _ (List.getElem?_eq_getElem hvl) with h''|h''
      ·exact(p4 i _ (List.getElem?_eq_getElem hvl) h'').1
      ·rw[hA] at h'';cases h''
    |_=>exact absurd (.inl (by rw[ho];rfl)) hk
def sgm:List (Option Nat×Option Nat)→List (Option Nat)→List (Option Nat)
 |[],σ=>σ
 |(some i,x)::q,σ=>sgm q (σ.set i x)
 |(none,x)::q,σ=>sgm q (σ++[x])
def Plc (k:Nat)(σ:List (Option Nat))(o:List (EO U))(s:St U):Nat→List DI→Prop
 |_,[]=>True
 |n, .tr l i τ d::xs=>(∃v q e,lkp s l=some v∧sU s.m τ d v=some q∧σ[i]? =some q.1∧o[i]? =some e∧e.rv=k)∧Plc k σ o s n xs
 |n, .nt l τ d::xs=>(∃v q e,lkp s l=some v∧sU s.m τ d v=some q∧σ[n]? =some q.1∧o[n]? =some e∧e.rv=k)∧Plc k σ o s (Nat.succ n) xs
 |n,_::xs=>Plc k σ o s n xs
theorem L8 {x:Option Nat×Option Nat}{q:List (Option Nat×Option Nat)}:xC (x::q)=(match x.2 with|some i=>i::xC q|none=>xC q):=by
 obtain⟨x1,x2⟩:=x
 cases x2<;>rfl
theorem aE0 {m:Mm U}{N M K k:Nat}{τ:Nat}{d:Bool}{v:Sv U}{q:Option Nat×List (U.El τ)}(h:sU m τ d v=some q)(hk:K<k){j:Nat}:Src N M K m q.1 j ⟨.tree τ d q.2,k,k⟩:=by
 unfold sU at h
 split at h
 ·cases hb:Nat.ble 1 (U.K τ) with
  |false=>rw[hb] at h;cases h
  |true=>
   rw[hb] at h
   have:=Option.some.inj h;subst this
   exact .nil rfl rfl (Nat.le_of_ble_eq_true hb) ⟨hk,hk⟩
 ·rename_i i r
  rw[aP] at h
  split at h
  ·rename_i τ' d' l rv cv he
   cases hb:(Nat.beq rv r&&(d'|| !d)) with
   |false=>rw[hb] at h;cases h
   |true=>
    rw[hb] at h
    simp only[cond_true] at h
    cases hq:I7 τ τ' l with
    |none=>rw[hq] at h;cases h
    |some l'=>
     rw[hq] at h
     have:=Option.some.inj h;subst this
     obtain⟨rfl,hl⟩:=kR hq
     have hl:=eq_of_heq hl;subst hl
     simp only[Bool.and_eq_true,Bool.or_eq_true] at hb
     refine .tree rfl he rfl (fun hd=> ?_) rfl ⟨hk,hk⟩
     rcases hb.2 with h|h
     ·exact h
     ·rw[hd] at h;cases h
  ·cases h
 ·cases h
theorem aZi {m:Mm U}{N M K k i:Nat}{τ:Nat}{d:Bool}{l:List (U.El τ)}(h:bFv m i τ d=some l)(hk:K<k):Src N M K m (some i) i ⟨.tree τ d l,0,k⟩:=by
 unfold bFv at h
 rw[aP] at h
 split at h
 ·rename_i τ' d' l' rv cv he
  cases hb:(Nat.beq rv 0&&(d'|| !d)) with
  |false=>rw[hb] at h;cases h
  |true=>
   rw[hb] at h
   simp only[cond_true] at h
   obtain⟨rfl,hl⟩:=kR h
   have hl:=eq_of_heq hl;subst hl
   simp only[Bool.and_eq_true,Bool.or_eq_true] at hb
   refine .ti rfl he rfl (fun hd=> ?_) rfl (Nat.eq_of_beq_eq_true hb.1).symm hk
   rcases hb.2 with h|h
   ·exact h
   ·rw[hd] at h;cases h
 ·cases h
theorem Inv.set {N M K k:Nat}{m:Mm U}{σ:List (Option Nat)}{o:List (EO U)}(h:Inv N M K k m σ o){i:Nat}{q:Option Nat}{e:EO U}(hq:∀x,q=some x→∀j:Nat,σ[j]? ≠some (some x))(hv:e.rv≤k∧e.cv≤k)(hs:Src N M K m q i e):Inv N M K k m (σ.set i q) (o.set i e):=by
 refine⟨by simp[h.len],by simpa using h.ge,fun j j' x h1 h2=> ?_,fun j e' he=> ?_,fun j q' e' h1 h2=> ?_⟩
 ·by_cases hj:i=j
  ·by_cases hj':i=j'
   ·exact hj.symm.trans hj'
   ·subst hj
    rw[List.getElem?_set_ne hj'] at h2
    have hl:i<σ.length:=by have:=lt_of_some h1;simpa using this
    rw[List.getElem?_set_self hl] at h1
    exact absurd h2 (hq x (Option.some.inj h1) j')
  ·rw[List.getElem?_set_ne hj] at h1
   by_cases hj':i=j'
   ·subst hj'
    have hl:i<σ.length:=by have:=lt_of_some h2;simpa using this
    rw[List.getElem?_set_self hl] at h2
    exact absurd h1 (hq x (Option.some.inj h2) j)
   ·rw[List.getElem?_set_ne hj'] at h2;exact h.inj j j' x h1 h2
 ·by_cases hj:i=j
  ·subst hj
   have hl:i<o.length:=by have:=lt_of_some he;simpa using this
   rw[List.getElem?_set_self hl] at he
   have:=Option.some.inj he;subst this;exact hv
  ·rw[List.getElem?_set_ne hj] at he;exact h.ver j e' he
 ·by_cases hj:i=j
  ·subst hj
   have hl:i<o.length:=by have:=lt_of_some h2;simpa using this
   rw[List.getElem?_set_self (by rw[h.len];exact hl)] at h1
   rw[List.getElem?_set_self hl] at h2
   have:=Option.some.inj h1;subst this
   have:=Option.some.inj h2;subst this
   exact hs
  ·rw[List.getElem?_set_ne hj] at h1 h2;exact h.src j q' e' h1 h2
theorem Inv.app {N M K k:Nat}{m:Mm U}{σ:List (Option Nat)}{o:List (EO U)}(h:Inv N M K k m σ o){q:Option Nat}{e:EO U}(hq:∀x,q=some x→∀j:Nat,σ[j]? ≠some (some x))(hv:e.rv≤k∧e.cv≤k)(hs:Src N M K m q o.length e):Inv N M K k m (σ++[q]) (o++[e]):=by
 have hσ:∀(j:Nat) (x:Option Nat),(σ++[q])[j]? =some x→(σ[j]? =some x)∨(j=o.length∧x=q):=fun j x hx=>by
  by_cases hl:j<σ.length
  ·rw[List.getElem?_append_left hl] at hx;exact .inl hx
  ·rw[List.getElem?_append_right (by omega)] at hx
   cases hz:j-σ.length with
   |zero=>rw[hz] at hx;simp at hx;exact .inr ⟨by have:=h.len;omega,hx.symm⟩
   |succ n=>rw[hz] at hx;simp at hx
 have ho:∀(j:Nat) (x:EO U),(o++[e])[j]? =some x→(o[j]? =some x)∨(j=o.length∧x=e):=fun j x hx=>by
  by_cases hl:j<o.length
  ·rw[List.getElem?_append_left hl] at hx;exact .inl hx
  ·rw[List.getElem?_append_right (by omega)] at hx
   cases hz:j-o.length with
   |zero=>rw[hz] at hx;simp at hx;exact .inr ⟨by omega,hx.symm⟩
   |succ n=>rw[hz] at hx;simp at hx
 refine⟨by simp[h.len],by have:=h.ge;simp;omega,fun j j' x h1 h2=> ?_,fun j e' he=> ?_,fun j q' e' h1 h2=> ?_⟩
 ·rcases hσ j _ h1 with h1|⟨e1,h1⟩<;>rcases hσ j' _ h2 with h2|⟨e2,h2⟩
  ·exact h.inj j j' x h1 h2
  ·exact absurd h1 (hq x h2.symm j)
  ·exact absurd h2 (hq x h1.symm j')
  ·exact e1.trans e2.symm
 ·rcases ho j _ he with h1|⟨_,rfl⟩
  ·exact h.ver j e' h1
  ·exact hv
 ·rcases hσ j _ h1 with h1|⟨e1,rfl⟩<;>rcases ho j _ h2 with h2|⟨e2,rfl⟩
  ·exact h.src j q' e' h1 h2
  ·have:=lt_of_some h1;have:=h.len;omega
  ·have:=lt_of_some h2;omega
  ·subst e1;exact hs
theorem Plc.mono {k:Nat}{σ σ':List (Option Nat)}{o o':List (EO U)}{s:St U}:∀{xs:List DI} {n:Nat},(∀i∈gD xs,o'[i]? =o[i]? ∧σ'[i]? =σ[i]?)→(∀i,n≤i→o'[i]? =o[i]? ∧σ'[i]? =σ[i]?)→Plc k σ o s n xs→Plc k σ' o' s n xs
 |[],_,_,_,h=>h
 | .tr l i τ d::xs,n,h1,h2,⟨⟨v,q,e,a1,a2,a3,a4,a5⟩,h⟩=>by
  obtain⟨b1,b2⟩:=h1 i (by simp[gD])
  exact⟨⟨v,q,e,a1,a2,b2.trans a3,b1.trans a4,a5⟩,Plc.mono (fun j hj=>h1 j (by simp[gD,hj])) h2 h⟩
 | .nt l τ d::xs,n,h1,h2,⟨⟨v,q,e,a1,a2,a3,a4,a5⟩,h⟩=>by
  obtain⟨b1,b2⟩:=h2 n (Nat.le_refl _)
  exact⟨⟨v,q,e,a1,a2,b2.trans a3,b1.trans a4,a5⟩,Plc.mono (fun j hj=>h1 j (by simpa[gD] using hj)) (fun i hi=>h2 i (by omega)) h⟩
 | .ti i τ d::xs,n,h1,h2,h=>Plc.mono (xs:=xs) (n:=n) (fun j hj=>h1 j (by simp[gD,hj])) h2 h
 | .dat l kd::xs,n,h1,h2,h=>Plc.mono (xs:=xs) (n:=n) (fun j hj=>h1 j (by simpa[gD] using hj)) h2 h
 | .nat l::xs,n,h1,h2,h=>Plc.mono (xs:=xs) (n:=n) (fun j hj=>h1 j (by simpa[gD] using hj)) h2 h
theorem Ah {N M K k:Nat}{s:St U}(hk:K<k):∀(xs:List DI) (q:List (Option Nat×Option Nat)) (d:Dat U xs) (σ:List (Option Nat)) (o:List (EO U)),Wz s xs=some q→gets Y s xs=some d→Inv N M K k s.m σ o→(∀i∈xC q,∀j:Nat,σ[j]? ≠some (some i))→(xC q).Nodup→(∀i∈gD xs,i<o.length)→(gD xs).Nodup→
  Inv N M K k s.m (sgm q σ) (aB2 k xs d o)∧Plc k (sgm q σ) (aB2 k xs d o) s o.length xs∧(∀j,j<o.length→j∉gD xs→(aB2 k xs d o)[j]? =o[j]? ∧(sgm q σ)[j]? =σ[j]?)
 |[],q,d,σ,o,hq,_,hI,_,_,_,_=>by
  have:=Option.some.inj hq;subst this
  exact⟨hI,trivial,fun _ _ _=>⟨rfl,rfl⟩⟩
 | .dat l kd::xs,q,d,σ,o,hq,hg,hI,h1,h2,h3,h4=>by
  rw[qL]
  exact Ah hk xs q (Dtl d) σ o hq (kD hg).2 hI h1 h2 h3 h4
 | .nat l::xs,q,d,σ,o,hq,hg,hI,h1,h2,h3,h4=>by
  rw[qL]
  exact Ah hk xs q (Dtl d) σ o hq (kD hg).2 hI h1 h2 h3 h4
 | .ti i τ b::xs,q,d,σ,o,hq,hg,hI,h1,h2,h3,h4=>by
  obtain⟨g1,g2⟩:=kD hg
  simp only[Wz] at hq
  simp only[aM2] at g1
  cases hr:Wz s xs with
  |none=>rw[hr] at hq;cases hq
  |some r=>
   rw[hr] at hq
   have:=Option.some.inj hq;subst this
   rw[qL]
   have hi:i<o.length:=h3 i (by simp[gD])
   have e1:aEk k (.ti i τ b) (Dhd d) o=o.set i ⟨.tree τ b (Dhd d),0,k⟩:=bK _ _ _
   rw[e1]
   rw[L8] at h1 h2
   simp only at h1 h2
   have hI':=hI.set (i:=i) (q:=some i) (e:=⟨.tree τ b (Dhd d),0,k⟩) (fun x hx j=>h1 x (by rw[Option.some.inj hx];simp) j) ⟨Nat.zero_le _,Nat.le_refl _⟩ (aZi g1 hk)
   obtain⟨n1,n2⟩:=List.nodup_cons.1 (show(i::gD xs).Nodup from h4)
   have hnx:∀x∈xC r,∀j:Nat,(σ.set i (some i))[j]? ≠some (some x):=fun x hx j hj=>by
    by_cases hij:i=j
    ·subst hij
     rw[List.getElem?_set_self (by rw[hI.len];exact hi)] at hj
     have hj:=Option.some.inj (Option.some.inj hj)
     subst hj
     exact(List.nodup_cons.1 h2).1 hx
    ·rw[List.getElem?_set_ne hij] at hj
     exact h1 x (by simp[hx]) j hj
   obtain⟨p1,p2,p3⟩:=Ah hk xs r (Dtl d) (σ.set i (some i)) _ hr g2 hI' hnx (List.nodup_cons.1 h2).2 (fun j hj=>by rw[List.length_set];exact h3 j (by simp[gD,hj])) n2
   rw[List.length_set] at p2 p3
   refine⟨p1,p2,fun j hj hjn=> ?_⟩
   have hjn:j≠i∧j∉gD xs:=by simpa[gD] using hjn
   obtain⟨q1,q2⟩:=p3 j hj hjn.2
   exact⟨by rw[q1,List.getElem?_set_ne (Ne.symm hjn.1)],by show(sgm r (σ.set i (some i)))[j]? =_;rw[q2,List.getElem?_set_ne (Ne.symm hjn.1)]⟩
 | .tr l i τ b::xs,q,d,σ,o,hq,hg,hI,h1,h2,h3,h4=>by
  obtain⟨g1,g2⟩:=kD hg
  simp only[Wz] at hq
  simp only[aM2] at g1
  cases hv:lkp s l with
  |none=>rw[hv] at hq;cases hq
  |some v=>
   rw[hv] at hq g1
   simp only at hq g1
   cases ht:sU s.m τ b v with
   |none=>rw[ht] at hq;cases hq
   |some t=>
    rw[ht] at hq g1
    simp only at hq g1
    cases hr:Wz s xs with
    |none=>rw[hr] at hq;cases hq
    |some r=>
     rw[hr] at hq
     have:=Option.some.inj hq;subst this
     have hd:t.2=Dhd d:=Option.some.inj g1
     rw[qL]
     have hi:i<o.length:=h3 i (by simp[gD])
     have e1:aEk k (.tr l i τ b) (Dhd d) o=o.set i ⟨.tree τ b t.2,k,k⟩:=by rw[hd];exact bK _ _ _
     rw[e1]
     rw[L8] at h1 h2
     have hsub:∀x∈xC r,x∈(match t.1 with|some i=>i::xC r|none=>xC r):=fun x hx=>by cases t.1<;>simp[hx]
     have hI':=hI.set (i:=i) (q:=t.1) (e:=⟨.tree τ b t.2,k,k⟩) (fun x hx j=>h1 x (by simp only[hx];simp) j) ⟨Nat.le_refl _,Nat.le_refl _⟩ (aE0 ht hk)
     obtain⟨n1,n2⟩:=List.nodup_cons.1 (show(i::gD xs).Nodup from h4)
     have hnx:∀x∈xC r,∀j:Nat,(σ.set i t.1)[j]? ≠some (some x):=fun x hx j hj=>by
      by_cases hij:i=j
      ·subst hij
       rw[List.getElem?_set_self (by rw[hI.len];exact hi)] at hj
       have hj:=Option.some.inj hj
       simp only[hj] at h2
       exact(List.nodup_cons.1 h2).1 hx
      ·rw[List.getElem?_set_ne hij] at hj
       exact h1 x (hsub x hx) j hj
     have hnd:(xC r).Nodup:=by
      cases ht1:t.1 with
      |none=>simp only[ht1] at h2;exact h2
      |some x=>simp only[ht1] at h2;exact(List.nodup_cons.1 h2).2
     obtain⟨p1,p2,p3⟩:=Ah hk xs r (Dtl d) (σ.set i t.1) _ hr g2 hI' hnx hnd (fun j hj=>by rw[List.length_set];exact h3 j (by simp[gD,hj])) n2
     rw[List.length_set] at p2 p3
     refine⟨p1,⟨⟨v,t,⟨.tree τ b t.2,k,k⟩,hv,ht,?_,?_,rfl⟩,p2⟩,fun j hj hjn=> ?_⟩
     ·show(sgm r (σ.set i t.1))[i]? =_
      rw[(p3 i hi n1).2,List.getElem?_set_self (by rw[hI.len];exact hi)]
     ·rw[(p3 i hi n1).1,List.getElem?_set_self hi]
     ·have hjn:j≠i∧j∉gD xs:=by simpa[gD] using hjn
      obtain⟨q1,q2⟩:=p3 j hj hjn.2
      exact⟨by rw[q1,List.getElem?_set_ne (Ne.symm hjn.1)],by show(sgm r (σ.set i t.1))[j]? =_;rw[q2,List.getElem?_set_ne (Ne.symm hjn.1)]⟩
 | .nt l τ b::xs,q,d,σ,o,hq,hg,hI,h1,h2,h3,h4=>by
  obtain⟨g1,g2⟩:=kD hg
  simp only[Wz] at hq
  simp only[aM2] at g1
  cases hv:lkp s l with
  |none=>rw[hv] at hq;cases hq
  |some v=>
   rw[hv] at hq g1
   simp only at hq g1
   cases ht:sU s.m τ b v with
   |none=>rw[ht] at hq;cases hq
   |some t=>
    rw[ht] at hq g1
    simp only at hq g1
    cases hr:Wz s xs with
    |none=>rw[hr] at hq;cases hq
    |some r=>
     rw[hr] at hq
     have:=Option.some.inj hq;subst this
     have hd:t.2=Dhd d:=Option.some.inj g1
     rw[qL]
     have e1:aEk k (.nt l τ b) (Dhd d) o=o++[⟨.tree τ b t.2,k,k⟩]:=by rw[hd];rfl
     rw[e1]
     rw[L8] at h1 h2
     have hsub:∀x∈xC r,x∈(match t.1 with|some i=>i::xC r|none=>xC r):=fun x hx=>by cases t.1<;>simp[hx]
     have hI':=hI.app (q:=t.1) (e:=⟨.tree τ b t.2,k,k⟩) (fun x hx j=>h1 x (by simp only[hx];simp) j) ⟨Nat.le_refl _,Nat.le_refl _⟩ (aE0 ht hk)
     have n2:(gD xs).Nodup:=h4
     have hol:(σ++[t.1])[o.length]? =some t.1:=by rw[←hI.len];simp
     have hnx:∀x∈xC r,∀j:Nat,(σ++[t.1])[j]? ≠some (some x):=fun x hx j hj=>by
      by_cases hl:j<σ.length
      ·rw[List.getElem?_append_left hl] at hj
       exact h1 x (hsub x hx) j hj
      ·rw[List.getElem?_append_right (by omega)] at hj
       cases hz:j-σ.length with
       |zero=>
        rw[hz] at hj
        have hj:t.1=some x:=by simpa using hj
        simp only[hj] at h2
        exact(List.nodup_cons.1 h2).1 hx
       |succ n=>rw[hz] at hj;simp at hj
     have hnd:(xC r).Nodup:=by
      cases ht1:t.1 with
      |none=>simp only[ht1] at h2;exact h2
      |some x=>simp only[ht1] at h2;exact(List.nodup_cons.1 h2).2
     obtain⟨p1,p2,p3⟩:=Ah hk xs r (Dtl d) (σ++[t.1]) _ hr g2 hI' hnx hnd (fun j hj=>by have:=h3 j (by simpa[gD] using hj);simp;omega) n2
     rw[show(o++[(⟨.tree τ b t.2,k,k⟩:EO U)]).length=Nat.succ o.length by simp] at p2 p3
     have n1:o.length∉gD xs:=fun hh=>by have:=h3 _ (show o.length∈gD (.nt l τ b::xs) from hh);omega
     refine⟨p1,⟨⟨v,t,⟨.tree τ b t.2,k,k⟩,hv,ht,?_,?_,rfl⟩,p2⟩,fun j hj hjn=> ?_⟩
     ·show(sgm r (σ++[t.1]))[o.length]? =_
      rw[(p3 _ (Nat.lt_succ_self _) n1).2,hol]
     ·rw[(p3 _ (Nat.lt_succ_self _) n1).1];simp
     ·obtain⟨q1,q2⟩:=p3 j (Nat.lt_succ_of_lt hj) hjn
      refine⟨by rw[q1,List.getElem?_append_left hj],?_⟩
      show(sgm r (σ++[t.1]))[j]? =_
      rw[q2,List.getElem?_append_left (by rw[hI.len];exact hj)]
end
end Go.EV

namespace Go.EV
open Go.RowKit Go.VK
variable {U:Uni} {Y:Lay U} {P:Program} {g:GI} {E:Env U g}
section aCR
theorem aZj {a n:Nat}{K:List (Sv U)→List (Sv U)}(hK:K []=[]):∀{l:List (Sv U)},(aRl a K l)[n]? =if n<a then l[n]? else(K (l.drop a))[n-a]? :=by
 induction a generalizing n with
 |zero=>intro l;rfl
 |succ a ih=>
  intro l
  cases l with
  |nil=>
   have e:aRl (a+1) K ([]:List (Sv U))=[]:=rfl
   rw[e];simp[hK]
  |cons x l=>
   have e:aRl (a+1) K (x::l)=x::aRl a K l:=rfl
   rw[e]
   cases n with
   |zero=>simp
   |succ n=>simp only[List.getElem?_cons_succ,ih,Nat.add_lt_add_iff_right,List.drop_succ_cons,Nat.add_sub_add_right]
theorem aZk {a n:Nat}{K:List (Sv U)→List (Sv U)}(hK:K []=[]):∀{l:List (Sv U)},(aOr a K l)[n]? =if n<a then(l[n]?).map (fun _=>Sv.l .any) else(K (l.drop a))[n-a]? :=by
 induction a generalizing n with
 |zero=>intro l;rfl
 |succ a ih=>
  intro l
  cases l with
  |nil=>
   have e:aOr (a+1) K ([]:List (Sv U))=[]:=rfl
   rw[e];simp[hK]
  |cons x l=>
   have e:aOr (a+1) K (x::l)=Sv.l .any::aOr a K l:=rfl
   rw[e]
   cases n with
   |zero=>simp
   |succ n=>simp only[List.getElem?_cons_succ,ih,Nat.add_lt_add_iff_right,List.drop_succ_cons,Nat.add_sub_add_right]
theorem aNk:∀{ws:List (Nat×Nat)},wip ws ([]:List (Sv U))=[]
 |[]=>rfl
 |(a,b)::r=>by
  have e:wip ((a,b)::r) ([]:List (Sv U))=aRl a (aOr b (wip r)) []:=rfl
  rw[e]
  cases a with
  |succ a=>rfl
  |zero=>
   cases b with
   |succ b=>rfl
   |zero=>exact aNk (ws:=r)
theorem aZl:∀{ws:List (Nat×Nat)} {p n:Nat},Dc ws p n=true→p≤n
 |[],p,n,h=>by cases h
 |(a,b)::r,p,n,h=>by
  simp only[Dc,Bool.or_eq_true,Bool.and_eq_true] at h
  rcases h with⟨h,_⟩|h
  ·have:=Nat.le_of_ble_eq_true h;omega
  ·have:=aZl h;omega
theorem aDp:∀{ws:List (Nat×Nat)} {p n:Nat} {l:List (Sv U)},(wip ws l)[n]? =if Dc ws p (p+n)=true then(l[n]?).map (fun _=>Sv.l .any) else l[n]?
 |[],p,n,l=>by simp[Dc,wip]
 |(a,b)::r,p,n,l=>by
  have hb:(aOr b (wip r) ([]:List (Sv U)))=[]:=by
   cases b with
   |succ b=>rfl
   |zero=>exact aNk (ws:=r)
  have e:wip ((a,b)::r) l=aRl a (aOr b (wip r)) l:=rfl
  rw[e,aZj hb]
  simp only[Dc,Bool.or_eq_true,Bool.and_eq_true]
  by_cases h1:n<a
  ·rw[if_pos h1,if_neg]
   rintro(⟨h,_⟩|h)
   ·have:=Nat.le_of_ble_eq_true h;omega
   ·have:=aZl h;omega
  ·rw[if_neg h1,aZk aNk]
   by_cases h2:n-a<b
   ·rw[if_pos h2,if_pos]
    ·rw[List.getElem?_drop,show a+(n-a)=n by omega]
    ·exact .inl ⟨Nat.ble_eq_true_of_le (by omega),Nat.ble_eq_true_of_le (by omega)⟩
   ·rw[if_neg h2,aDp (ws:=r) (p:=p+a+b)]
    rw[show p+a+b+(n-a-b)=p+n by omega]
    simp only[List.getElem?_drop,show a+(b+(n-a-b))=n by omega]
    by_cases h3:Dc r (p+a+b) (p+n)=true
    ·rw[if_pos h3,if_pos (.inr h3)]
    ·rw[if_neg h3,if_neg]
     rintro(⟨_,h⟩|h)
     ·have:=Nat.le_of_ble_eq_true h;omega
     ·exact h3 h
theorem aUe {ws:List (Nat×Nat)}{l:List (Sv U)}:(wip ws l).length=l.length:=by
 have key:∀n,n<(wip ws l).length↔n<l.length:=fun n=>by
  have h:=aDp (ws:=ws) (p:=0) (n:=n) (l:=l)
  constructor
  ·intro hn
   rw[List.getElem?_eq_getElem hn] at h
   refine Nat.lt_of_not_le fun hh=> ?_
   rw[List.getElem?_eq_none hh] at h
   split at h<;>cases h
  ·intro hn
   rw[List.getElem?_eq_getElem hn] at h
   refine Nat.lt_of_not_le fun hh=> ?_
   rw[List.getElem?_eq_none hh] at h
   split at h<;>cases h
 have h1:=key (wip ws l).length
 have h2:=key l.length
 omega
end aCR
def LV (a:Act)(w:World)(β:List Tr)(o:List (EO U)):Lo→Value→Prop
 | .s n,v=>v=a.tmps.getD n undef
 | .c b j,v=>∀e,o[b]? =some e→e.ob.aAX=true→∃t blk vals T,β[b]? =some t∧t.b=some blk∧w.heap[blk]? =some (.cells vals T (0,0))∧vals[j]? =some v
section
variable {C:Cod U} {b s u:St U} {a a0:Act} {w w0:World} {β β0:List Tr}
theorem Xn (r:aZ C E s a w β){l:Lo}{x:Sv U}(h:lkp s l=some x):∃v,LV a w β s.m.o l v∧x.mean C w (E.X β) β s.m v:=by
 cases l with
 |s n=>exact⟨_,rfl,r.tm n x (by rw[←aP];exact h)⟩
 |c b j=>
  simp only[lkp,aP] at h
  split at h
  ·rename_i T cs vs rv cv he
   split at h
   ·rename_i y hy
    have:=Option.some.inj h;subst this
    obtain⟨t,ht⟩:=r.hp.tr he
    obtain⟨h0,blk,vals,k1,k2,k3,k4⟩:=r.hp.ok b t _ ht he
    have hjl:j<vals.length:=by rw[k4.1];exact lt_of_some hy
    exact⟨vals[j],fun e _ _=>⟨t,blk,vals.toArray,T,ht,k1,k3,by simp[hjl]⟩,k4.2 j _ _ (List.getElem?_eq_getElem hjl) hy⟩
   ·cases h
  ·cases h
structure Tp (C:Cod U) (E:Env U g) (a:Act) (w:World) (u:St U) (β:List Tr) (u':St U) (β':List Tr):Prop where
 own:∀(i r:Nat) (v:Value),(Lf.own i r:Lf U).mean C w (E.X β) β u.m v→(Lf.own i r:Lf U).mean C w (E.X β') β' u'.m v
 x:∀b,E.X β' b→E.X β b
 lv:∀(l:Lo) (v:Value),LV a w β u.m.o l v→LV a w β' u'.m.o l v
theorem Tp.refl:Tp C E a w u β u β:=⟨fun _ _ _ h=>h,fun _ h=>h,fun _ _ h=>h⟩
theorem aZ.aBF (r:aZ C E u a w β){l:Lo}{v:Value}(hl:LV a w β u.m.o l v){x:Sv U}(hx:x.mean C w (E.X β) β u.m v):∃β',aZ C E (EV.aBF u x l) a w β'∧Tp C E a w u β (EV.aBF u x l) β':=by
 cases l with
 |s n=>
  refine⟨β,r.set (n:=n) (x:=x) ?_,⟨fun _ _ _ h=>h,fun _ h=>h,fun _ _ h=>h⟩⟩
  rw[←(show v=a.tmps.getD n undef from hl)];exact hx
 |c b j=>
  unfold EV.aBF
  simp only[aP]
  split
  ·rename_i T cs vs rv cv y he
   obtain⟨t,blk,vals,T',h1,h2,h3,h4⟩:=hl _ he rfl
   obtain⟨h0,blk',vals',k1,k2,k3,k4⟩:=r.hp.ok b t _ h1 he
   rw[h2] at k1
   have:=Option.some.inj k1;subst this
   rw[h3] at k3
   have:=Option.some.inj k3
   injection this with q1 q2 q3;subst q1;subst q2
   have hvv:vals'[j]? =some v:=by simpa using h4
   obtain⟨β',r',hb',ev⟩:=r.turn (i:=b) (J:=[]) (t':=t) (w':=w) (ob:= .box T' (upd cs j y) (upd vs j (Nat.succ u.m.k))) (rv:=rv) he h1 (by simp) (Nat.le_refl _) rfl rfl rfl (fun _ _ _=>rfl)
    (fun bb hb=>⟨(r.hp.new b t bb h1 hb).2, .inr (.inl hb)⟩) (r.hp.nd b t h1) (.inl ⟨rfl,rfl⟩) (fun _=>⟨rfl,rfl⟩)
    (fun β' m' ev=>by
     refine⟨by rw[bK,bK,List.length_set,List.length_set,h0],blk,vals',h2,k2,h3,by rw[k4.1,bK,List.length_set],fun i v' c p q=> ?_⟩
     rw[bK] at q
     by_cases hij:j=i
     ·subst hij
      have hl:j<cs.length:=by have:=lt_of_some q;simpa using this
      rw[List.getElem?_set_self hl] at q
      have:=Option.some.inj q;subst this
      rw[hvv] at p
      have:=Option.some.inj p;subst this
      exact Lf.aAU ev hx
     ·rw[List.getElem?_set_ne hij] at q
      exact Lf.aAU ev (k4.2 i v' c p q))
   refine⟨β',r',⟨fun i q v' h=>Lf.aAU ev h,fun bb hb=>ev.hX bb (Hp.aBT r'.hp bb hb) hb,fun l v' h=> ?_⟩⟩
   cases l with
   |s n=>exact h
   |c b' j'=>
    intro e' he' hbx
    have hlt:b'<u.m.o.length:=by
     have:=lt_of_some he'
     have hl:(upd u.m.o b (⟨.box T' (upd cs j y) (upd vs j (Nat.succ u.m.k)),rv,Nat.succ u.m.k⟩:EO U)).length=u.m.o.length:=by rw[bK,List.length_set]
     have h2:b'<(upd u.m.o b (⟨.box T' (upd cs j y) (upd vs j (Nat.succ u.m.k)),rv,Nat.succ u.m.k⟩:EO U)).length:=this
     rwa [hl] at h2
    have hb0:u.m.o[b']? =some u.m.o[b']:=List.getElem?_eq_getElem hlt
    obtain⟨t0,ht0⟩:=r.hp.tr hb0
    obtain⟨e1,t1,g1,g2,_,_,g3⟩:=ev.ho b' _ t0 hlt hb0 ht0
    have:e1=e':=Option.some.inj (g1.symm.trans he')
    subst this
    obtain⟨p1,p2⟩:=g3 hbx
    obtain⟨t2,blk2,vals2,T2,z1,z2,z3,z4⟩:=h _ hb0 p1
    rw[ht0] at z1
    have:=Option.some.inj z1;subst this
    exact⟨t1,blk2,vals2,T2,g2,p2.trans z2,z3,z4⟩
  ·exact⟨β,r,Tp.refl⟩
def IF1 (Y:Lay U)(E:Env U g)(k:Nat)(u:St U)(a:Act)(w:World)(β:List Tr)(n:Nat):(x:DI)→x.ty U→Prop
 | .dat l kd,d=>∃v,LV a w β u.m.o l v∧Rd w (E.X β) [] v (Ac (Wy Y kd d))
 | .nat l,i=>∃v,LV a w β u.m.o l v∧∃j:Nat,j=i∧v= .int .i64 (j:Int)∧(j:Int)≤9223372036854775807
 | .tr l i _ _,_=>∃v,LV a w β u.m.o l v∧(Lf.own i k:Lf U).mean Y.C w (E.X β) β u.m v
 | .nt l _ _,_=>∃v,LV a w β u.m.o l v∧(Lf.own n k:Lf U).mean Y.C w (E.X β) β u.m v
 | .ti _ _ _,_=>True
def IF (Y:Lay U)(E:Env U g)(k:Nat)(u:St U)(a:Act)(w:World)(β:List Tr):Nat→(xs:List DI)→Dat U xs→Prop
 |_,[],_=>True
 |n,x::xs,d=>IF1 Y E k u a w β n x (Dhd d)∧IF Y E k u a w β (nxt n x) xs (Dtl d)
theorem IF1.tp {k n:Nat}{u':St U}{β':List Tr}(h:Tp Y.C E a w u β u' β'){x:DI}{d:x.ty U}(hf:IF1 Y E k u a w β n x d):IF1 Y E k u' a w β' n x d:=by
 cases x with
 |dat l kd=>obtain⟨v,h1,h2⟩:=hf;exact⟨v,h.lv l v h1,h2.conv (Nat.le_refl _) (fun b _=>h.x b) (fun _ _ _ h=>h) (fun _ _ h=>h)⟩
 |nat l=>obtain⟨v,h1,h2⟩:=hf;exact⟨v,h.lv l v h1,h2⟩
 |tr l i τ b=>obtain⟨v,h1,h2⟩:=hf;exact⟨v,h.lv l v h1,h.own _ _ v h2⟩
 |nt l τ b=>obtain⟨v,h1,h2⟩:=hf;exact⟨v,h.lv l v h1,h.own _ _ v h2⟩
 |ti i τ b=>trivial
theorem IF.tp {k:Nat}{u':St U}{β':List Tr}(h:Tp Y.C E a w u β u' β'):∀{xs:List DI} {n:Nat} {d:Dat U xs},IF Y E k u a w β n xs d→IF Y E k u' a w β' n xs d
 |[],_,_,_=>trivial
 |x::xs,n,d,⟨h1,h2⟩=>⟨h1.tp h,IF.tp h h2⟩
theorem aR0 (r:aZ Y.C E u a w β){k n:Nat}{x:DI}{d:x.ty U}(h:IF1 Y E k u a w β n x d):∃β',aZ Y.C E (set1 Y k n u x d) a w β'∧Tp Y.C E a w u β (set1 Y k n u x d) β':=by
 cases x with
 |dat l kd=>
  obtain⟨v,h1,h2⟩:=h
  exact r.aBF h1 (qK (Xl aNh h2 (.inl fun _ h=>h)))
 |nat l=>
  obtain⟨v,h1,j,rfl,h2,h3⟩:=h
  have r1:aZ Y.C E ⟨u.t,⟨u.m.o,u.m.k,u.m.ns++[((⟨j,false⟩:Nat×Bool))]⟩,u.fr⟩ a w β:=r.aCF (fun a' i f h=>⟨f,by rw[List.getElem?_append_left (lt_of_some h)];exact h⟩) (fun a' i h=>by
   by_cases hl:a'<u.m.ns.length
   ·rw[List.getElem?_append_left hl] at h;exact r.hp.cnt a' i h
   ·rw[List.getElem?_append_right (by omega)] at h
    cases hq:a'-u.m.ns.length with
    |zero=>rw[hq] at h;simp at h
    |succ q=>rw[hq] at h;simp at h)
  obtain⟨β',q1,q2⟩:=r1.aBF (l:=l) (v:=v) h1 (x:= .l (.nat (len u.m.ns))) ⟨j,false,by rw[bC];simp,h2,h3⟩
  exact⟨β',q1,⟨fun i q v h=>q2.own i q v h,q2.x,fun l v h=>q2.lv l v h⟩⟩
 |tr l i τ b=>
  obtain⟨v,h1,h2⟩:=h
  exact r.aBF h1 (x:= .l (.own i k)) h2
 |nt l τ b=>
  obtain⟨v,h1,h2⟩:=h
  exact r.aBF h1 (x:= .l (.own n k)) h2
 |ti i τ b=>exact⟨β,r,Tp.refl⟩
theorem aE1 {k:Nat}:∀(xs:List DI) {u:St U} {β:List Tr} {n:Nat} {d:Dat U xs},aZ Y.C E u a w β→IF Y E k u a w β n xs d→∃β',aZ Y.C E (sets Y k n u xs d) a w β'
 |[],_,β,_,_,r,_=>⟨β,r⟩
 |x::xs,u,β,n,d,r,⟨h1,h2⟩=>by
  obtain⟨β1,r1,t1⟩:=aR0 r h1
  rw[aLi]
  exact aE1 xs r1 (IF.tp t1 h2)
end
end Go.EV
