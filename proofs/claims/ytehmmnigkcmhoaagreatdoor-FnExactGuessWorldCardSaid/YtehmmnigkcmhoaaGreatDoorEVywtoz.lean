import Derived.Test.YtehmmnigkcmhoaaGreatDoorEVvtoyb
/-
  THE EVALUATOR's KIT: drawn regions of loads out of boxes and stores into other boxes, where a load may come up late. Plain theorems over any program; the conditions stand in each.
-/
set_option linter.unusedVariables false
set_option linter.unusedSimpArgs false
namespace Go.EV
open Go.RowKit Go.VK
variable {U:Uni} {Y:Lay U} {TI:List (Nat×TInfo)} {FZ:List (Nat×Sum U)} {P:Program} {g:GI} {E:Env U g}
section
variable {s s':St U} {a:Act} {w w':World} {β β':List Tr} {α:Type}
def Ng (bs:List Nat)(Yb:Nat→Prop)(n:Nat)(s:St U)(β:List Tr):Prop:=∀(b:Nat) (e:EO U) (t:Tr) (k:Nat),s.m.o[b]? =some e→e.ob.aAU=true→β[b]? =some t→t.b=some k→(b∈bs→Yb k)∧(b∉bs→¬Yb k∧k<n)
theorem aBw {bs:List Nat}{Yb:Nat→Prop}{wS:World}(r:aW Y.C E s a w β)(hI:Ng bs Yb wS.heap.size s β)(hb:Bel Yb wS w){t:Nat}{i:TInfo}(hti:tiB P t i=true){b o:Nat}{y:Sv U}{v:Value}(hm:(Lf.box b o:Lf U).mean Y.C w (E.X β) β s.m v)(h:load Y s i (.box b o)=some y)(hn:b∉bs):
  ∃p v',v= .pointer (some p)∧(∀w',Bel Yb wS w'→(loadVar t p).run P w'= .ok v' w')∧y.mean Y.C w (E.X β) β s.m v':=by
 simp only[load,aM] at h
 obtain⟨_,e,tr,h1,h2,h3⟩:=hm
 simp only[h1] at h
 have hok:=r.hp.ok b tr e h2 h1
 have hi:=hI b e tr
 obtain⟨ob,rv,cv⟩:=e
 cases ob with
 |box T cs us=>
  obtain⟨bb,h4,rfl⟩:=h3 rfl
  obtain⟨_,b',vs,k1,k2,k3,k4⟩:=hok
  rw[h4] at k1;injection k1 with k1;subst k1
  obtain⟨q1,q2⟩:=(hi bb h1 rfl h2 h4).2 hn
  obtain⟨v',q3,q4⟩:=G9 (S:=Bel Yb wS) (P:=P) (p:=⟨bb,o,none⟩) hti h (k4.drop o) (fun w' he j u hj=>by
   rw[eH,cell_of_row w' bb (o+j) _ T (0,0) ((he.block bb q2 q1).trans ((hb.block bb q2 q1).symm.trans k3))]
   simpa using hj)
  exact⟨_,v',rfl,q3,q4⟩
 |_=>cases h
theorem Ng.go {bs:List Nat}{Yb:Nat→Prop}{n:Nat}(h:Ng bs Yb n s β){m:Mm U}{N M K:Nat}(hN:N=s.m.o.length)(r:Hp Y.C E s.m β w)(hl:m.o.length=s.m.o.length)(hev:Evo w w' (E.X β) (E.X β') β β' s.m m N M K){t:List (Sv U)}{fr}:Ng bs Yb n ⟨t,m,fr⟩ β':=by
 intro b e t k h1 h2 h3 h4
 have hb:b<s.m.o.length:=by rw[←hl];exact lt_of_some h1
 have e1:s.m.o[b]? =some s.m.o[b]:=List.getElem?_eq_getElem hb
 have e2:β[b]? =some (β[b]'(by rw[r.len];exact hb)):=List.getElem?_eq_getElem _
 obtain⟨e',t',k1,k2,_,_,k5⟩:=hev.ho b _ _ (by omega) e1 e2
 replace h1:m.o[b]? =some e:=h1
 rw[h1] at k1;injection k1 with k1;subst k1
 rw[h3] at k2;injection k2 with k2;subst k2
 obtain⟨j1,j2⟩:=k5 h2
 exact h b _ _ k e1 j1 e2 (by rw[←j2];exact h4)
theorem aXm {i:Nat}{l:List Nat}(h:(!Hf i l)=true):i∉l:=fun hi=>by rw[jI.2 hi] at h;cases h
variable {al:List Oper} {Q:Exit→Act→World→Prop} {D:Nat→Prop}
theorem Ad (G:Good P g Y TI FZ)(hs:Region.noSelect al.toArray=true){bs:List Nat}{Yb:Nat→Prop}{wS:World}:∀(l:List (Nat×Bool)) (s:St U) (K:St U→Option α) (z:α),(∀i∈l,∀o,al[i.1]? =some o→∀n,Wr al o n→D n)→aQb Y TI FZ al bs l s K=some z→
  (∀s' a w β,Ag D s s'→K s'=some z→aW Y.C E s' a w β→Q .normal a w)→∀listed,Dn .any al.toArray listed→wE al.toArray none l listed=true→∀a w β,Bel Yb wS w→Ng bs Yb wS.heap.size s β→aW Y.C E s a w β→dE P .any al.toArray none (NoPanic Q) (Bel Yb wS) l.length listed a w
 |[],s,K,z,_,h,hQ,listed,_,hc,a,w,β,_,_,r=>jE (P:=P) (a0:=none) (S:=Bel Yb wS) (Q:=NoPanic Q) (by simpa[wE] using hc) (hQ s a w β (Ag.refl s) h r) 0
 |(i,fl)::l,s,K,z,hD,h,hQ,listed,hdn,hc,a,w,β,hb,hI,r=>by
  simp only[aQb,aM] at h
  cases ho:al[i]? with
  |none=>rw[ho] at h;cases h
  |some o=>
   rw[ho] at h
   simp only at h
   have hDi:=hD (i,fl) (by simp) o ho
   have hD':∀j∈l,∀o,al[j.1]? =some o→∀n,Wr al o n→D n:=fun j hj=>hD j (by simp[hj])
   have hg:al.toArray[i]? =some o:=by simpa using ho
   have put':∀{s1:St U} {x:Sv U},s1.t=s.t→s1.fr=s.fr→Am s.m s1.m→Ag (Wr al o) s (put s1 o.dst x):=fun e1 e2 e3=>Ag.put ⟨fun n _=>by rw[e1],by rw[e1],by rw[e2],e3⟩ (fun n e=> .inl e)
   have invP:∀{s1:St U} {β1:List Tr} {x:Sv U},Ng bs Yb wS.heap.size s1 β1→Ng bs Yb wS.heap.size (put s1 o.dst x) β1:=fun {s1 β1 x} h b e t k h1=>h b e t k (by rw[show(put s1 o.dst x).m=s1.m by cases o.dst<;>rfl] at h1;exact h1)
   cases hb0:(noG o&&(bif fl then ldW bs s o.op else(stW bs s o.op||Vz o.op))) with
   |false=>rw[hb0] at h;cases h
   |true=>
    rw[hb0] at h
    simp only[cond_true] at h
    rw[Bool.and_eq_true] at hb0
    have hgd:o.guard=none:=by
     have:=hb0.1
     unfold noG at this
     split at this
     ·assumption
     ·cases this
    have hw:Region.wanted o (yielded al.toArray a.tmps)=true:=by simp[Region.wanted,hgd]
    have hop:=hb0.2
    cases fl with
    |true=>
     simp only[cond_true] at hop
     simp only[wE,Bool.and_eq_true] at hc
     obtain⟨hr,_⟩:=kW hc.1
     cases hoo:o.op with
     |load t x=>
      rw[hoo] at hop
      simp only[ldW] at hop
      split at hop
      ·rename_i b off hx
       unfold one at h
       rw[hoo] at h
       replace h:(match(match iF TI t,dN s x with
        |some i, .l p=>load Y s i p
        |_,_=>none) with
        |some y=>aQb Y TI FZ al bs l (put s o.dst y) K
        |none=>none)=some z:=h
       rw[hx] at h
       cases hf:iF TI t with
       |none=>rw[hf] at h;cases h
       |some ti=>
        rw[hf] at h
        simp only at h
        cases hld:load Y s ti (.box b off) with
        |none=>rw[hld] at h;cases h
        |some y=>
         rw[hld] at h
         simp only at h
         obtain⟨p,v',q1,q2,q3⟩:=aBw r hI hb (bQ G.ti hf) (jC r hx) hld (aXm hop)
         have hy:YieldsIf P al.toArray (Bel Yb wS) o v' a:= .inl ⟨hw,fun w' he=>by simp[execOp,hoo,q1,Instr.loadAt,Instr.sureAddr,q2 w' he]⟩
         simp only[tkY,Bool.and_eq_true] at hc
         refine fD hg (Region.noSelect_spec hs) (fun _ _ _ h=>h) (by simp) (fun _ _ _=>rfl) _ listed a w (Region.free_spec hg hc.1.1.1) hdn hr hy hb ?_
         have ag:=put' (s1:=s) (x:=y) rfl rfl (Am.refl _)
         exact Ad G hs l _ K z hD' h (fun s2 a2 w2 β2 g1=>hQ s2 a2 w2 β2 ((ag.mono hDi).trans g1)) _ (hdn.set hr) hc.2 _ w β hb (invP hI) (r.put fun _=>q3)
      ·cases hop
     |_=>rw[hoo] at hop;cases hop
    |false=>
     simp only[cond_false] at hop
     simp only[wE,Bool.and_eq_true,beq_iff_eq] at hc
     refine fP hc.1 (by simp) fun i' hi'=> ?_
     simp at hi';subst hi'
     have hr:i'∈Region.ready .any al.toArray listed:=by rw[hc.1];simp
     rw[Bool.or_eq_true] at hop
     rcases hop with hop|hop
     ·cases hoo:o.op with
      |store t x y=>
       rw[hoo] at hop
       simp only[stW] at hop
       split at hop
       ·rename_i b off hx
        unfold one stp at h
        rw[hoo] at h
        simp only[hx] at h
        split at h
        ·rename_i ti b' off' ps h1 h2 h3
         cases h2
         split at h
         ·rename_i T cs us rv cv h4
          rw[aM] at h4
          cases hbb:(Nat.beq (len ps) ti.k&&(Nat.ble (off+ti.k) (len cs)&&uJ ps)) with
          |false=>rw[hbb] at h;cases h
          |true=>
           rw[hbb] at h
           simp only[cond_true] at h
           simp only[Bool.and_eq_true,aZ] at hbb
           obtain⟨w',β',t',bb,e1,r1,hev,hbel,e2,e3⟩:=qQ G.ti r hoo h1 hx h3 h4 (Nat.eq_of_beq_eq_true hbb.1) (Nat.le_of_ble_eq_true hbb.2.1) hbb.2.2
           have hyb:Yb bb:=(hI b _ _ bb h4 rfl e2 e3).1 (jI.1 hop)
           have hb':Bel Yb wS w':=hb.trans ⟨hbel.os,hbel.tape,hbel.output,hbel.size,fun k hk hy=>hbel.block k hk fun e=>hy (by rw[e];exact hyb)⟩
           have hI':=invP (x:= .l .any) (hI.go (E:=E) (Y:=Y) (t:=(trn s b (.box T (Mt cs off ps) (Mt us off (ps.map fun _=>Nat.succ s.m.k))) rv).t) (fr:=(trn s b (.box T (Mt cs off ps) (Mt us off (ps.map fun _=>Nat.succ s.m.k))) rv).fr) rfl r.hp (by simp[trn,bK]) hev)
           have ag:=put' (s1:=trn s b (.box T (Mt cs off ps) (Mt us off (ps.map fun _=>Nat.succ s.m.k))) rv) (x:= .l .any) rfl rfl (uV h4 (Nat.eq_of_beq_eq_true hbb.1) (Nat.le_of_ble_eq_true hbb.2.1) (r.aBL h4))
           refine wpOp_step hg fun K' hK'=> ?_
           rw[if_pos hw]
           refine wpo (.inr ⟨e1,rfl⟩) (hK' _ _ ⟨fun _=>hb',?_⟩)
           exact Ad G hs l _ K z hD' h (fun s2 a2 w2 β2 g1=>hQ s2 a2 w2 β2 ((ag.mono hDi).trans g1)) _ (hdn.set hr) hc.2.2 _ w' β' hb' hI' (r1.put fun _=>trivial)
         ·cases h
        ·rename_i h2 _;cases h2
        ·rename_i h2 _;cases h2
        ·cases h
       ·cases hop
      |_=>rw[hoo] at hop;cases hop
     ·have hc0:nZ FZ o.op=0:=by
       cases hoo:o.op<;>rw[hoo] at hop<;>first|rfl|cases hop
      have hgr:grd Y TI FZ al o s (fun s'=>aQb Y TI FZ al bs l s' K)=some z:=by
       unfold grd aFt;rw[hgd];exact h
      obtain⟨v,s1,h1,h2,h3,h4⟩:=aZa G r hc0 hgr
      have hI':Ng bs Yb wS.heap.size s1 β:=fun b e t k k1 k2 k3 k4=>by
       have hbl:b<s.m.o.length:=by rw[←r.hp.len];exact lt_of_some k3
       exact hI b _ t k (List.getElem?_eq_getElem hbl) ((h4.m.o b _ _ (List.getElem?_eq_getElem hbl) k1).2.1 k2) k3 k4
      refine wpOp_step hg fun K' hK'=> ?_
      rw[if_pos hw]
      rcases h1 with⟨_,h1⟩|⟨h1,_⟩
      ·refine wpo (.inl (h1 w (Ext.refl w))) (hK' _ _ ⟨fun _=>hb,?_⟩)
       exact Ad G hs l _ K z hD' h3 (fun s2 a2 w2 β2 g1=>hQ s2 a2 w2 β2 ((h4.mono hDi).trans g1)) _ (hdn.set hr) hc.2.2 _ w β hb hI' h2
      ·rw[hw] at h1;cases h1
def Env.pinned (E:Env U g)(l:List (Sv U×Value)):Env U g:=⟨E.X0,E.Y0,E.w0,E.prm,E.fr,E.h0,E.hY,E.hXY,E.hg,l++E.pin⟩
theorem aW.pins {C:Cod U}(r:aW C E s a w β){ps:List (Sv U×Value)}(h:∀x∈ps,x.1.mean C w (E.X β) β s.m x.2):aW C (E.pinned ps) s a w β:=
 ⟨⟨r.hp.ext,r.hp.len,r.hp.vers,r.hp.cnt,r.hp.new,r.hp.dist,r.hp.nd,r.hp.ok,fun x hx=>(List.mem_append.1 hx).elim (h x) (r.hp.pin x),r.hp.prm,r.hp.fr⟩,r.defers,r.tsz,r.tm⟩
theorem aW.aCM {C:Cod U}{ps:List (Sv U×Value)}(r:aW C (E.pinned ps) s a w β):aW C E s a w β:=
 ⟨⟨r.hp.ext,r.hp.len,r.hp.vers,r.hp.cnt,r.hp.new,r.hp.dist,r.hp.nd,r.hp.ok,fun x hx=>r.hp.pin x (List.mem_append.2 (.inr hx)),r.hp.prm,r.hp.fr⟩,r.defers,r.tsz,r.tm⟩
theorem aGi {C:Cod U}{m:Mm U}(H:Hp C E m β w):∀(bs:List Nat),bxs bs m.o=true→∃ps:List (Sv U×Value),(∀x∈ps,x.1.mean C w (E.X β) β m x.2)∧∀b∈bs,∃t k,β[b]? =some t∧t.b=some k∧(Sv.l (.box b 0),Value.pointer (some ⟨k,0,none⟩))∈ps
 |[],_=>⟨[],by simp,by simp⟩
 |b::bs,h=>by
  have h':(match nth m.o b with|some ⟨.box ..,_,_⟩=>bxs bs m.o|_=>false)=true:=h
  split at h'
  ·rename_i T cs us rv cv ho
   rw[aM] at ho
   obtain⟨t,ht⟩:=H.tr ho
   obtain⟨_,k,vs,e1,e2,e3,e4⟩:=H.ok b t _ ht ho
   obtain⟨ps,p1,p2⟩:=aGi H bs h'
   refine⟨(Sv.l (.box b 0),Value.pointer (some ⟨k,0,none⟩))::ps,fun x hx=> ?_,fun b' hb=> ?_⟩
   ·rcases List.mem_cons.1 hx with rfl|hx
    ·exact⟨rfl,_,t,ho,ht,fun _=>⟨k,e1,rfl⟩⟩
    ·exact p1 x hx
   ·rcases List.mem_cons.1 hb with rfl|hb
    ·exact⟨t,k,ht,e1,by simp⟩
    ·obtain⟨t',k',q1,q2,q3⟩:=p2 b' hb
     exact⟨t',k',q1,q2,by simp[q3]⟩
  ·cases h'
theorem aQ8 {Yb:Nat→Prop}(hY:∀k,Yb k→E.X β k){t:Nat}{i:TInfo}(hti:tiB P t i=true){τ o:Nat}{zz:U.El τ}{y:Sv U}{v:Value}(hm:(Lf.ptr τ zz o:Lf U).mean Y.C w (E.X β) β s.m v)(h:load Y s i (.ptr τ zz o)=some y):
  ∃p v',v= .pointer (some p)∧(∀w',Bel Yb w w'→(loadVar t p).run P w'= .ok v' w')∧y.mean Y.C w (E.X β) β s.m v':=by
 simp only[load] at h
 have hm':Rd w (E.X β) [] v (.elem ((U.enc τ zz).drop o)):=hm
 cases v with
 |pointer p=>
  cases hm' with
  | @elem _ ad _ val hX hb hcell hrd=>
   have hlen:((List.range ((Y.C.cel τ zz).drop o).length).map val).length=((Y.C.cel τ zz).drop o).length:=by simp
   obtain⟨v',q1,q2⟩:=G9 (S:=Bel Yb w) (P:=P) (p:=ad) (vs:=(List.range ((Y.C.cel τ zz).drop o).length).map val) hti h (m:=s.m) (C:=Y.C) (w:=w) (X:=E.X β) (β:=β) ⟨hlen,fun j u c h5 h6=>by
     have hjl:=lt_of_some h6
     simp only[List.getElem?_map,List.getElem?_range hjl,Option.map_some,Option.some.injEq] at h5
     subst h5
     have hd:((U.enc τ zz).drop o)[j]? =some c.toV:=by
      rw[←Y.C.hcel,←List.map_drop,List.getElem?_map,h6];rfl
     have hr:=hrd j _ hd
     have hdat:=Y.C.hdat τ zz c (List.mem_of_mem_drop (List.mem_of_getElem? h6))
     cases c with
     |int k n=>exact hr.aAP
     |bool b=>exact hr.aAS
     |str b=>exact hr.aAR
     |sl τ' l=>exact hr
     |_=>cases hdat⟩ (fun w' he j u hj=>by
     have hjl:j<((Y.C.cel τ zz).drop o).length:=by have:=lt_of_some hj;rw[hlen] at this;exact this
     simp only[List.getElem?_map,List.getElem?_range hjl,Option.map_some,Option.some.injEq] at hj
     subst hj
     have hc:=hcell j (((U.enc τ zz).drop o)[j]'(by rw[←Y.C.hcel,←List.map_drop,List.length_map];exact hjl)) (List.getElem?_eq_getElem _)
     exact(World.cell?_of_block (a:=ad.add j) (w:=w) (w':=w') (by rw[add_block];exact he.block _ hb fun hy=>hX (hY _ hy))).trans hc)
   exact⟨_,v',rfl,q1,q2⟩
 |_=>cases hm'
def Bl (P:Program){γ:Type}(x:Sem γ):Prop:=∀(w w1:World) (v:γ),x.run P w= .ok v w1→w1=w∧∀w',x.run P w'= .ok v w'
theorem Bl.pure {γ:Type}(c:γ):Bl P (Pure.pure c:Sem γ):=fun w w1 v h=>by
 simp only[Sem.run_pure] at h ⊢
 injection h with h1 h2
 subst h1 h2
 exact⟨rfl,fun _=>rfl⟩
theorem Bl.bind {γ δ:Type}{x:Sem γ}{f:γ→Sem δ}(hx:Bl P x)(hf:∀c,Bl P (f c)):Bl P (x>>=f):=fun w w1 v h=>by
 rw[Sem.run_bind] at h
 cases hr:x.run P w with
 |ok c w2=>
  rw[hr] at h
  obtain⟨e,h1⟩:=hx _ _ _ hr
  subst e
  obtain⟨e2,h2⟩:=hf c _ _ _ h
  subst e2
  exact⟨rfl,fun w'=>by rw[Sem.run_bind,h1 w'];exact h2 w'⟩
 |halt y w2=>rw[hr] at h;cases h
theorem Bl.no {γ:Type}{x:Sem γ}(hx:∀(w w1:World) (v:γ),x.run P w≠ .ok v w1):Bl P x:=fun w w1 v h=>absurd h (hx w w1 v)
theorem Bl.ite {γ:Type}{c:Prop}[Decidable c]{x y:Sem γ}(hx:Bl P x)(hy:Bl P y):Bl P (if c then x else y):=by split<;>assumption
theorem Bl.und (t:TypeId):Bl P (underlying t):=fun w w1 v h=>by
 unfold underlying at h ⊢
 simp only[Sem.run_bind] at h ⊢
 cases hu:P.underlying t with
 |none=>simp[hu] at h
 |some d=>
  simp[hu] at h ⊢
  exact⟨h.2.symm,h.1⟩
theorem Bl.size (t:TypeId):Bl P (sizeOf t):=fun w w1 v h=>by
 unfold sizeOf typeInfo at h ⊢
 simp only[Sem.run_bind] at h ⊢
 cases hu:P.info? t with
 |none=>simp[hu] at h
 |some d=>
  simp[hu] at h ⊢
  exact⟨h.2.symm,h.1⟩
theorem Bl.sure (v:Value):Bl P (Instr.sureAddr v):=by
 unfold Instr.sureAddr
 split
 ·exact Bl.pure _
 ·exact Bl.no fun _ _ _ h=>by simp at h
theorem Bl.asInt (v:Value):Bl P (asIntOf v):=by
 unfold asIntOf
 split
 ·exact Bl.pure _
 ·exact Bl.no fun _ _ _ h=>by simp at h
 ·exact Bl.no fun _ _ _ h=>by simp at h
theorem then_ok {γ δ:Type}{x:Result γ}{f:γ→World→Result δ}{c:δ}{w1:World}(h:x.andThen f= .ok c w1):∃y w2,f y w2= .ok c w1:=by
 cases x with
 |ok y w2=>exact⟨y,w2,h⟩
 |halt y w2=>cases h
theorem Bl.stuck {γ:Type}(s:String):Bl P (stuck s:Sem γ):=Bl.no fun _ _ _ h=>by simp at h
theorem Bl.aDR {γ:Type}(u:Unsupported):Bl P (unsupported u:Sem γ):=Bl.no fun _ _ _ h=>by simp at h
theorem Bl.bounds {γ:Type}(k:IntKind)(x y:Int)(c:BoundsCode):Bl P (boundsPanic k x y c:Sem γ):=Bl.no fun w w1 v h=>by
 unfold boundsPanic at h
 dsimp only at h
 split at h<;>rw[Sem.run_bind] at h<;>obtain⟨_,_,h2⟩:=then_ok h<;>simp[runtimePanic] at h2
theorem Bl.index (t:TypeId)(A:Option Addr)(n c:Nat)(ix:Value):Bl P (Instr.indexAt t (.slice A n c) ix):=by
 unfold Instr.indexAt
 dsimp only
 repeat' first
  |with_reducible exact Bl.pure _
  |with_reducible exact Bl.bounds ..
  |with_reducible exact Bl.und _
  |with_reducible exact Bl.size _
  |with_reducible exact Bl.sure _
  |with_reducible exact Bl.asInt _
  |with_reducible exact Bl.stuck _
  |with_reducible exact Bl.aDR _
  |with_reducible refine Bl.ite ?_ ?_
  |with_reducible refine Bl.bind ?_ fun _=> ?_
  |split
theorem Bl.pick (o:Oper){c x y:Operand}(ho:o.op= .pick c x y)(ρ:Operand→Value):Bl P (execOp ρ o):=by
 simp only[execOp,ho]
 refine Bl.bind ?_ fun _=>Bl.pure _
 unfold asBool
 split
 ·exact Bl.pure _
 ·exact Bl.no fun _ _ _ h=>by simp at h
theorem aNi (G : Good P g Y TI FZ) {bs : List Nat} {Yb : Nat → Prop} {al : List Oper} {o : Oper} (r : aW Y.C E s a w β) (hI : Ng bs Yb w.heap.size s β) (hY : ∀ k, Yb k → E.X β k) (he : erl bs s o.op = true) {v : Value} (hv : (execOp a.eval o).run P w = .ok (.value v) w) {K : St U → Option α} {z : α} (h : one Y TI FZ o s K = some z) : ∀ w', Bel Yb w w' → (execOp a.eval o).run P w' = .ok (.value v) w' := by
  have vof : ∀ {x : Sem Value} {w1 : World} {u : Value}, x.run P w1 = .ok u w1 → (do pure (Next.value (← x)) : Sem Next).run P w1 = .ok (.value u) w1 := fun h => by simp [h]
  cases hoo : o.op with
  | move x => exact fun w' _ => Ht (by rw [hoo]; rfl) hv w'
  | assign x => exact fun w' _ => Ht (by rw [hoo]; rfl) hv w'
  | extract x i => exact fun w' _ => Ht (by rw [hoo]; rfl) hv w'
  | pick c x y => exact fun w' _ => (Bl.pick o hoo _ _ _ _ hv).2 w'
  | load t x =>
    rw [hoo] at he
    simp only [erl] at he
    unfold one at h
    rw [hoo] at h
    replace h : (match (match iF TI t, dN s x with
      | some i, .l p => load Y s i p
      | _, _ => none) with
      | some y => K (put s o.dst y)
      | none => none) = some z := h
    have fin : ∀ {p : Addr} {v' : Value}, a.eval x = .pointer (some p) → (∀ w', Bel Yb w w' → (loadVar t p).run P w' = .ok v' w') → ∀ w', Bel Yb w w' → (execOp a.eval o).run P w' = .ok (.value v) w' := fun {p v'} q1 q2 w' hb => by
      have e : ∀ w', Bel Yb w w' → (execOp a.eval o).run P w' = .ok (.value v') w' := fun w' hb => by simp [execOp, hoo, q1, Instr.loadAt, Instr.sureAddr, q2 w' hb]
      have := (e w (Bel.refl w)).symm.trans hv
      injection this with this _
      injection this with this
      rw [← this]; exact e w' hb
    split at he
    · rename_i b off hx
      rw [hx] at h
      cases hf : iF TI t with
      | none => rw [hf] at h; cases h
      | some ti =>
        rw [hf] at h
        simp only at h
        cases hld : load Y s ti (.box b off) with
        | none => rw [hld] at h; cases h
        | some y =>
          obtain ⟨p, v', q1, q2, _⟩ := aBw r hI (Bel.refl w) (bQ G.ti hf) (jC r hx) hld (aXm he)
          exact fin q1 q2
    · rename_i τ zz off hx
      rw [hx] at h
      cases hf : iF TI t with
      | none => rw [hf] at h; cases h
      | some ti =>
        rw [hf] at h
        simp only at h
        cases hld : load Y s ti (.ptr τ zz off) with
        | none => rw [hld] at h; cases h
        | some y =>
          obtain ⟨p, v', q1, q2, _⟩ := aQ8 hY (bQ G.ti hf) (jC r hx) hld
          exact fin q1 q2
    · cases he
  | fieldAddr t y f =>
    unfold one at h
    rw [hoo] at h
    replace h : (match (match iF TI t, dN s y with
      | some ⟨.st fs, _, _⟩, .l p => match fld fs f with
        | some (off, _, _) => match nR s.m off p with
          | some z => some (.l z)
          | none => none
        | none => none
      | _, _ => none) with
      | some y => K (put s o.dst y)
      | none => none) = some z := h
    cases hp : (match iF TI t, dN s y with
      | some ⟨.st fs, _, _⟩, .l p => match fld fs f with
        | some (off, _, _) => match nR s.m off p with
          | some z => some (Sv.l z)
          | none => none
        | none => none
      | _, _ => none) with
    | none => rw [hp] at h; cases h
    | some x0 =>
      split at hp
      · rename_i fs i z p h1 h2
        split at hp
        · rename_i off ft n h3
          split at hp
          · rename_i q h4
            have hfb := (Wj (bQ G.ti h1) rfl).2.1
            simp only [fld, aM] at h3
            have h5 := (aFz hfb h3).1
            rw [Nat.zero_add] at h5
            obtain ⟨v', q1, q2⟩ := Wn r h5 (jC r h2) h4
            have e : ∀ w' : World, (execOp a.eval o).run P w' = .ok (.value v') w' := fun w' => by simp [execOp, hoo, q1]
            have := (e w).symm.trans hv
            injection this with this _
            injection this with this
            intro w' _
            rw [← this]; exact e w'
          · cases hp
        · cases hp
      · cases hp
  | indexAddr t x y =>
    rw [hoo] at he
    simp only [erl] at he
    split at he
    · rename_i τ l k n hx hy
      have hm : Rd w (E.X β) [] (a.eval x) (.slice (U.K τ) (l.map (U.enc τ))) := jC r hx
      cases hvx : a.eval x with
      | slice A n c =>
        have e : ∀ w' : World, (execOp a.eval o).run P w' = (do pure (Next.value (← Instr.indexAt t (.slice A n c) (a.eval y))) : Sem Next).run P w' := fun w' => by simp only [execOp, hoo, hvx]
        rw [e] at hv
        intro w' _
        rw [e]
        exact (Bl.bind (Bl.index _ _ _ _ _) (fun _ => Bl.pure _) _ _ _ hv).2 w'
      | _ => rw [hvx] at hm; cases hm
    · cases he
  | binOp b t x y u =>
    rw [hoo] at he
    simp only [erl] at he
    have hxy : ∀ {k m k' n}, nY s x = .l (.int k m) → nY s y = .l (.int k' n) → a.eval x = .int k m ∧ a.eval y = .int k' n := fun {k m k' n} hx hy =>
      ⟨(jC r (x := x) (show dN s x = .l (.int k m) by unfold dN; rw [hx]; rfl)).1, (jC r (x := y) (show dN s y = .l (.int k' n) by unfold dN; rw [hy]; rfl)).1⟩
    intro w' _
    split at he <;> first
      | (rename_i k m k' n hx hy
         obtain ⟨e1, e2⟩ := hxy hx hy
         by_cases hk : k = k'
         · subst hk
           simp [execOp, hoo, e1, e2, eqGuard_at_int, binOp_add, binOp_sub, binOp_lss, binOp_leq, binOp_gtr, binOp_geq, binOp_eql, binOp_neq, Op.intArith] at hv ⊢
           exact hv
         · simp [execOp, hoo, e1, e2, eqGuard_at_int, binOp, hk] at hv)
      | cases he
  | _ => rw [hoo] at he; cases he
theorem Ng.am {bs:List Nat}{Yb:Nat→Prop}{n:Nat}(h:Ng bs Yb n s β)(r:Hp Y.C E s.m β w)(ha:Am s.m s'.m):Ng bs Yb n s' β:=fun b e t k k1 k2 k3 k4=>by
 have hbl:b<s.m.o.length:=by rw[←r.len];exact lt_of_some k3
 exact h b _ t k (List.getElem?_eq_getElem hbl) ((ha.o b _ _ (List.getElem?_eq_getElem hbl) k1).2.1 k2) k3 k4
theorem aTy {bs:List Nat}{o:Op}(h:erl bs s o=true):nZ FZ o=0:=by
 cases o<;>first|rfl|cases h
theorem aQ9 {d:Option Nat}{x:Sv U}:(EV.put s d x).m=s.m:=by cases d<;>rfl
theorem rZ (G:Good P g Y TI FZ)(hs:Region.noSelect al.toArray=true){bs:List Nat}{Yb:Nat→Prop}{wS:World}(hpin:∀b∈bs,∃k,Yb k∧((Sv.l (.box b 0):Sv U),Value.pointer (some ⟨k,0,none⟩))∈E.pin):∀(l:List (Nat×Bool)) (st:Bool) (s:St U) (K:St U→Option α) (z:α),(∀i∈l,∀o,al[i.1]? =some o→∀n,Wr al o n→D n)→opsV Y TI FZ al bs l st s K=some z→
  (∀s' a w β,Ag D s s'→K s'=some z→aW Y.C E s' a w β→Q .normal a w)→∀listed,Dn .any al.toArray listed→wE al.toArray none l listed=true→∀a w β,Bel Yb wS w→(st=true→w=wS∧(∀k,Yb k→E.X β k)∧Ng bs Yb wS.heap.size s β)→aW Y.C E s a w β→dE P .any al.toArray none (NoPanic Q) (Bel Yb wS) l.length listed a w
 |[],st,s,K,z,_,h,hQ,listed,_,hc,a,w,β,_,_,r=>jE (P:=P) (a0:=none) (S:=Bel Yb wS) (Q:=NoPanic Q) (by simpa[wE] using hc) (hQ s a w β (Ag.refl s) h r) 0
 |(i,fl)::l,st,s,K,z,hD,h,hQ,listed,hdn,hc,a,w,β,hb,hI,r=>by
  simp only[opsV,aM] at h
  cases ho:al[i]? with
  |none=>rw[ho] at h;cases h
  |some o=>
   rw[ho] at h
   simp only at h
   have hDi:=hD (i,fl) (by simp) o ho
   have hD':∀j∈l,∀o,al[j.1]? =some o→∀n,Wr al o n→D n:=fun j hj=>hD j (by simp[hj])
   have hg:al.toArray[i]? =some o:=by simpa using ho
   cases fl with
   |true=>
    cases st with
    |false=>cases h
    |true=>
     simp only[cond_true] at h
     obtain⟨rfl,hYX,hI⟩:=hI rfl
     simp only[wE,Bool.and_eq_true] at hc
     obtain⟨hr,_⟩:=kW hc.1
     obtain⟨s1,r1,h1,h2⟩:=rX r h
     have hI1:Ng bs Yb w.heap.size s1 β:=hI.am r.hp h1.m
     have hfr:=Region.free_spec hg (show Region.free .any al.toArray listed i=true by have:=hc.1;simp only[tkY,Bool.and_eq_true] at this;exact this.1.1)
     rcases h2 with⟨hw,h2⟩|⟨hw,h2⟩
     ·cases hel:erl bs s1 o.op with
      |false=>rw[hel] at h2;cases h2
      |true=>
       rw[hel] at h2
       simp only[cond_true] at h2
       have h2':=h2
       unfold one at h2'
       obtain⟨x,s2,k1,⟨v,p1,p2,p3⟩,k3,k4,k5⟩:=rW G r1 rfl (aTy hel) h2'
       have hy:YieldsIf P al.toArray (Bel Yb w) o v a:= .inl ⟨hw,fun w' he=>aNi (al:=al) G r1 hI1 hYX hel (p1 w (Ext.refl w)) h2 w' he⟩
       have ag:Ag (Wr al o) s (put s2 o.dst x):=Ag.put ⟨fun n hn=>by rw[k3];exact h1.t n hn,by rw[k3];exact h1.tl,by rw[k4];exact h1.fr,h1.m.trans k5⟩ (fun n e=> .inl e)
       refine fD hg (Region.noSelect_spec hs) (fun _ _ _ h=>h) (by simp) (fun _ _ _=>rfl) _ listed a w hfr hdn hr hy hb ?_
       exact rZ G hs hpin l true _ K z hD' k1 (fun s3 a3 w3 β3 g1=>hQ s3 a3 w3 β3 ((ag.mono hDi).trans g1)) _ (hdn.set hr) hc.2 _ w β hb (fun _=>⟨rfl,hYX,(hI1.am r1.hp k5).am p2.hp (by rw[aQ9];exact Am.refl _)⟩) (p2.put fun _=>p3)
     ·have hy:YieldsIf P al.toArray (Bel Yb w) o undef a:= .inr ⟨hw,rfl⟩
      have ag:Ag (Wr al o) s (put s1 o.dst (.l .und)):=h1.put (fun n e=> .inl e)
      refine fD hg (Region.noSelect_spec hs) (fun _ _ _ h=>h) (by simp) (fun _ _ _=>rfl) _ listed a w hfr hdn hr hy hb ?_
      exact rZ G hs hpin l true _ K z hD' h2 (fun s3 a3 w3 β3 g1=>hQ s3 a3 w3 β3 ((ag.mono hDi).trans g1)) _ (hdn.set hr) hc.2 _ w β hb (fun _=>⟨rfl,hYX,hI1.am r1.hp (by rw[aQ9];exact Am.refl _)⟩) (r1.put (x:= .l .und) (v:=undef) fun _=>rfl)
   |false=>
    simp only[cond_false] at h
    simp only[wE,Bool.and_eq_true,beq_iff_eq] at hc
    refine fP hc.1 (by simp) fun i' hi'=> ?_
    simp at hi';subst hi'
    have hr:i'∈Region.ready .any al.toArray listed:=by rw[hc.1];simp
    cases hcl:Nat.ble (nZ FZ o.op) 1 with
    |true=>
     rw[hcl] at h
     simp only[cond_true] at h
     refine wpOp_step hg fun K' hK'=>aFb G r h fun s' v w' β' g1 g2 g3 g4=> ?_
     have hb':Bel Yb wS w':=hb.trans (Bel.aBF (g4 hcl))
     exact hK' _ _ ⟨fun _=>hb',rZ G hs hpin l false s' K z hD' g2 (fun s2 a2 w2 β2 q1=>hQ s2 a2 w2 β2 ((g1.mono hDi).trans q1)) _ (hdn.set hr) hc.2.2 _ w' β' hb' (fun h=>by cases h) g3⟩
    |false=>
     rw[hcl] at h
     simp only[cond_false] at h
     cases hb0:(noG o&&stW bs s o.op) with
     |false=>rw[hb0] at h;cases h
     |true=>
      rw[hb0] at h
      simp only[cond_true] at h
      rw[Bool.and_eq_true] at hb0
      have hgd:o.guard=none:=by
       have:=hb0.1
       unfold noG at this
       split at this
       ·assumption
       ·cases this
      have hw:Region.wanted o (yielded al.toArray a.tmps)=true:=by simp[Region.wanted,hgd]
      have hop:=hb0.2
      cases hoo:o.op with
      |store t x y=>
       rw[hoo] at hop
       simp only[stW] at hop
       split at hop
       ·rename_i b off hx
        unfold one stp at h
        rw[hoo] at h
        simp only[hx] at h
        split at h
        ·rename_i ti b' off' ps h1 h2 h3
         cases h2
         split at h
         ·rename_i T cs us rv cv h4
          rw[aM] at h4
          cases hbb:(Nat.beq (len ps) ti.k&&(Nat.ble (off+ti.k) (len cs)&&uJ ps)) with
          |false=>rw[hbb] at h;cases h
          |true=>
           rw[hbb] at h
           simp only[cond_true] at h
           simp only[Bool.and_eq_true,aZ] at hbb
           obtain⟨w',β',t',bb,e1,r1,hev,hbel,e2,e3⟩:=qQ G.ti r hoo h1 hx h3 h4 (Nat.eq_of_beq_eq_true hbb.1) (Nat.le_of_ble_eq_true hbb.2.1) hbb.2.2
           have hyb:Yb bb:=by
            obtain⟨k,k1,k2⟩:=hpin b (jI.1 hop)
            obtain⟨_,e,t2,j1,j2,j3⟩:=(r.hp.pin _ k2:(Lf.box b 0:Lf U).mean Y.C w (E.X β) β s.m _)
            rw[h4] at j1;injection j1 with j1;subst j1
            obtain⟨b2,m1,m2⟩:=j3 rfl
            injection m2 with m2;injection m2 with m2;injection m2 with m2
            rw[e2] at j2;injection j2 with j2;subst j2
            rw[e3] at m1;injection m1 with m1
            subst m1;subst m2;exact k1
           have hb':Bel Yb wS w':=hb.trans ⟨hbel.os,hbel.tape,hbel.output,hbel.size,fun k hk hy=>hbel.block k hk fun e=>hy (by rw[e];exact hyb)⟩
           have ag:Ag (Wr al o) s (put (trn s b (.box T (Mt cs off ps) (Mt us off (ps.map fun _=>Nat.succ s.m.k))) rv) o.dst (.l .any)):=Ag.put (s:=s) (s':=trn s b (.box T (Mt cs off ps) (Mt us off (ps.map fun _=>Nat.succ s.m.k))) rv) (D:=Wr al o) ⟨fun n _=>rfl,rfl,rfl,uV h4 (Nat.eq_of_beq_eq_true hbb.1) (Nat.le_of_ble_eq_true hbb.2.1) (r.aBL h4)⟩ (fun n e=>Or.inl e)
           refine wpOp_step hg fun K' hK'=> ?_
           rw[if_pos hw]
           refine wpo (.inr ⟨e1,rfl⟩) (hK' _ _ ⟨fun _=>hb',?_⟩)
           exact rZ G hs hpin l false _ K z hD' h (fun s2 a2 w2 β2 g1=>hQ s2 a2 w2 β2 ((ag.mono hDi).trans g1)) _ (hdn.set hr) hc.2.2 _ w' β' hb' (fun h=>by cases h) (r1.put fun _=>trivial)
         ·cases h
        ·rename_i h2 _;cases h2
        ·rename_i h2 _;cases h2
        ·cases h
       ·cases hop
      |_=>rw[hoo] at hop;cases hop
end
end Go.EV

namespace Go.EV
open Go.RowKit Go.VK
variable {U:Uni} {Y:Lay U} {TI:List (Nat×TInfo)} {FZ:List (Nat×Sum U)} {P:Program} {g:GI} {E:Env U g}
section
variable {C:Cod U} {s:St U} {a:Act} {w w':World} {β:List Tr}
def Env.ahs (E:Env U g)(L:List (Nat×Obj))(hb:∀x∈L,E.w0.heap.size≤x.1):Env U g:=
 ⟨fun b'=>E.X0 b'∨∃x∈L,x.1=b',E.Y0,E.w0,L++E.prm,E.fr,fun b' h=>by
  rcases h with h|⟨x,hx,e⟩
  ·rcases E.h0 b' h with h|⟨x,hx,e⟩
   ·exact .inl h
   ·exact .inr ⟨x,by simp[hx],e⟩
  ·exact .inr ⟨x,by simp[hx],e⟩,E.hY,fun b' h hy=>by
  rcases h with h|⟨x,hx,rfl⟩
  ·exact E.hXY b' h hy
  ·have:=E.hY _ hy;have:=hb x hx;omega,E.hg,E.pin⟩
theorem Qh {L:List (Nat×Obj)}{hb:∀x∈L,E.w0.heap.size≤x.1}{β:List Tr}{b':Nat}:(E.ahs L hb).X β b'↔E.X β b'∨∃x∈L,x.1=b':=by
 unfold Env.X
 constructor
 ·rintro((h|h)|h|h)
  ·exact .inl (.inl h)
  ·exact .inr h
  ·exact .inl (.inr (.inl h))
  ·exact .inl (.inr (.inr h))
 ·rintro((h|h|h)|h)
  ·exact .inl (.inl h)
  ·exact .inr (.inl h)
  ·exact .inr (.inr h)
  ·exact .inl (.inr h)
theorem aW.aDS (r:aW C E s a w β){h}:aW C (E.ahs [] h) s a w β:=by
 have H:=r.hp
 have ev:Evo w w (E.X β) ((E.ahs [] h).X β) β β s.m s.m s.m.o.length s.m.ns.length s.m.k:=⟨Nat.le_refl _,fun b _ hb=>by
  rcases Qh.1 hb with hb|⟨x,hx,_⟩
  ·exact hb
  ·simp at hx,fun _ _ _ h=>h,Nat.le_refl _,fun a i f _ h=>⟨f,h⟩,fun i e t _ h1 h2=>⟨e,t,h1,h2,fun _=>⟨rfl,rfl⟩,fun _=>⟨rfl,rfl,rfl,fun b hb=>rfl⟩,fun h=>⟨h,rfl⟩⟩⟩
 exact⟨⟨H.ext,H.len,H.vers,H.cnt,H.new,H.dist,H.nd,fun i t e h1 h2=>Ob.aBC ev (H.ok i t e h1 h2) fun b hb=>rfl,fun x hx=>Sv.aAT ev (H.pin x hx),fun x hx=>H.prm x (by simpa[Env.ahs] using hx),H.fr⟩,r.defers,r.tsz,fun n x hx=>Sv.aAT ev (r.tm n x hx)⟩
theorem aW.aDT {h}(r:aW C (E.ahs [] h) s a w β):aW C E s a w β:=by
 have H:=r.hp
 have ev:Evo w w ((E.ahs [] h).X β) (E.X β) β β s.m s.m s.m.o.length s.m.ns.length s.m.k:=⟨Nat.le_refl _,fun b _ hb=>Qh.2 (.inl hb),fun _ _ _ h=>h,Nat.le_refl _,fun a i f _ h=>⟨f,h⟩,fun i e t _ h1 h2=>⟨e,t,h1,h2,fun _=>⟨rfl,rfl⟩,fun _=>⟨rfl,rfl,rfl,fun b hb=>rfl⟩,fun h=>⟨h,rfl⟩⟩⟩
 exact⟨⟨H.ext,H.len,H.vers,H.cnt,H.new,H.dist,H.nd,fun i t e h1 h2=>Ob.aBC ev (H.ok i t e h1 h2) fun b hb=>rfl,fun x hx=>Sv.aAT ev (H.pin x hx),fun x hx=>H.prm x (by simpa[Env.ahs] using hx),H.fr⟩,r.defers,r.tsz,fun n x hx=>Sv.aAT ev (r.tm n x hx)⟩
theorem aW.aCQ {L L':List (Nat×Obj)}{hL:∀x∈L,E.w0.heap.size≤x.1}{hL':∀x∈L',E.w0.heap.size≤x.1}(r:aW C (E.ahs L hL) s a w β)(h1:∀p∈L',p∈L)(h2:∀p∈L,p∈L'):aW C (E.ahs L' hL') s a w β:=by
 have H:=r.hp
 have ev:Evo w w ((E.ahs L hL).X β) ((E.ahs L' hL').X β) β β s.m s.m s.m.o.length s.m.ns.length s.m.k:=⟨Nat.le_refl _,fun b _ hb=>by
  rcases Qh.1 hb with hb|⟨x,hx,e⟩
  ·exact Qh.2 (.inl hb)
  ·exact Qh.2 (.inr ⟨x,h1 x hx,e⟩),fun _ _ _ h=>h,Nat.le_refl _,fun a i f _ h=>⟨f,h⟩,fun i e t _ h1 h2=>⟨e,t,h1,h2,fun _=>⟨rfl,rfl⟩,fun _=>⟨rfl,rfl,rfl,fun b hb=>rfl⟩,fun h=>⟨h,rfl⟩⟩⟩
 exact⟨⟨H.ext,H.len,H.vers,H.cnt,H.new,H.dist,H.nd,fun i t e h1 h2=>Ob.aBC ev (H.ok i t e h1 h2) fun b hb=>rfl,fun x hx=>Sv.aAT ev (H.pin x hx),fun x hx=>H.prm x (by
  have hx':x∈L'++E.prm:=hx
  rcases List.mem_append.1 hx' with hx'|hx'
  ·exact List.mem_append.2 (.inl (h1 x hx'))
  ·exact List.mem_append.2 (.inr hx')),H.fr⟩,r.defers,r.tsz,fun n x hx=>Sv.aAT ev (r.tm n x hx)⟩
theorem bBo {L:List (Nat×Obj)}{hb:∀x∈L,E.w0.heap.size≤x.1}(r:aW C (E.ahs L hb) s a w β):∀x∈L,x.1<w.heap.size:=fun x hx=>
 (Array.getElem?_eq_some_iff.1 (r.hp.prm x (List.mem_append.2 (.inl hx))).2.1).1
theorem aW.aCP {L:List (Nat×Obj)}{hb:∀x∈L,E.w0.heap.size≤x.1}(r:aW C (E.ahs L hb) s a w β){blk:Obj}(hw:E.w0.heap.size≤w.heap.size){hb'}:aW C (E.ahs ((w.heap.size,blk)::L) hb') s a (w.alloc blk) β:=by
 have H:=r.hp
 have he:Ext w (w.alloc blk):=Ext.alloc _ _
 have hbs:(w.alloc blk).heap[w.heap.size]? =some blk:=by show(w.heap.push blk)[w.heap.size]? =some blk;simp
 have ev:Evo w (w.alloc blk) ((E.ahs L hb).X β) ((E.ahs ((w.heap.size,blk)::L) hb').X β) β β s.m s.m s.m.o.length s.m.ns.length s.m.k:=⟨he.size,fun b hb1 h=>by
  rcases Qh.1 h with h|⟨x,hx,e⟩
  ·exact Qh.2 (.inl h)
  ·rcases List.mem_cons.1 hx with rfl|hx
   ·have e:w.heap.size=b:=e
    omega
   ·exact Qh.2 (.inr ⟨x,hx,e⟩),fun _ _ _ h=>he.cell h,Nat.le_refl _,fun a i f _ h=>⟨f,h⟩,fun i e t _ h1 h2=>⟨e,t,h1,h2,fun _=>⟨rfl,rfl⟩,fun _=>⟨rfl,rfl,rfl,fun b hb=>he.block b (H.new i t b h2 hb).2⟩,fun h=>⟨h,rfl⟩⟩⟩
 refine⟨⟨H.ext.trans (Bel.aBF he),H.len,H.vers,H.cnt,fun i t b h1 h2=>⟨(H.new i t b h1 h2).1,Nat.lt_of_lt_of_le (H.new i t b h1 h2).2 he.size⟩,H.dist,H.nd,fun i t e h1 h2=>Ob.aBC ev (H.ok i t e h1 h2) fun b hb=>he.block b (H.new i t b h1 hb).2,fun x hx=>Sv.aAT ev (H.pin x hx),fun x hx=> ?_,fun f hf=> ?_⟩,r.defers,r.tsz,fun n x hx=>Sv.aAT ev (r.tm n x hx)⟩
 ·have hx':x∈(w.heap.size,blk)::(L++E.prm):=hx
  rcases List.mem_cons.1 hx' with rfl|hx'
  ·refine⟨hw,hbs,fun f hf=> ?_,fun i t ht hm=> ?_⟩
   ·exact(H.fr f hf).2.2.1
   ·have:=(H.new i t _ ht hm).2;omega
  ·obtain⟨h1,h2,h3,h4⟩:=H.prm x hx'
   exact⟨h1,(he.block _ (Array.getElem?_eq_some_iff.1 h2).1).trans h2,h3,h4⟩
 ·obtain⟨h1,h2,h0,h3⟩:=H.fr f hf
  exact⟨h1,h2,Nat.le_trans h0 he.size,h3.imp id fun q=>⟨q.1.trans he,q.2⟩⟩
theorem aW.aCB {L L':List (Nat×Obj)}{hL:∀x∈L,E.w0.heap.size≤x.1}{hL':∀x∈L',E.w0.heap.size≤x.1}(r:aW C (E.ahs L hL) s a w β){b:Nat}{blk:Obj}(hm:(b,blk)∈L)(hs1:∀x∈L',x∈L∧x.1≠b)(hP:E.prm=[]){e':EO U}{t':Tr}{k':Nat}(hk:s.m.k≤k')(hv:e'.rv≤k'∧e'.cv≤k')(ht:t'.all=[b])
  (hok:Evo w w ((E.ahs L hL).X β) ((E.ahs L' hL').X (β++[t'])) β (β++[t']) s.m ⟨s.m.o++[e'],k',s.m.ns⟩ s.m.o.length s.m.ns.length s.m.k→w.heap[b]? =some blk→e'.ob.ok C w ((E.ahs L' hL').X (β++[t'])) (β++[t']) ⟨s.m.o++[e'],k',s.m.ns⟩ t'):
  aW C (E.ahs L' hL') ⟨s.t,⟨s.m.o++[e'],k',s.m.ns⟩,s.fr⟩ a w (β++[t']):=by
 have H:=r.hp
 have hlen:=H.len
 obtain⟨p1,p2,p3,p4⟩:=H.prm (b,blk) (List.mem_append.2 (.inl hm))
 have hbl:b<w.heap.size:=(Array.getElem?_eq_some_iff.1 p2).1
 have ev:Evo w w ((E.ahs L hL).X β) ((E.ahs L' hL').X (β++[t'])) β (β++[t']) s.m ⟨s.m.o++[e'],k',s.m.ns⟩ s.m.o.length s.m.ns.length s.m.k:=by
  refine⟨Nat.le_refl _,fun b' _ h=>Qh.2 ?_,fun _ _ _ h=>h,hk,fun a i f _ h=>⟨f,h⟩,fun i e t hi he ht'=>⟨e,t,?_,?_,fun _=>⟨rfl,rfl⟩,fun _=>⟨rfl,rfl,rfl,fun _ _=>rfl⟩,fun h=>⟨h,rfl⟩⟩⟩
  ·rcases Qh.1 h with h|⟨x,hx,e⟩
   ·rcases h with h|h|⟨u,hu,hm'⟩
    ·exact .inl (.inl h)
    ·exact .inl (.inr (.inl h))
    ·rcases List.mem_append.1 hu with hu|hu
     ·exact .inl (.inr (.inr ⟨u,hu,hm'⟩))
     ·simp at hu;subst hu;rw[ht] at hm';simp at hm';exact .inr ⟨_,hm,hm'.symm⟩
   ·exact .inr ⟨x,(hs1 x hx).1,e⟩
  ·exact(List.getElem?_append_left hi).trans he
  ·exact(List.getElem?_append_left (lt_of_some ht')).trans ht'
 have hb':∀(i:Nat) (t:Tr),(β++[t'])[i]? =some t→β[i]? =some t∨(i=β.length∧t=t'):=fun i t h=>by
  by_cases hi:i<β.length
  ·rw[List.getElem?_append_left hi] at h;exact .inl h
  ·have:=lt_of_some h
   simp at this
   have e:i=β.length:=by omega
   subst e;simp at h;exact .inr ⟨rfl,h.symm⟩
 have ho':∀(i:Nat) (e:EO U),(s.m.o++[e'])[i]? =some e→s.m.o[i]? =some e∨(i=s.m.o.length∧e=e'):=fun i e h=>by
  by_cases hi:i<s.m.o.length
  ·rw[List.getElem?_append_left hi] at h;exact .inl h
  ·have:=lt_of_some h
   simp at this
   have e1:i=s.m.o.length:=by omega
   subst e1;simp at h;exact .inr ⟨rfl,h.symm⟩
 refine⟨⟨H.ext,by simp[hlen],fun i e he=> ?_,H.cnt,fun i t x h1 h2=> ?_,fun i j t u x hij h1 h2 h3 h4=> ?_,fun i t h1=> ?_,fun i t e h1 h2=> ?_,fun x hx=>Sv.aAT ev (H.pin x hx),fun x hx=> ?_,fun f hf=> ?_⟩,r.defers,r.tsz,fun n x hx=>Sv.aAT ev (r.tm n x hx)⟩
 ·rcases ho' i e he with h|⟨_,rfl⟩
  ·have:=H.vers i e h;exact⟨Nat.le_trans this.1 hk,Nat.le_trans this.2 hk⟩
  ·exact hv
 ·rcases hb' i t h1 with h|⟨_,rfl⟩
  ·exact H.new i t x h h2
  ·rw[ht] at h2;simp at h2;subst h2;exact⟨.inl p1,hbl⟩
 ·rcases hb' i t h1 with h|⟨ei,rfl⟩<;>rcases hb' j u h2 with h'|⟨ej,rfl⟩
  ·exact H.dist i j t u x hij h h' h3 h4
  ·rw[ht] at h4;simp at h4;subst h4;exact p4 i t h h3
  ·rw[ht] at h3;simp at h3;subst h3;exact p4 j u h' h4
  ·exact hij (ei.trans ej.symm)
 ·rcases hb' i t h1 with h|⟨_,rfl⟩
  ·exact H.nd i t h
  ·rw[ht];simp
 ·rcases hb' i t h1 with h|⟨ei,rfl⟩
  ·rcases ho' i e h2 with h'|⟨ei,_⟩
   ·exact Ob.aBC ev (H.ok i t e h h') fun _ _=>rfl
   ·have:=lt_of_some h;rw[hlen] at this;omega
  ·rcases ho' i e h2 with h'|⟨_,rfl⟩
   ·have:=lt_of_some h';rw[hlen] at ei;omega
   ·exact hok ev p2
 ·have hx':x∈L'++E.prm:=hx
  rw[hP,List.append_nil] at hx'
  obtain⟨q1,q2⟩:=hs1 x hx'
  obtain⟨h1,h2,h3,h4⟩:=H.prm x (List.mem_append.2 (.inl q1))
  refine⟨h1,h2,h3,fun i t h5 h6=> ?_⟩
  rcases hb' i t h5 with h|⟨_,rfl⟩
  ·exact h4 i t h h6
  ·rw[ht] at h6;simp at h6;exact q2 h6
 ·obtain⟨h1,h2,h0,h3⟩:=H.fr f hf
  refine⟨by simp;omega,Nat.le_trans h2 hk,h0,?_⟩
  rcases h3 with⟨j,e,q1,q2,q3⟩|⟨q1,q2⟩
  ·exact .inl ⟨j,e,q1,(List.getElem?_append_left (lt_of_some q2)).trans q2,q3⟩
  ·refine .inr ⟨q1,fun i t x hi h1 hx=> ?_⟩
   rcases hb' i t h1 with h|⟨_,rfl⟩
   ·exact q2 i t x hi h hx
   ·rw[ht] at hx;simp at hx;subst hx;exact p3 f hf
theorem aSn (G:Good P g Y TI FZ){L L':List (Nat×Obj)}{hL:∀x∈L,E.w0.heap.size≤x.1}{hL':∀x∈L',E.w0.heap.size≤x.1}(r:aW Y.C (E.ahs L hL) s a w β){b:Nat}{blk:Obj}(hm:(b,blk)∈L)(hs1:∀x∈L',x∈L∧x.1≠b)(hP:E.prm=[]){o:Oper}(hf:Flp P a o blk)(hg:uU Y TI s o.op=true){α:Type}{K:Sv U→St U→Option α}{z:α}(h:stp Y TI FZ s o.op K=some z):
  ∃x s' β',K x s'=some z∧aW Y.C (E.ahs L' hL') s' a w β'∧x.mean Y.C w ((E.ahs L' hL').X β') β' s'.m (mkF o.op b)∧s'.t=s.t∧s'.fr=s.fr∧Am s.m s'.m:=by
 have hlen:=r.hp.len
 cases ho:o.op with
 |alloc T=>
  rw[ho] at hg h
  obtain⟨i,hi⟩:=Ho hg
  obtain⟨vs,k,hM⟩:=Rp (Y:=Y) (a:=a) G.ti ho hi
  have hblk:=hf.inj w k
  subst hblk
  have h':K (.l (.box (len s.m.o) 0)) (psh s (.box T (i.z.map Kz.lf) (i.z.map fun _=>s.m.k)))=some z:=by
   have:stp Y TI FZ s (.alloc T) K=match iF TI T with
    |some i=>K (.l (.box (len s.m.o) 0)) (psh s (.box T (i.z.map Kz.lf) (i.z.map fun _=>s.m.k)))
    |none=>none:=rfl
   rw[this,hi] at h;exact h
  have r':=r.aCB (hL':=hL') hm hs1 hP (e':=⟨.box T (i.z.map Kz.lf) (i.z.map fun _=>s.m.k),s.m.k,s.m.k⟩) (t':=⟨some b,0,0,[]⟩) (Nat.le_refl _) ⟨Nat.le_refl _,Nat.le_refl _⟩ rfl (fun hev hbk=>⟨by simp,b,vs.toList,rfl,rfl,by simpa using hbk,hM _ _ _ _⟩)
  refine⟨_,_,_,h',r',⟨rfl,⟨.box T (i.z.map Kz.lf) (i.z.map fun _=>s.m.k),s.m.k,s.m.k⟩,⟨some b,0,0,[]⟩,?_,?_,fun _=>⟨_,rfl,rfl⟩⟩,rfl,rfl,Am.add _ _⟩
  ·simp[psh,aZ]
  ·rw[List.getElem?_append_right (by rw[hlen,aZ];exact Nat.le_refl _),hlen,aZ];simp
 |buildSlice t n ps=>
  rw[ho] at hg h
  obtain⟨e,ek,eb,k,zz,l,d,h1,h2,h3,h4,h5⟩:=Hq hg
  obtain⟨cells,q1,q2,q3,q4,q5,q6⟩:=H9 G.ti G.lay r ho h1 h2 h3 h4 h5
  have hblk:=hf.inj w q1
  subst hblk
  have hst:∀o':List (EO U),o'=s.m.o++[(⟨.tree e d l,s.m.k,Nat.succ s.m.k⟩:EO U)]→K (.l (.own (len s.m.o) s.m.k)) ⟨s.t,⟨o',Nat.succ s.m.k,s.m.ns⟩,s.fr⟩=some z:=fun o' ho'=>by
   have:stp Y TI FZ s (.buildSlice t n ps) K=bif Nat.beq (len ps.toList) n&&(Nat.ble (n*ek) 16777216&&He (U:=U) e ek e) then(bif dist (len s.m.o::[]) then K (.l (.own (len s.m.o) s.m.k)) ⟨s.t,⟨upd (s.m.o++[⟨.dead,s.m.k,s.m.k⟩]) (len s.m.o) ⟨.tree e d l,s.m.k,Nat.succ s.m.k⟩,Nat.succ s.m.k,s.m.ns⟩,s.fr⟩ else none) else none:=by
    show(match iF TI t with
     |some ⟨.sl e ek _,_,_⟩=>_
     |_=>none)=_
    rw[h1]
    simp only
    rw[h5]
    rfl
   rw[this,aZ,h2] at h
   rw[show Nat.beq n n=true from Nat.beq_refl n,Nat.ble_eq_true_of_le h3,h4] at h
   simp only[Bool.and_self,cond_true] at h
   have hd:dist [len s.m.o]=true:=rfl
   rw[hd] at h
   simp only[cond_true] at h
   rw[bK,aZ,List.set_append_right _ _ (Nat.le_refl _),Nat.sub_self] at h
   rw[ho',aZ];exact h
  have r':=r.aCB (hL':=hL') hm hs1 hP (e':=⟨.tree e d l,s.m.k,Nat.succ s.m.k⟩) (t':=⟨some b,n,n,[]⟩) (Nat.le_succ _) ⟨Nat.le_succ _,Nat.le_refl _⟩ rfl (fun hev hbk=>by
   refine⟨q2,cells.toList,?_,q6.conv (Nat.le_refl _) hev.hX (fun _ _ _ h=>h) (by simp)⟩
   exact⟨by rw[q4,Array.length_toList,q5], .inr ⟨b,n,cells,by rw[q4];rfl,Nat.zero_le _,hbk,by rw[q4];exact Nat.le_refl _,q3,q5,by rw[q4];exact List.take_of_length_le (by rw[Array.length_toList,q5];exact Nat.le_refl _)⟩⟩)
  refine⟨_,_,_,hst _ rfl,r',⟨⟨Nat.le_succ _,rfl⟩,⟨.tree e d l,s.m.k,Nat.succ s.m.k⟩,⟨some b,n,n,[]⟩,?_,?_,fun _=>rfl⟩,rfl,rfl,?_⟩
  ·simp[aZ]
  ·rw[List.getElem?_append_right (by rw[hlen,aZ];exact Nat.le_refl _),hlen,aZ];simp
  ·have a1:=(Am.add s.m [(⟨.dead,s.m.k,s.m.k⟩:EO U)]).trans (Am.tree (ids:=[]) (i:=len s.m.o) (τ:=e) (d:=d) (l:=l) (rv:=s.m.k) _)
   have e1:(⟨Mv (Nat.succ s.m.k) [] (upd (s.m.o++[(⟨.dead,s.m.k,s.m.k⟩:EO U)]) (len s.m.o) ⟨.tree e d l,s.m.k,Nat.succ s.m.k⟩),Nat.succ s.m.k,s.m.ns⟩:Mm U)=⟨s.m.o++[⟨.tree e d l,s.m.k,Nat.succ s.m.k⟩],Nat.succ s.m.k,s.m.ns⟩:=by
    rw[bK,aZ,List.set_append_right _ _ (Nat.le_refl _),Nat.sub_self];rfl
   exact e1▸a1
 |_=>rw[ho] at hg;cases hg
def Ww:Op→Bool
 | .call ⟨.value (.func _),_,_⟩=>true
 |_=>false
def FlC (Y:Lay U)(FZ:List (Nat×Sum U))(s:St U)(o:Oper)(x:Sv U):Prop:=∃(f:FuncId) (xa:Array Operand) (ats:Array TypeId) (S:Sum U) (z:kV U S.ar) (q:kV U S.rs),o.op= .call {callee:= .value (.func f),args:=xa,argTypes:=ats}∧iF FZ f=some S∧gG Y s.m S.ar (xa.toList.map (dN s))=some z∧S.wt=false∧S.fr=false∧iX (xa.toList.map (dN s))=true∧nS (xa.toList.map (nY s))=true∧S.m z=some q∧pO (aY Y S.rs q)=x
theorem Wx:∀{cs:List (Lf U)},Wh cs=true→zW cs=true
 |[],_=>rfl
 |c::cs,h=>by
  have h:(aFx c&&Wh cs)=true:=h
  rw[Bool.and_eq_true] at h
  show(jG c&&zW cs)=true
  rw[Wx h.2,Bool.and_true]
  cases c<;>first|rfl|cases h.1
theorem Rq:∀{xs:List (Sv U)},nS xs=true→iX xs=true
 |[],_=>rfl
 |x::xs,h=>by
  have h:(Ri x&&nS xs)=true:=h
  rw[Bool.and_eq_true] at h
  show(aFq x&&iX xs)=true
  rw[Rq h.2,Bool.and_true]
  cases x with
  |l y=>cases y<;>first|rfl|cases h.1
  |a cs=>exact Wx h.1
  |t _=>cases h.1
theorem aSo {x:Sv U}{m m':Mm U}:Ri x=true→(match x with| .l y=>Sv.l (rsv m.ns y)|y=>y)=x:=fun h=>by
 cases x with
 |l y=>cases y<;>first|rfl|cases h
 |_=>rfl
theorem rF {s:St U}:∀{xs:List Operand},nS (xs.map (nY s))=true→xs.map (dN s)=xs.map (nY s)
 |[],_=>rfl
 |x::xs,h=>by
  have h:(Ri (nY s x)&&nS (xs.map (nY s)))=true:=h
  rw[Bool.and_eq_true] at h
  rw[List.map_cons,List.map_cons,rF h.2]
  exact congrArg (·::_) (aSo (m:=s.m) (m':=s.m) h.1)
variable {α:Type}
theorem aXn {o:Oper}{K:Option α}{z:α}(h:flc Y TI FZ s o K=some z):K=some z∧((Ww o.op=false∧uU Y TI s o.op=true)∨(Ww o.op=true∧∃x,FlC Y FZ s o x)):=by
 unfold flc at h
 split at h
 ·rename_i f xa ats ho
  cases hf:iF FZ f with
  |none=>rw[hf] at h;cases h
  |some S=>
   rw[hf] at h
   simp only at h
   cases hz:gG Y s.m S.ar (xa.toList.map (dN s)) with
   |none=>rw[hz] at h;cases h
   |some a=>
    rw[hz] at h
    simp only at h
    cases hb:(!S.wt&&(!S.fr&&nS (xa.toList.map (nY s)))) with
    |false=>rw[hb] at h;cases h
    |true=>
     rw[hb] at h
     simp only[cond_true] at h
     obtain⟨q,h1,h2⟩:=fK h
     simp only[Bool.and_eq_true,Bool.not_eq_true'] at hb
     exact⟨h2, .inr ⟨by rw[ho];rfl,_,f,xa,ats,S,a,q,ho,hf,hz,hb.1,hb.2.1,by rw[rF hb.2.2];exact Rq hb.2.2,hb.2.2,h1,rfl⟩⟩
 ·rename_i hne
  cases hb:uU Y TI s o.op with
  |false=>rw[hb] at h;cases h
  |true=>
   rw[hb] at h
   refine⟨h, .inl ⟨?_,rfl⟩⟩
   cases hc:Ww o.op with
   |false=>rfl
   |true=>
    unfold Ww at hc
    split at hc
    ·rename_i f xa ats ho;exact absurd ho (hne f xa ats)
    ·cases hc
theorem aNj {al:List Oper}{K:Option α}{z:α}:∀(fs:List Nat),bBb Y TI FZ al s fs K=some z→K=some z∧∀j∈fs,∃o,al[j]? =some o∧o.guard=none∧aKz s o.dst=true∧aK0 o o.dst=true∧((Ww o.op=false∧uU Y TI s o.op=true)∨(Ww o.op=true∧∃x,FlC Y FZ s o x))
 |[],h=>⟨h,by simp⟩
 |j::fs,h=>by
  have h:(match nth al j with
   |some o=>bif Wd o.guard&&(aKz s o.dst&&aK0 o o.dst) then flc Y TI FZ s o (bBb Y TI FZ al s fs K) else none
   |none=>none)=some z:=h
  rw[aM] at h
  cases ho:al[j]? with
  |none=>rw[ho] at h;cases h
  |some o=>
   rw[ho] at h
   simp only at h
   cases hb:(Wd o.guard&&(aKz s o.dst&&aK0 o o.dst)) with
   |false=>rw[hb] at h;cases h
   |true=>
    rw[hb] at h
    simp only[cond_true] at h
    obtain⟨h1,h2⟩:=aXn h
    obtain⟨h3,h4⟩:=aNj fs h1
    simp only[Bool.and_eq_true] at hb
    refine⟨h3,fun j' hj=> ?_⟩
    rcases List.mem_cons.1 hj with rfl|hj
    ·refine⟨o,ho,?_,hb.2.1,hb.2.2,h2⟩
     cases hg:o.guard with
     |none=>rfl
     |some x=>rw[hg] at hb;cases hb.1
    ·exact h4 j' hj
theorem kI {i j:Nat}:∀{l:List Nat},j∈E9 i l↔j∈l∧j≠i
 |[]=>by simp[E9]
 |x::l=>by
  have e:E9 i (x::l)=bif Nat.beq x i then E9 i l else x::E9 i l:=rfl
  rw[e]
  cases hb:Nat.beq x i with
  |true=>
   have:=Nat.eq_of_beq_eq_true hb;subst this
   simp only[cond_true,List.mem_cons]
   rw[kI]
   constructor
   ·rintro⟨h1,h2⟩;exact⟨.inr h1,h2⟩
   ·rintro⟨h1|h1,h2⟩
    ·exact absurd h1 h2
    ·exact⟨h1,h2⟩
  |false=>
   have hne:x≠i:=fun e=>by subst e;rw[show Nat.beq x x=true from Nat.beq_refl x] at hb;cases hb
   simp only[cond_false,List.mem_cons]
   rw[kI]
   constructor
   ·rintro(rfl|⟨h1,h2⟩)
    ·exact⟨.inl rfl,hne⟩
    ·exact⟨.inr h1,h2⟩
   ·rintro⟨rfl|h1,h2⟩
    ·exact .inl rfl
    ·exact .inr ⟨h1,h2⟩
abbrev Rec:=List (Nat×Option (Nat×Obj))
def I5 (R:Rec):List (Nat×Obj):=R.filterMap Prod.snd
def Rec.rm (R:Rec)(i:Nat):Rec:=R.filter fun x=> !Nat.beq x.1 i
theorem Rec.aCC {R:Rec}{i:Nat}{x:Nat×Option (Nat×Obj)}:x∈R.rm i↔x∈R∧x.1≠i:=by
 unfold Rec.rm
 rw[List.mem_filter]
 refine and_congr_right fun _=> ?_
 constructor
 ·intro h e
  rw[e] at h
  simp at h
 ·intro h
  cases hb:Nat.beq x.1 i with
  |false=>rfl
  |true=>exact absurd (Nat.eq_of_beq_eq_true hb) h
theorem Rec.aBX {i:Nat}:∀{R:Rec},(R.rm i).map Prod.fst=E9 i (R.map Prod.fst)
 |[]=>rfl
 |x::R=>by
  have e:E9 i ((x::R).map Prod.fst)=bif Nat.beq x.1 i then E9 i (R.map Prod.fst) else x.1::E9 i (R.map Prod.fst):=rfl
  rw[e,←Rec.aBX]
  unfold Rec.rm
  cases hb:Nat.beq x.1 i with
  |true=>rw[List.filter_cons_of_neg (by rw[hb];simp)];rfl
  |false=>rw[List.filter_cons_of_pos (by rw[hb];rfl)];rfl
theorem Ae {R:Rec}{p:Nat×Obj}:p∈I5 R↔∃j,(j,some p)∈R:=by
 unfold I5
 rw[List.mem_filterMap]
 constructor
 ·rintro⟨⟨j,q⟩,h1,h2⟩;exact⟨j,by have:q=some p:=h2;rw[←this];exact h1⟩
 ·rintro⟨j,h⟩;exact⟨_,h,rfl⟩
def aGj (P : Program) (Y : Lay U) (FZ : List (Nat × Sum U)) (pn : List (Sv U × Value)) (al : List Oper) (s : St U) (a : Act) (x : Nat × Option (Nat × Obj)) : Prop := ∃ oj, al[x.1]? = some oj ∧
  ((∃ b blk, x.2 = some (b, blk) ∧ Ww oj.op = false ∧ Flp P a oj blk ∧ ∀ n, oj.dst = some n → a.tmps.getD n undef = mkF oj.op b) ∨
   (∃ y v, x.2 = none ∧ Ww oj.op = true ∧ FlC Y FZ s oj y ∧ (oj.dst ≠ none → (y, v) ∈ pn) ∧ ∀ d, oj.dst = some d → a.tmps.getD d undef = v))
theorem aGj.mono {pn pn':List (Sv U×Value)}{al:List Oper}{x:Nat×Option (Nat×Obj)}(h:aGj P Y FZ pn al s a x)(hp:∀p∈pn,p∈pn'):aGj P Y FZ pn' al s a x:=by
 obtain⟨oj,h1,h2⟩:=h
 refine⟨oj,h1,h2.imp id ?_⟩
 rintro⟨y,v,k1,k2,k3,k4,k5⟩
 exact⟨y,v,k1,k2,k3,fun h=>hp _ (k4 h),k5⟩
theorem aRa {oj:Oper}{d:Option Nat}(h:aFy oj d=true):∀n,oj.dst=some n→d≠some n:=fun n hn e=>by
 subst e
 simp only[aFy,hn,Bool.and_eq_true] at h
 have:=h.1
 rw[show Nat.beq n n=true from Nat.beq_refl n] at this
 cases this
theorem aSp {oj:Oper}{d:Option Nat}(h:aFy oj d=true):aK0 oj d=true:=by
 simp only[aFy,Bool.and_eq_true] at h;exact h.2
theorem aXo {oj:Oper}{d:Option Nat}(h:aK0 oj d=true)(hc:Ww oj.op=false):aR6 oj d=true:=by
 cases d with
 |none=>rfl
 |some n=>
  unfold aK0 at h
  simp only at h
  split at h
  ·rename_i f xa ats ho;rw[ho] at hc;cases hc
  ·exact h
theorem aNk {m m':Mm U}{kd:Kd}{x:Lf U}(h:aFx x=true):F7 m kd x=F7 m' kd x:=by
 cases x<;>first|rfl|cases h
theorem aNl {m m':Mm U}:∀{ks:List Kd} {cs:List (Lf U)},Wh cs=true→F8 m ks cs=F8 m' ks cs
 |[],[],_=>rfl
 |[],_::_,_=>rfl
 |_::_,[],_=>rfl
 |k::ks,c::cs,h=>by
  have h:(aFx c&&Wh cs)=true:=h
  rw[Bool.and_eq_true] at h
  simp only[F8,aNk (m:=m) (m':=m') h.1,aNl (m:=m) (m':=m') h.2]
theorem aGk {m m':Mm U}{kd:Kd}{x:Sv U}(h:Ri x=true):pI Y m kd x=pI Y m' kd x:=by
 cases x with
 |l y=>cases kd<;>simp only[pI,aNk (m:=m) (m':=m') (x:=y) h]
 |a cs=>cases kd<;>first|rfl|simp only[pI,aNl (m:=m) (m':=m') (cs:=cs) h]
 |t _=>cases kd<;>rfl
theorem aBx {m m':Mm U}:∀(ks:List Kd) {xs:List (Sv U)},nS xs=true→gG Y m ks xs=gG Y m' ks xs
 |[],[],_=>rfl
 |[],_::_,_=>rfl
 |[k],[],_=>rfl
 |[k],[x],h=>by
  have h:(Ri x&&true)=true:=h
  rw[Bool.and_true] at h
  exact aGk h
 |[k],_::_::_,_=>rfl
 |k::k'::ks,[],_=>rfl
 |k::k'::ks,x::xs,h=>by
  have h:(Ri x&&nS xs)=true:=h
  rw[Bool.and_eq_true] at h
  have e1:=aGk (Y:=Y) (m:=m) (m':=m') (kd:=k) h.1
  have e2:=aBx (m:=m) (m':=m') (k'::ks) h.2
  have e3:∀m,gG Y m (k::k'::ks) (x::xs)=(match pI Y m k x with
   |some a=>match gG Y m (k'::ks) xs with
    |some b=>some ((a,b):kV U (k::k'::ks))
    |none=>none
   |none=>none):=fun m=>rfl
  rw[e3,e3,e1,e2]
theorem FlC.keep {s':St U}{o:Oper}{y:Sv U}(h:FlC Y FZ s o y){d:Option Nat}(hd:aK0 o d=true)(ht:∀i,d≠some i→s'.t[i]? =s.t[i]?):FlC Y FZ s' o y:=by
 obtain⟨f,xa,ats,S,z,q,h1,h2,h3,h4,h5,h6,h7,h8,h9⟩:=h
 have e:xa.toList.map (nY s')=xa.toList.map (nY s):=by
  refine List.map_congr_left fun x hx=> ?_
  cases x with
  |tmp i=>
   have:d≠some i:=fun e=>by
    subst e
    unfold aK0 at hd
    rw[h1] at hd
    simp only[List.all_eq_true] at hd
    have:=hd _ hx
    simp at this
   have:=ht i this
   simp only[nY,aM,this]
  |_=>rfl
 have p':nS (xa.toList.map (nY s'))=true:=by rw[e];exact h7
 refine⟨f,xa,ats,S,z,q,h1,h2,?_,h4,h5,by rw[rF p'];exact Rq p',p',h8,h9⟩
 rw[rF p',e,←rF h7,←h3,rF h7]
 exact aBx _ h7
theorem aGj.keep {pn:List (Sv U×Value)}{al:List Oper}{x:Nat×Option (Nat×Obj)}{s':St U}{d:Option Nat}{v:Value}(h:aGj P Y FZ pn al s a x)(hd:∀oj,al[x.1]? =some oj→aFy oj d=true)(ht:∀i,d≠some i→s'.t[i]? =s.t[i]?):aGj P Y FZ pn al s' (a.put d v) x:=by
 obtain⟨oj,h1,h2⟩:=h
 have h3:=hd oj h1
 refine⟨oj,h1,?_⟩
 rcases h2 with⟨b,blk,k1,k2,k3,k4⟩|⟨y,v',k1,k2,k3,k4,k5⟩
 ·exact .inl ⟨b,blk,k1,k2,k3.keep (aXo (aSp h3) k2),fun n hn=>by rw[Wv (aRa h3 n hn)];exact k4 n hn⟩
 ·exact .inr ⟨y,v',k1,k2,k3.keep (aSp h3) ht,k4,fun i hi=>by rw[Wv (aRa h3 i hi)];exact k5 i hi⟩
theorem aGj.keep' {pn:List (Sv U×Value)}{al:List Oper}{x:Nat×Option (Nat×Obj)}{s':St U}{d:Option Nat}(h:aGj P Y FZ pn al s a x)(hd:∀oj,al[x.1]? =some oj→aFy oj d=true)(ht:∀i,d≠some i→s'.t[i]? =s.t[i]?):aGj P Y FZ pn al s' a x:=by
 obtain⟨oj,h1,h2⟩:=h
 have h3:=hd oj h1
 refine⟨oj,h1,?_⟩
 rcases h2 with h2|⟨y,v,k1,k2,k3,k4,k5⟩
 ·exact .inl h2
 ·exact .inr ⟨y,v,k1,k2,k3.keep (aSp h3) ht,k4,k5⟩
theorem uW {al:List Oper}{er:List Nat}{d:Option Nat}(h:G7 al.toArray er d=true):∀j∈er,∀oj,al[j]? =some oj→aFy oj d=true:=fun j hj oj ho=>by
 unfold G7 at h
 rw[List.all_eq_true] at h
 have:=h j hj
 rw[show al.toArray[j]? =some oj by simpa using ho] at this
 exact this
def cntF (l:Array Bool):Nat:=l.toList.count false
theorem Wy {l:Array Bool}{i:Nat}(h:l.getD i true=false):cntF l=cntF (l.setIfInBounds i true)+1:=by
 unfold cntF
 have hi:i<l.size:=by
  rw[Array.getD_eq_getD_getElem?] at h
  cases hx:l[i]? with
  |none=>rw[hx] at h;cases h
  |some b=>exact(Array.getElem?_eq_some_iff.1 hx).1
 have hv:l.toList[i]=false:=by
  rw[Array.getD_eq_getD_getElem?,Array.getElem?_eq_getElem hi] at h
  simpa using h
 rw[Array.toList_setIfInBounds]
 have key:∀(l:List Bool) (i:Nat),l[i]? =some false→l.count false=(l.set i true).count false+1:=by
  intro l
  induction l with
  |nil=>intro i h;simp at h
  |cons x l ih=>
   intro i h
   cases i with
   |zero=>simp at h;subst h;simp
   |succ i=>
    have:=ih i (by simpa using h)
    simp only[List.set_cons_succ,List.count_cons,this]
    omega
 exact key _ _ (by rw[List.getElem?_eq_getElem (by simpa using hi),hv])
theorem aNm {al:List Oper}{o:Oper}(hg:o.guard=none){K:St U→Option α}:grd Y TI FZ al o s K=one Y TI FZ o s K:=by
 unfold grd aFt;rw[hg]
theorem aFc {os:Array Oper}{listed:Array Bool}{i:Nat}(h:i∈Region.ready .any os listed):listed.getD i true=false:=(mem_ready.1 h).1
theorem aZg {o:Oper}{y:Sv U}(h:FlC Y FZ s o y):Nat.ble (nZ FZ o.op) 1=true:=by
 obtain⟨f,xa,ats,S,z,q,h1,h2,h3,h4,h5,_⟩:=h
 rw[h1]
 simp only[nZ,h2,h4,cond_false]
 rfl
theorem aZh {o:Oper}(h:uU Y TI s o.op=true):Nat.ble (nZ FZ o.op) 1=true:=by
 cases ho:o.op<;>rw[ho] at h<;>first|rfl|cases h
variable {al:List Oper} {Q:Exit→Act→World→Prop} {D:Nat→Prop}
theorem aSq (G:Good P g Y TI FZ)(hs:Region.noSelect al.toArray=true)(hP:E.prm=[]){bs:List Nat}{Yb:Nat→Prop}{wS:World}(hpin:∀b∈bs,∃k,Yb k∧((Sv.l (.box b 0):Sv U),Value.pointer (some ⟨k,0,none⟩))∈E.pin){kd:Option (Nat×Nat)}(hkd:∀n k,kd=some (n,k)→(wS,n,k)∈E.fr):
  ∀(f:Nat) (pd:List Nat) (R:Rec) (l:List (Nat×Bool)) (fs:List Nat) (st:Bool) (s:St U) (K:St U→Option α) (z:α),(∀i∈l,∀o,al[i.1]? =some o→∀n,Wr al o n→D n)→wF Y TI FZ al bs kd l fs st s K=some z→
  (∀s' a w β,Ag D s s'→K s'=some z→aW Y.C E s' a w β→Q .normal a w)→(∀j∈pd,j∈fs)→(∀x∈R,x.1∈fs∧x.1∉pd)→(∀x∈R,∀y∈R,x.1≠y.1→∀p q,x.2=some p→y.2=some q→p.1≠q.1)→(∀x∈R,∀y∈R,x.1=y.1→x=y)→
  ∀listed,Dn .any al.toArray listed→aCe al.toArray f pd (R.map Prod.fst) l listed=true→∀a w β (hL:∀x∈I5 R,E.w0.heap.size≤x.1),Bel Yb wS w→(st=true→w=wS∧(∀k,Yb k→(E.ahs (I5 R) hL).X β k)∧Ng bs Yb wS.heap.size s β∧R=[])→(∀x∈R,aGj P Y FZ E.pin al s a x)→aW Y.C (E.ahs (I5 R) hL) s a w β→dE P .any al.toArray none (NoPanic Q) (Bel Yb wS) (cntF listed) listed a w:=by
 intro f
 induction f generalizing E with
 |zero=>intro pd R l fs st s K z _ _ _ _ _ _ _ listed _ hc;cases hc
 |succ f ih=>
  intro pd R l fs st s K z hD h hQ hpd hR hR2 hR3 listed hdn hc a w β hL hb hI hE r
  cases l with
  |nil=>
   simp only[aCe,Bool.and_eq_true] at hc
   have hR0:R=[]:=by
    have:=hc.1
    cases R with
    |nil=>rfl
    |cons x R=>cases this
   subst hR0
   exact jE (P:=P) (a0:=none) (S:=Bel Yb wS) (Q:=NoPanic Q) (by simpa using hc.2) (hQ s a w β (Ag.refl s) h r.aDT) _
  |cons x l=>
   obtain⟨i,fl⟩:=x
   simp only[wF,aM] at h
   cases ho:al[i]? with
   |none=>rw[ho] at h;cases h
   |some o=>
    rw[ho] at h
    simp only at h
    have hDi:=hD (i,fl) (by simp) o ho
    have hD':∀j∈l,∀o,al[j.1]? =some o→∀n,Wr al o n→D n:=fun j hj=>hD j (by simp[hj])
    have hg:al.toArray[i]? =some o:=by simpa using ho
    cases fl with
    |true=>
     simp only[aCe,Bool.and_eq_true,hg] at hc
     cases st with
     |false=>
      replace h:(bif Vz o.op&&noG o then one Y TI FZ o s (fun s'=>wF Y TI FZ al bs kd l fs false s' K) else none)=some z:=h
      cases hb0:(Vz o.op&&noG o) with
      |false=>rw[hb0] at h;cases h
      |true=>
       rw[hb0] at h
       simp only[cond_true] at h
       rw[Bool.and_eq_true] at hb0
       have hgd:o.guard=none:=by
        have:=hb0.2
        unfold noG at this
        split at this
        ·assumption
        ·cases this
       have hw:Region.wanted o (yielded al.toArray a.tmps)=true:=by simp[Region.wanted,hgd]
       obtain⟨hr,_⟩:=kW hc.2.1
       have hfr:=Region.free_spec hg (show Region.free .any al.toArray listed i=true by have:=hc.2.1;simp only[tkY,Bool.and_eq_true] at this;exact this.1.1)
       have hcl:nZ FZ o.op=0:=by
        have:=hb0.1
        cases hoo:o.op<;>rw[hoo] at this<;>first|rfl|cases this
       unfold one at h
       obtain⟨x,s2,k1,⟨v,p1,p2,p3⟩,k3,k4,k5⟩:=rW G r rfl hcl h
       have hy:YieldsIf P al.toArray (Bel Yb wS) o v a:= .inl ⟨hw,fun w' _=>Ht hb0.1 (p1 w (Ext.refl w)) w'⟩
       have ag:Ag (Wr al o) s (put s2 o.dst x):=Ag.put ⟨fun n hn=>by rw[k3],by rw[k3],by rw[k4],k5⟩ (fun n e=> .inl e)
       have hWr:∀n,Wr al o n→o.dst=some n:=fun n hn=>by
        rcases hn with hn|⟨j,b,oj,e,_⟩
        ·exact hn
        ·rw[hgd] at e;cases e
       rw[Wy (aFc hr)]
       refine fD hg (Region.noSelect_spec hs) (fun _ _ _ h=>h) (by simp) (fun _ _ _=>rfl) _ listed a w hfr hdn hr hy hb ?_
       exact ih hP hpin hkd pd R l fs false _ K z hD' k1 (fun s3 a3 w3 β3 g1=>hQ s3 a3 w3 β3 ((ag.mono hDi).trans g1)) hpd hR hR2 hR3 _ (hdn.set hr) hc.2.2 _ w β hL hb (fun h=>by cases h) (fun y hy=>(hE y hy).keep (uW hc.1 _ (List.mem_map.2 ⟨y,hy,rfl⟩)) (fun i hi=>ag.t i fun hn=>hi (hWr i hn))) (p2.put fun _=>p3)
     |true=>
      simp only[cond_true] at h
      obtain⟨rfl,hYX,hI,hR0⟩:=hI rfl
      obtain⟨hr,_⟩:=kW hc.2.1
      obtain⟨s1,r1,h1,h2⟩:=rX r h
      have hI1:Ng bs Yb w.heap.size s1 β:=hI.am r.hp h1.m
      have hfr:=Region.free_spec hg (show Region.free .any al.toArray listed i=true by have:=hc.2.1;simp only[tkY,Bool.and_eq_true] at this;exact this.1.1)
      rw[Wy (aFc hr)]
      rcases h2 with⟨hw,h2⟩|⟨hw,h2⟩
      ·cases hel:erl bs s1 o.op with
       |false=>rw[hel] at h2;cases h2
       |true=>
        rw[hel] at h2
        simp only[cond_true] at h2
        have h2':=h2
        unfold one at h2'
        obtain⟨x,s2,k1,⟨v,p1,p2,p3⟩,k3,k4,k5⟩:=rW G r1 rfl (aTy hel) h2'
        have hy:YieldsIf P al.toArray (Bel Yb w) o v a:= .inl ⟨hw,fun w' he=>aNi (al:=al) G r1 hI1 hYX hel (p1 w (Ext.refl w)) h2 w' he⟩
        have ag:Ag (Wr al o) s (put s2 o.dst x):=Ag.put ⟨fun n hn=>by rw[k3];exact h1.t n hn,by rw[k3];exact h1.tl,by rw[k4];exact h1.fr,h1.m.trans k5⟩ (fun n e=> .inl e)
        refine fD hg (Region.noSelect_spec hs) (fun _ _ _ h=>h) (by simp) (fun _ _ _=>rfl) _ listed a w hfr hdn hr hy hb ?_
        exact ih hP hpin hkd pd R l fs true _ K z hD' k1 (fun s3 a3 w3 β3 g1=>hQ s3 a3 w3 β3 ((ag.mono hDi).trans g1)) hpd hR hR2 hR3 _ (hdn.set hr) hc.2.2 _ w β hL hb (fun _=>⟨rfl,hYX,(hI1.am r1.hp k5).am p2.hp (by rw[aQ9];exact Am.refl _),hR0⟩) (by rw[hR0];simp) (p2.put fun _=>p3)
      ·have hy:YieldsIf P al.toArray (Bel Yb w) o undef a:= .inr ⟨hw,rfl⟩
       have ag:Ag (Wr al o) s (put s1 o.dst (.l .und)):=h1.put (fun n e=> .inl e)
       refine fD hg (Region.noSelect_spec hs) (fun _ _ _ h=>h) (by simp) (fun _ _ _=>rfl) _ listed a w hfr hdn hr hy hb ?_
       exact ih hP hpin hkd pd R l fs true _ K z hD' h2 (fun s3 a3 w3 β3 g1=>hQ s3 a3 w3 β3 ((ag.mono hDi).trans g1)) hpd hR hR2 hR3 _ (hdn.set hr) hc.2.2 _ w β hL hb (fun _=>⟨rfl,hYX,hI1.am r1.hp (by rw[aQ9];exact Am.refl _),hR0⟩) (by rw[hR0];simp) (r1.put (x:= .l .und) (v:=undef) fun _=>rfl)
    |false=>
     have hfull:=h
     simp only[cond_false] at h
     cases hno:noG o with
     |false=>rw[hno] at h;cases h
     |true=>
      rw[hno] at h
      simp only[cond_true] at h
      have hgd:o.guard=none:=by
       unfold noG at hno
       split at hno
       ·assumption
       ·cases hno
      have hw:Region.wanted o (yielded al.toArray a.tmps)=true:=by simp[Region.wanted,hgd]
      obtain⟨hK,hF⟩:=aNj fs h
      have hWr:∀n,Wr al o n→o.dst=some n:=fun n hn=>by
       rcases hn with hn|⟨j,b,oj,e,_⟩
       ·exact hn
       ·rw[hgd] at e;cases e
      have keepAg:∀{s':St U},Ag (Wr al o) s s'→∀i,o.dst≠some i→s'.t[i]? =s.t[i]? :=fun hag i hi=>hag.t i fun hn=>hi (hWr i hn)
      simp only[aCe] at hc
      cases him:Hf i (R.map Prod.fst) with
      |true=>
       rw[him] at hc
       simp only[cond_true,hg,Bool.and_eq_true] at hc
       obtain⟨hoff,hc⟩:=hc
       obtain⟨x,hx,hxi⟩:=List.mem_map.1 (jI.1 him)
       have hR':∀y∈R.rm i,y∈R∧y.1≠i:=fun y hy=>Rec.aCC.1 hy
       have hoff':∀y∈R.rm i,∀oj,al[y.1]? =some oj→aFy oj o.dst=true:=fun y hy=>uW hoff _ (by rw[←Rec.aBX];exact List.mem_map.2 ⟨y,hy,rfl⟩)
       have hLs:∀p∈I5 (R.rm i),p∈I5 R:=fun p hp=>by
        obtain⟨j,hj⟩:=Ae.1 hp
        exact Ae.2 ⟨j,(hR' _ hj).1⟩
       have hL':∀p∈I5 (R.rm i),E.w0.heap.size≤p.1:=fun p hp=>hL p (hLs p hp)
       rw[←Rec.aBX] at hc
       obtain⟨oj,e1,e2⟩:=hE x hx
       rw[hxi,ho] at e1
       have e1:=Option.some.inj e1
       subst e1
       obtain⟨o2,q0,_,_,_,q1⟩:=hF x.1 (hR x hx).1
       rw[hxi,ho] at q0
       have q0:=Option.some.inj q0
       subst q0
       have hcl:Nat.ble (nZ FZ o.op) 1=true:=by
        rcases q1 with⟨_,q1⟩|⟨_,y,q1⟩
        ·exact aZh q1
        ·exact aZg q1
       rw[hcl] at hK
       simp only[cond_true] at hK
       have rcc:∀(s':St U) (x0:Sv U) β',s'.t=s.t→s'.fr=s.fr→Am s.m s'.m→wF Y TI FZ al bs kd l (E9 i fs) false (EV.put s' o.dst x0) K=some z→aW Y.C (E.ahs (I5 (R.rm i)) hL') (EV.put s' o.dst x0) a w β'→dE P .any al.toArray none (NoPanic Q) (Bel Yb wS) (cntF listed) listed a w:=fun s' x0 β' k4 k5 k6 k1 r'=>by
        have ag:Ag (Wr al o) s (EV.put s' o.dst x0):=Ag.put ⟨fun n _=>by rw[k4],by rw[k4],k5,k6⟩ (fun n e=> .inl e)
        exact ih hP hpin hkd pd (R.rm i) l (E9 i fs) false _ K z hD' k1 (fun s3 a3 w3 β3 g1=>hQ s3 a3 w3 β3 ((ag.mono hDi).trans g1)) (fun j hj=>kI.2 ⟨hpd j hj,fun e=>(hR x hx).2 (by rw[hxi,←e];exact hj)⟩) (fun y hy=>⟨kI.2 ⟨(hR y (hR' y hy).1).1,(hR' y hy).2⟩,(hR y (hR' y hy).1).2⟩)
         (fun y hy y' hy'=>hR2 y (hR' y hy).1 y' (hR' y' hy').1) (fun y hy y' hy'=>hR3 y (hR' y hy).1 y' (hR' y' hy').1) listed hdn hc a w β' hL' hb (fun h=>by cases h) (fun y hy=>(hE y (hR' y hy).1).keep' (hoff' y hy) (keepAg ag)) r'
       rcases e2 with⟨b,blk,e3,e4,e5,e6⟩|⟨y,v,e3,e4,e5,e6,e7⟩
       ·have hfo:uU Y TI s o.op=true:=by
         rcases q1 with⟨_,q1⟩|⟨q1,_⟩
         ·exact q1
         ·rw[e4] at q1;cases q1
        have hmem:(b,blk)∈I5 R:=Ae.2 ⟨x.1,by rw[←e3];exact hx⟩
        have hK':stp Y TI FZ s o.op (fun x0 s'=>wF Y TI FZ al bs kd l (E9 i fs) false (EV.put s' o.dst x0) K)=some z:=hK
        obtain⟨x0,s',β',k1,k2,k3,k4,k5,k6⟩:=aSn (L':=I5 (R.rm i)) (hL':=hL') G r hmem (fun p hp=>by
         obtain⟨j,hj⟩:=Ae.1 hp
         exact⟨hLs p hp,fun e=>hR2 _ (hR' _ hj).1 x hx (by rw[hxi];exact(hR' _ hj).2) p (b,blk) rfl e3 e⟩) hP e5 hfo hK'
        exact rcc s' x0 β' k4 k5 k6 k1 (k2.aBM (fun _=>k3) e6)
       ·obtain⟨ff,xa,ats,S,z1,q,c1,c2,c3,c4,c5,c6,c7,c8,c9⟩:=e5
        have hff:(rO Y S.rs||iX (xa.toList.map (dN s)))=true:=by rw[c6,Bool.or_true]
        have hK':stp Y TI FZ s o.op (fun x0 s'=>wF Y TI FZ al bs kd l (E9 i fs) false (EV.put s' o.dst x0) K)=some z:=hK
        have hb2:(match gG Y s.m S.ar (xa.toList.map (dN s)) with
         |some a=>bif S.wt then(match xa.toList.map (dN s) with
          |[x,_]=>match parts x with
           |some cs=>bd (S.m a) fun r=>match aY Y S.rs r with
            |[(_,ds),(_,[.int .i64 k])]=>match wrm Y s.m cs ds with
             |some us=>bif dist (wU us)&&Cs (U:=U) S.ar then wF Y TI FZ al bs kd l (E9 i fs) false (EV.put ⟨s.t,⟨aBK us s.m.o,Nat.succ s.m.k,s.m.ns⟩,s.fr⟩ o.dst (.l (.int .i64 k))) K else none
             |none=>none
            |_=>none
           |none=>none
          |_=>none)
          else bif S.fr then bd (S.m a) fun r=>
           let q:=fJ s.m.k (len s.m.o) (aY Y S.rs r)
           wF Y TI FZ al bs kd l (E9 i fs) false (EV.put ⟨s.t,⟨s.m.o++q.2,s.m.k,s.m.ns⟩,s.fr⟩ o.dst (pO q.1)) K
          else bif rO Y S.rs||iX (xa.toList.map (dN s)) then bd (S.m a) fun r=>wF Y TI FZ al bs kd l (E9 i fs) false (EV.put s o.dst (pO (aY Y S.rs r))) K
          else match aP8 s.m (xa.toList.map (dN s)) with
           |some (i',c')=>bd (S.m a) fun r=>wF Y TI FZ al bs kd l (E9 i fs) false (EV.put s o.dst (pO (Cr i' c' (aY Y S.rs r)))) K
           |none=>none
         |none=>none)=some z:=by
         rw[c1] at hK'
         unfold stp at hK'
         simp only[c2] at hK'
         rw[c4] at hK'
         rw[c4]
         exact hK'
        rw[c3] at hb2
        simp only[c4,c5,hff,cond_false,cond_true] at hb2
        obtain⟨q',d1,d2⟩:=fK hb2
        rw[c8] at d1
        have d1:=Option.some.inj d1
        subst d1
        rw[c9] at d2
        have hbk:I5 (R.rm i)=I5 (R.rm i):=rfl
        have hsame:∀p,p∈I5 R→p∈I5 (R.rm i):=fun p hp=>by
         obtain⟨j,hj⟩:=Ae.1 hp
         refine Ae.2 ⟨j,Rec.aCC.2 ⟨hj,fun e=> ?_⟩⟩
         have:=hR3 _ hj x hx (by rw[hxi];exact e)
         rw[←this] at e3;cases e3
        have r':aW Y.C (E.ahs (I5 (R.rm i)) hL') s a w β:=r.aCQ hLs hsame
        exact rcc s _ β rfl rfl (Am.refl _) d2 (r'.aBM (v:=v) (fun h=>r'.hp.pin _ (e6 h)) e7)
      |false=>
       rw[him] at hc
       simp only[cond_false,Bool.and_eq_true,List.all_eq_true] at hc
       obtain⟨hir,hall⟩:=hc
       have hir:i∈Region.ready .any al.toArray listed:=by simpa using hir
       have hiR:∀x∈R,x.1≠i:=fun x hx e=>by
        have:Hf i (R.map Prod.fst)=true:=jI.2 (List.mem_map.2 ⟨x,hx,e⟩)
        rw[this] at him;cases him
       obtain⟨m,hm⟩:∃m,cntF listed=m+1:=⟨_,Wy (aFc hir)⟩
       have hcnt:∀{j},j∈Region.ready .any al.toArray listed→m=cntF (listed.setIfInBounds j true):=fun hj=>by
        have:=Wy (aFc hj);omega
       rw[hm]
       refine fP rfl (fun e=>by rw[e] at hir;simp at hir) fun j hjr=> ?_
       have hj0:=hall j hjr
       cases hij:Nat.beq j i with
       |true=>
        have e:=Nat.eq_of_beq_eq_true hij
        subst e
        rw[hij] at hj0
        simp only[cond_true,hg,Bool.and_eq_true] at hj0
        obtain⟨hoff,hc⟩:=hj0
        have hoff':∀y∈R,∀oj,al[y.1]? =some oj→aFy oj o.dst=true:=fun y hy=>uW hoff _ (List.mem_map.2 ⟨y,hy,rfl⟩)
        have rcc:∀(s':St U) v w' β',Ag (Wr al o) s s'→wF Y TI FZ al bs kd l (E9 j fs) false s' K=some z→aW Y.C (E.ahs (I5 R) hL) s' (a.put o.dst v) w' β'→Bel Yb wS w'→(gF none (listed.setIfInBounds j true)=true→Bel Yb wS w')∧dE P .any al.toArray none (NoPanic Q) (Bel Yb wS) m (listed.setIfInBounds j true) (a.put o.dst v) w':=fun s' v w' β' g1 g2 g3 hb'=>by
         refine⟨fun _=>hb',?_⟩
         rw[hcnt hjr]
         exact ih hP hpin hkd (E9 j pd) R l (E9 j fs) false s' K z hD' g2 (fun s2 a2 w2 β2 q1=>hQ s2 a2 w2 β2 ((g1.mono hDi).trans q1)) (fun x hx=>kI.2 ⟨hpd x (kI.1 hx).1,(kI.1 hx).2⟩) (fun x hx=>⟨kI.2 ⟨(hR x hx).1,hiR x hx⟩,fun h=>(hR x hx).2 (kI.1 h).1⟩) hR2 hR3 _ (hdn.set hjr) hc _ w' β' hL hb' (fun h=>by cases h) (fun y hy=>(hE y hy).keep (hoff' y hy) (keepAg g1)) g3
        cases hcl:Nat.ble (nZ FZ o.op) 1 with
        |true=>
         rw[hcl] at hK
         simp only[cond_true] at hK
         rw[←aNm (al:=al) hgd] at hK
         exact wpOp_step hg fun K' hK'=>aFb G r hK fun s' v w' β' g1 g2 g3 g4=>hK' _ _ (rcc s' v w' β' g1 g2 g3 (hb.trans (Bel.aBF (g4 hcl))))
        |false=>
         rw[hcl] at hK
         simp only[cond_false] at hK
         cases hop:stW bs s o.op with
         |false=>
          rw[hop] at hK
          simp only[cond_false] at hK
          rw[←aNm (al:=al) hgd] at hK
          refine wpOp_step hg fun K' hK'=>aFb G r hK fun s' v w' β' g1 g2 g3 g4=>hK' _ _ ?_
          cases hun:unO kd s'.m.o with
          |false=>rw[hun] at g2;cases g2
          |true=>
           rw[hun] at g2
           simp only[cond_true] at g2
           refine rcc s' v w' β' g1 g2 g3 ?_
           cases hk:kd with
           |none=>rw[hk] at hun;cases hun
           |some p=>
            obtain⟨n0,k0⟩:=p
            rw[hk] at hun
            exact Bel.aBF (g3.unt (hkd n0 k0 hk) hun)
         |true=>
          rw[hop] at hK
          simp only[cond_true] at hK
          cases hoo:o.op with
          |store t x y=>
           rw[hoo] at hop
           simp only[stW] at hop
           split at hop
           ·rename_i b off hx
            unfold one stp at hK
            rw[hoo] at hK
            simp only[hx] at hK
            split at hK
            ·rename_i ti b' off' ps h1 h2 h3
             cases h2
             split at hK
             ·rename_i T cs us rv cv h4
              rw[aM] at h4
              cases hbb:(Nat.beq (len ps) ti.k&&(Nat.ble (off+ti.k) (len cs)&&uJ ps)) with
              |false=>rw[hbb] at hK;cases hK
              |true=>
               rw[hbb] at hK
               simp only[cond_true] at hK
               simp only[Bool.and_eq_true,aZ] at hbb
               obtain⟨w',β',t',bb,e1,r1,hev,hbel,e2,e3⟩:=qQ G.ti r hoo h1 hx h3 h4 (Nat.eq_of_beq_eq_true hbb.1) (Nat.le_of_ble_eq_true hbb.2.1) hbb.2.2
               have hyb:Yb bb:=by
                obtain⟨k,k1,k2⟩:=hpin b (jI.1 hop)
                obtain⟨_,e,t2,j1,j2,j3⟩:=(r.hp.pin _ k2:(Lf.box b 0:Lf U).mean Y.C w ((E.ahs (I5 R) hL).X β) β s.m _)
                rw[h4] at j1;injection j1 with j1;subst j1
                obtain⟨b2,m1,m2⟩:=j3 rfl
                injection m2 with m2;injection m2 with m2;injection m2 with m2
                rw[e2] at j2;injection j2 with j2;subst j2
                rw[e3] at m1;injection m1 with m1
                subst m1;subst m2;exact k1
               have hb':Bel Yb wS w':=hb.trans ⟨hbel.os,hbel.tape,hbel.output,hbel.size,fun k hk hy=>hbel.block k hk fun e=>hy (by rw[e];exact hyb)⟩
               have ag:Ag (Wr al o) s (put (trn s b (.box T (Mt cs off ps) (Mt us off (ps.map fun _=>Nat.succ s.m.k))) rv) o.dst (.l .any)):=Ag.put (s:=s) (s':=trn s b (.box T (Mt cs off ps) (Mt us off (ps.map fun _=>Nat.succ s.m.k))) rv) (D:=Wr al o) ⟨fun n _=>rfl,rfl,rfl,uV h4 (Nat.eq_of_beq_eq_true hbb.1) (Nat.le_of_ble_eq_true hbb.2.1) (r.aBL h4)⟩ (fun n e=>Or.inl e)
               refine wpOp_step hg fun K' hK'=> ?_
               rw[if_pos hw]
               exact wpo (.inr ⟨e1,rfl⟩) (hK' _ _ (rcc _ _ w' β' ag hK (r1.put fun _=>trivial) hb'))
             ·cases hK
            ·rename_i h2 _;cases h2
            ·rename_i h2 _;cases h2
            ·cases hK
           ·cases hop
          |_=>rw[hoo] at hop;cases hop
       |false=>
        rw[hij] at hj0
        simp only[cond_false,Bool.and_eq_true] at hj0
        obtain⟨hjp,hj0⟩:=hj0
        have hjp:=jI.1 hjp
        obtain⟨oj,ho',hgj,hany,hself,hfl⟩:=hF j (hpd j hjp)
        have hgi:al.toArray[j]? =some oj:=by simpa using ho'
        rw[hgi] at hj0
        simp only[Bool.and_eq_true] at hj0
        obtain⟨hoff,hc⟩:=hj0
        have hoff':∀y∈R,∀o,al[y.1]? =some o→aFy o oj.dst=true:=fun y hy=>uW hoff _ (List.mem_map.2 ⟨y,hy,rfl⟩)
        have hjR:∀x∈R,x.1≠j:=fun x hx e=>(hR x hx).2 (by rw[e];exact hjp)
        have hget:∀(v:Value) n,oj.dst=some n→(a.put oj.dst v).tmps.getD n undef=v:=fun v n hn=>by
         rw[hn]
         simp only[aKz,hn,aM] at hany
         have hlt:n<a.tmps.size:=by
          rw[r.tsz]
          cases hx:s.t[n]? with
          |none=>rw[hx] at hany;cases hany
          |some x=>exact lt_of_some hx
         simp only[Act.put]
         rw[rG _ _ _ _ _ hlt,if_pos rfl]
        have rcc:∀(E':Env U g) (hP':E'.prm=[]) (hpin':∀b∈bs,∃k,Yb k∧((Sv.l (.box b 0):Sv U),Value.pointer (some ⟨k,0,none⟩))∈E'.pin) (hkd':∀n k,kd=some (n,k)→(wS,n,k)∈E'.fr) (hback:∀s a w β,aW Y.C E' s a w β→aW Y.C E s a w β) (hpn:∀p∈E.pin,p∈E'.pin) (q:Option (Nat×Obj)) v w' β' (hL':∀x∈I5 ((j,q)::R),E'.w0.heap.size≤x.1),(∀p,q=some p→∀y∈R,∀p',y.2=some p'→p.1≠p'.1)→aGj P Y FZ E'.pin al s (a.put oj.dst v) (j,q)→aW Y.C (E'.ahs (I5 ((j,q)::R)) hL') s (a.put oj.dst v) w' β'→Bel Yb wS w'→(gF none (listed.setIfInBounds j true)=true→Bel Yb wS w')∧dE P .any al.toArray none (NoPanic Q) (Bel Yb wS) m (listed.setIfInBounds j true) (a.put oj.dst v) w':=fun E' hP' hpin' hkd' hback hpn q v w' β' hL' hq hEr r' hb'=>by
         refine⟨fun _=>hb',?_⟩
         rw[hcnt hjr]
         refine ih hP' hpin' hkd' (E9 j pd) ((j,q)::R) ((i,false)::l) fs false s K z hD (by simp only[wF,aM,ho];exact hfull) (fun s' a w β g1 g2 g3=>hQ s' a w β g1 g2 (hback _ _ _ _ g3)) (fun x hx=>hpd x (kI.1 hx).1) (fun x hx=> ?_) (fun x hx y hy hne p p' hp hp'=> ?_) (fun x hx y hy he=> ?_) _ (hdn.set hjr) hc _ w' β' hL' hb' (fun h=>by cases h) (fun y hy=> ?_) r'
         ·rcases List.mem_cons.1 hx with rfl|hx
          ·exact⟨hpd j hjp,fun h=>(kI.1 h).2 rfl⟩
          ·exact⟨(hR x hx).1,fun h=>(hR x hx).2 (kI.1 h).1⟩
         ·rcases List.mem_cons.1 hx with rfl|hx<;>rcases List.mem_cons.1 hy with rfl|hy
          ·exact absurd rfl hne
          ·exact hq p hp y hy p' hp'
          ·exact fun e=>hq p' hp' x hx p hp e.symm
          ·exact hR2 x hx y hy hne p p' hp hp'
         ·rcases List.mem_cons.1 hx with rfl|hx<;>rcases List.mem_cons.1 hy with rfl|hy
          ·rfl
          ·exact absurd he.symm (hjR y hy)
          ·exact absurd he (hjR x hx)
          ·exact hR3 x hx y hy he
         ·rcases List.mem_cons.1 hy with rfl|hy
          ·exact hEr
          ·exact((hE y hy).mono hpn).keep (hoff' y hy) (fun _ _=>rfl)
        have hwj:Region.wanted oj (yielded al.toArray a.tmps)=true:=by simp[Region.wanted,hgj]
        refine wpOp_step hgi fun K' hK'=> ?_
        rw[if_pos hwj]
        rcases hfl with⟨hcl,hok⟩|⟨hcl,y0,hfc⟩
        ·obtain⟨blk,hFl⟩:=aNa G r hok
         have hbw:E.w0.heap.size≤w.heap.size:=r.hp.ext.size
         have hL':∀x∈I5 ((j,some (w.heap.size,blk))::R),E.w0.heap.size≤x.1:=fun x hx=>by
          have hx:x∈(w.heap.size,blk)::I5 R:=hx
          rcases List.mem_cons.1 hx with rfl|hx
          ·exact hbw
          ·exact hL x hx
         refine wpo (.inl (hFl w)) (hK' _ _ (rcc E hP hpin hkd (fun _ _ _ _ h=>h) (fun _ h=>h) (some (w.heap.size,blk)) _ (w.alloc blk) β hL' (fun p hp y hy p' hp'=> ?_) ?_ ?_ (hb.trans (Bel.aBF (Ext.alloc _ _)))))
         ·have:=Option.some.inj hp;subst this
          have:=bBo r p' (Ae.2 ⟨y.1,by rw[←hp'];exact hy⟩)
          intro e
          have e:w.heap.size=p'.1:=e
          omega
         ·exact⟨oj,ho', .inl ⟨_,blk,rfl,hcl,hFl.keep (aXo hself hcl),fun n hn=>hget _ n hn⟩⟩
         ·exact(r.aCP (blk:=blk) (hb':=hL') hbw).aBT hany
        ·have hfc0:=hfc
         obtain⟨ff,xa,ats,S,z1,q,c1,c2,c3,c4,c5,c6,c7,c8,c9⟩:=hfc0
         have hso:=Ct G.lay r c1 (G.fs ff S (aOd c2)) c3 c4 c5 (.inr c6) c8
         refine hso K' _ fun v w' β' q1 q2 q3=> ?_
         have hbx:=hb.trans (Bel.aBF (q3 rfl))
         by_cases hd0:oj.dst=none
         ·exact hK' _ _ (rcc E hP hpin hkd (fun _ _ _ _ h=>h) (fun _ h=>h) none v w' β' hL (fun p hp=>by cases hp) ⟨oj,ho', .inr ⟨y0,v,rfl,hcl,hfc.keep (s':=s) (d:=none) rfl (fun _ _=>rfl),fun hd=>absurd hd0 hd,fun d hd=>by rw[hd0] at hd;cases hd⟩⟩ (q1.aBT hany) hbx)
         ·have hm2:y0.mean Y.C w' ((E.ahs (I5 R) hL).X β') β' s.m v:=by rw[←c9];exact q2 hd0
          have q1':aW Y.C ((E.pinned [(y0,v)]).ahs (I5 R) hL) s (a.put oj.dst v) w' β':=(q1.aBT hany).pins (ps:=[(y0,v)]) (fun x hx=>by simp at hx;subst hx;exact hm2)
          exact hK' _ _ (rcc (E.pinned [(y0,v)]) hP (fun b hb=>by
           obtain⟨k,k1,k2⟩:=hpin b hb
           exact⟨k,k1,List.mem_cons_of_mem _ k2⟩) hkd (fun _ _ _ _ h=>h.aCM) (fun _ h=>List.mem_cons_of_mem _ h) none v w' β' hL (fun p hp=>by cases hp) ⟨oj,ho', .inr ⟨y0,v,rfl,hcl,hfc.keep (s':=s) (d:=none) rfl (fun _ _=>rfl),fun _=>List.mem_cons_self,fun d hd=>hget v d hd⟩⟩ q1' hbx)
end
end Go.EV

namespace Go.EV
open Go.RowKit Go.VK
variable {U:Uni} {Y:Lay U} {TI:List (Nat×TInfo)} {FZ:List (Nat×Sum U)} {P:Program} {g:GI} {E:Env U g}
section
variable {α:Type}
theorem Wz:∀(l:List (Nat×Bool)),aTg l=l.map Prod.fst
 |[]=>rfl
 |x::l=>by rw[List.map_cons,←Wz l];rfl
theorem Af {x:Nat×Bool}{l:List (Nat×Bool)}(h:aBp (x::l)=true):x.2=false∧aBp l=true:=by
 have e:aBp (x::l)=cond x.2 false (aBp l):=rfl
 rw[e] at h
 cases hx:x.2 with
 |true=>rw[hx] at h;cases h
 |false=>rw[hx] at h;exact⟨rfl,h⟩
theorem bBq (G:Good P g Y TI FZ){al:List Oper}{Q:Exit→Act→World→Prop}{D:Nat→Prop}:∀(l:List Nat) (s:St U) (K:St U→Option α) (z:α),(∀i∈l,∀o,al[i]? =some o→∀n,Wr al o n→D n)→Vy Y TI FZ al l s K=some z→
  ∀(rest:List Nat),(∀s' a w β listed,Ag D s s'→K s'=some z→aW Y.C E s' a w β→chz al.toArray rest listed=true→wpAny P .any al.toArray Q rest.length listed a w)→∀listed,chz al.toArray (l++rest) listed=true→∀a w β,aW Y.C E s a w β→wpAny P .any al.toArray Q (l++rest).length listed a w
 |[],s,K,z,_,h,rest,hk,listed,hc,a,w,β,r=>hk s a w β listed (Ag.refl s) h r hc
 |i::l,s,K,z,hD,h,rest,hk,listed,hc,a,w,β,r=>by
  simp only[Vy,aM] at h
  cases ho:al[i]? with
  |none=>rw[ho] at h;cases h
  |some o=>
   rw[ho] at h
   simp only at h
   replace hc:((Region.ready .any al.toArray listed==[i])&&chz al.toArray (l++rest) (listed.setIfInBounds i true))=true:=hc
   simp only[Bool.and_eq_true,beq_iff_eq] at hc
   have hg:al.toArray[i]? =some o:=by simpa using ho
   refine aRy hc.1 (wpOp_step hg fun K' hK'=>aOu G r h fun s' a' w' β' q1 q2 q3 _=>hK' _ _ ?_)
   have q1':=q1.mono (hD i (by simp) o ho)
   exact bBq G l s' K z (fun j hj=>hD j (by simp[hj])) q2 rest (fun s2 a2 w2 β2 li p1 p2 p3 p4=>hk s2 a2 w2 β2 li (q1'.trans p1) p2 p3 p4) _ hc.2 a' w' β' q3
def CG (FZ:List (Nat×Sum U))(al:List Oper)(a0:Option Nat)(l:List (Nat×Bool))(listed:Array Bool):Prop:=frees FZ al a0 l=true∨(gF a0 listed=false∧aBp l=true)
theorem aZi (G:Good P g Y TI FZ){al:List Oper}{a0:Option Nat}(hs:Region.noSelect al.toArray=true){Q:Exit→Act→World→Prop}{D:Nat→Prop}:∀(l:List (Nat×Bool)) (s:St U) (K:St U→Option α) (z:α),(∀i∈l,∀o,al[i.1]? =some o→∀n,Wr al o n→D n)→Vy Y TI FZ al (aTg l) s K=some z→
  ∀(rest:List (Nat×Bool)),(∀s' a w β listed,Ag D s s'→K s'=some z→aW Y.C E s' a w β→Dn .any al.toArray listed→chk al.toArray a0 rest listed=true→CG FZ al a0 rest listed→dE P .any al.toArray a0 (NoPanic Q) (Ext w) rest.length listed a w)→
   ∀listed,Dn .any al.toArray listed→chk al.toArray a0 (l++rest) listed=true→CG FZ al a0 (l++rest) listed→∀a w β,aW Y.C E s a w β→dE P .any al.toArray a0 (NoPanic Q) (Ext w) (l++rest).length listed a w
 |[],s,K,z,_,h,rest,hk,listed,hd,hc,hg,a,w,β,r=>hk s a w β listed (Ag.refl s) h r hd hc hg
 |(i,fl)::l,s,K,z,hD,h,rest,hk,listed,hd,hc,hcg,a,w,β,r=>by
  replace h:Vy Y TI FZ al (i::aTg l) s K=some z:=h
  simp only[Vy,aM] at h
  cases ho:al[i]? with
  |none=>rw[ho] at h;cases h
  |some o=>
   rw[ho] at h
   simp only at h
   have hg:al.toArray[i]? =some o:=by simpa using ho
   cases fl with
   |true=>
    rw[List.cons_append] at hc
    simp only[chk,Bool.and_eq_true] at hc
    have hfr:Nat.beq (nZ FZ o.op) 0=true∧frees FZ al a0 (l++rest)=true:=by
     rcases hcg with hcg|⟨_,hcg⟩
     ·have hcg':frees FZ al a0 ((i,true)::(l++rest))=true:=hcg
      simp only[frees,aM,ho,cond_true,Bool.and_eq_true] at hcg'
      exact hcg'
     ·exact absurd (Af hcg).1 (by simp)
    obtain⟨v,s',h1,h2,h3,h4⟩:=aZa G r (Nat.eq_of_beq_eq_true hfr.1) h
    have hD':=hd.set (by simpa using hc.1.1.2)
    have h4':=h4.mono (hD (i,true) (by simp) o ho)
    refine Gy (i:=i) (oi:=o) (v:=v) hg hs hc.1.1.1 hc.1.1.2 hc.1.2 hd (fun _ _ _ h=>h) ?_ (Ext.refl w) ?_
    ·rcases h1 with⟨k1,k2⟩|⟨k1,k2⟩
     ·exact .inl ⟨k1,k2⟩
     ·exact .inr ⟨k1,k2⟩
    ·exact aZi G hs l s' K z (fun j hj=>hD j (by simp[hj])) h3 rest (fun s2 a2 w2 β2 li p1 p2 p3 p4 p5 p6=>hk s2 a2 w2 β2 li (h4'.trans p1) p2 p3 p4 p5 p6) _ hD' hc.2 (.inl hfr.2) _ w β h2
   |false=>
    replace hc:((Region.ready .any al.toArray listed==[i])&&(a0 !=some i|| !gF a0 (listed.setIfInBounds i true))&&chk al.toArray a0 (l++rest) (listed.setIfInBounds i true))=true:=hc
    simp only[Bool.and_eq_true,beq_iff_eq] at hc
    have hD':=hd.set (i:=i) (by rw[hc.1.1];simp)
    have hcase:(Nat.ble (nZ FZ o.op) 1=true∧frees FZ al a0 (l++rest)=true)∨(gF a0 (listed.setIfInBounds i true)=false∧aBp (l++rest)=true):=by
     rcases hcg with hcg|⟨hn,hcg⟩
     ·have hcg':frees FZ al a0 ((i,false)::(l++rest))=true:=hcg
      simp only[frees,aM,ho,cond_false] at hcg'
      cases hb:Nat.ble (nZ FZ o.op) 1 with
      |true=>rw[hb] at hcg';exact .inl ⟨rfl,hcg'⟩
      |false=>
       rw[hb] at hcg'
       simp only[cond_false,Bool.and_eq_true] at hcg'
       refine .inr ⟨?_,hcg'.2⟩
       cases a0 with
       |none=>exact absurd hcg'.1 (by simp)
       |some b=>
        have hbi:b=i:=Nat.eq_of_beq_eq_true hcg'.1
        subst hbi
        have:=hc.1.2
        simpa using this
     ·exact .inr ⟨Vs hn,(Af hcg).2⟩
    refine fP hc.1.1 (by simp) (fun i' hi'=> ?_)
    simp at hi';subst hi'
    refine wpOp_step hg fun K' hK'=>aOu G r h fun s' a' w' β' q1 q2 q3 q4=>hK' _ _ ?_
    have q1':=q1.mono (hD (i',false) (by simp) o ho)
    have cont:=fun hh=>aZi G hs l s' K z (fun j hj=>hD j (by simp[hj])) q2 rest (fun s2 a2 w2 β2 li p1 p2 p3 p4 p5 p6=>hk s2 a2 w2 β2 li (q1'.trans p1) p2 p3 p4 p5 p6) _ hD' hc.2 hh a' w' β' q3
    rcases hcase with⟨c1,c2⟩|⟨c1,c2⟩
    ·have hx:=q4 c1
     exact⟨fun _=>hx,nW (fun x hx'=>Ext.trans hx hx') _ _ _ _ (cont (.inl c2))⟩
    ·exact⟨fun hn=>(by rw[c1] at hn;cases hn),kT _ _ _ _ c1 (cont (.inr ⟨c1,c2⟩))⟩
theorem Dn0 {os:Array Oper}:Dn .any os (Array.replicate os.size false):=fun j oj hj hl=>by
 have hlt:=(Array.getElem?_eq_some_iff.1 hj).1
 rw[Array.getD_eq_getD_getElem?,Array.getElem?_replicate,if_pos hlt] at hl
 cases hl
theorem aSr {al:List Oper}{i:Nat}{l:List Nat}:aFw al (i::l)=match nth al i with|some o=>o::aFw al l|none=>aFw al l:=rfl
theorem aNn {al:List Oper}:∀{l:List Nat} {i:Nat} {o:Oper},i∈l→al[i]? =some o→o∈aFw al l
 |[],i,o,h,_=>by simp at h
 |x::l,i,o,h,ho=>by
  rw[aSr,aM]
  rcases List.mem_cons.1 h with rfl|h
  ·rw[ho];simp
  ·have:=aNn h ho
   cases al[x]? with
   |none=>exact this
   |some o'=>exact List.mem_cons_of_mem _ this
theorem aXp {β:Type}(l:List β)(k:Nat):tk l k++drp l k=l:=by rw[aMr,G8];exact List.take_append_drop k l
theorem aNo {os:Array Oper}{an:An}{l:List Nat}(h:G6 FZ os.toList os an=some l):
  (Region.noSelect os=true∧l.length=os.size∧chz os l (Array.replicate os.size false)=true)∨
  (∃a0 ord,Region.noSelect os=true∧ord.length=os.size∧chk os a0 ord (Array.replicate os.size false)=true∧frees FZ os.toList a0 ord=true∧l=ord.map Prod.fst):=by
 cases an with
 |r a0 ord=>
  simp only[G6] at h
  cases hb:(aFi os a0 ord&&frees FZ os.toList a0 ord) with
  |false=>rw[hb] at h;cases h
  |true=>
   rw[hb] at h
   have:=Option.some.inj h
   simp only[aFi,Bool.and_eq_true,beq_iff_eq] at hb
   exact .inr ⟨a0,ord,hb.1.1.1,hb.1.1.2,hb.1.2,hb.2,by rw[←this,Wz]⟩
 |z ord=>
  simp only[G6] at h
  cases hb:(Region.noSelect os&&(Nat.beq (len ord) (len os.toList)&&chz os ord (Array.replicate os.size false))) with
  |false=>rw[hb] at h;cases h
  |true=>
   rw[hb] at h
   have:=Option.some.inj h;subst this
   simp only[Bool.and_eq_true,aZ] at hb
   exact .inl ⟨hb.1,by have:=Nat.eq_of_beq_eq_true hb.2.1;simpa using this,hb.2.2⟩
 |_=>cases h
theorem aXq (G:Good P g Y TI FZ)(hm:P.follows .mixedOrders=true){os:Array Oper}{an:An}{l l1 l2:List Nat}(h:G6 FZ os.toList os an=some l)(hl:l=l1++l2){id:Nat}{Q:Exit→Act→World→Prop}{D:Nat→Prop}{D2:Nat→Prop}{α α2:Type}{s:St U}{z:α}{K1:St U→Option α}
  (hD:∀o∈os.toList,∀n,Wr os.toList o n→D n) (h1:Vy Y TI FZ os.toList l1 s K1=some z)
  (hk:∀s1,Ag D s s1→K1 s1=some z→∃(K2:St U→Option α2) (z2:α2),(∀i∈l2,∀o,os.toList[i]? =some o→∀n,Wr os.toList o n→D2 n)∧Vy Y TI FZ os.toList l2 s1 K2=some z2∧∀a1 w1 β1,aW Y.C E s1 a1 w1 β1→∀s' a w β,Ag D2 s1 s'→K2 s'=some z2→aW Y.C E s' a w β→Q .normal a w)
  {a:Act} {w:World} {β:List Tr} (r:aW Y.C E s a w β):(Code.region id os true).wp P Q a w:=by
 have hos:os.toList.toArray=os:=by simp
 have hmem:∀(i:Nat) (o:Oper),os.toList[i]? =some o→∀n,Wr os.toList o n→D n:=fun i o ho=>hD o (List.mem_of_getElem? ho)
 have r0:aW Y.C E s a w.drew β:=r.ext (Ext.drew w)
 rcases aNo h with⟨hs,hlen,hc⟩|⟨a0,ord,hs,hlen,hc,hfr,hlo⟩
 ·refine wp_region_noPanic (wp_region_any hm ?_)
  have:=bBq G (E:=E) (al:=os.toList) (Q:=NoPanic Q) (D:=D) l1 s K1 z (fun i _=>hmem i) h1 l2 (fun s1 a1 w1 β1 listed g1 g2 g3 g4=>by
   obtain⟨K2,z2,e1,e2,e3⟩:=hk s1 g1 g2
   have:=bBq G (E:=E) (al:=os.toList) (Q:=NoPanic Q) (D:=D2) l2 s1 K2 z2 e1 e2 [] (fun s' a' w' β' li p1 p2 p3 p4=>⟨by simpa[chz] using p4,e3 a1 w1 β1 g3 s' a' w' β' p1 p2 p3⟩) listed (by simpa using g4) a1 w1 β1 g3
   simpa using this) (Array.replicate os.size false) (by rw[hos,←hl];exact hc) a w.drew β r0
  rw[hos,←hl,hlen] at this
  exact this
 ·refine wp_region_noPanic (wp_region_any hm (iI (a0:=a0) (S:=Ext w.drew) _ _ _ _ ?_))
  have hl1:ord.map Prod.fst=l1++l2:=by rw[←hlo,hl]
  obtain⟨o1,o2,ho,hm1,hm2⟩:=List.map_eq_append_iff.1 hl1
  subst hm1;subst hm2
  have:=aZi G (E:=E) (al:=os.toList) (a0:=a0) (by rw[hos];exact hs) (Q:=Q) (D:=D) o1 s K1 z (fun i _=>hmem i.1) (by rw[Wz];exact h1) o2 (fun s1 a1 w1 β1 listed g1 g2 g3 g4 g5 g6=>by
   obtain⟨K2,z2,e1,e2,e3⟩:=hk s1 g1 g2
   have:=aZi G (E:=E) (al:=os.toList) (a0:=a0) (by rw[hos];exact hs) (Q:=Q) (D:=D2) o2 s1 K2 z2 (fun i hi=>e1 i.1 (List.mem_map.2 ⟨i,hi,rfl⟩)) (by rw[Wz];exact e2) [] (fun s' a' w' β' li p1 p2 p3 p4 p5 p6=>jE (P:=P) (a0:=a0) (S:=Ext w') (Q:=NoPanic Q) (by simpa[chk] using p5) (e3 a1 w1 β1 g3 s' a' w' β' p1 p2 p3) 0) listed g4 (by simpa using g5) (by simpa using g6) a1 w1 β1 g3
   simpa using this) (Array.replicate os.size false) (by rw[hos];exact Dn0) (by rw[hos,←ho];exact hc) (.inl (by rw[←ho];exact hfr)) a w.drew β r0
  rw[hos,←ho,hlen] at this
  exact this
theorem aXr {a0:Option Nat}{n:Nat}:gF a0 (Array.replicate n false)=true:=by
 cases a0 with
 |none=>rfl
 |some b=>
  simp only[gF,Bool.not_eq_true']
  rw[Array.getD_eq_getD_getElem?,Array.getElem?_replicate]
  split<;>rfl
theorem bBr (hE:E.fr=[])(hP:E.prm=[])(G:Good P g Y TI FZ)(hm:P.follows .mixedOrders=true){os:Array Oper}{id:Nat}{kb:Bool}{f a0:Option Nat}{ord:List (Nat×Bool)}{Q:Exit→Act→World→Prop}{D:Nat→Prop}{s:St U}{z:α}{N:St U→Option α}
  (hD:∀o∈os.toList,∀n,Wr os.toList o n→D n) (hc:zX os f a0 ord=true) (h:We Y TI FZ os.toList a0 (bif kb then some (len s.m.o,s.m.k) else none) ord f true true (wpe os.toList f s) N=some z)
  (hN:∀s' a w β,Ag D s s'→N s'=some z→aW Y.C E s' a w β→Q .normal a w) {a:Act} {w:World} {β:List Tr} (r:aW Y.C E s a w β):(Code.region id os true).wp P Q a w:=by
 have hos:os.toList.toArray=os:=by simp
 have hmem:∀i∈ord,∀o,os.toList[i.1]? =some o→∀n,Wr os.toList o n→D n:=fun i _ o ho=>hD o (List.mem_of_getElem? ho)
 have r0:aW Y.C E s a w.drew β:=r.ext (Ext.drew w)
 simp only[zX,Bool.and_eq_true,aZ] at hc
 obtain⟨hs,hlen,hcf⟩:=hc
 have hlen:=Nat.eq_of_beq_eq_true hlen
 have hsm:(wpe os.toList f s).m=s.m:=by
  unfold wpe
  cases f with
  |none=>rfl
  |some j=>
   simp only
   cases nth os.toList j with
   |none=>rfl
   |some o=>simp only;cases o.dst<;>rfl
 have r1:aW Y.C E (wpe os.toList f s) a w.drew β:=by
  unfold wpe
  cases f with
  |none=>exact r0
  |some j=>
   simp only
   cases nth os.toList j with
   |none=>exact r0
   |some o=>exact r0.aCV
 have hag:Ag D s (wpe os.toList f s):=by
  unfold wpe
  cases f with
  |none=>exact Ag.refl s
  |some j=>
   simp only[aM]
   cases ho:os.toList[j]? with
   |none=>exact Ag.refl s
   |some o=>exact(Ag.refl s).put (fun n e=>hD o (List.mem_of_getElem? ho) n (.inl e))
 have main:∀(E':Env U g) (kd:Option (Nat×Nat)),E'.prm=[]→Lk E' kd true true w.drew w.drew→aW Y.C E' (wpe os.toList f s) a w.drew β→(∀s' a w β,aW Y.C E' s' a w β→aW Y.C E s' a w β)→We Y TI FZ os.toList a0 kd ord f true true (wpe os.toList f s) N=some z→(Code.region id os true).wp P Q a w:=fun E' kd hP' hl r' hback h=>by
  refine wp_region_noPanic (wp_region_any hm (iI (a0:=a0) (S:=Ext w.drew) _ _ _ _ ?_))
  have hQ:∀s' a w β,Ag D (wpe os.toList f s) s'→N s'=some z→aW Y.C E' s' a w β→Q .normal a w:=fun s' a w β g1 g2 g3=>hN s' a w β (hag.trans g1) g2 (hback s' a w β g3)
  cases f with
  |none=>
   have:=aQ7 (E:=E') G (al:=os.toList) (a0:=a0) (kd:=kd) (Q:=Q) (D:=D) (by rw[hos];exact hs) ord true true _ N z hmem h hQ (Array.replicate os.size false) (by rw[hos];exact Dn0) (by rw[hos];exact hcf) aXr a w.drew β w.drew hl r'
   rw[hos,hlen] at this;exact this
  |some j=>
   simp only[Bool.and_eq_true,bne_iff_ne,ne_eq] at hcf
   obtain⟨hja,hcf⟩:=hcf
   split at hcf
   ·rename_i oj hj
    have:=aXl (E:=E') G (al:=os.toList) (a0:=a0) (kd:=kd) (Q:=Q) (D:=D) (by rw[hos];exact hs) hP' (j:=j) (oj:=oj) (by simpa using hj) hja ord true true _ N z hmem h hQ (Array.replicate os.size false) (by rw[hos];exact Dn0) (by rw[hos];exact hcf) aXr a w.drew β w.drew hl r'
    rw[hos,hlen] at this;exact this
   ·cases hcf
 cases kb with
 |false=>exact main E none hP ⟨fun _ _ h=>(by cases h),fun _=>rfl,fun _=>rfl,fun _=>Ext.refl _⟩ r1 (fun _ _ _ _ h=>h) h
 |true=>
  have hf:=r1.frame hP
  rw[hsm] at hf
  exact main (E.frm [(w.drew,s.m.o.length,s.m.k)]) (some (s.m.o.length,s.m.k)) hP ⟨fun n k h=>(by cases h;exact List.mem_cons_self),fun _=>rfl,fun h=>(by cases h),fun _=>Ext.refl _⟩ hf (fun _ _ _ _ h=>h.aBZ hE) (by rw[aZ] at h;exact h)
theorem bBs (G:Good P g Y TI FZ)(hm:P.follows .mixedOrders=true){os:Array Oper}{id:Nat}{bs:List Nat}{ord:List (Nat×Bool)}{Q:Exit→Act→World→Prop}{D:Nat→Prop}{s:St U}{z:α}{N:St U→Option α}
  (hD:∀o∈os.toList,∀n,Wr os.toList o n→D n) (hc:zX os none none ord=true) (h:aQb Y TI FZ os.toList bs ord s N=some z)
  (hN:∀s' a w β,Ag D s s'→N s'=some z→aW Y.C E s' a w β→Q .normal a w) {a:Act} {w:World} {β:List Tr} (r:aW Y.C E s a w β):(Code.region id os true).wp P Q a w:=by
 have hos:os.toList.toArray=os:=by simp
 have r0:aW Y.C E s a w.drew β:=r.ext (Ext.drew w)
 simp only[zX,Bool.and_eq_true,aZ] at hc
 obtain⟨hs,hlen,hcf⟩:=hc
 have hlen:=Nat.eq_of_beq_eq_true hlen
 let Yb:Nat→Prop:=fun k=>∃b∈bs,∃t,β[b]? =some t∧t.b=some k
 refine wp_region_noPanic (wp_region_any hm (iI (a0:=none) (S:=Bel Yb w.drew) _ _ _ _ ?_))
 have:=Ad (E:=E) G (al:=os.toList) (Q:=Q) (D:=D) (by rw[hos];exact hs) (bs:=bs) (Yb:=Yb) (wS:=w.drew) ord s N z (fun i _ o ho=>hD o (List.mem_of_getElem? ho)) h hN (Array.replicate os.size false) (by rw[hos];exact Dn0) (by rw[hos];exact hcf) a w.drew β (Bel.refl _) (fun b e t k h1 h2 h3 h4=>⟨fun hb=>⟨b,hb,t,h3,h4⟩,fun hb=>⟨fun⟨b',k1,t',k2,k3⟩=>r0.hp.dist b b' t t' k (fun e=>hb (e▸k1)) h3 k2 (Tr.root h4) (Tr.root k3),(r0.hp.new b t k h3 (Tr.root h4)).2⟩⟩) r0
 rw[hos,hlen] at this;exact this
theorem aTz {al:List Oper}{s:St U}:∀{fs:List Nat},(wpl al s fs).m=s.m
 |[]=>rfl
 |j::fs=>by
  have e:wpl al s (j::fs)=(match nth al j with|some o=>EV.put (wpl al s fs) o.dst (.l .any)|none=>wpl al s fs):=rfl
  rw[e]
  cases nth al j with
  |none=>exact aTz
  |some o=>rw[aQ9];exact aTz
theorem aOz {al:List Oper}{s:St U}{a:Act}{w:World}{β:List Tr}(r:aW Y.C E s a w β):∀{fs:List Nat},aW Y.C E (wpl al s fs) a w β
 |[]=>r
 |j::fs=>by
  have e:wpl al s (j::fs)=(match nth al j with|some o=>EV.put (wpl al s fs) o.dst (.l .any)|none=>wpl al s fs):=rfl
  rw[e]
  cases nth al j with
  |none=>exact aOz r
  |some o=>exact(aOz r).aCV
theorem aSs {al:List Oper}{s:St U}{D:Nat→Prop}(hD:∀o∈al,∀n,Wr al o n→D n):∀{fs:List Nat},Ag D s (wpl al s fs)
 |[]=>Ag.refl s
 |j::fs=>by
  have e:wpl al s (j::fs)=(match nth al j with|some o=>EV.put (wpl al s fs) o.dst (.l .any)|none=>wpl al s fs):=rfl
  rw[e,aM]
  cases ho:al[j]? with
  |none=>exact aSs hD
  |some o=>exact(aSs hD).put (fun n e=>hD o (List.mem_of_getElem? ho) n (.inl e))
theorem bBt (hE:E.fr=[])(hP:E.prm=[])(G:Good P g Y TI FZ)(hm:P.follows .mixedOrders=true){os:Array Oper}{id f:Nat}{bs fs:List Nat}{ord:List (Nat×Bool)}{Q:Exit→Act→World→Prop}{D:Nat→Prop}{s:St U}{z:α}{N:St U→Option α}
  (hD:∀o∈os.toList,∀n,Wr os.toList o n→D n) (hs:Region.noSelect os=true) (hc:aCe os f fs [] ord (Array.replicate os.size false)=true) (hbx:bxs bs s.m.o=true) (h:wF Y TI FZ os.toList bs (some (len s.m.o,s.m.k)) ord fs true (wpl os.toList s fs) N=some z)
  (hN:∀s' a w β,Ag D s s'→N s'=some z→aW Y.C E s' a w β→Q .normal a w) {a:Act} {w:World} {β:List Tr} (r:aW Y.C E s a w β):(Code.region id os true).wp P Q a w:=by
 have hos:os.toList.toArray=os:=by simp
 have r0:aW Y.C E (wpl os.toList s fs) a w.drew β:=(aOz r).ext (Ext.drew w)
 have hag:Ag D s (wpl os.toList s fs):=aSs hD
 let Yb:Nat→Prop:=fun k=>∃b∈bs,∃t,β[b]? =some t∧t.b=some k
 obtain⟨ps,p1,p2⟩:=aGi r0.hp bs (by rw[aTz];exact hbx)
 have r1:aW Y.C ((E.pinned ps).frm [(w.drew,s.m.o.length,s.m.k)]) (wpl os.toList s fs) a w.drew β:=by
  have:=(r0.pins p1).frame (show(E.pinned ps).prm=[] from hP)
  rw[aTz] at this;exact this
 have r2:aW Y.C (((E.pinned ps).frm [(w.drew,s.m.o.length,s.m.k)]).ahs (I5 []) (by simp[I5])) (wpl os.toList s fs) a w.drew β:=r1.aDS
 refine wp_region_noPanic (wp_region_any hm (iI (a0:=none) (S:=Bel Yb w.drew) _ _ _ _ ?_))
 rw[aZ] at h
 have:=aSq (E:=(E.pinned ps).frm [(w.drew,s.m.o.length,s.m.k)]) G (al:=os.toList) (Q:=Q) (D:=D) (by rw[hos];exact hs) hP (bs:=bs) (Yb:=Yb) (wS:=w.drew) (fun b hb=>by
  obtain⟨t,k,q1,q2,q3⟩:=p2 b hb
  exact⟨k,⟨b,hb,t,q1,q2⟩,List.mem_append.2 (.inl q3)⟩) (kd:=some (s.m.o.length,s.m.k)) (fun n k h=>by cases h;exact List.mem_cons_self) f fs [] ord fs true (wpl os.toList s fs) N z (fun i _ o ho=>hD o (List.mem_of_getElem? ho)) h (fun s' a w β g1 g2 g3=>hN s' a w β (hag.trans g1) g2 (g3.aBZ hE).aCM) (fun _ h=>h) (by simp) (by simp) (by simp) (Array.replicate os.size false) (by rw[hos];exact Dn0) (by rw[hos];exact hc) a w.drew β (by simp[I5]) (Bel.refl _) (fun _=>⟨rfl,fun k ⟨b,hb,t,ht,hk⟩=>aY3 ht (Tr.root hk),fun b e t k h1 h2 h3 h4=>⟨fun hb=>⟨b,hb,t,h3,h4⟩,fun hb=>⟨fun⟨b',k1,t',k2,k3⟩=>r0.hp.dist b b' t t' k (fun e=>hb (e▸k1)) h3 k2 (Tr.root h4) (Tr.root k3),(r0.hp.new b t k h3 (Tr.root h4)).2⟩⟩,rfl⟩) (by simp) r2
 rw[hos,show cntF (Array.replicate os.size false)=os.size by simp[cntF]] at this;exact this
theorem bBu (G:Good P g Y TI FZ)(hm:P.follows .mixedOrders=true){os:Array Oper}{id:Nat}{bs:List Nat}{ord:List (Nat×Bool)}{Q:Exit→Act→World→Prop}{D:Nat→Prop}{s:St U}{z:α}{N:St U→Option α}
  (hD:∀o∈os.toList,∀n,Wr os.toList o n→D n) (hc:zX os none none ord=true) (hbx:bxs bs s.m.o=true) (h:opsV Y TI FZ os.toList bs ord true s N=some z)
  (hN:∀s' a w β,Ag D s s'→N s'=some z→aW Y.C E s' a w β→Q .normal a w) {a:Act} {w:World} {β:List Tr} (r:aW Y.C E s a w β):(Code.region id os true).wp P Q a w:=by
 have hos:os.toList.toArray=os:=by simp
 have r0:aW Y.C E s a w.drew β:=r.ext (Ext.drew w)
 simp only[zX,Bool.and_eq_true,aZ] at hc
 obtain⟨hs,hlen,hcf⟩:=hc
 have hlen:=Nat.eq_of_beq_eq_true hlen
 let Yb:Nat→Prop:=fun k=>∃b∈bs,∃t,β[b]? =some t∧t.b=some k
 obtain⟨ps,p1,p2⟩:=aGi r0.hp bs hbx
 have r1:aW Y.C (E.pinned ps) s a w.drew β:=r0.pins p1
 refine wp_region_noPanic (wp_region_any hm (iI (a0:=none) (S:=Bel Yb w.drew) _ _ _ _ ?_))
 have:=rZ (E:=E.pinned ps) G (al:=os.toList) (Q:=Q) (D:=D) (by rw[hos];exact hs) (bs:=bs) (Yb:=Yb) (wS:=w.drew) (fun b hb=>by
  obtain⟨t,k,q1,q2,q3⟩:=p2 b hb
  exact⟨k,⟨b,hb,t,q1,q2⟩,List.mem_append.2 (.inl q3)⟩) ord true s N z (fun i _ o ho=>hD o (List.mem_of_getElem? ho)) h (fun s' a w β g1 g2 g3=>hN s' a w β g1 g2 g3.aCM) (Array.replicate os.size false) (by rw[hos];exact Dn0) (by rw[hos];exact hcf) a w.drew β (Bel.refl _) (fun _=>⟨rfl,fun k ⟨b,hb,t,ht,hk⟩=>aY3 ht (Tr.root hk),fun b e t k h1 h2 h3 h4=>⟨fun hb=>⟨b,hb,t,h3,h4⟩,fun hb=>⟨fun⟨b',k1,t',k2,k3⟩=>r0.hp.dist b b' t t' k (fun e=>hb (e▸k1)) h3 k2 (Tr.root h4) (Tr.root k3),(r0.hp.new b t k h3 (Tr.root h4)).2⟩⟩⟩) r1
 rw[hos,hlen] at this;exact this
theorem I6 (hE:E.fr=[])(hP:E.prm=[])(G:Good P g Y TI FZ)(hm:P.follows .mixedOrders=true)(id:Nat)(os:Array Oper)(d:Bool)(an:An){α:Type}(s:St U)(N:St U→Option α)(X:Nat→St U→Option α)(R:St U→Option α)(z:α)(D:Nat→Prop)(hD:∀o∈os.toList,∀n,Wr os.toList o n→D n)(hA:AW D an)(h:rgn Y TI FZ os.toList os d an s N=some z):Snd P Y E D (.region id os d) s z N X R:=by
 intro Q hN hX hR a w β r
 have hos:os.toList.toArray=os:=by simp
 have plain:∀an,(bif d then(match G6 FZ os.toList os an with|some l=>Vy Y TI FZ os.toList l s N|none=>none) else ops Y TI FZ os.toList os.toList s N)=some z→(Code.region id os d).wp P Q a w:=fun an h=>by
  cases d with
  |false=>
   refine wp_region_list ?_
   have:=Mx G (E:=E) (al:=os.toList) (Q:=Q) (D:=D) os.toList s N z hD h [] (fun s' a w β g1 g2 g3=>wpList_nil (hN s' a w β g1 g2 g3)) a w β r
   rw[List.append_nil,hos] at this;exact this
  |true=>
   simp only[cond_true] at h
   cases ho:G6 FZ os.toList os an with
   |none=>rw[ho] at h;cases h
   |some l=>
    rw[ho] at h
    exact aXq G hm (l1:=l) (l2:=[]) (α2:=α) (D2:=D) ho (by simp) hD h (fun s1 g1 g2=>⟨N,z,fun i hi=>by simp at hi,g2,fun a1 w1 β1 _ s' a' w' β' p1 p2 p3=>hN s' a' w' β' (g1.trans p1) p2 p3⟩) r
 cases an with
 |rj k tm a'=>
  cases d with
  |false=>
   replace h:ops Y TI FZ os.toList (tk os.toList k) s (fun s1=>bif wrG tm.ws os.toList (drp os.toList k) then bd (ops Y TI FZ os.toList (drp os.toList k) s1 fun s'=>col Y s1 tm s') fun d=>N (reb Y s1 tm d) else none)=some z:=h
   refine wp_region_list ?_
   have:=Mx G (E:=E) (al:=os.toList) (Q:=Q) (D:=D) (tk os.toList k) s _ z (fun o ho=>hD o (by rw[aMr] at ho;exact List.mem_of_mem_take ho)) h (drp os.toList k) (fun s1 a1 w1 β1 g1 g2 g3=>by
    cases hb:wrG tm.ws os.toList (drp os.toList k) with
    |false=>rw[hb] at g2;cases g2
    |true=>
     rw[hb] at g2
     simp only[cond_true] at g2
     obtain⟨d,k1,k2⟩:=fK g2
     have:=Mx G (E:=E) (al:=os.toList) (Q:=Q) (D:=fun n=>zR tm.ws 0 n=true) (drp os.toList k) s1 _ d (Wu hb) k1 [] (fun s' a' w' β' p1 p2 p3=>wpList_nil (by
      obtain⟨β'',r''⟩:=rE hE g3 p3 p1 p2
      obtain⟨_,_,_,hs,_⟩:=Ac p2
      exact hN _ _ _ _ (g1.trans ((I4 hs).mono hA)) k2 r'')) a1 w1 β1 g3
     rw[List.append_nil] at this;exact this) a w β r
   rw[aXp,hos] at this;exact this
  |true=>
   replace h:(match G6 FZ os.toList os a' with|some l=>Vy Y TI FZ os.toList (tk l k) s (fun s1=>bif wrG tm.ws os.toList (aFw os.toList (drp l k)) then bd (Vy Y TI FZ os.toList (drp l k) s1 fun s'=>col Y s1 tm s') fun d=>N (reb Y s1 tm d) else none)|none=>none)=some z:=h
   cases ho:G6 FZ os.toList os a' with
   |none=>rw[ho] at h;cases h
   |some l=>
    rw[ho] at h
    refine aXq G hm (l1:=tk l k) (l2:=drp l k) (α2:=Dat U tm.it) (D2:=fun n=>zR tm.ws 0 n=true) ho (aXp l k).symm hD h (fun s1 g1 g2=> ?_) r
    cases hb:wrG tm.ws os.toList (aFw os.toList (drp l k)) with
    |false=>rw[hb] at g2;cases g2
    |true=>
     rw[hb] at g2
     simp only[cond_true] at g2
     obtain⟨d,k1,k2⟩:=fK g2
     refine⟨_,d,fun i hi o hio=>Wu hb o (aNn hi hio),k1,fun a1 w1 β1 r1 s' a2 w2 β2 p1 p2 p3=> ?_⟩
     obtain⟨β'',r''⟩:=rE hE r1 p3 p1 p2
     obtain⟨_,_,_,hs,_⟩:=Ac p2
     exact hN _ _ _ _ (g1.trans ((I4 hs).mono hA)) k2 r''
 |y kb f a0 ord=>
  cases d with
  |false=>cases h
  |true=>
   replace h:(bif true&&zX os f a0 ord then We Y TI FZ os.toList a0 (bif kb then some (len s.m.o,s.m.k) else none) ord f true true (wpe os.toList f s) N else none)=some z:=h
   cases hc:zX os f a0 ord with
   |false=>rw[hc] at h;cases h
   |true=>
    rw[hc] at h
    exact bBr hE hP G hm hD hc h hN r
 |w bs ord=>
  cases d with
  |false=>cases h
  |true=>
   replace h:(bif true&&zX os none none ord then aQb Y TI FZ os.toList bs ord s N else none)=some z:=h
   cases hc:zX os none none ord with
   |false=>rw[hc] at h;cases h
   |true=>
    rw[hc] at h
    exact bBs G hm hD hc h hN r
 |v bs ord=>
  cases d with
  |false=>cases h
  |true=>
   replace h:(bif true&&(zX os none none ord&&bxs bs s.m.o) then opsV Y TI FZ os.toList bs ord true s N else none)=some z:=h
   cases hc:(zX os none none ord&&bxs bs s.m.o) with
   |false=>rw[hc] at h;cases h
   |true=>
    rw[hc] at h
    rw[Bool.and_eq_true] at hc
    exact bBu G hm hD hc.1 hc.2 h hN r
 |u bs fs ord=>
  cases d with
  |false=>cases h
  |true=>
   replace h:(bif true&&(Region.noSelect os&&(aCe os (Nat.succ (Nat.add (len ord) (len ord))) fs [] ord (Array.replicate os.size false)&&bxs bs s.m.o)) then wF Y TI FZ os.toList bs (some (len s.m.o,s.m.k)) ord fs true (wpl os.toList s fs) N else none)=some z:=h
   cases hc:(Region.noSelect os&&(aCe os (Nat.succ (Nat.add (len ord) (len ord))) fs [] ord (Array.replicate os.size false)&&bxs bs s.m.o)) with
   |false=>rw[hc] at h;cases h
   |true=>
    rw[hc] at h
    simp only[Bool.and_eq_true] at hc
    exact bBt hE hP G hm hD hc.1 hc.2.1 hc.2.2 h hN r
 |n=>exact plain .n h
 |s x y=>exact plain (.s x y) h
 |j t x=>exact plain (.j t x) h
 |jx t x=>exact plain (.jx t x) h
 |l t f x=>exact plain (.l t f x) h
 |r a0 o=>exact plain (.r a0 o) h
 |z o=>exact plain (.z o) h
 |il i a b=>exact plain (.il i a b) h
 |pl a=>exact plain (.pl a) h
end
end Go.EV
