import Derived.Test.YtfllllgehgablaaGreatDoorEVvtoyb
/-
  THE EVALUATOR's KIT: drawn regions of loads out of boxes and stores into other boxes, where a load may come up late. Plain theorems over any program; the conditions stand in each.
-/
set_option linter.all false
namespace Go.EV
open Go.RowKit Go.VK
variable {U:Uni} {Y:Lay U} {TI:List (Nat×TInfo)} {FZ:List (Nat×Sum U)} {P:Program} {g:GI} {E:Env U g}
section
variable {s s':St U} {a:Act} {w w':World} {β β':List Tr} {α:Type}
def E8 (bs:List Nat)(Yb:Nat->Prop)(n:Nat)(s:St U)(β:List Tr):Prop:=∀(b:Nat) (e:EO U) (t:Tr) (k:Nat),s.m.o[b]? =some e->e.ob.aAX=true->β[b]? =some t->t.b=some k->(b∈bs->Yb k)/\(b∉bs->¬Yb k/\k<n)
def aDx {bs:List Nat}{Yb:Nat->Prop}{wS:World}(r:bE Y.C E s a w β)(hI:E8 bs Yb wS.heap.size s β)(hb:Bel Yb wS w){t:Nat}{i:TInfo}(hti:tiB P t i=true){b o:Nat}{y:Sv U}{v:Value}(hm:(Lf.box b o:Lf U).mean Y.C w (E.X β) β s.m v)(h:load Y s i (.box b o)=some y)(hn:b∉bs):
  ∃p v',v= .pointer (some p)/\(∀w',Bel Yb wS w'->(loadVar t p).run P w'= .ok v' w')/\y.mean Y.C w (E.X β) β s.m v':=by
 simp only[load,aR] at h
 obtain⟨_,e,tr,h1,h2,h3⟩:=hm
 simp only[h1] at h
 have hok:=r.hp.ok b tr e h2 h1
 have hi:=hI b e tr
 obtain⟨ob,rv,cv⟩:=e
 cases ob with
 |box T cs us=>
  obtain⟨bb,h4,rfl⟩:=h3 rfl
  obtain⟨_,b',vs,k1,k2,k3,k4⟩:=hok
  rw[h4] at k1;injection k1 with k1;subst k1
  obtain⟨q1,q2⟩:=(hi bb h1 rfl h2 h4).2 hn
  obtain⟨v',q3,q4⟩:=aAn (S:=Bel Yb wS) (P:=P) (p:=⟨bb,o,none⟩) hti h (k4.drop o) (λw' he j u hj=>by
   rw[fC,cell_of_row w' bb (o+j) _ T (0,0) ((he.block bb q2 q1).trans ((hb.block bb q2 q1).symm.trans k3))]
   simpa using hj)
  exact⟨_,v',rfl,q3,q4⟩
 |_=>cases h
def E8.go {bs:List Nat}{Yb:Nat->Prop}{n:Nat}(h:E8 bs Yb n s β){m:Mm U}{N M K:Nat}(hN:N=s.m.o.length)(r:Hp Y.C E s.m β w)(hl:m.o.length=s.m.o.length)(hev:Evo w w' (E.X β) (E.X β') β β' s.m m N M K){t:List (Sv U)}{fr}:E8 bs Yb n ⟨t,m,fr⟩ β':=by
 intro b e t k h1 h2 h3 h4
 have hb:b<s.m.o.length:=by rw[<-hl];exact lt_of_some h1
 have e1:s.m.o[b]? =some s.m.o[b]:=ac hb
 have e2:β[b]? =some (β[b]'(by rw[r.len];exact hb)):=ac _
 obtain⟨e',t',k1,k2,_,_,k5⟩:=hev.ho b _ _ (by omega) e1 e2
 replace h1:m.o[b]? =some e:=h1
 rw[h1] at k1;injection k1 with k1;subst k1
 rw[h3] at k2;injection k2 with k2;subst k2
 obtain⟨j1,j2⟩:=k5 h2
 exact h b _ _ k e1 j1 e2 (by rw[<-j2];exact h4)
def bEl {i:Nat}{l:List Nat}(h:(!Fb i l)=true):i∉l:=λhi=>by rw[lQ.2 hi] at h;cases h
variable {al:List Oper} {Q:Exit->Act->World->Prop} {D:Nat->Prop}
def Fw (G:Good P g Y TI FZ)(hs:Region.noSelect al.toArray=true){bs:List Nat}{Yb:Nat->Prop}{wS:World}:∀(l:List (Nat×Bool)) (s:St U) (K:St U->Option α) (z:α),(∀i∈l,∀o,al[i.1]? =some o->∀n,Wr al o n->D n)->bAj Y TI FZ al bs l s K=some z->
  (∀s' a w β,Ag D s s'->K s'=some z->bE Y.C E s' a w β->Q .normal a w)->∀listed,Dn .any al.toArray listed->Ku al.toArray none l listed=true->∀a w β,Bel Yb wS w->E8 bs Yb wS.heap.size s β->bE Y.C E s a w β->dJ P .any al.toArray none (NoPanic Q) (Bel Yb wS) l.length listed a w
 |[],s,K,z,_,h,hQ,listed,_,hc,a,w,β,_,_,r=>nV (P:=P) (a0:=none) (S:=Bel Yb wS) (Q:=NoPanic Q) (by simpa[Ku] using hc) (hQ s a w β (Ag.refl s) h r) 0
 |(i,fl)::l,s,K,z,hD,h,hQ,listed,hdn,hc,a,w,β,hb,hI,r=>by
  simp only[bAj,aR] at h
  cases ho:al[i]? with
  |none=>rw[ho] at h;cases h
  |some o=>
   rw[ho] at h
   simp only at h
   have hDi:=hD (i,fl) (by simp) o ho
   have hD':∀j∈l,∀o,al[j.1]? =some o->∀n,Wr al o n->D n:=λj hj=>hD j (by simp[hj])
   have hg:al.toArray[i]? =some o:=by simpa using ho
   have put':∀{s1:St U} {x:Sv U},s1.t=s.t->s1.fr=s.fr->Am s.m s1.m->Ag (Wr al o) s (put s1 o.dst x):=λe1 e2 e3=>Ag.put ⟨λn _=>by rw[e1],by rw[e1],by rw[e2],e3⟩ (λn e=> .inl e)
   have invP:∀{s1:St U} {β1:List Tr} {x:Sv U},E8 bs Yb wS.heap.size s1 β1->E8 bs Yb wS.heap.size (put s1 o.dst x) β1:=λ{s1 β1 x} h b e t k h1=>h b e t k (by rw[show(put s1 o.dst x).m=s1.m by cases o.dst<;>rfl] at h1;exact h1)
   cases hb0:(noG o&&(bif fl then ldW bs s o.op else(stW bs s o.op||aAj o.op))) with
   |false=>rw[hb0] at h;cases h
   |true=>
    rw[hb0] at h
    simp only[ae] at h
    rw[aa] at hb0
    have hgd:o.guard=none:=by
     have:=hb0.1
     unfold noG at this
     split at this
     ·assumption
     ·cases this
    have hw:Region.wanted o (yielded al.toArray a.tmps)=true:=by simp[Region.wanted,hgd]
    have hop:=hb0.2
    cases fl with
    |true=>
     simp only[ae] at hop
     simp only[Ku,aa] at hc
     obtain⟨hr,_⟩:=nX hc.1
     cases hoo:o.op with
     |load t x=>
      rw[hoo] at hop
      simp only[ldW] at hop
      split at hop
      ·rename_i b off hx
       unfold one at h
       rw[hoo] at h
       replace h:(match(match iE TI t,dS s x with
        |some i, .l p=>load Y s i p
        |_,_=>none) with
        |some y=>bAj Y TI FZ al bs l (put s o.dst y) K
        |none=>none)=some z:=h
       rw[hx] at h
       cases hf:iE TI t with
       |none=>rw[hf] at h;cases h
       |some ti=>
        rw[hf] at h
        simp only at h
        cases hld:load Y s ti (.box b off) with
        |none=>rw[hld] at h;cases h
        |some y=>
         rw[hld] at h
         simp only at h
         obtain⟨p,v',q1,q2,q3⟩:=aDx r hI hb (bP G.ti hf) (lJ r hx) hld (bEl hop)
         have hy:YieldsIf P al.toArray (Bel Yb wS) o v' a:= .inl ⟨hw,λw' he=>by simp[execOp,hoo,q1,Instr.loadAt,Instr.sureAddr,q2 w' he]⟩
         simp only[tkY,aa] at hc
         refine kD hg (Region.noSelect_spec hs) (λ_ _ _ h=>h) (by simp) (λ_ _ _=>rfl) _ listed a w (Region.free_spec hg hc.1.1.1) hdn hr hy hb ?_
         have ag:=put' (s1:=s) (x:=y) rfl rfl (Am.refl _)
         exact Fw G hs l _ K z hD' h (λs2 a2 w2 β2 g1=>hQ s2 a2 w2 β2 ((ag.mono hDi).trans g1)) _ (hdn.set hr) hc.2 _ w β hb (invP hI) (r.put λ_=>q3)
      ·cases hop
     |_=>rw[hoo] at hop;cases hop
    |false=>
     simp only[ab] at hop
     simp only[Ku,aa,cI] at hc
     refine jG hc.1 (by simp) λi' hi'=> ?_
     simp at hi';subst hi'
     have hr:i'∈Region.ready .any al.toArray listed:=by rw[hc.1];simp
     rw[cq] at hop
     rcases hop with hop|hop
     ·cases hoo:o.op with
      |store t x y=>
       rw[hoo] at hop
       simp only[stW] at hop
       split at hop
       ·rename_i b off hx
        unfold one stp at h
        rw[hoo] at h
        simp only[hx] at h
        split at h
        ·rename_i ti b' off' ps h1 h2 h3
         cases h2
         split at h
         ·rename_i T cs us rv cv h4
          rw[aR] at h4
          cases hbb:(Nat.beq (len ps) ti.k&&(Nat.ble (off+ti.k) (len cs)&&Bg ps)) with
          |false=>rw[hbb] at h;cases h
          |true=>
           rw[hbb] at h
           simp only[ae] at h
           simp only[aa,bH] at hbb
           obtain⟨w',β',t',bb,e1,r1,hev,hbel,e2,e3⟩:=Fj G.ti r hoo h1 hx h3 h4 (ah hbb.1) (bc hbb.2.1) hbb.2.2
           have hyb:Yb bb:=(hI b _ _ bb h4 rfl e2 e3).1 (lQ.1 hop)
           have hb':Bel Yb wS w':=hb.trans ⟨hbel.os,hbel.tape,hbel.output,hbel.size,λk hk hy=>hbel.block k hk λe=>hy (by rw[e];exact hyb)⟩
           have hI':=invP (x:= .l .any) (hI.go (E:=E) (Y:=Y) (t:=(trn s b (.box T (o5 cs off ps) (o5 us off (ps.map λ_=>Nat.succ s.m.k))) rv).t) (fr:=(trn s b (.box T (o5 cs off ps) (o5 us off (ps.map λ_=>Nat.succ s.m.k))) rv).fr) rfl r.hp (by simp[trn,bX]) hev)
           have ag:=put' (s1:=trn s b (.box T (o5 cs off ps) (o5 us off (ps.map λ_=>Nat.succ s.m.k))) rv) (x:= .l .any) rfl rfl (La h4 (ah hbb.1) (bc hbb.2.1) (r.aBR h4))
           refine wpOp_step hg λK' hK'=> ?_
           rw[cH hw]
           refine wpo (.inr ⟨e1,rfl⟩) (hK' _ _ ⟨λ_=>hb',?_⟩)
           exact Fw G hs l _ K z hD' h (λs2 a2 w2 β2 g1=>hQ s2 a2 w2 β2 ((ag.mono hDi).trans g1)) _ (hdn.set hr) hc.2.2 _ w' β' hb' hI' (r1.put λ_=>trivial)
         ·cases h
        ·rename_i h2 _;cases h2
        ·rename_i h2 _;cases h2
        ·cases h
       ·cases hop
      |_=>rw[hoo] at hop;cases hop
     ·have hc0:uC FZ o.op=0:=by
       cases hoo:o.op<;>rw[hoo] at hop<;>first|rfl|cases hop
      have hgr:grd Y TI FZ al o s (λs'=>bAj Y TI FZ al bs l s' K)=some z:=by
       unfold grd aMa;rw[hgd];exact h
      obtain⟨v,s1,h1,h2,h3,h4⟩:=bHl G r hc0 hgr
      have hI':E8 bs Yb wS.heap.size s1 β:=λb e t k k1 k2 k3 k4=>by
       have hbl:b<s.m.o.length:=by rw[<-r.hp.len];exact lt_of_some k3
       exact hI b _ t k (ac hbl) ((h4.m.o b _ _ (ac hbl) k1).2.1 k2) k3 k4
      refine wpOp_step hg λK' hK'=> ?_
      rw[cH hw]
      rcases h1 with⟨_,h1⟩|⟨h1,_⟩
      ·refine wpo (.inl (h1 w (Ext.refl w))) (hK' _ _ ⟨λ_=>hb,?_⟩)
       exact Fw G hs l _ K z hD' h3 (λs2 a2 w2 β2 g1=>hQ s2 a2 w2 β2 ((h4.mono hDi).trans g1)) _ (hdn.set hr) hc.2.2 _ w β hb hI' h2
      ·rw[hw] at h1;cases h1
def Env.pinned (E:Env U g)(l:List (Sv U×Value)):Env U g:=⟨E.X0,E.Y0,E.w0,E.prm,E.fr,E.h0,E.hY,E.hXY,E.hg,l++E.pin⟩
def bE.pins {C:Cod U}(r:bE C E s a w β){ps:List (Sv U×Value)}(h:∀x∈ps,x.1.mean C w (E.X β) β s.m x.2):bE C (E.pinned ps) s a w β:=
 ⟨⟨r.hp.ext,r.hp.len,r.hp.vers,r.hp.cnt,r.hp.new,r.hp.dist,r.hp.nd,r.hp.ok,λx hx=>(bw.1 hx).elim (h x) (r.hp.pin x),r.hp.prm,r.hp.fr⟩,r.defers,r.tsz,r.tm⟩
def bE.aDF {C:Cod U}{ps:List (Sv U×Value)}(r:bE C (E.pinned ps) s a w β):bE C E s a w β:=
 ⟨⟨r.hp.ext,r.hp.len,r.hp.vers,r.hp.cnt,r.hp.new,r.hp.dist,r.hp.nd,r.hp.ok,λx hx=>r.hp.pin x (bw.2 (.inr hx)),r.hp.prm,r.hp.fr⟩,r.defers,r.tsz,r.tm⟩
def aTy {C:Cod U}{m:Mm U}(H:Hp C E m β w):∀(bs:List Nat),bxs bs m.o=true->∃ps:List (Sv U×Value),(∀x∈ps,x.1.mean C w (E.X β) β m x.2)/\∀b∈bs,∃t k,β[b]? =some t/\t.b=some k/\(Sv.l (.box b 0),Value.pointer (some ⟨k,0,none⟩))∈ps
 |[],_=>⟨[],by simp,by simp⟩
 |b::bs,h=>by
  have h':(match nth m.o b with|some ⟨.box ..,_,_⟩=>bxs bs m.o|_=>false)=true:=h
  split at h'
  ·rename_i T cs us rv cv ho
   rw[aR] at ho
   obtain⟨t,ht⟩:=H.tr ho
   obtain⟨_,k,vs,e1,e2,e3,e4⟩:=H.ok b t _ ht ho
   obtain⟨ps,p1,p2⟩:=aTy H bs h'
   refine⟨(Sv.l (.box b 0),Value.pointer (some ⟨k,0,none⟩))::ps,λx hx=> ?_,λb' hb=> ?_⟩
   ·rcases ba.1 hx with rfl|hx
    ·exact⟨rfl,_,t,ho,ht,λ_=>⟨k,e1,rfl⟩⟩
    ·exact p1 x hx
   ·rcases ba.1 hb with rfl|hb
    ·exact⟨t,k,ht,e1,by simp⟩
    ·obtain⟨t',k',q1,q2,q3⟩:=p2 b' hb
     exact⟨t',k',q1,q2,by simp[q3]⟩
  ·cases h'
def aTz {Yb:Nat->Prop}(hY:∀k,Yb k->E.X β k){t:Nat}{i:TInfo}(hti:tiB P t i=true){τ o:Nat}{zz:U.El τ}{y:Sv U}{v:Value}(hm:(Lf.ptr τ zz o:Lf U).mean Y.C w (E.X β) β s.m v)(h:load Y s i (.ptr τ zz o)=some y):
  ∃p v',v= .pointer (some p)/\(∀w',Bel Yb w w'->(loadVar t p).run P w'= .ok v' w')/\y.mean Y.C w (E.X β) β s.m v':=by
 simp only[load] at h
 have hm':Rd w (E.X β) [] v (.elem ((U.enc τ zz).drop o)):=hm
 cases v with
 |pointer p=>
  cases hm' with
  | @elem _ ad _ val hX hb hcell hrd=>
   have hlen:((List.range ((Y.C.cel τ zz).drop o).length).map val).length=((Y.C.cel τ zz).drop o).length:=by simp
   obtain⟨v',q1,q2⟩:=aAn (S:=Bel Yb w) (P:=P) (p:=ad) (vs:=(List.range ((Y.C.cel τ zz).drop o).length).map val) hti h (m:=s.m) (C:=Y.C) (w:=w) (X:=E.X β) (β:=β) ⟨hlen,λj u c h5 h6=>by
     have hjl:=lt_of_some h6
     simp only[bg,dT hjl,cJ,ai] at h5
     subst h5
     have hd:((U.enc τ zz).drop o)[j]? =some c.toV:=by
      rw[<-Y.C.hcel,<-fp,bg,h6];rfl
     have hr:=hrd j _ hd
     have hdat:=Y.C.hdat τ zz c (dl (az h6))
     cases c with
     |int k n=>exact hr.aAO
     |bool b=>exact hr.aAW
     |str b=>exact hr.aAT
     |sl τ' l=>exact hr
     |_=>cases hdat⟩ (λw' he j u hj=>by
     have hjl:j<((Y.C.cel τ zz).drop o).length:=by have:=lt_of_some hj;rw[hlen] at this;exact this
     simp only[bg,dT hjl,cJ,ai] at hj
     subst hj
     have hc:=hcell j (((U.enc τ zz).drop o)[j]'(by rw[<-Y.C.hcel,<-fp,bl];exact hjl)) (ac _)
     exact(World.cell?_of_block (a:=ad.add j) (w:=w) (w':=w') (by rw[add_block];exact he.block _ hb λhy=>hX (hY _ hy))).trans hc)
   exact⟨_,v',rfl,q1,q2⟩
 |_=>cases hm'
def Bl (P:Program){γ:Type}(x:Sem γ):Prop:=∀(w w1:World) (v:γ),x.run P w= .ok v w1->w1=w/\∀w',x.run P w'= .ok v w'
def Bl.pure {γ:Type}(c:γ):Bl P (Pure.pure c:Sem γ):=λw w1 v h=>by
 simp only[Sem.run_pure] at h ⊢
 injection h with h1 h2
 subst h1 h2
 exact⟨rfl,λ_=>rfl⟩
def Bl.bind {γ δ:Type}{x:Sem γ}{f:γ->Sem δ}(hx:Bl P x)(hf:∀c,Bl P (f c)):Bl P (x>>=f):=λw w1 v h=>by
 rw[Sem.run_bind] at h
 cases hr:x.run P w with
 |ok c w2=>
  rw[hr] at h
  obtain⟨e,h1⟩:=hx _ _ _ hr
  subst e
  obtain⟨e2,h2⟩:=hf c _ _ _ h
  subst e2
  exact⟨rfl,λw'=>by rw[Sem.run_bind,h1 w'];exact h2 w'⟩
 |halt y w2=>rw[hr] at h;cases h
def Bl.no {γ:Type}{x:Sem γ}(hx:∀(w w1:World) (v:γ),x.run P w≠ .ok v w1):Bl P x:=λw w1 v h=>absurd h (hx w w1 v)
def Bl.ite {γ:Type}{c:Prop}[Decidable c]{x y:Sem γ}(hx:Bl P x)(hy:Bl P y):Bl P (if c then x else y):=by split<;>assumption
def Bl.und (t:TypeId):Bl P (underlying t):=λw w1 v h=>by
 unfold underlying at h ⊢
 simp only[Sem.run_bind] at h ⊢
 cases hu:P.underlying t with
 |none=>simp[hu] at h
 |some d=>
  simp[hu] at h ⊢
  exact⟨h.2.symm,h.1⟩
def Bl.size (t:TypeId):Bl P (sizeOf t):=λw w1 v h=>by
 unfold sizeOf typeInfo at h ⊢
 simp only[Sem.run_bind] at h ⊢
 cases hu:P.info? t with
 |none=>simp[hu] at h
 |some d=>
  simp[hu] at h ⊢
  exact⟨h.2.symm,h.1⟩
def Bl.sure (v:Value):Bl P (Instr.sureAddr v):=by
 unfold Instr.sureAddr
 split
 ·exact Bl.pure _
 ·exact Bl.no λ_ _ _ h=>by simp at h
def Bl.asInt (v:Value):Bl P (asIntOf v):=by
 unfold asIntOf
 split
 ·exact Bl.pure _
 ·exact Bl.no λ_ _ _ h=>by simp at h
 ·exact Bl.no λ_ _ _ h=>by simp at h
def then_ok {γ δ:Type}{x:Result γ}{f:γ->World->Result δ}{c:δ}{w1:World}(h:x.andThen f= .ok c w1):∃y w2,f y w2= .ok c w1:=by
 cases x with
 |ok y w2=>exact⟨y,w2,h⟩
 |halt y w2=>cases h
def Bl.stuck {γ:Type}(s:String):Bl P (stuck s:Sem γ):=Bl.no λ_ _ _ h=>by simp at h
def Bl.aDL {γ:Type}(u:Unsupported):Bl P (unsupported u:Sem γ):=Bl.no λ_ _ _ h=>by simp at h
def Bl.bounds {γ:Type}(k:IntKind)(x y:Int)(c:BoundsCode):Bl P (boundsPanic k x y c:Sem γ):=Bl.no λw w1 v h=>by
 unfold boundsPanic at h
 dsimp only at h
 split at h<;>rw[Sem.run_bind] at h<;>obtain⟨_,_,h2⟩:=then_ok h<;>simp[runtimePanic] at h2
def Bl.index (t:TypeId)(A:Option Addr)(n c:Nat)(ix:Value):Bl P (Instr.indexAt t (.slice A n c) ix):=by
 unfold Instr.indexAt
 dsimp only
 repeat' first
  |with_reducible exact Bl.pure _
  |with_reducible exact Bl.bounds ..
  |with_reducible exact Bl.und _
  |with_reducible exact Bl.size _
  |with_reducible exact Bl.sure _
  |with_reducible exact Bl.asInt _
  |with_reducible exact Bl.stuck _
  |with_reducible exact Bl.aDL _
  |with_reducible refine Bl.ite ?_ ?_
  |with_reducible refine Bl.bind ?_ λ_=> ?_
  |split
def Bl.pick (o:Oper){c x y:Operand}(ho:o.op= .pick c x y)(ρ:Operand->Value):Bl P (execOp ρ o):=by
 simp only[execOp,ho]
 refine Bl.bind ?_ λ_=>Bl.pure _
 unfold asBool
 split
 ·exact Bl.pure _
 ·exact Bl.no λ_ _ _ h=>by simp at h
def aY7 {bs : List Nat} {o : Oper} (r : bE Y.C E s a w β) {b : BinOp} {t : TypeId} {x y : Operand} {u : TypeId} (hoo : o.op = .binOp b t x y u) (he : erl bs s o.op = true) {v : Value} (hv : (execOp a.eval o).run P w = .ok (.value v) w) (w' : World) : (execOp a.eval o).run P w' = .ok (.value v) w' := by
  rw [hoo] at he
  simp only [erl] at he
  have hxy : ∀ {k m k' n}, sG s x = .l (.int k m) -> sG s y = .l (.int k' n) -> a.eval x = .int k m /\ a.eval y = .int k' n := λ{k m k' n} hx hy =>
    ⟨(lJ r (x := x) (show dS s x = .l (.int k m) by unfold dS; rw [hx]; rfl)).1, (lJ r (x := y) (show dS s y = .l (.int k' n) by unfold dS; rw [hy]; rfl)).1⟩
  split at he <;> first
    | (rename_i k m k' n hx hy
       obtain ⟨e1, e2⟩ := hxy hx hy
       by_cases hk : k = k'
       · subst hk
         simp [execOp, hoo, e1, e2, eqGuard_at_int, binOp_add, binOp_sub, binOp_lss, binOp_leq, binOp_gtr, binOp_geq, binOp_eql, binOp_neq, Op.intArith] at hv ⊢
         exact hv
       · simp [execOp, hoo, e1, e2, eqGuard_at_int, binOp, hk] at hv)
    | cases he
def bA6 (G:Good P g Y TI FZ){bs:List Nat}{Yb:Nat->Prop}{al:List Oper}{o:Oper}(r:bE Y.C E s a w β)(hI:E8 bs Yb w.heap.size s β)(hY:∀k,Yb k->E.X β k)(he:erl bs s o.op=true){v:Value}(hv:(execOp a.eval o).run P w= .ok (.value v) w){K:St U->Option α}{z:α}(h:one Y TI FZ o s K=some z):∀w',Bel Yb w w'->(execOp a.eval o).run P w'= .ok (.value v) w':=by
 have vof:∀{x:Sem Value} {w1:World} {u:Value},x.run P w1= .ok u w1->(do pure (Next.value (<-x)):Sem Next).run P w1= .ok (.value u) w1:=λh=>by simp[h]
 cases hoo:o.op with
 |move x=>exact λw' _=>Cf (by rw[hoo];rfl) hv w'
 |assign x=>exact λw' _=>Cf (by rw[hoo];rfl) hv w'
 |extract x i=>exact λw' _=>Cf (by rw[hoo];rfl) hv w'
 |pick c x y=>exact λw' _=>(Bl.pick o hoo _ _ _ _ hv).2 w'
 |load t x=>
  rw[hoo] at he
  simp only[erl] at he
  unfold one at h
  rw[hoo] at h
  replace h:(match(match iE TI t,dS s x with
   |some i, .l p=>load Y s i p
   |_,_=>none) with
   |some y=>K (put s o.dst y)
   |none=>none)=some z:=h
  have fin:∀{p:Addr} {v':Value},a.eval x= .pointer (some p)->(∀w',Bel Yb w w'->(loadVar t p).run P w'= .ok v' w')->∀w',Bel Yb w w'->(execOp a.eval o).run P w'= .ok (.value v) w':=λ{p v'} q1 q2 w' hb=>by
   have e:∀w',Bel Yb w w'->(execOp a.eval o).run P w'= .ok (.value v') w':=λw' hb=>by simp[execOp,hoo,q1,Instr.loadAt,Instr.sureAddr,q2 w' hb]
   have:=(e w (Bel.refl w)).symm.trans hv
   injection this with this _
   injection this with this
   rw[<-this];exact e w' hb
  split at he
  ·rename_i b off hx
   rw[hx] at h
   cases hf:iE TI t with
   |none=>rw[hf] at h;cases h
   |some ti=>
    rw[hf] at h
    simp only at h
    cases hld:load Y s ti (.box b off) with
    |none=>rw[hld] at h;cases h
    |some y=>
     obtain⟨p,v',q1,q2,_⟩:=aDx r hI (Bel.refl w) (bP G.ti hf) (lJ r hx) hld (bEl he)
     exact fin q1 q2
  ·rename_i τ zz off hx
   rw[hx] at h
   cases hf:iE TI t with
   |none=>rw[hf] at h;cases h
   |some ti=>
    rw[hf] at h
    simp only at h
    cases hld:load Y s ti (.ptr τ zz off) with
    |none=>rw[hld] at h;cases h
    |some y=>
     obtain⟨p,v',q1,q2,_⟩:=aTz hY (bP G.ti hf) (lJ r hx) hld
     exact fin q1 q2
  ·cases he
 |fieldAddr t y f=>
  unfold one at h
  rw[hoo] at h
  replace h:(match(match iE TI t,dS s y with
   |some ⟨.st fs,_,_⟩, .l p=>match fld fs f with
    |some (off,_,_)=>match rR s.m off p with
     |some z=>some (.l z)
     |none=>none
    |none=>none
   |_,_=>none) with
   |some y=>K (put s o.dst y)
   |none=>none)=some z:=h
  cases hp:(match iE TI t,dS s y with
   |some ⟨.st fs,_,_⟩, .l p=>match fld fs f with
    |some (off,_,_)=>match rR s.m off p with
     |some z=>some (Sv.l z)
     |none=>none
    |none=>none
   |_,_=>none) with
  |none=>rw[hp] at h;cases h
  |some x0=>
   split at hp
   ·rename_i fs i z p h1 h2
    split at hp
    ·rename_i off ft n h3
     split at hp
     ·rename_i q h4
      have hfb:=(A8 (bP G.ti h1) rfl).2.1
      simp only[fld,aR] at h3
      have h5:=(aHl hfb h3).1
      rw[ca] at h5
      obtain⟨v',q1,q2⟩:=C9 r h5 (lJ r h2) h4
      have e:∀w':World,(execOp a.eval o).run P w'= .ok (.value v') w':=λw'=>by simp[execOp,hoo,q1]
      have:=(e w).symm.trans hv
      injection this with this _
      injection this with this
      intro w' _
      rw[<-this];exact e w'
     ·cases hp
    ·cases hp
   ·cases hp
 |indexAddr t x y=>
  rw[hoo] at he
  simp only[erl] at he
  split at he
  ·rename_i τ l k n hx hy
   have hm:Rd w (E.X β) [] (a.eval x) (.slice (U.K τ) (l.map (U.enc τ))):=lJ r hx
   cases hvx:a.eval x with
   |slice A n c=>
    have e:∀w':World,(execOp a.eval o).run P w'=(do pure (Next.value (<-Instr.indexAt t (.slice A n c) (a.eval y))):Sem Next).run P w':=λw'=>by simp only[execOp,hoo,hvx]
    rw[e] at hv
    intro w' _
    rw[e]
    exact(Bl.bind (Bl.index _ _ _ _ _) (λ_=>Bl.pure _) _ _ _ hv).2 w'
   |_=>rw[hvx] at hm;cases hm
  ·cases he
 |binOp b t x y u=>exact λw' _=>aY7 r hoo he hv w'
 |_=>rw[hoo] at he;cases he
def E8.am {bs:List Nat}{Yb:Nat->Prop}{n:Nat}(h:E8 bs Yb n s β)(r:Hp Y.C E s.m β w)(ha:Am s.m s'.m):E8 bs Yb n s' β:=λb e t k k1 k2 k3 k4=>by
 have hbl:b<s.m.o.length:=by rw[<-r.len];exact lt_of_some k3
 exact h b _ t k (ac hbl) ((ha.o b _ _ (ac hbl) k1).2.1 k2) k3 k4
def bHr {bs:List Nat}{o:Op}(h:erl bs s o=true):uC FZ o=0:=by
 cases o<;>first|rfl|cases h
def bEm {d:Option Nat}{x:Sv U}:(EV.put s d x).m=s.m:=by cases d<;>rfl
end
end Go.EV

namespace Go.EV
open Go.RowKit Go.VK
variable {U:Uni} {Y:Lay U} {TI:List (Nat×TInfo)} {FZ:List (Nat×Sum U)} {P:Program} {g:GI} {E:Env U g}
section
variable {C:Cod U} {s:St U} {a:Act} {w w':World} {β:List Tr}
def Env.ahs (E:Env U g)(L:List (Nat×Obj))(hb:∀x∈L,E.w0.heap.size<=x.1):Env U g:=
 ⟨λb'=>E.X0 b'\/∃x∈L,x.1=b',E.Y0,E.w0,L++E.prm,E.fr,λb' h=>by
  rcases h with h|⟨x,hx,e⟩
  ·rcases E.h0 b' h with h|⟨x,hx,e⟩
   ·exact .inl h
   ·exact .inr ⟨x,by simp[hx],e⟩
  ·exact .inr ⟨x,by simp[hx],e⟩,E.hY,λb' h hy=>by
  rcases h with h|⟨x,hx,rfl⟩
  ·exact E.hXY b' h hy
  ·have:=E.hY _ hy;have:=hb x hx;omega,E.hg,E.pin⟩
def Cg {L:List (Nat×Obj)}{hb:∀x∈L,E.w0.heap.size<=x.1}{β:List Tr}{b':Nat}:(E.ahs L hb).X β b'↔E.X β b'\/∃x∈L,x.1=b':=by
 unfold Env.X
 constructor
 ·rintro((h|h)|h|h)
  ·exact .inl (.inl h)
  ·exact .inr h
  ·exact .inl (.inr (.inl h))
  ·exact .inl (.inr (.inr h))
 ·rintro((h|h|h)|h)
  ·exact .inl (.inl h)
  ·exact .inr (.inl h)
  ·exact .inr (.inr h)
  ·exact .inl (.inr h)
def bE.aDM (r:bE C E s a w β){h}:bE C (E.ahs [] h) s a w β:=by
 have H:=r.hp
 have ev:Evo w w (E.X β) ((E.ahs [] h).X β) β β s.m s.m s.m.o.length s.m.ns.length s.m.k:=⟨aj _,λb _ hb=>by
  rcases Cg.1 hb with hb|⟨x,hx,_⟩
  ·exact hb
  ·simp at hx,λ_ _ _ h=>h,aj _,λa i f _ h=>⟨f,h⟩,λi e t _ h1 h2=>⟨e,t,h1,h2,λ_=>⟨rfl,rfl⟩,λ_=>⟨rfl,rfl,rfl,λb hb=>rfl⟩,λh=>⟨h,rfl⟩⟩⟩
 exact⟨⟨H.ext,H.len,H.vers,H.cnt,H.new,H.dist,H.nd,λi t e h1 h2=>Ob.aBF ev (H.ok i t e h1 h2) λb hb=>rfl,λx hx=>Sv.aAU ev (H.pin x hx),λx hx=>H.prm x (by simpa[Env.ahs] using hx),H.fr⟩,r.defers,r.tsz,λn x hx=>Sv.aAU ev (r.tm n x hx)⟩
def bE.aDN {h}(r:bE C (E.ahs [] h) s a w β):bE C E s a w β:=by
 have H:=r.hp
 have ev:Evo w w ((E.ahs [] h).X β) (E.X β) β β s.m s.m s.m.o.length s.m.ns.length s.m.k:=⟨aj _,λb _ hb=>Cg.2 (.inl hb),λ_ _ _ h=>h,aj _,λa i f _ h=>⟨f,h⟩,λi e t _ h1 h2=>⟨e,t,h1,h2,λ_=>⟨rfl,rfl⟩,λ_=>⟨rfl,rfl,rfl,λb hb=>rfl⟩,λh=>⟨h,rfl⟩⟩⟩
 exact⟨⟨H.ext,H.len,H.vers,H.cnt,H.new,H.dist,H.nd,λi t e h1 h2=>Ob.aBF ev (H.ok i t e h1 h2) λb hb=>rfl,λx hx=>Sv.aAU ev (H.pin x hx),λx hx=>H.prm x (by simpa[Env.ahs] using hx),H.fr⟩,r.defers,r.tsz,λn x hx=>Sv.aAU ev (r.tm n x hx)⟩
def bE.aCJ {L L':List (Nat×Obj)}{hL:∀x∈L,E.w0.heap.size<=x.1}{hL':∀x∈L',E.w0.heap.size<=x.1}(r:bE C (E.ahs L hL) s a w β)(h1:∀p∈L',p∈L):bE C (E.ahs L' hL') s a w β:=by
 have H:=r.hp
 have ev:Evo w w ((E.ahs L hL).X β) ((E.ahs L' hL').X β) β β s.m s.m s.m.o.length s.m.ns.length s.m.k:=⟨aj _,λb _ hb=>by
  rcases Cg.1 hb with hb|⟨x,hx,e⟩
  ·exact Cg.2 (.inl hb)
  ·exact Cg.2 (.inr ⟨x,h1 x hx,e⟩),λ_ _ _ h=>h,aj _,λa i f _ h=>⟨f,h⟩,λi e t _ h1 h2=>⟨e,t,h1,h2,λ_=>⟨rfl,rfl⟩,λ_=>⟨rfl,rfl,rfl,λb hb=>rfl⟩,λh=>⟨h,rfl⟩⟩⟩
 exact⟨⟨H.ext,H.len,H.vers,H.cnt,H.new,H.dist,H.nd,λi t e h1 h2=>Ob.aBF ev (H.ok i t e h1 h2) λb hb=>rfl,λx hx=>Sv.aAU ev (H.pin x hx),λx hx=>H.prm x (by
  have hx':x∈L'++E.prm:=hx
  rcases bw.1 hx' with hx'|hx'
  ·exact bw.2 (.inl (h1 x hx'))
  ·exact bw.2 (.inr hx')),H.fr⟩,r.defers,r.tsz,λn x hx=>Sv.aAU ev (r.tm n x hx)⟩
def bLi {L:List (Nat×Obj)}{hb:∀x∈L,E.w0.heap.size<=x.1}(r:bE C (E.ahs L hb) s a w β):∀x∈L,x.1<w.heap.size:=λx hx=>
 (bv.1 (r.hp.prm x (bw.2 (.inl hx))).2.1).1
def bE.aDA {L:List (Nat×Obj)}{hb:∀x∈L,E.w0.heap.size<=x.1}(r:bE C (E.ahs L hb) s a w β){blk:Obj}(hw:E.w0.heap.size<=w.heap.size){hb'}:bE C (E.ahs ((w.heap.size,blk)::L) hb') s a (w.alloc blk) β:=by
 have H:=r.hp
 have he:Ext w (w.alloc blk):=Ext.alloc _ _
 have hbs:(w.alloc blk).heap[w.heap.size]? =some blk:=by show(w.heap.push blk)[w.heap.size]? =some blk;simp
 have ev:Evo w (w.alloc blk) ((E.ahs L hb).X β) ((E.ahs ((w.heap.size,blk)::L) hb').X β) β β s.m s.m s.m.o.length s.m.ns.length s.m.k:=⟨he.size,λb hb1 h=>by
  rcases Cg.1 h with h|⟨x,hx,e⟩
  ·exact Cg.2 (.inl h)
  ·rcases ba.1 hx with rfl|hx
   ·have e:w.heap.size=b:=e
    omega
   ·exact Cg.2 (.inr ⟨x,hx,e⟩),λ_ _ _ h=>he.cell h,aj _,λa i f _ h=>⟨f,h⟩,λi e t _ h1 h2=>⟨e,t,h1,h2,λ_=>⟨rfl,rfl⟩,λ_=>⟨rfl,rfl,rfl,λb hb=>he.block b (H.new i t b h2 hb).2⟩,λh=>⟨h,rfl⟩⟩⟩
 refine⟨⟨H.ext.trans (Bel.aBN he),H.len,H.vers,H.cnt,λi t b h1 h2=>⟨(H.new i t b h1 h2).1,cf (H.new i t b h1 h2).2 he.size⟩,H.dist,H.nd,λi t e h1 h2=>Ob.aBF ev (H.ok i t e h1 h2) λb hb=>he.block b (H.new i t b h1 hb).2,λx hx=>Sv.aAU ev (H.pin x hx),λx hx=> ?_,λf hf=> ?_⟩,r.defers,r.tsz,λn x hx=>Sv.aAU ev (r.tm n x hx)⟩
 ·have hx':x∈(w.heap.size,blk)::(L++E.prm):=hx
  rcases ba.1 hx' with rfl|hx'
  ·refine⟨hw,hbs,λf hf=> ?_,λi t ht hm=> ?_⟩
   ·exact(H.fr f hf).2.2.1
   ·have:=(H.new i t _ ht hm).2;omega
  ·obtain⟨h1,h2,h3,h4⟩:=H.prm x hx'
   exact⟨h1,(he.block _ (bv.1 h2).1).trans h2,h3,h4⟩
 ·obtain⟨h1,h2,h0,h3⟩:=H.fr f hf
  exact⟨h1,h2,bq h0 he.size,h3.imp id λq=>⟨q.1.trans he,q.2⟩⟩
def bE.aCI {L L':List (Nat×Obj)}{hL:∀x∈L,E.w0.heap.size<=x.1}{hL':∀x∈L',E.w0.heap.size<=x.1}(r:bE C (E.ahs L hL) s a w β){b:Nat}{blk:Obj}(hm:(b,blk)∈L)(hs1:∀x∈L',x∈L/\x.1≠b)(hP:E.prm=[]){e':EO U}{t':Tr}{k':Nat}(hk:s.m.k<=k')(hv:e'.rv<=k'/\e'.cv<=k')(ht:t'.all=[b])
  (hok:Evo w w ((E.ahs L hL).X β) ((E.ahs L' hL').X (β++[t'])) β (β++[t']) s.m ⟨s.m.o++[e'],k',s.m.ns⟩ s.m.o.length s.m.ns.length s.m.k->w.heap[b]? =some blk->e'.ob.ok C w ((E.ahs L' hL').X (β++[t'])) (β++[t']) ⟨s.m.o++[e'],k',s.m.ns⟩ t'):
  bE C (E.ahs L' hL') ⟨s.t,⟨s.m.o++[e'],k',s.m.ns⟩,s.fr⟩ a w (β++[t']):=by
 have H:=r.hp
 have hlen:=H.len
 obtain⟨p1,p2,p3,p4⟩:=H.prm (b,blk) (bw.2 (.inl hm))
 have hbl:b<w.heap.size:=(bv.1 p2).1
 have ev:Evo w w ((E.ahs L hL).X β) ((E.ahs L' hL').X (β++[t'])) β (β++[t']) s.m ⟨s.m.o++[e'],k',s.m.ns⟩ s.m.o.length s.m.ns.length s.m.k:=by
  refine⟨aj _,λb' _ h=>Cg.2 ?_,λ_ _ _ h=>h,hk,λa i f _ h=>⟨f,h⟩,λi e t hi he ht'=>⟨e,t,?_,?_,λ_=>⟨rfl,rfl⟩,λ_=>⟨rfl,rfl,rfl,λ_ _=>rfl⟩,λh=>⟨h,rfl⟩⟩⟩
  ·rcases Cg.1 h with h|⟨x,hx,e⟩
   ·rcases h with h|h|⟨u,hu,hm'⟩
    ·exact .inl (.inl h)
    ·exact .inl (.inr (.inl h))
    ·rcases bw.1 hu with hu|hu
     ·exact .inl (.inr (.inr ⟨u,hu,hm'⟩))
     ·simp at hu;subst hu;rw[ht] at hm';simp at hm';exact .inr ⟨_,hm,hm'.symm⟩
   ·exact .inr ⟨x,(hs1 x hx).1,e⟩
  ·exact(aq hi).trans he
  ·exact(aq (lt_of_some ht')).trans ht'
 have hb':∀(i:Nat) (t:Tr),(β++[t'])[i]? =some t->β[i]? =some t\/(i=β.length/\t=t'):=λi t h=>by
  by_cases hi:i<β.length
  ·rw[aq hi] at h;exact .inl h
  ·have:=lt_of_some h
   simp at this
   have e:i=β.length:=by omega
   subst e;simp at h;exact .inr ⟨rfl,h.symm⟩
 have ho':∀(i:Nat) (e:EO U),(s.m.o++[e'])[i]? =some e->s.m.o[i]? =some e\/(i=s.m.o.length/\e=e'):=λi e h=>by
  by_cases hi:i<s.m.o.length
  ·rw[aq hi] at h;exact .inl h
  ·have:=lt_of_some h
   simp at this
   have e1:i=s.m.o.length:=by omega
   subst e1;simp at h;exact .inr ⟨rfl,h.symm⟩
 refine⟨⟨H.ext,by simp[hlen],λi e he=> ?_,H.cnt,λi t x h1 h2=> ?_,λi j t u x hij h1 h2 h3 h4=> ?_,λi t h1=> ?_,λi t e h1 h2=> ?_,λx hx=>Sv.aAU ev (H.pin x hx),λx hx=> ?_,λf hf=> ?_⟩,r.defers,r.tsz,λn x hx=>Sv.aAU ev (r.tm n x hx)⟩
 ·rcases ho' i e he with h|⟨_,rfl⟩
  ·have:=H.vers i e h;exact⟨bq this.1 hk,bq this.2 hk⟩
  ·exact hv
 ·rcases hb' i t h1 with h|⟨_,rfl⟩
  ·exact H.new i t x h h2
  ·rw[ht] at h2;simp at h2;subst h2;exact⟨.inl p1,hbl⟩
 ·rcases hb' i t h1 with h|⟨ei,rfl⟩<;>rcases hb' j u h2 with h'|⟨ej,rfl⟩
  ·exact H.dist i j t u x hij h h' h3 h4
  ·rw[ht] at h4;simp at h4;subst h4;exact p4 i t h h3
  ·rw[ht] at h3;simp at h3;subst h3;exact p4 j u h' h4
  ·exact hij (ei.trans ej.symm)
 ·rcases hb' i t h1 with h|⟨_,rfl⟩
  ·exact H.nd i t h
  ·rw[ht];simp
 ·rcases hb' i t h1 with h|⟨ei,rfl⟩
  ·rcases ho' i e h2 with h'|⟨ei,_⟩
   ·exact Ob.aBF ev (H.ok i t e h h') λ_ _=>rfl
   ·have:=lt_of_some h;rw[hlen] at this;omega
  ·rcases ho' i e h2 with h'|⟨_,rfl⟩
   ·have:=lt_of_some h';rw[hlen] at ei;omega
   ·exact hok ev p2
 ·have hx':x∈L'++E.prm:=hx
  rw[hP,cW] at hx'
  obtain⟨q1,q2⟩:=hs1 x hx'
  obtain⟨h1,h2,h3,h4⟩:=H.prm x (bw.2 (.inl q1))
  refine⟨h1,h2,h3,λi t h5 h6=> ?_⟩
  rcases hb' i t h5 with h|⟨_,rfl⟩
  ·exact h4 i t h h6
  ·rw[ht] at h6;simp at h6;exact q2 h6
 ·obtain⟨h1,h2,h0,h3⟩:=H.fr f hf
  refine⟨by simp;omega,bq h2 hk,h0,?_⟩
  rcases h3 with⟨j,e,q1,q2,q3⟩|⟨q1,q2⟩
  ·exact .inl ⟨j,e,q1,(aq (lt_of_some q2)).trans q2,q3⟩
  ·refine .inr ⟨q1,λi t x hi h1 hx=> ?_⟩
   rcases hb' i t h1 with h|⟨_,rfl⟩
   ·exact q2 i t x hi h hx
   ·rw[ht] at hx;simp at hx;subst hx;exact p3 f hf
def aWo (G:Good P g Y TI FZ){L L':List (Nat×Obj)}{hL:∀x∈L,E.w0.heap.size<=x.1}{hL':∀x∈L',E.w0.heap.size<=x.1}(r:bE Y.C (E.ahs L hL) s a w β){b:Nat}{blk:Obj}(hm:(b,blk)∈L)(hs1:∀x∈L',x∈L/\x.1≠b)(hP:E.prm=[]){o:Oper}(hf:Flp P a o blk)(hg:yR Y TI s o.op=true){α:Type}{K:Sv U->St U->Option α}{z:α}(h:stp Y TI FZ s o.op K=some z):
  ∃x s' β',K x s'=some z/\bE Y.C (E.ahs L' hL') s' a w β'/\x.mean Y.C w ((E.ahs L' hL').X β') β' s'.m (mkF o.op b)/\s'.t=s.t/\s'.fr=s.fr/\Am s.m s'.m:=by
 have hlen:=r.hp.len
 cases ho:o.op with
 |alloc T=>
  rw[ho] at hg h
  obtain⟨i,hi⟩:=Lb hg
  obtain⟨vs,k,hM⟩:=Vk (Y:=Y) (a:=a) G.ti ho hi
  have hblk:=hf.inj w k
  subst hblk
  have h':K (.l (.box (len s.m.o) 0)) (psh s (.box T (i.z.map Kz.lf) (i.z.map λ_=>s.m.k)))=some z:=by
   have:stp Y TI FZ s (.alloc T) K=match iE TI T with
    |some i=>K (.l (.box (len s.m.o) 0)) (psh s (.box T (i.z.map Kz.lf) (i.z.map λ_=>s.m.k)))
    |none=>none:=rfl
   rw[this,hi] at h;exact h
  have r':=r.aCI (hL':=hL') hm hs1 hP (e':=⟨.box T (i.z.map Kz.lf) (i.z.map λ_=>s.m.k),s.m.k,s.m.k⟩) (t':=⟨some b,0,0,[]⟩) (aj _) ⟨aj _,aj _⟩ rfl (λhev hbk=>⟨by simp,b,vs.toList,rfl,rfl,by simpa using hbk,hM _ _ _ _⟩)
  refine⟨_,_,_,h',r',⟨rfl,⟨.box T (i.z.map Kz.lf) (i.z.map λ_=>s.m.k),s.m.k,s.m.k⟩,⟨some b,0,0,[]⟩,?_,?_,λ_=>⟨_,rfl,rfl⟩⟩,rfl,rfl,Am.add _ _⟩
  ·simp[psh,bH]
  ·rw[ay (by rw[hlen,bH];exact aj _),hlen,bH];simp
 |buildSlice t n ps=>
  rw[ho] at hg h
  obtain⟨e,ek,eb,k,zz,l,d,h1,h2,h3,h4,h5⟩:=Lc hg
  obtain⟨cells,q1,q2,q3,q4,q5,q6⟩:=aAs G.ti G.lay r ho h1 h2 h3 h4 h5
  have hblk:=hf.inj w q1
  subst hblk
  cases hpl:(!Bq (iE FZ 3000000)&&(!Nat.beq n 0&&aV4 ([]:List Nat))) with
  |true=>
  have h':K (.l (.sl e l)) s=some z:=by
   have:stp Y TI FZ s (.buildSlice t n ps) K=bif Nat.beq (len ps.toList) n&&(Nat.ble (n*ek) 16777216&&Fa (U:=U) e ek e) then(bif !Bq (iE FZ 3000000)&&(!Nat.beq n 0&&aV4 ([]:List Nat)) then K (.l (.sl e l)) s else bif dist (len s.m.o::[]) then K (.l (.own (len s.m.o) s.m.k)) ⟨s.t,⟨upd (s.m.o++[⟨.dead,s.m.k,s.m.k⟩]) (len s.m.o) ⟨.tree e d l,s.m.k,Nat.succ s.m.k⟩,Nat.succ s.m.k,s.m.ns⟩,s.fr⟩ else none) else none:=by
    show(match iE TI t with
     |some ⟨.sl e ek _,_,_⟩=>_
     |_=>none)=_
    rw[h1]
    simp only
    rw[h5]
    rfl
   rw[hpl] at this
   rw[this,bH,h2] at h
   rw[show Nat.beq n n=true from dn n,d8 h3,h4] at h
   simpa using h
  obtain⟨p1,p2,_,p4⟩:=r.hp.prm (b, .cells cells e) (bw.2 (.inl hm))
  refine⟨_,_,β,h',r.aCJ (λp hp=>(hs1 p hp).1),?_,rfl,rfl,Am.refl _⟩
  refine Ow.rd (X:=(E.ahs L hL).X β) (Z:=(E.ahs L' hL').X β) (λx hx=>Cg.2 ((Cg.1 hx).imp id λ⟨y,hy,e⟩=>⟨y,(hs1 y hy).1,e⟩)) (Ow.sl ⟨some b,n,n,[]⟩ q2 (by
   exact⟨by rw[q4,cx,q5], .inr ⟨b,n,cells,by rw[q4];rfl,cw _,p2,by rw[q4];exact aj _,q3,q5,by rw[q4];exact dy (by rw[cx,q5];exact aj _)⟩⟩) q6) (λx hx hX=> ?_)
  simp[Tr.all] at hx
  subst hx
  have p1:E.w0.heap.size<=x:=p1
  rcases Cg.1 hX with hX|⟨y,hy,e⟩
  ·rcases hX with hX|hX|⟨u,hu,hm⟩
   ·rcases E.h0 _ hX with hX|⟨y,hy,_⟩
    ·omega
    ·rw[hP] at hy;simp at hy
   ·have:=E.hY _ hX;omega
   ·obtain⟨i,hi⟩:=cV.1 hu
    exact p4 i u hi hm
  ·exact(hs1 y hy).2 e
  |false=>
  have hst:∀o':List (EO U),o'=s.m.o++[(⟨.tree e d l,s.m.k,Nat.succ s.m.k⟩:EO U)]->K (.l (.own (len s.m.o) s.m.k)) ⟨s.t,⟨o',Nat.succ s.m.k,s.m.ns⟩,s.fr⟩=some z:=λo' ho'=>by
   have:stp Y TI FZ s (.buildSlice t n ps) K=bif Nat.beq (len ps.toList) n&&(Nat.ble (n*ek) 16777216&&Fa (U:=U) e ek e) then(bif dist (len s.m.o::[]) then K (.l (.own (len s.m.o) s.m.k)) ⟨s.t,⟨upd (s.m.o++[⟨.dead,s.m.k,s.m.k⟩]) (len s.m.o) ⟨.tree e d l,s.m.k,Nat.succ s.m.k⟩,Nat.succ s.m.k,s.m.ns⟩,s.fr⟩ else none) else none:=by
    show(match iE TI t with
     |some ⟨.sl e ek _,_,_⟩=>_
     |_=>none)=_
    rw[h1]
    simp only
    rw[h5]
    simp only[hpl,ab]
    rfl
   rw[this,bH,h2] at h
   rw[show Nat.beq n n=true from dn n,d8 h3,h4] at h
   simp only[dw,ae] at h
   have hd:dist [len s.m.o]=true:=rfl
   rw[hd] at h
   simp only[ae] at h
   rw[bX,bH,fc _ _ (aj _),fj] at h
   rw[ho',bH];exact h
  have r':=r.aCI (hL':=hL') hm hs1 hP (e':=⟨.tree e d l,s.m.k,Nat.succ s.m.k⟩) (t':=⟨some b,n,n,[]⟩) (eo _) ⟨eo _,aj _⟩ rfl (λhev hbk=>by
   refine⟨q2,cells.toList,?_,q6.conv (aj _) hev.hX (λ_ _ _ h=>h) (by simp)⟩
   exact⟨by rw[q4,cx,q5], .inr ⟨b,n,cells,by rw[q4];rfl,cw _,hbk,by rw[q4];exact aj _,q3,q5,by rw[q4];exact dy (by rw[cx,q5];exact aj _)⟩⟩)
  refine⟨_,_,_,hst _ rfl,r',⟨⟨eo _,rfl⟩,⟨.tree e d l,s.m.k,Nat.succ s.m.k⟩,⟨some b,n,n,[]⟩,?_,?_,λ_=>rfl⟩,rfl,rfl,?_⟩
  ·simp[bH]
  ·rw[ay (by rw[hlen,bH];exact aj _),hlen,bH];simp
  ·have a1:=(Am.add s.m [(⟨.dead,s.m.k,s.m.k⟩:EO U)]).trans (Am.tree (ids:=[]) (i:=len s.m.o) (τ:=e) (d:=d) (l:=l) (rv:=s.m.k) _)
   have e1:(⟨Qg (Nat.succ s.m.k) [] (upd (s.m.o++[(⟨.dead,s.m.k,s.m.k⟩:EO U)]) (len s.m.o) ⟨.tree e d l,s.m.k,Nat.succ s.m.k⟩),Nat.succ s.m.k,s.m.ns⟩:Mm U)=⟨s.m.o++[⟨.tree e d l,s.m.k,Nat.succ s.m.k⟩],Nat.succ s.m.k,s.m.ns⟩:=by
    rw[bX,bH,fc _ _ (aj _),fj];rfl
   exact e1▸a1
 |_=>rw[ho] at hg;cases hg
def E9:Op->Bool
 | .call ⟨.value (.func _),_,_⟩=>true
 |_=>false
def FlC (Y:Lay U)(FZ:List (Nat×Sum U))(s:St U)(o:Oper)(x:Sv U):Prop:=∃(f:FuncId) (xa:Array Operand) (ats:Array TypeId) (S:Sum U) (z:qB U S.ar) (q:qB U S.rs),o.op= .call {callee:= .value (.func f),args:=xa,argTypes:=ats}/\iE FZ f=some S/\lC Y s.m S.ar (xa.toList.map (dS s))=some z/\S.wt=false/\S.fr=false/\kV (xa.toList.map (dS s))=true/\rT (xa.toList.map (sG s))=true/\S.m z=some q/\uA (bW Y S.rs q)=x
def F3:∀{cs:List (Lf U)},y9 cs=true->Fe cs=true
 |[],_=>rfl
 |c::cs,h=>by
  have h:(aHj c&&y9 cs)=true:=h
  rw[aa] at h
  show(mR c&&Fe cs)=true
  rw[F3 h.2,fa]
  cases c<;>first|rfl|cases h.1
def Vl:∀{xs:List (Sv U)},rT xs=true->kV xs=true
 |[],_=>rfl
 |x::xs,h=>by
  have h:(Ve x&&rT xs)=true:=h
  rw[aa] at h
  show(aHa x&&kV xs)=true
  rw[Vl h.2,fa]
  cases x with
  |l y=>cases y<;>first|rfl|cases h.1
  |a cs=>exact F3 h.1
  |t _=>cases h.1
def aWp {x:Sv U}{m m':Mm U}:Ve x=true->(match x with| .l y=>Sv.l (rsv m.ns y)|y=>y)=x:=λh=>by
 cases x with
 |l y=>cases y<;>first|rfl|cases h
 |_=>rfl
def vM {s:St U}:∀{xs:List Operand},rT (xs.map (sG s))=true->xs.map (dS s)=xs.map (sG s)
 |[],_=>rfl
 |x::xs,h=>by
  have h:(Ve (sG s x)&&rT (xs.map (sG s)))=true:=h
  rw[aa] at h
  rw[bm,bm,vM h.2]
  exact congrArg (·::_) (aWp (m:=s.m) (m':=s.m) h.1)
variable {α:Type}
def bEn {o:Oper}{K:Option α}{z:α}(h:flc Y TI FZ s o K=some z):K=some z/\((E9 o.op=false/\yR Y TI s o.op=true)\/(E9 o.op=true/\∃x,FlC Y FZ s o x)):=by
 unfold flc at h
 split at h
 ·rename_i f xa ats ho
  cases hf:iE FZ f with
  |none=>rw[hf] at h;cases h
  |some S=>
   rw[hf] at h
   simp only at h
   cases hz:lC Y s.m S.ar (xa.toList.map (dS s)) with
   |none=>rw[hz] at h;cases h
   |some a=>
    rw[hz] at h
    simp only at h
    cases hb:(!S.wt&&(!S.fr&&rT (xa.toList.map (sG s)))) with
    |false=>rw[hb] at h;cases h
    |true=>
     rw[hb] at h
     simp only[ae] at h
     obtain⟨q,h1,h2⟩:=iP h
     simp only[aa,cz] at hb
     exact⟨h2, .inr ⟨by rw[ho];rfl,_,f,xa,ats,S,a,q,ho,hf,hz,hb.1,hb.2.1,by rw[vM hb.2.2];exact Vl hb.2.2,hb.2.2,h1,rfl⟩⟩
 ·rename_i hne
  cases hb:yR Y TI s o.op with
  |false=>rw[hb] at h;cases h
  |true=>
   rw[hb] at h
   refine⟨h, .inl ⟨?_,rfl⟩⟩
   cases hc:E9 o.op with
   |false=>rfl
   |true=>
    unfold E9 at hc
    split at hc
    ·rename_i f xa ats ho;exact absurd ho (hne f xa ats)
    ·cases hc
def aOy {al:List Oper}{K:Option α}{z:α}:∀(fs:List Nat),bK4 Y TI FZ al s fs K=some z->K=some z/\∀j∈fs,∃o,al[j]? =some o/\o.guard=none/\aMb s o.dst=true/\aMc o o.dst=true/\((E9 o.op=false/\yR Y TI s o.op=true)\/(E9 o.op=true/\∃x,FlC Y FZ s o x))
 |[],h=>⟨h,by simp⟩
 |j::fs,h=>by
  have h:(match nth al j with
   |some o=>bif Bq o.guard&&(aMb s o.dst&&aMc o o.dst) then flc Y TI FZ s o (bK4 Y TI FZ al s fs K) else none
   |none=>none)=some z:=h
  rw[aR] at h
  cases ho:al[j]? with
  |none=>rw[ho] at h;cases h
  |some o=>
   rw[ho] at h
   simp only at h
   cases hb:(Bq o.guard&&(aMb s o.dst&&aMc o o.dst)) with
   |false=>rw[hb] at h;cases h
   |true=>
    rw[hb] at h
    simp only[ae] at h
    obtain⟨h1,h2⟩:=bEn h
    obtain⟨h3,h4⟩:=aOy fs h1
    simp only[aa] at hb
    refine⟨h3,λj' hj=> ?_⟩
    rcases ba.1 hj with rfl|hj
    ·refine⟨o,ho,?_,hb.2.1,hb.2.2,h2⟩
     cases hg:o.guard with
     |none=>rfl
     |some x=>rw[hg] at hb;cases hb.1
    ·exact h4 j' hj
def nH {i j:Nat}:∀{l:List Nat},j∈rmv i l↔j∈l/\j≠i
 |[]=>by simp[rmv]
 |x::l=>by
  have e:rmv i (x::l)=bif Nat.beq x i then rmv i l else x::rmv i l:=rfl
  rw[e]
  cases hb:Nat.beq x i with
  |true=>
   have:=ah hb;subst this
   simp only[ae,ba]
   rw[nH]
   constructor
   ·rintro⟨h1,h2⟩;exact⟨.inr h1,h2⟩
   ·rintro⟨h1|h1,h2⟩
    ·exact absurd h1 h2
    ·exact⟨h1,h2⟩
  |false=>
   have hne:x≠i:=λe=>by subst e;rw[show Nat.beq x x=true from dn x] at hb;cases hb
   simp only[ab,ba]
   rw[nH]
   constructor
   ·rintro(rfl|⟨h1,h2⟩)
    ·exact⟨.inl rfl,hne⟩
    ·exact⟨.inr h1,h2⟩
   ·rintro⟨rfl|h1,h2⟩
    ·exact .inl rfl
    ·exact .inr ⟨h1,h2⟩
abbrev Rec:=List (Nat×Option (Nat×Obj))
def bks (R:Rec):List (Nat×Obj):=R.filterMap Prod.snd
def Rec.rm (R:Rec)(i:Nat):Rec:=R.filter λx=> !Nat.beq x.1 i
def Rec.aCK {R:Rec}{i:Nat}{x:Nat×Option (Nat×Obj)}:x∈R.rm i↔x∈R/\x.1≠i:=by
 unfold Rec.rm
 rw[List.mem_filter]
 refine and_congr_right λ_=> ?_
 constructor
 ·intro h e
  rw[e] at h
  simp at h
 ·intro h
  cases hb:Nat.beq x.1 i with
  |false=>rfl
  |true=>exact absurd (ah hb) h
def Rec.aCC {i:Nat}:∀{R:Rec},(R.rm i).map Prod.fst=rmv i (R.map Prod.fst)
 |[]=>rfl
 |x::R=>by
  have e:rmv i ((x::R).map Prod.fst)=bif Nat.beq x.1 i then rmv i (R.map Prod.fst) else x.1::rmv i (R.map Prod.fst):=rfl
  rw[e,<-Rec.aCC]
  unfold Rec.rm
  cases hb:Nat.beq x.1 i with
  |true=>rw[List.filter_cons_of_neg (by rw[hb];simp)];rfl
  |false=>rw[List.filter_cons_of_pos (by rw[hb];rfl)];rfl
def Fx {R:Rec}{p:Nat×Obj}:p∈bks R↔∃j,(j,some p)∈R:=by
 unfold bks
 rw[List.mem_filterMap]
 constructor
 ·rintro⟨⟨j,q⟩,h1,h2⟩;exact⟨j,by have:q=some p:=h2;rw[<-this];exact h1⟩
 ·rintro⟨j,h⟩;exact⟨_,h,rfl⟩
def aH0 (P : Program) (Y : Lay U) (FZ : List (Nat × Sum U)) (pn : List (Sv U × Value)) (al : List Oper) (s : St U) (a : Act) (x : Nat × Option (Nat × Obj)) : Prop := ∃ oj, al[x.1]? = some oj /\
  ((∃ b blk, x.2 = some (b, blk) /\ E9 oj.op = false /\ Flp P a oj blk /\ ∀ n, oj.dst = some n -> a.tmps.getD n undef = mkF oj.op b) \/
   (∃ y v, x.2 = none /\ E9 oj.op = true /\ FlC Y FZ s oj y /\ (oj.dst ≠ none -> (y, v) ∈ pn) /\ ∀ d, oj.dst = some d -> a.tmps.getD d undef = v))
def aH0.mono {pn pn':List (Sv U×Value)}{al:List Oper}{x:Nat×Option (Nat×Obj)}(h:aH0 P Y FZ pn al s a x)(hp:∀p∈pn,p∈pn'):aH0 P Y FZ pn' al s a x:=by
 obtain⟨oj,h1,h2⟩:=h
 refine⟨oj,h1,h2.imp id ?_⟩
 rintro⟨y,v,k1,k2,k3,k4,k5⟩
 exact⟨y,v,k1,k2,k3,λh=>hp _ (k4 h),k5⟩
def aT0 {oj:Oper}{d:Option Nat}(h:aHk oj d=true):∀n,oj.dst=some n->d≠some n:=λn hn e=>by
 subst e
 simp only[aHk,hn,aa] at h
 have:=h.1
 rw[show Nat.beq n n=true from dn n] at this
 cases this
def aWq {oj:Oper}{d:Option Nat}(h:aHk oj d=true):aMc oj d=true:=by
 simp only[aHk,aa] at h;exact h.2
def bEo {oj:Oper}{d:Option Nat}(h:aMc oj d=true)(hc:E9 oj.op=false):aV9 oj d=true:=by
 cases d with
 |none=>rfl
 |some n=>
  unfold aMc at h
  simp only at h
  split at h
  ·rename_i f xa ats ho;rw[ho] at hc;cases hc
  ·exact h
def aOz {m m':Mm U}{kd:Kd}{x:Lf U}(h:aHj x=true):rdn m kd x=rdn m' kd x:=by
 cases x<;>first|rfl|cases h
def aO0 {m m':Mm U}:∀{ks:List Kd} {cs:List (Lf U)},y9 cs=true->rds m ks cs=rds m' ks cs
 |[],[],_=>rfl
 |[],_::_,_=>rfl
 |_::_,[],_=>rfl
 |k::ks,c::cs,h=>by
  have h:(aHj c&&y9 cs)=true:=h
  rw[aa] at h
  simp only[rds,aOz (m:=m) (m':=m') h.1,aO0 (m:=m) (m':=m') h.2]
def aH1 {m m':Mm U}{kd:Kd}{x:Sv U}(h:Ve x=true):Kr Y m kd x=Kr Y m' kd x:=by
 cases x with
 |l y=>cases kd<;>simp only[Kr,aOz (m:=m) (m':=m') (x:=y) h]
 |a cs=>cases kd<;>first|rfl|simp only[Kr,aO0 (m:=m) (m':=m') (cs:=cs) h]
 |t _=>cases kd<;>rfl
def aDy {m m':Mm U}:∀(ks:List Kd) {xs:List (Sv U)},rT xs=true->lC Y m ks xs=lC Y m' ks xs
 |[],[],_=>rfl
 |[],_::_,_=>rfl
 |[k],[],_=>rfl
 |[k],[x],h=>by
  have h:(Ve x&&true)=true:=h
  rw[fa] at h
  exact aH1 h
 |[k],_::_::_,_=>rfl
 |k::k'::ks,[],_=>rfl
 |k::k'::ks,x::xs,h=>by
  have h:(Ve x&&rT xs)=true:=h
  rw[aa] at h
  have e1:=aH1 (Y:=Y) (m:=m) (m':=m') (kd:=k) h.1
  have e2:=aDy (m:=m) (m':=m') (k'::ks) h.2
  have e3:∀m,lC Y m (k::k'::ks) (x::xs)=(match Kr Y m k x with
   |some a=>match lC Y m (k'::ks) xs with
    |some b=>some ((a,b):qB U (k::k'::ks))
    |none=>none
   |none=>none):=λm=>rfl
  rw[e3,e3,e1,e2]
def FlC.keep {s':St U}{o:Oper}{y:Sv U}(h:FlC Y FZ s o y){d:Option Nat}(hd:aMc o d=true)(ht:∀i,d≠some i->s'.t[i]? =s.t[i]?):FlC Y FZ s' o y:=by
 obtain⟨f,xa,ats,S,z,q,h1,h2,h3,h4,h5,h6,h7,h8,h9⟩:=h
 have e:xa.toList.map (sG s')=xa.toList.map (sG s):=by
  refine gh λx hx=> ?_
  cases x with
  |tmp i=>
   have:d≠some i:=λe=>by
    subst e
    unfold aMc at hd
    rw[h1] at hd
    simp only[cG] at hd
    have:=hd _ hx
    simp at this
   have:=ht i this
   simp only[sG,aR,this]
  |_=>rfl
 have p':rT (xa.toList.map (sG s'))=true:=by rw[e];exact h7
 refine⟨f,xa,ats,S,z,q,h1,h2,?_,h4,h5,by rw[vM p'];exact Vl p',p',h8,h9⟩
 rw[vM p',e,<-vM h7,<-h3,vM h7]
 exact aDy _ h7
def aH0.keep {pn:List (Sv U×Value)}{al:List Oper}{x:Nat×Option (Nat×Obj)}{s':St U}{d:Option Nat}{v:Value}(h:aH0 P Y FZ pn al s a x)(hd:∀oj,al[x.1]? =some oj->aHk oj d=true)(ht:∀i,d≠some i->s'.t[i]? =s.t[i]?):aH0 P Y FZ pn al s' (a.put d v) x:=by
 obtain⟨oj,h1,h2⟩:=h
 have h3:=hd oj h1
 refine⟨oj,h1,?_⟩
 rcases h2 with⟨b,blk,k1,k2,k3,k4⟩|⟨y,v',k1,k2,k3,k4,k5⟩
 ·exact .inl ⟨b,blk,k1,k2,k3.keep (bEo (aWq h3) k2),λn hn=>by rw[E5 (aT0 h3 n hn)];exact k4 n hn⟩
 ·exact .inr ⟨y,v',k1,k2,k3.keep (aWq h3) ht,k4,λi hi=>by rw[E5 (aT0 h3 i hi)];exact k5 i hi⟩
def aH0.keep' {pn:List (Sv U×Value)}{al:List Oper}{x:Nat×Option (Nat×Obj)}{s':St U}{d:Option Nat}(h:aH0 P Y FZ pn al s a x)(hd:∀oj,al[x.1]? =some oj->aHk oj d=true)(ht:∀i,d≠some i->s'.t[i]? =s.t[i]?):aH0 P Y FZ pn al s' a x:=by
 obtain⟨oj,h1,h2⟩:=h
 have h3:=hd oj h1
 refine⟨oj,h1,?_⟩
 rcases h2 with h2|⟨y,v,k1,k2,k3,k4,k5⟩
 ·exact .inl h2
 ·exact .inr ⟨y,v,k1,k2,k3.keep (aWq h3) ht,k4,k5⟩
def yU {al:List Oper}{er:List Nat}{d:Option Nat}(h:aAk al.toArray er d=true):∀j∈er,∀oj,al[j]? =some oj->aHk oj d=true:=λj hj oj ho=>by
 unfold aAk at h
 rw[cG] at h
 have:=h j hj
 rw[show al.toArray[j]? =some oj by simpa using ho] at this
 exact this
def cntF (l:Array Bool):Nat:=l.toList.count false
def F4 {l:Array Bool}{i:Nat}(h:l.getD i true=false):cntF l=cntF (l.setIfInBounds i true)+1:=by
 unfold cntF
 have hi:i<l.size:=by
  rw[cj] at h
  cases hx:l[i]? with
  |none=>rw[hx] at h;cases h
  |some b=>exact(bv.1 hx).1
 have hv:l.toList[i]=false:=by
  rw[cj,cQ hi] at h
  simpa using h
 rw[jv]
 have key:∀(l:List Bool) (i:Nat),l[i]? =some false->l.count false=(l.set i true).count false+1:=by
  intro l
  induction l with
  |nil=>intro i h;simp at h
  |cons x l ih=>
   intro i h
   cases i with
   |zero=>simp at h;subst h;simp
   |succ i=>
    have:=ih i (by simpa using h)
    simp only[gj,List.count_cons,this]
    omega
 exact key _ _ (by rw[ac (by simpa using hi),hv])
def aO1 {al:List Oper}{o:Oper}(hg:o.guard=none){K:St U->Option α}:grd Y TI FZ al o s K=one Y TI FZ o s K:=by
 unfold grd aMa;rw[hg]
def F5 {os:Array Oper}{listed:Array Bool}{i:Nat}(h:i∈Region.ready .any os listed):listed.getD i true=false:=(mem_ready.1 h).1
def bHs {o:Oper}{y:Sv U}(h:FlC Y FZ s o y):Nat.ble (uC FZ o.op) 1=true:=by
 obtain⟨f,xa,ats,S,z,q,h1,h2,h3,h4,h5,_⟩:=h
 rw[h1]
 simp only[uC,h2,h4,ab]
 rfl
def bHt {o:Oper}(h:yR Y TI s o.op=true):Nat.ble (uC FZ o.op) 1=true:=by
 cases ho:o.op<;>rw[ho] at h<;>first|rfl|cases h
variable {al:List Oper} {Q:Exit->Act->World->Prop} {D:Nat->Prop}
def nY {a0:Option Nat}{listed:Array Bool}{i:Nat}(h:fJ a0 (listed.setIfInBounds i true)=true):fJ a0 listed=true:=by
 cases hn:fJ a0 listed with
 |true=>rfl
 |false=>rw[lL hn] at h;cases h
def bHu {o:Op}(h:erp s o=true):uC FZ o=0:=by
 cases o<;>first|rfl|cases h
def bHv {o:Oper}(r:bE Y.C E s a w β)(h:erp s o.op=true){v:Value}(hv:(execOp a.eval o).run P w= .ok (.value v) w)(w':World):(execOp a.eval o).run P w'= .ok (.value v) w':=by
 unfold erp at h
 rw[cq] at h
 rcases h with h|h
 ·exact Cf h hv w'
 ·split at h
  ·rename_i b t x y u hoo
   exact aY7 r hoo h hv w'
  ·cases h
def bEp {os:Array Oper}{a0:Option Nat}{Q:Exit->Act->World->Prop}{S:World->Prop}{i:Nat}{oi:Oper}{v:Value}{n:Nat}{listed:Array Bool}(hi:os[i]? =some oi)(hs:Region.noSelect os=true)(ht:tkY os a0 i listed=true)(hD:Dn .any os listed)
  (hQ:∀c a w,Q (.panic c) (a.put oi.dst v) w->Q (.panic c) a w) (hy:YieldsIf P os S oi v a) (hp:aAj oi.op=true->YieldsIf P os (λ_=>True) oi v a) (hS:fJ a0 listed=true->S w)
  (h:dJ P .any os a0 Q S n (listed.setIfInBounds i true) (a.put oi.dst v) w):dJ P .any os a0 Q S (n+1) listed a w:=by
 have hr:=(nX ht).1
 simp only[tkY,aa] at ht
 have hf:=Region.free_spec hi ht.1.1
 cases a0 with
 |none=>exact kD hi (Region.noSelect_spec hs) hQ (by simp) (λ_ _ _=>rfl) n listed a w hf hD hr hy (hS rfl) h
 |some b=>
  have ha:=ht.2
  simp only[aa,cq,hi] at ha
  have hne:some b≠some i:=λe=>by injection e with e;subst e;simp at ha
  rcases ha.2 with ha|ha
  ·have hbar:∀listed,Dn .any os listed->listed.getD i true=false->fJ (some b) listed=true:=λlisted hD hun=>by
    simp only[fJ,cz]
    exact getD_in (Qe hD hun 40 b ha)
   exact kD hi (Region.noSelect_spec hs) hQ hne hbar n listed a w hf hD hr hy (hS (hbar listed hD (F5 hr))) h
  ·exact Be hi (Region.noSelect_spec hs) hQ hne n listed a w hf hr (hp ha) hS h
def aWr (G:Good P g Y TI FZ)(hs:Region.noSelect al.toArray=true)(hP:E.prm=[]){bs:List Nat}{Yb:Nat->Prop}{wS:World}(hpin:∀b∈bs,∃k,Yb k/\((Sv.l (.box b 0):Sv U),Value.pointer (some ⟨k,0,none⟩))∈E.pin){a0:Option Nat}{kd:Option (Nat×Nat)}(hkd:∀n k,kd=some (n,k)->(wS,n,k)∈E.fr):
  ∀(f:Nat) (pd:List Nat) (R:Rec) (l:List (Nat×Bool)) (fs:List Nat) (st ps:Bool) (s:St U) (K:St U->Option α) (z:α),(∀i∈l,∀o,al[i.1]? =some o->∀n,Wr al o n->D n)->Bh Y TI FZ al a0 bs kd l fs st ps s K=some z->
  (∀s' a w β,Ag D s s'->K s'=some z->bE Y.C E s' a w β->Q .normal a w)->(∀j∈pd,j∈fs)->(∀x∈R,x.1∈fs/\x.1∉pd)->(∀x∈R,∀y∈R,x.1≠y.1->∀p q,x.2=some p->y.2=some q->p.1≠q.1)->(∀x∈R,∀y∈R,x.1=y.1->x=y)->
  ∀listed,Dn .any al.toArray listed->aEm al.toArray a0 f pd (R.map Prod.fst) l listed=true->∀a w β (hL:∀x∈bks R,E.w0.heap.size<=x.1),(ps=true->fJ a0 listed=false)->(fJ a0 listed=true->Bel Yb wS w)->(st=true->w=wS/\(∀k,Yb k->(E.ahs (bks R) hL).X β k)/\E8 bs Yb wS.heap.size s β/\R=[])->(∀x∈R,aH0 P Y FZ E.pin al s a x)->bE Y.C (E.ahs (bks R) hL) s a w β->dJ P .any al.toArray a0 (NoPanic Q) (Bel Yb wS) (cntF listed) listed a w:=by
 intro f
 induction f generalizing E with
 |zero=>intro pd R l fs st ps s K z _ _ _ _ _ _ _ listed _ hc;cases hc
 |succ f ih=>
  intro pd R l fs st ps s K z hD h hQ hpd hR hR2 hR3 listed hdn hc a w β hL hps hb hI hE r
  cases l with
  |nil=>
   simp only[aEm,aa] at hc
   have hR0:R=[]:=by
    have:=hc.1
    cases R with
    |nil=>rfl
    |cons x R=>cases this
   subst hR0
   exact nV (P:=P) (a0:=a0) (S:=Bel Yb wS) (Q:=NoPanic Q) (by simpa using hc.2) (hQ s a w β (Ag.refl s) h r.aDN) _
  |cons x l=>
   obtain⟨i,fl⟩:=x
   simp only[Bh,aR] at h
   cases ho:al[i]? with
   |none=>rw[ho] at h;cases h
   |some o=>
    rw[ho] at h
    simp only at h
    have hDi:=hD (i,fl) (by simp) o ho
    have hD':∀j∈l,∀o,al[j.1]? =some o->∀n,Wr al o n->D n:=λj hj=>hD j (by simp[hj])
    have hg:al.toArray[i]? =some o:=by simpa using ho
    cases fl with
    |true=>
     simp only[aEm,aa,hg] at hc
     cases st with
     |false=>
      replace h:(bif erp s o.op&&noG o then one Y TI FZ o s (λs'=>Bh Y TI FZ al a0 bs kd l fs false ps s' K) else none)=some z:=h
      cases hb0:(erp s o.op&&noG o) with
      |false=>rw[hb0] at h;cases h
      |true=>
       rw[hb0] at h
       simp only[ae] at h
       rw[aa] at hb0
       have hgd:o.guard=none:=by
        have:=hb0.2
        unfold noG at this
        split at this
        ·assumption
        ·cases this
       have hw:Region.wanted o (yielded al.toArray a.tmps)=true:=by simp[Region.wanted,hgd]
       obtain⟨hr,_⟩:=nX hc.2.1
       have hcl:uC FZ o.op=0:=bHu hb0.1
       unfold one at h
       obtain⟨x,s2,k1,⟨v,p1,p2,p3⟩,k3,k4,k5⟩:=Fs G r rfl hcl h
       have hy:YieldsIf P al.toArray (λ_=>True) o v a:= .inl ⟨hw,λw' _=>bHv r hb0.1 (p1 w (Ext.refl w)) w'⟩
       have ag:Ag (Wr al o) s (put s2 o.dst x):=Ag.put ⟨λn hn=>by rw[k3],by rw[k3],by rw[k4],k5⟩ (λn e=> .inl e)
       have hWr:∀n,Wr al o n->o.dst=some n:=λn hn=>by
        rcases hn with hn|⟨j,b,oj,e,_⟩
        ·exact hn
        ·rw[hgd] at e;cases e
       rw[F4 (F5 hr)]
       refine bEp hg hs hc.2.1 hdn (λ_ _ _ h=>h) (hy.imp (λ⟨h1,h2⟩=>⟨h1,λw' _=>h2 w' trivial⟩) id) (λ_=>hy) hb ?_
       exact ih hP hpin hkd pd R l fs false ps _ K z hD' k1 (λs3 a3 w3 β3 g1=>hQ s3 a3 w3 β3 ((ag.mono hDi).trans g1)) hpd hR hR2 hR3 _ (hdn.set hr) hc.2.2 _ w β hL (λhp=>lL (hps hp)) (λhn=>hb (nY hn)) (λh=>by cases h) (λy hy=>(hE y hy).keep (yU hc.1 _ (cg.2 ⟨y,hy,rfl⟩)) (λi hi=>ag.t i λhn=>hi (hWr i hn))) (p2.put λ_=>p3)
     |true=>
      simp only[ae] at h
      obtain⟨rfl,hYX,hI,hR0⟩:=hI rfl
      obtain⟨hr,_⟩:=nX hc.2.1
      obtain⟨s1,r1,h1,h2⟩:=Fu r h
      have hI1:E8 bs Yb w.heap.size s1 β:=hI.am r.hp h1.m
      rw[F4 (F5 hr)]
      rcases h2 with⟨hw,h2⟩|⟨hw,h2⟩
      ·cases hel:erl bs s1 o.op with
       |false=>rw[hel] at h2;cases h2
       |true=>
        rw[hel] at h2
        simp only[ae] at h2
        have h2':=h2
        unfold one at h2'
        obtain⟨x,s2,k1,⟨v,p1,p2,p3⟩,k3,k4,k5⟩:=Fs G r1 rfl (bHr hel) h2'
        have hy:YieldsIf P al.toArray (Bel Yb w) o v a:= .inl ⟨hw,λw' he=>bA6 (al:=al) G r1 hI1 hYX hel (p1 w (Ext.refl w)) h2 w' he⟩
        have ag:Ag (Wr al o) s (put s2 o.dst x):=Ag.put ⟨λn hn=>by rw[k3];exact h1.t n hn,by rw[k3];exact h1.tl,by rw[k4];exact h1.fr,h1.m.trans k5⟩ (λn e=> .inl e)
        refine bEp hg hs hc.2.1 hdn (λ_ _ _ h=>h) hy (λhp=> .inl ⟨hw,λw' _=>Cf hp (p1 w (Ext.refl w)) w'⟩) hb ?_
        exact ih hP hpin hkd pd R l fs true ps _ K z hD' k1 (λs3 a3 w3 β3 g1=>hQ s3 a3 w3 β3 ((ag.mono hDi).trans g1)) hpd hR hR2 hR3 _ (hdn.set hr) hc.2.2 _ w β hL (λhp=>lL (hps hp)) (λhn=>hb (nY hn)) (λ_=>⟨rfl,hYX,(hI1.am r1.hp k5).am p2.hp (by rw[bEm];exact Am.refl _),hR0⟩) (by rw[hR0];simp) (p2.put λ_=>p3)
      ·have hy:YieldsIf P al.toArray (Bel Yb w) o undef a:= .inr ⟨hw,rfl⟩
       have ag:Ag (Wr al o) s (put s1 o.dst (.l .und)):=h1.put (λn e=> .inl e)
       refine bEp hg hs hc.2.1 hdn (λ_ _ _ h=>h) hy (λ_=> .inr ⟨hw,rfl⟩) hb ?_
       exact ih hP hpin hkd pd R l fs true ps _ K z hD' h2 (λs3 a3 w3 β3 g1=>hQ s3 a3 w3 β3 ((ag.mono hDi).trans g1)) hpd hR hR2 hR3 _ (hdn.set hr) hc.2.2 _ w β hL (λhp=>lL (hps hp)) (λhn=>hb (nY hn)) (λ_=>⟨rfl,hYX,hI1.am r1.hp (by rw[bEm];exact Am.refl _),hR0⟩) (by rw[hR0];simp) (r1.put (x:= .l .und) (v:=undef) λ_=>rfl)
    |false=>
     have hfull:=h
     simp only[ab] at h
     cases hno:noG o with
     |false=>rw[hno] at h;cases h
     |true=>
      rw[hno] at h
      simp only[ae] at h
      have hgd:o.guard=none:=by
       unfold noG at hno
       split at hno
       ·assumption
       ·cases hno
      have hw:Region.wanted o (yielded al.toArray a.tmps)=true:=by simp[Region.wanted,hgd]
      obtain⟨hK,hF⟩:=aOy fs h
      have hWr:∀n,Wr al o n->o.dst=some n:=λn hn=>by
       rcases hn with hn|⟨j,b,oj,e,_⟩
       ·exact hn
       ·rw[hgd] at e;cases e
      have keepAg:∀{s':St U},Ag (Wr al o) s s'->∀i,o.dst≠some i->s'.t[i]? =s.t[i]? :=λhag i hi=>hag.t i λhn=>hi (hWr i hn)
      simp only[aEm] at hc
      cases him:Fb i (R.map Prod.fst) with
      |true=>
       rw[him] at hc
       simp only[ae,hg,aa] at hc
       obtain⟨hoff,hna,hc⟩:=hc
       rw[cz] at hna
       obtain⟨x,hx,hxi⟩:=cg.1 (lQ.1 him)
       have hR':∀y∈R.rm i,y∈R/\y.1≠i:=λy hy=>Rec.aCK.1 hy
       have hoff':∀y∈R.rm i,∀oj,al[y.1]? =some oj->aHk oj o.dst=true:=λy hy=>yU hoff _ (by rw[<-Rec.aCC];exact cg.2 ⟨y,hy,rfl⟩)
       have hLs:∀p∈bks (R.rm i),p∈bks R:=λp hp=>by
        obtain⟨j,hj⟩:=Fx.1 hp
        exact Fx.2 ⟨j,(hR' _ hj).1⟩
       have hL':∀p∈bks (R.rm i),E.w0.heap.size<=p.1:=λp hp=>hL p (hLs p hp)
       rw[<-Rec.aCC] at hc
       obtain⟨oj,e1,e2⟩:=hE x hx
       rw[hxi,ho] at e1
       have e1:=ak e1
       subst e1
       obtain⟨o2,q0,_,_,_,q1⟩:=hF x.1 (hR x hx).1
       rw[hxi,ho] at q0
       have q0:=ak q0
       subst q0
       have hcl:Nat.ble (uC FZ o.op) 1=true:=by
        rcases q1 with⟨_,q1⟩|⟨_,y,q1⟩
        ·exact bHt q1
        ·exact bHs q1
       rw[hcl] at hK
       simp only[ae] at hK
       have rcc:∀(s':St U) (x0:Sv U) β',s'.t=s.t->s'.fr=s.fr->Am s.m s'.m->Bh Y TI FZ al a0 bs kd l (rmv i fs) false (ps||yQ a0 i) (EV.put s' o.dst x0) K=some z->bE Y.C (E.ahs (bks (R.rm i)) hL') (EV.put s' o.dst x0) a w β'->dJ P .any al.toArray a0 (NoPanic Q) (Bel Yb wS) (cntF listed) listed a w:=λs' x0 β' k4 k5 k6 k1 r'=>by
        have ag:Ag (Wr al o) s (EV.put s' o.dst x0):=Ag.put ⟨λn _=>by rw[k4],by rw[k4],k5,k6⟩ (λn e=> .inl e)
        exact ih hP hpin hkd pd (R.rm i) l (rmv i fs) false (ps||yQ a0 i) _ K z hD' k1 (λs3 a3 w3 β3 g1=>hQ s3 a3 w3 β3 ((ag.mono hDi).trans g1)) (λj hj=>nH.2 ⟨hpd j hj,λe=>(hR x hx).2 (by rw[hxi,<-e];exact hj)⟩) (λy hy=>⟨nH.2 ⟨(hR y (hR' y hy).1).1,(hR' y hy).2⟩,(hR y (hR' y hy).1).2⟩)
         (λy hy y' hy'=>hR2 y (hR' y hy).1 y' (hR' y' hy').1) (λy hy y' hy'=>hR3 y (hR' y hy).1 y' (hR' y' hy').1) listed hdn hc a w β' hL' (λhp=>hps (by rw[hna,gb] at hp;exact hp)) hb (λh=>by cases h) (λy hy=>(hE y (hR' y hy).1).keep' (hoff' y hy) (keepAg ag)) r'
       rcases e2 with⟨b,blk,e3,e4,e5,e6⟩|⟨y,v,e3,e4,e5,e6,e7⟩
       ·have hfo:yR Y TI s o.op=true:=by
         rcases q1 with⟨_,q1⟩|⟨q1,_⟩
         ·exact q1
         ·rw[e4] at q1;cases q1
        have hmem:(b,blk)∈bks R:=Fx.2 ⟨x.1,by rw[<-e3];exact hx⟩
        have hK':stp Y TI FZ s o.op (λx0 s'=>Bh Y TI FZ al a0 bs kd l (rmv i fs) false (ps||yQ a0 i) (EV.put s' o.dst x0) K)=some z:=hK
        obtain⟨x0,s',β',k1,k2,k3,k4,k5,k6⟩:=aWo (L':=bks (R.rm i)) (hL':=hL') G r hmem (λp hp=>by
         obtain⟨j,hj⟩:=Fx.1 hp
         exact⟨hLs p hp,λe=>hR2 _ (hR' _ hj).1 x hx (by rw[hxi];exact(hR' _ hj).2) p (b,blk) rfl e3 e⟩) hP e5 hfo hK'
        exact rcc s' x0 β' k4 k5 k6 k1 (k2.aBQ (λ_=>k3) e6)
       ·obtain⟨ff,xa,ats,S,z1,q,c1,c2,c3,c4,c5,c6,c7,c8,c9⟩:=e5
        have hff:(vW Y S.rs||kV (xa.toList.map (dS s)))=true:=by rw[c6,iy]
        have hK':stp Y TI FZ s o.op (λx0 s'=>Bh Y TI FZ al a0 bs kd l (rmv i fs) false (ps||yQ a0 i) (EV.put s' o.dst x0) K)=some z:=hK
        have hb2:(match lC Y s.m S.ar (xa.toList.map (dS s)) with
         |some a=>bif S.wt then(match xa.toList.map (dS s) with
          |[x,_]=>match parts x with
           |some cs=>bd (S.m a) λr=>match bW Y S.rs r with
            |[(_,ds),(_,[.int .i64 k])]=>match wrm Y s.m cs ds with
             |some us=>bif dist (bPd us)&&aHd (U:=U) S.ar then Bh Y TI FZ al a0 bs kd l (rmv i fs) false (ps||yQ a0 i) (EV.put ⟨s.t,⟨bPc us s.m.o,Nat.succ s.m.k,s.m.ns⟩,s.fr⟩ o.dst (.l (.int .i64 k))) K else none
             |none=>none
            |_=>none
           |none=>none
          |_=>none)
          else bif S.fr then bd (S.m a) λr=>
           let q:=iY s.m.k (len s.m.o) (bW Y S.rs r)
           Bh Y TI FZ al a0 bs kd l (rmv i fs) false (ps||yQ a0 i) (EV.put ⟨s.t,⟨s.m.o++q.2,s.m.k,s.m.ns⟩,s.fr⟩ o.dst (uA q.1)) K
          else bif vW Y S.rs||kV (xa.toList.map (dS s)) then bd (S.m a) λr=>Bh Y TI FZ al a0 bs kd l (rmv i fs) false (ps||yQ a0 i) (EV.put s o.dst (uA (bW Y S.rs r))) K
          else match aS2 s.m (xa.toList.map (dS s)) with
           |some (i',c')=>bd (S.m a) λr=>Bh Y TI FZ al a0 bs kd l (rmv i fs) false (ps||yQ a0 i) (EV.put s o.dst (uA (Gx i' c' (bW Y S.rs r)))) K
           |none=>none
         |none=>none)=some z:=by
         rw[c1] at hK'
         unfold stp at hK'
         simp only[c2] at hK'
         rw[c4] at hK'
         rw[c4]
         exact hK'
        rw[c3] at hb2
        simp only[c4,c5,hff,ab,ae] at hb2
        obtain⟨q',d1,d2⟩:=iP hb2
        rw[c8] at d1
        have d1:=ak d1
        subst d1
        rw[c9] at d2
        have hbk:bks (R.rm i)=bks (R.rm i):=rfl
        have hsame:∀p,p∈bks R->p∈bks (R.rm i):=λp hp=>by
         obtain⟨j,hj⟩:=Fx.1 hp
         refine Fx.2 ⟨j,Rec.aCK.2 ⟨hj,λe=> ?_⟩⟩
         have:=hR3 _ hj x hx (by rw[hxi];exact e)
         rw[<-this] at e3;cases e3
        have r':bE Y.C (E.ahs (bks (R.rm i)) hL') s a w β:=r.aCJ hLs
        exact rcc s _ β rfl rfl (Am.refl _) d2 (r'.aBQ (v:=v) (λh=>r'.hp.pin _ (e6 h)) e7)
      |false=>
       rw[him] at hc
       simp only[ab,aa,cG] at hc
       obtain⟨hir,hall⟩:=hc
       have hir:i∈Region.ready .any al.toArray listed:=by simpa using hir
       have hiR:∀x∈R,x.1≠i:=λx hx e=>by
        have:Fb i (R.map Prod.fst)=true:=lQ.2 (cg.2 ⟨x,hx,e⟩)
        rw[this] at him;cases him
       obtain⟨m,hm⟩:∃m,cntF listed=m+1:=⟨_,F4 (F5 hir)⟩
       have hcnt:∀{j},j∈Region.ready .any al.toArray listed->m=cntF (listed.setIfInBounds j true):=λhj=>by
        have:=F4 (F5 hj);omega
       rw[hm]
       refine jG rfl (λe=>by rw[e] at hir;simp at hir) λj hjr=> ?_
       have hj0:=hall j hjr
       cases hij:Nat.beq j i with
       |true=>
        have e:=ah hij
        subst e
        rw[hij] at hj0
        simp only[ae,hg,aa] at hj0
        obtain⟨hoff,hay,hc⟩:=hj0
        have hoff':∀y∈R,∀oj,al[y.1]? =some oj->aHk oj o.dst=true:=λy hy=>yU hoff _ (cg.2 ⟨y,hy,rfl⟩)
        have rcc:∀(s':St U) v w' β',Ag (Wr al o) s s'->Bh Y TI FZ al a0 bs kd l (rmv j fs) false (ps||yQ a0 j) s' K=some z->bE Y.C (E.ahs (bks R) hL) s' (a.put o.dst v) w' β'->(fJ a0 (listed.setIfInBounds j true)=true->Bel Yb wS w')->(fJ a0 (listed.setIfInBounds j true)=true->Bel Yb wS w')/\dJ P .any al.toArray a0 (NoPanic Q) (Bel Yb wS) m (listed.setIfInBounds j true) (a.put o.dst v) w':=λs' v w' β' g1 g2 g3 hb'=>by
         refine⟨hb',?_⟩
         rw[hcnt hjr]
         exact ih hP hpin hkd (rmv j pd) R l (rmv j fs) false (ps||yQ a0 j) s' K z hD' g2 (λs2 a2 w2 β2 q1=>hQ s2 a2 w2 β2 ((g1.mono hDi).trans q1)) (λx hx=>nH.2 ⟨hpd x (nH.1 hx).1,(nH.1 hx).2⟩) (λx hx=>⟨nH.2 ⟨(hR x hx).1,hiR x hx⟩,λh=>(hR x hx).2 (nH.1 h).1⟩) hR2 hR3 _ (hdn.set hjr) hc _ w' β' hL (λhp=>(Bool.or_eq_true_iff.1 hp).elim (λhp=>lL (hps hp)) λhp=>by rw[Ua hay rfl,hp,bf,dp]) hb' (λh=>by cases h) (λy hy=>(hE y hy).keep (hoff' y hy) (keepAg g1)) g3
        cases hcl:Nat.ble (uC FZ o.op) 1 with
        |true=>
         rw[hcl] at hK
         simp only[ae] at hK
         rw[<-aO1 (al:=al) hgd] at hK
         exact wpOp_step hg λK' hK'=>aRb G r hK λs' v w' β' g1 g2 g3 g4=>hK' _ _ (rcc s' v w' β' g1 g2 g3 λhn=>(hb (nY hn)).trans (Bel.aBN (g4 hcl)))
        |false=>
         rw[hcl] at hK
         simp only[ab] at hK
         cases hop:(stW bs s o.op||ptW FZ bs s o.op) with
         |false=>
          rw[hop] at hK
          simp only[ab] at hK
          rw[<-aO1 (al:=al) hgd] at hK
          refine wpOp_step hg λK' hK'=>aRb G r hK λs' v w' β' g1 g2 g3 g4=>hK' _ _ ?_
          cases hun:unO kd s'.m.o with
          |false=>
           rw[hun,cL] at g2
           cases hia:(yQ a0 j||ps) with
           |false=>rw[hia] at g2;cases g2
           |true=>
            rw[hia] at g2
            refine rcc s' v w' β' g1 g2 g3 λhn=> ?_
            rw[cq] at hia
            rcases hia with hia|hia
            ·rw[Ua hay rfl,hia,bf,dp] at hn
             cases hn
            ·rw[lL (hps hia)] at hn;cases hn
          |true=>
           rw[hun] at g2
           simp only[iw,ae] at g2
           refine rcc s' v w' β' g1 g2 g3 λ_=> ?_
           cases hk:kd with
           |none=>rw[hk] at hun;cases hun
           |some p=>
            obtain⟨n0,k0⟩:=p
            rw[hk] at hun
            exact Bel.aBN (g3.unt (hkd n0 k0 hk) hun)
         |true=>
          rw[hop] at hK
          simp only[ae] at hK
          cases hoo:o.op with
          |store t x y=>
           rw[hoo] at hop
           simp only[stW,ptW,gb] at hop
           split at hop
           ·rename_i b off hx
            unfold one stp at hK
            rw[hoo] at hK
            simp only[hx] at hK
            split at hK
            ·rename_i ti b' off' ps h1 h2 h3
             cases h2
             split at hK
             ·rename_i T cs us rv cv h4
              rw[aR] at h4
              cases hbb:(Nat.beq (len ps) ti.k&&(Nat.ble (off+ti.k) (len cs)&&Bg ps)) with
              |false=>rw[hbb] at hK;cases hK
              |true=>
               rw[hbb] at hK
               simp only[ae] at hK
               simp only[aa,bH] at hbb
               obtain⟨w',β',t',bb,e1,r1,hev,hbel,e2,e3⟩:=Fj G.ti r hoo h1 hx h3 h4 (ah hbb.1) (bc hbb.2.1) hbb.2.2
               have hyb:Yb bb:=by
                obtain⟨k,k1,k2⟩:=hpin b (lQ.1 hop)
                obtain⟨_,e,t2,j1,j2,j3⟩:=(r.hp.pin _ k2:(Lf.box b 0:Lf U).mean Y.C w ((E.ahs (bks R) hL).X β) β s.m _)
                rw[h4] at j1;injection j1 with j1;subst j1
                obtain⟨b2,m1,m2⟩:=j3 rfl
                injection m2 with m2;injection m2 with m2;injection m2 with m2
                rw[e2] at j2;injection j2 with j2;subst j2
                rw[e3] at m1;injection m1 with m1
                subst m1;subst m2;exact k1
               have hb':fJ a0 (listed.setIfInBounds j true)=true->Bel Yb wS w':=λhn=>(hb (nY hn)).trans ⟨hbel.os,hbel.tape,hbel.output,hbel.size,λk hk hy=>hbel.block k hk λe=>hy (by rw[e];exact hyb)⟩
               have ag:Ag (Wr al o) s (put (trn s b (.box T (o5 cs off ps) (o5 us off (ps.map λ_=>Nat.succ s.m.k))) rv) o.dst (.l .any)):=Ag.put (s:=s) (s':=trn s b (.box T (o5 cs off ps) (o5 us off (ps.map λ_=>Nat.succ s.m.k))) rv) (D:=Wr al o) ⟨λn _=>rfl,rfl,rfl,La h4 (ah hbb.1) (bc hbb.2.1) (r.aBR h4)⟩ (λn e=>Or.inl e)
               refine wpOp_step hg λK' hK'=> ?_
               rw[cH hw]
               exact wpo (.inr ⟨e1,rfl⟩) (hK' _ _ (rcc _ _ w' β' ag hK (r1.put λ_=>trivial) hb'))
             ·cases hK
            ·rename_i h2 _;cases h2
            ·rename_i h2 _;cases h2
            ·cases hK
           ·cases hop
          |call cc=>
           obtain⟨f,xa,ats,S,b,ys,rfl,hS,hxs,hwt,hfr,hmem⟩:∃f xa ats S b ys,cc=⟨.value (.func f),xa,ats⟩/\iE FZ f=some S/\xa.toList.map (dS s)= .l (.box b 0)::ys/\S.wt=true/\S.fr=true/\Fb b bs=true:=by
            rw[hoo] at hop
            simp only[stW,ptW,cL] at hop
            split at hop
            ·rename_i f xa ats he
             split at hop
             ·rename_i S b ys h1 h2
              simp only[aa] at hop
              injection he with he
              exact⟨f,xa,ats,S,b,ys,he,h1,h2,hop.1,hop.2.1,hop.2.2⟩
             ·cases hop
            ·cases hop
           unfold one stp at hK
           rw[hoo] at hK
           simp only[hS,hwt,hfr,dw,ae] at hK
           obtain⟨x,s',i',bb,k1,⟨ys',k2⟩,k3,k4,k5,k6,k7⟩:=aDv G.lay r hoo (G.fs f S (aGi hS)) hwt hfr hK
           rw[hxs] at k2
           injection k2 with k2 _;injection k2 with k2;injection k2 with k2 _
           subst k2
           have hyb:Yb bb:=by
            obtain⟨k,q1,q2⟩:=hpin b (lQ.1 hmem)
            have e:=k3 _ (r.hp.pin _ q2)
            injection e with e;injection e with e;injection e with e
            subst e;exact q1
           have ag:Ag (Wr al o) s (put s' o.dst x):=Ag.put ⟨λn hn=>by rw[k5],by rw[k5],by rw[k6],k7⟩ (λn e=> .inl e)
           refine wpOp_step hg λK' hK'=> ?_
           rw[cH hw]
           exact k4 _ _ λv w' β' m1 m2 m3=>hK' _ _ (rcc _ v w' β' ag k1 (m1.put m2) λhn=>(hb (nY hn)).trans ⟨m3.os,m3.tape,m3.output,m3.size,λk hk hy=>m3.block k hk λe=>hy (by rw[e];exact hyb)⟩)
          |_=>rw[hoo] at hop;simp[stW,ptW] at hop
       |false=>
        rw[hij] at hj0
        simp only[ab,aa] at hj0
        obtain⟨hjp,hj0⟩:=hj0
        have hjp:=lQ.1 hjp
        obtain⟨oj,ho',hgj,hany,hself,hfl⟩:=hF j (hpd j hjp)
        have hgi:al.toArray[j]? =some oj:=by simpa using ho'
        rw[hgi] at hj0
        simp only[aa] at hj0
        obtain⟨hoff,hc⟩:=hj0
        have hoff':∀y∈R,∀o,al[y.1]? =some o->aHk o oj.dst=true:=λy hy=>yU hoff _ (cg.2 ⟨y,hy,rfl⟩)
        have hjR:∀x∈R,x.1≠j:=λx hx e=>(hR x hx).2 (by rw[e];exact hjp)
        have hget:∀(v:Value) n,oj.dst=some n->(a.put oj.dst v).tmps.getD n undef=v:=λv n hn=>by
         rw[hn]
         simp only[aMb,hn,aR] at hany
         have hlt:n<a.tmps.size:=by
          rw[r.tsz]
          cases hx:s.t[n]? with
          |none=>rw[hx] at hany;cases hany
          |some x=>exact lt_of_some hx
         simp only[Act.put]
         rw[vS _ _ _ _ _ hlt,cH rfl]
        have rcc:∀(E':Env U g) (hP':E'.prm=[]) (hpin':∀b∈bs,∃k,Yb k/\((Sv.l (.box b 0):Sv U),Value.pointer (some ⟨k,0,none⟩))∈E'.pin) (hkd':∀n k,kd=some (n,k)->(wS,n,k)∈E'.fr) (hback:∀s a w β,bE Y.C E' s a w β->bE Y.C E s a w β) (hpn:∀p∈E.pin,p∈E'.pin) (q:Option (Nat×Obj)) v w' β' (hL':∀x∈bks ((j,q)::R),E'.w0.heap.size<=x.1),(∀p,q=some p->∀y∈R,∀p',y.2=some p'->p.1≠p'.1)->aH0 P Y FZ E'.pin al s (a.put oj.dst v) (j,q)->bE Y.C (E'.ahs (bks ((j,q)::R)) hL') s (a.put oj.dst v) w' β'->(fJ a0 (listed.setIfInBounds j true)=true->Bel Yb wS w')->(fJ a0 (listed.setIfInBounds j true)=true->Bel Yb wS w')/\dJ P .any al.toArray a0 (NoPanic Q) (Bel Yb wS) m (listed.setIfInBounds j true) (a.put oj.dst v) w':=λE' hP' hpin' hkd' hback hpn q v w' β' hL' hq hEr r' hb'=>by
         refine⟨hb',?_⟩
         rw[hcnt hjr]
         refine ih hP' hpin' hkd' (rmv j pd) ((j,q)::R) ((i,false)::l) fs false ps s K z hD (by simp only[Bh,aR,ho];exact hfull) (λs' a w β g1 g2 g3=>hQ s' a w β g1 g2 (hback _ _ _ _ g3)) (λx hx=>hpd x (nH.1 hx).1) (λx hx=> ?_) (λx hx y hy hne p p' hp hp'=> ?_) (λx hx y hy he=> ?_) _ (hdn.set hjr) hc _ w' β' hL' (λhp=>lL (hps hp)) hb' (λh=>by cases h) (λy hy=> ?_) r'
         ·rcases ba.1 hx with rfl|hx
          ·exact⟨hpd j hjp,λh=>(nH.1 h).2 rfl⟩
          ·exact⟨(hR x hx).1,λh=>(hR x hx).2 (nH.1 h).1⟩
         ·rcases ba.1 hx with rfl|hx<;>rcases ba.1 hy with rfl|hy
          ·exact absurd rfl hne
          ·exact hq p hp y hy p' hp'
          ·exact λe=>hq p' hp' x hx p hp e.symm
          ·exact hR2 x hx y hy hne p p' hp hp'
         ·rcases ba.1 hx with rfl|hx<;>rcases ba.1 hy with rfl|hy
          ·rfl
          ·exact absurd he.symm (hjR y hy)
          ·exact absurd he (hjR x hx)
          ·exact hR3 x hx y hy he
         ·rcases ba.1 hy with rfl|hy
          ·exact hEr
          ·exact((hE y hy).mono hpn).keep (hoff' y hy) (λ_ _=>rfl)
        have hwj:Region.wanted oj (yielded al.toArray a.tmps)=true:=by simp[Region.wanted,hgj]
        refine wpOp_step hgi λK' hK'=> ?_
        rw[cH hwj]
        rcases hfl with⟨hcl,hok⟩|⟨hcl,y0,hfc⟩
        ·obtain⟨blk,hFl⟩:=aOq G r hok
         have hbw:E.w0.heap.size<=w.heap.size:=r.hp.ext.size
         have hL':∀x∈bks ((j,some (w.heap.size,blk))::R),E.w0.heap.size<=x.1:=λx hx=>by
          have hx:x∈(w.heap.size,blk)::bks R:=hx
          rcases ba.1 hx with rfl|hx
          ·exact hbw
          ·exact hL x hx
         refine wpo (.inl (hFl w)) (hK' _ _ (rcc E hP hpin hkd (λ_ _ _ _ h=>h) (λ_ h=>h) (some (w.heap.size,blk)) _ (w.alloc blk) β hL' (λp hp y hy p' hp'=> ?_) ?_ ?_ (λhn=>(hb (nY hn)).trans (Bel.aBN (Ext.alloc _ _)))))
         ·have:=ak hp;subst this
          have:=bLi r p' (Fx.2 ⟨y.1,by rw[<-hp'];exact hy⟩)
          intro e
          have e:w.heap.size=p'.1:=e
          omega
         ·exact⟨oj,ho', .inl ⟨_,blk,rfl,hcl,hFl.keep (bEo hself hcl),λn hn=>hget _ n hn⟩⟩
         ·exact(r.aDA (blk:=blk) (hb':=hL') hbw).aBY hany
        ·have hfc0:=hfc
         obtain⟨ff,xa,ats,S,z1,q,c1,c2,c3,c4,c5,c6,c7,c8,c9⟩:=hfc0
         have hso:=Gz G.lay r c1 (G.fs ff S (aGi c2)) c3 c4 c5 (.inr c6) c8
         refine hso K' _ λv w' β' q1 q2 q3=> ?_
         have hbx:=λhn:fJ a0 (listed.setIfInBounds j true)=true=>(hb (nY hn)).trans (Bel.aBN (q3 rfl))
         by_cases hd0:oj.dst=none
         ·exact hK' _ _ (rcc E hP hpin hkd (λ_ _ _ _ h=>h) (λ_ h=>h) none v w' β' hL (λp hp=>by cases hp) ⟨oj,ho', .inr ⟨y0,v,rfl,hcl,hfc.keep (s':=s) (d:=none) rfl (λ_ _=>rfl),λhd=>absurd hd0 hd,λd hd=>by rw[hd0] at hd;cases hd⟩⟩ (q1.aBY hany) hbx)
         ·have hm2:y0.mean Y.C w' ((E.ahs (bks R) hL).X β') β' s.m v:=by rw[<-c9];exact q2 hd0
          have q1':bE Y.C ((E.pinned [(y0,v)]).ahs (bks R) hL) s (a.put oj.dst v) w' β':=(q1.aBY hany).pins (ps:=[(y0,v)]) (λx hx=>by simp at hx;subst hx;exact hm2)
          exact hK' _ _ (rcc (E.pinned [(y0,v)]) hP (λb hb=>by
           obtain⟨k,k1,k2⟩:=hpin b hb
           exact⟨k,k1,cY _ k2⟩) hkd (λ_ _ _ _ h=>h.aDF) (λ_ h=>cY _ h) none v w' β' hL (λp hp=>by cases hp) ⟨oj,ho', .inr ⟨y0,v,rfl,hcl,hfc.keep (s':=s) (d:=none) rfl (λ_ _=>rfl),λ_=>de,λd hd=>hget v d hd⟩⟩ q1' hbx)
end
end Go.EV

namespace Go.EV
open Go.RowKit Go.VK
variable {U:Uni} {Y:Lay U} {TI:List (Nat×TInfo)} {FZ:List (Nat×Sum U)} {P:Program} {g:GI} {E:Env U g}
section
variable {α:Type}
def F6:∀(l:List (Nat×Bool)),aYp l=l.map Prod.fst
 |[]=>rfl
 |x::l=>by rw[bm,<-F6 l];rfl
def Fy {x:Nat×Bool}{l:List (Nat×Bool)}(h:aDr (x::l)=true):x.2=false/\aDr l=true:=by
 have e:aDr (x::l)=cond x.2 false (aDr l):=rfl
 rw[e] at h
 cases hx:x.2 with
 |true=>rw[hx] at h;cases h
 |false=>rw[hx] at h;exact⟨rfl,h⟩
def bLk (G:Good P g Y TI FZ){al:List Oper}{Q:Exit->Act->World->Prop}{D:Nat->Prop}:∀(l:List Nat) (s:St U) (K:St U->Option α) (z:α),(∀i∈l,∀o,al[i]? =some o->∀n,Wr al o n->D n)->x9 Y TI FZ al l s K=some z->
  ∀(rest:List Nat),(∀s' a w β listed,Ag D s s'->K s'=some z->bE Y.C E s' a w β->chz al.toArray rest listed=true->wpAny P .any al.toArray Q rest.length listed a w)->∀listed,chz al.toArray (l++rest) listed=true->∀a w β,bE Y.C E s a w β->wpAny P .any al.toArray Q (l++rest).length listed a w
 |[],s,K,z,_,h,rest,hk,listed,hc,a,w,β,r=>hk s a w β listed (Ag.refl s) h r hc
 |i::l,s,K,z,hD,h,rest,hk,listed,hc,a,w,β,r=>by
  simp only[x9,aR] at h
  cases ho:al[i]? with
  |none=>rw[ho] at h;cases h
  |some o=>
   rw[ho] at h
   simp only at h
   replace hc:((Region.ready .any al.toArray listed==[i])&&chz al.toArray (l++rest) (listed.setIfInBounds i true))=true:=hc
   simp only[aa,cI] at hc
   have hg:al.toArray[i]? =some o:=by simpa using ho
   refine aV1 hc.1 (wpOp_step hg λK' hK'=>aQ6 G r h λs' a' w' β' q1 q2 q3 _=>hK' _ _ ?_)
   have q1':=q1.mono (hD i (by simp) o ho)
   exact bLk G l s' K z (λj hj=>hD j (by simp[hj])) q2 rest (λs2 a2 w2 β2 li p1 p2 p3 p4=>hk s2 a2 w2 β2 li (q1'.trans p1) p2 p3 p4) _ hc.2 a' w' β' q3
def CG (FZ:List (Nat×Sum U))(al:List Oper)(a0:Option Nat)(l:List (Nat×Bool))(listed:Array Bool):Prop:=frees FZ al a0 l=true\/(fJ a0 listed=false/\aDr l=true)
def bHw (G:Good P g Y TI FZ){al:List Oper}{a0:Option Nat}(hs:Region.noSelect al.toArray=true){Q:Exit->Act->World->Prop}{D:Nat->Prop}:∀(l:List (Nat×Bool)) (s:St U) (K:St U->Option α) (z:α),(∀i∈l,∀o,al[i.1]? =some o->∀n,Wr al o n->D n)->x9 Y TI FZ al (aYp l) s K=some z->
  ∀(rest:List (Nat×Bool)),(∀s' a w β listed,Ag D s s'->K s'=some z->bE Y.C E s' a w β->Dn .any al.toArray listed->chk al.toArray a0 rest listed=true->CG FZ al a0 rest listed->dJ P .any al.toArray a0 (NoPanic Q) (Ext w) rest.length listed a w)->
   ∀listed,Dn .any al.toArray listed->chk al.toArray a0 (l++rest) listed=true->CG FZ al a0 (l++rest) listed->∀a w β,bE Y.C E s a w β->dJ P .any al.toArray a0 (NoPanic Q) (Ext w) (l++rest).length listed a w
 |[],s,K,z,_,h,rest,hk,listed,hd,hc,hg,a,w,β,r=>hk s a w β listed (Ag.refl s) h r hd hc hg
 |(i,fl)::l,s,K,z,hD,h,rest,hk,listed,hd,hc,hcg,a,w,β,r=>by
  replace h:x9 Y TI FZ al (i::aYp l) s K=some z:=h
  simp only[x9,aR] at h
  cases ho:al[i]? with
  |none=>rw[ho] at h;cases h
  |some o=>
   rw[ho] at h
   simp only at h
   have hg:al.toArray[i]? =some o:=by simpa using ho
   cases fl with
   |true=>
    rw[cA] at hc
    simp only[chk,aa] at hc
    have hfr:Nat.beq (uC FZ o.op) 0=true/\frees FZ al a0 (l++rest)=true:=by
     rcases hcg with hcg|⟨_,hcg⟩
     ·have hcg':frees FZ al a0 ((i,true)::(l++rest))=true:=hcg
      simp only[frees,aR,ho,ae,aa] at hcg'
      exact hcg'
     ·exact absurd (Fy hcg).1 (by simp)
    obtain⟨v,s',h1,h2,h3,h4⟩:=bHl G r (ah hfr.1) h
    have hD':=hd.set (by simpa using hc.1.1.2)
    have h4':=h4.mono (hD (i,true) (by simp) o ho)
    refine Ko (i:=i) (oi:=o) (v:=v) hg hs hc.1.1.1 hc.1.1.2 hc.1.2 hd (λ_ _ _ h=>h) ?_ (Ext.refl w) ?_
    ·rcases h1 with⟨k1,k2⟩|⟨k1,k2⟩
     ·exact .inl ⟨k1,k2⟩
     ·exact .inr ⟨k1,k2⟩
    ·exact bHw G hs l s' K z (λj hj=>hD j (by simp[hj])) h3 rest (λs2 a2 w2 β2 li p1 p2 p3 p4 p5 p6=>hk s2 a2 w2 β2 li (h4'.trans p1) p2 p3 p4 p5 p6) _ hD' hc.2 (.inl hfr.2) _ w β h2
   |false=>
    replace hc:((Region.ready .any al.toArray listed==[i])&&(a0 !=some i|| !fJ a0 (listed.setIfInBounds i true))&&chk al.toArray a0 (l++rest) (listed.setIfInBounds i true))=true:=hc
    simp only[aa,cI] at hc
    have hD':=hd.set (i:=i) (by rw[hc.1.1];simp)
    have hcase:(Nat.ble (uC FZ o.op) 1=true/\frees FZ al a0 (l++rest)=true)\/(fJ a0 (listed.setIfInBounds i true)=false/\aDr (l++rest)=true):=by
     rcases hcg with hcg|⟨hn,hcg⟩
     ·have hcg':frees FZ al a0 ((i,false)::(l++rest))=true:=hcg
      simp only[frees,aR,ho,ab] at hcg'
      cases hb:Nat.ble (uC FZ o.op) 1 with
      |true=>rw[hb] at hcg';exact .inl ⟨rfl,hcg'⟩
      |false=>
       rw[hb] at hcg'
       simp only[ab,aa] at hcg'
       refine .inr ⟨?_,hcg'.2⟩
       cases a0 with
       |none=>exact absurd hcg'.1 (by simp)
       |some b=>
        have hbi:b=i:=ah hcg'.1
        subst hbi
        have:=hc.1.2
        simpa using this
     ·exact .inr ⟨lL hn,(Fy hcg).2⟩
    refine jG hc.1.1 (by simp) (λi' hi'=> ?_)
    simp at hi';subst hi'
    refine wpOp_step hg λK' hK'=>aQ6 G r h λs' a' w' β' q1 q2 q3 q4=>hK' _ _ ?_
    have q1':=q1.mono (hD (i',false) (by simp) o ho)
    have cont:=λhh=>bHw G hs l s' K z (λj hj=>hD j (by simp[hj])) q2 rest (λs2 a2 w2 β2 li p1 p2 p3 p4 p5 p6=>hk s2 a2 w2 β2 li (q1'.trans p1) p2 p3 p4 p5 p6) _ hD' hc.2 hh a' w' β' q3
    rcases hcase with⟨c1,c2⟩|⟨c1,c2⟩
    ·have hx:=q4 c1
     exact⟨λ_=>hx,sD (λx hx'=>Ext.trans hx hx') _ _ _ _ (cont (.inl c2))⟩
    ·exact⟨λhn=>(by rw[c1] at hn;cases hn),nU _ _ _ _ c1 (cont (.inr ⟨c1,c2⟩))⟩
def Dn0 {os:Array Oper}:Dn .any os (Array.replicate os.size false):=λj oj hj hl=>by
 have hlt:=(bv.1 hj).1
 rw[cj,gt,cH hlt] at hl
 cases hl
def aWs {al:List Oper}{i:Nat}{l:List Nat}:aHh al (i::l)=match nth al i with|some o=>o::aHh al l|none=>aHh al l:=rfl
def aO2 {al:List Oper}:∀{l:List Nat} {i:Nat} {o:Oper},i∈l->al[i]? =some o->o∈aHh al l
 |[],i,o,h,_=>by simp at h
 |x::l,i,o,h,ho=>by
  rw[aWs,aR]
  rcases ba.1 h with rfl|h
  ·rw[ho];simp
  ·have:=aO2 h ho
   cases al[x]? with
   |none=>exact this
   |some o'=>exact cY _ this
def bEq {β:Type}(l:List β)(k:Nat):tk l k++drp l k=l:=by rw[aN7,aAm];exact cF k l
def aO3 {os:Array Oper}{an:An}{l:List Nat}(h:aAi FZ os.toList os an=some l):
  (Region.noSelect os=true/\l.length=os.size/\chz os l (Array.replicate os.size false)=true)\/
  (∃a0 ord,Region.noSelect os=true/\ord.length=os.size/\chk os a0 ord (Array.replicate os.size false)=true/\frees FZ os.toList a0 ord=true/\l=ord.map Prod.fst):=by
 cases an with
 |r a0 ord=>
  simp only[aAi] at h
  cases hb:(aG2 os a0 ord&&frees FZ os.toList a0 ord) with
  |false=>rw[hb] at h;cases h
  |true=>
   rw[hb] at h
   have:=ak h
   simp only[aG2,aa,cI] at hb
   exact .inr ⟨a0,ord,hb.1.1.1,hb.1.1.2,hb.1.2,hb.2,by rw[<-this,F6]⟩
 |z ord=>
  simp only[aAi] at h
  cases hb:(Region.noSelect os&&(Nat.beq (len ord) (len os.toList)&&chz os ord (Array.replicate os.size false))) with
  |false=>rw[hb] at h;cases h
  |true=>
   rw[hb] at h
   have:=ak h;subst this
   simp only[aa,bH] at hb
   exact .inl ⟨hb.1,by have:=ah hb.2.1;simpa using this,hb.2.2⟩
 |_=>cases h
def bEr (G:Good P g Y TI FZ)(hm:P.follows .mixedOrders=true){os:Array Oper}{an:An}{l l1 l2:List Nat}(h:aAi FZ os.toList os an=some l)(hl:l=l1++l2){id:Nat}{Q:Exit->Act->World->Prop}{D:Nat->Prop}{D2:Nat->Prop}{α α2:Type}{s:St U}{z:α}{K1:St U->Option α}
  (hD:∀o∈os.toList,∀n,Wr os.toList o n->D n) (h1:x9 Y TI FZ os.toList l1 s K1=some z)
  (hk:∀s1,Ag D s s1->K1 s1=some z->∃(K2:St U->Option α2) (z2:α2),(∀i∈l2,∀o,os.toList[i]? =some o->∀n,Wr os.toList o n->D2 n)/\x9 Y TI FZ os.toList l2 s1 K2=some z2/\∀a1 w1 β1,bE Y.C E s1 a1 w1 β1->∀s' a w β,Ag D2 s1 s'->K2 s'=some z2->bE Y.C E s' a w β->Q .normal a w)
  {a:Act} {w:World} {β:List Tr} (r:bE Y.C E s a w β):(Code.region id os true).wp P Q a w:=by
 have hos:os.toList.toArray=os:=by simp
 have hmem:∀(i:Nat) (o:Oper),os.toList[i]? =some o->∀n,Wr os.toList o n->D n:=λi o ho=>hD o (az ho)
 have r0:bE Y.C E s a w.drew β:=r.ext (Ext.drew w)
 rcases aO3 h with⟨hs,hlen,hc⟩|⟨a0,ord,hs,hlen,hc,hfr,hlo⟩
 ·refine wp_region_noPanic (wp_region_any hm ?_)
  have:=bLk G (E:=E) (al:=os.toList) (Q:=NoPanic Q) (D:=D) l1 s K1 z (λi _=>hmem i) h1 l2 (λs1 a1 w1 β1 listed g1 g2 g3 g4=>by
   obtain⟨K2,z2,e1,e2,e3⟩:=hk s1 g1 g2
   have:=bLk G (E:=E) (al:=os.toList) (Q:=NoPanic Q) (D:=D2) l2 s1 K2 z2 e1 e2 [] (λs' a' w' β' li p1 p2 p3 p4=>⟨by simpa[chz] using p4,e3 a1 w1 β1 g3 s' a' w' β' p1 p2 p3⟩) listed (by simpa using g4) a1 w1 β1 g3
   simpa using this) (Array.replicate os.size false) (by rw[hos,<-hl];exact hc) a w.drew β r0
  rw[hos,<-hl,hlen] at this
  exact this
 ·refine wp_region_noPanic (wp_region_any hm (lK (a0:=a0) (S:=Ext w.drew) _ _ _ _ ?_))
  have hl1:ord.map Prod.fst=l1++l2:=by rw[<-hlo,hl]
  obtain⟨o1,o2,ho,hm1,hm2⟩:=List.map_eq_append_iff.1 hl1
  subst hm1;subst hm2
  have:=bHw G (E:=E) (al:=os.toList) (a0:=a0) (by rw[hos];exact hs) (Q:=Q) (D:=D) o1 s K1 z (λi _=>hmem i.1) (by rw[F6];exact h1) o2 (λs1 a1 w1 β1 listed g1 g2 g3 g4 g5 g6=>by
   obtain⟨K2,z2,e1,e2,e3⟩:=hk s1 g1 g2
   have:=bHw G (E:=E) (al:=os.toList) (a0:=a0) (by rw[hos];exact hs) (Q:=Q) (D:=D2) o2 s1 K2 z2 (λi hi=>e1 i.1 (cg.2 ⟨i,hi,rfl⟩)) (by rw[F6];exact e2) [] (λs' a' w' β' li p1 p2 p3 p4 p5 p6=>nV (P:=P) (a0:=a0) (S:=Ext w') (Q:=NoPanic Q) (by simpa[chk] using p5) (e3 a1 w1 β1 g3 s' a' w' β' p1 p2 p3) 0) listed g4 (by simpa using g5) (by simpa using g6) a1 w1 β1 g3
   simpa using this) (Array.replicate os.size false) (by rw[hos];exact Dn0) (by rw[hos,<-ho];exact hc) (.inl (by rw[<-ho];exact hfr)) a w.drew β r0
  rw[hos,<-ho,hlen] at this
  exact this
def bEs {a0:Option Nat}{n:Nat}:fJ a0 (Array.replicate n false)=true:=by
 cases a0 with
 |none=>rfl
 |some b=>
  simp only[fJ,cz]
  rw[cj,gt]
  split<;>rfl
def bLm (hE:E.fr=[])(hP:E.prm=[])(G:Good P g Y TI FZ)(hm:P.follows .mixedOrders=true){os:Array Oper}{id:Nat}{kb:Bool}{f a0:Option Nat}{ord:List (Nat×Bool)}{Q:Exit->Act->World->Prop}{D:Nat->Prop}{s:St U}{z:α}{N:St U->Option α}
  (hD:∀o∈os.toList,∀n,Wr os.toList o n->D n) (hc:aHi os f a0 ord=true) (h:y7 Y TI FZ os.toList a0 (bif kb then some (len s.m.o,s.m.k) else none) ord f true true (wpe os.toList f s) N=some z)
  (hN:∀s' a w β,Ag D s s'->N s'=some z->bE Y.C E s' a w β->Q .normal a w) {a:Act} {w:World} {β:List Tr} (r:bE Y.C E s a w β):(Code.region id os true).wp P Q a w:=by
 have hos:os.toList.toArray=os:=by simp
 have hmem:∀i∈ord,∀o,os.toList[i.1]? =some o->∀n,Wr os.toList o n->D n:=λi _ o ho=>hD o (az ho)
 have r0:bE Y.C E s a w.drew β:=r.ext (Ext.drew w)
 simp only[aHi,aa,bH] at hc
 obtain⟨hs,hlen,hcf⟩:=hc
 have hlen:=ah hlen
 have hsm:(wpe os.toList f s).m=s.m:=by
  unfold wpe
  cases f with
  |none=>rfl
  |some j=>
   simp only
   cases nth os.toList j with
   |none=>rfl
   |some o=>simp only;cases o.dst<;>rfl
 have r1:bE Y.C E (wpe os.toList f s) a w.drew β:=by
  unfold wpe
  cases f with
  |none=>exact r0
  |some j=>
   simp only
   cases nth os.toList j with
   |none=>exact r0
   |some o=>exact r0.aDG
 have hag:Ag D s (wpe os.toList f s):=by
  unfold wpe
  cases f with
  |none=>exact Ag.refl s
  |some j=>
   simp only[aR]
   cases ho:os.toList[j]? with
   |none=>exact Ag.refl s
   |some o=>exact(Ag.refl s).put (λn e=>hD o (az ho) n (.inl e))
 have main:∀(E':Env U g) (kd:Option (Nat×Nat)),E'.prm=[]->Lk E' kd true true w.drew w.drew->bE Y.C E' (wpe os.toList f s) a w.drew β->(∀s' a w β,bE Y.C E' s' a w β->bE Y.C E s' a w β)->y7 Y TI FZ os.toList a0 kd ord f true true (wpe os.toList f s) N=some z->(Code.region id os true).wp P Q a w:=λE' kd hP' hl r' hback h=>by
  refine wp_region_noPanic (wp_region_any hm (lK (a0:=a0) (S:=Ext w.drew) _ _ _ _ ?_))
  have hQ:∀s' a w β,Ag D (wpe os.toList f s) s'->N s'=some z->bE Y.C E' s' a w β->Q .normal a w:=λs' a w β g1 g2 g3=>hN s' a w β (hag.trans g1) g2 (hback s' a w β g3)
  cases f with
  |none=>
   have:=aTx (E:=E') G (al:=os.toList) (a0:=a0) (kd:=kd) (Q:=Q) (D:=D) (by rw[hos];exact hs) ord true true _ N z hmem h hQ (Array.replicate os.size false) (by rw[hos];exact Dn0) (by rw[hos];exact hcf) bEs a w.drew β w.drew hl r'
   rw[hos,hlen] at this;exact this
  |some j=>
   simp only[aa,bne_iff_ne,ne_eq] at hcf
   obtain⟨hja,hcf⟩:=hcf
   split at hcf
   ·rename_i oj hj
    have:=bEk (E:=E') G (al:=os.toList) (a0:=a0) (kd:=kd) (Q:=Q) (D:=D) (by rw[hos];exact hs) hP' (j:=j) (oj:=oj) (by simpa using hj) hja ord true true _ N z hmem h hQ (Array.replicate os.size false) (by rw[hos];exact Dn0) (by rw[hos];exact hcf) bEs a w.drew β w.drew hl r'
    rw[hos,hlen] at this;exact this
   ·cases hcf
 cases kb with
 |false=>exact main E none hP ⟨λ_ _ h=>(by cases h),λ_=>rfl,λ_=>rfl,λ_=>Ext.refl _⟩ r1 (λ_ _ _ _ h=>h) h
 |true=>
  have hf:=r1.frame hP
  rw[hsm] at hf
  exact main (E.frm [(w.drew,s.m.o.length,s.m.k)]) (some (s.m.o.length,s.m.k)) hP ⟨λn k h=>(by cases h;exact de),λ_=>rfl,λh=>(by cases h),λ_=>Ext.refl _⟩ hf (λ_ _ _ _ h=>h.aCF hE) (by rw[bH] at h;exact h)
def bPl (G:Good P g Y TI FZ)(hm:P.follows .mixedOrders=true){os:Array Oper}{id:Nat}{bs:List Nat}{ord:List (Nat×Bool)}{Q:Exit->Act->World->Prop}{D:Nat->Prop}{s:St U}{z:α}{N:St U->Option α}
  (hD:∀o∈os.toList,∀n,Wr os.toList o n->D n) (hc:aHi os none none ord=true) (h:bAj Y TI FZ os.toList bs ord s N=some z)
  (hN:∀s' a w β,Ag D s s'->N s'=some z->bE Y.C E s' a w β->Q .normal a w) {a:Act} {w:World} {β:List Tr} (r:bE Y.C E s a w β):(Code.region id os true).wp P Q a w:=by
 have hos:os.toList.toArray=os:=by simp
 have r0:bE Y.C E s a w.drew β:=r.ext (Ext.drew w)
 simp only[aHi,aa,bH] at hc
 obtain⟨hs,hlen,hcf⟩:=hc
 have hlen:=ah hlen
 let Yb:Nat->Prop:=λk=>∃b∈bs,∃t,β[b]? =some t/\t.b=some k
 refine wp_region_noPanic (wp_region_any hm (lK (a0:=none) (S:=Bel Yb w.drew) _ _ _ _ ?_))
 have:=Fw (E:=E) G (al:=os.toList) (Q:=Q) (D:=D) (by rw[hos];exact hs) (bs:=bs) (Yb:=Yb) (wS:=w.drew) ord s N z (λi _ o ho=>hD o (az ho)) h hN (Array.replicate os.size false) (by rw[hos];exact Dn0) (by rw[hos];exact hcf) a w.drew β (Bel.refl _) (λb e t k h1 h2 h3 h4=>⟨λhb=>⟨b,hb,t,h3,h4⟩,λhb=>⟨λ⟨b',k1,t',k2,k3⟩=>r0.hp.dist b b' t t' k (λe=>hb (e▸k1)) h3 k2 (Tr.root h4) (Tr.root k3),(r0.hp.new b t k h3 (Tr.root h4)).2⟩⟩) r0
 rw[hos,hlen] at this;exact this
def aY8 {al:List Oper}{s:St U}:∀{fs:List Nat},(wpl al s fs).m=s.m
 |[]=>rfl
 |j::fs=>by
  have e:wpl al s (j::fs)=(match nth al j with|some o=>EV.put (wpl al s fs) o.dst (.l .any)|none=>wpl al s fs):=rfl
  rw[e]
  cases nth al j with
  |none=>exact aY8
  |some o=>rw[bEm];exact aY8
def aRc {al:List Oper}{s:St U}{a:Act}{w:World}{β:List Tr}(r:bE Y.C E s a w β):∀{fs:List Nat},bE Y.C E (wpl al s fs) a w β
 |[]=>r
 |j::fs=>by
  have e:wpl al s (j::fs)=(match nth al j with|some o=>EV.put (wpl al s fs) o.dst (.l .any)|none=>wpl al s fs):=rfl
  rw[e]
  cases nth al j with
  |none=>exact aRc r
  |some o=>exact(aRc r).aDG
def aWt {al:List Oper}{s:St U}{D:Nat->Prop}(hD:∀o∈al,∀n,Wr al o n->D n):∀{fs:List Nat},Ag D s (wpl al s fs)
 |[]=>Ag.refl s
 |j::fs=>by
  have e:wpl al s (j::fs)=(match nth al j with|some o=>EV.put (wpl al s fs) o.dst (.l .any)|none=>wpl al s fs):=rfl
  rw[e,aR]
  cases ho:al[j]? with
  |none=>exact aWt hD
  |some o=>exact(aWt hD).put (λn e=>hD o (az ho) n (.inl e))
def bLn (hE:E.fr=[])(hP:E.prm=[])(G:Good P g Y TI FZ)(hm:P.follows .mixedOrders=true){os:Array Oper}{a0:Option Nat}{id f:Nat}{bs fs:List Nat}{ord:List (Nat×Bool)}{Q:Exit->Act->World->Prop}{D:Nat->Prop}{s:St U}{z:α}{N:St U->Option α}
  (hD:∀o∈os.toList,∀n,Wr os.toList o n->D n) (hs:Region.noSelect os=true) (hc:aEm os a0 f fs [] ord (Array.replicate os.size false)=true) (hbx:bxs bs s.m.o=true) (h:Bh Y TI FZ os.toList a0 bs (some (len s.m.o,s.m.k)) ord fs true false (wpl os.toList s fs) N=some z)
  (hN:∀s' a w β,Ag D s s'->N s'=some z->bE Y.C E s' a w β->Q .normal a w) {a:Act} {w:World} {β:List Tr} (r:bE Y.C E s a w β):(Code.region id os true).wp P Q a w:=by
 have hos:os.toList.toArray=os:=by simp
 have r0:bE Y.C E (wpl os.toList s fs) a w.drew β:=(aRc r).ext (Ext.drew w)
 have hag:Ag D s (wpl os.toList s fs):=aWt hD
 let Yb:Nat->Prop:=λk=>∃b∈bs,∃t,β[b]? =some t/\t.b=some k
 obtain⟨ps,p1,p2⟩:=aTy r0.hp bs (by rw[aY8];exact hbx)
 have r1:bE Y.C ((E.pinned ps).frm [(w.drew,s.m.o.length,s.m.k)]) (wpl os.toList s fs) a w.drew β:=by
  have:=(r0.pins p1).frame (show(E.pinned ps).prm=[] from hP)
  rw[aY8] at this;exact this
 have r2:bE Y.C (((E.pinned ps).frm [(w.drew,s.m.o.length,s.m.k)]).ahs (bks []) (by simp[bks])) (wpl os.toList s fs) a w.drew β:=r1.aDM
 refine wp_region_noPanic (wp_region_any hm (lK (a0:=a0) (S:=Bel Yb w.drew) _ _ _ _ ?_))
 rw[bH] at h
 have:=aWr (a0:=a0) (E:=(E.pinned ps).frm [(w.drew,s.m.o.length,s.m.k)]) G (al:=os.toList) (Q:=Q) (D:=D) (by rw[hos];exact hs) hP (bs:=bs) (Yb:=Yb) (wS:=w.drew) (λb hb=>by
  obtain⟨t,k,q1,q2,q3⟩:=p2 b hb
  exact⟨k,⟨b,hb,t,q1,q2⟩,bw.2 (.inl q3)⟩) (kd:=some (s.m.o.length,s.m.k)) (λn k h=>by cases h;exact de) f fs [] ord fs true false (wpl os.toList s fs) N z (λi _ o ho=>hD o (az ho)) h (λs' a w β g1 g2 g3=>hN s' a w β (hag.trans g1) g2 (g3.aCF hE).aDF) (λ_ h=>h) (by simp) (by simp) (by simp) (Array.replicate os.size false) (by rw[hos];exact Dn0) (by rw[hos];exact hc) a w.drew β (by simp[bks]) (λh=>by cases h) (λ_=>Bel.refl _) (λ_=>⟨rfl,λk ⟨b,hb,t,ht,hk⟩=>bK7 ht (Tr.root hk),λb e t k h1 h2 h3 h4=>⟨λhb=>⟨b,hb,t,h3,h4⟩,λhb=>⟨λ⟨b',k1,t',k2,k3⟩=>r0.hp.dist b b' t t' k (λe=>hb (e▸k1)) h3 k2 (Tr.root h4) (Tr.root k3),(r0.hp.new b t k h3 (Tr.root h4)).2⟩⟩,rfl⟩) (by simp) r2
 rw[hos,show cntF (Array.replicate os.size false)=os.size by simp[cntF]] at this;exact this
def aAw (hE:E.fr=[])(hP:E.prm=[])(G:Good P g Y TI FZ)(hm:P.follows .mixedOrders=true)(id:Nat)(os:Array Oper)(d:Bool)(an:An){α:Type}(s:St U)(N:St U->Option α)(X:Nat->St U->Option α)(R:St U->Option α)(z:α)(D:Nat->Prop)(hD:∀o∈os.toList,∀n,Wr os.toList o n->D n)(hA:AW D an)(h:rgn Y TI FZ os.toList os d an s N=some z):Snd P Y E D (.region id os d) s z N X R:=by
 intro Q hN hX hR a w β r
 have hos:os.toList.toArray=os:=by simp
 have plain:∀an,(bif d then(match aAi FZ os.toList os an with|some l=>x9 Y TI FZ os.toList l s N|none=>none) else ops Y TI FZ os.toList os.toList s N)=some z->(Code.region id os d).wp P Q a w:=λan h=>by
  cases d with
  |false=>
   refine wp_region_list ?_
   have:=Qi G (E:=E) (al:=os.toList) (Q:=Q) (D:=D) os.toList s N z hD h [] (λs' a w β g1 g2 g3=>wpList_nil (hN s' a w β g1 g2 g3)) a w β r
   rw[cW,hos] at this;exact this
  |true=>
   simp only[ae] at h
   cases ho:aAi FZ os.toList os an with
   |none=>rw[ho] at h;cases h
   |some l=>
    rw[ho] at h
    exact bEr G hm (l1:=l) (l2:=[]) (α2:=α) (D2:=D) ho (by simp) hD h (λs1 g1 g2=>⟨N,z,λi hi=>by simp at hi,g2,λa1 w1 β1 _ s' a' w' β' p1 p2 p3=>hN s' a' w' β' (g1.trans p1) p2 p3⟩) r
 cases an with
 |rj k tm a'=>
  cases d with
  |false=>
   replace h:ops Y TI FZ os.toList (tk os.toList k) s (λs1=>bif wrG tm.ws os.toList (drp os.toList k) then bd (ops Y TI FZ os.toList (drp os.toList k) s1 λs'=>col Y s1 tm s') λd=>N (reb Y s1 tm d) else none)=some z:=h
   refine wp_region_list ?_
   have:=Qi G (E:=E) (al:=os.toList) (Q:=Q) (D:=D) (tk os.toList k) s _ z (λo ho=>hD o (by rw[aN7] at ho;exact gf ho)) h (drp os.toList k) (λs1 a1 w1 β1 g1 g2 g3=>by
    cases hb:wrG tm.ws os.toList (drp os.toList k) with
    |false=>rw[hb] at g2;cases g2
    |true=>
     rw[hb] at g2
     simp only[ae] at g2
     obtain⟨d,k1,k2⟩:=iP g2
     have:=Qi G (E:=E) (al:=os.toList) (Q:=Q) (D:=λn=>Eu tm.ws 0 n=true) (drp os.toList k) s1 _ d (D9 hb) k1 [] (λs' a' w' β' p1 p2 p3=>wpList_nil (by
      obtain⟨β'',r''⟩:=vL hE g3 p3 p1 p2
      obtain⟨_,_,_,hs,_⟩:=Fv p2
      exact hN _ _ _ _ (g1.trans ((aAu hs).mono hA)) k2 r'')) a1 w1 β1 g3
     rw[cW] at this;exact this) a w β r
   rw[bEq,hos] at this;exact this
  |true=>
   replace h:(match aAi FZ os.toList os a' with|some l=>x9 Y TI FZ os.toList (tk l k) s (λs1=>bif wrG tm.ws os.toList (aHh os.toList (drp l k)) then bd (x9 Y TI FZ os.toList (drp l k) s1 λs'=>col Y s1 tm s') λd=>N (reb Y s1 tm d) else none)|none=>none)=some z:=h
   cases ho:aAi FZ os.toList os a' with
   |none=>rw[ho] at h;cases h
   |some l=>
    rw[ho] at h
    refine bEr G hm (l1:=tk l k) (l2:=drp l k) (α2:=Dat U tm.it) (D2:=λn=>Eu tm.ws 0 n=true) ho (bEq l k).symm hD h (λs1 g1 g2=> ?_) r
    cases hb:wrG tm.ws os.toList (aHh os.toList (drp l k)) with
    |false=>rw[hb] at g2;cases g2
    |true=>
     rw[hb] at g2
     simp only[ae] at g2
     obtain⟨d,k1,k2⟩:=iP g2
     refine⟨_,d,λi hi o hio=>D9 hb o (aO2 hi hio),k1,λa1 w1 β1 r1 s' a2 w2 β2 p1 p2 p3=> ?_⟩
     obtain⟨β'',r''⟩:=vL hE r1 p3 p1 p2
     obtain⟨_,_,_,hs,_⟩:=Fv p2
     exact hN _ _ _ _ (g1.trans ((aAu hs).mono hA)) k2 r''
 |y kb f a0 ord=>
  cases d with
  |false=>cases h
  |true=>
   replace h:(bif true&&aHi os f a0 ord then y7 Y TI FZ os.toList a0 (bif kb then some (len s.m.o,s.m.k) else none) ord f true true (wpe os.toList f s) N else none)=some z:=h
   cases hc:aHi os f a0 ord with
   |false=>rw[hc] at h;cases h
   |true=>
    rw[hc] at h
    exact bLm hE hP G hm hD hc h hN r
 |w bs ord=>
  replace h:none=some z:=h
  cases h
 |v bs ord=>
  replace h:none=some z:=h
  cases h
 |u a0 bs fs ord=>
  cases d with
  |false=>cases h
  |true=>
   replace h:(bif true&&(Region.noSelect os&&(aEm os a0 (Nat.succ (Nat.add (len ord) (len ord))) fs [] ord (Array.replicate os.size false)&&bxs bs s.m.o)) then Bh Y TI FZ os.toList a0 bs (some (len s.m.o,s.m.k)) ord fs true false (wpl os.toList s fs) N else none)=some z:=h
   cases hc:(Region.noSelect os&&(aEm os a0 (Nat.succ (Nat.add (len ord) (len ord))) fs [] ord (Array.replicate os.size false)&&bxs bs s.m.o)) with
   |false=>rw[hc] at h;cases h
   |true=>
    rw[hc] at h
    simp only[aa] at hc
    exact bLn hE hP G hm hD hc.1 hc.2.1 hc.2.2 h hN r
 |n=>exact plain .n h
 |s x y=>exact plain (.s x y) h
 |j t x=>exact plain (.j t x) h
 |jx t x=>exact plain (.jx t x) h
 |l t f x=>exact plain (.l t f x) h
 |r a0 o=>exact plain (.r a0 o) h
 |z o=>exact plain (.z o) h
 |il i a b=>exact plain (.il i a b) h
 |pl a=>exact plain (.pl a) h
end
end Go.EV
