import Derived.Test.YtlnjelnfjgjanaaGreatEVxtoyw
import Derived.Test.YtlnjelnfjgjanaaGreatEVrptow
/-
  THE EVALUATOR's KIT: several blocks that are made ahead of their steps. Plain theorems over any program; the conditions stand in each.
-/
set_option linter.unusedVariables false
set_option linter.unusedSimpArgs false
namespace Go.EV
open Go.RowKit Go.VK
variable {U:Uni} {Y:Lay U} {TI:List (Nat×TInfo)} {FZ:List (Nat×Sum U)} {P:Program} {g:GI} {E:Env U g}
section
variable {C:Cod U} {s:St U} {a:Act} {w w':World} {β:List Tr}
def Env.ahs (E:Env U g)(L:List (Nat×Obj))(hb:∀x∈L,E.w0.heap.size≤x.1):Env U g:=
 ⟨fun b'=>E.X0 b'∨∃x∈L,x.1=b',E.Y0,E.w0,L++E.prm,E.fr,fun b' h=>by
  rcases h with h|⟨x,hx,e⟩
  ·rcases E.h0 b' h with h|⟨x,hx,e⟩
   ·exact .inl h
   ·exact .inr ⟨x,by simp[hx],e⟩
  ·exact .inr ⟨x,by simp[hx],e⟩,E.hY,fun b' h hy=>by
  rcases h with h|⟨x,hx,rfl⟩
  ·exact E.hXY b' h hy
  ·have:=E.hY _ hy;have:=hb x hx;omega,E.hg,E.pin⟩
theorem Rh {L:List (Nat×Obj)}{hb:∀x∈L,E.w0.heap.size≤x.1}{β:List Tr}{b':Nat}:(E.ahs L hb).X β b'↔E.X β b'∨∃x∈L,x.1=b':=by
 unfold Env.X
 constructor
 ·rintro((h|h)|h|h)
  ·exact .inl (.inl h)
  ·exact .inr h
  ·exact .inl (.inr (.inl h))
  ·exact .inl (.inr (.inr h))
 ·rintro((h|h|h)|h)
  ·exact .inl (.inl h)
  ·exact .inr (.inl h)
  ·exact .inr (.inr h)
  ·exact .inl (.inr h)
theorem aZ.aCY (r:aZ C E s a w β){h}:aZ C (E.ahs [] h) s a w β:=by
 have H:=r.hp
 have ev:Evo w w (E.X β) ((E.ahs [] h).X β) β β s.m s.m s.m.o.length s.m.ns.length s.m.k:=⟨Nat.le_refl _,fun b _ hb=>by
  rcases Rh.1 hb with hb|⟨x,hx,_⟩
  ·exact hb
  ·simp at hx,fun _ _ _ h=>h,Nat.le_refl _,fun a i f _ h=>⟨f,h⟩,fun i e t _ h1 h2=>⟨e,t,h1,h2,fun _=>⟨rfl,rfl⟩,fun _=>⟨rfl,rfl,rfl,fun b hb=>rfl⟩,fun h=>⟨h,rfl⟩⟩⟩
 exact⟨⟨H.ext,H.len,H.vers,H.cnt,H.new,H.dist,H.nd,fun i t e h1 h2=>Ob.aBE ev (H.ok i t e h1 h2) fun b hb=>rfl,fun x hx=>Sv.aAU ev (H.pin x hx),fun x hx=>H.prm x (by simpa[Env.ahs] using hx),H.fr⟩,r.defers,r.tsz,fun n x hx=>Sv.aAU ev (r.tm n x hx)⟩
theorem aZ.aCZ {h}(r:aZ C (E.ahs [] h) s a w β):aZ C E s a w β:=by
 have H:=r.hp
 have ev:Evo w w ((E.ahs [] h).X β) (E.X β) β β s.m s.m s.m.o.length s.m.ns.length s.m.k:=⟨Nat.le_refl _,fun b _ hb=>Rh.2 (.inl hb),fun _ _ _ h=>h,Nat.le_refl _,fun a i f _ h=>⟨f,h⟩,fun i e t _ h1 h2=>⟨e,t,h1,h2,fun _=>⟨rfl,rfl⟩,fun _=>⟨rfl,rfl,rfl,fun b hb=>rfl⟩,fun h=>⟨h,rfl⟩⟩⟩
 exact⟨⟨H.ext,H.len,H.vers,H.cnt,H.new,H.dist,H.nd,fun i t e h1 h2=>Ob.aBE ev (H.ok i t e h1 h2) fun b hb=>rfl,fun x hx=>Sv.aAU ev (H.pin x hx),fun x hx=>H.prm x (by simpa[Env.ahs] using hx),H.fr⟩,r.defers,r.tsz,fun n x hx=>Sv.aAU ev (r.tm n x hx)⟩
theorem aZ.aCM {L L':List (Nat×Obj)}{hL:∀x∈L,E.w0.heap.size≤x.1}{hL':∀x∈L',E.w0.heap.size≤x.1}(r:aZ C (E.ahs L hL) s a w β)(h1:∀p∈L',p∈L)(h2:∀p∈L,p∈L'):aZ C (E.ahs L' hL') s a w β:=by
 have H:=r.hp
 have ev:Evo w w ((E.ahs L hL).X β) ((E.ahs L' hL').X β) β β s.m s.m s.m.o.length s.m.ns.length s.m.k:=⟨Nat.le_refl _,fun b _ hb=>by
  rcases Rh.1 hb with hb|⟨x,hx,e⟩
  ·exact Rh.2 (.inl hb)
  ·exact Rh.2 (.inr ⟨x,h1 x hx,e⟩),fun _ _ _ h=>h,Nat.le_refl _,fun a i f _ h=>⟨f,h⟩,fun i e t _ h1 h2=>⟨e,t,h1,h2,fun _=>⟨rfl,rfl⟩,fun _=>⟨rfl,rfl,rfl,fun b hb=>rfl⟩,fun h=>⟨h,rfl⟩⟩⟩
 exact⟨⟨H.ext,H.len,H.vers,H.cnt,H.new,H.dist,H.nd,fun i t e h1 h2=>Ob.aBE ev (H.ok i t e h1 h2) fun b hb=>rfl,fun x hx=>Sv.aAU ev (H.pin x hx),fun x hx=>H.prm x (by
  have hx':x∈L'++E.prm:=hx
  rcases List.mem_append.1 hx' with hx'|hx'
  ·exact List.mem_append.2 (.inl (h1 x hx'))
  ·exact List.mem_append.2 (.inr hx')),H.fr⟩,r.defers,r.tsz,fun n x hx=>Sv.aAU ev (r.tm n x hx)⟩
theorem bGb {L:List (Nat×Obj)}{hb:∀x∈L,E.w0.heap.size≤x.1}(r:aZ C (E.ahs L hb) s a w β):∀x∈L,x.1<w.heap.size:=fun x hx=>
 (Array.getElem?_eq_some_iff.1 (r.hp.prm x (List.mem_append.2 (.inl hx))).2.1).1
theorem aZ.aCL {L:List (Nat×Obj)}{hb:∀x∈L,E.w0.heap.size≤x.1}(r:aZ C (E.ahs L hb) s a w β){blk:Obj}(hw:E.w0.heap.size≤w.heap.size){hb'}:aZ C (E.ahs ((w.heap.size,blk)::L) hb') s a (w.alloc blk) β:=by
 have H:=r.hp
 have he:Ext w (w.alloc blk):=Ext.alloc _ _
 have hbs:(w.alloc blk).heap[w.heap.size]? =some blk:=by show(w.heap.push blk)[w.heap.size]? =some blk;simp
 have ev:Evo w (w.alloc blk) ((E.ahs L hb).X β) ((E.ahs ((w.heap.size,blk)::L) hb').X β) β β s.m s.m s.m.o.length s.m.ns.length s.m.k:=⟨he.size,fun b hb1 h=>by
  rcases Rh.1 h with h|⟨x,hx,e⟩
  ·exact Rh.2 (.inl h)
  ·rcases List.mem_cons.1 hx with rfl|hx
   ·have e:w.heap.size=b:=e
    omega
   ·exact Rh.2 (.inr ⟨x,hx,e⟩),fun _ _ _ h=>he.cell h,Nat.le_refl _,fun a i f _ h=>⟨f,h⟩,fun i e t _ h1 h2=>⟨e,t,h1,h2,fun _=>⟨rfl,rfl⟩,fun _=>⟨rfl,rfl,rfl,fun b hb=>he.block b (H.new i t b h2 hb).2⟩,fun h=>⟨h,rfl⟩⟩⟩
 refine⟨⟨H.ext.trans (Bel.aBI he),H.len,H.vers,H.cnt,fun i t b h1 h2=>⟨(H.new i t b h1 h2).1,Nat.lt_of_lt_of_le (H.new i t b h1 h2).2 he.size⟩,H.dist,H.nd,fun i t e h1 h2=>Ob.aBE ev (H.ok i t e h1 h2) fun b hb=>he.block b (H.new i t b h1 hb).2,fun x hx=>Sv.aAU ev (H.pin x hx),fun x hx=> ?_,fun f hf=> ?_⟩,r.defers,r.tsz,fun n x hx=>Sv.aAU ev (r.tm n x hx)⟩
 ·have hx':x∈(w.heap.size,blk)::(L++E.prm):=hx
  rcases List.mem_cons.1 hx' with rfl|hx'
  ·refine⟨hw,hbs,fun f hf=> ?_,fun i t ht hm=> ?_⟩
   ·exact(H.fr f hf).2.2.1
   ·have:=(H.new i t _ ht hm).2;omega
  ·obtain⟨h1,h2,h3,h4⟩:=H.prm x hx'
   exact⟨h1,(he.block _ (Array.getElem?_eq_some_iff.1 h2).1).trans h2,h3,h4⟩
 ·obtain⟨h1,h2,h0,h3⟩:=H.fr f hf
  exact⟨h1,h2,Nat.le_trans h0 he.size,h3.imp id fun q=>⟨q.1.trans he,q.2⟩⟩
theorem aZ.aCA {L L':List (Nat×Obj)}{hL:∀x∈L,E.w0.heap.size≤x.1}{hL':∀x∈L',E.w0.heap.size≤x.1}(r:aZ C (E.ahs L hL) s a w β){b:Nat}{blk:Obj}(hm:(b,blk)∈L)(hs1:∀x∈L',x∈L∧x.1≠b)(hP:E.prm=[]){e':EO U}{t':Tr}{k':Nat}(hk:s.m.k≤k')(hv:e'.rv≤k'∧e'.cv≤k')(ht:t'.all=[b])
  (hok:Evo w w ((E.ahs L hL).X β) ((E.ahs L' hL').X (β++[t'])) β (β++[t']) s.m ⟨s.m.o++[e'],k',s.m.ns⟩ s.m.o.length s.m.ns.length s.m.k→w.heap[b]? =some blk→e'.ob.ok C w ((E.ahs L' hL').X (β++[t'])) (β++[t']) ⟨s.m.o++[e'],k',s.m.ns⟩ t'):
  aZ C (E.ahs L' hL') ⟨s.t,⟨s.m.o++[e'],k',s.m.ns⟩,s.fr⟩ a w (β++[t']):=by
 have H:=r.hp
 have hlen:=H.len
 obtain⟨p1,p2,p3,p4⟩:=H.prm (b,blk) (List.mem_append.2 (.inl hm))
 have hbl:b<w.heap.size:=(Array.getElem?_eq_some_iff.1 p2).1
 have ev:Evo w w ((E.ahs L hL).X β) ((E.ahs L' hL').X (β++[t'])) β (β++[t']) s.m ⟨s.m.o++[e'],k',s.m.ns⟩ s.m.o.length s.m.ns.length s.m.k:=by
  refine⟨Nat.le_refl _,fun b' _ h=>Rh.2 ?_,fun _ _ _ h=>h,hk,fun a i f _ h=>⟨f,h⟩,fun i e t hi he ht'=>⟨e,t,?_,?_,fun _=>⟨rfl,rfl⟩,fun _=>⟨rfl,rfl,rfl,fun _ _=>rfl⟩,fun h=>⟨h,rfl⟩⟩⟩
  ·rcases Rh.1 h with h|⟨x,hx,e⟩
   ·rcases h with h|h|⟨u,hu,hm'⟩
    ·exact .inl (.inl h)
    ·exact .inl (.inr (.inl h))
    ·rcases List.mem_append.1 hu with hu|hu
     ·exact .inl (.inr (.inr ⟨u,hu,hm'⟩))
     ·simp at hu;subst hu;rw[ht] at hm';simp at hm';exact .inr ⟨_,hm,hm'.symm⟩
   ·exact .inr ⟨x,(hs1 x hx).1,e⟩
  ·exact(List.getElem?_append_left hi).trans he
  ·exact(List.getElem?_append_left (lt_of_some ht')).trans ht'
 have hb':∀(i:Nat) (t:Tr),(β++[t'])[i]? =some t→β[i]? =some t∨(i=β.length∧t=t'):=fun i t h=>by
  by_cases hi:i<β.length
  ·rw[List.getElem?_append_left hi] at h;exact .inl h
  ·have:=lt_of_some h
   simp at this
   have e:i=β.length:=by omega
   subst e;simp at h;exact .inr ⟨rfl,h.symm⟩
 have ho':∀(i:Nat) (e:EO U),(s.m.o++[e'])[i]? =some e→s.m.o[i]? =some e∨(i=s.m.o.length∧e=e'):=fun i e h=>by
  by_cases hi:i<s.m.o.length
  ·rw[List.getElem?_append_left hi] at h;exact .inl h
  ·have:=lt_of_some h
   simp at this
   have e1:i=s.m.o.length:=by omega
   subst e1;simp at h;exact .inr ⟨rfl,h.symm⟩
 refine⟨⟨H.ext,by simp[hlen],fun i e he=> ?_,H.cnt,fun i t x h1 h2=> ?_,fun i j t u x hij h1 h2 h3 h4=> ?_,fun i t h1=> ?_,fun i t e h1 h2=> ?_,fun x hx=>Sv.aAU ev (H.pin x hx),fun x hx=> ?_,fun f hf=> ?_⟩,r.defers,r.tsz,fun n x hx=>Sv.aAU ev (r.tm n x hx)⟩
 ·rcases ho' i e he with h|⟨_,rfl⟩
  ·have:=H.vers i e h;exact⟨Nat.le_trans this.1 hk,Nat.le_trans this.2 hk⟩
  ·exact hv
 ·rcases hb' i t h1 with h|⟨_,rfl⟩
  ·exact H.new i t x h h2
  ·rw[ht] at h2;simp at h2;subst h2;exact⟨.inl p1,hbl⟩
 ·rcases hb' i t h1 with h|⟨ei,rfl⟩<;>rcases hb' j u h2 with h'|⟨ej,rfl⟩
  ·exact H.dist i j t u x hij h h' h3 h4
  ·rw[ht] at h4;simp at h4;subst h4;exact p4 i t h h3
  ·rw[ht] at h3;simp at h3;subst h3;exact p4 j u h' h4
  ·exact hij (ei.trans ej.symm)
 ·rcases hb' i t h1 with h|⟨_,rfl⟩
  ·exact H.nd i t h
  ·rw[ht];simp
 ·rcases hb' i t h1 with h|⟨ei,rfl⟩
  ·rcases ho' i e h2 with h'|⟨ei,_⟩
   ·exact Ob.aBE ev (H.ok i t e h h') fun _ _=>rfl
   ·have:=lt_of_some h;rw[hlen] at this;omega
  ·rcases ho' i e h2 with h'|⟨_,rfl⟩
   ·have:=lt_of_some h';rw[hlen] at ei;omega
   ·exact hok ev p2
 ·have hx':x∈L'++E.prm:=hx
  rw[hP,List.append_nil] at hx'
  obtain⟨q1,q2⟩:=hs1 x hx'
  obtain⟨h1,h2,h3,h4⟩:=H.prm x (List.mem_append.2 (.inl q1))
  refine⟨h1,h2,h3,fun i t h5 h6=> ?_⟩
  rcases hb' i t h5 with h|⟨_,rfl⟩
  ·exact h4 i t h h6
  ·rw[ht] at h6;simp at h6;exact q2 h6
 ·obtain⟨h1,h2,h0,h3⟩:=H.fr f hf
  refine⟨by simp;omega,Nat.le_trans h2 hk,h0,?_⟩
  rcases h3 with⟨j,e,q1,q2,q3⟩|⟨q1,q2⟩
  ·exact .inl ⟨j,e,q1,(List.getElem?_append_left (lt_of_some q2)).trans q2,q3⟩
  ·refine .inr ⟨q1,fun i t x hi h1 hx=> ?_⟩
   rcases hb' i t h1 with h|⟨_,rfl⟩
   ·exact q2 i t x hi h hx
   ·rw[ht] at hx;simp at hx;subst hx;exact p3 f hf
theorem aR2 (G:Good P g Y TI FZ){L L':List (Nat×Obj)}{hL:∀x∈L,E.w0.heap.size≤x.1}{hL':∀x∈L',E.w0.heap.size≤x.1}(r:aZ Y.C (E.ahs L hL) s a w β){b:Nat}{blk:Obj}(hm:(b,blk)∈L)(hs1:∀x∈L',x∈L∧x.1≠b)(hP:E.prm=[]){o:Oper}(hf:Flp P a o blk)(hg:xK Y TI s o.op=true){α:Type}{K:Sv U→St U→Option α}{z:α}(h:stp Y TI FZ s o.op K=some z):
  ∃x s' β',K x s'=some z∧aZ Y.C (E.ahs L' hL') s' a w β'∧x.mean Y.C w ((E.ahs L' hL').X β') β' s'.m (mkF o.op b)∧s'.t=s.t∧s'.fr=s.fr∧Am s.m s'.m:=by
 have hlen:=r.hp.len
 cases ho:o.op with
 |alloc T=>
  rw[ho] at hg h
  obtain⟨i,hi⟩:=Ie hg
  obtain⟨vs,k,hM⟩:=Tg (Y:=Y) (a:=a) G.ti ho hi
  have hblk:=hf.inj w k
  subst hblk
  have h':K (.l (.box (len s.m.o) 0)) (psh s (.box T (i.z.map Kz.lf) (i.z.map fun _=>s.m.k)))=some z:=by
   have:stp Y TI FZ s (.alloc T) K=match iP TI T with
    |some i=>K (.l (.box (len s.m.o) 0)) (psh s (.box T (i.z.map Kz.lf) (i.z.map fun _=>s.m.k)))
    |none=>none:=rfl
   rw[this,hi] at h;exact h
  have r':=r.aCA (hL':=hL') hm hs1 hP (e':=⟨.box T (i.z.map Kz.lf) (i.z.map fun _=>s.m.k),s.m.k,s.m.k⟩) (t':=⟨some b,0,0,[]⟩) (Nat.le_refl _) ⟨Nat.le_refl _,Nat.le_refl _⟩ rfl (fun hev hbk=>⟨by simp,b,vs.toList,rfl,rfl,by simpa using hbk,hM _ _ _ _⟩)
  refine⟨_,_,_,h',r',⟨rfl,⟨.box T (i.z.map Kz.lf) (i.z.map fun _=>s.m.k),s.m.k,s.m.k⟩,⟨some b,0,0,[]⟩,?_,?_,fun _=>⟨_,rfl,rfl⟩⟩,rfl,rfl,Am.add _ _⟩
  ·simp[psh,bC]
  ·rw[List.getElem?_append_right (by rw[hlen,bC];exact Nat.le_refl _),hlen,bC];simp
 |buildSlice t n ps=>
  rw[ho] at hg h
  obtain⟨e,ek,eb,k,zz,l,d,h1,h2,h3,h4,h5⟩:=Ig hg
  obtain⟨cells,q1,q2,q3,q4,q5,q6⟩:=L6 G.ti G.lay r ho h1 h2 h3 h4 h5
  have hblk:=hf.inj w q1
  subst hblk
  have hst:∀o':List (EO U),o'=s.m.o++[(⟨.tree e d l,s.m.k,Nat.succ s.m.k⟩:EO U)]→K (.l (.own (len s.m.o) s.m.k)) ⟨s.t,⟨o',Nat.succ s.m.k,s.m.ns⟩,s.fr⟩=some z:=fun o' ho'=>by
   have:stp Y TI FZ s (.buildSlice t n ps) K=bif Nat.beq (len ps.toList) n&&(Nat.ble (n*ek) 16777216&&Hw (U:=U) e ek e) then(bif dist (len s.m.o::[]) then K (.l (.own (len s.m.o) s.m.k)) ⟨s.t,⟨upd (s.m.o++[⟨.dead,s.m.k,s.m.k⟩]) (len s.m.o) ⟨.tree e d l,s.m.k,Nat.succ s.m.k⟩,Nat.succ s.m.k,s.m.ns⟩,s.fr⟩ else none) else none:=by
    show(match iP TI t with
     |some ⟨.sl e ek _,_,_⟩=>_
     |_=>none)=_
    rw[h1]
    simp only
    rw[h5]
    rfl
   rw[this,bC,h2] at h
   rw[show Nat.beq n n=true from Nat.beq_refl n,Nat.ble_eq_true_of_le h3,h4] at h
   simp only[Bool.and_self,cond_true] at h
   have hd:dist [len s.m.o]=true:=rfl
   rw[hd] at h
   simp only[cond_true] at h
   rw[bK,bC,List.set_append_right _ _ (Nat.le_refl _),Nat.sub_self] at h
   rw[ho',bC];exact h
  have r':=r.aCA (hL':=hL') hm hs1 hP (e':=⟨.tree e d l,s.m.k,Nat.succ s.m.k⟩) (t':=⟨some b,n,n,[]⟩) (Nat.le_succ _) ⟨Nat.le_succ _,Nat.le_refl _⟩ rfl (fun hev hbk=>by
   refine⟨q2,cells.toList,?_,q6.conv (Nat.le_refl _) hev.hX (fun _ _ _ h=>h) (by simp)⟩
   exact⟨by rw[q4,Array.length_toList,q5], .inr ⟨b,n,cells,by rw[q4];rfl,Nat.zero_le _,hbk,by rw[q4];exact Nat.le_refl _,q3,q5,by rw[q4];exact List.take_of_length_le (by rw[Array.length_toList,q5];exact Nat.le_refl _)⟩⟩)
  refine⟨_,_,_,hst _ rfl,r',⟨⟨Nat.le_succ _,rfl⟩,⟨.tree e d l,s.m.k,Nat.succ s.m.k⟩,⟨some b,n,n,[]⟩,?_,?_,fun _=>rfl⟩,rfl,rfl,?_⟩
  ·simp[bC]
  ·rw[List.getElem?_append_right (by rw[hlen,bC];exact Nat.le_refl _),hlen,bC];simp
  ·have a1:=(Am.add s.m [(⟨.dead,s.m.k,s.m.k⟩:EO U)]).trans (Am.tree (ids:=[]) (i:=len s.m.o) (τ:=e) (d:=d) (l:=l) (rv:=s.m.k) _)
   have e1:(⟨Nn (Nat.succ s.m.k) [] (upd (s.m.o++[(⟨.dead,s.m.k,s.m.k⟩:EO U)]) (len s.m.o) ⟨.tree e d l,s.m.k,Nat.succ s.m.k⟩),Nat.succ s.m.k,s.m.ns⟩:Mm U)=⟨s.m.o++[⟨.tree e d l,s.m.k,Nat.succ s.m.k⟩],Nat.succ s.m.k,s.m.ns⟩:=by
    rw[bK,bC,List.set_append_right _ _ (Nat.le_refl _),Nat.sub_self];rfl
   exact e1▸a1
 |_=>rw[ho] at hg;cases hg
def Xr:Op→Bool
 | .call ⟨.value (.func _),_,_⟩=>true
 |_=>false
def FlC (Y:Lay U)(FZ:List (Nat×Sum U))(s:St U)(o:Oper)(x:Sv U):Prop:=∃(f:FuncId) (xa:Array Operand) (ats:Array TypeId) (S:Sum U) (z:qJ U S.ar) (q:qJ U S.rs),o.op= .call {callee:= .value (.func f),args:=xa,argTypes:=ats}∧iP FZ f=some S∧kK Y s.m S.ar (xa.toList.map (dP s))=some z∧S.wt=false∧S.fr=false∧kE (xa.toList.map (dP s))=true∧rE (xa.toList.map (rR s))=true∧S.m z=some q∧tN (bS Y S.rs q)=x
theorem Xt:∀{cs:List (Lf U)},Xe cs=true→Dj cs=true
 |[],_=>rfl
 |c::cs,h=>by
  have h:(aEn c&&Xe cs)=true:=h
  rw[Bool.and_eq_true] at h
  show(lS c&&Dj cs)=true
  rw[Xt h.2,Bool.and_true]
  cases c<;>first|rfl|cases h.1
theorem Ti:∀{xs:List (Sv U)},rE xs=true→kE xs=true
 |[],_=>rfl
 |x::xs,h=>by
  have h:(Sz x&&rE xs)=true:=h
  rw[Bool.and_eq_true] at h
  show(aEe x&&kE xs)=true
  rw[Ti h.2,Bool.and_true]
  cases x with
  |l y=>cases y<;>first|rfl|cases h.1
  |a cs=>exact Xt h.1
  |t _=>cases h.1
theorem aR3 {x:Sv U}{m m':Mm U}:Sz x=true→(match x with| .l y=>Sv.l (rsv m.ns y)|y=>y)=x:=fun h=>by
 cases x with
 |l y=>cases y<;>first|rfl|cases h
 |_=>rfl
theorem uX {s:St U}:∀{xs:List Operand},rE (xs.map (rR s))=true→xs.map (dP s)=xs.map (rR s)
 |[],_=>rfl
 |x::xs,h=>by
  have h:(Sz (rR s x)&&rE (xs.map (rR s)))=true:=h
  rw[Bool.and_eq_true] at h
  rw[List.map_cons,List.map_cons,uX h.2]
  exact congrArg (·::_) (aR3 (m:=s.m) (m':=s.m) h.1)
variable {α:Type}
theorem aZv {o:Oper}{K:Option α}{z:α}(h:flc Y TI FZ s o K=some z):K=some z∧((Xr o.op=false∧xK Y TI s o.op=true)∨(Xr o.op=true∧∃x,FlC Y FZ s o x)):=by
 unfold flc at h
 split at h
 ·rename_i f xa ats ho
  cases hf:iP FZ f with
  |none=>rw[hf] at h;cases h
  |some S=>
   rw[hf] at h
   simp only at h
   cases hz:kK Y s.m S.ar (xa.toList.map (dP s)) with
   |none=>rw[hz] at h;cases h
   |some a=>
    rw[hz] at h
    simp only at h
    cases hb:(!S.wt&&(!S.fr&&rE (xa.toList.map (rR s)))) with
    |false=>rw[hb] at h;cases h
    |true=>
     rw[hb] at h
     simp only[cond_true] at h
     obtain⟨q,h1,h2⟩:=gZ h
     simp only[Bool.and_eq_true,Bool.not_eq_true'] at hb
     exact⟨h2, .inr ⟨by rw[ho];rfl,_,f,xa,ats,S,a,q,ho,hf,hz,hb.1,hb.2.1,by rw[uX hb.2.2];exact Ti hb.2.2,hb.2.2,h1,rfl⟩⟩
 ·rename_i hne
  cases hb:xK Y TI s o.op with
  |false=>rw[hb] at h;cases h
  |true=>
   rw[hb] at h
   refine⟨h, .inl ⟨?_,rfl⟩⟩
   cases hc:Xr o.op with
   |false=>rfl
   |true=>
    unfold Xr at hc
    split at hc
    ·rename_i f xa ats ho;exact absurd ho (hne f xa ats)
    ·cases hc
theorem aLp {al:List Oper}{K:Option α}{z:α}:∀(fs:List Nat),bFx Y TI FZ al s fs K=some z→K=some z∧∀j∈fs,∃o,al[j]? =some o∧o.guard=none∧aI3 s o.dst=true∧aI4 o o.dst=true∧((Xr o.op=false∧xK Y TI s o.op=true)∨(Xr o.op=true∧∃x,FlC Y FZ s o x))
 |[],h=>⟨h,by simp⟩
 |j::fs,h=>by
  have h:(match nth al j with
   |some o=>bif Xc o.guard&&(aI3 s o.dst&&aI4 o o.dst) then flc Y TI FZ s o (bFx Y TI FZ al s fs K) else none
   |none=>none)=some z:=h
  rw[aP] at h
  cases ho:al[j]? with
  |none=>rw[ho] at h;cases h
  |some o=>
   rw[ho] at h
   simp only at h
   cases hb:(Xc o.guard&&(aI3 s o.dst&&aI4 o o.dst)) with
   |false=>rw[hb] at h;cases h
   |true=>
    rw[hb] at h
    simp only[cond_true] at h
    obtain⟨h1,h2⟩:=aZv h
    obtain⟨h3,h4⟩:=aLp fs h1
    simp only[Bool.and_eq_true] at hb
    refine⟨h3,fun j' hj=> ?_⟩
    rcases List.mem_cons.1 hj with rfl|hj
    ·refine⟨o,ho,?_,hb.2.1,hb.2.2,h2⟩
     cases hg:o.guard with
     |none=>rfl
     |some x=>rw[hg] at hb;cases hb.1
    ·exact h4 j' hj
theorem mQ {i j:Nat}:∀{l:List Nat},j∈I9 i l↔j∈l∧j≠i
 |[]=>by simp[I9]
 |x::l=>by
  have e:I9 i (x::l)=bif Nat.beq x i then I9 i l else x::I9 i l:=rfl
  rw[e]
  cases hb:Nat.beq x i with
  |true=>
   have:=Nat.eq_of_beq_eq_true hb;subst this
   simp only[cond_true,List.mem_cons]
   rw[mQ]
   constructor
   ·rintro⟨h1,h2⟩;exact⟨.inr h1,h2⟩
   ·rintro⟨h1|h1,h2⟩
    ·exact absurd h1 h2
    ·exact⟨h1,h2⟩
  |false=>
   have hne:x≠i:=fun e=>by subst e;rw[show Nat.beq x x=true from Nat.beq_refl x] at hb;cases hb
   simp only[cond_false,List.mem_cons]
   rw[mQ]
   constructor
   ·rintro(rfl|⟨h1,h2⟩)
    ·exact⟨.inl rfl,hne⟩
    ·exact⟨.inr h1,h2⟩
   ·rintro⟨rfl|h1,h2⟩
    ·exact .inl rfl
    ·exact .inr ⟨h1,h2⟩
abbrev Rec:=List (Nat×Option (Nat×Obj))
def M0 (R:Rec):List (Nat×Obj):=R.filterMap Prod.snd
def Rec.rm (R:Rec)(i:Nat):Rec:=R.filter fun x=> !Nat.beq x.1 i
theorem Rec.aCB {R:Rec}{i:Nat}{x:Nat×Option (Nat×Obj)}:x∈R.rm i↔x∈R∧x.1≠i:=by
 unfold Rec.rm
 rw[List.mem_filter]
 refine and_congr_right fun _=> ?_
 constructor
 ·intro h e
  rw[e] at h
  simp at h
 ·intro h
  cases hb:Nat.beq x.1 i with
  |false=>rfl
  |true=>exact absurd (Nat.eq_of_beq_eq_true hb) h
theorem Rec.aBU {i:Nat}:∀{R:Rec},(R.rm i).map Prod.fst=I9 i (R.map Prod.fst)
 |[]=>rfl
 |x::R=>by
  have e:I9 i ((x::R).map Prod.fst)=bif Nat.beq x.1 i then I9 i (R.map Prod.fst) else x.1::I9 i (R.map Prod.fst):=rfl
  rw[e,←Rec.aBU]
  unfold Rec.rm
  cases hb:Nat.beq x.1 i with
  |true=>rw[List.filter_cons_of_neg (by rw[hb];simp)];rfl
  |false=>rw[List.filter_cons_of_pos (by rw[hb];rfl)];rfl
theorem Dx {R:Rec}{p:Nat×Obj}:p∈M0 R↔∃j,(j,some p)∈R:=by
 unfold M0
 rw[List.mem_filterMap]
 constructor
 ·rintro⟨⟨j,q⟩,h1,h2⟩;exact⟨j,by have:q=some p:=h2;rw[←this];exact h1⟩
 ·rintro⟨j,h⟩;exact⟨_,h,rfl⟩
def aE5 (P : Program) (Y : Lay U) (FZ : List (Nat × Sum U)) (pn : List (Sv U × Value)) (al : List Oper) (s : St U) (a : Act) (x : Nat × Option (Nat × Obj)) : Prop := ∃ oj, al[x.1]? = some oj ∧
  ((∃ b blk, x.2 = some (b, blk) ∧ Xr oj.op = false ∧ Flp P a oj blk ∧ ∀ n, oj.dst = some n → a.tmps.getD n undef = mkF oj.op b) ∨
   (∃ y v, x.2 = none ∧ Xr oj.op = true ∧ FlC Y FZ s oj y ∧ (oj.dst ≠ none → (y, v) ∈ pn) ∧ ∀ d, oj.dst = some d → a.tmps.getD d undef = v))
theorem aE5.mono {pn pn':List (Sv U×Value)}{al:List Oper}{x:Nat×Option (Nat×Obj)}(h:aE5 P Y FZ pn al s a x)(hp:∀p∈pn,p∈pn'):aE5 P Y FZ pn' al s a x:=by
 obtain⟨oj,h1,h2⟩:=h
 refine⟨oj,h1,h2.imp id ?_⟩
 rintro⟨y,v,k1,k2,k3,k4,k5⟩
 exact⟨y,v,k1,k2,k3,fun h=>hp _ (k4 h),k5⟩
theorem aPn {oj:Oper}{d:Option Nat}(h:aEo oj d=true):∀n,oj.dst=some n→d≠some n:=fun n hn e=>by
 subst e
 simp only[aEo,hn,Bool.and_eq_true] at h
 have:=h.1
 rw[show Nat.beq n n=true from Nat.beq_refl n] at this
 cases this
theorem aR4 {oj:Oper}{d:Option Nat}(h:aEo oj d=true):aI4 oj d=true:=by
 simp only[aEo,Bool.and_eq_true] at h;exact h.2
theorem aZw {oj:Oper}{d:Option Nat}(h:aI4 oj d=true)(hc:Xr oj.op=false):aRn oj d=true:=by
 cases d with
 |none=>rfl
 |some n=>
  unfold aI4 at h
  simp only at h
  split at h
  ·rename_i f xa ats ho;rw[ho] at hc;cases hc
  ·exact h
theorem aLq {m m':Mm U}{kd:Kd}{x:Lf U}(h:aEn x=true):rdn m kd x=rdn m' kd x:=by
 cases x<;>first|rfl|cases h
theorem aLr {m m':Mm U}:∀{ks:List Kd} {cs:List (Lf U)},Xe cs=true→rds m ks cs=rds m' ks cs
 |[],[],_=>rfl
 |[],_::_,_=>rfl
 |_::_,[],_=>rfl
 |k::ks,c::cs,h=>by
  have h:(aEn c&&Xe cs)=true:=h
  rw[Bool.and_eq_true] at h
  simp only[rds,aLq (m:=m) (m':=m') h.1,aLr (m:=m) (m':=m') h.2]
theorem aE6 {m m':Mm U}{kd:Kd}{x:Sv U}(h:Sz x=true):Hu Y m kd x=Hu Y m' kd x:=by
 cases x with
 |l y=>cases kd<;>simp only[Hu,aLq (m:=m) (m':=m') (x:=y) h]
 |a cs=>cases kd<;>first|rfl|simp only[Hu,aLr (m:=m) (m':=m') (cs:=cs) h]
 |t _=>cases kd<;>rfl
theorem aBd {m m':Mm U}:∀(ks:List Kd) {xs:List (Sv U)},rE xs=true→kK Y m ks xs=kK Y m' ks xs
 |[],[],_=>rfl
 |[],_::_,_=>rfl
 |[k],[],_=>rfl
 |[k],[x],h=>by
  have h:(Sz x&&true)=true:=h
  rw[Bool.and_true] at h
  exact aE6 h
 |[k],_::_::_,_=>rfl
 |k::k'::ks,[],_=>rfl
 |k::k'::ks,x::xs,h=>by
  have h:(Sz x&&rE xs)=true:=h
  rw[Bool.and_eq_true] at h
  have e1:=aE6 (Y:=Y) (m:=m) (m':=m') (kd:=k) h.1
  have e2:=aBd (m:=m) (m':=m') (k'::ks) h.2
  have e3:∀m,kK Y m (k::k'::ks) (x::xs)=(match Hu Y m k x with
   |some a=>match kK Y m (k'::ks) xs with
    |some b=>some ((a,b):qJ U (k::k'::ks))
    |none=>none
   |none=>none):=fun m=>rfl
  rw[e3,e3,e1,e2]
theorem FlC.keep {s':St U}{o:Oper}{y:Sv U}(h:FlC Y FZ s o y){d:Option Nat}(hd:aI4 o d=true)(ht:∀i,d≠some i→s'.t[i]? =s.t[i]?):FlC Y FZ s' o y:=by
 obtain⟨f,xa,ats,S,z,q,h1,h2,h3,h4,h5,h6,h7,h8,h9⟩:=h
 have e:xa.toList.map (rR s')=xa.toList.map (rR s):=by
  refine List.map_congr_left fun x hx=> ?_
  cases x with
  |tmp i=>
   have:d≠some i:=fun e=>by
    subst e
    unfold aI4 at hd
    rw[h1] at hd
    simp only[List.all_eq_true] at hd
    have:=hd _ hx
    simp at this
   have:=ht i this
   simp only[rR,aP,this]
  |_=>rfl
 have p':rE (xa.toList.map (rR s'))=true:=by rw[e];exact h7
 refine⟨f,xa,ats,S,z,q,h1,h2,?_,h4,h5,by rw[uX p'];exact Ti p',p',h8,h9⟩
 rw[uX p',e,←uX h7,←h3,uX h7]
 exact aBd _ h7
theorem aE5.keep {pn:List (Sv U×Value)}{al:List Oper}{x:Nat×Option (Nat×Obj)}{s':St U}{d:Option Nat}{v:Value}(h:aE5 P Y FZ pn al s a x)(hd:∀oj,al[x.1]? =some oj→aEo oj d=true)(ht:∀i,d≠some i→s'.t[i]? =s.t[i]?):aE5 P Y FZ pn al s' (a.put d v) x:=by
 obtain⟨oj,h1,h2⟩:=h
 have h3:=hd oj h1
 refine⟨oj,h1,?_⟩
 rcases h2 with⟨b,blk,k1,k2,k3,k4⟩|⟨y,v',k1,k2,k3,k4,k5⟩
 ·exact .inl ⟨b,blk,k1,k2,k3.keep (aZw (aR4 h3) k2),fun n hn=>by rw[Xp (aPn h3 n hn)];exact k4 n hn⟩
 ·exact .inr ⟨y,v',k1,k2,k3.keep (aR4 h3) ht,k4,fun i hi=>by rw[Xp (aPn h3 i hi)];exact k5 i hi⟩
theorem aE5.keep' {pn:List (Sv U×Value)}{al:List Oper}{x:Nat×Option (Nat×Obj)}{s':St U}{d:Option Nat}(h:aE5 P Y FZ pn al s a x)(hd:∀oj,al[x.1]? =some oj→aEo oj d=true)(ht:∀i,d≠some i→s'.t[i]? =s.t[i]?):aE5 P Y FZ pn al s' a x:=by
 obtain⟨oj,h1,h2⟩:=h
 have h3:=hd oj h1
 refine⟨oj,h1,?_⟩
 rcases h2 with h2|⟨y,v,k1,k2,k3,k4,k5⟩
 ·exact .inl h2
 ·exact .inr ⟨y,v,k1,k2,k3.keep (aR4 h3) ht,k4,k5⟩
theorem xL {al:List Oper}{er:List Nat}{d:Option Nat}(h:J9 al.toArray er d=true):∀j∈er,∀oj,al[j]? =some oj→aEo oj d=true:=fun j hj oj ho=>by
 unfold J9 at h
 rw[List.all_eq_true] at h
 have:=h j hj
 rw[show al.toArray[j]? =some oj by simpa using ho] at this
 exact this
def cntF (l:Array Bool):Nat:=l.toList.count false
theorem Xu {l:Array Bool}{i:Nat}(h:l.getD i true=false):cntF l=cntF (l.setIfInBounds i true)+1:=by
 unfold cntF
 have hi:i<l.size:=by
  rw[Array.getD_eq_getD_getElem?] at h
  cases hx:l[i]? with
  |none=>rw[hx] at h;cases h
  |some b=>exact(Array.getElem?_eq_some_iff.1 hx).1
 have hv:l.toList[i]=false:=by
  rw[Array.getD_eq_getD_getElem?,Array.getElem?_eq_getElem hi] at h
  simpa using h
 rw[Array.toList_setIfInBounds]
 have key:∀(l:List Bool) (i:Nat),l[i]? =some false→l.count false=(l.set i true).count false+1:=by
  intro l
  induction l with
  |nil=>intro i h;simp at h
  |cons x l ih=>
   intro i h
   cases i with
   |zero=>simp at h;subst h;simp
   |succ i=>
    have:=ih i (by simpa using h)
    simp only[List.set_cons_succ,List.count_cons,this]
    omega
 exact key _ _ (by rw[List.getElem?_eq_getElem (by simpa using hi),hv])
theorem aLs {al:List Oper}{o:Oper}(hg:o.guard=none){K:St U→Option α}:grd Y TI FZ al o s K=one Y TI FZ o s K:=by
 unfold grd aI2;rw[hg]
theorem aDq {os:Array Oper}{listed:Array Bool}{i:Nat}(h:i∈Region.ready .any os listed):listed.getD i true=false:=(mem_ready.1 h).1
theorem bC4 {o:Oper}{y:Sv U}(h:FlC Y FZ s o y):Nat.ble (uO FZ o.op) 1=true:=by
 obtain⟨f,xa,ats,S,z,q,h1,h2,h3,h4,h5,_⟩:=h
 rw[h1]
 simp only[uO,h2,h4,cond_false]
 rfl
theorem bC5 {o:Oper}(h:xK Y TI s o.op=true):Nat.ble (uO FZ o.op) 1=true:=by
 cases ho:o.op<;>rw[ho] at h<;>first|rfl|cases h
variable {al:List Oper} {Q:Exit→Act→World→Prop} {D:Nat→Prop}
theorem aR5 (G:Good P g Y TI FZ)(hs:Region.noSelect al.toArray=true)(hP:E.prm=[]){bs:List Nat}{Yb:Nat→Prop}{wS:World}(hpin:∀b∈bs,∃k,Yb k∧((Sv.l (.box b 0):Sv U),Value.pointer (some ⟨k,0,none⟩))∈E.pin){kd:Option (Nat×Nat)}(hkd:∀n k,kd=some (n,k)→(wS,n,k)∈E.fr):
  ∀(f:Nat) (pd:List Nat) (R:Rec) (l:List (Nat×Bool)) (fs:List Nat) (st:Bool) (s:St U) (K:St U→Option α) (z:α),(∀i∈l,∀o,al[i.1]? =some o→∀n,Wr al o n→D n)→zN Y TI FZ al bs kd l fs st s K=some z→
  (∀s' a w β,Ag D s s'→K s'=some z→aZ Y.C E s' a w β→Q .normal a w)→(∀j∈pd,j∈fs)→(∀x∈R,x.1∈fs∧x.1∉pd)→(∀x∈R,∀y∈R,x.1≠y.1→∀p q,x.2=some p→y.2=some q→p.1≠q.1)→(∀x∈R,∀y∈R,x.1=y.1→x=y)→
  ∀listed,Dn .any al.toArray listed→aB3 al.toArray f pd (R.map Prod.fst) l listed=true→∀a w β (hL:∀x∈M0 R,E.w0.heap.size≤x.1),Bel Yb wS w→(st=true→w=wS∧(∀k,Yb k→(E.ahs (M0 R) hL).X β k)∧Xq bs Yb wS.heap.size s β∧R=[])→(∀x∈R,aE5 P Y FZ E.pin al s a x)→aZ Y.C (E.ahs (M0 R) hL) s a w β→dL P .any al.toArray none (NoPanic Q) (Bel Yb wS) (cntF listed) listed a w:=by
 intro f
 induction f generalizing E with
 |zero=>intro pd R l fs st s K z _ _ _ _ _ _ _ listed _ hc;cases hc
 |succ f ih=>
  intro pd R l fs st s K z hD h hQ hpd hR hR2 hR3 listed hdn hc a w β hL hb hI hE r
  cases l with
  |nil=>
   simp only[aB3,Bool.and_eq_true] at hc
   have hR0:R=[]:=by
    have:=hc.1
    cases R with
    |nil=>rfl
    |cons x R=>cases this
   subst hR0
   exact nL (P:=P) (a0:=none) (S:=Bel Yb wS) (Q:=NoPanic Q) (by simpa using hc.2) (hQ s a w β (Ag.refl s) h r.aCZ) _
  |cons x l=>
   obtain⟨i,fl⟩:=x
   simp only[zN,aP] at h
   cases ho:al[i]? with
   |none=>rw[ho] at h;cases h
   |some o=>
    rw[ho] at h
    simp only at h
    have hDi:=hD (i,fl) (by simp) o ho
    have hD':∀j∈l,∀o,al[j.1]? =some o→∀n,Wr al o n→D n:=fun j hj=>hD j (by simp[hj])
    have hg:al.toArray[i]? =some o:=by simpa using ho
    cases fl with
    |true=>
     simp only[aB3,Bool.and_eq_true,hg] at hc
     cases st with
     |false=>
      replace h:(bif Xb o.op&&noG o then one Y TI FZ o s (fun s'=>zN Y TI FZ al bs kd l fs false s' K) else none)=some z:=h
      cases hb0:(Xb o.op&&noG o) with
      |false=>rw[hb0] at h;cases h
      |true=>
       rw[hb0] at h
       simp only[cond_true] at h
       rw[Bool.and_eq_true] at hb0
       have hgd:o.guard=none:=by
        have:=hb0.2
        unfold noG at this
        split at this
        ·assumption
        ·cases this
       have hw:Region.wanted o (yielded al.toArray a.tmps)=true:=by simp[Region.wanted,hgd]
       obtain⟨hr,_⟩:=qM hc.2.1
       have hfr:=Region.free_spec hg (show Region.free .any al.toArray listed i=true by have:=hc.2.1;simp only[tkY,Bool.and_eq_true] at this;exact this.1.1)
       have hcl:uO FZ o.op=0:=by
        have:=hb0.1
        cases hoo:o.op<;>rw[hoo] at this<;>first|rfl|cases this
       unfold one at h
       obtain⟨x,s2,k1,⟨v,p1,p2,p3⟩,k3,k4,k5⟩:=Dt G r rfl hcl h
       have hy:YieldsIf P al.toArray (Bel Yb wS) o v a:= .inl ⟨hw,fun w' _=>Ii hb0.1 (p1 w (Ext.refl w)) w'⟩
       have ag:Ag (Wr al o) s (put s2 o.dst x):=Ag.put ⟨fun n hn=>by rw[k3],by rw[k3],by rw[k4],k5⟩ (fun n e=> .inl e)
       have hWr:∀n,Wr al o n→o.dst=some n:=fun n hn=>by
        rcases hn with hn|⟨j,b,oj,e,_⟩
        ·exact hn
        ·rw[hgd] at e;cases e
       rw[Xu (aDq hr)]
       refine iI hg (Region.noSelect_spec hs) (fun _ _ _ h=>h) (by simp) (fun _ _ _=>rfl) _ listed a w hfr hdn hr hy hb ?_
       exact ih hP hpin hkd pd R l fs false _ K z hD' k1 (fun s3 a3 w3 β3 g1=>hQ s3 a3 w3 β3 ((ag.mono hDi).trans g1)) hpd hR hR2 hR3 _ (hdn.set hr) hc.2.2 _ w β hL hb (fun h=>by cases h) (fun y hy=>(hE y hy).keep (xL hc.1 _ (List.mem_map.2 ⟨y,hy,rfl⟩)) (fun i hi=>ag.t i fun hn=>hi (hWr i hn))) (p2.put fun _=>p3)
     |true=>
      simp only[cond_true] at h
      obtain⟨rfl,hYX,hI,hR0⟩:=hI rfl
      obtain⟨hr,_⟩:=qM hc.2.1
      obtain⟨s1,r1,h1,h2⟩:=Du r h
      have hI1:Xq bs Yb w.heap.size s1 β:=hI.am r.hp h1.m
      have hfr:=Region.free_spec hg (show Region.free .any al.toArray listed i=true by have:=hc.2.1;simp only[tkY,Bool.and_eq_true] at this;exact this.1.1)
      rw[Xu (aDq hr)]
      rcases h2 with⟨hw,h2⟩|⟨hw,h2⟩
      ·cases hel:erl bs s1 o.op with
       |false=>rw[hel] at h2;cases h2
       |true=>
        rw[hel] at h2
        simp only[cond_true] at h2
        have h2':=h2
        unfold one at h2'
        obtain⟨x,s2,k1,⟨v,p1,p2,p3⟩,k3,k4,k5⟩:=Dt G r1 rfl (bC3 hel) h2'
        have hy:YieldsIf P al.toArray (Bel Yb w) o v a:= .inl ⟨hw,fun w' he=>aWb (al:=al) G r1 hI1 hYX hel (p1 w (Ext.refl w)) h2 w' he⟩
        have ag:Ag (Wr al o) s (put s2 o.dst x):=Ag.put ⟨fun n hn=>by rw[k3];exact h1.t n hn,by rw[k3];exact h1.tl,by rw[k4];exact h1.fr,h1.m.trans k5⟩ (fun n e=> .inl e)
        refine iI hg (Region.noSelect_spec hs) (fun _ _ _ h=>h) (by simp) (fun _ _ _=>rfl) _ listed a w hfr hdn hr hy hb ?_
        exact ih hP hpin hkd pd R l fs true _ K z hD' k1 (fun s3 a3 w3 β3 g1=>hQ s3 a3 w3 β3 ((ag.mono hDi).trans g1)) hpd hR hR2 hR3 _ (hdn.set hr) hc.2.2 _ w β hL hb (fun _=>⟨rfl,hYX,(hI1.am r1.hp k5).am p2.hp (by rw[aZu];exact Am.refl _),hR0⟩) (by rw[hR0];simp) (p2.put fun _=>p3)
      ·have hy:YieldsIf P al.toArray (Bel Yb w) o undef a:= .inr ⟨hw,rfl⟩
       have ag:Ag (Wr al o) s (put s1 o.dst (.l .und)):=h1.put (fun n e=> .inl e)
       refine iI hg (Region.noSelect_spec hs) (fun _ _ _ h=>h) (by simp) (fun _ _ _=>rfl) _ listed a w hfr hdn hr hy hb ?_
       exact ih hP hpin hkd pd R l fs true _ K z hD' h2 (fun s3 a3 w3 β3 g1=>hQ s3 a3 w3 β3 ((ag.mono hDi).trans g1)) hpd hR hR2 hR3 _ (hdn.set hr) hc.2.2 _ w β hL hb (fun _=>⟨rfl,hYX,hI1.am r1.hp (by rw[aZu];exact Am.refl _),hR0⟩) (by rw[hR0];simp) (r1.put (x:= .l .und) (v:=undef) fun _=>rfl)
    |false=>
     have hfull:=h
     simp only[cond_false] at h
     cases hno:noG o with
     |false=>rw[hno] at h;cases h
     |true=>
      rw[hno] at h
      simp only[cond_true] at h
      have hgd:o.guard=none:=by
       unfold noG at hno
       split at hno
       ·assumption
       ·cases hno
      have hw:Region.wanted o (yielded al.toArray a.tmps)=true:=by simp[Region.wanted,hgd]
      obtain⟨hK,hF⟩:=aLp fs h
      have hWr:∀n,Wr al o n→o.dst=some n:=fun n hn=>by
       rcases hn with hn|⟨j,b,oj,e,_⟩
       ·exact hn
       ·rw[hgd] at e;cases e
      have keepAg:∀{s':St U},Ag (Wr al o) s s'→∀i,o.dst≠some i→s'.t[i]? =s.t[i]? :=fun hag i hi=>hag.t i fun hn=>hi (hWr i hn)
      simp only[aB3] at hc
      cases him:Di i (R.map Prod.fst) with
      |true=>
       rw[him] at hc
       simp only[cond_true,hg,Bool.and_eq_true] at hc
       obtain⟨hoff,hc⟩:=hc
       obtain⟨x,hx,hxi⟩:=List.mem_map.1 (kS.1 him)
       have hR':∀y∈R.rm i,y∈R∧y.1≠i:=fun y hy=>Rec.aCB.1 hy
       have hoff':∀y∈R.rm i,∀oj,al[y.1]? =some oj→aEo oj o.dst=true:=fun y hy=>xL hoff _ (by rw[←Rec.aBU];exact List.mem_map.2 ⟨y,hy,rfl⟩)
       have hLs:∀p∈M0 (R.rm i),p∈M0 R:=fun p hp=>by
        obtain⟨j,hj⟩:=Dx.1 hp
        exact Dx.2 ⟨j,(hR' _ hj).1⟩
       have hL':∀p∈M0 (R.rm i),E.w0.heap.size≤p.1:=fun p hp=>hL p (hLs p hp)
       rw[←Rec.aBU] at hc
       obtain⟨oj,e1,e2⟩:=hE x hx
       rw[hxi,ho] at e1
       have e1:=Option.some.inj e1
       subst e1
       obtain⟨o2,q0,_,_,_,q1⟩:=hF x.1 (hR x hx).1
       rw[hxi,ho] at q0
       have q0:=Option.some.inj q0
       subst q0
       have hcl:Nat.ble (uO FZ o.op) 1=true:=by
        rcases q1 with⟨_,q1⟩|⟨_,y,q1⟩
        ·exact bC5 q1
        ·exact bC4 q1
       rw[hcl] at hK
       simp only[cond_true] at hK
       have rcc:∀(s':St U) (x0:Sv U) β',s'.t=s.t→s'.fr=s.fr→Am s.m s'.m→zN Y TI FZ al bs kd l (I9 i fs) false (EV.put s' o.dst x0) K=some z→aZ Y.C (E.ahs (M0 (R.rm i)) hL') (EV.put s' o.dst x0) a w β'→dL P .any al.toArray none (NoPanic Q) (Bel Yb wS) (cntF listed) listed a w:=fun s' x0 β' k4 k5 k6 k1 r'=>by
        have ag:Ag (Wr al o) s (EV.put s' o.dst x0):=Ag.put ⟨fun n _=>by rw[k4],by rw[k4],k5,k6⟩ (fun n e=> .inl e)
        exact ih hP hpin hkd pd (R.rm i) l (I9 i fs) false _ K z hD' k1 (fun s3 a3 w3 β3 g1=>hQ s3 a3 w3 β3 ((ag.mono hDi).trans g1)) (fun j hj=>mQ.2 ⟨hpd j hj,fun e=>(hR x hx).2 (by rw[hxi,←e];exact hj)⟩) (fun y hy=>⟨mQ.2 ⟨(hR y (hR' y hy).1).1,(hR' y hy).2⟩,(hR y (hR' y hy).1).2⟩)
         (fun y hy y' hy'=>hR2 y (hR' y hy).1 y' (hR' y' hy').1) (fun y hy y' hy'=>hR3 y (hR' y hy).1 y' (hR' y' hy').1) listed hdn hc a w β' hL' hb (fun h=>by cases h) (fun y hy=>(hE y (hR' y hy).1).keep' (hoff' y hy) (keepAg ag)) r'
       rcases e2 with⟨b,blk,e3,e4,e5,e6⟩|⟨y,v,e3,e4,e5,e6,e7⟩
       ·have hfo:xK Y TI s o.op=true:=by
         rcases q1 with⟨_,q1⟩|⟨q1,_⟩
         ·exact q1
         ·rw[e4] at q1;cases q1
        have hmem:(b,blk)∈M0 R:=Dx.2 ⟨x.1,by rw[←e3];exact hx⟩
        have hK':stp Y TI FZ s o.op (fun x0 s'=>zN Y TI FZ al bs kd l (I9 i fs) false (EV.put s' o.dst x0) K)=some z:=hK
        obtain⟨x0,s',β',k1,k2,k3,k4,k5,k6⟩:=aR2 (L':=M0 (R.rm i)) (hL':=hL') G r hmem (fun p hp=>by
         obtain⟨j,hj⟩:=Dx.1 hp
         exact⟨hLs p hp,fun e=>hR2 _ (hR' _ hj).1 x hx (by rw[hxi];exact(hR' _ hj).2) p (b,blk) rfl e3 e⟩) hP e5 hfo hK'
        exact rcc s' x0 β' k4 k5 k6 k1 (k2.aBL (fun _=>k3) e6)
       ·obtain⟨ff,xa,ats,S,z1,q,c1,c2,c3,c4,c5,c6,c7,c8,c9⟩:=e5
        have hff:(vG Y S.rs||kE (xa.toList.map (dP s)))=true:=by rw[c6,Bool.or_true]
        have hK':stp Y TI FZ s o.op (fun x0 s'=>zN Y TI FZ al bs kd l (I9 i fs) false (EV.put s' o.dst x0) K)=some z:=hK
        have hb2:(match kK Y s.m S.ar (xa.toList.map (dP s)) with
         |some a=>bif S.wt then(match xa.toList.map (dP s) with
          |[x,_]=>match parts x with
           |some cs=>bd (S.m a) fun r=>match bS Y S.rs r with
            |[(_,ds),(_,[.int .i64 k])]=>match wrm Y s.m cs ds with
             |some us=>bif dist (bJr us)&&aEh (U:=U) S.ar then zN Y TI FZ al bs kd l (I9 i fs) false (EV.put ⟨s.t,⟨bJq us s.m.o,Nat.succ s.m.k,s.m.ns⟩,s.fr⟩ o.dst (.l (.int .i64 k))) K else none
             |none=>none
            |_=>none
           |none=>none
          |_=>none)
          else bif S.fr then bd (S.m a) fun r=>
           let q:=iJ s.m.k (len s.m.o) (bS Y S.rs r)
           zN Y TI FZ al bs kd l (I9 i fs) false (EV.put ⟨s.t,⟨s.m.o++q.2,s.m.k,s.m.ns⟩,s.fr⟩ o.dst (tN q.1)) K
          else bif vG Y S.rs||kE (xa.toList.map (dP s)) then bd (S.m a) fun r=>zN Y TI FZ al bs kd l (I9 i fs) false (EV.put s o.dst (tN (bS Y S.rs r))) K
          else match aOp s.m (xa.toList.map (dP s)) with
           |some (i',c')=>bd (S.m a) fun r=>zN Y TI FZ al bs kd l (I9 i fs) false (EV.put s o.dst (tN (Eo i' c' (bS Y S.rs r)))) K
           |none=>none
         |none=>none)=some z:=by
         rw[c1] at hK'
         unfold stp at hK'
         simp only[c2] at hK'
         rw[c4] at hK'
         rw[c4]
         exact hK'
        rw[c3] at hb2
        simp only[c4,c5,hff,cond_false,cond_true] at hb2
        obtain⟨q',d1,d2⟩:=gZ hb2
        rw[c8] at d1
        have d1:=Option.some.inj d1
        subst d1
        rw[c9] at d2
        have hbk:M0 (R.rm i)=M0 (R.rm i):=rfl
        have hsame:∀p,p∈M0 R→p∈M0 (R.rm i):=fun p hp=>by
         obtain⟨j,hj⟩:=Dx.1 hp
         refine Dx.2 ⟨j,Rec.aCB.2 ⟨hj,fun e=> ?_⟩⟩
         have:=hR3 _ hj x hx (by rw[hxi];exact e)
         rw[←this] at e3;cases e3
        have r':aZ Y.C (E.ahs (M0 (R.rm i)) hL') s a w β:=r.aCM hLs hsame
        exact rcc s _ β rfl rfl (Am.refl _) d2 (r'.aBL (v:=v) (fun h=>r'.hp.pin _ (e6 h)) e7)
      |false=>
       rw[him] at hc
       simp only[cond_false,Bool.and_eq_true,List.all_eq_true] at hc
       obtain⟨hir,hall⟩:=hc
       have hir:i∈Region.ready .any al.toArray listed:=by simpa using hir
       have hiR:∀x∈R,x.1≠i:=fun x hx e=>by
        have:Di i (R.map Prod.fst)=true:=kS.2 (List.mem_map.2 ⟨x,hx,e⟩)
        rw[this] at him;cases him
       obtain⟨m,hm⟩:∃m,cntF listed=m+1:=⟨_,Xu (aDq hir)⟩
       have hcnt:∀{j},j∈Region.ready .any al.toArray listed→m=cntF (listed.setIfInBounds j true):=fun hj=>by
        have:=Xu (aDq hj);omega
       rw[hm]
       refine iQ rfl (fun e=>by rw[e] at hir;simp at hir) fun j hjr=> ?_
       have hj0:=hall j hjr
       cases hij:Nat.beq j i with
       |true=>
        have e:=Nat.eq_of_beq_eq_true hij
        subst e
        rw[hij] at hj0
        simp only[cond_true,hg,Bool.and_eq_true] at hj0
        obtain⟨hoff,hc⟩:=hj0
        have hoff':∀y∈R,∀oj,al[y.1]? =some oj→aEo oj o.dst=true:=fun y hy=>xL hoff _ (List.mem_map.2 ⟨y,hy,rfl⟩)
        have rcc:∀(s':St U) v w' β',Ag (Wr al o) s s'→zN Y TI FZ al bs kd l (I9 j fs) false s' K=some z→aZ Y.C (E.ahs (M0 R) hL) s' (a.put o.dst v) w' β'→Bel Yb wS w'→(iD none (listed.setIfInBounds j true)=true→Bel Yb wS w')∧dL P .any al.toArray none (NoPanic Q) (Bel Yb wS) m (listed.setIfInBounds j true) (a.put o.dst v) w':=fun s' v w' β' g1 g2 g3 hb'=>by
         refine⟨fun _=>hb',?_⟩
         rw[hcnt hjr]
         exact ih hP hpin hkd (I9 j pd) R l (I9 j fs) false s' K z hD' g2 (fun s2 a2 w2 β2 q1=>hQ s2 a2 w2 β2 ((g1.mono hDi).trans q1)) (fun x hx=>mQ.2 ⟨hpd x (mQ.1 hx).1,(mQ.1 hx).2⟩) (fun x hx=>⟨mQ.2 ⟨(hR x hx).1,hiR x hx⟩,fun h=>(hR x hx).2 (mQ.1 h).1⟩) hR2 hR3 _ (hdn.set hjr) hc _ w' β' hL hb' (fun h=>by cases h) (fun y hy=>(hE y hy).keep (hoff' y hy) (keepAg g1)) g3
        cases hcl:Nat.ble (uO FZ o.op) 1 with
        |true=>
         rw[hcl] at hK
         simp only[cond_true] at hK
         rw[←aLs (al:=al) hgd] at hK
         exact wpOp_step hg fun K' hK'=>aNo G r hK fun s' v w' β' g1 g2 g3 g4=>hK' _ _ (rcc s' v w' β' g1 g2 g3 (hb.trans (Bel.aBI (g4 hcl))))
        |false=>
         rw[hcl] at hK
         simp only[cond_false] at hK
         cases hop:(stW bs s o.op||ptW FZ bs s o.op) with
         |false=>
          rw[hop] at hK
          simp only[cond_false] at hK
          rw[←aLs (al:=al) hgd] at hK
          refine wpOp_step hg fun K' hK'=>aNo G r hK fun s' v w' β' g1 g2 g3 g4=>hK' _ _ ?_
          cases hun:unO kd s'.m.o with
          |false=>rw[hun] at g2;cases g2
          |true=>
           rw[hun] at g2
           simp only[cond_true] at g2
           refine rcc s' v w' β' g1 g2 g3 ?_
           cases hk:kd with
           |none=>rw[hk] at hun;cases hun
           |some p=>
            obtain⟨n0,k0⟩:=p
            rw[hk] at hun
            exact Bel.aBI (g3.unt (hkd n0 k0 hk) hun)
         |true=>
          rw[hop] at hK
          simp only[cond_true] at hK
          cases hoo:o.op with
          |store t x y=>
           rw[hoo] at hop
           simp only[stW,ptW,Bool.or_false] at hop
           split at hop
           ·rename_i b off hx
            unfold one stp at hK
            rw[hoo] at hK
            simp only[hx] at hK
            split at hK
            ·rename_i ti b' off' ps h1 h2 h3
             cases h2
             split at hK
             ·rename_i T cs us rv cv h4
              rw[aP] at h4
              cases hbb:(Nat.beq (len ps) ti.k&&(Nat.ble (off+ti.k) (len cs)&&zM ps)) with
              |false=>rw[hbb] at hK;cases hK
              |true=>
               rw[hbb] at hK
               simp only[cond_true] at hK
               simp only[Bool.and_eq_true,bC] at hbb
               obtain⟨w',β',t',bb,e1,r1,hev,hbel,e2,e3⟩:=Dp G.ti r hoo h1 hx h3 h4 (Nat.eq_of_beq_eq_true hbb.1) (Nat.le_of_ble_eq_true hbb.2.1) hbb.2.2
               have hyb:Yb bb:=by
                obtain⟨k,k1,k2⟩:=hpin b (kS.1 hop)
                obtain⟨_,e,t2,j1,j2,j3⟩:=(r.hp.pin _ k2:(Lf.box b 0:Lf U).mean Y.C w ((E.ahs (M0 R) hL).X β) β s.m _)
                rw[h4] at j1;injection j1 with j1;subst j1
                obtain⟨b2,m1,m2⟩:=j3 rfl
                injection m2 with m2;injection m2 with m2;injection m2 with m2
                rw[e2] at j2;injection j2 with j2;subst j2
                rw[e3] at m1;injection m1 with m1
                subst m1;subst m2;exact k1
               have hb':Bel Yb wS w':=hb.trans ⟨hbel.os,hbel.tape,hbel.output,hbel.size,fun k hk hy=>hbel.block k hk fun e=>hy (by rw[e];exact hyb)⟩
               have ag:Ag (Wr al o) s (put (trn s b (.box T (Wq cs off ps) (Wq us off (ps.map fun _=>Nat.succ s.m.k))) rv) o.dst (.l .any)):=Ag.put (s:=s) (s':=trn s b (.box T (Wq cs off ps) (Wq us off (ps.map fun _=>Nat.succ s.m.k))) rv) (D:=Wr al o) ⟨fun n _=>rfl,rfl,rfl,Ic h4 (Nat.eq_of_beq_eq_true hbb.1) (Nat.le_of_ble_eq_true hbb.2.1) (r.aBM h4)⟩ (fun n e=>Or.inl e)
               refine wpOp_step hg fun K' hK'=> ?_
               rw[if_pos hw]
               exact wpo (.inr ⟨e1,rfl⟩) (hK' _ _ (rcc _ _ w' β' ag hK (r1.put fun _=>trivial) hb'))
             ·cases hK
            ·rename_i h2 _;cases h2
            ·rename_i h2 _;cases h2
            ·cases hK
           ·cases hop
          |call cc=>
           obtain⟨f,xa,ats,S,b,ys,rfl,hS,hxs,hwt,hfr,hmem⟩:∃f xa ats S b ys,cc=⟨.value (.func f),xa,ats⟩∧iP FZ f=some S∧xa.toList.map (dP s)= .l (.box b 0)::ys∧S.wt=true∧S.fr=true∧Di b bs=true:=by
            rw[hoo] at hop
            simp only[stW,ptW,Bool.false_or] at hop
            split at hop
            ·rename_i f xa ats he
             split at hop
             ·rename_i S b ys h1 h2
              simp only[Bool.and_eq_true] at hop
              injection he with he
              exact⟨f,xa,ats,S,b,ys,he,h1,h2,hop.1,hop.2.1,hop.2.2⟩
             ·cases hop
            ·cases hop
           unfold one stp at hK
           rw[hoo] at hK
           simp only[hS,hwt,hfr,Bool.and_self,cond_true] at hK
           obtain⟨x,s',i',bb,k1,⟨ys',k2⟩,k3,k4,k5,k6,k7⟩:=aA9 G.lay r hoo (G.fs f S (aDk hS)) hwt hfr hK
           rw[hxs] at k2
           injection k2 with k2 _;injection k2 with k2;injection k2 with k2 _
           subst k2
           have hyb:Yb bb:=by
            obtain⟨k,q1,q2⟩:=hpin b (kS.1 hmem)
            have e:=k3 _ (r.hp.pin _ q2)
            injection e with e;injection e with e;injection e with e
            subst e;exact q1
           have ag:Ag (Wr al o) s (put s' o.dst x):=Ag.put ⟨fun n hn=>by rw[k5],by rw[k5],by rw[k6],k7⟩ (fun n e=> .inl e)
           refine wpOp_step hg fun K' hK'=> ?_
           rw[if_pos hw]
           exact k4 _ _ fun v w' β' m1 m2 m3=>hK' _ _ (rcc _ v w' β' ag k1 (m1.put m2) (hb.trans ⟨m3.os,m3.tape,m3.output,m3.size,fun k hk hy=>m3.block k hk fun e=>hy (by rw[e];exact hyb)⟩))
          |_=>rw[hoo] at hop;simp[stW,ptW] at hop
       |false=>
        rw[hij] at hj0
        simp only[cond_false,Bool.and_eq_true] at hj0
        obtain⟨hjp,hj0⟩:=hj0
        have hjp:=kS.1 hjp
        obtain⟨oj,ho',hgj,hany,hself,hfl⟩:=hF j (hpd j hjp)
        have hgi:al.toArray[j]? =some oj:=by simpa using ho'
        rw[hgi] at hj0
        simp only[Bool.and_eq_true] at hj0
        obtain⟨hoff,hc⟩:=hj0
        have hoff':∀y∈R,∀o,al[y.1]? =some o→aEo o oj.dst=true:=fun y hy=>xL hoff _ (List.mem_map.2 ⟨y,hy,rfl⟩)
        have hjR:∀x∈R,x.1≠j:=fun x hx e=>(hR x hx).2 (by rw[e];exact hjp)
        have hget:∀(v:Value) n,oj.dst=some n→(a.put oj.dst v).tmps.getD n undef=v:=fun v n hn=>by
         rw[hn]
         simp only[aI3,hn,aP] at hany
         have hlt:n<a.tmps.size:=by
          rw[r.tsz]
          cases hx:s.t[n]? with
          |none=>rw[hx] at hany;cases hany
          |some x=>exact lt_of_some hx
         simp only[Act.put]
         rw[vC _ _ _ _ _ hlt,if_pos rfl]
        have rcc:∀(E':Env U g) (hP':E'.prm=[]) (hpin':∀b∈bs,∃k,Yb k∧((Sv.l (.box b 0):Sv U),Value.pointer (some ⟨k,0,none⟩))∈E'.pin) (hkd':∀n k,kd=some (n,k)→(wS,n,k)∈E'.fr) (hback:∀s a w β,aZ Y.C E' s a w β→aZ Y.C E s a w β) (hpn:∀p∈E.pin,p∈E'.pin) (q:Option (Nat×Obj)) v w' β' (hL':∀x∈M0 ((j,q)::R),E'.w0.heap.size≤x.1),(∀p,q=some p→∀y∈R,∀p',y.2=some p'→p.1≠p'.1)→aE5 P Y FZ E'.pin al s (a.put oj.dst v) (j,q)→aZ Y.C (E'.ahs (M0 ((j,q)::R)) hL') s (a.put oj.dst v) w' β'→Bel Yb wS w'→(iD none (listed.setIfInBounds j true)=true→Bel Yb wS w')∧dL P .any al.toArray none (NoPanic Q) (Bel Yb wS) m (listed.setIfInBounds j true) (a.put oj.dst v) w':=fun E' hP' hpin' hkd' hback hpn q v w' β' hL' hq hEr r' hb'=>by
         refine⟨fun _=>hb',?_⟩
         rw[hcnt hjr]
         refine ih hP' hpin' hkd' (I9 j pd) ((j,q)::R) ((i,false)::l) fs false s K z hD (by simp only[zN,aP,ho];exact hfull) (fun s' a w β g1 g2 g3=>hQ s' a w β g1 g2 (hback _ _ _ _ g3)) (fun x hx=>hpd x (mQ.1 hx).1) (fun x hx=> ?_) (fun x hx y hy hne p p' hp hp'=> ?_) (fun x hx y hy he=> ?_) _ (hdn.set hjr) hc _ w' β' hL' hb' (fun h=>by cases h) (fun y hy=> ?_) r'
         ·rcases List.mem_cons.1 hx with rfl|hx
          ·exact⟨hpd j hjp,fun h=>(mQ.1 h).2 rfl⟩
          ·exact⟨(hR x hx).1,fun h=>(hR x hx).2 (mQ.1 h).1⟩
         ·rcases List.mem_cons.1 hx with rfl|hx<;>rcases List.mem_cons.1 hy with rfl|hy
          ·exact absurd rfl hne
          ·exact hq p hp y hy p' hp'
          ·exact fun e=>hq p' hp' x hx p hp e.symm
          ·exact hR2 x hx y hy hne p p' hp hp'
         ·rcases List.mem_cons.1 hx with rfl|hx<;>rcases List.mem_cons.1 hy with rfl|hy
          ·rfl
          ·exact absurd he.symm (hjR y hy)
          ·exact absurd he (hjR x hx)
          ·exact hR3 x hx y hy he
         ·rcases List.mem_cons.1 hy with rfl|hy
          ·exact hEr
          ·exact((hE y hy).mono hpn).keep (hoff' y hy) (fun _ _=>rfl)
        have hwj:Region.wanted oj (yielded al.toArray a.tmps)=true:=by simp[Region.wanted,hgj]
        refine wpOp_step hgi fun K' hK'=> ?_
        rw[if_pos hwj]
        rcases hfl with⟨hcl,hok⟩|⟨hcl,y0,hfc⟩
        ·obtain⟨blk,hFl⟩:=aLh G r hok
         have hbw:E.w0.heap.size≤w.heap.size:=r.hp.ext.size
         have hL':∀x∈M0 ((j,some (w.heap.size,blk))::R),E.w0.heap.size≤x.1:=fun x hx=>by
          have hx:x∈(w.heap.size,blk)::M0 R:=hx
          rcases List.mem_cons.1 hx with rfl|hx
          ·exact hbw
          ·exact hL x hx
         refine wpo (.inl (hFl w)) (hK' _ _ (rcc E hP hpin hkd (fun _ _ _ _ h=>h) (fun _ h=>h) (some (w.heap.size,blk)) _ (w.alloc blk) β hL' (fun p hp y hy p' hp'=> ?_) ?_ ?_ (hb.trans (Bel.aBI (Ext.alloc _ _)))))
         ·have:=Option.some.inj hp;subst this
          have:=bGb r p' (Dx.2 ⟨y.1,by rw[←hp'];exact hy⟩)
          intro e
          have e:w.heap.size=p'.1:=e
          omega
         ·exact⟨oj,ho', .inl ⟨_,blk,rfl,hcl,hFl.keep (aZw hself hcl),fun n hn=>hget _ n hn⟩⟩
         ·exact(r.aCL (blk:=blk) (hb':=hL') hbw).aBR hany
        ·have hfc0:=hfc
         obtain⟨ff,xa,ats,S,z1,q,c1,c2,c3,c4,c5,c6,c7,c8,c9⟩:=hfc0
         have hso:=Es G.lay r c1 (G.fs ff S (aDk c2)) c3 c4 c5 (.inr c6) c8
         refine hso K' _ fun v w' β' q1 q2 q3=> ?_
         have hbx:=hb.trans (Bel.aBI (q3 rfl))
         by_cases hd0:oj.dst=none
         ·exact hK' _ _ (rcc E hP hpin hkd (fun _ _ _ _ h=>h) (fun _ h=>h) none v w' β' hL (fun p hp=>by cases hp) ⟨oj,ho', .inr ⟨y0,v,rfl,hcl,hfc.keep (s':=s) (d:=none) rfl (fun _ _=>rfl),fun hd=>absurd hd0 hd,fun d hd=>by rw[hd0] at hd;cases hd⟩⟩ (q1.aBR hany) hbx)
         ·have hm2:y0.mean Y.C w' ((E.ahs (M0 R) hL).X β') β' s.m v:=by rw[←c9];exact q2 hd0
          have q1':aZ Y.C ((E.pinned [(y0,v)]).ahs (M0 R) hL) s (a.put oj.dst v) w' β':=(q1.aBR hany).pins (ps:=[(y0,v)]) (fun x hx=>by simp at hx;subst hx;exact hm2)
          exact hK' _ _ (rcc (E.pinned [(y0,v)]) hP (fun b hb=>by
           obtain⟨k,k1,k2⟩:=hpin b hb
           exact⟨k,k1,List.mem_cons_of_mem _ k2⟩) hkd (fun _ _ _ _ h=>h.aCQ) (fun _ h=>List.mem_cons_of_mem _ h) none v w' β' hL (fun p hp=>by cases hp) ⟨oj,ho', .inr ⟨y0,v,rfl,hcl,hfc.keep (s':=s) (d:=none) rfl (fun _ _=>rfl),fun _=>List.mem_cons_self,fun d hd=>hget v d hd⟩⟩ q1' hbx)
end
end Go.EV

namespace Go.EV
open Go.RowKit Go.VK
variable {U:Uni} {Y:Lay U} {TI:List (Nat×TInfo)} {FZ:List (Nat×Sum U)} {P:Program} {g:GI} {E:Env U g}
section
variable {α:Type}
theorem Xv:∀(l:List (Nat×Bool)),aT0 l=l.map Prod.fst
 |[]=>rfl
 |x::l=>by rw[List.map_cons,←Xv l];rfl
theorem Dy {x:Nat×Bool}{l:List (Nat×Bool)}(h:aA5 (x::l)=true):x.2=false∧aA5 l=true:=by
 have e:aA5 (x::l)=cond x.2 false (aA5 l):=rfl
 rw[e] at h
 cases hx:x.2 with
 |true=>rw[hx] at h;cases h
 |false=>rw[hx] at h;exact⟨rfl,h⟩
theorem bGd (G:Good P g Y TI FZ){al:List Oper}{Q:Exit→Act→World→Prop}{D:Nat→Prop}:∀(l:List Nat) (s:St U) (K:St U→Option α) (z:α),(∀i∈l,∀o,al[i]? =some o→∀n,Wr al o n→D n)→Xa Y TI FZ al l s K=some z→
  ∀(rest:List Nat),(∀s' a w β listed,Ag D s s'→K s'=some z→aZ Y.C E s' a w β→chz al.toArray rest listed=true→wpAny P .any al.toArray Q rest.length listed a w)→∀listed,chz al.toArray (l++rest) listed=true→∀a w β,aZ Y.C E s a w β→wpAny P .any al.toArray Q (l++rest).length listed a w
 |[],s,K,z,_,h,rest,hk,listed,hc,a,w,β,r=>hk s a w β listed (Ag.refl s) h r hc
 |i::l,s,K,z,hD,h,rest,hk,listed,hc,a,w,β,r=>by
  simp only[Xa,aP] at h
  cases ho:al[i]? with
  |none=>rw[ho] at h;cases h
  |some o=>
   rw[ho] at h
   simp only at h
   replace hc:((Region.ready .any al.toArray listed==[i])&&chz al.toArray (l++rest) (listed.setIfInBounds i true))=true:=hc
   simp only[Bool.and_eq_true,beq_iff_eq] at hc
   have hg:al.toArray[i]? =some o:=by simpa using ho
   refine aRg hc.1 (wpOp_step hg fun K' hK'=>aNj G r h fun s' a' w' β' q1 q2 q3 _=>hK' _ _ ?_)
   have q1':=q1.mono (hD i (by simp) o ho)
   exact bGd G l s' K z (fun j hj=>hD j (by simp[hj])) q2 rest (fun s2 a2 w2 β2 li p1 p2 p3 p4=>hk s2 a2 w2 β2 li (q1'.trans p1) p2 p3 p4) _ hc.2 a' w' β' q3
def CG (FZ:List (Nat×Sum U))(al:List Oper)(a0:Option Nat)(l:List (Nat×Bool))(listed:Array Bool):Prop:=frees FZ al a0 l=true∨(iD a0 listed=false∧aA5 l=true)
theorem bC6 (G:Good P g Y TI FZ){al:List Oper}{a0:Option Nat}(hs:Region.noSelect al.toArray=true){Q:Exit→Act→World→Prop}{D:Nat→Prop}:∀(l:List (Nat×Bool)) (s:St U) (K:St U→Option α) (z:α),(∀i∈l,∀o,al[i.1]? =some o→∀n,Wr al o n→D n)→Xa Y TI FZ al (aT0 l) s K=some z→
  ∀(rest:List (Nat×Bool)),(∀s' a w β listed,Ag D s s'→K s'=some z→aZ Y.C E s' a w β→Dn .any al.toArray listed→chk al.toArray a0 rest listed=true→CG FZ al a0 rest listed→dL P .any al.toArray a0 (NoPanic Q) (Ext w) rest.length listed a w)→
   ∀listed,Dn .any al.toArray listed→chk al.toArray a0 (l++rest) listed=true→CG FZ al a0 (l++rest) listed→∀a w β,aZ Y.C E s a w β→dL P .any al.toArray a0 (NoPanic Q) (Ext w) (l++rest).length listed a w
 |[],s,K,z,_,h,rest,hk,listed,hd,hc,hg,a,w,β,r=>hk s a w β listed (Ag.refl s) h r hd hc hg
 |(i,fl)::l,s,K,z,hD,h,rest,hk,listed,hd,hc,hcg,a,w,β,r=>by
  replace h:Xa Y TI FZ al (i::aT0 l) s K=some z:=h
  simp only[Xa,aP] at h
  cases ho:al[i]? with
  |none=>rw[ho] at h;cases h
  |some o=>
   rw[ho] at h
   simp only at h
   have hg:al.toArray[i]? =some o:=by simpa using ho
   cases fl with
   |true=>
    rw[List.cons_append] at hc
    simp only[chk,Bool.and_eq_true] at hc
    have hfr:Nat.beq (uO FZ o.op) 0=true∧frees FZ al a0 (l++rest)=true:=by
     rcases hcg with hcg|⟨_,hcg⟩
     ·have hcg':frees FZ al a0 ((i,true)::(l++rest))=true:=hcg
      simp only[frees,aP,ho,cond_true,Bool.and_eq_true] at hcg'
      exact hcg'
     ·exact absurd (Dy hcg).1 (by simp)
    obtain⟨v,s',h1,h2,h3,h4⟩:=bCx G r (Nat.eq_of_beq_eq_true hfr.1) h
    have hD':=hd.set (by simpa using hc.1.1.2)
    have h4':=h4.mono (hD (i,true) (by simp) o ho)
    refine Hq (i:=i) (oi:=o) (v:=v) hg hs hc.1.1.1 hc.1.1.2 hc.1.2 hd (fun _ _ _ h=>h) ?_ (Ext.refl w) ?_
    ·rcases h1 with⟨k1,k2⟩|⟨k1,k2⟩
     ·exact .inl ⟨k1,k2⟩
     ·exact .inr ⟨k1,k2⟩
    ·exact bC6 G hs l s' K z (fun j hj=>hD j (by simp[hj])) h3 rest (fun s2 a2 w2 β2 li p1 p2 p3 p4 p5 p6=>hk s2 a2 w2 β2 li (h4'.trans p1) p2 p3 p4 p5 p6) _ hD' hc.2 (.inl hfr.2) _ w β h2
   |false=>
    replace hc:((Region.ready .any al.toArray listed==[i])&&(a0 !=some i|| !iD a0 (listed.setIfInBounds i true))&&chk al.toArray a0 (l++rest) (listed.setIfInBounds i true))=true:=hc
    simp only[Bool.and_eq_true,beq_iff_eq] at hc
    have hD':=hd.set (i:=i) (by rw[hc.1.1];simp)
    have hcase:(Nat.ble (uO FZ o.op) 1=true∧frees FZ al a0 (l++rest)=true)∨(iD a0 (listed.setIfInBounds i true)=false∧aA5 (l++rest)=true):=by
     rcases hcg with hcg|⟨hn,hcg⟩
     ·have hcg':frees FZ al a0 ((i,false)::(l++rest))=true:=hcg
      simp only[frees,aP,ho,cond_false] at hcg'
      cases hb:Nat.ble (uO FZ o.op) 1 with
      |true=>rw[hb] at hcg';exact .inl ⟨rfl,hcg'⟩
      |false=>
       rw[hb] at hcg'
       simp only[cond_false,Bool.and_eq_true] at hcg'
       refine .inr ⟨?_,hcg'.2⟩
       cases a0 with
       |none=>exact absurd hcg'.1 (by simp)
       |some b=>
        have hbi:b=i:=Nat.eq_of_beq_eq_true hcg'.1
        subst hbi
        have:=hc.1.2
        simpa using this
     ·exact .inr ⟨Wt hn,(Dy hcg).2⟩
    refine iQ hc.1.1 (by simp) (fun i' hi'=> ?_)
    simp at hi';subst hi'
    refine wpOp_step hg fun K' hK'=>aNj G r h fun s' a' w' β' q1 q2 q3 q4=>hK' _ _ ?_
    have q1':=q1.mono (hD (i',false) (by simp) o ho)
    have cont:=fun hh=>bC6 G hs l s' K z (fun j hj=>hD j (by simp[hj])) q2 rest (fun s2 a2 w2 β2 li p1 p2 p3 p4 p5 p6=>hk s2 a2 w2 β2 li (q1'.trans p1) p2 p3 p4 p5 p6) _ hD' hc.2 hh a' w' β' q3
    rcases hcase with⟨c1,c2⟩|⟨c1,c2⟩
    ·have hx:=q4 c1
     exact⟨fun _=>hx,rQ (fun x hx'=>Ext.trans hx hx') _ _ _ _ (cont (.inl c2))⟩
    ·exact⟨fun hn=>(by rw[c1] at hn;cases hn),nK _ _ _ _ c1 (cont (.inr ⟨c1,c2⟩))⟩
theorem Dn0 {os:Array Oper}:Dn .any os (Array.replicate os.size false):=fun j oj hj hl=>by
 have hlt:=(Array.getElem?_eq_some_iff.1 hj).1
 rw[Array.getD_eq_getD_getElem?,Array.getElem?_replicate,if_pos hlt] at hl
 cases hl
theorem aR6 {al:List Oper}{i:Nat}{l:List Nat}:aEl al (i::l)=match nth al i with|some o=>o::aEl al l|none=>aEl al l:=rfl
theorem aLt {al:List Oper}:∀{l:List Nat} {i:Nat} {o:Oper},i∈l→al[i]? =some o→o∈aEl al l
 |[],i,o,h,_=>by simp at h
 |x::l,i,o,h,ho=>by
  rw[aR6,aP]
  rcases List.mem_cons.1 h with rfl|h
  ·rw[ho];simp
  ·have:=aLt h ho
   cases al[x]? with
   |none=>exact this
   |some o'=>exact List.mem_cons_of_mem _ this
theorem aZx {β:Type}(l:List β)(k:Nat):tk l k++drp l k=l:=by rw[aKy,K4];exact List.take_append_drop k l
theorem aLu {os:Array Oper}{an:An}{l:List Nat}(h:J8 FZ os.toList os an=some l):
  (Region.noSelect os=true∧l.length=os.size∧chz os l (Array.replicate os.size false)=true)∨
  (∃a0 ord,Region.noSelect os=true∧ord.length=os.size∧chk os a0 ord (Array.replicate os.size false)=true∧frees FZ os.toList a0 ord=true∧l=ord.map Prod.fst):=by
 cases an with
 |r a0 ord=>
  simp only[J8] at h
  cases hb:(aD4 os a0 ord&&frees FZ os.toList a0 ord) with
  |false=>rw[hb] at h;cases h
  |true=>
   rw[hb] at h
   have:=Option.some.inj h
   simp only[aD4,Bool.and_eq_true,beq_iff_eq] at hb
   exact .inr ⟨a0,ord,hb.1.1.1,hb.1.1.2,hb.1.2,hb.2,by rw[←this,Xv]⟩
 |z ord=>
  simp only[J8] at h
  cases hb:(Region.noSelect os&&(Nat.beq (len ord) (len os.toList)&&chz os ord (Array.replicate os.size false))) with
  |false=>rw[hb] at h;cases h
  |true=>
   rw[hb] at h
   have:=Option.some.inj h;subst this
   simp only[Bool.and_eq_true,bC] at hb
   exact .inl ⟨hb.1,by have:=Nat.eq_of_beq_eq_true hb.2.1;simpa using this,hb.2.2⟩
 |_=>cases h
theorem aZy (G:Good P g Y TI FZ)(hm:P.follows .mixedOrders=true){os:Array Oper}{an:An}{l l1 l2:List Nat}(h:J8 FZ os.toList os an=some l)(hl:l=l1++l2){id:Nat}{Q:Exit→Act→World→Prop}{D:Nat→Prop}{D2:Nat→Prop}{α α2:Type}{s:St U}{z:α}{K1:St U→Option α}
  (hD:∀o∈os.toList,∀n,Wr os.toList o n→D n) (h1:Xa Y TI FZ os.toList l1 s K1=some z)
  (hk:∀s1,Ag D s s1→K1 s1=some z→∃(K2:St U→Option α2) (z2:α2),(∀i∈l2,∀o,os.toList[i]? =some o→∀n,Wr os.toList o n→D2 n)∧Xa Y TI FZ os.toList l2 s1 K2=some z2∧∀a1 w1 β1,aZ Y.C E s1 a1 w1 β1→∀s' a w β,Ag D2 s1 s'→K2 s'=some z2→aZ Y.C E s' a w β→Q .normal a w)
  {a:Act} {w:World} {β:List Tr} (r:aZ Y.C E s a w β):(Code.region id os true).wp P Q a w:=by
 have hos:os.toList.toArray=os:=by simp
 have hmem:∀(i:Nat) (o:Oper),os.toList[i]? =some o→∀n,Wr os.toList o n→D n:=fun i o ho=>hD o (List.mem_of_getElem? ho)
 have r0:aZ Y.C E s a w.drew β:=r.ext (Ext.drew w)
 rcases aLu h with⟨hs,hlen,hc⟩|⟨a0,ord,hs,hlen,hc,hfr,hlo⟩
 ·refine wp_region_noPanic (wp_region_any hm ?_)
  have:=bGd G (E:=E) (al:=os.toList) (Q:=NoPanic Q) (D:=D) l1 s K1 z (fun i _=>hmem i) h1 l2 (fun s1 a1 w1 β1 listed g1 g2 g3 g4=>by
   obtain⟨K2,z2,e1,e2,e3⟩:=hk s1 g1 g2
   have:=bGd G (E:=E) (al:=os.toList) (Q:=NoPanic Q) (D:=D2) l2 s1 K2 z2 e1 e2 [] (fun s' a' w' β' li p1 p2 p3 p4=>⟨by simpa[chz] using p4,e3 a1 w1 β1 g3 s' a' w' β' p1 p2 p3⟩) listed (by simpa using g4) a1 w1 β1 g3
   simpa using this) (Array.replicate os.size false) (by rw[hos,←hl];exact hc) a w.drew β r0
  rw[hos,←hl,hlen] at this
  exact this
 ·refine wp_region_noPanic (wp_region_any hm (kQ (a0:=a0) (S:=Ext w.drew) _ _ _ _ ?_))
  have hl1:ord.map Prod.fst=l1++l2:=by rw[←hlo,hl]
  obtain⟨o1,o2,ho,hm1,hm2⟩:=List.map_eq_append_iff.1 hl1
  subst hm1;subst hm2
  have:=bC6 G (E:=E) (al:=os.toList) (a0:=a0) (by rw[hos];exact hs) (Q:=Q) (D:=D) o1 s K1 z (fun i _=>hmem i.1) (by rw[Xv];exact h1) o2 (fun s1 a1 w1 β1 listed g1 g2 g3 g4 g5 g6=>by
   obtain⟨K2,z2,e1,e2,e3⟩:=hk s1 g1 g2
   have:=bC6 G (E:=E) (al:=os.toList) (a0:=a0) (by rw[hos];exact hs) (Q:=Q) (D:=D2) o2 s1 K2 z2 (fun i hi=>e1 i.1 (List.mem_map.2 ⟨i,hi,rfl⟩)) (by rw[Xv];exact e2) [] (fun s' a' w' β' li p1 p2 p3 p4 p5 p6=>nL (P:=P) (a0:=a0) (S:=Ext w') (Q:=NoPanic Q) (by simpa[chk] using p5) (e3 a1 w1 β1 g3 s' a' w' β' p1 p2 p3) 0) listed g4 (by simpa using g5) (by simpa using g6) a1 w1 β1 g3
   simpa using this) (Array.replicate os.size false) (by rw[hos];exact Dn0) (by rw[hos,←ho];exact hc) (.inl (by rw[←ho];exact hfr)) a w.drew β r0
  rw[hos,←ho,hlen] at this
  exact this
theorem aZz {a0:Option Nat}{n:Nat}:iD a0 (Array.replicate n false)=true:=by
 cases a0 with
 |none=>rfl
 |some b=>
  simp only[iD,Bool.not_eq_true']
  rw[Array.getD_eq_getD_getElem?,Array.getElem?_replicate]
  split<;>rfl
theorem bGf (hE:E.fr=[])(hP:E.prm=[])(G:Good P g Y TI FZ)(hm:P.follows .mixedOrders=true){os:Array Oper}{id:Nat}{kb:Bool}{f a0:Option Nat}{ord:List (Nat×Bool)}{Q:Exit→Act→World→Prop}{D:Nat→Prop}{s:St U}{z:α}{N:St U→Option α}
  (hD:∀o∈os.toList,∀n,Wr os.toList o n→D n) (hc:aEm os f a0 ord=true) (h:Xd Y TI FZ os.toList a0 (bif kb then some (len s.m.o,s.m.k) else none) ord f true true (wpe os.toList f s) N=some z)
  (hN:∀s' a w β,Ag D s s'→N s'=some z→aZ Y.C E s' a w β→Q .normal a w) {a:Act} {w:World} {β:List Tr} (r:aZ Y.C E s a w β):(Code.region id os true).wp P Q a w:=by
 have hos:os.toList.toArray=os:=by simp
 have hmem:∀i∈ord,∀o,os.toList[i.1]? =some o→∀n,Wr os.toList o n→D n:=fun i _ o ho=>hD o (List.mem_of_getElem? ho)
 have r0:aZ Y.C E s a w.drew β:=r.ext (Ext.drew w)
 simp only[aEm,Bool.and_eq_true,bC] at hc
 obtain⟨hs,hlen,hcf⟩:=hc
 have hlen:=Nat.eq_of_beq_eq_true hlen
 have hsm:(wpe os.toList f s).m=s.m:=by
  unfold wpe
  cases f with
  |none=>rfl
  |some j=>
   simp only
   cases nth os.toList j with
   |none=>rfl
   |some o=>simp only;cases o.dst<;>rfl
 have r1:aZ Y.C E (wpe os.toList f s) a w.drew β:=by
  unfold wpe
  cases f with
  |none=>exact r0
  |some j=>
   simp only
   cases nth os.toList j with
   |none=>exact r0
   |some o=>exact r0.aCR
 have hag:Ag D s (wpe os.toList f s):=by
  unfold wpe
  cases f with
  |none=>exact Ag.refl s
  |some j=>
   simp only[aP]
   cases ho:os.toList[j]? with
   |none=>exact Ag.refl s
   |some o=>exact(Ag.refl s).put (fun n e=>hD o (List.mem_of_getElem? ho) n (.inl e))
 have main:∀(E':Env U g) (kd:Option (Nat×Nat)),E'.prm=[]→Lk E' kd true true w.drew w.drew→aZ Y.C E' (wpe os.toList f s) a w.drew β→(∀s' a w β,aZ Y.C E' s' a w β→aZ Y.C E s' a w β)→Xd Y TI FZ os.toList a0 kd ord f true true (wpe os.toList f s) N=some z→(Code.region id os true).wp P Q a w:=fun E' kd hP' hl r' hback h=>by
  refine wp_region_noPanic (wp_region_any hm (kQ (a0:=a0) (S:=Ext w.drew) _ _ _ _ ?_))
  have hQ:∀s' a w β,Ag D (wpe os.toList f s) s'→N s'=some z→aZ Y.C E' s' a w β→Q .normal a w:=fun s' a w β g1 g2 g3=>hN s' a w β (hag.trans g1) g2 (hback s' a w β g3)
  cases f with
  |none=>
   have:=aPk (E:=E') G (al:=os.toList) (a0:=a0) (kd:=kd) (Q:=Q) (D:=D) (by rw[hos];exact hs) ord true true _ N z hmem h hQ (Array.replicate os.size false) (by rw[hos];exact Dn0) (by rw[hos];exact hcf) aZz a w.drew β w.drew hl r'
   rw[hos,hlen] at this;exact this
  |some j=>
   simp only[Bool.and_eq_true,bne_iff_ne,ne_eq] at hcf
   obtain⟨hja,hcf⟩:=hcf
   split at hcf
   ·rename_i oj hj
    have:=aZs (E:=E') G (al:=os.toList) (a0:=a0) (kd:=kd) (Q:=Q) (D:=D) (by rw[hos];exact hs) hP' (j:=j) (oj:=oj) (by simpa using hj) hja ord true true _ N z hmem h hQ (Array.replicate os.size false) (by rw[hos];exact Dn0) (by rw[hos];exact hcf) aZz a w.drew β w.drew hl r'
    rw[hos,hlen] at this;exact this
   ·cases hcf
 cases kb with
 |false=>exact main E none hP ⟨fun _ _ h=>(by cases h),fun _=>rfl,fun _=>rfl,fun _=>Ext.refl _⟩ r1 (fun _ _ _ _ h=>h) h
 |true=>
  have hf:=r1.frame hP
  rw[hsm] at hf
  exact main (E.frm [(w.drew,s.m.o.length,s.m.k)]) (some (s.m.o.length,s.m.k)) hP ⟨fun n k h=>(by cases h;exact List.mem_cons_self),fun _=>rfl,fun h=>(by cases h),fun _=>Ext.refl _⟩ hf (fun _ _ _ _ h=>h.aBX hE) (by rw[bC] at h;exact h)
theorem bJz (G:Good P g Y TI FZ)(hm:P.follows .mixedOrders=true){os:Array Oper}{id:Nat}{bs:List Nat}{ord:List (Nat×Bool)}{Q:Exit→Act→World→Prop}{D:Nat→Prop}{s:St U}{z:α}{N:St U→Option α}
  (hD:∀o∈os.toList,∀n,Wr os.toList o n→D n) (hc:aEm os none none ord=true) (h:aVo Y TI FZ os.toList bs ord s N=some z)
  (hN:∀s' a w β,Ag D s s'→N s'=some z→aZ Y.C E s' a w β→Q .normal a w) {a:Act} {w:World} {β:List Tr} (r:aZ Y.C E s a w β):(Code.region id os true).wp P Q a w:=by
 have hos:os.toList.toArray=os:=by simp
 have r0:aZ Y.C E s a w.drew β:=r.ext (Ext.drew w)
 simp only[aEm,Bool.and_eq_true,bC] at hc
 obtain⟨hs,hlen,hcf⟩:=hc
 have hlen:=Nat.eq_of_beq_eq_true hlen
 let Yb:Nat→Prop:=fun k=>∃b∈bs,∃t,β[b]? =some t∧t.b=some k
 refine wp_region_noPanic (wp_region_any hm (kQ (a0:=none) (S:=Bel Yb w.drew) _ _ _ _ ?_))
 have:=Dw (E:=E) G (al:=os.toList) (Q:=Q) (D:=D) (by rw[hos];exact hs) (bs:=bs) (Yb:=Yb) (wS:=w.drew) ord s N z (fun i _ o ho=>hD o (List.mem_of_getElem? ho)) h hN (Array.replicate os.size false) (by rw[hos];exact Dn0) (by rw[hos];exact hcf) a w.drew β (Bel.refl _) (fun b e t k h1 h2 h3 h4=>⟨fun hb=>⟨b,hb,t,h3,h4⟩,fun hb=>⟨fun⟨b',k1,t',k2,k3⟩=>r0.hp.dist b b' t t' k (fun e=>hb (e▸k1)) h3 k2 (Tr.root h4) (Tr.root k3),(r0.hp.new b t k h3 (Tr.root h4)).2⟩⟩) r0
 rw[hos,hlen] at this;exact this
theorem aUh {al:List Oper}{s:St U}:∀{fs:List Nat},(wpl al s fs).m=s.m
 |[]=>rfl
 |j::fs=>by
  have e:wpl al s (j::fs)=(match nth al j with|some o=>EV.put (wpl al s fs) o.dst (.l .any)|none=>wpl al s fs):=rfl
  rw[e]
  cases nth al j with
  |none=>exact aUh
  |some o=>rw[aZu];exact aUh
theorem aNp {al:List Oper}{s:St U}{a:Act}{w:World}{β:List Tr}(r:aZ Y.C E s a w β):∀{fs:List Nat},aZ Y.C E (wpl al s fs) a w β
 |[]=>r
 |j::fs=>by
  have e:wpl al s (j::fs)=(match nth al j with|some o=>EV.put (wpl al s fs) o.dst (.l .any)|none=>wpl al s fs):=rfl
  rw[e]
  cases nth al j with
  |none=>exact aNp r
  |some o=>exact(aNp r).aCR
theorem aR7 {al:List Oper}{s:St U}{D:Nat→Prop}(hD:∀o∈al,∀n,Wr al o n→D n):∀{fs:List Nat},Ag D s (wpl al s fs)
 |[]=>Ag.refl s
 |j::fs=>by
  have e:wpl al s (j::fs)=(match nth al j with|some o=>EV.put (wpl al s fs) o.dst (.l .any)|none=>wpl al s fs):=rfl
  rw[e,aP]
  cases ho:al[j]? with
  |none=>exact aR7 hD
  |some o=>exact(aR7 hD).put (fun n e=>hD o (List.mem_of_getElem? ho) n (.inl e))
theorem bGg (hE:E.fr=[])(hP:E.prm=[])(G:Good P g Y TI FZ)(hm:P.follows .mixedOrders=true){os:Array Oper}{id f:Nat}{bs fs:List Nat}{ord:List (Nat×Bool)}{Q:Exit→Act→World→Prop}{D:Nat→Prop}{s:St U}{z:α}{N:St U→Option α}
  (hD:∀o∈os.toList,∀n,Wr os.toList o n→D n) (hs:Region.noSelect os=true) (hc:aB3 os f fs [] ord (Array.replicate os.size false)=true) (hbx:bxs bs s.m.o=true) (h:zN Y TI FZ os.toList bs (some (len s.m.o,s.m.k)) ord fs true (wpl os.toList s fs) N=some z)
  (hN:∀s' a w β,Ag D s s'→N s'=some z→aZ Y.C E s' a w β→Q .normal a w) {a:Act} {w:World} {β:List Tr} (r:aZ Y.C E s a w β):(Code.region id os true).wp P Q a w:=by
 have hos:os.toList.toArray=os:=by simp
 have r0:aZ Y.C E (wpl os.toList s fs) a w.drew β:=(aNp r).ext (Ext.drew w)
 have hag:Ag D s (wpl os.toList s fs):=aR7 hD
 let Yb:Nat→Prop:=fun k=>∃b∈bs,∃t,β[b]? =some t∧t.b=some k
 obtain⟨ps,p1,p2⟩:=aPl r0.hp bs (by rw[aUh];exact hbx)
 have r1:aZ Y.C ((E.pinned ps).frm [(w.drew,s.m.o.length,s.m.k)]) (wpl os.toList s fs) a w.drew β:=by
  have:=(r0.pins p1).frame (show(E.pinned ps).prm=[] from hP)
  rw[aUh] at this;exact this
 have r2:aZ Y.C (((E.pinned ps).frm [(w.drew,s.m.o.length,s.m.k)]).ahs (M0 []) (by simp[M0])) (wpl os.toList s fs) a w.drew β:=r1.aCY
 refine wp_region_noPanic (wp_region_any hm (kQ (a0:=none) (S:=Bel Yb w.drew) _ _ _ _ ?_))
 rw[bC] at h
 have:=aR5 (E:=(E.pinned ps).frm [(w.drew,s.m.o.length,s.m.k)]) G (al:=os.toList) (Q:=Q) (D:=D) (by rw[hos];exact hs) hP (bs:=bs) (Yb:=Yb) (wS:=w.drew) (fun b hb=>by
  obtain⟨t,k,q1,q2,q3⟩:=p2 b hb
  exact⟨k,⟨b,hb,t,q1,q2⟩,List.mem_append.2 (.inl q3)⟩) (kd:=some (s.m.o.length,s.m.k)) (fun n k h=>by cases h;exact List.mem_cons_self) f fs [] ord fs true (wpl os.toList s fs) N z (fun i _ o ho=>hD o (List.mem_of_getElem? ho)) h (fun s' a w β g1 g2 g3=>hN s' a w β (hag.trans g1) g2 (g3.aBX hE).aCQ) (fun _ h=>h) (by simp) (by simp) (by simp) (Array.replicate os.size false) (by rw[hos];exact Dn0) (by rw[hos];exact hc) a w.drew β (by simp[M0]) (Bel.refl _) (fun _=>⟨rfl,fun k ⟨b,hb,t,ht,hk⟩=>bF0 ht (Tr.root hk),fun b e t k h1 h2 h3 h4=>⟨fun hb=>⟨b,hb,t,h3,h4⟩,fun hb=>⟨fun⟨b',k1,t',k2,k3⟩=>r0.hp.dist b b' t t' k (fun e=>hb (e▸k1)) h3 k2 (Tr.root h4) (Tr.root k3),(r0.hp.new b t k h3 (Tr.root h4)).2⟩⟩,rfl⟩) (by simp) r2
 rw[hos,show cntF (Array.replicate os.size false)=os.size by simp[cntF]] at this;exact this
theorem M3 (hE:E.fr=[])(hP:E.prm=[])(G:Good P g Y TI FZ)(hm:P.follows .mixedOrders=true)(id:Nat)(os:Array Oper)(d:Bool)(an:An){α:Type}(s:St U)(N:St U→Option α)(X:Nat→St U→Option α)(R:St U→Option α)(z:α)(D:Nat→Prop)(hD:∀o∈os.toList,∀n,Wr os.toList o n→D n)(hA:AW D an)(h:rgn Y TI FZ os.toList os d an s N=some z):Snd P Y E D (.region id os d) s z N X R:=by
 intro Q hN hX hR a w β r
 have hos:os.toList.toArray=os:=by simp
 have plain:∀an,(bif d then(match J8 FZ os.toList os an with|some l=>Xa Y TI FZ os.toList l s N|none=>none) else ops Y TI FZ os.toList os.toList s N)=some z→(Code.region id os d).wp P Q a w:=fun an h=>by
  cases d with
  |false=>
   refine wp_region_list ?_
   have:=Nq G (E:=E) (al:=os.toList) (Q:=Q) (D:=D) os.toList s N z hD h [] (fun s' a w β g1 g2 g3=>wpList_nil (hN s' a w β g1 g2 g3)) a w β r
   rw[List.append_nil,hos] at this;exact this
  |true=>
   simp only[cond_true] at h
   cases ho:J8 FZ os.toList os an with
   |none=>rw[ho] at h;cases h
   |some l=>
    rw[ho] at h
    exact aZy G hm (l1:=l) (l2:=[]) (α2:=α) (D2:=D) ho (by simp) hD h (fun s1 g1 g2=>⟨N,z,fun i hi=>by simp at hi,g2,fun a1 w1 β1 _ s' a' w' β' p1 p2 p3=>hN s' a' w' β' (g1.trans p1) p2 p3⟩) r
 cases an with
 |rj k tm a'=>
  cases d with
  |false=>
   replace h:ops Y TI FZ os.toList (tk os.toList k) s (fun s1=>bif wrG tm.ws os.toList (drp os.toList k) then bd (ops Y TI FZ os.toList (drp os.toList k) s1 fun s'=>col Y s1 tm s') fun d=>N (reb Y s1 tm d) else none)=some z:=h
   refine wp_region_list ?_
   have:=Nq G (E:=E) (al:=os.toList) (Q:=Q) (D:=D) (tk os.toList k) s _ z (fun o ho=>hD o (by rw[aKy] at ho;exact List.mem_of_mem_take ho)) h (drp os.toList k) (fun s1 a1 w1 β1 g1 g2 g3=>by
    cases hb:wrG tm.ws os.toList (drp os.toList k) with
    |false=>rw[hb] at g2;cases g2
    |true=>
     rw[hb] at g2
     simp only[cond_true] at g2
     obtain⟨d,k1,k2⟩:=gZ g2
     have:=Nq G (E:=E) (al:=os.toList) (Q:=Q) (D:=fun n=>Dc tm.ws 0 n=true) (drp os.toList k) s1 _ d (Xo hb) k1 [] (fun s' a' w' β' p1 p2 p3=>wpList_nil (by
      obtain⟨β'',r''⟩:=uW hE g3 p3 p1 p2
      obtain⟨_,_,_,hs,_⟩:=Dv p2
      exact hN _ _ _ _ (g1.trans ((L9 hs).mono hA)) k2 r'')) a1 w1 β1 g3
     rw[List.append_nil] at this;exact this) a w β r
   rw[aZx,hos] at this;exact this
  |true=>
   replace h:(match J8 FZ os.toList os a' with|some l=>Xa Y TI FZ os.toList (tk l k) s (fun s1=>bif wrG tm.ws os.toList (aEl os.toList (drp l k)) then bd (Xa Y TI FZ os.toList (drp l k) s1 fun s'=>col Y s1 tm s') fun d=>N (reb Y s1 tm d) else none)|none=>none)=some z:=h
   cases ho:J8 FZ os.toList os a' with
   |none=>rw[ho] at h;cases h
   |some l=>
    rw[ho] at h
    refine aZy G hm (l1:=tk l k) (l2:=drp l k) (α2:=Dat U tm.it) (D2:=fun n=>Dc tm.ws 0 n=true) ho (aZx l k).symm hD h (fun s1 g1 g2=> ?_) r
    cases hb:wrG tm.ws os.toList (aEl os.toList (drp l k)) with
    |false=>rw[hb] at g2;cases g2
    |true=>
     rw[hb] at g2
     simp only[cond_true] at g2
     obtain⟨d,k1,k2⟩:=gZ g2
     refine⟨_,d,fun i hi o hio=>Xo hb o (aLt hi hio),k1,fun a1 w1 β1 r1 s' a2 w2 β2 p1 p2 p3=> ?_⟩
     obtain⟨β'',r''⟩:=uW hE r1 p3 p1 p2
     obtain⟨_,_,_,hs,_⟩:=Dv p2
     exact hN _ _ _ _ (g1.trans ((L9 hs).mono hA)) k2 r''
 |y kb f a0 ord=>
  cases d with
  |false=>cases h
  |true=>
   replace h:(bif true&&aEm os f a0 ord then Xd Y TI FZ os.toList a0 (bif kb then some (len s.m.o,s.m.k) else none) ord f true true (wpe os.toList f s) N else none)=some z:=h
   cases hc:aEm os f a0 ord with
   |false=>rw[hc] at h;cases h
   |true=>
    rw[hc] at h
    exact bGf hE hP G hm hD hc h hN r
 |w bs ord=>
  replace h:none=some z:=h
  cases h
 |v bs ord=>
  replace h:none=some z:=h
  cases h
 |u bs fs ord=>
  cases d with
  |false=>cases h
  |true=>
   replace h:(bif true&&(Region.noSelect os&&(aB3 os (Nat.succ (Nat.add (len ord) (len ord))) fs [] ord (Array.replicate os.size false)&&bxs bs s.m.o)) then zN Y TI FZ os.toList bs (some (len s.m.o,s.m.k)) ord fs true (wpl os.toList s fs) N else none)=some z:=h
   cases hc:(Region.noSelect os&&(aB3 os (Nat.succ (Nat.add (len ord) (len ord))) fs [] ord (Array.replicate os.size false)&&bxs bs s.m.o)) with
   |false=>rw[hc] at h;cases h
   |true=>
    rw[hc] at h
    simp only[Bool.and_eq_true] at hc
    exact bGg hE hP G hm hD hc.1 hc.2.1 hc.2.2 h hN r
 |n=>exact plain .n h
 |s x y=>exact plain (.s x y) h
 |j t x=>exact plain (.j t x) h
 |jx t x=>exact plain (.jx t x) h
 |l t f x=>exact plain (.l t f x) h
 |r a0 o=>exact plain (.r a0 o) h
 |z o=>exact plain (.z o) h
 |il i a b=>exact plain (.il i a b) h
 |pl a=>exact plain (.pl a) h
end
end Go.EV

namespace Go.EV
open Go.RowKit Go.VK
variable {U:Uni} {Y:Lay U} {TI:List (Nat×TInfo)} {FZ:List (Nat×Sum U)} {P:Program} {g:GI} {E:Env U g}
section
variable {s:St U} {a:Act} {w w0:World} {β:List Tr}
theorem aWc (hti:pM P TI=true)(r:aZ Y.C E s a w β){x:ResultVar}{y:Sv U}(h:bCo TI s x=some y):∃v,(Wu P w a.tmps x).run P w= .ok v w∧y.mean Y.C w (E.X β) β s.m v:=by
 cases x with
 |tmp n=>exact⟨_,by simp[Wu],r.tm n y (by rw[←aP];exact h)⟩
 |cell c t=>
  simp only[bCo] at h
  split at h
  ·rename_i b i h1 h2
   have hl:load Y s i (.box b 0)=some y:=h
   have hmb:(Lf.box b 0:Lf U).mean Y.C w (E.X β) β s.m (a.tmps.getD c undef):=r.tm c (.l (.box b 0)) (by rw[←aP];exact h1)
   obtain⟨p,v',k1,k2,k3⟩:=aK1 r (bH hti h2) hmb hl
   exact⟨v',by simp only[Wu,k1,asAddr,Sem.run_bind,Sem.run_pure,Result.andThen_ok,k2 w (Ext.refl w)],k3⟩
  ·cases h
theorem vN (hti:pM P TI=true)(r:aZ Y.C E s a w β):∀{l:List ResultVar} {xs:List (Sv U)},Rf TI s l=some xs→∃vs:List Value,(l.mapM (Wu P w a.tmps)).run P w= .ok vs w∧vs.length=xs.length∧∀(i:Nat) (v:Value) (x:Sv U),vs[i]? =some v→xs[i]? =some x→x.mean Y.C w (E.X β) β s.m v
 |[],xs,h=>by
  have:=Option.some.inj h;subst this
  exact⟨[],rfl,rfl,by simp⟩
 |x::l,xs,h=>by
  simp only[Rf] at h
  cases h1:bCo TI s x with
  |none=>rw[h1] at h;cases h
  |some y=>
   cases h2:Rf TI s l with
   |none=>rw[h1,h2] at h;cases h
   |some ys=>
    rw[h1,h2] at h
    have:=Option.some.inj h;subst this
    obtain⟨v,k1,k2⟩:=aWc hti r h1
    obtain⟨vs,k3,k4,k5⟩:=vN hti r h2
    refine⟨v::vs,by simp[List.mapM_cons,k1,k3],by simp[k4],fun i v' W q1 q2=> ?_⟩
    cases i with
    |zero=>simp at q1 q2;subst q1;subst q2;exact k2
    |succ i=>exact k5 i v' W (by simpa using q1) (by simpa using q2)
theorem xM {fn:Func}{l:List ResultVar}(hf:fn.results=l.toArray){vs:List Value}(h:(l.mapM (Wu P w a.tmps)).run P w= .ok vs w):(results fn a.tmps).run P w= .ok (if h:vs.toArray.size=1 then vs.toArray[0] else .tuple vs.toArray) w:=by
 have e1:results fn a.tmps=(do
   let vs←fn.results.mapM (Wu P w a.tmps)
   pure (if h:vs.size=1 then vs[0] else .tuple vs)):=rfl
 rw[e1,hf,List.mapM_toArray]
 simp only[Sem.run_bind,Sem.run_map,h,Result.andThen_ok,Sem.run_pure]
end
section
def pQ (P:Program)(IL:Il):Prop:=∀(f:Nat) (c:Code) (n:Nat) (rv:List ResultVar),iP IL f=some (c,n,rv)→∃fn,P.funcs[f]? =some fn∧fn.body=some c∧fn.ntmps=n∧fn.results=rv.toArray∧∀args w,(callFunc f args).run P w= .ok (.enter f args) w
theorem bGh:pQ P []:=fun _ _ _ _ h=>by cases h
theorem M4 {IL:Il}{f:Nat}{c:Code}{n:Nat}{rv:List ResultVar}{fn:Func}(hf:P.funcs[f]? =some fn)(hb:fn.body=some c)(hn:fn.ntmps=n)(hl:fn.results=rv.toArray)(hE:∀args w,(callFunc f args).run P w= .ok (.enter f args) w)(h:pQ P IL):pQ P ((f,c,n,rv)::IL):=fun f' c' n' rv' h'=>by
 have h':cond (Nat.beq f f') (some (c,n,rv)) (iP IL f')=some (c',n',rv'):=h'
 cases hb':Nat.beq f f' with
 |true=>
  rw[hb'] at h'
  have e:=Option.some.inj h'
  injection e with e1 e2
  injection e2 with e2 e3
  subst e1;subst e2;subst e3
  have:=Nat.eq_of_beq_eq_true hb';subst this
  exact⟨fn,hf,hb,hn,hl,hE⟩
 |false=>rw[hb'] at h';exact h f' c' n' rv' h'
def bJ0 (s:St U)(a:Act):List (Sv U×Value):=s.t.zipIdx.map fun p=>(p.1,a.tmps.getD p.2 undef)
theorem aLv {C:Cod U}{w:World}{X:Nat→Prop}{β:List Tr}{m:Mm U}:∀{ys:List (Sv U)} {l:List (Bool×List (Lf U))} {vs:List Value},aRp ys=some l→vs.length=ys.length→(∀(i:Nat) (v:Value) (x:Sv U),vs[i]? =some v→ys[i]? =some x→x.mean C w X β m v)→vs.length=l.length∧∀(i:Nat) (v:Value) (x:Bool×List (Lf U)),vs[i]? =some v→l[i]? =some x→Mp C w X β m v x
 |[],l,vs,h,hl,_=>by
  have:=Option.some.inj h;subst this
  exact⟨hl,fun i v x _ h=>by simp at h⟩
 |y::ys,l,[],h,hl,_=>by simp at hl
 |y::ys,l,v::vs,h,hl,hm=>by
  simp only[aRp] at h
  cases h1:sv2 y with
  |none=>rw[h1] at h;cases h
  |some p=>
   cases h2:aRp ys with
   |none=>rw[h1,h2] at h;cases h
   |some ps=>
    rw[h1,h2] at h
    have:=Option.some.inj h;subst this
    obtain⟨k1,k2⟩:=aLv h2 (by simpa using hl) (fun i v x p q=>hm (i+1) v x (by simpa using p) (by simpa using q))
    refine⟨by simp[k1],fun i u x p' q=> ?_⟩
    cases i with
    |zero=>
     simp at p' q;subst p';subst q
     have h0:=hm 0 v y rfl rfl
     cases y with
     |l x=>have:=Option.some.inj h1;subst this;exact⟨x,rfl,h0⟩
     |a cs=>have:=Option.some.inj h1;subst this;exact h0
     |t xs=>cases h1
    |succ i=>exact k2 i u x (by simpa using p') (by simpa using q)
theorem aWd {C:Cod U}{w:World}{X:Nat→Prop}{β:List Tr}{m:Mm U}{ys:List (Sv U)}{y:Sv U}{vs:List Value}(h:bFy ys=some y)(hl:vs.length=ys.length)(hm:∀(i:Nat) (v:Value) (x:Sv U),vs[i]? =some v→ys[i]? =some x→x.mean C w X β m v):y.mean C w X β m (if h:vs.toArray.size=1 then vs.toArray[0] else .tuple vs.toArray):=by
 match ys,vs,h,hl,hm with
 |[x],[v],h,_,hm=>
  have:=Option.some.inj h;subst this
  exact hm 0 v x rfl rfl
 |[],[],h,_,_=>
  have:=Option.some.inj h;subst this
  exact⟨[],rfl,rfl,fun i v x h=>by simp at h⟩
 |x::x'::xs,v::v'::vs,h,hl,hm=>
  replace h:(match aRp (x::x'::xs) with|some l=>some (Sv.t l)|none=>none)=some y:=h
  cases h1:aRp (x::x'::xs) with
  |none=>rw[h1] at h;cases h
  |some l=>
   rw[h1] at h
   have:=Option.some.inj h;subst this
   rw[dif_neg (by simp)]
   obtain⟨k1,k2⟩:=aLv h1 hl hm
   exact⟨_,rfl,k1,k2⟩
variable {IL:Il} {α:Type} {EV:An→Code→St U→(St U→Option α)→Option α}
def aB8 (P:Program)(Y:Lay U)(g:GI)(EV:An→Code→St U→(St U→Option α)→Option α):Prop:=∀(E:Env U g),E.fr=[]→E.prm=[]→∀(an:An) (c:Code) (s:St U) (K:St U→Option α) (z:α),EV an c s K=some z→Snd P Y E (fun _=>True) c s z K (fun _ _=>none) K
theorem aZ0 (G:Good P g Y TI FZ)(hI:pQ P IL)(hEV:aB8 P Y g EV)(hE:E.fr=[])(hP:E.prm=[]){s:St U}{a:Act}{w:World}{β:List Tr}(r:aZ Y.C E s a w β){al:List Oper}{o:Oper}{an:An}{K:St U→Option α}{z:α}(h:inl TI IL EV an o s K=some z){K':Act→World→Prop}{Q:Exit→Act→World→Prop}
  (hk:∀s' a' w' β',Ag (Wr al o) s s'→K s'=some z→aZ Y.C E s' a' w' β'→K' a' w'):o.wp P a w K' Q:=by
 unfold inl at h
 split at h
 ·rename_i f xa ats ho
  cases hf:iP IL f with
  |none=>rw[hf] at h;cases h
  |some p=>
   obtain⟨c,n,rv⟩:=p
   rw[hf] at h
   simp only at h
   cases hb:Nat.ble (len xa.toList) n with
   |false=>rw[hb] at h;cases h
   |true=>
    rw[hb] at h
    simp only[cond_true] at h
    have hlen:xa.toList.length≤n:=by have:=Nat.le_of_ble_eq_true hb;rwa [bC] at this
    obtain⟨fn,f1,f2,f3,f4,f5⟩:=hI f c n rv hf
    let E':Env U g:=E.pinned (bJ0 s a)
    have hX:∀β,E'.X β=E.X β:=fun _=>rfl
    have H':Hp Y.C E' s.m β w:=⟨r.hp.ext,r.hp.len,r.hp.vers,r.hp.cnt,r.hp.new,r.hp.dist,r.hp.nd,r.hp.ok,fun x hx=>by
     rcases List.mem_append.1 hx with hx|hx
     ·obtain⟨⟨y,m⟩,hy,rfl⟩:=List.mem_map.1 hx
      exact r.tm m y (by simpa using List.mem_zipIdx_iff_getElem?.1 hy)
     ·exact r.hp.pin x hx,r.hp.prm,r.hp.fr⟩
    have r':aZ Y.C E' ⟨xa.toList.map (dP s)++List.replicate (n-len xa.toList) (.l .any),s.m,s.fr⟩ {tmps:=(xa.toList.map a.eval).toArray++Array.replicate (fn.ntmps-(xa.toList.map a.eval).toArray.size) undef,defers:=[]} w β:=by
     refine⟨H',rfl,?_,fun m x hx=> ?_⟩
     ·simp only[bC,List.length_append,List.length_map,List.length_replicate,Array.size_append,List.size_toArray,Array.size_replicate,f3]
     ·by_cases hm:m<xa.toList.length
      ·rw[List.getElem?_append_left (by rw[List.length_map];exact hm)] at hx
       have h1:(xa.toList.map a.eval)[m]? =some ((xa.toList.map a.eval)[m]'(by rw[List.length_map];exact hm)):=List.getElem?_eq_getElem _
       obtain⟨y,e1,e2⟩:=Af (s:=s) (a:=a) m _ x h1 hx
       have hv:((xa.toList.map a.eval).toArray++Array.replicate (fn.ntmps-(xa.toList.map a.eval).toArray.size) undef).getD m undef=a.eval y:=by
        rw[←e1,Array.getD_eq_getD_getElem?,Array.getElem?_append_left (by simpa using hm)]
        simp[h1]
       show x.mean Y.C w (E'.X β) β s.m (((xa.toList.map a.eval).toArray++Array.replicate (fn.ntmps-(xa.toList.map a.eval).toArray.size) undef).getD m undef)
       rw[hv,e2]
       exact vH r
      ·rw[List.getElem?_append_right (by rw[List.length_map];omega)] at hx
       have:=List.mem_of_getElem? hx
       simp at this
       rw[this.2];trivial
    let R':Value→World→Prop:=fun v w'=>∃(y:Sv U) (s':St U) (β':List Tr),K (put ⟨s.t,s'.m,s.fr⟩ o.dst y)=some z∧aZ Y.C E ⟨s.t,s'.m,s.fr⟩ a w' β'∧y.mean Y.C w' (E.X β') β' s'.m v∧Am s.m s'.m
    have done:∀s' a' w' β',Ag (fun _=>True) ⟨xa.toList.map (dP s)++List.replicate (n-len xa.toList) (.l .any),s.m,s.fr⟩ s'→(match Rf TI s' rv with
      |some ys=>match bFy ys with
       |some y=>K (put ⟨s.t,s'.m,s.fr⟩ o.dst y)
       |none=>none
      |none=>none)=some z→aZ Y.C E' s' a' w' β'→a'.defers=[]∧∃v,(results fn a'.tmps).run P w'= .ok v w'∧∃v',Ending.returned v= .returned v'∧R' v' w':=fun s' a' w' β' hag hq r2=>by
     split at hq
     ·rename_i ys hys
      split at hq
      ·rename_i y hy
       obtain⟨vs,k1,k2,k3⟩:=vN G.ti r2 hys
       refine⟨r2.defers,_,xM f4 k1,_,rfl,y,s',β',hq,?_,aWd hy k2 k3,hag.m⟩
       have hp:Hp Y.C E s'.m β' w':=⟨r2.hp.ext,r2.hp.len,r2.hp.vers,r2.hp.cnt,r2.hp.new,r2.hp.dist,r2.hp.nd,r2.hp.ok,fun x hx=>r2.hp.pin x (List.mem_append.2 (.inr hx)),r2.hp.prm,r2.hp.fr⟩
       exact⟨hp,r.defers,r.tsz,fun m x hx=>r2.hp.pin (x,a.tmps.getD m undef) (List.mem_append.2 (.inl (List.mem_map.2 ⟨(x,m),List.mem_zipIdx_iff_getElem?.2 hx,rfl⟩)))⟩
      ·cases hq
     ·cases hq
    have hc:Calls P f (xa.toList.map a.eval).toArray w fun e w'=>∃v,e= .returned v∧R' v w':=by
     refine calls_of_wp f1 f2 ?_
     exact hEV E' hE hP an c _ _ z h _ (fun s' a' w' β' hg hq r2=>done s' a' w' β' hg hq r2) (fun i s' a' w' β' _ hq _=>by cases hq) (fun s' a' w' β' hg hq r2=>done s' a' w' β' hg hq r2) _ _ _ r'
    refine wpc (vL ho f5) hc ?_
    rintro v w' ⟨y,s',β',k1,k2,k3,k4⟩
    exact hk (put ⟨s.t,s'.m,s.fr⟩ o.dst y) _ w' β' (Ag.put (s:=s) (s':=⟨s.t,s'.m,s.fr⟩) ⟨fun _ _=>rfl,rfl,rfl,k4⟩ (fun n e=> .inl e)) k1 (k2.put fun _=>k3)
 ·cases h
theorem aE7 (G:Good P g Y TI FZ)(hI:pQ P IL)(hEV:aB8 P Y g EV)(hE:E.fr=[])(hP:E.prm=[]){s:St U}{a:Act}{w:World}{β:List Tr}(r:aZ Y.C E s a w β){al:List Oper}{i:Nat}{o:Oper}(ho:al[i]? =some o){l:List Nat}{an:An}{K:St U→Option α}{z:α}(h:ilr Y TI FZ IL EV al (i::l) an s K=some z):
  ∃an',ilo an'=ilo an∧∀(K':Act→World→Prop) (Q:Exit→Act→World→Prop),(∀s' a' w' β',Ag (Wr al o) s s'→ilr Y TI FZ IL EV al l an' s' K=some z→aZ Y.C E s' a' w' β'→(Nat.ble (uO FZ o.op) 1=true→Ext w w')→K' a' w')→if Region.wanted o (yielded al.toArray a.tmps)=true then o.wp P a w K' Q else K' (a.put o.dst undef) w:=by
 have plain:∀an',ilo an'=ilo an→grd Y TI FZ al o s (fun s'=>ilr Y TI FZ IL EV al l an' s' K)=some z→∃an',ilo an'=ilo an∧∀(K':Act→World→Prop) (Q:Exit→Act→World→Prop),(∀s' a' w' β',Ag (Wr al o) s s'→ilr Y TI FZ IL EV al l an' s' K=some z→aZ Y.C E s' a' w' β'→(Nat.ble (uO FZ o.op) 1=true→Ext w w')→K' a' w')→if Region.wanted o (yielded al.toArray a.tmps)=true then o.wp P a w K' Q else K' (a.put o.dst undef) w:=
  fun an' he h=>⟨an',he,fun K' Q hk=>aNj G r h hk⟩
 unfold ilr at h
 rw[aP,ho] at h
 cases an with
 |il k b q=>
  simp only at h
  cases hb:Nat.beq k i with
  |false=>rw[hb] at h;exact plain _ rfl h
  |true=>
   rw[hb] at h
   simp only[cond_true] at h
   cases hc:Nat.beq (uO FZ o.op) 2 with
   |false=>rw[hc] at h;cases h
   |true=>
    rw[hc] at h
    simp only[cond_true] at h
    have hc:=Nat.eq_of_beq_eq_true hc
    refine⟨q,rfl,fun K' Q hk=> ?_⟩
    obtain⟨s1,r1,h1,h2⟩:=Du r h
    rcases h2 with⟨hw,h2⟩|⟨hw,h2⟩
    ·rw[if_pos hw]
     exact aZ0 G hI hEV hE hP r1 (al:=al) h2 (fun s' a' w' β' q1 q2 q3=>hk s' a' w' β' (h1.trans q1) q2 q3 (fun hh=>by rw[hc] at hh;cases hh))
    ·rw[if_neg (by rw[hw];simp)]
     exact hk _ _ w β (h1.put (fun n e=> .inl e)) h2 (r1.put (x:= .l .und) (v:=undef) (fun _=>rfl)) (fun _=>Ext.refl w)
 |_=>exact plain _ rfl h
theorem bH3 (G:Good P g Y TI FZ)(hI:pQ P IL)(hEV:aB8 P Y g EV)(hE:E.fr=[])(hP:E.prm=[]){al:List Oper}{Q:Exit→Act→World→Prop}{D:Nat→Prop}:∀(n i:Nat) (an:An) (s:St U) (K:St U→Option α) (z:α),i+n=al.length→(∀o∈al,∀n,Wr al o n→D n)→ilr Y TI FZ IL EV al (rng n i) an s K=some z→
  (∀s' a w β,Ag D s s'→K s'=some z→aZ Y.C E s' a w β→Q .normal a w)→∀a w β,aZ Y.C E s a w β→wpList P al.toArray Q (al.drop i) a w
 |0,i,an,s,K,z,hn,hD,h,hQ,a,w,β,r=>by
  rw[List.drop_eq_nil_of_le (by omega)]
  exact wpList_nil (hQ s a w β (Ag.refl s) h r)
 |n+1,i,an,s,K,z,hn,hD,h,hQ,a,w,β,r=>by
  have hi:i<al.length:=by omega
  have ho:al[i]? =some al[i]:=List.getElem?_eq_getElem hi
  obtain⟨an',_,hk⟩:=aE7 G hI hEV hE hP r ho (l:=rng n (Nat.succ i)) h
  rw[List.drop_eq_getElem_cons hi]
  refine wpList_step fun K' hK'=>hk K' _ fun s' a' w' β' q1 q2 q3 _=>hK' _ _ ?_
  have q1':=q1.mono (hD _ (List.getElem_mem hi))
  exact bH3 G hI hEV hE hP n (i+1) an' s' K z (by omega) hD q2 (fun s2 a2 w2 β2 p1 p2 p3=>hQ s2 a2 w2 β2 (q1'.trans p1) p2 p3) a' w' β' q3
theorem bH4 (G:Good P g Y TI FZ)(hI:pQ P IL)(hEV:aB8 P Y g EV)(hE:E.fr=[])(hP:E.prm=[]){al:List Oper}{Q:Exit→Act→World→Prop}{D:Nat→Prop}:∀(l:List Nat) (an:An) (s:St U) (K:St U→Option α) (z:α),(∀o∈al,∀n,Wr al o n→D n)→ilr Y TI FZ IL EV al l an s K=some z→
  (∀s' a w β,Ag D s s'→K s'=some z→aZ Y.C E s' a w β→Q .normal a w)→∀listed,chz al.toArray l listed=true→∀a w β,aZ Y.C E s a w β→wpAny P .any al.toArray Q l.length listed a w
 |[],an,s,K,z,_,h,hQ,listed,hc,a,w,β,r=>⟨by simpa[chz] using hc,hQ s a w β (Ag.refl s) h r⟩
 |i::l,an,s,K,z,hD,h,hQ,listed,hc,a,w,β,r=>by
  replace hc:((Region.ready .any al.toArray listed==[i])&&chz al.toArray l (listed.setIfInBounds i true))=true:=hc
  simp only[Bool.and_eq_true,beq_iff_eq] at hc
  cases ho:al[i]? with
  |none=>
   have:(none:Option α)=some z:=by
    have h':=h
    unfold ilr at h'
    rw[aP,ho] at h';exact h'
   cases this
  |some o=>
   obtain⟨an',_,hk⟩:=aE7 G hI hEV hE hP r ho h
   have hg:al.toArray[i]? =some o:=by simpa using ho
   refine aRg hc.1 (wpOp_step hg fun K' hK'=>hk K' _ fun s' a' w' β' q1 q2 q3 _=>hK' _ _ ?_)
   have q1':=q1.mono (hD o (List.mem_of_getElem? ho))
   exact bH4 G hI hEV hE hP l an' s' K z hD q2 (fun s2 a2 w2 β2 p1 p2 p3=>hQ s2 a2 w2 β2 (q1'.trans p1) p2 p3) _ hc.2 a' w' β' q3
theorem aWe (G:Good P g Y TI FZ)(hI:pQ P IL)(hEV:aB8 P Y g EV)(hE:E.fr=[])(hP:E.prm=[]){s:St U}{a:Act}{w:World}{β:List Tr}(r:aZ Y.C E s a w β){al:List Oper}{i:Nat}{o:Oper}(ho:al[i]? =some o)(hc:uO FZ o.op=0){l:List Nat}{an:An}{K:St U→Option α}{z:α}(h:ilr Y TI FZ IL EV al (i::l) an s K=some z):
  ∃an',ilo an'=ilo an∧grd Y TI FZ al o s (fun s'=>ilr Y TI FZ IL EV al l an' s' K)=some z:=by
 unfold ilr at h
 rw[aP,ho] at h
 cases an with
 |il k b q=>
  simp only at h
  cases hb:Nat.beq k i with
  |false=>rw[hb] at h;exact⟨_,rfl,h⟩
  |true=>
   rw[hb] at h
   simp only[cond_true] at h
   rw[hc] at h;cases h
 |_=>exact⟨_,rfl,h⟩
theorem bGi (G:Good P g Y TI FZ)(hI:pQ P IL)(hEV:aB8 P Y g EV)(hE:E.fr=[])(hP:E.prm=[]){al:List Oper}{a0:Option Nat}(hs:Region.noSelect al.toArray=true){Q:Exit→Act→World→Prop}{D:Nat→Prop}:∀(l:List (Nat×Bool)) (an:An) (s:St U) (K:St U→Option α) (z:α),(∀o∈al,∀n,Wr al o n→D n)→ilr Y TI FZ IL EV al (l.map Prod.fst) an s K=some z→
  (∀s' a w β,Ag D s s'→K s'=some z→aZ Y.C E s' a w β→Q .normal a w)→
   ∀listed,Dn .any al.toArray listed→chk al.toArray a0 l listed=true→CG FZ al a0 l listed→∀a w β,aZ Y.C E s a w β→dL P .any al.toArray a0 (NoPanic Q) (Ext w) l.length listed a w
 |[],an,s,K,z,_,h,hQ,listed,hd,hc,hg,a,w,β,r=>nL (P:=P) (a0:=a0) (S:=Ext w) (Q:=NoPanic Q) (by simpa[chk] using hc) (hQ s a w β (Ag.refl s) h r) 0
 |(i,fl)::l,an,s,K,z,hD,h,hQ,listed,hd,hc,hcg,a,w,β,r=>by
  replace h:ilr Y TI FZ IL EV al (i::l.map Prod.fst) an s K=some z:=h
  cases ho:al[i]? with
  |none=>
   have:(none:Option α)=some z:=by
    have h':=h
    unfold ilr at h'
    rw[aP,ho] at h';exact h'
   cases this
  |some o=>
   have hg:al.toArray[i]? =some o:=by simpa using ho
   have hmem:=List.mem_of_getElem? ho
   cases fl with
   |true=>
    simp only[chk,Bool.and_eq_true] at hc
    have hfr:Nat.beq (uO FZ o.op) 0=true∧frees FZ al a0 l=true:=by
     rcases hcg with hcg|⟨_,hcg⟩
     ·have hcg':frees FZ al a0 ((i,true)::l)=true:=hcg
      simp only[frees,aP,ho,cond_true,Bool.and_eq_true] at hcg'
      exact hcg'
     ·exact absurd (Dy hcg).1 (by simp)
    have hc0:=Nat.eq_of_beq_eq_true hfr.1
    obtain⟨an',_,h⟩:=aWe G hI hEV hE hP r ho hc0 h
    obtain⟨v,s',h1,h2,h3,h4⟩:=bCx G r hc0 h
    have hD':=hd.set (by simpa using hc.1.1.2)
    have h4':=h4.mono (hD o hmem)
    refine Hq (i:=i) (oi:=o) (v:=v) hg hs hc.1.1.1 hc.1.1.2 hc.1.2 hd (fun _ _ _ h=>h) ?_ (Ext.refl w) ?_
    ·rcases h1 with⟨k1,k2⟩|⟨k1,k2⟩
     ·exact .inl ⟨k1,k2⟩
     ·exact .inr ⟨k1,k2⟩
    ·exact bGi G hI hEV hE hP hs l an' s' K z hD h3 (fun s2 a2 w2 β2 p1 p2 p3=>hQ s2 a2 w2 β2 (h4'.trans p1) p2 p3) _ hD' hc.2 (.inl hfr.2) _ w β h2
   |false=>
    replace hc:((Region.ready .any al.toArray listed==[i])&&(a0 !=some i|| !iD a0 (listed.setIfInBounds i true))&&chk al.toArray a0 l (listed.setIfInBounds i true))=true:=hc
    simp only[Bool.and_eq_true,beq_iff_eq] at hc
    have hD':=hd.set (i:=i) (by rw[hc.1.1];simp)
    have hcase:(Nat.ble (uO FZ o.op) 1=true∧frees FZ al a0 l=true)∨(iD a0 (listed.setIfInBounds i true)=false∧aA5 l=true):=by
     rcases hcg with hcg|⟨hn,hcg⟩
     ·have hcg':frees FZ al a0 ((i,false)::l)=true:=hcg
      simp only[frees,aP,ho,cond_false] at hcg'
      cases hb:Nat.ble (uO FZ o.op) 1 with
      |true=>rw[hb] at hcg';exact .inl ⟨rfl,hcg'⟩
      |false=>
       rw[hb] at hcg'
       simp only[cond_false,Bool.and_eq_true] at hcg'
       refine .inr ⟨?_,hcg'.2⟩
       cases a0 with
       |none=>exact absurd hcg'.1 (by simp)
       |some b=>
        have hbi:b=i:=Nat.eq_of_beq_eq_true hcg'.1
        subst hbi
        have:=hc.1.2
        simpa using this
     ·exact .inr ⟨Wt hn,(Dy hcg).2⟩
    obtain⟨an',_,hk⟩:=aE7 G hI hEV hE hP r ho h
    refine iQ hc.1.1 (by simp) (fun i' hi'=> ?_)
    simp at hi';subst hi'
    refine wpOp_step hg fun K' hK'=>hk K' _ fun s' a' w' β' q1 q2 q3 q4=>hK' _ _ ?_
    have q1':=q1.mono (hD o hmem)
    have cont:=fun hh=>bGi G hI hEV hE hP hs l an' s' K z hD q2 (fun s2 a2 w2 β2 p1 p2 p3=>hQ s2 a2 w2 β2 (q1'.trans p1) p2 p3) _ hD' hc.2 hh a' w' β' q3
    rcases hcase with⟨c1,c2⟩|⟨c1,c2⟩
    ·have hx:=q4 c1
     exact⟨fun _=>hx,rQ (fun x hx'=>Ext.trans hx hx') _ _ _ _ (cont (.inl c2))⟩
    ·exact⟨fun hn=>(by rw[c1] at hn;cases hn),nK _ _ _ _ c1 (cont (.inr ⟨c1,c2⟩))⟩
theorem bGj (G:Good P g Y TI FZ)(hI:pQ P IL)(hEV:aB8 P Y g EV)(hE:E.fr=[])(hP:E.prm=[]){s:St U}{a:Act}{w:World}{β:List Tr}{al:List Oper}{a0:Option Nat}{Q:Exit→Act→World→Prop}{i:Nat}{o:Oper}{n:Nat}{listed:Array Bool}{wS:World}(ho:al[i]? =some o){pre:Bool}(ha:a0Y a0 i listed=true)(hp:iD a0 listed=pre)(hpre:(pre&& !I8 a0 i)=false)
  {b:An} {K:St U→Option α} {z:α} (h:aI2 al o (fun s=>inl TI IL EV b o s K) s K=some z) (r:aZ Y.C E s a w β)
  (hk:∀s' a' w' β',Ag (Wr al o) s s'→K s'=some z→aZ Y.C E s' a' w' β'→dL P .any al.toArray a0 (NoPanic Q) (Ext w') n (listed.setIfInBounds i true) a' w'):
  wpOp P al.toArray (NoPanic Q) i (fun a' w'=>(iD a0 (listed.setIfInBounds i true)=true→Ext wS w')∧dL P .any al.toArray a0 (NoPanic Q) (Ext wS) n (listed.setIfInBounds i true) a' w') a w:=by
 have hny:iD a0 (listed.setIfInBounds i true)=false:=(aBb ha hp).trans hpre
 have hg:al.toArray[i]? =some o:=by simpa using ho
 refine wpOp_step hg fun K' hK'=> ?_
 have fin:∀s' a' w' β',Ag (Wr al o) s s'→K s'=some z→aZ Y.C E s' a' w' β'→K' a' w':=fun s' a' w' β' q1 q2 q3=>hK' _ _ ⟨fun hn=>(by rw[hny] at hn;cases hn),nK _ _ _ _ hny (hk s' a' w' β' q1 q2 q3)⟩
 obtain⟨s1,r1,h1,h2⟩:=Du r h
 rcases h2 with⟨hw,h2⟩|⟨hw,h2⟩
 ·rw[if_pos hw]
  exact aZ0 G hI hEV hE hP r1 (al:=al) h2 (fun s' a' w' β' q1 q2 q3=>fin s' a' w' β' (h1.trans q1) q2 q3)
 ·rw[if_neg (by rw[hw];simp)]
  exact fin _ _ w β (h1.put (fun n e=> .inl e)) h2 (r1.put (x:= .l .und) (v:=undef) (fun _=>rfl))
theorem bC7 (G:Good P g Y TI FZ)(hI:pQ P IL)(hEV:aB8 P Y g EV)(hE:E.fr=[])(hP:E.prm=[]){al:List Oper}{a0:Option Nat}(hs:Region.noSelect al.toArray=true){Q:Exit→Act→World→Prop}{D:Nat→Prop}:∀(l:List (Nat×Bool)) (an:An) (pre st:Bool) (s:St U) (K:St U→Option α) (z:α),(∀i∈l,∀o,al[i.1]? =some o→∀n,Wr al o n→D n)→ilY Y TI FZ IL EV al a0 l an pre st s K=some z→
  (∀s' a w β,Ag D s s'→K s'=some z→aZ Y.C E s' a w β→Q .normal a w)→∀listed,Dn .any al.toArray listed→Hy al.toArray a0 l listed=true→iD a0 listed=pre→∀a w β wS,Lk E none st pre wS w→aZ Y.C E s a w β→dL P .any al.toArray a0 (NoPanic Q) (Ext wS) l.length listed a w
 |[],an,pre,st,s,K,z,_,h,hQ,listed,_,hc,_,a,w,β,wS,_,r=>nL (P:=P) (a0:=a0) (S:=Ext wS) (Q:=NoPanic Q) (by simpa[Hy] using hc) (hQ s a w β (Ag.refl s) h r) 0
 |(i,fl)::l,an,pre,st,s,K,z,hD,h,hQ,listed,hdn,hc,hp,a,w,β,wS,hl,r=>by
  unfold ilY at h
  rw[aP] at h
  cases ho:al[i]? with
  |none=>rw[ho] at h;cases h
  |some o=>
   rw[ho] at h
   simp only at h
   have hDi:=hD (i,fl) (by simp) o ho
   have hD':∀j∈l,∀o,al[j.1]? =some o→∀n,Wr al o n→D n:=fun j hj=>hD j (by simp[hj])
   cases fl with
   |true=>
    simp only[cond_true] at h
    simp only[Hy,Bool.and_eq_true] at hc
    obtain⟨hr,hne⟩:=qM hc.1
    exact stepT G hs ho hdn hc.1 h hl.st (fun hn=>hl.pre (hp.symm.trans hn)) r fun v s' h1 h2 h3=>
     bC7 G hI hEV hE hP hs l an pre st s' K z hD' h2 (fun s2 a2 w2 β2 g1=>hQ s2 a2 w2 β2 ((h1.mono hDi).trans g1)) _ (hdn.set hr) hc.2 ((uN hne).trans hp) _ w β wS hl h3
   |false=>
    simp only[Hy,Bool.and_eq_true,beq_iff_eq] at hc
    simp only[cond_false] at h
    have hr:i∈Region.ready .any al.toArray listed:=by rw[hc.1];simp
    refine iQ hc.1 (by simp) fun i' hi'=> ?_
    simp at hi';subst hi'
    have plain:∀an',grd Y TI FZ al o s (fun s'=>bif !(pre&& !I8 a0 i')||(Nat.ble (uO FZ o.op) 1||unO none s'.m.o) then ilY Y TI FZ IL EV al a0 l an' (pre&& !I8 a0 i') (st&&Xc (none:Option (Nat×Nat))) s' K else none)=some z→wpOp P al.toArray (NoPanic Q) i' (fun a' w'=>(iD a0 (listed.setIfInBounds i' true)=true→Ext wS w')∧dL P .any al.toArray a0 (NoPanic Q) (Ext wS) l.length (listed.setIfInBounds i' true) a' w') a w:=fun an' h=>
     aPj G ho hc.2.1 hp (kd:=none) (K:=fun s'=>ilY Y TI FZ IL EV al a0 l an' (pre&& !I8 a0 i') (st&&Xc (none:Option (Nat×Nat))) s' K) h hl r fun v s' w' β' wS' h1 h2 h3 h4=>
      bC7 G hI hEV hE hP hs l an' _ _ s' K z hD' h2 (fun s2 a2 w2 β2 g1=>hQ s2 a2 w2 β2 ((h1.mono hDi).trans g1)) _ (hdn.set hr) hc.2.2 (aBb hc.2.1 hp) _ w' β' wS' h4 h3
    cases an with
    |il k b q=>
     simp only at h
     cases hb:Nat.beq k i' with
     |false=>rw[hb] at h;exact plain _ h
     |true=>
      rw[hb] at h
      simp only[cond_true] at h
      cases hq:(Nat.beq (uO FZ o.op) 2&& !(pre&& !I8 a0 i')) with
      |false=>rw[hq] at h;cases h
      |true=>
       rw[hq] at h
       simp only[cond_true] at h
       simp only[Bool.and_eq_true,Bool.not_eq_true'] at hq
       exact bGj G hI hEV hE hP ho hc.2.1 hp hq.2 h r fun s' a' w' β' q1 q2 q3=>
        bC7 G hI hEV hE hP hs l q false st s' K z hD' q2 (fun s2 a2 w2 β2 g1=>hQ s2 a2 w2 β2 ((q1.mono hDi).trans g1)) _ (hdn.set hr) hc.2.2 ((aBb hc.2.1 hp).trans hq.2) a' w' β' w' ⟨fun _ _ h=>(by cases h),fun _=>rfl,fun _=>rfl,fun _=>Ext.refl _⟩ q3
    |_=>exact plain _ h
theorem Good.pl (G:Good P g Y TI FZ):Good P g Y TI (plT FZ):=⟨G.ti,G.lay,fun f S h=>by
 unfold plT at h
 obtain⟨⟨f',S'⟩,hm,e⟩:=List.mem_map.1 h
 injection e with e1 e2
 subst e1
 have h0:=G.fs f' S' hm
 obtain⟨ar,rs,fr,wt,m⟩:=S'
 subst e2
 cases fr with
 |false=>exact h0
 |true=>
  cases wt with
  |true=>exact h0
  |false=>exact aZg h0 rfl rfl⟩
theorem Tj (G:Good P g Y TI FZ)(hm:P.follows .mixedOrders=true)(hI:pQ P IL):aUf P Y TI FZ IL g:=by
 intro E hE hP α EV hEV id os d an s N X R z D hD hA h
 cases an with
 |il k b q=>
  intro Q hN hX hR a w β r
  have hos:os.toList.toArray=os:=by simp
  by_cases hy:∃kb f a0 ord,ilo q= .y kb f a0 ord
  ·obtain⟨kb,f,a0,ord,hy⟩:=hy
   unfold aVp at h
   simp only[hy] at h
   replace h:(bif d&&aEm os none a0 ord then ilY Y TI FZ IL EV os.toList a0 ord (.il k b q) true true s N else none)=some z:=h
   cases d with
   |false=>cases h
   |true=>
    cases hc:aEm os none a0 ord with
    |false=>rw[hc] at h;cases h
    |true=>
     rw[hc] at h
     simp only[Bool.and_self,cond_true] at h
     simp only[aEm,Bool.and_eq_true,bC] at hc
     obtain⟨hs,hlen,hcf⟩:=hc
     have hlen:=Nat.eq_of_beq_eq_true hlen
     have r0:aZ Y.C E s a w.drew β:=r.ext (Ext.drew w)
     refine wp_region_noPanic (wp_region_any hm (kQ (a0:=a0) (S:=Ext w.drew) _ _ _ _ ?_))
     have:=bC7 G hI hEV hE hP (a0:=a0) (al:=os.toList) (by rw[hos];exact hs) (Q:=Q) (D:=D) ord _ true true s N z (fun i _ o ho=>hD o (List.mem_of_getElem? ho)) h hN (Array.replicate os.size false) (by rw[hos];exact Dn0) (by rw[hos];exact hcf) aZz a w.drew β w.drew ⟨fun _ _ h=>(by cases h),fun _=>rfl,fun _=>rfl,fun _=>Ext.refl _⟩ r0
     rw[hos,hlen] at this;exact this
  replace h:(match(bif d then J8 FZ os.toList os (ilo q) else some (rng (len os.toList) 0)) with
   |some l=>ilr Y TI FZ IL EV os.toList l (.il k b q) s N
   |none=>none)=some z:=by
   unfold aVp at h
   simp only at h
   split at h
   ·rename_i kb f a0 ord hq;exact absurd ⟨kb,f,a0,ord,hq⟩ hy
   ·exact h
  cases d with
  |false=>
   simp only[cond_false,bC] at h
   refine wp_region_list ?_
   have:=bH3 G hI hEV hE hP (Q:=Q) (D:=D) os.toList.length 0 _ s N z (by omega) hD h hN a w β r
   rw[List.drop_zero,hos] at this;exact this
  |true=>
   simp only[cond_true] at h
   cases ho:J8 FZ os.toList os (ilo q) with
   |none=>rw[ho] at h;cases h
   |some l=>
    rw[ho] at h
    simp only at h
    have r0:aZ Y.C E s a w.drew β:=r.ext (Ext.drew w)
    rcases aLu ho with⟨hs,hlen,hc⟩|⟨a0,ord,hs,hlen,hc,hfr,hlo⟩
    ·refine wp_region_noPanic (wp_region_any hm ?_)
     have:=bH4 G hI hEV hE hP (Q:=NoPanic Q) (D:=D) l _ s N z hD h hN (Array.replicate os.size false) (by rw[hos];exact hc) a w.drew β r0
     rw[hos,hlen] at this;exact this
    ·refine wp_region_noPanic (wp_region_any hm (kQ (a0:=a0) (S:=Ext w.drew) _ _ _ _ ?_))
     subst hlo
     have:=bGi G hI hEV hE hP (a0:=a0) (by rw[hos];exact hs) (Q:=Q) (D:=D) ord _ s N z hD h hN (Array.replicate os.size false) (by rw[hos];exact Dn0) (by rw[hos];exact hc) (.inl hfr) a w.drew β r0
     rw[hos,hlen] at this;exact this
 |pl b=>
  have hh:(∃a0 ord,rgn Y TI (plT FZ) os.toList os d (.r a0 ord) s N=some z)∨rgn Y TI (plT FZ) os.toList os d .n s N=some z:=by
   unfold aVp at h
   cases b with
   |r a0 ord=>exact .inl ⟨a0,ord,h⟩
   |_=>exact .inr h
  rcases hh with⟨a0,ord,hh⟩|hh
  ·exact M3 hE hP G.pl hm id os d (.r a0 ord) s N X R z D hD trivial hh
  ·exact M3 hE hP G.pl hm id os d .n s N X R z D hD trivial hh
 |_=>exact M3 hE hP G hm id os d _ s N X R z D hD hA h
end
end Go.EV

namespace Go.EV
open Go.RowKit Go.VK
variable {U:Uni} {Y:Lay U} {TI:List (Nat×TInfo)} {FZ:List (Nat×Sum U)} {IL:Il} {P:Program} {g:GI} {E:Env U g}
section
variable {s:St U} {a:Act} {w w0:World} {β:List Tr}
theorem aWf (hti:pM P TI=true)(r:aZ Y.C E s a w β){fn:Func}{l:List ResultVar}(hf:fn.results=l.toArray){ks:List Kd}{z:qJ U ks}(h:fin Y TI false ks l s=some z):∃v,(results fn a.tmps).run P w= .ok v w∧Rd w E.X0 [] v (nU ((bS Y ks z).map Ac)):=by
 unfold fin at h
 cases h1:Rf TI s l with
 |none=>rw[h1] at h;cases h
 |some xs=>
  rw[h1] at h
  obtain⟨vs,k1,k2,k3⟩:=vN hti r h1
  have hrd:=Dq r (Z:=E.X0) (fun b hb=> .inl hb) ks (z:=z) h k2 k3 (.inr (aDn r))
  refine⟨_,xM hf k1,?_⟩
  generalize(bS Y ks z).map Ac=Us at hrd
  obtain⟨h2,h3⟩:=hrd
  clear k1 k2 k3 h h1
  match Us,vs,h2,h3 with
  |[U],[v],_,h3=>exact h3 0 v U rfl rfl
  |[],[],_,_=>exact .tup rfl (by simp)
  |U::U'::Us,v::v'::vs,h2,h3=>
   rw[dif_neg (by simp)]
   exact .tup (by simpa using h2) (fun i v c h5 h6=>h3 i v c (by simpa using h5) h6)
theorem aLw {w0:World}{X0:Nat→Prop}(hG:g.G w0)(hX0:∀b,X0 b→b<w0.heap.size){ks:List Kd}{z:qJ U ks}{n:Nat}{vs:List Value}(hvs:RdL w0 X0 vs ((bS Y ks z).map Ac))(hn:(bS Y ks z).length≤n)(E:Env U g)(hE0:E.X0=X0)(hEY:∀b,¬E.Y0 b)(hEw:E.w0=w0)(hEp:E.pin=[])(hEm:E.prm=[])(hEf:E.fr=[]):
  aZ Y.C E (ini Y n ks z) {tmps:=vs.toArray++Array.replicate (n-vs.toArray.size) undef,defers:=[]} w0 []:=by
 have hlen:vs.length=(bS Y ks z).length:=by rw[hvs.1,List.length_map]
 refine⟨⟨by rw[←hEw];exact Bel.refl _,rfl,by simp[ini],by simp[ini],by simp,by simp,by simp,by simp,by simp[hEp],by simp[hEm],by simp[hEf]⟩,rfl,?_,fun m x hx=> ?_⟩
 ·simp only[ini,bC,List.length_append,List.length_map,List.length_replicate,Array.size_append,List.size_toArray,Array.size_replicate,hlen]
 ·simp only[ini,bC,List.length_map] at hx
  by_cases hlt:m<(bS Y ks z).length
  ·rw[List.getElem?_append_left (by simpa using hlt),List.getElem?_map] at hx
   cases hc:(bS Y ks z)[m]? with
   |none=>rw[hc] at hx;cases hx
   |some c=>
    rw[hc] at hx
    have:=Option.some.inj hx;subst this
    have hvl:m<vs.length:=by omega
    have hv:(vs.toArray++Array.replicate (n-vs.toArray.size) undef).getD m undef=vs[m]:=by
     rw[Array.getD_eq_getD_getElem?,Array.getElem?_append_left (by simpa using hvl)]
     simp[List.getElem?_eq_getElem hvl]
    rw[hv]
    refine qK (Xl (Ae ks z c (List.mem_of_getElem? hc)) (hvs.2 m _ _ (List.getElem?_eq_getElem hvl) (by rw[List.getElem?_map,hc];rfl)) (.inl fun b hb=> ?_))
    rcases hb with hb|hb|⟨t,ht,_⟩
    ·rw[hE0] at hb;exact hb
    ·exact absurd hb (hEY b)
    ·simp at ht
  ·rw[List.getElem?_append_right (by rw[List.length_map];omega)] at hx
   have:=List.mem_of_getElem? hx
   simp at this
   rw[this.2];trivial
theorem aZ1 (G:Good P g Y TI FZ)(hm:P.follows .mixedOrders=true)(hI:pQ P IL){f:FuncId}{fn:Func}{cd:Code}{n:Nat}{l:List ResultVar}{ar rs:List Kd}{an:An}{z:qJ U ar}{q:qJ U rs}(hf:P.funcs[f]? =some fn)(hb:fn.body=some cd)(hn:fn.ntmps=n)(hl:fn.results=l.toArray)
  (hE:∀args w,(callFunc f args).run P w= .ok (.enter f args) w) (hlen:(bS Y ar z).length≤n) (h:evF Y TI FZ IL an cd n ar rs false l z=some q):VK.Spec P g f ((bS Y ar z).map Ac) (fun v=>v=nU ((bS Y rs q).map Ac)):=by
 refine⟨hE,fun w X0 vs hG hX0 hvs=>calls_of_wp hf hb ?_⟩
 let E:Env U g:=⟨X0,fun _=>False,w,[],[],fun b h=> .inl (hX0 b h),fun _ h=>h.elim,fun _ _ h=>h,fun w' hw=>g.st w w' hG (hw.ext fun _ h=>h),[]⟩
 have r0:=aLw (Y:=Y) hG hX0 hvs hlen E rfl (fun _ h=>h) rfl rfl rfl rfl
 have done:∀s' a' w' β',fin Y TI false rs l s'=some q→aZ Y.C E s' a' w' β'→a'.defers=[]∧∃v,(results fn a'.tmps).run P w'= .ok v w'∧(∃v' r,Ending.returned v= .returned v'∧r=nU ((bS Y rs q).map Ac)∧Rd w' X0 [] v' r∧Ext w w'):=fun s' a' w' β' hq r=>by
  obtain⟨v,k1,k2⟩:=aWf G.ti r hl hq
  exact⟨r.defers,v,k1,v,_,rfl,rfl,k2,r.hp.ext.ext fun _ h=>h⟩
 rw[hn]
 exact aE3 (Tj G hm hI) 1000 E rfl rfl an cd _ _ _ _ _ q (fun _=>True) (WC.true cd) (AW.true an) h _ (fun s' a' w' β' _ hq r=>done s' a' w' β' hq r) (fun i s' a' w' β' _ hq r=>by cases hq) (fun s' a' w' β' _ hq r=>done s' a' w' β' hq r) _ _ _ r0
end
end Go.EV
