import Derived.Test.YtfllllgehgablaaGreatDoorEVptoyw
import Derived.Test.YtfllllgehgablaaGreatDoorVKatos
import Derived.Lib.SplitLaws
import Derived.HandedShaped
/- Printed by wip/tools: models, walks, proofs. -/
set_option linter.all false
namespace Go.EV
open Go.RowKit Go.VK
variable {U:Uni} {Y:Lay U} {TI:List (Nat×TInfo)} {FZ:List (Nat×Sum U)} {P:Program} {g:GI} {E:Env U g}
section
variable {C:Cod U} {s:St U} {a:Act} {w w':World} {β:List Tr}
def Env.ahs (E:Env U g)(L:List (Nat×Obj))(hb:∀x∈L,E.w0.heap.size<=x.1):Env U g:=
 ⟨λb'=>E.X0 b'\/∃x∈L,x.1=b',E.Y0,E.w0,L++E.prm,E.fr,λb' h=>by
  rcases h with h|⟨x,hx,e⟩
  ·rcases E.h0 b' h with h|⟨x,hx,e⟩
   ·exact .inl h
   ·exact .inr ⟨x,by simp[hx],e⟩
  ·exact .inr ⟨x,by simp[hx],e⟩,E.hY,λb' h hy=>by
  rcases h with h|⟨x,hx,rfl⟩
  ·exact E.hXY b' h hy
  ·have:=E.hY _ hy;have:=hb x hx;omega,E.hg,E.pin⟩
def Dj {L:List (Nat×Obj)}{hb:∀x∈L,E.w0.heap.size<=x.1}{β:List Tr}{b':Nat}:(E.ahs L hb).X β b'↔E.X β b'\/∃x∈L,x.1=b':=by
 unfold Env.X;constructor
 ·rintro((h|h)|h|h)
  ·exact .inl (.inl h)
  ·exact .inr h
  ·exact .inl (.inr (.inl h))
  ·exact .inl (.inr (.inr h))
 ·rintro((h|h|h)|h)
  ·exact .inl (.inl h)
  ·exact .inr (.inl h)
  ·exact .inr (.inr h)
  ·exact .inl (.inr h)
def bE.aDM (r:bE C E s a w β){h}:bE C (E.ahs [] h) s a w β:=by
 have H:=r.hp;have ev:Evo w w (E.X β) ((E.ahs [] h).X β) β β s.m s.m s.m.o.length s.m.ns.length s.m.k:=⟨aj _,λb _ hb=>by
  rcases Dj.1 hb with hb|⟨x,hx,_⟩
  ·exact hb
  ·simp at hx,λ_ _ _ h=>h,aj _,λa i f _ h=>⟨f,h⟩,λi e t _ h1 h2=>⟨e,t,h1,h2,λ_=>⟨rfl,rfl⟩,λ_=>⟨rfl,rfl,rfl,λb hb=>rfl⟩,λh=>⟨h,rfl⟩⟩⟩
 exact⟨⟨H.ext,H.len,H.vers,H.cnt,H.new,H.dist,H.nd,λi t e h1 h2=>Ob.aBF ev (H.ok i t e h1 h2) λb hb=>rfl,λx hx=>Sv.aAU ev (H.pin x hx),λx hx=>H.prm x (by simpa[Env.ahs] using hx),H.fr⟩,r.defers,r.tsz,λn x hx=>Sv.aAU ev (r.tm n x hx)⟩
def bE.aDN {h}(r:bE C (E.ahs [] h) s a w β):bE C E s a w β:=by have H:=r.hp;have ev:Evo w w ((E.ahs [] h).X β) (E.X β) β β s.m s.m s.m.o.length s.m.ns.length s.m.k:=⟨aj _,λb _ hb=>Dj.2 (.inl hb),λ_ _ _ h=>h,aj _,λa i f _ h=>⟨f,h⟩,λi e t _ h1 h2=>⟨e,t,h1,h2,λ_=>⟨rfl,rfl⟩,λ_=>⟨rfl,rfl,rfl,λb hb=>rfl⟩,λh=>⟨h,rfl⟩⟩⟩;exact⟨⟨H.ext,H.len,H.vers,H.cnt,H.new,H.dist,H.nd,λi t e h1 h2=>Ob.aBF ev (H.ok i t e h1 h2) λb hb=>rfl,λx hx=>Sv.aAU ev (H.pin x hx),λx hx=>H.prm x (by simpa[Env.ahs] using hx),H.fr⟩,r.defers,r.tsz,λn x hx=>Sv.aAU ev (r.tm n x hx)⟩
def bE.aCJ {L L':List (Nat×Obj)}{hL:∀x∈L,E.w0.heap.size<=x.1}{hL':∀x∈L',E.w0.heap.size<=x.1}(r:bE C (E.ahs L hL) s a w β)(h1:∀p∈L',p∈L):bE C (E.ahs L' hL') s a w β:=by
 have H:=r.hp;have ev:Evo w w ((E.ahs L hL).X β) ((E.ahs L' hL').X β) β β s.m s.m s.m.o.length s.m.ns.length s.m.k:=⟨aj _,λb _ hb=>by
  rcases Dj.1 hb with hb|⟨x,hx,e⟩
  ·exact Dj.2 (.inl hb)
  ·exact Dj.2 (.inr ⟨x,h1 x hx,e⟩),λ_ _ _ h=>h,aj _,λa i f _ h=>⟨f,h⟩,λi e t _ h1 h2=>⟨e,t,h1,h2,λ_=>⟨rfl,rfl⟩,λ_=>⟨rfl,rfl,rfl,λb hb=>rfl⟩,λh=>⟨h,rfl⟩⟩⟩
 exact⟨⟨H.ext,H.len,H.vers,H.cnt,H.new,H.dist,H.nd,λi t e h1 h2=>Ob.aBF ev (H.ok i t e h1 h2) λb hb=>rfl,λx hx=>Sv.aAU ev (H.pin x hx),λx hx=>H.prm x (by
  have hx':x∈L'++E.prm:=hx;rcases bz.1 hx' with hx'|hx'
  ·exact bz.2 (.inl (h1 x hx'))
  ·exact bz.2 (.inr hx')),H.fr⟩,r.defers,r.tsz,λn x hx=>Sv.aAU ev (r.tm n x hx)⟩
def bOa {L:List (Nat×Obj)}{hb:∀x∈L,E.w0.heap.size<=x.1}(r:bE C (E.ahs L hb) s a w β):∀x∈L,x.1<w.heap.size:=λx hx=>
 (bw.1 (r.hp.prm x (bz.2 (.inl hx))).2.1).1
def bE.aDA {L:List (Nat×Obj)}{hb:∀x∈L,E.w0.heap.size<=x.1}(r:bE C (E.ahs L hb) s a w β){blk:Obj}(hw:E.w0.heap.size<=w.heap.size){hb'}:bE C (E.ahs ((w.heap.size,blk)::L) hb') s a (w.alloc blk) β:=by
 have H:=r.hp;have he:Ext w (w.alloc blk):=Ext.alloc _ _;have hbs:(w.alloc blk).heap[w.heap.size]? =some blk:=by show(w.heap.push blk)[w.heap.size]? =some blk;simp
 have ev:Evo w (w.alloc blk) ((E.ahs L hb).X β) ((E.ahs ((w.heap.size,blk)::L) hb').X β) β β s.m s.m s.m.o.length s.m.ns.length s.m.k:=⟨he.size,λb hb1 h=>by
  rcases Dj.1 h with h|⟨x,hx,e⟩
  ·exact Dj.2 (.inl h)
  ·rcases aE.1 hx with rfl|hx
   ·have e:w.heap.size=b:=e;omega
   ·exact Dj.2 (.inr ⟨x,hx,e⟩),λ_ _ _ h=>he.cell h,aj _,λa i f _ h=>⟨f,h⟩,λi e t _ h1 h2=>⟨e,t,h1,h2,λ_=>⟨rfl,rfl⟩,λ_=>⟨rfl,rfl,rfl,λb hb=>he.block b (H.new i t b h2 hb).2⟩,λh=>⟨h,rfl⟩⟩⟩
 refine⟨⟨H.ext.trans (Bel.aBN he),H.len,H.vers,H.cnt,λi t b h1 h2=>⟨(H.new i t b h1 h2).1,cg (H.new i t b h1 h2).2 he.size⟩,H.dist,H.nd,λi t e h1 h2=>Ob.aBF ev (H.ok i t e h1 h2) λb hb=>he.block b (H.new i t b h1 hb).2,λx hx=>Sv.aAU ev (H.pin x hx),λx hx=> ?_,λf hf=> ?_⟩,r.defers,r.tsz,λn x hx=>Sv.aAU ev (r.tm n x hx)⟩
 ·have hx':x∈(w.heap.size,blk)::(L++E.prm):=hx;rcases aE.1 hx' with rfl|hx'
  ·refine⟨hw,hbs,λf hf=> ?_,λi t ht hm=> ?_⟩
   ·exact(H.fr f hf).2.2.1
   ·have:=(H.new i t _ ht hm).2;omega
  ·obtain⟨h1,h2,h3,h4⟩:=H.prm x hx';exact⟨h1,(he.block _ (bw.1 h2).1).trans h2,h3,h4⟩
 ·obtain⟨h1,h2,h0,h3⟩:=H.fr f hf;exact⟨h1,h2,bu h0 he.size,h3.imp id λq=>⟨q.1.trans he,q.2⟩⟩
def bE.aCI {L L':List (Nat×Obj)}{hL:∀x∈L,E.w0.heap.size<=x.1}{hL':∀x∈L',E.w0.heap.size<=x.1}(r:bE C (E.ahs L hL) s a w β){b:Nat}{blk:Obj}(hm:(b,blk)∈L)(hs1:∀x∈L',x∈L/\x.1≠b)(hP:E.prm=[]){e':EO U}{t':Tr}{k':Nat}(hk:s.m.k<=k')(hv:e'.rv<=k'/\e'.cv<=k')(ht:t'.all=[b])
  (hok:Evo w w ((E.ahs L hL).X β) ((E.ahs L' hL').X (β++[t'])) β (β++[t']) s.m ⟨s.m.o++[e'],k',s.m.ns⟩ s.m.o.length s.m.ns.length s.m.k->w.heap[b]? =some blk->e'.ob.ok C w ((E.ahs L' hL').X (β++[t'])) (β++[t']) ⟨s.m.o++[e'],k',s.m.ns⟩ t'):
  bE C (E.ahs L' hL') ⟨s.t,⟨s.m.o++[e'],k',s.m.ns⟩,s.fr⟩ a w (β++[t']):=by
 have H:=r.hp;have hlen:=H.len;obtain⟨p1,p2,p3,p4⟩:=H.prm (b,blk) (bz.2 (.inl hm));have hbl:b<w.heap.size:=(bw.1 p2).1;have ev:Evo w w ((E.ahs L hL).X β) ((E.ahs L' hL').X (β++[t'])) β (β++[t']) s.m ⟨s.m.o++[e'],k',s.m.ns⟩ s.m.o.length s.m.ns.length s.m.k:=by
  refine⟨aj _,λb' _ h=>Dj.2 ?_,λ_ _ _ h=>h,hk,λa i f _ h=>⟨f,h⟩,λi e t hi he ht'=>⟨e,t,?_,?_,λ_=>⟨rfl,rfl⟩,λ_=>⟨rfl,rfl,rfl,λ_ _=>rfl⟩,λh=>⟨h,rfl⟩⟩⟩
  ·rcases Dj.1 h with h|⟨x,hx,e⟩
   ·rcases h with h|h|⟨u,hu,hm'⟩
    ·exact .inl (.inl h)
    ·exact .inl (.inr (.inl h))
    ·rcases bz.1 hu with hu|hu
     ·exact .inl (.inr (.inr ⟨u,hu,hm'⟩))
     ·simp at hu;subst hu;rw[ht] at hm';simp at hm';exact .inr ⟨_,hm,hm'.symm⟩
   ·exact .inr ⟨x,(hs1 x hx).1,e⟩
  ·exact(aq hi).trans he
  ·exact(aq (lt_of_some ht')).trans ht'
 have hb':∀(i:Nat) (t:Tr),(β++[t'])[i]? =some t->β[i]? =some t\/(i=β.length/\t=t'):=λi t h=>by
  by_cases hi:i<β.length
  ·rw[aq hi] at h;exact .inl h
  ·have:=lt_of_some h;simp at this;have e:i=β.length:=by omega
   subst e;simp at h;exact .inr ⟨rfl,h.symm⟩
 have ho':∀(i:Nat) (e:EO U),(s.m.o++[e'])[i]? =some e->s.m.o[i]? =some e\/(i=s.m.o.length/\e=e'):=λi e h=>by
  by_cases hi:i<s.m.o.length
  ·rw[aq hi] at h;exact .inl h
  ·have:=lt_of_some h;simp at this;have e1:i=s.m.o.length:=by omega
   subst e1;simp at h;exact .inr ⟨rfl,h.symm⟩
 refine⟨⟨H.ext,by simp[hlen],λi e he=> ?_,H.cnt,λi t x h1 h2=> ?_,λi j t u x hij h1 h2 h3 h4=> ?_,λi t h1=> ?_,λi t e h1 h2=> ?_,λx hx=>Sv.aAU ev (H.pin x hx),λx hx=> ?_,λf hf=> ?_⟩,r.defers,r.tsz,λn x hx=>Sv.aAU ev (r.tm n x hx)⟩
 ·rcases ho' i e he with h|⟨_,rfl⟩
  ·have:=H.vers i e h;exact⟨bu this.1 hk,bu this.2 hk⟩
  ·exact hv
 ·rcases hb' i t h1 with h|⟨_,rfl⟩
  ·exact H.new i t x h h2
  ·rw[ht] at h2;simp at h2;subst h2;exact⟨.inl p1,hbl⟩
 ·rcases hb' i t h1 with h|⟨ei,rfl⟩<;>rcases hb' j u h2 with h'|⟨ej,rfl⟩
  ·exact H.dist i j t u x hij h h' h3 h4
  ·rw[ht] at h4;simp at h4;subst h4;exact p4 i t h h3
  ·rw[ht] at h3;simp at h3;subst h3;exact p4 j u h' h4
  ·exact hij (ei.trans ej.symm)
 ·rcases hb' i t h1 with h|⟨_,rfl⟩
  ·exact H.nd i t h
  ·rw[ht];simp
 ·rcases hb' i t h1 with h|⟨ei,rfl⟩
  ·rcases ho' i e h2 with h'|⟨ei,_⟩
   ·exact Ob.aBF ev (H.ok i t e h h') λ_ _=>rfl
   ·have:=lt_of_some h;rw[hlen] at this;omega
  ·rcases ho' i e h2 with h'|⟨_,rfl⟩
   ·have:=lt_of_some h';rw[hlen] at ei;omega
   ·exact hok ev p2
 ·have hx':x∈L'++E.prm:=hx;rw[hP,cY] at hx';obtain⟨q1,q2⟩:=hs1 x hx';obtain⟨h1,h2,h3,h4⟩:=H.prm x (bz.2 (.inl q1));refine⟨h1,h2,h3,λi t h5 h6=> ?_⟩;rcases hb' i t h5 with h|⟨_,rfl⟩
  ·exact h4 i t h h6
  ·rw[ht] at h6;simp at h6;exact q2 h6
 ·obtain⟨h1,h2,h0,h3⟩:=H.fr f hf;refine⟨by simp;omega,bu h2 hk,h0,?_⟩;rcases h3 with⟨j,e,q1,q2,q3⟩|⟨q1,q2⟩
  ·exact .inl ⟨j,e,q1,(aq (lt_of_some q2)).trans q2,q3⟩
  ·refine .inr ⟨q1,λi t x hi h1 hx=> ?_⟩;rcases hb' i t h1 with h|⟨_,rfl⟩
   ·exact q2 i t x hi h hx
   ·rw[ht] at hx;simp at hx;subst hx;exact p3 f hf
def aY3 (G:Good P g Y TI FZ){L L':List (Nat×Obj)}{hL:∀x∈L,E.w0.heap.size<=x.1}{hL':∀x∈L',E.w0.heap.size<=x.1}(r:bE Y.C (E.ahs L hL) s a w β){b:Nat}{blk:Obj}(hm:(b,blk)∈L)(hs1:∀x∈L',x∈L/\x.1≠b)(hP:E.prm=[]){o:Oper}(hf:Flp P a o blk)(hg:zW Y TI s o.op=true){α:Type}{K:Sv U->St U->Option α}{z:α}(h:stp Y TI FZ s o.op K=some z):
  ∃x s' β',K x s'=some z/\bE Y.C (E.ahs L' hL') s' a w β'/\x.mean Y.C w ((E.ahs L' hL').X β') β' s'.m (mkF o.op b)/\s'.t=s.t/\s'.fr=s.fr/\Am s.m s'.m:=by
 have hlen:=r.hp.len;cases ho:o.op with
 |alloc T=>
  rw[ho] at hg h;obtain⟨i,hi⟩:=Nj hg;obtain⟨vs,k,hM⟩:=Xp (Y:=Y) (a:=a) G.ti ho hi;have hblk:=hf.inj w k;subst hblk;have h':K (.l (.box (len s.m.o) 0)) (psh s (.box T (i.z.map Kz.lf) (i.z.map λ_=>s.m.k)))=some z:=by
   have:stp Y TI FZ s (.alloc T) K=match iJ TI T with
    |some i=>K (.l (.box (len s.m.o) 0)) (psh s (.box T (i.z.map Kz.lf) (i.z.map λ_=>s.m.k)))
    |none=>none:=rfl
   rw[this,hi] at h;exact h
  have r':=r.aCI (hL':=hL') hm hs1 hP (e':=⟨.box T (i.z.map Kz.lf) (i.z.map λ_=>s.m.k),s.m.k,s.m.k⟩) (t':=⟨some b,0,0,[]⟩) (aj _) ⟨aj _,aj _⟩ rfl (λhev hbk=>⟨by simp,b,vs.toList,rfl,rfl,by simpa using hbk,hM _ _ _ _⟩);refine⟨_,_,_,h',r',⟨rfl,⟨.box T (i.z.map Kz.lf) (i.z.map λ_=>s.m.k),s.m.k,s.m.k⟩,⟨some b,0,0,[]⟩,?_,?_,λ_=>⟨_,rfl,rfl⟩⟩,rfl,rfl,Am.add _ _⟩
  ·simp[psh,bK]
  ·rw[ay (by rw[hlen,bK];exact aj _),hlen,bK];simp
 |buildSlice t n ps=>
  rw[ho] at hg h;obtain⟨e,ek,eb,k,zz,l,d,h1,h2,h3,h4,h5⟩:=Nk hg;obtain⟨cells,q1,q2,q3,q4,q5,q6⟩:=aCu G.ti G.lay r ho h1 h2 h3 h4 h5;have hblk:=hf.inj w q1;subst hblk;cases hpl:(!Cx (iJ FZ 3000000)&&(!Nat.beq n 0&&aYj ([]:List Nat))) with
  |true=>
  have h':K (.l (.sl e l)) s=some z:=by
   have:stp Y TI FZ s (.buildSlice t n ps) K=bif Nat.beq (len ps.toList) n&&(Nat.ble (n*ek) 16777216&&Gu (U:=U) e ek e) then(bif !Cx (iJ FZ 3000000)&&(!Nat.beq n 0&&aYj ([]:List Nat)) then K (.l (.sl e l)) s else bif dist (len s.m.o::[]) then K (.l (.own (len s.m.o) s.m.k)) ⟨s.t,⟨upd (s.m.o++[⟨.dead,s.m.k,s.m.k⟩]) (len s.m.o) ⟨.tree e d l,s.m.k,Nat.succ s.m.k⟩,Nat.succ s.m.k,s.m.ns⟩,s.fr⟩ else none) else none:=by
    show(match iJ TI t with
     |some ⟨.sl e ek _,_,_⟩=>_
     |_=>none)=_
    rw[h1];simp only;rw[h5];rfl
   rw[hpl] at this;rw[this,bK,h2] at h;rw[show Nat.beq n n=true from dp n,ee h3,h4] at h;simpa using h
  obtain⟨p1,p2,_,p4⟩:=r.hp.prm (b, .cells cells e) (bz.2 (.inl hm));refine⟨_,_,β,h',r.aCJ (λp hp=>(hs1 p hp).1),?_,rfl,rfl,Am.refl _⟩;refine Ow.rd (X:=(E.ahs L hL).X β) (Z:=(E.ahs L' hL').X β) (λx hx=>Dj.2 ((Dj.1 hx).imp id λ⟨y,hy,e⟩=>⟨y,(hs1 y hy).1,e⟩)) (Ow.sl ⟨some b,n,n,[]⟩ q2 (by
   exact⟨by rw[q4,cy,q5], .inr ⟨b,n,cells,by rw[q4];rfl,cx _,p2,by rw[q4];exact aj _,q3,q5,by rw[q4];exact dy (by rw[cy,q5];exact aj _)⟩⟩) q6) (λx hx hX=> ?_)
  simp[Tr.all] at hx;subst hx;have p1:E.w0.heap.size<=x:=p1;rcases Dj.1 hX with hX|⟨y,hy,e⟩
  ·rcases hX with hX|hX|⟨u,hu,hm⟩
   ·rcases E.h0 _ hX with hX|⟨y,hy,_⟩
    ·omega
    ·rw[hP] at hy;simp at hy
   ·have:=E.hY _ hX;omega
   ·obtain⟨i,hi⟩:=cV.1 hu;exact p4 i u hi hm
  ·exact(hs1 y hy).2 e
  |false=>
  have hst:∀o':List (EO U),o'=s.m.o++[(⟨.tree e d l,s.m.k,Nat.succ s.m.k⟩:EO U)]->K (.l (.own (len s.m.o) s.m.k)) ⟨s.t,⟨o',Nat.succ s.m.k,s.m.ns⟩,s.fr⟩=some z:=λo' ho'=>by
   have:stp Y TI FZ s (.buildSlice t n ps) K=bif Nat.beq (len ps.toList) n&&(Nat.ble (n*ek) 16777216&&Gu (U:=U) e ek e) then(bif dist (len s.m.o::[]) then K (.l (.own (len s.m.o) s.m.k)) ⟨s.t,⟨upd (s.m.o++[⟨.dead,s.m.k,s.m.k⟩]) (len s.m.o) ⟨.tree e d l,s.m.k,Nat.succ s.m.k⟩,Nat.succ s.m.k,s.m.ns⟩,s.fr⟩ else none) else none:=by
    show(match iJ TI t with
     |some ⟨.sl e ek _,_,_⟩=>_
     |_=>none)=_
    rw[h1];simp only;rw[h5];simp only[hpl,ab];rfl
   rw[this,bK,h2] at h;rw[show Nat.beq n n=true from dp n,ee h3,h4] at h;simp only[dw,ac] at h;have hd:dist [len s.m.o]=true:=rfl;rw[hd] at h;simp only[ac] at h;rw[bZ,bK,fe _ _ (aj _),fm] at h;rw[ho',bK];exact h
  have r':=r.aCI (hL':=hL') hm hs1 hP (e':=⟨.tree e d l,s.m.k,Nat.succ s.m.k⟩) (t':=⟨some b,n,n,[]⟩) (eo _) ⟨eo _,aj _⟩ rfl (λhev hbk=>by
   refine⟨q2,cells.toList,?_,q6.conv (aj _) hev.hX (λ_ _ _ h=>h) (by simp)⟩;exact⟨by rw[q4,cy,q5], .inr ⟨b,n,cells,by rw[q4];rfl,cx _,hbk,by rw[q4];exact aj _,q3,q5,by rw[q4];exact dy (by rw[cy,q5];exact aj _)⟩⟩)
  refine⟨_,_,_,hst _ rfl,r',⟨⟨eo _,rfl⟩,⟨.tree e d l,s.m.k,Nat.succ s.m.k⟩,⟨some b,n,n,[]⟩,?_,?_,λ_=>rfl⟩,rfl,rfl,?_⟩
  ·simp[bK]
  ·rw[ay (by rw[hlen,bK];exact aj _),hlen,bK];simp
  ·have a1:=(Am.add s.m [(⟨.dead,s.m.k,s.m.k⟩:EO U)]).trans (Am.tree (ids:=[]) (i:=len s.m.o) (τ:=e) (d:=d) (l:=l) (rv:=s.m.k) _);have e1:(⟨Si (Nat.succ s.m.k) [] (upd (s.m.o++[(⟨.dead,s.m.k,s.m.k⟩:EO U)]) (len s.m.o) ⟨.tree e d l,s.m.k,Nat.succ s.m.k⟩),Nat.succ s.m.k,s.m.ns⟩:Mm U)=⟨s.m.o++[⟨.tree e d l,s.m.k,Nat.succ s.m.k⟩],Nat.succ s.m.k,s.m.ns⟩:=by rw[bZ,bK,fe _ _ (aj _),fm];rfl
   exact e1▸a1
 |_=>rw[ho] at hg;cases hg
def O7:Op->Bool
 | .call ⟨.value (.func _),_,_⟩=>true
 |_=>false
def FlC (Y:Lay U)(FZ:List (Nat×Sum U))(s:St U)(o:Oper)(x:Sv U):Prop:=∃(f:FuncId) (xa:Array Operand) (ats:Array TypeId) (S:Sum U) (z:rD U S.ar) (q:rD U S.rs),o.op= .call {callee:= .value (.func f),args:=xa,argTypes:=ats}/\iJ FZ f=some S/\lQ Y s.m S.ar (xa.toList.map (dV s))=some z/\S.wt=false/\S.fr=false/\lI (xa.toList.map (dV s))=true/\tK (xa.toList.map (uA s))=true/\S.m z=some q/\vE (bY Y S.rs q)=x
def O8:∀{cs:List (Lf U)},M6 cs=true->Gw cs=true
 |[],_=>rfl
 |c::cs,h=>by
  have h:(aJ7 c&&M6 cs)=true:=h;rw[aa] at h;show(nM c&&Gw cs)=true;rw[O8 h.2,fb];cases c<;>first|rfl|cases h.1
def Xq:∀{xs:List (Sv U)},tK xs=true->lI xs=true
 |[],_=>rfl
 |x::xs,h=>by
  have h:(Xj x&&tK xs)=true:=h;rw[aa] at h;show(aJy x&&lI xs)=true;rw[Xq h.2,fb];cases x with
  |l y=>cases y<;>first|rfl|cases h.1
  |a cs=>exact O8 h.1
  |t _=>cases h.1
def aY4 {x:Sv U}{m m':Mm U}:Xj x=true->(match x with| .l y=>Sv.l (rsv m.ns y)|y=>y)=x:=λh=>by
 cases x with
 |l y=>cases y<;>first|rfl|cases h
 |_=>rfl
def wP {s:St U}:∀{xs:List Operand},tK (xs.map (uA s))=true->xs.map (dV s)=xs.map (uA s)
 |[],_=>rfl
 |x::xs,h=>by
  have h:(Xj (uA s x)&&tK (xs.map (uA s)))=true:=h;rw[aa] at h;rw[bm,bm,wP h.2];exact congrArg (·::_) (aY4 (m:=s.m) (m':=s.m) h.1)
variable {α:Type}
def bHc {o:Oper}{K:Option α}{z:α}(h:flc Y TI FZ s o K=some z):K=some z/\((O7 o.op=false/\zW Y TI s o.op=true)\/(O7 o.op=true/\∃x,FlC Y FZ s o x)):=by
 unfold flc at h;split at h
 ·rename_i f xa ats ho;cases hf:iJ FZ f with
  |none=>rw[hf] at h;cases h
  |some S=>
   rw[hf] at h;simp only at h;cases hz:lQ Y s.m S.ar (xa.toList.map (dV s)) with
   |none=>rw[hz] at h;cases h
   |some a=>
    rw[hz] at h;simp only at h;cases hb:(!S.wt&&(!S.fr&&tK (xa.toList.map (uA s)))) with
    |false=>rw[hb] at h;cases h
    |true=>rw[hb] at h;simp only[ac] at h;obtain⟨q,h1,h2⟩:=iY h;simp only[aa,cq] at hb;exact⟨h2, .inr ⟨by rw[ho];rfl,_,f,xa,ats,S,a,q,ho,hf,hz,hb.1,hb.2.1,by rw[wP hb.2.2];exact Xq hb.2.2,hb.2.2,h1,rfl⟩⟩
 ·rename_i hne;cases hb:zW Y TI s o.op with
  |false=>rw[hb] at h;cases h
  |true=>
   rw[hb] at h;refine⟨h, .inl ⟨?_,rfl⟩⟩;cases hc:O7 o.op with
   |false=>rfl
   |true=>
    unfold O7 at hc;split at hc
    ·rename_i f xa ats ho;exact absurd ho (hne f xa ats)
    ·cases hc
def aRl {al:List Oper}{K:Option α}{z:α}:∀(fs:List Nat),bNw Y TI FZ al s fs K=some z->K=some z/\∀j∈fs,∃o,al[j]? =some o/\o.guard=none/\aO0 s o.dst=true/\aO1 o o.dst=true/\((O7 o.op=false/\zW Y TI s o.op=true)\/(O7 o.op=true/\∃x,FlC Y FZ s o x))
 |[],h=>⟨h,by simp⟩
 |j::fs,h=>by
  have h:(match nth al j with
   |some o=>bif Cx o.guard&&(aO0 s o.dst&&aO1 o o.dst) then flc Y TI FZ s o (bNw Y TI FZ al s fs K) else none
   |none=>none)=some z:=h
  rw[aS] at h;cases ho:al[j]? with
  |none=>rw[ho] at h;cases h
  |some o=>
   rw[ho] at h;simp only at h;cases hb:(Cx o.guard&&(aO0 s o.dst&&aO1 o o.dst)) with
   |false=>rw[hb] at h;cases h
   |true=>
    rw[hb] at h;simp only[ac] at h;obtain⟨h1,h2⟩:=bHc h;obtain⟨h3,h4⟩:=aRl fs h1;simp only[aa] at hb;refine⟨h3,λj' hj=> ?_⟩;rcases aE.1 hj with rfl|hj
    ·refine⟨o,ho,?_,hb.2.1,hb.2.2,h2⟩;cases hg:o.guard with
     |none=>rfl
     |some x=>rw[hg] at hb;cases hb.1
    ·exact h4 j' hj
def oG {i j:Nat}:∀{l:List Nat},j∈rmv i l↔j∈l/\j≠i
 |[]=>by simp[rmv]
 |x::l=>by
  have e:rmv i (x::l)=bif Nat.beq x i then rmv i l else x::rmv i l:=rfl;rw[e];cases hb:Nat.beq x i with
  |true=>
   have:=ah hb;subst this;simp only[ac,aE];rw[oG];constructor
   ·rintro⟨h1,h2⟩;exact⟨.inr h1,h2⟩
   ·rintro⟨h1|h1,h2⟩
    ·exact absurd h1 h2
    ·exact⟨h1,h2⟩
  |false=>
   have hne:x≠i:=λe=>by subst e;rw[show Nat.beq x x=true from dp x] at hb;cases hb
   simp only[ab,aE];rw[oG];constructor
   ·rintro(rfl|⟨h1,h2⟩)
    ·exact⟨.inl rfl,hne⟩
    ·exact⟨.inr h1,h2⟩
   ·rintro⟨rfl|h1,h2⟩
    ·exact .inl rfl
    ·exact .inr ⟨h1,h2⟩
abbrev Rec:=List (Nat×Option (Nat×Obj))
def bks (R:Rec):List (Nat×Obj):=R.filterMap Prod.snd
def Rec.rm (R:Rec)(i:Nat):Rec:=R.filter λx=> !Nat.beq x.1 i
def Rec.aCK {R:Rec}{i:Nat}{x:Nat×Option (Nat×Obj)}:x∈R.rm i↔x∈R/\x.1≠i:=by
 unfold Rec.rm;rw[List.mem_filter];refine and_congr_right λ_=> ?_
 constructor
 ·intro h e;rw[e] at h;simp at h
 ·intro h;cases hb:Nat.beq x.1 i with
  |false=>rfl
  |true=>exact absurd (ah hb) h
def Rec.aCC {i:Nat}:∀{R:Rec},(R.rm i).map Prod.fst=rmv i (R.map Prod.fst)
 |[]=>rfl
 |x::R=>by
  have e:rmv i ((x::R).map Prod.fst)=bif Nat.beq x.1 i then rmv i (R.map Prod.fst) else x.1::rmv i (R.map Prod.fst):=rfl;rw[e,<-Rec.aCC];unfold Rec.rm;cases hb:Nat.beq x.1 i with
  |true=>rw[List.filter_cons_of_neg (by rw[hb];simp)];rfl
  |false=>rw[List.filter_cons_of_pos (by rw[hb];rfl)];rfl
def Hq {R:Rec}{p:Nat×Obj}:p∈bks R↔∃j,(j,some p)∈R:=by
 unfold bks;rw[List.mem_filterMap];constructor
 ·rintro⟨⟨j,q⟩,h1,h2⟩;exact⟨j,by have:q=some p:=h2;rw[<-this];exact h1⟩
 ·rintro⟨j,h⟩;exact⟨_,h,rfl⟩
def aKo (P : Program) (Y : Lay U) (FZ : List (Nat × Sum U)) (pn : List (Sv U × Value)) (al : List Oper) (s : St U) (a : Act) (x : Nat × Option (Nat × Obj)) : Prop := ∃ oj, al[x.1]? = some oj /\
  ((∃ b blk, x.2 = some (b, blk) /\ O7 oj.op = false /\ Flp P a oj blk /\ ∀ n, oj.dst = some n -> a.tmps.getD n undef = mkF oj.op b) \/
   (∃ y v, x.2 = none /\ O7 oj.op = true /\ FlC Y FZ s oj y /\ (oj.dst ≠ none -> (y, v) ∈ pn) /\ ∀ d, oj.dst = some d -> a.tmps.getD d undef = v))
def aKo.mono {pn pn':List (Sv U×Value)}{al:List Oper}{x:Nat×Option (Nat×Obj)}(h:aKo P Y FZ pn al s a x)(hp:∀p∈pn,p∈pn'):aKo P Y FZ pn' al s a x:=by obtain⟨oj,h1,h2⟩:=h;refine⟨oj,h1,h2.imp id ?_⟩;rintro⟨y,v,k1,k2,k3,k4,k5⟩;exact⟨y,v,k1,k2,k3,λh=>hp _ (k4 h),k5⟩
def aWg {oj:Oper}{d:Option Nat}(h:aJ8 oj d=true):∀n,oj.dst=some n->d≠some n:=λn hn e=>by
 subst e;simp only[aJ8,hn,aa] at h;have:=h.1;rw[show Nat.beq n n=true from dp n] at this;cases this
def aY5 {oj:Oper}{d:Option Nat}(h:aJ8 oj d=true):aO1 oj d=true:=by simp only[aJ8,aa] at h;exact h.2
def bHd {oj:Oper}{d:Option Nat}(h:aO1 oj d=true)(hc:O7 oj.op=false):aYo oj d=true:=by
 cases d with
 |none=>rfl
 |some n=>
  unfold aO1 at h;simp only at h;split at h
  ·rename_i f xa ats ho;rw[ho] at hc;cases hc
  ·exact h
def aRm {m m':Mm U}{kd:Kd}{x:Lf U}(h:aJ7 x=true):rdn m kd x=rdn m' kd x:=by cases x<;>first|rfl|cases h
def aRn {m m':Mm U}:∀{ks:List Kd} {cs:List (Lf U)},M6 cs=true->rds m ks cs=rds m' ks cs
 |[],[],_=>rfl
 |[],_::_,_=>rfl
 |_::_,[],_=>rfl
 |k::ks,c::cs,h=>by
  have h:(aJ7 c&&M6 cs)=true:=h;rw[aa] at h;simp only[rds,aRm (m:=m) (m':=m') h.1,aRn (m:=m) (m':=m') h.2]
def aKp {m m':Mm U}{kd:Kd}{x:Sv U}(h:Xj x=true):Na Y m kd x=Na Y m' kd x:=by
 cases x with
 |l y=>cases kd<;>simp only[Na,aRm (m:=m) (m':=m') (x:=y) h]
 |a cs=>cases kd<;>first|rfl|simp only[Na,aRn (m:=m) (m':=m') (cs:=cs) h]
 |t _=>cases kd<;>rfl
def aF9 {m m':Mm U}:∀(ks:List Kd) {xs:List (Sv U)},tK xs=true->lQ Y m ks xs=lQ Y m' ks xs
 |[],[],_=>rfl
 |[],_::_,_=>rfl
 |[k],[],_=>rfl
 |[k],[x],h=>by
  have h:(Xj x&&true)=true:=h;rw[fb] at h;exact aKp h
 |[k],_::_::_,_=>rfl
 |k::k'::ks,[],_=>rfl
 |k::k'::ks,x::xs,h=>by
  have h:(Xj x&&tK xs)=true:=h;rw[aa] at h;have e1:=aKp (Y:=Y) (m:=m) (m':=m') (kd:=k) h.1;have e2:=aF9 (m:=m) (m':=m') (k'::ks) h.2;have e3:∀m,lQ Y m (k::k'::ks) (x::xs)=(match Na Y m k x with
   |some a=>match lQ Y m (k'::ks) xs with
    |some b=>some ((a,b):rD U (k::k'::ks))
    |none=>none
   |none=>none):=λm=>rfl
  rw[e3,e3,e1,e2]
def FlC.keep {s':St U}{o:Oper}{y:Sv U}(h:FlC Y FZ s o y){d:Option Nat}(hd:aO1 o d=true)(ht:∀i,d≠some i->s'.t[i]? =s.t[i]?):FlC Y FZ s' o y:=by
 obtain⟨f,xa,ats,S,z,q,h1,h2,h3,h4,h5,h6,h7,h8,h9⟩:=h;have e:xa.toList.map (uA s')=xa.toList.map (uA s):=by
  refine gk λx hx=> ?_;cases x with
  |tmp i=>
   have:d≠some i:=λe=>by
    subst e;unfold aO1 at hd;rw[h1] at hd;simp only[cF] at hd;have:=hd _ hx;simp at this
   have:=ht i this;simp only[uA,aS,this]
  |_=>rfl
 have p':tK (xa.toList.map (uA s'))=true:=by rw[e];exact h7
 refine⟨f,xa,ats,S,z,q,h1,h2,?_,h4,h5,by rw[wP p'];exact Xq p',p',h8,h9⟩;rw[wP p',e,<-wP h7,<-h3,wP h7];exact aF9 _ h7
def aKo.keep {pn:List (Sv U×Value)}{al:List Oper}{x:Nat×Option (Nat×Obj)}{s':St U}{d:Option Nat}{v:Value}(h:aKo P Y FZ pn al s a x)(hd:∀oj,al[x.1]? =some oj->aJ8 oj d=true)(ht:∀i,d≠some i->s'.t[i]? =s.t[i]?):aKo P Y FZ pn al s' (a.put d v) x:=by
 obtain⟨oj,h1,h2⟩:=h;have h3:=hd oj h1;refine⟨oj,h1,?_⟩;rcases h2 with⟨b,blk,k1,k2,k3,k4⟩|⟨y,v',k1,k2,k3,k4,k5⟩
 ·exact .inl ⟨b,blk,k1,k2,k3.keep (bHd (aY5 h3) k2),λn hn=>by rw[O5 (aWg h3 n hn)];exact k4 n hn⟩
 ·exact .inr ⟨y,v',k1,k2,k3.keep (aY5 h3) ht,k4,λi hi=>by rw[O5 (aWg h3 i hi)];exact k5 i hi⟩
def aKo.keep' {pn:List (Sv U×Value)}{al:List Oper}{x:Nat×Option (Nat×Obj)}{s':St U}{d:Option Nat}(h:aKo P Y FZ pn al s a x)(hd:∀oj,al[x.1]? =some oj->aJ8 oj d=true)(ht:∀i,d≠some i->s'.t[i]? =s.t[i]?):aKo P Y FZ pn al s' a x:=by
 obtain⟨oj,h1,h2⟩:=h;have h3:=hd oj h1;refine⟨oj,h1,?_⟩;rcases h2 with h2|⟨y,v,k1,k2,k3,k4,k5⟩
 ·exact .inl h2
 ·exact .inr ⟨y,v,k1,k2,k3.keep (aY5 h3) ht,k4,k5⟩
def zZ {al:List Oper}{er:List Nat}{d:Option Nat}(h:aCm al.toArray er d=true):∀j∈er,∀oj,al[j]? =some oj->aJ8 oj d=true:=λj hj oj ho=>by
 unfold aCm at h;rw[cF] at h;have:=h j hj;rw[show al.toArray[j]? =some oj by simpa using ho] at this;exact this
def cntF (l:Array Bool):Nat:=l.toList.count false
def O9 {l:Array Bool}{i:Nat}(h:l.getD i true=false):cntF l=cntF (l.setIfInBounds i true)+1:=by
 unfold cntF;have hi:i<l.size:=by
  rw[ck] at h;cases hx:l[i]? with
  |none=>rw[hx] at h;cases h
  |some b=>exact(bw.1 hx).1
 have hv:l.toList[i]=false:=by rw[ck,cQ hi] at h;simpa using h
 rw[jz];have key:∀(l:List Bool) (i:Nat),l[i]? =some false->l.count false=(l.set i true).count false+1:=by
  intro l;induction l with
  |nil=>intro i h;simp at h
  |cons x l ih=>
   intro i h;cases i with
   |zero=>simp at h;subst h;simp
   |succ i=>have:=ih i (by simpa using h);simp only[gn,List.count_cons,this];omega
 exact key _ _ (by rw[ae (by simpa using hi),hv])
def aRo {al:List Oper}{o:Oper}(hg:o.guard=none){K:St U->Option α}:grd Y TI FZ al o s K=one Y TI FZ o s K:=by unfold grd aOz;rw[hg]
def P5 {os:Array Oper}{listed:Array Bool}{i:Nat}(h:i∈Region.ready .any os listed):listed.getD i true=false:=(mem_ready.1 h).1
def bKq {o:Oper}{y:Sv U}(h:FlC Y FZ s o y):Nat.ble (vG FZ o.op) 1=true:=by obtain⟨f,xa,ats,S,z,q,h1,h2,h3,h4,h5,_⟩:=h;rw[h1];simp only[vG,h2,h4,ab];rfl
def bKr {o:Oper}(h:zW Y TI s o.op=true):Nat.ble (vG FZ o.op) 1=true:=by cases ho:o.op<;>rw[ho] at h<;>first|rfl|cases h
variable {al:List Oper} {Q:Exit->Act->World->Prop} {D:Nat->Prop}
def pI {a0:Option Nat}{listed:Array Bool}{i:Nat}(h:fM a0 (listed.setIfInBounds i true)=true):fM a0 listed=true:=by
 cases hn:fM a0 listed with
 |true=>rfl
 |false=>rw[mE hn] at h;cases h
def bKs {o:Op}(h:erp s o=true):vG FZ o=0:=by cases o<;>first|rfl|cases h
def bKt {o:Oper}(r:bE Y.C E s a w β)(h:erp s o.op=true){v:Value}(hv:(execOp a.eval o).run P w= .ok (.value v) w)(w':World):(execOp a.eval o).run P w'= .ok (.value v) w':=by
 unfold erp at h;rw[cr] at h;rcases h with h|h
 ·exact Di h hv w'
 ·split at h
  ·rename_i b t x y u hoo;exact bBr r hoo h hv w'
  ·cases h
def bHe {os:Array Oper}{a0:Option Nat}{Q:Exit->Act->World->Prop}{S:World->Prop}{i:Nat}{oi:Oper}{v:Value}{n:Nat}{listed:Array Bool}(hi:os[i]? =some oi)(hs:Region.noSelect os=true)(ht:tkY os a0 i listed=true)(hD:Dn .any os listed)
  (hQ:∀c a w,Q (.panic c) (a.put oi.dst v) w->Q (.panic c) a w) (hy:YieldsIf P os S oi v a) (hp:aCl oi.op=true->YieldsIf P os (λ_=>True) oi v a) (hS:fM a0 listed=true->S w)
  (h:dN P .any os a0 Q S n (listed.setIfInBounds i true) (a.put oi.dst v) w):dN P .any os a0 Q S (n+1) listed a w:=by
 have hr:=(pG ht).1;simp only[tkY,aa] at ht;have hf:=Region.free_spec hi ht.1.1;cases a0 with
 |none=>exact kK hi (Region.noSelect_spec hs) hQ (by simp) (λ_ _ _=>rfl) n listed a w hf hD hr hy (hS rfl) h
 |some b=>
  have ha:=ht.2;simp only[aa,cr,hi] at ha;have hne:some b≠some i:=λe=>by injection e with e;subst e;simp at ha
  rcases ha.2 with ha|ha
  ·have hbar:∀listed,Dn .any os listed->listed.getD i true=false->fM (some b) listed=true:=λlisted hD hun=>by
    simp only[fM,cq];exact getD_in (Sd hD hun 40 b ha)
   exact kK hi (Region.noSelect_spec hs) hQ hne hbar n listed a w hf hD hr hy (hS (hbar listed hD (P5 hr))) h
  ·exact Cn hi (Region.noSelect_spec hs) hQ hne n listed a w hf hr (hp ha) hS h
def aY6 (G:Good P g Y TI FZ)(hs:Region.noSelect al.toArray=true)(hP:E.prm=[]){bs:List Nat}{Yb:Nat->Prop}{wS:World}(hpin:∀b∈bs,∃k,Yb k/\((Sv.l (.box b 0):Sv U),Value.pointer (some ⟨k,0,none⟩))∈E.pin){a0:Option Nat}{kd:Option (Nat×Nat)}(hkd:∀n k,kd=some (n,k)->(wS,n,k)∈E.fr):
  ∀(f:Nat) (pd:List Nat) (R:Rec) (l:List (Nat×Bool)) (fs:List Nat) (st ps:Bool) (s:St U) (K:St U->Option α) (z:α),(∀i∈l,∀o,al[i.1]? =some o->∀n,Wr al o n->D n)->Cr Y TI FZ al a0 bs kd l fs st ps s K=some z->
  (∀s' a w β,Ag D s s'->K s'=some z->bE Y.C E s' a w β->Q .normal a w)->(∀j∈pd,j∈fs)->(∀x∈R,x.1∈fs/\x.1∉pd)->(∀x∈R,∀y∈R,x.1≠y.1->∀p q,x.2=some p->y.2=some q->p.1≠q.1)->(∀x∈R,∀y∈R,x.1=y.1->x=y)->
  ∀listed,Dn .any al.toArray listed->aGw al.toArray a0 f pd (R.map Prod.fst) l listed=true->∀a w β (hL:∀x∈bks R,E.w0.heap.size<=x.1),(ps=true->fM a0 listed=false)->(fM a0 listed=true->Bel Yb wS w)->(st=true->w=wS/\(∀k,Yb k->(E.ahs (bks R) hL).X β k)/\O6 bs Yb wS.heap.size s β/\R=[])->(∀x∈R,aKo P Y FZ E.pin al s a x)->bE Y.C (E.ahs (bks R) hL) s a w β->dN P .any al.toArray a0 (NoPanic Q) (Bel Yb wS) (cntF listed) listed a w:=by
 intro f;induction f generalizing E with
 |zero=>intro pd R l fs st ps s K z _ _ _ _ _ _ _ listed _ hc;cases hc
 |succ f ih=>
  intro pd R l fs st ps s K z hD h hQ hpd hR hR2 hR3 listed hdn hc a w β hL hps hb hI hE r;cases l with
  |nil=>
   simp only[aGw,aa] at hc;have hR0:R=[]:=by
    have:=hc.1;cases R with
    |nil=>rfl
    |cons x R=>cases this
   subst hR0;exact pE (P:=P) (a0:=a0) (S:=Bel Yb wS) (Q:=NoPanic Q) (by simpa using hc.2) (hQ s a w β (Ag.refl s) h r.aDN) _
  |cons x l=>
   obtain⟨i,fl⟩:=x;simp only[Cr,aS] at h;cases ho:al[i]? with
   |none=>rw[ho] at h;cases h
   |some o=>
    rw[ho] at h;simp only at h;have hDi:=hD (i,fl) (by simp) o ho;have hD':∀j∈l,∀o,al[j.1]? =some o->∀n,Wr al o n->D n:=λj hj=>hD j (by simp[hj]);have hg:al.toArray[i]? =some o:=by simpa using ho
    cases fl with
    |true=>
     simp only[aGw,aa,hg] at hc;cases st with
     |false=>
      replace h:(bif erp s o.op&&noG o then one Y TI FZ o s (λs'=>Cr Y TI FZ al a0 bs kd l fs false ps s' K) else none)=some z:=h;cases hb0:(erp s o.op&&noG o) with
      |false=>rw[hb0] at h;cases h
      |true=>
       rw[hb0] at h;simp only[ac] at h;rw[aa] at hb0;have hgd:o.guard=none:=by
        have:=hb0.2;unfold noG at this;split at this
        ·assumption
        ·cases this
       have hw:Region.wanted o (yielded al.toArray a.tmps)=true:=by simp[Region.wanted,hgd]
       obtain⟨hr,_⟩:=pG hc.2.1;have hcl:vG FZ o.op=0:=bKs hb0.1;unfold one at h;obtain⟨x,s2,k1,⟨v,p1,p2,p3⟩,k3,k4,k5⟩:=Hg G r rfl hcl h;have hy:YieldsIf P al.toArray (λ_=>True) o v a:= .inl ⟨hw,λw' _=>bKt r hb0.1 (p1 w (Ext.refl w)) w'⟩;have ag:Ag (Wr al o) s (put s2 o.dst x):=Ag.put ⟨λn hn=>by rw[k3],by rw[k3],by rw[k4],k5⟩ (λn e=> .inl e);have hWr:∀n,Wr al o n->o.dst=some n:=λn hn=>by
        rcases hn with hn|⟨j,b,oj,e,_⟩
        ·exact hn
        ·rw[hgd] at e;cases e
       rw[O9 (P5 hr)];refine bHe hg hs hc.2.1 hdn (λ_ _ _ h=>h) (hy.imp (λ⟨h1,h2⟩=>⟨h1,λw' _=>h2 w' trivial⟩) id) (λ_=>hy) hb ?_;exact ih hP hpin hkd pd R l fs false ps _ K z hD' k1 (λs3 a3 w3 β3 g1=>hQ s3 a3 w3 β3 ((ag.mono hDi).trans g1)) hpd hR hR2 hR3 _ (hdn.set hr) hc.2.2 _ w β hL (λhp=>mE (hps hp)) (λhn=>hb (pI hn)) (λh=>by cases h) (λy hy=>(hE y hy).keep (zZ hc.1 _ (cj.2 ⟨y,hy,rfl⟩)) (λi hi=>ag.t i λhn=>hi (hWr i hn))) (p2.put λ_=>p3)
     |true=>
      simp only[ac] at h;obtain⟨rfl,hYX,hI,hR0⟩:=hI rfl;obtain⟨hr,_⟩:=pG hc.2.1;obtain⟨s1,r1,h1,h2⟩:=Hl r h;have hI1:O6 bs Yb w.heap.size s1 β:=hI.am r.hp h1.m;rw[O9 (P5 hr)];rcases h2 with⟨hw,h2⟩|⟨hw,h2⟩
      ·cases hel:erl bs s1 o.op with
       |false=>rw[hel] at h2;cases h2
       |true=>rw[hel] at h2;simp only[ac] at h2;have h2':=h2;unfold one at h2';obtain⟨x,s2,k1,⟨v,p1,p2,p3⟩,k3,k4,k5⟩:=Hg G r1 rfl (bKp hel) h2';have hy:YieldsIf P al.toArray (Bel Yb w) o v a:= .inl ⟨hw,λw' he=>bDu (al:=al) G r1 hI1 hYX hel (p1 w (Ext.refl w)) h2 w' he⟩;have ag:Ag (Wr al o) s (put s2 o.dst x):=Ag.put ⟨λn hn=>by rw[k3];exact h1.t n hn,by rw[k3];exact h1.tl,by rw[k4];exact h1.fr,h1.m.trans k5⟩ (λn e=> .inl e);refine bHe hg hs hc.2.1 hdn (λ_ _ _ h=>h) hy (λhp=> .inl ⟨hw,λw' _=>Di hp (p1 w (Ext.refl w)) w'⟩) hb ?_;exact ih hP hpin hkd pd R l fs true ps _ K z hD' k1 (λs3 a3 w3 β3 g1=>hQ s3 a3 w3 β3 ((ag.mono hDi).trans g1)) hpd hR hR2 hR3 _ (hdn.set hr) hc.2.2 _ w β hL (λhp=>mE (hps hp)) (λhn=>hb (pI hn)) (λ_=>⟨rfl,hYX,(hI1.am r1.hp k5).am p2.hp (by rw[bHb];exact Am.refl _),hR0⟩) (by rw[hR0];simp) (p2.put λ_=>p3)
      ·have hy:YieldsIf P al.toArray (Bel Yb w) o undef a:= .inr ⟨hw,rfl⟩;have ag:Ag (Wr al o) s (put s1 o.dst (.l .und)):=h1.put (λn e=> .inl e);refine bHe hg hs hc.2.1 hdn (λ_ _ _ h=>h) hy (λ_=> .inr ⟨hw,rfl⟩) hb ?_;exact ih hP hpin hkd pd R l fs true ps _ K z hD' h2 (λs3 a3 w3 β3 g1=>hQ s3 a3 w3 β3 ((ag.mono hDi).trans g1)) hpd hR hR2 hR3 _ (hdn.set hr) hc.2.2 _ w β hL (λhp=>mE (hps hp)) (λhn=>hb (pI hn)) (λ_=>⟨rfl,hYX,hI1.am r1.hp (by rw[bHb];exact Am.refl _),hR0⟩) (by rw[hR0];simp) (r1.put (x:= .l .und) (v:=undef) λ_=>rfl)
    |false=>
     have hfull:=h;simp only[ab] at h;cases hno:noG o with
     |false=>rw[hno] at h;cases h
     |true=>
      rw[hno] at h;simp only[ac] at h;have hgd:o.guard=none:=by
       unfold noG at hno;split at hno
       ·assumption
       ·cases hno
      have hw:Region.wanted o (yielded al.toArray a.tmps)=true:=by simp[Region.wanted,hgd]
      obtain⟨hK,hF⟩:=aRl fs h;have hWr:∀n,Wr al o n->o.dst=some n:=λn hn=>by
       rcases hn with hn|⟨j,b,oj,e,_⟩
       ·exact hn
       ·rw[hgd] at e;cases e
      have keepAg:∀{s':St U},Ag (Wr al o) s s'->∀i,o.dst≠some i->s'.t[i]? =s.t[i]? :=λhag i hi=>hag.t i λhn=>hi (hWr i hn);simp only[aGw] at hc;cases him:Gv i (R.map Prod.fst) with
      |true=>
       rw[him] at hc;simp only[ac,hg,aa] at hc;obtain⟨hoff,hna,hc⟩:=hc;rw[cq] at hna;obtain⟨x,hx,hxi⟩:=cj.1 (mI.1 him);have hR':∀y∈R.rm i,y∈R/\y.1≠i:=λy hy=>Rec.aCK.1 hy;have hoff':∀y∈R.rm i,∀oj,al[y.1]? =some oj->aJ8 oj o.dst=true:=λy hy=>zZ hoff _ (by rw[<-Rec.aCC];exact cj.2 ⟨y,hy,rfl⟩);have hLs:∀p∈bks (R.rm i),p∈bks R:=λp hp=>by
        obtain⟨j,hj⟩:=Hq.1 hp;exact Hq.2 ⟨j,(hR' _ hj).1⟩
       have hL':∀p∈bks (R.rm i),E.w0.heap.size<=p.1:=λp hp=>hL p (hLs p hp);rw[<-Rec.aCC] at hc;obtain⟨oj,e1,e2⟩:=hE x hx;rw[hxi,ho] at e1;have e1:=ak e1;subst e1;obtain⟨o2,q0,_,_,_,q1⟩:=hF x.1 (hR x hx).1;rw[hxi,ho] at q0;have q0:=ak q0;subst q0;have hcl:Nat.ble (vG FZ o.op) 1=true:=by
        rcases q1 with⟨_,q1⟩|⟨_,y,q1⟩
        ·exact bKr q1
        ·exact bKq q1
       rw[hcl] at hK;simp only[ac] at hK;have rcc:∀(s':St U) (x0:Sv U) β',s'.t=s.t->s'.fr=s.fr->Am s.m s'.m->Cr Y TI FZ al a0 bs kd l (rmv i fs) false (ps||zU a0 i) (EV.put s' o.dst x0) K=some z->bE Y.C (E.ahs (bks (R.rm i)) hL') (EV.put s' o.dst x0) a w β'->dN P .any al.toArray a0 (NoPanic Q) (Bel Yb wS) (cntF listed) listed a w:=λs' x0 β' k4 k5 k6 k1 r'=>by
        have ag:Ag (Wr al o) s (EV.put s' o.dst x0):=Ag.put ⟨λn _=>by rw[k4],by rw[k4],k5,k6⟩ (λn e=> .inl e);exact ih hP hpin hkd pd (R.rm i) l (rmv i fs) false (ps||zU a0 i) _ K z hD' k1 (λs3 a3 w3 β3 g1=>hQ s3 a3 w3 β3 ((ag.mono hDi).trans g1)) (λj hj=>oG.2 ⟨hpd j hj,λe=>(hR x hx).2 (by rw[hxi,<-e];exact hj)⟩) (λy hy=>⟨oG.2 ⟨(hR y (hR' y hy).1).1,(hR' y hy).2⟩,(hR y (hR' y hy).1).2⟩)
         (λy hy y' hy'=>hR2 y (hR' y hy).1 y' (hR' y' hy').1) (λy hy y' hy'=>hR3 y (hR' y hy).1 y' (hR' y' hy').1) listed hdn hc a w β' hL' (λhp=>hps (by rw[hna,gh] at hp;exact hp)) hb (λh=>by cases h) (λy hy=>(hE y (hR' y hy).1).keep' (hoff' y hy) (keepAg ag)) r'
       rcases e2 with⟨b,blk,e3,e4,e5,e6⟩|⟨y,v,e3,e4,e5,e6,e7⟩
       ·have hfo:zW Y TI s o.op=true:=by
         rcases q1 with⟨_,q1⟩|⟨q1,_⟩
         ·exact q1
         ·rw[e4] at q1;cases q1
        have hmem:(b,blk)∈bks R:=Hq.2 ⟨x.1,by rw[<-e3];exact hx⟩;have hK':stp Y TI FZ s o.op (λx0 s'=>Cr Y TI FZ al a0 bs kd l (rmv i fs) false (ps||zU a0 i) (EV.put s' o.dst x0) K)=some z:=hK;obtain⟨x0,s',β',k1,k2,k3,k4,k5,k6⟩:=aY3 (L':=bks (R.rm i)) (hL':=hL') G r hmem (λp hp=>by
         obtain⟨j,hj⟩:=Hq.1 hp;exact⟨hLs p hp,λe=>hR2 _ (hR' _ hj).1 x hx (by rw[hxi];exact(hR' _ hj).2) p (b,blk) rfl e3 e⟩) hP e5 hfo hK'
        exact rcc s' x0 β' k4 k5 k6 k1 (k2.aBQ (λ_=>k3) e6)
       ·obtain⟨ff,xa,ats,S,z1,q,c1,c2,c3,c4,c5,c6,c7,c8,c9⟩:=e5;have hff:(xB Y S.rs||lI (xa.toList.map (dV s)))=true:=by rw[c6,jc]
        have hK':stp Y TI FZ s o.op (λx0 s'=>Cr Y TI FZ al a0 bs kd l (rmv i fs) false (ps||zU a0 i) (EV.put s' o.dst x0) K)=some z:=hK;have hb2:(match lQ Y s.m S.ar (xa.toList.map (dV s)) with
         |some a=>bif S.wt then(match xa.toList.map (dV s) with
          |[x,_]=>match parts x with
           |some cs=>bd (S.m a) λr=>match bY Y S.rs r with
            |[(_,ds),(_,[.int .i64 k])]=>match wrm Y s.m cs ds with
             |some us=>bif dist (bR8 us)&&aJ1 (U:=U) S.ar then Cr Y TI FZ al a0 bs kd l (rmv i fs) false (ps||zU a0 i) (EV.put ⟨s.t,⟨bR7 us s.m.o,Nat.succ s.m.k,s.m.ns⟩,s.fr⟩ o.dst (.l (.int .i64 k))) K else none
             |none=>none
            |_=>none
           |none=>none
          |_=>none)
          else bif S.fr then bd (S.m a) λr=>
           let q:=jK s.m.k (len s.m.o) (bY Y S.rs r)
           Cr Y TI FZ al a0 bs kd l (rmv i fs) false (ps||zU a0 i) (EV.put ⟨s.t,⟨s.m.o++q.2,s.m.k,s.m.ns⟩,s.fr⟩ o.dst (vE q.1)) K
          else bif xB Y S.rs||lI (xa.toList.map (dV s)) then bd (S.m a) λr=>Cr Y TI FZ al a0 bs kd l (rmv i fs) false (ps||zU a0 i) (EV.put s o.dst (vE (bY Y S.rs r))) K
          else match aVi s.m (xa.toList.map (dV s)) with
           |some (i',c')=>bd (S.m a) λr=>Cr Y TI FZ al a0 bs kd l (rmv i fs) false (ps||zU a0 i) (EV.put s o.dst (vE (Iy i' c' (bY Y S.rs r)))) K
           |none=>none
         |none=>none)=some z:=by
         rw[c1] at hK';unfold stp at hK';simp only[c2] at hK';rw[c4] at hK';rw[c4];exact hK'
        rw[c3] at hb2;simp only[c4,c5,hff,ab,ac] at hb2;obtain⟨q',d1,d2⟩:=iY hb2;rw[c8] at d1;have d1:=ak d1;subst d1;rw[c9] at d2;have hbk:bks (R.rm i)=bks (R.rm i):=rfl;have hsame:∀p,p∈bks R->p∈bks (R.rm i):=λp hp=>by
         obtain⟨j,hj⟩:=Hq.1 hp;refine Hq.2 ⟨j,Rec.aCK.2 ⟨hj,λe=> ?_⟩⟩;have:=hR3 _ hj x hx (by rw[hxi];exact e);rw[<-this] at e3;cases e3
        have r':bE Y.C (E.ahs (bks (R.rm i)) hL') s a w β:=r.aCJ hLs;exact rcc s _ β rfl rfl (Am.refl _) d2 (r'.aBQ (v:=v) (λh=>r'.hp.pin _ (e6 h)) e7)
      |false=>
       rw[him] at hc;simp only[ab,aa,cF] at hc;obtain⟨hir,hall⟩:=hc;have hir:i∈Region.ready .any al.toArray listed:=by simpa using hir
       have hiR:∀x∈R,x.1≠i:=λx hx e=>by
        have:Gv i (R.map Prod.fst)=true:=mI.2 (cj.2 ⟨x,hx,e⟩);rw[this] at him;cases him
       obtain⟨m,hm⟩:∃m,cntF listed=m+1:=⟨_,O9 (P5 hir)⟩;have hcnt:∀{j},j∈Region.ready .any al.toArray listed->m=cntF (listed.setIfInBounds j true):=λhj=>by
        have:=O9 (P5 hj);omega
       rw[hm];refine jT rfl (λe=>by rw[e] at hir;simp at hir) λj hjr=> ?_;have hj0:=hall j hjr;cases hij:Nat.beq j i with
       |true=>
        have e:=ah hij;subst e;rw[hij] at hj0;simp only[ac,hg,aa] at hj0;obtain⟨hoff,hay,hc⟩:=hj0;have hoff':∀y∈R,∀oj,al[y.1]? =some oj->aJ8 oj o.dst=true:=λy hy=>zZ hoff _ (cj.2 ⟨y,hy,rfl⟩);have rcc:∀(s':St U) v w' β',Ag (Wr al o) s s'->Cr Y TI FZ al a0 bs kd l (rmv j fs) false (ps||zU a0 j) s' K=some z->bE Y.C (E.ahs (bks R) hL) s' (a.put o.dst v) w' β'->(fM a0 (listed.setIfInBounds j true)=true->Bel Yb wS w')->(fM a0 (listed.setIfInBounds j true)=true->Bel Yb wS w')/\dN P .any al.toArray a0 (NoPanic Q) (Bel Yb wS) m (listed.setIfInBounds j true) (a.put o.dst v) w':=λs' v w' β' g1 g2 g3 hb'=>by
         refine⟨hb',?_⟩;rw[hcnt hjr];exact ih hP hpin hkd (rmv j pd) R l (rmv j fs) false (ps||zU a0 j) s' K z hD' g2 (λs2 a2 w2 β2 q1=>hQ s2 a2 w2 β2 ((g1.mono hDi).trans q1)) (λx hx=>oG.2 ⟨hpd x (oG.1 hx).1,(oG.1 hx).2⟩) (λx hx=>⟨oG.2 ⟨(hR x hx).1,hiR x hx⟩,λh=>(hR x hx).2 (oG.1 h).1⟩) hR2 hR3 _ (hdn.set hjr) hc _ w' β' hL (λhp=>(Bool.or_eq_true_iff.1 hp).elim (λhp=>mE (hps hp)) λhp=>by rw[We hay rfl,hp,ba,dl]) hb' (λh=>by cases h) (λy hy=>(hE y hy).keep (hoff' y hy) (keepAg g1)) g3
        cases hcl:Nat.ble (vG FZ o.op) 1 with
        |true=>rw[hcl] at hK;simp only[ac] at hK;rw[<-aRo (al:=al) hgd] at hK;exact wpOp_step hg λK' hK'=>aTv G r hK λs' v w' β' g1 g2 g3 g4=>hK' _ _ (rcc s' v w' β' g1 g2 g3 λhn=>(hb (pI hn)).trans (Bel.aBN (g4 hcl)))
        |false=>
         rw[hcl] at hK;simp only[ab] at hK;cases hop:(stW bs s o.op||ptW FZ bs s o.op) with
         |false=>
          rw[hop] at hK;simp only[ab] at hK;rw[<-aRo (al:=al) hgd] at hK;refine wpOp_step hg λK' hK'=>aTv G r hK λs' v w' β' g1 g2 g3 g4=>hK' _ _ ?_;cases hun:unO kd s'.m.o with
          |false=>
           rw[hun,cL] at g2;cases hia:(zU a0 j||ps) with
           |false=>rw[hia] at g2;cases g2
           |true=>
            rw[hia] at g2;refine rcc s' v w' β' g1 g2 g3 λhn=> ?_;rw[cr] at hia;rcases hia with hia|hia
            ·rw[We hay rfl,hia,ba,dl] at hn;cases hn
            ·rw[mE (hps hia)] at hn;cases hn
          |true=>
           rw[hun] at g2;simp only[jb,ac] at g2;refine rcc s' v w' β' g1 g2 g3 λ_=> ?_;cases hk:kd with
           |none=>rw[hk] at hun;cases hun
           |some p=>obtain⟨n0,k0⟩:=p;rw[hk] at hun;exact Bel.aBN (g3.unt (hkd n0 k0 hk) hun)
         |true=>
          rw[hop] at hK;simp only[ac] at hK;cases hoo:o.op with
          |store t x y=>
           rw[hoo] at hop;simp only[stW,ptW,gh] at hop;split at hop
           ·rename_i b off hx;unfold one stp at hK;rw[hoo] at hK;simp only[hx] at hK;split at hK
            ·rename_i ti b' off' ps h1 h2 h3;cases h2;split at hK
             ·rename_i T cs us rv cv h4;rw[aS] at h4;cases hbb:(Nat.beq (len ps) ti.k&&(Nat.ble (off+ti.k) (len cs)&&Cq ps)) with
              |false=>rw[hbb] at hK;cases hK
              |true=>
               rw[hbb] at hK;simp only[ac] at hK;simp only[aa,bK] at hbb;obtain⟨w',β',t',bb,e1,r1,hev,hbel,e2,e3⟩:=Ha G.ti r hoo h1 hx h3 h4 (ah hbb.1) (bf hbb.2.1) hbb.2.2;have hyb:Yb bb:=by obtain⟨k,k1,k2⟩:=hpin b (mI.1 hop);obtain⟨_,e,t2,j1,j2,j3⟩:=(r.hp.pin _ k2:(Lf.box b 0:Lf U).mean Y.C w ((E.ahs (bks R) hL).X β) β s.m _);rw[h4] at j1;injection j1 with j1;subst j1;obtain⟨b2,m1,m2⟩:=j3 rfl;injection m2 with m2;injection m2 with m2;injection m2 with m2;rw[e2] at j2;injection j2 with j2;subst j2;rw[e3] at m1;injection m1 with m1;subst m1;subst m2;exact k1
               have hb':fM a0 (listed.setIfInBounds j true)=true->Bel Yb wS w':=λhn=>(hb (pI hn)).trans ⟨hbel.os,hbel.tape,hbel.output,hbel.size,λk hk hy=>hbel.block k hk λe=>hy (by rw[e];exact hyb)⟩;have ag:Ag (Wr al o) s (put (trn s b (.box T (K5 cs off ps) (K5 us off (ps.map λ_=>Nat.succ s.m.k))) rv) o.dst (.l .any)):=Ag.put (s:=s) (s':=trn s b (.box T (K5 cs off ps) (K5 us off (ps.map λ_=>Nat.succ s.m.k))) rv) (D:=Wr al o) ⟨λn _=>rfl,rfl,rfl,Ni h4 (ah hbb.1) (bf hbb.2.1) (r.aBR h4)⟩ (λn e=>Or.inl e);refine wpOp_step hg λK' hK'=> ?_;rw[cH hw];exact wpo (.inr ⟨e1,rfl⟩) (hK' _ _ (rcc _ _ w' β' ag hK (r1.put λ_=>trivial) hb'))
             ·cases hK
            ·rename_i h2 _;cases h2
            ·rename_i h2 _;cases h2
            ·cases hK
           ·cases hop
          |call cc=>
           obtain⟨f,xa,ats,S,b,ys,rfl,hS,hxs,hwt,hfr,hmem⟩:∃f xa ats S b ys,cc=⟨.value (.func f),xa,ats⟩/\iJ FZ f=some S/\xa.toList.map (dV s)= .l (.box b 0)::ys/\S.wt=true/\S.fr=true/\Gv b bs=true:=by
            rw[hoo] at hop;simp only[stW,ptW,cL] at hop;split at hop
            ·rename_i f xa ats he;split at hop
             ·rename_i S b ys h1 h2;simp only[aa] at hop;injection he with he;exact⟨f,xa,ats,S,b,ys,he,h1,h2,hop.1,hop.2.1,hop.2.2⟩
             ·cases hop
            ·cases hop
           unfold one stp at hK;rw[hoo] at hK;simp only[hS,hwt,hfr,dw,ac] at hK;obtain⟨x,s',i',bb,k1,⟨ys',k2⟩,k3,k4,k5,k6,k7⟩:=aF6 G.lay r hoo (G.fs f S (aI3 hS)) hwt hfr hK;rw[hxs] at k2;injection k2 with k2 _;injection k2 with k2;injection k2 with k2 _;subst k2;have hyb:Yb bb:=by obtain⟨k,q1,q2⟩:=hpin b (mI.1 hmem);have e:=k3 _ (r.hp.pin _ q2);injection e with e;injection e with e;injection e with e;subst e;exact q1
           have ag:Ag (Wr al o) s (put s' o.dst x):=Ag.put ⟨λn hn=>by rw[k5],by rw[k5],by rw[k6],k7⟩ (λn e=> .inl e);refine wpOp_step hg λK' hK'=> ?_;rw[cH hw];exact k4 _ _ λv w' β' m1 m2 m3=>hK' _ _ (rcc _ v w' β' ag k1 (m1.put m2) λhn=>(hb (pI hn)).trans ⟨m3.os,m3.tape,m3.output,m3.size,λk hk hy=>m3.block k hk λe=>hy (by rw[e];exact hyb)⟩)
          |_=>rw[hoo] at hop;simp[stW,ptW] at hop
       |false=>
        rw[hij] at hj0;simp only[ab,aa] at hj0;obtain⟨hjp,hj0⟩:=hj0;have hjp:=mI.1 hjp;obtain⟨oj,ho',hgj,hany,hself,hfl⟩:=hF j (hpd j hjp);have hgi:al.toArray[j]? =some oj:=by simpa using ho'
        rw[hgi] at hj0;simp only[aa] at hj0;obtain⟨hoff,hc⟩:=hj0;have hoff':∀y∈R,∀o,al[y.1]? =some o->aJ8 o oj.dst=true:=λy hy=>zZ hoff _ (cj.2 ⟨y,hy,rfl⟩);have hjR:∀x∈R,x.1≠j:=λx hx e=>(hR x hx).2 (by rw[e];exact hjp);have hget:∀(v:Value) n,oj.dst=some n->(a.put oj.dst v).tmps.getD n undef=v:=λv n hn=>by
         rw[hn];simp only[aO0,hn,aS] at hany;have hlt:n<a.tmps.size:=by
          rw[r.tsz];cases hx:s.t[n]? with
          |none=>rw[hx] at hany;cases hany
          |some x=>exact lt_of_some hx
         simp only[Act.put];rw[wX _ _ _ _ _ hlt,cH rfl]
        have rcc:∀(E':Env U g) (hP':E'.prm=[]) (hpin':∀b∈bs,∃k,Yb k/\((Sv.l (.box b 0):Sv U),Value.pointer (some ⟨k,0,none⟩))∈E'.pin) (hkd':∀n k,kd=some (n,k)->(wS,n,k)∈E'.fr) (hback:∀s a w β,bE Y.C E' s a w β->bE Y.C E s a w β) (hpn:∀p∈E.pin,p∈E'.pin) (q:Option (Nat×Obj)) v w' β' (hL':∀x∈bks ((j,q)::R),E'.w0.heap.size<=x.1),(∀p,q=some p->∀y∈R,∀p',y.2=some p'->p.1≠p'.1)->aKo P Y FZ E'.pin al s (a.put oj.dst v) (j,q)->bE Y.C (E'.ahs (bks ((j,q)::R)) hL') s (a.put oj.dst v) w' β'->(fM a0 (listed.setIfInBounds j true)=true->Bel Yb wS w')->(fM a0 (listed.setIfInBounds j true)=true->Bel Yb wS w')/\dN P .any al.toArray a0 (NoPanic Q) (Bel Yb wS) m (listed.setIfInBounds j true) (a.put oj.dst v) w':=λE' hP' hpin' hkd' hback hpn q v w' β' hL' hq hEr r' hb'=>by
         refine⟨hb',?_⟩;rw[hcnt hjr];refine ih hP' hpin' hkd' (rmv j pd) ((j,q)::R) ((i,false)::l) fs false ps s K z hD (by simp only[Cr,aS,ho];exact hfull) (λs' a w β g1 g2 g3=>hQ s' a w β g1 g2 (hback _ _ _ _ g3)) (λx hx=>hpd x (oG.1 hx).1) (λx hx=> ?_) (λx hx y hy hne p p' hp hp'=> ?_) (λx hx y hy he=> ?_) _ (hdn.set hjr) hc _ w' β' hL' (λhp=>mE (hps hp)) hb' (λh=>by cases h) (λy hy=> ?_) r'
         ·rcases aE.1 hx with rfl|hx
          ·exact⟨hpd j hjp,λh=>(oG.1 h).2 rfl⟩
          ·exact⟨(hR x hx).1,λh=>(hR x hx).2 (oG.1 h).1⟩
         ·rcases aE.1 hx with rfl|hx<;>rcases aE.1 hy with rfl|hy
          ·exact absurd rfl hne
          ·exact hq p hp y hy p' hp'
          ·exact λe=>hq p' hp' x hx p hp e.symm
          ·exact hR2 x hx y hy hne p p' hp hp'
         ·rcases aE.1 hx with rfl|hx<;>rcases aE.1 hy with rfl|hy
          ·rfl
          ·exact absurd he.symm (hjR y hy)
          ·exact absurd he (hjR x hx)
          ·exact hR3 x hx y hy he
         ·rcases aE.1 hy with rfl|hy
          ·exact hEr
          ·exact((hE y hy).mono hpn).keep (hoff' y hy) (λ_ _=>rfl)
        have hwj:Region.wanted oj (yielded al.toArray a.tmps)=true:=by simp[Region.wanted,hgj]
        refine wpOp_step hgi λK' hK'=> ?_;rw[cH hwj];rcases hfl with⟨hcl,hok⟩|⟨hcl,y0,hfc⟩
        ·obtain⟨blk,hFl⟩:=aRd G r hok;have hbw:E.w0.heap.size<=w.heap.size:=r.hp.ext.size;have hL':∀x∈bks ((j,some (w.heap.size,blk))::R),E.w0.heap.size<=x.1:=λx hx=>by
          have hx:x∈(w.heap.size,blk)::bks R:=hx;rcases aE.1 hx with rfl|hx
          ·exact hbw
          ·exact hL x hx
         refine wpo (.inl (hFl w)) (hK' _ _ (rcc E hP hpin hkd (λ_ _ _ _ h=>h) (λ_ h=>h) (some (w.heap.size,blk)) _ (w.alloc blk) β hL' (λp hp y hy p' hp'=> ?_) ?_ ?_ (λhn=>(hb (pI hn)).trans (Bel.aBN (Ext.alloc _ _)))))
         ·have:=ak hp;subst this;have:=bOa r p' (Hq.2 ⟨y.1,by rw[<-hp'];exact hy⟩);intro e;have e:w.heap.size=p'.1:=e;omega
         ·exact⟨oj,ho', .inl ⟨_,blk,rfl,hcl,hFl.keep (bHd hself hcl),λn hn=>hget _ n hn⟩⟩
         ·exact(r.aDA (blk:=blk) (hb':=hL') hbw).aBY hany
        ·have hfc0:=hfc;obtain⟨ff,xa,ats,S,z1,q,c1,c2,c3,c4,c5,c6,c7,c8,c9⟩:=hfc0;have hso:=Ja G.lay r c1 (G.fs ff S (aI3 c2)) c3 c4 c5 (.inr c6) c8;refine hso K' _ λv w' β' q1 q2 q3=> ?_;have hbx:=λhn:fM a0 (listed.setIfInBounds j true)=true=>(hb (pI hn)).trans (Bel.aBN (q3 rfl));by_cases hd0:oj.dst=none
         ·exact hK' _ _ (rcc E hP hpin hkd (λ_ _ _ _ h=>h) (λ_ h=>h) none v w' β' hL (λp hp=>by cases hp) ⟨oj,ho', .inr ⟨y0,v,rfl,hcl,hfc.keep (s':=s) (d:=none) rfl (λ_ _=>rfl),λhd=>absurd hd0 hd,λd hd=>by rw[hd0] at hd;cases hd⟩⟩ (q1.aBY hany) hbx)
         ·have hm2:y0.mean Y.C w' ((E.ahs (bks R) hL).X β') β' s.m v:=by rw[<-c9];exact q2 hd0
          have q1':bE Y.C ((E.pinned [(y0,v)]).ahs (bks R) hL) s (a.put oj.dst v) w' β':=(q1.aBY hany).pins (ps:=[(y0,v)]) (λx hx=>by simp at hx;subst hx;exact hm2);exact hK' _ _ (rcc (E.pinned [(y0,v)]) hP (λb hb=>by
           obtain⟨k,k1,k2⟩:=hpin b hb;exact⟨k,k1,da _ k2⟩) hkd (λ_ _ _ _ h=>h.aDF) (λ_ h=>da _ h) none v w' β' hL (λp hp=>by cases hp) ⟨oj,ho', .inr ⟨y0,v,rfl,hcl,hfc.keep (s':=s) (d:=none) rfl (λ_ _=>rfl),λ_=>de,λd hd=>hget v d hd⟩⟩ q1' hbx)
end
end Go.EV
namespace Go.EV
open Go.RowKit Go.VK
variable {U:Uni} {Y:Lay U} {TI:List (Nat×TInfo)} {FZ:List (Nat×Sum U)} {P:Program} {g:GI} {E:Env U g}
section
variable {α:Type}
def P6:∀(l:List (Nat×Bool)),bA9 l=l.map Prod.fst
 |[]=>rfl
 |x::l=>by rw[bm,<-P6 l];rfl
def Hr {x:Nat×Bool}{l:List (Nat×Bool)}(h:aF2 (x::l)=true):x.2=false/\aF2 l=true:=by
 have e:aF2 (x::l)=cond x.2 false (aF2 l):=rfl;rw[e] at h;cases hx:x.2 with
 |true=>rw[hx] at h;cases h
 |false=>rw[hx] at h;exact⟨rfl,h⟩
def bOc (G:Good P g Y TI FZ){al:List Oper}{Q:Exit->Act->World->Prop}{D:Nat->Prop}:∀(l:List Nat) (s:St U) (K:St U->Option α) (z:α),(∀i∈l,∀o,al[i]? =some o->∀n,Wr al o n->D n)->M4 Y TI FZ al l s K=some z->
  ∀(rest:List Nat),(∀s' a w β listed,Ag D s s'->K s'=some z->bE Y.C E s' a w β->chz al.toArray rest listed=true->wpAny P .any al.toArray Q rest.length listed a w)->∀listed,chz al.toArray (l++rest) listed=true->∀a w β,bE Y.C E s a w β->wpAny P .any al.toArray Q (l++rest).length listed a w
 |[],s,K,z,_,h,rest,hk,listed,hc,a,w,β,r=>hk s a w β listed (Ag.refl s) h r hc
 |i::l,s,K,z,hD,h,rest,hk,listed,hc,a,w,β,r=>by
  simp only[M4,aS] at h;cases ho:al[i]? with
  |none=>rw[ho] at h;cases h
  |some o=>
   rw[ho] at h;simp only at h;replace hc:((Region.ready .any al.toArray listed==[i])&&chz al.toArray (l++rest) (listed.setIfInBounds i true))=true:=hc;simp only[aa,cG] at hc;have hg:al.toArray[i]? =some o:=by simpa using ho
   refine aYg hc.1 (wpOp_step hg λK' hK'=>aTq G r h λs' a' w' β' q1 q2 q3 _=>hK' _ _ ?_);have q1':=q1.mono (hD i (by simp) o ho);exact bOc G l s' K z (λj hj=>hD j (by simp[hj])) q2 rest (λs2 a2 w2 β2 li p1 p2 p3 p4=>hk s2 a2 w2 β2 li (q1'.trans p1) p2 p3 p4) _ hc.2 a' w' β' q3
def CG (FZ:List (Nat×Sum U))(al:List Oper)(a0:Option Nat)(l:List (Nat×Bool))(listed:Array Bool):Prop:=frees FZ al a0 l=true\/(fM a0 listed=false/\aF2 l=true)
def bKu (G:Good P g Y TI FZ){al:List Oper}{a0:Option Nat}(hs:Region.noSelect al.toArray=true){Q:Exit->Act->World->Prop}{D:Nat->Prop}:∀(l:List (Nat×Bool)) (s:St U) (K:St U->Option α) (z:α),(∀i∈l,∀o,al[i.1]? =some o->∀n,Wr al o n->D n)->M4 Y TI FZ al (bA9 l) s K=some z->
  ∀(rest:List (Nat×Bool)),(∀s' a w β listed,Ag D s s'->K s'=some z->bE Y.C E s' a w β->Dn .any al.toArray listed->chk al.toArray a0 rest listed=true->CG FZ al a0 rest listed->dN P .any al.toArray a0 (NoPanic Q) (Ext w) rest.length listed a w)->
   ∀listed,Dn .any al.toArray listed->chk al.toArray a0 (l++rest) listed=true->CG FZ al a0 (l++rest) listed->∀a w β,bE Y.C E s a w β->dN P .any al.toArray a0 (NoPanic Q) (Ext w) (l++rest).length listed a w
 |[],s,K,z,_,h,rest,hk,listed,hd,hc,hg,a,w,β,r=>hk s a w β listed (Ag.refl s) h r hd hc hg
 |(i,fl)::l,s,K,z,hD,h,rest,hk,listed,hd,hc,hcg,a,w,β,r=>by
  replace h:M4 Y TI FZ al (i::bA9 l) s K=some z:=h;simp only[M4,aS] at h;cases ho:al[i]? with
  |none=>rw[ho] at h;cases h
  |some o=>
   rw[ho] at h;simp only at h;have hg:al.toArray[i]? =some o:=by simpa using ho
   cases fl with
   |true=>
    rw[cC] at hc;simp only[chk,aa] at hc;have hfr:Nat.beq (vG FZ o.op) 0=true/\frees FZ al a0 (l++rest)=true:=by
     rcases hcg with hcg|⟨_,hcg⟩
     ·have hcg':frees FZ al a0 ((i,true)::(l++rest))=true:=hcg;simp only[frees,aS,ho,ac,aa] at hcg';exact hcg'
     ·exact absurd (Hr hcg).1 (by simp)
    obtain⟨v,s',h1,h2,h3,h4⟩:=bKj G r (ah hfr.1) h;have hD':=hd.set (by simpa using hc.1.1.2);have h4':=h4.mono (hD (i,true) (by simp) o ho);refine Mw (i:=i) (oi:=o) (v:=v) hg hs hc.1.1.1 hc.1.1.2 hc.1.2 hd (λ_ _ _ h=>h) ?_ (Ext.refl w) ?_
    ·rcases h1 with⟨k1,k2⟩|⟨k1,k2⟩
     ·exact .inl ⟨k1,k2⟩
     ·exact .inr ⟨k1,k2⟩
    ·exact bKu G hs l s' K z (λj hj=>hD j (by simp[hj])) h3 rest (λs2 a2 w2 β2 li p1 p2 p3 p4 p5 p6=>hk s2 a2 w2 β2 li (h4'.trans p1) p2 p3 p4 p5 p6) _ hD' hc.2 (.inl hfr.2) _ w β h2
   |false=>
    replace hc:((Region.ready .any al.toArray listed==[i])&&(a0 !=some i|| !fM a0 (listed.setIfInBounds i true))&&chk al.toArray a0 (l++rest) (listed.setIfInBounds i true))=true:=hc;simp only[aa,cG] at hc;have hD':=hd.set (i:=i) (by rw[hc.1.1];simp);have hcase:(Nat.ble (vG FZ o.op) 1=true/\frees FZ al a0 (l++rest)=true)\/(fM a0 (listed.setIfInBounds i true)=false/\aF2 (l++rest)=true):=by
     rcases hcg with hcg|⟨hn,hcg⟩
     ·have hcg':frees FZ al a0 ((i,false)::(l++rest))=true:=hcg;simp only[frees,aS,ho,ab] at hcg';cases hb:Nat.ble (vG FZ o.op) 1 with
      |true=>rw[hb] at hcg';exact .inl ⟨rfl,hcg'⟩
      |false=>
       rw[hb] at hcg';simp only[ab,aa] at hcg';refine .inr ⟨?_,hcg'.2⟩;cases a0 with
       |none=>exact absurd hcg'.1 (by simp)
       |some b=>have hbi:b=i:=ah hcg'.1;subst hbi;have:=hc.1.2;simpa using this
     ·exact .inr ⟨mE hn,(Hr hcg).2⟩
    refine jT hc.1.1 (by simp) (λi' hi'=> ?_);simp at hi';subst hi';refine wpOp_step hg λK' hK'=>aTq G r h λs' a' w' β' q1 q2 q3 q4=>hK' _ _ ?_;have q1':=q1.mono (hD (i',false) (by simp) o ho);have cont:=λhh=>bKu G hs l s' K z (λj hj=>hD j (by simp[hj])) q2 rest (λs2 a2 w2 β2 li p1 p2 p3 p4 p5 p6=>hk s2 a2 w2 β2 li (q1'.trans p1) p2 p3 p4 p5 p6) _ hD' hc.2 hh a' w' β' q3;rcases hcase with⟨c1,c2⟩|⟨c1,c2⟩
    ·have hx:=q4 c1;exact⟨λ_=>hx,tY (λx hx'=>Ext.trans hx hx') _ _ _ _ (cont (.inl c2))⟩
    ·exact⟨λhn=>(by rw[c1] at hn;cases hn),oZ _ _ _ _ c1 (cont (.inr ⟨c1,c2⟩))⟩
def Dn0 {os:Array Oper}:Dn .any os (Array.replicate os.size false):=λj oj hj hl=>by
 have hlt:=(bw.1 hj).1;rw[ck,gy,cH hlt] at hl;cases hl
def aY7 {al:List Oper}{i:Nat}{l:List Nat}:aJ5 al (i::l)=match nth al i with|some o=>o::aJ5 al l|none=>aJ5 al l:=rfl
def aRp {al:List Oper}:∀{l:List Nat} {i:Nat} {o:Oper},i∈l->al[i]? =some o->o∈aJ5 al l
 |[],i,o,h,_=>by simp at h
 |x::l,i,o,h,ho=>by
  rw[aY7,aS];rcases aE.1 h with rfl|h
  ·rw[ho];simp
  ·have:=aRp h ho;cases al[x]? with
   |none=>exact this
   |some o'=>exact da _ this
def bHf {β:Type}(l:List β)(k:Nat):tk l k++drp l k=l:=by rw[aQu,aCo];exact cE k l
def aRq {os:Array Oper}{an:An}{l:List Nat}(h:aCk FZ os.toList os an=some l):
  (Region.noSelect os=true/\l.length=os.size/\chz os l (Array.replicate os.size false)=true)\/
  (∃a0 ord,Region.noSelect os=true/\ord.length=os.size/\chk os a0 ord (Array.replicate os.size false)=true/\frees FZ os.toList a0 ord=true/\l=ord.map Prod.fst):=by
 cases an with
 |r a0 ord=>
  simp only[aCk] at h;cases hb:(aJq os a0 ord&&frees FZ os.toList a0 ord) with
  |false=>rw[hb] at h;cases h
  |true=>rw[hb] at h;have:=ak h;simp only[aJq,aa,cG] at hb;exact .inr ⟨a0,ord,hb.1.1.1,hb.1.1.2,hb.1.2,hb.2,by rw[<-this,P6]⟩
 |z ord=>
  simp only[aCk] at h;cases hb:(Region.noSelect os&&(Nat.beq (len ord) (len os.toList)&&chz os ord (Array.replicate os.size false))) with
  |false=>rw[hb] at h;cases h
  |true=>rw[hb] at h;have:=ak h;subst this;simp only[aa,bK] at hb;exact .inl ⟨hb.1,by have:=ah hb.2.1;simpa using this,hb.2.2⟩
 |_=>cases h
def bHg (G:Good P g Y TI FZ)(hm:P.follows .mixedOrders=true){os:Array Oper}{an:An}{l l1 l2:List Nat}(h:aCk FZ os.toList os an=some l)(hl:l=l1++l2){id:Nat}{Q:Exit->Act->World->Prop}{D:Nat->Prop}{D2:Nat->Prop}{α α2:Type}{s:St U}{z:α}{K1:St U->Option α}
  (hD:∀o∈os.toList,∀n,Wr os.toList o n->D n) (h1:M4 Y TI FZ os.toList l1 s K1=some z)
  (hk:∀s1,Ag D s s1->K1 s1=some z->∃(K2:St U->Option α2) (z2:α2),(∀i∈l2,∀o,os.toList[i]? =some o->∀n,Wr os.toList o n->D2 n)/\M4 Y TI FZ os.toList l2 s1 K2=some z2/\∀a1 w1 β1,bE Y.C E s1 a1 w1 β1->∀s' a w β,Ag D2 s1 s'->K2 s'=some z2->bE Y.C E s' a w β->Q .normal a w)
  {a:Act} {w:World} {β:List Tr} (r:bE Y.C E s a w β):(Code.region id os true).wp P Q a w:=by
 have hos:os.toList.toArray=os:=by simp
 have hmem:∀(i:Nat) (o:Oper),os.toList[i]? =some o->∀n,Wr os.toList o n->D n:=λi o ho=>hD o (az ho);have r0:bE Y.C E s a w.drew β:=r.ext (Ext.drew w);rcases aRq h with⟨hs,hlen,hc⟩|⟨a0,ord,hs,hlen,hc,hfr,hlo⟩
 ·refine wp_region_noPanic (wp_region_any hm ?_);have:=bOc G (E:=E) (al:=os.toList) (Q:=NoPanic Q) (D:=D) l1 s K1 z (λi _=>hmem i) h1 l2 (λs1 a1 w1 β1 listed g1 g2 g3 g4=>by
   obtain⟨K2,z2,e1,e2,e3⟩:=hk s1 g1 g2;have:=bOc G (E:=E) (al:=os.toList) (Q:=NoPanic Q) (D:=D2) l2 s1 K2 z2 e1 e2 [] (λs' a' w' β' li p1 p2 p3 p4=>⟨by simpa[chz] using p4,e3 a1 w1 β1 g3 s' a' w' β' p1 p2 p3⟩) listed (by simpa using g4) a1 w1 β1 g3;simpa using this) (Array.replicate os.size false) (by rw[hos,<-hl];exact hc) a w.drew β r0
  rw[hos,<-hl,hlen] at this;exact this
 ·refine wp_region_noPanic (wp_region_any hm (mD (a0:=a0) (S:=Ext w.drew) _ _ _ _ ?_));have hl1:ord.map Prod.fst=l1++l2:=by rw[<-hlo,hl]
  obtain⟨o1,o2,ho,hm1,hm2⟩:=List.map_eq_append_iff.1 hl1;subst hm1;subst hm2;have:=bKu G (E:=E) (al:=os.toList) (a0:=a0) (by rw[hos];exact hs) (Q:=Q) (D:=D) o1 s K1 z (λi _=>hmem i.1) (by rw[P6];exact h1) o2 (λs1 a1 w1 β1 listed g1 g2 g3 g4 g5 g6=>by
   obtain⟨K2,z2,e1,e2,e3⟩:=hk s1 g1 g2;have:=bKu G (E:=E) (al:=os.toList) (a0:=a0) (by rw[hos];exact hs) (Q:=Q) (D:=D2) o2 s1 K2 z2 (λi hi=>e1 i.1 (cj.2 ⟨i,hi,rfl⟩)) (by rw[P6];exact e2) [] (λs' a' w' β' li p1 p2 p3 p4 p5 p6=>pE (P:=P) (a0:=a0) (S:=Ext w') (Q:=NoPanic Q) (by simpa[chk] using p5) (e3 a1 w1 β1 g3 s' a' w' β' p1 p2 p3) 0) listed g4 (by simpa using g5) (by simpa using g6) a1 w1 β1 g3;simpa using this) (Array.replicate os.size false) (by rw[hos];exact Dn0) (by rw[hos,<-ho];exact hc) (.inl (by rw[<-ho];exact hfr)) a w.drew β r0
  rw[hos,<-ho,hlen] at this;exact this
def bHh {a0:Option Nat}{n:Nat}:fM a0 (Array.replicate n false)=true:=by
 cases a0 with
 |none=>rfl
 |some b=>simp only[fM,cq];rw[ck,gy];split<;>rfl
def bOe (hE:E.fr=[])(hP:E.prm=[])(G:Good P g Y TI FZ)(hm:P.follows .mixedOrders=true){os:Array Oper}{id:Nat}{kb:Bool}{f a0:Option Nat}{ord:List (Nat×Bool)}{Q:Exit->Act->World->Prop}{D:Nat->Prop}{s:St U}{z:α}{N:St U->Option α}
  (hD:∀o∈os.toList,∀n,Wr os.toList o n->D n) (hc:aJ6 os f a0 ord=true) (h:M5 Y TI FZ os.toList a0 (bif kb then some (len s.m.o,s.m.k) else none) ord f true true (wpe os.toList f s) N=some z)
  (hN:∀s' a w β,Ag D s s'->N s'=some z->bE Y.C E s' a w β->Q .normal a w) {a:Act} {w:World} {β:List Tr} (r:bE Y.C E s a w β):(Code.region id os true).wp P Q a w:=by
 have hos:os.toList.toArray=os:=by simp
 have hmem:∀i∈ord,∀o,os.toList[i.1]? =some o->∀n,Wr os.toList o n->D n:=λi _ o ho=>hD o (az ho);have r0:bE Y.C E s a w.drew β:=r.ext (Ext.drew w);simp only[aJ6,aa,bK] at hc;obtain⟨hs,hlen,hcf⟩:=hc;have hlen:=ah hlen;have hsm:(wpe os.toList f s).m=s.m:=by
  unfold wpe;cases f with
  |none=>rfl
  |some j=>
   simp only;cases nth os.toList j with
   |none=>rfl
   |some o=>simp only;cases o.dst<;>rfl
 have r1:bE Y.C E (wpe os.toList f s) a w.drew β:=by
  unfold wpe;cases f with
  |none=>exact r0
  |some j=>
   simp only;cases nth os.toList j with
   |none=>exact r0
   |some o=>exact r0.aDG
 have hag:Ag D s (wpe os.toList f s):=by
  unfold wpe;cases f with
  |none=>exact Ag.refl s
  |some j=>
   simp only[aS];cases ho:os.toList[j]? with
   |none=>exact Ag.refl s
   |some o=>exact(Ag.refl s).put (λn e=>hD o (az ho) n (.inl e))
 have main:∀(E':Env U g) (kd:Option (Nat×Nat)),E'.prm=[]->Lk E' kd true true w.drew w.drew->bE Y.C E' (wpe os.toList f s) a w.drew β->(∀s' a w β,bE Y.C E' s' a w β->bE Y.C E s' a w β)->M5 Y TI FZ os.toList a0 kd ord f true true (wpe os.toList f s) N=some z->(Code.region id os true).wp P Q a w:=λE' kd hP' hl r' hback h=>by
  refine wp_region_noPanic (wp_region_any hm (mD (a0:=a0) (S:=Ext w.drew) _ _ _ _ ?_));have hQ:∀s' a w β,Ag D (wpe os.toList f s) s'->N s'=some z->bE Y.C E' s' a w β->Q .normal a w:=λs' a w β g1 g2 g3=>hN s' a w β (hag.trans g1) g2 (hback s' a w β g3);cases f with
  |none=>have:=aWd (E:=E') G (al:=os.toList) (a0:=a0) (kd:=kd) (Q:=Q) (D:=D) (by rw[hos];exact hs) ord true true _ N z hmem h hQ (Array.replicate os.size false) (by rw[hos];exact Dn0) (by rw[hos];exact hcf) bHh a w.drew β w.drew hl r';rw[hos,hlen] at this;exact this
  |some j=>
   simp only[aa,bne_iff_ne,ne_eq] at hcf;obtain⟨hja,hcf⟩:=hcf;split at hcf
   ·rename_i oj hj;have:=bG9 (E:=E') G (al:=os.toList) (a0:=a0) (kd:=kd) (Q:=Q) (D:=D) (by rw[hos];exact hs) hP' (j:=j) (oj:=oj) (by simpa using hj) hja ord true true _ N z hmem h hQ (Array.replicate os.size false) (by rw[hos];exact Dn0) (by rw[hos];exact hcf) bHh a w.drew β w.drew hl r';rw[hos,hlen] at this;exact this
   ·cases hcf
 cases kb with
 |false=>exact main E none hP ⟨λ_ _ h=>(by cases h),λ_=>rfl,λ_=>rfl,λ_=>Ext.refl _⟩ r1 (λ_ _ _ _ h=>h) h
 |true=>have hf:=r1.frame hP;rw[hsm] at hf;exact main (E.frm [(w.drew,s.m.o.length,s.m.k)]) (some (s.m.o.length,s.m.k)) hP ⟨λn k h=>(by cases h;exact de),λ_=>rfl,λh=>(by cases h),λ_=>Ext.refl _⟩ hf (λ_ _ _ _ h=>h.aCF hE) (by rw[bK] at h;exact h)
def bSg (G:Good P g Y TI FZ)(hm:P.follows .mixedOrders=true){os:Array Oper}{id:Nat}{bs:List Nat}{ord:List (Nat×Bool)}{Q:Exit->Act->World->Prop}{D:Nat->Prop}{s:St U}{z:α}{N:St U->Option α}
  (hD:∀o∈os.toList,∀n,Wr os.toList o n->D n) (hc:aJ6 os none none ord=true) (h:bC7 Y TI FZ os.toList bs ord s N=some z)
  (hN:∀s' a w β,Ag D s s'->N s'=some z->bE Y.C E s' a w β->Q .normal a w) {a:Act} {w:World} {β:List Tr} (r:bE Y.C E s a w β):(Code.region id os true).wp P Q a w:=by
 have hos:os.toList.toArray=os:=by simp
 have r0:bE Y.C E s a w.drew β:=r.ext (Ext.drew w);simp only[aJ6,aa,bK] at hc;obtain⟨hs,hlen,hcf⟩:=hc;have hlen:=ah hlen;let Yb:Nat->Prop:=λk=>∃b∈bs,∃t,β[b]? =some t/\t.b=some k;refine wp_region_noPanic (wp_region_any hm (mD (a0:=none) (S:=Bel Yb w.drew) _ _ _ _ ?_));have:=Ho (E:=E) G (al:=os.toList) (Q:=Q) (D:=D) (by rw[hos];exact hs) (bs:=bs) (Yb:=Yb) (wS:=w.drew) ord s N z (λi _ o ho=>hD o (az ho)) h hN (Array.replicate os.size false) (by rw[hos];exact Dn0) (by rw[hos];exact hcf) a w.drew β (Bel.refl _) (λb e t k h1 h2 h3 h4=>⟨λhb=>⟨b,hb,t,h3,h4⟩,λhb=>⟨λ⟨b',k1,t',k2,k3⟩=>r0.hp.dist b b' t t' k (λe=>hb (e▸k1)) h3 k2 (Tr.root h4) (Tr.root k3),(r0.hp.new b t k h3 (Tr.root h4)).2⟩⟩) r0;rw[hos,hlen] at this;exact this
def bBs {al:List Oper}{s:St U}:∀{fs:List Nat},(wpl al s fs).m=s.m
 |[]=>rfl
 |j::fs=>by
  have e:wpl al s (j::fs)=(match nth al j with|some o=>EV.put (wpl al s fs) o.dst (.l .any)|none=>wpl al s fs):=rfl;rw[e];cases nth al j with
  |none=>exact bBs
  |some o=>rw[bHb];exact bBs
def aTw {al:List Oper}{s:St U}{a:Act}{w:World}{β:List Tr}(r:bE Y.C E s a w β):∀{fs:List Nat},bE Y.C E (wpl al s fs) a w β
 |[]=>r
 |j::fs=>by
  have e:wpl al s (j::fs)=(match nth al j with|some o=>EV.put (wpl al s fs) o.dst (.l .any)|none=>wpl al s fs):=rfl;rw[e];cases nth al j with
  |none=>exact aTw r
  |some o=>exact(aTw r).aDG
def aY8 {al:List Oper}{s:St U}{D:Nat->Prop}(hD:∀o∈al,∀n,Wr al o n->D n):∀{fs:List Nat},Ag D s (wpl al s fs)
 |[]=>Ag.refl s
 |j::fs=>by
  have e:wpl al s (j::fs)=(match nth al j with|some o=>EV.put (wpl al s fs) o.dst (.l .any)|none=>wpl al s fs):=rfl;rw[e,aS];cases ho:al[j]? with
  |none=>exact aY8 hD
  |some o=>exact(aY8 hD).put (λn e=>hD o (az ho) n (.inl e))
def bOf (hE:E.fr=[])(hP:E.prm=[])(G:Good P g Y TI FZ)(hm:P.follows .mixedOrders=true){os:Array Oper}{a0:Option Nat}{id f:Nat}{bs fs:List Nat}{ord:List (Nat×Bool)}{Q:Exit->Act->World->Prop}{D:Nat->Prop}{s:St U}{z:α}{N:St U->Option α}
  (hD:∀o∈os.toList,∀n,Wr os.toList o n->D n) (hs:Region.noSelect os=true) (hc:aGw os a0 f fs [] ord (Array.replicate os.size false)=true) (hbx:bxs bs s.m.o=true) (h:Cr Y TI FZ os.toList a0 bs (some (len s.m.o,s.m.k)) ord fs true false (wpl os.toList s fs) N=some z)
  (hN:∀s' a w β,Ag D s s'->N s'=some z->bE Y.C E s' a w β->Q .normal a w) {a:Act} {w:World} {β:List Tr} (r:bE Y.C E s a w β):(Code.region id os true).wp P Q a w:=by
 have hos:os.toList.toArray=os:=by simp
 have r0:bE Y.C E (wpl os.toList s fs) a w.drew β:=(aTw r).ext (Ext.drew w);have hag:Ag D s (wpl os.toList s fs):=aY8 hD;let Yb:Nat->Prop:=λk=>∃b∈bs,∃t,β[b]? =some t/\t.b=some k;obtain⟨ps,p1,p2⟩:=aWe r0.hp bs (by rw[bBs];exact hbx);have r1:bE Y.C ((E.pinned ps).frm [(w.drew,s.m.o.length,s.m.k)]) (wpl os.toList s fs) a w.drew β:=by have:=(r0.pins p1).frame (show(E.pinned ps).prm=[] from hP);rw[bBs] at this;exact this
 have r2:bE Y.C (((E.pinned ps).frm [(w.drew,s.m.o.length,s.m.k)]).ahs (bks []) (by simp[bks])) (wpl os.toList s fs) a w.drew β:=r1.aDM;refine wp_region_noPanic (wp_region_any hm (mD (a0:=a0) (S:=Bel Yb w.drew) _ _ _ _ ?_));rw[bK] at h;have:=aY6 (a0:=a0) (E:=(E.pinned ps).frm [(w.drew,s.m.o.length,s.m.k)]) G (al:=os.toList) (Q:=Q) (D:=D) (by rw[hos];exact hs) hP (bs:=bs) (Yb:=Yb) (wS:=w.drew) (λb hb=>by
  obtain⟨t,k,q1,q2,q3⟩:=p2 b hb;exact⟨k,⟨b,hb,t,q1,q2⟩,bz.2 (.inl q3)⟩) (kd:=some (s.m.o.length,s.m.k)) (λn k h=>by cases h;exact de) f fs [] ord fs true false (wpl os.toList s fs) N z (λi _ o ho=>hD o (az ho)) h (λs' a w β g1 g2 g3=>hN s' a w β (hag.trans g1) g2 (g3.aCF hE).aDF) (λ_ h=>h) (by simp) (by simp) (by simp) (Array.replicate os.size false) (by rw[hos];exact Dn0) (by rw[hos];exact hc) a w.drew β (by simp[bks]) (λh=>by cases h) (λ_=>Bel.refl _) (λ_=>⟨rfl,λk ⟨b,hb,t,ht,hk⟩=>bNz ht (Tr.root hk),λb e t k h1 h2 h3 h4=>⟨λhb=>⟨b,hb,t,h3,h4⟩,λhb=>⟨λ⟨b',k1,t',k2,k3⟩=>r0.hp.dist b b' t t' k (λe=>hb (e▸k1)) h3 k2 (Tr.root h4) (Tr.root k3),(r0.hp.new b t k h3 (Tr.root h4)).2⟩⟩,rfl⟩) (by simp) r2
 rw[hos,show cntF (Array.replicate os.size false)=os.size by simp[cntF]] at this;exact this
def aCy (hE:E.fr=[])(hP:E.prm=[])(G:Good P g Y TI FZ)(hm:P.follows .mixedOrders=true)(id:Nat)(os:Array Oper)(d:Bool)(an:An){α:Type}(s:St U)(N:St U->Option α)(X:Nat->St U->Option α)(R:St U->Option α)(z:α)(D:Nat->Prop)(hD:∀o∈os.toList,∀n,Wr os.toList o n->D n)(hA:AW D an)(h:rgn Y TI FZ os.toList os d an s N=some z):Snd P Y E D (.region id os d) s z N X R:=by
 intro Q hN hX hR a w β r;have hos:os.toList.toArray=os:=by simp
 have plain:∀an,(bif d then(match aCk FZ os.toList os an with|some l=>M4 Y TI FZ os.toList l s N|none=>none) else ops Y TI FZ os.toList os.toList s N)=some z->(Code.region id os d).wp P Q a w:=λan h=>by
  cases d with
  |false=>refine wp_region_list ?_;have:=Sk G (E:=E) (al:=os.toList) (Q:=Q) (D:=D) os.toList s N z hD h [] (λs' a w β g1 g2 g3=>wpList_nil (hN s' a w β g1 g2 g3)) a w β r;rw[cY,hos] at this;exact this
  |true=>
   simp only[ac] at h;cases ho:aCk FZ os.toList os an with
   |none=>rw[ho] at h;cases h
   |some l=>rw[ho] at h;exact bHg G hm (l1:=l) (l2:=[]) (α2:=α) (D2:=D) ho (by simp) hD h (λs1 g1 g2=>⟨N,z,λi hi=>by simp at hi,g2,λa1 w1 β1 _ s' a' w' β' p1 p2 p3=>hN s' a' w' β' (g1.trans p1) p2 p3⟩) r
 cases an with
 |rj k tm a'=>
  cases d with
  |false=>
   replace h:ops Y TI FZ os.toList (tk os.toList k) s (λs1=>bif wrG tm.ws os.toList (drp os.toList k) then bd (ops Y TI FZ os.toList (drp os.toList k) s1 λs'=>col Y s1 tm s') λd=>N (reb Y s1 tm d) else none)=some z:=h;refine wp_region_list ?_;have:=Sk G (E:=E) (al:=os.toList) (Q:=Q) (D:=D) (tk os.toList k) s _ z (λo ho=>hD o (by rw[aQu] at ho;exact gi ho)) h (drp os.toList k) (λs1 a1 w1 β1 g1 g2 g3=>by
    cases hb:wrG tm.ws os.toList (drp os.toList k) with
    |false=>rw[hb] at g2;cases g2
    |true=>
     rw[hb] at g2;simp only[ac] at g2;obtain⟨d,k1,k2⟩:=iY g2;have:=Sk G (E:=E) (al:=os.toList) (Q:=Q) (D:=λn=>Gp tm.ws 0 n=true) (drp os.toList k) s1 _ d (O4 hb) k1 [] (λs' a' w' β' p1 p2 p3=>wpList_nil (by
      obtain⟨β'',r''⟩:=wO hE g3 p3 p1 p2;obtain⟨_,_,_,hs,_⟩:=Hm p2;exact hN _ _ _ _ (g1.trans ((aCw hs).mono hA)) k2 r'')) a1 w1 β1 g3
     rw[cY] at this;exact this) a w β r
   rw[bHf,hos] at this;exact this
  |true=>
   replace h:(match aCk FZ os.toList os a' with|some l=>M4 Y TI FZ os.toList (tk l k) s (λs1=>bif wrG tm.ws os.toList (aJ5 os.toList (drp l k)) then bd (M4 Y TI FZ os.toList (drp l k) s1 λs'=>col Y s1 tm s') λd=>N (reb Y s1 tm d) else none)|none=>none)=some z:=h;cases ho:aCk FZ os.toList os a' with
   |none=>rw[ho] at h;cases h
   |some l=>
    rw[ho] at h;refine bHg G hm (l1:=tk l k) (l2:=drp l k) (α2:=Dat U tm.it) (D2:=λn=>Gp tm.ws 0 n=true) ho (bHf l k).symm hD h (λs1 g1 g2=> ?_) r;cases hb:wrG tm.ws os.toList (aJ5 os.toList (drp l k)) with
    |false=>rw[hb] at g2;cases g2
    |true=>rw[hb] at g2;simp only[ac] at g2;obtain⟨d,k1,k2⟩:=iY g2;refine⟨_,d,λi hi o hio=>O4 hb o (aRp hi hio),k1,λa1 w1 β1 r1 s' a2 w2 β2 p1 p2 p3=> ?_⟩;obtain⟨β'',r''⟩:=wO hE r1 p3 p1 p2;obtain⟨_,_,_,hs,_⟩:=Hm p2;exact hN _ _ _ _ (g1.trans ((aCw hs).mono hA)) k2 r''
 |y kb f a0 ord=>
  cases d with
  |false=>cases h
  |true=>
   replace h:(bif true&&aJ6 os f a0 ord then M5 Y TI FZ os.toList a0 (bif kb then some (len s.m.o,s.m.k) else none) ord f true true (wpe os.toList f s) N else none)=some z:=h;cases hc:aJ6 os f a0 ord with
   |false=>rw[hc] at h;cases h
   |true=>rw[hc] at h;exact bOe hE hP G hm hD hc h hN r
 |w bs ord=>replace h:none=some z:=h;cases h
 |v bs ord=>replace h:none=some z:=h;cases h
 |u a0 bs fs ord=>
  cases d with
  |false=>cases h
  |true=>
   replace h:(bif true&&(Region.noSelect os&&(aGw os a0 (Nat.succ (Nat.add (len ord) (len ord))) fs [] ord (Array.replicate os.size false)&&bxs bs s.m.o)) then Cr Y TI FZ os.toList a0 bs (some (len s.m.o,s.m.k)) ord fs true false (wpl os.toList s fs) N else none)=some z:=h;cases hc:(Region.noSelect os&&(aGw os a0 (Nat.succ (Nat.add (len ord) (len ord))) fs [] ord (Array.replicate os.size false)&&bxs bs s.m.o)) with
   |false=>rw[hc] at h;cases h
   |true=>rw[hc] at h;simp only[aa] at hc;exact bOf hE hP G hm hD hc.1 hc.2.1 hc.2.2 h hN r
 |n=>exact plain .n h
 |s x y=>exact plain (.s x y) h
 |j t x=>exact plain (.j t x) h
 |jx t x=>exact plain (.jx t x) h
 |l t f x=>exact plain (.l t f x) h
 |r a0 o=>exact plain (.r a0 o) h
 |z o=>exact plain (.z o) h
 |il i a b=>exact plain (.il i a b) h
 |pl a=>exact plain (.pl a) h
end
end Go.EV
namespace Go.EV
open Go.RowKit Go.VK
variable {U:Uni} {Y:Lay U} {TI:List (Nat×TInfo)} {FZ:List (Nat×Sum U)} {P:Program} {g:GI} {E:Env U g}
section
variable {s:St U} {a:Act} {w w0:World} {β:List Tr}
def bDv (hti:pY P TI=true)(r:bE Y.C E s a w β){x:ResultVar}{y:Sv U}(h:bKa TI s x=some y):∃v,(K8 P w a.tmps x).run P w= .ok v w/\y.mean Y.C w (E.X β) β s.m v:=by
 cases x with
 |tmp n=>exact⟨_,by simp[K8],r.tm n y (by rw[<-aS];exact h)⟩
 |cell c t=>
  simp only[bKa] at h;split at h
  ·rename_i b i h1 h2;have hl:load Y s i (.box b 0)=some y:=h;have hmb:(Lf.box b 0:Lf U).mean Y.C w (E.X β) β s.m (a.tmps.getD c undef):=r.tm c (.l (.box b 0)) (by rw[<-aS];exact h1);obtain⟨p,v',k1,k2,k3⟩:=aQx r (bT hti h2) hmb hl;exact⟨v',by simp only[K8,k1,asAddr,Sem.run_bind,Sem.run_pure,Result.andThen_ok,k2 w (Ext.refl w)],k3⟩
  ·cases h
def xJ (hti:pY P TI=true)(r:bE Y.C E s a w β):∀{l:List ResultVar} {xs:List (Sv U)},Wd TI s l=some xs->∃vs:List Value,(l.mapM (K8 P w a.tmps)).run P w= .ok vs w/\vs.length=xs.length/\∀(i:Nat) (v:Value) (x:Sv U),vs[i]? =some v->xs[i]? =some x->x.mean Y.C w (E.X β) β s.m v
 |[],xs,h=>by
  have:=ak h;subst this;exact⟨[],rfl,rfl,by simp⟩
 |x::l,xs,h=>by
  simp only[Wd] at h;cases h1:bKa TI s x with
  |none=>rw[h1] at h;cases h
  |some y=>
   cases h2:Wd TI s l with
   |none=>rw[h1,h2] at h;cases h
   |some ys=>
    rw[h1,h2] at h;have:=ak h;subst this;obtain⟨v,k1,k2⟩:=bDv hti r h1;obtain⟨vs,k3,k4,k5⟩:=xJ hti r h2;refine⟨v::vs,by simp[ju,k1,k3],by simp[k4],λi v' W q1 q2=> ?_⟩;cases i with
    |zero=>simp at q1 q2;subst q1;subst q2;exact k2
    |succ i=>exact k5 i v' W (by simpa using q1) (by simpa using q2)
def Aa {fn:Func}{l:List ResultVar}(hf:fn.results=l.toArray){vs:List Value}(h:(l.mapM (K8 P w a.tmps)).run P w= .ok vs w):(results fn a.tmps).run P w= .ok (if h:vs.toArray.size=1 then vs.toArray[0] else .tuple vs.toArray) w:=by
 have e1:results fn a.tmps=(do
   let vs<-fn.results.mapM (K8 P w a.tmps)
   pure (if h:vs.size=1 then vs[0] else .tuple vs)):=rfl
 rw[e1,hf,gt];simp only[Sem.run_bind,Sem.run_map,h,Result.andThen_ok,Sem.run_pure]
end
section
def rG (P:Program)(IL:Il):Prop:=∀(f:Nat) (c:Code) (n:Nat) (rv:List ResultVar),iJ IL f=some (c,n,rv)->∃fn,P.funcs[f]? =some fn/\fn.body=some c/\fn.ntmps=n/\fn.results=rv.toArray/\∀args w,(callFunc f args).run P w= .ok (.enter f args) w
def bOg:rG P []:=λ_ _ _ _ h=>by cases h
def qA {IL:Il}{f:Nat}{c:Code}{n:Nat}{rv:List ResultVar}{fn:Func}(hf:P.funcs[f]? =some fn)(hb:fn.body=some c)(hn:fn.ntmps=n)(hl:fn.results=rv.toArray)(hE:∀args w,(callFunc f args).run P w= .ok (.enter f args) w)(h:rG P IL):rG P ((f,c,n,rv)::IL):=λf' c' n' rv' h'=>by
 have h':cond (Nat.beq f f') (some (c,n,rv)) (iJ IL f')=some (c',n',rv'):=h';cases hb':Nat.beq f f' with
 |true=>rw[hb'] at h';have e:=ak h';injection e with e1 e2;injection e2 with e2 e3;subst e1;subst e2;subst e3;have:=ah hb';subst this;exact⟨fn,hf,hb,hn,hl,hE⟩
 |false=>rw[hb'] at h';exact h f' c' n' rv' h'
def bSh (s:St U)(a:Act):List (Sv U×Value):=s.t.zipIdx.map λp=>(p.1,a.tmps.getD p.2 undef)
def aRr {C:Cod U}{w:World}{X:Nat->Prop}{β:List Tr}{m:Mm U}:∀{ys:List (Sv U)} {l:List (Bool×List (Lf U))} {vs:List Value},aYq ys=some l->vs.length=ys.length->(∀(i:Nat) (v:Value) (x:Sv U),vs[i]? =some v->ys[i]? =some x->x.mean C w X β m v)->vs.length=l.length/\∀(i:Nat) (v:Value) (x:Bool×List (Lf U)),vs[i]? =some v->l[i]? =some x->Mp C w X β m v x
 |[],l,vs,h,hl,_=>by
  have:=ak h;subst this;exact⟨hl,λi v x _ h=>by simp at h⟩
 |y::ys,l,[],h,hl,_=>by simp at hl
 |y::ys,l,v::vs,h,hl,hm=>by
  simp only[aYq] at h;cases h1:sv2 y with
  |none=>rw[h1] at h;cases h
  |some p=>
   cases h2:aYq ys with
   |none=>rw[h1,h2] at h;cases h
   |some ps=>
    rw[h1,h2] at h;have:=ak h;subst this;obtain⟨k1,k2⟩:=aRr h2 (by simpa using hl) (λi v x p q=>hm (i+1) v x (by simpa using p) (by simpa using q));refine⟨by simp[k1],λi u x p' q=> ?_⟩;cases i with
    |zero=>
     simp at p' q;subst p';subst q;have h0:=hm 0 v y rfl rfl;cases y with
     |l x=>have:=ak h1;subst this;exact⟨x,rfl,h0⟩
     |a cs=>have:=ak h1;subst this;exact h0
     |t xs=>cases h1
    |succ i=>exact k2 i u x (by simpa using p') (by simpa using q)
def bDw {C:Cod U}{w:World}{X:Nat->Prop}{β:List Tr}{m:Mm U}{ys:List (Sv U)}{y:Sv U}{vs:List Value}(h:bNx ys=some y)(hl:vs.length=ys.length)(hm:∀(i:Nat) (v:Value) (x:Sv U),vs[i]? =some v->ys[i]? =some x->x.mean C w X β m v):y.mean C w X β m (if h:vs.toArray.size=1 then vs.toArray[0] else .tuple vs.toArray):=by
 match ys,vs,h,hl,hm with
 |[x],[v],h,_,hm=>have:=ak h;subst this;exact hm 0 v x rfl rfl
 |[],[],h,_,_=>have:=ak h;subst this;exact⟨[],rfl,rfl,λi v x h=>by simp at h⟩
 |x::x'::xs,v::v'::vs,h,hl,hm=>
  replace h:(match aYq (x::x'::xs) with|some l=>some (Sv.t l)|none=>none)=some y:=h;cases h1:aYq (x::x'::xs) with
  |none=>rw[h1] at h;cases h
  |some l=>rw[h1] at h;have:=ak h;subst this;rw[dif_neg (by simp)];obtain⟨k1,k2⟩:=aRr h1 hl hm;exact⟨_,rfl,k1,k2⟩
variable {IL:Il} {α:Type} {EV:An->Code->St U->(St U->Option α)->Option α}
def aTx (P:Program)(Y:Lay U)(g:GI)(EV:An->Code->St U->(St U->Option α)->Option α):Prop:=∀(E:Env U g),E.fr=[]->E.prm=[]->∀(an:An) (c:Code) (s:St U) (K:St U->Option α) (z:α),EV an c s K=some z->Snd P Y E (λ_=>True) c s z K (λ_ _=>none) K
def bHi (G:Good P g Y TI FZ)(hI:rG P IL)(hEV:aTx P Y g EV)(hE:E.fr=[])(hP:E.prm=[]){s:St U}{a:Act}{w:World}{β:List Tr}(r:bE Y.C E s a w β){al:List Oper}{o:Oper}{an:An}{K:St U->Option α}{z:α}(h:inl TI IL EV an o s K=some z){K':Act->World->Prop}{Q:Exit->Act->World->Prop}
  (hk:∀s' a' w' β',Ag (Wr al o) s s'->K s'=some z->bE Y.C E s' a' w' β'->K' a' w'):o.wp P a w K' Q:=by
 unfold inl at h;split at h
 ·rename_i f xa ats ho;cases hf:iJ IL f with
  |none=>rw[hf] at h;cases h
  |some p=>
   obtain⟨c,n,rv⟩:=p;rw[hf] at h;simp only at h;cases hb:Nat.ble (len xa.toList) n with
   |false=>rw[hb] at h;cases h
   |true=>
    rw[hb] at h;simp only[ac] at h;have hlen:xa.toList.length<=n:=by have:=bf hb;rwa [bK] at this
    obtain⟨fn,f1,f2,f3,f4,f5⟩:=hI f c n rv hf;let E':Env U g:=E.pinned (bSh s a);have hX:∀β,E'.X β=E.X β:=λ_=>rfl;have H':Hp Y.C E' s.m β w:=⟨r.hp.ext,r.hp.len,r.hp.vers,r.hp.cnt,r.hp.new,r.hp.dist,r.hp.nd,r.hp.ok,λx hx=>by
     rcases bz.1 hx with hx|hx
     ·obtain⟨⟨y,m⟩,hy,rfl⟩:=cj.1 hx;exact r.tm m y (by simpa using jm.1 hy)
     ·exact r.hp.pin x hx,r.hp.prm,r.hp.fr⟩
    have r':bE Y.C E' ⟨xa.toList.map (dV s)++List.replicate (n-len xa.toList) (.l .any),s.m,s.fr⟩ {tmps:=(xa.toList.map a.eval).toArray++Array.replicate (fn.ntmps-(xa.toList.map a.eval).toArray.size) undef,defers:=[]} w β:=by
     refine⟨H',rfl,?_,λm x hx=> ?_⟩
     ·simp only[bK,au,bl,fg,jd,fR,Array.size_replicate,f3]
     ·by_cases hm:m<xa.toList.length
      ·rw[aq (by rw[bl];exact hm)] at hx;have h1:(xa.toList.map a.eval)[m]? =some ((xa.toList.map a.eval)[m]'(by rw[bl];exact hm)):=ae _;obtain⟨y,e1,e2⟩:=De (s:=s) (a:=a) m _ x h1 hx;have hv:((xa.toList.map a.eval).toArray++Array.replicate (fn.ntmps-(xa.toList.map a.eval).toArray.size) undef).getD m undef=a.eval y:=by rw[<-e1,ck,fk (by simpa using hm)];simp[h1]
       show x.mean Y.C w (E'.X β) β s.m (((xa.toList.map a.eval).toArray++Array.replicate (fn.ntmps-(xa.toList.map a.eval).toArray.size) undef).getD m undef);rw[hv,e2];exact xC r
      ·rw[ay (by rw[bl];omega)] at hx;have:=az hx;simp at this;rw[this.2];trivial
    let R':Value->World->Prop:=λv w'=>∃(y:Sv U) (s':St U) (β':List Tr),K (put ⟨s.t,s'.m,s.fr⟩ o.dst y)=some z/\bE Y.C E ⟨s.t,s'.m,s.fr⟩ a w' β'/\y.mean Y.C w' (E.X β') β' s'.m v/\Am s.m s'.m;have done:∀s' a' w' β',Ag (λ_=>True) ⟨xa.toList.map (dV s)++List.replicate (n-len xa.toList) (.l .any),s.m,s.fr⟩ s'->(match Wd TI s' rv with
      |some ys=>match bNx ys with
       |some y=>K (put ⟨s.t,s'.m,s.fr⟩ o.dst y)
       |none=>none
      |none=>none)=some z->bE Y.C E' s' a' w' β'->a'.defers=[]/\∃v,(results fn a'.tmps).run P w'= .ok v w'/\∃v',Ending.returned v= .returned v'/\R' v' w':=λs' a' w' β' hag hq r2=>by
     split at hq
     ·rename_i ys hys;split at hq
      ·rename_i y hy;obtain⟨vs,k1,k2,k3⟩:=xJ G.ti r2 hys;refine⟨r2.defers,_,Aa f4 k1,_,rfl,y,s',β',hq,?_,bDw hy k2 k3,hag.m⟩;have hp:Hp Y.C E s'.m β' w':=⟨r2.hp.ext,r2.hp.len,r2.hp.vers,r2.hp.cnt,r2.hp.new,r2.hp.dist,r2.hp.nd,r2.hp.ok,λx hx=>r2.hp.pin x (bz.2 (.inr hx)),r2.hp.prm,r2.hp.fr⟩;exact⟨hp,r.defers,r.tsz,λm x hx=>r2.hp.pin (x,a.tmps.getD m undef) (bz.2 (.inl (cj.2 ⟨(x,m),jm.2 hx,rfl⟩)))⟩
      ·cases hq
     ·cases hq
    have hc:Calls P f (xa.toList.map a.eval).toArray w λe w'=>∃v,e= .returned v/\R' v w':=by refine calls_of_wp f1 f2 ?_;exact hEV E' hE hP an c _ _ z h _ (λs' a' w' β' hg hq r2=>done s' a' w' β' hg hq r2) (λi s' a' w' β' _ hq _=>by cases hq) (λs' a' w' β' hg hq r2=>done s' a' w' β' hg hq r2) _ _ _ r'
    refine wpc (xH ho f5) hc ?_;rintro v w' ⟨y,s',β',k1,k2,k3,k4⟩;exact hk (put ⟨s.t,s'.m,s.fr⟩ o.dst y) _ w' β' (Ag.put (s:=s) (s':=⟨s.t,s'.m,s.fr⟩) ⟨λ_ _=>rfl,rfl,rfl,k4⟩ (λn e=> .inl e)) k1 (k2.put λ_=>k3)
 ·cases h
def aKq (G:Good P g Y TI FZ)(hI:rG P IL)(hEV:aTx P Y g EV)(hE:E.fr=[])(hP:E.prm=[]){s:St U}{a:Act}{w:World}{β:List Tr}(r:bE Y.C E s a w β){al:List Oper}{i:Nat}{o:Oper}(ho:al[i]? =some o){l:List Nat}{an:An}{K:St U->Option α}{z:α}(h:ilr Y TI FZ IL EV al (i::l) an s K=some z):
  ∃an',ilo an'=ilo an/\∀(K':Act->World->Prop) (Q:Exit->Act->World->Prop),(∀s' a' w' β',Ag (Wr al o) s s'->ilr Y TI FZ IL EV al l an' s' K=some z->bE Y.C E s' a' w' β'->(Nat.ble (vG FZ o.op) 1=true->Ext w w')->K' a' w')->if Region.wanted o (yielded al.toArray a.tmps)=true then o.wp P a w K' Q else K' (a.put o.dst undef) w:=by
 have plain:∀an',ilo an'=ilo an->grd Y TI FZ al o s (λs'=>ilr Y TI FZ IL EV al l an' s' K)=some z->∃an',ilo an'=ilo an/\∀(K':Act->World->Prop) (Q:Exit->Act->World->Prop),(∀s' a' w' β',Ag (Wr al o) s s'->ilr Y TI FZ IL EV al l an' s' K=some z->bE Y.C E s' a' w' β'->(Nat.ble (vG FZ o.op) 1=true->Ext w w')->K' a' w')->if Region.wanted o (yielded al.toArray a.tmps)=true then o.wp P a w K' Q else K' (a.put o.dst undef) w:=
  λan' he h=>⟨an',he,λK' Q hk=>aTq G r h hk⟩
 unfold ilr at h;rw[aS,ho] at h;cases an with
 |il k b q=>
  simp only at h;cases hb:Nat.beq k i with
  |false=>rw[hb] at h;exact plain _ rfl h
  |true=>
   rw[hb] at h;simp only[ac] at h;cases hc:Nat.beq (vG FZ o.op) 2 with
   |false=>rw[hc] at h;cases h
   |true=>
    rw[hc] at h;simp only[ac] at h;have hc:=ah hc;refine⟨q,rfl,λK' Q hk=> ?_⟩;obtain⟨s1,r1,h1,h2⟩:=Hl r h;rcases h2 with⟨hw,h2⟩|⟨hw,h2⟩
    ·rw[cH hw];exact bHi G hI hEV hE hP r1 (al:=al) h2 (λs' a' w' β' q1 q2 q3=>hk s' a' w' β' (h1.trans q1) q2 q3 (λhh=>by rw[hc] at hh;cases hh))
    ·rw[cX (by rw[hw];simp)];exact hk _ _ w β (h1.put (λn e=> .inl e)) h2 (r1.put (x:= .l .und) (v:=undef) (λ_=>rfl)) (λ_=>Ext.refl w)
 |_=>exact plain _ rfl h
def bQd (G:Good P g Y TI FZ)(hI:rG P IL)(hEV:aTx P Y g EV)(hE:E.fr=[])(hP:E.prm=[]){al:List Oper}{Q:Exit->Act->World->Prop}{D:Nat->Prop}:∀(n i:Nat) (an:An) (s:St U) (K:St U->Option α) (z:α),i+n=al.length->(∀o∈al,∀n,Wr al o n->D n)->ilr Y TI FZ IL EV al (rng n i) an s K=some z->
  (∀s' a w β,Ag D s s'->K s'=some z->bE Y.C E s' a w β->Q .normal a w)->∀a w β,bE Y.C E s a w β->wpList P al.toArray Q (al.drop i) a w
 |0,i,an,s,K,z,hn,hD,h,hQ,a,w,β,r=>by
  rw[fW (by omega)];exact wpList_nil (hQ s a w β (Ag.refl s) h r)
 |n+1,i,an,s,K,z,hn,hD,h,hQ,a,w,β,r=>by
  have hi:i<al.length:=by omega
  have ho:al[i]? =some al[i]:=ae hi;obtain⟨an',_,hk⟩:=aKq G hI hEV hE hP r ho (l:=rng n (Nat.succ i)) h;rw[ct hi];refine wpList_step λK' hK'=>hk K' _ λs' a' w' β' q1 q2 q3 _=>hK' _ _ ?_;have q1':=q1.mono (hD _ (cN hi));exact bQd G hI hEV hE hP n (i+1) an' s' K z (by omega) hD q2 (λs2 a2 w2 β2 p1 p2 p3=>hQ s2 a2 w2 β2 (q1'.trans p1) p2 p3) a' w' β' q3
def bQe (G:Good P g Y TI FZ)(hI:rG P IL)(hEV:aTx P Y g EV)(hE:E.fr=[])(hP:E.prm=[]){al:List Oper}{Q:Exit->Act->World->Prop}{D:Nat->Prop}:∀(l:List Nat) (an:An) (s:St U) (K:St U->Option α) (z:α),(∀o∈al,∀n,Wr al o n->D n)->ilr Y TI FZ IL EV al l an s K=some z->
  (∀s' a w β,Ag D s s'->K s'=some z->bE Y.C E s' a w β->Q .normal a w)->∀listed,chz al.toArray l listed=true->∀a w β,bE Y.C E s a w β->wpAny P .any al.toArray Q l.length listed a w
 |[],an,s,K,z,_,h,hQ,listed,hc,a,w,β,r=>⟨by simpa[chz] using hc,hQ s a w β (Ag.refl s) h r⟩
 |i::l,an,s,K,z,hD,h,hQ,listed,hc,a,w,β,r=>by
  replace hc:((Region.ready .any al.toArray listed==[i])&&chz al.toArray l (listed.setIfInBounds i true))=true:=hc;simp only[aa,cG] at hc;cases ho:al[i]? with
  |none=>
   have:(none:Option α)=some z:=by have h':=h;unfold ilr at h';rw[aS,ho] at h';exact h'
   cases this
  |some o=>
   obtain⟨an',_,hk⟩:=aKq G hI hEV hE hP r ho h;have hg:al.toArray[i]? =some o:=by simpa using ho
   refine aYg hc.1 (wpOp_step hg λK' hK'=>hk K' _ λs' a' w' β' q1 q2 q3 _=>hK' _ _ ?_);have q1':=q1.mono (hD o (az ho));exact bQe G hI hEV hE hP l an' s' K z hD q2 (λs2 a2 w2 β2 p1 p2 p3=>hQ s2 a2 w2 β2 (q1'.trans p1) p2 p3) _ hc.2 a' w' β' q3
def bDx (G:Good P g Y TI FZ)(hI:rG P IL)(hEV:aTx P Y g EV)(hE:E.fr=[])(hP:E.prm=[]){s:St U}{a:Act}{w:World}{β:List Tr}(r:bE Y.C E s a w β){al:List Oper}{i:Nat}{o:Oper}(ho:al[i]? =some o)(hc:vG FZ o.op=0){l:List Nat}{an:An}{K:St U->Option α}{z:α}(h:ilr Y TI FZ IL EV al (i::l) an s K=some z):
  ∃an',ilo an'=ilo an/\grd Y TI FZ al o s (λs'=>ilr Y TI FZ IL EV al l an' s' K)=some z:=by
 unfold ilr at h;rw[aS,ho] at h;cases an with
 |il k b q=>
  simp only at h;cases hb:Nat.beq k i with
  |false=>rw[hb] at h;exact⟨_,rfl,h⟩
  |true=>rw[hb] at h;simp only[ac] at h;rw[hc] at h;cases h
 |_=>exact⟨_,rfl,h⟩
def bOh (G:Good P g Y TI FZ)(hI:rG P IL)(hEV:aTx P Y g EV)(hE:E.fr=[])(hP:E.prm=[]){al:List Oper}{a0:Option Nat}(hs:Region.noSelect al.toArray=true){Q:Exit->Act->World->Prop}{D:Nat->Prop}:∀(l:List (Nat×Bool)) (an:An) (s:St U) (K:St U->Option α) (z:α),(∀o∈al,∀n,Wr al o n->D n)->ilr Y TI FZ IL EV al (l.map Prod.fst) an s K=some z->
  (∀s' a w β,Ag D s s'->K s'=some z->bE Y.C E s' a w β->Q .normal a w)->
   ∀listed,Dn .any al.toArray listed->chk al.toArray a0 l listed=true->CG FZ al a0 l listed->∀a w β,bE Y.C E s a w β->dN P .any al.toArray a0 (NoPanic Q) (Ext w) l.length listed a w
 |[],an,s,K,z,_,h,hQ,listed,hd,hc,hg,a,w,β,r=>pE (P:=P) (a0:=a0) (S:=Ext w) (Q:=NoPanic Q) (by simpa[chk] using hc) (hQ s a w β (Ag.refl s) h r) 0
 |(i,fl)::l,an,s,K,z,hD,h,hQ,listed,hd,hc,hcg,a,w,β,r=>by
  replace h:ilr Y TI FZ IL EV al (i::l.map Prod.fst) an s K=some z:=h;cases ho:al[i]? with
  |none=>
   have:(none:Option α)=some z:=by have h':=h;unfold ilr at h';rw[aS,ho] at h';exact h'
   cases this
  |some o=>
   have hg:al.toArray[i]? =some o:=by simpa using ho
   have hmem:=az ho;cases fl with
   |true=>
    simp only[chk,aa] at hc;have hfr:Nat.beq (vG FZ o.op) 0=true/\frees FZ al a0 l=true:=by
     rcases hcg with hcg|⟨_,hcg⟩
     ·have hcg':frees FZ al a0 ((i,true)::l)=true:=hcg;simp only[frees,aS,ho,ac,aa] at hcg';exact hcg'
     ·exact absurd (Hr hcg).1 (by simp)
    have hc0:=ah hfr.1;obtain⟨an',_,h⟩:=bDx G hI hEV hE hP r ho hc0 h;obtain⟨v,s',h1,h2,h3,h4⟩:=bKj G r hc0 h;have hD':=hd.set (by simpa using hc.1.1.2);have h4':=h4.mono (hD o hmem);refine Mw (i:=i) (oi:=o) (v:=v) hg hs hc.1.1.1 hc.1.1.2 hc.1.2 hd (λ_ _ _ h=>h) ?_ (Ext.refl w) ?_
    ·rcases h1 with⟨k1,k2⟩|⟨k1,k2⟩
     ·exact .inl ⟨k1,k2⟩
     ·exact .inr ⟨k1,k2⟩
    ·exact bOh G hI hEV hE hP hs l an' s' K z hD h3 (λs2 a2 w2 β2 p1 p2 p3=>hQ s2 a2 w2 β2 (h4'.trans p1) p2 p3) _ hD' hc.2 (.inl hfr.2) _ w β h2
   |false=>
    replace hc:((Region.ready .any al.toArray listed==[i])&&(a0 !=some i|| !fM a0 (listed.setIfInBounds i true))&&chk al.toArray a0 l (listed.setIfInBounds i true))=true:=hc;simp only[aa,cG] at hc;have hD':=hd.set (i:=i) (by rw[hc.1.1];simp);have hcase:(Nat.ble (vG FZ o.op) 1=true/\frees FZ al a0 l=true)\/(fM a0 (listed.setIfInBounds i true)=false/\aF2 l=true):=by
     rcases hcg with hcg|⟨hn,hcg⟩
     ·have hcg':frees FZ al a0 ((i,false)::l)=true:=hcg;simp only[frees,aS,ho,ab] at hcg';cases hb:Nat.ble (vG FZ o.op) 1 with
      |true=>rw[hb] at hcg';exact .inl ⟨rfl,hcg'⟩
      |false=>
       rw[hb] at hcg';simp only[ab,aa] at hcg';refine .inr ⟨?_,hcg'.2⟩;cases a0 with
       |none=>exact absurd hcg'.1 (by simp)
       |some b=>have hbi:b=i:=ah hcg'.1;subst hbi;have:=hc.1.2;simpa using this
     ·exact .inr ⟨mE hn,(Hr hcg).2⟩
    obtain⟨an',_,hk⟩:=aKq G hI hEV hE hP r ho h;refine jT hc.1.1 (by simp) (λi' hi'=> ?_);simp at hi';subst hi';refine wpOp_step hg λK' hK'=>hk K' _ λs' a' w' β' q1 q2 q3 q4=>hK' _ _ ?_;have q1':=q1.mono (hD o hmem);have cont:=λhh=>bOh G hI hEV hE hP hs l an' s' K z hD q2 (λs2 a2 w2 β2 p1 p2 p3=>hQ s2 a2 w2 β2 (q1'.trans p1) p2 p3) _ hD' hc.2 hh a' w' β' q3;rcases hcase with⟨c1,c2⟩|⟨c1,c2⟩
    ·have hx:=q4 c1;exact⟨λ_=>hx,tY (λx hx'=>Ext.trans hx hx') _ _ _ _ (cont (.inl c2))⟩
    ·exact⟨λhn=>(by rw[c1] at hn;cases hn),oZ _ _ _ _ c1 (cont (.inr ⟨c1,c2⟩))⟩
def bOi (G:Good P g Y TI FZ)(hI:rG P IL)(hEV:aTx P Y g EV)(hE:E.fr=[])(hP:E.prm=[]){s:St U}{a:Act}{w:World}{β:List Tr}{al:List Oper}{a0:Option Nat}{Q:Exit->Act->World->Prop}{i:Nat}{o:Oper}{n:Nat}{listed:Array Bool}{wS:World}(ho:al[i]? =some o){pre:Bool}(ha:a0Y a0 i listed=true)(hp:fM a0 listed=pre)(hpre:(pre&& !zU a0 i)=false)
  {b:An} {K:St U->Option α} {z:α} (h:aOz al o (λs=>inl TI IL EV b o s K) s K=some z) (r:bE Y.C E s a w β)
  (hk:∀s' a' w' β',Ag (Wr al o) s s'->K s'=some z->bE Y.C E s' a' w' β'->dN P .any al.toArray a0 (NoPanic Q) (Ext w') n (listed.setIfInBounds i true) a' w'):
  wpOp P al.toArray (NoPanic Q) i (λa' w'=>(fM a0 (listed.setIfInBounds i true)=true->Ext wS w')/\dN P .any al.toArray a0 (NoPanic Q) (Ext wS) n (listed.setIfInBounds i true) a' w') a w:=by
 have hny:fM a0 (listed.setIfInBounds i true)=false:=(We ha hp).trans hpre;have hg:al.toArray[i]? =some o:=by simpa using ho
 refine wpOp_step hg λK' hK'=> ?_;have fin:∀s' a' w' β',Ag (Wr al o) s s'->K s'=some z->bE Y.C E s' a' w' β'->K' a' w':=λs' a' w' β' q1 q2 q3=>hK' _ _ ⟨λhn=>(by rw[hny] at hn;cases hn),oZ _ _ _ _ hny (hk s' a' w' β' q1 q2 q3)⟩;obtain⟨s1,r1,h1,h2⟩:=Hl r h;rcases h2 with⟨hw,h2⟩|⟨hw,h2⟩
 ·rw[cH hw];exact bHi G hI hEV hE hP r1 (al:=al) h2 (λs' a' w' β' q1 q2 q3=>fin s' a' w' β' (h1.trans q1) q2 q3)
 ·rw[cX (by rw[hw];simp)];exact fin _ _ w β (h1.put (λn e=> .inl e)) h2 (r1.put (x:= .l .und) (v:=undef) (λ_=>rfl))
def bKv (G:Good P g Y TI FZ)(hI:rG P IL)(hEV:aTx P Y g EV)(hE:E.fr=[])(hP:E.prm=[]){al:List Oper}{a0:Option Nat}(hs:Region.noSelect al.toArray=true){Q:Exit->Act->World->Prop}{D:Nat->Prop}:∀(l:List (Nat×Bool)) (an:An) (pre st:Bool) (s:St U) (K:St U->Option α) (z:α),(∀i∈l,∀o,al[i.1]? =some o->∀n,Wr al o n->D n)->ilY Y TI FZ IL EV al a0 l an pre st s K=some z->
  (∀s' a w β,Ag D s s'->K s'=some z->bE Y.C E s' a w β->Q .normal a w)->∀listed,Dn .any al.toArray listed->Nc al.toArray a0 l listed=true->fM a0 listed=pre->∀a w β wS,Lk E none st pre wS w->bE Y.C E s a w β->dN P .any al.toArray a0 (NoPanic Q) (Ext wS) l.length listed a w
 |[],an,pre,st,s,K,z,_,h,hQ,listed,_,hc,_,a,w,β,wS,_,r=>pE (P:=P) (a0:=a0) (S:=Ext wS) (Q:=NoPanic Q) (by simpa[Nc] using hc) (hQ s a w β (Ag.refl s) h r) 0
 |(i,fl)::l,an,pre,st,s,K,z,hD,h,hQ,listed,hdn,hc,hp,a,w,β,wS,hl,r=>by
  unfold ilY at h;rw[aS] at h;cases ho:al[i]? with
  |none=>rw[ho] at h;cases h
  |some o=>
   rw[ho] at h;simp only at h;have hDi:=hD (i,fl) (by simp) o ho;have hD':∀j∈l,∀o,al[j.1]? =some o->∀n,Wr al o n->D n:=λj hj=>hD j (by simp[hj]);cases fl with
   |true=>
    simp only[ac] at h;simp only[Nc,aa] at hc;obtain⟨hr,hne⟩:=pG hc.1;exact stepT G hs ho hdn hc.1 h hl.st (λhn=>hl.pre (hp.symm.trans hn)) r λv s' h1 h2 h3=>
     bKv G hI hEV hE hP hs l an pre st s' K z hD' h2 (λs2 a2 w2 β2 g1=>hQ s2 a2 w2 β2 ((h1.mono hDi).trans g1)) _ (hdn.set hr) hc.2 ((wG hne).trans hp) _ w β wS hl h3
   |false=>
    simp only[Nc,aa,cG] at hc;simp only[ab] at h;have hr:i∈Region.ready .any al.toArray listed:=by rw[hc.1];simp
    refine jT hc.1 (by simp) λi' hi'=> ?_;simp at hi';subst hi';have plain:∀an',grd Y TI FZ al o s (λs'=>bif !(pre&& !zU a0 i')||(Nat.ble (vG FZ o.op) 1||unO none s'.m.o) then ilY Y TI FZ IL EV al a0 l an' (pre&& !zU a0 i') (st&&Cx (none:Option (Nat×Nat))) s' K else none)=some z->wpOp P al.toArray (NoPanic Q) i' (λa' w'=>(fM a0 (listed.setIfInBounds i' true)=true->Ext wS w')/\dN P .any al.toArray a0 (NoPanic Q) (Ext wS) l.length (listed.setIfInBounds i' true) a' w') a w:=λan' h=>
     aWc G ho hc.2.1 hp (kd:=none) (K:=λs'=>ilY Y TI FZ IL EV al a0 l an' (pre&& !zU a0 i') (st&&Cx (none:Option (Nat×Nat))) s' K) h hl r λv s' w' β' wS' h1 h2 h3 h4=>
      bKv G hI hEV hE hP hs l an' _ _ s' K z hD' h2 (λs2 a2 w2 β2 g1=>hQ s2 a2 w2 β2 ((h1.mono hDi).trans g1)) _ (hdn.set hr) hc.2.2 (We hc.2.1 hp) _ w' β' wS' h4 h3
    cases an with
    |il k b q=>
     simp only at h;cases hb:Nat.beq k i' with
     |false=>rw[hb] at h;exact plain _ h
     |true=>
      rw[hb] at h;simp only[ac] at h;cases hq:(Nat.beq (vG FZ o.op) 2&& !(pre&& !zU a0 i')) with
      |false=>rw[hq] at h;cases h
      |true=>
       rw[hq] at h;simp only[ac] at h;simp only[aa,cq] at hq;exact bOi G hI hEV hE hP ho hc.2.1 hp hq.2 h r λs' a' w' β' q1 q2 q3=>
        bKv G hI hEV hE hP hs l q false st s' K z hD' q2 (λs2 a2 w2 β2 g1=>hQ s2 a2 w2 β2 ((q1.mono hDi).trans g1)) _ (hdn.set hr) hc.2.2 ((We hc.2.1 hp).trans hq.2) a' w' β' w' ⟨λ_ _ h=>(by cases h),λ_=>rfl,λ_=>rfl,λ_=>Ext.refl _⟩ q3
    |_=>exact plain _ h
def Good.pl (G:Good P g Y TI FZ):Good P g Y TI (plT FZ):=⟨G.ti,G.lay,λf S h=>by
 unfold plT at h;obtain⟨⟨f',S'⟩,hm,e⟩:=cj.1 h;injection e with e1 e2;subst e1;have h0:=G.fs f' S' hm;obtain⟨ar,rs,fr,wt,m⟩:=S';subst e2;cases fr with
 |false=>exact h0
 |true=>
  cases wt with
  |true=>exact h0
  |false=>exact bGx h0 rfl rfl⟩
def Xr (G:Good P g Y TI FZ)(hm:P.follows .mixedOrders=true)(hI:rG P IL):bBp P Y TI FZ IL g:=by
 intro E hE hP α EV hEV id os d an s N X R z D hD hA h;cases an with
 |il k b q=>
  intro Q hN hX hR a w β r;have hos:os.toList.toArray=os:=by simp
  by_cases hy:∃kb f a0 ord,ilo q= .y kb f a0 ord
  ·obtain⟨kb,f,a0,ord,hy⟩:=hy;unfold bC8 at h;simp only[hy] at h;replace h:(bif d&&aJ6 os none a0 ord then ilY Y TI FZ IL EV os.toList a0 ord (.il k b q) true true s N else none)=some z:=h;cases d with
   |false=>cases h
   |true=>
    cases hc:aJ6 os none a0 ord with
    |false=>rw[hc] at h;cases h
    |true=>rw[hc] at h;simp only[dw,ac] at h;simp only[aJ6,aa,bK] at hc;obtain⟨hs,hlen,hcf⟩:=hc;have hlen:=ah hlen;have r0:bE Y.C E s a w.drew β:=r.ext (Ext.drew w);refine wp_region_noPanic (wp_region_any hm (mD (a0:=a0) (S:=Ext w.drew) _ _ _ _ ?_));have:=bKv G hI hEV hE hP (a0:=a0) (al:=os.toList) (by rw[hos];exact hs) (Q:=Q) (D:=D) ord _ true true s N z (λi _ o ho=>hD o (az ho)) h hN (Array.replicate os.size false) (by rw[hos];exact Dn0) (by rw[hos];exact hcf) bHh a w.drew β w.drew ⟨λ_ _ h=>(by cases h),λ_=>rfl,λ_=>rfl,λ_=>Ext.refl _⟩ r0;rw[hos,hlen] at this;exact this
  replace h:(match(bif d then aCk FZ os.toList os (ilo q) else some (rng (len os.toList) 0)) with
   |some l=>ilr Y TI FZ IL EV os.toList l (.il k b q) s N
   |none=>none)=some z:=by
   unfold bC8 at h;simp only at h;split at h
   ·rename_i kb f a0 ord hq;exact absurd ⟨kb,f,a0,ord,hq⟩ hy
   ·exact h
  cases d with
  |false=>simp only[ab,bK] at h;refine wp_region_list ?_;have:=bQd G hI hEV hE hP (Q:=Q) (D:=D) os.toList.length 0 _ s N z (by omega) hD h hN a w β r;rw[gp,hos] at this;exact this
  |true=>
   simp only[ac] at h;cases ho:aCk FZ os.toList os (ilo q) with
   |none=>rw[ho] at h;cases h
   |some l=>
    rw[ho] at h;simp only at h;have r0:bE Y.C E s a w.drew β:=r.ext (Ext.drew w);rcases aRq ho with⟨hs,hlen,hc⟩|⟨a0,ord,hs,hlen,hc,hfr,hlo⟩
    ·refine wp_region_noPanic (wp_region_any hm ?_);have:=bQe G hI hEV hE hP (Q:=NoPanic Q) (D:=D) l _ s N z hD h hN (Array.replicate os.size false) (by rw[hos];exact hc) a w.drew β r0;rw[hos,hlen] at this;exact this
    ·refine wp_region_noPanic (wp_region_any hm (mD (a0:=a0) (S:=Ext w.drew) _ _ _ _ ?_));subst hlo;have:=bOh G hI hEV hE hP (a0:=a0) (by rw[hos];exact hs) (Q:=Q) (D:=D) ord _ s N z hD h hN (Array.replicate os.size false) (by rw[hos];exact Dn0) (by rw[hos];exact hc) (.inl hfr) a w.drew β r0;rw[hos,hlen] at this;exact this
 |pl b=>
  have hh:(∃a0 ord,rgn Y TI (plT FZ) os.toList os d (.r a0 ord) s N=some z)\/rgn Y TI (plT FZ) os.toList os d .n s N=some z:=by
   unfold bC8 at h;cases b with
   |r a0 ord=>exact .inl ⟨a0,ord,h⟩
   |_=>exact .inr h
  rcases hh with⟨a0,ord,hh⟩|hh
  ·exact aCy hE hP G.pl hm id os d (.r a0 ord) s N X R z D hD trivial hh
  ·exact aCy hE hP G.pl hm id os d .n s N X R z D hD trivial hh
 |_=>exact aCy hE hP G hm id os d _ s N X R z D hD hA h
end
end Go.EV
namespace Go.EV
open Go.RowKit Go.VK
variable {U:Uni} {Y:Lay U} {TI:List (Nat×TInfo)} {FZ:List (Nat×Sum U)} {IL:Il} {P:Program} {g:GI} {E:Env U g}
section
variable {s:St U} {a:Act} {w w0:World} {β:List Tr}
def bDy (hti:pY P TI=true)(r:bE Y.C E s a w β){fn:Func}{l:List ResultVar}(hf:fn.results=l.toArray){ks:List Kd}{z:rD U ks}(h:fin Y TI false ks l s=some z):∃v,(results fn a.tmps).run P w= .ok v w/\Rd w E.X0 [] v (mF ((bY Y ks z).map wJ)):=by
 unfold fin at h;cases h1:Wd TI s l with
 |none=>rw[h1] at h;cases h
 |some xs=>
  rw[h1] at h;obtain⟨vs,k1,k2,k3⟩:=xJ hti r h1;have hrd:=Hf r (Z:=E.X0) (λb hb=> .inl hb) ks (z:=z) h k2 k3 (.inr (aI6 r));refine⟨_,Aa hf k1,?_⟩;generalize(bY Y ks z).map wJ=Us at hrd;obtain⟨h2,h3⟩:=hrd;clear k1 k2 k3 h h1
  match Us,vs,h2,h3 with
  |[U],[v],_,h3=>exact h3 0 v U rfl rfl
  |[],[],_,_=>exact .tup rfl (by simp)
  |U::U'::Us,v::v'::vs,h2,h3=>rw[dif_neg (by simp)];exact .tup (by simpa using h2) (λi v c h5 h6=>h3 i v c (by simpa using h5) h6)
def aRs {w0:World}{X0:Nat->Prop}(hG:g.G w0)(hX0:∀b,X0 b->b<w0.heap.size){ks:List Kd}{z:rD U ks}{n:Nat}{vs:List Value}(hvs:RdL w0 X0 vs ((bY Y ks z).map wJ))(hn:(bY Y ks z).length<=n)(E:Env U g)(hE0:E.X0=X0)(hEY:∀b,¬E.Y0 b)(hEw:E.w0=w0)(hEp:E.pin=[])(hEm:E.prm=[])(hEf:E.fr=[]):
  bE Y.C E (ini Y n ks z) {tmps:=vs.toArray++Array.replicate (n-vs.toArray.size) undef,defers:=[]} w0 []:=by
 have hlen:vs.length=(bY Y ks z).length:=by rw[hvs.1,bl]
 refine⟨⟨by rw[<-hEw];exact Bel.refl _,rfl,by simp[ini],by simp[ini],by simp,by simp,by simp,by simp,by simp[hEp],by simp[hEm],by simp[hEf]⟩,rfl,?_,λm x hx=> ?_⟩
 ·simp only[ini,bK,au,bl,fg,jd,fR,Array.size_replicate,hlen]
 ·simp only[ini,bK,bl] at hx;by_cases hlt:m<(bY Y ks z).length
  ·rw[aq (by simpa using hlt),bh] at hx;cases hc:(bY Y ks z)[m]? with
   |none=>rw[hc] at hx;cases hx
   |some c=>
    rw[hc] at hx;have:=ak hx;subst this;have hvl:m<vs.length:=by omega
    have hv:(vs.toArray++Array.replicate (n-vs.toArray.size) undef).getD m undef=vs[m]:=by rw[ck,fk (by simpa using hvl)];simp[ae hvl]
    rw[hv];refine sI (O0 (Dc ks z c (az hc)) (hvs.2 m _ _ (ae hvl) (by rw[bh,hc];rfl)) (.inl λb hb=> ?_));rcases hb with hb|hb|⟨t,ht,_⟩
    ·rw[hE0] at hb;exact hb
    ·exact absurd hb (hEY b)
    ·simp at ht
  ·rw[ay (by rw[bl];omega)] at hx;have:=az hx;simp at this;rw[this.2];trivial
def bHj (G:Good P g Y TI FZ)(hm:P.follows .mixedOrders=true)(hI:rG P IL){f:FuncId}{fn:Func}{cd:Code}{n:Nat}{l:List ResultVar}{ar rs:List Kd}{an:An}{z:rD U ar}{q:rD U rs}(hf:P.funcs[f]? =some fn)(hb:fn.body=some cd)(hn:fn.ntmps=n)(hl:fn.results=l.toArray)
  (hE:∀args w,(callFunc f args).run P w= .ok (.enter f args) w) (hlen:(bY Y ar z).length<=n) (h:evF Y TI FZ IL an cd n ar rs false l z=some q):VK.Spec P g f ((bY Y ar z).map wJ) (λv=>v=mF ((bY Y rs q).map wJ)):=by
 refine⟨hE,λw X0 vs hG hX0 hvs=>calls_of_wp hf hb ?_⟩;let E:Env U g:=⟨X0,λ_=>False,w,[],[],λb h=> .inl (hX0 b h),λ_ h=>h.elim,λ_ _ h=>h,λw' hw=>g.st w w' hG (hw.ext λ_ h=>h),[]⟩;have r0:=aRs (Y:=Y) hG hX0 hvs hlen E rfl (λ_ h=>h) rfl rfl rfl rfl;have done:∀s' a' w' β',fin Y TI false rs l s'=some q->bE Y.C E s' a' w' β'->a'.defers=[]/\∃v,(results fn a'.tmps).run P w'= .ok v w'/\(∃v' r,Ending.returned v= .returned v'/\r=mF ((bY Y rs q).map wJ)/\Rd w' X0 [] v' r/\Ext w w'):=λs' a' w' β' hq r=>by
  obtain⟨v,k1,k2⟩:=bDy G.ti r hl hq;exact⟨r.defers,v,k1,v,_,rfl,rfl,k2,r.hp.ext.ext λ_ h=>h⟩
 rw[hn];exact aKm (Xr G hm hI) 1000 E rfl rfl an cd _ _ _ _ _ q (λ_=>True) (WC.true cd) (AW.true an) h _ (λs' a' w' β' _ hq r=>done s' a' w' β' hq r) (λi s' a' w' β' _ hq r=>by cases hq) (λs' a' w' β' _ hq r=>done s' a' w' β' hq r) _ _ _ r0
end
end Go.EV
namespace Go.EV
open Go.RowKit Go.VK
variable {U:Uni} {Y:Lay U} {TI:List (Nat×TInfo)} {FZ:List (Nat×Sum U)} {IL:Il} {P:Program} {g:GI} {E:Env U g}
section
variable {s:St U} {a:Act} {w w0:World} {β:List Tr} {C:Cod U}
def bDz {m:Mm U}{x:Lf U}{xs:List (Lf U)}{l:List Nat}(h:aCn m (x::xs)=some l):∃l1 l2,l=l1++l2/\aCn m [x]=some l1/\aCn m xs=some l2:=by
 cases x with
 |own i r=>
  simp only[aCn] at h ⊢;cases ho:nth m.o i with
  |none=>rw[ho] at h;cases h
  |some e=>
   obtain⟨ob,rv,cv⟩:=e;cases ob with
   |tree τ d ll=>
    rw[ho] at h;simp only at h;cases hb:(Nat.beq rv r&&d) with
    |false=>rw[hb] at h;cases h
    |true=>
     rw[hb] at h;simp only[ac] at h;cases hx:aCn m xs with
     |none=>rw[hx] at h;cases h
     |some l2=>rw[hx] at h;have:=ak h;subst this;exact⟨[i],l2,rfl,by simp[hb],rfl⟩
   |_=>rw[ho] at h;cases h
 |sl=>cases h
 |bor=>cases h
 |inn=>cases h
 |_=>exact⟨[],l,rfl,rfl,h⟩
def aWh (H:Hp C E s.m β w){kd:Kd}{x y:Lf U}{l:List Nat}{v:Value}(h:aCn s.m [x]=some l)(hr:rdn s.m kd x=some y)(hm:x.mean C w (E.X β) β s.m v)(hK:∀τ,kd= .sl τ->0<U.K τ):Ow C w (λ_=>False) true v y (jX β l):=by
 have hb0:jX β []=[]:=rfl;have flat:nM x=true->rC s.m x=some y->l=[]->(∀τ ll,y≠ .sl τ ll)->Ow C w (λ_=>False) true v y (jX β l):=λhf hr hl hns=>by
  obtain⟨k1,k2⟩:=Cy H hm hr (Z:=λ_=>False) (λ_ h=>h.elim) (.inl hf);subst hl;rw[hb0];cases y with
  |int k n=>obtain⟨rfl,h1,h2⟩:=k2.aAP;exact .int h1 h2
  |bool b=>obtain rfl:=k2.aAW;exact .bool
  |str z=>obtain⟨rfl,h1⟩:=k2.aAT;exact .str h1
  |sl τ ll=>exact absurd rfl (hns τ ll)
  |_=>cases k1
 cases x with
 |own i r=>
  obtain⟨_,e,t,h2,h3,h4⟩:=hm;obtain⟨ob,rv,cv⟩:=e;simp only[aCn,aS,h2] at h;replace hr:rC s.m (.own i r)=some y:=hr;simp only[rC,aS,h2] at hr;cases ob with
  |tree τ d ll=>
   simp only at h hr;cases hb:(Nat.beq rv r&&d) with
   |false=>rw[hb] at h;cases h
   |true=>
    rw[hb] at h;have:=ak h;subst this;simp only[aa] at hb;rw[hb.1] at hr;have:=ak hr;subst this;have hd:d=true:=hb.2;subst hd;rw[h4 (ah hb.1)];have ho:=(Hp.tree H h3 h2 rfl).conv (X':=λ_=>False) (aj _) (λ_ _ h=>h.elim) (λ_ _ _ h=>h) (λ_ _=>rfl);have hbl:jX β [i]=t.all:=by simp[jX,h3]
    rw[hbl];exact ho
  |_=>cases h
 |nil=>
  obtain rfl:=hm;have:=ak h;subst this;cases kd with
  |sl τ=>have:=ak (show some (Lf.sl τ [])=some y from hr);subst this;exact .sl aCr (hK τ rfl) (World.ownsRow_nil w 0 τ (U.K τ)) .n
  |_=>cases hr
 |int k n=>have e:=ak (show some (Lf.int k n)=some y from hr);exact flat rfl hr (ak h).symm (λ_ _ e'=>by rw[<-e] at e';cases e')
 |bool b=>have e:=ak (show some (Lf.bool b)=some y from hr);exact flat rfl hr (ak h).symm (λ_ _ e'=>by rw[<-e] at e';cases e')
 |str b=>have e:=ak (show some (Lf.str b)=some y from hr);exact flat rfl hr (ak h).symm (λ_ _ e'=>by rw[<-e] at e';cases e')
 |nat c=>refine flat rfl hr (ak h).symm (λτ ll e'=> ?_);subst e';replace hr:rC s.m (.nat c)=some (.sl τ ll):=hr;simp only[rC] at hr;split at hr<;>cases hr
 |lt c n=>refine flat rfl hr (ak h).symm (λτ ll e'=> ?_);subst e';replace hr:rC s.m (.lt c n)=some (.sl τ ll):=hr;simp only[rC] at hr;split at hr<;>cases hr
 |sl=>cases h
 |bor=>cases h
 |inn=>cases h
 |_=>cases hr
def aKr (H:Hp C E s.m β w):∀(ks:List Kd) {xs ys:List (Lf U)} {l:List Nat} {vs:List Value},rds s.m ks xs=some ys->aCn s.m xs=some l->Ms C w (E.X β) β s.m vs xs->(∀kd∈ks,∀τ,kd= .sl τ->0<U.K τ)->OwL C w (λ_=>False) true vs ys (jX β l)
 |[],[],ys,l,vs,h,hl,hM,_=>by
  have:=ak h;subst this;have:=ak hl;subst this;have:vs=[]:=bv hM.1;subst this;exact .n
 |[],_::_,_,_,_,h,_,_,_=>by cases h
 |_::_,[],_,_,_,h,_,_,_=>by cases h
 |kd::ks,x::xs,ys,l,vs,h,hl,hM,hK=>by
  obtain⟨y,ys',h1,h2,rfl⟩:=aV4 h;obtain⟨l1,l2,rfl,h3,h4⟩:=bDz hl;cases vs with
  |nil=>have:=hM.1;simp at this
  |cons v vs=>rw[N9];exact .c (aWh H h3 h1 (hM.2 0 v x rfl rfl) (hK kd (by simp))) (aKr H ks h2 h4 ⟨by have:=hM.1;simpa using this,λi u c p q=>hM.2 (i+1) u c (by simpa using p) (by simpa using q)⟩ (λkd' hk=>hK kd' (by simp[hk])))
def bBt (hY:LayOk Y)(H:Hp Y.C E s.m β w){kd:Kd}{x:Sv U}{z:kd.ty U}{v:Value}{cs:List (Lf U)}{l:List Nat}(hm:x.mean Y.C w (E.X β) β s.m v)(hp:parts x=some cs)(hl:aCn s.m cs=some l)(h:Na Y s.m kd x=some z)(hK:∀τ,kd= .sl τ->0<U.K τ):OwP Y.C w v (jX β l) (M0 Y kd z):=by
 have leaf:∀{y:Lf U},x= .l y->(∀T,kd≠ .st T)->(match rdn s.m kd y with|some q=>aGs kd q|none=>none)=some z->OwP Y.C w v (jX β l) (M0 Y kd z):=λ{y} hx hkd h0=>by
  subst hx;have:=ak hp;subst this;cases hr:rdn s.m kd y with
  |none=>rw[hr] at h0;cases h0
  |some q=>
   rw[hr] at h0;have hq:=Sj (show aGs kd q=some z from h0);have ho:=aWh H hl hr hm hK;rw[hq] at ho;cases kd with
   |st T=>exact absurd rfl (hkd T)
   |_=>exact⟨_,rfl,ho⟩
 cases kd with
 |st T=>
  cases x with
  |a cs'=>
   have:=ak hp;subst this;have h':(match rds s.m (Y.kd T) cs' with|some ds=>Y.C.bld T ds|none=>none)=some z:=h;cases hr:rds s.m (Y.kd T) cs' with
   |none=>rw[hr] at h';cases h'
   |some ds=>rw[hr] at h';obtain⟨vs,rfl,hM⟩:=hm;have ho:=aKr H _ hr hl hM (λkd hk τ e=>hY.pos T τ (e▸hk));rw[Y.C.hmk T ds z h'] at ho;exact⟨vs,rfl,ho⟩
  |l y=>
   have h':(match rdn s.m (Kd.st T) y with|some q=>aGs (Kd.st T) q|none=>none)=some z:=h;cases hr:rdn s.m (Kd.st T) y with
   |none=>rw[hr] at h';cases h'
   |some q=>rw[hr] at h';cases q<;>cases h'
  |t y=>cases h
 |int k=>cases x with
  |l y=>exact leaf rfl (by simp) h
  |_=>cases h
 |bool=>cases x with
  |l y=>exact leaf rfl (by simp) h
  |_=>cases h
 |str=>cases x with
  |l y=>exact leaf rfl (by simp) h
  |_=>cases h
 |sl τ=>cases x with
  |l y=>exact leaf rfl (by simp) h
  |_=>cases h
def bHk (hY:LayOk Y)(H:Hp Y.C E s.m β w)(ks:List Kd):∀{xs:List (Sv U)} {z:rD U ks} {vs:List Value} {l:List Nat},lQ Y s.m ks xs=some z->bC9 s.m xs=some l->vs.length=xs.length->(∀(i:Nat) (v:Value) (x:Sv U),vs[i]? =some v->xs[i]? =some x->x.mean Y.C w (E.X β) β s.m v)->(∀kd∈ks,∀τ,kd= .sl τ->0<U.K τ)->OwPs Y.C w vs (bY Y ks z) (jX β l):=by
 induction ks with
 |nil=>
  intro xs z vs l h hl hlen hm hK;cases xs with
  |nil=>have:=ak hl;subst this;have:vs=[]:=bv hlen;subst this;exact .n
  |cons=>cases h
 |cons k ks ih=>
  intro xs z vs l h hl hlen hm hK;cases xs with
  |nil=>cases ks<;>cases h
  |cons x xs=>
   cases vs with
   |nil=>simp at hlen
   |cons v vs=>
    simp only[bC9] at hl;cases hp:parts x with
    |none=>rw[hp] at hl;cases hl
    |some cs=>
     rw[hp] at hl;simp only at hl;cases h1:aCn s.m cs with
     |none=>rw[h1] at hl;cases hl
     |some l1=>
      cases h2:bC9 s.m xs with
      |none=>rw[h1,h2] at hl;cases hl
      |some l2=>
       rw[h1,h2] at hl;have:=ak hl;subst this;rw[N9];cases ks with
       |nil=>
        cases xs with
        |cons x' xs=>cases h
        |nil=>have hvs:vs=[]:=bv (by simpa using hlen);subst hvs;have:=ak h2;subst this;exact .c (bBt hY H (hm 0 v x rfl rfl) hp h1 (show Na Y s.m k x=some z from h) (hK k (by simp))) .n
       |cons k' ks'=>
        replace h:(match Na Y s.m k x with|some a=>(match lQ Y s.m (k'::ks') xs with|some b=>some (a,b)|none=>none)|none=>none)=some (show k.ty U×rD U (k'::ks') from z):=h;cases g1:Na Y s.m k x with
        |none=>rw[g1] at h;cases h
        |some z1=>
         cases g2:lQ Y s.m (k'::ks') xs with
         |none=>rw[g1,g2] at h;cases h
         |some z2=>rw[g1,g2] at h;have:=ak h;subst this;exact .c (bBt hY H (hm 0 v x rfl rfl) hp h1 g1 (hK k (by simp))) (ih g2 h2 (by simpa using hlen) (λi u c p q=>hm (i+1) u c (by simpa using p) (by simpa using q)) (λkd hk=>hK kd (by simp[hk])))
def bD0 (G:Good P g Y TI FZ)(r:bE Y.C E s a w β)(hEY:∀b,¬E.Y0 b){fn:Func}{l:List ResultVar}(hf:fn.results=l.toArray){ks:List Kd}{z:rD U ks}(h:fin Y TI true ks l s=some z):∃v B,(results fn a.tmps).run P w= .ok v w/\B.Nodup/\(∀b∈B,E.w0.heap.size<=b)/\OwR Y.C w v (bY Y ks z) B:=by
 unfold fin at h;cases h1:Wd TI s l with
 |none=>rw[h1] at h;cases h
 |some xs=>
  rw[h1] at h;simp only[ac] at h;cases h2:bC9 s.m xs with
  |none=>rw[h2] at h;cases h
  |some ids=>
   rw[h2] at h;simp only at h;cases hb:(dist ids&&aJ1 (U:=U) ks) with
   |false=>rw[hb] at h;cases h
   |true=>
    rw[hb] at h;simp only[ac] at h;simp only[aa] at hb;obtain⟨vs,k1,k2,k3⟩:=xJ G.ti r h1;have ho:=bHk G.lay r.hp ks h h2 k2 k3 (Xo hb.2);refine⟨_,jX β ids,Aa hf k1,aTl r.hp (xG.1 hb.1),λb hbb=> ?_,?_⟩
    ·obtain⟨j,_,u,hu,hub⟩:=wI hbb;exact(r.hp.new j u b hu hub).1.resolve_right (hEY b)
    ·generalize bY Y ks z=cps at ho ⊢;generalize jX β ids=B0 at ho ⊢;clear h k1 k3 h2 h1 k2;cases ho with
     |n=>exact⟨[],rfl, .n⟩
     | @c v x B B' vs xs' hv hr=>
      cases hr with
      |n=>rw[cY];exact hv
      | @c v2 x2 B2 B3 vs2 xs2 hv2 hr2=>rw[dif_neg (by simp)];exact⟨_,rfl, .c hv (.c hv2 hr2)⟩
end
def bD1 (G:Good P g Y TI FZ)(hm:P.follows .mixedOrders=true)(hI:rG P IL){f:FuncId}{fn:Func}{cd:Code}{n:Nat}{l:List ResultVar}{ar rs:List Kd}{an:An}{z:rD U ar}{q:rD U rs}(hf:P.funcs[f]? =some fn)(hb:fn.body=some cd)(hn:fn.ntmps=n)(hl:fn.results=l.toArray)
  (hE:∀args w,(callFunc f args).run P w= .ok (.enter f args) w) (hlen:(bY Y ar z).length<=n) (h:evF Y TI FZ IL an cd n ar rs true l z=some q):bMf P g Y.C f ((bY Y ar z).map wJ) (bY Y rs q):=by
 refine⟨hE,λw X0 vs hG hX0 hvs=>calls_of_wp hf hb ?_⟩;let E:Env U g:=⟨X0,λ_=>False,w,[],[],λb h=> .inl (hX0 b h),λ_ h=>h.elim,λ_ _ h=>h,λw' hw=>g.st w w' hG (hw.ext λ_ h=>h),[]⟩;have r0:=aRs (Y:=Y) hG hX0 hvs hlen E rfl (λ_ h=>h) rfl rfl rfl rfl;have done:∀s' a' w' β',fin Y TI true rs l s'=some q->bE Y.C E s' a' w' β'->a'.defers=[]/\∃v,(results fn a'.tmps).run P w'= .ok v w'/\(∃v' B,Ending.returned v= .returned v'/\Ext w w'/\B.Nodup/\(∀b∈B,w.heap.size<=b)/\OwR Y.C w' v' (bY Y rs q) B):=λs' a' w' β' hq r=>by
  obtain⟨v,B,k1,k2,k3,k4⟩:=bD0 G r (λ_ h=>h) hl hq;exact⟨r.defers,v,k1,v,B,rfl,r.hp.ext.ext λ_ h=>h,k2,k3,k4⟩
 rw[hn];exact aKm (Xr G hm hI) 1000 E rfl rfl an cd _ _ _ _ _ q (λ_=>True) (WC.true cd) (AW.true an) h _ (λs' a' w' β' _ hq r=>done s' a' w' β' hq r) (λi s' a' w' β' _ hq r=>by cases hq) (λs' a' w' β' _ hq r=>done s' a' w' β' hq r) _ _ _ r0
def Sl:∀(ks:List Kd) (z:rD U ks),(bY Y ks z).length=ks.length
 |[],_=>rfl
 |[k],_=>rfl
 |k::k'::ks,z=>by
  show(bY Y (k'::ks) z.2).length+1=_;rw[Sl (k'::ks)];rfl
def aRt {f:FuncId}{S:Sum U}(h:zY P g Y f S)(G:Good P g Y TI FZ):Good P g Y TI ((f,S)::FZ):=⟨G.ti,G.lay,λf' S' hm=>by
 rcases aE.1 hm with e|e
 ·injection e with e1 e2;subst e1;subst e2;exact h
 ·exact G.fs f' S' e⟩
def bOj (G:Good P g Y TI FZ)(hm:P.follows .mixedOrders=true)(hI:rG P IL){f:FuncId}{fn:Func}{cd:Code}{n:Nat}{l:List ResultVar}{S:Sum U}{an:rD U S.ar->An}(hf:P.funcs[f]? =some fn)(hb:fn.body=some cd)(hn:fn.ntmps=n)(hl:fn.results=l.toArray)
  (hE:∀args w,(callFunc f args).run P w= .ok (.enter f args) w) (hlen:S.ar.length<=n) (hwt:S.wt=false) (h:∀a r,S.m a=some r->evF Y TI FZ IL (an a) cd n S.ar S.rs S.fr l a=some r):zY P g Y f S:=λa r hr=>by
 have h':=h a r hr;refine⟨λ_ hfr=> ?_,λ_ hfr=> ?_,λhh=>(by rw[hwt] at hh;cases hh),λhh=>(by rw[hwt] at hh;cases hh)⟩
 ·rw[hfr] at h';exact bHj G hm hI hf hb hn hl hE (by rw[Sl];exact hlen) h'
 ·rw[hfr] at h';exact bD1 G hm hI hf hb hn hl hE (by rw[Sl];exact hlen) h'
end Go.EV
namespace Go.EV
open Go.RowKit Go.VK
variable {U:Uni} {Y:Lay U} {TI:List (Nat×TInfo)} {FZ:List (Nat×Sum U)} {IL:Il} {P:Program} {g:GI} {E:Env U g}
section
variable {s:St U} {a:Act} {w w0:World} {β:List Tr} {C:Cod U}
def OwP.lt {v:Value}{B:List Nat}{x:Bool×List (Lf U)}(h:OwP C w v B x):∀b∈B,b<w.heap.size:=by
 obtain⟨b,cs⟩:=x;cases b with
 |true=>obtain⟨vs,_,h⟩:=h;exact h.lt
 |false=>obtain⟨c,_,h⟩:=h;exact h.lt
end
end Go.EV
namespace Go.VK
def aC {α:Type}{c:Prop}[Decidable c]{x y:Option α}{r:α}(h:c->y=x)(hr:gd c x=some r):y=some r:=by
 unfold gd at hr;split at hr
 ·rename_i hc;rw[h hc];exact hr
 ·cases hr
end Go.VK
namespace Go.VK
open EV (bX)
section
variable {α β σ τ:Type}
def bHl {S:Type}{F:(S->Option τ)->S->Option τ}(V:Nat->S->Prop)(N:Nat)(R:Option τ)
  (step:∀i s rec,i<N->V i s->(∃s',V (i+1) s'/\F rec s=rec s')\/F rec s=R) (last:∀s rec,V N s->F rec s=R):∀(k i n:Nat) (s:S),i+k=N->k<n->V i s->bX n F s=R
 |0,i,n+1,s,hk,hn,h=>by
  have:i=N:=by omega
  subst this;exact last s _ h
 |k+1,i,n+1,s,hk,hn,h=>by
  rcases step i s (bX n F) (by omega) h with⟨s',h1,h2⟩|h2
  ·exact h2.trans (bHl V N R step last k (i+1) n s' (by omega) (by omega) h1)
  ·exact h2
def aKs {S:Type}{F:(S->Option τ)->S->Option τ}(V:Nat->S->Prop)(N:Nat)(R:Option τ){s:S}(hN:N<=18446744073709551616)(h0:V 0 s)
  (step:∀i s rec,i<N->V i s->(∃s',V (i+1) s'/\F rec s=rec s')\/F rec s=R) (last:∀s rec,V N s->F rec s=R):bX FUEL F s=R:=
 bHl V N R step last N 0 FUEL s (by omega) (by have:=fT;omega) h0
def bHm {S:Type}{F:(S->Option τ)->S->Option τ}(V:Nat->S->Prop)(N:Nat)(Q:τ->Prop)
  (step:∀i s rec,i<N->V i s->(∃s',V (i+1) s'/\F rec s=rec s')\/∃r,F rec s=some r/\Q r) (last:∀s rec,V N s->∃r,F rec s=some r/\Q r):∀(k i n:Nat) (s:S),i+k=N->k<n->V i s->∃r,bX n F s=some r/\Q r
 |0,i,n+1,s,hk,hn,h=>by
  have:i=N:=by omega
  subst this;exact last s _ h
 |k+1,i,n+1,s,hk,hn,h=>by
  rcases step i s (bX n F) (by omega) h with⟨s',h1,h2⟩|h2
  ·obtain⟨r,h3⟩:=bHm V N Q step last k (i+1) n s' (by omega) (by omega) h1;exact⟨r,h2.trans h3.1,h3.2⟩
  ·exact h2
def dK {i n:Nat}(h:i<n):decide ((i:Int)<(n:Int))=true:=by simpa using h
def dM {n:Nat}:decide ((n:Int)<(n:Int))=false:=by simp
def set_mid {l r:List β}{i:Nat}{d x:β}(h:l.length=i):(l++d::r).set i x=(l++[x])++r:=by subst h;rw[fe _ _ (aj _)];simp
def sK {a:List α}{F:(Nat->Option (Bool⊕PUnit))->Nat->Option (Bool⊕PUnit)}(hl:a.length<=18446744073709551616)
  (hF:∀rec i (hi:i<a.length),F rec i=rec (i+1)) (hE:∀rec,F rec a.length=some (.inr ())):bX FUEL F 0=some (.inr ()):=by
 refine aKs (λi s=>s=i) a.length _ hl rfl (λi s rec hi hv=> ?_) (λs rec hv=> ?_)
 ·subst hv;exact .inl ⟨_,rfl,hF rec s hi⟩
 ·subst hv;exact hE rec
def szP (left:Int):Prop:=0<=left/\left<=1048576
instance (left:Int):Decidable (szP left):=inferInstanceAs (Decidable (_/\_))
def aI9 {i:Nat}:((i:Nat):Int).toNat=i:=co i
def MkP (s c:Nat)(k:Int):Prop:=s<=1152921504606846976/\0<=k/\k+c<=4611686018427387904
instance (s c:Nat) (k:Int):Decidable (MkP s c k):=inferInstanceAs (Decidable (_/\_))
end
end Go.VK
namespace Go.VK
open EV (bX)
section
variable {α β σ τ:Type}
def nA (n:Nat)(a b:α):Prop:=a=b/\n<=1152921504606846976
noncomputable instance (n:Nat) (a b:α):Decidable (nA n a b):=Classical.propDecidable _
def okL (p:α->Prop)(l:List α):Prop:=l.length<=9223372036854775807/\∀y∈l,p y
def okS (s:ByteArray):Prop:=s.size<=9223372036854775807
def jM {f:α->Nat}{l:List α}{i:Nat}(hi:i<l.length):f l[i]<=(l.map f).sum:=by
 have:f l[i]∈l.map f:=cj.2 ⟨_,cN hi,rfl⟩;induction l generalizing i with
 |nil=>simp at hi
 |cons x l ih=>
  cases i with
  |zero=>simp
  |succ i=>
   have h':i<l.length:=by simpa using hi
   have:=ih h' (cj.2 ⟨_,cN h',rfl⟩);simp only[bm,dg,eJ];omega
end
end Go.VK
namespace Go.VK
end Go.VK
namespace Go.VK
open EV (bX)
section
variable {α β σ τ:Type}
def nC {l:List α}(p:α->Bool)(a b:τ){F:(Nat->Option τ)->Nat->Option τ}(hl:l.length<=18446744073709551616)
  (hF:∀rec i (hi:i<l.length),F rec i=bif p l[i] then some a else rec (i+1)) (hE:∀rec,F rec l.length=some b):bX FUEL F 0=some (bif l.any p then a else b):=by
 have key:∀i (hi:i<l.length),p l[i]=true->l.any p=true:=λi hi h=>gC.2 ⟨_,cN hi,h⟩;refine aKs (λi s=>i<=l.length/\s=i/\(l.take i).any p=false) l.length _ hl ⟨cx _,rfl,rfl⟩ (λi s rec hi hv=> ?_) (λs rec hv=> ?_)
 ·obtain⟨_,rfl,h3⟩:=hv;rw[hF rec s hi];cases hp:p l[s] with
  |true=>exact .inr (by rw[key s hi hp];rfl)
  |false=>exact .inl ⟨_,⟨hi,rfl,by rw[fh,ae hi,jn,h3];simp[hp]⟩,rfl⟩
 ·obtain⟨_,rfl,h3⟩:=hv;rw[eV] at h3;rw[hE,h3];rfl
def iM {l:List α}(p:Nat->α->Bool)(a b:τ){F:(Nat->Option τ)->Nat->Option τ}(hl:l.length<=18446744073709551616)
  (hF:∀rec i (hi:i<l.length),F rec i=bif p i l[i] then some a else rec (i+1)) (hE:∀rec,F rec l.length=some b):bX FUEL F 0=some (bif fO p 0 l then a else b):=by
 have key:∀(l:List α) (j:Nat),fO p j l=true↔∃(i:Nat) (hi:i<l.length),p (j+i) l[i]=true:=by
  intro l;induction l with
  |nil=>intro j;simp[fO]
  |cons x xs ih=>
   intro j;simp only[fO,cr,ih];constructor
   ·rintro(h|⟨i,hi,h⟩)
    ·exact⟨0,by simp,h⟩
    ·exact⟨i+1,by simpa using hi,by rw[show j+(i+1)=j+1+i by omega];exact h⟩
   ·rintro⟨i,hi,h⟩;cases i with
    |zero=>exact .inl h
    |succ i=>exact .inr ⟨i,by simpa using hi,by rw[show j+1+i=j+(i+1) by omega];exact h⟩
 refine aKs (λi s=>i<=l.length/\s=i/\∀(j:Nat) (hj:j<l.length),j<i->p j l[j]=false) l.length _ hl ⟨cx _,rfl,λj _ h=>by omega⟩ (λi s rec hi hv=> ?_) (λs rec hv=> ?_)
 ·obtain⟨_,rfl,h3⟩:=hv;rw[hF rec s hi];cases hp:p s l[s] with
  |true=>exact .inr (by rw[(key l 0).2 ⟨s,hi,by rw[ca];exact hp⟩];rfl)
  |false=>
   refine .inl ⟨_,⟨hi,rfl,λj hj h=> ?_⟩,rfl⟩;rcases fp j s with h'|h'
   ·exact h3 j hj h'
   ·have:j=s:=by omega
    subst this;exact hp
 ·obtain⟨_,rfl,h3⟩:=hv;have:fO p 0 l=false:=by
   cases h:fO p 0 l with
   |false=>rfl
   |true=>obtain⟨i,hi,hp⟩:=(key l 0).1 h;rw[ca,h3 i hi hi] at hp;cases hp
  rw[hE,this];rfl
def Nn {l:List α}(p:α->Bool){F:(Nat->Option (Int⊕PUnit))->Nat->Option (Int⊕PUnit)}(hl:l.length<=18446744073709551616)
  (hF:∀rec i (hi:i<l.length),F rec i=bif p l[i] then some (.inl (i:Int)) else rec (i+1)) (hE:∀rec,F rec l.length=some (.inr ())):nx (bX FUEL F 0) (λ_=>some (-1:Int))=some (iL p 0 l):=by
 have go:∀(k i n:Nat),i+k=l.length->k<n->nx (bX n F i) (λ_=>some (-1:Int))=some (iL p i (l.drop i)):=by
  intro k;induction k with
  |zero=>
   intro i n hk hn;obtain⟨n,rfl⟩:∃m,n=m+1:=⟨n-1,by omega⟩;have:i=l.length:=by omega
   subst this;rw[show bX (n+1) F l.length=F (bX n F) l.length from rfl,hE,dz];rfl
  |succ k ih=>
   intro i n hk hn;obtain⟨n,rfl⟩:∃m,n=m+1:=⟨n-1,by omega⟩;have hi:i<l.length:=by omega
   rw[show bX (n+1) F i=F (bX n F) i from rfl,hF _ i hi,ct hi,iL];cases p l[i] with
   |true=>rfl
   |false=>exact ih (i+1) n (by omega) (by omega)
 exact go l.length 0 FUEL (by omega) (by have:=fT;omega)
def fB {l:List α}(g:σ->α->σ)(Inv:Nat->σ->Prop)(fin:σ->Option τ){s0:σ}{F:(σ×Nat->Option τ)->σ×Nat->Option τ}(hl:l.length<=18446744073709551616)(h0:Inv 0 s0)
  (hI:∀i s (hi:i<l.length),Inv i s->Inv (i+1) (g s l[i])) (hF:∀rec i s (hi:i<l.length),Inv i s->F rec (s,i)=rec (g s l[i],i+1)) (hE:∀rec s,Inv l.length s->F rec (s,l.length)=fin s):bX FUEL F (s0,0)=fin (l.foldl g s0):=by
 refine aKs (λi s=>i<=l.length/\s=((l.take i).foldl g s0,i)/\Inv i s.1) l.length _ hl ⟨cx _,rfl,h0⟩ (λi s rec hi hv=> ?_) (λs rec hv=> ?_)
 ·obtain⟨_,rfl,h3⟩:=hv;have e:(l.take (i+1)).foldl g s0=g ((l.take i).foldl g s0) l[i]:=by rw[fh,ae hi,gv];rfl
  refine .inl ⟨_,⟨hi,rfl,by rw[e];exact hI i _ hi h3⟩,?_⟩;rw[hF rec i _ hi h3,e]
 ·obtain⟨_,rfl,h3⟩:=hv;rw[hE rec _ h3,eV]
def aRv {l:List α}(g:σ->α->σ)(Inv:Nat->σ->Prop)(fin:σ->Option τ){s0:σ}{F:(Nat×σ->Option τ)->Nat×σ->Option τ}(hl:l.length<=18446744073709551616)(h0:Inv 0 s0)
  (hI:∀i s (hi:i<l.length),Inv i s->Inv (i+1) (g s l[i])) (hF:∀rec i s (hi:i<l.length),Inv i s->F rec (i,s)=rec (i+1,g s l[i])) (hE:∀rec s,Inv l.length s->F rec (l.length,s)=fin s):bX FUEL F (0,s0)=fin (l.foldl g s0):=by
 refine aKs (λi s=>i<=l.length/\s=(i,(l.take i).foldl g s0)/\Inv i s.2) l.length _ hl ⟨cx _,rfl,h0⟩ (λi s rec hi hv=> ?_) (λs rec hv=> ?_)
 ·obtain⟨_,rfl,h3⟩:=hv;have e:(l.take (i+1)).foldl g s0=g ((l.take i).foldl g s0) l[i]:=by rw[fh,ae hi,gv];rfl
  refine .inl ⟨_,⟨hi,rfl,by rw[e];exact hI i _ hi h3⟩,?_⟩;rw[hF rec i _ hi h3,e]
 ·obtain⟨_,rfl,h3⟩:=hv;rw[hE rec _ h3,eV]
def aCz {f:α->List β}:∀{l:List α} {s:List β},l.foldl (λs x=>s++f x) s=s++(l.map f).flatten
 |[],s=>by simp
 |x::l,s=>by simp only[dc,aCz (l:=l),bm,cR,cf]
def aC0 {f:α->β}:∀{l:List α} {s:List β},l.foldl (λs x=>s++[f x]) s=s++l.map f
 |[],s=>by simp
 |x::l,s=>by simp only[dc,aC0 (l:=l),bm,cf,fc]
end
end Go.VK
namespace Go.VK
def RdA (w:World)(X:Nat->Prop):List V->Prop
 |[]=>True
 |c::cs=>(∃v,Rd w X [] v c)/\RdA w X cs
section
variable {w:World} {X:Nat->Prop}
def RdA.of:∀{cs:List V},(∀(i:Nat) (c:V),cs[i]? =some c->∃v,Rd w X [] v c)->RdA w X cs
 |[],_=>trivial
 |c::cs,h=>⟨h 0 c rfl,RdA.of λi d hd=>h (i+1) d (by simpa using hd)⟩
def RdA.ofL {vs:List Value}{Us:List V}(h:RdL w X vs Us):RdA w X Us:=RdA.of λi c hc=>by
 have hi:i<vs.length:=by rw[h.1];exact(bc.1 hc).1
 exact⟨vs[i],h.2 i vs[i] c (ae hi) hc⟩
def bOk {n:Int}(h:∃v,Rd w X [] v (.int .u8 n)):0<=n/\n<=255:=by obtain⟨v,h⟩:=h;cases h with|int h1 h2=>exact⟨h1,h2⟩
def bOl {α:Type}{k:Nat}{enc:α->List V}{l:List α}{p:α->Prop}(h:∃v,Rd w X [] v (.slice k (l.map enc)))(hp:∀y,RdA w X (enc y)->p y):okL p l:=by
 obtain⟨v,h⟩:=h;refine⟨?_,λy hy=>hp y ?_⟩
 ·obtain⟨A,c,rfl,h1,h2⟩:=h.aBD;rw[bl] at h1;exact bu h1 h2
 ·obtain⟨i,hi,rfl⟩:=du.1 hy;generalize he:l.map enc=es at h;cases h with
  |slice0 h=>simp at he;subst he;simp at hi
  |slice hn hpos hc hm hX hb hk hcell hrd=>exact RdA.of λj d hd=>⟨_,hrd i j (enc l[i]) d (by rw[<-he,bh,ae hi];rfl) hd⟩
end
def bKw {P:Program}{g:GI}{f:FuncId}{Us:List V}{R:V->Prop}{p:Prop}(he:∀args w,(callFunc f args).run P w= .ok (.enter f args) w)(h:p->Spec P g f Us R)(hp:∀w X,RdA w X Us->p):Spec P g f Us R:=
 ⟨he,λw X vs hg hX hR=>(h (hp w X (RdA.ofL hR))).2 w X vs hg hX hR⟩
end Go.VK
namespace Go.VK
def bQf (n:Nat):GI where
 G w:=∃m,w.cell? ⟨n,0,none⟩=some (.int .i64 m)
 st _ _ h he:=by obtain⟨m,hm⟩:=h;exact⟨m,he.cell hm⟩
def aGa (sep:ByteArray):∀(k:Nat) (s l:ByteArray),l∈Lib.splitB sep 0 k s->l.size<=s.size
 |0,s,l,h=>by
  rw[Lib.splitB_zero] at h;rw[cz.1 h];exact aj _
 |k+1,s,l,h=>by
  unfold Lib.splitB at h;split at h
  ·rw[cz.1 h];exact aj _
  ·rcases aE.1 h with rfl|h
   ·exact ext_size _ _ _
   ·exact bu (aGa sep k _ l h) (ext_size _ _ _)
def bBu:∀(l:List UInt8) (c:UInt8),Lib.indexByte l c<=l.length
 |[],_=>by show(-1:Int)<=_;simp
 |b::l,c=>by
  have:=bBu l c;simp only[Lib.indexByte,av];split
  ·omega
  ·split
   ·omega
   ·push_cast;omega
def bOm {P:Program}{g:GI}{F:FuncId}(hE:∀args w,(callFunc F args).run P w= .ok (.enter F args) w)(hS:∀(s:ByteArray) (c:UInt8) (w:World),Calls P F #[.string s, .string ⟨#[c]⟩] w λe w'=>e= .returned (.int .i64 (Lib.indexByte s.data.toList c))/\w'=w)
  (s sep:ByteArray) (h:sep.size=1):Spec P g F [.str s, .str sep] (λr=>r= .int .i64 (Lib.indexByte s.data.toList (sep.data.toList.getD 0 0))):=by
 refine⟨hE,λw X0 vs hG hX0 hvs=> ?_⟩;obtain⟨v,u,rfl⟩:∃v u,vs=[v,u]:=by
  match vs,hvs.1 with
  |[v,u],_=>exact⟨v,u,rfl⟩
 obtain⟨rfl,hv2⟩:=(hvs.2 0 v _ rfl rfl).aAT;obtain⟨rfl,hu2⟩:=(hvs.2 1 u _ rfl rfl).aAT;have hsep:(⟨#[sep.data.toList.getD 0 0]⟩:ByteArray)=sep:=by
  obtain⟨⟨l⟩⟩:=sep
  match l,h with
  |[c],_=>rfl
 have hc:=hS s (sep.data.toList.getD 0 0) w;rw[hsep] at hc;refine hc.mono ?_;rintro e w' ⟨rfl,rfl⟩;have h1:=Lib.indexByte_ge s.data.toList (sep.data.toList.getD 0 0);have h2:=bBu s.data.toList (sep.data.toList.getD 0 0);have h3:s.data.toList.length=s.size:=cy;have hv3:s.size<=9223372036854775807:=bu hv2 (by decide);exact⟨_,_,rfl,rfl, .int (by rw[show IntKind.i64.min= -9223372036854775808 by decide];omega) (by rw[show IntKind.i64.max=9223372036854775807 by decide];omega),Ext.refl _⟩
def aY9 {P:Program}{F:FuncId}{T n:Nat}(hE:∀args w,(callFunc F args).run P w= .ok (.enter F args) w)
  (hS:∀(s sep:ByteArray) (m:Int) (w:World),s.size<4294967281->w.cell? ⟨n,0,none⟩=some (.int .i64 m)->1<=sep.size->Calls P F #[.string s, .string sep] w λe w'=>
   e= .returned (.slice (some ⟨w.heap.size,0,none⟩) (Lib.countB s sep+1) (Lib.countB s sep+1))/\w'=w.alloc (.cells ((Lib.splitB sep 0 (Lib.countB s sep) s).map Value.string).toArray T))
  (s sep:ByteArray) (h1:s.size<4294967281) (h2:1<=sep.size):Spec P (bQf n) F [.str s, .str sep] (λr=>r= .slice 1 ((kE s sep).map sV)):=by
 refine⟨hE,λw X0 vs hG hX0 hvs=> ?_⟩;obtain⟨v,u,rfl⟩:∃v u,vs=[v,u]:=by
  match vs,hvs.1 with
  |[v,u],_=>exact⟨v,u,rfl⟩
 obtain⟨rfl,hv2⟩:=(hvs.2 0 v _ rfl rfl).aAT;obtain⟨rfl,hu2⟩:=(hvs.2 1 u _ rfl rfl).aAT;obtain⟨m,hm⟩:=hG;refine(hS s sep m w h1 hm h2).mono ?_;rintro e w' ⟨rfl,rfl⟩;have hl:(kE s sep).length=Lib.countB s sep+1:=Lib.splitB_all sep h2 0 _ s rfl;have hn:Lib.countB s sep+1=((kE s sep).map sV).length:=by rw[bl];exact hl.symm
 have hcnt:Lib.countB s sep<=s.size+1:=Lib.count_le s.data.toList sep.data.toList;have hsz:∀l∈kE s sep,l.size<=s.size:=λl h=>aGa sep _ s l h;refine⟨_,_,rfl,rfl,?_,Ext.alloc w _⟩;have hget:∀(i j:Nat) (e:List V) (d:V),((kE s sep).map sV)[i]? =some e->e[j]? =some d->∃l,(kE s sep)[i]? =some l/\j=0/\d= .str l:=by
  intro i j e d h3 h4;rw[bh] at h3;obtain⟨l,hl,rfl⟩:=eI.1 h3;cases j with
  |zero=>exact⟨l,hl,rfl,by simpa[sV] using h4.symm⟩
  |succ j=>simp[sV] at h4
 refine .slice (val:=λi j=> .string ((kE s sep).getD i ⟨#[]⟩)) hn (by rw[<-hn];omega) (aj _) (by unfold maxLen;omega) (λhxx=>by have:=hX0 _ hxx;simp at this) (by simp)
  (λe he=>by obtain⟨l,_,rfl⟩:=cj.1 he;rfl) (λi j e d h3 h4=> ?_) (λi j e d h3 h4=> ?_)
 ·obtain⟨l,h5,rfl,rfl⟩:=hget i j e d h3 h4;rw[fG,ca,Nat.mul_one,eg];have h6:(Lib.splitB sep 0 (Lib.countB s sep) s)[i]? =some l:=h5;rw[World.cell?_alloc_new];simp[List.getD,h5,h6]
 ·obtain⟨l,h5,rfl,rfl⟩:=hget i j e d h3 h4;have:=hsz l (az h5);have e6:(kE s sep).getD i ⟨#[]⟩=l:=by simp[List.getD,h5]
  rw[e6];exact .str (by unfold maxLen;omega)
end Go.VK
namespace Go
variable {H:Type} {enc:TypeId×Value->H}
def VK.aCA {a:Assume}{C:Checked}{os:Os}{f:FuncId}{fn:Func}{s:ChangeSpec}{conds:List PathCond}{apart fresh handsOn again:Bool}{X:World->Array Value->Prop}
  (hX:∀(w w':World) (args:Array Value),w.heap=w'.heap->X w args->X w' args)
  (own:ownKnob C.prog.godebug=none) (started:os.Started) (noInit:C.prog.inits.idxOf? f=none) (hfn:C.prog.funcs[f]? =some fn)
  (witness:∃(w:World) (tape:Tape) (i:Input),w.os=os/\(w.forCall tape i).Shaped C.prog/\i.vars=[]/\Input.okWide C.prog (w.forCall tape i) .any w.heap.size f i/\
   ((s.pre enc C.prog fn conds apart (w.forCall tape i).memory i.args/\X (w.forCall tape i).memory i.args)/\sizedMet enc C.prog fn (OpenSpec.ofChange s) apart (w.forCall tape i).memory i.args)/\a.holds C.prog (lone (Frame.enter C.prog f i.args .normal) [] (w.forCall tape i)))
  (contract:∀(W:World) (base:Nat) (args:Array Value) (ds gs:List (DataW H)) (before:List MemPlace),
   (∀(j:Nat) t v,fn.params[j]? =some t->args[j]? =some v->Value.okWide C.prog W .any base t v)->
   DataW.Whole enc C.prog fn.params.toList s.vars apart W args.toList ds gs before->
   X W args->W.ShapedOpen C.prog->
   Calls C.prog f args W λe W'=>∃v,e= .returned v/\s.post enc C.prog fn apart fresh handsOn again W args v W'):
  ReturnsInHanded a C os f .any (λw args=>(s.pre enc C.prog fn conds apart w args/\X w args)/\sizedMet enc C.prog fn (OpenSpec.ofChange s) apart w args) (s.post enc C.prog fn apart fresh handsOn again):=by
 refine returnsInHanded_of_calls own started noInit witness ?_;intro w tape i _ hsh _ hok hpre hholds;obtain⟨_,_,_,fn',hfn',_,_,_,_,hval⟩:=hok;have e:fn'=fn:=ak (hfn'.symm.trans hfn);subst e;obtain⟨⟨⟨ds,gs,before,hw,hc⟩,hx⟩,hz⟩:=hpre;have hw':=DataW.Whole.of_heap (w':=w.forCall tape i) (by rfl) hw;refine(contract (w.forCall tape i) w.heap.size i.args ds gs before hval hw' (hX _ _ _ (by rfl) hx) hsh).mono λe W' ⟨v,he,hp⟩=> ?_;subst he;exact ChangeSpec.post_blind hp
end Go

namespace Go.EV
open Go.RowKit Go.VK
variable {U:Uni} {Y:Lay U} {TI:List (Nat×TInfo)} {FZ:List (Nat×Sum U)} {IL:Il} {P:Program} {g:GI} {E:Env U g}
section
variable {s:St U} {a:Act} {w w0:World} {β:List Tr} {C:Cod U}
def aRw {x:Lf U}(h:bGb x=true):∀i,bN0 x=some i->1<=i:=λi hi=>by
 cases x<;>simp only[bN0,reduceCtorEq,ai] at hi<;>(subst hi;exact bf h)
def Xt:∀{xs:List (Lf U)},aQt xs=true->∀x∈xs,bGb x=true
 |[],_,x,hx=>by simp at hx
 |y::ys,h,x,hx=>by
  simp only[aQt,aa] at h;rcases aE.1 hx with rfl|hx
  ·exact h.1
  ·exact Xt h.2 x hx
def aKt:∀{xs:List (Sv U)},aVk xs=true->∀x∈xs,∀c∈aGz x,bGb c=true
 |[],_,x,hx=>by simp at hx
 |y::ys,h,x,hx=>by
  simp only[aVk,aa] at h;rcases aE.1 hx with rfl|hx
  ·cases x with
   |l z=>intro c hc;simp only[aGz,cz] at hc;subst hc;exact h.1
   |a cs=>exact Xt h.1
   |t xs=>intro c hc;simp[aGz] at hc
  ·exact aKt h.2 x hx
def bKx {X:Nat->Prop}{vs:List Value}{Us:List V}(h:RdL w X vs Us):Rd w X [] (if h:vs.length=1 then vs[0] else .tuple vs.toArray) (mF Us):=by
 obtain⟨h2,h3⟩:=h
 match Us,vs,h2,h3 with
 |[U],[v],_,h3=>exact h3 0 v U rfl rfl
 |[],[],_,_=>exact .tup rfl (by simp)
 |U::U'::Us,v::v'::vs,h2,h3=>rw[dif_neg (by simp)];exact .tup (by simpa using h2) (λi v c h5 h6=>h3 i v c (by simpa using h5) h6)
def bD2 (G:Good P g Y TI FZ)(hm:P.follows .mixedOrders=true)(hI:rG P IL){f:FuncId}{fn:Func}{cd:Code}{n T:Nat}{l:List ResultVar}{ks rs:List Kd}{an:An}{z:rD U (.st T::ks)}{q:rD U (.st T::rs)}{cs ds:List (Lf U)}{us rs':List (Bool×List (Lf U))}(hf:P.funcs[f]? =some fn)(hb:fn.body=some cd)(hn:fn.ntmps=n)(hl:fn.results=l.toArray)
  (hE:∀args w,(callFunc f args).run P w= .ok (.enter f args) w) (hz:bY Y (.st T::ks) z=(true,cs)::us) (hq:bY Y (.st T::rs) q=(true,ds)::rs') (hlen:us.length+1<=n) (h:evP Y TI FZ IL an cd n T ks rs l z=some q):bMg P g f T (cs.map Lf.toV) (ds.map Lf.toV) (us.map wJ) (mF (rs'.map wJ)):=by
 refine⟨hE,λw X b ws vs hG hX hXb hw hws hvs=>calls_of_wp hf hb ?_⟩;have hbl:b<w.heap.size:=(bw.1 hw).1;let E:Env U g:=⟨λx=>X x/\x≠b,(·=b),w,[],[],λx h=> .inl (hX x h.1),λx h=>by rw[h];exact hbl,λx h e=>h.2 e,hG,[(.l (.box 0 0), .pointer (some ⟨b,0,none⟩))]⟩;let t0:Tr:=⟨some b,0,0,[]⟩;have hall:t0.all=[b]:=rfl;have hXE:∀x,E.X [t0] x->X x:=λx hx=>by
  rcases hx with h|h|⟨t,ht,h⟩
  ·exact h.1
  ·have:x=b:=h;rw[this];exact hXb
  ·simp at ht;subst ht;rw[hall] at h;simp at h;rw[h];exact hXb
 have hCs:=Dc (Y:=Y) (.st T::ks) z;rw[hz] at hCs;let m0:Mm U:=⟨[⟨.box T cs (cs.map λ_=>0),0,0⟩],0,[]⟩;have h0:∀{i:Nat} {t:Tr},[t0][i]? =some t->i=0/\t=t0:=λ{i t} h=>by
  cases i with
  |zero=>simp at h;exact⟨rfl,h.symm⟩
  |succ i=>simp at h
 have Hh:Hp Y.C E m0 [t0] w:=by
  refine⟨Bel.refl _,rfl,λi e he=> ?_,λa i h=>by simp[m0] at h,λi t x ht hx=> ?_,λi j t u x hij ht hu hx hxu=> ?_,λi t ht=> ?_,λi t e ht he=> ?_,λx hx=> ?_,λx hx=>by simp[E] at hx,λf hf=>by simp[E] at hf⟩
  ·cases i with
   |zero=>simp[m0] at he;subst he;exact⟨aj _,aj _⟩
   |succ i=>simp[m0] at he
  ·obtain⟨_,rfl⟩:=h0 ht;rw[hall] at hx;simp at hx;subst hx;exact⟨.inr rfl,hbl⟩
  ·exact absurd ((h0 ht).1.trans (h0 hu).1.symm) hij
  ·obtain⟨_,rfl⟩:=h0 ht;rw[hall];simp
  ·obtain⟨rfl,rfl⟩:=h0 ht;simp[m0] at he;subst he;refine⟨by simp,b,ws,rfl,rfl,hw,by have:=hws.1;simpa using this,λj v c p q'=> ?_⟩;have hcd:c.aAZ=true:=(hCs (true,cs) (by simp)).1 c (az q');exact Db hcd (hws.2 j v _ p (by rw[bh,q'];rfl)) (.inl hXE)
  ·simp[E] at hx;subst hx;exact⟨rfl,_,t0,rfl,rfl,λ_=>⟨b,rfl,rfl⟩⟩
 have hvl:vs.length=us.length:=by have:=hvs.1;simpa using this
 have hini:bKb Y n T ks z=⟨(Sv.l (.box 0 0)::us.map aYh)++List.replicate (n-(us.length+1)) (.l .any),m0,[]⟩:=by simp only[bKb,hz,bK,av,bl];rfl
 have r0:bE Y.C E (bKb Y n T ks z) {tmps:=(.pointer (some ⟨b,0,none⟩)::vs).toArray++Array.replicate (n-(.pointer (some ⟨b,0,none⟩)::vs).toArray.size) undef,defers:=[]} w [t0]:=by
  rw[hini];refine⟨Hh,rfl,by simp[hvl];omega,λm x hx=> ?_⟩;have hget:∀(v:Value),(Value.pointer (some ⟨b,0,none⟩)::vs)[m]? =some v->((Value.pointer (some ⟨b,0,none⟩)::vs).toArray++Array.replicate (n-(Value.pointer (some ⟨b,0,none⟩)::vs).toArray.size) undef).getD m undef=v:=λv hv=>by
   have hlt:=lt_of_some hv;rw[ck,fk (by simpa using hlt)];simp only[List.getElem?_toArray,hv,cD]
  by_cases hlt:m<us.length+1
  ·simp only at hx;rw[aq (by simpa using hlt)] at hx;cases m with
   |zero=>simp at hx;subst hx;rw[hget (.pointer (some ⟨b,0,none⟩)) rfl];exact⟨rfl,_,t0,rfl,rfl,λ_=>⟨b,rfl,rfl⟩⟩
   |succ m=>
    rw[eu,bh] at hx;cases hc:us[m]? with
    |none=>rw[hc] at hx;cases hx
    |some c=>
     rw[hc] at hx;have:=ak hx;subst this;have hml:m<vs.length:=by rw[hvl];exact lt_of_some hc
     rw[hget vs[m] (by rw[eu];exact ae hml)];exact sI (O0 (hCs c (by have:=az hc;simp[this])) (hvs.2 m _ _ (ae hml) (by rw[bh,hc];rfl)) (.inl hXE))
  ·simp only at hx;rw[ay (by simp;omega)] at hx;have:=az hx;simp at this;rw[this.2];trivial
 have done:∀s' a' w' β',bKc Y TI T rs l s'=some q->bE Y.C E s' a' w' β'->a'.defers=[]/\∃v,(results fn a'.tmps).run P w'= .ok v w'/\(∃v' ws',Ending.returned v= .returned v'/\Bel (·=b) w w'/\w'.heap[b]? =some (.cells ws'.toArray T (0,0))/\RdL w' X ws' (ds.map Lf.toV)/\Rd w' X [] v' (mF (rs'.map wJ))):=λs' a' w' β' hfin r=>by
  unfold bKc at hfin;split at hfin
  ·rename_i T' cs' us' rv cv ho;rw[aS] at ho;split at hfin
   ·rename_i xs hres;cases hc:(Nat.beq T' T&&(aQt cs'&&aVk xs)) with
    |false=>rw[hc] at hfin;cases hfin
    |true=>
     rw[hc] at hfin;simp only[ac] at hfin;simp only[aa] at hc;obtain⟨hT,hn1,hn2⟩:=hc;have hT:=ah hT;subst hT;obtain⟨rvs,k1,k2,k3⟩:=xJ G.ti r hres;obtain⟨_,e',t',g1,g2,g3⟩:=r.hp.pin _ (cz.2 rfl);rw[ho] at g1;injection g1 with g1;subst g1;obtain⟨b',g4,g5⟩:=g3 rfl;have:b'=b:=by injection g5 with g5;injection g5 with g5;injection g5 with g5;exact g5.symm
     subst this;obtain⟨_,b2,ws',e1,e2,e3,e4⟩:=r.hp.ok 0 t' _ g2 ho;rw[g4] at e1;injection e1 with e1;subst e1;have hbt:b'∈t'.all:=Tr.root g4;have hrd:=Nh r (Z:=X) (λx hx=>by
      by_cases hxb:x=b'
      ·exact .inr (.inl hxb)
      ·exact .inl ⟨hx,hxb⟩) _ hfin (vs:= .agg ws'.toArray::rvs) (by simp[k2]) (λj v x p q'=>by
       cases j with
       |zero=>simp at p q';subst p;subst q';exact⟨ws',rfl,e4⟩
       |succ j=>exact k3 j v x (by simpa using p) (by simpa using q')) (λx hx c hc' i t x' hi ht hxt hX'=>by
       have h1:1<=i:=by
        rcases aE.1 hx with rfl|hx
        ·exact aRw (Xt hn1 c hc') i hi
        ·exact aRw (aKt hn2 x hx c hc') i hi
       by_cases hxb:x'=b'
       ·subst hxb;exact r.hp.dist 0 i t' t x' (by omega) g2 ht hbt hxt
       ·exact aI6 r i t x' ht hxt ⟨hX',hxb⟩)
     rw[hq,bm] at hrd;obtain⟨_,_,he,hr1,hr2⟩:=RdL.cons_inv hrd;injection he with he1 he2;subst he1;subst he2;have hr1:=RdL.agg (show Rd w' X [] (.agg ws'.toArray) (.agg (ds.map Lf.toV)) from hr1);exact⟨r.defers,_,Aa hl k1,_,ws',rfl,r.hp.ext,e3,hr1,bKx hr2⟩
   ·cases hfin
  ·cases hfin
 rw[hn];exact aKm (Xr G hm hI) 1000 E rfl rfl an cd _ _ _ _ _ q (λ_=>True) (WC.true cd) (AW.true an) h _ (λs' a' w' β' _ hq r=>done s' a' w' β' hq r) (λi s' a' w' β' _ hq r=>by cases hq) (λs' a' w' β' _ hq r=>done s' a' w' β' hq r) _ _ _ r0
def bOn (G:Good P g Y TI FZ)(hm:P.follows .mixedOrders=true)(hI:rG P IL){f:FuncId}{fn:Func}{cd:Code}{n T:Nat}{l:List ResultVar}{ks rs:List Kd}{m:rD U (.st T::ks)->Option (rD U (.st T::rs))}{an:rD U (.st T::ks)->An}(hf:P.funcs[f]? =some fn)(hb:fn.body=some cd)(hn:fn.ntmps=n)(hl:fn.results=l.toArray)
  (hE:∀args w,(callFunc f args).run P w= .ok (.enter f args) w) (hlen:ks.length+1<=n) (h:∀a r,m a=some r->evP Y TI FZ IL (an a) cd n T ks rs l a=some r):zY P g Y f ⟨.st T::ks, .st T::rs,true,true,m⟩:=λa r hr=>by
 have h':=h a r hr;refine⟨λhh=>(by cases hh),λhh=>(by cases hh),λ_ hh=>(by cases hh),λ_ _ T' ks' cs us ds rs' e1 e2 e3=> ?_⟩;injection e1 with e1 e4;injection e1 with e1;subst e1;subst e4;have hl':us.length+1<=n:=by have:=congrArg List.length e2;rw[Sl] at this;simp at this;omega
 exact bD2 G hm hI hf hb hn hl hE e2 e3 hl' h'
end
end Go.EV
