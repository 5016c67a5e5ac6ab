import Derived.Test.YtkkjfhgcpofjbaaGreatDoorEVptoyw
import Derived.Test.YtkkjfhgcpofjbaaGreatDoorVKatos
import Derived.Lib.SplitLaws
import Derived.HandedShaped
/- Printed by wip/tools: models, walks, proofs. -/
set_option linter.all false
namespace Go.EV
open Go.RowKit Go.VK
variable {U:Uni} {Y:Lay U} {TI:List (Nat×TInfo)} {FZ:List (Nat×Sum U)} {P:Program} {g:GI} {E:Env U g}
section
variable {C:Cod U} {s:St U} {a:Act} {w w':World} {β:List Tr}
def Env.ahs (E:Env U g)(L:List (Nat×Obj))(hb:∀x∈L,E.w0.heap.size<=x.1):Env U g:=
 ⟨λb'=>E.X0 b'\/∃x∈L,x.1=b',E.Y0,E.w0,L++E.prm,E.fr,λb' h=>by
  rcases h with h|⟨x,hx,e⟩
  ·rcases E.h0 b' h with h|⟨x,hx,e⟩
   ·exact .inl h
   ·exact .inr ⟨x,by simp[hx],e⟩
  ·exact .inr ⟨x,by simp[hx],e⟩,E.hY,λb' h b=>by
  rcases h with h|⟨x,hx,rfl⟩
  ·exact E.hXY b' h b
  ·have:=E.hY _ b;have:=hb x hx;omega,E.hg,E.pin⟩
theorem aIf {L:List (Nat×Obj)}{hb:∀x∈L,E.w0.heap.size<=x.1}{β:List Tr}{b':Nat}:(E.ahs L hb).X β b'↔E.X β b'\/∃x∈L,x.1=b':=by
 unfold Env.X;constructor
 ·rintro((h|h)|h|h)
  ·simp[*]
  ·exact .inr h
  ·exact .inl (.inr (.inl h))
  simp[*]
 ·rintro((h|h|h)|h)
  ·exact .inl (.inl h)
  ·exact .inr (.inl h)
  ·simp[*]
  ·exact .inl (.inr h)
def bL.aDK (r:bL C E s a w β){h}:bL C (E.ahs [] h) s a w β:=by simp_all[Ob.aBF,ev,Sv.aAW,Env.ahs,ak,aIf]
def bL.aDQ {h}(r:bL C (E.ahs [] h) s a w β):bL C E s a w β:=by simp_all[Ob.aBF,ev,Sv.aAW,Env.ahs,ak,aIf,inl]
def bL.aCP {L L':List (Nat×Obj)}{d:∀x∈L,E.w0.heap.size<=x.1}{hL':∀x∈L',E.w0.heap.size<=x.1}(r:bL C (E.ahs L d) s a w β)(h1:∀p∈L',p∈L):bL C (E.ahs L' hL') s a w β:=by
 have H:=r.hp;have ev:Evo w w ((E.ahs L d).X β) ((E.ahs L' hL').X β) β β s.m s.m s.m.o.length s.m.ns.length s.m.k:=⟨ak _,(by grind[aIf,inl]),λ_ _ _ h=>h,ak _,(by grind),(by grind)⟩;exact⟨⟨H.ext,H.len,H.vers,H.cnt,H.new,H.dist,H.nd,λi t e h1 h2=>Ob.aBF ev (H.ok i t e h1 h2) λb hb=>rfl,λx hx=>Sv.aAW ev (H.pin x hx),λx hx=>H.prm x (by
  have c:x∈L'++E.prm:=hx;rcases bp.1 c with c|c
  ·exact bp.2 (.inl (h1 x c))
  ·exact bp.2 (.inr c)),H.fr⟩,r.defers,r.tsz,λn x hx=>Sv.aAW ev (r.tm n x hx)⟩
def bQy {L:List (Nat×Obj)}{hb:∀x∈L,E.w0.heap.size<=x.1}(r:bL C (E.ahs L hb) s a w β):∀x∈L,x.1<w.heap.size:=λx hx=>
 (ca.1 (r.hp.prm x (bp.2 (.inl hx))).2.1).1
def bL.aDE {L:List (Nat×Obj)}{hb:∀x∈L,E.w0.heap.size<=x.1}(r:bL C (E.ahs L hb) s a w β){blk:Obj}(p:E.w0.heap.size<=w.heap.size){hb'}:bL C (E.ahs ((w.heap.size,blk)::L) hb') s a (w.alloc blk) β:=by
 have H:=r.hp;have he:Ext w (w.alloc blk):=Ext.alloc _ _;have d:(w.alloc blk).heap[w.heap.size]? =some blk:=by show(w.heap.push blk)[w.heap.size]? =some blk;simp
 have ev:Evo w (w.alloc blk) ((E.ahs L hb).X β) ((E.ahs ((w.heap.size,blk)::L) hb').X β) β β s.m s.m s.m.o.length s.m.ns.length s.m.k:=⟨he.size,(by grind[aIf,inl]),λ_ _ _ h=>he.cell h,ak _,(by grind),λi e t _ h1 h2=>⟨e,t,h1,h2,λ_=>⟨rfl,rfl⟩,λ_=>⟨rfl,rfl,rfl,λb hb=>he.block b (H.new i t b h2 hb).2⟩,λh=>⟨h,rfl⟩⟩⟩;refine⟨⟨H.ext.trans (Bel.aBM he),H.len,H.vers,H.cnt,λi t b h1 h2=>⟨(H.new i t b h1 h2).1,cf (H.new i t b h1 h2).2 he.size⟩,H.dist,H.nd,λi t e h1 h2=>Ob.aBF ev (H.ok i t e h1 h2) λb hb=>he.block b (H.new i t b h1 hb).2,λx hx=>Sv.aAW ev (H.pin x hx),λx hx=> ?_,λf j=> ?_⟩,r.defers,r.tsz,λn x hx=>Sv.aAW ev (r.tm n x hx)⟩
 ·have c:x∈(w.heap.size,blk)::(L++E.prm):=hx;rcases bf.1 c with rfl|c
  ·refine⟨p,d,λf j=> ?_,λi t ht hm=> ?_⟩
   ·exact(H.fr f j).2.2.1
   ·have:=(H.new i t _ ht hm).2;omega
  ·obtain⟨h1,h2,l,u⟩:=H.prm x c;exact⟨h1,(he.block _ (ca.1 h2).1).trans h2,l,u⟩
 ·obtain⟨h1,h2,h0,l⟩:=H.fr f j;exact⟨h1,h2,bz h0 he.size,l.imp id λq=>⟨q.1.trans he,q.2⟩⟩
def bL.aCO {L L':List (Nat×Obj)}{I:∀x∈L,E.w0.heap.size<=x.1}{hL':∀x∈L',E.w0.heap.size<=x.1}(r:bL C (E.ahs L I) s a w β){b:Nat}{blk:Obj}(hm:(b,blk)∈L)(hs1:∀x∈L',x∈L/\x.1≠b)(R:E.prm=[]){e':EO U}{t':Tr}{l:Nat}(hk:s.m.k<=l)(hv:e'.rv<=l/\e'.cv<=l)(ht:t'.all=[b])
  (J:Evo w w ((E.ahs L I).X β) ((E.ahs L' hL').X (β++[t'])) β (β++[t']) s.m ⟨s.m.o++[e'],l,s.m.ns⟩ s.m.o.length s.m.ns.length s.m.k->w.heap[b]? =some blk->e'.ob.ok C w ((E.ahs L' hL').X (β++[t'])) (β++[t']) ⟨s.m.o++[e'],l,s.m.ns⟩ t'):
  bL C (E.ahs L' hL') ⟨s.t,⟨s.m.o++[e'],l,s.m.ns⟩,s.fr⟩ a w (β++[t']):=by
 have H:=r.hp;have hlen:=H.len;obtain⟨S,M,T,N⟩:=H.prm (b,blk) (bp.2 (.inl hm));have K:b<w.heap.size:=(ca.1 M).1;have ev:Evo w w ((E.ahs L I).X β) ((E.ahs L' hL').X (β++[t'])) β (β++[t']) s.m ⟨s.m.o++[e'],l,s.m.ns⟩ s.m.o.length s.m.ns.length s.m.k:=by
  refine⟨ak _,λb' _ h=>aIf.2 ?_,λ_ _ _ h=>h,hk,λa i f _ h=>⟨f,h⟩,λi e t hi he z=>⟨e,t,?_,?_,λ_=>⟨rfl,rfl⟩,λ_=>⟨rfl,rfl,rfl,λ_ _=>rfl⟩,λh=>⟨h,rfl⟩⟩⟩
  ·rcases aIf.1 h with h|⟨x,hx,e⟩
   ·rcases h with h|h|⟨u,v,c⟩
    ·exact .inl (.inl h)
    ·exact .inl (.inr (.inl h))
    ·rcases bp.1 v with v|v
     ·exact .inl (.inr (.inr ⟨u,v,c⟩))
     ·simp at v;subst v;rw[ht] at c;simp at c;exact .inr ⟨_,hm,c.symm⟩
   ·exact .inr ⟨x,(hs1 x hx).1,e⟩
  ·exact(ao hi).trans he
  ·exact(ao (lt_of_some z)).trans z
 have hb':∀(i:Nat) (t:Tr),(β++[t'])[i]? =some t->β[i]? =some t\/(i=β.length/\t=t'):=λi t h=>by
  by_cases hi:i<β.length
  ·rw[ao hi] at h;exact .inl h
  ·have:=lt_of_some h;simp at this;have e:i=β.length:=by omega
   subst e;simp at h;exact .inr ⟨rfl,h.symm⟩
 have p:∀(i:Nat) (e:EO U),(s.m.o++[e'])[i]? =some e->s.m.o[i]? =some e\/(i=s.m.o.length/\e=e'):=λi e h=>by
  by_cases hi:i<s.m.o.length
  ·rw[ao hi] at h;exact .inl h
  ·have:=lt_of_some h;simp at this;have V:i=s.m.o.length:=by omega
   subst V;simp at h;exact .inr ⟨rfl,h.symm⟩
 refine⟨⟨H.ext,by simp[hlen],λi e he=> ?_,H.cnt,λi t x h1 h2=> ?_,λi j t u x A h1 h2 d q=> ?_,λi t h1=> ?_,λi t e h1 h2=> ?_,λx hx=>Sv.aAW ev (H.pin x hx),λx hx=> ?_,λf O=> ?_⟩,r.defers,r.tsz,λn x hx=>Sv.aAW ev (r.tm n x hx)⟩
 ·rcases p i e he with h|⟨_,rfl⟩
  ·have:=H.vers i e h;exact⟨bz this.1 hk,bz this.2 hk⟩
  ·exact hv
 ·rcases hb' i t h1 with h|⟨_,rfl⟩
  ·exact H.new i t x h h2
  ·rw[ht] at h2;simp at h2;subst h2;exact⟨.inl S,K⟩
 ·rcases hb' i t h1 with h|⟨F,rfl⟩<;>rcases hb' j u h2 with y|⟨W,rfl⟩
  ·exact H.dist i j t u x A h y d q
  ·rw[ht] at q;simp at q;subst q;exact N i t h d
  ·rw[ht] at d;simp at d;subst d;exact N j u y q
  ·exact A (F.trans W.symm)
 ·rcases hb' i t h1 with h|⟨_,rfl⟩
  ·exact H.nd i t h
  ·rw[ht];simp
 ·rcases hb' i t h1 with h|⟨F,rfl⟩
  ·rcases p i e h2 with y|⟨F,_⟩
   ·exact Ob.aBF ev (H.ok i t e h y) λ_ _=>rfl
   ·have:=lt_of_some h;rw[hlen] at this;omega
  ·rcases p i e h2 with y|⟨_,rfl⟩
   ·have:=lt_of_some y;rw[hlen] at F;omega
   ·exact J ev M
 ·have B:x∈L'++E.prm:=hx;rw[R,eo] at B;obtain⟨q1,q2⟩:=hs1 x B;obtain⟨h1,h2,d,q⟩:=H.prm x (bp.2 (.inl q1));refine⟨h1,h2,d,λi t Z G=> ?_⟩;rcases hb' i t Z with h|⟨_,rfl⟩
  ·exact q i t h G
  ·rw[ht] at G;simp at G;exact q2 G
 ·obtain⟨h1,h2,h0,d⟩:=H.fr f O;refine⟨by simp;omega,bz h2 hk,h0,?_⟩;rcases d with⟨j,e,q1,q2,q3⟩|⟨q1,q2⟩
  ·exact .inl ⟨j,e,q1,(ao (lt_of_some q2)).trans q2,q3⟩
  ·refine .inr ⟨q1,λi t x hi h1 hx=> ?_⟩;rcases hb' i t h1 with h|⟨_,rfl⟩
   ·exact q2 i t x hi h hx
   ·rw[ht] at hx;simp at hx;subst hx;exact T f O
def bAg (G:Good P g Y TI FZ){L L':List (Nat×Obj)}{B:∀x∈L,E.w0.heap.size<=x.1}{hL':∀x∈L',E.w0.heap.size<=x.1}(r:bL Y.C (E.ahs L B) s a w β){b:Nat}{blk:Obj}(hm:(b,blk)∈L)(hs1:∀x∈L',x∈L/\x.1≠b)(F:E.prm=[]){o:Oper}(I:Flp P a o blk)(hg:Eo Y TI s o.op=true){α:Type}{K:Sv U->St U->Option α}{z:α}(h:stp Y TI FZ s o.op K=some z):
  ∃x s' β',K x s'=some z/\bL Y.C (E.ahs L' hL') s' a w β'/\x.mean Y.C w ((E.ahs L' hL').X β') β' s'.m (mkF o.op b)/\s'.t=s.t/\s'.fr=s.fr/\Am s.m s'.m:=by
 have hlen:=r.hp.len;cases ho:o.op with
 |alloc T=>
  rw[ho] at hg h;obtain⟨i,hi⟩:=Ty hg;obtain⟨vs,k,R⟩:=R8 (Y:=Y) (a:=a) G.ti ho hi;have c:=I.inj w k;subst c;have q:K (.l (.box (len s.m.o) 0)) (psh s (.box T (i.z.map Kz.lf) (i.z.map λ_=>s.m.k)))=some z:=by simp_all[stp,kD,len,psh,Kz.lf]
  have r':=r.aCO (hL':=hL') hm hs1 F (e':=⟨.box T (i.z.map Kz.lf) (i.z.map λ_=>s.m.k),s.m.k,s.m.k⟩) (t':=⟨some b,0,0,[]⟩) (ak _) (by grind) rfl (λj f=>⟨by simp,b,vs.toList,rfl,rfl,by simpa using f,R _ _ _ _⟩);refine⟨_,_,_,q,r',⟨rfl,⟨.box T (i.z.map Kz.lf) (i.z.map λ_=>s.m.k),s.m.k,s.m.k⟩,⟨some b,0,0,[]⟩,?_,?_,λ_=>⟨_,rfl,rfl⟩⟩,rfl,rfl,Am.add _ _⟩
  all_goals grind[List.getElem?_append_right,dK,psh]
 |buildSlice t n ps=>
  rw[ho] at hg h;obtain⟨e,ek,eb,k,zz,l,d,h1,h2,J,M,N⟩:=Tz hg;obtain⟨cells,q1,q2,q3,q4,q5,q6⟩:=aFr G.ti G.lay r ho h1 h2 J M N;have c:=I.inj w q1;subst c;cases hpl:(!Jj (kD FZ 3000000)&&(!Nat.beq n 0&&aZu ([]:List Nat))) with
  |true=>
  have q:K (.l (.sl e l)) s=some z:=by
   have:stp Y TI FZ s (.buildSlice t n ps) K=bif Nat.beq (len ps.toList) n&&(Nat.ble (n*ek) 16777216&&Je (U:=U) e ek e) then(bif !Jj (kD FZ 3000000)&&(!Nat.beq n 0&&aZu ([]:List Nat)) then K (.l (.sl e l)) s else bif dist (len s.m.o::[]) then K (.l (.own (len s.m.o) s.m.k)) ⟨s.t,⟨upd (s.m.o++[⟨.dead,s.m.k,s.m.k⟩]) (len s.m.o) ⟨.tree e d l,s.m.k,Nat.succ s.m.k⟩,Nat.succ s.m.k,s.m.ns⟩,s.fr⟩ else none) else none:=by
    show(match kD TI t with
     |some ⟨.sl e ek _,_,_⟩=>_
     |_=>none)=_
    simp[*]
   grind
  obtain⟨O,S,_,p4⟩:=r.hp.prm (b, .cells cells e) (bp.2 (.inl hm));refine⟨_,_,β,q,r.aCP (λp hp=>(hs1 p hp).1),?_,rfl,rfl,Am.refl _⟩;refine Ow.rd (X:=(E.ahs L B).X β) (Z:=(E.ahs L' hL').X β) (by grind[aIf,id]) (Ow.sl ⟨some b,n,n,[]⟩ q2 (by
   exact⟨by rw[q4,cQ,q5], .inr ⟨b,n,cells,by rw[q4];rfl,cD _,S,by rw[q4];exact ak _,q3,q5,by rw[q4];exact eI (by rw[cQ,q5];exact ak _)⟩⟩) q6) (λx hx hX=> ?_)
  simp[Tr.all] at hx;subst hx;have O:E.w0.heap.size<=x:=O;rcases aIf.1 hX with hX|⟨y,V,e⟩
  ·rcases hX with hX|hX|⟨u,hu,hm⟩
   ·rcases E.h0 _ hX with hX|⟨y,V,_⟩
    all_goals grind
   ·have:=E.hY _ hX;omega
   grind[List.mem_iff_getElem?]
  grind
  |false=>
  have v:∀A:List (EO U),A=s.m.o++[(⟨.tree e d l,s.m.k,Nat.succ s.m.k⟩:EO U)]->K (.l (.own (len s.m.o) s.m.k)) ⟨s.t,⟨A,Nat.succ s.m.k,s.m.ns⟩,s.fr⟩=some z:=λA W=>by
   have:stp Y TI FZ s (.buildSlice t n ps) K=bif Nat.beq (len ps.toList) n&&(Nat.ble (n*ek) 16777216&&Je (U:=U) e ek e) then(bif dist (len s.m.o::[]) then K (.l (.own (len s.m.o) s.m.k)) ⟨s.t,⟨upd (s.m.o++[⟨.dead,s.m.k,s.m.k⟩]) (len s.m.o) ⟨.tree e d l,s.m.k,Nat.succ s.m.k⟩,Nat.succ s.m.k,s.m.ns⟩,s.fr⟩ else none) else none:=by
    show(match kD TI t with
     |some ⟨.sl e ek _,_,_⟩=>_
     |_=>none)=_
    rw[h1];simp only;rw[N];simp only[hpl,ae];rfl
   rw[this,dK,h2] at h;rw[show Nat.beq n n=true from dq n,eN J,M] at h;simp only[dl,ac] at h;have hd:dist [len s.m.o]=true:=rfl;simp_all[dK,dY,eR,ak,gA,ac]
  have r':=r.aCO (hL':=hL') hm hs1 F (e':=⟨.tree e d l,s.m.k,Nat.succ s.m.k⟩) (t':=⟨some b,n,n,[]⟩) (eu _) (by grind) rfl (λj f=>by
   refine⟨q2,cells.toList,?_,q6.conv (ak _) j.hX (λ_ _ _ h=>h) (by simp)⟩;exact⟨by rw[q4,cQ,q5], .inr ⟨b,n,cells,by rw[q4];rfl,cD _,f,by rw[q4];exact ak _,q3,q5,by rw[q4];exact eI (by rw[cQ,q5];exact ak _)⟩⟩)
  refine⟨_,_,_,v _ rfl,r',⟨⟨eu _,rfl⟩,⟨.tree e d l,s.m.k,Nat.succ s.m.k⟩,⟨some b,n,n,[]⟩,?_,?_,λ_=>rfl⟩,rfl,rfl,?_⟩
  ·simp[dK]
  ·grind[List.getElem?_append_right,dK]
  ·have a1:=(Am.add s.m [(⟨.dead,s.m.k,s.m.k⟩:EO U)]).trans (Am.tree (ids:=[]) (i:=len s.m.o) (τ:=e) (d:=d) (l:=l) (rv:=s.m.k) _);have e1:(⟨Tn (Nat.succ s.m.k) [] (upd (s.m.o++[(⟨.dead,s.m.k,s.m.k⟩:EO U)]) (len s.m.o) ⟨.tree e d l,s.m.k,Nat.succ s.m.k⟩),Nat.succ s.m.k,s.m.ns⟩:Mm U)=⟨s.m.o++[⟨.tree e d l,s.m.k,Nat.succ s.m.k⟩],Nat.succ s.m.k,s.m.ns⟩:=by rw[dY,dK,eR _ _ (ak _),gA];rfl
   simp_all
 |_=>rw[ho] at hg;cases hg
def aIg:Op->Bool
 | .call ⟨.value (.func _),_,_⟩=>true
 |_=>false
def FlC (Y:Lay U)(FZ:List (Nat×Sum U))(s:St U)(o:Oper)(x:Sv U):Prop:=∃(f:FuncId) (b:Array Operand) (ats:Array TypeId) (S:Sum U) (z:sD U S.ar) (q:sD U S.rs),o.op= .call {callee:= .value (.func f),args:=b,argTypes:=ats}/\kD FZ f=some S/\nW Y s.m S.ar (b.toList.map (fU s))=some z/\S.wt=false/\S.fr=false/\nQ (b.toList.map (fU s))=true/\vZ (b.toList.map (vY s))=true/\S.m z=some q/\xQ (dQ Y S.rs q)=x
def aCj:∀{cs:List (Lf U)},aB6 cs=true->Nr cs=true
 |[],_=>rfl
 |c::cs,h=>by
  have h:(aL1 c&&aB6 cs)=true:=h;rw[aa] at h;show(pX c&&Nr cs)=true;rw[aCj h.2,gi];cases c<;>first|rfl|cases h.1
def R9:∀{xs:List (Sv U)},vZ xs=true->nQ xs=true
 |[],_=>rfl
 |x::xs,h=>by
  have h:(Q7 x&&vZ xs)=true:=h;rw[aa] at h;show(aLt x&&nQ xs)=true;rw[R9 h.2,gi];cases x with
  |l y=>cases y<;>first|rfl|cases h.1
  |a cs=>exact aCj h.1
  |t _=>cases h.1
def bAh {x:Sv U}{m m':Mm U}:Q7 x=true->(match x with| .l y=>Sv.l (rsv m.ns y)|y=>y)=x:=λh=>by
 cases x with
 |l y=>cases y<;>first|rfl|cases h
 |_=>rfl
theorem o6 {s:St U}:∀{xs:List Operand},vZ (xs.map (vY s))=true->xs.map (fU s)=xs.map (vY s)
 |[],_=>rfl
 |x::xs,h=>by
  have h:(Q7 (vY s x)&&vZ (xs.map (vY s)))=true:=h;rw[aa] at h;rw[bw,bw,o6 h.2];exact congrArg (·::_) (bAh (m:=s.m) (m':=s.m) h.1)
variable {α:Type}
def bI1 {o:Oper}{K:Option α}{z:α}(h:flc Y TI FZ s o K=some z):K=some z/\((aIg o.op=false/\Eo Y TI s o.op=true)\/(aIg o.op=true/\∃x,FlC Y FZ s o x)):=by
 unfold flc at h;split at h
 ·rename_i f b ats ho;cases c:kD FZ f with
  |none=>simp_all
  |some S=>
   rw[c] at h;simp only at h;cases d:nW Y s.m S.ar (b.toList.map (fU s)) with
   |none=>simp_all
   |some a=>
    rw[d] at h;simp only at h;cases hb:(!S.wt&&(!S.fr&&vZ (b.toList.map (vY s)))) with
    |false=>simp_all
    |true=>rw[hb] at h;simp only[ac] at h;obtain⟨q,h1,h2⟩:=jT h;simp only[aa,bo] at hb;exact⟨h2, .inr ⟨by rw[ho];rfl,_,f,b,ats,S,a,q,ho,c,d,hb.1,hb.2.1,by rw[o6 hb.2.2];exact R9 hb.2.2,hb.2.2,h1,rfl⟩⟩
 grind[Eo,inl,aIg,absurd]
def aSk {al:List Oper}{K:Option α}{z:α}:∀(fs:List Nat),bQk Y TI FZ al s fs K=some z->K=some z/\∀j∈fs,∃o,al[j]? =some o/\o.guard=none/\aP7 s o.dst=true/\aP8 o o.dst=true/\((aIg o.op=false/\Eo Y TI s o.op=true)\/(aIg o.op=true/\∃x,FlC Y FZ s o x))
 |[],h=>⟨h,by simp⟩
 |j::fs,h=>by
  have h:(match nth al j with
   |some o=>bif Jj o.guard&&(aP7 s o.dst&&aP8 o o.dst) then flc Y TI FZ s o (bQk Y TI FZ al s fs K) else none
   |none=>none)=some z:=h
  rw[aZ] at h;cases ho:al[j]? with
  |none=>rw[ho] at h;cases h
  |some o=>
   rw[ho] at h;simp only at h;cases hb:(Jj o.guard&&(aP7 s o.dst&&aP8 o o.dst)) with
   |false=>rw[hb] at h;cases h
   |true=>
    rw[hb] at h;simp only[ac] at h;obtain⟨h1,h2⟩:=bI1 h;obtain⟨b,c⟩:=aSk fs h1;simp only[aa] at hb;refine⟨b,λj' hj=> ?_⟩;rcases bf.1 hj with rfl|hj
    ·refine⟨o,ho,?_,hb.2.1,hb.2.2,h2⟩;cases hg:o.guard with
     |none=>rfl
     |some x=>rw[hg] at hb;cases hb.1
    ·exact c j' hj
def qR {i j:Nat}:∀{l:List Nat},j∈rmv i l↔j∈l/\j≠i
 |[]=>by simp[rmv]
 |x::l=>by
  have e:rmv i (x::l)=bif Nat.beq x i then rmv i l else x::rmv i l:=rfl;rw[e];cases hb:Nat.beq x i with
  |true=>
   have:=ah hb;subst this;simp only[ac,bf];rw[qR];constructor
   ·rintro⟨h1,h2⟩;exact⟨.inr h1,h2⟩
   ·rintro⟨h1|h1,h2⟩
    ·exact absurd h1 h2
    ·exact⟨h1,h2⟩
  |false=>
   have b:x≠i:=λe=>by subst e;rw[show Nat.beq x x=true from dq x] at hb;cases hb
   simp only[ae,bf];rw[qR];constructor
   ·rintro(rfl|⟨h1,h2⟩)
    ·exact⟨.inl rfl,b⟩
    ·exact⟨.inr h1,h2⟩
   ·rintro⟨rfl|h1,h2⟩
    ·exact .inl rfl
    ·exact .inr ⟨h1,h2⟩
abbrev Rec:=List (Nat×Option (Nat×Obj))
def S9 (R:Rec):List (Nat×Obj):=R.filterMap Prod.snd
def Rec.rm (R:Rec)(i:Nat):Rec:=R.filter λx=> !Nat.beq x.1 i
def Rec.aCR {R:Rec}{i:Nat}{x:Nat×Option (Nat×Obj)}:x∈R.rm i↔x∈R/\x.1≠i:=by
 unfold Rec.rm;rw[List.mem_filter];refine and_congr_right λ_=> ?_
 constructor
 ·intro h e;simp_all
 grind[Nat.beq,absurd,Nat.eq_of_beq_eq_true]
def Rec.aCG {i:Nat}:∀{R:Rec},(R.rm i).map Prod.fst=rmv i (R.map Prod.fst)
 |[]=>rfl
 |x::R=>by
  have e:rmv i ((x::R).map Prod.fst)=bif Nat.beq x.1 i then rmv i (R.map Prod.fst) else x.1::rmv i (R.map Prod.fst):=rfl;rw[e,<-Rec.aCG];unfold Rec.rm;cases hb:Nat.beq x.1 i with
  |true=>rw[List.filter_cons_of_neg (by rw[hb];simp)];rfl
  |false=>rw[List.filter_cons_of_pos (by rw[hb];rfl)];rfl
def Od {R:Rec}{p:Nat×Obj}:p∈S9 R↔∃j,(j,some p)∈R:=by simp[List.mem_filterMap,S9]
def aMn (P : Program) (Y : Lay U) (FZ : List (Nat × Sum U)) (c : List (Sv U × Value)) (al : List Oper) (s : St U) (a : Act) (x : Nat × Option (Nat × Obj)) : Prop := ∃ oj, al[x.1]? = some oj /\
  ((∃ b blk, x.2 = some (b, blk) /\ aIg oj.op = false /\ Flp P a oj blk /\ ∀ n, oj.dst = some n -> a.tmps.getD n undef = mkF oj.op b) \/
   (∃ y v, x.2 = none /\ aIg oj.op = true /\ FlC Y FZ s oj y /\ (oj.dst ≠ none -> (y, v) ∈ c) /\ ∀ d, oj.dst = some d -> a.tmps.getD d undef = v))
def aMn.mono {c b:List (Sv U×Value)}{al:List Oper}{x:Nat×Option (Nat×Obj)}(h:aMn P Y FZ c al s a x)(hp:∀p∈c,p∈b):aMn P Y FZ b al s a x:=by obtain⟨oj,h1,h2⟩:=h;refine⟨oj,h1,h2.imp id ?_⟩;rintro⟨y,v,k1,k2,k3,k4,k5⟩;exact⟨y,v,k1,k2,k3,λh=>hp _ (k4 h),k5⟩
def aXn {oj:Oper}{d:Option Nat}(h:aL2 oj d=true):∀n,oj.dst=some n->d≠some n:=(by grind[aL2,Nat.beq,Nat.beq_refl])
def bAi {oj:Oper}{d:Option Nat}(h:aL2 oj d=true):aP8 oj d=true:=by simp_all[aL2,aa]
def bI2 {oj:Oper}{d:Option Nat}(h:aP8 oj d=true)(hc:aIg oj.op=false):aZz oj d=true:=by
 cases d with
 |none=>rfl
 |some n=>
  unfold aP8 at h;simp only at h;split at h
  ·rename_i f b ats ho;rw[ho] at hc;cases hc
  ·exact h
def aSl {m m':Mm U}{kd:Kd}{x:Lf U}(h:aL1 x=true):rdn m kd x=rdn m' kd x:=by cases x<;>first|rfl|cases h
def aSm {m m':Mm U}:∀{ks:List Kd} {cs:List (Lf U)},aB6 cs=true->rds m ks cs=rds m' ks cs
 |[],[],_=>rfl
 |[],_::_,_=>rfl
 |_::_,[],_=>rfl
 |k::ks,c::cs,h=>by
  have h:(aL1 c&&aB6 cs)=true:=h;rw[aa] at h;simp only[rds,aSl (m:=m) (m':=m') h.1,aSm (m:=m) (m':=m') h.2]
def aMo {m m':Mm U}{kd:Kd}{x:Sv U}(h:Q7 x=true):C9 Y m kd x=C9 Y m' kd x:=by
 cases x with
 |l y=>cases kd<;>simp only[C9,aSl (m:=m) (m':=m') (x:=y) h]
 |a cs=>cases kd<;>first|rfl|simp only[C9,aSm (m:=m) (m':=m') (cs:=cs) h]
 |t _=>cases kd<;>rfl
theorem aIh {m m':Mm U}:∀(ks:List Kd) {xs:List (Sv U)},vZ xs=true->nW Y m ks xs=nW Y m' ks xs
 |[],[],_=>rfl
 |[],_::_,_=>rfl
 |[k],[],_=>rfl
 |[k],[x],h=>by
  have h:(Q7 x&&true)=true:=h;rw[gi] at h;exact aMo h
 |[k],_::_::_,_=>rfl
 |k::c::ks,[],_=>rfl
 |k::c::ks,x::xs,h=>by
  have h:(Q7 x&&vZ xs)=true:=h;rw[aa] at h;have e:=aMo (Y:=Y) (m:=m) (m':=m') (kd:=k) h.1;have f:=aIh (m:=m) (m':=m') (c::ks) h.2;have d:∀m,nW Y m (k::c::ks) (x::xs)=(match C9 Y m k x with
   |some a=>match nW Y m (c::ks) xs with
    |some b=>some ((a,b):sD U (k::c::ks))
    |none=>none
   |none=>none):=λm=>rfl
  rw[d,d,e,f]
def FlC.keep {s':St U}{o:Oper}{y:Sv U}(h:FlC Y FZ s o y){d:Option Nat}(hd:aP8 o d=true)(ht:∀i,d≠some i->s'.t[i]? =s.t[i]?):FlC Y FZ s' o y:=by
 obtain⟨f,b,ats,S,z,q,h1,h2,n,j,k,p,r,l,m⟩:=h;have e:b.toList.map (vY s')=b.toList.map (vY s):=by
  refine gk λx hx=> ?_;cases x with
  |tmp i=>
   have:d≠some i:=λe=>by
    subst e;unfold aP8 at hd;rw[h1] at hd;simp only[ct] at hd;have:=hd _ hx;simp at this
   grind[vY,aZ]
  |_=>rfl
 have c:vZ (b.toList.map (vY s'))=true:=by simp[*]
 refine⟨f,b,ats,S,z,q,h1,h2,?_,j,k,by rw[o6 c];exact R9 c,c,l,m⟩
 grind[aIh,o6]
def aMn.keep {e:List (Sv U×Value)}{al:List Oper}{x:Nat×Option (Nat×Obj)}{s':St U}{d:Option Nat}{v:Value}(h:aMn P Y FZ e al s a x)(hd:∀oj,al[x.1]? =some oj->aL2 oj d=true)(ht:∀i,d≠some i->s'.t[i]? =s.t[i]?):aMn P Y FZ e al s' (a.put d v) x:=by
 obtain⟨oj,h1,h2⟩:=h;have c:=hd oj h1;refine⟨oj,h1,?_⟩;rcases h2 with⟨b,blk,k1,k2,k3,k4⟩|⟨y,v',k1,k2,k3,k4,k5⟩
 ·exact .inl ⟨b,blk,k1,k2,k3.keep (bI2 (bAi c) k2),λn hn=>by rw[aCi (aXn c n hn)];exact k4 n hn⟩
 ·exact .inr ⟨y,v',k1,k2,k3.keep (bAi c) ht,k4,λi hi=>by rw[aCi (aXn c i hi)];exact k5 i hi⟩
def aMn.keep' {b:List (Sv U×Value)}{al:List Oper}{x:Nat×Option (Nat×Obj)}{s':St U}{d:Option Nat}(h:aMn P Y FZ b al s a x)(hd:∀oj,al[x.1]? =some oj->aL2 oj d=true)(ht:∀i,d≠some i->s'.t[i]? =s.t[i]?):aMn P Y FZ b al s' a x:=by
 obtain⟨oj,h1,h2⟩:=h;have c:=hd oj h1;refine⟨oj,h1,?_⟩;rcases h2 with h2|⟨y,v,k1,k2,k3,k4,k5⟩
 ·grind
 ·exact .inr ⟨y,v,k1,k2,k3.keep (bAi c) ht,k4,k5⟩
def Es {al:List Oper}{b:List Nat}{d:Option Nat}(h:Q8 al.toArray b d=true):∀j∈b,∀oj,al[j]? =some oj->aL2 oj d=true:=(by grind[Q8,List.all_eq_true])
def cntF (l:Array Bool):Nat:=l.toList.count false
def Jr {l:Array Bool}{i:Nat}(h:l.getD i true=false):cntF l=cntF (l.setIfInBounds i true)+1:=by
 unfold cntF;have hi:i<l.size:=by
  grind
 have hv:l.toList[i]=false:=by simp_all
 grind
def aSn {al:List Oper}{o:Oper}(hg:o.guard=none){K:St U->Option α}:grd Y TI FZ al o s K=one Y TI FZ o s K:=by unfold grd aUb;rw[hg]
theorem Oe {os:Array Oper}{b:Array Bool}{i:Nat}(h:i∈Region.ready .any os b):b.getD i true=false:=(mem_ready.1 h).1
def bMn {o:Oper}{y:Sv U}(h:FlC Y FZ s o y):Nat.ble (zF FZ o.op) 1=true:=by obtain⟨f,b,ats,S,z,q,h1,h2,c,d,e,_⟩:=h;simp_all[zF,ae]
def bMo {o:Oper}(h:Eo Y TI s o.op=true):Nat.ble (zF FZ o.op) 1=true:=by cases ho:o.op<;>rw[ho] at h<;>first|rfl|cases h
variable {al:List Oper} {Q:Exit->Act->World->Prop} {D:Nat->Prop}
def rH {a0:Option Nat}{b:Array Bool}{i:Nat}(h:iF a0 (b.setIfInBounds i true)=true):iF a0 b=true:=by
 grind[iF,nE]
def bMp {o:Op}(h:erp s o=true):zF FZ o=0:=by cases o<;>first|rfl|cases h
def bMq {o:Oper}(r:bL Y.C E s a w β)(h:erp s o.op=true){v:Value}(hv:(execOp a.eval o).run P w= .ok (.value v) w)(w':World):(execOp a.eval o).run P w'= .ok (.value v) w':=by
 unfold erp at h
 grind[bC0,Jq]
def bI3 {os:Array Oper}{a0:Option Nat}{Q:Exit->Act->World->Prop}{S:World->Prop}{i:Nat}{oi:Oper}{v:Value}{n:Nat}{d:Array Bool}(hi:os[i]? =some oi)(hs:Region.noSelect os=true)(ht:tkY os a0 i d=true)(e:Dn .any os d)
  (f:∀c a w,Q (.panic c) (a.put oi.dst v) w->Q (.panic c) a w) (j:YieldsIf P os S oi v a) (hp:aL0 oi.op=true->YieldsIf P os (λ_=>True) oi v a) (k:iF a0 d=true->S w)
  (h:fH P .any os a0 Q S n (d.setIfInBounds i true) (a.put oi.dst v) w):fH P .any os a0 Q S (n+1) d a w:=by
 have hr:=(vF ht).1;simp only[tkY,aa] at ht;have l:=Region.free_spec hi ht.1.1;cases a0 with
 |none=>exact pI hi (Region.noSelect_spec hs) f (by simp) (λ_ _ _=>rfl) n d a w l e hr j (k rfl) h
 |some b=>
  have m:=ht.2;simp only[aa,cp,hi] at m;have o:some b≠some i:=(by simp_all)
  grind[Ij,Region.noSelect_spec,Dn,os,iF,Bool.not_eq_true',getD_in,Zy,pI,Oe]
def bMr (P:Program)(Y:Lay U)(g:GI)(SP:Nat->Oper->Option (St U->(St U->Option α)->Option α)):Prop:=∀(E:Env U g),E.fr=[]->E.prm=[]->∀(al:List Oper) (i:Nat) (o:Oper) (f:St U->(St U->Option α)->Option α) (s:St U) (a:Act) (w:World) (β:List Tr) (K:St U->Option α) (z:α),SP i o=some f->bL Y.C E s a w β->f s K=some z->
 ∀(b:Act->World->Prop) (d:Exit->Act->World->Prop),(∀s' c w' β',Ag (Wr al o) s s'->K s'=some z->bL Y.C E s' c w' β'->b c w')->o.wp P a w b d
def aMp (G:Good P g Y TI FZ)(hs:Region.noSelect al.toArray=true)(hP:E.prm=[]){SP:Nat->Oper->Option (St U->(St U->Option α)->Option α)}(V:(∀i o,SP i o=none)\/(E.fr=[]/\bMr P Y g SP)){bs:List Nat}{Yb:Nat->Prop}{wS:World}(F:∀b∈bs,∃k,Yb k/\((Sv.l (.box b 0):Sv U),Value.pointer (some ⟨k,0,none⟩))∈E.pin){a0:Option Nat}{kd:Option (Nat×Nat)}(W:∀n k,kd=some (n,k)->(wS,n,k)∈E.fr):
  ∀(f:Nat) (pd:List Nat) (R:Rec) (l:List (Nat×Bool)) (fs:List Nat) (st ps:Bool) (s:St U) (K:St U->Option α) (z:α),(∀i∈l,∀o,al[i.1]? =some o->∀n,Wr al o n->D n)->xG Y TI FZ al SP a0 bs kd l fs st ps s K=some z->
  (∀s' a w β,Ag D s s'->K s'=some z->bL Y.C E s' a w β->Q .normal a w)->(∀j∈pd,j∈fs)->(∀x∈R,x.1∈fs/\x.1∉pd)->(∀x∈R,∀y∈R,x.1≠y.1->∀p q,x.2=some p->y.2=some q->p.1≠q.1)->(∀x∈R,∀y∈R,x.1=y.1->x=y)->
  ∀c,Dn .any al.toArray c->Tt al.toArray a0 f pd (R.map Prod.fst) l c=true->∀a w β (hL:∀x∈S9 R,E.w0.heap.size<=x.1),(ps=true->iF a0 c=false)->(iF a0 c=true->Bel Yb wS w)->(st=true->w=wS/\(∀k,Yb k->(E.ahs (S9 R) hL).X β k)/\aQc bs Yb wS.heap.size s β/\R=[])->(∀x∈R,aMn P Y FZ E.pin al s a x)->bL Y.C (E.ahs (S9 R) hL) s a w β->fH P .any al.toArray a0 (NoPanic Q) (Bel Yb wS) (cntF c) c a w:=by
 intro f;induction f generalizing E with
 |zero=>intro pd R l fs st ps s K z _ _ _ _ _ _ _ c _ hc;cases hc
 |succ f ih=>
  intro pd R l fs st ps s K z hD h hQ hpd hR hR2 hR3 c Z hc a w β hL hps hb hI hE r;cases l with
  |nil=>
   simp only[Tt,aa] at hc;have hR0:R=[]:=by
    have:=hc.1;cases R with
    |nil=>rfl
    |cons x R=>cases this
   subst hR0;exact wG (P:=P) (a0:=a0) (S:=Bel Yb wS) (Q:=NoPanic Q) (by simpa using hc.2) (hQ s a w β (Ag.refl s) h r.aDQ) _
  |cons x l=>
   obtain⟨i,fl⟩:=x;simp only[xG,aZ] at h;cases ho:al[i]? with
   |none=>rw[ho] at h;cases h
   |some o=>
    rw[ho] at h;simp only at h;have hDi:=hD (i,fl) (by simp) o ho;have hD':∀j∈l,∀o,al[j.1]? =some o->∀n,Wr al o n->D n:=λj hj=>hD j (by simp[hj]);have hg:al.toArray[i]? =some o:=by simpa using ho
    cases fl with
    |true=>
     simp only[Tt,aa,hg] at hc;cases st with
     |false=>
      replace h:(bif erp s o.op&&noG o then one Y TI FZ o s (λs'=>xG Y TI FZ al SP a0 bs kd l fs false ps s' K) else none)=some z:=h;cases hb0:(erp s o.op&&noG o) with
      |false=>rw[hb0] at h;cases h
      |true=>
       rw[hb0] at h;simp only[ac] at h;rw[aa] at hb0;have hgd:o.guard=none:=by
        have:=hb0.2;unfold noG at this;split at this
        ·assumption
        ·cases this
       have hw:Region.wanted o (yielded al.toArray a.tmps)=true:=by simp[Region.wanted,hgd]
       obtain⟨hr,_⟩:=vF hc.2.1;have L:zF FZ o.op=0:=bMp hb0.1;unfold one at h;obtain⟨x,s2,k1,⟨v,p1,p2,p3⟩,k3,k4,k5⟩:=Ny G r rfl L h;have u:YieldsIf P al.toArray (λ_=>True) o v a:= .inl ⟨hw,λw' _=>bMq r hb0.1 (p1 w (Ext.refl w)) w'⟩;have ag:Ag (Wr al o) s (put s2 o.dst x):=Ag.put ⟨λn hn=>by rw[k3],by rw[k3],by rw[k4],k5⟩ (λn e=> .inl e);have hWr:∀n,Wr al o n->o.dst=some n:=λn hn=>by
        rcases hn with hn|⟨j,b,oj,e,_⟩
        ·exact hn
        ·rw[hgd] at e;cases e
       rw[Jr (Oe hr)];refine bI3 hg hs hc.2.1 Z (λ_ _ _ h=>h) (u.imp (λ⟨h1,h2⟩=>⟨h1,λw' _=>h2 w' trivial⟩) id) (λ_=>u) hb ?_;exact ih hP V F W pd R l fs false ps _ K z hD' k1 (λs3 a3 w3 β3 g1=>hQ s3 a3 w3 β3 ((ag.mono hDi).trans g1)) hpd hR hR2 hR3 _ (Z.set hr) hc.2.2 _ w β hL (λhp=>nE (hps hp)) (λhn=>hb (rH hn)) (λh=>by cases h) (λy u=>(hE y u).keep (Es hc.1 _ (cr.2 ⟨y,u,rfl⟩)) (λi hi=>ag.t i λhn=>hi (hWr i hn))) (p2.put λ_=>p3)
     |true=>
      simp only[ac] at h;obtain⟨rfl,hYX,hI,hR0⟩:=hI rfl;obtain⟨hr,_⟩:=vF hc.2.1;obtain⟨s1,r1,h1,h2⟩:=Oa r h;have hI1:aQc bs Yb w.heap.size s1 β:=hI.am r.hp h1.m;rw[Jr (Oe hr)];rcases h2 with⟨hw,h2⟩|⟨hw,h2⟩
      ·cases hel:erl bs s1 o.op with
       |false=>rw[hel] at h2;cases h2
       |true=>rw[hel] at h2;simp only[ac] at h2;have h2':=h2;unfold one at h2';obtain⟨x,s2,k1,⟨v,p1,p2,p3⟩,k3,k4,k5⟩:=Ny G r1 rfl (bMm hel) h2';have u:YieldsIf P al.toArray (Bel Yb w) o v a:= .inl ⟨hw,λw' he=>bE8 (al:=al) G r1 hI1 hYX hel (p1 w (Ext.refl w)) h2 w' he⟩;have ag:Ag (Wr al o) s (put s2 o.dst x):=Ag.put ⟨λn hn=>by rw[k3];exact h1.t n hn,by rw[k3];exact h1.tl,by rw[k4];exact h1.fr,h1.m.trans k5⟩ (λn e=> .inl e);refine bI3 hg hs hc.2.1 Z (λ_ _ _ h=>h) u (λhp=> .inl ⟨hw,λw' _=>Jq hp (p1 w (Ext.refl w)) w'⟩) hb ?_;exact ih hP V F W pd R l fs true ps _ K z hD' k1 (λs3 a3 w3 β3 g1=>hQ s3 a3 w3 β3 ((ag.mono hDi).trans g1)) hpd hR hR2 hR3 _ (Z.set hr) hc.2.2 _ w β hL (λhp=>nE (hps hp)) (λhn=>hb (rH hn)) (λ_=>⟨rfl,hYX,(hI1.am r1.hp k5).am p2.hp (by rw[bI0];exact Am.refl _),hR0⟩) (by rw[hR0];simp) (p2.put λ_=>p3)
      ·have u:YieldsIf P al.toArray (Bel Yb w) o undef a:= .inr ⟨hw,rfl⟩;have ag:Ag (Wr al o) s (put s1 o.dst (.l .und)):=h1.put (λn e=> .inl e);refine bI3 hg hs hc.2.1 Z (λ_ _ _ h=>h) u (λ_=> .inr ⟨hw,rfl⟩) hb ?_;exact ih hP V F W pd R l fs true ps _ K z hD' h2 (λs3 a3 w3 β3 g1=>hQ s3 a3 w3 β3 ((ag.mono hDi).trans g1)) hpd hR hR2 hR3 _ (Z.set hr) hc.2.2 _ w β hL (λhp=>nE (hps hp)) (λhn=>hb (rH hn)) (λ_=>⟨rfl,hYX,hI1.am r1.hp (by rw[bI0];exact Am.refl _),hR0⟩) (by rw[hR0];simp) (r1.put (x:= .l .und) (v:=undef) λ_=>rfl)
    |false=>
     have hfull:=h;simp only[ae] at h;cases hsp:SP i o with
     |some f0=>
      rw[hsp] at h;simp only at h;obtain⟨hEf,hok⟩:=V.resolve_left λhh=>by rw[hh i o] at hsp;cases hsp
      cases hcc:(noG o&&(fs.isEmpty&&(ps||Eh a0 i))) with
      |false=>rw[hcc] at h;cases h
      |true=>
       rw[hcc] at h;simp only[ac] at h;simp only[aa] at hcc;obtain⟨hno,hfs,J⟩:=hcc;have hfs:=List.isEmpty_iff.1 hfs;subst hfs;have hR0:R=[]:=by
        cases R with
        |nil=>rfl
        |cons x R=>exact absurd (hR x (by simp)).1 (by simp)
       have hpd0:pd=[]:=by
        cases pd with
        |nil=>rfl
        |cons x pd=>exact absurd (hpd x (by simp)) (by simp)
       subst hR0;subst hpd0;have hgd:o.guard=none:=by
        unfold noG at hno;split at hno
        ·assumption
        ·cases hno
       have hw:Region.wanted o (yielded al.toArray a.tmps)=true:=by simp[Region.wanted,hgd]
       replace hc:((Region.ready .any al.toArray c).contains i&&((Region.ready .any al.toArray c).all λj=>bif Nat.beq j i then(match al.toArray[i]? with
        |some o=>Q8 al.toArray [] o.dst&&(a0Y a0 i c&&Tt al.toArray a0 f (rmv i []) [] l (c.setIfInBounds i true))
        |none=>false) else false))=true:=hc
       simp only[aa,ct] at hc;obtain⟨M,hall⟩:=hc;have M:i∈Region.ready .any al.toArray c:=by simpa using M
       obtain⟨m,hm⟩:∃m,cntF c=m+1:=⟨_,Jr (Oe M)⟩;rw[hm];refine lD rfl (λe=>by rw[e] at M;simp at M) λj hjr=> ?_;have I:=hall j hjr;cases hij:Nat.beq j i with
       |false=>rw[hij] at I;cases I
       |true=>
        have e:=ah hij;subst e;rw[hij] at I;simp only[ac,hg,aa] at I;obtain⟨_,hay,hc⟩:=I;have hny:iF a0 (c.setIfInBounds j true)=false:=by
         rw[cp] at J;rcases J with J|J
         ·exact nE (hps J)
         ·rw[Ub hay rfl,J,ay,dh]
        refine wpOp_step hg λK' A=> ?_;rw[cW hw];refine hok E hEf hP al j o f0 s a w β _ z hsp r.aDQ h K' _ λs' a' w' β' g1 g2 g3=>A _ _ ⟨λhn=>(by rw[hny] at hn;cases hn),?_⟩;rw[show m=cntF (c.setIfInBounds j true) by have:=Jr (Oe hjr);omega];exact ih hP V F W [] [] l [] false true s' K z hD' g2 (λs3 a3 w3 β3 q1=>hQ s3 a3 w3 β3 ((g1.mono hDi).trans q1)) (λ_ h=>h) (by simp) (by simp) (by simp) _ (Z.set hjr) hc a' w' β' (by simp[S9]) (λ_=>hny) (λhn=>(by rw[hny] at hn;cases hn)) (λh=>by cases h) (by simp) g3.aDK
     |none=>
     rw[hsp] at h;simp only at h;cases hno:noG o with
     |false=>rw[hno] at h;cases h
     |true=>
      rw[hno] at h;simp only[ac] at h;have hgd:o.guard=none:=by
       unfold noG at hno;split at hno
       ·assumption
       ·cases hno
      have hw:Region.wanted o (yielded al.toArray a.tmps)=true:=by simp[Region.wanted,hgd]
      obtain⟨hK,hF⟩:=aSk fs h;have hWr:∀n,Wr al o n->o.dst=some n:=λn hn=>by
       rcases hn with hn|⟨j,b,oj,e,_⟩
       ·exact hn
       ·rw[hgd] at e;cases e
      have keepAg:∀{s':St U},Ag (Wr al o) s s'->∀i,o.dst≠some i->s'.t[i]? =s.t[i]? :=λhag i hi=>hag.t i λhn=>hi (hWr i hn);simp only[Tt] at hc;cases him:Rb i (R.map Prod.fst) with
      |true=>
       rw[him] at hc;simp only[ac,hg,aa] at hc;obtain⟨hoff,hna,hc⟩:=hc;rw[bo] at hna;obtain⟨x,hx,hxi⟩:=cr.1 (qJ.1 him);have N:∀y∈R.rm i,y∈R/\y.1≠i:=λy u=>Rec.aCR.1 u;have O:∀y∈R.rm i,∀oj,al[y.1]? =some oj->aL2 oj o.dst=true:=λy u=>Es hoff _ (by rw[<-Rec.aCG];exact cr.2 ⟨y,u,rfl⟩);have hLs:∀p∈S9 (R.rm i),p∈S9 R:=λp hp=>by
        obtain⟨j,hj⟩:=Od.1 hp;exact Od.2 ⟨j,(N _ hj).1⟩
       have hL':∀p∈S9 (R.rm i),E.w0.heap.size<=p.1:=λp hp=>hL p (hLs p hp);rw[<-Rec.aCG] at hc;obtain⟨oj,e1,e2⟩:=hE x hx;rw[hxi,ho] at e1;have e1:=aj e1;subst e1;obtain⟨o2,q0,_,_,_,q1⟩:=hF x.1 (hR x hx).1;rw[hxi,ho] at q0;have q0:=aj q0;subst q0;have L:Nat.ble (zF FZ o.op) 1=true:=by
        rcases q1 with⟨_,q1⟩|⟨_,y,q1⟩
        ·exact bMo q1
        ·exact bMn q1
       rw[L] at hK;simp only[ac] at hK;have rcc:∀(s':St U) (x0:Sv U) β',s'.t=s.t->s'.fr=s.fr->Am s.m s'.m->xG Y TI FZ al SP a0 bs kd l (rmv i fs) false (ps||Eh a0 i) (EV.put s' o.dst x0) K=some z->bL Y.C (E.ahs (S9 (R.rm i)) hL') (EV.put s' o.dst x0) a w β'->fH P .any al.toArray a0 (NoPanic Q) (Bel Yb wS) (cntF c) c a w:=λs' x0 β' k4 k5 k6 k1 r'=>by
        have ag:Ag (Wr al o) s (EV.put s' o.dst x0):=Ag.put ⟨λn _=>by rw[k4],by rw[k4],k5,k6⟩ (λn e=> .inl e);exact ih hP V F W pd (R.rm i) l (rmv i fs) false (ps||Eh a0 i) _ K z hD' k1 (λs3 a3 w3 β3 g1=>hQ s3 a3 w3 β3 ((ag.mono hDi).trans g1)) (λj hj=>qR.2 ⟨hpd j hj,λe=>(hR x hx).2 (by rw[hxi,<-e];exact hj)⟩) (λy u=>⟨qR.2 ⟨(hR y (N y u).1).1,(N y u).2⟩,(hR y (N y u).1).2⟩)
         (λy u y' hy'=>hR2 y (N y u).1 y' (N y' hy').1) (λy u y' hy'=>hR3 y (N y u).1 y' (N y' hy').1) c Z hc a w β' hL' (λhp=>hps (by rw[hna,gu] at hp;exact hp)) hb (λh=>by cases h) (λy u=>(hE y (N y u).1).keep' (O y u) (keepAg ag)) r'
       rcases e2 with⟨b,blk,e3,e4,e5,e6⟩|⟨y,v,e3,e4,e5,e6,e7⟩
       ·have hfo:Eo Y TI s o.op=true:=by
         rcases q1 with⟨_,q1⟩|⟨q1,_⟩
         ·exact q1
         ·rw[e4] at q1;cases q1
        have hmem:(b,blk)∈S9 R:=Od.2 ⟨x.1,by rw[<-e3];exact hx⟩;have A:stp Y TI FZ s o.op (λx0 s'=>xG Y TI FZ al SP a0 bs kd l (rmv i fs) false (ps||Eh a0 i) (EV.put s' o.dst x0) K)=some z:=hK;obtain⟨x0,s',β',k1,k2,k3,k4,k5,k6⟩:=bAg (L':=S9 (R.rm i)) (hL':=hL') G r hmem (λp hp=>by
         obtain⟨j,hj⟩:=Od.1 hp;exact⟨hLs p hp,λe=>hR2 _ (N _ hj).1 x hx (by rw[hxi];exact(N _ hj).2) p (b,blk) rfl e3 e⟩) hP e5 hfo A
        exact rcc s' x0 β' k4 k5 k6 k1 (k2.aBR (λ_=>k3) e6)
       ·obtain⟨ff,xa,ats,S,z1,q,c1,c2,c3,c4,c5,c6,c7,c8,c9⟩:=e5;have hff:(Im Y S.rs||nQ (xa.toList.map (fU s)))=true:=by rw[c6,Bool.or_true]
        have A:stp Y TI FZ s o.op (λx0 s'=>xG Y TI FZ al SP a0 bs kd l (rmv i fs) false (ps||Eh a0 i) (EV.put s' o.dst x0) K)=some z:=hK;have hb2:(match nW Y s.m S.ar (xa.toList.map (fU s)) with
         |some a=>bif S.wt then(match xa.toList.map (fU s) with
          |[x,_]=>match parts x with
           |some cs=>bd (S.m a) λr=>match dQ Y S.rs r with
            |[(_,ds),(_,[.int .i64 k])]=>match wrm Y s.m cs ds with
             |some us=>bif dist (bU1 us)&&aLw (U:=U) S.ar then xG Y TI FZ al SP a0 bs kd l (rmv i fs) false (ps||Eh a0 i) (EV.put ⟨s.t,⟨bU0 us s.m.o,Nat.succ s.m.k,s.m.ns⟩,s.fr⟩ o.dst (.l (.int .i64 k))) K else none
             |none=>none
            |_=>none
           |none=>none
          |_=>none)
          else bif S.fr then bd (S.m a) λr=>
           let q:=kW s.m.k (len s.m.o) (dQ Y S.rs r)
           xG Y TI FZ al SP a0 bs kd l (rmv i fs) false (ps||Eh a0 i) (EV.put ⟨s.t,⟨s.m.o++q.2,s.m.k,s.m.ns⟩,s.fr⟩ o.dst (xQ q.1)) K
          else bif Im Y S.rs||nQ (xa.toList.map (fU s)) then bd (S.m a) λr=>xG Y TI FZ al SP a0 bs kd l (rmv i fs) false (ps||Eh a0 i) (EV.put s o.dst (xQ (dQ Y S.rs r))) K
          else match aWq s.m (xa.toList.map (fU s)) with
           |some (i',c')=>bd (S.m a) λr=>xG Y TI FZ al SP a0 bs kd l (rmv i fs) false (ps||Eh a0 i) (EV.put s o.dst (xQ (Pn i' c' (dQ Y S.rs r)))) K
           |none=>none
         |none=>none)=some z:=by
         rw[c1] at A;unfold stp at A;simp only[c2] at A;rw[c4] at A;rw[c4];exact A
        rw[c3] at hb2;simp only[c4,c5,hff,ae,ac] at hb2;obtain⟨q',d1,d2⟩:=jT hb2;rw[c8] at d1;have d1:=aj d1;subst d1;rw[c9] at d2;have hbk:S9 (R.rm i)=S9 (R.rm i):=rfl;have hsame:∀p,p∈S9 R->p∈S9 (R.rm i):=λp hp=>by
         obtain⟨j,hj⟩:=Od.1 hp;refine Od.2 ⟨j,Rec.aCR.2 ⟨hj,λe=> ?_⟩⟩;have:=hR3 _ hj x hx (by rw[hxi];exact e);rw[<-this] at e3;cases e3
        have r':bL Y.C (E.ahs (S9 (R.rm i)) hL') s a w β:=r.aCP hLs;exact rcc s _ β rfl rfl (Am.refl _) d2 (r'.aBR (v:=v) (λh=>r'.hp.pin _ (e6 h)) e7)
      |false=>
       rw[him] at hc;simp only[ae,aa,ct] at hc;obtain⟨M,hall⟩:=hc;have M:i∈Region.ready .any al.toArray c:=by simpa using M
       have hiR:∀x∈R,x.1≠i:=λx hx e=>by
        have:Rb i (R.map Prod.fst)=true:=qJ.2 (cr.2 ⟨x,hx,e⟩);rw[this] at him;cases him
       obtain⟨m,hm⟩:∃m,cntF c=m+1:=⟨_,Jr (Oe M)⟩;have hcnt:∀{j},j∈Region.ready .any al.toArray c->m=cntF (c.setIfInBounds j true):=λhj=>by
        have:=Jr (Oe hj);omega
       rw[hm];refine lD rfl (λe=>by rw[e] at M;simp at M) λj hjr=> ?_;have I:=hall j hjr;cases hij:Nat.beq j i with
       |true=>
        have e:=ah hij;subst e;rw[hij] at I;simp only[ac,hg,aa] at I;obtain⟨hoff,hay,hc⟩:=I;have O:∀y∈R,∀oj,al[y.1]? =some oj->aL2 oj o.dst=true:=λy u=>Es hoff _ (cr.2 ⟨y,u,rfl⟩);have rcc:∀(s':St U) v w' β',Ag (Wr al o) s s'->xG Y TI FZ al SP a0 bs kd l (rmv j fs) false (ps||Eh a0 j) s' K=some z->bL Y.C (E.ahs (S9 R) hL) s' (a.put o.dst v) w' β'->(iF a0 (c.setIfInBounds j true)=true->Bel Yb wS w')->(iF a0 (c.setIfInBounds j true)=true->Bel Yb wS w')/\fH P .any al.toArray a0 (NoPanic Q) (Bel Yb wS) m (c.setIfInBounds j true) (a.put o.dst v) w':=λs' v w' β' g1 g2 g3 hb'=>by
         refine⟨hb',?_⟩;rw[hcnt hjr];exact ih hP V F W (rmv j pd) R l (rmv j fs) false (ps||Eh a0 j) s' K z hD' g2 (λs2 a2 w2 β2 q1=>hQ s2 a2 w2 β2 ((g1.mono hDi).trans q1)) (λx hx=>qR.2 ⟨hpd x (qR.1 hx).1,(qR.1 hx).2⟩) (λx hx=>⟨qR.2 ⟨(hR x hx).1,hiR x hx⟩,λh=>(hR x hx).2 (qR.1 h).1⟩) hR2 hR3 _ (Z.set hjr) hc _ w' β' hL (λhp=>(Bool.or_eq_true_iff.1 hp).elim (λhp=>nE (hps hp)) λhp=>by rw[Ub hay rfl,hp,ay,dh]) hb' (λh=>by cases h) (λy u=>(hE y u).keep (O y u) (keepAg g1)) g3
        cases L:Nat.ble (zF FZ o.op) 1 with
        |true=>rw[L] at hK;simp only[ac] at hK;rw[<-aSn (al:=al) hgd] at hK;exact wpOp_step hg λK' A=>aUz G r hK λs' v w' β' g1 g2 g3 g4=>A _ _ (rcc s' v w' β' g1 g2 g3 λhn=>(hb (rH hn)).trans (Bel.aBM (g4 L)))
        |false=>
         rw[L] at hK;simp only[ae] at hK;cases B:(stW bs s o.op||ptW FZ bs s o.op) with
         |false=>
          rw[B] at hK;simp only[ae] at hK;rw[<-aSn (al:=al) hgd] at hK;refine wpOp_step hg λK' A=>aUz G r hK λs' v w' β' g1 g2 g3 g4=>A _ _ ?_;cases hun:unO kd s'.m.o with
          |false=>
           rw[hun,cX] at g2;cases J:(Eh a0 j||ps) with
           |false=>rw[J] at g2;cases g2
           |true=>
            rw[J] at g2;refine rcc s' v w' β' g1 g2 g3 λhn=> ?_;rw[cp] at J;rcases J with J|J
            ·rw[Ub hay rfl,J,ay,dh] at hn;cases hn
            ·rw[nE (hps J)] at hn;cases hn
          |true=>
           rw[hun] at g2;simp only[Bool.true_or,ac] at g2;refine rcc s' v w' β' g1 g2 g3 λ_=> ?_;cases hk:kd with
           |none=>rw[hk] at hun;cases hun
           |some p=>obtain⟨n0,k0⟩:=p;rw[hk] at hun;exact Bel.aBM (g3.unt (W n0 k0 hk) hun)
         |true=>
          rw[B] at hK;simp only[ac] at hK;cases hoo:o.op with
          |store t x y=>
           rw[hoo] at B;simp only[stW,ptW,gu] at B;split at B
           ·rename_i b off hx;unfold one stp at hK;rw[hoo] at hK;simp only[hx] at hK;split at hK
            ·rename_i ti b' off' ps h1 h2 h3;cases h2;split at hK
             ·rename_i T cs us rv cv h4;rw[aZ] at h4;cases hbb:(Nat.beq (len ps) ti.k&&(Nat.ble (off+ti.k) (len cs)&&Ad ps)) with
              |false=>rw[hbb] at hK;cases hK
              |true=>
               rw[hbb] at hK;simp only[ac] at hK;simp only[aa,dK] at hbb;obtain⟨w',β',t',bb,e1,r1,hev,hbel,e2,e3⟩:=aCd G.ti r hoo h1 hx h3 h4 (ah hbb.1) (bc hbb.2.1) hbb.2.2;have hyb:Yb bb:=by obtain⟨k,k1,k2⟩:=F b (qJ.1 B);obtain⟨_,e,t2,j1,j2,j3⟩:=(r.hp.pin _ k2:(Lf.box b 0:Lf U).mean Y.C w ((E.ahs (S9 R) hL).X β) β s.m _);rw[h4] at j1;injection j1 with j1;subst j1;obtain⟨b2,m1,m2⟩:=j3 rfl;injection m2 with m2;injection m2 with m2;injection m2 with m2;rw[e2] at j2;injection j2 with j2;subst j2;rw[e3] at m1;injection m1 with m1;subst m1;subst m2;exact k1
               have hb':iF a0 (c.setIfInBounds j true)=true->Bel Yb wS w':=λhn=>(hb (rH hn)).trans ⟨hbel.os,hbel.tape,hbel.output,hbel.size,λk hk u=>hbel.block k hk λe=>u (by rw[e];exact hyb)⟩;have ag:Ag (Wr al o) s (put (trn s b (.box T (spl cs off ps) (spl us off (ps.map λ_=>Nat.succ s.m.k))) rv) o.dst (.l .any)):=Ag.put (s:=s) (s':=trn s b (.box T (spl cs off ps) (spl us off (ps.map λ_=>Nat.succ s.m.k))) rv) (D:=Wr al o) ⟨λn _=>rfl,rfl,rfl,aIc h4 (ah hbb.1) (bc hbb.2.1) (r.aCA h4)⟩ (λn e=>Or.inl e);refine wpOp_step hg λK' A=> ?_;rw[cW hw];exact wpo (.inr ⟨e1,rfl⟩) (A _ _ (rcc _ _ w' β' ag hK (r1.put λ_=>trivial) hb'))
             ·cases hK
            ·rename_i h2 _;cases h2
            ·rename_i h2 _;cases h2
            ·rename_i h2 _;cases h2
            ·cases hK
           ·cases B
          |call cc=>
           obtain⟨f,xa,ats,S,b,ys,rfl,hS,hxs,hwt,hfr,hmem⟩:∃f xa ats S b ys,cc=⟨.value (.func f),xa,ats⟩/\kD FZ f=some S/\xa.toList.map (fU s)= .l (.box b 0)::ys/\S.wt=true/\S.fr=true/\Rb b bs=true:=by
            rw[hoo] at B;simp only[stW,ptW,cX] at B;split at B
            ·rename_i f xa ats he;split at B
             ·rename_i S b ys h1 h2;simp only[aa] at B;injection he with he;exact⟨f,xa,ats,S,b,ys,he,h1,h2,B.1,B.2.1,B.2.2⟩
             ·cases B
            ·cases B
           unfold one stp at hK;rw[hoo] at hK;simp only[hS,hwt,hfr,dl,ac] at hK;obtain⟨x,s',i',bb,k1,⟨ys',k2⟩,k3,k4,k5,k6,k7⟩:=aId G.lay r hoo (G.fs f S (aKs hS)) hwt hfr hK;rw[hxs] at k2;injection k2 with k2 _;injection k2 with k2;injection k2 with k2 _;subst k2;have hyb:Yb bb:=by obtain⟨k,q1,q2⟩:=F b (qJ.1 hmem);have e:=k3 _ (r.hp.pin _ q2);injection e with e;injection e with e;injection e with e;subst e;exact q1
           have ag:Ag (Wr al o) s (put s' o.dst x):=Ag.put ⟨λn hn=>by rw[k5],by rw[k5],by rw[k6],k7⟩ (λn e=> .inl e);refine wpOp_step hg λK' A=> ?_;rw[cW hw];exact k4 _ _ λv w' β' m1 m2 m3=>A _ _ (rcc _ v w' β' ag k1 (m1.put m2) λhn=>(hb (rH hn)).trans ⟨m3.os,m3.tape,m3.output,m3.size,λk hk u=>m3.block k hk λe=>u (by rw[e];exact hyb)⟩)
          |_=>rw[hoo] at B;simp[stW,ptW] at B
       |false=>
        rw[hij] at I;simp only[ae,aa] at I;obtain⟨hjp,I⟩:=I;have hjp:=qJ.1 hjp;obtain⟨oj,ho',hgj,hany,hself,hfl⟩:=hF j (hpd j hjp);have hgi:al.toArray[j]? =some oj:=by simpa using ho'
        rw[hgi] at I;simp only[aa] at I;obtain⟨hoff,hc⟩:=I;have O:∀y∈R,∀o,al[y.1]? =some o->aL2 o oj.dst=true:=λy u=>Es hoff _ (cr.2 ⟨y,u,rfl⟩);have hjR:∀x∈R,x.1≠j:=λx hx e=>(hR x hx).2 (by rw[e];exact hjp);have hget:∀(v:Value) n,oj.dst=some n->(a.put oj.dst v).tmps.getD n undef=v:=λv n hn=>by
         rw[hn];simp only[aP7,hn,aZ] at hany;have hlt:n<a.tmps.size:=by
          rw[r.tsz];cases hx:s.t[n]? with
          |none=>rw[hx] at hany;cases hany
          |some x=>exact lt_of_some hx
         simp only[Act.put];rw[Aa _ _ _ _ _ hlt,cW rfl]
        have rcc:∀(E':Env U g) (hP':E'.prm=[]) (hSP':(∀i o,SP i o=none)\/(E'.fr=[]/\bMr P Y g SP)) (hpin':∀b∈bs,∃k,Yb k/\((Sv.l (.box b 0):Sv U),Value.pointer (some ⟨k,0,none⟩))∈E'.pin) (hkd':∀n k,kd=some (n,k)->(wS,n,k)∈E'.fr) (hback:∀s a w β,bL Y.C E' s a w β->bL Y.C E s a w β) (hpn:∀p∈E.pin,p∈E'.pin) (q:Option (Nat×Obj)) v w' β' (hL':∀x∈S9 ((j,q)::R),E'.w0.heap.size<=x.1),(∀p,q=some p->∀y∈R,∀p',y.2=some p'->p.1≠p'.1)->aMn P Y FZ E'.pin al s (a.put oj.dst v) (j,q)->bL Y.C (E'.ahs (S9 ((j,q)::R)) hL') s (a.put oj.dst v) w' β'->(iF a0 (c.setIfInBounds j true)=true->Bel Yb wS w')->(iF a0 (c.setIfInBounds j true)=true->Bel Yb wS w')/\fH P .any al.toArray a0 (NoPanic Q) (Bel Yb wS) m (c.setIfInBounds j true) (a.put oj.dst v) w':=λE' hP' hSP' hpin' hkd' hback hpn q v w' β' hL' hq hEr r' hb'=>by
         refine⟨hb',?_⟩;rw[hcnt hjr];refine ih hP' hSP' hpin' hkd' (rmv j pd) ((j,q)::R) ((i,false)::l) fs false ps s K z hD (by simp only[xG,aZ,ho];exact hfull) (λs' a w β g1 g2 g3=>hQ s' a w β g1 g2 (hback _ _ _ _ g3)) (λx hx=>hpd x (qR.1 hx).1) (λx hx=> ?_) (λx hx y u hne p p' hp hp'=> ?_) (λx hx y u he=> ?_) _ (Z.set hjr) hc _ w' β' hL' (λhp=>nE (hps hp)) hb' (λh=>by cases h) (λy u=> ?_) r'
         ·rcases bf.1 hx with rfl|hx
          ·exact⟨hpd j hjp,λh=>(qR.1 h).2 rfl⟩
          ·exact⟨(hR x hx).1,λh=>(hR x hx).2 (qR.1 h).1⟩
         ·rcases bf.1 hx with rfl|hx<;>rcases bf.1 u with rfl|u
          ·exact absurd rfl hne
          ·exact hq p hp y u p' hp'
          ·exact λe=>hq p' hp' x hx p hp e.symm
          ·exact hR2 x hx y u hne p p' hp hp'
         ·rcases bf.1 hx with rfl|hx<;>rcases bf.1 u with rfl|u
          ·rfl
          ·exact absurd he.symm (hjR y u)
          ·exact absurd he (hjR x hx)
          ·exact hR3 x hx y u he
         ·rcases bf.1 u with rfl|u
          ·exact hEr
          ·exact((hE y u).mono hpn).keep (O y u) (λ_ _=>rfl)
        have hwj:Region.wanted oj (yielded al.toArray a.tmps)=true:=by simp[Region.wanted,hgj]
        refine wpOp_step hgi λK' A=> ?_;rw[cW hwj];rcases hfl with⟨L,hok⟩|⟨L,y0,hfc⟩
        ·obtain⟨blk,hFl⟩:=aSc G r hok;have hbw:E.w0.heap.size<=w.heap.size:=r.hp.ext.size;have hL':∀x∈S9 ((j,some (w.heap.size,blk))::R),E.w0.heap.size<=x.1:=λx hx=>by
          have hx:x∈(w.heap.size,blk)::S9 R:=hx;rcases bf.1 hx with rfl|hx
          ·exact hbw
          ·exact hL x hx
         refine wpo (.inl (hFl w)) (A _ _ (rcc E hP V F W (λ_ _ _ _ h=>h) (λ_ h=>h) (some (w.heap.size,blk)) _ (w.alloc blk) β hL' (λp hp y u p' hp'=> ?_) ?_ ?_ (λhn=>(hb (rH hn)).trans (Bel.aBM (Ext.alloc _ _)))))
         ·have:=aj hp;subst this;have:=bQy r p' (Od.2 ⟨y.1,by rw[<-hp'];exact u⟩);intro e;have e:w.heap.size=p'.1:=e;omega
         ·exact⟨oj,ho', .inl ⟨_,blk,rfl,L,hFl.keep (bI2 hself L),λn hn=>hget _ n hn⟩⟩
         ·exact(r.aDE (blk:=blk) (hb':=hL') hbw).aCB hany
        ·have hfc0:=hfc;obtain⟨ff,xa,ats,S,z1,q,c1,c2,c3,c4,c5,c6,c7,c8,c9⟩:=hfc0;have hso:=Pp G.lay r c1 (G.fs ff S (aKs c2)) c3 c4 c5 (.inr c6) c8;refine hso K' _ λv w' β' q1 q2 q3=> ?_;have hbx:=λhn:iF a0 (c.setIfInBounds j true)=true=>(hb (rH hn)).trans (Bel.aBM (q3 rfl));by_cases hd0:oj.dst=none
         ·exact A _ _ (rcc E hP V F W (λ_ _ _ _ h=>h) (λ_ h=>h) none v w' β' hL (λp hp=>by cases hp) ⟨oj,ho', .inr ⟨y0,v,rfl,L,hfc.keep (s':=s) (d:=none) rfl (λ_ _=>rfl),λhd=>absurd hd0 hd,λd hd=>by rw[hd0] at hd;cases hd⟩⟩ (q1.aCB hany) hbx)
         ·have hm2:y0.mean Y.C w' ((E.ahs (S9 R) hL).X β') β' s.m v:=by rw[<-c9];exact q2 hd0
          have q1':bL Y.C ((E.pinned [(y0,v)]).ahs (S9 R) hL) s (a.put oj.dst v) w' β':=(q1.aCB hany).pins (ps:=[(y0,v)]) (λx hx=>by simp at hx;subst hx;exact hm2);exact A _ _ (rcc (E.pinned [(y0,v)]) hP V (λb hb=>by
           obtain⟨k,k1,k2⟩:=F b hb;exact⟨k,k1,cJ _ k2⟩) W (λ_ _ _ _ h=>h.aDC) (λ_ h=>cJ _ h) none v w' β' hL (λp hp=>by cases hp) ⟨oj,ho', .inr ⟨y0,v,rfl,L,hfc.keep (s':=s) (d:=none) rfl (λ_ _=>rfl),λ_=>cN,λd hd=>hget v d hd⟩⟩ q1' hbx)
end
end Go.EV
namespace Go.EV
open Go.RowKit Go.VK
variable {U:Uni} {Y:Lay U} {TI:List (Nat×TInfo)} {FZ:List (Nat×Sum U)} {P:Program} {g:GI} {E:Env U g}
section
variable {α:Type}
theorem aCk:∀(l:List (Nat×Bool)),bCj l=l.map Prod.fst
 |[]=>rfl
 |x::l=>by rw[bw,<-aCk l];rfl
def Og {x:Nat×Bool}{l:List (Nat×Bool)}(h:aLy (x::l)=true):x.2=false/\aLy l=true:=by
 grind[aLy]
def bQ0 (G:Good P g Y TI FZ){al:List Oper}{Q:Exit->Act->World->Prop}{D:Nat->Prop}:∀(l:List Nat) (s:St U) (K:St U->Option α) (z:α),(∀i∈l,∀o,al[i]? =some o->∀n,Wr al o n->D n)->aB4 Y TI FZ al l s K=some z->
  ∀(rest:List Nat),(∀s' a w β b,Ag D s s'->K s'=some z->bL Y.C E s' a w β->chz al.toArray rest b=true->wpAny P .any al.toArray Q rest.length b a w)->∀b,chz al.toArray (l++rest) b=true->∀a w β,bL Y.C E s a w β->wpAny P .any al.toArray Q (l++rest).length b a w
 |[],s,K,z,_,h,rest,hk,b,hc,a,w,β,r=>hk s a w β b (Ag.refl s) h r hc
 |i::l,s,K,z,e,h,rest,hk,b,hc,a,w,β,r=>by
  simp only[aB4,aZ] at h;cases ho:al[i]? with
  |none=>rw[ho] at h;cases h
  |some o=>
   rw[ho] at h;simp only at h;replace hc:((Region.ready .any al.toArray b==[i])&&chz al.toArray (l++rest) (b.setIfInBounds i true))=true:=hc;simp only[aa,de] at hc;have hg:al.toArray[i]? =some o:=by simpa using ho
   refine aZr hc.1 (wpOp_step hg λx c=>aUu G r h λs' f w' β' q1 q2 q3 _=>c _ _ ?_);have d:=q1.mono (e i (by simp) o ho);exact bQ0 G l s' K z (λj hj=>e j (by simp[hj])) q2 rest (λs2 k m β2 p q t u v=>hk s2 k m β2 p (d.trans q) t u v) _ hc.2 f w' β' q3
def CG (FZ:List (Nat×Sum U))(al:List Oper)(a0:Option Nat)(l:List (Nat×Bool))(b:Array Bool):Prop:=frees FZ al a0 l=true\/(iF a0 b=false/\aLy l=true)
def bMs (G:Good P g Y TI FZ){al:List Oper}{a0:Option Nat}(hs:Region.noSelect al.toArray=true){Q:Exit->Act->World->Prop}{D:Nat->Prop}:∀(l:List (Nat×Bool)) (s:St U) (K:St U->Option α) (z:α),(∀i∈l,∀o,al[i.1]? =some o->∀n,Wr al o n->D n)->aB4 Y TI FZ al (bCj l) s K=some z->
  ∀(rest:List (Nat×Bool)),(∀s' a w β c,Ag D s s'->K s'=some z->bL Y.C E s' a w β->Dn .any al.toArray c->chk al.toArray a0 rest c=true->CG FZ al a0 rest c->fH P .any al.toArray a0 (NoPanic Q) (Ext w) rest.length c a w)->
   ∀c,Dn .any al.toArray c->chk al.toArray a0 (l++rest) c=true->CG FZ al a0 (l++rest) c->∀a w β,bL Y.C E s a w β->fH P .any al.toArray a0 (NoPanic Q) (Ext w) (l++rest).length c a w
 |[],s,K,z,_,h,rest,hk,c,hd,hc,hg,a,w,β,r=>hk s a w β c (Ag.refl s) h r hd hc hg
 |(i,fl)::l,s,K,z,t,h,rest,hk,c,hd,hc,e,a,w,β,r=>by
  replace h:aB4 Y TI FZ al (i::bCj l) s K=some z:=h;simp only[aB4,aZ] at h;cases ho:al[i]? with
  |none=>rw[ho] at h;cases h
  |some o=>
   rw[ho] at h;simp only at h;have hg:al.toArray[i]? =some o:=by simpa using ho
   cases fl with
   |true=>
    rw[cP] at hc;simp only[chk,aa] at hc;have m:Nat.beq (zF FZ o.op) 0=true/\frees FZ al a0 (l++rest)=true:=by
     rcases e with e|⟨_,e⟩
     ·have d:frees FZ al a0 ((i,true)::(l++rest))=true:=e;simp only[frees,aZ,ho,ac,aa] at d;exact d
     ·exact absurd (Og e).1 (by simp)
    obtain⟨v,s',h1,h2,W,Z⟩:=bQs G r (ah m.1) h;have f:=hd.set (by simpa using hc.1.1.2);have u:=Z.mono (t (i,true) (by simp) o ho);refine Tj (i:=i) (oi:=o) (v:=v) hg hs hc.1.1.1 hc.1.1.2 hc.1.2 hd (λ_ _ _ h=>h) ?_ (Ext.refl w) ?_
    ·rcases h1 with⟨k1,k2⟩|⟨k1,k2⟩
     ·exact .inl ⟨k1,k2⟩
     ·exact .inr ⟨k1,k2⟩
    ·exact bMs G hs l s' K z (λj hj=>t j (by simp[hj])) W rest (λs2 y A β2 B F I J L M N=>hk s2 y A β2 B (u.trans F) I J L M N) _ f hc.2 (.inl m.2) _ w β h2
   |false=>
    replace hc:((Region.ready .any al.toArray c==[i])&&(a0 !=some i|| !iF a0 (c.setIfInBounds i true))&&chk al.toArray a0 (l++rest) (c.setIfInBounds i true))=true:=hc;simp only[aa,de] at hc;have f:=hd.set (i:=i) (by rw[hc.1.1];simp);have k:(Nat.ble (zF FZ o.op) 1=true/\frees FZ al a0 (l++rest)=true)\/(iF a0 (c.setIfInBounds i true)=false/\aLy (l++rest)=true):=by
     rcases e with e|⟨hn,e⟩
     ·have d:frees FZ al a0 ((i,false)::(l++rest))=true:=e;simp only[frees,aZ,ho,ae] at d;cases hb:Nat.ble (zF FZ o.op) 1 with
      |true=>rw[hb] at d;exact .inl ⟨rfl,d⟩
      |false=>
       rw[hb] at d;simp only[ae,aa] at d;refine .inr ⟨?_,d.2⟩;cases a0 with
       |none=>exact absurd d.1 (by simp)
       |some b=>have O:b=i:=ah d.1;subst O;have:=hc.1.2;simpa using this
     ·exact .inr ⟨nE hn,(Og e).2⟩
    refine lD hc.1.1 (by simp) (λi' p=> ?_);simp at p;subst p;refine wpOp_step hg λK' R=>aUu G r h λs' a' w' β' q1 q2 q3 q4=>R _ _ ?_;have S:=q1.mono (t (i',false) (by simp) o ho);have cont:=λhh=>bMs G hs l s' K z (λj hj=>t j (by simp[hj])) q2 rest (λs2 y A β2 B F I J L M N=>hk s2 y A β2 B (S.trans F) I J L M N) _ f hc.2 hh a' w' β' q3;rcases k with⟨q,T⟩|⟨q,T⟩
    ·have hx:=q4 q;exact⟨λ_=>hx,wF (λx V=>Ext.trans hx V) _ _ _ _ (cont (.inl T))⟩
    ·exact⟨λhn=>(by rw[q] at hn;cases hn),rF _ _ _ _ q (cont (.inr ⟨q,T⟩))⟩
def Dn0 {os:Array Oper}:Dn .any os (Array.replicate os.size false):=λj oj hj hl=>by
 have b:=(ca.1 hj).1;simp_all
def bAj {al:List Oper}{i:Nat}{l:List Nat}:aLz al (i::l)=match nth al i with|some o=>o::aLz al l|none=>aLz al l:=rfl
def aSo {al:List Oper}:∀{l:List Nat} {i:Nat} {o:Oper},i∈l->al[i]? =some o->o∈aLz al l
 |[],i,o,h,_=>by simp at h
 |x::l,i,o,h,ho=>by
  rw[bAj,aZ];rcases bf.1 h with rfl|h
  ·rw[ho];simp
  ·have:=aSo h ho;cases al[x]? with
   |none=>exact this
   |some b=>exact cJ _ this
def bI4 {β:Type}(l:List β)(k:Nat):tk l k++drp l k=l:=by simp[cL,aL3,Q9]
def aSp {os:Array Oper}{an:An}{l:List Nat}(h:aJa FZ os.toList os an=some l):
  (Region.noSelect os=true/\l.length=os.size/\chz os l (Array.replicate os.size false)=true)\/
  (∃a0 ord,Region.noSelect os=true/\ord.length=os.size/\chk os a0 ord (Array.replicate os.size false)=true/\frees FZ os.toList a0 ord=true/\l=ord.map Prod.fst):=by
 cases an<;>grind[aJa,aLk,os,frees,Option.some.inj,aCk,Region.noSelect,Nat.beq,len,chz,Array.replicate,dK,inl,Nat.eq_of_beq_eq_true]
def bI5 (G:Good P g Y TI FZ)(hm:P.follows .mixedOrders=true){os:Array Oper}{an:An}{l l1 l2:List Nat}(h:aJa FZ os.toList os an=some l)(hl:l=l1++l2){id:Nat}{Q:Exit->Act->World->Prop}{D:Nat->Prop}{D2:Nat->Prop}{α α2:Type}{s:St U}{z:α}{k:St U->Option α}
  (hD:∀o∈os.toList,∀n,Wr os.toList o n->D n) (h1:aB4 Y TI FZ os.toList l1 s k=some z)
  (hk:∀s1,Ag D s s1->k s1=some z->∃(f:St U->Option α2) (z2:α2),(∀i∈l2,∀o,os.toList[i]? =some o->∀n,Wr os.toList o n->D2 n)/\aB4 Y TI FZ os.toList l2 s1 f=some z2/\∀d e β1,bL Y.C E s1 d e β1->∀s' a w β,Ag D2 s1 s'->f s'=some z2->bL Y.C E s' a w β->Q .normal a w)
  {a:Act} {w:World} {β:List Tr} (r:bL Y.C E s a w β):(Code.region id os true).wp P Q a w:=by
 have m:os.toList.toArray=os:=by simp
 have c:∀(i:Nat) (o:Oper),os.toList[i]? =some o->∀n,Wr os.toList o n->D n:=(by grind[List.mem_of_getElem?]);have N:bL Y.C E s a w.drew β:=r.ext (Ext.drew w);rcases aSp h with⟨hs,hlen,hc⟩|⟨a0,ord,hs,hlen,hc,p,q⟩
 ·refine wp_region_noPanic (wp_region_any hm ?_);have:=bQ0 G (E:=E) (al:=os.toList) (Q:=NoPanic Q) (D:=D) l1 s k z (λi _=>c i) h1 l2 (λs1 d e β1 b t u j v=>by
   obtain⟨f,z2,x,y,A⟩:=hk s1 t u;have:=bQ0 G (E:=E) (al:=os.toList) (Q:=NoPanic Q) (D:=D2) l2 s1 f z2 x y [] (λs' B w' β' T F I J O=>⟨by simpa[chz] using O,A d e β1 j s' B w' β' F I J⟩) b (by simpa using v) d e β1 j;simp_all) (Array.replicate os.size false) (by simp_all) a w.drew β N
  simp_all
 ·refine wp_region_noPanic (wp_region_any hm (oK (a0:=a0) (S:=Ext w.drew) _ _ _ _ ?_));have K:ord.map Prod.fst=l1++l2:=by rw[<-q,hl]
  obtain⟨V,R,ho,L,M⟩:=List.map_eq_append_iff.1 K;subst L;subst M;have:=bMs G (E:=E) (al:=os.toList) (a0:=a0) (by assumption) (Q:=Q) (D:=D) V s k z (λi _=>c i.1) (by grind[aCk]) R (λs1 d e β1 b t u j v W Z=>by
   obtain⟨f,z2,x,y,A⟩:=hk s1 t u;have:=bMs G (E:=E) (al:=os.toList) (a0:=a0) (by rw[m];exact hs) (Q:=Q) (D:=D2) R s1 f z2 (λi hi=>x i.1 (cr.2 ⟨i,hi,rfl⟩)) (by rw[aCk];exact y) [] (λs' B w' β' T F I J O p5 p6=>wG (P:=P) (a0:=a0) (S:=Ext w') (Q:=NoPanic Q) (by simpa[chk] using p5) (A d e β1 j s' B w' β' F I J) 0) b v (by simpa using W) (by simpa using Z) d e β1 j;simp_all) (Array.replicate os.size false) (by simp[Dn0]) (by simp_all) (.inl (by rw[<-ho];exact p)) a w.drew β N
  simp_all
def bI6 {a0:Option Nat}{n:Nat}:iF a0 (Array.replicate n false)=true:=by
 cases a0 with
 |none=>rfl
 |some b=>simp only[iF,bo];rw[cA,jz];split<;>rfl
def bQ2 (B:E.fr=[])(l:E.prm=[])(G:Good P g Y TI FZ)(hm:P.follows .mixedOrders=true){os:Array Oper}{id:Nat}{kb:Bool}{f a0:Option Nat}{ord:List (Nat×Bool)}{Q:Exit->Act->World->Prop}{D:Nat->Prop}{s:St U}{z:α}{N:St U->Option α}
  (F:∀o∈os.toList,∀n,Wr os.toList o n->D n) (hc:aUf os f a0 ord=true) (h:aB5 Y TI FZ os.toList a0 (bif kb then some (len s.m.o,s.m.k) else none) ord f true true (wpe os.toList f s) N=some z)
  (I:∀s' a w β,Ag D s s'->N s'=some z->bL Y.C E s' a w β->Q .normal a w) {a:Act} {w:World} {β:List Tr} (r:bL Y.C E s a w β):(Code.region id os true).wp P Q a w:=by
 have J:os.toList.toArray=os:=by simp
 have c:∀i∈ord,∀o,os.toList[i.1]? =some o->∀n,Wr os.toList o n->D n:=(by grind[List.mem_of_getElem?]);have p:bL Y.C E s a w.drew β:=r.ext (Ext.drew w);simp only[aUf,aa,dK] at hc;obtain⟨hs,hlen,b⟩:=hc;have hlen:=ah hlen;have q:(wpe os.toList f s).m=s.m:=by
  unfold wpe;cases f with
  |none=>rfl
  |some j=>
   simp only;cases nth os.toList j with
   |none=>rfl
   |some o=>simp only;cases o.dst<;>rfl
 have x:bL Y.C E (wpe os.toList f s) a w.drew β:=by
  unfold wpe;cases f with
  |none=>exact p
  |some j=>
   simp only;cases nth os.toList j with
   |none=>exact p
   |some o=>exact p.aDJ
 have t:Ag D s (wpe os.toList f s):=by
  unfold wpe;cases f with
  |none=>exact Ag.refl s
  |some j=>
   simp only[aZ];cases ho:os.toList[j]? with
   |none=>simp_all
   |some o=>exact(Ag.refl s).put (λn e=>F o (aE ho) n (.inl e))
 have main:∀(E':Env U g) (kd:Option (Nat×Nat)),E'.prm=[]->Lk E' kd true true w.drew w.drew->bL Y.C E' (wpe os.toList f s) a w.drew β->(∀s' a w β,bL Y.C E' s' a w β->bL Y.C E s' a w β)->aB5 Y TI FZ os.toList a0 kd ord f true true (wpe os.toList f s) N=some z->(Code.region id os true).wp P Q a w:=λE' kd u hl r' d h=>by
  refine wp_region_noPanic (wp_region_any hm (oK (a0:=a0) (S:=Ext w.drew) _ _ _ _ ?_));have y:∀s' a w β,Ag D (wpe os.toList f s) s'->N s'=some z->bL Y.C E' s' a w β->Q .normal a w:=λs' a w β K L M=>I s' a w β (t.trans K) L (d s' a w β M);cases f with
  |none=>have:=aXk (E:=E') G (al:=os.toList) (a0:=a0) (kd:=kd) (Q:=Q) (D:=D) (by assumption) ord true true _ N z c h y (Array.replicate os.size false) (by simp[Dn0]) (by assumption) bI6 a w.drew β w.drew hl r';simp_all
  |some j=>
   simp only[aa,bne_iff_ne,ne_eq] at b;obtain⟨v,b⟩:=b;split at b
   ·rename_i oj hj;have:=bIz (E:=E') G (al:=os.toList) (a0:=a0) (kd:=kd) (Q:=Q) (D:=D) (by assumption) u (j:=j) (oj:=oj) (by simp[*]) v ord true true _ N z c h y (Array.replicate os.size false) (by simp[Dn0]) (by assumption) bI6 a w.drew β w.drew hl r';simp_all
   ·cases b
 cases kb with
 |false=>exact main E none l ⟨(by simp),λ_=>rfl,λ_=>rfl,λ_=>Ext.refl _⟩ x (λ_ _ _ _ h=>h) h
 |true=>have A:=x.frame l;rw[q] at A;exact main (E.frm [(w.drew,s.m.o.length,s.m.k)]) (some (s.m.o.length,s.m.k)) l ⟨λn k h=>(by cases h;exact cN),λ_=>rfl,λh=>(by cases h),λ_=>Ext.refl _⟩ A (λ_ _ _ _ h=>h.aCJ B) (by grind[dK])
def aXo {al:List Oper}{s:St U}:∀{fs:List Nat},(wpl al s fs).m=s.m
 |[]=>rfl
 |j::fs=>by
  have e:wpl al s (j::fs)=(match nth al j with|some o=>EV.put (wpl al s fs) o.dst (.l .any)|none=>wpl al s fs):=rfl;rw[e];cases nth al j with
  |none=>exact aXo
  |some o=>rw[bI0];exact aXo
def aKz {al:List Oper}{s:St U}{a:Act}{w:World}{β:List Tr}(r:bL Y.C E s a w β):∀{fs:List Nat},bL Y.C E (wpl al s fs) a w β
 |[]=>r
 |j::fs=>by
  have e:wpl al s (j::fs)=(match nth al j with|some o=>EV.put (wpl al s fs) o.dst (.l .any)|none=>wpl al s fs):=rfl;rw[e];cases nth al j with
  |none=>exact aKz r
  |some o=>exact(aKz r).aDJ
def aU0 {al:List Oper}{s:St U}{D:Nat->Prop}(b:∀o∈al,∀n,Wr al o n->D n):∀{fs:List Nat},Ag D s (wpl al s fs)
 |[]=>Ag.refl s
 |j::fs=>by
  have e:wpl al s (j::fs)=(match nth al j with|some o=>EV.put (wpl al s fs) o.dst (.l .any)|none=>wpl al s fs):=rfl;rw[e,aZ];cases ho:al[j]? with
  |none=>exact aU0 b
  |some o=>exact(aU0 b).put (λn e=>b o (aE ho) n (.inl e))
def bQ3 (x:E.fr=[])(u:E.prm=[])(G:Good P g Y TI FZ)(hm:P.follows .mixedOrders=true){os:Array Oper}{a0:Option Nat}{id f:Nat}{bs fs:List Nat}{ord:List (Nat×Bool)}{Q:Exit->Act->World->Prop}{D:Nat->Prop}{s:St U}{z:α}{N:St U->Option α}
  (v:∀o∈os.toList,∀n,Wr os.toList o n->D n) (hs:Region.noSelect os=true) (hc:Tt os a0 f fs [] ord (Array.replicate os.size false)=true) (j:bxs bs s.m.o=true) (h:xG Y TI FZ os.toList (λ_ _=>none) a0 bs (some (len s.m.o,s.m.k)) ord fs true false (wpl os.toList s fs) N=some z)
  (y:∀s' a w β,Ag D s s'->N s'=some z->bL Y.C E s' a w β->Q .normal a w) {a:Act} {w:World} {β:List Tr} (r:bL Y.C E s a w β):(Code.region id os true).wp P Q a w:=by
 have c:os.toList.toArray=os:=by simp
 have d:bL Y.C E (wpl os.toList s fs) a w.drew β:=(aKz r).ext (Ext.drew w);have l:Ag D s (wpl os.toList s fs):=aU0 v;let Yb:Nat->Prop:=λk=>∃b∈bs,∃t,β[b]? =some t/\t.b=some k;obtain⟨ps,A,B⟩:=aMm d.hp bs (by rw[aXo];exact j);have F:bL Y.C ((E.pinned ps).frm [(w.drew,s.m.o.length,s.m.k)]) (wpl os.toList s fs) a w.drew β:=by have:=(d.pins A).frame (show(E.pinned ps).prm=[] from u);rw[aXo] at this;exact this
 have I:bL Y.C (((E.pinned ps).frm [(w.drew,s.m.o.length,s.m.k)]).ahs (S9 []) (by simp[S9])) (wpl os.toList s fs) a w.drew β:=F.aDK;refine wp_region_noPanic (wp_region_any hm (oK (a0:=a0) (S:=Bel Yb w.drew) _ _ _ _ ?_));rw[dK] at h;have:=aMp (a0:=a0) (E:=(E.pinned ps).frm [(w.drew,s.m.o.length,s.m.k)]) G (al:=os.toList) (Q:=Q) (D:=D) (by rw[c];exact hs) u (.inl λ_ _=>rfl) (bs:=bs) (Yb:=Yb) (wS:=w.drew) (λb hb=>by
  obtain⟨t,k,q1,q2,q3⟩:=B b hb;exact⟨k,⟨b,hb,t,q1,q2⟩,bp.2 (.inl q3)⟩) (kd:=some (s.m.o.length,s.m.k)) (λn k h=>by cases h;exact cN) f fs [] ord fs true false (wpl os.toList s fs) N z (λi _ o ho=>v o (aE ho)) h (λs' a w β J K L=>y s' a w β (l.trans J) K (L.aCJ x).aDC) (λ_ h=>h) (by simp) (by simp) (by simp) (Array.replicate os.size false) (by rw[c];exact Dn0) (by rw[c];exact hc) a w.drew β (by simp[S9]) (λh=>by cases h) (λ_=>Bel.refl _) (λ_=>⟨rfl,λk ⟨b,hb,t,ht,hk⟩=>bMb ht (Tr.root hk),λb e t k h1 h2 p q=>⟨λhb=>⟨b,hb,t,p,q⟩,λhb=>⟨λ⟨b',k1,t',k2,k3⟩=>d.hp.dist b b' t t' k (λe=>hb (e▸k1)) p k2 (Tr.root q) (Tr.root k3),(d.hp.new b t k p (Tr.root q)).2⟩⟩,rfl⟩) (by simp) I
 rw[c,show cntF (Array.replicate os.size false)=os.size by simp[cntF]] at this;exact this
def aFu (L:E.fr=[])(V:E.prm=[])(G:Good P g Y TI FZ)(hm:P.follows .mixedOrders=true)(id:Nat)(os:Array Oper)(d:Bool)(an:An){α:Type}(s:St U)(N:St U->Option α)(X:Nat->St U->Option α)(R:St U->Option α)(z:α)(D:Nat->Prop)(A:∀o∈os.toList,∀n,Wr os.toList o n->D n)(W:AW D an)(h:rgn Y TI FZ os.toList os d an s N=some z):Snd P Y E D (.region id os d) s z N X R:=by
 intro Q B hX hR a w β r;have F:os.toList.toArray=os:=by simp
 have plain:∀an,(bif d then(match aJa FZ os.toList os an with|some l=>aB4 Y TI FZ os.toList l s N|none=>none) else ops Y TI FZ os.toList os.toList s N)=some z->(Code.region id os d).wp P Q a w:=λan h=>by
  cases d with
  |false=>refine wp_region_list ?_;have:=o5 G (E:=E) (al:=os.toList) (Q:=Q) (D:=D) os.toList s N z A h [] (λs' a w β e c M=>wpList_nil (B s' a w β e c M)) a w β r;rw[eo,F] at this;exact this
  |true=>
   simp only[ac] at h;cases ho:aJa FZ os.toList os an with
   |none=>rw[ho] at h;cases h
   |some l=>rw[ho] at h;exact bI5 G hm (l1:=l) (l2:=[]) (α2:=α) (D2:=D) ho (by simp) A h (λs1 e c=>⟨N,z,λi hi=>by simp at hi,c,λO S β1 _ s' I w' β' J p K=>B s' I w' β' (e.trans J) p K⟩) r
 cases an with
 |rj k tm I=>
  cases d with
  |false=>
   replace h:ops Y TI FZ os.toList (tk os.toList k) s (λs1=>bif wrG tm.ws os.toList (drp os.toList k) then bd (ops Y TI FZ os.toList (drp os.toList k) s1 λs'=>col Y s1 tm s') λd=>N (reb Y s1 tm d) else none)=some z:=h;refine wp_region_list ?_;have:=o5 G (E:=E) (al:=os.toList) (Q:=Q) (D:=D) (tk os.toList k) s _ z (λo ho=>A o (by rw[aL3] at ho;exact gj ho)) h (drp os.toList k) (λs1 O S β1 e c M=>by
    cases hb:wrG tm.ws os.toList (drp os.toList k) with
    |false=>rw[hb] at c;cases c
    |true=>
     rw[hb] at c;simp only[ac] at c;obtain⟨d,k1,k2⟩:=jT c;have:=o5 G (E:=E) (al:=os.toList) (Q:=Q) (D:=λn=>Nk tm.ws 0 n=true) (drp os.toList k) s1 _ d (aCh hb) k1 [] (λs' I w' β' J p K=>wpList_nil (by
      obtain⟨β'',q⟩:=zQ L M K J p;obtain⟨_,_,_,hs,_⟩:=Oc p;exact B _ _ _ _ (e.trans ((aFt hs).mono W)) k2 q)) O S β1 M
     rw[eo] at this;exact this) a w β r
   rw[bI4,F] at this;exact this
  |true=>
   replace h:(match aJa FZ os.toList os I with|some l=>aB4 Y TI FZ os.toList (tk l k) s (λs1=>bif wrG tm.ws os.toList (aLz os.toList (drp l k)) then bd (aB4 Y TI FZ os.toList (drp l k) s1 λs'=>col Y s1 tm s') λd=>N (reb Y s1 tm d) else none)|none=>none)=some z:=h;cases ho:aJa FZ os.toList os I with
   |none=>rw[ho] at h;cases h
   |some l=>
    rw[ho] at h;refine bI5 G hm (l1:=tk l k) (l2:=drp l k) (α2:=Dat U tm.it) (D2:=λn=>Nk tm.ws 0 n=true) ho (bI4 l k).symm A h (λs1 e c=> ?_) r;cases hb:wrG tm.ws os.toList (aLz os.toList (drp l k)) with
    |false=>rw[hb] at c;cases c
    |true=>rw[hb] at c;simp only[ac] at c;obtain⟨d,k1,k2⟩:=jT c;refine⟨_,d,λi hi o T=>aCh hb o (aSo hi T),k1,λO S β1 Z s' a2 w2 β2 J p K=> ?_⟩;obtain⟨β'',q⟩:=zQ L Z K J p;obtain⟨_,_,_,hs,_⟩:=Oc p;exact B _ _ _ _ (e.trans ((aFt hs).mono W)) k2 q
 |y kb f a0 ord=>
  cases d with
  |false=>cases h
  |true=>
   replace h:(bif true&&aUf os f a0 ord then aB5 Y TI FZ os.toList a0 (bif kb then some (len s.m.o,s.m.k) else none) ord f true true (wpe os.toList f s) N else none)=some z:=h;cases hc:aUf os f a0 ord with
   |false=>rw[hc] at h;cases h
   |true=>rw[hc] at h;exact bQ2 L V G hm A hc h B r
 |w bs ord=>replace h:none=some z:=h;cases h
 |v bs ord=>replace h:none=some z:=h;cases h
 |u a0 bs fs ord=>
  cases d with
  |false=>cases h
  |true=>
   replace h:(bif true&&(Region.noSelect os&&(Tt os a0 (Nat.succ (Nat.add (len ord) (len ord))) fs [] ord (Array.replicate os.size false)&&bxs bs s.m.o)) then xG Y TI FZ os.toList (λ_ _=>none) a0 bs (some (len s.m.o,s.m.k)) ord fs true false (wpl os.toList s fs) N else none)=some z:=h;cases hc:(Region.noSelect os&&(Tt os a0 (Nat.succ (Nat.add (len ord) (len ord))) fs [] ord (Array.replicate os.size false)&&bxs bs s.m.o)) with
   |false=>rw[hc] at h;cases h
   |true=>rw[hc] at h;simp only[aa] at hc;exact bQ3 L V G hm A hc.1 hc.2.1 hc.2.2 h B r
 |n=>exact plain .n h
 |s x y=>exact plain (.s x y) h
 |j t x=>exact plain (.j t x) h
 |jx t x=>exact plain (.jx t x) h
 |l t f x=>exact plain (.l t f x) h
 |r a0 o=>exact plain (.r a0 o) h
 |z o=>exact plain (.z o) h
 |il i a b=>exact plain (.il i a b) h
 |pl a=>exact plain (.pl a) h
end
end Go.EV
namespace Go.EV
open Go.RowKit Go.VK
variable {U:Uni} {Y:Lay U} {TI:List (Nat×TInfo)} {FZ:List (Nat×Sum U)} {P:Program} {g:GI} {E:Env U g}
section
variable {s:St U} {a:Act} {w w0:World} {β:List Tr}
def bE9 (d:sF P TI=true)(r:bL Y.C E s a w β){x:ResultVar}{y:Sv U}(h:bL7 TI s x=some y):∃v,(aBv P w a.tmps x).run P w= .ok v w/\y.mean Y.C w (E.X β) β s.m v:=by
 cases x with
 |tmp n=>exact⟨_,by simp[aBv],r.tm n y (by rw[<-aZ];exact h)⟩
 |cell c t=>
  simp only[bL7] at h;split at h
  ·rename_i b i h1 h2;have hl:load Y s i (.box b 0)=some y:=h;have e:(Lf.box b 0:Lf U).mean Y.C w (E.X β) β s.m (a.tmps.getD c undef):=r.tm c (.l (.box b 0)) (by grind[aZ]);obtain⟨p,v',k1,k2,k3⟩:=aRy r (bX d h2) e hl;simp[aBv,k1,asAddr,Sem.run_bind,Sem.run_pure,Result.andThen_ok,k2,Ext.refl,k3]
  ·cases h
def Ak (b:sF P TI=true)(r:bL Y.C E s a w β):∀{l:List ResultVar} {xs:List (Sv U)},M0 TI s l=some xs->∃vs:List Value,(l.mapM (aBv P w a.tmps)).run P w= .ok vs w/\vs.length=xs.length/\∀(i:Nat) (v:Value) (x:Sv U),vs[i]? =some v->xs[i]? =some x->x.mean Y.C w (E.X β) β s.m v
 |[],xs,h=>by
  have:=aj h;subst this;exact⟨[],rfl,rfl,by simp⟩
 |x::l,xs,h=>by
  simp only[M0] at h;cases h1:bL7 TI s x with
  |none=>rw[h1] at h;cases h
  |some y=>
   cases h2:M0 TI s l with
   |none=>rw[h1,h2] at h;cases h
   |some ys=>
    rw[h1,h2] at h;have:=aj h;subst this;obtain⟨v,k1,k2⟩:=bE9 b r h1;obtain⟨vs,k3,k4,k5⟩:=Ak b r h2;refine⟨v::vs,by simp[jt,k1,k3],by simp[k4],λi v' W q1 q2=> ?_⟩;cases i with
    |zero=>simp at q1 q2;subst q1;subst q2;exact k2
    |succ i=>exact k5 i v' W (by simpa using q1) (by simpa using q2)
def Et {b:Func}{l:List ResultVar}(c:b.results=l.toArray){vs:List Value}(h:(l.mapM (aBv P w a.tmps)).run P w= .ok vs w):(results b a.tmps).run P w= .ok (if h:vs.toArray.size=1 then vs.toArray[0] else .tuple vs.toArray) w:=by
 have d:results b a.tmps=(do
   let vs<-b.results.mapM (aBv P w a.tmps)
   pure (if h:vs.size=1 then vs[0] else .tuple vs)):=rfl
 simp[*]
end
section
def sJ (P:Program)(IL:Il):Prop:=∀(f:Nat) (c:Code) (n:Nat) (rv:List ResultVar),kD IL f=some (c,n,rv)->∃b,P.funcs[f]? =some b/\b.body=some c/\b.ntmps=n/\b.results=rv.toArray/\∀args w,(callFunc f args).run P w= .ok (.enter f args) w
def bQ4:sJ P []:=λ_ _ _ _ h=>by cases h
def nR {IL:Il}{f:Nat}{c:Code}{n:Nat}{rv:List ResultVar}{d:Func}(k:P.funcs[f]? =some d)(hb:d.body=some c)(hn:d.ntmps=n)(hl:d.results=rv.toArray)(l:∀args w,(callFunc f args).run P w= .ok (.enter f args) w)(h:sJ P IL):sJ P ((f,c,n,rv)::IL):=λf' i j b e=>by
 have e:cond (Nat.beq f f') (some (c,n,rv)) (kD IL f')=some (i,j,b):=e;cases hb':Nat.beq f f' with
 |true=>simp_all
 |false=>rw[hb'] at e;exact h f' i j b e
def bU8 (s:St U)(a:Act):List (Sv U×Value):=s.t.zipIdx.map λp=>(p.1,a.tmps.getD p.2 undef)
def aSq {C:Cod U}{w:World}{X:Nat->Prop}{β:List Tr}{m:Mm U}:∀{ys:List (Sv U)} {l:List (Bool×List (Lf U))} {vs:List Value},aZ1 ys=some l->vs.length=ys.length->(∀(i:Nat) (v:Value) (x:Sv U),vs[i]? =some v->ys[i]? =some x->x.mean C w X β m v)->vs.length=l.length/\∀(i:Nat) (v:Value) (x:Bool×List (Lf U)),vs[i]? =some v->l[i]? =some x->Mp C w X β m v x
 |[],l,vs,h,hl,_=>by
  have:=aj h;subst this;exact⟨hl,λi v x _ h=>by simp at h⟩
 |y::ys,l,[],h,hl,_=>by simp at hl
 |y::ys,l,v::vs,h,hl,hm=>by
  simp only[aZ1] at h;cases h1:sv2 y with
  |none=>rw[h1] at h;cases h
  |some p=>
   cases h2:aZ1 ys with
   |none=>rw[h1,h2] at h;cases h
   |some ps=>
    rw[h1,h2] at h;have:=aj h;subst this;obtain⟨k1,k2⟩:=aSq h2 (by simpa using hl) (λi v x p q=>hm (i+1) v x (by simpa using p) (by simpa using q));refine⟨by simp[k1],λi u x b q=> ?_⟩;cases i with
    |zero=>
     simp at b q;subst b;subst q;have h0:=hm 0 v y rfl rfl;cases y with
     |l x=>have:=aj h1;subst this;exact⟨x,rfl,h0⟩
     |a cs=>have:=aj h1;subst this;exact h0
     |t xs=>cases h1
    |succ i=>exact k2 i u x (by simpa using b) (by simpa using q)
def bFa {C:Cod U}{w:World}{X:Nat->Prop}{β:List Tr}{m:Mm U}{ys:List (Sv U)}{y:Sv U}{vs:List Value}(h:bQl ys=some y)(hl:vs.length=ys.length)(hm:∀(i:Nat) (v:Value) (x:Sv U),vs[i]? =some v->ys[i]? =some x->x.mean C w X β m v):y.mean C w X β m (if h:vs.toArray.size=1 then vs.toArray[0] else .tuple vs.toArray):=by
 match ys,vs,h,hl,hm with
 |[x],[v],h,_,hm=>have:=aj h;subst this;exact hm 0 v x rfl rfl
 |[],[],h,_,_=>have:=aj h;subst this;exact⟨[],rfl,rfl,λi v x h=>by simp at h⟩
 |x::b::xs,v::v'::vs,h,hl,hm=>
  replace h:(match aZ1 (x::b::xs) with|some l=>some (Sv.t l)|none=>none)=some y:=h;cases h1:aZ1 (x::b::xs) with
  |none=>simp_all
  |some l=>rw[h1] at h;have:=aj h;subst this;rw[dif_neg (by simp)];obtain⟨k1,k2⟩:=aSq h1 hl hm;exact⟨_,rfl,k1,k2⟩
variable {IL:Il} {α:Type} {EV:An->Code->St U->(St U->Option α)->Option α}
def aQd (P:Program)(Y:Lay U)(g:GI)(EV:An->Code->St U->(St U->Option α)->Option α):Prop:=∀(E:Env U g),E.fr=[]->E.prm=[]->∀(an:An) (c:Code) (s:St U) (K:St U->Option α) (z:α),EV an c s K=some z->Snd P Y E (λ_=>True) c s z K (λ_ _=>none) K
def bAk (G:Good P g Y TI FZ)(I:sJ P IL)(j:aQd P Y g EV)(J:E.fr=[])(L:E.prm=[]){s:St U}{a:Act}{w:World}{β:List Tr}(r:bL Y.C E s a w β){al:List Oper}{o:Oper}{an:An}{K:St U->Option α}{z:α}(h:inl TI IL EV an o s K=some z){A:Act->World->Prop}{Q:Exit->Act->World->Prop}
  (hk:∀s' i w' β',Ag (Wr al o) s s'->K s'=some z->bL Y.C E s' i w' β'->A i w'):o.wp P a w A Q:=by
 unfold inl at h;split at h
 ·rename_i f b ats ho;cases B:kD IL f with
  |none=>simp_all
  |some p=>
   obtain⟨c,n,rv⟩:=p;rw[B] at h;simp only at h;cases hb:Nat.ble (len b.toList) n with
   |false=>simp_all
   |true=>
    rw[hb] at h;simp only[ac] at h;have hlen:b.toList.length<=n:=by have:=bc hb;rwa [dK] at this
    obtain⟨k,M,N,f3,O,R⟩:=I f c n rv B;let E':Env U g:=E.pinned (bU8 s a);have hX:∀β,E'.X β=E.X β:=λ_=>rfl;have S:Hp Y.C E' s.m β w:=⟨r.hp.ext,r.hp.len,r.hp.vers,r.hp.cnt,r.hp.new,r.hp.dist,r.hp.nd,r.hp.ok,λx hx=>by
     rcases bp.1 hx with hx|hx
     ·obtain⟨⟨y,m⟩,F,rfl⟩:=cr.1 hx;exact r.tm m y (by grind)
     ·exact r.hp.pin x hx,r.hp.prm,r.hp.fr⟩
    have r':bL Y.C E' ⟨b.toList.map (fU s)++List.replicate (n-len b.toList) (.l .any),s.m,s.fr⟩ {tmps:=(b.toList.map a.eval).toArray++Array.replicate (k.ntmps-(b.toList.map a.eval).toArray.size) undef,defers:=[]} w β:=by
     refine⟨S,rfl,?_,λm x hx=> ?_⟩
     ·grind[dK,List.length_append,List.length_map,List.length_replicate,Array.size_append,List.size_toArray,Array.size_replicate]
     ·by_cases hm:m<b.toList.length
      ·rw[ao (by rw[bl];exact hm)] at hx;have h1:(b.toList.map a.eval)[m]? =some ((b.toList.map a.eval)[m]'(by simp_all)):=ab _;obtain⟨y,T,V⟩:=Jn (s:=s) (a:=a) m _ x h1 hx;have hv:((b.toList.map a.eval).toArray++Array.replicate (k.ntmps-(b.toList.map a.eval).toArray.size) undef).getD m undef=a.eval y:=by rw[<-T,cA,fo (by simpa using hm)];simp[h1]
       grind[Af,Array.replicate,undef]
      ·rw[az (by simp_all)] at hx;have:=aE hx;simp at this;rw[this.2];trivial
    let R':Value->World->Prop:=λv w'=>∃(y:Sv U) (s':St U) (β':List Tr),K (put ⟨s.t,s'.m,s.fr⟩ o.dst y)=some z/\bL Y.C E ⟨s.t,s'.m,s.fr⟩ a w' β'/\y.mean Y.C w' (E.X β') β' s'.m v/\Am s.m s'.m;have done:∀s' i w' β',Ag (λ_=>True) ⟨b.toList.map (fU s)++List.replicate (n-len b.toList) (.l .any),s.m,s.fr⟩ s'->(match M0 TI s' rv with
      |some ys=>match bQl ys with
       |some y=>K (put ⟨s.t,s'.m,s.fr⟩ o.dst y)
       |none=>none
      |none=>none)=some z->bL Y.C E' s' i w' β'->i.defers=[]/\∃v,(results k i.tmps).run P w'= .ok v w'/\∃v',Ending.returned v= .returned v'/\R' v' w':=λs' i w' β' q hq d=>by
     split at hq
     ·rename_i ys u;split at hq
      ·rename_i y F;obtain⟨vs,k1,k2,k3⟩:=Ak G.ti d u;refine⟨d.defers,_,Et O k1,_,rfl,y,s',β',hq,?_,bFa F k2 k3,q.m⟩;have hp:Hp Y.C E s'.m β' w':=⟨d.hp.ext,d.hp.len,d.hp.vers,d.hp.cnt,d.hp.new,d.hp.dist,d.hp.nd,d.hp.ok,λx hx=>d.hp.pin x (bp.2 (.inr hx)),d.hp.prm,d.hp.fr⟩;exact⟨hp,r.defers,r.tsz,λm x hx=>d.hp.pin (x,a.tmps.getD m undef) (bp.2 (.inl (cr.2 ⟨(x,m),List.mem_zipIdx_iff_getElem?.2 hx,rfl⟩)))⟩
      ·cases hq
     ·cases hq
    have hc:Calls P f (b.toList.map a.eval).toArray w λe w'=>∃v,e= .returned v/\R' v w':=by refine calls_of_wp M N ?_;exact j E' J L an c _ _ z h _ (by assumption) (by simp) (by assumption) _ _ _ r'
    refine wpc (Ai ho R) hc ?_;rintro v w' ⟨y,s',β',k1,k2,k3,k4⟩;exact hk (put ⟨s.t,s'.m,s.fr⟩ o.dst y) _ w' β' (Ag.put (s:=s) (s':=⟨s.t,s'.m,s.fr⟩) ⟨λ_ _=>rfl,rfl,rfl,k4⟩ (λn e=> .inl e)) k1 (k2.put λ_=>k3)
 ·cases h
def aMq (G:Good P g Y TI FZ)(t:sJ P IL)(j:aQd P Y g EV)(u:E.fr=[])(y:E.prm=[]){s:St U}{a:Act}{w:World}{β:List Tr}(r:bL Y.C E s a w β){al:List Oper}{i:Nat}{o:Oper}(ho:al[i]? =some o){l:List Nat}{an:An}{K:St U->Option α}{z:α}(h:ilr Y TI FZ IL EV al (i::l) an s K=some z):
  ∃c,ilo c=ilo an/\∀(d:Act->World->Prop) (Q:Exit->Act->World->Prop),(∀s' f w' β',Ag (Wr al o) s s'->ilr Y TI FZ IL EV al l c s' K=some z->bL Y.C E s' f w' β'->(Nat.ble (zF FZ o.op) 1=true->Ext w w')->d f w')->if Region.wanted o (yielded al.toArray a.tmps)=true then o.wp P a w d Q else d (a.put o.dst undef) w:=by
 have plain:∀c,ilo c=ilo an->grd Y TI FZ al o s (λs'=>ilr Y TI FZ IL EV al l c s' K)=some z->∃c,ilo c=ilo an/\∀(d:Act->World->Prop) (Q:Exit->Act->World->Prop),(∀s' f w' β',Ag (Wr al o) s s'->ilr Y TI FZ IL EV al l c s' K=some z->bL Y.C E s' f w' β'->(Nat.ble (zF FZ o.op) 1=true->Ext w w')->d f w')->if Region.wanted o (yielded al.toArray a.tmps)=true then o.wp P a w d Q else d (a.put o.dst undef) w:=
  λc he h=>⟨c,he,λd Q hk=>aUu G r h hk⟩
 unfold ilr at h;rw[aZ,ho] at h;cases an with
 |il k b q=>
  simp only at h;cases hb:Nat.beq k i with
  |false=>grind
  |true=>
   rw[hb] at h;simp only[ac] at h;cases hc:Nat.beq (zF FZ o.op) 2 with
   |false=>simp_all
   |true=>
    rw[hc] at h;simp only[ac] at h;have hc:=ah hc;refine⟨q,rfl,λd Q hk=> ?_⟩;obtain⟨s1,p,h1,h2⟩:=Oa r h;rcases h2 with⟨m,h2⟩|⟨m,h2⟩
    ·rw[cW m];exact bAk G t j u y p (al:=al) h2 (λs' f w' β' q1 q2 q3=>hk s' f w' β' (h1.trans q1) q2 q3 (by simp[*]))
    ·rw[dm (by rw[m];simp)];exact hk _ _ w β (h1.put (λn e=> .inl e)) h2 (p.put (x:= .l .und) (v:=undef) (λ_=>rfl)) (λ_=>Ext.refl w)
 |_=>exact plain _ rfl h
def bS6 (G:Good P g Y TI FZ)(k:sJ P IL)(b:aQd P Y g EV)(m:E.fr=[])(p:E.prm=[]){al:List Oper}{Q:Exit->Act->World->Prop}{D:Nat->Prop}:∀(n i:Nat) (an:An) (s:St U) (K:St U->Option α) (z:α),i+n=al.length->(∀o∈al,∀n,Wr al o n->D n)->ilr Y TI FZ IL EV al (rng n i) an s K=some z->
  (∀s' a w β,Ag D s s'->K s'=some z->bL Y.C E s' a w β->Q .normal a w)->∀a w β,bL Y.C E s a w β->wpList P al.toArray Q (al.drop i) a w
 |0,i,an,s,K,z,hn,c,h,d,a,w,β,r=>by
  rw[gb (by omega)];exact wpList_nil (d s a w β (Ag.refl s) h r)
 |n+1,i,an,s,K,z,hn,c,h,d,a,w,β,r=>by
  have hi:i<al.length:=by omega
  have ho:al[i]? =some al[i]:=ab hi;obtain⟨e,_,hk⟩:=aMq G k b m p r ho (l:=rng n (Nat.succ i)) h;rw[cG hi];refine wpList_step λq f=>hk q _ λs' t w' β' q1 q2 q3 _=>f _ _ ?_;have j:=q1.mono (c _ (ce hi));exact bS6 G k b m p n (i+1) e s' K z (by omega) c q2 (λs2 u v β2 x y A=>d s2 u v β2 (j.trans x) y A) t w' β' q3
def bS7 (G:Good P g Y TI FZ)(m:sJ P IL)(c:aQd P Y g EV)(p:E.fr=[])(q:E.prm=[]){al:List Oper}{Q:Exit->Act->World->Prop}{D:Nat->Prop}:∀(l:List Nat) (an:An) (s:St U) (K:St U->Option α) (z:α),(∀o∈al,∀n,Wr al o n->D n)->ilr Y TI FZ IL EV al l an s K=some z->
  (∀s' a w β,Ag D s s'->K s'=some z->bL Y.C E s' a w β->Q .normal a w)->∀b,chz al.toArray l b=true->∀a w β,bL Y.C E s a w β->wpAny P .any al.toArray Q l.length b a w
 |[],an,s,K,z,_,h,d,b,hc,a,w,β,r=>⟨by simpa[chz] using hc,d s a w β (Ag.refl s) h r⟩
 |i::l,an,s,K,z,t,h,d,b,hc,a,w,β,r=>by
  replace hc:((Region.ready .any al.toArray b==[i])&&chz al.toArray l (b.setIfInBounds i true))=true:=hc;simp only[aa,de] at hc;cases ho:al[i]? with
  |none=>
   have:(none:Option α)=some z:=by have e:=h;unfold ilr at e;rw[aZ,ho] at e;exact e
   cases this
  |some o=>
   obtain⟨f,_,hk⟩:=aMq G m c p q r ho h;have hg:al.toArray[i]? =some o:=by simpa using ho
   refine aZr hc.1 (wpOp_step hg λu j=>hk u _ λs' v w' β' q1 q2 q3 _=>j _ _ ?_);have k:=q1.mono (t o (aE ho));exact bS7 G m c p q l f s' K z t q2 (λs2 x y β2 A B F=>d s2 x y β2 (k.trans A) B F) _ hc.2 v w' β' q3
def bFb (G:Good P g Y TI FZ)(d:sJ P IL)(c:aQd P Y g EV)(e:E.fr=[])(f:E.prm=[]){s:St U}{a:Act}{w:World}{β:List Tr}(r:bL Y.C E s a w β){al:List Oper}{i:Nat}{o:Oper}(ho:al[i]? =some o)(hc:zF FZ o.op=0){l:List Nat}{an:An}{K:St U->Option α}{z:α}(h:ilr Y TI FZ IL EV al (i::l) an s K=some z):
  ∃b,ilo b=ilo an/\grd Y TI FZ al o s (λs'=>ilr Y TI FZ IL EV al l b s' K)=some z:=by
 grind[Nat.beq,aZ,ilr]
def bQ5 (G:Good P g Y TI FZ)(A:sJ P IL)(f:aQd P Y g EV)(B:E.fr=[])(F:E.prm=[]){al:List Oper}{a0:Option Nat}(hs:Region.noSelect al.toArray=true){Q:Exit->Act->World->Prop}{D:Nat->Prop}:∀(l:List (Nat×Bool)) (an:An) (s:St U) (K:St U->Option α) (z:α),(∀o∈al,∀n,Wr al o n->D n)->ilr Y TI FZ IL EV al (l.map Prod.fst) an s K=some z->
  (∀s' a w β,Ag D s s'->K s'=some z->bL Y.C E s' a w β->Q .normal a w)->
   ∀c,Dn .any al.toArray c->chk al.toArray a0 l c=true->CG FZ al a0 l c->∀a w β,bL Y.C E s a w β->fH P .any al.toArray a0 (NoPanic Q) (Ext w) l.length c a w
 |[],an,s,K,z,_,h,I,c,hd,hc,hg,a,w,β,r=>wG (P:=P) (a0:=a0) (S:=Ext w) (Q:=NoPanic Q) (by simpa[chk] using hc) (I s a w β (Ag.refl s) h r) 0
 |(i,fl)::l,an,s,K,z,J,h,I,c,hd,hc,e,a,w,β,r=>by
  replace h:ilr Y TI FZ IL EV al (i::l.map Prod.fst) an s K=some z:=h;cases ho:al[i]? with
  |none=>
   have:(none:Option α)=some z:=by have L:=h;unfold ilr at L;rw[aZ,ho] at L;exact L
   cases this
  |some o=>
   have hg:al.toArray[i]? =some o:=by simpa using ho
   have j:=aE ho;cases fl with
   |true=>
    simp only[chk,aa] at hc;have q:Nat.beq (zF FZ o.op) 0=true/\frees FZ al a0 l=true:=by
     rcases e with e|⟨_,e⟩
     ·have d:frees FZ al a0 ((i,true)::l)=true:=e;simp only[frees,aZ,ho,ac,aa] at d;exact d
     ·exact absurd (Og e).1 (by simp)
    have t:=ah q.1;obtain⟨k,_,h⟩:=bFb G A f B F r ho t h;obtain⟨v,s',h1,h2,h3,h4⟩:=bQs G r t h;have m:=hd.set (by simpa using hc.1.1.2);have M:=h4.mono (J o j);refine Tj (i:=i) (oi:=o) (v:=v) hg hs hc.1.1.1 hc.1.1.2 hc.1.2 hd (λ_ _ _ h=>h) ?_ (Ext.refl w) ?_
    ·rcases h1 with⟨k1,k2⟩|⟨k1,k2⟩
     ·exact .inl ⟨k1,k2⟩
     ·exact .inr ⟨k1,k2⟩
    ·exact bQ5 G A f B F hs l k s' K z J h3 (λs2 N O β2 R T V=>I s2 N O β2 (M.trans R) T V) _ m hc.2 (.inl q.2) _ w β h2
   |false=>
    replace hc:((Region.ready .any al.toArray c==[i])&&(a0 !=some i|| !iF a0 (c.setIfInBounds i true))&&chk al.toArray a0 l (c.setIfInBounds i true))=true:=hc;simp only[aa,de] at hc;have m:=hd.set (i:=i) (by rw[hc.1.1];simp);have p:(Nat.ble (zF FZ o.op) 1=true/\frees FZ al a0 l=true)\/(iF a0 (c.setIfInBounds i true)=false/\aLy l=true):=by
     rcases e with e|⟨hn,e⟩
     ·have d:frees FZ al a0 ((i,false)::l)=true:=e;simp only[frees,aZ,ho,ae] at d;cases hb:Nat.ble (zF FZ o.op) 1 with
      |true=>rw[hb] at d;exact .inl ⟨rfl,d⟩
      |false=>
       rw[hb] at d;simp only[ae,aa] at d;refine .inr ⟨?_,d.2⟩;cases a0 with
       |none=>exact absurd d.1 (by simp)
       |some b=>have W:b=i:=ah d.1;subst W;have:=hc.1.2;simpa using this
     ·exact .inr ⟨nE hn,(Og e).2⟩
    obtain⟨k,_,hk⟩:=aMq G A f B F r ho h;refine lD hc.1.1 (by simp) (λi' u=> ?_);simp at u;subst u;refine wpOp_step hg λK' Z=>hk K' _ λs' a' w' β' q1 q2 q3 q4=>Z _ _ ?_;have q1':=q1.mono (J o j);have cont:=λhh=>bQ5 G A f B F hs l k s' K z J q2 (λs2 N O β2 R T V=>I s2 N O β2 (q1'.trans R) T V) _ m hc.2 hh a' w' β' q3;rcases p with⟨y,c2⟩|⟨y,c2⟩
    ·have hx:=q4 y;exact⟨λ_=>hx,wF (λx hx'=>Ext.trans hx hx') _ _ _ _ (cont (.inl c2))⟩
    ·exact⟨λhn=>(by rw[y] at hn;cases hn),rF _ _ _ _ y (cont (.inr ⟨y,c2⟩))⟩
def bQ6 (G:Good P g Y TI FZ)(p:sJ P IL)(j:aQd P Y g EV)(q:E.fr=[])(t:E.prm=[]){s:St U}{a:Act}{w:World}{β:List Tr}{al:List Oper}{a0:Option Nat}{Q:Exit->Act->World->Prop}{i:Nat}{o:Oper}{n:Nat}{c:Array Bool}{wS:World}(ho:al[i]? =some o){pre:Bool}(u:a0Y a0 i c=true)(hp:iF a0 c=pre)(f:(pre&& !Eh a0 i)=false)
  {b:An} {K:St U->Option α} {z:α} (h:aUb al o (λs=>inl TI IL EV b o s K) s K=some z) (r:bL Y.C E s a w β)
  (hk:∀s' d w' β',Ag (Wr al o) s s'->K s'=some z->bL Y.C E s' d w' β'->fH P .any al.toArray a0 (NoPanic Q) (Ext w') n (c.setIfInBounds i true) d w'):
  wpOp P al.toArray (NoPanic Q) i (λd w'=>(iF a0 (c.setIfInBounds i true)=true->Ext wS w')/\fH P .any al.toArray a0 (NoPanic Q) (Ext wS) n (c.setIfInBounds i true) d w') a w:=by
 have y:iF a0 (c.setIfInBounds i true)=false:=(Ub u hp).trans f;have hg:al.toArray[i]? =some o:=by simp[*]
 refine wpOp_step hg λA B=> ?_;have fin:∀s' d w' β',Ag (Wr al o) s s'->K s'=some z->bL Y.C E s' d w' β'->A d w':=(by grind[q1,q2,q3,rF]);obtain⟨s1,m,h1,h2⟩:=Oa r h;rcases h2 with⟨k,h2⟩|⟨k,h2⟩
 ·rw[cW k];exact bAk G p j q t m (al:=al) h2 (λs' d w' β' q1 q2 q3=>fin s' d w' β' (h1.trans q1) q2 q3)
 ·rw[dm (by rw[k];simp)];exact fin _ _ w β (h1.put (λn e=> .inl e)) h2 (m.put (x:= .l .und) (v:=undef) (λ_=>rfl))
def bMt (G:Good P g Y TI FZ)(I:sJ P IL)(d:aQd P Y g EV)(J:E.fr=[])(L:E.prm=[]){al:List Oper}{a0:Option Nat}(hs:Region.noSelect al.toArray=true){Q:Exit->Act->World->Prop}{D:Nat->Prop}:∀(l:List (Nat×Bool)) (an:An) (pre st:Bool) (s:St U) (K:St U->Option α) (z:α),(∀i∈l,∀o,al[i.1]? =some o->∀n,Wr al o n->D n)->ilY Y TI FZ IL EV al a0 l an pre st s K=some z->
  (∀s' a w β,Ag D s s'->K s'=some z->bL Y.C E s' a w β->Q .normal a w)->∀c,Dn .any al.toArray c->aFj al.toArray a0 l c=true->iF a0 c=pre->∀a w β wS,Lk E none st pre wS w->bL Y.C E s a w β->fH P .any al.toArray a0 (NoPanic Q) (Ext wS) l.length c a w
 |[],an,pre,st,s,K,z,_,h,x,c,_,hc,_,a,w,β,wS,_,r=>wG (P:=P) (a0:=a0) (S:=Ext wS) (Q:=NoPanic Q) (by simpa[aFj] using hc) (x s a w β (Ag.refl s) h r) 0
 |(i,fl)::l,an,pre,st,s,K,z,R,h,x,c,e,hc,hp,a,w,β,wS,hl,r=>by
  unfold ilY at h;rw[aZ] at h;cases ho:al[i]? with
  |none=>rw[ho] at h;cases h
  |some o=>
   rw[ho] at h;simp only at h;have t:=R (i,fl) (by simp) o ho;have u:∀j∈l,∀o,al[j.1]? =some o->∀n,Wr al o n->D n:=λj hj=>R j (by simp[hj]);cases fl with
   |true=>
    simp only[ac] at h;simp only[aFj,aa] at hc;obtain⟨hr,M⟩:=vF hc.1;exact stepT G hs ho e hc.1 h hl.st (λhn=>hl.pre (hp.symm.trans hn)) r λv s' h1 h2 N=>
     bMt G I d J L hs l an pre st s' K z u h2 (λs2 y A β2 B=>x s2 y A β2 ((h1.mono t).trans B)) _ (e.set hr) hc.2 ((zD M).trans hp) _ w β wS hl N
   |false=>
    simp only[aFj,aa,de] at hc;simp only[ae] at h;have hr:i∈Region.ready .any al.toArray c:=by rw[hc.1];simp
    refine lD hc.1 (by simp) λp F=> ?_;simp at F;subst F;have plain:∀f,grd Y TI FZ al o s (λs'=>bif !(pre&& !Eh a0 p)||(Nat.ble (zF FZ o.op) 1||unO none s'.m.o) then ilY Y TI FZ IL EV al a0 l f (pre&& !Eh a0 p) (st&&Jj (none:Option (Nat×Nat))) s' K else none)=some z->wpOp P al.toArray (NoPanic Q) p (λO w'=>(iF a0 (c.setIfInBounds p true)=true->Ext wS w')/\fH P .any al.toArray a0 (NoPanic Q) (Ext wS) l.length (c.setIfInBounds p true) O w') a w:=λf h=>
     aXj G ho hc.2.1 hp (kd:=none) (K:=λs'=>ilY Y TI FZ IL EV al a0 l f (pre&& !Eh a0 p) (st&&Jj (none:Option (Nat×Nat))) s' K) h hl r λv s' w' β' wS' h1 h2 N T=>
      bMt G I d J L hs l f _ _ s' K z u h2 (λs2 y A β2 B=>x s2 y A β2 ((h1.mono t).trans B)) _ (e.set hr) hc.2.2 (Ub hc.2.1 hp) _ w' β' wS' T N
    cases an with
    |il k b q=>
     simp only at h;cases hb:Nat.beq k p with
     |false=>rw[hb] at h;exact plain _ h
     |true=>
      rw[hb] at h;simp only[ac] at h;cases hq:(Nat.beq (zF FZ o.op) 2&& !(pre&& !Eh a0 p)) with
      |false=>rw[hq] at h;cases h
      |true=>
       rw[hq] at h;simp only[ac] at h;simp only[aa,bo] at hq;exact bQ6 G I d J L ho hc.2.1 hp hq.2 h r λs' O w' β' q1 q2 q3=>
        bMt G I d J L hs l q false st s' K z u q2 (λs2 y A β2 B=>x s2 y A β2 ((q1.mono t).trans B)) _ (e.set hr) hc.2.2 ((Ub hc.2.1 hp).trans hq.2) O w' β' w' ⟨λ_ _ h=>(by cases h),λ_=>rfl,λ_=>rfl,λ_=>Ext.refl _⟩ q3
    |_=>exact plain _ h
def bC1 (G:Good P g Y TI FZ)(d:sJ P IL)(c:aQd P Y g EV):∀an:An,bMr P Y g (bHx TI IL EV an)
 | .il k b r=>λE e m al i o f s a w β K z hs hr h p q hk=>by
  simp only[bHx] at hs;cases hb:Nat.beq k i with
  |true=>rw[hb] at hs;have hs:=aj hs;subst hs;exact bAk G d c e m hr (al:=al) h hk
  |false=>rw[hb] at hs;exact bC1 G d c r E e m al i o f s a w β K z hs hr h p q hk
 | .n=>λ_ _ _ _ _ _ _ _ _ _ _ _ _ hs=>by cases hs
 | .s _ _=>λ_ _ _ _ _ _ _ _ _ _ _ _ _ hs=>by cases hs
 | .j _ _=>λ_ _ _ _ _ _ _ _ _ _ _ _ _ hs=>by cases hs
 | .jx _ _=>λ_ _ _ _ _ _ _ _ _ _ _ _ _ hs=>by cases hs
 | .l _ _ _=>λ_ _ _ _ _ _ _ _ _ _ _ _ _ hs=>by cases hs
 | .r _ _=>λ_ _ _ _ _ _ _ _ _ _ _ _ _ hs=>by cases hs
 | .z _=>λ_ _ _ _ _ _ _ _ _ _ _ _ _ hs=>by cases hs
 | .y _ _ _ _=>λ_ _ _ _ _ _ _ _ _ _ _ _ _ hs=>by cases hs
 | .w _ _=>λ_ _ _ _ _ _ _ _ _ _ _ _ _ hs=>by cases hs
 | .v _ _=>λ_ _ _ _ _ _ _ _ _ _ _ _ _ hs=>by cases hs
 | .u _ _ _ _=>λ_ _ _ _ _ _ _ _ _ _ _ _ _ hs=>by cases hs
 | .rj _ _ _=>λ_ _ _ _ _ _ _ _ _ _ _ _ _ hs=>by cases hs
 | .pl _=>λ_ _ _ _ _ _ _ _ _ _ _ _ _ hs=>by cases hs
def bMu (x:E.fr=[])(y:E.prm=[])(G:Good P g Y TI FZ)(hm:P.follows .mixedOrders=true){SP:Nat->Oper->Option (St U->(St U->Option α)->Option α)}(j:bMr P Y g SP){os:Array Oper}{a0:Option Nat}{id f:Nat}{bs fs:List Nat}{ord:List (Nat×Bool)}{Q:Exit->Act->World->Prop}{D:Nat->Prop}{s:St U}{z:α}{N:St U->Option α}
  (v:∀o∈os.toList,∀n,Wr os.toList o n->D n) (hs:Region.noSelect os=true) (hc:Tt os a0 f fs [] ord (Array.replicate os.size false)=true) (l:bxs bs s.m.o=true) (h:xG Y TI FZ os.toList SP a0 bs none ord fs true false (wpl os.toList s fs) N=some z)
  (A:∀s' a w β,Ag D s s'->N s'=some z->bL Y.C E s' a w β->Q .normal a w) {a:Act} {w:World} {β:List Tr} (r:bL Y.C E s a w β):(Code.region id os true).wp P Q a w:=by
 have c:os.toList.toArray=os:=by simp
 have d:bL Y.C E (wpl os.toList s fs) a w.drew β:=(aKz r).ext (Ext.drew w);have p:Ag D s (wpl os.toList s fs):=aU0 v;let Yb:Nat->Prop:=λk=>∃b∈bs,∃t,β[b]? =some t/\t.b=some k;obtain⟨ps,B,F⟩:=aMm d.hp bs (by rw[aXo];exact l);have I:bL Y.C (E.pinned ps) (wpl os.toList s fs) a w.drew β:=d.pins B;have J:bL Y.C ((E.pinned ps).ahs (S9 []) (by simp[S9])) (wpl os.toList s fs) a w.drew β:=I.aDK;refine wp_region_noPanic (wp_region_any hm (oK (a0:=a0) (S:=Bel Yb w.drew) _ _ _ _ ?_));have:=aMp (a0:=a0) (E:=E.pinned ps) G (al:=os.toList) (Q:=Q) (D:=D) (by rw[c];exact hs) y (.inr ⟨x,j⟩) (bs:=bs) (Yb:=Yb) (wS:=w.drew) (λb hb=>by
  obtain⟨t,k,q1,q2,q3⟩:=F b hb;exact⟨k,⟨b,hb,t,q1,q2⟩,bp.2 (.inl q3)⟩) (kd:=none) (λn k h=>by cases h) f fs [] ord fs true false (wpl os.toList s fs) N z (λi _ o ho=>v o (aE ho)) h (λs' a w β K L M=>A s' a w β (p.trans K) L M.aDC) (λ_ h=>h) (by simp) (by simp) (by simp) (Array.replicate os.size false) (by rw[c];exact Dn0) (by rw[c];exact hc) a w.drew β (by simp[S9]) (λh=>by cases h) (λ_=>Bel.refl _) (λ_=>⟨rfl,λk ⟨b,hb,t,ht,hk⟩=>bMb ht (Tr.root hk),λb e t k h1 h2 q u=>⟨λhb=>⟨b,hb,t,q,u⟩,λhb=>⟨λ⟨b',k1,t',k2,k3⟩=>d.hp.dist b b' t t' k (λe=>hb (e▸k1)) q k2 (Tr.root u) (Tr.root k3),(d.hp.new b t k q (Tr.root u)).2⟩⟩,rfl⟩) (by simp) J
 rw[c,show cntF (Array.replicate os.size false)=os.size by simp[cntF]] at this;exact this
def Good.pl (G:Good P g Y TI FZ):Good P g Y TI (plT FZ):=⟨G.ti,G.lay,λf S h=>by
 unfold plT at h;obtain⟨⟨f',b⟩,hm,e⟩:=cr.1 h;injection e with c d;subst c;have h0:=G.fs f' b hm;obtain⟨ar,rs,fr,wt,m⟩:=b;subst d;cases fr with
 |false=>exact h0
 |true=>
  cases wt with
  |true=>exact h0
  |false=>exact bIn h0 rfl rfl⟩
def T9 (G:Good P g Y TI FZ)(hm:P.follows .mixedOrders=true)(v:sJ P IL):bCy P Y TI FZ IL g:=by
 intro E j p α EV e id os d an s N X R z D t M h;cases an with
 |il k b q=>
  intro Q x hX O a w β r;have c:os.toList.toArray=os:=by simp
  by_cases B:∃kb f a0 ord,ilo q= .y kb f a0 ord
  ·obtain⟨kb,f,a0,ord,B⟩:=B;unfold aZ3 at h;simp only[B] at h;replace h:(bif d&&aUf os none a0 ord then ilY Y TI FZ IL EV os.toList a0 ord (.il k b q) true true s N else none)=some z:=h;cases d with
   |false=>cases h
   |true=>
    cases hc:aUf os none a0 ord with
    |false=>rw[hc] at h;cases h
    |true=>rw[hc] at h;simp only[dl,ac] at h;simp only[aUf,aa,dK] at hc;obtain⟨hs,hlen,J⟩:=hc;have hlen:=ah hlen;have F:bL Y.C E s a w.drew β:=r.ext (Ext.drew w);refine wp_region_noPanic (wp_region_any hm (oK (a0:=a0) (S:=Ext w.drew) _ _ _ _ ?_));have:=bMt G v e j p (a0:=a0) (al:=os.toList) (by rw[c];exact hs) (Q:=Q) (D:=D) ord _ true true s N z (λi _ o ho=>t o (aE ho)) h x (Array.replicate os.size false) (by rw[c];exact Dn0) (by rw[c];exact J) bI6 a w.drew β w.drew ⟨λ_ _ h=>(by cases h),λ_=>rfl,λ_=>rfl,λ_=>Ext.refl _⟩ F;rw[c,hlen] at this;exact this
  by_cases I:∃a0 bs fs ord,ilo q= .u a0 bs fs ord
  ·obtain⟨a0,bs,fs,ord,I⟩:=I;unfold aZ3 at h;simp only[I] at h;replace h:(bif d&&(Region.noSelect os&&(Tt os a0 (Nat.succ (Nat.add (len ord) (len ord))) fs [] ord (Array.replicate os.size false)&&bxs bs s.m.o)) then xG Y TI FZ os.toList (bHx TI IL EV (.il k b q)) a0 bs none ord fs true false (wpl os.toList s fs) N else none)=some z:=h;cases d with
   |false=>cases h
   |true=>
    cases hc:(Region.noSelect os&&(Tt os a0 (Nat.succ (Nat.add (len ord) (len ord))) fs [] ord (Array.replicate os.size false)&&bxs bs s.m.o)) with
    |false=>rw[hc] at h;cases h
    |true=>rw[hc] at h;simp only[aa] at hc;exact bMu j p G hm (bC1 G v e _) t hc.1 hc.2.1 hc.2.2 h x r
  replace h:(match(bif d then aJa FZ os.toList os (ilo q) else some (rng (len os.toList) 0)) with
   |some l=>ilr Y TI FZ IL EV os.toList l (.il k b q) s N
   |none=>none)=some z:=by
   unfold aZ3 at h;simp only at h;split at h
   ·rename_i kb f a0 ord hq;exact absurd ⟨kb,f,a0,ord,hq⟩ B
   ·rename_i a0 bs fs ord hq;exact absurd ⟨a0,bs,fs,ord,hq⟩ I
   ·exact h
  cases d with
  |false=>simp only[ae,dK] at h;refine wp_region_list ?_;have:=bS6 G v e j p (Q:=Q) (D:=D) os.toList.length 0 _ s N z (by omega) t h x a w β r;rw[im,c] at this;exact this
  |true=>
   simp only[ac] at h;cases ho:aJa FZ os.toList os (ilo q) with
   |none=>rw[ho] at h;cases h
   |some l=>
    rw[ho] at h;simp only at h;have F:bL Y.C E s a w.drew β:=r.ext (Ext.drew w);rcases aSp ho with⟨hs,hlen,hc⟩|⟨a0,ord,hs,hlen,hc,K,L⟩
    ·refine wp_region_noPanic (wp_region_any hm ?_);have:=bS7 G v e j p (Q:=NoPanic Q) (D:=D) l _ s N z t h x (Array.replicate os.size false) (by rw[c];exact hc) a w.drew β F;rw[c,hlen] at this;exact this
    ·refine wp_region_noPanic (wp_region_any hm (oK (a0:=a0) (S:=Ext w.drew) _ _ _ _ ?_));subst L;have:=bQ5 G v e j p (a0:=a0) (by rw[c];exact hs) (Q:=Q) (D:=D) ord _ s N z t h x (Array.replicate os.size false) (by rw[c];exact Dn0) (by rw[c];exact hc) (.inl K) a w.drew β F;rw[c,hlen] at this;exact this
 |pl b=>
  have A:(∃a0 ord,rgn Y TI (plT FZ) os.toList os d (.r a0 ord) s N=some z)\/rgn Y TI (plT FZ) os.toList os d .n s N=some z:=by
   unfold aZ3 at h;cases b with
   |r a0 ord=>exact .inl ⟨a0,ord,h⟩
   |_=>exact .inr h
  rcases A with⟨a0,ord,A⟩|A
  ·exact aFu j p G.pl hm id os d (.r a0 ord) s N X R z D t trivial A
  ·exact aFu j p G.pl hm id os d .n s N X R z D t trivial A
 |_=>exact aFu j p G hm id os d _ s N X R z D t M h
end
end Go.EV
namespace Go.EV
open Go.RowKit Go.VK
variable {U:Uni} {Y:Lay U} {TI:List (Nat×TInfo)} {FZ:List (Nat×Sum U)} {IL:Il} {P:Program} {g:GI} {E:Env U g}
section
variable {s:St U} {a:Act} {w w0:World} {β:List Tr}
def bFc (e:sF P TI=true)(r:bL Y.C E s a w β){f:Func}{l:List ResultVar}(j:f.results=l.toArray){ks:List Kd}{z:sD U ks}(h:fin Y TI false ks l s=some z):∃v,(results f a.tmps).run P w= .ok v w/\Rd w E.X0 [] v (oL ((dQ Y ks z).map zI)):=by
 unfold fin at h;cases h1:M0 TI s l with
 |none=>rw[h1] at h;cases h
 |some xs=>
  rw[h1] at h;obtain⟨vs,k1,k2,k3⟩:=Ak e r h1;have hrd:=Nw r (Z:=E.X0) (λb hb=> .inl hb) ks (z:=z) h k2 k3 (.inr (aKw r));refine⟨_,Et j k1,?_⟩;generalize(dQ Y ks z).map zI=Us at hrd;obtain⟨h2,d⟩:=hrd;clear k1 k2 k3 h h1
  match Us,vs,h2,d with
  |[U],[v],_,d=>exact d 0 v U rfl rfl
  |[],[],_,_=>exact .tup rfl (by simp)
  |U::U'::Us,v::v'::vs,h2,d=>rw[dif_neg (by simp)];exact .tup (by simpa using h2) (λi v c k m=>d i v c (by simpa using k) m)
def aSr {w0:World}{X0:Nat->Prop}(q:g.G w0)(p:∀b,X0 b->b<w0.heap.size){ks:List Kd}{z:sD U ks}{n:Nat}{vs:List Value}(e:RdL w0 X0 vs ((dQ Y ks z).map zI))(hn:(dQ Y ks z).length<=n)(E:Env U g)(f:E.X0=X0)(h:∀b,¬E.Y0 b)(i:E.w0=w0)(j:E.pin=[])(k:E.prm=[])(l:E.fr=[]):
  bL Y.C E (ini Y n ks z) {tmps:=vs.toArray++Array.replicate (n-vs.toArray.size) undef,defers:=[]} w0 []:=by
 have hlen:vs.length=(dQ Y ks z).length:=by rw[e.1,bl]
 refine⟨⟨by rw[<-i];exact Bel.refl _,rfl,by simp[ini],by simp[ini],by simp,by simp,by simp,by simp,by simp[j],by simp[k],by simp[l]⟩,rfl,?_,λm x hx=> ?_⟩
 ·simp only[ini,dK,ax,bl,fj,jf,jb,Array.size_replicate,hlen]
 ·simp only[ini,dK,bl] at hx;by_cases o:m<(dQ Y ks z).length
  ·rw[ao (by simpa using o),bn] at hx;cases hc:(dQ Y ks z)[m]? with
   |none=>rw[hc] at hx;cases hx
   |some c=>
    rw[hc] at hx;have:=aj hx;subst this;have d:m<vs.length:=by omega
    have hv:(vs.toArray++Array.replicate (n-vs.toArray.size) undef).getD m undef=vs[m]:=by rw[cA,fo (by simpa using d)];simp[ab d]
    rw[hv];refine vD (aCe (Jm ks z c (aE hc)) (e.2 m _ _ (ab d) (by rw[bn,hc];rfl)) (.inl λb hb=> ?_));rcases hb with hb|hb|⟨t,ht,_⟩
    ·rw[f] at hb;exact hb
    ·exact absurd hb (h b)
    ·simp at ht
  ·rw[az (by rw[bl];omega)] at hx;have:=aE hx;simp at this;rw[this.2];trivial
def bI7 (G:Good P g Y TI FZ)(hm:P.follows .mixedOrders=true)(o:sJ P IL){f:FuncId}{d:Func}{j:Code}{n:Nat}{l:List ResultVar}{ar rs:List Kd}{an:An}{z:sD U ar}{q:sD U rs}(p:P.funcs[f]? =some d)(hb:d.body=some j)(hn:d.ntmps=n)(hl:d.results=l.toArray)
  (t:∀args w,(callFunc f args).run P w= .ok (.enter f args) w) (hlen:(dQ Y ar z).length<=n) (h:evF Y TI FZ IL an j n ar rs false l z=some q):VK.Spec P g f ((dQ Y ar z).map zI) (λv=>v=oL ((dQ Y rs q).map zI)):=by
 refine⟨t,λw X0 vs m e k=>calls_of_wp p hb ?_⟩;let E:Env U g:=⟨X0,λ_=>False,w,[],[],λb h=> .inl (e b h),λ_ h=>h.elim,λ_ _ h=>h,λw' u=>g.st w w' m (u.ext λ_ h=>h),[]⟩;have x:=aSr (Y:=Y) m e k hlen E rfl (λ_ h=>h) rfl rfl rfl rfl;have done:∀s' c w' β',fin Y TI false rs l s'=some q->bL Y.C E s' c w' β'->c.defers=[]/\∃v,(results d c.tmps).run P w'= .ok v w'/\(∃v' r,Ending.returned v= .returned v'/\r=oL ((dQ Y rs q).map zI)/\Rd w' X0 [] v' r/\Ext w w'):=λs' c w' β' hq r=>by
  obtain⟨v,k1,k2⟩:=bFc G.ti r hl hq;exact⟨r.defers,v,k1,v,_,rfl,rfl,k2,r.hp.ext.ext λ_ h=>h⟩
 rw[hn];exact aMk (T9 G hm o) 1000 E rfl rfl an j _ _ _ _ _ q (λ_=>True) (WC.true j) (AW.true an) h _ (λs' c w' β' _ hq r=>done s' c w' β' hq r) (λi s' c w' β' _ hq r=>by cases hq) (λs' c w' β' _ hq r=>done s' c w' β' hq r) _ _ _ x
end
end Go.EV
namespace Go.EV
open Go.RowKit Go.VK
variable {U:Uni} {Y:Lay U} {TI:List (Nat×TInfo)} {FZ:List (Nat×Sum U)} {IL:Il} {P:Program} {g:GI} {E:Env U g}
section
variable {s:St U} {a:Act} {w w0:World} {β:List Tr} {C:Cod U}
def bFd {m:Mm U}{x:Lf U}{xs:List (Lf U)}{l:List Nat}(h:aFk m (x::xs)=some l):∃l1 l2,l=l1++l2/\aFk m [x]=some l1/\aFk m xs=some l2:=by
 cases x with
 |own i r=>
  simp only[aFk] at h ⊢;cases ho:nth m.o i with
  |none=>rw[ho] at h;cases h
  |some e=>
   obtain⟨ob,rv,cv⟩:=e;cases ob with
   |tree τ d b=>
    rw[ho] at h;simp only at h;cases hb:(Nat.beq rv r&&d) with
    |false=>rw[hb] at h;cases h
    |true=>
     rw[hb] at h;simp only[ac] at h;cases hx:aFk m xs with
     |none=>rw[hx] at h;cases h
     |some l2=>rw[hx] at h;have:=aj h;subst this;exact⟨[i],l2,rfl,by simp[hb],rfl⟩
   |_=>rw[ho] at h;cases h
 |sl=>cases h
 |bor=>cases h
 |inn=>cases h
 |_=>exact⟨[],l,rfl,rfl,h⟩
def aXp (H:Hp C E s.m β w){kd:Kd}{x y:Lf U}{l:List Nat}{v:Value}(h:aFk s.m [x]=some l)(hr:rdn s.m kd x=some y)(hm:x.mean C w (E.X β) β s.m v)(hK:∀τ,kd= .sl τ->0<U.K τ):Ow C w (λ_=>False) true v y (lF β l):=by
 have j:lF β []=[]:=rfl;have flat:pX x=true->tT s.m x=some y->l=[]->(∀τ f,y≠ .sl τ f)->Ow C w (λ_=>False) true v y (lF β l):=λu hr hl o=>by
  obtain⟨k1,k2⟩:=Jk H hm hr (Z:=λ_=>False) (λ_ h=>h.elim) (.inl u);subst hl;rw[j];cases y with
  |int k n=>obtain⟨rfl,h1,h2⟩:=k2.aAR;exact .int h1 h2
  |bool b=>obtain rfl:=k2.aAX;exact .bool
  |str z=>obtain⟨rfl,h1⟩:=k2.aAV;exact .str h1
  |sl τ f=>exact absurd rfl (o τ f)
  |_=>cases k1
 cases x with
 |own i r=>
  obtain⟨_,e,t,h2,q,A⟩:=hm;obtain⟨ob,rv,cv⟩:=e;simp only[aFk,aZ,h2] at h;replace hr:tT s.m (.own i r)=some y:=hr;simp only[tT,aZ,h2] at hr;cases ob with
  |tree τ d f=>
   simp only at h hr;cases hb:(Nat.beq rv r&&d) with
   |false=>rw[hb] at h;cases h
   |true=>
    rw[hb] at h;have:=aj h;subst this;simp only[aa] at hb;rw[hb.1] at hr;have:=aj hr;subst this;have hd:d=true:=hb.2;subst hd;rw[A (ah hb.1)];have ho:=(Hp.tree H q h2 rfl).conv (X':=λ_=>False) (ak _) (λ_ _ h=>h.elim) (λ_ _ _ h=>h) (λ_ _=>rfl);have p:lF β [i]=t.all:=by simp[lF,q]
    rw[p];exact ho
  |_=>cases h
 |nil=>
  obtain rfl:=hm;have:=aj h;subst this;cases kd with
  |sl τ=>have:=aj (show some (Lf.sl τ [])=some y from hr);subst this;exact .sl aFn (hK τ rfl) (World.ownsRow_nil w 0 τ (U.K τ)) .n
  |_=>cases hr
 |int k n=>have e:=aj (show some (Lf.int k n)=some y from hr);exact flat rfl hr (aj h).symm (λ_ _ e'=>by rw[<-e] at e';cases e')
 |bool b=>have e:=aj (show some (Lf.bool b)=some y from hr);exact flat rfl hr (aj h).symm (λ_ _ e'=>by rw[<-e] at e';cases e')
 |str b=>have e:=aj (show some (Lf.str b)=some y from hr);exact flat rfl hr (aj h).symm (λ_ _ e'=>by rw[<-e] at e';cases e')
 |nat c=>refine flat rfl hr (aj h).symm (λτ f e'=> ?_);subst e';replace hr:tT s.m (.nat c)=some (.sl τ f):=hr;simp only[tT] at hr;split at hr<;>cases hr
 |lt c n=>refine flat rfl hr (aj h).symm (λτ f e'=> ?_);subst e';replace hr:tT s.m (.lt c n)=some (.sl τ f):=hr;simp only[tT] at hr;split at hr<;>cases hr
 |sl=>cases h
 |bor=>cases h
 |inn=>cases h
 |_=>cases hr
def aMr (H:Hp C E s.m β w):∀(ks:List Kd) {xs ys:List (Lf U)} {l:List Nat} {vs:List Value},rds s.m ks xs=some ys->aFk s.m xs=some l->Ms C w (E.X β) β s.m vs xs->(∀kd∈ks,∀τ,kd= .sl τ->0<U.K τ)->OwL C w (λ_=>False) true vs ys (lF β l)
 |[],[],ys,l,vs,h,hl,b,_=>by
  have:=aj h;subst this;have:=aj hl;subst this;have:vs=[]:=cm b.1;subst this;exact .n
 |[],_::_,_,_,_,h,_,_,_=>by cases h
 |_::_,[],_,_,_,h,_,_,_=>by cases h
 |kd::ks,x::xs,ys,l,vs,h,hl,b,hK=>by
  obtain⟨y,e,h1,h2,rfl⟩:=aXc h;obtain⟨l1,l2,rfl,f,j⟩:=bFd hl;cases vs with
  |nil=>have:=b.1;simp at this
  |cons v vs=>rw[aCc];exact .c (aXp H f h1 (b.2 0 v x rfl rfl) (hK kd (by simp))) (aMr H ks h2 j ⟨by have:=b.1;simpa using this,λi u c p q=>b.2 (i+1) u c (by simpa using p) (by simpa using q)⟩ (λd hk=>hK d (by simp[hk])))
def bC2 (hY:LayOk Y)(H:Hp Y.C E s.m β w){kd:Kd}{x:Sv U}{z:kd.ty U}{v:Value}{cs:List (Lf U)}{l:List Nat}(hm:x.mean Y.C w (E.X β) β s.m v)(hp:parts x=some cs)(hl:aFk s.m cs=some l)(h:C9 Y s.m kd x=some z)(hK:∀τ,kd= .sl τ->0<U.K τ):OwP Y.C w v (lF β l) (aB1 Y kd z):=by
 have leaf:∀{y:Lf U},x= .l y->(∀T,kd≠ .st T)->(match rdn s.m kd y with|some q=>aLq kd q|none=>none)=some z->OwP Y.C w v (lF β l) (aB1 Y kd z):=λ{y} hx c h0=>by
  subst hx;have:=aj hp;subst this;cases hr:rdn s.m kd y with
  |none=>rw[hr] at h0;cases h0
  |some q=>
   rw[hr] at h0;have hq:=d9 (show aLq kd q=some z from h0);have ho:=aXp H hl hr hm hK;rw[hq] at ho;cases kd with
   |st T=>exact absurd rfl (c T)
   |_=>exact⟨_,rfl,ho⟩
 cases kd with
 |st T=>
  cases x with
  |a cs'=>
   have:=aj hp;subst this;have b:(match rds s.m (Y.kd T) cs' with|some ds=>Y.C.bld T ds|none=>none)=some z:=h;cases hr:rds s.m (Y.kd T) cs' with
   |none=>rw[hr] at b;cases b
   |some ds=>rw[hr] at b;obtain⟨vs,rfl,d⟩:=hm;have ho:=aMr H _ hr hl d (λkd hk τ e=>hY.pos T τ (e▸hk));rw[Y.C.hmk T ds z b] at ho;exact⟨vs,rfl,ho⟩
  |l y=>
   have b:(match rdn s.m (Kd.st T) y with|some q=>aLq (Kd.st T) q|none=>none)=some z:=h;cases hr:rdn s.m (Kd.st T) y with
   |none=>rw[hr] at b;cases b
   |some q=>rw[hr] at b;cases q<;>cases b
  |t y=>cases h
 |int k=>cases x with
  |l y=>exact leaf rfl (by simp) h
  |_=>cases h
 |bool=>cases x with
  |l y=>exact leaf rfl (by simp) h
  |_=>cases h
 |str=>cases x with
  |l y=>exact leaf rfl (by simp) h
  |_=>cases h
 |sl τ=>cases x with
  |l y=>exact leaf rfl (by simp) h
  |_=>cases h
def bI8 (hY:LayOk Y)(H:Hp Y.C E s.m β w)(ks:List Kd):∀{xs:List (Sv U)} {z:sD U ks} {vs:List Value} {l:List Nat},nW Y s.m ks xs=some z->bEm s.m xs=some l->vs.length=xs.length->(∀(i:Nat) (v:Value) (x:Sv U),vs[i]? =some v->xs[i]? =some x->x.mean Y.C w (E.X β) β s.m v)->(∀kd∈ks,∀τ,kd= .sl τ->0<U.K τ)->OwPs Y.C w vs (dQ Y ks z) (lF β l):=by
 induction ks with
 |nil=>
  intro xs z vs l h hl hlen hm hK;cases xs with
  |nil=>have:=aj hl;subst this;have:vs=[]:=cm hlen;subst this;exact .n
  |cons=>cases h
 |cons k ks r=>
  intro xs z vs l h hl hlen hm hK;cases xs with
  |nil=>cases ks<;>cases h
  |cons x xs=>
   cases vs with
   |nil=>simp at hlen
   |cons v vs=>
    simp only[bEm] at hl;cases hp:parts x with
    |none=>rw[hp] at hl;cases hl
    |some cs=>
     rw[hp] at hl;simp only at hl;cases h1:aFk s.m cs with
     |none=>rw[h1] at hl;cases hl
     |some l1=>
      cases h2:bEm s.m xs with
      |none=>rw[h1,h2] at hl;cases hl
      |some l2=>
       rw[h1,h2] at hl;have:=aj hl;subst this;rw[aCc];cases ks with
       |nil=>
        cases xs with
        |cons t xs=>cases h
        |nil=>have f:vs=[]:=cm (by simpa using hlen);subst f;have:=aj h2;subst this;exact .c (bC2 hY H (hm 0 v x rfl rfl) hp h1 (show C9 Y s.m k x=some z from h) (hK k (by simp))) .n
       |cons j d=>
        replace h:(match C9 Y s.m k x with|some a=>(match nW Y s.m (j::d) xs with|some b=>some (a,b)|none=>none)|none=>none)=some (show k.ty U×sD U (j::d) from z):=h;cases e:C9 Y s.m k x with
        |none=>rw[e] at h;cases h
        |some y=>
         cases o:nW Y s.m (j::d) xs with
         |none=>rw[e,o] at h;cases h
         |some z2=>rw[e,o] at h;have:=aj h;subst this;exact .c (bC2 hY H (hm 0 v x rfl rfl) hp h1 e (hK k (by simp))) (r o h2 (by simpa using hlen) (λi u c p q=>hm (i+1) u c (by simpa using p) (by simpa using q)) (λkd hk=>hK kd (by simp[hk])))
def bFe (G:Good P g Y TI FZ)(r:bL Y.C E s a w β)(d:∀b,¬E.Y0 b){o:Func}{l:List ResultVar}(p:o.results=l.toArray){ks:List Kd}{z:sD U ks}(h:fin Y TI true ks l s=some z):∃v B,(results o a.tmps).run P w= .ok v w/\B.Nodup/\(∀b∈B,E.w0.heap.size<=b)/\OwR Y.C w v (dQ Y ks z) B:=by
 unfold fin at h;cases h1:M0 TI s l with
 |none=>rw[h1] at h;cases h
 |some xs=>
  rw[h1] at h;simp only[ac] at h;cases h2:bEm s.m xs with
  |none=>rw[h2] at h;cases h
  |some ids=>
   rw[h2] at h;simp only at h;cases hb:(dist ids&&aLw (U:=U) ks) with
   |false=>rw[hb] at h;cases h
   |true=>
    rw[hb] at h;simp only[ac] at h;simp only[aa] at hb;obtain⟨vs,k1,k2,k3⟩:=Ak G.ti r h1;have ho:=bI8 G.lay r.hp ks h h2 k2 k3 (R7 hb.2);refine⟨_,lF β ids,Et p k1,aUq r.hp (Ah.1 hb.1),λb e=> ?_,?_⟩
    ·obtain⟨j,_,u,q,f⟩:=zH e;exact(r.hp.new j u b q f).1.resolve_right (d b)
    ·generalize dQ Y ks z=cps at ho ⊢;generalize lF β ids=y at ho ⊢;clear h k1 k3 h2 h1 k2;cases ho with
     |n=>exact⟨[],rfl, .n⟩
     | @c v x B B' vs t hv hr=>
      cases hr with
      |n=>rw[eo];exact hv
      | @c A x2 F I vs2 xs2 i k=>rw[dif_neg (by simp)];exact⟨_,rfl, .c hv (.c i k)⟩
end
def bFf (G:Good P g Y TI FZ)(hm:P.follows .mixedOrders=true)(o:sJ P IL){f:FuncId}{d:Func}{j:Code}{n:Nat}{l:List ResultVar}{ar rs:List Kd}{an:An}{z:sD U ar}{q:sD U rs}(p:P.funcs[f]? =some d)(hb:d.body=some j)(hn:d.ntmps=n)(hl:d.results=l.toArray)
  (t:∀args w,(callFunc f args).run P w= .ok (.enter f args) w) (hlen:(dQ Y ar z).length<=n) (h:evF Y TI FZ IL an j n ar rs true l z=some q):bOr P g Y.C f ((dQ Y ar z).map zI) (dQ Y rs q):=by
 refine⟨t,λw X0 vs m e k=>calls_of_wp p hb ?_⟩;let E:Env U g:=⟨X0,λ_=>False,w,[],[],λb h=> .inl (e b h),λ_ h=>h.elim,λ_ _ h=>h,λw' u=>g.st w w' m (u.ext λ_ h=>h),[]⟩;have x:=aSr (Y:=Y) m e k hlen E rfl (λ_ h=>h) rfl rfl rfl rfl;have done:∀s' c w' β',fin Y TI true rs l s'=some q->bL Y.C E s' c w' β'->c.defers=[]/\∃v,(results d c.tmps).run P w'= .ok v w'/\(∃v' B,Ending.returned v= .returned v'/\Ext w w'/\B.Nodup/\(∀b∈B,w.heap.size<=b)/\OwR Y.C w' v' (dQ Y rs q) B):=λs' c w' β' hq r=>by
  obtain⟨v,B,k1,k2,k3,k4⟩:=bFe G r (λ_ h=>h) hl hq;exact⟨r.defers,v,k1,v,B,rfl,r.hp.ext.ext λ_ h=>h,k2,k3,k4⟩
 rw[hn];exact aMk (T9 G hm o) 1000 E rfl rfl an j _ _ _ _ _ q (λ_=>True) (WC.true j) (AW.true an) h _ (λs' c w' β' _ hq r=>done s' c w' β' hq r) (λi s' c w' β' _ hq r=>by cases hq) (λs' c w' β' _ hq r=>done s' c w' β' hq r) _ _ _ x
def o7:∀(ks:List Kd) (z:sD U ks),(dQ Y ks z).length=ks.length
 |[],_=>rfl
 |[k],_=>rfl
 |k::b::ks,z=>by
  show(dQ Y (b::ks) z.2).length+1=_;rw[o7 (b::ks)];rfl
def aSs {f:FuncId}{S:Sum U}(h:Er P g Y f S)(G:Good P g Y TI FZ):Good P g Y TI ((f,S)::FZ):=⟨G.ti,G.lay,λf' b hm=>by
 rcases bf.1 hm with e|e
 ·injection e with c d;subst c;subst d;exact h
 ·exact G.fs f' b e⟩
def bQ7 (G:Good P g Y TI FZ)(hm:P.follows .mixedOrders=true)(j:sJ P IL){f:FuncId}{e:Func}{k:Code}{n:Nat}{l:List ResultVar}{S:Sum U}{an:sD U S.ar->An}(o:P.funcs[f]? =some e)(hb:e.body=some k)(hn:e.ntmps=n)(hl:e.results=l.toArray)
  (p:∀args w,(callFunc f args).run P w= .ok (.enter f args) w) (hlen:S.ar.length<=n) (c:S.wt=false) (h:∀a r,S.m a=some r->evF Y TI FZ IL (an a) k n S.ar S.rs S.fr l a=some r):Er P g Y f S:=λa r hr=>by
 have i:=h a r hr;refine⟨λ_ b=> ?_,λ_ b=> ?_,λd=>(by rw[c] at d;cases d),λd=>(by rw[c] at d;cases d)⟩
 ·rw[b] at i;exact bI7 G hm j o hb hn hl p (by rw[o7];exact hlen) i
 ·rw[b] at i;exact bFf G hm j o hb hn hl p (by rw[o7];exact hlen) i
end Go.EV
namespace Go.EV
open Go.RowKit Go.VK
variable {U:Uni} {Y:Lay U} {TI:List (Nat×TInfo)} {FZ:List (Nat×Sum U)} {IL:Il} {P:Program} {g:GI} {E:Env U g}
section
variable {s:St U} {a:Act} {w w0:World} {β:List Tr} {C:Cod U}
def OwP.lt {v:Value}{B:List Nat}{x:Bool×List (Lf U)}(h:OwP C w v B x):∀b∈B,b<w.heap.size:=by
 obtain⟨b,cs⟩:=x;cases b with
 |true=>obtain⟨vs,_,h⟩:=h;exact h.lt
 |false=>obtain⟨c,_,h⟩:=h;exact h.lt
end
end Go.EV
namespace Go.VK
def aG {α:Type}{c:Prop}[Decidable c]{x y:Option α}{r:α}(h:c->y=x)(hr:gd c x=some r):y=some r:=by
 unfold gd at hr;split at hr
 ·rename_i hc;rw[h hc];exact hr
 ·cases hr
end Go.VK
namespace Go.VK
open EV (cO)
section
variable {α β σ τ:Type}
def bI9 {S:Type}{F:(S->Option τ)->S->Option τ}(V:Nat->S->Prop)(N:Nat)(R:Option τ)
  (step:∀i s rec,i<N->V i s->(∃s',V (i+1) s'/\F rec s=rec s')\/F rec s=R) (last:∀s rec,V N s->F rec s=R):∀(k i n:Nat) (s:S),i+k=N->k<n->V i s->cO n F s=R
 |0,i,n+1,s,hk,hn,h=>by
  have:i=N:=by omega
  subst this;exact last s _ h
 |k+1,i,n+1,s,hk,hn,h=>by
  rcases step i s (cO n F) (by omega) h with⟨s',h1,h2⟩|h2
  ·exact h2.trans (bI9 V N R step last k (i+1) n s' (by omega) (by omega) h1)
  ·exact h2
def aJf {S:Type}{F:(S->Option τ)->S->Option τ}(V:Nat->S->Prop)(N:Nat)(R:Option τ){s:S}(b:N<=18446744073709551616)(h0:V 0 s)
  (step:∀i s rec,i<N->V i s->(∃s',V (i+1) s'/\F rec s=rec s')\/F rec s=R) (last:∀s rec,V N s->F rec s=R):cO FUEL F s=R:=
 bI9 V N R step last N 0 FUEL s (by omega) (by have:=iB;omega) h0
def bJa {S:Type}{F:(S->Option τ)->S->Option τ}(V:Nat->S->Prop)(N:Nat)(Q:τ->Prop)
  (step:∀i s rec,i<N->V i s->(∃s',V (i+1) s'/\F rec s=rec s')\/∃r,F rec s=some r/\Q r) (last:∀s rec,V N s->∃r,F rec s=some r/\Q r):∀(k i n:Nat) (s:S),i+k=N->k<n->V i s->∃r,cO n F s=some r/\Q r
 |0,i,n+1,s,hk,hn,h=>by
  have:i=N:=by omega
  subst this;exact last s _ h
 |k+1,i,n+1,s,hk,hn,h=>by
  rcases step i s (cO n F) (by omega) h with⟨s',h1,h2⟩|h2
  ·obtain⟨r,b⟩:=bJa V N Q step last k (i+1) n s' (by omega) (by omega) h1;exact⟨r,h2.trans b.1,b.2⟩
  ·exact h2
theorem fO {i n:Nat}(h:i<n):decide ((i:Int)<(n:Int))=true:=by simpa using h
def U0 {n:Nat}:decide ((n:Int)<(n:Int))=false:=by simp
def set_mid {l r:List β}{i:Nat}{d x:β}(h:l.length=i):(l++d::r).set i x=(l++[x])++r:=by subst h;rw[eR _ _ (ak _)];simp
def vG {a:List α}{F:(Nat->Option (Bool⊕PUnit))->Nat->Option (Bool⊕PUnit)}(hl:a.length<=18446744073709551616)
  (b:∀rec i (hi:i<a.length),F rec i=rec (i+1)) (c:∀rec,F rec a.length=some (.inr ())):cO FUEL F 0=some (.inr ()):=by
 refine aJf (λi s=>s=i) a.length _ hl rfl (λi s rec hi hv=> ?_) (λs rec hv=> ?_)
 ·subst hv;exact .inl ⟨_,rfl,b rec s hi⟩
 ·subst hv;exact c rec
def szP (left:Int):Prop:=0<=left/\left<=1048576
instance (left:Int):Decidable (szP left):=inferInstanceAs (Decidable (_/\_))
theorem aK0 {i:Nat}:((i:Nat):Int).toNat=i:=bm i
def MkP (s c:Nat)(k:Int):Prop:=s<=1152921504606846976/\0<=k/\k+c<=4611686018427387904
instance (s c:Nat) (k:Int):Decidable (MkP s c k):=inferInstanceAs (Decidable (_/\_))
end
end Go.VK
namespace Go.VK
open EV (cO)
section
variable {α β σ τ:Type}
def qC (n:Nat)(a b:α):Prop:=a=b/\n<=1152921504606846976
noncomputable instance (n:Nat) (a b:α):Decidable (qC n a b):=Classical.propDecidable _
def okL (p:α->Prop)(l:List α):Prop:=l.length<=9223372036854775807/\∀y∈l,p y
def okS (s:ByteArray):Prop:=s.size<=9223372036854775807
theorem mR {f:α->Nat}{l:List α}{i:Nat}(hi:i<l.length):f l[i]<=(l.map f).sum:=by
 have:f l[i]∈l.map f:=cr.2 ⟨_,ce hi,rfl⟩;induction l generalizing i with
 |nil=>simp at hi
 |cons x l c=>
  cases i with
  |zero=>simp
  |succ i=>
   have b:i<l.length:=by simpa using hi
   have:=c b (cr.2 ⟨_,ce b,rfl⟩);simp only[bw,eJ,fc];omega
end
end Go.VK
namespace Go.VK
end Go.VK
namespace Go.VK
open EV (cO)
section
variable {α β σ τ:Type}
def pM {l:List α}(p:α->Bool)(a b:τ){F:(Nat->Option τ)->Nat->Option τ}(hl:l.length<=18446744073709551616)
  (d:∀rec i (hi:i<l.length),F rec i=bif p l[i] then some a else rec (i+1)) (e:∀rec,F rec l.length=some b):cO FUEL F 0=some (bif l.any p then a else b):=by
 have key:∀i (hi:i<l.length),p l[i]=true->l.any p=true:=λi hi h=>fp.2 ⟨_,ce hi,h⟩;refine aJf (λi s=>i<=l.length/\s=i/\(l.take i).any p=false) l.length _ hl ⟨cD _,rfl,rfl⟩ (λi s rec hi hv=> ?_) (λs rec hv=> ?_)
 ·obtain⟨_,rfl,c⟩:=hv;rw[d rec s hi];cases hp:p l[s] with
  |true=>exact .inr (by rw[key s hi hp];rfl)
  |false=>exact .inl ⟨_,⟨hi,rfl,by rw[fm,ab hi,jo,c];simp[hp]⟩,rfl⟩
 ·obtain⟨_,rfl,c⟩:=hv;rw[fa] at c;rw[e,c];rfl
def kG {l:List α}(p:Nat->α->Bool)(a b:τ){F:(Nat->Option τ)->Nat->Option τ}(hl:l.length<=18446744073709551616)
  (e:∀rec i (hi:i<l.length),F rec i=bif p i l[i] then some a else rec (i+1)) (f:∀rec,F rec l.length=some b):cO FUEL F 0=some (bif iG p 0 l then a else b):=by
 have key:∀(l:List α) (j:Nat),iG p j l=true↔∃(i:Nat) (hi:i<l.length),p (j+i) l[i]=true:=by
  intro l;induction l with
  |nil=>intro j;simp[iG]
  |cons x xs k=>
   intro j;simp only[iG,cp,k];constructor
   ·rintro(h|⟨i,hi,h⟩)
    ·exact⟨0,by simp,h⟩
    ·exact⟨i+1,by simpa using hi,by rw[show j+(i+1)=j+1+i by omega];exact h⟩
   ·rintro⟨i,hi,h⟩;cases i with
    |zero=>exact .inl h
    |succ i=>exact .inr ⟨i,by simpa using hi,by rw[show j+1+i=j+(i+1) by omega];exact h⟩
 refine aJf (λi s=>i<=l.length/\s=i/\∀(j:Nat) (hj:j<l.length),j<i->p j l[j]=false) l.length _ hl ⟨cD _,rfl,λj _ h=>by omega⟩ (λi s rec hi hv=> ?_) (λs rec hv=> ?_)
 ·obtain⟨_,rfl,c⟩:=hv;rw[e rec s hi];cases hp:p s l[s] with
  |true=>exact .inr (by rw[(key l 0).2 ⟨s,hi,by rw[cx];exact hp⟩];rfl)
  |false=>
   refine .inl ⟨_,⟨hi,rfl,λj hj h=> ?_⟩,rfl⟩;rcases fY j s with d|d
   ·exact c j hj d
   ·have:j=s:=by omega
    subst this;exact hp
 ·obtain⟨_,rfl,c⟩:=hv;have:iG p 0 l=false:=by
   cases h:iG p 0 l with
   |false=>rfl
   |true=>obtain⟨i,hi,hp⟩:=(key l 0).1 h;rw[cx,c i hi hi] at hp;cases hp
  rw[f,this];rfl
def Uc {l:List α}(p:α->Bool){F:(Nat->Option (Int⊕PUnit))->Nat->Option (Int⊕PUnit)}(hl:l.length<=18446744073709551616)
  (b:∀rec i (hi:i<l.length),F rec i=bif p l[i] then some (.inl (i:Int)) else rec (i+1)) (c:∀rec,F rec l.length=some (.inr ())):nx (cO FUEL F 0) (λ_=>some (-1:Int))=some (kV p 0 l):=by
 have go:∀(k i n:Nat),i+k=l.length->k<n->nx (cO n F i) (λ_=>some (-1:Int))=some (kV p i (l.drop i)):=by
  intro k;induction k with
  |zero=>
   intro i n hk hn;obtain⟨n,rfl⟩:∃m,n=m+1:=⟨n-1,by omega⟩;have:i=l.length:=by omega
   subst this;rw[show cO (n+1) F l.length=F (cO n F) l.length from rfl,c,dz];rfl
  |succ k d=>
   intro i n hk hn;obtain⟨n,rfl⟩:∃m,n=m+1:=⟨n-1,by omega⟩;have hi:i<l.length:=by omega
   rw[show cO (n+1) F i=F (cO n F) i from rfl,b _ i hi,cG hi,kV];cases p l[i] with
   |true=>rfl
   |false=>exact d (i+1) n (by omega) (by omega)
 exact go l.length 0 FUEL (by omega) (by have:=iB;omega)
def jK {l:List α}(g:σ->α->σ)(Inv:Nat->σ->Prop)(fin:σ->Option τ){s0:σ}{F:(σ×Nat->Option τ)->σ×Nat->Option τ}(hl:l.length<=18446744073709551616)(h0:Inv 0 s0)
  (c:∀i s (hi:i<l.length),Inv i s->Inv (i+1) (g s l[i])) (d:∀rec i s (hi:i<l.length),Inv i s->F rec (s,i)=rec (g s l[i],i+1)) (f:∀rec s,Inv l.length s->F rec (s,l.length)=fin s):cO FUEL F (s0,0)=fin (l.foldl g s0):=by
 refine aJf (λi s=>i<=l.length/\s=((l.take i).foldl g s0,i)/\Inv i s.1) l.length _ hl ⟨cD _,rfl,h0⟩ (λi s rec hi hv=> ?_) (λs rec hv=> ?_)
 ·obtain⟨_,rfl,b⟩:=hv;have e:(l.take (i+1)).foldl g s0=g ((l.take i).foldl g s0) l[i]:=by rw[fm,ab hi,gt];rfl
  refine .inl ⟨_,⟨hi,rfl,by rw[e];exact c i _ hi b⟩,?_⟩;rw[d rec i _ hi b,e]
 ·obtain⟨_,rfl,b⟩:=hv;rw[f rec _ b,fa]
def aSu {l:List α}(g:σ->α->σ)(Inv:Nat->σ->Prop)(fin:σ->Option τ){s0:σ}{F:(Nat×σ->Option τ)->Nat×σ->Option τ}(hl:l.length<=18446744073709551616)(h0:Inv 0 s0)
  (c:∀i s (hi:i<l.length),Inv i s->Inv (i+1) (g s l[i])) (d:∀rec i s (hi:i<l.length),Inv i s->F rec (i,s)=rec (i+1,g s l[i])) (f:∀rec s,Inv l.length s->F rec (l.length,s)=fin s):cO FUEL F (0,s0)=fin (l.foldl g s0):=by
 refine aJf (λi s=>i<=l.length/\s=(i,(l.take i).foldl g s0)/\Inv i s.2) l.length _ hl ⟨cD _,rfl,h0⟩ (λi s rec hi hv=> ?_) (λs rec hv=> ?_)
 ·obtain⟨_,rfl,b⟩:=hv;have e:(l.take (i+1)).foldl g s0=g ((l.take i).foldl g s0) l[i]:=by rw[fm,ab hi,gt];rfl
  refine .inl ⟨_,⟨hi,rfl,by rw[e];exact c i _ hi b⟩,?_⟩;rw[d rec i _ hi b,e]
 ·obtain⟨_,rfl,b⟩:=hv;rw[f rec _ b,fa]
def aFv {f:α->List β}:∀{l:List α} {s:List β},l.foldl (λs x=>s++f x) s=s++(l.map f).flatten
 |[],s=>by simp
 |x::l,s=>by simp only[dp,aFv (l:=l),bw,cT,ck]
def aFw {f:α->β}:∀{l:List α} {s:List β},l.foldl (λs x=>s++[f x]) s=s++l.map f
 |[],s=>by simp
 |x::l,s=>by simp only[dp,aFw (l:=l),bw,ck,fi]
end
end Go.VK
namespace Go.VK
def RdA (w:World)(X:Nat->Prop):List V->Prop
 |[]=>True
 |c::cs=>(∃v,Rd w X [] v c)/\RdA w X cs
section
variable {w:World} {X:Nat->Prop}
def RdA.of:∀{cs:List V},(∀(i:Nat) (c:V),cs[i]? =some c->∃v,Rd w X [] v c)->RdA w X cs
 |[],_=>trivial
 |c::cs,h=>⟨h 0 c rfl,RdA.of λi d hd=>h (i+1) d (by simpa using hd)⟩
def RdA.ofL {vs:List Value}{Us:List V}(h:RdL w X vs Us):RdA w X Us:=RdA.of λi c hc=>by
 have hi:i<vs.length:=by rw[h.1];exact(bg.1 hc).1
 exact⟨vs[i],h.2 i vs[i] c (ab hi) hc⟩
def bQ8 {n:Int}(h:∃v,Rd w X [] v (.int .u8 n)):0<=n/\n<=255:=by obtain⟨v,h⟩:=h;cases h with|int h1 h2=>exact⟨h1,h2⟩
def bQ9 {α:Type}{k:Nat}{enc:α->List V}{l:List α}{p:α->Prop}(h:∃v,Rd w X [] v (.slice k (l.map enc)))(hp:∀y,RdA w X (enc y)->p y):okL p l:=by
 obtain⟨v,h⟩:=h;refine⟨?_,λy b=>hp y ?_⟩
 ·obtain⟨A,c,rfl,h1,h2⟩:=h.aBE;rw[bl] at h1;exact bz h1 h2
 ·obtain⟨i,hi,rfl⟩:=cR.1 b;generalize he:l.map enc=es at h;cases h with
  |slice0 h=>simp at he;subst he;simp at hi
  |slice hn hpos hc hm hX hb hk hcell hrd=>exact RdA.of λj d hd=>⟨_,hrd i j (enc l[i]) d (by rw[<-he,bn,ab hi];rfl) hd⟩
end
def bMv {P:Program}{g:GI}{f:FuncId}{Us:List V}{R:V->Prop}{p:Prop}(he:∀args w,(callFunc f args).run P w= .ok (.enter f args) w)(h:p->Spec P g f Us R)(hp:∀w X,RdA w X Us->p):Spec P g f Us R:=
 ⟨he,λw X vs hg hX b=>(h (hp w X (RdA.ofL b))).2 w X vs hg hX b⟩
end Go.VK
namespace Go.VK
def bS8 (n:Nat):GI where
 G w:=∃m,w.cell? ⟨n,0,none⟩=some (.int .i64 m)
 st _ _ h he:=by obtain⟨m,hm⟩:=h;exact⟨m,he.cell hm⟩
def aIi (sep:ByteArray):∀(k:Nat) (s l:ByteArray),l∈Lib.splitB sep 0 k s->l.size<=s.size
 |0,s,l,h=>by
  rw[Lib.splitB_zero] at h;rw[cj.1 h];exact ak _
 |k+1,s,l,h=>by
  unfold Lib.splitB at h;split at h
  ·rw[cj.1 h];exact ak _
  ·rcases bf.1 h with rfl|h
   ·exact ext_size _ _ _
   ·exact bz (aIi sep k _ l h) (ext_size _ _ _)
def bAl {P:Program}{F:FuncId}{T n:Nat}(x:∀args w,(callFunc F args).run P w= .ok (.enter F args) w)
  (y:∀(s sep:ByteArray) (m:Int) (w:World),s.size<4294967281->w.cell? ⟨n,0,none⟩=some (.int .i64 m)->1<=sep.size->Calls P F #[.string s, .string sep] w λe w'=>
   e= .returned (.slice (some ⟨w.heap.size,0,none⟩) (Lib.countB s sep+1) (Lib.countB s sep+1))/\w'=w.alloc (.cells ((Lib.splitB sep 0 (Lib.countB s sep) s).map Value.string).toArray T))
  (s sep:ByteArray) (h1:s.size<4294967281) (h2:1<=sep.size):Spec P (bS8 n) F [.str s, .str sep] (λr=>r= .slice 1 ((lV s sep).map sV)):=by
 refine⟨x,λw X0 vs z p c=> ?_⟩;obtain⟨v,u,rfl⟩:∃v u,vs=[v,u]:=by
  match vs,c.1 with
  |[v,u],_=>exact⟨v,u,rfl⟩
 obtain⟨rfl,A⟩:=(c.2 0 v _ rfl rfl).aAV;obtain⟨rfl,B⟩:=(c.2 1 u _ rfl rfl).aAV;obtain⟨m,hm⟩:=z;refine(y s sep m w h1 hm h2).mono ?_;rintro e w' ⟨rfl,rfl⟩;have hl:(lV s sep).length=Lib.countB s sep+1:=Lib.splitB_all sep h2 0 _ s rfl;have hn:Lib.countB s sep+1=((lV s sep).map sV).length:=by rw[bl];exact hl.symm
 have t:Lib.countB s sep<=s.size+1:=Lib.count_le s.data.toList sep.data.toList;have hsz:∀l∈lV s sep,l.size<=s.size:=λl h=>aIi sep _ s l h;refine⟨_,_,rfl,rfl,?_,Ext.alloc w _⟩;have b:∀(i j:Nat) (e:List V) (d:V),((lV s sep).map sV)[i]? =some e->e[j]? =some d->∃l,(lV s sep)[i]? =some l/\j=0/\d= .str l:=by
  intro i j e d f k;rw[bn] at f;obtain⟨l,hl,rfl⟩:=eE.1 f;cases j with
  |zero=>exact⟨l,hl,rfl,by simpa[sV] using k.symm⟩
  |succ j=>simp[sV] at k
 refine .slice (val:=λi j=> .string ((lV s sep).getD i ⟨#[]⟩)) hn (by rw[<-hn];omega) (ak _) (by unfold maxLen;omega) (λq=>by have:=p _ q;simp at this) (by simp)
  (λe he=>by obtain⟨l,_,rfl⟩:=cr.1 he;rfl) (λi j e d f k=> ?_) (λi j e d f k=> ?_)
 ·obtain⟨l,o,rfl,rfl⟩:=b i j e d f k;rw[gI,cx,Nat.mul_one,dT];have G:(Lib.splitB sep 0 (Lib.countB s sep) s)[i]? =some l:=o;rw[World.cell?_alloc_new];simp[List.getD,o,G]
 ·obtain⟨l,o,rfl,rfl⟩:=b i j e d f k;have:=hsz l (aE o);have I:(lV s sep).getD i ⟨#[]⟩=l:=by simp[List.getD,o]
  rw[I];exact .str (by unfold maxLen;omega)
end Go.VK
namespace Go
variable {H:Type} {enc:TypeId×Value->H}
def VK.aCD {a:Assume}{C:Checked}{os:Os}{f:FuncId}{b:Func}{s:ChangeSpec}{conds:List PathCond}{apart fresh handsOn again:Bool}{X:World->Array Value->Prop}
  (hX:∀(w w':World) (args:Array Value),w.heap=w'.heap->X w args->X w' args)
  (own:ownKnob C.prog.godebug=none) (started:os.Started) (noInit:C.prog.inits.idxOf? f=none) (l:C.prog.funcs[f]? =some b)
  (witness:∃(w:World) (tape:Tape) (i:Input),w.os=os/\(w.forCall tape i).Shaped C.prog/\i.vars=[]/\Input.okWide C.prog (w.forCall tape i) .any w.heap.size f i/\
   ((s.pre enc C.prog b conds apart (w.forCall tape i).memory i.args/\X (w.forCall tape i).memory i.args)/\sizedMet enc C.prog b (OpenSpec.ofChange s) apart (w.forCall tape i).memory i.args)/\a.holds C.prog (lone (Frame.enter C.prog f i.args .normal) [] (w.forCall tape i)))
  (contract:∀(W:World) (base:Nat) (args:Array Value) (ds m:List (DataW H)) (before:List MemPlace),
   (∀(j:Nat) t v,b.params[j]? =some t->args[j]? =some v->Value.okWide C.prog W .any base t v)->
   DataW.Whole enc C.prog b.params.toList s.vars apart W args.toList ds m before->
   X W args->W.ShapedOpen C.prog->
   Calls C.prog f args W λe r=>∃v,e= .returned v/\s.post enc C.prog b apart fresh handsOn again W args v r):
  ReturnsInHanded a C os f .any (λw args=>(s.pre enc C.prog b conds apart w args/\X w args)/\sizedMet enc C.prog b (OpenSpec.ofChange s) apart w args) (s.post enc C.prog b apart fresh handsOn again):=by
 refine returnsInHanded_of_calls own started noInit witness ?_;intro w tape i _ n _ o c k;obtain⟨_,_,_,p,d,_,_,_,_,h⟩:=o;have e:p=b:=aj (d.symm.trans l);subst e;obtain⟨⟨⟨ds,m,before,u,hc⟩,hx⟩,x⟩:=c;have q:=DataW.Whole.of_heap (w':=w.forCall tape i) (by rfl) u;refine(contract (w.forCall tape i) w.heap.size i.args ds m before h q (hX _ _ _ (by rfl) hx) n).mono λe r ⟨v,he,hp⟩=> ?_;subst he;exact ChangeSpec.post_blind hp
end Go

namespace Go.EV
open Go.RowKit Go.VK
variable {U:Uni} {Y:Lay U} {TI:List (Nat×TInfo)} {FZ:List (Nat×Sum U)} {IL:Il} {P:Program} {g:GI} {E:Env U g}
section
variable {s:St U} {a:Act} {w w0:World} {β:List Tr} {C:Cod U}
def aSv {x:Lf U}(h:bHy x=true):∀i,bQm x=some i->1<=i:=λi hi=>by
 cases x<;>simp only[bQm,reduceCtorEq,ai] at hi<;>(subst hi;exact bc h)
def U1:∀{xs:List (Lf U)},aRv xs=true->∀x∈xs,bHy x=true
 |[],_,x,hx=>by simp at hx
 |y::ys,h,x,hx=>by
  simp only[aRv,aa] at h;rcases bf.1 hx with rfl|hx
  ·exact h.1
  ·exact U1 h.2 x hx
def aMs:∀{xs:List (Sv U)},aWs xs=true->∀x∈xs,∀c∈aJd x,bHy c=true
 |[],_,x,hx=>by simp at hx
 |y::ys,h,x,hx=>by
  simp only[aWs,aa] at h;rcases bf.1 hx with rfl|hx
  ·cases x with
   |l z=>intro c hc;simp only[aJd,cj] at hc;subst hc;exact h.1
   |a cs=>exact U1 h.1
   |t xs=>intro c hc;simp[aJd] at hc
  ·exact aMs h.2 x hx
def bMw {X:Nat->Prop}{vs:List Value}{Us:List V}(h:RdL w X vs Us):Rd w X [] (if h:vs.length=1 then vs[0] else .tuple vs.toArray) (oL Us):=by
 obtain⟨h2,b⟩:=h
 match Us,vs,h2,b with
 |[U],[v],_,b=>exact b 0 v U rfl rfl
 |[],[],_,_=>exact .tup rfl (by simp)
 |U::U'::Us,v::v'::vs,h2,b=>rw[dif_neg (by simp)];exact .tup (by simpa using h2) (λi v c d e=>b i v c (by simpa using d) e)
def bFg (G:Good P g Y TI FZ)(hm:P.follows .mixedOrders=true)(hI:sJ P IL){f:FuncId}{R:Func}{cd:Code}{n T:Nat}{l:List ResultVar}{ks rs:List Kd}{an:An}{z:sD U (.st T::ks)}{q:sD U (.st T::rs)}{cs ds:List (Lf U)}{B J:List (Bool×List (Lf U))}(hf:P.funcs[f]? =some R)(hb:R.body=some cd)(hn:R.ntmps=n)(hl:R.results=l.toArray)
  (hE:∀args w,(callFunc f args).run P w= .ok (.enter f args) w) (hz:dQ Y (.st T::ks) z=(true,cs)::B) (hq:dQ Y (.st T::rs) q=(true,ds)::J) (hlen:B.length+1<=n) (h:evP Y TI FZ IL an cd n T ks rs l z=some q):bOs P g f T (cs.map Lf.toV) (ds.map Lf.toV) (B.map zI) (oL (J.map zI)):=by
 refine⟨hE,λw X b ws vs hG hX S hw V W=>calls_of_wp hf hb ?_⟩;have hbl:b<w.heap.size:=(ca.1 hw).1;let E:Env U g:=⟨λx=>X x/\x≠b,(·=b),w,[],[],λx h=> .inl (hX x h.1),λx h=>by rw[h];exact hbl,λx h e=>h.2 e,hG,[(.l (.box 0 0), .pointer (some ⟨b,0,none⟩))]⟩;let F:Tr:=⟨some b,0,0,[]⟩;have o:F.all=[b]:=rfl;have hXE:∀x,E.X [F] x->X x:=λx hx=>by
  rcases hx with h|h|⟨t,ht,h⟩
  ·exact h.1
  ·have:x=b:=h;rw[this];exact S
  ·simp at ht;subst ht;rw[o] at h;simp at h;rw[h];exact S
 have K:=Jm (Y:=Y) (.st T::ks) z;rw[hz] at K;let O:Mm U:=⟨[⟨.box T cs (cs.map λ_=>0),0,0⟩],0,[]⟩;have h0:∀{i:Nat} {t:Tr},[F][i]? =some t->i=0/\t=F:=λ{i t} h=>by
  cases i with
  |zero=>simp at h;exact⟨rfl,h.symm⟩
  |succ i=>simp at h
 have Hh:Hp Y.C E O [F] w:=by
  refine⟨Bel.refl _,rfl,λi e he=> ?_,λa i h=>by simp[O] at h,λi t x ht hx=> ?_,λi j t u x hij ht hu hx hxu=> ?_,λi t ht=> ?_,λi t e ht he=> ?_,λx hx=> ?_,λx hx=>by simp[E] at hx,λf hf=>by simp[E] at hf⟩
  ·cases i with
   |zero=>simp[O] at he;subst he;exact⟨ak _,ak _⟩
   |succ i=>simp[O] at he
  ·obtain⟨_,rfl⟩:=h0 ht;rw[o] at hx;simp at hx;subst hx;exact⟨.inr rfl,hbl⟩
  ·exact absurd ((h0 ht).1.trans (h0 hu).1.symm) hij
  ·obtain⟨_,rfl⟩:=h0 ht;rw[o];simp
  ·obtain⟨rfl,rfl⟩:=h0 ht;simp[O] at he;subst he;refine⟨by simp,b,ws,rfl,rfl,hw,by have:=V.1;simpa using this,λj v c p q'=> ?_⟩;have hcd:c.aBA=true:=(K (true,cs) (by simp)).1 c (aE q');exact Jl hcd (V.2 j v _ p (by rw[bn,q'];rfl)) (.inl hXE)
  ·simp[E] at hx;subst hx;exact⟨rfl,_,F,rfl,rfl,λ_=>⟨b,rfl,rfl⟩⟩
 have hvl:vs.length=B.length:=by have:=W.1;simpa using this
 have hini:bL8 Y n T ks z=⟨(Sv.l (.box 0 0)::B.map aZs)++List.replicate (n-(B.length+1)) (.l .any),O,[]⟩:=by simp only[bL8,hz,dK,aw,bl];rfl
 have r0:bL Y.C E (bL8 Y n T ks z) {tmps:=(.pointer (some ⟨b,0,none⟩)::vs).toArray++Array.replicate (n-(.pointer (some ⟨b,0,none⟩)::vs).toArray.size) undef,defers:=[]} w [F]:=by
  rw[hini];refine⟨Hh,rfl,by simp[hvl];omega,λm x hx=> ?_⟩;have I:∀(v:Value),(Value.pointer (some ⟨b,0,none⟩)::vs)[m]? =some v->((Value.pointer (some ⟨b,0,none⟩)::vs).toArray++Array.replicate (n-(Value.pointer (some ⟨b,0,none⟩)::vs).toArray.size) undef).getD m undef=v:=λv hv=>by
   have L:=lt_of_some hv;rw[cA,fo (by simpa using L)];simp only[List.getElem?_toArray,hv,cM]
  by_cases L:m<B.length+1
  ·simp only at hx;rw[ao (by simpa using L)] at hx;cases m with
   |zero=>simp at hx;subst hx;rw[I (.pointer (some ⟨b,0,none⟩)) rfl];exact⟨rfl,_,F,rfl,rfl,λ_=>⟨b,rfl,rfl⟩⟩
   |succ m=>
    rw[ex,bn] at hx;cases hc:B[m]? with
    |none=>rw[hc] at hx;cases hx
    |some c=>
     rw[hc] at hx;have:=aj hx;subst this;have hml:m<vs.length:=by rw[hvl];exact lt_of_some hc
     rw[I vs[m] (by rw[ex];exact ab hml)];exact vD (aCe (K c (by have:=aE hc;simp[this])) (W.2 m _ _ (ab hml) (by rw[bn,hc];rfl)) (.inl hXE))
  ·simp only at hx;rw[az (by simp;omega)] at hx;have:=aE hx;simp at this;rw[this.2];trivial
 have done:∀s' A w' β',bL9 Y TI T rs l s'=some q->bL Y.C E s' A w' β'->A.defers=[]/\∃v,(results R A.tmps).run P w'= .ok v w'/\(∃v' k,Ending.returned v= .returned v'/\Bel (·=b) w w'/\w'.heap[b]? =some (.cells k.toArray T (0,0))/\RdL w' X k (ds.map Lf.toV)/\Rd w' X [] v' (oL (J.map zI))):=λs' A w' β' d r=>by
  unfold bL9 at d;split at d
  ·rename_i T' cs' us' rv cv ho;rw[aZ] at ho;split at d
   ·rename_i xs hres;cases hc:(Nat.beq T' T&&(aRv cs'&&aWs xs)) with
    |false=>rw[hc] at d;cases d
    |true=>
     rw[hc] at d;simp only[ac] at d;simp only[aa] at hc;obtain⟨hT,hn1,hn2⟩:=hc;have hT:=ah hT;subst hT;obtain⟨rvs,k1,k2,k3⟩:=Ak G.ti r hres;obtain⟨_,e',t',g1,g2,g3⟩:=r.hp.pin _ (cj.2 rfl);rw[ho] at g1;injection g1 with g1;subst g1;obtain⟨b',g4,M⟩:=g3 rfl;have:b'=b:=by injection M with M;injection M with M;injection M with M;exact M.symm
     subst this;obtain⟨_,b2,k,e1,e2,e3,e4⟩:=r.hp.ok 0 t' _ g2 ho;rw[g4] at e1;injection e1 with e1;subst e1;have hbt:b'∈t'.all:=Tr.root g4;have hrd:=Tx r (Z:=X) (λx hx=>by
      by_cases y:x=b'
      ·exact .inr (.inl y)
      ·exact .inl ⟨hx,y⟩) _ d (vs:= .agg k.toArray::rvs) (by simp[k2]) (λj v x p q'=>by
       cases j with
       |zero=>simp at p q';subst p;subst q';exact⟨k,rfl,e4⟩
       |succ j=>exact k3 j v x (by simpa using p) (by simpa using q')) (λx hx c hc' i t x' hi ht hxt hX'=>by
       have h1:1<=i:=by
        rcases bf.1 hx with rfl|hx
        ·exact aSv (U1 hn1 c hc') i hi
        ·exact aSv (aMs hn2 x hx c hc') i hi
       by_cases y:x'=b'
       ·subst y;exact r.hp.dist 0 i t' t x' (by omega) g2 ht hbt hxt
       ·exact aKw r i t x' ht hxt ⟨hX',y⟩)
     rw[hq,bw] at hrd;obtain⟨_,_,he,N,hr2⟩:=RdL.cons_inv hrd;injection he with he1 he2;subst he1;subst he2;have N:=RdL.agg (show Rd w' X [] (.agg k.toArray) (.agg (ds.map Lf.toV)) from N);exact⟨r.defers,_,Et hl k1,_,k,rfl,r.hp.ext,e3,N,bMw hr2⟩
   ·cases d
  ·cases d
 rw[hn];exact aMk (T9 G hm hI) 1000 E rfl rfl an cd _ _ _ _ _ q (λ_=>True) (WC.true cd) (AW.true an) h _ (λs' A w' β' _ hq r=>done s' A w' β' hq r) (λi s' A w' β' _ hq r=>by cases hq) (λs' A w' β' _ hq r=>done s' A w' β' hq r) _ _ _ r0
def bRa (G:Good P g Y TI FZ)(hm:P.follows .mixedOrders=true)(k:sJ P IL){f:FuncId}{d:Func}{i:Code}{n T:Nat}{l:List ResultVar}{ks rs:List Kd}{m:sD U (.st T::ks)->Option (sD U (.st T::rs))}{an:sD U (.st T::ks)->An}(o:P.funcs[f]? =some d)(hb:d.body=some i)(hn:d.ntmps=n)(hl:d.results=l.toArray)
  (p:∀args w,(callFunc f args).run P w= .ok (.enter f args) w) (hlen:ks.length+1<=n) (h:∀a r,m a=some r->evP Y TI FZ IL (an a) i n T ks rs l a=some r):Er P g Y f ⟨.st T::ks, .st T::rs,true,true,m⟩:=λa r hr=>by
 have q:=h a r hr;refine⟨λb=>(by cases b),λb=>(by cases b),λ_ b=>(by cases b),λ_ _ T' t cs u ds v c j x=> ?_⟩;injection c with c y;injection c with c;subst c;subst y;have e:u.length+1<=n:=by have:=congrArg List.length j;rw[o7] at this;simp at this;omega
 exact bFg G hm k o hb hn hl p j x e q
end
end Go.EV
