import Derived.Test.YtfllllgehgablaaGreatDoorEVatoo
import Derived.Test.YtfllllgehgablaaGreatDoorVKatos
/- Printed by wip/tools: models, walks, proofs. -/
set_option linter.all false
namespace Go.EV
open Go.RowKit Go.VK
variable {U:Uni} {Y:Lay U} {TI:List (Nat×TInfo)} {P:Program} {g:GI} {E:Env U g}
section
variable {s:St U} {a:Act} {w:World} {β:List Tr} {α:Type}
def bBh {α β:Type}{f:α->List β}{k:Nat}(hk:∀x,(f x).length=k)(h0:0<k):∀{l:List α} {q:Nat} {c:β},(l.map f).flatten[q]? =some c->∃x,l[q/k]? =some x/\(f x)[q%k]? =some c
 |[],q,c,h=>by simp at h
 |x::l,q,c,h=>by
  simp only[bm,cR] at h;by_cases hq:q<k
  ·rw[aq (by rw[hk];exact hq)] at h;exact⟨x,by rw[Nat.div_eq_of_lt hq];rfl,by rw[je hq];exact h⟩
  ·rw[ay (by rw[hk];omega),hk] at h;obtain⟨y,h1,h2⟩:=bBh hk h0 h;have e:q=q-k+k:=by omega
   refine⟨y,?_,?_⟩
   ·rw[e,Nat.add_div_right _ h0];simpa using h1
   ·rw[e,Nat.add_mod_right];exact h2
def OwL.aDC {C:Cod U}{X:Nat->Prop}{d:Bool}:∀{vs:List Value} {xs:List (Lf U)},vs.length=xs.length->(∀(i:Nat) (v:Value) (x:Lf U),vs[i]? =some v->xs[i]? =some x->Ow C w X d v x [])->OwL C w X d vs xs []
 |[],[],_,_=> .n
 |[],_::_,h,_=>by simp at h
 |_::_,[],h,_=>by simp at h
 |v::vs,x::xs,h,h1=>by
  have:=OwL.c (h1 0 v x rfl rfl) (OwL.aDC (by simpa using h) λi v x a b=>h1 (i+1) v x (by simpa using a) (by simpa using b));simpa using this
def aQ2:∀{l:List Kd},aJw l=false↔∀τ,Kd.sl τ∉l
 |[]=>by simp[aJw]
 |x::l=>by
  have e:aJw (x::l)=cond x.aDI true (aJw l):=rfl;rw[e];cases x with
  |sl τ=>exact⟨λh=>(by cases h),λh=>absurd de (h τ)⟩
  |_=>simp only[Kd.aDI,ab,aE,reduceCtorEq,false_or];exact aQ2
def aQ3 (hY:LayOk Y){τ:Nat}(h:aJx Y τ=true){z:U.El τ}{c:Lf U}(hc:c∈Y.C.cel τ z):∀τ' l,c≠ .sl τ' l:=λτ' l e=>by
 subst e;have h':aJw (Y.kd τ)=false:=by
  unfold aJx at h;cases ha:aJw (Y.kd τ) with
  |false=>rfl
  |true=>rw[ha] at h;cases h
 have hk:=hY.kds τ z;have:some (Kd.sl τ')∈(Y.kd τ).map some:=by rw[<-hk];exact cj.2 ⟨_,hc,rfl⟩
 obtain⟨k,hk1,hk2⟩:=cj.1 this;injection hk2 with hk2;subst hk2;exact aQ2.1 h' τ' hk1
def aYv (Y:Lay U){τ:Nat}{z:U.El τ}:nN (U.enc τ z)=true:=by
 rw[<-Y.C.hcel];have:∀(cs:List (Lf U)),(∀c∈cs,c.aAZ=true)->nN (cs.map Lf.toV)=true:=by
  intro cs;induction cs with
  |nil=>intro _;rfl
  |cons c cs ih=>intro h;simp only[bm,nN,aa];exact⟨Lf.aCH (h c (by simp)),ih λc hc=>h c (by simp[hc])⟩
 exact this _ (Y.C.hdat τ z)
def aQ4 (hY:LayOk Y){e:Nat}(hk:0<U.K e){X Z:Nat->Prop}{d:Bool}{v:Value}{l:List (U.El e)}(h:Rd w Z [] v (.slice (U.K e) (l.map (U.enc e))))(hd:aJx Y e=true\/(d=false/\∀b,X b->Z b)):
  ∃(A:Option Addr) (c:Nat) (news:List Value),v= .slice A l.length c/\news.length=l.length*U.K e/\(l.length=0\/∃p,A=some p/\∀j u,news[j]? =some u->w.cell? (p.add j)=some u)/\OwL Y.C w X d news (l.map (Y.C.cel e)).flatten []:=by
 obtain⟨A,c,xs,h1,h2,h3,h4,h5,h6⟩:=aQo h (λe' he=>by
  obtain⟨z,_,rfl⟩:=cj.1 he;exact aYv Y)
 rw[bl] at h1 h2;refine⟨A,c,xs,h1,h2,h3.imp (λhn=>by simpa using congrArg List.length hn) id,OwL.aDC (by rw[h2,Cw (Y.C.hlen e)]) λq u x hu hx=> ?_⟩;obtain⟨z,q1,q2⟩:=bBh (Y.C.hlen e) hk hx;have hz:(l.map (U.enc e))[q/U.K e]? =some (U.enc e z):=by rw[bh,q1];rfl
 have hc:(U.enc e z)[q%U.K e]? =some x.toV:=by rw[<-Y.C.hcel,bh,q2];rfl
 obtain⟨u',k1,k2⟩:=h6 _ _ _ _ hz hc;have hq:q/U.K e*U.K e+q%U.K e=q:=by rw[fo];exact hH q _
 rw[hq,hu] at k1;injection k1 with k1;subst k1;have hmem:=az q2;have hdat:=Y.C.hdat e z x hmem;cases x with
 |int k n=>obtain⟨rfl,a1,a2⟩:=k2.aAP;exact .int a1 a2
 |bool b=>obtain rfl:=k2.aAW;exact .bool
 |str b=>obtain⟨rfl,a1⟩:=k2.aAT;exact .str a1
 |sl τ' l'=>
  rcases hd with hd|⟨hd,hX⟩
  ·exact absurd rfl (aQ3 hY hd hmem τ' l')
  ·exact .fz hd (Rd.conv k2 (aj _) (λb _ hb=>hX b hb) (λ_ _ _ h=>h) (λ_ _ h=>h))
 |_=>cases hdat
def bDi {i j r:Nat}(h:aF1 i (.own j r:Lf U)=true):j≠i:=λe=>by
 subst e;have:aF1 j (.own j r:Lf U)=cond (Nat.beq j j) false true:=rfl;rw[this,show Nat.beq j j=true from dp j] at h;cases h
def bGs (r:bE Y.C E s a w β){e i:Nat}(hke:0<U.K e){x:Operand}{px:Lf U}{d:Bool}{l:List (U.El e)}{s1:St U}(hx:dV s x= .l px)(h:apD s e px=some (i,d,l,s1)):
  ∃β1 t rv cv,bE Y.C E s1 a w β1/\s1.t=s.t/\s1.m.ns=s.m.ns/\s1.fr=s.fr/\β1[i]? =some t/\s1.m.o[i]? =some ⟨.tree e d l,rv,cv⟩/\a.eval x=t.val/\rv<=s1.m.k:=by
 have hm:=lZ r hx;cases px with
 |nil=>
  simp only[apD,ai,cU] at h;obtain⟨rfl,rfl,rfl,rfl⟩:=h;have r1:=r.add (Ext.refl w) [((⟨.tree e true [],s.m.k,s.m.k⟩:EO U),aCr)] (by simp) (by simp[nV]) (by simp[nV]) (λhev x hx=>by
   simp at hx;subst hx;exact⟨hke,[],World.ownsRow_nil w 0 e (U.K e), .n⟩)
  refine⟨_,aCr,s.m.k,s.m.k,r1,rfl,rfl,rfl,?_,?_,?_,aj _⟩
  ·rw[bK,<-r.hp.len];simp
  ·simp[psh,bK]
  ·have hm':a.eval x= .slice none 0 0:=hm;rw[hm'];rfl
 |own j q=>
  simp only[apD,aS] at h;obtain⟨_,e',t,k1,k2,k3⟩:=hm;simp only[k1] at h;obtain⟨ob,rv,cv⟩:=e';cases ob with
  |tree τ d0 l0=>
   cases hb:Nat.beq rv q with
   |false=>simp[hb] at h
   |true=>
    simp only[hb,ac] at h;cases hs:slq e τ l0 with
    |none=>simp[hs] at h
    |some l1=>simp only[hs,ai,cU] at h;obtain⟨rfl,rfl,rfl,rfl⟩:=h;obtain⟨rfl,hh⟩:=mH hs;obtain rfl:=ez hh;exact⟨β,t,rv,cv,r,rfl,rfl,rfl,k2,k1,k3 (ah hb),(r.hp.vers _ _ k1).1⟩
  |_=>cases h
 |_=>cases h
def aV2 (hY:LayOk Y)(r:bE Y.C E s a w β){e i:Nat}(hke:0<U.K e){py:Lf U}{v:Value}{l:List (U.El e)}{ids:List Nat}{d:Bool}(hm:py.mean Y.C w (E.X β) β s.m v)(h:apS Y s.m e i py=some (l,ids,d)):
  (i::ids).Nodup/\∃(A:Option Addr) (c:Nat) (news:List Value),v= .slice A l.length c/\news.length=l.length*U.K e/\(l.length=0\/∃p,A=some p/\∀j u,news[j]? =some u->w.cell? (p.add j)=some u)/\∃B,OwL Y.C w (E.X β) d news (l.map (Y.C.cel e)).flatten B/\(∀b∈B,b∈jX β ids)/\B.Nodup:=by
 by_cases hn:py= .nil
 ·subst hn;simp only[apS,ai,cU] at h;obtain⟨rfl,rfl,rfl⟩:=h;obtain rfl:=hm;exact⟨by simp,none,0,[],rfl,by simp, .inl rfl,[], .n,by simp,fj⟩
 ·have h':(bif aJx Y e then(match rC s.m py with
   |some (.sl τ l)=>match slq e τ l with
    |some l=>bif aF1 i py then some (l,[],true) else none
    |none=>none
   |_=>none) else(match py with
   | .sl τ l=>match slq e τ l with
    |some l=>some (l,[],false)
    |none=>none
   | .own j r=>match nth s.m.o j with
    |some ⟨.tree τ d l,rv,_⟩=>bif Nat.beq rv r&&aF1 i py then(match slq e τ l with
     |some l=>some (l,[j],d)
     |none=>none) else none
    |_=>none
   |_=>none))=some (l,ids,d):=by
   cases py<;>first|exact absurd rfl hn|exact h
  cases hf:aJx Y e with
  |true=>
   rw[hf] at h';simp only[ac] at h';split at h'
   ·rename_i τ l0 hr;cases hs:slq e τ l0 with
    |none=>simp[hs] at h'
    |some l1=>
     simp only[hs] at h';cases hni:aF1 i py with
     |false=>simp[hni] at h'
     |true=>simp only[hni,ac,ai,cU] at h';obtain⟨rfl,rfl,rfl⟩:=h';obtain⟨rfl,hh⟩:=mH hs;obtain rfl:=ez hh;have hrd:=(Cy r.hp hm hr (Z:=λ_=>False) (λ_ h=>h.elim) (.inr λ_ _ _ _ _ h=>h)).2;obtain⟨A,c,news,q1,q2,q3,q4⟩:=aQ4 (X:=E.X β) (d:=true) hY hke hrd (.inl hf);exact⟨by simp,A,c,news,q1,q2,q3,[],q4,by simp,fj⟩
   ·cases h'
  |false=>
   rw[hf] at h';simp only[ab] at h';cases py with
   |nil=>exact absurd rfl hn
   |sl τ l0=>
    simp only at h';cases hs:slq e τ l0 with
    |none=>simp[hs] at h'
    |some l1=>simp only[hs,ai,cU] at h';obtain⟨rfl,rfl,rfl⟩:=h';obtain⟨rfl,hh⟩:=mH hs;obtain rfl:=ez hh;obtain⟨A,c,news,q1,q2,q3,q4⟩:=aQ4 (X:=E.X β) (d:=false) hY hke (Z:=E.X β) hm (.inr ⟨rfl,λ_ h=>h⟩);exact⟨by simp,A,c,news,q1,q2,q3,[],q4,by simp,fj⟩
   |own j q=>
    simp only at h';split at h'
    ·rename_i τ d0 l0 rv cv ho;rw[aS] at ho;cases hb:(Nat.beq rv q&&aF1 i (.own j q:Lf U)) with
     |false=>rw[hb] at h';cases h'
     |true=>
      rw[hb] at h';simp only[ac] at h';simp only[aa] at hb;cases hs:slq e τ l0 with
      |none=>simp[hs] at h'
      |some l1=>
       simp only[hs,ai,cU] at h';obtain⟨rfl,rfl,rfl⟩:=h';obtain⟨rfl,hh⟩:=mH hs;obtain rfl:=ez hh;obtain⟨_,e',t,k1,k2,k3⟩:=hm;rw[ho] at k1;injection k1 with k1;subst k1;have hv:=k3 (ah hb.1);have hok:=r.hp.ok j t _ k2 ho;obtain⟨_,xs,c1,c2⟩:=hok;have hbl:jX β [j]=t.all:=by simp[jX,k2]
       have hsub:∀b∈t.bs,b∈jX β [j]:=λb hb'=>by rw[hbl];simp[Tr.all,hb']
       have hnd:t.bs.Nodup:=(dm.1 (r.hp.nd j t k2)).2.1;refine⟨by simp;exact(bDi hb.2).symm,?_⟩;rcases dR c1 with⟨b1,b2,b3,b4,b5⟩|⟨b,cur,b1,b2,b3,b4,b5,b6,b7⟩
       ·have:l0=[]:=bv b2;subst this;exact⟨none,0,xs,by rw[hv];simp[Tr.val,b1,b4,b5],c1.1, .inl rfl,t.bs,c2,hsub,hnd⟩
       ·exact⟨some ⟨b,0,none⟩,t.c,xs,by rw[hv];simp[Tr.val,b1,b2],c1.1, .inr ⟨_,rfl,λj u hu=>pX c1 b1 hu⟩,t.bs,c2,hsub,hnd⟩
    ·cases h'
   |_=>cases h'
def bKh {e k n:Nat}{v:Value}{xs:List Value}{w:World}(h:w.ownsRow 0 e k v n xs)(bs:List Nat):∃t:Tr,t.val=v/\t.b=v.ownBlock/\t.bs=bs:=by
 rcases h.2 with⟨rfl,_⟩|⟨gg,cap,cur,rfl,_⟩
 ·exact⟨⟨none,0,0,bs⟩,rfl,rfl,rfl⟩
 ·exact⟨⟨some gg,n,cap,bs⟩,rfl,rfl,rfl⟩
def aTn (hTI:pY P TI=true)(hY:LayOk Y)(r:bE Y.C E s a w β){o:Oper}{t:TypeId}{x y:Operand}{e ek eb k i:Nat}{zz:List Kz}{px py:Lf U}{d d':Bool}{l l':List (U.El e)}{s1:St U}{ids:List Nat}
  (ho:o.op= .call {callee:= .builtin .append,args:= #[x,y],argTypes:= #[t,t]}) (h1:iJ TI t=some ⟨.sl e ek eb,k,zz⟩) (h2:Nat.ble eb 2048=true) (h3:Gu (U:=U) e ek e=true) (h4:dV s x= .l px) (h5:dV s y= .l py)
  (h6:apD s e px=some (i,d,l,s1)) (h7:apS Y s1.m e i py=some (l',ids,d')) (hg:aV l l'):
  SO P Y.C E a w o (.l (.own i (Nat.succ s1.m.k))) ⟨s1.t,⟨Si (Nat.succ s1.m.k) ids (upd s1.m.o i ⟨.tree e (d&&d') (l++l'),Nat.succ s1.m.k,Nat.succ s1.m.k⟩),Nat.succ s1.m.k,s1.m.ns⟩,s1.fr⟩ false:=λK Q hK=>by
 have hsl:=(zX (bT hTI h1) rfl).1;obtain⟨_,_,_,_,_,_,_,_,hk0⟩:=fA hsl;simp only[Gu,aa] at h3;have hKe:U.K e=ek:=ah h3.2;have hke:0<U.K e:=by rw[hKe];exact hk0
 obtain⟨β1,tr,rv,cv,r1,e1,e2,e3,e4,e5,e6,_⟩:=bGs r hke h4 h6;have h5':dV s1 y= .l py:=by rw[<-h5];unfold dV uA;rw[e1,e2]
 obtain⟨hJ,A,c,news,q1,q2,q3,B,q4,q5,q6⟩:=aV2 hY r1 hke (lZ r1 h5') h7;have hok:=r1.hp.ok i tr _ e4 e5;obtain⟨_,xs,c1,c2⟩:=hok;have hb':eb<=2048:=bf h2;unfold aV at hg;rw[hKe] at c1 q2;obtain⟨v',w',a1,a2,a3,a4⟩:=aJr (P:=P) (ty:=o.type) hsl c1 (A:=A) (c:=c) q2 q3 q4.ones (by unfold maxLen;omega) (by
  calc (l.length+l'.length)*eb<=68719476736*2048:=ig hg hb'
   _=140737488355328:=by decide)
 obtain⟨t2,t3,t4,t5⟩:=bKh a2 (tr.bs++B);have htv:tr.val.ownBlock=tr.b:=by cases h:tr.b<;>simp[Tr.val,Value.ownBlock,h]
 rw[htv] at a3 a4;rw[<-t4] at a4;have hnd:=r1.hp.nd i tr e4;have hBd:∀b∈B,b∉tr.all:=λb hb hb'=>by
  obtain⟨j,hj,u,hu,hub⟩:=wI (q5 b hb);exact r1.hp.dist j i u tr b (λe=>(cw.1 hJ).1 (e▸hj)) hu e4 hub hb'
 have hlt:∀b∈B,b<w.heap.size:=λb hb=>by
  obtain⟨j,hj,u,hu,hub⟩:=wI (q5 b hb);exact(r1.hp.new j u b hu hub).2
 have hne:∀b,(b∈tr.bs\/b∈B)->some b≠tr.b:=λb hb e=>by
  rcases hb with hb|hb
  ·have h':b∈tr.b.toList:=by rw[<-e];simp
   exact(dm.1 hnd).2.2 b h' b hb rfl
  ·exact hBd b hb (Tr.root e.symm)
 obtain⟨β',r2,r3,_⟩:=r1.turn (w':=w') (J:=ids) (ob:= .tree e (d&&d') (l++l')) (rv:=s1.m.k+1) (t':=t2) e5 e4 hJ a3.size a3.os a3.tape a3.output
  (λb hb hn=>a3.block b hb (λe=>hn (Tr.root e.symm)))
  (λb hb=>by
   simp only[Tr.all,t5,bz,iw] at hb;rcases hb with hb|hb|hb
   ·rcases a4 with h|h
    ·have hb2:tr.b=some b:=by rw[<-h];exact hb
     exact⟨cg (r1.hp.new i tr b e4 (Tr.root hb2)).2 a3.size, .inr (.inl (Tr.root hb2))⟩
    ·rw[h] at hb;have hb2:b=w.heap.size:=by simpa using hb.symm
     refine⟨?_, .inl (by omega)⟩;have:=a2.lt b (by rw[<-t4,h,hb2]);exact this.2
   ·exact⟨cg (r1.hp.new i tr b e4 (by simp[Tr.all,hb])).2 a3.size, .inr (.inl (by simp[Tr.all,hb]))⟩
   ·obtain⟨j,hj,u,hu,hub⟩:=wI (q5 b hb);exact⟨cg (hlt b hb) a3.size, .inr (.inr ⟨j,hj,u,hu,hub⟩)⟩)
  (by
   have hbs:(tr.bs++B).Nodup:=by rw[dm];refine⟨(dm.1 hnd).2.1,q6,λb hb b' hb' e=> ?_⟩;subst e;exact hBd b hb' (by simp[Tr.all,hb])
   rw[Tr.all,t5,dm];refine⟨by cases t2.b<;>simp,hbs,λb hb b' hb' e=> ?_⟩;subst e;have hb2:t2.b=some b:=by simpa using hb
   rcases a4 with h|h
   ·rw[h] at hb2;exact hne b (by simpa using hb') hb2.symm
   ·rw[h] at hb2;injection hb2 with hb2;rcases bz.1 hb' with hb'|hb'
    ·have:=(r1.hp.new i tr b e4 (by simp[Tr.all,hb'])).2;omega
    ·have:=hlt b hb';omega)
  (.inr rfl) (λh=>by cases h) (λβ' m' hev=>by
   refine⟨hke,xs++news,?_,?_⟩
   ·rw[t3,au,hKe];exact a2
   ·rw[cT,ey,t5];have hsoft:(d&&d')=true->d=true:=λh=>by simp at h;exact h.1
    have hsoft':(d&&d')=true->d'=true:=λh=>by simp at h;exact h.2
    exact OwL.app ((c2.conv hev.sz hev.hX hev.hc (λb hb=>a3.block b (r1.hp.new i tr b e4 (by simp[Tr.all,hb])).2 (hne b (.inl hb)))).fl hsoft)
     ((q4.conv hev.sz hev.hX hev.hc (λb hb=>a3.block b (hlt b hb) (hne b (.inr hb)))).fl hsoft'))
 refine wpo (w':=w') (v:=v') (.inl ?_) (hK _ _ β' r2 (λ_=> ?_) (λh=>by cases h))
 ·simp only[execOp,ho,resolve,invoke,builtin,Sem.run_bind,Sem.run_pure,Result.andThen_ok,jg,bm,ex,e6,q1,a1]
 ·refine⟨⟨aj _,by rw[<-t3];rfl⟩,⟨.tree e (d&&d') (l++l'),s1.m.k+1,s1.m.k+1⟩,t2,?_,r3,λ_=>t3.symm⟩;rw[wH (cw.1 hJ).1,bZ,bg (lt_of_some e5)]
def aKh {t ty e:TypeId}{i:TypeInfo}(ht:P.underlying t=some (.slice e))(hi:P.info? e=some i)(gg o sLen sCap:Nat)(cur:Array Value)(hg:w.heap[gg]? =some (.cells cur e (0,0)))
  (p:Addr) (m c:Nat) (news:List Value) (hl:news.length=m*i.size) (hnews:∀j u,news[j]? =some u->w.cell? (p.add j)=some u) (h1:∀u∈news,u.oneCell'=true)
  (hroom:sLen+m<=sCap) (hfit:o+sLen*i.size+news.length<=cur.size):
  (Builtin.append_ #[t,t] ty #[.slice (some ⟨gg,o,none⟩) sLen sCap, .slice (some p) m c]).run P w=
   .ok (.slice (some ⟨gg,o,none⟩) (sLen+m) sCap) (w.setRow gg (cur.toList.take (o+sLen*i.size)++news++cur.toList.drop (o+sLen*i.size+news.length)).toArray):=by
 have hf:=run_firstCells_some (P:=P) w i.size m p m c news hl hnews;have hst:=run_storeCells_at P gg (o+sLen*i.size) e news 0 cur w hg (by simpa using hfit) h1;simp only[eg] at hst;simp[Builtin.append_,run_underlying ht,sizeOf,typeInfo,hi,Builtin.lenOf,hroom,hf,fG,hst]
def aKi {t ty e k bts:Nat}(ht:slB P t e k bts=true){u:Tr}{n q:Nat}{xs:List Value}(hown:w.ownsRow 0 e k u.val n xs)(hq:q<=n){A:Option Addr}{m c:Nat}{news:List Value}(hl:news.length=m*k)(hm0:0<m)
  (hsrc:m=0\/∃p,A=some p/\∀j u,news[j]? =some u->w.cell? (p.add j)=some u) (h1:∀u∈news,u.oneCell'=true) (hm:n+m<=maxLen) (hb:(n+m)*bts<=140737488355328):
  ∃(v':Value) (w':World) (b' c' n' q':Nat) (ys:List Value),(Builtin.append_ #[t,t] ty #[aCh k u q n, .slice A m c]).run P w= .ok v' w'/\w'.ownsRow 0 e k (.slice (some ⟨b',0,none⟩) n' c') n' (ys++news)/\w.grownBy w' u.b/\
   v'= .slice (if c'=q' then some ⟨b',0,none⟩ else some (Addr.add ⟨b',0,none⟩ (q'*k))) (n'-q') (c'-q')/\
   ((u.b=some b'/\q'=q/\n'=n+m/\ys=xs)\/(b'=w.heap.size/\q'=0/\n'=n-q+m/\ys=xs.drop (q*k))):=by
 obtain⟨hu,i,z,hi,hz,hik,hib,hzk,hk0⟩:=fA ht;subst hik;subst hib;obtain⟨p,hA,hnews⟩:∃p,A=some p/\∀j u,news[j]? =some u->w.cell? (p.add j)=some u:=hsrc.resolve_left (by omega);subst hA;have hxl:=hown.1;have hdl:(xs.drop (q*i.size)).length=(n-q)*i.size:=by rw[cn,hxl,Nat.sub_mul]
 have hlen:(xs.drop (q*i.size)++news).length=(n-q+m)*i.size:=by rw[au,hdl,hl,dr]
 have h63:n+m<=9223372036854775807:=by simp only[maxLen] at hm;omega
 have grown:∀(old:Nat),old<n-q+m->(w.drew.alloc (.cells ((xs.drop (q*i.size)).toArray++news.toArray++Builtin.zeroCells z.cells (grownCap w (n-q+m) old e-(n-q+m))) e)).ownsRow 0 e i.size
    (.slice (some ⟨w.heap.size,0,none⟩) (n-q+m) (grownCap w (n-q+m) old e)) (n-q+m) (xs.drop (q*i.size)++news)/\
   w.grownBy (w.drew.alloc (.cells ((xs.drop (q*i.size)).toArray++news.toArray++Builtin.zeroCells z.cells (grownCap w (n-q+m) old e-(n-q+m))) e)) u.b:=by
  intro old ho;have hge:=grownCap_ge w (n-q+m) old e;have hcm:grownCap w (n-q+m) old e<=maxLen:=grownCap_le_maxLen w (n-q+m) old e (by omega);refine⟨⟨hlen, .inr ⟨w.heap.size,_,_,rfl,cx _,heap_alloc_new w.drew _,hge,hcm,?_,?_⟩⟩,⟨rfl,rfl,rfl,by simp,λk hk _=>heap_alloc_old w.drew _ hk⟩⟩
  ·simp only[jd,fR,size_zeroCells,hzk,hdl,hl,<-dr];congr 1;omega
  ·simp only[Array.toList_append,cf];rw[<-cf,<-hlen];exact gm
 rcases dR hown with⟨b1,b2,b3,b4,b5⟩|⟨b,cur,b1,b2,b3,b4,b5,b6,b7⟩
 ·have hq0:q=0:=by omega
  subst b2;subst b3;subst hq0;have hs:aCh i.size u 0 0= .slice none 0 0:=by simp[aCh,b1,b5]
  have hr:=run_append_nil (P:=P) w t ty e i z hu hi hz p m c news hl hnews (by omega) (by omega) (by simp only[ca] at hb;omega);have hgr:=grown 0 (by omega);simp only[fm,ca,List.drop_nil,bn,Array.empty_append,Nat.zero_mul] at hgr;refine⟨_,_,_,_,_,0,[],by rw[hs];exact hr,by simpa using hgr.1,hgr.2,?_, .inr ⟨rfl,rfl,by simp,by simp⟩⟩;have hge:=grownCap_ge w m 0 e;rw[cX (by omega)];simp[Addr.add]
 ·by_cases hroom:n+m<=u.c
  ·have hcq:¬u.c=q:=by omega
   have hs:aCh i.size u q n= .slice (some ⟨b,q*i.size,none⟩) (n-q) (u.c-q):=by simp[aCh,b1,hcq,fG]
   have hqn:q*i.size+(n-q)*i.size=n*i.size:=by rw[<-dr];congr 1;omega
   have hfit:q*i.size+(n-q)*i.size+news.length<=cur.size:=by rw[hqn,hl,b6,<-dr];exact en _ hroom
   have hr:=aKh (P:=P) (w:=w) (ty:=ty) hu hi b (q*i.size) (n-q) (u.c-q) cur b5 p m c news hl hnews h1 (by omega) hfit;rw[hqn] at hr hfit;refine⟨_,_,b,u.c,n+m,q,xs,by rw[hs];exact hr,⟨by rw[au,hxl,hl,dr], .inr ⟨b,u.c,_,rfl,cx _,setRow_heap w b cur _ e _ b5,hroom,b4,?_,?_⟩⟩,⟨rfl,rfl,rfl,by simp,λk _ hk=>setRow_other w b k _ (λe=>hk (by rw[b1,e]))⟩,?_, .inl ⟨b1,rfl,rfl,rfl⟩⟩
   ·simp only[fR,au,ce,cn,cy];omega
   ·rw[b7,show(n+m)*i.size=(xs++news).length by rw[au,hxl,hl,dr]];exact gm
   ·rw[cX hcq,fG,ca];congr 1<;>omega
  ·have holds:∀(p':Addr),(∀j,p'.add j=⟨b,q*i.size+j,none⟩)->∀j u',(xs.drop (q*i.size))[j]? =some u'->w.cell? (p'.add j)=some u':=λp' hp j u' hj=>by
    rw[hp];have:=pX hown b1 (i:=q*i.size+j) (by simpa using hj);rw[fG] at this;simpa using this
   have hgr:=grown (u.c-q) (by omega);have hge:=grownCap_ge w (n-q+m) (u.c-q) e;have hfits:=growslice_fits (old:=u.c-q) (need:=n-q+m) (bytes:=i.bytes) (by omega) (bu (en _ (by omega)) hb);refine⟨.slice (some ⟨w.heap.size,0,none⟩) (n-q+m) (grownCap w (n-q+m) (u.c-q) e),_,w.heap.size,grownCap w (n-q+m) (u.c-q) e,n-q+m,0,_,?_,hgr.1,hgr.2,by rw[cX (by omega)];simp[Addr.add], .inr ⟨rfl,rfl,rfl,rfl⟩⟩;by_cases hcq:u.c=q
   ·have hqn:n-q=0:=by omega
    have hs:aCh i.size u q n= .slice (some ⟨b,0,none⟩) (n-q) (u.c-q):=by simp[aCh,b1,hcq]
    rw[hs];refine run_append_grow (P:=P) w t ty e i z hu hi hz ⟨b,0,none⟩ (n-q) (u.c-q) _ hdl (λj u' hj=> ?_) p m c news hl hnews (by omega) (by omega) hfits;have:j<(n-q)*i.size:=by rw[<-hdl];exact lt_of_some hj
    rw[hqn] at this;omega
   ·have hs:aCh i.size u q n= .slice (some ⟨b,q*i.size,none⟩) (n-q) (u.c-q):=by simp[aCh,b1,hcq,fG]
    rw[hs];exact run_append_grow (P:=P) w t ty e i z hu hi hz ⟨b,q*i.size,none⟩ (n-q) (u.c-q) _ hdl (holds _ λj=>by rw[fG]) p m c news hl hnews (by omega) (by omega) hfits
def aGy (hTI:pY P TI=true)(hY:LayOk Y)(r:bE Y.C E s a w β){o:Oper}{t:TypeId}{x y:Operand}{e ek eb k i c:Nat}{zz:List Kz}{py:Lf U}{d':Bool}{n:Int}{l l':List (U.El e)}
  (ho:o.op= .call {callee:= .builtin .append,args:= #[x,y],argTypes:= #[t,t]}) (h1:iJ TI t=some ⟨.sl e ek eb,k,zz⟩) (h2:Nat.ble eb 2048=true) (h3:Gu (U:=U) e ek e=true) (h4:dV s x= .l (.suf i c e n l)) (h5:dV s y= .l py)
  (h6:okv s.m i c=true) (h7:apS Y s.m e i py=some (l',[],d')) (hne:1<=l'.length) (hg:aV l l'):
  SO P Y.C E a w o (.l (.bor i (Nat.succ s.m.k) e (l.drop n.toNat++l'))) ⟨s.t,⟨upd s.m.o i ⟨.dead,Nat.succ s.m.k,Nat.succ s.m.k⟩,Nat.succ s.m.k,s.m.ns⟩,s.fr⟩ false:=λK Q hK=>by
 have hsl:=(zX (bT hTI h1) rfl).1;obtain⟨_,_,_,_,_,_,_,_,hk0⟩:=fA hsl;simp only[Gu,aa] at h3;have hKe:U.K e=ek:=ah h3.2;have hke:0<U.K e:=by rw[hKe];exact hk0
 obtain⟨hJ,A,c0,news,q1,q2,q3,B,q4,q5,q6⟩:=aV2 hY r hke (lZ r h5) h7;have hB:B=[]:=by
  cases B with
  |nil=>rfl
  |cons b B=>have:=q5 b (by simp);simp[jX] at this
 subst hB;obtain⟨_,e',tr,k1,k2,k3⟩:=lZ r h4;obtain⟨e2,g1,g2⟩:=Cz h6;rw[k1] at g1;injection g1 with g1;subst g1;obtain⟨d,a1,a2,a3,a4⟩:=k3 g2;have hok:=r.hp.ok i tr _ k2 k1;rw[a1] at hok;obtain⟨_,xs,c1,c2⟩:=hok;have hb':eb<=2048:=bf h2;unfold aV at hg;rw[hKe] at c1 q2;obtain⟨v',w',b',c',n',q',ys,p1,p2,p3,p4,p5⟩:=aKi (P:=P) (ty:=o.type) hsl c1 a3 (A:=A) (c:=c0) q2 (by omega) q3 q4.ones (by unfold maxLen;omega) (by
  calc (l.length+l'.length)*eb<=68719476736*2048:=ig hg hb'
   _=140737488355328:=by decide)
 obtain⟨L,Bs,hL,hLl,hLd,hBs⟩:∃(L:List (U.El e)) (Bs:List Nat),OwL Y.C w (E.X β) d ys (L.map (Y.C.cel e)).flatten Bs/\n'=L.length+l'.length/\(L++l').drop q'=l.drop n.toNat++l'/\List.Sublist Bs tr.bs:=by
  rcases p5 with⟨_,rfl,rfl,rfl⟩|⟨_,rfl,rfl,rfl⟩
  ·exact⟨l,tr.bs,c2,rfl,by rw[List.drop_append_of_le_length a3],List.Sublist.refl _⟩
  ·have hsp:(l.map (Y.C.cel e)).flatten=((l.take n.toNat).map (Y.C.cel e)).flatten++((l.drop n.toNat).map (Y.C.cel e)).flatten:=by rw[<-ey,<-cT,cE]
   rw[hsp] at c2;obtain⟨v1,v2,B1,B2,e1,e2,o1,o2⟩:=OwL.split c2;have hv1:v1.length=n.toNat*ek:=by rw[o1.len,Cw (Y.C.hlen e),ce,jl a3,hKe]
   exact⟨l.drop n.toNat,B2,by rw[e1,<-hv1,im];exact o2,by rw[cn],rfl,by rw[e2];exact List.sublist_append_right _ _⟩
 have htv:tr.val.ownBlock=tr.b:=by cases h:tr.b<;>simp[Tr.val,Value.ownBlock,h]
 have hnd:=r.hp.nd i tr k2;let t2:Tr:=⟨some b',n',c',Bs⟩;have hbs:∀b∈Bs,b∈tr.all/\some b≠tr.b:=λb hb=>by
  have hm:=hBs.subset hb;refine⟨by simp[Tr.all,hm],λe=> ?_⟩;have h':b∈tr.b.toList:=by rw[<-e];simp
  exact(dm.1 hnd).2.2 b h' b hm rfl
 have hb2:(b'∈tr.all/\tr.b=some b')\/b'=w.heap.size:=by
  rcases p5 with⟨h,_⟩|⟨h,_⟩
  ·exact .inl ⟨Tr.root h,h⟩
  ·exact .inr h
 have hb'lt:b'<w'.heap.size:=(p2.lt b' rfl).2;obtain⟨β',r2,r3,hev⟩:=r.turn (w':=w') (J:=[]) (ob:= .dead) (rv:=s.m.k+1) (t':=t2) k1 k2 (by simp) p3.size p3.os p3.tape p3.output
  (λb hb hn=>p3.block b hb (λe=>hn (Tr.root e.symm)))
  (λb hb=>by
   simp only[t2,Tr.all,e8,bz,cz] at hb;rcases hb with rfl|hb
   ·exact⟨hb'lt,hb2.elim (λh=> .inr (.inl h.1)) (λh=> .inl (by omega))⟩
   ·exact⟨cg (r.hp.new i tr b k2 (hbs b hb).1).2 p3.size, .inr (.inl (hbs b hb).1)⟩)
  (by
   simp only[t2,Tr.all,e8,fc,cw];refine⟨λh=> ?_,hBs.nodup (dm.1 hnd).2.1⟩;rcases hb2 with h2|h2
   ·exact(hbs b' h).2 h2.2.symm
   ·have:=(r.hp.new i tr b' k2 (hbs b' h).1).2;omega)
  (.inr rfl) (λh=>by cases h) (λ_ _ _=>trivial)
 have hOw:Ow Y.C w' (λb=>E.X β' b\/b∈t2.all) false t2.val (.sl e (L++l')) t2.all:=by
  have hX:∀b,b<w.heap.size->(E.X β' b\/b∈t2.all)->E.X β b:=λb hb h=>h.elim (hev.hX b hb) (λh=>hev.hX b hb (bNz r3 h));refine .sl t2 hke (xs:=ys++news) ?_ ?_
  ·rw[au,hKe,<-hLl];exact p2
  ·rw[cT,ey];have:=OwL.app ((hL.conv hev.sz hX hev.hc (λb hb=>p3.block b (r.hp.new i tr b k2 (hbs b hb).1).2 (hbs b hb).2)).soft) ((q4.conv hev.sz hX hev.hc (λb hb=>by simp at hb)).soft);simpa[t2] using this
 have hRd:=hOw.rd (Z:=λb=>E.X β' b/\b∉t2.all) (λb hb=> .inl hb.1) (λb hb hn=>hn.2 hb);refine wpo (w':=w') (v:=v') (.inl ?_) (hK _ _ β' (by simpa[Si] using r2) (λ_=> ?_) (λh=>by cases h))
 ·simp only[execOp,ho,resolve,invoke,builtin,Sem.run_bind,Sem.run_pure,Result.andThen_ok,jg,bm,ex,a4,hKe,q1,p1]
 ·refine⟨⟨aj _,by rw[p4];rfl⟩,⟨.dead,s.m.k+1,s.m.k+1⟩,t2,?_,r3,λ_=> ?_⟩
  ·simp only[bZ];rw[bg (lt_of_some k1)]
  ·have hle:q'<=n':=by rcases p5 with⟨_,rfl,rfl,_⟩|⟨_,rfl,rfl,_⟩<;>omega
   have:=Rd.sub (A:=some ⟨b',0,none⟩) (n:=n') (c:=c') hRd (a:=q') (b:=n') hle (by rw[bl,au];omega);have e1:((((L++l').map (U.enc e)).take n').drop q')=(l.drop n.toNat++l').map (U.enc e):=by rw[<-hLd,fv,dy (by rw[bl,au];omega)]
   rw[e1] at this;rw[p4,hKe] at*;simpa using this
end
end Go.EV
namespace Go.EV
open Go.RowKit Go.VK
variable {U:Uni} {Y:Lay U} {TI:List (Nat×TInfo)} {P:Program} {g:GI} {E:Env U g}
def wJ:Bool×List (Lf U)->V
 |(true,cs)=> .agg (cs.map Lf.toV)
 |(false,[x])=>x.toV
 |_=> .any
def OwP (C:Cod U)(w:World)(v:Value)(B:List Nat):Bool×List (Lf U)->Prop
 |(true,cs)=>∃vs:List Value,v= .agg vs.toArray/\OwL C w (λ_=>False) true vs cs B
 |(false,cs)=>∃c,cs=[c]/\Ow C w (λ_=>False) true v c B
inductive OwPs (C:Cod U) (w:World):List Value->List (Bool×List (Lf U))->List Nat->Prop
 |n:OwPs C w [] [] []
 |c {v:Value} {x:Bool×List (Lf U)} {B B':List Nat} {vs:List Value} {xs:List (Bool×List (Lf U))} (h:OwP C w v B x) (hr:OwPs C w vs xs B'):OwPs C w (v::vs) (x::xs) (B++B')
def OwR (C:Cod U)(w:World)(v:Value)(cps:List (Bool×List (Lf U)))(B:List Nat):Prop:=
 match cps with
 |[x]=>OwP C w v B x
 |xs=>∃vs:List Value,v= .tuple vs.toArray/\OwPs C w vs xs B
def bMf (P:Program)(g:GI)(C:Cod U)(f:FuncId)(Us:List V)(cps:List (Bool×List (Lf U))):Prop:=
 (∀args w,(callFunc f args).run P w= .ok (.enter f args) w)/\
 ∀(w:World) (X:Nat->Prop) (vs:List Value),g.G w->(∀b,X b->b<w.heap.size)->RdL w X vs Us->
  Calls P f vs.toArray w λe w'=>∃v B,e= .returned v/\Ext w w'/\B.Nodup/\(∀b∈B,w.heap.size<=b)/\OwR C w' v cps B
def bP9 (P:Program)(g:GI)(C:Cod U)(f:FuncId)(b:Bool)(cs ds:List (Lf U))(u:V)(k:Int):Prop:=
 (∀args w,(callFunc f args).run P w= .ok (.enter f args) w)/\
 ∀(w:World) (v v1:Value) (B:List Nat),B.Nodup->(∀w',Bel (·∈B) w w'->g.G w')->OwP C w v B (b,cs)->Rd w (λ_=>False) [] v1 u->
  Calls P f #[v,v1] w λe w'=>e= .returned (.int .i64 k)/\(IntKind.i64.min<=k/\k<=IntKind.i64.max)/\Bel (·∈B) w w'/\∃B',B'.Nodup/\(∀x∈B',x∈B\/w.heap.size<=x)/\OwP C w' v B' (b,ds)
def bMg (P:Program)(g:GI)(f:FuncId)(T:Nat)(cs ds us:List V)(r:V):Prop:=
 (∀args w,(callFunc f args).run P w= .ok (.enter f args) w)/\
 ∀(w:World) (X:Nat->Prop) (b:Nat) (ws vs:List Value),(∀w',Bel (·=b) w w'->g.G w')->(∀x,X x->x<w.heap.size)->X b->w.heap[b]? =some (.cells ws.toArray T (0,0))->RdL w X ws cs->RdL w X vs us->
  Calls P f ((.pointer (some ⟨b,0,none⟩)::vs).toArray) w λe w'=>∃v ws',e= .returned v/\Bel (·=b) w w'/\w'.heap[b]? =some (.cells ws'.toArray T (0,0))/\RdL w' X ws' ds/\Rd w' X [] v r
def zY (P:Program)(g:GI)(Y:Lay U)(f:FuncId)(S:Sum U):Prop:=
 ∀(a:rD U S.ar) (r:rD U S.rs),S.m a=some r->
  (S.wt=false->S.fr=false->VK.Spec P g f ((bY Y S.ar a).map wJ) (λv=>v=mF ((bY Y S.rs r).map wJ)))/\(S.wt=false->S.fr=true->bMf P g Y.C f ((bY Y S.ar a).map wJ) (bY Y S.rs r))/\
  (S.wt=true->S.fr=false->∀b cs u b' ds b'' k,bY Y S.ar a=[(b,cs),u]->bY Y S.rs r=[(b',ds),(b'',[.int .i64 k])]->bP9 P g Y.C f b cs ds (wJ u) k)/\
  (S.wt=true->S.fr=true->∀T ks cs us ds rs,S.ar= .st T::ks->bY Y S.ar a=(true,cs)::us->bY Y S.rs r=(true,ds)::rs->bMg P g f T (cs.map Lf.toV) (ds.map Lf.toV) (us.map wJ) (mF (rs.map wJ)))
section
variable {s:St U} {a:Act} {w w':World} {β:List Tr} {α:Type}
def bE.aCO {C:Cod U}(r:bE C E s a w β){ns':List (Nat×Bool)}(hn:∀(a i:Nat) (f:Bool),s.m.ns[a]? =some (i,f)->∃f',ns'[a]? =some (i,f'))(hc:∀(a i:Nat),ns'[a]? =some (i,true)->(i:Int)+1<=9223372036854775807):
  bE C E ⟨s.t,⟨s.m.o,s.m.k,ns'⟩,s.fr⟩ a w β:=by
 obtain⟨h1,h2⟩:=r.hp.step (s':=⟨s.m.o,s.m.k,ns'⟩) (β':=β) (w':=w) (λ_=>False) (λ_=>False) (aj _) hn hc r.hp.len (aj _) (aj _) rfl rfl rfl (λ_ _ _=>rfl) (λ_ h=>h.elim) (λ_ _ _=>⟨rfl,rfl⟩)
  (λj t b hj ht _=>by rcases hj with h|h;exact h.elim;have:=lt_of_some ht;rw[r.hp.len] at this;omega)
  (λi j t u b hi hj _ ht _ _=>by rcases hi with h|h;exact h.elim;have:=lt_of_some ht;rw[r.hp.len] at this;omega)
  (λj t hj ht=>by rcases hj with h|h;exact h.elim;have:=lt_of_some ht;rw[r.hp.len] at this;omega)
  (λj e hj he=>by rcases hj with h|h;exact h.elim;have:=lt_of_some he;simp only at this;omega)
  (λ_ _ _ _ _ h=>h.elim)
  (λ_ j t e hj ht _=>by rcases hj with h|h;exact h.elim;have:=lt_of_some ht;rw[r.hp.len] at this;omega)
 exact r.go h1 h2
def PO (P:Program)(C:Cod U)(E:Env U g)(a:Act)(w:World)(β:List Tr)(o:Oper)(x:Sv U)(s':St U):Prop:=
 ∃v,(∀w',Ext w w'->(execOp a.eval o).run P w'= .ok (.value v) w')/\bE C E s' a w β/\x.mean C w (E.X β) β s'.m v
def SO.aDJ {C:Cod U}{o:Oper}{x:Sv U}{s':St U}(h:PO P C E a w β o x s'):SO P C E a w o x s' true:=λK Q hK=>by
 obtain⟨v,h1,h2,h3⟩:=h;exact wpo (.inl (h1 w (Ext.refl w))) (hK v w β h2 (λ_=>h3) (λ_=>Ext.refl w))
def bDj (r:bE Y.C E s a w β){o:Oper}{t u:TypeId}{x:Operand}{n:Int}{c i:Nat}(ho:o.op= .binOp .add t x (.const (.int .i64 n)) u)(hn:n=1)(hx:uA s x= .l (.nat c))(hc:s.m.ns[c]? =some (i,true)):
  PO P Y.C E a w β o (.l (.nat (len s.m.ns))) ⟨s.t,⟨s.m.o,s.m.k,s.m.ns++[(Nat.succ i,false)]⟩,s.fr⟩:=by
 subst hn;have hcn:=r.hp.cnt c i hc;have hm:=jL r (x:=x);rw[hx] at hm;obtain⟨i',f,k1,k2,k3⟩:=hm;rw[hc] at k1;injection k1 with k1;injection k1 with k1 _;subst k1;have r1:bE Y.C E ⟨s.t,⟨s.m.o,s.m.k,s.m.ns++[(Nat.succ i,false)]⟩,s.fr⟩ a w β:=r.aCO (λa' j f' h=>⟨f',by rw[aq (lt_of_some h)];exact h⟩) (λa' j h=>by
  by_cases hl:a'<s.m.ns.length
  ·rw[aq hl] at h;exact r.hp.cnt a' j h
  ·rw[ay (by omega)] at h;cases hq:a'-s.m.ns.length with
   |zero=>rw[hq] at h;simp at h
   |succ q=>rw[hq] at h;simp at h)
 have hw:IntKind.i64.wrap ((i:Int)+1)=((Nat.succ i:Nat):Int):=by rw[IntKind.wrap_i64];omega
 have hx':dV s x= .l (.int .i64 (i:Int)):=by unfold dV;rw[hx];simp only[rsv,aS,hc]
 have hy':dV s (.const (.int .i64 (1:Int)))= .l (.int .i64 (1:Int)):=rfl;obtain⟨v,h1,h2⟩:=kL (P:=P) r (λ_=>add (t:=t) (u:=u) (dC hx') (dC hy')) o ho;have hv:v= .int .i64 ((Nat.succ i:Nat):Int):=by rw[<-hw];exact h2.1
 exact⟨v,h1,r1,Nat.succ i,false,by rw[bK];simp,hv,by omega⟩
def Sj {kd:Kd}{x:Lf U}{v:kd.ty U}(h:aGs kd x=some v):x=bNu kd v:=by
 cases kd with
 |int k=>
  cases x with
  |int k' n=>
   have h':(if k'=k then some n else none)=some (show Int from v):=h;split at h'
   ·rename_i e;subst e;have:=ak h';subst this;rfl
   ·cases h'
  |_=>cases h
 |bool=>
  cases x with
  |bool b=>have h':some b=some (show Bool from v):=h;have:=ak h';subst this;rfl
  |_=>cases h
 |str=>
  cases x with
  |str b=>have h':some b=some (show ByteArray from v):=h;have:=ak h';subst this;rfl
  |_=>cases h
 |sl τ=>
  cases x with
  |sl τ' l=>exact bKd (show slq τ τ' l=some v from h)
  |_=>cases h
 |st T=>cases x<;>cases h
def lfs:(ks:List Kd)->rD U ks->List (Lf U)
 |[],_=>[]
 |[k],x=>[bNu k x]
 |k::k'::ks,x=>bNu k x.1::lfs (k'::ks) x.2
def apC {β:Type}:(ks:List Kd)->Cur U β ks->rD U ks->β
 |[],f,_=>f
 |[_],f,x=>f x
 |_::k'::ks,f,x=>apC (k'::ks) (f x.1) x.2
def bBi {β:Type}:∀{ks:List Kd} {f:Cur U β ks} {cs:List (Lf U)} {x:β},kX ks f cs=some x->∃t:rD U ks,cs=lfs ks t/\x=apC ks f t
 |[],f,[],x,h=>⟨(),rfl,(ak h).symm⟩
 |[],f,_::_,x,h=>by cases h
 |k::ks,f,[],x,h=>by cases h
 |[k],f,[c],x,h=>by
  cases hc:aGs k c with
  |none=>simp[kX,hc] at h
  |some a=>simp only[kX,hc] at h;exact⟨a,by rw[Sj hc];rfl,(ak h).symm⟩
 |[k],f,c::_::_,x,h=>by
  cases hc:aGs k c with
  |none=>simp[kX,hc] at h
  |some a=>simp[kX,hc] at h
 |k::k'::ks,f,c::cs,x,h=>by
  cases hc:aGs k c with
  |none=>simp[kX,hc] at h
  |some a=>
   have h':kX (k'::ks) (f a) cs=some x:=by rw[<-h];conv=>rhs;unfold kX;rw[hc]
   obtain⟨t,rfl,rfl⟩:=bBi h';exact⟨(a,t),by rw[Sj hc];rfl,rfl⟩
def aV3 {f:FuncId}{fn:Func}{c:Code}(hf:P.funcs[f]? =some fn)(hb:fn.body=some c)(hn:(fn.name== "runtime.NumGoroutine")=false)(args:Array Value)(w:World):(callFunc f args).run P w= .ok (.enter f args) w:=by
 have hn':¬fn.name= "runtime.NumGoroutine" :=by simpa using hn
 simp[callFunc,hf,hb,hn']
def aQ5 {C:Cod U}(H:Hp C E s.m β w){v:Value}{x y:Lf U}{kd:Kd}(hm:x.mean C w (E.X β) β s.m v)(h:rdn s.m kd x=some y){Z:Nat->Prop}(hZ:∀b,Z b->E.X β b)(hZt:Fz β Z x):
  y.aAZ=true/\Rd w Z [] v y.toV:=by
 by_cases hx:x= .nil
 ·subst hx;obtain rfl:=hm;cases kd with
  |sl τ=>simp only[rdn,ai] at h;subst h;exact⟨rfl, .slice0 (cx _)⟩
  |_=>cases h
 ·have h':rC s.m x=some y:=by cases x<;>first|exact absurd rfl hx|exact h
  exact aQv H hm h' hZ hZt
def aV4 {m:Mm U}{kd:Kd}{ks:List Kd}{x:Lf U}{xs ys:List (Lf U)}(h:rds m (kd::ks) (x::xs)=some ys):∃y ys',rdn m kd x=some y/\rds m ks xs=some ys'/\ys=y::ys':=by
 simp only[rds] at h;cases h1:rdn m kd x with
 |none=>rw[h1] at h;cases h
 |some y=>
  cases h2:rds m ks xs with
  |none=>rw[h1,h2] at h;cases h
  |some ys'=>rw[h1,h2] at h;exact⟨y,ys',rfl,rfl,(ak h).symm⟩
def bGu {Z:Nat->Prop}:∀{xs:List (Lf U)},(Gw xs=true\/∀(i:Nat) (t:Tr) (b:Nat),β[i]? =some t->b∈t.all->¬Z b)->∀x∈xs,Fz β Z x
 |[],_,x,hx=>by simp at hx
 |y::ys,h,x,hx=>by
  rcases aE.1 hx with rfl|hx
  ·exact Fz.of (h.imp (λh=>by simp only[Gw,aa] at h;exact h.1) id)
  ·exact bGu (h.imp (λh=>by simp only[Gw,aa] at h;exact h.2) id) x hx
def aGz:Sv U->List (Lf U)
 | .l x=>[x]
 | .a cs=>cs
 | .t _=>[]
def bGv {Z:Nat->Prop}{x:Sv U}(h:aJy x=true\/∀(i:Nat) (t:Tr) (b:Nat),β[i]? =some t->b∈t.all->¬Z b):∀c∈aGz x,Fz β Z c:=by
 cases x with
 |l x=>intro c hc;simp only[aGz,cz] at hc;subst hc;exact Fz.of h
 |a cs=>exact bGu h
 |t xs=>intro c hc;simp[aGz] at hc
def bBj {Z:Nat->Prop}:∀{xs:List (Sv U)},(lI xs=true\/∀(i:Nat) (t:Tr) (b:Nat),β[i]? =some t->b∈t.all->¬Z b)->∀x∈xs,∀c∈aGz x,Fz β Z c
 |[],_,x,hx=>by simp at hx
 |y::ys,h,x,hx=>by
  rcases aE.1 hx with rfl|hx
  ·exact bGv (h.imp (λh=>by simp only[lI,aa] at h;exact h.1) id)
  ·exact bBj (h.imp (λh=>by simp only[lI,aa] at h;exact h.2) id) x hx
def bDk {C:Cod U}(H:Hp C E s.m β w){Z:Nat->Prop}(hZ:∀b,Z b->E.X β b)(ks:List Kd):∀{xs ys:List (Lf U)} {vs:List Value},rds s.m ks xs=some ys->Ms C w (E.X β) β s.m vs xs->(∀x∈xs,Fz β Z x)->
  vs.length=ys.length/\∀(i:Nat) (v:Value) (y:Lf U),vs[i]? =some v->ys[i]? =some y->Rd w Z [] v y.toV:=by
 induction ks with
 |nil=>
  intro xs ys vs h hM _;cases xs with
  |nil=>have e:ys=[]:=(ak h).symm;have:vs=[]:=bv hM.1;subst this;subst e;simp
  |cons x xs=>cases h
 |cons kd ks ih=>
  intro xs ys vs h hM hf;cases xs with
  |nil=>cases h
  |cons x xs=>
   obtain⟨y,ys',h1,h2,rfl⟩:=aV4 h;cases vs with
   |nil=>have:=hM.1;simp at this
   |cons v vs=>
    have k1:=(aQ5 H (hM.2 0 v x rfl rfl) h1 hZ (hf x (by simp))).2;have k2:=ih h2 ⟨by have:=hM.1;simpa using this,λi u c p q=>hM.2 (i+1) u c (by simpa using p) (by simpa using q)⟩ (λy hy=>hf y (by simp[hy]));refine⟨by simp[k2.1],λi u c p q=> ?_⟩;cases i with
    |zero=>simp at p q;subst p;subst q;exact k1
    |succ i=>exact k2.2 i u c (by simpa using p) (by simpa using q)
def Xm (r:bE Y.C E s a w β){kd:Kd}{x:Sv U}{v:Value}{z:kd.ty U}{Z:Nat->Prop}(hm:x.mean Y.C w (E.X β) β s.m v)(h:Na Y s.m kd x=some z)(hZ:∀b,Z b->E.X β b)(hf:∀c∈aGz x,Fz β Z c):
  Rd w Z [] v (wJ (M0 Y kd z)):=by
 have leaf:∀{y:Lf U},x= .l y->(∀T,kd≠ .st T)->(match rdn s.m kd y with|some q=>aGs kd q|none=>none)=some z->Rd w Z [] v (wJ (M0 Y kd z)):=λ{y} hx hkd h0=>by
  subst hx;cases hr:rdn s.m kd y with
  |none=>rw[hr] at h0;cases h0
  |some q=>
   rw[hr] at h0;have hq:=Sj (show aGs kd q=some z from h0);have:=(aQ5 r.hp hm hr hZ (hf y (by simp[aGz]))).2;rw[hq] at this;cases kd with
   |st T=>exact absurd rfl (hkd T)
   |_=>exact this
 cases kd with
 |st T=>
  cases x with
  |a cs=>
   have h':(match rds s.m (Y.kd T) cs with|some ds=>Y.C.bld T ds|none=>none)=some z:=h;cases hr:rds s.m (Y.kd T) cs with
   |none=>rw[hr] at h';cases h'
   |some ds=>
    rw[hr] at h';obtain⟨vs,rfl,hM⟩:=hm;have hrd:=bDk r.hp hZ _ hr hM hf;rw[Y.C.hmk T ds z h'] at hrd;simp only[M0,wJ];refine .agg (by simp[hrd.1]) (λi u c p q=> ?_);rw[bh] at q;cases hc:(Y.C.cel T z)[i]? with
    |none=>simp[hc] at q
    |some c'=>simp only[hc,cJ,ai] at q;subst q;exact hrd.2 i u c' (by simpa using p) hc
  |l y=>
   have h':(match rdn s.m (.st T) y with|some q=>aGs (.st T) q|none=>none)=some z:=h;cases hr:rdn s.m (.st T) y with
   |none=>rw[hr] at h';cases h'
   |some q=>rw[hr] at h';cases q<;>cases h'
  |t xs=>cases h
 |int k=>cases x with
  |l y=>exact leaf rfl (by simp) h
  |_=>cases h
 |bool=>cases x with
  |l y=>exact leaf rfl (by simp) h
  |_=>cases h
 |str=>cases x with
  |l y=>exact leaf rfl (by simp) h
  |_=>cases h
 |sl τ=>cases x with
  |l y=>exact leaf rfl (by simp) h
  |_=>cases h
def bDl (r:bE Y.C E s a w β){kd:Kd}{x:Sv U}{v:Value}{z:kd.ty U}{Z:Nat->Prop}(hm:x.mean Y.C w (E.X β) β s.m v)(h:Na Y s.m kd x=some z)(hZ:∀b,Z b->E.X β b)(hf:aJy x=true\/∀(i:Nat) (t:Tr) (b:Nat),β[i]? =some t->b∈t.all->¬Z b):
  Rd w Z [] v (wJ (M0 Y kd z)):=Xm r hm h hZ (bGv hf)
def Nh (r:bE Y.C E s a w β){Z:Nat->Prop}(hZ:∀b,Z b->E.X β b)(ks:List Kd):∀{xs:List (Sv U)} {vs:List Value} {z:rD U ks},lQ Y s.m ks xs=some z->vs.length=xs.length->(∀(i:Nat) (v:Value) (x:Sv U),vs[i]? =some v->xs[i]? =some x->x.mean Y.C w (E.X β) β s.m v)->
  (∀x∈xs,∀c∈aGz x,Fz β Z c)->RdL w Z vs ((bY Y ks z).map wJ):=by
 induction ks with
 |nil=>
  intro xs vs z h hl _ _;cases xs with
  |nil=>have:vs=[]:=bv hl;subst this;exact⟨rfl,by simp⟩
  |cons x xs=>cases h
 |cons k ks ih=>
  intro xs vs z h hl hm hf;cases xs with
  |nil=>cases ks<;>cases h
  |cons x xs=>
   cases vs with
   |nil=>simp at hl
   |cons v vs=>
    cases ks with
    |nil=>
     cases xs with
     |cons y ys=>cases h
     |nil=>
      have e:vs=[]:=bv (by simpa using hl);subst e;have k1:=Xm r (hm 0 v x rfl rfl) (show Na Y s.m k x=some z from h) hZ (hf x (by simp));refine⟨rfl,λi u W p q=> ?_⟩;cases i with
      |zero=>simp[bY] at p q;subst p;subst q;exact k1
      |succ i=>simp at p
    |cons k' ks=>
     have h':(match Na Y s.m k x with
      |some a=>match lQ Y s.m (k'::ks) xs with
       |some b=>some ((a,b):rD U (k::k'::ks))
       |none=>none
      |none=>none)=some z:=h
     cases h1:Na Y s.m k x with
     |none=>rw[h1] at h';cases h'
     |some z1=>
      cases h2:lQ Y s.m (k'::ks) xs with
      |none=>rw[h1,h2] at h';cases h'
      |some z2=>
       rw[h1,h2] at h';have e:=(ak h').symm;subst e;have k1:=Xm r (hm 0 v x rfl rfl) h1 hZ (hf x (by simp));have k2:=ih h2 (by simpa using hl) (λi v x p q=>hm (i+1) v x (by simpa using p) (by simpa using q)) (λy hy=>hf y (by simp[hy]));refine⟨by simp[bY,k2.1],λi u W p q=> ?_⟩;cases i with
       |zero=>simp[bY] at p q;subst p;subst q;exact k1
       |succ i=>exact k2.2 i u W (by simpa using p) (by simpa[bY] using q)
def Hf (r:bE Y.C E s a w β){Z:Nat->Prop}(hZ:∀b,Z b->E.X β b)(ks:List Kd):∀{xs:List (Sv U)} {vs:List Value} {z:rD U ks},lQ Y s.m ks xs=some z->vs.length=xs.length->(∀(i:Nat) (v:Value) (x:Sv U),vs[i]? =some v->xs[i]? =some x->x.mean Y.C w (E.X β) β s.m v)->
  (lI xs=true\/∀(i:Nat) (t:Tr) (b:Nat),β[i]? =some t->b∈t.all->¬Z b)->RdL w Z vs ((bY Y ks z).map wJ):=λh hl hm hf=>Nh r hZ ks h hl hm (bBj hf)
end
end Go.EV
namespace Go.EV
open Go.RowKit Go.VK
variable {U:Uni} {Y:Lay U} {TI:List (Nat×TInfo)} {P:Program} {g:GI} {E:Env U g}
section
variable {s:St U} {a:Act} {w w':World} {β:List Tr} {α:Type} {C:Cod U}
mutual
def Ow.aCM {X X':Nat->Prop}{d:Bool}(hd:d=true):∀{v:Value} {x:Lf U} {B:List Nat},Ow C w X d v x B->Ow C w X' d v x B
 |_,_,_, .int h1 h2=> .int h1 h2
 |_,_,_, .bool=> .bool
 |_,_,_, .str h=> .str h
 |_,_,_, .fz h0 _=>by rw[hd] at h0;cases h0
 |_,_,_, .su h0 .. =>by rw[hd] at h0;cases h0
 |_,_,_, .sl t hk hown hc=> .sl t hk hown (OwL.aCM hd hc)
def OwL.aCM {X X':Nat->Prop}{d:Bool}(hd:d=true):∀{vs:List Value} {xs:List (Lf U)} {B:List Nat},OwL C w X d vs xs B->OwL C w X' d vs xs B
 |_,_,_, .n=> .n
 |_,_,_, .c h hr=> .c (Ow.aCM hd h) (OwL.aCM hd hr)
end
def Db {X Z:Nat->Prop}{m:Mm U}{v:Value}{c:Lf U}(hc:c.aAZ=true)(h:Rd w Z [] v c.toV)(hX:(∀b,X b->Z b)\/∀τ l,c≠ .sl τ l):c.mean C w X β m v:=by
 cases c with
 |int k n=>exact h.aAP
 |bool b=>exact h.aAW
 |str b=>exact h.aAT
 |sl τ l=>
  rcases hX with hX|hX
  ·exact Rd.conv h (aj _) (λb _ hb=>hX b hb) (λ_ _ _ h=>h) (λ_ _ h=>h)
  ·exact absurd rfl (hX τ l)
 |_=>cases hc
def bDm (x:Bool×List (Lf U)):Prop:=(∀c∈x.2,c.aAZ=true)/\(x.1=false->∃c,x.2=[c])
def O0 {X Z:Nat->Prop}{m:Mm U}{v:Value}{x:Bool×List (Lf U)}(hx:bDm x)(h:Rd w Z [] v (wJ x))(hX:(∀b,X b->Z b)\/∀c∈x.2,∀τ l,c≠ .sl τ l):Mp C w X β m v x:=by
 obtain⟨b,cs⟩:=x;cases b with
 |false=>obtain⟨c,rfl⟩:=hx.2 rfl;exact⟨c,rfl,Db (hx.1 c (by simp)) h (hX.imp id λh=>h c (by simp))⟩
 |true=>obtain⟨vs,rfl,h2,h3⟩:=Rd.aBA (show Rd w Z [] v (.agg (cs.map Lf.toV)) from h);refine⟨vs.toList,by simp,by simpa using h2,λi u c p q=> ?_⟩;exact Db (hx.1 c (az q)) (h3 i u _ (by simpa using p) (by rw[bh,q];rfl)) (hX.imp id λh=>h c (az q))
def aTo {k:Kd}{x:k.ty U}:bDm (M0 Y k x):=by
 cases k with
 |st T=>exact⟨Y.C.hdat T x,λh=>by cases h⟩
 |_=>exact⟨λc hc=>by simp only[M0,cz] at hc;subst hc;rfl,λ_=>⟨_,rfl⟩⟩
def Dc (ks:List Kd):∀(z:rD U ks),∀x∈bY Y ks z,bDm x:=by
 induction ks with
 |nil=>intro z x hx;simp[bY] at hx
 |cons k ks ih=>
  intro z x hx;cases ks with
  |nil=>simp only[bY,cz] at hx;subst hx;exact aTo
  |cons k' ks=>
   simp only[bY,aE] at hx;rcases hx with rfl|hx
   ·exact aTo
   ·exact ih z.2 x hx
def aV5 (hY:LayOk Y){k:Kd}(h:flatK Y k=true){x:k.ty U}:∀c∈(M0 Y k x).2,∀τ l,c≠ .sl τ l:=by
 cases k with
 |st T=>exact λc hc=>aQ3 hY h hc
 |sl τ=>cases h
 |_=>intro c hc τ l e;simp only[M0,cz] at hc;rw[hc] at e;cases e
def aV6 {k:Kd}{ks:List Kd}(h:xB Y (k::ks)=true):flatK Y k=true/\xB Y ks=true:=by
 have e:xB Y (k::ks)=cond (flatK Y k) (xB Y ks) false:=rfl;rw[e] at h;cases hk:flatK Y k with
 |true=>rw[hk] at h;exact⟨rfl,h⟩
 |false=>rw[hk] at h;cases h
def aYw (hY:LayOk Y)(ks:List Kd):∀(z:rD U ks),xB Y ks=true->∀x∈bY Y ks z,∀c∈x.2,∀τ l,c≠ .sl τ l:=by
 induction ks with
 |nil=>intro z _ x hx;simp[bY] at hx
 |cons k ks ih=>
  intro z h x hx;obtain⟨h1,h2⟩:=aV6 h;cases ks with
  |nil=>simp only[bY,cz] at hx;subst hx;exact aV5 hY h1
  |cons k' ks=>
   simp only[bY,aE] at hx;rcases hx with rfl|hx
   ·exact aV5 hY h1
   ·exact ih z.2 h2 x hx
def aV7 {X Z:Nat->Prop}{m:Mm U}{v:Value}{cps:List (Bool×List (Lf U))}(hc:∀x∈cps,bDm x)(h:Rd w Z [] v (mF (cps.map wJ)))(hX:(∀b,X b->Z b)\/∀x∈cps,∀c∈x.2,∀τ l,c≠ .sl τ l):(vE cps).mean C w X β m v:=by
 have many:(∀x,cps≠[x])->(Sv.t cps:Sv U).mean C w X β m v:=λhn=>by
  have e:mF (cps.map wJ)= .tup (cps.map wJ):=by
   match cps,hn with
   |[],_=>rfl
   |[x],hn=>exact absurd rfl (hn x)
   |_::_::_,_=>rfl
  rw[e] at h;obtain⟨vs,rfl,h2,h3⟩:=h.aCE;refine⟨vs.toList,by simp,by simpa using h2,λi u x p q=> ?_⟩;have hm:=az q;exact O0 (hc x hm) (h3 i u _ (by simpa using p) (by rw[bh,q];rfl)) (hX.imp id λh=>h x hm)
 match cps,many,hc,h,hX with
 |[],many,_,_,_=>exact many (by simp)
 |[x],_,hc,h,hX=>exact sI (O0 (hc x (by simp)) h (hX.imp id λh=>h x (by simp)))
 |_::_::_,many,_,_,_=>exact many (by simp)
def aI6 (r:bE C E s a w β):∀(i:Nat) (t:Tr) (b:Nat),β[i]? =some t->b∈t.all->¬E.X0 b:=λi t b ht hb hx=>by
 rcases(r.hp.new i t b ht hb).1 with h|h
 ·rcases E.h0 b hx with h'|⟨x,h',rfl⟩
  ·omega
  ·exact(r.hp.prm x h').2.2.2 i t ht hb
 ·exact E.hXY b hx h
def De {xa:Array Operand}:∀(i:Nat) (v:Value) (x:Sv U),(xa.toList.map a.eval)[i]? =some v->(xa.toList.map (dV s))[i]? =some x->∃y,v=a.eval y/\x=dV s y:=λi v x p q=>by
 rw[bh] at p q;cases h:xa.toList[i]? with
 |none=>simp[h] at p
 |some y=>simp only[h,cJ,ai] at p q;exact⟨y,p.symm,q.symm⟩
def xH {f:FuncId}{xa:Array Operand}{ats:Array TypeId}{o:Oper}(ho:o.op= .call {callee:= .value (.func f),args:=xa,argTypes:=ats})(h:∀args w,(callFunc f args).run P w= .ok (.enter f args) w):(execOp a.eval o).run P w= .ok (.enter f (xa.toList.map a.eval).toArray) w:=
 aQn (xs:=xa.toList) (by rw[ho]) h
def Ja (hY:LayOk Y)(r:bE Y.C E s a w β){o:Oper}{f:FuncId}{xa:Array Operand}{ats:Array TypeId}{S:Sum U}{z:rD U S.ar}{q:rD U S.rs}(ho:o.op= .call {callee:= .value (.func f),args:=xa,argTypes:=ats})
  (hS:zY P g Y f S) (hz:lQ Y s.m S.ar (xa.toList.map (dV s))=some z) (hmk:S.wt=false) (hfr:S.fr=false) (hff:xB Y S.rs=true\/lI (xa.toList.map (dV s))=true) (hq:S.m z=some q):
  SO P Y.C E a w o (vE (bY Y S.rs q)) s true:=λK Q hK=>by
 have hsp:=(hS z q hq).1 hmk hfr;have hm:∀(i:Nat) (v:Value) (x:Sv U),(xa.toList.map a.eval)[i]? =some v->(xa.toList.map (dV s))[i]? =some x->x.mean Y.C w (E.X β) β s.m v:=λi v x p q=>by
  obtain⟨y,rfl,rfl⟩:=De i v x p q;exact xC r
 have go:∀(Z:Nat->Prop),(∀b,Z b->E.X β b)->(lI (xa.toList.map (dV s))=true\/∀(i:Nat) (t:Tr) (b:Nat),β[i]? =some t->b∈t.all->¬Z b)->((∀b,E.X β b->Z b)\/xB Y S.rs=true)->o.wp P a w K Q:=λZ hZ hf hX=>by
  have hrd:=Hf r hZ _ hz (by simp) hm hf;refine wpc (xH ho hsp.1) (R':=λv w'=>Rd w' Z [] v (mF ((bY Y S.rs q).map wJ))/\Ext w w') ((hsp.2 w Z _ r.hp.gw (λb hb=>r.hp.aCB b (hZ b hb)) hrd).mono ?_) ?_
  ·rintro e w' ⟨v,r',e1,rfl,e3,e4⟩;exact⟨v,e1,e3,e4⟩
  ·rintro v w' ⟨h3,h4⟩;exact hK v w' β (r.ext h4) (λ_=>aV7 (Dc _ q) h3 (hX.imp id λh=>aYw hY _ q h)) (λ_=>h4)
 rcases hff with hff|hff
 ·exact go E.X0 (λb hb=> .inl hb) (.inr (aI6 r)) (.inr hff)
 ·exact go (E.X β) (λ_ h=>h) (.inl hff) (.inl λ_ h=>h)
def aQ6 {Z X:Nat->Prop}{m:Mm U}{i:Nat}{e:EO U}{t:Tr}(he:m.o[i]? =some e)(ht:β[i]? =some t)(hk:e.cv<=m.k)(hZ:∀b,X b/\b∉t.all->Z b){vs:List Value}:
  ∀{cs:List (Lf U)},(∀c∈cs,c.aAZ=true)->vs.length=cs.length->(∀(j:Nat) (v:Value) (c:Lf U),vs[j]? =some v->cs[j]? =some c->Rd w Z [] v c.toV)->Ms C w X β m vs (aOy i e.cv cs):=by
 induction vs with
 |nil=>
  intro cs _ hl _;cases cs with
  |nil=>exact⟨rfl,λj v c h=>by simp at h⟩
  |cons c cs=>simp at hl
 |cons v vs ih=>
  intro cs hd hl h;cases cs with
  |nil=>simp at hl
  |cons c cs=>
   have ih:=ih (cs:=cs) (λx hx=>hd x (by simp[hx])) (by simpa using hl) (λj v c p q=>h (j+1) v c (by simpa using p) (by simpa using q));have h0:=h 0 v c rfl rfl;have hc:∃c',aOy i e.cv (c::cs)=c'::aOy i e.cv cs/\c'.mean C w X β m v:=by
    by_cases hs:∃τ l,c= .sl τ l
    ·obtain⟨τ,l,rfl⟩:=hs;exact⟨.bor i e.cv τ l,rfl,⟨hk,h0.one rfl⟩,e,t,he,ht,λ_=>h0.conv (aj _) (λb _ hb=>hZ b hb) (λ_ _ _ hc=>hc) (λ_ _ h=>h)⟩
    ·refine⟨c,?_,Db (hd c (by simp)) h0 (.inr λτ l e=>hs ⟨τ,l,e⟩)⟩;cases c<;>first|rfl|exact absurd ⟨_,_,rfl⟩ hs
   obtain⟨c',e1,e2⟩:=hc;rw[e1];exact⟨by simp[ih.1],λj u x p q=>by
    cases j with
    |zero=>simp at p q;subst p;subst q;exact e2
    |succ j=>exact ih.2 j u x (by simpa using p) (by simpa using q)⟩
def aQ7 {i c:Nat}:∀{cps:List (Bool×List (Lf U))} {j:Nat},(Iy i c cps)[j]? =(cps[j]?).map λx=>(x.1,aOy i c x.2)
 |[],j=>by simp[Iy]
 |(b,cs)::xs,0=>by simp[Iy]
 |(b,cs)::xs,j+1=>by simp[Iy,aQ7 (cps:=xs)]
def aQ8 {i c:Nat}:∀{cps:List (Bool×List (Lf U))},(Iy i c cps).length=cps.length
 |[]=>rfl
 |(b,cs)::xs=>by simp[Iy,aQ8 (cps:=xs)]
def bGw {i c:Nat}(x:Lf U):∃y,aOy i c [x]=[y]:=by cases x<;>exact⟨_,rfl⟩
def bKi {X Z:Nat->Prop}{m:Mm U}{i:Nat}{e:EO U}{t:Tr}{v:Value}{cps:List (Bool×List (Lf U))}(he:m.o[i]? =some e)(ht:β[i]? =some t)(hk:e.cv<=m.k)(hZ:∀b,X b/\b∉t.all->Z b)(hc:∀x∈cps,bDm x)(h:Rd w Z [] v (mF (cps.map wJ))):
  (vE (Iy i e.cv cps)).mean C w X β m v:=by
 have one:∀{x:Bool×List (Lf U)} {v:Value},bDm x->Rd w Z [] v (wJ x)->Mp C w X β m v (x.1,aOy i e.cv x.2):=λ{x v} hx h=>by
  obtain⟨b,cs⟩:=x;cases b with
  |false=>
   obtain⟨c,rfl⟩:=hx.2 rfl;have:=aQ6 (C:=C) (vs:=[v]) he ht hk hZ (cs:=[c]) (λx hx'=>hx.1 x hx') rfl (λj v' c' p q=>by
    cases j with
    |zero=>simp at p q;subst p;subst q;exact h
    |succ j=>simp at p)
   obtain⟨y,hy⟩:=bGw (i:=i) (c:=e.cv) c;show ∃c',aOy i e.cv [c]=[c']/\c'.mean C w X β m v;rw[hy] at this ⊢;exact⟨y,rfl,this.2 0 v y rfl rfl⟩
  |true=>obtain⟨vs,rfl,h2,h3⟩:=Rd.aBA (show Rd w Z [] v (.agg (cs.map Lf.toV)) from h);exact⟨vs.toList,by simp,aQ6 (C:=C) he ht hk hZ (λc hc=>hx.1 c hc) (by simpa using h2) (λj u c p q=>h3 j u _ (by simpa using p) (by rw[bh,q];rfl))⟩
 have many:(∀x,cps≠[x])->(Sv.t (Iy i e.cv cps):Sv U).mean C w X β m v:=λhn=>by
  have e0:mF (cps.map wJ)= .tup (cps.map wJ):=by
   match cps,hn with
   |[],_=>rfl
   |[x],hn=>exact absurd rfl (hn x)
   |_::_::_,_=>rfl
  rw[e0] at h;obtain⟨vs,rfl,h2,h3⟩:=h.aCE;refine⟨vs.toList,by simp,by rw[aQ8];simpa using h2,λj u x p q=> ?_⟩;rw[aQ7] at q;obtain⟨y,hy,rfl⟩:=eI.1 q;exact one (hc y (az hy)) (h3 j u _ (by simpa using p) (by rw[bh,hy];rfl))
 match cps,many,hc,h with
 |[],many,_,_=>exact many (by simp)
 |[(b,cs)],_,hc,h=>exact sI (one (hc (b,cs) (by simp)) h)
 |(b,cs)::(b',cs')::r,many,_,_=>exact many (by simp)
def bBk {i:Nat}{t:Tr}{Z:Nat->Prop}(ht:β[i]? =some t)(hZ:∀b∈t.all,¬Z b):∀{xs:List (Lf U)},aJz i xs=true->∀c∈xs,Fz β Z c
 |[],_,c,hc=>by simp at hc
 |x::xs,h,c,hc=>by
  have key:(nM x=true\/∃r,x= .own i r)/\aJz i xs=true:=by
   cases x with
   |own j r=>simp only[aJz,aa] at h;have:=ah h.1;subst this;exact⟨.inr ⟨r,rfl⟩,h.2⟩
   |_=>simp only[aJz,aa] at h;exact⟨.inl h.1,h.2⟩
  rcases aE.1 hc with rfl|hc
  ·rcases key.1 with h1|⟨r,rfl⟩
   ·exact Fz.of (.inl h1)
   ·intro j u b ho hu hb;have:i=j:=ak ho;subst this;rw[ht] at hu;injection hu with hu;subst hu;exact hZ b hb
  ·exact bBk ht hZ key.2 c hc
def bN5 (x:Sv U):lsV x=aGz x:=by cases x<;>rfl
def aV8 {i:Nat}{t:Tr}{Z:Nat->Prop}(ht:β[i]? =some t)(hZ:∀b∈t.all,¬Z b):∀{xs:List (Sv U)},aVh i xs=true->∀x∈xs,∀c∈aGz x,Fz β Z c
 |[],_,x,hx=>by simp at hx
 |y::ys,h,x,hx=>by
  simp only[aVh,aa] at h;rcases aE.1 hx with rfl|hx
  ·rw[<-bN5];exact bBk ht hZ h.1
  ·exact aV8 ht hZ h.2 x hx
def aO3 (r:bE Y.C E s a w β){o:Oper}{f:FuncId}{xa:Array Operand}{ats:Array TypeId}{S:Sum U}{z:rD U S.ar}{q:rD U S.rs}(ho:o.op= .call {callee:= .value (.func f),args:=xa,argTypes:=ats})
  (hS:zY P g Y f S) (hz:lQ Y s.m S.ar (xa.toList.map (dV s))=some z) (hmk:S.wt=false) (hfr:S.fr=false) {i c:Nat} (hi:aVi s.m (xa.toList.map (dV s))=some (i,c)) (hq:S.m z=some q):
  SO P Y.C E a w o (vE (Iy i c (bY Y S.rs q))) s true:=λK Q hK=>by
 have hsp:=(hS z q hq).1 hmk hfr;have hm:∀(i:Nat) (v:Value) (x:Sv U),(xa.toList.map a.eval)[i]? =some v->(xa.toList.map (dV s))[i]? =some x->x.mean Y.C w (E.X β) β s.m v:=λi v x p q=>by
  obtain⟨y,rfl,rfl⟩:=De i v x p q;exact xC r
 unfold aVi at hi;split at hi
 ·rename_i i' hf;cases hon:aVh i' (xa.toList.map (dV s)) with
  |false=>rw[hon] at hi;cases hi
  |true=>
   rw[hon] at hi;simp only[ac] at hi;cases hn:nth s.m.o i' with
   |none=>rw[hn] at hi;cases hi
   |some e=>
    rw[hn] at hi;injection hi with hi;injection hi with h1 h2;subst h1;subst h2;have he:s.m.o[i']? =some e:=by rw[<-aS];exact hn
    obtain⟨t,ht⟩:∃t,β[i']? =some t:=by have:=lt_of_some he;rw[<-r.hp.len] at this;exact⟨_,ae this⟩
    have hk:=(r.hp.vers i' e he).2;have hrd:=Nh r (Z:=λb=>E.X β b/\b∉t.all) (λb hb=>hb.1) S.ar hz (by simp) hm (aV8 ht (λb hb h=>h.2 hb) hon);refine wpc (xH ho hsp.1) (R':=λv w'=>Rd w' (λb=>E.X β b/\b∉t.all) [] v (mF ((bY Y S.rs q).map wJ))/\Ext w w') ((hsp.2 w _ _ r.hp.gw (λb hb=>r.hp.aCB b hb.1) hrd).mono ?_) ?_
    ·rintro e' w' ⟨v,r',e1,rfl,e3,e4⟩;exact⟨v,e1,e3,e4⟩
    ·rintro v w' ⟨h3,h4⟩;exact hK v w' β (r.ext h4) (λ_=>bKi he ht hk (λb hb=>hb) (Dc _ q) h3) (λ_=>h4)
 ·cases hi
def aCs {k:Nat}:∀{vs:List Value} {cs:List (Lf U)} {B:List Nat} (n:Nat),OwL C w (λ_=>False) true vs cs B->
  ∃ts:List Tr,ts.length=(rE k n cs).2.length/\(ts.map Tr.all).flatten=B/\(∀(j:Nat) (e:EO U) (t:Tr),(rE k n cs).2[j]? =some e->ts[j]? =some t->e.rv=k/\e.cv=k/\∃τ l xs,e.ob= .tree τ true l/\0<U.K τ/\w.ownsRow 0 τ (U.K τ) t.val l.length xs/\OwL C w (λ_=>False) true xs (l.map (C.cel τ)).flatten t.bs)/\
   ∀(X:Nat->Prop) (β':List Tr) (m':Mm U),k<=m'.k->(∀(j:Nat) (e:EO U) (t:Tr),(rE k n cs).2[j]? =some e->ts[j]? =some t->m'.o[n+j]? =some e/\β'[n+j]? =some t)->Ms C w X β' m' vs (rE k n cs).1
 |_,_,_,n, .n=>⟨[],rfl,rfl,by simp[rE],λ_ _ _ _ _=>⟨rfl,by simp⟩⟩
 |_,_,_,n, .c (v:=v) (x:=x) (vs:=vs) (xs:=xs) h hr=>by
  have flat:∀{y:Lf U} {B:List Nat},Ow C w (λ_=>False) true v y B->(∀τ l,y≠ .sl τ l)->B=[]/\∀(X:Nat->Prop) (β':List Tr) (m':Mm U),y.mean C w X β' m' v:=λ{y B} h hn=>by
   cases h with
   |int h1 h2=>exact⟨rfl,λ_ _ _=>⟨rfl,h1,h2⟩⟩
   |bool=>exact⟨rfl,λ_ _ _=>rfl⟩
   |str h9=>exact⟨rfl,λ_ _ _=>⟨rfl,h9⟩⟩
   |fz=>exact absurd rfl (hn _ _)
   |su=>exact absurd rfl (hn _ _)
   |sl=>exact absurd rfl (hn _ _)
  by_cases hs:∃τ l,x= .sl τ l
  ·obtain⟨τ,l,rfl⟩:=hs;cases h with
   |fz h0=>cases h0
   |su h0=>cases h0
   |sl t hk hown hc=>
    obtain⟨ts,k1,k2,k3,k4⟩:=aCs (k:=k) (Nat.succ n) hr;refine⟨t::ts,by simp[rE,k1],by simp[k2],λj e t' p q=> ?_,λX β' m' hkm hm=> ?_⟩
    ·cases j with
     |zero=>simp only[rE,gA,ai] at p q;subst p;subst q;exact⟨rfl,rfl,τ,l,_,rfl,hk,hown,hc⟩
     |succ j=>exact k3 j e t' (by simpa[rE] using p) (by simpa using q)
    ·have h0:=hm 0 ⟨.tree τ true l,k,k⟩ t (by simp[rE]) rfl;have hr':=k4 X β' m' hkm (λj e t' p q=>by
      have:=hm (j+1) e t' (by simpa[rE] using p) (by simpa using q);rw[show n+(j+1)=Nat.succ n+j by omega] at this;exact this)
     have e1:(rE k n (.sl τ l::xs)).1= .own n k::(rE k (Nat.succ n) xs).1:=rfl;rw[e1];refine⟨by simp[hr'.1],λi u c p q=> ?_⟩;cases i with
     |zero=>simp at p q;subst p;subst q;exact⟨⟨hkm,rfl⟩,_,t,h0.1,h0.2,λ_=>rfl⟩
     |succ i=>exact hr'.2 i u c (by simpa using p) (by simpa using q)
  ·have hn:∀τ l,x≠ .sl τ l:=λτ l e=>hs ⟨τ,l,e⟩;obtain⟨rfl,hm0⟩:=flat h hn;obtain⟨ts,k1,k2,k3,k4⟩:=aCs (k:=k) n hr;have e1:rE k n (x::xs)=(x::(rE k n xs).1,(rE k n xs).2):=by cases x<;>first|rfl|exact absurd rfl (hn _ _)
   rw[e1];refine⟨ts,k1,by simpa using k2,k3,λX β' m' hkm hm=> ?_⟩;have hr':=k4 X β' m' hkm hm;refine⟨by simp[hr'.1],λi u c p q=> ?_⟩;cases i with
   |zero=>simp at p q;subst p;subst q;exact hm0 X β' m'
   |succ i=>exact hr'.2 i u c (by simpa using p) (by simpa using q)
def Xn {k:Nat}:∀{vs:List Value} {cps:List (Bool×List (Lf U))} {B:List Nat} (n:Nat),OwPs C w vs cps B->
  ∃ts:List Tr,ts.length=(jK k n cps).2.length/\(ts.map Tr.all).flatten=B/\(∀(j:Nat) (e:EO U) (t:Tr),(jK k n cps).2[j]? =some e->ts[j]? =some t->e.rv=k/\e.cv=k/\∃τ l xs,e.ob= .tree τ true l/\0<U.K τ/\w.ownsRow 0 τ (U.K τ) t.val l.length xs/\OwL C w (λ_=>False) true xs (l.map (C.cel τ)).flatten t.bs)/\
   ∀(X:Nat->Prop) (β':List Tr) (m':Mm U),k<=m'.k->(∀(j:Nat) (e:EO U) (t:Tr),(jK k n cps).2[j]? =some e->ts[j]? =some t->m'.o[n+j]? =some e/\β'[n+j]? =some t)->
    vs.length=(jK k n cps).1.length/\∀(i:Nat) (v:Value) (x:Bool×List (Lf U)),vs[i]? =some v->(jK k n cps).1[i]? =some x->Mp C w X β' m' v x
 |_,_,_,n, .n=>⟨[],rfl,rfl,by simp[jK],λ_ _ _ _ _=>⟨rfl,by simp⟩⟩
 |_,_,_,n, .c (v:=v) (x:=x) (B:=B0) (vs:=vs) (xs:=xs) h hr=>by
  obtain⟨b,cs⟩:=x;have h1:∃us:List Value,OwL C w (λ_=>False) true us cs B0/\∀(X:Nat->Prop) (β':List Tr) (m':Mm U) (cs':List (Lf U)),Ms C w X β' m' us cs'->cs'.length=cs.length->Mp C w X β' m' v (b,cs'):=by
   cases b with
   |true=>obtain⟨us,rfl,hu⟩:=h;exact⟨us,hu,λ_ _ _ cs' hM _=>⟨us,rfl,hM⟩⟩
   |false=>
    obtain⟨c,rfl,hc⟩:=h;refine⟨[v],by simpa using OwL.c hc .n,λX β' m' cs' hM hl=> ?_⟩
    match cs',hl with
    |[c'],_=>exact⟨c',rfl,hM.2 0 v c' rfl rfl⟩
  obtain⟨us,hu,hMp⟩:=h1;obtain⟨t1,a1,a2,a3,a4⟩:=aCs (k:=k) n hu;obtain⟨t2,b1,b2,b3,b4⟩:=Xn (k:=k) (n+(rE k n cs).2.length) hr;have e1:jK k n ((b,cs)::xs)=((b,(rE k n cs).1)::(jK k (n+(rE k n cs).2.length) xs).1,(rE k n cs).2++(jK k (n+(rE k n cs).2.length) xs).2):=by simp only[jK,bK]
  rw[e1];refine⟨t1++t2,by simp[a1,b1],by simp[a2,b2],λj e t p q=> ?_,λX β' m' hkm hm=> ?_⟩
  ·by_cases hj:j<(rE k n cs).2.length
   ·rw[aq hj] at p;rw[aq (by omega)] at q;exact a3 j e t p q
   ·rw[ay (by omega)] at p;rw[ay (by omega),a1] at q;exact b3 _ e t p q
  ·have m1:=a4 X β' m' hkm (λj e t p q=>by
    have hj:=lt_of_some p;exact hm j e t (by rw[aq hj];exact p) (by rw[aq (by omega)];exact q))
   have m2:=b4 X β' m' hkm (λj e t p q=>by
    have:=hm ((rE k n cs).2.length+j) e t (by rw[ay (by omega)];simpa using p) (by rw[ay (by omega),a1];simpa using q);rw[show n+((rE k n cs).2.length+j)=n+(rE k n cs).2.length+j by omega] at this;exact this)
   refine⟨by simp[m2.1],λi u x p q=> ?_⟩;cases i with
   |zero=>simp at p q;subst p;subst q;exact hMp X β' m' _ m1 (by rw[<-m1.1,hu.len])
   |succ i=>exact m2.2 i u x (by simpa using p) (by simpa using q)
def aTp {v:Value}{cps:List (Bool×List (Lf U))}{B:List Nat}{k n:Nat}(h:OwR C w v cps B):
  ∃ts:List Tr,ts.length=(jK k n cps).2.length/\(ts.map Tr.all).flatten=B/\(∀(j:Nat) (e:EO U) (t:Tr),(jK k n cps).2[j]? =some e->ts[j]? =some t->e.rv=k/\e.cv=k/\∃τ l xs,e.ob= .tree τ true l/\0<U.K τ/\w.ownsRow 0 τ (U.K τ) t.val l.length xs/\OwL C w (λ_=>False) true xs (l.map (C.cel τ)).flatten t.bs)/\
   ∀(X:Nat->Prop) (β':List Tr) (m':Mm U),k<=m'.k->(∀(j:Nat) (e:EO U) (t:Tr),(jK k n cps).2[j]? =some e->ts[j]? =some t->m'.o[n+j]? =some e/\β'[n+j]? =some t)->(vE (jK k n cps).1).mean C w X β' m' v:=by
 have many:(∀x,cps≠[x])->(∃vs:List Value,v= .tuple vs.toArray/\OwPs C w vs cps B)->∃ts:List Tr,ts.length=(jK k n cps).2.length/\(ts.map Tr.all).flatten=B/\(∀(j:Nat) (e:EO U) (t:Tr),(jK k n cps).2[j]? =some e->ts[j]? =some t->e.rv=k/\e.cv=k/\∃τ l xs,e.ob= .tree τ true l/\0<U.K τ/\w.ownsRow 0 τ (U.K τ) t.val l.length xs/\OwL C w (λ_=>False) true xs (l.map (C.cel τ)).flatten t.bs)/\
   ∀(X:Nat->Prop) (β':List Tr) (m':Mm U),k<=m'.k->(∀(j:Nat) (e:EO U) (t:Tr),(jK k n cps).2[j]? =some e->ts[j]? =some t->m'.o[n+j]? =some e/\β'[n+j]? =some t)->(vE (jK k n cps).1).mean C w X β' m' v:=λhn ⟨vs,hv,ho⟩=>by
  obtain⟨ts,a1,a2,a3,a4⟩:=Xn (k:=k) n ho;refine⟨ts,a1,a2,a3,λX β' m' hk hm=> ?_⟩;obtain⟨m1,m2⟩:=a4 X β' m' hk hm;have hl:vs.length=cps.length:=by
   have:∀{vs:List Value} {cps:List (Bool×List (Lf U))} {B:List Nat},OwPs C w vs cps B->vs.length=cps.length:=by
    intro vs cps B h;induction h with
    |n=>rfl
    |c _ _ ih=>simp[ih]
   exact this ho
  have e:vE (jK k n cps).1= .t (jK k n cps).1:=by
   have hlen:(jK k n cps).1.length≠1:=by
    rw[<-m1,hl];intro h1
    match cps,hn,h1 with
    |[x],hn,_=>exact hn x rfl
   generalize(jK k n cps).1=ys at hlen
   match ys,hlen with
   |[],_=>rfl
   |[_],h=>exact absurd rfl h
   |_::_::_,_=>rfl
  rw[e];exact⟨vs,hv,m1,m2⟩
 match cps,many,h with
 |[],many,h=>exact many (by simp) h
 |[x],_,h=>
  have h1:OwPs C w [v] [x] B:=by simpa using OwPs.c (h:OwP C w v B x) .n
  obtain⟨ts,a1,a2,a3,a4⟩:=Xn (k:=k) n h1;refine⟨ts,a1,a2,a3,λX β' m' hk hm=> ?_⟩;obtain⟨m1,m2⟩:=a4 X β' m' hk hm;obtain⟨b,cs⟩:=x;have e1:(jK k n [(b,cs)]).1=[(b,(rE k n cs).1)]:=rfl;rw[e1] at m2 ⊢;exact sI (m2 0 v _ rfl rfl)
 |_::_::_,many,h=>exact many (by simp) h
def aG0 (r:bE Y.C E s a w β){o:Oper}{f:FuncId}{xa:Array Operand}{ats:Array TypeId}{S:Sum U}{z:rD U S.ar}{q:rD U S.rs}(ho:o.op= .call {callee:= .value (.func f),args:=xa,argTypes:=ats})
  (hS:zY P g Y f S) (hz:lQ Y s.m S.ar (xa.toList.map (dV s))=some z) (hmk:S.wt=false) (hfr:S.fr=true) (hq:S.m z=some q):
  SO P Y.C E a w o (vE (jK s.m.k (len s.m.o) (bY Y S.rs q)).1) ⟨s.t,⟨s.m.o++(jK s.m.k (len s.m.o) (bY Y S.rs q)).2,s.m.k,s.m.ns⟩,s.fr⟩ true:=λK Q hK=>by
 have hsp:=(hS z q hq).2.1 hmk hfr;have hm:∀(i:Nat) (v:Value) (x:Sv U),(xa.toList.map a.eval)[i]? =some v->(xa.toList.map (dV s))[i]? =some x->x.mean Y.C w (E.X β) β s.m v:=λi v x p q=>by
  obtain⟨y,rfl,rfl⟩:=De i v x p q;exact xC r
 have hrd:=Hf r (Z:=E.X0) (λb hb=> .inl hb) S.ar hz (by simp) hm (.inr (aI6 r));refine wpc (xH ho hsp.1) (R':=λv w'=>∃B,Ext w w'/\B.Nodup/\(∀b∈B,w.heap.size<=b)/\OwR Y.C w' v (bY Y S.rs q) B) ((hsp.2 w E.X0 _ r.hp.gw (λb hb=>r.hp.aCB b (.inl hb)) hrd).mono ?_) ?_
 ·rintro e w' ⟨v,B,e1,e2⟩;exact⟨v,e1,B,e2⟩
 ·rintro v w' ⟨B,he,hnd,hfresh,hR⟩;obtain⟨ts,a1,a2,a3,a4⟩:=aTp (k:=s.m.k) (n:=len s.m.o) hR;generalize hes:(jK s.m.k (len s.m.o) (bY Y S.rs q)).2=es at a1 a3 a4 hK;have hz1:(es.zip ts).map (·.1)=es:=List.map_fst_zip (by omega);have hz2:(es.zip ts).map (·.2)=ts:=List.map_snd_zip (by omega);have hget:∀x∈es.zip ts,∃j,es[j]? =some x.1/\ts[j]? =some x.2:=λx hx=>by
   obtain⟨j,hj⟩:=cV.1 hx;rw[List.getElem?_zip_eq_some] at hj;exact⟨j,hj⟩
  have hB:∀x∈es.zip ts,∀b∈x.2.all,b∈B:=λx hx b hb=>by
   obtain⟨j,_,hj⟩:=hget x hx;rw[<-a2];exact jf.2 ⟨_,cj.2 ⟨_,az hj,rfl⟩,hb⟩
  have r1:=r.add he (es.zip ts) (λx hx=>by
    obtain⟨j,h1,h2⟩:=hget x hx;have:=a3 j x.1 x.2 h1 h2;rw[this.1,this.2.1];exact⟨aj _,aj _⟩)
   (λx hx b hb=>by
    obtain⟨j,h1,h2⟩:=hget x hx;refine⟨hfresh b (hB x hx b hb),?_⟩;obtain⟨_,_,τ,l,xs,_,c2,c3,c4⟩:=a3 j x.1 x.2 h1 h2;have ho:Ow Y.C w' (λ_=>False) true x.2.val (.sl τ l) x.2.all:= .sl x.2 c2 c3 c4;exact ho.lt b hb)
   (by
    have e:((es.zip ts).map λx=>x.2.all)=ts.map Tr.all:=by have:=congrArg (List.map Tr.all) hz2;rw[gO] at this;exact this
    rw[e,a2];exact hnd)
   (λhev x hx=>by
    obtain⟨j,h1,h2⟩:=hget x hx;obtain⟨_,_,τ,l,xs,c1,c2,c3,c4⟩:=a3 j x.1 x.2 h1 h2;rw[c1];exact⟨c2,xs,c3,c4.aCM rfl⟩)
  rw[hz1,hz2] at r1;refine hK v w' _ r1 (λ_=>a4 _ _ _ (aj _) (λj e t p q=> ?_)) (λ_=>he);rw[bK];refine⟨by rw[ay (db _ _),cP];exact p,?_⟩;rw[<-r.hp.len,ay (db _ _),cP];exact q
end
end Go.EV
namespace Go.EV
open Go.RowKit Go.VK
variable {U:Uni} {Y:Lay U} {P:Program} {g:GI} {C:Cod U}
def OwP.rd {w:World}{Z:Nat->Prop}{v:Value}{B:List Nat}:∀{x:Bool×List (Lf U)},OwP C w v B x->(∀b∈B,¬Z b)->Rd w Z [] v (wJ x)
 |(true,cs),h,hB=>by
  obtain⟨vs,rfl,ho⟩:=h;obtain⟨h1,h2⟩:=(OwL.aCM (X':=Z) rfl ho).rd (Z:=Z) (λ_ h=>h) hB;refine .agg (by simpa using h1) λi v c h3 h4=> ?_;rw[bh] at h4;obtain⟨x,h5,rfl⟩:=eI.1 h4;exact h2 i v x (by simpa using h3) h5
 |(false,cs),h,hB=>by
  obtain⟨c,rfl,ho⟩:=h;exact(Ow.aCM (X':=Z) rfl ho).rd (λ_ h=>h) hB
def OwPs.rd {w:World}{Z:Nat->Prop}:∀{vs:List Value} {xs:List (Bool×List (Lf U))} {B:List Nat},OwPs C w vs xs B->(∀b∈B,¬Z b)->vs.length=(xs.map wJ).length/\∀(i:Nat) (v:Value) (c:V),vs[i]? =some v->(xs.map wJ)[i]? =some c->Rd w Z [] v c
 |_,_,_, .n,_=>⟨rfl,λi v c h=>by simp at h⟩
 |_,_,_, .c h hr,hB=>by
  obtain⟨h1,h2⟩:=hr.rd (Z:=Z) λb hb=>hB b (bz.2 (.inr hb));refine⟨by simp only[av,bm,h1],λi v c h3 h4=> ?_⟩;cases i with
  |zero=>simp only[gA,bm,ai] at h3 h4;subst h3;subst h4;exact h.rd λb hb=>hB b (bz.2 (.inl hb))
  |succ i=>exact h2 i v c (by simpa using h3) (by simpa using h4)
def OwR.rd {w:World}{Z:Nat->Prop}{v:Value}{B:List Nat}{cps:List (Bool×List (Lf U))}(h:OwR C w v cps B)(hB:∀b∈B,¬Z b):Rd w Z [] v (mF (cps.map wJ)):=by
 unfold OwR at h;split at h
 ·exact h.rd hB
 ·rename_i hne;obtain⟨vs,rfl,ho⟩:=h;obtain⟨h1,h2⟩:=ho.rd hB;have e:mF (cps.map wJ)= .tup (cps.map wJ):=by
   match cps,hne with
   |[],_=>rfl
   |[x],hne=>exact absurd rfl (hne x)
   |x::y::r,_=>rfl
  rw[e];exact .tup (by simpa using h1) λi v c h3 h4=>h2 i v c (by simpa using h3) h4
def Sum.pl (S:Sum U):Sum U:=⟨S.ar,S.rs,false,S.wt,S.m⟩
def bGx {f:FuncId}{S:Sum U}(h:zY P g Y f S)(hw:S.wt=false)(hf:S.fr=true):zY P g Y f S.pl:=λa r hr=>by
 obtain⟨_,h2,_⟩:=h a r hr;obtain⟨k1,k2⟩:=h2 hw hf;refine⟨λ_ _=>⟨k1,λw X vs hG hX hrd=>(k2 w X vs hG hX hrd).mono λe w' hq=> ?_⟩,λ_ h=>(by cases h),λhh=>(by
  have hh:S.wt=true:=hh;rw[hw] at hh;cases hh),λhh=>(by
  have hh:S.wt=true:=hh;rw[hw] at hh;cases hh)⟩
 obtain⟨v,B,e1,e2,e3,e4,e5⟩:=hq;exact⟨v,_,e1,rfl,e5.rd λb hb hx=>by have:=e4 b hb;have:=hX b hx;omega,e2⟩
end Go.EV
namespace Go.EV
open Go.RowKit Go.VK
variable {U:Uni} {Y:Lay U} {TI:List (Nat×TInfo)} {FZ:List (Nat×Sum U)} {P:Program} {g:GI} {E:Env U g}
section
variable {s:St U} {a:Act} {w:World} {β:List Tr} {α:Type} {C:Cod U}
def Xo:∀{ks:List Kd},aJ1 (U:=U) ks=true->∀kd∈ks,∀τ,kd= .sl τ->0<U.K τ
 |[],_,kd,h,_,_=>by simp at h
 |k::ks,h,kd,hk,τ,e=>by
  cases k with
  |sl τ'=>
   simp only[aJ1,aa] at h;rcases aE.1 hk with rfl|hk
   ·injection e with e;subst e;exact bf h.1
   ·exact Xo h.2 kd hk τ e
  |_=>
   rcases aE.1 hk with rfl|hk
   ·cases e
   ·exact Xo (ks:=ks) h kd hk τ e
def bSf (C:Cod U)(w:World)(t:Tr)(τ:Nat)(L:List (U.El τ)):Prop:=0<U.K τ/\∃xs,w.ownsRow 0 τ (U.K τ) t.val L.length xs/\OwL C w (λ_=>False) true xs (L.map (C.cel τ)).flatten t.bs
structure Hd (C:Cod U) (m:Mm U) (w:World) (β:List Tr) (v:Value) (y':Lf U) (i:Nat) (e:EO U) (t:Tr) (B:List Nat):Prop where
 ht:β[i]? =some t
 he:∃e0 τ L,m.o[i]? =some e0/\e0.ob.aAX=false/\e=⟨.tree τ true L,e0.rv,Nat.succ m.k⟩
 sub:∀b∈B,b∈t.all
 back:∀w' B',w.heap.size<=w'.heap.size->Ow C w' (λ_=>False) true v y' B'->(∀b∈t.all,b∉B->w'.heap[b]? =w.heap[b]?)->
  ∃t' τ L,t'.val=t.val/\(∀b∈t'.all,b∈B'\/(b∈t.all/\b∉B))/\(B'.Nodup->(∀b∈B',b∈t.all->b∈B)->t'.all.Nodup)/\e.ob= .tree τ true L/\bSf C w' t' τ L
structure Wo (U:Uni) where
 i:Nat
 e:EO U
 t:Tr
 B:List Nat
 v:Value
 y:Lf U
end
end Go.EV
namespace Go.EV
open Go.RowKit Go.VK
variable {U:Uni} {Y:Lay U} {TI:List (Nat×TInfo)} {FZ:List (Nat×Sum U)} {P:Program} {g:GI} {E:Env U g}
structure Good (P:Program) (g:GI) (Y:Lay U) (TI:List (Nat×TInfo)) (FZ:List (Nat×Sum U)):Prop where
 ti:pY P TI=true
 lay:LayOk Y
 fs:∀(f:Nat) (S:Sum U),(f,S)∈FZ->zY P g Y f S
structure Am (m m':Mm U):Prop where
 k:m.k<=m'.k
 ns:∀(a i:Nat) (f:Bool),m.ns[a]? =some (i,f)->∃f',m'.ns[a]? =some (i,f')
 ol:m.o.length<=m'.o.length
 o:∀(i:Nat) (e e':EO U),m.o[i]? =some e->m'.o[i]? =some e'->(e'.cv<=m.k->e'=e)/\(e'.ob.aAX=true->e.ob.aAX=true)/\
  ∀T cs vs T' cs' vs',e.ob= .box T cs vs->e'.ob= .box T' cs' vs'->T'=T/\cs'.length=cs.length/\vs'.length=vs.length/\∀(j v:Nat),vs'[j]? =some v->v<=m.k->cs'[j]? =cs[j]? /\vs[j]? =some v
def Am.refl (m:Mm U):Am m m:=⟨aj _,λ_ _ f h=>⟨f,h⟩,aj _,λi e e' h h'=>by
 rw[h] at h';injection h' with h';subst h';refine⟨λ_=>rfl,id,λT cs vs T' cs' vs' h1 h2=> ?_⟩;rw[h1] at h2;injection h2 with a b c;subst a;subst b;subst c;exact⟨rfl,rfl,rfl,λj v hv _=>⟨rfl,hv⟩⟩⟩
def Am.trans {m m' m'':Mm U}(h:Am m m')(h':Am m' m''):Am m m'':=by
 refine⟨bu h.k h'.k,λa i f hf=> ?_,bu h.ol h'.ol,λi e e'' he he''=> ?_⟩
 ·obtain⟨f',h1⟩:=h.ns a i f hf;exact h'.ns a i f' h1
 ·have hl:i<m'.o.length:=cg (lt_of_some he) h.ol;obtain⟨a1,a2,a3⟩:=h.o i e _ he (ae hl);obtain⟨b1,b2,b3⟩:=h'.o i _ e'' (ae hl) he'';refine⟨λhc=> ?_,λhb=>a2 (b2 hb),λT cs vs T'' cs'' vs'' h1 h2=> ?_⟩
  ·have e1:=b1 (bu hc h.k);rw[e1] at hc ⊢;exact a1 hc
  ·have hb:(m'.o[i]).ob.aAX=true:=b2 (by rw[h2];rfl);cases hm:(m'.o[i]).ob with
   |box T' cs' vs'=>obtain⟨p1,p2,p3,p4⟩:=a3 T cs vs T' cs' vs' h1 hm;obtain⟨q1,q2,q3,q4⟩:=b3 T' cs' vs' T'' cs'' vs'' hm h2;refine⟨q1.trans p1,q2.trans p2,q3.trans p3,λj v hv hvk=> ?_⟩;obtain⟨r1,r2⟩:=q4 j v hv (bu hvk h.k);obtain⟨r3,r4⟩:=p4 j v r2 hvk;exact⟨r1.trans r3,r4⟩
   |_=>rw[hm] at hb;cases hb
def Am.add (m:Mm U)(es:List (EO U)):Am m ⟨m.o++es,m.k,m.ns⟩:=by
 refine⟨aj _,λ_ _ f h=>⟨f,h⟩,by simp,λi e e' he he'=> ?_⟩;have h2:(m.o++es)[i]? =some e:=by rw[aq (lt_of_some he)];exact he
 simp only at he';rw[h2] at he';exact(Am.refl m).o i e e' he (he.trans he')
def Am.aCO (m:Mm U){ns':List (Nat×Bool)}(h:∀(a i:Nat) (f:Bool),m.ns[a]? =some (i,f)->∃f',ns'[a]? =some (i,f')):Am m ⟨m.o,m.k,ns'⟩:=⟨aj _,h,aj _,(Am.refl m).o⟩
def Am.turn (m:Mm U){i:Nat}{ids:List Nat}{ob:Ob U}{rv:Nat}(hb:ob.aAX=true->∀e,m.o[i]? =some e->e.ob.aAX=true/\∀T cs vs T' cs' vs',e.ob= .box T cs vs->ob= .box T' cs' vs'->T'=T/\cs'.length=cs.length/\vs'.length=vs.length/\∀(j v:Nat),vs'[j]? =some v->v<=m.k->cs'[j]? =cs[j]? /\vs[j]? =some v):
  Am m ⟨Si (Nat.succ m.k) ids (upd m.o i ⟨ob,rv,Nat.succ m.k⟩),Nat.succ m.k,m.ns⟩:=by
 refine⟨eo _,λ_ _ f h=>⟨f,h⟩,by rw[Gz,bZ,ax];exact aj _,λj e e' he he'=> ?_⟩;simp only at he';by_cases hj:j∈ids
 ·rw[aCq hj (by rw[bZ,ax];exact lt_of_some he)] at he';injection he' with he';subst he';exact⟨λh=>(by simp only at h;omega),λh=>(by cases h),λ_ _ _ _ _ _ _ h=>(by cases h)⟩
 ·rw[wH hj,bZ] at he';by_cases hij:i=j
  ·subst hij;rw[bg (lt_of_some he)] at he';injection he' with he';subst he';refine⟨λh=>by simp only at h;omega,λh=>(hb h e he).1,λT cs vs T' cs' vs' h1 h2=> ?_⟩
   have hbx:ob.aAX=true:=by simp only at h2;rw[h2];rfl
   exact(hb hbx e he).2 T cs vs T' cs' vs' h1 h2
  ·rw[bj hij] at he';exact(Am.refl m).o j e e' he he'
def Am.tree (m:Mm U){i:Nat}{ids:List Nat}{τ:Nat}{d:Bool}{l:List (U.El τ)}{rv:Nat}:Am m ⟨Si (Nat.succ m.k) ids (upd m.o i ⟨.tree τ d l,rv,Nat.succ m.k⟩),Nat.succ m.k,m.ns⟩:=Am.turn m (λh=>by cases h)
section
variable {s:St U} {a:Act} {w:World} {β:List Tr} {α:Type}
def bDn (r:bE Y.C E s a w β){o:Oper}{ta tb e:Nat}{x:Operand}{z:ByteArray}(ho:o.op= .convert ta tb x)(hs:P.underlying ta=some .string)(hd:P.underlying tb=some (.slice e))(he:P.underlying e=some (.int .u8))(hx:dV s x= .l (.str z)):SO P Y.C E a w o (.l (.sl Y.bt ((bR z).map Y.be))) s true:=λK Q hK=>by
 obtain⟨h1,h2⟩:=(lZ r hx:(Lf.str z:Lf U).mean Y.C w (E.X β) β s.m (a.eval x));have hE:Ext w (Lib.bytesWorld w e z):=⟨rfl,rfl,rfl,by rw[Lib.bytesWorld_size];omega,λb hb=>Lib.bytesWorld_at_old w e z b hb⟩;refine wpo (w':=Lib.bytesWorld w e z) (v:= .slice (some ⟨w.heap.size,0,none⟩) z.size (grownCap w z.size 0 e)) (.inl (by simp[execOp,ho,h1,Lib.run_convert_string_bytes (P:=P) w ta tb e z hs hd he])) (hK _ _ β (r.ext hE) (λ_=> ?_) (λ_=>hE));have hen:∀n,U.enc Y.bt (Y.be n)=[V.int .u8 n]:=λn=>by
  rw[<-Y.C.hcel Y.bt (Y.be n),Y.hb,Y.hbe];rfl
 have hk:U.K Y.bt=1:=by rw[<-Y.C.hlen Y.bt (Y.be 0),Y.hb];rfl
 have el:((bR z).map Y.be).map (U.enc Y.bt)=z.data.toList.map yV:=by rw[gO];have:(U.enc Y.bt∘Y.be)=λn=>[V.int .u8 n]:=funext hen;rw[this];simp[bR,yV]
 show Rd _ (E.X β) [] _ (.slice (U.K Y.bt) (((bR z).map Y.be).map (U.enc Y.bt)));rw[el,hk];have hc:=grownCap_le_maxLen w z.size 0 e h2;have hg:=grownCap_ge w z.size 0 e;cases hz:z.data.toList with
 |nil=>
  have:z.size=0:=by rw[tZ,hz];rfl
  rw[this] at hc ⊢;exact .slice0 hc
 |cons b0 bs=>
  rw[<-hz];have hlen:z.size=(z.data.toList.map yV).length:=by rw[bl,tZ]
  have hget:∀(i j:Nat) (e':List V) (d':V),(z.data.toList.map yV)[i]? =some e'->e'[j]? =some d'->i<z.size/\j=0/\d'= .int .u8 ((z.data.toList.getD i 0).toNat:Int):=by
   intro i j e' d' h3 h4;rw[bh] at h3;obtain⟨b,hb,rfl⟩:=eI.1 h3;have hi:i<z.data.toList.length:=(bc.1 hb).1;cases j with
   |zero=>simp[yV] at h4;refine⟨by rw[tZ];exact hi,rfl,?_⟩;rw[<-h4];simp[List.getD,hb]
   |succ j=>simp[yV] at h4
  refine .slice (val:=λi j=> .int .u8 ((z.data.toList.getD i 0).toNat:Int)) hlen (by rw[<-hlen,tZ,hz];simp) hg hc (λhxx=>by have:=r.hp.aCB _ hxx;simp at this) (by rw[Lib.bytesWorld_size];simp)
   (λe' he'=>by obtain⟨b,_,rfl⟩:=cj.1 he';rfl) (λi j e' d' h3 h4=> ?_) (λi j e' d' h3 h4=> ?_)
  ·obtain⟨h5,rfl,rfl⟩:=hget i j e' d' h3 h4;rw[fG,ca,Nat.mul_one,eg];exact Lib.bytesWorld_cell w e z i h5
  ·obtain⟨h5,rfl,rfl⟩:=hget i j e' d' h3 h4;have hb:=(z.data.toList.getD i 0).toNat_lt;exact .int (iq _) (show(((z.data.toList.getD i 0).toNat:Nat):Int)<=255 by omega)
def mJ (G:Good P g Y TI FZ)(r:bE Y.C E s a w β){o:Oper}{op:Op}(ho:o.op=op){K:Sv U->St U->Option α}{z:α}(h:Td Y TI s op (λx=>K x s)=some z):∃x s',K x s'=some z/\PO P Y.C E a w β o x s'/\s'.t=s.t/\s'.fr=s.fr/\Am s.m s'.m:=by obtain⟨x,h1,h2⟩:=Xk G.ti r h;obtain⟨v,k1,k2⟩:=h2 o ho;exact⟨x,s,h1,⟨v,k1,r,k2⟩,rfl,rfl,Am.refl _⟩
def Hg (G:Good P g Y TI FZ)(r:bE Y.C E s a w β){o:Oper}{op:Op}(ho:o.op=op)(hc:vG FZ op=0){K:Sv U->St U->Option α}{z:α}(h:stp Y TI FZ s op K=some z):∃x s',K x s'=some z/\PO P Y.C E a w β o x s'/\s'.t=s.t/\s'.fr=s.fr/\Am s.m s'.m:=by
 unfold stp at h;split at h
 ·cases hc
 ·cases hc
 ·cases hc
 ·cases hc
 ·cases hc
 ·cases hc
 ·rename_i f xa ats;exfalso;simp only[vG] at hc;split at hc
  ·cases hw:(Sum.wt _)<;>rw[hw] at hc<;>cases hc
  ·cases hc
 ·rename_i t x y u;split at h
  ·rename_i c n hx;cases hn:decide (n=1) with
   |false=>rw[hn] at h;exact mJ G r ho h
   |true=>
    rw[hn] at h;simp only[ac] at h;cases hm:nth s.m.ns c with
    |none=>rw[hm] at h;cases h
    |some p=>
     obtain⟨i,f⟩:=p;rw[hm] at h;cases f with
     |false=>exact mJ G r ho h
     |true=>exact⟨_,_,h,bDj r ho (of_decide_eq_true hn) hx (by rw[<-aS];exact hm),rfl,rfl,Am.aCO _ (λa' j f' h=>⟨f',by rw[aq (lt_of_some h)];exact h⟩)⟩
  ·exact mJ G r ho h
 ·rename_i ta tb x;cases hm:iJ FZ (tb+1000000) with
  |some S=>simp only[vG,hm] at hc;cases hc
  |none=>simp only[hm] at h;exact mJ G r ho h
 ·exact mJ G r ho h
 ·rename_i t x b;cases hm:iJ FZ 2000000 with
  |none=>simp only[hm] at h;exact mJ G r ho h
  |some S=>
   simp only[hm] at h;split at h
   ·rename_i e ek eb k zz i q0 n h1 h2 h3;split at h
    ·rename_i τ d l rv cv h4;rw[aS] at h4;cases hb:(Nat.beq rv q0&&Gu (U:=U) e ek τ) with
     |false=>rw[hb] at h;cases h
     |true=>rw[hb] at h;simp only[ac] at h;simp only[Gu,aa] at hb;obtain⟨hg,h⟩:=jY h;obtain⟨v,k1,k2⟩:=bGp G.ti r h1 h2 h3 h4 (ah hb.1) (ah hb.2.2) hg o ho;exact⟨_,s,h,⟨v,k1,r,k2⟩,rfl,rfl,Am.refl _⟩
    ·cases h
   ·exact mJ G r ho h
 ·exact mJ G r ho h
def bE.aBR {C:Cod U}(r:bE C E s a w β){b T rv cv:Nat}{cs:List (Lf U)}{us:List Nat}(h:s.m.o[b]? =some ⟨.box T cs us,rv,cv⟩):cs.length=us.length:=by obtain⟨t,ht⟩:=r.hp.tr h;exact(r.hp.ok b t _ ht h).1
def Ni {b T rv cv off n:Nat}{cs ps:List (Lf U)}{us:List Nat}{rv':Nat}(h4:s.m.o[b]? =some ⟨.box T cs us,rv,cv⟩)(h5:ps.length=n)(h6:off+n<=cs.length)(hl:cs.length=us.length):
  Am s.m (trn s b (.box T (K5 cs off ps) (K5 us off (ps.map λ_=>Nat.succ s.m.k))) rv').m:=by
 have e1:=Gx cs off ps (by rw[h5];exact h6);have e2:=Gx us off (ps.map λ_=>Nat.succ s.m.k) (by rw[bl,h5,<-hl];exact h6);refine Am.turn (ids:=[]) s.m λ_ e he=> ?_;rw[h4] at he;injection he with he;subst he;refine⟨rfl,λT1 cs1 vs1 T' cs' vs' k1 k2=> ?_⟩;injection k1 with a1 a2 a3;injection k2 with b1 b2 b3;subst a1;subst a2;subst a3;subst b1;subst b2;subst b3;refine⟨rfl,by rw[e1];simp;omega,by rw[e2];simp;omega,λj v hv hvk=> ?_⟩;rw[e2,wZ _ _ _ _ (by rw[bl,h5,<-hl];exact h6)] at hv;rw[e1,wZ _ _ _ _ (by rw[h5];exact h6)];rw[bl,h5] at hv;rw[h5];split at hv
 ·rename_i hj;rw[bh] at hv;cases hp:ps[j-off]? with
  |none=>simp[hp] at hv
  |some y=>simp only[hp,cJ,ai] at hv;omega
 ·rename_i hj;rw[cX hj];exact⟨rfl,hv⟩
def aYx {e i:Nat}{px:Lf U}{d:Bool}{l:List (U.El e)}{s1:St U}(h:apD s e px=some (i,d,l,s1)):s1.t=s.t/\s1.fr=s.fr/\Am s.m s1.m:=by
 cases px with
 |nil=>simp only[apD,ai,cU] at h;obtain⟨_,_,_,rfl⟩:=h;exact⟨rfl,rfl,Am.add _ _⟩
 |own j q=>
  simp only[apD] at h;split at h
  ·rename_i τ d0 l0 rv cv ho;cases hb:Nat.beq rv q with
   |false=>simp[hb] at h
   |true=>
    simp only[hb,ac] at h;split at h
    ·simp only[ai,cU] at h;obtain⟨_,_,_,rfl⟩:=h;exact⟨rfl,rfl,Am.refl _⟩
    ·cases h
  ·cases h
 |_=>cases h
def SO.to {C:Cod U}{o:Oper}{x:Sv U}{s':St U}{b:Bool}(h:SO P C E a w o x s' true):SO P C E a w o x s' b:=by
 cases b with
 |true=>exact h
 |false=>exact h.soft
def aQ9 {xs:Array Operand}{l:List Operand}(h:xs.toList=l):xs=l.toArray:=by apply gS;simpa using h
def aRa {xs:Array TypeId}{l:List TypeId}(h:xs.toList=l):xs=l.toArray:=by apply gS;simpa using h
def bGy {T:Nat}{ks:List Kd}(z:rD U (.st T::ks)):∃cs us,bY Y (.st T::ks) z=(true,cs)::us:=by
 cases ks with
 |nil=>exact⟨_,_,rfl⟩
 |cons k ks=>exact⟨_,_,rfl⟩
def RdL.cons_inv {w:World}{X:Nat->Prop}{vs:List Value}{u:V}{us:List V}(h:RdL w X vs (u::us)):∃v vs',vs=v::vs'/\Rd w X [] v u/\RdL w X vs' us:=by
 obtain⟨h1,h2⟩:=h;cases vs with
 |nil=>simp at h1
 |cons v vs=>exact⟨v,vs,rfl,h2 0 v u rfl rfl,by simpa using h1,λi v u p q=>h2 (i+1) v u (by simpa using p) (by simpa using q)⟩
def RdL.agg {w:World}{X:Nat->Prop}{vs:List Value}{us:List V}(h:Rd w X [] (.agg vs.toArray) (.agg us)):RdL w X vs us:=by obtain⟨vs',e,h2,h3⟩:=h.aBA;injection e with e;subst e;exact⟨by simpa using h2,λi v c p q=>h3 i v c (by simpa using p) q⟩
def aF6 (hY:LayOk Y)(r:bE Y.C E s a w β){o:Oper}{f:FuncId}{xa:Array Operand}{ats:Array TypeId}{S:Sum U}(ho:o.op= .call {callee:= .value (.func f),args:=xa,argTypes:=ats})
  (hS:zY P g Y f S) (hmk:S.wt=true) (hfr:S.fr=true) {K:Sv U->St U->Option α} {z:α} (h:bJ5 Y s S (xa.toList.map (dV s)) K=some z):
  ∃x s' i b,K x s'=some z/\(∃ys,xa.toList.map (dV s)= .l (.box i 0)::ys)/\(∀v,(Sv.l (.box i 0):Sv U).mean Y.C w (E.X β) β s.m v->v= .pointer (some ⟨b,0,none⟩))/\
   (∀(K':Act->World->Prop) (Q:Exit->Act->World->Prop),(∀v w' β',bE Y.C E s' a w' β'->(o.dst≠none->x.mean Y.C w' (E.X β') β' s'.m v)->Bel (·=b) w w'->K' (a.put o.dst v) w')->o.wp P a w K' Q)/\s'.t=s.t/\s'.fr=s.fr/\Am s.m s'.m:=by
 unfold bJ5 at h;split at h
 ·rename_i i off ys hxs;split at h
  ·rename_i T cs us rv cv hi;rw[aS] at hi;split at h
   ·rename_i z1 hz;cases hb:(Nat.beq off 0&&(hdT T S.ar&&(Gw cs&&lI ys))) with
    |false=>rw[hb] at h;cases h
    |true=>
     rw[hb] at h;simp only[ac] at h;obtain⟨q,hq,hk⟩:=iY h;clear h;split at hk
     ·rename_i ds rs hr;cases hlen:Nat.beq (len ds) (len cs) with
      |false=>rw[hlen] at hk;cases hk
      |true=>
       rw[hlen] at hk;simp only[ac] at hk;have hlen:=ah hlen;rw[bK,bK] at hlen;simp only[aa] at hb;obtain⟨hoff,hT,hfc,hfy⟩:=hb;have hoff:=ah hoff;subst hoff;obtain⟨ar,rs0,fr,wt,mm⟩:=S;obtain⟨ks,rfl⟩:∃ks,ar= .st T::ks:=by
        simp only[hdT] at hT;cases ar with
        |nil=>cases hT
        |cons k ks=>cases k with
         |st T'=>exact⟨ks,by rw[ah hT]⟩
         |_=>cases hT
       obtain⟨cs0,us0,hcp⟩:=bGy (Y:=Y) z1;have hsp:=(hS z1 q hq).2.2.2 hmk hfr T ks cs0 us0 ds rs rfl hcp hr;have hbl:=r.aBR hi;obtain⟨tr,ht⟩:=r.hp.tr hi;obtain⟨_,b,ws,e1,e2,e3,e4⟩:=r.hp.ok i tr _ ht hi;refine⟨_,_,i,b,hk,⟨ys,hxs⟩,λv hv=> ?_,λK' Q hK=> ?_,rfl,rfl,?_⟩
       ·obtain⟨_,e',t',g1,g2,g3⟩:=hv;rw[hi] at g1;injection g1 with g1;subst g1;rw[ht] at g2;injection g2 with g2;subst g2;obtain⟨b',g4,rfl⟩:=g3 rfl;rw[e1] at g4;injection g4 with g4;rw[g4]
       ·--the arguments
        have hm:∀(i:Nat) (v:Value) (x:Sv U),(xa.toList.map a.eval)[i]? =some v->(xa.toList.map (dV s))[i]? =some x->x.mean Y.C w (E.X β) β s.m v:=λi v x p q=>by
         obtain⟨y,rfl,rfl⟩:=De i v x p q;exact xC r
        obtain⟨v0,vs,hvs,hvl⟩:∃v0 vs,xa.toList.map a.eval=v0::vs/\vs.length=ys.length:=by
         have hl:(xa.toList.map a.eval).length=(Sv.l (.box i 0)::ys).length:=by rw[<-hxs];simp
         match hh:xa.toList.map a.eval,hl with
         |v0::vs,hl=>exact⟨v0,vs,rfl,by simpa using hl⟩
        rw[hxs,hvs] at hm;obtain⟨_,e',t',g1,g2,g3⟩:=hm 0 v0 _ rfl rfl;rw[hi] at g1;injection g1 with g1;subst g1;rw[ht] at g2;injection g2 with g2;subst g2;obtain⟨b',g4,rfl⟩:=g3 rfl;rw[e1] at g4;injection g4 with g4;subst g4;have hall:tr.all=[b]:=by simp[Tr.all,e1,e2]
        have hfree:lI (.a cs::ys)=true:=by simp only[lI,aJy,aa];exact⟨hfc,hfy⟩
        have hrd:=Hf r (Z:=E.X β) (λ_ h=>h) _ hz (vs:= .agg ws.toArray::vs) (by simp[hvl]) (λj v x p q=>by
         cases j with
         |zero=>simp at p q;subst p;subst q;exact⟨ws,rfl,e4⟩
         |succ j=>exact hm (j+1) v x (by simpa using p) (by simpa using q)) (.inl hfree)
        rw[hcp,bm] at hrd;obtain⟨_,_,he,hr1,hr2⟩:=RdL.cons_inv hrd;injection he with he1 he2;subst he1;subst he2;have hr1:=RdL.agg (show Rd w (E.X β) [] (.agg ws.toArray) (.agg (cs0.map Lf.toV)) from hr1);have hXb:E.X β b:=bNz ht (by rw[hall];simp);have hG:∀w',Bel (·=b) w w'->g.G w':=λw' hb'=>E.hg w' ⟨hb'.os.trans r.hp.ext.os,hb'.tape.trans r.hp.ext.tape,hb'.output.trans r.hp.ext.output,bu r.hp.ext.size hb'.size,λx hlt hy=>by
         rw[hb'.block x (cg hlt r.hp.ext.size) (λhB=> ?_)]
         ·exact r.hp.ext.block x hlt hy
         ·subst hB;rcases(r.hp.new i tr x ht (by rw[hall];simp)).1 with h|h
          ·omega
          ·exact hy h⟩
        have hcall:=hsp.2 w (E.X β) b ws vs hG (λx hx=>r.hp.aCB x hx) hXb e3 hr1 hr2;have hargs:(xa.toList.map a.eval).toArray=(.pointer (some ⟨b,0,none⟩)::vs).toArray:=by rw[hvs]
        refine wpc (xH ho hsp.1) (R':=λu w'=>∃ws',Bel (·=b) w w'/\w'.heap[b]? =some (.cells ws'.toArray T (0,0))/\RdL w' (E.X β) ws' (ds.map Lf.toV)/\Rd w' (E.X β) [] u (mF (rs.map wJ))) ?_ ?_
        ·rw[hargs];refine hcall.mono ?_;rintro e w' ⟨v,ws',rfl,h4⟩;exact⟨v,rfl,ws',h4⟩
        ·rintro u w' ⟨ws',h4,h5,h6,h7⟩;have hlen':=r.hp.len;have hil:i<s.m.o.length:=lt_of_some hi;have hcase:∀j,(j=i\/s.m.o.length<=j)->∀t,β[j]? =some t->j=i/\t=tr:=λj hj t ht'=>by
          rcases hj with rfl|hj
          ·rw[ht] at ht';injection ht' with ht';exact⟨rfl,ht'.symm⟩
          ·have:=lt_of_some ht';omega
         have hcaseo:∀j,(j=i\/s.m.o.length<=j)->∀e,(s.m.o.set i ⟨.box T ds (us.map λ_=>Nat.succ s.m.k),rv,Nat.succ s.m.k⟩)[j]? =some e->e=⟨.box T ds (us.map λ_=>Nat.succ s.m.k),rv,Nat.succ s.m.k⟩:=λj hj e he=>by
          rcases hj with rfl|hj
          ·rw[bg hil] at he;injection he with he;exact he.symm
          ·have:=lt_of_some he;simp at this;omega
         obtain⟨q1,q2⟩:=r.hp.step (s':=⟨s.m.o.set i ⟨.box T ds (us.map λ_=>Nat.succ s.m.k),rv,Nat.succ s.m.k⟩,Nat.succ s.m.k,s.m.ns⟩) (β':=β) (w':=w') (λj=>j=i) (λx=>x=b) (eo _) (λ_ _ f h=>⟨f,h⟩) r.hp.cnt (by simp[hlen']) (by simp) h4.size h4.os h4.tape h4.output
          (λx hx hn=>h4.block x hx hn)
          (λx hx=>⟨i,tr,rfl,ht,by rw[hall,hx];simp⟩)
          (λj hj _=>⟨by rw[bj (Ne.symm hj)],rfl⟩)
          (λj t x hj ht' hx=>by
           obtain⟨rfl,rfl⟩:=hcase j hj t ht';exact⟨cg (r.hp.new _ _ x ht hx).2 h4.size, .inr ⟨_,_,rfl,ht,hx⟩⟩)
          (λj j' t t' x hj hj' hjj ht1 ht2 _=>by
           have:=(hcase j hj t ht1).1;have:=(hcase j' hj' t' ht2).1;omega)
          (λj t hj ht'=>by obtain⟨rfl,rfl⟩:=hcase j hj t ht';exact r.hp.nd _ _ ht)
          (λj e hj he=>by
           have:=hcaseo j hj e he;subst this;refine⟨?_,aj _⟩;have:=(r.hp.vers _ _ hi).1;simp only at this ⊢;omega)
          (λj e e' t t' hj h1 h2 h3 h4=>by
           subst hj;have:=hcaseo _ (.inl rfl) e' h2;subst this;rw[hi] at h1;injection h1 with h1;subst h1;rw[h3] at h4;injection h4 with h4;subst h4;exact⟨λ_=>⟨rfl,rfl⟩,dq _,λ_=>⟨rfl,rfl⟩⟩)
          (λhev j t e hj ht' he=>by
           obtain⟨rfl,rfl⟩:=hcase j hj t ht';have:=hcaseo _ (.inl rfl) e he;subst this;refine⟨by rw[bl,hlen,hbl],b,ws',e1,e2,h5,by have:=h6.1;simpa using this,λl v c p q'=> ?_⟩;have hcd:c.aAZ=true:=(Dc rs0 q (true,ds) (by rw[hr];simp)).1 c (az q');exact Db hcd (h6.2 l v _ p (by rw[bh,q'];rfl)) (.inl λ_ h=>h))
         have r':=r.go q1 q2 (fr:=s.fr);have e5:(trn s i (.box T ds (us.map λ_=>Nat.succ s.m.k)) rv)=⟨s.t,⟨s.m.o.set i ⟨.box T ds (us.map λ_=>Nat.succ s.m.k),rv,Nat.succ s.m.k⟩,Nat.succ s.m.k,s.m.ns⟩,s.fr⟩:=by simp only[trn,bZ]
         rw[e5] at hK;exact hK u w' β r' (λ_=>aV7 (λx hx=>Dc rs0 q x (by rw[hr];simp[hx])) h7 (.inl λ_ h=>h)) h4
       ·have:=Am.turn s.m (i:=i) (ids:=[]) (ob:= .box T ds (us.map λ_=>Nat.succ s.m.k)) (rv:=rv) (λ_ e he=>by
         rw[hi] at he;injection he with he;subst he;refine⟨rfl,λT0 cs0 vs0 T' cs' vs' h1 h2=> ?_⟩;injection h1 with a1 a2 a3;injection h2 with b1 b2 b3;subst a1;subst a2;subst a3;subst b1;subst b2;subst b3;refine⟨rfl,hlen,by simp,λj v hv hvk=> ?_⟩;rw[bh] at hv;cases hu:us[j]? with
         |none=>rw[hu] at hv;cases hv
         |some x=>rw[hu] at hv;simp at hv;omega)
        exact this
     ·cases hk
   ·cases h
  ·cases h
 ·cases h
def aO4 (hY:LayOk Y)(r:bE Y.C E s a w β){o:Oper}{f:FuncId}{xa:Array Operand}{ats:Array TypeId}{S:Sum U}(ho:o.op= .call {callee:= .value (.func f),args:=xa,argTypes:=ats})
  (hS:zY P g Y f S) (hmk:S.wt=true) (hfr:S.fr=true) {K:Sv U->St U->Option α} {z:α} (h:bJ5 Y s S (xa.toList.map (dV s)) K=some z):
  ∃x s',K x s'=some z/\SO P Y.C E a w o x s' false/\s'.t=s.t/\s'.fr=s.fr/\Am s.m s'.m:=by
 obtain⟨x,s',i,b,h1,_,_,h4,h5⟩:=aF6 hY r ho hS hmk hfr h;exact⟨x,s',h1,λK' Q hK=>h4 K' Q λv w' β' k1 k2 _=>hK v w' β' k1 k2 (λh=>by cases h),h5⟩
def aRb (G:Good P g Y TI FZ)(r:bE Y.C E s a w β){o:Oper}{op:Op}(ho:o.op=op){K:Sv U->St U->Option α}{z:α}(h:stp Y TI FZ s op K=some z):∃x s',K x s'=some z/\SO P Y.C E a w o x s' (Nat.ble (vG FZ op) 1)/\s'.t=s.t/\s'.fr=s.fr/\Am s.m s'.m:=by
 by_cases hc:vG FZ op=0
 ·obtain⟨x,s',h1,h2,h3⟩:=Hg G r ho hc h;rw[hc];exact⟨x,s',h1,SO.aDJ h2,h3⟩
 unfold stp at h;split at h
 ·rename_i T x;cases hp:parts (uA s x) with
  |none=>rw[hp] at h;cases h
  |some cs=>
   rw[hp] at h;cases ha:Cq cs with
   |false=>simp[ha] at h
   |true=>simp only[ha,ac] at h;exact⟨_,_,h,bDe r ho hp ha,rfl,rfl,Am.add _ _⟩
 ·rename_i T;cases hf:iJ TI T with
  |none=>rw[hf] at h;cases h
  |some i=>rw[hf] at h;exact⟨_,_,h,aVx G.ti r ho hf,rfl,rfl,Am.add _ _⟩
 ·rename_i t x y;split at h
  ·rename_i i b off ps h1 h2 h3;split at h
   ·rename_i T cs us rv cv h4;rw[aS] at h4;cases hb:(Nat.beq (len ps) i.k&&(Nat.ble (off+i.k) (len cs)&&Cq ps)) with
    |false=>rw[hb] at h;cases h
    |true=>rw[hb] at h;simp only[ac] at h;simp only[aa,bK] at hb;exact⟨_,_,h,aKg G.ti r ho h1 h2 h3 h4 (ah hb.1) (bf hb.2.1) hb.2.2,rfl,rfl,Ni h4 (ah hb.1) (bf hb.2.1) (r.aBR h4)⟩
   ·cases h
  ·rename_i i b c τ q z' off ps h1 h2 h3;cases hv:okv s.m b c with
   |false=>rw[hv] at h;cases h
   |true=>
    rw[hv] at h;simp only[ac] at h;split at h
    ·rename_i τ' d l rv cv h4;rw[aS] at h4;cases hs:slq τ τ' l with
     |none=>rw[hs] at h;cases h
     |some l1=>
      rw[hs] at h;obtain⟨rfl,hh⟩:=mH hs;obtain rfl:=ez hh;simp only at h;split at h
      ·rename_i ds ids d' h8;rw[aQu,aCo] at h8;cases hb:(Nat.beq (len ps) i.k&&(Nat.ble (off+i.k) (U.K τ')&&(Cq ps&&dist (b::ids)))) with
       |false=>rw[hb] at h;cases h
       |true=>
        rw[hb] at h;simp only[ac] at h;simp only[aa,bK] at hb;split at h
        ·rename_i z2 h9;obtain⟨e',k1,k2⟩:=Cz hv;rw[h4] at k1;injection k1 with k1;subst k1;exact⟨_,_,h,aGx G.ti G.lay r ho h1 h2 h3 h4 k2 (ah hb.1) (bf hb.2.1) hb.2.2.1 h8 (xG.1 hb.2.2.2) h9,rfl,rfl,Am.tree _⟩
        ·cases h
      ·cases h
    ·cases h
  ·rename_i i b c τ q z j τ' l q' z' off ps h1 h2 h3;cases hv:okv s.m b c with
   |false=>rw[hv] at h;cases h
   |true=>
    rw[hv] at h;simp only[ac] at h;split at h
    ·rename_i τ1 d L rv cv h4;rw[aS] at h4;cases hs:slq τ τ1 L with
     |none=>rw[hs] at h;cases h
     |some l1=>
      rw[hs] at h;obtain⟨rfl,hh⟩:=mH hs;obtain rfl:=ez hh;simp only at h;split at h
      ·rename_i ds ids d' h8;rw[aQu,aCo] at h8;cases hb:(Nat.beq (len ps) i.k&&(Nat.ble (off+i.k) (U.K τ')&&(Cq ps&&dist (b::ids)))) with
       |false=>rw[hb] at h;cases h
       |true=>
        rw[hb] at h;simp only[ac] at h;simp only[aa,bK] at hb;split at h
        ·rename_i z2 h9;split at h
         ·rename_i z3 h10;obtain⟨e',k1,k2⟩:=Cz hv;rw[h4] at k1;injection k1 with k1;subst k1;exact⟨_,_,h,aO2 G.ti G.lay r ho h1 h2 h3 h4 k2 (ah hb.1) (bf hb.2.1) hb.2.2.1 h8 (xG.1 hb.2.2.2) h9 h10,rfl,rfl,Am.tree _⟩
         ·cases h
        ·cases h
      ·cases h
    ·cases h
  ·cases h
 ·rename_i t n ps;split at h
  ·rename_i e ek eb k zz h1;cases hb:(Nat.beq (len ps.toList) n&&(Nat.ble (n*ek) 16777216&&Gu (U:=U) e ek e)) with
   |false=>rw[hb] at h;cases h
   |true=>
    rw[hb] at h;simp only[ac] at h;simp only[aa,bK] at hb;split at h
    ·rename_i l ids d h5;cases hpl:(!Cx (iJ FZ 3000000)&&(!Nat.beq n 0&&aYj ids)) with
     |true=>
      rw[hpl] at h;simp only[ac] at h;cases ids with
      |cons _ _=>simp[aYj] at hpl
      |nil=>exact⟨_,_,h,aV0 G.ti G.lay r ho h1 (ah hb.1) (bf hb.2.1) hb.2.2 h5,rfl,rfl,Am.refl _⟩
     |false=>
     rw[hpl] at h;simp only[ab] at h;cases hd:dist (len s.m.o::ids) with
     |false=>rw[hd] at h;cases h
     |true=>rw[hd] at h;simp only[ac] at h;have hJ:=xG.1 hd;rw[bK] at hJ;exact⟨_,_,h,aV1 G.ti G.lay r ho h1 (ah hb.1) (bf hb.2.1) hb.2.2 h5 hJ,rfl,rfl,(Am.add s.m [⟨.dead,s.m.k,s.m.k⟩]).trans (Am.tree _)⟩
    ·cases h
  ·cases h
 ·rename_i t x y;split at h
  ·rename_i e ek eb k zz h1;split at h
   ·rename_i i n h2 h3;cases hb:(aJ0 x y&&(Nat.ble eb 2048&&Gu (U:=U) e ek e)) with
    |false=>rw[hb] at h;cases h
    |true=>
     rw[hb] at h;simp only[ac] at h;simp only[aa] at hb;split at h
     ·rename_i ds h7;split at h
      ·rename_i z2 h8;obtain⟨hg,h⟩:=jY h;exact⟨_,_,h,aYt G.ti G.lay r ho h1 h2 h3 hb.1 hb.2.1 hb.2.2 h7 h8 hg,rfl,rfl,Am.add _ _⟩
      ·cases h
     ·cases h
   ·cases h
  ·cases h
 ·rename_i xa ats;split at h
  ·rename_i x y t t2 hxa hats;split at h
   ·rename_i e ek eb k zz h1;cases hb:(Nat.beq t t2&&(Nat.ble eb 2048&&Gu (U:=U) e ek e)) with
    |false=>rw[hb] at h;cases h
    |true=>
     rw[hb] at h;simp only[ac] at h;simp only[aa] at hb;obtain rfl:t=t2:=ah hb.1;split at h
     ·rename_i i c τ n l py h4 h5;cases hv:okv s.m i c with
      |false=>rw[hv] at h;cases h
      |true=>
       rw[hv] at h;simp only[ac] at h;cases hs:slq e τ l with
       |none=>rw[hs] at h;cases h
       |some l1=>
        rw[hs] at h;obtain⟨rfl,hh⟩:=mH hs;obtain rfl:=ez hh;simp only at h;split at h
        ·rename_i l' d' h7;cases hne:Nat.ble 1 (len l') with
         |false=>rw[hne] at h;cases h
         |true=>rw[hne] at h;obtain⟨hg,h⟩:=jY h;rw[aQ9 hxa,aRa hats] at ho ⊢;exact⟨_,_,h,aGy G.ti G.lay r ho h1 hb.2.1 hb.2.2 h4 h5 hv h7 (by rw[<-bK];exact bf hne) hg,rfl,rfl,Am.turn (ids:=[]) s.m (λh=>by cases h)⟩
        ·cases h
     ·rename_i px py _ h4 h5;split at h
      ·rename_i i d l s1 h6;split at h
       ·rename_i l' ids d' h7;obtain⟨hg,h⟩:=jY h;rw[aQ9 hxa,aRa hats] at ho ⊢;exact⟨_,_,h,aTn G.ti G.lay r ho h1 hb.2.1 hb.2.2 h4 h5 h6 h7 hg,(aYx h6).1,(aYx h6).2.1,(aYx h6).2.2.trans (Am.tree _)⟩
       ·cases h
      ·cases h
     ·cases h
   ·cases h
  ·cases h
 ·rename_i f xa ats;split at h
  ·rename_i S hS;have hok:=G.fs f S (aI3 hS);cases hpt:(S.wt&&S.fr) with
   |true=>
    simp only[hpt,ac] at h;rw[aa] at hpt;have hcl:Nat.ble (vG FZ (.call {callee:= .value (.func f),args:=xa,argTypes:=ats})) 1=false:=by simp only[vG,hS,hpt.1,ac];rfl
    rw[hcl];exact aO4 G.lay r ho hok hpt.1 hpt.2 h
   |false=>
   simp only[hpt,ab] at h;split at h
   ·rename_i z1 hz;cases hmk:S.wt with
    |true=>rw[hmk] at h;cases h
    |false=>
     rw[hmk] at h;simp only[ab] at h;cases hfr:S.fr with
     |true=>rw[hfr] at h;simp only[ac] at h;obtain⟨q,hq,h⟩:=iY h;exact⟨_,_,h,(aG0 r ho hok hz hmk hfr hq).to,rfl,rfl,Am.add _ _⟩
     |false=>
      rw[hfr] at h;simp only[ab] at h;cases hff:(xB Y S.rs||lI (xa.toList.map (dV s))) with
      |false=>
       rw[hff] at h;simp only[ab] at h;cases hi:aVi s.m (xa.toList.map (dV s)) with
       |none=>rw[hi] at h;cases h
       |some p=>obtain⟨i,c⟩:=p;rw[hi] at h;simp only at h;obtain⟨q,hq,h⟩:=iY h;exact⟨_,_,h,(aO3 r ho hok hz hmk hfr hi hq).to,rfl,rfl,Am.refl _⟩
      |true=>rw[hff] at h;simp only[ac] at h;obtain⟨q,hq,h⟩:=iY h;rw[cr] at hff;exact⟨_,_,h,(Ja G.lay r ho hok hz hmk hfr hff hq).to,rfl,rfl,Am.refl _⟩
   ·cases h
  ·cases h
 ·exact absurd rfl hc
 ·rename_i ta tb x;have mk:∀{K:Sv U->St U->Option α} {z:α},Td Y TI s (.convert ta tb x) (λx=>K x s)=some z->∃y s',K y s'=some z/\SO P Y.C E a w o y s' (Nat.ble (vG FZ (.convert ta tb x)) 1)/\s'.t=s.t/\s'.fr=s.fr/\Am s.m s'.m:=λh=>by
   obtain⟨y,k1,k2⟩:=Xk G.ti r h;exact⟨y,s,k1,(SO.aDB r (o:=o) (by rw[ho];exact k2)).to,rfl,rfl,Am.refl _⟩
  cases hm:iJ FZ (tb+1000000) with
  |none=>simp only[hm] at h;exact mk h
  |some S=>
   simp only[hm] at h;split at h
   ·rename_i k1 z1 e ek eb k2 z2 k3 z3 z h1 h2 h3 h4;cases hb:Nat.beq e Y.bt with
    |false=>rw[hb] at h;cases h
    |true=>rw[hb] at h;have he:=ah hb;subst he;exact⟨_,_,h,(bDn r ho (Gy (bT G.ti h1) rfl).1 (fA (zX (bT G.ti h2) rfl).1).1 (Nf (bT G.ti h3) rfl).1 h4).to,rfl,rfl,Am.refl _⟩
   ·exact mk h
 ·exact absurd rfl hc
 ·exact absurd rfl hc
 ·rename_i h1 h2 h3 h4 h5 h6 h7 h8 h9;obtain⟨x,k1,k2⟩:=Xk G.ti r h;refine⟨x,s,k1,?_,rfl,rfl,Am.refl _⟩;exact(by
   have hle:Nat.ble (vG FZ op) 1=true\/Nat.ble (vG FZ op) 1=false:=by cases Nat.ble (vG FZ op) 1<;>simp
   have:=SO.aDB r (o:=o) (by rw[ho];exact k2);rcases hle with e|e
   ·rw[e];exact this
   ·rw[e];exact this.soft)
end
end Go.EV
namespace Go.EV
open Go.RowKit Go.VK
variable {U:Uni} {Y:Lay U} {TI:List (Nat×TInfo)} {FZ:List (Nat×Sum U)} {P:Program} {g:GI} {E:Env U g}
structure Ag (D:Nat->Prop) (s s':St U):Prop where
 t:∀n,¬D n->s'.t[n]? =s.t[n]?
 tl:s'.t.length=s.t.length
 fr:s'.fr=s.fr
 m:Am s.m s'.m
def Ag.refl {D:Nat->Prop}(s:St U):Ag D s s:=⟨λ_ _=>rfl,rfl,rfl,Am.refl _⟩
def Ag.trans {D:Nat->Prop}{s s' s'':St U}(h:Ag D s s')(h':Ag D s' s''):Ag D s s'':=⟨λn hn=>(h'.t n hn).trans (h.t n hn),h'.tl.trans h.tl,h'.fr.trans h.fr,h.m.trans h'.m⟩
def Ag.mono {D D':Nat->Prop}{s s':St U}(h:Ag D s s')(hd:∀n,D n->D' n):Ag D' s s':=⟨λn hn=>h.t n (λhh=>hn (hd n hh)),h.tl,h.fr,h.m⟩
def Ag.put {D:Nat->Prop}{s s':St U}(h:Ag D s s'){d:Option Nat}{x:Sv U}(hd:∀n,d=some n->D n):Ag D s (put s' d x):=by
 cases d with
 |none=>exact h
 |some n=>
  refine⟨λk hk=> ?_,?_,h.fr,h.m⟩
  ·simp only[EV.put,bZ];rw[bj (λe=>hk (by rw[<-e];exact hd n rfl))];exact h.t k hk
  ·simp only[EV.put,bZ,ax];exact h.tl
section
variable {s:St U} {a:Act} {w:World} {β:List Tr} {α:Type} {C:Cod U}
def bE.set (r:bE C E s a w β){n:Nat}{x:Sv U}(h:x.mean C w (E.X β) β s.m (a.tmps.getD n undef)):bE C E (EV.put s (some n) x) a w β:=by
 refine⟨r.hp,r.defers,by simp only[EV.put,bZ,ax];exact r.tsz,λm y hm=> ?_⟩;simp only[EV.put,bZ] at hm ⊢;by_cases he:n=m
 ·subst he;have hl:n<s.t.length:=by have:=lt_of_some hm;simpa using this
  rw[bg hl] at hm;injection hm with hm;subst hm;exact h
 ·rw[bj he] at hm;exact r.tm m y hm
def aRc (r:bE C E s a w β){n:Nat}{T F:St U->Option α}{z:α}(h:tst n s T F=some z):
  ∃b s',a.tmps.getD n undef= .bool b/\n<s.t.length/\bE C E s' a w β/\(b=true->T s'=some z)/\(b=false->F s'=some z)/\Ag (λk=>k=n) s s':=by
 unfold tst at h;rw[aS] at h;split at h
 ·rename_i b hx;have hm:a.tmps.getD n undef= .bool b:=r.tm n _ hx;cases b with
  |true=>exact⟨true,_,hm,lt_of_some hx,r.set (x:= .l (.bool true)) hm,λ_=>h,λh=>(by cases h),(Ag.refl s).put (λk e=>by injection e with e;exact e.symm)⟩
  |false=>exact⟨false,_,hm,lt_of_some hx,r.set (x:= .l (.bool false)) hm,λh=>(by cases h),λ_=>h,(Ag.refl s).put (λk e=>by injection e with e;exact e.symm)⟩
 ·rename_i c m hx;obtain⟨i,f,k1,k2,k3⟩:=r.tm n _ hx;rw[aS,k1] at h;simp only at h;cases hb:decide ((i:Int)<m) with
  |true=>
   rw[hb] at h k2;have hlt:=of_decide_eq_true hb;have hns:∀(a' j:Nat) (f':Bool),s.m.ns[a']? =some (j,f')->∃f'',(upd s.m.ns c (i,true))[a']? =some (j,f''):=λa' j f' h'=>by
    rw[bZ];by_cases he:c=a'
    ·subst he;rw[k1] at h';injection h' with h';injection h' with h' _;subst h';exact⟨true,bg (lt_of_some k1)⟩
    ·exact⟨f',by rw[bj he];exact h'⟩
   have r1:bE C E ⟨s.t,⟨s.m.o,s.m.k,upd s.m.ns c (i,true)⟩,s.fr⟩ a w β:=r.aCO hns (λa' j h'=>by
    rw[bZ] at h';by_cases he:c=a'
    ·subst he;rw[bg (lt_of_some k1)] at h';have hij:i=j:=congrArg Prod.fst (ak h');rw[<-hij];exact fa (Int.add_one_le_iff.2 hlt) k3
    ·rw[bj he] at h';exact r.hp.cnt a' j h')
   have hag:Ag (λk=>k=n) s (⟨s.t,⟨s.m.o,s.m.k,upd s.m.ns c (i,true)⟩,s.fr⟩:St U):=⟨λ_ _=>rfl,rfl,rfl,Am.aCO _ hns⟩;exact⟨true,_,k2,lt_of_some hx,r1.set (x:= .l (.bool true)) k2,λ_=>h,λh=>(by cases h),hag.put (λk e=>by injection e with e;exact e.symm)⟩
  |false=>rw[hb] at h k2;exact⟨false,_,k2,lt_of_some hx,r.set (x:= .l (.bool false)) k2,λh=>(by cases h),λ_=>h,(Ag.refl s).put (λk e=>by injection e with e;exact e.symm)⟩
 ·cases h
def Wr (al:List Oper)(o:Oper)(n:Nat):Prop:=o.dst=some n\/∃j b oj,o.guard=some (j,b)/\al[j]? =some oj/\oj.dst=some n
def aYy {al:List Oper}{j n:Nat}{oj:Oper}{b:Bool}(hj:al[j]? =some oj)(hd:oj.dst=some n)(hn:n<a.tmps.size)(hv:a.tmps.getD n undef= .bool b):yielded al.toArray a.tmps j=some b:=by
 have h2:a.tmps[n]? =some (.bool b):=by rw[ck,cQ hn] at hv;rw[cQ hn];exact congrArg some hv
 simp[yielded,hj,hd,h2]
def bDo {al:List Oper}{j n:Nat}{oj:Oper}(hj:al[j]? =some oj)(hd:oj.dst=some n)(hn:n<a.tmps.size)(hv:a.tmps.getD n undef=undef):yielded al.toArray a.tmps j=none:=by
 have h2:a.tmps[n]? =some undef:=by rw[ck,cQ hn] at hv;rw[cQ hn];exact congrArg some hv
 simp[yielded,hj,hd,h2,undef]
def Hl (r:bE C E s a w β){al:List Oper}{o:Oper}{run:St U->Option α}{K:St U->Option α}{z:α}(h:aOz al o run s K=some z):
  ∃s',bE C E s' a w β/\Ag (Wr al o) s s'/\((Region.wanted o (yielded al.toArray a.tmps)=true/\run s'=some z)\/(Region.wanted o (yielded al.toArray a.tmps)=false/\skp o s' K=some z)):=by
 unfold aOz at h;split at h
 ·rename_i hg;exact⟨s,r,Ag.refl s, .inl ⟨by simp[Region.wanted,hg],h⟩⟩
 ·rename_i j want hg;rw[aS] at h;split at h
  ·rename_i oj hj;split at h
   ·rename_i n hd;cases hu:bL7 (nth s.t n) with
    |true=>
     rw[hu] at h;rw[aS] at hu;have hx:s.t[n]? =some (.l .und):=by
      cases hq:s.t[n]? with
      |none=>rw[hq] at hu;cases hu
      |some x=>
       rw[hq] at hu;cases x with
       |l y=>cases y<;>first|rfl|cases hu
       |_=>cases hu
     have hv:a.tmps.getD n undef=undef:=r.tm n _ hx;have hy:=bDo (a:=a) hj hd (by rw[r.tsz];exact lt_of_some hx) hv;exact⟨s,r,Ag.refl s, .inr ⟨by simp[Region.wanted,hg,hy],h⟩⟩
    |false=>
     rw[hu] at h;simp only[ab] at h;obtain⟨b,s',k1,k2,k3,k4,k5,k6⟩:=aRc r h;have hy:=aYy (a:=a) hj hd (by rw[r.tsz];exact k2) k1;refine⟨s',k3,k6.mono (λk e=>by subst e;exact .inr ⟨j,want,oj,hg,hj,hd⟩),?_⟩;cases b with
     |true=>
      have h4:=k4 rfl;cases want with
      |true=>exact .inl ⟨by simp[Region.wanted,hg,hy],h4⟩
      |false=>exact .inr ⟨by simp[Region.wanted,hg,hy],h4⟩
     |false=>
      have h5:=k5 rfl;cases want with
      |true=>exact .inr ⟨by simp[Region.wanted,hg,hy],h5⟩
      |false=>exact .inl ⟨by simp[Region.wanted,hg,hy],h5⟩
   ·cases h
  ·cases h
def aCt (r:bE C E s a w β){al:List Oper}{o:Oper}{K:St U->Option α}{z:α}(h:grd Y TI FZ al o s K=some z):
  ∃s',bE C E s' a w β/\Ag (Wr al o) s s'/\((Region.wanted o (yielded al.toArray a.tmps)=true/\one Y TI FZ o s' K=some z)\/(Region.wanted o (yielded al.toArray a.tmps)=false/\skp o s' K=some z)):=Hl r h
def aTq (G:Good P g Y TI FZ)(r:bE Y.C E s a w β){al:List Oper}{o:Oper}{K:St U->Option α}{z:α}(h:grd Y TI FZ al o s K=some z){K':Act->World->Prop}{Q:Exit->Act->World->Prop}
  (hk:∀s' a' w' β',Ag (Wr al o) s s'->K s'=some z->bE Y.C E s' a' w' β'->(Nat.ble (vG FZ o.op) 1=true->Ext w w')->K' a' w'):if Region.wanted o (yielded al.toArray a.tmps)=true then o.wp P a w K' Q else K' (a.put o.dst undef) w:=by
 obtain⟨s1,r1,h1,h2⟩:=aCt r h;rcases h2 with⟨hw,h2⟩|⟨hw,h2⟩
 ·rw[cH hw];unfold one at h2;obtain⟨x,s2,k1,k2,k3,k4,k5⟩:=aRb G r1 rfl h2;exact k2 K' Q λv w' β' q1 q2 q3=>hk _ _ w' β' (Ag.put ⟨λn hn=>by rw[k3];exact h1.t n hn,by rw[k3];exact h1.tl,by rw[k4];exact h1.fr,h1.m.trans k5⟩ (λn e=> .inl e)) k1 (q1.put q2) q3
 ·rw[cX (by rw[hw];simp)];exact hk _ _ w β (h1.put (λn e=> .inl e)) h2 (r1.put (x:= .l .und) (v:=undef) (λ_=>rfl)) (λ_=>Ext.refl w)
def bKj (G:Good P g Y TI FZ)(r:bE Y.C E s a w β){al:List Oper}{o:Oper}(hc:vG FZ o.op=0){K:St U->Option α}{z:α}(h:grd Y TI FZ al o s K=some z):
  ∃v s',((Region.wanted o (yielded al.toArray a.tmps)=true/\∀w',Ext w w'->(execOp a.eval o).run P w'= .ok (.value v) w')\/(Region.wanted o (yielded al.toArray a.tmps)=false/\v=undef))/\bE Y.C E s' (a.put o.dst v) w β/\K s'=some z/\Ag (Wr al o) s s':=by
 obtain⟨s1,r1,h1,h2⟩:=aCt r h;rcases h2 with⟨hw,h2⟩|⟨hw,h2⟩
 ·unfold one at h2;obtain⟨x,s2,k1,⟨v,p1,p2,p3⟩,k3,k4,k5⟩:=Hg G r1 rfl hc h2;exact⟨v,_, .inl ⟨hw,p1⟩,p2.put (λ_=>p3),k1,Ag.put ⟨λn hn=>by rw[k3];exact h1.t n hn,by rw[k3];exact h1.tl,by rw[k4];exact h1.fr,h1.m.trans k5⟩ (λn e=> .inl e)⟩
 ·exact⟨undef,_, .inr ⟨hw,rfl⟩,r1.put (x:= .l .und) (v:=undef) (λ_=>rfl),h2,h1.put (λn e=> .inl e)⟩
def Sk (G:Good P g Y TI FZ){al:List Oper}{Q:Exit->Act->World->Prop}{D:Nat->Prop}:∀(l:List Oper) (s:St U) (K:St U->Option α) (z:α),(∀o∈l,∀n,Wr al o n->D n)->ops Y TI FZ al l s K=some z->
  ∀(rest:List Oper),(∀s' a w β,Ag D s s'->K s'=some z->bE Y.C E s' a w β->wpList P al.toArray Q rest a w)->∀a w β,bE Y.C E s a w β->wpList P al.toArray Q (l++rest) a w
 |[],s,K,z,_,h,rest,hk,a,w,β,r=>hk s a w β (Ag.refl s) h r
 |o::l,s,K,z,hD,h,rest,hk,a,w,β,r=>by
  simp only[ops] at h;refine wpList_step λK' hK'=>aTq G r h λs' a' w' β' q1 q2 q3 _=>hK' _ _ ?_
  have q1':=q1.mono (hD o (by simp));exact Sk G l s' K z (λo ho=>hD o (by simp[ho])) q2 rest (λs2 a2 w2 β2 p1 p2 p3=>hk s2 a2 w2 β2 (q1'.trans p1) p2 p3) a' w' β' q3
end
end Go.EV
namespace Go.EV
open Go.RowKit Go.VK
variable {U:Uni} {Y:Lay U} {TI:List (Nat×TInfo)} {FZ:List (Nat×Sum U)} {P:Program} {g:GI} {E:Env U g}
def Env.frm (E:Env U g)(l:List (World×Nat×Nat)):Env U g:=⟨E.X0,E.Y0,E.w0,E.prm,l,E.h0,E.hY,E.hXY,E.hg,E.pin⟩
section
variable {C:Cod U} {s:St U} {a:Act} {w w':World} {β:List Tr}
def bE.frame (r:bE C E s a w β)(hp:E.prm=[]):bE C (E.frm [(w,s.m.o.length,s.m.k)]) s a w β:=by
 have H:=r.hp;refine⟨⟨H.ext,H.len,H.vers,H.cnt,H.new,H.dist,H.nd,H.ok,H.pin,λx hx=> ?_,λf hf=> ?_⟩,r.defers,r.tsz,r.tm⟩
 ·have hx':x∈E.prm:=hx;rw[hp] at hx';simp at hx'
 ·have hf':f∈[(w,s.m.o.length,s.m.k)]:=hf;simp at hf';subst hf';refine⟨aj _,aj _,aj _, .inr ⟨Ext.refl w,λi t b hi ht _=> ?_⟩⟩;have h1:=lt_of_some ht;have h2:s.m.o.length<=i:=hi;rw[H.len] at h1;omega
def bE.aCF {l:List (World×Nat×Nat)}(r:bE C (E.frm l) s a w β)(hE:E.fr=[]):bE C E s a w β:=by
 have H:=r.hp;exact⟨⟨H.ext,H.len,H.vers,H.cnt,H.new,H.dist,H.nd,H.ok,H.pin,λx hx=>by
  obtain⟨h1,h2,_,h4⟩:=H.prm x hx;exact⟨h1,h2,by rw[hE];simp,h4⟩,by rw[hE];simp⟩,r.defers,r.tsz,r.tm⟩
def aV9:∀{n k:Nat} {o:List (EO U)},unt n k o=true->∀(j:Nat) (e:EO U),j<n->o[j]? =some e->e.cv<=k
 |0,_,_,_,j,_,h,_=>by omega
 |_+1,_,[],_,j,e,_,h=>by simp at h
 |n+1,k,x::o,h,j,e,hj,he=>by
  simp only[unt,aa] at h;cases j with
  |zero=>have:=ak he;subst this;exact bf h.1
  |succ j=>exact aV9 h.2 j e (by omega) (by simpa using he)
def bE.unt (r:bE C E s a w β){f:World×Nat×Nat}(hf:f∈E.fr)(h:unt f.2.1 f.2.2 s.m.o=true):Ext f.1 w:=by
 obtain⟨_,_,_,h3⟩:=r.hp.fr f hf;rcases h3 with⟨j,e,h1,h2,h3⟩|⟨h3,_⟩
 ·have:=aV9 h j e h1 h2;omega
 ·exact h3
def Env.ahd (E:Env U g)(b:Nat)(blk:Obj)(hb:E.w0.heap.size<=b):Env U g:=
 ⟨λb'=>E.X0 b'\/b'=b,E.Y0,E.w0,(b,blk)::E.prm,E.fr,λb' h=>by
  rcases h with h|rfl
  ·rcases E.h0 b' h with h|⟨x,hx,e⟩
   ·exact .inl h
   ·exact .inr ⟨x,by simp[hx],e⟩
  ·exact .inr ⟨(b',blk),de,rfl⟩,E.hY,λb' h hy=>by
  rcases h with h|rfl
  ·exact E.hXY b' h hy
  ·have:=E.hY _ hy;omega,E.hg,E.pin⟩
def bBl {b:Nat}{blk:Obj}{hb:E.w0.heap.size<=b}{β:List Tr}{b':Nat}:(E.ahd b blk hb).X β b'↔E.X β b'\/b'=b:=by
 unfold Env.X;constructor
 ·rintro((h|h)|h|h)
  ·exact .inl (.inl h)
  ·exact .inr h
  ·exact .inl (.inr (.inl h))
  ·exact .inl (.inr (.inr h))
 ·rintro((h|h|h)|h)
  ·exact .inl (.inl h)
  ·exact .inr (.inl h)
  ·exact .inr (.inr h)
  ·exact .inl (.inr h)
def bE.ahead (r:bE C E s a w β){blk:Obj}(hb:E.w0.heap.size<=w.heap.size):bE C (E.ahd w.heap.size blk hb) s a (w.alloc blk) β:=by
 have H:=r.hp;have he:Ext w (w.alloc blk):=Ext.alloc _ _;have hbs:(w.alloc blk).heap[w.heap.size]? =some blk:=by show(w.heap.push blk)[w.heap.size]? =some blk;simp
 have ev:Evo w (w.alloc blk) (E.X β) ((E.ahd w.heap.size blk hb).X β) β β s.m s.m s.m.o.length s.m.ns.length s.m.k:=⟨he.size,λb hb' h=>(bBl.1 h).resolve_right (by omega),λ_ _ _ h=>he.cell h,aj _,λa i f _ h=>⟨f,h⟩,λi e t _ h1 h2=>⟨e,t,h1,h2,λ_=>⟨rfl,rfl⟩,λ_=>⟨rfl,rfl,rfl,λb hb=>he.block b (H.new i t b h2 hb).2⟩,λh=>⟨h,rfl⟩⟩⟩;refine⟨⟨H.ext.trans (Bel.aBN he),H.len,H.vers,H.cnt,λi t b h1 h2=>⟨(H.new i t b h1 h2).1,cg (H.new i t b h1 h2).2 he.size⟩,H.dist,H.nd,λi t e h1 h2=>Ob.aBF ev (H.ok i t e h1 h2) λb hb=>he.block b (H.new i t b h1 hb).2,λx hx=>Sv.aAU ev (H.pin x hx),λx hx=> ?_,λf hf=> ?_⟩,r.defers,r.tsz,λn x hx=>Sv.aAU ev (r.tm n x hx)⟩
 ·have hx':x∈(w.heap.size,blk)::E.prm:=hx;rcases aE.1 hx' with rfl|hx'
  ·refine⟨hb,hbs,λf hf=> ?_,λi t ht hm=> ?_⟩
   ·exact(H.fr f hf).2.2.1
   ·have:=(H.new i t _ ht hm).2;omega
  ·obtain⟨h1,h2,h3,h4⟩:=H.prm x hx';exact⟨h1,(he.block _ (bw.1 h2).1).trans h2,h3,h4⟩
 ·obtain⟨h1,h2,h0,h3⟩:=H.fr f hf;exact⟨h1,h2,bu h0 he.size,h3.imp id λq=>⟨q.1.trans he,q.2⟩⟩
def bE.aDP {b:Nat}{blk:Obj}{hb:E.w0.heap.size<=b}(r:bE C (E.ahd b blk hb) s a w β):bE C E s a w β:=by have H:=r.hp;have ev:Evo w w ((E.ahd b blk hb).X β) (E.X β) β β s.m s.m s.m.o.length s.m.ns.length s.m.k:=⟨aj _,λb _ hb=>bBl.2 (.inl hb),λ_ _ _ h=>h,aj _,λa i f _ h=>⟨f,h⟩,λi e t _ h1 h2=>⟨e,t,h1,h2,λ_=>⟨rfl,rfl⟩,λ_=>⟨rfl,rfl,rfl,λb hb=>rfl⟩,λh=>⟨h,rfl⟩⟩⟩;exact⟨⟨H.ext,H.len,H.vers,H.cnt,H.new,H.dist,H.nd,λi t e h1 h2=>Ob.aBF ev (H.ok i t e h1 h2) λb hb=>rfl,λx hx=>Sv.aAU ev (H.pin x hx),λx hx=>H.prm x (da _ hx),H.fr⟩,r.defers,r.tsz,λn x hx=>Sv.aAU ev (r.tm n x hx)⟩
def bE.aCZ {b:Nat}{blk:Obj}{hb:E.w0.heap.size<=b}(r:bE C (E.ahd b blk hb) s a w β)(hP:E.prm=[]){e':EO U}{t':Tr}{k':Nat}(hk:s.m.k<=k')(hv:e'.rv<=k'/\e'.cv<=k')(ht:t'.all=[b])
  (hok:Evo w w ((E.ahd b blk hb).X β) (E.X (β++[t'])) β (β++[t']) s.m ⟨s.m.o++[e'],k',s.m.ns⟩ s.m.o.length s.m.ns.length s.m.k->w.heap[b]? =some blk->e'.ob.ok C w (E.X (β++[t'])) (β++[t']) ⟨s.m.o++[e'],k',s.m.ns⟩ t'):
  bE C E ⟨s.t,⟨s.m.o++[e'],k',s.m.ns⟩,s.fr⟩ a w (β++[t']):=by
 have H:=r.hp;have hlen:=H.len;obtain⟨_,p2,p3,p4⟩:=H.prm (b,blk) de;have hbl:b<w.heap.size:=(bw.1 p2).1;have ev:Evo w w ((E.ahd b blk hb).X β) (E.X (β++[t'])) β (β++[t']) s.m ⟨s.m.o++[e'],k',s.m.ns⟩ s.m.o.length s.m.ns.length s.m.k:=by
  refine⟨aj _,λb' _ h=>bBl.2 ?_,λ_ _ _ h=>h,hk,λa i f _ h=>⟨f,h⟩,λi e t hi he ht'=>⟨e,t,?_,?_,λ_=>⟨rfl,rfl⟩,λ_=>⟨rfl,rfl,rfl,λ_ _=>rfl⟩,λh=>⟨h,rfl⟩⟩⟩
  ·rcases h with h|h|⟨u,hu,hm⟩
   ·exact .inl (.inl h)
   ·exact .inl (.inr (.inl h))
   ·rcases bz.1 hu with hu|hu
    ·exact .inl (.inr (.inr ⟨u,hu,hm⟩))
    ·simp at hu;subst hu;rw[ht] at hm;simp at hm;exact .inr hm
  ·exact(aq hi).trans he
  ·exact(aq (lt_of_some ht')).trans ht'
 have hb':∀(i:Nat) (t:Tr),(β++[t'])[i]? =some t->β[i]? =some t\/(i=β.length/\t=t'):=λi t h=>by
  by_cases hi:i<β.length
  ·rw[aq hi] at h;exact .inl h
  ·have:=lt_of_some h;simp at this;have e:i=β.length:=by omega
   subst e;simp at h;exact .inr ⟨rfl,h.symm⟩
 have ho':∀(i:Nat) (e:EO U),(s.m.o++[e'])[i]? =some e->s.m.o[i]? =some e\/(i=s.m.o.length/\e=e'):=λi e h=>by
  by_cases hi:i<s.m.o.length
  ·rw[aq hi] at h;exact .inl h
  ·have:=lt_of_some h;simp at this;have e1:i=s.m.o.length:=by omega
   subst e1;simp at h;exact .inr ⟨rfl,h.symm⟩
 refine⟨⟨H.ext,by simp[hlen],λi e he=> ?_,H.cnt,λi t x h1 h2=> ?_,λi j t u x hij h1 h2 h3 h4=> ?_,λi t h1=> ?_,λi t e h1 h2=> ?_,λx hx=>Sv.aAU ev (H.pin x hx),λx hx=>by rw[hP] at hx;simp at hx,λf hf=> ?_⟩,r.defers,r.tsz,λn x hx=>Sv.aAU ev (r.tm n x hx)⟩
 ·rcases ho' i e he with h|⟨_,rfl⟩
  ·have:=H.vers i e h;exact⟨bu this.1 hk,bu this.2 hk⟩
  ·exact hv
 ·rcases hb' i t h1 with h|⟨_,rfl⟩
  ·exact H.new i t x h h2
  ·rw[ht] at h2;simp at h2;subst h2;exact⟨.inl hb,hbl⟩
 ·rcases hb' i t h1 with h|⟨ei,rfl⟩<;>rcases hb' j u h2 with h'|⟨ej,rfl⟩
  ·exact H.dist i j t u x hij h h' h3 h4
  ·rw[ht] at h4;simp at h4;subst h4;exact p4 i t h h3
  ·rw[ht] at h3;simp at h3;subst h3;exact p4 j u h' h4
  ·exact hij (ei.trans ej.symm)
 ·rcases hb' i t h1 with h|⟨_,rfl⟩
  ·exact H.nd i t h
  ·rw[ht];simp
 ·rcases hb' i t h1 with h|⟨ei,rfl⟩
  ·rcases ho' i e h2 with h'|⟨ei,_⟩
   ·exact Ob.aBF ev (H.ok i t e h h') λ_ _=>rfl
   ·have:=lt_of_some h;rw[hlen] at this;omega
  ·rcases ho' i e h2 with h'|⟨_,rfl⟩
   ·have:=lt_of_some h';rw[hlen] at ei;omega
   ·exact hok ev p2
 ·obtain⟨h1,h2,h0,h3⟩:=H.fr f hf;refine⟨by simp;omega,bu h2 hk,h0,?_⟩;rcases h3 with⟨j,e,q1,q2,q3⟩|⟨q1,q2⟩
  ·exact .inl ⟨j,e,q1,(aq (lt_of_some q2)).trans q2,q3⟩
  ·refine .inr ⟨q1,λi t x hi h1 hx=> ?_⟩;rcases hb' i t h1 with h|⟨_,rfl⟩
   ·exact q2 i t x hi h hx
   ·rw[ht] at hx;simp at hx;subst hx;exact p3 f hf
def mkF (op:Op)(b:Nat):Value:=match op with
 | .buildSlice _ n _=> .slice (some ⟨b,0,none⟩) n n
 |_=> .pointer (some ⟨b,0,none⟩)
def Flp (P:Program)(a:Act)(o:Oper)(blk:Obj):Prop:=∀w:World,(execOp a.eval o).run P w= .ok (.value (mkF o.op w.heap.size)) (w.alloc blk)
def aYz {γ:Type}{x:Option γ}(h:(!Cx x)=true):∃y,x=some y:=by
 cases x with
 |none=>cases h
 |some y=>exact⟨y,rfl⟩
def Xp (hTI:pY P TI=true){o:Oper}{T:TypeId}{i:TInfo}(ho:o.op= .alloc T)(hf:iJ TI T=some i):∃vs:Array Value,Flp P a o (.cells vs T)/\∀(w:World) (X:Nat->Prop) (β:List Tr) (m:Mm U),Ms Y.C w X β m vs.toList (i.z.map Kz.lf):=by obtain⟨j,z,k3,k4,k5⟩:=aI5 (bT hTI hf);refine⟨z.cells,λw=> ?_,λw X β m=>Ng k5⟩;simp[execOp,ho,Instr.alloc,zeroValue,typeInfo,k3,k4,newVar,newRow,mkF]
def Nj {T:TypeId}(h:zW Y TI s (.alloc T)=true):∃i,iJ TI T=some i:=aYz h
def Nk {t:TypeId}{n:Nat}{ps:Array (Nat×Operand)}(h:zW Y TI s (.buildSlice t n ps)=true):∃e ek eb k zz l d,iJ TI t=some ⟨.sl e ek eb,k,zz⟩/\ps.toList.length=n/\n*ek<=16777216/\Gu (U:=U) e ek e=true/\Nb Y s e 0 ps.toList=some (l,[],d):=by
 unfold zW at h;simp only at h;split at h
 ·rename_i e ek eb k zz h1;simp only[aa,bK] at h;obtain⟨q1,q2,q3,q4⟩:=h;split at q4
  ·rename_i l d h5;exact⟨e,ek,eb,k,zz,l,d,h1,ah q1,bf q2,q3,h5⟩
  ·cases q4
 ·cases h
def aCu (hTI:pY P TI=true)(hY:LayOk Y)(r:bE Y.C E s a w β){o:Oper}{t:TypeId}{n e ek eb k:Nat}{zz:List Kz}{ps:Array (Nat×Operand)}{l:List (U.El e)}{d:Bool}(ho:o.op= .buildSlice t n ps)
  (h1:iJ TI t=some ⟨.sl e ek eb,k,zz⟩) (h2:ps.toList.length=n) (h3:n*ek<=16777216) (h4:Gu (U:=U) e ek e=true) (h5:Nb Y s e 0 ps.toList=some (l,[],d)):
  ∃cells:Array Value,Flp P a o (.cells cells e)/\0<U.K e/\n<=maxLen/\l.length=n/\cells.size=n*U.K e/\OwL Y.C w (E.X β) d cells.toList (l.map (Y.C.cel e)).flatten []:=by
 have hsl:=(zX (bT hTI h1) rfl).1;obtain⟨_,_,_,_,_,_,_,_,hk0⟩:=fA hsl;simp only[Gu,aa] at h4;have hKe:U.K e=ek:=ah h4.2;obtain⟨vs,k1,k2,k3,k4,k5⟩:=He hY r h5;rw[hKe] at k4;have hnm:n<=maxLen:=by have:n*1<=n*ek:=fu _ hk0;unfold maxLen;omega
 refine⟨(vs.map λv=>v.cells.toList).flatten.toArray,λw=> ?_,by rw[hKe];exact hk0,hnm,k3.trans h2,?_,by rw[List.toList_toArray];exact k5⟩
 ·obtain⟨cells,q1,q2⟩:=Xl (w:=w) hsl (k2.trans h2) h3 k1 k4 ho;have:cells=(vs.map λv=>v.cells.toList).flatten.toArray:=by rw[<-q2]
  rw[q1,<-this];simp only[mkF,ho]
 ·have:=k5.len;rw[Cw (Y.C.hlen e),k3,h2] at this;simpa using this
def aRd (G:Good P g Y TI FZ)(r:bE Y.C E s a w β){o:Oper}(h:zW Y TI s o.op=true):∃blk,Flp P a o blk:=by
 cases ho:o.op with
 |alloc T=>rw[ho] at h;obtain⟨i,hf⟩:=Nj h;obtain⟨vs,k,_⟩:=Xp (Y:=Y) (a:=a) G.ti ho hf;exact⟨_,k⟩
 |buildSlice t n ps=>rw[ho] at h;obtain⟨e,ek,eb,k,zz,l,d,h1,h2,h3,h4,h5⟩:=Nk h;obtain⟨cells,q,_⟩:=aCu G.ti G.lay r ho h1 h2 h3 h4 h5;exact⟨_,q⟩
 |_=>rw[ho] at h;cases h
def Flp.keep {o:Oper}{blk:Obj}(h:Flp P a o blk){d:Option Nat}{v:Value}(hd:aYo o d=true):Flp P (a.put d v) o blk:=by
 have e:execOp (a.put d v).eval o=execOp a.eval o:=by
  cases d with
  |none=>rfl
  |some n=>
   have hd2:(match o.op with
    | .alloc _=>true
    | .buildSlice _ _ ps=>ps.toList.all λx=>match x.2 with| .tmp m=> !Nat.beq n m|_=>true
    |_=>false)=true:=hd
   cases ho:o.op with
   |alloc T=>simp only[execOp,ho]
   |buildSlice t m ps=>
    rw[ho] at hd2;simp only[cF] at hd2;have:ps.map (λ(i,x)=>(i,(a.put (some n) v).eval x))=ps.map (λ(i,x)=>(i,a.eval x)):=by
     apply Array.map_congr_left;intro x hx;have:=hd2 x (by simpa using hx);obtain⟨i,x⟩:=x;simp only[cU,true_and];refine Act.eval_put λd hd hxd=> ?_
     have hd':=ak hd;subst hd';subst hxd;simp at this
    simp only[execOp,ho,this]
   |_=>rw[ho] at hd2;cases hd2
 intro w;rw[e];exact h w
def bDp {w:World}{x y:Obj}(h:w.alloc x=w.alloc y):x=y:=by
 have h1:w.heap.push x=w.heap.push y:=congrArg World.heap h;have h2:(w.heap.push x)[w.heap.size]? =(w.heap.push y)[w.heap.size]? :=by rw[h1]
 simpa using h2
def Flp.inj {o:Oper}{x y:Obj}(w:World)(h1:Flp P a o x)(h2:Flp P a o y):x=y:=by have:=(h1 w).symm.trans (h2 w);injection this with _ h;exact bDp h
def bDq (G:Good P g Y TI FZ){b:Nat}{blk:Obj}{hb:E.w0.heap.size<=b}(r:bE Y.C (E.ahd b blk hb) s a w β)(hP:E.prm=[]){o:Oper}(hf:Flp P a o blk)(hg:zW Y TI s o.op=true){α:Type}{K:Sv U->St U->Option α}{z:α}(h:stp Y TI FZ s o.op K=some z):
  ∃x s' β',K x s'=some z/\bE Y.C E s' a w β'/\x.mean Y.C w (E.X β') β' s'.m (mkF o.op b)/\s'.t=s.t/\s'.fr=s.fr/\Am s.m s'.m:=by
 have hlen:=r.hp.len;cases ho:o.op with
 |alloc T=>
  rw[ho] at hg h;obtain⟨i,hi⟩:=Nj hg;obtain⟨vs,k,hM⟩:=Xp (Y:=Y) (a:=a) G.ti ho hi;have hblk:=hf.inj w k;subst hblk;have h':K (.l (.box (len s.m.o) 0)) (psh s (.box T (i.z.map Kz.lf) (i.z.map λ_=>s.m.k)))=some z:=by
   have:stp Y TI FZ s (.alloc T) K=match iJ TI T with
    |some i=>K (.l (.box (len s.m.o) 0)) (psh s (.box T (i.z.map Kz.lf) (i.z.map λ_=>s.m.k)))
    |none=>none:=rfl
   rw[this,hi] at h;exact h
  have r':=r.aCZ hP (e':=⟨.box T (i.z.map Kz.lf) (i.z.map λ_=>s.m.k),s.m.k,s.m.k⟩) (t':=⟨some b,0,0,[]⟩) (aj _) ⟨aj _,aj _⟩ rfl (λhev hbk=>⟨by simp,b,vs.toList,rfl,rfl,by simpa using hbk,hM _ _ _ _⟩);refine⟨_,_,_,h',r',⟨rfl,⟨.box T (i.z.map Kz.lf) (i.z.map λ_=>s.m.k),s.m.k,s.m.k⟩,⟨some b,0,0,[]⟩,?_,?_,λ_=>⟨_,rfl,rfl⟩⟩,rfl,rfl,Am.add _ _⟩
  ·simp[psh,bK]
  ·rw[ay (by rw[hlen,bK];exact aj _),hlen,bK];simp
 |buildSlice t n ps=>
  rw[ho] at hg h;obtain⟨e,ek,eb,k,zz,l,d,h1,h2,h3,h4,h5⟩:=Nk hg;obtain⟨cells,q1,q2,q3,q4,q5,q6⟩:=aCu G.ti G.lay r ho h1 h2 h3 h4 h5;have hblk:=hf.inj w q1;subst hblk;cases hpl:(!Cx (iJ FZ 3000000)&&(!Nat.beq n 0&&aYj ([]:List Nat))) with
  |true=>
  have h':K (.l (.sl e l)) s=some z:=by
   have:stp Y TI FZ s (.buildSlice t n ps) K=bif Nat.beq (len ps.toList) n&&(Nat.ble (n*ek) 16777216&&Gu (U:=U) e ek e) then(bif !Cx (iJ FZ 3000000)&&(!Nat.beq n 0&&aYj ([]:List Nat)) then K (.l (.sl e l)) s else bif dist (len s.m.o::[]) then K (.l (.own (len s.m.o) s.m.k)) ⟨s.t,⟨upd (s.m.o++[⟨.dead,s.m.k,s.m.k⟩]) (len s.m.o) ⟨.tree e d l,s.m.k,Nat.succ s.m.k⟩,Nat.succ s.m.k,s.m.ns⟩,s.fr⟩ else none) else none:=by
    show(match iJ TI t with
     |some ⟨.sl e ek _,_,_⟩=>_
     |_=>none)=_
    rw[h1];simp only;rw[h5];rfl
   rw[hpl] at this;rw[this,bK,h2] at h;rw[show Nat.beq n n=true from dp n,ee h3,h4] at h;simpa using h
  obtain⟨_,p2,_,p4⟩:=r.hp.prm (b, .cells cells e) de;refine⟨_,_,β,h',r.aDP,?_,rfl,rfl,Am.refl _⟩;refine Ow.rd (X:=(E.ahd b (.cells cells e) hb).X β) (Z:=E.X β) (λx hx=>bBl.2 (.inl hx)) (Ow.sl ⟨some b,n,n,[]⟩ q2 (by
   exact⟨by rw[q4,cy,q5], .inr ⟨b,n,cells,by rw[q4];rfl,cx _,p2,by rw[q4];exact aj _,q3,q5,by rw[q4];exact dy (by rw[cy,q5];exact aj _)⟩⟩) q6) (λx hx hX=> ?_)
  simp[Tr.all] at hx;subst hx;rcases hX with hX|hX|⟨u,hu,hm⟩
  ·rcases E.h0 _ hX with hX|⟨y,hy,_⟩
   ·omega
   ·rw[hP] at hy;simp at hy
  ·have:=E.hY _ hX;omega
  ·obtain⟨i,hi⟩:=cV.1 hu;exact p4 i u hi hm
  |false=>
  have hst:∀o':List (EO U),o'=s.m.o++[(⟨.tree e d l,s.m.k,Nat.succ s.m.k⟩:EO U)]->K (.l (.own (len s.m.o) s.m.k)) ⟨s.t,⟨o',Nat.succ s.m.k,s.m.ns⟩,s.fr⟩=some z:=λo' ho'=>by
   have:stp Y TI FZ s (.buildSlice t n ps) K=bif Nat.beq (len ps.toList) n&&(Nat.ble (n*ek) 16777216&&Gu (U:=U) e ek e) then(bif dist (len s.m.o::[]) then K (.l (.own (len s.m.o) s.m.k)) ⟨s.t,⟨upd (s.m.o++[⟨.dead,s.m.k,s.m.k⟩]) (len s.m.o) ⟨.tree e d l,s.m.k,Nat.succ s.m.k⟩,Nat.succ s.m.k,s.m.ns⟩,s.fr⟩ else none) else none:=by
    show(match iJ TI t with
     |some ⟨.sl e ek _,_,_⟩=>_
     |_=>none)=_
    rw[h1];simp only;rw[h5];simp only[hpl,ab];rfl
   rw[this,bK,h2] at h;rw[show Nat.beq n n=true from dp n,ee h3,h4] at h;simp only[dw,ac] at h;have hd:dist [len s.m.o]=true:=rfl;rw[hd] at h;simp only[ac] at h;rw[bZ,bK,fe _ _ (aj _),fm] at h;rw[ho',bK];exact h
  have r':=r.aCZ hP (e':=⟨.tree e d l,s.m.k,Nat.succ s.m.k⟩) (t':=⟨some b,n,n,[]⟩) (eo _) ⟨eo _,aj _⟩ rfl (λhev hbk=>by
   refine⟨q2,cells.toList,?_,q6.conv (aj _) hev.hX (λ_ _ _ h=>h) (by simp)⟩;exact⟨by rw[q4,cy,q5], .inr ⟨b,n,cells,by rw[q4];rfl,cx _,hbk,by rw[q4];exact aj _,q3,q5,by rw[q4];exact dy (by rw[cy,q5];exact aj _)⟩⟩)
  refine⟨_,_,_,hst _ rfl,r',⟨⟨eo _,rfl⟩,⟨.tree e d l,s.m.k,Nat.succ s.m.k⟩,⟨some b,n,n,[]⟩,?_,?_,λ_=>rfl⟩,rfl,rfl,?_⟩
  ·simp[bK]
  ·rw[ay (by rw[hlen,bK];exact aj _),hlen,bK];simp
  ·have a1:=(Am.add s.m [(⟨.dead,s.m.k,s.m.k⟩:EO U)]).trans (Am.tree (ids:=[]) (i:=len s.m.o) (τ:=e) (d:=d) (l:=l) (rv:=s.m.k) _);have e1:(⟨Si (Nat.succ s.m.k) [] (upd (s.m.o++[(⟨.dead,s.m.k,s.m.k⟩:EO U)]) (len s.m.o) ⟨.tree e d l,s.m.k,Nat.succ s.m.k⟩),Nat.succ s.m.k,s.m.ns⟩:Mm U)=⟨s.m.o++[⟨.tree e d l,s.m.k,Nat.succ s.m.k⟩],Nat.succ s.m.k,s.m.ns⟩:=by rw[bZ,bK,fe _ _ (aj _),fm];rfl
   exact e1▸a1
 |_=>rw[ho] at hg;cases hg
end
end Go.EV
namespace Go.EV
open Go.RowKit Go.VK
variable {U:Uni} {C:Cod U} {P:Program} {g:GI} {E:Env U g}
def Ob.bd (N M K:Nat):Ob U->Prop
 | .box _ cs _=>∀c∈cs,c.bd N M K
 |_=>True
def jU (β:List Tr):Option Nat->Tr
 |some i=>match β[i]? with|some t=>t|none=>aCr
 |none=>aCr
inductive Src (N M K:Nat) (m:Mm U) (q:Option Nat) (j:Nat) (e':EO U):Prop
 |keep (hq:q=some j) (he:m.o[j]? =some e') (hb:e'.ob.bd N M K)
 |box (hq:q=some j) {e:EO U} {T:Nat} {cs cs':List (Lf U)} {vs vs':List Nat} (he:m.o[j]? =some e) (h1:e.ob= .box T cs vs) (h2:e'.ob= .box T cs' vs') (l1:cs'.length=cs.length) (l2:cs'.length=vs'.length) (hc:∀(i:Nat) (c:Lf U),cs'[i]? =some c->c= .any\/(cs[i]? =some c/\c.bd N M K)) (hv:K<e'.rv/\K<e'.cv)
 |dead (h:e'.ob= .dead) (hv:K<e'.rv/\K<e'.cv)
 |tree {i:Nat} {e:EO U} {τ:Nat} {d d':Bool} {l:List (U.El τ)} (hq:q=some i) (he:m.o[i]? =some e) (h1:e.ob= .tree τ d' l) (hd:d=true->d'=true) (h2:e'.ob= .tree τ d l) (hv:K<e'.rv/\K<e'.cv)
 |ti {e:EO U} {τ:Nat} {d d':Bool} {l:List (U.El τ)} (hq:q=some j) (he:m.o[j]? =some e) (h1:e.ob= .tree τ d' l) (hd:d=true->d'=true) (h2:e'.ob= .tree τ d l) (hr:e'.rv=e.rv) (hv:K<e'.cv)
 |nil {τ:Nat} {d:Bool} (hq:q=none) (h2:e'.ob= .tree τ d []) (hK:0<U.K τ) (hv:K<e'.rv/\K<e'.cv)
section
variable {m m':Mm U} {w:World} {β:List Tr} {σ:List (Option Nat)} {N M K:Nat}
def O1 {q:Option Nat}{b:Nat}(h:b∈(jU β q).all):∃i t,q=some i/\β[i]? =some t/\jU β q=t:=by
 cases q with
 |none=>simp[jU,nV] at h
 |some i=>
  cases hb:β[i]? with
  |none=>simp[jU,hb,nV] at h
  |some t=>exact⟨i,t,rfl,hb,by simp[jU,hb]⟩
def Hp.ren (H:Hp C E m β w)(hl:σ.length=m'.o.length)(hN:N<=m'.o.length)(hinj:∀(j j' i:Nat),σ[j]? =some (some i)->σ[j']? =some (some i)->j=j')(hk:K<=m'.k)
  (hver:∀(i:Nat) (e:EO U),m'.o[i]? =some e->e.rv<=m'.k/\e.cv<=m'.k) (hcnt:∀(a i:Nat),m'.ns[a]? =some (i,true)->(i:Int)+1<=9223372036854775807)
  (hn:∀(a i:Nat) (f:Bool),a<M->m.ns[a]? =some (i,f)->∃f',m'.ns[a]? =some (i,f'))
  (hs:∀(j:Nat) (q:Option Nat) (e':EO U),σ[j]? =some q->m'.o[j]? =some e'->Src N M K m q j e') (hpin:∀x∈E.pin,x.1.bd N M K) (hfr:E.fr=[]):
  Hp C E m' (σ.map (jU β)) w/\Evo w w (E.X β) (E.X (σ.map (jU β))) β (σ.map (jU β)) m m' N M K:=by
 have hget:∀(j:Nat) (t:Tr),(σ.map (jU β))[j]? =some t->∃q,σ[j]? =some q/\t=jU β q:=λj t h=>by
  rw[bh] at h;cases hq:σ[j]? with
  |none=>simp[hq] at h
  |some q=>simp only[hq,cJ,ai] at h;exact⟨q,rfl,h.symm⟩
 have hX:∀b,E.X (σ.map (jU β)) b->E.X β b:=by
  rintro b (h|h|⟨t,ht,hb⟩)
  ·exact .inl h
  ·exact .inr (.inl h)
  ·obtain⟨q,_,rfl⟩:=cj.1 ht;obtain⟨i,t,_,h2,h3⟩:=O1 hb;rw[h3] at hb;exact .inr (.inr ⟨t,az h2,hb⟩)
 have hev:Evo w w (E.X β) (E.X (σ.map (jU β))) β (σ.map (jU β)) m m' N M K:=by
  refine⟨aj _,λb _=>hX b,λ_ _ _ h=>h,hk,λa i f ha h=>hn a i f ha h,λi e t hi he ht=> ?_⟩;have hi':i<m'.o.length:=cg hi hN;have h1:m'.o[i]? =some m'.o[i]:=ae hi';have h2:σ[i]? =some (σ[i]'(by omega)):=ae _;have h3:(σ.map (jU β))[i]? =some (jU β (σ[i]'(by omega))):=by rw[bh,h2];rfl
  refine⟨_,_,h1,h3,?_⟩;have hsr:=hs i _ _ h2 h1;have big:K<(m'.o[i]).rv/\K<(m'.o[i]).cv->(m'.o[i]).ob.aAX=false->((m'.o[i]).rv<=K->(m'.o[i]).rv=e.rv/\(jU β (σ[i]'(by omega))).val=t.val)/\((m'.o[i]).cv<=K->(m'.o[i]).cv=e.cv/\(m'.o[i]).ob=e.ob/\jU β (σ[i]'(by omega))=t/\∀b∈t.all,w.heap[b]? =w.heap[b]?)/\((m'.o[i]).ob.aAX=true->e.ob.aAX=true/\(jU β (σ[i]'(by omega))).b=t.b):=λhv hb=>
   ⟨λh=>absurd h (by omega),λh=>absurd h (by omega),λh=>by rw[hb] at h;cases h⟩
  cases hsr with
  |keep hq he' hb=>
   rw[he] at he';have e0:e=m'.o[i]:=ak he';have e1:jU β (σ[i]'(by omega))=t:=by rw[hq];simp[jU,ht]
   rw[e1,<-e0];exact⟨λ_=>⟨rfl,rfl⟩,λ_=>⟨rfl,rfl,rfl,λ_ _=>rfl⟩,λh=>⟨h,rfl⟩⟩
  |box hq he' q1 q2 _ _ _ hv=>
   rw[he] at he';have e0:=ak he';have e1:jU β (σ[i]'(by omega))=t:=by rw[hq];simp[jU,ht]
   rw[e1];refine⟨λh=>absurd h (by omega),λh=>absurd h (by omega),λ_=>⟨?_,rfl⟩⟩;rw[e0,q1];rfl
  |dead h hv=>exact big hv (by rw[h];rfl)
  |tree _ _ _ _ h hv=>exact big hv (by rw[h];rfl)
  |ti hq he' _ _ h hr hv=>
   rw[he] at he';have e0:=ak he';have e1:jU β (σ[i]'(by omega))=t:=by rw[hq];simp[jU,ht]
   rw[e1,e0];exact⟨λ_=>⟨hr,rfl⟩,λh=>absurd h (by omega),λhb=>by rw[h] at hb;cases hb⟩
  |nil _ h _ hv=>exact big hv (by rw[h];rfl)
 refine⟨⟨H.ext,by rw[bl,hl],hver,hcnt,?_,?_,?_,?_,λx hx=>Sv.aAY hev (hpin x hx) (H.pin x hx),λx hx=> ?_,λf hf=>by rw[hfr] at hf;simp at hf⟩,hev⟩
 ·intro j t b ht hb;obtain⟨q,_,rfl⟩:=hget j t ht;obtain⟨i,t,_,h2,h3⟩:=O1 hb;rw[h3] at hb;exact H.new i t b h2 hb
 ·intro j j' t u b hjj ht hu hb hub;obtain⟨q,hq,rfl⟩:=hget j t ht;obtain⟨q',hq',rfl⟩:=hget j' u hu;obtain⟨i,t,e1,h2,h3⟩:=O1 hb;obtain⟨i',t',e1',h2',h3'⟩:=O1 hub;rw[h3] at hb;rw[h3'] at hub;refine H.dist i i' t t' b (λe=>hjj ?_) h2 h2' hb hub;subst e;subst e1;subst e1';exact hinj j j' i hq hq'
 ·intro j t ht;obtain⟨q,hq,rfl⟩:=hget j t ht;cases q with
  |none=>rw[show jU β none=aCr from rfl,nV];exact fj
  |some i=>
   cases hb:β[i]? with
   |none=>simp[jU,hb,nV]
   |some t=>simp only[jU,hb];exact H.nd i t hb
 ·intro j t e' ht he';obtain⟨q,hq,rfl⟩:=hget j t ht;cases hs j q e' hq he' with
  |keep hq he hb=>
   subst hq;obtain⟨t,ht⟩:=H.tr he;simp only[jU,ht];have hok:=H.ok j t e' ht he;generalize e'.ob=x at hok hb ⊢;cases x with
   |dead=>trivial
   |box T cs us=>obtain⟨h0,b,vs,h1,h2,h3,h4⟩:=hok;exact⟨h0,b,vs,h1,h2,h3,h4.evo hev hb⟩
   |tree τ d l=>obtain⟨h1,xs,h2,h3⟩:=hok;exact⟨h1,xs,h2,h3.conv (aj _) (λb _=>hX b) (λ_ _ _ h=>h) (λ_ _=>rfl)⟩
  |box hq he h1 h2 l1 l2 hc hv=>
   subst hq;obtain⟨t,ht⟩:=H.tr he;simp only[jU,ht];have hok:=H.ok j t _ ht he;rw[h1] at hok;rw[h2];obtain⟨h0,b,vs,k1,k2,k3,k4⟩:=hok;refine⟨l2,b,vs,k1,k2,k3,by rw[k4.1,l1],λi v c hv hc'=> ?_⟩
   rcases hc i c hc' with rfl|⟨hc1,hc2⟩
   ·trivial
   ·exact Lf.aAY hev hc2 (k4.2 i v c hv hc1)
  |dead h hv=>rw[h];trivial
  |tree hq he h1 hd h2 hv=>subst hq;obtain⟨t,ht⟩:=H.tr he;simp only[jU,ht];have hok:=H.ok _ t _ ht he;rw[h1] at hok;rw[h2];obtain⟨k1,xs,k2,k3⟩:=hok;exact⟨k1,xs,k2,(k3.fl hd).conv (aj _) (λb _=>hX b) (λ_ _ _ h=>h) (λ_ _=>rfl)⟩
  |ti hq he h1 hd h2 hr hv=>subst hq;obtain⟨t,ht⟩:=H.tr he;simp only[jU,ht];have hok:=H.ok _ t _ ht he;rw[h1] at hok;rw[h2];obtain⟨k1,xs,k2,k3⟩:=hok;exact⟨k1,xs,k2,(k3.fl hd).conv (aj _) (λb _=>hX b) (λ_ _ _ h=>h) (λ_ _=>rfl)⟩
  |nil hq h2 hK hv=>subst hq;rw[h2];exact⟨hK,[],World.ownsRow_nil w 0 _ _, .n⟩
 ·obtain⟨h1,h2,h3,h4⟩:=H.prm x hx;refine⟨h1,h2,h3,λj t ht hb=> ?_⟩;obtain⟨q,_,rfl⟩:=hget j t ht;obtain⟨i,t,_,q2,q3⟩:=O1 hb;rw[q3] at hb;exact h4 i t q2 hb
end
end Go.EV
namespace Go.EV
open Go.RowKit Go.VK
variable {U:Uni} {Y:Lay U} {P:Program} {g:GI} {E:Env U g}
def Dhd:{x:DI}->{xs:List DI}->Dat U (x::xs)->x.ty U
 |_,[],d=>d
 |_,_::_,d=>d.1
def Dtl:{x:DI}->{xs:List DI}->Dat U (x::xs)->Dat U xs
 |_,[],_=>()
 |_,_::_,d=>d.2
def lG {s:St U}{x:DI}{xs:List DI}{d:Dat U (x::xs)}(h:gets Y s (x::xs)=some d):aS9 Y s x=some (Dhd d)/\gets Y s xs=some (Dtl d):=by
 cases xs with
 |nil=>exact⟨h,rfl⟩
 |cons x' xs=>
  simp only[gets] at h;cases h1:aS9 Y s x with
  |none=>rw[h1] at h;cases h
  |some a=>
   cases h2:gets Y s (x'::xs) with
   |none=>rw[h1,h2] at h;cases h
   |some b=>rw[h1,h2] at h;have:=ak h;subst this;exact⟨rfl,rfl⟩
def sJ {k:Nat}{x:DI}{xs:List DI}{d:Dat U (x::xs)}{o:List (EO U)}:aGv k (x::xs) d o=aGv k xs (Dtl d) (aJ4 k x (Dhd d) o):=by
 cases xs with
 |nil=>rfl
 |cons=>rfl
def aRe {k n:Nat}{x:DI}{xs:List DI}{d:Dat U (x::xs)}{s:St U}:sets Y k n s (x::xs) d=sets Y k (nxt n x) (set1 Y k n s x (Dhd d)) xs (Dtl d):=by
 cases xs with
 |nil=>rfl
 |cons=>rfl
def Nl {k:Nat}:∀{l:List (Nat×Nat)} {o:List (EO U)},(Kk k l o).length=o.length
 |[],o=>rfl
 |x::l,o=>by
  have e:Kk k (x::l) o=match nth (Kk k l o) x.1 with|some ⟨.box T cs vs,_,_⟩=>upd (Kk k l o) x.1 ⟨.box T (upd cs x.2 .any) (upd vs x.2 k),k,k⟩|_=>Kk k l o:=rfl
  rw[e];split
  ·rw[bZ,ax];exact Nl
  ·exact Nl
def xI {k:Nat}{o:List (EO U)}{j:Nat}{e:EO U}(he:o[j]? =some e):∀(l:List (Nat×Nat)),∃e',(Kk k l o)[j]? =some e'/\((e.ob.aAX=false\/hasB j l=false)->e'=e)/\
  (∀T cs vs,e.ob= .box T cs vs->∃cs' vs',e'.ob= .box T cs' vs'/\cs'.length=cs.length/\vs'.length=vs.length/\(hasB j l=true->e'.rv=k/\e'.cv=k)/\
   ∀i,(aJ3 j i l=true->∀c,cs'[i]? =some c->c= .any)/\(aJ3 j i l=true->∀v,vs'[i]? =some v->v=k)/\(aJ3 j i l=false->cs'[i]? =cs[i]? /\vs'[i]? =vs[i]?))
 |[]=>⟨e,he,λ_=>rfl,λT cs vs h=>⟨cs,vs,h,rfl,rfl,λh=>(by cases h),λi=>⟨λh=>(by cases h),λh=>(by cases h),λ_=>⟨rfl,rfl⟩⟩⟩⟩
 |(b,p)::l=>by
  obtain⟨e1,h1,h2,h3⟩:=xI he l;have e0:Kk k ((b,p)::l) o=match nth (Kk k l o) b with|some ⟨.box T cs vs,_,_⟩=>upd (Kk k l o) b ⟨.box T (upd cs p .any) (upd vs p k),k,k⟩|_=>Kk k l o:=rfl
  have eB:hasB j ((b,p)::l)=cond (Nat.beq b j) true (hasB j l):=rfl;have eA:∀i,aJ3 j i ((b,p)::l)=cond (Nat.beq b j&&Nat.beq p i) true (aJ3 j i l):=λ_=>rfl;rw[e0,eB];simp only[eA];by_cases hb:b=j
  ·subst hb;have hbb:Nat.beq b b=true:=dp b;rw[aS,h1,hbb];obtain⟨ob,rv,cv⟩:=e1;cases ob with
   |box T1 cs1 vs1=>
    refine⟨⟨.box T1 (upd cs1 p .any) (upd vs1 p k),k,k⟩,by show(upd (Kk k l o) b _)[b]? =_;rw[bZ,bg (lt_of_some h1)],λh=> ?_,λT cs vs h=> ?_⟩
    ·rcases h with h|h
     ·have:=h2 (.inl h);subst this;cases h
     ·cases h
    ·obtain⟨cs',vs',k1,k2,k3,k4,k5⟩:=h3 T cs vs h;injection k1 with q1 q2 q3;subst q1;subst q2;subst q3;refine⟨_,_,rfl,by rw[bZ,ax,k2],by rw[bZ,ax,k3],λ_=>⟨rfl,rfl⟩,λi=> ?_⟩;by_cases hp:p=i
     ·subst hp;have hpp:Nat.beq p p=true:=dp p;simp only[hpp,dw,ac];refine⟨λ_ c hc=> ?_,λ_ v hv=> ?_,λh=>by cases h⟩
      ·rw[bZ] at hc;have hl:p<cs1.length:=by have:=lt_of_some hc;simpa using this
       rw[bg hl] at hc;exact(ak hc).symm
      ·rw[bZ] at hv;have hl:p<vs1.length:=by have:=lt_of_some hv;simpa using this
       rw[bg hl] at hv;exact(ak hv).symm
     ·have hpp:Nat.beq p i=false:=by
       cases hq:Nat.beq p i with
       |false=>rfl
       |true=>exact absurd (ah hq) hp
      simp only[hpp,dl,ab];rw[bZ,bZ,bj hp,bj hp];exact k5 i
   |dead=>
    refine⟨_,h1,λh=> ?_,λT cs vs h=> ?_⟩
    ·refine h2 (.inl ?_);cases ho:e.ob with
     |box T cs vs=>obtain⟨_,_,k1,_⟩:=h3 T cs vs ho;cases k1
     |_=>rfl
    ·obtain⟨_,_,k1,_⟩:=h3 T cs vs h;cases k1
   |tree=>
    refine⟨_,h1,λh=> ?_,λT cs vs h=> ?_⟩
    ·refine h2 (.inl ?_);cases ho:e.ob with
     |box T cs vs=>obtain⟨_,_,k1,_⟩:=h3 T cs vs ho;cases k1
     |_=>rfl
    ·obtain⟨_,_,k1,_⟩:=h3 T cs vs h;cases k1
  ·have hbb:Nat.beq b j=false:=by
    cases hq:Nat.beq b j with
    |false=>rfl
    |true=>exact absurd (ah hq) hb
   simp only[hbb,eM,ab];refine⟨e1,?_,h2,h3⟩;split
   ·rw[bZ,bj hb];exact h1
   ·exact h1
def aRf {cs:List (Nat×Nat)}{k b:Nat}:∀{j:Nat} {vs:List Nat},bJ6 cs k b j vs=true->∀(i v:Nat),vs[i]? =some v->v<=k\/aJ3 b (j+i) cs=true
 |j,[],_,i,v,h=>by simp at h
 |j,x::vs,h,i,v,hv=>by
  simp only[bJ6,aa,cr] at h;cases i with
  |zero=>simp at hv;subst hv;exact h.1.imp bf id
  |succ i=>have:=aRf h.2 i v (by simpa using hv);rwa [show Nat.succ j+i=j+(i+1) by omega] at this
def aRg {cs:List (Nat×Nat)}{dd:List Nat}{k:Nat}:∀{i:Nat} {es es':List (EO U)},aYk cs dd k i es es'=true->∀(j:Nat) (e:EO U),es[j]? =some e->∃e',es'[j]? =some e'/\(e'.cv<=k\/(i+j)∈dd\/∃T c vs,e'.ob= .box T c vs/\hasB (i+j) cs=true/\∀(p v:Nat),vs[p]? =some v->v<=k\/aJ3 (i+j) p cs=true)
 |i,[],es',_,j,e,h=>by simp at h
 |i,x::es,[],h,j,e,he=>by cases h
 |i,x::es,y::es',h,j,e,he=>by
  simp only[aYk,aa,cr] at h;cases j with
  |zero=>
   refine⟨y,rfl,?_⟩;rcases h.1 with h1|h1|h1
   ·exact .inl (bf h1)
   ·exact .inr (.inl (mI.1 h1))
   ·refine .inr (.inr ?_);obtain⟨ob,rv,cv⟩:=y;cases ob with
    |box T c vs=>simp only[aa] at h1;exact⟨T,c,vs,rfl,h1.1,λp v hv=>by have:=aRf h1.2 p v hv;rwa [ca] at this⟩
    |_=>cases h1
  |succ j=>obtain⟨e',q1,q2⟩:=aRg h.2 j e (by simpa using he);rw[show Nat.succ i+j=i+(j+1) by omega] at q2;exact⟨e',by simpa using q1,q2⟩
def sg0 (dd:List Nat)(N:Nat):List (Option Nat):=(List.range N).map λj=>if j∈dd then none else some j
def bBn {dd:List Nat}{N:Nat}:(sg0 dd N).length=N:=by simp[sg0]
def aI7 {dd:List Nat}{N j:Nat}{q:Option Nat}(h:(sg0 dd N)[j]? =some q):j<N/\((j∈dd/\q=none)\/(j∉dd/\q=some j)):=by
 have hl:j<N:=by have:=lt_of_some h;rwa [bBn] at this
 refine⟨hl,?_⟩;rw[sg0,bh,d8 hl] at h;simp only[cJ,ai] at h;by_cases hd:j∈dd
 ·rw[cH hd] at h;exact .inl ⟨hd,h.symm⟩
 ·rw[cX hd] at h;exact .inr ⟨hd,h.symm⟩
structure Inv (N M K k:Nat) (m:Mm U) (σ:List (Option Nat)) (o:List (EO U)):Prop where
 len:σ.length=o.length
 ge:N<=o.length
 inj:∀(j j' i:Nat),σ[j]? =some (some i)->σ[j']? =some (some i)->j=j'
 ver:∀(i:Nat) (e:EO U),o[i]? =some e->e.rv<=k/\e.cv<=k
 src:∀(j:Nat) (q:Option Nat) (e':EO U),σ[j]? =some q->o[j]? =some e'->Src N M K m q j e'
section
variable {C:Cod U} {b s:St U} {a a0:Act} {w w0:World} {β β0:List Tr} {D:Nat->Prop}
def bE.obd (r:bE C E b a0 w0 β0){j:Nat}{e:EO U}(h:b.m.o[j]? =some e):e.ob.bd b.m.o.length b.m.ns.length b.m.k:=by
 obtain⟨t,ht⟩:=r.hp.tr h;have:=r.hp.ok j t e ht h;generalize e.ob=x at this ⊢;cases x with
 |box T cs vs=>obtain⟨_,b',vs',_,_,_,h4⟩:=this;exact h4.bd
 |_=>trivial
def inv0 (rb:bE C E b a0 w0 β0)(hag:Am b.m s.m){cs:List (Nat×Nat)}{dd:List Nat}(hc:aYk cs dd b.m.k 0 b.m.o s.m.o=true):
  Inv b.m.o.length b.m.ns.length b.m.k (Nat.succ b.m.k) s.m (sg0 dd b.m.o.length) (Kk (Nat.succ b.m.k) cs (Si (Nat.succ b.m.k) dd b.m.o)):=by
 have hlen:(Kk (Nat.succ b.m.k) cs (Si (Nat.succ b.m.k) dd b.m.o)).length=b.m.o.length:=by rw[Nl,Gz]
 refine⟨by rw[bBn,hlen],by rw[hlen];exact aj _,λj j' i h1 h2=> ?_,λj e' he'=> ?_,λj q e' hq he'=> ?_⟩
 ·obtain⟨_,h1⟩:=aI7 h1;obtain⟨_,h2⟩:=aI7 h2;rcases h1 with⟨_,h1⟩|⟨_,h1⟩
  ·cases h1
  ·rcases h2 with⟨_,h2⟩|⟨_,h2⟩
   ·cases h2
   ·exact(ak h1).symm.trans (ak h2)
 ·have hl:j<b.m.o.length:=by have:=lt_of_some he';rwa [hlen] at this
  by_cases hd:j∈dd
  ·obtain⟨e1,h1,h2,_⟩:=xI (k:=Nat.succ b.m.k) (aCq (k:=Nat.succ b.m.k) hd hl) cs;rw[he'] at h1;have:=ak h1;subst this;rw[h2 (.inl rfl)];exact⟨aj _,aj _⟩
  ·have h0:=wH (k:=Nat.succ b.m.k) (o:=b.m.o) hd;rw[ae hl] at h0;have hv:=rb.hp.vers j _ (ae hl);obtain⟨e1,h1,h2,h3⟩:=xI (k:=Nat.succ b.m.k) h0 cs;rw[he'] at h1;have:=ak h1;subst this;by_cases hk:(b.m.o[j]).ob.aAX=false\/hasB j cs=false
   ·rw[h2 hk];exact⟨Nat.le_succ_of_le hv.1,Nat.le_succ_of_le hv.2⟩
   ·cases ho:(b.m.o[j]).ob with
    |box T c vs=>
     obtain⟨_,_,_,_,_,h4,_⟩:=h3 T c vs ho;have hB:hasB j cs=true:=by
      cases hh:hasB j cs with
      |true=>rfl
      |false=>exact absurd (.inr hh) hk
     obtain⟨q1,q2⟩:=h4 hB;rw[q1,q2];exact⟨aj _,aj _⟩
    |_=>exact absurd (.inl (by rw[ho];rfl)) hk
 ·obtain⟨hl,hq⟩:=aI7 hq;rcases hq with⟨hd,rfl⟩|⟨hd,rfl⟩
  ·obtain⟨e1,h1,h2,_⟩:=xI (k:=Nat.succ b.m.k) (aCq (k:=Nat.succ b.m.k) hd hl) cs;rw[he'] at h1;have:=ak h1;subst this;rw[h2 (.inl rfl)];exact .dead rfl ⟨dq _,dq _⟩
  ·have hb:b.m.o[j]? =some b.m.o[j]:=ae hl;have h0:(Si (Nat.succ b.m.k) dd b.m.o)[j]? =some b.m.o[j]:=by rw[wH hd];exact hb
   obtain⟨e1,h1,h2,h3⟩:=xI (k:=Nat.succ b.m.k) h0 cs;rw[he'] at h1;have:=ak h1;subst this;obtain⟨es,hs1,hs2⟩:=aRg hc j _ hb;rw[ca] at hs2;obtain⟨am1,am2,am3⟩:=hag.o j _ es hb hs1;by_cases hk:(b.m.o[j]).ob.aAX=false\/hasB j cs=false
   ·have he:=h2 hk;rw[he];refine .keep rfl ?_ (rb.obd hb);rcases hs2 with h|h|⟨T,c,vs,h,h',_⟩
    ·rw[<-am1 h];exact hs1
    ·exact absurd h hd
    ·rcases hk with hk|hk
     ·rw[am2 (by rw[h];rfl)] at hk;cases hk
     ·rw[h'] at hk;cases hk
   ·have hB:hasB j cs=true:=by
     cases hh:hasB j cs with
     |true=>rfl
     |false=>exact absurd (.inr hh) hk
    cases ho:(b.m.o[j]).ob with
    |box T c vs=>
     obtain⟨cs',vs',k1,k2,k3,k4,k5⟩:=h3 T c vs ho;obtain⟨q1,q2⟩:=k4 hB;have hbl:c.length=vs.length:=rb.aBR (b:=j) (T:=T) (rv:=(b.m.o[j]).rv) (cv:=(b.m.o[j]).cv) (by rw[hb,<-ho]);have hbd:=rb.obd hb;rw[ho] at hbd;have hv:b.m.k<e'.rv/\b.m.k<e'.cv:=by rw[q1,q2];exact⟨dq _,dq _⟩
     have cell:∀(cS:List (Lf U)),(∀(i:Nat),aJ3 j i cs=false->i<c.length->cS[i]? =c[i]?)->∀(i:Nat) (x:Lf U),cs'[i]? =some x->x= .any\/(cS[i]? =some x/\x.bd b.m.o.length b.m.ns.length b.m.k):=λcS hS i x hx=>by
      cases hA:aJ3 j i cs with
      |true=>exact .inl ((k5 i).1 hA x hx)
      |false=>have h5:=((k5 i).2.2 hA).1;rw[hx] at h5;have hil:i<c.length:=lt_of_some h5.symm;exact .inr ⟨(hS i hA hil).trans h5.symm,hbd x (az h5.symm)⟩
     rcases hs2 with h|h|⟨T1,c1,vs1,h,_,h'⟩
     ·have e1:=am1 h;exact .box rfl hs1 (by rw[e1];exact ho) k1 k2 (by rw[k2,k3,hbl]) (cell c (λ_ _ _=>rfl)) hv
     ·exact absurd h hd
     ·obtain⟨p1,p2,p3,p4⟩:=am3 T c vs T1 c1 vs1 ho h;refine .box rfl hs1 (by rw[h,p1]) k1 (by rw[k2,p2]) (by rw[k2,k3,hbl]) (cell c1 (λi hA hil=> ?_)) hv;have hvl:i<vs1.length:=by rw[p3,<-hbl];exact hil
      rcases h' i _ (ae hvl) with h''|h''
      ·exact(p4 i _ (ae hvl) h'').1
      ·rw[hA] at h'';cases h''
    |_=>exact absurd (.inl (by rw[ho];rfl)) hk
def sgm:List (Option Nat×Option Nat)->List (Option Nat)->List (Option Nat)
 |[],σ=>σ
 |(some i,x)::q,σ=>sgm q (σ.set i x)
 |(none,x)::q,σ=>sgm q (σ++[x])
def Plc (k:Nat)(σ:List (Option Nat))(o:List (EO U))(s:St U):Nat->List DI->Prop
 |_,[]=>True
 |n, .tr l i τ d::xs=>(∃v q e,lkp s l=some v/\uT s.m τ d v=some q/\σ[i]? =some q.1/\o[i]? =some e/\e.rv=k)/\Plc k σ o s n xs
 |n, .nt l τ d::xs=>(∃v q e,lkp s l=some v/\uT s.m τ d v=some q/\σ[n]? =some q.1/\o[n]? =some e/\e.rv=k)/\Plc k σ o s (Nat.succ n) xs
 |n,_::xs=>Plc k σ o s n xs
def aCv {x:Option Nat×Option Nat}{q:List (Option Nat×Option Nat)}:zS (x::q)=(match x.2 with|some i=>i::zS q|none=>zS q):=by obtain⟨x1,x2⟩:=x;cases x2<;>rfl
def aKj {m:Mm U}{N M K k:Nat}{τ:Nat}{d:Bool}{v:Sv U}{q:Option Nat×List (U.El τ)}(h:uT m τ d v=some q)(hk:K<k){j:Nat}:Src N M K m q.1 j ⟨.tree τ d q.2,k,k⟩:=by
 unfold uT at h;split at h
 ·cases hb:Nat.ble 1 (U.K τ) with
  |false=>rw[hb] at h;cases h
  |true=>rw[hb] at h;have:=ak h;subst this;exact .nil rfl rfl (bf hb) ⟨hk,hk⟩
 ·rename_i i r;rw[aS] at h;split at h
  ·rename_i τ' d' l rv cv he;cases hb:(Nat.beq rv r&&(d'|| !d)) with
   |false=>rw[hb] at h;cases h
   |true=>
    rw[hb] at h;simp only[ac] at h;cases hq:slq τ τ' l with
    |none=>rw[hq] at h;cases h
    |some l'=>
     rw[hq] at h;have:=ak h;subst this;obtain⟨rfl,hl⟩:=mH hq;have hl:=ez hl;subst hl;simp only[aa,cr] at hb;refine .tree rfl he rfl (λhd=> ?_) rfl ⟨hk,hk⟩;rcases hb.2 with h|h
     ·exact h
     ·rw[hd] at h;cases h
  ·cases h
 ·cases h
def bGz {m:Mm U}{N M K k i:Nat}{τ:Nat}{d:Bool}{l:List (U.El τ)}(h:bNv m i τ d=some l)(hk:K<k):Src N M K m (some i) i ⟨.tree τ d l,0,k⟩:=by
 unfold bNv at h;rw[aS] at h;split at h
 ·rename_i τ' d' l' rv cv he;cases hb:(Nat.beq rv 0&&(d'|| !d)) with
  |false=>rw[hb] at h;cases h
  |true=>
   rw[hb] at h;simp only[ac] at h;obtain⟨rfl,hl⟩:=mH h;have hl:=ez hl;subst hl;simp only[aa,cr] at hb;refine .ti rfl he rfl (λhd=> ?_) rfl (ah hb.1).symm hk;rcases hb.2 with h|h
   ·exact h
   ·rw[hd] at h;cases h
 ·cases h
def Inv.set {N M K k:Nat}{m:Mm U}{σ:List (Option Nat)}{o:List (EO U)}(h:Inv N M K k m σ o){i:Nat}{q:Option Nat}{e:EO U}(hq:∀x,q=some x->∀j:Nat,σ[j]? ≠some (some x))(hv:e.rv<=k/\e.cv<=k)(hs:Src N M K m q i e):Inv N M K k m (σ.set i q) (o.set i e):=by
 refine⟨by simp[h.len],by simpa using h.ge,λj j' x h1 h2=> ?_,λj e' he=> ?_,λj q' e' h1 h2=> ?_⟩
 ·by_cases hj:i=j
  ·by_cases hj':i=j'
   ·exact hj.symm.trans hj'
   ·subst hj;rw[bj hj'] at h2;have hl:i<σ.length:=by have:=lt_of_some h1;simpa using this
    rw[bg hl] at h1;exact absurd h2 (hq x (ak h1) j')
  ·rw[bj hj] at h1;by_cases hj':i=j'
   ·subst hj';have hl:i<σ.length:=by have:=lt_of_some h2;simpa using this
    rw[bg hl] at h2;exact absurd h1 (hq x (ak h2) j)
   ·rw[bj hj'] at h2;exact h.inj j j' x h1 h2
 ·by_cases hj:i=j
  ·subst hj;have hl:i<o.length:=by have:=lt_of_some he;simpa using this
   rw[bg hl] at he;have:=ak he;subst this;exact hv
  ·rw[bj hj] at he;exact h.ver j e' he
 ·by_cases hj:i=j
  ·subst hj;have hl:i<o.length:=by have:=lt_of_some h2;simpa using this
   rw[bg (by rw[h.len];exact hl)] at h1;rw[bg hl] at h2;have:=ak h1;subst this;have:=ak h2;subst this;exact hs
  ·rw[bj hj] at h1 h2;exact h.src j q' e' h1 h2
def Inv.app {N M K k:Nat}{m:Mm U}{σ:List (Option Nat)}{o:List (EO U)}(h:Inv N M K k m σ o){q:Option Nat}{e:EO U}(hq:∀x,q=some x->∀j:Nat,σ[j]? ≠some (some x))(hv:e.rv<=k/\e.cv<=k)(hs:Src N M K m q o.length e):Inv N M K k m (σ++[q]) (o++[e]):=by
 have hσ:∀(j:Nat) (x:Option Nat),(σ++[q])[j]? =some x->(σ[j]? =some x)\/(j=o.length/\x=q):=λj x hx=>by
  by_cases hl:j<σ.length
  ·rw[aq hl] at hx;exact .inl hx
  ·rw[ay (by omega)] at hx;cases hz:j-σ.length with
   |zero=>rw[hz] at hx;simp at hx;exact .inr ⟨by have:=h.len;omega,hx.symm⟩
   |succ n=>rw[hz] at hx;simp at hx
 have ho:∀(j:Nat) (x:EO U),(o++[e])[j]? =some x->(o[j]? =some x)\/(j=o.length/\x=e):=λj x hx=>by
  by_cases hl:j<o.length
  ·rw[aq hl] at hx;exact .inl hx
  ·rw[ay (by omega)] at hx;cases hz:j-o.length with
   |zero=>rw[hz] at hx;simp at hx;exact .inr ⟨by omega,hx.symm⟩
   |succ n=>rw[hz] at hx;simp at hx
 refine⟨by simp[h.len],by have:=h.ge;simp;omega,λj j' x h1 h2=> ?_,λj e' he=> ?_,λj q' e' h1 h2=> ?_⟩
 ·rcases hσ j _ h1 with h1|⟨e1,h1⟩<;>rcases hσ j' _ h2 with h2|⟨e2,h2⟩
  ·exact h.inj j j' x h1 h2
  ·exact absurd h1 (hq x h2.symm j)
  ·exact absurd h2 (hq x h1.symm j')
  ·exact e1.trans e2.symm
 ·rcases ho j _ he with h1|⟨_,rfl⟩
  ·exact h.ver j e' h1
  ·exact hv
 ·rcases hσ j _ h1 with h1|⟨e1,rfl⟩<;>rcases ho j _ h2 with h2|⟨e2,rfl⟩
  ·exact h.src j q' e' h1 h2
  ·have:=lt_of_some h1;have:=h.len;omega
  ·have:=lt_of_some h2;omega
  ·subst e1;exact hs
def Plc.mono {k:Nat}{σ σ':List (Option Nat)}{o o':List (EO U)}{s:St U}:∀{xs:List DI} {n:Nat},(∀i∈gQ xs,o'[i]? =o[i]? /\σ'[i]? =σ[i]?)->(∀i,n<=i->o'[i]? =o[i]? /\σ'[i]? =σ[i]?)->Plc k σ o s n xs->Plc k σ' o' s n xs
 |[],_,_,_,h=>h
 | .tr l i τ d::xs,n,h1,h2,⟨⟨v,q,e,a1,a2,a3,a4,a5⟩,h⟩=>by
  obtain⟨b1,b2⟩:=h1 i (by simp[gQ]);exact⟨⟨v,q,e,a1,a2,b2.trans a3,b1.trans a4,a5⟩,Plc.mono (λj hj=>h1 j (by simp[gQ,hj])) h2 h⟩
 | .nt l τ d::xs,n,h1,h2,⟨⟨v,q,e,a1,a2,a3,a4,a5⟩,h⟩=>by
  obtain⟨b1,b2⟩:=h2 n (aj _);exact⟨⟨v,q,e,a1,a2,b2.trans a3,b1.trans a4,a5⟩,Plc.mono (λj hj=>h1 j (by simpa[gQ] using hj)) (λi hi=>h2 i (by omega)) h⟩
 | .ti i τ d::xs,n,h1,h2,h=>Plc.mono (xs:=xs) (n:=n) (λj hj=>h1 j (by simp[gQ,hj])) h2 h
 | .dat l kd::xs,n,h1,h2,h=>Plc.mono (xs:=xs) (n:=n) (λj hj=>h1 j (by simpa[gQ] using hj)) h2 h
 | .nat l::xs,n,h1,h2,h=>Plc.mono (xs:=xs) (n:=n) (λj hj=>h1 j (by simpa[gQ] using hj)) h2 h
def Df {N M K k:Nat}{s:St U}(hk:K<k):∀(xs:List DI) (q:List (Option Nat×Option Nat)) (d:Dat U xs) (σ:List (Option Nat)) (o:List (EO U)),M3 s xs=some q->gets Y s xs=some d->Inv N M K k s.m σ o->(∀i∈zS q,∀j:Nat,σ[j]? ≠some (some i))->(zS q).Nodup->(∀i∈gQ xs,i<o.length)->(gQ xs).Nodup->
  Inv N M K k s.m (sgm q σ) (aGv k xs d o)/\Plc k (sgm q σ) (aGv k xs d o) s o.length xs/\(∀j,j<o.length->j∉gQ xs->(aGv k xs d o)[j]? =o[j]? /\(sgm q σ)[j]? =σ[j]?)
 |[],q,d,σ,o,hq,_,hI,_,_,_,_=>by
  have:=ak hq;subst this;exact⟨hI,trivial,λ_ _ _=>⟨rfl,rfl⟩⟩
 | .dat l kd::xs,q,d,σ,o,hq,hg,hI,h1,h2,h3,h4=>by
  rw[sJ];exact Df hk xs q (Dtl d) σ o hq (lG hg).2 hI h1 h2 h3 h4
 | .nat l::xs,q,d,σ,o,hq,hg,hI,h1,h2,h3,h4=>by
  rw[sJ];exact Df hk xs q (Dtl d) σ o hq (lG hg).2 hI h1 h2 h3 h4
 | .ti i τ b::xs,q,d,σ,o,hq,hg,hI,h1,h2,h3,h4=>by
  obtain⟨g1,g2⟩:=lG hg;simp only[M3] at hq;simp only[aS9] at g1;cases hr:M3 s xs with
  |none=>rw[hr] at hq;cases hq
  |some r=>
   rw[hr] at hq;have:=ak hq;subst this;rw[sJ];have hi:i<o.length:=h3 i (by simp[gQ]);have e1:aJ4 k (.ti i τ b) (Dhd d) o=o.set i ⟨.tree τ b (Dhd d),0,k⟩:=bZ _ _ _;rw[e1];rw[aCv] at h1 h2;simp only at h1 h2;have hI':=hI.set (i:=i) (q:=some i) (e:=⟨.tree τ b (Dhd d),0,k⟩) (λx hx j=>h1 x (by rw[ak hx];simp) j) ⟨cx _,aj _⟩ (bGz g1 hk);obtain⟨n1,n2⟩:=cw.1 (show(i::gQ xs).Nodup from h4);have hnx:∀x∈zS r,∀j:Nat,(σ.set i (some i))[j]? ≠some (some x):=λx hx j hj=>by
    by_cases hij:i=j
    ·subst hij;rw[bg (by rw[hI.len];exact hi)] at hj;have hj:=ak (ak hj);subst hj;exact(cw.1 h2).1 hx
    ·rw[bj hij] at hj;exact h1 x (by simp[hx]) j hj
   obtain⟨p1,p2,p3⟩:=Df hk xs r (Dtl d) (σ.set i (some i)) _ hr g2 hI' hnx (cw.1 h2).2 (λj hj=>by rw[ax];exact h3 j (by simp[gQ,hj])) n2;rw[ax] at p2 p3;refine⟨p1,p2,λj hj hjn=> ?_⟩;have hjn:j≠i/\j∉gQ xs:=by simpa[gQ] using hjn
   obtain⟨q1,q2⟩:=p3 j hj hjn.2;exact⟨by rw[q1,bj (Ne.symm hjn.1)],by show(sgm r (σ.set i (some i)))[j]? =_;rw[q2,bj (Ne.symm hjn.1)]⟩
 | .tr l i τ b::xs,q,d,σ,o,hq,hg,hI,h1,h2,h3,h4=>by
  obtain⟨g1,g2⟩:=lG hg;simp only[M3] at hq;simp only[aS9] at g1;cases hv:lkp s l with
  |none=>rw[hv] at hq;cases hq
  |some v=>
   rw[hv] at hq g1;simp only at hq g1;cases ht:uT s.m τ b v with
   |none=>rw[ht] at hq;cases hq
   |some t=>
    rw[ht] at hq g1;simp only at hq g1;cases hr:M3 s xs with
    |none=>rw[hr] at hq;cases hq
    |some r=>
     rw[hr] at hq;have:=ak hq;subst this;have hd:t.2=Dhd d:=ak g1;rw[sJ];have hi:i<o.length:=h3 i (by simp[gQ]);have e1:aJ4 k (.tr l i τ b) (Dhd d) o=o.set i ⟨.tree τ b t.2,k,k⟩:=by rw[hd];exact bZ _ _ _
     rw[e1];rw[aCv] at h1 h2;have hsub:∀x∈zS r,x∈(match t.1 with|some i=>i::zS r|none=>zS r):=λx hx=>by cases t.1<;>simp[hx]
     have hI':=hI.set (i:=i) (q:=t.1) (e:=⟨.tree τ b t.2,k,k⟩) (λx hx j=>h1 x (by simp only[hx];simp) j) ⟨aj _,aj _⟩ (aKj ht hk);obtain⟨n1,n2⟩:=cw.1 (show(i::gQ xs).Nodup from h4);have hnx:∀x∈zS r,∀j:Nat,(σ.set i t.1)[j]? ≠some (some x):=λx hx j hj=>by
      by_cases hij:i=j
      ·subst hij;rw[bg (by rw[hI.len];exact hi)] at hj;have hj:=ak hj;simp only[hj] at h2;exact(cw.1 h2).1 hx
      ·rw[bj hij] at hj;exact h1 x (hsub x hx) j hj
     have hnd:(zS r).Nodup:=by
      cases ht1:t.1 with
      |none=>simp only[ht1] at h2;exact h2
      |some x=>simp only[ht1] at h2;exact(cw.1 h2).2
     obtain⟨p1,p2,p3⟩:=Df hk xs r (Dtl d) (σ.set i t.1) _ hr g2 hI' hnx hnd (λj hj=>by rw[ax];exact h3 j (by simp[gQ,hj])) n2;rw[ax] at p2 p3;refine⟨p1,⟨⟨v,t,⟨.tree τ b t.2,k,k⟩,hv,ht,?_,?_,rfl⟩,p2⟩,λj hj hjn=> ?_⟩
     ·show(sgm r (σ.set i t.1))[i]? =_;rw[(p3 i hi n1).2,bg (by rw[hI.len];exact hi)]
     ·rw[(p3 i hi n1).1,bg hi]
     ·have hjn:j≠i/\j∉gQ xs:=by simpa[gQ] using hjn
      obtain⟨q1,q2⟩:=p3 j hj hjn.2;exact⟨by rw[q1,bj (Ne.symm hjn.1)],by show(sgm r (σ.set i t.1))[j]? =_;rw[q2,bj (Ne.symm hjn.1)]⟩
 | .nt l τ b::xs,q,d,σ,o,hq,hg,hI,h1,h2,h3,h4=>by
  obtain⟨g1,g2⟩:=lG hg;simp only[M3] at hq;simp only[aS9] at g1;cases hv:lkp s l with
  |none=>rw[hv] at hq;cases hq
  |some v=>
   rw[hv] at hq g1;simp only at hq g1;cases ht:uT s.m τ b v with
   |none=>rw[ht] at hq;cases hq
   |some t=>
    rw[ht] at hq g1;simp only at hq g1;cases hr:M3 s xs with
    |none=>rw[hr] at hq;cases hq
    |some r=>
     rw[hr] at hq;have:=ak hq;subst this;have hd:t.2=Dhd d:=ak g1;rw[sJ];have e1:aJ4 k (.nt l τ b) (Dhd d) o=o++[⟨.tree τ b t.2,k,k⟩]:=by rw[hd];rfl
     rw[e1];rw[aCv] at h1 h2;have hsub:∀x∈zS r,x∈(match t.1 with|some i=>i::zS r|none=>zS r):=λx hx=>by cases t.1<;>simp[hx]
     have hI':=hI.app (q:=t.1) (e:=⟨.tree τ b t.2,k,k⟩) (λx hx j=>h1 x (by simp only[hx];simp) j) ⟨aj _,aj _⟩ (aKj ht hk);have n2:(gQ xs).Nodup:=h4;have hol:(σ++[t.1])[o.length]? =some t.1:=by rw[<-hI.len];simp
     have hnx:∀x∈zS r,∀j:Nat,(σ++[t.1])[j]? ≠some (some x):=λx hx j hj=>by
      by_cases hl:j<σ.length
      ·rw[aq hl] at hj;exact h1 x (hsub x hx) j hj
      ·rw[ay (by omega)] at hj;cases hz:j-σ.length with
       |zero=>
        rw[hz] at hj;have hj:t.1=some x:=by simpa using hj
        simp only[hj] at h2;exact(cw.1 h2).1 hx
       |succ n=>rw[hz] at hj;simp at hj
     have hnd:(zS r).Nodup:=by
      cases ht1:t.1 with
      |none=>simp only[ht1] at h2;exact h2
      |some x=>simp only[ht1] at h2;exact(cw.1 h2).2
     obtain⟨p1,p2,p3⟩:=Df hk xs r (Dtl d) (σ++[t.1]) _ hr g2 hI' hnx hnd (λj hj=>by have:=h3 j (by simpa[gQ] using hj);simp;omega) n2;rw[show(o++[(⟨.tree τ b t.2,k,k⟩:EO U)]).length=Nat.succ o.length by simp] at p2 p3;have n1:o.length∉gQ xs:=λhh=>by have:=h3 _ (show o.length∈gQ (.nt l τ b::xs) from hh);omega
     refine⟨p1,⟨⟨v,t,⟨.tree τ b t.2,k,k⟩,hv,ht,?_,?_,rfl⟩,p2⟩,λj hj hjn=> ?_⟩
     ·show(sgm r (σ++[t.1]))[o.length]? =_;rw[(p3 _ (dq _) n1).2,hol]
     ·rw[(p3 _ (dq _) n1).1];simp
     ·obtain⟨q1,q2⟩:=p3 j (Nat.lt_succ_of_lt hj) hjn;refine⟨by rw[q1,aq hj],?_⟩;show(sgm r (σ++[t.1]))[j]? =_;rw[q2,aq (by rw[hI.len];exact hj)]
end
end Go.EV
namespace Go.EV
open Go.RowKit Go.VK
variable {U:Uni} {Y:Lay U} {P:Program} {g:GI} {E:Env U g}
section aDG
def bG0 {a n:Nat}{K:List (Sv U)->List (Sv U)}(hK:K []=[]):∀{l:List (Sv U)},(aYm a K l)[n]? =if n<a then l[n]? else(K (l.drop a))[n-a]? :=by
 induction a generalizing n with
 |zero=>intro l;rfl
 |succ a ih=>
  intro l;cases l with
  |nil=>have e:aYm (a+1) K ([]:List (Sv U))=[]:=rfl;rw[e];simp[hK]
  |cons x l=>
   have e:aYm (a+1) K (x::l)=x::aYm a K l:=rfl;rw[e];cases n with
   |zero=>simp
   |succ n=>simp only[eu,ih,ka,gl,ib]
def bG1 {a n:Nat}{K:List (Sv U)->List (Sv U)}(hK:K []=[]):∀{l:List (Sv U)},(aVj a K l)[n]? =if n<a then(l[n]?).map (λ_=>Sv.l .any) else(K (l.drop a))[n-a]? :=by
 induction a generalizing n with
 |zero=>intro l;rfl
 |succ a ih=>
  intro l;cases l with
  |nil=>have e:aVj (a+1) K ([]:List (Sv U))=[]:=rfl;rw[e];simp[hK]
  |cons x l=>
   have e:aVj (a+1) K (x::l)=Sv.l .any::aVj a K l:=rfl;rw[e];cases n with
   |zero=>simp
   |succ n=>simp only[eu,ih,ka,gl,ib]
def aTr:∀{ws:List (Nat×Nat)},wip ws ([]:List (Sv U))=[]
 |[]=>rfl
 |(a,b)::r=>by
  have e:wip ((a,b)::r) ([]:List (Sv U))=aYm a (aVj b (wip r)) []:=rfl;rw[e];cases a with
  |succ a=>rfl
  |zero=>
   cases b with
   |succ b=>rfl
   |zero=>exact aTr (ws:=r)
def bG2:∀{ws:List (Nat×Nat)} {p n:Nat},Gp ws p n=true->p<=n
 |[],p,n,h=>by cases h
 |(a,b)::r,p,n,h=>by
  simp only[Gp,cr,aa] at h;rcases h with⟨h,_⟩|h
  ·have:=bf h;omega
  ·have:=bG2 h;omega
def aI8:∀{ws:List (Nat×Nat)} {p n:Nat} {l:List (Sv U)},(wip ws l)[n]? =if Gp ws p (p+n)=true then(l[n]?).map (λ_=>Sv.l .any) else l[n]?
 |[],p,n,l=>by simp[Gp,wip]
 |(a,b)::r,p,n,l=>by
  have hb:(aVj b (wip r) ([]:List (Sv U)))=[]:=by
   cases b with
   |succ b=>rfl
   |zero=>exact aTr (ws:=r)
  have e:wip ((a,b)::r) l=aYm a (aVj b (wip r)) l:=rfl;rw[e,bG0 hb];simp only[Gp,cr,aa];by_cases h1:n<a
  ·rw[cH h1,cX];rintro(⟨h,_⟩|h)
   ·have:=bf h;omega
   ·have:=bG2 h;omega
  ·rw[cX h1,bG1 aTr];by_cases h2:n-a<b
   ·rw[cH h2,cH]
    ·rw[eh,show a+(n-a)=n by omega]
    ·exact .inl ⟨ee (by omega),ee (by omega)⟩
   ·rw[cX h2,aI8 (ws:=r) (p:=p+a+b)];rw[show p+a+b+(n-a-b)=p+n by omega];simp only[eh,show a+(b+(n-a-b))=n by omega];by_cases h3:Gp r (p+a+b) (p+n)=true
    ·rw[cH h3,cH (.inr h3)]
    ·rw[cX h3,cX];rintro(⟨_,h⟩|h)
     ·have:=bf h;omega
     ·exact h3 h
def bBo {ws:List (Nat×Nat)}{l:List (Sv U)}:(wip ws l).length=l.length:=by
 have key:∀n,n<(wip ws l).length↔n<l.length:=λn=>by
  have h:=aI8 (ws:=ws) (p:=0) (n:=n) (l:=l);constructor
  ·intro hn;rw[ae hn] at h;refine Nat.lt_of_not_le λhh=> ?_
   rw[df hh] at h;split at h<;>cases h
  ·intro hn;rw[ae hn] at h;refine Nat.lt_of_not_le λhh=> ?_
   rw[df hh] at h;split at h<;>cases h
 have h1:=key (wip ws l).length;have h2:=key l.length;omega
end aDG
def LV (a:Act)(w:World)(β:List Tr)(o:List (EO U)):Lo->Value->Prop
 | .s n,v=>v=a.tmps.getD n undef
 | .c b j,v=>∀e,o[b]? =some e->e.ob.aAX=true->∃t blk vals T,β[b]? =some t/\t.b=some blk/\w.heap[blk]? =some (.cells vals T (0,0))/\vals[j]? =some v
section
variable {C:Cod U} {b s u:St U} {a a0:Act} {w w0:World} {β β0:List Tr}
def O3 (r:bE C E s a w β){l:Lo}{x:Sv U}(h:lkp s l=some x):∃v,LV a w β s.m.o l v/\x.mean C w (E.X β) β s.m v:=by
 cases l with
 |s n=>exact⟨_,rfl,r.tm n x (by rw[<-aS];exact h)⟩
 |c b j=>
  simp only[lkp,aS] at h;split at h
  ·rename_i T cs vs rv cv he;split at h
   ·rename_i y hy;have:=ak h;subst this;obtain⟨t,ht⟩:=r.hp.tr he;obtain⟨h0,blk,vals,k1,k2,k3,k4⟩:=r.hp.ok b t _ ht he;have hjl:j<vals.length:=by rw[k4.1];exact lt_of_some hy
    exact⟨vals[j],λe _ _=>⟨t,blk,vals.toArray,T,ht,k1,k3,by simp[hjl]⟩,k4.2 j _ _ (ae hjl) hy⟩
   ·cases h
  ·cases h
structure Tp (C:Cod U) (E:Env U g) (a:Act) (w:World) (u:St U) (β:List Tr) (u':St U) (β':List Tr):Prop where
 own:∀(i r:Nat) (v:Value),(Lf.own i r:Lf U).mean C w (E.X β) β u.m v->(Lf.own i r:Lf U).mean C w (E.X β') β' u'.m v
 x:∀b,E.X β' b->E.X β b
 lv:∀(l:Lo) (v:Value),LV a w β u.m.o l v->LV a w β' u'.m.o l v
def Tp.refl:Tp C E a w u β u β:=⟨λ_ _ _ h=>h,λ_ h=>h,λ_ _ h=>h⟩
def bE.aBI (r:bE C E u a w β){l:Lo}{v:Value}(hl:LV a w β u.m.o l v){x:Sv U}(hx:x.mean C w (E.X β) β u.m v):∃β',bE C E (EV.aBI u x l) a w β'/\Tp C E a w u β (EV.aBI u x l) β':=by
 cases l with
 |s n=>refine⟨β,r.set (n:=n) (x:=x) ?_,⟨λ_ _ _ h=>h,λ_ h=>h,λ_ _ h=>h⟩⟩;rw[<-(show v=a.tmps.getD n undef from hl)];exact hx
 |c b j=>
  unfold EV.aBI;simp only[aS];split
  ·rename_i T cs vs rv cv y he;obtain⟨t,blk,vals,T',h1,h2,h3,h4⟩:=hl _ he rfl;obtain⟨h0,blk',vals',k1,k2,k3,k4⟩:=r.hp.ok b t _ h1 he;rw[h2] at k1;have:=ak k1;subst this;rw[h3] at k3;have:=ak k3;injection this with q1 q2 q3;subst q1;subst q2;have hvv:vals'[j]? =some v:=by simpa using h4
   obtain⟨β',r',hb',ev⟩:=r.turn (i:=b) (J:=[]) (t':=t) (w':=w) (ob:= .box T' (upd cs j y) (upd vs j (Nat.succ u.m.k))) (rv:=rv) he h1 (by simp) (aj _) rfl rfl rfl (λ_ _ _=>rfl)
    (λbb hb=>⟨(r.hp.new b t bb h1 hb).2, .inr (.inl hb)⟩) (r.hp.nd b t h1) (.inl ⟨rfl,rfl⟩) (λ_=>⟨rfl,rfl⟩)
    (λβ' m' ev=>by
     refine⟨by rw[bZ,bZ,ax,ax,h0],blk,vals',h2,k2,h3,by rw[k4.1,bZ,ax],λi v' c p q=> ?_⟩;rw[bZ] at q;by_cases hij:j=i
     ·subst hij;have hl:j<cs.length:=by have:=lt_of_some q;simpa using this
      rw[bg hl] at q;have:=ak q;subst this;rw[hvv] at p;have:=ak p;subst this;exact Lf.aAU ev hx
     ·rw[bj hij] at q;exact Lf.aAU ev (k4.2 i v' c p q))
   refine⟨β',r',⟨λi q v' h=>Lf.aAU ev h,λbb hb=>ev.hX bb (Hp.aCB r'.hp bb hb) hb,λl v' h=> ?_⟩⟩;cases l with
   |s n=>exact h
   |c b' j'=>
    intro e' he' hbx;have hlt:b'<u.m.o.length:=by
     have:=lt_of_some he';have hl:(upd u.m.o b (⟨.box T' (upd cs j y) (upd vs j (Nat.succ u.m.k)),rv,Nat.succ u.m.k⟩:EO U)).length=u.m.o.length:=by rw[bZ,ax]
     have h2:b'<(upd u.m.o b (⟨.box T' (upd cs j y) (upd vs j (Nat.succ u.m.k)),rv,Nat.succ u.m.k⟩:EO U)).length:=this;rwa [hl] at h2
    have hb0:u.m.o[b']? =some u.m.o[b']:=ae hlt;obtain⟨t0,ht0⟩:=r.hp.tr hb0;obtain⟨e1,t1,g1,g2,_,_,g3⟩:=ev.ho b' _ t0 hlt hb0 ht0;have:e1=e':=ak (g1.symm.trans he');subst this;obtain⟨p1,p2⟩:=g3 hbx;obtain⟨t2,blk2,vals2,T2,z1,z2,z3,z4⟩:=h _ hb0 p1;rw[ht0] at z1;have:=ak z1;subst this;exact⟨t1,blk2,vals2,T2,g2,p2.trans z2,z3,z4⟩
  ·exact⟨β,r,Tp.refl⟩
def IF1 (Y:Lay U)(E:Env U g)(k:Nat)(u:St U)(a:Act)(w:World)(β:List Tr)(n:Nat):(x:DI)->x.ty U->Prop
 | .dat l kd,d=>∃v,LV a w β u.m.o l v/\Rd w (E.X β) [] v (wJ (M0 Y kd d))
 | .nat l,i=>∃v,LV a w β u.m.o l v/\∃j:Nat,j=i/\v= .int .i64 (j:Int)/\(j:Int)<=9223372036854775807
 | .tr l i _ _,_=>∃v,LV a w β u.m.o l v/\(Lf.own i k:Lf U).mean Y.C w (E.X β) β u.m v
 | .nt l _ _,_=>∃v,LV a w β u.m.o l v/\(Lf.own n k:Lf U).mean Y.C w (E.X β) β u.m v
 | .ti _ _ _,_=>True
def IF (Y:Lay U)(E:Env U g)(k:Nat)(u:St U)(a:Act)(w:World)(β:List Tr):Nat->(xs:List DI)->Dat U xs->Prop
 |_,[],_=>True
 |n,x::xs,d=>IF1 Y E k u a w β n x (Dhd d)/\IF Y E k u a w β (nxt n x) xs (Dtl d)
def IF1.tp {k n:Nat}{u':St U}{β':List Tr}(h:Tp Y.C E a w u β u' β'){x:DI}{d:x.ty U}(hf:IF1 Y E k u a w β n x d):IF1 Y E k u' a w β' n x d:=by
 cases x with
 |dat l kd=>obtain⟨v,h1,h2⟩:=hf;exact⟨v,h.lv l v h1,h2.conv (aj _) (λb _=>h.x b) (λ_ _ _ h=>h) (λ_ _ h=>h)⟩
 |nat l=>obtain⟨v,h1,h2⟩:=hf;exact⟨v,h.lv l v h1,h2⟩
 |tr l i τ b=>obtain⟨v,h1,h2⟩:=hf;exact⟨v,h.lv l v h1,h.own _ _ v h2⟩
 |nt l τ b=>obtain⟨v,h1,h2⟩:=hf;exact⟨v,h.lv l v h1,h.own _ _ v h2⟩
 |ti i τ b=>trivial
def IF.tp {k:Nat}{u':St U}{β':List Tr}(h:Tp Y.C E a w u β u' β'):∀{xs:List DI} {n:Nat} {d:Dat U xs},IF Y E k u a w β n xs d->IF Y E k u' a w β' n xs d
 |[],_,_,_=>trivial
 |x::xs,n,d,⟨h1,h2⟩=>⟨h1.tp h,IF.tp h h2⟩
def aY1 (r:bE Y.C E u a w β){k n:Nat}{x:DI}{d:x.ty U}(h:IF1 Y E k u a w β n x d):∃β',bE Y.C E (set1 Y k n u x d) a w β'/\Tp Y.C E a w u β (set1 Y k n u x d) β':=by
 cases x with
 |dat l kd=>obtain⟨v,h1,h2⟩:=h;exact r.aBI h1 (sI (O0 aTo h2 (.inl λ_ h=>h)))
 |nat l=>
  obtain⟨v,h1,j,rfl,h2,h3⟩:=h;have r1:bE Y.C E ⟨u.t,⟨u.m.o,u.m.k,u.m.ns++[((⟨j,false⟩:Nat×Bool))]⟩,u.fr⟩ a w β:=r.aCO (λa' i f h=>⟨f,by rw[aq (lt_of_some h)];exact h⟩) (λa' i h=>by
   by_cases hl:a'<u.m.ns.length
   ·rw[aq hl] at h;exact r.hp.cnt a' i h
   ·rw[ay (by omega)] at h;cases hq:a'-u.m.ns.length with
    |zero=>rw[hq] at h;simp at h
    |succ q=>rw[hq] at h;simp at h)
  obtain⟨β',q1,q2⟩:=r1.aBI (l:=l) (v:=v) h1 (x:= .l (.nat (len u.m.ns))) ⟨j,false,by rw[bK];simp,h2,h3⟩;exact⟨β',q1,⟨λi q v h=>q2.own i q v h,q2.x,λl v h=>q2.lv l v h⟩⟩
 |tr l i τ b=>obtain⟨v,h1,h2⟩:=h;exact r.aBI h1 (x:= .l (.own i k)) h2
 |nt l τ b=>obtain⟨v,h1,h2⟩:=h;exact r.aBI h1 (x:= .l (.own n k)) h2
 |ti i τ b=>exact⟨β,r,Tp.refl⟩
def aKk {k:Nat}:∀(xs:List DI) {u:St U} {β:List Tr} {n:Nat} {d:Dat U xs},bE Y.C E u a w β->IF Y E k u a w β n xs d->∃β',bE Y.C E (sets Y k n u xs d) a w β'
 |[],_,β,_,_,r,_=>⟨β,r⟩
 |x::xs,u,β,n,d,r,⟨h1,h2⟩=>by
  obtain⟨β1,r1,t1⟩:=aY1 r h1;rw[aRe];exact aKk xs r1 (IF.tp t1 h2)
end
end Go.EV
namespace Go.EV
open Go.RowKit Go.VK
variable {U:Uni} {Y:Lay U} {P:Program} {g:GI} {E:Env U g}
section
variable {b s:St U} {a a0:Act} {w w0:World} {β β0:List Tr}
def Hm {tm:Tm}{d:Dat U tm.it}(h:col Y b tm s=some d):∃q,M3 s tm.it=some q/\gets Y s tm.it=some d/\slI tm.ws tm.it=true/\aYk tm.aBX tm.dead b.m.k 0 b.m.o s.m.o=true/\bC5 b.m.o.length tm.dead (zS q)=true/\(zS q).Nodup/\(gQ tm.it).Nodup/\bC6 b.m.o.length (gQ tm.it)=true:=by
 unfold col at h;cases hq:M3 s tm.it with
 |none=>rw[hq] at h;cases h
 |some q=>
  rw[hq] at h;simp only at h;cases hb:(slI tm.ws tm.it&&(aYk tm.aBX tm.dead b.m.k 0 b.m.o s.m.o&&(bC5 (len b.m.o) tm.dead (zS q)&&(dist (zS q)&&(dist (gQ tm.it)&&bC6 (len b.m.o) (gQ tm.it)))))) with
  |false=>rw[hb] at h;cases h
  |true=>rw[hb] at h;simp only[ac] at h;simp only[aa,bK] at hb;obtain⟨h1,h2,h3,h4,h5,h6⟩:=hb;exact⟨q,rfl,h,h1,h2,h3,xG.1 h4,xG.1 h5,h6⟩
def aRh {N:Nat}{dd:List Nat}:∀{l:List Nat},bC5 N dd l=true->∀i∈l,N<=i\/i∈dd
 |[],_,i,h=>by simp at h
 |x::l,h,i,hi=>by
  simp only[bC5,aa,cr] at h;rcases aE.1 hi with rfl|hi
  ·exact h.1.imp bf mI.1
  ·exact aRh h.2 i hi
def aRi {N:Nat}:∀{l:List Nat},bC6 N l=true->∀i∈l,i<N
 |[],_,i,h=>by simp at h
 |x::l,h,i,hi=>by
  simp only[bC6,aa] at h;rcases aE.1 hi with rfl|hi
  ·exact bf h.1
  ·exact aRi h.2 i hi
def aY2 {C:Cod U}{X:Nat->Prop}{m:Mm U}{v:Value}{x:Sv U}{i:Nat}(hm:x.mean C w X β m v)(h:bF6 m x=some i):v= .int .i64 (i:Int)/\(i:Int)<=9223372036854775807:=by
 unfold bF6 at h;split at h
 ·obtain⟨i',f,h1,h2,h3⟩:=hm;rw[aS,h1] at h;have:=ak h;subst this;exact⟨h2,h3⟩
 ·rename_i n;obtain⟨h1,_,_⟩:=hm;cases hn:decide (n=0) with
  |false=>rw[hn] at h;cases h
  |true=>rw[hn] at h;have h:=ak h;have:=of_decide_eq_true hn;subst this;subst h;exact⟨h1,by simp⟩
 ·cases h
def aF7 {C:Cod U}{m:Mm U}{X:Nat->Prop}{τ:Nat}{d:Bool}{v:Value}{x:Sv U}{q:Option Nat×List (U.El τ)}(hm:x.mean C w X β m v)(h:uT m τ d x=some q):v.oneCell'=true/\v=(jU β q.1).val:=by
 unfold uT at h;split at h
 ·obtain rfl:=hm;cases hb:Nat.ble 1 (U.K τ) with
  |false=>rw[hb] at h;cases h
  |true=>rw[hb] at h;have:=ak h;subst this;exact⟨rfl,rfl⟩
 ·rename_i i r;obtain⟨h1,e,t,h2,h3,h4⟩:=hm;rw[aS,h2] at h;obtain⟨ob,rv,cv⟩:=e;cases ob with
  |tree τ' d' l=>
   simp only at h;cases hb:(Nat.beq rv r&&(d'|| !d)) with
   |false=>rw[hb] at h;cases h
   |true=>
    rw[hb] at h;simp only[ac] at h;cases hq:slq τ τ' l with
    |none=>rw[hq] at h;cases h
    |some l'=>rw[hq] at h;have:=ak h;subst this;simp only[aa] at hb;refine⟨h1.2,?_⟩;rw[h4 (ah hb.1)];simp[jU,h3]
  |_=>cases h
 ·cases h
def LV.ren {N M K:Nat}{σ:List (Option Nat)}{o:List (EO U)}(hlen:σ.length=o.length)(hs:∀(j:Nat) (q:Option Nat) (e':EO U),σ[j]? =some q->o[j]? =some e'->Src N M K s.m q j e')(r:bE Y.C E s a w β){l:Lo}{v:Value}(h:LV a w β s.m.o l v):LV a w (σ.map (jU β)) o l v:=by
 cases l with
 |s n=>exact h
 |c bb j=>
  intro e' he' hbx;have hl:bb<σ.length:=by rw[hlen];exact lt_of_some he'
  have hq:σ[bb]? =some σ[bb]:=ae hl;have done:∀e:EO U,σ[bb]=some bb->s.m.o[bb]? =some e->e.ob.aAX=true->∃t blk vals T,(σ.map (jU β))[bb]? =some t/\t.b=some blk/\w.heap[blk]? =some (.cells vals T (0,0))/\vals[j]? =some v:=λe hq' he hb=>by
   obtain⟨t,blk,vals,T,h1,h2,h3,h4⟩:=h e he hb;exact⟨t,blk,vals,T,by rw[bh,hq,hq'];simp[jU,h1],h2,h3,h4⟩
  cases hs bb _ e' hq he' with
  |keep hq' he _=>exact done e' hq' he hbx
  |box hq' he h1 h2 _ _ _ _=>exact done _ hq' he (by rw[h1];rfl)
  |dead h' _=>rw[h'] at hbx;cases hbx
  |tree _ _ _ _ h' _=>rw[h'] at hbx;cases hbx
  |ti _ _ _ _ h' _ _=>rw[h'] at hbx;cases hbx
  |nil _ h' _ _=>rw[h'] at hbx;cases hbx
def aRj (r:bE Y.C E s a w β){k:Nat}{σ:List (Option Nat)}{o:List (EO U)}{u:St U}(huo:u.m.o=o)(huk:k<=u.m.k)(hX:∀b,E.X (σ.map (jU β)) b->E.X β b)(hfree:∀x:Nat,True)
  (hlv:∀(l:Lo) (v:Value),LV a w β s.m.o l v->LV a w (σ.map (jU β)) o l v):∀(xs:List DI) (n:Nat) (d:Dat U xs),gets Y s xs=some d->Plc k σ o s n xs->IF Y E k u a w (σ.map (jU β)) n xs d
 |[],_,_,_,_=>trivial
 | .dat l kd::xs,n,d,hg,hp=>by
  obtain⟨g1,g2⟩:=lG hg;refine⟨?_,aRj r huo huk hX hfree hlv xs n (Dtl d) g2 hp⟩;simp only[aS9] at g1;cases hl:lkp s l with
  |none=>rw[hl] at g1;cases g1
  |some x=>
   rw[hl] at g1;simp only at g1;cases hf:aJy x with
   |false=>rw[hf] at g1;cases g1
   |true=>rw[hf] at g1;obtain⟨v,h1,h2⟩:=O3 r hl;exact⟨v,by rw[huo];exact hlv l v h1,bDl r h2 g1 hX (.inl hf)⟩
 | .ti i τ bb::xs,n,d,hg,hp=>⟨trivial,aRj r huo huk hX hfree hlv xs n (Dtl d) (lG hg).2 hp⟩
 | .nat l::xs,n,d,hg,hp=>by
  obtain⟨g1,g2⟩:=lG hg;refine⟨?_,aRj r huo huk hX hfree hlv xs n (Dtl d) g2 hp⟩;simp only[aS9] at g1;cases hl:lkp s l with
  |none=>rw[hl] at g1;cases g1
  |some x=>rw[hl] at g1;obtain⟨v,h1,h2⟩:=O3 r hl;obtain⟨q1,q2⟩:=aY2 h2 g1;exact⟨v,by rw[huo];exact hlv l v h1,_,rfl,q1,q2⟩
 | .tr l i τ bb::xs,n,d,hg,⟨⟨v,q,e,p1,p2,p3,p4,p5⟩,hp⟩=>by
  obtain⟨g1,g2⟩:=lG hg;refine⟨?_,aRj r huo huk hX hfree hlv xs n (Dtl d) g2 hp⟩;obtain⟨v',h1,h2⟩:=O3 r p1;obtain⟨k1,k2⟩:=aF7 h2 p2;exact⟨v',by rw[huo];exact hlv l v' h1,⟨huk,k1⟩,e,jU β q.1,by rw[huo];exact p4,by rw[bh,p3];rfl,λ_=>k2⟩
 | .nt l τ bb::xs,n,d,hg,⟨⟨v,q,e,p1,p2,p3,p4,p5⟩,hp⟩=>by
  obtain⟨g1,g2⟩:=lG hg;refine⟨?_,aRj r huo huk hX hfree hlv xs (Nat.succ n) (Dtl d) g2 hp⟩;obtain⟨v',h1,h2⟩:=O3 r p1;obtain⟨k1,k2⟩:=aF7 h2 p2;exact⟨v',by rw[huo];exact hlv l v' h1,⟨huk,k1⟩,e,jU β q.1,by rw[huo];exact p4,by rw[bh,p3];rfl,λ_=>k2⟩
def wO (hE:E.fr=[])(rb:bE Y.C E b a0 w0 β0)(r:bE Y.C E s a w β){tm:Tm}(hag:Ag (λn=>Gp tm.ws 0 n=true) b s){d:Dat U tm.it}(h:col Y b tm s=some d):∃β',bE Y.C E (reb Y b tm d) a w β':=by
 obtain⟨q,c1,c2,_,c3,c4,c5,c6,c7⟩:=Hm h;have hI:=inv0 rb hag.m c3;have hol:(Kk (Nat.succ b.m.k) tm.aBX (Si (Nat.succ b.m.k) tm.dead b.m.o)).length=b.m.o.length:=by rw[Nl,Gz]
 obtain⟨i1,i2,_⟩:=Df (dq _) tm.it q d _ _ c1 c2 hI (λi hi j hj=>by
  obtain⟨g1,g2⟩:=aI7 hj;rcases g2 with⟨_,g2⟩|⟨g3,g2⟩
  ·cases g2
  ·have:=ak g2;subst this;rcases aRh c4 i hi with h|h
   ·omega
   ·exact g3 h) c5 (λi hi=>by rw[hol];exact aRi c7 i hi) c6
 rw[hol] at i2;obtain⟨H,ev⟩:=Hp.ren (m':=⟨aGv (Nat.succ b.m.k) tm.it d (Kk (Nat.succ b.m.k) tm.aBX (Si (Nat.succ b.m.k) tm.dead b.m.o)),Nat.succ b.m.k,b.m.ns⟩) r.hp i1.len i1.ge i1.inj (eo _) i1.ver rb.hp.cnt (λa' i f ha hn=>by
  have h1:b.m.ns[a']? =some b.m.ns[a']:=ae ha;obtain⟨f',h2⟩:=hag.m.ns a' (b.m.ns[a']).1 (b.m.ns[a']).2 h1;rw[hn] at h2;have h3:=congrArg Prod.fst (ak h2);exact⟨(b.m.ns[a']).2,by rw[h1];simp only at h3;rw[h3]⟩) i1.src (λx hx=>Sv.aBC (rb.hp.pin x hx)) hE
 have hX:∀bb,E.X ((sgm q (sg0 tm.dead b.m.o.length)).map (jU β)) bb->E.X β bb:=λbb hb=>ev.hX bb (Hp.aCB H bb hb) hb;have r1:bE Y.C E ⟨wip tm.ws b.t,⟨aGv (Nat.succ b.m.k) tm.it d (Kk (Nat.succ b.m.k) tm.aBX (Si (Nat.succ b.m.k) tm.dead b.m.o)),Nat.succ b.m.k,b.m.ns⟩,b.fr⟩ a w ((sgm q (sg0 tm.dead b.m.o.length)).map (jU β)):=by
  refine⟨H,r.defers,?_,λn x hx=> ?_⟩
  ·show a.tmps.size=(wip tm.ws b.t).length;rw[bBo,r.tsz,hag.tl]
  ·have hx':=(aI8 (ws:=tm.ws) (p:=0) (n:=n) (l:=b.t)).symm.trans hx;rw[ca] at hx';split at hx'
   ·cases hb:b.t[n]? with
    |none=>rw[hb] at hx';cases hx'
    |some y=>rw[hb] at hx';have:=ak hx';subst this;trivial
   ·rename_i hn;exact Sv.aAY ev (Sv.aBC (rb.tm n x hx')) (r.tm n x ((hag.t n hn).trans hx'))
 have hIF:=aRj (Y:=Y) (u:=⟨wip tm.ws b.t,⟨aGv (Nat.succ b.m.k) tm.it d (Kk (Nat.succ b.m.k) tm.aBX (Si (Nat.succ b.m.k) tm.dead b.m.o)),Nat.succ b.m.k,b.m.ns⟩,b.fr⟩) r rfl (aj _) hX (λ_=>trivial) (λl v h=>LV.ren i1.len i1.src r h) tm.it b.m.o.length d c2 i2;have:=aKk tm.it r1 hIF;unfold reb;rw[bK];exact this
def bKk {u:St U}{x:Sv U}{l:Lo}:(aBI u x l).fr=u.fr/\(aBI u x l).t.length=u.t.length/\Am u.m (aBI u x l).m/\∀n,(∀m,l= .s m->m≠n)->(aBI u x l).t[n]? =u.t[n]? :=by
 cases l with
 |s m=>refine⟨rfl,by simp only[aBI,put,bZ,ax],Am.refl _,λn hn=> ?_⟩;simp only[aBI,put,bZ];rw[bj (hn m rfl)]
 |c bb j=>
  unfold aBI;simp only[aS];split
  ·rename_i T cs vs rv cv y he;refine⟨rfl,rfl,Am.turn (ids:=[]) u.m λ_ e he'=> ?_,λ_ _=>rfl⟩
   rw[he] at he';have:=ak he';subst this;refine⟨rfl,λT1 cs1 vs1 T' cs' vs' k1 k2=> ?_⟩;injection k1 with a1 a2 a3;injection k2 with b1 b2 b3;subst a1;subst a2;subst a3;subst b1;subst b2;subst b3;refine⟨rfl,by rw[bZ,ax],by rw[bZ,ax],λi v hv hk=> ?_⟩;rw[bZ] at hv ⊢;by_cases hij:j=i
   ·subst hij;have hl:j<vs.length:=by have:=lt_of_some hv;simpa using this
    rw[bg hl] at hv;have:=ak hv;omega
   ·rw[bj hij] at hv;exact⟨bj hij,hv⟩
  ·exact⟨rfl,rfl,Am.refl _,λ_ _=>rfl⟩
def Ag.aBI {D:Nat->Prop}{s0 u:St U}(h:Ag D s0 u){x:Sv U}{l:Lo}(hl:∀m,l= .s m->D m):Ag D s0 (aBI u x l):=by obtain⟨h1,h2,h3,h4⟩:=bKk (u:=u) (x:=x) (l:=l);exact⟨λn hn=>(h4 n (λm e e'=>hn (e'▸hl m e))).trans (h.t n hn),h2.trans h.tl,h1.trans h.fr,h.m.trans h3⟩
def Ag.set1 {D:Nat->Prop}{s0 u:St U}(h:Ag D s0 u){k n:Nat}{x:DI}{d:x.ty U}{ws:List (Nat×Nat)}{xs:List DI}(hx:slI ws (x::xs)=true)(hD:∀n,Gp ws 0 n=true->D n):Ag D s0 (set1 Y k n u x d)/\slI ws xs=true:=by
 have key:∀l:Lo,(match l with| .s n=>Gp ws 0 n&&slI ws xs| .c .. =>slI ws xs)=true->(∀m,l= .s m->D m)/\slI ws xs=true:=λl hl=>by
  cases l with
  |s m=>simp only[aa] at hl;exact⟨λm' e=>by injection e with e;subst e;exact hD _ hl.1,hl.2⟩
  |c=>exact⟨λm e=>(by cases e),hl⟩
 cases x with
 |dat l kd=>obtain⟨k1,k2⟩:=key l (by cases l<;>exact hx);exact⟨h.aBI k1,k2⟩
 |nat l=>obtain⟨k1,k2⟩:=key l (by cases l<;>exact hx);refine⟨Ag.aBI (u:=⟨u.t,⟨u.m.o,u.m.k,u.m.ns++[((⟨d,false⟩:Nat×Bool))]⟩,u.fr⟩) ⟨h.t,h.tl,h.fr,h.m.trans (Am.aCO _ λa' i f h=>⟨f,by rw[aq (lt_of_some h)];exact h⟩)⟩ k1,k2⟩
 |tr l i τ bb=>obtain⟨k1,k2⟩:=key l (by cases l<;>exact hx);exact⟨h.aBI k1,k2⟩
 |nt l τ bb=>obtain⟨k1,k2⟩:=key l (by cases l<;>exact hx);exact⟨h.aBI k1,k2⟩
 |ti i τ bb=>exact⟨h,hx⟩
def Ag.sets {D:Nat->Prop}{s0:St U}{k:Nat}{ws:List (Nat×Nat)}(hD:∀n,Gp ws 0 n=true->D n):∀(xs:List DI) {u:St U} {n:Nat} {d:Dat U xs},slI ws xs=true->Ag D s0 u->Ag D s0 (sets Y k n u xs d)
 |[],_,_,_,_,h=>h
 |x::xs,u,n,d,hx,h=>by
  obtain⟨h1,h2⟩:=h.set1 (Y:=Y) (k:=k) (n:=n) (d:=Dhd d) hx hD;rw[aRe];exact Ag.sets hD xs h2 h1
def aKl {k:Nat}:∀(xs:List DI) {d:Dat U xs} {o:List (EO U)} {j:Nat} {e:EO U},o[j]? =some e->∃e',(aGv k xs d o)[j]? =some e'/\(e'=e\/(e'.cv=k/\e'.ob.aAX=false))
 |[],_,o,j,e,h=>⟨e,h, .inl rfl⟩
 |x::xs,d,o,j,e,h=>by
  rw[sJ];have h1:∃e1,(aJ4 k x (Dhd d) o)[j]? =some e1/\(e1=e\/(e1.cv=k/\e1.ob.aAX=false)):=by
   cases x with
   |dat l kd=>exact⟨e,h, .inl rfl⟩
   |nat l=>exact⟨e,h, .inl rfl⟩
   |tr l i τ bb=>
    show ∃e1,(upd o i (⟨.tree τ bb _,k,k⟩:EO U))[j]? =some e1/\_;rw[bZ];by_cases hij:i=j
    ·subst hij;exact⟨_,bg (lt_of_some h), .inr ⟨rfl,rfl⟩⟩
    ·exact⟨e,by rw[bj hij];exact h, .inl rfl⟩
   |ti i τ bb=>
    show ∃e1,(upd o i (⟨.tree τ bb _,0,k⟩:EO U))[j]? =some e1/\_;rw[bZ];by_cases hij:i=j
    ·subst hij;exact⟨_,bg (lt_of_some h), .inr ⟨rfl,rfl⟩⟩
    ·exact⟨e,by rw[bj hij];exact h, .inl rfl⟩
   |nt l τ bb=>show ∃e1,(o++[(⟨.tree τ bb _,k,k⟩:EO U)])[j]? =some e1/\_;exact⟨e,by rw[aq (lt_of_some h)];exact h, .inl rfl⟩
  obtain⟨e1,h1,h2⟩:=h1;obtain⟨e',h3,h4⟩:=aKl xs (d:=Dtl d) h1;refine⟨e',h3,?_⟩;rcases h4 with rfl|h4
  ·exact h2
  ·exact .inr h4
def aWa {k:Nat}:∀(xs:List DI) {d:Dat U xs} {o:List (EO U)},o.length<=(aGv k xs d o).length
 |[],_,o=>aj _
 |x::xs,d,o=>by
  rw[sJ];refine bu ?_ (aWa xs);cases x with
  |dat=>exact aj _
  |nat=>exact aj _
  |tr l i τ bb=>show o.length<=(upd o i _).length;rw[bZ,ax];exact aj _
  |nt l τ bb=>show o.length<=(o++[_]).length;simp
  |ti i τ bb=>show o.length<=(upd o i _).length;rw[bZ,ax];exact aj _
def aCw {tm:Tm}{d:Dat U tm.it}(h:slI tm.ws tm.it=true):Ag (λn=>Gp tm.ws 0 n=true) b (reb Y b tm d):=by
 unfold reb;refine Ag.sets (λ_ h=>h) tm.it h ⟨λn hn=> ?_,bBo,rfl,?_⟩
 ·have:=aI8 (ws:=tm.ws) (p:=0) (n:=n) (l:=b.t);rw[ca,cX hn] at this;exact this
 ·refine⟨eo _,λ_ _ f h=>⟨f,h⟩,?_,λi e e' he he'=> ?_⟩
  ·refine bu ?_ (aWa tm.it);rw[Nl,Gz];exact aj _
  ·have hl:=lt_of_some he;by_cases hd:i∈tm.dead
   ·obtain⟨e1,h1,h2,_⟩:=xI (k:=Nat.succ b.m.k) (aCq (k:=Nat.succ b.m.k) hd hl) tm.aBX;have e1d:=h2 (.inl rfl);obtain⟨e2,h3,h4⟩:=aKl (k:=Nat.succ b.m.k) tm.it (d:=d) h1;have:=ak (h3.symm.trans he');subst this;have:e2.cv=Nat.succ b.m.k/\e2.ob.aAX=false:=by
     rcases h4 with rfl|h4
     ·rw[e1d];exact⟨rfl,rfl⟩
     ·exact h4
    refine⟨λhh=>by omega,λhh=>(by rw[this.2] at hh;cases hh),λT cs vs T' cs' vs' _ hh=> ?_⟩;rw[hh] at this;cases this.2
   ·have h0:(Si (Nat.succ b.m.k) tm.dead b.m.o)[i]? =some e:=by rw[wH hd];exact he
    obtain⟨e1,h1,h2,h5⟩:=xI (k:=Nat.succ b.m.k) h0 tm.aBX;obtain⟨e2,h3,h4⟩:=aKl (k:=Nat.succ b.m.k) tm.it (d:=d) h1;have:=ak (h3.symm.trans he');subst this;rcases h4 with rfl|h4
    ·by_cases hk:e.ob.aAX=false\/hasB i tm.aBX=false
     ·have:=h2 hk;subst this;exact(Am.refl b.m).o i _ _ he he
     ·have hB:hasB i tm.aBX=true:=by
       cases hh:hasB i tm.aBX with
       |true=>rfl
       |false=>exact absurd (.inr hh) hk
      cases ho:e.ob with
      |box T cs vs=>
       obtain⟨cs',vs',k1,k2,k3,k4,k5⟩:=h5 T cs vs ho;obtain⟨q1,q2⟩:=k4 hB;refine⟨λhh=>by omega,λ_=>rfl,λT1 cs1 vs1 T2 cs2 vs2 g1 g2=> ?_⟩;rw[k1] at g2;injection g1 with a1 a2 a3;injection g2 with b1 b2 b3;subst a1;subst a2;subst a3;subst b1;subst b2;subst b3;refine⟨rfl,k2,k3,λj v hv hvk=> ?_⟩;cases hA:aJ3 i j tm.aBX with
       |true=>have:=(k5 j).2.1 hA v hv;omega
       |false=>obtain⟨z1,z2⟩:=(k5 j).2.2 hA;exact⟨z1,z2.symm.trans hv⟩
      |_=>exact absurd (.inl (by rw[ho];rfl)) hk
    ·refine⟨λhh=>by omega,λhh=>(by rw[h4.2] at hh;cases hh),λT cs vs T' cs' vs' _ hh=> ?_⟩;rw[hh] at h4;cases h4.2
end
end Go.EV
namespace Go.EV
open Go.RowKit Go.VK
variable {U:Uni} {Y:Lay U} {TI:List (Nat×TInfo)} {FZ:List (Nat×Sum U)} {IL:Il} {P:Program} {g:GI} {E:Env U g}
def WC (D:Nat->Prop):Code->Prop
 | .seq a b=>WC D a/\WC D b
 | .cond c a b=>(∀n,c= .tmp n->D n)/\WC D a/\WC D b
 | .block _ c=>WC D c
 | .loop c=>WC D c
 | .region _ os _=>∀o∈os.toList,∀n,Wr os.toList o n->D n
 |_=>True
def AW (D:Nat->Prop):An->Prop
 | .s a b=>AW D a/\AW D b
 | .j t a=>(∀n,Gp t.ws 0 n=true->D n)/\AW D a
 | .jx t a=>(∀n,Gp t.ws 0 n=true->D n)/\AW D a
 | .l t _ a=>(∀n,Gp t.ws 0 n=true->D n)/\AW D a
 | .rj _ t _=>∀n,Gp t.ws 0 n=true->D n
 |_=>True
def AW.true:∀an:An,AW (λ_=>True) an
 | .n=>trivial
 | .s a b=>⟨AW.true a,AW.true b⟩
 | .j t a=>⟨λ_ _=>trivial,AW.true a⟩
 | .jx t a=>⟨λ_ _=>trivial,AW.true a⟩
 | .l t _ a=>⟨λ_ _=>trivial,AW.true a⟩
 | .r .. =>trivial
 | .rj .. =>λ_ _=>trivial
 | .z .. =>trivial
 | .y .. =>trivial
 | .w .. =>trivial
 | .v .. =>trivial
 | .u .. =>trivial
 | .il .. =>trivial
 | .pl .. =>trivial
def aRk:∀{ws:List (Nat×Nat)} {p lo hi n:Nat},bJ7 ws p lo hi=true->lo<=n->n<hi->Gp ws p n=true
 |[],_,_,_,_,h,_,_=>by cases h
 |(a,b)::r,p,lo,hi,n,h,h1,h2=>by
  simp only[bJ7,cr,aa] at h;simp only[Gp,cr,aa];rcases h with⟨k1,k2⟩|h
  ·have:=bf k1;have:=bf k2;exact .inl ⟨ee (by omega),ee (by omega)⟩
  ·exact .inr (aRk h h1 h2)
def Dh {ws:List (Nat×Nat)}:∀{r:List (Nat×Nat)} {p n:Nat},aYn ws r p=true->Gp r p n=true->Gp ws 0 n=true
 |[],_,_,_,h=>by cases h
 |(a,b)::r,p,n,h,h1=>by
  simp only[aYn,aa,cr] at h;simp only[Gp,cr,aa] at h1;rcases h1 with⟨k1,k2⟩|h1
  ·have:=bf k1;have:=bf k2;rcases h.1 with h|h
   ·have:=ah h;omega
   ·exact aRk h (by omega) (by omega)
  ·exact Dh h.2 h1
def uB {ws:List (Nat×Nat)}:∀{an:An},anW ws an=true->AW (λn=>Gp ws 0 n=true) an
 | .n,_=>trivial
 | .s a b,h=>by simp only[anW,aa] at h;exact⟨uB h.1,uB h.2⟩
 | .j t a,h=>by simp only[anW,aa] at h;exact⟨λn=>Dh h.1,uB h.2⟩
 | .jx t a,h=>by simp only[anW,aa] at h;exact⟨λn=>Dh h.1,uB h.2⟩
 | .l t _ a,h=>by simp only[anW,aa] at h;exact⟨λn=>Dh h.1,uB h.2⟩
 | .r ..,_=>trivial
 | .rj ..,h=>λn=>Dh h
 | .z ..,_=>trivial
 | .y ..,_=>trivial
 | .w ..,_=>trivial
 | .v ..,_=>trivial
 | .u ..,_=>trivial
 | .il ..,_=>trivial
 | .pl ..,_=>trivial
def AW.a {D:Nat->Prop}{an:An}(h:AW D an):AW D an.a:=by cases an<;>first|exact h.1|trivial
def AW.b {D:Nat->Prop}{an:An}(h:AW D an):AW D an.b:=by cases an<;>first|exact h.2|trivial
def O4 {ws:List (Nat×Nat)}{al:List Oper}:∀{l:List Oper},wrG ws al l=true->∀o∈l,∀n,Wr al o n->Gp ws 0 n=true
 |[],_,o,h=>by simp at h
 |x::l,h,o,ho=>by
  have e:wrG ws al (x::l)=cond ((match x.dst with|some n=>Gp ws 0 n|none=>true)&&(match x.guard with|some (j,_)=>(match nth al j with|some oj=>(match oj.dst with|some n=>Gp ws 0 n|none=>true)|none=>true)|none=>true)) (wrG ws al l) false:=rfl;rw[e] at h;cases hc:((match x.dst with|some n=>Gp ws 0 n|none=>true)&&(match x.guard with|some (j,_)=>(match nth al j with|some oj=>(match oj.dst with|some n=>Gp ws 0 n|none=>true)|none=>true)|none=>true)) with
  |false=>rw[hc] at h;cases h
  |true=>
   rw[hc] at h;simp only[ac] at h;rcases aE.1 ho with rfl|ho
   ·simp only[aa] at hc;rintro n (hn|⟨j,b,oj,h1,h2,h3⟩)
    ·have:=hc.1;rw[hn] at this;exact this
    ·have:=hc.2;rw[h1] at this;simp only[aS,h2,h3] at this;exact this
   ·exact O4 h o ho
def aTs {ws:List (Nat×Nat)}:∀{f:Nat} {c:Code},wr ws f c=true->WC (λn=>Gp ws 0 n=true) c:=by
 intro f;induction f with
 |zero=>intro c h;cases h
 |succ f ih=>
  intro c h;cases c with
  |seq a b=>replace h:(wr ws f a&&wr ws f b)=true:=h;simp only[aa] at h;exact⟨ih h.1,ih h.2⟩
  |cond c a b=>
   cases c with
   |tmp n=>replace h:(Gp ws 0 n&&(wr ws f a&&wr ws f b))=true:=h;simp only[aa] at h;exact⟨λn' e=>by injection e with e;subst e;exact h.1,ih h.2.1,ih h.2.2⟩
   |_=>cases h
  |block id c=>exact ih (c:=c) h
  |loop c=>exact ih (c:=c) h
  |region id os d=>exact O4 (show wrG ws os.toList os.toList=true from h)
  |_=>trivial
section
variable {α:Type}
def Snd (P:Program)(Y:Lay U)(E:Env U g)(D:Nat->Prop)(c:Code)(s:St U){α:Type}(z:α)(N:St U->Option α)(X:Nat->St U->Option α)(R:St U->Option α):Prop:=
 ∀Q:Exit->Act->World->Prop,(∀s' a w β,Ag D s s'->N s'=some z->bE Y.C E s' a w β->Q .normal a w)->(∀i s' a w β,Ag D s s'->X i s'=some z->bE Y.C E s' a w β->Q (.exit i) a w)->(∀s' a w β,Ag D s s'->R s'=some z->bE Y.C E s' a w β->Q .ret a w)->
  ∀a w β,bE Y.C E s a w β->c.wp P Q a w
def bBp (P:Program)(Y:Lay U)(TI:List (Nat×TInfo))(FZ:List (Nat×Sum U))(IL:Il)(g:GI):Prop:=
 ∀(E:Env U g),E.fr=[]->E.prm=[]->∀(α:Type) (EV:An->Code->St U->(St U->Option α)->Option α),(∀(E:Env U g),E.fr=[]->E.prm=[]->∀(an:An) (c:Code) (s:St U) (K:St U->Option α) (z:α),EV an c s K=some z->Snd P Y E (λ_=>True) c s z K (λ_ _=>none) K)->
  ∀(id:Nat) (os:Array Oper) (d:Bool) (an:An) (s:St U) (N:St U->Option α) (X:Nat->St U->Option α) (R:St U->Option α) (z:α) (D:Nat->Prop),(∀o∈os.toList,∀n,Wr os.toList o n->D n)->AW D an->bC8 Y TI FZ IL EV os.toList os d an s N=some z->Snd P Y E D (.region id os d) s z N X R
def WC.true:∀c:Code,WC (λ_=>True) c:=λc=>by
 induction c with
 |seq a b h1 h2=>exact⟨h1,h2⟩
 |cond c a b h1 h2=>exact⟨λ_ _=>trivial,h1,h2⟩
 |block id c h=>exact h
 |loop c h=>exact h
 |region id os d=>exact λ_ _ _ _=>trivial
 |_=>trivial
def NJ (an:An):Prop:=(∀tm a,an≠ .j tm a)/\∀tm a,an≠ .jx tm a
section
variable {f:Nat} {an:An} {s:St U} {N:St U->Option α} {X:Nat->St U->Option α} {R:St U->Option α}
def bN7 (h:NJ an){a b:Code}:ev Y TI FZ IL (f+1) an (.seq a b) α s N X R=ev Y TI FZ IL f an.a a α s (λs'=>ev Y TI FZ IL f an.b b α s' N X R) X R:=by cases an<;>first|exact absurd rfl (h.1 _ _)|exact absurd rfl (h.2 _ _)|rfl
def bKl (h:NJ an){n:Nat}{a b:Code}:ev Y TI FZ IL (f+1) an (.cond (.tmp n) a b) α s N X R=tst n s (λs=>ev Y TI FZ IL f an.a a α s N X R) (λs=>ev Y TI FZ IL f an.b b α s N X R):=by cases an<;>first|exact absurd rfl (h.1 _ _)|exact absurd rfl (h.2 _ _)|rfl
def bG3 (h:NJ an){c:Operand}{a b:Code}{z:α}(hz:ev Y TI FZ IL (f+1) an (.cond c a b) α s N X R=some z):∃n,c= .tmp n:=by
 cases c with
 |tmp n=>exact⟨n,rfl⟩
 |_=>cases an<;>first|exact absurd rfl (h.1 _ _)|exact absurd rfl (h.2 _ _)|cases hz
def bG4 (h:NJ an){id:Nat}{c:Code}:ev Y TI FZ IL (f+1) an (.block id c) α s N X R=ev Y TI FZ IL f an.a c α s N (λi s'=>bif Nat.beq i id then N s' else X i s') R:=by cases an<;>first|exact absurd rfl (h.1 _ _)|exact absurd rfl (h.2 _ _)|rfl
def bKm (h:NJ an){c:Code}{z:α}(hz:ev Y TI FZ IL (f+1) an (.loop c) α s N X R=some z):(∃tm n a,an= .l tm n a/\(bif wr tm.ws f c&&anW tm.ws a then bd (col Y s tm s) (bX n λrec d=>ev Y TI FZ IL f a c α (reb Y s tm d) (λs'=>bd (col Y s tm s') rec) X R) else none)=some z)\/∃a b,an= .s a b/\NJ b/\ev Y TI FZ IL f a c α s (λs'=>ev Y TI FZ IL f b (.loop c) α s' N X R) X R=some z:=by
 cases an with
 |l tm n a=>exact .inl ⟨tm,n,a,rfl,hz⟩
 |s a b=>
  refine .inr ⟨a,b,rfl,?_⟩;replace hz:(bif bNy b then ev Y TI FZ IL f a c α s (λs'=>ev Y TI FZ IL f b (.loop c) α s' N X R) X R else none)=some z:=hz;cases hb:bNy b with
  |false=>rw[hb] at hz;cases hz
  |true=>rw[hb] at hz;refine⟨?_,hz⟩;cases b<;>first|(simp[NJ];done)|cases hb
 |j=>exact absurd rfl (h.1 _ _)
 |jx=>exact absurd rfl (h.2 _ _)
 |_=>cases hz
def bKn (h:NJ an):ev Y TI FZ IL (f+1) an .skip α s N X R=N s:=by cases an<;>first|exact absurd rfl (h.1 _ _)|exact absurd rfl (h.2 _ _)|rfl
def bN8 (h:NJ an):ev Y TI FZ IL (f+1) an .ret α s N X R=R s:=by cases an<;>first|exact absurd rfl (h.1 _ _)|exact absurd rfl (h.2 _ _)|rfl
def bKo (h:NJ an){i:Nat}:ev Y TI FZ IL (f+1) an (.exit i) α s N X R=X i s:=by cases an<;>first|exact absurd rfl (h.1 _ _)|exact absurd rfl (h.2 _ _)|rfl
def bDt (h:NJ an){id:Nat}{os:Array Oper}{d:Bool}:ev Y TI FZ IL (f+1) an (.region id os d) α s N X R=bC8 Y TI FZ IL (λa c s K=>ev Y TI FZ IL f a c α s K (λ_ _=>none) K) os.toList os d an s N:=by cases an<;>first|exact absurd rfl (h.1 _ _)|exact absurd rfl (h.2 _ _)|rfl
end
def bG5 (an:An):(∃tm a,an= .j tm a)\/(∃tm a,an= .jx tm a)\/NJ an:=by cases an<;>simp[NJ]
def LoopIn (P:Program)(Y:Lay U)(E:Env U g)(D:Nat->Prop)(c':Code)(s:St U){α:Type}(z:α)(N:St U->Option α)(X:Nat->St U->Option α)(R:St U->Option α):Prop:=
 ∀Q:Exit->Act->World->Prop,(∀s' a w β,Ag D s s'->N s'=some z->bE Y.C E s' a w β->Q .normal a w)->(∀i s' a w β,Ag D s s'->X i s'=some z->bE Y.C E s' a w β->Q (.exit i) a w)->(∀s' a w β,Ag D s s'->R s'=some z->bE Y.C E s' a w β->Q .ret a w)->
  ∀a w β,bE Y.C E s a w β->∀(b:Frame) (kk:List Item) (cs:List Frame),∃e a' w',Q e a' w'/\Arrives P (lone (b.at a (.code c':: .inLoop c'::kk)) cs w) b kk cs e a' w'
def aWb (P:Program)(Y:Lay U)(TI:List (Nat×TInfo))(FZ:List (Nat×Sum U))(IL:Il)(g:GI)(f:Nat):Prop:=∀(E:Env U g),E.fr=[]->E.prm=[]->∀(an:An) (c:Code) (α:Type) (s:St U) (N:St U->Option α) (X:Nat->St U->Option α) (R:St U->Option α) (z:α) (D:Nat->Prop),WC D c->AW D an->ev Y TI FZ IL f an c α s N X R=some z->Snd P Y E D c s z N X R
def aTt (P:Program)(Y:Lay U)(TI:List (Nat×TInfo))(FZ:List (Nat×Sum U))(IL:Il)(g:GI)(f:Nat):Prop:=∀(E:Env U g),E.fr=[]->E.prm=[]->∀(an:An) (c':Code) (α:Type) (s:St U) (N:St U->Option α) (X:Nat->St U->Option α) (R:St U->Option α) (z:α) (D:Nat->Prop),NJ an->WC D c'->AW D an->ev Y TI FZ IL f an (.loop c') α s N X R=some z->LoopIn P Y E D c' s z N X R
def bBq {f:Nat}(IH:aWb P Y TI FZ IL g f/\aTt P Y TI FZ IL g f):aTt P Y TI FZ IL g (f+1):=by
 intro E hE hP an c' α s N X R z D hn hw ha h Q hN hX hR a0 w0 β0 r0 b kk cs;rcases bKm hn h with⟨tm,n,a,rfl,h'⟩|⟨a,b2,rfl,hn2,h'⟩<;>replace h:=h'
 ·cases hb:(wr tm.ws f c'&&anW tm.ws a) with
  |false=>rw[hb] at h;cases h
  |true=>
   rw[hb] at h;simp only[ac] at h;simp only[aa] at hb;obtain⟨d0,h1,h2⟩:=iY h;have key:∀(m:Nat) (d:Dat U tm.it),bX m (λrec d=>ev Y TI FZ IL f a c' α (reb Y s tm d) (λs'=>bd (col Y s tm s') rec) X R) d=some z->∀a1 w1 β1,bE Y.C E (reb Y s tm d) a1 w1 β1->Ag (λn=>Gp tm.ws 0 n=true) s (reb Y s tm d)->∀(b:Frame) (kk:List Item) (cs:List Frame),
     ∃e a' w',Q e a' w'/\Arrives P (lone (b.at a1 (.code c':: .inLoop c'::kk)) cs w1) b kk cs e a' w':=by
    intro m;induction m with
    |zero=>intro d hd;cases hd
    |succ m ih=>
     intro d hd a1 w1 β1 r1 hg b kk cs;have hd':ev Y TI FZ IL f a c' α (reb Y s tm d) (λs'=>bd (col Y s tm s') (bX m (λrec d=>ev Y TI FZ IL f a c' α (reb Y s tm d) (λs'=>bd (col Y s tm s') rec) X R))) X R=some z:=hd;have hbody:=IH.1 E hE hP a c' _ _ _ _ _ z _ (aTs hb.1) (uB hb.2) hd' (Exit.then (λa' w'=>∃d' β',bX m (λrec d=>ev Y TI FZ IL f a c' α (reb Y s tm d) (λs'=>bd (col Y s tm s') rec) X R) d'=some z/\bE Y.C E (reb Y s tm d') a' w' β'/\Ag (λn=>Gp tm.ws 0 n=true) s (reb Y s tm d')) Q)
      (λs2 a2 w2 β2 hg2 hc r2=>by
       obtain⟨d',q1,q2⟩:=iY hc;obtain⟨β',r'⟩:=wO hE r0 r2 (hg.trans hg2) q1;obtain⟨_,_,_,hs,_⟩:=Hm q1;exact⟨d',β',q2,r',aCw hs⟩)
      (λi s2 a2 w2 β2 hg2 hc r2=>hX i s2 a2 w2 β2 ((hg.trans hg2).mono ha.1) hc r2)
      (λs2 a2 w2 β2 hg2 hc r2=>hR s2 a2 w2 β2 ((hg.trans hg2).mono ha.1) hc r2) a1 w1 β1 r1 b (.inLoop c'::kk) cs
     obtain⟨e,a₁,w₁,hq,harr⟩:=hbody;cases e with
     |normal=>obtain⟨d',β',j1,j2,j3⟩:=hq;obtain⟨e₂,a₂,w₂,hq₂,harr₂⟩:=ih d' j1 a₁ w₁ β' j2 j3 b kk cs;exact⟨e₂,a₂,w₂,hq₂, .of_steps (Steps.trans harr (.one step_inLoop)) harr₂⟩
     |exit id=>exact⟨_,a₁,w₁,hq, .pass (x:= .inLoop c') rfl (λ_ _=> .inl (by simp)) harr⟩
     |goto l=>exact⟨_,a₁,w₁,hq, .pass (x:= .inLoop c') rfl (λ_ _=> .inl (by simp)) harr⟩
     |ret=>exact⟨_,a₁,w₁,hq, .pass (x:= .inLoop c') rfl (λ_ _=> .inl (by simp)) harr⟩
     |panic ch=>exact⟨_,a₁,w₁,hq, .pass (x:= .inLoop c') rfl (λ_ _=> .inl (by simp)) harr⟩
     |outgrown=>exact⟨_,a₁,w₁,hq, .pass (x:= .inLoop c') rfl (λ_ _=> .inl (by simp)) harr⟩
   obtain⟨β1,r1⟩:=wO hE r0 r0 (Ag.refl s) h1;obtain⟨_,_,_,hs,_⟩:=Hm h1;exact key n d0 h2 a0 w0 β1 r1 (aCw hs) b kk cs
 ·have hbody:=IH.1 E hE hP a c' _ s _ _ _ z D hw ha.1 h (Exit.then (λa' w'=>∃s' β',ev Y TI FZ IL f b2 (.loop c') α s' N X R=some z/\bE Y.C E s' a' w' β'/\Ag D s s') Q)
   (λs2 a2 w2 β2 hg2 hc r2=>⟨s2,β2,hc,r2,hg2⟩)
   (λi s2 a2 w2 β2 hg2 hc r2=>hX i s2 a2 w2 β2 hg2 hc r2)
   (λs2 a2 w2 β2 hg2 hc r2=>hR s2 a2 w2 β2 hg2 hc r2) a0 w0 β0 r0 b (.inLoop c'::kk) cs
  obtain⟨e,a₁,w₁,hq,harr⟩:=hbody;cases e with
  |normal=>obtain⟨s',β',j1,j2,j3⟩:=hq;obtain⟨e₂,a₂,w₂,hq₂,harr₂⟩:=IH.2 E hE hP b2 c' _ s' N X R z D hn2 hw ha.2 j1 Q (λs2 a2 w2 β2 hg=>hN s2 a2 w2 β2 (j3.trans hg)) (λi s2 a2 w2 β2 hg=>hX i s2 a2 w2 β2 (j3.trans hg)) (λs2 a2 w2 β2 hg=>hR s2 a2 w2 β2 (j3.trans hg)) a₁ w₁ β' j2 b kk cs;exact⟨e₂,a₂,w₂,hq₂, .of_steps (Steps.trans harr (.one step_inLoop)) harr₂⟩
  |exit id=>exact⟨_,a₁,w₁,hq, .pass (x:= .inLoop c') rfl (λ_ _=> .inl (by simp)) harr⟩
  |goto l=>exact⟨_,a₁,w₁,hq, .pass (x:= .inLoop c') rfl (λ_ _=> .inl (by simp)) harr⟩
  |ret=>exact⟨_,a₁,w₁,hq, .pass (x:= .inLoop c') rfl (λ_ _=> .inl (by simp)) harr⟩
  |panic ch=>exact⟨_,a₁,w₁,hq, .pass (x:= .inLoop c') rfl (λ_ _=> .inl (by simp)) harr⟩
  |outgrown=>exact⟨_,a₁,w₁,hq, .pass (x:= .inLoop c') rfl (λ_ _=> .inl (by simp)) harr⟩
def bN9 (HR:bBp P Y TI FZ IL g){f:Nat}(IH:aWb P Y TI FZ IL g f/\aTt P Y TI FZ IL g f):aWb P Y TI FZ IL g (f+1):=by
  intro E hE hP an c α s N X R z D hw ha h;rcases bG5 an with⟨tm,a,rfl⟩|⟨tm,a,rfl⟩|hn
  ·replace h:(bif wr tm.ws f c&&anW tm.ws a then bd (ev Y TI FZ IL f a c (Dat U tm.it) s (λs'=>col Y s tm s') (λ_ _=>none) (λ_=>none)) λd=>N (reb Y s tm d) else none)=some z:=h;cases hb:(wr tm.ws f c&&anW tm.ws a) with
   |false=>rw[hb] at h;cases h
   |true=>rw[hb] at h;simp only[ac] at h;simp only[aa] at hb;obtain⟨d,h1,h2⟩:=iY h;intro Q hN hX hR a0 w0 β0 r0;refine IH.1 E hE hP a c _ s _ _ _ d _ (aTs hb.1) (uB hb.2) h1 Q (λs' a' w' β' hag hc r'=> ?_) (λi s' a' w' β' _ hc _=>by cases hc) (λs' a' w' β' _ hc _=>by cases hc) a0 w0 β0 r0;obtain⟨β'',r''⟩:=wO hE r0 r' hag hc;obtain⟨_,_,_,hs,_⟩:=Hm hc;exact hN _ _ _ _ ((aCw hs).mono ha.1) h2 r''
  ·replace h:(bif wr tm.ws f c&&anW tm.ws a then nx (ev Y TI FZ IL f a c (α⊕Dat U tm.it) s (λs'=>bd (col Y s tm s') λd=>some (.inr d)) (λi s'=>bd (X i s') λr=>some (.inl r)) (λs'=>bd (R s') λr=>some (.inl r))) λd=>N (reb Y s tm d) else none)=some z:=h;cases hb:(wr tm.ws f c&&anW tm.ws a) with
   |false=>rw[hb] at h;cases h
   |true=>
    rw[hb] at h;simp only[ac] at h;simp only[aa] at hb;obtain⟨q,h1,h2⟩:=bJ0 h;intro Q hN hX hR a0 w0 β0 r0;refine IH.1 E hE hP a c _ s _ _ _ q _ (aTs hb.1) (uB hb.2) h1 Q (λs' a' w' β' hag hc r'=> ?_) (λi s' a' w' β' hag hc r'=> ?_) (λs' a' w' β' hag hc r'=> ?_) a0 w0 β0 r0
    ·obtain⟨d,h3,h4⟩:=iY hc;have:=ak h4;subst this;obtain⟨β'',r''⟩:=wO hE r0 r' hag h3;obtain⟨_,_,_,hs,_⟩:=Hm h3;exact hN _ _ _ _ ((aCw hs).mono ha.1) h2 r''
    ·obtain⟨d,h3,h4⟩:=iY hc;have:=ak h4;subst this;obtain rfl:d=z:=h2;exact hX i s' a' w' β' (hag.mono ha.1) h3 r'
    ·obtain⟨d,h3,h4⟩:=iY hc;have:=ak h4;subst this;obtain rfl:d=z:=h2;exact hR s' a' w' β' (hag.mono ha.1) h3 r'
  cases c with
  |seq a b=>
   rw[bN7 hn] at h;intro Q hN hX hR a0 w0 β0 r0;exact wp_seq (IH.1 E hE hP an.a a _ s _ _ _ z D hw.1 ha.a h (Exit.then (b.wp P Q) Q) (λs' a' w' β' hag h2 r'=>
    IH.1 E hE hP an.b b _ s' _ _ _ z D hw.2 ha.b h2 Q (λs2 a2 w2 β2 hg=>hN s2 a2 w2 β2 (hag.trans hg)) (λi s2 a2 w2 β2 hg=>hX i s2 a2 w2 β2 (hag.trans hg)) (λs2 a2 w2 β2 hg=>hR s2 a2 w2 β2 (hag.trans hg)) a' w' β' r')
    (λi s' a' w' β' hag h2 r'=>hX i s' a' w' β' hag h2 r') (λs' a' w' β' hag h2 r'=>hR s' a' w' β' hag h2 r') a0 w0 β0 r0)
  |cond c0 a b=>
    obtain⟨n,rfl⟩:=bG3 hn h;rw[bKl hn] at h;intro Q hN hX hR a0 w0 β0 r0;obtain⟨t,s1,k1,k2,k3,k4,k5,k6⟩:=aRc r0 h;have hag:=k6.mono (D':=D) (λk e=>e▸hw.1 n rfl);refine wp_cond_split k1 (λht=> ?_) (λhf=> ?_)
    ·exact IH.1 E hE hP an.a a _ s1 _ _ _ z D hw.2.1 ha.a (k4 ht) Q (λs2 a2 w2 β2 hg=>hN s2 a2 w2 β2 (hag.trans hg)) (λi s2 a2 w2 β2 hg=>hX i s2 a2 w2 β2 (hag.trans hg)) (λs2 a2 w2 β2 hg=>hR s2 a2 w2 β2 (hag.trans hg)) a0 w0 β0 k3
    ·exact IH.1 E hE hP an.b b _ s1 _ _ _ z D hw.2.2 ha.b (k5 hf) Q (λs2 a2 w2 β2 hg=>hN s2 a2 w2 β2 (hag.trans hg)) (λi s2 a2 w2 β2 hg=>hX i s2 a2 w2 β2 (hag.trans hg)) (λs2 a2 w2 β2 hg=>hR s2 a2 w2 β2 (hag.trans hg)) a0 w0 β0 k3
  |block id c'=>
   rw[bG4 hn] at h;intro Q hN hX hR a0 w0 β0 r0;refine wp_block (IH.1 E hE hP an.a c' _ s _ _ _ z D hw ha.a h (Exit.inBlock id Q) (λs' a' w' β' hag h2 r'=>hN s' a' w' β' hag h2 r') (λi s' a' w' β' hag h2 r'=> ?_) (λs' a' w' β' hag h2 r'=>hR s' a' w' β' hag h2 r') a0 w0 β0 r0);simp only[Exit.inBlock];cases hb:Nat.beq i id with
   |true=>rw[cH (ah hb)];simp only[hb,ac] at h2;exact hN s' a' w' β' hag h2 r'
   |false=>rw[cX (λe=>by subst e;rw[show Nat.beq i i=true from dp i] at hb;cases hb)];simp only[hb,ab] at h2;exact hX i s' a' w' β' hag h2 r'
  |loop c'=>intro Q hN hX hR a0 w0 β0 r0 b kk cs;obtain⟨e,a',w',hq,harr⟩:=bBq IH E hE hP an c' α s N X R z D hn hw ha h Q hN hX hR a0 w0 β0 r0 b kk cs;exact⟨e,a',w',hq, .of_steps (.one step_loop) harr⟩
  |skip=>rw[bKn hn] at h;intro Q hN hX hR a0 w0 β0 r0;exact wp_skip (hN s a0 w0 β0 (Ag.refl s) h r0)
  |ret=>rw[bN8 hn] at h;intro Q hN hX hR a0 w0 β0 r0;exact wp_ret (hR s a0 w0 β0 (Ag.refl s) h r0)
  |exit i=>rw[bKo hn] at h;intro Q hN hX hR a0 w0 β0 r0;exact wp_exit (hX i s a0 w0 β0 (Ag.refl s) h r0)
  |region id os d=>rw[bDt hn] at h;exact HR E hE hP α _ (λE hE hP an c s K z h=>IH.1 E hE hP an c _ s _ _ _ z (λ_=>True) (WC.true c) (AW.true an) h) id os d an s N X R z D hw ha h
  |_=>cases an<;>first|exact absurd rfl (hn.1 _ _)|exact absurd rfl (hn.2 _ _)|cases h
def aTu (HR:bBp P Y TI FZ IL g):∀(f:Nat),aWb P Y TI FZ IL g f/\aTt P Y TI FZ IL g f
 |0=>And.intro (λE _ _ an c α s N X R z D _ _ h=>nomatch h) (λE _ _ an c' α s N X R z D _ _ _ h=>nomatch h)
 |f+1=>⟨bN9 HR (aTu HR f),bBq (aTu HR f)⟩
def aKm (HR:bBp P Y TI FZ IL g)(f:Nat):aWb P Y TI FZ IL g f:=(aTu HR f).1
end
end Go.EV
namespace Go.EV
open Go.RowKit Go.VK
variable {U:Uni} {Y:Lay U} {TI:List (Nat×TInfo)} {FZ:List (Nat×Sum U)} {P:Program} {g:GI} {E:Env U g}
section
variable {s:St U} {a:Act} {w:World} {β:List Tr} {α:Type}
def aTv (G:Good P g Y TI FZ)(r:bE Y.C E s a w β){al:List Oper}{o:Oper}{K:St U->Option α}{z:α}(h:grd Y TI FZ al o s K=some z){K':Act->World->Prop}{Q:Exit->Act->World->Prop}
  (hk:∀s' v w' β',Ag (Wr al o) s s'->K s'=some z->bE Y.C E s' (a.put o.dst v) w' β'->(Nat.ble (vG FZ o.op) 1=true->Ext w w')->K' (a.put o.dst v) w'):if Region.wanted o (yielded al.toArray a.tmps)=true then o.wp P a w K' Q else K' (a.put o.dst undef) w:=by
 obtain⟨s1,r1,h1,h2⟩:=aCt r h;rcases h2 with⟨hw,h2⟩|⟨hw,h2⟩
 ·rw[cH hw];unfold one at h2;obtain⟨x,s2,k1,k2,k3,k4,k5⟩:=aRb G r1 rfl h2;exact k2 K' Q λv w' β' q1 q2 q3=>hk _ v w' β' (Ag.put ⟨λn hn=>by rw[k3];exact h1.t n hn,by rw[k3];exact h1.tl,by rw[k4];exact h1.fr,h1.m.trans k5⟩ (λn e=> .inl e)) k1 (q1.put q2) q3
 ·rw[cX (by rw[hw];simp)];exact hk _ _ w β (h1.put (λn e=> .inl e)) h2 (r1.put (x:= .l .und) (v:=undef) (λ_=>rfl)) (λ_=>Ext.refl w)
def bE.aBQ {C:Cod U}(r:bE C E s a w β){d:Option Nat}{x:Sv U}{v:Value}(h:d≠none->x.mean C w (E.X β) β s.m v)(hv:∀n,d=some n->a.tmps.getD n undef=v):bE C E (EV.put s d x) a w β:=by
 have r':=r.put h;refine⟨r'.hp,r.defers,?_,λn y hy=> ?_⟩
 ·rw[r.tsz];cases d with
  |none=>rfl
  |some m=>simp[EV.put,bZ]
 ·have:=r'.tm n y hy;cases d with
  |none=>exact this
  |some m=>
   by_cases hm:m=n
   ·subst hm;by_cases hl:m<a.tmps.size
    ·rw[show(a.put (some m) v).tmps.getD m undef=v from by simp only[Act.put];rw[wX _ _ _ _ _ hl,cH rfl]] at this;rw[hv m rfl];exact this
    ·rw[show(a.put (some m) v).tmps=a.tmps from eN (by omega)] at this;exact this
   ·rw[show(a.put (some m) v).tmps.getD n undef=a.tmps.getD n undef from by
     simp only[Act.put];by_cases hl:m<a.tmps.size
     ·rw[wX _ _ _ _ _ hl,cX hm]
     ·rw[eN (by omega)]] at this
    exact this
def O5 {d:Option Nat}{v:Value}{n:Nat}(h:d≠some n):(a.put d v).tmps.getD n undef=a.tmps.getD n undef:=by
 cases d with
 |none=>rfl
 |some m=>
  simp only[Act.put];by_cases hl:m<a.tmps.size
  ·rw[wX _ _ _ _ _ hl,cX (λe=>h (by rw[e]))]
  ·rw[eN (by omega)]
def bE.aBY {C:Cod U}(r:bE C E s a w β){d:Option Nat}{v:Value}(h:aO0 s d=true):bE C E s (a.put d v) w β:=by
 refine⟨r.hp,?_,?_,λn x hx=> ?_⟩
 ·cases d<;>exact r.defers
 ·rw[<-r.tsz];cases d with
  |none=>rfl
  |some m=>simp[Act.put]
 ·by_cases hd:d=some n
  ·subst hd;simp only[aO0,aS,hx] at h;split at h
   ·rename_i hh;have:=ak hh;subst this;trivial
   ·cases h
  ·rw[O5 hd];exact r.tm n x hx
def bE.aDG {C:Cod U}(r:bE C E s a w β){d:Option Nat}:bE C E (EV.put s d (.l .any)) a w β:=by
 cases d with
 |none=>exact r
 |some n=>exact r.aBQ (v:=a.tmps.getD n undef) (λ_=>trivial) (λm e=>by cases e;rfl)
def Di {o:Oper}(h:aCl o.op=true){a:Act}{w:World}{v:Value}(hr:(execOp a.eval o).run P w= .ok (.value v) w)(w':World):(execOp a.eval o).run P w'= .ok (.value v) w':=by
 cases ho:o.op with
 |move x=>simp[execOp,ho] at hr ⊢;exact hr
 |assign x=>simp[execOp,ho] at hr ⊢;exact hr
 |extract x i=>
  simp only[execOp,ho] at hr ⊢;cases hx:a.eval x with
  |tuple vs=>
   rw[hx] at hr;simp only[Instr.extract] at hr ⊢;cases hv:vs[i]? with
   |none=>rw[hv] at hr;simp at hr
   |some u=>rw[hv] at hr;simp at hr ⊢;exact hr
  |_=>rw[hx] at hr;simp[Instr.extract] at hr
 |_=>rw[ho] at h;cases h
def We {a0:Option Nat}{i:Nat}{listed:Array Bool}{pre:Bool}(h:a0Y a0 i listed=true)(hp:fM a0 listed=pre):fM a0 (listed.setIfInBounds i true)=(pre&& !zU a0 i):=by
 cases a0 with
 |none=>have:pre=true:=hp.symm;subst this;rfl
 |some b=>
  by_cases hb:b=i
  ·subst hb;have e:zU (some b) b=true:=dp b;rw[e];simp only[a0Y,cI,cL,cq] at h;rw[h];simp
  ·have e:zU (some b) i=false:=by
    unfold zU;cases hh:Nat.beq b i with
    |false=>exact hh
    |true=>exact absurd (ah hh) hb
   rw[e,wG (λe=>hb (ak e)),hp];simp
def bQc {os:Array Oper}{a0:Option Nat}(hs:Region.noSelect os=true){Q:Exit->Act->World->Prop}{i:Nat}{o:Oper}{v:Value}{n:Nat}{listed:Array Bool}{wS:World}(ho:os[i]? =some o)(hD:Dn .any os listed)(hc:tkY os a0 i listed=true)
  (hy:YieldsIf P os (Ext wS) o v a) (hpu:aCl o.op=true->YieldsIf P os (λ_=>True) o v a) (hS:fM a0 listed=true->Ext wS w)
  (h:dN P .any os a0 (NoPanic Q) (Ext wS) n (listed.setIfInBounds i true) (a.put o.dst v) w):dN P .any os a0 (NoPanic Q) (Ext wS) (n+1) listed a w:=by
 simp only[tkY,aa] at hc;obtain⟨⟨h1,h2⟩,h3⟩:=hc;have h2':i∈Region.ready .any os listed:=by simpa using h2
 cases a0 with
 |none=>exact kK ho (Region.noSelect_spec hs) (λ_ _ _ h=>h) (by simp) (λ_ _ _=>rfl) n listed a w (Region.free_spec ho h1) hD h2' hy (hS rfl) h
 |some b=>
  simp only[aa,bne_iff_ne,ne_eq,cr,ho] at h3;have hne:some b≠some i:=λe=>h3.1 (ak e);rcases h3.2 with h4|h4
  ·have hbar:∀listed,Dn .any os listed->listed.getD i true=false->fM (some b) listed=true:=λlisted hD hun=>by
    simp only[fM,cq];exact getD_in (Sd hD hun 40 b h4)
   exact kK ho (Region.noSelect_spec hs) (λ_ _ _ h=>h) hne hbar n listed a w (Region.free_spec ho h1) hD h2' hy (hS (hbar _ hD (mem_ready.1 h2').1)) h
  ·exact Cn ho (Region.noSelect_spec hs) (λ_ _ _ h=>h) hne n listed a w (Region.free_spec ho h1) h2' (hpu h4) hS h
def pG {os:Array Oper}{a0:Option Nat}{i:Nat}{listed:Array Bool}(h:tkY os a0 i listed=true):i∈Region.ready .any os listed/\a0≠some i:=by
 simp only[tkY,aa] at h;refine⟨by simpa using h.1.2,λe=> ?_⟩
 subst e;have:=h.2;simp at this
structure Lk (E:Env U g) (kd:Option (Nat×Nat)) (st pre:Bool) (wS w:World):Prop where
 fr:∀n k,kd=some (n,k)->(wS,n,k)∈E.fr
 st:st=true->wS=w
 no:kd=none->wS=w
 pre:pre=true->Ext wS w
def stepT (G:Good P g Y TI FZ){al:List Oper}{a0:Option Nat}(hs:Region.noSelect al.toArray=true){Q:Exit->Act->World->Prop}{i:Nat}{o:Oper}{n:Nat}{listed:Array Bool}{wS:World}(ho:al[i]? =some o)(hD:Dn .any al.toArray listed)(hc:tkY al.toArray a0 i listed=true)
  {K:St U->Option α} {z:α} {st:Bool} (h:(bif Nat.beq (vG FZ o.op) 0&&(aCl o.op||st) then grd Y TI FZ al o s K else none)=some z) (hst:st=true->wS=w) (hS:fM a0 listed=true->Ext wS w) (r:bE Y.C E s a w β)
  (hk:∀v s',Ag (Wr al o) s s'->K s'=some z->bE Y.C E s' (a.put o.dst v) w β->dN P .any al.toArray a0 (NoPanic Q) (Ext wS) n (listed.setIfInBounds i true) (a.put o.dst v) w):dN P .any al.toArray a0 (NoPanic Q) (Ext wS) (n+1) listed a w:=by
 cases hb:(Nat.beq (vG FZ o.op) 0&&(aCl o.op||st)) with
 |false=>rw[hb] at h;cases h
 |true=>
  rw[hb] at h;simp only[ac] at h;simp only[aa,cr] at hb;obtain⟨v,s',h1,h2,h3,h4⟩:=bKj G r (ah hb.1) h;have hg:al.toArray[i]? =some o:=by simpa using ho
  have hpu:aCl o.op=true->YieldsIf P al.toArray (λ_=>True) o v a:=λhp=>h1.imp (λ⟨k1,k2⟩=>⟨k1,λw' _=>Di hp (k2 w (Ext.refl w)) w'⟩) id;refine bQc hs hg hD hc ?_ hpu hS (hk v s' h4 h3 h2);rcases hb.2 with hp|hp
  ·exact(hpu hp).imp (λ⟨k1,k2⟩=>⟨k1,λw' _=>k2 w' trivial⟩) id
  ·have:=hst hp;subst this;exact h1
def aWc (G:Good P g Y TI FZ){al:List Oper}{a0:Option Nat}{kd:Option (Nat×Nat)}{Q:Exit->Act->World->Prop}{i:Nat}{o:Oper}{n:Nat}{listed:Array Bool}{wS:World}(ho:al[i]? =some o){pre st:Bool}(ha:a0Y a0 i listed=true)(hp:fM a0 listed=pre)
  {K:St U->Option α} {z:α} (h:grd Y TI FZ al o s (λs'=>bif !(pre&& !zU a0 i)||(Nat.ble (vG FZ o.op) 1||unO kd s'.m.o) then K s' else none)=some z) (hl:Lk E kd st pre wS w) (r:bE Y.C E s a w β)
  (hk:∀v s' w' β' wS',Ag (Wr al o) s s'->K s'=some z->bE Y.C E s' (a.put o.dst v) w' β'->Lk E kd (st&&Cx kd) (pre&& !zU a0 i) wS' w'->dN P .any al.toArray a0 (NoPanic Q) (Ext wS') n (listed.setIfInBounds i true) (a.put o.dst v) w'):
  wpOp P al.toArray (NoPanic Q) i (λa' w'=>(fM a0 (listed.setIfInBounds i true)=true->Ext wS w')/\dN P .any al.toArray a0 (NoPanic Q) (Ext wS) n (listed.setIfInBounds i true) a' w') a w:=by
 have hny:=We ha hp;have hg:al.toArray[i]? =some o:=by simpa using ho
 refine wpOp_step hg λK' hK'=>aTv G r h λs' v w' β' q1 q2 q3 q4=>hK' _ _ ?_;cases hb:(!(pre&& !zU a0 i)||(Nat.ble (vG FZ o.op) 1||unO kd s'.m.o)) with
 |false=>rw[hb] at q2;cases q2
 |true=>
  rw[hb] at q2;simp only[ac] at q2;have hext:(pre&& !zU a0 i)=true->Ext wS w':=λhpp=>by
   rw[hpp] at hb;simp only[ba,cL,cr] at hb;simp only[aa] at hpp;rcases hb with hb|hb
   ·exact(hl.pre hpp.1).trans (q4 hb)
   ·cases hkd:kd with
    |none=>rw[hkd] at hb;cases hb
    |some p=>obtain⟨n0,k0⟩:=p;rw[hkd] at hb;exact q3.unt (hl.fr n0 k0 hkd) hb
  refine⟨λhn=>hext (hny.symm.trans hn),?_⟩;cases hkd:kd with
  |some p=>exact hk v s' w' β' wS q1 q2 q3 ⟨hl.fr,λh=>(by rw[hkd] at h;simp[Cx] at h),λh=>(by rw[hkd] at h;cases h),hext⟩
  |none=>
   have hw:=hl.no hkd;have hk':=hk v s' w' β' w' q1 q2 q3 ⟨λn k h=>(by rw[hkd] at h;cases h),λ_=>rfl,λ_=>rfl,λ_=>Ext.refl w'⟩;cases hpp:(pre&& !zU a0 i) with
   |true=>exact tY (λx hx=>(hext hpp).trans hx) _ _ _ _ hk'
   |false=>exact oZ _ _ _ _ (hny.trans hpp) hk'
variable {al:List Oper} {a0:Option Nat} {kd:Option (Nat×Nat)} {Q:Exit->Act->World->Prop} {D:Nat->Prop}
def aWd (G:Good P g Y TI FZ)(hs:Region.noSelect al.toArray=true):∀(l:List (Nat×Bool)) (pre st:Bool) (s:St U) (K:St U->Option α) (z:α),(∀i∈l,∀o,al[i.1]? =some o->∀n,Wr al o n->D n)->M5 Y TI FZ al a0 kd l none pre st s K=some z->
  (∀s' a w β,Ag D s s'->K s'=some z->bE Y.C E s' a w β->Q .normal a w)->∀listed,Dn .any al.toArray listed->Nc al.toArray a0 l listed=true->fM a0 listed=pre->∀a w β wS,Lk E kd st pre wS w->bE Y.C E s a w β->dN P .any al.toArray a0 (NoPanic Q) (Ext wS) l.length listed a w
 |[],pre,st,s,K,z,_,h,hQ,listed,_,hc,_,a,w,β,wS,_,r=>pE (P:=P) (a0:=a0) (S:=Ext wS) (Q:=NoPanic Q) (by simpa[Nc] using hc) (hQ s a w β (Ag.refl s) h r) 0
 |(i,fl)::l,pre,st,s,K,z,hD,h,hQ,listed,hdn,hc,hp,a,w,β,wS,hl,r=>by
  simp only[M5,aS] at h;cases ho:al[i]? with
  |none=>rw[ho] at h;cases h
  |some o=>
   rw[ho] at h;simp only at h;have hDi:=hD (i,fl) (by simp) o ho;have hD':∀j∈l,∀o,al[j.1]? =some o->∀n,Wr al o n->D n:=λj hj=>hD j (by simp[hj]);cases fl with
   |true=>
    simp only[Nc,aa] at hc;obtain⟨hr,hne⟩:=pG hc.1;exact stepT G hs ho hdn hc.1 h hl.st (λhn=>hl.pre (hp.symm.trans hn)) r λv s' h1 h2 h3=>
     aWd G hs l pre st s' K z hD' h2 (λs2 a2 w2 β2 g1=>hQ s2 a2 w2 β2 ((h1.mono hDi).trans g1)) _ (hdn.set hr) hc.2 ((wG hne).trans hp) _ w β wS hl h3
   |false=>
    simp only[Nc,aa,cG] at hc;simp only[ab] at h;rw[show aF3 Y TI al none s=true from rfl] at h;simp only[ac] at h;refine jT hc.1 (by simp) λi' hi'=> ?_
    simp at hi';subst hi';exact aWc G ho hc.2.1 hp h hl r λv s' w' β' wS' h1 h2 h3 h4=>
     aWd G hs l _ _ s' K z hD' h2 (λs2 a2 w2 β2 g1=>hQ s2 a2 w2 β2 ((h1.mono hDi).trans g1)) _ (hdn.set (by rw[hc.1];simp)) hc.2.2 (We hc.2.1 hp) _ w' β' wS' h4 h3
def aKn {j:Nat}{oj:Oper}(ho:al[j]? =some oj)(h:aF3 Y TI al (some j) s=true):oj.guard=none/\aO0 s oj.dst=true/\zW Y TI s oj.op=true/\aYo oj oj.dst=true:=by
 simp only[aF3,aS,ho,aa] at h;refine⟨?_,h.2.1,h.2.2.2,h.2.2.1⟩;cases hg:oj.guard with
 |none=>rfl
 |some x=>rw[hg] at h;cases h.1
def bG6 {oj:Oper}{d:Option Nat}(h:bF8 oj d=true):∀n,oj.dst=some n->d≠some n:=λn hn e=>by
 subst e;simp only[bF8,hn,aa] at h;have:=h.1;rw[show Nat.beq n n=true from dp n] at this;cases this
def bG7 {oj:Oper}{d:Option Nat}(h:bF8 oj d=true):aYo oj d=true:=by simp only[bF8,aa] at h;exact h.2
def Lk.mk1 {b:Nat}{blk:Obj}{hb:E.w0.heap.size<=b}{st pre:Bool}{wS:World}(h:Lk E kd st pre wS w):Lk (E.ahd b blk hb) kd st pre wS w:=⟨h.fr,h.st,h.no,h.pre⟩
def Lk.un1 {b:Nat}{blk:Obj}{hb:E.w0.heap.size<=b}{st pre:Bool}{wS:World}(h:Lk (E.ahd b blk hb) kd st pre wS w):Lk E kd st pre wS w:=⟨h.fr,h.st,h.no,h.pre⟩
def bG8 (G:Good P g Y TI FZ)(hs:Region.noSelect al.toArray=true)(hP:E.prm=[]){j:Nat}{oj:Oper}(hj:al[j]? =some oj)(hgj:oj.guard=none)(hja:a0≠some j){b:Nat}{blk:Obj}{hb:E.w0.heap.size<=b}:∀(l:List (Nat×Bool)) (m:Nat) (pre st:Bool) (s:St U) (K:St U->Option α) (z:α),m+1=l.length->(∀i∈l,∀o,al[i.1]? =some o->∀n,Wr al o n->D n)->M5 Y TI FZ al a0 kd l (some j) pre st s K=some z->
  (∀s' a w β,Ag D s s'->K s'=some z->bE Y.C E s' a w β->Q .normal a w)->∀listed,Dn .any al.toArray listed->aYp al.toArray a0 oj j l listed=true->fM a0 listed=pre->∀a w β wS,Lk E kd st pre wS w->Flp P a oj blk->(∀n,oj.dst=some n->a.tmps.getD n undef=mkF oj.op b)->bE Y.C (E.ahd b blk hb) s a w β->dN P .any al.toArray a0 (NoPanic Q) (Ext wS) m listed a w
 |[],m,pre,st,s,K,z,hm,_,h,hQ,listed,_,hc,_,a,w,β,wS,_,_,_,r=>by cases hc
 |(i,fl)::l,m,pre,st,s,K,z,hm,hD,h,hQ,listed,hdn,hc,hp,a,w,β,wS,hl,hF,hv,r=>by
  have hm':m=l.length:=by simpa using hm
  have hD':∀j∈l,∀o,al[j.1]? =some o->∀n,Wr al o n->D n:=λj hj=>hD j (by simp[hj]);simp only[aYp] at hc;simp only[M5,aS] at h;cases hij:Nat.beq i j with
  |true=>
   have e:=ah hij;subst e;rw[hij] at hc;simp only[ac,aa] at hc;have hfl:fl=false:=by simpa using hc.1
   subst hfl;rw[hj] at h;simp only[ab] at h;have hDi:=hD (i,false) (by simp) oj hj;cases hfa:aF3 Y TI al (some i) s with
   |false=>rw[hfa] at h;cases h
   |true=>
    rw[hfa] at h;simp only[ac] at h;obtain⟨_,_,hok,_⟩:=aKn hj hfa;have hself:zU (some i) i=true:=dp i;have hna:zU a0 i=false:=by
     cases a0 with
     |none=>rfl
     |some c=>
      cases hh:zU (some c) i with
      |false=>rfl
      |true=>exact absurd (congrArg some (ah hh)) hja
    rw[hself,hna] at h;simp only[ac,dk,fb] at h;unfold grd aOz at h;rw[hgj] at h;simp only[one] at h;obtain⟨x,s',β',k1,k2,k3,k4,k5,k6⟩:=bDq G r hP hF hok h;cases hcc:(!pre||(Nat.ble (vG FZ oj.op) 1||unO kd (EV.put s' oj.dst x).m.o)) with
    |false=>rw[hcc] at k1;cases k1
    |true=>rw[hcc] at k1;simp only[ac] at k1;have hag:Ag D s (EV.put s' oj.dst x):=Ag.put ⟨λn _=>by rw[k4],by rw[k4],k5,k6⟩ (λn e=>hDi n (.inl e));rw[hm'];exact aWd G hs l pre _ _ K z hD' k1 (λs2 a2 w2 β2 g1=>hQ s2 a2 w2 β2 (hag.trans g1)) listed hdn hc.2 hp a w β' wS ⟨hl.fr,λh=>hl.st (by simp only[aa] at h;exact h.1),hl.no,hl.pre⟩ (k2.aBQ (λ_=>k3) hv)
  |false=>
   rw[hij] at hc;simp only[ab] at hc;have hnA:zU (some j) i=false:=by
    show Nat.beq j i=false;cases hh:Nat.beq j i with
    |false=>rfl
    |true=>have:=ah hh;subst this;rw[show Nat.beq j j=true from dp j] at hij;cases hij
   cases ho:al[i]? with
   |none=>rw[ho] at h;cases h
   |some o=>
    rw[ho] at h;simp only at h;have hg:al.toArray[i]? =some o:=by simpa using ho
    rw[hg] at hc;simp only[aa] at hc;obtain⟨hoff,hc⟩:=hc;have hDi:=hD (i,fl) (by simp) o ho;have hlen:∃m',m=m'+1/\m'+1=l.length:=by
     cases l with
     |nil=>cases fl<;>(simp only[ac,ab,aYp,dl,aa] at hc;simp at hc)
     |cons x l=>exact⟨l.length,by simpa using hm',by simp⟩
    obtain⟨m',rfl,hm2⟩:=hlen;have hoffd:∀n,oj.dst=some n->∀v,(a.put o.dst v).tmps.getD n undef=mkF oj.op b:=λn hn v=>by rw[O5 (bG6 hoff n hn)];exact hv n hn
    cases fl with
    |true=>
     simp only[ac,aa] at hc;obtain⟨hr,hne⟩:=pG hc.1;exact stepT G hs ho hdn hc.1 h hl.st (λhn=>hl.pre (hp.symm.trans hn)) r λv s' h1 h2 h3=>
      bG8 G hs hP hj hgj hja l m' pre st s' K z hm2 hD' h2 (λs2 a2 w2 β2 g1=>hQ s2 a2 w2 β2 ((h1.mono hDi).trans g1)) _ (hdn.set hr) hc.2 ((wG hne).trans hp) _ w β wS hl (hF.keep (bG7 hoff)) (λn hn=>hoffd n hn v) h3
    |false=>
     simp only[ab,aa,cG] at hc;simp only[ab,hnA] at h;cases hfa:aF3 Y TI al (some j) s with
     |false=>rw[hfa] at h;cases h
     |true=>
      rw[hfa] at h;simp only[ac] at h;refine jT hc.1 (by simp) λi' hi'=> ?_;simp at hi';subst hi';exact aWc G ho hc.2.1 hp h hl.mk1 r λv s' w' β' wS' h1 h2 h3 h4=>
       bG8 G hs hP hj hgj hja l m' _ _ s' K z hm2 hD' h2 (λs2 a2 w2 β2 g1=>hQ s2 a2 w2 β2 ((h1.mono hDi).trans g1)) _ (hdn.set (by rw[hc.1];simp)) hc.2.2 (We hc.2.1 hp) _ w' β' wS' h4.un1 (hF.keep (bG7 hoff)) (λn hn=>hoffd n hn v) h3
def bG9 (G:Good P g Y TI FZ)(hs:Region.noSelect al.toArray=true)(hP:E.prm=[]){j:Nat}{oj:Oper}(hj:al[j]? =some oj)(hja:a0≠some j):∀(l:List (Nat×Bool)) (pre st:Bool) (s:St U) (K:St U->Option α) (z:α),(∀i∈l,∀o,al[i.1]? =some o->∀n,Wr al o n->D n)->M5 Y TI FZ al a0 kd l (some j) pre st s K=some z->
  (∀s' a w β,Ag D s s'->K s'=some z->bE Y.C E s' a w β->Q .normal a w)->∀listed,Dn .any al.toArray listed->bF9 al.toArray a0 oj j l listed=true->fM a0 listed=pre->∀a w β wS,Lk E kd st pre wS w->bE Y.C E s a w β->dN P .any al.toArray a0 (NoPanic Q) (Ext wS) l.length listed a w
 |[],pre,st,s,K,z,_,h,hQ,listed,_,hc,_,a,w,β,wS,_,r=>by cases hc
 |(i,fl)::l,pre,st,s,K,z,hD,h,hQ,listed,hdn,hc,hp,a,w,β,wS,hl,r=>by
  have hD':∀j∈l,∀o,al[j.1]? =some o->∀n,Wr al o n->D n:=λj hj=>hD j (by simp[hj]);have hfull:=h;simp only[bF9] at hc;simp only[M5,aS] at h;cases ho:al[i]? with
  |none=>rw[ho] at h;cases h
  |some o=>
   rw[ho] at h;simp only at h;have hDi:=hD (i,fl) (by simp) o ho;cases hij:Nat.beq i j with
   |true=>
    have e:=ah hij;subst e;rw[hij] at hc;simp only[ac,aa,cG] at hc;have hfl:fl=false:=by simpa using hc.1
    subst hfl;simp only[ab] at h;cases hfa:aF3 Y TI al (some i) s with
    |false=>rw[hfa] at h;cases h
    |true=>
     rw[hfa] at h;simp only[ac] at h;have hself:zU (some i) i=true:=dp i;rw[hself] at h;simp only[ac] at h;have ha:a0Y a0 i listed=true:=by unfold a0Y;rw[show(a0 !=some i)=true from by simpa using hja];rfl
     refine jT hc.2.1 (by simp) λi' hi'=> ?_;simp at hi';subst hi';exact aWc G ho ha hp h hl r λv s' w' β' wS' h1 h2 h3 h4=>
      aWd G hs l _ _ s' K z hD' h2 (λs2 a2 w2 β2 g1=>hQ s2 a2 w2 β2 ((h1.mono hDi).trans g1)) _ (hdn.set (by rw[hc.2.1];simp)) hc.2.2 (We ha hp) _ w' β' wS' h4 h3
   |false=>
    rw[hij] at hc;simp only[ab] at hc;have hnA:zU (some j) i=false:=by
     show Nat.beq j i=false;cases hh:Nat.beq j i with
     |false=>rfl
     |true=>have:=ah hh;subst this;rw[show Nat.beq j j=true from dp j] at hij;cases hij
    cases fl with
    |true=>
     simp only[ac,aa] at hc;obtain⟨hr,hne⟩:=pG hc.1;exact stepT G hs ho hdn hc.1 h hl.st (λhn=>hl.pre (hp.symm.trans hn)) r λv s' h1 h2 h3=>
      bG9 G hs hP hj hja l pre st s' K z hD' h2 (λs2 a2 w2 β2 g1=>hQ s2 a2 w2 β2 ((h1.mono hDi).trans g1)) _ (hdn.set hr) hc.2 ((wG hne).trans hp) _ w β wS hl h3
    |false=>
     simp only[ab,aa] at hc;simp only[ab,hnA] at h;cases hfa:aF3 Y TI al (some j) s with
     |false=>rw[hfa] at h;cases h
     |true=>
      rw[hfa] at h;simp only[ac] at h;obtain⟨hgj,hany,hok,hself⟩:=aKn hj hfa;have hgi:al.toArray[j]? =some oj:=by simpa using hj
      have inT:i∈Region.ready .any al.toArray listed->wpOp P al.toArray (NoPanic Q) i (λa' w'=>(fM a0 (listed.setIfInBounds i true)=true->Ext wS w')/\dN P .any al.toArray a0 (NoPanic Q) (Ext wS) l.length (listed.setIfInBounds i true) a' w') a w:=λhir=>
       aWc G ho hc.2.1 hp h hl r λv s' w' β' wS' h1 h2 h3 h4=>
        bG9 G hs hP hj hja l _ _ s' K z hD' h2 (λs2 a2 w2 β2 g1=>hQ s2 a2 w2 β2 ((h1.mono hDi).trans g1)) _ (hdn.set hir) hc.2.2 (We hc.2.1 hp) _ w' β' wS' h4 h3
      have early:j∈Region.ready .any al.toArray listed->aYp al.toArray a0 oj j ((i,false)::l) (listed.setIfInBounds j true)=true->wpOp P al.toArray (NoPanic Q) j (λa' w'=>(fM a0 (listed.setIfInBounds j true)=true->Ext wS w')/\dN P .any al.toArray a0 (NoPanic Q) (Ext wS) l.length (listed.setIfInBounds j true) a' w') a w:=λhjr hc1=>by
       obtain⟨blk,hF⟩:=aRd G r hok;have hny:fM a0 (listed.setIfInBounds j true)=pre:=(wG hja).trans hp;have hbw:E.w0.heap.size<=w.heap.size:=r.hp.ext.size;refine wpOp_step hgi λK' hK'=> ?_;rw[cH (by simp[Region.wanted,hgj])];refine wpo (.inl (hF w)) (hK' _ _ ⟨λhn=>(hl.pre (hny.symm.trans hn)).trans (Ext.alloc _ _),?_⟩);have r1:bE Y.C (E.ahd w.heap.size blk hbw) s (a.put oj.dst (mkF oj.op w.heap.size)) (w.alloc blk) β:=(r.ahead hbw).aBY hany;have hF':Flp P (a.put oj.dst (mkF oj.op w.heap.size)) oj blk:=hF.keep hself;have hv':∀n,oj.dst=some n->(a.put oj.dst (mkF oj.op w.heap.size)).tmps.getD n undef=mkF oj.op w.heap.size:=λn hn=>by
        rw[hn];simp only[aO0,hn,aS] at hany;have hlt:n<a.tmps.size:=by
         rw[r.tsz];cases hx:s.t[n]? with
         |none=>rw[hx] at hany;cases hany
         |some x=>exact lt_of_some hx
        simp only[Act.put];rw[wX _ _ _ _ _ hlt,cH rfl]
       have fin:=λst' wS' (hfull':M5 Y TI FZ al a0 kd ((i,false)::l) (some j) pre st' s K=some z) (hl':Lk E kd st' pre wS' (w.alloc blk))=>bG8 (D:=D) (Q:=Q) G hs hP hj hgj hja ((i,false)::l) l.length pre st' s K z (by simp) hD hfull' hQ _ (hdn.set hjr) hc1 hny _ (w.alloc blk) β wS' hl' hF' hv' r1;cases hkd:kd with
       |some p=>refine fin false wS ?_ ⟨hl.fr,λh=>(by cases h),λh=>(by rw[hkd] at h;cases h),λh=>(hl.pre h).trans (Ext.alloc _ _)⟩;have hf:=hfull;rw[hkd] at hf ⊢;simp only[M5,aS,ho,ab,Cx,dl] at hf ⊢;exact hf
       |none=>
        have hw:=hl.no hkd;have hk':=fin st (w.alloc blk) hfull ⟨λn k h=>(by rw[hkd] at h;cases h),λ_=>rfl,λ_=>rfl,λ_=>Ext.refl _⟩;cases hpp:pre with
        |true=>exact tY (λx hx=>((hl.pre hpp).trans (Ext.alloc _ _)).trans hx) _ _ _ _ hk'
        |false=>exact oZ _ _ _ _ (hny.trans hpp) hk'
      have h1:=hc.1;rw[cr,cG] at h1;rcases h1 with h1|h1
      ·refine jT h1 (by simp) λi' hi'=> ?_;simp at hi';subst hi';exact inT (by rw[h1];simp)
      ·rw[aa,cr,cG,cG] at h1;have hmem:∀x,x∈Region.ready .any al.toArray listed↔x=i\/x=j:=λx=>by
        rcases h1.1 with e|e<;>rw[e]<;>simp[or_comm]
       exact jT rfl (λe=>by have:=(hmem i).2 (.inl rfl);rw[e] at this;simp at this) λi' hi'=>by
        rcases(hmem i').1 hi' with rfl|rfl
        ·exact inT hi'
        ·exact early hi' h1.2
end
end Go.EV
namespace Go.EV
open Go.RowKit Go.VK
variable {U:Uni} {Y:Lay U} {TI:List (Nat×TInfo)} {FZ:List (Nat×Sum U)} {P:Program} {g:GI} {E:Env U g}
section
variable {s s':St U} {a:Act} {w w':World} {β β':List Tr} {α:Type}
def O6 (bs:List Nat)(Yb:Nat->Prop)(n:Nat)(s:St U)(β:List Tr):Prop:=∀(b:Nat) (e:EO U) (t:Tr) (k:Nat),s.m.o[b]? =some e->e.ob.aAX=true->β[b]? =some t->t.b=some k->(b∈bs->Yb k)/\(b∉bs->¬Yb k/\k<n)
def aF8 {bs:List Nat}{Yb:Nat->Prop}{wS:World}(r:bE Y.C E s a w β)(hI:O6 bs Yb wS.heap.size s β)(hb:Bel Yb wS w){t:Nat}{i:TInfo}(hti:tiB P t i=true){b o:Nat}{y:Sv U}{v:Value}(hm:(Lf.box b o:Lf U).mean Y.C w (E.X β) β s.m v)(h:load Y s i (.box b o)=some y)(hn:b∉bs):
  ∃p v',v= .pointer (some p)/\(∀w',Bel Yb wS w'->(loadVar t p).run P w'= .ok v' w')/\y.mean Y.C w (E.X β) β s.m v':=by
 simp only[load,aS] at h;obtain⟨_,e,tr,h1,h2,h3⟩:=hm;simp only[h1] at h;have hok:=r.hp.ok b tr e h2 h1;have hi:=hI b e tr;obtain⟨ob,rv,cv⟩:=e;cases ob with
 |box T cs us=>
  obtain⟨bb,h4,rfl⟩:=h3 rfl;obtain⟨_,b',vs,k1,k2,k3,k4⟩:=hok;rw[h4] at k1;injection k1 with k1;subst k1;obtain⟨q1,q2⟩:=(hi bb h1 rfl h2 h4).2 hn;obtain⟨v',q3,q4⟩:=aCp (S:=Bel Yb wS) (P:=P) (p:=⟨bb,o,none⟩) hti h (k4.drop o) (λw' he j u hj=>by
   rw[fG,cell_of_row w' bb (o+j) _ T (0,0) ((he.block bb q2 q1).trans ((hb.block bb q2 q1).symm.trans k3))];simpa using hj)
  exact⟨_,v',rfl,q3,q4⟩
 |_=>cases h
def O6.go {bs:List Nat}{Yb:Nat->Prop}{n:Nat}(h:O6 bs Yb n s β){m:Mm U}{N M K:Nat}(hN:N=s.m.o.length)(r:Hp Y.C E s.m β w)(hl:m.o.length=s.m.o.length)(hev:Evo w w' (E.X β) (E.X β') β β' s.m m N M K){t:List (Sv U)}{fr}:O6 bs Yb n ⟨t,m,fr⟩ β':=by
 intro b e t k h1 h2 h3 h4;have hb:b<s.m.o.length:=by rw[<-hl];exact lt_of_some h1
 have e1:s.m.o[b]? =some s.m.o[b]:=ae hb;have e2:β[b]? =some (β[b]'(by rw[r.len];exact hb)):=ae _;obtain⟨e',t',k1,k2,_,_,k5⟩:=hev.ho b _ _ (by omega) e1 e2;replace h1:m.o[b]? =some e:=h1;rw[h1] at k1;injection k1 with k1;subst k1;rw[h3] at k2;injection k2 with k2;subst k2;obtain⟨j1,j2⟩:=k5 h2;exact h b _ _ k e1 j1 e2 (by rw[<-j2];exact h4)
def bHa {i:Nat}{l:List Nat}(h:(!Gv i l)=true):i∉l:=λhi=>by rw[mI.2 hi] at h;cases h
variable {al:List Oper} {Q:Exit->Act->World->Prop} {D:Nat->Prop}
def Ho (G:Good P g Y TI FZ)(hs:Region.noSelect al.toArray=true){bs:List Nat}{Yb:Nat->Prop}{wS:World}:∀(l:List (Nat×Bool)) (s:St U) (K:St U->Option α) (z:α),(∀i∈l,∀o,al[i.1]? =some o->∀n,Wr al o n->D n)->bC7 Y TI FZ al bs l s K=some z->
  (∀s' a w β,Ag D s s'->K s'=some z->bE Y.C E s' a w β->Q .normal a w)->∀listed,Dn .any al.toArray listed->Nc al.toArray none l listed=true->∀a w β,Bel Yb wS w->O6 bs Yb wS.heap.size s β->bE Y.C E s a w β->dN P .any al.toArray none (NoPanic Q) (Bel Yb wS) l.length listed a w
 |[],s,K,z,_,h,hQ,listed,_,hc,a,w,β,_,_,r=>pE (P:=P) (a0:=none) (S:=Bel Yb wS) (Q:=NoPanic Q) (by simpa[Nc] using hc) (hQ s a w β (Ag.refl s) h r) 0
 |(i,fl)::l,s,K,z,hD,h,hQ,listed,hdn,hc,a,w,β,hb,hI,r=>by
  simp only[bC7,aS] at h;cases ho:al[i]? with
  |none=>rw[ho] at h;cases h
  |some o=>
   rw[ho] at h;simp only at h;have hDi:=hD (i,fl) (by simp) o ho;have hD':∀j∈l,∀o,al[j.1]? =some o->∀n,Wr al o n->D n:=λj hj=>hD j (by simp[hj]);have hg:al.toArray[i]? =some o:=by simpa using ho
   have put':∀{s1:St U} {x:Sv U},s1.t=s.t->s1.fr=s.fr->Am s.m s1.m->Ag (Wr al o) s (put s1 o.dst x):=λe1 e2 e3=>Ag.put ⟨λn _=>by rw[e1],by rw[e1],by rw[e2],e3⟩ (λn e=> .inl e);have invP:∀{s1:St U} {β1:List Tr} {x:Sv U},O6 bs Yb wS.heap.size s1 β1->O6 bs Yb wS.heap.size (put s1 o.dst x) β1:=λ{s1 β1 x} h b e t k h1=>h b e t k (by rw[show(put s1 o.dst x).m=s1.m by cases o.dst<;>rfl] at h1;exact h1);cases hb0:(noG o&&(bif fl then ldW bs s o.op else(stW bs s o.op||aCl o.op))) with
   |false=>rw[hb0] at h;cases h
   |true=>
    rw[hb0] at h;simp only[ac] at h;rw[aa] at hb0;have hgd:o.guard=none:=by
     have:=hb0.1;unfold noG at this;split at this
     ·assumption
     ·cases this
    have hw:Region.wanted o (yielded al.toArray a.tmps)=true:=by simp[Region.wanted,hgd]
    have hop:=hb0.2;cases fl with
    |true=>
     simp only[ac] at hop;simp only[Nc,aa] at hc;obtain⟨hr,_⟩:=pG hc.1;cases hoo:o.op with
     |load t x=>
      rw[hoo] at hop;simp only[ldW] at hop;split at hop
      ·rename_i b off hx;unfold one at h;rw[hoo] at h;replace h:(match(match iJ TI t,dV s x with
        |some i, .l p=>load Y s i p
        |_,_=>none) with
        |some y=>bC7 Y TI FZ al bs l (put s o.dst y) K
        |none=>none)=some z:=h
       rw[hx] at h;cases hf:iJ TI t with
       |none=>rw[hf] at h;cases h
       |some ti=>
        rw[hf] at h;simp only at h;cases hld:load Y s ti (.box b off) with
        |none=>rw[hld] at h;cases h
        |some y=>rw[hld] at h;simp only at h;obtain⟨p,v',q1,q2,q3⟩:=aF8 r hI hb (bT G.ti hf) (lZ r hx) hld (bHa hop);have hy:YieldsIf P al.toArray (Bel Yb wS) o v' a:= .inl ⟨hw,λw' he=>by simp[execOp,hoo,q1,Instr.loadAt,Instr.sureAddr,q2 w' he]⟩;simp only[tkY,aa] at hc;refine kK hg (Region.noSelect_spec hs) (λ_ _ _ h=>h) (by simp) (λ_ _ _=>rfl) _ listed a w (Region.free_spec hg hc.1.1.1) hdn hr hy hb ?_;have ag:=put' (s1:=s) (x:=y) rfl rfl (Am.refl _);exact Ho G hs l _ K z hD' h (λs2 a2 w2 β2 g1=>hQ s2 a2 w2 β2 ((ag.mono hDi).trans g1)) _ (hdn.set hr) hc.2 _ w β hb (invP hI) (r.put λ_=>q3)
      ·cases hop
     |_=>rw[hoo] at hop;cases hop
    |false=>
     simp only[ab] at hop;simp only[Nc,aa,cG] at hc;refine jT hc.1 (by simp) λi' hi'=> ?_
     simp at hi';subst hi';have hr:i'∈Region.ready .any al.toArray listed:=by rw[hc.1];simp
     rw[cr] at hop;rcases hop with hop|hop
     ·cases hoo:o.op with
      |store t x y=>
       rw[hoo] at hop;simp only[stW] at hop;split at hop
       ·rename_i b off hx;unfold one stp at h;rw[hoo] at h;simp only[hx] at h;split at h
        ·rename_i ti b' off' ps h1 h2 h3;cases h2;split at h
         ·rename_i T cs us rv cv h4;rw[aS] at h4;cases hbb:(Nat.beq (len ps) ti.k&&(Nat.ble (off+ti.k) (len cs)&&Cq ps)) with
          |false=>rw[hbb] at h;cases h
          |true=>rw[hbb] at h;simp only[ac] at h;simp only[aa,bK] at hbb;obtain⟨w',β',t',bb,e1,r1,hev,hbel,e2,e3⟩:=Ha G.ti r hoo h1 hx h3 h4 (ah hbb.1) (bf hbb.2.1) hbb.2.2;have hyb:Yb bb:=(hI b _ _ bb h4 rfl e2 e3).1 (mI.1 hop);have hb':Bel Yb wS w':=hb.trans ⟨hbel.os,hbel.tape,hbel.output,hbel.size,λk hk hy=>hbel.block k hk λe=>hy (by rw[e];exact hyb)⟩;have hI':=invP (x:= .l .any) (hI.go (E:=E) (Y:=Y) (t:=(trn s b (.box T (K5 cs off ps) (K5 us off (ps.map λ_=>Nat.succ s.m.k))) rv).t) (fr:=(trn s b (.box T (K5 cs off ps) (K5 us off (ps.map λ_=>Nat.succ s.m.k))) rv).fr) rfl r.hp (by simp[trn,bZ]) hev);have ag:=put' (s1:=trn s b (.box T (K5 cs off ps) (K5 us off (ps.map λ_=>Nat.succ s.m.k))) rv) (x:= .l .any) rfl rfl (Ni h4 (ah hbb.1) (bf hbb.2.1) (r.aBR h4));refine wpOp_step hg λK' hK'=> ?_;rw[cH hw];refine wpo (.inr ⟨e1,rfl⟩) (hK' _ _ ⟨λ_=>hb',?_⟩);exact Ho G hs l _ K z hD' h (λs2 a2 w2 β2 g1=>hQ s2 a2 w2 β2 ((ag.mono hDi).trans g1)) _ (hdn.set hr) hc.2.2 _ w' β' hb' hI' (r1.put λ_=>trivial)
         ·cases h
        ·rename_i h2 _;cases h2
        ·rename_i h2 _;cases h2
        ·cases h
       ·cases hop
      |_=>rw[hoo] at hop;cases hop
     ·have hc0:vG FZ o.op=0:=by cases hoo:o.op<;>rw[hoo] at hop<;>first|rfl|cases hop
      have hgr:grd Y TI FZ al o s (λs'=>bC7 Y TI FZ al bs l s' K)=some z:=by unfold grd aOz;rw[hgd];exact h
      obtain⟨v,s1,h1,h2,h3,h4⟩:=bKj G r hc0 hgr;have hI':O6 bs Yb wS.heap.size s1 β:=λb e t k k1 k2 k3 k4=>by
       have hbl:b<s.m.o.length:=by rw[<-r.hp.len];exact lt_of_some k3
       exact hI b _ t k (ae hbl) ((h4.m.o b _ _ (ae hbl) k1).2.1 k2) k3 k4
      refine wpOp_step hg λK' hK'=> ?_;rw[cH hw];rcases h1 with⟨_,h1⟩|⟨h1,_⟩
      ·refine wpo (.inl (h1 w (Ext.refl w))) (hK' _ _ ⟨λ_=>hb,?_⟩);exact Ho G hs l _ K z hD' h3 (λs2 a2 w2 β2 g1=>hQ s2 a2 w2 β2 ((h4.mono hDi).trans g1)) _ (hdn.set hr) hc.2.2 _ w β hb hI' h2
      ·rw[hw] at h1;cases h1
def Env.pinned (E:Env U g)(l:List (Sv U×Value)):Env U g:=⟨E.X0,E.Y0,E.w0,E.prm,E.fr,E.h0,E.hY,E.hXY,E.hg,l++E.pin⟩
def bE.pins {C:Cod U}(r:bE C E s a w β){ps:List (Sv U×Value)}(h:∀x∈ps,x.1.mean C w (E.X β) β s.m x.2):bE C (E.pinned ps) s a w β:=
 ⟨⟨r.hp.ext,r.hp.len,r.hp.vers,r.hp.cnt,r.hp.new,r.hp.dist,r.hp.nd,r.hp.ok,λx hx=>(bz.1 hx).elim (h x) (r.hp.pin x),r.hp.prm,r.hp.fr⟩,r.defers,r.tsz,r.tm⟩
def bE.aDF {C:Cod U}{ps:List (Sv U×Value)}(r:bE C (E.pinned ps) s a w β):bE C E s a w β:=
 ⟨⟨r.hp.ext,r.hp.len,r.hp.vers,r.hp.cnt,r.hp.new,r.hp.dist,r.hp.nd,r.hp.ok,λx hx=>r.hp.pin x (bz.2 (.inr hx)),r.hp.prm,r.hp.fr⟩,r.defers,r.tsz,r.tm⟩
def aWe {C:Cod U}{m:Mm U}(H:Hp C E m β w):∀(bs:List Nat),bxs bs m.o=true->∃ps:List (Sv U×Value),(∀x∈ps,x.1.mean C w (E.X β) β m x.2)/\∀b∈bs,∃t k,β[b]? =some t/\t.b=some k/\(Sv.l (.box b 0),Value.pointer (some ⟨k,0,none⟩))∈ps
 |[],_=>⟨[],by simp,by simp⟩
 |b::bs,h=>by
  have h':(match nth m.o b with|some ⟨.box ..,_,_⟩=>bxs bs m.o|_=>false)=true:=h;split at h'
  ·rename_i T cs us rv cv ho;rw[aS] at ho;obtain⟨t,ht⟩:=H.tr ho;obtain⟨_,k,vs,e1,e2,e3,e4⟩:=H.ok b t _ ht ho;obtain⟨ps,p1,p2⟩:=aWe H bs h';refine⟨(Sv.l (.box b 0),Value.pointer (some ⟨k,0,none⟩))::ps,λx hx=> ?_,λb' hb=> ?_⟩
   ·rcases aE.1 hx with rfl|hx
    ·exact⟨rfl,_,t,ho,ht,λ_=>⟨k,e1,rfl⟩⟩
    ·exact p1 x hx
   ·rcases aE.1 hb with rfl|hb
    ·exact⟨t,k,ht,e1,by simp⟩
    ·obtain⟨t',k',q1,q2,q3⟩:=p2 b' hb;exact⟨t',k',q1,q2,by simp[q3]⟩
  ·cases h'
def aWf {Yb:Nat->Prop}(hY:∀k,Yb k->E.X β k){t:Nat}{i:TInfo}(hti:tiB P t i=true){τ o:Nat}{zz:U.El τ}{y:Sv U}{v:Value}(hm:(Lf.ptr τ zz o:Lf U).mean Y.C w (E.X β) β s.m v)(h:load Y s i (.ptr τ zz o)=some y):
  ∃p v',v= .pointer (some p)/\(∀w',Bel Yb w w'->(loadVar t p).run P w'= .ok v' w')/\y.mean Y.C w (E.X β) β s.m v':=by
 simp only[load] at h;have hm':Rd w (E.X β) [] v (.elem ((U.enc τ zz).drop o)):=hm;cases v with
 |pointer p=>
  cases hm' with
  | @elem _ ad _ val hX hb hcell hrd=>
   have hlen:((List.range ((Y.C.cel τ zz).drop o).length).map val).length=((Y.C.cel τ zz).drop o).length:=by simp
   obtain⟨v',q1,q2⟩:=aCp (S:=Bel Yb w) (P:=P) (p:=ad) (vs:=(List.range ((Y.C.cel τ zz).drop o).length).map val) hti h (m:=s.m) (C:=Y.C) (w:=w) (X:=E.X β) (β:=β) ⟨hlen,λj u c h5 h6=>by
     have hjl:=lt_of_some h6;simp only[bh,d8 hjl,cJ,ai] at h5;subst h5;have hd:((U.enc τ zz).drop o)[j]? =some c.toV:=by rw[<-Y.C.hcel,<-fv,bh,h6];rfl
     have hr:=hrd j _ hd;have hdat:=Y.C.hdat τ zz c (dn (az h6));cases c with
     |int k n=>exact hr.aAP
     |bool b=>exact hr.aAW
     |str b=>exact hr.aAT
     |sl τ' l=>exact hr
     |_=>cases hdat⟩ (λw' he j u hj=>by
     have hjl:j<((Y.C.cel τ zz).drop o).length:=by have:=lt_of_some hj;rw[hlen] at this;exact this
     simp only[bh,d8 hjl,cJ,ai] at hj;subst hj;have hc:=hcell j (((U.enc τ zz).drop o)[j]'(by rw[<-Y.C.hcel,<-fv,bl];exact hjl)) (ae _);exact(World.cell?_of_block (a:=ad.add j) (w:=w) (w':=w') (by rw[add_block];exact he.block _ hb λhy=>hX (hY _ hy))).trans hc)
   exact⟨_,v',rfl,q1,q2⟩
 |_=>cases hm'
def Bl (P:Program){γ:Type}(x:Sem γ):Prop:=∀(w w1:World) (v:γ),x.run P w= .ok v w1->w1=w/\∀w',x.run P w'= .ok v w'
def Bl.pure {γ:Type}(c:γ):Bl P (Pure.pure c:Sem γ):=λw w1 v h=>by
 simp only[Sem.run_pure] at h ⊢;injection h with h1 h2;subst h1 h2;exact⟨rfl,λ_=>rfl⟩
def Bl.bind {γ δ:Type}{x:Sem γ}{f:γ->Sem δ}(hx:Bl P x)(hf:∀c,Bl P (f c)):Bl P (x>>=f):=λw w1 v h=>by
 rw[Sem.run_bind] at h;cases hr:x.run P w with
 |ok c w2=>rw[hr] at h;obtain⟨e,h1⟩:=hx _ _ _ hr;subst e;obtain⟨e2,h2⟩:=hf c _ _ _ h;subst e2;exact⟨rfl,λw'=>by rw[Sem.run_bind,h1 w'];exact h2 w'⟩
 |halt y w2=>rw[hr] at h;cases h
def Bl.no {γ:Type}{x:Sem γ}(hx:∀(w w1:World) (v:γ),x.run P w≠ .ok v w1):Bl P x:=λw w1 v h=>absurd h (hx w w1 v)
def Bl.ite {γ:Type}{c:Prop}[Decidable c]{x y:Sem γ}(hx:Bl P x)(hy:Bl P y):Bl P (if c then x else y):=by split<;>assumption
def Bl.und (t:TypeId):Bl P (underlying t):=λw w1 v h=>by
 unfold underlying at h ⊢;simp only[Sem.run_bind] at h ⊢;cases hu:P.underlying t with
 |none=>simp[hu] at h
 |some d=>simp[hu] at h ⊢;exact⟨h.2.symm,h.1⟩
def Bl.size (t:TypeId):Bl P (sizeOf t):=λw w1 v h=>by
 unfold sizeOf typeInfo at h ⊢;simp only[Sem.run_bind] at h ⊢;cases hu:P.info? t with
 |none=>simp[hu] at h
 |some d=>simp[hu] at h ⊢;exact⟨h.2.symm,h.1⟩
def Bl.sure (v:Value):Bl P (Instr.sureAddr v):=by
 unfold Instr.sureAddr;split
 ·exact Bl.pure _
 ·exact Bl.no λ_ _ _ h=>by simp at h
def Bl.asInt (v:Value):Bl P (asIntOf v):=by
 unfold asIntOf;split
 ·exact Bl.pure _
 ·exact Bl.no λ_ _ _ h=>by simp at h
 ·exact Bl.no λ_ _ _ h=>by simp at h
def then_ok {γ δ:Type}{x:Result γ}{f:γ->World->Result δ}{c:δ}{w1:World}(h:x.andThen f= .ok c w1):∃y w2,f y w2= .ok c w1:=by
 cases x with
 |ok y w2=>exact⟨y,w2,h⟩
 |halt y w2=>cases h
def Bl.stuck {γ:Type}(s:String):Bl P (stuck s:Sem γ):=Bl.no λ_ _ _ h=>by simp at h
def Bl.aDL {γ:Type}(u:Unsupported):Bl P (unsupported u:Sem γ):=Bl.no λ_ _ _ h=>by simp at h
def Bl.bounds {γ:Type}(k:IntKind)(x y:Int)(c:BoundsCode):Bl P (boundsPanic k x y c:Sem γ):=Bl.no λw w1 v h=>by
 unfold boundsPanic at h;dsimp only at h;split at h<;>rw[Sem.run_bind] at h<;>obtain⟨_,_,h2⟩:=then_ok h<;>simp[runtimePanic] at h2
def Bl.index (t:TypeId)(A:Option Addr)(n c:Nat)(ix:Value):Bl P (Instr.indexAt t (.slice A n c) ix):=by
 unfold Instr.indexAt;dsimp only
 repeat' first
  |with_reducible exact Bl.pure _
  |with_reducible exact Bl.bounds ..
  |with_reducible exact Bl.und _
  |with_reducible exact Bl.size _
  |with_reducible exact Bl.sure _
  |with_reducible exact Bl.asInt _
  |with_reducible exact Bl.stuck _
  |with_reducible exact Bl.aDL _
  |with_reducible refine Bl.ite ?_ ?_
  |with_reducible refine Bl.bind ?_ λ_=> ?_
  |split
def Bl.pick (o:Oper){c x y:Operand}(ho:o.op= .pick c x y)(ρ:Operand->Value):Bl P (execOp ρ o):=by
 simp only[execOp,ho];refine Bl.bind ?_ λ_=>Bl.pure _
 unfold asBool;split
 ·exact Bl.pure _
 ·exact Bl.no λ_ _ _ h=>by simp at h
def bBr {bs : List Nat} {o : Oper} (r : bE Y.C E s a w β) {b : BinOp} {t : TypeId} {x y : Operand} {u : TypeId} (hoo : o.op = .binOp b t x y u) (he : erl bs s o.op = true) {v : Value} (hv : (execOp a.eval o).run P w = .ok (.value v) w) (w' : World) : (execOp a.eval o).run P w' = .ok (.value v) w' := by
  rw [hoo] at he;simp only [erl] at he;have hxy : ∀ {k m k' n}, uA s x = .l (.int k m) -> uA s y = .l (.int k' n) -> a.eval x = .int k m /\ a.eval y = .int k' n := λ{k m k' n} hx hy =>
    ⟨(lZ r (x := x) (show dV s x = .l (.int k m) by unfold dV; rw [hx]; rfl)).1, (lZ r (x := y) (show dV s y = .l (.int k' n) by unfold dV; rw [hy]; rfl)).1⟩
  split at he <;> first
    | (rename_i k m k' n hx hy
       obtain ⟨e1, e2⟩ := hxy hx hy;by_cases hk : k = k'
       · subst hk
         simp [execOp, hoo, e1, e2, eqGuard_at_int, binOp_add, binOp_sub, binOp_lss, binOp_leq, binOp_gtr, binOp_geq, binOp_eql, binOp_neq, Op.intArith] at hv ⊢;exact hv
       · simp [execOp, hoo, e1, e2, eqGuard_at_int, binOp, hk] at hv)
    | cases he
def bDu (G:Good P g Y TI FZ){bs:List Nat}{Yb:Nat->Prop}{al:List Oper}{o:Oper}(r:bE Y.C E s a w β)(hI:O6 bs Yb w.heap.size s β)(hY:∀k,Yb k->E.X β k)(he:erl bs s o.op=true){v:Value}(hv:(execOp a.eval o).run P w= .ok (.value v) w){K:St U->Option α}{z:α}(h:one Y TI FZ o s K=some z):∀w',Bel Yb w w'->(execOp a.eval o).run P w'= .ok (.value v) w':=by
 have vof:∀{x:Sem Value} {w1:World} {u:Value},x.run P w1= .ok u w1->(do pure (Next.value (<-x)):Sem Next).run P w1= .ok (.value u) w1:=λh=>by simp[h]
 cases hoo:o.op with
 |move x=>exact λw' _=>Di (by rw[hoo];rfl) hv w'
 |assign x=>exact λw' _=>Di (by rw[hoo];rfl) hv w'
 |extract x i=>exact λw' _=>Di (by rw[hoo];rfl) hv w'
 |pick c x y=>exact λw' _=>(Bl.pick o hoo _ _ _ _ hv).2 w'
 |load t x=>
  rw[hoo] at he;simp only[erl] at he;unfold one at h;rw[hoo] at h;replace h:(match(match iJ TI t,dV s x with
   |some i, .l p=>load Y s i p
   |_,_=>none) with
   |some y=>K (put s o.dst y)
   |none=>none)=some z:=h
  have fin:∀{p:Addr} {v':Value},a.eval x= .pointer (some p)->(∀w',Bel Yb w w'->(loadVar t p).run P w'= .ok v' w')->∀w',Bel Yb w w'->(execOp a.eval o).run P w'= .ok (.value v) w':=λ{p v'} q1 q2 w' hb=>by
   have e:∀w',Bel Yb w w'->(execOp a.eval o).run P w'= .ok (.value v') w':=λw' hb=>by simp[execOp,hoo,q1,Instr.loadAt,Instr.sureAddr,q2 w' hb]
   have:=(e w (Bel.refl w)).symm.trans hv;injection this with this _;injection this with this;rw[<-this];exact e w' hb
  split at he
  ·rename_i b off hx;rw[hx] at h;cases hf:iJ TI t with
   |none=>rw[hf] at h;cases h
   |some ti=>
    rw[hf] at h;simp only at h;cases hld:load Y s ti (.box b off) with
    |none=>rw[hld] at h;cases h
    |some y=>obtain⟨p,v',q1,q2,_⟩:=aF8 r hI (Bel.refl w) (bT G.ti hf) (lZ r hx) hld (bHa he);exact fin q1 q2
  ·rename_i τ zz off hx;rw[hx] at h;cases hf:iJ TI t with
   |none=>rw[hf] at h;cases h
   |some ti=>
    rw[hf] at h;simp only at h;cases hld:load Y s ti (.ptr τ zz off) with
    |none=>rw[hld] at h;cases h
    |some y=>obtain⟨p,v',q1,q2,_⟩:=aWf hY (bT G.ti hf) (lZ r hx) hld;exact fin q1 q2
  ·cases he
 |fieldAddr t y f=>
  unfold one at h;rw[hoo] at h;replace h:(match(match iJ TI t,dV s y with
   |some ⟨.st fs,_,_⟩, .l p=>match fld fs f with
    |some (off,_,_)=>match tJ s.m off p with
     |some z=>some (.l z)
     |none=>none
    |none=>none
   |_,_=>none) with
   |some y=>K (put s o.dst y)
   |none=>none)=some z:=h
  cases hp:(match iJ TI t,dV s y with
   |some ⟨.st fs,_,_⟩, .l p=>match fld fs f with
    |some (off,_,_)=>match tJ s.m off p with
     |some z=>some (Sv.l z)
     |none=>none
    |none=>none
   |_,_=>none) with
  |none=>rw[hp] at h;cases h
  |some x0=>
   split at hp
   ·rename_i fs i z p h1 h2;split at hp
    ·rename_i off ft n h3;split at hp
     ·rename_i q h4;have hfb:=(M8 (bT G.ti h1) rfl).2.1;simp only[fld,aS] at h3;have h5:=(aJ9 hfb h3).1;rw[ca] at h5;obtain⟨v',q1,q2⟩:=N8 r h5 (lZ r h2) h4;have e:∀w':World,(execOp a.eval o).run P w'= .ok (.value v') w':=λw'=>by simp[execOp,hoo,q1]
      have:=(e w).symm.trans hv;injection this with this _;injection this with this;intro w' _;rw[<-this];exact e w'
     ·cases hp
    ·cases hp
   ·cases hp
 |indexAddr t x y=>
  rw[hoo] at he;simp only[erl] at he;split at he
  ·rename_i τ l k n hx hy;have hm:Rd w (E.X β) [] (a.eval x) (.slice (U.K τ) (l.map (U.enc τ))):=lZ r hx;cases hvx:a.eval x with
   |slice A n c=>
    have e:∀w':World,(execOp a.eval o).run P w'=(do pure (Next.value (<-Instr.indexAt t (.slice A n c) (a.eval y))):Sem Next).run P w':=λw'=>by simp only[execOp,hoo,hvx]
    rw[e] at hv;intro w' _;rw[e];exact(Bl.bind (Bl.index _ _ _ _ _) (λ_=>Bl.pure _) _ _ _ hv).2 w'
   |_=>rw[hvx] at hm;cases hm
  ·cases he
 |binOp b t x y u=>exact λw' _=>bBr r hoo he hv w'
 |_=>rw[hoo] at he;cases he
def O6.am {bs:List Nat}{Yb:Nat->Prop}{n:Nat}(h:O6 bs Yb n s β)(r:Hp Y.C E s.m β w)(ha:Am s.m s'.m):O6 bs Yb n s' β:=λb e t k k1 k2 k3 k4=>by
 have hbl:b<s.m.o.length:=by rw[<-r.len];exact lt_of_some k3
 exact h b _ t k (ae hbl) ((ha.o b _ _ (ae hbl) k1).2.1 k2) k3 k4
def bKp {bs:List Nat}{o:Op}(h:erl bs s o=true):vG FZ o=0:=by cases o<;>first|rfl|cases h
def bHb {d:Option Nat}{x:Sv U}:(EV.put s d x).m=s.m:=by cases d<;>rfl
end
end Go.EV
