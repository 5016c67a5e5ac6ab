import Derived.Test.YtodnphjgelfcaaaGreatDoorEVatoo
import Derived.Test.YtodnphjgelfcaaaGreatDoorVKatos
/- Printed by wip/tools: models, walks, proofs. -/
set_option linter.all false
namespace Go.EV
open Go.RowKit Go.VK
variable {U:Uni} {Y:Lay U} {TI:List (Nat×TInfo)} {P:Program} {g:GI} {E:Env U g}
section
variable {s:St U} {a:Act} {w:World} {β:List Tr} {α:Type}
def bGg {α β:Type}{f:α->List β}{k:Nat}(hk:∀x,(f x).length=k)(h0:0<k):∀{l:List α} {q:Nat} {c:β},(l.map f).flatten[q]? =some c->∃x,l[q/k]? =some x/\(f x)[q%k]? =some c
 |[],q,c,h=>by simp at h
 |x::l,q,c,h=>by
  simp only[bw,cT] at h;by_cases hq:q<k
  ·rw[aq (by rw[hk];exact hq)] at h;exact⟨x,by rw[Nat.div_eq_of_lt hq];rfl,by rw[jf hq];exact h⟩
  ·rw[az (by rw[hk];omega),hk] at h;obtain⟨y,h1,h2⟩:=bGg hk h0 h;have e:q=q-k+k:=by omega
   refine⟨y,?_,?_⟩
   ·rw[e,Nat.add_div_right _ h0];simpa using h1
   ·rw[e,Nat.add_mod_right];exact h2
def OwL.aDK {C:Cod U}{X:Nat->Prop}{d:Bool}:∀{vs:List Value} {xs:List (Lf U)},vs.length=xs.length->(∀(i:Nat) (v:Value) (x:Lf U),vs[i]? =some v->xs[i]? =some x->Ow C w X d v x [])->OwL C w X d vs xs []
 |[],[],_,_=> .n
 |[],_::_,h,_=>by simp at h
 |_::_,[],h,_=>by simp at h
 |v::vs,x::xs,h,h1=>by
  have:=OwL.c (h1 0 v x rfl rfl) (OwL.aDK (by simpa using h) λi v x a b=>h1 (i+1) v x (by simpa using a) (by simpa using b));simpa using this
theorem aVr:∀{l:List Kd},aN0 l=false↔∀τ,Kd.sl τ∉l
 |[]=>by simp[aN0]
 |x::l=>by
  have e:aN0 (x::l)=cond x.aCZ true (aN0 l):=rfl;rw[e];cases x with
  |sl τ=>exact⟨λh=>(by cases h),λh=>absurd cX (h τ)⟩
  |_=>simp only[Kd.aCZ,ae,bc,reduceCtorEq,false_or];exact aVr
theorem aVs (hY:LayOk Y){τ:Nat}(h:aN1 Y τ=true){z:U.El τ}{c:Lf U}(hc:c∈Y.C.cel τ z):∀τ' l,c≠ .sl τ' l:=λτ' l e=>by
 subst e;have d:aN0 (Y.kd τ)=false:=by
  grind[aN0,aN1]
 have hk:=hY.kds τ z;have:some (Kd.sl τ')∈(Y.kd τ).map some:=by rw[<-hk];exact ct.2 ⟨_,hc,rfl⟩
 grind[aVr]
def bD3 (Y:Lay U){τ:Nat}{z:U.El τ}:qC (U.enc τ z)=true:=by
 rw[<-Y.C.hcel];have:∀(cs:List (Lf U)),(∀c∈cs,c.aBA=true)->qC (cs.map Lf.toV)=true:=by intro cs;induction cs<;>grind[qC,Lf.aCP]
 exact this _ (Y.C.hdat τ z)
def aVt (hY:LayOk Y){e:Nat}(hk:0<U.K e){X Z:Nat->Prop}{d:Bool}{v:Value}{l:List (U.El e)}(h:Rd w Z [] v (.slice (U.K e) (l.map (U.enc e))))(hd:aN1 Y e=true\/(d=false/\∀b,X b->Z b)):
  ∃(A:Option Addr) (c:Nat) (news:List Value),v= .slice A l.length c/\news.length=l.length*U.K e/\(l.length=0\/∃p,A=some p/\∀j u,news[j]? =some u->w.cell? (p.add j)=some u)/\OwL Y.C w X d news (l.map (Y.C.cel e)).flatten []:=by
 obtain⟨A,c,xs,h1,h2,r,H,I,t⟩:=aVh h (λe' he=>by
  obtain⟨z,_,rfl⟩:=ct.1 he;exact bD3 Y)
 rw[bj] at h1 h2;refine⟨A,c,xs,h1,h2,r.imp (λhn=>by simpa using congrArg List.length hn) id,OwL.aDK (by rw[h2,Hr (Y.C.hlen e)]) λq u x y B=> ?_⟩;obtain⟨z,q1,q2⟩:=bGg (Y.C.hlen e) hk B;have F:(l.map (U.enc e))[q/U.K e]? =some (U.enc e z):=by simp[*]
 have hc:(U.enc e z)[q%U.K e]? =some x.toV:=by rw[<-Y.C.hcel,bn,q2];rfl
 obtain⟨u',k1,k2⟩:=t _ _ _ _ F hc;have hq:q/U.K e*U.K e+q%U.K e=q:=by simp[gR,fX]
 rw[hq,y] at k1;injection k1 with k1;subst k1;have i:=aE q2;have hdat:=Y.C.hdat e z x i;cases x with
 |int k n=>obtain⟨rfl,o,G⟩:=k2.aAR;exact .int o G
 |bool b=>obtain rfl:=k2.aAX;exact .bool
 |str b=>obtain⟨rfl,o⟩:=k2.aAV;exact .str o
 |sl τ' l'=>
  rcases hd with hd|⟨hd,hX⟩
  ·grind[absurd,aVs]
  ·exact .fz hd (Rd.conv k2 (ak _) (λb _ hb=>hX b hb) (λ_ _ _ h=>h) (λ_ _ h=>h))
 |_=>cases hdat
def bIs {i j r:Nat}(h:aJ5 i (.own j r:Lf U)=true):j≠i:=(by grind[aJ5,Nat.beq,Nat.beq_refl])
def bL3 (r:bN Y.C E s a w β){e i:Nat}(p:0<U.K e){x:Operand}{v:Lf U}{d:Bool}{l:List (U.El e)}{s1:St U}(c:fD s x= .l v)(h:apD s e v=some (i,d,l,s1)):
  ∃β1 t rv cv,bN Y.C E s1 a w β1/\s1.t=s.t/\s1.m.ns=s.m.ns/\s1.fr=s.fr/\β1[i]? =some t/\s1.m.o[i]? =some ⟨.tree e d l,rv,cv⟩/\a.eval x=t.val/\rv<=s1.m.k:=by
 have hm:=mK r c;cases v with
 |nil=>
  simp only[apD,ai,cU] at h;obtain⟨rfl,rfl,rfl,rfl⟩:=h;have y:=r.add (Ext.refl w) [((⟨.tree e true [],s.m.k,s.m.k⟩:EO U),aGh)] (by simp) (by simp[qJ]) (by simp[qJ]) (λz x c=>by
   simp at c;subst c;exact⟨p,[],World.ownsRow_nil w 0 e (U.K e), .n⟩)
  refine⟨_,aGh,s.m.k,s.m.k,y,rfl,rfl,rfl,?_,?_,?_,ak _⟩
  ·rw[dA,<-r.hp.len];simp
  ·simp[psh,dA]
  assumption
 |own j q=>
  simp only[apD,aY] at h;obtain⟨_,e',t,k1,k2,k3⟩:=hm
  grind[d0,Nat.beq,slq,Option.some.injEq,Prod.mk.injEq,nG,k2,k1,k3,Nat.eq_of_beq_eq_true]
 |_=>cases h
def bA1 (hY:LayOk Y)(r:bN Y.C E s a w β){e i:Nat}(x:0<U.K e){py:Lf U}{v:Value}{l:List (U.El e)}{ids:List Nat}{d:Bool}(hm:py.mean Y.C w (E.X β) β s.m v)(h:apS Y s.m e i py=some (l,ids,d)):
  (i::ids).Nodup/\∃(A:Option Addr) (c:Nat) (news:List Value),v= .slice A l.length c/\news.length=l.length*U.K e/\(l.length=0\/∃p,A=some p/\∀j u,news[j]? =some u->w.cell? (p.add j)=some u)/\∃B,OwL Y.C w (E.X β) d news (l.map (Y.C.cel e)).flatten B/\(∀b∈B,b∈lN β ids)/\B.Nodup:=by
 by_cases hn:py= .nil
 ·subst hn;simp only[apS,ai,cU] at h;obtain⟨rfl,rfl,rfl⟩:=h;obtain rfl:=hm;exact⟨by simp,none,0,[],rfl,by simp, .inl rfl,[], .n,by simp,gl⟩
 ·have k:(bif aN1 Y e then(match tX s.m py with
   |some (.sl τ l)=>match slq e τ l with
    |some l=>bif aJ5 i py then some (l,[],true) else none
    |none=>none
   |_=>none) else(match py with
   | .sl τ l=>match slq e τ l with
    |some l=>some (l,[],false)
    |none=>none
   | .own j r=>match nth s.m.o j with
    |some ⟨.tree τ d l,rv,_⟩=>bif Nat.beq rv r&&aJ5 i py then(match slq e τ l with
     |some l=>some (l,[j],d)
     |none=>none) else none
    |_=>none
   |_=>none))=some (l,ids,d):=by
   cases py<;>first|exact absurd rfl hn|exact h
  cases G:aN1 Y e with
  |true=>
   rw[G] at k;simp only[ac] at k;split at k
   ·rename_i τ y hr;cases hs:slq e τ y with
    |none=>simp_all
    |some l1=>
     simp only[hs] at k;cases H:aJ5 i py with
     |false=>simp_all
     |true=>
      simp only[H,ac,ai,cU] at k;obtain⟨rfl,rfl,rfl⟩:=k;obtain⟨rfl,z⟩:=nG hs;obtain rfl:=d8 z;have hrd:=(Hu r.hp hm hr (Z:=λ_=>False) (λ_ h=>h.elim) (by simp)).2;obtain⟨A,c,news,q1,q2,q3,q4⟩:=aVt (X:=E.X β) (d:=true) hY x hrd (.inl G)
      grind
   ·cases k
  |false=>
   rw[G] at k;simp only[ae] at k;cases py with
   |nil=>simp_all
   |sl τ y=>
    simp only at k;cases hs:slq e τ y with
    |none=>simp_all
    |some l1=>
     simp only[hs,ai,cU] at k;obtain⟨rfl,rfl,rfl⟩:=k;obtain⟨rfl,z⟩:=nG hs;obtain rfl:=d8 z;obtain⟨A,c,news,q1,q2,q3,q4⟩:=aVt (X:=E.X β) (d:=false) hY x (Z:=E.X β) hm (by simp)
     grind
   |own j q=>
    simp only at k;split at k
    ·rename_i τ d0 y rv cv ho;rw[aY] at ho;cases hb:(Nat.beq rv q&&aJ5 i (.own j q:Lf U)) with
     |false=>simp_all
     |true=>
      rw[hb] at k;simp only[ac] at k;simp only[aa] at hb;cases hs:slq e τ y with
      |none=>simp_all
      |some l1=>
       simp only[hs,ai,cU] at k;obtain⟨rfl,rfl,rfl⟩:=k;obtain⟨rfl,z⟩:=nG hs;obtain rfl:=d8 z;obtain⟨_,e',t,k1,k2,k3⟩:=hm;rw[ho] at k1;injection k1 with k1;subst k1;have hv:=k3 (ah hb.1);have I:=r.hp.ok j t _ k2 ho;obtain⟨_,xs,J,S⟩:=I;have T:lN β [j]=t.all:=by simp[lN,k2]
       have F:∀b∈t.bs,b∈lN β [j]:=(by grind[Tr.all]);have L:t.bs.Nodup:=(dT.1 (r.hp.nd j t k2)).2.1;refine⟨by simp;exact(bIs hb.2).symm,?_⟩;rcases fC J with⟨b1,O,V,W,b5⟩|⟨b,cur,b1,O,V,W,b5,b6,b7⟩
       ·grind[Tr.val,inl,List.eq_nil_of_length_eq_zero]
       ·exact⟨some ⟨b,0,none⟩,t.c,xs,by rw[hv];simp[Tr.val,b1,O],J.1, .inr ⟨_,rfl,λj u hu=>sH J b1 hu⟩,t.bs,S,F,L⟩
    ·cases k
   |_=>cases k
def bQc {e k n:Nat}{v:Value}{xs:List Value}{w:World}(h:w.ownsRow 0 e k v n xs)(bs:List Nat):∃t:Tr,t.val=v/\t.b=v.ownBlock/\t.bs=bs:=by
 rcases h.2 with⟨rfl,_⟩|⟨c,cap,cur,rfl,_⟩
 ·exact⟨⟨none,0,0,bs⟩,rfl,rfl,rfl⟩
 ·exact⟨⟨some c,n,cap,bs⟩,rfl,rfl,rfl⟩
def aYo (Z:sG P TI=true)(hY:LayOk Y)(r:bN Y.C E s a w β){o:Oper}{t:TypeId}{x y:Operand}{e ek eb k i:Nat}{zz:List Kz}{px py:Lf U}{d d':Bool}{l l':List (U.El e)}{s1:St U}{ids:List Nat}
  (ho:o.op= .call {callee:= .builtin .append,args:= #[x,y],argTypes:= #[t,t]}) (h1:kC TI t=some ⟨.sl e ek eb,k,zz⟩) (h2:Nat.ble eb 2048=true) (h3:Ho (U:=U) e ek e=true) (h4:fD s x= .l px) (h5:fD s y= .l py)
  (h6:apD s e px=some (i,d,l,s1)) (h7:apS Y s1.m e i py=some (l',ids,d')) (hg:aZ l l'):
  SO P Y.C E a w o (.l (.own i (Nat.succ s1.m.k))) ⟨s1.t,⟨Re (Nat.succ s1.m.k) ids (upd s1.m.o i ⟨.tree e (d&&d') (l++l'),Nat.succ s1.m.k,Nat.succ s1.m.k⟩),Nat.succ s1.m.k,s1.m.ns⟩,s1.fr⟩ false:=λK Q hK=>by
 have O:=(zP (cB Z h1) rfl).1;obtain⟨_,_,_,_,_,_,_,_,hk0⟩:=gB O;simp only[Ho,aa] at h3;have hKe:U.K e=ek:=ah h3.2;have I:0<U.K e:=by omega
 obtain⟨β1,tr,rv,cv,q,e1,e2,e3,H,e5,e6,_⟩:=bL3 r I h4 h6;have h5':fD s1 y= .l py:=by rw[<-h5];unfold fD vT;rw[e1,e2]
 obtain⟨hJ,A,c,news,q1,q2,q3,B,q4,q5,q6⟩:=bA1 hY q I (mK q h5') h7;have hok:=q.hp.ok i tr _ H e5;obtain⟨_,xs,c1,c2⟩:=hok;have hb':eb<=2048:=ba h2;unfold aZ at hg;rw[hKe] at c1 q2;obtain⟨v',w',a1,a2,z,W⟩:=aNu (P:=P) (ty:=o.type) O c1 (A:=A) (c:=c) q2 q3 q4.ones (by grind[maxLen]) (by
  calc (l.length+l'.length)*eb<=68719476736*2048:=ic hg hb'
   _=140737488355328:=by decide)
 obtain⟨t2,t3,t4,t5⟩:=bQc a2 (tr.bs++B);have htv:tr.val.ownBlock=tr.b:=by cases h:tr.b<;>simp[Tr.val,Value.ownBlock,h]
 rw[htv] at z W;rw[<-t4] at W;have hnd:=q.hp.nd i tr H;have hBd:∀b∈B,b∉tr.all:=λb hb hb'=>by
  obtain⟨j,hj,u,S,F⟩:=yP (q5 b hb);exact q.hp.dist j i u tr b (by grind[List.nodup_cons]) S H F hb'
 have T:∀b∈B,b<w.heap.size:=λb hb=>by
  obtain⟨j,hj,u,S,F⟩:=yP (q5 b hb);exact(q.hp.new j u b S F).2
 have V:∀b,(b∈tr.bs\/b∈B)->some b≠tr.b:=λb hb e=>by
  rcases hb with hb|hb
  ·have h':b∈tr.b.toList:=by simp[*]
   exact(dT.1 hnd).2.2 b h' b hb rfl
  grind[Tr.root]
 obtain⟨β',r2,r3,_⟩:=q.turn (w':=w') (J:=ids) (ob:= .tree e (d&&d') (l++l')) (rv:=s1.m.k+1) (t':=t2) e5 H hJ z.size z.os z.tape z.output
  (λb hb hn=>z.block b hb (by grind[Tr.root]))
  (λb hb=>by
   simp only[Tr.all,t5,bp,iy] at hb;rcases hb with hb|hb|hb
   ·rcases W with h|h
    ·have n:tr.b=some b:=by simp_all
     exact⟨cg (q.hp.new i tr b H (Tr.root n)).2 z.size, .inr (.inl (Tr.root n))⟩
    ·rw[h] at hb;have n:b=w.heap.size:=by grind
     refine⟨?_, .inl (by omega)⟩;have:=a2.lt b (by rw[<-t4,h,n]);exact this.2
   ·exact⟨cg (q.hp.new i tr b H (by simp[Tr.all,hb])).2 z.size, .inr (.inl (by simp[Tr.all,hb]))⟩
   ·obtain⟨j,hj,u,S,F⟩:=yP (q5 b hb);exact⟨cg (T b hb) z.size, .inr (.inr ⟨j,hj,u,S,F⟩)⟩)
  (by
   have hbs:(tr.bs++B).Nodup:=by
    grind[Tr.all,List.nodup_append,q6]
   rw[Tr.all,t5,dT];refine⟨by cases t2.b<;>simp,hbs,λb hb b' hb' e=> ?_⟩;subst e;have n:t2.b=some b:=by simp_all
   rcases W with h|h
   ·simp_all
   ·rw[h] at n;injection n with n;rcases bp.1 hb' with hb'|hb'
    ·have:=(q.hp.new i tr b H (by simp[Tr.all,hb'])).2;omega
    grind)
  (.inr rfl) (λh=>by cases h) (λβ' m' p=>by
   refine⟨I,xs++news,?_,?_⟩
   ·simp[*]
   ·rw[ey,ee,t5];have L:(d&&d')=true->d=true:=(by simp_all);have G:(d&&d')=true->d'=true:=(by simp);exact OwL.app ((c2.conv p.sz p.hX p.hc (λb hb=>z.block b (q.hp.new i tr b H (by simp[Tr.all,hb])).2 (V b (.inl hb)))).fl L)
     ((q4.conv p.sz p.hX p.hc (λb hb=>z.block b (T b hb) (V b (.inr hb)))).fl G))
 refine wpo (w':=w') (v:=v') (.inl ?_) (hK _ _ β' r2 (λ_=> ?_) (λh=>by cases h))
 ·simp_all[execOp,resolve,invoke,builtin,Sem.run_bind,Sem.run_pure,Result.andThen_ok,jh,bw,ga,q1]
 ·refine⟨⟨ak _,by rw[<-t3];rfl⟩,⟨.tree e (d&&d') (l++l'),s1.m.k+1,s1.m.k+1⟩,t2,?_,r3,λ_=>t3.symm⟩;rw[yO (cu.1 hJ).1,dK,bf (lt_of_some e5)]
def aOo {t ty e:TypeId}{i:TypeInfo}(ht:P.underlying t=some (.slice e))(hi:P.info? e=some i)(k o sLen sCap:Nat)(cur:Array Value)(hg:w.heap[k]? =some (.cells cur e (0,0)))
  (p:Addr) (m c:Nat) (news:List Value) (hl:news.length=m*i.size) (d:∀j u,news[j]? =some u->w.cell? (p.add j)=some u) (h1:∀u∈news,u.oneCell'=true)
  (h:sLen+m<=sCap) (n:o+sLen*i.size+news.length<=cur.size):
  (Builtin.append_ #[t,t] ty #[.slice (some ⟨k,o,none⟩) sLen sCap, .slice (some p) m c]).run P w=
   .ok (.slice (some ⟨k,o,none⟩) (sLen+m) sCap) (w.setRow k (cur.toList.take (o+sLen*i.size)++news++cur.toList.drop (o+sLen*i.size+news.length)).toArray):=by
 have q:=run_firstCells_some (P:=P) w i.size m p m c news hl d;have l:=run_storeCells_at P k (o+sLen*i.size) e news 0 cur w hg (by assumption) h1;simp only[dz] at l;simp[Builtin.append_,run_underlying ht,sizeOf,typeInfo,hi,Builtin.lenOf,h,q,gD,l]
def aOp {t ty e k bts:Nat}(ht:slB P t e k bts=true){u:Tr}{n q:Nat}{xs:List Value}(hown:w.ownsRow 0 e k u.val n xs)(hq:q<=n){A:Option Addr}{m c:Nat}{news:List Value}(hl:news.length=m*k)(hm0:0<m)
  (V:m=0\/∃p,A=some p/\∀j u,news[j]? =some u->w.cell? (p.add j)=some u) (h1:∀u∈news,u.oneCell'=true) (hm:n+m<=maxLen) (hb:(n+m)*bts<=140737488355328):
  ∃(v':Value) (w':World) (b' G v q':Nat) (ys:List Value),(Builtin.append_ #[t,t] ty #[aNy k u q n, .slice A m c]).run P w= .ok v' w'/\w'.ownsRow 0 e k (.slice (some ⟨b',0,none⟩) v G) v (ys++news)/\w.grownBy w' u.b/\
   v'= .slice (if G=q' then some ⟨b',0,none⟩ else some (Addr.add ⟨b',0,none⟩ (q'*k))) (v-q') (G-q')/\
   ((u.b=some b'/\q'=q/\v=n+m/\ys=xs)\/(b'=w.heap.size/\q'=0/\v=n-q+m/\ys=xs.drop (q*k))):=by
 obtain⟨W,i,z,hi,hz,H,I,J,hk0⟩:=gB ht;subst H;subst I;obtain⟨p,hA,d⟩:∃p,A=some p/\∀j u,news[j]? =some u->w.cell? (p.add j)=some u:=(by grind);subst hA;have x:=hown.1;have o:(xs.drop (q*i.size)).length=(n-q)*i.size:=by rw[cF,x,Nat.sub_mul]
 have hlen:(xs.drop (q*i.size)++news).length=(n-q+m)*i.size:=by rw[ay,o,hl,dw]
 have h63:n+m<=9223372036854775807:=by assumption
 have grown:∀(old:Nat),old<n-q+m->(w.drew.alloc (.cells ((xs.drop (q*i.size)).toArray++news.toArray++Builtin.zeroCells z.cells (grownCap w (n-q+m) old e-(n-q+m))) e)).ownsRow 0 e i.size
    (.slice (some ⟨w.heap.size,0,none⟩) (n-q+m) (grownCap w (n-q+m) old e)) (n-q+m) (xs.drop (q*i.size)++news)/\
   w.grownBy (w.drew.alloc (.cells ((xs.drop (q*i.size)).toArray++news.toArray++Builtin.zeroCells z.cells (grownCap w (n-q+m) old e-(n-q+m))) e)) u.b:=by
  intro old ho;have y:=grownCap_ge w (n-q+m) old e;have L:grownCap w (n-q+m) old e<=maxLen:=(by grind[grownCap_le_maxLen]);refine⟨⟨hlen, .inr ⟨w.heap.size,_,_,rfl,cD _,heap_alloc_new w.drew _,y,L,?_,?_⟩⟩,⟨rfl,rfl,rfl,by simp,λk hk _=>heap_alloc_old w.drew _ hk⟩⟩
  ·simp only[je,ja,size_zeroCells,J,o,hl,<-dw];simp[*]
  grind
 rcases fC hown with⟨b1,b2,b3,Z,O⟩|⟨b,cur,b1,b2,b3,Z,O,b6,b7⟩
 ·grind[Addr.add,grownCap_ge,run_append_nil,aNy]
 ·by_cases h:n+m<=u.c
  ·have S:¬u.c=q:=by omega
   have hs:aNy i.size u q n= .slice (some ⟨b,q*i.size,none⟩) (n-q) (u.c-q):=by grind[aNy,gD]
   have B:q*i.size+(n-q)*i.size=n*i.size:=by rw[<-dw];simp[*]
   have l:q*i.size+(n-q)*i.size+news.length<=cur.size:=by rw[B,hl,b6,<-dw];exact et _ h
   have hr:=aOo (P:=P) (w:=w) (ty:=ty) W hi b (q*i.size) (n-q) (u.c-q) cur O p m c news hl d h1 (by omega) l;rw[B] at hr l;refine⟨_,_,b,u.c,n+m,q,xs,by rw[hs];exact hr,⟨by rw[ay,x,hl,dw], .inr ⟨b,u.c,_,rfl,cD _,setRow_heap w b cur _ e _ O,h,Z,?_,?_⟩⟩,⟨rfl,rfl,rfl,by simp,λk _ hk=>setRow_other w b k _ (λe=>hk (by rw[b1,e]))⟩,?_, .inl ⟨b1,rfl,rfl,rfl⟩⟩
   ·grind
   ·grind[List.take_left,List.length_append,Nat.add_mul]
   simp_all[dm,gD,cy];omega
  ·have holds:∀(T:Addr),(∀j,T.add j=⟨b,q*i.size+j,none⟩)->∀j u',(xs.drop (q*i.size))[j]? =some u'->w.cell? (T.add j)=some u':=λT hp j u' hj=>by
    rw[hp];have:=sH hown b1 (i:=q*i.size+j) (by simpa using hj)
    grind[gD]
   have F:=grown (u.c-q) (by omega);have y:=grownCap_ge w (n-q+m) (u.c-q) e;have r:=growslice_fits (old:=u.c-q) (need:=n-q+m) (bytes:=i.bytes) (by omega) (bz (et _ (by omega)) hb);refine⟨.slice (some ⟨w.heap.size,0,none⟩) (n-q+m) (grownCap w (n-q+m) (u.c-q) e),_,w.heap.size,grownCap w (n-q+m) (u.c-q) e,n-q+m,0,_,?_,F.1,F.2,by rw[dm (by omega)];simp[Addr.add], .inr ⟨rfl,rfl,rfl,rfl⟩⟩;by_cases S:u.c=q
   ·grind[lt_of_some,run_append_grow,aNy]
   ·have hs:aNy i.size u q n= .slice (some ⟨b,q*i.size,none⟩) (n-q) (u.c-q):=by grind[aNy,gD]
    rw[hs];exact run_append_grow (P:=P) w t ty e i z W hi hz ⟨b,q*i.size,none⟩ (n-q) (u.c-q) _ o (by grind[gD]) p m c news hl d (by omega) (by omega) r
def aK4 (S:sG P TI=true)(hY:LayOk Y)(r:bN Y.C E s a w β){o:Oper}{t:TypeId}{x y:Operand}{e ek eb k i c:Nat}{zz:List Kz}{py:Lf U}{d':Bool}{n:Int}{l l':List (U.El e)}
  (ho:o.op= .call {callee:= .builtin .append,args:= #[x,y],argTypes:= #[t,t]}) (h1:kC TI t=some ⟨.sl e ek eb,k,zz⟩) (h2:Nat.ble eb 2048=true) (h3:Ho (U:=U) e ek e=true) (h4:fD s x= .l (.suf i c e n l)) (h5:fD s y= .l py)
  (h6:okv s.m i c=true) (h7:apS Y s.m e i py=some (l',[],d')) (hne:1<=l'.length) (hg:aZ l l'):
  SO P Y.C E a w o (.l (.bor i (Nat.succ s.m.k) e (l.drop n.toNat++l'))) ⟨s.t,⟨upd s.m.o i ⟨.dead,Nat.succ s.m.k,Nat.succ s.m.k⟩,Nat.succ s.m.k,s.m.ns⟩,s.fr⟩ false:=λK Q hK=>by
 have G:=(zP (cB S h1) rfl).1;obtain⟨_,_,_,_,_,_,_,_,hk0⟩:=gB G;simp only[Ho,aa] at h3;have q:U.K e=ek:=ah h3.2;have H:0<U.K e:=by omega
 obtain⟨hJ,A,c0,news,q1,q2,q3,B,q4,q5,q6⟩:=bA1 hY r H (mK r h5) h7;have hB:B=[]:=by
  cases B with
  |nil=>rfl
  |cons b B=>have:=q5 b (by simp);grind[lN]
 subst hB;obtain⟨_,e',tr,k1,k2,k3⟩:=mK r h4;obtain⟨e2,O,g2⟩:=sI h6;rw[k1] at O;injection O with O;subst O;obtain⟨d,a1,a2,a3,a4⟩:=k3 g2;have I:=r.hp.ok i tr _ k2 k1;rw[a1] at I;obtain⟨_,xs,c1,c2⟩:=I;have hb':eb<=2048:=ba h2;unfold aZ at hg;rw[q] at c1 q2;obtain⟨v',w',b',c',F,q',ys,p1,p2,z,p4,p5⟩:=aOp (P:=P) (ty:=o.type) G c1 a3 (A:=A) (c:=c0) q2 (by omega) q3 q4.ones (by grind[maxLen]) (by
  calc (l.length+l'.length)*eb<=68719476736*2048:=ic hg hb'
   _=140737488355328:=by decide)
 obtain⟨L,Bs,hL,T,V,W⟩:∃(L:List (U.El e)) (Bs:List Nat),OwL Y.C w (E.X β) d ys (L.map (Y.C.cel e)).flatten Bs/\F=L.length+l'.length/\(L++l').drop q'=l.drop n.toNat++l'/\List.Sublist Bs tr.bs:=by
  rcases p5 with⟨_,rfl,rfl,rfl⟩|⟨_,rfl,rfl,rfl⟩
  ·grind
  ·have hsp:(l.map (Y.C.cel e)).flatten=((l.take n.toNat).map (Y.C.cel e)).flatten++((l.drop n.toNat).map (Y.C.cel e)).flatten:=by rw[<-ee,<-ey,cL]
   rw[hsp] at c2;obtain⟨v1,v2,B1,B2,e1,e2,o1,o2⟩:=OwL.split c2;have hv1:v1.length=n.toNat*ek:=by rw[o1.len,Hr (Y.C.hlen e),cp,jl a3,q]
   grind
 have htv:tr.val.ownBlock=tr.b:=by cases h:tr.b<;>simp[Tr.val,Value.ownBlock,h]
 have hnd:=r.hp.nd i tr k2;let t2:Tr:=⟨some b',F,c',Bs⟩;have p:∀b∈Bs,b∈tr.all/\some b≠tr.b:=(by grind[Tr.all,List.nodup_append]);have hb2:(b'∈tr.all/\tr.b=some b')\/b'=w.heap.size:=by
  grind[inl,Tr.root]
 have hb'lt:b'<w'.heap.size:=(p2.lt b' rfl).2;obtain⟨β',r2,r3,j⟩:=r.turn (w':=w') (J:=[]) (ob:= .dead) (rv:=s.m.k+1) (t':=t2) k1 k2 (by simp) z.size z.os z.tape z.output
  (λb hb hn=>z.block b hb (by grind[Tr.root]))
  (λb hb=>by
   simp only[t2,Tr.all,fa,bp,cj] at hb;rcases hb with rfl|hb
   ·grind
   ·exact⟨cg (r.hp.new i tr b k2 (p b hb).1).2 z.size, .inr (.inl (p b hb).1)⟩)
  (by
   simp only[t2,Tr.all,fa,fh,cu];refine⟨λh=> ?_,W.nodup (dT.1 hnd).2.1⟩;rcases hb2 with h2|h2
   ·grind
   ·have:=(r.hp.new i tr b' k2 (p b' h).1).2;omega)
  (.inr rfl) (λh=>by cases h) (λ_ _ _=>trivial)
 have hOw:Ow Y.C w' (λb=>E.X β' b\/b∈t2.all) false t2.val (.sl e (L++l')) t2.all:=by
  have hX:∀b,b<w.heap.size->(E.X β' b\/b∈t2.all)->E.X β b:=λb hb h=>h.elim (j.hX b hb) (λh=>j.hX b hb (bP8 r3 h));refine .sl t2 H (xs:=ys++news) ?_ ?_
  ·rw[ay,q,<-T];exact p2
  ·rw[ey,ee];have:=OwL.app ((hL.conv j.sz hX j.hc (λb hb=>z.block b (r.hp.new i tr b k2 (p b hb).1).2 (p b hb).2)).soft) ((q4.conv j.sz hX j.hc (λb hb=>by simp at hb)).soft)
   grind
 have hRd:=hOw.rd (Z:=λb=>E.X β' b/\b∉t2.all) (λb hb=> .inl hb.1) (by simp_all);refine wpo (w':=w') (v:=v') (.inl ?_) (hK _ _ β' (by assumption) (λ_=> ?_) (λh=>by cases h))
 ·simp_all[execOp,resolve,invoke,builtin,Sem.run_bind,Sem.run_pure,Result.andThen_ok,jh,bw,ga,q1]
 ·refine⟨⟨ak _,by rw[p4];rfl⟩,⟨.dead,s.m.k+1,s.m.k+1⟩,t2,?_,r3,λ_=> ?_⟩
  ·simp only[dK];rw[bf (lt_of_some k1)]
  ·have hle:q'<=F:=by rcases p5 with⟨_,rfl,rfl,_⟩|⟨_,rfl,rfl,_⟩<;>omega
   have:=Rd.sub (A:=some ⟨b',0,none⟩) (n:=F) (c:=c') hRd (a:=q') (b:=F) hle (by simp[*]);have e1:((((L++l').map (U.enc e)).take F).drop q')=(l.drop n.toNat++l').map (U.enc e):=by rw[<-V,fw,eC (by simp[*])]
   simp_all
end
end Go.EV
namespace Go.EV
open Go.RowKit Go.VK
variable {U:Uni} {Y:Lay U} {TI:List (Nat×TInfo)} {P:Program} {g:GI} {E:Env U g}
def yQ:Bool×List (Lf U)->V
 |(true,cs)=> .agg (cs.map Lf.toV)
 |(false,[x])=>x.toV
 |_=> .any
def OwP (C:Cod U)(w:World)(v:Value)(B:List Nat):Bool×List (Lf U)->Prop
 |(true,cs)=>∃vs:List Value,v= .agg vs.toArray/\OwL C w (λ_=>False) true vs cs B
 |(false,cs)=>∃c,cs=[c]/\Ow C w (λ_=>False) true v c B
inductive OwPs (C:Cod U) (w:World):List Value->List (Bool×List (Lf U))->List Nat->Prop
 |n:OwPs C w [] [] []
 |c {v:Value} {x:Bool×List (Lf U)} {B B':List Nat} {vs:List Value} {xs:List (Bool×List (Lf U))} (h:OwP C w v B x) (hr:OwPs C w vs xs B'):OwPs C w (v::vs) (x::xs) (B++B')
def OwR (C:Cod U)(w:World)(v:Value)(cps:List (Bool×List (Lf U)))(B:List Nat):Prop:=
 match cps with
 |[x]=>OwP C w v B x
 |xs=>∃vs:List Value,v= .tuple vs.toArray/\OwPs C w vs xs B
def bSo (P:Program)(g:GI)(C:Cod U)(f:FuncId)(Us:List V)(cps:List (Bool×List (Lf U))):Prop:=
 (∀args w,(callFunc f args).run P w= .ok (.enter f args) w)/\
 ∀(w:World) (X:Nat->Prop) (vs:List Value),g.G w->(∀b,X b->b<w.heap.size)->RdL w X vs Us->
  Calls P f vs.toArray w λe w'=>∃v B,e= .returned v/\Ext w w'/\B.Nodup/\(∀b∈B,w.heap.size<=b)/\OwR C w' v cps B
def bW9 (P:Program)(g:GI)(C:Cod U)(f:FuncId)(b:Bool)(cs ds:List (Lf U))(u:V)(k:Int):Prop:=
 (∀args w,(callFunc f args).run P w= .ok (.enter f args) w)/\
 ∀(w:World) (v c:Value) (B:List Nat),B.Nodup->(∀w',Bel (·∈B) w w'->g.G w')->OwP C w v B (b,cs)->Rd w (λ_=>False) [] c u->
  Calls P f #[v,c] w λe w'=>e= .returned (.int .i64 k)/\(IntKind.i64.min<=k/\k<=IntKind.i64.max)/\Bel (·∈B) w w'/\∃B',B'.Nodup/\(∀x∈B',x∈B\/w.heap.size<=x)/\OwP C w' v B' (b,ds)
def bSp (P:Program)(g:GI)(f:FuncId)(T:Nat)(cs ds d:List V)(r:V):Prop:=
 (∀args w,(callFunc f args).run P w= .ok (.enter f args) w)/\
 ∀(w:World) (X:Nat->Prop) (b:Nat) (ws vs:List Value),(∀w',Bel (·=b) w w'->g.G w')->(∀x,X x->x<w.heap.size)->X b->w.heap[b]? =some (.cells ws.toArray T (0,0))->RdL w X ws cs->RdL w X vs d->
  Calls P f ((.pointer (some ⟨b,0,none⟩)::vs).toArray) w λe w'=>∃v c,e= .returned v/\Bel (·=b) w w'/\w'.heap[b]? =some (.cells c.toArray T (0,0))/\RdL w' X c ds/\Rd w' X [] v r
def Dq (P:Program)(g:GI)(Y:Lay U)(f:FuncId)(S:Sum U):Prop:=
 ∀(a:sF U S.ar) (r:sF U S.rs),S.m a=some r->
  (S.wt=false->S.fr=false->VK.Spec P g f ((dG Y S.ar a).map yQ) (λv=>v=oI ((dG Y S.rs r).map yQ)))/\(S.wt=false->S.fr=true->bSo P g Y.C f ((dG Y S.ar a).map yQ) (dG Y S.rs r))/\
  (S.wt=true->S.fr=false->∀b cs u b' ds c k,dG Y S.ar a=[(b,cs),u]->dG Y S.rs r=[(b',ds),(c,[.int .i64 k])]->bW9 P g Y.C f b cs ds (yQ u) k)/\
  (S.wt=true->S.fr=true->∀T ks cs d ds rs,S.ar= .st T::ks->dG Y S.ar a=(true,cs)::d->dG Y S.rs r=(true,ds)::rs->bSp P g f T (cs.map Lf.toV) (ds.map Lf.toV) (d.map yQ) (oI (rs.map yQ)))
section
variable {s:St U} {a:Act} {w w':World} {β:List Tr} {α:Type}
def bN.aCX {C:Cod U}(r:bN C E s a w β){c:List (Nat×Bool)}(hn:∀(a i:Nat) (f:Bool),s.m.ns[a]? =some (i,f)->∃f',c[a]? =some (i,f'))(hc:∀(a i:Nat),c[a]? =some (i,true)->(i:Int)+1<=9223372036854775807):
  bN C E ⟨s.t,⟨s.m.o,s.m.k,c⟩,s.fr⟩ a w β:=by
 obtain⟨h1,h2⟩:=r.hp.step (s':=⟨s.m.o,s.m.k,c⟩) (β':=β) (w':=w) (λ_=>False) (λ_=>False) (ak _) hn hc r.hp.len (ak _) (ak _) rfl rfl rfl (λ_ _ _=>rfl) (λ_ h=>h.elim) (by simp)
  (λj t b hj ht _=>by rcases hj with h|h;exact h.elim;have:=lt_of_some ht;rw[r.hp.len] at this;omega)
  (λi j t u b hi hj _ ht _ _=>by rcases hi with h|h;exact h.elim;have:=lt_of_some ht;rw[r.hp.len] at this;omega)
  (λj t hj ht=>by rcases hj with h|h;exact h.elim;have:=lt_of_some ht;rw[r.hp.len] at this;omega)
  (by simp_all)
  (by simp)
  (by grind)
 exact r.go h1 h2
def PO (P:Program)(C:Cod U)(E:Env U g)(a:Act)(w:World)(β:List Tr)(o:Oper)(x:Sv U)(s':St U):Prop:=
 ∃v,(∀w',Ext w w'->(execOp a.eval o).run P w'= .ok (.value v) w')/\bN C E s' a w β/\x.mean C w (E.X β) β s'.m v
def SO.aDQ {C:Cod U}{o:Oper}{x:Sv U}{s':St U}(h:PO P C E a w β o x s'):SO P C E a w o x s' true:=λK Q hK=>by
 obtain⟨v,h1,h2,c⟩:=h
 grind[wpo,inl,Ext.refl]
theorem bIt (r:bN Y.C E s a w β){o:Oper}{t u:TypeId}{x:Operand}{n:Int}{c i:Nat}(ho:o.op= .binOp .add t x (.const (.int .i64 n)) u)(hn:n=1)(q:vT s x= .l (.nat c))(hc:s.m.ns[c]? =some (i,true)):
  PO P Y.C E a w β o (.l (.nat (len s.m.ns))) ⟨s.t,⟨s.m.o,s.m.k,s.m.ns++[(Nat.succ i,false)]⟩,s.fr⟩:=by
 subst hn;have y:=r.hp.cnt c i hc;have hm:=kF r (x:=x);rw[q] at hm;obtain⟨B,f,k1,k2,k3⟩:=hm;rw[hc] at k1;injection k1 with k1;injection k1 with k1 _;subst k1;have z:bN Y.C E ⟨s.t,⟨s.m.o,s.m.k,s.m.ns++[(Nat.succ i,false)]⟩,s.fr⟩ a w β:=r.aCX (by grind[List.getElem?_append_left,lt_of_some]) (λp j h=>by
  by_cases hl:p<s.m.ns.length
  ·rw[aq hl] at h;exact r.hp.cnt p j h
  grind)
 have A:IntKind.i64.wrap ((i:Int)+1)=((Nat.succ i:Nat):Int):=by rw[IntKind.wrap_i64];omega
 have d:fD s x= .l (.int .i64 (i:Int)):=by grind[rsv,aY,fD]
 have e:fD s (.const (.int .i64 (1:Int)))= .l (.int .i64 (1:Int)):=rfl;obtain⟨v,h1,h2⟩:=mP (P:=P) r (λ_=>add (t:=t) (u:=u) (eH d) (eH e)) o ho;have hv:v= .int .i64 ((Nat.succ i:Nat):Int):=by rw[<-A];exact h2.1
 exact⟨v,h1,z,Nat.succ i,false,by rw[dA];simp,hv,by omega⟩
def Xn {kd:Kd}{x:Lf U}{v:kd.ty U}(h:aNz kd x=some v):x=bUh kd v:=by
 cases kd with
 |int k=>
  cases x with
  |int d n=>
   have c:(if d=k then some n else none)=some (show Int from v):=h;split at c
   ·rename_i e;subst e;have:=aj c;subst this;rfl
   ·cases c
  |_=>cases h
 |bool=>
  cases x with
  |bool b=>have c:some b=some (show Bool from v):=h;have:=aj c;subst this;rfl
  |_=>cases h
 |str=>
  cases x with
  |str b=>have c:some b=some (show ByteArray from v):=h;have:=aj c;subst this;rfl
  |_=>cases h
 |sl τ=>
  cases x with
  |sl τ' l=>exact bP7 (by assumption)
  |_=>cases h
 |st T=>cases x<;>cases h
def lfs:(ks:List Kd)->sF U ks->List (Lf U)
 |[],_=>[]
 |[k],x=>[bUh k x]
 |k::c::ks,x=>bUh k x.1::lfs (c::ks) x.2
def apC {β:Type}:(ks:List Kd)->Cur U β ks->sF U ks->β
 |[],f,_=>f
 |[_],f,x=>f x
 |_::c::ks,f,x=>apC (c::ks) (f x.1) x.2
def bGh {β:Type}:∀{ks:List Kd} {f:Cur U β ks} {cs:List (Lf U)} {x:β},nE ks f cs=some x->∃t:sF U ks,cs=lfs ks t/\x=apC ks f t
 |[],f,[],x,h=>⟨(),rfl,(aj h).symm⟩
 |[],f,_::_,x,h=>by cases h
 |k::ks,f,[],x,h=>by cases h
 |[k],f,[c],x,h=>by
  cases hc:aNz k c with
  |none=>simp[nE,hc] at h
  |some a=>simp only[nE,hc] at h;exact⟨a,by rw[Xn hc];rfl,(aj h).symm⟩
 |[k],f,c::_::_,x,h=>by
  cases hc:aNz k c with
  |none=>simp[nE,hc] at h
  |some a=>simp[nE,hc] at h
 |k::d::ks,f,c::cs,x,h=>by
  cases hc:aNz k c with
  |none=>simp[nE,hc] at h
  |some a=>
   have e:nE (d::ks) (f a) cs=some x:=by rw[<-h];conv=>rhs;unfold nE;rw[hc]
   obtain⟨t,rfl,rfl⟩:=bGh e;exact⟨(a,t),by rw[Xn hc];rfl,rfl⟩
def bA2 {f:FuncId}{fn:Func}{c:Code}(hf:P.funcs[f]? =some fn)(hb:fn.body=some c)(hn:(fn.name== "runtime.NumGoroutine")=false)(args:Array Value)(w:World):(callFunc f args).run P w= .ok (.enter f args) w:=by simp_all[callFunc]
def aVu {C:Cod U}(H:Hp C E s.m β w){v:Value}{x y:Lf U}{kd:Kd}(hm:x.mean C w (E.X β) β s.m v)(h:rdn s.m kd x=some y){Z:Nat->Prop}(e:∀b,Z b->E.X β b)(d:Fz β Z x):
  y.aBA=true/\Rd w Z [] v y.toV:=by
 by_cases c:x= .nil
 ·subst c;obtain rfl:=hm;cases kd with
  |sl τ=>simp only[rdn,ai] at h;subst h;exact⟨rfl, .slice0 (cD _)⟩
  |_=>cases h
 ·have i:tX s.m x=some y:=by cases x<;>first|exact absurd rfl c|exact h
  grind[aVm]
def bA3 {m:Mm U}{kd:Kd}{ks:List Kd}{x:Lf U}{xs ys:List (Lf U)}(h:rds m (kd::ks) (x::xs)=some ys):∃y c,rdn m kd x=some y/\rds m ks xs=some c/\ys=y::c:=by
 grind[rdn,rds,Option.some.inj]
def bL5 {Z:Nat->Prop}:∀{xs:List (Lf U)},(Lc xs=true\/∀(i:Nat) (t:Tr) (b:Nat),β[i]? =some t->b∈t.all->¬Z b)->∀x∈xs,Fz β Z x
 |[],_,x,c=>by simp at c
 |y::ys,h,x,c=>by
  rcases bc.1 c with rfl|c
  ·exact Fz.of (h.imp (λh=>by simp only[Lc,aa] at h;exact h.1) id)
  ·exact bL5 (h.imp (λh=>by simp only[Lc,aa] at h;exact h.2) id) x c
def aK5:Sv U->List (Lf U)
 | .l x=>[x]
 | .a cs=>cs
 | .t _=>[]
def bL6 {Z:Nat->Prop}{x:Sv U}(h:aN2 x=true\/∀(i:Nat) (t:Tr) (b:Nat),β[i]? =some t->b∈t.all->¬Z b):∀c∈aK5 x,Fz β Z c:=by
 cases x with
 |l x=>intro c hc;simp only[aK5,cj] at hc;subst hc;exact Fz.of h
 |a cs=>exact bL5 h
 |t xs=>simp[aK5]
theorem bGi {Z:Nat->Prop}:∀{xs:List (Sv U)},(nQ xs=true\/∀(i:Nat) (t:Tr) (b:Nat),β[i]? =some t->b∈t.all->¬Z b)->∀x∈xs,∀c∈aK5 x,Fz β Z c
 |[],_,x,d=>by simp at d
 |y::ys,h,x,d=>by
  rcases bc.1 d with rfl|d
  ·exact bL6 (h.imp (λh=>by simp only[nQ,aa] at h;exact h.1) id)
  ·exact bGi (h.imp (λh=>by simp only[nQ,aa] at h;exact h.2) id) x d
def bIu {C:Cod U}(H:Hp C E s.m β w){Z:Nat->Prop}(j:∀b,Z b->E.X β b)(ks:List Kd):∀{xs ys:List (Lf U)} {vs:List Value},rds s.m ks xs=some ys->Ms C w (E.X β) β s.m vs xs->(∀x∈xs,Fz β Z x)->
  vs.length=ys.length/\∀(i:Nat) (v:Value) (y:Lf U),vs[i]? =some v->ys[i]? =some y->Rd w Z [] v y.toV:=by
 induction ks with
 |nil=>
  intro xs ys vs h d _;cases xs with
  |nil=>have e:ys=[]:=(aj h).symm;have:vs=[]:=cm d.1;simp[*]
  |cons x xs=>cases h
 |cons kd ks k=>
  intro xs ys vs h d l;cases xs with
  |nil=>cases h
  |cons x xs=>
   obtain⟨y,n,h1,h2,rfl⟩:=bA3 h;cases vs with
   |nil=>have:=d.1;grind
   |cons v vs=>
    have k1:=(aVu H (d.2 0 v x rfl rfl) h1 j (l x (by simp))).2;have k2:=k h2 ⟨by have:=d.1;simpa using this,λi u c p q=>d.2 (i+1) u c (by simpa using p) (by simpa using q)⟩ (by simp_all)
    grind
def K7 (r:bN Y.C E s a w β){kd:Kd}{x:Sv U}{v:Value}{z:kd.ty U}{Z:Nat->Prop}(hm:x.mean Y.C w (E.X β) β s.m v)(h:Yf Y s.m kd x=some z)(e:∀b,Z b->E.X β b)(j:∀c∈aK5 x,Fz β Z c):
  Rd w Z [] v (yQ (aBh Y kd z)):=by
 have leaf:∀{y:Lf U},x= .l y->(∀T,kd≠ .st T)->(match rdn s.m kd y with|some q=>aNz kd q|none=>none)=some z->Rd w Z [] v (yQ (aBh Y kd z)):=λ{y} n o h0=>by
  subst n;cases hr:rdn s.m kd y with
  |none=>simp_all
  |some q=>
   rw[hr] at h0;have hq:=Xn (by assumption);have:=(aVu r.hp hm hr e (j y (by simp[aK5]))).2;rw[hq] at this;cases kd with
   |st T=>simp_all
   |_=>exact this
 cases kd with
 |st T=>
  cases x with
  |a cs=>
   have d:(match rds s.m (Y.kd T) cs with|some ds=>Y.C.bld T ds|none=>none)=some z:=h;cases hr:rds s.m (Y.kd T) cs with
   |none=>simp_all
   |some ds=>
    rw[hr] at d;obtain⟨vs,rfl,A⟩:=hm;have hrd:=bIu r.hp e _ hr A j;rw[Y.C.hmk T ds z d] at hrd;simp only[aBh,yQ];refine .agg (by grind) (λi u c p q=> ?_)
    grind
  |l y=>
   have d:(match rdn s.m (.st T) y with|some q=>aNz (.st T) q|none=>none)=some z:=h;cases hr:rdn s.m (.st T) y with
   |none=>simp_all
   |some q=>rw[hr] at d;cases q<;>cases d
  |t xs=>cases h
 |int k=>cases x with
  |l y=>exact leaf rfl (by simp) h
  |_=>cases h
 |bool=>cases x with
  |l y=>exact leaf rfl (by simp) h
  |_=>cases h
 |str=>cases x with
  |l y=>exact leaf rfl (by simp) h
  |_=>cases h
 |sl τ=>cases x with
  |l y=>exact leaf rfl (by simp) h
  |_=>cases h
def bIv (r:bN Y.C E s a w β){kd:Kd}{x:Sv U}{v:Value}{z:kd.ty U}{Z:Nat->Prop}(hm:x.mean Y.C w (E.X β) β s.m v)(h:Yf Y s.m kd x=some z)(c:∀b,Z b->E.X β b)(d:aN2 x=true\/∀(i:Nat) (t:Tr) (b:Nat),β[i]? =some t->b∈t.all->¬Z b):
  Rd w Z [] v (yQ (aBh Y kd z)):=K7 r hm h c (bL6 d)
theorem Rl (r:bN Y.C E s a w β){Z:Nat->Prop}(l:∀b,Z b->E.X β b)(ks:List Kd):∀{xs:List (Sv U)} {vs:List Value} {z:sF U ks},nV Y s.m ks xs=some z->vs.length=xs.length->(∀(i:Nat) (v:Value) (x:Sv U),vs[i]? =some v->xs[i]? =some x->x.mean Y.C w (E.X β) β s.m v)->
  (∀x∈xs,∀c∈aK5 x,Fz β Z c)->RdL w Z vs ((dG Y ks z).map yQ):=by
 induction ks with
 |nil=>
  intro xs vs z h hl _ _;cases xs with
  |nil=>have:vs=[]:=cm hl;subst this;exact⟨rfl,by simp⟩
  |cons x xs=>cases h
 |cons k ks o=>
  intro xs vs z h hl hm d;cases xs with
  |nil=>cases ks<;>cases h
  |cons x xs=>
   cases vs with
   |nil=>simp at hl
   |cons v vs=>
    cases ks with
    |nil=>
     cases xs with
     |cons y ys=>cases h
     |nil=>
      have e:vs=[]:=(by grind);subst e;have k1:=K7 r (hm 0 v x rfl rfl) (by assumption) l (d x (by simp));refine⟨rfl,λi u W p q=> ?_⟩
      grind[dG,k1]
    |cons j ks=>
     have n:(match Yf Y s.m k x with
      |some a=>match nV Y s.m (j::ks) xs with
       |some b=>some ((a,b):sF U (k::j::ks))
       |none=>none
      |none=>none)=some z:=h
     cases h1:Yf Y s.m k x with
     |none=>simp_all
     |some A=>
      cases h2:nV Y s.m (j::ks) xs with
      |none=>simp_all
      |some z2=>
       rw[h1,h2] at n;have e:=(aj n).symm;subst e;have k1:=K7 r (hm 0 v x rfl rfl) h1 l (d x (by simp));have k2:=o h2 (by simpa using hl) (λi v x p q=>hm (i+1) v x (by assumption) (by assumption)) (λy t=>d y (by simp[t]));refine⟨by simp[dG,k2.1],λi u W p q=> ?_⟩;cases i with
       |zero=>grind[k1,dG]
       |succ i=>exact k2.2 i u W (by assumption) (by assumption)
def Lj (r:bN Y.C E s a w β){Z:Nat->Prop}(c:∀b,Z b->E.X β b)(ks:List Kd):∀{xs:List (Sv U)} {vs:List Value} {z:sF U ks},nV Y s.m ks xs=some z->vs.length=xs.length->(∀(i:Nat) (v:Value) (x:Sv U),vs[i]? =some v->xs[i]? =some x->x.mean Y.C w (E.X β) β s.m v)->
  (nQ xs=true\/∀(i:Nat) (t:Tr) (b:Nat),β[i]? =some t->b∈t.all->¬Z b)->RdL w Z vs ((dG Y ks z).map yQ):=(by grind[Rl,bGi])
end
end Go.EV
namespace Go.EV
open Go.RowKit Go.VK
variable {U:Uni} {Y:Lay U} {TI:List (Nat×TInfo)} {P:Program} {g:GI} {E:Env U g}
section
variable {s:St U} {a:Act} {w w':World} {β:List Tr} {α:Type} {C:Cod U}
mutual
def Ow.aCV {X X':Nat->Prop}{d:Bool}(hd:d=true):∀{v:Value} {x:Lf U} {B:List Nat},Ow C w X d v x B->Ow C w X' d v x B
 |_,_,_, .int h1 h2=> .int h1 h2
 |_,_,_, .bool=> .bool
 |_,_,_, .str h=> .str h
 |_,_,_, .fz h0 _=>by rw[hd] at h0;cases h0
 |_,_,_, .su h0 .. =>by rw[hd] at h0;cases h0
 |_,_,_, .sl t hk hown hc=> .sl t hk hown (OwL.aCV hd hc)
def OwL.aCV {X X':Nat->Prop}{d:Bool}(hd:d=true):∀{vs:List Value} {xs:List (Lf U)} {B:List Nat},OwL C w X d vs xs B->OwL C w X' d vs xs B
 |_,_,_, .n=> .n
 |_,_,_, .c h hr=> .c (Ow.aCV hd h) (OwL.aCV hd hr)
end
def Hw {X Z:Nat->Prop}{m:Mm U}{v:Value}{c:Lf U}(hc:c.aBA=true)(h:Rd w Z [] v c.toV)(hX:(∀b,X b->Z b)\/∀τ l,c≠ .sl τ l):c.mean C w X β m v:=by
 cases c with
 |int k n=>exact h.aAR
 |bool b=>exact h.aAX
 |str b=>exact h.aAV
 |sl τ l=>
  rcases hX with hX|hX
  ·exact Rd.conv h (ak _) (λb _ hb=>hX b hb) (λ_ _ _ h=>h) (λ_ _ h=>h)
  grind
 |_=>cases hc
def bIw (x:Bool×List (Lf U)):Prop:=(∀c∈x.2,c.aBA=true)/\(x.1=false->∃c,x.2=[c])
def aBu {X Z:Nat->Prop}{m:Mm U}{v:Value}{x:Bool×List (Lf U)}(d:bIw x)(h:Rd w Z [] v (yQ x))(hX:(∀b,X b->Z b)\/∀c∈x.2,∀τ l,c≠ .sl τ l):Mp C w X β m v x:=by
 obtain⟨b,cs⟩:=x;cases b with
 |false=>obtain⟨c,rfl⟩:=d.2 rfl;exact⟨c,rfl,Hw (d.1 c (by simp)) h (hX.imp id λh=>h c (by simp))⟩
 |true=>obtain⟨vs,rfl,h2,e⟩:=Rd.aBB (by assumption);refine⟨vs.toList,by simp,by simpa using h2,λi u c p q=> ?_⟩;exact Hw (d.1 c (aE q)) (e i u _ (by grind) (by simp[*])) (by grind)
theorem bGj {k:Kd}{x:k.ty U}:bIw (aBh Y k x):=by
 cases k with
 |st T=>exact⟨Y.C.hdat T x,λh=>by cases h⟩
 |_=>exact⟨λc hc=>by simp only[aBh,cj] at hc;subst hc;rfl,λ_=>⟨_,rfl⟩⟩
theorem Hy (ks:List Kd):∀(z:sF U ks),∀x∈dG Y ks z,bIw x:=by
 induction ks with
 |nil=>simp[dG]
 |cons k ks c=>intro z x d;cases ks<;>grind[dG,List.mem_singleton,bGj]
theorem bL7 (hY:LayOk Y){k:Kd}(h:flatK Y k=true){x:k.ty U}:∀c∈(aBh Y k x).2,∀τ l,c≠ .sl τ l:=by
 cases k with
 |st T=>exact λc hc=>aVs hY h hc
 |sl τ=>cases h
 |_=>simp[aBh,cj]
def bA4 {k:Kd}{ks:List Kd}(h:Gt Y (k::ks)=true):flatK Y k=true/\Gt Y ks=true:=by
 grind[flatK,Gt]
def bD4 (hY:LayOk Y)(ks:List Kd):∀(z:sF U ks),Gt Y ks=true->∀x∈dG Y ks z,∀c∈x.2,∀τ l,c≠ .sl τ l:=by
 induction ks with
 |nil=>simp[dG]
 |cons k ks d=>intro z h x e;obtain⟨h1,h2⟩:=bA4 h;cases ks<;>grind[dG,List.mem_singleton,bL7]
theorem bA5 {X Z:Nat->Prop}{m:Mm U}{v:Value}{cps:List (Bool×List (Lf U))}(hc:∀x∈cps,bIw x)(h:Rd w Z [] v (oI (cps.map yQ)))(hX:(∀b,X b->Z b)\/∀x∈cps,∀c∈x.2,∀τ l,c≠ .sl τ l):(xJ cps).mean C w X β m v:=by
 have many:(∀x,cps≠[x])->(Sv.t cps:Sv U).mean C w X β m v:=λhn=>by
  have e:oI (cps.map yQ)= .tup (cps.map yQ):=by
   match cps,hn with
   |[],_=>rfl
   |[x],hn=>exact absurd rfl (hn x)
   |_::_::_,_=>rfl
  rw[e] at h;obtain⟨vs,rfl,h2,d⟩:=h.aCL;refine⟨vs.toList,by simp,by simpa using h2,λi u x p q=> ?_⟩;have hm:=aE q;exact aBu (hc x hm) (d i u _ (by simpa using p) (by rw[bn,q];rfl)) (hX.imp id λh=>h x hm)
 match cps,many,hc,h,hX with
 |[],many,_,_,_=>exact many (by simp)
 |[x],_,hc,h,hX=>exact uY (aBu (hc x (by simp)) h (hX.imp id λh=>h x (by simp)))
 |_::_::_,many,_,_,_=>exact many (by simp)
def aM6 (r:bN C E s a w β):∀(i:Nat) (t:Tr) (b:Nat),β[i]? =some t->b∈t.all->¬E.X0 b:=λi t b ht hb c=>by
 rcases(r.hp.new i t b ht hb).1 with h|h
 ·rcases E.h0 b c with d|⟨x,d,rfl⟩
  ·omega
  ·exact(r.hp.prm x d).2.2.2 i t ht hb
 ·exact E.hXY b c h
theorem Hz {c:Array Operand}:∀(i:Nat) (v:Value) (x:Sv U),(c.toList.map a.eval)[i]? =some v->(c.toList.map (fD s))[i]? =some x->∃y,v=a.eval y/\x=fD s y:=(by grind)
def zS {f:FuncId}{c:Array Operand}{ats:Array TypeId}{o:Oper}(ho:o.op= .call {callee:= .value (.func f),args:=c,argTypes:=ats})(h:∀args w,(callFunc f args).run P w= .ok (.enter f args) w):(execOp a.eval o).run P w= .ok (.enter f (c.toList.map a.eval).toArray) w:=
 aVg (xs:=c.toList) (by rw[ho]) h
def Nk (hY:LayOk Y)(r:bN Y.C E s a w β){o:Oper}{f:FuncId}{d:Array Operand}{ats:Array TypeId}{S:Sum U}{z:sF U S.ar}{q:sF U S.rs}(ho:o.op= .call {callee:= .value (.func f),args:=d,argTypes:=ats})
  (n:Dq P g Y f S) (A:nV Y s.m S.ar (d.toList.map (fD s))=some z) (hmk:S.wt=false) (j:S.fr=false) (c:Gt Y S.rs=true\/nQ (d.toList.map (fD s))=true) (hq:S.m z=some q):
  SO P Y.C E a w o (xJ (dG Y S.rs q)) s true:=λK Q hK=>by
 have hsp:=(n z q hq).1 hmk j;have hm:∀(i:Nat) (v:Value) (x:Sv U),(d.toList.map a.eval)[i]? =some v->(d.toList.map (fD s))[i]? =some x->x.mean Y.C w (E.X β) β s.m v:=λi v x p q=>by
  obtain⟨y,rfl,rfl⟩:=Hz i v x p q;exact zQ r
 have go:∀(Z:Nat->Prop),(∀b,Z b->E.X β b)->(nQ (d.toList.map (fD s))=true\/∀(i:Nat) (t:Tr) (b:Nat),β[i]? =some t->b∈t.all->¬Z b)->((∀b,E.X β b->Z b)\/Gt Y S.rs=true)->o.wp P a w K Q:=λZ k B hX=>by
  have hrd:=Lj r k _ A (by simp) hm B;refine wpc (zS ho hsp.1) (R':=λv w'=>Rd w' Z [] v (oI ((dG Y S.rs q).map yQ))/\Ext w w') ((hsp.2 w Z _ r.hp.gw (λb hb=>r.hp.aCF b (k b hb)) hrd).mono ?_) ?_
  ·rintro e w' ⟨v,r',F,rfl,G,H⟩;exact⟨v,F,G,H⟩
  ·rintro v w' ⟨I,l⟩;exact hK v w' β (r.ext l) (λ_=>bA5 (Hy _ q) I (hX.imp id λh=>bD4 hY _ q h)) (λ_=>l)
 rcases c with c|c
 ·exact go E.X0 (λb hb=> .inl hb) (.inr (aM6 r)) (.inr c)
 ·exact go (E.X β) (λ_ h=>h) (.inl c) (.inl λ_ h=>h)
def aVv {Z X:Nat->Prop}{m:Mm U}{i:Nat}{e:EO U}{t:Tr}(he:m.o[i]? =some e)(ht:β[i]? =some t)(hk:e.cv<=m.k)(r:∀b,X b/\b∉t.all->Z b){vs:List Value}:
  ∀{cs:List (Lf U)},(∀c∈cs,c.aBA=true)->vs.length=cs.length->(∀(j:Nat) (v:Value) (c:Lf U),vs[j]? =some v->cs[j]? =some c->Rd w Z [] v c.toV)->Ms C w X β m vs (aTl i e.cv cs):=by
 induction vs with
 |nil=>
  intro cs _ hl _;cases cs with
  |nil=>exact⟨rfl,λj v c h=>by simp at h⟩
  |cons c cs=>simp at hl
 |cons v vs d=>
  intro cs hd hl h;cases cs with
  |nil=>simp at hl
  |cons c cs=>
   have d:=d (cs:=cs) (λx y=>hd x (by simp[y])) (by simpa using hl) (λj v c p q=>h (j+1) v c (by simpa using p) (by simpa using q));have h0:=h 0 v c rfl rfl;have hc:∃n,aTl i e.cv (c::cs)=n::aTl i e.cv cs/\n.mean C w X β m v:=by
    by_cases hs:∃τ l,c= .sl τ l
    ·obtain⟨τ,l,rfl⟩:=hs;exact⟨.bor i e.cv τ l,rfl,⟨hk,h0.one rfl⟩,e,t,he,ht,λ_=>h0.conv (ak _) (λb _ hb=>r b hb) (λ_ _ _ hc=>hc) (λ_ _ h=>h)⟩
    ·refine⟨c,?_,Hw (hd c (by simp)) h0 (.inr λτ l e=>hs ⟨τ,l,e⟩)⟩;cases c<;>first|rfl|exact absurd ⟨_,_,rfl⟩ hs
   obtain⟨n,z,A⟩:=hc;rw[z];exact⟨by simp[d.1],λj u x p q=>by
    cases j with
    |zero=>simp at p q;subst p;subst q;exact A
    |succ j=>exact d.2 j u x (by simpa using p) (by simpa using q)⟩
def aVw {i c:Nat}:∀{cps:List (Bool×List (Lf U))} {j:Nat},(Ni i c cps)[j]? =(cps[j]?).map λx=>(x.1,aTl i c x.2)
 |[],j=>by simp[Ni]
 |(b,cs)::xs,0=>by simp[Ni]
 |(b,cs)::xs,j+1=>by simp[Ni,aVw (cps:=xs)]
def aVx {i c:Nat}:∀{cps:List (Bool×List (Lf U))},(Ni i c cps).length=cps.length
 |[]=>rfl
 |(b,cs)::xs=>by simp[Ni,aVx (cps:=xs)]
def bL8 {i c:Nat}(x:Lf U):∃y,aTl i c [x]=[y]:=by cases x<;>exact⟨_,rfl⟩
def bQd {X Z:Nat->Prop}{m:Mm U}{i:Nat}{e:EO U}{t:Tr}{v:Value}{cps:List (Bool×List (Lf U))}(he:m.o[i]? =some e)(ht:β[i]? =some t)(hk:e.cv<=m.k)(B:∀b,X b/\b∉t.all->Z b)(hc:∀x∈cps,bIw x)(h:Rd w Z [] v (oI (cps.map yQ))):
  (xJ (Ni i e.cv cps)).mean C w X β m v:=by
 have one:∀{x:Bool×List (Lf U)} {v:Value},bIw x->Rd w Z [] v (yQ x)->Mp C w X β m v (x.1,aTl i e.cv x.2):=λ{x v} l h=>by
  obtain⟨b,cs⟩:=x;cases b with
  |false=>
   obtain⟨c,rfl⟩:=l.2 rfl;have:=aVv (C:=C) (vs:=[v]) he ht hk B (cs:=[c]) (λx n=>l.1 x n) rfl (λj v' z p q=>by
    cases j with
    |zero=>simp at p q;subst p;subst q;exact h
    |succ j=>simp at p)
   obtain⟨y,d⟩:=bL8 (i:=i) (c:=e.cv) c;show ∃z,aTl i e.cv [c]=[z]/\z.mean C w X β m v;rw[d] at this ⊢;exact⟨y,rfl,this.2 0 v y rfl rfl⟩
  |true=>obtain⟨vs,rfl,h2,A⟩:=Rd.aBB (show Rd w Z [] v (.agg (cs.map Lf.toV)) from h);exact⟨vs.toList,by simp,aVv (C:=C) he ht hk B (λc hc=>l.1 c hc) (by simpa using h2) (λj u c p q=>A j u _ (by simpa using p) (by rw[bn,q];rfl))⟩
 have many:(∀x,cps≠[x])->(Sv.t (Ni i e.cv cps):Sv U).mean C w X β m v:=λhn=>by
  have e0:oI (cps.map yQ)= .tup (cps.map yQ):=by
   match cps,hn with
   |[],_=>rfl
   |[x],hn=>exact absurd rfl (hn x)
   |_::_::_,_=>rfl
  rw[e0] at h;obtain⟨vs,rfl,h2,A⟩:=h.aCL;refine⟨vs.toList,by simp,by rw[aVx];simpa using h2,λj u x p q=> ?_⟩;rw[aVw] at q;obtain⟨y,d,rfl⟩:=ez.1 q;exact one (hc y (aE d)) (A j u _ (by simpa using p) (by rw[bn,d];rfl))
 match cps,many,hc,h with
 |[],many,_,_=>exact many (by simp)
 |[(b,cs)],_,hc,h=>exact uY (one (hc (b,cs) (by simp)) h)
 |(b,cs)::(b',cs')::r,many,_,_=>exact many (by simp)
def bGk {i:Nat}{t:Tr}{Z:Nat->Prop}(ht:β[i]? =some t)(e:∀b∈t.all,¬Z b):∀{xs:List (Lf U)},aN3 i xs=true->∀c∈xs,Fz β Z c
 |[],_,c,hc=>by simp at hc
 |x::xs,h,c,hc=>by
  have key:(qA x=true\/∃r,x= .own i r)/\aN3 i xs=true:=by
   cases x with
   |own j r=>simp only[aN3,aa] at h;have:=ah h.1;subst this;exact⟨.inr ⟨r,rfl⟩,h.2⟩
   |_=>simp only[aN3,aa] at h;exact⟨.inl h.1,h.2⟩
  rcases bc.1 hc with rfl|hc
  ·rcases key.1 with h1|⟨r,rfl⟩
   ·exact Fz.of (.inl h1)
   ·intro j u b ho d hb;have:i=j:=aj ho;subst this;rw[ht] at d;injection d with d;subst d;exact e b hb
  ·exact bGk ht e key.2 c hc
def bUq (x:Sv U):lsV x=aK5 x:=by cases x<;>rfl
def bA6 {i:Nat}{t:Tr}{Z:Nat->Prop}(ht:β[i]? =some t)(e:∀b∈t.all,¬Z b):∀{xs:List (Sv U)},bAg i xs=true->∀x∈xs,∀c∈aK5 x,Fz β Z c
 |[],_,x,d=>by simp at d
 |y::ys,h,x,d=>by
  simp only[bAg,aa] at h;rcases bc.1 d with rfl|d
  ·rw[<-bUq];exact bGk ht e h.1
  ·exact bA6 ht e h.2 x d
def aTr (r:bN Y.C E s a w β){o:Oper}{f:FuncId}{j:Array Operand}{ats:Array TypeId}{S:Sum U}{z:sF U S.ar}{q:sF U S.rs}(ho:o.op= .call {callee:= .value (.func f),args:=j,argTypes:=ats})
  (A:Dq P g Y f S) (B:nV Y s.m S.ar (j.toList.map (fD s))=some z) (hmk:S.wt=false) (l:S.fr=false) {i c:Nat} (hi:bAh s.m (j.toList.map (fD s))=some (i,c)) (hq:S.m z=some q):
  SO P Y.C E a w o (xJ (Ni i c (dG Y S.rs q))) s true:=λK Q hK=>by
 have hsp:=(A z q hq).1 hmk l;have hm:∀(i:Nat) (v:Value) (x:Sv U),(j.toList.map a.eval)[i]? =some v->(j.toList.map (fD s))[i]? =some x->x.mean Y.C w (E.X β) β s.m v:=λi v x p q=>by
  obtain⟨y,rfl,rfl⟩:=Hz i v x p q;exact zQ r
 unfold bAh at hi;split at hi
 ·rename_i k J;cases d:bAg k (j.toList.map (fD s)) with
  |false=>rw[d] at hi;cases hi
  |true=>
   rw[d] at hi;simp only[ac] at hi;cases hn:nth s.m.o k with
   |none=>rw[hn] at hi;cases hi
   |some e=>
    rw[hn] at hi;injection hi with hi;injection hi with h1 h2;subst h1;subst h2;have he:s.m.o[k]? =some e:=by rw[<-aY];exact hn
    obtain⟨t,ht⟩:∃t,β[k]? =some t:=by have:=lt_of_some he;rw[<-r.hp.len] at this;exact⟨_,ab this⟩
    have hk:=(r.hp.vers k e he).2;have hrd:=Rl r (Z:=λb=>E.X β b/\b∉t.all) (λb hb=>hb.1) S.ar B (by simp) hm (bA6 ht (λb hb h=>h.2 hb) d);refine wpc (zS ho hsp.1) (R':=λv w'=>Rd w' (λb=>E.X β b/\b∉t.all) [] v (oI ((dG Y S.rs q).map yQ))/\Ext w w') ((hsp.2 w _ _ r.hp.gw (λb hb=>r.hp.aCF b hb.1) hrd).mono ?_) ?_
    ·rintro e' w' ⟨v,r',F,rfl,G,H⟩;exact⟨v,F,G,H⟩
    ·rintro v w' ⟨I,n⟩;exact hK v w' β (r.ext n) (λ_=>bQd he ht hk (λb hb=>hb) (Hy _ q) I) (λ_=>n)
 ·cases hi
def aGj {k:Nat}:∀{vs:List Value} {cs:List (Lf U)} {B:List Nat} (n:Nat),OwL C w (λ_=>False) true vs cs B->
  ∃z:List Tr,z.length=(tY k n cs).2.length/\(z.map Tr.all).flatten=B/\(∀(j:Nat) (e:EO U) (t:Tr),(tY k n cs).2[j]? =some e->z[j]? =some t->e.rv=k/\e.cv=k/\∃τ l xs,e.ob= .tree τ true l/\0<U.K τ/\w.ownsRow 0 τ (U.K τ) t.val l.length xs/\OwL C w (λ_=>False) true xs (l.map (C.cel τ)).flatten t.bs)/\
   ∀(X:Nat->Prop) (β':List Tr) (m':Mm U),k<=m'.k->(∀(j:Nat) (e:EO U) (t:Tr),(tY k n cs).2[j]? =some e->z[j]? =some t->m'.o[n+j]? =some e/\β'[n+j]? =some t)->Ms C w X β' m' vs (tY k n cs).1
 |_,_,_,n, .n=>⟨[],rfl,rfl,by simp[tY],λ_ _ _ _ _=>⟨rfl,by simp⟩⟩
 |_,_,_,n, .c (v:=v) (x:=x) (vs:=vs) (xs:=xs) h hr=>by
  have flat:∀{y:Lf U} {B:List Nat},Ow C w (λ_=>False) true v y B->(∀τ l,y≠ .sl τ l)->B=[]/\∀(X:Nat->Prop) (β':List Tr) (m':Mm U),y.mean C w X β' m' v:=λ{y B} h hn=>by
   cases h with
   |int h1 h2=>exact⟨rfl,λ_ _ _=>⟨rfl,h1,h2⟩⟩
   |bool=>exact⟨rfl,λ_ _ _=>rfl⟩
   |str G=>exact⟨rfl,λ_ _ _=>⟨rfl,G⟩⟩
   |fz=>exact absurd rfl (hn _ _)
   |su=>exact absurd rfl (hn _ _)
   |sl=>exact absurd rfl (hn _ _)
  by_cases hs:∃τ l,x= .sl τ l
  ·obtain⟨τ,l,rfl⟩:=hs;cases h with
   |fz h0=>cases h0
   |su h0=>cases h0
   |sl t hk hown hc=>
    obtain⟨z,k1,k2,k3,k4⟩:=aGj (k:=k) (Nat.succ n) hr;refine⟨t::z,by simp[tY,k1],by simp[k2],λj e t' p q=> ?_,λX β' m' r hm=> ?_⟩
    ·cases j with
     |zero=>simp only[tY,gA,ai] at p q;subst p;subst q;exact⟨rfl,rfl,τ,l,_,rfl,hk,hown,hc⟩
     |succ j=>exact k3 j e t' (by simpa[tY] using p) (by simpa using q)
    ·have h0:=hm 0 ⟨.tree τ true l,k,k⟩ t (by simp[tY]) rfl;have d:=k4 X β' m' r (λj e t' p q=>by
      have:=hm (j+1) e t' (by simpa[tY] using p) (by simpa using q);rw[show n+(j+1)=Nat.succ n+j by omega] at this;exact this)
     have A:(tY k n (.sl τ l::xs)).1= .own n k::(tY k (Nat.succ n) xs).1:=rfl;rw[A];refine⟨by simp[d.1],λi u c p q=> ?_⟩;cases i with
     |zero=>simp at p q;subst p;subst q;exact⟨⟨r,rfl⟩,_,t,h0.1,h0.2,λ_=>rfl⟩
     |succ i=>exact d.2 i u c (by simpa using p) (by simpa using q)
  ·have hn:∀τ l,x≠ .sl τ l:=λτ l e=>hs ⟨τ,l,e⟩;obtain⟨rfl,F⟩:=flat h hn;obtain⟨z,k1,k2,k3,k4⟩:=aGj (k:=k) n hr;have A:tY k n (x::xs)=(x::(tY k n xs).1,(tY k n xs).2):=by cases x<;>first|rfl|exact absurd rfl (hn _ _)
   rw[A];refine⟨z,k1,by simpa using k2,k3,λX β' m' r hm=> ?_⟩;have d:=k4 X β' m' r hm;refine⟨by simp[d.1],λi u c p q=> ?_⟩;cases i with
   |zero=>simp at p q;subst p;subst q;exact F X β' m'
   |succ i=>exact d.2 i u c (by simpa using p) (by simpa using q)
def K8 {k:Nat}:∀{vs:List Value} {cps:List (Bool×List (Lf U))} {B:List Nat} (n:Nat),OwPs C w vs cps B->
  ∃y:List Tr,y.length=(kX k n cps).2.length/\(y.map Tr.all).flatten=B/\(∀(j:Nat) (e:EO U) (t:Tr),(kX k n cps).2[j]? =some e->y[j]? =some t->e.rv=k/\e.cv=k/\∃τ l xs,e.ob= .tree τ true l/\0<U.K τ/\w.ownsRow 0 τ (U.K τ) t.val l.length xs/\OwL C w (λ_=>False) true xs (l.map (C.cel τ)).flatten t.bs)/\
   ∀(X:Nat->Prop) (β':List Tr) (m':Mm U),k<=m'.k->(∀(j:Nat) (e:EO U) (t:Tr),(kX k n cps).2[j]? =some e->y[j]? =some t->m'.o[n+j]? =some e/\β'[n+j]? =some t)->
    vs.length=(kX k n cps).1.length/\∀(i:Nat) (v:Value) (x:Bool×List (Lf U)),vs[i]? =some v->(kX k n cps).1[i]? =some x->Mp C w X β' m' v x
 |_,_,_,n, .n=>⟨[],rfl,rfl,by simp[kX],λ_ _ _ _ _=>⟨rfl,by simp⟩⟩
 |_,_,_,n, .c (v:=v) (x:=x) (B:=L) (vs:=vs) (xs:=xs) h hr=>by
  obtain⟨b,cs⟩:=x;have h1:∃d:List Value,OwL C w (λ_=>False) true d cs L/\∀(X:Nat->Prop) (β':List Tr) (m':Mm U) (cs':List (Lf U)),Ms C w X β' m' d cs'->cs'.length=cs.length->Mp C w X β' m' v (b,cs'):=by
   cases b with
   |true=>obtain⟨d,rfl,z⟩:=h;exact⟨d,z,λ_ _ _ cs' A _=>⟨d,rfl,A⟩⟩
   |false=>
    obtain⟨c,rfl,hc⟩:=h;refine⟨[v],by simpa using OwL.c hc .n,λX β' m' cs' A hl=> ?_⟩
    match cs',hl with
    |[H],_=>exact⟨H,rfl,A.2 0 v H rfl rfl⟩
  obtain⟨d,z,F⟩:=h1;obtain⟨O,G,S,T,V⟩:=aGj (k:=k) n z;obtain⟨t2,b1,W,Z,b4⟩:=K8 (k:=k) (n+(tY k n cs).2.length) hr;have e1:kX k n ((b,cs)::xs)=((b,(tY k n cs).1)::(kX k (n+(tY k n cs).2.length) xs).1,(tY k n cs).2++(kX k (n+(tY k n cs).2.length) xs).2):=by simp only[kX,dA]
  rw[e1];refine⟨O++t2,by simp[G,b1],by simp[S,W],λj e t p q=> ?_,λX β' m' r hm=> ?_⟩
  ·by_cases hj:j<(tY k n cs).2.length
   ·rw[aq hj] at p;rw[aq (by omega)] at q;exact T j e t p q
   ·rw[az (by omega)] at p;rw[az (by omega),G] at q;exact Z _ e t p q
  ·have I:=V X β' m' r (λj e t p q=>by
    have hj:=lt_of_some p;exact hm j e t (by rw[aq hj];exact p) (by rw[aq (by omega)];exact q))
   have J:=b4 X β' m' r (λj e t p q=>by
    have:=hm ((tY k n cs).2.length+j) e t (by rw[az (by omega)];simpa using p) (by rw[az (by omega),G];simpa using q);rw[show n+((tY k n cs).2.length+j)=n+(tY k n cs).2.length+j by omega] at this;exact this)
   refine⟨by simp[J.1],λi u x p q=> ?_⟩;cases i with
   |zero=>simp at p q;subst p;subst q;exact F X β' m' _ I (by rw[<-I.1,z.len])
   |succ i=>exact J.2 i u x (by simpa using p) (by simpa using q)
def aYp {v:Value}{cps:List (Bool×List (Lf U))}{B:List Nat}{k n:Nat}(h:OwR C w v cps B):
  ∃d:List Tr,d.length=(kX k n cps).2.length/\(d.map Tr.all).flatten=B/\(∀(j:Nat) (e:EO U) (t:Tr),(kX k n cps).2[j]? =some e->d[j]? =some t->e.rv=k/\e.cv=k/\∃τ l xs,e.ob= .tree τ true l/\0<U.K τ/\w.ownsRow 0 τ (U.K τ) t.val l.length xs/\OwL C w (λ_=>False) true xs (l.map (C.cel τ)).flatten t.bs)/\
   ∀(X:Nat->Prop) (β':List Tr) (m':Mm U),k<=m'.k->(∀(j:Nat) (e:EO U) (t:Tr),(kX k n cps).2[j]? =some e->d[j]? =some t->m'.o[n+j]? =some e/\β'[n+j]? =some t)->(xJ (kX k n cps).1).mean C w X β' m' v:=by
 have many:(∀x,cps≠[x])->(∃vs:List Value,v= .tuple vs.toArray/\OwPs C w vs cps B)->∃d:List Tr,d.length=(kX k n cps).2.length/\(d.map Tr.all).flatten=B/\(∀(j:Nat) (e:EO U) (t:Tr),(kX k n cps).2[j]? =some e->d[j]? =some t->e.rv=k/\e.cv=k/\∃τ l xs,e.ob= .tree τ true l/\0<U.K τ/\w.ownsRow 0 τ (U.K τ) t.val l.length xs/\OwL C w (λ_=>False) true xs (l.map (C.cel τ)).flatten t.bs)/\
   ∀(X:Nat->Prop) (β':List Tr) (m':Mm U),k<=m'.k->(∀(j:Nat) (e:EO U) (t:Tr),(kX k n cps).2[j]? =some e->d[j]? =some t->m'.o[n+j]? =some e/\β'[n+j]? =some t)->(xJ (kX k n cps).1).mean C w X β' m' v:=λhn ⟨vs,hv,ho⟩=>by
  obtain⟨d,p,q,r,y⟩:=K8 (k:=k) n ho;refine⟨d,p,q,r,λX β' m' hk hm=> ?_⟩;obtain⟨z,i⟩:=y X β' m' hk hm;have hl:vs.length=cps.length:=by
   have:∀{vs:List Value} {cps:List (Bool×List (Lf U))} {B:List Nat},OwPs C w vs cps B->vs.length=cps.length:=by
    intro vs cps B h;induction h with
    |n=>rfl
    |c _ _ A=>simp[A]
   exact this ho
  have e:xJ (kX k n cps).1= .t (kX k n cps).1:=by
   have hlen:(kX k n cps).1.length≠1:=by
    rw[<-z,hl];intro h1
    match cps,hn,h1 with
    |[x],hn,_=>exact hn x rfl
   generalize(kX k n cps).1=ys at hlen
   match ys,hlen with
   |[],_=>rfl
   |[_],h=>exact absurd rfl h
   |_::_::_,_=>rfl
  rw[e];exact⟨vs,hv,z,i⟩
 match cps,many,h with
 |[],many,h=>exact many (by simp) h
 |[x],_,h=>
  have h1:OwPs C w [v] [x] B:=by simpa using OwPs.c (h:OwP C w v B x) .n
  obtain⟨d,p,q,r,y⟩:=K8 (k:=k) n h1;refine⟨d,p,q,r,λX β' m' hk hm=> ?_⟩;obtain⟨z,i⟩:=y X β' m' hk hm;obtain⟨b,cs⟩:=x;have F:(kX k n [(b,cs)]).1=[(b,(tY k n cs).1)]:=rfl;rw[F] at i ⊢;exact uY (i 0 v _ rfl rfl)
 |_::_::_,many,h=>exact many (by simp) h
def aK6 (r:bN Y.C E s a w β){o:Oper}{f:FuncId}{G:Array Operand}{ats:Array TypeId}{S:Sum U}{z:sF U S.ar}{q:sF U S.rs}(ho:o.op= .call {callee:= .value (.func f),args:=G,argTypes:=ats})
  (hS:Dq P g Y f S) (hz:nV Y s.m S.ar (G.toList.map (fD s))=some z) (hmk:S.wt=false) (I:S.fr=true) (hq:S.m z=some q):
  SO P Y.C E a w o (xJ (kX s.m.k (len s.m.o) (dG Y S.rs q)).1) ⟨s.t,⟨s.m.o++(kX s.m.k (len s.m.o) (dG Y S.rs q)).2,s.m.k,s.m.ns⟩,s.fr⟩ true:=λK Q hK=>by
 have hsp:=(hS z q hq).2.1 hmk I;have hm:∀(i:Nat) (v:Value) (x:Sv U),(G.toList.map a.eval)[i]? =some v->(G.toList.map (fD s))[i]? =some x->x.mean Y.C w (E.X β) β s.m v:=λi v x p q=>by
  obtain⟨y,rfl,rfl⟩:=Hz i v x p q;exact zQ r
 have hrd:=Lj r (Z:=E.X0) (λb hb=> .inl hb) S.ar hz (by simp) hm (.inr (aM6 r));refine wpc (zS ho hsp.1) (R':=λv w'=>∃B,Ext w w'/\B.Nodup/\(∀b∈B,w.heap.size<=b)/\OwR Y.C w' v (dG Y S.rs q) B) ((hsp.2 w E.X0 _ r.hp.gw (λb hb=>r.hp.aCF b (.inl hb)) hrd).mono ?_) ?_
 ·rintro e w' ⟨v,B,e1,e2⟩;exact⟨v,e1,B,e2⟩
 ·rintro v w' ⟨B,he,J,h,hR⟩;obtain⟨A,a1,W,H,a4⟩:=aYp (k:=s.m.k) (n:=len s.m.o) hR;generalize hes:(kX s.m.k (len s.m.o) (dG Y S.rs q)).2=es at a1 H a4 hK;have L:(es.zip A).map (·.1)=es:=List.map_fst_zip (by omega);have F:(es.zip A).map (·.2)=A:=List.map_snd_zip (by omega);have c:∀x∈es.zip A,∃j,es[j]? =some x.1/\A[j]? =some x.2:=λx d=>by
   obtain⟨j,hj⟩:=cV.1 d;rw[List.getElem?_zip_eq_some] at hj;exact⟨j,hj⟩
  have hB:∀x∈es.zip A,∀b∈x.2.all,b∈B:=λx d b hb=>by
   obtain⟨j,_,hj⟩:=c x d;rw[<-W];exact jg.2 ⟨_,ct.2 ⟨_,aE hj,rfl⟩,hb⟩
  have r1:=r.add he (es.zip A) (λx d=>by
    obtain⟨j,h1,h2⟩:=c x d;have:=H j x.1 x.2 h1 h2;rw[this.1,this.2.1];exact⟨ak _,ak _⟩)
   (λx d b hb=>by
    obtain⟨j,h1,h2⟩:=c x d;refine⟨h b (hB x d b hb),?_⟩;obtain⟨_,_,τ,l,xs,_,O,T,V⟩:=H j x.1 x.2 h1 h2;have ho:Ow Y.C w' (λ_=>False) true x.2.val (.sl τ l) x.2.all:= .sl x.2 O T V;exact ho.lt b hb)
   (by
    have e:((es.zip A).map λx=>x.2.all)=A.map Tr.all:=by have:=congrArg (List.map Tr.all) F;rw[gE] at this;exact this
    rw[e,W];exact J)
   (λhev x d=>by
    obtain⟨j,h1,h2⟩:=c x d;obtain⟨_,_,τ,l,xs,c1,O,T,V⟩:=H j x.1 x.2 h1 h2;rw[c1];exact⟨O,xs,T,V.aCV rfl⟩)
  rw[L,F] at r1;refine hK v w' _ r1 (λ_=>a4 _ _ _ (ak _) (λj e t p q=> ?_)) (λ_=>he);rw[dA];refine⟨by rw[az (db _ _),cH];exact p,?_⟩;rw[<-r.hp.len,az (db _ _),cH];exact q
end
end Go.EV
namespace Go.EV
open Go.RowKit Go.VK
variable {U:Uni} {Y:Lay U} {P:Program} {g:GI} {C:Cod U}
def OwP.rd {w:World}{Z:Nat->Prop}{v:Value}{B:List Nat}:∀{x:Bool×List (Lf U)},OwP C w v B x->(∀b∈B,¬Z b)->Rd w Z [] v (yQ x)
 |(true,cs),h,d=>by
  obtain⟨vs,rfl,ho⟩:=h;obtain⟨h1,h2⟩:=(OwL.aCV (X':=Z) rfl ho).rd (Z:=Z) (λ_ h=>h) d;refine .agg (by simpa using h1) λi v c j e=> ?_;rw[bn] at e;obtain⟨x,k,rfl⟩:=ez.1 e;exact h2 i v x (by simpa using j) k
 |(false,cs),h,d=>by
  obtain⟨c,rfl,ho⟩:=h;exact(Ow.aCV (X':=Z) rfl ho).rd (λ_ h=>h) d
def OwPs.rd {w:World}{Z:Nat->Prop}:∀{vs:List Value} {xs:List (Bool×List (Lf U))} {B:List Nat},OwPs C w vs xs B->(∀b∈B,¬Z b)->vs.length=(xs.map yQ).length/\∀(i:Nat) (v:Value) (c:V),vs[i]? =some v->(xs.map yQ)[i]? =some c->Rd w Z [] v c
 |_,_,_, .n,_=>⟨rfl,λi v c h=>by simp at h⟩
 |_,_,_, .c h hr,j=>by
  obtain⟨h1,h2⟩:=hr.rd (Z:=Z) λb hb=>j b (bp.2 (.inr hb));refine⟨by simp only[aw,bw,h1],λi v c d e=> ?_⟩;cases i with
  |zero=>simp only[gA,bw,ai] at d e;subst d;subst e;exact h.rd λb hb=>j b (bp.2 (.inl hb))
  |succ i=>exact h2 i v c (by simpa using d) (by simpa using e)
def OwR.rd {w:World}{Z:Nat->Prop}{v:Value}{B:List Nat}{cps:List (Bool×List (Lf U))}(h:OwR C w v cps B)(j:∀b∈B,¬Z b):Rd w Z [] v (oI (cps.map yQ)):=by
 unfold OwR at h;split at h
 ·exact h.rd j
 ·rename_i d;obtain⟨vs,rfl,ho⟩:=h;obtain⟨h1,h2⟩:=ho.rd j;have e:oI (cps.map yQ)= .tup (cps.map yQ):=by
   match cps,d with
   |[],_=>rfl
   |[x],d=>exact absurd rfl (d x)
   |x::y::r,_=>rfl
  rw[e];exact .tup (by simpa using h1) λi v c k l=>h2 i v c (by simpa using k) l
def Sum.pl (S:Sum U):Sum U:=⟨S.ar,S.rs,false,S.wt,S.m⟩
def bL9 {f:FuncId}{S:Sum U}(h:Dq P g Y f S)(d:S.wt=false)(i:S.fr=true):Dq P g Y f S.pl:=λa r hr=>by
 obtain⟨_,h2,_⟩:=h a r hr;obtain⟨k1,k2⟩:=h2 d i;refine⟨λ_ _=>⟨k1,λw X vs j hX hrd=>(k2 w X vs j hX hrd).mono λe w' hq=> ?_⟩,λ_ h=>(by cases h),λc=>(by
  have c:S.wt=true:=c;rw[d] at c;cases c),λc=>(by
  have c:S.wt=true:=c;rw[d] at c;cases c)⟩
 obtain⟨v,B,k,l,q,n,o⟩:=hq;exact⟨v,_,k,rfl,o.rd λb hb p=>by have:=n b hb;have:=hX b p;omega,l⟩
end Go.EV
namespace Go.EV
open Go.RowKit Go.VK
variable {U:Uni} {Y:Lay U} {TI:List (Nat×TInfo)} {FZ:List (Nat×Sum U)} {P:Program} {g:GI} {E:Env U g}
section
variable {s:St U} {a:Act} {w:World} {β:List Tr} {α:Type} {C:Cod U}
def K9:∀{ks:List Kd},aN5 (U:=U) ks=true->∀kd∈ks,∀τ,kd= .sl τ->0<U.K τ
 |[],_,kd,h,_,_=>by simp at h
 |k::ks,h,kd,hk,τ,e=>by
  cases k with
  |sl τ'=>
   simp only[aN5,aa] at h;rcases bc.1 hk with rfl|hk
   ·injection e with e;subst e;exact ba h.1
   ·exact K9 h.2 kd hk τ e
  |_=>
   rcases bc.1 hk with rfl|hk
   ·cases e
   ·exact K9 (ks:=ks) h kd hk τ e
def bZk (C:Cod U)(w:World)(t:Tr)(τ:Nat)(L:List (U.El τ)):Prop:=0<U.K τ/\∃xs,w.ownsRow 0 τ (U.K τ) t.val L.length xs/\OwL C w (λ_=>False) true xs (L.map (C.cel τ)).flatten t.bs
structure Hd (C:Cod U) (m:Mm U) (w:World) (β:List Tr) (v:Value) (y':Lf U) (i:Nat) (e:EO U) (t:Tr) (B:List Nat):Prop where
 ht:β[i]? =some t
 he:∃e0 τ L,m.o[i]? =some e0/\e0.ob.aAY=false/\e=⟨.tree τ true L,e0.rv,Nat.succ m.k⟩
 sub:∀b∈B,b∈t.all
 back:∀w' B',w.heap.size<=w'.heap.size->Ow C w' (λ_=>False) true v y' B'->(∀b∈t.all,b∉B->w'.heap[b]? =w.heap[b]?)->
  ∃t' τ L,t'.val=t.val/\(∀b∈t'.all,b∈B'\/(b∈t.all/\b∉B))/\(B'.Nodup->(∀b∈B',b∈t.all->b∈B)->t'.all.Nodup)/\e.ob= .tree τ true L/\bZk C w' t' τ L
structure Wo (U:Uni) where
 i:Nat
 e:EO U
 t:Tr
 B:List Nat
 v:Value
 y:Lf U
end
end Go.EV
namespace Go.EV
open Go.RowKit Go.VK
variable {U:Uni} {Y:Lay U} {TI:List (Nat×TInfo)} {FZ:List (Nat×Sum U)} {P:Program} {g:GI} {E:Env U g}
structure Good (P:Program) (g:GI) (Y:Lay U) (TI:List (Nat×TInfo)) (FZ:List (Nat×Sum U)):Prop where
 ti:sG P TI=true
 lay:LayOk Y
 fs:∀(f:Nat) (S:Sum U),(f,S)∈FZ->Dq P g Y f S
structure Am (m m':Mm U):Prop where
 k:m.k<=m'.k
 ns:∀(a i:Nat) (f:Bool),m.ns[a]? =some (i,f)->∃f',m'.ns[a]? =some (i,f')
 ol:m.o.length<=m'.o.length
 o:∀(i:Nat) (e e':EO U),m.o[i]? =some e->m'.o[i]? =some e'->(e'.cv<=m.k->e'=e)/\(e'.ob.aAY=true->e.ob.aAY=true)/\
  ∀T cs vs T' cs' vs',e.ob= .box T cs vs->e'.ob= .box T' cs' vs'->T'=T/\cs'.length=cs.length/\vs'.length=vs.length/\∀(j v:Nat),vs'[j]? =some v->v<=m.k->cs'[j]? =cs[j]? /\vs[j]? =some v
theorem Am.refl (m:Mm U):Am m m:=⟨ak _,(by simp_all),ak _,(by grind)⟩
theorem Am.trans {m m' c:Mm U}(h:Am m m')(l:Am m' c):Am m c:=by
 refine⟨bz h.k l.k,λa i f t=> ?_,bz h.ol l.ol,λi e n he d=> ?_⟩
 ·obtain⟨f',h1⟩:=h.ns a i f t;exact l.ns a i f' h1
 ·have hl:i<m'.o.length:=cg (lt_of_some he) h.ol;obtain⟨G,x,y⟩:=h.o i e _ he (ab hl);obtain⟨b1,r,z⟩:=l.o i _ n (ab hl) d;refine⟨λhc=> ?_,λhb=>x (r hb),λT cs vs p cs'' vs'' h1 h2=> ?_⟩
  ·have H:=b1 (bz hc h.k);simp_all
  ·have hb:(m'.o[i]).ob.aAY=true:=r (by rw[h2];rfl);cases hm:(m'.o[i]).ob with
   |box T' cs' vs'=>obtain⟨A,B,F,I⟩:=y T cs vs T' cs' vs' h1 hm;obtain⟨q1,q2,q3,q4⟩:=z T' cs' vs' p cs'' vs'' hm h2;refine⟨q1.trans A,q2.trans B,q3.trans F,λj v hv q=> ?_⟩;obtain⟨J,L⟩:=q4 j v hv (bz q h.k);simp[*]
   |_=>rw[hm] at hb;cases hb
theorem Am.add (m:Mm U)(es:List (EO U)):Am m ⟨m.o++es,m.k,m.ns⟩:=by
 refine⟨ak _,(by simp_all),by simp,λi e e' he c=> ?_⟩
 grind
theorem Am.aCX (m:Mm U){c:List (Nat×Bool)}(h:∀(a i:Nat) (f:Bool),m.ns[a]? =some (i,f)->∃f',c[a]? =some (i,f')):Am m ⟨m.o,m.k,c⟩:=⟨ak _,h,ak _,(Am.refl m).o⟩
def Am.turn (m:Mm U){i:Nat}{ids:List Nat}{ob:Ob U}{rv:Nat}(hb:ob.aAY=true->∀e,m.o[i]? =some e->e.ob.aAY=true/\∀T cs vs T' cs' vs',e.ob= .box T cs vs->ob= .box T' cs' vs'->T'=T/\cs'.length=cs.length/\vs'.length=vs.length/\∀(j v:Nat),vs'[j]? =some v->v<=m.k->cs'[j]? =cs[j]? /\vs[j]? =some v):
  Am m ⟨Re (Nat.succ m.k) ids (upd m.o i ⟨ob,rv,Nat.succ m.k⟩),Nat.succ m.k,m.ns⟩:=by
 refine⟨eg _,(by simp_all),by grind[Lh,dK,List.length_set],λj e e' he c=> ?_⟩;simp only at c;by_cases hj:j∈ids
 ·rw[aGg hj (by rw[dK,ao];exact lt_of_some he)] at c;injection c with c;subst c;exact⟨λh=>(by simp only at h;omega),λh=>(by cases h),λ_ _ _ _ _ _ _ h=>(by cases h)⟩
 ·rw[yO hj,dK] at c;by_cases d:i=j
  ·subst d;rw[bf (lt_of_some he)] at c;injection c with c;subst c;refine⟨λh=>by simp only at h;omega,λh=>(hb h e he).1,λT cs vs T' cs' vs' h1 h2=> ?_⟩
   have l:ob.aAY=true:=by simp only at h2;rw[h2];rfl
   grind
  simp_all
def Am.tree (m:Mm U){i:Nat}{ids:List Nat}{τ:Nat}{d:Bool}{l:List (U.El τ)}{rv:Nat}:Am m ⟨Re (Nat.succ m.k) ids (upd m.o i ⟨.tree τ d l,rv,Nat.succ m.k⟩),Nat.succ m.k,m.ns⟩:=Am.turn m (λh=>by cases h)
section
variable {s:St U} {a:Act} {w:World} {β:List Tr} {α:Type}
def bIx (r:bN Y.C E s a w β){o:Oper}{k p e:Nat}{x:Operand}{z:ByteArray}(ho:o.op= .convert k p x)(hs:P.underlying k=some .string)(hd:P.underlying p=some (.slice e))(he:P.underlying e=some (.int .u8))(A:fD s x= .l (.str z)):SO P Y.C E a w o (.l (.sl Y.bt ((cO z).map Y.be))) s true:=λK Q hK=>by
 obtain⟨h1,h2⟩:=(mK r A:(Lf.str z:Lf U).mean Y.C w (E.X β) β s.m (a.eval x));have q:Ext w (Lib.bytesWorld w e z):=⟨rfl,rfl,rfl,by simp[Lib.bytesWorld_size],(by grind[Lib.bytesWorld_at_old])⟩;refine wpo (w':=Lib.bytesWorld w e z) (v:= .slice (some ⟨w.heap.size,0,none⟩) z.size (grownCap w z.size 0 e)) (by simp_all[inl,execOp,Lib.run_convert_string_bytes]) (hK _ _ β (r.ext q) (λ_=> ?_) (λ_=>q));have d:∀n,U.enc Y.bt (Y.be n)=[V.int .u8 n]:=λn=>by
  rw[<-Y.C.hcel Y.bt (Y.be n),Y.hb,Y.hbe];rfl
 have hk:U.K Y.bt=1:=by rw[<-Y.C.hlen Y.bt (Y.be 0),Y.hb];rfl
 have el:((cO z).map Y.be).map (U.enc Y.bt)=z.data.toList.map yV:=by rw[gE];have:(U.enc Y.bt∘Y.be)=λn=>[V.int .u8 n]:=funext d;simp_all[cO,yV]
 show Rd _ (E.X β) [] _ (.slice (U.K Y.bt) (((cO z).map Y.be).map (U.enc Y.bt)));rw[el,hk];have hc:=grownCap_le_maxLen w z.size 0 e h2;have hg:=grownCap_ge w z.size 0 e;cases B:z.data.toList with
 |nil=>
  have:z.size=0:=by grind[Dl]
  rw[this] at hc ⊢;exact .slice0 hc
 |cons F bs=>
  rw[<-B];have hlen:z.size=(z.data.toList.map yV).length:=by rw[bj,Dl]
  have c:∀(i j:Nat) (e':List V) (d':V),(z.data.toList.map yV)[i]? =some e'->e'[j]? =some d'->i<z.size/\j=0/\d'= .int .u8 ((z.data.toList.getD i 0).toNat:Int):=by
   grind[yV,Dl,List.getD,List.getElem?_eq_some_iff,Option.map_eq_some_iff]
  refine .slice (val:=λi j=> .int .u8 ((z.data.toList.getD i 0).toNat:Int)) hlen (by simp[*]) hg hc (λh=>by have:=r.hp.aCF _ h;grind) (by rw[Lib.bytesWorld_size];simp)
   (by grind) (λi j e' d' t y=> ?_) (λi j e' d' t y=> ?_)
  ·grind[Lib.bytesWorld_cell,gD]
  ·obtain⟨G,rfl,rfl⟩:=c i j e' d' t y;have hb:=(z.data.toList.getD i 0).toNat_lt;exact .int (ir _) (show(((z.data.toList.getD i 0).toNat:Nat):Int)<=255 by omega)
def oJ (G:Good P g Y TI FZ)(r:bN Y.C E s a w β){o:Oper}{op:Op}(ho:o.op=op){K:Sv U->St U->Option α}{z:α}(h:Yg Y TI s op (λx=>K x s)=some z):∃x s',K x s'=some z/\PO P Y.C E a w β o x s'/\s'.t=s.t/\s'.fr=s.fr/\Am s.m s'.m:=by obtain⟨x,h1,h2⟩:=K5 G.ti r h;obtain⟨v,k1,k2⟩:=h2 o ho;exact⟨x,s,h1,⟨v,k1,r,k2⟩,rfl,rfl,Am.refl _⟩
def Ll (G:Good P g Y TI FZ)(r:bN Y.C E s a w β){o:Oper}{op:Op}(ho:o.op=op)(hc:yN FZ op=0){K:Sv U->St U->Option α}{z:α}(h:stp Y TI FZ s op K=some z):∃x s',K x s'=some z/\PO P Y.C E a w β o x s'/\s'.t=s.t/\s'.fr=s.fr/\Am s.m s'.m:=by
 unfold stp at h;split at h
 ·cases hc
 ·cases hc
 ·cases hc
 ·cases hc
 ·cases hc
 ·cases hc
 ·grind[yN]
 ·rename_i t x y u;split at h
  ·rename_i c n B;cases hn:decide (n=1) with
   |false=>rw[hn] at h;exact oJ G r ho h
   |true=>
    rw[hn] at h;simp only[ac] at h;cases hm:nth s.m.ns c with
    |none=>simp_all
    |some p=>
     obtain⟨i,f⟩:=p;rw[hm] at h;cases f with
     |false=>exact oJ G r ho h
     |true=>grind[bIt,aY,Am.aCX,List.getElem?_append_left,lt_of_some]
  ·exact oJ G r ho h
 ·rename_i F q x;cases hm:kC FZ (q+1000000) with
  |some S=>grind[yN]
  |none=>simp only[hm] at h;exact oJ G r ho h
 ·exact oJ G r ho h
 ·rename_i t x b;cases hm:kC FZ 2000000 with
  |none=>simp only[hm] at h;exact oJ G r ho h
  |some S=>
   simp only[hm] at h;split at h
   ·rename_i e ek eb k H i q0 n h1 h2 A;split at h
    ·rename_i τ d l rv cv j;rw[aY] at j;cases hb:(Nat.beq rv q0&&Ho (U:=U) e ek τ) with
     |false=>simp_all
     |true=>rw[hb] at h;simp only[ac] at h;simp only[Ho,aa] at hb;obtain⟨hg,h⟩:=lU h;obtain⟨v,k1,k2⟩:=bL0 G.ti r h1 h2 A j (ah hb.1) (ah hb.2.2) hg o ho;exact⟨_,s,h,⟨v,k1,r,k2⟩,rfl,rfl,Am.refl _⟩
    ·cases h
   ·exact oJ G r ho h
 ·exact oJ G r ho h
def bN.aCA {C:Cod U}(r:bN C E s a w β){b T rv cv:Nat}{cs:List (Lf U)}{c:List Nat}(h:s.m.o[b]? =some ⟨.box T cs c,rv,cv⟩):cs.length=c.length:=by obtain⟨t,ht⟩:=r.hp.tr h;exact(r.hp.ok b t _ ht h).1
def aJ8 {b T rv cv off n:Nat}{cs ps:List (Lf U)}{c:List Nat}{d:Nat}(j:s.m.o[b]? =some ⟨.box T cs c,rv,cv⟩)(h:ps.length=n)(i:off+n<=cs.length)(hl:cs.length=c.length):
  Am s.m (trn s b (.box T (spl cs off ps) (spl c off (ps.map λ_=>Nat.succ s.m.k))) d).m:=by
 have l:=Gv cs off ps (by rw[h];exact i);have p:=Gv c off (ps.map λ_=>Nat.succ s.m.k) (by rw[bj,h,<-hl];exact i);refine Am.turn (ids:=[]) s.m λ_ e he=> ?_;rw[j] at he;injection he with he;subst he;refine⟨rfl,λq cs1 vs1 T' cs' vs' k1 k2=> ?_⟩
 grind[Option.some.injEq,List.length_map,Ky,k2,k1]
def bD5 {e i:Nat}{c:Lf U}{d:Bool}{l:List (U.El e)}{s1:St U}(h:apD s e c=some (i,d,l,s1)):s1.t=s.t/\s1.fr=s.fr/\Am s.m s1.m:=by
 cases c with
 |nil=>simp only[apD,ai,cU] at h;obtain⟨_,_,_,rfl⟩:=h;exact⟨rfl,rfl,Am.add _ _⟩
 |own j q=>
  grind[d0,Nat.beq,Option.some.injEq,Prod.mk.injEq,Am.refl,apD]
 |_=>cases h
def SO.to {C:Cod U}{o:Oper}{x:Sv U}{s':St U}{b:Bool}(h:SO P C E a w o x s' true):SO P C E a w o x s' b:=by
 cases b with
 |true=>exact h
 |false=>exact h.soft
def aVy {xs:Array Operand}{l:List Operand}(h:xs.toList=l):xs=l.toArray:=by grind
def aVz {xs:Array TypeId}{l:List TypeId}(h:xs.toList=l):xs=l.toArray:=by grind
def bMa {T:Nat}{ks:List Kd}(z:sF U (.st T::ks)):∃cs c,dG Y (.st T::ks) z=(true,cs)::c:=by
 cases ks with
 |nil=>exact⟨_,_,rfl⟩
 |cons k ks=>exact⟨_,_,rfl⟩
def RdL.cons_inv {w:World}{X:Nat->Prop}{vs:List Value}{u:V}{c:List V}(h:RdL w X vs (u::c)):∃v vs',vs=v::vs'/\Rd w X [] v u/\RdL w X vs' c:=by
 obtain⟨h1,h2⟩:=h;cases vs with
 |nil=>simp at h1
 |cons v vs=>exact⟨v,vs,rfl,h2 0 v u rfl rfl,by simpa using h1,λi v u p q=>h2 (i+1) v u (by simpa using p) (by simpa using q)⟩
def RdL.agg {w:World}{X:Nat->Prop}{vs:List Value}{d:List V}(h:Rd w X [] (.agg vs.toArray) (.agg d)):RdL w X vs d:=by obtain⟨vs',e,h2,j⟩:=h.aBB;injection e with e;subst e;exact⟨by simpa using h2,λi v c p q=>j i v c (by simpa using p) q⟩
def aJ9 (hY:LayOk Y)(r:bN Y.C E s a w β){o:Oper}{f:FuncId}{A:Array Operand}{ats:Array TypeId}{S:Sum U}(ho:o.op= .call {callee:= .value (.func f),args:=A,argTypes:=ats})
  (hS:Dq P g Y f S) (hmk:S.wt=true) (hfr:S.fr=true) {K:Sv U->St U->Option α} {z:α} (h:bPz Y s S (A.toList.map (fD s)) K=some z):
  ∃x s' i b,K x s'=some z/\(∃ys,A.toList.map (fD s)= .l (.box i 0)::ys)/\(∀v,(Sv.l (.box i 0):Sv U).mean Y.C w (E.X β) β s.m v->v= .pointer (some ⟨b,0,none⟩))/\
   (∀(K':Act->World->Prop) (Q:Exit->Act->World->Prop),(∀v w' β',bN Y.C E s' a w' β'->(o.dst≠none->x.mean Y.C w' (E.X β') β' s'.m v)->Bel (·=b) w w'->K' (a.put o.dst v) w')->o.wp P a w K' Q)/\s'.t=s.t/\s'.fr=s.fr/\Am s.m s'.m:=by
 unfold bPz at h;split at h
 ·rename_i i off ys O;split at h
  ·rename_i T cs us rv cv hi;rw[aY] at hi;split at h
   ·rename_i z1 hz;cases hb:(Nat.beq off 0&&(hdT T S.ar&&(Lc cs&&nQ ys))) with
    |false=>simp_all
    |true=>
     rw[hb] at h;simp only[ac] at h;obtain⟨q,hq,hk⟩:=jV h;clear h;split at hk
     ·rename_i ds rs hr;cases hlen:Nat.beq (len ds) (len cs) with
      |false=>simp_all
      |true=>
       rw[hlen] at hk;simp only[ac] at hk;have hlen:=ah hlen;rw[dA,dA] at hlen;simp only[aa] at hb;obtain⟨n,hT,hfc,hfy⟩:=hb;have n:=ah n;subst n;obtain⟨ar,rs0,fr,wt,mm⟩:=S;obtain⟨ks,rfl⟩:∃ks,ar= .st T::ks:=by
        simp only[hdT] at hT
        grind[Nat.eq_of_beq_eq_true]
       obtain⟨cs0,us0,V⟩:=bMa (Y:=Y) z1;have hsp:=(hS z1 q hq).2.2.2 hmk hfr T ks cs0 us0 ds rs rfl V hr;have hbl:=r.aCA hi;obtain⟨tr,ht⟩:=r.hp.tr hi;obtain⟨_,b,ws,e1,e2,e3,e4⟩:=r.hp.ok i tr _ ht hi;refine⟨_,_,i,b,hk,⟨ys,O⟩,λv hv=> ?_,λK' Q hK=> ?_,rfl,rfl,?_⟩
       ·obtain⟨_,e',t',B,F,g3⟩:=hv;rw[hi] at B;injection B with B;subst B;rw[ht] at F;injection F with F;subst F;obtain⟨b',H,rfl⟩:=g3 rfl;rw[e1] at H;injection H with H;rw[H]
       ·--the arguments
        have hm:∀(i:Nat) (v:Value) (x:Sv U),(A.toList.map a.eval)[i]? =some v->(A.toList.map (fD s))[i]? =some x->x.mean Y.C w (E.X β) β s.m v:=(by grind[Hz,zQ]);obtain⟨v0,vs,W,hvl⟩:∃v0 vs,A.toList.map a.eval=v0::vs/\vs.length=ys.length:=by
         have hl:(A.toList.map a.eval).length=(Sv.l (.box i 0)::ys).length:=by grind
         match hh:A.toList.map a.eval,hl with
         |v0::vs,hl=>grind
        rw[O,W] at hm;obtain⟨_,e',t',B,F,g3⟩:=hm 0 v0 _ rfl rfl;rw[hi] at B;injection B with B;subst B;rw[ht] at F;injection F with F;subst F;obtain⟨b',H,rfl⟩:=g3 rfl;rw[e1] at H;injection H with H;subst H;have hall:tr.all=[b]:=by grind[Tr.all]
        have hfree:nQ (.a cs::ys)=true:=by grind[nQ,aN2]
        have hrd:=Lj r (Z:=E.X β) (λ_ h=>h) _ hz (vs:= .agg ws.toArray::vs) (by simp[hvl]) (λj v x p q=>by
         cases j with
         |zero=>simp at p q;subst p;subst q;exact⟨ws,rfl,e4⟩
         |succ j=>exact hm (j+1) v x (by assumption) (by assumption)) (.inl hfree)
        rw[V,bw] at hrd;obtain⟨_,_,he,hr1,hr2⟩:=RdL.cons_inv hrd;injection he with he1 he2;subst he1;subst he2;have hr1:=RdL.agg (by assumption);have hXb:E.X β b:=(by grind[bP8]);have hG:∀w',Bel (·=b) w w'->g.G w':=λw' hb'=>E.hg w' ⟨hb'.os.trans r.hp.ext.os,hb'.tape.trans r.hp.ext.tape,hb'.output.trans r.hp.ext.output,bz r.hp.ext.size hb'.size,λx hlt hy=>by
         rw[hb'.block x (cg hlt r.hp.ext.size) (λhB=> ?_)]
         ·exact r.hp.ext.block x hlt hy
         ·subst hB;rcases(r.hp.new i tr x ht (by simp[*])).1 with h|h
          all_goals grind⟩
        have hcall:=hsp.2 w (E.X β) b ws vs hG (λx hx=>r.hp.aCF x hx) hXb e3 hr1 hr2;have hargs:(A.toList.map a.eval).toArray=(.pointer (some ⟨b,0,none⟩)::vs).toArray:=by rw[W]
        refine wpc (zS ho hsp.1) (R':=λu w'=>∃I,Bel (·=b) w w'/\w'.heap[b]? =some (.cells I.toArray T (0,0))/\RdL w' (E.X β) I (ds.map Lf.toV)/\Rd w' (E.X β) [] u (oI (rs.map yQ))) ?_ ?_
        ·simp_all
        ·rintro u w' ⟨I,y,h5,h6,h7⟩;have J:=r.hp.len;have hil:i<s.m.o.length:=lt_of_some hi;have L:∀j,(j=i\/s.m.o.length<=j)->∀t,β[j]? =some t->j=i/\t=tr:=(by simp_all);have d:∀j,(j=i\/s.m.o.length<=j)->∀e,(s.m.o.set i ⟨.box T ds (us.map λ_=>Nat.succ s.m.k),rv,Nat.succ s.m.k⟩)[j]? =some e->e=⟨.box T ds (us.map λ_=>Nat.succ s.m.k),rv,Nat.succ s.m.k⟩:=(by grind[List.getElem?_set_self,lt_of_some]);obtain⟨q1,q2⟩:=r.hp.step (s':=⟨s.m.o.set i ⟨.box T ds (us.map λ_=>Nat.succ s.m.k),rv,Nat.succ s.m.k⟩,Nat.succ s.m.k,s.m.ns⟩) (β':=β) (w':=w') (λj=>j=i) (λx=>x=b) (eg _) (λ_ _ f h=>⟨f,h⟩) r.hp.cnt (by simp[J]) (by simp) y.size y.os y.tape y.output
          (λx hx hn=>y.block x hx hn)
          (λx hx=>(by grind))
          (by grind[List.getElem?_set_ne])
          (by grind)
          (by grind)
          (λj t hj ht'=>by grind)
          (λj e hj he=>by
           have:=d j hj e he;subst this;refine⟨?_,ak _⟩;have:=(r.hp.vers _ _ hi).1
           grind)
          (λj e e' t t' hj h1 h2 h3 y=>by
           subst hj;have:=d _ (.inl rfl) e' h2;subst this;rw[hi] at h1;injection h1 with h1;subst h1;rw[h3] at y;injection y with y;subst y;exact⟨λ_=>⟨rfl,rfl⟩,eI _,λ_=>⟨rfl,rfl⟩⟩)
          (λhev j t e hj ht' he=>by
           obtain⟨rfl,rfl⟩:=L j hj t ht';have:=d _ (.inl rfl) e he;subst this;refine⟨by rw[bj,hlen,hbl],b,I,e1,e2,h5,by have:=h6.1;simp[*],λl v c p q'=> ?_⟩;have hcd:c.aBA=true:=(Hy rs0 q (true,ds) (by rw[hr];simp)).1 c (aE q');exact Hw hcd (h6.2 l v _ p (by simp[*])) (.inl λ_ h=>h))
         have r':=r.go q1 q2 (fr:=s.fr)
         grind[bA5,Hy,inl,trn,dK]
       ·have:=Am.turn s.m (i:=i) (ids:=[]) (ob:= .box T ds (us.map λ_=>Nat.succ s.m.k)) (rv:=rv) (λ_ e he=>by
         rw[hi] at he;injection he with he;subst he;refine⟨rfl,λT0 cs0 vs0 T' cs' vs' h1 h2=> ?_⟩
         grind)
        exact this
     ·cases hk
   ·cases h
  ·cases h
 ·cases h
def aTs (hY:LayOk Y)(r:bN Y.C E s a w β){o:Oper}{f:FuncId}{d:Array Operand}{ats:Array TypeId}{S:Sum U}(ho:o.op= .call {callee:= .value (.func f),args:=d,argTypes:=ats})
  (e:Dq P g Y f S) (hmk:S.wt=true) (c:S.fr=true) {K:Sv U->St U->Option α} {z:α} (h:bPz Y s S (d.toList.map (fD s)) K=some z):
  ∃x s',K x s'=some z/\SO P Y.C E a w o x s' false/\s'.t=s.t/\s'.fr=s.fr/\Am s.m s'.m:=by
 obtain⟨x,s',i,b,h1,_,_,j,k⟩:=aJ9 hY r ho e hmk c h;exact⟨x,s',h1,λl Q hK=>j l Q λv w' β' k1 k2 _=>hK v w' β' k1 k2 (λh=>by cases h),k⟩
def aV0 (G:Good P g Y TI FZ)(r:bN Y.C E s a w β){o:Oper}{op:Op}(ho:o.op=op){K:Sv U->St U->Option α}{z:α}(h:stp Y TI FZ s op K=some z):∃x s',K x s'=some z/\SO P Y.C E a w o x s' (Nat.ble (yN FZ op) 1)/\s'.t=s.t/\s'.fr=s.fr/\Am s.m s'.m:=by
 by_cases hc:yN FZ op=0
 ·obtain⟨x,s',h1,h2,A⟩:=Ll G r ho hc h;rw[hc];exact⟨x,s',h1,SO.aDQ h2,A⟩
 unfold stp at h;split at h
 ·rename_i T x;cases hp:parts (vT s x) with
  |none=>rw[hp] at h;cases h
  |some cs=>
   rw[hp] at h;cases ha:zO cs with
   |false=>simp[ha] at h
   |true=>simp only[ha,ac] at h;exact⟨_,_,h,bIo r ho hp ha,rfl,rfl,Am.add _ _⟩
 ·rename_i T;cases hf:kC TI T with
  |none=>rw[hf] at h;cases h
  |some i=>rw[hf] at h;exact⟨_,_,h,bAx G.ti r ho hf,rfl,rfl,Am.add _ _⟩
 ·rename_i t x y;split at h
  ·rename_i i b off ps h1 h2 A;split at h
   ·rename_i T cs us rv cv v;rw[aY] at v;cases hb:(Nat.beq (len ps) i.k&&(Nat.ble (off+i.k) (len cs)&&zO ps)) with
    |false=>rw[hb] at h;cases h
    |true=>rw[hb] at h;simp only[ac] at h;simp only[aa,dA] at hb;exact⟨_,_,h,aOl G.ti r ho h1 h2 A v (ah hb.1) (ba hb.2.1) hb.2.2,rfl,rfl,aJ8 v (ah hb.1) (ba hb.2.1) (r.aCA v)⟩
   ·cases h
  ·rename_i i b c τ q z' off ps h1 h2 A;cases hv:okv s.m b c with
   |false=>rw[hv] at h;cases h
   |true=>
    rw[hv] at h;simp only[ac] at h;split at h
    ·rename_i τ' d l rv cv v;rw[aY] at v;cases hs:slq τ τ' l with
     |none=>rw[hs] at h;cases h
     |some l1=>
      rw[hs] at h;obtain⟨rfl,V⟩:=nG hs;obtain rfl:=d8 V;simp only at h;split at h
      ·rename_i ds ids d' F;rw[aOc,K4] at F;cases hb:(Nat.beq (len ps) i.k&&(Nat.ble (off+i.k) (U.K τ')&&(zO ps&&dist (b::ids)))) with
       |false=>rw[hb] at h;cases h
       |true=>
        rw[hb] at h;simp only[ac] at h;simp only[aa,dA] at hb;split at h
        ·rename_i z2 h9;obtain⟨e',k1,k2⟩:=sI hv;rw[v] at k1;injection k1 with k1;subst k1;exact⟨_,_,h,aK3 G.ti G.lay r ho h1 h2 A v k2 (ah hb.1) (ba hb.2.1) hb.2.2.1 F (zR.1 hb.2.2.2) h9,rfl,rfl,Am.tree _⟩
        ·cases h
      ·cases h
    ·cases h
  ·rename_i i b c τ q z j τ' l q' z' off ps h1 h2 A;cases hv:okv s.m b c with
   |false=>rw[hv] at h;cases h
   |true=>
    rw[hv] at h;simp only[ac] at h;split at h
    ·rename_i τ1 d L rv cv v;rw[aY] at v;cases hs:slq τ τ1 L with
     |none=>rw[hs] at h;cases h
     |some l1=>
      rw[hs] at h;obtain⟨rfl,V⟩:=nG hs;obtain rfl:=d8 V;simp only at h;split at h
      ·rename_i ds ids d' F;rw[aOc,K4] at F;cases hb:(Nat.beq (len ps) i.k&&(Nat.ble (off+i.k) (U.K τ')&&(zO ps&&dist (b::ids)))) with
       |false=>rw[hb] at h;cases h
       |true=>
        rw[hb] at h;simp only[ac] at h;simp only[aa,dA] at hb;split at h
        ·rename_i z2 h9;split at h
         ·rename_i z3 W;obtain⟨e',k1,k2⟩:=sI hv;rw[v] at k1;injection k1 with k1;subst k1;exact⟨_,_,h,aTq G.ti G.lay r ho h1 h2 A v k2 (ah hb.1) (ba hb.2.1) hb.2.2.1 F (zR.1 hb.2.2.2) h9 W,rfl,rfl,Am.tree _⟩
         ·cases h
        ·cases h
      ·cases h
    ·cases h
  ·rename_i i b c τ q z j τ' l q' z' j' τ2 l2 q2 z2 off ps h1 h2 A;cases hv:okv s.m b c with
   |false=>rw[hv] at h;cases h
   |true=>
    rw[hv] at h;simp only[ac] at h;split at h
    ·rename_i τ1 d L rv cv v;rw[aY] at v;cases hs:slq τ τ1 L with
     |none=>rw[hs] at h;cases h
     |some l1=>
      rw[hs] at h;obtain⟨rfl,V⟩:=nG hs;obtain rfl:=d8 V;simp only at h;split at h
      ·rename_i ds ids d' F;rw[aOc,K4] at F;cases hb:(Nat.beq (len ps) i.k&&(Nat.ble (off+i.k) (U.K τ2)&&(zO ps&&dist (b::ids)))) with
       |false=>rw[hb] at h;cases h
       |true=>
        rw[hb] at h;simp only[ac] at h;simp only[aa,dA] at hb;split at h
        ·rename_i w2 h9;split at h
         ·rename_i w1 W;split at h
          ·rename_i w0 h11;obtain⟨e',k1,k2⟩:=sI hv;rw[v] at k1;injection k1 with k1;subst k1;exact⟨_,_,h,aOn G.ti G.lay r ho h1 h2 A v k2 (ah hb.1) (ba hb.2.1) hb.2.2.1 F (zR.1 hb.2.2.2) h9 W h11,rfl,rfl,Am.tree _⟩
          ·cases h
         ·cases h
        ·cases h
      ·cases h
    ·cases h
  ·cases h
 ·rename_i t n ps;split at h
  ·rename_i e ek eb k zz h1;cases hb:(Nat.beq (len ps.toList) n&&(Nat.ble (n*ek) 16777216&&Ho (U:=U) e ek e)) with
   |false=>rw[hb] at h;cases h
   |true=>
    rw[hb] at h;simp only[ac] at h;simp only[aa,dA] at hb;split at h
    ·rename_i l ids d Z;cases hpl:(!Ht (kC FZ 3000000)&&(!Nat.beq n 0&&bDp ids)) with
     |true=>
      rw[hpl] at h;simp only[ac] at h;cases ids with
      |cons _ _=>simp[bDp] at hpl
      |nil=>exact⟨_,_,h,bAz G.ti G.lay r ho h1 (ah hb.1) (ba hb.2.1) hb.2.2 Z,rfl,rfl,Am.refl _⟩
     |false=>
     rw[hpl] at h;simp only[ae] at h;cases hd:dist (len s.m.o::ids) with
     |false=>rw[hd] at h;cases h
     |true=>rw[hd] at h;simp only[ac] at h;have hJ:=zR.1 hd;rw[dA] at hJ;exact⟨_,_,h,bA0 G.ti G.lay r ho h1 (ah hb.1) (ba hb.2.1) hb.2.2 Z hJ,rfl,rfl,(Am.add s.m [⟨.dead,s.m.k,s.m.k⟩]).trans (Am.tree _)⟩
    ·cases h
  ·cases h
 ·rename_i t x y;split at h
  ·rename_i e ek eb k zz h1;split at h
   ·rename_i i n h2 A;cases hb:(aN4 x y&&(Nat.ble eb 2048&&Ho (U:=U) e ek e)) with
    |false=>rw[hb] at h;cases h
    |true=>
     rw[hb] at h;simp only[ac] at h;simp only[aa] at hb;split at h
     ·rename_i ds h7;split at h
      ·rename_i z2 F;obtain⟨hg,h⟩:=lU h;exact⟨_,_,h,bD1 G.ti G.lay r ho h1 h2 A hb.1 hb.2.1 hb.2.2 h7 F hg,rfl,rfl,Am.add _ _⟩
      ·cases h
     ·cases h
   ·cases h
  ·cases h
 ·rename_i xa ats;split at h
  ·rename_i x y t t2 hxa O;split at h
   ·rename_i e ek eb k zz h1;cases hb:(Nat.beq t t2&&(Nat.ble eb 2048&&Ho (U:=U) e ek e)) with
    |false=>rw[hb] at h;cases h
    |true=>
     rw[hb] at h;simp only[ac] at h;simp only[aa] at hb;obtain rfl:t=t2:=ah hb.1;split at h
     ·rename_i i c τ n l py v Z;cases hv:okv s.m i c with
      |false=>rw[hv] at h;cases h
      |true=>
       rw[hv] at h;simp only[ac] at h;cases hs:slq e τ l with
       |none=>rw[hs] at h;cases h
       |some l1=>
        rw[hs] at h;obtain⟨rfl,V⟩:=nG hs;obtain rfl:=d8 V;simp only at h;split at h
        ·rename_i l' d' h7;cases hne:Nat.ble 1 (len l') with
         |false=>rw[hne] at h;cases h
         |true=>rw[hne] at h;obtain⟨hg,h⟩:=lU h;rw[aVy hxa,aVz O] at ho ⊢;exact⟨_,_,h,aK4 G.ti G.lay r ho h1 hb.2.1 hb.2.2 v Z hv h7 (by rw[<-dA];exact ba hne) hg,rfl,rfl,Am.turn (ids:=[]) s.m (λh=>by cases h)⟩
        ·cases h
     ·rename_i px py _ v Z;split at h
      ·rename_i i d l s1 h6;split at h
       ·rename_i l' ids d' h7;obtain⟨hg,h⟩:=lU h;rw[aVy hxa,aVz O] at ho ⊢;exact⟨_,_,h,aYo G.ti G.lay r ho h1 hb.2.1 hb.2.2 v Z h6 h7 hg,(bD5 h6).1,(bD5 h6).2.1,(bD5 h6).2.2.trans (Am.tree _)⟩
       ·cases h
      ·cases h
     ·cases h
   ·cases h
  ·cases h
 ·rename_i f xa ats;split at h
  ·rename_i S hS;have I:=G.fs f S (aM2 hS);cases B:(S.wt&&S.fr) with
   |true=>
    simp only[B,ac] at h;rw[aa] at B;have hcl:Nat.ble (yN FZ (.call {callee:= .value (.func f),args:=xa,argTypes:=ats})) 1=false:=by simp only[yN,hS,B.1,ac];rfl
    rw[hcl];exact aTs G.lay r ho I B.1 B.2 h
   |false=>
   simp only[B,ae] at h;split at h
   ·rename_i z1 hz;cases hmk:S.wt with
    |true=>rw[hmk] at h;cases h
    |false=>
     rw[hmk] at h;simp only[ae] at h;cases H:S.fr with
     |true=>rw[H] at h;simp only[ac] at h;obtain⟨q,hq,h⟩:=jV h;exact⟨_,_,h,(aK6 r ho I hz hmk H hq).to,rfl,rfl,Am.add _ _⟩
     |false=>
      rw[H] at h;simp only[ae] at h;cases J:(Gt Y S.rs||nQ (xa.toList.map (fD s))) with
      |false=>
       rw[J] at h;simp only[ae] at h;cases hi:bAh s.m (xa.toList.map (fD s)) with
       |none=>rw[hi] at h;cases h
       |some p=>obtain⟨i,c⟩:=p;rw[hi] at h;simp only at h;obtain⟨q,hq,h⟩:=jV h;exact⟨_,_,h,(aTr r ho I hz hmk H hi hq).to,rfl,rfl,Am.refl _⟩
      |true=>rw[J] at h;simp only[ac] at h;obtain⟨q,hq,h⟩:=jV h;rw[cn] at J;exact⟨_,_,h,(Nk G.lay r ho I hz hmk H J hq).to,rfl,rfl,Am.refl _⟩
   ·cases h
  ·cases h
 ·exact absurd rfl hc
 ·rename_i ta tb x;have mk:∀{K:Sv U->St U->Option α} {z:α},Yg Y TI s (.convert ta tb x) (λx=>K x s)=some z->∃y s',K y s'=some z/\SO P Y.C E a w o y s' (Nat.ble (yN FZ (.convert ta tb x)) 1)/\s'.t=s.t/\s'.fr=s.fr/\Am s.m s'.m:=λh=>by
   obtain⟨y,k1,k2⟩:=K5 G.ti r h;exact⟨y,s,k1,(SO.aDJ r (o:=o) (by rw[ho];exact k2)).to,rfl,rfl,Am.refl _⟩
  cases hm:kC FZ (tb+1000000) with
  |none=>simp only[hm] at h;exact mk h
  |some S=>
   simp only[hm] at h;split at h
   ·rename_i k1 z1 e ek eb k2 z2 k3 z3 z h1 h2 A v;cases hb:Nat.beq e Y.bt with
    |false=>rw[hb] at h;cases h
    |true=>rw[hb] at h;have he:=ah hb;subst he;exact⟨_,_,h,(bIx r ho (Ld (cB G.ti h1) rfl).1 (gB (zP (cB G.ti h2) rfl).1).1 (Ri (cB G.ti A) rfl).1 v).to,rfl,rfl,Am.refl _⟩
   ·exact mk h
 ·exact absurd rfl hc
 ·exact absurd rfl hc
 ·rename_i h1 h2 A v Z h6 h7 F h9;obtain⟨x,k1,k2⟩:=K5 G.ti r h;refine⟨x,s,k1,?_,rfl,rfl,Am.refl _⟩;exact(by
   have hle:Nat.ble (yN FZ op) 1=true\/Nat.ble (yN FZ op) 1=false:=by cases Nat.ble (yN FZ op) 1<;>simp
   have:=SO.aDJ r (o:=o) (by rw[ho];exact k2);rcases hle with e|e
   ·rw[e];exact this
   ·rw[e];exact this.soft)
end
end Go.EV
namespace Go.EV
open Go.RowKit Go.VK
variable {U:Uni} {Y:Lay U} {TI:List (Nat×TInfo)} {FZ:List (Nat×Sum U)} {P:Program} {g:GI} {E:Env U g}
structure Ag (D:Nat->Prop) (s s':St U):Prop where
 t:∀n,¬D n->s'.t[n]? =s.t[n]?
 tl:s'.t.length=s.t.length
 fr:s'.fr=s.fr
 m:Am s.m s'.m
theorem Ag.refl {D:Nat->Prop}(s:St U):Ag D s s:=⟨λ_ _=>rfl,rfl,rfl,Am.refl _⟩
theorem Ag.trans {D:Nat->Prop}{s s' c:St U}(h:Ag D s s')(d:Ag D s' c):Ag D s c:=⟨λn hn=>(d.t n hn).trans (h.t n hn),d.tl.trans h.tl,d.fr.trans h.fr,h.m.trans d.m⟩
def Ag.mono {D D':Nat->Prop}{s s':St U}(h:Ag D s s')(hd:∀n,D n->D' n):Ag D' s s':=⟨λn hn=>h.t n (λc=>hn (hd n c)),h.tl,h.fr,h.m⟩
def Ag.put {D:Nat->Prop}{s s':St U}(h:Ag D s s'){d:Option Nat}{x:Sv U}(hd:∀n,d=some n->D n):Ag D s (put s' d x):=by
 cases d with
 |none=>exact h
 |some n=>
  refine⟨λk hk=> ?_,?_,h.fr,h.m⟩
  ·simp only[EV.put,dK];rw[bg (λe=>hk (by rw[<-e];exact hd n rfl))];exact h.t k hk
  ·simp only[EV.put,dK,ao];exact h.tl
section
variable {s:St U} {a:Act} {w:World} {β:List Tr} {α:Type} {C:Cod U}
def bN.set (r:bN C E s a w β){n:Nat}{x:Sv U}(h:x.mean C w (E.X β) β s.m (a.tmps.getD n undef)):bN C E (EV.put s (some n) x) a w β:=by
 refine⟨r.hp,r.defers,by simp only[EV.put,dK,ao];exact r.tsz,λm y hm=> ?_⟩;simp only[EV.put,dK] at hm ⊢;by_cases he:n=m
 ·subst he;have hl:n<s.t.length:=by have:=lt_of_some hm;simpa using this
  rw[bf hl] at hm;injection hm with hm;subst hm;exact h
 ·rw[bg he] at hm;exact r.tm m y hm
def aV1 (r:bN C E s a w β){n:Nat}{T F:St U->Option α}{z:α}(h:tst n s T F=some z):
  ∃b s',a.tmps.getD n undef= .bool b/\n<s.t.length/\bN C E s' a w β/\(b=true->T s'=some z)/\(b=false->F s'=some z)/\Ag (λk=>k=n) s s':=by
 unfold tst at h;rw[aY] at h;split at h
 ·rename_i b p;have hm:a.tmps.getD n undef= .bool b:=r.tm n _ p;cases b with
  |true=>exact⟨true,_,hm,lt_of_some p,r.set (x:= .l (.bool true)) hm,λ_=>h,λh=>(by cases h),(Ag.refl s).put (λk e=>by injection e with e;exact e.symm)⟩
  |false=>exact⟨false,_,hm,lt_of_some p,r.set (x:= .l (.bool false)) hm,λh=>(by cases h),λ_=>h,(Ag.refl s).put (λk e=>by injection e with e;exact e.symm)⟩
 ·rename_i c m p;obtain⟨i,f,k1,k2,k3⟩:=r.tm n _ p;rw[aY,k1] at h;simp only at h;cases hb:decide ((i:Int)<m) with
  |true=>
   rw[hb] at h k2;have y:=of_decide_eq_true hb;have v:∀(q j:Nat) (f':Bool),s.m.ns[q]? =some (j,f')->∃A,(upd s.m.ns c (i,true))[q]? =some (j,A):=λq j f' d=>by
    rw[dK];by_cases he:c=q
    ·subst he;rw[k1] at d;injection d with d;injection d with d _;subst d;exact⟨true,bf (lt_of_some k1)⟩
    ·exact⟨f',by rw[bg he];exact d⟩
   have H:bN C E ⟨s.t,⟨s.m.o,s.m.k,upd s.m.ns c (i,true)⟩,s.fr⟩ a w β:=r.aCX v (λq j d=>by
    rw[dK] at d;by_cases he:c=q
    ·subst he;rw[bf (lt_of_some k1)] at d;have B:i=j:=congrArg Prod.fst (aj d);rw[<-B];exact fc (Int.add_one_le_iff.2 y) k3
    ·rw[bg he] at d;exact r.hp.cnt q j d)
   have G:Ag (λk=>k=n) s (⟨s.t,⟨s.m.o,s.m.k,upd s.m.ns c (i,true)⟩,s.fr⟩:St U):=⟨λ_ _=>rfl,rfl,rfl,Am.aCX _ v⟩;exact⟨true,_,k2,lt_of_some p,H.set (x:= .l (.bool true)) k2,λ_=>h,λh=>(by cases h),G.put (λk e=>by injection e with e;exact e.symm)⟩
  |false=>rw[hb] at h k2;exact⟨false,_,k2,lt_of_some p,r.set (x:= .l (.bool false)) k2,λh=>(by cases h),λ_=>h,(Ag.refl s).put (λk e=>by injection e with e;exact e.symm)⟩
 ·cases h
def Wr (al:List Oper)(o:Oper)(n:Nat):Prop:=o.dst=some n\/∃j b oj,o.guard=some (j,b)/\al[j]? =some oj/\oj.dst=some n
def bD6 {al:List Oper}{j n:Nat}{oj:Oper}{b:Bool}(hj:al[j]? =some oj)(hd:oj.dst=some n)(hn:n<a.tmps.size)(hv:a.tmps.getD n undef= .bool b):yielded al.toArray a.tmps j=some b:=by
 have h2:a.tmps[n]? =some (.bool b):=by rw[cC,dh hn] at hv;rw[dh hn];exact congrArg some hv
 simp[yielded,hj,hd,h2]
def bIy {al:List Oper}{j n:Nat}{oj:Oper}(hj:al[j]? =some oj)(hd:oj.dst=some n)(hn:n<a.tmps.size)(hv:a.tmps.getD n undef=undef):yielded al.toArray a.tmps j=none:=by
 have h2:a.tmps[n]? =some undef:=by rw[cC,dh hn] at hv;rw[dh hn];exact congrArg some hv
 simp[yielded,hj,hd,h2,undef]
def Lm (r:bN C E s a w β){al:List Oper}{o:Oper}{run:St U->Option α}{K:St U->Option α}{z:α}(h:aX7 al o run s K=some z):
  ∃s',bN C E s' a w β/\Ag (Wr al o) s s'/\((Region.wanted o (yielded al.toArray a.tmps)=true/\run s'=some z)\/(Region.wanted o (yielded al.toArray a.tmps)=false/\skp o s' K=some z)):=by
 unfold aX7 at h;split at h
 ·rename_i hg;exact⟨s,r,Ag.refl s, .inl ⟨by simp[Region.wanted,hg],h⟩⟩
 ·rename_i j want hg;rw[aY] at h;split at h
  ·rename_i oj hj;split at h
   ·rename_i n hd;cases c:bSi (nth s.t n) with
    |true=>
     rw[c] at h;rw[aY] at c;have i:s.t[n]? =some (.l .und):=by
      cases hq:s.t[n]? with
      |none=>rw[hq] at c;cases c
      |some x=>
       rw[hq] at c;cases x with
       |l y=>cases y<;>first|rfl|cases c
       |_=>cases c
     have hv:a.tmps.getD n undef=undef:=r.tm n _ i;have d:=bIy (a:=a) hj hd (by rw[r.tsz];exact lt_of_some i) hv;exact⟨s,r,Ag.refl s, .inr ⟨by simp[Region.wanted,hg,d],h⟩⟩
    |false=>
     rw[c] at h;simp only[ae] at h;obtain⟨b,s',k1,k2,k3,k4,k5,k6⟩:=aV1 r h;have d:=bD6 (a:=a) hj hd (by rw[r.tsz];exact k2) k1;refine⟨s',k3,k6.mono (λk e=>by subst e;exact .inr ⟨j,want,oj,hg,hj,hd⟩),?_⟩;cases b with
     |true=>
      have p:=k4 rfl;cases want with
      |true=>exact .inl ⟨by simp[Region.wanted,hg,d],p⟩
      |false=>exact .inr ⟨by simp[Region.wanted,hg,d],p⟩
     |false=>
      have q:=k5 rfl;cases want with
      |true=>exact .inr ⟨by simp[Region.wanted,hg,d],q⟩
      |false=>exact .inl ⟨by simp[Region.wanted,hg,d],q⟩
   ·cases h
  ·cases h
def aGk (r:bN C E s a w β){al:List Oper}{o:Oper}{K:St U->Option α}{z:α}(h:grd Y TI FZ al o s K=some z):
  ∃s',bN C E s' a w β/\Ag (Wr al o) s s'/\((Region.wanted o (yielded al.toArray a.tmps)=true/\one Y TI FZ o s' K=some z)\/(Region.wanted o (yielded al.toArray a.tmps)=false/\skp o s' K=some z)):=Lm r h
def aYq (G:Good P g Y TI FZ)(r:bN Y.C E s a w β){al:List Oper}{o:Oper}{K:St U->Option α}{z:α}(h:grd Y TI FZ al o s K=some z){c:Act->World->Prop}{Q:Exit->Act->World->Prop}
  (hk:∀s' i w' β',Ag (Wr al o) s s'->K s'=some z->bN Y.C E s' i w' β'->(Nat.ble (yN FZ o.op) 1=true->Ext w w')->c i w'):if Region.wanted o (yielded al.toArray a.tmps)=true then o.wp P a w c Q else c (a.put o.dst undef) w:=by
 obtain⟨s1,j,h1,h2⟩:=aGk r h;rcases h2 with⟨d,h2⟩|⟨d,h2⟩
 ·rw[cW d];unfold one at h2;obtain⟨x,s2,k1,k2,k3,k4,k5⟩:=aV0 G j rfl h2;exact k2 c Q λv w' β' q1 q2 q3=>hk _ _ w' β' (Ag.put ⟨λn hn=>by rw[k3];exact h1.t n hn,by rw[k3];exact h1.tl,by rw[k4];exact h1.fr,h1.m.trans k5⟩ (λn e=> .inl e)) k1 (q1.put q2) q3
 ·rw[dm (by rw[d];simp)];exact hk _ _ w β (h1.put (λn e=> .inl e)) h2 (j.put (x:= .l .und) (v:=undef) (λ_=>rfl)) (λ_=>Ext.refl w)
def bUr (G:Good P g Y TI FZ)(r:bN Y.C E s a w β){al:List Oper}{o:Oper}(hc:yN FZ o.op=0){K:St U->Option α}{z:α}(h:grd Y TI FZ al o s K=some z):
  ∃v s',((Region.wanted o (yielded al.toArray a.tmps)=true/\∀w',Ext w w'->(execOp a.eval o).run P w'= .ok (.value v) w')\/(Region.wanted o (yielded al.toArray a.tmps)=false/\v=undef))/\bN Y.C E s' (a.put o.dst v) w β/\K s'=some z/\Ag (Wr al o) s s':=by
 obtain⟨s1,d,h1,h2⟩:=aGk r h;rcases h2 with⟨c,h2⟩|⟨c,h2⟩
 ·unfold one at h2;obtain⟨x,s2,k1,⟨v,i,j,k⟩,k3,k4,k5⟩:=Ll G d rfl hc h2;exact⟨v,_, .inl ⟨c,i⟩,j.put (λ_=>k),k1,Ag.put ⟨λn hn=>by rw[k3];exact h1.t n hn,by rw[k3];exact h1.tl,by rw[k4];exact h1.fr,h1.m.trans k5⟩ (λn e=> .inl e)⟩
 ·exact⟨undef,_, .inr ⟨c,rfl⟩,d.put (x:= .l .und) (v:=undef) (λ_=>rfl),h2,h1.put (λn e=> .inl e)⟩
def Xo (G:Good P g Y TI FZ){al:List Oper}{Q:Exit->Act->World->Prop}{D:Nat->Prop}:∀(l:List Oper) (s:St U) (K:St U->Option α) (z:α),(∀o∈l,∀n,Wr al o n->D n)->ops Y TI FZ al l s K=some z->
  ∀(rest:List Oper),(∀s' a w β,Ag D s s'->K s'=some z->bN Y.C E s' a w β->wpList P al.toArray Q rest a w)->∀a w β,bN Y.C E s a w β->wpList P al.toArray Q (l++rest) a w
 |[],s,K,z,_,h,rest,hk,a,w,β,r=>hk s a w β (Ag.refl s) h r
 |o::l,s,K,z,e,h,rest,hk,a,w,β,r=>by
  simp only[ops] at h;refine wpList_step λv c=>aYq G r h λs' i w' β' q1 q2 q3 _=>c _ _ ?_
  have d:=q1.mono (e o (by simp));exact Xo G l s' K z (λo ho=>e o (by simp[ho])) q2 rest (λs2 j k β2 p q t=>hk s2 j k β2 (d.trans p) q t) i w' β' q3
end
end Go.EV
namespace Go.EV
open Go.RowKit Go.VK
variable {U:Uni} {Y:Lay U} {TI:List (Nat×TInfo)} {FZ:List (Nat×Sum U)} {P:Program} {g:GI} {E:Env U g}
def Env.frm (E:Env U g)(l:List (World×Nat×Nat)):Env U g:=⟨E.X0,E.Y0,E.w0,E.prm,l,E.h0,E.hY,E.hXY,E.hg,E.pin⟩
section
variable {C:Cod U} {s:St U} {a:Act} {w w':World} {β:List Tr}
def bN.frame (r:bN C E s a w β)(hp:E.prm=[]):bN C (E.frm [(w,s.m.o.length,s.m.k)]) s a w β:=by
 have H:=r.hp;refine⟨⟨H.ext,H.len,H.vers,H.cnt,H.new,H.dist,H.nd,H.ok,H.pin,λx d=> ?_,λf e=> ?_⟩,r.defers,r.tsz,r.tm⟩
 ·have h:x∈E.prm:=d;simp_all
 ·have c:f∈[(w,s.m.o.length,s.m.k)]:=e;simp at c;subst c;refine⟨ak _,ak _,ak _, .inr ⟨Ext.refl w,λi t b hi ht _=> ?_⟩⟩;have h1:=lt_of_some ht;have h2:s.m.o.length<=i:=hi;rw[H.len] at h1;omega
def bN.aCM {l:List (World×Nat×Nat)}(r:bN C (E.frm l) s a w β)(c:E.fr=[]):bN C E s a w β:=by
 have H:=r.hp;exact⟨⟨H.ext,H.len,H.vers,H.cnt,H.new,H.dist,H.nd,H.ok,H.pin,λx d=>by
  obtain⟨h1,h2,_,e⟩:=H.prm x d;exact⟨h1,h2,by rw[c];simp,e⟩,by simp[*]⟩,r.defers,r.tsz,r.tm⟩
def bA7:∀{n k:Nat} {o:List (EO U)},unt n k o=true->∀(j:Nat) (e:EO U),j<n->o[j]? =some e->e.cv<=k
 |0,_,_,_,j,_,h,_=>by omega
 |_+1,_,[],_,j,e,_,h=>by simp at h
 |n+1,k,x::o,h,j,e,hj,he=>by
  simp only[unt,aa] at h;cases j with
  |zero=>have:=aj he;subst this;exact ba h.1
  |succ j=>exact bA7 h.2 j e (by omega) (by simpa using he)
def bN.unt (r:bN C E s a w β){f:World×Nat×Nat}(d:f∈E.fr)(h:unt f.2.1 f.2.2 s.m.o=true):Ext f.1 w:=by
 obtain⟨_,_,_,c⟩:=r.hp.fr f d;rcases c with⟨j,e,h1,h2,c⟩|⟨c,_⟩
 ·have:=bA7 h j e h1 h2;omega
 ·exact c
def Env.ahd (E:Env U g)(b:Nat)(blk:Obj)(hb:E.w0.heap.size<=b):Env U g:=
 ⟨λb'=>E.X0 b'\/b'=b,E.Y0,E.w0,(b,blk)::E.prm,E.fr,λb' h=>by
  rcases h with h|rfl
  ·rcases E.h0 b' h with h|⟨x,d,e⟩
   ·exact .inl h
   ·exact .inr ⟨x,by simp[d],e⟩
  ·exact .inr ⟨(b',blk),cX,rfl⟩,E.hY,λb' h c=>by
  rcases h with h|rfl
  ·exact E.hXY b' h c
  ·have:=E.hY _ c;omega,E.hg,E.pin⟩
theorem bGl {b:Nat}{blk:Obj}{hb:E.w0.heap.size<=b}{β:List Tr}{b':Nat}:(E.ahd b blk hb).X β b'↔E.X β b'\/b'=b:=by
 unfold Env.X;constructor
 ·rintro((h|h)|h|h)
  ·simp[*]
  ·exact .inr h
  ·exact .inl (.inr (.inl h))
  simp[*]
 ·rintro((h|h|h)|h)
  ·exact .inl (.inl h)
  ·exact .inr (.inl h)
  ·simp[*]
  ·exact .inl (.inr h)
def bN.ahead (r:bN C E s a w β){blk:Obj}(hb:E.w0.heap.size<=w.heap.size):bN C (E.ahd w.heap.size blk hb) s a (w.alloc blk) β:=by
 have H:=r.hp;have he:Ext w (w.alloc blk):=Ext.alloc _ _;have j:(w.alloc blk).heap[w.heap.size]? =some blk:=by show(w.heap.push blk)[w.heap.size]? =some blk;simp
 have ev:Evo w (w.alloc blk) (E.X β) ((E.ahd w.heap.size blk hb).X β) β β s.m s.m s.m.o.length s.m.ns.length s.m.k:=⟨he.size,(by grind[bGl]),λ_ _ _ h=>he.cell h,ak _,(by grind),λi e t _ h1 h2=>⟨e,t,h1,h2,λ_=>⟨rfl,rfl⟩,λ_=>⟨rfl,rfl,rfl,λb hb=>he.block b (H.new i t b h2 hb).2⟩,λh=>⟨h,rfl⟩⟩⟩;refine⟨⟨H.ext.trans (Bel.aBN he),H.len,H.vers,H.cnt,λi t b h1 h2=>⟨(H.new i t b h1 h2).1,cg (H.new i t b h1 h2).2 he.size⟩,H.dist,H.nd,λi t e h1 h2=>Ob.aBG ev (H.ok i t e h1 h2) λb hb=>he.block b (H.new i t b h1 hb).2,λx d=>Sv.aAW ev (H.pin x d),λx d=> ?_,λf l=> ?_⟩,r.defers,r.tsz,λn x d=>Sv.aAW ev (r.tm n x d)⟩
 ·have c:x∈(w.heap.size,blk)::E.prm:=d;rcases bc.1 c with rfl|c
  ·refine⟨hb,j,λf l=> ?_,λi t ht hm=> ?_⟩
   ·exact(H.fr f l).2.2.1
   ·have:=(H.new i t _ ht hm).2;omega
  ·obtain⟨h1,h2,p,v⟩:=H.prm x c;exact⟨h1,(he.block _ (ce.1 h2).1).trans h2,p,v⟩
 ·obtain⟨h1,h2,h0,p⟩:=H.fr f l;exact⟨h1,h2,bz h0 he.size,p.imp id λq=>⟨q.1.trans he,q.2⟩⟩
def bN.aDV {b:Nat}{blk:Obj}{hb:E.w0.heap.size<=b}(r:bN C (E.ahd b blk hb) s a w β):bN C E s a w β:=by have H:=r.hp;have ev:Evo w w ((E.ahd b blk hb).X β) (E.X β) β β s.m s.m s.m.o.length s.m.ns.length s.m.k:=⟨ak _,(by grind[bGl,inl]),λ_ _ _ h=>h,ak _,(by grind),(by grind)⟩;exact⟨⟨H.ext,H.len,H.vers,H.cnt,H.new,H.dist,H.nd,λi t e h1 h2=>Ob.aBG ev (H.ok i t e h1 h2) λb hb=>rfl,λx c=>Sv.aAW ev (H.pin x c),λx c=>H.prm x (cQ _ c),H.fr⟩,r.defers,r.tsz,λn x c=>Sv.aAW ev (r.tm n x c)⟩
def bN.aDH {b:Nat}{blk:Obj}{hb:E.w0.heap.size<=b}(r:bN C (E.ahd b blk hb) s a w β)(L:E.prm=[]){e':EO U}{t':Tr}{c:Nat}(hk:s.m.k<=c)(hv:e'.rv<=c/\e'.cv<=c)(ht:t'.all=[b])
  (B:Evo w w ((E.ahd b blk hb).X β) (E.X (β++[t'])) β (β++[t']) s.m ⟨s.m.o++[e'],c,s.m.ns⟩ s.m.o.length s.m.ns.length s.m.k->w.heap[b]? =some blk->e'.ob.ok C w (E.X (β++[t'])) (β++[t']) ⟨s.m.o++[e'],c,s.m.ns⟩ t'):
  bN C E ⟨s.t,⟨s.m.o++[e'],c,s.m.ns⟩,s.fr⟩ a w (β++[t']):=by
 have H:=r.hp;have hlen:=H.len;obtain⟨_,F,G,O⟩:=H.prm (b,blk) cX;have I:b<w.heap.size:=(ce.1 F).1;have ev:Evo w w ((E.ahd b blk hb).X β) (E.X (β++[t'])) β (β++[t']) s.m ⟨s.m.o++[e'],c,s.m.ns⟩ s.m.o.length s.m.ns.length s.m.k:=by
  refine⟨ak _,λb' _ h=>bGl.2 ?_,λ_ _ _ h=>h,hk,(by grind),(by grind)⟩
  ·rcases h with h|h|⟨u,p,hm⟩
   ·exact .inl (.inl h)
   ·exact .inl (.inr (.inl h))
   ·rcases bp.1 p with p|p
    ·exact .inl (.inr (.inr ⟨u,p,hm⟩))
    simp_all
  all_goals grind
 have hb':∀(i:Nat) (t:Tr),(β++[t'])[i]? =some t->β[i]? =some t\/(i=β.length/\t=t'):=(by grind[List.getElem?_append_left,inl,lt_of_some]);have l:∀(i:Nat) (e:EO U),(s.m.o++[e'])[i]? =some e->s.m.o[i]? =some e\/(i=s.m.o.length/\e=e'):=(by grind[List.getElem?_append_left,inl,lt_of_some]);refine⟨⟨H.ext,by simp[hlen],λi e he=> ?_,H.cnt,λi t x h1 h2=> ?_,λi j t u x q h1 h2 v J=> ?_,λi t h1=> ?_,λi t e h1 h2=> ?_,λx d=>Sv.aAW ev (H.pin x d),(by simp[*]),λf z=> ?_⟩,r.defers,r.tsz,λn x d=>Sv.aAW ev (r.tm n x d)⟩
 ·rcases l i e he with h|⟨_,rfl⟩
  ·have:=H.vers i e h;grind
  ·exact hv
 ·rcases hb' i t h1 with h|⟨_,rfl⟩
  ·exact H.new i t x h h2
  simp_all
 ·rcases hb' i t h1 with h|⟨A,rfl⟩<;>rcases hb' j u h2 with y|⟨S,rfl⟩
  ·exact H.dist i j t u x q h y v J
  all_goals grind
 ·rcases hb' i t h1 with h|⟨_,rfl⟩
  ·exact H.nd i t h
  simp[*]
 ·rcases hb' i t h1 with h|⟨A,rfl⟩
  ·rcases l i e h2 with y|⟨A,_⟩
   ·exact Ob.aBG ev (H.ok i t e h y) λ_ _=>rfl
   simp_all
  simp_all
 ·obtain⟨h1,h2,h0,v⟩:=H.fr f z;refine⟨by simp;omega,bz h2 hk,h0,?_⟩;rcases v with⟨j,e,q1,q2,q3⟩|⟨q1,q2⟩
  ·grind
  ·refine .inr ⟨q1,λi t x hi h1 d=> ?_⟩;rcases hb' i t h1 with h|⟨_,rfl⟩
   ·grind
   ·rw[ht] at d;simp at d;subst d;exact G f z
def mkF (op:Op)(b:Nat):Value:=match op with
 | .buildSlice _ n _=> .slice (some ⟨b,0,none⟩) n n
 |_=> .pointer (some ⟨b,0,none⟩)
def Flp (P:Program)(a:Act)(o:Oper)(blk:Obj):Prop:=∀w:World,(execOp a.eval o).run P w= .ok (.value (mkF o.op w.heap.size)) (w.alloc blk)
def bD7 {γ:Type}{x:Option γ}(h:(!Ht x)=true):∃y,x=some y:=by
 cases x with
 |none=>cases h
 |some y=>simp
def L6 (c:sG P TI=true){o:Oper}{T:TypeId}{i:TInfo}(ho:o.op= .alloc T)(d:kC TI T=some i):∃vs:Array Value,Flp P a o (.cells vs T)/\∀(w:World) (X:Nat->Prop) (β:List Tr) (m:Mm U),Ms Y.C w X β m vs.toList (i.z.map Kz.lf):=by obtain⟨j,z,k3,k4,k5⟩:=aM4 (cB c d);refine⟨z.cells,λw=> ?_,λw X β m=>Rk k5⟩;simp_all[execOp,Instr.alloc,zeroValue,typeInfo,k3,k4,newVar,newRow,mkF]
def Rm {T:TypeId}(h:Dm Y TI s (.alloc T)=true):∃i,kC TI T=some i:=bD7 h
def Rn {t:TypeId}{n:Nat}{ps:Array (Nat×Operand)}(h:Dm Y TI s (.buildSlice t n ps)=true):∃e ek eb k c l d,kC TI t=some ⟨.sl e ek eb,k,c⟩/\ps.toList.length=n/\n*ek<=16777216/\Ho (U:=U) e ek e=true/\Rf Y s e 0 ps.toList=some (l,[],d):=by
 unfold Dm at h;simp only at h;split at h
 ·rename_i e ek eb k c h1;simp only[aa,dA] at h;obtain⟨q1,q2,q3,q4⟩:=h;split at q4
  ·rename_i l d i;exact⟨e,ek,eb,k,c,l,d,h1,ah q1,ba q2,q3,i⟩
  ·cases q4
 ·cases h
def aGl (j:sG P TI=true)(hY:LayOk Y)(r:bN Y.C E s a w β){o:Oper}{t:TypeId}{n e ek eb k:Nat}{x:List Kz}{ps:Array (Nat×Operand)}{l:List (U.El e)}{d:Bool}(ho:o.op= .buildSlice t n ps)
  (h1:kC TI t=some ⟨.sl e ek eb,k,x⟩) (h2:ps.toList.length=n) (y:n*ek<=16777216) (q:Ho (U:=U) e ek e=true) (z:Rf Y s e 0 ps.toList=some (l,[],d)):
  ∃cells:Array Value,Flp P a o (.cells cells e)/\0<U.K e/\n<=maxLen/\l.length=n/\cells.size=n*U.K e/\OwL Y.C w (E.X β) d cells.toList (l.map (Y.C.cel e)).flatten []:=by
 have c:=(zP (cB j h1) rfl).1;obtain⟨_,_,_,_,_,_,_,_,h⟩:=gB c;simp only[Ho,aa] at q;have i:U.K e=ek:=ah q.2;obtain⟨vs,k1,k2,k3,k4,k5⟩:=Li hY r z;rw[i] at k4;have p:n<=maxLen:=by
  have:n*1<=n*ek:=fv _ h
  grind[maxLen]
 refine⟨(vs.map λv=>v.cells.toList).flatten.toArray,λw=> ?_,by rw[i];exact h,p,k3.trans h2,?_,by rw[List.toList_toArray];exact k5⟩
 ·obtain⟨cells,q1,q2⟩:=K6 (w:=w) c (k2.trans h2) y k1 k4 ho;have:cells=(vs.map λv=>v.cells.toList).flatten.toArray:=by rw[<-q2]
  grind[mkF,q1]
 ·have:=k5.len;rw[Hr (Y.C.hlen e),k3,h2] at this;assumption
def aV2 (G:Good P g Y TI FZ)(r:bN Y.C E s a w β){o:Oper}(h:Dm Y TI s o.op=true):∃blk,Flp P a o blk:=by
 cases ho:o.op with
 |alloc T=>
  rw[ho] at h;obtain⟨i,c⟩:=Rm h;obtain⟨vs,k,_⟩:=L6 (Y:=Y) (a:=a) G.ti ho c
  grind
 |buildSlice t n ps=>
  rw[ho] at h;obtain⟨e,ek,eb,k,x,l,d,h1,h2,j,p,v⟩:=Rn h;obtain⟨cells,q,_⟩:=aGl G.ti G.lay r ho h1 h2 j p v
  grind
 |_=>rw[ho] at h;cases h
def Flp.keep {o:Oper}{blk:Obj}(h:Flp P a o blk){d:Option Nat}{v:Value}(hd:bDu o d=true):Flp P (a.put d v) o blk:=by
 have e:execOp (a.put d v).eval o=execOp a.eval o:=by
  cases d with
  |none=>rfl
  |some n=>
   have c:(match o.op with
    | .alloc _=>true
    | .buildSlice _ _ ps=>ps.toList.all λx=>match x.2 with| .tmp m=> !Nat.beq n m|_=>true
    |_=>false)=true:=hd
   cases ho:o.op with
   |alloc T=>grind[execOp]
   |buildSlice t m ps=>
    rw[ho] at c;simp only[co] at c;have:ps.map (λ(i,x)=>(i,(a.put (some n) v).eval x))=ps.map (λ(i,x)=>(i,a.eval x)):=by
     apply Array.map_congr_left;intro x j;have:=c x (by simpa using j);obtain⟨i,x⟩:=x;simp only[cU,true_and];refine Act.eval_put λd hd k=> ?_
     simp_all
    grind[execOp]
   |_=>rw[ho] at c;cases c
 intro w;rw[e];exact h w
theorem bIz {w:World}{x y:Obj}(h:w.alloc x=w.alloc y):x=y:=by
 have h1:w.heap.push x=w.heap.push y:=congrArg World.heap h;have h2:(w.heap.push x)[w.heap.size]? =(w.heap.push y)[w.heap.size]? :=by rw[h1]
 grind
def Flp.inj {o:Oper}{x y:Obj}(w:World)(h1:Flp P a o x)(h2:Flp P a o y):x=y:=by
 have:=(h1 w).symm.trans (h2 w)
 grind[bIz]
def bI0 (G:Good P g Y TI FZ){b:Nat}{blk:Obj}{hb:E.w0.heap.size<=b}(r:bN Y.C (E.ahd b blk hb) s a w β)(B:E.prm=[]){o:Oper}(F:Flp P a o blk)(hg:Dm Y TI s o.op=true){α:Type}{K:Sv U->St U->Option α}{z:α}(h:stp Y TI FZ s o.op K=some z):
  ∃x s' β',K x s'=some z/\bN Y.C E s' a w β'/\x.mean Y.C w (E.X β') β' s'.m (mkF o.op b)/\s'.t=s.t/\s'.fr=s.fr/\Am s.m s'.m:=by
 have hlen:=r.hp.len;cases ho:o.op with
 |alloc T=>
  rw[ho] at hg h;obtain⟨i,hi⟩:=Rm hg;obtain⟨vs,k,O⟩:=L6 (Y:=Y) (a:=a) G.ti ho hi;have c:=F.inj w k;subst c;have q:K (.l (.box (len s.m.o) 0)) (psh s (.box T (i.z.map Kz.lf) (i.z.map λ_=>s.m.k)))=some z:=by simp_all[stp,kC,len,psh,Kz.lf]
  have r':=r.aDH B (e':=⟨.box T (i.z.map Kz.lf) (i.z.map λ_=>s.m.k),s.m.k,s.m.k⟩) (t':=⟨some b,0,0,[]⟩) (ak _) (by grind) rfl (λp j=>⟨by simp,b,vs.toList,rfl,rfl,by simpa using j,O _ _ _ _⟩);refine⟨_,_,_,q,r',⟨rfl,⟨.box T (i.z.map Kz.lf) (i.z.map λ_=>s.m.k),s.m.k,s.m.k⟩,⟨some b,0,0,[]⟩,?_,?_,λ_=>⟨_,rfl,rfl⟩⟩,rfl,rfl,Am.add _ _⟩
  all_goals grind[List.getElem?_append_right,dA,psh]
 |buildSlice t n ps=>
  rw[ho] at hg h;obtain⟨e,ek,eb,k,W,l,d,h1,h2,H,I,J⟩:=Rn hg;obtain⟨cells,q1,q2,q3,q4,q5,q6⟩:=aGl G.ti G.lay r ho h1 h2 H I J;have c:=F.inj w q1;subst c;cases hpl:(!Ht (kC FZ 3000000)&&(!Nat.beq n 0&&bDp ([]:List Nat))) with
  |true=>
  have q:K (.l (.sl e l)) s=some z:=by
   have:stp Y TI FZ s (.buildSlice t n ps) K=bif Nat.beq (len ps.toList) n&&(Nat.ble (n*ek) 16777216&&Ho (U:=U) e ek e) then(bif !Ht (kC FZ 3000000)&&(!Nat.beq n 0&&bDp ([]:List Nat)) then K (.l (.sl e l)) s else bif dist (len s.m.o::[]) then K (.l (.own (len s.m.o) s.m.k)) ⟨s.t,⟨upd (s.m.o++[⟨.dead,s.m.k,s.m.k⟩]) (len s.m.o) ⟨.tree e d l,s.m.k,Nat.succ s.m.k⟩,Nat.succ s.m.k,s.m.ns⟩,s.fr⟩ else none) else none:=by
    show(match kC TI t with
     |some ⟨.sl e ek _,_,_⟩=>_
     |_=>none)=_
    simp[*]
   grind
  obtain⟨_,S,_,p4⟩:=r.hp.prm (b, .cells cells e) cX;refine⟨_,_,β,q,r.aDV,?_,rfl,rfl,Am.refl _⟩;refine Ow.rd (X:=(E.ahd b (.cells cells e) hb).X β) (Z:=E.X β) (by grind[bGl,inl]) (Ow.sl ⟨some b,n,n,[]⟩ q2 (by
   exact⟨by rw[q4,cP,q5], .inr ⟨b,n,cells,by rw[q4];rfl,cD _,S,by rw[q4];exact ak _,q3,q5,by rw[q4];exact eC (by rw[cP,q5];exact ak _)⟩⟩) q6) (λx L hX=> ?_)
  simp[Tr.all] at L;subst L;rcases hX with hX|hX|⟨u,hu,hm⟩
  ·rcases E.h0 _ hX with hX|⟨y,hy,_⟩
   all_goals grind
  ·have:=E.hY _ hX;omega
  grind[List.mem_iff_getElem?]
  |false=>
  have v:∀A:List (EO U),A=s.m.o++[(⟨.tree e d l,s.m.k,Nat.succ s.m.k⟩:EO U)]->K (.l (.own (len s.m.o) s.m.k)) ⟨s.t,⟨A,Nat.succ s.m.k,s.m.ns⟩,s.fr⟩=some z:=λA V=>by
   have:stp Y TI FZ s (.buildSlice t n ps) K=bif Nat.beq (len ps.toList) n&&(Nat.ble (n*ek) 16777216&&Ho (U:=U) e ek e) then(bif dist (len s.m.o::[]) then K (.l (.own (len s.m.o) s.m.k)) ⟨s.t,⟨upd (s.m.o++[⟨.dead,s.m.k,s.m.k⟩]) (len s.m.o) ⟨.tree e d l,s.m.k,Nat.succ s.m.k⟩,Nat.succ s.m.k,s.m.ns⟩,s.fr⟩ else none) else none:=by
    show(match kC TI t with
     |some ⟨.sl e ek _,_,_⟩=>_
     |_=>none)=_
    rw[h1];simp only;rw[J];simp only[hpl,ae];rfl
   rw[this,dA,h2] at h;rw[show Nat.beq n n=true from dr n,eK H,I] at h;simp only[dl,ac] at h;have hd:dist [len s.m.o]=true:=rfl;simp_all[dA,dK,fi,ak,gC,ac]
  have r':=r.aDH B (e':=⟨.tree e d l,s.m.k,Nat.succ s.m.k⟩) (t':=⟨some b,n,n,[]⟩) (eg _) (by grind) rfl (λp j=>by
   refine⟨q2,cells.toList,?_,q6.conv (ak _) p.hX (λ_ _ _ h=>h) (by simp)⟩;exact⟨by rw[q4,cP,q5], .inr ⟨b,n,cells,by rw[q4];rfl,cD _,j,by rw[q4];exact ak _,q3,q5,by rw[q4];exact eC (by rw[cP,q5];exact ak _)⟩⟩)
  refine⟨_,_,_,v _ rfl,r',⟨⟨eg _,rfl⟩,⟨.tree e d l,s.m.k,Nat.succ s.m.k⟩,⟨some b,n,n,[]⟩,?_,?_,λ_=>rfl⟩,rfl,rfl,?_⟩
  ·simp[dA]
  ·grind[List.getElem?_append_right,dA]
  ·have a1:=(Am.add s.m [(⟨.dead,s.m.k,s.m.k⟩:EO U)]).trans (Am.tree (ids:=[]) (i:=len s.m.o) (τ:=e) (d:=d) (l:=l) (rv:=s.m.k) _);have e1:(⟨Re (Nat.succ s.m.k) [] (upd (s.m.o++[(⟨.dead,s.m.k,s.m.k⟩:EO U)]) (len s.m.o) ⟨.tree e d l,s.m.k,Nat.succ s.m.k⟩),Nat.succ s.m.k,s.m.ns⟩:Mm U)=⟨s.m.o++[⟨.tree e d l,s.m.k,Nat.succ s.m.k⟩],Nat.succ s.m.k,s.m.ns⟩:=by rw[dK,dA,fi _ _ (ak _),gC];rfl
   simp_all
 |_=>rw[ho] at hg;cases hg
end
end Go.EV
namespace Go.EV
open Go.RowKit Go.VK
variable {U:Uni} {C:Cod U} {P:Program} {g:GI} {E:Env U g}
def Ob.bd (N M K:Nat):Ob U->Prop
 | .box _ cs _=>∀c∈cs,c.bd N M K
 |_=>True
def lQ (β:List Tr):Option Nat->Tr
 |some i=>match β[i]? with|some t=>t|none=>aGh
 |none=>aGh
inductive Src (N M K:Nat) (m:Mm U) (q:Option Nat) (j:Nat) (e':EO U):Prop
 |keep (hq:q=some j) (he:m.o[j]? =some e') (hb:e'.ob.bd N M K)
 |box (hq:q=some j) {e:EO U} {T:Nat} {cs cs':List (Lf U)} {vs vs':List Nat} (he:m.o[j]? =some e) (h1:e.ob= .box T cs vs) (h2:e'.ob= .box T cs' vs') (l1:cs'.length=cs.length) (l2:cs'.length=vs'.length) (hc:∀(i:Nat) (c:Lf U),cs'[i]? =some c->c= .any\/(cs[i]? =some c/\c.bd N M K)) (hv:K<e'.rv/\K<e'.cv)
 |dead (h:e'.ob= .dead) (hv:K<e'.rv/\K<e'.cv)
 |tree {i:Nat} {e:EO U} {τ:Nat} {d d':Bool} {l:List (U.El τ)} (hq:q=some i) (he:m.o[i]? =some e) (h1:e.ob= .tree τ d' l) (hd:d=true->d'=true) (h2:e'.ob= .tree τ d l) (hv:K<e'.rv/\K<e'.cv)
 |ti {e:EO U} {τ:Nat} {d d':Bool} {l:List (U.El τ)} (hq:q=some j) (he:m.o[j]? =some e) (h1:e.ob= .tree τ d' l) (hd:d=true->d'=true) (h2:e'.ob= .tree τ d l) (hr:e'.rv=e.rv) (hv:K<e'.cv)
 |nil {τ:Nat} {d:Bool} (hq:q=none) (h2:e'.ob= .tree τ d []) (hK:0<U.K τ) (hv:K<e'.rv/\K<e'.cv)
section
variable {m m':Mm U} {w:World} {β:List Tr} {σ:List (Option Nat)} {N M K:Nat}
def aBv {q:Option Nat}{b:Nat}(h:b∈(lQ β q).all):∃i t,q=some i/\β[i]? =some t/\lQ β q=t:=by
 cases q with
 |none=>simp[lQ,qJ] at h
 |some i=>
  cases hb:β[i]? with
  |none=>simp[lQ,hb,qJ] at h
  |some t=>exact⟨i,t,rfl,hb,by simp[lQ,hb]⟩
def Hp.ren (H:Hp C E m β w)(hl:σ.length=m'.o.length)(hN:N<=m'.o.length)(G:∀(j j' i:Nat),σ[j]? =some (some i)->σ[j']? =some (some i)->j=j')(hk:K<=m'.k)
  (I:∀(i:Nat) (e:EO U),m'.o[i]? =some e->e.rv<=m'.k/\e.cv<=m'.k) (J:∀(a i:Nat),m'.ns[a]? =some (i,true)->(i:Int)+1<=9223372036854775807)
  (hn:∀(a i:Nat) (f:Bool),a<M->m.ns[a]? =some (i,f)->∃f',m'.ns[a]? =some (i,f'))
  (hs:∀(j:Nat) (q:Option Nat) (e':EO U),σ[j]? =some q->m'.o[j]? =some e'->Src N M K m q j e') (L:∀x∈E.pin,x.1.bd N M K) (S:E.fr=[]):
  Hp C E m' (σ.map (lQ β)) w/\Evo w w (E.X β) (E.X (σ.map (lQ β))) β (σ.map (lQ β)) m m' N M K:=by
 have y:∀(j:Nat) (t:Tr),(σ.map (lQ β))[j]? =some t->∃q,σ[j]? =some q/\t=lQ β q:=λj t h=>by
  rw[bn] at h;cases hq:σ[j]? with
  |none=>simp[hq] at h
  |some q=>simp only[hq,dn,ai] at h;exact⟨q,rfl,h.symm⟩
 have hX:∀b,E.X (σ.map (lQ β)) b->E.X β b:=by
  rintro b (h|h|⟨t,ht,hb⟩)
  ·exact .inl h
  ·exact .inr (.inl h)
  ·obtain⟨q,_,rfl⟩:=ct.1 ht;obtain⟨i,t,_,h2,z⟩:=aBv hb;rw[z] at hb;exact .inr (.inr ⟨t,aE h2,hb⟩)
 have A:Evo w w (E.X β) (E.X (σ.map (lQ β))) β (σ.map (lQ β)) m m' N M K:=by
  refine⟨ak _,λb _=>hX b,λ_ _ _ h=>h,hk,λa i f ha h=>hn a i f ha h,λi e t hi he ht=> ?_⟩;have V:i<m'.o.length:=cg hi hN;have h1:m'.o[i]? =some m'.o[i]:=ab V;have h2:σ[i]? =some (σ[i]'(by omega)):=ab _;have z:(σ.map (lQ β))[i]? =some (lQ β (σ[i]'(by omega))):=by rw[bn,h2];rfl
  refine⟨_,_,h1,z,?_⟩;have W:=hs i _ _ h2 h1;have big:K<(m'.o[i]).rv/\K<(m'.o[i]).cv->(m'.o[i]).ob.aAY=false->((m'.o[i]).rv<=K->(m'.o[i]).rv=e.rv/\(lQ β (σ[i]'(by omega))).val=t.val)/\((m'.o[i]).cv<=K->(m'.o[i]).cv=e.cv/\(m'.o[i]).ob=e.ob/\lQ β (σ[i]'(by omega))=t/\∀b∈t.all,w.heap[b]? =w.heap[b]?)/\((m'.o[i]).ob.aAY=true->e.ob.aAY=true/\(lQ β (σ[i]'(by omega))).b=t.b):=λhv hb=>
   ⟨λh=>absurd h (by omega),λh=>absurd h (by omega),λh=>by rw[hb] at h;cases h⟩
  cases W with
  |keep hq r hb=>
   rw[he] at r;have e0:e=m'.o[i]:=aj r;have B:lQ β (σ[i]'(by omega))=t:=by rw[hq];simp[lQ,ht]
   rw[B,<-e0];exact⟨λ_=>⟨rfl,rfl⟩,λ_=>⟨rfl,rfl,rfl,λ_ _=>rfl⟩,λh=>⟨h,rfl⟩⟩
  |box hq r q1 q2 _ _ _ hv=>
   rw[he] at r;have e0:=aj r;have B:lQ β (σ[i]'(by omega))=t:=by rw[hq];simp[lQ,ht]
   rw[B];refine⟨λh=>absurd h (by omega),λh=>absurd h (by omega),λ_=>⟨?_,rfl⟩⟩;rw[e0,q1];rfl
  |dead h hv=>exact big hv (by rw[h];rfl)
  |tree _ _ _ _ h hv=>exact big hv (by rw[h];rfl)
  |ti hq r _ _ h hr hv=>
   rw[he] at r;have e0:=aj r;have B:lQ β (σ[i]'(by omega))=t:=by rw[hq];simp[lQ,ht]
   rw[B,e0];exact⟨λ_=>⟨hr,rfl⟩,λh=>absurd h (by omega),λhb=>by rw[h] at hb;cases hb⟩
  |nil _ h _ hv=>exact big hv (by rw[h];rfl)
 refine⟨⟨H.ext,by rw[bj,hl],I,J,?_,?_,?_,?_,λx O=>Sv.aAZ A (L x O) (H.pin x O),λx O=> ?_,λf hf=>by rw[S] at hf;simp at hf⟩,A⟩
 ·intro j t b ht hb;obtain⟨q,_,rfl⟩:=y j t ht;obtain⟨i,t,_,h2,z⟩:=aBv hb;rw[z] at hb;exact H.new i t b h2 hb
 ·intro j j' t u b Z ht hu hb F;obtain⟨q,hq,rfl⟩:=y j t ht;obtain⟨q',hq',rfl⟩:=y j' u hu;obtain⟨i,t,B,h2,z⟩:=aBv hb;obtain⟨i',t',e1',h2',h3'⟩:=aBv F;rw[z] at hb;rw[h3'] at F;refine H.dist i i' t t' b (λe=>Z ?_) h2 h2' hb F;subst e;subst B;subst e1';exact G j j' i hq hq'
 ·intro j t ht;obtain⟨q,hq,rfl⟩:=y j t ht;cases q with
  |none=>rw[show lQ β none=aGh from rfl,qJ];exact gl
  |some i=>
   cases hb:β[i]? with
   |none=>simp[lQ,hb,qJ]
   |some t=>simp only[lQ,hb];exact H.nd i t hb
 ·intro j t e' ht r;obtain⟨q,hq,rfl⟩:=y j t ht;cases hs j q e' hq r with
  |keep hq he hb=>
   subst hq;obtain⟨t,ht⟩:=H.tr he;simp only[lQ,ht];have p:=H.ok j t e' ht he;generalize e'.ob=x at p hb ⊢;cases x with
   |dead=>trivial
   |box T cs us=>obtain⟨h0,b,vs,h1,h2,z,h4⟩:=p;exact⟨h0,b,vs,h1,h2,z,h4.evo A hb⟩
   |tree τ d l=>obtain⟨h1,xs,h2,z⟩:=p;exact⟨h1,xs,h2,z.conv (ak _) (λb _=>hX b) (λ_ _ _ h=>h) (λ_ _=>rfl)⟩
  |box hq he h1 h2 l1 l2 hc hv=>
   subst hq;obtain⟨t,ht⟩:=H.tr he;simp only[lQ,ht];have p:=H.ok j t _ ht he;rw[h1] at p;rw[h2];obtain⟨h0,b,vs,k1,k2,k3,k4⟩:=p;refine⟨l2,b,vs,k1,k2,k3,by rw[k4.1,l1],λi v c hv hc'=> ?_⟩
   rcases hc i c hc' with rfl|⟨hc1,hc2⟩
   ·trivial
   ·exact Lf.aAZ A hc2 (k4.2 i v c hv hc1)
  |dead h hv=>rw[h];trivial
  |tree hq he h1 hd h2 hv=>subst hq;obtain⟨t,ht⟩:=H.tr he;simp only[lQ,ht];have p:=H.ok _ t _ ht he;rw[h1] at p;rw[h2];obtain⟨k1,xs,k2,k3⟩:=p;exact⟨k1,xs,k2,(k3.fl hd).conv (ak _) (λb _=>hX b) (λ_ _ _ h=>h) (λ_ _=>rfl)⟩
  |ti hq he h1 hd h2 hr hv=>subst hq;obtain⟨t,ht⟩:=H.tr he;simp only[lQ,ht];have p:=H.ok _ t _ ht he;rw[h1] at p;rw[h2];obtain⟨k1,xs,k2,k3⟩:=p;exact⟨k1,xs,k2,(k3.fl hd).conv (ak _) (λb _=>hX b) (λ_ _ _ h=>h) (λ_ _=>rfl)⟩
  |nil hq h2 hK hv=>subst hq;rw[h2];exact⟨hK,[],World.ownsRow_nil w 0 _ _, .n⟩
 ·obtain⟨h1,h2,z,h4⟩:=H.prm x O;refine⟨h1,h2,z,λj t ht hb=> ?_⟩;obtain⟨q,_,rfl⟩:=y j t ht;obtain⟨i,t,_,q2,q3⟩:=aBv hb;rw[q3] at hb;exact h4 i t q2 hb
end
end Go.EV
namespace Go.EV
open Go.RowKit Go.VK
variable {U:Uni} {Y:Lay U} {P:Program} {g:GI} {E:Env U g}
def Dhd:{x:DI}->{xs:List DI}->Dat U (x::xs)->x.ty U
 |_,[],d=>d
 |_,_::_,d=>d.1
def Dtl:{x:DI}->{xs:List DI}->Dat U (x::xs)->Dat U xs
 |_,[],_=>()
 |_,_::_,d=>d.2
def nO {s:St U}{x:DI}{xs:List DI}{d:Dat U (x::xs)}(h:gets Y s (x::xs)=some d):aX8 Y s x=some (Dhd d)/\gets Y s xs=some (Dtl d):=by
 cases xs with
 |nil=>exact⟨h,rfl⟩
 |cons c xs=>
  simp only[gets] at h;cases h1:aX8 Y s x with
  |none=>simp_all
  |some a=>
   cases h2:gets Y s (c::xs) with
   |none=>simp_all
   |some b=>rw[h1,h2] at h;have:=aj h;subst this;exact⟨rfl,rfl⟩
def uZ {k:Nat}{x:DI}{xs:List DI}{d:Dat U (x::xs)}{o:List (EO U)}:aK1 k (x::xs) d o=aK1 k xs (Dtl d) (aN6 k x (Dhd d) o):=by
 cases xs with
 |nil=>rfl
 |cons=>rfl
def aV3 {k n:Nat}{x:DI}{xs:List DI}{d:Dat U (x::xs)}{s:St U}:sets Y k n s (x::xs) d=sets Y k (nxt n x) (set1 Y k n s x (Dhd d)) xs (Dtl d):=by
 cases xs with
 |nil=>rfl
 |cons=>rfl
theorem Ro {k:Nat}:∀{l:List (Nat×Nat)} {o:List (EO U)},(Pg k l o).length=o.length
 |[],o=>rfl
 |x::l,o=>by
  have e:Pg k (x::l) o=match nth (Pg k l o) x.1 with|some ⟨.box T cs vs,_,_⟩=>upd (Pg k l o) x.1 ⟨.box T (upd cs x.2 .any) (upd vs x.2 k),k,k⟩|_=>Pg k l o:=rfl
  rw[e];split
  ·rw[dK,ao];exact Ro
  ·exact Ro
def zT {k:Nat}{o:List (EO U)}{j:Nat}{e:EO U}(he:o[j]? =some e):∀(l:List (Nat×Nat)),∃e',(Pg k l o)[j]? =some e'/\((e.ob.aAY=false\/hasB j l=false)->e'=e)/\
  (∀T cs vs,e.ob= .box T cs vs->∃cs' vs',e'.ob= .box T cs' vs'/\cs'.length=cs.length/\vs'.length=vs.length/\(hasB j l=true->e'.rv=k/\e'.cv=k)/\
   ∀i,(aTn j i l=true->∀c,cs'[i]? =some c->c= .any)/\(aTn j i l=true->∀v,vs'[i]? =some v->v=k)/\(aTn j i l=false->cs'[i]? =cs[i]? /\vs'[i]? =vs[i]?))
 |[]=>⟨e,he,λ_=>rfl,λT cs vs h=>⟨cs,vs,h,rfl,rfl,λh=>(by cases h),λi=>⟨λh=>(by cases h),λh=>(by cases h),λ_=>⟨rfl,rfl⟩⟩⟩⟩
 |(b,p)::l=>by
  obtain⟨n,h1,h2,q⟩:=zT he l;have e0:Pg k ((b,p)::l) o=match nth (Pg k l o) b with|some ⟨.box T cs vs,_,_⟩=>upd (Pg k l o) b ⟨.box T (upd cs p .any) (upd vs p k),k,k⟩|_=>Pg k l o:=rfl
  have eB:hasB j ((b,p)::l)=cond (Nat.beq b j) true (hasB j l):=rfl;have eA:∀i,aTn j i ((b,p)::l)=cond (Nat.beq b j&&Nat.beq p i) true (aTn j i l):=λ_=>rfl;rw[e0,eB];simp only[eA];by_cases hb:b=j
  ·subst hb;have d:Nat.beq b b=true:=dr b;rw[aY,h1,d];obtain⟨ob,rv,cv⟩:=n;cases ob with
   |box r cs1 vs1=>
    refine⟨⟨.box r (upd cs1 p .any) (upd vs1 p k),k,k⟩,by show(upd (Pg k l o) b _)[b]? =_;rw[dK,bf (lt_of_some h1)],λh=> ?_,λT cs vs h=> ?_⟩
    ·rcases h with h|h
     ·have:=h2 (.inl h);subst this;cases h
     ·cases h
    ·obtain⟨cs',vs',k1,k2,k3,k4,k5⟩:=q T cs vs h;injection k1 with q1 q2 q3;subst q1;subst q2;subst q3;refine⟨_,_,rfl,by rw[dK,ao,k2],by rw[dK,ao,k3],λ_=>⟨rfl,rfl⟩,λi=> ?_⟩
     grind[Nat.beq,absurd,Nat.eq_of_beq_eq_true,dK,List.getElem?_set_ne,k5,Nat.beq_refl,Bool.and_self,lt_of_some,List.getElem?_set_self,Option.some.inj]
   |dead=>simp_all
   |tree=>simp_all
  grind[Nat.beq,absurd,Nat.eq_of_beq_eq_true,dK,List.getElem?_set_ne]
def aV4 {cs:List (Nat×Nat)}{k b:Nat}:∀{j:Nat} {vs:List Nat},bP0 cs k b j vs=true->∀(i v:Nat),vs[i]? =some v->v<=k\/aTn b (j+i) cs=true
 |j,[],_,i,v,h=>by simp at h
 |j,x::vs,h,i,v,hv=>by
  simp only[bP0,aa,cn] at h;cases i with
  |zero=>simp at hv;subst hv;exact h.1.imp ba id
  |succ i=>have:=aV4 h.2 i v (by simpa using hv);rwa [show Nat.succ j+i=j+(i+1) by omega] at this
def aV5 {cs:List (Nat×Nat)}{dd:List Nat}{k:Nat}:∀{i:Nat} {es es':List (EO U)},bDq cs dd k i es es'=true->∀(j:Nat) (e:EO U),es[j]? =some e->∃e',es'[j]? =some e'/\(e'.cv<=k\/(i+j)∈dd\/∃T c vs,e'.ob= .box T c vs/\hasB (i+j) cs=true/\∀(p v:Nat),vs[p]? =some v->v<=k\/aTn (i+j) p cs=true)
 |i,[],es',_,j,e,h=>by simp at h
 |i,x::es,[],h,j,e,he=>by cases h
 |i,x::es,y::es',h,j,e,he=>by
  simp only[bDq,aa,cn] at h;cases j with
  |zero=>
   refine⟨y,rfl,?_⟩;rcases h.1 with h1|h1|h1
   ·exact .inl (ba h1)
   ·exact .inr (.inl (qI.1 h1))
   ·refine .inr (.inr ?_);obtain⟨ob,rv,cv⟩:=y;cases ob with
    |box T c vs=>simp only[aa] at h1;exact⟨T,c,vs,rfl,h1.1,λp v hv=>by have:=aV4 h1.2 p v hv;rwa [cy] at this⟩
    |_=>cases h1
  |succ j=>obtain⟨e',q1,q2⟩:=aV5 h.2 j e (by simpa using he);rw[show Nat.succ i+j=i+(j+1) by omega] at q2;exact⟨e',by simpa using q1,q2⟩
def sg0 (dd:List Nat)(N:Nat):List (Option Nat):=(List.range N).map λj=>if j∈dd then none else some j
theorem bGn {dd:List Nat}{N:Nat}:(sg0 dd N).length=N:=by simp[sg0]
def aM7 {dd:List Nat}{N j:Nat}{q:Option Nat}(h:(sg0 dd N)[j]? =some q):j<N/\((j∈dd/\q=none)\/(j∉dd/\q=some j)):=by
 grind[inl,Option.some.injEq,sg0,List.getElem?_range,lt_of_some,bGn]
structure Inv (N M K k:Nat) (m:Mm U) (σ:List (Option Nat)) (o:List (EO U)):Prop where
 len:σ.length=o.length
 ge:N<=o.length
 inj:∀(j j' i:Nat),σ[j]? =some (some i)->σ[j']? =some (some i)->j=j'
 ver:∀(i:Nat) (e:EO U),o[i]? =some e->e.rv<=k/\e.cv<=k
 src:∀(j:Nat) (q:Option Nat) (e':EO U),σ[j]? =some q->o[j]? =some e'->Src N M K m q j e'
section
variable {C:Cod U} {b s:St U} {a a0:Act} {w w0:World} {β β0:List Tr} {D:Nat->Prop}
def bN.obd (r:bN C E b a0 w0 β0){j:Nat}{e:EO U}(h:b.m.o[j]? =some e):e.ob.bd b.m.o.length b.m.ns.length b.m.k:=by
 obtain⟨t,ht⟩:=r.hp.tr h;have:=r.hp.ok j t e ht h;generalize e.ob=x at this ⊢;cases x with
 |box T cs vs=>obtain⟨_,b',vs',_,_,_,c⟩:=this;exact c.bd
 |_=>trivial
def inv0 (r:bN C E b a0 w0 β0)(t:Am b.m s.m){cs:List (Nat×Nat)}{dd:List Nat}(hc:bDq cs dd b.m.k 0 b.m.o s.m.o=true):
  Inv b.m.o.length b.m.ns.length b.m.k (Nat.succ b.m.k) s.m (sg0 dd b.m.o.length) (Pg (Nat.succ b.m.k) cs (Re (Nat.succ b.m.k) dd b.m.o)):=by
 have hlen:(Pg (Nat.succ b.m.k) cs (Re (Nat.succ b.m.k) dd b.m.o)).length=b.m.o.length:=by rw[Ro,Lh]
 refine⟨by rw[bGn,hlen],by omega,λj j' i h1 h2=> ?_,λj e' d=> ?_,λj q e' hq d=> ?_⟩
 ·obtain⟨_,h1⟩:=aM7 h1;obtain⟨_,h2⟩:=aM7 h2;simp_all
 ·have hl:j<b.m.o.length:=by have:=lt_of_some d;rwa [hlen] at this
  by_cases hd:j∈dd
  ·obtain⟨l,h1,h2,_⟩:=zT (k:=Nat.succ b.m.k) (aGg (k:=Nat.succ b.m.k) hd hl) cs;rw[d] at h1;have:=aj h1;subst this;rw[h2 (.inl rfl)];simp
  ·have h0:=yO (k:=Nat.succ b.m.k) (o:=b.m.o) hd;rw[ab hl] at h0;have hv:=r.hp.vers j _ (ab hl);obtain⟨l,h1,h2,z⟩:=zT (k:=Nat.succ b.m.k) h0 cs;rw[d] at h1;have:=aj h1;subst this;by_cases hk:(b.m.o[j]).ob.aAY=false\/hasB j cs=false
   ·grind
   ·cases ho:(b.m.o[j]).ob with
    |box T c vs=>
     grind
    |_=>exact absurd (.inl (by rw[ho];rfl)) hk
 ·obtain⟨hl,hq⟩:=aM7 hq;rcases hq with⟨hd,rfl⟩|⟨hd,rfl⟩
  ·obtain⟨l,h1,h2,_⟩:=zT (k:=Nat.succ b.m.k) (aGg (k:=Nat.succ b.m.k) hd hl) cs;rw[d] at h1;have:=aj h1;subst this;rw[h2 (.inl rfl)];exact .dead rfl (by grind)
  ·have hb:b.m.o[j]? =some b.m.o[j]:=ab hl;have h0:(Re (Nat.succ b.m.k) dd b.m.o)[j]? =some b.m.o[j]:=by grind[yO]
   obtain⟨l,h1,h2,z⟩:=zT (k:=Nat.succ b.m.k) h0 cs;rw[d] at h1;have:=aj h1;subst this;obtain⟨es,hs1,e⟩:=aV5 hc j _ hb;rw[cy] at e;obtain⟨am1,am2,am3⟩:=t.o j _ es hb hs1;by_cases hk:(b.m.o[j]).ob.aAY=false\/hasB j cs=false
   ·have he:=h2 hk;rw[he];refine .keep rfl ?_ (r.obd hb);rcases e with h|h|⟨T,c,vs,h,F,_⟩
    ·grind
    ·grind
    ·rcases hk with hk|hk
     ·rw[am2 (by rw[h];rfl)] at hk;cases hk
     grind
   ·have G:hasB j cs=true:=by
     grind
    cases ho:(b.m.o[j]).ob with
    |box T c vs=>
     obtain⟨cs',vs',k1,k2,k3,k4,k5⟩:=z T c vs ho;obtain⟨q1,q2⟩:=k4 G;have n:c.length=vs.length:=r.aCA (b:=j) (T:=T) (rv:=(b.m.o[j]).rv) (cv:=(b.m.o[j]).cv) (by rw[hb,<-ho]);have p:=r.obd hb;rw[ho] at p;have hv:b.m.k<e'.rv/\b.m.k<e'.cv:=by omega
     have cell:∀(cS:List (Lf U)),(∀(i:Nat),aTn j i cs=false->i<c.length->cS[i]? =c[i]?)->∀(i:Nat) (x:Lf U),cs'[i]? =some x->x= .any\/(cS[i]? =some x/\x.bd b.m.o.length b.m.ns.length b.m.k):=λcS O i x H=>by
      cases A:aTn j i cs with
      |true=>grind
      |false=>have v:=((k5 i).2.2 A).1;rw[H] at v;have y:i<c.length:=lt_of_some v.symm;exact .inr ⟨(by grind),p x (aE v.symm)⟩
     rcases e with h|h|⟨I,B,vs1,h,_,F⟩
     ·have l:=am1 h;exact .box rfl hs1 (by rw[l];exact ho) k1 k2 (by rw[k2,k3,n]) (by grind) hv
     ·grind
     ·obtain⟨J,L,S,V⟩:=am3 T c vs I B vs1 ho h;refine .box rfl hs1 (by rw[h,J]) k1 (by rw[k2,L]) (by rw[k2,k3,n]) (cell B (λi A y=> ?_)) hv
      grind
    |_=>exact absurd (.inl (by rw[ho];rfl)) hk
def sgm:List (Option Nat×Option Nat)->List (Option Nat)->List (Option Nat)
 |[],σ=>σ
 |(some i,x)::q,σ=>sgm q (σ.set i x)
 |(none,x)::q,σ=>sgm q (σ++[x])
def Plc (k:Nat)(σ:List (Option Nat))(o:List (EO U))(s:St U):Nat->List DI->Prop
 |_,[]=>True
 |n, .tr l i τ d::xs=>(∃v q e,lkp s l=some v/\wW s.m τ d v=some q/\σ[i]? =some q.1/\o[i]? =some e/\e.rv=k)/\Plc k σ o s n xs
 |n, .nt l τ d::xs=>(∃v q e,lkp s l=some v/\wW s.m τ d v=some q/\σ[n]? =some q.1/\o[n]? =some e/\e.rv=k)/\Plc k σ o s (Nat.succ n) xs
 |n,_::xs=>Plc k σ o s n xs
def aGm {x:Option Nat×Option Nat}{q:List (Option Nat×Option Nat)}:Gu (x::q)=(match x.2 with|some i=>i::Gu q|none=>Gu q):=by obtain⟨x1,x2⟩:=x;cases x2<;>rfl
def aOq {m:Mm U}{N M K k:Nat}{τ:Nat}{d:Bool}{v:Sv U}{q:Option Nat×List (U.El τ)}(h:wW m τ d v=some q)(hk:K<k){j:Nat}:Src N M K m q.1 j ⟨.tree τ d q.2,k,k⟩:=by
 unfold wW at h;split at h
 ·cases hb:Nat.ble 1 (U.K τ) with
  |false=>simp_all
  |true=>rw[hb] at h;have:=aj h;subst this;exact .nil rfl rfl (ba hb) ⟨hk,hk⟩
 ·rename_i i r;rw[aY] at h;split at h
  ·rename_i τ' d' l rv cv he;cases hb:(Nat.beq rv r&&(d'|| !d)) with
   |false=>simp_all
   |true=>
    rw[hb] at h;simp only[ac] at h;cases hq:slq τ τ' l with
    |none=>simp_all
    |some l'=>rw[hq] at h;have:=aj h;subst this;obtain⟨rfl,hl⟩:=nG hq;have hl:=d8 hl;subst hl;simp only[aa,cn] at hb;refine .tree rfl he rfl (λhd=> ?_) rfl ⟨hk,hk⟩;simp_all
  ·cases h
 ·cases h
def bMb {m:Mm U}{N M K k i:Nat}{τ:Nat}{d:Bool}{l:List (U.El τ)}(h:bUi m i τ d=some l)(hk:K<k):Src N M K m (some i) i ⟨.tree τ d l,0,k⟩:=by
 unfold bUi at h;rw[aY] at h;split at h
 ·rename_i τ' d' l' rv cv he;cases hb:(Nat.beq rv 0&&(d'|| !d)) with
  |false=>simp_all
  |true=>rw[hb] at h;simp only[ac] at h;obtain⟨rfl,hl⟩:=nG h;have hl:=d8 hl;subst hl;simp only[aa,cn] at hb;refine .ti rfl he rfl (λhd=> ?_) rfl (ah hb.1).symm hk;simp_all
 ·cases h
def Inv.set {N M K k:Nat}{m:Mm U}{σ:List (Option Nat)}{o:List (EO U)}(h:Inv N M K k m σ o){i:Nat}{q:Option Nat}{e:EO U}(hq:∀x,q=some x->∀j:Nat,σ[j]? ≠some (some x))(hv:e.rv<=k/\e.cv<=k)(hs:Src N M K m q i e):Inv N M K k m (σ.set i q) (o.set i e):=by
 refine⟨by simp[h.len],by simpa using h.ge,λj j' x h1 h2=> ?_,λj e' he=> ?_,λj q' e' h1 h2=> ?_⟩
 ·by_cases hj:i=j
  ·grind
  ·rw[bg hj] at h1;by_cases c:i=j'
   ·grind
   ·rw[bg c] at h2;exact h.inj j j' x h1 h2
 ·by_cases hj:i=j
  ·grind
  ·rw[bg hj] at he;exact h.ver j e' he
 ·by_cases hj:i=j
  ·grind
  ·rw[bg hj] at h1 h2;exact h.src j q' e' h1 h2
def Inv.app {N M K k:Nat}{m:Mm U}{σ:List (Option Nat)}{o:List (EO U)}(h:Inv N M K k m σ o){q:Option Nat}{e:EO U}(hq:∀x,q=some x->∀j:Nat,σ[j]? ≠some (some x))(hv:e.rv<=k/\e.cv<=k)(hs:Src N M K m q o.length e):Inv N M K k m (σ++[q]) (o++[e]):=by
 have d:∀(j:Nat) (x:Option Nat),(σ++[q])[j]? =some x->(σ[j]? =some x)\/(j=o.length/\x=q):=λj x c=>by
  by_cases hl:j<σ.length
  ·grind
  ·rw[az (by omega)] at c;cases i:j-σ.length with
   |zero=>rw[i] at c;simp at c;exact .inr ⟨by have:=h.len;omega,c.symm⟩
   |succ n=>simp_all
 have ho:∀(j:Nat) (x:EO U),(o++[e])[j]? =some x->(o[j]? =some x)\/(j=o.length/\x=e):=(by grind[List.getElem?_append_left,inl,List.getElem?_append_right]);refine⟨by simp[h.len],by have:=h.ge;simp;omega,λj j' x h1 h2=> ?_,λj e' he=> ?_,λj q' e' h1 h2=> ?_⟩
 ·rcases d j _ h1 with h1|⟨l,h1⟩<;>rcases d j' _ h2 with h2|⟨p,h2⟩
  ·exact h.inj j j' x h1 h2
  all_goals grind
 ·rcases ho j _ he with h1|⟨_,rfl⟩
  ·exact h.ver j e' h1
  ·exact hv
 ·rcases d j _ h1 with h1|⟨l,rfl⟩<;>rcases ho j _ h2 with h2|⟨p,rfl⟩
  ·exact h.src j q' e' h1 h2
  ·have:=lt_of_some h1;have:=h.len;omega
  all_goals grind
def Plc.mono {k:Nat}{σ σ':List (Option Nat)}{o c:List (EO U)}{s:St U}:∀{xs:List DI} {n:Nat},(∀i∈jR xs,c[i]? =o[i]? /\σ'[i]? =σ[i]?)->(∀i,n<=i->c[i]? =o[i]? /\σ'[i]? =σ[i]?)->Plc k σ o s n xs->Plc k σ' c s n xs
 |[],_,_,_,h=>h
 | .tr l i τ d::xs,n,h1,h2,⟨⟨v,q,e,p,r,t,x,y⟩,h⟩=>by
  obtain⟨b1,z⟩:=h1 i (by simp[jR]);exact⟨⟨v,q,e,p,r,z.trans t,b1.trans x,y⟩,Plc.mono (λj hj=>h1 j (by simp[jR,hj])) h2 h⟩
 | .nt l τ d::xs,n,h1,h2,⟨⟨v,q,e,p,r,t,x,y⟩,h⟩=>by
  obtain⟨b1,z⟩:=h2 n (ak _);exact⟨⟨v,q,e,p,r,z.trans t,b1.trans x,y⟩,Plc.mono (λj hj=>h1 j (by simpa[jR] using hj)) (λi hi=>h2 i (by omega)) h⟩
 | .ti i τ d::xs,n,h1,h2,h=>Plc.mono (xs:=xs) (n:=n) (λj hj=>h1 j (by simp[jR,hj])) h2 h
 | .dat l kd::xs,n,h1,h2,h=>Plc.mono (xs:=xs) (n:=n) (λj hj=>h1 j (by simpa[jR] using hj)) h2 h
 | .nat l::xs,n,h1,h2,h=>Plc.mono (xs:=xs) (n:=n) (λj hj=>h1 j (by simpa[jR] using hj)) h2 h
def Ia {N M K k:Nat}{s:St U}(hk:K<k):∀(xs:List DI) (q:List (Option Nat×Option Nat)) (d:Dat U xs) (σ:List (Option Nat)) (o:List (EO U)),aBj s xs=some q->gets Y s xs=some d->Inv N M K k s.m σ o->(∀i∈Gu q,∀j:Nat,σ[j]? ≠some (some i))->(Gu q).Nodup->(∀i∈jR xs,i<o.length)->(jR xs).Nodup->
  Inv N M K k s.m (sgm q σ) (aK1 k xs d o)/\Plc k (sgm q σ) (aK1 k xs d o) s o.length xs/\(∀j,j<o.length->j∉jR xs->(aK1 k xs d o)[j]? =o[j]? /\(sgm q σ)[j]? =σ[j]?)
 |[],q,d,σ,o,hq,_,p,_,_,_,_=>by
  have:=aj hq;subst this;exact⟨p,trivial,λ_ _ _=>⟨rfl,rfl⟩⟩
 | .dat l kd::xs,q,d,σ,o,hq,hg,p,h1,h2,z,J=>by
  rw[uZ];exact Ia hk xs q (Dtl d) σ o hq (nO hg).2 p h1 h2 z J
 | .nat l::xs,q,d,σ,o,hq,hg,p,h1,h2,z,J=>by
  rw[uZ];exact Ia hk xs q (Dtl d) σ o hq (nO hg).2 p h1 h2 z J
 | .ti i τ b::xs,q,d,σ,o,hq,hg,p,h1,h2,z,J=>by
  obtain⟨y,S⟩:=nO hg;simp only[aBj] at hq;simp only[aX8] at y;cases hr:aBj s xs with
  |none=>rw[hr] at hq;cases hq
  |some r=>
   rw[hr] at hq;have:=aj hq;subst this;rw[uZ];have hi:i<o.length:=z i (by simp[jR]);have T:aN6 k (.ti i τ b) (Dhd d) o=o.set i ⟨.tree τ b (Dhd d),0,k⟩:=dK _ _ _;rw[T];rw[aGm] at h1 h2;simp only at h1 h2;have B:=p.set (i:=i) (q:=some i) (e:=⟨.tree τ b (Dhd d),0,k⟩) (λx h j=>h1 x (by rw[aj h];simp) j) ⟨cD _,ak _⟩ (bMb y hk);obtain⟨n1,n2⟩:=cu.1 (show(i::jR xs).Nodup from J);have F:∀x∈Gu r,∀j:Nat,(σ.set i (some i))[j]? ≠some (some x):=λx h j hj=>by
    by_cases G:i=j
    ·subst G;rw[bf (by rw[p.len];exact hi)] at hj;have hj:=aj (aj hj);subst hj;exact(cu.1 h2).1 h
    ·rw[bg G] at hj;exact h1 x (by simp[h]) j hj
   obtain⟨V,L,A⟩:=Ia hk xs r (Dtl d) (σ.set i (some i)) _ hr S B F (cu.1 h2).2 (λj hj=>by rw[ao];exact z j (by simp[jR,hj])) n2;rw[ao] at L A;refine⟨V,L,λj hj c=> ?_⟩;have c:j≠i/\j∉jR xs:=by simpa[jR] using c
   obtain⟨q1,q2⟩:=A j hj c.2;exact⟨by rw[q1,bg (Ne.symm c.1)],by show(sgm r (σ.set i (some i)))[j]? =_;rw[q2,bg (Ne.symm c.1)]⟩
 | .tr l i τ b::xs,q,d,σ,o,hq,hg,p,h1,h2,z,J=>by
  obtain⟨y,S⟩:=nO hg;simp only[aBj] at hq;simp only[aX8] at y;cases hv:lkp s l with
  |none=>rw[hv] at hq;cases hq
  |some v=>
   rw[hv] at hq y;simp only at hq y;cases ht:wW s.m τ b v with
   |none=>rw[ht] at hq;cases hq
   |some t=>
    rw[ht] at hq y;simp only at hq y;cases hr:aBj s xs with
    |none=>rw[hr] at hq;cases hq
    |some r=>
     rw[hr] at hq;have:=aj hq;subst this;have hd:t.2=Dhd d:=aj y;rw[uZ];have hi:i<o.length:=z i (by simp[jR]);have T:aN6 k (.tr l i τ b) (Dhd d) o=o.set i ⟨.tree τ b t.2,k,k⟩:=by rw[hd];exact dK _ _ _
     rw[T];rw[aGm] at h1 h2;have H:∀x∈Gu r,x∈(match t.1 with|some i=>i::Gu r|none=>Gu r):=λx h=>by cases t.1<;>simp[h]
     have B:=p.set (i:=i) (q:=t.1) (e:=⟨.tree τ b t.2,k,k⟩) (λx h j=>h1 x (by simp only[h];simp) j) ⟨ak _,ak _⟩ (aOq ht hk);obtain⟨n1,n2⟩:=cu.1 (show(i::jR xs).Nodup from J);have F:∀x∈Gu r,∀j:Nat,(σ.set i t.1)[j]? ≠some (some x):=λx h j hj=>by
      by_cases G:i=j
      ·subst G;rw[bf (by rw[p.len];exact hi)] at hj;have hj:=aj hj;simp only[hj] at h2;exact(cu.1 h2).1 h
      ·rw[bg G] at hj;exact h1 x (H x h) j hj
     have O:(Gu r).Nodup:=by
      cases I:t.1 with
      |none=>simp only[I] at h2;exact h2
      |some x=>simp only[I] at h2;exact(cu.1 h2).2
     obtain⟨V,L,A⟩:=Ia hk xs r (Dtl d) (σ.set i t.1) _ hr S B F O (λj hj=>by rw[ao];exact z j (by simp[jR,hj])) n2;rw[ao] at L A;refine⟨V,⟨⟨v,t,⟨.tree τ b t.2,k,k⟩,hv,ht,?_,?_,rfl⟩,L⟩,λj hj c=> ?_⟩
     ·show(sgm r (σ.set i t.1))[i]? =_;rw[(A i hi n1).2,bf (by rw[p.len];exact hi)]
     ·rw[(A i hi n1).1,bf hi]
     ·have c:j≠i/\j∉jR xs:=by simpa[jR] using c
      obtain⟨q1,q2⟩:=A j hj c.2;exact⟨by rw[q1,bg (Ne.symm c.1)],by show(sgm r (σ.set i t.1))[j]? =_;rw[q2,bg (Ne.symm c.1)]⟩
 | .nt l τ b::xs,q,d,σ,o,hq,hg,p,h1,h2,z,J=>by
  obtain⟨y,S⟩:=nO hg;simp only[aBj] at hq;simp only[aX8] at y;cases hv:lkp s l with
  |none=>rw[hv] at hq;cases hq
  |some v=>
   rw[hv] at hq y;simp only at hq y;cases ht:wW s.m τ b v with
   |none=>rw[ht] at hq;cases hq
   |some t=>
    rw[ht] at hq y;simp only at hq y;cases hr:aBj s xs with
    |none=>rw[hr] at hq;cases hq
    |some r=>
     rw[hr] at hq;have:=aj hq;subst this;have hd:t.2=Dhd d:=aj y;rw[uZ];have T:aN6 k (.nt l τ b) (Dhd d) o=o++[⟨.tree τ b t.2,k,k⟩]:=by rw[hd];rfl
     rw[T];rw[aGm] at h1 h2;have H:∀x∈Gu r,x∈(match t.1 with|some i=>i::Gu r|none=>Gu r):=λx h=>by cases t.1<;>simp[h]
     have B:=p.app (q:=t.1) (e:=⟨.tree τ b t.2,k,k⟩) (λx h j=>h1 x (by simp only[h];simp) j) ⟨ak _,ak _⟩ (aOq ht hk);have n2:(jR xs).Nodup:=J;have W:(σ++[t.1])[o.length]? =some t.1:=by rw[<-p.len];simp
     have F:∀x∈Gu r,∀j:Nat,(σ++[t.1])[j]? ≠some (some x):=λx h j hj=>by
      by_cases hl:j<σ.length
      ·rw[aq hl] at hj;exact h1 x (H x h) j hj
      ·rw[az (by omega)] at hj;cases Z:j-σ.length with
       |zero=>
        rw[Z] at hj;have hj:t.1=some x:=by simpa using hj
        simp only[hj] at h2;exact(cu.1 h2).1 h
       |succ n=>rw[Z] at hj;simp at hj
     have O:(Gu r).Nodup:=by
      cases I:t.1 with
      |none=>simp only[I] at h2;exact h2
      |some x=>simp only[I] at h2;exact(cu.1 h2).2
     obtain⟨V,L,A⟩:=Ia hk xs r (Dtl d) (σ++[t.1]) _ hr S B F O (λj hj=>by have:=z j (by simpa[jR] using hj);simp;omega) n2;rw[show(o++[(⟨.tree τ b t.2,k,k⟩:EO U)]).length=Nat.succ o.length by simp] at L A;have n1:o.length∉jR xs:=λhh=>by have:=z _ (show o.length∈jR (.nt l τ b::xs) from hh);omega
     refine⟨V,⟨⟨v,t,⟨.tree τ b t.2,k,k⟩,hv,ht,?_,?_,rfl⟩,L⟩,λj hj c=> ?_⟩
     ·show(sgm r (σ++[t.1]))[o.length]? =_;rw[(A _ (eI _) n1).2,W]
     ·rw[(A _ (eI _) n1).1];simp
     ·obtain⟨q1,q2⟩:=A j (Nat.lt_succ_of_lt hj) c;refine⟨by rw[q1,aq hj],?_⟩;show(sgm r (σ++[t.1]))[j]? =_;rw[q2,aq (by rw[p.len];exact hj)]
end
end Go.EV
namespace Go.EV
open Go.RowKit Go.VK
variable {U:Uni} {Y:Lay U} {P:Program} {g:GI} {E:Env U g}
section aDN
def bMc {a n:Nat}{K:List (Sv U)->List (Sv U)}(hK:K []=[]):∀{l:List (Sv U)},(bDs a K l)[n]? =if n<a then l[n]? else(K (l.drop a))[n-a]? :=by
 induction a generalizing n with
 |zero=>intro l;rfl
 |succ a c=>
  intro l;cases l with
  |nil=>have e:bDs (a+1) K ([]:List (Sv U))=[]:=rfl;rw[e];simp[hK]
  |cons x l=>
   have e:bDs (a+1) K (x::l)=x::bDs a K l:=rfl;rw[e];cases n with
   |zero=>simp
   |succ n=>simp only[eu,c,jw,gk,Nat.add_sub_add_right]
def bMd {a n:Nat}{K:List (Sv U)->List (Sv U)}(hK:K []=[]):∀{l:List (Sv U)},(bAi a K l)[n]? =if n<a then(l[n]?).map (λ_=>Sv.l .any) else(K (l.drop a))[n-a]? :=by
 induction a generalizing n with
 |zero=>intro l;rfl
 |succ a c=>
  intro l;cases l with
  |nil=>have e:bAi (a+1) K ([]:List (Sv U))=[]:=rfl;rw[e];simp[hK]
  |cons x l=>
   have e:bAi (a+1) K (x::l)=Sv.l .any::bAi a K l:=rfl;rw[e];cases n with
   |zero=>simp
   |succ n=>simp only[eu,c,jw,gk,Nat.add_sub_add_right]
def aYr:∀{ws:List (Nat×Nat)},wip ws ([]:List (Sv U))=[]
 |[]=>rfl
 |(a,b)::r=>by
  have e:wip ((a,b)::r) ([]:List (Sv U))=bDs a (bAi b (wip r)) []:=rfl;rw[e];cases a with
  |succ a=>rfl
  |zero=>
   cases b with
   |succ b=>rfl
   |zero=>exact aYr (ws:=r)
def bMe:∀{ws:List (Nat×Nat)} {p n:Nat},Kw ws p n=true->p<=n
 |[],p,n,h=>by cases h
 |(a,b)::r,p,n,h=>by
  simp only[Kw,cn,aa] at h;rcases h with⟨h,_⟩|h
  ·have:=ba h;omega
  ·have:=bMe h;omega
def aM8:∀{ws:List (Nat×Nat)} {p n:Nat} {l:List (Sv U)},(wip ws l)[n]? =if Kw ws p (p+n)=true then(l[n]?).map (λ_=>Sv.l .any) else l[n]?
 |[],p,n,l=>by simp[Kw,wip]
 |(a,b)::r,p,n,l=>by
  have hb:(bAi b (wip r) ([]:List (Sv U)))=[]:=by
   cases b with
   |succ b=>rfl
   |zero=>exact aYr (ws:=r)
  have e:wip ((a,b)::r) l=bDs a (bAi b (wip r)) l:=rfl;rw[e,bMc hb];simp only[Kw,cn,aa];by_cases h1:n<a
  ·rw[cW h1,dm];rintro(⟨h,_⟩|h)
   ·have:=ba h;omega
   ·have:=bMe h;omega
  ·rw[dm h1,bMd aYr];by_cases h2:n-a<b
   ·rw[cW h2,cW]
    ·rw[eJ,show a+(n-a)=n by omega]
    ·exact .inl ⟨eK (by omega),eK (by omega)⟩
   ·rw[dm h2,aM8 (ws:=r) (p:=p+a+b)];rw[show p+a+b+(n-a-b)=p+n by omega];simp only[eJ,show a+(b+(n-a-b))=n by omega];by_cases c:Kw r (p+a+b) (p+n)=true
    ·rw[cW c,cW (.inr c)]
    ·rw[dm c,dm];rintro(⟨_,h⟩|h)
     ·have:=ba h;omega
     ·exact c h
def bGo {ws:List (Nat×Nat)}{l:List (Sv U)}:(wip ws l).length=l.length:=by
 have key:∀n,n<(wip ws l).length↔n<l.length:=λn=>by
  have h:=aM8 (ws:=ws) (p:=0) (n:=n) (l:=l);constructor
  ·intro hn;rw[ab hn] at h;refine Nat.lt_of_not_le λc=> ?_
   rw[eM c] at h;split at h<;>cases h
  ·intro hn;rw[ab hn] at h;refine Nat.lt_of_not_le λc=> ?_
   rw[eM c] at h;split at h<;>cases h
 have h1:=key (wip ws l).length;have h2:=key l.length;omega
end aDN
def LV (a:Act)(w:World)(β:List Tr)(o:List (EO U)):Lo->Value->Prop
 | .s n,v=>v=a.tmps.getD n undef
 | .c b j,v=>∀e,o[b]? =some e->e.ob.aAY=true->∃t blk vals T,β[b]? =some t/\t.b=some blk/\w.heap[blk]? =some (.cells vals T (0,0))/\vals[j]? =some v
section
variable {C:Cod U} {b s u:St U} {a a0:Act} {w w0:World} {β β0:List Tr}
def aBw (r:bN C E s a w β){l:Lo}{x:Sv U}(h:lkp s l=some x):∃v,LV a w β s.m.o l v/\x.mean C w (E.X β) β s.m v:=by
 cases l with
 |s n=>exact⟨_,rfl,r.tm n x (by rw[<-aY];exact h)⟩
 |c b j=>
  simp only[lkp,aY] at h;split at h
  ·rename_i T cs vs rv cv he;split at h
   ·rename_i y i;have:=aj h;subst this;obtain⟨t,ht⟩:=r.hp.tr he;obtain⟨h0,blk,vals,k1,k2,k3,k4⟩:=r.hp.ok b t _ ht he;have d:j<vals.length:=by rw[k4.1];exact lt_of_some i
    exact⟨vals[j],λe _ _=>⟨t,blk,vals.toArray,T,ht,k1,k3,by simp[d]⟩,k4.2 j _ _ (ab d) i⟩
   ·cases h
  ·cases h
structure Tp (C:Cod U) (E:Env U g) (a:Act) (w:World) (u:St U) (β:List Tr) (u':St U) (β':List Tr):Prop where
 own:∀(i r:Nat) (v:Value),(Lf.own i r:Lf U).mean C w (E.X β) β u.m v->(Lf.own i r:Lf U).mean C w (E.X β') β' u'.m v
 x:∀b,E.X β' b->E.X β b
 lv:∀(l:Lo) (v:Value),LV a w β u.m.o l v->LV a w β' u'.m.o l v
def Tp.refl:Tp C E a w u β u β:=⟨λ_ _ _ h=>h,λ_ h=>h,λ_ _ h=>h⟩
def bN.aBI (r:bN C E u a w β){l:Lo}{v:Value}(hl:LV a w β u.m.o l v){x:Sv U}(I:x.mean C w (E.X β) β u.m v):∃β',bN C E (EV.aBI u x l) a w β'/\Tp C E a w u β (EV.aBI u x l) β':=by
 cases l with
 |s n=>refine⟨β,r.set (n:=n) (x:=x) ?_,⟨λ_ _ _ h=>h,λ_ h=>h,λ_ _ h=>h⟩⟩;rw[<-(show v=a.tmps.getD n undef from hl)];exact I
 |c b j=>
  unfold EV.aBI;simp only[aY];split
  ·rename_i T cs vs rv cv y he;obtain⟨t,blk,vals,T',h1,h2,L,S⟩:=hl _ he rfl;obtain⟨h0,blk',vals',k1,k2,k3,k4⟩:=r.hp.ok b t _ h1 he;rw[h2] at k1;have:=aj k1;subst this;rw[L] at k3;have:=aj k3;injection this with q1 q2 q3;subst q1;subst q2;have G:vals'[j]? =some v:=by simpa using S
   obtain⟨β',r',hb',ev⟩:=r.turn (i:=b) (J:=[]) (t':=t) (w':=w) (ob:= .box T' (upd cs j y) (upd vs j (Nat.succ u.m.k))) (rv:=rv) he h1 (by simp) (ak _) rfl rfl rfl (λ_ _ _=>rfl)
    (λF hb=>⟨(r.hp.new b t F h1 hb).2, .inr (.inl hb)⟩) (r.hp.nd b t h1) (.inl ⟨rfl,rfl⟩) (λ_=>⟨rfl,rfl⟩)
    (λβ' m' ev=>by
     refine⟨by rw[dK,dK,ao,ao,h0],blk,vals',h2,k2,L,by rw[k4.1,dK,ao],λi v' c p q=> ?_⟩;rw[dK] at q;by_cases e:j=i
     ·subst e;have hl:j<cs.length:=by have:=lt_of_some q;simpa using this
      rw[bf hl] at q;have:=aj q;subst this;rw[G] at p;have:=aj p;subst this;exact Lf.aAW ev I
     ·rw[bg e] at q;exact Lf.aAW ev (k4.2 i v' c p q))
   refine⟨β',r',⟨λi q v' h=>Lf.aAW ev h,λF hb=>ev.hX F (Hp.aCF r'.hp F hb) hb,λl v' h=> ?_⟩⟩;cases l with
   |s n=>exact h
   |c b' j'=>
    intro e' z H;have A:b'<u.m.o.length:=by
     have:=lt_of_some z;have hl:(upd u.m.o b (⟨.box T' (upd cs j y) (upd vs j (Nat.succ u.m.k)),rv,Nat.succ u.m.k⟩:EO U)).length=u.m.o.length:=by rw[dK,ao]
     have h2:b'<(upd u.m.o b (⟨.box T' (upd cs j y) (upd vs j (Nat.succ u.m.k)),rv,Nat.succ u.m.k⟩:EO U)).length:=this;rwa [hl] at h2
    have d:u.m.o[b']? =some u.m.o[b']:=ab A;obtain⟨V,B⟩:=r.hp.tr d;obtain⟨W,Z,g1,g2,_,_,g3⟩:=ev.ho b' _ V A d B;have:W=e':=aj (g1.symm.trans z);subst this;obtain⟨p1,p2⟩:=g3 H;obtain⟨t2,blk2,vals2,T2,O,z2,z3,z4⟩:=h _ d p1;rw[B] at O;have:=aj O;subst this;exact⟨Z,blk2,vals2,T2,g2,p2.trans z2,z3,z4⟩
  ·exact⟨β,r,Tp.refl⟩
def IF1 (Y:Lay U)(E:Env U g)(k:Nat)(u:St U)(a:Act)(w:World)(β:List Tr)(n:Nat):(x:DI)->x.ty U->Prop
 | .dat l kd,d=>∃v,LV a w β u.m.o l v/\Rd w (E.X β) [] v (yQ (aBh Y kd d))
 | .nat l,i=>∃v,LV a w β u.m.o l v/\∃j:Nat,j=i/\v= .int .i64 (j:Int)/\(j:Int)<=9223372036854775807
 | .tr l i _ _,_=>∃v,LV a w β u.m.o l v/\(Lf.own i k:Lf U).mean Y.C w (E.X β) β u.m v
 | .nt l _ _,_=>∃v,LV a w β u.m.o l v/\(Lf.own n k:Lf U).mean Y.C w (E.X β) β u.m v
 | .ti _ _ _,_=>True
def IF (Y:Lay U)(E:Env U g)(k:Nat)(u:St U)(a:Act)(w:World)(β:List Tr):Nat->(xs:List DI)->Dat U xs->Prop
 |_,[],_=>True
 |n,x::xs,d=>IF1 Y E k u a w β n x (Dhd d)/\IF Y E k u a w β (nxt n x) xs (Dtl d)
def IF1.tp {k n:Nat}{u':St U}{β':List Tr}(h:Tp Y.C E a w u β u' β'){x:DI}{d:x.ty U}(c:IF1 Y E k u a w β n x d):IF1 Y E k u' a w β' n x d:=by
 cases x with
 |dat l kd=>obtain⟨v,h1,h2⟩:=c;exact⟨v,h.lv l v h1,h2.conv (ak _) (λb _=>h.x b) (λ_ _ _ h=>h) (λ_ _ h=>h)⟩
 |nat l=>obtain⟨v,h1,h2⟩:=c;exact⟨v,h.lv l v h1,h2⟩
 |tr l i τ b=>obtain⟨v,h1,h2⟩:=c;exact⟨v,h.lv l v h1,h.own _ _ v h2⟩
 |nt l τ b=>obtain⟨v,h1,h2⟩:=c;exact⟨v,h.lv l v h1,h.own _ _ v h2⟩
 |ti i τ b=>trivial
def IF.tp {k:Nat}{u':St U}{β':List Tr}(h:Tp Y.C E a w u β u' β'):∀{xs:List DI} {n:Nat} {d:Dat U xs},IF Y E k u a w β n xs d->IF Y E k u' a w β' n xs d
 |[],_,_,_=>trivial
 |x::xs,n,d,⟨h1,h2⟩=>⟨h1.tp h,IF.tp h h2⟩
def bD9 (r:bN Y.C E u a w β){k n:Nat}{x:DI}{d:x.ty U}(h:IF1 Y E k u a w β n x d):∃β',bN Y.C E (set1 Y k n u x d) a w β'/\Tp Y.C E a w u β (set1 Y k n u x d) β':=by
 cases x with
 |dat l kd=>obtain⟨v,h1,h2⟩:=h;exact r.aBI h1 (uY (aBu bGj h2 (.inl λ_ h=>h)))
 |nat l=>
  obtain⟨v,h1,j,rfl,h2,e⟩:=h;have p:bN Y.C E ⟨u.t,⟨u.m.o,u.m.k,u.m.ns++[((⟨j,false⟩:Nat×Bool))]⟩,u.fr⟩ a w β:=r.aCX (λc i f h=>⟨f,by rw[aq (lt_of_some h)];exact h⟩) (λc i h=>by
   by_cases hl:c<u.m.ns.length
   ·rw[aq hl] at h;exact r.hp.cnt c i h
   ·rw[az (by omega)] at h;cases hq:c-u.m.ns.length with
    |zero=>rw[hq] at h;simp at h
    |succ q=>rw[hq] at h;simp at h)
  obtain⟨β',q1,q2⟩:=p.aBI (l:=l) (v:=v) h1 (x:= .l (.nat (len u.m.ns))) ⟨j,false,by rw[dA];simp,h2,e⟩;exact⟨β',q1,⟨λi q v h=>q2.own i q v h,q2.x,λl v h=>q2.lv l v h⟩⟩
 |tr l i τ b=>obtain⟨v,h1,h2⟩:=h;exact r.aBI h1 (x:= .l (.own i k)) h2
 |nt l τ b=>obtain⟨v,h1,h2⟩:=h;exact r.aBI h1 (x:= .l (.own n k)) h2
 |ti i τ b=>exact⟨β,r,Tp.refl⟩
def aOr {k:Nat}:∀(xs:List DI) {u:St U} {β:List Tr} {n:Nat} {d:Dat U xs},bN Y.C E u a w β->IF Y E k u a w β n xs d->∃β',bN Y.C E (sets Y k n u xs d) a w β'
 |[],_,β,_,_,r,_=>⟨β,r⟩
 |x::xs,u,β,n,d,r,⟨h1,h2⟩=>by
  obtain⟨β1,c,e⟩:=bD9 r h1;rw[aV3];exact aOr xs c (IF.tp e h2)
end
end Go.EV
namespace Go.EV
open Go.RowKit Go.VK
variable {U:Uni} {Y:Lay U} {P:Program} {g:GI} {E:Env U g}
section
variable {b s:St U} {a a0:Act} {w w0:World} {β β0:List Tr}
def Lp {tm:Tm}{d:Dat U tm.it}(h:col Y b tm s=some d):∃q,aBj s tm.it=some q/\gets Y s tm.it=some d/\slI tm.ws tm.it=true/\bDq tm.aCG tm.dead b.m.k 0 b.m.o s.m.o=true/\bIg b.m.o.length tm.dead (Gu q)=true/\(Gu q).Nodup/\(jR tm.it).Nodup/\bIh b.m.o.length (jR tm.it)=true:=by
 grind[aBj,slI,bDq,bIg,len,Gu,dist,jR,bIh,dA,zR,col]
def aV6 {N:Nat}{dd:List Nat}:∀{l:List Nat},bIg N dd l=true->∀i∈l,N<=i\/i∈dd
 |[],_,i,h=>by simp at h
 |x::l,h,i,hi=>by
  simp only[bIg,aa,cn] at h;rcases bc.1 hi with rfl|hi
  ·exact h.1.imp ba qI.1
  ·exact aV6 h.2 i hi
def aV7 {N:Nat}:∀{l:List Nat},bIh N l=true->∀i∈l,i<N
 |[],_,i,h=>by simp at h
 |x::l,h,i,hi=>by
  simp only[bIh,aa] at h;rcases bc.1 hi with rfl|hi
  ·exact ba h.1
  ·exact aV7 h.2 i hi
def bEa {C:Cod U}{X:Nat->Prop}{m:Mm U}{v:Value}{x:Sv U}{i:Nat}(hm:x.mean C w X β m v)(h:bLd m x=some i):v= .int .i64 (i:Int)/\(i:Int)<=9223372036854775807:=by
 unfold bLd at h;split at h
 ·obtain⟨c,f,h1,h2,d⟩:=hm
  grind[Option.some.inj,aY]
 ·rename_i n;obtain⟨h1,_,_⟩:=hm
  grind
 ·cases h
def aKa {C:Cod U}{m:Mm U}{X:Nat->Prop}{τ:Nat}{d:Bool}{v:Value}{x:Sv U}{q:Option Nat×List (U.El τ)}(hm:x.mean C w X β m v)(h:wW m τ d x=some q):v.oneCell'=true/\v=(lQ β q.1).val:=by
 unfold wW at h;split at h
 ·obtain rfl:=hm;cases hb:Nat.ble 1 (U.K τ) with
  |false=>simp_all
  |true=>rw[hb] at h;have:=aj h;subst this;exact⟨rfl,rfl⟩
 ·rename_i i r;obtain⟨h1,e,t,h2,c,j⟩:=hm
  grind[Nat.beq,slq,Option.some.inj,Nat.eq_of_beq_eq_true,lQ,aY]
 ·cases h
def LV.ren {N M K:Nat}{σ:List (Option Nat)}{o:List (EO U)}(hlen:σ.length=o.length)(hs:∀(j:Nat) (q:Option Nat) (e':EO U),σ[j]? =some q->o[j]? =some e'->Src N M K s.m q j e')(r:bN Y.C E s a w β){l:Lo}{v:Value}(h:LV a w β s.m.o l v):LV a w (σ.map (lQ β)) o l v:=by
 cases l with
 |s n=>exact h
 |c i j=>
  intro e' x d;have hl:i<σ.length:=by grind
  have hq:σ[i]? =some σ[i]:=ab hl;have done:∀e:EO U,σ[i]=some i->s.m.o[i]? =some e->e.ob.aAY=true->∃t blk vals T,(σ.map (lQ β))[i]? =some t/\t.b=some blk/\w.heap[blk]? =some (.cells vals T (0,0))/\vals[j]? =some v:=λe k he hb=>by
   obtain⟨t,blk,vals,T,h1,h2,y,z⟩:=h e he hb
   grind[lQ]
  cases hs i _ e' hq x with
  |keep k he _=>simp_all
  |box k he h1 h2 _ _ _ _=>exact done _ k he (by rw[h1];rfl)
  |dead p _=>rw[p] at d;cases d
  |tree _ _ _ _ p _=>rw[p] at d;cases d
  |ti _ _ _ _ p _ _=>rw[p] at d;cases d
  |nil _ p _ _=>rw[p] at d;cases d
def aV8 (r:bN Y.C E s a w β){k:Nat}{σ:List (Option Nat)}{o:List (EO U)}{u:St U}(c:u.m.o=o)(p:k<=u.m.k)(hX:∀b,E.X (σ.map (lQ β)) b->E.X β b)(hfree:∀x:Nat,True)
  (h:∀(l:Lo) (v:Value),LV a w β s.m.o l v->LV a w (σ.map (lQ β)) o l v):∀(xs:List DI) (n:Nat) (d:Dat U xs),gets Y s xs=some d->Plc k σ o s n xs->IF Y E k u a w (σ.map (lQ β)) n xs d
 |[],_,_,_,_=>trivial
 | .dat l kd::xs,n,d,hg,hp=>by
  obtain⟨j,t⟩:=nO hg;refine⟨?_,aV8 r c p hX hfree h xs n (Dtl d) t hp⟩;simp only[aX8] at j;cases hl:lkp s l with
  |none=>rw[hl] at j;cases j
  |some x=>
   rw[hl] at j;simp only at j;cases y:aN2 x with
   |false=>rw[y] at j;cases j
   |true=>rw[y] at j;obtain⟨v,h1,h2⟩:=aBw r hl;exact⟨v,by rw[c];exact h l v h1,bIv r h2 j hX (.inl y)⟩
 | .ti i τ G::xs,n,d,hg,hp=>⟨trivial,aV8 r c p hX hfree h xs n (Dtl d) (nO hg).2 hp⟩
 | .nat l::xs,n,d,hg,hp=>by
  obtain⟨j,t⟩:=nO hg;refine⟨?_,aV8 r c p hX hfree h xs n (Dtl d) t hp⟩;simp only[aX8] at j;cases hl:lkp s l with
  |none=>rw[hl] at j;cases j
  |some x=>rw[hl] at j;obtain⟨v,h1,h2⟩:=aBw r hl;obtain⟨q1,q2⟩:=bEa h2 j;exact⟨v,by rw[c];exact h l v h1,_,rfl,q1,q2⟩
 | .tr l i τ G::xs,n,d,hg,⟨⟨v,q,e,z,A,B,F,H⟩,hp⟩=>by
  obtain⟨j,t⟩:=nO hg;refine⟨?_,aV8 r c p hX hfree h xs n (Dtl d) t hp⟩;obtain⟨v',h1,h2⟩:=aBw r z;obtain⟨k1,k2⟩:=aKa h2 A;exact⟨v',by rw[c];exact h l v' h1,⟨p,k1⟩,e,lQ β q.1,by rw[c];exact F,by rw[bn,B];rfl,λ_=>k2⟩
 | .nt l τ G::xs,n,d,hg,⟨⟨v,q,e,z,A,B,F,H⟩,hp⟩=>by
  obtain⟨j,t⟩:=nO hg;refine⟨?_,aV8 r c p hX hfree h xs (Nat.succ n) (Dtl d) t hp⟩;obtain⟨v',h1,h2⟩:=aBw r z;obtain⟨k1,k2⟩:=aKa h2 A;exact⟨v',by rw[c];exact h l v' h1,⟨p,k1⟩,e,lQ β q.1,by rw[c];exact F,by rw[bn,B];rfl,λ_=>k2⟩
def zD (T:E.fr=[])(I:bN Y.C E b a0 w0 β0)(r:bN Y.C E s a w β){tm:Tm}(e:Ag (λn=>Kw tm.ws 0 n=true) b s){d:Dat U tm.it}(h:col Y b tm s=some d):∃β',bN Y.C E (reb Y b tm d) a w β':=by
 obtain⟨q,V,O,_,W,Z,c5,c6,c7⟩:=Lp h;have hI:=inv0 I e.m W;have A:(Pg (Nat.succ b.m.k) tm.aCG (Re (Nat.succ b.m.k) tm.dead b.m.o)).length=b.m.o.length:=by rw[Ro,Lh]
 obtain⟨z,S,_⟩:=Ia (eI _) tm.it q d _ _ V O hI (λi hi j hj=>by
  obtain⟨g1,B⟩:=aM7 hj;rcases B with⟨_,B⟩|⟨g3,B⟩
  ·cases B
  ·have:=aj B;subst this;rcases aV6 Z i hi with h|h
   all_goals grind) c5 (λi hi=>by rw[A];exact aV7 c7 i hi) c6
 rw[A] at S;obtain⟨H,ev⟩:=Hp.ren (m':=⟨aK1 (Nat.succ b.m.k) tm.it d (Pg (Nat.succ b.m.k) tm.aCG (Re (Nat.succ b.m.k) tm.dead b.m.o)),Nat.succ b.m.k,b.m.ns⟩) r.hp z.len z.ge z.inj (eg _) z.ver I.hp.cnt (λF i f ha hn=>by
  have h1:b.m.ns[F]? =some b.m.ns[F]:=ab ha;obtain⟨f',h2⟩:=e.m.ns F (b.m.ns[F]).1 (b.m.ns[F]).2 h1
  grind) z.src (λx J=>Sv.aBE (I.hp.pin x J)) T
 have hX:∀G,E.X ((sgm q (sg0 tm.dead b.m.o.length)).map (lQ β)) G->E.X β G:=λG hb=>ev.hX G (Hp.aCF H G hb) hb;have r1:bN Y.C E ⟨wip tm.ws b.t,⟨aK1 (Nat.succ b.m.k) tm.it d (Pg (Nat.succ b.m.k) tm.aCG (Re (Nat.succ b.m.k) tm.dead b.m.o)),Nat.succ b.m.k,b.m.ns⟩,b.fr⟩ a w ((sgm q (sg0 tm.dead b.m.o.length)).map (lQ β)):=by
  refine⟨H,r.defers,?_,λn x J=> ?_⟩
  ·show a.tmps.size=(wip tm.ws b.t).length;rw[bGo,r.tsz,e.tl]
  ·have c:=(aM8 (ws:=tm.ws) (p:=0) (n:=n) (l:=b.t)).symm.trans J;rw[cy] at c;split at c
   ·cases hb:b.t[n]? with
    |none=>simp_all
    |some y=>rw[hb] at c;have:=aj c;subst this;trivial
   ·rename_i hn;exact Sv.aAZ ev (Sv.aBE (I.tm n x c)) (r.tm n x ((e.t n hn).trans c))
 have L:=aV8 (Y:=Y) (u:=⟨wip tm.ws b.t,⟨aK1 (Nat.succ b.m.k) tm.it d (Pg (Nat.succ b.m.k) tm.aCG (Re (Nat.succ b.m.k) tm.dead b.m.o)),Nat.succ b.m.k,b.m.ns⟩,b.fr⟩) r rfl (ak _) hX (λ_=>trivial) (λl v h=>LV.ren z.len z.src r h) tm.it b.m.o.length d O S;have:=aOr tm.it r1 L
 grind[dA,reb]
def bQe {u:St U}{x:Sv U}{l:Lo}:(aBI u x l).fr=u.fr/\(aBI u x l).t.length=u.t.length/\Am u.m (aBI u x l).m/\∀n,(∀m,l= .s m->m≠n)->(aBI u x l).t[n]? =u.t[n]? :=by
 cases l with
 |s m=>refine⟨rfl,by simp only[aBI,put,dK,ao],Am.refl _,λn hn=> ?_⟩;simp only[aBI,put,dK];rw[bg (hn m rfl)]
 |c h j=>
  unfold aBI;simp only[aY];split
  ·rename_i T cs vs rv cv y he;refine⟨rfl,rfl,Am.turn (ids:=[]) u.m λ_ e d=> ?_,λ_ _=>rfl⟩
   rw[he] at d;have:=aj d;subst this;refine⟨rfl,λi cs1 vs1 T' cs' vs' k1 k2=> ?_⟩
   grind[List.getElem?_set_ne,lt_of_some,List.getElem?_set_self,Option.some.inj,dK,List.length_set,k2,k1]
  simp[Am.refl]
def Ag.aBI {D:Nat->Prop}{s0 u:St U}(h:Ag D s0 u){x:Sv U}{l:Lo}(hl:∀m,l= .s m->D m):Ag D s0 (aBI u x l):=by obtain⟨h1,h2,c,d⟩:=bQe (u:=u) (x:=x) (l:=l);exact⟨λn hn=>(d n (λm e e'=>hn (e'▸hl m e))).trans (h.t n hn),h2.trans h.tl,h1.trans h.fr,h.m.trans c⟩
def Ag.set1 {D:Nat->Prop}{s0 u:St U}(h:Ag D s0 u){k n:Nat}{x:DI}{d:x.ty U}{ws:List (Nat×Nat)}{xs:List DI}(e:slI ws (x::xs)=true)(p:∀n,Kw ws 0 n=true->D n):Ag D s0 (set1 Y k n u x d)/\slI ws xs=true:=by
 have key:∀l:Lo,(match l with| .s n=>Kw ws 0 n&&slI ws xs| .c .. =>slI ws xs)=true->(∀m,l= .s m->D m)/\slI ws xs=true:=λl hl=>by
  grind
 cases x with
 |dat l kd=>obtain⟨k1,k2⟩:=key l (by cases l<;>exact e);exact⟨h.aBI k1,k2⟩
 |nat l=>obtain⟨k1,k2⟩:=key l (by cases l<;>exact e);refine⟨Ag.aBI (u:=⟨u.t,⟨u.m.o,u.m.k,u.m.ns++[((⟨d,false⟩:Nat×Bool))]⟩,u.fr⟩) ⟨h.t,h.tl,h.fr,h.m.trans (Am.aCX _ λq i f h=>⟨f,by rw[aq (lt_of_some h)];exact h⟩)⟩ k1,k2⟩
 |tr l i τ j=>obtain⟨k1,k2⟩:=key l (by cases l<;>exact e);exact⟨h.aBI k1,k2⟩
 |nt l τ j=>obtain⟨k1,k2⟩:=key l (by cases l<;>exact e);exact⟨h.aBI k1,k2⟩
 |ti i τ j=>exact⟨h,e⟩
def Ag.sets {D:Nat->Prop}{s0:St U}{k:Nat}{ws:List (Nat×Nat)}(c:∀n,Kw ws 0 n=true->D n):∀(xs:List DI) {u:St U} {n:Nat} {d:Dat U xs},slI ws xs=true->Ag D s0 u->Ag D s0 (sets Y k n u xs d)
 |[],_,_,_,_,h=>h
 |x::xs,u,n,d,e,h=>by
  obtain⟨h1,h2⟩:=h.set1 (Y:=Y) (k:=k) (n:=n) (d:=Dhd d) e c;rw[aV3];exact Ag.sets c xs h2 h1
def aOs {k:Nat}:∀(xs:List DI) {d:Dat U xs} {o:List (EO U)} {j:Nat} {e:EO U},o[j]? =some e->∃e',(aK1 k xs d o)[j]? =some e'/\(e'=e\/(e'.cv=k/\e'.ob.aAY=false))
 |[],_,o,j,e,h=>⟨e,h, .inl rfl⟩
 |x::xs,d,o,j,e,h=>by
  rw[uZ];have h1:∃c,(aN6 k x (Dhd d) o)[j]? =some c/\(c=e\/(c.cv=k/\c.ob.aAY=false)):=by
   cases x with
   |dat l kd=>exact⟨e,h, .inl rfl⟩
   |nat l=>exact⟨e,h, .inl rfl⟩
   |tr l i τ p=>
    show ∃c,(upd o i (⟨.tree τ p _,k,k⟩:EO U))[j]? =some c/\_;rw[dK];by_cases n:i=j
    ·subst n;exact⟨_,bf (lt_of_some h), .inr ⟨rfl,rfl⟩⟩
    ·exact⟨e,by rw[bg n];exact h, .inl rfl⟩
   |ti i τ p=>
    show ∃c,(upd o i (⟨.tree τ p _,0,k⟩:EO U))[j]? =some c/\_;rw[dK];by_cases n:i=j
    ·subst n;exact⟨_,bf (lt_of_some h), .inr ⟨rfl,rfl⟩⟩
    ·exact⟨e,by rw[bg n];exact h, .inl rfl⟩
   |nt l τ p=>show ∃c,(o++[(⟨.tree τ p _,k,k⟩:EO U)])[j]? =some c/\_;exact⟨e,by rw[aq (lt_of_some h)];exact h, .inl rfl⟩
  obtain⟨c,h1,h2⟩:=h1;obtain⟨e',r,q⟩:=aOs xs (d:=Dtl d) h1;refine⟨e',r,?_⟩;rcases q with rfl|q
  ·exact h2
  ·exact .inr q
theorem bA8 {k:Nat}:∀(xs:List DI) {d:Dat U xs} {o:List (EO U)},o.length<=(aK1 k xs d o).length
 |[],_,o=>ak _
 |x::xs,d,o=>by
  rw[uZ];refine bz ?_ (bA8 xs);cases x with
  |dat=>exact ak _
  |nat=>exact ak _
  |tr l i τ c=>show o.length<=(upd o i _).length;grind[dK,List.length_set]
  |nt l τ c=>show o.length<=(o++[_]).length;simp
  |ti i τ c=>show o.length<=(upd o i _).length;grind[dK,List.length_set]
def aGn {tm:Tm}{d:Dat U tm.it}(h:slI tm.ws tm.it=true):Ag (λn=>Kw tm.ws 0 n=true) b (reb Y b tm d):=by
 unfold reb;refine Ag.sets (λ_ h=>h) tm.it h ⟨λn hn=> ?_,bGo,rfl,?_⟩
 ·have:=aM8 (ws:=tm.ws) (p:=0) (n:=n) (l:=b.t);simp[*]
 ·refine⟨eg _,(by simp_all),?_,λi e e' he q=> ?_⟩
  ·grind[Ro,Lh,Nat.le_trans,bA8]
  ·have hl:=lt_of_some he;by_cases hd:i∈tm.dead
   ·obtain⟨x,h1,h2,_⟩:=zT (k:=Nat.succ b.m.k) (aGg (k:=Nat.succ b.m.k) hd hl) tm.aCG;have e1d:=h2 (.inl rfl);obtain⟨r,v,j⟩:=aOs (k:=Nat.succ b.m.k) tm.it (d:=d) h1;have:=aj (v.symm.trans q);subst this;have:r.cv=Nat.succ b.m.k/\r.ob.aAY=false:=by
     rcases j with rfl|j
     ·rw[e1d];exact⟨rfl,rfl⟩
     ·exact j
    refine⟨λc=>by omega,λc=>(by rw[this.2] at c;cases c),λT cs vs T' cs' vs' _ c=> ?_⟩;rw[c] at this;cases this.2
   ·have h0:(Re (Nat.succ b.m.k) tm.dead b.m.o)[i]? =some e:=by grind[yO]
    obtain⟨x,h1,h2,y⟩:=zT (k:=Nat.succ b.m.k) h0 tm.aCG;obtain⟨r,v,j⟩:=aOs (k:=Nat.succ b.m.k) tm.it (d:=d) h1;have:=aj (v.symm.trans q);subst this;rcases j with rfl|j
    ·by_cases hk:e.ob.aAY=false\/hasB i tm.aCG=false
     ·simp_all
     ·have z:hasB i tm.aCG=true:=by simp_all
      cases ho:e.ob with
      |box T cs vs=>
       grind
      |_=>exact absurd (.inl (by rw[ho];rfl)) hk
    ·refine⟨λc=>by omega,λc=>(by rw[j.2] at c;cases c),λT cs vs T' cs' vs' _ c=> ?_⟩;rw[c] at j;cases j.2
end
end Go.EV
namespace Go.EV
open Go.RowKit Go.VK
variable {U:Uni} {Y:Lay U} {TI:List (Nat×TInfo)} {FZ:List (Nat×Sum U)} {IL:Il} {P:Program} {g:GI} {E:Env U g}
def WC (D:Nat->Prop):Code->Prop
 | .seq a b=>WC D a/\WC D b
 | .cond c a b=>(∀n,c= .tmp n->D n)/\WC D a/\WC D b
 | .block _ c=>WC D c
 | .loop c=>WC D c
 | .region _ os _=>∀o∈os.toList,∀n,Wr os.toList o n->D n
 |_=>True
def AW (D:Nat->Prop):An->Prop
 | .s a b=>AW D a/\AW D b
 | .j t a=>(∀n,Kw t.ws 0 n=true->D n)/\AW D a
 | .jx t a=>(∀n,Kw t.ws 0 n=true->D n)/\AW D a
 | .l t _ a=>(∀n,Kw t.ws 0 n=true->D n)/\AW D a
 | .rj _ t _=>∀n,Kw t.ws 0 n=true->D n
 |_=>True
def AW.true:∀an:An,AW (λ_=>True) an
 | .n=>trivial
 | .s a b=>⟨AW.true a,AW.true b⟩
 | .j t a=>⟨λ_ _=>trivial,AW.true a⟩
 | .jx t a=>⟨λ_ _=>trivial,AW.true a⟩
 | .l t _ a=>⟨λ_ _=>trivial,AW.true a⟩
 | .r .. =>trivial
 | .rj .. =>λ_ _=>trivial
 | .z .. =>trivial
 | .y .. =>trivial
 | .w .. =>trivial
 | .v .. =>trivial
 | .u .. =>trivial
 | .il .. =>trivial
 | .pl .. =>trivial
def aV9:∀{ws:List (Nat×Nat)} {p c hi n:Nat},bP1 ws p c hi=true->c<=n->n<hi->Kw ws p n=true
 |[],_,_,_,_,h,_,_=>by cases h
 |(a,b)::r,p,c,hi,n,h,h1,h2=>by
  simp only[bP1,cn,aa] at h;simp only[Kw,cn,aa];rcases h with⟨k1,k2⟩|h
  ·have:=ba k1;have:=ba k2;exact .inl ⟨eK (by omega),eK (by omega)⟩
  ·exact .inr (aV9 h h1 h2)
def Ib {ws:List (Nat×Nat)}:∀{r:List (Nat×Nat)} {p n:Nat},bDt ws r p=true->Kw r p n=true->Kw ws 0 n=true
 |[],_,_,_,h=>by cases h
 |(a,b)::r,p,n,h,h1=>by
  simp only[bDt,aa,cn] at h;simp only[Kw,cn,aa] at h1;rcases h1 with⟨k1,k2⟩|h1
  ·have:=ba k1;have:=ba k2;rcases h.1 with h|h
   ·have:=ah h;omega
   ·exact aV9 h (by omega) (by omega)
  ·exact Ib h.2 h1
def wC {ws:List (Nat×Nat)}:∀{an:An},anW ws an=true->AW (λn=>Kw ws 0 n=true) an
 | .n,_=>trivial
 | .s a b,h=>by simp only[anW,aa] at h;exact⟨wC h.1,wC h.2⟩
 | .j t a,h=>by simp only[anW,aa] at h;exact⟨λn=>Ib h.1,wC h.2⟩
 | .jx t a,h=>by simp only[anW,aa] at h;exact⟨λn=>Ib h.1,wC h.2⟩
 | .l t _ a,h=>by simp only[anW,aa] at h;exact⟨λn=>Ib h.1,wC h.2⟩
 | .r ..,_=>trivial
 | .rj ..,h=>λn=>Ib h
 | .z ..,_=>trivial
 | .y ..,_=>trivial
 | .w ..,_=>trivial
 | .v ..,_=>trivial
 | .u ..,_=>trivial
 | .il ..,_=>trivial
 | .pl ..,_=>trivial
def AW.a {D:Nat->Prop}{an:An}(h:AW D an):AW D an.a:=by cases an<;>first|exact h.1|trivial
def AW.b {D:Nat->Prop}{an:An}(h:AW D an):AW D an.b:=by cases an<;>first|exact h.2|trivial
def aBx {ws:List (Nat×Nat)}{al:List Oper}:∀{l:List Oper},wrG ws al l=true->∀o∈l,∀n,Wr al o n->Kw ws 0 n=true
 |[],_,o,h=>by simp at h
 |x::l,h,o,ho=>by
  have e:wrG ws al (x::l)=cond ((match x.dst with|some n=>Kw ws 0 n|none=>true)&&(match x.guard with|some (j,_)=>(match nth al j with|some oj=>(match oj.dst with|some n=>Kw ws 0 n|none=>true)|none=>true)|none=>true)) (wrG ws al l) false:=rfl;rw[e] at h;cases hc:((match x.dst with|some n=>Kw ws 0 n|none=>true)&&(match x.guard with|some (j,_)=>(match nth al j with|some oj=>(match oj.dst with|some n=>Kw ws 0 n|none=>true)|none=>true)|none=>true)) with
  |false=>rw[hc] at h;cases h
  |true=>
   rw[hc] at h;simp only[ac] at h;rcases bc.1 ho with rfl|ho
   ·simp only[aa] at hc;rintro n (hn|⟨j,b,oj,h1,h2,c⟩)
    ·have:=hc.1;rw[hn] at this;exact this
    ·have:=hc.2;rw[h1] at this;simp only[aY,h2,c] at this;exact this
   ·exact aBx h o ho
def aYs {ws:List (Nat×Nat)}:∀{f:Nat} {c:Code},wr ws f c=true->WC (λn=>Kw ws 0 n=true) c:=by
 intro f;induction f with
 |zero=>intro c h;cases h
 |succ f i=>
  intro c h;cases c with
  |seq a b=>replace h:(wr ws f a&&wr ws f b)=true:=h;simp only[aa] at h;exact⟨i h.1,i h.2⟩
  |cond c a b=>
   cases c with
   |tmp n=>replace h:(Kw ws 0 n&&(wr ws f a&&wr ws f b))=true:=h;simp only[aa] at h;exact⟨λj e=>by injection e with e;subst e;exact h.1,i h.2.1,i h.2.2⟩
   |_=>cases h
  |block id c=>exact i (c:=c) h
  |loop c=>exact i (c:=c) h
  |region id os d=>exact aBx (by assumption)
  |_=>trivial
section
variable {α:Type}
def Snd (P:Program)(Y:Lay U)(E:Env U g)(D:Nat->Prop)(c:Code)(s:St U){α:Type}(z:α)(N:St U->Option α)(X:Nat->St U->Option α)(R:St U->Option α):Prop:=
 ∀Q:Exit->Act->World->Prop,(∀s' a w β,Ag D s s'->N s'=some z->bN Y.C E s' a w β->Q .normal a w)->(∀i s' a w β,Ag D s s'->X i s'=some z->bN Y.C E s' a w β->Q (.exit i) a w)->(∀s' a w β,Ag D s s'->R s'=some z->bN Y.C E s' a w β->Q .ret a w)->
  ∀a w β,bN Y.C E s a w β->c.wp P Q a w
def bGp (P:Program)(Y:Lay U)(TI:List (Nat×TInfo))(FZ:List (Nat×Sum U))(IL:Il)(g:GI):Prop:=
 ∀(E:Env U g),E.fr=[]->E.prm=[]->∀(α:Type) (EV:An->Code->St U->(St U->Option α)->Option α),(∀(E:Env U g),E.fr=[]->E.prm=[]->∀(an:An) (c:Code) (s:St U) (K:St U->Option α) (z:α),EV an c s K=some z->Snd P Y E (λ_=>True) c s z K (λ_ _=>none) K)->
  ∀(id:Nat) (os:Array Oper) (d:Bool) (an:An) (s:St U) (N:St U->Option α) (X:Nat->St U->Option α) (R:St U->Option α) (z:α) (D:Nat->Prop),(∀o∈os.toList,∀n,Wr os.toList o n->D n)->AW D an->bDy Y TI FZ IL EV os.toList os d an s N=some z->Snd P Y E D (.region id os d) s z N X R
def WC.true:∀c:Code,WC (λ_=>True) c:=λc=>by
 induction c with
 |seq a b h1 h2=>exact⟨h1,h2⟩
 |cond c a b h1 h2=>exact⟨λ_ _=>trivial,h1,h2⟩
 |block id c h=>exact h
 |loop c h=>exact h
 |region id os d=>exact λ_ _ _ _=>trivial
 |_=>trivial
def NJ (an:An):Prop:=(∀tm a,an≠ .j tm a)/\∀tm a,an≠ .jx tm a
section
variable {f:Nat} {an:An} {s:St U} {N:St U->Option α} {X:Nat->St U->Option α} {R:St U->Option α}
def bUt (h:NJ an){a b:Code}:ev Y TI FZ IL (f+1) an (.seq a b) α s N X R=ev Y TI FZ IL f an.a a α s (λs'=>ev Y TI FZ IL f an.b b α s' N X R) X R:=by cases an<;>first|exact absurd rfl (h.1 _ _)|exact absurd rfl (h.2 _ _)|rfl
def bQf (h:NJ an){n:Nat}{a b:Code}:ev Y TI FZ IL (f+1) an (.cond (.tmp n) a b) α s N X R=tst n s (λs=>ev Y TI FZ IL f an.a a α s N X R) (λs=>ev Y TI FZ IL f an.b b α s N X R):=by cases an<;>first|exact absurd rfl (h.1 _ _)|exact absurd rfl (h.2 _ _)|rfl
def bMf (h:NJ an){c:Operand}{a b:Code}{z:α}(d:ev Y TI FZ IL (f+1) an (.cond c a b) α s N X R=some z):∃n,c= .tmp n:=by
 cases c with
 |tmp n=>simp
 |_=>cases an<;>first|exact absurd rfl (h.1 _ _)|exact absurd rfl (h.2 _ _)|cases d
def bMg (h:NJ an){id:Nat}{c:Code}:ev Y TI FZ IL (f+1) an (.block id c) α s N X R=ev Y TI FZ IL f an.a c α s N (λi s'=>bif Nat.beq i id then N s' else X i s') R:=by cases an<;>first|exact absurd rfl (h.1 _ _)|exact absurd rfl (h.2 _ _)|rfl
def bQg (h:NJ an){c:Code}{z:α}(e:ev Y TI FZ IL (f+1) an (.loop c) α s N X R=some z):(∃tm n a,an= .l tm n a/\(bif wr tm.ws f c&&anW tm.ws a then bd (col Y s tm s) (bY n λrec d=>ev Y TI FZ IL f a c α (reb Y s tm d) (λs'=>bd (col Y s tm s') rec) X R) else none)=some z)\/∃a b,an= .s a b/\NJ b/\ev Y TI FZ IL f a c α s (λs'=>ev Y TI FZ IL f b (.loop c) α s' N X R) X R=some z:=by cases an<;>grind[inl,bW3,ev,NJ,absurd]
def bQh (h:NJ an):ev Y TI FZ IL (f+1) an .skip α s N X R=N s:=by cases an<;>first|exact absurd rfl (h.1 _ _)|exact absurd rfl (h.2 _ _)|rfl
def bUu (h:NJ an):ev Y TI FZ IL (f+1) an .ret α s N X R=R s:=by cases an<;>first|exact absurd rfl (h.1 _ _)|exact absurd rfl (h.2 _ _)|rfl
def bQi (h:NJ an){i:Nat}:ev Y TI FZ IL (f+1) an (.exit i) α s N X R=X i s:=by cases an<;>first|exact absurd rfl (h.1 _ _)|exact absurd rfl (h.2 _ _)|rfl
def bI3 (h:NJ an){id:Nat}{os:Array Oper}{d:Bool}:ev Y TI FZ IL (f+1) an (.region id os d) α s N X R=bDy Y TI FZ IL (λa c s K=>ev Y TI FZ IL f a c α s K (λ_ _=>none) K) os.toList os d an s N:=by cases an<;>first|exact absurd rfl (h.1 _ _)|exact absurd rfl (h.2 _ _)|rfl
end
def bMh (an:An):(∃tm a,an= .j tm a)\/(∃tm a,an= .jx tm a)\/NJ an:=by cases an<;>simp[NJ]
def LoopIn (P:Program)(Y:Lay U)(E:Env U g)(D:Nat->Prop)(c:Code)(s:St U){α:Type}(z:α)(N:St U->Option α)(X:Nat->St U->Option α)(R:St U->Option α):Prop:=
 ∀Q:Exit->Act->World->Prop,(∀s' a w β,Ag D s s'->N s'=some z->bN Y.C E s' a w β->Q .normal a w)->(∀i s' a w β,Ag D s s'->X i s'=some z->bN Y.C E s' a w β->Q (.exit i) a w)->(∀s' a w β,Ag D s s'->R s'=some z->bN Y.C E s' a w β->Q .ret a w)->
  ∀a w β,bN Y.C E s a w β->∀(b:Frame) (kk:List Item) (cs:List Frame),∃e d w',Q e d w'/\Arrives P (lone (b.at a (.code c:: .inLoop c::kk)) cs w) b kk cs e d w'
def bA9 (P:Program)(Y:Lay U)(TI:List (Nat×TInfo))(FZ:List (Nat×Sum U))(IL:Il)(g:GI)(f:Nat):Prop:=∀(E:Env U g),E.fr=[]->E.prm=[]->∀(an:An) (c:Code) (α:Type) (s:St U) (N:St U->Option α) (X:Nat->St U->Option α) (R:St U->Option α) (z:α) (D:Nat->Prop),WC D c->AW D an->ev Y TI FZ IL f an c α s N X R=some z->Snd P Y E D c s z N X R
def aYt (P:Program)(Y:Lay U)(TI:List (Nat×TInfo))(FZ:List (Nat×Sum U))(IL:Il)(g:GI)(f:Nat):Prop:=∀(E:Env U g),E.fr=[]->E.prm=[]->∀(an:An) (c:Code) (α:Type) (s:St U) (N:St U->Option α) (X:Nat->St U->Option α) (R:St U->Option α) (z:α) (D:Nat->Prop),NJ an->WC D c->AW D an->ev Y TI FZ IL f an (.loop c) α s N X R=some z->LoopIn P Y E D c s z N X R
def bGq {f:Nat}(IH:bA9 P Y TI FZ IL g f/\aYt P Y TI FZ IL g f):aYt P Y TI FZ IL g (f+1):=by
 intro E A J an j α s N X R z D hn W F h Q hN hX Z a0 w0 β0 G b kk cs;rcases bQg hn h with⟨tm,n,a,rfl,h'⟩|⟨a,b2,rfl,L,h'⟩<;>replace h:=h'
 ·cases hb:(wr tm.ws f j&&anW tm.ws a) with
  |false=>simp_all
  |true=>
   rw[hb] at h;simp only[ac] at h;simp only[aa] at hb;obtain⟨d0,h1,h2⟩:=jV h;have key:∀(m:Nat) (d:Dat U tm.it),bY m (λrec d=>ev Y TI FZ IL f a j α (reb Y s tm d) (λs'=>bd (col Y s tm s') rec) X R) d=some z->∀H I β1,bN Y.C E (reb Y s tm d) H I β1->Ag (λn=>Kw tm.ws 0 n=true) s (reb Y s tm d)->∀(b:Frame) (kk:List Item) (cs:List Frame),
     ∃e y w',Q e y w'/\Arrives P (lone (b.at H (.code j:: .inLoop j::kk)) cs I) b kk cs e y w':=by
    intro m;induction m with
    |zero=>intro d hd;cases hd
    |succ m ih=>
     intro d hd H I β1 O hg b kk cs;have S:ev Y TI FZ IL f a j α (reb Y s tm d) (λs'=>bd (col Y s tm s') (bY m (λrec d=>ev Y TI FZ IL f a j α (reb Y s tm d) (λs'=>bd (col Y s tm s') rec) X R))) X R=some z:=hd;have k:=IH.1 E A J a j _ _ _ _ _ z _ (aYs hb.1) (wC hb.2) S (Exit.then (λy w'=>∃d' β',bY m (λrec d=>ev Y TI FZ IL f a j α (reb Y s tm d) (λs'=>bd (col Y s tm s') rec) X R) d'=some z/\bN Y.C E (reb Y s tm d') y w' β'/\Ag (λn=>Kw tm.ws 0 n=true) s (reb Y s tm d')) Q)
      (λs2 q r β2 o hc t=>by
       obtain⟨d',q1,q2⟩:=jV hc;obtain⟨β',r'⟩:=zD A G t (hg.trans o) q1;obtain⟨_,_,_,hs,_⟩:=Lp q1;exact⟨d',β',q2,r',aGn hs⟩)
      (λi s2 q r β2 o hc t=>hX i s2 q r β2 ((hg.trans o).mono F.1) hc t)
      (λs2 q r β2 o hc t=>Z s2 q r β2 ((hg.trans o).mono F.1) hc t) H I β1 O b (.inLoop j::kk) cs
     obtain⟨e,a₁,w₁,hq,c⟩:=k;cases e with
     |normal=>obtain⟨d',β',T,V,B⟩:=hq;obtain⟨e₂,a₂,w₂,v,p⟩:=ih d' T a₁ w₁ β' V B b kk cs;exact⟨e₂,a₂,w₂,v, .of_steps (Steps.trans c (.one step_inLoop)) p⟩
     |exit id=>exact⟨_,a₁,w₁,hq, .pass (x:= .inLoop j) rfl (λ_ _=> .inl (by simp)) c⟩
     |goto l=>exact⟨_,a₁,w₁,hq, .pass (x:= .inLoop j) rfl (λ_ _=> .inl (by simp)) c⟩
     |ret=>exact⟨_,a₁,w₁,hq, .pass (x:= .inLoop j) rfl (λ_ _=> .inl (by simp)) c⟩
     |panic ch=>exact⟨_,a₁,w₁,hq, .pass (x:= .inLoop j) rfl (λ_ _=> .inl (by simp)) c⟩
     |outgrown=>exact⟨_,a₁,w₁,hq, .pass (x:= .inLoop j) rfl (λ_ _=> .inl (by simp)) c⟩
   obtain⟨β1,O⟩:=zD A G G (Ag.refl s) h1;obtain⟨_,_,_,hs,_⟩:=Lp h1;exact key n d0 h2 a0 w0 β1 O (aGn hs) b kk cs
 ·have k:=IH.1 E A J a j _ s _ _ _ z D W F.1 h (Exit.then (λy w'=>∃s' β',ev Y TI FZ IL f b2 (.loop j) α s' N X R=some z/\bN Y.C E s' y w' β'/\Ag D s s') Q)
   (λs2 q r β2 o hc t=>⟨s2,β2,hc,t,o⟩)
   (by assumption)
   (by assumption) a0 w0 β0 G b (.inLoop j::kk) cs
  obtain⟨e,a₁,w₁,hq,c⟩:=k;cases e with
  |normal=>obtain⟨s',β',T,V,B⟩:=hq;obtain⟨e₂,a₂,w₂,v,p⟩:=IH.2 E A J b2 j _ s' N X R z D L W F.2 T Q (λs2 q r β2 hg=>hN s2 q r β2 (B.trans hg)) (λi s2 q r β2 hg=>hX i s2 q r β2 (B.trans hg)) (λs2 q r β2 hg=>Z s2 q r β2 (B.trans hg)) a₁ w₁ β' V b kk cs;exact⟨e₂,a₂,w₂,v, .of_steps (Steps.trans c (.one step_inLoop)) p⟩
  |exit id=>exact⟨_,a₁,w₁,hq, .pass (x:= .inLoop j) rfl (λ_ _=> .inl (by simp)) c⟩
  |goto l=>exact⟨_,a₁,w₁,hq, .pass (x:= .inLoop j) rfl (λ_ _=> .inl (by simp)) c⟩
  |ret=>exact⟨_,a₁,w₁,hq, .pass (x:= .inLoop j) rfl (λ_ _=> .inl (by simp)) c⟩
  |panic ch=>exact⟨_,a₁,w₁,hq, .pass (x:= .inLoop j) rfl (λ_ _=> .inl (by simp)) c⟩
  |outgrown=>exact⟨_,a₁,w₁,hq, .pass (x:= .inLoop j) rfl (λ_ _=> .inl (by simp)) c⟩
def bUv (HR:bGp P Y TI FZ IL g){f:Nat}(IH:bA9 P Y TI FZ IL g f/\aYt P Y TI FZ IL g f):bA9 P Y TI FZ IL g (f+1):=by
  intro E x A an c α s N X R z D G B h;rcases bMh an with⟨tm,a,rfl⟩|⟨tm,a,rfl⟩|hn
  ·replace h:(bif wr tm.ws f c&&anW tm.ws a then bd (ev Y TI FZ IL f a c (Dat U tm.it) s (λs'=>col Y s tm s') (λ_ _=>none) (λ_=>none)) λd=>N (reb Y s tm d) else none)=some z:=h;cases hb:(wr tm.ws f c&&anW tm.ws a) with
   |false=>simp_all
   |true=>rw[hb] at h;simp only[ac] at h;simp only[aa] at hb;obtain⟨d,h1,h2⟩:=jV h;intro Q v hX y a0 w0 β0 p;refine IH.1 E x A a c _ s _ _ _ d _ (aYs hb.1) (wC hb.2) h1 Q (λs' F w' β' j hc r'=> ?_) (by simp) (by simp) a0 w0 β0 p;obtain⟨β'',H⟩:=zD x p r' j hc;obtain⟨_,_,_,hs,_⟩:=Lp hc;exact v _ _ _ _ ((aGn hs).mono B.1) h2 H
  ·replace h:(bif wr tm.ws f c&&anW tm.ws a then nx (ev Y TI FZ IL f a c (α⊕Dat U tm.it) s (λs'=>bd (col Y s tm s') λd=>some (.inr d)) (λi s'=>bd (X i s') λr=>some (.inl r)) (λs'=>bd (R s') λr=>some (.inl r))) λd=>N (reb Y s tm d) else none)=some z:=h;cases hb:(wr tm.ws f c&&anW tm.ws a) with
   |false=>simp_all
   |true=>
    rw[hb] at h;simp only[ac] at h;simp only[aa] at hb;obtain⟨q,h1,h2⟩:=bPu h;intro Q v hX y a0 w0 β0 p;refine IH.1 E x A a c _ s _ _ _ q _ (aYs hb.1) (wC hb.2) h1 Q (λs' F w' β' j hc r'=> ?_) (λi s' F w' β' j hc r'=> ?_) (λs' F w' β' j hc r'=> ?_) a0 w0 β0 p
    ·obtain⟨d,I,J⟩:=jV hc;have:=aj J;subst this;obtain⟨β'',H⟩:=zD x p r' j I;obtain⟨_,_,_,hs,_⟩:=Lp I;exact v _ _ _ _ ((aGn hs).mono B.1) h2 H
    ·obtain⟨d,I,J⟩:=jV hc;have:=aj J;subst this;obtain rfl:d=z:=h2;exact hX i s' F w' β' (j.mono B.1) I r'
    ·obtain⟨d,I,J⟩:=jV hc;have:=aj J;subst this;obtain rfl:d=z:=h2;exact y s' F w' β' (j.mono B.1) I r'
  cases c with
  |seq a b=>
   rw[bUt hn] at h;intro Q v hX y a0 w0 β0 p;exact wp_seq (IH.1 E x A an.a a _ s _ _ _ z D G.1 B.a h (Exit.then (b.wp P Q) Q) (λs' F w' β' j h2 r'=>
    IH.1 E x A an.b b _ s' _ _ _ z D G.2 B.b h2 Q (λs2 l o β2 hg=>v s2 l o β2 (j.trans hg)) (λi s2 l o β2 hg=>hX i s2 l o β2 (j.trans hg)) (λs2 l o β2 hg=>y s2 l o β2 (j.trans hg)) F w' β' r')
    (by assumption) (by assumption) a0 w0 β0 p)
  |cond T a b=>
    obtain⟨n,rfl⟩:=bMf hn h;rw[bQf hn] at h;intro Q v hX y a0 w0 β0 p;obtain⟨t,s1,k1,k2,k3,k4,k5,k6⟩:=aV1 p h;have j:=k6.mono (D':=D) (λk e=>e▸G.1 n rfl);refine wp_cond_split k1 (λht=> ?_) (λS=> ?_)
    ·exact IH.1 E x A an.a a _ s1 _ _ _ z D G.2.1 B.a (k4 ht) Q (λs2 l o β2 hg=>v s2 l o β2 (j.trans hg)) (λi s2 l o β2 hg=>hX i s2 l o β2 (j.trans hg)) (λs2 l o β2 hg=>y s2 l o β2 (j.trans hg)) a0 w0 β0 k3
    ·exact IH.1 E x A an.b b _ s1 _ _ _ z D G.2.2 B.b (k5 S) Q (λs2 l o β2 hg=>v s2 l o β2 (j.trans hg)) (λi s2 l o β2 hg=>hX i s2 l o β2 (j.trans hg)) (λs2 l o β2 hg=>y s2 l o β2 (j.trans hg)) a0 w0 β0 k3
  |block id O=>
   rw[bMg hn] at h;intro Q v hX y a0 w0 β0 p;refine wp_block (IH.1 E x A an.a O _ s _ _ _ z D G B.a h (Exit.inBlock id Q) (by assumption) (λi s' F w' β' j h2 r'=> ?_) (by assumption) a0 w0 β0 p)
   grind[Nat.beq,id,Nat.eq_of_beq_eq_true,Nat.beq_refl,Exit.inBlock]
  |loop O=>intro Q v hX y a0 w0 β0 p b kk cs;obtain⟨e,F,w',hq,L⟩:=bGq IH E x A an O α s N X R z D hn G B h Q v hX y a0 w0 β0 p b kk cs;exact⟨e,F,w',hq, .of_steps (.one step_loop) L⟩
  |skip=>
   rw[bQh hn] at h;intro Q v hX y a0 w0 β0 p
   grind[wp_skip,Ag.refl]
  |ret=>
   rw[bUu hn] at h;intro Q v hX y a0 w0 β0 p
   grind[wp_ret,Ag.refl]
  |exit i=>
   rw[bQi hn] at h;intro Q v hX y a0 w0 β0 p
   grind[wp_exit,Ag.refl]
  |region id os d=>rw[bI3 hn] at h;exact HR E x A α _ (λE x A an c s K z h=>IH.1 E x A an c _ s _ _ _ z (λ_=>True) (WC.true c) (AW.true an) h) id os d an s N X R z D G B h
  |_=>cases an<;>first|exact absurd rfl (hn.1 _ _)|exact absurd rfl (hn.2 _ _)|cases h
def aYu (HR:bGp P Y TI FZ IL g):∀(f:Nat),bA9 P Y TI FZ IL g f/\aYt P Y TI FZ IL g f
 |0=>And.intro (λE _ _ an c α s N X R z D _ _ h=>nomatch h) (λE _ _ an d α s N X R z D _ _ _ h=>nomatch h)
 |f+1=>⟨bUv HR (aYu HR f),bGq (aYu HR f)⟩
def aOt (HR:bGp P Y TI FZ IL g)(f:Nat):bA9 P Y TI FZ IL g f:=(aYu HR f).1
end
end Go.EV
namespace Go.EV
open Go.RowKit Go.VK
variable {U:Uni} {Y:Lay U} {TI:List (Nat×TInfo)} {FZ:List (Nat×Sum U)} {P:Program} {g:GI} {E:Env U g}
section
variable {s:St U} {a:Act} {w:World} {β:List Tr} {α:Type}
def aYv (G:Good P g Y TI FZ)(r:bN Y.C E s a w β){al:List Oper}{o:Oper}{K:St U->Option α}{z:α}(h:grd Y TI FZ al o s K=some z){c:Act->World->Prop}{Q:Exit->Act->World->Prop}
  (hk:∀s' v w' β',Ag (Wr al o) s s'->K s'=some z->bN Y.C E s' (a.put o.dst v) w' β'->(Nat.ble (yN FZ o.op) 1=true->Ext w w')->c (a.put o.dst v) w'):if Region.wanted o (yielded al.toArray a.tmps)=true then o.wp P a w c Q else c (a.put o.dst undef) w:=by
 obtain⟨s1,i,h1,h2⟩:=aGk r h;rcases h2 with⟨d,h2⟩|⟨d,h2⟩
 ·rw[cW d];unfold one at h2;obtain⟨x,s2,k1,k2,k3,k4,k5⟩:=aV0 G i rfl h2;exact k2 c Q λv w' β' q1 q2 q3=>hk _ v w' β' (Ag.put ⟨λn hn=>by rw[k3];exact h1.t n hn,by rw[k3];exact h1.tl,by rw[k4];exact h1.fr,h1.m.trans k5⟩ (λn e=> .inl e)) k1 (q1.put q2) q3
 ·rw[dm (by rw[d];simp)];exact hk _ _ w β (h1.put (λn e=> .inl e)) h2 (i.put (x:= .l .und) (v:=undef) (λ_=>rfl)) (λ_=>Ext.refl w)
def bN.aBS {C:Cod U}(r:bN C E s a w β){d:Option Nat}{x:Sv U}{v:Value}(h:d≠none->x.mean C w (E.X β) β s.m v)(hv:∀n,d=some n->a.tmps.getD n undef=v):bN C E (EV.put s d x) a w β:=by
 have r':=r.put h;refine⟨r'.hp,r.defers,?_,λn y c=> ?_⟩
 ·rw[r.tsz];cases d with
  |none=>rfl
  |some m=>simp[EV.put,dK]
 ·have:=r'.tm n y c;cases d with
  |none=>exact this
  |some m=>
   by_cases hm:m=n
   ·subst hm;by_cases hl:m<a.tmps.size
    ·rw[show(a.put (some m) v).tmps.getD m undef=v from by simp only[Act.put];rw[zL _ _ _ _ _ hl,cW rfl]] at this;rw[hv m rfl];exact this
    ·rw[show(a.put (some m) v).tmps=a.tmps from eN (by omega)] at this;exact this
   ·rw[show(a.put (some m) v).tmps.getD n undef=a.tmps.getD n undef from by
     simp only[Act.put];by_cases hl:m<a.tmps.size
     ·rw[zL _ _ _ _ _ hl,dm hm]
     ·rw[eN (by omega)]] at this
    exact this
def aBy {d:Option Nat}{v:Value}{n:Nat}(h:d≠some n):(a.put d v).tmps.getD n undef=a.tmps.getD n undef:=by
 cases d with
 |none=>rfl
 |some m=>
  simp only[Act.put];by_cases hl:m<a.tmps.size
  ·rw[zL _ _ _ _ _ hl,dm (λe=>h (by rw[e]))]
  ·rw[eN (by omega)]
def bN.aCC {C:Cod U}(r:bN C E s a w β){d:Option Nat}{v:Value}(h:aTo s d=true):bN C E s (a.put d v) w β:=by
 refine⟨r.hp,?_,?_,λn x c=> ?_⟩
 ·cases d<;>exact r.defers
 ·rw[<-r.tsz];cases d with
  |none=>rfl
  |some m=>simp[Act.put]
 ·by_cases hd:d=some n
  ·subst hd;simp only[aTo,aY,c] at h;split at h
   ·rename_i e;have:=aj e;subst this;trivial
   ·cases h
  ·rw[aBy hd];exact r.tm n x c
def bN.aDN {C:Cod U}(r:bN C E s a w β){d:Option Nat}:bN C E (EV.put s d (.l .any)) a w β:=by
 cases d with
 |none=>exact r
 |some n=>exact r.aBS (v:=a.tmps.getD n undef) (λ_=>trivial) (λm e=>by cases e;rfl)
theorem Ic {o:Oper}(h:aN9 o.op=true){a:Act}{w:World}{v:Value}(hr:(execOp a.eval o).run P w= .ok (.value v) w)(w':World):(execOp a.eval o).run P w'= .ok (.value v) w':=by
 cases ho:o.op with
 |move x=>simp[execOp,ho] at hr ⊢;exact hr
 |assign x=>simp[execOp,ho] at hr ⊢;exact hr
 |extract x i=>
  simp only[execOp,ho] at hr ⊢;cases c:a.eval x with
  |tuple vs=>
   rw[c] at hr;simp only[Instr.extract] at hr ⊢;cases hv:vs[i]? with
   |none=>rw[hv] at hr;simp at hr
   |some u=>rw[hv] at hr;simp at hr ⊢;exact hr
  |_=>rw[c] at hr;simp[Instr.extract] at hr
 |_=>rw[ho] at h;cases h
def Rp {a0:Option Nat}{i:Nat}{c:Array Bool}{pre:Bool}(h:a0Y a0 i c=true)(hp:iL a0 c=pre):iL a0 (c.setIfInBounds i true)=(pre&& !Df a0 i):=by
 cases a0 with
 |none=>have:pre=true:=hp.symm;subst this;rfl
 |some b=>
  by_cases hb:b=i
  ·subst hb;have e:Df (some b) b=true:=dr b;rw[e];simp only[a0Y,cA,da,bv] at h;rw[h];simp
  ·have e:Df (some b) i=false:=by
    unfold Df;cases d:Nat.beq b i with
    |false=>exact d
    |true=>exact absurd (ah d) hb
   rw[e,yM (λe=>hb (aj e)),hp];simp
def bXc {os:Array Oper}{a0:Option Nat}(hs:Region.noSelect os=true){Q:Exit->Act->World->Prop}{i:Nat}{o:Oper}{v:Value}{n:Nat}{c:Array Bool}{wS:World}(ho:os[i]? =some o)(k:Dn .any os c)(hc:tkY os a0 i c=true)
  (y:YieldsIf P os (Ext wS) o v a) (p:aN9 o.op=true->YieldsIf P os (λ_=>True) o v a) (q:iL a0 c=true->Ext wS w)
  (h:eZ P .any os a0 (NoPanic Q) (Ext wS) n (c.setIfInBounds i true) (a.put o.dst v) w):eZ P .any os a0 (NoPanic Q) (Ext wS) (n+1) c a w:=by
 simp only[tkY,aa] at hc;obtain⟨⟨h1,h2⟩,r⟩:=hc;have d:i∈Region.ready .any os c:=by simpa using h2
 cases a0 with
 |none=>exact pG ho (Region.noSelect_spec hs) (λ_ _ _ h=>h) (by simp) (λ_ _ _=>rfl) n c a w (Region.free_spec ho h1) k d y (q rfl) h
 |some b=>
  simp only[aa,bne_iff_ne,ne_eq,cn,ho] at r;have l:some b≠some i:=λe=>r.1 (aj e);rcases r.2 with t|t
  ·have j:∀c,Dn .any os c->c.getD i true=false->iL (some b) c=true:=λc k x=>by
    simp only[iL,bv];exact getD_in (Xl k x 40 b t)
   exact pG ho (Region.noSelect_spec hs) (λ_ _ _ h=>h) l j n c a w (Region.free_spec ho h1) k d y (q (j _ k (mem_ready.1 d).1)) h
  ·exact Gr ho (Region.noSelect_spec hs) (λ_ _ _ h=>h) l n c a w (Region.free_spec ho h1) d (p t) q h
def vB {os:Array Oper}{a0:Option Nat}{i:Nat}{c:Array Bool}(h:tkY os a0 i c=true):i∈Region.ready .any os c/\a0≠some i:=by
 simp only[tkY,aa] at h;refine⟨by simpa using h.1.2,λe=> ?_⟩
 subst e;have:=h.2;simp at this
structure Lk (E:Env U g) (kd:Option (Nat×Nat)) (st pre:Bool) (wS w:World):Prop where
 fr:∀n k,kd=some (n,k)->(wS,n,k)∈E.fr
 st:st=true->wS=w
 no:kd=none->wS=w
 pre:pre=true->Ext wS w
def stepT (G:Good P g Y TI FZ){al:List Oper}{a0:Option Nat}(hs:Region.noSelect al.toArray=true){Q:Exit->Act->World->Prop}{i:Nat}{o:Oper}{n:Nat}{c:Array Bool}{wS:World}(ho:al[i]? =some o)(j:Dn .any al.toArray c)(hc:tkY al.toArray a0 i c=true)
  {K:St U->Option α} {z:α} {st:Bool} (h:(bif Nat.beq (yN FZ o.op) 0&&(aN9 o.op||st) then grd Y TI FZ al o s K else none)=some z) (e:st=true->wS=w) (k:iL a0 c=true->Ext wS w) (r:bN Y.C E s a w β)
  (hk:∀v s',Ag (Wr al o) s s'->K s'=some z->bN Y.C E s' (a.put o.dst v) w β->eZ P .any al.toArray a0 (NoPanic Q) (Ext wS) n (c.setIfInBounds i true) (a.put o.dst v) w):eZ P .any al.toArray a0 (NoPanic Q) (Ext wS) (n+1) c a w:=by
 cases hb:(Nat.beq (yN FZ o.op) 0&&(aN9 o.op||st)) with
 |false=>rw[hb] at h;cases h
 |true=>
  rw[hb] at h;simp only[ac] at h;simp only[aa,cn] at hb;obtain⟨v,s',h1,h2,l,p⟩:=bUr G r (ah hb.1) h;have hg:al.toArray[i]? =some o:=by simpa using ho
  have d:aN9 o.op=true->YieldsIf P al.toArray (λ_=>True) o v a:=λhp=>h1.imp (λ⟨k1,k2⟩=>⟨k1,λw' _=>Ic hp (k2 w (Ext.refl w)) w'⟩) id;refine bXc hs hg j hc ?_ d k (hk v s' p l h2);rcases hb.2 with hp|hp
  ·exact(d hp).imp (λ⟨k1,k2⟩=>⟨k1,λw' _=>k2 w' trivial⟩) id
  ·have:=e hp;subst this;exact h1
def bBa (G:Good P g Y TI FZ){al:List Oper}{a0:Option Nat}{kd:Option (Nat×Nat)}{Q:Exit->Act->World->Prop}{i:Nat}{o:Oper}{n:Nat}{c:Array Bool}{wS:World}(ho:al[i]? =some o){pre st:Bool}(y:a0Y a0 i c=true)(hp:iL a0 c=pre)
  {K:St U->Option α} {z:α} (h:grd Y TI FZ al o s (λs'=>bif !(pre&& !Df a0 i)||(Nat.ble (yN FZ o.op) 1||unO kd s'.m.o) then K s' else none)=some z) (hl:Lk E kd st pre wS w) (r:bN Y.C E s a w β)
  (hk:∀v s' w' β' wS',Ag (Wr al o) s s'->K s'=some z->bN Y.C E s' (a.put o.dst v) w' β'->Lk E kd (st&&Ht kd) (pre&& !Df a0 i) wS' w'->eZ P .any al.toArray a0 (NoPanic Q) (Ext wS') n (c.setIfInBounds i true) (a.put o.dst v) w'):
  wpOp P al.toArray (NoPanic Q) i (λA w'=>(iL a0 (c.setIfInBounds i true)=true->Ext wS w')/\eZ P .any al.toArray a0 (NoPanic Q) (Ext wS) n (c.setIfInBounds i true) A w') a w:=by
 have l:=Rp y hp;have hg:al.toArray[i]? =some o:=by simpa using ho
 refine wpOp_step hg λF t=>aYv G r h λs' v w' β' q1 q2 q3 q4=>t _ _ ?_;cases hb:(!(pre&& !Df a0 i)||(Nat.ble (yN FZ o.op) 1||unO kd s'.m.o)) with
 |false=>rw[hb] at q2;cases q2
 |true=>
  rw[hb] at q2;simp only[ac] at q2;have j:(pre&& !Df a0 i)=true->Ext wS w':=λe=>by
   rw[e] at hb;simp only[ax,da,cn] at hb;simp only[aa] at e;rcases hb with hb|hb
   ·exact(hl.pre e.1).trans (q4 hb)
   ·cases d:kd with
    |none=>rw[d] at hb;cases hb
    |some p=>obtain⟨n0,k0⟩:=p;rw[d] at hb;exact q3.unt (hl.fr n0 k0 d) hb
  refine⟨λhn=>j (l.symm.trans hn),?_⟩;cases d:kd with
  |some p=>exact hk v s' w' β' wS q1 q2 q3 ⟨hl.fr,λh=>(by rw[d] at h;simp[Ht] at h),λh=>(by rw[d] at h;cases h),j⟩
  |none=>
   have H:=hl.no d;have q:=hk v s' w' β' w' q1 q2 q3 ⟨λn k h=>(by rw[d] at h;cases h),λ_=>rfl,λ_=>rfl,λ_=>Ext.refl w'⟩;cases e:(pre&& !Df a0 i) with
   |true=>exact vZ (λx B=>(j e).trans B) _ _ _ _ q
   |false=>exact rG _ _ _ _ (l.trans e) q
variable {al:List Oper} {a0:Option Nat} {kd:Option (Nat×Nat)} {Q:Exit->Act->World->Prop} {D:Nat->Prop}
def bBb (G:Good P g Y TI FZ)(hs:Region.noSelect al.toArray=true):∀(l:List (Nat×Bool)) (pre st:Bool) (s:St U) (K:St U->Option α) (z:α),(∀i∈l,∀o,al[i.1]? =some o->∀n,Wr al o n->D n)->aBl Y TI FZ al a0 kd l none pre st s K=some z->
  (∀s' a w β,Ag D s s'->K s'=some z->bN Y.C E s' a w β->Q .normal a w)->∀c,Dn .any al.toArray c->aGd al.toArray a0 l c=true->iL a0 c=pre->∀a w β wS,Lk E kd st pre wS w->bN Y.C E s a w β->eZ P .any al.toArray a0 (NoPanic Q) (Ext wS) l.length c a w
 |[],pre,st,s,K,z,_,h,q,c,_,hc,_,a,w,β,wS,_,r=>wB (P:=P) (a0:=a0) (S:=Ext wS) (Q:=NoPanic Q) (by simpa[aGd] using hc) (q s a w β (Ag.refl s) h r) 0
 |(i,fl)::l,pre,st,s,K,z,F,h,q,c,d,hc,hp,a,w,β,wS,hl,r=>by
  simp only[aBl,aY] at h;cases ho:al[i]? with
  |none=>rw[ho] at h;cases h
  |some o=>
   rw[ho] at h;simp only at h;have e:=F (i,fl) (by simp) o ho;have k:∀j∈l,∀o,al[j.1]? =some o->∀n,Wr al o n->D n:=λj hj=>F j (by simp[hj]);cases fl with
   |true=>
    simp only[aGd,aa] at hc;obtain⟨hr,t⟩:=vB hc.1;exact stepT G hs ho d hc.1 h hl.st (λhn=>hl.pre (hp.symm.trans hn)) r λv s' h1 h2 x=>
     bBb G hs l pre st s' K z k h2 (λs2 y A β2 B=>q s2 y A β2 ((h1.mono e).trans B)) _ (d.set hr) hc.2 ((yM t).trans hp) _ w β wS hl x
   |false=>
    simp only[aGd,aa,df] at hc;simp only[ae] at h;rw[show aJ6 Y TI al none s=true from rfl] at h;simp only[ac] at h;refine lM hc.1 (by simp) λI p=> ?_
    simp at p;subst p;exact bBa G ho hc.2.1 hp h hl r λv s' w' β' wS' h1 h2 x H=>
     bBb G hs l _ _ s' K z k h2 (λs2 y A β2 B=>q s2 y A β2 ((h1.mono e).trans B)) _ (d.set (by rw[hc.1];simp)) hc.2.2 (Rp hc.2.1 hp) _ w' β' wS' H x
def aOu {j:Nat}{oj:Oper}(ho:al[j]? =some oj)(h:aJ6 Y TI al (some j) s=true):oj.guard=none/\aTo s oj.dst=true/\Dm Y TI s oj.op=true/\bDu oj oj.dst=true:=by
 simp only[aJ6,aY,ho,aa] at h;refine⟨?_,h.2.1,h.2.2.2,h.2.2.1⟩;cases hg:oj.guard with
 |none=>rfl
 |some x=>rw[hg] at h;cases h.1
def bMi {oj:Oper}{d:Option Nat}(h:bLe oj d=true):∀n,oj.dst=some n->d≠some n:=λn hn e=>by
 subst e;simp only[bLe,hn,aa] at h;have:=h.1;rw[show Nat.beq n n=true from dr n] at this;cases this
def bMj {oj:Oper}{d:Option Nat}(h:bLe oj d=true):bDu oj d=true:=by simp only[bLe,aa] at h;exact h.2
def Lk.mk1 {b:Nat}{blk:Obj}{hb:E.w0.heap.size<=b}{st pre:Bool}{wS:World}(h:Lk E kd st pre wS w):Lk (E.ahd b blk hb) kd st pre wS w:=⟨h.fr,h.st,h.no,h.pre⟩
def Lk.un1 {b:Nat}{blk:Obj}{hb:E.w0.heap.size<=b}{st pre:Bool}{wS:World}(h:Lk (E.ahd b blk hb) kd st pre wS w):Lk E kd st pre wS w:=⟨h.fr,h.st,h.no,h.pre⟩
def bMk (G:Good P g Y TI FZ)(hs:Region.noSelect al.toArray=true)(hP:E.prm=[]){j:Nat}{oj:Oper}(hj:al[j]? =some oj)(B:oj.guard=none)(F:a0≠some j){b:Nat}{blk:Obj}{hb:E.w0.heap.size<=b}:∀(l:List (Nat×Bool)) (m:Nat) (pre st:Bool) (s:St U) (K:St U->Option α) (z:α),m+1=l.length->(∀i∈l,∀o,al[i.1]? =some o->∀n,Wr al o n->D n)->aBl Y TI FZ al a0 kd l (some j) pre st s K=some z->
  (∀s' a w β,Ag D s s'->K s'=some z->bN Y.C E s' a w β->Q .normal a w)->∀d,Dn .any al.toArray d->bDv al.toArray a0 oj j l d=true->iL a0 d=pre->∀a w β wS,Lk E kd st pre wS w->Flp P a oj blk->(∀n,oj.dst=some n->a.tmps.getD n undef=mkF oj.op b)->bN Y.C (E.ahd b blk hb) s a w β->eZ P .any al.toArray a0 (NoPanic Q) (Ext wS) m d a w
 |[],m,pre,st,s,K,z,hm,_,h,Z,d,_,hc,_,a,w,β,wS,_,_,_,r=>by cases hc
 |(i,fl)::l,m,pre,st,s,K,z,hm,hD,h,Z,d,y,hc,hp,a,w,β,wS,hl,hF,hv,r=>by
  have J:m=l.length:=by simpa using hm
  have H:∀j∈l,∀o,al[j.1]? =some o->∀n,Wr al o n->D n:=λj hj=>hD j (by simp[hj]);simp only[bDv] at hc;simp only[aBl,aY] at h;cases p:Nat.beq i j with
  |true=>
   have e:=ah p;subst e;rw[p] at hc;simp only[ac,aa] at hc;have hfl:fl=false:=by simpa using hc.1
   subst hfl;rw[hj] at h;simp only[ae] at h;have A:=hD (i,false) (by simp) oj hj;cases k:aJ6 Y TI al (some i) s with
   |false=>rw[k] at h;cases h
   |true=>
    rw[k] at h;simp only[ac] at h;obtain⟨_,_,hok,_⟩:=aOu hj k;have I:Df (some i) i=true:=dr i;have hna:Df a0 i=false:=by
     cases a0 with
     |none=>rfl
     |some c=>
      cases hh:Df (some c) i with
      |false=>rfl
      |true=>exact absurd (congrArg some (ah hh)) F
    rw[I,hna] at h;simp only[ac,dc,gi] at h;unfold grd aX7 at h;rw[B] at h;simp only[one] at h;obtain⟨x,s',β',k1,k2,k3,k4,k5,k6⟩:=bI0 G r hP hF hok h;cases L:(!pre||(Nat.ble (yN FZ oj.op) 1||unO kd (EV.put s' oj.dst x).m.o)) with
    |false=>rw[L] at k1;cases k1
    |true=>rw[L] at k1;simp only[ac] at k1;have hag:Ag D s (EV.put s' oj.dst x):=Ag.put ⟨λn _=>by rw[k4],by rw[k4],k5,k6⟩ (λn e=>A n (.inl e));rw[J];exact bBb G hs l pre _ _ K z H k1 (λs2 O S β2 T=>Z s2 O S β2 (hag.trans T)) d y hc.2 hp a w β' wS ⟨hl.fr,λh=>hl.st (by simp only[aa] at h;exact h.1),hl.no,hl.pre⟩ (k2.aBS (λ_=>k3) hv)
  |false=>
   rw[p] at hc;simp only[ae] at hc;have hnA:Df (some j) i=false:=by
    show Nat.beq j i=false;cases hh:Nat.beq j i with
    |false=>rfl
    |true=>have:=ah hh;subst this;rw[show Nat.beq j j=true from dr j] at p;cases p
   cases ho:al[i]? with
   |none=>rw[ho] at h;cases h
   |some o=>
    rw[ho] at h;simp only at h;have hg:al.toArray[i]? =some o:=by simpa using ho
    rw[hg] at hc;simp only[aa] at hc;obtain⟨q,hc⟩:=hc;have A:=hD (i,fl) (by simp) o ho;have hlen:∃m',m=m'+1/\m'+1=l.length:=by
     cases l with
     |nil=>cases fl<;>(simp only[ac,ae,bDv,di,aa] at hc;simp at hc)
     |cons x l=>exact⟨l.length,by simpa using J,by simp⟩
    obtain⟨m',rfl,V⟩:=hlen;have t:∀n,oj.dst=some n->∀v,(a.put o.dst v).tmps.getD n undef=mkF oj.op b:=λn hn v=>by rw[aBy (bMi q n hn)];exact hv n hn
    cases fl with
    |true=>
     simp only[ac,aa] at hc;obtain⟨hr,hne⟩:=vB hc.1;exact stepT G hs ho y hc.1 h hl.st (λhn=>hl.pre (hp.symm.trans hn)) r λv s' h1 h2 h3=>
      bMk G hs hP hj B F l m' pre st s' K z V H h2 (λs2 O S β2 T=>Z s2 O S β2 ((h1.mono A).trans T)) _ (y.set hr) hc.2 ((yM hne).trans hp) _ w β wS hl (hF.keep (bMj q)) (λn hn=>t n hn v) h3
    |false=>
     simp only[ae,aa,df] at hc;simp only[ae,hnA] at h;cases k:aJ6 Y TI al (some j) s with
     |false=>rw[k] at h;cases h
     |true=>
      rw[k] at h;simp only[ac] at h;refine lM hc.1 (by simp) λi' W=> ?_;simp at W;subst W;exact bBa G ho hc.2.1 hp h hl.mk1 r λv s' w' β' wS' h1 h2 h3 h4=>
       bMk G hs hP hj B F l m' _ _ s' K z V H h2 (λs2 O S β2 T=>Z s2 O S β2 ((h1.mono A).trans T)) _ (y.set (by rw[hc.1];simp)) hc.2.2 (Rp hc.2.1 hp) _ w' β' wS' h4.un1 (hF.keep (bMj q)) (λn hn=>t n hn v) h3
def bMl (G:Good P g Y TI FZ)(hs:Region.noSelect al.toArray=true)(hP:E.prm=[]){j:Nat}{oj:Oper}(hj:al[j]? =some oj)(B:a0≠some j):∀(l:List (Nat×Bool)) (pre st:Bool) (s:St U) (K:St U->Option α) (z:α),(∀i∈l,∀o,al[i.1]? =some o->∀n,Wr al o n->D n)->aBl Y TI FZ al a0 kd l (some j) pre st s K=some z->
  (∀s' a w β,Ag D s s'->K s'=some z->bN Y.C E s' a w β->Q .normal a w)->∀c,Dn .any al.toArray c->bLh al.toArray a0 oj j l c=true->iL a0 c=pre->∀a w β wS,Lk E kd st pre wS w->bN Y.C E s a w β->eZ P .any al.toArray a0 (NoPanic Q) (Ext wS) l.length c a w
 |[],pre,st,s,K,z,_,h,Z,c,_,hc,_,a,w,β,wS,_,r=>by cases hc
 |(i,fl)::l,pre,st,s,K,z,hD,h,Z,c,F,hc,hp,a,w,β,wS,hl,r=>by
  have S:∀j∈l,∀o,al[j.1]? =some o->∀n,Wr al o n->D n:=λj hj=>hD j (by simp[hj]);have H:=h;simp only[bLh] at hc;simp only[aBl,aY] at h;cases ho:al[i]? with
  |none=>rw[ho] at h;cases h
  |some o=>
   rw[ho] at h;simp only at h;have T:=hD (i,fl) (by simp) o ho;cases I:Nat.beq i j with
   |true=>
    have e:=ah I;subst e;rw[I] at hc;simp only[ac,aa,df] at hc;have hfl:fl=false:=by simpa using hc.1
    subst hfl;simp only[ae] at h;cases A:aJ6 Y TI al (some i) s with
    |false=>rw[A] at h;cases h
    |true=>
     rw[A] at h;simp only[ac] at h;have q:Df (some i) i=true:=dr i;rw[q] at h;simp only[ac] at h;have ha:a0Y a0 i c=true:=by unfold a0Y;rw[show(a0 !=some i)=true from by simpa using B];rfl
     refine lM hc.2.1 (by simp) λi' d=> ?_;simp at d;subst d;exact bBa G ho ha hp h hl r λv s' w' β' wS' h1 h2 h3 h4=>
      bBb G hs l _ _ s' K z S h2 (λs2 a2 w2 β2 g1=>Z s2 a2 w2 β2 ((h1.mono T).trans g1)) _ (F.set (by rw[hc.2.1];simp)) hc.2.2 (Rp ha hp) _ w' β' wS' h4 h3
   |false=>
    rw[I] at hc;simp only[ae] at hc;have hnA:Df (some j) i=false:=by
     show Nat.beq j i=false;cases hh:Nat.beq j i with
     |false=>rfl
     |true=>have:=ah hh;subst this;rw[show Nat.beq j j=true from dr j] at I;cases I
    cases fl with
    |true=>
     simp only[ac,aa] at hc;obtain⟨hr,hne⟩:=vB hc.1;exact stepT G hs ho F hc.1 h hl.st (λhn=>hl.pre (hp.symm.trans hn)) r λv s' h1 h2 h3=>
      bMl G hs hP hj B l pre st s' K z S h2 (λs2 a2 w2 β2 g1=>Z s2 a2 w2 β2 ((h1.mono T).trans g1)) _ (F.set hr) hc.2 ((yM hne).trans hp) _ w β wS hl h3
    |false=>
     simp only[ae,aa] at hc;simp only[ae,hnA] at h;cases A:aJ6 Y TI al (some j) s with
     |false=>rw[A] at h;cases h
     |true=>
      rw[A] at h;simp only[ac] at h;obtain⟨hgj,y,hok,q⟩:=aOu hj A;have hgi:al.toArray[j]? =some oj:=by simpa using hj
      have inT:i∈Region.ready .any al.toArray c->wpOp P al.toArray (NoPanic Q) i (λa' w'=>(iL a0 (c.setIfInBounds i true)=true->Ext wS w')/\eZ P .any al.toArray a0 (NoPanic Q) (Ext wS) l.length (c.setIfInBounds i true) a' w') a w:=λhir=>
       bBa G ho hc.2.1 hp h hl r λv s' w' β' wS' h1 h2 h3 h4=>
        bMl G hs hP hj B l _ _ s' K z S h2 (λs2 a2 w2 β2 g1=>Z s2 a2 w2 β2 ((h1.mono T).trans g1)) _ (F.set hir) hc.2.2 (Rp hc.2.1 hp) _ w' β' wS' h4 h3
      have early:j∈Region.ready .any al.toArray c->bDv al.toArray a0 oj j ((i,false)::l) (c.setIfInBounds j true)=true->wpOp P al.toArray (NoPanic Q) j (λa' w'=>(iL a0 (c.setIfInBounds j true)=true->Ext wS w')/\eZ P .any al.toArray a0 (NoPanic Q) (Ext wS) l.length (c.setIfInBounds j true) a' w') a w:=λhjr hc1=>by
       obtain⟨blk,hF⟩:=aV2 G r hok;have V:iL a0 (c.setIfInBounds j true)=pre:=(yM B).trans hp;have hbw:E.w0.heap.size<=w.heap.size:=r.hp.ext.size;refine wpOp_step hgi λK' hK'=> ?_;rw[cW (by simp[Region.wanted,hgj])];refine wpo (.inl (hF w)) (hK' _ _ ⟨λhn=>(hl.pre (V.symm.trans hn)).trans (Ext.alloc _ _),?_⟩);have r1:bN Y.C (E.ahd w.heap.size blk hbw) s (a.put oj.dst (mkF oj.op w.heap.size)) (w.alloc blk) β:=(r.ahead hbw).aCC y;have hF':Flp P (a.put oj.dst (mkF oj.op w.heap.size)) oj blk:=hF.keep q;have hv':∀n,oj.dst=some n->(a.put oj.dst (mkF oj.op w.heap.size)).tmps.getD n undef=mkF oj.op w.heap.size:=λn hn=>by
        rw[hn];simp only[aTo,hn,aY] at y;have hlt:n<a.tmps.size:=by
         rw[r.tsz];cases hx:s.t[n]? with
         |none=>rw[hx] at y;cases y
         |some x=>exact lt_of_some hx
        simp only[Act.put];rw[zL _ _ _ _ _ hlt,cW rfl]
       have fin:=λW wS' (J:aBl Y TI FZ al a0 kd ((i,false)::l) (some j) pre W s K=some z) (hl':Lk E kd W pre wS' (w.alloc blk))=>bMk (D:=D) (Q:=Q) G hs hP hj hgj B ((i,false)::l) l.length pre W s K z (by simp) hD J Z _ (F.set hjr) hc1 V _ (w.alloc blk) β wS' hl' hF' hv' r1;cases L:kd with
       |some p=>refine fin false wS ?_ ⟨hl.fr,λh=>(by cases h),λh=>(by rw[L] at h;cases h),λh=>(hl.pre h).trans (Ext.alloc _ _)⟩;have hf:=H;rw[L] at hf ⊢;simp only[aBl,aY,ho,ae,Ht,di] at hf ⊢;exact hf
       |none=>
        have hw:=hl.no L;have hk':=fin st (w.alloc blk) H ⟨λn k h=>(by rw[L] at h;cases h),λ_=>rfl,λ_=>rfl,λ_=>Ext.refl _⟩;cases hpp:pre with
        |true=>exact vZ (λx hx=>((hl.pre hpp).trans (Ext.alloc _ _)).trans hx) _ _ _ _ hk'
        |false=>exact rG _ _ _ _ (V.trans hpp) hk'
      have h1:=hc.1;rw[cn,df] at h1;rcases h1 with h1|h1
      ·refine lM h1 (by simp) λi' d=> ?_;simp at d;subst d;exact inT (by rw[h1];simp)
      ·rw[aa,cn,df,df] at h1;have O:∀x,x∈Region.ready .any al.toArray c↔x=i\/x=j:=λx=>by
        rcases h1.1 with e|e<;>rw[e]<;>simp[or_comm]
       exact lM rfl (λe=>by have:=(O i).2 (.inl rfl);rw[e] at this;simp at this) λi' d=>by
        rcases(O i').1 d with rfl|rfl
        ·exact inT d
        ·exact early d h1.2
end
end Go.EV
namespace Go.EV
open Go.RowKit Go.VK
variable {U:Uni} {Y:Lay U} {TI:List (Nat×TInfo)} {FZ:List (Nat×Sum U)} {P:Program} {g:GI} {E:Env U g}
section
variable {s s':St U} {a:Act} {w w':World} {β β':List Tr} {α:Type}
def aTt (bs:List Nat)(Yb:Nat->Prop)(n:Nat)(s:St U)(β:List Tr):Prop:=∀(b:Nat) (e:EO U) (t:Tr) (k:Nat),s.m.o[b]? =some e->e.ob.aAY=true->β[b]? =some t->t.b=some k->(b∈bs->Yb k)/\(b∉bs->¬Yb k/\k<n)
def bBc {bs:List Nat}{Yb:Nat->Prop}{wS:World}(r:bN Y.C E s a w β)(n:aTt bs Yb wS.heap.size s β)(hb:Bel Yb wS w){t:Nat}{i:TInfo}(d:tiB P t i=true){b o:Nat}{y:Sv U}{v:Value}(hm:(Lf.box b o:Lf U).mean Y.C w (E.X β) β s.m v)(h:load Y s i (.box b o)=some y)(hn:b∉bs):
  ∃p v',v= .pointer (some p)/\(∀w',Bel Yb wS w'->(loadVar t p).run P w'= .ok v' w')/\y.mean Y.C w (E.X β) β s.m v':=by
 simp only[load,aY] at h;obtain⟨_,e,tr,h1,h2,q⟩:=hm;simp only[h1] at h;have k:=r.hp.ok b tr e h2 h1;have hi:=n b e tr;obtain⟨ob,rv,cv⟩:=e;cases ob with
 |box T cs x=>
  obtain⟨c,l,rfl⟩:=q rfl;obtain⟨_,b',vs,k1,k2,k3,k4⟩:=k;rw[l] at k1;injection k1 with k1;subst k1;obtain⟨q1,q2⟩:=(hi c h1 rfl h2 l).2 hn;obtain⟨v',q3,q4⟩:=aGf (S:=Bel Yb wS) (P:=P) (p:=⟨c,o,none⟩) d h (k4.drop o) (λw' he j u hj=>by
   rw[gD,cell_of_row w' c (o+j) _ T (0,0) ((he.block c q2 q1).trans ((hb.block c q2 q1).symm.trans k3))];simp_all)
  grind
 |_=>cases h
def aTt.go {bs:List Nat}{Yb:Nat->Prop}{n:Nat}(h:aTt bs Yb n s β){m:Mm U}{N M K:Nat}(p:N=s.m.o.length)(r:Hp Y.C E s.m β w)(hl:m.o.length=s.m.o.length)(c:Evo w w' (E.X β) (E.X β') β β' s.m m N M K){t:List (Sv U)}{fr}:aTt bs Yb n ⟨t,m,fr⟩ β':=by
 intro b e t k h1 h2 j q;have hb:b<s.m.o.length:=by grind
 have d:s.m.o[b]? =some s.m.o[b]:=ab hb;have i:β[b]? =some (β[b]'(by rw[r.len];exact hb)):=ab _;obtain⟨e',t',k1,k2,_,_,k5⟩:=c.ho b _ _ (by omega) d i;replace h1:m.o[b]? =some e:=h1;rw[h1] at k1;injection k1 with k1;subst k1;rw[j] at k2;injection k2 with k2;subst k2;obtain⟨l,v⟩:=k5 h2;exact h b _ _ k d l i (by simp_all)
def bUw {i:Nat}{l:List Nat}(h:(!Pf i l)=true):i∉l:=(by grind[qI])
variable {al:List Oper} {Q:Exit->Act->World->Prop} {D:Nat->Prop}
def Env.pinned (E:Env U g)(l:List (Sv U×Value)):Env U g:=⟨E.X0,E.Y0,E.w0,E.prm,E.fr,E.h0,E.hY,E.hXY,E.hg,l++E.pin⟩
def bN.pins {C:Cod U}(r:bN C E s a w β){ps:List (Sv U×Value)}(h:∀x∈ps,x.1.mean C w (E.X β) β s.m x.2):bN C (E.pinned ps) s a w β:=
 ⟨⟨r.hp.ext,r.hp.len,r.hp.vers,r.hp.cnt,r.hp.new,r.hp.dist,r.hp.nd,r.hp.ok,λx c=>(bp.1 c).elim (h x) (r.hp.pin x),r.hp.prm,r.hp.fr⟩,r.defers,r.tsz,r.tm⟩
def bN.aDF {C:Cod U}{ps:List (Sv U×Value)}(r:bN C (E.pinned ps) s a w β):bN C E s a w β:=
 ⟨⟨r.hp.ext,r.hp.len,r.hp.vers,r.hp.cnt,r.hp.new,r.hp.dist,r.hp.nd,r.hp.ok,λx c=>r.hp.pin x (bp.2 (.inr c)),r.hp.prm,r.hp.fr⟩,r.defers,r.tsz,r.tm⟩
def aOv {C:Cod U}{m:Mm U}(H:Hp C E m β w):∀(bs:List Nat),bxs bs m.o=true->∃ps:List (Sv U×Value),(∀x∈ps,x.1.mean C w (E.X β) β m x.2)/\∀b∈bs,∃t k,β[b]? =some t/\t.b=some k/\(Sv.l (.box b 0),Value.pointer (some ⟨k,0,none⟩))∈ps
 |[],_=>⟨[],by simp,by simp⟩
 |b::bs,h=>by
  have c:(match nth m.o b with|some ⟨.box ..,_,_⟩=>bxs bs m.o|_=>false)=true:=h;split at c
  ·rename_i T cs p rv cv ho;rw[aY] at ho;obtain⟨t,ht⟩:=H.tr ho;obtain⟨_,k,vs,e,q,r,v⟩:=H.ok b t _ ht ho;obtain⟨ps,i,j⟩:=aOv H bs c;refine⟨(Sv.l (.box b 0),Value.pointer (some ⟨k,0,none⟩))::ps,λx d=> ?_,λb' hb=> ?_⟩
   ·rcases bc.1 d with rfl|d
    ·exact⟨rfl,_,t,ho,ht,λ_=>⟨k,e,rfl⟩⟩
    ·exact i x d
   ·rcases bc.1 hb with rfl|hb
    ·exact⟨t,k,ht,e,by simp⟩
    ·obtain⟨t',n,q1,q2,q3⟩:=j b' hb;exact⟨t',n,q1,q2,by simp[q3]⟩
  ·cases c
def bBd {Yb:Nat->Prop}(hY:∀k,Yb k->E.X β k){t:Nat}{i:TInfo}(r:tiB P t i=true){τ o:Nat}{d:U.El τ}{y:Sv U}{v:Value}(hm:(Lf.ptr τ d o:Lf U).mean Y.C w (E.X β) β s.m v)(h:load Y s i (.ptr τ d o)=some y):
  ∃p v',v= .pointer (some p)/\(∀w',Bel Yb w w'->(loadVar t p).run P w'= .ok v' w')/\y.mean Y.C w (E.X β) β s.m v':=by
 simp only[load] at h;have q:Rd w (E.X β) [] v (.elem ((U.enc τ d).drop o)):=hm;cases v with
 |pointer p=>
  cases q with
  | @elem _ z _ val hX hb hcell hrd=>
   have hlen:((List.range ((Y.C.cel τ d).drop o).length).map val).length=((Y.C.cel τ d).drop o).length:=by simp
   obtain⟨v',q1,q2⟩:=aGf (S:=Bel Yb w) (P:=P) (p:=z) (vs:=(List.range ((Y.C.cel τ d).drop o).length).map val) r h (m:=s.m) (C:=Y.C) (w:=w) (X:=E.X β) (β:=β) ⟨hlen,λj u c A x=>by
     have e:=lt_of_some x;simp only[bn,du e,dn,ai] at A;subst A;have hd:((U.enc τ d).drop o)[j]? =some c.toV:=by rw[<-Y.C.hcel,<-fw,bn,x];rfl
     have hr:=hrd j _ hd;have hdat:=Y.C.hdat τ d c (dg (aE x));cases c with
     |int k n=>exact hr.aAR
     |bool b=>exact hr.aAX
     |str b=>exact hr.aAV
     |sl τ' l=>exact hr
     |_=>cases hdat⟩ (λw' he j u hj=>by
     have e:j<((Y.C.cel τ d).drop o).length:=by grind
     simp only[bn,du e,dn,ai] at hj;subst hj;have hc:=hcell j (((U.enc τ d).drop o)[j]'(by rw[<-Y.C.hcel,<-fw,bj];exact e)) (ab _);exact(World.cell?_of_block (a:=z.add j) (w:=w) (w':=w') (by rw[add_block];exact he.block _ hb λB=>hX (hY _ B))).trans hc)
   grind
 |_=>cases q
def Bl (P:Program){γ:Type}(x:Sem γ):Prop:=∀(w c:World) (v:γ),x.run P w= .ok v c->c=w/\∀w',x.run P w'= .ok v w'
def Bl.pure {γ:Type}(c:γ):Bl P (Pure.pure c:Sem γ):=λw d v h=>by
 simp only[Sem.run_pure] at h ⊢;injection h with h1 h2;subst h1 h2;exact⟨rfl,λ_=>rfl⟩
def Bl.bind {γ δ:Type}{x:Sem γ}{f:γ->Sem δ}(d:Bl P x)(i:∀c,Bl P (f c)):Bl P (x>>=f):=λw k v h=>by
 rw[Sem.run_bind] at h;cases hr:x.run P w with
 |ok c j=>rw[hr] at h;obtain⟨e,h1⟩:=d _ _ _ hr;subst e;obtain⟨l,h2⟩:=i c _ _ _ h;simp[*]
 |halt y j=>simp_all
def Bl.no {γ:Type}{x:Sem γ}(d:∀(w c:World) (v:γ),x.run P w≠ .ok v c):Bl P x:=λw c v h=>absurd h (d w c v)
def Bl.ite {γ:Type}{c:Prop}[Decidable c]{x y:Sem γ}(d:Bl P x)(e:Bl P y):Bl P (if c then x else y):=by split<;>assumption
def Bl.und (t:TypeId):Bl P (underlying t):=λw c v h=>by
 unfold underlying at h ⊢;simp only[Sem.run_bind] at h ⊢;cases d:P.underlying t<;>simp_all
def Bl.size (t:TypeId):Bl P (sizeOf t):=λw c v h=>by
 unfold sizeOf typeInfo at h ⊢;simp only[Sem.run_bind] at h ⊢;cases d:P.info? t<;>simp_all
def Bl.sure (v:Value):Bl P (Instr.sureAddr v):=by
 unfold Instr.sureAddr;split
 ·exact Bl.pure _
 ·exact Bl.no (by simp)
def Bl.asInt (v:Value):Bl P (asIntOf v):=by
 unfold asIntOf;split
 ·exact Bl.pure _
 ·exact Bl.no (by simp)
 ·exact Bl.no (by simp)
def then_ok {γ δ:Type}{x:Result γ}{f:γ->World->Result δ}{c:δ}{e:World}(h:x.andThen f= .ok c e):∃y d,f y d= .ok c e:=by
 cases x with
 |ok y d=>exact⟨y,d,h⟩
 |halt y d=>cases h
def Bl.stuck {γ:Type}(s:String):Bl P (stuck s:Sem γ):=Bl.no (by simp)
def Bl.aDR {γ:Type}(u:Unsupported):Bl P (unsupported u:Sem γ):=Bl.no (by simp)
def Bl.bounds {γ:Type}(k:IntKind)(x y:Int)(c:BoundsCode):Bl P (boundsPanic k x y c:Sem γ):=Bl.no λw d v h=>by
 unfold boundsPanic at h;dsimp only at h;split at h<;>rw[Sem.run_bind] at h<;>obtain⟨_,_,h2⟩:=then_ok h<;>simp[runtimePanic] at h2
def Bl.index (t:TypeId)(A:Option Addr)(n c:Nat)(ix:Value):Bl P (Instr.indexAt t (.slice A n c) ix):=by
 unfold Instr.indexAt;dsimp only
 repeat' first
  |with_reducible exact Bl.pure _
  |with_reducible exact Bl.bounds ..
  |with_reducible exact Bl.und _
  |with_reducible exact Bl.size _
  |with_reducible exact Bl.sure _
  |with_reducible exact Bl.asInt _
  |with_reducible exact Bl.stuck _
  |with_reducible exact Bl.aDR _
  |with_reducible refine Bl.ite ?_ ?_
  |with_reducible refine Bl.bind ?_ λ_=> ?_
  |split
def Bl.pick (o:Oper){c x y:Operand}(ho:o.op= .pick c x y)(ρ:Operand->Value):Bl P (execOp ρ o):=by
 simp only[execOp,ho];refine Bl.bind ?_ λ_=>Bl.pure _
 unfold asBool;split
 ·exact Bl.pure _
 ·exact Bl.no (by simp)
theorem bGr {bs : List Nat} {o : Oper} (r : bN Y.C E s a w β) {b : BinOp} {t : TypeId} {x y : Operand} {u : TypeId} (d : o.op = .binOp b t x y u) (he : erl bs s o.op = true) {v : Value} (hv : (execOp a.eval o).run P w = .ok (.value v) w) (w' : World) : (execOp a.eval o).run P w' = .ok (.value v) w' := by
  rw [d] at he;simp only [erl] at he;have e : ∀ {k m c n}, vT s x = .l (.int k m) -> vT s y = .l (.int c n) -> a.eval x = .int k m /\ a.eval y = .int c n := λ{k m c n} h i =>
    ⟨(mK r (x := x) (show fD s x = .l (.int k m) by unfold fD; rw [h]; rfl)).1, (mK r (x := y) (show fD s y = .l (.int c n) by unfold fD; rw [i]; rfl)).1⟩
  split at he <;> first
    | (rename_i k m c n h i
       obtain ⟨j, p⟩ := e h i;by_cases hk : k = c
       · simp_all[execOp,eqGuard_at_int,binOp_add,binOp_sub,binOp_lss,binOp_leq,binOp_gtr,binOp_geq,binOp_eql,binOp_neq,Op.intArith]
       simp_all[execOp,eqGuard_at_int,binOp])
    | cases he
def bI4 (G:Good P g Y TI FZ){bs:List Nat}{Yb:Nat->Prop}{al:List Oper}{o:Oper}(r:bN Y.C E s a w β)(hI:aTt bs Yb w.heap.size s β)(hY:∀k,Yb k->E.X β k)(he:erl bs s o.op=true){v:Value}(hv:(execOp a.eval o).run P w= .ok (.value v) w){K:St U->Option α}{z:α}(h:one Y TI FZ o s K=some z):∀w',Bel Yb w w'->(execOp a.eval o).run P w'= .ok (.value v) w':=by
 have vof:∀{x:Sem Value} {O:World} {u:Value},x.run P O= .ok u O->(do pure (Next.value (<-x)):Sem Next).run P O= .ok (.value u) O:=λh=>by simp[h]
 cases j:o.op with
 |move x=>exact λw' _=>Ic (by rw[j];rfl) hv w'
 |assign x=>exact λw' _=>Ic (by rw[j];rfl) hv w'
 |extract x i=>exact λw' _=>Ic (by rw[j];rfl) hv w'
 |pick c x y=>exact λw' _=>(Bl.pick o j _ _ _ _ hv).2 w'
 |load t x=>
  rw[j] at he;simp only[erl] at he;unfold one at h;rw[j] at h;replace h:(match(match kC TI t,fD s x with
   |some i, .l p=>load Y s i p
   |_,_=>none) with
   |some y=>K (put s o.dst y)
   |none=>none)=some z:=h
  have fin:∀{p:Addr} {v':Value},a.eval x= .pointer (some p)->(∀w',Bel Yb w w'->(loadVar t p).run P w'= .ok v' w')->∀w',Bel Yb w w'->(execOp a.eval o).run P w'= .ok (.value v) w':=λ{p v'} q1 q2 w' hb=>by
   have e:∀w',Bel Yb w w'->(execOp a.eval o).run P w'= .ok (.value v') w':=λw' hb=>by simp[execOp,j,q1,Instr.loadAt,Instr.sureAddr,q2 w' hb]
   have:=(e w (Bel.refl w)).symm.trans hv;injection this with this _;injection this with this;rw[<-this];exact e w' hb
  split at he
  ·rename_i b off B;rw[B] at h;cases F:kC TI t with
   |none=>rw[F] at h;cases h
   |some ti=>
    rw[F] at h;simp only at h;cases H:load Y s ti (.box b off) with
    |none=>rw[H] at h;cases h
    |some y=>obtain⟨p,v',q1,q2,_⟩:=bBc r hI (Bel.refl w) (cB G.ti F) (mK r B) H (bUw he);exact fin q1 q2
  ·rename_i τ zz off B;rw[B] at h;cases F:kC TI t with
   |none=>rw[F] at h;cases h
   |some ti=>
    rw[F] at h;simp only at h;cases H:load Y s ti (.ptr τ zz off) with
    |none=>rw[H] at h;cases h
    |some y=>obtain⟨p,v',q1,q2,_⟩:=bBd hY (cB G.ti F) (mK r B) H;exact fin q1 q2
  ·cases he
 |fieldAddr t y f=>
  unfold one at h;rw[j] at h;replace h:(match(match kC TI t,fD s y with
   |some ⟨.st fs,_,_⟩, .l p=>match fld fs f with
    |some (off,_,_)=>match qL s.m off p with
     |some z=>some (.l z)
     |none=>none
    |none=>none
   |_,_=>none) with
   |some y=>K (put s o.dst y)
   |none=>none)=some z:=h
  cases hp:(match kC TI t,fD s y with
   |some ⟨.st fs,_,_⟩, .l p=>match fld fs f with
    |some (off,_,_)=>match qL s.m off p with
     |some z=>some (Sv.l z)
     |none=>none
    |none=>none
   |_,_=>none) with
  |none=>rw[hp] at h;cases h
  |some x0=>
   split at hp
   ·rename_i fs i z p h1 h2;split at hp
    ·rename_i off ft n S;split at hp
     ·rename_i q h4;have T:=(aBp (cB G.ti h1) rfl).2.1;simp only[fld,aY] at S;have Z:=(aOd T S).1;rw[cy] at Z;obtain⟨v',q1,q2⟩:=aBr r Z (mK r h2) h4;have e:∀w':World,(execOp a.eval o).run P w'= .ok (.value v') w':=λw'=>by simp[execOp,j,q1]
      have:=(e w).symm.trans hv;injection this with this _;injection this with this;intro w' _;rw[<-this];exact e w'
     ·cases hp
    ·cases hp
   ·cases hp
 |indexAddr t x y=>
  rw[j] at he;simp only[erl] at he;split at he
  ·rename_i τ l k n B hy;have hm:Rd w (E.X β) [] (a.eval x) (.slice (U.K τ) (l.map (U.enc τ))):=mK r B;cases I:a.eval x with
   |slice A n c=>
    have e:∀w':World,(execOp a.eval o).run P w'=(do pure (Next.value (<-Instr.indexAt t (.slice A n c) (a.eval y))):Sem Next).run P w':=λw'=>by simp only[execOp,j,I]
    rw[e] at hv;intro w' _;rw[e];exact(Bl.bind (Bl.index _ _ _ _ _) (λ_=>Bl.pure _) _ _ _ hv).2 w'
   |_=>rw[I] at hm;cases hm
  ·cases he
 |binOp b t x y u=>exact λw' _=>bGr r j he hv w'
 |call c=>
  rw[j] at he;obtain⟨cal,xa,ats⟩:=c;cases cal with
  |builtin bb=>
   cases bb with
   |len=>
    replace he:(match xa.toList with
     |[x]=>match fD s x with
      | .l (.sl ..)=>true
      | .l (.own i r)=>match nth s.m.o i with
       |some ⟨.tree ..,rv,_⟩=>Nat.beq rv r
       |_=>false
      |_=>false
     |_=>false)=true:=he
    split at he
    ·rename_i x L;have V:∃A n c,a.eval x= .slice A n c:=by
      split at he
      ·rename_i τ l B;have hm:Rd w (E.X β) [] (a.eval x) (.slice (U.K τ) (l.map (U.enc τ))):=mK r B;cases I:a.eval x with
       |slice A n c=>exact⟨A,n,c,rfl⟩
       |_=>rw[I] at hm;cases hm
      ·rename_i i q B;split at he
       ·rename_i τ d l rv cv hn;obtain⟨_,e,t,h1,h2,S⟩:=mK r B;rw[aY,h1] at hn;have hn:=aj hn;subst hn;exact⟨_,_,_,S (ah he)⟩
       ·cases he
      ·cases he
     obtain⟨A,n,c,hs⟩:=V;unfold one at h;rw[j] at h;replace h:(match(match xa.toList,ats.toList with
      |[x],[t]=>match kC TI t,fD s x with
       |some ⟨.sl ..,_,_⟩, .l y=>match y with
        | .str _=>none
        |y=>match lenOf s.m y with
         |some z=>some (Sv.l z)
         |none=>none
       |some ⟨.str,_,_⟩, .l (.str z)=>some (.l (.int .i64 (z.size:Int)))
       |_,_=>none
      |_,_=>none) with
      |some y=>K (put s o.dst y)
      |none=>none)=some z:=h
     rw[L] at h;cases J:ats.toList with
     |nil=>rw[J] at h;cases h
     |cons t ts=>
      cases ts with
      |cons t2 ts=>rw[J] at h;cases h
      |nil=>
       rw[J] at h;simp only at h;cases F:kC TI t with
       |none=>rw[F] at h;cases h
       |some ti=>
        obtain⟨u,k1,z1⟩:=ti;cases u with
        |sl e ek eb=>
         have hu:=(gB (zP (cB G.ti F) rfl).1).1;have W:o.op= .call {callee:= .builtin .len,args:= #[x],argTypes:= #[t]}:=by rw[j,<-Dp L,<-Dp J]
         have hr:∀w':World,(execOp a.eval o).run P w'= .ok (.value (.int .i64 n)) w':=λw'=>aX2 hu hs W;have:=(hr w).symm.trans hv;injection this with this _;injection this with this;intro w' _;rw[<-this];exact hr w'
        |_=>
         rw[F] at h;exfalso
         revert he h
         cases B:fD s x with
         |l y=>cases y<;>simp
         |_=>simp
    ·cases he
   |_=>cases he
  |_=>cases he
 |_=>rw[j] at he;cases he
def aTt.am {bs:List Nat}{Yb:Nat->Prop}{n:Nat}(h:aTt bs Yb n s β)(r:Hp Y.C E s.m β w)(d:Am s.m s'.m):aTt bs Yb n s' β:=λb e t k k1 k2 k3 k4=>by
 have c:b<s.m.o.length:=by rw[<-r.len];exact lt_of_some k3
 exact h b _ t k (ab c) ((d.o b _ _ (ab c) k1).2.1 k2) k3 k4
def bQj {bs:List Nat}{o:Op}(h:erl bs s o=true):yN FZ o=0:=by
 cases o with
 |call c=>
  obtain⟨cal,e,ats⟩:=c;cases cal with
  |builtin d=>cases d<;>first|rfl|cases h
  |_=>cases h
 |_=>first|rfl|cases h
def bMm {d:Option Nat}{x:Sv U}:(EV.put s d x).m=s.m:=by cases d<;>rfl
end
end Go.EV
