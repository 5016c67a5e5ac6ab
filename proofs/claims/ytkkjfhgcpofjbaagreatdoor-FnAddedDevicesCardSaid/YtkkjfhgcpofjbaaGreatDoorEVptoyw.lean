import Derived.Test.YtkkjfhgcpofjbaaGreatDoorEVatoo
import Derived.Test.YtkkjfhgcpofjbaaGreatDoorVKatos
/- Printed by wip/tools: models, walks, proofs. -/
set_option linter.all false
namespace Go.EV
open Go.RowKit Go.VK
variable {U:Uni} {Y:Lay U} {TI:List (Nat×TInfo)} {P:Program} {g:GI} {E:Env U g}
section
variable {s:St U} {a:Act} {w:World} {β:List Tr} {α:Type}
def bCp {α β:Type}{f:α->List β}{k:Nat}(hk:∀x,(f x).length=k)(h0:0<k):∀{l:List α} {q:Nat} {c:β},(l.map f).flatten[q]? =some c->∃x,l[q/k]? =some x/\(f x)[q%k]? =some c
 |[],q,c,h=>by simp at h
 |x::l,q,c,h=>by
  simp only[bw,cT] at h;by_cases hq:q<k
  ·rw[ao (by rw[hk];exact hq)] at h;exact⟨x,by rw[Nat.div_eq_of_lt hq];rfl,by rw[jg hq];exact h⟩
  ·rw[az (by rw[hk];omega),hk] at h;obtain⟨y,h1,h2⟩:=bCp hk h0 h;have e:q=q-k+k:=by omega
   refine⟨y,?_,?_⟩
   ·rw[e,Nat.add_div_right _ h0];simpa using h1
   ·rw[e,Nat.add_mod_right];exact h2
def OwL.aDG {C:Cod U}{X:Nat->Prop}{d:Bool}:∀{vs:List Value} {xs:List (Lf U)},vs.length=xs.length->(∀(i:Nat) (v:Value) (x:Lf U),vs[i]? =some v->xs[i]? =some x->Ow C w X d v x [])->OwL C w X d vs xs []
 |[],[],_,_=> .n
 |[],_::_,h,_=>by simp at h
 |_::_,[],h,_=>by simp at h
 |v::vs,x::xs,h,h1=>by
  have:=OwL.c (h1 0 v x rfl rfl) (OwL.aDG (by simpa using h) λi v x a b=>h1 (i+1) v x (by simpa using a) (by simpa using b));simpa using this
theorem aR1:∀{l:List Kd},aLr l=false↔∀τ,Kd.sl τ∉l
 |[]=>by simp[aLr]
 |x::l=>by
  have e:aLr (x::l)=cond x.aCW true (aLr l):=rfl;rw[e];cases x with
  |sl τ=>exact⟨λh=>(by cases h),λh=>absurd cN (h τ)⟩
  |_=>simp only[Kd.aCW,ae,bf,reduceCtorEq,false_or];exact aR1
theorem aR2 (hY:LayOk Y){τ:Nat}(h:aLs Y τ=true){z:U.El τ}{c:Lf U}(hc:c∈Y.C.cel τ z):∀τ' l,c≠ .sl τ' l:=λτ' l e=>by
 subst e;have d:aLr (Y.kd τ)=false:=by
  grind[aLr,aLs]
 have hk:=hY.kds τ z;have:some (Kd.sl τ')∈(Y.kd τ).map some:=by rw[<-hk];exact cr.2 ⟨_,hc,rfl⟩
 grind[aR1]
def aZ8 (Y:Lay U){τ:Nat}{z:U.El τ}:qA (U.enc τ z)=true:=by
 rw[<-Y.C.hcel];have:∀(cs:List (Lf U)),(∀c∈cs,c.aBA=true)->qA (cs.map Lf.toV)=true:=by intro cs;induction cs<;>grind[qA,Lf.aCM]
 exact this _ (Y.C.hdat τ z)
def aR3 (hY:LayOk Y){e:Nat}(hk:0<U.K e){X Z:Nat->Prop}{d:Bool}{v:Value}{l:List (U.El e)}(h:Rd w Z [] v (.slice (U.K e) (l.map (U.enc e))))(hd:aLs Y e=true\/(d=false/\∀b,X b->Z b)):
  ∃(A:Option Addr) (c:Nat) (news:List Value),v= .slice A l.length c/\news.length=l.length*U.K e/\(l.length=0\/∃p,A=some p/\∀j u,news[j]? =some u->w.cell? (p.add j)=some u)/\OwL Y.C w X d news (l.map (Y.C.cel e)).flatten []:=by
 obtain⟨A,c,xs,h1,h2,r,G,H,t⟩:=aRr h (λe' he=>by
  obtain⟨z,_,rfl⟩:=cr.1 he;exact aZ8 Y)
 rw[bl] at h1 h2;refine⟨A,c,xs,h1,h2,r.imp (λhn=>by simpa using congrArg List.length hn) id,OwL.aDG (by rw[h2,Ji (Y.C.hlen e)]) λq u x y hx=> ?_⟩;obtain⟨z,q1,q2⟩:=bCp (Y.C.hlen e) hk hx;have B:(l.map (U.enc e))[q/U.K e]? =some (U.enc e z):=by simp[*]
 have hc:(U.enc e z)[q%U.K e]? =some x.toV:=by rw[<-Y.C.hcel,bn,q2];rfl
 obtain⟨u',k1,k2⟩:=t _ _ _ _ B hc;have hq:q/U.K e*U.K e+q%U.K e=q:=by simp[gO,fX]
 rw[hq,y] at k1;injection k1 with k1;subst k1;have i:=aE q2;have hdat:=Y.C.hdat e z x i;cases x with
 |int k n=>obtain⟨rfl,o,F⟩:=k2.aAR;exact .int o F
 |bool b=>obtain rfl:=k2.aAX;exact .bool
 |str b=>obtain⟨rfl,o⟩:=k2.aAV;exact .str o
 |sl τ' l'=>
  rcases hd with hd|⟨hd,hX⟩
  ·grind[absurd,aR2]
  ·exact .fz hd (Rd.conv k2 (ak _) (λb _ hb=>hX b hb) (λ_ _ _ h=>h) (λ_ _ h=>h))
 |_=>cases hdat
def bEw {i j r:Nat}(h:aH9 i (.own j r:Lf U)=true):j≠i:=(by grind[aH9,Nat.beq,Nat.beq_refl])
def bIh (r:bL Y.C E s a w β){e i:Nat}(c:0<U.K e){x:Operand}{p:Lf U}{d:Bool}{l:List (U.El e)}{s1:St U}(hx:fU s x= .l p)(h:apD s e p=some (i,d,l,s1)):
  ∃β1 t rv cv,bL Y.C E s1 a w β1/\s1.t=s.t/\s1.m.ns=s.m.ns/\s1.fr=s.fr/\β1[i]? =some t/\s1.m.o[i]? =some ⟨.tree e d l,rv,cv⟩/\a.eval x=t.val/\rv<=s1.m.k:=by
 have hm:=mO r hx;cases p with
 |nil=>
  simp only[apD,ai,cU] at h;obtain⟨rfl,rfl,rfl,rfl⟩:=h;have v:=r.add (Ext.refl w) [((⟨.tree e true [],s.m.k,s.m.k⟩:EO U),aFn)] (by simp) (by simp[qK]) (by simp[qK]) (λy x hx=>by
   simp at hx;subst hx;exact⟨c,[],World.ownsRow_nil w 0 e (U.K e), .n⟩)
  refine⟨_,aFn,s.m.k,s.m.k,v,rfl,rfl,rfl,?_,?_,?_,ak _⟩
  ·rw[dK,<-r.hp.len];simp
  ·simp[psh,dK]
  assumption
 |own j q=>
  simp only[apD,aZ] at h;obtain⟨_,e',t,k1,k2,k3⟩:=hm
  grind[d0,Nat.beq,slq,Option.some.injEq,Prod.mk.injEq,nH,k2,k1,k3,Nat.eq_of_beq_eq_true]
 |_=>cases h
def aXa (hY:LayOk Y)(r:bL Y.C E s a w β){e i:Nat}(x:0<U.K e){py:Lf U}{v:Value}{l:List (U.El e)}{ids:List Nat}{d:Bool}(hm:py.mean Y.C w (E.X β) β s.m v)(h:apS Y s.m e i py=some (l,ids,d)):
  (i::ids).Nodup/\∃(A:Option Addr) (c:Nat) (news:List Value),v= .slice A l.length c/\news.length=l.length*U.K e/\(l.length=0\/∃p,A=some p/\∀j u,news[j]? =some u->w.cell? (p.add j)=some u)/\∃B,OwL Y.C w (E.X β) d news (l.map (Y.C.cel e)).flatten B/\(∀b∈B,b∈lF β ids)/\B.Nodup:=by
 by_cases hn:py= .nil
 ·subst hn;simp only[apS,ai,cU] at h;obtain⟨rfl,rfl,rfl⟩:=h;obtain rfl:=hm;exact⟨by simp,none,0,[],rfl,by simp, .inl rfl,[], .n,by simp,gm⟩
 ·have k:(bif aLs Y e then(match tT s.m py with
   |some (.sl τ l)=>match slq e τ l with
    |some l=>bif aH9 i py then some (l,[],true) else none
    |none=>none
   |_=>none) else(match py with
   | .sl τ l=>match slq e τ l with
    |some l=>some (l,[],false)
    |none=>none
   | .own j r=>match nth s.m.o j with
    |some ⟨.tree τ d l,rv,_⟩=>bif Nat.beq rv r&&aH9 i py then(match slq e τ l with
     |some l=>some (l,[j],d)
     |none=>none) else none
    |_=>none
   |_=>none))=some (l,ids,d):=by
   cases py<;>first|exact absurd rfl hn|exact h
  cases G:aLs Y e with
  |true=>
   rw[G] at k;simp only[ac] at k;split at k
   ·rename_i τ y hr;cases hs:slq e τ y with
    |none=>simp_all
    |some l1=>
     simp only[hs] at k;cases H:aH9 i py with
     |false=>simp_all
     |true=>
      simp only[H,ac,ai,cU] at k;obtain⟨rfl,rfl,rfl⟩:=k;obtain⟨rfl,z⟩:=nH hs;obtain rfl:=eg z;have hrd:=(Jk r.hp hm hr (Z:=λ_=>False) (λ_ h=>h.elim) (by simp)).2;obtain⟨A,c,news,q1,q2,q3,q4⟩:=aR3 (X:=E.X β) (d:=true) hY x hrd (.inl G)
      grind
   ·cases k
  |false=>
   rw[G] at k;simp only[ae] at k;cases py with
   |nil=>simp_all
   |sl τ y=>
    simp only at k;cases hs:slq e τ y with
    |none=>simp_all
    |some l1=>
     simp only[hs,ai,cU] at k;obtain⟨rfl,rfl,rfl⟩:=k;obtain⟨rfl,z⟩:=nH hs;obtain rfl:=eg z;obtain⟨A,c,news,q1,q2,q3,q4⟩:=aR3 (X:=E.X β) (d:=false) hY x (Z:=E.X β) hm (by simp)
     grind
   |own j q=>
    simp only at k;split at k
    ·rename_i τ d0 y rv cv ho;rw[aZ] at ho;cases hb:(Nat.beq rv q&&aH9 i (.own j q:Lf U)) with
     |false=>simp_all
     |true=>
      rw[hb] at k;simp only[ac] at k;simp only[aa] at hb;cases hs:slq e τ y with
      |none=>simp_all
      |some l1=>
       simp only[hs,ai,cU] at k;obtain⟨rfl,rfl,rfl⟩:=k;obtain⟨rfl,z⟩:=nH hs;obtain rfl:=eg z;obtain⟨_,e',t,k1,k2,k3⟩:=hm;rw[ho] at k1;injection k1 with k1;subst k1;have hv:=k3 (ah hb.1);have I:=r.hp.ok j t _ k2 ho;obtain⟨_,xs,J,S⟩:=I;have T:lF β [j]=t.all:=by simp[lF,k2]
       have F:∀b∈t.bs,b∈lF β [j]:=(by grind[Tr.all]);have L:t.bs.Nodup:=(ee.1 (r.hp.nd j t k2)).2.1;refine⟨by simp;exact(bEw hb.2).symm,?_⟩;rcases fM J with⟨b1,O,V,W,b5⟩|⟨b,cur,b1,O,V,W,b5,b6,b7⟩
       ·grind[Tr.val,inl,List.eq_nil_of_length_eq_zero]
       ·exact⟨some ⟨b,0,none⟩,t.c,xs,by rw[hv];simp[Tr.val,b1,O],J.1, .inr ⟨_,rfl,λj u hu=>sH J b1 hu⟩,t.bs,S,F,L⟩
    ·cases k
   |_=>cases k
def bMf {e k n:Nat}{v:Value}{xs:List Value}{w:World}(h:w.ownsRow 0 e k v n xs)(bs:List Nat):∃t:Tr,t.val=v/\t.b=v.ownBlock/\t.bs=bs:=by
 rcases h.2 with⟨rfl,_⟩|⟨c,cap,cur,rfl,_⟩
 ·exact⟨⟨none,0,0,bs⟩,rfl,rfl,rfl⟩
 ·exact⟨⟨some c,n,cap,bs⟩,rfl,rfl,rfl⟩
def aUs (Z:sF P TI=true)(hY:LayOk Y)(r:bL Y.C E s a w β){o:Oper}{t:TypeId}{x y:Operand}{e ek eb k i:Nat}{zz:List Kz}{px py:Lf U}{d d':Bool}{l l':List (U.El e)}{s1:St U}{ids:List Nat}
  (ho:o.op= .call {callee:= .builtin .append,args:= #[x,y],argTypes:= #[t,t]}) (h1:kD TI t=some ⟨.sl e ek eb,k,zz⟩) (h2:Nat.ble eb 2048=true) (h3:Je (U:=U) e ek e=true) (h4:fU s x= .l px) (h5:fU s y= .l py)
  (h6:apD s e px=some (i,d,l,s1)) (h7:apS Y s1.m e i py=some (l',ids,d')) (hg:bB l l'):
  SO P Y.C E a w o (.l (.own i (Nat.succ s1.m.k))) ⟨s1.t,⟨Tn (Nat.succ s1.m.k) ids (upd s1.m.o i ⟨.tree e (d&&d') (l++l'),Nat.succ s1.m.k,Nat.succ s1.m.k⟩),Nat.succ s1.m.k,s1.m.ns⟩,s1.fr⟩ false:=λK Q hK=>by
 have O:=(Ae (bX Z h1) rfl).1;obtain⟨_,_,_,_,_,_,_,_,hk0⟩:=gH O;simp only[Je,aa] at h3;have hKe:U.K e=ek:=ah h3.2;have I:0<U.K e:=by omega
 obtain⟨β1,tr,rv,cv,q,e1,e2,e3,H,e5,e6,_⟩:=bIh r I h4 h6;have h5':fU s1 y= .l py:=by rw[<-h5];unfold fU vY;rw[e1,e2]
 obtain⟨hJ,A,c,news,q1,q2,q3,B,q4,q5,q6⟩:=aXa hY q I (mO q h5') h7;have hok:=q.hp.ok i tr _ H e5;obtain⟨_,xs,c1,c2⟩:=hok;have hb':eb<=2048:=bc h2;unfold bB at hg;rw[hKe] at c1 q2;obtain⟨v',w',a1,a2,z,W⟩:=aLl (P:=P) (ty:=o.type) O c1 (A:=A) (c:=c) q2 q3 q4.ones (by grind[maxLen]) (by
  calc (l.length+l'.length)*eb<=68719476736*2048:=ib hg hb'
   _=140737488355328:=by decide)
 obtain⟨t2,t3,t4,t5⟩:=bMf a2 (tr.bs++B);have htv:tr.val.ownBlock=tr.b:=by cases h:tr.b<;>simp[Tr.val,Value.ownBlock,h]
 rw[htv] at z W;rw[<-t4] at W;have hnd:=q.hp.nd i tr H;have hBd:∀b∈B,b∉tr.all:=λb hb hb'=>by
  obtain⟨j,hj,u,S,F⟩:=zH (q5 b hb);exact q.hp.dist j i u tr b (by grind[List.nodup_cons]) S H F hb'
 have T:∀b∈B,b<w.heap.size:=λb hb=>by
  obtain⟨j,hj,u,S,F⟩:=zH (q5 b hb);exact(q.hp.new j u b S F).2
 have V:∀b,(b∈tr.bs\/b∈B)->some b≠tr.b:=λb hb e=>by
  rcases hb with hb|hb
  ·have h':b∈tr.b.toList:=by simp[*]
   exact(ee.1 hnd).2.2 b h' b hb rfl
  grind[Tr.root]
 obtain⟨β',r2,r3,_⟩:=q.turn (w':=w') (J:=ids) (ob:= .tree e (d&&d') (l++l')) (rv:=s1.m.k+1) (t':=t2) e5 H hJ z.size z.os z.tape z.output
  (λb hb hn=>z.block b hb (by grind[Tr.root]))
  (λb hb=>by
   simp only[Tr.all,t5,bp,iS] at hb;rcases hb with hb|hb|hb
   ·rcases W with h|h
    ·have n:tr.b=some b:=by simp_all
     exact⟨cf (q.hp.new i tr b H (Tr.root n)).2 z.size, .inr (.inl (Tr.root n))⟩
    ·rw[h] at hb;have n:b=w.heap.size:=by grind
     refine⟨?_, .inl (by omega)⟩;have:=a2.lt b (by rw[<-t4,h,n]);exact this.2
   ·exact⟨cf (q.hp.new i tr b H (by simp[Tr.all,hb])).2 z.size, .inr (.inl (by simp[Tr.all,hb]))⟩
   ·obtain⟨j,hj,u,S,F⟩:=zH (q5 b hb);exact⟨cf (T b hb) z.size, .inr (.inr ⟨j,hj,u,S,F⟩)⟩)
  (by
   have hbs:(tr.bs++B).Nodup:=by
    grind[Tr.all,List.nodup_append,q6]
   rw[Tr.all,t5,ee];refine⟨by cases t2.b<;>simp,hbs,λb hb b' hb' e=> ?_⟩;subst e;have n:t2.b=some b:=by simp_all
   rcases W with h|h
   ·simp_all
   ·rw[h] at n;injection n with n;rcases bp.1 hb' with hb'|hb'
    ·have:=(q.hp.new i tr b H (by simp[Tr.all,hb'])).2;omega
    grind)
  (.inr rfl) (λh=>by cases h) (λβ' m' p=>by
   refine⟨I,xs++news,?_,?_⟩
   ·simp[*]
   ·rw[ez,eh,t5];have L:(d&&d')=true->d=true:=(by simp_all);have G:(d&&d')=true->d'=true:=(by simp);exact OwL.app ((c2.conv p.sz p.hX p.hc (λb hb=>z.block b (q.hp.new i tr b H (by simp[Tr.all,hb])).2 (V b (.inl hb)))).fl L)
     ((q4.conv p.sz p.hX p.hc (λb hb=>z.block b (T b hb) (V b (.inr hb)))).fl G))
 refine wpo (w':=w') (v:=v') (.inl ?_) (hK _ _ β' r2 (λ_=> ?_) (λh=>by cases h))
 ·simp_all[execOp,resolve,invoke,builtin,Sem.run_bind,Sem.run_pure,Result.andThen_ok,ji,bw,ga,q1]
 ·refine⟨⟨ak _,by rw[<-t3];rfl⟩,⟨.tree e (d&&d') (l++l'),s1.m.k+1,s1.m.k+1⟩,t2,?_,r3,λ_=>t3.symm⟩;rw[zG (cw.1 hJ).1,dY,ba (lt_of_some e5)]
def aMf {t ty e:TypeId}{i:TypeInfo}(ht:P.underlying t=some (.slice e))(hi:P.info? e=some i)(k o sLen sCap:Nat)(cur:Array Value)(hg:w.heap[k]? =some (.cells cur e (0,0)))
  (p:Addr) (m c:Nat) (news:List Value) (hl:news.length=m*i.size) (d:∀j u,news[j]? =some u->w.cell? (p.add j)=some u) (h1:∀u∈news,u.oneCell'=true)
  (h:sLen+m<=sCap) (n:o+sLen*i.size+news.length<=cur.size):
  (Builtin.append_ #[t,t] ty #[.slice (some ⟨k,o,none⟩) sLen sCap, .slice (some p) m c]).run P w=
   .ok (.slice (some ⟨k,o,none⟩) (sLen+m) sCap) (w.setRow k (cur.toList.take (o+sLen*i.size)++news++cur.toList.drop (o+sLen*i.size+news.length)).toArray):=by
 have q:=run_firstCells_some (P:=P) w i.size m p m c news hl d;have l:=run_storeCells_at P k (o+sLen*i.size) e news 0 cur w hg (by assumption) h1;simp only[dT] at l;simp[Builtin.append_,run_underlying ht,sizeOf,typeInfo,hi,Builtin.lenOf,h,q,gI,l]
def aMg {t ty e k bts:Nat}(ht:slB P t e k bts=true){u:Tr}{n q:Nat}{xs:List Value}(hown:w.ownsRow 0 e k u.val n xs)(hq:q<=n){A:Option Addr}{m c:Nat}{news:List Value}(hl:news.length=m*k)(hm0:0<m)
  (V:m=0\/∃p,A=some p/\∀j u,news[j]? =some u->w.cell? (p.add j)=some u) (h1:∀u∈news,u.oneCell'=true) (hm:n+m<=maxLen) (hb:(n+m)*bts<=140737488355328):
  ∃(v':Value) (w':World) (b' G v q':Nat) (ys:List Value),(Builtin.append_ #[t,t] ty #[aLp k u q n, .slice A m c]).run P w= .ok v' w'/\w'.ownsRow 0 e k (.slice (some ⟨b',0,none⟩) v G) v (ys++news)/\w.grownBy w' u.b/\
   v'= .slice (if G=q' then some ⟨b',0,none⟩ else some (Addr.add ⟨b',0,none⟩ (q'*k))) (v-q') (G-q')/\
   ((u.b=some b'/\q'=q/\v=n+m/\ys=xs)\/(b'=w.heap.size/\q'=0/\v=n-q+m/\ys=xs.drop (q*k))):=by
 obtain⟨W,i,z,hi,hz,H,I,J,hk0⟩:=gH ht;subst H;subst I;obtain⟨p,hA,d⟩:∃p,A=some p/\∀j u,news[j]? =some u->w.cell? (p.add j)=some u:=(by grind);subst hA;have x:=hown.1;have o:(xs.drop (q*i.size)).length=(n-q)*i.size:=by rw[cE,x,Nat.sub_mul]
 have hlen:(xs.drop (q*i.size)++news).length=(n-q+m)*i.size:=by rw[ax,o,hl,du]
 have h63:n+m<=9223372036854775807:=by assumption
 have grown:∀(old:Nat),old<n-q+m->(w.drew.alloc (.cells ((xs.drop (q*i.size)).toArray++news.toArray++Builtin.zeroCells z.cells (grownCap w (n-q+m) old e-(n-q+m))) e)).ownsRow 0 e i.size
    (.slice (some ⟨w.heap.size,0,none⟩) (n-q+m) (grownCap w (n-q+m) old e)) (n-q+m) (xs.drop (q*i.size)++news)/\
   w.grownBy (w.drew.alloc (.cells ((xs.drop (q*i.size)).toArray++news.toArray++Builtin.zeroCells z.cells (grownCap w (n-q+m) old e-(n-q+m))) e)) u.b:=by
  intro old ho;have y:=grownCap_ge w (n-q+m) old e;have L:grownCap w (n-q+m) old e<=maxLen:=(by grind[grownCap_le_maxLen]);refine⟨⟨hlen, .inr ⟨w.heap.size,_,_,rfl,cD _,heap_alloc_new w.drew _,y,L,?_,?_⟩⟩,⟨rfl,rfl,rfl,by simp,λk hk _=>heap_alloc_old w.drew _ hk⟩⟩
  ·simp only[jf,jb,size_zeroCells,J,o,hl,<-du];simp[*]
  grind
 rcases fM hown with⟨b1,b2,b3,Z,O⟩|⟨b,cur,b1,b2,b3,Z,O,b6,b7⟩
 ·grind[Addr.add,grownCap_ge,run_append_nil,aLp]
 ·by_cases h:n+m<=u.c
  ·have S:¬u.c=q:=by omega
   have hs:aLp i.size u q n= .slice (some ⟨b,q*i.size,none⟩) (n-q) (u.c-q):=by grind[aLp,gI]
   have B:q*i.size+(n-q)*i.size=n*i.size:=by rw[<-du];simp[*]
   have l:q*i.size+(n-q)*i.size+news.length<=cur.size:=by rw[B,hl,b6,<-du];exact et _ h
   have hr:=aMf (P:=P) (w:=w) (ty:=ty) W hi b (q*i.size) (n-q) (u.c-q) cur O p m c news hl d h1 (by omega) l;rw[B] at hr l;refine⟨_,_,b,u.c,n+m,q,xs,by rw[hs];exact hr,⟨by rw[ax,x,hl,du], .inr ⟨b,u.c,_,rfl,cD _,setRow_heap w b cur _ e _ O,h,Z,?_,?_⟩⟩,⟨rfl,rfl,rfl,by simp,λk _ hk=>setRow_other w b k _ (λe=>hk (by rw[b1,e]))⟩,?_, .inl ⟨b1,rfl,rfl,rfl⟩⟩
   ·grind
   ·grind[List.take_left,List.length_append,Nat.add_mul]
   simp_all[dm,gI,cx];omega
  ·have holds:∀(T:Addr),(∀j,T.add j=⟨b,q*i.size+j,none⟩)->∀j u',(xs.drop (q*i.size))[j]? =some u'->w.cell? (T.add j)=some u':=λT hp j u' hj=>by
    rw[hp];have:=sH hown b1 (i:=q*i.size+j) (by simpa using hj)
    grind[gI]
   have F:=grown (u.c-q) (by omega);have y:=grownCap_ge w (n-q+m) (u.c-q) e;have r:=growslice_fits (old:=u.c-q) (need:=n-q+m) (bytes:=i.bytes) (by omega) (bz (et _ (by omega)) hb);refine⟨.slice (some ⟨w.heap.size,0,none⟩) (n-q+m) (grownCap w (n-q+m) (u.c-q) e),_,w.heap.size,grownCap w (n-q+m) (u.c-q) e,n-q+m,0,_,?_,F.1,F.2,by rw[dm (by omega)];simp[Addr.add], .inr ⟨rfl,rfl,rfl,rfl⟩⟩;by_cases S:u.c=q
   ·grind[lt_of_some,run_append_grow,aLp]
   ·have hs:aLp i.size u q n= .slice (some ⟨b,q*i.size,none⟩) (n-q) (u.c-q):=by grind[aLp,gI]
    rw[hs];exact run_append_grow (P:=P) w t ty e i z W hi hz ⟨b,q*i.size,none⟩ (n-q) (u.c-q) _ o (by grind[gI]) p m c news hl d (by omega) (by omega) r
def aJc (S:sF P TI=true)(hY:LayOk Y)(r:bL Y.C E s a w β){o:Oper}{t:TypeId}{x y:Operand}{e ek eb k i c:Nat}{zz:List Kz}{py:Lf U}{d':Bool}{n:Int}{l l':List (U.El e)}
  (ho:o.op= .call {callee:= .builtin .append,args:= #[x,y],argTypes:= #[t,t]}) (h1:kD TI t=some ⟨.sl e ek eb,k,zz⟩) (h2:Nat.ble eb 2048=true) (h3:Je (U:=U) e ek e=true) (h4:fU s x= .l (.suf i c e n l)) (h5:fU s y= .l py)
  (h6:okv s.m i c=true) (h7:apS Y s.m e i py=some (l',[],d')) (hne:1<=l'.length) (hg:bB l l'):
  SO P Y.C E a w o (.l (.bor i (Nat.succ s.m.k) e (l.drop n.toNat++l'))) ⟨s.t,⟨upd s.m.o i ⟨.dead,Nat.succ s.m.k,Nat.succ s.m.k⟩,Nat.succ s.m.k,s.m.ns⟩,s.fr⟩ false:=λK Q hK=>by
 have G:=(Ae (bX S h1) rfl).1;obtain⟨_,_,_,_,_,_,_,_,hk0⟩:=gH G;simp only[Je,aa] at h3;have q:U.K e=ek:=ah h3.2;have H:0<U.K e:=by omega
 obtain⟨hJ,A,c0,news,q1,q2,q3,B,q4,q5,q6⟩:=aXa hY r H (mO r h5) h7;have hB:B=[]:=by
  cases B with
  |nil=>rfl
  |cons b B=>have:=q5 b (by simp);grind[lF]
 subst hB;obtain⟨_,e',tr,k1,k2,k3⟩:=mO r h4;obtain⟨e2,O,g2⟩:=sI h6;rw[k1] at O;injection O with O;subst O;obtain⟨d,a1,a2,a3,a4⟩:=k3 g2;have I:=r.hp.ok i tr _ k2 k1;rw[a1] at I;obtain⟨_,xs,c1,c2⟩:=I;have hb':eb<=2048:=bc h2;unfold bB at hg;rw[q] at c1 q2;obtain⟨v',w',b',c',F,q',ys,p1,p2,z,p4,p5⟩:=aMg (P:=P) (ty:=o.type) G c1 a3 (A:=A) (c:=c0) q2 (by omega) q3 q4.ones (by grind[maxLen]) (by
  calc (l.length+l'.length)*eb<=68719476736*2048:=ib hg hb'
   _=140737488355328:=by decide)
 obtain⟨L,Bs,hL,T,V,W⟩:∃(L:List (U.El e)) (Bs:List Nat),OwL Y.C w (E.X β) d ys (L.map (Y.C.cel e)).flatten Bs/\F=L.length+l'.length/\(L++l').drop q'=l.drop n.toNat++l'/\List.Sublist Bs tr.bs:=by
  rcases p5 with⟨_,rfl,rfl,rfl⟩|⟨_,rfl,rfl,rfl⟩
  ·grind
  ·have hsp:(l.map (Y.C.cel e)).flatten=((l.take n.toNat).map (Y.C.cel e)).flatten++((l.drop n.toNat).map (Y.C.cel e)).flatten:=by rw[<-eh,<-ez,cL]
   rw[hsp] at c2;obtain⟨v1,v2,B1,B2,e1,e2,o1,o2⟩:=OwL.split c2;have hv1:v1.length=n.toNat*ek:=by rw[o1.len,Ji (Y.C.hlen e),cq,jn a3,q]
   grind
 have htv:tr.val.ownBlock=tr.b:=by cases h:tr.b<;>simp[Tr.val,Value.ownBlock,h]
 have hnd:=r.hp.nd i tr k2;let t2:Tr:=⟨some b',F,c',Bs⟩;have p:∀b∈Bs,b∈tr.all/\some b≠tr.b:=(by grind[Tr.all,List.nodup_append]);have hb2:(b'∈tr.all/\tr.b=some b')\/b'=w.heap.size:=by
  grind[inl,Tr.root]
 have hb'lt:b'<w'.heap.size:=(p2.lt b' rfl).2;obtain⟨β',r2,r3,j⟩:=r.turn (w':=w') (J:=[]) (ob:= .dead) (rv:=s.m.k+1) (t':=t2) k1 k2 (by simp) z.size z.os z.tape z.output
  (λb hb hn=>z.block b hb (by grind[Tr.root]))
  (λb hb=>by
   simp only[t2,Tr.all,fb,bp,cj] at hb;rcases hb with rfl|hb
   ·grind
   ·exact⟨cf (r.hp.new i tr b k2 (p b hb).1).2 z.size, .inr (.inl (p b hb).1)⟩)
  (by
   simp only[t2,Tr.all,fb,fi,cw];refine⟨λh=> ?_,W.nodup (ee.1 hnd).2.1⟩;rcases hb2 with h2|h2
   ·grind
   ·have:=(r.hp.new i tr b' k2 (p b' h).1).2;omega)
  (.inr rfl) (λh=>by cases h) (λ_ _ _=>trivial)
 have hOw:Ow Y.C w' (λb=>E.X β' b\/b∈t2.all) false t2.val (.sl e (L++l')) t2.all:=by
  have hX:∀b,b<w.heap.size->(E.X β' b\/b∈t2.all)->E.X β b:=λb hb h=>h.elim (j.hX b hb) (λh=>j.hX b hb (bMb r3 h));refine .sl t2 H (xs:=ys++news) ?_ ?_
  ·rw[ax,q,<-T];exact p2
  ·rw[ez,eh];have:=OwL.app ((hL.conv j.sz hX j.hc (λb hb=>z.block b (r.hp.new i tr b k2 (p b hb).1).2 (p b hb).2)).soft) ((q4.conv j.sz hX j.hc (λb hb=>by simp at hb)).soft)
   grind
 have hRd:=hOw.rd (Z:=λb=>E.X β' b/\b∉t2.all) (λb hb=> .inl hb.1) (by simp_all);refine wpo (w':=w') (v:=v') (.inl ?_) (hK _ _ β' (by assumption) (λ_=> ?_) (λh=>by cases h))
 ·simp_all[execOp,resolve,invoke,builtin,Sem.run_bind,Sem.run_pure,Result.andThen_ok,ji,bw,ga,q1]
 ·refine⟨⟨ak _,by rw[p4];rfl⟩,⟨.dead,s.m.k+1,s.m.k+1⟩,t2,?_,r3,λ_=> ?_⟩
  ·simp only[dY];rw[ba (lt_of_some k1)]
  ·have hle:q'<=F:=by rcases p5 with⟨_,rfl,rfl,_⟩|⟨_,rfl,rfl,_⟩<;>omega
   have:=Rd.sub (A:=some ⟨b',0,none⟩) (n:=F) (c:=c') hRd (a:=q') (b:=F) hle (by simp[*]);have e1:((((L++l').map (U.enc e)).take F).drop q')=(l.drop n.toNat++l').map (U.enc e):=by rw[<-V,fv,eI (by simp[*])]
   simp_all
end
end Go.EV
namespace Go.EV
open Go.RowKit Go.VK
variable {U:Uni} {Y:Lay U} {TI:List (Nat×TInfo)} {P:Program} {g:GI} {E:Env U g}
def zI:Bool×List (Lf U)->V
 |(true,cs)=> .agg (cs.map Lf.toV)
 |(false,[x])=>x.toV
 |_=> .any
def OwP (C:Cod U)(w:World)(v:Value)(B:List Nat):Bool×List (Lf U)->Prop
 |(true,cs)=>∃vs:List Value,v= .agg vs.toArray/\OwL C w (λ_=>False) true vs cs B
 |(false,cs)=>∃c,cs=[c]/\Ow C w (λ_=>False) true v c B
inductive OwPs (C:Cod U) (w:World):List Value->List (Bool×List (Lf U))->List Nat->Prop
 |n:OwPs C w [] [] []
 |c {v:Value} {x:Bool×List (Lf U)} {B B':List Nat} {vs:List Value} {xs:List (Bool×List (Lf U))} (h:OwP C w v B x) (hr:OwPs C w vs xs B'):OwPs C w (v::vs) (x::xs) (B++B')
def OwR (C:Cod U)(w:World)(v:Value)(cps:List (Bool×List (Lf U)))(B:List Nat):Prop:=
 match cps with
 |[x]=>OwP C w v B x
 |xs=>∃vs:List Value,v= .tuple vs.toArray/\OwPs C w vs xs B
def bOr (P:Program)(g:GI)(C:Cod U)(f:FuncId)(Us:List V)(cps:List (Bool×List (Lf U))):Prop:=
 (∀args w,(callFunc f args).run P w= .ok (.enter f args) w)/\
 ∀(w:World) (X:Nat->Prop) (vs:List Value),g.G w->(∀b,X b->b<w.heap.size)->RdL w X vs Us->
  Calls P f vs.toArray w λe w'=>∃v B,e= .returned v/\Ext w w'/\B.Nodup/\(∀b∈B,w.heap.size<=b)/\OwR C w' v cps B
def bS2 (P:Program)(g:GI)(C:Cod U)(f:FuncId)(b:Bool)(cs ds:List (Lf U))(u:V)(k:Int):Prop:=
 (∀args w,(callFunc f args).run P w= .ok (.enter f args) w)/\
 ∀(w:World) (v c:Value) (B:List Nat),B.Nodup->(∀w',Bel (·∈B) w w'->g.G w')->OwP C w v B (b,cs)->Rd w (λ_=>False) [] c u->
  Calls P f #[v,c] w λe w'=>e= .returned (.int .i64 k)/\(IntKind.i64.min<=k/\k<=IntKind.i64.max)/\Bel (·∈B) w w'/\∃B',B'.Nodup/\(∀x∈B',x∈B\/w.heap.size<=x)/\OwP C w' v B' (b,ds)
def bOs (P:Program)(g:GI)(f:FuncId)(T:Nat)(cs ds d:List V)(r:V):Prop:=
 (∀args w,(callFunc f args).run P w= .ok (.enter f args) w)/\
 ∀(w:World) (X:Nat->Prop) (b:Nat) (ws vs:List Value),(∀w',Bel (·=b) w w'->g.G w')->(∀x,X x->x<w.heap.size)->X b->w.heap[b]? =some (.cells ws.toArray T (0,0))->RdL w X ws cs->RdL w X vs d->
  Calls P f ((.pointer (some ⟨b,0,none⟩)::vs).toArray) w λe w'=>∃v c,e= .returned v/\Bel (·=b) w w'/\w'.heap[b]? =some (.cells c.toArray T (0,0))/\RdL w' X c ds/\Rd w' X [] v r
def Er (P:Program)(g:GI)(Y:Lay U)(f:FuncId)(S:Sum U):Prop:=
 ∀(a:sD U S.ar) (r:sD U S.rs),S.m a=some r->
  (S.wt=false->S.fr=false->VK.Spec P g f ((dQ Y S.ar a).map zI) (λv=>v=oL ((dQ Y S.rs r).map zI)))/\(S.wt=false->S.fr=true->bOr P g Y.C f ((dQ Y S.ar a).map zI) (dQ Y S.rs r))/\
  (S.wt=true->S.fr=false->∀b cs u b' ds c k,dQ Y S.ar a=[(b,cs),u]->dQ Y S.rs r=[(b',ds),(c,[.int .i64 k])]->bS2 P g Y.C f b cs ds (zI u) k)/\
  (S.wt=true->S.fr=true->∀T ks cs d ds rs,S.ar= .st T::ks->dQ Y S.ar a=(true,cs)::d->dQ Y S.rs r=(true,ds)::rs->bOs P g f T (cs.map Lf.toV) (ds.map Lf.toV) (d.map zI) (oL (rs.map zI)))
section
variable {s:St U} {a:Act} {w w':World} {β:List Tr} {α:Type}
def bL.aCV {C:Cod U}(r:bL C E s a w β){c:List (Nat×Bool)}(hn:∀(a i:Nat) (f:Bool),s.m.ns[a]? =some (i,f)->∃f',c[a]? =some (i,f'))(hc:∀(a i:Nat),c[a]? =some (i,true)->(i:Int)+1<=9223372036854775807):
  bL C E ⟨s.t,⟨s.m.o,s.m.k,c⟩,s.fr⟩ a w β:=by
 obtain⟨h1,h2⟩:=r.hp.step (s':=⟨s.m.o,s.m.k,c⟩) (β':=β) (w':=w) (λ_=>False) (λ_=>False) (ak _) hn hc r.hp.len (ak _) (ak _) rfl rfl rfl (λ_ _ _=>rfl) (λ_ h=>h.elim) (by simp)
  (λj t b hj ht _=>by rcases hj with h|h;exact h.elim;have:=lt_of_some ht;rw[r.hp.len] at this;omega)
  (λi j t u b hi hj _ ht _ _=>by rcases hi with h|h;exact h.elim;have:=lt_of_some ht;rw[r.hp.len] at this;omega)
  (λj t hj ht=>by rcases hj with h|h;exact h.elim;have:=lt_of_some ht;rw[r.hp.len] at this;omega)
  (by simp_all)
  (by simp)
  (by grind)
 exact r.go h1 h2
def PO (P:Program)(C:Cod U)(E:Env U g)(a:Act)(w:World)(β:List Tr)(o:Oper)(x:Sv U)(s':St U):Prop:=
 ∃v,(∀w',Ext w w'->(execOp a.eval o).run P w'= .ok (.value v) w')/\bL C E s' a w β/\x.mean C w (E.X β) β s'.m v
def SO.aDO {C:Cod U}{o:Oper}{x:Sv U}{s':St U}(h:PO P C E a w β o x s'):SO P C E a w o x s' true:=λK Q hK=>by
 obtain⟨v,h1,h2,c⟩:=h
 grind[wpo,inl,Ext.refl]
theorem bEx (r:bL Y.C E s a w β){o:Oper}{t u:TypeId}{x:Operand}{n:Int}{c i:Nat}(ho:o.op= .binOp .add t x (.const (.int .i64 n)) u)(hn:n=1)(hx:vY s x= .l (.nat c))(hc:s.m.ns[c]? =some (i,true)):
  PO P Y.C E a w β o (.l (.nat (len s.m.ns))) ⟨s.t,⟨s.m.o,s.m.k,s.m.ns++[(Nat.succ i,false)]⟩,s.fr⟩:=by
 subst hn;have q:=r.hp.cnt c i hc;have hm:=kF r (x:=x);rw[hx] at hm;obtain⟨A,f,k1,k2,k3⟩:=hm;rw[hc] at k1;injection k1 with k1;injection k1 with k1 _;subst k1;have y:bL Y.C E ⟨s.t,⟨s.m.o,s.m.k,s.m.ns++[(Nat.succ i,false)]⟩,s.fr⟩ a w β:=r.aCV (by grind[List.getElem?_append_left,lt_of_some]) (λp j h=>by
  by_cases hl:p<s.m.ns.length
  ·rw[ao hl] at h;exact r.hp.cnt p j h
  grind)
 have z:IntKind.i64.wrap ((i:Int)+1)=((Nat.succ i:Nat):Int):=by rw[IntKind.wrap_i64];omega
 have d:fU s x= .l (.int .i64 (i:Int)):=by grind[rsv,aZ,fU]
 have e:fU s (.const (.int .i64 (1:Int)))= .l (.int .i64 (1:Int)):=rfl;obtain⟨v,h1,h2⟩:=mQ (P:=P) r (λ_=>add (t:=t) (u:=u) (fF d) (fF e)) o ho;have hv:v= .int .i64 ((Nat.succ i:Nat):Int):=by rw[<-z];exact h2.1
 exact⟨v,h1,y,Nat.succ i,false,by rw[dK];simp,hv,by omega⟩
def d9 {kd:Kd}{x:Lf U}{v:kd.ty U}(h:aLq kd x=some v):x=bQi kd v:=by
 cases kd with
 |int k=>
  cases x with
  |int d n=>
   have c:(if d=k then some n else none)=some (show Int from v):=h;split at c
   ·rename_i e;subst e;have:=aj c;subst this;rfl
   ·cases c
  |_=>cases h
 |bool=>
  cases x with
  |bool b=>have c:some b=some (show Bool from v):=h;have:=aj c;subst this;rfl
  |_=>cases h
 |str=>
  cases x with
  |str b=>have c:some b=some (show ByteArray from v):=h;have:=aj c;subst this;rfl
  |_=>cases h
 |sl τ=>
  cases x with
  |sl τ' l=>exact bMa (by assumption)
  |_=>cases h
 |st T=>cases x<;>cases h
def lfs:(ks:List Kd)->sD U ks->List (Lf U)
 |[],_=>[]
 |[k],x=>[bQi k x]
 |k::c::ks,x=>bQi k x.1::lfs (c::ks) x.2
def apC {β:Type}:(ks:List Kd)->Cur U β ks->sD U ks->β
 |[],f,_=>f
 |[_],f,x=>f x
 |_::c::ks,f,x=>apC (c::ks) (f x.1) x.2
def bCq {β:Type}:∀{ks:List Kd} {f:Cur U β ks} {cs:List (Lf U)} {x:β},nG ks f cs=some x->∃t:sD U ks,cs=lfs ks t/\x=apC ks f t
 |[],f,[],x,h=>⟨(),rfl,(aj h).symm⟩
 |[],f,_::_,x,h=>by cases h
 |k::ks,f,[],x,h=>by cases h
 |[k],f,[c],x,h=>by
  cases hc:aLq k c with
  |none=>simp[nG,hc] at h
  |some a=>simp only[nG,hc] at h;exact⟨a,by rw[d9 hc];rfl,(aj h).symm⟩
 |[k],f,c::_::_,x,h=>by
  cases hc:aLq k c with
  |none=>simp[nG,hc] at h
  |some a=>simp[nG,hc] at h
 |k::d::ks,f,c::cs,x,h=>by
  cases hc:aLq k c with
  |none=>simp[nG,hc] at h
  |some a=>
   have e:nG (d::ks) (f a) cs=some x:=by rw[<-h];conv=>rhs;unfold nG;rw[hc]
   obtain⟨t,rfl,rfl⟩:=bCq e;exact⟨(a,t),by rw[d9 hc];rfl,rfl⟩
def aXb {f:FuncId}{fn:Func}{c:Code}(hf:P.funcs[f]? =some fn)(hb:fn.body=some c)(hn:(fn.name== "runtime.NumGoroutine")=false)(args:Array Value)(w:World):(callFunc f args).run P w= .ok (.enter f args) w:=by simp_all[callFunc]
def aR4 {C:Cod U}(H:Hp C E s.m β w){v:Value}{x y:Lf U}{kd:Kd}(hm:x.mean C w (E.X β) β s.m v)(h:rdn s.m kd x=some y){Z:Nat->Prop}(d:∀b,Z b->E.X β b)(c:Fz β Z x):
  y.aBA=true/\Rd w Z [] v y.toV:=by
 by_cases hx:x= .nil
 ·subst hx;obtain rfl:=hm;cases kd with
  |sl τ=>simp only[rdn,ai] at h;subst h;exact⟨rfl, .slice0 (cD _)⟩
  |_=>cases h
 ·have e:tT s.m x=some y:=by cases x<;>first|exact absurd rfl hx|exact h
  grind[aRw]
def aXc {m:Mm U}{kd:Kd}{ks:List Kd}{x:Lf U}{xs ys:List (Lf U)}(h:rds m (kd::ks) (x::xs)=some ys):∃y c,rdn m kd x=some y/\rds m ks xs=some c/\ys=y::c:=by
 grind[rdn,rds,Option.some.inj]
def bIj {Z:Nat->Prop}:∀{xs:List (Lf U)},(Nr xs=true\/∀(i:Nat) (t:Tr) (b:Nat),β[i]? =some t->b∈t.all->¬Z b)->∀x∈xs,Fz β Z x
 |[],_,x,hx=>by simp at hx
 |y::ys,h,x,hx=>by
  rcases bf.1 hx with rfl|hx
  ·exact Fz.of (h.imp (λh=>by simp only[Nr,aa] at h;exact h.1) id)
  ·exact bIj (h.imp (λh=>by simp only[Nr,aa] at h;exact h.2) id) x hx
def aJd:Sv U->List (Lf U)
 | .l x=>[x]
 | .a cs=>cs
 | .t _=>[]
def bIk {Z:Nat->Prop}{x:Sv U}(h:aLt x=true\/∀(i:Nat) (t:Tr) (b:Nat),β[i]? =some t->b∈t.all->¬Z b):∀c∈aJd x,Fz β Z c:=by
 cases x with
 |l x=>intro c hc;simp only[aJd,cj] at hc;subst hc;exact Fz.of h
 |a cs=>exact bIj h
 |t xs=>simp[aJd]
theorem bCr {Z:Nat->Prop}:∀{xs:List (Sv U)},(nQ xs=true\/∀(i:Nat) (t:Tr) (b:Nat),β[i]? =some t->b∈t.all->¬Z b)->∀x∈xs,∀c∈aJd x,Fz β Z c
 |[],_,x,hx=>by simp at hx
 |y::ys,h,x,hx=>by
  rcases bf.1 hx with rfl|hx
  ·exact bIk (h.imp (λh=>by simp only[nQ,aa] at h;exact h.1) id)
  ·exact bCr (h.imp (λh=>by simp only[nQ,aa] at h;exact h.2) id) x hx
def bEy {C:Cod U}(H:Hp C E s.m β w){Z:Nat->Prop}(j:∀b,Z b->E.X β b)(ks:List Kd):∀{xs ys:List (Lf U)} {vs:List Value},rds s.m ks xs=some ys->Ms C w (E.X β) β s.m vs xs->(∀x∈xs,Fz β Z x)->
  vs.length=ys.length/\∀(i:Nat) (v:Value) (y:Lf U),vs[i]? =some v->ys[i]? =some y->Rd w Z [] v y.toV:=by
 induction ks with
 |nil=>
  intro xs ys vs h d _;cases xs with
  |nil=>have e:ys=[]:=(aj h).symm;have:vs=[]:=cm d.1;simp[*]
  |cons x xs=>cases h
 |cons kd ks k=>
  intro xs ys vs h d l;cases xs with
  |nil=>cases h
  |cons x xs=>
   obtain⟨y,n,h1,h2,rfl⟩:=aXc h;cases vs with
   |nil=>have:=d.1;grind
   |cons v vs=>
    have k1:=(aR4 H (d.2 0 v x rfl rfl) h1 j (l x (by simp))).2;have k2:=k h2 ⟨by have:=d.1;simpa using this,λi u c p q=>d.2 (i+1) u c (by simpa using p) (by simpa using q)⟩ (by simp_all)
    grind
def R5 (r:bL Y.C E s a w β){kd:Kd}{x:Sv U}{v:Value}{z:kd.ty U}{Z:Nat->Prop}(hm:x.mean Y.C w (E.X β) β s.m v)(h:C9 Y s.m kd x=some z)(e:∀b,Z b->E.X β b)(j:∀c∈aJd x,Fz β Z c):
  Rd w Z [] v (zI (aB1 Y kd z)):=by
 have leaf:∀{y:Lf U},x= .l y->(∀T,kd≠ .st T)->(match rdn s.m kd y with|some q=>aLq kd q|none=>none)=some z->Rd w Z [] v (zI (aB1 Y kd z)):=λ{y} hx n h0=>by
  subst hx;cases hr:rdn s.m kd y with
  |none=>simp_all
  |some q=>
   rw[hr] at h0;have hq:=d9 (by assumption);have:=(aR4 r.hp hm hr e (j y (by simp[aJd]))).2;rw[hq] at this;cases kd with
   |st T=>simp_all
   |_=>exact this
 cases kd with
 |st T=>
  cases x with
  |a cs=>
   have d:(match rds s.m (Y.kd T) cs with|some ds=>Y.C.bld T ds|none=>none)=some z:=h;cases hr:rds s.m (Y.kd T) cs with
   |none=>simp_all
   |some ds=>
    rw[hr] at d;obtain⟨vs,rfl,o⟩:=hm;have hrd:=bEy r.hp e _ hr o j;rw[Y.C.hmk T ds z d] at hrd;simp only[aB1,zI];refine .agg (by grind) (λi u c p q=> ?_)
    grind
  |l y=>
   have d:(match rdn s.m (.st T) y with|some q=>aLq (.st T) q|none=>none)=some z:=h;cases hr:rdn s.m (.st T) y with
   |none=>simp_all
   |some q=>rw[hr] at d;cases q<;>cases d
  |t xs=>cases h
 |int k=>cases x with
  |l y=>exact leaf rfl (by simp) h
  |_=>cases h
 |bool=>cases x with
  |l y=>exact leaf rfl (by simp) h
  |_=>cases h
 |str=>cases x with
  |l y=>exact leaf rfl (by simp) h
  |_=>cases h
 |sl τ=>cases x with
  |l y=>exact leaf rfl (by simp) h
  |_=>cases h
def bEz (r:bL Y.C E s a w β){kd:Kd}{x:Sv U}{v:Value}{z:kd.ty U}{Z:Nat->Prop}(hm:x.mean Y.C w (E.X β) β s.m v)(h:C9 Y s.m kd x=some z)(c:∀b,Z b->E.X β b)(d:aLt x=true\/∀(i:Nat) (t:Tr) (b:Nat),β[i]? =some t->b∈t.all->¬Z b):
  Rd w Z [] v (zI (aB1 Y kd z)):=R5 r hm h c (bIk d)
theorem Tx (r:bL Y.C E s a w β){Z:Nat->Prop}(l:∀b,Z b->E.X β b)(ks:List Kd):∀{xs:List (Sv U)} {vs:List Value} {z:sD U ks},nW Y s.m ks xs=some z->vs.length=xs.length->(∀(i:Nat) (v:Value) (x:Sv U),vs[i]? =some v->xs[i]? =some x->x.mean Y.C w (E.X β) β s.m v)->
  (∀x∈xs,∀c∈aJd x,Fz β Z c)->RdL w Z vs ((dQ Y ks z).map zI):=by
 induction ks with
 |nil=>
  intro xs vs z h hl _ _;cases xs with
  |nil=>have:vs=[]:=cm hl;subst this;exact⟨rfl,by simp⟩
  |cons x xs=>cases h
 |cons k ks o=>
  intro xs vs z h hl hm d;cases xs with
  |nil=>cases ks<;>cases h
  |cons x xs=>
   cases vs with
   |nil=>simp at hl
   |cons v vs=>
    cases ks with
    |nil=>
     cases xs with
     |cons y ys=>cases h
     |nil=>
      have e:vs=[]:=(by grind);subst e;have k1:=R5 r (hm 0 v x rfl rfl) (by assumption) l (d x (by simp));refine⟨rfl,λi u W p q=> ?_⟩
      grind[dQ,k1]
    |cons j ks=>
     have n:(match C9 Y s.m k x with
      |some a=>match nW Y s.m (j::ks) xs with
       |some b=>some ((a,b):sD U (k::j::ks))
       |none=>none
      |none=>none)=some z:=h
     cases h1:C9 Y s.m k x with
     |none=>simp_all
     |some A=>
      cases h2:nW Y s.m (j::ks) xs with
      |none=>simp_all
      |some z2=>
       rw[h1,h2] at n;have e:=(aj n).symm;subst e;have k1:=R5 r (hm 0 v x rfl rfl) h1 l (d x (by simp));have k2:=o h2 (by simpa using hl) (λi v x p q=>hm (i+1) v x (by assumption) (by assumption)) (λy t=>d y (by simp[t]));refine⟨by simp[dQ,k2.1],λi u W p q=> ?_⟩;cases i with
       |zero=>grind[k1,dQ]
       |succ i=>exact k2.2 i u W (by assumption) (by assumption)
def Nw (r:bL Y.C E s a w β){Z:Nat->Prop}(c:∀b,Z b->E.X β b)(ks:List Kd):∀{xs:List (Sv U)} {vs:List Value} {z:sD U ks},nW Y s.m ks xs=some z->vs.length=xs.length->(∀(i:Nat) (v:Value) (x:Sv U),vs[i]? =some v->xs[i]? =some x->x.mean Y.C w (E.X β) β s.m v)->
  (nQ xs=true\/∀(i:Nat) (t:Tr) (b:Nat),β[i]? =some t->b∈t.all->¬Z b)->RdL w Z vs ((dQ Y ks z).map zI):=(by grind[Tx,bCr])
end
end Go.EV
namespace Go.EV
open Go.RowKit Go.VK
variable {U:Uni} {Y:Lay U} {TI:List (Nat×TInfo)} {P:Program} {g:GI} {E:Env U g}
section
variable {s:St U} {a:Act} {w w':World} {β:List Tr} {α:Type} {C:Cod U}
mutual
def Ow.aCT {X X':Nat->Prop}{d:Bool}(hd:d=true):∀{v:Value} {x:Lf U} {B:List Nat},Ow C w X d v x B->Ow C w X' d v x B
 |_,_,_, .int h1 h2=> .int h1 h2
 |_,_,_, .bool=> .bool
 |_,_,_, .str h=> .str h
 |_,_,_, .fz h0 _=>by rw[hd] at h0;cases h0
 |_,_,_, .su h0 .. =>by rw[hd] at h0;cases h0
 |_,_,_, .sl t hk hown hc=> .sl t hk hown (OwL.aCT hd hc)
def OwL.aCT {X X':Nat->Prop}{d:Bool}(hd:d=true):∀{vs:List Value} {xs:List (Lf U)} {B:List Nat},OwL C w X d vs xs B->OwL C w X' d vs xs B
 |_,_,_, .n=> .n
 |_,_,_, .c h hr=> .c (Ow.aCT hd h) (OwL.aCT hd hr)
end
def Jl {X Z:Nat->Prop}{m:Mm U}{v:Value}{c:Lf U}(hc:c.aBA=true)(h:Rd w Z [] v c.toV)(hX:(∀b,X b->Z b)\/∀τ l,c≠ .sl τ l):c.mean C w X β m v:=by
 cases c with
 |int k n=>exact h.aAR
 |bool b=>exact h.aAX
 |str b=>exact h.aAV
 |sl τ l=>
  rcases hX with hX|hX
  ·exact Rd.conv h (ak _) (λb _ hb=>hX b hb) (λ_ _ _ h=>h) (λ_ _ h=>h)
  grind
 |_=>cases hc
def bE0 (x:Bool×List (Lf U)):Prop:=(∀c∈x.2,c.aBA=true)/\(x.1=false->∃c,x.2=[c])
def aCe {X Z:Nat->Prop}{m:Mm U}{v:Value}{x:Bool×List (Lf U)}(hx:bE0 x)(h:Rd w Z [] v (zI x))(hX:(∀b,X b->Z b)\/∀c∈x.2,∀τ l,c≠ .sl τ l):Mp C w X β m v x:=by
 obtain⟨b,cs⟩:=x;cases b with
 |false=>obtain⟨c,rfl⟩:=hx.2 rfl;exact⟨c,rfl,Jl (hx.1 c (by simp)) h (hX.imp id λh=>h c (by simp))⟩
 |true=>obtain⟨vs,rfl,h2,d⟩:=Rd.aBB (by assumption);refine⟨vs.toList,by simp,by simpa using h2,λi u c p q=> ?_⟩;exact Jl (hx.1 c (aE q)) (d i u _ (by grind) (by simp[*])) (by grind)
theorem bCs {k:Kd}{x:k.ty U}:bE0 (aB1 Y k x):=by
 cases k with
 |st T=>exact⟨Y.C.hdat T x,λh=>by cases h⟩
 |_=>exact⟨λc hc=>by simp only[aB1,cj] at hc;subst hc;rfl,λ_=>⟨_,rfl⟩⟩
theorem Jm (ks:List Kd):∀(z:sD U ks),∀x∈dQ Y ks z,bE0 x:=by
 induction ks with
 |nil=>simp[dQ]
 |cons k ks c=>intro z x hx;cases ks<;>grind[dQ,List.mem_singleton,bCs]
theorem bIl (hY:LayOk Y){k:Kd}(h:flatK Y k=true){x:k.ty U}:∀c∈(aB1 Y k x).2,∀τ l,c≠ .sl τ l:=by
 cases k with
 |st T=>exact λc hc=>aR2 hY h hc
 |sl τ=>cases h
 |_=>simp[aB1,cj]
def aXd {k:Kd}{ks:List Kd}(h:Im Y (k::ks)=true):flatK Y k=true/\Im Y ks=true:=by
 grind[flatK,Im]
def aZ9 (hY:LayOk Y)(ks:List Kd):∀(z:sD U ks),Im Y ks=true->∀x∈dQ Y ks z,∀c∈x.2,∀τ l,c≠ .sl τ l:=by
 induction ks with
 |nil=>simp[dQ]
 |cons k ks d=>intro z h x hx;obtain⟨h1,h2⟩:=aXd h;cases ks<;>grind[dQ,List.mem_singleton,bIl]
theorem aXe {X Z:Nat->Prop}{m:Mm U}{v:Value}{cps:List (Bool×List (Lf U))}(hc:∀x∈cps,bE0 x)(h:Rd w Z [] v (oL (cps.map zI)))(hX:(∀b,X b->Z b)\/∀x∈cps,∀c∈x.2,∀τ l,c≠ .sl τ l):(xQ cps).mean C w X β m v:=by
 have many:(∀x,cps≠[x])->(Sv.t cps:Sv U).mean C w X β m v:=λhn=>by
  have e:oL (cps.map zI)= .tup (cps.map zI):=by
   match cps,hn with
   |[],_=>rfl
   |[x],hn=>exact absurd rfl (hn x)
   |_::_::_,_=>rfl
  rw[e] at h;obtain⟨vs,rfl,h2,d⟩:=h.aCI;refine⟨vs.toList,by simp,by simpa using h2,λi u x p q=> ?_⟩;have hm:=aE q;exact aCe (hc x hm) (d i u _ (by simpa using p) (by rw[bn,q];rfl)) (hX.imp id λh=>h x hm)
 match cps,many,hc,h,hX with
 |[],many,_,_,_=>exact many (by simp)
 |[x],_,hc,h,hX=>exact vD (aCe (hc x (by simp)) h (hX.imp id λh=>h x (by simp)))
 |_::_::_,many,_,_,_=>exact many (by simp)
def aKw (r:bL C E s a w β):∀(i:Nat) (t:Tr) (b:Nat),β[i]? =some t->b∈t.all->¬E.X0 b:=λi t b ht hb hx=>by
 rcases(r.hp.new i t b ht hb).1 with h|h
 ·rcases E.h0 b hx with c|⟨x,c,rfl⟩
  ·omega
  ·exact(r.hp.prm x c).2.2.2 i t ht hb
 ·exact E.hXY b hx h
theorem Jn {c:Array Operand}:∀(i:Nat) (v:Value) (x:Sv U),(c.toList.map a.eval)[i]? =some v->(c.toList.map (fU s))[i]? =some x->∃y,v=a.eval y/\x=fU s y:=(by grind)
def Ai {f:FuncId}{c:Array Operand}{ats:Array TypeId}{o:Oper}(ho:o.op= .call {callee:= .value (.func f),args:=c,argTypes:=ats})(h:∀args w,(callFunc f args).run P w= .ok (.enter f args) w):(execOp a.eval o).run P w= .ok (.enter f (c.toList.map a.eval).toArray) w:=
 aRq (xs:=c.toList) (by rw[ho]) h
def Pp (hY:LayOk Y)(r:bL Y.C E s a w β){o:Oper}{f:FuncId}{d:Array Operand}{ats:Array TypeId}{S:Sum U}{z:sD U S.ar}{q:sD U S.rs}(ho:o.op= .call {callee:= .value (.func f),args:=d,argTypes:=ats})
  (n:Er P g Y f S) (A:nW Y s.m S.ar (d.toList.map (fU s))=some z) (hmk:S.wt=false) (j:S.fr=false) (c:Im Y S.rs=true\/nQ (d.toList.map (fU s))=true) (hq:S.m z=some q):
  SO P Y.C E a w o (xQ (dQ Y S.rs q)) s true:=λK Q hK=>by
 have hsp:=(n z q hq).1 hmk j;have hm:∀(i:Nat) (v:Value) (x:Sv U),(d.toList.map a.eval)[i]? =some v->(d.toList.map (fU s))[i]? =some x->x.mean Y.C w (E.X β) β s.m v:=λi v x p q=>by
  obtain⟨y,rfl,rfl⟩:=Jn i v x p q;exact Af r
 have go:∀(Z:Nat->Prop),(∀b,Z b->E.X β b)->(nQ (d.toList.map (fU s))=true\/∀(i:Nat) (t:Tr) (b:Nat),β[i]? =some t->b∈t.all->¬Z b)->((∀b,E.X β b->Z b)\/Im Y S.rs=true)->o.wp P a w K Q:=λZ k B hX=>by
  have hrd:=Nw r k _ A (by simp) hm B;refine wpc (Ai ho hsp.1) (R':=λv w'=>Rd w' Z [] v (oL ((dQ Y S.rs q).map zI))/\Ext w w') ((hsp.2 w Z _ r.hp.gw (λb hb=>r.hp.aCE b (k b hb)) hrd).mono ?_) ?_
  ·rintro e w' ⟨v,r',F,rfl,G,H⟩;exact⟨v,F,G,H⟩
  ·rintro v w' ⟨I,l⟩;exact hK v w' β (r.ext l) (λ_=>aXe (Jm _ q) I (hX.imp id λh=>aZ9 hY _ q h)) (λ_=>l)
 rcases c with c|c
 ·exact go E.X0 (λb hb=> .inl hb) (.inr (aKw r)) (.inr c)
 ·exact go (E.X β) (λ_ h=>h) (.inl c) (.inl λ_ h=>h)
def aR5 {Z X:Nat->Prop}{m:Mm U}{i:Nat}{e:EO U}{t:Tr}(he:m.o[i]? =some e)(ht:β[i]? =some t)(hk:e.cv<=m.k)(r:∀b,X b/\b∉t.all->Z b){vs:List Value}:
  ∀{cs:List (Lf U)},(∀c∈cs,c.aBA=true)->vs.length=cs.length->(∀(j:Nat) (v:Value) (c:Lf U),vs[j]? =some v->cs[j]? =some c->Rd w Z [] v c.toV)->Ms C w X β m vs (aP4 i e.cv cs):=by
 induction vs with
 |nil=>
  intro cs _ hl _;cases cs with
  |nil=>exact⟨rfl,λj v c h=>by simp at h⟩
  |cons c cs=>simp at hl
 |cons v vs d=>
  intro cs hd hl h;cases cs with
  |nil=>simp at hl
  |cons c cs=>
   have d:=d (cs:=cs) (λx hx=>hd x (by simp[hx])) (by simpa using hl) (λj v c p q=>h (j+1) v c (by simpa using p) (by simpa using q));have h0:=h 0 v c rfl rfl;have hc:∃n,aP4 i e.cv (c::cs)=n::aP4 i e.cv cs/\n.mean C w X β m v:=by
    by_cases hs:∃τ l,c= .sl τ l
    ·obtain⟨τ,l,rfl⟩:=hs;exact⟨.bor i e.cv τ l,rfl,⟨hk,h0.one rfl⟩,e,t,he,ht,λ_=>h0.conv (ak _) (λb _ hb=>r b hb) (λ_ _ _ hc=>hc) (λ_ _ h=>h)⟩
    ·refine⟨c,?_,Jl (hd c (by simp)) h0 (.inr λτ l e=>hs ⟨τ,l,e⟩)⟩;cases c<;>first|rfl|exact absurd ⟨_,_,rfl⟩ hs
   obtain⟨n,y,z⟩:=hc;rw[y];exact⟨by simp[d.1],λj u x p q=>by
    cases j with
    |zero=>simp at p q;subst p;subst q;exact z
    |succ j=>exact d.2 j u x (by simpa using p) (by simpa using q)⟩
def aR6 {i c:Nat}:∀{cps:List (Bool×List (Lf U))} {j:Nat},(Pn i c cps)[j]? =(cps[j]?).map λx=>(x.1,aP4 i c x.2)
 |[],j=>by simp[Pn]
 |(b,cs)::xs,0=>by simp[Pn]
 |(b,cs)::xs,j+1=>by simp[Pn,aR6 (cps:=xs)]
def aR7 {i c:Nat}:∀{cps:List (Bool×List (Lf U))},(Pn i c cps).length=cps.length
 |[]=>rfl
 |(b,cs)::xs=>by simp[Pn,aR7 (cps:=xs)]
def bIm {i c:Nat}(x:Lf U):∃y,aP4 i c [x]=[y]:=by cases x<;>exact⟨_,rfl⟩
def bMg {X Z:Nat->Prop}{m:Mm U}{i:Nat}{e:EO U}{t:Tr}{v:Value}{cps:List (Bool×List (Lf U))}(he:m.o[i]? =some e)(ht:β[i]? =some t)(hk:e.cv<=m.k)(A:∀b,X b/\b∉t.all->Z b)(hc:∀x∈cps,bE0 x)(h:Rd w Z [] v (oL (cps.map zI))):
  (xQ (Pn i e.cv cps)).mean C w X β m v:=by
 have one:∀{x:Bool×List (Lf U)} {v:Value},bE0 x->Rd w Z [] v (zI x)->Mp C w X β m v (x.1,aP4 i e.cv x.2):=λ{x v} hx h=>by
  obtain⟨b,cs⟩:=x;cases b with
  |false=>
   obtain⟨c,rfl⟩:=hx.2 rfl;have:=aR5 (C:=C) (vs:=[v]) he ht hk A (cs:=[c]) (λx l=>hx.1 x l) rfl (λj v' n p q=>by
    cases j with
    |zero=>simp at p q;subst p;subst q;exact h
    |succ j=>simp at p)
   obtain⟨y,d⟩:=bIm (i:=i) (c:=e.cv) c;show ∃n,aP4 i e.cv [c]=[n]/\n.mean C w X β m v;rw[d] at this ⊢;exact⟨y,rfl,this.2 0 v y rfl rfl⟩
  |true=>obtain⟨vs,rfl,h2,z⟩:=Rd.aBB (show Rd w Z [] v (.agg (cs.map Lf.toV)) from h);exact⟨vs.toList,by simp,aR5 (C:=C) he ht hk A (λc hc=>hx.1 c hc) (by simpa using h2) (λj u c p q=>z j u _ (by simpa using p) (by rw[bn,q];rfl))⟩
 have many:(∀x,cps≠[x])->(Sv.t (Pn i e.cv cps):Sv U).mean C w X β m v:=λhn=>by
  have e0:oL (cps.map zI)= .tup (cps.map zI):=by
   match cps,hn with
   |[],_=>rfl
   |[x],hn=>exact absurd rfl (hn x)
   |_::_::_,_=>rfl
  rw[e0] at h;obtain⟨vs,rfl,h2,z⟩:=h.aCI;refine⟨vs.toList,by simp,by rw[aR7];simpa using h2,λj u x p q=> ?_⟩;rw[aR6] at q;obtain⟨y,d,rfl⟩:=eE.1 q;exact one (hc y (aE d)) (z j u _ (by simpa using p) (by rw[bn,d];rfl))
 match cps,many,hc,h with
 |[],many,_,_=>exact many (by simp)
 |[(b,cs)],_,hc,h=>exact vD (one (hc (b,cs) (by simp)) h)
 |(b,cs)::(b',cs')::r,many,_,_=>exact many (by simp)
def bCt {i:Nat}{t:Tr}{Z:Nat->Prop}(ht:β[i]? =some t)(e:∀b∈t.all,¬Z b):∀{xs:List (Lf U)},aLu i xs=true->∀c∈xs,Fz β Z c
 |[],_,c,hc=>by simp at hc
 |x::xs,h,c,hc=>by
  have key:(pX x=true\/∃r,x= .own i r)/\aLu i xs=true:=by
   cases x with
   |own j r=>simp only[aLu,aa] at h;have:=ah h.1;subst this;exact⟨.inr ⟨r,rfl⟩,h.2⟩
   |_=>simp only[aLu,aa] at h;exact⟨.inl h.1,h.2⟩
  rcases bf.1 hc with rfl|hc
  ·rcases key.1 with h1|⟨r,rfl⟩
   ·exact Fz.of (.inl h1)
   ·intro j u b ho d hb;have:i=j:=aj ho;subst this;rw[ht] at d;injection d with d;subst d;exact e b hb
  ·exact bCt ht e key.2 c hc
def bQr (x:Sv U):lsV x=aJd x:=by cases x<;>rfl
def aXf {i:Nat}{t:Tr}{Z:Nat->Prop}(ht:β[i]? =some t)(d:∀b∈t.all,¬Z b):∀{xs:List (Sv U)},aWp i xs=true->∀x∈xs,∀c∈aJd x,Fz β Z c
 |[],_,x,hx=>by simp at hx
 |y::ys,h,x,hx=>by
  simp only[aWp,aa] at h;rcases bf.1 hx with rfl|hx
  ·rw[<-bQr];exact bCt ht d h.1
  ·exact aXf ht d h.2 x hx
def aQa (r:bL Y.C E s a w β){o:Oper}{f:FuncId}{j:Array Operand}{ats:Array TypeId}{S:Sum U}{z:sD U S.ar}{q:sD U S.rs}(ho:o.op= .call {callee:= .value (.func f),args:=j,argTypes:=ats})
  (A:Er P g Y f S) (B:nW Y s.m S.ar (j.toList.map (fU s))=some z) (hmk:S.wt=false) (l:S.fr=false) {i c:Nat} (hi:aWq s.m (j.toList.map (fU s))=some (i,c)) (hq:S.m z=some q):
  SO P Y.C E a w o (xQ (Pn i c (dQ Y S.rs q))) s true:=λK Q hK=>by
 have hsp:=(A z q hq).1 hmk l;have hm:∀(i:Nat) (v:Value) (x:Sv U),(j.toList.map a.eval)[i]? =some v->(j.toList.map (fU s))[i]? =some x->x.mean Y.C w (E.X β) β s.m v:=λi v x p q=>by
  obtain⟨y,rfl,rfl⟩:=Jn i v x p q;exact Af r
 unfold aWq at hi;split at hi
 ·rename_i k J;cases d:aWp k (j.toList.map (fU s)) with
  |false=>rw[d] at hi;cases hi
  |true=>
   rw[d] at hi;simp only[ac] at hi;cases hn:nth s.m.o k with
   |none=>rw[hn] at hi;cases hi
   |some e=>
    rw[hn] at hi;injection hi with hi;injection hi with h1 h2;subst h1;subst h2;have he:s.m.o[k]? =some e:=by rw[<-aZ];exact hn
    obtain⟨t,ht⟩:∃t,β[k]? =some t:=by have:=lt_of_some he;rw[<-r.hp.len] at this;exact⟨_,ab this⟩
    have hk:=(r.hp.vers k e he).2;have hrd:=Tx r (Z:=λb=>E.X β b/\b∉t.all) (λb hb=>hb.1) S.ar B (by simp) hm (aXf ht (λb hb h=>h.2 hb) d);refine wpc (Ai ho hsp.1) (R':=λv w'=>Rd w' (λb=>E.X β b/\b∉t.all) [] v (oL ((dQ Y S.rs q).map zI))/\Ext w w') ((hsp.2 w _ _ r.hp.gw (λb hb=>r.hp.aCE b hb.1) hrd).mono ?_) ?_
    ·rintro e' w' ⟨v,r',F,rfl,G,H⟩;exact⟨v,F,G,H⟩
    ·rintro v w' ⟨I,n⟩;exact hK v w' β (r.ext n) (λ_=>bMg he ht hk (λb hb=>hb) (Jm _ q) I) (λ_=>n)
 ·cases hi
def aFp {k:Nat}:∀{vs:List Value} {cs:List (Lf U)} {B:List Nat} (n:Nat),OwL C w (λ_=>False) true vs cs B->
  ∃z:List Tr,z.length=(tV k n cs).2.length/\(z.map Tr.all).flatten=B/\(∀(j:Nat) (e:EO U) (t:Tr),(tV k n cs).2[j]? =some e->z[j]? =some t->e.rv=k/\e.cv=k/\∃τ l xs,e.ob= .tree τ true l/\0<U.K τ/\w.ownsRow 0 τ (U.K τ) t.val l.length xs/\OwL C w (λ_=>False) true xs (l.map (C.cel τ)).flatten t.bs)/\
   ∀(X:Nat->Prop) (β':List Tr) (m':Mm U),k<=m'.k->(∀(j:Nat) (e:EO U) (t:Tr),(tV k n cs).2[j]? =some e->z[j]? =some t->m'.o[n+j]? =some e/\β'[n+j]? =some t)->Ms C w X β' m' vs (tV k n cs).1
 |_,_,_,n, .n=>⟨[],rfl,rfl,by simp[tV],λ_ _ _ _ _=>⟨rfl,by simp⟩⟩
 |_,_,_,n, .c (v:=v) (x:=x) (vs:=vs) (xs:=xs) h hr=>by
  have flat:∀{y:Lf U} {B:List Nat},Ow C w (λ_=>False) true v y B->(∀τ l,y≠ .sl τ l)->B=[]/\∀(X:Nat->Prop) (β':List Tr) (m':Mm U),y.mean C w X β' m' v:=λ{y B} h hn=>by
   cases h with
   |int h1 h2=>exact⟨rfl,λ_ _ _=>⟨rfl,h1,h2⟩⟩
   |bool=>exact⟨rfl,λ_ _ _=>rfl⟩
   |str G=>exact⟨rfl,λ_ _ _=>⟨rfl,G⟩⟩
   |fz=>exact absurd rfl (hn _ _)
   |su=>exact absurd rfl (hn _ _)
   |sl=>exact absurd rfl (hn _ _)
  by_cases hs:∃τ l,x= .sl τ l
  ·obtain⟨τ,l,rfl⟩:=hs;cases h with
   |fz h0=>cases h0
   |su h0=>cases h0
   |sl t hk hown hc=>
    obtain⟨z,k1,k2,k3,k4⟩:=aFp (k:=k) (Nat.succ n) hr;refine⟨t::z,by simp[tV,k1],by simp[k2],λj e t' p q=> ?_,λX β' m' r hm=> ?_⟩
    ·cases j with
     |zero=>simp only[tV,gz,ai] at p q;subst p;subst q;exact⟨rfl,rfl,τ,l,_,rfl,hk,hown,hc⟩
     |succ j=>exact k3 j e t' (by simpa[tV] using p) (by simpa using q)
    ·have h0:=hm 0 ⟨.tree τ true l,k,k⟩ t (by simp[tV]) rfl;have d:=k4 X β' m' r (λj e t' p q=>by
      have:=hm (j+1) e t' (by simpa[tV] using p) (by simpa using q);rw[show n+(j+1)=Nat.succ n+j by omega] at this;exact this)
     have A:(tV k n (.sl τ l::xs)).1= .own n k::(tV k (Nat.succ n) xs).1:=rfl;rw[A];refine⟨by simp[d.1],λi u c p q=> ?_⟩;cases i with
     |zero=>simp at p q;subst p;subst q;exact⟨⟨r,rfl⟩,_,t,h0.1,h0.2,λ_=>rfl⟩
     |succ i=>exact d.2 i u c (by simpa using p) (by simpa using q)
  ·have hn:∀τ l,x≠ .sl τ l:=λτ l e=>hs ⟨τ,l,e⟩;obtain⟨rfl,F⟩:=flat h hn;obtain⟨z,k1,k2,k3,k4⟩:=aFp (k:=k) n hr;have A:tV k n (x::xs)=(x::(tV k n xs).1,(tV k n xs).2):=by cases x<;>first|rfl|exact absurd rfl (hn _ _)
   rw[A];refine⟨z,k1,by simpa using k2,k3,λX β' m' r hm=> ?_⟩;have d:=k4 X β' m' r hm;refine⟨by simp[d.1],λi u c p q=> ?_⟩;cases i with
   |zero=>simp at p q;subst p;subst q;exact F X β' m'
   |succ i=>exact d.2 i u c (by simpa using p) (by simpa using q)
def R6 {k:Nat}:∀{vs:List Value} {cps:List (Bool×List (Lf U))} {B:List Nat} (n:Nat),OwPs C w vs cps B->
  ∃y:List Tr,y.length=(kW k n cps).2.length/\(y.map Tr.all).flatten=B/\(∀(j:Nat) (e:EO U) (t:Tr),(kW k n cps).2[j]? =some e->y[j]? =some t->e.rv=k/\e.cv=k/\∃τ l xs,e.ob= .tree τ true l/\0<U.K τ/\w.ownsRow 0 τ (U.K τ) t.val l.length xs/\OwL C w (λ_=>False) true xs (l.map (C.cel τ)).flatten t.bs)/\
   ∀(X:Nat->Prop) (β':List Tr) (m':Mm U),k<=m'.k->(∀(j:Nat) (e:EO U) (t:Tr),(kW k n cps).2[j]? =some e->y[j]? =some t->m'.o[n+j]? =some e/\β'[n+j]? =some t)->
    vs.length=(kW k n cps).1.length/\∀(i:Nat) (v:Value) (x:Bool×List (Lf U)),vs[i]? =some v->(kW k n cps).1[i]? =some x->Mp C w X β' m' v x
 |_,_,_,n, .n=>⟨[],rfl,rfl,by simp[kW],λ_ _ _ _ _=>⟨rfl,by simp⟩⟩
 |_,_,_,n, .c (v:=v) (x:=x) (B:=L) (vs:=vs) (xs:=xs) h hr=>by
  obtain⟨b,cs⟩:=x;have h1:∃d:List Value,OwL C w (λ_=>False) true d cs L/\∀(X:Nat->Prop) (β':List Tr) (m':Mm U) (cs':List (Lf U)),Ms C w X β' m' d cs'->cs'.length=cs.length->Mp C w X β' m' v (b,cs'):=by
   cases b with
   |true=>obtain⟨d,rfl,z⟩:=h;exact⟨d,z,λ_ _ _ cs' A _=>⟨d,rfl,A⟩⟩
   |false=>
    obtain⟨c,rfl,hc⟩:=h;refine⟨[v],by simpa using OwL.c hc .n,λX β' m' cs' A hl=> ?_⟩
    match cs',hl with
    |[H],_=>exact⟨H,rfl,A.2 0 v H rfl rfl⟩
  obtain⟨d,z,F⟩:=h1;obtain⟨O,G,S,T,V⟩:=aFp (k:=k) n z;obtain⟨t2,b1,W,Z,b4⟩:=R6 (k:=k) (n+(tV k n cs).2.length) hr;have e1:kW k n ((b,cs)::xs)=((b,(tV k n cs).1)::(kW k (n+(tV k n cs).2.length) xs).1,(tV k n cs).2++(kW k (n+(tV k n cs).2.length) xs).2):=by simp only[kW,dK]
  rw[e1];refine⟨O++t2,by simp[G,b1],by simp[S,W],λj e t p q=> ?_,λX β' m' r hm=> ?_⟩
  ·by_cases hj:j<(tV k n cs).2.length
   ·rw[ao hj] at p;rw[ao (by omega)] at q;exact T j e t p q
   ·rw[az (by omega)] at p;rw[az (by omega),G] at q;exact Z _ e t p q
  ·have I:=V X β' m' r (λj e t p q=>by
    have hj:=lt_of_some p;exact hm j e t (by rw[ao hj];exact p) (by rw[ao (by omega)];exact q))
   have J:=b4 X β' m' r (λj e t p q=>by
    have:=hm ((tV k n cs).2.length+j) e t (by rw[az (by omega)];simpa using p) (by rw[az (by omega),G];simpa using q);rw[show n+((tV k n cs).2.length+j)=n+(tV k n cs).2.length+j by omega] at this;exact this)
   refine⟨by simp[J.1],λi u x p q=> ?_⟩;cases i with
   |zero=>simp at p q;subst p;subst q;exact F X β' m' _ I (by rw[<-I.1,z.len])
   |succ i=>exact J.2 i u x (by simpa using p) (by simpa using q)
def aUt {v:Value}{cps:List (Bool×List (Lf U))}{B:List Nat}{k n:Nat}(h:OwR C w v cps B):
  ∃d:List Tr,d.length=(kW k n cps).2.length/\(d.map Tr.all).flatten=B/\(∀(j:Nat) (e:EO U) (t:Tr),(kW k n cps).2[j]? =some e->d[j]? =some t->e.rv=k/\e.cv=k/\∃τ l xs,e.ob= .tree τ true l/\0<U.K τ/\w.ownsRow 0 τ (U.K τ) t.val l.length xs/\OwL C w (λ_=>False) true xs (l.map (C.cel τ)).flatten t.bs)/\
   ∀(X:Nat->Prop) (β':List Tr) (m':Mm U),k<=m'.k->(∀(j:Nat) (e:EO U) (t:Tr),(kW k n cps).2[j]? =some e->d[j]? =some t->m'.o[n+j]? =some e/\β'[n+j]? =some t)->(xQ (kW k n cps).1).mean C w X β' m' v:=by
 have many:(∀x,cps≠[x])->(∃vs:List Value,v= .tuple vs.toArray/\OwPs C w vs cps B)->∃d:List Tr,d.length=(kW k n cps).2.length/\(d.map Tr.all).flatten=B/\(∀(j:Nat) (e:EO U) (t:Tr),(kW k n cps).2[j]? =some e->d[j]? =some t->e.rv=k/\e.cv=k/\∃τ l xs,e.ob= .tree τ true l/\0<U.K τ/\w.ownsRow 0 τ (U.K τ) t.val l.length xs/\OwL C w (λ_=>False) true xs (l.map (C.cel τ)).flatten t.bs)/\
   ∀(X:Nat->Prop) (β':List Tr) (m':Mm U),k<=m'.k->(∀(j:Nat) (e:EO U) (t:Tr),(kW k n cps).2[j]? =some e->d[j]? =some t->m'.o[n+j]? =some e/\β'[n+j]? =some t)->(xQ (kW k n cps).1).mean C w X β' m' v:=λhn ⟨vs,hv,ho⟩=>by
  obtain⟨d,p,q,r,y⟩:=R6 (k:=k) n ho;refine⟨d,p,q,r,λX β' m' hk hm=> ?_⟩;obtain⟨z,i⟩:=y X β' m' hk hm;have hl:vs.length=cps.length:=by
   have:∀{vs:List Value} {cps:List (Bool×List (Lf U))} {B:List Nat},OwPs C w vs cps B->vs.length=cps.length:=by
    intro vs cps B h;induction h with
    |n=>rfl
    |c _ _ A=>simp[A]
   exact this ho
  have e:xQ (kW k n cps).1= .t (kW k n cps).1:=by
   have hlen:(kW k n cps).1.length≠1:=by
    rw[<-z,hl];intro h1
    match cps,hn,h1 with
    |[x],hn,_=>exact hn x rfl
   generalize(kW k n cps).1=ys at hlen
   match ys,hlen with
   |[],_=>rfl
   |[_],h=>exact absurd rfl h
   |_::_::_,_=>rfl
  rw[e];exact⟨vs,hv,z,i⟩
 match cps,many,h with
 |[],many,h=>exact many (by simp) h
 |[x],_,h=>
  have h1:OwPs C w [v] [x] B:=by simpa using OwPs.c (h:OwP C w v B x) .n
  obtain⟨d,p,q,r,y⟩:=R6 (k:=k) n h1;refine⟨d,p,q,r,λX β' m' hk hm=> ?_⟩;obtain⟨z,i⟩:=y X β' m' hk hm;obtain⟨b,cs⟩:=x;have F:(kW k n [(b,cs)]).1=[(b,(tV k n cs).1)]:=rfl;rw[F] at i ⊢;exact vD (i 0 v _ rfl rfl)
 |_::_::_,many,h=>exact many (by simp) h
def aJe (r:bL Y.C E s a w β){o:Oper}{f:FuncId}{F:Array Operand}{ats:Array TypeId}{S:Sum U}{z:sD U S.ar}{q:sD U S.rs}(ho:o.op= .call {callee:= .value (.func f),args:=F,argTypes:=ats})
  (hS:Er P g Y f S) (hz:nW Y s.m S.ar (F.toList.map (fU s))=some z) (hmk:S.wt=false) (H:S.fr=true) (hq:S.m z=some q):
  SO P Y.C E a w o (xQ (kW s.m.k (len s.m.o) (dQ Y S.rs q)).1) ⟨s.t,⟨s.m.o++(kW s.m.k (len s.m.o) (dQ Y S.rs q)).2,s.m.k,s.m.ns⟩,s.fr⟩ true:=λK Q hK=>by
 have hsp:=(hS z q hq).2.1 hmk H;have hm:∀(i:Nat) (v:Value) (x:Sv U),(F.toList.map a.eval)[i]? =some v->(F.toList.map (fU s))[i]? =some x->x.mean Y.C w (E.X β) β s.m v:=λi v x p q=>by
  obtain⟨y,rfl,rfl⟩:=Jn i v x p q;exact Af r
 have hrd:=Nw r (Z:=E.X0) (λb hb=> .inl hb) S.ar hz (by simp) hm (.inr (aKw r));refine wpc (Ai ho hsp.1) (R':=λv w'=>∃B,Ext w w'/\B.Nodup/\(∀b∈B,w.heap.size<=b)/\OwR Y.C w' v (dQ Y S.rs q) B) ((hsp.2 w E.X0 _ r.hp.gw (λb hb=>r.hp.aCE b (.inl hb)) hrd).mono ?_) ?_
 ·rintro e w' ⟨v,B,e1,e2⟩;exact⟨v,e1,B,e2⟩
 ·rintro v w' ⟨B,he,I,d,hR⟩;obtain⟨h,a1,V,G,W⟩:=aUt (k:=s.m.k) (n:=len s.m.o) hR;generalize hes:(kW s.m.k (len s.m.o) (dQ Y S.rs q)).2=es at a1 G W hK;have J:(es.zip h).map (·.1)=es:=List.map_fst_zip (by omega);have A:(es.zip h).map (·.2)=h:=List.map_snd_zip (by omega);have c:∀x∈es.zip h,∃j,es[j]? =some x.1/\h[j]? =some x.2:=λx hx=>by
   obtain⟨j,hj⟩:=cV.1 hx;rw[List.getElem?_zip_eq_some] at hj;exact⟨j,hj⟩
  have hB:∀x∈es.zip h,∀b∈x.2.all,b∈B:=λx hx b hb=>by
   obtain⟨j,_,hj⟩:=c x hx;rw[<-V];exact jh.2 ⟨_,cr.2 ⟨_,aE hj,rfl⟩,hb⟩
  have r1:=r.add he (es.zip h) (λx hx=>by
    obtain⟨j,h1,h2⟩:=c x hx;have:=G j x.1 x.2 h1 h2;rw[this.1,this.2.1];exact⟨ak _,ak _⟩)
   (λx hx b hb=>by
    obtain⟨j,h1,h2⟩:=c x hx;refine⟨d b (hB x hx b hb),?_⟩;obtain⟨_,_,τ,l,xs,_,L,O,T⟩:=G j x.1 x.2 h1 h2;have ho:Ow Y.C w' (λ_=>False) true x.2.val (.sl τ l) x.2.all:= .sl x.2 L O T;exact ho.lt b hb)
   (by
    have e:((es.zip h).map λx=>x.2.all)=h.map Tr.all:=by have:=congrArg (List.map Tr.all) A;rw[gC] at this;exact this
    rw[e,V];exact I)
   (λhev x hx=>by
    obtain⟨j,h1,h2⟩:=c x hx;obtain⟨_,_,τ,l,xs,c1,L,O,T⟩:=G j x.1 x.2 h1 h2;rw[c1];exact⟨L,xs,O,T.aCT rfl⟩)
  rw[J,A] at r1;refine hK v w' _ r1 (λ_=>W _ _ _ (ak _) (λj e t p q=> ?_)) (λ_=>he);rw[dK];refine⟨by rw[az (cY _ _),cH];exact p,?_⟩;rw[<-r.hp.len,az (cY _ _),cH];exact q
end
end Go.EV
namespace Go.EV
open Go.RowKit Go.VK
variable {U:Uni} {Y:Lay U} {P:Program} {g:GI} {C:Cod U}
def OwP.rd {w:World}{Z:Nat->Prop}{v:Value}{B:List Nat}:∀{x:Bool×List (Lf U)},OwP C w v B x->(∀b∈B,¬Z b)->Rd w Z [] v (zI x)
 |(true,cs),h,d=>by
  obtain⟨vs,rfl,ho⟩:=h;obtain⟨h1,h2⟩:=(OwL.aCT (X':=Z) rfl ho).rd (Z:=Z) (λ_ h=>h) d;refine .agg (by simpa using h1) λi v c j e=> ?_;rw[bn] at e;obtain⟨x,k,rfl⟩:=eE.1 e;exact h2 i v x (by simpa using j) k
 |(false,cs),h,d=>by
  obtain⟨c,rfl,ho⟩:=h;exact(Ow.aCT (X':=Z) rfl ho).rd (λ_ h=>h) d
def OwPs.rd {w:World}{Z:Nat->Prop}:∀{vs:List Value} {xs:List (Bool×List (Lf U))} {B:List Nat},OwPs C w vs xs B->(∀b∈B,¬Z b)->vs.length=(xs.map zI).length/\∀(i:Nat) (v:Value) (c:V),vs[i]? =some v->(xs.map zI)[i]? =some c->Rd w Z [] v c
 |_,_,_, .n,_=>⟨rfl,λi v c h=>by simp at h⟩
 |_,_,_, .c h hr,j=>by
  obtain⟨h1,h2⟩:=hr.rd (Z:=Z) λb hb=>j b (bp.2 (.inr hb));refine⟨by simp only[aw,bw,h1],λi v c d e=> ?_⟩;cases i with
  |zero=>simp only[gz,bw,ai] at d e;subst d;subst e;exact h.rd λb hb=>j b (bp.2 (.inl hb))
  |succ i=>exact h2 i v c (by simpa using d) (by simpa using e)
def OwR.rd {w:World}{Z:Nat->Prop}{v:Value}{B:List Nat}{cps:List (Bool×List (Lf U))}(h:OwR C w v cps B)(j:∀b∈B,¬Z b):Rd w Z [] v (oL (cps.map zI)):=by
 unfold OwR at h;split at h
 ·exact h.rd j
 ·rename_i d;obtain⟨vs,rfl,ho⟩:=h;obtain⟨h1,h2⟩:=ho.rd j;have e:oL (cps.map zI)= .tup (cps.map zI):=by
   match cps,d with
   |[],_=>rfl
   |[x],d=>exact absurd rfl (d x)
   |x::y::r,_=>rfl
  rw[e];exact .tup (by simpa using h1) λi v c k l=>h2 i v c (by simpa using k) l
def Sum.pl (S:Sum U):Sum U:=⟨S.ar,S.rs,false,S.wt,S.m⟩
def bIn {f:FuncId}{S:Sum U}(h:Er P g Y f S)(d:S.wt=false)(i:S.fr=true):Er P g Y f S.pl:=λa r hr=>by
 obtain⟨_,h2,_⟩:=h a r hr;obtain⟨k1,k2⟩:=h2 d i;refine⟨λ_ _=>⟨k1,λw X vs j hX hrd=>(k2 w X vs j hX hrd).mono λe w' hq=> ?_⟩,λ_ h=>(by cases h),λc=>(by
  have c:S.wt=true:=c;rw[d] at c;cases c),λc=>(by
  have c:S.wt=true:=c;rw[d] at c;cases c)⟩
 obtain⟨v,B,k,l,p,n,o⟩:=hq;exact⟨v,_,k,rfl,o.rd λb hb hx=>by have:=n b hb;have:=hX b hx;omega,l⟩
end Go.EV
namespace Go.EV
open Go.RowKit Go.VK
variable {U:Uni} {Y:Lay U} {TI:List (Nat×TInfo)} {FZ:List (Nat×Sum U)} {P:Program} {g:GI} {E:Env U g}
section
variable {s:St U} {a:Act} {w:World} {β:List Tr} {α:Type} {C:Cod U}
def R7:∀{ks:List Kd},aLw (U:=U) ks=true->∀kd∈ks,∀τ,kd= .sl τ->0<U.K τ
 |[],_,kd,h,_,_=>by simp at h
 |k::ks,h,kd,hk,τ,e=>by
  cases k with
  |sl τ'=>
   simp only[aLw,aa] at h;rcases bf.1 hk with rfl|hk
   ·injection e with e;subst e;exact bc h.1
   ·exact R7 h.2 kd hk τ e
  |_=>
   rcases bf.1 hk with rfl|hk
   ·cases e
   ·exact R7 (ks:=ks) h kd hk τ e
def bU7 (C:Cod U)(w:World)(t:Tr)(τ:Nat)(L:List (U.El τ)):Prop:=0<U.K τ/\∃xs,w.ownsRow 0 τ (U.K τ) t.val L.length xs/\OwL C w (λ_=>False) true xs (L.map (C.cel τ)).flatten t.bs
structure Hd (C:Cod U) (m:Mm U) (w:World) (β:List Tr) (v:Value) (y':Lf U) (i:Nat) (e:EO U) (t:Tr) (B:List Nat):Prop where
 ht:β[i]? =some t
 he:∃e0 τ L,m.o[i]? =some e0/\e0.ob.aAY=false/\e=⟨.tree τ true L,e0.rv,Nat.succ m.k⟩
 sub:∀b∈B,b∈t.all
 back:∀w' B',w.heap.size<=w'.heap.size->Ow C w' (λ_=>False) true v y' B'->(∀b∈t.all,b∉B->w'.heap[b]? =w.heap[b]?)->
  ∃t' τ L,t'.val=t.val/\(∀b∈t'.all,b∈B'\/(b∈t.all/\b∉B))/\(B'.Nodup->(∀b∈B',b∈t.all->b∈B)->t'.all.Nodup)/\e.ob= .tree τ true L/\bU7 C w' t' τ L
structure Wo (U:Uni) where
 i:Nat
 e:EO U
 t:Tr
 B:List Nat
 v:Value
 y:Lf U
end
end Go.EV
namespace Go.EV
open Go.RowKit Go.VK
variable {U:Uni} {Y:Lay U} {TI:List (Nat×TInfo)} {FZ:List (Nat×Sum U)} {P:Program} {g:GI} {E:Env U g}
structure Good (P:Program) (g:GI) (Y:Lay U) (TI:List (Nat×TInfo)) (FZ:List (Nat×Sum U)):Prop where
 ti:sF P TI=true
 lay:LayOk Y
 fs:∀(f:Nat) (S:Sum U),(f,S)∈FZ->Er P g Y f S
structure Am (m m':Mm U):Prop where
 k:m.k<=m'.k
 ns:∀(a i:Nat) (f:Bool),m.ns[a]? =some (i,f)->∃f',m'.ns[a]? =some (i,f')
 ol:m.o.length<=m'.o.length
 o:∀(i:Nat) (e e':EO U),m.o[i]? =some e->m'.o[i]? =some e'->(e'.cv<=m.k->e'=e)/\(e'.ob.aAY=true->e.ob.aAY=true)/\
  ∀T cs vs T' cs' vs',e.ob= .box T cs vs->e'.ob= .box T' cs' vs'->T'=T/\cs'.length=cs.length/\vs'.length=vs.length/\∀(j v:Nat),vs'[j]? =some v->v<=m.k->cs'[j]? =cs[j]? /\vs[j]? =some v
theorem Am.refl (m:Mm U):Am m m:=⟨ak _,(by simp_all),ak _,(by grind)⟩
theorem Am.trans {m m' c:Mm U}(h:Am m m')(l:Am m' c):Am m c:=by
 refine⟨bz h.k l.k,λa i f t=> ?_,bz h.ol l.ol,λi e n he d=> ?_⟩
 ·obtain⟨f',h1⟩:=h.ns a i f t;exact l.ns a i f' h1
 ·have hl:i<m'.o.length:=cf (lt_of_some he) h.ol;obtain⟨G,x,y⟩:=h.o i e _ he (ab hl);obtain⟨b1,r,z⟩:=l.o i _ n (ab hl) d;refine⟨λhc=> ?_,λhb=>x (r hb),λT cs vs p cs'' vs'' h1 h2=> ?_⟩
  ·have H:=b1 (bz hc h.k);simp_all
  ·have hb:(m'.o[i]).ob.aAY=true:=r (by rw[h2];rfl);cases hm:(m'.o[i]).ob with
   |box T' cs' vs'=>obtain⟨A,B,F,I⟩:=y T cs vs T' cs' vs' h1 hm;obtain⟨q1,q2,q3,q4⟩:=z T' cs' vs' p cs'' vs'' hm h2;refine⟨q1.trans A,q2.trans B,q3.trans F,λj v hv q=> ?_⟩;obtain⟨J,L⟩:=q4 j v hv (bz q h.k);simp[*]
   |_=>rw[hm] at hb;cases hb
theorem Am.add (m:Mm U)(es:List (EO U)):Am m ⟨m.o++es,m.k,m.ns⟩:=by
 refine⟨ak _,(by simp_all),by simp,λi e e' he c=> ?_⟩
 grind
theorem Am.aCV (m:Mm U){c:List (Nat×Bool)}(h:∀(a i:Nat) (f:Bool),m.ns[a]? =some (i,f)->∃f',c[a]? =some (i,f')):Am m ⟨m.o,m.k,c⟩:=⟨ak _,h,ak _,(Am.refl m).o⟩
def Am.turn (m:Mm U){i:Nat}{ids:List Nat}{ob:Ob U}{rv:Nat}(hb:ob.aAY=true->∀e,m.o[i]? =some e->e.ob.aAY=true/\∀T cs vs T' cs' vs',e.ob= .box T cs vs->ob= .box T' cs' vs'->T'=T/\cs'.length=cs.length/\vs'.length=vs.length/\∀(j v:Nat),vs'[j]? =some v->v<=m.k->cs'[j]? =cs[j]? /\vs[j]? =some v):
  Am m ⟨Tn (Nat.succ m.k) ids (upd m.o i ⟨ob,rv,Nat.succ m.k⟩),Nat.succ m.k,m.ns⟩:=by
 refine⟨eu _,(by simp_all),by grind[Nu,dY,List.length_set],λj e e' he c=> ?_⟩;simp only at c;by_cases hj:j∈ids
 ·rw[aFm hj (by rw[dY,aq];exact lt_of_some he)] at c;injection c with c;subst c;exact⟨λh=>(by simp only at h;omega),λh=>(by cases h),λ_ _ _ _ _ _ _ h=>(by cases h)⟩
 ·rw[zG hj,dY] at c;by_cases d:i=j
  ·subst d;rw[ba (lt_of_some he)] at c;injection c with c;subst c;refine⟨λh=>by simp only at h;omega,λh=>(hb h e he).1,λT cs vs T' cs' vs' h1 h2=> ?_⟩
   have l:ob.aAY=true:=by simp only at h2;rw[h2];rfl
   grind
  simp_all
def Am.tree (m:Mm U){i:Nat}{ids:List Nat}{τ:Nat}{d:Bool}{l:List (U.El τ)}{rv:Nat}:Am m ⟨Tn (Nat.succ m.k) ids (upd m.o i ⟨.tree τ d l,rv,Nat.succ m.k⟩),Nat.succ m.k,m.ns⟩:=Am.turn m (λh=>by cases h)
section
variable {s:St U} {a:Act} {w:World} {β:List Tr} {α:Type}
def bE1 (r:bL Y.C E s a w β){o:Oper}{k p e:Nat}{x:Operand}{z:ByteArray}(ho:o.op= .convert k p x)(hs:P.underlying k=some .string)(hd:P.underlying p=some (.slice e))(he:P.underlying e=some (.int .u8))(hx:fU s x= .l (.str z)):SO P Y.C E a w o (.l (.sl Y.bt ((cB z).map Y.be))) s true:=λK Q hK=>by
 obtain⟨h1,h2⟩:=(mO r hx:(Lf.str z:Lf U).mean Y.C w (E.X β) β s.m (a.eval x));have q:Ext w (Lib.bytesWorld w e z):=⟨rfl,rfl,rfl,by simp[Lib.bytesWorld_size],(by grind[Lib.bytesWorld_at_old])⟩;refine wpo (w':=Lib.bytesWorld w e z) (v:= .slice (some ⟨w.heap.size,0,none⟩) z.size (grownCap w z.size 0 e)) (by simp_all[inl,execOp,Lib.run_convert_string_bytes]) (hK _ _ β (r.ext q) (λ_=> ?_) (λ_=>q));have d:∀n,U.enc Y.bt (Y.be n)=[V.int .u8 n]:=λn=>by
  rw[<-Y.C.hcel Y.bt (Y.be n),Y.hb,Y.hbe];rfl
 have hk:U.K Y.bt=1:=by rw[<-Y.C.hlen Y.bt (Y.be 0),Y.hb];rfl
 have el:((cB z).map Y.be).map (U.enc Y.bt)=z.data.toList.map yV:=by rw[gC];have:(U.enc Y.bt∘Y.be)=λn=>[V.int .u8 n]:=funext d;simp_all[cB,yV]
 show Rd _ (E.X β) [] _ (.slice (U.K Y.bt) (((cB z).map Y.be).map (U.enc Y.bt)));rw[el,hk];have hc:=grownCap_le_maxLen w z.size 0 e h2;have hg:=grownCap_ge w z.size 0 e;cases A:z.data.toList with
 |nil=>
  have:z.size=0:=by grind[En]
  rw[this] at hc ⊢;exact .slice0 hc
 |cons B bs=>
  rw[<-A];have hlen:z.size=(z.data.toList.map yV).length:=by rw[bl,En]
  have c:∀(i j:Nat) (e':List V) (d':V),(z.data.toList.map yV)[i]? =some e'->e'[j]? =some d'->i<z.size/\j=0/\d'= .int .u8 ((z.data.toList.getD i 0).toNat:Int):=by
   grind[yV,En,List.getD,List.getElem?_eq_some_iff,Option.map_eq_some_iff]
  refine .slice (val:=λi j=> .int .u8 ((z.data.toList.getD i 0).toNat:Int)) hlen (by simp[*]) hg hc (λh=>by have:=r.hp.aCE _ h;grind) (by rw[Lib.bytesWorld_size];simp)
   (by grind) (λi j e' d' t y=> ?_) (λi j e' d' t y=> ?_)
  ·grind[Lib.bytesWorld_cell,gI]
  ·obtain⟨F,rfl,rfl⟩:=c i j e' d' t y;have hb:=(z.data.toList.getD i 0).toNat_lt;exact .int (iw _) (show(((z.data.toList.getD i 0).toNat:Nat):Int)<=255 by omega)
def oM (G:Good P g Y TI FZ)(r:bL Y.C E s a w β){o:Oper}{op:Op}(ho:o.op=op){K:Sv U->St U->Option α}{z:α}(h:D5 Y TI s op (λx=>K x s)=some z):∃x s',K x s'=some z/\PO P Y.C E a w β o x s'/\s'.t=s.t/\s'.fr=s.fr/\Am s.m s'.m:=by obtain⟨x,h1,h2⟩:=R3 G.ti r h;obtain⟨v,k1,k2⟩:=h2 o ho;exact⟨x,s,h1,⟨v,k1,r,k2⟩,rfl,rfl,Am.refl _⟩
def Ny (G:Good P g Y TI FZ)(r:bL Y.C E s a w β){o:Oper}{op:Op}(ho:o.op=op)(hc:zF FZ op=0){K:Sv U->St U->Option α}{z:α}(h:stp Y TI FZ s op K=some z):∃x s',K x s'=some z/\PO P Y.C E a w β o x s'/\s'.t=s.t/\s'.fr=s.fr/\Am s.m s'.m:=by
 unfold stp at h;split at h
 ·cases hc
 ·cases hc
 ·cases hc
 ·cases hc
 ·cases hc
 ·cases hc
 ·grind[zF]
 ·rename_i t x y u;split at h
  ·rename_i c n hx;cases hn:decide (n=1) with
   |false=>rw[hn] at h;exact oM G r ho h
   |true=>
    rw[hn] at h;simp only[ac] at h;cases hm:nth s.m.ns c with
    |none=>simp_all
    |some p=>
     obtain⟨i,f⟩:=p;rw[hm] at h;cases f with
     |false=>exact oM G r ho h
     |true=>grind[bEx,aZ,Am.aCV,List.getElem?_append_left,lt_of_some]
  ·exact oM G r ho h
 ·rename_i B q x;cases hm:kD FZ (q+1000000) with
  |some S=>grind[zF]
  |none=>simp only[hm] at h;exact oM G r ho h
 ·exact oM G r ho h
 ·rename_i t x b;cases hm:kD FZ 2000000 with
  |none=>simp only[hm] at h;exact oM G r ho h
  |some S=>
   simp only[hm] at h;split at h
   ·rename_i e ek eb k F i q0 n h1 h2 A;split at h
    ·rename_i τ d l rv cv j;rw[aZ] at j;cases hb:(Nat.beq rv q0&&Je (U:=U) e ek τ) with
     |false=>simp_all
     |true=>rw[hb] at h;simp only[ac] at h;simp only[Je,aa] at hb;obtain⟨hg,h⟩:=lM h;obtain⟨v,k1,k2⟩:=bIe G.ti r h1 h2 A j (ah hb.1) (ah hb.2.2) hg o ho;exact⟨_,s,h,⟨v,k1,r,k2⟩,rfl,rfl,Am.refl _⟩
    ·cases h
   ·exact oM G r ho h
 ·exact oM G r ho h
def bL.aCA {C:Cod U}(r:bL C E s a w β){b T rv cv:Nat}{cs:List (Lf U)}{c:List Nat}(h:s.m.o[b]? =some ⟨.box T cs c,rv,cv⟩):cs.length=c.length:=by obtain⟨t,ht⟩:=r.hp.tr h;exact(r.hp.ok b t _ ht h).1
def aIc {b T rv cv off n:Nat}{cs ps:List (Lf U)}{c:List Nat}{d:Nat}(j:s.m.o[b]? =some ⟨.box T cs c,rv,cv⟩)(h:ps.length=n)(i:off+n<=cs.length)(hl:cs.length=c.length):
  Am s.m (trn s b (.box T (spl cs off ps) (spl c off (ps.map λ_=>Nat.succ s.m.k))) d).m:=by
 have l:=Ip cs off ps (by rw[h];exact i);have p:=Ip c off (ps.map λ_=>Nat.succ s.m.k) (by rw[bl,h,<-hl];exact i);refine Am.turn (ids:=[]) s.m λ_ e he=> ?_;rw[j] at he;injection he with he;subst he;refine⟨rfl,λq cs1 vs1 T' cs' vs' k1 k2=> ?_⟩
 grind[Option.some.injEq,List.length_map,Nn,k2,k1]
def bAa {e i:Nat}{c:Lf U}{d:Bool}{l:List (U.El e)}{s1:St U}(h:apD s e c=some (i,d,l,s1)):s1.t=s.t/\s1.fr=s.fr/\Am s.m s1.m:=by
 cases c with
 |nil=>simp only[apD,ai,cU] at h;obtain⟨_,_,_,rfl⟩:=h;exact⟨rfl,rfl,Am.add _ _⟩
 |own j q=>
  grind[d0,Nat.beq,Option.some.injEq,Prod.mk.injEq,Am.refl,apD]
 |_=>cases h
def SO.to {C:Cod U}{o:Oper}{x:Sv U}{s':St U}{b:Bool}(h:SO P C E a w o x s' true):SO P C E a w o x s' b:=by
 cases b with
 |true=>exact h
 |false=>exact h.soft
def aR8 {xs:Array Operand}{l:List Operand}(h:xs.toList=l):xs=l.toArray:=by grind
def aR9 {xs:Array TypeId}{l:List TypeId}(h:xs.toList=l):xs=l.toArray:=by grind
def bIo {T:Nat}{ks:List Kd}(z:sD U (.st T::ks)):∃cs c,dQ Y (.st T::ks) z=(true,cs)::c:=by
 cases ks with
 |nil=>exact⟨_,_,rfl⟩
 |cons k ks=>exact⟨_,_,rfl⟩
def RdL.cons_inv {w:World}{X:Nat->Prop}{vs:List Value}{u:V}{c:List V}(h:RdL w X vs (u::c)):∃v vs',vs=v::vs'/\Rd w X [] v u/\RdL w X vs' c:=by
 obtain⟨h1,h2⟩:=h;cases vs with
 |nil=>simp at h1
 |cons v vs=>exact⟨v,vs,rfl,h2 0 v u rfl rfl,by simpa using h1,λi v u p q=>h2 (i+1) v u (by simpa using p) (by simpa using q)⟩
def RdL.agg {w:World}{X:Nat->Prop}{vs:List Value}{d:List V}(h:Rd w X [] (.agg vs.toArray) (.agg d)):RdL w X vs d:=by obtain⟨vs',e,h2,j⟩:=h.aBB;injection e with e;subst e;exact⟨by simpa using h2,λi v c p q=>j i v c (by simpa using p) q⟩
def aId (hY:LayOk Y)(r:bL Y.C E s a w β){o:Oper}{f:FuncId}{A:Array Operand}{ats:Array TypeId}{S:Sum U}(ho:o.op= .call {callee:= .value (.func f),args:=A,argTypes:=ats})
  (hS:Er P g Y f S) (hmk:S.wt=true) (hfr:S.fr=true) {K:Sv U->St U->Option α} {z:α} (h:bL2 Y s S (A.toList.map (fU s)) K=some z):
  ∃x s' i b,K x s'=some z/\(∃ys,A.toList.map (fU s)= .l (.box i 0)::ys)/\(∀v,(Sv.l (.box i 0):Sv U).mean Y.C w (E.X β) β s.m v->v= .pointer (some ⟨b,0,none⟩))/\
   (∀(K':Act->World->Prop) (Q:Exit->Act->World->Prop),(∀v w' β',bL Y.C E s' a w' β'->(o.dst≠none->x.mean Y.C w' (E.X β') β' s'.m v)->Bel (·=b) w w'->K' (a.put o.dst v) w')->o.wp P a w K' Q)/\s'.t=s.t/\s'.fr=s.fr/\Am s.m s'.m:=by
 unfold bL2 at h;split at h
 ·rename_i i off ys O;split at h
  ·rename_i T cs us rv cv hi;rw[aZ] at hi;split at h
   ·rename_i z1 hz;cases hb:(Nat.beq off 0&&(hdT T S.ar&&(Nr cs&&nQ ys))) with
    |false=>simp_all
    |true=>
     rw[hb] at h;simp only[ac] at h;obtain⟨q,hq,hk⟩:=jT h;clear h;split at hk
     ·rename_i ds rs hr;cases hlen:Nat.beq (len ds) (len cs) with
      |false=>simp_all
      |true=>
       rw[hlen] at hk;simp only[ac] at hk;have hlen:=ah hlen;rw[dK,dK] at hlen;simp only[aa] at hb;obtain⟨n,hT,hfc,hfy⟩:=hb;have n:=ah n;subst n;obtain⟨ar,rs0,fr,wt,mm⟩:=S;obtain⟨ks,rfl⟩:∃ks,ar= .st T::ks:=by
        simp only[hdT] at hT
        grind[Nat.eq_of_beq_eq_true]
       obtain⟨cs0,us0,V⟩:=bIo (Y:=Y) z1;have hsp:=(hS z1 q hq).2.2.2 hmk hfr T ks cs0 us0 ds rs rfl V hr;have hbl:=r.aCA hi;obtain⟨tr,ht⟩:=r.hp.tr hi;obtain⟨_,b,ws,e1,e2,e3,e4⟩:=r.hp.ok i tr _ ht hi;refine⟨_,_,i,b,hk,⟨ys,O⟩,λv hv=> ?_,λK' Q hK=> ?_,rfl,rfl,?_⟩
       ·obtain⟨_,e',t',B,F,g3⟩:=hv;rw[hi] at B;injection B with B;subst B;rw[ht] at F;injection F with F;subst F;obtain⟨b',H,rfl⟩:=g3 rfl;rw[e1] at H;injection H with H;rw[H]
       ·--the arguments
        have hm:∀(i:Nat) (v:Value) (x:Sv U),(A.toList.map a.eval)[i]? =some v->(A.toList.map (fU s))[i]? =some x->x.mean Y.C w (E.X β) β s.m v:=(by grind[Jn,Af]);obtain⟨v0,vs,W,hvl⟩:∃v0 vs,A.toList.map a.eval=v0::vs/\vs.length=ys.length:=by
         have hl:(A.toList.map a.eval).length=(Sv.l (.box i 0)::ys).length:=by grind
         match hh:A.toList.map a.eval,hl with
         |v0::vs,hl=>grind
        rw[O,W] at hm;obtain⟨_,e',t',B,F,g3⟩:=hm 0 v0 _ rfl rfl;rw[hi] at B;injection B with B;subst B;rw[ht] at F;injection F with F;subst F;obtain⟨b',H,rfl⟩:=g3 rfl;rw[e1] at H;injection H with H;subst H;have hall:tr.all=[b]:=by grind[Tr.all]
        have hfree:nQ (.a cs::ys)=true:=by grind[nQ,aLt]
        have hrd:=Nw r (Z:=E.X β) (λ_ h=>h) _ hz (vs:= .agg ws.toArray::vs) (by simp[hvl]) (λj v x p q=>by
         cases j with
         |zero=>simp at p q;subst p;subst q;exact⟨ws,rfl,e4⟩
         |succ j=>exact hm (j+1) v x (by assumption) (by assumption)) (.inl hfree)
        rw[V,bw] at hrd;obtain⟨_,_,he,hr1,hr2⟩:=RdL.cons_inv hrd;injection he with he1 he2;subst he1;subst he2;have hr1:=RdL.agg (by assumption);have hXb:E.X β b:=(by grind[bMb]);have hG:∀w',Bel (·=b) w w'->g.G w':=λw' hb'=>E.hg w' ⟨hb'.os.trans r.hp.ext.os,hb'.tape.trans r.hp.ext.tape,hb'.output.trans r.hp.ext.output,bz r.hp.ext.size hb'.size,λx hlt hy=>by
         rw[hb'.block x (cf hlt r.hp.ext.size) (λhB=> ?_)]
         ·exact r.hp.ext.block x hlt hy
         ·subst hB;rcases(r.hp.new i tr x ht (by simp[*])).1 with h|h
          all_goals grind⟩
        have hcall:=hsp.2 w (E.X β) b ws vs hG (λx hx=>r.hp.aCE x hx) hXb e3 hr1 hr2;have hargs:(A.toList.map a.eval).toArray=(.pointer (some ⟨b,0,none⟩)::vs).toArray:=by rw[W]
        refine wpc (Ai ho hsp.1) (R':=λu w'=>∃I,Bel (·=b) w w'/\w'.heap[b]? =some (.cells I.toArray T (0,0))/\RdL w' (E.X β) I (ds.map Lf.toV)/\Rd w' (E.X β) [] u (oL (rs.map zI))) ?_ ?_
        ·simp_all
        ·rintro u w' ⟨I,y,h5,h6,h7⟩;have J:=r.hp.len;have hil:i<s.m.o.length:=lt_of_some hi;have L:∀j,(j=i\/s.m.o.length<=j)->∀t,β[j]? =some t->j=i/\t=tr:=(by simp_all);have d:∀j,(j=i\/s.m.o.length<=j)->∀e,(s.m.o.set i ⟨.box T ds (us.map λ_=>Nat.succ s.m.k),rv,Nat.succ s.m.k⟩)[j]? =some e->e=⟨.box T ds (us.map λ_=>Nat.succ s.m.k),rv,Nat.succ s.m.k⟩:=(by grind[List.getElem?_set_self,lt_of_some]);obtain⟨q1,q2⟩:=r.hp.step (s':=⟨s.m.o.set i ⟨.box T ds (us.map λ_=>Nat.succ s.m.k),rv,Nat.succ s.m.k⟩,Nat.succ s.m.k,s.m.ns⟩) (β':=β) (w':=w') (λj=>j=i) (λx=>x=b) (eu _) (λ_ _ f h=>⟨f,h⟩) r.hp.cnt (by simp[J]) (by simp) y.size y.os y.tape y.output
          (λx hx hn=>y.block x hx hn)
          (λx hx=>(by grind))
          (by grind[List.getElem?_set_ne])
          (by grind)
          (by grind)
          (λj t hj ht'=>by grind)
          (λj e hj he=>by
           have:=d j hj e he;subst this;refine⟨?_,ak _⟩;have:=(r.hp.vers _ _ hi).1
           grind)
          (λj e e' t t' hj h1 h2 h3 y=>by
           subst hj;have:=d _ (.inl rfl) e' h2;subst this;rw[hi] at h1;injection h1 with h1;subst h1;rw[h3] at y;injection y with y;subst y;exact⟨λ_=>⟨rfl,rfl⟩,eK _,λ_=>⟨rfl,rfl⟩⟩)
          (λhev j t e hj ht' he=>by
           obtain⟨rfl,rfl⟩:=L j hj t ht';have:=d _ (.inl rfl) e he;subst this;refine⟨by rw[bl,hlen,hbl],b,I,e1,e2,h5,by have:=h6.1;simp[*],λl v c p q'=> ?_⟩;have hcd:c.aBA=true:=(Jm rs0 q (true,ds) (by rw[hr];simp)).1 c (aE q');exact Jl hcd (h6.2 l v _ p (by simp[*])) (.inl λ_ h=>h))
         have r':=r.go q1 q2 (fr:=s.fr)
         grind[aXe,Jm,inl,trn,dY]
       ·have:=Am.turn s.m (i:=i) (ids:=[]) (ob:= .box T ds (us.map λ_=>Nat.succ s.m.k)) (rv:=rv) (λ_ e he=>by
         rw[hi] at he;injection he with he;subst he;refine⟨rfl,λT0 cs0 vs0 T' cs' vs' h1 h2=> ?_⟩
         grind)
        exact this
     ·cases hk
   ·cases h
  ·cases h
 ·cases h
def aQb (hY:LayOk Y)(r:bL Y.C E s a w β){o:Oper}{f:FuncId}{d:Array Operand}{ats:Array TypeId}{S:Sum U}(ho:o.op= .call {callee:= .value (.func f),args:=d,argTypes:=ats})
  (e:Er P g Y f S) (hmk:S.wt=true) (c:S.fr=true) {K:Sv U->St U->Option α} {z:α} (h:bL2 Y s S (d.toList.map (fU s)) K=some z):
  ∃x s',K x s'=some z/\SO P Y.C E a w o x s' false/\s'.t=s.t/\s'.fr=s.fr/\Am s.m s'.m:=by
 obtain⟨x,s',i,b,h1,_,_,j,k⟩:=aId hY r ho e hmk c h;exact⟨x,s',h1,λl Q hK=>j l Q λv w' β' k1 k2 _=>hK v w' β' k1 k2 (λh=>by cases h),k⟩
def aSa (G:Good P g Y TI FZ)(r:bL Y.C E s a w β){o:Oper}{op:Op}(ho:o.op=op){K:Sv U->St U->Option α}{z:α}(h:stp Y TI FZ s op K=some z):∃x s',K x s'=some z/\SO P Y.C E a w o x s' (Nat.ble (zF FZ op) 1)/\s'.t=s.t/\s'.fr=s.fr/\Am s.m s'.m:=by
 by_cases hc:zF FZ op=0
 ·obtain⟨x,s',h1,h2,A⟩:=Ny G r ho hc h;rw[hc];exact⟨x,s',h1,SO.aDO h2,A⟩
 unfold stp at h;split at h
 ·rename_i T x;cases hp:parts (vY s x) with
  |none=>rw[hp] at h;cases h
  |some cs=>
   rw[hp] at h;cases ha:Ad cs with
   |false=>simp[ha] at h
   |true=>simp only[ha,ac] at h;exact⟨_,_,h,bEs r ho hp ha,rfl,rfl,Am.add _ _⟩
 ·rename_i T;cases hf:kD TI T with
  |none=>rw[hf] at h;cases h
  |some i=>rw[hf] at h;exact⟨_,_,h,aW6 G.ti r ho hf,rfl,rfl,Am.add _ _⟩
 ·rename_i t x y;split at h
  ·rename_i i b off ps h1 h2 A;split at h
   ·rename_i T cs us rv cv v;rw[aZ] at v;cases hb:(Nat.beq (len ps) i.k&&(Nat.ble (off+i.k) (len cs)&&Ad ps)) with
    |false=>rw[hb] at h;cases h
    |true=>rw[hb] at h;simp only[ac] at h;simp only[aa,dK] at hb;exact⟨_,_,h,aMc G.ti r ho h1 h2 A v (ah hb.1) (bc hb.2.1) hb.2.2,rfl,rfl,aIc v (ah hb.1) (bc hb.2.1) (r.aCA v)⟩
   ·cases h
  ·rename_i i b c τ q z' off ps h1 h2 A;cases hv:okv s.m b c with
   |false=>rw[hv] at h;cases h
   |true=>
    rw[hv] at h;simp only[ac] at h;split at h
    ·rename_i τ' d l rv cv v;rw[aZ] at v;cases hs:slq τ τ' l with
     |none=>rw[hs] at h;cases h
     |some l1=>
      rw[hs] at h;obtain⟨rfl,V⟩:=nH hs;obtain rfl:=eg V;simp only at h;split at h
      ·rename_i ds ids d' F;rw[aL3,Q9] at F;cases hb:(Nat.beq (len ps) i.k&&(Nat.ble (off+i.k) (U.K τ')&&(Ad ps&&dist (b::ids)))) with
       |false=>rw[hb] at h;cases h
       |true=>
        rw[hb] at h;simp only[ac] at h;simp only[aa,dK] at hb;split at h
        ·rename_i z2 h9;obtain⟨e',k1,k2⟩:=sI hv;rw[v] at k1;injection k1 with k1;subst k1;exact⟨_,_,h,aJb G.ti G.lay r ho h1 h2 A v k2 (ah hb.1) (bc hb.2.1) hb.2.2.1 F (Ah.1 hb.2.2.2) h9,rfl,rfl,Am.tree _⟩
        ·cases h
      ·cases h
    ·cases h
  ·rename_i i b c τ q z j τ' l q' z' off ps h1 h2 A;cases hv:okv s.m b c with
   |false=>rw[hv] at h;cases h
   |true=>
    rw[hv] at h;simp only[ac] at h;split at h
    ·rename_i τ1 d L rv cv v;rw[aZ] at v;cases hs:slq τ τ1 L with
     |none=>rw[hs] at h;cases h
     |some l1=>
      rw[hs] at h;obtain⟨rfl,V⟩:=nH hs;obtain rfl:=eg V;simp only at h;split at h
      ·rename_i ds ids d' F;rw[aL3,Q9] at F;cases hb:(Nat.beq (len ps) i.k&&(Nat.ble (off+i.k) (U.K τ')&&(Ad ps&&dist (b::ids)))) with
       |false=>rw[hb] at h;cases h
       |true=>
        rw[hb] at h;simp only[ac] at h;simp only[aa,dK] at hb;split at h
        ·rename_i z2 h9;split at h
         ·rename_i z3 W;obtain⟨e',k1,k2⟩:=sI hv;rw[v] at k1;injection k1 with k1;subst k1;exact⟨_,_,h,aP9 G.ti G.lay r ho h1 h2 A v k2 (ah hb.1) (bc hb.2.1) hb.2.2.1 F (Ah.1 hb.2.2.2) h9 W,rfl,rfl,Am.tree _⟩
         ·cases h
        ·cases h
      ·cases h
    ·cases h
  ·rename_i i b c τ q z j τ' l q' z' j' τ2 l2 q2 z2 off ps h1 h2 A;cases hv:okv s.m b c with
   |false=>rw[hv] at h;cases h
   |true=>
    rw[hv] at h;simp only[ac] at h;split at h
    ·rename_i τ1 d L rv cv v;rw[aZ] at v;cases hs:slq τ τ1 L with
     |none=>rw[hs] at h;cases h
     |some l1=>
      rw[hs] at h;obtain⟨rfl,V⟩:=nH hs;obtain rfl:=eg V;simp only at h;split at h
      ·rename_i ds ids d' F;rw[aL3,Q9] at F;cases hb:(Nat.beq (len ps) i.k&&(Nat.ble (off+i.k) (U.K τ2)&&(Ad ps&&dist (b::ids)))) with
       |false=>rw[hb] at h;cases h
       |true=>
        rw[hb] at h;simp only[ac] at h;simp only[aa,dK] at hb;split at h
        ·rename_i w2 h9;split at h
         ·rename_i w1 W;split at h
          ·rename_i w0 h11;obtain⟨e',k1,k2⟩:=sI hv;rw[v] at k1;injection k1 with k1;subst k1;exact⟨_,_,h,aMe G.ti G.lay r ho h1 h2 A v k2 (ah hb.1) (bc hb.2.1) hb.2.2.1 F (Ah.1 hb.2.2.2) h9 W h11,rfl,rfl,Am.tree _⟩
          ·cases h
         ·cases h
        ·cases h
      ·cases h
    ·cases h
  ·cases h
 ·rename_i t n ps;split at h
  ·rename_i e ek eb k zz h1;cases hb:(Nat.beq (len ps.toList) n&&(Nat.ble (n*ek) 16777216&&Je (U:=U) e ek e)) with
   |false=>rw[hb] at h;cases h
   |true=>
    rw[hb] at h;simp only[ac] at h;simp only[aa,dK] at hb;split at h
    ·rename_i l ids d Z;cases hpl:(!Jj (kD FZ 3000000)&&(!Nat.beq n 0&&aZu ids)) with
     |true=>
      rw[hpl] at h;simp only[ac] at h;cases ids with
      |cons _ _=>simp[aZu] at hpl
      |nil=>exact⟨_,_,h,aW8 G.ti G.lay r ho h1 (ah hb.1) (bc hb.2.1) hb.2.2 Z,rfl,rfl,Am.refl _⟩
     |false=>
     rw[hpl] at h;simp only[ae] at h;cases hd:dist (len s.m.o::ids) with
     |false=>rw[hd] at h;cases h
     |true=>rw[hd] at h;simp only[ac] at h;have hJ:=Ah.1 hd;rw[dK] at hJ;exact⟨_,_,h,aW9 G.ti G.lay r ho h1 (ah hb.1) (bc hb.2.1) hb.2.2 Z hJ,rfl,rfl,(Am.add s.m [⟨.dead,s.m.k,s.m.k⟩]).trans (Am.tree _)⟩
    ·cases h
  ·cases h
 ·rename_i t x y;split at h
  ·rename_i e ek eb k zz h1;split at h
   ·rename_i i n h2 A;cases hb:(aLv x y&&(Nat.ble eb 2048&&Je (U:=U) e ek e)) with
    |false=>rw[hb] at h;cases h
    |true=>
     rw[hb] at h;simp only[ac] at h;simp only[aa] at hb;split at h
     ·rename_i ds h7;split at h
      ·rename_i z2 F;obtain⟨hg,h⟩:=lM h;exact⟨_,_,h,aZ6 G.ti G.lay r ho h1 h2 A hb.1 hb.2.1 hb.2.2 h7 F hg,rfl,rfl,Am.add _ _⟩
      ·cases h
     ·cases h
   ·cases h
  ·cases h
 ·rename_i xa ats;split at h
  ·rename_i x y t t2 hxa O;split at h
   ·rename_i e ek eb k zz h1;cases hb:(Nat.beq t t2&&(Nat.ble eb 2048&&Je (U:=U) e ek e)) with
    |false=>rw[hb] at h;cases h
    |true=>
     rw[hb] at h;simp only[ac] at h;simp only[aa] at hb;obtain rfl:t=t2:=ah hb.1;split at h
     ·rename_i i c τ n l py v Z;cases hv:okv s.m i c with
      |false=>rw[hv] at h;cases h
      |true=>
       rw[hv] at h;simp only[ac] at h;cases hs:slq e τ l with
       |none=>rw[hs] at h;cases h
       |some l1=>
        rw[hs] at h;obtain⟨rfl,V⟩:=nH hs;obtain rfl:=eg V;simp only at h;split at h
        ·rename_i l' d' h7;cases hne:Nat.ble 1 (len l') with
         |false=>rw[hne] at h;cases h
         |true=>rw[hne] at h;obtain⟨hg,h⟩:=lM h;rw[aR8 hxa,aR9 O] at ho ⊢;exact⟨_,_,h,aJc G.ti G.lay r ho h1 hb.2.1 hb.2.2 v Z hv h7 (by rw[<-dK];exact bc hne) hg,rfl,rfl,Am.turn (ids:=[]) s.m (λh=>by cases h)⟩
        ·cases h
     ·rename_i px py _ v Z;split at h
      ·rename_i i d l s1 h6;split at h
       ·rename_i l' ids d' h7;obtain⟨hg,h⟩:=lM h;rw[aR8 hxa,aR9 O] at ho ⊢;exact⟨_,_,h,aUs G.ti G.lay r ho h1 hb.2.1 hb.2.2 v Z h6 h7 hg,(bAa h6).1,(bAa h6).2.1,(bAa h6).2.2.trans (Am.tree _)⟩
       ·cases h
      ·cases h
     ·cases h
   ·cases h
  ·cases h
 ·rename_i f xa ats;split at h
  ·rename_i S hS;have I:=G.fs f S (aKs hS);cases B:(S.wt&&S.fr) with
   |true=>
    simp only[B,ac] at h;rw[aa] at B;have hcl:Nat.ble (zF FZ (.call {callee:= .value (.func f),args:=xa,argTypes:=ats})) 1=false:=by simp only[zF,hS,B.1,ac];rfl
    rw[hcl];exact aQb G.lay r ho I B.1 B.2 h
   |false=>
   simp only[B,ae] at h;split at h
   ·rename_i z1 hz;cases hmk:S.wt with
    |true=>rw[hmk] at h;cases h
    |false=>
     rw[hmk] at h;simp only[ae] at h;cases H:S.fr with
     |true=>rw[H] at h;simp only[ac] at h;obtain⟨q,hq,h⟩:=jT h;exact⟨_,_,h,(aJe r ho I hz hmk H hq).to,rfl,rfl,Am.add _ _⟩
     |false=>
      rw[H] at h;simp only[ae] at h;cases J:(Im Y S.rs||nQ (xa.toList.map (fU s))) with
      |false=>
       rw[J] at h;simp only[ae] at h;cases hi:aWq s.m (xa.toList.map (fU s)) with
       |none=>rw[hi] at h;cases h
       |some p=>obtain⟨i,c⟩:=p;rw[hi] at h;simp only at h;obtain⟨q,hq,h⟩:=jT h;exact⟨_,_,h,(aQa r ho I hz hmk H hi hq).to,rfl,rfl,Am.refl _⟩
      |true=>rw[J] at h;simp only[ac] at h;obtain⟨q,hq,h⟩:=jT h;rw[cp] at J;exact⟨_,_,h,(Pp G.lay r ho I hz hmk H J hq).to,rfl,rfl,Am.refl _⟩
   ·cases h
  ·cases h
 ·exact absurd rfl hc
 ·rename_i ta tb x;have mk:∀{K:Sv U->St U->Option α} {z:α},D5 Y TI s (.convert ta tb x) (λx=>K x s)=some z->∃y s',K y s'=some z/\SO P Y.C E a w o y s' (Nat.ble (zF FZ (.convert ta tb x)) 1)/\s'.t=s.t/\s'.fr=s.fr/\Am s.m s'.m:=λh=>by
   obtain⟨y,k1,k2⟩:=R3 G.ti r h;exact⟨y,s,k1,(SO.aDF r (o:=o) (by rw[ho];exact k2)).to,rfl,rfl,Am.refl _⟩
  cases hm:kD FZ (tb+1000000) with
  |none=>simp only[hm] at h;exact mk h
  |some S=>
   simp only[hm] at h;split at h
   ·rename_i k1 z1 e ek eb k2 z2 k3 z3 z h1 h2 A v;cases hb:Nat.beq e Y.bt with
    |false=>rw[hb] at h;cases h
    |true=>rw[hb] at h;have he:=ah hb;subst he;exact⟨_,_,h,(bE1 r ho (Ns (bX G.ti h1) rfl).1 (gH (Ae (bX G.ti h2) rfl).1).1 (Tu (bX G.ti A) rfl).1 v).to,rfl,rfl,Am.refl _⟩
   ·exact mk h
 ·exact absurd rfl hc
 ·exact absurd rfl hc
 ·rename_i h1 h2 A v Z h6 h7 F h9;obtain⟨x,k1,k2⟩:=R3 G.ti r h;refine⟨x,s,k1,?_,rfl,rfl,Am.refl _⟩;exact(by
   have hle:Nat.ble (zF FZ op) 1=true\/Nat.ble (zF FZ op) 1=false:=by cases Nat.ble (zF FZ op) 1<;>simp
   have:=SO.aDF r (o:=o) (by rw[ho];exact k2);rcases hle with e|e
   ·rw[e];exact this
   ·rw[e];exact this.soft)
end
end Go.EV
namespace Go.EV
open Go.RowKit Go.VK
variable {U:Uni} {Y:Lay U} {TI:List (Nat×TInfo)} {FZ:List (Nat×Sum U)} {P:Program} {g:GI} {E:Env U g}
structure Ag (D:Nat->Prop) (s s':St U):Prop where
 t:∀n,¬D n->s'.t[n]? =s.t[n]?
 tl:s'.t.length=s.t.length
 fr:s'.fr=s.fr
 m:Am s.m s'.m
theorem Ag.refl {D:Nat->Prop}(s:St U):Ag D s s:=⟨λ_ _=>rfl,rfl,rfl,Am.refl _⟩
theorem Ag.trans {D:Nat->Prop}{s s' c:St U}(h:Ag D s s')(d:Ag D s' c):Ag D s c:=⟨λn hn=>(d.t n hn).trans (h.t n hn),d.tl.trans h.tl,d.fr.trans h.fr,h.m.trans d.m⟩
def Ag.mono {D D':Nat->Prop}{s s':St U}(h:Ag D s s')(hd:∀n,D n->D' n):Ag D' s s':=⟨λn hn=>h.t n (λc=>hn (hd n c)),h.tl,h.fr,h.m⟩
def Ag.put {D:Nat->Prop}{s s':St U}(h:Ag D s s'){d:Option Nat}{x:Sv U}(hd:∀n,d=some n->D n):Ag D s (put s' d x):=by
 cases d with
 |none=>exact h
 |some n=>
  refine⟨λk hk=> ?_,?_,h.fr,h.m⟩
  ·simp only[EV.put,dY];rw[bh (λe=>hk (by rw[<-e];exact hd n rfl))];exact h.t k hk
  ·simp only[EV.put,dY,aq];exact h.tl
section
variable {s:St U} {a:Act} {w:World} {β:List Tr} {α:Type} {C:Cod U}
def bL.set (r:bL C E s a w β){n:Nat}{x:Sv U}(h:x.mean C w (E.X β) β s.m (a.tmps.getD n undef)):bL C E (EV.put s (some n) x) a w β:=by
 refine⟨r.hp,r.defers,by simp only[EV.put,dY,aq];exact r.tsz,λm y hm=> ?_⟩;simp only[EV.put,dY] at hm ⊢;by_cases he:n=m
 ·subst he;have hl:n<s.t.length:=by have:=lt_of_some hm;simpa using this
  rw[ba hl] at hm;injection hm with hm;subst hm;exact h
 ·rw[bh he] at hm;exact r.tm m y hm
def aSb (r:bL C E s a w β){n:Nat}{T F:St U->Option α}{z:α}(h:tst n s T F=some z):
  ∃b s',a.tmps.getD n undef= .bool b/\n<s.t.length/\bL C E s' a w β/\(b=true->T s'=some z)/\(b=false->F s'=some z)/\Ag (λk=>k=n) s s':=by
 unfold tst at h;rw[aZ] at h;split at h
 ·rename_i b hx;have hm:a.tmps.getD n undef= .bool b:=r.tm n _ hx;cases b with
  |true=>exact⟨true,_,hm,lt_of_some hx,r.set (x:= .l (.bool true)) hm,λ_=>h,λh=>(by cases h),(Ag.refl s).put (λk e=>by injection e with e;exact e.symm)⟩
  |false=>exact⟨false,_,hm,lt_of_some hx,r.set (x:= .l (.bool false)) hm,λh=>(by cases h),λ_=>h,(Ag.refl s).put (λk e=>by injection e with e;exact e.symm)⟩
 ·rename_i c m hx;obtain⟨i,f,k1,k2,k3⟩:=r.tm n _ hx;rw[aZ,k1] at h;simp only at h;cases hb:decide ((i:Int)<m) with
  |true=>
   rw[hb] at h k2;have v:=of_decide_eq_true hb;have q:∀(p j:Nat) (f':Bool),s.m.ns[p]? =some (j,f')->∃y,(upd s.m.ns c (i,true))[p]? =some (j,y):=λp j f' d=>by
    rw[dY];by_cases he:c=p
    ·subst he;rw[k1] at d;injection d with d;injection d with d _;subst d;exact⟨true,ba (lt_of_some k1)⟩
    ·exact⟨f',by rw[bh he];exact d⟩
   have G:bL C E ⟨s.t,⟨s.m.o,s.m.k,upd s.m.ns c (i,true)⟩,s.fr⟩ a w β:=r.aCV q (λp j d=>by
    rw[dY] at d;by_cases he:c=p
    ·subst he;rw[ba (lt_of_some k1)] at d;have A:i=j:=congrArg Prod.fst (aj d);rw[<-A];exact fe (Int.add_one_le_iff.2 v) k3
    ·rw[bh he] at d;exact r.hp.cnt p j d)
   have B:Ag (λk=>k=n) s (⟨s.t,⟨s.m.o,s.m.k,upd s.m.ns c (i,true)⟩,s.fr⟩:St U):=⟨λ_ _=>rfl,rfl,rfl,Am.aCV _ q⟩;exact⟨true,_,k2,lt_of_some hx,G.set (x:= .l (.bool true)) k2,λ_=>h,λh=>(by cases h),B.put (λk e=>by injection e with e;exact e.symm)⟩
  |false=>rw[hb] at h k2;exact⟨false,_,k2,lt_of_some hx,r.set (x:= .l (.bool false)) k2,λh=>(by cases h),λ_=>h,(Ag.refl s).put (λk e=>by injection e with e;exact e.symm)⟩
 ·cases h
def Wr (al:List Oper)(o:Oper)(n:Nat):Prop:=o.dst=some n\/∃j b oj,o.guard=some (j,b)/\al[j]? =some oj/\oj.dst=some n
def bAb {al:List Oper}{j n:Nat}{oj:Oper}{b:Bool}(hj:al[j]? =some oj)(hd:oj.dst=some n)(hn:n<a.tmps.size)(hv:a.tmps.getD n undef= .bool b):yielded al.toArray a.tmps j=some b:=by
 have h2:a.tmps[n]? =some (.bool b):=by rw[cA,dg hn] at hv;rw[dg hn];exact congrArg some hv
 simp[yielded,hj,hd,h2]
def bE2 {al:List Oper}{j n:Nat}{oj:Oper}(hj:al[j]? =some oj)(hd:oj.dst=some n)(hn:n<a.tmps.size)(hv:a.tmps.getD n undef=undef):yielded al.toArray a.tmps j=none:=by
 have h2:a.tmps[n]? =some undef:=by rw[cA,dg hn] at hv;rw[dg hn];exact congrArg some hv
 simp[yielded,hj,hd,h2,undef]
def Oa (r:bL C E s a w β){al:List Oper}{o:Oper}{run:St U->Option α}{K:St U->Option α}{z:α}(h:aUb al o run s K=some z):
  ∃s',bL C E s' a w β/\Ag (Wr al o) s s'/\((Region.wanted o (yielded al.toArray a.tmps)=true/\run s'=some z)\/(Region.wanted o (yielded al.toArray a.tmps)=false/\skp o s' K=some z)):=by
 unfold aUb at h;split at h
 ·rename_i hg;exact⟨s,r,Ag.refl s, .inl ⟨by simp[Region.wanted,hg],h⟩⟩
 ·rename_i j want hg;rw[aZ] at h;split at h
  ·rename_i oj hj;split at h
   ·rename_i n hd;cases c:bOl (nth s.t n) with
    |true=>
     rw[c] at h;rw[aZ] at c;have hx:s.t[n]? =some (.l .und):=by
      cases hq:s.t[n]? with
      |none=>rw[hq] at c;cases c
      |some x=>
       rw[hq] at c;cases x with
       |l y=>cases y<;>first|rfl|cases c
       |_=>cases c
     have hv:a.tmps.getD n undef=undef:=r.tm n _ hx;have d:=bE2 (a:=a) hj hd (by rw[r.tsz];exact lt_of_some hx) hv;exact⟨s,r,Ag.refl s, .inr ⟨by simp[Region.wanted,hg,d],h⟩⟩
    |false=>
     rw[c] at h;simp only[ae] at h;obtain⟨b,s',k1,k2,k3,k4,k5,k6⟩:=aSb r h;have d:=bAb (a:=a) hj hd (by rw[r.tsz];exact k2) k1;refine⟨s',k3,k6.mono (λk e=>by subst e;exact .inr ⟨j,want,oj,hg,hj,hd⟩),?_⟩;cases b with
     |true=>
      have i:=k4 rfl;cases want with
      |true=>exact .inl ⟨by simp[Region.wanted,hg,d],i⟩
      |false=>exact .inr ⟨by simp[Region.wanted,hg,d],i⟩
     |false=>
      have p:=k5 rfl;cases want with
      |true=>exact .inr ⟨by simp[Region.wanted,hg,d],p⟩
      |false=>exact .inl ⟨by simp[Region.wanted,hg,d],p⟩
   ·cases h
  ·cases h
def aFq (r:bL C E s a w β){al:List Oper}{o:Oper}{K:St U->Option α}{z:α}(h:grd Y TI FZ al o s K=some z):
  ∃s',bL C E s' a w β/\Ag (Wr al o) s s'/\((Region.wanted o (yielded al.toArray a.tmps)=true/\one Y TI FZ o s' K=some z)\/(Region.wanted o (yielded al.toArray a.tmps)=false/\skp o s' K=some z)):=Oa r h
def aUu (G:Good P g Y TI FZ)(r:bL Y.C E s a w β){al:List Oper}{o:Oper}{K:St U->Option α}{z:α}(h:grd Y TI FZ al o s K=some z){c:Act->World->Prop}{Q:Exit->Act->World->Prop}
  (hk:∀s' i w' β',Ag (Wr al o) s s'->K s'=some z->bL Y.C E s' i w' β'->(Nat.ble (zF FZ o.op) 1=true->Ext w w')->c i w'):if Region.wanted o (yielded al.toArray a.tmps)=true then o.wp P a w c Q else c (a.put o.dst undef) w:=by
 obtain⟨s1,j,h1,h2⟩:=aFq r h;rcases h2 with⟨d,h2⟩|⟨d,h2⟩
 ·rw[cW d];unfold one at h2;obtain⟨x,s2,k1,k2,k3,k4,k5⟩:=aSa G j rfl h2;exact k2 c Q λv w' β' q1 q2 q3=>hk _ _ w' β' (Ag.put ⟨λn hn=>by rw[k3];exact h1.t n hn,by rw[k3];exact h1.tl,by rw[k4];exact h1.fr,h1.m.trans k5⟩ (λn e=> .inl e)) k1 (q1.put q2) q3
 ·rw[dm (by rw[d];simp)];exact hk _ _ w β (h1.put (λn e=> .inl e)) h2 (j.put (x:= .l .und) (v:=undef) (λ_=>rfl)) (λ_=>Ext.refl w)
def bQs (G:Good P g Y TI FZ)(r:bL Y.C E s a w β){al:List Oper}{o:Oper}(hc:zF FZ o.op=0){K:St U->Option α}{z:α}(h:grd Y TI FZ al o s K=some z):
  ∃v s',((Region.wanted o (yielded al.toArray a.tmps)=true/\∀w',Ext w w'->(execOp a.eval o).run P w'= .ok (.value v) w')\/(Region.wanted o (yielded al.toArray a.tmps)=false/\v=undef))/\bL Y.C E s' (a.put o.dst v) w β/\K s'=some z/\Ag (Wr al o) s s':=by
 obtain⟨s1,d,h1,h2⟩:=aFq r h;rcases h2 with⟨c,h2⟩|⟨c,h2⟩
 ·unfold one at h2;obtain⟨x,s2,k1,⟨v,i,j,k⟩,k3,k4,k5⟩:=Ny G d rfl hc h2;exact⟨v,_, .inl ⟨c,i⟩,j.put (λ_=>k),k1,Ag.put ⟨λn hn=>by rw[k3];exact h1.t n hn,by rw[k3];exact h1.tl,by rw[k4];exact h1.fr,h1.m.trans k5⟩ (λn e=> .inl e)⟩
 ·exact⟨undef,_, .inr ⟨c,rfl⟩,d.put (x:= .l .und) (v:=undef) (λ_=>rfl),h2,h1.put (λn e=> .inl e)⟩
def o5 (G:Good P g Y TI FZ){al:List Oper}{Q:Exit->Act->World->Prop}{D:Nat->Prop}:∀(l:List Oper) (s:St U) (K:St U->Option α) (z:α),(∀o∈l,∀n,Wr al o n->D n)->ops Y TI FZ al l s K=some z->
  ∀(rest:List Oper),(∀s' a w β,Ag D s s'->K s'=some z->bL Y.C E s' a w β->wpList P al.toArray Q rest a w)->∀a w β,bL Y.C E s a w β->wpList P al.toArray Q (l++rest) a w
 |[],s,K,z,_,h,rest,hk,a,w,β,r=>hk s a w β (Ag.refl s) h r
 |o::l,s,K,z,e,h,rest,hk,a,w,β,r=>by
  simp only[ops] at h;refine wpList_step λv c=>aUu G r h λs' i w' β' q1 q2 q3 _=>c _ _ ?_
  have d:=q1.mono (e o (by simp));exact o5 G l s' K z (λo ho=>e o (by simp[ho])) q2 rest (λs2 j k β2 p q t=>hk s2 j k β2 (d.trans p) q t) i w' β' q3
end
end Go.EV
namespace Go.EV
open Go.RowKit Go.VK
variable {U:Uni} {Y:Lay U} {TI:List (Nat×TInfo)} {FZ:List (Nat×Sum U)} {P:Program} {g:GI} {E:Env U g}
def Env.frm (E:Env U g)(l:List (World×Nat×Nat)):Env U g:=⟨E.X0,E.Y0,E.w0,E.prm,l,E.h0,E.hY,E.hXY,E.hg,E.pin⟩
section
variable {C:Cod U} {s:St U} {a:Act} {w w':World} {β:List Tr}
def bL.frame (r:bL C E s a w β)(hp:E.prm=[]):bL C (E.frm [(w,s.m.o.length,s.m.k)]) s a w β:=by
 have H:=r.hp;refine⟨⟨H.ext,H.len,H.vers,H.cnt,H.new,H.dist,H.nd,H.ok,H.pin,λx hx=> ?_,λf d=> ?_⟩,r.defers,r.tsz,r.tm⟩
 ·have e:x∈E.prm:=hx;simp_all
 ·have c:f∈[(w,s.m.o.length,s.m.k)]:=d;simp at c;subst c;refine⟨ak _,ak _,ak _, .inr ⟨Ext.refl w,λi t b hi ht _=> ?_⟩⟩;have h1:=lt_of_some ht;have h2:s.m.o.length<=i:=hi;rw[H.len] at h1;omega
def bL.aCJ {l:List (World×Nat×Nat)}(r:bL C (E.frm l) s a w β)(c:E.fr=[]):bL C E s a w β:=by
 have H:=r.hp;exact⟨⟨H.ext,H.len,H.vers,H.cnt,H.new,H.dist,H.nd,H.ok,H.pin,λx hx=>by
  obtain⟨h1,h2,_,d⟩:=H.prm x hx;exact⟨h1,h2,by rw[c];simp,d⟩,by simp[*]⟩,r.defers,r.tsz,r.tm⟩
def aXg:∀{n k:Nat} {o:List (EO U)},unt n k o=true->∀(j:Nat) (e:EO U),j<n->o[j]? =some e->e.cv<=k
 |0,_,_,_,j,_,h,_=>by omega
 |_+1,_,[],_,j,e,_,h=>by simp at h
 |n+1,k,x::o,h,j,e,hj,he=>by
  simp only[unt,aa] at h;cases j with
  |zero=>have:=aj he;subst this;exact bc h.1
  |succ j=>exact aXg h.2 j e (by omega) (by simpa using he)
def bL.unt (r:bL C E s a w β){f:World×Nat×Nat}(d:f∈E.fr)(h:unt f.2.1 f.2.2 s.m.o=true):Ext f.1 w:=by
 obtain⟨_,_,_,c⟩:=r.hp.fr f d;rcases c with⟨j,e,h1,h2,c⟩|⟨c,_⟩
 ·have:=aXg h j e h1 h2;omega
 ·exact c
def Env.ahd (E:Env U g)(b:Nat)(blk:Obj)(hb:E.w0.heap.size<=b):Env U g:=
 ⟨λb'=>E.X0 b'\/b'=b,E.Y0,E.w0,(b,blk)::E.prm,E.fr,λb' h=>by
  rcases h with h|rfl
  ·rcases E.h0 b' h with h|⟨x,hx,e⟩
   ·exact .inl h
   ·exact .inr ⟨x,by simp[hx],e⟩
  ·exact .inr ⟨(b',blk),cN,rfl⟩,E.hY,λb' h c=>by
  rcases h with h|rfl
  ·exact E.hXY b' h c
  ·have:=E.hY _ c;omega,E.hg,E.pin⟩
theorem bCu {b:Nat}{blk:Obj}{hb:E.w0.heap.size<=b}{β:List Tr}{b':Nat}:(E.ahd b blk hb).X β b'↔E.X β b'\/b'=b:=by
 unfold Env.X;constructor
 ·rintro((h|h)|h|h)
  ·simp[*]
  ·exact .inr h
  ·exact .inl (.inr (.inl h))
  simp[*]
 ·rintro((h|h|h)|h)
  ·exact .inl (.inl h)
  ·exact .inr (.inl h)
  ·simp[*]
  ·exact .inl (.inr h)
def bL.ahead (r:bL C E s a w β){blk:Obj}(hb:E.w0.heap.size<=w.heap.size):bL C (E.ahd w.heap.size blk hb) s a (w.alloc blk) β:=by
 have H:=r.hp;have he:Ext w (w.alloc blk):=Ext.alloc _ _;have d:(w.alloc blk).heap[w.heap.size]? =some blk:=by show(w.heap.push blk)[w.heap.size]? =some blk;simp
 have ev:Evo w (w.alloc blk) (E.X β) ((E.ahd w.heap.size blk hb).X β) β β s.m s.m s.m.o.length s.m.ns.length s.m.k:=⟨he.size,(by grind[bCu]),λ_ _ _ h=>he.cell h,ak _,(by grind),λi e t _ h1 h2=>⟨e,t,h1,h2,λ_=>⟨rfl,rfl⟩,λ_=>⟨rfl,rfl,rfl,λb hb=>he.block b (H.new i t b h2 hb).2⟩,λh=>⟨h,rfl⟩⟩⟩;refine⟨⟨H.ext.trans (Bel.aBM he),H.len,H.vers,H.cnt,λi t b h1 h2=>⟨(H.new i t b h1 h2).1,cf (H.new i t b h1 h2).2 he.size⟩,H.dist,H.nd,λi t e h1 h2=>Ob.aBF ev (H.ok i t e h1 h2) λb hb=>he.block b (H.new i t b h1 hb).2,λx hx=>Sv.aAW ev (H.pin x hx),λx hx=> ?_,λf j=> ?_⟩,r.defers,r.tsz,λn x hx=>Sv.aAW ev (r.tm n x hx)⟩
 ·have c:x∈(w.heap.size,blk)::E.prm:=hx;rcases bf.1 c with rfl|c
  ·refine⟨hb,d,λf j=> ?_,λi t ht hm=> ?_⟩
   ·exact(H.fr f j).2.2.1
   ·have:=(H.new i t _ ht hm).2;omega
  ·obtain⟨h1,h2,l,p⟩:=H.prm x c;exact⟨h1,(he.block _ (ca.1 h2).1).trans h2,l,p⟩
 ·obtain⟨h1,h2,h0,l⟩:=H.fr f j;exact⟨h1,h2,bz h0 he.size,l.imp id λq=>⟨q.1.trans he,q.2⟩⟩
def bL.aDT {b:Nat}{blk:Obj}{hb:E.w0.heap.size<=b}(r:bL C (E.ahd b blk hb) s a w β):bL C E s a w β:=by have H:=r.hp;have ev:Evo w w ((E.ahd b blk hb).X β) (E.X β) β β s.m s.m s.m.o.length s.m.ns.length s.m.k:=⟨ak _,(by grind[bCu,inl]),λ_ _ _ h=>h,ak _,(by grind),(by grind)⟩;exact⟨⟨H.ext,H.len,H.vers,H.cnt,H.new,H.dist,H.nd,λi t e h1 h2=>Ob.aBF ev (H.ok i t e h1 h2) λb hb=>rfl,λx hx=>Sv.aAW ev (H.pin x hx),λx hx=>H.prm x (cJ _ hx),H.fr⟩,r.defers,r.tsz,λn x hx=>Sv.aAW ev (r.tm n x hx)⟩
def bL.aDD {b:Nat}{blk:Obj}{hb:E.w0.heap.size<=b}(r:bL C (E.ahd b blk hb) s a w β)(J:E.prm=[]){e':EO U}{t':Tr}{c:Nat}(hk:s.m.k<=c)(hv:e'.rv<=c/\e'.cv<=c)(ht:t'.all=[b])
  (A:Evo w w ((E.ahd b blk hb).X β) (E.X (β++[t'])) β (β++[t']) s.m ⟨s.m.o++[e'],c,s.m.ns⟩ s.m.o.length s.m.ns.length s.m.k->w.heap[b]? =some blk->e'.ob.ok C w (E.X (β++[t'])) (β++[t']) ⟨s.m.o++[e'],c,s.m.ns⟩ t'):
  bL C E ⟨s.t,⟨s.m.o++[e'],c,s.m.ns⟩,s.fr⟩ a w (β++[t']):=by
 have H:=r.hp;have hlen:=H.len;obtain⟨_,B,F,L⟩:=H.prm (b,blk) cN;have G:b<w.heap.size:=(ca.1 B).1;have ev:Evo w w ((E.ahd b blk hb).X β) (E.X (β++[t'])) β (β++[t']) s.m ⟨s.m.o++[e'],c,s.m.ns⟩ s.m.o.length s.m.ns.length s.m.k:=by
  refine⟨ak _,λb' _ h=>bCu.2 ?_,λ_ _ _ h=>h,hk,(by grind),(by grind)⟩
  ·rcases h with h|h|⟨u,l,hm⟩
   ·exact .inl (.inl h)
   ·exact .inl (.inr (.inl h))
   ·rcases bp.1 l with l|l
    ·exact .inl (.inr (.inr ⟨u,l,hm⟩))
    simp_all
  all_goals grind
 have hb':∀(i:Nat) (t:Tr),(β++[t'])[i]? =some t->β[i]? =some t\/(i=β.length/\t=t'):=(by grind[List.getElem?_append_left,inl,lt_of_some]);have d:∀(i:Nat) (e:EO U),(s.m.o++[e'])[i]? =some e->s.m.o[i]? =some e\/(i=s.m.o.length/\e=e'):=(by grind[List.getElem?_append_left,inl,lt_of_some]);refine⟨⟨H.ext,by simp[hlen],λi e he=> ?_,H.cnt,λi t x h1 h2=> ?_,λi j t u x p h1 h2 q I=> ?_,λi t h1=> ?_,λi t e h1 h2=> ?_,λx hx=>Sv.aAW ev (H.pin x hx),(by simp[*]),λf y=> ?_⟩,r.defers,r.tsz,λn x hx=>Sv.aAW ev (r.tm n x hx)⟩
 ·rcases d i e he with h|⟨_,rfl⟩
  ·have:=H.vers i e h;grind
  ·exact hv
 ·rcases hb' i t h1 with h|⟨_,rfl⟩
  ·exact H.new i t x h h2
  simp_all
 ·rcases hb' i t h1 with h|⟨z,rfl⟩<;>rcases hb' j u h2 with v|⟨O,rfl⟩
  ·exact H.dist i j t u x p h v q I
  all_goals grind
 ·rcases hb' i t h1 with h|⟨_,rfl⟩
  ·exact H.nd i t h
  simp[*]
 ·rcases hb' i t h1 with h|⟨z,rfl⟩
  ·rcases d i e h2 with v|⟨z,_⟩
   ·exact Ob.aBF ev (H.ok i t e h v) λ_ _=>rfl
   simp_all
  simp_all
 ·obtain⟨h1,h2,h0,q⟩:=H.fr f y;refine⟨by simp;omega,bz h2 hk,h0,?_⟩;rcases q with⟨j,e,q1,q2,q3⟩|⟨q1,q2⟩
  ·grind
  ·refine .inr ⟨q1,λi t x hi h1 hx=> ?_⟩;rcases hb' i t h1 with h|⟨_,rfl⟩
   ·grind
   ·rw[ht] at hx;simp at hx;subst hx;exact F f y
def mkF (op:Op)(b:Nat):Value:=match op with
 | .buildSlice _ n _=> .slice (some ⟨b,0,none⟩) n n
 |_=> .pointer (some ⟨b,0,none⟩)
def Flp (P:Program)(a:Act)(o:Oper)(blk:Obj):Prop:=∀w:World,(execOp a.eval o).run P w= .ok (.value (mkF o.op w.heap.size)) (w.alloc blk)
def bAc {γ:Type}{x:Option γ}(h:(!Jj x)=true):∃y,x=some y:=by
 cases x with
 |none=>cases h
 |some y=>simp
def R8 (c:sF P TI=true){o:Oper}{T:TypeId}{i:TInfo}(ho:o.op= .alloc T)(d:kD TI T=some i):∃vs:Array Value,Flp P a o (.cells vs T)/\∀(w:World) (X:Nat->Prop) (β:List Tr) (m:Mm U),Ms Y.C w X β m vs.toList (i.z.map Kz.lf):=by obtain⟨j,z,k3,k4,k5⟩:=aKu (bX c d);refine⟨z.cells,λw=> ?_,λw X β m=>Tw k5⟩;simp_all[execOp,Instr.alloc,zeroValue,typeInfo,k3,k4,newVar,newRow,mkF]
def Ty {T:TypeId}(h:Eo Y TI s (.alloc T)=true):∃i,kD TI T=some i:=bAc h
def Tz {t:TypeId}{n:Nat}{ps:Array (Nat×Operand)}(h:Eo Y TI s (.buildSlice t n ps)=true):∃e ek eb k c l d,kD TI t=some ⟨.sl e ek eb,k,c⟩/\ps.toList.length=n/\n*ek<=16777216/\Je (U:=U) e ek e=true/\Tq Y s e 0 ps.toList=some (l,[],d):=by
 unfold Eo at h;simp only at h;split at h
 ·rename_i e ek eb k c h1;simp only[aa,dK] at h;obtain⟨q1,q2,q3,q4⟩:=h;split at q4
  ·rename_i l d i;exact⟨e,ek,eb,k,c,l,d,h1,ah q1,bc q2,q3,i⟩
  ·cases q4
 ·cases h
def aFr (j:sF P TI=true)(hY:LayOk Y)(r:bL Y.C E s a w β){o:Oper}{t:TypeId}{n e ek eb k:Nat}{x:List Kz}{ps:Array (Nat×Operand)}{l:List (U.El e)}{d:Bool}(ho:o.op= .buildSlice t n ps)
  (h1:kD TI t=some ⟨.sl e ek eb,k,x⟩) (h2:ps.toList.length=n) (y:n*ek<=16777216) (q:Je (U:=U) e ek e=true) (z:Tq Y s e 0 ps.toList=some (l,[],d)):
  ∃cells:Array Value,Flp P a o (.cells cells e)/\0<U.K e/\n<=maxLen/\l.length=n/\cells.size=n*U.K e/\OwL Y.C w (E.X β) d cells.toList (l.map (Y.C.cel e)).flatten []:=by
 have c:=(Ae (bX j h1) rfl).1;obtain⟨_,_,_,_,_,_,_,_,h⟩:=gH c;simp only[Je,aa] at q;have i:U.K e=ek:=ah q.2;obtain⟨vs,k1,k2,k3,k4,k5⟩:=Nv hY r z;rw[i] at k4;have p:n<=maxLen:=by
  have:n*1<=n*ek:=fu _ h
  grind[maxLen]
 refine⟨(vs.map λv=>v.cells.toList).flatten.toArray,λw=> ?_,by rw[i];exact h,p,k3.trans h2,?_,by rw[List.toList_toArray];exact k5⟩
 ·obtain⟨cells,q1,q2⟩:=R4 (w:=w) c (k2.trans h2) y k1 k4 ho;have:cells=(vs.map λv=>v.cells.toList).flatten.toArray:=by rw[<-q2]
  grind[mkF,q1]
 ·have:=k5.len;rw[Ji (Y.C.hlen e),k3,h2] at this;assumption
def aSc (G:Good P g Y TI FZ)(r:bL Y.C E s a w β){o:Oper}(h:Eo Y TI s o.op=true):∃blk,Flp P a o blk:=by
 cases ho:o.op with
 |alloc T=>
  rw[ho] at h;obtain⟨i,c⟩:=Ty h;obtain⟨vs,k,_⟩:=R8 (Y:=Y) (a:=a) G.ti ho c
  grind
 |buildSlice t n ps=>
  rw[ho] at h;obtain⟨e,ek,eb,k,x,l,d,h1,h2,j,p,v⟩:=Tz h;obtain⟨cells,q,_⟩:=aFr G.ti G.lay r ho h1 h2 j p v
  grind
 |_=>rw[ho] at h;cases h
def Flp.keep {o:Oper}{blk:Obj}(h:Flp P a o blk){d:Option Nat}{v:Value}(hd:aZz o d=true):Flp P (a.put d v) o blk:=by
 have e:execOp (a.put d v).eval o=execOp a.eval o:=by
  cases d with
  |none=>rfl
  |some n=>
   have c:(match o.op with
    | .alloc _=>true
    | .buildSlice _ _ ps=>ps.toList.all λx=>match x.2 with| .tmp m=> !Nat.beq n m|_=>true
    |_=>false)=true:=hd
   cases ho:o.op with
   |alloc T=>grind[execOp]
   |buildSlice t m ps=>
    rw[ho] at c;simp only[ct] at c;have:ps.map (λ(i,x)=>(i,(a.put (some n) v).eval x))=ps.map (λ(i,x)=>(i,a.eval x)):=by
     apply Array.map_congr_left;intro x hx;have:=c x (by simpa using hx);obtain⟨i,x⟩:=x;simp only[cU,true_and];refine Act.eval_put λd hd j=> ?_
     simp_all
    grind[execOp]
   |_=>rw[ho] at c;cases c
 intro w;rw[e];exact h w
theorem bE3 {w:World}{x y:Obj}(h:w.alloc x=w.alloc y):x=y:=by
 have h1:w.heap.push x=w.heap.push y:=congrArg World.heap h;have h2:(w.heap.push x)[w.heap.size]? =(w.heap.push y)[w.heap.size]? :=by rw[h1]
 grind
def Flp.inj {o:Oper}{x y:Obj}(w:World)(h1:Flp P a o x)(h2:Flp P a o y):x=y:=by
 have:=(h1 w).symm.trans (h2 w)
 grind[bE3]
def bE4 (G:Good P g Y TI FZ){b:Nat}{blk:Obj}{hb:E.w0.heap.size<=b}(r:bL Y.C (E.ahd b blk hb) s a w β)(B:E.prm=[]){o:Oper}(F:Flp P a o blk)(hg:Eo Y TI s o.op=true){α:Type}{K:Sv U->St U->Option α}{z:α}(h:stp Y TI FZ s o.op K=some z):
  ∃x s' β',K x s'=some z/\bL Y.C E s' a w β'/\x.mean Y.C w (E.X β') β' s'.m (mkF o.op b)/\s'.t=s.t/\s'.fr=s.fr/\Am s.m s'.m:=by
 have hlen:=r.hp.len;cases ho:o.op with
 |alloc T=>
  rw[ho] at hg h;obtain⟨i,hi⟩:=Ty hg;obtain⟨vs,k,L⟩:=R8 (Y:=Y) (a:=a) G.ti ho hi;have c:=F.inj w k;subst c;have q:K (.l (.box (len s.m.o) 0)) (psh s (.box T (i.z.map Kz.lf) (i.z.map λ_=>s.m.k)))=some z:=by simp_all[stp,kD,len,psh,Kz.lf]
  have r':=r.aDD B (e':=⟨.box T (i.z.map Kz.lf) (i.z.map λ_=>s.m.k),s.m.k,s.m.k⟩) (t':=⟨some b,0,0,[]⟩) (ak _) (by grind) rfl (λp j=>⟨by simp,b,vs.toList,rfl,rfl,by simpa using j,L _ _ _ _⟩);refine⟨_,_,_,q,r',⟨rfl,⟨.box T (i.z.map Kz.lf) (i.z.map λ_=>s.m.k),s.m.k,s.m.k⟩,⟨some b,0,0,[]⟩,?_,?_,λ_=>⟨_,rfl,rfl⟩⟩,rfl,rfl,Am.add _ _⟩
  all_goals grind[List.getElem?_append_right,dK,psh]
 |buildSlice t n ps=>
  rw[ho] at hg h;obtain⟨e,ek,eb,k,V,l,d,h1,h2,H,I,J⟩:=Tz hg;obtain⟨cells,q1,q2,q3,q4,q5,q6⟩:=aFr G.ti G.lay r ho h1 h2 H I J;have c:=F.inj w q1;subst c;cases hpl:(!Jj (kD FZ 3000000)&&(!Nat.beq n 0&&aZu ([]:List Nat))) with
  |true=>
  have q:K (.l (.sl e l)) s=some z:=by
   have:stp Y TI FZ s (.buildSlice t n ps) K=bif Nat.beq (len ps.toList) n&&(Nat.ble (n*ek) 16777216&&Je (U:=U) e ek e) then(bif !Jj (kD FZ 3000000)&&(!Nat.beq n 0&&aZu ([]:List Nat)) then K (.l (.sl e l)) s else bif dist (len s.m.o::[]) then K (.l (.own (len s.m.o) s.m.k)) ⟨s.t,⟨upd (s.m.o++[⟨.dead,s.m.k,s.m.k⟩]) (len s.m.o) ⟨.tree e d l,s.m.k,Nat.succ s.m.k⟩,Nat.succ s.m.k,s.m.ns⟩,s.fr⟩ else none) else none:=by
    show(match kD TI t with
     |some ⟨.sl e ek _,_,_⟩=>_
     |_=>none)=_
    simp[*]
   grind
  obtain⟨_,O,_,W⟩:=r.hp.prm (b, .cells cells e) cN;refine⟨_,_,β,q,r.aDT,?_,rfl,rfl,Am.refl _⟩;refine Ow.rd (X:=(E.ahd b (.cells cells e) hb).X β) (Z:=E.X β) (by grind[bCu,inl]) (Ow.sl ⟨some b,n,n,[]⟩ q2 (by
   exact⟨by rw[q4,cQ,q5], .inr ⟨b,n,cells,by rw[q4];rfl,cD _,O,by rw[q4];exact ak _,q3,q5,by rw[q4];exact eI (by rw[cQ,q5];exact ak _)⟩⟩) q6) (λx hx hX=> ?_)
  simp[Tr.all] at hx;subst hx;rcases hX with hX|hX|⟨u,hu,hm⟩
  ·rcases E.h0 _ hX with hX|⟨y,hy,_⟩
   all_goals grind
  ·have:=E.hY _ hX;omega
  grind[List.mem_iff_getElem?]
  |false=>
  have v:∀A:List (EO U),A=s.m.o++[(⟨.tree e d l,s.m.k,Nat.succ s.m.k⟩:EO U)]->K (.l (.own (len s.m.o) s.m.k)) ⟨s.t,⟨A,Nat.succ s.m.k,s.m.ns⟩,s.fr⟩=some z:=λA S=>by
   have:stp Y TI FZ s (.buildSlice t n ps) K=bif Nat.beq (len ps.toList) n&&(Nat.ble (n*ek) 16777216&&Je (U:=U) e ek e) then(bif dist (len s.m.o::[]) then K (.l (.own (len s.m.o) s.m.k)) ⟨s.t,⟨upd (s.m.o++[⟨.dead,s.m.k,s.m.k⟩]) (len s.m.o) ⟨.tree e d l,s.m.k,Nat.succ s.m.k⟩,Nat.succ s.m.k,s.m.ns⟩,s.fr⟩ else none) else none:=by
    show(match kD TI t with
     |some ⟨.sl e ek _,_,_⟩=>_
     |_=>none)=_
    rw[h1];simp only;rw[J];simp only[hpl,ae];rfl
   rw[this,dK,h2] at h;rw[show Nat.beq n n=true from dq n,eN H,I] at h;simp only[dl,ac] at h;have hd:dist [len s.m.o]=true:=rfl;simp_all[dK,dY,eR,ak,gA,ac]
  have r':=r.aDD B (e':=⟨.tree e d l,s.m.k,Nat.succ s.m.k⟩) (t':=⟨some b,n,n,[]⟩) (eu _) (by grind) rfl (λp j=>by
   refine⟨q2,cells.toList,?_,q6.conv (ak _) p.hX (λ_ _ _ h=>h) (by simp)⟩;exact⟨by rw[q4,cQ,q5], .inr ⟨b,n,cells,by rw[q4];rfl,cD _,j,by rw[q4];exact ak _,q3,q5,by rw[q4];exact eI (by rw[cQ,q5];exact ak _)⟩⟩)
  refine⟨_,_,_,v _ rfl,r',⟨⟨eu _,rfl⟩,⟨.tree e d l,s.m.k,Nat.succ s.m.k⟩,⟨some b,n,n,[]⟩,?_,?_,λ_=>rfl⟩,rfl,rfl,?_⟩
  ·simp[dK]
  ·grind[List.getElem?_append_right,dK]
  ·have a1:=(Am.add s.m [(⟨.dead,s.m.k,s.m.k⟩:EO U)]).trans (Am.tree (ids:=[]) (i:=len s.m.o) (τ:=e) (d:=d) (l:=l) (rv:=s.m.k) _);have e1:(⟨Tn (Nat.succ s.m.k) [] (upd (s.m.o++[(⟨.dead,s.m.k,s.m.k⟩:EO U)]) (len s.m.o) ⟨.tree e d l,s.m.k,Nat.succ s.m.k⟩),Nat.succ s.m.k,s.m.ns⟩:Mm U)=⟨s.m.o++[⟨.tree e d l,s.m.k,Nat.succ s.m.k⟩],Nat.succ s.m.k,s.m.ns⟩:=by rw[dY,dK,eR _ _ (ak _),gA];rfl
   simp_all
 |_=>rw[ho] at hg;cases hg
end
end Go.EV
namespace Go.EV
open Go.RowKit Go.VK
variable {U:Uni} {C:Cod U} {P:Program} {g:GI} {E:Env U g}
def Ob.bd (N M K:Nat):Ob U->Prop
 | .box _ cs _=>∀c∈cs,c.bd N M K
 |_=>True
def lG (β:List Tr):Option Nat->Tr
 |some i=>match β[i]? with|some t=>t|none=>aFn
 |none=>aFn
inductive Src (N M K:Nat) (m:Mm U) (q:Option Nat) (j:Nat) (e':EO U):Prop
 |keep (hq:q=some j) (he:m.o[j]? =some e') (hb:e'.ob.bd N M K)
 |box (hq:q=some j) {e:EO U} {T:Nat} {cs cs':List (Lf U)} {vs vs':List Nat} (he:m.o[j]? =some e) (h1:e.ob= .box T cs vs) (h2:e'.ob= .box T cs' vs') (l1:cs'.length=cs.length) (l2:cs'.length=vs'.length) (hc:∀(i:Nat) (c:Lf U),cs'[i]? =some c->c= .any\/(cs[i]? =some c/\c.bd N M K)) (hv:K<e'.rv/\K<e'.cv)
 |dead (h:e'.ob= .dead) (hv:K<e'.rv/\K<e'.cv)
 |tree {i:Nat} {e:EO U} {τ:Nat} {d d':Bool} {l:List (U.El τ)} (hq:q=some i) (he:m.o[i]? =some e) (h1:e.ob= .tree τ d' l) (hd:d=true->d'=true) (h2:e'.ob= .tree τ d l) (hv:K<e'.rv/\K<e'.cv)
 |ti {e:EO U} {τ:Nat} {d d':Bool} {l:List (U.El τ)} (hq:q=some j) (he:m.o[j]? =some e) (h1:e.ob= .tree τ d' l) (hd:d=true->d'=true) (h2:e'.ob= .tree τ d l) (hr:e'.rv=e.rv) (hv:K<e'.cv)
 |nil {τ:Nat} {d:Bool} (hq:q=none) (h2:e'.ob= .tree τ d []) (hK:0<U.K τ) (hv:K<e'.rv/\K<e'.cv)
section
variable {m m':Mm U} {w:World} {β:List Tr} {σ:List (Option Nat)} {N M K:Nat}
def aCf {q:Option Nat}{b:Nat}(h:b∈(lG β q).all):∃i t,q=some i/\β[i]? =some t/\lG β q=t:=by
 cases q with
 |none=>simp[lG,qK] at h
 |some i=>
  cases hb:β[i]? with
  |none=>simp[lG,hb,qK] at h
  |some t=>exact⟨i,t,rfl,hb,by simp[lG,hb]⟩
def Hp.ren (H:Hp C E m β w)(hl:σ.length=m'.o.length)(hN:N<=m'.o.length)(G:∀(j j' i:Nat),σ[j]? =some (some i)->σ[j']? =some (some i)->j=j')(hk:K<=m'.k)
  (I:∀(i:Nat) (e:EO U),m'.o[i]? =some e->e.rv<=m'.k/\e.cv<=m'.k) (J:∀(a i:Nat),m'.ns[a]? =some (i,true)->(i:Int)+1<=9223372036854775807)
  (hn:∀(a i:Nat) (f:Bool),a<M->m.ns[a]? =some (i,f)->∃f',m'.ns[a]? =some (i,f'))
  (hs:∀(j:Nat) (q:Option Nat) (e':EO U),σ[j]? =some q->m'.o[j]? =some e'->Src N M K m q j e') (L:∀x∈E.pin,x.1.bd N M K) (O:E.fr=[]):
  Hp C E m' (σ.map (lG β)) w/\Evo w w (E.X β) (E.X (σ.map (lG β))) β (σ.map (lG β)) m m' N M K:=by
 have y:∀(j:Nat) (t:Tr),(σ.map (lG β))[j]? =some t->∃q,σ[j]? =some q/\t=lG β q:=λj t h=>by
  rw[bn] at h;cases hq:σ[j]? with
  |none=>simp[hq] at h
  |some q=>simp only[hq,dn,ai] at h;exact⟨q,rfl,h.symm⟩
 have hX:∀b,E.X (σ.map (lG β)) b->E.X β b:=by
  rintro b (h|h|⟨t,ht,hb⟩)
  ·exact .inl h
  ·exact .inr (.inl h)
  ·obtain⟨q,_,rfl⟩:=cr.1 ht;obtain⟨i,t,_,h2,z⟩:=aCf hb;rw[z] at hb;exact .inr (.inr ⟨t,aE h2,hb⟩)
 have A:Evo w w (E.X β) (E.X (σ.map (lG β))) β (σ.map (lG β)) m m' N M K:=by
  refine⟨ak _,λb _=>hX b,λ_ _ _ h=>h,hk,λa i f ha h=>hn a i f ha h,λi e t hi he ht=> ?_⟩;have S:i<m'.o.length:=cf hi hN;have h1:m'.o[i]? =some m'.o[i]:=ab S;have h2:σ[i]? =some (σ[i]'(by omega)):=ab _;have z:(σ.map (lG β))[i]? =some (lG β (σ[i]'(by omega))):=by rw[bn,h2];rfl
  refine⟨_,_,h1,z,?_⟩;have V:=hs i _ _ h2 h1;have big:K<(m'.o[i]).rv/\K<(m'.o[i]).cv->(m'.o[i]).ob.aAY=false->((m'.o[i]).rv<=K->(m'.o[i]).rv=e.rv/\(lG β (σ[i]'(by omega))).val=t.val)/\((m'.o[i]).cv<=K->(m'.o[i]).cv=e.cv/\(m'.o[i]).ob=e.ob/\lG β (σ[i]'(by omega))=t/\∀b∈t.all,w.heap[b]? =w.heap[b]?)/\((m'.o[i]).ob.aAY=true->e.ob.aAY=true/\(lG β (σ[i]'(by omega))).b=t.b):=λhv hb=>
   ⟨λh=>absurd h (by omega),λh=>absurd h (by omega),λh=>by rw[hb] at h;cases h⟩
  cases V with
  |keep hq r hb=>
   rw[he] at r;have e0:e=m'.o[i]:=aj r;have B:lG β (σ[i]'(by omega))=t:=by rw[hq];simp[lG,ht]
   rw[B,<-e0];exact⟨λ_=>⟨rfl,rfl⟩,λ_=>⟨rfl,rfl,rfl,λ_ _=>rfl⟩,λh=>⟨h,rfl⟩⟩
  |box hq r q1 q2 _ _ _ hv=>
   rw[he] at r;have e0:=aj r;have B:lG β (σ[i]'(by omega))=t:=by rw[hq];simp[lG,ht]
   rw[B];refine⟨λh=>absurd h (by omega),λh=>absurd h (by omega),λ_=>⟨?_,rfl⟩⟩;rw[e0,q1];rfl
  |dead h hv=>exact big hv (by rw[h];rfl)
  |tree _ _ _ _ h hv=>exact big hv (by rw[h];rfl)
  |ti hq r _ _ h hr hv=>
   rw[he] at r;have e0:=aj r;have B:lG β (σ[i]'(by omega))=t:=by rw[hq];simp[lG,ht]
   rw[B,e0];exact⟨λ_=>⟨hr,rfl⟩,λh=>absurd h (by omega),λhb=>by rw[h] at hb;cases hb⟩
  |nil _ h _ hv=>exact big hv (by rw[h];rfl)
 refine⟨⟨H.ext,by rw[bl,hl],I,J,?_,?_,?_,?_,λx hx=>Sv.aAZ A (L x hx) (H.pin x hx),λx hx=> ?_,λf hf=>by rw[O] at hf;simp at hf⟩,A⟩
 ·intro j t b ht hb;obtain⟨q,_,rfl⟩:=y j t ht;obtain⟨i,t,_,h2,z⟩:=aCf hb;rw[z] at hb;exact H.new i t b h2 hb
 ·intro j j' t u b W ht hu hb F;obtain⟨q,hq,rfl⟩:=y j t ht;obtain⟨q',Z,rfl⟩:=y j' u hu;obtain⟨i,t,B,h2,z⟩:=aCf hb;obtain⟨i',t',e1',h2',h3'⟩:=aCf F;rw[z] at hb;rw[h3'] at F;refine H.dist i i' t t' b (λe=>W ?_) h2 h2' hb F;subst e;subst B;subst e1';exact G j j' i hq Z
 ·intro j t ht;obtain⟨q,hq,rfl⟩:=y j t ht;cases q with
  |none=>rw[show lG β none=aFn from rfl,qK];exact gm
  |some i=>
   cases hb:β[i]? with
   |none=>simp[lG,hb,qK]
   |some t=>simp only[lG,hb];exact H.nd i t hb
 ·intro j t e' ht r;obtain⟨q,hq,rfl⟩:=y j t ht;cases hs j q e' hq r with
  |keep hq he hb=>
   subst hq;obtain⟨t,ht⟩:=H.tr he;simp only[lG,ht];have p:=H.ok j t e' ht he;generalize e'.ob=x at p hb ⊢;cases x with
   |dead=>trivial
   |box T cs us=>obtain⟨h0,b,vs,h1,h2,z,h4⟩:=p;exact⟨h0,b,vs,h1,h2,z,h4.evo A hb⟩
   |tree τ d l=>obtain⟨h1,xs,h2,z⟩:=p;exact⟨h1,xs,h2,z.conv (ak _) (λb _=>hX b) (λ_ _ _ h=>h) (λ_ _=>rfl)⟩
  |box hq he h1 h2 l1 l2 hc hv=>
   subst hq;obtain⟨t,ht⟩:=H.tr he;simp only[lG,ht];have p:=H.ok j t _ ht he;rw[h1] at p;rw[h2];obtain⟨h0,b,vs,k1,k2,k3,k4⟩:=p;refine⟨l2,b,vs,k1,k2,k3,by rw[k4.1,l1],λi v c hv hc'=> ?_⟩
   rcases hc i c hc' with rfl|⟨hc1,hc2⟩
   ·trivial
   ·exact Lf.aAZ A hc2 (k4.2 i v c hv hc1)
  |dead h hv=>rw[h];trivial
  |tree hq he h1 hd h2 hv=>subst hq;obtain⟨t,ht⟩:=H.tr he;simp only[lG,ht];have p:=H.ok _ t _ ht he;rw[h1] at p;rw[h2];obtain⟨k1,xs,k2,k3⟩:=p;exact⟨k1,xs,k2,(k3.fl hd).conv (ak _) (λb _=>hX b) (λ_ _ _ h=>h) (λ_ _=>rfl)⟩
  |ti hq he h1 hd h2 hr hv=>subst hq;obtain⟨t,ht⟩:=H.tr he;simp only[lG,ht];have p:=H.ok _ t _ ht he;rw[h1] at p;rw[h2];obtain⟨k1,xs,k2,k3⟩:=p;exact⟨k1,xs,k2,(k3.fl hd).conv (ak _) (λb _=>hX b) (λ_ _ _ h=>h) (λ_ _=>rfl)⟩
  |nil hq h2 hK hv=>subst hq;rw[h2];exact⟨hK,[],World.ownsRow_nil w 0 _ _, .n⟩
 ·obtain⟨h1,h2,z,h4⟩:=H.prm x hx;refine⟨h1,h2,z,λj t ht hb=> ?_⟩;obtain⟨q,_,rfl⟩:=y j t ht;obtain⟨i,t,_,q2,q3⟩:=aCf hb;rw[q3] at hb;exact h4 i t q2 hb
end
end Go.EV
namespace Go.EV
open Go.RowKit Go.VK
variable {U:Uni} {Y:Lay U} {P:Program} {g:GI} {E:Env U g}
def Dhd:{x:DI}->{xs:List DI}->Dat U (x::xs)->x.ty U
 |_,[],d=>d
 |_,_::_,d=>d.1
def Dtl:{x:DI}->{xs:List DI}->Dat U (x::xs)->Dat U xs
 |_,[],_=>()
 |_,_::_,d=>d.2
def nO {s:St U}{x:DI}{xs:List DI}{d:Dat U (x::xs)}(h:gets Y s (x::xs)=some d):aUc Y s x=some (Dhd d)/\gets Y s xs=some (Dtl d):=by
 cases xs with
 |nil=>exact⟨h,rfl⟩
 |cons c xs=>
  simp only[gets] at h;cases h1:aUc Y s x with
  |none=>simp_all
  |some a=>
   cases h2:gets Y s (c::xs) with
   |none=>simp_all
   |some b=>rw[h1,h2] at h;have:=aj h;subst this;exact⟨rfl,rfl⟩
def vE {k:Nat}{x:DI}{xs:List DI}{d:Dat U (x::xs)}{o:List (EO U)}:aI9 k (x::xs) d o=aI9 k xs (Dtl d) (aLx k x (Dhd d) o):=by
 cases xs with
 |nil=>rfl
 |cons=>rfl
def aSd {k n:Nat}{x:DI}{xs:List DI}{d:Dat U (x::xs)}{s:St U}:sets Y k n s (x::xs) d=sets Y k (nxt n x) (set1 Y k n s x (Dhd d)) xs (Dtl d):=by
 cases xs with
 |nil=>rfl
 |cons=>rfl
theorem Ua {k:Nat}:∀{l:List (Nat×Nat)} {o:List (EO U)},(Rc k l o).length=o.length
 |[],o=>rfl
 |x::l,o=>by
  have e:Rc k (x::l) o=match nth (Rc k l o) x.1 with|some ⟨.box T cs vs,_,_⟩=>upd (Rc k l o) x.1 ⟨.box T (upd cs x.2 .any) (upd vs x.2 k),k,k⟩|_=>Rc k l o:=rfl
  rw[e];split
  ·rw[dY,aq];exact Ua
  ·exact Ua
def Aj {k:Nat}{o:List (EO U)}{j:Nat}{e:EO U}(he:o[j]? =some e):∀(l:List (Nat×Nat)),∃e',(Rc k l o)[j]? =some e'/\((e.ob.aAY=false\/hasB j l=false)->e'=e)/\
  (∀T cs vs,e.ob= .box T cs vs->∃cs' vs',e'.ob= .box T cs' vs'/\cs'.length=cs.length/\vs'.length=vs.length/\(hasB j l=true->e'.rv=k/\e'.cv=k)/\
   ∀i,(aP6 j i l=true->∀c,cs'[i]? =some c->c= .any)/\(aP6 j i l=true->∀v,vs'[i]? =some v->v=k)/\(aP6 j i l=false->cs'[i]? =cs[i]? /\vs'[i]? =vs[i]?))
 |[]=>⟨e,he,λ_=>rfl,λT cs vs h=>⟨cs,vs,h,rfl,rfl,λh=>(by cases h),λi=>⟨λh=>(by cases h),λh=>(by cases h),λ_=>⟨rfl,rfl⟩⟩⟩⟩
 |(b,p)::l=>by
  obtain⟨n,h1,h2,q⟩:=Aj he l;have e0:Rc k ((b,p)::l) o=match nth (Rc k l o) b with|some ⟨.box T cs vs,_,_⟩=>upd (Rc k l o) b ⟨.box T (upd cs p .any) (upd vs p k),k,k⟩|_=>Rc k l o:=rfl
  have eB:hasB j ((b,p)::l)=cond (Nat.beq b j) true (hasB j l):=rfl;have eA:∀i,aP6 j i ((b,p)::l)=cond (Nat.beq b j&&Nat.beq p i) true (aP6 j i l):=λ_=>rfl;rw[e0,eB];simp only[eA];by_cases hb:b=j
  ·subst hb;have d:Nat.beq b b=true:=dq b;rw[aZ,h1,d];obtain⟨ob,rv,cv⟩:=n;cases ob with
   |box r cs1 vs1=>
    refine⟨⟨.box r (upd cs1 p .any) (upd vs1 p k),k,k⟩,by show(upd (Rc k l o) b _)[b]? =_;rw[dY,ba (lt_of_some h1)],λh=> ?_,λT cs vs h=> ?_⟩
    ·rcases h with h|h
     ·have:=h2 (.inl h);subst this;cases h
     ·cases h
    ·obtain⟨cs',vs',k1,k2,k3,k4,k5⟩:=q T cs vs h;injection k1 with q1 q2 q3;subst q1;subst q2;subst q3;refine⟨_,_,rfl,by rw[dY,aq,k2],by rw[dY,aq,k3],λ_=>⟨rfl,rfl⟩,λi=> ?_⟩
     grind[Nat.beq,absurd,Nat.eq_of_beq_eq_true,dY,List.getElem?_set_ne,k5,Nat.beq_refl,Bool.and_self,lt_of_some,List.getElem?_set_self,Option.some.inj]
   |dead=>simp_all
   |tree=>simp_all
  grind[Nat.beq,absurd,Nat.eq_of_beq_eq_true,dY,List.getElem?_set_ne]
def aSe {cs:List (Nat×Nat)}{k b:Nat}:∀{j:Nat} {vs:List Nat},bL3 cs k b j vs=true->∀(i v:Nat),vs[i]? =some v->v<=k\/aP6 b (j+i) cs=true
 |j,[],_,i,v,h=>by simp at h
 |j,x::vs,h,i,v,hv=>by
  simp only[bL3,aa,cp] at h;cases i with
  |zero=>simp at hv;subst hv;exact h.1.imp bc id
  |succ i=>have:=aSe h.2 i v (by simpa using hv);rwa [show Nat.succ j+i=j+(i+1) by omega] at this
def aSf {cs:List (Nat×Nat)}{dd:List Nat}{k:Nat}:∀{i:Nat} {es es':List (EO U)},aZv cs dd k i es es'=true->∀(j:Nat) (e:EO U),es[j]? =some e->∃e',es'[j]? =some e'/\(e'.cv<=k\/(i+j)∈dd\/∃T c vs,e'.ob= .box T c vs/\hasB (i+j) cs=true/\∀(p v:Nat),vs[p]? =some v->v<=k\/aP6 (i+j) p cs=true)
 |i,[],es',_,j,e,h=>by simp at h
 |i,x::es,[],h,j,e,he=>by cases h
 |i,x::es,y::es',h,j,e,he=>by
  simp only[aZv,aa,cp] at h;cases j with
  |zero=>
   refine⟨y,rfl,?_⟩;rcases h.1 with h1|h1|h1
   ·exact .inl (bc h1)
   ·exact .inr (.inl (qJ.1 h1))
   ·refine .inr (.inr ?_);obtain⟨ob,rv,cv⟩:=y;cases ob with
    |box T c vs=>simp only[aa] at h1;exact⟨T,c,vs,rfl,h1.1,λp v hv=>by have:=aSe h1.2 p v hv;rwa [cx] at this⟩
    |_=>cases h1
  |succ j=>obtain⟨e',q1,q2⟩:=aSf h.2 j e (by simpa using he);rw[show Nat.succ i+j=i+(j+1) by omega] at q2;exact⟨e',by simpa using q1,q2⟩
def sg0 (dd:List Nat)(N:Nat):List (Option Nat):=(List.range N).map λj=>if j∈dd then none else some j
theorem bCw {dd:List Nat}{N:Nat}:(sg0 dd N).length=N:=by simp[sg0]
def aKx {dd:List Nat}{N j:Nat}{q:Option Nat}(h:(sg0 dd N)[j]? =some q):j<N/\((j∈dd/\q=none)\/(j∉dd/\q=some j)):=by
 grind[inl,Option.some.injEq,sg0,List.getElem?_range,lt_of_some,bCw]
structure Inv (N M K k:Nat) (m:Mm U) (σ:List (Option Nat)) (o:List (EO U)):Prop where
 len:σ.length=o.length
 ge:N<=o.length
 inj:∀(j j' i:Nat),σ[j]? =some (some i)->σ[j']? =some (some i)->j=j'
 ver:∀(i:Nat) (e:EO U),o[i]? =some e->e.rv<=k/\e.cv<=k
 src:∀(j:Nat) (q:Option Nat) (e':EO U),σ[j]? =some q->o[j]? =some e'->Src N M K m q j e'
section
variable {C:Cod U} {b s:St U} {a a0:Act} {w w0:World} {β β0:List Tr} {D:Nat->Prop}
def bL.obd (r:bL C E b a0 w0 β0){j:Nat}{e:EO U}(h:b.m.o[j]? =some e):e.ob.bd b.m.o.length b.m.ns.length b.m.k:=by
 obtain⟨t,ht⟩:=r.hp.tr h;have:=r.hp.ok j t e ht h;generalize e.ob=x at this ⊢;cases x with
 |box T cs vs=>obtain⟨_,b',vs',_,_,_,c⟩:=this;exact c.bd
 |_=>trivial
def inv0 (r:bL C E b a0 w0 β0)(t:Am b.m s.m){cs:List (Nat×Nat)}{dd:List Nat}(hc:aZv cs dd b.m.k 0 b.m.o s.m.o=true):
  Inv b.m.o.length b.m.ns.length b.m.k (Nat.succ b.m.k) s.m (sg0 dd b.m.o.length) (Rc (Nat.succ b.m.k) cs (Tn (Nat.succ b.m.k) dd b.m.o)):=by
 have hlen:(Rc (Nat.succ b.m.k) cs (Tn (Nat.succ b.m.k) dd b.m.o)).length=b.m.o.length:=by rw[Ua,Nu]
 refine⟨by rw[bCw,hlen],by omega,λj j' i h1 h2=> ?_,λj e' d=> ?_,λj q e' hq d=> ?_⟩
 ·obtain⟨_,h1⟩:=aKx h1;obtain⟨_,h2⟩:=aKx h2;simp_all
 ·have hl:j<b.m.o.length:=by have:=lt_of_some d;rwa [hlen] at this
  by_cases hd:j∈dd
  ·obtain⟨l,h1,h2,_⟩:=Aj (k:=Nat.succ b.m.k) (aFm (k:=Nat.succ b.m.k) hd hl) cs;rw[d] at h1;have:=aj h1;subst this;rw[h2 (.inl rfl)];simp
  ·have h0:=zG (k:=Nat.succ b.m.k) (o:=b.m.o) hd;rw[ab hl] at h0;have hv:=r.hp.vers j _ (ab hl);obtain⟨l,h1,h2,z⟩:=Aj (k:=Nat.succ b.m.k) h0 cs;rw[d] at h1;have:=aj h1;subst this;by_cases hk:(b.m.o[j]).ob.aAY=false\/hasB j cs=false
   ·grind
   ·cases ho:(b.m.o[j]).ob with
    |box T c vs=>
     grind
    |_=>exact absurd (.inl (by rw[ho];rfl)) hk
 ·obtain⟨hl,hq⟩:=aKx hq;rcases hq with⟨hd,rfl⟩|⟨hd,rfl⟩
  ·obtain⟨l,h1,h2,_⟩:=Aj (k:=Nat.succ b.m.k) (aFm (k:=Nat.succ b.m.k) hd hl) cs;rw[d] at h1;have:=aj h1;subst this;rw[h2 (.inl rfl)];exact .dead rfl (by grind)
  ·have hb:b.m.o[j]? =some b.m.o[j]:=ab hl;have h0:(Tn (Nat.succ b.m.k) dd b.m.o)[j]? =some b.m.o[j]:=by grind[zG]
   obtain⟨l,h1,h2,z⟩:=Aj (k:=Nat.succ b.m.k) h0 cs;rw[d] at h1;have:=aj h1;subst this;obtain⟨es,hs1,e⟩:=aSf hc j _ hb;rw[cx] at e;obtain⟨am1,am2,am3⟩:=t.o j _ es hb hs1;by_cases hk:(b.m.o[j]).ob.aAY=false\/hasB j cs=false
   ·have he:=h2 hk;rw[he];refine .keep rfl ?_ (r.obd hb);rcases e with h|h|⟨T,c,vs,h,F,_⟩
    ·grind
    ·grind
    ·rcases hk with hk|hk
     ·rw[am2 (by rw[h];rfl)] at hk;cases hk
     grind
   ·have G:hasB j cs=true:=by
     grind
    cases ho:(b.m.o[j]).ob with
    |box T c vs=>
     obtain⟨cs',vs',k1,k2,k3,k4,k5⟩:=z T c vs ho;obtain⟨q1,q2⟩:=k4 G;have n:c.length=vs.length:=r.aCA (b:=j) (T:=T) (rv:=(b.m.o[j]).rv) (cv:=(b.m.o[j]).cv) (by rw[hb,<-ho]);have p:=r.obd hb;rw[ho] at p;have hv:b.m.k<e'.rv/\b.m.k<e'.cv:=by omega
     have cell:∀(cS:List (Lf U)),(∀(i:Nat),aP6 j i cs=false->i<c.length->cS[i]? =c[i]?)->∀(i:Nat) (x:Lf U),cs'[i]? =some x->x= .any\/(cS[i]? =some x/\x.bd b.m.o.length b.m.ns.length b.m.k):=λcS L i x hx=>by
      cases A:aP6 j i cs with
      |true=>grind
      |false=>have v:=((k5 i).2.2 A).1;rw[hx] at v;have y:i<c.length:=lt_of_some v.symm;exact .inr ⟨(by grind),p x (aE v.symm)⟩
     rcases e with h|h|⟨H,B,vs1,h,_,F⟩
     ·have l:=am1 h;exact .box rfl hs1 (by rw[l];exact ho) k1 k2 (by rw[k2,k3,n]) (by grind) hv
     ·grind
     ·obtain⟨I,J,O,S⟩:=am3 T c vs H B vs1 ho h;refine .box rfl hs1 (by rw[h,I]) k1 (by rw[k2,J]) (by rw[k2,k3,n]) (cell B (λi A y=> ?_)) hv
      grind
    |_=>exact absurd (.inl (by rw[ho];rfl)) hk
def sgm:List (Option Nat×Option Nat)->List (Option Nat)->List (Option Nat)
 |[],σ=>σ
 |(some i,x)::q,σ=>sgm q (σ.set i x)
 |(none,x)::q,σ=>sgm q (σ++[x])
def Plc (k:Nat)(σ:List (Option Nat))(o:List (EO U))(s:St U):Nat->List DI->Prop
 |_,[]=>True
 |n, .tr l i τ d::xs=>(∃v q e,lkp s l=some v/\xE s.m τ d v=some q/\σ[i]? =some q.1/\o[i]? =some e/\e.rv=k)/\Plc k σ o s n xs
 |n, .nt l τ d::xs=>(∃v q e,lkp s l=some v/\xE s.m τ d v=some q/\σ[n]? =some q.1/\o[n]? =some e/\e.rv=k)/\Plc k σ o s (Nat.succ n) xs
 |n,_::xs=>Plc k σ o s n xs
def aFs {x:Option Nat×Option Nat}{q:List (Option Nat×Option Nat)}:Io (x::q)=(match x.2 with|some i=>i::Io q|none=>Io q):=by obtain⟨x1,x2⟩:=x;cases x2<;>rfl
def aMh {m:Mm U}{N M K k:Nat}{τ:Nat}{d:Bool}{v:Sv U}{q:Option Nat×List (U.El τ)}(h:xE m τ d v=some q)(hk:K<k){j:Nat}:Src N M K m q.1 j ⟨.tree τ d q.2,k,k⟩:=by
 unfold xE at h;split at h
 ·cases hb:Nat.ble 1 (U.K τ) with
  |false=>simp_all
  |true=>rw[hb] at h;have:=aj h;subst this;exact .nil rfl rfl (bc hb) ⟨hk,hk⟩
 ·rename_i i r;rw[aZ] at h;split at h
  ·rename_i τ' d' l rv cv he;cases hb:(Nat.beq rv r&&(d'|| !d)) with
   |false=>simp_all
   |true=>
    rw[hb] at h;simp only[ac] at h;cases hq:slq τ τ' l with
    |none=>simp_all
    |some l'=>rw[hq] at h;have:=aj h;subst this;obtain⟨rfl,hl⟩:=nH hq;have hl:=eg hl;subst hl;simp only[aa,cp] at hb;refine .tree rfl he rfl (λhd=> ?_) rfl ⟨hk,hk⟩;simp_all
  ·cases h
 ·cases h
def bIp {m:Mm U}{N M K k i:Nat}{τ:Nat}{d:Bool}{l:List (U.El τ)}(h:bQj m i τ d=some l)(hk:K<k):Src N M K m (some i) i ⟨.tree τ d l,0,k⟩:=by
 unfold bQj at h;rw[aZ] at h;split at h
 ·rename_i τ' d' l' rv cv he;cases hb:(Nat.beq rv 0&&(d'|| !d)) with
  |false=>simp_all
  |true=>rw[hb] at h;simp only[ac] at h;obtain⟨rfl,hl⟩:=nH h;have hl:=eg hl;subst hl;simp only[aa,cp] at hb;refine .ti rfl he rfl (λhd=> ?_) rfl (ah hb.1).symm hk;simp_all
 ·cases h
def Inv.set {N M K k:Nat}{m:Mm U}{σ:List (Option Nat)}{o:List (EO U)}(h:Inv N M K k m σ o){i:Nat}{q:Option Nat}{e:EO U}(hq:∀x,q=some x->∀j:Nat,σ[j]? ≠some (some x))(hv:e.rv<=k/\e.cv<=k)(hs:Src N M K m q i e):Inv N M K k m (σ.set i q) (o.set i e):=by
 refine⟨by simp[h.len],by simpa using h.ge,λj j' x h1 h2=> ?_,λj e' he=> ?_,λj q' e' h1 h2=> ?_⟩
 ·by_cases hj:i=j
  ·grind
  ·rw[bh hj] at h1;by_cases c:i=j'
   ·grind
   ·rw[bh c] at h2;exact h.inj j j' x h1 h2
 ·by_cases hj:i=j
  ·grind
  ·rw[bh hj] at he;exact h.ver j e' he
 ·by_cases hj:i=j
  ·grind
  ·rw[bh hj] at h1 h2;exact h.src j q' e' h1 h2
def Inv.app {N M K k:Nat}{m:Mm U}{σ:List (Option Nat)}{o:List (EO U)}(h:Inv N M K k m σ o){q:Option Nat}{e:EO U}(hq:∀x,q=some x->∀j:Nat,σ[j]? ≠some (some x))(hv:e.rv<=k/\e.cv<=k)(hs:Src N M K m q o.length e):Inv N M K k m (σ++[q]) (o++[e]):=by
 have c:∀(j:Nat) (x:Option Nat),(σ++[q])[j]? =some x->(σ[j]? =some x)\/(j=o.length/\x=q):=λj x hx=>by
  by_cases hl:j<σ.length
  ·grind
  ·rw[az (by omega)] at hx;cases d:j-σ.length with
   |zero=>rw[d] at hx;simp at hx;exact .inr ⟨by have:=h.len;omega,hx.symm⟩
   |succ n=>simp_all
 have ho:∀(j:Nat) (x:EO U),(o++[e])[j]? =some x->(o[j]? =some x)\/(j=o.length/\x=e):=(by grind[List.getElem?_append_left,inl,List.getElem?_append_right]);refine⟨by simp[h.len],by have:=h.ge;simp;omega,λj j' x h1 h2=> ?_,λj e' he=> ?_,λj q' e' h1 h2=> ?_⟩
 ·rcases c j _ h1 with h1|⟨i,h1⟩<;>rcases c j' _ h2 with h2|⟨l,h2⟩
  ·exact h.inj j j' x h1 h2
  all_goals grind
 ·rcases ho j _ he with h1|⟨_,rfl⟩
  ·exact h.ver j e' h1
  ·exact hv
 ·rcases c j _ h1 with h1|⟨i,rfl⟩<;>rcases ho j _ h2 with h2|⟨l,rfl⟩
  ·exact h.src j q' e' h1 h2
  ·have:=lt_of_some h1;have:=h.len;omega
  all_goals grind
def Plc.mono {k:Nat}{σ σ':List (Option Nat)}{o c:List (EO U)}{s:St U}:∀{xs:List DI} {n:Nat},(∀i∈jP xs,c[i]? =o[i]? /\σ'[i]? =σ[i]?)->(∀i,n<=i->c[i]? =o[i]? /\σ'[i]? =σ[i]?)->Plc k σ o s n xs->Plc k σ' c s n xs
 |[],_,_,_,h=>h
 | .tr l i τ d::xs,n,h1,h2,⟨⟨v,q,e,p,r,t,x,y⟩,h⟩=>by
  obtain⟨b1,z⟩:=h1 i (by simp[jP]);exact⟨⟨v,q,e,p,r,z.trans t,b1.trans x,y⟩,Plc.mono (λj hj=>h1 j (by simp[jP,hj])) h2 h⟩
 | .nt l τ d::xs,n,h1,h2,⟨⟨v,q,e,p,r,t,x,y⟩,h⟩=>by
  obtain⟨b1,z⟩:=h2 n (ak _);exact⟨⟨v,q,e,p,r,z.trans t,b1.trans x,y⟩,Plc.mono (λj hj=>h1 j (by simpa[jP] using hj)) (λi hi=>h2 i (by omega)) h⟩
 | .ti i τ d::xs,n,h1,h2,h=>Plc.mono (xs:=xs) (n:=n) (λj hj=>h1 j (by simp[jP,hj])) h2 h
 | .dat l kd::xs,n,h1,h2,h=>Plc.mono (xs:=xs) (n:=n) (λj hj=>h1 j (by simpa[jP] using hj)) h2 h
 | .nat l::xs,n,h1,h2,h=>Plc.mono (xs:=xs) (n:=n) (λj hj=>h1 j (by simpa[jP] using hj)) h2 h
def Jo {N M K k:Nat}{s:St U}(hk:K<k):∀(xs:List DI) (q:List (Option Nat×Option Nat)) (d:Dat U xs) (σ:List (Option Nat)) (o:List (EO U)),aB3 s xs=some q->gets Y s xs=some d->Inv N M K k s.m σ o->(∀i∈Io q,∀j:Nat,σ[j]? ≠some (some i))->(Io q).Nodup->(∀i∈jP xs,i<o.length)->(jP xs).Nodup->
  Inv N M K k s.m (sgm q σ) (aI9 k xs d o)/\Plc k (sgm q σ) (aI9 k xs d o) s o.length xs/\(∀j,j<o.length->j∉jP xs->(aI9 k xs d o)[j]? =o[j]? /\(sgm q σ)[j]? =σ[j]?)
 |[],q,d,σ,o,hq,_,h,_,_,_,_=>by
  have:=aj hq;subst this;exact⟨h,trivial,λ_ _ _=>⟨rfl,rfl⟩⟩
 | .dat l kd::xs,q,d,σ,o,hq,hg,h,h1,h2,y,I=>by
  rw[vE];exact Jo hk xs q (Dtl d) σ o hq (nO hg).2 h h1 h2 y I
 | .nat l::xs,q,d,σ,o,hq,hg,h,h1,h2,y,I=>by
  rw[vE];exact Jo hk xs q (Dtl d) σ o hq (nO hg).2 h h1 h2 y I
 | .ti i τ b::xs,q,d,σ,o,hq,hg,h,h1,h2,y,I=>by
  obtain⟨p,O⟩:=nO hg;simp only[aB3] at hq;simp only[aUc] at p;cases hr:aB3 s xs with
  |none=>rw[hr] at hq;cases hq
  |some r=>
   rw[hr] at hq;have:=aj hq;subst this;rw[vE];have hi:i<o.length:=y i (by simp[jP]);have S:aLx k (.ti i τ b) (Dhd d) o=o.set i ⟨.tree τ b (Dhd d),0,k⟩:=dY _ _ _;rw[S];rw[aFs] at h1 h2;simp only at h1 h2;have A:=h.set (i:=i) (q:=some i) (e:=⟨.tree τ b (Dhd d),0,k⟩) (λx hx j=>h1 x (by rw[aj hx];simp) j) ⟨cD _,ak _⟩ (bIp p hk);obtain⟨n1,n2⟩:=cw.1 (show(i::jP xs).Nodup from I);have B:∀x∈Io r,∀j:Nat,(σ.set i (some i))[j]? ≠some (some x):=λx hx j hj=>by
    by_cases F:i=j
    ·subst F;rw[ba (by rw[h.len];exact hi)] at hj;have hj:=aj (aj hj);subst hj;exact(cw.1 h2).1 hx
    ·rw[bh F] at hj;exact h1 x (by simp[hx]) j hj
   obtain⟨T,J,z⟩:=Jo hk xs r (Dtl d) (σ.set i (some i)) _ hr O A B (cw.1 h2).2 (λj hj=>by rw[aq];exact y j (by simp[jP,hj])) n2;rw[aq] at J z;refine⟨T,J,λj hj c=> ?_⟩;have c:j≠i/\j∉jP xs:=by simpa[jP] using c
   obtain⟨q1,q2⟩:=z j hj c.2;exact⟨by rw[q1,bh (Ne.symm c.1)],by show(sgm r (σ.set i (some i)))[j]? =_;rw[q2,bh (Ne.symm c.1)]⟩
 | .tr l i τ b::xs,q,d,σ,o,hq,hg,h,h1,h2,y,I=>by
  obtain⟨p,O⟩:=nO hg;simp only[aB3] at hq;simp only[aUc] at p;cases hv:lkp s l with
  |none=>rw[hv] at hq;cases hq
  |some v=>
   rw[hv] at hq p;simp only at hq p;cases ht:xE s.m τ b v with
   |none=>rw[ht] at hq;cases hq
   |some t=>
    rw[ht] at hq p;simp only at hq p;cases hr:aB3 s xs with
    |none=>rw[hr] at hq;cases hq
    |some r=>
     rw[hr] at hq;have:=aj hq;subst this;have hd:t.2=Dhd d:=aj p;rw[vE];have hi:i<o.length:=y i (by simp[jP]);have S:aLx k (.tr l i τ b) (Dhd d) o=o.set i ⟨.tree τ b t.2,k,k⟩:=by rw[hd];exact dY _ _ _
     rw[S];rw[aFs] at h1 h2;have G:∀x∈Io r,x∈(match t.1 with|some i=>i::Io r|none=>Io r):=λx hx=>by cases t.1<;>simp[hx]
     have A:=h.set (i:=i) (q:=t.1) (e:=⟨.tree τ b t.2,k,k⟩) (λx hx j=>h1 x (by simp only[hx];simp) j) ⟨ak _,ak _⟩ (aMh ht hk);obtain⟨n1,n2⟩:=cw.1 (show(i::jP xs).Nodup from I);have B:∀x∈Io r,∀j:Nat,(σ.set i t.1)[j]? ≠some (some x):=λx hx j hj=>by
      by_cases F:i=j
      ·subst F;rw[ba (by rw[h.len];exact hi)] at hj;have hj:=aj hj;simp only[hj] at h2;exact(cw.1 h2).1 hx
      ·rw[bh F] at hj;exact h1 x (G x hx) j hj
     have L:(Io r).Nodup:=by
      cases H:t.1 with
      |none=>simp only[H] at h2;exact h2
      |some x=>simp only[H] at h2;exact(cw.1 h2).2
     obtain⟨T,J,z⟩:=Jo hk xs r (Dtl d) (σ.set i t.1) _ hr O A B L (λj hj=>by rw[aq];exact y j (by simp[jP,hj])) n2;rw[aq] at J z;refine⟨T,⟨⟨v,t,⟨.tree τ b t.2,k,k⟩,hv,ht,?_,?_,rfl⟩,J⟩,λj hj c=> ?_⟩
     ·show(sgm r (σ.set i t.1))[i]? =_;rw[(z i hi n1).2,ba (by rw[h.len];exact hi)]
     ·rw[(z i hi n1).1,ba hi]
     ·have c:j≠i/\j∉jP xs:=by simpa[jP] using c
      obtain⟨q1,q2⟩:=z j hj c.2;exact⟨by rw[q1,bh (Ne.symm c.1)],by show(sgm r (σ.set i t.1))[j]? =_;rw[q2,bh (Ne.symm c.1)]⟩
 | .nt l τ b::xs,q,d,σ,o,hq,hg,h,h1,h2,y,I=>by
  obtain⟨p,O⟩:=nO hg;simp only[aB3] at hq;simp only[aUc] at p;cases hv:lkp s l with
  |none=>rw[hv] at hq;cases hq
  |some v=>
   rw[hv] at hq p;simp only at hq p;cases ht:xE s.m τ b v with
   |none=>rw[ht] at hq;cases hq
   |some t=>
    rw[ht] at hq p;simp only at hq p;cases hr:aB3 s xs with
    |none=>rw[hr] at hq;cases hq
    |some r=>
     rw[hr] at hq;have:=aj hq;subst this;have hd:t.2=Dhd d:=aj p;rw[vE];have S:aLx k (.nt l τ b) (Dhd d) o=o++[⟨.tree τ b t.2,k,k⟩]:=by rw[hd];rfl
     rw[S];rw[aFs] at h1 h2;have G:∀x∈Io r,x∈(match t.1 with|some i=>i::Io r|none=>Io r):=λx hx=>by cases t.1<;>simp[hx]
     have A:=h.app (q:=t.1) (e:=⟨.tree τ b t.2,k,k⟩) (λx hx j=>h1 x (by simp only[hx];simp) j) ⟨ak _,ak _⟩ (aMh ht hk);have n2:(jP xs).Nodup:=I;have V:(σ++[t.1])[o.length]? =some t.1:=by rw[<-h.len];simp
     have B:∀x∈Io r,∀j:Nat,(σ++[t.1])[j]? ≠some (some x):=λx hx j hj=>by
      by_cases hl:j<σ.length
      ·rw[ao hl] at hj;exact h1 x (G x hx) j hj
      ·rw[az (by omega)] at hj;cases W:j-σ.length with
       |zero=>
        rw[W] at hj;have hj:t.1=some x:=by simpa using hj
        simp only[hj] at h2;exact(cw.1 h2).1 hx
       |succ n=>rw[W] at hj;simp at hj
     have L:(Io r).Nodup:=by
      cases H:t.1 with
      |none=>simp only[H] at h2;exact h2
      |some x=>simp only[H] at h2;exact(cw.1 h2).2
     obtain⟨T,J,z⟩:=Jo hk xs r (Dtl d) (σ++[t.1]) _ hr O A B L (λj hj=>by have:=y j (by simpa[jP] using hj);simp;omega) n2;rw[show(o++[(⟨.tree τ b t.2,k,k⟩:EO U)]).length=Nat.succ o.length by simp] at J z;have n1:o.length∉jP xs:=λZ=>by have:=y _ (show o.length∈jP (.nt l τ b::xs) from Z);omega
     refine⟨T,⟨⟨v,t,⟨.tree τ b t.2,k,k⟩,hv,ht,?_,?_,rfl⟩,J⟩,λj hj c=> ?_⟩
     ·show(sgm r (σ++[t.1]))[o.length]? =_;rw[(z _ (eK _) n1).2,V]
     ·rw[(z _ (eK _) n1).1];simp
     ·obtain⟨q1,q2⟩:=z j (Nat.lt_succ_of_lt hj) c;refine⟨by rw[q1,ao hj],?_⟩;show(sgm r (σ++[t.1]))[j]? =_;rw[q2,ao (by rw[h.len];exact hj)]
end
end Go.EV
namespace Go.EV
open Go.RowKit Go.VK
variable {U:Uni} {Y:Lay U} {P:Program} {g:GI} {E:Env U g}
section aDJ
def bIq {a n:Nat}{K:List (Sv U)->List (Sv U)}(hK:K []=[]):∀{l:List (Sv U)},(aZx a K l)[n]? =if n<a then l[n]? else(K (l.drop a))[n-a]? :=by
 induction a generalizing n with
 |zero=>intro l;rfl
 |succ a c=>
  intro l;cases l with
  |nil=>have e:aZx (a+1) K ([]:List (Sv U))=[]:=rfl;rw[e];simp[hK]
  |cons x l=>
   have e:aZx (a+1) K (x::l)=x::aZx a K l:=rfl;rw[e];cases n with
   |zero=>simp
   |succ n=>simp only[ex,c,jy,gl,Nat.add_sub_add_right]
def bIr {a n:Nat}{K:List (Sv U)->List (Sv U)}(hK:K []=[]):∀{l:List (Sv U)},(aWr a K l)[n]? =if n<a then(l[n]?).map (λ_=>Sv.l .any) else(K (l.drop a))[n-a]? :=by
 induction a generalizing n with
 |zero=>intro l;rfl
 |succ a c=>
  intro l;cases l with
  |nil=>have e:aWr (a+1) K ([]:List (Sv U))=[]:=rfl;rw[e];simp[hK]
  |cons x l=>
   have e:aWr (a+1) K (x::l)=Sv.l .any::aWr a K l:=rfl;rw[e];cases n with
   |zero=>simp
   |succ n=>simp only[ex,c,jy,gl,Nat.add_sub_add_right]
def aUv:∀{ws:List (Nat×Nat)},wip ws ([]:List (Sv U))=[]
 |[]=>rfl
 |(a,b)::r=>by
  have e:wip ((a,b)::r) ([]:List (Sv U))=aZx a (aWr b (wip r)) []:=rfl;rw[e];cases a with
  |succ a=>rfl
  |zero=>
   cases b with
   |succ b=>rfl
   |zero=>exact aUv (ws:=r)
def bIs:∀{ws:List (Nat×Nat)} {p n:Nat},Nk ws p n=true->p<=n
 |[],p,n,h=>by cases h
 |(a,b)::r,p,n,h=>by
  simp only[Nk,cp,aa] at h;rcases h with⟨h,_⟩|h
  ·have:=bc h;omega
  ·have:=bIs h;omega
def aKy:∀{ws:List (Nat×Nat)} {p n:Nat} {l:List (Sv U)},(wip ws l)[n]? =if Nk ws p (p+n)=true then(l[n]?).map (λ_=>Sv.l .any) else l[n]?
 |[],p,n,l=>by simp[Nk,wip]
 |(a,b)::r,p,n,l=>by
  have hb:(aWr b (wip r) ([]:List (Sv U)))=[]:=by
   cases b with
   |succ b=>rfl
   |zero=>exact aUv (ws:=r)
  have e:wip ((a,b)::r) l=aZx a (aWr b (wip r)) l:=rfl;rw[e,bIq hb];simp only[Nk,cp,aa];by_cases h1:n<a
  ·rw[cW h1,dm];rintro(⟨h,_⟩|h)
   ·have:=bc h;omega
   ·have:=bIs h;omega
  ·rw[dm h1,bIr aUv];by_cases h2:n-a<b
   ·rw[cW h2,cW]
    ·rw[eM,show a+(n-a)=n by omega]
    ·exact .inl ⟨eN (by omega),eN (by omega)⟩
   ·rw[dm h2,aKy (ws:=r) (p:=p+a+b)];rw[show p+a+b+(n-a-b)=p+n by omega];simp only[eM,show a+(b+(n-a-b))=n by omega];by_cases c:Nk r (p+a+b) (p+n)=true
    ·rw[cW c,cW (.inr c)]
    ·rw[dm c,dm];rintro(⟨_,h⟩|h)
     ·have:=bc h;omega
     ·exact c h
def bCx {ws:List (Nat×Nat)}{l:List (Sv U)}:(wip ws l).length=l.length:=by
 have key:∀n,n<(wip ws l).length↔n<l.length:=λn=>by
  have h:=aKy (ws:=ws) (p:=0) (n:=n) (l:=l);constructor
  ·intro hn;rw[ab hn] at h;refine Nat.lt_of_not_le λc=> ?_
   rw[fk c] at h;split at h<;>cases h
  ·intro hn;rw[ab hn] at h;refine Nat.lt_of_not_le λc=> ?_
   rw[fk c] at h;split at h<;>cases h
 have h1:=key (wip ws l).length;have h2:=key l.length;omega
end aDJ
def LV (a:Act)(w:World)(β:List Tr)(o:List (EO U)):Lo->Value->Prop
 | .s n,v=>v=a.tmps.getD n undef
 | .c b j,v=>∀e,o[b]? =some e->e.ob.aAY=true->∃t blk vals T,β[b]? =some t/\t.b=some blk/\w.heap[blk]? =some (.cells vals T (0,0))/\vals[j]? =some v
section
variable {C:Cod U} {b s u:St U} {a a0:Act} {w w0:World} {β β0:List Tr}
def aCg (r:bL C E s a w β){l:Lo}{x:Sv U}(h:lkp s l=some x):∃v,LV a w β s.m.o l v/\x.mean C w (E.X β) β s.m v:=by
 cases l with
 |s n=>exact⟨_,rfl,r.tm n x (by rw[<-aZ];exact h)⟩
 |c b j=>
  simp only[lkp,aZ] at h;split at h
  ·rename_i T cs vs rv cv he;split at h
   ·rename_i y i;have:=aj h;subst this;obtain⟨t,ht⟩:=r.hp.tr he;obtain⟨h0,blk,vals,k1,k2,k3,k4⟩:=r.hp.ok b t _ ht he;have d:j<vals.length:=by rw[k4.1];exact lt_of_some i
    exact⟨vals[j],λe _ _=>⟨t,blk,vals.toArray,T,ht,k1,k3,by simp[d]⟩,k4.2 j _ _ (ab d) i⟩
   ·cases h
  ·cases h
structure Tp (C:Cod U) (E:Env U g) (a:Act) (w:World) (u:St U) (β:List Tr) (u':St U) (β':List Tr):Prop where
 own:∀(i r:Nat) (v:Value),(Lf.own i r:Lf U).mean C w (E.X β) β u.m v->(Lf.own i r:Lf U).mean C w (E.X β') β' u'.m v
 x:∀b,E.X β' b->E.X β b
 lv:∀(l:Lo) (v:Value),LV a w β u.m.o l v->LV a w β' u'.m.o l v
def Tp.refl:Tp C E a w u β u β:=⟨λ_ _ _ h=>h,λ_ h=>h,λ_ _ h=>h⟩
def bL.aBI (r:bL C E u a w β){l:Lo}{v:Value}(hl:LV a w β u.m.o l v){x:Sv U}(hx:x.mean C w (E.X β) β u.m v):∃β',bL C E (EV.aBI u x l) a w β'/\Tp C E a w u β (EV.aBI u x l) β':=by
 cases l with
 |s n=>refine⟨β,r.set (n:=n) (x:=x) ?_,⟨λ_ _ _ h=>h,λ_ h=>h,λ_ _ h=>h⟩⟩;rw[<-(show v=a.tmps.getD n undef from hl)];exact hx
 |c b j=>
  unfold EV.aBI;simp only[aZ];split
  ·rename_i T cs vs rv cv y he;obtain⟨t,blk,vals,T',h1,h2,I,O⟩:=hl _ he rfl;obtain⟨h0,blk',vals',k1,k2,k3,k4⟩:=r.hp.ok b t _ h1 he;rw[h2] at k1;have:=aj k1;subst this;rw[I] at k3;have:=aj k3;injection this with q1 q2 q3;subst q1;subst q2;have G:vals'[j]? =some v:=by simpa using O
   obtain⟨β',r',hb',ev⟩:=r.turn (i:=b) (J:=[]) (t':=t) (w':=w) (ob:= .box T' (upd cs j y) (upd vs j (Nat.succ u.m.k))) (rv:=rv) he h1 (by simp) (ak _) rfl rfl rfl (λ_ _ _=>rfl)
    (λF hb=>⟨(r.hp.new b t F h1 hb).2, .inr (.inl hb)⟩) (r.hp.nd b t h1) (.inl ⟨rfl,rfl⟩) (λ_=>⟨rfl,rfl⟩)
    (λβ' m' ev=>by
     refine⟨by rw[dY,dY,aq,aq,h0],blk,vals',h2,k2,I,by rw[k4.1,dY,aq],λi v' c p q=> ?_⟩;rw[dY] at q;by_cases e:j=i
     ·subst e;have hl:j<cs.length:=by have:=lt_of_some q;simpa using this
      rw[ba hl] at q;have:=aj q;subst this;rw[G] at p;have:=aj p;subst this;exact Lf.aAW ev hx
     ·rw[bh e] at q;exact Lf.aAW ev (k4.2 i v' c p q))
   refine⟨β',r',⟨λi q v' h=>Lf.aAW ev h,λF hb=>ev.hX F (Hp.aCE r'.hp F hb) hb,λl v' h=> ?_⟩⟩;cases l with
   |s n=>exact h
   |c b' j'=>
    intro e' z H;have A:b'<u.m.o.length:=by
     have:=lt_of_some z;have hl:(upd u.m.o b (⟨.box T' (upd cs j y) (upd vs j (Nat.succ u.m.k)),rv,Nat.succ u.m.k⟩:EO U)).length=u.m.o.length:=by rw[dY,aq]
     have h2:b'<(upd u.m.o b (⟨.box T' (upd cs j y) (upd vs j (Nat.succ u.m.k)),rv,Nat.succ u.m.k⟩:EO U)).length:=this;rwa [hl] at h2
    have d:u.m.o[b']? =some u.m.o[b']:=ab A;obtain⟨S,B⟩:=r.hp.tr d;obtain⟨V,W,Z,g2,_,_,g3⟩:=ev.ho b' _ S A d B;have:V=e':=aj (Z.symm.trans z);subst this;obtain⟨p1,p2⟩:=g3 H;obtain⟨t2,blk2,vals2,T2,L,z2,z3,z4⟩:=h _ d p1;rw[B] at L;have:=aj L;subst this;exact⟨W,blk2,vals2,T2,g2,p2.trans z2,z3,z4⟩
  ·exact⟨β,r,Tp.refl⟩
def IF1 (Y:Lay U)(E:Env U g)(k:Nat)(u:St U)(a:Act)(w:World)(β:List Tr)(n:Nat):(x:DI)->x.ty U->Prop
 | .dat l kd,d=>∃v,LV a w β u.m.o l v/\Rd w (E.X β) [] v (zI (aB1 Y kd d))
 | .nat l,i=>∃v,LV a w β u.m.o l v/\∃j:Nat,j=i/\v= .int .i64 (j:Int)/\(j:Int)<=9223372036854775807
 | .tr l i _ _,_=>∃v,LV a w β u.m.o l v/\(Lf.own i k:Lf U).mean Y.C w (E.X β) β u.m v
 | .nt l _ _,_=>∃v,LV a w β u.m.o l v/\(Lf.own n k:Lf U).mean Y.C w (E.X β) β u.m v
 | .ti _ _ _,_=>True
def IF (Y:Lay U)(E:Env U g)(k:Nat)(u:St U)(a:Act)(w:World)(β:List Tr):Nat->(xs:List DI)->Dat U xs->Prop
 |_,[],_=>True
 |n,x::xs,d=>IF1 Y E k u a w β n x (Dhd d)/\IF Y E k u a w β (nxt n x) xs (Dtl d)
def IF1.tp {k n:Nat}{u':St U}{β':List Tr}(h:Tp Y.C E a w u β u' β'){x:DI}{d:x.ty U}(c:IF1 Y E k u a w β n x d):IF1 Y E k u' a w β' n x d:=by
 cases x with
 |dat l kd=>obtain⟨v,h1,h2⟩:=c;exact⟨v,h.lv l v h1,h2.conv (ak _) (λb _=>h.x b) (λ_ _ _ h=>h) (λ_ _ h=>h)⟩
 |nat l=>obtain⟨v,h1,h2⟩:=c;exact⟨v,h.lv l v h1,h2⟩
 |tr l i τ b=>obtain⟨v,h1,h2⟩:=c;exact⟨v,h.lv l v h1,h.own _ _ v h2⟩
 |nt l τ b=>obtain⟨v,h1,h2⟩:=c;exact⟨v,h.lv l v h1,h.own _ _ v h2⟩
 |ti i τ b=>trivial
def IF.tp {k:Nat}{u':St U}{β':List Tr}(h:Tp Y.C E a w u β u' β'):∀{xs:List DI} {n:Nat} {d:Dat U xs},IF Y E k u a w β n xs d->IF Y E k u' a w β' n xs d
 |[],_,_,_=>trivial
 |x::xs,n,d,⟨h1,h2⟩=>⟨h1.tp h,IF.tp h h2⟩
def bAe (r:bL Y.C E u a w β){k n:Nat}{x:DI}{d:x.ty U}(h:IF1 Y E k u a w β n x d):∃β',bL Y.C E (set1 Y k n u x d) a w β'/\Tp Y.C E a w u β (set1 Y k n u x d) β':=by
 cases x with
 |dat l kd=>obtain⟨v,h1,h2⟩:=h;exact r.aBI h1 (vD (aCe bCs h2 (.inl λ_ h=>h)))
 |nat l=>
  obtain⟨v,h1,j,rfl,h2,e⟩:=h;have p:bL Y.C E ⟨u.t,⟨u.m.o,u.m.k,u.m.ns++[((⟨j,false⟩:Nat×Bool))]⟩,u.fr⟩ a w β:=r.aCV (λc i f h=>⟨f,by rw[ao (lt_of_some h)];exact h⟩) (λc i h=>by
   by_cases hl:c<u.m.ns.length
   ·rw[ao hl] at h;exact r.hp.cnt c i h
   ·rw[az (by omega)] at h;cases hq:c-u.m.ns.length with
    |zero=>rw[hq] at h;simp at h
    |succ q=>rw[hq] at h;simp at h)
  obtain⟨β',q1,q2⟩:=p.aBI (l:=l) (v:=v) h1 (x:= .l (.nat (len u.m.ns))) ⟨j,false,by rw[dK];simp,h2,e⟩;exact⟨β',q1,⟨λi q v h=>q2.own i q v h,q2.x,λl v h=>q2.lv l v h⟩⟩
 |tr l i τ b=>obtain⟨v,h1,h2⟩:=h;exact r.aBI h1 (x:= .l (.own i k)) h2
 |nt l τ b=>obtain⟨v,h1,h2⟩:=h;exact r.aBI h1 (x:= .l (.own n k)) h2
 |ti i τ b=>exact⟨β,r,Tp.refl⟩
def aMi {k:Nat}:∀(xs:List DI) {u:St U} {β:List Tr} {n:Nat} {d:Dat U xs},bL Y.C E u a w β->IF Y E k u a w β n xs d->∃β',bL Y.C E (sets Y k n u xs d) a w β'
 |[],_,β,_,_,r,_=>⟨β,r⟩
 |x::xs,u,β,n,d,r,⟨h1,h2⟩=>by
  obtain⟨β1,c,e⟩:=bAe r h1;rw[aSd];exact aMi xs c (IF.tp e h2)
end
end Go.EV
namespace Go.EV
open Go.RowKit Go.VK
variable {U:Uni} {Y:Lay U} {P:Program} {g:GI} {E:Env U g}
section
variable {b s:St U} {a a0:Act} {w w0:World} {β β0:List Tr}
def Oc {tm:Tm}{d:Dat U tm.it}(h:col Y b tm s=some d):∃q,aB3 s tm.it=some q/\gets Y s tm.it=some d/\slI tm.ws tm.it=true/\aZv tm.aCF tm.dead b.m.k 0 b.m.o s.m.o=true/\bEk b.m.o.length tm.dead (Io q)=true/\(Io q).Nodup/\(jP tm.it).Nodup/\bEl b.m.o.length (jP tm.it)=true:=by
 grind[aB3,slI,aZv,bEk,len,Io,dist,jP,bEl,dK,Ah,col]
def aSg {N:Nat}{dd:List Nat}:∀{l:List Nat},bEk N dd l=true->∀i∈l,N<=i\/i∈dd
 |[],_,i,h=>by simp at h
 |x::l,h,i,hi=>by
  simp only[bEk,aa,cp] at h;rcases bf.1 hi with rfl|hi
  ·exact h.1.imp bc qJ.1
  ·exact aSg h.2 i hi
def aSh {N:Nat}:∀{l:List Nat},bEl N l=true->∀i∈l,i<N
 |[],_,i,h=>by simp at h
 |x::l,h,i,hi=>by
  simp only[bEl,aa] at h;rcases bf.1 hi with rfl|hi
  ·exact bc h.1
  ·exact aSh h.2 i hi
def bAf {C:Cod U}{X:Nat->Prop}{m:Mm U}{v:Value}{x:Sv U}{i:Nat}(hm:x.mean C w X β m v)(h:bHr m x=some i):v= .int .i64 (i:Int)/\(i:Int)<=9223372036854775807:=by
 unfold bHr at h;split at h
 ·obtain⟨c,f,h1,h2,d⟩:=hm
  grind[Option.some.inj,aZ]
 ·rename_i n;obtain⟨h1,_,_⟩:=hm
  grind
 ·cases h
def aIe {C:Cod U}{m:Mm U}{X:Nat->Prop}{τ:Nat}{d:Bool}{v:Value}{x:Sv U}{q:Option Nat×List (U.El τ)}(hm:x.mean C w X β m v)(h:xE m τ d x=some q):v.oneCell'=true/\v=(lG β q.1).val:=by
 unfold xE at h;split at h
 ·obtain rfl:=hm;cases hb:Nat.ble 1 (U.K τ) with
  |false=>simp_all
  |true=>rw[hb] at h;have:=aj h;subst this;exact⟨rfl,rfl⟩
 ·rename_i i r;obtain⟨h1,e,t,h2,c,j⟩:=hm
  grind[Nat.beq,slq,Option.some.inj,Nat.eq_of_beq_eq_true,lG,aZ]
 ·cases h
def LV.ren {N M K:Nat}{σ:List (Option Nat)}{o:List (EO U)}(hlen:σ.length=o.length)(hs:∀(j:Nat) (q:Option Nat) (e':EO U),σ[j]? =some q->o[j]? =some e'->Src N M K s.m q j e')(r:bL Y.C E s a w β){l:Lo}{v:Value}(h:LV a w β s.m.o l v):LV a w (σ.map (lG β)) o l v:=by
 cases l with
 |s n=>exact h
 |c i j=>
  intro e' x d;have hl:i<σ.length:=by grind
  have hq:σ[i]? =some σ[i]:=ab hl;have done:∀e:EO U,σ[i]=some i->s.m.o[i]? =some e->e.ob.aAY=true->∃t blk vals T,(σ.map (lG β))[i]? =some t/\t.b=some blk/\w.heap[blk]? =some (.cells vals T (0,0))/\vals[j]? =some v:=λe k he hb=>by
   obtain⟨t,blk,vals,T,h1,h2,y,z⟩:=h e he hb
   grind[lG]
  cases hs i _ e' hq x with
  |keep k he _=>simp_all
  |box k he h1 h2 _ _ _ _=>exact done _ k he (by rw[h1];rfl)
  |dead p _=>rw[p] at d;cases d
  |tree _ _ _ _ p _=>rw[p] at d;cases d
  |ti _ _ _ _ p _ _=>rw[p] at d;cases d
  |nil _ p _ _=>rw[p] at d;cases d
def aSi (r:bL Y.C E s a w β){k:Nat}{σ:List (Option Nat)}{o:List (EO U)}{u:St U}(c:u.m.o=o)(p:k<=u.m.k)(hX:∀b,E.X (σ.map (lG β)) b->E.X β b)(hfree:∀x:Nat,True)
  (h:∀(l:Lo) (v:Value),LV a w β s.m.o l v->LV a w (σ.map (lG β)) o l v):∀(xs:List DI) (n:Nat) (d:Dat U xs),gets Y s xs=some d->Plc k σ o s n xs->IF Y E k u a w (σ.map (lG β)) n xs d
 |[],_,_,_,_=>trivial
 | .dat l kd::xs,n,d,hg,hp=>by
  obtain⟨j,t⟩:=nO hg;refine⟨?_,aSi r c p hX hfree h xs n (Dtl d) t hp⟩;simp only[aUc] at j;cases hl:lkp s l with
  |none=>rw[hl] at j;cases j
  |some x=>
   rw[hl] at j;simp only at j;cases y:aLt x with
   |false=>rw[y] at j;cases j
   |true=>rw[y] at j;obtain⟨v,h1,h2⟩:=aCg r hl;exact⟨v,by rw[c];exact h l v h1,bEz r h2 j hX (.inl y)⟩
 | .ti i τ G::xs,n,d,hg,hp=>⟨trivial,aSi r c p hX hfree h xs n (Dtl d) (nO hg).2 hp⟩
 | .nat l::xs,n,d,hg,hp=>by
  obtain⟨j,t⟩:=nO hg;refine⟨?_,aSi r c p hX hfree h xs n (Dtl d) t hp⟩;simp only[aUc] at j;cases hl:lkp s l with
  |none=>rw[hl] at j;cases j
  |some x=>rw[hl] at j;obtain⟨v,h1,h2⟩:=aCg r hl;obtain⟨q1,q2⟩:=bAf h2 j;exact⟨v,by rw[c];exact h l v h1,_,rfl,q1,q2⟩
 | .tr l i τ G::xs,n,d,hg,⟨⟨v,q,e,z,A,B,F,H⟩,hp⟩=>by
  obtain⟨j,t⟩:=nO hg;refine⟨?_,aSi r c p hX hfree h xs n (Dtl d) t hp⟩;obtain⟨v',h1,h2⟩:=aCg r z;obtain⟨k1,k2⟩:=aIe h2 A;exact⟨v',by rw[c];exact h l v' h1,⟨p,k1⟩,e,lG β q.1,by rw[c];exact F,by rw[bn,B];rfl,λ_=>k2⟩
 | .nt l τ G::xs,n,d,hg,⟨⟨v,q,e,z,A,B,F,H⟩,hp⟩=>by
  obtain⟨j,t⟩:=nO hg;refine⟨?_,aSi r c p hX hfree h xs (Nat.succ n) (Dtl d) t hp⟩;obtain⟨v',h1,h2⟩:=aCg r z;obtain⟨k1,k2⟩:=aIe h2 A;exact⟨v',by rw[c];exact h l v' h1,⟨p,k1⟩,e,lG β q.1,by rw[c];exact F,by rw[bn,B];rfl,λ_=>k2⟩
def zQ (S:E.fr=[])(I:bL Y.C E b a0 w0 β0)(r:bL Y.C E s a w β){tm:Tm}(e:Ag (λn=>Nk tm.ws 0 n=true) b s){d:Dat U tm.it}(h:col Y b tm s=some d):∃β',bL Y.C E (reb Y b tm d) a w β':=by
 obtain⟨q,T,L,_,V,W,Z,c6,c7⟩:=Oc h;have hI:=inv0 I e.m V;have A:(Rc (Nat.succ b.m.k) tm.aCF (Tn (Nat.succ b.m.k) tm.dead b.m.o)).length=b.m.o.length:=by rw[Ua,Nu]
 obtain⟨z,O,_⟩:=Jo (eK _) tm.it q d _ _ T L hI (λi hi j hj=>by
  obtain⟨g1,B⟩:=aKx hj;rcases B with⟨_,B⟩|⟨g3,B⟩
  ·cases B
  ·have:=aj B;subst this;rcases aSg W i hi with h|h
   all_goals grind) Z (λi hi=>by rw[A];exact aSh c7 i hi) c6
 rw[A] at O;obtain⟨H,ev⟩:=Hp.ren (m':=⟨aI9 (Nat.succ b.m.k) tm.it d (Rc (Nat.succ b.m.k) tm.aCF (Tn (Nat.succ b.m.k) tm.dead b.m.o)),Nat.succ b.m.k,b.m.ns⟩) r.hp z.len z.ge z.inj (eu _) z.ver I.hp.cnt (λF i f ha hn=>by
  have h1:b.m.ns[F]? =some b.m.ns[F]:=ab ha;obtain⟨f',h2⟩:=e.m.ns F (b.m.ns[F]).1 (b.m.ns[F]).2 h1
  grind) z.src (λx hx=>Sv.aBD (I.hp.pin x hx)) S
 have hX:∀G,E.X ((sgm q (sg0 tm.dead b.m.o.length)).map (lG β)) G->E.X β G:=λG hb=>ev.hX G (Hp.aCE H G hb) hb;have r1:bL Y.C E ⟨wip tm.ws b.t,⟨aI9 (Nat.succ b.m.k) tm.it d (Rc (Nat.succ b.m.k) tm.aCF (Tn (Nat.succ b.m.k) tm.dead b.m.o)),Nat.succ b.m.k,b.m.ns⟩,b.fr⟩ a w ((sgm q (sg0 tm.dead b.m.o.length)).map (lG β)):=by
  refine⟨H,r.defers,?_,λn x hx=> ?_⟩
  ·show a.tmps.size=(wip tm.ws b.t).length;rw[bCx,r.tsz,e.tl]
  ·have c:=(aKy (ws:=tm.ws) (p:=0) (n:=n) (l:=b.t)).symm.trans hx;rw[cx] at c;split at c
   ·cases hb:b.t[n]? with
    |none=>simp_all
    |some y=>rw[hb] at c;have:=aj c;subst this;trivial
   ·rename_i hn;exact Sv.aAZ ev (Sv.aBD (I.tm n x c)) (r.tm n x ((e.t n hn).trans c))
 have J:=aSi (Y:=Y) (u:=⟨wip tm.ws b.t,⟨aI9 (Nat.succ b.m.k) tm.it d (Rc (Nat.succ b.m.k) tm.aCF (Tn (Nat.succ b.m.k) tm.dead b.m.o)),Nat.succ b.m.k,b.m.ns⟩,b.fr⟩) r rfl (ak _) hX (λ_=>trivial) (λl v h=>LV.ren z.len z.src r h) tm.it b.m.o.length d L O;have:=aMi tm.it r1 J
 grind[dK,reb]
def bMh {u:St U}{x:Sv U}{l:Lo}:(aBI u x l).fr=u.fr/\(aBI u x l).t.length=u.t.length/\Am u.m (aBI u x l).m/\∀n,(∀m,l= .s m->m≠n)->(aBI u x l).t[n]? =u.t[n]? :=by
 cases l with
 |s m=>refine⟨rfl,by simp only[aBI,put,dY,aq],Am.refl _,λn hn=> ?_⟩;simp only[aBI,put,dY];rw[bh (hn m rfl)]
 |c h j=>
  unfold aBI;simp only[aZ];split
  ·rename_i T cs vs rv cv y he;refine⟨rfl,rfl,Am.turn (ids:=[]) u.m λ_ e d=> ?_,λ_ _=>rfl⟩
   rw[he] at d;have:=aj d;subst this;refine⟨rfl,λi cs1 vs1 T' cs' vs' k1 k2=> ?_⟩
   grind[List.getElem?_set_ne,lt_of_some,List.getElem?_set_self,Option.some.inj,dY,List.length_set,k2,k1]
  simp[Am.refl]
def Ag.aBI {D:Nat->Prop}{s0 u:St U}(h:Ag D s0 u){x:Sv U}{l:Lo}(hl:∀m,l= .s m->D m):Ag D s0 (aBI u x l):=by obtain⟨h1,h2,c,d⟩:=bMh (u:=u) (x:=x) (l:=l);exact⟨λn hn=>(d n (λm e e'=>hn (e'▸hl m e))).trans (h.t n hn),h2.trans h.tl,h1.trans h.fr,h.m.trans c⟩
def Ag.set1 {D:Nat->Prop}{s0 u:St U}(h:Ag D s0 u){k n:Nat}{x:DI}{d:x.ty U}{ws:List (Nat×Nat)}{xs:List DI}(hx:slI ws (x::xs)=true)(j:∀n,Nk ws 0 n=true->D n):Ag D s0 (set1 Y k n u x d)/\slI ws xs=true:=by
 have key:∀l:Lo,(match l with| .s n=>Nk ws 0 n&&slI ws xs| .c .. =>slI ws xs)=true->(∀m,l= .s m->D m)/\slI ws xs=true:=λl hl=>by
  grind
 cases x with
 |dat l kd=>obtain⟨k1,k2⟩:=key l (by cases l<;>exact hx);exact⟨h.aBI k1,k2⟩
 |nat l=>obtain⟨k1,k2⟩:=key l (by cases l<;>exact hx);refine⟨Ag.aBI (u:=⟨u.t,⟨u.m.o,u.m.k,u.m.ns++[((⟨d,false⟩:Nat×Bool))]⟩,u.fr⟩) ⟨h.t,h.tl,h.fr,h.m.trans (Am.aCV _ λp i f h=>⟨f,by rw[ao (lt_of_some h)];exact h⟩)⟩ k1,k2⟩
 |tr l i τ e=>obtain⟨k1,k2⟩:=key l (by cases l<;>exact hx);exact⟨h.aBI k1,k2⟩
 |nt l τ e=>obtain⟨k1,k2⟩:=key l (by cases l<;>exact hx);exact⟨h.aBI k1,k2⟩
 |ti i τ e=>exact⟨h,hx⟩
def Ag.sets {D:Nat->Prop}{s0:St U}{k:Nat}{ws:List (Nat×Nat)}(c:∀n,Nk ws 0 n=true->D n):∀(xs:List DI) {u:St U} {n:Nat} {d:Dat U xs},slI ws xs=true->Ag D s0 u->Ag D s0 (sets Y k n u xs d)
 |[],_,_,_,_,h=>h
 |x::xs,u,n,d,hx,h=>by
  obtain⟨h1,h2⟩:=h.set1 (Y:=Y) (k:=k) (n:=n) (d:=Dhd d) hx c;rw[aSd];exact Ag.sets c xs h2 h1
def aMj {k:Nat}:∀(xs:List DI) {d:Dat U xs} {o:List (EO U)} {j:Nat} {e:EO U},o[j]? =some e->∃e',(aI9 k xs d o)[j]? =some e'/\(e'=e\/(e'.cv=k/\e'.ob.aAY=false))
 |[],_,o,j,e,h=>⟨e,h, .inl rfl⟩
 |x::xs,d,o,j,e,h=>by
  rw[vE];have h1:∃c,(aLx k x (Dhd d) o)[j]? =some c/\(c=e\/(c.cv=k/\c.ob.aAY=false)):=by
   cases x with
   |dat l kd=>exact⟨e,h, .inl rfl⟩
   |nat l=>exact⟨e,h, .inl rfl⟩
   |tr l i τ p=>
    show ∃c,(upd o i (⟨.tree τ p _,k,k⟩:EO U))[j]? =some c/\_;rw[dY];by_cases n:i=j
    ·subst n;exact⟨_,ba (lt_of_some h), .inr ⟨rfl,rfl⟩⟩
    ·exact⟨e,by rw[bh n];exact h, .inl rfl⟩
   |ti i τ p=>
    show ∃c,(upd o i (⟨.tree τ p _,0,k⟩:EO U))[j]? =some c/\_;rw[dY];by_cases n:i=j
    ·subst n;exact⟨_,ba (lt_of_some h), .inr ⟨rfl,rfl⟩⟩
    ·exact⟨e,by rw[bh n];exact h, .inl rfl⟩
   |nt l τ p=>show ∃c,(o++[(⟨.tree τ p _,k,k⟩:EO U)])[j]? =some c/\_;exact⟨e,by rw[ao (lt_of_some h)];exact h, .inl rfl⟩
  obtain⟨c,h1,h2⟩:=h1;obtain⟨e',r,q⟩:=aMj xs (d:=Dtl d) h1;refine⟨e',r,?_⟩;rcases q with rfl|q
  ·exact h2
  ·exact .inr q
theorem aXh {k:Nat}:∀(xs:List DI) {d:Dat U xs} {o:List (EO U)},o.length<=(aI9 k xs d o).length
 |[],_,o=>ak _
 |x::xs,d,o=>by
  rw[vE];refine bz ?_ (aXh xs);cases x with
  |dat=>exact ak _
  |nat=>exact ak _
  |tr l i τ c=>show o.length<=(upd o i _).length;grind[dY,List.length_set]
  |nt l τ c=>show o.length<=(o++[_]).length;simp
  |ti i τ c=>show o.length<=(upd o i _).length;grind[dY,List.length_set]
def aFt {tm:Tm}{d:Dat U tm.it}(h:slI tm.ws tm.it=true):Ag (λn=>Nk tm.ws 0 n=true) b (reb Y b tm d):=by
 unfold reb;refine Ag.sets (λ_ h=>h) tm.it h ⟨λn hn=> ?_,bCx,rfl,?_⟩
 ·have:=aKy (ws:=tm.ws) (p:=0) (n:=n) (l:=b.t);simp[*]
 ·refine⟨eu _,(by simp_all),?_,λi e e' he q=> ?_⟩
  ·grind[Ua,Nu,Nat.le_trans,aXh]
  ·have hl:=lt_of_some he;by_cases hd:i∈tm.dead
   ·obtain⟨x,h1,h2,_⟩:=Aj (k:=Nat.succ b.m.k) (aFm (k:=Nat.succ b.m.k) hd hl) tm.aCF;have e1d:=h2 (.inl rfl);obtain⟨r,v,j⟩:=aMj (k:=Nat.succ b.m.k) tm.it (d:=d) h1;have:=aj (v.symm.trans q);subst this;have:r.cv=Nat.succ b.m.k/\r.ob.aAY=false:=by
     rcases j with rfl|j
     ·rw[e1d];exact⟨rfl,rfl⟩
     ·exact j
    refine⟨λc=>by omega,λc=>(by rw[this.2] at c;cases c),λT cs vs T' cs' vs' _ c=> ?_⟩;rw[c] at this;cases this.2
   ·have h0:(Tn (Nat.succ b.m.k) tm.dead b.m.o)[i]? =some e:=by grind[zG]
    obtain⟨x,h1,h2,y⟩:=Aj (k:=Nat.succ b.m.k) h0 tm.aCF;obtain⟨r,v,j⟩:=aMj (k:=Nat.succ b.m.k) tm.it (d:=d) h1;have:=aj (v.symm.trans q);subst this;rcases j with rfl|j
    ·by_cases hk:e.ob.aAY=false\/hasB i tm.aCF=false
     ·simp_all
     ·have z:hasB i tm.aCF=true:=by simp_all
      cases ho:e.ob with
      |box T cs vs=>
       grind
      |_=>exact absurd (.inl (by rw[ho];rfl)) hk
    ·refine⟨λc=>by omega,λc=>(by rw[j.2] at c;cases c),λT cs vs T' cs' vs' _ c=> ?_⟩;rw[c] at j;cases j.2
end
end Go.EV
namespace Go.EV
open Go.RowKit Go.VK
variable {U:Uni} {Y:Lay U} {TI:List (Nat×TInfo)} {FZ:List (Nat×Sum U)} {IL:Il} {P:Program} {g:GI} {E:Env U g}
def WC (D:Nat->Prop):Code->Prop
 | .seq a b=>WC D a/\WC D b
 | .cond c a b=>(∀n,c= .tmp n->D n)/\WC D a/\WC D b
 | .block _ c=>WC D c
 | .loop c=>WC D c
 | .region _ os _=>∀o∈os.toList,∀n,Wr os.toList o n->D n
 |_=>True
def AW (D:Nat->Prop):An->Prop
 | .s a b=>AW D a/\AW D b
 | .j t a=>(∀n,Nk t.ws 0 n=true->D n)/\AW D a
 | .jx t a=>(∀n,Nk t.ws 0 n=true->D n)/\AW D a
 | .l t _ a=>(∀n,Nk t.ws 0 n=true->D n)/\AW D a
 | .rj _ t _=>∀n,Nk t.ws 0 n=true->D n
 |_=>True
def AW.true:∀an:An,AW (λ_=>True) an
 | .n=>trivial
 | .s a b=>⟨AW.true a,AW.true b⟩
 | .j t a=>⟨λ_ _=>trivial,AW.true a⟩
 | .jx t a=>⟨λ_ _=>trivial,AW.true a⟩
 | .l t _ a=>⟨λ_ _=>trivial,AW.true a⟩
 | .r .. =>trivial
 | .rj .. =>λ_ _=>trivial
 | .z .. =>trivial
 | .y .. =>trivial
 | .w .. =>trivial
 | .v .. =>trivial
 | .u .. =>trivial
 | .il .. =>trivial
 | .pl .. =>trivial
def aSj:∀{ws:List (Nat×Nat)} {p c hi n:Nat},bL4 ws p c hi=true->c<=n->n<hi->Nk ws p n=true
 |[],_,_,_,_,h,_,_=>by cases h
 |(a,b)::r,p,c,hi,n,h,h1,h2=>by
  simp only[bL4,cp,aa] at h;simp only[Nk,cp,aa];rcases h with⟨k1,k2⟩|h
  ·have:=bc k1;have:=bc k2;exact .inl ⟨eN (by omega),eN (by omega)⟩
  ·exact .inr (aSj h h1 h2)
def Jp {ws:List (Nat×Nat)}:∀{r:List (Nat×Nat)} {p n:Nat},aZy ws r p=true->Nk r p n=true->Nk ws 0 n=true
 |[],_,_,_,h=>by cases h
 |(a,b)::r,p,n,h,h1=>by
  simp only[aZy,aa,cp] at h;simp only[Nk,cp,aa] at h1;rcases h1 with⟨k1,k2⟩|h1
  ·have:=bc k1;have:=bc k2;rcases h.1 with h|h
   ·have:=ah h;omega
   ·exact aSj h (by omega) (by omega)
  ·exact Jp h.2 h1
def wH {ws:List (Nat×Nat)}:∀{an:An},anW ws an=true->AW (λn=>Nk ws 0 n=true) an
 | .n,_=>trivial
 | .s a b,h=>by simp only[anW,aa] at h;exact⟨wH h.1,wH h.2⟩
 | .j t a,h=>by simp only[anW,aa] at h;exact⟨λn=>Jp h.1,wH h.2⟩
 | .jx t a,h=>by simp only[anW,aa] at h;exact⟨λn=>Jp h.1,wH h.2⟩
 | .l t _ a,h=>by simp only[anW,aa] at h;exact⟨λn=>Jp h.1,wH h.2⟩
 | .r ..,_=>trivial
 | .rj ..,h=>λn=>Jp h
 | .z ..,_=>trivial
 | .y ..,_=>trivial
 | .w ..,_=>trivial
 | .v ..,_=>trivial
 | .u ..,_=>trivial
 | .il ..,_=>trivial
 | .pl ..,_=>trivial
def AW.a {D:Nat->Prop}{an:An}(h:AW D an):AW D an.a:=by cases an<;>first|exact h.1|trivial
def AW.b {D:Nat->Prop}{an:An}(h:AW D an):AW D an.b:=by cases an<;>first|exact h.2|trivial
def aCh {ws:List (Nat×Nat)}{al:List Oper}:∀{l:List Oper},wrG ws al l=true->∀o∈l,∀n,Wr al o n->Nk ws 0 n=true
 |[],_,o,h=>by simp at h
 |x::l,h,o,ho=>by
  have e:wrG ws al (x::l)=cond ((match x.dst with|some n=>Nk ws 0 n|none=>true)&&(match x.guard with|some (j,_)=>(match nth al j with|some oj=>(match oj.dst with|some n=>Nk ws 0 n|none=>true)|none=>true)|none=>true)) (wrG ws al l) false:=rfl;rw[e] at h;cases hc:((match x.dst with|some n=>Nk ws 0 n|none=>true)&&(match x.guard with|some (j,_)=>(match nth al j with|some oj=>(match oj.dst with|some n=>Nk ws 0 n|none=>true)|none=>true)|none=>true)) with
  |false=>rw[hc] at h;cases h
  |true=>
   rw[hc] at h;simp only[ac] at h;rcases bf.1 ho with rfl|ho
   ·simp only[aa] at hc;rintro n (hn|⟨j,b,oj,h1,h2,c⟩)
    ·have:=hc.1;rw[hn] at this;exact this
    ·have:=hc.2;rw[h1] at this;simp only[aZ,h2,c] at this;exact this
   ·exact aCh h o ho
def aUw {ws:List (Nat×Nat)}:∀{f:Nat} {c:Code},wr ws f c=true->WC (λn=>Nk ws 0 n=true) c:=by
 intro f;induction f with
 |zero=>intro c h;cases h
 |succ f i=>
  intro c h;cases c with
  |seq a b=>replace h:(wr ws f a&&wr ws f b)=true:=h;simp only[aa] at h;exact⟨i h.1,i h.2⟩
  |cond c a b=>
   cases c with
   |tmp n=>replace h:(Nk ws 0 n&&(wr ws f a&&wr ws f b))=true:=h;simp only[aa] at h;exact⟨λj e=>by injection e with e;subst e;exact h.1,i h.2.1,i h.2.2⟩
   |_=>cases h
  |block id c=>exact i (c:=c) h
  |loop c=>exact i (c:=c) h
  |region id os d=>exact aCh (by assumption)
  |_=>trivial
section
variable {α:Type}
def Snd (P:Program)(Y:Lay U)(E:Env U g)(D:Nat->Prop)(c:Code)(s:St U){α:Type}(z:α)(N:St U->Option α)(X:Nat->St U->Option α)(R:St U->Option α):Prop:=
 ∀Q:Exit->Act->World->Prop,(∀s' a w β,Ag D s s'->N s'=some z->bL Y.C E s' a w β->Q .normal a w)->(∀i s' a w β,Ag D s s'->X i s'=some z->bL Y.C E s' a w β->Q (.exit i) a w)->(∀s' a w β,Ag D s s'->R s'=some z->bL Y.C E s' a w β->Q .ret a w)->
  ∀a w β,bL Y.C E s a w β->c.wp P Q a w
def bCy (P:Program)(Y:Lay U)(TI:List (Nat×TInfo))(FZ:List (Nat×Sum U))(IL:Il)(g:GI):Prop:=
 ∀(E:Env U g),E.fr=[]->E.prm=[]->∀(α:Type) (EV:An->Code->St U->(St U->Option α)->Option α),(∀(E:Env U g),E.fr=[]->E.prm=[]->∀(an:An) (c:Code) (s:St U) (K:St U->Option α) (z:α),EV an c s K=some z->Snd P Y E (λ_=>True) c s z K (λ_ _=>none) K)->
  ∀(id:Nat) (os:Array Oper) (d:Bool) (an:An) (s:St U) (N:St U->Option α) (X:Nat->St U->Option α) (R:St U->Option α) (z:α) (D:Nat->Prop),(∀o∈os.toList,∀n,Wr os.toList o n->D n)->AW D an->aZ3 Y TI FZ IL EV os.toList os d an s N=some z->Snd P Y E D (.region id os d) s z N X R
def WC.true:∀c:Code,WC (λ_=>True) c:=λc=>by
 induction c with
 |seq a b h1 h2=>exact⟨h1,h2⟩
 |cond c a b h1 h2=>exact⟨λ_ _=>trivial,h1,h2⟩
 |block id c h=>exact h
 |loop c h=>exact h
 |region id os d=>exact λ_ _ _ _=>trivial
 |_=>trivial
def NJ (an:An):Prop:=(∀tm a,an≠ .j tm a)/\∀tm a,an≠ .jx tm a
section
variable {f:Nat} {an:An} {s:St U} {N:St U->Option α} {X:Nat->St U->Option α} {R:St U->Option α}
def bQu (h:NJ an){a b:Code}:ev Y TI FZ IL (f+1) an (.seq a b) α s N X R=ev Y TI FZ IL f an.a a α s (λs'=>ev Y TI FZ IL f an.b b α s' N X R) X R:=by cases an<;>first|exact absurd rfl (h.1 _ _)|exact absurd rfl (h.2 _ _)|rfl
def bMi (h:NJ an){n:Nat}{a b:Code}:ev Y TI FZ IL (f+1) an (.cond (.tmp n) a b) α s N X R=tst n s (λs=>ev Y TI FZ IL f an.a a α s N X R) (λs=>ev Y TI FZ IL f an.b b α s N X R):=by cases an<;>first|exact absurd rfl (h.1 _ _)|exact absurd rfl (h.2 _ _)|rfl
def bIt (h:NJ an){c:Operand}{a b:Code}{z:α}(d:ev Y TI FZ IL (f+1) an (.cond c a b) α s N X R=some z):∃n,c= .tmp n:=by
 cases c with
 |tmp n=>simp
 |_=>cases an<;>first|exact absurd rfl (h.1 _ _)|exact absurd rfl (h.2 _ _)|cases d
def bIu (h:NJ an){id:Nat}{c:Code}:ev Y TI FZ IL (f+1) an (.block id c) α s N X R=ev Y TI FZ IL f an.a c α s N (λi s'=>bif Nat.beq i id then N s' else X i s') R:=by cases an<;>first|exact absurd rfl (h.1 _ _)|exact absurd rfl (h.2 _ _)|rfl
def bMj (h:NJ an){c:Code}{z:α}(e:ev Y TI FZ IL (f+1) an (.loop c) α s N X R=some z):(∃tm n a,an= .l tm n a/\(bif wr tm.ws f c&&anW tm.ws a then bd (col Y s tm s) (cO n λrec d=>ev Y TI FZ IL f a c α (reb Y s tm d) (λs'=>bd (col Y s tm s') rec) X R) else none)=some z)\/∃a b,an= .s a b/\NJ b/\ev Y TI FZ IL f a c α s (λs'=>ev Y TI FZ IL f b (.loop c) α s' N X R) X R=some z:=by cases an<;>grind[inl,bSw,ev,NJ,absurd]
def bMk (h:NJ an):ev Y TI FZ IL (f+1) an .skip α s N X R=N s:=by cases an<;>first|exact absurd rfl (h.1 _ _)|exact absurd rfl (h.2 _ _)|rfl
def bQv (h:NJ an):ev Y TI FZ IL (f+1) an .ret α s N X R=R s:=by cases an<;>first|exact absurd rfl (h.1 _ _)|exact absurd rfl (h.2 _ _)|rfl
def bMl (h:NJ an){i:Nat}:ev Y TI FZ IL (f+1) an (.exit i) α s N X R=X i s:=by cases an<;>first|exact absurd rfl (h.1 _ _)|exact absurd rfl (h.2 _ _)|rfl
def bE7 (h:NJ an){id:Nat}{os:Array Oper}{d:Bool}:ev Y TI FZ IL (f+1) an (.region id os d) α s N X R=aZ3 Y TI FZ IL (λa c s K=>ev Y TI FZ IL f a c α s K (λ_ _=>none) K) os.toList os d an s N:=by cases an<;>first|exact absurd rfl (h.1 _ _)|exact absurd rfl (h.2 _ _)|rfl
end
def bIv (an:An):(∃tm a,an= .j tm a)\/(∃tm a,an= .jx tm a)\/NJ an:=by cases an<;>simp[NJ]
def LoopIn (P:Program)(Y:Lay U)(E:Env U g)(D:Nat->Prop)(c:Code)(s:St U){α:Type}(z:α)(N:St U->Option α)(X:Nat->St U->Option α)(R:St U->Option α):Prop:=
 ∀Q:Exit->Act->World->Prop,(∀s' a w β,Ag D s s'->N s'=some z->bL Y.C E s' a w β->Q .normal a w)->(∀i s' a w β,Ag D s s'->X i s'=some z->bL Y.C E s' a w β->Q (.exit i) a w)->(∀s' a w β,Ag D s s'->R s'=some z->bL Y.C E s' a w β->Q .ret a w)->
  ∀a w β,bL Y.C E s a w β->∀(b:Frame) (kk:List Item) (cs:List Frame),∃e d w',Q e d w'/\Arrives P (lone (b.at a (.code c:: .inLoop c::kk)) cs w) b kk cs e d w'
def aXi (P:Program)(Y:Lay U)(TI:List (Nat×TInfo))(FZ:List (Nat×Sum U))(IL:Il)(g:GI)(f:Nat):Prop:=∀(E:Env U g),E.fr=[]->E.prm=[]->∀(an:An) (c:Code) (α:Type) (s:St U) (N:St U->Option α) (X:Nat->St U->Option α) (R:St U->Option α) (z:α) (D:Nat->Prop),WC D c->AW D an->ev Y TI FZ IL f an c α s N X R=some z->Snd P Y E D c s z N X R
def aUx (P:Program)(Y:Lay U)(TI:List (Nat×TInfo))(FZ:List (Nat×Sum U))(IL:Il)(g:GI)(f:Nat):Prop:=∀(E:Env U g),E.fr=[]->E.prm=[]->∀(an:An) (c:Code) (α:Type) (s:St U) (N:St U->Option α) (X:Nat->St U->Option α) (R:St U->Option α) (z:α) (D:Nat->Prop),NJ an->WC D c->AW D an->ev Y TI FZ IL f an (.loop c) α s N X R=some z->LoopIn P Y E D c s z N X R
def bCz {f:Nat}(IH:aXi P Y TI FZ IL g f/\aUx P Y TI FZ IL g f):aUx P Y TI FZ IL g (f+1):=by
 intro E A J an j α s N X R z D hn W F h Q hN hX Z a0 w0 β0 G b kk cs;rcases bMj hn h with⟨tm,n,a,rfl,h'⟩|⟨a,b2,rfl,L,h'⟩<;>replace h:=h'
 ·cases hb:(wr tm.ws f j&&anW tm.ws a) with
  |false=>simp_all
  |true=>
   rw[hb] at h;simp only[ac] at h;simp only[aa] at hb;obtain⟨d0,h1,h2⟩:=jT h;have key:∀(m:Nat) (d:Dat U tm.it),cO m (λrec d=>ev Y TI FZ IL f a j α (reb Y s tm d) (λs'=>bd (col Y s tm s') rec) X R) d=some z->∀H I β1,bL Y.C E (reb Y s tm d) H I β1->Ag (λn=>Nk tm.ws 0 n=true) s (reb Y s tm d)->∀(b:Frame) (kk:List Item) (cs:List Frame),
     ∃e y w',Q e y w'/\Arrives P (lone (b.at H (.code j:: .inLoop j::kk)) cs I) b kk cs e y w':=by
    intro m;induction m with
    |zero=>intro d hd;cases hd
    |succ m ih=>
     intro d hd H I β1 O hg b kk cs;have S:ev Y TI FZ IL f a j α (reb Y s tm d) (λs'=>bd (col Y s tm s') (cO m (λrec d=>ev Y TI FZ IL f a j α (reb Y s tm d) (λs'=>bd (col Y s tm s') rec) X R))) X R=some z:=hd;have k:=IH.1 E A J a j _ _ _ _ _ z _ (aUw hb.1) (wH hb.2) S (Exit.then (λy w'=>∃d' β',cO m (λrec d=>ev Y TI FZ IL f a j α (reb Y s tm d) (λs'=>bd (col Y s tm s') rec) X R) d'=some z/\bL Y.C E (reb Y s tm d') y w' β'/\Ag (λn=>Nk tm.ws 0 n=true) s (reb Y s tm d')) Q)
      (λs2 q r β2 o hc t=>by
       obtain⟨d',q1,q2⟩:=jT hc;obtain⟨β',r'⟩:=zQ A G t (hg.trans o) q1;obtain⟨_,_,_,hs,_⟩:=Oc q1;exact⟨d',β',q2,r',aFt hs⟩)
      (λi s2 q r β2 o hc t=>hX i s2 q r β2 ((hg.trans o).mono F.1) hc t)
      (λs2 q r β2 o hc t=>Z s2 q r β2 ((hg.trans o).mono F.1) hc t) H I β1 O b (.inLoop j::kk) cs
     obtain⟨e,a₁,w₁,hq,c⟩:=k;cases e with
     |normal=>obtain⟨d',β',T,V,B⟩:=hq;obtain⟨e₂,a₂,w₂,v,p⟩:=ih d' T a₁ w₁ β' V B b kk cs;exact⟨e₂,a₂,w₂,v, .of_steps (Steps.trans c (.one step_inLoop)) p⟩
     |exit id=>exact⟨_,a₁,w₁,hq, .pass (x:= .inLoop j) rfl (λ_ _=> .inl (by simp)) c⟩
     |goto l=>exact⟨_,a₁,w₁,hq, .pass (x:= .inLoop j) rfl (λ_ _=> .inl (by simp)) c⟩
     |ret=>exact⟨_,a₁,w₁,hq, .pass (x:= .inLoop j) rfl (λ_ _=> .inl (by simp)) c⟩
     |panic ch=>exact⟨_,a₁,w₁,hq, .pass (x:= .inLoop j) rfl (λ_ _=> .inl (by simp)) c⟩
     |outgrown=>exact⟨_,a₁,w₁,hq, .pass (x:= .inLoop j) rfl (λ_ _=> .inl (by simp)) c⟩
   obtain⟨β1,O⟩:=zQ A G G (Ag.refl s) h1;obtain⟨_,_,_,hs,_⟩:=Oc h1;exact key n d0 h2 a0 w0 β1 O (aFt hs) b kk cs
 ·have k:=IH.1 E A J a j _ s _ _ _ z D W F.1 h (Exit.then (λy w'=>∃s' β',ev Y TI FZ IL f b2 (.loop j) α s' N X R=some z/\bL Y.C E s' y w' β'/\Ag D s s') Q)
   (λs2 q r β2 o hc t=>⟨s2,β2,hc,t,o⟩)
   (by assumption)
   (by assumption) a0 w0 β0 G b (.inLoop j::kk) cs
  obtain⟨e,a₁,w₁,hq,c⟩:=k;cases e with
  |normal=>obtain⟨s',β',T,V,B⟩:=hq;obtain⟨e₂,a₂,w₂,v,p⟩:=IH.2 E A J b2 j _ s' N X R z D L W F.2 T Q (λs2 q r β2 hg=>hN s2 q r β2 (B.trans hg)) (λi s2 q r β2 hg=>hX i s2 q r β2 (B.trans hg)) (λs2 q r β2 hg=>Z s2 q r β2 (B.trans hg)) a₁ w₁ β' V b kk cs;exact⟨e₂,a₂,w₂,v, .of_steps (Steps.trans c (.one step_inLoop)) p⟩
  |exit id=>exact⟨_,a₁,w₁,hq, .pass (x:= .inLoop j) rfl (λ_ _=> .inl (by simp)) c⟩
  |goto l=>exact⟨_,a₁,w₁,hq, .pass (x:= .inLoop j) rfl (λ_ _=> .inl (by simp)) c⟩
  |ret=>exact⟨_,a₁,w₁,hq, .pass (x:= .inLoop j) rfl (λ_ _=> .inl (by simp)) c⟩
  |panic ch=>exact⟨_,a₁,w₁,hq, .pass (x:= .inLoop j) rfl (λ_ _=> .inl (by simp)) c⟩
  |outgrown=>exact⟨_,a₁,w₁,hq, .pass (x:= .inLoop j) rfl (λ_ _=> .inl (by simp)) c⟩
def bQw (HR:bCy P Y TI FZ IL g){f:Nat}(IH:aXi P Y TI FZ IL g f/\aUx P Y TI FZ IL g f):aXi P Y TI FZ IL g (f+1):=by
  intro E x A an c α s N X R z D G B h;rcases bIv an with⟨tm,a,rfl⟩|⟨tm,a,rfl⟩|hn
  ·replace h:(bif wr tm.ws f c&&anW tm.ws a then bd (ev Y TI FZ IL f a c (Dat U tm.it) s (λs'=>col Y s tm s') (λ_ _=>none) (λ_=>none)) λd=>N (reb Y s tm d) else none)=some z:=h;cases hb:(wr tm.ws f c&&anW tm.ws a) with
   |false=>simp_all
   |true=>rw[hb] at h;simp only[ac] at h;simp only[aa] at hb;obtain⟨d,h1,h2⟩:=jT h;intro Q v hX y a0 w0 β0 p;refine IH.1 E x A a c _ s _ _ _ d _ (aUw hb.1) (wH hb.2) h1 Q (λs' F w' β' j hc r'=> ?_) (by simp) (by simp) a0 w0 β0 p;obtain⟨β'',H⟩:=zQ x p r' j hc;obtain⟨_,_,_,hs,_⟩:=Oc hc;exact v _ _ _ _ ((aFt hs).mono B.1) h2 H
  ·replace h:(bif wr tm.ws f c&&anW tm.ws a then nx (ev Y TI FZ IL f a c (α⊕Dat U tm.it) s (λs'=>bd (col Y s tm s') λd=>some (.inr d)) (λi s'=>bd (X i s') λr=>some (.inl r)) (λs'=>bd (R s') λr=>some (.inl r))) λd=>N (reb Y s tm d) else none)=some z:=h;cases hb:(wr tm.ws f c&&anW tm.ws a) with
   |false=>simp_all
   |true=>
    rw[hb] at h;simp only[ac] at h;simp only[aa] at hb;obtain⟨q,h1,h2⟩:=bLx h;intro Q v hX y a0 w0 β0 p;refine IH.1 E x A a c _ s _ _ _ q _ (aUw hb.1) (wH hb.2) h1 Q (λs' F w' β' j hc r'=> ?_) (λi s' F w' β' j hc r'=> ?_) (λs' F w' β' j hc r'=> ?_) a0 w0 β0 p
    ·obtain⟨d,I,J⟩:=jT hc;have:=aj J;subst this;obtain⟨β'',H⟩:=zQ x p r' j I;obtain⟨_,_,_,hs,_⟩:=Oc I;exact v _ _ _ _ ((aFt hs).mono B.1) h2 H
    ·obtain⟨d,I,J⟩:=jT hc;have:=aj J;subst this;obtain rfl:d=z:=h2;exact hX i s' F w' β' (j.mono B.1) I r'
    ·obtain⟨d,I,J⟩:=jT hc;have:=aj J;subst this;obtain rfl:d=z:=h2;exact y s' F w' β' (j.mono B.1) I r'
  cases c with
  |seq a b=>
   rw[bQu hn] at h;intro Q v hX y a0 w0 β0 p;exact wp_seq (IH.1 E x A an.a a _ s _ _ _ z D G.1 B.a h (Exit.then (b.wp P Q) Q) (λs' F w' β' j h2 r'=>
    IH.1 E x A an.b b _ s' _ _ _ z D G.2 B.b h2 Q (λs2 l o β2 hg=>v s2 l o β2 (j.trans hg)) (λi s2 l o β2 hg=>hX i s2 l o β2 (j.trans hg)) (λs2 l o β2 hg=>y s2 l o β2 (j.trans hg)) F w' β' r')
    (by assumption) (by assumption) a0 w0 β0 p)
  |cond T a b=>
    obtain⟨n,rfl⟩:=bIt hn h;rw[bMi hn] at h;intro Q v hX y a0 w0 β0 p;obtain⟨t,s1,k1,k2,k3,k4,k5,k6⟩:=aSb p h;have j:=k6.mono (D':=D) (λk e=>e▸G.1 n rfl);refine wp_cond_split k1 (λht=> ?_) (λS=> ?_)
    ·exact IH.1 E x A an.a a _ s1 _ _ _ z D G.2.1 B.a (k4 ht) Q (λs2 l o β2 hg=>v s2 l o β2 (j.trans hg)) (λi s2 l o β2 hg=>hX i s2 l o β2 (j.trans hg)) (λs2 l o β2 hg=>y s2 l o β2 (j.trans hg)) a0 w0 β0 k3
    ·exact IH.1 E x A an.b b _ s1 _ _ _ z D G.2.2 B.b (k5 S) Q (λs2 l o β2 hg=>v s2 l o β2 (j.trans hg)) (λi s2 l o β2 hg=>hX i s2 l o β2 (j.trans hg)) (λs2 l o β2 hg=>y s2 l o β2 (j.trans hg)) a0 w0 β0 k3
  |block id O=>
   rw[bIu hn] at h;intro Q v hX y a0 w0 β0 p;refine wp_block (IH.1 E x A an.a O _ s _ _ _ z D G B.a h (Exit.inBlock id Q) (by assumption) (λi s' F w' β' j h2 r'=> ?_) (by assumption) a0 w0 β0 p)
   grind[Nat.beq,id,Nat.eq_of_beq_eq_true,Nat.beq_refl,Exit.inBlock]
  |loop O=>intro Q v hX y a0 w0 β0 p b kk cs;obtain⟨e,F,w',hq,L⟩:=bCz IH E x A an O α s N X R z D hn G B h Q v hX y a0 w0 β0 p b kk cs;exact⟨e,F,w',hq, .of_steps (.one step_loop) L⟩
  |skip=>
   rw[bMk hn] at h;intro Q v hX y a0 w0 β0 p
   grind[wp_skip,Ag.refl]
  |ret=>
   rw[bQv hn] at h;intro Q v hX y a0 w0 β0 p
   grind[wp_ret,Ag.refl]
  |exit i=>
   rw[bMl hn] at h;intro Q v hX y a0 w0 β0 p
   grind[wp_exit,Ag.refl]
  |region id os d=>rw[bE7 hn] at h;exact HR E x A α _ (λE x A an c s K z h=>IH.1 E x A an c _ s _ _ _ z (λ_=>True) (WC.true c) (AW.true an) h) id os d an s N X R z D G B h
  |_=>cases an<;>first|exact absurd rfl (hn.1 _ _)|exact absurd rfl (hn.2 _ _)|cases h
def aUy (HR:bCy P Y TI FZ IL g):∀(f:Nat),aXi P Y TI FZ IL g f/\aUx P Y TI FZ IL g f
 |0=>And.intro (λE _ _ an c α s N X R z D _ _ h=>nomatch h) (λE _ _ an d α s N X R z D _ _ _ h=>nomatch h)
 |f+1=>⟨bQw HR (aUy HR f),bCz (aUy HR f)⟩
def aMk (HR:bCy P Y TI FZ IL g)(f:Nat):aXi P Y TI FZ IL g f:=(aUy HR f).1
end
end Go.EV
namespace Go.EV
open Go.RowKit Go.VK
variable {U:Uni} {Y:Lay U} {TI:List (Nat×TInfo)} {FZ:List (Nat×Sum U)} {P:Program} {g:GI} {E:Env U g}
section
variable {s:St U} {a:Act} {w:World} {β:List Tr} {α:Type}
def aUz (G:Good P g Y TI FZ)(r:bL Y.C E s a w β){al:List Oper}{o:Oper}{K:St U->Option α}{z:α}(h:grd Y TI FZ al o s K=some z){c:Act->World->Prop}{Q:Exit->Act->World->Prop}
  (hk:∀s' v w' β',Ag (Wr al o) s s'->K s'=some z->bL Y.C E s' (a.put o.dst v) w' β'->(Nat.ble (zF FZ o.op) 1=true->Ext w w')->c (a.put o.dst v) w'):if Region.wanted o (yielded al.toArray a.tmps)=true then o.wp P a w c Q else c (a.put o.dst undef) w:=by
 obtain⟨s1,i,h1,h2⟩:=aFq r h;rcases h2 with⟨d,h2⟩|⟨d,h2⟩
 ·rw[cW d];unfold one at h2;obtain⟨x,s2,k1,k2,k3,k4,k5⟩:=aSa G i rfl h2;exact k2 c Q λv w' β' q1 q2 q3=>hk _ v w' β' (Ag.put ⟨λn hn=>by rw[k3];exact h1.t n hn,by rw[k3];exact h1.tl,by rw[k4];exact h1.fr,h1.m.trans k5⟩ (λn e=> .inl e)) k1 (q1.put q2) q3
 ·rw[dm (by rw[d];simp)];exact hk _ _ w β (h1.put (λn e=> .inl e)) h2 (i.put (x:= .l .und) (v:=undef) (λ_=>rfl)) (λ_=>Ext.refl w)
def bL.aBR {C:Cod U}(r:bL C E s a w β){d:Option Nat}{x:Sv U}{v:Value}(h:d≠none->x.mean C w (E.X β) β s.m v)(hv:∀n,d=some n->a.tmps.getD n undef=v):bL C E (EV.put s d x) a w β:=by
 have r':=r.put h;refine⟨r'.hp,r.defers,?_,λn y c=> ?_⟩
 ·rw[r.tsz];cases d with
  |none=>rfl
  |some m=>simp[EV.put,dY]
 ·have:=r'.tm n y c;cases d with
  |none=>exact this
  |some m=>
   by_cases hm:m=n
   ·subst hm;by_cases hl:m<a.tmps.size
    ·rw[show(a.put (some m) v).tmps.getD m undef=v from by simp only[Act.put];rw[Aa _ _ _ _ _ hl,cW rfl]] at this;rw[hv m rfl];exact this
    ·rw[show(a.put (some m) v).tmps=a.tmps from eV (by omega)] at this;exact this
   ·rw[show(a.put (some m) v).tmps.getD n undef=a.tmps.getD n undef from by
     simp only[Act.put];by_cases hl:m<a.tmps.size
     ·rw[Aa _ _ _ _ _ hl,dm hm]
     ·rw[eV (by omega)]] at this
    exact this
def aCi {d:Option Nat}{v:Value}{n:Nat}(h:d≠some n):(a.put d v).tmps.getD n undef=a.tmps.getD n undef:=by
 cases d with
 |none=>rfl
 |some m=>
  simp only[Act.put];by_cases hl:m<a.tmps.size
  ·rw[Aa _ _ _ _ _ hl,dm (λe=>h (by rw[e]))]
  ·rw[eV (by omega)]
def bL.aCB {C:Cod U}(r:bL C E s a w β){d:Option Nat}{v:Value}(h:aP7 s d=true):bL C E s (a.put d v) w β:=by
 refine⟨r.hp,?_,?_,λn x hx=> ?_⟩
 ·cases d<;>exact r.defers
 ·rw[<-r.tsz];cases d with
  |none=>rfl
  |some m=>simp[Act.put]
 ·by_cases hd:d=some n
  ·subst hd;simp only[aP7,aZ,hx] at h;split at h
   ·rename_i c;have:=aj c;subst this;trivial
   ·cases h
  ·rw[aCi hd];exact r.tm n x hx
def bL.aDJ {C:Cod U}(r:bL C E s a w β){d:Option Nat}:bL C E (EV.put s d (.l .any)) a w β:=by
 cases d with
 |none=>exact r
 |some n=>exact r.aBR (v:=a.tmps.getD n undef) (λ_=>trivial) (λm e=>by cases e;rfl)
theorem Jq {o:Oper}(h:aL0 o.op=true){a:Act}{w:World}{v:Value}(hr:(execOp a.eval o).run P w= .ok (.value v) w)(w':World):(execOp a.eval o).run P w'= .ok (.value v) w':=by
 cases ho:o.op with
 |move x=>simp[execOp,ho] at hr ⊢;exact hr
 |assign x=>simp[execOp,ho] at hr ⊢;exact hr
 |extract x i=>
  simp only[execOp,ho] at hr ⊢;cases hx:a.eval x with
  |tuple vs=>
   rw[hx] at hr;simp only[Instr.extract] at hr ⊢;cases hv:vs[i]? with
   |none=>rw[hv] at hr;simp at hr
   |some u=>rw[hv] at hr;simp at hr ⊢;exact hr
  |_=>rw[hx] at hr;simp[Instr.extract] at hr
 |_=>rw[ho] at h;cases h
def Ub {a0:Option Nat}{i:Nat}{c:Array Bool}{pre:Bool}(h:a0Y a0 i c=true)(hp:iF a0 c=pre):iF a0 (c.setIfInBounds i true)=(pre&& !Eh a0 i):=by
 cases a0 with
 |none=>have:pre=true:=hp.symm;subst this;rfl
 |some b=>
  by_cases hb:b=i
  ·subst hb;have e:Eh (some b) b=true:=dq b;rw[e];simp only[a0Y,cy,cX,bo] at h;rw[h];simp
  ·have e:Eh (some b) i=false:=by
    unfold Eh;cases d:Nat.beq b i with
    |false=>exact d
    |true=>exact absurd (ah d) hb
   rw[e,zD (λe=>hb (aj e)),hp];simp
def bS5 {os:Array Oper}{a0:Option Nat}(hs:Region.noSelect os=true){Q:Exit->Act->World->Prop}{i:Nat}{o:Oper}{v:Value}{n:Nat}{c:Array Bool}{wS:World}(ho:os[i]? =some o)(k:Dn .any os c)(hc:tkY os a0 i c=true)
  (y:YieldsIf P os (Ext wS) o v a) (p:aL0 o.op=true->YieldsIf P os (λ_=>True) o v a) (q:iF a0 c=true->Ext wS w)
  (h:fH P .any os a0 (NoPanic Q) (Ext wS) n (c.setIfInBounds i true) (a.put o.dst v) w):fH P .any os a0 (NoPanic Q) (Ext wS) (n+1) c a w:=by
 simp only[tkY,aa] at hc;obtain⟨⟨h1,h2⟩,r⟩:=hc;have d:i∈Region.ready .any os c:=by simpa using h2
 cases a0 with
 |none=>exact pI ho (Region.noSelect_spec hs) (λ_ _ _ h=>h) (by simp) (λ_ _ _=>rfl) n c a w (Region.free_spec ho h1) k d y (q rfl) h
 |some b=>
  simp only[aa,bne_iff_ne,ne_eq,cp,ho] at r;have l:some b≠some i:=λe=>r.1 (aj e);rcases r.2 with t|t
  ·have j:∀c,Dn .any os c->c.getD i true=false->iF (some b) c=true:=λc k x=>by
    simp only[iF,bo];exact getD_in (Zy k x 40 b t)
   exact pI ho (Region.noSelect_spec hs) (λ_ _ _ h=>h) l j n c a w (Region.free_spec ho h1) k d y (q (j _ k (mem_ready.1 d).1)) h
  ·exact Ij ho (Region.noSelect_spec hs) (λ_ _ _ h=>h) l n c a w (Region.free_spec ho h1) d (p t) q h
def vF {os:Array Oper}{a0:Option Nat}{i:Nat}{c:Array Bool}(h:tkY os a0 i c=true):i∈Region.ready .any os c/\a0≠some i:=by
 simp only[tkY,aa] at h;refine⟨by simpa using h.1.2,λe=> ?_⟩
 subst e;have:=h.2;simp at this
structure Lk (E:Env U g) (kd:Option (Nat×Nat)) (st pre:Bool) (wS w:World):Prop where
 fr:∀n k,kd=some (n,k)->(wS,n,k)∈E.fr
 st:st=true->wS=w
 no:kd=none->wS=w
 pre:pre=true->Ext wS w
def stepT (G:Good P g Y TI FZ){al:List Oper}{a0:Option Nat}(hs:Region.noSelect al.toArray=true){Q:Exit->Act->World->Prop}{i:Nat}{o:Oper}{n:Nat}{c:Array Bool}{wS:World}(ho:al[i]? =some o)(j:Dn .any al.toArray c)(hc:tkY al.toArray a0 i c=true)
  {K:St U->Option α} {z:α} {st:Bool} (h:(bif Nat.beq (zF FZ o.op) 0&&(aL0 o.op||st) then grd Y TI FZ al o s K else none)=some z) (e:st=true->wS=w) (k:iF a0 c=true->Ext wS w) (r:bL Y.C E s a w β)
  (hk:∀v s',Ag (Wr al o) s s'->K s'=some z->bL Y.C E s' (a.put o.dst v) w β->fH P .any al.toArray a0 (NoPanic Q) (Ext wS) n (c.setIfInBounds i true) (a.put o.dst v) w):fH P .any al.toArray a0 (NoPanic Q) (Ext wS) (n+1) c a w:=by
 cases hb:(Nat.beq (zF FZ o.op) 0&&(aL0 o.op||st)) with
 |false=>rw[hb] at h;cases h
 |true=>
  rw[hb] at h;simp only[ac] at h;simp only[aa,cp] at hb;obtain⟨v,s',h1,h2,l,p⟩:=bQs G r (ah hb.1) h;have hg:al.toArray[i]? =some o:=by simpa using ho
  have d:aL0 o.op=true->YieldsIf P al.toArray (λ_=>True) o v a:=λhp=>h1.imp (λ⟨k1,k2⟩=>⟨k1,λw' _=>Jq hp (k2 w (Ext.refl w)) w'⟩) id;refine bS5 hs hg j hc ?_ d k (hk v s' p l h2);rcases hb.2 with hp|hp
  ·exact(d hp).imp (λ⟨k1,k2⟩=>⟨k1,λw' _=>k2 w' trivial⟩) id
  ·have:=e hp;subst this;exact h1
def aXj (G:Good P g Y TI FZ){al:List Oper}{a0:Option Nat}{kd:Option (Nat×Nat)}{Q:Exit->Act->World->Prop}{i:Nat}{o:Oper}{n:Nat}{c:Array Bool}{wS:World}(ho:al[i]? =some o){pre st:Bool}(y:a0Y a0 i c=true)(hp:iF a0 c=pre)
  {K:St U->Option α} {z:α} (h:grd Y TI FZ al o s (λs'=>bif !(pre&& !Eh a0 i)||(Nat.ble (zF FZ o.op) 1||unO kd s'.m.o) then K s' else none)=some z) (hl:Lk E kd st pre wS w) (r:bL Y.C E s a w β)
  (hk:∀v s' w' β' wS',Ag (Wr al o) s s'->K s'=some z->bL Y.C E s' (a.put o.dst v) w' β'->Lk E kd (st&&Jj kd) (pre&& !Eh a0 i) wS' w'->fH P .any al.toArray a0 (NoPanic Q) (Ext wS') n (c.setIfInBounds i true) (a.put o.dst v) w'):
  wpOp P al.toArray (NoPanic Q) i (λA w'=>(iF a0 (c.setIfInBounds i true)=true->Ext wS w')/\fH P .any al.toArray a0 (NoPanic Q) (Ext wS) n (c.setIfInBounds i true) A w') a w:=by
 have l:=Ub y hp;have hg:al.toArray[i]? =some o:=by simpa using ho
 refine wpOp_step hg λB t=>aUz G r h λs' v w' β' q1 q2 q3 q4=>t _ _ ?_;cases hb:(!(pre&& !Eh a0 i)||(Nat.ble (zF FZ o.op) 1||unO kd s'.m.o)) with
 |false=>rw[hb] at q2;cases q2
 |true=>
  rw[hb] at q2;simp only[ac] at q2;have j:(pre&& !Eh a0 i)=true->Ext wS w':=λe=>by
   rw[e] at hb;simp only[ay,cX,cp] at hb;simp only[aa] at e;rcases hb with hb|hb
   ·exact(hl.pre e.1).trans (q4 hb)
   ·cases d:kd with
    |none=>rw[d] at hb;cases hb
    |some p=>obtain⟨n0,k0⟩:=p;rw[d] at hb;exact q3.unt (hl.fr n0 k0 d) hb
  refine⟨λhn=>j (l.symm.trans hn),?_⟩;cases d:kd with
  |some p=>exact hk v s' w' β' wS q1 q2 q3 ⟨hl.fr,λh=>(by rw[d] at h;simp[Jj] at h),λh=>(by rw[d] at h;cases h),j⟩
  |none=>
   have F:=hl.no d;have q:=hk v s' w' β' w' q1 q2 q3 ⟨λn k h=>(by rw[d] at h;cases h),λ_=>rfl,λ_=>rfl,λ_=>Ext.refl w'⟩;cases e:(pre&& !Eh a0 i) with
   |true=>exact wF (λx hx=>(j e).trans hx) _ _ _ _ q
   |false=>exact rF _ _ _ _ (l.trans e) q
variable {al:List Oper} {a0:Option Nat} {kd:Option (Nat×Nat)} {Q:Exit->Act->World->Prop} {D:Nat->Prop}
def aXk (G:Good P g Y TI FZ)(hs:Region.noSelect al.toArray=true):∀(l:List (Nat×Bool)) (pre st:Bool) (s:St U) (K:St U->Option α) (z:α),(∀i∈l,∀o,al[i.1]? =some o->∀n,Wr al o n->D n)->aB5 Y TI FZ al a0 kd l none pre st s K=some z->
  (∀s' a w β,Ag D s s'->K s'=some z->bL Y.C E s' a w β->Q .normal a w)->∀c,Dn .any al.toArray c->aFj al.toArray a0 l c=true->iF a0 c=pre->∀a w β wS,Lk E kd st pre wS w->bL Y.C E s a w β->fH P .any al.toArray a0 (NoPanic Q) (Ext wS) l.length c a w
 |[],pre,st,s,K,z,_,h,q,c,_,hc,_,a,w,β,wS,_,r=>wG (P:=P) (a0:=a0) (S:=Ext wS) (Q:=NoPanic Q) (by simpa[aFj] using hc) (q s a w β (Ag.refl s) h r) 0
 |(i,fl)::l,pre,st,s,K,z,F,h,q,c,d,hc,hp,a,w,β,wS,hl,r=>by
  simp only[aB5,aZ] at h;cases ho:al[i]? with
  |none=>rw[ho] at h;cases h
  |some o=>
   rw[ho] at h;simp only at h;have e:=F (i,fl) (by simp) o ho;have k:∀j∈l,∀o,al[j.1]? =some o->∀n,Wr al o n->D n:=λj hj=>F j (by simp[hj]);cases fl with
   |true=>
    simp only[aFj,aa] at hc;obtain⟨hr,t⟩:=vF hc.1;exact stepT G hs ho d hc.1 h hl.st (λhn=>hl.pre (hp.symm.trans hn)) r λv s' h1 h2 x=>
     aXk G hs l pre st s' K z k h2 (λs2 y A β2 B=>q s2 y A β2 ((h1.mono e).trans B)) _ (d.set hr) hc.2 ((zD t).trans hp) _ w β wS hl x
   |false=>
    simp only[aFj,aa,de] at hc;simp only[ae] at h;rw[show aIa Y TI al none s=true from rfl] at h;simp only[ac] at h;refine lD hc.1 (by simp) λI p=> ?_
    simp at p;subst p;exact aXj G ho hc.2.1 hp h hl r λv s' w' β' wS' h1 h2 x H=>
     aXk G hs l _ _ s' K z k h2 (λs2 y A β2 B=>q s2 y A β2 ((h1.mono e).trans B)) _ (d.set (by rw[hc.1];simp)) hc.2.2 (Ub hc.2.1 hp) _ w' β' wS' H x
def aMl {j:Nat}{oj:Oper}(ho:al[j]? =some oj)(h:aIa Y TI al (some j) s=true):oj.guard=none/\aP7 s oj.dst=true/\Eo Y TI s oj.op=true/\aZz oj oj.dst=true:=by
 simp only[aIa,aZ,ho,aa] at h;refine⟨?_,h.2.1,h.2.2.2,h.2.2.1⟩;cases hg:oj.guard with
 |none=>rfl
 |some x=>rw[hg] at h;cases h.1
def bIw {oj:Oper}{d:Option Nat}(h:bHs oj d=true):∀n,oj.dst=some n->d≠some n:=λn hn e=>by
 subst e;simp only[bHs,hn,aa] at h;have:=h.1;rw[show Nat.beq n n=true from dq n] at this;cases this
def bIx {oj:Oper}{d:Option Nat}(h:bHs oj d=true):aZz oj d=true:=by simp only[bHs,aa] at h;exact h.2
def Lk.mk1 {b:Nat}{blk:Obj}{hb:E.w0.heap.size<=b}{st pre:Bool}{wS:World}(h:Lk E kd st pre wS w):Lk (E.ahd b blk hb) kd st pre wS w:=⟨h.fr,h.st,h.no,h.pre⟩
def Lk.un1 {b:Nat}{blk:Obj}{hb:E.w0.heap.size<=b}{st pre:Bool}{wS:World}(h:Lk (E.ahd b blk hb) kd st pre wS w):Lk E kd st pre wS w:=⟨h.fr,h.st,h.no,h.pre⟩
def bIy (G:Good P g Y TI FZ)(hs:Region.noSelect al.toArray=true)(hP:E.prm=[]){j:Nat}{oj:Oper}(hj:al[j]? =some oj)(B:oj.guard=none)(F:a0≠some j){b:Nat}{blk:Obj}{hb:E.w0.heap.size<=b}:∀(l:List (Nat×Bool)) (m:Nat) (pre st:Bool) (s:St U) (K:St U->Option α) (z:α),m+1=l.length->(∀i∈l,∀o,al[i.1]? =some o->∀n,Wr al o n->D n)->aB5 Y TI FZ al a0 kd l (some j) pre st s K=some z->
  (∀s' a w β,Ag D s s'->K s'=some z->bL Y.C E s' a w β->Q .normal a w)->∀d,Dn .any al.toArray d->aZ0 al.toArray a0 oj j l d=true->iF a0 d=pre->∀a w β wS,Lk E kd st pre wS w->Flp P a oj blk->(∀n,oj.dst=some n->a.tmps.getD n undef=mkF oj.op b)->bL Y.C (E.ahd b blk hb) s a w β->fH P .any al.toArray a0 (NoPanic Q) (Ext wS) m d a w
 |[],m,pre,st,s,K,z,hm,_,h,Z,d,_,hc,_,a,w,β,wS,_,_,_,r=>by cases hc
 |(i,fl)::l,m,pre,st,s,K,z,hm,hD,h,Z,d,y,hc,hp,a,w,β,wS,hl,hF,hv,r=>by
  have J:m=l.length:=by simpa using hm
  have H:∀j∈l,∀o,al[j.1]? =some o->∀n,Wr al o n->D n:=λj hj=>hD j (by simp[hj]);simp only[aZ0] at hc;simp only[aB5,aZ] at h;cases p:Nat.beq i j with
  |true=>
   have e:=ah p;subst e;rw[p] at hc;simp only[ac,aa] at hc;have hfl:fl=false:=by simpa using hc.1
   subst hfl;rw[hj] at h;simp only[ae] at h;have A:=hD (i,false) (by simp) oj hj;cases k:aIa Y TI al (some i) s with
   |false=>rw[k] at h;cases h
   |true=>
    rw[k] at h;simp only[ac] at h;obtain⟨_,_,hok,_⟩:=aMl hj k;have I:Eh (some i) i=true:=dq i;have hna:Eh a0 i=false:=by
     cases a0 with
     |none=>rfl
     |some c=>
      cases hh:Eh (some c) i with
      |false=>rfl
      |true=>exact absurd (congrArg some (ah hh)) F
    rw[I,hna] at h;simp only[ac,da,gi] at h;unfold grd aUb at h;rw[B] at h;simp only[one] at h;obtain⟨x,s',β',k1,k2,k3,k4,k5,k6⟩:=bE4 G r hP hF hok h;cases L:(!pre||(Nat.ble (zF FZ oj.op) 1||unO kd (EV.put s' oj.dst x).m.o)) with
    |false=>rw[L] at k1;cases k1
    |true=>rw[L] at k1;simp only[ac] at k1;have hag:Ag D s (EV.put s' oj.dst x):=Ag.put ⟨λn _=>by rw[k4],by rw[k4],k5,k6⟩ (λn e=>A n (.inl e));rw[J];exact aXk G hs l pre _ _ K z H k1 (λs2 O S β2 T=>Z s2 O S β2 (hag.trans T)) d y hc.2 hp a w β' wS ⟨hl.fr,λh=>hl.st (by simp only[aa] at h;exact h.1),hl.no,hl.pre⟩ (k2.aBR (λ_=>k3) hv)
  |false=>
   rw[p] at hc;simp only[ae] at hc;have hnA:Eh (some j) i=false:=by
    show Nat.beq j i=false;cases hh:Nat.beq j i with
    |false=>rfl
    |true=>have:=ah hh;subst this;rw[show Nat.beq j j=true from dq j] at p;cases p
   cases ho:al[i]? with
   |none=>rw[ho] at h;cases h
   |some o=>
    rw[ho] at h;simp only at h;have hg:al.toArray[i]? =some o:=by simpa using ho
    rw[hg] at hc;simp only[aa] at hc;obtain⟨q,hc⟩:=hc;have A:=hD (i,fl) (by simp) o ho;have hlen:∃m',m=m'+1/\m'+1=l.length:=by
     cases l with
     |nil=>cases fl<;>(simp only[ac,ae,aZ0,dh,aa] at hc;simp at hc)
     |cons x l=>exact⟨l.length,by simpa using J,by simp⟩
    obtain⟨m',rfl,V⟩:=hlen;have t:∀n,oj.dst=some n->∀v,(a.put o.dst v).tmps.getD n undef=mkF oj.op b:=λn hn v=>by rw[aCi (bIw q n hn)];exact hv n hn
    cases fl with
    |true=>
     simp only[ac,aa] at hc;obtain⟨hr,hne⟩:=vF hc.1;exact stepT G hs ho y hc.1 h hl.st (λhn=>hl.pre (hp.symm.trans hn)) r λv s' h1 h2 h3=>
      bIy G hs hP hj B F l m' pre st s' K z V H h2 (λs2 O S β2 T=>Z s2 O S β2 ((h1.mono A).trans T)) _ (y.set hr) hc.2 ((zD hne).trans hp) _ w β wS hl (hF.keep (bIx q)) (λn hn=>t n hn v) h3
    |false=>
     simp only[ae,aa,de] at hc;simp only[ae,hnA] at h;cases k:aIa Y TI al (some j) s with
     |false=>rw[k] at h;cases h
     |true=>
      rw[k] at h;simp only[ac] at h;refine lD hc.1 (by simp) λi' W=> ?_;simp at W;subst W;exact aXj G ho hc.2.1 hp h hl.mk1 r λv s' w' β' wS' h1 h2 h3 h4=>
       bIy G hs hP hj B F l m' _ _ s' K z V H h2 (λs2 O S β2 T=>Z s2 O S β2 ((h1.mono A).trans T)) _ (y.set (by rw[hc.1];simp)) hc.2.2 (Ub hc.2.1 hp) _ w' β' wS' h4.un1 (hF.keep (bIx q)) (λn hn=>t n hn v) h3
def bIz (G:Good P g Y TI FZ)(hs:Region.noSelect al.toArray=true)(hP:E.prm=[]){j:Nat}{oj:Oper}(hj:al[j]? =some oj)(B:a0≠some j):∀(l:List (Nat×Bool)) (pre st:Bool) (s:St U) (K:St U->Option α) (z:α),(∀i∈l,∀o,al[i.1]? =some o->∀n,Wr al o n->D n)->aB5 Y TI FZ al a0 kd l (some j) pre st s K=some z->
  (∀s' a w β,Ag D s s'->K s'=some z->bL Y.C E s' a w β->Q .normal a w)->∀c,Dn .any al.toArray c->bHv al.toArray a0 oj j l c=true->iF a0 c=pre->∀a w β wS,Lk E kd st pre wS w->bL Y.C E s a w β->fH P .any al.toArray a0 (NoPanic Q) (Ext wS) l.length c a w
 |[],pre,st,s,K,z,_,h,Z,c,_,hc,_,a,w,β,wS,_,r=>by cases hc
 |(i,fl)::l,pre,st,s,K,z,hD,h,Z,c,F,hc,hp,a,w,β,wS,hl,r=>by
  have S:∀j∈l,∀o,al[j.1]? =some o->∀n,Wr al o n->D n:=λj hj=>hD j (by simp[hj]);have H:=h;simp only[bHv] at hc;simp only[aB5,aZ] at h;cases ho:al[i]? with
  |none=>rw[ho] at h;cases h
  |some o=>
   rw[ho] at h;simp only at h;have T:=hD (i,fl) (by simp) o ho;cases I:Nat.beq i j with
   |true=>
    have e:=ah I;subst e;rw[I] at hc;simp only[ac,aa,de] at hc;have hfl:fl=false:=by simpa using hc.1
    subst hfl;simp only[ae] at h;cases A:aIa Y TI al (some i) s with
    |false=>rw[A] at h;cases h
    |true=>
     rw[A] at h;simp only[ac] at h;have q:Eh (some i) i=true:=dq i;rw[q] at h;simp only[ac] at h;have ha:a0Y a0 i c=true:=by unfold a0Y;rw[show(a0 !=some i)=true from by simpa using B];rfl
     refine lD hc.2.1 (by simp) λi' d=> ?_;simp at d;subst d;exact aXj G ho ha hp h hl r λv s' w' β' wS' h1 h2 h3 h4=>
      aXk G hs l _ _ s' K z S h2 (λs2 a2 w2 β2 g1=>Z s2 a2 w2 β2 ((h1.mono T).trans g1)) _ (F.set (by rw[hc.2.1];simp)) hc.2.2 (Ub ha hp) _ w' β' wS' h4 h3
   |false=>
    rw[I] at hc;simp only[ae] at hc;have hnA:Eh (some j) i=false:=by
     show Nat.beq j i=false;cases hh:Nat.beq j i with
     |false=>rfl
     |true=>have:=ah hh;subst this;rw[show Nat.beq j j=true from dq j] at I;cases I
    cases fl with
    |true=>
     simp only[ac,aa] at hc;obtain⟨hr,hne⟩:=vF hc.1;exact stepT G hs ho F hc.1 h hl.st (λhn=>hl.pre (hp.symm.trans hn)) r λv s' h1 h2 h3=>
      bIz G hs hP hj B l pre st s' K z S h2 (λs2 a2 w2 β2 g1=>Z s2 a2 w2 β2 ((h1.mono T).trans g1)) _ (F.set hr) hc.2 ((zD hne).trans hp) _ w β wS hl h3
    |false=>
     simp only[ae,aa] at hc;simp only[ae,hnA] at h;cases A:aIa Y TI al (some j) s with
     |false=>rw[A] at h;cases h
     |true=>
      rw[A] at h;simp only[ac] at h;obtain⟨hgj,y,hok,q⟩:=aMl hj A;have hgi:al.toArray[j]? =some oj:=by simpa using hj
      have inT:i∈Region.ready .any al.toArray c->wpOp P al.toArray (NoPanic Q) i (λa' w'=>(iF a0 (c.setIfInBounds i true)=true->Ext wS w')/\fH P .any al.toArray a0 (NoPanic Q) (Ext wS) l.length (c.setIfInBounds i true) a' w') a w:=λhir=>
       aXj G ho hc.2.1 hp h hl r λv s' w' β' wS' h1 h2 h3 h4=>
        bIz G hs hP hj B l _ _ s' K z S h2 (λs2 a2 w2 β2 g1=>Z s2 a2 w2 β2 ((h1.mono T).trans g1)) _ (F.set hir) hc.2.2 (Ub hc.2.1 hp) _ w' β' wS' h4 h3
      have early:j∈Region.ready .any al.toArray c->aZ0 al.toArray a0 oj j ((i,false)::l) (c.setIfInBounds j true)=true->wpOp P al.toArray (NoPanic Q) j (λa' w'=>(iF a0 (c.setIfInBounds j true)=true->Ext wS w')/\fH P .any al.toArray a0 (NoPanic Q) (Ext wS) l.length (c.setIfInBounds j true) a' w') a w:=λhjr hc1=>by
       obtain⟨blk,hF⟩:=aSc G r hok;have V:iF a0 (c.setIfInBounds j true)=pre:=(zD B).trans hp;have hbw:E.w0.heap.size<=w.heap.size:=r.hp.ext.size;refine wpOp_step hgi λK' hK'=> ?_;rw[cW (by simp[Region.wanted,hgj])];refine wpo (.inl (hF w)) (hK' _ _ ⟨λhn=>(hl.pre (V.symm.trans hn)).trans (Ext.alloc _ _),?_⟩);have r1:bL Y.C (E.ahd w.heap.size blk hbw) s (a.put oj.dst (mkF oj.op w.heap.size)) (w.alloc blk) β:=(r.ahead hbw).aCB y;have hF':Flp P (a.put oj.dst (mkF oj.op w.heap.size)) oj blk:=hF.keep q;have hv':∀n,oj.dst=some n->(a.put oj.dst (mkF oj.op w.heap.size)).tmps.getD n undef=mkF oj.op w.heap.size:=λn hn=>by
        rw[hn];simp only[aP7,hn,aZ] at y;have hlt:n<a.tmps.size:=by
         rw[r.tsz];cases hx:s.t[n]? with
         |none=>rw[hx] at y;cases y
         |some x=>exact lt_of_some hx
        simp only[Act.put];rw[Aa _ _ _ _ _ hlt,cW rfl]
       have fin:=λW wS' (J:aB5 Y TI FZ al a0 kd ((i,false)::l) (some j) pre W s K=some z) (hl':Lk E kd W pre wS' (w.alloc blk))=>bIy (D:=D) (Q:=Q) G hs hP hj hgj B ((i,false)::l) l.length pre W s K z (by simp) hD J Z _ (F.set hjr) hc1 V _ (w.alloc blk) β wS' hl' hF' hv' r1;cases L:kd with
       |some p=>refine fin false wS ?_ ⟨hl.fr,λh=>(by cases h),λh=>(by rw[L] at h;cases h),λh=>(hl.pre h).trans (Ext.alloc _ _)⟩;have hf:=H;rw[L] at hf ⊢;simp only[aB5,aZ,ho,ae,Jj,dh] at hf ⊢;exact hf
       |none=>
        have hw:=hl.no L;have hk':=fin st (w.alloc blk) H ⟨λn k h=>(by rw[L] at h;cases h),λ_=>rfl,λ_=>rfl,λ_=>Ext.refl _⟩;cases hpp:pre with
        |true=>exact wF (λx hx=>((hl.pre hpp).trans (Ext.alloc _ _)).trans hx) _ _ _ _ hk'
        |false=>exact rF _ _ _ _ (V.trans hpp) hk'
      have h1:=hc.1;rw[cp,de] at h1;rcases h1 with h1|h1
      ·refine lD h1 (by simp) λi' d=> ?_;simp at d;subst d;exact inT (by rw[h1];simp)
      ·rw[aa,cp,de,de] at h1;have O:∀x,x∈Region.ready .any al.toArray c↔x=i\/x=j:=λx=>by
        rcases h1.1 with e|e<;>rw[e]<;>simp[or_comm]
       exact lD rfl (λe=>by have:=(O i).2 (.inl rfl);rw[e] at this;simp at this) λi' d=>by
        rcases(O i').1 d with rfl|rfl
        ·exact inT d
        ·exact early d h1.2
end
end Go.EV
namespace Go.EV
open Go.RowKit Go.VK
variable {U:Uni} {Y:Lay U} {TI:List (Nat×TInfo)} {FZ:List (Nat×Sum U)} {P:Program} {g:GI} {E:Env U g}
section
variable {s s':St U} {a:Act} {w w':World} {β β':List Tr} {α:Type}
def aQc (bs:List Nat)(Yb:Nat->Prop)(n:Nat)(s:St U)(β:List Tr):Prop:=∀(b:Nat) (e:EO U) (t:Tr) (k:Nat),s.m.o[b]? =some e->e.ob.aAY=true->β[b]? =some t->t.b=some k->(b∈bs->Yb k)/\(b∉bs->¬Yb k/\k<n)
def aXl {bs:List Nat}{Yb:Nat->Prop}{wS:World}(r:bL Y.C E s a w β)(n:aQc bs Yb wS.heap.size s β)(hb:Bel Yb wS w){t:Nat}{i:TInfo}(d:tiB P t i=true){b o:Nat}{y:Sv U}{v:Value}(hm:(Lf.box b o:Lf U).mean Y.C w (E.X β) β s.m v)(h:load Y s i (.box b o)=some y)(hn:b∉bs):
  ∃p v',v= .pointer (some p)/\(∀w',Bel Yb wS w'->(loadVar t p).run P w'= .ok v' w')/\y.mean Y.C w (E.X β) β s.m v':=by
 simp only[load,aZ] at h;obtain⟨_,e,tr,h1,h2,q⟩:=hm;simp only[h1] at h;have k:=r.hp.ok b tr e h2 h1;have hi:=n b e tr;obtain⟨ob,rv,cv⟩:=e;cases ob with
 |box T cs x=>
  obtain⟨c,l,rfl⟩:=q rfl;obtain⟨_,b',vs,k1,k2,k3,k4⟩:=k;rw[l] at k1;injection k1 with k1;subst k1;obtain⟨q1,q2⟩:=(hi c h1 rfl h2 l).2 hn;obtain⟨v',q3,q4⟩:=aFl (S:=Bel Yb wS) (P:=P) (p:=⟨c,o,none⟩) d h (k4.drop o) (λw' he j u hj=>by
   rw[gI,cell_of_row w' c (o+j) _ T (0,0) ((he.block c q2 q1).trans ((hb.block c q2 q1).symm.trans k3))];simp_all)
  grind
 |_=>cases h
def aQc.go {bs:List Nat}{Yb:Nat->Prop}{n:Nat}(h:aQc bs Yb n s β){m:Mm U}{N M K:Nat}(p:N=s.m.o.length)(r:Hp Y.C E s.m β w)(hl:m.o.length=s.m.o.length)(c:Evo w w' (E.X β) (E.X β') β β' s.m m N M K){t:List (Sv U)}{fr}:aQc bs Yb n ⟨t,m,fr⟩ β':=by
 intro b e t k h1 h2 j q;have hb:b<s.m.o.length:=by grind
 have d:s.m.o[b]? =some s.m.o[b]:=ab hb;have i:β[b]? =some (β[b]'(by rw[r.len];exact hb)):=ab _;obtain⟨e',t',k1,k2,_,_,k5⟩:=c.ho b _ _ (by omega) d i;replace h1:m.o[b]? =some e:=h1;rw[h1] at k1;injection k1 with k1;subst k1;rw[j] at k2;injection k2 with k2;subst k2;obtain⟨l,v⟩:=k5 h2;exact h b _ _ k d l i (by simp_all)
def bQx {i:Nat}{l:List Nat}(h:(!Rb i l)=true):i∉l:=(by grind[qJ])
variable {al:List Oper} {Q:Exit->Act->World->Prop} {D:Nat->Prop}
def Env.pinned (E:Env U g)(l:List (Sv U×Value)):Env U g:=⟨E.X0,E.Y0,E.w0,E.prm,E.fr,E.h0,E.hY,E.hXY,E.hg,l++E.pin⟩
def bL.pins {C:Cod U}(r:bL C E s a w β){ps:List (Sv U×Value)}(h:∀x∈ps,x.1.mean C w (E.X β) β s.m x.2):bL C (E.pinned ps) s a w β:=
 ⟨⟨r.hp.ext,r.hp.len,r.hp.vers,r.hp.cnt,r.hp.new,r.hp.dist,r.hp.nd,r.hp.ok,λx hx=>(bp.1 hx).elim (h x) (r.hp.pin x),r.hp.prm,r.hp.fr⟩,r.defers,r.tsz,r.tm⟩
def bL.aDC {C:Cod U}{ps:List (Sv U×Value)}(r:bL C (E.pinned ps) s a w β):bL C E s a w β:=
 ⟨⟨r.hp.ext,r.hp.len,r.hp.vers,r.hp.cnt,r.hp.new,r.hp.dist,r.hp.nd,r.hp.ok,λx hx=>r.hp.pin x (bp.2 (.inr hx)),r.hp.prm,r.hp.fr⟩,r.defers,r.tsz,r.tm⟩
def aMm {C:Cod U}{m:Mm U}(H:Hp C E m β w):∀(bs:List Nat),bxs bs m.o=true->∃ps:List (Sv U×Value),(∀x∈ps,x.1.mean C w (E.X β) β m x.2)/\∀b∈bs,∃t k,β[b]? =some t/\t.b=some k/\(Sv.l (.box b 0),Value.pointer (some ⟨k,0,none⟩))∈ps
 |[],_=>⟨[],by simp,by simp⟩
 |b::bs,h=>by
  have c:(match nth m.o b with|some ⟨.box ..,_,_⟩=>bxs bs m.o|_=>false)=true:=h;split at c
  ·rename_i T cs n rv cv ho;rw[aZ] at ho;obtain⟨t,ht⟩:=H.tr ho;obtain⟨_,k,vs,d,p,q,r⟩:=H.ok b t _ ht ho;obtain⟨ps,e,i⟩:=aMm H bs c;refine⟨(Sv.l (.box b 0),Value.pointer (some ⟨k,0,none⟩))::ps,λx hx=> ?_,λb' hb=> ?_⟩
   ·rcases bf.1 hx with rfl|hx
    ·exact⟨rfl,_,t,ho,ht,λ_=>⟨k,d,rfl⟩⟩
    ·exact e x hx
   ·rcases bf.1 hb with rfl|hb
    ·exact⟨t,k,ht,d,by simp⟩
    ·obtain⟨t',j,q1,q2,q3⟩:=i b' hb;exact⟨t',j,q1,q2,by simp[q3]⟩
  ·cases c
def aXm {Yb:Nat->Prop}(hY:∀k,Yb k->E.X β k){t:Nat}{i:TInfo}(r:tiB P t i=true){τ o:Nat}{d:U.El τ}{y:Sv U}{v:Value}(hm:(Lf.ptr τ d o:Lf U).mean Y.C w (E.X β) β s.m v)(h:load Y s i (.ptr τ d o)=some y):
  ∃p v',v= .pointer (some p)/\(∀w',Bel Yb w w'->(loadVar t p).run P w'= .ok v' w')/\y.mean Y.C w (E.X β) β s.m v':=by
 simp only[load] at h;have q:Rd w (E.X β) [] v (.elem ((U.enc τ d).drop o)):=hm;cases v with
 |pointer p=>
  cases q with
  | @elem _ z _ val hX hb hcell hrd=>
   have hlen:((List.range ((Y.C.cel τ d).drop o).length).map val).length=((Y.C.cel τ d).drop o).length:=by simp
   obtain⟨v',q1,q2⟩:=aFl (S:=Bel Yb w) (P:=P) (p:=z) (vs:=(List.range ((Y.C.cel τ d).drop o).length).map val) r h (m:=s.m) (C:=Y.C) (w:=w) (X:=E.X β) (β:=β) ⟨hlen,λj u c A x=>by
     have e:=lt_of_some x;simp only[bn,dt e,dn,ai] at A;subst A;have hd:((U.enc τ d).drop o)[j]? =some c.toV:=by rw[<-Y.C.hcel,<-fv,bn,x];rfl
     have hr:=hrd j _ hd;have hdat:=Y.C.hdat τ d c (df (aE x));cases c with
     |int k n=>exact hr.aAR
     |bool b=>exact hr.aAX
     |str b=>exact hr.aAV
     |sl τ' l=>exact hr
     |_=>cases hdat⟩ (λw' he j u hj=>by
     have e:j<((Y.C.cel τ d).drop o).length:=by grind
     simp only[bn,dt e,dn,ai] at hj;subst hj;have hc:=hcell j (((U.enc τ d).drop o)[j]'(by rw[<-Y.C.hcel,<-fv,bl];exact e)) (ab _);exact(World.cell?_of_block (a:=z.add j) (w:=w) (w':=w') (by rw[add_block];exact he.block _ hb λB=>hX (hY _ B))).trans hc)
   grind
 |_=>cases q
def Bl (P:Program){γ:Type}(x:Sem γ):Prop:=∀(w c:World) (v:γ),x.run P w= .ok v c->c=w/\∀w',x.run P w'= .ok v w'
def Bl.pure {γ:Type}(c:γ):Bl P (Pure.pure c:Sem γ):=λw d v h=>by
 simp only[Sem.run_pure] at h ⊢;injection h with h1 h2;subst h1 h2;exact⟨rfl,λ_=>rfl⟩
def Bl.bind {γ δ:Type}{x:Sem γ}{f:γ->Sem δ}(hx:Bl P x)(d:∀c,Bl P (f c)):Bl P (x>>=f):=λw j v h=>by
 rw[Sem.run_bind] at h;cases hr:x.run P w with
 |ok c i=>rw[hr] at h;obtain⟨e,h1⟩:=hx _ _ _ hr;subst e;obtain⟨k,h2⟩:=d c _ _ _ h;simp[*]
 |halt y i=>simp_all
def Bl.no {γ:Type}{x:Sem γ}(hx:∀(w c:World) (v:γ),x.run P w≠ .ok v c):Bl P x:=λw c v h=>absurd h (hx w c v)
def Bl.ite {γ:Type}{c:Prop}[Decidable c]{x y:Sem γ}(hx:Bl P x)(d:Bl P y):Bl P (if c then x else y):=by split<;>assumption
def Bl.und (t:TypeId):Bl P (underlying t):=λw c v h=>by
 unfold underlying at h ⊢;simp only[Sem.run_bind] at h ⊢;cases d:P.underlying t<;>simp_all
def Bl.size (t:TypeId):Bl P (sizeOf t):=λw c v h=>by
 unfold sizeOf typeInfo at h ⊢;simp only[Sem.run_bind] at h ⊢;cases d:P.info? t<;>simp_all
def Bl.sure (v:Value):Bl P (Instr.sureAddr v):=by
 unfold Instr.sureAddr;split
 ·exact Bl.pure _
 ·exact Bl.no (by simp)
def Bl.asInt (v:Value):Bl P (asIntOf v):=by
 unfold asIntOf;split
 ·exact Bl.pure _
 ·exact Bl.no (by simp)
 ·exact Bl.no (by simp)
def then_ok {γ δ:Type}{x:Result γ}{f:γ->World->Result δ}{c:δ}{e:World}(h:x.andThen f= .ok c e):∃y d,f y d= .ok c e:=by
 cases x with
 |ok y d=>exact⟨y,d,h⟩
 |halt y d=>cases h
def Bl.stuck {γ:Type}(s:String):Bl P (stuck s:Sem γ):=Bl.no (by simp)
def Bl.aDP {γ:Type}(u:Unsupported):Bl P (unsupported u:Sem γ):=Bl.no (by simp)
def Bl.bounds {γ:Type}(k:IntKind)(x y:Int)(c:BoundsCode):Bl P (boundsPanic k x y c:Sem γ):=Bl.no λw d v h=>by
 unfold boundsPanic at h;dsimp only at h;split at h<;>rw[Sem.run_bind] at h<;>obtain⟨_,_,h2⟩:=then_ok h<;>simp[runtimePanic] at h2
def Bl.index (t:TypeId)(A:Option Addr)(n c:Nat)(ix:Value):Bl P (Instr.indexAt t (.slice A n c) ix):=by
 unfold Instr.indexAt;dsimp only
 repeat' first
  |with_reducible exact Bl.pure _
  |with_reducible exact Bl.bounds ..
  |with_reducible exact Bl.und _
  |with_reducible exact Bl.size _
  |with_reducible exact Bl.sure _
  |with_reducible exact Bl.asInt _
  |with_reducible exact Bl.stuck _
  |with_reducible exact Bl.aDP _
  |with_reducible refine Bl.ite ?_ ?_
  |with_reducible refine Bl.bind ?_ λ_=> ?_
  |split
def Bl.pick (o:Oper){c x y:Operand}(ho:o.op= .pick c x y)(ρ:Operand->Value):Bl P (execOp ρ o):=by
 simp only[execOp,ho];refine Bl.bind ?_ λ_=>Bl.pure _
 unfold asBool;split
 ·exact Bl.pure _
 ·exact Bl.no (by simp)
theorem bC0 {bs : List Nat} {o : Oper} (r : bL Y.C E s a w β) {b : BinOp} {t : TypeId} {x y : Operand} {u : TypeId} (d : o.op = .binOp b t x y u) (he : erl bs s o.op = true) {v : Value} (hv : (execOp a.eval o).run P w = .ok (.value v) w) (w' : World) : (execOp a.eval o).run P w' = .ok (.value v) w' := by
  rw [d] at he;simp only [erl] at he;have e : ∀ {k m c n}, vY s x = .l (.int k m) -> vY s y = .l (.int c n) -> a.eval x = .int k m /\ a.eval y = .int c n := λ{k m c n} hx h =>
    ⟨(mO r (x := x) (show fU s x = .l (.int k m) by unfold fU; rw [hx]; rfl)).1, (mO r (x := y) (show fU s y = .l (.int c n) by unfold fU; rw [h]; rfl)).1⟩
  split at he <;> first
    | (rename_i k m c n hx h
       obtain ⟨i, j⟩ := e hx h;by_cases hk : k = c
       · simp_all[execOp,eqGuard_at_int,binOp_add,binOp_sub,binOp_lss,binOp_leq,binOp_gtr,binOp_geq,binOp_eql,binOp_neq,Op.intArith]
       simp_all[execOp,eqGuard_at_int,binOp])
    | cases he
def bE8 (G:Good P g Y TI FZ){bs:List Nat}{Yb:Nat->Prop}{al:List Oper}{o:Oper}(r:bL Y.C E s a w β)(hI:aQc bs Yb w.heap.size s β)(hY:∀k,Yb k->E.X β k)(he:erl bs s o.op=true){v:Value}(hv:(execOp a.eval o).run P w= .ok (.value v) w){K:St U->Option α}{z:α}(h:one Y TI FZ o s K=some z):∀w',Bel Yb w w'->(execOp a.eval o).run P w'= .ok (.value v) w':=by
 have vof:∀{x:Sem Value} {L:World} {u:Value},x.run P L= .ok u L->(do pure (Next.value (<-x)):Sem Next).run P L= .ok (.value u) L:=λh=>by simp[h]
 cases j:o.op with
 |move x=>exact λw' _=>Jq (by rw[j];rfl) hv w'
 |assign x=>exact λw' _=>Jq (by rw[j];rfl) hv w'
 |extract x i=>exact λw' _=>Jq (by rw[j];rfl) hv w'
 |pick c x y=>exact λw' _=>(Bl.pick o j _ _ _ _ hv).2 w'
 |load t x=>
  rw[j] at he;simp only[erl] at he;unfold one at h;rw[j] at h;replace h:(match(match kD TI t,fU s x with
   |some i, .l p=>load Y s i p
   |_,_=>none) with
   |some y=>K (put s o.dst y)
   |none=>none)=some z:=h
  have fin:∀{p:Addr} {v':Value},a.eval x= .pointer (some p)->(∀w',Bel Yb w w'->(loadVar t p).run P w'= .ok v' w')->∀w',Bel Yb w w'->(execOp a.eval o).run P w'= .ok (.value v) w':=λ{p v'} q1 q2 w' hb=>by
   have e:∀w',Bel Yb w w'->(execOp a.eval o).run P w'= .ok (.value v') w':=λw' hb=>by simp[execOp,j,q1,Instr.loadAt,Instr.sureAddr,q2 w' hb]
   have:=(e w (Bel.refl w)).symm.trans hv;injection this with this _;injection this with this;rw[<-this];exact e w' hb
  split at he
  ·rename_i b off hx;rw[hx] at h;cases B:kD TI t with
   |none=>rw[B] at h;cases h
   |some ti=>
    rw[B] at h;simp only at h;cases F:load Y s ti (.box b off) with
    |none=>rw[F] at h;cases h
    |some y=>obtain⟨p,v',q1,q2,_⟩:=aXl r hI (Bel.refl w) (bX G.ti B) (mO r hx) F (bQx he);exact fin q1 q2
  ·rename_i τ zz off hx;rw[hx] at h;cases B:kD TI t with
   |none=>rw[B] at h;cases h
   |some ti=>
    rw[B] at h;simp only at h;cases F:load Y s ti (.ptr τ zz off) with
    |none=>rw[F] at h;cases h
    |some y=>obtain⟨p,v',q1,q2,_⟩:=aXm hY (bX G.ti B) (mO r hx) F;exact fin q1 q2
  ·cases he
 |fieldAddr t y f=>
  unfold one at h;rw[j] at h;replace h:(match(match kD TI t,fU s y with
   |some ⟨.st fs,_,_⟩, .l p=>match fld fs f with
    |some (off,_,_)=>match qQ s.m off p with
     |some z=>some (.l z)
     |none=>none
    |none=>none
   |_,_=>none) with
   |some y=>K (put s o.dst y)
   |none=>none)=some z:=h
  cases hp:(match kD TI t,fU s y with
   |some ⟨.st fs,_,_⟩, .l p=>match fld fs f with
    |some (off,_,_)=>match qQ s.m off p with
     |some z=>some (Sv.l z)
     |none=>none
    |none=>none
   |_,_=>none) with
  |none=>rw[hp] at h;cases h
  |some x0=>
   split at hp
   ·rename_i fs i z p h1 h2;split at hp
    ·rename_i off ft n O;split at hp
     ·rename_i q h4;have S:=(aB9 (bX G.ti h1) rfl).2.1;simp only[fld,aZ] at O;have W:=(aL4 S O).1;rw[cx] at W;obtain⟨v',q1,q2⟩:=aCb r W (mO r h2) h4;have e:∀w':World,(execOp a.eval o).run P w'= .ok (.value v') w':=λw'=>by simp[execOp,j,q1]
      have:=(e w).symm.trans hv;injection this with this _;injection this with this;intro w' _;rw[<-this];exact e w'
     ·cases hp
    ·cases hp
   ·cases hp
 |indexAddr t x y=>
  rw[j] at he;simp only[erl] at he;split at he
  ·rename_i τ l k n hx hy;have hm:Rd w (E.X β) [] (a.eval x) (.slice (U.K τ) (l.map (U.enc τ))):=mO r hx;cases H:a.eval x with
   |slice A n c=>
    have e:∀w':World,(execOp a.eval o).run P w'=(do pure (Next.value (<-Instr.indexAt t (.slice A n c) (a.eval y))):Sem Next).run P w':=λw'=>by simp only[execOp,j,H]
    rw[e] at hv;intro w' _;rw[e];exact(Bl.bind (Bl.index _ _ _ _ _) (λ_=>Bl.pure _) _ _ _ hv).2 w'
   |_=>rw[H] at hm;cases hm
  ·cases he
 |binOp b t x y u=>exact λw' _=>bC0 r j he hv w'
 |call c=>
  rw[j] at he;obtain⟨cal,Z,ats⟩:=c;cases cal with
  |builtin bb=>
   cases bb with
   |len=>
    replace he:(match Z.toList with
     |[x]=>match fU s x with
      | .l (.sl ..)=>true
      | .l (.own i r)=>match nth s.m.o i with
       |some ⟨.tree ..,rv,_⟩=>Nat.beq rv r
       |_=>false
      |_=>false
     |_=>false)=true:=he
    split at he
    ·rename_i x J;have T:∃A n c,a.eval x= .slice A n c:=by
      split at he
      ·rename_i τ l hx;have hm:Rd w (E.X β) [] (a.eval x) (.slice (U.K τ) (l.map (U.enc τ))):=mO r hx;cases H:a.eval x with
       |slice A n c=>exact⟨A,n,c,rfl⟩
       |_=>rw[H] at hm;cases hm
      ·rename_i i q hx;split at he
       ·rename_i τ d l rv cv hn;obtain⟨_,e,t,h1,h2,O⟩:=mO r hx;rw[aZ,h1] at hn;have hn:=aj hn;subst hn;exact⟨_,_,_,O (ah he)⟩
       ·cases he
      ·cases he
     obtain⟨A,n,c,hs⟩:=T;unfold one at h;rw[j] at h;replace h:(match(match Z.toList,ats.toList with
      |[x],[t]=>match kD TI t,fU s x with
       |some ⟨.sl ..,_,_⟩, .l y=>match y with
        | .str _=>none
        |y=>match lenOf s.m y with
         |some z=>some (Sv.l z)
         |none=>none
       |some ⟨.str,_,_⟩, .l (.str z)=>some (.l (.int .i64 (z.size:Int)))
       |_,_=>none
      |_,_=>none) with
      |some y=>K (put s o.dst y)
      |none=>none)=some z:=h
     rw[J] at h;cases I:ats.toList with
     |nil=>rw[I] at h;cases h
     |cons t ts=>
      cases ts with
      |cons t2 ts=>rw[I] at h;cases h
      |nil=>
       rw[I] at h;simp only at h;cases B:kD TI t with
       |none=>rw[B] at h;cases h
       |some ti=>
        obtain⟨u,k1,z1⟩:=ti;cases u with
        |sl e ek eb=>
         have hu:=(gH (Ae (bX G.ti B) rfl).1).1;have V:o.op= .call {callee:= .builtin .len,args:= #[x],argTypes:= #[t]}:=by rw[j,<-Ep J,<-Ep I]
         have hr:∀w':World,(execOp a.eval o).run P w'= .ok (.value (.int .i64 n)) w':=λw'=>aT6 hu hs V;have:=(hr w).symm.trans hv;injection this with this _;injection this with this;intro w' _;rw[<-this];exact hr w'
        |_=>
         rw[B] at h;exfalso
         revert he h
         cases hx:fU s x with
         |l y=>cases y<;>simp
         |_=>simp
    ·cases he
   |_=>cases he
  |_=>cases he
 |_=>rw[j] at he;cases he
def aQc.am {bs:List Nat}{Yb:Nat->Prop}{n:Nat}(h:aQc bs Yb n s β)(r:Hp Y.C E s.m β w)(d:Am s.m s'.m):aQc bs Yb n s' β:=λb e t k k1 k2 k3 k4=>by
 have c:b<s.m.o.length:=by rw[<-r.len];exact lt_of_some k3
 exact h b _ t k (ab c) ((d.o b _ _ (ab c) k1).2.1 k2) k3 k4
def bMm {bs:List Nat}{o:Op}(h:erl bs s o=true):zF FZ o=0:=by
 cases o with
 |call c=>
  obtain⟨cal,e,ats⟩:=c;cases cal with
  |builtin d=>cases d<;>first|rfl|cases h
  |_=>cases h
 |_=>first|rfl|cases h
def bI0 {d:Option Nat}{x:Sv U}:(EV.put s d x).m=s.m:=by cases d<;>rfl
end
end Go.EV
