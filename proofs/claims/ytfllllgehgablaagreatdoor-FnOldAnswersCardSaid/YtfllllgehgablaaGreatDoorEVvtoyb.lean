import Derived.Test.YtfllllgehgablaaGreatDoorEVrtou
import Derived.Test.YtfllllgehgablaaGreatDoorVKatog
/-
  THE EVALUATOR's KIT, twenty-second part: the state behind a join: its objects. Plain theorems over any program; the conditions stand in each.
-/
set_option linter.all false
namespace Go.EV
open Go.RowKit Go.VK
variable {U:Uni} {Y:Lay U} {P:Program} {g:GI} {E:Env U g}
def Dhd:{x:DI}->{xs:List DI}->Dat U (x::xs)->x.ty U
 |_,[],d=>d
 |_,_::_,d=>d.1
def Dtl:{x:DI}->{xs:List DI}->Dat U (x::xs)->Dat U xs
 |_,[],_=>()
 |_,_::_,d=>d.2
def kT {s:St U}{x:DI}{xs:List DI}{d:Dat U (x::xs)}(h:gets Y s (x::xs)=some d):aQp Y s x=some (Dhd d)/\gets Y s xs=some (Dtl d):=by
 cases xs with
 |nil=>exact⟨h,rfl⟩
 |cons x' xs=>
  simp only[gets] at h
  cases h1:aQp Y s x with
  |none=>rw[h1] at h;cases h
  |some a=>
   cases h2:gets Y s (x'::xs) with
   |none=>rw[h1,h2] at h;cases h
   |some b=>rw[h1,h2] at h;have:=ak h;subst this;exact⟨rfl,rfl⟩
def rA {k:Nat}{x:DI}{xs:List DI}{d:Dat U (x::xs)}{o:List (EO U)}:aEl k (x::xs) d o=aEl k xs (Dtl d) (aHg k x (Dhd d) o):=by
 cases xs with
 |nil=>rfl
 |cons=>rfl
def aOr {k n:Nat}{x:DI}{xs:List DI}{d:Dat U (x::xs)}{s:St U}:sets Y k n s (x::xs) d=sets Y k (nxt n x) (set1 Y k n s x (Dhd d)) xs (Dtl d):=by
 cases xs with
 |nil=>rfl
 |cons=>rfl
def Ld {k:Nat}:∀{l:List (Nat×Nat)} {o:List (EO U)},(Iw k l o).length=o.length
 |[],o=>rfl
 |x::l,o=>by
  have e:Iw k (x::l) o=match nth (Iw k l o) x.1 with|some ⟨.box T cs vs,_,_⟩=>upd (Iw k l o) x.1 ⟨.box T (upd cs x.2 .any) (upd vs x.2 k),k,k⟩|_=>Iw k l o:=rfl
  rw[e]
  split
  ·rw[bX,ax];exact Ld
  ·exact Ld
def wD {k:Nat}{o:List (EO U)}{j:Nat}{e:EO U}(he:o[j]? =some e):∀(l:List (Nat×Nat)),∃e',(Iw k l o)[j]? =some e'/\((e.ob.aAX=false\/hasB j l=false)->e'=e)/\
  (∀T cs vs,e.ob= .box T cs vs->∃cs' vs',e'.ob= .box T cs' vs'/\cs'.length=cs.length/\vs'.length=vs.length/\(hasB j l=true->e'.rv=k/\e'.cv=k)/\
   ∀i,(aHf j i l=true->∀c,cs'[i]? =some c->c= .any)/\(aHf j i l=true->∀v,vs'[i]? =some v->v=k)/\(aHf j i l=false->cs'[i]? =cs[i]? /\vs'[i]? =vs[i]?))
 |[]=>⟨e,he,λ_=>rfl,λT cs vs h=>⟨cs,vs,h,rfl,rfl,λh=>(by cases h),λi=>⟨λh=>(by cases h),λh=>(by cases h),λ_=>⟨rfl,rfl⟩⟩⟩⟩
 |(b,p)::l=>by
  obtain⟨e1,h1,h2,h3⟩:=wD he l
  have e0:Iw k ((b,p)::l) o=match nth (Iw k l o) b with|some ⟨.box T cs vs,_,_⟩=>upd (Iw k l o) b ⟨.box T (upd cs p .any) (upd vs p k),k,k⟩|_=>Iw k l o:=rfl
  have eB:hasB j ((b,p)::l)=cond (Nat.beq b j) true (hasB j l):=rfl
  have eA:∀i,aHf j i ((b,p)::l)=cond (Nat.beq b j&&Nat.beq p i) true (aHf j i l):=λ_=>rfl
  rw[e0,eB]
  simp only[eA]
  by_cases hb:b=j
  ·subst hb
   have hbb:Nat.beq b b=true:=dn b
   rw[aR,h1,hbb]
   obtain⟨ob,rv,cv⟩:=e1
   cases ob with
   |box T1 cs1 vs1=>
    refine⟨⟨.box T1 (upd cs1 p .any) (upd vs1 p k),k,k⟩,by show(upd (Iw k l o) b _)[b]? =_;rw[bX,bh (lt_of_some h1)],λh=> ?_,λT cs vs h=> ?_⟩
    ·rcases h with h|h
     ·have:=h2 (.inl h);subst this;cases h
     ·cases h
    ·obtain⟨cs',vs',k1,k2,k3,k4,k5⟩:=h3 T cs vs h
     injection k1 with q1 q2 q3;subst q1;subst q2;subst q3
     refine⟨_,_,rfl,by rw[bX,ax,k2],by rw[bX,ax,k3],λ_=>⟨rfl,rfl⟩,λi=> ?_⟩
     by_cases hp:p=i
     ·subst hp
      have hpp:Nat.beq p p=true:=dn p
      simp only[hpp,dw,ae]
      refine⟨λ_ c hc=> ?_,λ_ v hv=> ?_,λh=>by cases h⟩
      ·rw[bX] at hc
       have hl:p<cs1.length:=by have:=lt_of_some hc;simpa using this
       rw[bh hl] at hc;exact(ak hc).symm
      ·rw[bX] at hv
       have hl:p<vs1.length:=by have:=lt_of_some hv;simpa using this
       rw[bh hl] at hv;exact(ak hv).symm
     ·have hpp:Nat.beq p i=false:=by
       cases hq:Nat.beq p i with
       |false=>rfl
       |true=>exact absurd (ah hq) hp
      simp only[hpp,dp,ab]
      rw[bX,bX,bj hp,bj hp]
      exact k5 i
   |dead=>
    refine⟨_,h1,λh=> ?_,λT cs vs h=> ?_⟩
    ·refine h2 (.inl ?_)
     cases ho:e.ob with
     |box T cs vs=>obtain⟨_,_,k1,_⟩:=h3 T cs vs ho;cases k1
     |_=>rfl
    ·obtain⟨_,_,k1,_⟩:=h3 T cs vs h;cases k1
   |tree=>
    refine⟨_,h1,λh=> ?_,λT cs vs h=> ?_⟩
    ·refine h2 (.inl ?_)
     cases ho:e.ob with
     |box T cs vs=>obtain⟨_,_,k1,_⟩:=h3 T cs vs ho;cases k1
     |_=>rfl
    ·obtain⟨_,_,k1,_⟩:=h3 T cs vs h;cases k1
  ·have hbb:Nat.beq b j=false:=by
    cases hq:Nat.beq b j with
    |false=>rfl
    |true=>exact absurd (ah hq) hb
   simp only[hbb,eL,ab]
   refine⟨e1,?_,h2,h3⟩
   split
   ·rw[bX,bj hb];exact h1
   ·exact h1
def aOs {cs:List (Nat×Nat)}{k b:Nat}:∀{j:Nat} {vs:List Nat},bG8 cs k b j vs=true->∀(i v:Nat),vs[i]? =some v->v<=k\/aHf b (j+i) cs=true
 |j,[],_,i,v,h=>by simp at h
 |j,x::vs,h,i,v,hv=>by
  simp only[bG8,aa,cq] at h
  cases i with
  |zero=>simp at hv;subst hv;exact h.1.imp bc id
  |succ i=>
   have:=aOs h.2 i v (by simpa using hv)
   rwa [show Nat.succ j+i=j+(i+1) by omega] at this
def aOt {cs:List (Nat×Nat)}{dd:List Nat}{k:Nat}:∀{i:Nat} {es es':List (EO U)},aV5 cs dd k i es es'=true->∀(j:Nat) (e:EO U),es[j]? =some e->∃e',es'[j]? =some e'/\(e'.cv<=k\/(i+j)∈dd\/∃T c vs,e'.ob= .box T c vs/\hasB (i+j) cs=true/\∀(p v:Nat),vs[p]? =some v->v<=k\/aHf (i+j) p cs=true)
 |i,[],es',_,j,e,h=>by simp at h
 |i,x::es,[],h,j,e,he=>by cases h
 |i,x::es,y::es',h,j,e,he=>by
  simp only[aV5,aa,cq] at h
  cases j with
  |zero=>
   refine⟨y,rfl,?_⟩
   rcases h.1 with h1|h1|h1
   ·exact .inl (bc h1)
   ·exact .inr (.inl (lQ.1 h1))
   ·refine .inr (.inr ?_)
    obtain⟨ob,rv,cv⟩:=y
    cases ob with
    |box T c vs=>
     simp only[aa] at h1
     exact⟨T,c,vs,rfl,h1.1,λp v hv=>by have:=aOs h1.2 p v hv;rwa [ca] at this⟩
    |_=>cases h1
  |succ j=>
   obtain⟨e',q1,q2⟩:=aOt h.2 j e (by simpa using he)
   rw[show Nat.succ i+j=i+(j+1) by omega] at q2
   exact⟨e',by simpa using q1,q2⟩
def sg0 (dd:List Nat)(N:Nat):List (Option Nat):=(List.range N).map λj=>if j∈dd then none else some j
def aY3 {dd:List Nat}{N:Nat}:(sg0 dd N).length=N:=by simp[sg0]
def aGm {dd:List Nat}{N j:Nat}{q:Option Nat}(h:(sg0 dd N)[j]? =some q):j<N/\((j∈dd/\q=none)\/(j∉dd/\q=some j)):=by
 have hl:j<N:=by have:=lt_of_some h;rwa [aY3] at this
 refine⟨hl,?_⟩
 rw[sg0,bg,dT hl] at h
 simp only[cJ,ai] at h
 by_cases hd:j∈dd
 ·rw[cH hd] at h;exact .inl ⟨hd,h.symm⟩
 ·rw[cX hd] at h;exact .inr ⟨hd,h.symm⟩
structure Inv (N M K k:Nat) (m:Mm U) (σ:List (Option Nat)) (o:List (EO U)):Prop where
 len:σ.length=o.length
 ge:N<=o.length
 inj:∀(j j' i:Nat),σ[j]? =some (some i)->σ[j']? =some (some i)->j=j'
 ver:∀(i:Nat) (e:EO U),o[i]? =some e->e.rv<=k/\e.cv<=k
 src:∀(j:Nat) (q:Option Nat) (e':EO U),σ[j]? =some q->o[j]? =some e'->Src N M K m q j e'
section
variable {C:Cod U} {b s:St U} {a a0:Act} {w w0:World} {β β0:List Tr} {D:Nat->Prop}
def bE.obd (r:bE C E b a0 w0 β0){j:Nat}{e:EO U}(h:b.m.o[j]? =some e):e.ob.bd b.m.o.length b.m.ns.length b.m.k:=by
 obtain⟨t,ht⟩:=r.hp.tr h
 have:=r.hp.ok j t e ht h
 generalize e.ob=x at this ⊢
 cases x with
 |box T cs vs=>obtain⟨_,b',vs',_,_,_,h4⟩:=this;exact h4.bd
 |_=>trivial
def inv0 (rb:bE C E b a0 w0 β0)(hag:Am b.m s.m){cs:List (Nat×Nat)}{dd:List Nat}(hc:aV5 cs dd b.m.k 0 b.m.o s.m.o=true):
  Inv b.m.o.length b.m.ns.length b.m.k (Nat.succ b.m.k) s.m (sg0 dd b.m.o.length) (Iw (Nat.succ b.m.k) cs (Qg (Nat.succ b.m.k) dd b.m.o)):=by
 have hlen:(Iw (Nat.succ b.m.k) cs (Qg (Nat.succ b.m.k) dd b.m.o)).length=b.m.o.length:=by rw[Ld,Fh]
 refine⟨by rw[aY3,hlen],by rw[hlen];exact aj _,λj j' i h1 h2=> ?_,λj e' he'=> ?_,λj q e' hq he'=> ?_⟩
 ·obtain⟨_,h1⟩:=aGm h1
  obtain⟨_,h2⟩:=aGm h2
  rcases h1 with⟨_,h1⟩|⟨_,h1⟩
  ·cases h1
  ·rcases h2 with⟨_,h2⟩|⟨_,h2⟩
   ·cases h2
   ·exact(ak h1).symm.trans (ak h2)
 ·have hl:j<b.m.o.length:=by have:=lt_of_some he';rwa [hlen] at this
  by_cases hd:j∈dd
  ·obtain⟨e1,h1,h2,_⟩:=wD (k:=Nat.succ b.m.k) (aAo (k:=Nat.succ b.m.k) hd hl) cs
   rw[he'] at h1;have:=ak h1;subst this
   rw[h2 (.inl rfl)];exact⟨aj _,aj _⟩
  ·have h0:=uZ (k:=Nat.succ b.m.k) (o:=b.m.o) hd
   rw[ac hl] at h0
   have hv:=rb.hp.vers j _ (ac hl)
   obtain⟨e1,h1,h2,h3⟩:=wD (k:=Nat.succ b.m.k) h0 cs
   rw[he'] at h1;have:=ak h1;subst this
   by_cases hk:(b.m.o[j]).ob.aAX=false\/hasB j cs=false
   ·rw[h2 hk];exact⟨Nat.le_succ_of_le hv.1,Nat.le_succ_of_le hv.2⟩
   ·cases ho:(b.m.o[j]).ob with
    |box T c vs=>
     obtain⟨_,_,_,_,_,h4,_⟩:=h3 T c vs ho
     have hB:hasB j cs=true:=by
      cases hh:hasB j cs with
      |true=>rfl
      |false=>exact absurd (.inr hh) hk
     obtain⟨q1,q2⟩:=h4 hB
     rw[q1,q2];exact⟨aj _,aj _⟩
    |_=>exact absurd (.inl (by rw[ho];rfl)) hk
 ·obtain⟨hl,hq⟩:=aGm hq
  rcases hq with⟨hd,rfl⟩|⟨hd,rfl⟩
  ·obtain⟨e1,h1,h2,_⟩:=wD (k:=Nat.succ b.m.k) (aAo (k:=Nat.succ b.m.k) hd hl) cs
   rw[he'] at h1;have:=ak h1;subst this
   rw[h2 (.inl rfl)]
   exact .dead rfl ⟨dq _,dq _⟩
  ·have hb:b.m.o[j]? =some b.m.o[j]:=ac hl
   have h0:(Qg (Nat.succ b.m.k) dd b.m.o)[j]? =some b.m.o[j]:=by rw[uZ hd];exact hb
   obtain⟨e1,h1,h2,h3⟩:=wD (k:=Nat.succ b.m.k) h0 cs
   rw[he'] at h1;have:=ak h1;subst this
   obtain⟨es,hs1,hs2⟩:=aOt hc j _ hb
   rw[ca] at hs2
   obtain⟨am1,am2,am3⟩:=hag.o j _ es hb hs1
   by_cases hk:(b.m.o[j]).ob.aAX=false\/hasB j cs=false
   ·have he:=h2 hk
    rw[he]
    refine .keep rfl ?_ (rb.obd hb)
    rcases hs2 with h|h|⟨T,c,vs,h,h',_⟩
    ·rw[<-am1 h];exact hs1
    ·exact absurd h hd
    ·rcases hk with hk|hk
     ·rw[am2 (by rw[h];rfl)] at hk;cases hk
     ·rw[h'] at hk;cases hk
   ·have hB:hasB j cs=true:=by
     cases hh:hasB j cs with
     |true=>rfl
     |false=>exact absurd (.inr hh) hk
    cases ho:(b.m.o[j]).ob with
    |box T c vs=>
     obtain⟨cs',vs',k1,k2,k3,k4,k5⟩:=h3 T c vs ho
     obtain⟨q1,q2⟩:=k4 hB
     have hbl:c.length=vs.length:=rb.aBR (b:=j) (T:=T) (rv:=(b.m.o[j]).rv) (cv:=(b.m.o[j]).cv) (by rw[hb,<-ho])
     have hbd:=rb.obd hb
     rw[ho] at hbd
     have hv:b.m.k<e'.rv/\b.m.k<e'.cv:=by rw[q1,q2];exact⟨dq _,dq _⟩
     have cell:∀(cS:List (Lf U)),(∀(i:Nat),aHf j i cs=false->i<c.length->cS[i]? =c[i]?)->∀(i:Nat) (x:Lf U),cs'[i]? =some x->x= .any\/(cS[i]? =some x/\x.bd b.m.o.length b.m.ns.length b.m.k):=λcS hS i x hx=>by
      cases hA:aHf j i cs with
      |true=>exact .inl ((k5 i).1 hA x hx)
      |false=>
       have h5:=((k5 i).2.2 hA).1
       rw[hx] at h5
       have hil:i<c.length:=lt_of_some h5.symm
       exact .inr ⟨(hS i hA hil).trans h5.symm,hbd x (az h5.symm)⟩
     rcases hs2 with h|h|⟨T1,c1,vs1,h,_,h'⟩
     ·have e1:=am1 h
      exact .box rfl hs1 (by rw[e1];exact ho) k1 k2 (by rw[k2,k3,hbl]) (cell c (λ_ _ _=>rfl)) hv
     ·exact absurd h hd
     ·obtain⟨p1,p2,p3,p4⟩:=am3 T c vs T1 c1 vs1 ho h
      refine .box rfl hs1 (by rw[h,p1]) k1 (by rw[k2,p2]) (by rw[k2,k3,hbl]) (cell c1 (λi hA hil=> ?_)) hv
      have hvl:i<vs1.length:=by rw[p3,<-hbl];exact hil
      rcases h' i _ (ac hvl) with h''|h''
      ·exact(p4 i _ (ac hvl) h'').1
      ·rw[hA] at h'';cases h''
    |_=>exact absurd (.inl (by rw[ho];rfl)) hk
def sgm:List (Option Nat×Option Nat)->List (Option Nat)->List (Option Nat)
 |[],σ=>σ
 |(some i,x)::q,σ=>sgm q (σ.set i x)
 |(none,x)::q,σ=>sgm q (σ++[x])
def Plc (k:Nat)(σ:List (Option Nat))(o:List (EO U))(s:St U):Nat->List DI->Prop
 |_,[]=>True
 |n, .tr l i τ d::xs=>(∃v q e,lkp s l=some v/\tK s.m τ d v=some q/\σ[i]? =some q.1/\o[i]? =some e/\e.rv=k)/\Plc k σ o s n xs
 |n, .nt l τ d::xs=>(∃v q e,lkp s l=some v/\tK s.m τ d v=some q/\σ[n]? =some q.1/\o[n]? =some e/\e.rv=k)/\Plc k σ o s (Nat.succ n) xs
 |n,_::xs=>Plc k σ o s n xs
def aAt {x:Option Nat×Option Nat}{q:List (Option Nat×Option Nat)}:yO (x::q)=(match x.2 with|some i=>i::yO q|none=>yO q):=by
 obtain⟨x1,x2⟩:=x
 cases x2<;>rfl
def aHv {m:Mm U}{N M K k:Nat}{τ:Nat}{d:Bool}{v:Sv U}{q:Option Nat×List (U.El τ)}(h:tK m τ d v=some q)(hk:K<k){j:Nat}:Src N M K m q.1 j ⟨.tree τ d q.2,k,k⟩:=by
 unfold tK at h
 split at h
 ·cases hb:Nat.ble 1 (U.K τ) with
  |false=>rw[hb] at h;cases h
  |true=>
   rw[hb] at h
   have:=ak h;subst this
   exact .nil rfl rfl (bc hb) ⟨hk,hk⟩
 ·rename_i i r
  rw[aR] at h
  split at h
  ·rename_i τ' d' l rv cv he
   cases hb:(Nat.beq rv r&&(d'|| !d)) with
   |false=>rw[hb] at h;cases h
   |true=>
    rw[hb] at h
    simp only[ae] at h
    cases hq:slq τ τ' l with
    |none=>rw[hq] at h;cases h
    |some l'=>
     rw[hq] at h
     have:=ak h;subst this
     obtain⟨rfl,hl⟩:=lN hq
     have hl:=ez hl;subst hl
     simp only[aa,cq] at hb
     refine .tree rfl he rfl (λhd=> ?_) rfl ⟨hk,hk⟩
     rcases hb.2 with h|h
     ·exact h
     ·rw[hd] at h;cases h
  ·cases h
 ·cases h
def bEa {m:Mm U}{N M K k i:Nat}{τ:Nat}{d:Bool}{l:List (U.El τ)}(h:bK3 m i τ d=some l)(hk:K<k):Src N M K m (some i) i ⟨.tree τ d l,0,k⟩:=by
 unfold bK3 at h
 rw[aR] at h
 split at h
 ·rename_i τ' d' l' rv cv he
  cases hb:(Nat.beq rv 0&&(d'|| !d)) with
  |false=>rw[hb] at h;cases h
  |true=>
   rw[hb] at h
   simp only[ae] at h
   obtain⟨rfl,hl⟩:=lN h
   have hl:=ez hl;subst hl
   simp only[aa,cq] at hb
   refine .ti rfl he rfl (λhd=> ?_) rfl (ah hb.1).symm hk
   rcases hb.2 with h|h
   ·exact h
   ·rw[hd] at h;cases h
 ·cases h
def Inv.set {N M K k:Nat}{m:Mm U}{σ:List (Option Nat)}{o:List (EO U)}(h:Inv N M K k m σ o){i:Nat}{q:Option Nat}{e:EO U}(hq:∀x,q=some x->∀j:Nat,σ[j]? ≠some (some x))(hv:e.rv<=k/\e.cv<=k)(hs:Src N M K m q i e):Inv N M K k m (σ.set i q) (o.set i e):=by
 refine⟨by simp[h.len],by simpa using h.ge,λj j' x h1 h2=> ?_,λj e' he=> ?_,λj q' e' h1 h2=> ?_⟩
 ·by_cases hj:i=j
  ·by_cases hj':i=j'
   ·exact hj.symm.trans hj'
   ·subst hj
    rw[bj hj'] at h2
    have hl:i<σ.length:=by have:=lt_of_some h1;simpa using this
    rw[bh hl] at h1
    exact absurd h2 (hq x (ak h1) j')
  ·rw[bj hj] at h1
   by_cases hj':i=j'
   ·subst hj'
    have hl:i<σ.length:=by have:=lt_of_some h2;simpa using this
    rw[bh hl] at h2
    exact absurd h1 (hq x (ak h2) j)
   ·rw[bj hj'] at h2;exact h.inj j j' x h1 h2
 ·by_cases hj:i=j
  ·subst hj
   have hl:i<o.length:=by have:=lt_of_some he;simpa using this
   rw[bh hl] at he
   have:=ak he;subst this;exact hv
  ·rw[bj hj] at he;exact h.ver j e' he
 ·by_cases hj:i=j
  ·subst hj
   have hl:i<o.length:=by have:=lt_of_some h2;simpa using this
   rw[bh (by rw[h.len];exact hl)] at h1
   rw[bh hl] at h2
   have:=ak h1;subst this
   have:=ak h2;subst this
   exact hs
  ·rw[bj hj] at h1 h2;exact h.src j q' e' h1 h2
def Inv.app {N M K k:Nat}{m:Mm U}{σ:List (Option Nat)}{o:List (EO U)}(h:Inv N M K k m σ o){q:Option Nat}{e:EO U}(hq:∀x,q=some x->∀j:Nat,σ[j]? ≠some (some x))(hv:e.rv<=k/\e.cv<=k)(hs:Src N M K m q o.length e):Inv N M K k m (σ++[q]) (o++[e]):=by
 have hσ:∀(j:Nat) (x:Option Nat),(σ++[q])[j]? =some x->(σ[j]? =some x)\/(j=o.length/\x=q):=λj x hx=>by
  by_cases hl:j<σ.length
  ·rw[aq hl] at hx;exact .inl hx
  ·rw[ay (by omega)] at hx
   cases hz:j-σ.length with
   |zero=>rw[hz] at hx;simp at hx;exact .inr ⟨by have:=h.len;omega,hx.symm⟩
   |succ n=>rw[hz] at hx;simp at hx
 have ho:∀(j:Nat) (x:EO U),(o++[e])[j]? =some x->(o[j]? =some x)\/(j=o.length/\x=e):=λj x hx=>by
  by_cases hl:j<o.length
  ·rw[aq hl] at hx;exact .inl hx
  ·rw[ay (by omega)] at hx
   cases hz:j-o.length with
   |zero=>rw[hz] at hx;simp at hx;exact .inr ⟨by omega,hx.symm⟩
   |succ n=>rw[hz] at hx;simp at hx
 refine⟨by simp[h.len],by have:=h.ge;simp;omega,λj j' x h1 h2=> ?_,λj e' he=> ?_,λj q' e' h1 h2=> ?_⟩
 ·rcases hσ j _ h1 with h1|⟨e1,h1⟩<;>rcases hσ j' _ h2 with h2|⟨e2,h2⟩
  ·exact h.inj j j' x h1 h2
  ·exact absurd h1 (hq x h2.symm j)
  ·exact absurd h2 (hq x h1.symm j')
  ·exact e1.trans e2.symm
 ·rcases ho j _ he with h1|⟨_,rfl⟩
  ·exact h.ver j e' h1
  ·exact hv
 ·rcases hσ j _ h1 with h1|⟨e1,rfl⟩<;>rcases ho j _ h2 with h2|⟨e2,rfl⟩
  ·exact h.src j q' e' h1 h2
  ·have:=lt_of_some h1;have:=h.len;omega
  ·have:=lt_of_some h2;omega
  ·subst e1;exact hs
def Plc.mono {k:Nat}{σ σ':List (Option Nat)}{o o':List (EO U)}{s:St U}:∀{xs:List DI} {n:Nat},(∀i∈gP xs,o'[i]? =o[i]? /\σ'[i]? =σ[i]?)->(∀i,n<=i->o'[i]? =o[i]? /\σ'[i]? =σ[i]?)->Plc k σ o s n xs->Plc k σ' o' s n xs
 |[],_,_,_,h=>h
 | .tr l i τ d::xs,n,h1,h2,⟨⟨v,q,e,a1,a2,a3,a4,a5⟩,h⟩=>by
  obtain⟨b1,b2⟩:=h1 i (by simp[gP])
  exact⟨⟨v,q,e,a1,a2,b2.trans a3,b1.trans a4,a5⟩,Plc.mono (λj hj=>h1 j (by simp[gP,hj])) h2 h⟩
 | .nt l τ d::xs,n,h1,h2,⟨⟨v,q,e,a1,a2,a3,a4,a5⟩,h⟩=>by
  obtain⟨b1,b2⟩:=h2 n (aj _)
  exact⟨⟨v,q,e,a1,a2,b2.trans a3,b1.trans a4,a5⟩,Plc.mono (λj hj=>h1 j (by simpa[gP] using hj)) (λi hi=>h2 i (by omega)) h⟩
 | .ti i τ d::xs,n,h1,h2,h=>Plc.mono (xs:=xs) (n:=n) (λj hj=>h1 j (by simp[gP,hj])) h2 h
 | .dat l kd::xs,n,h1,h2,h=>Plc.mono (xs:=xs) (n:=n) (λj hj=>h1 j (by simpa[gP] using hj)) h2 h
 | .nat l::xs,n,h1,h2,h=>Plc.mono (xs:=xs) (n:=n) (λj hj=>h1 j (by simpa[gP] using hj)) h2 h
def Cc {N M K k:Nat}{s:St U}(hk:K<k):∀(xs:List DI) (q:List (Option Nat×Option Nat)) (d:Dat U xs) (σ:List (Option Nat)) (o:List (EO U)),x8 s xs=some q->gets Y s xs=some d->Inv N M K k s.m σ o->(∀i∈yO q,∀j:Nat,σ[j]? ≠some (some i))->(yO q).Nodup->(∀i∈gP xs,i<o.length)->(gP xs).Nodup->
  Inv N M K k s.m (sgm q σ) (aEl k xs d o)/\Plc k (sgm q σ) (aEl k xs d o) s o.length xs/\(∀j,j<o.length->j∉gP xs->(aEl k xs d o)[j]? =o[j]? /\(sgm q σ)[j]? =σ[j]?)
 |[],q,d,σ,o,hq,_,hI,_,_,_,_=>by
  have:=ak hq;subst this
  exact⟨hI,trivial,λ_ _ _=>⟨rfl,rfl⟩⟩
 | .dat l kd::xs,q,d,σ,o,hq,hg,hI,h1,h2,h3,h4=>by
  rw[rA]
  exact Cc hk xs q (Dtl d) σ o hq (kT hg).2 hI h1 h2 h3 h4
 | .nat l::xs,q,d,σ,o,hq,hg,hI,h1,h2,h3,h4=>by
  rw[rA]
  exact Cc hk xs q (Dtl d) σ o hq (kT hg).2 hI h1 h2 h3 h4
 | .ti i τ b::xs,q,d,σ,o,hq,hg,hI,h1,h2,h3,h4=>by
  obtain⟨g1,g2⟩:=kT hg
  simp only[x8] at hq
  simp only[aQp] at g1
  cases hr:x8 s xs with
  |none=>rw[hr] at hq;cases hq
  |some r=>
   rw[hr] at hq
   have:=ak hq;subst this
   rw[rA]
   have hi:i<o.length:=h3 i (by simp[gP])
   have e1:aHg k (.ti i τ b) (Dhd d) o=o.set i ⟨.tree τ b (Dhd d),0,k⟩:=bX _ _ _
   rw[e1]
   rw[aAt] at h1 h2
   simp only at h1 h2
   have hI':=hI.set (i:=i) (q:=some i) (e:=⟨.tree τ b (Dhd d),0,k⟩) (λx hx j=>h1 x (by rw[ak hx];simp) j) ⟨cw _,aj _⟩ (bEa g1 hk)
   obtain⟨n1,n2⟩:=cu.1 (show(i::gP xs).Nodup from h4)
   have hnx:∀x∈yO r,∀j:Nat,(σ.set i (some i))[j]? ≠some (some x):=λx hx j hj=>by
    by_cases hij:i=j
    ·subst hij
     rw[bh (by rw[hI.len];exact hi)] at hj
     have hj:=ak (ak hj)
     subst hj
     exact(cu.1 h2).1 hx
    ·rw[bj hij] at hj
     exact h1 x (by simp[hx]) j hj
   obtain⟨p1,p2,p3⟩:=Cc hk xs r (Dtl d) (σ.set i (some i)) _ hr g2 hI' hnx (cu.1 h2).2 (λj hj=>by rw[ax];exact h3 j (by simp[gP,hj])) n2
   rw[ax] at p2 p3
   refine⟨p1,p2,λj hj hjn=> ?_⟩
   have hjn:j≠i/\j∉gP xs:=by simpa[gP] using hjn
   obtain⟨q1,q2⟩:=p3 j hj hjn.2
   exact⟨by rw[q1,bj (Ne.symm hjn.1)],by show(sgm r (σ.set i (some i)))[j]? =_;rw[q2,bj (Ne.symm hjn.1)]⟩
 | .tr l i τ b::xs,q,d,σ,o,hq,hg,hI,h1,h2,h3,h4=>by
  obtain⟨g1,g2⟩:=kT hg
  simp only[x8] at hq
  simp only[aQp] at g1
  cases hv:lkp s l with
  |none=>rw[hv] at hq;cases hq
  |some v=>
   rw[hv] at hq g1
   simp only at hq g1
   cases ht:tK s.m τ b v with
   |none=>rw[ht] at hq;cases hq
   |some t=>
    rw[ht] at hq g1
    simp only at hq g1
    cases hr:x8 s xs with
    |none=>rw[hr] at hq;cases hq
    |some r=>
     rw[hr] at hq
     have:=ak hq;subst this
     have hd:t.2=Dhd d:=ak g1
     rw[rA]
     have hi:i<o.length:=h3 i (by simp[gP])
     have e1:aHg k (.tr l i τ b) (Dhd d) o=o.set i ⟨.tree τ b t.2,k,k⟩:=by rw[hd];exact bX _ _ _
     rw[e1]
     rw[aAt] at h1 h2
     have hsub:∀x∈yO r,x∈(match t.1 with|some i=>i::yO r|none=>yO r):=λx hx=>by cases t.1<;>simp[hx]
     have hI':=hI.set (i:=i) (q:=t.1) (e:=⟨.tree τ b t.2,k,k⟩) (λx hx j=>h1 x (by simp only[hx];simp) j) ⟨aj _,aj _⟩ (aHv ht hk)
     obtain⟨n1,n2⟩:=cu.1 (show(i::gP xs).Nodup from h4)
     have hnx:∀x∈yO r,∀j:Nat,(σ.set i t.1)[j]? ≠some (some x):=λx hx j hj=>by
      by_cases hij:i=j
      ·subst hij
       rw[bh (by rw[hI.len];exact hi)] at hj
       have hj:=ak hj
       simp only[hj] at h2
       exact(cu.1 h2).1 hx
      ·rw[bj hij] at hj
       exact h1 x (hsub x hx) j hj
     have hnd:(yO r).Nodup:=by
      cases ht1:t.1 with
      |none=>simp only[ht1] at h2;exact h2
      |some x=>simp only[ht1] at h2;exact(cu.1 h2).2
     obtain⟨p1,p2,p3⟩:=Cc hk xs r (Dtl d) (σ.set i t.1) _ hr g2 hI' hnx hnd (λj hj=>by rw[ax];exact h3 j (by simp[gP,hj])) n2
     rw[ax] at p2 p3
     refine⟨p1,⟨⟨v,t,⟨.tree τ b t.2,k,k⟩,hv,ht,?_,?_,rfl⟩,p2⟩,λj hj hjn=> ?_⟩
     ·show(sgm r (σ.set i t.1))[i]? =_
      rw[(p3 i hi n1).2,bh (by rw[hI.len];exact hi)]
     ·rw[(p3 i hi n1).1,bh hi]
     ·have hjn:j≠i/\j∉gP xs:=by simpa[gP] using hjn
      obtain⟨q1,q2⟩:=p3 j hj hjn.2
      exact⟨by rw[q1,bj (Ne.symm hjn.1)],by show(sgm r (σ.set i t.1))[j]? =_;rw[q2,bj (Ne.symm hjn.1)]⟩
 | .nt l τ b::xs,q,d,σ,o,hq,hg,hI,h1,h2,h3,h4=>by
  obtain⟨g1,g2⟩:=kT hg
  simp only[x8] at hq
  simp only[aQp] at g1
  cases hv:lkp s l with
  |none=>rw[hv] at hq;cases hq
  |some v=>
   rw[hv] at hq g1
   simp only at hq g1
   cases ht:tK s.m τ b v with
   |none=>rw[ht] at hq;cases hq
   |some t=>
    rw[ht] at hq g1
    simp only at hq g1
    cases hr:x8 s xs with
    |none=>rw[hr] at hq;cases hq
    |some r=>
     rw[hr] at hq
     have:=ak hq;subst this
     have hd:t.2=Dhd d:=ak g1
     rw[rA]
     have e1:aHg k (.nt l τ b) (Dhd d) o=o++[⟨.tree τ b t.2,k,k⟩]:=by rw[hd];rfl
     rw[e1]
     rw[aAt] at h1 h2
     have hsub:∀x∈yO r,x∈(match t.1 with|some i=>i::yO r|none=>yO r):=λx hx=>by cases t.1<;>simp[hx]
     have hI':=hI.app (q:=t.1) (e:=⟨.tree τ b t.2,k,k⟩) (λx hx j=>h1 x (by simp only[hx];simp) j) ⟨aj _,aj _⟩ (aHv ht hk)
     have n2:(gP xs).Nodup:=h4
     have hol:(σ++[t.1])[o.length]? =some t.1:=by rw[<-hI.len];simp
     have hnx:∀x∈yO r,∀j:Nat,(σ++[t.1])[j]? ≠some (some x):=λx hx j hj=>by
      by_cases hl:j<σ.length
      ·rw[aq hl] at hj
       exact h1 x (hsub x hx) j hj
      ·rw[ay (by omega)] at hj
       cases hz:j-σ.length with
       |zero=>
        rw[hz] at hj
        have hj:t.1=some x:=by simpa using hj
        simp only[hj] at h2
        exact(cu.1 h2).1 hx
       |succ n=>rw[hz] at hj;simp at hj
     have hnd:(yO r).Nodup:=by
      cases ht1:t.1 with
      |none=>simp only[ht1] at h2;exact h2
      |some x=>simp only[ht1] at h2;exact(cu.1 h2).2
     obtain⟨p1,p2,p3⟩:=Cc hk xs r (Dtl d) (σ++[t.1]) _ hr g2 hI' hnx hnd (λj hj=>by have:=h3 j (by simpa[gP] using hj);simp;omega) n2
     rw[show(o++[(⟨.tree τ b t.2,k,k⟩:EO U)]).length=Nat.succ o.length by simp] at p2 p3
     have n1:o.length∉gP xs:=λhh=>by have:=h3 _ (show o.length∈gP (.nt l τ b::xs) from hh);omega
     refine⟨p1,⟨⟨v,t,⟨.tree τ b t.2,k,k⟩,hv,ht,?_,?_,rfl⟩,p2⟩,λj hj hjn=> ?_⟩
     ·show(sgm r (σ++[t.1]))[o.length]? =_
      rw[(p3 _ (dq _) n1).2,hol]
     ·rw[(p3 _ (dq _) n1).1];simp
     ·obtain⟨q1,q2⟩:=p3 j (Nat.lt_succ_of_lt hj) hjn
      refine⟨by rw[q1,aq hj],?_⟩
      show(sgm r (σ++[t.1]))[j]? =_
      rw[q2,aq (by rw[hI.len];exact hj)]
end
end Go.EV

namespace Go.EV
open Go.RowKit Go.VK
variable {U:Uni} {Y:Lay U} {P:Program} {g:GI} {E:Env U g}
section aDG
def bEb {a n:Nat}{K:List (Sv U)->List (Sv U)}(hK:K []=[]):∀{l:List (Sv U)},(aV7 a K l)[n]? =if n<a then l[n]? else(K (l.drop a))[n-a]? :=by
 induction a generalizing n with
 |zero=>intro l;rfl
 |succ a ih=>
  intro l
  cases l with
  |nil=>
   have e:aV7 (a+1) K ([]:List (Sv U))=[]:=rfl
   rw[e];simp[hK]
  |cons x l=>
   have e:aV7 (a+1) K (x::l)=x::aV7 a K l:=rfl
   rw[e]
   cases n with
   |zero=>simp
   |succ n=>simp only[eu,ih,jw,gi,gR]
def bEc {a n:Nat}{K:List (Sv U)->List (Sv U)}(hK:K []=[]):∀{l:List (Sv U)},(aS3 a K l)[n]? =if n<a then(l[n]?).map (λ_=>Sv.l .any) else(K (l.drop a))[n-a]? :=by
 induction a generalizing n with
 |zero=>intro l;rfl
 |succ a ih=>
  intro l
  cases l with
  |nil=>
   have e:aS3 (a+1) K ([]:List (Sv U))=[]:=rfl
   rw[e];simp[hK]
  |cons x l=>
   have e:aS3 (a+1) K (x::l)=Sv.l .any::aS3 a K l:=rfl
   rw[e]
   cases n with
   |zero=>simp
   |succ n=>simp only[eu,ih,jw,gi,gR]
def aQ7:∀{ws:List (Nat×Nat)},wip ws ([]:List (Sv U))=[]
 |[]=>rfl
 |(a,b)::r=>by
  have e:wip ((a,b)::r) ([]:List (Sv U))=aV7 a (aS3 b (wip r)) []:=rfl
  rw[e]
  cases a with
  |succ a=>rfl
  |zero=>
   cases b with
   |succ b=>rfl
   |zero=>exact aQ7 (ws:=r)
def bEd:∀{ws:List (Nat×Nat)} {p n:Nat},Eu ws p n=true->p<=n
 |[],p,n,h=>by cases h
 |(a,b)::r,p,n,h=>by
  simp only[Eu,cq,aa] at h
  rcases h with⟨h,_⟩|h
  ·have:=bc h;omega
  ·have:=bEd h;omega
def aGn:∀{ws:List (Nat×Nat)} {p n:Nat} {l:List (Sv U)},(wip ws l)[n]? =if Eu ws p (p+n)=true then(l[n]?).map (λ_=>Sv.l .any) else l[n]?
 |[],p,n,l=>by simp[Eu,wip]
 |(a,b)::r,p,n,l=>by
  have hb:(aS3 b (wip r) ([]:List (Sv U)))=[]:=by
   cases b with
   |succ b=>rfl
   |zero=>exact aQ7 (ws:=r)
  have e:wip ((a,b)::r) l=aV7 a (aS3 b (wip r)) l:=rfl
  rw[e,bEb hb]
  simp only[Eu,cq,aa]
  by_cases h1:n<a
  ·rw[cH h1,cX]
   rintro(⟨h,_⟩|h)
   ·have:=bc h;omega
   ·have:=bEd h;omega
  ·rw[cX h1,bEc aQ7]
   by_cases h2:n-a<b
   ·rw[cH h2,cH]
    ·rw[eg,show a+(n-a)=n by omega]
    ·exact .inl ⟨d8 (by omega),d8 (by omega)⟩
   ·rw[cX h2,aGn (ws:=r) (p:=p+a+b)]
    rw[show p+a+b+(n-a-b)=p+n by omega]
    simp only[eg,show a+(b+(n-a-b))=n by omega]
    by_cases h3:Eu r (p+a+b) (p+n)=true
    ·rw[cH h3,cH (.inr h3)]
    ·rw[cX h3,cX]
     rintro(⟨_,h⟩|h)
     ·have:=bc h;omega
     ·exact h3 h
def aY4 {ws:List (Nat×Nat)}{l:List (Sv U)}:(wip ws l).length=l.length:=by
 have key:∀n,n<(wip ws l).length↔n<l.length:=λn=>by
  have h:=aGn (ws:=ws) (p:=0) (n:=n) (l:=l)
  constructor
  ·intro hn
   rw[ac hn] at h
   refine Nat.lt_of_not_le λhh=> ?_
   rw[dg hh] at h
   split at h<;>cases h
  ·intro hn
   rw[ac hn] at h
   refine Nat.lt_of_not_le λhh=> ?_
   rw[dg hh] at h
   split at h<;>cases h
 have h1:=key (wip ws l).length
 have h2:=key l.length
 omega
end aDG
def LV (a:Act)(w:World)(β:List Tr)(o:List (EO U)):Lo->Value->Prop
 | .s n,v=>v=a.tmps.getD n undef
 | .c b j,v=>∀e,o[b]? =some e->e.ob.aAX=true->∃t blk vals T,β[b]? =some t/\t.b=some blk/\w.heap[blk]? =some (.cells vals T (0,0))/\vals[j]? =some v
section
variable {C:Cod U} {b s u:St U} {a a0:Act} {w w0:World} {β β0:List Tr}
def D8 (r:bE C E s a w β){l:Lo}{x:Sv U}(h:lkp s l=some x):∃v,LV a w β s.m.o l v/\x.mean C w (E.X β) β s.m v:=by
 cases l with
 |s n=>exact⟨_,rfl,r.tm n x (by rw[<-aR];exact h)⟩
 |c b j=>
  simp only[lkp,aR] at h
  split at h
  ·rename_i T cs vs rv cv he
   split at h
   ·rename_i y hy
    have:=ak h;subst this
    obtain⟨t,ht⟩:=r.hp.tr he
    obtain⟨h0,blk,vals,k1,k2,k3,k4⟩:=r.hp.ok b t _ ht he
    have hjl:j<vals.length:=by rw[k4.1];exact lt_of_some hy
    exact⟨vals[j],λe _ _=>⟨t,blk,vals.toArray,T,ht,k1,k3,by simp[hjl]⟩,k4.2 j _ _ (ac hjl) hy⟩
   ·cases h
  ·cases h
structure Tp (C:Cod U) (E:Env U g) (a:Act) (w:World) (u:St U) (β:List Tr) (u':St U) (β':List Tr):Prop where
 own:∀(i r:Nat) (v:Value),(Lf.own i r:Lf U).mean C w (E.X β) β u.m v->(Lf.own i r:Lf U).mean C w (E.X β') β' u'.m v
 x:∀b,E.X β' b->E.X β b
 lv:∀(l:Lo) (v:Value),LV a w β u.m.o l v->LV a w β' u'.m.o l v
def Tp.refl:Tp C E a w u β u β:=⟨λ_ _ _ h=>h,λ_ h=>h,λ_ _ h=>h⟩
def bE.aBI (r:bE C E u a w β){l:Lo}{v:Value}(hl:LV a w β u.m.o l v){x:Sv U}(hx:x.mean C w (E.X β) β u.m v):∃β',bE C E (EV.aBI u x l) a w β'/\Tp C E a w u β (EV.aBI u x l) β':=by
 cases l with
 |s n=>
  refine⟨β,r.set (n:=n) (x:=x) ?_,⟨λ_ _ _ h=>h,λ_ h=>h,λ_ _ h=>h⟩⟩
  rw[<-(show v=a.tmps.getD n undef from hl)];exact hx
 |c b j=>
  unfold EV.aBI
  simp only[aR]
  split
  ·rename_i T cs vs rv cv y he
   obtain⟨t,blk,vals,T',h1,h2,h3,h4⟩:=hl _ he rfl
   obtain⟨h0,blk',vals',k1,k2,k3,k4⟩:=r.hp.ok b t _ h1 he
   rw[h2] at k1
   have:=ak k1;subst this
   rw[h3] at k3
   have:=ak k3
   injection this with q1 q2 q3;subst q1;subst q2
   have hvv:vals'[j]? =some v:=by simpa using h4
   obtain⟨β',r',hb',ev⟩:=r.turn (i:=b) (J:=[]) (t':=t) (w':=w) (ob:= .box T' (upd cs j y) (upd vs j (Nat.succ u.m.k))) (rv:=rv) he h1 (by simp) (aj _) rfl rfl rfl (λ_ _ _=>rfl)
    (λbb hb=>⟨(r.hp.new b t bb h1 hb).2, .inr (.inl hb)⟩) (r.hp.nd b t h1) (.inl ⟨rfl,rfl⟩) (λ_=>⟨rfl,rfl⟩)
    (λβ' m' ev=>by
     refine⟨by rw[bX,bX,ax,ax,h0],blk,vals',h2,k2,h3,by rw[k4.1,bX,ax],λi v' c p q=> ?_⟩
     rw[bX] at q
     by_cases hij:j=i
     ·subst hij
      have hl:j<cs.length:=by have:=lt_of_some q;simpa using this
      rw[bh hl] at q
      have:=ak q;subst this
      rw[hvv] at p
      have:=ak p;subst this
      exact Lf.aAU ev hx
     ·rw[bj hij] at q
      exact Lf.aAU ev (k4.2 i v' c p q))
   refine⟨β',r',⟨λi q v' h=>Lf.aAU ev h,λbb hb=>ev.hX bb (Hp.aCB r'.hp bb hb) hb,λl v' h=> ?_⟩⟩
   cases l with
   |s n=>exact h
   |c b' j'=>
    intro e' he' hbx
    have hlt:b'<u.m.o.length:=by
     have:=lt_of_some he'
     have hl:(upd u.m.o b (⟨.box T' (upd cs j y) (upd vs j (Nat.succ u.m.k)),rv,Nat.succ u.m.k⟩:EO U)).length=u.m.o.length:=by rw[bX,ax]
     have h2:b'<(upd u.m.o b (⟨.box T' (upd cs j y) (upd vs j (Nat.succ u.m.k)),rv,Nat.succ u.m.k⟩:EO U)).length:=this
     rwa [hl] at h2
    have hb0:u.m.o[b']? =some u.m.o[b']:=ac hlt
    obtain⟨t0,ht0⟩:=r.hp.tr hb0
    obtain⟨e1,t1,g1,g2,_,_,g3⟩:=ev.ho b' _ t0 hlt hb0 ht0
    have:e1=e':=ak (g1.symm.trans he')
    subst this
    obtain⟨p1,p2⟩:=g3 hbx
    obtain⟨t2,blk2,vals2,T2,z1,z2,z3,z4⟩:=h _ hb0 p1
    rw[ht0] at z1
    have:=ak z1;subst this
    exact⟨t1,blk2,vals2,T2,g2,p2.trans z2,z3,z4⟩
  ·exact⟨β,r,Tp.refl⟩
def IF1 (Y:Lay U)(E:Env U g)(k:Nat)(u:St U)(a:Act)(w:World)(β:List Tr)(n:Nat):(x:DI)->x.ty U->Prop
 | .dat l kd,d=>∃v,LV a w β u.m.o l v/\Rd w (E.X β) [] v (vC (w9 Y kd d))
 | .nat l,i=>∃v,LV a w β u.m.o l v/\∃j:Nat,j=i/\v= .int .i64 (j:Int)/\(j:Int)<=9223372036854775807
 | .tr l i _ _,_=>∃v,LV a w β u.m.o l v/\(Lf.own i k:Lf U).mean Y.C w (E.X β) β u.m v
 | .nt l _ _,_=>∃v,LV a w β u.m.o l v/\(Lf.own n k:Lf U).mean Y.C w (E.X β) β u.m v
 | .ti _ _ _,_=>True
def IF (Y:Lay U)(E:Env U g)(k:Nat)(u:St U)(a:Act)(w:World)(β:List Tr):Nat->(xs:List DI)->Dat U xs->Prop
 |_,[],_=>True
 |n,x::xs,d=>IF1 Y E k u a w β n x (Dhd d)/\IF Y E k u a w β (nxt n x) xs (Dtl d)
def IF1.tp {k n:Nat}{u':St U}{β':List Tr}(h:Tp Y.C E a w u β u' β'){x:DI}{d:x.ty U}(hf:IF1 Y E k u a w β n x d):IF1 Y E k u' a w β' n x d:=by
 cases x with
 |dat l kd=>obtain⟨v,h1,h2⟩:=hf;exact⟨v,h.lv l v h1,h2.conv (aj _) (λb _=>h.x b) (λ_ _ _ h=>h) (λ_ _ h=>h)⟩
 |nat l=>obtain⟨v,h1,h2⟩:=hf;exact⟨v,h.lv l v h1,h2⟩
 |tr l i τ b=>obtain⟨v,h1,h2⟩:=hf;exact⟨v,h.lv l v h1,h.own _ _ v h2⟩
 |nt l τ b=>obtain⟨v,h1,h2⟩:=hf;exact⟨v,h.lv l v h1,h.own _ _ v h2⟩
 |ti i τ b=>trivial
def IF.tp {k:Nat}{u':St U}{β':List Tr}(h:Tp Y.C E a w u β u' β'):∀{xs:List DI} {n:Nat} {d:Dat U xs},IF Y E k u a w β n xs d->IF Y E k u' a w β' n xs d
 |[],_,_,_=>trivial
 |x::xs,n,d,⟨h1,h2⟩=>⟨h1.tp h,IF.tp h h2⟩
def aWm (r:bE Y.C E u a w β){k n:Nat}{x:DI}{d:x.ty U}(h:IF1 Y E k u a w β n x d):∃β',bE Y.C E (set1 Y k n u x d) a w β'/\Tp Y.C E a w u β (set1 Y k n u x d) β':=by
 cases x with
 |dat l kd=>
  obtain⟨v,h1,h2⟩:=h
  exact r.aBI h1 (qZ (D6 aQ4 h2 (.inl λ_ h=>h)))
 |nat l=>
  obtain⟨v,h1,j,rfl,h2,h3⟩:=h
  have r1:bE Y.C E ⟨u.t,⟨u.m.o,u.m.k,u.m.ns++[((⟨j,false⟩:Nat×Bool))]⟩,u.fr⟩ a w β:=r.aCO (λa' i f h=>⟨f,by rw[aq (lt_of_some h)];exact h⟩) (λa' i h=>by
   by_cases hl:a'<u.m.ns.length
   ·rw[aq hl] at h;exact r.hp.cnt a' i h
   ·rw[ay (by omega)] at h
    cases hq:a'-u.m.ns.length with
    |zero=>rw[hq] at h;simp at h
    |succ q=>rw[hq] at h;simp at h)
  obtain⟨β',q1,q2⟩:=r1.aBI (l:=l) (v:=v) h1 (x:= .l (.nat (len u.m.ns))) ⟨j,false,by rw[bH];simp,h2,h3⟩
  exact⟨β',q1,⟨λi q v h=>q2.own i q v h,q2.x,λl v h=>q2.lv l v h⟩⟩
 |tr l i τ b=>
  obtain⟨v,h1,h2⟩:=h
  exact r.aBI h1 (x:= .l (.own i k)) h2
 |nt l τ b=>
  obtain⟨v,h1,h2⟩:=h
  exact r.aBI h1 (x:= .l (.own n k)) h2
 |ti i τ b=>exact⟨β,r,Tp.refl⟩
def aHw {k:Nat}:∀(xs:List DI) {u:St U} {β:List Tr} {n:Nat} {d:Dat U xs},bE Y.C E u a w β->IF Y E k u a w β n xs d->∃β',bE Y.C E (sets Y k n u xs d) a w β'
 |[],_,β,_,_,r,_=>⟨β,r⟩
 |x::xs,u,β,n,d,r,⟨h1,h2⟩=>by
  obtain⟨β1,r1,t1⟩:=aWm r h1
  rw[aOr]
  exact aHw xs r1 (IF.tp t1 h2)
end
end Go.EV

namespace Go.EV
open Go.RowKit Go.VK
variable {U:Uni} {Y:Lay U} {P:Program} {g:GI} {E:Env U g}
section
variable {b s:St U} {a a0:Act} {w w0:World} {β β0:List Tr}
def Fv {tm:Tm}{d:Dat U tm.it}(h:col Y b tm s=some d):∃q,x8 s tm.it=some q/\gets Y s tm.it=some d/\slI tm.ws tm.it=true/\aV5 tm.aBX tm.dead b.m.k 0 b.m.o s.m.o=true/\bAh b.m.o.length tm.dead (yO q)=true/\(yO q).Nodup/\(gP tm.it).Nodup/\bAi b.m.o.length (gP tm.it)=true:=by
 unfold col at h
 cases hq:x8 s tm.it with
 |none=>rw[hq] at h;cases h
 |some q=>
  rw[hq] at h
  simp only at h
  cases hb:(slI tm.ws tm.it&&(aV5 tm.aBX tm.dead b.m.k 0 b.m.o s.m.o&&(bAh (len b.m.o) tm.dead (yO q)&&(dist (yO q)&&(dist (gP tm.it)&&bAi (len b.m.o) (gP tm.it)))))) with
  |false=>rw[hb] at h;cases h
  |true=>
   rw[hb] at h
   simp only[ae] at h
   simp only[aa,bH] at hb
   obtain⟨h1,h2,h3,h4,h5,h6⟩:=hb
   exact⟨q,rfl,h,h1,h2,h3,wB.1 h4,wB.1 h5,h6⟩
def aOu {N:Nat}{dd:List Nat}:∀{l:List Nat},bAh N dd l=true->∀i∈l,N<=i\/i∈dd
 |[],_,i,h=>by simp at h
 |x::l,h,i,hi=>by
  simp only[bAh,aa,cq] at h
  rcases ba.1 hi with rfl|hi
  ·exact h.1.imp bc lQ.1
  ·exact aOu h.2 i hi
def aOv {N:Nat}:∀{l:List Nat},bAi N l=true->∀i∈l,i<N
 |[],_,i,h=>by simp at h
 |x::l,h,i,hi=>by
  simp only[bAi,aa] at h
  rcases ba.1 hi with rfl|hi
  ·exact bc h.1
  ·exact aOv h.2 i hi
def aWn {C:Cod U}{X:Nat->Prop}{m:Mm U}{v:Value}{x:Sv U}{i:Nat}(hm:x.mean C w X β m v)(h:bDh m x=some i):v= .int .i64 (i:Int)/\(i:Int)<=9223372036854775807:=by
 unfold bDh at h
 split at h
 ·obtain⟨i',f,h1,h2,h3⟩:=hm
  rw[aR,h1] at h
  have:=ak h;subst this;exact⟨h2,h3⟩
 ·rename_i n
  obtain⟨h1,_,_⟩:=hm
  cases hn:decide (n=0) with
  |false=>rw[hn] at h;cases h
  |true=>
   rw[hn] at h
   have h:=ak h
   have:=of_decide_eq_true hn
   subst this;subst h
   exact⟨h1,by simp⟩
 ·cases h
def aDw {C:Cod U}{m:Mm U}{X:Nat->Prop}{τ:Nat}{d:Bool}{v:Value}{x:Sv U}{q:Option Nat×List (U.El τ)}(hm:x.mean C w X β m v)(h:tK m τ d x=some q):v.oneCell'=true/\v=(jI β q.1).val:=by
 unfold tK at h
 split at h
 ·obtain rfl:=hm
  cases hb:Nat.ble 1 (U.K τ) with
  |false=>rw[hb] at h;cases h
  |true=>
   rw[hb] at h
   have:=ak h;subst this
   exact⟨rfl,rfl⟩
 ·rename_i i r
  obtain⟨h1,e,t,h2,h3,h4⟩:=hm
  rw[aR,h2] at h
  obtain⟨ob,rv,cv⟩:=e
  cases ob with
  |tree τ' d' l=>
   simp only at h
   cases hb:(Nat.beq rv r&&(d'|| !d)) with
   |false=>rw[hb] at h;cases h
   |true=>
    rw[hb] at h
    simp only[ae] at h
    cases hq:slq τ τ' l with
    |none=>rw[hq] at h;cases h
    |some l'=>
     rw[hq] at h
     have:=ak h;subst this
     simp only[aa] at hb
     refine⟨h1.2,?_⟩
     rw[h4 (ah hb.1)];simp[jI,h3]
  |_=>cases h
 ·cases h
def LV.ren {N M K:Nat}{σ:List (Option Nat)}{o:List (EO U)}(hlen:σ.length=o.length)(hs:∀(j:Nat) (q:Option Nat) (e':EO U),σ[j]? =some q->o[j]? =some e'->Src N M K s.m q j e')(r:bE Y.C E s a w β){l:Lo}{v:Value}(h:LV a w β s.m.o l v):LV a w (σ.map (jI β)) o l v:=by
 cases l with
 |s n=>exact h
 |c bb j=>
  intro e' he' hbx
  have hl:bb<σ.length:=by rw[hlen];exact lt_of_some he'
  have hq:σ[bb]? =some σ[bb]:=ac hl
  have done:∀e:EO U,σ[bb]=some bb->s.m.o[bb]? =some e->e.ob.aAX=true->∃t blk vals T,(σ.map (jI β))[bb]? =some t/\t.b=some blk/\w.heap[blk]? =some (.cells vals T (0,0))/\vals[j]? =some v:=λe hq' he hb=>by
   obtain⟨t,blk,vals,T,h1,h2,h3,h4⟩:=h e he hb
   exact⟨t,blk,vals,T,by rw[bg,hq,hq'];simp[jI,h1],h2,h3,h4⟩
  cases hs bb _ e' hq he' with
  |keep hq' he _=>exact done e' hq' he hbx
  |box hq' he h1 h2 _ _ _ _=>exact done _ hq' he (by rw[h1];rfl)
  |dead h' _=>rw[h'] at hbx;cases hbx
  |tree _ _ _ _ h' _=>rw[h'] at hbx;cases hbx
  |ti _ _ _ _ h' _ _=>rw[h'] at hbx;cases hbx
  |nil _ h' _ _=>rw[h'] at hbx;cases hbx
def aOw (r:bE Y.C E s a w β){k:Nat}{σ:List (Option Nat)}{o:List (EO U)}{u:St U}(huo:u.m.o=o)(huk:k<=u.m.k)(hX:∀b,E.X (σ.map (jI β)) b->E.X β b)(hfree:∀x:Nat,True)
  (hlv:∀(l:Lo) (v:Value),LV a w β s.m.o l v->LV a w (σ.map (jI β)) o l v):∀(xs:List DI) (n:Nat) (d:Dat U xs),gets Y s xs=some d->Plc k σ o s n xs->IF Y E k u a w (σ.map (jI β)) n xs d
 |[],_,_,_,_=>trivial
 | .dat l kd::xs,n,d,hg,hp=>by
  obtain⟨g1,g2⟩:=kT hg
  refine⟨?_,aOw r huo huk hX hfree hlv xs n (Dtl d) g2 hp⟩
  simp only[aQp] at g1
  cases hl:lkp s l with
  |none=>rw[hl] at g1;cases g1
  |some x=>
   rw[hl] at g1
   simp only at g1
   cases hf:aHa x with
   |false=>rw[hf] at g1;cases g1
   |true=>
    rw[hf] at g1
    obtain⟨v,h1,h2⟩:=D8 r hl
    exact⟨v,by rw[huo];exact hlv l v h1,bAx r h2 g1 hX (.inl hf)⟩
 | .ti i τ bb::xs,n,d,hg,hp=>⟨trivial,aOw r huo huk hX hfree hlv xs n (Dtl d) (kT hg).2 hp⟩
 | .nat l::xs,n,d,hg,hp=>by
  obtain⟨g1,g2⟩:=kT hg
  refine⟨?_,aOw r huo huk hX hfree hlv xs n (Dtl d) g2 hp⟩
  simp only[aQp] at g1
  cases hl:lkp s l with
  |none=>rw[hl] at g1;cases g1
  |some x=>
   rw[hl] at g1
   obtain⟨v,h1,h2⟩:=D8 r hl
   obtain⟨q1,q2⟩:=aWn h2 g1
   exact⟨v,by rw[huo];exact hlv l v h1,_,rfl,q1,q2⟩
 | .tr l i τ bb::xs,n,d,hg,⟨⟨v,q,e,p1,p2,p3,p4,p5⟩,hp⟩=>by
  obtain⟨g1,g2⟩:=kT hg
  refine⟨?_,aOw r huo huk hX hfree hlv xs n (Dtl d) g2 hp⟩
  obtain⟨v',h1,h2⟩:=D8 r p1
  obtain⟨k1,k2⟩:=aDw h2 p2
  exact⟨v',by rw[huo];exact hlv l v' h1,⟨huk,k1⟩,e,jI β q.1,by rw[huo];exact p4,by rw[bg,p3];rfl,λ_=>k2⟩
 | .nt l τ bb::xs,n,d,hg,⟨⟨v,q,e,p1,p2,p3,p4,p5⟩,hp⟩=>by
  obtain⟨g1,g2⟩:=kT hg
  refine⟨?_,aOw r huo huk hX hfree hlv xs (Nat.succ n) (Dtl d) g2 hp⟩
  obtain⟨v',h1,h2⟩:=D8 r p1
  obtain⟨k1,k2⟩:=aDw h2 p2
  exact⟨v',by rw[huo];exact hlv l v' h1,⟨huk,k1⟩,e,jI β q.1,by rw[huo];exact p4,by rw[bg,p3];rfl,λ_=>k2⟩
def vL (hE:E.fr=[])(rb:bE Y.C E b a0 w0 β0)(r:bE Y.C E s a w β){tm:Tm}(hag:Ag (λn=>Eu tm.ws 0 n=true) b s){d:Dat U tm.it}(h:col Y b tm s=some d):∃β',bE Y.C E (reb Y b tm d) a w β':=by
 obtain⟨q,c1,c2,_,c3,c4,c5,c6,c7⟩:=Fv h
 have hI:=inv0 rb hag.m c3
 have hol:(Iw (Nat.succ b.m.k) tm.aBX (Qg (Nat.succ b.m.k) tm.dead b.m.o)).length=b.m.o.length:=by rw[Ld,Fh]
 obtain⟨i1,i2,_⟩:=Cc (dq _) tm.it q d _ _ c1 c2 hI (λi hi j hj=>by
  obtain⟨g1,g2⟩:=aGm hj
  rcases g2 with⟨_,g2⟩|⟨g3,g2⟩
  ·cases g2
  ·have:=ak g2;subst this
   rcases aOu c4 i hi with h|h
   ·omega
   ·exact g3 h) c5 (λi hi=>by rw[hol];exact aOv c7 i hi) c6
 rw[hol] at i2
 obtain⟨H,ev⟩:=Hp.ren (m':=⟨aEl (Nat.succ b.m.k) tm.it d (Iw (Nat.succ b.m.k) tm.aBX (Qg (Nat.succ b.m.k) tm.dead b.m.o)),Nat.succ b.m.k,b.m.ns⟩) r.hp i1.len i1.ge i1.inj (eo _) i1.ver rb.hp.cnt (λa' i f ha hn=>by
  have h1:b.m.ns[a']? =some b.m.ns[a']:=ac ha
  obtain⟨f',h2⟩:=hag.m.ns a' (b.m.ns[a']).1 (b.m.ns[a']).2 h1
  rw[hn] at h2
  have h3:=congrArg Prod.fst (ak h2)
  exact⟨(b.m.ns[a']).2,by rw[h1];simp only at h3;rw[h3]⟩) i1.src (λx hx=>Sv.aBC (rb.hp.pin x hx)) hE
 have hX:∀bb,E.X ((sgm q (sg0 tm.dead b.m.o.length)).map (jI β)) bb->E.X β bb:=λbb hb=>ev.hX bb (Hp.aCB H bb hb) hb
 have r1:bE Y.C E ⟨wip tm.ws b.t,⟨aEl (Nat.succ b.m.k) tm.it d (Iw (Nat.succ b.m.k) tm.aBX (Qg (Nat.succ b.m.k) tm.dead b.m.o)),Nat.succ b.m.k,b.m.ns⟩,b.fr⟩ a w ((sgm q (sg0 tm.dead b.m.o.length)).map (jI β)):=by
  refine⟨H,r.defers,?_,λn x hx=> ?_⟩
  ·show a.tmps.size=(wip tm.ws b.t).length
   rw[aY4,r.tsz,hag.tl]
  ·have hx':=(aGn (ws:=tm.ws) (p:=0) (n:=n) (l:=b.t)).symm.trans hx
   rw[ca] at hx'
   split at hx'
   ·cases hb:b.t[n]? with
    |none=>rw[hb] at hx';cases hx'
    |some y=>rw[hb] at hx';have:=ak hx';subst this;trivial
   ·rename_i hn
    exact Sv.aAY ev (Sv.aBC (rb.tm n x hx')) (r.tm n x ((hag.t n hn).trans hx'))
 have hIF:=aOw (Y:=Y) (u:=⟨wip tm.ws b.t,⟨aEl (Nat.succ b.m.k) tm.it d (Iw (Nat.succ b.m.k) tm.aBX (Qg (Nat.succ b.m.k) tm.dead b.m.o)),Nat.succ b.m.k,b.m.ns⟩,b.fr⟩) r rfl (aj _) hX (λ_=>trivial) (λl v h=>LV.ren i1.len i1.src r h) tm.it b.m.o.length d c2 i2
 have:=aHw tm.it r1 hIF
 unfold reb
 rw[bH]
 exact this
def bHm {u:St U}{x:Sv U}{l:Lo}:(aBI u x l).fr=u.fr/\(aBI u x l).t.length=u.t.length/\Am u.m (aBI u x l).m/\∀n,(∀m,l= .s m->m≠n)->(aBI u x l).t[n]? =u.t[n]? :=by
 cases l with
 |s m=>
  refine⟨rfl,by simp only[aBI,put,bX,ax],Am.refl _,λn hn=> ?_⟩
  simp only[aBI,put,bX]
  rw[bj (hn m rfl)]
 |c bb j=>
  unfold aBI
  simp only[aR]
  split
  ·rename_i T cs vs rv cv y he
   refine⟨rfl,rfl,Am.turn (ids:=[]) u.m λ_ e he'=> ?_,λ_ _=>rfl⟩
   rw[he] at he';have:=ak he';subst this
   refine⟨rfl,λT1 cs1 vs1 T' cs' vs' k1 k2=> ?_⟩
   injection k1 with a1 a2 a3
   injection k2 with b1 b2 b3
   subst a1;subst a2;subst a3;subst b1;subst b2;subst b3
   refine⟨rfl,by rw[bX,ax],by rw[bX,ax],λi v hv hk=> ?_⟩
   rw[bX] at hv ⊢
   by_cases hij:j=i
   ·subst hij
    have hl:j<vs.length:=by have:=lt_of_some hv;simpa using this
    rw[bh hl] at hv
    have:=ak hv;omega
   ·rw[bj hij] at hv
    exact⟨bj hij,hv⟩
  ·exact⟨rfl,rfl,Am.refl _,λ_ _=>rfl⟩
def Ag.aBI {D:Nat->Prop}{s0 u:St U}(h:Ag D s0 u){x:Sv U}{l:Lo}(hl:∀m,l= .s m->D m):Ag D s0 (aBI u x l):=by
 obtain⟨h1,h2,h3,h4⟩:=bHm (u:=u) (x:=x) (l:=l)
 exact⟨λn hn=>(h4 n (λm e e'=>hn (e'▸hl m e))).trans (h.t n hn),h2.trans h.tl,h1.trans h.fr,h.m.trans h3⟩
def Ag.set1 {D:Nat->Prop}{s0 u:St U}(h:Ag D s0 u){k n:Nat}{x:DI}{d:x.ty U}{ws:List (Nat×Nat)}{xs:List DI}(hx:slI ws (x::xs)=true)(hD:∀n,Eu ws 0 n=true->D n):Ag D s0 (set1 Y k n u x d)/\slI ws xs=true:=by
 have key:∀l:Lo,(match l with| .s n=>Eu ws 0 n&&slI ws xs| .c .. =>slI ws xs)=true->(∀m,l= .s m->D m)/\slI ws xs=true:=λl hl=>by
  cases l with
  |s m=>simp only[aa] at hl;exact⟨λm' e=>by injection e with e;subst e;exact hD _ hl.1,hl.2⟩
  |c=>exact⟨λm e=>(by cases e),hl⟩
 cases x with
 |dat l kd=>
  obtain⟨k1,k2⟩:=key l (by cases l<;>exact hx)
  exact⟨h.aBI k1,k2⟩
 |nat l=>
  obtain⟨k1,k2⟩:=key l (by cases l<;>exact hx)
  refine⟨Ag.aBI (u:=⟨u.t,⟨u.m.o,u.m.k,u.m.ns++[((⟨d,false⟩:Nat×Bool))]⟩,u.fr⟩) ⟨h.t,h.tl,h.fr,h.m.trans (Am.aCO _ λa' i f h=>⟨f,by rw[aq (lt_of_some h)];exact h⟩)⟩ k1,k2⟩
 |tr l i τ bb=>
  obtain⟨k1,k2⟩:=key l (by cases l<;>exact hx)
  exact⟨h.aBI k1,k2⟩
 |nt l τ bb=>
  obtain⟨k1,k2⟩:=key l (by cases l<;>exact hx)
  exact⟨h.aBI k1,k2⟩
 |ti i τ bb=>exact⟨h,hx⟩
def Ag.sets {D:Nat->Prop}{s0:St U}{k:Nat}{ws:List (Nat×Nat)}(hD:∀n,Eu ws 0 n=true->D n):∀(xs:List DI) {u:St U} {n:Nat} {d:Dat U xs},slI ws xs=true->Ag D s0 u->Ag D s0 (sets Y k n u xs d)
 |[],_,_,_,_,h=>h
 |x::xs,u,n,d,hx,h=>by
  obtain⟨h1,h2⟩:=h.set1 (Y:=Y) (k:=k) (n:=n) (d:=Dhd d) hx hD
  rw[aOr]
  exact Ag.sets hD xs h2 h1
def aHx {k:Nat}:∀(xs:List DI) {d:Dat U xs} {o:List (EO U)} {j:Nat} {e:EO U},o[j]? =some e->∃e',(aEl k xs d o)[j]? =some e'/\(e'=e\/(e'.cv=k/\e'.ob.aAX=false))
 |[],_,o,j,e,h=>⟨e,h, .inl rfl⟩
 |x::xs,d,o,j,e,h=>by
  rw[rA]
  have h1:∃e1,(aHg k x (Dhd d) o)[j]? =some e1/\(e1=e\/(e1.cv=k/\e1.ob.aAX=false)):=by
   cases x with
   |dat l kd=>exact⟨e,h, .inl rfl⟩
   |nat l=>exact⟨e,h, .inl rfl⟩
   |tr l i τ bb=>
    show ∃e1,(upd o i (⟨.tree τ bb _,k,k⟩:EO U))[j]? =some e1/\_
    rw[bX]
    by_cases hij:i=j
    ·subst hij
     exact⟨_,bh (lt_of_some h), .inr ⟨rfl,rfl⟩⟩
    ·exact⟨e,by rw[bj hij];exact h, .inl rfl⟩
   |ti i τ bb=>
    show ∃e1,(upd o i (⟨.tree τ bb _,0,k⟩:EO U))[j]? =some e1/\_
    rw[bX]
    by_cases hij:i=j
    ·subst hij
     exact⟨_,bh (lt_of_some h), .inr ⟨rfl,rfl⟩⟩
    ·exact⟨e,by rw[bj hij];exact h, .inl rfl⟩
   |nt l τ bb=>
    show ∃e1,(o++[(⟨.tree τ bb _,k,k⟩:EO U)])[j]? =some e1/\_
    exact⟨e,by rw[aq (lt_of_some h)];exact h, .inl rfl⟩
  obtain⟨e1,h1,h2⟩:=h1
  obtain⟨e',h3,h4⟩:=aHx xs (d:=Dtl d) h1
  refine⟨e',h3,?_⟩
  rcases h4 with rfl|h4
  ·exact h2
  ·exact .inr h4
def aTu {k:Nat}:∀(xs:List DI) {d:Dat U xs} {o:List (EO U)},o.length<=(aEl k xs d o).length
 |[],_,o=>aj _
 |x::xs,d,o=>by
  rw[rA]
  refine bq ?_ (aTu xs)
  cases x with
  |dat=>exact aj _
  |nat=>exact aj _
  |tr l i τ bb=>show o.length<=(upd o i _).length;rw[bX,ax];exact aj _
  |nt l τ bb=>show o.length<=(o++[_]).length;simp
  |ti i τ bb=>show o.length<=(upd o i _).length;rw[bX,ax];exact aj _
def aAu {tm:Tm}{d:Dat U tm.it}(h:slI tm.ws tm.it=true):Ag (λn=>Eu tm.ws 0 n=true) b (reb Y b tm d):=by
 unfold reb
 refine Ag.sets (λ_ h=>h) tm.it h ⟨λn hn=> ?_,aY4,rfl,?_⟩
 ·have:=aGn (ws:=tm.ws) (p:=0) (n:=n) (l:=b.t)
  rw[ca,cX hn] at this
  exact this
 ·refine⟨eo _,λ_ _ f h=>⟨f,h⟩,?_,λi e e' he he'=> ?_⟩
  ·refine bq ?_ (aTu tm.it)
   rw[Ld,Fh];exact aj _
  ·have hl:=lt_of_some he
   by_cases hd:i∈tm.dead
   ·obtain⟨e1,h1,h2,_⟩:=wD (k:=Nat.succ b.m.k) (aAo (k:=Nat.succ b.m.k) hd hl) tm.aBX
    have e1d:=h2 (.inl rfl)
    obtain⟨e2,h3,h4⟩:=aHx (k:=Nat.succ b.m.k) tm.it (d:=d) h1
    have:=ak (h3.symm.trans he');subst this
    have:e2.cv=Nat.succ b.m.k/\e2.ob.aAX=false:=by
     rcases h4 with rfl|h4
     ·rw[e1d];exact⟨rfl,rfl⟩
     ·exact h4
    refine⟨λhh=>by omega,λhh=>(by rw[this.2] at hh;cases hh),λT cs vs T' cs' vs' _ hh=> ?_⟩
    rw[hh] at this;cases this.2
   ·have h0:(Qg (Nat.succ b.m.k) tm.dead b.m.o)[i]? =some e:=by rw[uZ hd];exact he
    obtain⟨e1,h1,h2,h5⟩:=wD (k:=Nat.succ b.m.k) h0 tm.aBX
    obtain⟨e2,h3,h4⟩:=aHx (k:=Nat.succ b.m.k) tm.it (d:=d) h1
    have:=ak (h3.symm.trans he');subst this
    rcases h4 with rfl|h4
    ·by_cases hk:e.ob.aAX=false\/hasB i tm.aBX=false
     ·have:=h2 hk;subst this
      exact(Am.refl b.m).o i _ _ he he
     ·have hB:hasB i tm.aBX=true:=by
       cases hh:hasB i tm.aBX with
       |true=>rfl
       |false=>exact absurd (.inr hh) hk
      cases ho:e.ob with
      |box T cs vs=>
       obtain⟨cs',vs',k1,k2,k3,k4,k5⟩:=h5 T cs vs ho
       obtain⟨q1,q2⟩:=k4 hB
       refine⟨λhh=>by omega,λ_=>rfl,λT1 cs1 vs1 T2 cs2 vs2 g1 g2=> ?_⟩
       rw[k1] at g2
       injection g1 with a1 a2 a3
       injection g2 with b1 b2 b3
       subst a1;subst a2;subst a3;subst b1;subst b2;subst b3
       refine⟨rfl,k2,k3,λj v hv hvk=> ?_⟩
       cases hA:aHf i j tm.aBX with
       |true=>have:=(k5 j).2.1 hA v hv;omega
       |false=>
        obtain⟨z1,z2⟩:=(k5 j).2.2 hA
        exact⟨z1,z2.symm.trans hv⟩
      |_=>exact absurd (.inl (by rw[ho];rfl)) hk
    ·refine⟨λhh=>by omega,λhh=>(by rw[h4.2] at hh;cases hh),λT cs vs T' cs' vs' _ hh=> ?_⟩
     rw[hh] at h4;cases h4.2
end
end Go.EV

namespace Go.EV
open Go.RowKit Go.VK
variable {U:Uni} {Y:Lay U} {TI:List (Nat×TInfo)} {FZ:List (Nat×Sum U)} {IL:Il} {P:Program} {g:GI} {E:Env U g}
def WC (D:Nat->Prop):Code->Prop
 | .seq a b=>WC D a/\WC D b
 | .cond c a b=>(∀n,c= .tmp n->D n)/\WC D a/\WC D b
 | .block _ c=>WC D c
 | .loop c=>WC D c
 | .region _ os _=>∀o∈os.toList,∀n,Wr os.toList o n->D n
 |_=>True
def AW (D:Nat->Prop):An->Prop
 | .s a b=>AW D a/\AW D b
 | .j t a=>(∀n,Eu t.ws 0 n=true->D n)/\AW D a
 | .jx t a=>(∀n,Eu t.ws 0 n=true->D n)/\AW D a
 | .l t _ a=>(∀n,Eu t.ws 0 n=true->D n)/\AW D a
 | .rj _ t _=>∀n,Eu t.ws 0 n=true->D n
 |_=>True
def AW.true:∀an:An,AW (λ_=>True) an
 | .n=>trivial
 | .s a b=>⟨AW.true a,AW.true b⟩
 | .j t a=>⟨λ_ _=>trivial,AW.true a⟩
 | .jx t a=>⟨λ_ _=>trivial,AW.true a⟩
 | .l t _ a=>⟨λ_ _=>trivial,AW.true a⟩
 | .r .. =>trivial
 | .rj .. =>λ_ _=>trivial
 | .z .. =>trivial
 | .y .. =>trivial
 | .w .. =>trivial
 | .v .. =>trivial
 | .u .. =>trivial
 | .il .. =>trivial
 | .pl .. =>trivial
def aOx:∀{ws:List (Nat×Nat)} {p lo hi n:Nat},bG9 ws p lo hi=true->lo<=n->n<hi->Eu ws p n=true
 |[],_,_,_,_,h,_,_=>by cases h
 |(a,b)::r,p,lo,hi,n,h,h1,h2=>by
  simp only[bG9,cq,aa] at h
  simp only[Eu,cq,aa]
  rcases h with⟨k1,k2⟩|h
  ·have:=bc k1;have:=bc k2
   exact .inl ⟨d8 (by omega),d8 (by omega)⟩
  ·exact .inr (aOx h h1 h2)
def Ce {ws:List (Nat×Nat)}:∀{r:List (Nat×Nat)} {p n:Nat},aV8 ws r p=true->Eu r p n=true->Eu ws 0 n=true
 |[],_,_,_,h=>by cases h
 |(a,b)::r,p,n,h,h1=>by
  simp only[aV8,aa,cq] at h
  simp only[Eu,cq,aa] at h1
  rcases h1 with⟨k1,k2⟩|h1
  ·have:=bc k1;have:=bc k2
   rcases h.1 with h|h
   ·have:=ah h;omega
   ·exact aOx h (by omega) (by omega)
  ·exact Ce h.2 h1
def sH {ws:List (Nat×Nat)}:∀{an:An},anW ws an=true->AW (λn=>Eu ws 0 n=true) an
 | .n,_=>trivial
 | .s a b,h=>by simp only[anW,aa] at h;exact⟨sH h.1,sH h.2⟩
 | .j t a,h=>by simp only[anW,aa] at h;exact⟨λn=>Ce h.1,sH h.2⟩
 | .jx t a,h=>by simp only[anW,aa] at h;exact⟨λn=>Ce h.1,sH h.2⟩
 | .l t _ a,h=>by simp only[anW,aa] at h;exact⟨λn=>Ce h.1,sH h.2⟩
 | .r ..,_=>trivial
 | .rj ..,h=>λn=>Ce h
 | .z ..,_=>trivial
 | .y ..,_=>trivial
 | .w ..,_=>trivial
 | .v ..,_=>trivial
 | .u ..,_=>trivial
 | .il ..,_=>trivial
 | .pl ..,_=>trivial
def AW.a {D:Nat->Prop}{an:An}(h:AW D an):AW D an.a:=by
 cases an<;>first|exact h.1|trivial
def AW.b {D:Nat->Prop}{an:An}(h:AW D an):AW D an.b:=by
 cases an<;>first|exact h.2|trivial
def D9 {ws:List (Nat×Nat)}{al:List Oper}:∀{l:List Oper},wrG ws al l=true->∀o∈l,∀n,Wr al o n->Eu ws 0 n=true
 |[],_,o,h=>by simp at h
 |x::l,h,o,ho=>by
  have e:wrG ws al (x::l)=cond ((match x.dst with|some n=>Eu ws 0 n|none=>true)&&(match x.guard with|some (j,_)=>(match nth al j with|some oj=>(match oj.dst with|some n=>Eu ws 0 n|none=>true)|none=>true)|none=>true)) (wrG ws al l) false:=rfl
  rw[e] at h
  cases hc:((match x.dst with|some n=>Eu ws 0 n|none=>true)&&(match x.guard with|some (j,_)=>(match nth al j with|some oj=>(match oj.dst with|some n=>Eu ws 0 n|none=>true)|none=>true)|none=>true)) with
  |false=>rw[hc] at h;cases h
  |true=>
   rw[hc] at h
   simp only[ae] at h
   rcases ba.1 ho with rfl|ho
   ·simp only[aa] at hc
    rintro n (hn|⟨j,b,oj,h1,h2,h3⟩)
    ·have:=hc.1;rw[hn] at this;exact this
    ·have:=hc.2;rw[h1] at this;simp only[aR,h2,h3] at this;exact this
   ·exact D9 h o ho
def aQ8 {ws:List (Nat×Nat)}:∀{f:Nat} {c:Code},wr ws f c=true->WC (λn=>Eu ws 0 n=true) c:=by
 intro f
 induction f with
 |zero=>intro c h;cases h
 |succ f ih=>
  intro c h
  cases c with
  |seq a b=>
   replace h:(wr ws f a&&wr ws f b)=true:=h
   simp only[aa] at h;exact⟨ih h.1,ih h.2⟩
  |cond c a b=>
   cases c with
   |tmp n=>
    replace h:(Eu ws 0 n&&(wr ws f a&&wr ws f b))=true:=h
    simp only[aa] at h
    exact⟨λn' e=>by injection e with e;subst e;exact h.1,ih h.2.1,ih h.2.2⟩
   |_=>cases h
  |block id c=>exact ih (c:=c) h
  |loop c=>exact ih (c:=c) h
  |region id os d=>exact D9 (show wrG ws os.toList os.toList=true from h)
  |_=>trivial
section
variable {α:Type}
def Snd (P:Program)(Y:Lay U)(E:Env U g)(D:Nat->Prop)(c:Code)(s:St U){α:Type}(z:α)(N:St U->Option α)(X:Nat->St U->Option α)(R:St U->Option α):Prop:=
 ∀Q:Exit->Act->World->Prop,(∀s' a w β,Ag D s s'->N s'=some z->bE Y.C E s' a w β->Q .normal a w)->(∀i s' a w β,Ag D s s'->X i s'=some z->bE Y.C E s' a w β->Q (.exit i) a w)->(∀s' a w β,Ag D s s'->R s'=some z->bE Y.C E s' a w β->Q .ret a w)->
  ∀a w β,bE Y.C E s a w β->c.wp P Q a w
def aY5 (P:Program)(Y:Lay U)(TI:List (Nat×TInfo))(FZ:List (Nat×Sum U))(IL:Il)(g:GI):Prop:=
 ∀(E:Env U g),E.fr=[]->E.prm=[]->∀(α:Type) (EV:An->Code->St U->(St U->Option α)->Option α),(∀(E:Env U g),E.fr=[]->E.prm=[]->∀(an:An) (c:Code) (s:St U) (K:St U->Option α) (z:α),EV an c s K=some z->Snd P Y E (λ_=>True) c s z K (λ_ _=>none) K)->
  ∀(id:Nat) (os:Array Oper) (d:Bool) (an:An) (s:St U) (N:St U->Option α) (X:Nat->St U->Option α) (R:St U->Option α) (z:α) (D:Nat->Prop),(∀o∈os.toList,∀n,Wr os.toList o n->D n)->AW D an->bAk Y TI FZ IL EV os.toList os d an s N=some z->Snd P Y E D (.region id os d) s z N X R
def WC.true:∀c:Code,WC (λ_=>True) c:=λc=>by
 induction c with
 |seq a b h1 h2=>exact⟨h1,h2⟩
 |cond c a b h1 h2=>exact⟨λ_ _=>trivial,h1,h2⟩
 |block id c h=>exact h
 |loop c h=>exact h
 |region id os d=>exact λ_ _ _ _=>trivial
 |_=>trivial
def NJ (an:An):Prop:=(∀tm a,an≠ .j tm a)/\∀tm a,an≠ .jx tm a
section
variable {f:Nat} {an:An} {s:St U} {N:St U->Option α} {X:Nat->St U->Option α} {R:St U->Option α}
def bLf (h:NJ an){a b:Code}:ev Y TI FZ IL (f+1) an (.seq a b) α s N X R=ev Y TI FZ IL f an.a a α s (λs'=>ev Y TI FZ IL f an.b b α s' N X R) X R:=by
 cases an<;>first|exact absurd rfl (h.1 _ _)|exact absurd rfl (h.2 _ _)|rfl
def bHn (h:NJ an){n:Nat}{a b:Code}:ev Y TI FZ IL (f+1) an (.cond (.tmp n) a b) α s N X R=tst n s (λs=>ev Y TI FZ IL f an.a a α s N X R) (λs=>ev Y TI FZ IL f an.b b α s N X R):=by
 cases an<;>first|exact absurd rfl (h.1 _ _)|exact absurd rfl (h.2 _ _)|rfl
def bEe (h:NJ an){c:Operand}{a b:Code}{z:α}(hz:ev Y TI FZ IL (f+1) an (.cond c a b) α s N X R=some z):∃n,c= .tmp n:=by
 cases c with
 |tmp n=>exact⟨n,rfl⟩
 |_=>cases an<;>first|exact absurd rfl (h.1 _ _)|exact absurd rfl (h.2 _ _)|cases hz
def bEf (h:NJ an){id:Nat}{c:Code}:ev Y TI FZ IL (f+1) an (.block id c) α s N X R=ev Y TI FZ IL f an.a c α s N (λi s'=>bif Nat.beq i id then N s' else X i s') R:=by
 cases an<;>first|exact absurd rfl (h.1 _ _)|exact absurd rfl (h.2 _ _)|rfl
def bHo (h:NJ an){c:Code}{z:α}(hz:ev Y TI FZ IL (f+1) an (.loop c) α s N X R=some z):(∃tm n a,an= .l tm n a/\(bif wr tm.ws f c&&anW tm.ws a then bd (col Y s tm s) (bU n λrec d=>ev Y TI FZ IL f a c α (reb Y s tm d) (λs'=>bd (col Y s tm s') rec) X R) else none)=some z)\/∃a b,an= .s a b/\NJ b/\ev Y TI FZ IL f a c α s (λs'=>ev Y TI FZ IL f b (.loop c) α s' N X R) X R=some z:=by
 cases an with
 |l tm n a=>exact .inl ⟨tm,n,a,rfl,hz⟩
 |s a b=>
  refine .inr ⟨a,b,rfl,?_⟩
  replace hz:(bif bK6 b then ev Y TI FZ IL f a c α s (λs'=>ev Y TI FZ IL f b (.loop c) α s' N X R) X R else none)=some z:=hz
  cases hb:bK6 b with
  |false=>rw[hb] at hz;cases hz
  |true=>
   rw[hb] at hz
   refine⟨?_,hz⟩
   cases b<;>first|(simp[NJ];done)|cases hb
 |j=>exact absurd rfl (h.1 _ _)
 |jx=>exact absurd rfl (h.2 _ _)
 |_=>cases hz
def bHp (h:NJ an):ev Y TI FZ IL (f+1) an .skip α s N X R=N s:=by
 cases an<;>first|exact absurd rfl (h.1 _ _)|exact absurd rfl (h.2 _ _)|rfl
def bLg (h:NJ an):ev Y TI FZ IL (f+1) an .ret α s N X R=R s:=by
 cases an<;>first|exact absurd rfl (h.1 _ _)|exact absurd rfl (h.2 _ _)|rfl
def bHq (h:NJ an){i:Nat}:ev Y TI FZ IL (f+1) an (.exit i) α s N X R=X i s:=by
 cases an<;>first|exact absurd rfl (h.1 _ _)|exact absurd rfl (h.2 _ _)|rfl
def bA5 (h:NJ an){id:Nat}{os:Array Oper}{d:Bool}:ev Y TI FZ IL (f+1) an (.region id os d) α s N X R=bAk Y TI FZ IL (λa c s K=>ev Y TI FZ IL f a c α s K (λ_ _=>none) K) os.toList os d an s N:=by
 cases an<;>first|exact absurd rfl (h.1 _ _)|exact absurd rfl (h.2 _ _)|rfl
end
def bEg (an:An):(∃tm a,an= .j tm a)\/(∃tm a,an= .jx tm a)\/NJ an:=by
 cases an<;>simp[NJ]
def LoopIn (P:Program)(Y:Lay U)(E:Env U g)(D:Nat->Prop)(c':Code)(s:St U){α:Type}(z:α)(N:St U->Option α)(X:Nat->St U->Option α)(R:St U->Option α):Prop:=
 ∀Q:Exit->Act->World->Prop,(∀s' a w β,Ag D s s'->N s'=some z->bE Y.C E s' a w β->Q .normal a w)->(∀i s' a w β,Ag D s s'->X i s'=some z->bE Y.C E s' a w β->Q (.exit i) a w)->(∀s' a w β,Ag D s s'->R s'=some z->bE Y.C E s' a w β->Q .ret a w)->
  ∀a w β,bE Y.C E s a w β->∀(b:Frame) (kk:List Item) (cs:List Frame),∃e a' w',Q e a' w'/\Arrives P (lone (b.at a (.code c':: .inLoop c'::kk)) cs w) b kk cs e a' w'
def aTv (P:Program)(Y:Lay U)(TI:List (Nat×TInfo))(FZ:List (Nat×Sum U))(IL:Il)(g:GI)(f:Nat):Prop:=∀(E:Env U g),E.fr=[]->E.prm=[]->∀(an:An) (c:Code) (α:Type) (s:St U) (N:St U->Option α) (X:Nat->St U->Option α) (R:St U->Option α) (z:α) (D:Nat->Prop),WC D c->AW D an->ev Y TI FZ IL f an c α s N X R=some z->Snd P Y E D c s z N X R
def aQ9 (P:Program)(Y:Lay U)(TI:List (Nat×TInfo))(FZ:List (Nat×Sum U))(IL:Il)(g:GI)(f:Nat):Prop:=∀(E:Env U g),E.fr=[]->E.prm=[]->∀(an:An) (c':Code) (α:Type) (s:St U) (N:St U->Option α) (X:Nat->St U->Option α) (R:St U->Option α) (z:α) (D:Nat->Prop),NJ an->WC D c'->AW D an->ev Y TI FZ IL f an (.loop c') α s N X R=some z->LoopIn P Y E D c' s z N X R
def aY6 {f:Nat}(IH:aTv P Y TI FZ IL g f/\aQ9 P Y TI FZ IL g f):aQ9 P Y TI FZ IL g (f+1):=by
 intro E hE hP an c' α s N X R z D hn hw ha h Q hN hX hR a0 w0 β0 r0 b kk cs
 rcases bHo hn h with⟨tm,n,a,rfl,h'⟩|⟨a,b2,rfl,hn2,h'⟩<;>replace h:=h'
 ·cases hb:(wr tm.ws f c'&&anW tm.ws a) with
  |false=>rw[hb] at h;cases h
  |true=>
   rw[hb] at h
   simp only[ae] at h
   simp only[aa] at hb
   obtain⟨d0,h1,h2⟩:=iP h
   have key:∀(m:Nat) (d:Dat U tm.it),bU m (λrec d=>ev Y TI FZ IL f a c' α (reb Y s tm d) (λs'=>bd (col Y s tm s') rec) X R) d=some z->∀a1 w1 β1,bE Y.C E (reb Y s tm d) a1 w1 β1->Ag (λn=>Eu tm.ws 0 n=true) s (reb Y s tm d)->∀(b:Frame) (kk:List Item) (cs:List Frame),
     ∃e a' w',Q e a' w'/\Arrives P (lone (b.at a1 (.code c':: .inLoop c'::kk)) cs w1) b kk cs e a' w':=by
    intro m
    induction m with
    |zero=>intro d hd;cases hd
    |succ m ih=>
     intro d hd a1 w1 β1 r1 hg b kk cs
     have hd':ev Y TI FZ IL f a c' α (reb Y s tm d) (λs'=>bd (col Y s tm s') (bU m (λrec d=>ev Y TI FZ IL f a c' α (reb Y s tm d) (λs'=>bd (col Y s tm s') rec) X R))) X R=some z:=hd
     have hbody:=IH.1 E hE hP a c' _ _ _ _ _ z _ (aQ8 hb.1) (sH hb.2) hd' (Exit.then (λa' w'=>∃d' β',bU m (λrec d=>ev Y TI FZ IL f a c' α (reb Y s tm d) (λs'=>bd (col Y s tm s') rec) X R) d'=some z/\bE Y.C E (reb Y s tm d') a' w' β'/\Ag (λn=>Eu tm.ws 0 n=true) s (reb Y s tm d')) Q)
      (λs2 a2 w2 β2 hg2 hc r2=>by
       obtain⟨d',q1,q2⟩:=iP hc
       obtain⟨β',r'⟩:=vL hE r0 r2 (hg.trans hg2) q1
       obtain⟨_,_,_,hs,_⟩:=Fv q1
       exact⟨d',β',q2,r',aAu hs⟩)
      (λi s2 a2 w2 β2 hg2 hc r2=>hX i s2 a2 w2 β2 ((hg.trans hg2).mono ha.1) hc r2)
      (λs2 a2 w2 β2 hg2 hc r2=>hR s2 a2 w2 β2 ((hg.trans hg2).mono ha.1) hc r2) a1 w1 β1 r1 b (.inLoop c'::kk) cs
     obtain⟨e,a₁,w₁,hq,harr⟩:=hbody
     cases e with
     |normal=>
      obtain⟨d',β',j1,j2,j3⟩:=hq
      obtain⟨e₂,a₂,w₂,hq₂,harr₂⟩:=ih d' j1 a₁ w₁ β' j2 j3 b kk cs
      exact⟨e₂,a₂,w₂,hq₂, .of_steps (Steps.trans harr (.one step_inLoop)) harr₂⟩
     |exit id=>exact⟨_,a₁,w₁,hq, .pass (x:= .inLoop c') rfl (λ_ _=> .inl (by simp)) harr⟩
     |goto l=>exact⟨_,a₁,w₁,hq, .pass (x:= .inLoop c') rfl (λ_ _=> .inl (by simp)) harr⟩
     |ret=>exact⟨_,a₁,w₁,hq, .pass (x:= .inLoop c') rfl (λ_ _=> .inl (by simp)) harr⟩
     |panic ch=>exact⟨_,a₁,w₁,hq, .pass (x:= .inLoop c') rfl (λ_ _=> .inl (by simp)) harr⟩
     |outgrown=>exact⟨_,a₁,w₁,hq, .pass (x:= .inLoop c') rfl (λ_ _=> .inl (by simp)) harr⟩
   obtain⟨β1,r1⟩:=vL hE r0 r0 (Ag.refl s) h1
   obtain⟨_,_,_,hs,_⟩:=Fv h1
   exact key n d0 h2 a0 w0 β1 r1 (aAu hs) b kk cs
 ·have hbody:=IH.1 E hE hP a c' _ s _ _ _ z D hw ha.1 h (Exit.then (λa' w'=>∃s' β',ev Y TI FZ IL f b2 (.loop c') α s' N X R=some z/\bE Y.C E s' a' w' β'/\Ag D s s') Q)
   (λs2 a2 w2 β2 hg2 hc r2=>⟨s2,β2,hc,r2,hg2⟩)
   (λi s2 a2 w2 β2 hg2 hc r2=>hX i s2 a2 w2 β2 hg2 hc r2)
   (λs2 a2 w2 β2 hg2 hc r2=>hR s2 a2 w2 β2 hg2 hc r2) a0 w0 β0 r0 b (.inLoop c'::kk) cs
  obtain⟨e,a₁,w₁,hq,harr⟩:=hbody
  cases e with
  |normal=>
   obtain⟨s',β',j1,j2,j3⟩:=hq
   obtain⟨e₂,a₂,w₂,hq₂,harr₂⟩:=IH.2 E hE hP b2 c' _ s' N X R z D hn2 hw ha.2 j1 Q (λs2 a2 w2 β2 hg=>hN s2 a2 w2 β2 (j3.trans hg)) (λi s2 a2 w2 β2 hg=>hX i s2 a2 w2 β2 (j3.trans hg)) (λs2 a2 w2 β2 hg=>hR s2 a2 w2 β2 (j3.trans hg)) a₁ w₁ β' j2 b kk cs
   exact⟨e₂,a₂,w₂,hq₂, .of_steps (Steps.trans harr (.one step_inLoop)) harr₂⟩
  |exit id=>exact⟨_,a₁,w₁,hq, .pass (x:= .inLoop c') rfl (λ_ _=> .inl (by simp)) harr⟩
  |goto l=>exact⟨_,a₁,w₁,hq, .pass (x:= .inLoop c') rfl (λ_ _=> .inl (by simp)) harr⟩
  |ret=>exact⟨_,a₁,w₁,hq, .pass (x:= .inLoop c') rfl (λ_ _=> .inl (by simp)) harr⟩
  |panic ch=>exact⟨_,a₁,w₁,hq, .pass (x:= .inLoop c') rfl (λ_ _=> .inl (by simp)) harr⟩
  |outgrown=>exact⟨_,a₁,w₁,hq, .pass (x:= .inLoop c') rfl (λ_ _=> .inl (by simp)) harr⟩
def bLh (HR:aY5 P Y TI FZ IL g){f:Nat}(IH:aTv P Y TI FZ IL g f/\aQ9 P Y TI FZ IL g f):aTv P Y TI FZ IL g (f+1):=by
  intro E hE hP an c α s N X R z D hw ha h
  rcases bEg an with⟨tm,a,rfl⟩|⟨tm,a,rfl⟩|hn
  ·replace h:(bif wr tm.ws f c&&anW tm.ws a then bd (ev Y TI FZ IL f a c (Dat U tm.it) s (λs'=>col Y s tm s') (λ_ _=>none) (λ_=>none)) λd=>N (reb Y s tm d) else none)=some z:=h
   cases hb:(wr tm.ws f c&&anW tm.ws a) with
   |false=>rw[hb] at h;cases h
   |true=>
    rw[hb] at h
    simp only[ae] at h
    simp only[aa] at hb
    obtain⟨d,h1,h2⟩:=iP h
    intro Q hN hX hR a0 w0 β0 r0
    refine IH.1 E hE hP a c _ s _ _ _ d _ (aQ8 hb.1) (sH hb.2) h1 Q (λs' a' w' β' hag hc r'=> ?_) (λi s' a' w' β' _ hc _=>by cases hc) (λs' a' w' β' _ hc _=>by cases hc) a0 w0 β0 r0
    obtain⟨β'',r''⟩:=vL hE r0 r' hag hc
    obtain⟨_,_,_,hs,_⟩:=Fv hc
    exact hN _ _ _ _ ((aAu hs).mono ha.1) h2 r''
  ·replace h:(bif wr tm.ws f c&&anW tm.ws a then nx (ev Y TI FZ IL f a c (α⊕Dat U tm.it) s (λs'=>bd (col Y s tm s') λd=>some (.inr d)) (λi s'=>bd (X i s') λr=>some (.inl r)) (λs'=>bd (R s') λr=>some (.inl r))) λd=>N (reb Y s tm d) else none)=some z:=h
   cases hb:(wr tm.ws f c&&anW tm.ws a) with
   |false=>rw[hb] at h;cases h
   |true=>
    rw[hb] at h
    simp only[ae] at h
    simp only[aa] at hb
    obtain⟨q,h1,h2⟩:=bG2 h
    intro Q hN hX hR a0 w0 β0 r0
    refine IH.1 E hE hP a c _ s _ _ _ q _ (aQ8 hb.1) (sH hb.2) h1 Q (λs' a' w' β' hag hc r'=> ?_) (λi s' a' w' β' hag hc r'=> ?_) (λs' a' w' β' hag hc r'=> ?_) a0 w0 β0 r0
    ·obtain⟨d,h3,h4⟩:=iP hc
     have:=ak h4;subst this
     obtain⟨β'',r''⟩:=vL hE r0 r' hag h3
     obtain⟨_,_,_,hs,_⟩:=Fv h3
     exact hN _ _ _ _ ((aAu hs).mono ha.1) h2 r''
    ·obtain⟨d,h3,h4⟩:=iP hc
     have:=ak h4;subst this
     obtain rfl:d=z:=h2
     exact hX i s' a' w' β' (hag.mono ha.1) h3 r'
    ·obtain⟨d,h3,h4⟩:=iP hc
     have:=ak h4;subst this
     obtain rfl:d=z:=h2
     exact hR s' a' w' β' (hag.mono ha.1) h3 r'
  cases c with
  |seq a b=>
   rw[bLf hn] at h
   intro Q hN hX hR a0 w0 β0 r0
   exact wp_seq (IH.1 E hE hP an.a a _ s _ _ _ z D hw.1 ha.a h (Exit.then (b.wp P Q) Q) (λs' a' w' β' hag h2 r'=>
    IH.1 E hE hP an.b b _ s' _ _ _ z D hw.2 ha.b h2 Q (λs2 a2 w2 β2 hg=>hN s2 a2 w2 β2 (hag.trans hg)) (λi s2 a2 w2 β2 hg=>hX i s2 a2 w2 β2 (hag.trans hg)) (λs2 a2 w2 β2 hg=>hR s2 a2 w2 β2 (hag.trans hg)) a' w' β' r')
    (λi s' a' w' β' hag h2 r'=>hX i s' a' w' β' hag h2 r') (λs' a' w' β' hag h2 r'=>hR s' a' w' β' hag h2 r') a0 w0 β0 r0)
  |cond c0 a b=>
    obtain⟨n,rfl⟩:=bEe hn h
    rw[bHn hn] at h
    intro Q hN hX hR a0 w0 β0 r0
    obtain⟨t,s1,k1,k2,k3,k4,k5,k6⟩:=aOp r0 h
    have hag:=k6.mono (D':=D) (λk e=>e▸hw.1 n rfl)
    refine wp_cond_split k1 (λht=> ?_) (λhf=> ?_)
    ·exact IH.1 E hE hP an.a a _ s1 _ _ _ z D hw.2.1 ha.a (k4 ht) Q (λs2 a2 w2 β2 hg=>hN s2 a2 w2 β2 (hag.trans hg)) (λi s2 a2 w2 β2 hg=>hX i s2 a2 w2 β2 (hag.trans hg)) (λs2 a2 w2 β2 hg=>hR s2 a2 w2 β2 (hag.trans hg)) a0 w0 β0 k3
    ·exact IH.1 E hE hP an.b b _ s1 _ _ _ z D hw.2.2 ha.b (k5 hf) Q (λs2 a2 w2 β2 hg=>hN s2 a2 w2 β2 (hag.trans hg)) (λi s2 a2 w2 β2 hg=>hX i s2 a2 w2 β2 (hag.trans hg)) (λs2 a2 w2 β2 hg=>hR s2 a2 w2 β2 (hag.trans hg)) a0 w0 β0 k3
  |block id c'=>
   rw[bEf hn] at h
   intro Q hN hX hR a0 w0 β0 r0
   refine wp_block (IH.1 E hE hP an.a c' _ s _ _ _ z D hw ha.a h (Exit.inBlock id Q) (λs' a' w' β' hag h2 r'=>hN s' a' w' β' hag h2 r') (λi s' a' w' β' hag h2 r'=> ?_) (λs' a' w' β' hag h2 r'=>hR s' a' w' β' hag h2 r') a0 w0 β0 r0)
   simp only[Exit.inBlock]
   cases hb:Nat.beq i id with
   |true=>
    rw[cH (ah hb)]
    simp only[hb,ae] at h2
    exact hN s' a' w' β' hag h2 r'
   |false=>
    rw[cX (λe=>by subst e;rw[show Nat.beq i i=true from dn i] at hb;cases hb)]
    simp only[hb,ab] at h2
    exact hX i s' a' w' β' hag h2 r'
  |loop c'=>
   intro Q hN hX hR a0 w0 β0 r0 b kk cs
   obtain⟨e,a',w',hq,harr⟩:=aY6 IH E hE hP an c' α s N X R z D hn hw ha h Q hN hX hR a0 w0 β0 r0 b kk cs
   exact⟨e,a',w',hq, .of_steps (.one step_loop) harr⟩
  |skip=>
   rw[bHp hn] at h
   intro Q hN hX hR a0 w0 β0 r0
   exact wp_skip (hN s a0 w0 β0 (Ag.refl s) h r0)
  |ret=>
   rw[bLg hn] at h
   intro Q hN hX hR a0 w0 β0 r0
   exact wp_ret (hR s a0 w0 β0 (Ag.refl s) h r0)
  |exit i=>
   rw[bHq hn] at h
   intro Q hN hX hR a0 w0 β0 r0
   exact wp_exit (hX i s a0 w0 β0 (Ag.refl s) h r0)
  |region id os d=>
   rw[bA5 hn] at h
   exact HR E hE hP α _ (λE hE hP an c s K z h=>IH.1 E hE hP an c _ s _ _ _ z (λ_=>True) (WC.true c) (AW.true an) h) id os d an s N X R z D hw ha h
  |_=>cases an<;>first|exact absurd rfl (hn.1 _ _)|exact absurd rfl (hn.2 _ _)|cases h
def aRa (HR:aY5 P Y TI FZ IL g):∀(f:Nat),aTv P Y TI FZ IL g f/\aQ9 P Y TI FZ IL g f
 |0=>And.intro (λE _ _ an c α s N X R z D _ _ h=>nomatch h) (λE _ _ an c' α s N X R z D _ _ _ h=>nomatch h)
 |f+1=>⟨bLh HR (aRa HR f),aY6 (aRa HR f)⟩
def aHy (HR:aY5 P Y TI FZ IL g)(f:Nat):aTv P Y TI FZ IL g f:=(aRa HR f).1
end
end Go.EV

namespace Go.EV
open Go.RowKit Go.VK
variable {U:Uni} {Y:Lay U} {TI:List (Nat×TInfo)} {FZ:List (Nat×Sum U)} {P:Program} {g:GI} {E:Env U g}
section
variable {s:St U} {a:Act} {w:World} {β:List Tr} {α:Type}
def aRb (G:Good P g Y TI FZ)(r:bE Y.C E s a w β){al:List Oper}{o:Oper}{K:St U->Option α}{z:α}(h:grd Y TI FZ al o s K=some z){K':Act->World->Prop}{Q:Exit->Act->World->Prop}
  (hk:∀s' v w' β',Ag (Wr al o) s s'->K s'=some z->bE Y.C E s' (a.put o.dst v) w' β'->(Nat.ble (uC FZ o.op) 1=true->Ext w w')->K' (a.put o.dst v) w'):if Region.wanted o (yielded al.toArray a.tmps)=true then o.wp P a w K' Q else K' (a.put o.dst undef) w:=by
 obtain⟨s1,r1,h1,h2⟩:=aAr r h
 rcases h2 with⟨hw,h2⟩|⟨hw,h2⟩
 ·rw[cH hw]
  unfold one at h2
  obtain⟨x,s2,k1,k2,k3,k4,k5⟩:=aOo G r1 rfl h2
  exact k2 K' Q λv w' β' q1 q2 q3=>hk _ v w' β' (Ag.put ⟨λn hn=>by rw[k3];exact h1.t n hn,by rw[k3];exact h1.tl,by rw[k4];exact h1.fr,h1.m.trans k5⟩ (λn e=> .inl e)) k1 (q1.put q2) q3
 ·rw[cX (by rw[hw];simp)]
  exact hk _ _ w β (h1.put (λn e=> .inl e)) h2 (r1.put (x:= .l .und) (v:=undef) (λ_=>rfl)) (λ_=>Ext.refl w)
def bE.aBQ {C:Cod U}(r:bE C E s a w β){d:Option Nat}{x:Sv U}{v:Value}(h:d≠none->x.mean C w (E.X β) β s.m v)(hv:∀n,d=some n->a.tmps.getD n undef=v):bE C E (EV.put s d x) a w β:=by
 have r':=r.put h
 refine⟨r'.hp,r.defers,?_,λn y hy=> ?_⟩
 ·rw[r.tsz];cases d with
  |none=>rfl
  |some m=>simp[EV.put,bX]
 ·have:=r'.tm n y hy
  cases d with
  |none=>exact this
  |some m=>
   by_cases hm:m=n
   ·subst hm
    by_cases hl:m<a.tmps.size
    ·rw[show(a.put (some m) v).tmps.getD m undef=v from by simp only[Act.put];rw[vS _ _ _ _ _ hl,cH rfl]] at this
     rw[hv m rfl];exact this
    ·rw[show(a.put (some m) v).tmps=a.tmps from eM (by omega)] at this;exact this
   ·rw[show(a.put (some m) v).tmps.getD n undef=a.tmps.getD n undef from by
     simp only[Act.put]
     by_cases hl:m<a.tmps.size
     ·rw[vS _ _ _ _ _ hl,cX hm]
     ·rw[eM (by omega)]] at this
    exact this
def E5 {d:Option Nat}{v:Value}{n:Nat}(h:d≠some n):(a.put d v).tmps.getD n undef=a.tmps.getD n undef:=by
 cases d with
 |none=>rfl
 |some m=>
  simp only[Act.put]
  by_cases hl:m<a.tmps.size
  ·rw[vS _ _ _ _ _ hl,cX (λe=>h (by rw[e]))]
  ·rw[eM (by omega)]
def bE.aBY {C:Cod U}(r:bE C E s a w β){d:Option Nat}{v:Value}(h:aMb s d=true):bE C E s (a.put d v) w β:=by
 refine⟨r.hp,?_,?_,λn x hx=> ?_⟩
 ·cases d<;>exact r.defers
 ·rw[<-r.tsz];cases d with
  |none=>rfl
  |some m=>simp[Act.put]
 ·by_cases hd:d=some n
  ·subst hd
   simp only[aMb,aR,hx] at h
   split at h
   ·rename_i hh;have:=ak hh;subst this;trivial
   ·cases h
  ·rw[E5 hd];exact r.tm n x hx
def bE.aDG {C:Cod U}(r:bE C E s a w β){d:Option Nat}:bE C E (EV.put s d (.l .any)) a w β:=by
 cases d with
 |none=>exact r
 |some n=>exact r.aBQ (v:=a.tmps.getD n undef) (λ_=>trivial) (λm e=>by cases e;rfl)
def Cf {o:Oper}(h:aAj o.op=true){a:Act}{w:World}{v:Value}(hr:(execOp a.eval o).run P w= .ok (.value v) w)(w':World):(execOp a.eval o).run P w'= .ok (.value v) w':=by
 cases ho:o.op with
 |move x=>simp[execOp,ho] at hr ⊢;exact hr
 |assign x=>simp[execOp,ho] at hr ⊢;exact hr
 |extract x i=>
  simp only[execOp,ho] at hr ⊢
  cases hx:a.eval x with
  |tuple vs=>
   rw[hx] at hr
   simp only[Instr.extract] at hr ⊢
   cases hv:vs[i]? with
   |none=>rw[hv] at hr;simp at hr
   |some u=>rw[hv] at hr;simp at hr ⊢;exact hr
  |_=>rw[hx] at hr;simp[Instr.extract] at hr
 |_=>rw[ho] at h;cases h
def Ua {a0:Option Nat}{i:Nat}{listed:Array Bool}{pre:Bool}(h:a0Y a0 i listed=true)(hp:fJ a0 listed=pre):fJ a0 (listed.setIfInBounds i true)=(pre&& !yQ a0 i):=by
 cases a0 with
 |none=>have:pre=true:=hp.symm;subst this;rfl
 |some b=>
  by_cases hb:b=i
  ·subst hb
   have e:yQ (some b) b=true:=dn b
   rw[e]
   simp only[a0Y,cC,cL,cz] at h
   rw[h];simp
  ·have e:yQ (some b) i=false:=by
    unfold yQ
    cases hh:Nat.beq b i with
    |false=>exact hh
    |true=>exact absurd (ah hh) hb
   rw[e,uY (λe=>hb (ak e)),hp];simp
def bNj {os:Array Oper}{a0:Option Nat}(hs:Region.noSelect os=true){Q:Exit->Act->World->Prop}{i:Nat}{o:Oper}{v:Value}{n:Nat}{listed:Array Bool}{wS:World}(ho:os[i]? =some o)(hD:Dn .any os listed)(hc:tkY os a0 i listed=true)
  (hy:YieldsIf P os (Ext wS) o v a) (hpu:aAj o.op=true->YieldsIf P os (λ_=>True) o v a) (hS:fJ a0 listed=true->Ext wS w)
  (h:dJ P .any os a0 (NoPanic Q) (Ext wS) n (listed.setIfInBounds i true) (a.put o.dst v) w):dJ P .any os a0 (NoPanic Q) (Ext wS) (n+1) listed a w:=by
 simp only[tkY,aa] at hc
 obtain⟨⟨h1,h2⟩,h3⟩:=hc
 have h2':i∈Region.ready .any os listed:=by simpa using h2
 cases a0 with
 |none=>exact kD ho (Region.noSelect_spec hs) (λ_ _ _ h=>h) (by simp) (λ_ _ _=>rfl) n listed a w (Region.free_spec ho h1) hD h2' hy (hS rfl) h
 |some b=>
  simp only[aa,bne_iff_ne,ne_eq,cq,ho] at h3
  have hne:some b≠some i:=λe=>h3.1 (ak e)
  rcases h3.2 with h4|h4
  ·have hbar:∀listed,Dn .any os listed->listed.getD i true=false->fJ (some b) listed=true:=λlisted hD hun=>by
    simp only[fJ,cz]
    exact getD_in (Qe hD hun 40 b h4)
   exact kD ho (Region.noSelect_spec hs) (λ_ _ _ h=>h) hne hbar n listed a w (Region.free_spec ho h1) hD h2' hy (hS (hbar _ hD (mem_ready.1 h2').1)) h
  ·exact Be ho (Region.noSelect_spec hs) (λ_ _ _ h=>h) hne n listed a w (Region.free_spec ho h1) h2' (hpu h4) hS h
def nX {os:Array Oper}{a0:Option Nat}{i:Nat}{listed:Array Bool}(h:tkY os a0 i listed=true):i∈Region.ready .any os listed/\a0≠some i:=by
 simp only[tkY,aa] at h
 refine⟨by simpa using h.1.2,λe=> ?_⟩
 subst e
 have:=h.2
 simp at this
structure Lk (E:Env U g) (kd:Option (Nat×Nat)) (st pre:Bool) (wS w:World):Prop where
 fr:∀n k,kd=some (n,k)->(wS,n,k)∈E.fr
 st:st=true->wS=w
 no:kd=none->wS=w
 pre:pre=true->Ext wS w
def stepT (G:Good P g Y TI FZ){al:List Oper}{a0:Option Nat}(hs:Region.noSelect al.toArray=true){Q:Exit->Act->World->Prop}{i:Nat}{o:Oper}{n:Nat}{listed:Array Bool}{wS:World}(ho:al[i]? =some o)(hD:Dn .any al.toArray listed)(hc:tkY al.toArray a0 i listed=true)
  {K:St U->Option α} {z:α} {st:Bool} (h:(bif Nat.beq (uC FZ o.op) 0&&(aAj o.op||st) then grd Y TI FZ al o s K else none)=some z) (hst:st=true->wS=w) (hS:fJ a0 listed=true->Ext wS w) (r:bE Y.C E s a w β)
  (hk:∀v s',Ag (Wr al o) s s'->K s'=some z->bE Y.C E s' (a.put o.dst v) w β->dJ P .any al.toArray a0 (NoPanic Q) (Ext wS) n (listed.setIfInBounds i true) (a.put o.dst v) w):dJ P .any al.toArray a0 (NoPanic Q) (Ext wS) (n+1) listed a w:=by
 cases hb:(Nat.beq (uC FZ o.op) 0&&(aAj o.op||st)) with
 |false=>rw[hb] at h;cases h
 |true=>
  rw[hb] at h
  simp only[ae] at h
  simp only[aa,cq] at hb
  obtain⟨v,s',h1,h2,h3,h4⟩:=bHl G r (ah hb.1) h
  have hg:al.toArray[i]? =some o:=by simpa using ho
  have hpu:aAj o.op=true->YieldsIf P al.toArray (λ_=>True) o v a:=λhp=>h1.imp (λ⟨k1,k2⟩=>⟨k1,λw' _=>Cf hp (k2 w (Ext.refl w)) w'⟩) id
  refine bNj hs hg hD hc ?_ hpu hS (hk v s' h4 h3 h2)
  rcases hb.2 with hp|hp
  ·exact(hpu hp).imp (λ⟨k1,k2⟩=>⟨k1,λw' _=>k2 w' trivial⟩) id
  ·have:=hst hp;subst this;exact h1
def aTw (G:Good P g Y TI FZ){al:List Oper}{a0:Option Nat}{kd:Option (Nat×Nat)}{Q:Exit->Act->World->Prop}{i:Nat}{o:Oper}{n:Nat}{listed:Array Bool}{wS:World}(ho:al[i]? =some o){pre st:Bool}(ha:a0Y a0 i listed=true)(hp:fJ a0 listed=pre)
  {K:St U->Option α} {z:α} (h:grd Y TI FZ al o s (λs'=>bif !(pre&& !yQ a0 i)||(Nat.ble (uC FZ o.op) 1||unO kd s'.m.o) then K s' else none)=some z) (hl:Lk E kd st pre wS w) (r:bE Y.C E s a w β)
  (hk:∀v s' w' β' wS',Ag (Wr al o) s s'->K s'=some z->bE Y.C E s' (a.put o.dst v) w' β'->Lk E kd (st&&Bq kd) (pre&& !yQ a0 i) wS' w'->dJ P .any al.toArray a0 (NoPanic Q) (Ext wS') n (listed.setIfInBounds i true) (a.put o.dst v) w'):
  wpOp P al.toArray (NoPanic Q) i (λa' w'=>(fJ a0 (listed.setIfInBounds i true)=true->Ext wS w')/\dJ P .any al.toArray a0 (NoPanic Q) (Ext wS) n (listed.setIfInBounds i true) a' w') a w:=by
 have hny:=Ua ha hp
 have hg:al.toArray[i]? =some o:=by simpa using ho
 refine wpOp_step hg λK' hK'=>aRb G r h λs' v w' β' q1 q2 q3 q4=>hK' _ _ ?_
 cases hb:(!(pre&& !yQ a0 i)||(Nat.ble (uC FZ o.op) 1||unO kd s'.m.o)) with
 |false=>rw[hb] at q2;cases q2
 |true=>
  rw[hb] at q2
  simp only[ae] at q2
  have hext:(pre&& !yQ a0 i)=true->Ext wS w':=λhpp=>by
   rw[hpp] at hb
   simp only[bf,cL,cq] at hb
   simp only[aa] at hpp
   rcases hb with hb|hb
   ·exact(hl.pre hpp.1).trans (q4 hb)
   ·cases hkd:kd with
    |none=>rw[hkd] at hb;cases hb
    |some p=>
     obtain⟨n0,k0⟩:=p
     rw[hkd] at hb
     exact q3.unt (hl.fr n0 k0 hkd) hb
  refine⟨λhn=>hext (hny.symm.trans hn),?_⟩
  cases hkd:kd with
  |some p=>
   exact hk v s' w' β' wS q1 q2 q3 ⟨hl.fr,λh=>(by rw[hkd] at h;simp[Bq] at h),λh=>(by rw[hkd] at h;cases h),hext⟩
  |none=>
   have hw:=hl.no hkd
   have hk':=hk v s' w' β' w' q1 q2 q3 ⟨λn k h=>(by rw[hkd] at h;cases h),λ_=>rfl,λ_=>rfl,λ_=>Ext.refl w'⟩
   cases hpp:(pre&& !yQ a0 i) with
   |true=>exact sD (λx hx=>(hext hpp).trans hx) _ _ _ _ hk'
   |false=>exact nU _ _ _ _ (hny.trans hpp) hk'
variable {al:List Oper} {a0:Option Nat} {kd:Option (Nat×Nat)} {Q:Exit->Act->World->Prop} {D:Nat->Prop}
def aTx (G:Good P g Y TI FZ)(hs:Region.noSelect al.toArray=true):∀(l:List (Nat×Bool)) (pre st:Bool) (s:St U) (K:St U->Option α) (z:α),(∀i∈l,∀o,al[i.1]? =some o->∀n,Wr al o n->D n)->y7 Y TI FZ al a0 kd l none pre st s K=some z->
  (∀s' a w β,Ag D s s'->K s'=some z->bE Y.C E s' a w β->Q .normal a w)->∀listed,Dn .any al.toArray listed->Ku al.toArray a0 l listed=true->fJ a0 listed=pre->∀a w β wS,Lk E kd st pre wS w->bE Y.C E s a w β->dJ P .any al.toArray a0 (NoPanic Q) (Ext wS) l.length listed a w
 |[],pre,st,s,K,z,_,h,hQ,listed,_,hc,_,a,w,β,wS,_,r=>nV (P:=P) (a0:=a0) (S:=Ext wS) (Q:=NoPanic Q) (by simpa[Ku] using hc) (hQ s a w β (Ag.refl s) h r) 0
 |(i,fl)::l,pre,st,s,K,z,hD,h,hQ,listed,hdn,hc,hp,a,w,β,wS,hl,r=>by
  simp only[y7,aR] at h
  cases ho:al[i]? with
  |none=>rw[ho] at h;cases h
  |some o=>
   rw[ho] at h
   simp only at h
   have hDi:=hD (i,fl) (by simp) o ho
   have hD':∀j∈l,∀o,al[j.1]? =some o->∀n,Wr al o n->D n:=λj hj=>hD j (by simp[hj])
   cases fl with
   |true=>
    simp only[Ku,aa] at hc
    obtain⟨hr,hne⟩:=nX hc.1
    exact stepT G hs ho hdn hc.1 h hl.st (λhn=>hl.pre (hp.symm.trans hn)) r λv s' h1 h2 h3=>
     aTx G hs l pre st s' K z hD' h2 (λs2 a2 w2 β2 g1=>hQ s2 a2 w2 β2 ((h1.mono hDi).trans g1)) _ (hdn.set hr) hc.2 ((uY hne).trans hp) _ w β wS hl h3
   |false=>
    simp only[Ku,aa,cI] at hc
    simp only[ab] at h
    rw[show aDs Y TI al none s=true from rfl] at h
    simp only[ae] at h
    refine jG hc.1 (by simp) λi' hi'=> ?_
    simp at hi';subst hi'
    exact aTw G ho hc.2.1 hp h hl r λv s' w' β' wS' h1 h2 h3 h4=>
     aTx G hs l _ _ s' K z hD' h2 (λs2 a2 w2 β2 g1=>hQ s2 a2 w2 β2 ((h1.mono hDi).trans g1)) _ (hdn.set (by rw[hc.1];simp)) hc.2.2 (Ua hc.2.1 hp) _ w' β' wS' h4 h3
def aHz {j:Nat}{oj:Oper}(ho:al[j]? =some oj)(h:aDs Y TI al (some j) s=true):oj.guard=none/\aMb s oj.dst=true/\yR Y TI s oj.op=true/\aV9 oj oj.dst=true:=by
 simp only[aDs,aR,ho,aa] at h
 refine⟨?_,h.2.1,h.2.2.2,h.2.2.1⟩
 cases hg:oj.guard with
 |none=>rfl
 |some x=>rw[hg] at h;cases h.1
def bEh {oj:Oper}{d:Option Nat}(h:bDj oj d=true):∀n,oj.dst=some n->d≠some n:=λn hn e=>by
 subst e
 simp only[bDj,hn,aa] at h
 have:=h.1
 rw[show Nat.beq n n=true from dn n] at this
 cases this
def bEi {oj:Oper}{d:Option Nat}(h:bDj oj d=true):aV9 oj d=true:=by
 simp only[bDj,aa] at h;exact h.2
def Lk.mk1 {b:Nat}{blk:Obj}{hb:E.w0.heap.size<=b}{st pre:Bool}{wS:World}(h:Lk E kd st pre wS w):Lk (E.ahd b blk hb) kd st pre wS w:=⟨h.fr,h.st,h.no,h.pre⟩
def Lk.un1 {b:Nat}{blk:Obj}{hb:E.w0.heap.size<=b}{st pre:Bool}{wS:World}(h:Lk (E.ahd b blk hb) kd st pre wS w):Lk E kd st pre wS w:=⟨h.fr,h.st,h.no,h.pre⟩
def bEj (G:Good P g Y TI FZ)(hs:Region.noSelect al.toArray=true)(hP:E.prm=[]){j:Nat}{oj:Oper}(hj:al[j]? =some oj)(hgj:oj.guard=none)(hja:a0≠some j){b:Nat}{blk:Obj}{hb:E.w0.heap.size<=b}:∀(l:List (Nat×Bool)) (m:Nat) (pre st:Bool) (s:St U) (K:St U->Option α) (z:α),m+1=l.length->(∀i∈l,∀o,al[i.1]? =some o->∀n,Wr al o n->D n)->y7 Y TI FZ al a0 kd l (some j) pre st s K=some z->
  (∀s' a w β,Ag D s s'->K s'=some z->bE Y.C E s' a w β->Q .normal a w)->∀listed,Dn .any al.toArray listed->aWa al.toArray a0 oj j l listed=true->fJ a0 listed=pre->∀a w β wS,Lk E kd st pre wS w->Flp P a oj blk->(∀n,oj.dst=some n->a.tmps.getD n undef=mkF oj.op b)->bE Y.C (E.ahd b blk hb) s a w β->dJ P .any al.toArray a0 (NoPanic Q) (Ext wS) m listed a w
 |[],m,pre,st,s,K,z,hm,_,h,hQ,listed,_,hc,_,a,w,β,wS,_,_,_,r=>by cases hc
 |(i,fl)::l,m,pre,st,s,K,z,hm,hD,h,hQ,listed,hdn,hc,hp,a,w,β,wS,hl,hF,hv,r=>by
  have hm':m=l.length:=by simpa using hm
  have hD':∀j∈l,∀o,al[j.1]? =some o->∀n,Wr al o n->D n:=λj hj=>hD j (by simp[hj])
  simp only[aWa] at hc
  simp only[y7,aR] at h
  cases hij:Nat.beq i j with
  |true=>
   have e:=ah hij
   subst e
   rw[hij] at hc
   simp only[ae,aa] at hc
   have hfl:fl=false:=by simpa using hc.1
   subst hfl
   rw[hj] at h
   simp only[ab] at h
   have hDi:=hD (i,false) (by simp) oj hj
   cases hfa:aDs Y TI al (some i) s with
   |false=>rw[hfa] at h;cases h
   |true=>
    rw[hfa] at h
    simp only[ae] at h
    obtain⟨_,_,hok,_⟩:=aHz hj hfa
    have hself:yQ (some i) i=true:=dn i
    have hna:yQ a0 i=false:=by
     cases a0 with
     |none=>rfl
     |some c=>
      cases hh:yQ (some c) i with
      |false=>rfl
      |true=>exact absurd (congrArg some (ah hh)) hja
    rw[hself,hna] at h
    simp only[ae,dv,fa] at h
    unfold grd aMa at h
    rw[hgj] at h
    simp only[one] at h
    obtain⟨x,s',β',k1,k2,k3,k4,k5,k6⟩:=bA2 G r hP hF hok h
    cases hcc:(!pre||(Nat.ble (uC FZ oj.op) 1||unO kd (EV.put s' oj.dst x).m.o)) with
    |false=>rw[hcc] at k1;cases k1
    |true=>
     rw[hcc] at k1
     simp only[ae] at k1
     have hag:Ag D s (EV.put s' oj.dst x):=Ag.put ⟨λn _=>by rw[k4],by rw[k4],k5,k6⟩ (λn e=>hDi n (.inl e))
     rw[hm']
     exact aTx G hs l pre _ _ K z hD' k1 (λs2 a2 w2 β2 g1=>hQ s2 a2 w2 β2 (hag.trans g1)) listed hdn hc.2 hp a w β' wS ⟨hl.fr,λh=>hl.st (by simp only[aa] at h;exact h.1),hl.no,hl.pre⟩ (k2.aBQ (λ_=>k3) hv)
  |false=>
   rw[hij] at hc
   simp only[ab] at hc
   have hnA:yQ (some j) i=false:=by
    show Nat.beq j i=false
    cases hh:Nat.beq j i with
    |false=>rfl
    |true=>have:=ah hh;subst this;rw[show Nat.beq j j=true from dn j] at hij;cases hij
   cases ho:al[i]? with
   |none=>rw[ho] at h;cases h
   |some o=>
    rw[ho] at h
    simp only at h
    have hg:al.toArray[i]? =some o:=by simpa using ho
    rw[hg] at hc
    simp only[aa] at hc
    obtain⟨hoff,hc⟩:=hc
    have hDi:=hD (i,fl) (by simp) o ho
    have hlen:∃m',m=m'+1/\m'+1=l.length:=by
     cases l with
     |nil=>cases fl<;>(simp only[ae,ab,aWa,dp,aa] at hc;simp at hc)
     |cons x l=>exact⟨l.length,by simpa using hm',by simp⟩
    obtain⟨m',rfl,hm2⟩:=hlen
    have hoffd:∀n,oj.dst=some n->∀v,(a.put o.dst v).tmps.getD n undef=mkF oj.op b:=λn hn v=>by rw[E5 (bEh hoff n hn)];exact hv n hn
    cases fl with
    |true=>
     simp only[ae,aa] at hc
     obtain⟨hr,hne⟩:=nX hc.1
     exact stepT G hs ho hdn hc.1 h hl.st (λhn=>hl.pre (hp.symm.trans hn)) r λv s' h1 h2 h3=>
      bEj G hs hP hj hgj hja l m' pre st s' K z hm2 hD' h2 (λs2 a2 w2 β2 g1=>hQ s2 a2 w2 β2 ((h1.mono hDi).trans g1)) _ (hdn.set hr) hc.2 ((uY hne).trans hp) _ w β wS hl (hF.keep (bEi hoff)) (λn hn=>hoffd n hn v) h3
    |false=>
     simp only[ab,aa,cI] at hc
     simp only[ab,hnA] at h
     cases hfa:aDs Y TI al (some j) s with
     |false=>rw[hfa] at h;cases h
     |true=>
      rw[hfa] at h
      simp only[ae] at h
      refine jG hc.1 (by simp) λi' hi'=> ?_
      simp at hi';subst hi'
      exact aTw G ho hc.2.1 hp h hl.mk1 r λv s' w' β' wS' h1 h2 h3 h4=>
       bEj G hs hP hj hgj hja l m' _ _ s' K z hm2 hD' h2 (λs2 a2 w2 β2 g1=>hQ s2 a2 w2 β2 ((h1.mono hDi).trans g1)) _ (hdn.set (by rw[hc.1];simp)) hc.2.2 (Ua hc.2.1 hp) _ w' β' wS' h4.un1 (hF.keep (bEi hoff)) (λn hn=>hoffd n hn v) h3
def bEk (G:Good P g Y TI FZ)(hs:Region.noSelect al.toArray=true)(hP:E.prm=[]){j:Nat}{oj:Oper}(hj:al[j]? =some oj)(hja:a0≠some j):∀(l:List (Nat×Bool)) (pre st:Bool) (s:St U) (K:St U->Option α) (z:α),(∀i∈l,∀o,al[i.1]? =some o->∀n,Wr al o n->D n)->y7 Y TI FZ al a0 kd l (some j) pre st s K=some z->
  (∀s' a w β,Ag D s s'->K s'=some z->bE Y.C E s' a w β->Q .normal a w)->∀listed,Dn .any al.toArray listed->bDk al.toArray a0 oj j l listed=true->fJ a0 listed=pre->∀a w β wS,Lk E kd st pre wS w->bE Y.C E s a w β->dJ P .any al.toArray a0 (NoPanic Q) (Ext wS) l.length listed a w
 |[],pre,st,s,K,z,_,h,hQ,listed,_,hc,_,a,w,β,wS,_,r=>by cases hc
 |(i,fl)::l,pre,st,s,K,z,hD,h,hQ,listed,hdn,hc,hp,a,w,β,wS,hl,r=>by
  have hD':∀j∈l,∀o,al[j.1]? =some o->∀n,Wr al o n->D n:=λj hj=>hD j (by simp[hj])
  have hfull:=h
  simp only[bDk] at hc
  simp only[y7,aR] at h
  cases ho:al[i]? with
  |none=>rw[ho] at h;cases h
  |some o=>
   rw[ho] at h
   simp only at h
   have hDi:=hD (i,fl) (by simp) o ho
   cases hij:Nat.beq i j with
   |true=>
    have e:=ah hij
    subst e
    rw[hij] at hc
    simp only[ae,aa,cI] at hc
    have hfl:fl=false:=by simpa using hc.1
    subst hfl
    simp only[ab] at h
    cases hfa:aDs Y TI al (some i) s with
    |false=>rw[hfa] at h;cases h
    |true=>
     rw[hfa] at h
     simp only[ae] at h
     have hself:yQ (some i) i=true:=dn i
     rw[hself] at h
     simp only[ae] at h
     have ha:a0Y a0 i listed=true:=by
      unfold a0Y
      rw[show(a0 !=some i)=true from by simpa using hja];rfl
     refine jG hc.2.1 (by simp) λi' hi'=> ?_
     simp at hi';subst hi'
     exact aTw G ho ha hp h hl r λv s' w' β' wS' h1 h2 h3 h4=>
      aTx G hs l _ _ s' K z hD' h2 (λs2 a2 w2 β2 g1=>hQ s2 a2 w2 β2 ((h1.mono hDi).trans g1)) _ (hdn.set (by rw[hc.2.1];simp)) hc.2.2 (Ua ha hp) _ w' β' wS' h4 h3
   |false=>
    rw[hij] at hc
    simp only[ab] at hc
    have hnA:yQ (some j) i=false:=by
     show Nat.beq j i=false
     cases hh:Nat.beq j i with
     |false=>rfl
     |true=>have:=ah hh;subst this;rw[show Nat.beq j j=true from dn j] at hij;cases hij
    cases fl with
    |true=>
     simp only[ae,aa] at hc
     obtain⟨hr,hne⟩:=nX hc.1
     exact stepT G hs ho hdn hc.1 h hl.st (λhn=>hl.pre (hp.symm.trans hn)) r λv s' h1 h2 h3=>
      bEk G hs hP hj hja l pre st s' K z hD' h2 (λs2 a2 w2 β2 g1=>hQ s2 a2 w2 β2 ((h1.mono hDi).trans g1)) _ (hdn.set hr) hc.2 ((uY hne).trans hp) _ w β wS hl h3
    |false=>
     simp only[ab,aa] at hc
     simp only[ab,hnA] at h
     cases hfa:aDs Y TI al (some j) s with
     |false=>rw[hfa] at h;cases h
     |true=>
      rw[hfa] at h
      simp only[ae] at h
      obtain⟨hgj,hany,hok,hself⟩:=aHz hj hfa
      have hgi:al.toArray[j]? =some oj:=by simpa using hj
      have inT:i∈Region.ready .any al.toArray listed->wpOp P al.toArray (NoPanic Q) i (λa' w'=>(fJ a0 (listed.setIfInBounds i true)=true->Ext wS w')/\dJ P .any al.toArray a0 (NoPanic Q) (Ext wS) l.length (listed.setIfInBounds i true) a' w') a w:=λhir=>
       aTw G ho hc.2.1 hp h hl r λv s' w' β' wS' h1 h2 h3 h4=>
        bEk G hs hP hj hja l _ _ s' K z hD' h2 (λs2 a2 w2 β2 g1=>hQ s2 a2 w2 β2 ((h1.mono hDi).trans g1)) _ (hdn.set hir) hc.2.2 (Ua hc.2.1 hp) _ w' β' wS' h4 h3
      have early:j∈Region.ready .any al.toArray listed->aWa al.toArray a0 oj j ((i,false)::l) (listed.setIfInBounds j true)=true->wpOp P al.toArray (NoPanic Q) j (λa' w'=>(fJ a0 (listed.setIfInBounds j true)=true->Ext wS w')/\dJ P .any al.toArray a0 (NoPanic Q) (Ext wS) l.length (listed.setIfInBounds j true) a' w') a w:=λhjr hc1=>by
       obtain⟨blk,hF⟩:=aOq G r hok
       have hny:fJ a0 (listed.setIfInBounds j true)=pre:=(uY hja).trans hp
       have hbw:E.w0.heap.size<=w.heap.size:=r.hp.ext.size
       refine wpOp_step hgi λK' hK'=> ?_
       rw[cH (by simp[Region.wanted,hgj])]
       refine wpo (.inl (hF w)) (hK' _ _ ⟨λhn=>(hl.pre (hny.symm.trans hn)).trans (Ext.alloc _ _),?_⟩)
       have r1:bE Y.C (E.ahd w.heap.size blk hbw) s (a.put oj.dst (mkF oj.op w.heap.size)) (w.alloc blk) β:=(r.ahead hbw).aBY hany
       have hF':Flp P (a.put oj.dst (mkF oj.op w.heap.size)) oj blk:=hF.keep hself
       have hv':∀n,oj.dst=some n->(a.put oj.dst (mkF oj.op w.heap.size)).tmps.getD n undef=mkF oj.op w.heap.size:=λn hn=>by
        rw[hn]
        simp only[aMb,hn,aR] at hany
        have hlt:n<a.tmps.size:=by
         rw[r.tsz]
         cases hx:s.t[n]? with
         |none=>rw[hx] at hany;cases hany
         |some x=>exact lt_of_some hx
        simp only[Act.put]
        rw[vS _ _ _ _ _ hlt,cH rfl]
       have fin:=λst' wS' (hfull':y7 Y TI FZ al a0 kd ((i,false)::l) (some j) pre st' s K=some z) (hl':Lk E kd st' pre wS' (w.alloc blk))=>bEj (D:=D) (Q:=Q) G hs hP hj hgj hja ((i,false)::l) l.length pre st' s K z (by simp) hD hfull' hQ _ (hdn.set hjr) hc1 hny _ (w.alloc blk) β wS' hl' hF' hv' r1
       cases hkd:kd with
       |some p=>
        refine fin false wS ?_ ⟨hl.fr,λh=>(by cases h),λh=>(by rw[hkd] at h;cases h),λh=>(hl.pre h).trans (Ext.alloc _ _)⟩
        have hf:=hfull
        rw[hkd] at hf ⊢
        simp only[y7,aR,ho,ab,Bq,dp] at hf ⊢
        exact hf
       |none=>
        have hw:=hl.no hkd
        have hk':=fin st (w.alloc blk) hfull ⟨λn k h=>(by rw[hkd] at h;cases h),λ_=>rfl,λ_=>rfl,λ_=>Ext.refl _⟩
        cases hpp:pre with
        |true=>exact sD (λx hx=>((hl.pre hpp).trans (Ext.alloc _ _)).trans hx) _ _ _ _ hk'
        |false=>exact nU _ _ _ _ (hny.trans hpp) hk'
      have h1:=hc.1
      rw[cq,cI] at h1
      rcases h1 with h1|h1
      ·refine jG h1 (by simp) λi' hi'=> ?_
       simp at hi';subst hi'
       exact inT (by rw[h1];simp)
      ·rw[aa,cq,cI,cI] at h1
       have hmem:∀x,x∈Region.ready .any al.toArray listed↔x=i\/x=j:=λx=>by
        rcases h1.1 with e|e<;>rw[e]<;>simp[or_comm]
       exact jG rfl (λe=>by have:=(hmem i).2 (.inl rfl);rw[e] at this;simp at this) λi' hi'=>by
        rcases(hmem i').1 hi' with rfl|rfl
        ·exact inT hi'
        ·exact early hi' h1.2
end
end Go.EV
