import Derived.Test.YtjmlamaddedhlaaGreatDoorEVrtou
import Derived.Test.YtjmlamaddedhlaaGreatDoorVKatoj
/-
  THE EVALUATOR's KIT, twenty-second part: the state behind a join: its objects. Plain theorems over any program; the conditions stand in each.
-/
set_option linter.all false
namespace Go.EV
open Go.RowKit Go.VK
variable {U:Uni} {Y:Lay U} {P:Program} {g:GI} {E:Env U g}
def Dhd:{x:DI}->{xs:List DI}->Dat U (x::xs)->x.ty U
 |_,[],d=>d
 |_,_::_,d=>d.1
def Dtl:{x:DI}->{xs:List DI}->Dat U (x::xs)->Dat U xs
 |_,[],_=>()
 |_,_::_,d=>d.2
def jQ {s:St U}{x:DI}{xs:List DI}{d:Dat U (x::xs)}(h:gets Y s (x::xs)=some d):aN1 Y s x=some (Dhd d)/\gets Y s xs=some (Dtl d):=by
 cases xs with
 |nil=>exact⟨h,rfl⟩
 |cons x' xs=>
  simp only[gets] at h
  cases h1:aN1 Y s x with
  |none=>rw[h1] at h;cases h
  |some a=>
   cases h2:gets Y s (x'::xs) with
   |none=>rw[h1,h2] at h;cases h
   |some b=>rw[h1,h2] at h;have:=aj h;subst this;exact⟨rfl,rfl⟩
def oG {k:Nat}{x:DI}{xs:List DI}{d:Dat U (x::xs)}{o:List (EO U)}:aC2 k (x::xs) d o=aC2 k xs (Dtl d) (aF0 k x (Dhd d) o):=by
 cases xs with
 |nil=>rfl
 |cons=>rfl
def aMm {k n:Nat}{x:DI}{xs:List DI}{d:Dat U (x::xs)}{s:St U}:sets Y k n s (x::xs) d=sets Y k (nxt n x) (set1 Y k n s x (Dhd d)) xs (Dtl d):=by
 cases xs with
 |nil=>rfl
 |cons=>rfl
def Hg {k:Nat}:∀{l:List (Nat×Nat)} {o:List (EO U)},(Ew k l o).length=o.length
 |[],o=>rfl
 |x::l,o=>by
  have e:Ew k (x::l) o=match nth (Ew k l o) x.1 with|some ⟨.box T cs vs,_,_⟩=>upd (Ew k l o) x.1 ⟨.box T (upd cs x.2 .any) (upd vs x.2 k),k,k⟩|_=>Ew k l o:=rfl
  rw[e]
  split
  ·rw[bN,bq];exact Hg
  ·exact Hg
def sQ {k:Nat}{o:List (EO U)}{j:Nat}{e:EO U}(he:o[j]? =some e):∀(l:List (Nat×Nat)),∃e',(Ew k l o)[j]? =some e'/\((e.ob.aAW=false\/hasB j l=false)->e'=e)/\
  (∀T cs vs,e.ob= .box T cs vs->∃cs' vs',e'.ob= .box T cs' vs'/\cs'.length=cs.length/\vs'.length=vs.length/\(hasB j l=true->e'.rv=k/\e'.cv=k)/\
   ∀i,(aFz j i l=true->∀c,cs'[i]? =some c->c= .any)/\(aFz j i l=true->∀v,vs'[i]? =some v->v=k)/\(aFz j i l=false->cs'[i]? =cs[i]? /\vs'[i]? =vs[i]?))
 |[]=>⟨e,he,λ_=>rfl,λT cs vs h=>⟨cs,vs,h,rfl,rfl,λh=>(by cases h),λi=>⟨λh=>(by cases h),λh=>(by cases h),λ_=>⟨rfl,rfl⟩⟩⟩⟩
 |(b,p)::l=>by
  obtain⟨e1,h1,h2,h3⟩:=sQ he l
  have e0:Ew k ((b,p)::l) o=match nth (Ew k l o) b with|some ⟨.box T cs vs,_,_⟩=>upd (Ew k l o) b ⟨.box T (upd cs p .any) (upd vs p k),k,k⟩|_=>Ew k l o:=rfl
  have eB:hasB j ((b,p)::l)=cond (Nat.beq b j) true (hasB j l):=rfl
  have eA:∀i,aFz j i ((b,p)::l)=cond (Nat.beq b j&&Nat.beq p i) true (aFz j i l):=λ_=>rfl
  rw[e0,eB]
  simp only[eA]
  by_cases hb:b=j
  ·subst hb
   have hbb:Nat.beq b b=true:=da b
   rw[aP,h1,hbb]
   obtain⟨ob,rv,cv⟩:=e1
   cases ob with
   |box T1 cs1 vs1=>
    refine⟨⟨.box T1 (upd cs1 p .any) (upd vs1 p k),k,k⟩,by show(upd (Ew k l o) b _)[b]? =_;rw[bN,bg (lt_of_some h1)],λh=> ?_,λT cs vs h=> ?_⟩
    ·rcases h with h|h
     ·have:=h2 (.inl h);subst this;cases h
     ·cases h
    ·obtain⟨cs',vs',k1,k2,k3,k4,k5⟩:=h3 T cs vs h
     injection k1 with q1 q2 q3;subst q1;subst q2;subst q3
     refine⟨_,_,rfl,by rw[bN,bq,k2],by rw[bN,bq,k3],λ_=>⟨rfl,rfl⟩,λi=> ?_⟩
     by_cases hp:p=i
     ·subst hp
      have hpp:Nat.beq p p=true:=da p
      simp only[hpp,dl,ae]
      refine⟨λ_ c hc=> ?_,λ_ v hv=> ?_,λh=>by cases h⟩
      ·rw[bN] at hc
       have hl:p<cs1.length:=by have:=lt_of_some hc;simpa using this
       rw[bg hl] at hc;exact(aj hc).symm
      ·rw[bN] at hv
       have hl:p<vs1.length:=by have:=lt_of_some hv;simpa using this
       rw[bg hl] at hv;exact(aj hv).symm
     ·have hpp:Nat.beq p i=false:=by
       cases hq:Nat.beq p i with
       |false=>rfl
       |true=>exact absurd (ah hq) hp
      simp only[hpp,cT,ac]
      rw[bN,bN,bf hp,bf hp]
      exact k5 i
   |dead=>
    refine⟨_,h1,λh=> ?_,λT cs vs h=> ?_⟩
    ·refine h2 (.inl ?_)
     cases ho:e.ob with
     |box T cs vs=>obtain⟨_,_,k1,_⟩:=h3 T cs vs ho;cases k1
     |_=>rfl
    ·obtain⟨_,_,k1,_⟩:=h3 T cs vs h;cases k1
   |tree=>
    refine⟨_,h1,λh=> ?_,λT cs vs h=> ?_⟩
    ·refine h2 (.inl ?_)
     cases ho:e.ob with
     |box T cs vs=>obtain⟨_,_,k1,_⟩:=h3 T cs vs ho;cases k1
     |_=>rfl
    ·obtain⟨_,_,k1,_⟩:=h3 T cs vs h;cases k1
  ·have hbb:Nat.beq b j=false:=by
    cases hq:Nat.beq b j with
    |false=>rfl
    |true=>exact absurd (ah hq) hb
   simp only[hbb,eo,ac]
   refine⟨e1,?_,h2,h3⟩
   split
   ·rw[bN,bf hb];exact h1
   ·exact h1
def aMn {cs:List (Nat×Nat)}{k b:Nat}:∀{j:Nat} {vs:List Nat},bCt cs k b j vs=true->∀(i v:Nat),vs[i]? =some v->v<=k\/aFz b (j+i) cs=true
 |j,[],_,i,v,h=>by simp at h
 |j,x::vs,h,i,v,hv=>by
  simp only[bCt,aa,ck] at h
  cases i with
  |zero=>simp at hv;subst hv;exact h.1.imp ay id
  |succ i=>
   have:=aMn h.2 i v (by simpa using hv)
   rwa [show Nat.succ j+i=j+(i+1) by omega] at this
def aMo {cs:List (Nat×Nat)}{dd:List Nat}{k:Nat}:∀{i:Nat} {es es':List (EO U)},aSp cs dd k i es es'=true->∀(j:Nat) (e:EO U),es[j]? =some e->∃e',es'[j]? =some e'/\(e'.cv<=k\/(i+j)∈dd\/∃T c vs,e'.ob= .box T c vs/\hasB (i+j) cs=true/\∀(p v:Nat),vs[p]? =some v->v<=k\/aFz (i+j) p cs=true)
 |i,[],es',_,j,e,h=>by simp at h
 |i,x::es,[],h,j,e,he=>by cases h
 |i,x::es,y::es',h,j,e,he=>by
  simp only[aSp,aa,ck] at h
  cases j with
  |zero=>
   refine⟨y,rfl,?_⟩
   rcases h.1 with h1|h1|h1
   ·exact .inl (ay h1)
   ·exact .inr (.inl (kJ.1 h1))
   ·refine .inr (.inr ?_)
    obtain⟨ob,rv,cv⟩:=y
    cases ob with
    |box T c vs=>
     simp only[aa] at h1
     exact⟨T,c,vs,rfl,h1.1,λp v hv=>by have:=aMn h1.2 p v hv;rwa [bu] at this⟩
    |_=>cases h1
  |succ j=>
   obtain⟨e',q1,q2⟩:=aMo h.2 j e (by simpa using he)
   rw[show Nat.succ i+j=i+(j+1) by omega] at q2
   exact⟨e',by simpa using q1,q2⟩
def sg0 (dd:List Nat)(N:Nat):List (Option Nat):=(List.range N).map λj=>if j∈dd then none else some j
def aVb {dd:List Nat}{N:Nat}:(sg0 dd N).length=N:=by simp[sg0]
def aFa {dd:List Nat}{N j:Nat}{q:Option Nat}(h:(sg0 dd N)[j]? =some q):j<N/\((j∈dd/\q=none)\/(j∉dd/\q=some j)):=by
 have hl:j<N:=by have:=lt_of_some h;rwa [aVb] at this
 refine⟨hl,?_⟩
 rw[sg0,aE,cV hl] at h
 simp only[cx,ai] at h
 by_cases hd:j∈dd
 ·rw[cr hd] at h;exact .inl ⟨hd,h.symm⟩
 ·rw[cJ hd] at h;exact .inr ⟨hd,h.symm⟩
structure Inv (N M K k:Nat) (m:Mm U) (σ:List (Option Nat)) (o:List (EO U)):Prop where
 len:σ.length=o.length
 ge:N<=o.length
 inj:∀(j j' i:Nat),σ[j]? =some (some i)->σ[j']? =some (some i)->j=j'
 ver:∀(i:Nat) (e:EO U),o[i]? =some e->e.rv<=k/\e.cv<=k
 src:∀(j:Nat) (q:Option Nat) (e':EO U),σ[j]? =some q->o[j]? =some e'->Src N M K m q j e'
section
variable {C:Cod U} {b s:St U} {a a0:Act} {w w0:World} {β β0:List Tr} {D:Nat->Prop}
def aW.obd (r:aW C E b a0 w0 β0){j:Nat}{e:EO U}(h:b.m.o[j]? =some e):e.ob.bd b.m.o.length b.m.ns.length b.m.k:=by
 obtain⟨t,ht⟩:=r.hp.tr h
 have:=r.hp.ok j t e ht h
 generalize e.ob=x at this ⊢
 cases x with
 |box T cs vs=>obtain⟨_,b',vs',_,_,_,h4⟩:=this;exact h4.bd
 |_=>trivial
def inv0 (rb:aW C E b a0 w0 β0)(hag:Am b.m s.m){cs:List (Nat×Nat)}{dd:List Nat}(hc:aSp cs dd b.m.k 0 b.m.o s.m.o=true):
  Inv b.m.o.length b.m.ns.length b.m.k (Nat.succ b.m.k) s.m (sg0 dd b.m.o.length) (Ew (Nat.succ b.m.k) cs (Lh (Nat.succ b.m.k) dd b.m.o)):=by
 have hlen:(Ew (Nat.succ b.m.k) cs (Lh (Nat.succ b.m.k) dd b.m.o)).length=b.m.o.length:=by rw[Hg,Bq]
 refine⟨by rw[aVb,hlen],by rw[hlen];exact ak _,λj j' i h1 h2=> ?_,λj e' he'=> ?_,λj q e' hq he'=> ?_⟩
 ·obtain⟨_,h1⟩:=aFa h1
  obtain⟨_,h2⟩:=aFa h2
  rcases h1 with⟨_,h1⟩|⟨_,h1⟩
  ·cases h1
  ·rcases h2 with⟨_,h2⟩|⟨_,h2⟩
   ·cases h2
   ·exact(aj h1).symm.trans (aj h2)
 ·have hl:j<b.m.o.length:=by have:=lt_of_some he';rwa [hlen] at this
  by_cases hd:j∈dd
  ·obtain⟨e1,h1,h2,_⟩:=sQ (k:=Nat.succ b.m.k) (P7 (k:=Nat.succ b.m.k) hd hl) cs
   rw[he'] at h1;have:=aj h1;subst this
   rw[h2 (.inl rfl)];exact⟨ak _,ak _⟩
  ·have h0:=rO (k:=Nat.succ b.m.k) (o:=b.m.o) hd
   rw[ab hl] at h0
   have hv:=rb.hp.vers j _ (ab hl)
   obtain⟨e1,h1,h2,h3⟩:=sQ (k:=Nat.succ b.m.k) h0 cs
   rw[he'] at h1;have:=aj h1;subst this
   by_cases hk:(b.m.o[j]).ob.aAW=false\/hasB j cs=false
   ·rw[h2 hk];exact⟨Nat.le_succ_of_le hv.1,Nat.le_succ_of_le hv.2⟩
   ·cases ho:(b.m.o[j]).ob with
    |box T c vs=>
     obtain⟨_,_,_,_,_,h4,_⟩:=h3 T c vs ho
     have hB:hasB j cs=true:=by
      cases hh:hasB j cs with
      |true=>rfl
      |false=>exact absurd (.inr hh) hk
     obtain⟨q1,q2⟩:=h4 hB
     rw[q1,q2];exact⟨ak _,ak _⟩
    |_=>exact absurd (.inl (by rw[ho];rfl)) hk
 ·obtain⟨hl,hq⟩:=aFa hq
  rcases hq with⟨hd,rfl⟩|⟨hd,rfl⟩
  ·obtain⟨e1,h1,h2,_⟩:=sQ (k:=Nat.succ b.m.k) (P7 (k:=Nat.succ b.m.k) hd hl) cs
   rw[he'] at h1;have:=aj h1;subst this
   rw[h2 (.inl rfl)]
   exact .dead rfl ⟨db _,db _⟩
  ·have hb:b.m.o[j]? =some b.m.o[j]:=ab hl
   have h0:(Lh (Nat.succ b.m.k) dd b.m.o)[j]? =some b.m.o[j]:=by rw[rO hd];exact hb
   obtain⟨e1,h1,h2,h3⟩:=sQ (k:=Nat.succ b.m.k) h0 cs
   rw[he'] at h1;have:=aj h1;subst this
   obtain⟨es,hs1,hs2⟩:=aMo hc j _ hb
   rw[bu] at hs2
   obtain⟨am1,am2,am3⟩:=hag.o j _ es hb hs1
   by_cases hk:(b.m.o[j]).ob.aAW=false\/hasB j cs=false
   ·have he:=h2 hk
    rw[he]
    refine .keep rfl ?_ (rb.obd hb)
    rcases hs2 with h|h|⟨T,c,vs,h,h',_⟩
    ·rw[<-am1 h];exact hs1
    ·exact absurd h hd
    ·rcases hk with hk|hk
     ·rw[am2 (by rw[h];rfl)] at hk;cases hk
     ·rw[h'] at hk;cases hk
   ·have hB:hasB j cs=true:=by
     cases hh:hasB j cs with
     |true=>rfl
     |false=>exact absurd (.inr hh) hk
    cases ho:(b.m.o[j]).ob with
    |box T c vs=>
     obtain⟨cs',vs',k1,k2,k3,k4,k5⟩:=h3 T c vs ho
     obtain⟨q1,q2⟩:=k4 hB
     have hbl:c.length=vs.length:=rb.aBN (b:=j) (T:=T) (rv:=(b.m.o[j]).rv) (cv:=(b.m.o[j]).cv) (by rw[hb,<-ho])
     have hbd:=rb.obd hb
     rw[ho] at hbd
     have hv:b.m.k<e'.rv/\b.m.k<e'.cv:=by rw[q1,q2];exact⟨db _,db _⟩
     have cell:∀(cS:List (Lf U)),(∀(i:Nat),aFz j i cs=false->i<c.length->cS[i]? =c[i]?)->∀(i:Nat) (x:Lf U),cs'[i]? =some x->x= .any\/(cS[i]? =some x/\x.bd b.m.o.length b.m.ns.length b.m.k):=λcS hS i x hx=>by
      cases hA:aFz j i cs with
      |true=>exact .inl ((k5 i).1 hA x hx)
      |false=>
       have h5:=((k5 i).2.2 hA).1
       rw[hx] at h5
       have hil:i<c.length:=lt_of_some h5.symm
       exact .inr ⟨(hS i hA hil).trans h5.symm,hbd x (av h5.symm)⟩
     rcases hs2 with h|h|⟨T1,c1,vs1,h,_,h'⟩
     ·have e1:=am1 h
      exact .box rfl hs1 (by rw[e1];exact ho) k1 k2 (by rw[k2,k3,hbl]) (cell c (λ_ _ _=>rfl)) hv
     ·exact absurd h hd
     ·obtain⟨p1,p2,p3,p4⟩:=am3 T c vs T1 c1 vs1 ho h
      refine .box rfl hs1 (by rw[h,p1]) k1 (by rw[k2,p2]) (by rw[k2,k3,hbl]) (cell c1 (λi hA hil=> ?_)) hv
      have hvl:i<vs1.length:=by rw[p3,<-hbl];exact hil
      rcases h' i _ (ab hvl) with h''|h''
      ·exact(p4 i _ (ab hvl) h'').1
      ·rw[hA] at h'';cases h''
    |_=>exact absurd (.inl (by rw[ho];rfl)) hk
def sgm:List (Option Nat×Option Nat)->List (Option Nat)->List (Option Nat)
 |[],σ=>σ
 |(some i,x)::q,σ=>sgm q (σ.set i x)
 |(none,x)::q,σ=>sgm q (σ++[x])
def Plc (k:Nat)(σ:List (Option Nat))(o:List (EO U))(s:St U):Nat->List DI->Prop
 |_,[]=>True
 |n, .tr l i τ d::xs=>(∃v q e,lkp s l=some v/\qB s.m τ d v=some q/\σ[i]? =some q.1/\o[i]? =some e/\e.rv=k)/\Plc k σ o s n xs
 |n, .nt l τ d::xs=>(∃v q e,lkp s l=some v/\qB s.m τ d v=some q/\σ[n]? =some q.1/\o[n]? =some e/\e.rv=k)/\Plc k σ o s (Nat.succ n) xs
 |n,_::xs=>Plc k σ o s n xs
def Q4 {x:Option Nat×Option Nat}{q:List (Option Nat×Option Nat)}:vO (x::q)=(match x.2 with|some i=>i::vO q|none=>vO q):=by
 obtain⟨x1,x2⟩:=x
 cases x2<;>rfl
def aGf {m:Mm U}{N M K k:Nat}{τ:Nat}{d:Bool}{v:Sv U}{q:Option Nat×List (U.El τ)}(h:qB m τ d v=some q)(hk:K<k){j:Nat}:Src N M K m q.1 j ⟨.tree τ d q.2,k,k⟩:=by
 unfold qB at h
 split at h
 ·cases hb:Nat.ble 1 (U.K τ) with
  |false=>rw[hb] at h;cases h
  |true=>
   rw[hb] at h
   have:=aj h;subst this
   exact .nil rfl rfl (ay hb) ⟨hk,hk⟩
 ·rename_i i r
  rw[aP] at h
  split at h
  ·rename_i τ' d' l rv cv he
   cases hb:(Nat.beq rv r&&(d'|| !d)) with
   |false=>rw[hb] at h;cases h
   |true=>
    rw[hb] at h
    simp only[ae] at h
    cases hq:M9 τ τ' l with
    |none=>rw[hq] at h;cases h
    |some l'=>
     rw[hq] at h
     have:=aj h;subst this
     obtain⟨rfl,hl⟩:=kI hq
     have hl:=dx hl;subst hl
     simp only[aa,ck] at hb
     refine .tree rfl he rfl (λhd=> ?_) rfl ⟨hk,hk⟩
     rcases hb.2 with h|h
     ·exact h
     ·rw[hd] at h;cases h
  ·cases h
 ·cases h
def aZv {m:Mm U}{N M K k i:Nat}{τ:Nat}{d:Bool}{l:List (U.El τ)}(h:bGm m i τ d=some l)(hk:K<k):Src N M K m (some i) i ⟨.tree τ d l,0,k⟩:=by
 unfold bGm at h
 rw[aP] at h
 split at h
 ·rename_i τ' d' l' rv cv he
  cases hb:(Nat.beq rv 0&&(d'|| !d)) with
  |false=>rw[hb] at h;cases h
  |true=>
   rw[hb] at h
   simp only[ae] at h
   obtain⟨rfl,hl⟩:=kI h
   have hl:=dx hl;subst hl
   simp only[aa,ck] at hb
   refine .ti rfl he rfl (λhd=> ?_) rfl (ah hb.1).symm hk
   rcases hb.2 with h|h
   ·exact h
   ·rw[hd] at h;cases h
 ·cases h
def Inv.set {N M K k:Nat}{m:Mm U}{σ:List (Option Nat)}{o:List (EO U)}(h:Inv N M K k m σ o){i:Nat}{q:Option Nat}{e:EO U}(hq:∀x,q=some x->∀j:Nat,σ[j]? ≠some (some x))(hv:e.rv<=k/\e.cv<=k)(hs:Src N M K m q i e):Inv N M K k m (σ.set i q) (o.set i e):=by
 refine⟨by simp[h.len],by simpa using h.ge,λj j' x h1 h2=> ?_,λj e' he=> ?_,λj q' e' h1 h2=> ?_⟩
 ·by_cases hj:i=j
  ·by_cases hj':i=j'
   ·exact hj.symm.trans hj'
   ·subst hj
    rw[bf hj'] at h2
    have hl:i<σ.length:=by have:=lt_of_some h1;simpa using this
    rw[bg hl] at h1
    exact absurd h2 (hq x (aj h1) j')
  ·rw[bf hj] at h1
   by_cases hj':i=j'
   ·subst hj'
    have hl:i<σ.length:=by have:=lt_of_some h2;simpa using this
    rw[bg hl] at h2
    exact absurd h1 (hq x (aj h2) j)
   ·rw[bf hj'] at h2;exact h.inj j j' x h1 h2
 ·by_cases hj:i=j
  ·subst hj
   have hl:i<o.length:=by have:=lt_of_some he;simpa using this
   rw[bg hl] at he
   have:=aj he;subst this;exact hv
  ·rw[bf hj] at he;exact h.ver j e' he
 ·by_cases hj:i=j
  ·subst hj
   have hl:i<o.length:=by have:=lt_of_some h2;simpa using this
   rw[bg (by rw[h.len];exact hl)] at h1
   rw[bg hl] at h2
   have:=aj h1;subst this
   have:=aj h2;subst this
   exact hs
  ·rw[bf hj] at h1 h2;exact h.src j q' e' h1 h2
def Inv.app {N M K k:Nat}{m:Mm U}{σ:List (Option Nat)}{o:List (EO U)}(h:Inv N M K k m σ o){q:Option Nat}{e:EO U}(hq:∀x,q=some x->∀j:Nat,σ[j]? ≠some (some x))(hv:e.rv<=k/\e.cv<=k)(hs:Src N M K m q o.length e):Inv N M K k m (σ++[q]) (o++[e]):=by
 have hσ:∀(j:Nat) (x:Option Nat),(σ++[q])[j]? =some x->(σ[j]? =some x)\/(j=o.length/\x=q):=λj x hx=>by
  by_cases hl:j<σ.length
  ·rw[ao hl] at hx;exact .inl hx
  ·rw[au (by omega)] at hx
   cases hz:j-σ.length with
   |zero=>rw[hz] at hx;simp at hx;exact .inr ⟨by have:=h.len;omega,hx.symm⟩
   |succ n=>rw[hz] at hx;simp at hx
 have ho:∀(j:Nat) (x:EO U),(o++[e])[j]? =some x->(o[j]? =some x)\/(j=o.length/\x=e):=λj x hx=>by
  by_cases hl:j<o.length
  ·rw[ao hl] at hx;exact .inl hx
  ·rw[au (by omega)] at hx
   cases hz:j-o.length with
   |zero=>rw[hz] at hx;simp at hx;exact .inr ⟨by omega,hx.symm⟩
   |succ n=>rw[hz] at hx;simp at hx
 refine⟨by simp[h.len],by have:=h.ge;simp;omega,λj j' x h1 h2=> ?_,λj e' he=> ?_,λj q' e' h1 h2=> ?_⟩
 ·rcases hσ j _ h1 with h1|⟨e1,h1⟩<;>rcases hσ j' _ h2 with h2|⟨e2,h2⟩
  ·exact h.inj j j' x h1 h2
  ·exact absurd h1 (hq x h2.symm j)
  ·exact absurd h2 (hq x h1.symm j')
  ·exact e1.trans e2.symm
 ·rcases ho j _ he with h1|⟨_,rfl⟩
  ·exact h.ver j e' h1
  ·exact hv
 ·rcases hσ j _ h1 with h1|⟨e1,rfl⟩<;>rcases ho j _ h2 with h2|⟨e2,rfl⟩
  ·exact h.src j q' e' h1 h2
  ·have:=lt_of_some h1;have:=h.len;omega
  ·have:=lt_of_some h2;omega
  ·subst e1;exact hs
def Plc.mono {k:Nat}{σ σ':List (Option Nat)}{o o':List (EO U)}{s:St U}:∀{xs:List DI} {n:Nat},(∀i∈fE xs,o'[i]? =o[i]? /\σ'[i]? =σ[i]?)->(∀i,n<=i->o'[i]? =o[i]? /\σ'[i]? =σ[i]?)->Plc k σ o s n xs->Plc k σ' o' s n xs
 |[],_,_,_,h=>h
 | .tr l i τ d::xs,n,h1,h2,⟨⟨v,q,e,a1,a2,a3,a4,a5⟩,h⟩=>by
  obtain⟨b1,b2⟩:=h1 i (by simp[fE])
  exact⟨⟨v,q,e,a1,a2,b2.trans a3,b1.trans a4,a5⟩,Plc.mono (λj hj=>h1 j (by simp[fE,hj])) h2 h⟩
 | .nt l τ d::xs,n,h1,h2,⟨⟨v,q,e,a1,a2,a3,a4,a5⟩,h⟩=>by
  obtain⟨b1,b2⟩:=h2 n (ak _)
  exact⟨⟨v,q,e,a1,a2,b2.trans a3,b1.trans a4,a5⟩,Plc.mono (λj hj=>h1 j (by simpa[fE] using hj)) (λi hi=>h2 i (by omega)) h⟩
 | .ti i τ d::xs,n,h1,h2,h=>Plc.mono (xs:=xs) (n:=n) (λj hj=>h1 j (by simp[fE,hj])) h2 h
 | .dat l kd::xs,n,h1,h2,h=>Plc.mono (xs:=xs) (n:=n) (λj hj=>h1 j (by simpa[fE] using hj)) h2 h
 | .nat l::xs,n,h1,h2,h=>Plc.mono (xs:=xs) (n:=n) (λj hj=>h1 j (by simpa[fE] using hj)) h2 h
def yP {N M K k:Nat}{s:St U}(hk:K<k):∀(xs:List DI) (q:List (Option Nat×Option Nat)) (d:Dat U xs) (σ:List (Option Nat)) (o:List (EO U)),Xi s xs=some q->gets Y s xs=some d->Inv N M K k s.m σ o->(∀i∈vO q,∀j:Nat,σ[j]? ≠some (some i))->(vO q).Nodup->(∀i∈fE xs,i<o.length)->(fE xs).Nodup->
  Inv N M K k s.m (sgm q σ) (aC2 k xs d o)/\Plc k (sgm q σ) (aC2 k xs d o) s o.length xs/\(∀j,j<o.length->j∉fE xs->(aC2 k xs d o)[j]? =o[j]? /\(sgm q σ)[j]? =σ[j]?)
 |[],q,d,σ,o,hq,_,hI,_,_,_,_=>by
  have:=aj hq;subst this
  exact⟨hI,trivial,λ_ _ _=>⟨rfl,rfl⟩⟩
 | .dat l kd::xs,q,d,σ,o,hq,hg,hI,h1,h2,h3,h4=>by
  rw[oG]
  exact yP hk xs q (Dtl d) σ o hq (jQ hg).2 hI h1 h2 h3 h4
 | .nat l::xs,q,d,σ,o,hq,hg,hI,h1,h2,h3,h4=>by
  rw[oG]
  exact yP hk xs q (Dtl d) σ o hq (jQ hg).2 hI h1 h2 h3 h4
 | .ti i τ b::xs,q,d,σ,o,hq,hg,hI,h1,h2,h3,h4=>by
  obtain⟨g1,g2⟩:=jQ hg
  simp only[Xi] at hq
  simp only[aN1] at g1
  cases hr:Xi s xs with
  |none=>rw[hr] at hq;cases hq
  |some r=>
   rw[hr] at hq
   have:=aj hq;subst this
   rw[oG]
   have hi:i<o.length:=h3 i (by simp[fE])
   have e1:aF0 k (.ti i τ b) (Dhd d) o=o.set i ⟨.tree τ b (Dhd d),0,k⟩:=bN _ _ _
   rw[e1]
   rw[Q4] at h1 h2
   simp only at h1 h2
   have hI':=hI.set (i:=i) (q:=some i) (e:=⟨.tree τ b (Dhd d),0,k⟩) (λx hx j=>h1 x (by rw[aj hx];simp) j) ⟨cn _,ak _⟩ (aZv g1 hk)
   obtain⟨n1,n2⟩:=cl.1 (show(i::fE xs).Nodup from h4)
   have hnx:∀x∈vO r,∀j:Nat,(σ.set i (some i))[j]? ≠some (some x):=λx hx j hj=>by
    by_cases hij:i=j
    ·subst hij
     rw[bg (by rw[hI.len];exact hi)] at hj
     have hj:=aj (aj hj)
     subst hj
     exact(cl.1 h2).1 hx
    ·rw[bf hij] at hj
     exact h1 x (by simp[hx]) j hj
   obtain⟨p1,p2,p3⟩:=yP hk xs r (Dtl d) (σ.set i (some i)) _ hr g2 hI' hnx (cl.1 h2).2 (λj hj=>by rw[bq];exact h3 j (by simp[fE,hj])) n2
   rw[bq] at p2 p3
   refine⟨p1,p2,λj hj hjn=> ?_⟩
   have hjn:j≠i/\j∉fE xs:=by simpa[fE] using hjn
   obtain⟨q1,q2⟩:=p3 j hj hjn.2
   exact⟨by rw[q1,bf (Ne.symm hjn.1)],by show(sgm r (σ.set i (some i)))[j]? =_;rw[q2,bf (Ne.symm hjn.1)]⟩
 | .tr l i τ b::xs,q,d,σ,o,hq,hg,hI,h1,h2,h3,h4=>by
  obtain⟨g1,g2⟩:=jQ hg
  simp only[Xi] at hq
  simp only[aN1] at g1
  cases hv:lkp s l with
  |none=>rw[hv] at hq;cases hq
  |some v=>
   rw[hv] at hq g1
   simp only at hq g1
   cases ht:qB s.m τ b v with
   |none=>rw[ht] at hq;cases hq
   |some t=>
    rw[ht] at hq g1
    simp only at hq g1
    cases hr:Xi s xs with
    |none=>rw[hr] at hq;cases hq
    |some r=>
     rw[hr] at hq
     have:=aj hq;subst this
     have hd:t.2=Dhd d:=aj g1
     rw[oG]
     have hi:i<o.length:=h3 i (by simp[fE])
     have e1:aF0 k (.tr l i τ b) (Dhd d) o=o.set i ⟨.tree τ b t.2,k,k⟩:=by rw[hd];exact bN _ _ _
     rw[e1]
     rw[Q4] at h1 h2
     have hsub:∀x∈vO r,x∈(match t.1 with|some i=>i::vO r|none=>vO r):=λx hx=>by cases t.1<;>simp[hx]
     have hI':=hI.set (i:=i) (q:=t.1) (e:=⟨.tree τ b t.2,k,k⟩) (λx hx j=>h1 x (by simp only[hx];simp) j) ⟨ak _,ak _⟩ (aGf ht hk)
     obtain⟨n1,n2⟩:=cl.1 (show(i::fE xs).Nodup from h4)
     have hnx:∀x∈vO r,∀j:Nat,(σ.set i t.1)[j]? ≠some (some x):=λx hx j hj=>by
      by_cases hij:i=j
      ·subst hij
       rw[bg (by rw[hI.len];exact hi)] at hj
       have hj:=aj hj
       simp only[hj] at h2
       exact(cl.1 h2).1 hx
      ·rw[bf hij] at hj
       exact h1 x (hsub x hx) j hj
     have hnd:(vO r).Nodup:=by
      cases ht1:t.1 with
      |none=>simp only[ht1] at h2;exact h2
      |some x=>simp only[ht1] at h2;exact(cl.1 h2).2
     obtain⟨p1,p2,p3⟩:=yP hk xs r (Dtl d) (σ.set i t.1) _ hr g2 hI' hnx hnd (λj hj=>by rw[bq];exact h3 j (by simp[fE,hj])) n2
     rw[bq] at p2 p3
     refine⟨p1,⟨⟨v,t,⟨.tree τ b t.2,k,k⟩,hv,ht,?_,?_,rfl⟩,p2⟩,λj hj hjn=> ?_⟩
     ·show(sgm r (σ.set i t.1))[i]? =_
      rw[(p3 i hi n1).2,bg (by rw[hI.len];exact hi)]
     ·rw[(p3 i hi n1).1,bg hi]
     ·have hjn:j≠i/\j∉fE xs:=by simpa[fE] using hjn
      obtain⟨q1,q2⟩:=p3 j hj hjn.2
      exact⟨by rw[q1,bf (Ne.symm hjn.1)],by show(sgm r (σ.set i t.1))[j]? =_;rw[q2,bf (Ne.symm hjn.1)]⟩
 | .nt l τ b::xs,q,d,σ,o,hq,hg,hI,h1,h2,h3,h4=>by
  obtain⟨g1,g2⟩:=jQ hg
  simp only[Xi] at hq
  simp only[aN1] at g1
  cases hv:lkp s l with
  |none=>rw[hv] at hq;cases hq
  |some v=>
   rw[hv] at hq g1
   simp only at hq g1
   cases ht:qB s.m τ b v with
   |none=>rw[ht] at hq;cases hq
   |some t=>
    rw[ht] at hq g1
    simp only at hq g1
    cases hr:Xi s xs with
    |none=>rw[hr] at hq;cases hq
    |some r=>
     rw[hr] at hq
     have:=aj hq;subst this
     have hd:t.2=Dhd d:=aj g1
     rw[oG]
     have e1:aF0 k (.nt l τ b) (Dhd d) o=o++[⟨.tree τ b t.2,k,k⟩]:=by rw[hd];rfl
     rw[e1]
     rw[Q4] at h1 h2
     have hsub:∀x∈vO r,x∈(match t.1 with|some i=>i::vO r|none=>vO r):=λx hx=>by cases t.1<;>simp[hx]
     have hI':=hI.app (q:=t.1) (e:=⟨.tree τ b t.2,k,k⟩) (λx hx j=>h1 x (by simp only[hx];simp) j) ⟨ak _,ak _⟩ (aGf ht hk)
     have n2:(fE xs).Nodup:=h4
     have hol:(σ++[t.1])[o.length]? =some t.1:=by rw[<-hI.len];simp
     have hnx:∀x∈vO r,∀j:Nat,(σ++[t.1])[j]? ≠some (some x):=λx hx j hj=>by
      by_cases hl:j<σ.length
      ·rw[ao hl] at hj
       exact h1 x (hsub x hx) j hj
      ·rw[au (by omega)] at hj
       cases hz:j-σ.length with
       |zero=>
        rw[hz] at hj
        have hj:t.1=some x:=by simpa using hj
        simp only[hj] at h2
        exact(cl.1 h2).1 hx
       |succ n=>rw[hz] at hj;simp at hj
     have hnd:(vO r).Nodup:=by
      cases ht1:t.1 with
      |none=>simp only[ht1] at h2;exact h2
      |some x=>simp only[ht1] at h2;exact(cl.1 h2).2
     obtain⟨p1,p2,p3⟩:=yP hk xs r (Dtl d) (σ++[t.1]) _ hr g2 hI' hnx hnd (λj hj=>by have:=h3 j (by simpa[fE] using hj);simp;omega) n2
     rw[show(o++[(⟨.tree τ b t.2,k,k⟩:EO U)]).length=Nat.succ o.length by simp] at p2 p3
     have n1:o.length∉fE xs:=λhh=>by have:=h3 _ (show o.length∈fE (.nt l τ b::xs) from hh);omega
     refine⟨p1,⟨⟨v,t,⟨.tree τ b t.2,k,k⟩,hv,ht,?_,?_,rfl⟩,p2⟩,λj hj hjn=> ?_⟩
     ·show(sgm r (σ++[t.1]))[o.length]? =_
      rw[(p3 _ (db _) n1).2,hol]
     ·rw[(p3 _ (db _) n1).1];simp
     ·obtain⟨q1,q2⟩:=p3 j (Nat.lt_succ_of_lt hj) hjn
      refine⟨by rw[q1,ao hj],?_⟩
      show(sgm r (σ++[t.1]))[j]? =_
      rw[q2,ao (by rw[hI.len];exact hj)]
end
end Go.EV

namespace Go.EV
open Go.RowKit Go.VK
variable {U:Uni} {Y:Lay U} {P:Program} {g:GI} {E:Env U g}
section aCW
def aZw {a n:Nat}{K:List (Sv U)->List (Sv U)}(hK:K []=[]):∀{l:List (Sv U)},(aSr a K l)[n]? =if n<a then l[n]? else(K (l.drop a))[n-a]? :=by
 induction a generalizing n with
 |zero=>intro l;rfl
 |succ a ih=>
  intro l
  cases l with
  |nil=>
   have e:aSr (a+1) K ([]:List (Sv U))=[]:=rfl
   rw[e];simp[hK]
  |cons x l=>
   have e:aSr (a+1) K (x::l)=x::aSr a K l:=rfl
   rw[e]
   cases n with
   |zero=>simp
   |succ n=>simp only[dq,ih,jg,fY,gx]
def aZx {a n:Nat}{K:List (Sv U)->List (Sv U)}(hK:K []=[]):∀{l:List (Sv U)},(aP2 a K l)[n]? =if n<a then(l[n]?).map (λ_=>Sv.l .any) else(K (l.drop a))[n-a]? :=by
 induction a generalizing n with
 |zero=>intro l;rfl
 |succ a ih=>
  intro l
  cases l with
  |nil=>
   have e:aP2 (a+1) K ([]:List (Sv U))=[]:=rfl
   rw[e];simp[hK]
  |cons x l=>
   have e:aP2 (a+1) K (x::l)=Sv.l .any::aP2 a K l:=rfl
   rw[e]
   cases n with
   |zero=>simp
   |succ n=>simp only[dq,ih,jg,fY,gx]
def aOj:∀{ws:List (Nat×Nat)},wip ws ([]:List (Sv U))=[]
 |[]=>rfl
 |(a,b)::r=>by
  have e:wip ((a,b)::r) ([]:List (Sv U))=aSr a (aP2 b (wip r)) []:=rfl
  rw[e]
  cases a with
  |succ a=>rfl
  |zero=>
   cases b with
   |succ b=>rfl
   |zero=>exact aOj (ws:=r)
def aZy:∀{ws:List (Nat×Nat)} {p n:Nat},Bd ws p n=true->p<=n
 |[],p,n,h=>by cases h
 |(a,b)::r,p,n,h=>by
  simp only[Bd,ck,aa] at h
  rcases h with⟨h,_⟩|h
  ·have:=ay h;omega
  ·have:=aZy h;omega
def aFb:∀{ws:List (Nat×Nat)} {p n:Nat} {l:List (Sv U)},(wip ws l)[n]? =if Bd ws p (p+n)=true then(l[n]?).map (λ_=>Sv.l .any) else l[n]?
 |[],p,n,l=>by simp[Bd,wip]
 |(a,b)::r,p,n,l=>by
  have hb:(aP2 b (wip r) ([]:List (Sv U)))=[]:=by
   cases b with
   |succ b=>rfl
   |zero=>exact aOj (ws:=r)
  have e:wip ((a,b)::r) l=aSr a (aP2 b (wip r)) l:=rfl
  rw[e,aZw hb]
  simp only[Bd,ck,aa]
  by_cases h1:n<a
  ·rw[cr h1,cJ]
   rintro(⟨h,_⟩|h)
   ·have:=ay h;omega
   ·have:=aZy h;omega
  ·rw[cJ h1,aZx aOj]
   by_cases h2:n-a<b
   ·rw[cr h2,cr]
    ·rw[dn,show a+(n-a)=n by omega]
    ·exact .inl ⟨dk (by omega),dk (by omega)⟩
   ·rw[cJ h2,aFb (ws:=r) (p:=p+a+b)]
    rw[show p+a+b+(n-a-b)=p+n by omega]
    simp only[dn,show a+(b+(n-a-b))=n by omega]
    by_cases h3:Bd r (p+a+b) (p+n)=true
    ·rw[cr h3,cr (.inr h3)]
    ·rw[cJ h3,cJ]
     rintro(⟨_,h⟩|h)
     ·have:=ay h;omega
     ·exact h3 h
def aVc {ws:List (Nat×Nat)}{l:List (Sv U)}:(wip ws l).length=l.length:=by
 have key:∀n,n<(wip ws l).length↔n<l.length:=λn=>by
  have h:=aFb (ws:=ws) (p:=0) (n:=n) (l:=l)
  constructor
  ·intro hn
   rw[ab hn] at h
   refine Nat.lt_of_not_le λhh=> ?_
   rw[cU hh] at h
   split at h<;>cases h
  ·intro hn
   rw[ab hn] at h
   refine Nat.lt_of_not_le λhh=> ?_
   rw[cU hh] at h
   split at h<;>cases h
 have h1:=key (wip ws l).length
 have h2:=key l.length
 omega
end aCW
def LV (a:Act)(w:World)(β:List Tr)(o:List (EO U)):Lo->Value->Prop
 | .s n,v=>v=a.tmps.getD n undef
 | .c b j,v=>∀e,o[b]? =some e->e.ob.aAW=true->∃t blk vals T,β[b]? =some t/\t.b=some blk/\w.heap[blk]? =some (.cells vals T (0,0))/\vals[j]? =some v
section
variable {C:Cod U} {b s u:St U} {a a0:Act} {w w0:World} {β β0:List Tr}
def Xv (r:aW C E s a w β){l:Lo}{x:Sv U}(h:lkp s l=some x):∃v,LV a w β s.m.o l v/\x.mean C w (E.X β) β s.m v:=by
 cases l with
 |s n=>exact⟨_,rfl,r.tm n x (by rw[<-aP];exact h)⟩
 |c b j=>
  simp only[lkp,aP] at h
  split at h
  ·rename_i T cs vs rv cv he
   split at h
   ·rename_i y hy
    have:=aj h;subst this
    obtain⟨t,ht⟩:=r.hp.tr he
    obtain⟨h0,blk,vals,k1,k2,k3,k4⟩:=r.hp.ok b t _ ht he
    have hjl:j<vals.length:=by rw[k4.1];exact lt_of_some hy
    exact⟨vals[j],λe _ _=>⟨t,blk,vals.toArray,T,ht,k1,k3,by simp[hjl]⟩,k4.2 j _ _ (ab hjl) hy⟩
   ·cases h
  ·cases h
structure Tp (C:Cod U) (E:Env U g) (a:Act) (w:World) (u:St U) (β:List Tr) (u':St U) (β':List Tr):Prop where
 own:∀(i r:Nat) (v:Value),(Lf.own i r:Lf U).mean C w (E.X β) β u.m v->(Lf.own i r:Lf U).mean C w (E.X β') β' u'.m v
 x:∀b,E.X β' b->E.X β b
 lv:∀(l:Lo) (v:Value),LV a w β u.m.o l v->LV a w β' u'.m.o l v
def Tp.refl:Tp C E a w u β u β:=⟨λ_ _ _ h=>h,λ_ h=>h,λ_ _ h=>h⟩
def aW.aBI (r:aW C E u a w β){l:Lo}{v:Value}(hl:LV a w β u.m.o l v){x:Sv U}(hx:x.mean C w (E.X β) β u.m v):∃β',aW C E (EV.aBI u x l) a w β'/\Tp C E a w u β (EV.aBI u x l) β':=by
 cases l with
 |s n=>
  refine⟨β,r.set (n:=n) (x:=x) ?_,⟨λ_ _ _ h=>h,λ_ h=>h,λ_ _ h=>h⟩⟩
  rw[<-(show v=a.tmps.getD n undef from hl)];exact hx
 |c b j=>
  unfold EV.aBI
  simp only[aP]
  split
  ·rename_i T cs vs rv cv y he
   obtain⟨t,blk,vals,T',h1,h2,h3,h4⟩:=hl _ he rfl
   obtain⟨h0,blk',vals',k1,k2,k3,k4⟩:=r.hp.ok b t _ h1 he
   rw[h2] at k1
   have:=aj k1;subst this
   rw[h3] at k3
   have:=aj k3
   injection this with q1 q2 q3;subst q1;subst q2
   have hvv:vals'[j]? =some v:=by simpa using h4
   obtain⟨β',r',hb',ev⟩:=r.turn (i:=b) (J:=[]) (t':=t) (w':=w) (ob:= .box T' (upd cs j y) (upd vs j (Nat.succ u.m.k))) (rv:=rv) he h1 (by simp) (ak _) rfl rfl rfl (λ_ _ _=>rfl)
    (λbb hb=>⟨(r.hp.new b t bb h1 hb).2, .inr (.inl hb)⟩) (r.hp.nd b t h1) (.inl ⟨rfl,rfl⟩) (λ_=>⟨rfl,rfl⟩)
    (λβ' m' ev=>by
     refine⟨by rw[bN,bN,bq,bq,h0],blk,vals',h2,k2,h3,by rw[k4.1,bN,bq],λi v' c p q=> ?_⟩
     rw[bN] at q
     by_cases hij:j=i
     ·subst hij
      have hl:j<cs.length:=by have:=lt_of_some q;simpa using this
      rw[bg hl] at q
      have:=aj q;subst this
      rw[hvv] at p
      have:=aj p;subst this
      exact Lf.aAS ev hx
     ·rw[bf hij] at q
      exact Lf.aAS ev (k4.2 i v' c p q))
   refine⟨β',r',⟨λi q v' h=>Lf.aAS ev h,λbb hb=>ev.hX bb (Hp.aBW r'.hp bb hb) hb,λl v' h=> ?_⟩⟩
   cases l with
   |s n=>exact h
   |c b' j'=>
    intro e' he' hbx
    have hlt:b'<u.m.o.length:=by
     have:=lt_of_some he'
     have hl:(upd u.m.o b (⟨.box T' (upd cs j y) (upd vs j (Nat.succ u.m.k)),rv,Nat.succ u.m.k⟩:EO U)).length=u.m.o.length:=by rw[bN,bq]
     have h2:b'<(upd u.m.o b (⟨.box T' (upd cs j y) (upd vs j (Nat.succ u.m.k)),rv,Nat.succ u.m.k⟩:EO U)).length:=this
     rwa [hl] at h2
    have hb0:u.m.o[b']? =some u.m.o[b']:=ab hlt
    obtain⟨t0,ht0⟩:=r.hp.tr hb0
    obtain⟨e1,t1,g1,g2,_,_,g3⟩:=ev.ho b' _ t0 hlt hb0 ht0
    have:e1=e':=aj (g1.symm.trans he')
    subst this
    obtain⟨p1,p2⟩:=g3 hbx
    obtain⟨t2,blk2,vals2,T2,z1,z2,z3,z4⟩:=h _ hb0 p1
    rw[ht0] at z1
    have:=aj z1;subst this
    exact⟨t1,blk2,vals2,T2,g2,p2.trans z2,z3,z4⟩
  ·exact⟨β,r,Tp.refl⟩
def IF1 (Y:Lay U)(E:Env U g)(k:Nat)(u:St U)(a:Act)(w:World)(β:List Tr)(n:Nat):(x:DI)->x.ty U->Prop
 | .dat l kd,d=>∃v,LV a w β u.m.o l v/\Rd w (E.X β) [] v (rQ (Xh Y kd d))
 | .nat l,i=>∃v,LV a w β u.m.o l v/\∃j:Nat,j=i/\v= .int .i64 (j:Int)/\(j:Int)<=9223372036854775807
 | .tr l i _ _,_=>∃v,LV a w β u.m.o l v/\(Lf.own i k:Lf U).mean Y.C w (E.X β) β u.m v
 | .nt l _ _,_=>∃v,LV a w β u.m.o l v/\(Lf.own n k:Lf U).mean Y.C w (E.X β) β u.m v
 | .ti _ _ _,_=>True
def IF (Y:Lay U)(E:Env U g)(k:Nat)(u:St U)(a:Act)(w:World)(β:List Tr):Nat->(xs:List DI)->Dat U xs->Prop
 |_,[],_=>True
 |n,x::xs,d=>IF1 Y E k u a w β n x (Dhd d)/\IF Y E k u a w β (nxt n x) xs (Dtl d)
def IF1.tp {k n:Nat}{u':St U}{β':List Tr}(h:Tp Y.C E a w u β u' β'){x:DI}{d:x.ty U}(hf:IF1 Y E k u a w β n x d):IF1 Y E k u' a w β' n x d:=by
 cases x with
 |dat l kd=>obtain⟨v,h1,h2⟩:=hf;exact⟨v,h.lv l v h1,h2.conv (ak _) (λb _=>h.x b) (λ_ _ _ h=>h) (λ_ _ h=>h)⟩
 |nat l=>obtain⟨v,h1,h2⟩:=hf;exact⟨v,h.lv l v h1,h2⟩
 |tr l i τ b=>obtain⟨v,h1,h2⟩:=hf;exact⟨v,h.lv l v h1,h.own _ _ v h2⟩
 |nt l τ b=>obtain⟨v,h1,h2⟩:=hf;exact⟨v,h.lv l v h1,h.own _ _ v h2⟩
 |ti i τ b=>trivial
def IF.tp {k:Nat}{u':St U}{β':List Tr}(h:Tp Y.C E a w u β u' β'):∀{xs:List DI} {n:Nat} {d:Dat U xs},IF Y E k u a w β n xs d->IF Y E k u' a w β' n xs d
 |[],_,_,_=>trivial
 |x::xs,n,d,⟨h1,h2⟩=>⟨h1.tp h,IF.tp h h2⟩
def aS6 (r:aW Y.C E u a w β){k n:Nat}{x:DI}{d:x.ty U}(h:IF1 Y E k u a w β n x d):∃β',aW Y.C E (set1 Y k n u x d) a w β'/\Tp Y.C E a w u β (set1 Y k n u x d) β':=by
 cases x with
 |dat l kd=>
  obtain⟨v,h1,h2⟩:=h
  exact r.aBI h1 (oF (Xt aOg h2 (.inl λ_ h=>h)))
 |nat l=>
  obtain⟨v,h1,j,rfl,h2,h3⟩:=h
  have r1:aW Y.C E ⟨u.t,⟨u.m.o,u.m.k,u.m.ns++[((⟨j,false⟩:Nat×Bool))]⟩,u.fr⟩ a w β:=r.aCL (λa' i f h=>⟨f,by rw[ao (lt_of_some h)];exact h⟩) (λa' i h=>by
   by_cases hl:a'<u.m.ns.length
   ·rw[ao hl] at h;exact r.hp.cnt a' i h
   ·rw[au (by omega)] at h
    cases hq:a'-u.m.ns.length with
    |zero=>rw[hq] at h;simp at h
    |succ q=>rw[hq] at h;simp at h)
  obtain⟨β',q1,q2⟩:=r1.aBI (l:=l) (v:=v) h1 (x:= .l (.nat (len u.m.ns))) ⟨j,false,by rw[bA];simp,h2,h3⟩
  exact⟨β',q1,⟨λi q v h=>q2.own i q v h,q2.x,λl v h=>q2.lv l v h⟩⟩
 |tr l i τ b=>
  obtain⟨v,h1,h2⟩:=h
  exact r.aBI h1 (x:= .l (.own i k)) h2
 |nt l τ b=>
  obtain⟨v,h1,h2⟩:=h
  exact r.aBI h1 (x:= .l (.own n k)) h2
 |ti i τ b=>exact⟨β,r,Tp.refl⟩
def aGg {k:Nat}:∀(xs:List DI) {u:St U} {β:List Tr} {n:Nat} {d:Dat U xs},aW Y.C E u a w β->IF Y E k u a w β n xs d->∃β',aW Y.C E (sets Y k n u xs d) a w β'
 |[],_,β,_,_,r,_=>⟨β,r⟩
 |x::xs,u,β,n,d,r,⟨h1,h2⟩=>by
  obtain⟨β1,r1,t1⟩:=aS6 r h1
  rw[aMm]
  exact aGg xs r1 (IF.tp t1 h2)
end
end Go.EV

namespace Go.EV
open Go.RowKit Go.VK
variable {U:Uni} {Y:Lay U} {P:Program} {g:GI} {E:Env U g}
section
variable {b s:St U} {a a0:Act} {w w0:World} {β β0:List Tr}
def Cb {tm:Tm}{d:Dat U tm.it}(h:col Y b tm s=some d):∃q,Xi s tm.it=some q/\gets Y s tm.it=some d/\slI tm.ws tm.it=true/\aSp tm.aBT tm.dead b.m.k 0 b.m.o s.m.o=true/\aWs b.m.o.length tm.dead (vO q)=true/\(vO q).Nodup/\(fE tm.it).Nodup/\aWt b.m.o.length (fE tm.it)=true:=by
 unfold col at h
 cases hq:Xi s tm.it with
 |none=>rw[hq] at h;cases h
 |some q=>
  rw[hq] at h
  simp only at h
  cases hb:(slI tm.ws tm.it&&(aSp tm.aBT tm.dead b.m.k 0 b.m.o s.m.o&&(aWs (len b.m.o) tm.dead (vO q)&&(dist (vO q)&&(dist (fE tm.it)&&aWt (len b.m.o) (fE tm.it)))))) with
  |false=>rw[hb] at h;cases h
  |true=>
   rw[hb] at h
   simp only[ae] at h
   simp only[aa,bA] at hb
   obtain⟨h1,h2,h3,h4,h5,h6⟩:=hb
   exact⟨q,rfl,h,h1,h2,h3,sO.1 h4,sO.1 h5,h6⟩
def aMp {N:Nat}{dd:List Nat}:∀{l:List Nat},aWs N dd l=true->∀i∈l,N<=i\/i∈dd
 |[],_,i,h=>by simp at h
 |x::l,h,i,hi=>by
  simp only[aWs,aa,ck] at h
  rcases ba.1 hi with rfl|hi
  ·exact h.1.imp ay kJ.1
  ·exact aMp h.2 i hi
def aMq {N:Nat}:∀{l:List Nat},aWt N l=true->∀i∈l,i<N
 |[],_,i,h=>by simp at h
 |x::l,h,i,hi=>by
  simp only[aWt,aa] at h
  rcases ba.1 hi with rfl|hi
  ·exact ay h.1
  ·exact aMq h.2 i hi
def aS7 {C:Cod U}{X:Nat->Prop}{m:Mm U}{v:Value}{x:Sv U}{i:Nat}(hm:x.mean C w X β m v)(h:aY2 m x=some i):v= .int .i64 (i:Int)/\(i:Int)<=9223372036854775807:=by
 unfold aY2 at h
 split at h
 ·obtain⟨i',f,h1,h2,h3⟩:=hm
  rw[aP,h1] at h
  have:=aj h;subst this;exact⟨h2,h3⟩
 ·rename_i n
  obtain⟨h1,_,_⟩:=hm
  cases hn:decide (n=0) with
  |false=>rw[hn] at h;cases h
  |true=>
   rw[hn] at h
   have h:=aj h
   have:=of_decide_eq_true hn
   subst this;subst h
   exact⟨h1,by simp⟩
 ·cases h
def aCd {C:Cod U}{m:Mm U}{X:Nat->Prop}{τ:Nat}{d:Bool}{v:Value}{x:Sv U}{q:Option Nat×List (U.El τ)}(hm:x.mean C w X β m v)(h:qB m τ d x=some q):v.oneCell'=true/\v=(iG β q.1).val:=by
 unfold qB at h
 split at h
 ·obtain rfl:=hm
  cases hb:Nat.ble 1 (U.K τ) with
  |false=>rw[hb] at h;cases h
  |true=>
   rw[hb] at h
   have:=aj h;subst this
   exact⟨rfl,rfl⟩
 ·rename_i i r
  obtain⟨h1,e,t,h2,h3,h4⟩:=hm
  rw[aP,h2] at h
  obtain⟨ob,rv,cv⟩:=e
  cases ob with
  |tree τ' d' l=>
   simp only at h
   cases hb:(Nat.beq rv r&&(d'|| !d)) with
   |false=>rw[hb] at h;cases h
   |true=>
    rw[hb] at h
    simp only[ae] at h
    cases hq:M9 τ τ' l with
    |none=>rw[hq] at h;cases h
    |some l'=>
     rw[hq] at h
     have:=aj h;subst this
     simp only[aa] at hb
     refine⟨h1.2,?_⟩
     rw[h4 (ah hb.1)];simp[iG,h3]
  |_=>cases h
 ·cases h
def LV.ren {N M K:Nat}{σ:List (Option Nat)}{o:List (EO U)}(hlen:σ.length=o.length)(hs:∀(j:Nat) (q:Option Nat) (e':EO U),σ[j]? =some q->o[j]? =some e'->Src N M K s.m q j e')(r:aW Y.C E s a w β){l:Lo}{v:Value}(h:LV a w β s.m.o l v):LV a w (σ.map (iG β)) o l v:=by
 cases l with
 |s n=>exact h
 |c bb j=>
  intro e' he' hbx
  have hl:bb<σ.length:=by rw[hlen];exact lt_of_some he'
  have hq:σ[bb]? =some σ[bb]:=ab hl
  have done:∀e:EO U,σ[bb]=some bb->s.m.o[bb]? =some e->e.ob.aAW=true->∃t blk vals T,(σ.map (iG β))[bb]? =some t/\t.b=some blk/\w.heap[blk]? =some (.cells vals T (0,0))/\vals[j]? =some v:=λe hq' he hb=>by
   obtain⟨t,blk,vals,T,h1,h2,h3,h4⟩:=h e he hb
   exact⟨t,blk,vals,T,by rw[aE,hq,hq'];simp[iG,h1],h2,h3,h4⟩
  cases hs bb _ e' hq he' with
  |keep hq' he _=>exact done e' hq' he hbx
  |box hq' he h1 h2 _ _ _ _=>exact done _ hq' he (by rw[h1];rfl)
  |dead h' _=>rw[h'] at hbx;cases hbx
  |tree _ _ _ _ h' _=>rw[h'] at hbx;cases hbx
  |ti _ _ _ _ h' _ _=>rw[h'] at hbx;cases hbx
  |nil _ h' _ _=>rw[h'] at hbx;cases hbx
def aMr (r:aW Y.C E s a w β){k:Nat}{σ:List (Option Nat)}{o:List (EO U)}{u:St U}(huo:u.m.o=o)(huk:k<=u.m.k)(hX:∀b,E.X (σ.map (iG β)) b->E.X β b)(hfree:∀x:Nat,True)
  (hlv:∀(l:Lo) (v:Value),LV a w β s.m.o l v->LV a w (σ.map (iG β)) o l v):∀(xs:List DI) (n:Nat) (d:Dat U xs),gets Y s xs=some d->Plc k σ o s n xs->IF Y E k u a w (σ.map (iG β)) n xs d
 |[],_,_,_,_=>trivial
 | .dat l kd::xs,n,d,hg,hp=>by
  obtain⟨g1,g2⟩:=jQ hg
  refine⟨?_,aMr r huo huk hX hfree hlv xs n (Dtl d) g2 hp⟩
  simp only[aN1] at g1
  cases hl:lkp s l with
  |none=>rw[hl] at g1;cases g1
  |some x=>
   rw[hl] at g1
   simp only at g1
   cases hf:aFu x with
   |false=>rw[hf] at g1;cases g1
   |true=>
    rw[hf] at g1
    obtain⟨v,h1,h2⟩:=Xv r hl
    exact⟨v,by rw[huo];exact hlv l v h1,aW8 r h2 g1 hX (.inl hf)⟩
 | .ti i τ bb::xs,n,d,hg,hp=>⟨trivial,aMr r huo huk hX hfree hlv xs n (Dtl d) (jQ hg).2 hp⟩
 | .nat l::xs,n,d,hg,hp=>by
  obtain⟨g1,g2⟩:=jQ hg
  refine⟨?_,aMr r huo huk hX hfree hlv xs n (Dtl d) g2 hp⟩
  simp only[aN1] at g1
  cases hl:lkp s l with
  |none=>rw[hl] at g1;cases g1
  |some x=>
   rw[hl] at g1
   obtain⟨v,h1,h2⟩:=Xv r hl
   obtain⟨q1,q2⟩:=aS7 h2 g1
   exact⟨v,by rw[huo];exact hlv l v h1,_,rfl,q1,q2⟩
 | .tr l i τ bb::xs,n,d,hg,⟨⟨v,q,e,p1,p2,p3,p4,p5⟩,hp⟩=>by
  obtain⟨g1,g2⟩:=jQ hg
  refine⟨?_,aMr r huo huk hX hfree hlv xs n (Dtl d) g2 hp⟩
  obtain⟨v',h1,h2⟩:=Xv r p1
  obtain⟨k1,k2⟩:=aCd h2 p2
  exact⟨v',by rw[huo];exact hlv l v' h1,⟨huk,k1⟩,e,iG β q.1,by rw[huo];exact p4,by rw[aE,p3];rfl,λ_=>k2⟩
 | .nt l τ bb::xs,n,d,hg,⟨⟨v,q,e,p1,p2,p3,p4,p5⟩,hp⟩=>by
  obtain⟨g1,g2⟩:=jQ hg
  refine⟨?_,aMr r huo huk hX hfree hlv xs (Nat.succ n) (Dtl d) g2 hp⟩
  obtain⟨v',h1,h2⟩:=Xv r p1
  obtain⟨k1,k2⟩:=aCd h2 p2
  exact⟨v',by rw[huo];exact hlv l v' h1,⟨huk,k1⟩,e,iG β q.1,by rw[huo];exact p4,by rw[aE,p3];rfl,λ_=>k2⟩
def rY (hE:E.fr=[])(rb:aW Y.C E b a0 w0 β0)(r:aW Y.C E s a w β){tm:Tm}(hag:Ag (λn=>Bd tm.ws 0 n=true) b s){d:Dat U tm.it}(h:col Y b tm s=some d):∃β',aW Y.C E (reb Y b tm d) a w β':=by
 obtain⟨q,c1,c2,_,c3,c4,c5,c6,c7⟩:=Cb h
 have hI:=inv0 rb hag.m c3
 have hol:(Ew (Nat.succ b.m.k) tm.aBT (Lh (Nat.succ b.m.k) tm.dead b.m.o)).length=b.m.o.length:=by rw[Hg,Bq]
 obtain⟨i1,i2,_⟩:=yP (db _) tm.it q d _ _ c1 c2 hI (λi hi j hj=>by
  obtain⟨g1,g2⟩:=aFa hj
  rcases g2 with⟨_,g2⟩|⟨g3,g2⟩
  ·cases g2
  ·have:=aj g2;subst this
   rcases aMp c4 i hi with h|h
   ·omega
   ·exact g3 h) c5 (λi hi=>by rw[hol];exact aMq c7 i hi) c6
 rw[hol] at i2
 obtain⟨H,ev⟩:=Hp.ren (m':=⟨aC2 (Nat.succ b.m.k) tm.it d (Ew (Nat.succ b.m.k) tm.aBT (Lh (Nat.succ b.m.k) tm.dead b.m.o)),Nat.succ b.m.k,b.m.ns⟩) r.hp i1.len i1.ge i1.inj (ef _) i1.ver rb.hp.cnt (λa' i f ha hn=>by
  have h1:b.m.ns[a']? =some b.m.ns[a']:=ab ha
  obtain⟨f',h2⟩:=hag.m.ns a' (b.m.ns[a']).1 (b.m.ns[a']).2 h1
  rw[hn] at h2
  have h3:=congrArg Prod.fst (aj h2)
  exact⟨(b.m.ns[a']).2,by rw[h1];simp only at h3;rw[h3]⟩) i1.src (λx hx=>Sv.aBC (rb.hp.pin x hx)) hE
 have hX:∀bb,E.X ((sgm q (sg0 tm.dead b.m.o.length)).map (iG β)) bb->E.X β bb:=λbb hb=>ev.hX bb (Hp.aBW H bb hb) hb
 have r1:aW Y.C E ⟨wip tm.ws b.t,⟨aC2 (Nat.succ b.m.k) tm.it d (Ew (Nat.succ b.m.k) tm.aBT (Lh (Nat.succ b.m.k) tm.dead b.m.o)),Nat.succ b.m.k,b.m.ns⟩,b.fr⟩ a w ((sgm q (sg0 tm.dead b.m.o.length)).map (iG β)):=by
  refine⟨H,r.defers,?_,λn x hx=> ?_⟩
  ·show a.tmps.size=(wip tm.ws b.t).length
   rw[aVc,r.tsz,hag.tl]
  ·have hx':=(aFb (ws:=tm.ws) (p:=0) (n:=n) (l:=b.t)).symm.trans hx
   rw[bu] at hx'
   split at hx'
   ·cases hb:b.t[n]? with
    |none=>rw[hb] at hx';cases hx'
    |some y=>rw[hb] at hx';have:=aj hx';subst this;trivial
   ·rename_i hn
    exact Sv.aAY ev (Sv.aBC (rb.tm n x hx')) (r.tm n x ((hag.t n hn).trans hx'))
 have hIF:=aMr (Y:=Y) (u:=⟨wip tm.ws b.t,⟨aC2 (Nat.succ b.m.k) tm.it d (Ew (Nat.succ b.m.k) tm.aBT (Lh (Nat.succ b.m.k) tm.dead b.m.o)),Nat.succ b.m.k,b.m.ns⟩,b.fr⟩) r rfl (ak _) hX (λ_=>trivial) (λl v h=>LV.ren i1.len i1.src r h) tm.it b.m.o.length d c2 i2
 have:=aGg tm.it r1 hIF
 unfold reb
 rw[bA]
 exact this
def bC7 {u:St U}{x:Sv U}{l:Lo}:(aBI u x l).fr=u.fr/\(aBI u x l).t.length=u.t.length/\Am u.m (aBI u x l).m/\∀n,(∀m,l= .s m->m≠n)->(aBI u x l).t[n]? =u.t[n]? :=by
 cases l with
 |s m=>
  refine⟨rfl,by simp only[aBI,put,bN,bq],Am.refl _,λn hn=> ?_⟩
  simp only[aBI,put,bN]
  rw[bf (hn m rfl)]
 |c bb j=>
  unfold aBI
  simp only[aP]
  split
  ·rename_i T cs vs rv cv y he
   refine⟨rfl,rfl,Am.turn (ids:=[]) u.m λ_ e he'=> ?_,λ_ _=>rfl⟩
   rw[he] at he';have:=aj he';subst this
   refine⟨rfl,λT1 cs1 vs1 T' cs' vs' k1 k2=> ?_⟩
   injection k1 with a1 a2 a3
   injection k2 with b1 b2 b3
   subst a1;subst a2;subst a3;subst b1;subst b2;subst b3
   refine⟨rfl,by rw[bN,bq],by rw[bN,bq],λi v hv hk=> ?_⟩
   rw[bN] at hv ⊢
   by_cases hij:j=i
   ·subst hij
    have hl:j<vs.length:=by have:=lt_of_some hv;simpa using this
    rw[bg hl] at hv
    have:=aj hv;omega
   ·rw[bf hij] at hv
    exact⟨bf hij,hv⟩
  ·exact⟨rfl,rfl,Am.refl _,λ_ _=>rfl⟩
def Ag.aBI {D:Nat->Prop}{s0 u:St U}(h:Ag D s0 u){x:Sv U}{l:Lo}(hl:∀m,l= .s m->D m):Ag D s0 (aBI u x l):=by
 obtain⟨h1,h2,h3,h4⟩:=bC7 (u:=u) (x:=x) (l:=l)
 exact⟨λn hn=>(h4 n (λm e e'=>hn (e'▸hl m e))).trans (h.t n hn),h2.trans h.tl,h1.trans h.fr,h.m.trans h3⟩
def Ag.set1 {D:Nat->Prop}{s0 u:St U}(h:Ag D s0 u){k n:Nat}{x:DI}{d:x.ty U}{ws:List (Nat×Nat)}{xs:List DI}(hx:slI ws (x::xs)=true)(hD:∀n,Bd ws 0 n=true->D n):Ag D s0 (set1 Y k n u x d)/\slI ws xs=true:=by
 have key:∀l:Lo,(match l with| .s n=>Bd ws 0 n&&slI ws xs| .c .. =>slI ws xs)=true->(∀m,l= .s m->D m)/\slI ws xs=true:=λl hl=>by
  cases l with
  |s m=>simp only[aa] at hl;exact⟨λm' e=>by injection e with e;subst e;exact hD _ hl.1,hl.2⟩
  |c=>exact⟨λm e=>(by cases e),hl⟩
 cases x with
 |dat l kd=>
  obtain⟨k1,k2⟩:=key l (by cases l<;>exact hx)
  exact⟨h.aBI k1,k2⟩
 |nat l=>
  obtain⟨k1,k2⟩:=key l (by cases l<;>exact hx)
  refine⟨Ag.aBI (u:=⟨u.t,⟨u.m.o,u.m.k,u.m.ns++[((⟨d,false⟩:Nat×Bool))]⟩,u.fr⟩) ⟨h.t,h.tl,h.fr,h.m.trans (Am.aCL _ λa' i f h=>⟨f,by rw[ao (lt_of_some h)];exact h⟩)⟩ k1,k2⟩
 |tr l i τ bb=>
  obtain⟨k1,k2⟩:=key l (by cases l<;>exact hx)
  exact⟨h.aBI k1,k2⟩
 |nt l τ bb=>
  obtain⟨k1,k2⟩:=key l (by cases l<;>exact hx)
  exact⟨h.aBI k1,k2⟩
 |ti i τ bb=>exact⟨h,hx⟩
def Ag.sets {D:Nat->Prop}{s0:St U}{k:Nat}{ws:List (Nat×Nat)}(hD:∀n,Bd ws 0 n=true->D n):∀(xs:List DI) {u:St U} {n:Nat} {d:Dat U xs},slI ws xs=true->Ag D s0 u->Ag D s0 (sets Y k n u xs d)
 |[],_,_,_,_,h=>h
 |x::xs,u,n,d,hx,h=>by
  obtain⟨h1,h2⟩:=h.set1 (Y:=Y) (k:=k) (n:=n) (d:=Dhd d) hx hD
  rw[aMm]
  exact Ag.sets hD xs h2 h1
def aGh {k:Nat}:∀(xs:List DI) {d:Dat U xs} {o:List (EO U)} {j:Nat} {e:EO U},o[j]? =some e->∃e',(aC2 k xs d o)[j]? =some e'/\(e'=e\/(e'.cv=k/\e'.ob.aAW=false))
 |[],_,o,j,e,h=>⟨e,h, .inl rfl⟩
 |x::xs,d,o,j,e,h=>by
  rw[oG]
  have h1:∃e1,(aF0 k x (Dhd d) o)[j]? =some e1/\(e1=e\/(e1.cv=k/\e1.ob.aAW=false)):=by
   cases x with
   |dat l kd=>exact⟨e,h, .inl rfl⟩
   |nat l=>exact⟨e,h, .inl rfl⟩
   |tr l i τ bb=>
    show ∃e1,(upd o i (⟨.tree τ bb _,k,k⟩:EO U))[j]? =some e1/\_
    rw[bN]
    by_cases hij:i=j
    ·subst hij
     exact⟨_,bg (lt_of_some h), .inr ⟨rfl,rfl⟩⟩
    ·exact⟨e,by rw[bf hij];exact h, .inl rfl⟩
   |ti i τ bb=>
    show ∃e1,(upd o i (⟨.tree τ bb _,0,k⟩:EO U))[j]? =some e1/\_
    rw[bN]
    by_cases hij:i=j
    ·subst hij
     exact⟨_,bg (lt_of_some h), .inr ⟨rfl,rfl⟩⟩
    ·exact⟨e,by rw[bf hij];exact h, .inl rfl⟩
   |nt l τ bb=>
    show ∃e1,(o++[(⟨.tree τ bb _,k,k⟩:EO U)])[j]? =some e1/\_
    exact⟨e,by rw[ao (lt_of_some h)];exact h, .inl rfl⟩
  obtain⟨e1,h1,h2⟩:=h1
  obtain⟨e',h3,h4⟩:=aGh xs (d:=Dtl d) h1
  refine⟨e',h3,?_⟩
  rcases h4 with rfl|h4
  ·exact h2
  ·exact .inr h4
def aQt {k:Nat}:∀(xs:List DI) {d:Dat U xs} {o:List (EO U)},o.length<=(aC2 k xs d o).length
 |[],_,o=>ak _
 |x::xs,d,o=>by
  rw[oG]
  refine bw ?_ (aQt xs)
  cases x with
  |dat=>exact ak _
  |nat=>exact ak _
  |tr l i τ bb=>show o.length<=(upd o i _).length;rw[bN,bq];exact ak _
  |nt l τ bb=>show o.length<=(o++[_]).length;simp
  |ti i τ bb=>show o.length<=(upd o i _).length;rw[bN,bq];exact ak _
def Q5 {tm:Tm}{d:Dat U tm.it}(h:slI tm.ws tm.it=true):Ag (λn=>Bd tm.ws 0 n=true) b (reb Y b tm d):=by
 unfold reb
 refine Ag.sets (λ_ h=>h) tm.it h ⟨λn hn=> ?_,aVc,rfl,?_⟩
 ·have:=aFb (ws:=tm.ws) (p:=0) (n:=n) (l:=b.t)
  rw[bu,cJ hn] at this
  exact this
 ·refine⟨ef _,λ_ _ f h=>⟨f,h⟩,?_,λi e e' he he'=> ?_⟩
  ·refine bw ?_ (aQt tm.it)
   rw[Hg,Bq];exact ak _
  ·have hl:=lt_of_some he
   by_cases hd:i∈tm.dead
   ·obtain⟨e1,h1,h2,_⟩:=sQ (k:=Nat.succ b.m.k) (P7 (k:=Nat.succ b.m.k) hd hl) tm.aBT
    have e1d:=h2 (.inl rfl)
    obtain⟨e2,h3,h4⟩:=aGh (k:=Nat.succ b.m.k) tm.it (d:=d) h1
    have:=aj (h3.symm.trans he');subst this
    have:e2.cv=Nat.succ b.m.k/\e2.ob.aAW=false:=by
     rcases h4 with rfl|h4
     ·rw[e1d];exact⟨rfl,rfl⟩
     ·exact h4
    refine⟨λhh=>by omega,λhh=>(by rw[this.2] at hh;cases hh),λT cs vs T' cs' vs' _ hh=> ?_⟩
    rw[hh] at this;cases this.2
   ·have h0:(Lh (Nat.succ b.m.k) tm.dead b.m.o)[i]? =some e:=by rw[rO hd];exact he
    obtain⟨e1,h1,h2,h5⟩:=sQ (k:=Nat.succ b.m.k) h0 tm.aBT
    obtain⟨e2,h3,h4⟩:=aGh (k:=Nat.succ b.m.k) tm.it (d:=d) h1
    have:=aj (h3.symm.trans he');subst this
    rcases h4 with rfl|h4
    ·by_cases hk:e.ob.aAW=false\/hasB i tm.aBT=false
     ·have:=h2 hk;subst this
      exact(Am.refl b.m).o i _ _ he he
     ·have hB:hasB i tm.aBT=true:=by
       cases hh:hasB i tm.aBT with
       |true=>rfl
       |false=>exact absurd (.inr hh) hk
      cases ho:e.ob with
      |box T cs vs=>
       obtain⟨cs',vs',k1,k2,k3,k4,k5⟩:=h5 T cs vs ho
       obtain⟨q1,q2⟩:=k4 hB
       refine⟨λhh=>by omega,λ_=>rfl,λT1 cs1 vs1 T2 cs2 vs2 g1 g2=> ?_⟩
       rw[k1] at g2
       injection g1 with a1 a2 a3
       injection g2 with b1 b2 b3
       subst a1;subst a2;subst a3;subst b1;subst b2;subst b3
       refine⟨rfl,k2,k3,λj v hv hvk=> ?_⟩
       cases hA:aFz i j tm.aBT with
       |true=>have:=(k5 j).2.1 hA v hv;omega
       |false=>
        obtain⟨z1,z2⟩:=(k5 j).2.2 hA
        exact⟨z1,z2.symm.trans hv⟩
      |_=>exact absurd (.inl (by rw[ho];rfl)) hk
    ·refine⟨λhh=>by omega,λhh=>(by rw[h4.2] at hh;cases hh),λT cs vs T' cs' vs' _ hh=> ?_⟩
     rw[hh] at h4;cases h4.2
end
end Go.EV

namespace Go.EV
open Go.RowKit Go.VK
variable {U:Uni} {Y:Lay U} {TI:List (Nat×TInfo)} {FZ:List (Nat×Sum U)} {IL:Il} {P:Program} {g:GI} {E:Env U g}
def WC (D:Nat->Prop):Code->Prop
 | .seq a b=>WC D a/\WC D b
 | .cond c a b=>(∀n,c= .tmp n->D n)/\WC D a/\WC D b
 | .block _ c=>WC D c
 | .loop c=>WC D c
 | .region _ os _=>∀o∈os.toList,∀n,Wr os.toList o n->D n
 |_=>True
def AW (D:Nat->Prop):An->Prop
 | .s a b=>AW D a/\AW D b
 | .j t a=>(∀n,Bd t.ws 0 n=true->D n)/\AW D a
 | .jx t a=>(∀n,Bd t.ws 0 n=true->D n)/\AW D a
 | .l t _ a=>(∀n,Bd t.ws 0 n=true->D n)/\AW D a
 | .rj _ t _=>∀n,Bd t.ws 0 n=true->D n
 |_=>True
def AW.true:∀an:An,AW (λ_=>True) an
 | .n=>trivial
 | .s a b=>⟨AW.true a,AW.true b⟩
 | .j t a=>⟨λ_ _=>trivial,AW.true a⟩
 | .jx t a=>⟨λ_ _=>trivial,AW.true a⟩
 | .l t _ a=>⟨λ_ _=>trivial,AW.true a⟩
 | .r .. =>trivial
 | .rj .. =>λ_ _=>trivial
 | .z .. =>trivial
 | .y .. =>trivial
 | .w .. =>trivial
 | .v .. =>trivial
 | .u .. =>trivial
 | .il .. =>trivial
 | .pl .. =>trivial
def aMs:∀{ws:List (Nat×Nat)} {p lo hi n:Nat},bCu ws p lo hi=true->lo<=n->n<hi->Bd ws p n=true
 |[],_,_,_,_,h,_,_=>by cases h
 |(a,b)::r,p,lo,hi,n,h,h1,h2=>by
  simp only[bCu,ck,aa] at h
  simp only[Bd,ck,aa]
  rcases h with⟨k1,k2⟩|h
  ·have:=ay k1;have:=ay k2
   exact .inl ⟨dk (by omega),dk (by omega)⟩
  ·exact .inr (aMs h h1 h2)
def yQ {ws:List (Nat×Nat)}:∀{r:List (Nat×Nat)} {p n:Nat},aSs ws r p=true->Bd r p n=true->Bd ws 0 n=true
 |[],_,_,_,h=>by cases h
 |(a,b)::r,p,n,h,h1=>by
  simp only[aSs,aa,ck] at h
  simp only[Bd,ck,aa] at h1
  rcases h1 with⟨k1,k2⟩|h1
  ·have:=ay k1;have:=ay k2
   rcases h.1 with h|h
   ·have:=ah h;omega
   ·exact aMs h (by omega) (by omega)
  ·exact yQ h.2 h1
def pO {ws:List (Nat×Nat)}:∀{an:An},anW ws an=true->AW (λn=>Bd ws 0 n=true) an
 | .n,_=>trivial
 | .s a b,h=>by simp only[anW,aa] at h;exact⟨pO h.1,pO h.2⟩
 | .j t a,h=>by simp only[anW,aa] at h;exact⟨λn=>yQ h.1,pO h.2⟩
 | .jx t a,h=>by simp only[anW,aa] at h;exact⟨λn=>yQ h.1,pO h.2⟩
 | .l t _ a,h=>by simp only[anW,aa] at h;exact⟨λn=>yQ h.1,pO h.2⟩
 | .r ..,_=>trivial
 | .rj ..,h=>λn=>yQ h
 | .z ..,_=>trivial
 | .y ..,_=>trivial
 | .w ..,_=>trivial
 | .v ..,_=>trivial
 | .u ..,_=>trivial
 | .il ..,_=>trivial
 | .pl ..,_=>trivial
def AW.a {D:Nat->Prop}{an:An}(h:AW D an):AW D an.a:=by
 cases an<;>first|exact h.1|trivial
def AW.b {D:Nat->Prop}{an:An}(h:AW D an):AW D an.b:=by
 cases an<;>first|exact h.2|trivial
def Xw {ws:List (Nat×Nat)}{al:List Oper}:∀{l:List Oper},wrG ws al l=true->∀o∈l,∀n,Wr al o n->Bd ws 0 n=true
 |[],_,o,h=>by simp at h
 |x::l,h,o,ho=>by
  have e:wrG ws al (x::l)=cond ((match x.dst with|some n=>Bd ws 0 n|none=>true)&&(match x.guard with|some (j,_)=>(match nth al j with|some oj=>(match oj.dst with|some n=>Bd ws 0 n|none=>true)|none=>true)|none=>true)) (wrG ws al l) false:=rfl
  rw[e] at h
  cases hc:((match x.dst with|some n=>Bd ws 0 n|none=>true)&&(match x.guard with|some (j,_)=>(match nth al j with|some oj=>(match oj.dst with|some n=>Bd ws 0 n|none=>true)|none=>true)|none=>true)) with
  |false=>rw[hc] at h;cases h
  |true=>
   rw[hc] at h
   simp only[ae] at h
   rcases ba.1 ho with rfl|ho
   ·simp only[aa] at hc
    rintro n (hn|⟨j,b,oj,h1,h2,h3⟩)
    ·have:=hc.1;rw[hn] at this;exact this
    ·have:=hc.2;rw[h1] at this;simp only[aP,h2,h3] at this;exact this
   ·exact Xw h o ho
def aOk {ws:List (Nat×Nat)}:∀{f:Nat} {c:Code},wr ws f c=true->WC (λn=>Bd ws 0 n=true) c:=by
 intro f
 induction f with
 |zero=>intro c h;cases h
 |succ f ih=>
  intro c h
  cases c with
  |seq a b=>
   replace h:(wr ws f a&&wr ws f b)=true:=h
   simp only[aa] at h;exact⟨ih h.1,ih h.2⟩
  |cond c a b=>
   cases c with
   |tmp n=>
    replace h:(Bd ws 0 n&&(wr ws f a&&wr ws f b))=true:=h
    simp only[aa] at h
    exact⟨λn' e=>by injection e with e;subst e;exact h.1,ih h.2.1,ih h.2.2⟩
   |_=>cases h
  |block id c=>exact ih (c:=c) h
  |loop c=>exact ih (c:=c) h
  |region id os d=>exact Xw (show wrG ws os.toList os.toList=true from h)
  |_=>trivial
section
variable {α:Type}
def Snd (P:Program)(Y:Lay U)(E:Env U g)(D:Nat->Prop)(c:Code)(s:St U){α:Type}(z:α)(N:St U->Option α)(X:Nat->St U->Option α)(R:St U->Option α):Prop:=
 ∀Q:Exit->Act->World->Prop,(∀s' a w β,Ag D s s'->N s'=some z->aW Y.C E s' a w β->Q .normal a w)->(∀i s' a w β,Ag D s s'->X i s'=some z->aW Y.C E s' a w β->Q (.exit i) a w)->(∀s' a w β,Ag D s s'->R s'=some z->aW Y.C E s' a w β->Q .ret a w)->
  ∀a w β,aW Y.C E s a w β->c.wp P Q a w
def aVd (P:Program)(Y:Lay U)(TI:List (Nat×TInfo))(FZ:List (Nat×Sum U))(IL:Il)(g:GI):Prop:=
 ∀(E:Env U g),E.fr=[]->E.prm=[]->∀(α:Type) (EV:An->Code->St U->(St U->Option α)->Option α),(∀(E:Env U g),E.fr=[]->E.prm=[]->∀(an:An) (c:Code) (s:St U) (K:St U->Option α) (z:α),EV an c s K=some z->Snd P Y E (λ_=>True) c s z K (λ_ _=>none) K)->
  ∀(id:Nat) (os:Array Oper) (d:Bool) (an:An) (s:St U) (N:St U->Option α) (X:Nat->St U->Option α) (R:St U->Option α) (z:α) (D:Nat->Prop),(∀o∈os.toList,∀n,Wr os.toList o n->D n)->AW D an->aWv Y TI FZ IL EV os.toList os d an s N=some z->Snd P Y E D (.region id os d) s z N X R
def WC.true:∀c:Code,WC (λ_=>True) c:=λc=>by
 induction c with
 |seq a b h1 h2=>exact⟨h1,h2⟩
 |cond c a b h1 h2=>exact⟨λ_ _=>trivial,h1,h2⟩
 |block id c h=>exact h
 |loop c h=>exact h
 |region id os d=>exact λ_ _ _ _=>trivial
 |_=>trivial
def NJ (an:An):Prop:=(∀tm a,an≠ .j tm a)/\∀tm a,an≠ .jx tm a
section
variable {f:Nat} {an:An} {s:St U} {N:St U->Option α} {X:Nat->St U->Option α} {R:St U->Option α}
def bGy (h:NJ an){a b:Code}:ev Y TI FZ IL (f+1) an (.seq a b) α s N X R=ev Y TI FZ IL f an.a a α s (λs'=>ev Y TI FZ IL f an.b b α s' N X R) X R:=by
 cases an<;>first|exact absurd rfl (h.1 _ _)|exact absurd rfl (h.2 _ _)|rfl
def bC8 (h:NJ an){n:Nat}{a b:Code}:ev Y TI FZ IL (f+1) an (.cond (.tmp n) a b) α s N X R=tst n s (λs=>ev Y TI FZ IL f an.a a α s N X R) (λs=>ev Y TI FZ IL f an.b b α s N X R):=by
 cases an<;>first|exact absurd rfl (h.1 _ _)|exact absurd rfl (h.2 _ _)|rfl
def aZz (h:NJ an){c:Operand}{a b:Code}{z:α}(hz:ev Y TI FZ IL (f+1) an (.cond c a b) α s N X R=some z):∃n,c= .tmp n:=by
 cases c with
 |tmp n=>exact⟨n,rfl⟩
 |_=>cases an<;>first|exact absurd rfl (h.1 _ _)|exact absurd rfl (h.2 _ _)|cases hz
def aZ0 (h:NJ an){id:Nat}{c:Code}:ev Y TI FZ IL (f+1) an (.block id c) α s N X R=ev Y TI FZ IL f an.a c α s N (λi s'=>bif Nat.beq i id then N s' else X i s') R:=by
 cases an<;>first|exact absurd rfl (h.1 _ _)|exact absurd rfl (h.2 _ _)|rfl
def bC9 (h:NJ an){c:Code}{z:α}(hz:ev Y TI FZ IL (f+1) an (.loop c) α s N X R=some z):(∃tm n a,an= .l tm n a/\(bif wr tm.ws f c&&anW tm.ws a then bd (col Y s tm s) (bO n λrec d=>ev Y TI FZ IL f a c α (reb Y s tm d) (λs'=>bd (col Y s tm s') rec) X R) else none)=some z)\/∃a b,an= .s a b/\NJ b/\ev Y TI FZ IL f a c α s (λs'=>ev Y TI FZ IL f b (.loop c) α s' N X R) X R=some z:=by
 cases an with
 |l tm n a=>exact .inl ⟨tm,n,a,rfl,hz⟩
 |s a b=>
  refine .inr ⟨a,b,rfl,?_⟩
  replace hz:(bif bGp b then ev Y TI FZ IL f a c α s (λs'=>ev Y TI FZ IL f b (.loop c) α s' N X R) X R else none)=some z:=hz
  cases hb:bGp b with
  |false=>rw[hb] at hz;cases hz
  |true=>
   rw[hb] at hz
   refine⟨?_,hz⟩
   cases b<;>first|(simp[NJ];done)|cases hb
 |j=>exact absurd rfl (h.1 _ _)
 |jx=>exact absurd rfl (h.2 _ _)
 |_=>cases hz
def bDa (h:NJ an):ev Y TI FZ IL (f+1) an .skip α s N X R=N s:=by
 cases an<;>first|exact absurd rfl (h.1 _ _)|exact absurd rfl (h.2 _ _)|rfl
def bGz (h:NJ an):ev Y TI FZ IL (f+1) an .ret α s N X R=R s:=by
 cases an<;>first|exact absurd rfl (h.1 _ _)|exact absurd rfl (h.2 _ _)|rfl
def bDb (h:NJ an){i:Nat}:ev Y TI FZ IL (f+1) an (.exit i) α s N X R=X i s:=by
 cases an<;>first|exact absurd rfl (h.1 _ _)|exact absurd rfl (h.2 _ _)|rfl
def aXg (h:NJ an){id:Nat}{os:Array Oper}{d:Bool}:ev Y TI FZ IL (f+1) an (.region id os d) α s N X R=aWv Y TI FZ IL (λa c s K=>ev Y TI FZ IL f a c α s K (λ_ _=>none) K) os.toList os d an s N:=by
 cases an<;>first|exact absurd rfl (h.1 _ _)|exact absurd rfl (h.2 _ _)|rfl
end
def aZ1 (an:An):(∃tm a,an= .j tm a)\/(∃tm a,an= .jx tm a)\/NJ an:=by
 cases an<;>simp[NJ]
def LoopIn (P:Program)(Y:Lay U)(E:Env U g)(D:Nat->Prop)(c':Code)(s:St U){α:Type}(z:α)(N:St U->Option α)(X:Nat->St U->Option α)(R:St U->Option α):Prop:=
 ∀Q:Exit->Act->World->Prop,(∀s' a w β,Ag D s s'->N s'=some z->aW Y.C E s' a w β->Q .normal a w)->(∀i s' a w β,Ag D s s'->X i s'=some z->aW Y.C E s' a w β->Q (.exit i) a w)->(∀s' a w β,Ag D s s'->R s'=some z->aW Y.C E s' a w β->Q .ret a w)->
  ∀a w β,aW Y.C E s a w β->∀(b:Frame) (kk:List Item) (cs:List Frame),∃e a' w',Q e a' w'/\Arrives P (lone (b.at a (.code c':: .inLoop c'::kk)) cs w) b kk cs e a' w'
def aQu (P:Program)(Y:Lay U)(TI:List (Nat×TInfo))(FZ:List (Nat×Sum U))(IL:Il)(g:GI)(f:Nat):Prop:=∀(E:Env U g),E.fr=[]->E.prm=[]->∀(an:An) (c:Code) (α:Type) (s:St U) (N:St U->Option α) (X:Nat->St U->Option α) (R:St U->Option α) (z:α) (D:Nat->Prop),WC D c->AW D an->ev Y TI FZ IL f an c α s N X R=some z->Snd P Y E D c s z N X R
def aOl (P:Program)(Y:Lay U)(TI:List (Nat×TInfo))(FZ:List (Nat×Sum U))(IL:Il)(g:GI)(f:Nat):Prop:=∀(E:Env U g),E.fr=[]->E.prm=[]->∀(an:An) (c':Code) (α:Type) (s:St U) (N:St U->Option α) (X:Nat->St U->Option α) (R:St U->Option α) (z:α) (D:Nat->Prop),NJ an->WC D c'->AW D an->ev Y TI FZ IL f an (.loop c') α s N X R=some z->LoopIn P Y E D c' s z N X R
def aVe {f:Nat}(IH:aQu P Y TI FZ IL g f/\aOl P Y TI FZ IL g f):aOl P Y TI FZ IL g (f+1):=by
 intro E hE hP an c' α s N X R z D hn hw ha h Q hN hX hR a0 w0 β0 r0 b kk cs
 rcases bC9 hn h with⟨tm,n,a,rfl,h'⟩|⟨a,b2,rfl,hn2,h'⟩<;>replace h:=h'
 ·cases hb:(wr tm.ws f c'&&anW tm.ws a) with
  |false=>rw[hb] at h;cases h
  |true=>
   rw[hb] at h
   simp only[ae] at h
   simp only[aa] at hb
   obtain⟨d0,h1,h2⟩:=gM h
   have key:∀(m:Nat) (d:Dat U tm.it),bO m (λrec d=>ev Y TI FZ IL f a c' α (reb Y s tm d) (λs'=>bd (col Y s tm s') rec) X R) d=some z->∀a1 w1 β1,aW Y.C E (reb Y s tm d) a1 w1 β1->Ag (λn=>Bd tm.ws 0 n=true) s (reb Y s tm d)->∀(b:Frame) (kk:List Item) (cs:List Frame),
     ∃e a' w',Q e a' w'/\Arrives P (lone (b.at a1 (.code c':: .inLoop c'::kk)) cs w1) b kk cs e a' w':=by
    intro m
    induction m with
    |zero=>intro d hd;cases hd
    |succ m ih=>
     intro d hd a1 w1 β1 r1 hg b kk cs
     have hd':ev Y TI FZ IL f a c' α (reb Y s tm d) (λs'=>bd (col Y s tm s') (bO m (λrec d=>ev Y TI FZ IL f a c' α (reb Y s tm d) (λs'=>bd (col Y s tm s') rec) X R))) X R=some z:=hd
     have hbody:=IH.1 E hE hP a c' _ _ _ _ _ z _ (aOk hb.1) (pO hb.2) hd' (Exit.then (λa' w'=>∃d' β',bO m (λrec d=>ev Y TI FZ IL f a c' α (reb Y s tm d) (λs'=>bd (col Y s tm s') rec) X R) d'=some z/\aW Y.C E (reb Y s tm d') a' w' β'/\Ag (λn=>Bd tm.ws 0 n=true) s (reb Y s tm d')) Q)
      (λs2 a2 w2 β2 hg2 hc r2=>by
       obtain⟨d',q1,q2⟩:=gM hc
       obtain⟨β',r'⟩:=rY hE r0 r2 (hg.trans hg2) q1
       obtain⟨_,_,_,hs,_⟩:=Cb q1
       exact⟨d',β',q2,r',Q5 hs⟩)
      (λi s2 a2 w2 β2 hg2 hc r2=>hX i s2 a2 w2 β2 ((hg.trans hg2).mono ha.1) hc r2)
      (λs2 a2 w2 β2 hg2 hc r2=>hR s2 a2 w2 β2 ((hg.trans hg2).mono ha.1) hc r2) a1 w1 β1 r1 b (.inLoop c'::kk) cs
     obtain⟨e,a₁,w₁,hq,harr⟩:=hbody
     cases e with
     |normal=>
      obtain⟨d',β',j1,j2,j3⟩:=hq
      obtain⟨e₂,a₂,w₂,hq₂,harr₂⟩:=ih d' j1 a₁ w₁ β' j2 j3 b kk cs
      exact⟨e₂,a₂,w₂,hq₂, .of_steps (Steps.trans harr (.one step_inLoop)) harr₂⟩
     |exit id=>exact⟨_,a₁,w₁,hq, .pass (x:= .inLoop c') rfl (λ_ _=> .inl (by simp)) harr⟩
     |goto l=>exact⟨_,a₁,w₁,hq, .pass (x:= .inLoop c') rfl (λ_ _=> .inl (by simp)) harr⟩
     |ret=>exact⟨_,a₁,w₁,hq, .pass (x:= .inLoop c') rfl (λ_ _=> .inl (by simp)) harr⟩
     |panic ch=>exact⟨_,a₁,w₁,hq, .pass (x:= .inLoop c') rfl (λ_ _=> .inl (by simp)) harr⟩
     |outgrown=>exact⟨_,a₁,w₁,hq, .pass (x:= .inLoop c') rfl (λ_ _=> .inl (by simp)) harr⟩
   obtain⟨β1,r1⟩:=rY hE r0 r0 (Ag.refl s) h1
   obtain⟨_,_,_,hs,_⟩:=Cb h1
   exact key n d0 h2 a0 w0 β1 r1 (Q5 hs) b kk cs
 ·have hbody:=IH.1 E hE hP a c' _ s _ _ _ z D hw ha.1 h (Exit.then (λa' w'=>∃s' β',ev Y TI FZ IL f b2 (.loop c') α s' N X R=some z/\aW Y.C E s' a' w' β'/\Ag D s s') Q)
   (λs2 a2 w2 β2 hg2 hc r2=>⟨s2,β2,hc,r2,hg2⟩)
   (λi s2 a2 w2 β2 hg2 hc r2=>hX i s2 a2 w2 β2 hg2 hc r2)
   (λs2 a2 w2 β2 hg2 hc r2=>hR s2 a2 w2 β2 hg2 hc r2) a0 w0 β0 r0 b (.inLoop c'::kk) cs
  obtain⟨e,a₁,w₁,hq,harr⟩:=hbody
  cases e with
  |normal=>
   obtain⟨s',β',j1,j2,j3⟩:=hq
   obtain⟨e₂,a₂,w₂,hq₂,harr₂⟩:=IH.2 E hE hP b2 c' _ s' N X R z D hn2 hw ha.2 j1 Q (λs2 a2 w2 β2 hg=>hN s2 a2 w2 β2 (j3.trans hg)) (λi s2 a2 w2 β2 hg=>hX i s2 a2 w2 β2 (j3.trans hg)) (λs2 a2 w2 β2 hg=>hR s2 a2 w2 β2 (j3.trans hg)) a₁ w₁ β' j2 b kk cs
   exact⟨e₂,a₂,w₂,hq₂, .of_steps (Steps.trans harr (.one step_inLoop)) harr₂⟩
  |exit id=>exact⟨_,a₁,w₁,hq, .pass (x:= .inLoop c') rfl (λ_ _=> .inl (by simp)) harr⟩
  |goto l=>exact⟨_,a₁,w₁,hq, .pass (x:= .inLoop c') rfl (λ_ _=> .inl (by simp)) harr⟩
  |ret=>exact⟨_,a₁,w₁,hq, .pass (x:= .inLoop c') rfl (λ_ _=> .inl (by simp)) harr⟩
  |panic ch=>exact⟨_,a₁,w₁,hq, .pass (x:= .inLoop c') rfl (λ_ _=> .inl (by simp)) harr⟩
  |outgrown=>exact⟨_,a₁,w₁,hq, .pass (x:= .inLoop c') rfl (λ_ _=> .inl (by simp)) harr⟩
def bG0 (HR:aVd P Y TI FZ IL g){f:Nat}(IH:aQu P Y TI FZ IL g f/\aOl P Y TI FZ IL g f):aQu P Y TI FZ IL g (f+1):=by
  intro E hE hP an c α s N X R z D hw ha h
  rcases aZ1 an with⟨tm,a,rfl⟩|⟨tm,a,rfl⟩|hn
  ·replace h:(bif wr tm.ws f c&&anW tm.ws a then bd (ev Y TI FZ IL f a c (Dat U tm.it) s (λs'=>col Y s tm s') (λ_ _=>none) (λ_=>none)) λd=>N (reb Y s tm d) else none)=some z:=h
   cases hb:(wr tm.ws f c&&anW tm.ws a) with
   |false=>rw[hb] at h;cases h
   |true=>
    rw[hb] at h
    simp only[ae] at h
    simp only[aa] at hb
    obtain⟨d,h1,h2⟩:=gM h
    intro Q hN hX hR a0 w0 β0 r0
    refine IH.1 E hE hP a c _ s _ _ _ d _ (aOk hb.1) (pO hb.2) h1 Q (λs' a' w' β' hag hc r'=> ?_) (λi s' a' w' β' _ hc _=>by cases hc) (λs' a' w' β' _ hc _=>by cases hc) a0 w0 β0 r0
    obtain⟨β'',r''⟩:=rY hE r0 r' hag hc
    obtain⟨_,_,_,hs,_⟩:=Cb hc
    exact hN _ _ _ _ ((Q5 hs).mono ha.1) h2 r''
  ·replace h:(bif wr tm.ws f c&&anW tm.ws a then nx (ev Y TI FZ IL f a c (α⊕Dat U tm.it) s (λs'=>bd (col Y s tm s') λd=>some (.inr d)) (λi s'=>bd (X i s') λr=>some (.inl r)) (λs'=>bd (R s') λr=>some (.inl r))) λd=>N (reb Y s tm d) else none)=some z:=h
   cases hb:(wr tm.ws f c&&anW tm.ws a) with
   |false=>rw[hb] at h;cases h
   |true=>
    rw[hb] at h
    simp only[ae] at h
    simp only[aa] at hb
    obtain⟨q,h1,h2⟩:=bCn h
    intro Q hN hX hR a0 w0 β0 r0
    refine IH.1 E hE hP a c _ s _ _ _ q _ (aOk hb.1) (pO hb.2) h1 Q (λs' a' w' β' hag hc r'=> ?_) (λi s' a' w' β' hag hc r'=> ?_) (λs' a' w' β' hag hc r'=> ?_) a0 w0 β0 r0
    ·obtain⟨d,h3,h4⟩:=gM hc
     have:=aj h4;subst this
     obtain⟨β'',r''⟩:=rY hE r0 r' hag h3
     obtain⟨_,_,_,hs,_⟩:=Cb h3
     exact hN _ _ _ _ ((Q5 hs).mono ha.1) h2 r''
    ·obtain⟨d,h3,h4⟩:=gM hc
     have:=aj h4;subst this
     obtain rfl:d=z:=h2
     exact hX i s' a' w' β' (hag.mono ha.1) h3 r'
    ·obtain⟨d,h3,h4⟩:=gM hc
     have:=aj h4;subst this
     obtain rfl:d=z:=h2
     exact hR s' a' w' β' (hag.mono ha.1) h3 r'
  cases c with
  |seq a b=>
   rw[bGy hn] at h
   intro Q hN hX hR a0 w0 β0 r0
   exact wp_seq (IH.1 E hE hP an.a a _ s _ _ _ z D hw.1 ha.a h (Exit.then (b.wp P Q) Q) (λs' a' w' β' hag h2 r'=>
    IH.1 E hE hP an.b b _ s' _ _ _ z D hw.2 ha.b h2 Q (λs2 a2 w2 β2 hg=>hN s2 a2 w2 β2 (hag.trans hg)) (λi s2 a2 w2 β2 hg=>hX i s2 a2 w2 β2 (hag.trans hg)) (λs2 a2 w2 β2 hg=>hR s2 a2 w2 β2 (hag.trans hg)) a' w' β' r')
    (λi s' a' w' β' hag h2 r'=>hX i s' a' w' β' hag h2 r') (λs' a' w' β' hag h2 r'=>hR s' a' w' β' hag h2 r') a0 w0 β0 r0)
  |cond c0 a b=>
    obtain⟨n,rfl⟩:=aZz hn h
    rw[bC8 hn] at h
    intro Q hN hX hR a0 w0 β0 r0
    obtain⟨t,s1,k1,k2,k3,k4,k5,k6⟩:=aMk r0 h
    have hag:=k6.mono (D':=D) (λk e=>e▸hw.1 n rfl)
    refine wp_cond_split k1 (λht=> ?_) (λhf=> ?_)
    ·exact IH.1 E hE hP an.a a _ s1 _ _ _ z D hw.2.1 ha.a (k4 ht) Q (λs2 a2 w2 β2 hg=>hN s2 a2 w2 β2 (hag.trans hg)) (λi s2 a2 w2 β2 hg=>hX i s2 a2 w2 β2 (hag.trans hg)) (λs2 a2 w2 β2 hg=>hR s2 a2 w2 β2 (hag.trans hg)) a0 w0 β0 k3
    ·exact IH.1 E hE hP an.b b _ s1 _ _ _ z D hw.2.2 ha.b (k5 hf) Q (λs2 a2 w2 β2 hg=>hN s2 a2 w2 β2 (hag.trans hg)) (λi s2 a2 w2 β2 hg=>hX i s2 a2 w2 β2 (hag.trans hg)) (λs2 a2 w2 β2 hg=>hR s2 a2 w2 β2 (hag.trans hg)) a0 w0 β0 k3
  |block id c'=>
   rw[aZ0 hn] at h
   intro Q hN hX hR a0 w0 β0 r0
   refine wp_block (IH.1 E hE hP an.a c' _ s _ _ _ z D hw ha.a h (Exit.inBlock id Q) (λs' a' w' β' hag h2 r'=>hN s' a' w' β' hag h2 r') (λi s' a' w' β' hag h2 r'=> ?_) (λs' a' w' β' hag h2 r'=>hR s' a' w' β' hag h2 r') a0 w0 β0 r0)
   simp only[Exit.inBlock]
   cases hb:Nat.beq i id with
   |true=>
    rw[cr (ah hb)]
    simp only[hb,ae] at h2
    exact hN s' a' w' β' hag h2 r'
   |false=>
    rw[cJ (λe=>by subst e;rw[show Nat.beq i i=true from da i] at hb;cases hb)]
    simp only[hb,ac] at h2
    exact hX i s' a' w' β' hag h2 r'
  |loop c'=>
   intro Q hN hX hR a0 w0 β0 r0 b kk cs
   obtain⟨e,a',w',hq,harr⟩:=aVe IH E hE hP an c' α s N X R z D hn hw ha h Q hN hX hR a0 w0 β0 r0 b kk cs
   exact⟨e,a',w',hq, .of_steps (.one step_loop) harr⟩
  |skip=>
   rw[bDa hn] at h
   intro Q hN hX hR a0 w0 β0 r0
   exact wp_skip (hN s a0 w0 β0 (Ag.refl s) h r0)
  |ret=>
   rw[bGz hn] at h
   intro Q hN hX hR a0 w0 β0 r0
   exact wp_ret (hR s a0 w0 β0 (Ag.refl s) h r0)
  |exit i=>
   rw[bDb hn] at h
   intro Q hN hX hR a0 w0 β0 r0
   exact wp_exit (hX i s a0 w0 β0 (Ag.refl s) h r0)
  |region id os d=>
   rw[aXg hn] at h
   exact HR E hE hP α _ (λE hE hP an c s K z h=>IH.1 E hE hP an c _ s _ _ _ z (λ_=>True) (WC.true c) (AW.true an) h) id os d an s N X R z D hw ha h
  |_=>cases an<;>first|exact absurd rfl (hn.1 _ _)|exact absurd rfl (hn.2 _ _)|cases h
def aOm (HR:aVd P Y TI FZ IL g):∀(f:Nat),aQu P Y TI FZ IL g f/\aOl P Y TI FZ IL g f
 |0=>And.intro (λE _ _ an c α s N X R z D _ _ h=>nomatch h) (λE _ _ an c' α s N X R z D _ _ _ h=>nomatch h)
 |f+1=>⟨bG0 HR (aOm HR f),aVe (aOm HR f)⟩
def aGi (HR:aVd P Y TI FZ IL g)(f:Nat):aQu P Y TI FZ IL g f:=(aOm HR f).1
end
end Go.EV

namespace Go.EV
open Go.RowKit Go.VK
variable {U:Uni} {Y:Lay U} {TI:List (Nat×TInfo)} {FZ:List (Nat×Sum U)} {P:Program} {g:GI} {E:Env U g}
section
variable {s:St U} {a:Act} {w:World} {β:List Tr} {α:Type}
def aOn (G:Good P g Y TI FZ)(r:aW Y.C E s a w β){al:List Oper}{o:Oper}{K:St U->Option α}{z:α}(h:grd Y TI FZ al o s K=some z){K':Act->World->Prop}{Q:Exit->Act->World->Prop}
  (hk:∀s' v w' β',Ag (Wr al o) s s'->K s'=some z->aW Y.C E s' (a.put o.dst v) w' β'->(Nat.ble (qL FZ o.op) 1=true->Ext w w')->K' (a.put o.dst v) w'):if Region.wanted o (yielded al.toArray a.tmps)=true then o.wp P a w K' Q else K' (a.put o.dst undef) w:=by
 obtain⟨s1,r1,h1,h2⟩:=Q0 r h
 rcases h2 with⟨hw,h2⟩|⟨hw,h2⟩
 ·rw[cr hw]
  unfold one at h2
  obtain⟨x,s2,k1,k2,k3,k4,k5⟩:=aMj G r1 rfl h2
  exact k2 K' Q λv w' β' q1 q2 q3=>hk _ v w' β' (Ag.put ⟨λn hn=>by rw[k3];exact h1.t n hn,by rw[k3];exact h1.tl,by rw[k4];exact h1.fr,h1.m.trans k5⟩ (λn e=> .inl e)) k1 (q1.put q2) q3
 ·rw[cJ (by rw[hw];simp)]
  exact hk _ _ w β (h1.put (λn e=> .inl e)) h2 (r1.put (x:= .l .und) (v:=undef) (λ_=>rfl)) (λ_=>Ext.refl w)
def aW.aBM {C:Cod U}(r:aW C E s a w β){d:Option Nat}{x:Sv U}{v:Value}(h:d≠none->x.mean C w (E.X β) β s.m v)(hv:∀n,d=some n->a.tmps.getD n undef=v):aW C E (EV.put s d x) a w β:=by
 have r':=r.put h
 refine⟨r'.hp,r.defers,?_,λn y hy=> ?_⟩
 ·rw[r.tsz];cases d with
  |none=>rfl
  |some m=>simp[EV.put,bN]
 ·have:=r'.tm n y hy
  cases d with
  |none=>exact this
  |some m=>
   by_cases hm:m=n
   ·subst hm
    by_cases hl:m<a.tmps.size
    ·rw[show(a.put (some m) v).tmps.getD m undef=v from by simp only[Act.put];rw[sG _ _ _ _ _ hl,cr rfl]] at this
     rw[hv m rfl];exact this
    ·rw[show(a.put (some m) v).tmps=a.tmps from et (by omega)] at this;exact this
   ·rw[show(a.put (some m) v).tmps.getD n undef=a.tmps.getD n undef from by
     simp only[Act.put]
     by_cases hl:m<a.tmps.size
     ·rw[sG _ _ _ _ _ hl,cJ hm]
     ·rw[et (by omega)]] at this
    exact this
def Xx {d:Option Nat}{v:Value}{n:Nat}(h:d≠some n):(a.put d v).tmps.getD n undef=a.tmps.getD n undef:=by
 cases d with
 |none=>rfl
 |some m=>
  simp only[Act.put]
  by_cases hl:m<a.tmps.size
  ·rw[sG _ _ _ _ _ hl,cJ (λe=>h (by rw[e]))]
  ·rw[et (by omega)]
def aW.aBU {C:Cod U}(r:aW C E s a w β){d:Option Nat}{v:Value}(h:aKj s d=true):aW C E s (a.put d v) w β:=by
 refine⟨r.hp,?_,?_,λn x hx=> ?_⟩
 ·cases d<;>exact r.defers
 ·rw[<-r.tsz];cases d with
  |none=>rfl
  |some m=>simp[Act.put]
 ·by_cases hd:d=some n
  ·subst hd
   simp only[aKj,aP,hx] at h
   split at h
   ·rename_i hh;have:=aj hh;subst this;trivial
   ·cases h
  ·rw[Xx hd];exact r.tm n x hx
def aW.aCW {C:Cod U}(r:aW C E s a w β){d:Option Nat}:aW C E (EV.put s d (.l .any)) a w β:=by
 cases d with
 |none=>exact r
 |some n=>exact r.aBM (v:=a.tmps.getD n undef) (λ_=>trivial) (λm e=>by cases e;rfl)
def yR {o:Oper}(h:O7 o.op=true){a:Act}{w:World}{v:Value}(hr:(execOp a.eval o).run P w= .ok (.value v) w)(w':World):(execOp a.eval o).run P w'= .ok (.value v) w':=by
 cases ho:o.op with
 |move x=>simp[execOp,ho] at hr ⊢;exact hr
 |assign x=>simp[execOp,ho] at hr ⊢;exact hr
 |extract x i=>
  simp only[execOp,ho] at hr ⊢
  cases hx:a.eval x with
  |tuple vs=>
   rw[hx] at hr
   simp only[Instr.extract] at hr ⊢
   cases hv:vs[i]? with
   |none=>rw[hv] at hr;simp at hr
   |some u=>rw[hv] at hr;simp at hr ⊢;exact hr
  |_=>rw[hx] at hr;simp[Instr.extract] at hr
 |_=>rw[ho] at h;cases h
def Pn {a0:Option Nat}{i:Nat}{listed:Array Bool}{pre:Bool}(h:a0Y a0 i listed=true)(hp:eQ a0 listed=pre):eQ a0 (listed.setIfInBounds i true)=(pre&& !vP a0 i):=by
 cases a0 with
 |none=>have:pre=true:=hp.symm;subst this;rfl
 |some b=>
  by_cases hb:b=i
  ·subst hb
   have e:vP (some b) b=true:=da b
   rw[e]
   simp only[a0Y,co,cE,cq] at h
   rw[h];simp
  ·have e:vP (some b) i=false:=by
    unfold vP
    cases hh:Nat.beq b i with
    |false=>exact hh
    |true=>exact absurd (ah hh) hb
   rw[e,rM (λe=>hb (aj e)),hp];simp
def bIw {os:Array Oper}{a0:Option Nat}(hs:Region.noSelect os=true){Q:Exit->Act->World->Prop}{i:Nat}{o:Oper}{v:Value}{n:Nat}{listed:Array Bool}{wS:World}(ho:os[i]? =some o)(hD:Dn .any os listed)(hc:tkY os a0 i listed=true)
  (hy:YieldsIf P os (Ext wS) o v a) (hpu:O7 o.op=true->YieldsIf P os (λ_=>True) o v a) (hS:eQ a0 listed=true->Ext wS w)
  (h:cZ P .any os a0 (NoPanic Q) (Ext wS) n (listed.setIfInBounds i true) (a.put o.dst v) w):cZ P .any os a0 (NoPanic Q) (Ext wS) (n+1) listed a w:=by
 simp only[tkY,aa] at hc
 obtain⟨⟨h1,h2⟩,h3⟩:=hc
 have h2':i∈Region.ready .any os listed:=by simpa using h2
 cases a0 with
 |none=>exact jI ho (Region.noSelect_spec hs) (λ_ _ _ h=>h) (by simp) (λ_ _ _=>rfl) n listed a w (Region.free_spec ho h1) hD h2' hy (hS rfl) h
 |some b=>
  simp only[aa,bne_iff_ne,ne_eq,ck,ho] at h3
  have hne:some b≠some i:=λe=>h3.1 (aj e)
  rcases h3.2 with h4|h4
  ·have hbar:∀listed,Dn .any os listed->listed.getD i true=false->eQ (some b) listed=true:=λlisted hD hun=>by
    simp only[eQ,cq]
    exact getD_in (Ld hD hun 40 b h4)
   exact jI ho (Region.noSelect_spec hs) (λ_ _ _ h=>h) hne hbar n listed a w (Region.free_spec ho h1) hD h2' hy (hS (hbar _ hD (mem_ready.1 h2').1)) h
  ·exact yA ho (Region.noSelect_spec hs) (λ_ _ _ h=>h) hne n listed a w (Region.free_spec ho h1) h2' (hpu h4) hS h
def lZ {os:Array Oper}{a0:Option Nat}{i:Nat}{listed:Array Bool}(h:tkY os a0 i listed=true):i∈Region.ready .any os listed/\a0≠some i:=by
 simp only[tkY,aa] at h
 refine⟨by simpa using h.1.2,λe=> ?_⟩
 subst e
 have:=h.2
 simp at this
structure Lk (E:Env U g) (kd:Option (Nat×Nat)) (st pre:Bool) (wS w:World):Prop where
 fr:∀n k,kd=some (n,k)->(wS,n,k)∈E.fr
 st:st=true->wS=w
 no:kd=none->wS=w
 pre:pre=true->Ext wS w
def stepT (G:Good P g Y TI FZ){al:List Oper}{a0:Option Nat}(hs:Region.noSelect al.toArray=true){Q:Exit->Act->World->Prop}{i:Nat}{o:Oper}{n:Nat}{listed:Array Bool}{wS:World}(ho:al[i]? =some o)(hD:Dn .any al.toArray listed)(hc:tkY al.toArray a0 i listed=true)
  {K:St U->Option α} {z:α} {st:Bool} (h:(bif Nat.beq (qL FZ o.op) 0&&(O7 o.op||st) then grd Y TI FZ al o s K else none)=some z) (hst:st=true->wS=w) (hS:eQ a0 listed=true->Ext wS w) (r:aW Y.C E s a w β)
  (hk:∀v s',Ag (Wr al o) s s'->K s'=some z->aW Y.C E s' (a.put o.dst v) w β->cZ P .any al.toArray a0 (NoPanic Q) (Ext wS) n (listed.setIfInBounds i true) (a.put o.dst v) w):cZ P .any al.toArray a0 (NoPanic Q) (Ext wS) (n+1) listed a w:=by
 cases hb:(Nat.beq (qL FZ o.op) 0&&(O7 o.op||st)) with
 |false=>rw[hb] at h;cases h
 |true=>
  rw[hb] at h
  simp only[ae] at h
  simp only[aa,ck] at hb
  obtain⟨v,s',h1,h2,h3,h4⟩:=bC6 G r (ah hb.1) h
  have hg:al.toArray[i]? =some o:=by simpa using ho
  have hpu:O7 o.op=true->YieldsIf P al.toArray (λ_=>True) o v a:=λhp=>h1.imp (λ⟨k1,k2⟩=>⟨k1,λw' _=>yR hp (k2 w (Ext.refl w)) w'⟩) id
  refine bIw hs hg hD hc ?_ hpu hS (hk v s' h4 h3 h2)
  rcases hb.2 with hp|hp
  ·exact(hpu hp).imp (λ⟨k1,k2⟩=>⟨k1,λw' _=>k2 w' trivial⟩) id
  ·have:=hst hp;subst this;exact h1
def aQv (G:Good P g Y TI FZ){al:List Oper}{a0:Option Nat}{kd:Option (Nat×Nat)}{Q:Exit->Act->World->Prop}{i:Nat}{o:Oper}{n:Nat}{listed:Array Bool}{wS:World}(ho:al[i]? =some o){pre st:Bool}(ha:a0Y a0 i listed=true)(hp:eQ a0 listed=pre)
  {K:St U->Option α} {z:α} (h:grd Y TI FZ al o s (λs'=>bif !(pre&& !vP a0 i)||(Nat.ble (qL FZ o.op) 1||unO kd s'.m.o) then K s' else none)=some z) (hl:Lk E kd st pre wS w) (r:aW Y.C E s a w β)
  (hk:∀v s' w' β' wS',Ag (Wr al o) s s'->K s'=some z->aW Y.C E s' (a.put o.dst v) w' β'->Lk E kd (st&&yI kd) (pre&& !vP a0 i) wS' w'->cZ P .any al.toArray a0 (NoPanic Q) (Ext wS') n (listed.setIfInBounds i true) (a.put o.dst v) w'):
  wpOp P al.toArray (NoPanic Q) i (λa' w'=>(eQ a0 (listed.setIfInBounds i true)=true->Ext wS w')/\cZ P .any al.toArray a0 (NoPanic Q) (Ext wS) n (listed.setIfInBounds i true) a' w') a w:=by
 have hny:=Pn ha hp
 have hg:al.toArray[i]? =some o:=by simpa using ho
 refine wpOp_step hg λK' hK'=>aOn G r h λs' v w' β' q1 q2 q3 q4=>hK' _ _ ?_
 cases hb:(!(pre&& !vP a0 i)||(Nat.ble (qL FZ o.op) 1||unO kd s'.m.o)) with
 |false=>rw[hb] at q2;cases q2
 |true=>
  rw[hb] at q2
  simp only[ae] at q2
  have hext:(pre&& !vP a0 i)=true->Ext wS w':=λhpp=>by
   rw[hpp] at hb
   simp only[bl,cE,ck] at hb
   simp only[aa] at hpp
   rcases hb with hb|hb
   ·exact(hl.pre hpp.1).trans (q4 hb)
   ·cases hkd:kd with
    |none=>rw[hkd] at hb;cases hb
    |some p=>
     obtain⟨n0,k0⟩:=p
     rw[hkd] at hb
     exact q3.unt (hl.fr n0 k0 hkd) hb
  refine⟨λhn=>hext (hny.symm.trans hn),?_⟩
  cases hkd:kd with
  |some p=>
   exact hk v s' w' β' wS q1 q2 q3 ⟨hl.fr,λh=>(by rw[hkd] at h;simp[yI] at h),λh=>(by rw[hkd] at h;cases h),hext⟩
  |none=>
   have hw:=hl.no hkd
   have hk':=hk v s' w' β' w' q1 q2 q3 ⟨λn k h=>(by rw[hkd] at h;cases h),λ_=>rfl,λ_=>rfl,λ_=>Ext.refl w'⟩
   cases hpp:(pre&& !vP a0 i) with
   |true=>exact pJ (λx hx=>(hext hpp).trans hx) _ _ _ _ hk'
   |false=>exact lW _ _ _ _ (hny.trans hpp) hk'
variable {al:List Oper} {a0:Option Nat} {kd:Option (Nat×Nat)} {Q:Exit->Act->World->Prop} {D:Nat->Prop}
def aQw (G:Good P g Y TI FZ)(hs:Region.noSelect al.toArray=true):∀(l:List (Nat×Bool)) (pre st:Bool) (s:St U) (K:St U->Option α) (z:α),(∀i∈l,∀o,al[i.1]? =some o->∀n,Wr al o n->D n)->Xk Y TI FZ al a0 kd l none pre st s K=some z->
  (∀s' a w β,Ag D s s'->K s'=some z->aW Y.C E s' a w β->Q .normal a w)->∀listed,Dn .any al.toArray listed->Gw al.toArray a0 l listed=true->eQ a0 listed=pre->∀a w β wS,Lk E kd st pre wS w->aW Y.C E s a w β->cZ P .any al.toArray a0 (NoPanic Q) (Ext wS) l.length listed a w
 |[],pre,st,s,K,z,_,h,hQ,listed,_,hc,_,a,w,β,wS,_,r=>lX (P:=P) (a0:=a0) (S:=Ext wS) (Q:=NoPanic Q) (by simpa[Gw] using hc) (hQ s a w β (Ag.refl s) h r) 0
 |(i,fl)::l,pre,st,s,K,z,hD,h,hQ,listed,hdn,hc,hp,a,w,β,wS,hl,r=>by
  simp only[Xk,aP] at h
  cases ho:al[i]? with
  |none=>rw[ho] at h;cases h
  |some o=>
   rw[ho] at h
   simp only at h
   have hDi:=hD (i,fl) (by simp) o ho
   have hD':∀j∈l,∀o,al[j.1]? =some o->∀n,Wr al o n->D n:=λj hj=>hD j (by simp[hj])
   cases fl with
   |true=>
    simp only[Gw,aa] at hc
    obtain⟨hr,hne⟩:=lZ hc.1
    exact stepT G hs ho hdn hc.1 h hl.st (λhn=>hl.pre (hp.symm.trans hn)) r λv s' h1 h2 h3=>
     aQw G hs l pre st s' K z hD' h2 (λs2 a2 w2 β2 g1=>hQ s2 a2 w2 β2 ((h1.mono hDi).trans g1)) _ (hdn.set hr) hc.2 ((rM hne).trans hp) _ w β wS hl h3
   |false=>
    simp only[Gw,aa,cF] at hc
    simp only[ac] at h
    rw[show aB9 Y TI al none s=true from rfl] at h
    simp only[ae] at h
    refine iF hc.1 (by simp) λi' hi'=> ?_
    simp at hi';subst hi'
    exact aQv G ho hc.2.1 hp h hl r λv s' w' β' wS' h1 h2 h3 h4=>
     aQw G hs l _ _ s' K z hD' h2 (λs2 a2 w2 β2 g1=>hQ s2 a2 w2 β2 ((h1.mono hDi).trans g1)) _ (hdn.set (by rw[hc.1];simp)) hc.2.2 (Pn hc.2.1 hp) _ w' β' wS' h4 h3
def aGj {j:Nat}{oj:Oper}(ho:al[j]? =some oj)(h:aB9 Y TI al (some j) s=true):oj.guard=none/\aKj s oj.dst=true/\vQ Y TI s oj.op=true/\aSt oj oj.dst=true:=by
 simp only[aB9,aP,ho,aa] at h
 refine⟨?_,h.2.1,h.2.2.2,h.2.2.1⟩
 cases hg:oj.guard with
 |none=>rfl
 |some x=>rw[hg] at h;cases h.1
def aZ2 {oj:Oper}{d:Option Nat}(h:aY4 oj d=true):∀n,oj.dst=some n->d≠some n:=λn hn e=>by
 subst e
 simp only[aY4,hn,aa] at h
 have:=h.1
 rw[show Nat.beq n n=true from da n] at this
 cases this
def aZ3 {oj:Oper}{d:Option Nat}(h:aY4 oj d=true):aSt oj d=true:=by
 simp only[aY4,aa] at h;exact h.2
def Lk.mk1 {b:Nat}{blk:Obj}{hb:E.w0.heap.size<=b}{st pre:Bool}{wS:World}(h:Lk E kd st pre wS w):Lk (E.ahd b blk hb) kd st pre wS w:=⟨h.fr,h.st,h.no,h.pre⟩
def Lk.un1 {b:Nat}{blk:Obj}{hb:E.w0.heap.size<=b}{st pre:Bool}{wS:World}(h:Lk (E.ahd b blk hb) kd st pre wS w):Lk E kd st pre wS w:=⟨h.fr,h.st,h.no,h.pre⟩
def aZ4 (G:Good P g Y TI FZ)(hs:Region.noSelect al.toArray=true)(hP:E.prm=[]){j:Nat}{oj:Oper}(hj:al[j]? =some oj)(hgj:oj.guard=none)(hja:a0≠some j){b:Nat}{blk:Obj}{hb:E.w0.heap.size<=b}:∀(l:List (Nat×Bool)) (m:Nat) (pre st:Bool) (s:St U) (K:St U->Option α) (z:α),m+1=l.length->(∀i∈l,∀o,al[i.1]? =some o->∀n,Wr al o n->D n)->Xk Y TI FZ al a0 kd l (some j) pre st s K=some z->
  (∀s' a w β,Ag D s s'->K s'=some z->aW Y.C E s' a w β->Q .normal a w)->∀listed,Dn .any al.toArray listed->aSu al.toArray a0 oj j l listed=true->eQ a0 listed=pre->∀a w β wS,Lk E kd st pre wS w->Flp P a oj blk->(∀n,oj.dst=some n->a.tmps.getD n undef=mkF oj.op b)->aW Y.C (E.ahd b blk hb) s a w β->cZ P .any al.toArray a0 (NoPanic Q) (Ext wS) m listed a w
 |[],m,pre,st,s,K,z,hm,_,h,hQ,listed,_,hc,_,a,w,β,wS,_,_,_,r=>by cases hc
 |(i,fl)::l,m,pre,st,s,K,z,hm,hD,h,hQ,listed,hdn,hc,hp,a,w,β,wS,hl,hF,hv,r=>by
  have hm':m=l.length:=by simpa using hm
  have hD':∀j∈l,∀o,al[j.1]? =some o->∀n,Wr al o n->D n:=λj hj=>hD j (by simp[hj])
  simp only[aSu] at hc
  simp only[Xk,aP] at h
  cases hij:Nat.beq i j with
  |true=>
   have e:=ah hij
   subst e
   rw[hij] at hc
   simp only[ae,aa] at hc
   have hfl:fl=false:=by simpa using hc.1
   subst hfl
   rw[hj] at h
   simp only[ac] at h
   have hDi:=hD (i,false) (by simp) oj hj
   cases hfa:aB9 Y TI al (some i) s with
   |false=>rw[hfa] at h;cases h
   |true=>
    rw[hfa] at h
    simp only[ae] at h
    obtain⟨_,_,hok,_⟩:=aGj hj hfa
    have hself:vP (some i) i=true:=da i
    have hna:vP a0 i=false:=by
     cases a0 with
     |none=>rfl
     |some c=>
      cases hh:vP (some c) i with
      |false=>rfl
      |true=>exact absurd (congrArg some (ah hh)) hja
    rw[hself,hna] at h
    simp only[ae,eJ,eg] at h
    unfold grd aKi at h
    rw[hgj] at h
    simp only[one] at h
    obtain⟨x,s',β',k1,k2,k3,k4,k5,k6⟩:=aXd G r hP hF hok h
    cases hcc:(!pre||(Nat.ble (qL FZ oj.op) 1||unO kd (EV.put s' oj.dst x).m.o)) with
    |false=>rw[hcc] at k1;cases k1
    |true=>
     rw[hcc] at k1
     simp only[ae] at k1
     have hag:Ag D s (EV.put s' oj.dst x):=Ag.put ⟨λn _=>by rw[k4],by rw[k4],k5,k6⟩ (λn e=>hDi n (.inl e))
     rw[hm']
     exact aQw G hs l pre _ _ K z hD' k1 (λs2 a2 w2 β2 g1=>hQ s2 a2 w2 β2 (hag.trans g1)) listed hdn hc.2 hp a w β' wS ⟨hl.fr,λh=>hl.st (by simp only[aa] at h;exact h.1),hl.no,hl.pre⟩ (k2.aBM (λ_=>k3) hv)
  |false=>
   rw[hij] at hc
   simp only[ac] at hc
   have hnA:vP (some j) i=false:=by
    show Nat.beq j i=false
    cases hh:Nat.beq j i with
    |false=>rfl
    |true=>have:=ah hh;subst this;rw[show Nat.beq j j=true from da j] at hij;cases hij
   cases ho:al[i]? with
   |none=>rw[ho] at h;cases h
   |some o=>
    rw[ho] at h
    simp only at h
    have hg:al.toArray[i]? =some o:=by simpa using ho
    rw[hg] at hc
    simp only[aa] at hc
    obtain⟨hoff,hc⟩:=hc
    have hDi:=hD (i,fl) (by simp) o ho
    have hlen:∃m',m=m'+1/\m'+1=l.length:=by
     cases l with
     |nil=>cases fl<;>(simp only[ae,ac,aSu,cT,aa] at hc;simp at hc)
     |cons x l=>exact⟨l.length,by simpa using hm',by simp⟩
    obtain⟨m',rfl,hm2⟩:=hlen
    have hoffd:∀n,oj.dst=some n->∀v,(a.put o.dst v).tmps.getD n undef=mkF oj.op b:=λn hn v=>by rw[Xx (aZ2 hoff n hn)];exact hv n hn
    cases fl with
    |true=>
     simp only[ae,aa] at hc
     obtain⟨hr,hne⟩:=lZ hc.1
     exact stepT G hs ho hdn hc.1 h hl.st (λhn=>hl.pre (hp.symm.trans hn)) r λv s' h1 h2 h3=>
      aZ4 G hs hP hj hgj hja l m' pre st s' K z hm2 hD' h2 (λs2 a2 w2 β2 g1=>hQ s2 a2 w2 β2 ((h1.mono hDi).trans g1)) _ (hdn.set hr) hc.2 ((rM hne).trans hp) _ w β wS hl (hF.keep (aZ3 hoff)) (λn hn=>hoffd n hn v) h3
    |false=>
     simp only[ac,aa,cF] at hc
     simp only[ac,hnA] at h
     cases hfa:aB9 Y TI al (some j) s with
     |false=>rw[hfa] at h;cases h
     |true=>
      rw[hfa] at h
      simp only[ae] at h
      refine iF hc.1 (by simp) λi' hi'=> ?_
      simp at hi';subst hi'
      exact aQv G ho hc.2.1 hp h hl.mk1 r λv s' w' β' wS' h1 h2 h3 h4=>
       aZ4 G hs hP hj hgj hja l m' _ _ s' K z hm2 hD' h2 (λs2 a2 w2 β2 g1=>hQ s2 a2 w2 β2 ((h1.mono hDi).trans g1)) _ (hdn.set (by rw[hc.1];simp)) hc.2.2 (Pn hc.2.1 hp) _ w' β' wS' h4.un1 (hF.keep (aZ3 hoff)) (λn hn=>hoffd n hn v) h3
def aZ5 (G:Good P g Y TI FZ)(hs:Region.noSelect al.toArray=true)(hP:E.prm=[]){j:Nat}{oj:Oper}(hj:al[j]? =some oj)(hja:a0≠some j):∀(l:List (Nat×Bool)) (pre st:Bool) (s:St U) (K:St U->Option α) (z:α),(∀i∈l,∀o,al[i.1]? =some o->∀n,Wr al o n->D n)->Xk Y TI FZ al a0 kd l (some j) pre st s K=some z->
  (∀s' a w β,Ag D s s'->K s'=some z->aW Y.C E s' a w β->Q .normal a w)->∀listed,Dn .any al.toArray listed->aY5 al.toArray a0 oj j l listed=true->eQ a0 listed=pre->∀a w β wS,Lk E kd st pre wS w->aW Y.C E s a w β->cZ P .any al.toArray a0 (NoPanic Q) (Ext wS) l.length listed a w
 |[],pre,st,s,K,z,_,h,hQ,listed,_,hc,_,a,w,β,wS,_,r=>by cases hc
 |(i,fl)::l,pre,st,s,K,z,hD,h,hQ,listed,hdn,hc,hp,a,w,β,wS,hl,r=>by
  have hD':∀j∈l,∀o,al[j.1]? =some o->∀n,Wr al o n->D n:=λj hj=>hD j (by simp[hj])
  have hfull:=h
  simp only[aY5] at hc
  simp only[Xk,aP] at h
  cases ho:al[i]? with
  |none=>rw[ho] at h;cases h
  |some o=>
   rw[ho] at h
   simp only at h
   have hDi:=hD (i,fl) (by simp) o ho
   cases hij:Nat.beq i j with
   |true=>
    have e:=ah hij
    subst e
    rw[hij] at hc
    simp only[ae,aa,cF] at hc
    have hfl:fl=false:=by simpa using hc.1
    subst hfl
    simp only[ac] at h
    cases hfa:aB9 Y TI al (some i) s with
    |false=>rw[hfa] at h;cases h
    |true=>
     rw[hfa] at h
     simp only[ae] at h
     have hself:vP (some i) i=true:=da i
     rw[hself] at h
     simp only[ae] at h
     have ha:a0Y a0 i listed=true:=by
      unfold a0Y
      rw[show(a0 !=some i)=true from by simpa using hja];rfl
     refine iF hc.2.1 (by simp) λi' hi'=> ?_
     simp at hi';subst hi'
     exact aQv G ho ha hp h hl r λv s' w' β' wS' h1 h2 h3 h4=>
      aQw G hs l _ _ s' K z hD' h2 (λs2 a2 w2 β2 g1=>hQ s2 a2 w2 β2 ((h1.mono hDi).trans g1)) _ (hdn.set (by rw[hc.2.1];simp)) hc.2.2 (Pn ha hp) _ w' β' wS' h4 h3
   |false=>
    rw[hij] at hc
    simp only[ac] at hc
    have hnA:vP (some j) i=false:=by
     show Nat.beq j i=false
     cases hh:Nat.beq j i with
     |false=>rfl
     |true=>have:=ah hh;subst this;rw[show Nat.beq j j=true from da j] at hij;cases hij
    cases fl with
    |true=>
     simp only[ae,aa] at hc
     obtain⟨hr,hne⟩:=lZ hc.1
     exact stepT G hs ho hdn hc.1 h hl.st (λhn=>hl.pre (hp.symm.trans hn)) r λv s' h1 h2 h3=>
      aZ5 G hs hP hj hja l pre st s' K z hD' h2 (λs2 a2 w2 β2 g1=>hQ s2 a2 w2 β2 ((h1.mono hDi).trans g1)) _ (hdn.set hr) hc.2 ((rM hne).trans hp) _ w β wS hl h3
    |false=>
     simp only[ac,aa] at hc
     simp only[ac,hnA] at h
     cases hfa:aB9 Y TI al (some j) s with
     |false=>rw[hfa] at h;cases h
     |true=>
      rw[hfa] at h
      simp only[ae] at h
      obtain⟨hgj,hany,hok,hself⟩:=aGj hj hfa
      have hgi:al.toArray[j]? =some oj:=by simpa using hj
      have inT:i∈Region.ready .any al.toArray listed->wpOp P al.toArray (NoPanic Q) i (λa' w'=>(eQ a0 (listed.setIfInBounds i true)=true->Ext wS w')/\cZ P .any al.toArray a0 (NoPanic Q) (Ext wS) l.length (listed.setIfInBounds i true) a' w') a w:=λhir=>
       aQv G ho hc.2.1 hp h hl r λv s' w' β' wS' h1 h2 h3 h4=>
        aZ5 G hs hP hj hja l _ _ s' K z hD' h2 (λs2 a2 w2 β2 g1=>hQ s2 a2 w2 β2 ((h1.mono hDi).trans g1)) _ (hdn.set hir) hc.2.2 (Pn hc.2.1 hp) _ w' β' wS' h4 h3
      have early:j∈Region.ready .any al.toArray listed->aSu al.toArray a0 oj j ((i,false)::l) (listed.setIfInBounds j true)=true->wpOp P al.toArray (NoPanic Q) j (λa' w'=>(eQ a0 (listed.setIfInBounds j true)=true->Ext wS w')/\cZ P .any al.toArray a0 (NoPanic Q) (Ext wS) l.length (listed.setIfInBounds j true) a' w') a w:=λhjr hc1=>by
       obtain⟨blk,hF⟩:=aMl G r hok
       have hny:eQ a0 (listed.setIfInBounds j true)=pre:=(rM hja).trans hp
       have hbw:E.w0.heap.size<=w.heap.size:=r.hp.ext.size
       refine wpOp_step hgi λK' hK'=> ?_
       rw[cr (by simp[Region.wanted,hgj])]
       refine wpo (.inl (hF w)) (hK' _ _ ⟨λhn=>(hl.pre (hny.symm.trans hn)).trans (Ext.alloc _ _),?_⟩)
       have r1:aW Y.C (E.ahd w.heap.size blk hbw) s (a.put oj.dst (mkF oj.op w.heap.size)) (w.alloc blk) β:=(r.ahead hbw).aBU hany
       have hF':Flp P (a.put oj.dst (mkF oj.op w.heap.size)) oj blk:=hF.keep hself
       have hv':∀n,oj.dst=some n->(a.put oj.dst (mkF oj.op w.heap.size)).tmps.getD n undef=mkF oj.op w.heap.size:=λn hn=>by
        rw[hn]
        simp only[aKj,hn,aP] at hany
        have hlt:n<a.tmps.size:=by
         rw[r.tsz]
         cases hx:s.t[n]? with
         |none=>rw[hx] at hany;cases hany
         |some x=>exact lt_of_some hx
        simp only[Act.put]
        rw[sG _ _ _ _ _ hlt,cr rfl]
       have fin:=λst' wS' (hfull':Xk Y TI FZ al a0 kd ((i,false)::l) (some j) pre st' s K=some z) (hl':Lk E kd st' pre wS' (w.alloc blk))=>aZ4 (D:=D) (Q:=Q) G hs hP hj hgj hja ((i,false)::l) l.length pre st' s K z (by simp) hD hfull' hQ _ (hdn.set hjr) hc1 hny _ (w.alloc blk) β wS' hl' hF' hv' r1
       cases hkd:kd with
       |some p=>
        refine fin false wS ?_ ⟨hl.fr,λh=>(by cases h),λh=>(by rw[hkd] at h;cases h),λh=>(hl.pre h).trans (Ext.alloc _ _)⟩
        have hf:=hfull
        rw[hkd] at hf ⊢
        simp only[Xk,aP,ho,ac,yI,cT] at hf ⊢
        exact hf
       |none=>
        have hw:=hl.no hkd
        have hk':=fin st (w.alloc blk) hfull ⟨λn k h=>(by rw[hkd] at h;cases h),λ_=>rfl,λ_=>rfl,λ_=>Ext.refl _⟩
        cases hpp:pre with
        |true=>exact pJ (λx hx=>((hl.pre hpp).trans (Ext.alloc _ _)).trans hx) _ _ _ _ hk'
        |false=>exact lW _ _ _ _ (hny.trans hpp) hk'
      have h1:=hc.1
      rw[ck,cF] at h1
      rcases h1 with h1|h1
      ·refine iF h1 (by simp) λi' hi'=> ?_
       simp at hi';subst hi'
       exact inT (by rw[h1];simp)
      ·rw[aa,ck,cF,cF] at h1
       have hmem:∀x,x∈Region.ready .any al.toArray listed↔x=i\/x=j:=λx=>by
        rcases h1.1 with e|e<;>rw[e]<;>simp[or_comm]
       exact iF rfl (λe=>by have:=(hmem i).2 (.inl rfl);rw[e] at this;simp at this) λi' hi'=>by
        rcases(hmem i').1 hi' with rfl|rfl
        ·exact inT hi'
        ·exact early hi' h1.2
end
end Go.EV
