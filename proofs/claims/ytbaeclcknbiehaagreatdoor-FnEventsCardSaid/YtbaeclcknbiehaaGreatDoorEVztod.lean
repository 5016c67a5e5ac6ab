import Derived.Test.YtbaeclcknbiehaaGreatDoorEVqtoyl
import Derived.Test.YtbaeclcknbiehaaGreatDoorVKatos
import Derived.Lib.SplitLaws
import Derived.HandedShaped
/- Printed by wip/tools: models, walks, proofs. -/
set_option linter.all false
namespace Go.EV
open Go.RowKit Go.VK
variable {U:Uni} {Y:Lay U} {TI:List (Nat×TInfo)} {FZ:List (Nat×Sum U)} {P:Program} {g:GI} {E:Env U g}
section
variable {α:Type}
theorem aJ1:∀(l:List (Nat×Bool)),bMq l=l.map Prod.fst
 |[]=>rfl
 |x::l=>by rw[bn,<-aJ1 l];rfl
def Ya {x:Nat×Bool}{l:List (Nat×Bool)}(h:aVf (x::l)=true):x.2=false/\aVf l=true:=by
 grind[aVf]
def cAw (G:Good P g Y TI FZ){al:List Oper}{Q:Exit->Act->World->Prop}{D:Nat->Prop}:∀(l:List Nat) (s:St U) (K:St U->Option α) (z:α),(∀i∈l,∀o,al[i]? =some o->∀n,Wr al o n->D n)->aJk Y TI FZ al l s K=some z->
  ∀(rest:List Nat),(∀s' a w β b,Ag D s s'->K s'=some z->bJ Y.C E s' a w β->chz al.toArray rest b=true->wpAny P .any al.toArray Q rest.length b a w)->∀b,chz al.toArray (l++rest) b=true->∀a w β,bJ Y.C E s a w β->wpAny P .any al.toArray Q (l++rest).length b a w
 |[],s,K,z,_,h,rest,hk,b,hc,a,w,β,r=>hk s a w β b (Ag.refl s) h r hc
 |i::l,s,K,z,e,h,rest,hk,b,hc,a,w,β,r=>by
  simp only[aJk,aY] at h;cases ho:al[i]? with
  |none=>rw[ho] at h;cases h
  |some o=>
   rw[ho] at h;simp only at h;replace hc:((Region.ready .any al.toArray b==[i])&&chz al.toArray (l++rest) (b.setIfInBounds i true))=true:=hc;simp only[ac,cT] at hc;have hg:al.toArray[i]? =some o:=by simpa using ho
   refine bJx hc.1 (wpOp_step hg λx c=>bEo G r h λs' f w' β' q1 q2 q3 _=>c _ _ ?_);have d:=q1.mono (e i (by simp) o ho);exact cAw G l s' K z (λj hj=>e j (by simp[hj])) q2 rest (λs2 k m β2 p q t u v=>hk s2 k m β2 p (d.trans q) t u v) _ hc.2 f w' β' q3
def CG (FZ:List (Nat×Sum U))(al:List Oper)(a0:Option Nat)(l:List (Nat×Bool))(b:Array Bool):Prop:=frees FZ al a0 l=true\/(iI a0 b=false/\aVf l=true)
def bWv (G:Good P g Y TI FZ){al:List Oper}{a0:Option Nat}(hs:Region.noSelect al.toArray=true){Q:Exit->Act->World->Prop}{D:Nat->Prop}:∀(l:List (Nat×Bool)) (s:St U) (K:St U->Option α) (z:α),(∀i∈l,∀o,al[i.1]? =some o->∀n,Wr al o n->D n)->aJk Y TI FZ al (bMq l) s K=some z->
  ∀(rest:List (Nat×Bool)),(∀s' a w β c,Ag D s s'->K s'=some z->bJ Y.C E s' a w β->Dn .any al.toArray c->chk al.toArray a0 rest c=true->CG FZ al a0 rest c->eG P .any al.toArray a0 (NoPanic Q) (Ext w) rest.length c a w)->
   ∀c,Dn .any al.toArray c->chk al.toArray a0 (l++rest) c=true->CG FZ al a0 (l++rest) c->∀a w β,bJ Y.C E s a w β->eG P .any al.toArray a0 (NoPanic Q) (Ext w) (l++rest).length c a w
 |[],s,K,z,_,h,rest,hk,c,hd,hc,hg,a,w,β,r=>hk s a w β c (Ag.refl s) h r hd hc hg
 |(i,fl)::l,s,K,z,t,h,rest,hk,c,hd,hc,e,a,w,β,r=>by
  replace h:aJk Y TI FZ al (i::bMq l) s K=some z:=h;simp only[aJk,aY] at h;cases ho:al[i]? with
  |none=>rw[ho] at h;cases h
  |some o=>
   rw[ho] at h;simp only at h;have hg:al.toArray[i]? =some o:=by simpa using ho
   cases fl with
   |true=>
    rw[cI] at hc;simp only[chk,ac] at hc;have m:Nat.beq (Fp FZ o.op) 0=true/\frees FZ al a0 (l++rest)=true:=by
     rcases e with e|⟨_,e⟩
     ·have d:frees FZ al a0 ((i,true)::(l++rest))=true:=e;simp only[frees,aY,ho,ae,ac] at d;exact d
     ·exact absurd (Ya e).1 (by simp)
    obtain⟨v,s',h1,h2,Z,h4⟩:=cAo G r (ah m.1) h;have f:=hd.set (by simpa using hc.1.1.2);have u:=h4.mono (t (i,true) (by simp) o ho);refine L8 (i:=i) (oi:=o) (v:=v) hg hs hc.1.1.1 hc.1.1.2 hc.1.2 hd (λ_ _ _ h=>h) ?_ (Ext.refl w) ?_
    ·rcases h1 with⟨k1,k2⟩|⟨k1,k2⟩
     ·exact .inl ⟨k1,k2⟩
     ·exact .inr ⟨k1,k2⟩
    ·exact bWv G hs l s' K z (λj hj=>t j (by simp[hj])) Z rest (λs2 y A β2 B F I J L M N=>hk s2 y A β2 B (u.trans F) I J L M N) _ f hc.2 (.inl m.2) _ w β h2
   |false=>
    replace hc:((Region.ready .any al.toArray c==[i])&&(a0 !=some i|| !iI a0 (c.setIfInBounds i true))&&chk al.toArray a0 (l++rest) (c.setIfInBounds i true))=true:=hc;simp only[ac,cT] at hc;have f:=hd.set (i:=i) (by rw[hc.1.1];simp);have k:(Nat.ble (Fp FZ o.op) 1=true/\frees FZ al a0 (l++rest)=true)\/(iI a0 (c.setIfInBounds i true)=false/\aVf (l++rest)=true):=by
     rcases e with e|⟨hn,e⟩
     ·have d:frees FZ al a0 ((i,false)::(l++rest))=true:=e;simp only[frees,aY,ho,aa] at d;cases hb:Nat.ble (Fp FZ o.op) 1 with
      |true=>rw[hb] at d;exact .inl ⟨rfl,d⟩
      |false=>
       rw[hb] at d;simp only[aa,ac] at d;refine .inr ⟨?_,d.2⟩;cases a0 with
       |none=>exact absurd d.1 (by simp)
       |some b=>have O:b=i:=ah d.1;subst O;have:=hc.1.2;simpa using this
     ·exact .inr ⟨qC hn,(Ya e).2⟩
    refine nO hc.1.1 (by simp) (λi' p=> ?_);simp at p;subst p;refine wpOp_step hg λK' R=>bEo G r h λs' a' w' β' q1 q2 q3 q4=>R _ _ ?_;have S:=q1.mono (t (i',false) (by simp) o ho);have cont:=λhh=>bWv G hs l s' K z (λj hj=>t j (by simp[hj])) q2 rest (λs2 y A β2 B F I J L M N=>hk s2 y A β2 B (S.trans F) I J L M N) _ f hc.2 hh a' w' β' q3;rcases k with⟨q,T⟩|⟨q,T⟩
    ·have W:=q4 q;exact⟨λ_=>W,zI (λx V=>Ext.trans W V) _ _ _ _ (cont (.inl T))⟩
    ·exact⟨λhn=>(by rw[q] at hn;cases hn),tV _ _ _ _ q (cont (.inr ⟨q,T⟩))⟩
def Dn0 {os:Array Oper}:Dn .any os (Array.replicate os.size false):=λj oj hj hl=>by
 have b:=(ca.1 hj).1;simp_all
def bKp {al:List Oper}{i:Nat}{l:List Nat}:aVg al (i::l)=match nth al i with|some o=>o::aVg al l|none=>aVg al l:=rfl
def bCd {al:List Oper}:∀{l:List Nat} {i:Nat} {o:Oper},i∈l->al[i]? =some o->o∈aVg al l
 |[],i,o,h,_=>by simp at h
 |x::l,i,o,h,ho=>by
  rw[bKp,aY];rcases bg.1 h with rfl|h
  ·rw[ho];simp
  ·have:=bCd h ho;cases al[x]? with
   |none=>exact this
   |some b=>exact dx _ this
def bS9 {β:Type}(l:List β)(k:Nat):tk l k++drp l k=l:=by simp[cF,bBj,aOd]
def bCe {os:Array Oper}{an:An}{l:List Nat}(h:aSm FZ os.toList os an=some l):
  (Region.noSelect os=true/\l.length=os.size/\chz os l (Array.replicate os.size false)=true)\/
  (∃a0 ord,Region.noSelect os=true/\ord.length=os.size/\chk os a0 ord (Array.replicate os.size false)=true/\frees FZ os.toList a0 ord=true/\l=ord.map Prod.fst):=by
 cases an<;>grind[aSm,aU1,os,frees,Option.some.inj,aJ1,Region.noSelect,Nat.beq,len,chz,Array.replicate,dA,inl,Nat.eq_of_beq_eq_true]
def bTa (G:Good P g Y TI FZ)(hm:P.follows .mixedOrders=true){os:Array Oper}{an:An}{l l1 l2:List Nat}(h:aSm FZ os.toList os an=some l)(hl:l=l1++l2){id:Nat}{Q:Exit->Act->World->Prop}{D:Nat->Prop}{D2:Nat->Prop}{α α2:Type}{s:St U}{z:α}{m:St U->Option α}
  (hD:∀o∈os.toList,∀n,Wr os.toList o n->D n) (h1:aJk Y TI FZ os.toList l1 s m=some z)
  (hk:∀s1,Ag D s s1->m s1=some z->∃(f:St U->Option α2) (j:α2),(∀i∈l2,∀o,os.toList[i]? =some o->∀n,Wr os.toList o n->D2 n)/\aJk Y TI FZ os.toList l2 s1 f=some j/\∀d e β1,bJ Y.C E s1 d e β1->∀s' a w β,Ag D2 s1 s'->f s'=some j->bJ Y.C E s' a w β->Q .normal a w)
  {a:Act} {w:World} {β:List Tr} (r:bJ Y.C E s a w β):(Code.region id os true).wp P Q a w:=by
 have p:os.toList.toArray=os:=by simp
 have c:∀(i:Nat) (o:Oper),os.toList[i]? =some o->∀n,Wr os.toList o n->D n:=(by grind[List.mem_of_getElem?]);have O:bJ Y.C E s a w.drew β:=r.ext (Ext.drew w);rcases bCe h with⟨hs,hlen,hc⟩|⟨a0,ord,hs,hlen,hc,q,t⟩
 ·refine wp_region_noPanic (wp_region_any hm ?_);have:=cAw G (E:=E) (al:=os.toList) (Q:=NoPanic Q) (D:=D) l1 s m z (λi _=>c i) h1 l2 (λs1 d e β1 b u v k x=>by
   obtain⟨f,j,y,A,B⟩:=hk s1 u v;have:=cAw G (E:=E) (al:=os.toList) (Q:=NoPanic Q) (D:=D2) l2 s1 f j y A [] (λs' F w' β' V I J K R=>⟨by simpa[chz] using R,B d e β1 k s' F w' β' I J K⟩) b (by simpa using x) d e β1 k;simp_all) (Array.replicate os.size false) (by simp_all) a w.drew β O
  simp_all
 ·refine wp_region_noPanic (wp_region_any hm (sU (a0:=a0) (S:=Ext w.drew) _ _ _ _ ?_));have L:ord.map Prod.fst=l1++l2:=by rw[<-t,hl]
  obtain⟨W,T,ho,M,N⟩:=List.map_eq_append_iff.1 L;subst M;subst N;have:=bWv G (E:=E) (al:=os.toList) (a0:=a0) (by assumption) (Q:=Q) (D:=D) W s m z (λi _=>c i.1) (by grind[aJ1]) T (λs1 d e β1 b u v k x Z g6=>by
   obtain⟨f,j,y,A,B⟩:=hk s1 u v;have:=bWv G (E:=E) (al:=os.toList) (a0:=a0) (by rw[p];exact hs) (Q:=Q) (D:=D2) T s1 f j (λi hi=>y i.1 (cq.2 ⟨i,hi,rfl⟩)) (by rw[aJ1];exact A) [] (λs' F w' β' V I J K R p5 p6=>zJ (P:=P) (a0:=a0) (S:=Ext w') (Q:=NoPanic Q) (by simpa[chk] using p5) (B d e β1 k s' F w' β' I J K) 0) b x (by simpa using Z) (by simpa using g6) d e β1 k;simp_all) (Array.replicate os.size false) (by simp[Dn0]) (by simp_all) (.inl (by rw[<-ho];exact q)) a w.drew β O
  simp_all
def bTb {a0:Option Nat}{n:Nat}:iI a0 (Array.replicate n false)=true:=by
 cases a0 with
 |none=>rfl
 |some b=>simp only[iI,cj];rw[cz,jt];split<;>rfl
def cAx (F:E.fr=[])(l:E.prm=[])(G:Good P g Y TI FZ)(hm:P.follows .mixedOrders=true){os:Array Oper}{id:Nat}{kb:Bool}{f a0:Option Nat}{ord:List (Nat×Bool)}{Q:Exit->Act->World->Prop}{D:Nat->Prop}{s:St U}{z:α}{N:St U->Option α}
  (I:∀o∈os.toList,∀n,Wr os.toList o n->D n) (hc:bD9 os f a0 ord=true) (h:aJl Y TI FZ os.toList a0 (bif kb then some (len s.m.o,s.m.k) else none) ord f true true (wpe os.toList f s) N=some z)
  (J:∀s' a w β,Ag D s s'->N s'=some z->bJ Y.C E s' a w β->Q .normal a w) {a:Act} {w:World} {β:List Tr} (r:bJ Y.C E s a w β):(Code.region id os true).wp P Q a w:=by
 have K:os.toList.toArray=os:=by simp
 have c:∀i∈ord,∀o,os.toList[i.1]? =some o->∀n,Wr os.toList o n->D n:=(by grind[List.mem_of_getElem?]);have p:bJ Y.C E s a w.drew β:=r.ext (Ext.drew w);simp only[bD9,ac,dA] at hc;obtain⟨hs,hlen,b⟩:=hc;have hlen:=ah hlen;have q:(wpe os.toList f s).m=s.m:=by
  unfold wpe;cases f with
  |none=>rfl
  |some j=>
   simp only;cases nth os.toList j with
   |none=>rfl
   |some o=>simp only;cases o.dst<;>rfl
 have x:bJ Y.C E (wpe os.toList f s) a w.drew β:=by
  unfold wpe;cases f with
  |none=>exact p
  |some j=>
   simp only;cases nth os.toList j with
   |none=>exact p
   |some o=>exact p.aDG
 have t:Ag D s (wpe os.toList f s):=by
  unfold wpe;cases f with
  |none=>exact Ag.refl s
  |some j=>
   simp only[aY];cases ho:os.toList[j]? with
   |none=>simp_all
   |some o=>exact(Ag.refl s).put (λn e=>I o (aE ho) n (.inl e))
 have main:∀(E':Env U g) (kd:Option (Nat×Nat)),E'.prm=[]->Lk E' kd true true w.drew w.drew->bJ Y.C E' (wpe os.toList f s) a w.drew β->(∀s' a w β,bJ Y.C E' s' a w β->bJ Y.C E s' a w β)->aJl Y TI FZ os.toList a0 kd ord f true true (wpe os.toList f s) N=some z->(Code.region id os true).wp P Q a w:=λE' kd u hl y d h=>by
  refine wp_region_noPanic (wp_region_any hm (sU (a0:=a0) (S:=Ext w.drew) _ _ _ _ ?_));have A:∀s' a w β,Ag D (wpe os.toList f s) s'->N s'=some z->bJ Y.C E' s' a w β->Q .normal a w:=λs' a w β L M O=>J s' a w β (t.trans L) M (d s' a w β O);cases f with
  |none=>have:=bHg (E:=E') G (al:=os.toList) (a0:=a0) (kd:=kd) (Q:=Q) (D:=D) (by assumption) ord true true _ N z c h A (Array.replicate os.size false) (by simp[Dn0]) (by assumption) bTb a w.drew β w.drew hl y;simp_all
  |some j=>
   simp only[ac,bne_iff_ne,ne_eq] at b;obtain⟨v,b⟩:=b;split at b
   ·rename_i oj hj;have:=bS4 (E:=E') G (al:=os.toList) (a0:=a0) (kd:=kd) (Q:=Q) (D:=D) (by assumption) u (j:=j) (oj:=oj) (by simp[*]) v ord true true _ N z c h A (Array.replicate os.size false) (by simp[Dn0]) (by assumption) bTb a w.drew β w.drew hl y;simp_all
   ·cases b
 cases kb with
 |false=>exact main E none l ⟨(by simp),λ_=>rfl,λ_=>rfl,λ_=>Ext.refl _⟩ x (λ_ _ _ _ h=>h) h
 |true=>have B:=x.frame l;rw[q] at B;exact main (E.frm [(w.drew,s.m.o.length,s.m.k)]) (some (s.m.o.length,s.m.k)) l ⟨λn k h=>(by cases h;exact dv),λ_=>rfl,λh=>(by cases h),λ_=>Ext.refl _⟩ B (λ_ _ _ _ h=>h.aCG F) (by grind[dA])
theorem bNa {al:List Oper}{s:St U}:∀{fs:List Nat},(wpl al s fs).m=s.m
 |[]=>rfl
 |j::fs=>by
  have e:wpl al s (j::fs)=(match nth al j with|some o=>EV.put (wpl al s fs) o.dst (.l .any)|none=>wpl al s fs):=rfl;rw[e];cases nth al j with
  |none=>exact bNa
  |some o=>rw[bS5];exact bNa
def bEu {al:List Oper}{s:St U}{a:Act}{w:World}{β:List Tr}(r:bJ Y.C E s a w β):∀{fs:List Nat},bJ Y.C E (wpl al s fs) a w β
 |[]=>r
 |j::fs=>by
  have e:wpl al s (j::fs)=(match nth al j with|some o=>EV.put (wpl al s fs) o.dst (.l .any)|none=>wpl al s fs):=rfl;rw[e];cases nth al j with
  |none=>exact bEu r
  |some o=>exact(bEu r).aDG
def bKq {al:List Oper}{s:St U}{D:Nat->Prop}(b:∀o∈al,∀n,Wr al o n->D n):∀{fs:List Nat},Ag D s (wpl al s fs)
 |[]=>Ag.refl s
 |j::fs=>by
  have e:wpl al s (j::fs)=(match nth al j with|some o=>EV.put (wpl al s fs) o.dst (.l .any)|none=>wpl al s fs):=rfl;rw[e,aY];cases ho:al[j]? with
  |none=>exact bKq b
  |some o=>exact(bKq b).put (λn e=>b o (aE ho) n (.inl e))
def cAy (p:E.fr=[])(q:E.prm=[])(G:Good P g Y TI FZ)(hm:P.follows .mixedOrders=true){os:Array Oper}{a0:Option Nat}{id f:Nat}{bs fs:List Nat}{ord:List (Nat×Bool)}{Q:Exit->Act->World->Prop}{D:Nat->Prop}{s:St U}{z:α}{N:St U->Option α}
  (u:∀o∈os.toList,∀n,Wr os.toList o n->D n) (hs:Region.noSelect os=true) (hc:aSn os a0 f fs [] ord (Array.replicate os.size false)=true) (v:bxs bs s.m.o=true) (h:Rl Y TI FZ os.toList a0 bs (some (len s.m.o,s.m.k)) ord fs true false (wpl os.toList s fs) N=some z)
  (x:∀s' a w β,Ag D s s'->N s'=some z->bJ Y.C E s' a w β->Q .normal a w) {a:Act} {w:World} {β:List Tr} (r:bJ Y.C E s a w β):(Code.region id os true).wp P Q a w:=by
 have d:os.toList.toArray=os:=by simp
 have c:bJ Y.C E (wpl os.toList s fs) a w.drew β:=(bEu r).ext (Ext.drew w);have i:Ag D s (wpl os.toList s fs):=bKq u;let Yb:Nat->Prop:=λk=>∃b∈bs,∃t,β[b]? =some t/\t.b=some k;obtain⟨ps,y,A⟩:=bHi c.hp bs (by grind[bNa]);have B:bJ Y.C ((E.pinned ps).frm [(w.drew,s.m.o.length,s.m.k)]) (wpl os.toList s fs) a w.drew β:=by
  have:=(c.pins y).frame (by assumption)
  grind[bNa]
 have F:bJ Y.C (((E.pinned ps).frm [(w.drew,s.m.o.length,s.m.k)]).ahs (bks []) (by simp[bks])) (wpl os.toList s fs) a w.drew β:=B.aDL;refine wp_region_noPanic (wp_region_any hm (sU (a0:=a0) (S:=Bel Yb w.drew) _ _ _ _ ?_));rw[dA] at h;have:=bKo (a0:=a0) (E:=(E.pinned ps).frm [(w.drew,s.m.o.length,s.m.k)]) G (al:=os.toList) (Q:=Q) (D:=D) (by assumption) q (bs:=bs) (Yb:=Yb) (wS:=w.drew) (λb hb=>by
  obtain⟨t,k,q1,q2,q3⟩:=A b hb;exact⟨k,⟨b,hb,t,q1,q2⟩,ce.2 (.inl q3)⟩) (kd:=some (s.m.o.length,s.m.k)) (λn k h=>by cases h;exact dv) f fs [] ord fs true false (wpl os.toList s fs) N z (by grind[List.mem_of_getElem?]) h (λs' a w β I J K=>x s' a w β (i.trans I) J (K.aCG p).aDF) (λ_ h=>h) (by simp) (by simp) (by simp) (Array.replicate os.size false) (by simp[Dn0]) (by assumption) a w.drew β (by simp[bks]) (λh=>by cases h) (λ_=>Bel.refl _) (λ_=>⟨rfl,λk ⟨b,hb,t,ht,hk⟩=>cAh ht (Tr.root hk),λb e t k h1 h2 j l=>⟨λhb=>⟨b,hb,t,j,l⟩,λhb=>⟨λ⟨b',k1,t',k2,k3⟩=>c.hp.dist b b' t t' k (λe=>hb (e▸k1)) j k2 (Tr.root l) (Tr.root k3),(c.hp.new b t k j (Tr.root l)).2⟩⟩,rfl⟩) (by simp) F
 rw[d,show cntF (Array.replicate os.size false)=os.size by simp[cntF]] at this;exact this
def aOn (L:E.fr=[])(V:E.prm=[])(G:Good P g Y TI FZ)(hm:P.follows .mixedOrders=true)(id:Nat)(os:Array Oper)(d:Bool)(an:An){α:Type}(s:St U)(N:St U->Option α)(X:Nat->St U->Option α)(R:St U->Option α)(z:α)(D:Nat->Prop)(A:∀o∈os.toList,∀n,Wr os.toList o n->D n)(W:AW D an)(h:rgn Y TI FZ os.toList os d an s N=some z):Snd P Y E D (.region id os d) s z N X R:=by
 intro Q B hX hR a w β r;have F:os.toList.toArray=os:=by simp
 have plain:∀an,(bif d then(match aSm FZ os.toList os an with|some l=>aJk Y TI FZ os.toList l s N|none=>none) else ops Y TI FZ os.toList os.toList s N)=some z->(Code.region id os d).wp P Q a w:=λan h=>by
  cases d with
  |false=>refine wp_region_list ?_;have:=aCh G (E:=E) (al:=os.toList) (Q:=Q) (D:=D) os.toList s N z A h [] (λs' a w β e c M=>wpList_nil (B s' a w β e c M)) a w β r;rw[eM,F] at this;exact this
  |true=>
   simp only[ae] at h;cases ho:aSm FZ os.toList os an with
   |none=>rw[ho] at h;cases h
   |some l=>rw[ho] at h;exact bTa G hm (l1:=l) (l2:=[]) (α2:=α) (D2:=D) ho (by simp) A h (λs1 e c=>⟨N,z,λi hi=>by simp at hi,c,λO S β1 _ s' I w' β' J p K=>B s' I w' β' (e.trans J) p K⟩) r
 cases an with
 |rj k tm I=>
  cases d with
  |false=>
   replace h:ops Y TI FZ os.toList (tk os.toList k) s (λs1=>bif wrG tm.ws os.toList (drp os.toList k) then bd (ops Y TI FZ os.toList (drp os.toList k) s1 λs'=>col Y s1 tm s') λd=>N (reb Y s1 tm d) else none)=some z:=h;refine wp_region_list ?_;have:=aCh G (E:=E) (al:=os.toList) (Q:=Q) (D:=D) (tk os.toList k) s _ z (λo ho=>A o (by rw[bBj] at ho;exact List.mem_of_mem_take ho)) h (drp os.toList k) (λs1 O S β1 e c M=>by
    cases hb:wrG tm.ws os.toList (drp os.toList k) with
    |false=>rw[hb] at c;cases c
    |true=>
     rw[hb] at c;simp only[ae] at c;obtain⟨d,k1,k2⟩:=kL c;have:=aCh G (E:=E) (al:=os.toList) (Q:=Q) (D:=λn=>Xj tm.ws 0 n=true) (drp os.toList k) s1 _ d (aJw hb) k1 [] (λs' I w' β' J p K=>wpList_nil (by
      obtain⟨β'',q⟩:=Gd L M K J p;obtain⟨_,_,_,hs,_⟩:=Xy p;exact B _ _ _ _ (e.trans ((aOl hs).mono W)) k2 q)) O S β1 M
     rw[eM] at this;exact this) a w β r
   rw[bS9,F] at this;exact this
  |true=>
   replace h:(match aSm FZ os.toList os I with|some l=>aJk Y TI FZ os.toList (tk l k) s (λs1=>bif wrG tm.ws os.toList (aVg os.toList (drp l k)) then bd (aJk Y TI FZ os.toList (drp l k) s1 λs'=>col Y s1 tm s') λd=>N (reb Y s1 tm d) else none)|none=>none)=some z:=h;cases ho:aSm FZ os.toList os I with
   |none=>rw[ho] at h;cases h
   |some l=>
    rw[ho] at h;refine bTa G hm (l1:=tk l k) (l2:=drp l k) (α2:=Dat U tm.it) (D2:=λn=>Xj tm.ws 0 n=true) ho (bS9 l k).symm A h (λs1 e c=> ?_) r;cases hb:wrG tm.ws os.toList (aVg os.toList (drp l k)) with
    |false=>rw[hb] at c;cases c
    |true=>rw[hb] at c;simp only[ae] at c;obtain⟨d,k1,k2⟩:=kL c;refine⟨_,d,λi hi o T=>aJw hb o (bCd hi T),k1,λO S β1 Z s' a2 w2 β2 J p K=> ?_⟩;obtain⟨β'',q⟩:=Gd L Z K J p;obtain⟨_,_,_,hs,_⟩:=Xy p;exact B _ _ _ _ (e.trans ((aOl hs).mono W)) k2 q
 |y kb f a0 ord=>
  cases d with
  |false=>cases h
  |true=>
   replace h:(bif true&&bD9 os f a0 ord then aJl Y TI FZ os.toList a0 (bif kb then some (len s.m.o,s.m.k) else none) ord f true true (wpe os.toList f s) N else none)=some z:=h;cases hc:bD9 os f a0 ord with
   |false=>rw[hc] at h;cases h
   |true=>rw[hc] at h;exact cAx L V G hm A hc h B r
 |w bs ord=>replace h:none=some z:=h;cases h
 |v bs ord=>replace h:none=some z:=h;cases h
 |u a0 bs fs ord=>
  cases d with
  |false=>cases h
  |true=>
   replace h:(bif true&&(Region.noSelect os&&(aSn os a0 (Nat.succ (Nat.add (len ord) (len ord))) fs [] ord (Array.replicate os.size false)&&bxs bs s.m.o)) then Rl Y TI FZ os.toList a0 bs (some (len s.m.o,s.m.k)) ord fs true false (wpl os.toList s fs) N else none)=some z:=h;cases hc:(Region.noSelect os&&(aSn os a0 (Nat.succ (Nat.add (len ord) (len ord))) fs [] ord (Array.replicate os.size false)&&bxs bs s.m.o)) with
   |false=>rw[hc] at h;cases h
   |true=>rw[hc] at h;simp only[ac] at hc;exact cAy L V G hm A hc.1 hc.2.1 hc.2.2 h B r
 |n=>exact plain .n h
 |s x y=>exact plain (.s x y) h
 |j t x=>exact plain (.j t x) h
 |jx t x=>exact plain (.jx t x) h
 |l t f x=>exact plain (.l t f x) h
 |r a0 o=>exact plain (.r a0 o) h
 |z o=>exact plain (.z o) h
 |il i a b=>exact plain (.il i a b) h
 |pl a=>exact plain (.pl a) h
end
end Go.EV
namespace Go.EV
open Go.RowKit Go.VK
variable {U:Uni} {Y:Lay U} {TI:List (Nat×TInfo)} {FZ:List (Nat×Sum U)} {P:Program} {g:GI} {E:Env U g}
section
variable {s:St U} {a:Act} {w w0:World} {β:List Tr}
def bP0 (d:uW P TI=true)(r:bJ Y.C E s a w β){x:ResultVar}{y:Sv U}(h:bWc TI s x=some y):∃v,(aJd P w a.tmps x).run P w= .ok v w/\y.mean Y.C w (E.X β) β s.m v:=by
 cases x with
 |tmp n=>exact⟨_,by simp[aJd],r.tm n y (by rw[<-aY];exact h)⟩
 |cell c t=>
  simp only[bWc] at h;split at h
  ·rename_i b i h1 h2;have hl:load Y s i (.box b 0)=some y:=h;have e:(Lf.box b 0:Lf U).mean Y.C w (E.X β) β s.m (a.tmps.getD c undef):=r.tm c (.l (.box b 0)) (by grind[aY]);obtain⟨p,v',k1,k2,k3⟩:=bBm r (bT d h2) e hl;simp[aJd,k1,asAddr,Sem.run_bind,Sem.run_pure,Result.andThen_ok,k2,Ext.refl,k3]
  ·cases h
def Gu (b:uW P TI=true)(r:bJ Y.C E s a w β):∀{l:List ResultVar} {xs:List (Sv U)},aE2 TI s l=some xs->∃vs:List Value,(l.mapM (aJd P w a.tmps)).run P w= .ok vs w/\vs.length=xs.length/\∀(i:Nat) (v:Value) (x:Sv U),vs[i]? =some v->xs[i]? =some x->x.mean Y.C w (E.X β) β s.m v
 |[],xs,h=>by
  have:=ao h;subst this;exact⟨[],rfl,rfl,by simp⟩
 |x::l,xs,h=>by
  simp only[aE2] at h;cases h1:bWc TI s x with
  |none=>rw[h1] at h;cases h
  |some y=>
   cases h2:aE2 TI s l with
   |none=>rw[h1,h2] at h;cases h
   |some ys=>
    rw[h1,h2] at h;have:=ao h;subst this;obtain⟨v,k1,k2⟩:=bP0 b r h1;obtain⟨vs,k3,k4,k5⟩:=Gu b r h2;refine⟨v::vs,by simp[jk,k1,k3],by simp[k4],λi v' W q1 q2=> ?_⟩;cases i with
    |zero=>simp at q1 q2;subst q1;subst q2;exact k2
    |succ i=>exact k5 i v' W (by simpa using q1) (by simpa using q2)
def Mf {b:Func}{l:List ResultVar}(c:b.results=l.toArray){vs:List Value}(h:(l.mapM (aJd P w a.tmps)).run P w= .ok vs w):(results b a.tmps).run P w= .ok (if h:vs.toArray.size=1 then vs.toArray[0] else .tuple vs.toArray) w:=by
 have d:results b a.tmps=(do
   let vs<-b.results.mapM (aJd P w a.tmps)
   pure (if h:vs.size=1 then vs[0] else .tuple vs)):=rfl
 simp[*]
end
section
def wL (P:Program)(IL:Il):Prop:=∀(f:Nat) (c:Code) (n:Nat) (rv:List ResultVar),jV IL f=some (c,n,rv)->∃b,P.funcs[f]? =some b/\b.body=some c/\b.ntmps=n/\b.results=rv.toArray/\∀args w,(callFunc f args).run P w= .ok (.enter f args) w
def cAz:wL P []:=λ_ _ _ _ h=>by cases h
def lW {IL:Il}{f:Nat}{c:Code}{n:Nat}{rv:List ResultVar}{d:Func}(k:P.funcs[f]? =some d)(hb:d.body=some c)(hn:d.ntmps=n)(hl:d.results=rv.toArray)(l:∀args w,(callFunc f args).run P w= .ok (.enter f args) w)(h:wL P IL):wL P ((f,c,n,rv)::IL):=λf' i j b e=>by
 have e:cond (Nat.beq f f') (some (c,n,rv)) (jV IL f')=some (i,j,b):=e;cases hb':Nat.beq f f' with
 |true=>simp_all
 |false=>rw[hb'] at e;exact h f' i j b e
def cEq (s:St U)(a:Act):List (Sv U×Value):=s.t.zipIdx.map λp=>(p.1,a.tmps.getD p.2 undef)
def bCf {C:Cod U}{w:World}{X:Nat->Prop}{β:List Tr}{m:Mm U}:∀{ys:List (Sv U)} {l:List (Bool×List (Lf U))} {vs:List Value},bJ8 ys=some l->vs.length=ys.length->(∀(i:Nat) (v:Value) (x:Sv U),vs[i]? =some v->ys[i]? =some x->x.mean C w X β m v)->vs.length=l.length/\∀(i:Nat) (v:Value) (x:Bool×List (Lf U)),vs[i]? =some v->l[i]? =some x->Mp C w X β m v x
 |[],l,vs,h,hl,_=>by
  have:=ao h;subst this;exact⟨hl,λi v x _ h=>by simp at h⟩
 |y::ys,l,[],h,hl,_=>by simp at hl
 |y::ys,l,v::vs,h,hl,hm=>by
  simp only[bJ8] at h;cases h1:sv2 y with
  |none=>rw[h1] at h;cases h
  |some p=>
   cases h2:bJ8 ys with
   |none=>rw[h1,h2] at h;cases h
   |some ps=>
    rw[h1,h2] at h;have:=ao h;subst this;obtain⟨k1,k2⟩:=bCf h2 (by simpa using hl) (λi v x p q=>hm (i+1) v x (by simpa using p) (by simpa using q));refine⟨by simp[k1],λi u x b q=> ?_⟩;cases i with
    |zero=>
     simp at b q;subst b;subst q;have h0:=hm 0 v y rfl rfl;cases y with
     |l x=>have:=ao h1;subst this;exact⟨x,rfl,h0⟩
     |a cs=>have:=ao h1;subst this;exact h0
     |t xs=>cases h1
    |succ i=>exact k2 i u x (by simpa using b) (by simpa using q)
def bP1 {C:Cod U}{w:World}{X:Nat->Prop}{β:List Tr}{m:Mm U}{ys:List (Sv U)}{y:Sv U}{vs:List Value}(h:cAg ys=some y)(hl:vs.length=ys.length)(hm:∀(i:Nat) (v:Value) (x:Sv U),vs[i]? =some v->ys[i]? =some x->x.mean C w X β m v):y.mean C w X β m (if h:vs.toArray.size=1 then vs.toArray[0] else .tuple vs.toArray):=by
 match ys,vs,h,hl,hm with
 |[x],[v],h,_,hm=>have:=ao h;subst this;exact hm 0 v x rfl rfl
 |[],[],h,_,_=>have:=ao h;subst this;exact⟨[],rfl,rfl,λi v x h=>by simp at h⟩
 |x::b::xs,v::v'::vs,h,hl,hm=>
  replace h:(match bJ8 (x::b::xs) with|some l=>some (Sv.t l)|none=>none)=some y:=h;cases h1:bJ8 (x::b::xs) with
  |none=>simp_all
  |some l=>rw[h1] at h;have:=ao h;subst this;rw[dif_neg (by simp)];obtain⟨k1,k2⟩:=bCf h1 hl hm;exact⟨_,rfl,k1,k2⟩
variable {IL:Il} {α:Type} {EV:An->Code->St U->(St U->Option α)->Option α}
def aZo (P:Program)(Y:Lay U)(g:GI)(EV:An->Code->St U->(St U->Option α)->Option α):Prop:=∀(E:Env U g),E.fr=[]->E.prm=[]->∀(an:An) (c:Code) (s:St U) (K:St U->Option α) (z:α),EV an c s K=some z->Snd P Y E (λ_=>True) c s z K (λ_ _=>none) K
def bTc (G:Good P g Y TI FZ)(I:wL P IL)(k:aZo P Y g EV)(J:E.fr=[])(L:E.prm=[]){s:St U}{a:Act}{w:World}{β:List Tr}(r:bJ Y.C E s a w β){al:List Oper}{o:Oper}{an:An}{K:St U->Option α}{z:α}(h:inl TI IL EV an o s K=some z){B:Act->World->Prop}{Q:Exit->Act->World->Prop}
  (hk:∀s' j w' β',Ag (Wr al o) s s'->K s'=some z->bJ Y.C E s' j w' β'->B j w'):o.wp P a w B Q:=by
 unfold inl at h;split at h
 ·rename_i f b ats ho;cases D:jV IL f with
  |none=>simp_all
  |some p=>
   obtain⟨c,n,rv⟩:=p;rw[D] at h;simp only at h;cases hb:Nat.ble (len b.toList) n with
   |false=>simp_all
   |true=>
    rw[hb] at h;simp only[ae] at h;have hlen:b.toList.length<=n:=by have:=ba hb;rwa [dA] at this
    obtain⟨q,M,N,f3,O,R⟩:=I f c n rv D;let E':Env U g:=E.pinned (cEq s a);have hX:∀β,E'.X β=E.X β:=λ_=>rfl;have S:Hp Y.C E' s.m β w:=⟨r.hp.ext,r.hp.len,r.hp.vers,r.hp.cnt,r.hp.new,r.hp.dist,r.hp.nd,r.hp.ok,λx d=>by
     rcases ce.1 d with d|d
     ·obtain⟨⟨y,m⟩,F,rfl⟩:=cq.1 d;exact r.tm m y (by grind)
     ·exact r.hp.pin x d,r.hp.prm,r.hp.fr⟩
    have T:bJ Y.C E' ⟨b.toList.map (eT s)++List.replicate (n-len b.toList) (.l .any),s.m,s.fr⟩ {tmps:=(b.toList.map a.eval).toArray++Array.replicate (q.ntmps-(b.toList.map a.eval).toArray.size) undef,defers:=[]} w β:=by
     refine⟨S,rfl,?_,λm x d=> ?_⟩
     ·grind[dA,List.length_append,List.length_map,List.length_replicate,Array.size_append,List.size_toArray,Array.size_replicate]
     ·by_cases hm:m<b.toList.length
      ·rw[av (by rw[bf];exact hm)] at d;have h1:(b.toList.map a.eval)[m]? =some ((b.toList.map a.eval)[m]'(by simp_all)):=ab _;obtain⟨y,V,W⟩:=Sk (s:=s) (a:=a) m _ x h1 d;have hv:((b.toList.map a.eval).toArray++Array.replicate (q.ntmps-(b.toList.map a.eval).toArray.size) undef).getD m undef=a.eval y:=by rw[<-V,cz,fj (by simpa using hm)];simp[h1]
       grind[Gq,Array.replicate,undef]
      ·rw[az (by simp_all)] at d;have:=aE d;simp at this;rw[this.2];trivial
    let R':Value->World->Prop:=λv w'=>∃(y:Sv U) (s':St U) (β':List Tr),K (put ⟨s.t,s'.m,s.fr⟩ o.dst y)=some z/\bJ Y.C E ⟨s.t,s'.m,s.fr⟩ a w' β'/\y.mean Y.C w' (E.X β') β' s'.m v/\Am s.m s'.m;have done:∀s' j w' β',Ag (λ_=>True) ⟨b.toList.map (eT s)++List.replicate (n-len b.toList) (.l .any),s.m,s.fr⟩ s'->(match aE2 TI s' rv with
      |some ys=>match cAg ys with
       |some y=>K (put ⟨s.t,s'.m,s.fr⟩ o.dst y)
       |none=>none
      |none=>none)=some z->bJ Y.C E' s' j w' β'->j.defers=[]/\∃v,(results q j.tmps).run P w'= .ok v w'/\∃v',Ending.returned v= .returned v'/\R' v' w':=λs' j w' β' u hq i=>by
     split at hq
     ·rename_i ys A;split at hq
      ·rename_i y F;obtain⟨vs,k1,k2,k3⟩:=Gu G.ti i A;refine⟨i.defers,_,Mf O k1,_,rfl,y,s',β',hq,?_,bP1 F k2 k3,u.m⟩;have hp:Hp Y.C E s'.m β' w':=⟨i.hp.ext,i.hp.len,i.hp.vers,i.hp.cnt,i.hp.new,i.hp.dist,i.hp.nd,i.hp.ok,λx d=>i.hp.pin x (ce.2 (.inr d)),i.hp.prm,i.hp.fr⟩;exact⟨hp,r.defers,r.tsz,λm x d=>i.hp.pin (x,a.tmps.getD m undef) (ce.2 (.inl (cq.2 ⟨(x,m),List.mem_zipIdx_iff_getElem?.2 d,rfl⟩)))⟩
      ·cases hq
     ·cases hq
    have hc:Calls P f (b.toList.map a.eval).toArray w λe w'=>∃v,e= .returned v/\R' v w':=by refine calls_of_wp M N ?_;exact k E' J L an c _ _ z h _ (by assumption) (by simp) (by assumption) _ _ _ T
    refine wpc (Gs ho R) hc ?_;rintro v w' ⟨y,s',β',k1,k2,k3,k4⟩;exact hk (put ⟨s.t,s'.m,s.fr⟩ o.dst y) _ w' β' (Ag.put (s:=s) (s':=⟨s.t,s'.m,s.fr⟩) ⟨λ_ _=>rfl,rfl,rfl,k4⟩ (λn e=> .inl e)) k1 (k2.put λ_=>k3)
 ·cases h
def aV1 (G:Good P g Y TI FZ)(t:wL P IL)(j:aZo P Y g EV)(u:E.fr=[])(y:E.prm=[]){s:St U}{a:Act}{w:World}{β:List Tr}(r:bJ Y.C E s a w β){al:List Oper}{i:Nat}{o:Oper}(ho:al[i]? =some o){l:List Nat}{an:An}{K:St U->Option α}{z:α}(h:ilr Y TI FZ IL EV al (i::l) an s K=some z):
  ∃c,ilo c=ilo an/\∀(d:Act->World->Prop) (Q:Exit->Act->World->Prop),(∀s' f w' β',Ag (Wr al o) s s'->ilr Y TI FZ IL EV al l c s' K=some z->bJ Y.C E s' f w' β'->(Nat.ble (Fp FZ o.op) 1=true->Ext w w')->d f w')->if Region.wanted o (yielded al.toArray a.tmps)=true then o.wp P a w d Q else d (a.put o.dst undef) w:=by
 have plain:∀c,ilo c=ilo an->grd Y TI FZ al o s (λs'=>ilr Y TI FZ IL EV al l c s' K)=some z->∃c,ilo c=ilo an/\∀(d:Act->World->Prop) (Q:Exit->Act->World->Prop),(∀s' f w' β',Ag (Wr al o) s s'->ilr Y TI FZ IL EV al l c s' K=some z->bJ Y.C E s' f w' β'->(Nat.ble (Fp FZ o.op) 1=true->Ext w w')->d f w')->if Region.wanted o (yielded al.toArray a.tmps)=true then o.wp P a w d Q else d (a.put o.dst undef) w:=
  λc he h=>⟨c,he,λd Q hk=>bEo G r h hk⟩
 unfold ilr at h;rw[aY,ho] at h;cases an with
 |il k b q=>
  simp only at h;cases hb:Nat.beq k i with
  |false=>grind
  |true=>
   rw[hb] at h;simp only[ae] at h;cases hc:Nat.beq (Fp FZ o.op) 2 with
   |false=>simp_all
   |true=>
    rw[hc] at h;simp only[ae] at h;have hc:=ah hc;refine⟨q,rfl,λd Q hk=> ?_⟩;obtain⟨s1,p,h1,h2⟩:=Xx r h;rcases h2 with⟨m,h2⟩|⟨m,h2⟩
    ·rw[cR m];exact bTc G t j u y p (al:=al) h2 (λs' f w' β' q1 q2 q3=>hk s' f w' β' (h1.trans q1) q2 q3 (by simp[*]))
    ·rw[dk (by rw[m];simp)];exact hk _ _ w β (h1.put (λn e=> .inl e)) h2 (p.put (x:= .l .und) (v:=undef) (λ_=>rfl)) (λ_=>Ext.refl w)
 |_=>exact plain _ rfl h
def cCq (G:Good P g Y TI FZ)(k:wL P IL)(b:aZo P Y g EV)(m:E.fr=[])(p:E.prm=[]){al:List Oper}{Q:Exit->Act->World->Prop}{D:Nat->Prop}:∀(n i:Nat) (an:An) (s:St U) (K:St U->Option α) (z:α),i+n=al.length->(∀o∈al,∀n,Wr al o n->D n)->ilr Y TI FZ IL EV al (rng n i) an s K=some z->
  (∀s' a w β,Ag D s s'->K s'=some z->bJ Y.C E s' a w β->Q .normal a w)->∀a w β,bJ Y.C E s a w β->wpList P al.toArray Q (al.drop i) a w
 |0,i,an,s,K,z,hn,c,h,d,a,w,β,r=>by
  rw[fX (by omega)];exact wpList_nil (d s a w β (Ag.refl s) h r)
 |n+1,i,an,s,K,z,hn,c,h,d,a,w,β,r=>by
  have hi:i<al.length:=by omega
  have ho:al[i]? =some al[i]:=ab hi;obtain⟨e,_,hk⟩:=aV1 G k b m p r ho (l:=rng n (Nat.succ i)) h;rw[cE hi];refine wpList_step λq f=>hk q _ λs' t w' β' q1 q2 q3 _=>f _ _ ?_;have j:=q1.mono (c _ (cp hi));exact cCq G k b m p n (i+1) e s' K z (by omega) c q2 (λs2 u v β2 x y A=>d s2 u v β2 (j.trans x) y A) t w' β' q3
def cCr (G:Good P g Y TI FZ)(m:wL P IL)(c:aZo P Y g EV)(p:E.fr=[])(q:E.prm=[]){al:List Oper}{Q:Exit->Act->World->Prop}{D:Nat->Prop}:∀(l:List Nat) (an:An) (s:St U) (K:St U->Option α) (z:α),(∀o∈al,∀n,Wr al o n->D n)->ilr Y TI FZ IL EV al l an s K=some z->
  (∀s' a w β,Ag D s s'->K s'=some z->bJ Y.C E s' a w β->Q .normal a w)->∀b,chz al.toArray l b=true->∀a w β,bJ Y.C E s a w β->wpAny P .any al.toArray Q l.length b a w
 |[],an,s,K,z,_,h,d,b,hc,a,w,β,r=>⟨by simpa[chz] using hc,d s a w β (Ag.refl s) h r⟩
 |i::l,an,s,K,z,t,h,d,b,hc,a,w,β,r=>by
  replace hc:((Region.ready .any al.toArray b==[i])&&chz al.toArray l (b.setIfInBounds i true))=true:=hc;simp only[ac,cT] at hc;cases ho:al[i]? with
  |none=>
   have:(none:Option α)=some z:=by have e:=h;unfold ilr at e;rw[aY,ho] at e;exact e
   cases this
  |some o=>
   obtain⟨f,_,hk⟩:=aV1 G m c p q r ho h;have hg:al.toArray[i]? =some o:=by simpa using ho
   refine bJx hc.1 (wpOp_step hg λu j=>hk u _ λs' v w' β' q1 q2 q3 _=>j _ _ ?_);have k:=q1.mono (t o (aE ho));exact cCr G m c p q l f s' K z t q2 (λs2 x y β2 A B F=>d s2 x y β2 (k.trans A) B F) _ hc.2 v w' β' q3
def bP2 (G:Good P g Y TI FZ)(d:wL P IL)(c:aZo P Y g EV)(e:E.fr=[])(f:E.prm=[]){s:St U}{a:Act}{w:World}{β:List Tr}(r:bJ Y.C E s a w β){al:List Oper}{i:Nat}{o:Oper}(ho:al[i]? =some o)(hc:Fp FZ o.op=0){l:List Nat}{an:An}{K:St U->Option α}{z:α}(h:ilr Y TI FZ IL EV al (i::l) an s K=some z):
  ∃b,ilo b=ilo an/\grd Y TI FZ al o s (λs'=>ilr Y TI FZ IL EV al l b s' K)=some z:=by
 grind[Nat.beq,aY,ilr]
def cA0 (G:Good P g Y TI FZ)(A:wL P IL)(f:aZo P Y g EV)(B:E.fr=[])(F:E.prm=[]){al:List Oper}{a0:Option Nat}(hs:Region.noSelect al.toArray=true){Q:Exit->Act->World->Prop}{D:Nat->Prop}:∀(l:List (Nat×Bool)) (an:An) (s:St U) (K:St U->Option α) (z:α),(∀o∈al,∀n,Wr al o n->D n)->ilr Y TI FZ IL EV al (l.map Prod.fst) an s K=some z->
  (∀s' a w β,Ag D s s'->K s'=some z->bJ Y.C E s' a w β->Q .normal a w)->
   ∀c,Dn .any al.toArray c->chk al.toArray a0 l c=true->CG FZ al a0 l c->∀a w β,bJ Y.C E s a w β->eG P .any al.toArray a0 (NoPanic Q) (Ext w) l.length c a w
 |[],an,s,K,z,_,h,I,c,hd,hc,hg,a,w,β,r=>zJ (P:=P) (a0:=a0) (S:=Ext w) (Q:=NoPanic Q) (by simpa[chk] using hc) (I s a w β (Ag.refl s) h r) 0
 |(i,fl)::l,an,s,K,z,J,h,I,c,hd,hc,e,a,w,β,r=>by
  replace h:ilr Y TI FZ IL EV al (i::l.map Prod.fst) an s K=some z:=h;cases ho:al[i]? with
  |none=>
   have:(none:Option α)=some z:=by have L:=h;unfold ilr at L;rw[aY,ho] at L;exact L
   cases this
  |some o=>
   have hg:al.toArray[i]? =some o:=by simpa using ho
   have j:=aE ho;cases fl with
   |true=>
    simp only[chk,ac] at hc;have q:Nat.beq (Fp FZ o.op) 0=true/\frees FZ al a0 l=true:=by
     rcases e with e|⟨_,e⟩
     ·have d:frees FZ al a0 ((i,true)::l)=true:=e;simp only[frees,aY,ho,ae,ac] at d;exact d
     ·exact absurd (Ya e).1 (by simp)
    have t:=ah q.1;obtain⟨k,_,h⟩:=bP2 G A f B F r ho t h;obtain⟨v,s',h1,h2,h3,h4⟩:=cAo G r t h;have m:=hd.set (by simpa using hc.1.1.2);have M:=h4.mono (J o j);refine L8 (i:=i) (oi:=o) (v:=v) hg hs hc.1.1.1 hc.1.1.2 hc.1.2 hd (λ_ _ _ h=>h) ?_ (Ext.refl w) ?_
    ·rcases h1 with⟨k1,k2⟩|⟨k1,k2⟩
     ·exact .inl ⟨k1,k2⟩
     ·exact .inr ⟨k1,k2⟩
    ·exact cA0 G A f B F hs l k s' K z J h3 (λs2 N O β2 R T V=>I s2 N O β2 (M.trans R) T V) _ m hc.2 (.inl q.2) _ w β h2
   |false=>
    replace hc:((Region.ready .any al.toArray c==[i])&&(a0 !=some i|| !iI a0 (c.setIfInBounds i true))&&chk al.toArray a0 l (c.setIfInBounds i true))=true:=hc;simp only[ac,cT] at hc;have m:=hd.set (i:=i) (by rw[hc.1.1];simp);have p:(Nat.ble (Fp FZ o.op) 1=true/\frees FZ al a0 l=true)\/(iI a0 (c.setIfInBounds i true)=false/\aVf l=true):=by
     rcases e with e|⟨hn,e⟩
     ·have d:frees FZ al a0 ((i,false)::l)=true:=e;simp only[frees,aY,ho,aa] at d;cases hb:Nat.ble (Fp FZ o.op) 1 with
      |true=>rw[hb] at d;exact .inl ⟨rfl,d⟩
      |false=>
       rw[hb] at d;simp only[aa,ac] at d;refine .inr ⟨?_,d.2⟩;cases a0 with
       |none=>exact absurd d.1 (by simp)
       |some b=>have W:b=i:=ah d.1;subst W;have:=hc.1.2;simpa using this
     ·exact .inr ⟨qC hn,(Ya e).2⟩
    obtain⟨k,_,hk⟩:=aV1 G A f B F r ho h;refine nO hc.1.1 (by simp) (λi' u=> ?_);simp at u;subst u;refine wpOp_step hg λK' Z=>hk K' _ λs' a' w' β' q1 q2 q3 q4=>Z _ _ ?_;have q1':=q1.mono (J o j);have cont:=λhh=>cA0 G A f B F hs l k s' K z J q2 (λs2 N O β2 R T V=>I s2 N O β2 (q1'.trans R) T V) _ m hc.2 hh a' w' β' q3;rcases p with⟨y,c2⟩|⟨y,c2⟩
    ·have hx:=q4 y;exact⟨λ_=>hx,zI (λx hx'=>Ext.trans hx hx') _ _ _ _ (cont (.inl c2))⟩
    ·exact⟨λhn=>(by rw[y] at hn;cases hn),tV _ _ _ _ y (cont (.inr ⟨y,c2⟩))⟩
def cA1 (G:Good P g Y TI FZ)(p:wL P IL)(j:aZo P Y g EV)(q:E.fr=[])(t:E.prm=[]){s:St U}{a:Act}{w:World}{β:List Tr}{al:List Oper}{a0:Option Nat}{Q:Exit->Act->World->Prop}{i:Nat}{o:Oper}{n:Nat}{c:Array Bool}{wS:World}(ho:al[i]? =some o){pre:Bool}(u:a0Y a0 i c=true)(hp:iI a0 c=pre)(f:(pre&& !Rv a0 i)=false)
  {b:An} {K:St U->Option α} {z:α} (h:bD5 al o (λs=>inl TI IL EV b o s K) s K=some z) (r:bJ Y.C E s a w β)
  (hk:∀s' d w' β',Ag (Wr al o) s s'->K s'=some z->bJ Y.C E s' d w' β'->eG P .any al.toArray a0 (NoPanic Q) (Ext w') n (c.setIfInBounds i true) d w'):
  wpOp P al.toArray (NoPanic Q) i (λd w'=>(iI a0 (c.setIfInBounds i true)=true->Ext wS w')/\eG P .any al.toArray a0 (NoPanic Q) (Ext wS) n (c.setIfInBounds i true) d w') a w:=by
 have y:iI a0 (c.setIfInBounds i true)=false:=(aE3 u hp).trans f;have hg:al.toArray[i]? =some o:=by simp[*]
 refine wpOp_step hg λA B=> ?_;have fin:∀s' d w' β',Ag (Wr al o) s s'->K s'=some z->bJ Y.C E s' d w' β'->A d w':=(by grind[q1,q2,q3,tV]);obtain⟨s1,m,h1,h2⟩:=Xx r h;rcases h2 with⟨k,h2⟩|⟨k,h2⟩
 ·rw[cR k];exact bTc G p j q t m (al:=al) h2 (λs' d w' β' q1 q2 q3=>fin s' d w' β' (h1.trans q1) q2 q3)
 ·rw[dk (by rw[k];simp)];exact fin _ _ w β (h1.put (λn e=> .inl e)) h2 (m.put (x:= .l .und) (v:=undef) (λ_=>rfl))
def bWw (G:Good P g Y TI FZ)(I:wL P IL)(d:aZo P Y g EV)(J:E.fr=[])(L:E.prm=[]){al:List Oper}{a0:Option Nat}(hs:Region.noSelect al.toArray=true){Q:Exit->Act->World->Prop}{D:Nat->Prop}:∀(l:List (Nat×Bool)) (an:An) (pre st:Bool) (s:St U) (K:St U->Option α) (z:α),(∀i∈l,∀o,al[i.1]? =some o->∀n,Wr al o n->D n)->ilY Y TI FZ IL EV al a0 l an pre st s K=some z->
  (∀s' a w β,Ag D s s'->K s'=some z->bJ Y.C E s' a w β->Q .normal a w)->∀c,Dn .any al.toArray c->aOa al.toArray a0 l c=true->iI a0 c=pre->∀a w β wS,Lk E none st pre wS w->bJ Y.C E s a w β->eG P .any al.toArray a0 (NoPanic Q) (Ext wS) l.length c a w
 |[],an,pre,st,s,K,z,_,h,x,c,_,hc,_,a,w,β,wS,_,r=>zJ (P:=P) (a0:=a0) (S:=Ext wS) (Q:=NoPanic Q) (by simpa[aOa] using hc) (x s a w β (Ag.refl s) h r) 0
 |(i,fl)::l,an,pre,st,s,K,z,R,h,x,c,e,hc,hp,a,w,β,wS,hl,r=>by
  unfold ilY at h;rw[aY] at h;cases ho:al[i]? with
  |none=>rw[ho] at h;cases h
  |some o=>
   rw[ho] at h;simp only at h;have t:=R (i,fl) (by simp) o ho;have u:∀j∈l,∀o,al[j.1]? =some o->∀n,Wr al o n->D n:=λj hj=>R j (by simp[hj]);cases fl with
   |true=>
    simp only[ae] at h;simp only[aOa,ac] at hc;obtain⟨hr,M⟩:=yC hc.1;exact stepT G hs ho e hc.1 h hl.st (λhn=>hl.pre (hp.symm.trans hn)) r λv s' h1 h2 N=>
     bWw G I d J L hs l an pre st s' K z u h2 (λs2 y A β2 B=>x s2 y A β2 ((h1.mono t).trans B)) _ (e.set hr) hc.2 ((Fj M).trans hp) _ w β wS hl N
   |false=>
    simp only[aOa,ac,cT] at hc;simp only[aa] at h;have hr:i∈Region.ready .any al.toArray c:=by rw[hc.1];simp
    refine nO hc.1 (by simp) λp F=> ?_;simp at F;subst F;have plain:∀f,grd Y TI FZ al o s (λs'=>bif !(pre&& !Rv a0 p)||(Nat.ble (Fp FZ o.op) 1||unO none s'.m.o) then ilY Y TI FZ IL EV al a0 l f (pre&& !Rv a0 p) (st&&Sa (none:Option (Nat×Nat))) s' K else none)=some z->wpOp P al.toArray (NoPanic Q) p (λO w'=>(iI a0 (c.setIfInBounds p true)=true->Ext wS w')/\eG P .any al.toArray a0 (NoPanic Q) (Ext wS) l.length (c.setIfInBounds p true) O w') a w:=λf h=>
     bHf G ho hc.2.1 hp (kd:=none) (K:=λs'=>ilY Y TI FZ IL EV al a0 l f (pre&& !Rv a0 p) (st&&Sa (none:Option (Nat×Nat))) s' K) h hl r λv s' w' β' wS' h1 h2 N T=>
      bWw G I d J L hs l f _ _ s' K z u h2 (λs2 y A β2 B=>x s2 y A β2 ((h1.mono t).trans B)) _ (e.set hr) hc.2.2 (aE3 hc.2.1 hp) _ w' β' wS' T N
    cases an with
    |il k b q=>
     simp only at h;cases hb:Nat.beq k p with
     |false=>rw[hb] at h;exact plain _ h
     |true=>
      rw[hb] at h;simp only[ae] at h;cases hq:(Nat.beq (Fp FZ o.op) 2&& !(pre&& !Rv a0 p)) with
      |false=>rw[hq] at h;cases h
      |true=>
       rw[hq] at h;simp only[ae] at h;simp only[ac,cj] at hq;exact cA1 G I d J L ho hc.2.1 hp hq.2 h r λs' O w' β' q1 q2 q3=>
        bWw G I d J L hs l q false st s' K z u q2 (λs2 y A β2 B=>x s2 y A β2 ((q1.mono t).trans B)) _ (e.set hr) hc.2.2 ((aE3 hc.2.1 hp).trans hq.2) O w' β' w' ⟨λ_ _ h=>(by cases h),λ_=>rfl,λ_=>rfl,λ_=>Ext.refl _⟩ q3
    |_=>exact plain _ h
def Good.pl (G:Good P g Y TI FZ):Good P g Y TI (plT FZ):=⟨G.ti,G.lay,λf S h=>by
 unfold plT at h;obtain⟨⟨f',b⟩,hm,e⟩:=cq.1 h;injection e with c d;subst c;have h0:=G.fs f' b hm;obtain⟨ar,rs,fr,wt,m⟩:=b;subst d;cases fr with
 |false=>exact h0
 |true=>
  cases wt with
  |true=>exact h0
  |false=>exact bSs h0 rfl rfl⟩
def aGh (G:Good P g Y TI FZ)(hm:P.follows .mixedOrders=true)(o:wL P IL):bM7 P Y TI FZ IL g:=by
 intro E e i α EV c id os d an s N X R z D j A h;cases an with
 |il k b q=>
  intro Q p hX I a w β r;have B:os.toList.toArray=os:=by simp
  by_cases u:∃kb f a0 ord,ilo q= .y kb f a0 ord
  ·obtain⟨kb,f,a0,ord,u⟩:=u;unfold bPc at h;simp only[u] at h;replace h:(bif d&&bD9 os none a0 ord then ilY Y TI FZ IL EV os.toList a0 ord (.il k b q) true true s N else none)=some z:=h;cases d with
   |false=>cases h
   |true=>
    cases hc:bD9 os none a0 ord with
    |false=>simp_all
    |true=>rw[hc] at h;simp only[dc,ae] at h;simp only[bD9,ac,dA] at hc;obtain⟨hs,hlen,F⟩:=hc;have hlen:=ah hlen;have t:bJ Y.C E s a w.drew β:=r.ext (Ext.drew w);refine wp_region_noPanic (wp_region_any hm (sU (a0:=a0) (S:=Ext w.drew) _ _ _ _ ?_));have:=bWw G o c e i (a0:=a0) (al:=os.toList) (by assumption) (Q:=Q) (D:=D) ord _ true true s N z (by grind[List.mem_of_getElem?]) h p (Array.replicate os.size false) (by simp[Dn0]) (by assumption) bTb a w.drew β w.drew ⟨(by simp),λ_=>rfl,λ_=>rfl,λ_=>Ext.refl _⟩ t;simp_all
  replace h:(match(bif d then aSm FZ os.toList os (ilo q) else some (rng (len os.toList) 0)) with
   |some l=>ilr Y TI FZ IL EV os.toList l (.il k b q) s N
   |none=>none)=some z:=by
   grind[absurd,bPc]
  cases d with
  |false=>simp only[aa,dA] at h;refine wp_region_list ?_;have:=cCq G o c e i (Q:=Q) (D:=D) os.toList.length 0 _ s N z (by omega) j h p a w β r;assumption
  |true=>
   simp only[ae] at h;cases ho:aSm FZ os.toList os (ilo q) with
   |none=>simp_all
   |some l=>
    rw[ho] at h;simp only at h;have t:bJ Y.C E s a w.drew β:=r.ext (Ext.drew w);rcases bCe ho with⟨hs,hlen,hc⟩|⟨a0,ord,hs,hlen,hc,v,x⟩
    ·refine wp_region_noPanic (wp_region_any hm ?_);have:=cCr G o c e i (Q:=NoPanic Q) (D:=D) l _ s N z j h p (Array.replicate os.size false) (by assumption) a w.drew β t;simp_all
    ·refine wp_region_noPanic (wp_region_any hm (sU (a0:=a0) (S:=Ext w.drew) _ _ _ _ ?_));subst x;have:=cA0 G o c e i (a0:=a0) (by assumption) (Q:=Q) (D:=D) ord _ s N z j h p (Array.replicate os.size false) (by simp[Dn0]) (by assumption) (.inl v) a w.drew β t;simp_all
 |pl b=>
  have m:(∃a0 ord,rgn Y TI (plT FZ) os.toList os d (.r a0 ord) s N=some z)\/rgn Y TI (plT FZ) os.toList os d .n s N=some z:=by
   unfold bPc at h
   grind
  rcases m with⟨a0,ord,m⟩|m
  ·exact aOn e i G.pl hm id os d (.r a0 ord) s N X R z D j trivial m
  ·exact aOn e i G.pl hm id os d .n s N X R z D j trivial m
 |_=>exact aOn e i G hm id os d _ s N X R z D j A h
end
end Go.EV
namespace Go.EV
open Go.RowKit Go.VK
variable {U:Uni} {Y:Lay U} {TI:List (Nat×TInfo)} {FZ:List (Nat×Sum U)} {IL:Il} {P:Program} {g:GI} {E:Env U g}
section
variable {s:St U} {a:Act} {w w0:World} {β:List Tr}
def bP3 (e:uW P TI=true)(r:bJ Y.C E s a w β){f:Func}{l:List ResultVar}(j:f.results=l.toArray){ks:List Kd}{z:sW U ks}(h:fin Y TI false ks l s=some z):∃v,(results f a.tmps).run P w= .ok v w/\Rd w E.X0 [] v (iZ ((bK Y ks z).map qF)):=by
 unfold fin at h;cases h1:aE2 TI s l with
 |none=>rw[h1] at h;cases h
 |some xs=>
  rw[h1] at h;obtain⟨vs,k1,k2,k3⟩:=Gu e r h1;have hrd:=Xv r (Z:=E.X0) (λb hb=> .inl hb) ks (z:=z) h k2 k3 (.inr (aUn r));refine⟨_,Mf j k1,?_⟩;generalize(bK Y ks z).map qF=Us at hrd;obtain⟨h2,d⟩:=hrd;clear k1 k2 k3 h h1
  match Us,vs,h2,d with
  |[U],[v],_,d=>exact d 0 v U rfl rfl
  |[],[],_,_=>exact .tup rfl (by simp)
  |U::U'::Us,v::v'::vs,h2,d=>rw[dif_neg (by simp)];exact .tup (by simpa using h2) (λi v c k m=>d i v c (by simpa using k) m)
def bCg {w0:World}{X0:Nat->Prop}(r:g.G w0)(q:∀b,X0 b->b<w0.heap.size){ks:List Kd}{z:sW U ks}{n:Nat}{vs:List Value}(f:RdL w0 X0 vs ((bK Y ks z).map qF))(hn:(bK Y ks z).length<=n)(E:Env U g)(h:E.X0=X0)(i:∀b,¬E.Y0 b)(j:E.w0=w0)(k:E.pin=[])(l:E.prm=[])(o:E.fr=[]):
  bJ Y.C E (ini Y n ks z) {tmps:=vs.toArray++Array.replicate (n-vs.toArray.size) undef,defers:=[]} w0 []:=by
 have hlen:vs.length=(bK Y ks z).length:=by rw[f.1,bf]
 refine⟨⟨by rw[<-j];exact Bel.refl _,rfl,by simp[ini],by simp[ini],by simp,by simp,by simp,by simp,by simp[k],by simp[l],by simp[o]⟩,rfl,?_,λm x d=> ?_⟩
 ·simp only[ini,dA,ax,bf,fe,iy,iq,Array.size_replicate,hlen]
 ·simp only[ini,dA,bf] at d;by_cases p:m<(bK Y ks z).length
  ·rw[av (by simpa using p),bq] at d;cases hc:(bK Y ks z)[m]? with
   |none=>rw[hc] at d;cases d
   |some c=>
    rw[hc] at d;have:=ao d;subst this;have e:m<vs.length:=by omega
    have hv:(vs.toArray++Array.replicate (n-vs.toArray.size) undef).getD m undef=vs[m]:=by rw[cz,fj (by simpa using e)];simp[ab e]
    rw[hv];refine yA (aJt (Sj ks z c (aE hc)) (f.2 m _ _ (ab e) (by rw[bq,hc];rfl)) (.inl λb hb=> ?_));rcases hb with hb|hb|⟨t,ht,_⟩
    ·rw[h] at hb;exact hb
    ·exact absurd hb (i b)
    ·simp at ht
  ·rw[az (by rw[bf];omega)] at d;have:=aE d;simp at this;rw[this.2];trivial
def bTd (G:Good P g Y TI FZ)(hm:P.follows .mixedOrders=true)(o:wL P IL){f:FuncId}{d:Func}{j:Code}{n:Nat}{l:List ResultVar}{ar rs:List Kd}{an:An}{z:sW U ar}{q:sW U rs}(p:P.funcs[f]? =some d)(hb:d.body=some j)(hn:d.ntmps=n)(hl:d.results=l.toArray)
  (t:∀args w,(callFunc f args).run P w= .ok (.enter f args) w) (hlen:(bK Y ar z).length<=n) (h:yZ Y TI FZ IL an j n ar rs false l z=some q):VK.Spec P g f ((bK Y ar z).map qF) (λv=>v=iZ ((bK Y rs q).map qF)):=by
 refine⟨t,λw X0 vs m e k=>calls_of_wp p hb ?_⟩;let E:Env U g:=⟨X0,λ_=>False,w,[],[],λb h=> .inl (e b h),λ_ h=>h.elim,λ_ _ h=>h,λw' u=>g.st w w' m (u.ext λ_ h=>h),[]⟩;have x:=bCg (Y:=Y) m e k hlen E rfl (λ_ h=>h) rfl rfl rfl rfl;have done:∀s' c w' β',fin Y TI false rs l s'=some q->bJ Y.C E s' c w' β'->c.defers=[]/\∃v,(results d c.tmps).run P w'= .ok v w'/\(∃v' r,Ending.returned v= .returned v'/\r=iZ ((bK Y rs q).map qF)/\Rd w' X0 [] v' r/\Ext w w'):=λs' c w' β' hq r=>by
  obtain⟨v,k1,k2⟩:=bP3 G.ti r hl hq;exact⟨r.defers,v,k1,v,_,rfl,rfl,k2,r.hp.ext.ext λ_ h=>h⟩
 rw[hn];exact aVx (aGh G hm o) 1000 E rfl rfl an j _ _ _ _ _ q (λ_=>True) (WC.true j) (AW.true an) h _ (λs' c w' β' _ hq r=>done s' c w' β' hq r) (λi s' c w' β' _ hq r=>by cases hq) (λs' c w' β' _ hq r=>done s' c w' β' hq r) _ _ _ x
end
end Go.EV
namespace Go.EV
open Go.RowKit Go.VK
variable {U:Uni} {Y:Lay U} {TI:List (Nat×TInfo)} {FZ:List (Nat×Sum U)} {IL:Il} {P:Program} {g:GI} {E:Env U g}
section
variable {s:St U} {a:Act} {w w0:World} {β:List Tr} {C:Cod U}
def bP4 {m:Mm U}{x:Lf U}{xs:List (Lf U)}{l:List Nat}(h:aOc m (x::xs)=some l):∃l1 l2,l=l1++l2/\aOc m [x]=some l1/\aOc m xs=some l2:=by
 cases x with
 |own i r=>
  simp only[aOc] at h ⊢;cases ho:nth m.o i with
  |none=>rw[ho] at h;cases h
  |some e=>
   obtain⟨ob,rv,cv⟩:=e;cases ob with
   |tree τ d c=>
    rw[ho] at h;simp only at h;cases hb:(Nat.beq rv r&&d) with
    |false=>rw[hb] at h;cases h
    |true=>
     rw[hb] at h;simp only[ae] at h;cases b:aOc m xs with
     |none=>rw[b] at h;cases h
     |some l2=>rw[b] at h;have:=ao h;subst this;exact⟨[i],l2,rfl,by simp[hb],rfl⟩
   |_=>rw[ho] at h;cases h
 |sl=>cases h
 |bor=>cases h
 |inn=>cases h
 |_=>exact⟨[],l,rfl,rfl,h⟩
def bHl (H:Hp C E s.m β w){kd:Kd}{x y:Lf U}{l:List Nat}{v:Value}(h:aOc s.m [x]=some l)(hr:rdn s.m kd x=some y)(hm:x.mean C w (E.X β) β s.m v)(hK:∀τ,kd= .sl τ->0<U.K τ):Ow C w (λ_=>False) true v y (mH β l):=by
 have j:mH β []=[]:=rfl;have flat:rM x=true->wI s.m x=some y->l=[]->(∀τ f,y≠ .sl τ f)->Ow C w (λ_=>False) true v y (mH β l):=λu hr hl o=>by
  obtain⟨k1,k2⟩:=Sb H hm hr (Z:=λ_=>False) (λ_ h=>h.elim) (.inl u);subst hl;rw[j];cases y with
  |int k n=>obtain⟨rfl,h1,h2⟩:=k2.aAR;exact .int h1 h2
  |bool b=>obtain rfl:=k2.aAW;exact .bool
  |str z=>obtain⟨rfl,h1⟩:=k2.aAU;exact .str h1
  |sl τ f=>exact absurd rfl (o τ f)
  |_=>cases k1
 cases x with
 |own i r=>
  obtain⟨_,e,t,h2,q,A⟩:=hm;obtain⟨ob,rv,cv⟩:=e;simp only[aOc,aY,h2] at h;replace hr:wI s.m (.own i r)=some y:=hr;simp only[wI,aY,h2] at hr;cases ob with
  |tree τ d f=>
   simp only at h hr;cases hb:(Nat.beq rv r&&d) with
   |false=>rw[hb] at h;cases h
   |true=>
    rw[hb] at h;have:=ao h;subst this;simp only[ac] at hb;rw[hb.1] at hr;have:=ao hr;subst this;have hd:d=true:=hb.2;subst hd;rw[A (ah hb.1)];have ho:=(Hp.tree H q h2 rfl).conv (X':=λ_=>False) (ak _) (λ_ _ h=>h.elim) (λ_ _ _ h=>h) (λ_ _=>rfl);have p:mH β [i]=t.all:=by simp[mH,q]
    rw[p];exact ho
  |_=>cases h
 |nil=>
  obtain rfl:=hm;have:=ao h;subst this;cases kd with
  |sl τ=>have:=ao (show some (Lf.sl τ [])=some y from hr);subst this;exact .sl aOg (hK τ rfl) (World.ownsRow_nil w 0 τ (U.K τ)) .n
  |_=>cases hr
 |int k n=>have e:=ao (show some (Lf.int k n)=some y from hr);exact flat rfl hr (ao h).symm (λ_ _ e'=>by rw[<-e] at e';cases e')
 |bool b=>have e:=ao (show some (Lf.bool b)=some y from hr);exact flat rfl hr (ao h).symm (λ_ _ e'=>by rw[<-e] at e';cases e')
 |str b=>have e:=ao (show some (Lf.str b)=some y from hr);exact flat rfl hr (ao h).symm (λ_ _ e'=>by rw[<-e] at e';cases e')
 |nat c=>refine flat rfl hr (ao h).symm (λτ f e'=> ?_);subst e';replace hr:wI s.m (.nat c)=some (.sl τ f):=hr;simp only[wI] at hr;split at hr<;>cases hr
 |lt c n=>refine flat rfl hr (ao h).symm (λτ f e'=> ?_);subst e';replace hr:wI s.m (.lt c n)=some (.sl τ f):=hr;simp only[wI] at hr;split at hr<;>cases hr
 |sl=>cases h
 |bor=>cases h
 |inn=>cases h
 |_=>cases hr
def aV2 (H:Hp C E s.m β w):∀(ks:List Kd) {xs ys:List (Lf U)} {l:List Nat} {vs:List Value},rds s.m ks xs=some ys->aOc s.m xs=some l->Ms C w (E.X β) β s.m vs xs->(∀kd∈ks,∀τ,kd= .sl τ->0<U.K τ)->OwL C w (λ_=>False) true vs ys (mH β l)
 |[],[],ys,l,vs,h,hl,b,_=>by
  have:=ao h;subst this;have:=ao hl;subst this;have:vs=[]:=cg b.1;subst this;exact .n
 |[],_::_,_,_,_,h,_,_,_=>by cases h
 |_::_,[],_,_,_,h,_,_,_=>by cases h
 |kd::ks,x::xs,ys,l,vs,h,hl,b,hK=>by
  obtain⟨y,e,h1,h2,rfl⟩:=bG8 h;obtain⟨l1,l2,rfl,f,j⟩:=bP4 hl;cases vs with
  |nil=>have:=b.1;simp at this
  |cons v vs=>rw[aJr];exact .c (bHl H f h1 (b.2 0 v x rfl rfl) (hK kd (by simp))) (aV2 H ks h2 j ⟨by have:=b.1;simpa using this,λi u c p q=>b.2 (i+1) u c (by simpa using p) (by simpa using q)⟩ (λd hk=>hK d (by simp[hk])))
def bNb (hY:LayOk Y)(H:Hp Y.C E s.m β w){kd:Kd}{x:Sv U}{z:kd.ty U}{v:Value}{cs:List (Lf U)}{l:List Nat}(hm:x.mean Y.C w (E.X β) β s.m v)(hp:parts x=some cs)(hl:aOc s.m cs=some l)(h:aCt Y s.m kd x=some z)(hK:∀τ,kd= .sl τ->0<U.K τ):OwP Y.C w v (mH β l) (aJi Y kd z):=by
 have leaf:∀{y:Lf U},x= .l y->(∀T,kd≠ .st T)->(match rdn s.m kd y with|some q=>aU7 kd q|none=>none)=some z->OwP Y.C w v (mH β l) (aJi Y kd z):=λ{y} d c h0=>by
  subst d;have:=ao hp;subst this;cases hr:rdn s.m kd y with
  |none=>rw[hr] at h0;cases h0
  |some q=>
   rw[hr] at h0;have hq:=aCg (show aU7 kd q=some z from h0);have ho:=bHl H hl hr hm hK;rw[hq] at ho;cases kd with
   |st T=>exact absurd rfl (c T)
   |_=>exact⟨_,rfl,ho⟩
 cases kd with
 |st T=>
  cases x with
  |a cs'=>
   have:=ao hp;subst this;have b:(match rds s.m (Y.kd T) cs' with|some ds=>Y.C.bld T ds|none=>none)=some z:=h;cases hr:rds s.m (Y.kd T) cs' with
   |none=>rw[hr] at b;cases b
   |some ds=>rw[hr] at b;obtain⟨vs,rfl,f⟩:=hm;have ho:=aV2 H _ hr hl f (λkd hk τ e=>hY.pos T τ (e▸hk));rw[Y.C.hmk T ds z b] at ho;exact⟨vs,rfl,ho⟩
  |l y=>
   have b:(match rdn s.m (Kd.st T) y with|some q=>aU7 (Kd.st T) q|none=>none)=some z:=h;cases hr:rdn s.m (Kd.st T) y with
   |none=>rw[hr] at b;cases b
   |some q=>rw[hr] at b;cases q<;>cases b
  |t y=>cases h
 |int k=>cases x with
  |l y=>exact leaf rfl (by simp) h
  |_=>cases h
 |bool=>cases x with
  |l y=>exact leaf rfl (by simp) h
  |_=>cases h
 |str=>cases x with
  |l y=>exact leaf rfl (by simp) h
  |_=>cases h
 |sl τ=>cases x with
  |l y=>exact leaf rfl (by simp) h
  |_=>cases h
def bTe (hY:LayOk Y)(H:Hp Y.C E s.m β w)(ks:List Kd):∀{xs:List (Sv U)} {z:sW U ks} {vs:List Value} {l:List Nat},pM Y s.m ks xs=some z->bPd s.m xs=some l->vs.length=xs.length->(∀(i:Nat) (v:Value) (x:Sv U),vs[i]? =some v->xs[i]? =some x->x.mean Y.C w (E.X β) β s.m v)->(∀kd∈ks,∀τ,kd= .sl τ->0<U.K τ)->OwPs Y.C w vs (bK Y ks z) (mH β l):=by
 induction ks with
 |nil=>
  intro xs z vs l h hl hlen hm hK;cases xs with
  |nil=>have:=ao hl;subst this;have:vs=[]:=cg hlen;subst this;exact .n
  |cons=>cases h
 |cons k ks r=>
  intro xs z vs l h hl hlen hm hK;cases xs with
  |nil=>cases ks<;>cases h
  |cons x xs=>
   cases vs with
   |nil=>simp at hlen
   |cons v vs=>
    simp only[bPd] at hl;cases hp:parts x with
    |none=>rw[hp] at hl;cases hl
    |some cs=>
     rw[hp] at hl;simp only at hl;cases h1:aOc s.m cs with
     |none=>rw[h1] at hl;cases hl
     |some l1=>
      cases h2:bPd s.m xs with
      |none=>rw[h1,h2] at hl;cases hl
      |some l2=>
       rw[h1,h2] at hl;have:=ao hl;subst this;rw[aJr];cases ks with
       |nil=>
        cases xs with
        |cons t xs=>cases h
        |nil=>have f:vs=[]:=cg (by simpa using hlen);subst f;have:=ao h2;subst this;exact .c (bNb hY H (hm 0 v x rfl rfl) hp h1 (show aCt Y s.m k x=some z from h) (hK k (by simp))) .n
       |cons j d=>
        replace h:(match aCt Y s.m k x with|some a=>(match pM Y s.m (j::d) xs with|some b=>some (a,b)|none=>none)|none=>none)=some (show k.ty U×sW U (j::d) from z):=h;cases e:aCt Y s.m k x with
        |none=>rw[e] at h;cases h
        |some y=>
         cases o:pM Y s.m (j::d) xs with
         |none=>rw[e,o] at h;cases h
         |some A=>rw[e,o] at h;have:=ao h;subst this;exact .c (bNb hY H (hm 0 v x rfl rfl) hp h1 e (hK k (by simp))) (r o h2 (by simpa using hlen) (λi u c p q=>hm (i+1) u c (by simpa using p) (by simpa using q)) (λkd hk=>hK kd (by simp[hk])))
def bP5 (G:Good P g Y TI FZ)(r:bJ Y.C E s a w β)(d:∀b,¬E.Y0 b){o:Func}{l:List ResultVar}(p:o.results=l.toArray){ks:List Kd}{z:sW U ks}(h:fin Y TI true ks l s=some z):∃v B,(results o a.tmps).run P w= .ok v w/\B.Nodup/\(∀b∈B,E.w0.heap.size<=b)/\OwR Y.C w v (bK Y ks z) B:=by
 unfold fin at h;cases h1:aE2 TI s l with
 |none=>rw[h1] at h;cases h
 |some xs=>
  rw[h1] at h;simp only[ae] at h;cases h2:bPd s.m xs with
  |none=>rw[h2] at h;cases h
  |some ids=>
   rw[h2] at h;simp only at h;cases hb:(dist ids&&aVd (U:=U) ks) with
   |false=>rw[hb] at h;cases h
   |true=>
    rw[hb] at h;simp only[ae] at h;simp only[ac] at hb;obtain⟨vs,k1,k2,k3⟩:=Gu G.ti r h1;have ho:=bTe G.lay r.hp ks h h2 k2 k3 (aGe hb.2);refine⟨_,mH β ids,Mf p k1,bEk r.hp (Sd.1 hb.1),λb e=> ?_,?_⟩
    ·obtain⟨j,_,u,q,f⟩:=Fs e;exact(r.hp.new j u b q f).1.resolve_right (d b)
    ·generalize bK Y ks z=cps at ho ⊢;generalize mH β ids=y at ho ⊢;clear h k1 k3 h2 h1 k2;cases ho with
     |n=>exact⟨[],rfl, .n⟩
     | @c v x B B' vs t hv hr=>
      cases hr with
      |n=>rw[eM];exact hv
      | @c A x2 D F vs2 xs2 i k=>rw[dif_neg (by simp)];exact⟨_,rfl, .c hv (.c i k)⟩
end
def bP6 (G:Good P g Y TI FZ)(hm:P.follows .mixedOrders=true)(o:wL P IL){f:FuncId}{d:Func}{j:Code}{n:Nat}{l:List ResultVar}{ar rs:List Kd}{an:An}{z:sW U ar}{q:sW U rs}(p:P.funcs[f]? =some d)(hb:d.body=some j)(hn:d.ntmps=n)(hl:d.results=l.toArray)
  (t:∀args w,(callFunc f args).run P w= .ok (.enter f args) w) (hlen:(bK Y ar z).length<=n) (h:yZ Y TI FZ IL an j n ar rs true l z=some q):bYa P g Y.C f ((bK Y ar z).map qF) (bK Y rs q):=by
 refine⟨t,λw X0 vs m e k=>calls_of_wp p hb ?_⟩;let E:Env U g:=⟨X0,λ_=>False,w,[],[],λb h=> .inl (e b h),λ_ h=>h.elim,λ_ _ h=>h,λw' u=>g.st w w' m (u.ext λ_ h=>h),[]⟩;have x:=bCg (Y:=Y) m e k hlen E rfl (λ_ h=>h) rfl rfl rfl rfl;have done:∀s' c w' β',fin Y TI true rs l s'=some q->bJ Y.C E s' c w' β'->c.defers=[]/\∃v,(results d c.tmps).run P w'= .ok v w'/\(∃v' B,Ending.returned v= .returned v'/\Ext w w'/\B.Nodup/\(∀b∈B,w.heap.size<=b)/\OwR Y.C w' v' (bK Y rs q) B):=λs' c w' β' hq r=>by
  obtain⟨v,B,k1,k2,k3,k4⟩:=bP5 G r (λ_ h=>h) hl hq;exact⟨r.defers,v,k1,v,B,rfl,r.hp.ext.ext λ_ h=>h,k2,k3,k4⟩
 rw[hn];exact aVx (aGh G hm o) 1000 E rfl rfl an j _ _ _ _ _ q (λ_=>True) (WC.true j) (AW.true an) h _ (λs' c w' β' _ hq r=>done s' c w' β' hq r) (λi s' c w' β' _ hq r=>by cases hq) (λs' c w' β' _ hq r=>done s' c w' β' hq r) _ _ _ x
def aCj:∀(ks:List Kd) (z:sW U ks),(bK Y ks z).length=ks.length
 |[],_=>rfl
 |[k],_=>rfl
 |k::b::ks,z=>by
  show(bK Y (b::ks) z.2).length+1=_;rw[aCj (b::ks)];rfl
def bCh {f:FuncId}{S:Sum U}(h:Cq P g Y f S)(G:Good P g Y TI FZ):Good P g Y TI ((f,S)::FZ):=⟨G.ti,G.lay,λf' b hm=>by
 rcases bg.1 hm with e|e
 ·injection e with c d;subst c;subst d;exact h
 ·exact G.fs f' b e⟩
def cA2 (G:Good P g Y TI FZ)(hm:P.follows .mixedOrders=true)(j:wL P IL){f:FuncId}{e:Func}{k:Code}{n:Nat}{l:List ResultVar}{S:Sum U}{an:sW U S.ar->An}(o:P.funcs[f]? =some e)(hb:e.body=some k)(hn:e.ntmps=n)(hl:e.results=l.toArray)
  (p:∀args w,(callFunc f args).run P w= .ok (.enter f args) w) (hlen:S.ar.length<=n) (c:S.wt=false) (h:∀a r,S.m a=some r->yZ Y TI FZ IL (an a) k n S.ar S.rs S.fr l a=some r):Cq P g Y f S:=λa r hr=>by
 have i:=h a r hr;refine⟨λ_ b=> ?_,λ_ b=> ?_,λd=>(by rw[c] at d;cases d),λd=>(by rw[c] at d;cases d)⟩
 ·rw[b] at i;exact bTd G hm j o hb hn hl p (by rw[aCj];exact hlen) i
 ·rw[b] at i;exact bP6 G hm j o hb hn hl p (by rw[aCj];exact hlen) i
end Go.EV
namespace Go.EV
open Go.RowKit Go.VK
variable {U:Uni} {Y:Lay U} {TI:List (Nat×TInfo)} {FZ:List (Nat×Sum U)} {IL:Il} {P:Program} {g:GI} {E:Env U g}
section
variable {s:St U} {a:Act} {w w0:World} {β:List Tr} {C:Cod U}
def OwP.lt {v:Value}{B:List Nat}{x:Bool×List (Lf U)}(h:OwP C w v B x):∀b∈B,b<w.heap.size:=by
 obtain⟨b,cs⟩:=x;cases b with
 |true=>obtain⟨vs,_,h⟩:=h;exact h.lt
 |false=>obtain⟨c,_,h⟩:=h;exact h.lt
end
end Go.EV
namespace Go.VK
def aD {α:Type}{c:Prop}[Decidable c]{x y:Option α}{r:α}(h:c->y=x)(hr:gd c x=some r):y=some r:=by
 unfold gd at hr;split at hr
 ·rename_i hc;rw[h hc];exact hr
 ·cases hr
end Go.VK
namespace Go.VK
open EV (bI)
section
variable {α β σ τ:Type}
def bTf {S:Type}{F:(S->Option τ)->S->Option τ}(V:Nat->S->Prop)(N:Nat)(R:Option τ)
  (step:∀i s rec,i<N->V i s->(∃s',V (i+1) s'/\F rec s=rec s')\/F rec s=R) (last:∀s rec,V N s->F rec s=R):∀(k i n:Nat) (s:S),i+k=N->k<n->V i s->bI n F s=R
 |0,i,n+1,s,hk,hn,h=>by
  have:i=N:=by omega
  subst this;exact last s _ h
 |k+1,i,n+1,s,hk,hn,h=>by
  rcases step i s (bI n F) (by omega) h with⟨s',h1,h2⟩|h2
  ·exact h2.trans (bTf V N R step last k (i+1) n s' (by omega) (by omega) h1)
  ·exact h2
def Lm {S:Type}{F:(S->Option τ)->S->Option τ}(V:Nat->S->Prop)(N:Nat)(R:Option τ){s:S}(b:N<=18446744073709551616)(h0:V 0 s)
  (step:∀i s rec,i<N->V i s->(∃s',V (i+1) s'/\F rec s=rec s')\/F rec s=R) (last:∀s rec,V N s->F rec s=R):bI FUEL F s=R:=
 bTf V N R step last N 0 FUEL s (by omega) (by have:=fM;omega) h0
def bTg {S:Type}{F:(S->Option τ)->S->Option τ}(V:Nat->S->Prop)(N:Nat)(Q:τ->Prop)
  (step:∀i s rec,i<N->V i s->(∃s',V (i+1) s'/\F rec s=rec s')\/∃r,F rec s=some r/\Q r) (last:∀s rec,V N s->∃r,F rec s=some r/\Q r):∀(k i n:Nat) (s:S),i+k=N->k<n->V i s->∃r,bI n F s=some r/\Q r
 |0,i,n+1,s,hk,hn,h=>by
  have:i=N:=by omega
  subst this;exact last s _ h
 |k+1,i,n+1,s,hk,hn,h=>by
  rcases step i s (bI n F) (by omega) h with⟨s',h1,h2⟩|h2
  ·obtain⟨r,b⟩:=bTg V N Q step last k (i+1) n s' (by omega) (by omega) h1;exact⟨r,h2.trans b.1,b.2⟩
  ·exact h2
theorem dD {i n:Nat}(h:i<n):decide ((i:Int)<(n:Int))=true:=by simpa using h
def rU {n:Nat}:decide ((n:Int)<(n:Int))=false:=by simp
def set_mid {l r:List β}{i:Nat}{d x:β}(h:l.length=i):(l++d::r).set i x=(l++[x])++r:=by subst h;rw[fc _ _ (ak _)];simp
def yD {a:List α}{F:(Nat->Option (Bool⊕PUnit))->Nat->Option (Bool⊕PUnit)}(hl:a.length<=18446744073709551616)
  (b:∀rec i (hi:i<a.length),F rec i=rec (i+1)) (c:∀rec,F rec a.length=some (.inr ())):bI FUEL F 0=some (.inr ()):=by
 refine Lm (λi s=>s=i) a.length _ hl rfl (λi s rec hi hv=> ?_) (λs rec hv=> ?_)
 ·subst hv;exact .inl ⟨_,rfl,b rec s hi⟩
 ·subst hv;exact c rec
def szP (left:Int):Prop:=0<=left/\left<=1048576
instance (left:Int):Decidable (szP left):=inferInstanceAs (Decidable (_/\_))
theorem aUq {i:Nat}:((i:Nat):Int).toNat=i:=bw i
def MkP (s c:Nat)(k:Int):Prop:=s<=1152921504606846976/\0<=k/\k+c<=4611686018427387904
instance (s c:Nat) (k:Int):Decidable (MkP s c k):=inferInstanceAs (Decidable (_/\_))
end
end Go.VK
namespace Go.VK
open EV (bI)
section
variable {α β σ τ:Type}
def rO (n:Nat)(a b:α):Prop:=a=b/\n<=1152921504606846976
noncomputable instance (n:Nat) (a b:α):Decidable (rO n a b):=Classical.propDecidable _
def okL (p:α->Prop)(l:List α):Prop:=l.length<=9223372036854775807/\∀y∈l,p y
def okS (s:ByteArray):Prop:=s.size<=9223372036854775807
theorem kM {f:α->Nat}{l:List α}{i:Nat}(hi:i<l.length):f l[i]<=(l.map f).sum:=by
 have:f l[i]∈l.map f:=cq.2 ⟨_,cp hi,rfl⟩;induction l generalizing i with
 |nil=>simp at hi
 |cons x l c=>
  cases i with
  |zero=>simp
  |succ i=>
   have b:i<l.length:=by simpa using hi
   have:=c b (cq.2 ⟨_,cp b,rfl⟩);simp only[bn,dt,fa];omega
end
end Go.VK
namespace Go.VK
end Go.VK
namespace Go.VK
open EV (bI)
section
variable {α β σ τ:Type}
def mJ {l:List α}(p:α->Bool)(a b:τ){F:(Nat->Option τ)->Nat->Option τ}(hl:l.length<=18446744073709551616)
  (d:∀rec i (hi:i<l.length),F rec i=bif p l[i] then some a else rec (i+1)) (e:∀rec,F rec l.length=some b):bI FUEL F 0=some (bif l.any p then a else b):=by
 have key:∀i (hi:i<l.length),p l[i]=true->l.any p=true:=λi hi h=>fm.2 ⟨_,cp hi,h⟩;refine Lm (λi s=>i<=l.length/\s=i/\(l.take i).any p=false) l.length _ hl ⟨ct _,rfl,rfl⟩ (λi s rec hi hv=> ?_) (λs rec hv=> ?_)
 ·obtain⟨_,rfl,c⟩:=hv;rw[d rec s hi];cases hp:p l[s] with
  |true=>exact .inr (by rw[key s hi hp];rfl)
  |false=>exact .inl ⟨_,⟨hi,rfl,by rw[db,ab hi,gz,c];simp[hp]⟩,rfl⟩
 ·obtain⟨_,rfl,c⟩:=hv;rw[cG] at c;rw[e,c];rfl
def gL {l:List α}(p:Nat->α->Bool)(a b:τ){F:(Nat->Option τ)->Nat->Option τ}(hl:l.length<=18446744073709551616)
  (e:∀rec i (hi:i<l.length),F rec i=bif p i l[i] then some a else rec (i+1)) (f:∀rec,F rec l.length=some b):bI FUEL F 0=some (bif eF p 0 l then a else b):=by
 have key:∀(l:List α) (j:Nat),eF p j l=true↔∃(i:Nat) (hi:i<l.length),p (j+i) l[i]=true:=by
  intro l;induction l with
  |nil=>intro j;simp[eF]
  |cons x xs k=>
   intro j;simp only[eF,cu,k];constructor
   ·rintro(h|⟨i,hi,h⟩)
    ·exact⟨0,by simp,h⟩
    ·exact⟨i+1,by simpa using hi,by rw[show j+(i+1)=j+1+i by omega];exact h⟩
   ·rintro⟨i,hi,h⟩;cases i with
    |zero=>exact .inl h
    |succ i=>exact .inr ⟨i,by simpa using hi,by rw[show j+1+i=j+(i+1) by omega];exact h⟩
 refine Lm (λi s=>i<=l.length/\s=i/\∀(j:Nat) (hj:j<l.length),j<i->p j l[j]=false) l.length _ hl ⟨ct _,rfl,λj _ h=>by omega⟩ (λi s rec hi hv=> ?_) (λs rec hv=> ?_)
 ·obtain⟨_,rfl,c⟩:=hv;rw[e rec s hi];cases hp:p s l[s] with
  |true=>exact .inr (by rw[(key l 0).2 ⟨s,hi,by rw[co];exact hp⟩];rfl)
  |false=>
   refine .inl ⟨_,⟨hi,rfl,λj hj h=> ?_⟩,rfl⟩;rcases e8 j s with d|d
   ·exact c j hj d
   ·have:j=s:=by omega
    subst this;exact hp
 ·obtain⟨_,rfl,c⟩:=hv;have:eF p 0 l=false:=by
   cases h:eF p 0 l with
   |false=>rfl
   |true=>obtain⟨i,hi,hp⟩:=(key l 0).1 h;rw[co,c i hi hi] at hp;cases hp
  rw[f,this];rfl
def M9 {l:List α}(p:α->Bool){F:(Nat->Option (Int⊕PUnit))->Nat->Option (Int⊕PUnit)}(hl:l.length<=18446744073709551616)
  (b:∀rec i (hi:i<l.length),F rec i=bif p l[i] then some (.inl (i:Int)) else rec (i+1)) (c:∀rec,F rec l.length=some (.inr ())):nx (bI FUEL F 0) (λ_=>some (-1:Int))=some (lD p 0 l):=by
 have go:∀(k i n:Nat),i+k=l.length->k<n->nx (bI n F i) (λ_=>some (-1:Int))=some (lD p i (l.drop i)):=by
  intro k;induction k with
  |zero=>
   intro i n hk hn;obtain⟨n,rfl⟩:∃m,n=m+1:=⟨n-1,by omega⟩;have:i=l.length:=by omega
   subst this;rw[show bI (n+1) F l.length=F (bI n F) l.length from rfl,c,dy];rfl
  |succ k d=>
   intro i n hk hn;obtain⟨n,rfl⟩:∃m,n=m+1:=⟨n-1,by omega⟩;have hi:i<l.length:=by omega
   rw[show bI (n+1) F i=F (bI n F) i from rfl,b _ i hi,cE hi,lD];cases p l[i] with
   |true=>rfl
   |false=>exact d (i+1) n (by omega) (by omega)
 exact go l.length 0 FUEL (by omega) (by have:=fM;omega)
def jA {l:List α}(g:σ->α->σ)(Inv:Nat->σ->Prop)(fin:σ->Option τ){s0:σ}{F:(σ×Nat->Option τ)->σ×Nat->Option τ}(hl:l.length<=18446744073709551616)(h0:Inv 0 s0)
  (c:∀i s (hi:i<l.length),Inv i s->Inv (i+1) (g s l[i])) (d:∀rec i s (hi:i<l.length),Inv i s->F rec (s,i)=rec (g s l[i],i+1)) (f:∀rec s,Inv l.length s->F rec (s,l.length)=fin s):bI FUEL F (s0,0)=fin (l.foldl g s0):=by
 refine Lm (λi s=>i<=l.length/\s=((l.take i).foldl g s0,i)/\Inv i s.1) l.length _ hl ⟨ct _,rfl,h0⟩ (λi s rec hi hv=> ?_) (λs rec hv=> ?_)
 ·obtain⟨_,rfl,b⟩:=hv;have e:(l.take (i+1)).foldl g s0=g ((l.take i).foldl g s0) l[i]:=by rw[db,ab hi,eR];rfl
  refine .inl ⟨_,⟨hi,rfl,by rw[e];exact c i _ hi b⟩,?_⟩;rw[d rec i _ hi b,e]
 ·obtain⟨_,rfl,b⟩:=hv;rw[f rec _ b,cG]
def bCj {l:List α}(g:σ->α->σ)(Inv:Nat->σ->Prop)(fin:σ->Option τ){s0:σ}{F:(Nat×σ->Option τ)->Nat×σ->Option τ}(hl:l.length<=18446744073709551616)(h0:Inv 0 s0)
  (c:∀i s (hi:i<l.length),Inv i s->Inv (i+1) (g s l[i])) (d:∀rec i s (hi:i<l.length),Inv i s->F rec (i,s)=rec (i+1,g s l[i])) (f:∀rec s,Inv l.length s->F rec (l.length,s)=fin s):bI FUEL F (0,s0)=fin (l.foldl g s0):=by
 refine Lm (λi s=>i<=l.length/\s=(i,(l.take i).foldl g s0)/\Inv i s.2) l.length _ hl ⟨ct _,rfl,h0⟩ (λi s rec hi hv=> ?_) (λs rec hv=> ?_)
 ·obtain⟨_,rfl,b⟩:=hv;have e:(l.take (i+1)).foldl g s0=g ((l.take i).foldl g s0) l[i]:=by rw[db,ab hi,eR];rfl
  refine .inl ⟨_,⟨hi,rfl,by rw[e];exact c i _ hi b⟩,?_⟩;rw[d rec i _ hi b,e]
 ·obtain⟨_,rfl,b⟩:=hv;rw[f rec _ b,cG]
def aOo {f:α->List β}:∀{l:List α} {s:List β},l.foldl (λs x=>s++f x) s=s++(l.map f).flatten
 |[],s=>by simp
 |x::l,s=>by simp only[cU,aOo (l:=l),bn,cM,cw]
def aOp {f:α->β}:∀{l:List α} {s:List β},l.foldl (λs x=>s++[f x]) s=s++l.map f
 |[],s=>by simp
 |x::l,s=>by simp only[cU,aOp (l:=l),bn,cw,fb]
end
end Go.VK
namespace Go.VK
def RdA (w:World)(X:Nat->Prop):List V->Prop
 |[]=>True
 |c::cs=>(∃v,Rd w X [] v c)/\RdA w X cs
section
variable {w:World} {X:Nat->Prop}
def RdA.of:∀{cs:List V},(∀(i:Nat) (c:V),cs[i]? =some c->∃v,Rd w X [] v c)->RdA w X cs
 |[],_=>trivial
 |c::cs,h=>⟨h 0 c rfl,RdA.of λi d hd=>h (i+1) d (by simpa using hd)⟩
def RdA.ofL {vs:List Value}{Us:List V}(h:RdL w X vs Us):RdA w X Us:=RdA.of λi c hc=>by
 have hi:i<vs.length:=by rw[h.1];exact(bj.1 hc).1
 exact⟨vs[i],h.2 i vs[i] c (ab hi) hc⟩
def cA3 {n:Int}(h:∃v,Rd w X [] v (.int .u8 n)):0<=n/\n<=255:=by obtain⟨v,h⟩:=h;cases h with|int h1 h2=>exact⟨h1,h2⟩
def cA4 {α:Type}{k:Nat}{enc:α->List V}{l:List α}{p:α->Prop}(h:∃v,Rd w X [] v (.slice k (l.map enc)))(hp:∀y,RdA w X (enc y)->p y):okL p l:=by
 obtain⟨v,h⟩:=h;refine⟨?_,λy b=>hp y ?_⟩
 ·obtain⟨A,c,rfl,h1,h2⟩:=h.aAZ;rw[bf] at h1;exact bm h1 h2
 ·obtain⟨i,hi,rfl⟩:=de.1 b;generalize he:l.map enc=es at h;cases h with
  |slice0 h=>simp at he;subst he;simp at hi
  |slice hn hpos hc hm hX hb hk hcell hrd=>exact RdA.of λj d hd=>⟨_,hrd i j (enc l[i]) d (by rw[<-he,bq,ab hi];rfl) hd⟩
end
def bWx {P:Program}{g:GI}{f:FuncId}{Us:List V}{R:V->Prop}{p:Prop}(he:∀args w,(callFunc f args).run P w= .ok (.enter f args) w)(h:p->Spec P g f Us R)(hp:∀w X,RdA w X Us->p):Spec P g f Us R:=
 ⟨he,λw X vs hg hX b=>(h (hp w X (RdA.ofL b))).2 w X vs hg hX b⟩
end Go.VK
namespace Go.VK
def cCs (n:Nat):GI where
 G w:=∃m,w.cell? ⟨n,0,none⟩=some (.int .i64 m)
 st _ _ h he:=by obtain⟨m,hm⟩:=h;exact⟨m,he.cell hm⟩
def aRs (sep:ByteArray):∀(k:Nat) (s l:ByteArray),l∈Lib.splitB sep 0 k s->l.size<=s.size
 |0,s,l,h=>by
  rw[Lib.splitB_zero] at h;rw[cH.1 h];exact ak _
 |k+1,s,l,h=>by
  unfold Lib.splitB at h;split at h
  ·rw[cH.1 h];exact ak _
  ·rcases bg.1 h with rfl|h
   ·exact ext_size _ _ _
   ·exact bm (aRs sep k _ l h) (ext_size _ _ _)
def bNc:∀(l:List UInt8) (c:UInt8),Lib.indexByte l c<=l.length
 |[],_=>by show(-1:Int)<=_;simp
 |b::l,c=>by
  have:=bNc l c;simp only[Lib.indexByte,aq];split
  ·omega
  ·split
   ·omega
   ·push_cast;omega
def bKr {P:Program}{g:GI}{F:FuncId}(i:∀args w,(callFunc F args).run P w= .ok (.enter F args) w)(j:∀(s:ByteArray) (c:UInt8) (w:World),Calls P F #[.string s, .string ⟨#[c]⟩] w λe w'=>e= .returned (.int .i64 (Lib.indexByte s.data.toList c))/\w'=w)
  (s sep:ByteArray) (h:sep.size=1):Spec P g F [.str s, .str sep] (λr=>r= .int .i64 (Lib.indexByte s.data.toList (sep.data.toList.getD 0 0))):=by
 refine⟨i,λw X0 vs o k b=> ?_⟩;obtain⟨v,u,rfl⟩:∃v u,vs=[v,u]:=by
  match vs,b.1 with
  |[v,u],_=>exact⟨v,u,rfl⟩
 obtain⟨rfl,f⟩:=(b.2 0 v _ rfl rfl).aAU;obtain⟨rfl,m⟩:=(b.2 1 u _ rfl rfl).aAU;have d:(⟨#[sep.data.toList.getD 0 0]⟩:ByteArray)=sep:=by
  obtain⟨⟨l⟩⟩:=sep
  match l,h with
  |[c],_=>rfl
 have hc:=j s (sep.data.toList.getD 0 0) w;rw[d] at hc;refine hc.mono ?_;rintro e w' ⟨rfl,rfl⟩;have h1:=Lib.indexByte_ge s.data.toList (sep.data.toList.getD 0 0);have h2:=bNc s.data.toList (sep.data.toList.getD 0 0);have p:s.data.toList.length=s.size:=cD;have n:s.size<=9223372036854775807:=bm f (by decide);exact⟨_,_,rfl,rfl, .int (by rw[show IntKind.i64.min= -9223372036854775808 by decide];omega) (by rw[show IntKind.i64.max=9223372036854775807 by decide];omega),Ext.refl _⟩
def bKs {P:Program}{F:FuncId}{T n:Nat}(x:∀args w,(callFunc F args).run P w= .ok (.enter F args) w)
  (y:∀(s sep:ByteArray) (m:Int) (w:World),s.size<4294967281->w.cell? ⟨n,0,none⟩=some (.int .i64 m)->1<=sep.size->Calls P F #[.string s, .string sep] w λe w'=>
   e= .returned (.slice (some ⟨w.heap.size,0,none⟩) (Lib.countB s sep+1) (Lib.countB s sep+1))/\w'=w.alloc (.cells ((Lib.splitB sep 0 (Lib.countB s sep) s).map Value.string).toArray T))
  (s sep:ByteArray) (h1:s.size<4294967281) (h2:1<=sep.size):Spec P (cCs n) F [.str s, .str sep] (λr=>r= .slice 1 ((mR s sep).map sV)):=by
 refine⟨x,λw X0 vs z p c=> ?_⟩;obtain⟨v,u,rfl⟩:∃v u,vs=[v,u]:=by
  match vs,c.1 with
  |[v,u],_=>exact⟨v,u,rfl⟩
 obtain⟨rfl,A⟩:=(c.2 0 v _ rfl rfl).aAU;obtain⟨rfl,B⟩:=(c.2 1 u _ rfl rfl).aAU;obtain⟨m,hm⟩:=z;refine(y s sep m w h1 hm h2).mono ?_;rintro e w' ⟨rfl,rfl⟩;have hl:(mR s sep).length=Lib.countB s sep+1:=Lib.splitB_all sep h2 0 _ s rfl;have hn:Lib.countB s sep+1=((mR s sep).map sV).length:=by rw[bf];exact hl.symm
 have t:Lib.countB s sep<=s.size+1:=Lib.count_le s.data.toList sep.data.toList;have hsz:∀l∈mR s sep,l.size<=s.size:=λl h=>aRs sep _ s l h;refine⟨_,_,rfl,rfl,?_,Ext.alloc w _⟩;have b:∀(i j:Nat) (e:List V) (d:V),((mR s sep).map sV)[i]? =some e->e[j]? =some d->∃l,(mR s sep)[i]? =some l/\j=0/\d= .str l:=by
  intro i j e d f k;rw[bq] at f;obtain⟨l,hl,rfl⟩:=ez.1 f;cases j with
  |zero=>exact⟨l,hl,rfl,by simpa[sV] using k.symm⟩
  |succ j=>simp[sV] at k
 refine .slice (val:=λi j=> .string ((mR s sep).getD i ⟨#[]⟩)) hn (by rw[<-hn];omega) (ak _) (by unfold maxLen;omega) (λq=>by have:=p _ q;simp at this) (by simp)
  (λe he=>by obtain⟨l,_,rfl⟩:=cq.1 he;rfl) (λi j e d f k=> ?_) (λi j e d f k=> ?_)
 ·obtain⟨l,o,rfl,rfl⟩:=b i j e d f k;rw[gX,co,Nat.mul_one,dz];have D:(Lib.splitB sep 0 (Lib.countB s sep) s)[i]? =some l:=o;rw[World.cell?_alloc_new];simp[List.getD,o,D]
 ·obtain⟨l,o,rfl,rfl⟩:=b i j e d f k;have:=hsz l (aE o);have G:(mR s sep).getD i ⟨#[]⟩=l:=by simp[List.getD,o]
  rw[G];exact .str (by unfold maxLen;omega)
end Go.VK
namespace Go
variable {H:Type} {enc:TypeId×Value->H}
def VK.aCA {a:Assume}{C:Checked}{os:Os}{f:FuncId}{b:Func}{s:ChangeSpec}{conds:List PathCond}{apart fresh handsOn again:Bool}{X:World->Array Value->Prop}
  (hX:∀(w w':World) (args:Array Value),w.heap=w'.heap->X w args->X w' args)
  (own:ownKnob C.prog.godebug=none) (started:os.Started) (noInit:C.prog.inits.idxOf? f=none) (l:C.prog.funcs[f]? =some b)
  (witness:∃(w:World) (tape:Tape) (i:Input),w.os=os/\(w.forCall tape i).Shaped C.prog/\i.vars=[]/\Input.okWide C.prog (w.forCall tape i) .any w.heap.size f i/\
   ((s.pre enc C.prog b conds apart (w.forCall tape i).memory i.args/\X (w.forCall tape i).memory i.args)/\sizedMet enc C.prog b (OpenSpec.ofChange s) apart (w.forCall tape i).memory i.args)/\a.holds C.prog (lone (Frame.enter C.prog f i.args .normal) [] (w.forCall tape i)))
  (contract:∀(W:World) (base:Nat) (args:Array Value) (ds m:List (DataW H)) (before:List MemPlace),
   (∀(j:Nat) t v,b.params[j]? =some t->args[j]? =some v->Value.okWide C.prog W .any base t v)->
   DataW.Whole enc C.prog b.params.toList s.vars apart W args.toList ds m before->
   X W args->W.ShapedOpen C.prog->
   Calls C.prog f args W λe r=>∃v,e= .returned v/\s.post enc C.prog b apart fresh handsOn again W args v r):
  ReturnsInHanded a C os f .any (λw args=>(s.pre enc C.prog b conds apart w args/\X w args)/\sizedMet enc C.prog b (OpenSpec.ofChange s) apart w args) (s.post enc C.prog b apart fresh handsOn again):=by
 refine returnsInHanded_of_calls own started noInit witness ?_;intro w tape i _ n _ o c k;obtain⟨_,_,_,p,d,_,_,_,_,h⟩:=o;have e:p=b:=ao (d.symm.trans l);subst e;obtain⟨⟨⟨ds,m,before,u,hc⟩,x⟩,y⟩:=c;have q:=DataW.Whole.of_heap (w':=w.forCall tape i) (by rfl) u;refine(contract (w.forCall tape i) w.heap.size i.args ds m before h q (hX _ _ _ (by rfl) x) n).mono λe r ⟨v,he,hp⟩=> ?_;subst he;exact ChangeSpec.post_blind hp
end Go

namespace Go.EV
open Go.RowKit Go.VK
variable {U:Uni} {Y:Lay U} {TI:List (Nat×TInfo)} {FZ:List (Nat×Sum U)} {IL:Il} {P:Program} {g:GI} {E:Env U g}
section
variable {s:St U} {a:Act} {w w0:World} {β:List Tr} {C:Cod U}
def bCk {x:Lf U}(h:bR5 x=true):∀i,cAi x=some i->1<=i:=λi hi=>by
 cases x<;>simp only[cAi,reduceCtorEq,ai] at hi<;>(subst hi;exact ba h)
def aGi:∀{xs:List (Lf U)},bBi xs=true->∀x∈xs,bR5 x=true
 |[],_,x,b=>by simp at b
 |y::ys,h,x,b=>by
  simp only[bBi,ac] at h;rcases bg.1 b with rfl|b
  ·exact h.1
  ·exact aGi h.2 x b
def aV3:∀{xs:List (Sv U)},bGo xs=true->∀x∈xs,∀c∈aSq x,bR5 c=true
 |[],_,x,b=>by simp at b
 |y::ys,h,x,b=>by
  simp only[bGo,ac] at h;rcases bg.1 b with rfl|b
  ·cases x with
   |l z=>intro c hc;simp only[aSq,cH] at hc;subst hc;exact h.1
   |a cs=>exact aGi h.1
   |t xs=>intro c hc;simp[aSq] at hc
  ·exact aV3 h.2 x b
def bWy {X:Nat->Prop}{vs:List Value}{Us:List V}(h:RdL w X vs Us):Rd w X [] (if h:vs.length=1 then vs[0] else .tuple vs.toArray) (iZ Us):=by
 obtain⟨h2,b⟩:=h
 match Us,vs,h2,b with
 |[U],[v],_,b=>exact b 0 v U rfl rfl
 |[],[],_,_=>exact .tup rfl (by simp)
 |U::U'::Us,v::v'::vs,h2,b=>rw[dif_neg (by simp)];exact .tup (by simpa using h2) (λi v c d e=>b i v c (by simpa using d) e)
def bP7 (G:Good P g Y TI FZ)(hm:P.follows .mixedOrders=true)(hI:wL P IL){f:FuncId}{Q:Func}{cd:Code}{n T:Nat}{l:List ResultVar}{ks rs:List Kd}{an:An}{z:sW U (.st T::ks)}{q:sW U (.st T::rs)}{cs ds:List (Lf U)}{D J:List (Bool×List (Lf U))}(hf:P.funcs[f]? =some Q)(hb:Q.body=some cd)(hn:Q.ntmps=n)(hl:Q.results=l.toArray)
  (hE:∀args w,(callFunc f args).run P w= .ok (.enter f args) w) (hz:bK Y (.st T::ks) z=(true,cs)::D) (hq:bK Y (.st T::rs) q=(true,ds)::J) (hlen:D.length+1<=n) (h:evP Y TI FZ IL an cd n T ks rs l z=some q):bYb P g f T (cs.map Lf.toV) (ds.map Lf.toV) (D.map qF) (iZ (J.map qF)):=by
 refine⟨hE,λw X b ws vs hG hX R hw S V=>calls_of_wp hf hb ?_⟩;have W:b<w.heap.size:=(ca.1 hw).1;let E:Env U g:=⟨λx=>X x/\x≠b,(·=b),w,[],[],λx h=> .inl (hX x h.1),λx h=>by rw[h];exact W,λx h e=>h.2 e,hG,[(.l (.box 0 0), .pointer (some ⟨b,0,none⟩))]⟩;let F:Tr:=⟨some b,0,0,[]⟩;have y:F.all=[b]:=rfl;have hXE:∀x,E.X [F] x->X x:=λx k=>by
  rcases k with h|h|⟨t,ht,h⟩
  ·exact h.1
  ·have:x=b:=h;rw[this];exact R
  ·simp at ht;subst ht;rw[y] at h;simp at h;rw[h];exact R
 have K:=Sj (Y:=Y) (.st T::ks) z;rw[hz] at K;let O:Mm U:=⟨[⟨.box T cs (cs.map λ_=>0),0,0⟩],0,[]⟩;have h0:∀{i:Nat} {t:Tr},[F][i]? =some t->i=0/\t=F:=λ{i t} h=>by
  cases i with
  |zero=>simp at h;exact⟨rfl,h.symm⟩
  |succ i=>simp at h
 have Hh:Hp Y.C E O [F] w:=by
  refine⟨Bel.refl _,rfl,λi e he=> ?_,λa i h=>by simp[O] at h,λi t x ht k=> ?_,λi j t u x hij ht hu k hxu=> ?_,λi t ht=> ?_,λi t e ht he=> ?_,λx k=> ?_,λx k=>by simp[E] at k,λf hf=>by simp[E] at hf⟩
  ·cases i with
   |zero=>simp[O] at he;subst he;exact⟨ak _,ak _⟩
   |succ i=>simp[O] at he
  ·obtain⟨_,rfl⟩:=h0 ht;rw[y] at k;simp at k;subst k;exact⟨.inr rfl,W⟩
  ·exact absurd ((h0 ht).1.trans (h0 hu).1.symm) hij
  ·obtain⟨_,rfl⟩:=h0 ht;rw[y];simp
  ·obtain⟨rfl,rfl⟩:=h0 ht;simp[O] at he;subst he;refine⟨by simp,b,ws,rfl,rfl,hw,by have:=S.1;simpa using this,λj v c p q'=> ?_⟩;have hcd:c.aBA=true:=(K (true,cs) (by simp)).1 c (aE q');exact Si hcd (S.2 j v _ p (by rw[bq,q'];rfl)) (.inl hXE)
  ·simp[E] at k;subst k;exact⟨rfl,_,F,rfl,rfl,λ_=>⟨b,rfl,rfl⟩⟩
 have hvl:vs.length=D.length:=by have:=V.1;simpa using this
 have hini:bWd Y n T ks z=⟨(Sv.l (.box 0 0)::D.map bJy)++List.replicate (n-(D.length+1)) (.l .any),O,[]⟩:=by simp only[bWd,hz,dA,aq,bf];rfl
 have r0:bJ Y.C E (bWd Y n T ks z) {tmps:=(.pointer (some ⟨b,0,none⟩)::vs).toArray++Array.replicate (n-(.pointer (some ⟨b,0,none⟩)::vs).toArray.size) undef,defers:=[]} w [F]:=by
  rw[hini];refine⟨Hh,rfl,by simp[hvl];omega,λm x k=> ?_⟩;have I:∀(v:Value),(Value.pointer (some ⟨b,0,none⟩)::vs)[m]? =some v->((Value.pointer (some ⟨b,0,none⟩)::vs).toArray++Array.replicate (n-(Value.pointer (some ⟨b,0,none⟩)::vs).toArray.size) undef).getD m undef=v:=λv hv=>by
   have L:=lt_of_some hv;rw[cz,fj (by simpa using L)];simp only[List.getElem?_toArray,hv,cJ]
  by_cases L:m<D.length+1
  ·simp only at k;rw[av (by simpa using L)] at k;cases m with
   |zero=>simp at k;subst k;rw[I (.pointer (some ⟨b,0,none⟩)) rfl];exact⟨rfl,_,F,rfl,rfl,λ_=>⟨b,rfl,rfl⟩⟩
   |succ m=>
    rw[ex,bq] at k;cases hc:D[m]? with
    |none=>rw[hc] at k;cases k
    |some c=>
     rw[hc] at k;have:=ao k;subst this;have hml:m<vs.length:=by rw[hvl];exact lt_of_some hc
     rw[I vs[m] (by rw[ex];exact ab hml)];exact yA (aJt (K c (by have:=aE hc;simp[this])) (V.2 m _ _ (ab hml) (by rw[bq,hc];rfl)) (.inl hXE))
  ·simp only at k;rw[az (by simp;omega)] at k;have:=aE k;simp at this;rw[this.2];trivial
 have done:∀s' B w' β',bWe Y TI T rs l s'=some q->bJ Y.C E s' B w' β'->B.defers=[]/\∃v,(results Q B.tmps).run P w'= .ok v w'/\(∃v' o,Ending.returned v= .returned v'/\Bel (·=b) w w'/\w'.heap[b]? =some (.cells o.toArray T (0,0))/\RdL w' X o (ds.map Lf.toV)/\Rd w' X [] v' (iZ (J.map qF))):=λs' B w' β' d r=>by
  unfold bWe at d;split at d
  ·rename_i T' cs' us' rv cv ho;rw[aY] at ho;split at d
   ·rename_i xs hres;cases hc:(Nat.beq T' T&&(bBi cs'&&bGo xs)) with
    |false=>rw[hc] at d;cases d
    |true=>
     rw[hc] at d;simp only[ae] at d;simp only[ac] at hc;obtain⟨hT,hn1,hn2⟩:=hc;have hT:=ah hT;subst hT;obtain⟨rvs,k1,k2,k3⟩:=Gu G.ti r hres;obtain⟨_,e',t',g1,g2,g3⟩:=r.hp.pin _ (cH.2 rfl);rw[ho] at g1;injection g1 with g1;subst g1;obtain⟨b',g4,M⟩:=g3 rfl;have:b'=b:=by injection M with M;injection M with M;injection M with M;exact M.symm
     subst this;obtain⟨_,b2,o,e1,e2,e3,e4⟩:=r.hp.ok 0 t' _ g2 ho;rw[g4] at e1;injection e1 with e1;subst e1;have hbt:b'∈t'.all:=Tr.root g4;have hrd:=M5 r (Z:=X) (λx k=>by
      by_cases A:x=b'
      ·exact .inr (.inl A)
      ·exact .inl ⟨k,A⟩) _ d (vs:= .agg o.toArray::rvs) (by simp[k2]) (λj v x p q'=>by
       cases j with
       |zero=>simp at p q';subst p;subst q';exact⟨o,rfl,e4⟩
       |succ j=>exact k3 j v x (by simpa using p) (by simpa using q')) (λx k c hc' i t x' hi ht hxt hX'=>by
       have h1:1<=i:=by
        rcases bg.1 k with rfl|k
        ·exact bCk (aGi hn1 c hc') i hi
        ·exact bCk (aV3 hn2 x k c hc') i hi
       by_cases A:x'=b'
       ·subst A;exact r.hp.dist 0 i t' t x' (by omega) g2 ht hbt hxt
       ·exact aUn r i t x' ht hxt ⟨hX',A⟩)
     rw[hq,bn] at hrd;obtain⟨_,_,he,N,hr2⟩:=RdL.cons_inv hrd;injection he with he1 he2;subst he1;subst he2;have N:=RdL.agg (show Rd w' X [] (.agg o.toArray) (.agg (ds.map Lf.toV)) from N);exact⟨r.defers,_,Mf hl k1,_,o,rfl,r.hp.ext,e3,N,bWy hr2⟩
   ·cases d
  ·cases d
 rw[hn];exact aVx (aGh G hm hI) 1000 E rfl rfl an cd _ _ _ _ _ q (λ_=>True) (WC.true cd) (AW.true an) h _ (λs' B w' β' _ hq r=>done s' B w' β' hq r) (λi s' B w' β' _ hq r=>by cases hq) (λs' B w' β' _ hq r=>done s' B w' β' hq r) _ _ _ r0
def cA5 (G:Good P g Y TI FZ)(hm:P.follows .mixedOrders=true)(k:wL P IL){f:FuncId}{d:Func}{i:Code}{n T:Nat}{l:List ResultVar}{ks rs:List Kd}{m:sW U (.st T::ks)->Option (sW U (.st T::rs))}{an:sW U (.st T::ks)->An}(o:P.funcs[f]? =some d)(hb:d.body=some i)(hn:d.ntmps=n)(hl:d.results=l.toArray)
  (p:∀args w,(callFunc f args).run P w= .ok (.enter f args) w) (hlen:ks.length+1<=n) (h:∀a r,m a=some r->evP Y TI FZ IL (an a) i n T ks rs l a=some r):Cq P g Y f ⟨.st T::ks, .st T::rs,true,true,m⟩:=λa r hr=>by
 have q:=h a r hr;refine⟨λb=>(by cases b),λb=>(by cases b),λ_ b=>(by cases b),λ_ _ T' t cs u ds v c j x=> ?_⟩;injection c with c y;injection c with c;subst c;subst y;have e:u.length+1<=n:=by have:=congrArg List.length j;rw[aCj] at this;simp at this;omega
 exact bP7 G hm k o hb hn hl p j x e q
end
end Go.EV
