import Derived.Test.YtmnliljalhgmiaaGreatDoorEVqtoyl
import Derived.Test.YtmnliljalhgmiaaGreatDoorVKatos
import Derived.Lib.SplitLaws
import Derived.HandedShaped
/- Printed by wip/tools: models, walks, proofs. -/
set_option linter.all false
namespace Go.EV
open Go.RowKit Go.VK
variable {U:Uni} {Y:Lay U} {TI:List (Nat×TInfo)} {FZ:List (Nat×Sum U)} {P:Program} {g:GI} {E:Env U g}
section
variable {α:Type}
theorem aD4:∀(l:List (Nat×Bool)),bJn l=l.map Prod.fst
 |[]=>rfl
 |x::l=>by rw[bm,<-aD4 l];rfl
def Oh {x:Nat×Bool}{l:List (Nat×Bool)}(h:aRw (x::l)=true):x.2=false/\aRw l=true:=by
 grind[aRw]
def bX1 (G:Good P g Y TI FZ){al:List Oper}{Q:Exit->Act->World->Prop}{D:Nat->Prop}:∀(l:List Nat) (s:St U) (K:St U->Option α) (z:α),(∀i∈l,∀o,al[i]? =some o->∀n,Wr al o n->D n)->aDn Y TI FZ al l s K=some z->
  ∀(rest:List Nat),(∀s' a w β b,Ag D s s'->K s'=some z->bI Y.C E s' a w β->chz al.toArray rest b=true->wpAny P .any al.toArray Q rest.length b a w)->∀b,chz al.toArray (l++rest) b=true->∀a w β,bI Y.C E s a w β->wpAny P .any al.toArray Q (l++rest).length b a w
 |[],s,K,z,_,h,rest,hk,b,hc,a,w,β,r=>hk s a w β b (Ag.refl s) h r hc
 |i::l,s,K,z,e,h,rest,hk,b,hc,a,w,β,r=>by
  simp only[aDn,aY] at h;cases ho:al[i]? with
  |none=>rw[ho] at h;cases h
  |some o=>
   rw[ho] at h;simp only at h;replace hc:((Region.ready .any al.toArray b==[i])&&chz al.toArray (l++rest) (b.setIfInBounds i true))=true:=hc;simp only[ac,cY] at hc;have hg:al.toArray[i]? =some o:=by simpa using ho
   refine bGy hc.1 (wpOp_step hg λy c=>bB6 G r h λs' f w' β' q1 q2 q3 _=>c _ _ ?_);have d:=q1.mono (e i (by simp) o ho);exact bX1 G l s' K z (λj k=>e j (by simp[k])) q2 rest (λs2 m p β2 q t u v x=>hk s2 m p β2 q (d.trans t) u v x) _ hc.2 f w' β' q3
def CG (FZ:List (Nat×Sum U))(al:List Oper)(a0:Option Nat)(l:List (Nat×Bool))(b:Array Bool):Prop:=frees FZ al a0 l=true\/(jF a0 b=false/\aRw l=true)
def bT1 (G:Good P g Y TI FZ){al:List Oper}{a0:Option Nat}(hs:Region.noSelect al.toArray=true){Q:Exit->Act->World->Prop}{D:Nat->Prop}:∀(l:List (Nat×Bool)) (s:St U) (K:St U->Option α) (z:α),(∀i∈l,∀o,al[i.1]? =some o->∀n,Wr al o n->D n)->aDn Y TI FZ al (bJn l) s K=some z->
  ∀(rest:List (Nat×Bool)),(∀s' a w β c,Ag D s s'->K s'=some z->bI Y.C E s' a w β->Dn .any al.toArray c->chk al.toArray a0 rest c=true->CG FZ al a0 rest c->fH P .any al.toArray a0 (NoPanic Q) (Ext w) rest.length c a w)->
   ∀c,Dn .any al.toArray c->chk al.toArray a0 (l++rest) c=true->CG FZ al a0 (l++rest) c->∀a w β,bI Y.C E s a w β->fH P .any al.toArray a0 (NoPanic Q) (Ext w) (l++rest).length c a w
 |[],s,K,z,_,h,rest,hk,c,hd,hc,hg,a,w,β,r=>hk s a w β c (Ag.refl s) h r hd hc hg
 |(i,fl)::l,s,K,z,t,h,rest,hk,c,hd,hc,e,a,w,β,r=>by
  replace h:aDn Y TI FZ al (i::bJn l) s K=some z:=h;simp only[aDn,aY] at h;cases ho:al[i]? with
  |none=>rw[ho] at h;cases h
  |some o=>
   rw[ho] at h;simp only at h;have hg:al.toArray[i]? =some o:=by simpa using ho
   cases fl with
   |true=>
    rw[cM] at hc;simp only[chk,ac] at hc;have m:Nat.beq (zY FZ o.op) 0=true/\frees FZ al a0 (l++rest)=true:=by
     rcases e with e|⟨_,e⟩
     ·have d:frees FZ al a0 ((i,true)::(l++rest))=true:=e;simp only[frees,aY,ho,ae,ac] at d;exact d
     ·exact absurd (Oh e).1 (by simp)
    obtain⟨v,s',h1,h2,h3,h4⟩:=bXt G r (ah m.1) h;have f:=hd.set (by simpa using hc.1.1.2);have u:=h4.mono (t (i,true) (by simp) o ho);refine Tq (i:=i) (oi:=o) (v:=v) hg hs hc.1.1.1 hc.1.1.2 hc.1.2 hd (λ_ _ _ h=>h) ?_ (Ext.refl w) ?_
    ·rcases h1 with⟨k1,k2⟩|⟨k1,k2⟩
     ·exact .inl ⟨k1,k2⟩
     ·exact .inr ⟨k1,k2⟩
    ·exact bT1 G hs l s' K z (λj y=>t j (by simp[y])) h3 rest (λs2 A B β2 F I J L M N O=>hk s2 A B β2 F (u.trans I) J L M N O) _ f hc.2 (.inl m.2) _ w β h2
   |false=>
    replace hc:((Region.ready .any al.toArray c==[i])&&(a0 !=some i|| !jF a0 (c.setIfInBounds i true))&&chk al.toArray a0 (l++rest) (c.setIfInBounds i true))=true:=hc;simp only[ac,cY] at hc;have f:=hd.set (i:=i) (by rw[hc.1.1];simp);have k:(Nat.ble (zY FZ o.op) 1=true/\frees FZ al a0 (l++rest)=true)\/(jF a0 (c.setIfInBounds i true)=false/\aRw (l++rest)=true):=by
     rcases e with e|⟨hn,e⟩
     ·have d:frees FZ al a0 ((i,false)::(l++rest))=true:=e;simp only[frees,aY,ho,aa] at d;cases hb:Nat.ble (zY FZ o.op) 1 with
      |true=>rw[hb] at d;exact .inl ⟨rfl,d⟩
      |false=>
       rw[hb] at d;simp only[aa,ac] at d;refine .inr ⟨?_,d.2⟩;cases a0 with
       |none=>exact absurd d.1 (by simp)
       |some b=>have R:b=i:=ah d.1;subst R;have:=hc.1.2;simpa using this
     ·exact .inr ⟨oU hn,(Oh e).2⟩
    refine mZ hc.1.1 (by simp) (λi' p=> ?_);simp at p;subst p;refine wpOp_step hg λK' S=>bB6 G r h λs' a' w' β' q1 q2 q3 q4=>S _ _ ?_;have T:=q1.mono (t (i',false) (by simp) o ho);have cont:=λhh=>bT1 G hs l s' K z (λj y=>t j (by simp[y])) q2 rest (λs2 A B β2 F I J L M N O=>hk s2 A B β2 F (T.trans I) J L M N O) _ f hc.2 hh a' w' β' q3;rcases k with⟨q,V⟩|⟨q,V⟩
    ·have Z:=q4 q;exact⟨λ_=>Z,wZ (λx W=>Ext.trans Z W) _ _ _ _ (cont (.inl V))⟩
    ·exact⟨λhn=>(by rw[q] at hn;cases hn),rY _ _ _ _ q (cont (.inr ⟨q,V⟩))⟩
def Dn0 {os:Array Oper}:Dn .any os (Array.replicate os.size false):=λj oj b hl=>by
 have c:=(cf.1 b).1;simp_all
def bHq {al:List Oper}{i:Nat}{l:List Nat}:aRx al (i::l)=match nth al i with|some o=>o::aRx al l|none=>aRx al l:=rfl
def aZ6 {al:List Oper}:∀{l:List Nat} {i:Nat} {o:Oper},i∈l->al[i]? =some o->o∈aRx al l
 |[],i,o,h,_=>by simp at h
 |x::l,i,o,h,ho=>by
  rw[bHq,aY];rcases bg.1 h with rfl|h
  ·rw[ho];simp
  ·have:=aZ6 h ho;cases al[x]? with
   |none=>exact this
   |some b=>exact cD _ this
def bQc {β:Type}(l:List β)(k:Nat):tk l k++drp l k=l:=by simp[cJ,aZc,aI0]
def aZ7 {os:Array Oper}{an:An}{l:List Nat}(h:aOh FZ os.toList os an=some l):
  (Region.noSelect os=true/\l.length=os.size/\chz os l (Array.replicate os.size false)=true)\/
  (∃a0 ord,Region.noSelect os=true/\ord.length=os.size/\chk os a0 ord (Array.replicate os.size false)=true/\frees FZ os.toList a0 ord=true/\l=ord.map Prod.fst):=by
 cases an<;>grind[aOh,bBk,os,frees,Option.some.inj,aD4,Region.noSelect,Nat.beq,len,chz,Array.replicate,dG,inl,Nat.eq_of_beq_eq_true]
def bQd (G:Good P g Y TI FZ)(hm:P.follows .mixedOrders=true){os:Array Oper}{an:An}{l l1 l2:List Nat}(h:aOh FZ os.toList os an=some l)(hl:l=l1++l2){id:Nat}{Q:Exit->Act->World->Prop}{D:Nat->Prop}{D2:Nat->Prop}{α α2:Type}{s:St U}{z:α}{m:St U->Option α}
  (hD:∀o∈os.toList,∀n,Wr os.toList o n->D n) (h1:aDn Y TI FZ os.toList l1 s m=some z)
  (hk:∀s1,Ag D s s1->m s1=some z->∃(f:St U->Option α2) (j:α2),(∀i∈l2,∀o,os.toList[i]? =some o->∀n,Wr os.toList o n->D2 n)/\aDn Y TI FZ os.toList l2 s1 f=some j/\∀d e β1,bI Y.C E s1 d e β1->∀s' a w β,Ag D2 s1 s'->f s'=some j->bI Y.C E s' a w β->Q .normal a w)
  {a:Act} {w:World} {β:List Tr} (r:bI Y.C E s a w β):(Code.region id os true).wp P Q a w:=by
 have p:os.toList.toArray=os:=by simp
 have c:∀(i:Nat) (o:Oper),os.toList[i]? =some o->∀n,Wr os.toList o n->D n:=(by grind[List.mem_of_getElem?]);have O:bI Y.C E s a w.drew β:=r.ext (Ext.drew w);rcases aZ7 h with⟨hs,hlen,hc⟩|⟨a0,ord,hs,hlen,hc,q,t⟩
 ·refine wp_region_noPanic (wp_region_any hm ?_);have:=bX1 G (E:=E) (al:=os.toList) (Q:=NoPanic Q) (D:=D) l1 s m z (λi _=>c i) h1 l2 (λs1 d e β1 b u v k x=>by
   obtain⟨f,j,y,A,B⟩:=hk s1 u v;have:=bX1 G (E:=E) (al:=os.toList) (Q:=NoPanic Q) (D:=D2) l2 s1 f j y A [] (λs' F w' β' V I J K R=>⟨by simpa[chz] using R,B d e β1 k s' F w' β' I J K⟩) b (by simpa using x) d e β1 k;simp_all) (Array.replicate os.size false) (by simp_all) a w.drew β O
  simp_all
 ·refine wp_region_noPanic (wp_region_any hm (rJ (a0:=a0) (S:=Ext w.drew) _ _ _ _ ?_));have L:ord.map Prod.fst=l1++l2:=by rw[<-t,hl]
  obtain⟨W,T,ho,M,N⟩:=List.map_eq_append_iff.1 L;subst M;subst N;have:=bT1 G (E:=E) (al:=os.toList) (a0:=a0) (by assumption) (Q:=Q) (D:=D) W s m z (λi _=>c i.1) (by grind[aD4]) T (λs1 d e β1 b u v k x Z g6=>by
   obtain⟨f,j,y,A,B⟩:=hk s1 u v;have:=bT1 G (E:=E) (al:=os.toList) (a0:=a0) (by rw[p];exact hs) (Q:=Q) (D:=D2) T s1 f j (λi hi=>y i.1 (cn.2 ⟨i,hi,rfl⟩)) (by rw[aD4];exact A) [] (λs' F w' β' V I J K R p5 p6=>xA (P:=P) (a0:=a0) (S:=Ext w') (Q:=NoPanic Q) (by simpa[chk] using p5) (B d e β1 k s' F w' β' I J K) 0) b x (by simpa using Z) (by simpa using g6) d e β1 k;simp_all) (Array.replicate os.size false) (by simp[Dn0]) (by simp_all) (.inl (by rw[<-ho];exact q)) a w.drew β O
  simp_all
def bQe {a0:Option Nat}{n:Nat}:jF a0 (Array.replicate n false)=true:=by
 cases a0 with
 |none=>rfl
 |some b=>simp only[jF,bu];rw[cw,kf];split<;>rfl
def bX2 (B:E.fr=[])(l:E.prm=[])(G:Good P g Y TI FZ)(hm:P.follows .mixedOrders=true){os:Array Oper}{id:Nat}{kb:Bool}{f a0:Option Nat}{ord:List (Nat×Bool)}{Q:Exit->Act->World->Prop}{D:Nat->Prop}{s:St U}{z:α}{N:St U->Option α}
  (F:∀o∈os.toList,∀n,Wr os.toList o n->D n) (hc:bBr os f a0 ord=true) (h:aDo Y TI FZ os.toList a0 (bif kb then some (len s.m.o,s.m.k) else none) ord f true true (wpe os.toList f s) N=some z)
  (I:∀s' a w β,Ag D s s'->N s'=some z->bI Y.C E s' a w β->Q .normal a w) {a:Act} {w:World} {β:List Tr} (r:bI Y.C E s a w β):(Code.region id os true).wp P Q a w:=by
 have J:os.toList.toArray=os:=by simp
 have c:∀i∈ord,∀o,os.toList[i.1]? =some o->∀n,Wr os.toList o n->D n:=(by grind[List.mem_of_getElem?]);have p:bI Y.C E s a w.drew β:=r.ext (Ext.drew w);simp only[bBr,ac,dG] at hc;obtain⟨hs,hlen,b⟩:=hc;have hlen:=ah hlen;have q:(wpe os.toList f s).m=s.m:=by
  unfold wpe;cases f with
  |none=>rfl
  |some j=>
   simp only;cases nth os.toList j with
   |none=>rfl
   |some o=>simp only;cases o.dst<;>rfl
 have x:bI Y.C E (wpe os.toList f s) a w.drew β:=by
  unfold wpe;cases f with
  |none=>exact p
  |some j=>
   simp only;cases nth os.toList j with
   |none=>exact p
   |some o=>exact p.aDQ
 have t:Ag D s (wpe os.toList f s):=by
  unfold wpe;cases f with
  |none=>exact Ag.refl s
  |some j=>
   simp only[aY];cases ho:os.toList[j]? with
   |none=>simp_all
   |some o=>exact(Ag.refl s).put (λn e=>F o (aE ho) n (.inl e))
 have main:∀(E':Env U g) (kd:Option (Nat×Nat)),E'.prm=[]->Lk E' kd true true w.drew w.drew->bI Y.C E' (wpe os.toList f s) a w.drew β->(∀s' a w β,bI Y.C E' s' a w β->bI Y.C E s' a w β)->aDo Y TI FZ os.toList a0 kd ord f true true (wpe os.toList f s) N=some z->(Code.region id os true).wp P Q a w:=λE' kd u hl r' d h=>by
  refine wp_region_noPanic (wp_region_any hm (rJ (a0:=a0) (S:=Ext w.drew) _ _ _ _ ?_));have y:∀s' a w β,Ag D (wpe os.toList f s) s'->N s'=some z->bI Y.C E' s' a w β->Q .normal a w:=λs' a w β K L M=>I s' a w β (t.trans K) L (d s' a w β M);cases f with
  |none=>have:=bEi (E:=E') G (al:=os.toList) (a0:=a0) (kd:=kd) (Q:=Q) (D:=D) (by assumption) ord true true _ N z c h y (Array.replicate os.size false) (by simp[Dn0]) (by assumption) bQe a w.drew β w.drew hl r';simp_all
  |some j=>
   simp only[ac,bne_iff_ne,ne_eq] at b;obtain⟨v,b⟩:=b;split at b
   ·rename_i oj O;have:=bP7 (E:=E') G (al:=os.toList) (a0:=a0) (kd:=kd) (Q:=Q) (D:=D) (by assumption) u (j:=j) (oj:=oj) (by simp[*]) v ord true true _ N z c h y (Array.replicate os.size false) (by simp[Dn0]) (by assumption) bQe a w.drew β w.drew hl r';simp_all
   ·cases b
 cases kb with
 |false=>exact main E none l ⟨(by simp),λ_=>rfl,λ_=>rfl,λ_=>Ext.refl _⟩ x (λ_ _ _ _ h=>h) h
 |true=>have A:=x.frame l;rw[q] at A;exact main (E.frm [(w.drew,s.m.o.length,s.m.k)]) (some (s.m.o.length,s.m.k)) l ⟨λn k h=>(by cases h;exact cG),λ_=>rfl,λh=>(by cases h),λ_=>Ext.refl _⟩ A (λ_ _ _ _ h=>h.aCN B) (by grind[dG])
theorem bJ7 {al:List Oper}{s:St U}:∀{fs:List Nat},(wpl al s fs).m=s.m
 |[]=>rfl
 |j::fs=>by
  have e:wpl al s (j::fs)=(match nth al j with|some o=>EV.put (wpl al s fs) o.dst (.l .any)|none=>wpl al s fs):=rfl;rw[e];cases nth al j with
  |none=>exact bJ7
  |some o=>rw[bP8];exact bJ7
def bCc {al:List Oper}{s:St U}{a:Act}{w:World}{β:List Tr}(r:bI Y.C E s a w β):∀{fs:List Nat},bI Y.C E (wpl al s fs) a w β
 |[]=>r
 |j::fs=>by
  have e:wpl al s (j::fs)=(match nth al j with|some o=>EV.put (wpl al s fs) o.dst (.l .any)|none=>wpl al s fs):=rfl;rw[e];cases nth al j with
  |none=>exact bCc r
  |some o=>exact(bCc r).aDQ
def bHr {al:List Oper}{s:St U}{D:Nat->Prop}(b:∀o∈al,∀n,Wr al o n->D n):∀{fs:List Nat},Ag D s (wpl al s fs)
 |[]=>Ag.refl s
 |j::fs=>by
  have e:wpl al s (j::fs)=(match nth al j with|some o=>EV.put (wpl al s fs) o.dst (.l .any)|none=>wpl al s fs):=rfl;rw[e,aY];cases ho:al[j]? with
  |none=>exact bHr b
  |some o=>exact(bHr b).put (λn e=>b o (aE ho) n (.inl e))
def bX3 (p:E.fr=[])(q:E.prm=[])(G:Good P g Y TI FZ)(hm:P.follows .mixedOrders=true){os:Array Oper}{a0:Option Nat}{id f:Nat}{bs fs:List Nat}{ord:List (Nat×Bool)}{Q:Exit->Act->World->Prop}{D:Nat->Prop}{s:St U}{z:α}{N:St U->Option α}
  (u:∀o∈os.toList,∀n,Wr os.toList o n->D n) (hs:Region.noSelect os=true) (hc:aOi os a0 f fs [] ord (Array.replicate os.size false)=true) (v:bxs bs s.m.o=true) (h:Ip Y TI FZ os.toList a0 bs (some (len s.m.o,s.m.k)) ord fs true false (wpl os.toList s fs) N=some z)
  (x:∀s' a w β,Ag D s s'->N s'=some z->bI Y.C E s' a w β->Q .normal a w) {a:Act} {w:World} {β:List Tr} (r:bI Y.C E s a w β):(Code.region id os true).wp P Q a w:=by
 have d:os.toList.toArray=os:=by simp
 have c:bI Y.C E (wpl os.toList s fs) a w.drew β:=(bCc r).ext (Ext.drew w);have i:Ag D s (wpl os.toList s fs):=bHr u;let Yb:Nat->Prop:=λk=>∃b∈bs,∃t,β[b]? =some t/\t.b=some k;obtain⟨ps,y,A⟩:=bEk c.hp bs (by grind[bJ7]);have B:bI Y.C ((E.pinned ps).frm [(w.drew,s.m.o.length,s.m.k)]) (wpl os.toList s fs) a w.drew β:=by
  have:=(c.pins y).frame (by assumption)
  grind[bJ7]
 have F:bI Y.C (((E.pinned ps).frm [(w.drew,s.m.o.length,s.m.k)]).ahs (bks []) (by simp[bks])) (wpl os.toList s fs) a w.drew β:=B.aDX;refine wp_region_noPanic (wp_region_any hm (rJ (a0:=a0) (S:=Bel Yb w.drew) _ _ _ _ ?_));rw[dG] at h;have:=bHp (a0:=a0) (E:=(E.pinned ps).frm [(w.drew,s.m.o.length,s.m.k)]) G (al:=os.toList) (Q:=Q) (D:=D) (by assumption) q (bs:=bs) (Yb:=Yb) (wS:=w.drew) (λb hb=>by
  obtain⟨t,k,q1,q2,q3⟩:=A b hb;exact⟨k,⟨b,hb,t,q1,q2⟩,bv.2 (.inl q3)⟩) (kd:=some (s.m.o.length,s.m.k)) (λn k h=>by cases h;exact cG) f fs [] ord fs true false (wpl os.toList s fs) N z (by grind[List.mem_of_getElem?]) h (λs' a w β I J K=>x s' a w β (i.trans I) J (K.aCN p).aDO) (λ_ h=>h) (by simp) (by simp) (by simp) (Array.replicate os.size false) (by simp[Dn0]) (by assumption) a w.drew β (by simp[bks]) (λh=>by cases h) (λ_=>Bel.refl _) (λ_=>⟨rfl,λk ⟨b,hb,t,ht,hk⟩=>bXm ht (Tr.root hk),λb e t k h1 h2 j l=>⟨λhb=>⟨b,hb,t,j,l⟩,λhb=>⟨λ⟨b',k1,t',k2,k3⟩=>c.hp.dist b b' t t' k (λe=>hb (e▸k1)) j k2 (Tr.root l) (Tr.root k3),(c.hp.new b t k j (Tr.root l)).2⟩⟩,rfl⟩) (by simp) F
 rw[d,show cntF (Array.replicate os.size false)=os.size by simp[cntF]] at this;exact this
def aJa (L:E.fr=[])(V:E.prm=[])(G:Good P g Y TI FZ)(hm:P.follows .mixedOrders=true)(id:Nat)(os:Array Oper)(d:Bool)(an:An){α:Type}(s:St U)(N:St U->Option α)(X:Nat->St U->Option α)(R:St U->Option α)(z:α)(D:Nat->Prop)(A:∀o∈os.toList,∀n,Wr os.toList o n->D n)(W:AW D an)(h:rgn Y TI FZ os.toList os d an s N=some z):Snd P Y E D (.region id os d) s z N X R:=by
 intro Q B hX hR a w β r;have F:os.toList.toArray=os:=by simp
 have plain:∀an,(bif d then(match aOh FZ os.toList os an with|some l=>aDn Y TI FZ os.toList l s N|none=>none) else ops Y TI FZ os.toList os.toList s N)=some z->(Code.region id os d).wp P Q a w:=λan h=>by
  cases d with
  |false=>refine wp_region_list ?_;have:=Zi G (E:=E) (al:=os.toList) (Q:=Q) (D:=D) os.toList s N z A h [] (λs' a w β e c M=>wpList_nil (B s' a w β e c M)) a w β r;rw[df,F] at this;exact this
  |true=>
   simp only[ae] at h;cases ho:aOh FZ os.toList os an with
   |none=>rw[ho] at h;cases h
   |some l=>rw[ho] at h;exact bQd G hm (l1:=l) (l2:=[]) (α2:=α) (D2:=D) ho (by simp) A h (λs1 e c=>⟨N,z,λi hi=>by simp at hi,c,λO S β1 _ s' I w' β' J p K=>B s' I w' β' (e.trans J) p K⟩) r
 cases an with
 |rj k tm I=>
  cases d with
  |false=>
   replace h:ops Y TI FZ os.toList (tk os.toList k) s (λs1=>bif wrG tm.ws os.toList (drp os.toList k) then bd (ops Y TI FZ os.toList (drp os.toList k) s1 λs'=>col Y s1 tm s') λd=>N (reb Y s1 tm d) else none)=some z:=h;refine wp_region_list ?_;have:=Zi G (E:=E) (al:=os.toList) (Q:=Q) (D:=D) (tk os.toList k) s _ z (λo ho=>A o (by rw[aZc] at ho;exact gm ho)) h (drp os.toList k) (λs1 O S β1 e c M=>by
    cases hb:wrG tm.ws os.toList (drp os.toList k) with
    |false=>rw[hb] at c;cases c
    |true=>
     rw[hb] at c;simp only[ae] at c;obtain⟨d,k1,k2⟩:=kX c;have:=Zi G (E:=E) (al:=os.toList) (Q:=Q) (D:=λn=>Nk tm.ws 0 n=true) (drp os.toList k) s1 _ d (aDz hb) k1 [] (λs' I w' β' J p K=>wpList_nil (by
      obtain⟨β'',q⟩:=Ak L M K J p;obtain⟨_,_,_,hs,_⟩:=Oe p;exact B _ _ _ _ (e.trans ((aI8 hs).mono W)) k2 q)) O S β1 M
     rw[df] at this;exact this) a w β r
   rw[bQc,F] at this;exact this
  |true=>
   replace h:(match aOh FZ os.toList os I with|some l=>aDn Y TI FZ os.toList (tk l k) s (λs1=>bif wrG tm.ws os.toList (aRx os.toList (drp l k)) then bd (aDn Y TI FZ os.toList (drp l k) s1 λs'=>col Y s1 tm s') λd=>N (reb Y s1 tm d) else none)|none=>none)=some z:=h;cases ho:aOh FZ os.toList os I with
   |none=>rw[ho] at h;cases h
   |some l=>
    rw[ho] at h;refine bQd G hm (l1:=tk l k) (l2:=drp l k) (α2:=Dat U tm.it) (D2:=λn=>Nk tm.ws 0 n=true) ho (bQc l k).symm A h (λs1 e c=> ?_) r;cases hb:wrG tm.ws os.toList (aRx os.toList (drp l k)) with
    |false=>rw[hb] at c;cases c
    |true=>rw[hb] at c;simp only[ae] at c;obtain⟨d,k1,k2⟩:=kX c;refine⟨_,d,λi hi o T=>aDz hb o (aZ6 hi T),k1,λO S β1 Z s' a2 w2 β2 J p K=> ?_⟩;obtain⟨β'',q⟩:=Ak L Z K J p;obtain⟨_,_,_,hs,_⟩:=Oe p;exact B _ _ _ _ (e.trans ((aI8 hs).mono W)) k2 q
 |y kb f a0 ord=>
  cases d with
  |false=>cases h
  |true=>
   replace h:(bif true&&bBr os f a0 ord then aDo Y TI FZ os.toList a0 (bif kb then some (len s.m.o,s.m.k) else none) ord f true true (wpe os.toList f s) N else none)=some z:=h;cases hc:bBr os f a0 ord with
   |false=>rw[hc] at h;cases h
   |true=>rw[hc] at h;exact bX2 L V G hm A hc h B r
 |w bs ord=>replace h:none=some z:=h;cases h
 |v bs ord=>replace h:none=some z:=h;cases h
 |u a0 bs fs ord=>
  cases d with
  |false=>cases h
  |true=>
   replace h:(bif true&&(Region.noSelect os&&(aOi os a0 (Nat.succ (Nat.add (len ord) (len ord))) fs [] ord (Array.replicate os.size false)&&bxs bs s.m.o)) then Ip Y TI FZ os.toList a0 bs (some (len s.m.o,s.m.k)) ord fs true false (wpl os.toList s fs) N else none)=some z:=h;cases hc:(Region.noSelect os&&(aOi os a0 (Nat.succ (Nat.add (len ord) (len ord))) fs [] ord (Array.replicate os.size false)&&bxs bs s.m.o)) with
   |false=>rw[hc] at h;cases h
   |true=>rw[hc] at h;simp only[ac] at hc;exact bX3 L V G hm A hc.1 hc.2.1 hc.2.2 h B r
 |n=>exact plain .n h
 |s x y=>exact plain (.s x y) h
 |j t x=>exact plain (.j t x) h
 |jx t x=>exact plain (.jx t x) h
 |l t f x=>exact plain (.l t f x) h
 |r a0 o=>exact plain (.r a0 o) h
 |z o=>exact plain (.z o) h
 |il i a b=>exact plain (.il i a b) h
 |pl a=>exact plain (.pl a) h
end
end Go.EV
namespace Go.EV
open Go.RowKit Go.VK
variable {U:Uni} {Y:Lay U} {TI:List (Nat×TInfo)} {FZ:List (Nat×Sum U)} {P:Program} {g:GI} {E:Env U g}
section
variable {s:St U} {a:Act} {w w0:World} {β:List Tr}
def bMr (d:tK P TI=true)(r:bI Y.C E s a w β){x:ResultVar}{y:Sv U}(h:bTi TI s x=some y):∃v,(aDf P w a.tmps x).run P w= .ok v w/\y.mean Y.C w (E.X β) β s.m v:=by
 cases x with
 |tmp n=>exact⟨_,by simp[aDf],r.tm n y (by rw[<-aY];exact h)⟩
 |cell c t=>
  simp only[bTi] at h;split at h
  ·rename_i b i h1 h2;have hl:load Y s i (.box b 0)=some y:=h;have e:(Lf.box b 0:Lf U).mean Y.C w (E.X β) β s.m (a.tmps.getD c undef):=r.tm c (.l (.box b 0)) (by grind[aY]);obtain⟨p,v',k1,k2,k3⟩:=aZf r (bU d h2) e hl;simp[aDf,k1,asAddr,Sem.run_bind,Sem.run_pure,Result.andThen_ok,k2,Ext.refl,k3]
  ·cases h
def Bd (b:tK P TI=true)(r:bI Y.C E s a w β):∀{l:List ResultVar} {xs:List (Sv U)},O6 TI s l=some xs->∃vs:List Value,(l.mapM (aDf P w a.tmps)).run P w= .ok vs w/\vs.length=xs.length/\∀(i:Nat) (v:Value) (x:Sv U),vs[i]? =some v->xs[i]? =some x->x.mean Y.C w (E.X β) β s.m v
 |[],xs,h=>by
  have:=ak h;subst this;exact⟨[],rfl,rfl,by simp⟩
 |x::l,xs,h=>by
  simp only[O6] at h;cases h1:bTi TI s x with
  |none=>rw[h1] at h;cases h
  |some y=>
   cases h2:O6 TI s l with
   |none=>rw[h1,h2] at h;cases h
   |some ys=>
    rw[h1,h2] at h;have:=ak h;subst this;obtain⟨v,k1,k2⟩:=bMr b r h1;obtain⟨vs,k3,k4,k5⟩:=Bd b r h2;refine⟨v::vs,by simp[jw,k1,k3],by simp[k4],λi v' W q1 q2=> ?_⟩;cases i with
    |zero=>simp at q1 q2;subst q1;subst q2;exact k2
    |succ i=>exact k5 i v' W (by simpa using q1) (by simpa using q2)
def Et {b:Func}{l:List ResultVar}(c:b.results=l.toArray){vs:List Value}(h:(l.mapM (aDf P w a.tmps)).run P w= .ok vs w):(results b a.tmps).run P w= .ok (if h:vs.toArray.size=1 then vs.toArray[0] else .tuple vs.toArray) w:=by
 have d:results b a.tmps=(do
   let vs<-b.results.mapM (aDf P w a.tmps)
   pure (if h:vs.size=1 then vs[0] else .tuple vs)):=rfl
 simp[*]
end
section
def uT (P:Program)(IL:Il):Prop:=∀(f:Nat) (c:Code) (n:Nat) (rv:List ResultVar),kP IL f=some (c,n,rv)->∃b,P.funcs[f]? =some b/\b.body=some c/\b.ntmps=n/\b.results=rv.toArray/\∀args w,(callFunc f args).run P w= .ok (.enter f args) w
def bX4:uT P []:=λ_ _ _ _ h=>by cases h
def Oi {IL:Il}{f:Nat}{c:Code}{n:Nat}{rv:List ResultVar}{d:Func}(k:P.funcs[f]? =some d)(hb:d.body=some c)(hn:d.ntmps=n)(hl:d.results=rv.toArray)(l:∀args w,(callFunc f args).run P w= .ok (.enter f args) w)(h:uT P IL):uT P ((f,c,n,rv)::IL):=λf' i j b e=>by
 have e:cond (Nat.beq f f') (some (c,n,rv)) (kP IL f')=some (i,j,b):=e;cases hb':Nat.beq f f' with
 |true=>simp_all
 |false=>rw[hb'] at e;exact h f' i j b e
def cBw (s:St U)(a:Act):List (Sv U×Value):=s.t.zipIdx.map λp=>(p.1,a.tmps.getD p.2 undef)
def aZ8 {C:Cod U}{w:World}{X:Nat->Prop}{β:List Tr}{m:Mm U}:∀{ys:List (Sv U)} {l:List (Bool×List (Lf U))} {vs:List Value},bG9 ys=some l->vs.length=ys.length->(∀(i:Nat) (v:Value) (x:Sv U),vs[i]? =some v->ys[i]? =some x->x.mean C w X β m v)->vs.length=l.length/\∀(i:Nat) (v:Value) (x:Bool×List (Lf U)),vs[i]? =some v->l[i]? =some x->Mp C w X β m v x
 |[],l,vs,h,hl,_=>by
  have:=ak h;subst this;exact⟨hl,λi v x _ h=>by simp at h⟩
 |y::ys,l,[],h,hl,_=>by simp at hl
 |y::ys,l,v::vs,h,hl,hm=>by
  simp only[bG9] at h;cases h1:sv2 y with
  |none=>rw[h1] at h;cases h
  |some p=>
   cases h2:bG9 ys with
   |none=>rw[h1,h2] at h;cases h
   |some ps=>
    rw[h1,h2] at h;have:=ak h;subst this;obtain⟨k1,k2⟩:=aZ8 h2 (by simpa using hl) (λi v x p q=>hm (i+1) v x (by simpa using p) (by simpa using q));refine⟨by simp[k1],λi u x b q=> ?_⟩;cases i with
    |zero=>
     simp at b q;subst b;subst q;have h0:=hm 0 v y rfl rfl;cases y with
     |l x=>have:=ak h1;subst this;exact⟨x,rfl,h0⟩
     |a cs=>have:=ak h1;subst this;exact h0
     |t xs=>cases h1
    |succ i=>exact k2 i u x (by simpa using b) (by simpa using q)
def bMs {C:Cod U}{w:World}{X:Nat->Prop}{β:List Tr}{m:Mm U}{ys:List (Sv U)}{y:Sv U}{vs:List Value}(h:bXl ys=some y)(hl:vs.length=ys.length)(hm:∀(i:Nat) (v:Value) (x:Sv U),vs[i]? =some v->ys[i]? =some x->x.mean C w X β m v):y.mean C w X β m (if h:vs.toArray.size=1 then vs.toArray[0] else .tuple vs.toArray):=by
 match ys,vs,h,hl,hm with
 |[x],[v],h,_,hm=>have:=ak h;subst this;exact hm 0 v x rfl rfl
 |[],[],h,_,_=>have:=ak h;subst this;exact⟨[],rfl,rfl,λi v x h=>by simp at h⟩
 |x::b::xs,v::v'::vs,h,hl,hm=>
  replace h:(match bG9 (x::b::xs) with|some l=>some (Sv.t l)|none=>none)=some y:=h;cases h1:bG9 (x::b::xs) with
  |none=>simp_all
  |some l=>rw[h1] at h;have:=ak h;subst this;rw[dif_neg (by simp)];obtain⟨k1,k2⟩:=aZ8 h1 hl hm;exact⟨_,rfl,k1,k2⟩
variable {IL:Il} {α:Type} {EV:An->Code->St U->(St U->Option α)->Option α}
def aJb (P:Program)(Y:Lay U)(g:GI)(EV:An->Code->St U->(St U->Option α)->Option α):Prop:=∀(E:Env U g),E.fr=[]->E.prm=[]->∀(an:An) (c:Code) (s:St U) (K:St U->Option α) (z:α),EV an c s K=some z->Snd P Y E (λ_=>True) c s z K (λ_ _=>none) K
def bQf (G:Good P g Y TI FZ)(I:uT P IL)(k:aJb P Y g EV)(J:E.fr=[])(L:E.prm=[]){s:St U}{a:Act}{w:World}{β:List Tr}(r:bI Y.C E s a w β){al:List Oper}{o:Oper}{an:An}{K:St U->Option α}{z:α}(h:inl TI IL EV an o s K=some z){B:Act->World->Prop}{Q:Exit->Act->World->Prop}
  (hk:∀s' j w' β',Ag (Wr al o) s s'->K s'=some z->bI Y.C E s' j w' β'->B j w'):o.wp P a w B Q:=by
 unfold inl at h;split at h
 ·rename_i f b ats ho;cases D:kP IL f with
  |none=>simp_all
  |some p=>
   obtain⟨c,n,rv⟩:=p;rw[D] at h;simp only at h;cases hb:Nat.ble (len b.toList) n with
   |false=>simp_all
   |true=>
    rw[hb] at h;simp only[ae] at h;have hlen:b.toList.length<=n:=by have:=bf hb;rwa [dG] at this
    obtain⟨q,M,N,T,f4,O⟩:=I f c n rv D;let E':Env U g:=E.pinned (cBw s a);have hX:∀β,E'.X β=E.X β:=λ_=>rfl;have R:Hp Y.C E' s.m β w:=⟨r.hp.ext,r.hp.len,r.hp.vers,r.hp.cnt,r.hp.new,r.hp.dist,r.hp.nd,r.hp.ok,λx d=>by
     rcases bv.1 d with d|d
     ·obtain⟨⟨y,m⟩,F,rfl⟩:=cn.1 d;exact r.tm m y (by grind)
     ·exact r.hp.pin x d,r.hp.prm,r.hp.fr⟩
    have r':bI Y.C E' ⟨b.toList.map (fZ s)++List.replicate (n-len b.toList) (.l .any),s.m,s.fr⟩ {tmps:=(b.toList.map a.eval).toArray++Array.replicate (q.ntmps-(b.toList.map a.eval).toArray.size) undef,defers:=[]} w β:=by
     refine⟨R,rfl,?_,λm x d=> ?_⟩
     ·grind[dG,List.length_append,List.length_map,List.length_replicate,Array.size_append,List.size_toArray,Array.size_replicate]
     ·by_cases hm:m<b.toList.length
      ·rw[aw (by rw[bj];exact hm)] at d;have h1:(b.toList.map a.eval)[m]? =some ((b.toList.map a.eval)[m]'(by simp_all)):=ab _;obtain⟨y,S,V⟩:=Ji (s:=s) (a:=a) m _ x h1 d;have hv:((b.toList.map a.eval).toArray++Array.replicate (q.ntmps-(b.toList.map a.eval).toArray.size) undef).getD m undef=a.eval y:=by rw[<-S,cw,fq (by simpa using hm)];simp[h1]
       grind[Az,Array.replicate,undef]
      ·rw[az (by simp_all)] at d;have:=aE d;simp at this;rw[this.2];trivial
    let R':Value->World->Prop:=λv w'=>∃(y:Sv U) (s':St U) (β':List Tr),K (put ⟨s.t,s'.m,s.fr⟩ o.dst y)=some z/\bI Y.C E ⟨s.t,s'.m,s.fr⟩ a w' β'/\y.mean Y.C w' (E.X β') β' s'.m v/\Am s.m s'.m;have done:∀s' j w' β',Ag (λ_=>True) ⟨b.toList.map (fZ s)++List.replicate (n-len b.toList) (.l .any),s.m,s.fr⟩ s'->(match O6 TI s' rv with
      |some ys=>match bXl ys with
       |some y=>K (put ⟨s.t,s'.m,s.fr⟩ o.dst y)
       |none=>none
      |none=>none)=some z->bI Y.C E' s' j w' β'->j.defers=[]/\∃v,(results q j.tmps).run P w'= .ok v w'/\∃v',Ending.returned v= .returned v'/\R' v' w':=λs' j w' β' u hq i=>by
     split at hq
     ·rename_i ys A;split at hq
      ·rename_i y F;obtain⟨vs,k1,k2,k3⟩:=Bd G.ti i A;refine⟨i.defers,_,Et f4 k1,_,rfl,y,s',β',hq,?_,bMs F k2 k3,u.m⟩;have hp:Hp Y.C E s'.m β' w':=⟨i.hp.ext,i.hp.len,i.hp.vers,i.hp.cnt,i.hp.new,i.hp.dist,i.hp.nd,i.hp.ok,λx d=>i.hp.pin x (bv.2 (.inr d)),i.hp.prm,i.hp.fr⟩;exact⟨hp,r.defers,r.tsz,λm x d=>i.hp.pin (x,a.tmps.getD m undef) (bv.2 (.inl (cn.2 ⟨(x,m),List.mem_zipIdx_iff_getElem?.2 d,rfl⟩)))⟩
      ·cases hq
     ·cases hq
    have hc:Calls P f (b.toList.map a.eval).toArray w λe w'=>∃v,e= .returned v/\R' v w':=by refine calls_of_wp M N ?_;exact k E' J L an c _ _ z h _ (by assumption) (by simp) (by assumption) _ _ _ r'
    refine wpc (Bb ho O) hc ?_;rintro v w' ⟨y,s',β',k1,k2,k3,k4⟩;exact hk (put ⟨s.t,s'.m,s.fr⟩ o.dst y) _ w' β' (Ag.put (s:=s) (s':=⟨s.t,s'.m,s.fr⟩) ⟨λ_ _=>rfl,rfl,rfl,k4⟩ (λn e=> .inl e)) k1 (k2.put λ_=>k3)
 ·cases h
def aSi (G:Good P g Y TI FZ)(t:uT P IL)(j:aJb P Y g EV)(u:E.fr=[])(y:E.prm=[]){s:St U}{a:Act}{w:World}{β:List Tr}(r:bI Y.C E s a w β){al:List Oper}{i:Nat}{o:Oper}(ho:al[i]? =some o){l:List Nat}{an:An}{K:St U->Option α}{z:α}(h:ilr Y TI FZ IL EV al (i::l) an s K=some z):
  ∃c,ilo c=ilo an/\∀(d:Act->World->Prop) (Q:Exit->Act->World->Prop),(∀s' f w' β',Ag (Wr al o) s s'->ilr Y TI FZ IL EV al l c s' K=some z->bI Y.C E s' f w' β'->(Nat.ble (zY FZ o.op) 1=true->Ext w w')->d f w')->if Region.wanted o (yielded al.toArray a.tmps)=true then o.wp P a w d Q else d (a.put o.dst undef) w:=by
 have plain:∀c,ilo c=ilo an->grd Y TI FZ al o s (λs'=>ilr Y TI FZ IL EV al l c s' K)=some z->∃c,ilo c=ilo an/\∀(d:Act->World->Prop) (Q:Exit->Act->World->Prop),(∀s' f w' β',Ag (Wr al o) s s'->ilr Y TI FZ IL EV al l c s' K=some z->bI Y.C E s' f w' β'->(Nat.ble (zY FZ o.op) 1=true->Ext w w')->d f w')->if Region.wanted o (yielded al.toArray a.tmps)=true then o.wp P a w d Q else d (a.put o.dst undef) w:=
  λc he h=>⟨c,he,λd Q hk=>bB6 G r h hk⟩
 unfold ilr at h;rw[aY,ho] at h;cases an with
 |il k b q=>
  simp only at h;cases hb:Nat.beq k i with
  |false=>grind
  |true=>
   rw[hb] at h;simp only[ae] at h;cases hc:Nat.beq (zY FZ o.op) 2 with
   |false=>simp_all
   |true=>
    rw[hc] at h;simp only[ae] at h;have hc:=ah hc;refine⟨q,rfl,λd Q hk=> ?_⟩;obtain⟨s1,p,h1,h2⟩:=Od r h;rcases h2 with⟨m,h2⟩|⟨m,h2⟩
    ·rw[cI m];exact bQf G t j u y p (al:=al) h2 (λs' f w' β' q1 q2 q3=>hk s' f w' β' (h1.trans q1) q2 q3 (by simp[*]))
    ·rw[dg (by rw[m];simp)];exact hk _ _ w β (h1.put (λn e=> .inl e)) h2 (p.put (x:= .l .und) (v:=undef) (λ_=>rfl)) (λ_=>Ext.refl w)
 |_=>exact plain _ rfl h
def bZy (G:Good P g Y TI FZ)(k:uT P IL)(b:aJb P Y g EV)(m:E.fr=[])(p:E.prm=[]){al:List Oper}{Q:Exit->Act->World->Prop}{D:Nat->Prop}:∀(n i:Nat) (an:An) (s:St U) (K:St U->Option α) (z:α),i+n=al.length->(∀o∈al,∀n,Wr al o n->D n)->ilr Y TI FZ IL EV al (rng n i) an s K=some z->
  (∀s' a w β,Ag D s s'->K s'=some z->bI Y.C E s' a w β->Q .normal a w)->∀a w β,bI Y.C E s a w β->wpList P al.toArray Q (al.drop i) a w
 |0,i,an,s,K,z,hn,c,h,d,a,w,β,r=>by
  rw[gf (by omega)];exact wpList_nil (d s a w β (Ag.refl s) h r)
 |n+1,i,an,s,K,z,hn,c,h,d,a,w,β,r=>by
  have hi:i<al.length:=by omega
  have ho:al[i]? =some al[i]:=ab hi;obtain⟨e,_,hk⟩:=aSi G k b m p r ho (l:=rng n (Nat.succ i)) h;rw[cC hi];refine wpList_step λq f=>hk q _ λs' t w' β' q1 q2 q3 _=>f _ _ ?_;have j:=q1.mono (c _ (cj hi));exact bZy G k b m p n (i+1) e s' K z (by omega) c q2 (λs2 u v β2 x y A=>d s2 u v β2 (j.trans x) y A) t w' β' q3
def bZz (G:Good P g Y TI FZ)(m:uT P IL)(c:aJb P Y g EV)(p:E.fr=[])(q:E.prm=[]){al:List Oper}{Q:Exit->Act->World->Prop}{D:Nat->Prop}:∀(l:List Nat) (an:An) (s:St U) (K:St U->Option α) (z:α),(∀o∈al,∀n,Wr al o n->D n)->ilr Y TI FZ IL EV al l an s K=some z->
  (∀s' a w β,Ag D s s'->K s'=some z->bI Y.C E s' a w β->Q .normal a w)->∀b,chz al.toArray l b=true->∀a w β,bI Y.C E s a w β->wpAny P .any al.toArray Q l.length b a w
 |[],an,s,K,z,_,h,d,b,hc,a,w,β,r=>⟨by simpa[chz] using hc,d s a w β (Ag.refl s) h r⟩
 |i::l,an,s,K,z,t,h,d,b,hc,a,w,β,r=>by
  replace hc:((Region.ready .any al.toArray b==[i])&&chz al.toArray l (b.setIfInBounds i true))=true:=hc;simp only[ac,cY] at hc;cases ho:al[i]? with
  |none=>
   have:(none:Option α)=some z:=by have e:=h;unfold ilr at e;rw[aY,ho] at e;exact e
   cases this
  |some o=>
   obtain⟨f,_,hk⟩:=aSi G m c p q r ho h;have hg:al.toArray[i]? =some o:=by simpa using ho
   refine bGy hc.1 (wpOp_step hg λu j=>hk u _ λs' v w' β' q1 q2 q3 _=>j _ _ ?_);have k:=q1.mono (t o (aE ho));exact bZz G m c p q l f s' K z t q2 (λs2 x y β2 A B F=>d s2 x y β2 (k.trans A) B F) _ hc.2 v w' β' q3
def bMt (G:Good P g Y TI FZ)(d:uT P IL)(c:aJb P Y g EV)(e:E.fr=[])(f:E.prm=[]){s:St U}{a:Act}{w:World}{β:List Tr}(r:bI Y.C E s a w β){al:List Oper}{i:Nat}{o:Oper}(ho:al[i]? =some o)(hc:zY FZ o.op=0){l:List Nat}{an:An}{K:St U->Option α}{z:α}(h:ilr Y TI FZ IL EV al (i::l) an s K=some z):
  ∃b,ilo b=ilo an/\grd Y TI FZ al o s (λs'=>ilr Y TI FZ IL EV al l b s' K)=some z:=by
 grind[Nat.beq,aY,ilr]
def bX5 (G:Good P g Y TI FZ)(A:uT P IL)(f:aJb P Y g EV)(B:E.fr=[])(F:E.prm=[]){al:List Oper}{a0:Option Nat}(hs:Region.noSelect al.toArray=true){Q:Exit->Act->World->Prop}{D:Nat->Prop}:∀(l:List (Nat×Bool)) (an:An) (s:St U) (K:St U->Option α) (z:α),(∀o∈al,∀n,Wr al o n->D n)->ilr Y TI FZ IL EV al (l.map Prod.fst) an s K=some z->
  (∀s' a w β,Ag D s s'->K s'=some z->bI Y.C E s' a w β->Q .normal a w)->
   ∀c,Dn .any al.toArray c->chk al.toArray a0 l c=true->CG FZ al a0 l c->∀a w β,bI Y.C E s a w β->fH P .any al.toArray a0 (NoPanic Q) (Ext w) l.length c a w
 |[],an,s,K,z,_,h,I,c,hd,hc,hg,a,w,β,r=>xA (P:=P) (a0:=a0) (S:=Ext w) (Q:=NoPanic Q) (by simpa[chk] using hc) (I s a w β (Ag.refl s) h r) 0
 |(i,fl)::l,an,s,K,z,J,h,I,c,hd,hc,e,a,w,β,r=>by
  replace h:ilr Y TI FZ IL EV al (i::l.map Prod.fst) an s K=some z:=h;cases ho:al[i]? with
  |none=>
   have:(none:Option α)=some z:=by have L:=h;unfold ilr at L;rw[aY,ho] at L;exact L
   cases this
  |some o=>
   have hg:al.toArray[i]? =some o:=by simpa using ho
   have j:=aE ho;cases fl with
   |true=>
    simp only[chk,ac] at hc;have q:Nat.beq (zY FZ o.op) 0=true/\frees FZ al a0 l=true:=by
     rcases e with e|⟨_,e⟩
     ·have d:frees FZ al a0 ((i,true)::l)=true:=e;simp only[frees,aY,ho,ae,ac] at d;exact d
     ·exact absurd (Oh e).1 (by simp)
    have t:=ah q.1;obtain⟨k,_,h⟩:=bMt G A f B F r ho t h;obtain⟨v,s',h1,h2,h3,h4⟩:=bXt G r t h;have m:=hd.set (by simpa using hc.1.1.2);have M:=h4.mono (J o j);refine Tq (i:=i) (oi:=o) (v:=v) hg hs hc.1.1.1 hc.1.1.2 hc.1.2 hd (λ_ _ _ h=>h) ?_ (Ext.refl w) ?_
    ·rcases h1 with⟨k1,k2⟩|⟨k1,k2⟩
     ·exact .inl ⟨k1,k2⟩
     ·exact .inr ⟨k1,k2⟩
    ·exact bX5 G A f B F hs l k s' K z J h3 (λs2 N O β2 R T V=>I s2 N O β2 (M.trans R) T V) _ m hc.2 (.inl q.2) _ w β h2
   |false=>
    replace hc:((Region.ready .any al.toArray c==[i])&&(a0 !=some i|| !jF a0 (c.setIfInBounds i true))&&chk al.toArray a0 l (c.setIfInBounds i true))=true:=hc;simp only[ac,cY] at hc;have m:=hd.set (i:=i) (by rw[hc.1.1];simp);have p:(Nat.ble (zY FZ o.op) 1=true/\frees FZ al a0 l=true)\/(jF a0 (c.setIfInBounds i true)=false/\aRw l=true):=by
     rcases e with e|⟨hn,e⟩
     ·have d:frees FZ al a0 ((i,false)::l)=true:=e;simp only[frees,aY,ho,aa] at d;cases hb:Nat.ble (zY FZ o.op) 1 with
      |true=>rw[hb] at d;exact .inl ⟨rfl,d⟩
      |false=>
       rw[hb] at d;simp only[aa,ac] at d;refine .inr ⟨?_,d.2⟩;cases a0 with
       |none=>exact absurd d.1 (by simp)
       |some b=>have W:b=i:=ah d.1;subst W;have:=hc.1.2;simpa using this
     ·exact .inr ⟨oU hn,(Oh e).2⟩
    obtain⟨k,_,hk⟩:=aSi G A f B F r ho h;refine mZ hc.1.1 (by simp) (λi' u=> ?_);simp at u;subst u;refine wpOp_step hg λK' Z=>hk K' _ λs' a' w' β' q1 q2 q3 q4=>Z _ _ ?_;have q1':=q1.mono (J o j);have cont:=λhh=>bX5 G A f B F hs l k s' K z J q2 (λs2 N O β2 R T V=>I s2 N O β2 (q1'.trans R) T V) _ m hc.2 hh a' w' β' q3;rcases p with⟨y,c2⟩|⟨y,c2⟩
    ·have hx:=q4 y;exact⟨λ_=>hx,wZ (λx hx'=>Ext.trans hx hx') _ _ _ _ (cont (.inl c2))⟩
    ·exact⟨λhn=>(by rw[y] at hn;cases hn),rY _ _ _ _ y (cont (.inr ⟨y,c2⟩))⟩
def bX6 (G:Good P g Y TI FZ)(p:uT P IL)(j:aJb P Y g EV)(q:E.fr=[])(t:E.prm=[]){s:St U}{a:Act}{w:World}{β:List Tr}{al:List Oper}{a0:Option Nat}{Q:Exit->Act->World->Prop}{i:Nat}{o:Oper}{n:Nat}{c:Array Bool}{wS:World}(ho:al[i]? =some o){pre:Bool}(u:a0Y a0 i c=true)(hp:jF a0 c=pre)(f:(pre&& !Eo a0 i)=false)
  {b:An} {K:St U->Option α} {z:α} (h:bBn al o (λs=>inl TI IL EV b o s K) s K=some z) (r:bI Y.C E s a w β)
  (hk:∀s' d w' β',Ag (Wr al o) s s'->K s'=some z->bI Y.C E s' d w' β'->fH P .any al.toArray a0 (NoPanic Q) (Ext w') n (c.setIfInBounds i true) d w'):
  wpOp P al.toArray (NoPanic Q) i (λd w'=>(jF a0 (c.setIfInBounds i true)=true->Ext wS w')/\fH P .any al.toArray a0 (NoPanic Q) (Ext wS) n (c.setIfInBounds i true) d w') a w:=by
 have y:jF a0 (c.setIfInBounds i true)=false:=(O7 u hp).trans f;have hg:al.toArray[i]? =some o:=by simp[*]
 refine wpOp_step hg λA B=> ?_;have fin:∀s' d w' β',Ag (Wr al o) s s'->K s'=some z->bI Y.C E s' d w' β'->A d w':=(by grind[q1,q2,q3,rY]);obtain⟨s1,m,h1,h2⟩:=Od r h;rcases h2 with⟨k,h2⟩|⟨k,h2⟩
 ·rw[cI k];exact bQf G p j q t m (al:=al) h2 (λs' d w' β' q1 q2 q3=>fin s' d w' β' (h1.trans q1) q2 q3)
 ·rw[dg (by rw[k];simp)];exact fin _ _ w β (h1.put (λn e=> .inl e)) h2 (m.put (x:= .l .und) (v:=undef) (λ_=>rfl))
def bT2 (G:Good P g Y TI FZ)(I:uT P IL)(d:aJb P Y g EV)(J:E.fr=[])(L:E.prm=[]){al:List Oper}{a0:Option Nat}(hs:Region.noSelect al.toArray=true){Q:Exit->Act->World->Prop}{D:Nat->Prop}:∀(l:List (Nat×Bool)) (an:An) (pre st:Bool) (s:St U) (K:St U->Option α) (z:α),(∀i∈l,∀o,al[i.1]? =some o->∀n,Wr al o n->D n)->ilY Y TI FZ IL EV al a0 l an pre st s K=some z->
  (∀s' a w β,Ag D s s'->K s'=some z->bI Y.C E s' a w β->Q .normal a w)->∀c,Dn .any al.toArray c->aIx al.toArray a0 l c=true->jF a0 c=pre->∀a w β wS,Lk E none st pre wS w->bI Y.C E s a w β->fH P .any al.toArray a0 (NoPanic Q) (Ext wS) l.length c a w
 |[],an,pre,st,s,K,z,_,h,x,c,_,hc,_,a,w,β,wS,_,r=>xA (P:=P) (a0:=a0) (S:=Ext wS) (Q:=NoPanic Q) (by simpa[aIx] using hc) (x s a w β (Ag.refl s) h r) 0
 |(i,fl)::l,an,pre,st,s,K,z,R,h,x,c,e,hc,hp,a,w,β,wS,hl,r=>by
  unfold ilY at h;rw[aY] at h;cases ho:al[i]? with
  |none=>rw[ho] at h;cases h
  |some o=>
   rw[ho] at h;simp only at h;have t:=R (i,fl) (by simp) o ho;have u:∀j∈l,∀o,al[j.1]? =some o->∀n,Wr al o n->D n:=λj T=>R j (by simp[T]);cases fl with
   |true=>
    simp only[ae] at h;simp only[aIx,ac] at hc;obtain⟨hr,M⟩:=vT hc.1;exact stepT G hs ho e hc.1 h hl.st (λhn=>hl.pre (hp.symm.trans hn)) r λv s' h1 h2 N=>
     bT2 G I d J L hs l an pre st s' K z u h2 (λs2 y A β2 B=>x s2 y A β2 ((h1.mono t).trans B)) _ (e.set hr) hc.2 ((zX M).trans hp) _ w β wS hl N
   |false=>
    simp only[aIx,ac,cY] at hc;simp only[aa] at h;have hr:i∈Region.ready .any al.toArray c:=by rw[hc.1];simp
    refine mZ hc.1 (by simp) λp F=> ?_;simp at F;subst F;have plain:∀f,grd Y TI FZ al o s (λs'=>bif !(pre&& !Eo a0 p)||(Nat.ble (zY FZ o.op) 1||unO none s'.m.o) then ilY Y TI FZ IL EV al a0 l f (pre&& !Eo a0 p) (st&&Jb (none:Option (Nat×Nat))) s' K else none)=some z->wpOp P al.toArray (NoPanic Q) p (λO w'=>(jF a0 (c.setIfInBounds p true)=true->Ext wS w')/\fH P .any al.toArray a0 (NoPanic Q) (Ext wS) l.length (c.setIfInBounds p true) O w') a w:=λf h=>
     bEh G ho hc.2.1 hp (kd:=none) (K:=λs'=>ilY Y TI FZ IL EV al a0 l f (pre&& !Eo a0 p) (st&&Jb (none:Option (Nat×Nat))) s' K) h hl r λv s' w' β' wS' h1 h2 N V=>
      bT2 G I d J L hs l f _ _ s' K z u h2 (λs2 y A β2 B=>x s2 y A β2 ((h1.mono t).trans B)) _ (e.set hr) hc.2.2 (O7 hc.2.1 hp) _ w' β' wS' V N
    cases an with
    |il k b q=>
     simp only at h;cases hb:Nat.beq k p with
     |false=>rw[hb] at h;exact plain _ h
     |true=>
      rw[hb] at h;simp only[ae] at h;cases hq:(Nat.beq (zY FZ o.op) 2&& !(pre&& !Eo a0 p)) with
      |false=>rw[hq] at h;cases h
      |true=>
       rw[hq] at h;simp only[ae] at h;simp only[ac,bu] at hq;exact bX6 G I d J L ho hc.2.1 hp hq.2 h r λs' O w' β' q1 q2 q3=>
        bT2 G I d J L hs l q false st s' K z u q2 (λs2 y A β2 B=>x s2 y A β2 ((q1.mono t).trans B)) _ (e.set hr) hc.2.2 ((O7 hc.2.1 hp).trans hq.2) O w' β' w' ⟨λ_ _ h=>(by cases h),λ_=>rfl,λ_=>rfl,λ_=>Ext.refl _⟩ q3
    |_=>exact plain _ h
def Good.pl (G:Good P g Y TI FZ):Good P g Y TI (plT FZ):=⟨G.ti,G.lay,λf S h=>by
 unfold plT at h;obtain⟨⟨f',b⟩,hm,e⟩:=cn.1 h;injection e with c d;subst c;have h0:=G.fs f' b hm;obtain⟨ar,rs,fr,wt,m⟩:=b;subst d;cases fr with
 |false=>exact h0
 |true=>
  cases wt with
  |true=>exact h0
  |false=>exact bPv h0 rfl rfl⟩
def W9 (G:Good P g Y TI FZ)(hm:P.follows .mixedOrders=true)(o:uT P IL):bJ4 P Y TI FZ IL g:=by
 intro E e i α EV c id os d an s N X R z D j A h;cases an with
 |il k b q=>
  intro Q p hX I a w β r;have B:os.toList.toArray=os:=by simp
  by_cases u:∃kb f a0 ord,ilo q= .y kb f a0 ord
  ·obtain⟨kb,f,a0,ord,u⟩:=u;unfold bL2 at h;simp only[u] at h;replace h:(bif d&&bBr os none a0 ord then ilY Y TI FZ IL EV os.toList a0 ord (.il k b q) true true s N else none)=some z:=h;cases d with
   |false=>cases h
   |true=>
    cases hc:bBr os none a0 ord with
    |false=>simp_all
    |true=>rw[hc] at h;simp only[dy,ae] at h;simp only[bBr,ac,dG] at hc;obtain⟨hs,hlen,F⟩:=hc;have hlen:=ah hlen;have t:bI Y.C E s a w.drew β:=r.ext (Ext.drew w);refine wp_region_noPanic (wp_region_any hm (rJ (a0:=a0) (S:=Ext w.drew) _ _ _ _ ?_));have:=bT2 G o c e i (a0:=a0) (al:=os.toList) (by assumption) (Q:=Q) (D:=D) ord _ true true s N z (by grind[List.mem_of_getElem?]) h p (Array.replicate os.size false) (by simp[Dn0]) (by assumption) bQe a w.drew β w.drew ⟨(by simp),λ_=>rfl,λ_=>rfl,λ_=>Ext.refl _⟩ t;simp_all
  replace h:(match(bif d then aOh FZ os.toList os (ilo q) else some (rng (len os.toList) 0)) with
   |some l=>ilr Y TI FZ IL EV os.toList l (.il k b q) s N
   |none=>none)=some z:=by
   grind[absurd,bL2]
  cases d with
  |false=>simp only[aa,dG] at h;refine wp_region_list ?_;have:=bZy G o c e i (Q:=Q) (D:=D) os.toList.length 0 _ s N z (by omega) j h p a w β r;assumption
  |true=>
   simp only[ae] at h;cases ho:aOh FZ os.toList os (ilo q) with
   |none=>simp_all
   |some l=>
    rw[ho] at h;simp only at h;have t:bI Y.C E s a w.drew β:=r.ext (Ext.drew w);rcases aZ7 ho with⟨hs,hlen,hc⟩|⟨a0,ord,hs,hlen,hc,v,x⟩
    ·refine wp_region_noPanic (wp_region_any hm ?_);have:=bZz G o c e i (Q:=NoPanic Q) (D:=D) l _ s N z j h p (Array.replicate os.size false) (by assumption) a w.drew β t;simp_all
    ·refine wp_region_noPanic (wp_region_any hm (rJ (a0:=a0) (S:=Ext w.drew) _ _ _ _ ?_));subst x;have:=bX5 G o c e i (a0:=a0) (by assumption) (Q:=Q) (D:=D) ord _ s N z j h p (Array.replicate os.size false) (by simp[Dn0]) (by assumption) (.inl v) a w.drew β t;simp_all
 |pl b=>
  have m:(∃a0 ord,rgn Y TI (plT FZ) os.toList os d (.r a0 ord) s N=some z)\/rgn Y TI (plT FZ) os.toList os d .n s N=some z:=by
   unfold bL2 at h
   grind
  rcases m with⟨a0,ord,m⟩|m
  ·exact aJa e i G.pl hm id os d (.r a0 ord) s N X R z D j trivial m
  ·exact aJa e i G.pl hm id os d .n s N X R z D j trivial m
 |_=>exact aJa e i G hm id os d _ s N X R z D j A h
end
end Go.EV
namespace Go.EV
open Go.RowKit Go.VK
variable {U:Uni} {Y:Lay U} {TI:List (Nat×TInfo)} {FZ:List (Nat×Sum U)} {IL:Il} {P:Program} {g:GI} {E:Env U g}
section
variable {s:St U} {a:Act} {w w0:World} {β:List Tr}
def bMu (e:tK P TI=true)(r:bI Y.C E s a w β){f:Func}{l:List ResultVar}(j:f.results=l.toArray){ks:List Kd}{z:rM U ks}(h:fin Y TI false ks l s=some z):∃v,(results f a.tmps).run P w= .ok v w/\Rd w E.X0 [] v (jX ((bJ Y ks z).map pF)):=by
 unfold fin at h;cases h1:O6 TI s l with
 |none=>rw[h1] at h;cases h
 |some xs=>
  rw[h1] at h;obtain⟨vs,k1,k2,k3⟩:=Bd e r h1;have hrd:=Oa r (Z:=E.X0) (λb hb=> .inl hb) ks (z:=z) h k2 k3 (.inr (aQx r));refine⟨_,Et j k1,?_⟩;generalize(bJ Y ks z).map pF=Us at hrd;obtain⟨h2,d⟩:=hrd;clear k1 k2 k3 h h1
  match Us,vs,h2,d with
  |[U],[v],_,d=>exact d 0 v U rfl rfl
  |[],[],_,_=>exact .tup rfl (by simp)
  |U::U'::Us,v::v'::vs,h2,d=>rw[dif_neg (by simp)];exact .tup (by simpa using h2) (λi v c k m=>d i v c (by simpa using k) m)
def aZ9 {w0:World}{X0:Nat->Prop}(r:g.G w0)(q:∀b,X0 b->b<w0.heap.size){ks:List Kd}{z:rM U ks}{n:Nat}{vs:List Value}(f:RdL w0 X0 vs ((bJ Y ks z).map pF))(hn:(bJ Y ks z).length<=n)(E:Env U g)(h:E.X0=X0)(i:∀b,¬E.Y0 b)(j:E.w0=w0)(k:E.pin=[])(l:E.prm=[])(o:E.fr=[]):
  bI Y.C E (ini Y n ks z) {tmps:=vs.toArray++Array.replicate (n-vs.toArray.size) undef,defers:=[]} w0 []:=by
 have hlen:vs.length=(bJ Y ks z).length:=by rw[f.1,bj]
 refine⟨⟨by rw[<-j];exact Bel.refl _,rfl,by simp[ini],by simp[ini],by simp,by simp,by simp,by simp,by simp[k],by simp[l],by simp[o]⟩,rfl,?_,λm x d=> ?_⟩
 ·simp only[ini,dG,ay,bj,fk,ji,ja,Array.size_replicate,hlen]
 ·simp only[ini,dG,bj] at d;by_cases p:m<(bJ Y ks z).length
  ·rw[aw (by simpa using p),bq] at d;cases hc:(bJ Y ks z)[m]? with
   |none=>rw[hc] at d;cases d
   |some c=>
    rw[hc] at d;have:=ak d;subst this;have e:m<vs.length:=by omega
    have hv:(vs.toArray++Array.replicate (n-vs.toArray.size) undef).getD m undef=vs[m]:=by rw[cw,fq (by simpa using e)];simp[ab e]
    rw[hv];refine vR (aDw (Jh ks z c (aE hc)) (f.2 m _ _ (ab e) (by rw[bq,hc];rfl)) (.inl λb hb=> ?_));rcases hb with hb|hb|⟨t,ht,_⟩
    ·rw[h] at hb;exact hb
    ·exact absurd hb (i b)
    ·simp at ht
  ·rw[az (by rw[bj];omega)] at d;have:=aE d;simp at this;rw[this.2];trivial
def bQg (G:Good P g Y TI FZ)(hm:P.follows .mixedOrders=true)(o:uT P IL){f:FuncId}{d:Func}{j:Code}{n:Nat}{l:List ResultVar}{ar rs:List Kd}{an:An}{z:rM U ar}{q:rM U rs}(p:P.funcs[f]? =some d)(hb:d.body=some j)(hn:d.ntmps=n)(hl:d.results=l.toArray)
  (t:∀args w,(callFunc f args).run P w= .ok (.enter f args) w) (hlen:(bJ Y ar z).length<=n) (h:evF Y TI FZ IL an j n ar rs false l z=some q):VK.Spec P g f ((bJ Y ar z).map pF) (λv=>v=jX ((bJ Y rs q).map pF)):=by
 refine⟨t,λw X0 vs m e k=>calls_of_wp p hb ?_⟩;let E:Env U g:=⟨X0,λ_=>False,w,[],[],λb h=> .inl (e b h),λ_ h=>h.elim,λ_ _ h=>h,λw' u=>g.st w w' m (u.ext λ_ h=>h),[]⟩;have x:=aZ9 (Y:=Y) m e k hlen E rfl (λ_ h=>h) rfl rfl rfl rfl;have done:∀s' c w' β',fin Y TI false rs l s'=some q->bI Y.C E s' c w' β'->c.defers=[]/\∃v,(results d c.tmps).run P w'= .ok v w'/\(∃v' r,Ending.returned v= .returned v'/\r=jX ((bJ Y rs q).map pF)/\Rd w' X0 [] v' r/\Ext w w'):=λs' c w' β' hq r=>by
  obtain⟨v,k1,k2⟩:=bMu G.ti r hl hq;exact⟨r.defers,v,k1,v,_,rfl,rfl,k2,r.hp.ext.ext λ_ h=>h⟩
 rw[hn];exact aSe (W9 G hm o) 1000 E rfl rfl an j _ _ _ _ _ q (λ_=>True) (WC.true j) (AW.true an) h _ (λs' c w' β' _ hq r=>done s' c w' β' hq r) (λi s' c w' β' _ hq r=>by cases hq) (λs' c w' β' _ hq r=>done s' c w' β' hq r) _ _ _ x
end
end Go.EV
namespace Go.EV
open Go.RowKit Go.VK
variable {U:Uni} {Y:Lay U} {TI:List (Nat×TInfo)} {FZ:List (Nat×Sum U)} {IL:Il} {P:Program} {g:GI} {E:Env U g}
section
variable {s:St U} {a:Act} {w w0:World} {β:List Tr} {C:Cod U}
def bMv {m:Mm U}{x:Lf U}{xs:List (Lf U)}{l:List Nat}(h:aIz m (x::xs)=some l):∃l1 l2,l=l1++l2/\aIz m [x]=some l1/\aIz m xs=some l2:=by
 cases x with
 |own i r=>
  simp only[aIz] at h ⊢;cases ho:nth m.o i with
  |none=>rw[ho] at h;cases h
  |some e=>
   obtain⟨ob,rv,cv⟩:=e;cases ob with
   |tree τ d c=>
    rw[ho] at h;simp only at h;cases hb:(Nat.beq rv r&&d) with
    |false=>rw[hb] at h;cases h
    |true=>
     rw[hb] at h;simp only[ae] at h;cases b:aIz m xs with
     |none=>rw[b] at h;cases h
     |some l2=>rw[b] at h;have:=ak h;subst this;exact⟨[i],l2,rfl,by simp[hb],rfl⟩
   |_=>rw[ho] at h;cases h
 |sl=>cases h
 |bor=>cases h
 |inn=>cases h
 |_=>exact⟨[],l,rfl,rfl,h⟩
def bEn (H:Hp C E s.m β w){kd:Kd}{x y:Lf U}{l:List Nat}{v:Value}(h:aIz s.m [x]=some l)(hr:rdn s.m kd x=some y)(hm:x.mean C w (E.X β) β s.m v)(hK:∀τ,kd= .sl τ->0<U.K τ):Ow C w (λ_=>False) true v y (lY β l):=by
 have j:lY β []=[]:=rfl;have flat:qL x=true->uP s.m x=some y->l=[]->(∀τ f,y≠ .sl τ f)->Ow C w (λ_=>False) true v y (lY β l):=λu hr hl o=>by
  obtain⟨k1,k2⟩:=Jc H hm hr (Z:=λ_=>False) (λ_ h=>h.elim) (.inl u);subst hl;rw[j];cases y with
  |int k n=>obtain⟨rfl,h1,h2⟩:=k2.aAO;exact .int h1 h2
  |bool b=>obtain rfl:=k2.aAX;exact .bool
  |str z=>obtain⟨rfl,h1⟩:=k2.aAV;exact .str h1
  |sl τ f=>exact absurd rfl (o τ f)
  |_=>cases k1
 cases x with
 |own i r=>
  obtain⟨_,e,t,h2,q,A⟩:=hm;obtain⟨ob,rv,cv⟩:=e;simp only[aIz,aY,h2] at h;replace hr:uP s.m (.own i r)=some y:=hr;simp only[uP,aY,h2] at hr;cases ob with
  |tree τ d f=>
   simp only at h hr;cases hb:(Nat.beq rv r&&d) with
   |false=>rw[hb] at h;cases h
   |true=>
    rw[hb] at h;have:=ak h;subst this;simp only[ac] at hb;rw[hb.1] at hr;have:=ak hr;subst this;have hd:d=true:=hb.2;subst hd;rw[A (ah hb.1)];have ho:=(Hp.tree H q h2 rfl).conv (X':=λ_=>False) (aj _) (λ_ _ h=>h.elim) (λ_ _ _ h=>h) (λ_ _=>rfl);have p:lY β [i]=t.all:=by simp[lY,q]
    rw[p];exact ho
  |_=>cases h
 |nil=>
  obtain rfl:=hm;have:=ak h;subst this;cases kd with
  |sl τ=>have:=ak (show some (Lf.sl τ [])=some y from hr);subst this;exact .sl aI3 (hK τ rfl) (World.ownsRow_nil w 0 τ (U.K τ)) .n
  |_=>cases hr
 |int k n=>have e:=ak (show some (Lf.int k n)=some y from hr);exact flat rfl hr (ak h).symm (λ_ _ e'=>by rw[<-e] at e';cases e')
 |bool b=>have e:=ak (show some (Lf.bool b)=some y from hr);exact flat rfl hr (ak h).symm (λ_ _ e'=>by rw[<-e] at e';cases e')
 |str b=>have e:=ak (show some (Lf.str b)=some y from hr);exact flat rfl hr (ak h).symm (λ_ _ e'=>by rw[<-e] at e';cases e')
 |nat c=>refine flat rfl hr (ak h).symm (λτ f e'=> ?_);subst e';replace hr:uP s.m (.nat c)=some (.sl τ f):=hr;simp only[uP] at hr;split at hr<;>cases hr
 |lt c n=>refine flat rfl hr (ak h).symm (λτ f e'=> ?_);subst e';replace hr:uP s.m (.lt c n)=some (.sl τ f):=hr;simp only[uP] at hr;split at hr<;>cases hr
 |sl=>cases h
 |bor=>cases h
 |inn=>cases h
 |_=>cases hr
def aSj (H:Hp C E s.m β w):∀(ks:List Kd) {xs ys:List (Lf U)} {l:List Nat} {vs:List Value},rds s.m ks xs=some ys->aIz s.m xs=some l->Ms C w (E.X β) β s.m vs xs->(∀kd∈ks,∀τ,kd= .sl τ->0<U.K τ)->OwL C w (λ_=>False) true vs ys (lY β l)
 |[],[],ys,l,vs,h,hl,b,_=>by
  have:=ak h;subst this;have:=ak hl;subst this;have:vs=[]:=cb b.1;subst this;exact .n
 |[],_::_,_,_,_,h,_,_,_=>by cases h
 |_::_,[],_,_,_,h,_,_,_=>by cases h
 |kd::ks,x::xs,ys,l,vs,h,hl,b,hK=>by
  obtain⟨y,e,h1,h2,rfl⟩:=bEa h;obtain⟨l1,l2,rfl,f,j⟩:=bMv hl;cases vs with
  |nil=>have:=b.1;simp at this
  |cons v vs=>rw[aDu];exact .c (bEn H f h1 (b.2 0 v x rfl rfl) (hK kd (by simp))) (aSj H ks h2 j ⟨by have:=b.1;simpa using this,λi u c p q=>b.2 (i+1) u c (by simpa using p) (by simpa using q)⟩ (λd hk=>hK d (by simp[hk])))
def bJ8 (hY:LayOk Y)(H:Hp Y.C E s.m β w){kd:Kd}{x:Sv U}{z:kd.ty U}{v:Value}{cs:List (Lf U)}{l:List Nat}(hm:x.mean Y.C w (E.X β) β s.m v)(hp:parts x=some cs)(hl:aIz s.m cs=some l)(h:o5 Y s.m kd x=some z)(hK:∀τ,kd= .sl τ->0<U.K τ):OwP Y.C w v (lY β l) (aDl Y kd z):=by
 have leaf:∀{y:Lf U},x= .l y->(∀T,kd≠ .st T)->(match rdn s.m kd y with|some q=>aRo kd q|none=>none)=some z->OwP Y.C w v (lY β l) (aDl Y kd z):=λ{y} d c h0=>by
  subst d;have:=ak hp;subst this;cases hr:rdn s.m kd y with
  |none=>rw[hr] at h0;cases h0
  |some q=>
   rw[hr] at h0;have hq:=Zh (show aRo kd q=some z from h0);have ho:=bEn H hl hr hm hK;rw[hq] at ho;cases kd with
   |st T=>exact absurd rfl (c T)
   |_=>exact⟨_,rfl,ho⟩
 cases kd with
 |st T=>
  cases x with
  |a cs'=>
   have:=ak hp;subst this;have b:(match rds s.m (Y.kd T) cs' with|some ds=>Y.C.bld T ds|none=>none)=some z:=h;cases hr:rds s.m (Y.kd T) cs' with
   |none=>rw[hr] at b;cases b
   |some ds=>rw[hr] at b;obtain⟨vs,rfl,f⟩:=hm;have ho:=aSj H _ hr hl f (λkd hk τ e=>hY.pos T τ (e▸hk));rw[Y.C.hmk T ds z b] at ho;exact⟨vs,rfl,ho⟩
  |l y=>
   have b:(match rdn s.m (Kd.st T) y with|some q=>aRo (Kd.st T) q|none=>none)=some z:=h;cases hr:rdn s.m (Kd.st T) y with
   |none=>rw[hr] at b;cases b
   |some q=>rw[hr] at b;cases q<;>cases b
  |t y=>cases h
 |int k=>cases x with
  |l y=>exact leaf rfl (by simp) h
  |_=>cases h
 |bool=>cases x with
  |l y=>exact leaf rfl (by simp) h
  |_=>cases h
 |str=>cases x with
  |l y=>exact leaf rfl (by simp) h
  |_=>cases h
 |sl τ=>cases x with
  |l y=>exact leaf rfl (by simp) h
  |_=>cases h
def bQh (hY:LayOk Y)(H:Hp Y.C E s.m β w)(ks:List Kd):∀{xs:List (Sv U)} {z:rM U ks} {vs:List Value} {l:List Nat},oJ Y s.m ks xs=some z->bL3 s.m xs=some l->vs.length=xs.length->(∀(i:Nat) (v:Value) (x:Sv U),vs[i]? =some v->xs[i]? =some x->x.mean Y.C w (E.X β) β s.m v)->(∀kd∈ks,∀τ,kd= .sl τ->0<U.K τ)->OwPs Y.C w vs (bJ Y ks z) (lY β l):=by
 induction ks with
 |nil=>
  intro xs z vs l h hl hlen hm hK;cases xs with
  |nil=>have:=ak hl;subst this;have:vs=[]:=cb hlen;subst this;exact .n
  |cons=>cases h
 |cons k ks r=>
  intro xs z vs l h hl hlen hm hK;cases xs with
  |nil=>cases ks<;>cases h
  |cons x xs=>
   cases vs with
   |nil=>simp at hlen
   |cons v vs=>
    simp only[bL3] at hl;cases hp:parts x with
    |none=>rw[hp] at hl;cases hl
    |some cs=>
     rw[hp] at hl;simp only at hl;cases h1:aIz s.m cs with
     |none=>rw[h1] at hl;cases hl
     |some l1=>
      cases h2:bL3 s.m xs with
      |none=>rw[h1,h2] at hl;cases hl
      |some l2=>
       rw[h1,h2] at hl;have:=ak hl;subst this;rw[aDu];cases ks with
       |nil=>
        cases xs with
        |cons t xs=>cases h
        |nil=>have f:vs=[]:=cb (by simpa using hlen);subst f;have:=ak h2;subst this;exact .c (bJ8 hY H (hm 0 v x rfl rfl) hp h1 (show o5 Y s.m k x=some z from h) (hK k (by simp))) .n
       |cons j d=>
        replace h:(match o5 Y s.m k x with|some a=>(match oJ Y s.m (j::d) xs with|some b=>some (a,b)|none=>none)|none=>none)=some (show k.ty U×rM U (j::d) from z):=h;cases e:o5 Y s.m k x with
        |none=>rw[e] at h;cases h
        |some y=>
         cases o:oJ Y s.m (j::d) xs with
         |none=>rw[e,o] at h;cases h
         |some A=>rw[e,o] at h;have:=ak h;subst this;exact .c (bJ8 hY H (hm 0 v x rfl rfl) hp h1 e (hK k (by simp))) (r o h2 (by simpa using hlen) (λi u c p q=>hm (i+1) u c (by simpa using p) (by simpa using q)) (λkd hk=>hK kd (by simp[hk])))
def bMw (G:Good P g Y TI FZ)(r:bI Y.C E s a w β)(d:∀b,¬E.Y0 b){o:Func}{l:List ResultVar}(p:o.results=l.toArray){ks:List Kd}{z:rM U ks}(h:fin Y TI true ks l s=some z):∃v B,(results o a.tmps).run P w= .ok v w/\B.Nodup/\(∀b∈B,E.w0.heap.size<=b)/\OwR Y.C w v (bJ Y ks z) B:=by
 unfold fin at h;cases h1:O6 TI s l with
 |none=>rw[h1] at h;cases h
 |some xs=>
  rw[h1] at h;simp only[ae] at h;cases h2:bL3 s.m xs with
  |none=>rw[h2] at h;cases h
  |some ids=>
   rw[h2] at h;simp only at h;cases hb:(dist ids&&aRu (U:=U) ks) with
   |false=>rw[hb] at h;cases h
   |true=>
    rw[hb] at h;simp only[ae] at h;simp only[ac] at hb;obtain⟨vs,k1,k2,k3⟩:=Bd G.ti r h1;have ho:=bQh G.lay r.hp ks h h2 k2 k3 (V7 hb.2);refine⟨_,lY β ids,Et p k1,bB2 r.hp (Je.1 hb.1),λb e=> ?_,?_⟩
    ·obtain⟨j,_,u,q,f⟩:=Aa e;exact(r.hp.new j u b q f).1.resolve_right (d b)
    ·generalize bJ Y ks z=cps at ho ⊢;generalize lY β ids=y at ho ⊢;clear h k1 k3 h2 h1 k2;cases ho with
     |n=>exact⟨[],rfl, .n⟩
     | @c v x B B' vs t hv hr=>
      cases hr with
      |n=>rw[df];exact hv
      | @c A x2 D F vs2 xs2 i k=>rw[dif_neg (by simp)];exact⟨_,rfl, .c hv (.c i k)⟩
end
def bMx (G:Good P g Y TI FZ)(hm:P.follows .mixedOrders=true)(o:uT P IL){f:FuncId}{d:Func}{j:Code}{n:Nat}{l:List ResultVar}{ar rs:List Kd}{an:An}{z:rM U ar}{q:rM U rs}(p:P.funcs[f]? =some d)(hb:d.body=some j)(hn:d.ntmps=n)(hl:d.results=l.toArray)
  (t:∀args w,(callFunc f args).run P w= .ok (.enter f args) w) (hlen:(bJ Y ar z).length<=n) (h:evF Y TI FZ IL an j n ar rs true l z=some q):bVt P g Y.C f ((bJ Y ar z).map pF) (bJ Y rs q):=by
 refine⟨t,λw X0 vs m e k=>calls_of_wp p hb ?_⟩;let E:Env U g:=⟨X0,λ_=>False,w,[],[],λb h=> .inl (e b h),λ_ h=>h.elim,λ_ _ h=>h,λw' u=>g.st w w' m (u.ext λ_ h=>h),[]⟩;have x:=aZ9 (Y:=Y) m e k hlen E rfl (λ_ h=>h) rfl rfl rfl rfl;have done:∀s' c w' β',fin Y TI true rs l s'=some q->bI Y.C E s' c w' β'->c.defers=[]/\∃v,(results d c.tmps).run P w'= .ok v w'/\(∃v' B,Ending.returned v= .returned v'/\Ext w w'/\B.Nodup/\(∀b∈B,w.heap.size<=b)/\OwR Y.C w' v' (bJ Y rs q) B):=λs' c w' β' hq r=>by
  obtain⟨v,B,k1,k2,k3,k4⟩:=bMw G r (λ_ h=>h) hl hq;exact⟨r.defers,v,k1,v,B,rfl,r.hp.ext.ext λ_ h=>h,k2,k3,k4⟩
 rw[hn];exact aSe (W9 G hm o) 1000 E rfl rfl an j _ _ _ _ _ q (λ_=>True) (WC.true j) (AW.true an) h _ (λs' c w' β' _ hq r=>done s' c w' β' hq r) (λi s' c w' β' _ hq r=>by cases hq) (λs' c w' β' _ hq r=>done s' c w' β' hq r) _ _ _ x
def Zk:∀(ks:List Kd) (z:rM U ks),(bJ Y ks z).length=ks.length
 |[],_=>rfl
 |[k],_=>rfl
 |k::b::ks,z=>by
  show(bJ Y (b::ks) z.2).length+1=_;rw[Zk (b::ks)];rfl
def bAa {f:FuncId}{S:Sum U}(h:yQ P g Y f S)(G:Good P g Y TI FZ):Good P g Y TI ((f,S)::FZ):=⟨G.ti,G.lay,λf' b hm=>by
 rcases bg.1 hm with e|e
 ·injection e with c d;subst c;subst d;exact h
 ·exact G.fs f' b e⟩
def bX7 (G:Good P g Y TI FZ)(hm:P.follows .mixedOrders=true)(j:uT P IL){f:FuncId}{e:Func}{k:Code}{n:Nat}{l:List ResultVar}{S:Sum U}{an:rM U S.ar->An}(o:P.funcs[f]? =some e)(hb:e.body=some k)(hn:e.ntmps=n)(hl:e.results=l.toArray)
  (p:∀args w,(callFunc f args).run P w= .ok (.enter f args) w) (hlen:S.ar.length<=n) (c:S.wt=false) (h:∀a r,S.m a=some r->evF Y TI FZ IL (an a) k n S.ar S.rs S.fr l a=some r):yQ P g Y f S:=λa r hr=>by
 have i:=h a r hr;refine⟨λ_ b=> ?_,λ_ b=> ?_,λd=>(by rw[c] at d;cases d),λd=>(by rw[c] at d;cases d)⟩
 ·rw[b] at i;exact bQg G hm j o hb hn hl p (by rw[Zk];exact hlen) i
 ·rw[b] at i;exact bMx G hm j o hb hn hl p (by rw[Zk];exact hlen) i
end Go.EV
namespace Go.EV
open Go.RowKit Go.VK
variable {U:Uni} {Y:Lay U} {TI:List (Nat×TInfo)} {FZ:List (Nat×Sum U)} {IL:Il} {P:Program} {g:GI} {E:Env U g}
section
variable {s:St U} {a:Act} {w w0:World} {β:List Tr} {C:Cod U}
def OwP.lt {v:Value}{B:List Nat}{x:Bool×List (Lf U)}(h:OwP C w v B x):∀b∈B,b<w.heap.size:=by
 obtain⟨b,cs⟩:=x;cases b with
 |true=>obtain⟨vs,_,h⟩:=h;exact h.lt
 |false=>obtain⟨c,_,h⟩:=h;exact h.lt
end
end Go.EV
namespace Go.VK
def aH {α:Type}{c:Prop}[Decidable c]{x y:Option α}{r:α}(h:c->y=x)(hr:gd c x=some r):y=some r:=by
 unfold gd at hr;split at hr
 ·rename_i hc;rw[h hc];exact hr
 ·cases hr
end Go.VK
namespace Go.VK
open EV (bZ)
section
variable {α β σ τ:Type}
def bQi {S:Type}{F:(S->Option τ)->S->Option τ}(V:Nat->S->Prop)(N:Nat)(R:Option τ)
  (step:∀i s rec,i<N->V i s->(∃s',V (i+1) s'/\F rec s=rec s')\/F rec s=R) (last:∀s rec,V N s->F rec s=R):∀(k i n:Nat) (s:S),i+k=N->k<n->V i s->bZ n F s=R
 |0,i,n+1,s,hk,hn,h=>by
  have:i=N:=by omega
  subst this;exact last s _ h
 |k+1,i,n+1,s,hk,hn,h=>by
  rcases step i s (bZ n F) (by omega) h with⟨s',h1,h2⟩|h2
  ·exact h2.trans (bQi V N R step last k (i+1) n s' (by omega) (by omega) h1)
  ·exact h2
def X3 {S:Type}{F:(S->Option τ)->S->Option τ}(V:Nat->S->Prop)(N:Nat)(R:Option τ){s:S}(b:N<=18446744073709551616)(h0:V 0 s)
  (step:∀i s rec,i<N->V i s->(∃s',V (i+1) s'/\F rec s=rec s')\/F rec s=R) (last:∀s rec,V N s->F rec s=R):bZ FUEL F s=R:=
 bQi V N R step last N 0 FUEL s (by omega) (by have:=iK;omega) h0
theorem dM {i n:Nat}(h:i<n):decide ((i:Int)<(n:Int))=true:=by simpa using h
def iD {n:Nat}:decide ((n:Int)<(n:Int))=false:=by simp
def set_mid {l r:List β}{i:Nat}{d x:β}(h:l.length=i):(l++d::r).set i x=(l++[x])++r:=by subst h;rw[fj _ _ (aj _)];simp
def szP (left:Int):Prop:=0<=left/\left<=1048576
instance (left:Int):Decidable (szP left):=inferInstanceAs (Decidable (_/\_))
theorem aQ0 {i:Nat}:((i:Nat):Int).toNat=i:=bo i
def MkP (s c:Nat)(k:Int):Prop:=s<=1152921504606846976/\0<=k/\k+c<=4611686018427387904
instance (s c:Nat) (k:Int):Decidable (MkP s c k):=inferInstanceAs (Decidable (_/\_))
end
end Go.VK
namespace Go.VK
open EV (bZ)
section
variable {α β σ τ:Type}
def okL (p:α->Prop)(l:List α):Prop:=l.length<=9223372036854775807/\∀y∈l,p y
def okS (s:ByteArray):Prop:=s.size<=9223372036854775807
theorem nD {f:α->Nat}{l:List α}{i:Nat}(hi:i<l.length):f l[i]<=(l.map f).sum:=by
 have:f l[i]∈l.map f:=cn.2 ⟨_,cj hi,rfl⟩;induction l generalizing i with
 |nil=>simp at hi
 |cons x l c=>
  cases i with
  |zero=>simp
  |succ i=>
   have b:i<l.length:=by simpa using hi
   have:=c b (cn.2 ⟨_,cj b,rfl⟩);simp only[bm,cV,fa];omega
end
end Go.VK
namespace Go.VK
end Go.VK
namespace Go.VK
open EV (bZ)
section
variable {α β σ τ:Type}
def kZ {l:List α}(p:α->Bool)(a b:τ){F:(Nat->Option τ)->Nat->Option τ}(hl:l.length<=18446744073709551616)
  (d:∀rec i (hi:i<l.length),F rec i=bif p l[i] then some a else rec (i+1)) (e:∀rec,F rec l.length=some b):bZ FUEL F 0=some (bif l.any p then a else b):=by
 have key:∀i (hi:i<l.length),p l[i]=true->l.any p=true:=λi hi h=>eN.2 ⟨_,cj hi,h⟩;refine X3 (λi s=>i<=l.length/\s=i/\(l.take i).any p=false) l.length _ hl ⟨cy _,rfl,rfl⟩ (λi s rec hi hv=> ?_) (λs rec hv=> ?_)
 ·obtain⟨_,rfl,c⟩:=hv;rw[d rec s hi];cases hp:p l[s] with
  |true=>exact .inr (by rw[key s hi hp];rfl)
  |false=>exact .inl ⟨_,⟨hi,rfl,by rw[dT,ab hi,jr,c];simp[hp]⟩,rfl⟩
 ·obtain⟨_,rfl,c⟩:=hv;rw[de] at c;rw[e,c];rfl
def kG {l:List α}(p:Nat->α->Bool)(a b:τ){F:(Nat->Option τ)->Nat->Option τ}(hl:l.length<=18446744073709551616)
  (f:∀rec i (hi:i<l.length),F rec i=bif p i l[i] then some a else rec (i+1)) (k:∀rec,F rec l.length=some b):bZ FUEL F 0=some (bif gF p 0 l then a else b):=by
 have key:∀(l:List α) (j:Nat),gF p j l=true↔∃(i:Nat) (hi:i<l.length),p (j+i) l[i]=true:=by
  intro l;induction l with
  |nil=>intro j;simp[gF]
  |cons x xs m=>
   intro j;simp only[gF,co,m];constructor
   ·rintro(h|⟨i,hi,h⟩)
    ·exact⟨0,by simp,h⟩
    ·exact⟨i+1,by simpa using hi,by rw[show j+(i+1)=j+1+i by omega];exact h⟩
   ·rintro⟨i,hi,h⟩;cases i with
    |zero=>exact .inl h
    |succ i=>exact .inr ⟨i,by simpa using hi,by rw[show j+1+i=j+(i+1) by omega];exact h⟩
 refine X3 (λi s=>i<=l.length/\s=i/\∀(j:Nat) (d:j<l.length),j<i->p j l[j]=false) l.length _ hl ⟨cy _,rfl,λj _ h=>by omega⟩ (λi s rec hi hv=> ?_) (λs rec hv=> ?_)
 ·obtain⟨_,rfl,c⟩:=hv;rw[f rec s hi];cases hp:p s l[s] with
  |true=>exact .inr (by rw[(key l 0).2 ⟨s,hi,by rw[ck];exact hp⟩];rfl)
  |false=>
   refine .inl ⟨_,⟨hi,rfl,λj d h=> ?_⟩,rfl⟩;rcases eW j s with e|e
   ·exact c j d e
   ·have:j=s:=by omega
    subst this;exact hp
 ·obtain⟨_,rfl,c⟩:=hv;have:gF p 0 l=false:=by
   cases h:gF p 0 l with
   |false=>rfl
   |true=>obtain⟨i,hi,hp⟩:=(key l 0).1 h;rw[ck,c i hi hi] at hp;cases hp
  rw[k,this];rfl
def Jm {l:List α}(p:α->Bool){F:(Nat->Option (Int⊕PUnit))->Nat->Option (Int⊕PUnit)}(hl:l.length<=18446744073709551616)
  (b:∀rec i (hi:i<l.length),F rec i=bif p l[i] then some (.inl (i:Int)) else rec (i+1)) (c:∀rec,F rec l.length=some (.inr ())):nx (bZ FUEL F 0) (λ_=>some (-1:Int))=some (kN p 0 l):=by
 have go:∀(k i n:Nat),i+k=l.length->k<n->nx (bZ n F i) (λ_=>some (-1:Int))=some (kN p i (l.drop i)):=by
  intro k;induction k with
  |zero=>
   intro i n hk hn;obtain⟨n,rfl⟩:∃m,n=m+1:=⟨n-1,by omega⟩;have:i=l.length:=by omega
   subst this;rw[show bZ (n+1) F l.length=F (bZ n F) l.length from rfl,c,dr];rfl
  |succ k d=>
   intro i n hk hn;obtain⟨n,rfl⟩:∃m,n=m+1:=⟨n-1,by omega⟩;have hi:i<l.length:=by omega
   rw[show bZ (n+1) F i=F (bZ n F) i from rfl,b _ i hi,cC hi,kN];cases p l[i] with
   |true=>rfl
   |false=>exact d (i+1) n (by omega) (by omega)
 exact go l.length 0 FUEL (by omega) (by have:=iK;omega)
def gV {l:List α}(g:σ->α->σ)(Inv:Nat->σ->Prop)(fin:σ->Option τ){s0:σ}{F:(σ×Nat->Option τ)->σ×Nat->Option τ}(hl:l.length<=18446744073709551616)(h0:Inv 0 s0)
  (c:∀i s (hi:i<l.length),Inv i s->Inv (i+1) (g s l[i])) (d:∀rec i s (hi:i<l.length),Inv i s->F rec (s,i)=rec (g s l[i],i+1)) (f:∀rec s,Inv l.length s->F rec (s,l.length)=fin s):bZ FUEL F (s0,0)=fin (l.foldl g s0):=by
 refine X3 (λi s=>i<=l.length/\s=((l.take i).foldl g s0,i)/\Inv i s.1) l.length _ hl ⟨cy _,rfl,h0⟩ (λi s rec hi hv=> ?_) (λs rec hv=> ?_)
 ·obtain⟨_,rfl,b⟩:=hv;have e:(l.take (i+1)).foldl g s0=g ((l.take i).foldl g s0) l[i]:=by rw[dT,ab hi,fm];rfl
  refine .inl ⟨_,⟨hi,rfl,by rw[e];exact c i _ hi b⟩,?_⟩;rw[d rec i _ hi b,e]
 ·obtain⟨_,rfl,b⟩:=hv;rw[f rec _ b,de]
def bAc {l:List α}(g:σ->α->σ)(Inv:Nat->σ->Prop)(fin:σ->Option τ){s0:σ}{F:(Nat×σ->Option τ)->Nat×σ->Option τ}(hl:l.length<=18446744073709551616)(h0:Inv 0 s0)
  (c:∀i s (hi:i<l.length),Inv i s->Inv (i+1) (g s l[i])) (d:∀rec i s (hi:i<l.length),Inv i s->F rec (i,s)=rec (i+1,g s l[i])) (f:∀rec s,Inv l.length s->F rec (l.length,s)=fin s):bZ FUEL F (0,s0)=fin (l.foldl g s0):=by
 refine X3 (λi s=>i<=l.length/\s=(i,(l.take i).foldl g s0)/\Inv i s.2) l.length _ hl ⟨cy _,rfl,h0⟩ (λi s rec hi hv=> ?_) (λs rec hv=> ?_)
 ·obtain⟨_,rfl,b⟩:=hv;have e:(l.take (i+1)).foldl g s0=g ((l.take i).foldl g s0) l[i]:=by rw[dT,ab hi,fm];rfl
  refine .inl ⟨_,⟨hi,rfl,by rw[e];exact c i _ hi b⟩,?_⟩;rw[d rec i _ hi b,e]
 ·obtain⟨_,rfl,b⟩:=hv;rw[f rec _ b,de]
def aJc {f:α->List β}:∀{l:List α} {s:List β},l.foldl (λs x=>s++f x) s=s++(l.map f).flatten
 |[],s=>by simp
 |x::l,s=>by simp only[db,aJc (l:=l),bm,cT,cm]
def aJd {f:α->β}:∀{l:List α} {s:List β},l.foldl (λs x=>s++[f x]) s=s++l.map f
 |[],s=>by simp
 |x::l,s=>by simp only[db,aJd (l:=l),bm,cm,fi]
end
end Go.VK
namespace Go.VK
def RdA (w:World)(X:Nat->Prop):List V->Prop
 |[]=>True
 |c::cs=>(∃v,Rd w X [] v c)/\RdA w X cs
section
variable {w:World} {X:Nat->Prop}
def RdA.of:∀{cs:List V},(∀(i:Nat) (c:V),cs[i]? =some c->∃v,Rd w X [] v c)->RdA w X cs
 |[],_=>trivial
 |c::cs,h=>⟨h 0 c rfl,RdA.of λi d hd=>h (i+1) d (by simpa using hd)⟩
def RdA.ofL {vs:List Value}{Us:List V}(h:RdL w X vs Us):RdA w X Us:=RdA.of λi c hc=>by
 have hi:i<vs.length:=by rw[h.1];exact(ba.1 hc).1
 exact⟨vs[i],h.2 i vs[i] c (ab hi) hc⟩
def bX8 {n:Int}(h:∃v,Rd w X [] v (.int .u8 n)):0<=n/\n<=255:=by obtain⟨v,h⟩:=h;cases h with|int h1 h2=>exact⟨h1,h2⟩
def bX9 {α:Type}{k:Nat}{enc:α->List V}{l:List α}{p:α->Prop}(h:∃v,Rd w X [] v (.slice k (l.map enc)))(hp:∀y,RdA w X (enc y)->p y):okL p l:=by
 obtain⟨v,h⟩:=h;refine⟨?_,λy b=>hp y ?_⟩
 ·obtain⟨A,c,rfl,h1,h2⟩:=h.aBB;rw[bj] at h1;exact bw h1 h2
 ·obtain⟨i,hi,rfl⟩:=da.1 b;generalize he:l.map enc=es at h;cases h with
  |slice0 h=>simp at he;subst he;simp at hi
  |slice hn hpos hc hm hX hb hk hcell hrd=>exact RdA.of λj d hd=>⟨_,hrd i j (enc l[i]) d (by rw[<-he,bq,ab hi];rfl) hd⟩
end
def bT3 {P:Program}{g:GI}{f:FuncId}{Us:List V}{R:V->Prop}{p:Prop}(he:∀args w,(callFunc f args).run P w= .ok (.enter f args) w)(h:p->Spec P g f Us R)(hp:∀w X,RdA w X Us->p):Spec P g f Us R:=
 ⟨he,λw X vs hg hX b=>(h (hp w X (RdA.ofL b))).2 w X vs hg hX b⟩
end Go.VK
namespace Go.VK
def bZ0 (n:Nat):GI where
 G w:=∃m,w.cell? ⟨n,0,none⟩=some (.int .i64 m)
 st _ _ h he:=by obtain⟨m,hm⟩:=h;exact⟨m,he.cell hm⟩
def aNl (sep:ByteArray):∀(k:Nat) (s l:ByteArray),l∈Lib.splitB sep 0 k s->l.size<=s.size
 |0,s,l,h=>by
  rw[Lib.splitB_zero] at h;rw[cp.1 h];exact aj _
 |k+1,s,l,h=>by
  unfold Lib.splitB at h;split at h
  ·rw[cp.1 h];exact aj _
  ·rcases bg.1 h with rfl|h
   ·exact ext_size _ _ _
   ·exact bw (aNl sep k _ l h) (ext_size _ _ _)
def bJ9:∀(l:List UInt8) (c:UInt8),Lib.indexByte l c<=l.length
 |[],_=>by show(-1:Int)<=_;simp
 |b::l,c=>by
  have:=bJ9 l c;simp only[Lib.indexByte,au];split
  ·omega
  ·split
   ·omega
   ·push_cast;omega
def bHs {P:Program}{g:GI}{F:FuncId}(i:∀args w,(callFunc F args).run P w= .ok (.enter F args) w)(j:∀(s:ByteArray) (c:UInt8) (w:World),Calls P F #[.string s, .string ⟨#[c]⟩] w λe w'=>e= .returned (.int .i64 (Lib.indexByte s.data.toList c))/\w'=w)
  (s sep:ByteArray) (h:sep.size=1):Spec P g F [.str s, .str sep] (λr=>r= .int .i64 (Lib.indexByte s.data.toList (sep.data.toList.getD 0 0))):=by
 refine⟨i,λw X0 vs o k b=> ?_⟩;obtain⟨v,u,rfl⟩:∃v u,vs=[v,u]:=by
  match vs,b.1 with
  |[v,u],_=>exact⟨v,u,rfl⟩
 obtain⟨rfl,f⟩:=(b.2 0 v _ rfl rfl).aAV;obtain⟨rfl,m⟩:=(b.2 1 u _ rfl rfl).aAV;have d:(⟨#[sep.data.toList.getD 0 0]⟩:ByteArray)=sep:=by
  obtain⟨⟨l⟩⟩:=sep
  match l,h with
  |[c],_=>rfl
 have hc:=j s (sep.data.toList.getD 0 0) w;rw[d] at hc;refine hc.mono ?_;rintro e w' ⟨rfl,rfl⟩;have h1:=Lib.indexByte_ge s.data.toList (sep.data.toList.getD 0 0);have h2:=bJ9 s.data.toList (sep.data.toList.getD 0 0);have p:s.data.toList.length=s.size:=cA;have n:s.size<=9223372036854775807:=bw f (by decide);exact⟨_,_,rfl,rfl, .int (by rw[show IntKind.i64.min= -9223372036854775808 by decide];omega) (by rw[show IntKind.i64.max=9223372036854775807 by decide];omega),Ext.refl _⟩
def bHt {P:Program}{F:FuncId}{T n:Nat}(x:∀args w,(callFunc F args).run P w= .ok (.enter F args) w)
  (y:∀(s sep:ByteArray) (m:Int) (w:World),s.size<4294967281->w.cell? ⟨n,0,none⟩=some (.int .i64 m)->1<=sep.size->Calls P F #[.string s, .string sep] w λe w'=>
   e= .returned (.slice (some ⟨w.heap.size,0,none⟩) (Lib.countB s sep+1) (Lib.countB s sep+1))/\w'=w.alloc (.cells ((Lib.splitB sep 0 (Lib.countB s sep) s).map Value.string).toArray T))
  (s sep:ByteArray) (h1:s.size<4294967281) (h2:1<=sep.size):Spec P (bZ0 n) F [.str s, .str sep] (λr=>r= .slice 1 ((mH s sep).map sV)):=by
 refine⟨x,λw X0 vs z p c=> ?_⟩;obtain⟨v,u,rfl⟩:∃v u,vs=[v,u]:=by
  match vs,c.1 with
  |[v,u],_=>exact⟨v,u,rfl⟩
 obtain⟨rfl,A⟩:=(c.2 0 v _ rfl rfl).aAV;obtain⟨rfl,B⟩:=(c.2 1 u _ rfl rfl).aAV;obtain⟨m,hm⟩:=z;refine(y s sep m w h1 hm h2).mono ?_;rintro e w' ⟨rfl,rfl⟩;have hl:(mH s sep).length=Lib.countB s sep+1:=Lib.splitB_all sep h2 0 _ s rfl;have hn:Lib.countB s sep+1=((mH s sep).map sV).length:=by rw[bj];exact hl.symm
 have t:Lib.countB s sep<=s.size+1:=Lib.count_le s.data.toList sep.data.toList;have hsz:∀l∈mH s sep,l.size<=s.size:=λl h=>aNl sep _ s l h;refine⟨_,_,rfl,rfl,?_,Ext.alloc w _⟩;have b:∀(i j:Nat) (e:List V) (d:V),((mH s sep).map sV)[i]? =some e->e[j]? =some d->∃l,(mH s sep)[i]? =some l/\j=0/\d= .str l:=by
  intro i j e d f k;rw[bq] at f;obtain⟨l,hl,rfl⟩:=ez.1 f;cases j with
  |zero=>exact⟨l,hl,rfl,by simpa[sV] using k.symm⟩
  |succ j=>simp[sV] at k
 refine .slice (val:=λi j=> .string ((mH s sep).getD i ⟨#[]⟩)) hn (by rw[<-hn];omega) (aj _) (by unfold maxLen;omega) (λq=>by have:=p _ q;simp at this) (by simp)
  (λe he=>by obtain⟨l,_,rfl⟩:=cn.1 he;rfl) (λi j e d f k=> ?_) (λi j e d f k=> ?_)
 ·obtain⟨l,o,rfl,rfl⟩:=b i j e d f k;rw[iR,ck,Nat.mul_one,du];have D:(Lib.splitB sep 0 (Lib.countB s sep) s)[i]? =some l:=o;rw[World.cell?_alloc_new];simp[List.getD,o,D]
 ·obtain⟨l,o,rfl,rfl⟩:=b i j e d f k;have:=hsz l (aE o);have G:(mH s sep).getD i ⟨#[]⟩=l:=by simp[List.getD,o]
  rw[G];exact .str (by unfold maxLen;omega)
end Go.VK
namespace Go
variable {H:Type} {enc:TypeId×Value->H}
def VK.aCH {a:Assume}{C:Checked}{os:Os}{f:FuncId}{b:Func}{s:ChangeSpec}{conds:List PathCond}{apart fresh handsOn again:Bool}{X:World->Array Value->Prop}
  (hX:∀(w w':World) (args:Array Value),w.heap=w'.heap->X w args->X w' args)
  (own:ownKnob C.prog.godebug=none) (started:os.Started) (noInit:C.prog.inits.idxOf? f=none) (l:C.prog.funcs[f]? =some b)
  (witness:∃(w:World) (tape:Tape) (i:Input),w.os=os/\(w.forCall tape i).Shaped C.prog/\i.vars=[]/\Input.okWide C.prog (w.forCall tape i) .any w.heap.size f i/\
   ((s.pre enc C.prog b conds apart (w.forCall tape i).memory i.args/\X (w.forCall tape i).memory i.args)/\sizedMet enc C.prog b (OpenSpec.ofChange s) apart (w.forCall tape i).memory i.args)/\a.holds C.prog (lone (Frame.enter C.prog f i.args .normal) [] (w.forCall tape i)))
  (contract:∀(W:World) (base:Nat) (args:Array Value) (ds m:List (DataW H)) (before:List MemPlace),
   (∀(j:Nat) t v,b.params[j]? =some t->args[j]? =some v->Value.okWide C.prog W .any base t v)->
   DataW.Whole enc C.prog b.params.toList s.vars apart W args.toList ds m before->
   X W args->W.ShapedOpen C.prog->
   Calls C.prog f args W λe r=>∃v,e= .returned v/\s.post enc C.prog b apart fresh handsOn again W args v r):
  ReturnsInHanded a C os f .any (λw args=>(s.pre enc C.prog b conds apart w args/\X w args)/\sizedMet enc C.prog b (OpenSpec.ofChange s) apart w args) (s.post enc C.prog b apart fresh handsOn again):=by
 refine returnsInHanded_of_calls own started noInit witness ?_;intro w tape i _ n _ o c k;obtain⟨_,_,_,p,d,_,_,_,_,h⟩:=o;have e:p=b:=ak (d.symm.trans l);subst e;obtain⟨⟨⟨ds,m,before,u,hc⟩,x⟩,y⟩:=c;have q:=DataW.Whole.of_heap (w':=w.forCall tape i) (by rfl) u;refine(contract (w.forCall tape i) w.heap.size i.args ds m before h q (hX _ _ _ (by rfl) x) n).mono λe r ⟨v,he,hp⟩=> ?_;subst he;exact ChangeSpec.post_blind hp
end Go

namespace Go.EV
open Go.RowKit Go.VK
variable {U:Uni} {Y:Lay U} {TI:List (Nat×TInfo)} {FZ:List (Nat×Sum U)} {IL:Il} {P:Program} {g:GI} {E:Env U g}
section
variable {s:St U} {a:Act} {w w0:World} {β:List Tr} {C:Cod U}
def bAd {x:Lf U}(h:bO8 x=true):∀i,bXn x=some i->1<=i:=λi hi=>by
 cases x<;>simp only[bXn,reduceCtorEq,ai] at hi<;>(subst hi;exact bf h)
def X4:∀{xs:List (Lf U)},aZb xs=true->∀x∈xs,bO8 x=true
 |[],_,x,b=>by simp at b
 |y::ys,h,x,b=>by
  simp only[aZb,ac] at h;rcases bg.1 b with rfl|b
  ·exact h.1
  ·exact X4 h.2 x b
def aSk:∀{xs:List (Sv U)},bDq xs=true->∀x∈xs,∀c∈aOl x,bO8 c=true
 |[],_,x,b=>by simp at b
 |y::ys,h,x,b=>by
  simp only[bDq,ac] at h;rcases bg.1 b with rfl|b
  ·cases x with
   |l z=>intro c hc;simp only[aOl,cp] at hc;subst hc;exact h.1
   |a cs=>exact X4 h.1
   |t xs=>intro c hc;simp[aOl] at hc
  ·exact aSk h.2 x b
def bT4 {X:Nat->Prop}{vs:List Value}{Us:List V}(h:RdL w X vs Us):Rd w X [] (if h:vs.length=1 then vs[0] else .tuple vs.toArray) (jX Us):=by
 obtain⟨h2,b⟩:=h
 match Us,vs,h2,b with
 |[U],[v],_,b=>exact b 0 v U rfl rfl
 |[],[],_,_=>exact .tup rfl (by simp)
 |U::U'::Us,v::v'::vs,h2,b=>rw[dif_neg (by simp)];exact .tup (by simpa using h2) (λi v c d e=>b i v c (by simpa using d) e)
def bMy (G:Good P g Y TI FZ)(hm:P.follows .mixedOrders=true)(hI:uT P IL){f:FuncId}{Q:Func}{cd:Code}{n T:Nat}{l:List ResultVar}{ks rs:List Kd}{an:An}{z:rM U (.st T::ks)}{q:rM U (.st T::rs)}{cs ds:List (Lf U)}{D J:List (Bool×List (Lf U))}(hf:P.funcs[f]? =some Q)(hb:Q.body=some cd)(hn:Q.ntmps=n)(hl:Q.results=l.toArray)
  (hE:∀args w,(callFunc f args).run P w= .ok (.enter f args) w) (hz:bJ Y (.st T::ks) z=(true,cs)::D) (hq:bJ Y (.st T::rs) q=(true,ds)::J) (hlen:D.length+1<=n) (h:evP Y TI FZ IL an cd n T ks rs l z=some q):bVu P g f T (cs.map Lf.toV) (ds.map Lf.toV) (D.map pF) (jX (J.map pF)):=by
 refine⟨hE,λw X b ws vs hG hX R hw S V=>calls_of_wp hf hb ?_⟩;have W:b<w.heap.size:=(cf.1 hw).1;let E:Env U g:=⟨λx=>X x/\x≠b,(·=b),w,[],[],λx h=> .inl (hX x h.1),λx h=>by rw[h];exact W,λx h e=>h.2 e,hG,[(.l (.box 0 0), .pointer (some ⟨b,0,none⟩))]⟩;let F:Tr:=⟨some b,0,0,[]⟩;have y:F.all=[b]:=rfl;have hXE:∀x,E.X [F] x->X x:=λx k=>by
  rcases k with h|h|⟨t,ht,h⟩
  ·exact h.1
  ·have:x=b:=h;rw[this];exact R
  ·simp at ht;subst ht;rw[y] at h;simp at h;rw[h];exact R
 have K:=Jh (Y:=Y) (.st T::ks) z;rw[hz] at K;let O:Mm U:=⟨[⟨.box T cs (cs.map λ_=>0),0,0⟩],0,[]⟩;have h0:∀{i:Nat} {t:Tr},[F][i]? =some t->i=0/\t=F:=λ{i t} h=>by
  cases i with
  |zero=>simp at h;exact⟨rfl,h.symm⟩
  |succ i=>simp at h
 have Hh:Hp Y.C E O [F] w:=by
  refine⟨Bel.refl _,rfl,λi e he=> ?_,λa i h=>by simp[O] at h,λi t x ht k=> ?_,λi j t u x hij ht hu k hxu=> ?_,λi t ht=> ?_,λi t e ht he=> ?_,λx k=> ?_,λx k=>by simp[E] at k,λf hf=>by simp[E] at hf⟩
  ·cases i with
   |zero=>simp[O] at he;subst he;exact⟨aj _,aj _⟩
   |succ i=>simp[O] at he
  ·obtain⟨_,rfl⟩:=h0 ht;rw[y] at k;simp at k;subst k;exact⟨.inr rfl,W⟩
  ·exact absurd ((h0 ht).1.trans (h0 hu).1.symm) hij
  ·obtain⟨_,rfl⟩:=h0 ht;rw[y];simp
  ·obtain⟨rfl,rfl⟩:=h0 ht;simp[O] at he;subst he;refine⟨by simp,b,ws,rfl,rfl,hw,by have:=S.1;simpa using this,λj v c p q'=> ?_⟩;have hcd:c.aBC=true:=(K (true,cs) (by simp)).1 c (aE q');exact Jg hcd (S.2 j v _ p (by rw[bq,q'];rfl)) (.inl hXE)
  ·simp[E] at k;subst k;exact⟨rfl,_,F,rfl,rfl,λ_=>⟨b,rfl,rfl⟩⟩
 have hvl:vs.length=D.length:=by have:=V.1;simpa using this
 have hini:bTj Y n T ks z=⟨(Sv.l (.box 0 0)::D.map bGz)++List.replicate (n-(D.length+1)) (.l .any),O,[]⟩:=by simp only[bTj,hz,dG,au,bj];rfl
 have r0:bI Y.C E (bTj Y n T ks z) {tmps:=(.pointer (some ⟨b,0,none⟩)::vs).toArray++Array.replicate (n-(.pointer (some ⟨b,0,none⟩)::vs).toArray.size) undef,defers:=[]} w [F]:=by
  rw[hini];refine⟨Hh,rfl,by simp[hvl];omega,λm x k=> ?_⟩;have I:∀(v:Value),(Value.pointer (some ⟨b,0,none⟩)::vs)[m]? =some v->((Value.pointer (some ⟨b,0,none⟩)::vs).toArray++Array.replicate (n-(Value.pointer (some ⟨b,0,none⟩)::vs).toArray.size) undef).getD m undef=v:=λv hv=>by
   have L:=lt_of_some hv;rw[cw,fq (by simpa using L)];simp only[List.getElem?_toArray,hv,ci]
  by_cases L:m<D.length+1
  ·simp only at k;rw[aw (by simpa using L)] at k;cases m with
   |zero=>simp at k;subst k;rw[I (.pointer (some ⟨b,0,none⟩)) rfl];exact⟨rfl,_,F,rfl,rfl,λ_=>⟨b,rfl,rfl⟩⟩
   |succ m=>
    rw[dw,bq] at k;cases hc:D[m]? with
    |none=>rw[hc] at k;cases k
    |some c=>
     rw[hc] at k;have:=ak k;subst this;have hml:m<vs.length:=by rw[hvl];exact lt_of_some hc
     rw[I vs[m] (by rw[dw];exact ab hml)];exact vR (aDw (K c (by have:=aE hc;simp[this])) (V.2 m _ _ (ab hml) (by rw[bq,hc];rfl)) (.inl hXE))
  ·simp only at k;rw[az (by simp;omega)] at k;have:=aE k;simp at this;rw[this.2];trivial
 have done:∀s' B w' β',bTk Y TI T rs l s'=some q->bI Y.C E s' B w' β'->B.defers=[]/\∃v,(results Q B.tmps).run P w'= .ok v w'/\(∃v' o,Ending.returned v= .returned v'/\Bel (·=b) w w'/\w'.heap[b]? =some (.cells o.toArray T (0,0))/\RdL w' X o (ds.map Lf.toV)/\Rd w' X [] v' (jX (J.map pF))):=λs' B w' β' d r=>by
  unfold bTk at d;split at d
  ·rename_i T' cs' us' rv cv ho;rw[aY] at ho;split at d
   ·rename_i xs hres;cases hc:(Nat.beq T' T&&(aZb cs'&&bDq xs)) with
    |false=>rw[hc] at d;cases d
    |true=>
     rw[hc] at d;simp only[ae] at d;simp only[ac] at hc;obtain⟨hT,hn1,hn2⟩:=hc;have hT:=ah hT;subst hT;obtain⟨rvs,k1,k2,k3⟩:=Bd G.ti r hres;obtain⟨_,e',t',g1,g2,g3⟩:=r.hp.pin _ (cp.2 rfl);rw[ho] at g1;injection g1 with g1;subst g1;obtain⟨b',g4,M⟩:=g3 rfl;have:b'=b:=by injection M with M;injection M with M;injection M with M;exact M.symm
     subst this;obtain⟨_,b2,o,e1,e2,e3,e4⟩:=r.hp.ok 0 t' _ g2 ho;rw[g4] at e1;injection e1 with e1;subst e1;have hbt:b'∈t'.all:=Tr.root g4;have hrd:=Tx r (Z:=X) (λx k=>by
      by_cases A:x=b'
      ·exact .inr (.inl A)
      ·exact .inl ⟨k,A⟩) _ d (vs:= .agg o.toArray::rvs) (by simp[k2]) (λj v x p q'=>by
       cases j with
       |zero=>simp at p q';subst p;subst q';exact⟨o,rfl,e4⟩
       |succ j=>exact k3 j v x (by simpa using p) (by simpa using q')) (λx k c hc' i t x' hi ht hxt hX'=>by
       have h1:1<=i:=by
        rcases bg.1 k with rfl|k
        ·exact bAd (X4 hn1 c hc') i hi
        ·exact bAd (aSk hn2 x k c hc') i hi
       by_cases A:x'=b'
       ·subst A;exact r.hp.dist 0 i t' t x' (by omega) g2 ht hbt hxt
       ·exact aQx r i t x' ht hxt ⟨hX',A⟩)
     rw[hq,bm] at hrd;obtain⟨_,_,he,N,hr2⟩:=RdL.cons_inv hrd;injection he with he1 he2;subst he1;subst he2;have N:=RdL.agg (show Rd w' X [] (.agg o.toArray) (.agg (ds.map Lf.toV)) from N);exact⟨r.defers,_,Et hl k1,_,o,rfl,r.hp.ext,e3,N,bT4 hr2⟩
   ·cases d
  ·cases d
 rw[hn];exact aSe (W9 G hm hI) 1000 E rfl rfl an cd _ _ _ _ _ q (λ_=>True) (WC.true cd) (AW.true an) h _ (λs' B w' β' _ hq r=>done s' B w' β' hq r) (λi s' B w' β' _ hq r=>by cases hq) (λs' B w' β' _ hq r=>done s' B w' β' hq r) _ _ _ r0
def bYa (G:Good P g Y TI FZ)(hm:P.follows .mixedOrders=true)(k:uT P IL){f:FuncId}{d:Func}{i:Code}{n T:Nat}{l:List ResultVar}{ks rs:List Kd}{m:rM U (.st T::ks)->Option (rM U (.st T::rs))}{an:rM U (.st T::ks)->An}(o:P.funcs[f]? =some d)(hb:d.body=some i)(hn:d.ntmps=n)(hl:d.results=l.toArray)
  (p:∀args w,(callFunc f args).run P w= .ok (.enter f args) w) (hlen:ks.length+1<=n) (h:∀a r,m a=some r->evP Y TI FZ IL (an a) i n T ks rs l a=some r):yQ P g Y f ⟨.st T::ks, .st T::rs,true,true,m⟩:=λa r hr=>by
 have q:=h a r hr;refine⟨λb=>(by cases b),λb=>(by cases b),λ_ b=>(by cases b),λ_ _ T' t cs u ds v c j x=> ?_⟩;injection c with c y;injection c with c;subst c;subst y;have e:u.length+1<=n:=by have:=congrArg List.length j;rw[Zk] at this;simp at this;omega
 exact bMy G hm k o hb hn hl p j x e q
end
end Go.EV
