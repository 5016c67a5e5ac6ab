import Derived.Test.YtchppgifkkcfpaaGreatDoorEVqtoyl
import Derived.Test.YtchppgifkkcfpaaGreatDoorVKatos
import Derived.Lib.SplitLaws
import Derived.HandedShaped
/- Printed by wip/tools: models, walks, proofs. -/
set_option linter.all false
namespace Go.EV
open Go.RowKit Go.VK
variable {U:Uni} {Y:Lay U} {TI:List (Nat×TInfo)} {FZ:List (Nat×Sum U)} {P:Program} {g:GI} {E:Env U g}
section
variable {α:Type}
theorem aLj:∀(l:List (Nat×Bool)),bQu l=l.map Prod.fst
 |[]=>rfl
 |x::l=>by rw[bw,<-aLj l];rfl
def Wy {x:Nat×Bool}{l:List (Nat×Bool)}(h:aYz (x::l)=true):x.2=false/\aYz l=true:=by
 grind[aYz]
def cBl (G:Good P g Y TI FZ){al:List Oper}{Q:Exit->Act->World->Prop}{D:Nat->Prop}:∀(l:List Nat) (s:St U) (K:St U->Option α) (z:α),(∀i∈l,∀o,al[i]? =some o->∀n,Wr al o n->D n)->aK2 Y TI FZ al l s K=some z->
  ∀(rest:List Nat),(∀s' a w β b,Ag D s s'->K s'=some z->bB Y.C E s' a w β->chz al.toArray rest b=true->wpAny P .any al.toArray Q rest.length b a w)->∀b,chz al.toArray (l++rest) b=true->∀a w β,bB Y.C E s a w β->wpAny P .any al.toArray Q (l++rest).length b a w
 |[],s,K,z,_,h,rest,hk,b,hc,a,w,β,r=>hk s a w β b (Ag.refl s) h r hc
 |i::l,s,K,z,e,h,rest,hk,b,hc,a,w,β,r=>by
  simp only[aK2,aR] at h;cases ho:al[i]? with
  |none=>rw[ho] at h;cases h
  |some o=>
   rw[ho] at h;simp only at h;replace hc:((Region.ready .any al.toArray b==[i])&&chz al.toArray (l++rest) (b.setIfInBounds i true))=true:=hc;simp only[ab,cN] at hc;have hg:al.toArray[i]? =some o:=by simpa using ho
   refine bOn hc.1 (wpOp_step hg λy c=>bJ5 G r h λs' f w' β' q1 q2 q3 _=>c _ _ ?_);have d:=q1.mono (e i (by simp) o ho);exact cBl G l s' K z (λj k=>e j (by simp[k])) q2 rest (λs2 m p β2 q t u v x=>hk s2 m p β2 q (d.trans t) u v x) _ hc.2 f w' β' q3
def CG (FZ:List (Nat×Sum U))(al:List Oper)(a0:Option Nat)(l:List (Nat×Bool))(b:Array Bool):Prop:=frees FZ al a0 l=true\/(gH a0 b=false/\aYz l=true)
def bY4 (G:Good P g Y TI FZ){al:List Oper}{a0:Option Nat}(hs:Region.noSelect al.toArray=true){Q:Exit->Act->World->Prop}{D:Nat->Prop}:∀(l:List (Nat×Bool)) (s:St U) (K:St U->Option α) (z:α),(∀i∈l,∀o,al[i.1]? =some o->∀n,Wr al o n->D n)->aK2 Y TI FZ al (bQu l) s K=some z->
  ∀(rest:List (Nat×Bool)),(∀s' a w β c,Ag D s s'->K s'=some z->bB Y.C E s' a w β->Dn .any al.toArray c->chk al.toArray a0 rest c=true->CG FZ al a0 rest c->dO P .any al.toArray a0 (NoPanic Q) (Ext w) rest.length c a w)->
   ∀c,Dn .any al.toArray c->chk al.toArray a0 (l++rest) c=true->CG FZ al a0 (l++rest) c->∀a w β,bB Y.C E s a w β->dO P .any al.toArray a0 (NoPanic Q) (Ext w) (l++rest).length c a w
 |[],s,K,z,_,h,rest,hk,c,hd,hc,hg,a,w,β,r=>hk s a w β c (Ag.refl s) h r hd hc hg
 |(i,fl)::l,s,K,z,t,h,rest,hk,c,hd,hc,e,a,w,β,r=>by
  replace h:aK2 Y TI FZ al (i::bQu l) s K=some z:=h;simp only[aK2,aR] at h;cases ho:al[i]? with
  |none=>rw[ho] at h;cases h
  |some o=>
   rw[ho] at h;simp only at h;have hg:al.toArray[i]? =some o:=by simpa using ho
   cases fl with
   |true=>
    rw[cH] at hc;simp only[chk,ab] at hc;have m:Nat.beq (Fg FZ o.op) 0=true/\frees FZ al a0 (l++rest)=true:=by
     rcases e with e|⟨_,e⟩
     ·have d:frees FZ al a0 ((i,true)::(l++rest))=true:=e;simp only[frees,aR,ho,ae,ab] at d;exact d
     ·exact absurd (Wy e).1 (by simp)
    obtain⟨v,s',h1,h2,h3,h4⟩:=cBd G r (ai m.1) h;have f:=hd.set (by simpa using hc.1.1.2);have u:=h4.mono (t (i,true) (by simp) o ho);refine J8 (i:=i) (oi:=o) (v:=v) hg hs hc.1.1.1 hc.1.1.2 hc.1.2 hd (λ_ _ _ h=>h) ?_ (Ext.refl w) ?_
    ·rcases h1 with⟨k1,k2⟩|⟨k1,k2⟩
     ·exact .inl ⟨k1,k2⟩
     ·exact .inr ⟨k1,k2⟩
    ·exact bY4 G hs l s' K z (λj y=>t j (by simp[y])) h3 rest (λs2 A B β2 F I J L M N O=>hk s2 A B β2 F (u.trans I) J L M N O) _ f hc.2 (.inl m.2) _ w β h2
   |false=>
    replace hc:((Region.ready .any al.toArray c==[i])&&(a0 !=some i|| !gH a0 (c.setIfInBounds i true))&&chk al.toArray a0 (l++rest) (c.setIfInBounds i true))=true:=hc;simp only[ab,cN] at hc;have f:=hd.set (i:=i) (by rw[hc.1.1];simp);have k:(Nat.ble (Fg FZ o.op) 1=true/\frees FZ al a0 (l++rest)=true)\/(gH a0 (c.setIfInBounds i true)=false/\aYz (l++rest)=true):=by
     rcases e with e|⟨hn,e⟩
     ·have d:frees FZ al a0 ((i,false)::(l++rest))=true:=e;simp only[frees,aR,ho,ac] at d;cases hb:Nat.ble (Fg FZ o.op) 1 with
      |true=>rw[hb] at d;exact .inl ⟨rfl,d⟩
      |false=>
       rw[hb] at d;simp only[ac,ab] at d;refine .inr ⟨?_,d.2⟩;cases a0 with
       |none=>exact absurd d.1 (by simp)
       |some b=>have R:b=i:=ai d.1;subst R;have:=hc.1.2;simpa using this
     ·exact .inr ⟨nK hn,(Wy e).2⟩
    refine lQ hc.1.1 (by simp) (λi' p=> ?_);simp at p;subst p;refine wpOp_step hg λK' S=>bJ5 G r h λs' a' w' β' q1 q2 q3 q4=>S _ _ ?_;have T:=q1.mono (t (i',false) (by simp) o ho);have cont:=λhh=>bY4 G hs l s' K z (λj y=>t j (by simp[y])) q2 rest (λs2 A B β2 F I J L M N O=>hk s2 A B β2 F (T.trans I) J L M N O) _ f hc.2 hh a' w' β' q3;rcases k with⟨q,V⟩|⟨q,V⟩
    ·have Z:=q4 q;exact⟨λ_=>Z,xU (λx W=>Ext.trans Z W) _ _ _ _ (cont (.inl V))⟩
    ·exact⟨λhn=>(by rw[q] at hn;cases hn),qX _ _ _ _ q (cont (.inr ⟨q,V⟩))⟩
def Dn0 {os:Array Oper}:Dn .any os (Array.replicate os.size false):=λj oj b hl=>by
 have c:=(bz.1 b).1;simp_all
def bPd {al:List Oper}{i:Nat}{l:List Nat}:aY0 al (i::l)=match nth al i with|some o=>o::aY0 al l|none=>aY0 al l:=rfl
def bH3 {al:List Oper}:∀{l:List Nat} {i:Nat} {o:Oper},i∈l->al[i]? =some o->o∈aY0 al l
 |[],i,o,h,_=>by simp at h
 |x::l,i,o,h,ho=>by
  rw[bPd,aR];rcases bl.1 h with rfl|h
  ·rw[ho];simp
  ·have:=bH3 h ho;cases al[x]? with
   |none=>exact this
   |some b=>exact eh _ this
def bWi {β:Type}(l:List β)(k:Nat):tk l k++drp l k=l:=by simp[cW,bG8,aP5]
def bH4 {os:Array Oper}{an:An}{l:List Nat}(h:aU7 FZ os.toList os an=some l):
  (Region.noSelect os=true/\l.length=os.size/\chz os l (Array.replicate os.size false)=true)\/
  (∃a0 ord,Region.noSelect os=true/\ord.length=os.size/\chk os a0 ord (Array.replicate os.size false)=true/\frees FZ os.toList a0 ord=true/\l=ord.map Prod.fst):=by
 cases an<;>grind[aU7,bJh,os,frees,Option.some.inj,aLj,Region.noSelect,Nat.beq,len,chz,Array.replicate,bL,inl,Nat.eq_of_beq_eq_true]
def bWj (G:Good P g Y TI FZ)(hm:P.follows .mixedOrders=true){os:Array Oper}{an:An}{l l1 l2:List Nat}(h:aU7 FZ os.toList os an=some l)(hl:l=l1++l2){id:Nat}{Q:Exit->Act->World->Prop}{D:Nat->Prop}{D2:Nat->Prop}{α α2:Type}{s:St U}{z:α}{m:St U->Option α}
  (hD:∀o∈os.toList,∀n,Wr os.toList o n->D n) (h1:aK2 Y TI FZ os.toList l1 s m=some z)
  (hk:∀s1,Ag D s s1->m s1=some z->∃(f:St U->Option α2) (j:α2),(∀i∈l2,∀o,os.toList[i]? =some o->∀n,Wr os.toList o n->D2 n)/\aK2 Y TI FZ os.toList l2 s1 f=some j/\∀d e β1,bB Y.C E s1 d e β1->∀s' a w β,Ag D2 s1 s'->f s'=some j->bB Y.C E s' a w β->Q .normal a w)
  {a:Act} {w:World} {β:List Tr} (r:bB Y.C E s a w β):(Code.region id os true).wp P Q a w:=by
 have p:os.toList.toArray=os:=by simp
 have c:∀(i:Nat) (o:Oper),os.toList[i]? =some o->∀n,Wr os.toList o n->D n:=(by grind[List.mem_of_getElem?]);have O:bB Y.C E s a w.drew β:=r.ext (Ext.drew w);rcases bH4 h with⟨hs,hlen,hc⟩|⟨a0,ord,hs,hlen,hc,q,t⟩
 ·refine wp_region_noPanic (wp_region_any hm ?_);have:=cBl G (E:=E) (al:=os.toList) (Q:=NoPanic Q) (D:=D) l1 s m z (λi _=>c i) h1 l2 (λs1 d e β1 b u v k x=>by
   obtain⟨f,j,y,A,B⟩:=hk s1 u v;have:=cBl G (E:=E) (al:=os.toList) (Q:=NoPanic Q) (D:=D2) l2 s1 f j y A [] (λs' F w' β' V I J K R=>⟨by simpa[chz] using R,B d e β1 k s' F w' β' I J K⟩) b (by simpa using x) d e β1 k;simp_all) (Array.replicate os.size false) (by simp_all) a w.drew β O
  simp_all
 ·refine wp_region_noPanic (wp_region_any hm (qM (a0:=a0) (S:=Ext w.drew) _ _ _ _ ?_));have L:ord.map Prod.fst=l1++l2:=by rw[<-t,hl]
  obtain⟨W,T,ho,M,N⟩:=List.map_eq_append_iff.1 L;subst M;subst N;have:=bY4 G (E:=E) (al:=os.toList) (a0:=a0) (by assumption) (Q:=Q) (D:=D) W s m z (λi _=>c i.1) (by grind[aLj]) T (λs1 d e β1 b u v k x Z g6=>by
   obtain⟨f,j,y,A,B⟩:=hk s1 u v;have:=bY4 G (E:=E) (al:=os.toList) (a0:=a0) (by rw[p];exact hs) (Q:=Q) (D:=D2) T s1 f j (λi hi=>y i.1 (cz.2 ⟨i,hi,rfl⟩)) (by rw[aLj];exact A) [] (λs' F w' β' V I J K R p5 p6=>xV (P:=P) (a0:=a0) (S:=Ext w') (Q:=NoPanic Q) (by simpa[chk] using p5) (B d e β1 k s' F w' β' I J K) 0) b x (by simpa using Z) (by simpa using g6) d e β1 k;simp_all) (Array.replicate os.size false) (by simp[Dn0]) (by simp_all) (.inl (by rw[<-ho];exact q)) a w.drew β O
  simp_all
def bWk {a0:Option Nat}{n:Nat}:gH a0 (Array.replicate n false)=true:=by
 cases a0 with
 |none=>rfl
 |some b=>simp only[gH,cn];rw[ct,ja];split<;>rfl
def cBm (F:E.fr=[])(l:E.prm=[])(G:Good P g Y TI FZ)(hm:P.follows .mixedOrders=true){os:Array Oper}{id:Nat}{kb:Bool}{f a0:Option Nat}{ord:List (Nat×Bool)}{Q:Exit->Act->World->Prop}{D:Nat->Prop}{s:St U}{z:α}{N:St U->Option α}
  (I:∀o∈os.toList,∀n,Wr os.toList o n->D n) (hc:bJn os f a0 ord=true) (h:aK3 Y TI FZ os.toList a0 (bif kb then some (len s.m.o,s.m.k) else none) ord f true true (wpe os.toList f s) N=some z)
  (J:∀s' a w β,Ag D s s'->N s'=some z->bB Y.C E s' a w β->Q .normal a w) {a:Act} {w:World} {β:List Tr} (r:bB Y.C E s a w β):(Code.region id os true).wp P Q a w:=by
 have K:os.toList.toArray=os:=by simp
 have c:∀i∈ord,∀o,os.toList[i.1]? =some o->∀n,Wr os.toList o n->D n:=(by grind[List.mem_of_getElem?]);have p:bB Y.C E s a w.drew β:=r.ext (Ext.drew w);simp only[bJn,ab,bL] at hc;obtain⟨hs,hlen,b⟩:=hc;have hlen:=ai hlen;have q:(wpe os.toList f s).m=s.m:=by
  unfold wpe;cases f with
  |none=>rfl
  |some j=>
   simp only;cases nth os.toList j with
   |none=>rfl
   |some o=>simp only;cases o.dst<;>rfl
 have x:bB Y.C E (wpe os.toList f s) a w.drew β:=by
  unfold wpe;cases f with
  |none=>exact p
  |some j=>
   simp only;cases nth os.toList j with
   |none=>exact p
   |some o=>exact p.aCW
 have t:Ag D s (wpe os.toList f s):=by
  unfold wpe;cases f with
  |none=>exact Ag.refl s
  |some j=>
   simp only[aR];cases ho:os.toList[j]? with
   |none=>simp_all
   |some o=>exact(Ag.refl s).put (λn e=>I o (ba ho) n (.inl e))
 have main:∀(E':Env U g) (kd:Option (Nat×Nat)),E'.prm=[]->Lk E' kd true true w.drew w.drew->bB Y.C E' (wpe os.toList f s) a w.drew β->(∀s' a w β,bB Y.C E' s' a w β->bB Y.C E s' a w β)->aK3 Y TI FZ os.toList a0 kd ord f true true (wpe os.toList f s) N=some z->(Code.region id os true).wp P Q a w:=λE' kd u hl y d h=>by
  refine wp_region_noPanic (wp_region_any hm (qM (a0:=a0) (S:=Ext w.drew) _ _ _ _ ?_));have A:∀s' a w β,Ag D (wpe os.toList f s) s'->N s'=some z->bB Y.C E' s' a w β->Q .normal a w:=λs' a w β L M O=>J s' a w β (t.trans L) M (d s' a w β O);cases f with
  |none=>have:=bMn (E:=E') G (al:=os.toList) (a0:=a0) (kd:=kd) (Q:=Q) (D:=D) (by assumption) ord true true _ N z c h A (Array.replicate os.size false) (by simp[Dn0]) (by assumption) bWk a w.drew β w.drew hl y;simp_all
  |some j=>
   simp only[ab,bne_iff_ne,ne_eq] at b;obtain⟨v,b⟩:=b;split at b
   ·rename_i oj R;have:=bWd (E:=E') G (al:=os.toList) (a0:=a0) (kd:=kd) (Q:=Q) (D:=D) (by assumption) u (j:=j) (oj:=oj) (by simp[*]) v ord true true _ N z c h A (Array.replicate os.size false) (by simp[Dn0]) (by assumption) bWk a w.drew β w.drew hl y;simp_all
   ·cases b
 cases kb with
 |false=>exact main E none l ⟨(by simp),λ_=>rfl,λ_=>rfl,λ_=>Ext.refl _⟩ x (λ_ _ _ _ h=>h) h
 |true=>have B:=x.frame l;rw[q] at B;exact main (E.frm [(w.drew,s.m.o.length,s.m.k)]) (some (s.m.o.length,s.m.k)) l ⟨λn k h=>(by cases h;exact dT),λ_=>rfl,λh=>(by cases h),λ_=>Ext.refl _⟩ B (λ_ _ _ _ h=>h.aBY F) (by grind[bL])
theorem bRd {al:List Oper}{s:St U}:∀{fs:List Nat},(wpl al s fs).m=s.m
 |[]=>rfl
 |j::fs=>by
  have e:wpl al s (j::fs)=(match nth al j with|some o=>EV.put (wpl al s fs) o.dst (.l .any)|none=>wpl al s fs):=rfl;rw[e];cases nth al j with
  |none=>exact bRd
  |some o=>rw[bWe];exact bRd
def bKb {al:List Oper}{s:St U}{a:Act}{w:World}{β:List Tr}(r:bB Y.C E s a w β):∀{fs:List Nat},bB Y.C E (wpl al s fs) a w β
 |[]=>r
 |j::fs=>by
  have e:wpl al s (j::fs)=(match nth al j with|some o=>EV.put (wpl al s fs) o.dst (.l .any)|none=>wpl al s fs):=rfl;rw[e];cases nth al j with
  |none=>exact bKb r
  |some o=>exact(bKb r).aCW
def bPe {al:List Oper}{s:St U}{D:Nat->Prop}(b:∀o∈al,∀n,Wr al o n->D n):∀{fs:List Nat},Ag D s (wpl al s fs)
 |[]=>Ag.refl s
 |j::fs=>by
  have e:wpl al s (j::fs)=(match nth al j with|some o=>EV.put (wpl al s fs) o.dst (.l .any)|none=>wpl al s fs):=rfl;rw[e,aR];cases ho:al[j]? with
  |none=>exact bPe b
  |some o=>exact(bPe b).put (λn e=>b o (ba ho) n (.inl e))
def cBn (p:E.fr=[])(q:E.prm=[])(G:Good P g Y TI FZ)(hm:P.follows .mixedOrders=true){os:Array Oper}{a0:Option Nat}{id f:Nat}{bs fs:List Nat}{ord:List (Nat×Bool)}{Q:Exit->Act->World->Prop}{D:Nat->Prop}{s:St U}{z:α}{N:St U->Option α}
  (u:∀o∈os.toList,∀n,Wr os.toList o n->D n) (hs:Region.noSelect os=true) (hc:aU8 os a0 f fs [] ord (Array.replicate os.size false)=true) (v:bxs bs s.m.o=true) (h:Qj Y TI FZ os.toList a0 bs (some (len s.m.o,s.m.k)) ord fs true false (wpl os.toList s fs) N=some z)
  (x:∀s' a w β,Ag D s s'->N s'=some z->bB Y.C E s' a w β->Q .normal a w) {a:Act} {w:World} {β:List Tr} (r:bB Y.C E s a w β):(Code.region id os true).wp P Q a w:=by
 have d:os.toList.toArray=os:=by simp
 have c:bB Y.C E (wpl os.toList s fs) a w.drew β:=(bKb r).ext (Ext.drew w);have i:Ag D s (wpl os.toList s fs):=bPe u;let Yb:Nat->Prop:=λk=>∃b∈bs,∃t,β[b]? =some t/\t.b=some k;obtain⟨ps,y,A⟩:=bMp c.hp bs (by grind[bRd]);have B:bB Y.C ((E.pinned ps).frm [(w.drew,s.m.o.length,s.m.k)]) (wpl os.toList s fs) a w.drew β:=by
  have:=(c.pins y).frame (by assumption)
  grind[bRd]
 have F:bB Y.C (((E.pinned ps).frm [(w.drew,s.m.o.length,s.m.k)]).ahs (bks []) (by simp[bks])) (wpl os.toList s fs) a w.drew β:=B.aDP;refine wp_region_noPanic (wp_region_any hm (qM (a0:=a0) (S:=Bel Yb w.drew) _ _ _ _ ?_));rw[bL] at h;have:=bPc (a0:=a0) (E:=(E.pinned ps).frm [(w.drew,s.m.o.length,s.m.k)]) G (al:=os.toList) (Q:=Q) (D:=D) (by assumption) q (bs:=bs) (Yb:=Yb) (wS:=w.drew) (λb hb=>by
  obtain⟨t,k,q1,q2,q3⟩:=A b hb;exact⟨k,⟨b,hb,t,q1,q2⟩,ce.2 (.inl q3)⟩) (kd:=some (s.m.o.length,s.m.k)) (λn k h=>by cases h;exact dT) f fs [] ord fs true false (wpl os.toList s fs) N z (by grind[List.mem_of_getElem?]) h (λs' a w β I J K=>x s' a w β (i.trans I) J (K.aBY p).aCV) (λ_ h=>h) (by simp) (by simp) (by simp) (Array.replicate os.size false) (by simp[Dn0]) (by assumption) a w.drew β (by simp[bks]) (λh=>by cases h) (λ_=>Bel.refl _) (λ_=>⟨rfl,λk ⟨b,hb,t,ht,hk⟩=>cC5 ht (Tr.root hk),λb e t k h1 h2 j l=>⟨λhb=>⟨b,hb,t,j,l⟩,λhb=>⟨λ⟨L,k1,t',k2,k3⟩=>c.hp.dist b L t t' k (λe=>hb (e▸k1)) j k2 (Tr.root l) (Tr.root k3),(c.hp.new b t k j (Tr.root l)).2⟩⟩,rfl⟩) (by simp) F
 rw[d,show cntF (Array.replicate os.size false)=os.size by simp[cntF]] at this;exact this
def bH5 (L:E.fr=[])(V:E.prm=[])(G:Good P g Y TI FZ)(hm:P.follows .mixedOrders=true)(id:Nat)(os:Array Oper)(d:Bool)(an:An){α:Type}(s:St U)(N:St U->Option α)(X:Nat->St U->Option α)(R:St U->Option α)(z:α)(D:Nat->Prop)(A:∀o∈os.toList,∀n,Wr os.toList o n->D n)(W:AW D an)(h:rgn Y TI FZ os.toList os d an s N=some z):Snd P Y E D (.region id os d) s z N X R:=by
 intro Q B hX hR a w β r;have F:os.toList.toArray=os:=by simp
 have plain:∀an,(bif d then(match aU7 FZ os.toList os an with|some l=>aK2 Y TI FZ os.toList l s N|none=>none) else ops Y TI FZ os.toList os.toList s N)=some z->(Code.region id os d).wp P Q a w:=λan h=>by
  cases d with
  |false=>refine wp_region_list ?_;have:=aC4 G (E:=E) (al:=os.toList) (Q:=Q) (D:=D) os.toList s N z A h [] (λs' a w β e c M=>wpList_nil (B s' a w β e c M)) a w β r;rw[ey,F] at this;exact this
  |true=>
   simp only[ae] at h;cases ho:aU7 FZ os.toList os an with
   |none=>rw[ho] at h;cases h
   |some l=>rw[ho] at h;exact bWj G hm (l1:=l) (l2:=[]) (α2:=α) (D2:=D) ho (by simp) A h (λs1 e c=>⟨N,z,λi hi=>by simp at hi,c,λO S β1 _ s' I w' β' J p K=>B s' I w' β' (e.trans J) p K⟩) r
 cases an with
 |rj k tm I=>
  cases d with
  |false=>
   replace h:ops Y TI FZ os.toList (tk os.toList k) s (λs1=>bif wrG tm.ws os.toList (drp os.toList k) then bd (ops Y TI FZ os.toList (drp os.toList k) s1 λs'=>col Y s1 tm s') λd=>N (reb Y s1 tm d) else none)=some z:=h;refine wp_region_list ?_;have:=aC4 G (E:=E) (al:=os.toList) (Q:=Q) (D:=D) (tk os.toList k) s _ z (λo ho=>A o (by rw[bG8] at ho;exact List.mem_of_mem_take ho)) h (drp os.toList k) (λs1 O S β1 e c M=>by
    cases hb:wrG tm.ws os.toList (drp os.toList k) with
    |false=>rw[hb] at c;cases c
    |true=>
     rw[hb] at c;simp only[ae] at c;obtain⟨d,k1,k2⟩:=jN c;have:=aC4 G (E:=E) (al:=os.toList) (Q:=Q) (D:=λn=>Wi tm.ws 0 n=true) (drp os.toList k) s1 _ d (aLe hb) k1 [] (λs' I w' β' J p K=>wpList_nil (by
      obtain⟨β'',q⟩:=Et L M K J p;obtain⟨_,_,_,hs,_⟩:=Ww p;exact B _ _ _ _ (e.trans ((aQe hs).mono W)) k2 q)) O S β1 M
     rw[ey] at this;exact this) a w β r
   rw[bWi,F] at this;exact this
  |true=>
   replace h:(match aU7 FZ os.toList os I with|some l=>aK2 Y TI FZ os.toList (tk l k) s (λs1=>bif wrG tm.ws os.toList (aY0 os.toList (drp l k)) then bd (aK2 Y TI FZ os.toList (drp l k) s1 λs'=>col Y s1 tm s') λd=>N (reb Y s1 tm d) else none)|none=>none)=some z:=h;cases ho:aU7 FZ os.toList os I with
   |none=>rw[ho] at h;cases h
   |some l=>
    rw[ho] at h;refine bWj G hm (l1:=tk l k) (l2:=drp l k) (α2:=Dat U tm.it) (D2:=λn=>Wi tm.ws 0 n=true) ho (bWi l k).symm A h (λs1 e c=> ?_) r;cases hb:wrG tm.ws os.toList (aY0 os.toList (drp l k)) with
    |false=>rw[hb] at c;cases c
    |true=>rw[hb] at c;simp only[ae] at c;obtain⟨d,k1,k2⟩:=jN c;refine⟨_,d,λi hi o T=>aLe hb o (bH3 hi T),k1,λO S β1 Z s' a2 w2 β2 J p K=> ?_⟩;obtain⟨β'',q⟩:=Et L Z K J p;obtain⟨_,_,_,hs,_⟩:=Ww p;exact B _ _ _ _ (e.trans ((aQe hs).mono W)) k2 q
 |y kb f a0 ord=>
  cases d with
  |false=>cases h
  |true=>
   replace h:(bif true&&bJn os f a0 ord then aK3 Y TI FZ os.toList a0 (bif kb then some (len s.m.o,s.m.k) else none) ord f true true (wpe os.toList f s) N else none)=some z:=h;cases hc:bJn os f a0 ord with
   |false=>rw[hc] at h;cases h
   |true=>rw[hc] at h;exact cBm L V G hm A hc h B r
 |w bs ord=>replace h:none=some z:=h;cases h
 |v bs ord=>replace h:none=some z:=h;cases h
 |u a0 bs fs ord=>
  cases d with
  |false=>cases h
  |true=>
   replace h:(bif true&&(Region.noSelect os&&(aU8 os a0 (Nat.succ (Nat.add (len ord) (len ord))) fs [] ord (Array.replicate os.size false)&&bxs bs s.m.o)) then Qj Y TI FZ os.toList a0 bs (some (len s.m.o,s.m.k)) ord fs true false (wpl os.toList s fs) N else none)=some z:=h;cases hc:(Region.noSelect os&&(aU8 os a0 (Nat.succ (Nat.add (len ord) (len ord))) fs [] ord (Array.replicate os.size false)&&bxs bs s.m.o)) with
   |false=>rw[hc] at h;cases h
   |true=>rw[hc] at h;simp only[ab] at hc;exact cBn L V G hm A hc.1 hc.2.1 hc.2.2 h B r
 |n=>exact plain .n h
 |s x y=>exact plain (.s x y) h
 |j t x=>exact plain (.j t x) h
 |jx t x=>exact plain (.jx t x) h
 |l t f x=>exact plain (.l t f x) h
 |r a0 o=>exact plain (.r a0 o) h
 |z o=>exact plain (.z o) h
 |il i a b=>exact plain (.il i a b) h
 |pl a=>exact plain (.pl a) h
end
end Go.EV
namespace Go.EV
open Go.RowKit Go.VK
variable {U:Uni} {Y:Lay U} {TI:List (Nat×TInfo)} {FZ:List (Nat×Sum U)} {P:Program} {g:GI} {E:Env U g}
section
variable {s:St U} {a:Act} {w w0:World} {β:List Tr}
def bTu (d:uS P TI=true)(r:bB Y.C E s a w β){x:ResultVar}{y:Sv U}(h:bYn TI s x=some y):∃v,(aKu P w a.tmps x).run P w= .ok v w/\y.mean Y.C w (E.X β) β s.m v:=by
 cases x with
 |tmp n=>exact⟨_,by simp[aKu],r.tm n y (by rw[<-aR];exact h)⟩
 |cell c t=>
  simp only[bYn] at h;split at h
  ·rename_i b i h1 h2;have hl:load Y s i (.box b 0)=some y:=h;have e:(Lf.box b 0:Lf U).mean Y.C w (E.X β) β s.m (a.tmps.getD c undef):=r.tm c (.l (.box b 0)) (by grind[aR]);obtain⟨p,f,k1,k2,k3⟩:=bHb r (bM d h2) e hl;simp[aKu,k1,asAddr,Sem.run_bind,Sem.run_pure,Result.andThen_ok,k2,Ext.refl,k3]
  ·cases h
def Wz (b:uS P TI=true)(r:bB Y.C E s a w β):∀{l:List ResultVar} {xs:List (Sv U)},aK5 TI s l=some xs->∃vs:List Value,(l.mapM (aKu P w a.tmps)).run P w= .ok vs w/\vs.length=xs.length/\∀(i:Nat) (v:Value) (x:Sv U),vs[i]? =some v->xs[i]? =some x->x.mean Y.C w (E.X β) β s.m v
 |[],xs,h=>by
  have:=ak h;subst this;exact⟨[],rfl,rfl,by simp⟩
 |x::l,xs,h=>by
  simp only[aK5] at h;cases h1:bYn TI s x with
  |none=>rw[h1] at h;cases h
  |some y=>
   cases h2:aK5 TI s l with
   |none=>rw[h1,h2] at h;cases h
   |some ys=>
    rw[h1,h2] at h;have:=ak h;subst this;obtain⟨v,k1,k2⟩:=bTu b r h1;obtain⟨vs,k3,k4,k5⟩:=Wz b r h2;refine⟨v::vs,by simp[ip,k1,k3],by simp[k4],λi c W q1 q2=> ?_⟩;cases i with
    |zero=>simp at q1 q2;subst q1;subst q2;exact k2
    |succ i=>exact k5 i c W (by simpa using q1) (by simpa using q2)
def L6 {b:Func}{l:List ResultVar}(c:b.results=l.toArray){vs:List Value}(h:(l.mapM (aKu P w a.tmps)).run P w= .ok vs w):(results b a.tmps).run P w= .ok (if h:vs.toArray.size=1 then vs.toArray[0] else .tuple vs.toArray) w:=by
 have d:results b a.tmps=(do
   let vs<-b.results.mapM (aKu P w a.tmps)
   pure (if h:vs.size=1 then vs[0] else .tuple vs)):=rfl
 simp[*]
end
section
def Aw (P:Program)(IL:Il):Prop:=∀(f:Nat) (c:Code) (n:Nat) (rv:List ResultVar),kG IL f=some (c,n,rv)->∃b,P.funcs[f]? =some b/\b.body=some c/\b.ntmps=n/\b.results=rv.toArray/\∀args w,(callFunc f args).run P w= .ok (.enter f args) w
def cBo:Aw P []:=λ_ _ _ _ h=>by cases h
def Fp {IL:Il}{f:Nat}{c:Code}{n:Nat}{rv:List ResultVar}{d:Func}(k:P.funcs[f]? =some d)(hb:d.body=some c)(hn:d.ntmps=n)(hl:d.results=rv.toArray)(l:∀args w,(callFunc f args).run P w= .ok (.enter f args) w)(h:Aw P IL):Aw P ((f,c,n,rv)::IL):=λf' i j b e=>by
 have e:cond (Nat.beq f f') (some (c,n,rv)) (kG IL f')=some (i,j,b):=e;cases hb':Nat.beq f f' with
 |true=>simp_all
 |false=>rw[hb'] at e;exact h f' i j b e
def cE7 (s:St U)(a:Act):List (Sv U×Value):=s.t.zipIdx.map λp=>(p.1,a.tmps.getD p.2 undef)
def bH6 {C:Cod U}{w:World}{X:Nat->Prop}{β:List Tr}{m:Mm U}:∀{ys:List (Sv U)} {l:List (Bool×List (Lf U))} {vs:List Value},bOw ys=some l->vs.length=ys.length->(∀(i:Nat) (v:Value) (x:Sv U),vs[i]? =some v->ys[i]? =some x->x.mean C w X β m v)->vs.length=l.length/\∀(i:Nat) (v:Value) (x:Bool×List (Lf U)),vs[i]? =some v->l[i]? =some x->Mp C w X β m v x
 |[],l,vs,h,hl,_=>by
  have:=ak h;subst this;exact⟨hl,λi v x _ h=>by simp at h⟩
 |y::ys,l,[],h,hl,_=>by simp at hl
 |y::ys,l,v::vs,h,hl,hm=>by
  simp only[bOw] at h;cases h1:sv2 y with
  |none=>rw[h1] at h;cases h
  |some p=>
   cases h2:bOw ys with
   |none=>rw[h1,h2] at h;cases h
   |some ps=>
    rw[h1,h2] at h;have:=ak h;subst this;obtain⟨k1,k2⟩:=bH6 h2 (by simpa using hl) (λi v x p q=>hm (i+1) v x (by simpa using p) (by simpa using q));refine⟨by simp[k1],λi u x b q=> ?_⟩;cases i with
    |zero=>
     simp at b q;subst b;subst q;have h0:=hm 0 v y rfl rfl;cases y with
     |l x=>have:=ak h1;subst this;exact⟨x,rfl,h0⟩
     |a cs=>have:=ak h1;subst this;exact h0
     |t xs=>cases h1
    |succ i=>exact k2 i u x (by simpa using b) (by simpa using q)
def bTv {C:Cod U}{w:World}{X:Nat->Prop}{β:List Tr}{m:Mm U}{ys:List (Sv U)}{y:Sv U}{vs:List Value}(h:cA7 ys=some y)(hl:vs.length=ys.length)(hm:∀(i:Nat) (v:Value) (x:Sv U),vs[i]? =some v->ys[i]? =some x->x.mean C w X β m v):y.mean C w X β m (if h:vs.toArray.size=1 then vs.toArray[0] else .tuple vs.toArray):=by
 match ys,vs,h,hl,hm with
 |[x],[v],h,_,hm=>have:=ak h;subst this;exact hm 0 v x rfl rfl
 |[],[],h,_,_=>have:=ak h;subst this;exact⟨[],rfl,rfl,λi v x h=>by simp at h⟩
 |x::b::xs,v::c::vs,h,hl,hm=>
  replace h:(match bOw (x::b::xs) with|some l=>some (Sv.t l)|none=>none)=some y:=h;cases h1:bOw (x::b::xs) with
  |none=>simp_all
  |some l=>rw[h1] at h;have:=ak h;subst this;rw[dif_neg (by simp)];obtain⟨k1,k2⟩:=bH6 h1 hl hm;exact⟨_,rfl,k1,k2⟩
variable {IL:Il} {α:Type} {EV:An->Code->St U->(St U->Option α)->Option α}
def bMs (P:Program)(Y:Lay U)(g:GI)(EV:An->Code->St U->(St U->Option α)->Option α):Prop:=∀(E:Env U g),E.fr=[]->E.prm=[]->∀(an:An) (c:Code) (s:St U) (K:St U->Option α) (z:α),EV an c s K=some z->Snd P Y E (λ_=>True) c s z K (λ_ _=>none) K
def bWl (G:Good P g Y TI FZ)(J:Aw P IL)(k:bMs P Y g EV)(L:E.fr=[])(M:E.prm=[]){s:St U}{a:Act}{w:World}{β:List Tr}(r:bB Y.C E s a w β){al:List Oper}{o:Oper}{an:An}{K:St U->Option α}{z:α}(h:inl TI IL EV an o s K=some z){B:Act->World->Prop}{Q:Exit->Act->World->Prop}
  (hk:∀s' j w' β',Ag (Wr al o) s s'->K s'=some z->bB Y.C E s' j w' β'->B j w'):o.wp P a w B Q:=by
 unfold inl at h;split at h
 ·rename_i f b ats ho;cases D:kG IL f with
  |none=>simp_all
  |some p=>
   obtain⟨c,n,rv⟩:=p;rw[D] at h;simp only at h;cases hb:Nat.ble (len b.toList) n with
   |false=>simp_all
   |true=>
    rw[hb] at h;simp only[ae] at h;have hlen:b.toList.length<=n:=by have:=aE hb;rwa [bL] at this
    obtain⟨q,N,O,f3,R,S⟩:=J f c n rv D;let E':Env U g:=E.pinned (cE7 s a);have hX:∀β,E'.X β=E.X β:=λ_=>rfl;have T:Hp Y.C E' s.m β w:=⟨r.hp.ext,r.hp.len,r.hp.vers,r.hp.cnt,r.hp.new,r.hp.dist,r.hp.nd,r.hp.ok,λx d=>by
     rcases ce.1 d with d|d
     ·obtain⟨⟨y,m⟩,F,rfl⟩:=cz.1 d;exact r.tm m y (by grind)
     ·exact r.hp.pin x d,r.hp.prm,r.hp.fr⟩
    have V:bB Y.C E' ⟨b.toList.map (eG s)++List.replicate (n-len b.toList) (.l .any),s.m,s.fr⟩ {tmps:=(b.toList.map a.eval).toArray++Array.replicate (q.ntmps-(b.toList.map a.eval).toArray.size) undef,defers:=[]} w β:=by
     refine⟨T,rfl,?_,λm x d=> ?_⟩
     ·grind[bL,List.length_append,List.length_map,List.length_replicate,Array.size_append,List.size_toArray,Array.size_replicate]
     ·by_cases hm:m<b.toList.length
      ·rw[aq (by rw[bn];exact hm)] at d;have h1:(b.toList.map a.eval)[m]? =some ((b.toList.map a.eval)[m]'(by simp_all)):=aa _;obtain⟨y,W,Z⟩:=aC3 (s:=s) (a:=a) m _ x h1 d;have hv:((b.toList.map a.eval).toArray++Array.replicate (q.ntmps-(b.toList.map a.eval).toArray.size) undef).getD m undef=a.eval y:=by rw[<-W,ct,fu (by simpa using hm)];simp[h1]
       grind[Qx,Array.replicate,undef]
      ·rw[ax (by simp_all)] at d;have:=ba d;simp at this;rw[this.2];trivial
    let R':Value->World->Prop:=λv w'=>∃(y:Sv U) (s':St U) (β':List Tr),K (put ⟨s.t,s'.m,s.fr⟩ o.dst y)=some z/\bB Y.C E ⟨s.t,s'.m,s.fr⟩ a w' β'/\y.mean Y.C w' (E.X β') β' s'.m v/\Am s.m s'.m;have done:∀s' j w' β',Ag (λ_=>True) ⟨b.toList.map (eG s)++List.replicate (n-len b.toList) (.l .any),s.m,s.fr⟩ s'->(match aK5 TI s' rv with
      |some ys=>match cA7 ys with
       |some y=>K (put ⟨s.t,s'.m,s.fr⟩ o.dst y)
       |none=>none
      |none=>none)=some z->bB Y.C E' s' j w' β'->j.defers=[]/\∃v,(results q j.tmps).run P w'= .ok v w'/\∃I,Ending.returned v= .returned I/\R' I w':=λs' j w' β' u hq i=>by
     split at hq
     ·rename_i ys A;split at hq
      ·rename_i y F;obtain⟨vs,k1,k2,k3⟩:=Wz G.ti i A;refine⟨i.defers,_,L6 R k1,_,rfl,y,s',β',hq,?_,bTv F k2 k3,u.m⟩;have hp:Hp Y.C E s'.m β' w':=⟨i.hp.ext,i.hp.len,i.hp.vers,i.hp.cnt,i.hp.new,i.hp.dist,i.hp.nd,i.hp.ok,λx d=>i.hp.pin x (ce.2 (.inr d)),i.hp.prm,i.hp.fr⟩;exact⟨hp,r.defers,r.tsz,λm x d=>i.hp.pin (x,a.tmps.getD m undef) (ce.2 (.inl (cz.2 ⟨(x,m),List.mem_zipIdx_iff_getElem?.2 d,rfl⟩)))⟩
      ·cases hq
     ·cases hq
    have hc:Calls P f (b.toList.map a.eval).toArray w λe w'=>∃v,e= .returned v/\R' v w':=by refine calls_of_wp N O ?_;exact k E' L M an c _ _ z h _ (by assumption) (by simp) (by assumption) _ _ _ V
    refine wpc (Wt ho S) hc ?_;rintro v w' ⟨y,s',β',k1,k2,k3,k4⟩;exact hk (put ⟨s.t,s'.m,s.fr⟩ o.dst y) _ w' β' (Ag.put (s:=s) (s':=⟨s.t,s'.m,s.fr⟩) ⟨λ_ _=>rfl,rfl,rfl,k4⟩ (λn e=> .inl e)) k1 (k2.put λ_=>k3)
 ·cases h
def aZm (G:Good P g Y TI FZ)(t:Aw P IL)(j:bMs P Y g EV)(u:E.fr=[])(y:E.prm=[]){s:St U}{a:Act}{w:World}{β:List Tr}(r:bB Y.C E s a w β){al:List Oper}{i:Nat}{o:Oper}(ho:al[i]? =some o){l:List Nat}{an:An}{K:St U->Option α}{z:α}(h:ilr Y TI FZ IL EV al (i::l) an s K=some z):
  ∃c,ilo c=ilo an/\∀(d:Act->World->Prop) (Q:Exit->Act->World->Prop),(∀s' f w' β',Ag (Wr al o) s s'->ilr Y TI FZ IL EV al l c s' K=some z->bB Y.C E s' f w' β'->(Nat.ble (Fg FZ o.op) 1=true->Ext w w')->d f w')->if Region.wanted o (yielded al.toArray a.tmps)=true then o.wp P a w d Q else d (a.put o.dst undef) w:=by
 have plain:∀c,ilo c=ilo an->grd Y TI FZ al o s (λs'=>ilr Y TI FZ IL EV al l c s' K)=some z->∃c,ilo c=ilo an/\∀(d:Act->World->Prop) (Q:Exit->Act->World->Prop),(∀s' f w' β',Ag (Wr al o) s s'->ilr Y TI FZ IL EV al l c s' K=some z->bB Y.C E s' f w' β'->(Nat.ble (Fg FZ o.op) 1=true->Ext w w')->d f w')->if Region.wanted o (yielded al.toArray a.tmps)=true then o.wp P a w d Q else d (a.put o.dst undef) w:=
  λc he h=>⟨c,he,λd Q hk=>bJ5 G r h hk⟩
 unfold ilr at h;rw[aR,ho] at h;cases an with
 |il k b q=>
  simp only at h;cases hb:Nat.beq k i with
  |false=>grind
  |true=>
   rw[hb] at h;simp only[ae] at h;cases hc:Nat.beq (Fg FZ o.op) 2 with
   |false=>simp_all
   |true=>
    rw[hc] at h;simp only[ae] at h;have hc:=ai hc;refine⟨q,rfl,λd Q hk=> ?_⟩;obtain⟨s1,p,h1,h2⟩:=Wv r h;rcases h2 with⟨m,h2⟩|⟨m,h2⟩
    ·rw[cu m];exact bWl G t j u y p (al:=al) h2 (λs' f w' β' q1 q2 q3=>hk s' f w' β' (h1.trans q1) q2 q3 (by simp[*]))
    ·rw[cG (by rw[m];simp)];exact hk _ _ w β (h1.put (λn e=> .inl e)) h2 (p.put (x:= .l .und) (v:=undef) (λ_=>rfl)) (λ_=>Ext.refl w)
 |_=>exact plain _ rfl h
def cDf (G:Good P g Y TI FZ)(k:Aw P IL)(b:bMs P Y g EV)(m:E.fr=[])(p:E.prm=[]){al:List Oper}{Q:Exit->Act->World->Prop}{D:Nat->Prop}:∀(n i:Nat) (an:An) (s:St U) (K:St U->Option α) (z:α),i+n=al.length->(∀o∈al,∀n,Wr al o n->D n)->ilr Y TI FZ IL EV al (rng n i) an s K=some z->
  (∀s' a w β,Ag D s s'->K s'=some z->bB Y.C E s' a w β->Q .normal a w)->∀a w β,bB Y.C E s a w β->wpList P al.toArray Q (al.drop i) a w
 |0,i,an,s,K,z,hn,c,h,d,a,w,β,r=>by
  rw[fe (by omega)];exact wpList_nil (d s a w β (Ag.refl s) h r)
 |n+1,i,an,s,K,z,hn,c,h,d,a,w,β,r=>by
  have hi:i<al.length:=by omega
  have ho:al[i]? =some al[i]:=aa hi;obtain⟨e,_,hk⟩:=aZm G k b m p r ho (l:=rng n (Nat.succ i)) h;rw[cF hi];refine wpList_step λq f=>hk q _ λs' t w' β' q1 q2 q3 _=>f _ _ ?_;have j:=q1.mono (c _ (cx hi));exact cDf G k b m p n (i+1) e s' K z (by omega) c q2 (λs2 u v β2 x y A=>d s2 u v β2 (j.trans x) y A) t w' β' q3
def cDg (G:Good P g Y TI FZ)(m:Aw P IL)(c:bMs P Y g EV)(p:E.fr=[])(q:E.prm=[]){al:List Oper}{Q:Exit->Act->World->Prop}{D:Nat->Prop}:∀(l:List Nat) (an:An) (s:St U) (K:St U->Option α) (z:α),(∀o∈al,∀n,Wr al o n->D n)->ilr Y TI FZ IL EV al l an s K=some z->
  (∀s' a w β,Ag D s s'->K s'=some z->bB Y.C E s' a w β->Q .normal a w)->∀b,chz al.toArray l b=true->∀a w β,bB Y.C E s a w β->wpAny P .any al.toArray Q l.length b a w
 |[],an,s,K,z,_,h,d,b,hc,a,w,β,r=>⟨by simpa[chz] using hc,d s a w β (Ag.refl s) h r⟩
 |i::l,an,s,K,z,t,h,d,b,hc,a,w,β,r=>by
  replace hc:((Region.ready .any al.toArray b==[i])&&chz al.toArray l (b.setIfInBounds i true))=true:=hc;simp only[ab,cN] at hc;cases ho:al[i]? with
  |none=>
   have:(none:Option α)=some z:=by have e:=h;unfold ilr at e;rw[aR,ho] at e;exact e
   cases this
  |some o=>
   obtain⟨f,_,hk⟩:=aZm G m c p q r ho h;have hg:al.toArray[i]? =some o:=by simpa using ho
   refine bOn hc.1 (wpOp_step hg λu j=>hk u _ λs' v w' β' q1 q2 q3 _=>j _ _ ?_);have k:=q1.mono (t o (ba ho));exact cDg G m c p q l f s' K z t q2 (λs2 x y β2 A B F=>d s2 x y β2 (k.trans A) B F) _ hc.2 v w' β' q3
def bTw (G:Good P g Y TI FZ)(d:Aw P IL)(c:bMs P Y g EV)(e:E.fr=[])(f:E.prm=[]){s:St U}{a:Act}{w:World}{β:List Tr}(r:bB Y.C E s a w β){al:List Oper}{i:Nat}{o:Oper}(ho:al[i]? =some o)(hc:Fg FZ o.op=0){l:List Nat}{an:An}{K:St U->Option α}{z:α}(h:ilr Y TI FZ IL EV al (i::l) an s K=some z):
  ∃b,ilo b=ilo an/\grd Y TI FZ al o s (λs'=>ilr Y TI FZ IL EV al l b s' K)=some z:=by
 grind[Nat.beq,aR,ilr]
def cBp (G:Good P g Y TI FZ)(A:Aw P IL)(f:bMs P Y g EV)(B:E.fr=[])(F:E.prm=[]){al:List Oper}{a0:Option Nat}(hs:Region.noSelect al.toArray=true){Q:Exit->Act->World->Prop}{D:Nat->Prop}:∀(l:List (Nat×Bool)) (an:An) (s:St U) (K:St U->Option α) (z:α),(∀o∈al,∀n,Wr al o n->D n)->ilr Y TI FZ IL EV al (l.map Prod.fst) an s K=some z->
  (∀s' a w β,Ag D s s'->K s'=some z->bB Y.C E s' a w β->Q .normal a w)->
   ∀c,Dn .any al.toArray c->chk al.toArray a0 l c=true->CG FZ al a0 l c->∀a w β,bB Y.C E s a w β->dO P .any al.toArray a0 (NoPanic Q) (Ext w) l.length c a w
 |[],an,s,K,z,_,h,I,c,hd,hc,hg,a,w,β,r=>xV (P:=P) (a0:=a0) (S:=Ext w) (Q:=NoPanic Q) (by simpa[chk] using hc) (I s a w β (Ag.refl s) h r) 0
 |(i,fl)::l,an,s,K,z,J,h,I,c,hd,hc,e,a,w,β,r=>by
  replace h:ilr Y TI FZ IL EV al (i::l.map Prod.fst) an s K=some z:=h;cases ho:al[i]? with
  |none=>
   have:(none:Option α)=some z:=by have L:=h;unfold ilr at L;rw[aR,ho] at L;exact L
   cases this
  |some o=>
   have hg:al.toArray[i]? =some o:=by simpa using ho
   have j:=ba ho;cases fl with
   |true=>
    simp only[chk,ab] at hc;have q:Nat.beq (Fg FZ o.op) 0=true/\frees FZ al a0 l=true:=by
     rcases e with e|⟨_,e⟩
     ·have d:frees FZ al a0 ((i,true)::l)=true:=e;simp only[frees,aR,ho,ae,ab] at d;exact d
     ·exact absurd (Wy e).1 (by simp)
    have t:=ai q.1;obtain⟨k,_,h⟩:=bTw G A f B F r ho t h;obtain⟨v,s',h1,h2,h3,h4⟩:=cBd G r t h;have m:=hd.set (by simpa using hc.1.1.2);have M:=h4.mono (J o j);refine J8 (i:=i) (oi:=o) (v:=v) hg hs hc.1.1.1 hc.1.1.2 hc.1.2 hd (λ_ _ _ h=>h) ?_ (Ext.refl w) ?_
    ·rcases h1 with⟨k1,k2⟩|⟨k1,k2⟩
     ·exact .inl ⟨k1,k2⟩
     ·exact .inr ⟨k1,k2⟩
    ·exact cBp G A f B F hs l k s' K z J h3 (λs2 N O β2 R T V=>I s2 N O β2 (M.trans R) T V) _ m hc.2 (.inl q.2) _ w β h2
   |false=>
    replace hc:((Region.ready .any al.toArray c==[i])&&(a0 !=some i|| !gH a0 (c.setIfInBounds i true))&&chk al.toArray a0 l (c.setIfInBounds i true))=true:=hc;simp only[ab,cN] at hc;have m:=hd.set (i:=i) (by rw[hc.1.1];simp);have p:(Nat.ble (Fg FZ o.op) 1=true/\frees FZ al a0 l=true)\/(gH a0 (c.setIfInBounds i true)=false/\aYz l=true):=by
     rcases e with e|⟨hn,e⟩
     ·have d:frees FZ al a0 ((i,false)::l)=true:=e;simp only[frees,aR,ho,ac] at d;cases hb:Nat.ble (Fg FZ o.op) 1 with
      |true=>rw[hb] at d;exact .inl ⟨rfl,d⟩
      |false=>
       rw[hb] at d;simp only[ac,ab] at d;refine .inr ⟨?_,d.2⟩;cases a0 with
       |none=>exact absurd d.1 (by simp)
       |some b=>have W:b=i:=ai d.1;subst W;have:=hc.1.2;simpa using this
     ·exact .inr ⟨nK hn,(Wy e).2⟩
    obtain⟨k,_,hk⟩:=aZm G A f B F r ho h;refine lQ hc.1.1 (by simp) (λi' u=> ?_);simp at u;subst u;refine wpOp_step hg λK' Z=>hk K' _ λs' a' w' β' q1 q2 q3 q4=>Z _ _ ?_;have q1':=q1.mono (J o j);have cont:=λhh=>cBp G A f B F hs l k s' K z J q2 (λs2 N O β2 R T V=>I s2 N O β2 (q1'.trans R) T V) _ m hc.2 hh a' w' β' q3;rcases p with⟨y,c2⟩|⟨y,c2⟩
    ·have hx:=q4 y;exact⟨λ_=>hx,xU (λx hx'=>Ext.trans hx hx') _ _ _ _ (cont (.inl c2))⟩
    ·exact⟨λhn=>(by rw[y] at hn;cases hn),qX _ _ _ _ y (cont (.inr ⟨y,c2⟩))⟩
def cBq (G:Good P g Y TI FZ)(p:Aw P IL)(j:bMs P Y g EV)(q:E.fr=[])(t:E.prm=[]){s:St U}{a:Act}{w:World}{β:List Tr}{al:List Oper}{a0:Option Nat}{Q:Exit->Act->World->Prop}{i:Nat}{o:Oper}{n:Nat}{c:Array Bool}{wS:World}(ho:al[i]? =some o){pre:Bool}(u:a0Y a0 i c=true)(hp:gH a0 c=pre)(f:(pre&& !Qs a0 i)=false)
  {b:An} {K:St U->Option α} {z:α} (h:bJj al o (λs=>inl TI IL EV b o s K) s K=some z) (r:bB Y.C E s a w β)
  (hk:∀s' d w' β',Ag (Wr al o) s s'->K s'=some z->bB Y.C E s' d w' β'->dO P .any al.toArray a0 (NoPanic Q) (Ext w') n (c.setIfInBounds i true) d w'):
  wpOp P al.toArray (NoPanic Q) i (λd w'=>(gH a0 (c.setIfInBounds i true)=true->Ext wS w')/\dO P .any al.toArray a0 (NoPanic Q) (Ext wS) n (c.setIfInBounds i true) d w') a w:=by
 have y:gH a0 (c.setIfInBounds i true)=false:=(aGe u hp).trans f;have hg:al.toArray[i]? =some o:=by simp[*]
 refine wpOp_step hg λA B=> ?_;have fin:∀s' d w' β',Ag (Wr al o) s s'->K s'=some z->bB Y.C E s' d w' β'->A d w':=(by grind[q1,q2,q3,qX]);obtain⟨s1,m,h1,h2⟩:=Wv r h;rcases h2 with⟨k,h2⟩|⟨k,h2⟩
 ·rw[cu k];exact bWl G p j q t m (al:=al) h2 (λs' d w' β' q1 q2 q3=>fin s' d w' β' (h1.trans q1) q2 q3)
 ·rw[cG (by rw[k];simp)];exact fin _ _ w β (h1.put (λn e=> .inl e)) h2 (m.put (x:= .l .und) (v:=undef) (λ_=>rfl))
def bY5 (G:Good P g Y TI FZ)(I:Aw P IL)(d:bMs P Y g EV)(J:E.fr=[])(L:E.prm=[]){al:List Oper}{a0:Option Nat}(hs:Region.noSelect al.toArray=true){Q:Exit->Act->World->Prop}{D:Nat->Prop}:∀(l:List (Nat×Bool)) (an:An) (pre st:Bool) (s:St U) (K:St U->Option α) (z:α),(∀i∈l,∀o,al[i.1]? =some o->∀n,Wr al o n->D n)->ilY Y TI FZ IL EV al a0 l an pre st s K=some z->
  (∀s' a w β,Ag D s s'->K s'=some z->bB Y.C E s' a w β->Q .normal a w)->∀c,Dn .any al.toArray c->aP3 al.toArray a0 l c=true->gH a0 c=pre->∀a w β wS,Lk E none st pre wS w->bB Y.C E s a w β->dO P .any al.toArray a0 (NoPanic Q) (Ext wS) l.length c a w
 |[],an,pre,st,s,K,z,_,h,x,c,_,hc,_,a,w,β,wS,_,r=>xV (P:=P) (a0:=a0) (S:=Ext wS) (Q:=NoPanic Q) (by simpa[aP3] using hc) (x s a w β (Ag.refl s) h r) 0
 |(i,fl)::l,an,pre,st,s,K,z,R,h,x,c,e,hc,hp,a,w,β,wS,hl,r=>by
  unfold ilY at h;rw[aR] at h;cases ho:al[i]? with
  |none=>rw[ho] at h;cases h
  |some o=>
   rw[ho] at h;simp only at h;have t:=R (i,fl) (by simp) o ho;have u:∀j∈l,∀o,al[j.1]? =some o->∀n,Wr al o n->D n:=λj T=>R j (by simp[T]);cases fl with
   |true=>
    simp only[ae] at h;simp only[aP3,ab] at hc;obtain⟨hr,M⟩:=wO hc.1;exact stepT G hs ho e hc.1 h hl.st (λhn=>hl.pre (hp.symm.trans hn)) r λv s' h1 h2 N=>
     bY5 G I d J L hs l an pre st s' K z u h2 (λs2 y A β2 B=>x s2 y A β2 ((h1.mono t).trans B)) _ (e.set hr) hc.2 ((Ee M).trans hp) _ w β wS hl N
   |false=>
    simp only[aP3,ab,cN] at hc;simp only[ac] at h;have hr:i∈Region.ready .any al.toArray c:=by rw[hc.1];simp
    refine lQ hc.1 (by simp) λp F=> ?_;simp at F;subst F;have plain:∀f,grd Y TI FZ al o s (λs'=>bif !(pre&& !Qs a0 p)||(Nat.ble (Fg FZ o.op) 1||unO none s'.m.o) then ilY Y TI FZ IL EV al a0 l f (pre&& !Qs a0 p) (st&&aK0 (none:Option (Nat×Nat))) s' K else none)=some z->wpOp P al.toArray (NoPanic Q) p (λO w'=>(gH a0 (c.setIfInBounds p true)=true->Ext wS w')/\dO P .any al.toArray a0 (NoPanic Q) (Ext wS) l.length (c.setIfInBounds p true) O w') a w:=λf h=>
     bMm G ho hc.2.1 hp (kd:=none) (K:=λs'=>ilY Y TI FZ IL EV al a0 l f (pre&& !Qs a0 p) (st&&aK0 (none:Option (Nat×Nat))) s' K) h hl r λv s' w' β' wS' h1 h2 N V=>
      bY5 G I d J L hs l f _ _ s' K z u h2 (λs2 y A β2 B=>x s2 y A β2 ((h1.mono t).trans B)) _ (e.set hr) hc.2.2 (aGe hc.2.1 hp) _ w' β' wS' V N
    cases an with
    |il k b q=>
     simp only at h;cases hb:Nat.beq k p with
     |false=>rw[hb] at h;exact plain _ h
     |true=>
      rw[hb] at h;simp only[ae] at h;cases hq:(Nat.beq (Fg FZ o.op) 2&& !(pre&& !Qs a0 p)) with
      |false=>rw[hq] at h;cases h
      |true=>
       rw[hq] at h;simp only[ae] at h;simp only[ab,cn] at hq;exact cBq G I d J L ho hc.2.1 hp hq.2 h r λs' O w' β' q1 q2 q3=>
        bY5 G I d J L hs l q false st s' K z u q2 (λs2 y A β2 B=>x s2 y A β2 ((q1.mono t).trans B)) _ (e.set hr) hc.2.2 ((aGe hc.2.1 hp).trans hq.2) O w' β' w' ⟨λ_ _ h=>(by cases h),λ_=>rfl,λ_=>rfl,λ_=>Ext.refl _⟩ q3
    |_=>exact plain _ h
def Good.pl (G:Good P g Y TI FZ):Good P g Y TI (plT FZ):=⟨G.ti,G.lay,λf S h=>by
 unfold plT at h;obtain⟨⟨f',b⟩,hm,e⟩:=cz.1 h;injection e with c d;subst c;have h0:=G.fs f' b hm;obtain⟨ar,rs,fr,wt,m⟩:=b;subst d;cases fr with
 |false=>exact h0
 |true=>
  cases wt with
  |true=>exact h0
  |false=>exact bV2 h0 rfl rfl⟩
def aZn (G:Good P g Y TI FZ)(hm:P.follows .mixedOrders=true)(t:Aw P IL):bRa P Y TI FZ IL g:=by
 intro E j m α EV e id os d an s N X R z D p J h;cases an with
 |il k b q=>
  intro Q u hX K a w β r;have c:os.toList.toArray=os:=by simp
  by_cases v:∃kb f a0 ord,ilo q= .y kb f a0 ord
  ·obtain⟨kb,f,a0,ord,v⟩:=v;unfold bS6 at h;simp only[v] at h;replace h:(bif d&&bJn os none a0 ord then ilY Y TI FZ IL EV os.toList a0 ord (.il k b q) true true s N else none)=some z:=h;cases d with
   |false=>cases h
   |true=>
    cases hc:bJn os none a0 ord with
    |false=>rw[hc] at h;cases h
    |true=>rw[hc] at h;simp only[dl,ae] at h;simp only[bJn,ab,bL] at hc;obtain⟨hs,hlen,A⟩:=hc;have hlen:=ai hlen;have x:bB Y.C E s a w.drew β:=r.ext (Ext.drew w);refine wp_region_noPanic (wp_region_any hm (qM (a0:=a0) (S:=Ext w.drew) _ _ _ _ ?_));have:=bY5 G t e j m (a0:=a0) (al:=os.toList) (by rw[c];exact hs) (Q:=Q) (D:=D) ord _ true true s N z (λi _ o ho=>p o (ba ho)) h u (Array.replicate os.size false) (by rw[c];exact Dn0) (by rw[c];exact A) bWk a w.drew β w.drew ⟨λ_ _ h=>(by cases h),λ_=>rfl,λ_=>rfl,λ_=>Ext.refl _⟩ x;rw[c,hlen] at this;exact this
  replace h:(match(bif d then aU7 FZ os.toList os (ilo q) else some (rng (len os.toList) 0)) with
   |some l=>ilr Y TI FZ IL EV os.toList l (.il k b q) s N
   |none=>none)=some z:=by
   unfold bS6 at h;simp only at h;split at h
   ·rename_i kb f a0 ord hq;exact absurd ⟨kb,f,a0,ord,hq⟩ v
   ·exact h
  cases d with
  |false=>simp only[ac,bL] at h;refine wp_region_list ?_;have:=cDf G t e j m (Q:=Q) (D:=D) os.toList.length 0 _ s N z (by omega) p h u a w β r;rw[gh,c] at this;exact this
  |true=>
   simp only[ae] at h;cases ho:aU7 FZ os.toList os (ilo q) with
   |none=>rw[ho] at h;cases h
   |some l=>
    rw[ho] at h;simp only at h;have x:bB Y.C E s a w.drew β:=r.ext (Ext.drew w);rcases bH4 ho with⟨hs,hlen,hc⟩|⟨a0,ord,hs,hlen,hc,B,F⟩
    ·refine wp_region_noPanic (wp_region_any hm ?_);have:=cDg G t e j m (Q:=NoPanic Q) (D:=D) l _ s N z p h u (Array.replicate os.size false) (by rw[c];exact hc) a w.drew β x;rw[c,hlen] at this;exact this
    ·refine wp_region_noPanic (wp_region_any hm (qM (a0:=a0) (S:=Ext w.drew) _ _ _ _ ?_));subst F;have:=cBp G t e j m (a0:=a0) (by rw[c];exact hs) (Q:=Q) (D:=D) ord _ s N z p h u (Array.replicate os.size false) (by rw[c];exact Dn0) (by rw[c];exact hc) (.inl B) a w.drew β x;rw[c,hlen] at this;exact this
 |pl b=>
  have I:∃q:An,(∀D,AW D q)/\rgn Y TI (plT FZ) os.toList os d q s N=some z:=by
   unfold bS6 at h;cases b with
   |r a0 ord=>exact⟨.r a0 ord,(λ_=>trivial:∀D,AW D (.r a0 ord)),h⟩
   |y kb f0 a0 ord=>exact⟨.y kb f0 a0 ord,(λ_=>trivial:∀D,AW D (.y kb f0 a0 ord)),h⟩
   |_=>exact⟨.n,(λ_=>trivial:∀D,AW D .n),h⟩
  obtain⟨q,hq,I⟩:=I;exact bH5 j m G.pl hm id os d q s N X R z D p (hq D) I
 |_=>exact bH5 j m G hm id os d _ s N X R z D p J h
end
end Go.EV
namespace Go.EV
open Go.RowKit Go.VK
variable {U:Uni} {Y:Lay U} {TI:List (Nat×TInfo)} {FZ:List (Nat×Sum U)} {IL:Il} {P:Program} {g:GI} {E:Env U g}
section
variable {s:St U} {a:Act} {w w0:World} {β:List Tr}
def bTx (e:uS P TI=true)(r:bB Y.C E s a w β){f:Func}{l:List ResultVar}(j:f.results=l.toArray){ks:List Kd}{z:fM U ks}(h:fin Y TI false ks l s=some z):∃v,(results f a.tmps).run P w= .ok v w/\Rd w E.X0 [] v (jC ((bG Y ks z).map pJ)):=by
 unfold fin at h;cases h1:aK5 TI s l with
 |none=>rw[h1] at h;cases h
 |some xs=>
  rw[h1] at h;obtain⟨vs,k1,k2,k3⟩:=Wz e r h1;have hrd:=aHy r (Z:=E.X0) (λb hb=> .inl hb) ks (z:=z) h k2 k3 (.inr (bJ3 r));refine⟨_,L6 j k1,?_⟩;generalize(bG Y ks z).map pJ=Us at hrd;obtain⟨h2,d⟩:=hrd;clear k1 k2 k3 h h1
  match Us,vs,h2,d with
  |[U],[v],_,d=>exact d 0 v U rfl rfl
  |[],[],_,_=>exact .tup rfl (by simp)
  |U::U'::Us,v::n::vs,h2,d=>rw[dif_neg (by simp)];exact .tup (by simpa using h2) (λi v c k m=>d i v c (by simpa using k) m)
def bH7 {w0:World}{X0:Nat->Prop}(r:g.G w0)(q:∀b,X0 b->b<w0.heap.size){ks:List Kd}{z:fM U ks}{n:Nat}{vs:List Value}(f:RdL w0 X0 vs ((bG Y ks z).map pJ))(hn:(bG Y ks z).length<=n)(E:Env U g)(h:E.X0=X0)(i:∀b,¬E.Y0 b)(j:E.w0=w0)(k:E.pin=[])(l:E.prm=[])(o:E.fr=[]):
  bB Y.C E (ini Y n ks z) {tmps:=vs.toArray++Array.replicate (n-vs.toArray.size) undef,defers:=[]} w0 []:=by
 have hlen:vs.length=(bG Y ks z).length:=by rw[f.1,bn]
 refine⟨⟨by rw[<-j];exact Bel.refl _,rfl,by simp[ini],by simp[ini],by simp,by simp,by simp,by simp,by simp[k],by simp[l],by simp[o]⟩,rfl,?_,λm x d=> ?_⟩
 ·simp only[ini,bL,az,bn,List.length_replicate,gC,gy,Array.size_replicate,hlen]
 ·simp only[ini,bL,bn] at d;by_cases p:m<(bG Y ks z).length
  ·rw[aq (by simpa using p),bq] at d;cases hc:(bG Y ks z)[m]? with
   |none=>rw[hc] at d;cases d
   |some c=>
    rw[hc] at d;have:=ak d;subst this;have e:m<vs.length:=by omega
    have hv:(vs.toArray++Array.replicate (n-vs.toArray.size) undef).getD m undef=vs[m]:=by rw[ct,fu (by simpa using e)];simp[aa e]
    rw[hv];refine Es (aX8 (aZf ks z c (ba hc)) (f.2 m _ _ (aa e) (by rw[bq,hc];rfl)) (.inl λb hb=> ?_));rcases hb with hb|hb|⟨t,ht,_⟩
    ·rw[h] at hb;exact hb
    ·exact absurd hb (i b)
    ·simp at ht
  ·rw[ax (by rw[bn];omega)] at d;have:=ba d;simp at this;rw[this.2];trivial
theorem bWm (G:Good P g Y TI FZ)(hm:P.follows .mixedOrders=true)(p:Aw P IL){f:FuncId}{d:Func}{j:Code}{n:Nat}{l:List ResultVar}{ar rs:List Kd}{an:An}{z:fM U ar}{q:fM U rs}(t:P.funcs[f]? =some d)(hb:d.body=some j)(hn:d.ntmps=n)(hl:d.results=l.toArray)
  (u:∀args w,(callFunc f args).run P w= .ok (.enter f args) w) (hlen:(bG Y ar z).length<=n) (h:evF Y TI FZ IL an j n ar rs false l z=some q):VK.Spec P g f ((bG Y ar z).map pJ) (λv=>v=jC ((bG Y rs q).map pJ)):=by
 refine⟨u,λw X0 vs m e k=>calls_of_wp t hb ?_⟩;let E:Env U g:=⟨X0,λ_=>False,w,[],[],λb h=> .inl (e b h),λ_ h=>h.elim,λ_ _ h=>h,λw' x=>g.st w w' m (x.ext λ_ h=>h),[]⟩;have y:=bH7 (Y:=Y) m e k hlen E rfl (λ_ h=>h) rfl rfl rfl rfl;have done:∀s' c w' β',fin Y TI false rs l s'=some q->bB Y.C E s' c w' β'->c.defers=[]/\∃v,(results d c.tmps).run P w'= .ok v w'/\(∃o r,Ending.returned v= .returned o/\r=jC ((bG Y rs q).map pJ)/\Rd w' X0 [] o r/\Ext w w'):=λs' c w' β' hq r=>by
  obtain⟨v,k1,k2⟩:=bTx G.ti r hl hq;exact⟨r.defers,v,k1,v,_,rfl,rfl,k2,r.hp.ext.ext λ_ h=>h⟩
 rw[hn];exact bMl (aZn G hm p) 1000 E rfl rfl an j _ _ _ _ _ q (λ_=>True) (WC.true j) (AW.true an) h _ (λs' c w' β' _ hq r=>done s' c w' β' hq r) (λi s' c w' β' _ hq r=>by cases hq) (λs' c w' β' _ hq r=>done s' c w' β' hq r) _ _ _ y
end
end Go.EV
namespace Go.EV
open Go.RowKit Go.VK
variable {U:Uni} {Y:Lay U} {TI:List (Nat×TInfo)} {FZ:List (Nat×Sum U)} {IL:Il} {P:Program} {g:GI} {E:Env U g}
section
variable {s:St U} {a:Act} {w w0:World} {β:List Tr} {C:Cod U}
def bTy {m:Mm U}{x:Lf U}{xs:List (Lf U)}{l:List Nat}(h:aU9 m (x::xs)=some l):∃l1 l2,l=l1++l2/\aU9 m [x]=some l1/\aU9 m xs=some l2:=by
 cases x with
 |own i r=>
  grind[nth,Nat.beq,aU9,Option.some.inj]
 |sl=>cases h
 |bor=>cases h
 |inn=>cases h
 |_=>exact⟨[],l,rfl,rfl,h⟩
def bMt (H:Hp C E s.m β w){kd:Kd}{x y:Lf U}{l:List Nat}{v:Value}(h:aU9 s.m [x]=some l)(hr:rdn s.m kd x=some y)(hm:x.mean C w (E.X β) β s.m v)(hK:∀τ,kd= .sl τ->0<U.K τ):Ow C w (λ_=>False) true v y (kU β l):=by
 have j:kU β []=[]:=rfl;have flat:pE x=true->uQ s.m x=some y->l=[]->(∀τ f,y≠ .sl τ f)->Ow C w (λ_=>False) true v y (kU β l):=λo hr hl p=>by
  obtain⟨k1,k2⟩:=Qw H hm hr (Z:=λ_=>False) (λ_ h=>h.elim) (.inl o);subst hl;rw[j];cases y with
  |int k n=>obtain⟨rfl,h1,h2⟩:=k2.aAR;exact .int h1 h2
  |bool b=>obtain rfl:=k2.aAU;exact .bool
  |str z=>obtain⟨rfl,h1⟩:=k2.aAT;exact .str h1
  |sl τ f=>grind
  |_=>cases k1
 cases x with
 |own i r=>
  obtain⟨_,e,t,h2,q,u⟩:=hm;obtain⟨ob,rv,cv⟩:=e;simp only[aU9,aR,h2] at h;replace hr:uQ s.m (.own i r)=some y:=hr;simp only[uQ,aR,h2] at hr;cases ob with
  |tree τ d f=>
   simp only at h hr;cases hb:(Nat.beq rv r&&d) with
   |false=>simp_all
   |true=>
    rw[hb] at h;have:=ak h;subst this;simp only[ab] at hb;rw[hb.1] at hr;have:=ak hr;subst this;have hd:d=true:=hb.2;subst hd;rw[u (ai hb.1)];have ho:=(Hp.tree H q h2 rfl).conv (X':=λ_=>False) (ao _) (λ_ _ h=>h.elim) (λ_ _ _ h=>h) (λ_ _=>rfl)
    grind[kU]
  |_=>cases h
 |nil=>
  obtain rfl:=hm;have:=ak h;subst this;cases kd with
  |sl τ=>have:=ak (by assumption);subst this;exact .sl aP8 (hK τ rfl) (World.ownsRow_nil w 0 τ (U.K τ)) .n
  |_=>cases hr
 |int k n=>have e:=ak (by assumption);exact flat rfl hr (ak h).symm (λ_ _ e'=>by grind)
 |bool b=>have e:=ak (by assumption);exact flat rfl hr (ak h).symm (λ_ _ e'=>by grind)
 |str b=>have e:=ak (by assumption);exact flat rfl hr (ak h).symm (λ_ _ e'=>by grind)
 |nat c=>refine flat rfl hr (ak h).symm (λτ f e'=> ?_);subst e';replace hr:uQ s.m (.nat c)=some (.sl τ f):=hr;simp only[uQ] at hr;split at hr<;>cases hr
 |lt c n=>refine flat rfl hr (ak h).symm (λτ f e'=> ?_);subst e';replace hr:uQ s.m (.lt c n)=some (.sl τ f):=hr;simp only[uQ] at hr;split at hr<;>cases hr
 |sl=>cases h
 |bor=>cases h
 |inn=>cases h
 |_=>cases hr
def aZo (H:Hp C E s.m β w):∀(ks:List Kd) {xs ys:List (Lf U)} {l:List Nat} {vs:List Value},rds s.m ks xs=some ys->aU9 s.m xs=some l->Ms C w (E.X β) β s.m vs xs->(∀kd∈ks,∀τ,kd= .sl τ->0<U.K τ)->OwL C w (λ_=>False) true vs ys (kU β l)
 |[],[],ys,l,vs,h,hl,b,_=>by
  have:=ak h;subst this;have:=ak hl;subst this;have:vs=[]:=cj b.1;subst this;exact .n
 |[],_::_,_,_,_,h,_,_,_=>by cases h
 |_::_,[],_,_,_,h,_,_,_=>by cases h
 |kd::ks,x::xs,ys,l,vs,h,hl,b,hK=>by
  obtain⟨y,e,h1,h2,rfl⟩:=bMf h;obtain⟨l1,l2,rfl,f,j⟩:=bTy hl;cases vs with
  |nil=>have:=b.1;simp at this
  |cons v vs=>rw[aLa];exact .c (bMt H f h1 (b.2 0 v x rfl rfl) (hK kd (by simp))) (aZo H ks h2 j ⟨by have:=b.1;simpa using this,λi u c p q=>b.2 (i+1) u c (by simpa using p) (by simpa using q)⟩ (λd hk=>hK d (by simp[hk])))
def bRe (hY:LayOk Y)(H:Hp Y.C E s.m β w){kd:Kd}{x:Sv U}{z:kd.ty U}{v:Value}{cs:List (Lf U)}{l:List Nat}(hm:x.mean Y.C w (E.X β) β s.m v)(hp:parts x=some cs)(hl:aU9 s.m cs=some l)(h:aHs Y s.m kd x=some z)(hK:∀τ,kd= .sl τ->0<U.K τ):OwP Y.C w v (kU β l) (aKz Y kd z):=by
 have leaf:∀{y:Lf U},x= .l y->(∀T,kd≠ .st T)->(match rdn s.m kd y with|some q=>bEf kd q|none=>none)=some z->OwP Y.C w v (kU β l) (aKz Y kd z):=λ{y} c d h0=>by
  subst c;have:=ak hp;subst this;cases hr:rdn s.m kd y with
  |none=>simp_all
  |some q=>
   rw[hr] at h0;have hq:=aC2 (by assumption);have ho:=bMt H hl hr hm hK;rw[hq] at ho;cases kd with
   |st T=>simp_all
   |_=>exact⟨_,rfl,ho⟩
 cases kd with
 |st T=>
  cases x with
  |a cs'=>
   have:=ak hp;subst this;have b:(match rds s.m (Y.kd T) cs' with|some ds=>Y.C.bld T ds|none=>none)=some z:=h;cases hr:rds s.m (Y.kd T) cs' with
   |none=>simp_all
   |some ds=>rw[hr] at b;obtain⟨vs,rfl,f⟩:=hm;have ho:=aZo H _ hr hl f (λkd hk τ e=>hY.pos T τ (e▸hk));rw[Y.C.hmk T ds z b] at ho;exact⟨vs,rfl,ho⟩
  |l y=>
   have b:(match rdn s.m (Kd.st T) y with|some q=>bEf (Kd.st T) q|none=>none)=some z:=h;cases hr:rdn s.m (Kd.st T) y with
   |none=>simp_all
   |some q=>rw[hr] at b;cases q<;>cases b
  |t y=>cases h
 |int k=>cases x with
  |l y=>exact leaf rfl (by simp) h
  |_=>cases h
 |bool=>cases x with
  |l y=>exact leaf rfl (by simp) h
  |_=>cases h
 |str=>cases x with
  |l y=>exact leaf rfl (by simp) h
  |_=>cases h
 |sl τ=>cases x with
  |l y=>exact leaf rfl (by simp) h
  |_=>cases h
def bWn (hY:LayOk Y)(H:Hp Y.C E s.m β w)(ks:List Kd):∀{xs:List (Sv U)} {z:fM U ks} {vs:List Value} {l:List Nat},oZ Y s.m ks xs=some z->bS7 s.m xs=some l->vs.length=xs.length->(∀(i:Nat) (v:Value) (x:Sv U),vs[i]? =some v->xs[i]? =some x->x.mean Y.C w (E.X β) β s.m v)->(∀kd∈ks,∀τ,kd= .sl τ->0<U.K τ)->OwPs Y.C w vs (bG Y ks z) (kU β l):=by
 induction ks with
 |nil=>
  intro xs z vs l h hl hlen hm hK;cases xs with
  |nil=>have:=ak hl;subst this;have:vs=[]:=cj hlen;subst this;exact .n
  |cons=>cases h
 |cons k ks r=>
  intro xs z vs l h hl hlen hm hK;cases xs with
  |nil=>cases ks<;>cases h
  |cons x xs=>
   cases vs with
   |nil=>simp at hlen
   |cons v vs=>
    simp only[bS7] at hl;cases hp:parts x with
    |none=>simp_all
    |some cs=>
     rw[hp] at hl;simp only at hl;cases h1:aU9 s.m cs with
     |none=>simp_all
     |some l1=>
      cases h2:bS7 s.m xs with
      |none=>simp_all
      |some l2=>
       rw[h1,h2] at hl;have:=ak hl;subst this;rw[aLa];cases ks with
       |nil=>
        cases xs with
        |cons t xs=>cases h
        |nil=>have e:vs=[]:=(by grind);subst e;have:=ak h2;subst this;exact .c (bRe hY H (hm 0 v x rfl rfl) hp h1 (by assumption) (hK k (by simp))) .n
       |cons f d=>
        replace h:(match aHs Y s.m k x with|some a=>(match oZ Y s.m (f::d) xs with|some b=>some (a,b)|none=>none)|none=>none)=some (show k.ty U×fM U (f::d) from z):=h;cases j:aHs Y s.m k x with
        |none=>simp_all
        |some y=>
         cases o:oZ Y s.m (f::d) xs with
         |none=>simp_all
         |some A=>rw[j,o] at h;have:=ak h;subst this;exact .c (bRe hY H (hm 0 v x rfl rfl) hp h1 j (hK k (by simp))) (r o h2 (by simp_all) (λi u c p q=>hm (i+1) u c (by assumption) (by assumption)) (λkd hk=>hK kd (by simp[hk])))
def bTz (G:Good P g Y TI FZ)(r:bB Y.C E s a w β)(d:∀b,¬E.Y0 b){o:Func}{l:List ResultVar}(p:o.results=l.toArray){ks:List Kd}{z:fM U ks}(h:fin Y TI true ks l s=some z):∃v B,(results o a.tmps).run P w= .ok v w/\B.Nodup/\(∀b∈B,E.w0.heap.size<=b)/\OwR Y.C w v (bG Y ks z) B:=by
 unfold fin at h;cases h1:aK5 TI s l with
 |none=>simp_all
 |some xs=>
  rw[h1] at h;simp only[ae] at h;cases h2:bS7 s.m xs with
  |none=>simp_all
  |some ids=>
   rw[h2] at h;simp only at h;cases hb:(dist ids&&aYx (U:=U) ks) with
   |false=>simp_all
   |true=>
    rw[hb] at h;simp only[ae] at h;simp only[ab] at hb;obtain⟨vs,k1,k2,k3⟩:=Wz G.ti r h1;have ho:=bWn G.lay r.hp ks h h2 k2 k3 (aH0 hb.2);refine⟨_,kU β ids,L6 p k1,bJz r.hp (Qz.1 hb.1),λb e=> ?_,?_⟩
    ·obtain⟨j,_,u,q,f⟩:=Eg e;exact(r.hp.new j u b q f).1.resolve_right (d b)
    ·generalize bG Y ks z=cps at ho ⊢;generalize kU β ids=y at ho ⊢;clear h k1 k3 h2 h1 k2;cases ho with
     |n=>exact⟨[],rfl, .n⟩
     | @c v x B B' vs t hv hr=>
      cases hr with
      |n=>rw[ey];exact hv
      | @c A x2 D F vs2 xs2 i k=>rw[dif_neg (by simp)];exact⟨_,rfl, .c hv (.c i k)⟩
end
theorem bT0 (G:Good P g Y TI FZ)(hm:P.follows .mixedOrders=true)(o:Aw P IL){f:FuncId}{d:Func}{e:Code}{n:Nat}{l:List ResultVar}{ar rs:List Kd}{an:An}{z:fM U ar}{q:fM U rs}(p:P.funcs[f]? =some d)(hb:d.body=some e)(hn:d.ntmps=n)(hl:d.results=l.toArray)
  (t:∀args w,(callFunc f args).run P w= .ok (.enter f args) w) (hlen:(bG Y ar z).length<=n) (h:evF Y TI FZ IL an e n ar rs true l z=some q):cAb P g Y.C f ((bG Y ar z).map pJ) (bG Y rs q):=by
 refine⟨t,λw X0 vs k i j=>calls_of_wp p hb ?_⟩;let E:Env U g:=⟨X0,λ_=>False,w,[],[],(by simp_all),λ_ h=>h.elim,λ_ _ h=>h,λw' u=>g.st w w' k (u.ext λ_ h=>h),[]⟩;have x:=bH7 (Y:=Y) k i j hlen E rfl (λ_ h=>h) rfl rfl rfl rfl;have done:∀s' c w' β',fin Y TI true rs l s'=some q->bB Y.C E s' c w' β'->c.defers=[]/\∃v,(results d c.tmps).run P w'= .ok v w'/\(∃m B,Ending.returned v= .returned m/\Ext w w'/\B.Nodup/\(∀b∈B,w.heap.size<=b)/\OwR Y.C w' m (bG Y rs q) B):=λs' c w' β' hq r=>by
  obtain⟨v,B,k1,k2,k3,k4⟩:=bTz G r (λ_ h=>h) hl hq;exact⟨r.defers,v,k1,v,B,rfl,r.hp.ext.ext λ_ h=>h,k2,k3,k4⟩
 rw[hn];exact bMl (aZn G hm o) 1000 E rfl rfl an e _ _ _ _ _ q (λ_=>True) (WC.true e) (AW.true an) h _ (λs' c w' β' _ hq r=>done s' c w' β' hq r) (by simp) (λs' c w' β' _ hq r=>done s' c w' β' hq r) _ _ _ x
theorem bH8:∀(ks:List Kd) (z:fM U ks),(bG Y ks z).length=ks.length
 |[],_=>rfl
 |[k],_=>rfl
 |k::b::ks,z=>by
  simp[bH8,bG]
def bH9 {f:FuncId}{S:Sum U}(h:Rb P g Y f S)(G:Good P g Y TI FZ):Good P g Y TI ((f,S)::FZ):=⟨G.ti,G.lay,λf' b hm=>by
 rcases bl.1 hm with e|e
 ·simp_all
 ·exact G.fs f' b e⟩
def cBr (G:Good P g Y TI FZ)(hm:P.follows .mixedOrders=true)(e:Aw P IL){f:FuncId}{b:Func}{c:Code}{n:Nat}{l:List ResultVar}{S:Sum U}{an:fM U S.ar->An}(i:P.funcs[f]? =some b)(hb:b.body=some c)(hn:b.ntmps=n)(hl:b.results=l.toArray)
  (j:∀args w,(callFunc f args).run P w= .ok (.enter f args) w) (hlen:S.ar.length<=n) (d:S.wt=false) (h:∀a r,S.m a=some r->evF Y TI FZ IL (an a) c n S.ar S.rs S.fr l a=some r):Rb P g Y f S:=λa r hr=>by
 grind[bT0,bH8,bWm]
end Go.EV
namespace Go.EV
open Go.RowKit Go.VK
variable {U:Uni} {Y:Lay U} {TI:List (Nat×TInfo)} {FZ:List (Nat×Sum U)} {IL:Il} {P:Program} {g:GI} {E:Env U g}
section
variable {s:St U} {a:Act} {w w0:World} {β:List Tr} {C:Cod U}
def OwP.lt {v:Value}{B:List Nat}{x:Bool×List (Lf U)}(h:OwP C w v B x):∀b∈B,b<w.heap.size:=by
 obtain⟨b,cs⟩:=x;cases b with
 |true=>obtain⟨vs,_,h⟩:=h;exact h.lt
 |false=>obtain⟨c,_,h⟩:=h;exact h.lt
end
end Go.EV
namespace Go.VK
end Go.VK
namespace Go.VK
open EV (bF)
section
variable {α β σ τ:Type}
def bWo {S:Type}{F:(S->Option τ)->S->Option τ}(V:Nat->S->Prop)(N:Nat)(R:Option τ)
  (step:∀i s rec,i<N->V i s->(∃s',V (i+1) s'/\F rec s=rec s')\/F rec s=R) (last:∀s rec,V N s->F rec s=R):∀(k i n:Nat) (s:S),i+k=N->k<n->V i s->bF n F s=R
 |0,i,n+1,s,hk,hn,h=>by
  have:i=N:=by omega
  subst this;exact last s _ h
 |k+1,i,n+1,s,hk,hn,h=>by
  rcases step i s (bF n F) (by omega) h with⟨s',h1,h2⟩|h2
  ·exact h2.trans (bWo V N R step last k (i+1) n s' (by omega) (by omega) h1)
  ·exact h2
def Ae {S:Type}{F:(S->Option τ)->S->Option τ}(V:Nat->S->Prop)(N:Nat)(R:Option τ){s:S}(b:N<=18446744073709551616)(h0:V 0 s)
  (step:∀i s rec,i<N->V i s->(∃s',V (i+1) s'/\F rec s=rec s')\/F rec s=R) (last:∀s rec,V N s->F rec s=R):bF FUEL F s=R:=
 bWo V N R step last N 0 FUEL s (by omega) (by have:=fA;omega) h0
theorem bD {i n:Nat}(h:i<n):decide ((i:Int)<(n:Int))=true:=by simpa using h
def uT {n:Nat}:decide ((n:Int)<(n:Int))=false:=by simp
def bPf {c:Bool}{x y:α}(h:c=true):(bif c then x else y)=x:=by rw[h];rfl
def bEq {c:Bool}{x y:α}(h:c=false):(bif c then x else y)=y:=by rw[h];rfl
def set_mid {l r:List β}{i:Nat}{d x:β}(h:l.length=i):(l++d::r).set i x=(l++[x])++r:=by subst h;rw[ez _ _ (ao _)];simp
def cBs {a:List α}{d:β}{f:α->β}{F:(Nat×List β->Option (List β))->Nat×List β->Option (List β)}{n:Nat}(hn:n=a.length)
  (hl:a.length<=18446744073709551616)
  (c:∀rec i b,b.length=a.length->∀hi:i<a.length,F rec (i,b)=rec (i+1,b.set i (f a[i]))) (h:∀rec b,F rec (a.length,b)=some b):bF FUEL F (0,List.replicate n d)=some (a.map f):=by
 subst hn;refine Ae (λi s=>i<=a.length/\s=(i,(a.take i).map f++List.replicate (a.length-i) d)) a.length _ hl ⟨cm _,by simp⟩ (λi s rec hi hv=> ?_) (λs rec hv=> ?_)
 ·obtain⟨j,rfl⟩:=hv;refine .inl ⟨_,⟨hi,rfl⟩,?_⟩;rw[c rec i _ (by simp;omega) hi];have e:a.length-i=(a.length-(i+1))+1:=by omega
  rw[e,List.replicate_succ,set_mid (by simp;omega)];have k:a.take (i+1)=a.take i++[a[i]]:=by rw[cJ,aa hi];rfl
  rw[k,cE];rfl
 ·obtain⟨_,rfl⟩:=hv;rw[h];simp
def iE {a:List α}{d:α}{F:(Nat×List α->Option (List α))->Nat×List α->Option (List α)}{n:Nat}(hn:n=a.length)
  (hl:a.length<=18446744073709551616)
  (c:∀rec i b,b.length=a.length->∀hi:i<a.length,F rec (i,b)=rec (i+1,b.set i a[i])) (e:∀rec b,F rec (a.length,b)=some b):bF FUEL F (0,List.replicate n d)=some a:=by
 have:=cBs (f:=id) hn hl (d:=d) c e;rwa [List.map_id] at this
def pK {a:List α}{F:(Nat->Option (Bool⊕PUnit))->Nat->Option (Bool⊕PUnit)}(hl:a.length<=18446744073709551616)
  (b:∀rec i (hi:i<a.length),F rec i=rec (i+1)) (c:∀rec,F rec a.length=some (.inr ())):bF FUEL F 0=some (.inr ()):=by
 refine Ae (λi s=>s=i) a.length _ hl rfl (λi s rec hi hv=> ?_) (λs rec hv=> ?_)
 ·subst hv;exact .inl ⟨_,rfl,b rec s hi⟩
 ·subst hv;exact c rec
def bIa {f:α->Nat}{l:List α}{i:Nat}(h:i<l.length):((l.take (i+1)).map f).sum=((l.take i).map f).sum+f l[i]:=by rw[cJ,aa h,cE,List.sum_append];simp only[cX,bw,eL,dz,List.sum_nil,dg]
def dY (n:Nat)(left:Int):Int:=if (n:Int)<=left then left-n else-1
def szP (left:Int):Prop:=0<=left/\left<=1048576
instance (left:Int):Decidable (szP left):=inferInstanceAs (Decidable (_/\_))
def cBt {a:List α}{f:α->Nat}{b:Int}{F:(Int×Nat->Option (Int⊕Int))->Int×Nat->Option (Int⊕Int)}(h0:szP b)(hl:(a.length:Int)<=1048576)
  (j:∀rec i left (hi:i<a.length),szP left->F rec (left,i)=bif decide (dY (f a[i]) left<0) then some (.inl (-1)) else rec (dY (f a[i]) left,i+1)) (k:∀rec left,F rec (left,a.length)=some (.inr left)):
  nx (bF FUEL F (b,0)) (λz=>some z)=some (dY ((a.map f).sum) b):=by
 have key:∀(i:Nat),i<=a.length->(a.map f).sum=((a.take i).map f).sum+((a.drop i).map f).sum:=λi _=>by
  rw[<-List.sum_append,<-cE,cW]
 by_cases hs:((a.map f).sum:Int)<=b
 ·have:=Ae (F:=F) (s:=(b,0)) (λi s=>i<=a.length/\s=(b-(((a.take i).map f).sum:Nat),i)) a.length (some (.inr (b-((a.map f).sum:Nat)))) (by omega) ⟨cm _,by simp⟩ (λi s rec hi hv=> ?_) (λs rec hv=> ?_)
  ·rw[this];simp only[nx_r,dY,cu hs]
  ·obtain⟨e,rfl⟩:=hv;refine .inl ⟨_,⟨hi,rfl⟩,?_⟩;have h:=bIa (f:=f) hi;have hk:=key (i+1) hi;have hp:szP (b-(((a.take i).map f).sum:Nat)):=⟨by omega,by have:=h0.2;omega⟩;rw[j rec i _ hi hp];have d:dY (f a[i]) (b-(((a.take i).map f).sum:Nat))=b-(((a.take (i+1)).map f).sum:Nat):=by unfold dY;rw[cu (by omega),h];omega
   rw[d,bEq (av (by omega))]
  ·obtain⟨_,rfl⟩:=hv;rw[k,cq]
 ·have:=Ae (F:=F) (s:=(b,0)) (λi s=>i<=a.length/\s=(b-(((a.take i).map f).sum:Nat),i)/\(((a.take i).map f).sum:Int)<=b) a.length (some (.inl (-1))) (by omega) ⟨cm _,by simp,by have:=h0.1;simpa using this⟩ (λi s rec hi hv=> ?_) (λs rec hv=> ?_)
  ·rw[this];simp only[nx_l,dY,cG hs]
  ·obtain⟨e,rfl,c⟩:=hv;have h:=bIa (f:=f) hi;have hp:szP (b-(((a.take i).map f).sum:Nat)):=⟨by omega,by have:=h0.2;omega⟩;rw[j rec i _ hi hp];by_cases hq:(((a.take (i+1)).map f).sum:Int)<=b
   ·have d:dY (f a[i]) (b-(((a.take i).map f).sum:Nat))=b-(((a.take (i+1)).map f).sum:Nat):=by unfold dY;rw[cu (by omega),h];omega
    refine .inl ⟨_,⟨hi,rfl,hq⟩,?_⟩;rw[d,bEq (av (by omega))]
   ·have d:dY (f a[i]) (b-(((a.take i).map f).sum:Nat))= -1:=by unfold dY;rw[cG (by omega)]
    refine .inr ?_;rw[d];rfl
  ·obtain⟨_,_,c⟩:=hv;rw[cq] at c;exact absurd c hs
def bRf {n:Nat}{l:Int}(h:dY n l<0)(h0:0<=l):dY n l= -1/\l<n:=by
 unfold dY at*;split at h
 ·omega
 ·rename_i h1;rw[cG h1];exact⟨rfl,by omega⟩
def bRg {n:Nat}{l:Int}(h:¬dY n l<0):dY n l=l-n/\(n:Int)<=l:=by
 unfold dY at*;split at h
 ·rename_i h1;rw[cu h1];exact⟨rfl,h1⟩
 ·omega
def bRh {n m:Nat}{l:Int}(h:szP l):(bif decide (dY n l<0) then-1 else dY m (dY n l))=dY (n+m) l:=by
 by_cases hc:dY n l<0
 ·rw[bPf (au hc)];have:=(bRf hc h.1).2;unfold dY;rw[cG (by omega)]
 ·rw[bEq (av hc)];obtain⟨b,c⟩:=bRg hc;rw[b];unfold dY;by_cases hm:(m:Int)<=l-n
  ·rw[cu hm,cu (by omega)];omega
  ·rw[cG hm,cG (by omega)]
def cDh {n:Nat}{l:Int}(h:szP l)(hc:¬dY n l<0):szP (dY n l):=by obtain⟨b,c⟩:=bRg hc;rw[b];exact⟨by omega,by have:=h.2;omega⟩
theorem dC {i:Nat}:((i:Nat):Int).toNat=i:=ci i
def MkP (s c:Nat)(k:Int):Prop:=s<=1152921504606846976/\0<=k/\k+c<=4611686018427387904
instance (s c:Nat) (k:Int):Decidable (MkP s c k):=inferInstanceAs (Decidable (_/\_))
end
end Go.VK
namespace Go.VK
open EV (bF)
section
variable {α β σ τ:Type}
def dZ (n:Nat)(a b:α):Prop:=a=b/\n<=1152921504606846976
noncomputable instance (n:Nat) (a b:α):Decidable (dZ n a b):=Classical.propDecidable _
def jD (p:α->Prop)(l:List α):Prop:=l.length<=9223372036854775807/\∀y∈l,p y
def okS (s:ByteArray):Prop:=s.size<=9223372036854775807
def gJ (p:α->Prop)(a:α)(left:Int):Prop:=p a/\szP left
noncomputable instance (p:α->Prop) (a:α) (left:Int):Decidable (gJ p a left):=Classical.propDecidable _
def pM {n:Nat}(h:n<=68719476736):Qu (n:Int):=⟨by omega,by omega⟩
theorem dU {f:α->Nat}{l:List α}{i:Nat}(hi:i<l.length):f l[i]<=(l.map f).sum:=by
 have:f l[i]∈l.map f:=cz.2 ⟨_,cx hi,rfl⟩;induction l generalizing i with
 |nil=>simp at hi
 |cons x l c=>
  cases i with
  |zero=>simp
  |succ i=>
   have b:i<l.length:=by simpa using hi
   have:=c b (cz.2 ⟨_,cx b,rfl⟩);simp only[bw,dz,fR];omega
def aQg {a:List α}{f:α->Nat}{b:Int}{p:α->Prop}{F:(Int×Nat->Option (Int⊕Int))->Int×Nat->Option (Int⊕Int)}(h:gJ (jD p) a b)
  (d:∀rec i left (hi:i<a.length),gJ p a[i] left->F rec (left,i)=bif decide (dY (f a[i]) left<0) then some (.inl (-1)) else rec (dY (f a[i]) left,i+1)) (e:∀rec left,F rec (left,a.length)=some (.inr left)):
  (bif decide (IntKind.i64.wrap (b-(a.length:Int))<0) then some (-1:Int) else nx (bF FUEL F (IntKind.i64.wrap (b-(a.length:Int)),0)) λz=>some z)=some (dY (a.length+(a.map f).sum) b):=by
 obtain⟨⟨h1,h2⟩,c⟩:=h;have j:IntKind.i64.wrap (b-(a.length:Int))=b-(a.length:Int):=aI (by have:=c.1;omega) (by have:=c.2;omega);rw[j];by_cases hc:b-(a.length:Int)<0
 ·rw[bPf (au hc)];unfold dY;rw[cG (by omega)]
 ·rw[bEq (av hc)];have hp:szP (b-(a.length:Int)):=⟨by omega,by have:=c.2;omega⟩;rw[cBt hp (by have:=c.2;omega) (λrec i left hi hl=>d rec i left hi ⟨h2 _ (cx hi),hl⟩) e];unfold dY;by_cases hm:((a.map f).sum:Int)<=b-a.length
  ·rw[cu hm,cu (by omega)];congr 1;omega
  ·rw[cG hm,cG (by omega)]
def Ql {n:Nat}{b:Int}(h1:n<=9223372036854775807)(c:szP b):(bif decide (IntKind.i64.wrap (b-(n:Int))<0) then some (-1:Int) else some (IntKind.i64.wrap (b-(n:Int))))=some (dY n b):=by
 have d:IntKind.i64.wrap (b-(n:Int))=b-(n:Int):=aI (by have:=c.1;omega) (by have:=c.2;omega);rw[d];by_cases hc:b-(n:Int)<0
 ·rw[bPf (au hc)];unfold dY;rw[cG (by omega)]
 ·rw[bEq (av hc)];unfold dY;rw[cu (by omega)]
def bEr {n m:Nat}{l:Int}{X:Option Int}(h:szP l)(hK:szP (dY n l)->X=some (dY m (dY n l))):(bif decide (dY n l<0) then some (-1) else X)=some (dY (n+m) l):=by
 by_cases hc:dY n l<0
 ·rw[bPf (au hc),<-bRh h,bPf (au hc)]
 ·rw[bEq (av hc),hK (cDh h hc),<-bRh h,bEq (av hc)]
def Yh {n:Nat}{l:Int}(h:szP l):(bif decide (dY n l<0) then some (-1) else some (dY n l))=some (dY n l):=by
 by_cases hc:dY n l<0
 ·rw[bPf (au hc),(bRf hc h.1).1]
 ·rw[bEq (av hc)]
end
end Go.VK
namespace Go.VK
def cDj {n m:Nat}{l:Int}{X:Option Int}(h:szP l)(hK:szP (l-(n:Int))->X=some (dY m (l-(n:Int)))):(bif decide (l-(n:Int)<0) then some (-1) else X)=some (dY (n+m) l):=by
 by_cases hc:l-(n:Int)<0
 ·rw[bPf (au hc)];unfold dY;rw[cG (by omega)]
 ·have hp:szP (l-(n:Int)):=⟨by omega,by have:=h.2;omega⟩;rw[bEq (av hc),hK hp];unfold dY;by_cases hm:(m:Int)<=l-n
  ·rw[cu hm,cu (by omega)];congr 1;omega
  ·rw[cG hm,cG (by omega)]
end Go.VK
namespace Go.VK
open EV (bF)
section
variable {α β σ τ:Type}
def kN {l:List α}(p:α->Bool)(a b:τ){F:(Nat->Option τ)->Nat->Option τ}(hl:l.length<=18446744073709551616)
  (d:∀rec i (hi:i<l.length),F rec i=bif p l[i] then some a else rec (i+1)) (e:∀rec,F rec l.length=some b):bF FUEL F 0=some (bif l.any p then a else b):=by
 have key:∀i (hi:i<l.length),p l[i]=true->l.any p=true:=λi hi h=>fi.2 ⟨_,cx hi,h⟩;refine Ae (λi s=>i<=l.length/\s=i/\(l.take i).any p=false) l.length _ hl ⟨cm _,rfl,rfl⟩ (λi s rec hi hv=> ?_) (λs rec hv=> ?_)
 ·obtain⟨_,rfl,c⟩:=hv;rw[d rec s hi];cases hp:p l[s] with
  |true=>exact .inr (by rw[key s hi hp];rfl)
  |false=>exact .inl ⟨_,⟨hi,rfl,by rw[cJ,aa hi,ie,c];simp[hp]⟩,rfl⟩
 ·obtain⟨_,rfl,c⟩:=hv;rw[cq] at c;rw[e,c];rfl
def fI {l:List α}(p:Nat->α->Bool)(a b:τ){F:(Nat->Option τ)->Nat->Option τ}(hl:l.length<=18446744073709551616)
  (f:∀rec i (hi:i<l.length),F rec i=bif p i l[i] then some a else rec (i+1)) (k:∀rec,F rec l.length=some b):bF FUEL F 0=some (bif dR p 0 l then a else b):=by
 have key:∀(l:List α) (j:Nat),dR p j l=true↔∃(i:Nat) (hi:i<l.length),p (j+i) l[i]=true:=by
  intro l;induction l with
  |nil=>intro j;simp[dR]
  |cons x xs m=>
   intro j;simp only[dR,ck,m];constructor
   ·rintro(h|⟨i,hi,h⟩)
    ·exact⟨0,by simp,h⟩
    ·exact⟨i+1,by simpa using hi,by rw[show j+(i+1)=j+1+i by omega];exact h⟩
   ·rintro⟨i,hi,h⟩;cases i with
    |zero=>exact .inl h
    |succ i=>exact .inr ⟨i,by simpa using hi,by rw[show j+1+i=j+(i+1) by omega];exact h⟩
 refine Ae (λi s=>i<=l.length/\s=i/\∀(j:Nat) (d:j<l.length),j<i->p j l[j]=false) l.length _ hl ⟨cm _,rfl,λj _ h=>by omega⟩ (λi s rec hi hv=> ?_) (λs rec hv=> ?_)
 ·obtain⟨_,rfl,c⟩:=hv;rw[f rec s hi];cases hp:p s l[s] with
  |true=>exact .inr (by rw[(key l 0).2 ⟨s,hi,by rw[cl];exact hp⟩];rfl)
  |false=>
   refine .inl ⟨_,⟨hi,rfl,λj d h=> ?_⟩,rfl⟩;rcases eu j s with e|e
   ·exact c j d e
   ·have:j=s:=by omega
    subst this;exact hp
 ·obtain⟨_,rfl,c⟩:=hv;have:dR p 0 l=false:=by
   cases h:dR p 0 l with
   |false=>rfl
   |true=>obtain⟨i,hi,hp⟩:=(key l 0).1 h;rw[cl,c i hi hi] at hp;cases hp
  rw[k,this];rfl
def L8 {l:List α}(p:α->Bool){F:(Nat->Option (Int⊕PUnit))->Nat->Option (Int⊕PUnit)}(hl:l.length<=18446744073709551616)
  (b:∀rec i (hi:i<l.length),F rec i=bif p l[i] then some (.inl (i:Int)) else rec (i+1)) (c:∀rec,F rec l.length=some (.inr ())):nx (bF FUEL F 0) (λ_=>some (-1:Int))=some (jP p 0 l):=by
 have go:∀(k i n:Nat),i+k=l.length->k<n->nx (bF n F i) (λ_=>some (-1:Int))=some (jP p i (l.drop i)):=by
  intro k;induction k with
  |zero=>
   intro i n hk hn;obtain⟨n,rfl⟩:∃m,n=m+1:=⟨n-1,by omega⟩;have:i=l.length:=by omega
   subst this;rw[show bF (n+1) F l.length=F (bF n F) l.length from rfl,c,dk];rfl
  |succ k d=>
   intro i n hk hn;obtain⟨n,rfl⟩:∃m,n=m+1:=⟨n-1,by omega⟩;have hi:i<l.length:=by omega
   rw[show bF (n+1) F i=F (bF n F) i from rfl,b _ i hi,cF hi,jP];cases p l[i] with
   |true=>rfl
   |false=>exact d (i+1) n (by omega) (by omega)
 exact go l.length 0 FUEL (by omega) (by have:=fA;omega)
def gW {l:List α}(g:σ->α->σ)(Inv:Nat->σ->Prop)(fin:σ->Option τ){s0:σ}{F:(σ×Nat->Option τ)->σ×Nat->Option τ}(hl:l.length<=18446744073709551616)(h0:Inv 0 s0)
  (c:∀i s (hi:i<l.length),Inv i s->Inv (i+1) (g s l[i])) (d:∀rec i s (hi:i<l.length),Inv i s->F rec (s,i)=rec (g s l[i],i+1)) (f:∀rec s,Inv l.length s->F rec (s,l.length)=fin s):bF FUEL F (s0,0)=fin (l.foldl g s0):=by
 refine Ae (λi s=>i<=l.length/\s=((l.take i).foldl g s0,i)/\Inv i s.1) l.length _ hl ⟨cm _,rfl,h0⟩ (λi s rec hi hv=> ?_) (λs rec hv=> ?_)
 ·obtain⟨_,rfl,b⟩:=hv;have e:(l.take (i+1)).foldl g s0=g ((l.take i).foldl g s0) l[i]:=by rw[cJ,aa hi,fc];rfl
  refine .inl ⟨_,⟨hi,rfl,by rw[e];exact c i _ hi b⟩,?_⟩;rw[d rec i _ hi b,e]
 ·obtain⟨_,rfl,b⟩:=hv;rw[f rec _ b,cq]
def bIb {l:List α}(g:σ->α->σ)(Inv:Nat->σ->Prop)(fin:σ->Option τ){s0:σ}{F:(Nat×σ->Option τ)->Nat×σ->Option τ}(hl:l.length<=18446744073709551616)(h0:Inv 0 s0)
  (c:∀i s (hi:i<l.length),Inv i s->Inv (i+1) (g s l[i])) (d:∀rec i s (hi:i<l.length),Inv i s->F rec (i,s)=rec (i+1,g s l[i])) (f:∀rec s,Inv l.length s->F rec (l.length,s)=fin s):bF FUEL F (0,s0)=fin (l.foldl g s0):=by
 refine Ae (λi s=>i<=l.length/\s=(i,(l.take i).foldl g s0)/\Inv i s.2) l.length _ hl ⟨cm _,rfl,h0⟩ (λi s rec hi hv=> ?_) (λs rec hv=> ?_)
 ·obtain⟨_,rfl,b⟩:=hv;have e:(l.take (i+1)).foldl g s0=g ((l.take i).foldl g s0) l[i]:=by rw[cJ,aa hi,fc];rfl
  refine .inl ⟨_,⟨hi,rfl,by rw[e];exact c i _ hi b⟩,?_⟩;rw[d rec i _ hi b,e]
 ·obtain⟨_,rfl,b⟩:=hv;rw[f rec _ b,cq]
def aQh {f:α->List β}:∀{l:List α} {s:List β},l.foldl (λs x=>s++f x) s=s++(l.map f).flatten
 |[],s=>by simp
 |x::l,s=>by simp only[db,aQh (l:=l),bw,cM,cw]
def aQi {f:α->β}:∀{l:List α} {s:List β},l.foldl (λs x=>s++[f x]) s=s++l.map f
 |[],s=>by simp
 |x::l,s=>by simp only[db,aQi (l:=l),bw,cw,List.singleton_append]
end
end Go.VK
namespace Go.VK
def RdA (w:World)(X:Nat->Prop):List V->Prop
 |[]=>True
 |c::cs=>(∃v,Rd w X [] v c)/\RdA w X cs
section
variable {w:World} {X:Nat->Prop}
def RdA.of:∀{cs:List V},(∀(i:Nat) (c:V),cs[i]? =some c->∃v,Rd w X [] v c)->RdA w X cs
 |[],_=>trivial
 |c::cs,h=>⟨h 0 c rfl,RdA.of λi d hd=>h (i+1) d (by simpa using hd)⟩
def RdA.ofL {vs:List Value}{Us:List V}(h:RdL w X vs Us):RdA w X Us:=RdA.of λi c hc=>by
 have hi:i<vs.length:=by rw[h.1];exact(bf.1 hc).1
 exact⟨vs[i],h.2 i vs[i] c (aa hi) hc⟩
def RdA.agg {cs:List V}(h:∃v,Rd w X [] v (.agg cs)):RdA w X cs:=by
 obtain⟨v,h⟩:=h;obtain⟨vs,rfl,hs,hr⟩:=Rd.aAZ h;exact RdA.of λi c hc=>by
  have hi:i<vs.size:=by rw[hs];exact(bf.1 hc).1
  exact⟨vs[i],hr i vs[i] c (cL hi) hc⟩
def bKc {s:ByteArray}(h:∃v,Rd w X [] v (.str s)):okS s:=by obtain⟨v,h⟩:=h;exact(Rd.aAT h).2
def mY {α:Type}{k:Nat}{enc:α->List V}{l:List α}{p:α->Prop}(h:∃v,Rd w X [] v (.slice k (l.map enc)))(hp:∀y,RdA w X (enc y)->p y):jD p l:=by
 obtain⟨v,h⟩:=h;refine⟨?_,λy b=>hp y ?_⟩
 ·obtain⟨A,c,rfl,h1,h2⟩:=h.aBA;rw[bn] at h1;exact bo h1 h2
 ·obtain⟨i,hi,rfl⟩:=du.1 b;generalize he:l.map enc=es at h;cases h with
  |slice0 h=>simp at he;subst he;simp at hi
  |slice hn hpos hc hm hX hb hk hcell hrd=>exact RdA.of λj d hd=>⟨_,hrd i j (enc l[i]) d (by rw[<-he,bq,aa hi];rfl) hd⟩
end
def bY6 {P:Program}{g:GI}{f:FuncId}{Us:List V}{R:V->Prop}{p:Prop}(he:∀args w,(callFunc f args).run P w= .ok (.enter f args) w)(h:p->Spec P g f Us R)(hp:∀w X,RdA w X Us->p):Spec P g f Us R:=
 ⟨he,λw X vs hg hX b=>(h (hp w X (RdA.ofL b))).2 w X vs hg hX b⟩
end Go.VK
namespace Go.VK
def cDk (n:Nat):GI where
 G w:=∃m,w.cell? ⟨n,0,none⟩=some (.int .i64 m)
 st _ _ h he:=by obtain⟨m,hm⟩:=h;exact⟨m,he.cell hm⟩
def aUh (sep:ByteArray):∀(k:Nat) (s l:ByteArray),l∈Lib.splitB sep 0 k s->l.size<=s.size
 |0,s,l,h=>by
  rw[Lib.splitB_zero] at h;rw[dh.1 h];exact ao _
 |k+1,s,l,h=>by
  unfold Lib.splitB at h;split at h
  ·rw[dh.1 h];exact ao _
  ·rcases bl.1 h with rfl|h
   ·exact ext_size _ _ _
   ·exact bo (aUh sep k _ l h) (ext_size _ _ _)
def bRi:∀(l:List UInt8) (c:UInt8),Lib.indexByte l c<=l.length
 |[],_=>by show(-1:Int)<=_;simp
 |b::l,c=>by
  have:=bRi l c;simp only[Lib.indexByte,aw];split
  ·omega
  ·split
   ·omega
   ·push_cast;omega
def bPg {P:Program}{g:GI}{F:FuncId}(i:∀args w,(callFunc F args).run P w= .ok (.enter F args) w)(j:∀(s:ByteArray) (c:UInt8) (w:World),Calls P F #[.string s, .string ⟨#[c]⟩] w λe w'=>e= .returned (.int .i64 (Lib.indexByte s.data.toList c))/\w'=w)
  (s sep:ByteArray) (h:sep.size=1):Spec P g F [.str s, .str sep] (λr=>r= .int .i64 (Lib.indexByte s.data.toList (sep.data.toList.getD 0 0))):=by
 refine⟨i,λw X0 vs o k b=> ?_⟩;obtain⟨v,u,rfl⟩:∃v u,vs=[v,u]:=by
  match vs,b.1 with
  |[v,u],_=>exact⟨v,u,rfl⟩
 obtain⟨rfl,f⟩:=(b.2 0 v _ rfl rfl).aAT;obtain⟨rfl,m⟩:=(b.2 1 u _ rfl rfl).aAT;have d:(⟨#[sep.data.toList.getD 0 0]⟩:ByteArray)=sep:=by
  obtain⟨⟨l⟩⟩:=sep
  match l,h with
  |[c],_=>rfl
 have hc:=j s (sep.data.toList.getD 0 0) w;rw[d] at hc;refine hc.mono ?_;rintro e w' ⟨rfl,rfl⟩;have h1:=Lib.indexByte_ge s.data.toList (sep.data.toList.getD 0 0);have h2:=bRi s.data.toList (sep.data.toList.getD 0 0);have p:s.data.toList.length=s.size:=cT;have n:s.size<=9223372036854775807:=bo f (by decide);exact⟨_,_,rfl,rfl, .int (by rw[show IntKind.i64.min= -9223372036854775808 by decide];omega) (by rw[show IntKind.i64.max=9223372036854775807 by decide];omega),Ext.refl _⟩
def bPh {P:Program}{F:FuncId}{T n:Nat}(x:∀args w,(callFunc F args).run P w= .ok (.enter F args) w)
  (y:∀(s sep:ByteArray) (m:Int) (w:World),s.size<4294967281->w.cell? ⟨n,0,none⟩=some (.int .i64 m)->1<=sep.size->Calls P F #[.string s, .string sep] w λe w'=>
   e= .returned (.slice (some ⟨w.heap.size,0,none⟩) (Lib.countB s sep+1) (Lib.countB s sep+1))/\w'=w.alloc (.cells ((Lib.splitB sep 0 (Lib.countB s sep) s).map Value.string).toArray T))
  (s sep:ByteArray) (h1:s.size<4294967281) (h2:1<=sep.size):Spec P (cDk n) F [.str s, .str sep] (λr=>r= .slice 1 ((kT s sep).map sV)):=by
 refine⟨x,λw X0 vs z p c=> ?_⟩;obtain⟨v,u,rfl⟩:∃v u,vs=[v,u]:=by
  match vs,c.1 with
  |[v,u],_=>exact⟨v,u,rfl⟩
 obtain⟨rfl,A⟩:=(c.2 0 v _ rfl rfl).aAT;obtain⟨rfl,B⟩:=(c.2 1 u _ rfl rfl).aAT;obtain⟨m,hm⟩:=z;refine(y s sep m w h1 hm h2).mono ?_;rintro e w' ⟨rfl,rfl⟩;have hl:(kT s sep).length=Lib.countB s sep+1:=Lib.splitB_all sep h2 0 _ s rfl;have hn:Lib.countB s sep+1=((kT s sep).map sV).length:=by rw[bn];exact hl.symm
 have t:Lib.countB s sep<=s.size+1:=Lib.count_le s.data.toList sep.data.toList;have hsz:∀l∈kT s sep,l.size<=s.size:=λl h=>aUh sep _ s l h;refine⟨_,_,rfl,rfl,?_,Ext.alloc w _⟩;have b:∀(i j:Nat) (e:List V) (d:V),((kT s sep).map sV)[i]? =some e->e[j]? =some d->∃l,(kT s sep)[i]? =some l/\j=0/\d= .str l:=by
  intro i j e d f k;rw[bq] at f;obtain⟨l,hl,rfl⟩:=dx.1 f;cases j with
  |zero=>exact⟨l,hl,rfl,by simpa[sV] using k.symm⟩
  |succ j=>simp[sV] at k
 refine .slice (val:=λi j=> .string ((kT s sep).getD i ⟨#[]⟩)) hn (by rw[<-hn];omega) (ao _) (by unfold maxLen;omega) (λq=>by have:=p _ q;simp at this) (by simp)
  (λe he=>by obtain⟨l,_,rfl⟩:=cz.1 he;rfl) (λi j e d f k=> ?_) (λi j e d f k=> ?_)
 ·obtain⟨l,o,rfl,rfl⟩:=b i j e d f k;rw[fT,cl,Nat.mul_one,dg];have D:(Lib.splitB sep 0 (Lib.countB s sep) s)[i]? =some l:=o;rw[World.cell?_alloc_new];simp[List.getD,o,D]
 ·obtain⟨l,o,rfl,rfl⟩:=b i j e d f k;have:=hsz l (ba o);have G:(kT s sep).getD i ⟨#[]⟩=l:=by simp[List.getD,o]
  rw[G];exact .str (by unfold maxLen;omega)
end Go.VK
namespace Go
variable {H:Type} {enc:TypeId×Value->H}
def VK.aBS {a:Assume}{C:Checked}{os:Os}{f:FuncId}{b:Func}{s:ChangeSpec}{conds:List PathCond}{apart fresh handsOn again:Bool}{X:World->Array Value->Prop}
  (hX:∀(w w':World) (args:Array Value),w.heap=w'.heap->X w args->X w' args)
  (own:ownKnob C.prog.godebug=none) (started:os.Started) (noInit:C.prog.inits.idxOf? f=none) (l:C.prog.funcs[f]? =some b)
  (witness:∃(w:World) (tape:Tape) (i:Input),w.os=os/\(w.forCall tape i).Shaped C.prog/\i.vars=[]/\Input.okWide C.prog (w.forCall tape i) .any w.heap.size f i/\
   ((s.pre enc C.prog b conds apart (w.forCall tape i).memory i.args/\X (w.forCall tape i).memory i.args)/\sizedMet enc C.prog b (OpenSpec.ofChange s) apart (w.forCall tape i).memory i.args)/\a.holds C.prog (lone (Frame.enter C.prog f i.args .normal) [] (w.forCall tape i)))
  (contract:∀(W:World) (base:Nat) (args:Array Value) (ds m:List (DataW H)) (before:List MemPlace),
   (∀(j:Nat) t v,b.params[j]? =some t->args[j]? =some v->Value.okWide C.prog W .any base t v)->
   DataW.Whole enc C.prog b.params.toList s.vars apart W args.toList ds m before->
   X W args->W.ShapedOpen C.prog->
   Calls C.prog f args W λe r=>∃v,e= .returned v/\s.post enc C.prog b apart fresh handsOn again W args v r):
  ReturnsInHanded a C os f .any (λw args=>(s.pre enc C.prog b conds apart w args/\X w args)/\sizedMet enc C.prog b (OpenSpec.ofChange s) apart w args) (s.post enc C.prog b apart fresh handsOn again):=by
 refine returnsInHanded_of_calls own started noInit witness ?_;intro w tape i _ n _ o c k;obtain⟨_,_,_,p,d,_,_,_,_,h⟩:=o;have e:p=b:=ak (d.symm.trans l);subst e;obtain⟨⟨⟨ds,m,before,u,hc⟩,x⟩,y⟩:=c;have q:=DataW.Whole.of_heap (w':=w.forCall tape i) (by rfl) u;refine(contract (w.forCall tape i) w.heap.size i.args ds m before h q (hX _ _ _ (by rfl) x) n).mono λe r ⟨v,he,hp⟩=> ?_;subst he;exact ChangeSpec.post_blind hp
end Go

