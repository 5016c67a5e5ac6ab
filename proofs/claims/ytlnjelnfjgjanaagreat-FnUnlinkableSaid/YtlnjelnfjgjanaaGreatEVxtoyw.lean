import Derived.Test.YtlnjelnfjgjanaaGreatEVrptow
import Derived.Test.YtlnjelnfjgjanaaGreatVKatog
/-
  THE EVALUATOR's KIT, twenty-fourth part: joins. Plain theorems over any program; the conditions stand in each.
-/
set_option linter.unusedVariables false
set_option linter.unusedSimpArgs false
namespace Go.EV
open Go.RowKit Go.VK
variable {U:Uni} {Y:Lay U} {P:Program} {g:GI} {E:Env U g}
section
variable {b s:St U} {a a0:Act} {w w0:World} {β β0:List Tr}
theorem Dv {tm:Tm}{d:Dat U tm.it}(h:col Y b tm s=some d):∃q,Wz s tm.it=some q∧gets Y s tm.it=some d∧slI tm.ws tm.it=true∧aRj tm.aBQ tm.dead b.m.k 0 b.m.o s.m.o=true∧aVm b.m.o.length tm.dead (xC q)=true∧(xC q).Nodup∧(gD tm.it).Nodup∧aVn b.m.o.length (gD tm.it)=true:=by
 unfold col at h
 cases hq:Wz s tm.it with
 |none=>rw[hq] at h;cases h
 |some q=>
  rw[hq] at h
  simp only at h
  cases hb:(slI tm.ws tm.it&&(aRj tm.aBQ tm.dead b.m.k 0 b.m.o s.m.o&&(aVm (len b.m.o) tm.dead (xC q)&&(dist (xC q)&&(dist (gD tm.it)&&aVn (len b.m.o) (gD tm.it)))))) with
  |false=>rw[hb] at h;cases h
  |true=>
   rw[hb] at h
   simp only[cond_true] at h
   simp only[Bool.and_eq_true,bC] at hb
   obtain⟨h1,h2,h3,h4,h5,h6⟩:=hb
   exact⟨q,rfl,h,h1,h2,h3,vK.1 h4,vK.1 h5,h6⟩
theorem aLl {N:Nat}{dd:List Nat}:∀{l:List Nat},aVm N dd l=true→∀i∈l,N≤i∨i∈dd
 |[],_,i,h=>by simp at h
 |x::l,h,i,hi=>by
  simp only[aVm,Bool.and_eq_true,Bool.or_eq_true] at h
  rcases List.mem_cons.1 hi with rfl|hi
  ·exact h.1.imp Nat.le_of_ble_eq_true kS.1
  ·exact aLl h.2 i hi
theorem aLm {N:Nat}:∀{l:List Nat},aVn N l=true→∀i∈l,i<N
 |[],_,i,h=>by simp at h
 |x::l,h,i,hi=>by
  simp only[aVn,Bool.and_eq_true] at h
  rcases List.mem_cons.1 hi with rfl|hi
  ·exact Nat.le_of_ble_eq_true h.1
  ·exact aLm h.2 i hi
theorem aR1 {C:Cod U}{X:Nat→Prop}{m:Mm U}{v:Value}{x:Sv U}{i:Nat}(hm:x.mean C w X β m v)(h:aYp m x=some i):v= .int .i64 (i:Int)∧(i:Int)≤9223372036854775807:=by
 unfold aYp at h
 split at h
 ·obtain⟨i',f,h1,h2,h3⟩:=hm
  rw[aP,h1] at h
  have:=Option.some.inj h;subst this;exact⟨h2,h3⟩
 ·rename_i n
  obtain⟨h1,_,_⟩:=hm
  cases hn:decide (n=0) with
  |false=>rw[hn] at h;cases h
  |true=>
   rw[hn] at h
   have h:=Option.some.inj h
   have:=of_decide_eq_true hn
   subst this;subst h
   exact⟨h1,by simp⟩
 ·cases h
theorem aBa {C:Cod U}{m:Mm U}{X:Nat→Prop}{τ:Nat}{d:Bool}{v:Value}{x:Sv U}{q:Option Nat×List (U.El τ)}(hm:x.mean C w X β m v)(h:sU m τ d x=some q):v.oneCell'=true∧v=(iR β q.1).val:=by
 unfold sU at h
 split at h
 ·obtain rfl:=hm
  cases hb:Nat.ble 1 (U.K τ) with
  |false=>rw[hb] at h;cases h
  |true=>
   rw[hb] at h
   have:=Option.some.inj h;subst this
   exact⟨rfl,rfl⟩
 ·rename_i i r
  obtain⟨h1,e,t,h2,h3,h4⟩:=hm
  rw[aP,h2] at h
  obtain⟨ob,rv,cv⟩:=e
  cases ob with
  |tree τ' d' l=>
   simp only at h
   cases hb:(Nat.beq rv r&&(d'|| !d)) with
   |false=>rw[hb] at h;cases h
   |true=>
    rw[hb] at h
    simp only[cond_true] at h
    cases hq:I7 τ τ' l with
    |none=>rw[hq] at h;cases h
    |some l'=>
     rw[hq] at h
     have:=Option.some.inj h;subst this
     simp only[Bool.and_eq_true] at hb
     refine⟨h1.2,?_⟩
     rw[h4 (Nat.eq_of_beq_eq_true hb.1)];simp[iR,h3]
  |_=>cases h
 ·cases h
theorem LV.ren {N M K:Nat}{σ:List (Option Nat)}{o:List (EO U)}(hlen:σ.length=o.length)(hs:∀(j:Nat) (q:Option Nat) (e':EO U),σ[j]? =some q→o[j]? =some e'→Src N M K s.m q j e')(r:aZ Y.C E s a w β){l:Lo}{v:Value}(h:LV a w β s.m.o l v):LV a w (σ.map (iR β)) o l v:=by
 cases l with
 |s n=>exact h
 |c bb j=>
  intro e' he' hbx
  have hl:bb<σ.length:=by rw[hlen];exact lt_of_some he'
  have hq:σ[bb]? =some σ[bb]:=List.getElem?_eq_getElem hl
  have done:∀e:EO U,σ[bb]=some bb→s.m.o[bb]? =some e→e.ob.aAX=true→∃t blk vals T,(σ.map (iR β))[bb]? =some t∧t.b=some blk∧w.heap[blk]? =some (.cells vals T (0,0))∧vals[j]? =some v:=fun e hq' he hb=>by
   obtain⟨t,blk,vals,T,h1,h2,h3,h4⟩:=h e he hb
   exact⟨t,blk,vals,T,by rw[List.getElem?_map,hq,hq'];simp[iR,h1],h2,h3,h4⟩
  cases hs bb _ e' hq he' with
  |keep hq' he _=>exact done e' hq' he hbx
  |box hq' he h1 h2 _ _ _ _=>exact done _ hq' he (by rw[h1];rfl)
  |dead h' _=>rw[h'] at hbx;cases hbx
  |tree _ _ _ _ h' _=>rw[h'] at hbx;cases hbx
  |ti _ _ _ _ h' _ _=>rw[h'] at hbx;cases hbx
  |nil _ h' _ _=>rw[h'] at hbx;cases hbx
theorem aLn (r:aZ Y.C E s a w β){k:Nat}{σ:List (Option Nat)}{o:List (EO U)}{u:St U}(huo:u.m.o=o)(huk:k≤u.m.k)(hX:∀b,E.X (σ.map (iR β)) b→E.X β b)(hfree:∀x:Nat,True)
  (hlv:∀(l:Lo) (v:Value),LV a w β s.m.o l v→LV a w (σ.map (iR β)) o l v):∀(xs:List DI) (n:Nat) (d:Dat U xs),gets Y s xs=some d→Plc k σ o s n xs→IF Y E k u a w (σ.map (iR β)) n xs d
 |[],_,_,_,_=>trivial
 | .dat l kd::xs,n,d,hg,hp=>by
  obtain⟨g1,g2⟩:=kD hg
  refine⟨?_,aLn r huo huk hX hfree hlv xs n (Dtl d) g2 hp⟩
  simp only[aM2] at g1
  cases hl:lkp s l with
  |none=>rw[hl] at g1;cases g1
  |some x=>
   rw[hl] at g1
   simp only at g1
   cases hf:aEe x with
   |false=>rw[hf] at g1;cases g1
   |true=>
    rw[hf] at g1
    obtain⟨v,h1,h2⟩:=Xn r hl
    exact⟨v,by rw[huo];exact hlv l v h1,aV2 r h2 g1 hX (.inl hf)⟩
 | .ti i τ bb::xs,n,d,hg,hp=>⟨trivial,aLn r huo huk hX hfree hlv xs n (Dtl d) (kD hg).2 hp⟩
 | .nat l::xs,n,d,hg,hp=>by
  obtain⟨g1,g2⟩:=kD hg
  refine⟨?_,aLn r huo huk hX hfree hlv xs n (Dtl d) g2 hp⟩
  simp only[aM2] at g1
  cases hl:lkp s l with
  |none=>rw[hl] at g1;cases g1
  |some x=>
   rw[hl] at g1
   obtain⟨v,h1,h2⟩:=Xn r hl
   obtain⟨q1,q2⟩:=aR1 h2 g1
   exact⟨v,by rw[huo];exact hlv l v h1,_,rfl,q1,q2⟩
 | .tr l i τ bb::xs,n,d,hg,⟨⟨v,q,e,p1,p2,p3,p4,p5⟩,hp⟩=>by
  obtain⟨g1,g2⟩:=kD hg
  refine⟨?_,aLn r huo huk hX hfree hlv xs n (Dtl d) g2 hp⟩
  obtain⟨v',h1,h2⟩:=Xn r p1
  obtain⟨k1,k2⟩:=aBa h2 p2
  exact⟨v',by rw[huo];exact hlv l v' h1,⟨huk,k1⟩,e,iR β q.1,by rw[huo];exact p4,by rw[List.getElem?_map,p3];rfl,fun _=>k2⟩
 | .nt l τ bb::xs,n,d,hg,⟨⟨v,q,e,p1,p2,p3,p4,p5⟩,hp⟩=>by
  obtain⟨g1,g2⟩:=kD hg
  refine⟨?_,aLn r huo huk hX hfree hlv xs (Nat.succ n) (Dtl d) g2 hp⟩
  obtain⟨v',h1,h2⟩:=Xn r p1
  obtain⟨k1,k2⟩:=aBa h2 p2
  exact⟨v',by rw[huo];exact hlv l v' h1,⟨huk,k1⟩,e,iR β q.1,by rw[huo];exact p4,by rw[List.getElem?_map,p3];rfl,fun _=>k2⟩
theorem uW (hE:E.fr=[])(rb:aZ Y.C E b a0 w0 β0)(r:aZ Y.C E s a w β){tm:Tm}(hag:Ag (fun n=>Dc tm.ws 0 n=true) b s){d:Dat U tm.it}(h:col Y b tm s=some d):∃β',aZ Y.C E (reb Y b tm d) a w β':=by
 obtain⟨q,c1,c2,_,c3,c4,c5,c6,c7⟩:=Dv h
 have hI:=inv0 rb hag.m c3
 have hol:(Gf (Nat.succ b.m.k) tm.aBQ (Nn (Nat.succ b.m.k) tm.dead b.m.o)).length=b.m.o.length:=by rw[Ih,Dm]
 obtain⟨i1,i2,_⟩:=Ah (Nat.lt_succ_self _) tm.it q d _ _ c1 c2 hI (fun i hi j hj=>by
  obtain⟨g1,g2⟩:=aDo hj
  rcases g2 with⟨_,g2⟩|⟨g3,g2⟩
  ·cases g2
  ·have:=Option.some.inj g2;subst this
   rcases aLl c4 i hi with h|h
   ·omega
   ·exact g3 h) c5 (fun i hi=>by rw[hol];exact aLm c7 i hi) c6
 rw[hol] at i2
 obtain⟨H,ev⟩:=Hp.ren (m':=⟨aB2 (Nat.succ b.m.k) tm.it d (Gf (Nat.succ b.m.k) tm.aBQ (Nn (Nat.succ b.m.k) tm.dead b.m.o)),Nat.succ b.m.k,b.m.ns⟩) r.hp i1.len i1.ge i1.inj (Nat.le_succ _) i1.ver rb.hp.cnt (fun a' i f ha hn=>by
  have h1:b.m.ns[a']? =some b.m.ns[a']:=List.getElem?_eq_getElem ha
  obtain⟨f',h2⟩:=hag.m.ns a' (b.m.ns[a']).1 (b.m.ns[a']).2 h1
  rw[hn] at h2
  have h3:=congrArg Prod.fst (Option.some.inj h2)
  exact⟨(b.m.ns[a']).2,by rw[h1];simp only at h3;rw[h3]⟩) i1.src (fun x hx=>Sv.aBC (rb.hp.pin x hx)) hE
 have hX:∀bb,E.X ((sgm q (sg0 tm.dead b.m.o.length)).map (iR β)) bb→E.X β bb:=fun bb hb=>ev.hX bb (Hp.aBT H bb hb) hb
 have r1:aZ Y.C E ⟨wip tm.ws b.t,⟨aB2 (Nat.succ b.m.k) tm.it d (Gf (Nat.succ b.m.k) tm.aBQ (Nn (Nat.succ b.m.k) tm.dead b.m.o)),Nat.succ b.m.k,b.m.ns⟩,b.fr⟩ a w ((sgm q (sg0 tm.dead b.m.o.length)).map (iR β)):=by
  refine⟨H,r.defers,?_,fun n x hx=> ?_⟩
  ·show a.tmps.size=(wip tm.ws b.t).length
   rw[aUe,r.tsz,hag.tl]
  ·have hx':=(aDp (ws:=tm.ws) (p:=0) (n:=n) (l:=b.t)).symm.trans hx
   rw[Nat.zero_add] at hx'
   split at hx'
   ·cases hb:b.t[n]? with
    |none=>rw[hb] at hx';cases hx'
    |some y=>rw[hb] at hx';have:=Option.some.inj hx';subst this;trivial
   ·rename_i hn
    exact Sv.aAY ev (Sv.aBC (rb.tm n x hx')) (r.tm n x ((hag.t n hn).trans hx'))
 have hIF:=aLn (Y:=Y) (u:=⟨wip tm.ws b.t,⟨aB2 (Nat.succ b.m.k) tm.it d (Gf (Nat.succ b.m.k) tm.aBQ (Nn (Nat.succ b.m.k) tm.dead b.m.o)),Nat.succ b.m.k,b.m.ns⟩,b.fr⟩) r rfl (Nat.le_refl _) hX (fun _=>trivial) (fun l v h=>LV.ren i1.len i1.src r h) tm.it b.m.o.length d c2 i2
 have:=aE1 tm.it r1 hIF
 unfold reb
 rw[bC]
 exact this
theorem bCy {u:St U}{x:Sv U}{l:Lo}:(aBF u x l).fr=u.fr∧(aBF u x l).t.length=u.t.length∧Am u.m (aBF u x l).m∧∀n,(∀m,l= .s m→m≠n)→(aBF u x l).t[n]? =u.t[n]? :=by
 cases l with
 |s m=>
  refine⟨rfl,by simp only[aBF,put,bK,List.length_set],Am.refl _,fun n hn=> ?_⟩
  simp only[aBF,put,bK]
  rw[List.getElem?_set_ne (hn m rfl)]
 |c bb j=>
  unfold aBF
  simp only[aP]
  split
  ·rename_i T cs vs rv cv y he
   refine⟨rfl,rfl,Am.turn (ids:=[]) u.m fun _ e he'=> ?_,fun _ _=>rfl⟩
   rw[he] at he';have:=Option.some.inj he';subst this
   refine⟨rfl,fun T1 cs1 vs1 T' cs' vs' k1 k2=> ?_⟩
   injection k1 with a1 a2 a3
   injection k2 with b1 b2 b3
   subst a1;subst a2;subst a3;subst b1;subst b2;subst b3
   refine⟨rfl,by rw[bK,List.length_set],by rw[bK,List.length_set],fun i v hv hk=> ?_⟩
   rw[bK] at hv ⊢
   by_cases hij:j=i
   ·subst hij
    have hl:j<vs.length:=by have:=lt_of_some hv;simpa using this
    rw[List.getElem?_set_self hl] at hv
    have:=Option.some.inj hv;omega
   ·rw[List.getElem?_set_ne hij] at hv
    exact⟨List.getElem?_set_ne hij,hv⟩
  ·exact⟨rfl,rfl,Am.refl _,fun _ _=>rfl⟩
theorem Ag.aBF {D:Nat→Prop}{s0 u:St U}(h:Ag D s0 u){x:Sv U}{l:Lo}(hl:∀m,l= .s m→D m):Ag D s0 (aBF u x l):=by
 obtain⟨h1,h2,h3,h4⟩:=bCy (u:=u) (x:=x) (l:=l)
 exact⟨fun n hn=>(h4 n (fun m e e'=>hn (e'▸hl m e))).trans (h.t n hn),h2.trans h.tl,h1.trans h.fr,h.m.trans h3⟩
theorem Ag.set1 {D:Nat→Prop}{s0 u:St U}(h:Ag D s0 u){k n:Nat}{x:DI}{d:x.ty U}{ws:List (Nat×Nat)}{xs:List DI}(hx:slI ws (x::xs)=true)(hD:∀n,Dc ws 0 n=true→D n):Ag D s0 (set1 Y k n u x d)∧slI ws xs=true:=by
 have key:∀l:Lo,(match l with| .s n=>Dc ws 0 n&&slI ws xs| .c .. =>slI ws xs)=true→(∀m,l= .s m→D m)∧slI ws xs=true:=fun l hl=>by
  cases l with
  |s m=>simp only[Bool.and_eq_true] at hl;exact⟨fun m' e=>by injection e with e;subst e;exact hD _ hl.1,hl.2⟩
  |c=>exact⟨fun m e=>(by cases e),hl⟩
 cases x with
 |dat l kd=>
  obtain⟨k1,k2⟩:=key l (by cases l<;>exact hx)
  exact⟨h.aBF k1,k2⟩
 |nat l=>
  obtain⟨k1,k2⟩:=key l (by cases l<;>exact hx)
  refine⟨Ag.aBF (u:=⟨u.t,⟨u.m.o,u.m.k,u.m.ns++[((⟨d,false⟩:Nat×Bool))]⟩,u.fr⟩) ⟨h.t,h.tl,h.fr,h.m.trans (Am.aCF _ fun a' i f h=>⟨f,by rw[List.getElem?_append_left (lt_of_some h)];exact h⟩)⟩ k1,k2⟩
 |tr l i τ bb=>
  obtain⟨k1,k2⟩:=key l (by cases l<;>exact hx)
  exact⟨h.aBF k1,k2⟩
 |nt l τ bb=>
  obtain⟨k1,k2⟩:=key l (by cases l<;>exact hx)
  exact⟨h.aBF k1,k2⟩
 |ti i τ bb=>exact⟨h,hx⟩
theorem Ag.sets {D:Nat→Prop}{s0:St U}{k:Nat}{ws:List (Nat×Nat)}(hD:∀n,Dc ws 0 n=true→D n):∀(xs:List DI) {u:St U} {n:Nat} {d:Dat U xs},slI ws xs=true→Ag D s0 u→Ag D s0 (sets Y k n u xs d)
 |[],_,_,_,_,h=>h
 |x::xs,u,n,d,hx,h=>by
  obtain⟨h1,h2⟩:=h.set1 (Y:=Y) (k:=k) (n:=n) (d:=Dhd d) hx hD
  rw[aLi]
  exact Ag.sets hD xs h2 h1
theorem aE2 {k:Nat}:∀(xs:List DI) {d:Dat U xs} {o:List (EO U)} {j:Nat} {e:EO U},o[j]? =some e→∃e',(aB2 k xs d o)[j]? =some e'∧(e'=e∨(e'.cv=k∧e'.ob.aAX=false))
 |[],_,o,j,e,h=>⟨e,h, .inl rfl⟩
 |x::xs,d,o,j,e,h=>by
  rw[qL]
  have h1:∃e1,(aEk k x (Dhd d) o)[j]? =some e1∧(e1=e∨(e1.cv=k∧e1.ob.aAX=false)):=by
   cases x with
   |dat l kd=>exact⟨e,h, .inl rfl⟩
   |nat l=>exact⟨e,h, .inl rfl⟩
   |tr l i τ bb=>
    show ∃e1,(upd o i (⟨.tree τ bb _,k,k⟩:EO U))[j]? =some e1∧_
    rw[bK]
    by_cases hij:i=j
    ·subst hij
     exact⟨_,List.getElem?_set_self (lt_of_some h), .inr ⟨rfl,rfl⟩⟩
    ·exact⟨e,by rw[List.getElem?_set_ne hij];exact h, .inl rfl⟩
   |ti i τ bb=>
    show ∃e1,(upd o i (⟨.tree τ bb _,0,k⟩:EO U))[j]? =some e1∧_
    rw[bK]
    by_cases hij:i=j
    ·subst hij
     exact⟨_,List.getElem?_set_self (lt_of_some h), .inr ⟨rfl,rfl⟩⟩
    ·exact⟨e,by rw[List.getElem?_set_ne hij];exact h, .inl rfl⟩
   |nt l τ bb=>
    show ∃e1,(o++[(⟨.tree τ bb _,k,k⟩:EO U)])[j]? =some e1∧_
    exact⟨e,by rw[List.getElem?_append_left (lt_of_some h)];exact h, .inl rfl⟩
  obtain⟨e1,h1,h2⟩:=h1
  obtain⟨e',h3,h4⟩:=aE2 xs (d:=Dtl d) h1
  refine⟨e',h3,?_⟩
  rcases h4 with rfl|h4
  ·exact h2
  ·exact .inr h4
theorem aPh {k:Nat}:∀(xs:List DI) {d:Dat U xs} {o:List (EO U)},o.length≤(aB2 k xs d o).length
 |[],_,o=>Nat.le_refl _
 |x::xs,d,o=>by
  rw[qL]
  refine Nat.le_trans ?_ (aPh xs)
  cases x with
  |dat=>exact Nat.le_refl _
  |nat=>exact Nat.le_refl _
  |tr l i τ bb=>show o.length≤(upd o i _).length;rw[bK,List.length_set];exact Nat.le_refl _
  |nt l τ bb=>show o.length≤(o++[_]).length;simp
  |ti i τ bb=>show o.length≤(upd o i _).length;rw[bK,List.length_set];exact Nat.le_refl _
theorem L9 {tm:Tm}{d:Dat U tm.it}(h:slI tm.ws tm.it=true):Ag (fun n=>Dc tm.ws 0 n=true) b (reb Y b tm d):=by
 unfold reb
 refine Ag.sets (fun _ h=>h) tm.it h ⟨fun n hn=> ?_,aUe,rfl,?_⟩
 ·have:=aDp (ws:=tm.ws) (p:=0) (n:=n) (l:=b.t)
  rw[Nat.zero_add,if_neg hn] at this
  exact this
 ·refine⟨Nat.le_succ _,fun _ _ f h=>⟨f,h⟩,?_,fun i e e' he he'=> ?_⟩
  ·refine Nat.le_trans ?_ (aPh tm.it)
   rw[Ih,Dm];exact Nat.le_refl _
  ·have hl:=lt_of_some he
   by_cases hd:i∈tm.dead
   ·obtain⟨e1,h1,h2,_⟩:=vM (k:=Nat.succ b.m.k) (K6 (k:=Nat.succ b.m.k) hd hl) tm.aBQ
    have e1d:=h2 (.inl rfl)
    obtain⟨e2,h3,h4⟩:=aE2 (k:=Nat.succ b.m.k) tm.it (d:=d) h1
    have:=Option.some.inj (h3.symm.trans he');subst this
    have:e2.cv=Nat.succ b.m.k∧e2.ob.aAX=false:=by
     rcases h4 with rfl|h4
     ·rw[e1d];exact⟨rfl,rfl⟩
     ·exact h4
    refine⟨fun hh=>by omega,fun hh=>(by rw[this.2] at hh;cases hh),fun T cs vs T' cs' vs' _ hh=> ?_⟩
    rw[hh] at this;cases this.2
   ·have h0:(Nn (Nat.succ b.m.k) tm.dead b.m.o)[i]? =some e:=by rw[uP hd];exact he
    obtain⟨e1,h1,h2,h5⟩:=vM (k:=Nat.succ b.m.k) h0 tm.aBQ
    obtain⟨e2,h3,h4⟩:=aE2 (k:=Nat.succ b.m.k) tm.it (d:=d) h1
    have:=Option.some.inj (h3.symm.trans he');subst this
    rcases h4 with rfl|h4
    ·by_cases hk:e.ob.aAX=false∨hasB i tm.aBQ=false
     ·have:=h2 hk;subst this
      exact(Am.refl b.m).o i _ _ he he
     ·have hB:hasB i tm.aBQ=true:=by
       cases hh:hasB i tm.aBQ with
       |true=>rfl
       |false=>exact absurd (.inr hh) hk
      cases ho:e.ob with
      |box T cs vs=>
       obtain⟨cs',vs',k1,k2,k3,k4,k5⟩:=h5 T cs vs ho
       obtain⟨q1,q2⟩:=k4 hB
       refine⟨fun hh=>by omega,fun _=>rfl,fun T1 cs1 vs1 T2 cs2 vs2 g1 g2=> ?_⟩
       rw[k1] at g2
       injection g1 with a1 a2 a3
       injection g2 with b1 b2 b3
       subst a1;subst a2;subst a3;subst b1;subst b2;subst b3
       refine⟨rfl,k2,k3,fun j v hv hvk=> ?_⟩
       cases hA:aEj i j tm.aBQ with
       |true=>have:=(k5 j).2.1 hA v hv;omega
       |false=>
        obtain⟨z1,z2⟩:=(k5 j).2.2 hA
        exact⟨z1,z2.symm.trans hv⟩
      |_=>exact absurd (.inl (by rw[ho];rfl)) hk
    ·refine⟨fun hh=>by omega,fun hh=>(by rw[h4.2] at hh;cases hh),fun T cs vs T' cs' vs' _ hh=> ?_⟩
     rw[hh] at h4;cases h4.2
end
end Go.EV

namespace Go.EV
open Go.RowKit Go.VK
variable {U:Uni} {Y:Lay U} {TI:List (Nat×TInfo)} {FZ:List (Nat×Sum U)} {IL:Il} {P:Program} {g:GI} {E:Env U g}
def WC (D:Nat→Prop):Code→Prop
 | .seq a b=>WC D a∧WC D b
 | .cond c a b=>(∀n,c= .tmp n→D n)∧WC D a∧WC D b
 | .block _ c=>WC D c
 | .loop c=>WC D c
 | .region _ os _=>∀o∈os.toList,∀n,Wr os.toList o n→D n
 |_=>True
def AW (D:Nat→Prop):An→Prop
 | .s a b=>AW D a∧AW D b
 | .j t a=>(∀n,Dc t.ws 0 n=true→D n)∧AW D a
 | .jx t a=>(∀n,Dc t.ws 0 n=true→D n)∧AW D a
 | .l t _ a=>(∀n,Dc t.ws 0 n=true→D n)∧AW D a
 | .rj _ t _=>∀n,Dc t.ws 0 n=true→D n
 |_=>True
theorem AW.true:∀an:An,AW (fun _=>True) an
 | .n=>trivial
 | .s a b=>⟨AW.true a,AW.true b⟩
 | .j t a=>⟨fun _ _=>trivial,AW.true a⟩
 | .jx t a=>⟨fun _ _=>trivial,AW.true a⟩
 | .l t _ a=>⟨fun _ _=>trivial,AW.true a⟩
 | .r .. =>trivial
 | .rj .. =>fun _ _=>trivial
 | .z .. =>trivial
 | .y .. =>trivial
 | .w .. =>trivial
 | .v .. =>trivial
 | .u .. =>trivial
 | .il .. =>trivial
 | .pl .. =>trivial
theorem aLo:∀{ws:List (Nat×Nat)} {p lo hi n:Nat},bCl ws p lo hi=true→lo≤n→n<hi→Dc ws p n=true
 |[],_,_,_,_,h,_,_=>by cases h
 |(a,b)::r,p,lo,hi,n,h,h1,h2=>by
  simp only[bCl,Bool.or_eq_true,Bool.and_eq_true] at h
  simp only[Dc,Bool.or_eq_true,Bool.and_eq_true]
  rcases h with⟨k1,k2⟩|h
  ·have:=Nat.le_of_ble_eq_true k1;have:=Nat.le_of_ble_eq_true k2
   exact .inl ⟨Nat.ble_eq_true_of_le (by omega),Nat.ble_eq_true_of_le (by omega)⟩
  ·exact .inr (aLo h h1 h2)
theorem Ai {ws:List (Nat×Nat)}:∀{r:List (Nat×Nat)} {p n:Nat},aRm ws r p=true→Dc r p n=true→Dc ws 0 n=true
 |[],_,_,_,h=>by cases h
 |(a,b)::r,p,n,h,h1=>by
  simp only[aRm,Bool.and_eq_true,Bool.or_eq_true] at h
  simp only[Dc,Bool.or_eq_true,Bool.and_eq_true] at h1
  rcases h1 with⟨k1,k2⟩|h1
  ·have:=Nat.le_of_ble_eq_true k1;have:=Nat.le_of_ble_eq_true k2
   rcases h.1 with h|h
   ·have:=Nat.eq_of_beq_eq_true h;omega
   ·exact aLo h (by omega) (by omega)
  ·exact Ai h.2 h1
theorem rT {ws:List (Nat×Nat)}:∀{an:An},anW ws an=true→AW (fun n=>Dc ws 0 n=true) an
 | .n,_=>trivial
 | .s a b,h=>by simp only[anW,Bool.and_eq_true] at h;exact⟨rT h.1,rT h.2⟩
 | .j t a,h=>by simp only[anW,Bool.and_eq_true] at h;exact⟨fun n=>Ai h.1,rT h.2⟩
 | .jx t a,h=>by simp only[anW,Bool.and_eq_true] at h;exact⟨fun n=>Ai h.1,rT h.2⟩
 | .l t _ a,h=>by simp only[anW,Bool.and_eq_true] at h;exact⟨fun n=>Ai h.1,rT h.2⟩
 | .r ..,_=>trivial
 | .rj ..,h=>fun n=>Ai h
 | .z ..,_=>trivial
 | .y ..,_=>trivial
 | .w ..,_=>trivial
 | .v ..,_=>trivial
 | .u ..,_=>trivial
 | .il ..,_=>trivial
 | .pl ..,_=>trivial
theorem AW.a {D:Nat→Prop}{an:An}(h:AW D an):AW D an.a:=by
 cases an<;>first|exact h.1|trivial
theorem AW.b {D:Nat→Prop}{an:An}(h:AW D an):AW D an.b:=by
 cases an<;>first|exact h.2|trivial
theorem Xo {ws:List (Nat×Nat)}{al:List Oper}:∀{l:List Oper},wrG ws al l=true→∀o∈l,∀n,Wr al o n→Dc ws 0 n=true
 |[],_,o,h=>by simp at h
 |x::l,h,o,ho=>by
  have e:wrG ws al (x::l)=cond ((match x.dst with|some n=>Dc ws 0 n|none=>true)&&(match x.guard with|some (j,_)=>(match nth al j with|some oj=>(match oj.dst with|some n=>Dc ws 0 n|none=>true)|none=>true)|none=>true)) (wrG ws al l) false:=rfl
  rw[e] at h
  cases hc:((match x.dst with|some n=>Dc ws 0 n|none=>true)&&(match x.guard with|some (j,_)=>(match nth al j with|some oj=>(match oj.dst with|some n=>Dc ws 0 n|none=>true)|none=>true)|none=>true)) with
  |false=>rw[hc] at h;cases h
  |true=>
   rw[hc] at h
   simp only[cond_true] at h
   rcases List.mem_cons.1 ho with rfl|ho
   ·simp only[Bool.and_eq_true] at hc
    rintro n (hn|⟨j,b,oj,h1,h2,h3⟩)
    ·have:=hc.1;rw[hn] at this;exact this
    ·have:=hc.2;rw[h1] at this;simp only[aP,h2,h3] at this;exact this
   ·exact Xo h o ho
theorem aNl {ws:List (Nat×Nat)}:∀{f:Nat} {c:Code},wr ws f c=true→WC (fun n=>Dc ws 0 n=true) c:=by
 intro f
 induction f with
 |zero=>intro c h;cases h
 |succ f ih=>
  intro c h
  cases c with
  |seq a b=>
   replace h:(wr ws f a&&wr ws f b)=true:=h
   simp only[Bool.and_eq_true] at h;exact⟨ih h.1,ih h.2⟩
  |cond c a b=>
   cases c with
   |tmp n=>
    replace h:(Dc ws 0 n&&(wr ws f a&&wr ws f b))=true:=h
    simp only[Bool.and_eq_true] at h
    exact⟨fun n' e=>by injection e with e;subst e;exact h.1,ih h.2.1,ih h.2.2⟩
   |_=>cases h
  |block id c=>exact ih (c:=c) h
  |loop c=>exact ih (c:=c) h
  |region id os d=>exact Xo (show wrG ws os.toList os.toList=true from h)
  |_=>trivial
section
variable {α:Type}
def Snd (P:Program)(Y:Lay U)(E:Env U g)(D:Nat→Prop)(c:Code)(s:St U){α:Type}(z:α)(N:St U→Option α)(X:Nat→St U→Option α)(R:St U→Option α):Prop:=
 ∀Q:Exit→Act→World→Prop,(∀s' a w β,Ag D s s'→N s'=some z→aZ Y.C E s' a w β→Q .normal a w)→(∀i s' a w β,Ag D s s'→X i s'=some z→aZ Y.C E s' a w β→Q (.exit i) a w)→(∀s' a w β,Ag D s s'→R s'=some z→aZ Y.C E s' a w β→Q .ret a w)→
  ∀a w β,aZ Y.C E s a w β→c.wp P Q a w
def aUf (P:Program)(Y:Lay U)(TI:List (Nat×TInfo))(FZ:List (Nat×Sum U))(IL:Il)(g:GI):Prop:=
 ∀(E:Env U g),E.fr=[]→E.prm=[]→∀(α:Type) (EV:An→Code→St U→(St U→Option α)→Option α),(∀(E:Env U g),E.fr=[]→E.prm=[]→∀(an:An) (c:Code) (s:St U) (K:St U→Option α) (z:α),EV an c s K=some z→Snd P Y E (fun _=>True) c s z K (fun _ _=>none) K)→
  ∀(id:Nat) (os:Array Oper) (d:Bool) (an:An) (s:St U) (N:St U→Option α) (X:Nat→St U→Option α) (R:St U→Option α) (z:α) (D:Nat→Prop),(∀o∈os.toList,∀n,Wr os.toList o n→D n)→AW D an→aVp Y TI FZ IL EV os.toList os d an s N=some z→Snd P Y E D (.region id os d) s z N X R
theorem WC.true:∀c:Code,WC (fun _=>True) c:=fun c=>by
 induction c with
 |seq a b h1 h2=>exact⟨h1,h2⟩
 |cond c a b h1 h2=>exact⟨fun _ _=>trivial,h1,h2⟩
 |block id c h=>exact h
 |loop c h=>exact h
 |region id os d=>exact fun _ _ _ _=>trivial
 |_=>trivial
def NJ (an:An):Prop:=(∀tm a,an≠ .j tm a)∧∀tm a,an≠ .jx tm a
section
variable {f:Nat} {an:An} {s:St U} {N:St U→Option α} {X:Nat→St U→Option α} {R:St U→Option α}
theorem bF8 (h:NJ an){a b:Code}:ev Y TI FZ IL (f+1) an (.seq a b) α s N X R=ev Y TI FZ IL f an.a a α s (fun s'=>ev Y TI FZ IL f an.b b α s' N X R) X R:=by
 cases an<;>first|exact absurd rfl (h.1 _ _)|exact absurd rfl (h.2 _ _)|rfl
theorem bCz (h:NJ an){n:Nat}{a b:Code}:ev Y TI FZ IL (f+1) an (.cond (.tmp n) a b) α s N X R=tst n s (fun s=>ev Y TI FZ IL f an.a a α s N X R) (fun s=>ev Y TI FZ IL f an.b b α s N X R):=by
 cases an<;>first|exact absurd rfl (h.1 _ _)|exact absurd rfl (h.2 _ _)|rfl
theorem aZm (h:NJ an){c:Operand}{a b:Code}{z:α}(hz:ev Y TI FZ IL (f+1) an (.cond c a b) α s N X R=some z):∃n,c= .tmp n:=by
 cases c with
 |tmp n=>exact⟨n,rfl⟩
 |_=>cases an<;>first|exact absurd rfl (h.1 _ _)|exact absurd rfl (h.2 _ _)|cases hz
theorem aZn (h:NJ an){id:Nat}{c:Code}:ev Y TI FZ IL (f+1) an (.block id c) α s N X R=ev Y TI FZ IL f an.a c α s N (fun i s'=>bif Nat.beq i id then N s' else X i s') R:=by
 cases an<;>first|exact absurd rfl (h.1 _ _)|exact absurd rfl (h.2 _ _)|rfl
theorem bC0 (h:NJ an){c:Code}{z:α}(hz:ev Y TI FZ IL (f+1) an (.loop c) α s N X R=some z):(∃tm n a,an= .l tm n a∧(bif wr tm.ws f c&&anW tm.ws a then bd (col Y s tm s) (bT n fun rec d=>ev Y TI FZ IL f a c α (reb Y s tm d) (fun s'=>bd (col Y s tm s') rec) X R) else none)=some z)∨∃a b,an= .s a b∧NJ b∧ev Y TI FZ IL f a c α s (fun s'=>ev Y TI FZ IL f b (.loop c) α s' N X R) X R=some z:=by
 cases an with
 |l tm n a=>exact .inl ⟨tm,n,a,rfl,hz⟩
 |s a b=>
  refine .inr ⟨a,b,rfl,?_⟩
  replace hz:(bif bFz b then ev Y TI FZ IL f a c α s (fun s'=>ev Y TI FZ IL f b (.loop c) α s' N X R) X R else none)=some z:=hz
  cases hb:bFz b with
  |false=>rw[hb] at hz;cases hz
  |true=>
   rw[hb] at hz
   refine⟨?_,hz⟩
   cases b<;>first|(simp[NJ];done)|cases hb
 |j=>exact absurd rfl (h.1 _ _)
 |jx=>exact absurd rfl (h.2 _ _)
 |_=>cases hz
theorem bC1 (h:NJ an):ev Y TI FZ IL (f+1) an .skip α s N X R=N s:=by
 cases an<;>first|exact absurd rfl (h.1 _ _)|exact absurd rfl (h.2 _ _)|rfl
theorem bF9 (h:NJ an):ev Y TI FZ IL (f+1) an .ret α s N X R=R s:=by
 cases an<;>first|exact absurd rfl (h.1 _ _)|exact absurd rfl (h.2 _ _)|rfl
theorem bC2 (h:NJ an){i:Nat}:ev Y TI FZ IL (f+1) an (.exit i) α s N X R=X i s:=by
 cases an<;>first|exact absurd rfl (h.1 _ _)|exact absurd rfl (h.2 _ _)|rfl
theorem aWa (h:NJ an){id:Nat}{os:Array Oper}{d:Bool}:ev Y TI FZ IL (f+1) an (.region id os d) α s N X R=aVp Y TI FZ IL (fun a c s K=>ev Y TI FZ IL f a c α s K (fun _ _=>none) K) os.toList os d an s N:=by
 cases an<;>first|exact absurd rfl (h.1 _ _)|exact absurd rfl (h.2 _ _)|rfl
end
theorem aZo (an:An):(∃tm a,an= .j tm a)∨(∃tm a,an= .jx tm a)∨NJ an:=by
 cases an<;>simp[NJ]
def LoopIn (P:Program)(Y:Lay U)(E:Env U g)(D:Nat→Prop)(c':Code)(s:St U){α:Type}(z:α)(N:St U→Option α)(X:Nat→St U→Option α)(R:St U→Option α):Prop:=
 ∀Q:Exit→Act→World→Prop,(∀s' a w β,Ag D s s'→N s'=some z→aZ Y.C E s' a w β→Q .normal a w)→(∀i s' a w β,Ag D s s'→X i s'=some z→aZ Y.C E s' a w β→Q (.exit i) a w)→(∀s' a w β,Ag D s s'→R s'=some z→aZ Y.C E s' a w β→Q .ret a w)→
  ∀a w β,aZ Y.C E s a w β→∀(b:Frame) (kk:List Item) (cs:List Frame),∃e a' w',Q e a' w'∧Arrives P (lone (b.at a (.code c':: .inLoop c'::kk)) cs w) b kk cs e a' w'
def aPi (P:Program)(Y:Lay U)(TI:List (Nat×TInfo))(FZ:List (Nat×Sum U))(IL:Il)(g:GI)(f:Nat):Prop:=∀(E:Env U g),E.fr=[]→E.prm=[]→∀(an:An) (c:Code) (α:Type) (s:St U) (N:St U→Option α) (X:Nat→St U→Option α) (R:St U→Option α) (z:α) (D:Nat→Prop),WC D c→AW D an→ev Y TI FZ IL f an c α s N X R=some z→Snd P Y E D c s z N X R
def aNm (P:Program)(Y:Lay U)(TI:List (Nat×TInfo))(FZ:List (Nat×Sum U))(IL:Il)(g:GI)(f:Nat):Prop:=∀(E:Env U g),E.fr=[]→E.prm=[]→∀(an:An) (c':Code) (α:Type) (s:St U) (N:St U→Option α) (X:Nat→St U→Option α) (R:St U→Option α) (z:α) (D:Nat→Prop),NJ an→WC D c'→AW D an→ev Y TI FZ IL f an (.loop c') α s N X R=some z→LoopIn P Y E D c' s z N X R
theorem aUg {f:Nat}(IH:aPi P Y TI FZ IL g f∧aNm P Y TI FZ IL g f):aNm P Y TI FZ IL g (f+1):=by
 intro E hE hP an c' α s N X R z D hn hw ha h Q hN hX hR a0 w0 β0 r0 b kk cs
 rcases bC0 hn h with⟨tm,n,a,rfl,h'⟩|⟨a,b2,rfl,hn2,h'⟩<;>replace h:=h'
 ·cases hb:(wr tm.ws f c'&&anW tm.ws a) with
  |false=>rw[hb] at h;cases h
  |true=>
   rw[hb] at h
   simp only[cond_true] at h
   simp only[Bool.and_eq_true] at hb
   obtain⟨d0,h1,h2⟩:=gZ h
   have key:∀(m:Nat) (d:Dat U tm.it),bT m (fun rec d=>ev Y TI FZ IL f a c' α (reb Y s tm d) (fun s'=>bd (col Y s tm s') rec) X R) d=some z→∀a1 w1 β1,aZ Y.C E (reb Y s tm d) a1 w1 β1→Ag (fun n=>Dc tm.ws 0 n=true) s (reb Y s tm d)→∀(b:Frame) (kk:List Item) (cs:List Frame),
     ∃e a' w',Q e a' w'∧Arrives P (lone (b.at a1 (.code c':: .inLoop c'::kk)) cs w1) b kk cs e a' w':=by
    intro m
    induction m with
    |zero=>intro d hd;cases hd
    |succ m ih=>
     intro d hd a1 w1 β1 r1 hg b kk cs
     have hd':ev Y TI FZ IL f a c' α (reb Y s tm d) (fun s'=>bd (col Y s tm s') (bT m (fun rec d=>ev Y TI FZ IL f a c' α (reb Y s tm d) (fun s'=>bd (col Y s tm s') rec) X R))) X R=some z:=hd
     have hbody:=IH.1 E hE hP a c' _ _ _ _ _ z _ (aNl hb.1) (rT hb.2) hd' (Exit.then (fun a' w'=>∃d' β',bT m (fun rec d=>ev Y TI FZ IL f a c' α (reb Y s tm d) (fun s'=>bd (col Y s tm s') rec) X R) d'=some z∧aZ Y.C E (reb Y s tm d') a' w' β'∧Ag (fun n=>Dc tm.ws 0 n=true) s (reb Y s tm d')) Q)
      (fun s2 a2 w2 β2 hg2 hc r2=>by
       obtain⟨d',q1,q2⟩:=gZ hc
       obtain⟨β',r'⟩:=uW hE r0 r2 (hg.trans hg2) q1
       obtain⟨_,_,_,hs,_⟩:=Dv q1
       exact⟨d',β',q2,r',L9 hs⟩)
      (fun i s2 a2 w2 β2 hg2 hc r2=>hX i s2 a2 w2 β2 ((hg.trans hg2).mono ha.1) hc r2)
      (fun s2 a2 w2 β2 hg2 hc r2=>hR s2 a2 w2 β2 ((hg.trans hg2).mono ha.1) hc r2) a1 w1 β1 r1 b (.inLoop c'::kk) cs
     obtain⟨e,a₁,w₁,hq,harr⟩:=hbody
     cases e with
     |normal=>
      obtain⟨d',β',j1,j2,j3⟩:=hq
      obtain⟨e₂,a₂,w₂,hq₂,harr₂⟩:=ih d' j1 a₁ w₁ β' j2 j3 b kk cs
      exact⟨e₂,a₂,w₂,hq₂, .of_steps (Steps.trans harr (.one step_inLoop)) harr₂⟩
     |exit id=>exact⟨_,a₁,w₁,hq, .pass (x:= .inLoop c') rfl (fun _ _=> .inl (by simp)) harr⟩
     |goto l=>exact⟨_,a₁,w₁,hq, .pass (x:= .inLoop c') rfl (fun _ _=> .inl (by simp)) harr⟩
     |ret=>exact⟨_,a₁,w₁,hq, .pass (x:= .inLoop c') rfl (fun _ _=> .inl (by simp)) harr⟩
     |panic ch=>exact⟨_,a₁,w₁,hq, .pass (x:= .inLoop c') rfl (fun _ _=> .inl (by simp)) harr⟩
     |outgrown=>exact⟨_,a₁,w₁,hq, .pass (x:= .inLoop c') rfl (fun _ _=> .inl (by simp)) harr⟩
   obtain⟨β1,r1⟩:=uW hE r0 r0 (Ag.refl s) h1
   obtain⟨_,_,_,hs,_⟩:=Dv h1
   exact key n d0 h2 a0 w0 β1 r1 (L9 hs) b kk cs
 ·have hbody:=IH.1 E hE hP a c' _ s _ _ _ z D hw ha.1 h (Exit.then (fun a' w'=>∃s' β',ev Y TI FZ IL f b2 (.loop c') α s' N X R=some z∧aZ Y.C E s' a' w' β'∧Ag D s s') Q)
   (fun s2 a2 w2 β2 hg2 hc r2=>⟨s2,β2,hc,r2,hg2⟩)
   (fun i s2 a2 w2 β2 hg2 hc r2=>hX i s2 a2 w2 β2 hg2 hc r2)
   (fun s2 a2 w2 β2 hg2 hc r2=>hR s2 a2 w2 β2 hg2 hc r2) a0 w0 β0 r0 b (.inLoop c'::kk) cs
  obtain⟨e,a₁,w₁,hq,harr⟩:=hbody
  cases e with
  |normal=>
   obtain⟨s',β',j1,j2,j3⟩:=hq
   obtain⟨e₂,a₂,w₂,hq₂,harr₂⟩:=IH.2 E hE hP b2 c' _ s' N X R z D hn2 hw ha.2 j1 Q (fun s2 a2 w2 β2 hg=>hN s2 a2 w2 β2 (j3.trans hg)) (fun i s2 a2 w2 β2 hg=>hX i s2 a2 w2 β2 (j3.trans hg)) (fun s2 a2 w2 β2 hg=>hR s2 a2 w2 β2 (j3.trans hg)) a₁ w₁ β' j2 b kk cs
   exact⟨e₂,a₂,w₂,hq₂, .of_steps (Steps.trans harr (.one step_inLoop)) harr₂⟩
  |exit id=>exact⟨_,a₁,w₁,hq, .pass (x:= .inLoop c') rfl (fun _ _=> .inl (by simp)) harr⟩
  |goto l=>exact⟨_,a₁,w₁,hq, .pass (x:= .inLoop c') rfl (fun _ _=> .inl (by simp)) harr⟩
  |ret=>exact⟨_,a₁,w₁,hq, .pass (x:= .inLoop c') rfl (fun _ _=> .inl (by simp)) harr⟩
  |panic ch=>exact⟨_,a₁,w₁,hq, .pass (x:= .inLoop c') rfl (fun _ _=> .inl (by simp)) harr⟩
  |outgrown=>exact⟨_,a₁,w₁,hq, .pass (x:= .inLoop c') rfl (fun _ _=> .inl (by simp)) harr⟩
theorem bGa (HR:aUf P Y TI FZ IL g){f:Nat}(IH:aPi P Y TI FZ IL g f∧aNm P Y TI FZ IL g f):aPi P Y TI FZ IL g (f+1):=by
  intro E hE hP an c α s N X R z D hw ha h
  rcases aZo an with⟨tm,a,rfl⟩|⟨tm,a,rfl⟩|hn
  ·replace h:(bif wr tm.ws f c&&anW tm.ws a then bd (ev Y TI FZ IL f a c (Dat U tm.it) s (fun s'=>col Y s tm s') (fun _ _=>none) (fun _=>none)) fun d=>N (reb Y s tm d) else none)=some z:=h
   cases hb:(wr tm.ws f c&&anW tm.ws a) with
   |false=>rw[hb] at h;cases h
   |true=>
    rw[hb] at h
    simp only[cond_true] at h
    simp only[Bool.and_eq_true] at hb
    obtain⟨d,h1,h2⟩:=gZ h
    intro Q hN hX hR a0 w0 β0 r0
    refine IH.1 E hE hP a c _ s _ _ _ d _ (aNl hb.1) (rT hb.2) h1 Q (fun s' a' w' β' hag hc r'=> ?_) (fun i s' a' w' β' _ hc _=>by cases hc) (fun s' a' w' β' _ hc _=>by cases hc) a0 w0 β0 r0
    obtain⟨β'',r''⟩:=uW hE r0 r' hag hc
    obtain⟨_,_,_,hs,_⟩:=Dv hc
    exact hN _ _ _ _ ((L9 hs).mono ha.1) h2 r''
  ·replace h:(bif wr tm.ws f c&&anW tm.ws a then nx (ev Y TI FZ IL f a c (α⊕Dat U tm.it) s (fun s'=>bd (col Y s tm s') fun d=>some (.inr d)) (fun i s'=>bd (X i s') fun r=>some (.inl r)) (fun s'=>bd (R s') fun r=>some (.inl r))) fun d=>N (reb Y s tm d) else none)=some z:=h
   cases hb:(wr tm.ws f c&&anW tm.ws a) with
   |false=>rw[hb] at h;cases h
   |true=>
    rw[hb] at h
    simp only[cond_true] at h
    simp only[Bool.and_eq_true] at hb
    obtain⟨q,h1,h2⟩:=bCd h
    intro Q hN hX hR a0 w0 β0 r0
    refine IH.1 E hE hP a c _ s _ _ _ q _ (aNl hb.1) (rT hb.2) h1 Q (fun s' a' w' β' hag hc r'=> ?_) (fun i s' a' w' β' hag hc r'=> ?_) (fun s' a' w' β' hag hc r'=> ?_) a0 w0 β0 r0
    ·obtain⟨d,h3,h4⟩:=gZ hc
     have:=Option.some.inj h4;subst this
     obtain⟨β'',r''⟩:=uW hE r0 r' hag h3
     obtain⟨_,_,_,hs,_⟩:=Dv h3
     exact hN _ _ _ _ ((L9 hs).mono ha.1) h2 r''
    ·obtain⟨d,h3,h4⟩:=gZ hc
     have:=Option.some.inj h4;subst this
     obtain rfl:d=z:=h2
     exact hX i s' a' w' β' (hag.mono ha.1) h3 r'
    ·obtain⟨d,h3,h4⟩:=gZ hc
     have:=Option.some.inj h4;subst this
     obtain rfl:d=z:=h2
     exact hR s' a' w' β' (hag.mono ha.1) h3 r'
  cases c with
  |seq a b=>
   rw[bF8 hn] at h
   intro Q hN hX hR a0 w0 β0 r0
   exact wp_seq (IH.1 E hE hP an.a a _ s _ _ _ z D hw.1 ha.a h (Exit.then (b.wp P Q) Q) (fun s' a' w' β' hag h2 r'=>
    IH.1 E hE hP an.b b _ s' _ _ _ z D hw.2 ha.b h2 Q (fun s2 a2 w2 β2 hg=>hN s2 a2 w2 β2 (hag.trans hg)) (fun i s2 a2 w2 β2 hg=>hX i s2 a2 w2 β2 (hag.trans hg)) (fun s2 a2 w2 β2 hg=>hR s2 a2 w2 β2 (hag.trans hg)) a' w' β' r')
    (fun i s' a' w' β' hag h2 r'=>hX i s' a' w' β' hag h2 r') (fun s' a' w' β' hag h2 r'=>hR s' a' w' β' hag h2 r') a0 w0 β0 r0)
  |cond c0 a b=>
    obtain⟨n,rfl⟩:=aZm hn h
    rw[bCz hn] at h
    intro Q hN hX hR a0 w0 β0 r0
    obtain⟨t,s1,k1,k2,k3,k4,k5,k6⟩:=aLg r0 h
    have hag:=k6.mono (D':=D) (fun k e=>e▸hw.1 n rfl)
    refine wp_cond_split k1 (fun ht=> ?_) (fun hf=> ?_)
    ·exact IH.1 E hE hP an.a a _ s1 _ _ _ z D hw.2.1 ha.a (k4 ht) Q (fun s2 a2 w2 β2 hg=>hN s2 a2 w2 β2 (hag.trans hg)) (fun i s2 a2 w2 β2 hg=>hX i s2 a2 w2 β2 (hag.trans hg)) (fun s2 a2 w2 β2 hg=>hR s2 a2 w2 β2 (hag.trans hg)) a0 w0 β0 k3
    ·exact IH.1 E hE hP an.b b _ s1 _ _ _ z D hw.2.2 ha.b (k5 hf) Q (fun s2 a2 w2 β2 hg=>hN s2 a2 w2 β2 (hag.trans hg)) (fun i s2 a2 w2 β2 hg=>hX i s2 a2 w2 β2 (hag.trans hg)) (fun s2 a2 w2 β2 hg=>hR s2 a2 w2 β2 (hag.trans hg)) a0 w0 β0 k3
  |block id c'=>
   rw[aZn hn] at h
   intro Q hN hX hR a0 w0 β0 r0
   refine wp_block (IH.1 E hE hP an.a c' _ s _ _ _ z D hw ha.a h (Exit.inBlock id Q) (fun s' a' w' β' hag h2 r'=>hN s' a' w' β' hag h2 r') (fun i s' a' w' β' hag h2 r'=> ?_) (fun s' a' w' β' hag h2 r'=>hR s' a' w' β' hag h2 r') a0 w0 β0 r0)
   simp only[Exit.inBlock]
   cases hb:Nat.beq i id with
   |true=>
    rw[if_pos (Nat.eq_of_beq_eq_true hb)]
    simp only[hb,cond_true] at h2
    exact hN s' a' w' β' hag h2 r'
   |false=>
    rw[if_neg (fun e=>by subst e;rw[show Nat.beq i i=true from Nat.beq_refl i] at hb;cases hb)]
    simp only[hb,cond_false] at h2
    exact hX i s' a' w' β' hag h2 r'
  |loop c'=>
   intro Q hN hX hR a0 w0 β0 r0 b kk cs
   obtain⟨e,a',w',hq,harr⟩:=aUg IH E hE hP an c' α s N X R z D hn hw ha h Q hN hX hR a0 w0 β0 r0 b kk cs
   exact⟨e,a',w',hq, .of_steps (.one step_loop) harr⟩
  |skip=>
   rw[bC1 hn] at h
   intro Q hN hX hR a0 w0 β0 r0
   exact wp_skip (hN s a0 w0 β0 (Ag.refl s) h r0)
  |ret=>
   rw[bF9 hn] at h
   intro Q hN hX hR a0 w0 β0 r0
   exact wp_ret (hR s a0 w0 β0 (Ag.refl s) h r0)
  |exit i=>
   rw[bC2 hn] at h
   intro Q hN hX hR a0 w0 β0 r0
   exact wp_exit (hX i s a0 w0 β0 (Ag.refl s) h r0)
  |region id os d=>
   rw[aWa hn] at h
   exact HR E hE hP α _ (fun E hE hP an c s K z h=>IH.1 E hE hP an c _ s _ _ _ z (fun _=>True) (WC.true c) (AW.true an) h) id os d an s N X R z D hw ha h
  |_=>cases an<;>first|exact absurd rfl (hn.1 _ _)|exact absurd rfl (hn.2 _ _)|cases h
theorem aNn (HR:aUf P Y TI FZ IL g):∀(f:Nat),aPi P Y TI FZ IL g f∧aNm P Y TI FZ IL g f
 |0=>And.intro (fun E _ _ an c α s N X R z D _ _ h=>nomatch h) (fun E _ _ an c' α s N X R z D _ _ _ h=>nomatch h)
 |f+1=>⟨bGa HR (aNn HR f),aUg (aNn HR f)⟩
theorem aE3 (HR:aUf P Y TI FZ IL g)(f:Nat):aPi P Y TI FZ IL g f:=(aNn HR f).1
end
end Go.EV

namespace Go.EV
open Go.RowKit Go.VK
variable {U:Uni} {Y:Lay U} {TI:List (Nat×TInfo)} {FZ:List (Nat×Sum U)} {P:Program} {g:GI} {E:Env U g}
section
variable {s:St U} {a:Act} {w:World} {β:List Tr} {α:Type}
theorem aNo (G:Good P g Y TI FZ)(r:aZ Y.C E s a w β){al:List Oper}{o:Oper}{K:St U→Option α}{z:α}(h:grd Y TI FZ al o s K=some z){K':Act→World→Prop}{Q:Exit→Act→World→Prop}
  (hk:∀s' v w' β',Ag (Wr al o) s s'→K s'=some z→aZ Y.C E s' (a.put o.dst v) w' β'→(Nat.ble (uO FZ o.op) 1=true→Ext w w')→K' (a.put o.dst v) w'):if Region.wanted o (yielded al.toArray a.tmps)=true then o.wp P a w K' Q else K' (a.put o.dst undef) w:=by
 obtain⟨s1,r1,h1,h2⟩:=K9 r h
 rcases h2 with⟨hw,h2⟩|⟨hw,h2⟩
 ·rw[if_pos hw]
  unfold one at h2
  obtain⟨x,s2,k1,k2,k3,k4,k5⟩:=aLf G r1 rfl h2
  exact k2 K' Q fun v w' β' q1 q2 q3=>hk _ v w' β' (Ag.put ⟨fun n hn=>by rw[k3];exact h1.t n hn,by rw[k3];exact h1.tl,by rw[k4];exact h1.fr,h1.m.trans k5⟩ (fun n e=> .inl e)) k1 (q1.put q2) q3
 ·rw[if_neg (by rw[hw];simp)]
  exact hk _ _ w β (h1.put (fun n e=> .inl e)) h2 (r1.put (x:= .l .und) (v:=undef) (fun _=>rfl)) (fun _=>Ext.refl w)
theorem aZ.aBL {C:Cod U}(r:aZ C E s a w β){d:Option Nat}{x:Sv U}{v:Value}(h:d≠none→x.mean C w (E.X β) β s.m v)(hv:∀n,d=some n→a.tmps.getD n undef=v):aZ C E (EV.put s d x) a w β:=by
 have r':=r.put h
 refine⟨r'.hp,r.defers,?_,fun n y hy=> ?_⟩
 ·rw[r.tsz];cases d with
  |none=>rfl
  |some m=>simp[EV.put,bK]
 ·have:=r'.tm n y hy
  cases d with
  |none=>exact this
  |some m=>
   by_cases hm:m=n
   ·subst hm
    by_cases hl:m<a.tmps.size
    ·rw[show(a.put (some m) v).tmps.getD m undef=v from by simp only[Act.put];rw[vC _ _ _ _ _ hl,if_pos rfl]] at this
     rw[hv m rfl];exact this
    ·rw[show(a.put (some m) v).tmps=a.tmps from Array.setIfInBounds_eq_of_size_le (by omega)] at this;exact this
   ·rw[show(a.put (some m) v).tmps.getD n undef=a.tmps.getD n undef from by
     simp only[Act.put]
     by_cases hl:m<a.tmps.size
     ·rw[vC _ _ _ _ _ hl,if_neg hm]
     ·rw[Array.setIfInBounds_eq_of_size_le (by omega)]] at this
    exact this
theorem Xp {d:Option Nat}{v:Value}{n:Nat}(h:d≠some n):(a.put d v).tmps.getD n undef=a.tmps.getD n undef:=by
 cases d with
 |none=>rfl
 |some m=>
  simp only[Act.put]
  by_cases hl:m<a.tmps.size
  ·rw[vC _ _ _ _ _ hl,if_neg (fun e=>h (by rw[e]))]
  ·rw[Array.setIfInBounds_eq_of_size_le (by omega)]
theorem aZ.aBR {C:Cod U}(r:aZ C E s a w β){d:Option Nat}{v:Value}(h:aI3 s d=true):aZ C E s (a.put d v) w β:=by
 refine⟨r.hp,?_,?_,fun n x hx=> ?_⟩
 ·cases d<;>exact r.defers
 ·rw[←r.tsz];cases d with
  |none=>rfl
  |some m=>simp[Act.put]
 ·by_cases hd:d=some n
  ·subst hd
   simp only[aI3,aP,hx] at h
   split at h
   ·rename_i hh;have:=Option.some.inj hh;subst this;trivial
   ·cases h
  ·rw[Xp hd];exact r.tm n x hx
theorem aZ.aCR {C:Cod U}(r:aZ C E s a w β){d:Option Nat}:aZ C E (EV.put s d (.l .any)) a w β:=by
 cases d with
 |none=>exact r
 |some n=>exact r.aBL (v:=a.tmps.getD n undef) (fun _=>trivial) (fun m e=>by cases e;rfl)
theorem Ii {o:Oper}(h:Xb o.op=true){a:Act}{w:World}{v:Value}(hr:(execOp a.eval o).run P w= .ok (.value v) w)(w':World):(execOp a.eval o).run P w'= .ok (.value v) w':=by
 cases ho:o.op with
 |move x=>simp[execOp,ho] at hr ⊢;exact hr
 |assign x=>simp[execOp,ho] at hr ⊢;exact hr
 |extract x i=>
  simp only[execOp,ho] at hr ⊢
  cases hx:a.eval x with
  |tuple vs=>
   rw[hx] at hr
   simp only[Instr.extract] at hr ⊢
   cases hv:vs[i]? with
   |none=>rw[hv] at hr;simp at hr
   |some u=>rw[hv] at hr;simp at hr ⊢;exact hr
  |_=>rw[hx] at hr;simp[Instr.extract] at hr
 |_=>rw[ho] at h;cases h
theorem aBb {a0:Option Nat}{i:Nat}{listed:Array Bool}{pre:Bool}(h:a0Y a0 i listed=true)(hp:iD a0 listed=pre):iD a0 (listed.setIfInBounds i true)=(pre&& !I8 a0 i):=by
 cases a0 with
 |none=>have:pre=true:=hp.symm;subst this;rfl
 |some b=>
  by_cases hb:b=i
  ·subst hb
   have e:I8 (some b) b=true:=Nat.beq_refl b
   rw[e]
   simp only[a0Y,bne_self_eq_false,Bool.false_or,Bool.not_eq_true'] at h
   rw[h];simp
  ·have e:I8 (some b) i=false:=by
    unfold I8
    cases hh:Nat.beq b i with
    |false=>exact hh
    |true=>exact absurd (Nat.eq_of_beq_eq_true hh) hb
   rw[e,uN (fun e=>hb (Option.some.inj e)),hp];simp
theorem bH2 {os:Array Oper}{a0:Option Nat}(hs:Region.noSelect os=true){Q:Exit→Act→World→Prop}{i:Nat}{o:Oper}{v:Value}{n:Nat}{listed:Array Bool}{wS:World}(ho:os[i]? =some o)(hD:Dn .any os listed)(hc:tkY os a0 i listed=true)
  (hy:YieldsIf P os (Ext wS) o v a) (hpu:Xb o.op=true→YieldsIf P os (fun _=>True) o v a) (hS:iD a0 listed=true→Ext wS w)
  (h:dL P .any os a0 (NoPanic Q) (Ext wS) n (listed.setIfInBounds i true) (a.put o.dst v) w):dL P .any os a0 (NoPanic Q) (Ext wS) (n+1) listed a w:=by
 simp only[tkY,Bool.and_eq_true] at hc
 obtain⟨⟨h1,h2⟩,h3⟩:=hc
 have h2':i∈Region.ready .any os listed:=by simpa using h2
 cases a0 with
 |none=>exact iI ho (Region.noSelect_spec hs) (fun _ _ _ h=>h) (by simp) (fun _ _ _=>rfl) n listed a w (Region.free_spec ho h1) hD h2' hy (hS rfl) h
 |some b=>
  simp only[Bool.and_eq_true,bne_iff_ne,ne_eq,Bool.or_eq_true,ho] at h3
  have hne:some b≠some i:=fun e=>h3.1 (Option.some.inj e)
  rcases h3.2 with h4|h4
  ·have hbar:∀listed,Dn .any os listed→listed.getD i true=false→iD (some b) listed=true:=fun listed hD hun=>by
    simp only[iD,Bool.not_eq_true']
    exact getD_in (J3 hD hun 40 b h4)
   exact iI ho (Region.noSelect_spec hs) (fun _ _ _ h=>h) hne hbar n listed a w (Region.free_spec ho h1) hD h2' hy (hS (hbar _ hD (mem_ready.1 h2').1)) h
  ·exact Rc ho (Region.noSelect_spec hs) (fun _ _ _ h=>h) hne n listed a w (Region.free_spec ho h1) h2' (hpu h4) hS h
theorem qM {os:Array Oper}{a0:Option Nat}{i:Nat}{listed:Array Bool}(h:tkY os a0 i listed=true):i∈Region.ready .any os listed∧a0≠some i:=by
 simp only[tkY,Bool.and_eq_true] at h
 refine⟨by simpa using h.1.2,fun e=> ?_⟩
 subst e
 have:=h.2
 simp at this
structure Lk (E:Env U g) (kd:Option (Nat×Nat)) (st pre:Bool) (wS w:World):Prop where
 fr:∀n k,kd=some (n,k)→(wS,n,k)∈E.fr
 st:st=true→wS=w
 no:kd=none→wS=w
 pre:pre=true→Ext wS w
theorem stepT (G:Good P g Y TI FZ){al:List Oper}{a0:Option Nat}(hs:Region.noSelect al.toArray=true){Q:Exit→Act→World→Prop}{i:Nat}{o:Oper}{n:Nat}{listed:Array Bool}{wS:World}(ho:al[i]? =some o)(hD:Dn .any al.toArray listed)(hc:tkY al.toArray a0 i listed=true)
  {K:St U→Option α} {z:α} {st:Bool} (h:(bif Nat.beq (uO FZ o.op) 0&&(Xb o.op||st) then grd Y TI FZ al o s K else none)=some z) (hst:st=true→wS=w) (hS:iD a0 listed=true→Ext wS w) (r:aZ Y.C E s a w β)
  (hk:∀v s',Ag (Wr al o) s s'→K s'=some z→aZ Y.C E s' (a.put o.dst v) w β→dL P .any al.toArray a0 (NoPanic Q) (Ext wS) n (listed.setIfInBounds i true) (a.put o.dst v) w):dL P .any al.toArray a0 (NoPanic Q) (Ext wS) (n+1) listed a w:=by
 cases hb:(Nat.beq (uO FZ o.op) 0&&(Xb o.op||st)) with
 |false=>rw[hb] at h;cases h
 |true=>
  rw[hb] at h
  simp only[cond_true] at h
  simp only[Bool.and_eq_true,Bool.or_eq_true] at hb
  obtain⟨v,s',h1,h2,h3,h4⟩:=bCx G r (Nat.eq_of_beq_eq_true hb.1) h
  have hg:al.toArray[i]? =some o:=by simpa using ho
  have hpu:Xb o.op=true→YieldsIf P al.toArray (fun _=>True) o v a:=fun hp=>h1.imp (fun⟨k1,k2⟩=>⟨k1,fun w' _=>Ii hp (k2 w (Ext.refl w)) w'⟩) id
  refine bH2 hs hg hD hc ?_ hpu hS (hk v s' h4 h3 h2)
  rcases hb.2 with hp|hp
  ·exact(hpu hp).imp (fun⟨k1,k2⟩=>⟨k1,fun w' _=>k2 w' trivial⟩) id
  ·have:=hst hp;subst this;exact h1
theorem aPj (G:Good P g Y TI FZ){al:List Oper}{a0:Option Nat}{kd:Option (Nat×Nat)}{Q:Exit→Act→World→Prop}{i:Nat}{o:Oper}{n:Nat}{listed:Array Bool}{wS:World}(ho:al[i]? =some o){pre st:Bool}(ha:a0Y a0 i listed=true)(hp:iD a0 listed=pre)
  {K:St U→Option α} {z:α} (h:grd Y TI FZ al o s (fun s'=>bif !(pre&& !I8 a0 i)||(Nat.ble (uO FZ o.op) 1||unO kd s'.m.o) then K s' else none)=some z) (hl:Lk E kd st pre wS w) (r:aZ Y.C E s a w β)
  (hk:∀v s' w' β' wS',Ag (Wr al o) s s'→K s'=some z→aZ Y.C E s' (a.put o.dst v) w' β'→Lk E kd (st&&Xc kd) (pre&& !I8 a0 i) wS' w'→dL P .any al.toArray a0 (NoPanic Q) (Ext wS') n (listed.setIfInBounds i true) (a.put o.dst v) w'):
  wpOp P al.toArray (NoPanic Q) i (fun a' w'=>(iD a0 (listed.setIfInBounds i true)=true→Ext wS w')∧dL P .any al.toArray a0 (NoPanic Q) (Ext wS) n (listed.setIfInBounds i true) a' w') a w:=by
 have hny:=aBb ha hp
 have hg:al.toArray[i]? =some o:=by simpa using ho
 refine wpOp_step hg fun K' hK'=>aNo G r h fun s' v w' β' q1 q2 q3 q4=>hK' _ _ ?_
 cases hb:(!(pre&& !I8 a0 i)||(Nat.ble (uO FZ o.op) 1||unO kd s'.m.o)) with
 |false=>rw[hb] at q2;cases q2
 |true=>
  rw[hb] at q2
  simp only[cond_true] at q2
  have hext:(pre&& !I8 a0 i)=true→Ext wS w':=fun hpp=>by
   rw[hpp] at hb
   simp only[Bool.not_true,Bool.false_or,Bool.or_eq_true] at hb
   simp only[Bool.and_eq_true] at hpp
   rcases hb with hb|hb
   ·exact(hl.pre hpp.1).trans (q4 hb)
   ·cases hkd:kd with
    |none=>rw[hkd] at hb;cases hb
    |some p=>
     obtain⟨n0,k0⟩:=p
     rw[hkd] at hb
     exact q3.unt (hl.fr n0 k0 hkd) hb
  refine⟨fun hn=>hext (hny.symm.trans hn),?_⟩
  cases hkd:kd with
  |some p=>
   exact hk v s' w' β' wS q1 q2 q3 ⟨hl.fr,fun h=>(by rw[hkd] at h;simp[Xc] at h),fun h=>(by rw[hkd] at h;cases h),hext⟩
  |none=>
   have hw:=hl.no hkd
   have hk':=hk v s' w' β' w' q1 q2 q3 ⟨fun n k h=>(by rw[hkd] at h;cases h),fun _=>rfl,fun _=>rfl,fun _=>Ext.refl w'⟩
   cases hpp:(pre&& !I8 a0 i) with
   |true=>exact rQ (fun x hx=>(hext hpp).trans hx) _ _ _ _ hk'
   |false=>exact nK _ _ _ _ (hny.trans hpp) hk'
variable {al:List Oper} {a0:Option Nat} {kd:Option (Nat×Nat)} {Q:Exit→Act→World→Prop} {D:Nat→Prop}
theorem aPk (G:Good P g Y TI FZ)(hs:Region.noSelect al.toArray=true):∀(l:List (Nat×Bool)) (pre st:Bool) (s:St U) (K:St U→Option α) (z:α),(∀i∈l,∀o,al[i.1]? =some o→∀n,Wr al o n→D n)→Xd Y TI FZ al a0 kd l none pre st s K=some z→
  (∀s' a w β,Ag D s s'→K s'=some z→aZ Y.C E s' a w β→Q .normal a w)→∀listed,Dn .any al.toArray listed→Hy al.toArray a0 l listed=true→iD a0 listed=pre→∀a w β wS,Lk E kd st pre wS w→aZ Y.C E s a w β→dL P .any al.toArray a0 (NoPanic Q) (Ext wS) l.length listed a w
 |[],pre,st,s,K,z,_,h,hQ,listed,_,hc,_,a,w,β,wS,_,r=>nL (P:=P) (a0:=a0) (S:=Ext wS) (Q:=NoPanic Q) (by simpa[Hy] using hc) (hQ s a w β (Ag.refl s) h r) 0
 |(i,fl)::l,pre,st,s,K,z,hD,h,hQ,listed,hdn,hc,hp,a,w,β,wS,hl,r=>by
  simp only[Xd,aP] at h
  cases ho:al[i]? with
  |none=>rw[ho] at h;cases h
  |some o=>
   rw[ho] at h
   simp only at h
   have hDi:=hD (i,fl) (by simp) o ho
   have hD':∀j∈l,∀o,al[j.1]? =some o→∀n,Wr al o n→D n:=fun j hj=>hD j (by simp[hj])
   cases fl with
   |true=>
    simp only[Hy,Bool.and_eq_true] at hc
    obtain⟨hr,hne⟩:=qM hc.1
    exact stepT G hs ho hdn hc.1 h hl.st (fun hn=>hl.pre (hp.symm.trans hn)) r fun v s' h1 h2 h3=>
     aPk G hs l pre st s' K z hD' h2 (fun s2 a2 w2 β2 g1=>hQ s2 a2 w2 β2 ((h1.mono hDi).trans g1)) _ (hdn.set hr) hc.2 ((uN hne).trans hp) _ w β wS hl h3
   |false=>
    simp only[Hy,Bool.and_eq_true,beq_iff_eq] at hc
    simp only[cond_false] at h
    rw[show aA6 Y TI al none s=true from rfl] at h
    simp only[cond_true] at h
    refine iQ hc.1 (by simp) fun i' hi'=> ?_
    simp at hi';subst hi'
    exact aPj G ho hc.2.1 hp h hl r fun v s' w' β' wS' h1 h2 h3 h4=>
     aPk G hs l _ _ s' K z hD' h2 (fun s2 a2 w2 β2 g1=>hQ s2 a2 w2 β2 ((h1.mono hDi).trans g1)) _ (hdn.set (by rw[hc.1];simp)) hc.2.2 (aBb hc.2.1 hp) _ w' β' wS' h4 h3
theorem aE4 {j:Nat}{oj:Oper}(ho:al[j]? =some oj)(h:aA6 Y TI al (some j) s=true):oj.guard=none∧aI3 s oj.dst=true∧xK Y TI s oj.op=true∧aRn oj oj.dst=true:=by
 simp only[aA6,aP,ho,Bool.and_eq_true] at h
 refine⟨?_,h.2.1,h.2.2.2,h.2.2.1⟩
 cases hg:oj.guard with
 |none=>rfl
 |some x=>rw[hg] at h;cases h.1
theorem aZp {oj:Oper}{d:Option Nat}(h:aYr oj d=true):∀n,oj.dst=some n→d≠some n:=fun n hn e=>by
 subst e
 simp only[aYr,hn,Bool.and_eq_true] at h
 have:=h.1
 rw[show Nat.beq n n=true from Nat.beq_refl n] at this
 cases this
theorem aZq {oj:Oper}{d:Option Nat}(h:aYr oj d=true):aRn oj d=true:=by
 simp only[aYr,Bool.and_eq_true] at h;exact h.2
theorem Lk.mk1 {b:Nat}{blk:Obj}{hb:E.w0.heap.size≤b}{st pre:Bool}{wS:World}(h:Lk E kd st pre wS w):Lk (E.ahd b blk hb) kd st pre wS w:=⟨h.fr,h.st,h.no,h.pre⟩
theorem Lk.un1 {b:Nat}{blk:Obj}{hb:E.w0.heap.size≤b}{st pre:Bool}{wS:World}(h:Lk (E.ahd b blk hb) kd st pre wS w):Lk E kd st pre wS w:=⟨h.fr,h.st,h.no,h.pre⟩
theorem aZr (G:Good P g Y TI FZ)(hs:Region.noSelect al.toArray=true)(hP:E.prm=[]){j:Nat}{oj:Oper}(hj:al[j]? =some oj)(hgj:oj.guard=none)(hja:a0≠some j){b:Nat}{blk:Obj}{hb:E.w0.heap.size≤b}:∀(l:List (Nat×Bool)) (m:Nat) (pre st:Bool) (s:St U) (K:St U→Option α) (z:α),m+1=l.length→(∀i∈l,∀o,al[i.1]? =some o→∀n,Wr al o n→D n)→Xd Y TI FZ al a0 kd l (some j) pre st s K=some z→
  (∀s' a w β,Ag D s s'→K s'=some z→aZ Y.C E s' a w β→Q .normal a w)→∀listed,Dn .any al.toArray listed→aRo al.toArray a0 oj j l listed=true→iD a0 listed=pre→∀a w β wS,Lk E kd st pre wS w→Flp P a oj blk→(∀n,oj.dst=some n→a.tmps.getD n undef=mkF oj.op b)→aZ Y.C (E.ahd b blk hb) s a w β→dL P .any al.toArray a0 (NoPanic Q) (Ext wS) m listed a w
 |[],m,pre,st,s,K,z,hm,_,h,hQ,listed,_,hc,_,a,w,β,wS,_,_,_,r=>by cases hc
 |(i,fl)::l,m,pre,st,s,K,z,hm,hD,h,hQ,listed,hdn,hc,hp,a,w,β,wS,hl,hF,hv,r=>by
  have hm':m=l.length:=by simpa using hm
  have hD':∀j∈l,∀o,al[j.1]? =some o→∀n,Wr al o n→D n:=fun j hj=>hD j (by simp[hj])
  simp only[aRo] at hc
  simp only[Xd,aP] at h
  cases hij:Nat.beq i j with
  |true=>
   have e:=Nat.eq_of_beq_eq_true hij
   subst e
   rw[hij] at hc
   simp only[cond_true,Bool.and_eq_true] at hc
   have hfl:fl=false:=by simpa using hc.1
   subst hfl
   rw[hj] at h
   simp only[cond_false] at h
   have hDi:=hD (i,false) (by simp) oj hj
   cases hfa:aA6 Y TI al (some i) s with
   |false=>rw[hfa] at h;cases h
   |true=>
    rw[hfa] at h
    simp only[cond_true] at h
    obtain⟨_,_,hok,_⟩:=aE4 hj hfa
    have hself:I8 (some i) i=true:=Nat.beq_refl i
    have hna:I8 a0 i=false:=by
     cases a0 with
     |none=>rfl
     |some c=>
      cases hh:I8 (some c) i with
      |false=>rfl
      |true=>exact absurd (congrArg some (Nat.eq_of_beq_eq_true hh)) hja
    rw[hself,hna] at h
    simp only[cond_true,Bool.not_false,Bool.and_true] at h
    unfold grd aI2 at h
    rw[hgj] at h
    simp only[one] at h
    obtain⟨x,s',β',k1,k2,k3,k4,k5,k6⟩:=aV7 G r hP hF hok h
    cases hcc:(!pre||(Nat.ble (uO FZ oj.op) 1||unO kd (EV.put s' oj.dst x).m.o)) with
    |false=>rw[hcc] at k1;cases k1
    |true=>
     rw[hcc] at k1
     simp only[cond_true] at k1
     have hag:Ag D s (EV.put s' oj.dst x):=Ag.put ⟨fun n _=>by rw[k4],by rw[k4],k5,k6⟩ (fun n e=>hDi n (.inl e))
     rw[hm']
     exact aPk G hs l pre _ _ K z hD' k1 (fun s2 a2 w2 β2 g1=>hQ s2 a2 w2 β2 (hag.trans g1)) listed hdn hc.2 hp a w β' wS ⟨hl.fr,fun h=>hl.st (by simp only[Bool.and_eq_true] at h;exact h.1),hl.no,hl.pre⟩ (k2.aBL (fun _=>k3) hv)
  |false=>
   rw[hij] at hc
   simp only[cond_false] at hc
   have hnA:I8 (some j) i=false:=by
    show Nat.beq j i=false
    cases hh:Nat.beq j i with
    |false=>rfl
    |true=>have:=Nat.eq_of_beq_eq_true hh;subst this;rw[show Nat.beq j j=true from Nat.beq_refl j] at hij;cases hij
   cases ho:al[i]? with
   |none=>rw[ho] at h;cases h
   |some o=>
    rw[ho] at h
    simp only at h
    have hg:al.toArray[i]? =some o:=by simpa using ho
    rw[hg] at hc
    simp only[Bool.and_eq_true] at hc
    obtain⟨hoff,hc⟩:=hc
    have hDi:=hD (i,fl) (by simp) o ho
    have hlen:∃m',m=m'+1∧m'+1=l.length:=by
     cases l with
     |nil=>cases fl<;>(simp only[cond_true,cond_false,aRo,Bool.and_false,Bool.and_eq_true] at hc;simp at hc)
     |cons x l=>exact⟨l.length,by simpa using hm',by simp⟩
    obtain⟨m',rfl,hm2⟩:=hlen
    have hoffd:∀n,oj.dst=some n→∀v,(a.put o.dst v).tmps.getD n undef=mkF oj.op b:=fun n hn v=>by rw[Xp (aZp hoff n hn)];exact hv n hn
    cases fl with
    |true=>
     simp only[cond_true,Bool.and_eq_true] at hc
     obtain⟨hr,hne⟩:=qM hc.1
     exact stepT G hs ho hdn hc.1 h hl.st (fun hn=>hl.pre (hp.symm.trans hn)) r fun v s' h1 h2 h3=>
      aZr G hs hP hj hgj hja l m' pre st s' K z hm2 hD' h2 (fun s2 a2 w2 β2 g1=>hQ s2 a2 w2 β2 ((h1.mono hDi).trans g1)) _ (hdn.set hr) hc.2 ((uN hne).trans hp) _ w β wS hl (hF.keep (aZq hoff)) (fun n hn=>hoffd n hn v) h3
    |false=>
     simp only[cond_false,Bool.and_eq_true,beq_iff_eq] at hc
     simp only[cond_false,hnA] at h
     cases hfa:aA6 Y TI al (some j) s with
     |false=>rw[hfa] at h;cases h
     |true=>
      rw[hfa] at h
      simp only[cond_true] at h
      refine iQ hc.1 (by simp) fun i' hi'=> ?_
      simp at hi';subst hi'
      exact aPj G ho hc.2.1 hp h hl.mk1 r fun v s' w' β' wS' h1 h2 h3 h4=>
       aZr G hs hP hj hgj hja l m' _ _ s' K z hm2 hD' h2 (fun s2 a2 w2 β2 g1=>hQ s2 a2 w2 β2 ((h1.mono hDi).trans g1)) _ (hdn.set (by rw[hc.1];simp)) hc.2.2 (aBb hc.2.1 hp) _ w' β' wS' h4.un1 (hF.keep (aZq hoff)) (fun n hn=>hoffd n hn v) h3
theorem aZs (G:Good P g Y TI FZ)(hs:Region.noSelect al.toArray=true)(hP:E.prm=[]){j:Nat}{oj:Oper}(hj:al[j]? =some oj)(hja:a0≠some j):∀(l:List (Nat×Bool)) (pre st:Bool) (s:St U) (K:St U→Option α) (z:α),(∀i∈l,∀o,al[i.1]? =some o→∀n,Wr al o n→D n)→Xd Y TI FZ al a0 kd l (some j) pre st s K=some z→
  (∀s' a w β,Ag D s s'→K s'=some z→aZ Y.C E s' a w β→Q .normal a w)→∀listed,Dn .any al.toArray listed→aYs al.toArray a0 oj j l listed=true→iD a0 listed=pre→∀a w β wS,Lk E kd st pre wS w→aZ Y.C E s a w β→dL P .any al.toArray a0 (NoPanic Q) (Ext wS) l.length listed a w
 |[],pre,st,s,K,z,_,h,hQ,listed,_,hc,_,a,w,β,wS,_,r=>by cases hc
 |(i,fl)::l,pre,st,s,K,z,hD,h,hQ,listed,hdn,hc,hp,a,w,β,wS,hl,r=>by
  have hD':∀j∈l,∀o,al[j.1]? =some o→∀n,Wr al o n→D n:=fun j hj=>hD j (by simp[hj])
  have hfull:=h
  simp only[aYs] at hc
  simp only[Xd,aP] at h
  cases ho:al[i]? with
  |none=>rw[ho] at h;cases h
  |some o=>
   rw[ho] at h
   simp only at h
   have hDi:=hD (i,fl) (by simp) o ho
   cases hij:Nat.beq i j with
   |true=>
    have e:=Nat.eq_of_beq_eq_true hij
    subst e
    rw[hij] at hc
    simp only[cond_true,Bool.and_eq_true,beq_iff_eq] at hc
    have hfl:fl=false:=by simpa using hc.1
    subst hfl
    simp only[cond_false] at h
    cases hfa:aA6 Y TI al (some i) s with
    |false=>rw[hfa] at h;cases h
    |true=>
     rw[hfa] at h
     simp only[cond_true] at h
     have hself:I8 (some i) i=true:=Nat.beq_refl i
     rw[hself] at h
     simp only[cond_true] at h
     have ha:a0Y a0 i listed=true:=by
      unfold a0Y
      rw[show(a0 !=some i)=true from by simpa using hja];rfl
     refine iQ hc.2.1 (by simp) fun i' hi'=> ?_
     simp at hi';subst hi'
     exact aPj G ho ha hp h hl r fun v s' w' β' wS' h1 h2 h3 h4=>
      aPk G hs l _ _ s' K z hD' h2 (fun s2 a2 w2 β2 g1=>hQ s2 a2 w2 β2 ((h1.mono hDi).trans g1)) _ (hdn.set (by rw[hc.2.1];simp)) hc.2.2 (aBb ha hp) _ w' β' wS' h4 h3
   |false=>
    rw[hij] at hc
    simp only[cond_false] at hc
    have hnA:I8 (some j) i=false:=by
     show Nat.beq j i=false
     cases hh:Nat.beq j i with
     |false=>rfl
     |true=>have:=Nat.eq_of_beq_eq_true hh;subst this;rw[show Nat.beq j j=true from Nat.beq_refl j] at hij;cases hij
    cases fl with
    |true=>
     simp only[cond_true,Bool.and_eq_true] at hc
     obtain⟨hr,hne⟩:=qM hc.1
     exact stepT G hs ho hdn hc.1 h hl.st (fun hn=>hl.pre (hp.symm.trans hn)) r fun v s' h1 h2 h3=>
      aZs G hs hP hj hja l pre st s' K z hD' h2 (fun s2 a2 w2 β2 g1=>hQ s2 a2 w2 β2 ((h1.mono hDi).trans g1)) _ (hdn.set hr) hc.2 ((uN hne).trans hp) _ w β wS hl h3
    |false=>
     simp only[cond_false,Bool.and_eq_true] at hc
     simp only[cond_false,hnA] at h
     cases hfa:aA6 Y TI al (some j) s with
     |false=>rw[hfa] at h;cases h
     |true=>
      rw[hfa] at h
      simp only[cond_true] at h
      obtain⟨hgj,hany,hok,hself⟩:=aE4 hj hfa
      have hgi:al.toArray[j]? =some oj:=by simpa using hj
      have inT:i∈Region.ready .any al.toArray listed→wpOp P al.toArray (NoPanic Q) i (fun a' w'=>(iD a0 (listed.setIfInBounds i true)=true→Ext wS w')∧dL P .any al.toArray a0 (NoPanic Q) (Ext wS) l.length (listed.setIfInBounds i true) a' w') a w:=fun hir=>
       aPj G ho hc.2.1 hp h hl r fun v s' w' β' wS' h1 h2 h3 h4=>
        aZs G hs hP hj hja l _ _ s' K z hD' h2 (fun s2 a2 w2 β2 g1=>hQ s2 a2 w2 β2 ((h1.mono hDi).trans g1)) _ (hdn.set hir) hc.2.2 (aBb hc.2.1 hp) _ w' β' wS' h4 h3
      have early:j∈Region.ready .any al.toArray listed→aRo al.toArray a0 oj j ((i,false)::l) (listed.setIfInBounds j true)=true→wpOp P al.toArray (NoPanic Q) j (fun a' w'=>(iD a0 (listed.setIfInBounds j true)=true→Ext wS w')∧dL P .any al.toArray a0 (NoPanic Q) (Ext wS) l.length (listed.setIfInBounds j true) a' w') a w:=fun hjr hc1=>by
       obtain⟨blk,hF⟩:=aLh G r hok
       have hny:iD a0 (listed.setIfInBounds j true)=pre:=(uN hja).trans hp
       have hbw:E.w0.heap.size≤w.heap.size:=r.hp.ext.size
       refine wpOp_step hgi fun K' hK'=> ?_
       rw[if_pos (by simp[Region.wanted,hgj])]
       refine wpo (.inl (hF w)) (hK' _ _ ⟨fun hn=>(hl.pre (hny.symm.trans hn)).trans (Ext.alloc _ _),?_⟩)
       have r1:aZ Y.C (E.ahd w.heap.size blk hbw) s (a.put oj.dst (mkF oj.op w.heap.size)) (w.alloc blk) β:=(r.ahead hbw).aBR hany
       have hF':Flp P (a.put oj.dst (mkF oj.op w.heap.size)) oj blk:=hF.keep hself
       have hv':∀n,oj.dst=some n→(a.put oj.dst (mkF oj.op w.heap.size)).tmps.getD n undef=mkF oj.op w.heap.size:=fun n hn=>by
        rw[hn]
        simp only[aI3,hn,aP] at hany
        have hlt:n<a.tmps.size:=by
         rw[r.tsz]
         cases hx:s.t[n]? with
         |none=>rw[hx] at hany;cases hany
         |some x=>exact lt_of_some hx
        simp only[Act.put]
        rw[vC _ _ _ _ _ hlt,if_pos rfl]
       have fin:=fun st' wS' (hfull':Xd Y TI FZ al a0 kd ((i,false)::l) (some j) pre st' s K=some z) (hl':Lk E kd st' pre wS' (w.alloc blk))=>aZr (D:=D) (Q:=Q) G hs hP hj hgj hja ((i,false)::l) l.length pre st' s K z (by simp) hD hfull' hQ _ (hdn.set hjr) hc1 hny _ (w.alloc blk) β wS' hl' hF' hv' r1
       cases hkd:kd with
       |some p=>
        refine fin false wS ?_ ⟨hl.fr,fun h=>(by cases h),fun h=>(by rw[hkd] at h;cases h),fun h=>(hl.pre h).trans (Ext.alloc _ _)⟩
        have hf:=hfull
        rw[hkd] at hf ⊢
        simp only[Xd,aP,ho,cond_false,Xc,Bool.and_false] at hf ⊢
        exact hf
       |none=>
        have hw:=hl.no hkd
        have hk':=fin st (w.alloc blk) hfull ⟨fun n k h=>(by rw[hkd] at h;cases h),fun _=>rfl,fun _=>rfl,fun _=>Ext.refl _⟩
        cases hpp:pre with
        |true=>exact rQ (fun x hx=>((hl.pre hpp).trans (Ext.alloc _ _)).trans hx) _ _ _ _ hk'
        |false=>exact nK _ _ _ _ (hny.trans hpp) hk'
      have h1:=hc.1
      rw[Bool.or_eq_true,beq_iff_eq] at h1
      rcases h1 with h1|h1
      ·refine iQ h1 (by simp) fun i' hi'=> ?_
       simp at hi';subst hi'
       exact inT (by rw[h1];simp)
      ·rw[Bool.and_eq_true,Bool.or_eq_true,beq_iff_eq,beq_iff_eq] at h1
       have hmem:∀x,x∈Region.ready .any al.toArray listed↔x=i∨x=j:=fun x=>by
        rcases h1.1 with e|e<;>rw[e]<;>simp[or_comm]
       exact iQ rfl (fun e=>by have:=(hmem i).2 (.inl rfl);rw[e] at this;simp at this) fun i' hi'=>by
        rcases(hmem i').1 hi' with rfl|rfl
        ·exact inT hi'
        ·exact early hi' h1.2
end
end Go.EV

namespace Go.EV
open Go.RowKit Go.VK
variable {U:Uni} {Y:Lay U} {TI:List (Nat×TInfo)} {FZ:List (Nat×Sum U)} {P:Program} {g:GI} {E:Env U g}
section
variable {s s':St U} {a:Act} {w w':World} {β β':List Tr} {α:Type}
def Xq (bs:List Nat)(Yb:Nat→Prop)(n:Nat)(s:St U)(β:List Tr):Prop:=∀(b:Nat) (e:EO U) (t:Tr) (k:Nat),s.m.o[b]? =some e→e.ob.aAX=true→β[b]? =some t→t.b=some k→(b∈bs→Yb k)∧(b∉bs→¬Yb k∧k<n)
theorem aBc {bs:List Nat}{Yb:Nat→Prop}{wS:World}(r:aZ Y.C E s a w β)(hI:Xq bs Yb wS.heap.size s β)(hb:Bel Yb wS w){t:Nat}{i:TInfo}(hti:tiB P t i=true){b o:Nat}{y:Sv U}{v:Value}(hm:(Lf.box b o:Lf U).mean Y.C w (E.X β) β s.m v)(h:load Y s i (.box b o)=some y)(hn:b∉bs):
  ∃p v',v= .pointer (some p)∧(∀w',Bel Yb wS w'→(loadVar t p).run P w'= .ok v' w')∧y.mean Y.C w (E.X β) β s.m v':=by
 simp only[load,aP] at h
 obtain⟨_,e,tr,h1,h2,h3⟩:=hm
 simp only[h1] at h
 have hok:=r.hp.ok b tr e h2 h1
 have hi:=hI b e tr
 obtain⟨ob,rv,cv⟩:=e
 cases ob with
 |box T cs us=>
  obtain⟨bb,h4,rfl⟩:=h3 rfl
  obtain⟨_,b',vs,k1,k2,k3,k4⟩:=hok
  rw[h4] at k1;injection k1 with k1;subst k1
  obtain⟨q1,q2⟩:=(hi bb h1 rfl h2 h4).2 hn
  obtain⟨v',q3,q4⟩:=K5 (S:=Bel Yb wS) (P:=P) (p:=⟨bb,o,none⟩) hti h (k4.drop o) (fun w' he j u hj=>by
   rw[fP,cell_of_row w' bb (o+j) _ T (0,0) ((he.block bb q2 q1).trans ((hb.block bb q2 q1).symm.trans k3))]
   simpa using hj)
  exact⟨_,v',rfl,q3,q4⟩
 |_=>cases h
theorem Xq.go {bs:List Nat}{Yb:Nat→Prop}{n:Nat}(h:Xq bs Yb n s β){m:Mm U}{N M K:Nat}(hN:N=s.m.o.length)(r:Hp Y.C E s.m β w)(hl:m.o.length=s.m.o.length)(hev:Evo w w' (E.X β) (E.X β') β β' s.m m N M K){t:List (Sv U)}{fr}:Xq bs Yb n ⟨t,m,fr⟩ β':=by
 intro b e t k h1 h2 h3 h4
 have hb:b<s.m.o.length:=by rw[←hl];exact lt_of_some h1
 have e1:s.m.o[b]? =some s.m.o[b]:=List.getElem?_eq_getElem hb
 have e2:β[b]? =some (β[b]'(by rw[r.len];exact hb)):=List.getElem?_eq_getElem _
 obtain⟨e',t',k1,k2,_,_,k5⟩:=hev.ho b _ _ (by omega) e1 e2
 replace h1:m.o[b]? =some e:=h1
 rw[h1] at k1;injection k1 with k1;subst k1
 rw[h3] at k2;injection k2 with k2;subst k2
 obtain⟨j1,j2⟩:=k5 h2
 exact h b _ _ k e1 j1 e2 (by rw[←j2];exact h4)
theorem aZt {i:Nat}{l:List Nat}(h:(!Di i l)=true):i∉l:=fun hi=>by rw[kS.2 hi] at h;cases h
variable {al:List Oper} {Q:Exit→Act→World→Prop} {D:Nat→Prop}
theorem Dw (G:Good P g Y TI FZ)(hs:Region.noSelect al.toArray=true){bs:List Nat}{Yb:Nat→Prop}{wS:World}:∀(l:List (Nat×Bool)) (s:St U) (K:St U→Option α) (z:α),(∀i∈l,∀o,al[i.1]? =some o→∀n,Wr al o n→D n)→aVo Y TI FZ al bs l s K=some z→
  (∀s' a w β,Ag D s s'→K s'=some z→aZ Y.C E s' a w β→Q .normal a w)→∀listed,Dn .any al.toArray listed→Hy al.toArray none l listed=true→∀a w β,Bel Yb wS w→Xq bs Yb wS.heap.size s β→aZ Y.C E s a w β→dL P .any al.toArray none (NoPanic Q) (Bel Yb wS) l.length listed a w
 |[],s,K,z,_,h,hQ,listed,_,hc,a,w,β,_,_,r=>nL (P:=P) (a0:=none) (S:=Bel Yb wS) (Q:=NoPanic Q) (by simpa[Hy] using hc) (hQ s a w β (Ag.refl s) h r) 0
 |(i,fl)::l,s,K,z,hD,h,hQ,listed,hdn,hc,a,w,β,hb,hI,r=>by
  simp only[aVo,aP] at h
  cases ho:al[i]? with
  |none=>rw[ho] at h;cases h
  |some o=>
   rw[ho] at h
   simp only at h
   have hDi:=hD (i,fl) (by simp) o ho
   have hD':∀j∈l,∀o,al[j.1]? =some o→∀n,Wr al o n→D n:=fun j hj=>hD j (by simp[hj])
   have hg:al.toArray[i]? =some o:=by simpa using ho
   have put':∀{s1:St U} {x:Sv U},s1.t=s.t→s1.fr=s.fr→Am s.m s1.m→Ag (Wr al o) s (put s1 o.dst x):=fun e1 e2 e3=>Ag.put ⟨fun n _=>by rw[e1],by rw[e1],by rw[e2],e3⟩ (fun n e=> .inl e)
   have invP:∀{s1:St U} {β1:List Tr} {x:Sv U},Xq bs Yb wS.heap.size s1 β1→Xq bs Yb wS.heap.size (put s1 o.dst x) β1:=fun {s1 β1 x} h b e t k h1=>h b e t k (by rw[show(put s1 o.dst x).m=s1.m by cases o.dst<;>rfl] at h1;exact h1)
   cases hb0:(noG o&&(bif fl then ldW bs s o.op else(stW bs s o.op||Xb o.op))) with
   |false=>rw[hb0] at h;cases h
   |true=>
    rw[hb0] at h
    simp only[cond_true] at h
    rw[Bool.and_eq_true] at hb0
    have hgd:o.guard=none:=by
     have:=hb0.1
     unfold noG at this
     split at this
     ·assumption
     ·cases this
    have hw:Region.wanted o (yielded al.toArray a.tmps)=true:=by simp[Region.wanted,hgd]
    have hop:=hb0.2
    cases fl with
    |true=>
     simp only[cond_true] at hop
     simp only[Hy,Bool.and_eq_true] at hc
     obtain⟨hr,_⟩:=qM hc.1
     cases hoo:o.op with
     |load t x=>
      rw[hoo] at hop
      simp only[ldW] at hop
      split at hop
      ·rename_i b off hx
       unfold one at h
       rw[hoo] at h
       replace h:(match(match iP TI t,dP s x with
        |some i, .l p=>load Y s i p
        |_,_=>none) with
        |some y=>aVo Y TI FZ al bs l (put s o.dst y) K
        |none=>none)=some z:=h
       rw[hx] at h
       cases hf:iP TI t with
       |none=>rw[hf] at h;cases h
       |some ti=>
        rw[hf] at h
        simp only at h
        cases hld:load Y s ti (.box b off) with
        |none=>rw[hld] at h;cases h
        |some y=>
         rw[hld] at h
         simp only at h
         obtain⟨p,v',q1,q2,q3⟩:=aBc r hI hb (bH G.ti hf) (kP r hx) hld (aZt hop)
         have hy:YieldsIf P al.toArray (Bel Yb wS) o v' a:= .inl ⟨hw,fun w' he=>by simp[execOp,hoo,q1,Instr.loadAt,Instr.sureAddr,q2 w' he]⟩
         simp only[tkY,Bool.and_eq_true] at hc
         refine iI hg (Region.noSelect_spec hs) (fun _ _ _ h=>h) (by simp) (fun _ _ _=>rfl) _ listed a w (Region.free_spec hg hc.1.1.1) hdn hr hy hb ?_
         have ag:=put' (s1:=s) (x:=y) rfl rfl (Am.refl _)
         exact Dw G hs l _ K z hD' h (fun s2 a2 w2 β2 g1=>hQ s2 a2 w2 β2 ((ag.mono hDi).trans g1)) _ (hdn.set hr) hc.2 _ w β hb (invP hI) (r.put fun _=>q3)
      ·cases hop
     |_=>rw[hoo] at hop;cases hop
    |false=>
     simp only[cond_false] at hop
     simp only[Hy,Bool.and_eq_true,beq_iff_eq] at hc
     refine iQ hc.1 (by simp) fun i' hi'=> ?_
     simp at hi';subst hi'
     have hr:i'∈Region.ready .any al.toArray listed:=by rw[hc.1];simp
     rw[Bool.or_eq_true] at hop
     rcases hop with hop|hop
     ·cases hoo:o.op with
      |store t x y=>
       rw[hoo] at hop
       simp only[stW] at hop
       split at hop
       ·rename_i b off hx
        unfold one stp at h
        rw[hoo] at h
        simp only[hx] at h
        split at h
        ·rename_i ti b' off' ps h1 h2 h3
         cases h2
         split at h
         ·rename_i T cs us rv cv h4
          rw[aP] at h4
          cases hbb:(Nat.beq (len ps) ti.k&&(Nat.ble (off+ti.k) (len cs)&&zM ps)) with
          |false=>rw[hbb] at h;cases h
          |true=>
           rw[hbb] at h
           simp only[cond_true] at h
           simp only[Bool.and_eq_true,bC] at hbb
           obtain⟨w',β',t',bb,e1,r1,hev,hbel,e2,e3⟩:=Dp G.ti r hoo h1 hx h3 h4 (Nat.eq_of_beq_eq_true hbb.1) (Nat.le_of_ble_eq_true hbb.2.1) hbb.2.2
           have hyb:Yb bb:=(hI b _ _ bb h4 rfl e2 e3).1 (kS.1 hop)
           have hb':Bel Yb wS w':=hb.trans ⟨hbel.os,hbel.tape,hbel.output,hbel.size,fun k hk hy=>hbel.block k hk fun e=>hy (by rw[e];exact hyb)⟩
           have hI':=invP (x:= .l .any) (hI.go (E:=E) (Y:=Y) (t:=(trn s b (.box T (Wq cs off ps) (Wq us off (ps.map fun _=>Nat.succ s.m.k))) rv).t) (fr:=(trn s b (.box T (Wq cs off ps) (Wq us off (ps.map fun _=>Nat.succ s.m.k))) rv).fr) rfl r.hp (by simp[trn,bK]) hev)
           have ag:=put' (s1:=trn s b (.box T (Wq cs off ps) (Wq us off (ps.map fun _=>Nat.succ s.m.k))) rv) (x:= .l .any) rfl rfl (Ic h4 (Nat.eq_of_beq_eq_true hbb.1) (Nat.le_of_ble_eq_true hbb.2.1) (r.aBM h4))
           refine wpOp_step hg fun K' hK'=> ?_
           rw[if_pos hw]
           refine wpo (.inr ⟨e1,rfl⟩) (hK' _ _ ⟨fun _=>hb',?_⟩)
           exact Dw G hs l _ K z hD' h (fun s2 a2 w2 β2 g1=>hQ s2 a2 w2 β2 ((ag.mono hDi).trans g1)) _ (hdn.set hr) hc.2.2 _ w' β' hb' hI' (r1.put fun _=>trivial)
         ·cases h
        ·rename_i h2 _;cases h2
        ·rename_i h2 _;cases h2
        ·cases h
       ·cases hop
      |_=>rw[hoo] at hop;cases hop
     ·have hc0:uO FZ o.op=0:=by
       cases hoo:o.op<;>rw[hoo] at hop<;>first|rfl|cases hop
      have hgr:grd Y TI FZ al o s (fun s'=>aVo Y TI FZ al bs l s' K)=some z:=by
       unfold grd aI2;rw[hgd];exact h
      obtain⟨v,s1,h1,h2,h3,h4⟩:=bCx G r hc0 hgr
      have hI':Xq bs Yb wS.heap.size s1 β:=fun b e t k k1 k2 k3 k4=>by
       have hbl:b<s.m.o.length:=by rw[←r.hp.len];exact lt_of_some k3
       exact hI b _ t k (List.getElem?_eq_getElem hbl) ((h4.m.o b _ _ (List.getElem?_eq_getElem hbl) k1).2.1 k2) k3 k4
      refine wpOp_step hg fun K' hK'=> ?_
      rw[if_pos hw]
      rcases h1 with⟨_,h1⟩|⟨h1,_⟩
      ·refine wpo (.inl (h1 w (Ext.refl w))) (hK' _ _ ⟨fun _=>hb,?_⟩)
       exact Dw G hs l _ K z hD' h3 (fun s2 a2 w2 β2 g1=>hQ s2 a2 w2 β2 ((h4.mono hDi).trans g1)) _ (hdn.set hr) hc.2.2 _ w β hb hI' h2
      ·rw[hw] at h1;cases h1
def Env.pinned (E:Env U g)(l:List (Sv U×Value)):Env U g:=⟨E.X0,E.Y0,E.w0,E.prm,E.fr,E.h0,E.hY,E.hXY,E.hg,l++E.pin⟩
theorem aZ.pins {C:Cod U}(r:aZ C E s a w β){ps:List (Sv U×Value)}(h:∀x∈ps,x.1.mean C w (E.X β) β s.m x.2):aZ C (E.pinned ps) s a w β:=
 ⟨⟨r.hp.ext,r.hp.len,r.hp.vers,r.hp.cnt,r.hp.new,r.hp.dist,r.hp.nd,r.hp.ok,fun x hx=>(List.mem_append.1 hx).elim (h x) (r.hp.pin x),r.hp.prm,r.hp.fr⟩,r.defers,r.tsz,r.tm⟩
theorem aZ.aCQ {C:Cod U}{ps:List (Sv U×Value)}(r:aZ C (E.pinned ps) s a w β):aZ C E s a w β:=
 ⟨⟨r.hp.ext,r.hp.len,r.hp.vers,r.hp.cnt,r.hp.new,r.hp.dist,r.hp.nd,r.hp.ok,fun x hx=>r.hp.pin x (List.mem_append.2 (.inr hx)),r.hp.prm,r.hp.fr⟩,r.defers,r.tsz,r.tm⟩
theorem aPl {C:Cod U}{m:Mm U}(H:Hp C E m β w):∀(bs:List Nat),bxs bs m.o=true→∃ps:List (Sv U×Value),(∀x∈ps,x.1.mean C w (E.X β) β m x.2)∧∀b∈bs,∃t k,β[b]? =some t∧t.b=some k∧(Sv.l (.box b 0),Value.pointer (some ⟨k,0,none⟩))∈ps
 |[],_=>⟨[],by simp,by simp⟩
 |b::bs,h=>by
  have h':(match nth m.o b with|some ⟨.box ..,_,_⟩=>bxs bs m.o|_=>false)=true:=h
  split at h'
  ·rename_i T cs us rv cv ho
   rw[aP] at ho
   obtain⟨t,ht⟩:=H.tr ho
   obtain⟨_,k,vs,e1,e2,e3,e4⟩:=H.ok b t _ ht ho
   obtain⟨ps,p1,p2⟩:=aPl H bs h'
   refine⟨(Sv.l (.box b 0),Value.pointer (some ⟨k,0,none⟩))::ps,fun x hx=> ?_,fun b' hb=> ?_⟩
   ·rcases List.mem_cons.1 hx with rfl|hx
    ·exact⟨rfl,_,t,ho,ht,fun _=>⟨k,e1,rfl⟩⟩
    ·exact p1 x hx
   ·rcases List.mem_cons.1 hb with rfl|hb
    ·exact⟨t,k,ht,e1,by simp⟩
    ·obtain⟨t',k',q1,q2,q3⟩:=p2 b' hb
     exact⟨t',k',q1,q2,by simp[q3]⟩
  ·cases h'
theorem aPm {Yb:Nat→Prop}(hY:∀k,Yb k→E.X β k){t:Nat}{i:TInfo}(hti:tiB P t i=true){τ o:Nat}{zz:U.El τ}{y:Sv U}{v:Value}(hm:(Lf.ptr τ zz o:Lf U).mean Y.C w (E.X β) β s.m v)(h:load Y s i (.ptr τ zz o)=some y):
  ∃p v',v= .pointer (some p)∧(∀w',Bel Yb w w'→(loadVar t p).run P w'= .ok v' w')∧y.mean Y.C w (E.X β) β s.m v':=by
 simp only[load] at h
 have hm':Rd w (E.X β) [] v (.elem ((U.enc τ zz).drop o)):=hm
 cases v with
 |pointer p=>
  cases hm' with
  | @elem _ ad _ val hX hb hcell hrd=>
   have hlen:((List.range ((Y.C.cel τ zz).drop o).length).map val).length=((Y.C.cel τ zz).drop o).length:=by simp
   obtain⟨v',q1,q2⟩:=K5 (S:=Bel Yb w) (P:=P) (p:=ad) (vs:=(List.range ((Y.C.cel τ zz).drop o).length).map val) hti h (m:=s.m) (C:=Y.C) (w:=w) (X:=E.X β) (β:=β) ⟨hlen,fun j u c h5 h6=>by
     have hjl:=lt_of_some h6
     simp only[List.getElem?_map,List.getElem?_range hjl,Option.map_some,Option.some.injEq] at h5
     subst h5
     have hd:((U.enc τ zz).drop o)[j]? =some c.toV:=by
      rw[←Y.C.hcel,←List.map_drop,List.getElem?_map,h6];rfl
     have hr:=hrd j _ hd
     have hdat:=Y.C.hdat τ zz c (List.mem_of_mem_drop (List.mem_of_getElem? h6))
     cases c with
     |int k n=>exact hr.aAN
     |bool b=>exact hr.aAV
     |str b=>exact hr.aAW
     |sl τ' l=>exact hr
     |_=>cases hdat⟩ (fun w' he j u hj=>by
     have hjl:j<((Y.C.cel τ zz).drop o).length:=by have:=lt_of_some hj;rw[hlen] at this;exact this
     simp only[List.getElem?_map,List.getElem?_range hjl,Option.map_some,Option.some.injEq] at hj
     subst hj
     have hc:=hcell j (((U.enc τ zz).drop o)[j]'(by rw[←Y.C.hcel,←List.map_drop,List.length_map];exact hjl)) (List.getElem?_eq_getElem _)
     exact(World.cell?_of_block (a:=ad.add j) (w:=w) (w':=w') (by rw[add_block];exact he.block _ hb fun hy=>hX (hY _ hy))).trans hc)
   exact⟨_,v',rfl,q1,q2⟩
 |_=>cases hm'
def Bl (P:Program){γ:Type}(x:Sem γ):Prop:=∀(w w1:World) (v:γ),x.run P w= .ok v w1→w1=w∧∀w',x.run P w'= .ok v w'
theorem Bl.pure {γ:Type}(c:γ):Bl P (Pure.pure c:Sem γ):=fun w w1 v h=>by
 simp only[Sem.run_pure] at h ⊢
 injection h with h1 h2
 subst h1 h2
 exact⟨rfl,fun _=>rfl⟩
theorem Bl.bind {γ δ:Type}{x:Sem γ}{f:γ→Sem δ}(hx:Bl P x)(hf:∀c,Bl P (f c)):Bl P (x>>=f):=fun w w1 v h=>by
 rw[Sem.run_bind] at h
 cases hr:x.run P w with
 |ok c w2=>
  rw[hr] at h
  obtain⟨e,h1⟩:=hx _ _ _ hr
  subst e
  obtain⟨e2,h2⟩:=hf c _ _ _ h
  subst e2
  exact⟨rfl,fun w'=>by rw[Sem.run_bind,h1 w'];exact h2 w'⟩
 |halt y w2=>rw[hr] at h;cases h
theorem Bl.no {γ:Type}{x:Sem γ}(hx:∀(w w1:World) (v:γ),x.run P w≠ .ok v w1):Bl P x:=fun w w1 v h=>absurd h (hx w w1 v)
theorem Bl.ite {γ:Type}{c:Prop}[Decidable c]{x y:Sem γ}(hx:Bl P x)(hy:Bl P y):Bl P (if c then x else y):=by split<;>assumption
theorem Bl.und (t:TypeId):Bl P (underlying t):=fun w w1 v h=>by
 unfold underlying at h ⊢
 simp only[Sem.run_bind] at h ⊢
 cases hu:P.underlying t with
 |none=>simp[hu] at h
 |some d=>
  simp[hu] at h ⊢
  exact⟨h.2.symm,h.1⟩
theorem Bl.size (t:TypeId):Bl P (sizeOf t):=fun w w1 v h=>by
 unfold sizeOf typeInfo at h ⊢
 simp only[Sem.run_bind] at h ⊢
 cases hu:P.info? t with
 |none=>simp[hu] at h
 |some d=>
  simp[hu] at h ⊢
  exact⟨h.2.symm,h.1⟩
theorem Bl.sure (v:Value):Bl P (Instr.sureAddr v):=by
 unfold Instr.sureAddr
 split
 ·exact Bl.pure _
 ·exact Bl.no fun _ _ _ h=>by simp at h
theorem Bl.asInt (v:Value):Bl P (asIntOf v):=by
 unfold asIntOf
 split
 ·exact Bl.pure _
 ·exact Bl.no fun _ _ _ h=>by simp at h
 ·exact Bl.no fun _ _ _ h=>by simp at h
theorem then_ok {γ δ:Type}{x:Result γ}{f:γ→World→Result δ}{c:δ}{w1:World}(h:x.andThen f= .ok c w1):∃y w2,f y w2= .ok c w1:=by
 cases x with
 |ok y w2=>exact⟨y,w2,h⟩
 |halt y w2=>cases h
theorem Bl.stuck {γ:Type}(s:String):Bl P (stuck s:Sem γ):=Bl.no fun _ _ _ h=>by simp at h
theorem Bl.aCX {γ:Type}(u:Unsupported):Bl P (unsupported u:Sem γ):=Bl.no fun _ _ _ h=>by simp at h
theorem Bl.bounds {γ:Type}(k:IntKind)(x y:Int)(c:BoundsCode):Bl P (boundsPanic k x y c:Sem γ):=Bl.no fun w w1 v h=>by
 unfold boundsPanic at h
 dsimp only at h
 split at h<;>rw[Sem.run_bind] at h<;>obtain⟨_,_,h2⟩:=then_ok h<;>simp[runtimePanic] at h2
theorem Bl.index (t:TypeId)(A:Option Addr)(n c:Nat)(ix:Value):Bl P (Instr.indexAt t (.slice A n c) ix):=by
 unfold Instr.indexAt
 dsimp only
 repeat' first
  |with_reducible exact Bl.pure _
  |with_reducible exact Bl.bounds ..
  |with_reducible exact Bl.und _
  |with_reducible exact Bl.size _
  |with_reducible exact Bl.sure _
  |with_reducible exact Bl.asInt _
  |with_reducible exact Bl.stuck _
  |with_reducible exact Bl.aCX _
  |with_reducible refine Bl.ite ?_ ?_
  |with_reducible refine Bl.bind ?_ fun _=> ?_
  |split
theorem Bl.pick (o:Oper){c x y:Operand}(ho:o.op= .pick c x y)(ρ:Operand→Value):Bl P (execOp ρ o):=by
 simp only[execOp,ho]
 refine Bl.bind ?_ fun _=>Bl.pure _
 unfold asBool
 split
 ·exact Bl.pure _
 ·exact Bl.no fun _ _ _ h=>by simp at h
theorem aWb (G : Good P g Y TI FZ) {bs : List Nat} {Yb : Nat → Prop} {al : List Oper} {o : Oper} (r : aZ Y.C E s a w β) (hI : Xq bs Yb w.heap.size s β) (hY : ∀ k, Yb k → E.X β k) (he : erl bs s o.op = true) {v : Value} (hv : (execOp a.eval o).run P w = .ok (.value v) w) {K : St U → Option α} {z : α} (h : one Y TI FZ o s K = some z) : ∀ w', Bel Yb w w' → (execOp a.eval o).run P w' = .ok (.value v) w' := by
  have vof : ∀ {x : Sem Value} {w1 : World} {u : Value}, x.run P w1 = .ok u w1 → (do pure (Next.value (← x)) : Sem Next).run P w1 = .ok (.value u) w1 := fun h => by simp [h]
  cases hoo : o.op with
  | move x => exact fun w' _ => Ii (by rw [hoo]; rfl) hv w'
  | assign x => exact fun w' _ => Ii (by rw [hoo]; rfl) hv w'
  | extract x i => exact fun w' _ => Ii (by rw [hoo]; rfl) hv w'
  | pick c x y => exact fun w' _ => (Bl.pick o hoo _ _ _ _ hv).2 w'
  | load t x =>
    rw [hoo] at he
    simp only [erl] at he
    unfold one at h
    rw [hoo] at h
    replace h : (match (match iP TI t, dP s x with
      | some i, .l p => load Y s i p
      | _, _ => none) with
      | some y => K (put s o.dst y)
      | none => none) = some z := h
    have fin : ∀ {p : Addr} {v' : Value}, a.eval x = .pointer (some p) → (∀ w', Bel Yb w w' → (loadVar t p).run P w' = .ok v' w') → ∀ w', Bel Yb w w' → (execOp a.eval o).run P w' = .ok (.value v) w' := fun {p v'} q1 q2 w' hb => by
      have e : ∀ w', Bel Yb w w' → (execOp a.eval o).run P w' = .ok (.value v') w' := fun w' hb => by simp [execOp, hoo, q1, Instr.loadAt, Instr.sureAddr, q2 w' hb]
      have := (e w (Bel.refl w)).symm.trans hv
      injection this with this _
      injection this with this
      rw [← this]; exact e w' hb
    split at he
    · rename_i b off hx
      rw [hx] at h
      cases hf : iP TI t with
      | none => rw [hf] at h; cases h
      | some ti =>
        rw [hf] at h
        simp only at h
        cases hld : load Y s ti (.box b off) with
        | none => rw [hld] at h; cases h
        | some y =>
          obtain ⟨p, v', q1, q2, _⟩ := aBc r hI (Bel.refl w) (bH G.ti hf) (kP r hx) hld (aZt he)
          exact fin q1 q2
    · rename_i τ zz off hx
      rw [hx] at h
      cases hf : iP TI t with
      | none => rw [hf] at h; cases h
      | some ti =>
        rw [hf] at h
        simp only at h
        cases hld : load Y s ti (.ptr τ zz off) with
        | none => rw [hld] at h; cases h
        | some y =>
          obtain ⟨p, v', q1, q2, _⟩ := aPm hY (bH G.ti hf) (kP r hx) hld
          exact fin q1 q2
    · cases he
  | fieldAddr t y f =>
    unfold one at h
    rw [hoo] at h
    replace h : (match (match iP TI t, dP s y with
      | some ⟨.st fs, _, _⟩, .l p => match fld fs f with
        | some (off, _, _) => match rD s.m off p with
          | some z => some (.l z)
          | none => none
        | none => none
      | _, _ => none) with
      | some y => K (put s o.dst y)
      | none => none) = some z := h
    cases hp : (match iP TI t, dP s y with
      | some ⟨.st fs, _, _⟩, .l p => match fld fs f with
        | some (off, _, _) => match rD s.m off p with
          | some z => some (Sv.l z)
          | none => none
        | none => none
      | _, _ => none) with
    | none => rw [hp] at h; cases h
    | some x0 =>
      split at hp
      · rename_i fs i z p h1 h2
        split at hp
        · rename_i off ft n h3
          split at hp
          · rename_i q h4
            have hfb := (Xg (bH G.ti h1) rfl).2.1
            simp only [fld, aP] at h3
            have h5 := (aEp hfb h3).1
            rw [Nat.zero_add] at h5
            obtain ⟨v', q1, q2⟩ := Xj r h5 (kP r h2) h4
            have e : ∀ w' : World, (execOp a.eval o).run P w' = .ok (.value v') w' := fun w' => by simp [execOp, hoo, q1]
            have := (e w).symm.trans hv
            injection this with this _
            injection this with this
            intro w' _
            rw [← this]; exact e w'
          · cases hp
        · cases hp
      · cases hp
  | indexAddr t x y =>
    rw [hoo] at he
    simp only [erl] at he
    split at he
    · rename_i τ l k n hx hy
      have hm : Rd w (E.X β) [] (a.eval x) (.slice (U.K τ) (l.map (U.enc τ))) := kP r hx
      cases hvx : a.eval x with
      | slice A n c =>
        have e : ∀ w' : World, (execOp a.eval o).run P w' = (do pure (Next.value (← Instr.indexAt t (.slice A n c) (a.eval y))) : Sem Next).run P w' := fun w' => by simp only [execOp, hoo, hvx]
        rw [e] at hv
        intro w' _
        rw [e]
        exact (Bl.bind (Bl.index _ _ _ _ _) (fun _ => Bl.pure _) _ _ _ hv).2 w'
      | _ => rw [hvx] at hm; cases hm
    · cases he
  | binOp b t x y u =>
    rw [hoo] at he
    simp only [erl] at he
    have hxy : ∀ {k m k' n}, rR s x = .l (.int k m) → rR s y = .l (.int k' n) → a.eval x = .int k m ∧ a.eval y = .int k' n := fun {k m k' n} hx hy =>
      ⟨(kP r (x := x) (show dP s x = .l (.int k m) by unfold dP; rw [hx]; rfl)).1, (kP r (x := y) (show dP s y = .l (.int k' n) by unfold dP; rw [hy]; rfl)).1⟩
    intro w' _
    split at he <;> first
      | (rename_i k m k' n hx hy
         obtain ⟨e1, e2⟩ := hxy hx hy
         by_cases hk : k = k'
         · subst hk
           simp [execOp, hoo, e1, e2, eqGuard_at_int, binOp_add, binOp_sub, binOp_lss, binOp_leq, binOp_gtr, binOp_geq, binOp_eql, binOp_neq, Op.intArith] at hv ⊢
           exact hv
         · simp [execOp, hoo, e1, e2, eqGuard_at_int, binOp, hk] at hv)
      | cases he
  | _ => rw [hoo] at he; cases he
theorem Xq.am {bs:List Nat}{Yb:Nat→Prop}{n:Nat}(h:Xq bs Yb n s β)(r:Hp Y.C E s.m β w)(ha:Am s.m s'.m):Xq bs Yb n s' β:=fun b e t k k1 k2 k3 k4=>by
 have hbl:b<s.m.o.length:=by rw[←r.len];exact lt_of_some k3
 exact h b _ t k (List.getElem?_eq_getElem hbl) ((ha.o b _ _ (List.getElem?_eq_getElem hbl) k1).2.1 k2) k3 k4
theorem bC3 {bs:List Nat}{o:Op}(h:erl bs s o=true):uO FZ o=0:=by
 cases o<;>first|rfl|cases h
theorem aZu {d:Option Nat}{x:Sv U}:(EV.put s d x).m=s.m:=by cases d<;>rfl
end
end Go.EV
