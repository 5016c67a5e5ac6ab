import Derived.Test.YtehmmnigkcmhoaaGreatDoorEVywtoz
import Derived.Test.YtehmmnigkcmhoaaGreatDoorEVntorp
import Derived.Test.YtehmmnigkcmhoaaGreatDoorVKjtos
import Derived.Lib.SplitLaws
import Derived.HandedShaped
/-
  THE EVALUATOR's KIT: calls that are gone through in place. Plain theorems over any program; the conditions stand in each.
-/
set_option linter.unusedVariables false
set_option linter.unusedSimpArgs false
namespace Go.EV
open Go.RowKit Go.VK
variable {U:Uni} {Y:Lay U} {TI:List (Nat×TInfo)} {FZ:List (Nat×Sum U)} {P:Program} {g:GI} {E:Env U g}
section
variable {s:St U} {a:Act} {w w0:World} {β:List Tr}
theorem aVj (hti:qO P TI=true)(r:aW Y.C E s a w β){x:ResultVar}{y:Sv U}(h:aYz TI s x=some y):∃v,(Vt P w a.tmps x).run P w= .ok v w∧y.mean Y.C w (E.X β) β s.m v:=by
 cases x with
 |tmp n=>exact⟨_,by simp[Vt],r.tm n y (by rw[←aM];exact h)⟩
 |cell c t=>
  simp only[aYz] at h
  split at h
  ·rename_i b i h1 h2
   have hl:load Y s i (.box b 0)=some y:=h
   have hmb:(Lf.box b 0:Lf U).mean Y.C w (E.X β) β s.m (a.tmps.getD c undef):=r.tm c (.l (.box b 0)) (by rw[←aM];exact h1)
   obtain⟨p,v',k1,k2,k3⟩:=aMu r (bQ hti h2) hmb hl
   exact⟨v',by simp only[Vt,k1,asAddr,Sem.run_bind,Sem.run_pure,Result.andThen_ok,k2 w (Ext.refl w)],k3⟩
  ·cases h
theorem sD (hti:qO P TI=true)(r:aW Y.C E s a w β):∀{l:List ResultVar} {xs:List (Sv U)},Qg TI s l=some xs→∃vs:List Value,(l.mapM (Vt P w a.tmps)).run P w= .ok vs w∧vs.length=xs.length∧∀(i:Nat) (v:Value) (x:Sv U),vs[i]? =some v→xs[i]? =some x→x.mean Y.C w (E.X β) β s.m v
 |[],xs,h=>by
  have:=Option.some.inj h;subst this
  exact⟨[],rfl,rfl,by simp⟩
 |x::l,xs,h=>by
  simp only[Qg] at h
  cases h1:aYz TI s x with
  |none=>rw[h1] at h;cases h
  |some y=>
   cases h2:Qg TI s l with
   |none=>rw[h1,h2] at h;cases h
   |some ys=>
    rw[h1,h2] at h
    have:=Option.some.inj h;subst this
    obtain⟨v,k1,k2⟩:=aVj hti r h1
    obtain⟨vs,k3,k4,k5⟩:=sD hti r h2
    refine⟨v::vs,by simp[List.mapM_cons,k1,k3],by simp[k4],fun i v' W q1 q2=> ?_⟩
    cases i with
    |zero=>simp at q1 q2;subst q1;subst q2;exact k2
    |succ i=>exact k5 i v' W (by simpa using q1) (by simpa using q2)
theorem uX {fn:Func}{l:List ResultVar}(hf:fn.results=l.toArray){vs:List Value}(h:(l.mapM (Vt P w a.tmps)).run P w= .ok vs w):(results fn a.tmps).run P w= .ok (if h:vs.toArray.size=1 then vs.toArray[0] else .tuple vs.toArray) w:=by
 have e1:results fn a.tmps=(do
   let vs←fn.results.mapM (Vt P w a.tmps)
   pure (if h:vs.size=1 then vs[0] else .tuple vs)):=rfl
 rw[e1,hf,List.mapM_toArray]
 simp only[Sem.run_bind,Sem.run_map,h,Result.andThen_ok,Sem.run_pure]
end
section
def mM (P:Program)(IL:Il):Prop:=∀(f:Nat) (c:Code) (n:Nat) (rv:List ResultVar),iF IL f=some (c,n,rv)→∃fn,P.funcs[f]? =some fn∧fn.body=some c∧fn.ntmps=n∧fn.results=rv.toArray∧∀args w,(callFunc f args).run P w= .ok (.enter f args) w
theorem bBv:mM P []:=fun _ _ _ _ h=>by cases h
theorem aSt {IL:Il}{f:Nat}{c:Code}{n:Nat}{rv:List ResultVar}{fn:Func}(hf:P.funcs[f]? =some fn)(hb:fn.body=some c)(hn:fn.ntmps=n)(hl:fn.results=rv.toArray)(hE:∀args w,(callFunc f args).run P w= .ok (.enter f args) w)(h:mM P IL):mM P ((f,c,n,rv)::IL):=fun f' c' n' rv' h'=>by
 have h':cond (Nat.beq f f') (some (c,n,rv)) (iF IL f')=some (c',n',rv'):=h'
 cases hb':Nat.beq f f' with
 |true=>
  rw[hb'] at h'
  have e:=Option.some.inj h'
  injection e with e1 e2
  injection e2 with e2 e3
  subst e1;subst e2;subst e3
  have:=Nat.eq_of_beq_eq_true hb';subst this
  exact⟨fn,hf,hb,hn,hl,hE⟩
 |false=>rw[hb'] at h';exact h f' c' n' rv' h'
def bEe (s:St U)(a:Act):List (Sv U×Value):=s.t.zipIdx.map fun p=>(p.1,a.tmps.getD p.2 undef)
theorem aNp {C:Cod U}{w:World}{X:Nat→Prop}{β:List Tr}{m:Mm U}:∀{ys:List (Sv U)} {l:List (Bool×List (Lf U))} {vs:List Value},aR8 ys=some l→vs.length=ys.length→(∀(i:Nat) (v:Value) (x:Sv U),vs[i]? =some v→ys[i]? =some x→x.mean C w X β m v)→vs.length=l.length∧∀(i:Nat) (v:Value) (x:Bool×List (Lf U)),vs[i]? =some v→l[i]? =some x→Mp C w X β m v x
 |[],l,vs,h,hl,_=>by
  have:=Option.some.inj h;subst this
  exact⟨hl,fun i v x _ h=>by simp at h⟩
 |y::ys,l,[],h,hl,_=>by simp at hl
 |y::ys,l,v::vs,h,hl,hm=>by
  simp only[aR8] at h
  cases h1:sv2 y with
  |none=>rw[h1] at h;cases h
  |some p=>
   cases h2:aR8 ys with
   |none=>rw[h1,h2] at h;cases h
   |some ps=>
    rw[h1,h2] at h
    have:=Option.some.inj h;subst this
    obtain⟨k1,k2⟩:=aNp h2 (by simpa using hl) (fun i v x p q=>hm (i+1) v x (by simpa using p) (by simpa using q))
    refine⟨by simp[k1],fun i u x p' q=> ?_⟩
    cases i with
    |zero=>
     simp at p' q;subst p';subst q
     have h0:=hm 0 v y rfl rfl
     cases y with
     |l x=>have:=Option.some.inj h1;subst this;exact⟨x,rfl,h0⟩
     |a cs=>have:=Option.some.inj h1;subst this;exact h0
     |t xs=>cases h1
    |succ i=>exact k2 i u x (by simpa using p') (by simpa using q)
theorem aVk {C:Cod U}{w:World}{X:Nat→Prop}{β:List Tr}{m:Mm U}{ys:List (Sv U)}{y:Sv U}{vs:List Value}(h:bBc ys=some y)(hl:vs.length=ys.length)(hm:∀(i:Nat) (v:Value) (x:Sv U),vs[i]? =some v→ys[i]? =some x→x.mean C w X β m v):y.mean C w X β m (if h:vs.toArray.size=1 then vs.toArray[0] else .tuple vs.toArray):=by
 match ys,vs,h,hl,hm with
 |[x],[v],h,_,hm=>
  have:=Option.some.inj h;subst this
  exact hm 0 v x rfl rfl
 |[],[],h,_,_=>
  have:=Option.some.inj h;subst this
  exact⟨[],rfl,rfl,fun i v x h=>by simp at h⟩
 |x::x'::xs,v::v'::vs,h,hl,hm=>
  replace h:(match aR8 (x::x'::xs) with|some l=>some (Sv.t l)|none=>none)=some y:=h
  cases h1:aR8 (x::x'::xs) with
  |none=>rw[h1] at h;cases h
  |some l=>
   rw[h1] at h
   have:=Option.some.inj h;subst this
   rw[dif_neg (by simp)]
   obtain⟨k1,k2⟩:=aNp h1 hl hm
   exact⟨_,rfl,k1,k2⟩
variable {IL:Il} {α:Type} {EV:An→Code→St U→(St U→Option α)→Option α}
def aRb (P:Program)(Y:Lay U)(g:GI)(EV:An→Code→St U→(St U→Option α)→Option α):Prop:=∀(E:Env U g),E.fr=[]→E.prm=[]→∀(an:An) (c:Code) (s:St U) (K:St U→Option α) (z:α),EV an c s K=some z→Snd P Y E (fun _=>True) c s z K (fun _ _=>none) K
theorem aXs (G:Good P g Y TI FZ)(hI:mM P IL)(hEV:aRb P Y g EV)(hE:E.fr=[])(hP:E.prm=[]){s:St U}{a:Act}{w:World}{β:List Tr}(r:aW Y.C E s a w β){al:List Oper}{o:Oper}{an:An}{K:St U→Option α}{z:α}(h:inl TI IL EV an o s K=some z){K':Act→World→Prop}{Q:Exit→Act→World→Prop}
  (hk:∀s' a' w' β',Ag (Wr al o) s s'→K s'=some z→aW Y.C E s' a' w' β'→K' a' w'):o.wp P a w K' Q:=by
 unfold inl at h
 split at h
 ·rename_i f xa ats ho
  cases hf:iF IL f with
  |none=>rw[hf] at h;cases h
  |some p=>
   obtain⟨c,n,rv⟩:=p
   rw[hf] at h
   simp only at h
   cases hb:Nat.ble (len xa.toList) n with
   |false=>rw[hb] at h;cases h
   |true=>
    rw[hb] at h
    simp only[cond_true] at h
    have hlen:xa.toList.length≤n:=by have:=Nat.le_of_ble_eq_true hb;rwa [aZ] at this
    obtain⟨fn,f1,f2,f3,f4,f5⟩:=hI f c n rv hf
    let E':Env U g:=E.pinned (bEe s a)
    have hX:∀β,E'.X β=E.X β:=fun _=>rfl
    have H':Hp Y.C E' s.m β w:=⟨r.hp.ext,r.hp.len,r.hp.vers,r.hp.cnt,r.hp.new,r.hp.dist,r.hp.nd,r.hp.ok,fun x hx=>by
     rcases List.mem_append.1 hx with hx|hx
     ·obtain⟨⟨y,m⟩,hy,rfl⟩:=List.mem_map.1 hx
      exact r.tm m y (by simpa using List.mem_zipIdx_iff_getElem?.1 hy)
     ·exact r.hp.pin x hx,r.hp.prm,r.hp.fr⟩
    have r':aW Y.C E' ⟨xa.toList.map (dN s)++List.replicate (n-len xa.toList) (.l .any),s.m,s.fr⟩ {tmps:=(xa.toList.map a.eval).toArray++Array.replicate (fn.ntmps-(xa.toList.map a.eval).toArray.size) undef,defers:=[]} w β:=by
     refine⟨H',rfl,?_,fun m x hx=> ?_⟩
     ·simp only[aZ,List.length_append,List.length_map,List.length_replicate,Array.size_append,List.size_toArray,Array.size_replicate,f3]
     ·by_cases hm:m<xa.toList.length
      ·rw[List.getElem?_append_left (by rw[List.length_map];exact hm)] at hx
       have h1:(xa.toList.map a.eval)[m]? =some ((xa.toList.map a.eval)[m]'(by rw[List.length_map];exact hm)):=List.getElem?_eq_getElem _
       obtain⟨y,e1,e2⟩:=rD (s:=s) (a:=a) m _ x h1 hx
       have hv:((xa.toList.map a.eval).toArray++Array.replicate (fn.ntmps-(xa.toList.map a.eval).toArray.size) undef).getD m undef=a.eval y:=by
        rw[←e1,Array.getD_eq_getD_getElem?,Array.getElem?_append_left (by simpa using hm)]
        simp[h1]
       show x.mean Y.C w (E'.X β) β s.m (((xa.toList.map a.eval).toArray++Array.replicate (fn.ntmps-(xa.toList.map a.eval).toArray.size) undef).getD m undef)
       rw[hv,e2]
       exact oC r
      ·rw[List.getElem?_append_right (by rw[List.length_map];omega)] at hx
       have:=List.mem_of_getElem? hx
       simp at this
       rw[this.2];trivial
    let R':Value→World→Prop:=fun v w'=>∃(y:Sv U) (s':St U) (β':List Tr),K (put ⟨s.t,s'.m,s.fr⟩ o.dst y)=some z∧aW Y.C E ⟨s.t,s'.m,s.fr⟩ a w' β'∧y.mean Y.C w' (E.X β') β' s'.m v∧Am s.m s'.m
    have done:∀s' a' w' β',Ag (fun _=>True) ⟨xa.toList.map (dN s)++List.replicate (n-len xa.toList) (.l .any),s.m,s.fr⟩ s'→(match Qg TI s' rv with
      |some ys=>match bBc ys with
       |some y=>K (put ⟨s.t,s'.m,s.fr⟩ o.dst y)
       |none=>none
      |none=>none)=some z→aW Y.C E' s' a' w' β'→a'.defers=[]∧∃v,(results fn a'.tmps).run P w'= .ok v w'∧∃v',Ending.returned v= .returned v'∧R' v' w':=fun s' a' w' β' hag hq r2=>by
     split at hq
     ·rename_i ys hys
      split at hq
      ·rename_i y hy
       obtain⟨vs,k1,k2,k3⟩:=sD G.ti r2 hys
       refine⟨r2.defers,_,uX f4 k1,_,rfl,y,s',β',hq,?_,aVk hy k2 k3,hag.m⟩
       have hp:Hp Y.C E s'.m β' w':=⟨r2.hp.ext,r2.hp.len,r2.hp.vers,r2.hp.cnt,r2.hp.new,r2.hp.dist,r2.hp.nd,r2.hp.ok,fun x hx=>r2.hp.pin x (List.mem_append.2 (.inr hx)),r2.hp.prm,r2.hp.fr⟩
       exact⟨hp,r.defers,r.tsz,fun m x hx=>r2.hp.pin (x,a.tmps.getD m undef) (List.mem_append.2 (.inl (List.mem_map.2 ⟨(x,m),List.mem_zipIdx_iff_getElem?.2 hx,rfl⟩)))⟩
      ·cases hq
     ·cases hq
    have hc:Calls P f (xa.toList.map a.eval).toArray w fun e w'=>∃v,e= .returned v∧R' v w':=by
     refine calls_of_wp f1 f2 ?_
     exact hEV E' hE hP an c _ _ z h _ (fun s' a' w' β' hg hq r2=>done s' a' w' β' hg hq r2) (fun i s' a' w' β' _ hq _=>by cases hq) (fun s' a' w' β' hg hq r2=>done s' a' w' β' hg hq r2) _ _ _ r'
    refine wpc (nM ho f5) hc ?_
    rintro v w' ⟨y,s',β',k1,k2,k3,k4⟩
    exact hk (put ⟨s.t,s'.m,s.fr⟩ o.dst y) _ w' β' (Ag.put (s:=s) (s':=⟨s.t,s'.m,s.fr⟩) ⟨fun _ _=>rfl,rfl,rfl,k4⟩ (fun n e=> .inl e)) k1 (k2.put fun _=>k3)
 ·cases h
theorem aGl (G:Good P g Y TI FZ)(hI:mM P IL)(hEV:aRb P Y g EV)(hE:E.fr=[])(hP:E.prm=[]){s:St U}{a:Act}{w:World}{β:List Tr}(r:aW Y.C E s a w β){al:List Oper}{i:Nat}{o:Oper}(ho:al[i]? =some o){l:List Nat}{an:An}{K:St U→Option α}{z:α}(h:ilr Y TI FZ IL EV al (i::l) an s K=some z):
  ∃an',ilo an'=ilo an∧∀(K':Act→World→Prop) (Q:Exit→Act→World→Prop),(∀s' a' w' β',Ag (Wr al o) s s'→ilr Y TI FZ IL EV al l an' s' K=some z→aW Y.C E s' a' w' β'→(Nat.ble (nZ FZ o.op) 1=true→Ext w w')→K' a' w')→if Region.wanted o (yielded al.toArray a.tmps)=true then o.wp P a w K' Q else K' (a.put o.dst undef) w:=by
 have plain:∀an',ilo an'=ilo an→grd Y TI FZ al o s (fun s'=>ilr Y TI FZ IL EV al l an' s' K)=some z→∃an',ilo an'=ilo an∧∀(K':Act→World→Prop) (Q:Exit→Act→World→Prop),(∀s' a' w' β',Ag (Wr al o) s s'→ilr Y TI FZ IL EV al l an' s' K=some z→aW Y.C E s' a' w' β'→(Nat.ble (nZ FZ o.op) 1=true→Ext w w')→K' a' w')→if Region.wanted o (yielded al.toArray a.tmps)=true then o.wp P a w K' Q else K' (a.put o.dst undef) w:=
  fun an' he h=>⟨an',he,fun K' Q hk=>aOu G r h hk⟩
 unfold ilr at h
 rw[aM,ho] at h
 cases an with
 |il k b q=>
  simp only at h
  cases hb:Nat.beq k i with
  |false=>rw[hb] at h;exact plain _ rfl h
  |true=>
   rw[hb] at h
   simp only[cond_true] at h
   cases hc:Nat.beq (nZ FZ o.op) 2 with
   |false=>rw[hc] at h;cases h
   |true=>
    rw[hc] at h
    simp only[cond_true] at h
    have hc:=Nat.eq_of_beq_eq_true hc
    refine⟨q,rfl,fun K' Q hk=> ?_⟩
    obtain⟨s1,r1,h1,h2⟩:=rX r h
    rcases h2 with⟨hw,h2⟩|⟨hw,h2⟩
    ·rw[if_pos hw]
     exact aXs G hI hEV hE hP r1 (al:=al) h2 (fun s' a' w' β' q1 q2 q3=>hk s' a' w' β' (h1.trans q1) q2 q3 (fun hh=>by rw[hc] at hh;cases hh))
    ·rw[if_neg (by rw[hw];simp)]
     exact hk _ _ w β (h1.put (fun n e=> .inl e)) h2 (r1.put (x:= .l .und) (v:=undef) (fun _=>rfl)) (fun _=>Ext.refl w)
 |_=>exact plain _ rfl h
theorem bCx (G:Good P g Y TI FZ)(hI:mM P IL)(hEV:aRb P Y g EV)(hE:E.fr=[])(hP:E.prm=[]){al:List Oper}{Q:Exit→Act→World→Prop}{D:Nat→Prop}:∀(n i:Nat) (an:An) (s:St U) (K:St U→Option α) (z:α),i+n=al.length→(∀o∈al,∀n,Wr al o n→D n)→ilr Y TI FZ IL EV al (rng n i) an s K=some z→
  (∀s' a w β,Ag D s s'→K s'=some z→aW Y.C E s' a w β→Q .normal a w)→∀a w β,aW Y.C E s a w β→wpList P al.toArray Q (al.drop i) a w
 |0,i,an,s,K,z,hn,hD,h,hQ,a,w,β,r=>by
  rw[List.drop_eq_nil_of_le (by omega)]
  exact wpList_nil (hQ s a w β (Ag.refl s) h r)
 |n+1,i,an,s,K,z,hn,hD,h,hQ,a,w,β,r=>by
  have hi:i<al.length:=by omega
  have ho:al[i]? =some al[i]:=List.getElem?_eq_getElem hi
  obtain⟨an',_,hk⟩:=aGl G hI hEV hE hP r ho (l:=rng n (Nat.succ i)) h
  rw[List.drop_eq_getElem_cons hi]
  refine wpList_step fun K' hK'=>hk K' _ fun s' a' w' β' q1 q2 q3 _=>hK' _ _ ?_
  have q1':=q1.mono (hD _ (List.getElem_mem hi))
  exact bCx G hI hEV hE hP n (i+1) an' s' K z (by omega) hD q2 (fun s2 a2 w2 β2 p1 p2 p3=>hQ s2 a2 w2 β2 (q1'.trans p1) p2 p3) a' w' β' q3
theorem bCy (G:Good P g Y TI FZ)(hI:mM P IL)(hEV:aRb P Y g EV)(hE:E.fr=[])(hP:E.prm=[]){al:List Oper}{Q:Exit→Act→World→Prop}{D:Nat→Prop}:∀(l:List Nat) (an:An) (s:St U) (K:St U→Option α) (z:α),(∀o∈al,∀n,Wr al o n→D n)→ilr Y TI FZ IL EV al l an s K=some z→
  (∀s' a w β,Ag D s s'→K s'=some z→aW Y.C E s' a w β→Q .normal a w)→∀listed,chz al.toArray l listed=true→∀a w β,aW Y.C E s a w β→wpAny P .any al.toArray Q l.length listed a w
 |[],an,s,K,z,_,h,hQ,listed,hc,a,w,β,r=>⟨by simpa[chz] using hc,hQ s a w β (Ag.refl s) h r⟩
 |i::l,an,s,K,z,hD,h,hQ,listed,hc,a,w,β,r=>by
  replace hc:((Region.ready .any al.toArray listed==[i])&&chz al.toArray l (listed.setIfInBounds i true))=true:=hc
  simp only[Bool.and_eq_true,beq_iff_eq] at hc
  cases ho:al[i]? with
  |none=>
   have:(none:Option α)=some z:=by
    have h':=h
    unfold ilr at h'
    rw[aM,ho] at h';exact h'
   cases this
  |some o=>
   obtain⟨an',_,hk⟩:=aGl G hI hEV hE hP r ho h
   have hg:al.toArray[i]? =some o:=by simpa using ho
   refine aRy hc.1 (wpOp_step hg fun K' hK'=>hk K' _ fun s' a' w' β' q1 q2 q3 _=>hK' _ _ ?_)
   have q1':=q1.mono (hD o (List.mem_of_getElem? ho))
   exact bCy G hI hEV hE hP l an' s' K z hD q2 (fun s2 a2 w2 β2 p1 p2 p3=>hQ s2 a2 w2 β2 (q1'.trans p1) p2 p3) _ hc.2 a' w' β' q3
theorem aVl (G:Good P g Y TI FZ)(hI:mM P IL)(hEV:aRb P Y g EV)(hE:E.fr=[])(hP:E.prm=[]){s:St U}{a:Act}{w:World}{β:List Tr}(r:aW Y.C E s a w β){al:List Oper}{i:Nat}{o:Oper}(ho:al[i]? =some o)(hc:nZ FZ o.op=0){l:List Nat}{an:An}{K:St U→Option α}{z:α}(h:ilr Y TI FZ IL EV al (i::l) an s K=some z):
  ∃an',ilo an'=ilo an∧grd Y TI FZ al o s (fun s'=>ilr Y TI FZ IL EV al l an' s' K)=some z:=by
 unfold ilr at h
 rw[aM,ho] at h
 cases an with
 |il k b q=>
  simp only at h
  cases hb:Nat.beq k i with
  |false=>rw[hb] at h;exact⟨_,rfl,h⟩
  |true=>
   rw[hb] at h
   simp only[cond_true] at h
   rw[hc] at h;cases h
 |_=>exact⟨_,rfl,h⟩
theorem bBw (G:Good P g Y TI FZ)(hI:mM P IL)(hEV:aRb P Y g EV)(hE:E.fr=[])(hP:E.prm=[]){al:List Oper}{a0:Option Nat}(hs:Region.noSelect al.toArray=true){Q:Exit→Act→World→Prop}{D:Nat→Prop}:∀(l:List (Nat×Bool)) (an:An) (s:St U) (K:St U→Option α) (z:α),(∀o∈al,∀n,Wr al o n→D n)→ilr Y TI FZ IL EV al (l.map Prod.fst) an s K=some z→
  (∀s' a w β,Ag D s s'→K s'=some z→aW Y.C E s' a w β→Q .normal a w)→
   ∀listed,Dn .any al.toArray listed→chk al.toArray a0 l listed=true→CG FZ al a0 l listed→∀a w β,aW Y.C E s a w β→dE P .any al.toArray a0 (NoPanic Q) (Ext w) l.length listed a w
 |[],an,s,K,z,_,h,hQ,listed,hd,hc,hg,a,w,β,r=>jE (P:=P) (a0:=a0) (S:=Ext w) (Q:=NoPanic Q) (by simpa[chk] using hc) (hQ s a w β (Ag.refl s) h r) 0
 |(i,fl)::l,an,s,K,z,hD,h,hQ,listed,hd,hc,hcg,a,w,β,r=>by
  replace h:ilr Y TI FZ IL EV al (i::l.map Prod.fst) an s K=some z:=h
  cases ho:al[i]? with
  |none=>
   have:(none:Option α)=some z:=by
    have h':=h
    unfold ilr at h'
    rw[aM,ho] at h';exact h'
   cases this
  |some o=>
   have hg:al.toArray[i]? =some o:=by simpa using ho
   have hmem:=List.mem_of_getElem? ho
   cases fl with
   |true=>
    simp only[chk,Bool.and_eq_true] at hc
    have hfr:Nat.beq (nZ FZ o.op) 0=true∧frees FZ al a0 l=true:=by
     rcases hcg with hcg|⟨_,hcg⟩
     ·have hcg':frees FZ al a0 ((i,true)::l)=true:=hcg
      simp only[frees,aM,ho,cond_true,Bool.and_eq_true] at hcg'
      exact hcg'
     ·exact absurd (Af hcg).1 (by simp)
    have hc0:=Nat.eq_of_beq_eq_true hfr.1
    obtain⟨an',_,h⟩:=aVl G hI hEV hE hP r ho hc0 h
    obtain⟨v,s',h1,h2,h3,h4⟩:=aZa G r hc0 h
    have hD':=hd.set (by simpa using hc.1.1.2)
    have h4':=h4.mono (hD o hmem)
    refine Gy (i:=i) (oi:=o) (v:=v) hg hs hc.1.1.1 hc.1.1.2 hc.1.2 hd (fun _ _ _ h=>h) ?_ (Ext.refl w) ?_
    ·rcases h1 with⟨k1,k2⟩|⟨k1,k2⟩
     ·exact .inl ⟨k1,k2⟩
     ·exact .inr ⟨k1,k2⟩
    ·exact bBw G hI hEV hE hP hs l an' s' K z hD h3 (fun s2 a2 w2 β2 p1 p2 p3=>hQ s2 a2 w2 β2 (h4'.trans p1) p2 p3) _ hD' hc.2 (.inl hfr.2) _ w β h2
   |false=>
    replace hc:((Region.ready .any al.toArray listed==[i])&&(a0 !=some i|| !gF a0 (listed.setIfInBounds i true))&&chk al.toArray a0 l (listed.setIfInBounds i true))=true:=hc
    simp only[Bool.and_eq_true,beq_iff_eq] at hc
    have hD':=hd.set (i:=i) (by rw[hc.1.1];simp)
    have hcase:(Nat.ble (nZ FZ o.op) 1=true∧frees FZ al a0 l=true)∨(gF a0 (listed.setIfInBounds i true)=false∧aBp l=true):=by
     rcases hcg with hcg|⟨hn,hcg⟩
     ·have hcg':frees FZ al a0 ((i,false)::l)=true:=hcg
      simp only[frees,aM,ho,cond_false] at hcg'
      cases hb:Nat.ble (nZ FZ o.op) 1 with
      |true=>rw[hb] at hcg';exact .inl ⟨rfl,hcg'⟩
      |false=>
       rw[hb] at hcg'
       simp only[cond_false,Bool.and_eq_true] at hcg'
       refine .inr ⟨?_,hcg'.2⟩
       cases a0 with
       |none=>exact absurd hcg'.1 (by simp)
       |some b=>
        have hbi:b=i:=Nat.eq_of_beq_eq_true hcg'.1
        subst hbi
        have:=hc.1.2
        simpa using this
     ·exact .inr ⟨Vs hn,(Af hcg).2⟩
    obtain⟨an',_,hk⟩:=aGl G hI hEV hE hP r ho h
    refine fP hc.1.1 (by simp) (fun i' hi'=> ?_)
    simp at hi';subst hi'
    refine wpOp_step hg fun K' hK'=>hk K' _ fun s' a' w' β' q1 q2 q3 q4=>hK' _ _ ?_
    have q1':=q1.mono (hD o hmem)
    have cont:=fun hh=>bBw G hI hEV hE hP hs l an' s' K z hD q2 (fun s2 a2 w2 β2 p1 p2 p3=>hQ s2 a2 w2 β2 (q1'.trans p1) p2 p3) _ hD' hc.2 hh a' w' β' q3
    rcases hcase with⟨c1,c2⟩|⟨c1,c2⟩
    ·have hx:=q4 c1
     exact⟨fun _=>hx,nW (fun x hx'=>Ext.trans hx hx') _ _ _ _ (cont (.inl c2))⟩
    ·exact⟨fun hn=>(by rw[c1] at hn;cases hn),kT _ _ _ _ c1 (cont (.inr ⟨c1,c2⟩))⟩
theorem bBx (G:Good P g Y TI FZ)(hI:mM P IL)(hEV:aRb P Y g EV)(hE:E.fr=[])(hP:E.prm=[]){s:St U}{a:Act}{w:World}{β:List Tr}{al:List Oper}{a0:Option Nat}{Q:Exit→Act→World→Prop}{i:Nat}{o:Oper}{n:Nat}{listed:Array Bool}{wS:World}(ho:al[i]? =some o){pre:Bool}(ha:a0Y a0 i listed=true)(hp:gF a0 listed=pre)(hpre:(pre&& !E8 a0 i)=false)
  {b:An} {K:St U→Option α} {z:α} (h:aFt al o (fun s=>inl TI IL EV b o s K) s K=some z) (r:aW Y.C E s a w β)
  (hk:∀s' a' w' β',Ag (Wr al o) s s'→K s'=some z→aW Y.C E s' a' w' β'→dE P .any al.toArray a0 (NoPanic Q) (Ext w') n (listed.setIfInBounds i true) a' w'):
  wpOp P al.toArray (NoPanic Q) i (fun a' w'=>(gF a0 (listed.setIfInBounds i true)=true→Ext wS w')∧dE P .any al.toArray a0 (NoPanic Q) (Ext wS) n (listed.setIfInBounds i true) a' w') a w:=by
 have hny:gF a0 (listed.setIfInBounds i true)=false:=(aBv ha hp).trans hpre
 have hg:al.toArray[i]? =some o:=by simpa using ho
 refine wpOp_step hg fun K' hK'=> ?_
 have fin:∀s' a' w' β',Ag (Wr al o) s s'→K s'=some z→aW Y.C E s' a' w' β'→K' a' w':=fun s' a' w' β' q1 q2 q3=>hK' _ _ ⟨fun hn=>(by rw[hny] at hn;cases hn),kT _ _ _ _ hny (hk s' a' w' β' q1 q2 q3)⟩
 obtain⟨s1,r1,h1,h2⟩:=rX r h
 rcases h2 with⟨hw,h2⟩|⟨hw,h2⟩
 ·rw[if_pos hw]
  exact aXs G hI hEV hE hP r1 (al:=al) h2 (fun s' a' w' β' q1 q2 q3=>fin s' a' w' β' (h1.trans q1) q2 q3)
 ·rw[if_neg (by rw[hw];simp)]
  exact fin _ _ w β (h1.put (fun n e=> .inl e)) h2 (r1.put (x:= .l .und) (v:=undef) (fun _=>rfl))
theorem aZj (G:Good P g Y TI FZ)(hI:mM P IL)(hEV:aRb P Y g EV)(hE:E.fr=[])(hP:E.prm=[]){al:List Oper}{a0:Option Nat}(hs:Region.noSelect al.toArray=true){Q:Exit→Act→World→Prop}{D:Nat→Prop}:∀(l:List (Nat×Bool)) (an:An) (pre st:Bool) (s:St U) (K:St U→Option α) (z:α),(∀i∈l,∀o,al[i.1]? =some o→∀n,Wr al o n→D n)→ilY Y TI FZ IL EV al a0 l an pre st s K=some z→
  (∀s' a w β,Ag D s s'→K s'=some z→aW Y.C E s' a w β→Q .normal a w)→∀listed,Dn .any al.toArray listed→wE al.toArray a0 l listed=true→gF a0 listed=pre→∀a w β wS,Lk E none st pre wS w→aW Y.C E s a w β→dE P .any al.toArray a0 (NoPanic Q) (Ext wS) l.length listed a w
 |[],an,pre,st,s,K,z,_,h,hQ,listed,_,hc,_,a,w,β,wS,_,r=>jE (P:=P) (a0:=a0) (S:=Ext wS) (Q:=NoPanic Q) (by simpa[wE] using hc) (hQ s a w β (Ag.refl s) h r) 0
 |(i,fl)::l,an,pre,st,s,K,z,hD,h,hQ,listed,hdn,hc,hp,a,w,β,wS,hl,r=>by
  unfold ilY at h
  rw[aM] at h
  cases ho:al[i]? with
  |none=>rw[ho] at h;cases h
  |some o=>
   rw[ho] at h
   simp only at h
   have hDi:=hD (i,fl) (by simp) o ho
   have hD':∀j∈l,∀o,al[j.1]? =some o→∀n,Wr al o n→D n:=fun j hj=>hD j (by simp[hj])
   cases fl with
   |true=>
    simp only[cond_true] at h
    simp only[wE,Bool.and_eq_true] at hc
    obtain⟨hr,hne⟩:=kW hc.1
    exact stepT G hs ho hdn hc.1 h hl.st (fun hn=>hl.pre (hp.symm.trans hn)) r fun v s' h1 h2 h3=>
     aZj G hI hEV hE hP hs l an pre st s' K z hD' h2 (fun s2 a2 w2 β2 g1=>hQ s2 a2 w2 β2 ((h1.mono hDi).trans g1)) _ (hdn.set hr) hc.2 ((qN hne).trans hp) _ w β wS hl h3
   |false=>
    simp only[wE,Bool.and_eq_true,beq_iff_eq] at hc
    simp only[cond_false] at h
    have hr:i∈Region.ready .any al.toArray listed:=by rw[hc.1];simp
    refine fP hc.1 (by simp) fun i' hi'=> ?_
    simp at hi';subst hi'
    have plain:∀an',grd Y TI FZ al o s (fun s'=>bif !(pre&& !E8 a0 i')||(Nat.ble (nZ FZ o.op) 1||unO none s'.m.o) then ilY Y TI FZ IL EV al a0 l an' (pre&& !E8 a0 i') (st&&Wd (none:Option (Nat×Nat))) s' K else none)=some z→wpOp P al.toArray (NoPanic Q) i' (fun a' w'=>(gF a0 (listed.setIfInBounds i' true)=true→Ext wS w')∧dE P .any al.toArray a0 (NoPanic Q) (Ext wS) l.length (listed.setIfInBounds i' true) a' w') a w:=fun an' h=>
     aQ6 G ho hc.2.1 hp (kd:=none) (K:=fun s'=>ilY Y TI FZ IL EV al a0 l an' (pre&& !E8 a0 i') (st&&Wd (none:Option (Nat×Nat))) s' K) h hl r fun v s' w' β' wS' h1 h2 h3 h4=>
      aZj G hI hEV hE hP hs l an' _ _ s' K z hD' h2 (fun s2 a2 w2 β2 g1=>hQ s2 a2 w2 β2 ((h1.mono hDi).trans g1)) _ (hdn.set hr) hc.2.2 (aBv hc.2.1 hp) _ w' β' wS' h4 h3
    cases an with
    |il k b q=>
     simp only at h
     cases hb:Nat.beq k i' with
     |false=>rw[hb] at h;exact plain _ h
     |true=>
      rw[hb] at h
      simp only[cond_true] at h
      cases hq:(Nat.beq (nZ FZ o.op) 2&& !(pre&& !E8 a0 i')) with
      |false=>rw[hq] at h;cases h
      |true=>
       rw[hq] at h
       simp only[cond_true] at h
       simp only[Bool.and_eq_true,Bool.not_eq_true'] at hq
       exact bBx G hI hEV hE hP ho hc.2.1 hp hq.2 h r fun s' a' w' β' q1 q2 q3=>
        aZj G hI hEV hE hP hs l q false st s' K z hD' q2 (fun s2 a2 w2 β2 g1=>hQ s2 a2 w2 β2 ((q1.mono hDi).trans g1)) _ (hdn.set hr) hc.2.2 ((aBv hc.2.1 hp).trans hq.2) a' w' β' w' ⟨fun _ _ h=>(by cases h),fun _=>rfl,fun _=>rfl,fun _=>Ext.refl _⟩ q3
    |_=>exact plain _ h
theorem Good.pl (G:Good P g Y TI FZ):Good P g Y TI (plT FZ):=⟨G.ti,G.lay,fun f S h=>by
 unfold plT at h
 obtain⟨⟨f',S'⟩,hm,e⟩:=List.mem_map.1 h
 injection e with e1 e2
 subst e1
 have h0:=G.fs f' S' hm
 obtain⟨ar,rs,fr,wt,m⟩:=S'
 subst e2
 cases fr with
 |false=>exact h0
 |true=>
  cases wt with
  |true=>exact h0
  |false=>exact bBi h0 rfl rfl⟩
theorem Rt (G:Good P g Y TI FZ)(hm:P.follows .mixedOrders=true)(hI:mM P IL):aTw P Y TI FZ IL g:=by
 intro E hE hP α EV hEV id os d an s N X R z D hD hA h
 cases an with
 |il k b q=>
  intro Q hN hX hR a w β r
  have hos:os.toList.toArray=os:=by simp
  by_cases hy:∃kb f a0 ord,ilo q= .y kb f a0 ord
  ·obtain⟨kb,f,a0,ord,hy⟩:=hy
   unfold aUy at h
   simp only[hy] at h
   replace h:(bif d&&zX os none a0 ord then ilY Y TI FZ IL EV os.toList a0 ord (.il k b q) true true s N else none)=some z:=h
   cases d with
   |false=>cases h
   |true=>
    cases hc:zX os none a0 ord with
    |false=>rw[hc] at h;cases h
    |true=>
     rw[hc] at h
     simp only[Bool.and_self,cond_true] at h
     simp only[zX,Bool.and_eq_true,aZ] at hc
     obtain⟨hs,hlen,hcf⟩:=hc
     have hlen:=Nat.eq_of_beq_eq_true hlen
     have r0:aW Y.C E s a w.drew β:=r.ext (Ext.drew w)
     refine wp_region_noPanic (wp_region_any hm (iI (a0:=a0) (S:=Ext w.drew) _ _ _ _ ?_))
     have:=aZj G hI hEV hE hP (a0:=a0) (al:=os.toList) (by rw[hos];exact hs) (Q:=Q) (D:=D) ord _ true true s N z (fun i _ o ho=>hD o (List.mem_of_getElem? ho)) h hN (Array.replicate os.size false) (by rw[hos];exact Dn0) (by rw[hos];exact hcf) aXr a w.drew β w.drew ⟨fun _ _ h=>(by cases h),fun _=>rfl,fun _=>rfl,fun _=>Ext.refl _⟩ r0
     rw[hos,hlen] at this;exact this
  replace h:(match(bif d then G6 FZ os.toList os (ilo q) else some (rng (len os.toList) 0)) with
   |some l=>ilr Y TI FZ IL EV os.toList l (.il k b q) s N
   |none=>none)=some z:=by
   unfold aUy at h
   simp only at h
   split at h
   ·rename_i kb f a0 ord hq;exact absurd ⟨kb,f,a0,ord,hq⟩ hy
   ·exact h
  cases d with
  |false=>
   simp only[cond_false,aZ] at h
   refine wp_region_list ?_
   have:=bCx G hI hEV hE hP (Q:=Q) (D:=D) os.toList.length 0 _ s N z (by omega) hD h hN a w β r
   rw[List.drop_zero,hos] at this;exact this
  |true=>
   simp only[cond_true] at h
   cases ho:G6 FZ os.toList os (ilo q) with
   |none=>rw[ho] at h;cases h
   |some l=>
    rw[ho] at h
    simp only at h
    have r0:aW Y.C E s a w.drew β:=r.ext (Ext.drew w)
    rcases aNo ho with⟨hs,hlen,hc⟩|⟨a0,ord,hs,hlen,hc,hfr,hlo⟩
    ·refine wp_region_noPanic (wp_region_any hm ?_)
     have:=bCy G hI hEV hE hP (Q:=NoPanic Q) (D:=D) l _ s N z hD h hN (Array.replicate os.size false) (by rw[hos];exact hc) a w.drew β r0
     rw[hos,hlen] at this;exact this
    ·refine wp_region_noPanic (wp_region_any hm (iI (a0:=a0) (S:=Ext w.drew) _ _ _ _ ?_))
     subst hlo
     have:=bBw G hI hEV hE hP (a0:=a0) (by rw[hos];exact hs) (Q:=Q) (D:=D) ord _ s N z hD h hN (Array.replicate os.size false) (by rw[hos];exact Dn0) (by rw[hos];exact hc) (.inl hfr) a w.drew β r0
     rw[hos,hlen] at this;exact this
 |pl b=>
  have hh:(∃a0 ord,rgn Y TI (plT FZ) os.toList os d (.r a0 ord) s N=some z)∨rgn Y TI (plT FZ) os.toList os d .n s N=some z:=by
   unfold aUy at h
   cases b with
   |r a0 ord=>exact .inl ⟨a0,ord,h⟩
   |_=>exact .inr h
  rcases hh with⟨a0,ord,hh⟩|hh
  ·exact I6 hE hP G.pl hm id os d (.r a0 ord) s N X R z D hD trivial hh
  ·exact I6 hE hP G.pl hm id os d .n s N X R z D hD trivial hh
 |_=>exact I6 hE hP G hm id os d _ s N X R z D hD hA h
end
end Go.EV

namespace Go.EV
open Go.RowKit Go.VK
variable {U:Uni} {Y:Lay U} {TI:List (Nat×TInfo)} {FZ:List (Nat×Sum U)} {IL:Il} {P:Program} {g:GI} {E:Env U g}
section
variable {s:St U} {a:Act} {w w0:World} {β:List Tr}
theorem aVm (hti:qO P TI=true)(r:aW Y.C E s a w β){fn:Func}{l:List ResultVar}(hf:fn.results=l.toArray){ks:List Kd}{z:kV U ks}(h:fin Y TI false ks l s=some z):∃v,(results fn a.tmps).run P w= .ok v w∧Rd w E.X0 [] v (gJ ((aY Y ks z).map jZ)):=by
 unfold fin at h
 cases h1:Qg TI s l with
 |none=>rw[h1] at h;cases h
 |some xs=>
  rw[h1] at h
  obtain⟨vs,k1,k2,k3⟩:=sD hti r h1
  have hrd:=Aa r (Z:=E.X0) (fun b hb=> .inl hb) ks (z:=z) h k2 k3 (.inr (aOq r))
  refine⟨_,uX hf k1,?_⟩
  generalize(aY Y ks z).map jZ=Us at hrd
  obtain⟨h2,h3⟩:=hrd
  clear k1 k2 k3 h h1
  match Us,vs,h2,h3 with
  |[U],[v],_,h3=>exact h3 0 v U rfl rfl
  |[],[],_,_=>exact .tup rfl (by simp)
  |U::U'::Us,v::v'::vs,h2,h3=>
   rw[dif_neg (by simp)]
   exact .tup (by simpa using h2) (fun i v c h5 h6=>h3 i v c (by simpa using h5) h6)
theorem aNq {w0:World}{X0:Nat→Prop}(hG:g.G w0)(hX0:∀b,X0 b→b<w0.heap.size){ks:List Kd}{z:kV U ks}{n:Nat}{vs:List Value}(hvs:RdL w0 X0 vs ((aY Y ks z).map jZ))(hn:(aY Y ks z).length≤n)(E:Env U g)(hE0:E.X0=X0)(hEY:∀b,¬E.Y0 b)(hEw:E.w0=w0)(hEp:E.pin=[])(hEm:E.prm=[])(hEf:E.fr=[]):
  aW Y.C E (ini Y n ks z) {tmps:=vs.toArray++Array.replicate (n-vs.toArray.size) undef,defers:=[]} w0 []:=by
 have hlen:vs.length=(aY Y ks z).length:=by rw[hvs.1,List.length_map]
 refine⟨⟨by rw[←hEw];exact Bel.refl _,rfl,by simp[ini],by simp[ini],by simp,by simp,by simp,by simp,by simp[hEp],by simp[hEm],by simp[hEf]⟩,rfl,?_,fun m x hx=> ?_⟩
 ·simp only[ini,aZ,List.length_append,List.length_map,List.length_replicate,Array.size_append,List.size_toArray,Array.size_replicate,hlen]
 ·simp only[ini,aZ,List.length_map] at hx
  by_cases hlt:m<(aY Y ks z).length
  ·rw[List.getElem?_append_left (by simpa using hlt),List.getElem?_map] at hx
   cases hc:(aY Y ks z)[m]? with
   |none=>rw[hc] at hx;cases hx
   |some c=>
    rw[hc] at hx
    have:=Option.some.inj hx;subst this
    have hvl:m<vs.length:=by omega
    have hv:(vs.toArray++Array.replicate (n-vs.toArray.size) undef).getD m undef=vs[m]:=by
     rw[Array.getD_eq_getD_getElem?,Array.getElem?_append_left (by simpa using hvl)]
     simp[List.getElem?_eq_getElem hvl]
    rw[hv]
    refine rC (aE6 (Hm ks z c (List.mem_of_getElem? hc)) (hvs.2 m _ _ (List.getElem?_eq_getElem hvl) (by rw[List.getElem?_map,hc];rfl)) (.inl fun b hb=> ?_))
    rcases hb with hb|hb|⟨t,ht,_⟩
    ·rw[hE0] at hb;exact hb
    ·exact absurd hb (hEY b)
    ·simp at ht
  ·rw[List.getElem?_append_right (by rw[List.length_map];omega)] at hx
   have:=List.mem_of_getElem? hx
   simp at this
   rw[this.2];trivial
theorem aXt (G:Good P g Y TI FZ)(hm:P.follows .mixedOrders=true)(hI:mM P IL){f:FuncId}{fn:Func}{cd:Code}{n:Nat}{l:List ResultVar}{ar rs:List Kd}{an:An}{z:kV U ar}{q:kV U rs}(hf:P.funcs[f]? =some fn)(hb:fn.body=some cd)(hn:fn.ntmps=n)(hl:fn.results=l.toArray)
  (hE:∀args w,(callFunc f args).run P w= .ok (.enter f args) w) (hlen:(aY Y ar z).length≤n) (h:evF Y TI FZ IL an cd n ar rs false l z=some q):VK.Spec P g f ((aY Y ar z).map jZ) (fun v=>v=gJ ((aY Y rs q).map jZ)):=by
 refine⟨hE,fun w X0 vs hG hX0 hvs=>calls_of_wp hf hb ?_⟩
 let E:Env U g:=⟨X0,fun _=>False,w,[],[],fun b h=> .inl (hX0 b h),fun _ h=>h.elim,fun _ _ h=>h,fun w' hw=>g.st w w' hG (hw.ext fun _ h=>h),[]⟩
 have r0:=aNq (Y:=Y) hG hX0 hvs hlen E rfl (fun _ h=>h) rfl rfl rfl rfl
 have done:∀s' a' w' β',fin Y TI false rs l s'=some q→aW Y.C E s' a' w' β'→a'.defers=[]∧∃v,(results fn a'.tmps).run P w'= .ok v w'∧(∃v' r,Ending.returned v= .returned v'∧r=gJ ((aY Y rs q).map jZ)∧Rd w' X0 [] v' r∧Ext w w'):=fun s' a' w' β' hq r=>by
  obtain⟨v,k1,k2⟩:=aVm G.ti r hl hq
  exact⟨r.defers,v,k1,v,_,rfl,rfl,k2,r.hp.ext.ext fun _ h=>h⟩
 rw[hn]
 exact aGg (Rt G hm hI) 1000 E rfl rfl an cd _ _ _ _ _ q (fun _=>True) (WC.true cd) (AW.true an) h _ (fun s' a' w' β' _ hq r=>done s' a' w' β' hq r) (fun i s' a' w' β' _ hq r=>by cases hq) (fun s' a' w' β' _ hq r=>done s' a' w' β' hq r) _ _ _ r0
end
end Go.EV

namespace Go.EV
open Go.RowKit Go.VK
variable {U:Uni} {Y:Lay U} {TI:List (Nat×TInfo)} {FZ:List (Nat×Sum U)} {IL:Il} {P:Program} {g:GI} {E:Env U g}
section
variable {s:St U} {a:Act} {w w0:World} {β:List Tr} {C:Cod U}
theorem aVn {m:Mm U}{x:Lf U}{xs:List (Lf U)}{l:List Nat}(h:Wi m (x::xs)=some l):∃l1 l2,l=l1++l2∧Wi m [x]=some l1∧Wi m xs=some l2:=by
 cases x with
 |own i r=>
  simp only[Wi] at h ⊢
  cases ho:nth m.o i with
  |none=>rw[ho] at h;cases h
  |some e=>
   obtain⟨ob,rv,cv⟩:=e
   cases ob with
   |tree τ d ll=>
    rw[ho] at h
    simp only at h
    cases hb:(Nat.beq rv r&&d) with
    |false=>rw[hb] at h;cases h
    |true=>
     rw[hb] at h
     simp only[cond_true] at h
     cases hx:Wi m xs with
     |none=>rw[hx] at h;cases h
     |some l2=>
      rw[hx] at h
      have:=Option.some.inj h;subst this
      exact⟨[i],l2,rfl,by simp[hb],rfl⟩
   |_=>rw[ho] at h;cases h
 |sl=>cases h
 |bor=>cases h
 |inn=>cases h
 |_=>exact⟨[],l,rfl,rfl,h⟩
theorem aRc (H:Hp C E s.m β w){kd:Kd}{x y:Lf U}{l:List Nat}{v:Value}(h:Wi s.m [x]=some l)(hr:F7 s.m kd x=some y)(hm:x.mean C w (E.X β) β s.m v)(hK:∀τ,kd= .sl τ→0<U.K τ):Ow C w (fun _=>False) true v y (gP β l):=by
 have hb0:gP β []=[]:=rfl
 have flat:jG x=true→jX s.m x=some y→l=[]→(∀τ ll,y≠ .sl τ ll)→Ow C w (fun _=>False) true v y (gP β l):=fun hf hr hl hns=>by
  obtain⟨k1,k2⟩:=rP H hm hr (Z:=fun _=>False) (fun _ h=>h.elim) (.inl hf)
  subst hl
  rw[hb0]
  cases y with
  |int k n=>obtain⟨rfl,h1,h2⟩:=k2.aAP;exact .int h1 h2
  |bool b=>obtain rfl:=k2.aAS;exact .bool
  |str z=>obtain⟨rfl,h1⟩:=k2.aAR;exact .str h1
  |sl τ ll=>exact absurd rfl (hns τ ll)
  |_=>cases k1
 cases x with
 |own i r=>
  obtain⟨_,e,t,h2,h3,h4⟩:=hm
  obtain⟨ob,rv,cv⟩:=e
  simp only[Wi,aM,h2] at h
  replace hr:jX s.m (.own i r)=some y:=hr
  simp only[jX,aM,h2] at hr
  cases ob with
  |tree τ d ll=>
   simp only at h hr
   cases hb:(Nat.beq rv r&&d) with
   |false=>rw[hb] at h;cases h
   |true=>
    rw[hb] at h
    have:=Option.some.inj h;subst this
    simp only[Bool.and_eq_true] at hb
    rw[hb.1] at hr
    have:=Option.some.inj hr;subst this
    have hd:d=true:=hb.2
    subst hd
    rw[h4 (Nat.eq_of_beq_eq_true hb.1)]
    have ho:=(Hp.tree H h3 h2 rfl).conv (X':=fun _=>False) (Nat.le_refl _) (fun _ _ h=>h.elim) (fun _ _ _ h=>h) (fun _ _=>rfl)
    have hbl:gP β [i]=t.all:=by simp[gP,h3]
    rw[hbl];exact ho
  |_=>cases h
 |nil=>
  obtain rfl:=hm
  have:=Option.some.inj h;subst this
  cases kd with
  |sl τ=>
   have:=Option.some.inj (show some (Lf.sl τ [])=some y from hr);subst this
   exact .sl Rm (hK τ rfl) (World.ownsRow_nil w 0 τ (U.K τ)) .n
  |_=>cases hr
 |int k n=>have e:=Option.some.inj (show some (Lf.int k n)=some y from hr);exact flat rfl hr (Option.some.inj h).symm (fun _ _ e'=>by rw[←e] at e';cases e')
 |bool b=>have e:=Option.some.inj (show some (Lf.bool b)=some y from hr);exact flat rfl hr (Option.some.inj h).symm (fun _ _ e'=>by rw[←e] at e';cases e')
 |str b=>have e:=Option.some.inj (show some (Lf.str b)=some y from hr);exact flat rfl hr (Option.some.inj h).symm (fun _ _ e'=>by rw[←e] at e';cases e')
 |nat c=>
  refine flat rfl hr (Option.some.inj h).symm (fun τ ll e'=> ?_)
  subst e'
  replace hr:jX s.m (.nat c)=some (.sl τ ll):=hr
  simp only[jX] at hr
  split at hr<;>cases hr
 |lt c n=>
  refine flat rfl hr (Option.some.inj h).symm (fun τ ll e'=> ?_)
  subst e'
  replace hr:jX s.m (.lt c n)=some (.sl τ ll):=hr
  simp only[jX] at hr
  split at hr<;>cases hr
 |sl=>cases h
 |bor=>cases h
 |inn=>cases h
 |_=>cases hr
theorem aGm (H:Hp C E s.m β w):∀(ks:List Kd) {xs ys:List (Lf U)} {l:List Nat} {vs:List Value},F8 s.m ks xs=some ys→Wi s.m xs=some l→Ms C w (E.X β) β s.m vs xs→(∀kd∈ks,∀τ,kd= .sl τ→0<U.K τ)→OwL C w (fun _=>False) true vs ys (gP β l)
 |[],[],ys,l,vs,h,hl,hM,_=>by
  have:=Option.some.inj h;subst this
  have:=Option.some.inj hl;subst this
  have:vs=[]:=List.eq_nil_of_length_eq_zero hM.1
  subst this;exact .n
 |[],_::_,_,_,_,h,_,_,_=>by cases h
 |_::_,[],_,_,_,h,_,_,_=>by cases h
 |kd::ks,x::xs,ys,l,vs,h,hl,hM,hK=>by
  obtain⟨y,ys',h1,h2,rfl⟩:=aF9 h
  obtain⟨l1,l2,rfl,h3,h4⟩:=aVn hl
  cases vs with
  |nil=>have:=hM.1;simp at this
  |cons v vs=>
   rw[Wp]
   exact .c (aRc H h3 h1 (hM.2 0 v x rfl rfl) (hK kd (by simp))) (aGm H ks h2 h4 ⟨by have:=hM.1;simpa using this,fun i u c p q=>hM.2 (i+1) u c (by simpa using p) (by simpa using q)⟩ (fun kd' hk=>hK kd' (by simp[hk])))
theorem aO0 (hY:LayOk Y)(H:Hp Y.C E s.m β w){kd:Kd}{x:Sv U}{z:kd.ty U}{v:Value}{cs:List (Lf U)}{l:List Nat}(hm:x.mean Y.C w (E.X β) β s.m v)(hp:parts x=some cs)(hl:Wi s.m cs=some l)(h:pI Y s.m kd x=some z)(hK:∀τ,kd= .sl τ→0<U.K τ):OwP Y.C w v (gP β l) (eY Y kd z):=by
 have leaf:∀{y:Lf U},x= .l y→(∀T,kd≠ .st T)→(match F7 s.m kd y with|some q=>Rh kd q|none=>none)=some z→OwP Y.C w v (gP β l) (eY Y kd z):=fun {y} hx hkd h0=>by
  subst hx
  have:=Option.some.inj hp;subst this
  cases hr:F7 s.m kd y with
  |none=>rw[hr] at h0;cases h0
  |some q=>
   rw[hr] at h0
   have hq:=wY (show Rh kd q=some z from h0)
   have ho:=aRc H hl hr hm hK
   rw[hq] at ho
   cases kd with
   |st T=>exact absurd rfl (hkd T)
   |_=>exact⟨_,rfl,ho⟩
 cases kd with
 |st T=>
  cases x with
  |a cs'=>
   have:=Option.some.inj hp;subst this
   have h':(match F8 s.m (Y.kd T) cs' with|some ds=>Y.C.bld T ds|none=>none)=some z:=h
   cases hr:F8 s.m (Y.kd T) cs' with
   |none=>rw[hr] at h';cases h'
   |some ds=>
    rw[hr] at h'
    obtain⟨vs,rfl,hM⟩:=hm
    have ho:=aGm H _ hr hl hM (fun kd hk τ e=>hY.pos T τ (e▸hk))
    rw[Y.C.hmk T ds z h'] at ho
    exact⟨vs,rfl,ho⟩
  |l y=>
   have h':(match F7 s.m (Kd.st T) y with|some q=>Rh (Kd.st T) q|none=>none)=some z:=h
   cases hr:F7 s.m (Kd.st T) y with
   |none=>rw[hr] at h';cases h'
   |some q=>rw[hr] at h';cases q<;>cases h'
  |t y=>cases h
 |int k=>cases x with
  |l y=>exact leaf rfl (by simp) h
  |_=>cases h
 |bool=>cases x with
  |l y=>exact leaf rfl (by simp) h
  |_=>cases h
 |str=>cases x with
  |l y=>exact leaf rfl (by simp) h
  |_=>cases h
 |sl τ=>cases x with
  |l y=>exact leaf rfl (by simp) h
  |_=>cases h
theorem aXu (hY:LayOk Y)(H:Hp Y.C E s.m β w)(ks:List Kd):∀{xs:List (Sv U)} {z:kV U ks} {vs:List Value} {l:List Nat},gG Y s.m ks xs=some z→aQc s.m xs=some l→vs.length=xs.length→(∀(i:Nat) (v:Value) (x:Sv U),vs[i]? =some v→xs[i]? =some x→x.mean Y.C w (E.X β) β s.m v)→(∀kd∈ks,∀τ,kd= .sl τ→0<U.K τ)→OwPs Y.C w vs (aY Y ks z) (gP β l):=by
 induction ks with
 |nil=>
  intro xs z vs l h hl hlen hm hK
  cases xs with
  |nil=>
   have:=Option.some.inj hl;subst this
   have:vs=[]:=List.eq_nil_of_length_eq_zero hlen
   subst this;exact .n
  |cons=>cases h
 |cons k ks ih=>
  intro xs z vs l h hl hlen hm hK
  cases xs with
  |nil=>cases ks<;>cases h
  |cons x xs=>
   cases vs with
   |nil=>simp at hlen
   |cons v vs=>
    simp only[aQc] at hl
    cases hp:parts x with
    |none=>rw[hp] at hl;cases hl
    |some cs=>
     rw[hp] at hl
     simp only at hl
     cases h1:Wi s.m cs with
     |none=>rw[h1] at hl;cases hl
     |some l1=>
      cases h2:aQc s.m xs with
      |none=>rw[h1,h2] at hl;cases hl
      |some l2=>
       rw[h1,h2] at hl
       have:=Option.some.inj hl;subst this
       rw[Wp]
       cases ks with
       |nil=>
        cases xs with
        |cons x' xs=>cases h
        |nil=>
         have hvs:vs=[]:=List.eq_nil_of_length_eq_zero (by simpa using hlen)
         subst hvs
         have:=Option.some.inj h2;subst this
         exact .c (aO0 hY H (hm 0 v x rfl rfl) hp h1 (show pI Y s.m k x=some z from h) (hK k (by simp))) .n
       |cons k' ks'=>
        replace h:(match pI Y s.m k x with|some a=>(match gG Y s.m (k'::ks') xs with|some b=>some (a,b)|none=>none)|none=>none)=some (show k.ty U×kV U (k'::ks') from z):=h
        cases g1:pI Y s.m k x with
        |none=>rw[g1] at h;cases h
        |some z1=>
         cases g2:gG Y s.m (k'::ks') xs with
         |none=>rw[g1,g2] at h;cases h
         |some z2=>
          rw[g1,g2] at h
          have:=Option.some.inj h;subst this
          exact .c (aO0 hY H (hm 0 v x rfl rfl) hp h1 g1 (hK k (by simp))) (ih g2 h2 (by simpa using hlen) (fun i u c p q=>hm (i+1) u c (by simpa using p) (by simpa using q)) (fun kd hk=>hK kd (by simp[hk])))
theorem aVo (G:Good P g Y TI FZ)(r:aW Y.C E s a w β)(hEY:∀b,¬E.Y0 b){fn:Func}{l:List ResultVar}(hf:fn.results=l.toArray){ks:List Kd}{z:kV U ks}(h:fin Y TI true ks l s=some z):∃v B,(results fn a.tmps).run P w= .ok v w∧B.Nodup∧(∀b∈B,E.w0.heap.size≤b)∧OwR Y.C w v (aY Y ks z) B:=by
 unfold fin at h
 cases h1:Qg TI s l with
 |none=>rw[h1] at h;cases h
 |some xs=>
  rw[h1] at h
  simp only[cond_true] at h
  cases h2:aQc s.m xs with
  |none=>rw[h2] at h;cases h
  |some ids=>
   rw[h2] at h
   simp only at h
   cases hb:(dist ids&&Cs (U:=U) ks) with
   |false=>rw[hb] at h;cases h
   |true=>
    rw[hb] at h
    simp only[cond_true] at h
    simp only[Bool.and_eq_true] at hb
    obtain⟨vs,k1,k2,k3⟩:=sD G.ti r h1
    have ho:=aXu G.lay r.hp ks h h2 k2 k3 (rV hb.2)
    refine⟨_,gP β ids,uX hf k1,aE5 r.hp (lC.1 hb.1),fun b hbb=> ?_,?_⟩
    ·obtain⟨j,_,u,hu,hub⟩:=nT hbb
     exact(r.hp.new j u b hu hub).1.resolve_right (hEY b)
    ·generalize aY Y ks z=cps at ho ⊢
     generalize gP β ids=B0 at ho ⊢
     clear h k1 k3 h2 h1 k2
     cases ho with
     |n=>exact⟨[],rfl, .n⟩
     | @c v x B B' vs xs' hv hr=>
      cases hr with
      |n=>rw[List.append_nil];exact hv
      | @c v2 x2 B2 B3 vs2 xs2 hv2 hr2=>
       rw[dif_neg (by simp)]
       exact⟨_,rfl, .c hv (.c hv2 hr2)⟩
end
theorem aVp (G:Good P g Y TI FZ)(hm:P.follows .mixedOrders=true)(hI:mM P IL){f:FuncId}{fn:Func}{cd:Code}{n:Nat}{l:List ResultVar}{ar rs:List Kd}{an:An}{z:kV U ar}{q:kV U rs}(hf:P.funcs[f]? =some fn)(hb:fn.body=some cd)(hn:fn.ntmps=n)(hl:fn.results=l.toArray)
  (hE:∀args w,(callFunc f args).run P w= .ok (.enter f args) w) (hlen:(aY Y ar z).length≤n) (h:evF Y TI FZ IL an cd n ar rs true l z=some q):bAb P g Y.C f ((aY Y ar z).map jZ) (aY Y rs q):=by
 refine⟨hE,fun w X0 vs hG hX0 hvs=>calls_of_wp hf hb ?_⟩
 let E:Env U g:=⟨X0,fun _=>False,w,[],[],fun b h=> .inl (hX0 b h),fun _ h=>h.elim,fun _ _ h=>h,fun w' hw=>g.st w w' hG (hw.ext fun _ h=>h),[]⟩
 have r0:=aNq (Y:=Y) hG hX0 hvs hlen E rfl (fun _ h=>h) rfl rfl rfl rfl
 have done:∀s' a' w' β',fin Y TI true rs l s'=some q→aW Y.C E s' a' w' β'→a'.defers=[]∧∃v,(results fn a'.tmps).run P w'= .ok v w'∧(∃v' B,Ending.returned v= .returned v'∧Ext w w'∧B.Nodup∧(∀b∈B,w.heap.size≤b)∧OwR Y.C w' v' (aY Y rs q) B):=fun s' a' w' β' hq r=>by
  obtain⟨v,B,k1,k2,k3,k4⟩:=aVo G r (fun _ h=>h) hl hq
  exact⟨r.defers,v,k1,v,B,rfl,r.hp.ext.ext fun _ h=>h,k2,k3,k4⟩
 rw[hn]
 exact aGg (Rt G hm hI) 1000 E rfl rfl an cd _ _ _ _ _ q (fun _=>True) (WC.true cd) (AW.true an) h _ (fun s' a' w' β' _ hq r=>done s' a' w' β' hq r) (fun i s' a' w' β' _ hq r=>by cases hq) (fun s' a' w' β' _ hq r=>done s' a' w' β' hq r) _ _ _ r0
theorem I7:∀(ks:List Kd) (z:kV U ks),(aY Y ks z).length=ks.length
 |[],_=>rfl
 |[k],_=>rfl
 |k::k'::ks,z=>by
  show(aY Y (k'::ks) z.2).length+1=_
  rw[I7 (k'::ks)];rfl
theorem aVq {f:FuncId}{S:Sum U}(h:rT P g Y f S)(G:Good P g Y TI FZ):Good P g Y TI ((f,S)::FZ):=⟨G.ti,G.lay,fun f' S' hm=>by
 rcases List.mem_cons.1 hm with e|e
 ·injection e with e1 e2;subst e1;subst e2;exact h
 ·exact G.fs f' S' e⟩
theorem bBy (G:Good P g Y TI FZ)(hm:P.follows .mixedOrders=true)(hI:mM P IL){f:FuncId}{fn:Func}{cd:Code}{n:Nat}{l:List ResultVar}{S:Sum U}{an:kV U S.ar→An}(hf:P.funcs[f]? =some fn)(hb:fn.body=some cd)(hn:fn.ntmps=n)(hl:fn.results=l.toArray)
  (hE:∀args w,(callFunc f args).run P w= .ok (.enter f args) w) (hlen:S.ar.length≤n) (hwt:S.wt=false) (h:∀a r,S.m a=some r→evF Y TI FZ IL (an a) cd n S.ar S.rs S.fr l a=some r):rT P g Y f S:=fun a r hr=>by
 have h':=h a r hr
 refine⟨fun _ hfr=> ?_,fun _ hfr=> ?_,fun hh=>(by rw[hwt] at hh;cases hh),fun hh=>(by rw[hwt] at hh;cases hh)⟩
 ·rw[hfr] at h'
  exact aXt G hm hI hf hb hn hl hE (by rw[I7];exact hlen) h'
 ·rw[hfr] at h'
  exact aVp G hm hI hf hb hn hl hE (by rw[I7];exact hlen) h'
end Go.EV

namespace Go.EV
open Go.RowKit Go.VK
variable {U:Uni} {Y:Lay U} {TI:List (Nat×TInfo)} {FZ:List (Nat×Sum U)} {IL:Il} {P:Program} {g:GI} {E:Env U g}
section
variable {s:St U} {a:Act} {w w0:World} {β:List Tr} {C:Cod U}
def lD:List Value→List (Lf U)→List (Nat×Nat×Value)
 |v::vs, .own i r::cs=>(i,r,v)::lD vs cs
 |_::vs,_::cs=>lD vs cs
 |_,_=>[]
def Lf.plain:Lf U→Bool
 | .int .. | .bool _| .str _| .own .. =>true
 |_=>false
theorem sF {k:Nat}:∀{cs:List (Lf U)} (n:Nat),(∀c∈cs,c.aAW=true)→∀c∈(jH k n cs).1,c.plain=true
 |[],n,_,c,h=>by simp[jH] at h
 |x::xs,n,hd,c,h=>by
  have hx:=hd x (by simp)
  have hxs:∀c∈xs,c.aAW=true:=fun c hc=>hd c (by simp[hc])
  cases x with
  |sl τ l=>
   simp only[jH,List.mem_cons] at h
   rcases h with rfl|h
   ·rfl
   ·exact sF _ hxs c h
  |int k' m=>simp only[jH,List.mem_cons] at h;rcases h with rfl|h;rfl;exact sF _ hxs c h
  |bool b=>simp only[jH,List.mem_cons] at h;rcases h with rfl|h;rfl;exact sF _ hxs c h
  |str b=>simp only[jH,List.mem_cons] at h;rcases h with rfl|h;rfl;exact sF _ hxs c h
  |_=>cases hx
theorem aT0 {X X':Nat→Prop}{w w':World}{β β':List Tr}{m m':Mm U}:∀{cs:List (Lf U)} {vs:List Value},(∀c∈cs,c.plain=true)→Ms C w X β m vs cs→(∀x∈lD vs cs,(Lf.own x.1 x.2.1:Lf U).mean C w' X' β' m' x.2.2)→Ms C w' X' β' m' vs cs
 |[],vs,_,h,_=>⟨h.1,fun i v c _ h2=>by simp at h2⟩
 |c::cs,[],_,h,_=>by have:=h.1;simp at this
 |c::cs,v::vs,hp,h,hpin=>by
  have h0:=h.2 0 v c rfl rfl
  have ht:Ms C w X β m vs cs:=⟨by have:=h.1;simpa using this,fun i u x p q=>h.2 (i+1) u x (by simpa using p) (by simpa using q)⟩
  have hc:=hp c (by simp)
  have key:c.mean C w' X' β' m' v∧∀x∈lD vs cs,(Lf.own x.1 x.2.1:Lf U).mean C w' X' β' m' x.2.2:=by
   cases c with
   |own i r=>exact⟨hpin (i,r,v) (by simp[lD]),fun x hx=>hpin x (by simp[lD,hx])⟩
   |int k n=>exact⟨h0,fun x hx=>hpin x (by simpa[lD] using hx)⟩
   |bool b=>exact⟨h0,fun x hx=>hpin x (by simpa[lD] using hx)⟩
   |str b=>exact⟨h0,fun x hx=>hpin x (by simpa[lD] using hx)⟩
   |_=>cases hc
  have hr:=aT0 (cs:=cs) (vs:=vs) (fun x hx=>hp x (by simp[hx])) ht key.2
  refine⟨by simp[hr.1],fun i u x p q=> ?_⟩
  cases i with
  |zero=>simp at p q;subst p;subst q;exact key.1
  |succ i=>exact hr.2 i u x (by simpa using p) (by simpa using q)
theorem aO1 {X:Nat→Prop}{m:Mm U}:∀{cs:List (Lf U)} {vs:List Value},Ms C w X β m vs cs→∀x∈lD vs cs,(Lf.own x.1 x.2.1:Lf U).mean C w X β m x.2.2
 |[],vs,_,x,hx=>by cases vs<;>simp[lD] at hx
 |c::cs,[],h,_,_=>by have:=h.1;simp at this
 |c::cs,v::vs,h,x,hx=>by
  have h0:=h.2 0 v c rfl rfl
  have ht:Ms C w X β m vs cs:=⟨by have:=h.1;simpa using this,fun i u x p q=>h.2 (i+1) u x (by simpa using p) (by simpa using q)⟩
  cases c with
  |own i r=>
   simp only[lD,List.mem_cons] at hx
   rcases hx with rfl|hx
   ·exact h0
   ·exact aO1 ht x hx
  |_=>exact aO1 ht x (by simpa[lD] using hx)
theorem OwP.lt {v:Value}{B:List Nat}{x:Bool×List (Lf U)}(h:OwP C w v B x):∀b∈B,b<w.heap.size:=by
 obtain⟨b,cs⟩:=x
 cases b with
 |true=>obtain⟨vs,_,h⟩:=h;exact h.lt
 |false=>obtain⟨c,_,h⟩:=h;exact h.lt
theorem aVr (G:Good P g Y TI FZ)(hm:P.follows .mixedOrders=true)(hI:mM P IL){f:FuncId}{fn:Func}{cd:Code}{n:Nat}{l:List ResultVar}{kd:Kd}{an:An}{z q:kV U [kd, .int .i64]}(hf:P.funcs[f]? =some fn)(hb:fn.body=some cd)(hn:fn.ntmps=n)(hl:fn.results=l.toArray)
  (hE:∀args w,(callFunc f args).run P w= .ok (.enter f args) w) (hlen:2≤n) (h:evM Y TI FZ IL an cd n kd l z=some q):bAc P g Y.C f (eY Y kd z.1).1 (eY Y kd z.1).2 (eY Y kd q.1).2 (jZ (eY Y (.int .i64) z.2)) q.2:=by
 obtain⟨z,k⟩:=z
 change kd.ty U at z
 change Int at k
 obtain⟨q,kq⟩:=q
 change kd.ty U at q
 change Int at kq
 refine⟨hE,fun w v v1 B hnd hG hO hR=>calls_of_wp hf hb ?_⟩
 obtain⟨rfl,hk1,hk2⟩:=(show Rd w (fun _=>False) [] v1 (.int .i64 k) from hR).aAP
 have hlt:=hO.lt
 have hPs:OwPs Y.C w [v] [eY Y kd z] B:=by simpa using OwPs.c (show OwP Y.C w v B (eY Y kd z) from hO) .n
 obtain⟨ts,a1,a2,a3,a4⟩:=Ab (k:=0) 0 hPs
 obtain⟨b,cs,hcp⟩:∃b cs,eY Y kd z=(b,cs):=⟨_,_,rfl⟩
 obtain⟨cells,objs,hcl⟩:∃cells objs,jH (U:=U) 0 0 cs=(cells,objs):=⟨_,_,rfl⟩
 have hq0:fJ (U:=U) 0 0 [eY Y kd z]=([(b,cells)],objs):=by rw[hcp];simp only[fJ,hcl,List.append_nil]
 rw[hq0] at a1 a3 a4
 have hplain:∀c∈cells,c.plain=true:=by
  have:=sF (k:=0) (cs:=cs) 0 (fun c hc=>(aE7 (Y:=Y) (k:=kd) (x:=z)).1 c (by rw[hcp];exact hc))
  rw[hcl] at this;exact this
 have plainX:∀{X X':Nat→Prop} {w:World} {β:List Tr} {m:Mm U} {vs:List Value},Ms Y.C w X β m vs cells→Ms Y.C w X' β m vs cells:=fun {X X' w β m vs} h=>⟨h.1,fun i u c p q=>by
  have h1:=h.2 i u c p q
  have h2:=hplain c (List.mem_of_getElem? q)
  cases c with
  |int k n=>exact h1
  |bool b=>exact h1
  |str b=>exact h1
  |own i r=>exact h1
  |_=>cases h2⟩
 let m0:Mm U:=⟨objs,0,[]⟩
 have hMp0:=(a4 (fun _=>True) ts m0 (Nat.le_refl _) (fun j e t p q=>⟨by simpa using p,by simpa using q⟩)).2 0 v (b,cells) rfl rfl
 obtain⟨vs,hM0,hMp⟩:∃vs:List Value,Ms Y.C w (fun _=>True) ts m0 vs cells∧∀{w':World} {X:Nat→Prop} {β':List Tr} {m':Mm U},Ms Y.C w' X β' m' vs cells→(aCa (b,cells)).mean Y.C w' X β' m' v:=by
  cases b with
  |true=>
   obtain⟨vs,e,h1⟩:=hMp0
   exact⟨vs,h1,fun {w' X β' m'} h=>⟨vs,e,h⟩⟩
  |false=>
   obtain⟨c,e,h1⟩:=hMp0
   subst e
   refine⟨[v],⟨rfl,fun i u x p q=> ?_⟩,fun {w' X β' m'} h=>h.2 0 v c rfl rfl⟩
   cases i with
   |zero=>simp at p q;subst p;subst q;exact h1
   |succ i=>simp at p
 have hparts:parts (aCa (U:=U) (b,cells))=some cells:=by
  cases b with
  |true=>rfl
  |false=>
   obtain⟨c,e,h1⟩:=hMp0
   subst e;rfl
 let E:Env U g:=⟨fun _=>False,(·∈B),w,[],[],fun _ h=>h.elim,hlt,fun _ h=>h.elim,hG,(lD vs cells).map fun x=>(Sv.l (.own x.1 x.2.1),x.2.2)⟩
 have htB:∀(i:Nat) (t:Tr),ts[i]? =some t→∀x∈t.all,x∈B:=fun i t ht x hx=>by
  rw[←a2];exact List.mem_flatten.2 ⟨_,List.mem_map.2 ⟨_,List.mem_of_getElem? ht,rfl⟩,hx⟩
 have hndt:(ts.map Tr.all).flatten.Nodup:=by rw[a2];exact hnd
 have Hh:Hp Y.C E m0 ts w:=by
  refine⟨Bel.refl _,a1,fun i e he=> ?_,fun a i h=>by simp[m0] at h,fun i t x ht hx=>⟨.inr (htB i t ht x hx),hlt x (htB i t ht x hx)⟩,fun i j t u x hij ht hu hx hxu=> ?_,fun i t ht=> ?_,fun i t e ht he=> ?_,fun x hx=>by obtain⟨y,hy,rfl⟩:=List.mem_map.1 hx;exact aO1 (X:=E.X ts) (plainX hM0) y hy,fun x hx=>by simp[E] at hx,fun f hf=>by simp[E] at hf⟩
  ·have hl:i<ts.length:=by rw[a1];exact lt_of_some he
   have:=a3 i e _ he (List.getElem?_eq_getElem hl)
   rw[this.1,this.2.1];exact⟨Nat.le_refl _,Nat.le_refl _⟩
  ·have hp:=(List.pairwise_flatten.1 hndt).2
   rw[List.pairwise_map] at hp
   have hp:=List.pairwise_iff_getElem.1 hp
   obtain⟨l1,e1⟩:=List.getElem?_eq_some_iff.1 ht
   obtain⟨l2,e2⟩:=List.getElem?_eq_some_iff.1 hu
   rcases Nat.lt_or_gt_of_ne hij with h|h
   ·exact hp i j l1 l2 h x (by rw[e1];exact hx) x (by rw[e2];exact hxu) rfl
   ·exact hp j i l2 l1 h x (by rw[e2];exact hxu) x (by rw[e1];exact hx) rfl
  ·exact(List.pairwise_flatten.1 hndt).1 _ (List.mem_map.2 ⟨t,List.mem_of_getElem? ht,rfl⟩)
  ·obtain⟨_,_,τ,L,xs,c1,c2,c3,c4⟩:=a3 i e t he ht
   rw[c1]
   exact⟨c2,xs,c3,c4.aBU rfl⟩
 have hini:aY0 Y n kd z k=⟨[aCa (b,cells), .l (.int .i64 k)]++List.replicate (n-2) (.l .any),m0,[]⟩:=by
  simp only[aY0,hq0,List.map_cons,List.map_nil,aZ]
  rfl
 have r0:aW Y.C E (aY0 Y n kd z k) {tmps:= #[v, .int .i64 k]++Array.replicate (n-2) undef,defers:=[]} w ts:=by
  rw[hini]
  refine⟨Hh,rfl,by simp;omega,fun m x hx=> ?_⟩
  match m with
  |0=>
   have:aCa (b,cells)=x:=by simpa using hx
   subst this
   have hv:(#[v,Value.int .i64 k]++Array.replicate (n-2) undef).getD 0 undef=v:=by simp[Array.getD_eq_getD_getElem?,Array.getElem?_append]
   simp only[hv]
   exact hMp (plainX hM0)
  |1=>
   have:(Sv.l (.int .i64 k):Sv U)=x:=by simpa using hx
   subst this
   have hv:(#[v,Value.int .i64 k]++Array.replicate (n-2) undef).getD 1 undef= .int .i64 k:=by simp[Array.getD_eq_getD_getElem?,Array.getElem?_append]
   simp only[hv]
   exact⟨rfl,hk1,hk2⟩
  |m+2=>
   have hx':(List.replicate (n-2) (Sv.l .any:Sv U))[m]? =some x:=by simpa using hx
   have:=List.mem_of_getElem? hx'
   simp at this
   rw[this.2];trivial
 have done:∀s' a' w' β',aY1 Y TI kd z l s'=some (q,kq)→aW Y.C E s' a' w' β'→a'.defers=[]∧∃v',(results fn a'.tmps).run P w'= .ok v' w'∧(Ending.returned v'= .returned (.int .i64 kq)∧(IntKind.i64.min≤kq∧kq≤IntKind.i64.max)∧Bel (·∈B) w w'∧∃B',B'.Nodup∧(∀x∈B',x∈B∨w.heap.size≤x)∧OwP Y.C w' v B' ((eY Y kd z).1,(eY Y kd q).2)):=fun s' a' w' β' hq r=>by
  unfold aY1 at hq
  rw[hq0] at hq
  split at hq
  ·rename_i x hres
   split at hq
   ·rename_i k' y hk' hy
    have hy:aCa (b,cells)=y:=by simpa using hy
    subst hy
    split at hq
    ·rename_i ids a' ho ha
     cases hb:(dist ids&&Cs (U:=U) [kd]) with
     |false=>rw[hb] at hq;cases hq
     |true=>
      rw[hb] at hq
      have hq:=Option.some.inj hq
      injection hq with hq1 hq2
      subst hq1;subst hq2
      simp only[Bool.and_eq_true] at hb
      obtain⟨us,k1,k2,k3⟩:=sD G.ti r hres
      match us,k2,k1,k3 with
      |[u],_,k1,k3=>
       have hu:=H6 r (Z:=fun _=>False) (k3 0 u x rfl rfl) hk' (fun _ h=>h.elim) (.inr fun _ _ _ _ _ h=>h)
       obtain⟨rfl,h1,h2⟩:=(show Rd w' (fun _=>False) [] u (.int .i64 k') from hu).aAP
       refine⟨r.defers,_,uX hl k1,rfl,⟨h1,h2⟩,r.hp.ext,?_⟩
       have hMs:Ms Y.C w' (E.X β') β' s'.m vs cells:=aT0 hplain hM0 (fun x hx=>r.hp.pin (_,_) (List.mem_map.2 ⟨x,hx,rfl⟩))
       simp only[aQc,hparts] at ho
       cases hol:Wi s'.m cells with
       |none=>rw[hol] at ho;cases ho
       |some l1=>
        rw[hol] at ho
        have:=Option.some.inj ho;subst this
        have hov:=aO0 G.lay r.hp (hMp hMs) hparts hol ha (fun τ e=>rV hb.2 kd (by simp) τ e)
        refine⟨gP β' l1,?_,fun x hx=> ?_,?_⟩
        ·exact aE5 r.hp (by have:=lC.1 hb.1;simpa using this)
        ·obtain⟨j,_,t,ht,hxt⟩:=nT hx
         exact((r.hp.new j t x ht hxt).1).symm
        ·have e1:(eY Y kd z).1=(eY Y kd (show kd.ty U from a')).1:=by cases kd<;>rfl
         rw[e1]
         exact hov
    ·cases hq
   ·cases hq
  ·cases hq
 rw[hn]
 have e0:(#[v,Value.int .i64 k]:Array Value).size=2:=rfl
 exact aGg (Rt G hm hI) 1000 E rfl rfl an cd _ _ _ _ _ (q,kq) (fun _=>True) (WC.true cd) (AW.true an) h _ (fun s' a' w' β' _ hq r=>done s' a' w' β' hq r) (fun i s' a' w' β' _ hq r=>by cases hq) (fun s' a' w' β' _ hq r=>done s' a' w' β' hq r) _ _ _ r0
theorem bBz (G:Good P g Y TI FZ)(hm:P.follows .mixedOrders=true)(hI:mM P IL){f:FuncId}{fn:Func}{cd:Code}{n:Nat}{l:List ResultVar}{kd:Kd}{m:kV U [kd, .int .i64]→Option (kV U [kd, .int .i64])}{an:kV U [kd, .int .i64]→An}(hf:P.funcs[f]? =some fn)(hb:fn.body=some cd)(hn:fn.ntmps=n)(hl:fn.results=l.toArray)
  (hE:∀args w,(callFunc f args).run P w= .ok (.enter f args) w) (hlen:2≤n) (h:∀a r,m a=some r→evM Y TI FZ IL (an a) cd n kd l a=some r):rT P g Y f ⟨[kd, .int .i64],[kd, .int .i64],false,true,m⟩:=fun a r hr=>by
 have h':=h a r hr
 refine⟨fun hh=>(by cases hh),fun hh=>(by cases hh),fun _ _ b cs u b' ds b'' k e1 e2=> ?_,fun _ hh=>(by cases hh)⟩
 have e1:[eY Y kd a.1,eY Y (.int .i64) a.2]=[(b,cs),u]:=e1
 have e2:[eY Y kd r.1,eY Y (.int .i64) r.2]=[(b',ds),(b'',[.int .i64 k])]:=e2
 simp only[List.cons.injEq,and_true] at e1 e2
 have e3:(false,[Lf.int (U:=U) .i64 (show Int from r.2)])=(b'',[Lf.int (U:=U) .i64 k]):=e2.2
 injection e3 with _ e3
 injection e3 with e3 _
 injection e3 with _ e3
 have hs:=aVr G hm hI hf hb hn hl hE hlen h'
 have e4:eY Y kd (show kd.ty U from a.1)=(b,cs):=e1.1
 have e5:eY Y kd (show kd.ty U from r.1)=(b',ds):=e2.1
 rw[←e1.2,←e3]
 have e6:(eY Y kd (show kd.ty U from a.1)).1=b:=by rw[e4]
 have e7:(eY Y kd (show kd.ty U from a.1)).2=cs:=by rw[e4]
 have e8:(eY Y kd (show kd.ty U from r.1)).2=ds:=by rw[e5]
 rw[←e6,←e7,←e8]
 exact hs
end
end Go.EV
namespace Go.VK
theorem aB {α:Type}{c:Prop}[Decidable c]{x y:Option α}{r:α}(h:c→y=x)(hr:gd c x=some r):y=some r:=by
 unfold gd at hr
 split at hr
 ·rename_i hc;rw[h hc];exact hr
 ·cases hr
end Go.VK

namespace Go.VK
open EV (cB)
section
variable {α β σ τ:Type}
theorem aXv {S:Type}{F:(S→Option τ)→S→Option τ}(V:Nat→S→Prop)(N:Nat)(R:Option τ)
  (step:∀i s rec,i<N→V i s→(∃s',V (i+1) s'∧F rec s=rec s')∨F rec s=R) (last:∀s rec,V N s→F rec s=R):∀(k i n:Nat) (s:S),i+k=N→k<n→V i s→cB n F s=R
 |0,i,n+1,s,hk,hn,h=>by
  have:i=N:=by omega
  subst this
  exact last s _ h
 |k+1,i,n+1,s,hk,hn,h=>by
  rcases step i s (cB n F) (by omega) h with⟨s',h1,h2⟩|h2
  ·exact h2.trans (aXv V N R step last k (i+1) n s' (by omega) (by omega) h1)
  ·exact h2
theorem xB {S:Type}{F:(S→Option τ)→S→Option τ}(V:Nat→S→Prop)(N:Nat)(R:Option τ){s:S}(hN:N≤18446744073709551616)(h0:V 0 s)
  (step:∀i s rec,i<N→V i s→(∃s',V (i+1) s'∧F rec s=rec s')∨F rec s=R) (last:∀s rec,V N s→F rec s=R):cB FUEL F s=R:=
 aXv V N R step last N 0 FUEL s (by omega) (by have:=nQ;omega) h0
theorem aXw {S:Type}{F:(S→Option τ)→S→Option τ}(V:Nat→S→Prop)(N:Nat)(Q:τ→Prop)
  (step:∀i s rec,i<N→V i s→(∃s',V (i+1) s'∧F rec s=rec s')∨∃r,F rec s=some r∧Q r) (last:∀s rec,V N s→∃r,F rec s=some r∧Q r):∀(k i n:Nat) (s:S),i+k=N→k<n→V i s→∃r,cB n F s=some r∧Q r
 |0,i,n+1,s,hk,hn,h=>by
  have:i=N:=by omega
  subst this
  exact last s _ h
 |k+1,i,n+1,s,hk,hn,h=>by
  rcases step i s (cB n F) (by omega) h with⟨s',h1,h2⟩|h2
  ·obtain⟨r,h3⟩:=aXw V N Q step last k (i+1) n s' (by omega) (by omega) h1
   exact⟨r,h2.trans h3.1,h3.2⟩
  ·exact h2
theorem bG {i n:Nat}(h:i<n):decide ((i:Int)<(n:Int))=true:=by simpa using h
theorem bH {n:Nat}:decide ((n:Int)<(n:Int))=false:=by simp
theorem aO2 {c:Bool}{x y:α}(h:c=true):(bif c then x else y)=x:=by rw[h];rfl
theorem I8 {c:Bool}{x y:α}(h:c=false):(bif c then x else y)=y:=by rw[h];rfl
theorem set_mid {l r:List β}{i:Nat}{d x:β}(h:l.length=i):(l++d::r).set i x=(l++[x])++r:=by
 subst h
 rw[List.set_append_right _ _ (Nat.le_refl _)]
 simp
theorem bB0 {a:List α}{d:β}{f:α→β}{F:(Nat×List β→Option (List β))→Nat×List β→Option (List β)}{n:Nat}(hn:n=a.length)
  (hl:a.length≤18446744073709551616)
  (hF:∀rec i out,out.length=a.length→∀hi:i<a.length,F rec (i,out)=rec (i+1,out.set i (f a[i]))) (hE:∀rec out,F rec (a.length,out)=some out):cB FUEL F (0,List.replicate n d)=some (a.map f):=by
 subst hn
 refine xB (fun i s=>i≤a.length∧s=(i,(a.take i).map f++List.replicate (a.length-i) d)) a.length _ hl ⟨Nat.zero_le _,by simp⟩ (fun i s rec hi hv=> ?_) (fun s rec hv=> ?_)
 ·obtain⟨hle,rfl⟩:=hv
  refine .inl ⟨_,⟨hi,rfl⟩,?_⟩
  rw[hF rec i _ (by simp;omega) hi]
  have e:a.length-i=(a.length-(i+1))+1:=by omega
  rw[e,List.replicate_succ,set_mid (by simp;omega)]
  have e2:a.take (i+1)=a.take i++[a[i]]:=by rw[List.take_add_one,List.getElem?_eq_getElem hi];rfl
  rw[e2,List.map_append];rfl
 ·obtain⟨_,rfl⟩:=hv
  rw[hE];simp
theorem fT {a:List α}{d:α}{F:(Nat×List α→Option (List α))→Nat×List α→Option (List α)}{n:Nat}(hn:n=a.length)
  (hl:a.length≤18446744073709551616)
  (hF:∀rec i out,out.length=a.length→∀hi:i<a.length,F rec (i,out)=rec (i+1,out.set i a[i])) (hE:∀rec out,F rec (a.length,out)=some out):cB FUEL F (0,List.replicate n d)=some a:=by
 have:=bB0 (f:=id) hn hl (d:=d) hF hE
 rwa [List.map_id] at this
theorem kM {a:List α}{F:(Nat→Option (Bool⊕PUnit))→Nat→Option (Bool⊕PUnit)}(hl:a.length≤18446744073709551616)
  (hF:∀rec i (hi:i<a.length),F rec i=rec (i+1)) (hE:∀rec,F rec a.length=some (.inr ())):cB FUEL F 0=some (.inr ()):=by
 refine xB (fun i s=>s=i) a.length _ hl rfl (fun i s rec hi hv=> ?_) (fun s rec hv=> ?_)
 ·subst hv;exact .inl ⟨_,rfl,hF rec s hi⟩
 ·subst hv;exact hE rec
theorem I9 {f:α→Nat}{l:List α}{i:Nat}(h:i<l.length):((l.take (i+1)).map f).sum=((l.take i).map f).sum+f l[i]:=by
 rw[List.take_add_one,List.getElem?_eq_getElem h,List.map_append,List.sum_append]
 simp only[Option.toList_some,List.map_cons,List.map_nil,List.sum_cons,List.sum_nil,Nat.add_zero]
def dQ (n:Nat)(left:Int):Int:=if (n:Int)≤left then left-n else-1
def szP (left:Int):Prop:=0≤left∧left≤1048576
instance (left:Int):Decidable (szP left):=inferInstanceAs (Decidable (_∧_))
theorem bB1 {a:List α}{f:α→Nat}{l0:Int}{F:(Int×Nat→Option (Int⊕Int))→Int×Nat→Option (Int⊕Int)}(h0:szP l0)(hl:(a.length:Int)≤1048576)
  (hF:∀rec i left (hi:i<a.length),szP left→F rec (left,i)=bif decide (dQ (f a[i]) left<0) then some (.inl (-1)) else rec (dQ (f a[i]) left,i+1)) (hE:∀rec left,F rec (left,a.length)=some (.inr left)):
  nx (cB FUEL F (l0,0)) (fun z=>some z)=some (dQ ((a.map f).sum) l0):=by
 have key:∀(i:Nat),i≤a.length→(a.map f).sum=((a.take i).map f).sum+((a.drop i).map f).sum:=fun i _=>by
  rw[←List.sum_append,←List.map_append,List.take_append_drop]
 by_cases hs:((a.map f).sum:Int)≤l0
 ·have:=xB (F:=F) (s:=(l0,0)) (fun i s=>i≤a.length∧s=(l0-(((a.take i).map f).sum:Nat),i)) a.length (some (.inr (l0-((a.map f).sum:Nat)))) (by omega) ⟨Nat.zero_le _,by simp⟩ (fun i s rec hi hv=> ?_) (fun s rec hv=> ?_)
  ·rw[this];simp only[nx_r,dQ,if_pos hs]
  ·obtain⟨hle,rfl⟩:=hv
   refine .inl ⟨_,⟨hi,rfl⟩,?_⟩
   have e2:=I9 (f:=f) hi
   have hk:=key (i+1) hi
   have hp:szP (l0-(((a.take i).map f).sum:Nat)):=⟨by omega,by have:=h0.2;omega⟩
   rw[hF rec i _ hi hp]
   have e3:dQ (f a[i]) (l0-(((a.take i).map f).sum:Nat))=l0-(((a.take (i+1)).map f).sum:Nat):=by unfold dQ;rw[if_pos (by omega),e2];omega
   rw[e3,I8 (decide_eq_false (by omega))]
  ·obtain⟨_,rfl⟩:=hv
   rw[hE,List.take_length]
 ·have:=xB (F:=F) (s:=(l0,0)) (fun i s=>i≤a.length∧s=(l0-(((a.take i).map f).sum:Nat),i)∧(((a.take i).map f).sum:Int)≤l0) a.length (some (.inl (-1))) (by omega) ⟨Nat.zero_le _,by simp,by have:=h0.1;simpa using this⟩ (fun i s rec hi hv=> ?_) (fun s rec hv=> ?_)
  ·rw[this];simp only[nx_l,dQ,if_neg hs]
  ·obtain⟨hle,rfl,hp0⟩:=hv
   have e2:=I9 (f:=f) hi
   have hp:szP (l0-(((a.take i).map f).sum:Nat)):=⟨by omega,by have:=h0.2;omega⟩
   rw[hF rec i _ hi hp]
   by_cases hq:(((a.take (i+1)).map f).sum:Int)≤l0
   ·have e3:dQ (f a[i]) (l0-(((a.take i).map f).sum:Nat))=l0-(((a.take (i+1)).map f).sum:Nat):=by unfold dQ;rw[if_pos (by omega),e2];omega
    refine .inl ⟨_,⟨hi,rfl,hq⟩,?_⟩
    rw[e3,I8 (decide_eq_false (by omega))]
   ·have e3:dQ (f a[i]) (l0-(((a.take i).map f).sum:Nat))= -1:=by unfold dQ;rw[if_neg (by omega)]
    refine .inr ?_
    rw[e3];rfl
  ·obtain⟨_,_,hp0⟩:=hv
   rw[List.take_length] at hp0
   exact absurd hp0 hs
theorem aT1 {n:Nat}{l:Int}(h:dQ n l<0)(h0:0≤l):dQ n l= -1∧l<n:=by
 unfold dQ at*
 split at h
 ·omega
 ·rename_i h1;rw[if_neg h1];exact⟨rfl,by omega⟩
theorem aT2 {n:Nat}{l:Int}(h:¬dQ n l<0):dQ n l=l-n∧(n:Int)≤l:=by
 unfold dQ at*
 split at h
 ·rename_i h1;rw[if_pos h1];exact⟨rfl,h1⟩
 ·omega
theorem aT3 {n m:Nat}{l:Int}(h:szP l):(bif decide (dQ n l<0) then-1 else dQ m (dQ n l))=dQ (n+m) l:=by
 by_cases hc:dQ n l<0
 ·rw[aO2 (decide_eq_true hc)]
  have:=(aT1 hc h.1).2
  unfold dQ;rw[if_neg (by omega)]
 ·rw[I8 (decide_eq_false hc)]
  obtain⟨e1,e2⟩:=aT2 hc
  rw[e1];unfold dQ
  by_cases hm:(m:Int)≤l-n
  ·rw[if_pos hm,if_pos (by omega)];omega
  ·rw[if_neg hm,if_neg (by omega)]
theorem bCz {n:Nat}{l:Int}(h:szP l)(hc:¬dQ n l<0):szP (dQ n l):=by
 obtain⟨e1,e2⟩:=aT2 hc
 rw[e1];exact⟨by omega,by have:=h.2;omega⟩
def aX (e:α→Int→α×Int):List α→Int→List α×Int
 |[],k=>([],k)
 |x::xs,k=>((e x k).1::(aX e xs (e x k).2).1,(aX e xs (e x k).2).2)
theorem aFd {e:α→Int→α×Int}:∀{l r:List α} {k:Int},aX e (l++r) k=((aX e l k).1++(aX e r (aX e l k).2).1,(aX e r (aX e l k).2).2)
 |[],r,k=>rfl
 |x::l,r,k=>by simp only[List.cons_append,aX,aFd (l:=l)]
theorem Xa {e:α→Int→α×Int}:∀{l:List α} {k:Int},(aX e l k).1.length=l.length
 |[],_=>rfl
 |x::l,k=>by simp[aX,Xa (l:=l)]
theorem kJ {l:List α}{i:Nat}{x:α}(h:i<l.length):aV (l.set i x) (i:Int)=some x:=by
 rw[aD (by simpa using h)];simp
theorem bJ {i:Nat}:((i:Nat):Int).toNat=i:=Int.toNat_natCast i
def qR (e:α→Int→α×Int)(c:α→Nat):Prop:=∀(x:α) (k:Int),0≤k→k+c x≤4611686018427387904→(e x k).2=k+c x∧c (e x k).1=c x
def aA (c:α→Nat)(l:List α):Nat:=(l.map c).sum
theorem bD {e:α→Int→α×Int}{c:α→Nat}(h:qR e c):qR (aX e) (aA c)
 |[],k,h0,h1=>by simp[aX,aA]
 |x::xs,k,h0,h1=>by
  simp only[aA,List.map_cons,List.sum_cons] at h1 ⊢
  obtain⟨a1,a2⟩:=h x k h0 (by omega)
  obtain⟨b1,b2⟩:=bD h xs (k+c x) (by omega) (by unfold aA;omega)
  simp only[aX,a1,b1,aA,List.map_cons,List.sum_cons,a2] at b2 ⊢
  exact⟨by omega,by omega⟩
theorem aVs {c:α→Nat}{l:List α}{i:Nat}(h:i<l.length):aA c l=aA c (l.take i)+(c l[i]+aA c (l.drop (i+1))):=by
 unfold aA
 conv=>lhs;rw[←List.take_append_drop i l,List.drop_eq_getElem_cons h]
 rw[List.map_append,List.map_cons,List.sum_append,List.sum_cons]
theorem fU {e:α→Int→α×Int}{c:α→Nat}(hok:qR e c){l0:List α}{k0:Int}(h0:0≤k0)(h1:k0+aA c l0≤4611686018427387904){F:(Int×Nat×List α→Option (Int×List α))→Int×Nat×List α→Option (Int×List α)}(hl:l0.length≤18446744073709551616)
  (hF:∀rec (k:Int) i (l:List α) (hi:i<l.length) (hi0:i<l0.length),l[i]=l0[i]→0≤k→k+c l0[i]≤4611686018427387904→F rec (k,i,l)=rec ((e l0[i] k).2,i+1,l.set i (e l0[i] k).1)) (hE:∀rec k (l:List α),F rec (k,l.length,l)=some (k,l)):cB FUEL F (k0,0,l0)=some ((aX e l0 k0).2,(aX e l0 k0).1):=by
 refine xB (fun i s=>i≤l0.length∧s=((aX e (l0.take i) k0).2,i,(aX e (l0.take i) k0).1++l0.drop i)) l0.length _ hl ⟨Nat.zero_le _,by simp[aX]⟩ (fun i s rec hi hv=> ?_) (fun s rec hv=> ?_)
 ·obtain⟨hle,rfl⟩:=hv
  refine .inl ⟨_,⟨hi,rfl⟩,?_⟩
  have hd:l0.drop i=l0[i]::l0.drop (i+1):=List.drop_eq_getElem_cons hi
  have hlen:(aX e (l0.take i) k0).1.length=i:=by rw[Xa];simp;omega
  have hil:i<((aX e (l0.take i) k0).1++l0.drop i).length:=by rw[List.length_append,hlen];simp;omega
  have hget:((aX e (l0.take i) k0).1++l0.drop i)[i]'hil=l0[i]:=by
   rw[List.getElem_append_right (by omega)];simp[hlen]
  have hc:=aVs (c:=c) hi
  have hk:=(bD hok (l0.take i) k0 h0 (by omega)).1
  rw[hF rec _ i _ hil hi hget (by omega) (by omega),hd,set_mid hlen]
  have e2:l0.take (i+1)=l0.take i++[l0[i]]:=by rw[List.take_add_one,List.getElem?_eq_getElem hi];rfl
  rw[e2,aFd];rfl
 ·obtain⟨_,rfl⟩:=hv
  rw[List.take_length]
  have:=hE rec (aX e l0 k0).2 (aX e l0 k0).1
  rw[Xa] at this
  simpa using this
def iG (s c:Nat)(k:Int):Prop:=s≤1152921504606846976∧0≤k∧k+c≤4611686018427387904
instance (s c:Nat) (k:Int):Decidable (iG s c k):=inferInstanceAs (Decidable (_∧_))
theorem aH {k:Int}(h0:0≤k)(h1:k+1≤4611686018427387904):IntKind.i64.wrap (k+1)=k+1:=bN (by omega) (by omega)
theorem Ah {c s:α→Nat}{l:List α}(h:∀x∈l,c x≤16+16*s x):aA c l≤16*(l.length+(l.map s).sum):=by
 induction l with
 |nil=>simp[aA]
 |cons x l ih=>
  have h1:=h x (by simp)
  have h2:=ih (fun y hy=>h y (by simp[hy]))
  simp only[aA,List.map_cons,List.sum_cons,List.length_cons] at*
  omega
theorem jK {c:α→Nat}{l:List α}(h:∀x∈l,c x≤16):aA c l≤16*l.length:=by
 have:=Ah (c:=c) (s:=fun _=>0) (l:=l) (fun x hx=>by have:=h x hx;omega)
 rw[show(l.map fun _=>0).sum=0 from(by clear this h;induction l with|nil=>rfl|cons x l ih=>simp only[List.map_cons,List.sum_cons,ih])] at this
 omega
def bC (e:α→Int→α×Int)(c:α→Nat)(a:α)(k:Int):Prop:=0≤k∧k+c a≤4611686018427387904∧∃x,a=(e x k).1∧c x=c a
noncomputable instance (e:α→Int→α×Int) (c:α→Nat) (a:α) (k:Int):Decidable (bC e c a k):=Classical.propDecidable _
theorem dW {e:α→Int→α×Int}{c:α→Nat}{a x:α}{k:Int}(h0:0≤k)(h1:k+c x≤4611686018427387904)(ha:a=(e x k).1)(hc:c a=c x):bC e c a k:=⟨h0,by rw[hc];exact h1,x,ha,hc.symm⟩
theorem fV {e:α→Int→α×Int}{c:α→Nat}(hok:qR e c){a:List α}{k0:Int}(hP:bC (aX e) (aA c) a k0){F:(Int×Nat→Option (Int⊕Int))→Int×Nat→Option (Int⊕Int)}(hl:a.length≤18446744073709551616)
  (hF:∀rec k i (hi:i<a.length),bC e c a[i] k→F rec (k,i)=rec (k+c a[i],i+1)) (hE:∀rec k,F rec (k,a.length)=some (.inr k)):cB FUEL F (k0,0)=some (.inr (k0+aA c a)):=by
 obtain⟨h0,h1,xs,hx,hcx⟩:=hP
 have hlen:a.length=xs.length:=by rw[hx,Xa]
 have key:∀i,i≤a.length→(aX e (xs.take i) k0).2=k0+aA c (a.take i)∧a.take i=(aX e (xs.take i) k0).1:=fun i hi=>by
  have hsum:aA c xs=aA c (xs.take i)+aA c (xs.drop i):=by
   unfold aA;rw[←List.sum_append,←List.map_append,List.take_append_drop]
  obtain⟨q1,q2⟩:=bD hok (xs.take i) k0 h0 (by omega)
  have ht:a.take i=(aX e (xs.take i) k0).1:=by
   rw[hx]
   conv=>lhs;rw[←List.take_append_drop i xs,aFd]
   simp only
   rw[List.take_left' (by rw[Xa];simp;omega)]
  exact⟨by rw[q1,ht,q2],ht⟩
 refine xB (fun i s=>i≤a.length∧s=(k0+aA c (a.take i),i)) a.length _ hl ⟨Nat.zero_le _,by simp[aA]⟩ (fun i s rec hi hv=> ?_) (fun s rec hv=> ?_)
 ·obtain⟨hle,rfl⟩:=hv
  refine .inl ⟨_,⟨hi,rfl⟩,?_⟩
  have e2:a.take (i+1)=a.take i++[a[i]]:=by rw[List.take_add_one,List.getElem?_eq_getElem hi];rfl
  have ec:aA c (a.take (i+1))=aA c (a.take i)+c a[i]:=I9 hi
  have hsum:aA c a=aA c (a.take (i+1))+aA c (a.drop (i+1)):=by
   unfold aA;rw[←List.sum_append,←List.map_append,List.take_append_drop]
  have hxi:i<xs.length:=by omega
  obtain⟨k1,k2⟩:=key i hle
  obtain⟨k3,k4⟩:=key (i+1) hi
  have ex:xs.take (i+1)=xs.take i++[xs[i]]:=by rw[List.take_add_one,List.getElem?_eq_getElem hxi];rfl
  have hai:a[i]=(e xs[i] (k0+aA c (a.take i))).1:=by
   rw[ex,aFd,e2,k2] at k4
   have:=List.append_cancel_left k4
   simp only[aX,List.cons.injEq,and_true] at this
   rw[this,k1]
  have hsx:aA c xs=aA c (xs.take i)+(c xs[i]+aA c (xs.drop (i+1))):=by
   unfold aA
   conv=>lhs;rw[←List.take_append_drop i xs,List.drop_eq_getElem_cons hxi]
   rw[List.map_append,List.map_cons,List.sum_append,List.sum_cons]
  have hct:aA c (xs.take i)=aA c (a.take i):=by
   have:=(bD hok (xs.take i) k0 h0 (by omega)).2
   rw[←k2] at this;exact this.symm
  have hce:c a[i]=c xs[i]:=by rw[hai];exact(hok xs[i] _ (by omega) (by omega)).2
  rw[hF rec _ i hi ⟨by omega,by omega,xs[i],hai,hce.symm⟩,ec]
  congr 2;omega
 ·obtain⟨_,rfl⟩:=hv
  rw[hE,List.take_length]
end
end Go.VK
namespace Go.VK
open EV (cB)
section
variable {α β σ τ:Type}
def dK (n:Nat)(a b:α):Prop:=a=b∧n≤1152921504606846976
noncomputable instance (n:Nat) (a b:α):Decidable (dK n a b):=Classical.propDecidable _
def gW (p:α→Prop)(l:List α):Prop:=l.length≤9223372036854775807∧∀y∈l,p y
def okS (s:ByteArray):Prop:=s.size≤9223372036854775807
def fE (p:α→Prop)(a:α)(left:Int):Prop:=p a∧szP left
noncomputable instance (p:α→Prop) (a:α) (left:Int):Decidable (fE p a left):=Classical.propDecidable _
theorem kN {n:Nat}(h:n≤68719476736):zT (n:Int):=⟨by omega,by omega⟩
theorem dA {f:α→Nat}{l:List α}{i:Nat}(hi:i<l.length):f l[i]≤(l.map f).sum:=by
 have:f l[i]∈l.map f:=List.mem_map.2 ⟨_,List.getElem_mem hi,rfl⟩
 induction l generalizing i with
 |nil=>simp at hi
 |cons x l ih=>
  cases i with
  |zero=>simp
  |succ i=>
   have h':i<l.length:=by simpa using hi
   have:=ih h' (List.mem_map.2 ⟨_,List.getElem_mem h',rfl⟩)
   simp only[List.map_cons,List.sum_cons,List.getElem_cons_succ];omega
theorem J2 {a:List α}{f:α→Nat}{l0:Int}{p:α→Prop}{F:(Int×Nat→Option (Int⊕Int))→Int×Nat→Option (Int⊕Int)}(h:fE (gW p) a l0)
  (hF:∀rec i left (hi:i<a.length),fE p a[i] left→F rec (left,i)=bif decide (dQ (f a[i]) left<0) then some (.inl (-1)) else rec (dQ (f a[i]) left,i+1)) (hE:∀rec left,F rec (left,a.length)=some (.inr left)):
  (bif decide (IntKind.i64.wrap (l0-(a.length:Int))<0) then some (-1:Int) else nx (cB FUEL F (IntKind.i64.wrap (l0-(a.length:Int)),0)) fun z=>some z)=some (dQ (a.length+(a.map f).sum) l0):=by
 obtain⟨⟨h1,h2⟩,h3⟩:=h
 have hw:IntKind.i64.wrap (l0-(a.length:Int))=l0-(a.length:Int):=bN (by have:=h3.1;omega) (by have:=h3.2;omega)
 rw[hw]
 by_cases hc:l0-(a.length:Int)<0
 ·rw[aO2 (decide_eq_true hc)];unfold dQ;rw[if_neg (by omega)]
 ·rw[I8 (decide_eq_false hc)]
  have hp:szP (l0-(a.length:Int)):=⟨by omega,by have:=h3.2;omega⟩
  rw[bB1 hp (by have:=h3.2;omega) (fun rec i left hi hl=>hF rec i left hi ⟨h2 _ (List.getElem_mem hi),hl⟩) hE]
  unfold dQ
  by_cases hm:((a.map f).sum:Int)≤l0-a.length
  ·rw[if_pos hm,if_pos (by omega)];congr 1;omega
  ·rw[if_neg hm,if_neg (by omega)]
theorem Ai {n:Nat}{l0:Int}(h1:n≤9223372036854775807)(h3:szP l0):(bif decide (IntKind.i64.wrap (l0-(n:Int))<0) then some (-1:Int) else some (IntKind.i64.wrap (l0-(n:Int))))=some (dQ n l0):=by
 have hw:IntKind.i64.wrap (l0-(n:Int))=l0-(n:Int):=bN (by have:=h3.1;omega) (by have:=h3.2;omega)
 rw[hw]
 by_cases hc:l0-(n:Int)<0
 ·rw[aO2 (decide_eq_true hc)];unfold dQ;rw[if_neg (by omega)]
 ·rw[I8 (decide_eq_false hc)];unfold dQ;rw[if_pos (by omega)]
theorem aK4 {n m:Nat}{l:Int}{X:Option Int}(h:szP l)(hK:szP (dQ n l)→X=some (dQ m (dQ n l))):(bif decide (dQ n l<0) then some (-1) else X)=some (dQ (n+m) l):=by
 by_cases hc:dQ n l<0
 ·rw[aO2 (decide_eq_true hc),←aT3 h,aO2 (decide_eq_true hc)]
 ·rw[I8 (decide_eq_false hc),hK (bCz h hc),←aT3 h,I8 (decide_eq_false hc)]
theorem Cu {n:Nat}{l:Int}(h:szP l):(bif decide (dQ n l<0) then some (-1) else some (dQ n l))=some (dQ n l):=by
 by_cases hc:dQ n l<0
 ·rw[aO2 (decide_eq_true hc),(aT1 hc h.1).1]
 ·rw[I8 (decide_eq_false hc)]
end
end Go.VK
namespace Go.VK
theorem dD:((3:Int)≠0)=True:=by simp
theorem bC0 {n m:Nat}{l:Int}{X:Option Int}(h:szP l)(hK:szP (l-(n:Int))→X=some (dQ m (l-(n:Int)))):(bif decide (l-(n:Int)<0) then some (-1) else X)=some (dQ (n+m) l):=by
 by_cases hc:l-(n:Int)<0
 ·rw[aO2 (decide_eq_true hc)];unfold dQ;rw[if_neg (by omega)]
 ·have hp:szP (l-(n:Int)):=⟨by omega,by have:=h.2;omega⟩
  rw[I8 (decide_eq_false hc),hK hp]
  unfold dQ
  by_cases hm:(m:Int)≤l-n
  ·rw[if_pos hm,if_pos (by omega)];congr 1;omega
  ·rw[if_neg hm,if_neg (by omega)]
end Go.VK
namespace Go.VK
open EV (cB)
section
variable {α β σ τ:Type}
theorem kK {l:List α}(p:α→Bool)(a b:τ){F:(Nat→Option τ)→Nat→Option τ}(hl:l.length≤18446744073709551616)
  (hF:∀rec i (hi:i<l.length),F rec i=bif p l[i] then some a else rec (i+1)) (hE:∀rec,F rec l.length=some b):cB FUEL F 0=some (bif l.any p then a else b):=by
 have key:∀i (hi:i<l.length),p l[i]=true→l.any p=true:=fun i hi h=>List.any_eq_true.2 ⟨_,List.getElem_mem hi,h⟩
 refine xB (fun i s=>i≤l.length∧s=i∧(l.take i).any p=false) l.length _ hl ⟨Nat.zero_le _,rfl,rfl⟩ (fun i s rec hi hv=> ?_) (fun s rec hv=> ?_)
 ·obtain⟨_,rfl,h3⟩:=hv
  rw[hF rec s hi]
  cases hp:p l[s] with
  |true=>exact .inr (by rw[key s hi hp];rfl)
  |false=>exact .inl ⟨_,⟨hi,rfl,by rw[List.take_add_one,List.getElem?_eq_getElem hi,List.any_append,h3];simp[hp]⟩,rfl⟩
 ·obtain⟨_,rfl,h3⟩:=hv
  rw[List.take_length] at h3
  rw[hE,h3];rfl
theorem fF {l:List α}(p:Nat→α→Bool)(a b:τ){F:(Nat→Option τ)→Nat→Option τ}(hl:l.length≤18446744073709551616)
  (hF:∀rec i (hi:i<l.length),F rec i=bif p i l[i] then some a else rec (i+1)) (hE:∀rec,F rec l.length=some b):cB FUEL F 0=some (bif eU p 0 l then a else b):=by
 have key:∀(l:List α) (j:Nat),eU p j l=true↔∃(i:Nat) (hi:i<l.length),p (j+i) l[i]=true:=by
  intro l
  induction l with
  |nil=>intro j;simp[eU]
  |cons x xs ih=>
   intro j
   simp only[eU,Bool.or_eq_true,ih]
   constructor
   ·rintro(h|⟨i,hi,h⟩)
    ·exact⟨0,by simp,h⟩
    ·exact⟨i+1,by simpa using hi,by rw[show j+(i+1)=j+1+i by omega];exact h⟩
   ·rintro⟨i,hi,h⟩
    cases i with
    |zero=>exact .inl h
    |succ i=>exact .inr ⟨i,by simpa using hi,by rw[show j+1+i=j+(i+1) by omega];exact h⟩
 refine xB (fun i s=>i≤l.length∧s=i∧∀(j:Nat) (hj:j<l.length),j<i→p j l[j]=false) l.length _ hl ⟨Nat.zero_le _,rfl,fun j _ h=>by omega⟩ (fun i s rec hi hv=> ?_) (fun s rec hv=> ?_)
 ·obtain⟨_,rfl,h3⟩:=hv
  rw[hF rec s hi]
  cases hp:p s l[s] with
  |true=>exact .inr (by rw[(key l 0).2 ⟨s,hi,by rw[Nat.zero_add];exact hp⟩];rfl)
  |false=>
   refine .inl ⟨_,⟨hi,rfl,fun j hj h=> ?_⟩,rfl⟩
   rcases Nat.lt_or_ge j s with h'|h'
   ·exact h3 j hj h'
   ·have:j=s:=by omega
    subst this;exact hp
 ·obtain⟨_,rfl,h3⟩:=hv
  have:eU p 0 l=false:=by
   cases h:eU p 0 l with
   |false=>rfl
   |true=>
    obtain⟨i,hi,hp⟩:=(key l 0).1 h
    rw[Nat.zero_add,h3 i hi hi] at hp;cases hp
  rw[hE,this];rfl
theorem kX {l:List α}(g:σ→α→σ)(Inv:Nat→σ→Prop)(fin:σ→Option τ){s0:σ}{F:(σ×Nat→Option τ)→σ×Nat→Option τ}(hl:l.length≤18446744073709551616)(h0:Inv 0 s0)
  (hI:∀i s (hi:i<l.length),Inv i s→Inv (i+1) (g s l[i])) (hF:∀rec i s (hi:i<l.length),Inv i s→F rec (s,i)=rec (g s l[i],i+1)) (hE:∀rec s,Inv l.length s→F rec (s,l.length)=fin s):cB FUEL F (s0,0)=fin (l.foldl g s0):=by
 refine xB (fun i s=>i≤l.length∧s=((l.take i).foldl g s0,i)∧Inv i s.1) l.length _ hl ⟨Nat.zero_le _,rfl,h0⟩ (fun i s rec hi hv=> ?_) (fun s rec hv=> ?_)
 ·obtain⟨_,rfl,h3⟩:=hv
  have e:(l.take (i+1)).foldl g s0=g ((l.take i).foldl g s0) l[i]:=by rw[List.take_add_one,List.getElem?_eq_getElem hi,List.foldl_append];rfl
  refine .inl ⟨_,⟨hi,rfl,by rw[e];exact hI i _ hi h3⟩,?_⟩
  rw[hF rec i _ hi h3,e]
 ·obtain⟨_,rfl,h3⟩:=hv
  rw[hE rec _ h3,List.take_length]
theorem aVt {l:List α}(g:σ→α→σ)(Inv:Nat→σ→Prop)(fin:σ→Option τ){s0:σ}{F:(Nat×σ→Option τ)→Nat×σ→Option τ}(hl:l.length≤18446744073709551616)(h0:Inv 0 s0)
  (hI:∀i s (hi:i<l.length),Inv i s→Inv (i+1) (g s l[i])) (hF:∀rec i s (hi:i<l.length),Inv i s→F rec (i,s)=rec (i+1,g s l[i])) (hE:∀rec s,Inv l.length s→F rec (l.length,s)=fin s):cB FUEL F (0,s0)=fin (l.foldl g s0):=by
 refine xB (fun i s=>i≤l.length∧s=(i,(l.take i).foldl g s0)∧Inv i s.2) l.length _ hl ⟨Nat.zero_le _,rfl,h0⟩ (fun i s rec hi hv=> ?_) (fun s rec hv=> ?_)
 ·obtain⟨_,rfl,h3⟩:=hv
  have e:(l.take (i+1)).foldl g s0=g ((l.take i).foldl g s0) l[i]:=by rw[List.take_add_one,List.getElem?_eq_getElem hi,List.foldl_append];rfl
  refine .inl ⟨_,⟨hi,rfl,by rw[e];exact hI i _ hi h3⟩,?_⟩
  rw[hF rec i _ hi h3,e]
 ·obtain⟨_,rfl,h3⟩:=hv
  rw[hE rec _ h3,List.take_length]
theorem J3 {f:α→List β}:∀{l:List α} {s:List β},l.foldl (fun s x=>s++f x) s=s++(l.map f).flatten
 |[],s=>by simp
 |x::l,s=>by simp only[List.foldl_cons,J3 (l:=l),List.map_cons,List.flatten_cons,List.append_assoc]
theorem gU {α:Type}{c:α→Nat}(h:∀x,1≤c x):∀(l:List α),l.length≤aA c l
 |[]=>by simp[aA]
 |x::l=>by
  have:=gU h l
  have:=h x
  simp only[aA,List.map_cons,List.sum_cons,List.length_cons] at*;omega
end
end Go.VK

namespace Go.VK
def J4 (w:World)(X:Nat→Prop):List V→Prop
 |[]=>True
 |c::cs=>(∃v,Rd w X [] v c)∧J4 w X cs
section
variable {w:World} {X:Nat→Prop}
theorem J4.of:∀{cs:List V},(∀(i:Nat) (c:V),cs[i]? =some c→∃v,Rd w X [] v c)→J4 w X cs
 |[],_=>trivial
 |c::cs,h=>⟨h 0 c rfl,J4.of fun i d hd=>h (i+1) d (by simpa using hd)⟩
theorem J4.ofL {vs:List Value}{Us:List V}(h:RdL w X vs Us):J4 w X Us:=J4.of fun i c hc=>by
 have hi:i<vs.length:=by
  rw[h.1]
  exact(List.getElem?_eq_some_iff.1 hc).1
 exact⟨vs[i],h.2 i vs[i] c (List.getElem?_eq_getElem hi) hc⟩
theorem J4.agg {cs:List V}(h:∃v,Rd w X [] v (.agg cs)):J4 w X cs:=by
 obtain⟨v,h⟩:=h
 obtain⟨vs,rfl,hs,hr⟩:=Rd.aAZ h
 exact J4.of fun i c hc=>by
  have hi:i<vs.size:=by
   rw[hs]
   exact(List.getElem?_eq_some_iff.1 hc).1
  exact⟨vs[i],hr i vs[i] c (Array.getElem?_eq_getElem hi) hc⟩
theorem bB2 {s:ByteArray}(h:∃v,Rd w X [] v (.str s)):okS s:=by
 obtain⟨v,h⟩:=h
 exact(Rd.aAR h).2
theorem jL {α:Type}{k:Nat}{enc:α→List V}{l:List α}{p:α→Prop}(h:∃v,Rd w X [] v (.slice k (l.map enc)))(hp:∀y,J4 w X (enc y)→p y):gW p l:=by
 obtain⟨v,h⟩:=h
 refine⟨?_,fun y hy=>hp y ?_⟩
 ·obtain⟨A,c,rfl,h1,h2⟩:=h.aAY
  rw[List.length_map] at h1
  exact Nat.le_trans h1 h2
 ·obtain⟨i,hi,rfl⟩:=List.mem_iff_getElem.1 hy
  generalize he:l.map enc=es at h
  cases h with
  |slice0 h=>simp at he;subst he;simp at hi
  |slice hn hpos hc hm hX hb hk hcell hrd=>
   exact J4.of fun j d hd=>⟨_,hrd i j (enc l[i]) d (by rw[←he,List.getElem?_map,List.getElem?_eq_getElem hi];rfl) hd⟩
end
theorem aZk {P:Program}{g:GI}{f:FuncId}{Us:List V}{R:V→Prop}{p:Prop}(he:∀args w,(callFunc f args).run P w= .ok (.enter f args) w)(h:p→Spec P g f Us R)(hp:∀w X,J4 w X Us→p):Spec P g f Us R:=
 ⟨he,fun w X vs hg hX hR=>(h (hp w X (J4.ofL hR))).2 w X vs hg hX hR⟩
end Go.VK

namespace Go.VK
def bC1 (n:Nat):GI where
 G w:=∃m,w.cell? ⟨n,0,none⟩=some (.int .i64 m)
 st _ _ h he:=by
  obtain⟨m,hm⟩:=h
  exact⟨m,he.cell hm⟩
theorem aBy (sep:ByteArray):∀(k:Nat) (s l:ByteArray),l∈Lib.splitB sep 0 k s→l.size≤s.size
 |0,s,l,h=>by
  rw[Lib.splitB_zero] at h
  rw[List.mem_singleton.1 h];exact Nat.le_refl _
 |k+1,s,l,h=>by
  unfold Lib.splitB at h
  split at h
  ·rw[List.mem_singleton.1 h];exact Nat.le_refl _
  ·rcases List.mem_cons.1 h with rfl|h
   ·exact ext_size _ _ _
   ·exact Nat.le_trans (aBy sep k _ l h) (ext_size _ _ _)
theorem aSu {P:Program}{F:FuncId}{T n:Nat}(hE:∀args w,(callFunc F args).run P w= .ok (.enter F args) w)
  (hS:∀(s sep:ByteArray) (m:Int) (w:World),s.size<4294967281→w.cell? ⟨n,0,none⟩=some (.int .i64 m)→1≤sep.size→Calls P F #[.string s, .string sep] w fun e w'=>
   e= .returned (.slice (some ⟨w.heap.size,0,none⟩) (Lib.countB s sep+1) (Lib.countB s sep+1))∧w'=w.alloc (.cells ((Lib.splitB sep 0 (Lib.countB s sep) s).map Value.string).toArray T))
  (s sep:ByteArray) (h1:s.size<4294967281) (h2:1≤sep.size):Spec P (bC1 n) F [.str s, .str sep] (fun r=>r= .slice 1 ((gV s sep).map sV)):=by
 refine⟨hE,fun w X0 vs hG hX0 hvs=> ?_⟩
 obtain⟨v,u,rfl⟩:∃v u,vs=[v,u]:=by
  match vs,hvs.1 with
  |[v,u],_=>exact⟨v,u,rfl⟩
 obtain⟨rfl,hv2⟩:=(hvs.2 0 v _ rfl rfl).aAR
 obtain⟨rfl,hu2⟩:=(hvs.2 1 u _ rfl rfl).aAR
 obtain⟨m,hm⟩:=hG
 refine(hS s sep m w h1 hm h2).mono ?_
 rintro e w' ⟨rfl,rfl⟩
 have hl:(gV s sep).length=Lib.countB s sep+1:=Lib.splitB_all sep h2 0 _ s rfl
 have hn:Lib.countB s sep+1=((gV s sep).map sV).length:=by rw[List.length_map];exact hl.symm
 have hcnt:Lib.countB s sep≤s.size+1:=Lib.count_le s.data.toList sep.data.toList
 have hsz:∀l∈gV s sep,l.size≤s.size:=fun l h=>aBy sep _ s l h
 refine⟨_,_,rfl,rfl,?_,Ext.alloc w _⟩
 have hget:∀(i j:Nat) (e:List V) (d:V),((gV s sep).map sV)[i]? =some e→e[j]? =some d→∃l,(gV s sep)[i]? =some l∧j=0∧d= .str l:=by
  intro i j e d h3 h4
  rw[List.getElem?_map] at h3
  obtain⟨l,hl,rfl⟩:=Option.map_eq_some_iff.1 h3
  cases j with
  |zero=>exact⟨l,hl,rfl,by simpa[sV] using h4.symm⟩
  |succ j=>simp[sV] at h4
 refine .slice (val:=fun i j=> .string ((gV s sep).getD i ⟨#[]⟩)) hn (by rw[←hn];omega) (Nat.le_refl _) (by unfold maxLen;omega) (fun hxx=>by have:=hX0 _ hxx;simp at this) (by simp)
  (fun e he=>by obtain⟨l,_,rfl⟩:=List.mem_map.1 he;rfl) (fun i j e d h3 h4=> ?_) (fun i j e d h3 h4=> ?_)
 ·obtain⟨l,h5,rfl,rfl⟩:=hget i j e d h3 h4
  rw[eH,Nat.zero_add,Nat.mul_one,Nat.add_zero]
  have h6:(Lib.splitB sep 0 (Lib.countB s sep) s)[i]? =some l:=h5
  rw[World.cell?_alloc_new]
  simp[List.getD,h5,h6]
 ·obtain⟨l,h5,rfl,rfl⟩:=hget i j e d h3 h4
  have:=hsz l (List.mem_of_getElem? h5)
  have e6:(gV s sep).getD i ⟨#[]⟩=l:=by simp[List.getD,h5]
  rw[e6]
  exact .str (by unfold maxLen;omega)
end Go.VK
namespace Go
variable {H:Type} {enc:TypeId×Value→H}
theorem VK.aBV {a:Assume}{C:Checked}{os:Os}{f:FuncId}{fn:Func}{s:ChangeSpec}{conds:List PathCond}{apart fresh handsOn again:Bool}{X:World→Array Value→Prop}
  (hX:∀(w w':World) (args:Array Value),w.heap=w'.heap→X w args→X w' args)
  (own:ownKnob C.prog.godebug=none) (started:os.Started) (noInit:C.prog.inits.idxOf? f=none) (hfn:C.prog.funcs[f]? =some fn)
  (witness:∃(w:World) (tape:Tape) (i:Input),w.os=os∧(w.forCall tape i).Shaped C.prog∧i.vars=[]∧Input.okWide C.prog (w.forCall tape i) .any w.heap.size f i∧
   ((s.pre enc C.prog fn conds apart (w.forCall tape i).memory i.args∧X (w.forCall tape i).memory i.args)∧sizedMet enc C.prog fn (OpenSpec.ofChange s) apart (w.forCall tape i).memory i.args)∧a.holds C.prog (lone (Frame.enter C.prog f i.args .normal) [] (w.forCall tape i)))
  (contract:∀(W:World) (base:Nat) (args:Array Value) (ds gs:List (DataW H)) (before:List MemPlace),
   (∀(j:Nat) t v,fn.params[j]? =some t→args[j]? =some v→Value.okWide C.prog W .any base t v)→
   DataW.Whole enc C.prog fn.params.toList s.vars apart W args.toList ds gs before→
   X W args→W.ShapedOpen C.prog→
   Calls C.prog f args W fun e W'=>∃v,e= .returned v∧s.post enc C.prog fn apart fresh handsOn again W args v W'):
  ReturnsInHanded a C os f .any (fun w args=>(s.pre enc C.prog fn conds apart w args∧X w args)∧sizedMet enc C.prog fn (OpenSpec.ofChange s) apart w args) (s.post enc C.prog fn apart fresh handsOn again):=by
 refine returnsInHanded_of_calls own started noInit witness ?_
 intro w tape i _ hsh _ hok hpre hholds
 obtain⟨_,_,_,fn',hfn',_,_,_,_,hval⟩:=hok
 have e:fn'=fn:=Option.some.inj (hfn'.symm.trans hfn)
 subst e
 obtain⟨⟨⟨ds,gs,before,hw,hc⟩,hx⟩,hz⟩:=hpre
 have hw':=DataW.Whole.of_heap (w':=w.forCall tape i) (by rfl) hw
 refine(contract (w.forCall tape i) w.heap.size i.args ds gs before hval hw' (hX _ _ _ (by rfl) hx) hsh).mono fun e W' ⟨v,he,hp⟩=> ?_
 subst he
 exact ChangeSpec.post_blind hp
end Go

