import Derived.Test.YtfllllgehgablaaGreatDoorEVywtoz
import Derived.Test.YtfllllgehgablaaGreatDoorEVrtou
import Derived.Test.YtfllllgehgablaaGreatDoorVKltos
import Derived.Lib.SplitLaws
import Derived.HandedShaped
/-
  THE EVALUATOR's KIT: calls that are gone through in place. Plain theorems over any program; the conditions stand in each.
-/
set_option linter.all false
namespace Go.EV
open Go.RowKit Go.VK
variable {U:Uni} {Y:Lay U} {TI:List (Nat×TInfo)} {FZ:List (Nat×Sum U)} {P:Program} {g:GI} {E:Env U g}
section
variable {s:St U} {a:Act} {w w0:World} {β:List Tr}
def bA7 (hti:oO P TI=true)(r:bE Y.C E s a w β){x:ResultVar}{y:Sv U}(h:bHc TI s x=some y):∃v,(o7 P w a.tmps x).run P w= .ok v w/\y.mean Y.C w (E.X β) β s.m v:=by
 cases x with
 |tmp n=>exact⟨_,by simp[o7],r.tm n y (by rw[<-aR];exact h)⟩
 |cell c t=>
  simp only[bHc] at h
  split at h
  ·rename_i b i h1 h2
   have hl:load Y s i (.box b 0)=some y:=h
   have hmb:(Lf.box b 0:Lf U).mean Y.C w (E.X β) β s.m (a.tmps.getD c undef):=r.tm c (.l (.box b 0)) (by rw[<-aR];exact h1)
   obtain⟨p,v',k1,k2,k3⟩:=aOa r (bP hti h2) hmb hl
   exact⟨v',by simp only[o7,k1,asAddr,Sem.run_bind,Sem.run_pure,Result.andThen_ok,k2 w (Ext.refl w)],k3⟩
  ·cases h
def wE (hti:oO P TI=true)(r:bE Y.C E s a w β):∀{l:List ResultVar} {xs:List (Sv U)},Tz TI s l=some xs->∃vs:List Value,(l.mapM (o7 P w a.tmps)).run P w= .ok vs w/\vs.length=xs.length/\∀(i:Nat) (v:Value) (x:Sv U),vs[i]? =some v->xs[i]? =some x->x.mean Y.C w (E.X β) β s.m v
 |[],xs,h=>by
  have:=ak h;subst this
  exact⟨[],rfl,rfl,by simp⟩
 |x::l,xs,h=>by
  simp only[Tz] at h
  cases h1:bHc TI s x with
  |none=>rw[h1] at h;cases h
  |some y=>
   cases h2:Tz TI s l with
   |none=>rw[h1,h2] at h;cases h
   |some ys=>
    rw[h1,h2] at h
    have:=ak h;subst this
    obtain⟨v,k1,k2⟩:=bA7 hti r h1
    obtain⟨vs,k3,k4,k5⟩:=wE hti r h2
    refine⟨v::vs,by simp[jq,k1,k3],by simp[k4],λi v' W q1 q2=> ?_⟩
    cases i with
    |zero=>simp at q1 q2;subst q1;subst q2;exact k2
    |succ i=>exact k5 i v' W (by simpa using q1) (by simpa using q2)
def yX {fn:Func}{l:List ResultVar}(hf:fn.results=l.toArray){vs:List Value}(h:(l.mapM (o7 P w a.tmps)).run P w= .ok vs w):(results fn a.tmps).run P w= .ok (if h:vs.toArray.size=1 then vs.toArray[0] else .tuple vs.toArray) w:=by
 have e1:results fn a.tmps=(do
   let vs<-fn.results.mapM (o7 P w a.tmps)
   pure (if h:vs.size=1 then vs[0] else .tuple vs)):=rfl
 rw[e1,hf,gn]
 simp only[Sem.run_bind,Sem.run_map,h,Result.andThen_ok,Sem.run_pure]
end
section
def qE (P:Program)(IL:Il):Prop:=∀(f:Nat) (c:Code) (n:Nat) (rv:List ResultVar),iE IL f=some (c,n,rv)->∃fn,P.funcs[f]? =some fn/\fn.body=some c/\fn.ntmps=n/\fn.results=rv.toArray/\∀args w,(callFunc f args).run P w= .ok (.enter f args) w
def bLo:qE P []:=λ_ _ _ _ h=>by cases h
def oP {IL:Il}{f:Nat}{c:Code}{n:Nat}{rv:List ResultVar}{fn:Func}(hf:P.funcs[f]? =some fn)(hb:fn.body=some c)(hn:fn.ntmps=n)(hl:fn.results=rv.toArray)(hE:∀args w,(callFunc f args).run P w= .ok (.enter f args) w)(h:qE P IL):qE P ((f,c,n,rv)::IL):=λf' c' n' rv' h'=>by
 have h':cond (Nat.beq f f') (some (c,n,rv)) (iE IL f')=some (c',n',rv'):=h'
 cases hb':Nat.beq f f' with
 |true=>
  rw[hb'] at h'
  have e:=ak h'
  injection e with e1 e2
  injection e2 with e2 e3
  subst e1;subst e2;subst e3
  have:=ah hb';subst this
  exact⟨fn,hf,hb,hn,hl,hE⟩
 |false=>rw[hb'] at h';exact h f' c' n' rv' h'
def bPm (s:St U)(a:Act):List (Sv U×Value):=s.t.zipIdx.map λp=>(p.1,a.tmps.getD p.2 undef)
def aO4 {C:Cod U}{w:World}{X:Nat->Prop}{β:List Tr}{m:Mm U}:∀{ys:List (Sv U)} {l:List (Bool×List (Lf U))} {vs:List Value},aWb ys=some l->vs.length=ys.length->(∀(i:Nat) (v:Value) (x:Sv U),vs[i]? =some v->ys[i]? =some x->x.mean C w X β m v)->vs.length=l.length/\∀(i:Nat) (v:Value) (x:Bool×List (Lf U)),vs[i]? =some v->l[i]? =some x->Mp C w X β m v x
 |[],l,vs,h,hl,_=>by
  have:=ak h;subst this
  exact⟨hl,λi v x _ h=>by simp at h⟩
 |y::ys,l,[],h,hl,_=>by simp at hl
 |y::ys,l,v::vs,h,hl,hm=>by
  simp only[aWb] at h
  cases h1:sv2 y with
  |none=>rw[h1] at h;cases h
  |some p=>
   cases h2:aWb ys with
   |none=>rw[h1,h2] at h;cases h
   |some ps=>
    rw[h1,h2] at h
    have:=ak h;subst this
    obtain⟨k1,k2⟩:=aO4 h2 (by simpa using hl) (λi v x p q=>hm (i+1) v x (by simpa using p) (by simpa using q))
    refine⟨by simp[k1],λi u x p' q=> ?_⟩
    cases i with
    |zero=>
     simp at p' q;subst p';subst q
     have h0:=hm 0 v y rfl rfl
     cases y with
     |l x=>have:=ak h1;subst this;exact⟨x,rfl,h0⟩
     |a cs=>have:=ak h1;subst this;exact h0
     |t xs=>cases h1
    |succ i=>exact k2 i u x (by simpa using p') (by simpa using q)
def bA8 {C:Cod U}{w:World}{X:Nat->Prop}{β:List Tr}{m:Mm U}{ys:List (Sv U)}{y:Sv U}{vs:List Value}(h:bK5 ys=some y)(hl:vs.length=ys.length)(hm:∀(i:Nat) (v:Value) (x:Sv U),vs[i]? =some v->ys[i]? =some x->x.mean C w X β m v):y.mean C w X β m (if h:vs.toArray.size=1 then vs.toArray[0] else .tuple vs.toArray):=by
 match ys,vs,h,hl,hm with
 |[x],[v],h,_,hm=>
  have:=ak h;subst this
  exact hm 0 v x rfl rfl
 |[],[],h,_,_=>
  have:=ak h;subst this
  exact⟨[],rfl,rfl,λi v x h=>by simp at h⟩
 |x::x'::xs,v::v'::vs,h,hl,hm=>
  replace h:(match aWb (x::x'::xs) with|some l=>some (Sv.t l)|none=>none)=some y:=h
  cases h1:aWb (x::x'::xs) with
  |none=>rw[h1] at h;cases h
  |some l=>
   rw[h1] at h
   have:=ak h;subst this
   rw[dif_neg (by simp)]
   obtain⟨k1,k2⟩:=aO4 h1 hl hm
   exact⟨_,rfl,k1,k2⟩
variable {IL:Il} {α:Type} {EV:An->Code->St U->(St U->Option α)->Option α}
def aRd (P:Program)(Y:Lay U)(g:GI)(EV:An->Code->St U->(St U->Option α)->Option α):Prop:=∀(E:Env U g),E.fr=[]->E.prm=[]->∀(an:An) (c:Code) (s:St U) (K:St U->Option α) (z:α),EV an c s K=some z->Snd P Y E (λ_=>True) c s z K (λ_ _=>none) K
def bEt (G:Good P g Y TI FZ)(hI:qE P IL)(hEV:aRd P Y g EV)(hE:E.fr=[])(hP:E.prm=[]){s:St U}{a:Act}{w:World}{β:List Tr}(r:bE Y.C E s a w β){al:List Oper}{o:Oper}{an:An}{K:St U->Option α}{z:α}(h:inl TI IL EV an o s K=some z){K':Act->World->Prop}{Q:Exit->Act->World->Prop}
  (hk:∀s' a' w' β',Ag (Wr al o) s s'->K s'=some z->bE Y.C E s' a' w' β'->K' a' w'):o.wp P a w K' Q:=by
 unfold inl at h
 split at h
 ·rename_i f xa ats ho
  cases hf:iE IL f with
  |none=>rw[hf] at h;cases h
  |some p=>
   obtain⟨c,n,rv⟩:=p
   rw[hf] at h
   simp only at h
   cases hb:Nat.ble (len xa.toList) n with
   |false=>rw[hb] at h;cases h
   |true=>
    rw[hb] at h
    simp only[ae] at h
    have hlen:xa.toList.length<=n:=by have:=bc hb;rwa [bH] at this
    obtain⟨fn,f1,f2,f3,f4,f5⟩:=hI f c n rv hf
    let E':Env U g:=E.pinned (bPm s a)
    have hX:∀β,E'.X β=E.X β:=λ_=>rfl
    have H':Hp Y.C E' s.m β w:=⟨r.hp.ext,r.hp.len,r.hp.vers,r.hp.cnt,r.hp.new,r.hp.dist,r.hp.nd,r.hp.ok,λx hx=>by
     rcases bw.1 hx with hx|hx
     ·obtain⟨⟨y,m⟩,hy,rfl⟩:=cg.1 hx
      exact r.tm m y (by simpa using ji.1 hy)
     ·exact r.hp.pin x hx,r.hp.prm,r.hp.fr⟩
    have r':bE Y.C E' ⟨xa.toList.map (dS s)++List.replicate (n-len xa.toList) (.l .any),s.m,s.fr⟩ {tmps:=(xa.toList.map a.eval).toArray++Array.replicate (fn.ntmps-(xa.toList.map a.eval).toArray.size) undef,defers:=[]} w β:=by
     refine⟨H',rfl,?_,λm x hx=> ?_⟩
     ·simp only[bH,aw,bl,fe,iS,fL,Array.size_replicate,f3]
     ·by_cases hm:m<xa.toList.length
      ·rw[aq (by rw[bl];exact hm)] at hx
       have h1:(xa.toList.map a.eval)[m]? =some ((xa.toList.map a.eval)[m]'(by rw[bl];exact hm)):=ac _
       obtain⟨y,e1,e2⟩:=Cb (s:=s) (a:=a) m _ x h1 hx
       have hv:((xa.toList.map a.eval).toArray++Array.replicate (fn.ntmps-(xa.toList.map a.eval).toArray.size) undef).getD m undef=a.eval y:=by
        rw[<-e1,cj,fi (by simpa using hm)]
        simp[h1]
       show x.mean Y.C w (E'.X β) β s.m (((xa.toList.map a.eval).toArray++Array.replicate (fn.ntmps-(xa.toList.map a.eval).toArray.size) undef).getD m undef)
       rw[hv,e2]
       exact vX r
      ·rw[ay (by rw[bl];omega)] at hx
       have:=az hx
       simp at this
       rw[this.2];trivial
    let R':Value->World->Prop:=λv w'=>∃(y:Sv U) (s':St U) (β':List Tr),K (put ⟨s.t,s'.m,s.fr⟩ o.dst y)=some z/\bE Y.C E ⟨s.t,s'.m,s.fr⟩ a w' β'/\y.mean Y.C w' (E.X β') β' s'.m v/\Am s.m s'.m
    have done:∀s' a' w' β',Ag (λ_=>True) ⟨xa.toList.map (dS s)++List.replicate (n-len xa.toList) (.l .any),s.m,s.fr⟩ s'->(match Tz TI s' rv with
      |some ys=>match bK5 ys with
       |some y=>K (put ⟨s.t,s'.m,s.fr⟩ o.dst y)
       |none=>none
      |none=>none)=some z->bE Y.C E' s' a' w' β'->a'.defers=[]/\∃v,(results fn a'.tmps).run P w'= .ok v w'/\∃v',Ending.returned v= .returned v'/\R' v' w':=λs' a' w' β' hag hq r2=>by
     split at hq
     ·rename_i ys hys
      split at hq
      ·rename_i y hy
       obtain⟨vs,k1,k2,k3⟩:=wE G.ti r2 hys
       refine⟨r2.defers,_,yX f4 k1,_,rfl,y,s',β',hq,?_,bA8 hy k2 k3,hag.m⟩
       have hp:Hp Y.C E s'.m β' w':=⟨r2.hp.ext,r2.hp.len,r2.hp.vers,r2.hp.cnt,r2.hp.new,r2.hp.dist,r2.hp.nd,r2.hp.ok,λx hx=>r2.hp.pin x (bw.2 (.inr hx)),r2.hp.prm,r2.hp.fr⟩
       exact⟨hp,r.defers,r.tsz,λm x hx=>r2.hp.pin (x,a.tmps.getD m undef) (bw.2 (.inl (cg.2 ⟨(x,m),ji.2 hx,rfl⟩)))⟩
      ·cases hq
     ·cases hq
    have hc:Calls P f (xa.toList.map a.eval).toArray w λe w'=>∃v,e= .returned v/\R' v w':=by
     refine calls_of_wp f1 f2 ?_
     exact hEV E' hE hP an c _ _ z h _ (λs' a' w' β' hg hq r2=>done s' a' w' β' hg hq r2) (λi s' a' w' β' _ hq _=>by cases hq) (λs' a' w' β' hg hq r2=>done s' a' w' β' hg hq r2) _ _ _ r'
    refine wpc (wC ho f5) hc ?_
    rintro v w' ⟨y,s',β',k1,k2,k3,k4⟩
    exact hk (put ⟨s.t,s'.m,s.fr⟩ o.dst y) _ w' β' (Ag.put (s:=s) (s':=⟨s.t,s'.m,s.fr⟩) ⟨λ_ _=>rfl,rfl,rfl,k4⟩ (λn e=> .inl e)) k1 (k2.put λ_=>k3)
 ·cases h
def aH2 (G:Good P g Y TI FZ)(hI:qE P IL)(hEV:aRd P Y g EV)(hE:E.fr=[])(hP:E.prm=[]){s:St U}{a:Act}{w:World}{β:List Tr}(r:bE Y.C E s a w β){al:List Oper}{i:Nat}{o:Oper}(ho:al[i]? =some o){l:List Nat}{an:An}{K:St U->Option α}{z:α}(h:ilr Y TI FZ IL EV al (i::l) an s K=some z):
  ∃an',ilo an'=ilo an/\∀(K':Act->World->Prop) (Q:Exit->Act->World->Prop),(∀s' a' w' β',Ag (Wr al o) s s'->ilr Y TI FZ IL EV al l an' s' K=some z->bE Y.C E s' a' w' β'->(Nat.ble (uC FZ o.op) 1=true->Ext w w')->K' a' w')->if Region.wanted o (yielded al.toArray a.tmps)=true then o.wp P a w K' Q else K' (a.put o.dst undef) w:=by
 have plain:∀an',ilo an'=ilo an->grd Y TI FZ al o s (λs'=>ilr Y TI FZ IL EV al l an' s' K)=some z->∃an',ilo an'=ilo an/\∀(K':Act->World->Prop) (Q:Exit->Act->World->Prop),(∀s' a' w' β',Ag (Wr al o) s s'->ilr Y TI FZ IL EV al l an' s' K=some z->bE Y.C E s' a' w' β'->(Nat.ble (uC FZ o.op) 1=true->Ext w w')->K' a' w')->if Region.wanted o (yielded al.toArray a.tmps)=true then o.wp P a w K' Q else K' (a.put o.dst undef) w:=
  λan' he h=>⟨an',he,λK' Q hk=>aQ6 G r h hk⟩
 unfold ilr at h
 rw[aR,ho] at h
 cases an with
 |il k b q=>
  simp only at h
  cases hb:Nat.beq k i with
  |false=>rw[hb] at h;exact plain _ rfl h
  |true=>
   rw[hb] at h
   simp only[ae] at h
   cases hc:Nat.beq (uC FZ o.op) 2 with
   |false=>rw[hc] at h;cases h
   |true=>
    rw[hc] at h
    simp only[ae] at h
    have hc:=ah hc
    refine⟨q,rfl,λK' Q hk=> ?_⟩
    obtain⟨s1,r1,h1,h2⟩:=Fu r h
    rcases h2 with⟨hw,h2⟩|⟨hw,h2⟩
    ·rw[cH hw]
     exact bEt G hI hEV hE hP r1 (al:=al) h2 (λs' a' w' β' q1 q2 q3=>hk s' a' w' β' (h1.trans q1) q2 q3 (λhh=>by rw[hc] at hh;cases hh))
    ·rw[cX (by rw[hw];simp)]
     exact hk _ _ w β (h1.put (λn e=> .inl e)) h2 (r1.put (x:= .l .und) (v:=undef) (λ_=>rfl)) (λ_=>Ext.refl w)
 |_=>exact plain _ rfl h
def bNk (G:Good P g Y TI FZ)(hI:qE P IL)(hEV:aRd P Y g EV)(hE:E.fr=[])(hP:E.prm=[]){al:List Oper}{Q:Exit->Act->World->Prop}{D:Nat->Prop}:∀(n i:Nat) (an:An) (s:St U) (K:St U->Option α) (z:α),i+n=al.length->(∀o∈al,∀n,Wr al o n->D n)->ilr Y TI FZ IL EV al (rng n i) an s K=some z->
  (∀s' a w β,Ag D s s'->K s'=some z->bE Y.C E s' a w β->Q .normal a w)->∀a w β,bE Y.C E s a w β->wpList P al.toArray Q (al.drop i) a w
 |0,i,an,s,K,z,hn,hD,h,hQ,a,w,β,r=>by
  rw[fR (by omega)]
  exact wpList_nil (hQ s a w β (Ag.refl s) h r)
 |n+1,i,an,s,K,z,hn,hD,h,hQ,a,w,β,r=>by
  have hi:i<al.length:=by omega
  have ho:al[i]? =some al[i]:=ac hi
  obtain⟨an',_,hk⟩:=aH2 G hI hEV hE hP r ho (l:=rng n (Nat.succ i)) h
  rw[co hi]
  refine wpList_step λK' hK'=>hk K' _ λs' a' w' β' q1 q2 q3 _=>hK' _ _ ?_
  have q1':=q1.mono (hD _ (cN hi))
  exact bNk G hI hEV hE hP n (i+1) an' s' K z (by omega) hD q2 (λs2 a2 w2 β2 p1 p2 p3=>hQ s2 a2 w2 β2 (q1'.trans p1) p2 p3) a' w' β' q3
def bNl (G:Good P g Y TI FZ)(hI:qE P IL)(hEV:aRd P Y g EV)(hE:E.fr=[])(hP:E.prm=[]){al:List Oper}{Q:Exit->Act->World->Prop}{D:Nat->Prop}:∀(l:List Nat) (an:An) (s:St U) (K:St U->Option α) (z:α),(∀o∈al,∀n,Wr al o n->D n)->ilr Y TI FZ IL EV al l an s K=some z->
  (∀s' a w β,Ag D s s'->K s'=some z->bE Y.C E s' a w β->Q .normal a w)->∀listed,chz al.toArray l listed=true->∀a w β,bE Y.C E s a w β->wpAny P .any al.toArray Q l.length listed a w
 |[],an,s,K,z,_,h,hQ,listed,hc,a,w,β,r=>⟨by simpa[chz] using hc,hQ s a w β (Ag.refl s) h r⟩
 |i::l,an,s,K,z,hD,h,hQ,listed,hc,a,w,β,r=>by
  replace hc:((Region.ready .any al.toArray listed==[i])&&chz al.toArray l (listed.setIfInBounds i true))=true:=hc
  simp only[aa,cI] at hc
  cases ho:al[i]? with
  |none=>
   have:(none:Option α)=some z:=by
    have h':=h
    unfold ilr at h'
    rw[aR,ho] at h';exact h'
   cases this
  |some o=>
   obtain⟨an',_,hk⟩:=aH2 G hI hEV hE hP r ho h
   have hg:al.toArray[i]? =some o:=by simpa using ho
   refine aV1 hc.1 (wpOp_step hg λK' hK'=>hk K' _ λs' a' w' β' q1 q2 q3 _=>hK' _ _ ?_)
   have q1':=q1.mono (hD o (az ho))
   exact bNl G hI hEV hE hP l an' s' K z hD q2 (λs2 a2 w2 β2 p1 p2 p3=>hQ s2 a2 w2 β2 (q1'.trans p1) p2 p3) _ hc.2 a' w' β' q3
def bA9 (G:Good P g Y TI FZ)(hI:qE P IL)(hEV:aRd P Y g EV)(hE:E.fr=[])(hP:E.prm=[]){s:St U}{a:Act}{w:World}{β:List Tr}(r:bE Y.C E s a w β){al:List Oper}{i:Nat}{o:Oper}(ho:al[i]? =some o)(hc:uC FZ o.op=0){l:List Nat}{an:An}{K:St U->Option α}{z:α}(h:ilr Y TI FZ IL EV al (i::l) an s K=some z):
  ∃an',ilo an'=ilo an/\grd Y TI FZ al o s (λs'=>ilr Y TI FZ IL EV al l an' s' K)=some z:=by
 unfold ilr at h
 rw[aR,ho] at h
 cases an with
 |il k b q=>
  simp only at h
  cases hb:Nat.beq k i with
  |false=>rw[hb] at h;exact⟨_,rfl,h⟩
  |true=>
   rw[hb] at h
   simp only[ae] at h
   rw[hc] at h;cases h
 |_=>exact⟨_,rfl,h⟩
def bLp (G:Good P g Y TI FZ)(hI:qE P IL)(hEV:aRd P Y g EV)(hE:E.fr=[])(hP:E.prm=[]){al:List Oper}{a0:Option Nat}(hs:Region.noSelect al.toArray=true){Q:Exit->Act->World->Prop}{D:Nat->Prop}:∀(l:List (Nat×Bool)) (an:An) (s:St U) (K:St U->Option α) (z:α),(∀o∈al,∀n,Wr al o n->D n)->ilr Y TI FZ IL EV al (l.map Prod.fst) an s K=some z->
  (∀s' a w β,Ag D s s'->K s'=some z->bE Y.C E s' a w β->Q .normal a w)->
   ∀listed,Dn .any al.toArray listed->chk al.toArray a0 l listed=true->CG FZ al a0 l listed->∀a w β,bE Y.C E s a w β->dJ P .any al.toArray a0 (NoPanic Q) (Ext w) l.length listed a w
 |[],an,s,K,z,_,h,hQ,listed,hd,hc,hg,a,w,β,r=>nV (P:=P) (a0:=a0) (S:=Ext w) (Q:=NoPanic Q) (by simpa[chk] using hc) (hQ s a w β (Ag.refl s) h r) 0
 |(i,fl)::l,an,s,K,z,hD,h,hQ,listed,hd,hc,hcg,a,w,β,r=>by
  replace h:ilr Y TI FZ IL EV al (i::l.map Prod.fst) an s K=some z:=h
  cases ho:al[i]? with
  |none=>
   have:(none:Option α)=some z:=by
    have h':=h
    unfold ilr at h'
    rw[aR,ho] at h';exact h'
   cases this
  |some o=>
   have hg:al.toArray[i]? =some o:=by simpa using ho
   have hmem:=az ho
   cases fl with
   |true=>
    simp only[chk,aa] at hc
    have hfr:Nat.beq (uC FZ o.op) 0=true/\frees FZ al a0 l=true:=by
     rcases hcg with hcg|⟨_,hcg⟩
     ·have hcg':frees FZ al a0 ((i,true)::l)=true:=hcg
      simp only[frees,aR,ho,ae,aa] at hcg'
      exact hcg'
     ·exact absurd (Fy hcg).1 (by simp)
    have hc0:=ah hfr.1
    obtain⟨an',_,h⟩:=bA9 G hI hEV hE hP r ho hc0 h
    obtain⟨v,s',h1,h2,h3,h4⟩:=bHl G r hc0 h
    have hD':=hd.set (by simpa using hc.1.1.2)
    have h4':=h4.mono (hD o hmem)
    refine Ko (i:=i) (oi:=o) (v:=v) hg hs hc.1.1.1 hc.1.1.2 hc.1.2 hd (λ_ _ _ h=>h) ?_ (Ext.refl w) ?_
    ·rcases h1 with⟨k1,k2⟩|⟨k1,k2⟩
     ·exact .inl ⟨k1,k2⟩
     ·exact .inr ⟨k1,k2⟩
    ·exact bLp G hI hEV hE hP hs l an' s' K z hD h3 (λs2 a2 w2 β2 p1 p2 p3=>hQ s2 a2 w2 β2 (h4'.trans p1) p2 p3) _ hD' hc.2 (.inl hfr.2) _ w β h2
   |false=>
    replace hc:((Region.ready .any al.toArray listed==[i])&&(a0 !=some i|| !fJ a0 (listed.setIfInBounds i true))&&chk al.toArray a0 l (listed.setIfInBounds i true))=true:=hc
    simp only[aa,cI] at hc
    have hD':=hd.set (i:=i) (by rw[hc.1.1];simp)
    have hcase:(Nat.ble (uC FZ o.op) 1=true/\frees FZ al a0 l=true)\/(fJ a0 (listed.setIfInBounds i true)=false/\aDr l=true):=by
     rcases hcg with hcg|⟨hn,hcg⟩
     ·have hcg':frees FZ al a0 ((i,false)::l)=true:=hcg
      simp only[frees,aR,ho,ab] at hcg'
      cases hb:Nat.ble (uC FZ o.op) 1 with
      |true=>rw[hb] at hcg';exact .inl ⟨rfl,hcg'⟩
      |false=>
       rw[hb] at hcg'
       simp only[ab,aa] at hcg'
       refine .inr ⟨?_,hcg'.2⟩
       cases a0 with
       |none=>exact absurd hcg'.1 (by simp)
       |some b=>
        have hbi:b=i:=ah hcg'.1
        subst hbi
        have:=hc.1.2
        simpa using this
     ·exact .inr ⟨lL hn,(Fy hcg).2⟩
    obtain⟨an',_,hk⟩:=aH2 G hI hEV hE hP r ho h
    refine jG hc.1.1 (by simp) (λi' hi'=> ?_)
    simp at hi';subst hi'
    refine wpOp_step hg λK' hK'=>hk K' _ λs' a' w' β' q1 q2 q3 q4=>hK' _ _ ?_
    have q1':=q1.mono (hD o hmem)
    have cont:=λhh=>bLp G hI hEV hE hP hs l an' s' K z hD q2 (λs2 a2 w2 β2 p1 p2 p3=>hQ s2 a2 w2 β2 (q1'.trans p1) p2 p3) _ hD' hc.2 hh a' w' β' q3
    rcases hcase with⟨c1,c2⟩|⟨c1,c2⟩
    ·have hx:=q4 c1
     exact⟨λ_=>hx,sD (λx hx'=>Ext.trans hx hx') _ _ _ _ (cont (.inl c2))⟩
    ·exact⟨λhn=>(by rw[c1] at hn;cases hn),nU _ _ _ _ c1 (cont (.inr ⟨c1,c2⟩))⟩
def bLq (G:Good P g Y TI FZ)(hI:qE P IL)(hEV:aRd P Y g EV)(hE:E.fr=[])(hP:E.prm=[]){s:St U}{a:Act}{w:World}{β:List Tr}{al:List Oper}{a0:Option Nat}{Q:Exit->Act->World->Prop}{i:Nat}{o:Oper}{n:Nat}{listed:Array Bool}{wS:World}(ho:al[i]? =some o){pre:Bool}(ha:a0Y a0 i listed=true)(hp:fJ a0 listed=pre)(hpre:(pre&& !yQ a0 i)=false)
  {b:An} {K:St U->Option α} {z:α} (h:aMa al o (λs=>inl TI IL EV b o s K) s K=some z) (r:bE Y.C E s a w β)
  (hk:∀s' a' w' β',Ag (Wr al o) s s'->K s'=some z->bE Y.C E s' a' w' β'->dJ P .any al.toArray a0 (NoPanic Q) (Ext w') n (listed.setIfInBounds i true) a' w'):
  wpOp P al.toArray (NoPanic Q) i (λa' w'=>(fJ a0 (listed.setIfInBounds i true)=true->Ext wS w')/\dJ P .any al.toArray a0 (NoPanic Q) (Ext wS) n (listed.setIfInBounds i true) a' w') a w:=by
 have hny:fJ a0 (listed.setIfInBounds i true)=false:=(Ua ha hp).trans hpre
 have hg:al.toArray[i]? =some o:=by simpa using ho
 refine wpOp_step hg λK' hK'=> ?_
 have fin:∀s' a' w' β',Ag (Wr al o) s s'->K s'=some z->bE Y.C E s' a' w' β'->K' a' w':=λs' a' w' β' q1 q2 q3=>hK' _ _ ⟨λhn=>(by rw[hny] at hn;cases hn),nU _ _ _ _ hny (hk s' a' w' β' q1 q2 q3)⟩
 obtain⟨s1,r1,h1,h2⟩:=Fu r h
 rcases h2 with⟨hw,h2⟩|⟨hw,h2⟩
 ·rw[cH hw]
  exact bEt G hI hEV hE hP r1 (al:=al) h2 (λs' a' w' β' q1 q2 q3=>fin s' a' w' β' (h1.trans q1) q2 q3)
 ·rw[cX (by rw[hw];simp)]
  exact fin _ _ w β (h1.put (λn e=> .inl e)) h2 (r1.put (x:= .l .und) (v:=undef) (λ_=>rfl))
def bHx (G:Good P g Y TI FZ)(hI:qE P IL)(hEV:aRd P Y g EV)(hE:E.fr=[])(hP:E.prm=[]){al:List Oper}{a0:Option Nat}(hs:Region.noSelect al.toArray=true){Q:Exit->Act->World->Prop}{D:Nat->Prop}:∀(l:List (Nat×Bool)) (an:An) (pre st:Bool) (s:St U) (K:St U->Option α) (z:α),(∀i∈l,∀o,al[i.1]? =some o->∀n,Wr al o n->D n)->ilY Y TI FZ IL EV al a0 l an pre st s K=some z->
  (∀s' a w β,Ag D s s'->K s'=some z->bE Y.C E s' a w β->Q .normal a w)->∀listed,Dn .any al.toArray listed->Ku al.toArray a0 l listed=true->fJ a0 listed=pre->∀a w β wS,Lk E none st pre wS w->bE Y.C E s a w β->dJ P .any al.toArray a0 (NoPanic Q) (Ext wS) l.length listed a w
 |[],an,pre,st,s,K,z,_,h,hQ,listed,_,hc,_,a,w,β,wS,_,r=>nV (P:=P) (a0:=a0) (S:=Ext wS) (Q:=NoPanic Q) (by simpa[Ku] using hc) (hQ s a w β (Ag.refl s) h r) 0
 |(i,fl)::l,an,pre,st,s,K,z,hD,h,hQ,listed,hdn,hc,hp,a,w,β,wS,hl,r=>by
  unfold ilY at h
  rw[aR] at h
  cases ho:al[i]? with
  |none=>rw[ho] at h;cases h
  |some o=>
   rw[ho] at h
   simp only at h
   have hDi:=hD (i,fl) (by simp) o ho
   have hD':∀j∈l,∀o,al[j.1]? =some o->∀n,Wr al o n->D n:=λj hj=>hD j (by simp[hj])
   cases fl with
   |true=>
    simp only[ae] at h
    simp only[Ku,aa] at hc
    obtain⟨hr,hne⟩:=nX hc.1
    exact stepT G hs ho hdn hc.1 h hl.st (λhn=>hl.pre (hp.symm.trans hn)) r λv s' h1 h2 h3=>
     bHx G hI hEV hE hP hs l an pre st s' K z hD' h2 (λs2 a2 w2 β2 g1=>hQ s2 a2 w2 β2 ((h1.mono hDi).trans g1)) _ (hdn.set hr) hc.2 ((uY hne).trans hp) _ w β wS hl h3
   |false=>
    simp only[Ku,aa,cI] at hc
    simp only[ab] at h
    have hr:i∈Region.ready .any al.toArray listed:=by rw[hc.1];simp
    refine jG hc.1 (by simp) λi' hi'=> ?_
    simp at hi';subst hi'
    have plain:∀an',grd Y TI FZ al o s (λs'=>bif !(pre&& !yQ a0 i')||(Nat.ble (uC FZ o.op) 1||unO none s'.m.o) then ilY Y TI FZ IL EV al a0 l an' (pre&& !yQ a0 i') (st&&Bq (none:Option (Nat×Nat))) s' K else none)=some z->wpOp P al.toArray (NoPanic Q) i' (λa' w'=>(fJ a0 (listed.setIfInBounds i' true)=true->Ext wS w')/\dJ P .any al.toArray a0 (NoPanic Q) (Ext wS) l.length (listed.setIfInBounds i' true) a' w') a w:=λan' h=>
     aTw G ho hc.2.1 hp (kd:=none) (K:=λs'=>ilY Y TI FZ IL EV al a0 l an' (pre&& !yQ a0 i') (st&&Bq (none:Option (Nat×Nat))) s' K) h hl r λv s' w' β' wS' h1 h2 h3 h4=>
      bHx G hI hEV hE hP hs l an' _ _ s' K z hD' h2 (λs2 a2 w2 β2 g1=>hQ s2 a2 w2 β2 ((h1.mono hDi).trans g1)) _ (hdn.set hr) hc.2.2 (Ua hc.2.1 hp) _ w' β' wS' h4 h3
    cases an with
    |il k b q=>
     simp only at h
     cases hb:Nat.beq k i' with
     |false=>rw[hb] at h;exact plain _ h
     |true=>
      rw[hb] at h
      simp only[ae] at h
      cases hq:(Nat.beq (uC FZ o.op) 2&& !(pre&& !yQ a0 i')) with
      |false=>rw[hq] at h;cases h
      |true=>
       rw[hq] at h
       simp only[ae] at h
       simp only[aa,cz] at hq
       exact bLq G hI hEV hE hP ho hc.2.1 hp hq.2 h r λs' a' w' β' q1 q2 q3=>
        bHx G hI hEV hE hP hs l q false st s' K z hD' q2 (λs2 a2 w2 β2 g1=>hQ s2 a2 w2 β2 ((q1.mono hDi).trans g1)) _ (hdn.set hr) hc.2.2 ((Ua hc.2.1 hp).trans hq.2) a' w' β' w' ⟨λ_ _ h=>(by cases h),λ_=>rfl,λ_=>rfl,λ_=>Ext.refl _⟩ q3
    |_=>exact plain _ h
def Good.pl (G:Good P g Y TI FZ):Good P g Y TI (plT FZ):=⟨G.ti,G.lay,λf S h=>by
 unfold plT at h
 obtain⟨⟨f',S'⟩,hm,e⟩:=cg.1 h
 injection e with e1 e2
 subst e1
 have h0:=G.fs f' S' hm
 obtain⟨ar,rs,fr,wt,m⟩:=S'
 subst e2
 cases fr with
 |false=>exact h0
 |true=>
  cases wt with
  |true=>exact h0
  |false=>exact bD8 h0 rfl rfl⟩
def Vm (G:Good P g Y TI FZ)(hm:P.follows .mixedOrders=true)(hI:qE P IL):aY5 P Y TI FZ IL g:=by
 intro E hE hP α EV hEV id os d an s N X R z D hD hA h
 cases an with
 |il k b q=>
  intro Q hN hX hR a w β r
  have hos:os.toList.toArray=os:=by simp
  by_cases hy:∃kb f a0 ord,ilo q= .y kb f a0 ord
  ·obtain⟨kb,f,a0,ord,hy⟩:=hy
   unfold bAk at h
   simp only[hy] at h
   replace h:(bif d&&aHi os none a0 ord then ilY Y TI FZ IL EV os.toList a0 ord (.il k b q) true true s N else none)=some z:=h
   cases d with
   |false=>cases h
   |true=>
    cases hc:aHi os none a0 ord with
    |false=>rw[hc] at h;cases h
    |true=>
     rw[hc] at h
     simp only[dw,ae] at h
     simp only[aHi,aa,bH] at hc
     obtain⟨hs,hlen,hcf⟩:=hc
     have hlen:=ah hlen
     have r0:bE Y.C E s a w.drew β:=r.ext (Ext.drew w)
     refine wp_region_noPanic (wp_region_any hm (lK (a0:=a0) (S:=Ext w.drew) _ _ _ _ ?_))
     have:=bHx G hI hEV hE hP (a0:=a0) (al:=os.toList) (by rw[hos];exact hs) (Q:=Q) (D:=D) ord _ true true s N z (λi _ o ho=>hD o (az ho)) h hN (Array.replicate os.size false) (by rw[hos];exact Dn0) (by rw[hos];exact hcf) bEs a w.drew β w.drew ⟨λ_ _ h=>(by cases h),λ_=>rfl,λ_=>rfl,λ_=>Ext.refl _⟩ r0
     rw[hos,hlen] at this;exact this
  replace h:(match(bif d then aAi FZ os.toList os (ilo q) else some (rng (len os.toList) 0)) with
   |some l=>ilr Y TI FZ IL EV os.toList l (.il k b q) s N
   |none=>none)=some z:=by
   unfold bAk at h
   simp only at h
   split at h
   ·rename_i kb f a0 ord hq;exact absurd ⟨kb,f,a0,ord,hq⟩ hy
   ·exact h
  cases d with
  |false=>
   simp only[ab,bH] at h
   refine wp_region_list ?_
   have:=bNk G hI hEV hE hP (Q:=Q) (D:=D) os.toList.length 0 _ s N z (by omega) hD h hN a w β r
   rw[gk,hos] at this;exact this
  |true=>
   simp only[ae] at h
   cases ho:aAi FZ os.toList os (ilo q) with
   |none=>rw[ho] at h;cases h
   |some l=>
    rw[ho] at h
    simp only at h
    have r0:bE Y.C E s a w.drew β:=r.ext (Ext.drew w)
    rcases aO3 ho with⟨hs,hlen,hc⟩|⟨a0,ord,hs,hlen,hc,hfr,hlo⟩
    ·refine wp_region_noPanic (wp_region_any hm ?_)
     have:=bNl G hI hEV hE hP (Q:=NoPanic Q) (D:=D) l _ s N z hD h hN (Array.replicate os.size false) (by rw[hos];exact hc) a w.drew β r0
     rw[hos,hlen] at this;exact this
    ·refine wp_region_noPanic (wp_region_any hm (lK (a0:=a0) (S:=Ext w.drew) _ _ _ _ ?_))
     subst hlo
     have:=bLp G hI hEV hE hP (a0:=a0) (by rw[hos];exact hs) (Q:=Q) (D:=D) ord _ s N z hD h hN (Array.replicate os.size false) (by rw[hos];exact Dn0) (by rw[hos];exact hc) (.inl hfr) a w.drew β r0
     rw[hos,hlen] at this;exact this
 |pl b=>
  have hh:(∃a0 ord,rgn Y TI (plT FZ) os.toList os d (.r a0 ord) s N=some z)\/rgn Y TI (plT FZ) os.toList os d .n s N=some z:=by
   unfold bAk at h
   cases b with
   |r a0 ord=>exact .inl ⟨a0,ord,h⟩
   |_=>exact .inr h
  rcases hh with⟨a0,ord,hh⟩|hh
  ·exact aAw hE hP G.pl hm id os d (.r a0 ord) s N X R z D hD trivial hh
  ·exact aAw hE hP G.pl hm id os d .n s N X R z D hD trivial hh
 |_=>exact aAw hE hP G hm id os d _ s N X R z D hD hA h
end
end Go.EV

namespace Go.EV
open Go.RowKit Go.VK
variable {U:Uni} {Y:Lay U} {TI:List (Nat×TInfo)} {FZ:List (Nat×Sum U)} {IL:Il} {P:Program} {g:GI} {E:Env U g}
section
variable {s:St U} {a:Act} {w w0:World} {β:List Tr}
def bBa (hti:oO P TI=true)(r:bE Y.C E s a w β){fn:Func}{l:List ResultVar}(hf:fn.results=l.toArray){ks:List Kd}{z:qB U ks}(h:fin Y TI false ks l s=some z):∃v,(results fn a.tmps).run P w= .ok v w/\Rd w E.X0 [] v (lM ((bW Y ks z).map vC)):=by
 unfold fin at h
 cases h1:Tz TI s l with
 |none=>rw[h1] at h;cases h
 |some xs=>
  rw[h1] at h
  obtain⟨vs,k1,k2,k3⟩:=wE hti r h1
  have hrd:=Fq r (Z:=E.X0) (λb hb=> .inl hb) ks (z:=z) h k2 k3 (.inr (aGl r))
  refine⟨_,yX hf k1,?_⟩
  generalize(bW Y ks z).map vC=Us at hrd
  obtain⟨h2,h3⟩:=hrd
  clear k1 k2 k3 h h1
  match Us,vs,h2,h3 with
  |[U],[v],_,h3=>exact h3 0 v U rfl rfl
  |[],[],_,_=>exact .tup rfl (by simp)
  |U::U'::Us,v::v'::vs,h2,h3=>
   rw[dif_neg (by simp)]
   exact .tup (by simpa using h2) (λi v c h5 h6=>h3 i v c (by simpa using h5) h6)
def aO5 {w0:World}{X0:Nat->Prop}(hG:g.G w0)(hX0:∀b,X0 b->b<w0.heap.size){ks:List Kd}{z:qB U ks}{n:Nat}{vs:List Value}(hvs:RdL w0 X0 vs ((bW Y ks z).map vC))(hn:(bW Y ks z).length<=n)(E:Env U g)(hE0:E.X0=X0)(hEY:∀b,¬E.Y0 b)(hEw:E.w0=w0)(hEp:E.pin=[])(hEm:E.prm=[])(hEf:E.fr=[]):
  bE Y.C E (ini Y n ks z) {tmps:=vs.toArray++Array.replicate (n-vs.toArray.size) undef,defers:=[]} w0 []:=by
 have hlen:vs.length=(bW Y ks z).length:=by rw[hvs.1,bl]
 refine⟨⟨by rw[<-hEw];exact Bel.refl _,rfl,by simp[ini],by simp[ini],by simp,by simp,by simp,by simp,by simp[hEp],by simp[hEm],by simp[hEf]⟩,rfl,?_,λm x hx=> ?_⟩
 ·simp only[ini,bH,aw,bl,fe,iS,fL,Array.size_replicate,hlen]
 ·simp only[ini,bH,bl] at hx
  by_cases hlt:m<(bW Y ks z).length
  ·rw[aq (by simpa using hlt),bg] at hx
   cases hc:(bW Y ks z)[m]? with
   |none=>rw[hc] at hx;cases hx
   |some c=>
    rw[hc] at hx
    have:=ak hx;subst this
    have hvl:m<vs.length:=by omega
    have hv:(vs.toArray++Array.replicate (n-vs.toArray.size) undef).getD m undef=vs[m]:=by
     rw[cj,fi (by simpa using hvl)]
     simp[ac hvl]
    rw[hv]
    refine qZ (D6 (Ca ks z c (az hc)) (hvs.2 m _ _ (ac hvl) (by rw[bg,hc];rfl)) (.inl λb hb=> ?_))
    rcases hb with hb|hb|⟨t,ht,_⟩
    ·rw[hE0] at hb;exact hb
    ·exact absurd hb (hEY b)
    ·simp at ht
  ·rw[ay (by rw[bl];omega)] at hx
   have:=az hx
   simp at this
   rw[this.2];trivial
def bEu (G:Good P g Y TI FZ)(hm:P.follows .mixedOrders=true)(hI:qE P IL){f:FuncId}{fn:Func}{cd:Code}{n:Nat}{l:List ResultVar}{ar rs:List Kd}{an:An}{z:qB U ar}{q:qB U rs}(hf:P.funcs[f]? =some fn)(hb:fn.body=some cd)(hn:fn.ntmps=n)(hl:fn.results=l.toArray)
  (hE:∀args w,(callFunc f args).run P w= .ok (.enter f args) w) (hlen:(bW Y ar z).length<=n) (h:evF Y TI FZ IL an cd n ar rs false l z=some q):VK.Spec P g f ((bW Y ar z).map vC) (λv=>v=lM ((bW Y rs q).map vC)):=by
 refine⟨hE,λw X0 vs hG hX0 hvs=>calls_of_wp hf hb ?_⟩
 let E:Env U g:=⟨X0,λ_=>False,w,[],[],λb h=> .inl (hX0 b h),λ_ h=>h.elim,λ_ _ h=>h,λw' hw=>g.st w w' hG (hw.ext λ_ h=>h),[]⟩
 have r0:=aO5 (Y:=Y) hG hX0 hvs hlen E rfl (λ_ h=>h) rfl rfl rfl rfl
 have done:∀s' a' w' β',fin Y TI false rs l s'=some q->bE Y.C E s' a' w' β'->a'.defers=[]/\∃v,(results fn a'.tmps).run P w'= .ok v w'/\(∃v' r,Ending.returned v= .returned v'/\r=lM ((bW Y rs q).map vC)/\Rd w' X0 [] v' r/\Ext w w'):=λs' a' w' β' hq r=>by
  obtain⟨v,k1,k2⟩:=bBa G.ti r hl hq
  exact⟨r.defers,v,k1,v,_,rfl,rfl,k2,r.hp.ext.ext λ_ h=>h⟩
 rw[hn]
 exact aHy (Vm G hm hI) 1000 E rfl rfl an cd _ _ _ _ _ q (λ_=>True) (WC.true cd) (AW.true an) h _ (λs' a' w' β' _ hq r=>done s' a' w' β' hq r) (λi s' a' w' β' _ hq r=>by cases hq) (λs' a' w' β' _ hq r=>done s' a' w' β' hq r) _ _ _ r0
end
end Go.EV

namespace Go.EV
open Go.RowKit Go.VK
variable {U:Uni} {Y:Lay U} {TI:List (Nat×TInfo)} {FZ:List (Nat×Sum U)} {IL:Il} {P:Program} {g:GI} {E:Env U g}
section
variable {s:St U} {a:Act} {w w0:World} {β:List Tr} {C:Cod U}
def bBb {m:Mm U}{x:Lf U}{xs:List (Lf U)}{l:List Nat}(h:aAl m (x::xs)=some l):∃l1 l2,l=l1++l2/\aAl m [x]=some l1/\aAl m xs=some l2:=by
 cases x with
 |own i r=>
  simp only[aAl] at h ⊢
  cases ho:nth m.o i with
  |none=>rw[ho] at h;cases h
  |some e=>
   obtain⟨ob,rv,cv⟩:=e
   cases ob with
   |tree τ d ll=>
    rw[ho] at h
    simp only at h
    cases hb:(Nat.beq rv r&&d) with
    |false=>rw[hb] at h;cases h
    |true=>
     rw[hb] at h
     simp only[ae] at h
     cases hx:aAl m xs with
     |none=>rw[hx] at h;cases h
     |some l2=>
      rw[hx] at h
      have:=ak h;subst this
      exact⟨[i],l2,rfl,by simp[hb],rfl⟩
   |_=>rw[ho] at h;cases h
 |sl=>cases h
 |bor=>cases h
 |inn=>cases h
 |_=>exact⟨[],l,rfl,rfl,h⟩
def aT1 (H:Hp C E s.m β w){kd:Kd}{x y:Lf U}{l:List Nat}{v:Value}(h:aAl s.m [x]=some l)(hr:rdn s.m kd x=some y)(hm:x.mean C w (E.X β) β s.m v)(hK:∀τ,kd= .sl τ->0<U.K τ):Ow C w (λ_=>False) true v y (jM β l):=by
 have hb0:jM β []=[]:=rfl
 have flat:mR x=true->qA s.m x=some y->l=[]->(∀τ ll,y≠ .sl τ ll)->Ow C w (λ_=>False) true v y (jM β l):=λhf hr hl hns=>by
  obtain⟨k1,k2⟩:=Bt H hm hr (Z:=λ_=>False) (λ_ h=>h.elim) (.inl hf)
  subst hl
  rw[hb0]
  cases y with
  |int k n=>obtain⟨rfl,h1,h2⟩:=k2.aAO;exact .int h1 h2
  |bool b=>obtain rfl:=k2.aAW;exact .bool
  |str z=>obtain⟨rfl,h1⟩:=k2.aAT;exact .str h1
  |sl τ ll=>exact absurd rfl (hns τ ll)
  |_=>cases k1
 cases x with
 |own i r=>
  obtain⟨_,e,t,h2,h3,h4⟩:=hm
  obtain⟨ob,rv,cv⟩:=e
  simp only[aAl,aR,h2] at h
  replace hr:qA s.m (.own i r)=some y:=hr
  simp only[qA,aR,h2] at hr
  cases ob with
  |tree τ d ll=>
   simp only at h hr
   cases hb:(Nat.beq rv r&&d) with
   |false=>rw[hb] at h;cases h
   |true=>
    rw[hb] at h
    have:=ak h;subst this
    simp only[aa] at hb
    rw[hb.1] at hr
    have:=ak hr;subst this
    have hd:d=true:=hb.2
    subst hd
    rw[h4 (ah hb.1)]
    have ho:=(Hp.tree H h3 h2 rfl).conv (X':=λ_=>False) (aj _) (λ_ _ h=>h.elim) (λ_ _ _ h=>h) (λ_ _=>rfl)
    have hbl:jM β [i]=t.all:=by simp[jM,h3]
    rw[hbl];exact ho
  |_=>cases h
 |nil=>
  obtain rfl:=hm
  have:=ak h;subst this
  cases kd with
  |sl τ=>
   have:=ak (show some (Lf.sl τ [])=some y from hr);subst this
   exact .sl aAp (hK τ rfl) (World.ownsRow_nil w 0 τ (U.K τ)) .n
  |_=>cases hr
 |int k n=>have e:=ak (show some (Lf.int k n)=some y from hr);exact flat rfl hr (ak h).symm (λ_ _ e'=>by rw[<-e] at e';cases e')
 |bool b=>have e:=ak (show some (Lf.bool b)=some y from hr);exact flat rfl hr (ak h).symm (λ_ _ e'=>by rw[<-e] at e';cases e')
 |str b=>have e:=ak (show some (Lf.str b)=some y from hr);exact flat rfl hr (ak h).symm (λ_ _ e'=>by rw[<-e] at e';cases e')
 |nat c=>
  refine flat rfl hr (ak h).symm (λτ ll e'=> ?_)
  subst e'
  replace hr:qA s.m (.nat c)=some (.sl τ ll):=hr
  simp only[qA] at hr
  split at hr<;>cases hr
 |lt c n=>
  refine flat rfl hr (ak h).symm (λτ ll e'=> ?_)
  subst e'
  replace hr:qA s.m (.lt c n)=some (.sl τ ll):=hr
  simp only[qA] at hr
  split at hr<;>cases hr
 |sl=>cases h
 |bor=>cases h
 |inn=>cases h
 |_=>cases hr
def aH3 (H:Hp C E s.m β w):∀(ks:List Kd) {xs ys:List (Lf U)} {l:List Nat} {vs:List Value},rds s.m ks xs=some ys->aAl s.m xs=some l->Ms C w (E.X β) β s.m vs xs->(∀kd∈ks,∀τ,kd= .sl τ->0<U.K τ)->OwL C w (λ_=>False) true vs ys (jM β l)
 |[],[],ys,l,vs,h,hl,hM,_=>by
  have:=ak h;subst this
  have:=ak hl;subst this
  have:vs=[]:=bu hM.1
  subst this;exact .n
 |[],_::_,_,_,_,h,_,_,_=>by cases h
 |_::_,[],_,_,_,h,_,_,_=>by cases h
 |kd::ks,x::xs,ys,l,vs,h,hl,hM,hK=>by
  obtain⟨y,ys',h1,h2,rfl⟩:=aTo h
  obtain⟨l1,l2,rfl,h3,h4⟩:=bBb hl
  cases vs with
  |nil=>have:=hM.1;simp at this
  |cons v vs=>
   rw[D5]
   exact .c (aT1 H h3 h1 (hM.2 0 v x rfl rfl) (hK kd (by simp))) (aH3 H ks h2 h4 ⟨by have:=hM.1;simpa using this,λi u c p q=>hM.2 (i+1) u c (by simpa using p) (by simpa using q)⟩ (λkd' hk=>hK kd' (by simp[hk])))
def aY9 (hY:LayOk Y)(H:Hp Y.C E s.m β w){kd:Kd}{x:Sv U}{z:kd.ty U}{v:Value}{cs:List (Lf U)}{l:List Nat}(hm:x.mean Y.C w (E.X β) β s.m v)(hp:parts x=some cs)(hl:aAl s.m cs=some l)(h:Kr Y s.m kd x=some z)(hK:∀τ,kd= .sl τ->0<U.K τ):OwP Y.C w v (jM β l) (w9 Y kd z):=by
 have leaf:∀{y:Lf U},x= .l y->(∀T,kd≠ .st T)->(match rdn s.m kd y with|some q=>aEi kd q|none=>none)=some z->OwP Y.C w v (jM β l) (w9 Y kd z):=λ{y} hx hkd h0=>by
  subst hx
  have:=ak hp;subst this
  cases hr:rdn s.m kd y with
  |none=>rw[hr] at h0;cases h0
  |some q=>
   rw[hr] at h0
   have hq:=Qh (show aEi kd q=some z from h0)
   have ho:=aT1 H hl hr hm hK
   rw[hq] at ho
   cases kd with
   |st T=>exact absurd rfl (hkd T)
   |_=>exact⟨_,rfl,ho⟩
 cases kd with
 |st T=>
  cases x with
  |a cs'=>
   have:=ak hp;subst this
   have h':(match rds s.m (Y.kd T) cs' with|some ds=>Y.C.bld T ds|none=>none)=some z:=h
   cases hr:rds s.m (Y.kd T) cs' with
   |none=>rw[hr] at h';cases h'
   |some ds=>
    rw[hr] at h'
    obtain⟨vs,rfl,hM⟩:=hm
    have ho:=aH3 H _ hr hl hM (λkd hk τ e=>hY.pos T τ (e▸hk))
    rw[Y.C.hmk T ds z h'] at ho
    exact⟨vs,rfl,ho⟩
  |l y=>
   have h':(match rdn s.m (Kd.st T) y with|some q=>aEi (Kd.st T) q|none=>none)=some z:=h
   cases hr:rdn s.m (Kd.st T) y with
   |none=>rw[hr] at h';cases h'
   |some q=>rw[hr] at h';cases q<;>cases h'
  |t y=>cases h
 |int k=>cases x with
  |l y=>exact leaf rfl (by simp) h
  |_=>cases h
 |bool=>cases x with
  |l y=>exact leaf rfl (by simp) h
  |_=>cases h
 |str=>cases x with
  |l y=>exact leaf rfl (by simp) h
  |_=>cases h
 |sl τ=>cases x with
  |l y=>exact leaf rfl (by simp) h
  |_=>cases h
def bEv (hY:LayOk Y)(H:Hp Y.C E s.m β w)(ks:List Kd):∀{xs:List (Sv U)} {z:qB U ks} {vs:List Value} {l:List Nat},lC Y s.m ks xs=some z->bAl s.m xs=some l->vs.length=xs.length->(∀(i:Nat) (v:Value) (x:Sv U),vs[i]? =some v->xs[i]? =some x->x.mean Y.C w (E.X β) β s.m v)->(∀kd∈ks,∀τ,kd= .sl τ->0<U.K τ)->OwPs Y.C w vs (bW Y ks z) (jM β l):=by
 induction ks with
 |nil=>
  intro xs z vs l h hl hlen hm hK
  cases xs with
  |nil=>
   have:=ak hl;subst this
   have:vs=[]:=bu hlen
   subst this;exact .n
  |cons=>cases h
 |cons k ks ih=>
  intro xs z vs l h hl hlen hm hK
  cases xs with
  |nil=>cases ks<;>cases h
  |cons x xs=>
   cases vs with
   |nil=>simp at hlen
   |cons v vs=>
    simp only[bAl] at hl
    cases hp:parts x with
    |none=>rw[hp] at hl;cases hl
    |some cs=>
     rw[hp] at hl
     simp only at hl
     cases h1:aAl s.m cs with
     |none=>rw[h1] at hl;cases hl
     |some l1=>
      cases h2:bAl s.m xs with
      |none=>rw[h1,h2] at hl;cases hl
      |some l2=>
       rw[h1,h2] at hl
       have:=ak hl;subst this
       rw[D5]
       cases ks with
       |nil=>
        cases xs with
        |cons x' xs=>cases h
        |nil=>
         have hvs:vs=[]:=bu (by simpa using hlen)
         subst hvs
         have:=ak h2;subst this
         exact .c (aY9 hY H (hm 0 v x rfl rfl) hp h1 (show Kr Y s.m k x=some z from h) (hK k (by simp))) .n
       |cons k' ks'=>
        replace h:(match Kr Y s.m k x with|some a=>(match lC Y s.m (k'::ks') xs with|some b=>some (a,b)|none=>none)|none=>none)=some (show k.ty U×qB U (k'::ks') from z):=h
        cases g1:Kr Y s.m k x with
        |none=>rw[g1] at h;cases h
        |some z1=>
         cases g2:lC Y s.m (k'::ks') xs with
         |none=>rw[g1,g2] at h;cases h
         |some z2=>
          rw[g1,g2] at h
          have:=ak h;subst this
          exact .c (aY9 hY H (hm 0 v x rfl rfl) hp h1 g1 (hK k (by simp))) (ih g2 h2 (by simpa using hlen) (λi u c p q=>hm (i+1) u c (by simpa using p) (by simpa using q)) (λkd hk=>hK kd (by simp[hk])))
def bBc (G:Good P g Y TI FZ)(r:bE Y.C E s a w β)(hEY:∀b,¬E.Y0 b){fn:Func}{l:List ResultVar}(hf:fn.results=l.toArray){ks:List Kd}{z:qB U ks}(h:fin Y TI true ks l s=some z):∃v B,(results fn a.tmps).run P w= .ok v w/\B.Nodup/\(∀b∈B,E.w0.heap.size<=b)/\OwR Y.C w v (bW Y ks z) B:=by
 unfold fin at h
 cases h1:Tz TI s l with
 |none=>rw[h1] at h;cases h
 |some xs=>
  rw[h1] at h
  simp only[ae] at h
  cases h2:bAl s.m xs with
  |none=>rw[h2] at h;cases h
  |some ids=>
   rw[h2] at h
   simp only at h
   cases hb:(dist ids&&aHd (U:=U) ks) with
   |false=>rw[hb] at h;cases h
   |true=>
    rw[hb] at h
    simp only[ae] at h
    simp only[aa] at hb
    obtain⟨vs,k1,k2,k3⟩:=wE G.ti r h1
    have ho:=bEv G.lay r.hp ks h h2 k2 k3 (Vj hb.2)
    refine⟨_,jM β ids,yX hf k1,aQ1 r.hp (wB.1 hb.1),λb hbb=> ?_,?_⟩
    ·obtain⟨j,_,u,hu,hub⟩:=vB hbb
     exact(r.hp.new j u b hu hub).1.resolve_right (hEY b)
    ·generalize bW Y ks z=cps at ho ⊢
     generalize jM β ids=B0 at ho ⊢
     clear h k1 k3 h2 h1 k2
     cases ho with
     |n=>exact⟨[],rfl, .n⟩
     | @c v x B B' vs xs' hv hr=>
      cases hr with
      |n=>rw[cW];exact hv
      | @c v2 x2 B2 B3 vs2 xs2 hv2 hr2=>
       rw[dif_neg (by simp)]
       exact⟨_,rfl, .c hv (.c hv2 hr2)⟩
end
def bBd (G:Good P g Y TI FZ)(hm:P.follows .mixedOrders=true)(hI:qE P IL){f:FuncId}{fn:Func}{cd:Code}{n:Nat}{l:List ResultVar}{ar rs:List Kd}{an:An}{z:qB U ar}{q:qB U rs}(hf:P.funcs[f]? =some fn)(hb:fn.body=some cd)(hn:fn.ntmps=n)(hl:fn.results=l.toArray)
  (hE:∀args w,(callFunc f args).run P w= .ok (.enter f args) w) (hlen:(bW Y ar z).length<=n) (h:evF Y TI FZ IL an cd n ar rs true l z=some q):bJn P g Y.C f ((bW Y ar z).map vC) (bW Y rs q):=by
 refine⟨hE,λw X0 vs hG hX0 hvs=>calls_of_wp hf hb ?_⟩
 let E:Env U g:=⟨X0,λ_=>False,w,[],[],λb h=> .inl (hX0 b h),λ_ h=>h.elim,λ_ _ h=>h,λw' hw=>g.st w w' hG (hw.ext λ_ h=>h),[]⟩
 have r0:=aO5 (Y:=Y) hG hX0 hvs hlen E rfl (λ_ h=>h) rfl rfl rfl rfl
 have done:∀s' a' w' β',fin Y TI true rs l s'=some q->bE Y.C E s' a' w' β'->a'.defers=[]/\∃v,(results fn a'.tmps).run P w'= .ok v w'/\(∃v' B,Ending.returned v= .returned v'/\Ext w w'/\B.Nodup/\(∀b∈B,w.heap.size<=b)/\OwR Y.C w' v' (bW Y rs q) B):=λs' a' w' β' hq r=>by
  obtain⟨v,B,k1,k2,k3,k4⟩:=bBc G r (λ_ h=>h) hl hq
  exact⟨r.defers,v,k1,v,B,rfl,r.hp.ext.ext λ_ h=>h,k2,k3,k4⟩
 rw[hn]
 exact aHy (Vm G hm hI) 1000 E rfl rfl an cd _ _ _ _ _ q (λ_=>True) (WC.true cd) (AW.true an) h _ (λs' a' w' β' _ hq r=>done s' a' w' β' hq r) (λi s' a' w' β' _ hq r=>by cases hq) (λs' a' w' β' _ hq r=>done s' a' w' β' hq r) _ _ _ r0
def Qj:∀(ks:List Kd) (z:qB U ks),(bW Y ks z).length=ks.length
 |[],_=>rfl
 |[k],_=>rfl
 |k::k'::ks,z=>by
  show(bW Y (k'::ks) z.2).length+1=_
  rw[Qj (k'::ks)];rfl
def aO6 {f:FuncId}{S:Sum U}(h:yT P g Y f S)(G:Good P g Y TI FZ):Good P g Y TI ((f,S)::FZ):=⟨G.ti,G.lay,λf' S' hm=>by
 rcases ba.1 hm with e|e
 ·injection e with e1 e2;subst e1;subst e2;exact h
 ·exact G.fs f' S' e⟩
def bLr (G:Good P g Y TI FZ)(hm:P.follows .mixedOrders=true)(hI:qE P IL){f:FuncId}{fn:Func}{cd:Code}{n:Nat}{l:List ResultVar}{S:Sum U}{an:qB U S.ar->An}(hf:P.funcs[f]? =some fn)(hb:fn.body=some cd)(hn:fn.ntmps=n)(hl:fn.results=l.toArray)
  (hE:∀args w,(callFunc f args).run P w= .ok (.enter f args) w) (hlen:S.ar.length<=n) (hwt:S.wt=false) (h:∀a r,S.m a=some r->evF Y TI FZ IL (an a) cd n S.ar S.rs S.fr l a=some r):yT P g Y f S:=λa r hr=>by
 have h':=h a r hr
 refine⟨λ_ hfr=> ?_,λ_ hfr=> ?_,λhh=>(by rw[hwt] at hh;cases hh),λhh=>(by rw[hwt] at hh;cases hh)⟩
 ·rw[hfr] at h'
  exact bEu G hm hI hf hb hn hl hE (by rw[Qj];exact hlen) h'
 ·rw[hfr] at h'
  exact bBd G hm hI hf hb hn hl hE (by rw[Qj];exact hlen) h'
end Go.EV

namespace Go.EV
open Go.RowKit Go.VK
variable {U:Uni} {Y:Lay U} {TI:List (Nat×TInfo)} {FZ:List (Nat×Sum U)} {IL:Il} {P:Program} {g:GI} {E:Env U g}
section
variable {s:St U} {a:Act} {w w0:World} {β:List Tr} {C:Cod U}
def OwP.lt {v:Value}{B:List Nat}{x:Bool×List (Lf U)}(h:OwP C w v B x):∀b∈B,b<w.heap.size:=by
 obtain⟨b,cs⟩:=x
 cases b with
 |true=>obtain⟨vs,_,h⟩:=h;exact h.lt
 |false=>obtain⟨c,_,h⟩:=h;exact h.lt
end
end Go.EV
namespace Go.VK
def aF {α:Type}{c:Prop}[Decidable c]{x y:Option α}{r:α}(h:c->y=x)(hr:gd c x=some r):y=some r:=by
 unfold gd at hr
 split at hr
 ·rename_i hc;rw[h hc];exact hr
 ·cases hr
end Go.VK

namespace Go.VK
open EV (bU)
section
variable {α β σ τ:Type}
def bEw {S:Type}{F:(S->Option τ)->S->Option τ}(V:Nat->S->Prop)(N:Nat)(R:Option τ)
  (step:∀i s rec,i<N->V i s->(∃s',V (i+1) s'/\F rec s=rec s')\/F rec s=R) (last:∀s rec,V N s->F rec s=R):∀(k i n:Nat) (s:S),i+k=N->k<n->V i s->bU n F s=R
 |0,i,n+1,s,hk,hn,h=>by
  have:i=N:=by omega
  subst this
  exact last s _ h
 |k+1,i,n+1,s,hk,hn,h=>by
  rcases step i s (bU n F) (by omega) h with⟨s',h1,h2⟩|h2
  ·exact h2.trans (bEw V N R step last k (i+1) n s' (by omega) (by omega) h1)
  ·exact h2
def aMg {S:Type}{F:(S->Option τ)->S->Option τ}(V:Nat->S->Prop)(N:Nat)(R:Option τ){s:S}(hN:N<=18446744073709551616)(h0:V 0 s)
  (step:∀i s rec,i<N->V i s->(∃s',V (i+1) s'/\F rec s=rec s')\/F rec s=R) (last:∀s rec,V N s->F rec s=R):bU FUEL F s=R:=
 bEw V N R step last N 0 FUEL s (by omega) (by have:=fO;omega) h0
def bEx {S:Type}{F:(S->Option τ)->S->Option τ}(V:Nat->S->Prop)(N:Nat)(Q:τ->Prop)
  (step:∀i s rec,i<N->V i s->(∃s',V (i+1) s'/\F rec s=rec s')\/∃r,F rec s=some r/\Q r) (last:∀s rec,V N s->∃r,F rec s=some r/\Q r):∀(k i n:Nat) (s:S),i+k=N->k<n->V i s->∃r,bU n F s=some r/\Q r
 |0,i,n+1,s,hk,hn,h=>by
  have:i=N:=by omega
  subst this
  exact last s _ h
 |k+1,i,n+1,s,hk,hn,h=>by
  rcases step i s (bU n F) (by omega) h with⟨s',h1,h2⟩|h2
  ·obtain⟨r,h3⟩:=bEx V N Q step last k (i+1) n s' (by omega) (by omega) h1
   exact⟨r,h2.trans h3.1,h3.2⟩
  ·exact h2
def dL {i n:Nat}(h:i<n):decide ((i:Int)<(n:Int))=true:=by simpa using h
def dP {n:Nat}:decide ((n:Int)<(n:Int))=false:=by simp
def set_mid {l r:List β}{i:Nat}{d x:β}(h:l.length=i):(l++d::r).set i x=(l++[x])++r:=by
 subst h
 rw[fc _ _ (aj _)]
 simp
def rC {a:List α}{F:(Nat->Option (Bool⊕PUnit))->Nat->Option (Bool⊕PUnit)}(hl:a.length<=18446744073709551616)
  (hF:∀rec i (hi:i<a.length),F rec i=rec (i+1)) (hE:∀rec,F rec a.length=some (.inr ())):bU FUEL F 0=some (.inr ()):=by
 refine aMg (λi s=>s=i) a.length _ hl rfl (λi s rec hi hv=> ?_) (λs rec hv=> ?_)
 ·subst hv;exact .inl ⟨_,rfl,hF rec s hi⟩
 ·subst hv;exact hE rec
def szP (left:Int):Prop:=0<=left/\left<=1048576
instance (left:Int):Decidable (szP left):=inferInstanceAs (Decidable (_/\_))
def aRe {i:Nat}:((i:Nat):Int).toNat=i:=cm i
def MkP (s c:Nat)(k:Int):Prop:=s<=1152921504606846976/\0<=k/\k+c<=4611686018427387904
instance (s c:Nat) (k:Int):Decidable (MkP s c k):=inferInstanceAs (Decidable (_/\_))
end
end Go.VK
namespace Go.VK
open EV (bU)
section
variable {α β σ τ:Type}
def nI (n:Nat)(a b:α):Prop:=a=b/\n<=1152921504606846976
noncomputable instance (n:Nat) (a b:α):Decidable (nI n a b):=Classical.propDecidable _
def okL (p:α->Prop)(l:List α):Prop:=l.length<=9223372036854775807/\∀y∈l,p y
def okS (s:ByteArray):Prop:=s.size<=9223372036854775807
def jA {f:α->Nat}{l:List α}{i:Nat}(hi:i<l.length):f l[i]<=(l.map f).sum:=by
 have:f l[i]∈l.map f:=cg.2 ⟨_,cN hi,rfl⟩
 induction l generalizing i with
 |nil=>simp at hi
 |cons x l ih=>
  cases i with
  |zero=>simp
  |succ i=>
   have h':i<l.length:=by simpa using hi
   have:=ih h' (cg.2 ⟨_,cN h',rfl⟩)
   simp only[bm,df,eI];omega
end
end Go.VK
namespace Go.VK
end Go.VK
namespace Go.VK
open EV (bU)
section
variable {α β σ τ:Type}
def mJ {l:List α}(p:α->Bool)(a b:τ){F:(Nat->Option τ)->Nat->Option τ}(hl:l.length<=18446744073709551616)
  (hF:∀rec i (hi:i<l.length),F rec i=bif p l[i] then some a else rec (i+1)) (hE:∀rec,F rec l.length=some b):bU FUEL F 0=some (bif l.any p then a else b):=by
 have key:∀i (hi:i<l.length),p l[i]=true->l.any p=true:=λi hi h=>gx.2 ⟨_,cN hi,h⟩
 refine aMg (λi s=>i<=l.length/\s=i/\(l.take i).any p=false) l.length _ hl ⟨cw _,rfl,rfl⟩ (λi s rec hi hv=> ?_) (λs rec hv=> ?_)
 ·obtain⟨_,rfl,h3⟩:=hv
  rw[hF rec s hi]
  cases hp:p l[s] with
  |true=>exact .inr (by rw[key s hi hp];rfl)
  |false=>exact .inl ⟨_,⟨hi,rfl,by rw[fg,ac hi,jk,h3];simp[hp]⟩,rfl⟩
 ·obtain⟨_,rfl,h3⟩:=hv
  rw[eS] at h3
  rw[hE,h3];rfl
def iH {l:List α}(p:Nat->α->Bool)(a b:τ){F:(Nat->Option τ)->Nat->Option τ}(hl:l.length<=18446744073709551616)
  (hF:∀rec i (hi:i<l.length),F rec i=bif p i l[i] then some a else rec (i+1)) (hE:∀rec,F rec l.length=some b):bU FUEL F 0=some (bif gL p 0 l then a else b):=by
 have key:∀(l:List α) (j:Nat),gL p j l=true↔∃(i:Nat) (hi:i<l.length),p (j+i) l[i]=true:=by
  intro l
  induction l with
  |nil=>intro j;simp[gL]
  |cons x xs ih=>
   intro j
   simp only[gL,cq,ih]
   constructor
   ·rintro(h|⟨i,hi,h⟩)
    ·exact⟨0,by simp,h⟩
    ·exact⟨i+1,by simpa using hi,by rw[show j+(i+1)=j+1+i by omega];exact h⟩
   ·rintro⟨i,hi,h⟩
    cases i with
    |zero=>exact .inl h
    |succ i=>exact .inr ⟨i,by simpa using hi,by rw[show j+1+i=j+(i+1) by omega];exact h⟩
 refine aMg (λi s=>i<=l.length/\s=i/\∀(j:Nat) (hj:j<l.length),j<i->p j l[j]=false) l.length _ hl ⟨cw _,rfl,λj _ h=>by omega⟩ (λi s rec hi hv=> ?_) (λs rec hv=> ?_)
 ·obtain⟨_,rfl,h3⟩:=hv
  rw[hF rec s hi]
  cases hp:p s l[s] with
  |true=>exact .inr (by rw[(key l 0).2 ⟨s,hi,by rw[ca];exact hp⟩];rfl)
  |false=>
   refine .inl ⟨_,⟨hi,rfl,λj hj h=> ?_⟩,rfl⟩
   rcases fx j s with h'|h'
   ·exact h3 j hj h'
   ·have:j=s:=by omega
    subst this;exact hp
 ·obtain⟨_,rfl,h3⟩:=hv
  have:gL p 0 l=false:=by
   cases h:gL p 0 l with
   |false=>rfl
   |true=>
    obtain⟨i,hi,hp⟩:=(key l 0).1 h
    rw[ca,h3 i hi hi] at hp;cases hp
  rw[hE,this];rfl
def F7 {l:List α}(p:α->Bool){F:(Nat->Option (Int⊕PUnit))->Nat->Option (Int⊕PUnit)}(hl:l.length<=18446744073709551616)
  (hF:∀rec i (hi:i<l.length),F rec i=bif p l[i] then some (.inl (i:Int)) else rec (i+1)) (hE:∀rec,F rec l.length=some (.inr ())):nx (bU FUEL F 0) (λ_=>some (-1:Int))=some (iG p 0 l):=by
 have go:∀(k i n:Nat),i+k=l.length->k<n->nx (bU n F i) (λ_=>some (-1:Int))=some (iG p i (l.drop i)):=by
  intro k
  induction k with
  |zero=>
   intro i n hk hn
   obtain⟨n,rfl⟩:∃m,n=m+1:=⟨n-1,by omega⟩
   have:i=l.length:=by omega
   subst this
   rw[show bU (n+1) F l.length=F (bU n F) l.length from rfl,hE,dz];rfl
  |succ k ih=>
   intro i n hk hn
   obtain⟨n,rfl⟩:∃m,n=m+1:=⟨n-1,by omega⟩
   have hi:i<l.length:=by omega
   rw[show bU (n+1) F i=F (bU n F) i from rfl,hF _ i hi,co hi,iG]
   cases p l[i] with
   |true=>rfl
   |false=>exact ih (i+1) n (by omega) (by omega)
 exact go l.length 0 FUEL (by omega) (by have:=fO;omega)
def fV {l:List α}(g:σ->α->σ)(Inv:Nat->σ->Prop)(fin:σ->Option τ){s0:σ}{F:(σ×Nat->Option τ)->σ×Nat->Option τ}(hl:l.length<=18446744073709551616)(h0:Inv 0 s0)
  (hI:∀i s (hi:i<l.length),Inv i s->Inv (i+1) (g s l[i])) (hF:∀rec i s (hi:i<l.length),Inv i s->F rec (s,i)=rec (g s l[i],i+1)) (hE:∀rec s,Inv l.length s->F rec (s,l.length)=fin s):bU FUEL F (s0,0)=fin (l.foldl g s0):=by
 refine aMg (λi s=>i<=l.length/\s=((l.take i).foldl g s0,i)/\Inv i s.1) l.length _ hl ⟨cw _,rfl,h0⟩ (λi s rec hi hv=> ?_) (λs rec hv=> ?_)
 ·obtain⟨_,rfl,h3⟩:=hv
  have e:(l.take (i+1)).foldl g s0=g ((l.take i).foldl g s0) l[i]:=by rw[fg,ac hi,gq];rfl
  refine .inl ⟨_,⟨hi,rfl,by rw[e];exact hI i _ hi h3⟩,?_⟩
  rw[hF rec i _ hi h3,e]
 ·obtain⟨_,rfl,h3⟩:=hv
  rw[hE rec _ h3,eS]
def aO8 {l:List α}(g:σ->α->σ)(Inv:Nat->σ->Prop)(fin:σ->Option τ){s0:σ}{F:(Nat×σ->Option τ)->Nat×σ->Option τ}(hl:l.length<=18446744073709551616)(h0:Inv 0 s0)
  (hI:∀i s (hi:i<l.length),Inv i s->Inv (i+1) (g s l[i])) (hF:∀rec i s (hi:i<l.length),Inv i s->F rec (i,s)=rec (i+1,g s l[i])) (hE:∀rec s,Inv l.length s->F rec (l.length,s)=fin s):bU FUEL F (0,s0)=fin (l.foldl g s0):=by
 refine aMg (λi s=>i<=l.length/\s=(i,(l.take i).foldl g s0)/\Inv i s.2) l.length _ hl ⟨cw _,rfl,h0⟩ (λi s rec hi hv=> ?_) (λs rec hv=> ?_)
 ·obtain⟨_,rfl,h3⟩:=hv
  have e:(l.take (i+1)).foldl g s0=g ((l.take i).foldl g s0) l[i]:=by rw[fg,ac hi,gq];rfl
  refine .inl ⟨_,⟨hi,rfl,by rw[e];exact hI i _ hi h3⟩,?_⟩
  rw[hF rec i _ hi h3,e]
 ·obtain⟨_,rfl,h3⟩:=hv
  rw[hE rec _ h3,eS]
def aAx {f:α->List β}:∀{l:List α} {s:List β},l.foldl (λs x=>s++f x) s=s++(l.map f).flatten
 |[],s=>by simp
 |x::l,s=>by simp only[dc,aAx (l:=l),bm,cR,ce]
def aAy {f:α->β}:∀{l:List α} {s:List β},l.foldl (λs x=>s++[f x]) s=s++l.map f
 |[],s=>by simp
 |x::l,s=>by simp only[dc,aAy (l:=l),bm,ce,fb]
end
end Go.VK

namespace Go.VK
def RdA (w:World)(X:Nat->Prop):List V->Prop
 |[]=>True
 |c::cs=>(∃v,Rd w X [] v c)/\RdA w X cs
section
variable {w:World} {X:Nat->Prop}
def RdA.of:∀{cs:List V},(∀(i:Nat) (c:V),cs[i]? =some c->∃v,Rd w X [] v c)->RdA w X cs
 |[],_=>trivial
 |c::cs,h=>⟨h 0 c rfl,RdA.of λi d hd=>h (i+1) d (by simpa using hd)⟩
def RdA.ofL {vs:List Value}{Us:List V}(h:RdL w X vs Us):RdA w X Us:=RdA.of λi c hc=>by
 have hi:i<vs.length:=by
  rw[h.1]
  exact(aE.1 hc).1
 exact⟨vs[i],h.2 i vs[i] c (ac hi) hc⟩
def bLs {n:Int}(h:∃v,Rd w X [] v (.int .u8 n)):0<=n/\n<=255:=by
 obtain⟨v,h⟩:=h
 cases h with|int h1 h2=>exact⟨h1,h2⟩
def bLt {α:Type}{k:Nat}{enc:α->List V}{l:List α}{p:α->Prop}(h:∃v,Rd w X [] v (.slice k (l.map enc)))(hp:∀y,RdA w X (enc y)->p y):okL p l:=by
 obtain⟨v,h⟩:=h
 refine⟨?_,λy hy=>hp y ?_⟩
 ·obtain⟨A,c,rfl,h1,h2⟩:=h.aBD
  rw[bl] at h1
  exact bq h1 h2
 ·obtain⟨i,hi,rfl⟩:=dt.1 hy
  generalize he:l.map enc=es at h
  cases h with
  |slice0 h=>simp at he;subst he;simp at hi
  |slice hn hpos hc hm hX hb hk hcell hrd=>
   exact RdA.of λj d hd=>⟨_,hrd i j (enc l[i]) d (by rw[<-he,bg,ac hi];rfl) hd⟩
end
def bHy {P:Program}{g:GI}{f:FuncId}{Us:List V}{R:V->Prop}{p:Prop}(he:∀args w,(callFunc f args).run P w= .ok (.enter f args) w)(h:p->Spec P g f Us R)(hp:∀w X,RdA w X Us->p):Spec P g f Us R:=
 ⟨he,λw X vs hg hX hR=>(h (hp w X (RdA.ofL hR))).2 w X vs hg hX hR⟩
end Go.VK

namespace Go.VK
def bNm (n:Nat):GI where
 G w:=∃m,w.cell? ⟨n,0,none⟩=some (.int .i64 m)
 st _ _ h he:=by
  obtain⟨m,hm⟩:=h
  exact⟨m,he.cell hm⟩
def aDz (sep:ByteArray):∀(k:Nat) (s l:ByteArray),l∈Lib.splitB sep 0 k s->l.size<=s.size
 |0,s,l,h=>by
  rw[Lib.splitB_zero] at h
  rw[cy.1 h];exact aj _
 |k+1,s,l,h=>by
  unfold Lib.splitB at h
  split at h
  ·rw[cy.1 h];exact aj _
  ·rcases ba.1 h with rfl|h
   ·exact ext_size _ _ _
   ·exact bq (aDz sep k _ l h) (ext_size _ _ _)
def aZa:∀(l:List UInt8) (c:UInt8),Lib.indexByte l c<=l.length
 |[],_=>by show(-1:Int)<=_;simp
 |b::l,c=>by
  have:=aZa l c
  simp only[Lib.indexByte,av]
  split
  ·omega
  ·split
   ·omega
   ·push_cast;omega
def bLu {P:Program}{g:GI}{F:FuncId}(hE:∀args w,(callFunc F args).run P w= .ok (.enter F args) w)(hS:∀(s:ByteArray) (c:UInt8) (w:World),Calls P F #[.string s, .string ⟨#[c]⟩] w λe w'=>e= .returned (.int .i64 (Lib.indexByte s.data.toList c))/\w'=w)
  (s sep:ByteArray) (h:sep.size=1):Spec P g F [.str s, .str sep] (λr=>r= .int .i64 (Lib.indexByte s.data.toList (sep.data.toList.getD 0 0))):=by
 refine⟨hE,λw X0 vs hG hX0 hvs=> ?_⟩
 obtain⟨v,u,rfl⟩:∃v u,vs=[v,u]:=by
  match vs,hvs.1 with
  |[v,u],_=>exact⟨v,u,rfl⟩
 obtain⟨rfl,hv2⟩:=(hvs.2 0 v _ rfl rfl).aAT
 obtain⟨rfl,hu2⟩:=(hvs.2 1 u _ rfl rfl).aAT
 have hsep:(⟨#[sep.data.toList.getD 0 0]⟩:ByteArray)=sep:=by
  obtain⟨⟨l⟩⟩:=sep
  match l,h with
  |[c],_=>rfl
 have hc:=hS s (sep.data.toList.getD 0 0) w
 rw[hsep] at hc
 refine hc.mono ?_
 rintro e w' ⟨rfl,rfl⟩
 have h1:=Lib.indexByte_ge s.data.toList (sep.data.toList.getD 0 0)
 have h2:=aZa s.data.toList (sep.data.toList.getD 0 0)
 have h3:s.data.toList.length=s.size:=cx
 have hv3:s.size<=9223372036854775807:=bq hv2 (by decide)
 exact⟨_,_,rfl,rfl, .int (by rw[show IntKind.i64.min= -9223372036854775808 by decide];omega) (by rw[show IntKind.i64.max=9223372036854775807 by decide];omega),Ext.refl _⟩
def aWu {P:Program}{F:FuncId}{T n:Nat}(hE:∀args w,(callFunc F args).run P w= .ok (.enter F args) w)
  (hS:∀(s sep:ByteArray) (m:Int) (w:World),s.size<4294967281->w.cell? ⟨n,0,none⟩=some (.int .i64 m)->1<=sep.size->Calls P F #[.string s, .string sep] w λe w'=>
   e= .returned (.slice (some ⟨w.heap.size,0,none⟩) (Lib.countB s sep+1) (Lib.countB s sep+1))/\w'=w.alloc (.cells ((Lib.splitB sep 0 (Lib.countB s sep) s).map Value.string).toArray T))
  (s sep:ByteArray) (h1:s.size<4294967281) (h2:1<=sep.size):Spec P (bNm n) F [.str s, .str sep] (λr=>r= .slice 1 ((jT s sep).map sV)):=by
 refine⟨hE,λw X0 vs hG hX0 hvs=> ?_⟩
 obtain⟨v,u,rfl⟩:∃v u,vs=[v,u]:=by
  match vs,hvs.1 with
  |[v,u],_=>exact⟨v,u,rfl⟩
 obtain⟨rfl,hv2⟩:=(hvs.2 0 v _ rfl rfl).aAT
 obtain⟨rfl,hu2⟩:=(hvs.2 1 u _ rfl rfl).aAT
 obtain⟨m,hm⟩:=hG
 refine(hS s sep m w h1 hm h2).mono ?_
 rintro e w' ⟨rfl,rfl⟩
 have hl:(jT s sep).length=Lib.countB s sep+1:=Lib.splitB_all sep h2 0 _ s rfl
 have hn:Lib.countB s sep+1=((jT s sep).map sV).length:=by rw[bl];exact hl.symm
 have hcnt:Lib.countB s sep<=s.size+1:=Lib.count_le s.data.toList sep.data.toList
 have hsz:∀l∈jT s sep,l.size<=s.size:=λl h=>aDz sep _ s l h
 refine⟨_,_,rfl,rfl,?_,Ext.alloc w _⟩
 have hget:∀(i j:Nat) (e:List V) (d:V),((jT s sep).map sV)[i]? =some e->e[j]? =some d->∃l,(jT s sep)[i]? =some l/\j=0/\d= .str l:=by
  intro i j e d h3 h4
  rw[bg] at h3
  obtain⟨l,hl,rfl⟩:=eE.1 h3
  cases j with
  |zero=>exact⟨l,hl,rfl,by simpa[sV] using h4.symm⟩
  |succ j=>simp[sV] at h4
 refine .slice (val:=λi j=> .string ((jT s sep).getD i ⟨#[]⟩)) hn (by rw[<-hn];omega) (aj _) (by unfold maxLen;omega) (λhxx=>by have:=hX0 _ hxx;simp at this) (by simp)
  (λe he=>by obtain⟨l,_,rfl⟩:=cg.1 he;rfl) (λi j e d h3 h4=> ?_) (λi j e d h3 h4=> ?_)
 ·obtain⟨l,h5,rfl,rfl⟩:=hget i j e d h3 h4
  rw[fC,ca,Nat.mul_one,ee]
  have h6:(Lib.splitB sep 0 (Lib.countB s sep) s)[i]? =some l:=h5
  rw[World.cell?_alloc_new]
  simp[List.getD,h5,h6]
 ·obtain⟨l,h5,rfl,rfl⟩:=hget i j e d h3 h4
  have:=hsz l (az h5)
  have e6:(jT s sep).getD i ⟨#[]⟩=l:=by simp[List.getD,h5]
  rw[e6]
  exact .str (by unfold maxLen;omega)
end Go.VK
namespace Go
variable {H:Type} {enc:TypeId×Value->H}
def VK.aCA {a:Assume}{C:Checked}{os:Os}{f:FuncId}{fn:Func}{s:ChangeSpec}{conds:List PathCond}{apart fresh handsOn again:Bool}{X:World->Array Value->Prop}
  (hX:∀(w w':World) (args:Array Value),w.heap=w'.heap->X w args->X w' args)
  (own:ownKnob C.prog.godebug=none) (started:os.Started) (noInit:C.prog.inits.idxOf? f=none) (hfn:C.prog.funcs[f]? =some fn)
  (witness:∃(w:World) (tape:Tape) (i:Input),w.os=os/\(w.forCall tape i).Shaped C.prog/\i.vars=[]/\Input.okWide C.prog (w.forCall tape i) .any w.heap.size f i/\
   ((s.pre enc C.prog fn conds apart (w.forCall tape i).memory i.args/\X (w.forCall tape i).memory i.args)/\sizedMet enc C.prog fn (OpenSpec.ofChange s) apart (w.forCall tape i).memory i.args)/\a.holds C.prog (lone (Frame.enter C.prog f i.args .normal) [] (w.forCall tape i)))
  (contract:∀(W:World) (base:Nat) (args:Array Value) (ds gs:List (DataW H)) (before:List MemPlace),
   (∀(j:Nat) t v,fn.params[j]? =some t->args[j]? =some v->Value.okWide C.prog W .any base t v)->
   DataW.Whole enc C.prog fn.params.toList s.vars apart W args.toList ds gs before->
   X W args->W.ShapedOpen C.prog->
   Calls C.prog f args W λe W'=>∃v,e= .returned v/\s.post enc C.prog fn apart fresh handsOn again W args v W'):
  ReturnsInHanded a C os f .any (λw args=>(s.pre enc C.prog fn conds apart w args/\X w args)/\sizedMet enc C.prog fn (OpenSpec.ofChange s) apart w args) (s.post enc C.prog fn apart fresh handsOn again):=by
 refine returnsInHanded_of_calls own started noInit witness ?_
 intro w tape i _ hsh _ hok hpre hholds
 obtain⟨_,_,_,fn',hfn',_,_,_,_,hval⟩:=hok
 have e:fn'=fn:=ak (hfn'.symm.trans hfn)
 subst e
 obtain⟨⟨⟨ds,gs,before,hw,hc⟩,hx⟩,hz⟩:=hpre
 have hw':=DataW.Whole.of_heap (w':=w.forCall tape i) (by rfl) hw
 refine(contract (w.forCall tape i) w.heap.size i.args ds gs before hval hw' (hX _ _ _ (by rfl) hx) hsh).mono λe W' ⟨v,he,hp⟩=> ?_
 subst he
 exact ChangeSpec.post_blind hp
end Go


namespace Go.EV
open Go.RowKit Go.VK
variable {U:Uni} {Y:Lay U} {TI:List (Nat×TInfo)} {FZ:List (Nat×Sum U)} {IL:Il} {P:Program} {g:GI} {E:Env U g}
section
variable {s:St U} {a:Act} {w w0:World} {β:List Tr} {C:Cod U}
def aO9 {x:Lf U}(h:bDm x=true):∀i,bK8 x=some i->1<=i:=λi hi=>by
 cases x<;>simp only[bK8,reduceCtorEq,ai] at hi<;>(subst hi;exact bc h)
def Vn:∀{xs:List (Lf U)},aN6 xs=true->∀x∈xs,bDm x=true
 |[],_,x,hx=>by simp at hx
 |y::ys,h,x,hx=>by
  simp only[aN6,aa] at h
  rcases ba.1 hx with rfl|hx
  ·exact h.1
  ·exact Vn h.2 x hx
def aH4:∀{xs:List (Sv U)},aS4 xs=true->∀x∈xs,∀c∈aEp x,bDm c=true
 |[],_,x,hx=>by simp at hx
 |y::ys,h,x,hx=>by
  simp only[aS4,aa] at h
  rcases ba.1 hx with rfl|hx
  ·cases x with
   |l z=>intro c hc;simp only[aEp,cy] at hc;subst hc;exact h.1
   |a cs=>exact Vn h.1
   |t xs=>intro c hc;simp[aEp] at hc
  ·exact aH4 h.2 x hx
def bHz {X:Nat->Prop}{vs:List Value}{Us:List V}(h:RdL w X vs Us):Rd w X [] (if h:vs.length=1 then vs[0] else .tuple vs.toArray) (lM Us):=by
 obtain⟨h2,h3⟩:=h
 match Us,vs,h2,h3 with
 |[U],[v],_,h3=>exact h3 0 v U rfl rfl
 |[],[],_,_=>exact .tup rfl (by simp)
 |U::U'::Us,v::v'::vs,h2,h3=>
  rw[dif_neg (by simp)]
  exact .tup (by simpa using h2) (λi v c h5 h6=>h3 i v c (by simpa using h5) h6)
def bBe (G:Good P g Y TI FZ)(hm:P.follows .mixedOrders=true)(hI:qE P IL){f:FuncId}{fn:Func}{cd:Code}{n T:Nat}{l:List ResultVar}{ks rs:List Kd}{an:An}{z:qB U (.st T::ks)}{q:qB U (.st T::rs)}{cs ds:List (Lf U)}{us rs':List (Bool×List (Lf U))}(hf:P.funcs[f]? =some fn)(hb:fn.body=some cd)(hn:fn.ntmps=n)(hl:fn.results=l.toArray)
  (hE:∀args w,(callFunc f args).run P w= .ok (.enter f args) w) (hz:bW Y (.st T::ks) z=(true,cs)::us) (hq:bW Y (.st T::rs) q=(true,ds)::rs') (hlen:us.length+1<=n) (h:evP Y TI FZ IL an cd n T ks rs l z=some q):bJo P g f T (cs.map Lf.toV) (ds.map Lf.toV) (us.map vC) (lM (rs'.map vC)):=by
 refine⟨hE,λw X b ws vs hG hX hXb hw hws hvs=>calls_of_wp hf hb ?_⟩
 have hbl:b<w.heap.size:=(bv.1 hw).1
 let E:Env U g:=⟨λx=>X x/\x≠b,(·=b),w,[],[],λx h=> .inl (hX x h.1),λx h=>by rw[h];exact hbl,λx h e=>h.2 e,hG,[(.l (.box 0 0), .pointer (some ⟨b,0,none⟩))]⟩
 let t0:Tr:=⟨some b,0,0,[]⟩
 have hall:t0.all=[b]:=rfl
 have hXE:∀x,E.X [t0] x->X x:=λx hx=>by
  rcases hx with h|h|⟨t,ht,h⟩
  ·exact h.1
  ·have:x=b:=h
   rw[this];exact hXb
  ·simp at ht;subst ht;rw[hall] at h;simp at h;rw[h];exact hXb
 have hCs:=Ca (Y:=Y) (.st T::ks) z
 rw[hz] at hCs
 let m0:Mm U:=⟨[⟨.box T cs (cs.map λ_=>0),0,0⟩],0,[]⟩
 have h0:∀{i:Nat} {t:Tr},[t0][i]? =some t->i=0/\t=t0:=λ{i t} h=>by
  cases i with
  |zero=>simp at h;exact⟨rfl,h.symm⟩
  |succ i=>simp at h
 have Hh:Hp Y.C E m0 [t0] w:=by
  refine⟨Bel.refl _,rfl,λi e he=> ?_,λa i h=>by simp[m0] at h,λi t x ht hx=> ?_,λi j t u x hij ht hu hx hxu=> ?_,λi t ht=> ?_,λi t e ht he=> ?_,λx hx=> ?_,λx hx=>by simp[E] at hx,λf hf=>by simp[E] at hf⟩
  ·cases i with
   |zero=>simp[m0] at he;subst he;exact⟨aj _,aj _⟩
   |succ i=>simp[m0] at he
  ·obtain⟨_,rfl⟩:=h0 ht
   rw[hall] at hx;simp at hx;subst hx
   exact⟨.inr rfl,hbl⟩
  ·exact absurd ((h0 ht).1.trans (h0 hu).1.symm) hij
  ·obtain⟨_,rfl⟩:=h0 ht
   rw[hall];simp
  ·obtain⟨rfl,rfl⟩:=h0 ht
   simp[m0] at he;subst he
   refine⟨by simp,b,ws,rfl,rfl,hw,by have:=hws.1;simpa using this,λj v c p q'=> ?_⟩
   have hcd:c.aAZ=true:=(hCs (true,cs) (by simp)).1 c (az q')
   exact Bw hcd (hws.2 j v _ p (by rw[bg,q'];rfl)) (.inl hXE)
  ·simp[E] at hx;subst hx
   exact⟨rfl,_,t0,rfl,rfl,λ_=>⟨b,rfl,rfl⟩⟩
 have hvl:vs.length=us.length:=by have:=hvs.1;simpa using this
 have hini:bHd Y n T ks z=⟨(Sv.l (.box 0 0)::us.map aV2)++List.replicate (n-(us.length+1)) (.l .any),m0,[]⟩:=by
  simp only[bHd,hz,bH,av,bl];rfl
 have r0:bE Y.C E (bHd Y n T ks z) {tmps:=(.pointer (some ⟨b,0,none⟩)::vs).toArray++Array.replicate (n-(.pointer (some ⟨b,0,none⟩)::vs).toArray.size) undef,defers:=[]} w [t0]:=by
  rw[hini]
  refine⟨Hh,rfl,by simp[hvl];omega,λm x hx=> ?_⟩
  have hget:∀(v:Value),(Value.pointer (some ⟨b,0,none⟩)::vs)[m]? =some v->((Value.pointer (some ⟨b,0,none⟩)::vs).toArray++Array.replicate (n-(Value.pointer (some ⟨b,0,none⟩)::vs).toArray.size) undef).getD m undef=v:=λv hv=>by
   have hlt:=lt_of_some hv
   rw[cj,fi (by simpa using hlt)]
   simp only[List.getElem?_toArray,hv,cE]
  by_cases hlt:m<us.length+1
  ·simp only at hx
   rw[aq (by simpa using hlt)] at hx
   cases m with
   |zero=>
    simp at hx;subst hx
    rw[hget (.pointer (some ⟨b,0,none⟩)) rfl]
    exact⟨rfl,_,t0,rfl,rfl,λ_=>⟨b,rfl,rfl⟩⟩
   |succ m=>
    rw[eu,bg] at hx
    cases hc:us[m]? with
    |none=>rw[hc] at hx;cases hx
    |some c=>
     rw[hc] at hx
     have:=ak hx;subst this
     have hml:m<vs.length:=by rw[hvl];exact lt_of_some hc
     rw[hget vs[m] (by rw[eu];exact ac hml)]
     exact qZ (D6 (hCs c (by have:=az hc;simp[this])) (hvs.2 m _ _ (ac hml) (by rw[bg,hc];rfl)) (.inl hXE))
  ·simp only at hx
   rw[ay (by simp;omega)] at hx
   have:=az hx
   simp at this
   rw[this.2];trivial
 have done:∀s' a' w' β',bHe Y TI T rs l s'=some q->bE Y.C E s' a' w' β'->a'.defers=[]/\∃v,(results fn a'.tmps).run P w'= .ok v w'/\(∃v' ws',Ending.returned v= .returned v'/\Bel (·=b) w w'/\w'.heap[b]? =some (.cells ws'.toArray T (0,0))/\RdL w' X ws' (ds.map Lf.toV)/\Rd w' X [] v' (lM (rs'.map vC))):=λs' a' w' β' hfin r=>by
  unfold bHe at hfin
  split at hfin
  ·rename_i T' cs' us' rv cv ho
   rw[aR] at ho
   split at hfin
   ·rename_i xs hres
    cases hc:(Nat.beq T' T&&(aN6 cs'&&aS4 xs)) with
    |false=>rw[hc] at hfin;cases hfin
    |true=>
     rw[hc] at hfin
     simp only[ae] at hfin
     simp only[aa] at hc
     obtain⟨hT,hn1,hn2⟩:=hc
     have hT:=ah hT
     subst hT
     obtain⟨rvs,k1,k2,k3⟩:=wE G.ti r hres
     obtain⟨_,e',t',g1,g2,g3⟩:=r.hp.pin _ (cy.2 rfl)
     rw[ho] at g1;injection g1 with g1;subst g1
     obtain⟨b',g4,g5⟩:=g3 rfl
     have:b'=b:=by injection g5 with g5;injection g5 with g5;injection g5 with g5;exact g5.symm
     subst this
     obtain⟨_,b2,ws',e1,e2,e3,e4⟩:=r.hp.ok 0 t' _ g2 ho
     rw[g4] at e1;injection e1 with e1;subst e1
     have hbt:b'∈t'.all:=Tr.root g4
     have hrd:=Ky r (Z:=X) (λx hx=>by
      by_cases hxb:x=b'
      ·exact .inr (.inl hxb)
      ·exact .inl ⟨hx,hxb⟩) _ hfin (vs:= .agg ws'.toArray::rvs) (by simp[k2]) (λj v x p q'=>by
       cases j with
       |zero=>simp at p q';subst p;subst q';exact⟨ws',rfl,e4⟩
       |succ j=>exact k3 j v x (by simpa using p) (by simpa using q')) (λx hx c hc' i t x' hi ht hxt hX'=>by
       have h1:1<=i:=by
        rcases ba.1 hx with rfl|hx
        ·exact aO9 (Vn hn1 c hc') i hi
        ·exact aO9 (aH4 hn2 x hx c hc') i hi
       by_cases hxb:x'=b'
       ·subst hxb
        exact r.hp.dist 0 i t' t x' (by omega) g2 ht hbt hxt
       ·exact aGl r i t x' ht hxt ⟨hX',hxb⟩)
     rw[hq,bm] at hrd
     obtain⟨_,_,he,hr1,hr2⟩:=RdL.cons_inv hrd
     injection he with he1 he2
     subst he1;subst he2
     have hr1:=RdL.agg (show Rd w' X [] (.agg ws'.toArray) (.agg (ds.map Lf.toV)) from hr1)
     exact⟨r.defers,_,yX hl k1,_,ws',rfl,r.hp.ext,e3,hr1,bHz hr2⟩
   ·cases hfin
  ·cases hfin
 rw[hn]
 exact aHy (Vm G hm hI) 1000 E rfl rfl an cd _ _ _ _ _ q (λ_=>True) (WC.true cd) (AW.true an) h _ (λs' a' w' β' _ hq r=>done s' a' w' β' hq r) (λi s' a' w' β' _ hq r=>by cases hq) (λs' a' w' β' _ hq r=>done s' a' w' β' hq r) _ _ _ r0
def bLv (G:Good P g Y TI FZ)(hm:P.follows .mixedOrders=true)(hI:qE P IL){f:FuncId}{fn:Func}{cd:Code}{n T:Nat}{l:List ResultVar}{ks rs:List Kd}{m:qB U (.st T::ks)->Option (qB U (.st T::rs))}{an:qB U (.st T::ks)->An}(hf:P.funcs[f]? =some fn)(hb:fn.body=some cd)(hn:fn.ntmps=n)(hl:fn.results=l.toArray)
  (hE:∀args w,(callFunc f args).run P w= .ok (.enter f args) w) (hlen:ks.length+1<=n) (h:∀a r,m a=some r->evP Y TI FZ IL (an a) cd n T ks rs l a=some r):yT P g Y f ⟨.st T::ks, .st T::rs,true,true,m⟩:=λa r hr=>by
 have h':=h a r hr
 refine⟨λhh=>(by cases hh),λhh=>(by cases hh),λ_ hh=>(by cases hh),λ_ _ T' ks' cs us ds rs' e1 e2 e3=> ?_⟩
 injection e1 with e1 e4
 injection e1 with e1
 subst e1;subst e4
 have hl':us.length+1<=n:=by
  have:=congrArg List.length e2
  rw[Qj] at this
  simp at this;omega
 exact bBe G hm hI hf hb hn hl hE e2 e3 hl' h'
end
end Go.EV
