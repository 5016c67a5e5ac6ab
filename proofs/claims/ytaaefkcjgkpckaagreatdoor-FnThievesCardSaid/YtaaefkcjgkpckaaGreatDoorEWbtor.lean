import Derived.Test.YtaaefkcjgkpckaaGreatDoorEVyltoa
import Derived.Test.YtaaefkcjgkpckaaGreatDoorVKltos
import Derived.Lib.SplitLaws
import Derived.HandedShaped
import Derived.Test.YtaaefkcjgkpckaaGreatDoorEVrptow
/-
  THE EVALUATOR's KIT, twenty-eighth part: functions whose results are fresh. Plain theorems over any program; the conditions stand in each.
-/
set_option linter.unusedVariables false
set_option linter.unusedSimpArgs false
namespace Go.EV
open Go.RowKit Go.VK
variable {U:Uni} {Y:Lay U} {TI:List (Nat×TInfo)} {FZ:List (Nat×Sum U)} {IL:Il} {P:Program} {g:GI} {E:Env U g}
section
variable {s:St U} {a:Act} {w w0:World} {β:List Tr} {C:Cod U}
theorem aW0 {m:Mm U}{x:Lf U}{xs:List (Lf U)}{l:List Nat}(h:K8 m (x::xs)=some l):∃l1 l2,l=l1++l2∧K8 m [x]=some l1∧K8 m xs=some l2:=by
 cases x with
 |own i r=>
  simp only[K8] at h ⊢
  cases ho:nth m.o i with
  |none=>rw[ho] at h;cases h
  |some e=>
   obtain⟨ob,rv,cv⟩:=e
   cases ob with
   |tree τ d ll=>
    rw[ho] at h
    simp only at h
    cases hb:(Nat.beq rv r&&d) with
    |false=>rw[hb] at h;cases h
    |true=>
     rw[hb] at h
     simp only[cond_true] at h
     cases hx:K8 m xs with
     |none=>rw[hx] at h;cases h
     |some l2=>
      rw[hx] at h
      have:=Option.some.inj h;subst this
      exact⟨[i],l2,rfl,by simp[hb],rfl⟩
   |_=>rw[ho] at h;cases h
 |sl=>cases h
 |bor=>cases h
 |inn=>cases h
 |_=>exact⟨[],l,rfl,rfl,h⟩
theorem aPu (H:Hp C E s.m β w){kd:Kd}{x y:Lf U}{l:List Nat}{v:Value}(h:K8 s.m [x]=some l)(hr:rdn s.m kd x=some y)(hm:x.mean C w (E.X β) β s.m v)(hK:∀τ,kd= .sl τ→0<U.K τ):Ow C w (fun _=>False) true v y (jU β l):=by
 have hb0:jU β []=[]:=rfl
 have flat:mM x=true→pM s.m x=some y→l=[]→(∀τ ll,y≠ .sl τ ll)→Ow C w (fun _=>False) true v y (jU β l):=fun hf hr hl hns=>by
  obtain⟨k1,k2⟩:=zN H hm hr (Z:=fun _=>False) (fun _ h=>h.elim) (.inl hf)
  subst hl
  rw[hb0]
  cases y with
  |int k n=>obtain⟨rfl,h1,h2⟩:=k2.aAO;exact .int h1 h2
  |bool b=>obtain rfl:=k2.aAT;exact .bool
  |str z=>obtain⟨rfl,h1⟩:=k2.aAQ;exact .str h1
  |sl τ ll=>exact absurd rfl (hns τ ll)
  |_=>cases k1
 cases x with
 |own i r=>
  obtain⟨_,e,t,h2,h3,h4⟩:=hm
  obtain⟨ob,rv,cv⟩:=e
  simp only[K8,aS,h2] at h
  replace hr:pM s.m (.own i r)=some y:=hr
  simp only[pM,aS,h2] at hr
  cases ob with
  |tree τ d ll=>
   simp only at h hr
   cases hb:(Nat.beq rv r&&d) with
   |false=>rw[hb] at h;cases h
   |true=>
    rw[hb] at h
    have:=Option.some.inj h;subst this
    simp only[Bool.and_eq_true] at hb
    rw[hb.1] at hr
    have:=Option.some.inj hr;subst this
    have hd:d=true:=hb.2
    subst hd
    rw[h4 (Nat.eq_of_beq_eq_true hb.1)]
    have ho:=(Hp.tree H h3 h2 rfl).conv (X':=fun _=>False) (Nat.le_refl _) (fun _ _ h=>h.elim) (fun _ _ _ h=>h) (fun _ _=>rfl)
    have hbl:jU β [i]=t.all:=by simp[jU,h3]
    rw[hbl];exact ho
  |_=>cases h
 |nil=>
  obtain rfl:=hm
  have:=Option.some.inj h;subst this
  cases kd with
  |sl τ=>
   have:=Option.some.inj (show some (Lf.sl τ [])=some y from hr);subst this
   exact .sl L9 (hK τ rfl) (World.ownsRow_nil w 0 τ (U.K τ)) .n
  |_=>cases hr
 |int k n=>have e:=Option.some.inj (show some (Lf.int k n)=some y from hr);exact flat rfl hr (Option.some.inj h).symm (fun _ _ e'=>by rw[←e] at e';cases e')
 |bool b=>have e:=Option.some.inj (show some (Lf.bool b)=some y from hr);exact flat rfl hr (Option.some.inj h).symm (fun _ _ e'=>by rw[←e] at e';cases e')
 |str b=>have e:=Option.some.inj (show some (Lf.str b)=some y from hr);exact flat rfl hr (Option.some.inj h).symm (fun _ _ e'=>by rw[←e] at e';cases e')
 |nat c=>
  refine flat rfl hr (Option.some.inj h).symm (fun τ ll e'=> ?_)
  subst e'
  replace hr:pM s.m (.nat c)=some (.sl τ ll):=hr
  simp only[pM] at hr
  split at hr<;>cases hr
 |lt c n=>
  refine flat rfl hr (Option.some.inj h).symm (fun τ ll e'=> ?_)
  subst e'
  replace hr:pM s.m (.lt c n)=some (.sl τ ll):=hr
  simp only[pM] at hr
  split at hr<;>cases hr
 |sl=>cases h
 |bor=>cases h
 |inn=>cases h
 |_=>cases hr
theorem aE8 (H:Hp C E s.m β w):∀(ks:List Kd) {xs ys:List (Lf U)} {l:List Nat} {vs:List Value},rds s.m ks xs=some ys→K8 s.m xs=some l→Ms C w (E.X β) β s.m vs xs→(∀kd∈ks,∀τ,kd= .sl τ→0<U.K τ)→OwL C w (fun _=>False) true vs ys (jU β l)
 |[],[],ys,l,vs,h,hl,hM,_=>by
  have:=Option.some.inj h;subst this
  have:=Option.some.inj hl;subst this
  have:vs=[]:=List.eq_nil_of_length_eq_zero hM.1
  subst this;exact .n
 |[],_::_,_,_,_,h,_,_,_=>by cases h
 |_::_,[],_,_,_,h,_,_,_=>by cases h
 |kd::ks,x::xs,ys,l,vs,h,hl,hM,hK=>by
  obtain⟨y,ys',h1,h2,rfl⟩:=aPg h
  obtain⟨l1,l2,rfl,h3,h4⟩:=aW0 hl
  cases vs with
  |nil=>have:=hM.1;simp at this
  |cons v vs=>
   rw[Xp]
   exact .c (aPu H h3 h1 (hM.2 0 v x rfl rfl) (hK kd (by simp))) (aE8 H ks h2 h4 ⟨by have:=hM.1;simpa using this,fun i u c p q=>hM.2 (i+1) u c (by simpa using p) (by simpa using q)⟩ (fun kd' hk=>hK kd' (by simp[hk])))
theorem aUt (hY:LayOk Y)(H:Hp Y.C E s.m β w){kd:Kd}{x:Sv U}{z:kd.ty U}{v:Value}{cs:List (Lf U)}{l:List Nat}(hm:x.mean Y.C w (E.X β) β s.m v)(hp:parts x=some cs)(hl:K8 s.m cs=some l)(h:Iq Y s.m kd x=some z)(hK:∀τ,kd= .sl τ→0<U.K τ):OwP Y.C w v (jU β l) (Xc Y kd z):=by
 have leaf:∀{y:Lf U},x= .l y→(∀T,kd≠ .st T)→(match rdn s.m kd y with|some q=>aBs kd q|none=>none)=some z→OwP Y.C w v (jU β l) (Xc Y kd z):=fun {y} hx hkd h0=>by
  subst hx
  have:=Option.some.inj hp;subst this
  cases hr:rdn s.m kd y with
  |none=>rw[hr] at h0;cases h0
  |some q=>
   rw[hr] at h0
   have hq:=Nr (show aBs kd q=some z from h0)
   have ho:=aPu H hl hr hm hK
   rw[hq] at ho
   cases kd with
   |st T=>exact absurd rfl (hkd T)
   |_=>exact⟨_,rfl,ho⟩
 cases kd with
 |st T=>
  cases x with
  |a cs'=>
   have:=Option.some.inj hp;subst this
   have h':(match rds s.m (Y.kd T) cs' with|some ds=>Y.C.bld T ds|none=>none)=some z:=h
   cases hr:rds s.m (Y.kd T) cs' with
   |none=>rw[hr] at h';cases h'
   |some ds=>
    rw[hr] at h'
    obtain⟨vs,rfl,hM⟩:=hm
    have ho:=aE8 H _ hr hl hM (fun kd hk τ e=>hY.pos T τ (e▸hk))
    rw[Y.C.hmk T ds z h'] at ho
    exact⟨vs,rfl,ho⟩
  |l y=>
   have h':(match rdn s.m (Kd.st T) y with|some q=>aBs (Kd.st T) q|none=>none)=some z:=h
   cases hr:rdn s.m (Kd.st T) y with
   |none=>rw[hr] at h';cases h'
   |some q=>rw[hr] at h';cases q<;>cases h'
  |t y=>cases h
 |int k=>cases x with
  |l y=>exact leaf rfl (by simp) h
  |_=>cases h
 |bool=>cases x with
  |l y=>exact leaf rfl (by simp) h
  |_=>cases h
 |str=>cases x with
  |l y=>exact leaf rfl (by simp) h
  |_=>cases h
 |sl τ=>cases x with
  |l y=>exact leaf rfl (by simp) h
  |_=>cases h
theorem bAg (hY:LayOk Y)(H:Hp Y.C E s.m β w)(ks:List Kd):∀{xs:List (Sv U)} {z:xN U ks} {vs:List Value} {l:List Nat},lH Y s.m ks xs=some z→aWa s.m xs=some l→vs.length=xs.length→(∀(i:Nat) (v:Value) (x:Sv U),vs[i]? =some v→xs[i]? =some x→x.mean Y.C w (E.X β) β s.m v)→(∀kd∈ks,∀τ,kd= .sl τ→0<U.K τ)→OwPs Y.C w vs (bY Y ks z) (jU β l):=by
 induction ks with
 |nil=>
  intro xs z vs l h hl hlen hm hK
  cases xs with
  |nil=>
   have:=Option.some.inj hl;subst this
   have:vs=[]:=List.eq_nil_of_length_eq_zero hlen
   subst this;exact .n
  |cons=>cases h
 |cons k ks ih=>
  intro xs z vs l h hl hlen hm hK
  cases xs with
  |nil=>cases ks<;>cases h
  |cons x xs=>
   cases vs with
   |nil=>simp at hlen
   |cons v vs=>
    simp only[aWa] at hl
    cases hp:parts x with
    |none=>rw[hp] at hl;cases hl
    |some cs=>
     rw[hp] at hl
     simp only at hl
     cases h1:K8 s.m cs with
     |none=>rw[h1] at hl;cases hl
     |some l1=>
      cases h2:aWa s.m xs with
      |none=>rw[h1,h2] at hl;cases hl
      |some l2=>
       rw[h1,h2] at hl
       have:=Option.some.inj hl;subst this
       rw[Xp]
       cases ks with
       |nil=>
        cases xs with
        |cons x' xs=>cases h
        |nil=>
         have hvs:vs=[]:=List.eq_nil_of_length_eq_zero (by simpa using hlen)
         subst hvs
         have:=Option.some.inj h2;subst this
         exact .c (aUt hY H (hm 0 v x rfl rfl) hp h1 (show Iq Y s.m k x=some z from h) (hK k (by simp))) .n
       |cons k' ks'=>
        replace h:(match Iq Y s.m k x with|some a=>(match lH Y s.m (k'::ks') xs with|some b=>some (a,b)|none=>none)|none=>none)=some (show k.ty U×xN U (k'::ks') from z):=h
        cases g1:Iq Y s.m k x with
        |none=>rw[g1] at h;cases h
        |some z1=>
         cases g2:lH Y s.m (k'::ks') xs with
         |none=>rw[g1,g2] at h;cases h
         |some z2=>
          rw[g1,g2] at h
          have:=Option.some.inj h;subst this
          exact .c (aUt hY H (hm 0 v x rfl rfl) hp h1 g1 (hK k (by simp))) (ih g2 h2 (by simpa using hlen) (fun i u c p q=>hm (i+1) u c (by simpa using p) (by simpa using q)) (fun kd hk=>hK kd (by simp[hk])))
theorem aW1 (G:Good P g Y TI FZ)(r:bC Y.C E s a w β)(hEY:∀b,¬E.Y0 b){fn:Func}{l:List ResultVar}(hf:fn.results=l.toArray){ks:List Kd}{z:xN U ks}(h:fin Y TI true ks l s=some z):∃v B,(results fn a.tmps).run P w= .ok v w∧B.Nodup∧(∀b∈B,E.w0.heap.size≤b)∧OwR Y.C w v (bY Y ks z) B:=by
 unfold fin at h
 cases h1:Xj TI s l with
 |none=>rw[h1] at h;cases h
 |some xs=>
  rw[h1] at h
  simp only[cond_true] at h
  cases h2:aWa s.m xs with
  |none=>rw[h2] at h;cases h
  |some ids=>
   rw[h2] at h
   simp only at h
   cases hb:(dist ids&&aEg (U:=U) ks) with
   |false=>rw[hb] at h;cases h
   |true=>
    rw[hb] at h
    simp only[cond_true] at h
    simp only[Bool.and_eq_true] at hb
    obtain⟨vs,k1,k2,k3⟩:=Dh G.ti r h1
    have ho:=bAg G.lay r.hp ks h h2 k2 k3 (Sa hb.2)
    refine⟨_,jU β ids,Jg hf k1,aM9 r.hp (vJ.1 hb.1),fun b hbb=> ?_,?_⟩
    ·obtain⟨j,_,u,hu,hub⟩:=uK hbb
     exact(r.hp.new j u b hu hub).1.resolve_right (hEY b)
    ·generalize bY Y ks z=cps at ho ⊢
     generalize jU β ids=B0 at ho ⊢
     clear h k1 k3 h2 h1 k2
     cases ho with
     |n=>exact⟨[],rfl, .n⟩
     | @c v x B B' vs xs' hv hr=>
      cases hr with
      |n=>rw[List.append_nil];exact hv
      | @c v2 x2 B2 B3 vs2 xs2 hv2 hr2=>
       rw[dif_neg (by simp)]
       exact⟨_,rfl, .c hv (.c hv2 hr2)⟩
end
theorem aW2 (G:Good P g Y TI FZ)(hm:P.follows .mixedOrders=true)(hI:tF P IL){f:FuncId}{fn:Func}{cd:Code}{n:Nat}{l:List ResultVar}{ar rs:List Kd}{an:An}{z:xN U ar}{q:xN U rs}(hf:P.funcs[f]? =some fn)(hb:fn.body=some cd)(hn:fn.ntmps=n)(hl:fn.results=l.toArray)
  (hE:∀args w,(callFunc f args).run P w= .ok (.enter f args) w) (hlen:(bY Y ar z).length≤n) (h:evF Y TI FZ IL an cd n ar rs true l z=some q):bEs P g Y.C f ((bY Y ar z).map uL) (bY Y rs q):=by
 refine⟨hE,fun w X0 vs hG hX0 hvs=>calls_of_wp hf hb ?_⟩
 let E:Env U g:=⟨X0,fun _=>False,w,[],[],fun b h=> .inl (hX0 b h),fun _ h=>h.elim,fun _ _ h=>h,fun w' hw=>g.st w w' hG (hw.ext fun _ h=>h),[]⟩
 have r0:=aLn (Y:=Y) hG hX0 hvs hlen E rfl (fun _ h=>h) rfl rfl rfl rfl
 have done:∀s' a' w' β',fin Y TI true rs l s'=some q→bC Y.C E s' a' w' β'→a'.defers=[]∧∃v,(results fn a'.tmps).run P w'= .ok v w'∧(∃v' B,Ending.returned v= .returned v'∧Ext w w'∧B.Nodup∧(∀b∈B,w.heap.size≤b)∧OwR Y.C w' v' (bY Y rs q) B):=fun s' a' w' β' hq r=>by
  obtain⟨v,B,k1,k2,k3,k4⟩:=aW1 G r (fun _ h=>h) hl hq
  exact⟨r.defers,v,k1,v,B,rfl,r.hp.ext.ext fun _ h=>h,k2,k3,k4⟩
 rw[hn]
 exact aPn (aE7 G hm hI) 1000 E rfl rfl an cd _ _ _ _ _ q (fun _=>True) (WC.true cd) (AW.true an) h _ (fun s' a' w' β' _ hq r=>done s' a' w' β' hq r) (fun i s' a' w' β' _ hq r=>by cases hq) (fun s' a' w' β' _ hq r=>done s' a' w' β' hq r) _ _ _ r0
theorem N7:∀(ks:List Kd) (z:xN U ks),(bY Y ks z).length=ks.length
 |[],_=>rfl
 |[k],_=>rfl
 |k::k'::ks,z=>by
  show(bY Y (k'::ks) z.2).length+1=_
  rw[N7 (k'::ks)];rfl
theorem aLo {f:FuncId}{S:Sum U}(h:En P g Y f S)(G:Good P g Y TI FZ):Good P g Y TI ((f,S)::FZ):=⟨G.ti,G.lay,fun f' S' hm=>by
 rcases List.mem_cons.1 hm with e|e
 ·injection e with e1 e2;subst e1;subst e2;exact h
 ·exact G.fs f' S' e⟩
theorem bGd (G:Good P g Y TI FZ)(hm:P.follows .mixedOrders=true)(hI:tF P IL){f:FuncId}{fn:Func}{cd:Code}{n:Nat}{l:List ResultVar}{S:Sum U}{an:xN U S.ar→An}(hf:P.funcs[f]? =some fn)(hb:fn.body=some cd)(hn:fn.ntmps=n)(hl:fn.results=l.toArray)
  (hE:∀args w,(callFunc f args).run P w= .ok (.enter f args) w) (hlen:S.ar.length≤n) (hwt:S.wt=false) (h:∀a r,S.m a=some r→evF Y TI FZ IL (an a) cd n S.ar S.rs S.fr l a=some r):En P g Y f S:=fun a r hr=>by
 have h':=h a r hr
 refine⟨fun _ hfr=> ?_,fun _ hfr=> ?_,fun hh=>(by rw[hwt] at hh;cases hh),fun hh=>(by rw[hwt] at hh;cases hh)⟩
 ·rw[hfr] at h'
  exact bAf G hm hI hf hb hn hl hE (by rw[N7];exact hlen) h'
 ·rw[hfr] at h'
  exact aW2 G hm hI hf hb hn hl hE (by rw[N7];exact hlen) h'
end Go.EV

namespace Go.EV
open Go.RowKit Go.VK
variable {U:Uni} {Y:Lay U} {TI:List (Nat×TInfo)} {FZ:List (Nat×Sum U)} {IL:Il} {P:Program} {g:GI} {E:Env U g}
section
variable {s:St U} {a:Act} {w w0:World} {β:List Tr} {C:Cod U}
theorem OwP.lt {v:Value}{B:List Nat}{x:Bool×List (Lf U)}(h:OwP C w v B x):∀b∈B,b<w.heap.size:=by
 obtain⟨b,cs⟩:=x
 cases b with
 |true=>obtain⟨vs,_,h⟩:=h;exact h.lt
 |false=>obtain⟨c,_,h⟩:=h;exact h.lt
end
end Go.EV
namespace Go.VK
theorem aI {α:Type}{c:Prop}[Decidable c]{x y:Option α}{r:α}(h:c→y=x)(hr:gd c x=some r):y=some r:=by
 unfold gd at hr
 split at hr
 ·rename_i hc;rw[h hc];exact hr
 ·cases hr
end Go.VK

namespace Go.VK
open EV (dL)
section
variable {α β σ τ:Type}
theorem bAh {S:Type}{F:(S→Option τ)→S→Option τ}(V:Nat→S→Prop)(N:Nat)(R:Option τ)
  (step:∀i s rec,i<N→V i s→(∃s',V (i+1) s'∧F rec s=rec s')∨F rec s=R) (last:∀s rec,V N s→F rec s=R):∀(k i n:Nat) (s:S),i+k=N→k<n→V i s→dL n F s=R
 |0,i,n+1,s,hk,hn,h=>by
  have:i=N:=by omega
  subst this
  exact last s _ h
 |k+1,i,n+1,s,hk,hn,h=>by
  rcases step i s (dL n F) (by omega) h with⟨s',h1,h2⟩|h2
  ·exact h2.trans (bAh V N R step last k (i+1) n s' (by omega) (by omega) h1)
  ·exact h2
theorem aPv {S:Type}{F:(S→Option τ)→S→Option τ}(V:Nat→S→Prop)(N:Nat)(R:Option τ){s:S}(hN:N≤18446744073709551616)(h0:V 0 s)
  (step:∀i s rec,i<N→V i s→(∃s',V (i+1) s'∧F rec s=rec s')∨F rec s=R) (last:∀s rec,V N s→F rec s=R):dL FUEL F s=R:=
 bAh V N R step last N 0 FUEL s (by omega) (by have:=jF;omega) h0
theorem dZ {i n:Nat}(h:i<n):decide ((i:Int)<(n:Int))=true:=by simpa using h
theorem eD {n:Nat}:decide ((n:Int)<(n:Int))=false:=by simp
theorem set_mid {l r:List β}{i:Nat}{d x:β}(h:l.length=i):(l++d::r).set i x=(l++[x])++r:=by
 subst h
 rw[List.set_append_right _ _ (Nat.le_refl _)]
 simp
def szP (left:Int):Prop:=0≤left∧left≤1048576
instance (left:Int):Decidable (szP left):=inferInstanceAs (Decidable (_∧_))
theorem aNn {i:Nat}:((i:Nat):Int).toNat=i:=Int.toNat_natCast i
def MkP (s c:Nat)(k:Int):Prop:=s≤1152921504606846976∧0≤k∧k+c≤4611686018427387904
instance (s c:Nat) (k:Int):Decidable (MkP s c k):=inferInstanceAs (Decidable (_∧_))
end
end Go.VK
namespace Go.VK
open EV (dL)
section
variable {α β σ τ:Type}
def okL (p:α→Prop)(l:List α):Prop:=l.length≤9223372036854775807∧∀y∈l,p y
def okS (s:ByteArray):Prop:=s.size≤9223372036854775807
theorem jJ {f:α→Nat}{l:List α}{i:Nat}(hi:i<l.length):f l[i]≤(l.map f).sum:=by
 have:f l[i]∈l.map f:=List.mem_map.2 ⟨_,List.getElem_mem hi,rfl⟩
 induction l generalizing i with
 |nil=>simp at hi
 |cons x l ih=>
  cases i with
  |zero=>simp
  |succ i=>
   have h':i<l.length:=by simpa using hi
   have:=ih h' (List.mem_map.2 ⟨_,List.getElem_mem h',rfl⟩)
   simp only[List.map_cons,List.sum_cons,List.getElem_cons_succ];omega
end
end Go.VK
namespace Go.VK
end Go.VK
namespace Go.VK
open EV (dL)
section
variable {α β σ τ:Type}
theorem mZ {l:List α}(p:α→Bool)(a b:τ){F:(Nat→Option τ)→Nat→Option τ}(hl:l.length≤18446744073709551616)
  (hF:∀rec i (hi:i<l.length),F rec i=bif p l[i] then some a else rec (i+1)) (hE:∀rec,F rec l.length=some b):dL FUEL F 0=some (bif l.any p then a else b):=by
 have key:∀i (hi:i<l.length),p l[i]=true→l.any p=true:=fun i hi h=>List.any_eq_true.2 ⟨_,List.getElem_mem hi,h⟩
 refine aPv (fun i s=>i≤l.length∧s=i∧(l.take i).any p=false) l.length _ hl ⟨Nat.zero_le _,rfl,rfl⟩ (fun i s rec hi hv=> ?_) (fun s rec hv=> ?_)
 ·obtain⟨_,rfl,h3⟩:=hv
  rw[hF rec s hi]
  cases hp:p l[s] with
  |true=>exact .inr (by rw[key s hi hp];rfl)
  |false=>exact .inl ⟨_,⟨hi,rfl,by rw[List.take_add_one,List.getElem?_eq_getElem hi,List.any_append,h3];simp[hp]⟩,rfl⟩
 ·obtain⟨_,rfl,h3⟩:=hv
  rw[List.take_length] at h3
  rw[hE,h3];rfl
theorem jK {l:List α}(p:Nat→α→Bool)(a b:τ){F:(Nat→Option τ)→Nat→Option τ}(hl:l.length≤18446744073709551616)
  (hF:∀rec i (hi:i<l.length),F rec i=bif p i l[i] then some a else rec (i+1)) (hE:∀rec,F rec l.length=some b):dL FUEL F 0=some (bif jB p 0 l then a else b):=by
 have key:∀(l:List α) (j:Nat),jB p j l=true↔∃(i:Nat) (hi:i<l.length),p (j+i) l[i]=true:=by
  intro l
  induction l with
  |nil=>intro j;simp[jB]
  |cons x xs ih=>
   intro j
   simp only[jB,Bool.or_eq_true,ih]
   constructor
   ·rintro(h|⟨i,hi,h⟩)
    ·exact⟨0,by simp,h⟩
    ·exact⟨i+1,by simpa using hi,by rw[show j+(i+1)=j+1+i by omega];exact h⟩
   ·rintro⟨i,hi,h⟩
    cases i with
    |zero=>exact .inl h
    |succ i=>exact .inr ⟨i,by simpa using hi,by rw[show j+1+i=j+(i+1) by omega];exact h⟩
 refine aPv (fun i s=>i≤l.length∧s=i∧∀(j:Nat) (hj:j<l.length),j<i→p j l[j]=false) l.length _ hl ⟨Nat.zero_le _,rfl,fun j _ h=>by omega⟩ (fun i s rec hi hv=> ?_) (fun s rec hv=> ?_)
 ·obtain⟨_,rfl,h3⟩:=hv
  rw[hF rec s hi]
  cases hp:p s l[s] with
  |true=>exact .inr (by rw[(key l 0).2 ⟨s,hi,by rw[Nat.zero_add];exact hp⟩];rfl)
  |false=>
   refine .inl ⟨_,⟨hi,rfl,fun j hj h=> ?_⟩,rfl⟩
   rcases Nat.lt_or_ge j s with h'|h'
   ·exact h3 j hj h'
   ·have:j=s:=by omega
    subst this;exact hp
 ·obtain⟨_,rfl,h3⟩:=hv
  have:jB p 0 l=false:=by
   cases h:jB p 0 l with
   |false=>rfl
   |true=>
    obtain⟨i,hi,hp⟩:=(key l 0).1 h
    rw[Nat.zero_add,h3 i hi hi] at hp;cases hp
  rw[hE,this];rfl
theorem zU {l:List α}(p:α→Bool){F:(Nat→Option (Int⊕PUnit))→Nat→Option (Int⊕PUnit)}(hl:l.length≤18446744073709551616)
  (hF:∀rec i (hi:i<l.length),F rec i=bif p l[i] then some (.inl (i:Int)) else rec (i+1)) (hE:∀rec,F rec l.length=some (.inr ())):nx (dL FUEL F 0) (fun _=>some (-1:Int))=some (iL p 0 l):=by
 have go:∀(k i n:Nat),i+k=l.length→k<n→nx (dL n F i) (fun _=>some (-1:Int))=some (iL p i (l.drop i)):=by
  intro k
  induction k with
  |zero=>
   intro i n hk hn
   obtain⟨n,rfl⟩:∃m,n=m+1:=⟨n-1,by omega⟩
   have:i=l.length:=by omega
   subst this
   rw[show dL (n+1) F l.length=F (dL n F) l.length from rfl,hE,List.drop_length];rfl
  |succ k ih=>
   intro i n hk hn
   obtain⟨n,rfl⟩:∃m,n=m+1:=⟨n-1,by omega⟩
   have hi:i<l.length:=by omega
   rw[show dL (n+1) F i=F (dL n F) i from rfl,hF _ i hi,List.drop_eq_getElem_cons hi,iL]
   cases p l[i] with
   |true=>rfl
   |false=>exact ih (i+1) n (by omega) (by omega)
 exact go l.length 0 FUEL (by omega) (by have:=jF;omega)
theorem gY {l:List α}(g:σ→α→σ)(Inv:Nat→σ→Prop)(fin:σ→Option τ){s0:σ}{F:(σ×Nat→Option τ)→σ×Nat→Option τ}(hl:l.length≤18446744073709551616)(h0:Inv 0 s0)
  (hI:∀i s (hi:i<l.length),Inv i s→Inv (i+1) (g s l[i])) (hF:∀rec i s (hi:i<l.length),Inv i s→F rec (s,i)=rec (g s l[i],i+1)) (hE:∀rec s,Inv l.length s→F rec (s,l.length)=fin s):dL FUEL F (s0,0)=fin (l.foldl g s0):=by
 refine aPv (fun i s=>i≤l.length∧s=((l.take i).foldl g s0,i)∧Inv i s.1) l.length _ hl ⟨Nat.zero_le _,rfl,h0⟩ (fun i s rec hi hv=> ?_) (fun s rec hv=> ?_)
 ·obtain⟨_,rfl,h3⟩:=hv
  have e:(l.take (i+1)).foldl g s0=g ((l.take i).foldl g s0) l[i]:=by rw[List.take_add_one,List.getElem?_eq_getElem hi,List.foldl_append];rfl
  refine .inl ⟨_,⟨hi,rfl,by rw[e];exact hI i _ hi h3⟩,?_⟩
  rw[hF rec i _ hi h3,e]
 ·obtain⟨_,rfl,h3⟩:=hv
  rw[hE rec _ h3,List.take_length]
theorem aLp {l:List α}(g:σ→α→σ)(Inv:Nat→σ→Prop)(fin:σ→Option τ){s0:σ}{F:(Nat×σ→Option τ)→Nat×σ→Option τ}(hl:l.length≤18446744073709551616)(h0:Inv 0 s0)
  (hI:∀i s (hi:i<l.length),Inv i s→Inv (i+1) (g s l[i])) (hF:∀rec i s (hi:i<l.length),Inv i s→F rec (i,s)=rec (i+1,g s l[i])) (hE:∀rec s,Inv l.length s→F rec (l.length,s)=fin s):dL FUEL F (0,s0)=fin (l.foldl g s0):=by
 refine aPv (fun i s=>i≤l.length∧s=(i,(l.take i).foldl g s0)∧Inv i s.2) l.length _ hl ⟨Nat.zero_le _,rfl,h0⟩ (fun i s rec hi hv=> ?_) (fun s rec hv=> ?_)
 ·obtain⟨_,rfl,h3⟩:=hv
  have e:(l.take (i+1)).foldl g s0=g ((l.take i).foldl g s0) l[i]:=by rw[List.take_add_one,List.getElem?_eq_getElem hi,List.foldl_append];rfl
  refine .inl ⟨_,⟨hi,rfl,by rw[e];exact hI i _ hi h3⟩,?_⟩
  rw[hF rec i _ hi h3,e]
 ·obtain⟨_,rfl,h3⟩:=hv
  rw[hE rec _ h3,List.take_length]
theorem N8 {f:α→List β}:∀{l:List α} {s:List β},l.foldl (fun s x=>s++f x) s=s++(l.map f).flatten
 |[],s=>by simp
 |x::l,s=>by simp only[List.foldl_cons,N8 (l:=l),List.map_cons,List.flatten_cons,List.append_assoc]
theorem N9 {f:α→β}:∀{l:List α} {s:List β},l.foldl (fun s x=>s++[f x]) s=s++l.map f
 |[],s=>by simp
 |x::l,s=>by simp only[List.foldl_cons,N9 (l:=l),List.map_cons,List.append_assoc,List.singleton_append]
end
end Go.VK

namespace Go.VK
def RdA (w:World)(X:Nat→Prop):List V→Prop
 |[]=>True
 |c::cs=>(∃v,Rd w X [] v c)∧RdA w X cs
section
variable {w:World} {X:Nat→Prop}
theorem RdA.of:∀{cs:List V},(∀(i:Nat) (c:V),cs[i]? =some c→∃v,Rd w X [] v c)→RdA w X cs
 |[],_=>trivial
 |c::cs,h=>⟨h 0 c rfl,RdA.of fun i d hd=>h (i+1) d (by simpa using hd)⟩
theorem RdA.ofL {vs:List Value}{Us:List V}(h:RdL w X vs Us):RdA w X Us:=RdA.of fun i c hc=>by
 have hi:i<vs.length:=by
  rw[h.1]
  exact(List.getElem?_eq_some_iff.1 hc).1
 exact⟨vs[i],h.2 i vs[i] c (List.getElem?_eq_getElem hi) hc⟩
theorem bGe {n:Int}(h:∃v,Rd w X [] v (.int .u8 n)):0≤n∧n≤255:=by
 obtain⟨v,h⟩:=h
 cases h with|int h1 h2=>exact⟨h1,h2⟩
theorem bGf {α:Type}{k:Nat}{enc:α→List V}{l:List α}{p:α→Prop}(h:∃v,Rd w X [] v (.slice k (l.map enc)))(hp:∀y,RdA w X (enc y)→p y):okL p l:=by
 obtain⟨v,h⟩:=h
 refine⟨?_,fun y hy=>hp y ?_⟩
 ·obtain⟨A,c,rfl,h1,h2⟩:=h.aBD
  rw[List.length_map] at h1
  exact Nat.le_trans h1 h2
 ·obtain⟨i,hi,rfl⟩:=List.mem_iff_getElem.1 hy
  generalize he:l.map enc=es at h
  cases h with
  |slice0 h=>simp at he;subst he;simp at hi
  |slice hn hpos hc hm hX hb hk hcell hrd=>
   exact RdA.of fun j d hd=>⟨_,hrd i j (enc l[i]) d (by rw[←he,List.getElem?_map,List.getElem?_eq_getElem hi];rfl) hd⟩
end
theorem bC9 {P:Program}{g:GI}{f:FuncId}{Us:List V}{R:V→Prop}{p:Prop}(he:∀args w,(callFunc f args).run P w= .ok (.enter f args) w)(h:p→Spec P g f Us R)(hp:∀w X,RdA w X Us→p):Spec P g f Us R:=
 ⟨he,fun w X vs hg hX hR=>(h (hp w X (RdA.ofL hR))).2 w X vs hg hX hR⟩
end Go.VK

namespace Go.VK
def bHy (n:Nat):GI where
 G w:=∃m,w.cell? ⟨n,0,none⟩=some (.int .i64 m)
 st _ _ h he:=by
  obtain⟨m,hm⟩:=h
  exact⟨m,he.cell hm⟩
theorem aA7 (sep:ByteArray):∀(k:Nat) (s l:ByteArray),l∈Lib.splitB sep 0 k s→l.size≤s.size
 |0,s,l,h=>by
  rw[Lib.splitB_zero] at h
  rw[List.mem_singleton.1 h];exact Nat.le_refl _
 |k+1,s,l,h=>by
  unfold Lib.splitB at h
  split at h
  ·rw[List.mem_singleton.1 h];exact Nat.le_refl _
  ·rcases List.mem_cons.1 h with rfl|h
   ·exact ext_size _ _ _
   ·exact Nat.le_trans (aA7 sep k _ l h) (ext_size _ _ _)
theorem aUu:∀(l:List UInt8) (c:UInt8),Lib.indexByte l c≤l.length
 |[],_=>by show(-1:Int)≤_;simp
 |b::l,c=>by
  have:=aUu l c
  simp only[Lib.indexByte,List.length_cons]
  split
  ·omega
  ·split
   ·omega
   ·push_cast;omega
theorem aSk {P:Program}{g:GI}{F:FuncId}(hE:∀args w,(callFunc F args).run P w= .ok (.enter F args) w)(hS:∀(s:ByteArray) (c:UInt8) (w:World),Calls P F #[.string s, .string ⟨#[c]⟩] w fun e w'=>e= .returned (.int .i64 (Lib.indexByte s.data.toList c))∧w'=w)
  (s sep:ByteArray) (h:sep.size=1):Spec P g F [.str s, .str sep] (fun r=>r= .int .i64 (Lib.indexByte s.data.toList (sep.data.toList.getD 0 0))):=by
 refine⟨hE,fun w X0 vs hG hX0 hvs=> ?_⟩
 obtain⟨v,u,rfl⟩:∃v u,vs=[v,u]:=by
  match vs,hvs.1 with
  |[v,u],_=>exact⟨v,u,rfl⟩
 obtain⟨rfl,hv2⟩:=(hvs.2 0 v _ rfl rfl).aAQ
 obtain⟨rfl,hu2⟩:=(hvs.2 1 u _ rfl rfl).aAQ
 have hsep:(⟨#[sep.data.toList.getD 0 0]⟩:ByteArray)=sep:=by
  obtain⟨⟨l⟩⟩:=sep
  match l,h with
  |[c],_=>rfl
 have hc:=hS s (sep.data.toList.getD 0 0) w
 rw[hsep] at hc
 refine hc.mono ?_
 rintro e w' ⟨rfl,rfl⟩
 have h1:=Lib.indexByte_ge s.data.toList (sep.data.toList.getD 0 0)
 have h2:=aUu s.data.toList (sep.data.toList.getD 0 0)
 have h3:s.data.toList.length=s.size:=Array.length_toList
 have hv3:s.size≤9223372036854775807:=Nat.le_trans hv2 (by decide)
 exact⟨_,_,rfl,rfl, .int (by rw[show IntKind.i64.min= -9223372036854775808 by decide];omega) (by rw[show IntKind.i64.max=9223372036854775807 by decide];omega),Ext.refl _⟩
theorem aSl {P:Program}{F:FuncId}{T n:Nat}(hE:∀args w,(callFunc F args).run P w= .ok (.enter F args) w)
  (hS:∀(s sep:ByteArray) (m:Int) (w:World),s.size<4294967281→w.cell? ⟨n,0,none⟩=some (.int .i64 m)→1≤sep.size→Calls P F #[.string s, .string sep] w fun e w'=>
   e= .returned (.slice (some ⟨w.heap.size,0,none⟩) (Lib.countB s sep+1) (Lib.countB s sep+1))∧w'=w.alloc (.cells ((Lib.splitB sep 0 (Lib.countB s sep) s).map Value.string).toArray T))
  (s sep:ByteArray) (h1:s.size<4294967281) (h2:1≤sep.size):Spec P (bHy n) F [.str s, .str sep] (fun r=>r= .slice 1 ((jX s sep).map sV)):=by
 refine⟨hE,fun w X0 vs hG hX0 hvs=> ?_⟩
 obtain⟨v,u,rfl⟩:∃v u,vs=[v,u]:=by
  match vs,hvs.1 with
  |[v,u],_=>exact⟨v,u,rfl⟩
 obtain⟨rfl,hv2⟩:=(hvs.2 0 v _ rfl rfl).aAQ
 obtain⟨rfl,hu2⟩:=(hvs.2 1 u _ rfl rfl).aAQ
 obtain⟨m,hm⟩:=hG
 refine(hS s sep m w h1 hm h2).mono ?_
 rintro e w' ⟨rfl,rfl⟩
 have hl:(jX s sep).length=Lib.countB s sep+1:=Lib.splitB_all sep h2 0 _ s rfl
 have hn:Lib.countB s sep+1=((jX s sep).map sV).length:=by rw[List.length_map];exact hl.symm
 have hcnt:Lib.countB s sep≤s.size+1:=Lib.count_le s.data.toList sep.data.toList
 have hsz:∀l∈jX s sep,l.size≤s.size:=fun l h=>aA7 sep _ s l h
 refine⟨_,_,rfl,rfl,?_,Ext.alloc w _⟩
 have hget:∀(i j:Nat) (e:List V) (d:V),((jX s sep).map sV)[i]? =some e→e[j]? =some d→∃l,(jX s sep)[i]? =some l∧j=0∧d= .str l:=by
  intro i j e d h3 h4
  rw[List.getElem?_map] at h3
  obtain⟨l,hl,rfl⟩:=Option.map_eq_some_iff.1 h3
  cases j with
  |zero=>exact⟨l,hl,rfl,by simpa[sV] using h4.symm⟩
  |succ j=>simp[sV] at h4
 refine .slice (val:=fun i j=> .string ((jX s sep).getD i ⟨#[]⟩)) hn (by rw[←hn];omega) (Nat.le_refl _) (by unfold maxLen;omega) (fun hxx=>by have:=hX0 _ hxx;simp at this) (by simp)
  (fun e he=>by obtain⟨l,_,rfl⟩:=List.mem_map.1 he;rfl) (fun i j e d h3 h4=> ?_) (fun i j e d h3 h4=> ?_)
 ·obtain⟨l,h5,rfl,rfl⟩:=hget i j e d h3 h4
  rw[fO,Nat.zero_add,Nat.mul_one,Nat.add_zero]
  have h6:(Lib.splitB sep 0 (Lib.countB s sep) s)[i]? =some l:=h5
  rw[World.cell?_alloc_new]
  simp[List.getD,h5,h6]
 ·obtain⟨l,h5,rfl,rfl⟩:=hget i j e d h3 h4
  have:=hsz l (List.mem_of_getElem? h5)
  have e6:(jX s sep).getD i ⟨#[]⟩=l:=by simp[List.getD,h5]
  rw[e6]
  exact .str (by unfold maxLen;omega)
end Go.VK
namespace Go
variable {H:Type} {enc:TypeId×Value→H}
theorem VK.aCG {a:Assume}{C:Checked}{os:Os}{f:FuncId}{fn:Func}{s:ChangeSpec}{conds:List PathCond}{apart fresh handsOn again:Bool}{X:World→Array Value→Prop}
  (hX:∀(w w':World) (args:Array Value),w.heap=w'.heap→X w args→X w' args)
  (own:ownKnob C.prog.godebug=none) (started:os.Started) (noInit:C.prog.inits.idxOf? f=none) (hfn:C.prog.funcs[f]? =some fn)
  (witness:∃(w:World) (tape:Tape) (i:Input),w.os=os∧(w.forCall tape i).Shaped C.prog∧i.vars=[]∧Input.okWide C.prog (w.forCall tape i) .any w.heap.size f i∧
   ((s.pre enc C.prog fn conds apart (w.forCall tape i).memory i.args∧X (w.forCall tape i).memory i.args)∧sizedMet enc C.prog fn (OpenSpec.ofChange s) apart (w.forCall tape i).memory i.args)∧a.holds C.prog (lone (Frame.enter C.prog f i.args .normal) [] (w.forCall tape i)))
  (contract:∀(W:World) (base:Nat) (args:Array Value) (ds gs:List (DataW H)) (before:List MemPlace),
   (∀(j:Nat) t v,fn.params[j]? =some t→args[j]? =some v→Value.okWide C.prog W .any base t v)→
   DataW.Whole enc C.prog fn.params.toList s.vars apart W args.toList ds gs before→
   X W args→W.ShapedOpen C.prog→
   Calls C.prog f args W fun e W'=>∃v,e= .returned v∧s.post enc C.prog fn apart fresh handsOn again W args v W'):
  ReturnsInHanded a C os f .any (fun w args=>(s.pre enc C.prog fn conds apart w args∧X w args)∧sizedMet enc C.prog fn (OpenSpec.ofChange s) apart w args) (s.post enc C.prog fn apart fresh handsOn again):=by
 refine returnsInHanded_of_calls own started noInit witness ?_
 intro w tape i _ hsh _ hok hpre hholds
 obtain⟨_,_,_,fn',hfn',_,_,_,_,hval⟩:=hok
 have e:fn'=fn:=Option.some.inj (hfn'.symm.trans hfn)
 subst e
 obtain⟨⟨⟨ds,gs,before,hw,hc⟩,hx⟩,hz⟩:=hpre
 have hw':=DataW.Whole.of_heap (w':=w.forCall tape i) (by rfl) hw
 refine(contract (w.forCall tape i) w.heap.size i.args ds gs before hval hw' (hX _ _ _ (by rfl) hx) hsh).mono fun e W' ⟨v,he,hp⟩=> ?_
 subst he
 exact ChangeSpec.post_blind hp
end Go

