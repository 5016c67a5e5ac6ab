import Derived.Test.YtlnjelnfjgjanaaGreatEVyltoa
import Derived.Test.YtlnjelnfjgjanaaGreatVKltos
import Derived.Lib.SplitLaws
import Derived.HandedShaped
import Derived.Test.YtlnjelnfjgjanaaGreatEVrptow
/-
  THE EVALUATOR's KIT, twenty-eighth part: functions whose results are fresh. Plain theorems over any program; the conditions stand in each.
-/
set_option linter.unusedVariables false
set_option linter.unusedSimpArgs false
namespace Go.EV
open Go.RowKit Go.VK
variable {U:Uni} {Y:Lay U} {TI:List (Nat×TInfo)} {FZ:List (Nat×Sum U)} {IL:Il} {P:Program} {g:GI} {E:Env U g}
section
variable {s:St U} {a:Act} {w w0:World} {β:List Tr} {C:Cod U}
theorem aWg {m:Mm U}{x:Lf U}{xs:List (Lf U)}{l:List Nat}(h:K3 m (x::xs)=some l):∃l1 l2,l=l1++l2∧K3 m [x]=some l1∧K3 m xs=some l2:=by
 cases x with
 |own i r=>
  simp only[K3] at h ⊢
  cases ho:nth m.o i with
  |none=>rw[ho] at h;cases h
  |some e=>
   obtain⟨ob,rv,cv⟩:=e
   cases ob with
   |tree τ d ll=>
    rw[ho] at h
    simp only at h
    cases hb:(Nat.beq rv r&&d) with
    |false=>rw[hb] at h;cases h
    |true=>
     rw[hb] at h
     simp only[cond_true] at h
     cases hx:K3 m xs with
     |none=>rw[hx] at h;cases h
     |some l2=>
      rw[hx] at h
      have:=Option.some.inj h;subst this
      exact⟨[i],l2,rfl,by simp[hb],rfl⟩
   |_=>rw[ho] at h;cases h
 |sl=>cases h
 |bor=>cases h
 |inn=>cases h
 |_=>exact⟨[],l,rfl,rfl,h⟩
theorem aPo (H:Hp C E s.m β w){kd:Kd}{x y:Lf U}{l:List Nat}{v:Value}(h:K3 s.m [x]=some l)(hr:rdn s.m kd x=some y)(hm:x.mean C w (E.X β) β s.m v)(hK:∀τ,kd= .sl τ→0<U.K τ):Ow C w (fun _=>False) true v y (iY β l):=by
 have hb0:iY β []=[]:=rfl
 have flat:lS x=true→pJ s.m x=some y→l=[]→(∀τ ll,y≠ .sl τ ll)→Ow C w (fun _=>False) true v y (iY β l):=fun hf hr hl hns=>by
  obtain⟨k1,k2⟩:=zY H hm hr (Z:=fun _=>False) (fun _ h=>h.elim) (.inl hf)
  subst hl
  rw[hb0]
  cases y with
  |int k n=>obtain⟨rfl,h1,h2⟩:=k2.aAN;exact .int h1 h2
  |bool b=>obtain rfl:=k2.aAV;exact .bool
  |str z=>obtain⟨rfl,h1⟩:=k2.aAW;exact .str h1
  |sl τ ll=>exact absurd rfl (hns τ ll)
  |_=>cases k1
 cases x with
 |own i r=>
  obtain⟨_,e,t,h2,h3,h4⟩:=hm
  obtain⟨ob,rv,cv⟩:=e
  simp only[K3,aP,h2] at h
  replace hr:pJ s.m (.own i r)=some y:=hr
  simp only[pJ,aP,h2] at hr
  cases ob with
  |tree τ d ll=>
   simp only at h hr
   cases hb:(Nat.beq rv r&&d) with
   |false=>rw[hb] at h;cases h
   |true=>
    rw[hb] at h
    have:=Option.some.inj h;subst this
    simp only[Bool.and_eq_true] at hb
    rw[hb.1] at hr
    have:=Option.some.inj hr;subst this
    have hd:d=true:=hb.2
    subst hd
    rw[h4 (Nat.eq_of_beq_eq_true hb.1)]
    have ho:=(Hp.tree H h3 h2 rfl).conv (X':=fun _=>False) (Nat.le_refl _) (fun _ _ h=>h.elim) (fun _ _ _ h=>h) (fun _ _=>rfl)
    have hbl:iY β [i]=t.all:=by simp[iY,h3]
    rw[hbl];exact ho
  |_=>cases h
 |nil=>
  obtain rfl:=hm
  have:=Option.some.inj h;subst this
  cases kd with
  |sl τ=>
   have:=Option.some.inj (show some (Lf.sl τ [])=some y from hr);subst this
   exact .sl K7 (hK τ rfl) (World.ownsRow_nil w 0 τ (U.K τ)) .n
  |_=>cases hr
 |int k n=>have e:=Option.some.inj (show some (Lf.int k n)=some y from hr);exact flat rfl hr (Option.some.inj h).symm (fun _ _ e'=>by rw[←e] at e';cases e')
 |bool b=>have e:=Option.some.inj (show some (Lf.bool b)=some y from hr);exact flat rfl hr (Option.some.inj h).symm (fun _ _ e'=>by rw[←e] at e';cases e')
 |str b=>have e:=Option.some.inj (show some (Lf.str b)=some y from hr);exact flat rfl hr (Option.some.inj h).symm (fun _ _ e'=>by rw[←e] at e';cases e')
 |nat c=>
  refine flat rfl hr (Option.some.inj h).symm (fun τ ll e'=> ?_)
  subst e'
  replace hr:pJ s.m (.nat c)=some (.sl τ ll):=hr
  simp only[pJ] at hr
  split at hr<;>cases hr
 |lt c n=>
  refine flat rfl hr (Option.some.inj h).symm (fun τ ll e'=> ?_)
  subst e'
  replace hr:pJ s.m (.lt c n)=some (.sl τ ll):=hr
  simp only[pJ] at hr
  split at hr<;>cases hr
 |sl=>cases h
 |bor=>cases h
 |inn=>cases h
 |_=>cases hr
theorem aE8 (H:Hp C E s.m β w):∀(ks:List Kd) {xs ys:List (Lf U)} {l:List Nat} {vs:List Value},rds s.m ks xs=some ys→K3 s.m xs=some l→Ms C w (E.X β) β s.m vs xs→(∀kd∈ks,∀τ,kd= .sl τ→0<U.K τ)→OwL C w (fun _=>False) true vs ys (iY β l)
 |[],[],ys,l,vs,h,hl,hM,_=>by
  have:=Option.some.inj h;subst this
  have:=Option.some.inj hl;subst this
  have:vs=[]:=List.eq_nil_of_length_eq_zero hM.1
  subst this;exact .n
 |[],_::_,_,_,_,h,_,_,_=>by cases h
 |_::_,[],_,_,_,h,_,_,_=>by cases h
 |kd::ks,x::xs,ys,l,vs,h,hl,hM,hK=>by
  obtain⟨y,ys',h1,h2,rfl⟩:=aPb h
  obtain⟨l1,l2,rfl,h3,h4⟩:=aWg hl
  cases vs with
  |nil=>have:=hM.1;simp at this
  |cons v vs=>
   rw[Xk]
   exact .c (aPo H h3 h1 (hM.2 0 v x rfl rfl) (hK kd (by simp))) (aE8 H ks h2 h4 ⟨by have:=hM.1;simpa using this,fun i u c p q=>hM.2 (i+1) u c (by simpa using p) (by simpa using q)⟩ (fun kd' hk=>hK kd' (by simp[hk])))
theorem aUi (hY:LayOk Y)(H:Hp Y.C E s.m β w){kd:Kd}{x:Sv U}{z:kd.ty U}{v:Value}{cs:List (Lf U)}{l:List Nat}(hm:x.mean Y.C w (E.X β) β s.m v)(hp:parts x=some cs)(hl:K3 s.m cs=some l)(h:Hu Y s.m kd x=some z)(hK:∀τ,kd= .sl τ→0<U.K τ):OwP Y.C w v (iY β l) (Wy Y kd z):=by
 have leaf:∀{y:Lf U},x= .l y→(∀T,kd≠ .st T)→(match rdn s.m kd y with|some q=>aBz kd q|none=>none)=some z→OwP Y.C w v (iY β l) (Wy Y kd z):=fun {y} hx hkd h0=>by
  subst hx
  have:=Option.some.inj hp;subst this
  cases hr:rdn s.m kd y with
  |none=>rw[hr] at h0;cases h0
  |some q=>
   rw[hr] at h0
   have hq:=Np (show aBz kd q=some z from h0)
   have ho:=aPo H hl hr hm hK
   rw[hq] at ho
   cases kd with
   |st T=>exact absurd rfl (hkd T)
   |_=>exact⟨_,rfl,ho⟩
 cases kd with
 |st T=>
  cases x with
  |a cs'=>
   have:=Option.some.inj hp;subst this
   have h':(match rds s.m (Y.kd T) cs' with|some ds=>Y.C.bld T ds|none=>none)=some z:=h
   cases hr:rds s.m (Y.kd T) cs' with
   |none=>rw[hr] at h';cases h'
   |some ds=>
    rw[hr] at h'
    obtain⟨vs,rfl,hM⟩:=hm
    have ho:=aE8 H _ hr hl hM (fun kd hk τ e=>hY.pos T τ (e▸hk))
    rw[Y.C.hmk T ds z h'] at ho
    exact⟨vs,rfl,ho⟩
  |l y=>
   have h':(match rdn s.m (Kd.st T) y with|some q=>aBz (Kd.st T) q|none=>none)=some z:=h
   cases hr:rdn s.m (Kd.st T) y with
   |none=>rw[hr] at h';cases h'
   |some q=>rw[hr] at h';cases q<;>cases h'
  |t y=>cases h
 |int k=>cases x with
  |l y=>exact leaf rfl (by simp) h
  |_=>cases h
 |bool=>cases x with
  |l y=>exact leaf rfl (by simp) h
  |_=>cases h
 |str=>cases x with
  |l y=>exact leaf rfl (by simp) h
  |_=>cases h
 |sl τ=>cases x with
  |l y=>exact leaf rfl (by simp) h
  |_=>cases h
theorem aZ2 (hY:LayOk Y)(H:Hp Y.C E s.m β w)(ks:List Kd):∀{xs:List (Sv U)} {z:qJ U ks} {vs:List Value} {l:List Nat},kK Y s.m ks xs=some z→aVq s.m xs=some l→vs.length=xs.length→(∀(i:Nat) (v:Value) (x:Sv U),vs[i]? =some v→xs[i]? =some x→x.mean Y.C w (E.X β) β s.m v)→(∀kd∈ks,∀τ,kd= .sl τ→0<U.K τ)→OwPs Y.C w vs (bS Y ks z) (iY β l):=by
 induction ks with
 |nil=>
  intro xs z vs l h hl hlen hm hK
  cases xs with
  |nil=>
   have:=Option.some.inj hl;subst this
   have:vs=[]:=List.eq_nil_of_length_eq_zero hlen
   subst this;exact .n
  |cons=>cases h
 |cons k ks ih=>
  intro xs z vs l h hl hlen hm hK
  cases xs with
  |nil=>cases ks<;>cases h
  |cons x xs=>
   cases vs with
   |nil=>simp at hlen
   |cons v vs=>
    simp only[aVq] at hl
    cases hp:parts x with
    |none=>rw[hp] at hl;cases hl
    |some cs=>
     rw[hp] at hl
     simp only at hl
     cases h1:K3 s.m cs with
     |none=>rw[h1] at hl;cases hl
     |some l1=>
      cases h2:aVq s.m xs with
      |none=>rw[h1,h2] at hl;cases hl
      |some l2=>
       rw[h1,h2] at hl
       have:=Option.some.inj hl;subst this
       rw[Xk]
       cases ks with
       |nil=>
        cases xs with
        |cons x' xs=>cases h
        |nil=>
         have hvs:vs=[]:=List.eq_nil_of_length_eq_zero (by simpa using hlen)
         subst hvs
         have:=Option.some.inj h2;subst this
         exact .c (aUi hY H (hm 0 v x rfl rfl) hp h1 (show Hu Y s.m k x=some z from h) (hK k (by simp))) .n
       |cons k' ks'=>
        replace h:(match Hu Y s.m k x with|some a=>(match kK Y s.m (k'::ks') xs with|some b=>some (a,b)|none=>none)|none=>none)=some (show k.ty U×qJ U (k'::ks') from z):=h
        cases g1:Hu Y s.m k x with
        |none=>rw[g1] at h;cases h
        |some z1=>
         cases g2:kK Y s.m (k'::ks') xs with
         |none=>rw[g1,g2] at h;cases h
         |some z2=>
          rw[g1,g2] at h
          have:=Option.some.inj h;subst this
          exact .c (aUi hY H (hm 0 v x rfl rfl) hp h1 g1 (hK k (by simp))) (ih g2 h2 (by simpa using hlen) (fun i u c p q=>hm (i+1) u c (by simpa using p) (by simpa using q)) (fun kd hk=>hK kd (by simp[hk])))
theorem aWh (G:Good P g Y TI FZ)(r:aZ Y.C E s a w β)(hEY:∀b,¬E.Y0 b){fn:Func}{l:List ResultVar}(hf:fn.results=l.toArray){ks:List Kd}{z:qJ U ks}(h:fin Y TI true ks l s=some z):∃v B,(results fn a.tmps).run P w= .ok v w∧B.Nodup∧(∀b∈B,E.w0.heap.size≤b)∧OwR Y.C w v (bS Y ks z) B:=by
 unfold fin at h
 cases h1:Rf TI s l with
 |none=>rw[h1] at h;cases h
 |some xs=>
  rw[h1] at h
  simp only[cond_true] at h
  cases h2:aVq s.m xs with
  |none=>rw[h2] at h;cases h
  |some ids=>
   rw[h2] at h
   simp only at h
   cases hb:(dist ids&&aEh (U:=U) ks) with
   |false=>rw[hb] at h;cases h
   |true=>
    rw[hb] at h
    simp only[cond_true] at h
    simp only[Bool.and_eq_true] at hb
    obtain⟨vs,k1,k2,k3⟩:=vN G.ti r h1
    have ho:=aZ2 G.lay r.hp ks h h2 k2 k3 (Tf hb.2)
    refine⟨_,iY β ids,xM hf k1,aNe r.hp (vK.1 hb.1),fun b hbb=> ?_,?_⟩
    ·obtain⟨j,_,u,hu,hub⟩:=uQ hbb
     exact(r.hp.new j u b hu hub).1.resolve_right (hEY b)
    ·generalize bS Y ks z=cps at ho ⊢
     generalize iY β ids=B0 at ho ⊢
     clear h k1 k3 h2 h1 k2
     cases ho with
     |n=>exact⟨[],rfl, .n⟩
     | @c v x B B' vs xs' hv hr=>
      cases hr with
      |n=>rw[List.append_nil];exact hv
      | @c v2 x2 B2 B3 vs2 xs2 hv2 hr2=>
       rw[dif_neg (by simp)]
       exact⟨_,rfl, .c hv (.c hv2 hr2)⟩
end
theorem aWi (G:Good P g Y TI FZ)(hm:P.follows .mixedOrders=true)(hI:pQ P IL){f:FuncId}{fn:Func}{cd:Code}{n:Nat}{l:List ResultVar}{ar rs:List Kd}{an:An}{z:qJ U ar}{q:qJ U rs}(hf:P.funcs[f]? =some fn)(hb:fn.body=some cd)(hn:fn.ntmps=n)(hl:fn.results=l.toArray)
  (hE:∀args w,(callFunc f args).run P w= .ok (.enter f args) w) (hlen:(bS Y ar z).length≤n) (h:evF Y TI FZ IL an cd n ar rs true l z=some q):bE0 P g Y.C f ((bS Y ar z).map Ac) (bS Y rs q):=by
 refine⟨hE,fun w X0 vs hG hX0 hvs=>calls_of_wp hf hb ?_⟩
 let E:Env U g:=⟨X0,fun _=>False,w,[],[],fun b h=> .inl (hX0 b h),fun _ h=>h.elim,fun _ _ h=>h,fun w' hw=>g.st w w' hG (hw.ext fun _ h=>h),[]⟩
 have r0:=aLw (Y:=Y) hG hX0 hvs hlen E rfl (fun _ h=>h) rfl rfl rfl rfl
 have done:∀s' a' w' β',fin Y TI true rs l s'=some q→aZ Y.C E s' a' w' β'→a'.defers=[]∧∃v,(results fn a'.tmps).run P w'= .ok v w'∧(∃v' B,Ending.returned v= .returned v'∧Ext w w'∧B.Nodup∧(∀b∈B,w.heap.size≤b)∧OwR Y.C w' v' (bS Y rs q) B):=fun s' a' w' β' hq r=>by
  obtain⟨v,B,k1,k2,k3,k4⟩:=aWh G r (fun _ h=>h) hl hq
  exact⟨r.defers,v,k1,v,B,rfl,r.hp.ext.ext fun _ h=>h,k2,k3,k4⟩
 rw[hn]
 exact aE3 (Tj G hm hI) 1000 E rfl rfl an cd _ _ _ _ _ q (fun _=>True) (WC.true cd) (AW.true an) h _ (fun s' a' w' β' _ hq r=>done s' a' w' β' hq r) (fun i s' a' w' β' _ hq r=>by cases hq) (fun s' a' w' β' _ hq r=>done s' a' w' β' hq r) _ _ _ r0
theorem Nr:∀(ks:List Kd) (z:qJ U ks),(bS Y ks z).length=ks.length
 |[],_=>rfl
 |[k],_=>rfl
 |k::k'::ks,z=>by
  show(bS Y (k'::ks) z.2).length+1=_
  rw[Nr (k'::ks)];rfl
theorem aLx {f:FuncId}{S:Sum U}(h:Er P g Y f S)(G:Good P g Y TI FZ):Good P g Y TI ((f,S)::FZ):=⟨G.ti,G.lay,fun f' S' hm=>by
 rcases List.mem_cons.1 hm with e|e
 ·injection e with e1 e2;subst e1;subst e2;exact h
 ·exact G.fs f' S' e⟩
theorem bGk (G:Good P g Y TI FZ)(hm:P.follows .mixedOrders=true)(hI:pQ P IL){f:FuncId}{fn:Func}{cd:Code}{n:Nat}{l:List ResultVar}{S:Sum U}{an:qJ U S.ar→An}(hf:P.funcs[f]? =some fn)(hb:fn.body=some cd)(hn:fn.ntmps=n)(hl:fn.results=l.toArray)
  (hE:∀args w,(callFunc f args).run P w= .ok (.enter f args) w) (hlen:S.ar.length≤n) (hwt:S.wt=false) (h:∀a r,S.m a=some r→evF Y TI FZ IL (an a) cd n S.ar S.rs S.fr l a=some r):Er P g Y f S:=fun a r hr=>by
 have h':=h a r hr
 refine⟨fun _ hfr=> ?_,fun _ hfr=> ?_,fun hh=>(by rw[hwt] at hh;cases hh),fun hh=>(by rw[hwt] at hh;cases hh)⟩
 ·rw[hfr] at h'
  exact aZ1 G hm hI hf hb hn hl hE (by rw[Nr];exact hlen) h'
 ·rw[hfr] at h'
  exact aWi G hm hI hf hb hn hl hE (by rw[Nr];exact hlen) h'
end Go.EV

namespace Go.EV
open Go.RowKit Go.VK
variable {U:Uni} {Y:Lay U} {TI:List (Nat×TInfo)} {FZ:List (Nat×Sum U)} {IL:Il} {P:Program} {g:GI} {E:Env U g}
section
variable {s:St U} {a:Act} {w w0:World} {β:List Tr} {C:Cod U}
theorem OwP.lt {v:Value}{B:List Nat}{x:Bool×List (Lf U)}(h:OwP C w v B x):∀b∈B,b<w.heap.size:=by
 obtain⟨b,cs⟩:=x
 cases b with
 |true=>obtain⟨vs,_,h⟩:=h;exact h.lt
 |false=>obtain⟨c,_,h⟩:=h;exact h.lt
end
end Go.EV
namespace Go.VK
theorem aF {α:Type}{c:Prop}[Decidable c]{x y:Option α}{r:α}(h:c→y=x)(hr:gd c x=some r):y=some r:=by
 unfold gd at hr
 split at hr
 ·rename_i hc;rw[h hc];exact hr
 ·cases hr
end Go.VK

namespace Go.VK
open EV (bT)
section
variable {α β σ τ:Type}
theorem aZ3 {S:Type}{F:(S→Option τ)→S→Option τ}(V:Nat→S→Prop)(N:Nat)(R:Option τ)
  (step:∀i s rec,i<N→V i s→(∃s',V (i+1) s'∧F rec s=rec s')∨F rec s=R) (last:∀s rec,V N s→F rec s=R):∀(k i n:Nat) (s:S),i+k=N→k<n→V i s→bT n F s=R
 |0,i,n+1,s,hk,hn,h=>by
  have:i=N:=by omega
  subst this
  exact last s _ h
 |k+1,i,n+1,s,hk,hn,h=>by
  rcases step i s (bT n F) (by omega) h with⟨s',h1,h2⟩|h2
  ·exact h2.trans (aZ3 V N R step last k (i+1) n s' (by omega) (by omega) h1)
  ·exact h2
theorem Om {S:Type}{F:(S→Option τ)→S→Option τ}(V:Nat→S→Prop)(N:Nat)(R:Option τ){s:S}(hN:N≤18446744073709551616)(h0:V 0 s)
  (step:∀i s rec,i<N→V i s→(∃s',V (i+1) s'∧F rec s=rec s')∨F rec s=R) (last:∀s rec,V N s→F rec s=R):bT FUEL F s=R:=
 aZ3 V N R step last N 0 FUEL s (by omega) (by have:=gY;omega) h0
theorem dQ {i n:Nat}(h:i<n):decide ((i:Int)<(n:Int))=true:=by simpa using h
theorem dS {n:Nat}:decide ((n:Int)<(n:Int))=false:=by simp
theorem set_mid {l r:List β}{i:Nat}{d x:β}(h:l.length=i):(l++d::r).set i x=(l++[x])++r:=by
 subst h
 rw[List.set_append_right _ _ (Nat.le_refl _)]
 simp
def szP (left:Int):Prop:=0≤left∧left≤1048576
instance (left:Int):Decidable (szP left):=inferInstanceAs (Decidable (_∧_))
theorem bC8 {i:Nat}:((i:Nat):Int).toNat=i:=Int.toNat_natCast i
def MkP (s c:Nat)(k:Int):Prop:=s≤1152921504606846976∧0≤k∧k+c≤4611686018427387904
instance (s c:Nat) (k:Int):Decidable (MkP s c k):=inferInstanceAs (Decidable (_∧_))
end
end Go.VK
namespace Go.VK
open EV (bT)
section
variable {α β σ τ:Type}
def okL (p:α→Prop)(l:List α):Prop:=l.length≤9223372036854775807∧∀y∈l,p y
def okS (s:ByteArray):Prop:=s.size≤9223372036854775807
theorem mR {f:α→Nat}{l:List α}{i:Nat}(hi:i<l.length):f l[i]≤(l.map f).sum:=by
 have:f l[i]∈l.map f:=List.mem_map.2 ⟨_,List.getElem_mem hi,rfl⟩
 induction l generalizing i with
 |nil=>simp at hi
 |cons x l ih=>
  cases i with
  |zero=>simp
  |succ i=>
   have h':i<l.length:=by simpa using hi
   have:=ih h' (List.mem_map.2 ⟨_,List.getElem_mem h',rfl⟩)
   simp only[List.map_cons,List.sum_cons,List.getElem_cons_succ];omega
end
end Go.VK
namespace Go.VK
end Go.VK
namespace Go.VK
open EV (bT)
section
variable {α β σ τ:Type}
theorem mU {l:List α}(p:α→Bool)(a b:τ){F:(Nat→Option τ)→Nat→Option τ}(hl:l.length≤18446744073709551616)
  (hF:∀rec i (hi:i<l.length),F rec i=bif p l[i] then some a else rec (i+1)) (hE:∀rec,F rec l.length=some b):bT FUEL F 0=some (bif l.any p then a else b):=by
 have key:∀i (hi:i<l.length),p l[i]=true→l.any p=true:=fun i hi h=>List.any_eq_true.2 ⟨_,List.getElem_mem hi,h⟩
 refine Om (fun i s=>i≤l.length∧s=i∧(l.take i).any p=false) l.length _ hl ⟨Nat.zero_le _,rfl,rfl⟩ (fun i s rec hi hv=> ?_) (fun s rec hv=> ?_)
 ·obtain⟨_,rfl,h3⟩:=hv
  rw[hF rec s hi]
  cases hp:p l[s] with
  |true=>exact .inr (by rw[key s hi hp];rfl)
  |false=>exact .inl ⟨_,⟨hi,rfl,by rw[List.take_add_one,List.getElem?_eq_getElem hi,List.any_append,h3];simp[hp]⟩,rfl⟩
 ·obtain⟨_,rfl,h3⟩:=hv
  rw[List.take_length] at h3
  rw[hE,h3];rfl
theorem kU {l:List α}(p:Nat→α→Bool)(a b:τ){F:(Nat→Option τ)→Nat→Option τ}(hl:l.length≤18446744073709551616)
  (hF:∀rec i (hi:i<l.length),F rec i=bif p i l[i] then some a else rec (i+1)) (hE:∀rec,F rec l.length=some b):bT FUEL F 0=some (bif gB p 0 l then a else b):=by
 have key:∀(l:List α) (j:Nat),gB p j l=true↔∃(i:Nat) (hi:i<l.length),p (j+i) l[i]=true:=by
  intro l
  induction l with
  |nil=>intro j;simp[gB]
  |cons x xs ih=>
   intro j
   simp only[gB,Bool.or_eq_true,ih]
   constructor
   ·rintro(h|⟨i,hi,h⟩)
    ·exact⟨0,by simp,h⟩
    ·exact⟨i+1,by simpa using hi,by rw[show j+(i+1)=j+1+i by omega];exact h⟩
   ·rintro⟨i,hi,h⟩
    cases i with
    |zero=>exact .inl h
    |succ i=>exact .inr ⟨i,by simpa using hi,by rw[show j+1+i=j+(i+1) by omega];exact h⟩
 refine Om (fun i s=>i≤l.length∧s=i∧∀(j:Nat) (hj:j<l.length),j<i→p j l[j]=false) l.length _ hl ⟨Nat.zero_le _,rfl,fun j _ h=>by omega⟩ (fun i s rec hi hv=> ?_) (fun s rec hv=> ?_)
 ·obtain⟨_,rfl,h3⟩:=hv
  rw[hF rec s hi]
  cases hp:p s l[s] with
  |true=>exact .inr (by rw[(key l 0).2 ⟨s,hi,by rw[Nat.zero_add];exact hp⟩];rfl)
  |false=>
   refine .inl ⟨_,⟨hi,rfl,fun j hj h=> ?_⟩,rfl⟩
   rcases Nat.lt_or_ge j s with h'|h'
   ·exact h3 j hj h'
   ·have:j=s:=by omega
    subst this;exact hp
 ·obtain⟨_,rfl,h3⟩:=hv
  have:gB p 0 l=false:=by
   cases h:gB p 0 l with
   |false=>rfl
   |true=>
    obtain⟨i,hi,hp⟩:=(key l 0).1 h
    rw[Nat.zero_add,h3 i hi hi] at hp;cases hp
  rw[hE,this];rfl
theorem Xw {l:List α}(p:α→Bool){F:(Nat→Option (Int⊕PUnit))→Nat→Option (Int⊕PUnit)}(hl:l.length≤18446744073709551616)
  (hF:∀rec i (hi:i<l.length),F rec i=bif p l[i] then some (.inl (i:Int)) else rec (i+1)) (hE:∀rec,F rec l.length=some (.inr ())):nx (bT FUEL F 0) (fun _=>some (-1:Int))=some (gP p 0 l):=by
 have go:∀(k i n:Nat),i+k=l.length→k<n→nx (bT n F i) (fun _=>some (-1:Int))=some (gP p i (l.drop i)):=by
  intro k
  induction k with
  |zero=>
   intro i n hk hn
   obtain⟨n,rfl⟩:∃m,n=m+1:=⟨n-1,by omega⟩
   have:i=l.length:=by omega
   subst this
   rw[show bT (n+1) F l.length=F (bT n F) l.length from rfl,hE,List.drop_length];rfl
  |succ k ih=>
   intro i n hk hn
   obtain⟨n,rfl⟩:∃m,n=m+1:=⟨n-1,by omega⟩
   have hi:i<l.length:=by omega
   rw[show bT (n+1) F i=F (bT n F) i from rfl,hF _ i hi,List.drop_eq_getElem_cons hi,gP]
   cases p l[i] with
   |true=>rfl
   |false=>exact ih (i+1) n (by omega) (by omega)
 exact go l.length 0 FUEL (by omega) (by have:=gY;omega)
theorem fD {l:List α}(g:σ→α→σ)(Inv:Nat→σ→Prop)(fin:σ→Option τ){s0:σ}{F:(σ×Nat→Option τ)→σ×Nat→Option τ}(hl:l.length≤18446744073709551616)(h0:Inv 0 s0)
  (hI:∀i s (hi:i<l.length),Inv i s→Inv (i+1) (g s l[i])) (hF:∀rec i s (hi:i<l.length),Inv i s→F rec (s,i)=rec (g s l[i],i+1)) (hE:∀rec s,Inv l.length s→F rec (s,l.length)=fin s):bT FUEL F (s0,0)=fin (l.foldl g s0):=by
 refine Om (fun i s=>i≤l.length∧s=((l.take i).foldl g s0,i)∧Inv i s.1) l.length _ hl ⟨Nat.zero_le _,rfl,h0⟩ (fun i s rec hi hv=> ?_) (fun s rec hv=> ?_)
 ·obtain⟨_,rfl,h3⟩:=hv
  have e:(l.take (i+1)).foldl g s0=g ((l.take i).foldl g s0) l[i]:=by rw[List.take_add_one,List.getElem?_eq_getElem hi,List.foldl_append];rfl
  refine .inl ⟨_,⟨hi,rfl,by rw[e];exact hI i _ hi h3⟩,?_⟩
  rw[hF rec i _ hi h3,e]
 ·obtain⟨_,rfl,h3⟩:=hv
  rw[hE rec _ h3,List.take_length]
theorem aLz {l:List α}(g:σ→α→σ)(Inv:Nat→σ→Prop)(fin:σ→Option τ){s0:σ}{F:(Nat×σ→Option τ)→Nat×σ→Option τ}(hl:l.length≤18446744073709551616)(h0:Inv 0 s0)
  (hI:∀i s (hi:i<l.length),Inv i s→Inv (i+1) (g s l[i])) (hF:∀rec i s (hi:i<l.length),Inv i s→F rec (i,s)=rec (i+1,g s l[i])) (hE:∀rec s,Inv l.length s→F rec (l.length,s)=fin s):bT FUEL F (0,s0)=fin (l.foldl g s0):=by
 refine Om (fun i s=>i≤l.length∧s=(i,(l.take i).foldl g s0)∧Inv i s.2) l.length _ hl ⟨Nat.zero_le _,rfl,h0⟩ (fun i s rec hi hv=> ?_) (fun s rec hv=> ?_)
 ·obtain⟨_,rfl,h3⟩:=hv
  have e:(l.take (i+1)).foldl g s0=g ((l.take i).foldl g s0) l[i]:=by rw[List.take_add_one,List.getElem?_eq_getElem hi,List.foldl_append];rfl
  refine .inl ⟨_,⟨hi,rfl,by rw[e];exact hI i _ hi h3⟩,?_⟩
  rw[hF rec i _ hi h3,e]
 ·obtain⟨_,rfl,h3⟩:=hv
  rw[hE rec _ h3,List.take_length]
theorem Ns {f:α→List β}:∀{l:List α} {s:List β},l.foldl (fun s x=>s++f x) s=s++(l.map f).flatten
 |[],s=>by simp
 |x::l,s=>by simp only[List.foldl_cons,Ns (l:=l),List.map_cons,List.flatten_cons,List.append_assoc]
theorem Nt {f:α→β}:∀{l:List α} {s:List β},l.foldl (fun s x=>s++[f x]) s=s++l.map f
 |[],s=>by simp
 |x::l,s=>by simp only[List.foldl_cons,Nt (l:=l),List.map_cons,List.append_assoc,List.singleton_append]
end
end Go.VK

namespace Go.VK
def RdA (w:World)(X:Nat→Prop):List V→Prop
 |[]=>True
 |c::cs=>(∃v,Rd w X [] v c)∧RdA w X cs
section
variable {w:World} {X:Nat→Prop}
theorem RdA.of:∀{cs:List V},(∀(i:Nat) (c:V),cs[i]? =some c→∃v,Rd w X [] v c)→RdA w X cs
 |[],_=>trivial
 |c::cs,h=>⟨h 0 c rfl,RdA.of fun i d hd=>h (i+1) d (by simpa using hd)⟩
theorem RdA.ofL {vs:List Value}{Us:List V}(h:RdL w X vs Us):RdA w X Us:=RdA.of fun i c hc=>by
 have hi:i<vs.length:=by
  rw[h.1]
  exact(List.getElem?_eq_some_iff.1 hc).1
 exact⟨vs[i],h.2 i vs[i] c (List.getElem?_eq_getElem hi) hc⟩
theorem bGl {n:Int}(h:∃v,Rd w X [] v (.int .u8 n)):0≤n∧n≤255:=by
 obtain⟨v,h⟩:=h
 cases h with|int h1 h2=>exact⟨h1,h2⟩
theorem bGm {α:Type}{k:Nat}{enc:α→List V}{l:List α}{p:α→Prop}(h:∃v,Rd w X [] v (.slice k (l.map enc)))(hp:∀y,RdA w X (enc y)→p y):okL p l:=by
 obtain⟨v,h⟩:=h
 refine⟨?_,fun y hy=>hp y ?_⟩
 ·obtain⟨A,c,rfl,h1,h2⟩:=h.aBD
  rw[List.length_map] at h1
  exact Nat.le_trans h1 h2
 ·obtain⟨i,hi,rfl⟩:=List.mem_iff_getElem.1 hy
  generalize he:l.map enc=es at h
  cases h with
  |slice0 h=>simp at he;subst he;simp at hi
  |slice hn hpos hc hm hX hb hk hcell hrd=>
   exact RdA.of fun j d hd=>⟨_,hrd i j (enc l[i]) d (by rw[←he,List.getElem?_map,List.getElem?_eq_getElem hi];rfl) hd⟩
end
theorem bC9 {P:Program}{g:GI}{f:FuncId}{Us:List V}{R:V→Prop}{p:Prop}(he:∀args w,(callFunc f args).run P w= .ok (.enter f args) w)(h:p→Spec P g f Us R)(hp:∀w X,RdA w X Us→p):Spec P g f Us R:=
 ⟨he,fun w X vs hg hX hR=>(h (hp w X (RdA.ofL hR))).2 w X vs hg hX hR⟩
end Go.VK

namespace Go.VK
end Go.VK
namespace Go
variable {H:Type} {enc:TypeId×Value→H}
end Go


namespace Go.EV
open Go.RowKit Go.VK
variable {U:Uni} {Y:Lay U} {TI:List (Nat×TInfo)} {FZ:List (Nat×Sum U)} {IL:Il} {P:Program} {g:GI} {E:Env U g}
section
variable {s:St U} {a:Act} {w w0:World} {β:List Tr} {C:Cod U}
theorem aL0 {x:Lf U}(h:aYu x=true):∀i,bF1 x=some i→1≤i:=fun i hi=>by
 cases x<;>simp only[bF1,reduceCtorEq,Option.some.injEq] at hi<;>(subst hi;exact Nat.le_of_ble_eq_true h)
theorem Tn:∀{xs:List (Lf U)},aKx xs=true→∀x∈xs,aYu x=true
 |[],_,x,hx=>by simp at hx
 |y::ys,h,x,hx=>by
  simp only[aKx,Bool.and_eq_true] at h
  rcases List.mem_cons.1 hx with rfl|hx
  ·exact h.1
  ·exact Tn h.2 x hx
theorem aE9:∀{xs:List (Sv U)},aOs xs=true→∀x∈xs,∀c∈aB6 x,aYu c=true
 |[],_,x,hx=>by simp at hx
 |y::ys,h,x,hx=>by
  simp only[aOs,Bool.and_eq_true] at h
  rcases List.mem_cons.1 hx with rfl|hx
  ·cases x with
   |l z=>intro c hc;simp only[aB6,List.mem_singleton] at hc;subst hc;exact h.1
   |a cs=>exact Tn h.1
   |t xs=>intro c hc;simp[aB6] at hc
  ·exact aE9 h.2 x hx
theorem bDa {X:Nat→Prop}{vs:List Value}{Us:List V}(h:RdL w X vs Us):Rd w X [] (if h:vs.length=1 then vs[0] else .tuple vs.toArray) (nU Us):=by
 obtain⟨h2,h3⟩:=h
 match Us,vs,h2,h3 with
 |[U],[v],_,h3=>exact h3 0 v U rfl rfl
 |[],[],_,_=>exact .tup rfl (by simp)
 |U::U'::Us,v::v'::vs,h2,h3=>
  rw[dif_neg (by simp)]
  exact .tup (by simpa using h2) (fun i v c h5 h6=>h3 i v c (by simpa using h5) h6)
theorem aWj (G:Good P g Y TI FZ)(hm:P.follows .mixedOrders=true)(hI:pQ P IL){f:FuncId}{fn:Func}{cd:Code}{n T:Nat}{l:List ResultVar}{ks rs:List Kd}{an:An}{z:qJ U (.st T::ks)}{q:qJ U (.st T::rs)}{cs ds:List (Lf U)}{us rs':List (Bool×List (Lf U))}(hf:P.funcs[f]? =some fn)(hb:fn.body=some cd)(hn:fn.ntmps=n)(hl:fn.results=l.toArray)
  (hE:∀args w,(callFunc f args).run P w= .ok (.enter f args) w) (hz:bS Y (.st T::ks) z=(true,cs)::us) (hq:bS Y (.st T::rs) q=(true,ds)::rs') (hlen:us.length+1≤n) (h:evP Y TI FZ IL an cd n T ks rs l z=some q):bE1 P g f T (cs.map Lf.toV) (ds.map Lf.toV) (us.map Ac) (nU (rs'.map Ac)):=by
 refine⟨hE,fun w X b ws vs hG hX hXb hw hws hvs=>calls_of_wp hf hb ?_⟩
 have hbl:b<w.heap.size:=(Array.getElem?_eq_some_iff.1 hw).1
 let E:Env U g:=⟨fun x=>X x∧x≠b,(·=b),w,[],[],fun x h=> .inl (hX x h.1),fun x h=>by rw[h];exact hbl,fun x h e=>h.2 e,hG,[(.l (.box 0 0), .pointer (some ⟨b,0,none⟩))]⟩
 let t0:Tr:=⟨some b,0,0,[]⟩
 have hall:t0.all=[b]:=rfl
 have hXE:∀x,E.X [t0] x→X x:=fun x hx=>by
  rcases hx with h|h|⟨t,ht,h⟩
  ·exact h.1
  ·have:x=b:=h
   rw[this];exact hXb
  ·simp at ht;subst ht;rw[hall] at h;simp at h;rw[h];exact hXb
 have hCs:=Ae (Y:=Y) (.st T::ks) z
 rw[hz] at hCs
 let m0:Mm U:=⟨[⟨.box T cs (cs.map fun _=>0),0,0⟩],0,[]⟩
 have h0:∀{i:Nat} {t:Tr},[t0][i]? =some t→i=0∧t=t0:=fun {i t} h=>by
  cases i with
  |zero=>simp at h;exact⟨rfl,h.symm⟩
  |succ i=>simp at h
 have Hh:Hp Y.C E m0 [t0] w:=by
  refine⟨Bel.refl _,rfl,fun i e he=> ?_,fun a i h=>by simp[m0] at h,fun i t x ht hx=> ?_,fun i j t u x hij ht hu hx hxu=> ?_,fun i t ht=> ?_,fun i t e ht he=> ?_,fun x hx=> ?_,fun x hx=>by simp[E] at hx,fun f hf=>by simp[E] at hf⟩
  ·cases i with
   |zero=>simp[m0] at he;subst he;exact⟨Nat.le_refl _,Nat.le_refl _⟩
   |succ i=>simp[m0] at he
  ·obtain⟨_,rfl⟩:=h0 ht
   rw[hall] at hx;simp at hx;subst hx
   exact⟨.inr rfl,hbl⟩
  ·exact absurd ((h0 ht).1.trans (h0 hu).1.symm) hij
  ·obtain⟨_,rfl⟩:=h0 ht
   rw[hall];simp
  ·obtain⟨rfl,rfl⟩:=h0 ht
   simp[m0] at he;subst he
   refine⟨by simp,b,ws,rfl,rfl,hw,by have:=hws.1;simpa using this,fun j v c p q'=> ?_⟩
   have hcd:c.aAZ=true:=(hCs (true,cs) (by simp)).1 c (List.mem_of_getElem? q')
   exact Ad hcd (hws.2 j v _ p (by rw[List.getElem?_map,q'];rfl)) (.inl hXE)
  ·simp[E] at hx;subst hx
   exact⟨rfl,_,t0,rfl,rfl,fun _=>⟨b,rfl,rfl⟩⟩
 have hvl:vs.length=us.length:=by have:=hvs.1;simpa using this
 have hini:bCp Y n T ks z=⟨(Sv.l (.box 0 0)::us.map aRh)++List.replicate (n-(us.length+1)) (.l .any),m0,[]⟩:=by
  simp only[bCp,hz,bC,List.length_cons,List.length_map];rfl
 have r0:aZ Y.C E (bCp Y n T ks z) {tmps:=(.pointer (some ⟨b,0,none⟩)::vs).toArray++Array.replicate (n-(.pointer (some ⟨b,0,none⟩)::vs).toArray.size) undef,defers:=[]} w [t0]:=by
  rw[hini]
  refine⟨Hh,rfl,by simp[hvl];omega,fun m x hx=> ?_⟩
  have hget:∀(v:Value),(Value.pointer (some ⟨b,0,none⟩)::vs)[m]? =some v→((Value.pointer (some ⟨b,0,none⟩)::vs).toArray++Array.replicate (n-(Value.pointer (some ⟨b,0,none⟩)::vs).toArray.size) undef).getD m undef=v:=fun v hv=>by
   have hlt:=lt_of_some hv
   rw[Array.getD_eq_getD_getElem?,Array.getElem?_append_left (by simpa using hlt)]
   simp only[List.getElem?_toArray,hv,Option.getD_some]
  by_cases hlt:m<us.length+1
  ·simp only at hx
   rw[List.getElem?_append_left (by simpa using hlt)] at hx
   cases m with
   |zero=>
    simp at hx;subst hx
    rw[hget (.pointer (some ⟨b,0,none⟩)) rfl]
    exact⟨rfl,_,t0,rfl,rfl,fun _=>⟨b,rfl,rfl⟩⟩
   |succ m=>
    rw[List.getElem?_cons_succ,List.getElem?_map] at hx
    cases hc:us[m]? with
    |none=>rw[hc] at hx;cases hx
    |some c=>
     rw[hc] at hx
     have:=Option.some.inj hx;subst this
     have hml:m<vs.length:=by rw[hvl];exact lt_of_some hc
     rw[hget vs[m] (by rw[List.getElem?_cons_succ];exact List.getElem?_eq_getElem hml)]
     exact qK (Xl (hCs c (by have:=List.mem_of_getElem? hc;simp[this])) (hvs.2 m _ _ (List.getElem?_eq_getElem hml) (by rw[List.getElem?_map,hc];rfl)) (.inl hXE))
  ·simp only at hx
   rw[List.getElem?_append_right (by simp;omega)] at hx
   have:=List.mem_of_getElem? hx
   simp at this
   rw[this.2];trivial
 have done:∀s' a' w' β',bCq Y TI T rs l s'=some q→aZ Y.C E s' a' w' β'→a'.defers=[]∧∃v,(results fn a'.tmps).run P w'= .ok v w'∧(∃v' ws',Ending.returned v= .returned v'∧Bel (·=b) w w'∧w'.heap[b]? =some (.cells ws'.toArray T (0,0))∧RdL w' X ws' (ds.map Lf.toV)∧Rd w' X [] v' (nU (rs'.map Ac))):=fun s' a' w' β' hfin r=>by
  unfold bCq at hfin
  split at hfin
  ·rename_i T' cs' us' rv cv ho
   rw[aP] at ho
   split at hfin
   ·rename_i xs hres
    cases hc:(Nat.beq T' T&&(aKx cs'&&aOs xs)) with
    |false=>rw[hc] at hfin;cases hfin
    |true=>
     rw[hc] at hfin
     simp only[cond_true] at hfin
     simp only[Bool.and_eq_true] at hc
     obtain⟨hT,hn1,hn2⟩:=hc
     have hT:=Nat.eq_of_beq_eq_true hT
     subst hT
     obtain⟨rvs,k1,k2,k3⟩:=vN G.ti r hres
     obtain⟨_,e',t',g1,g2,g3⟩:=r.hp.pin _ (List.mem_singleton.2 rfl)
     rw[ho] at g1;injection g1 with g1;subst g1
     obtain⟨b',g4,g5⟩:=g3 rfl
     have:b'=b:=by injection g5 with g5;injection g5 with g5;injection g5 with g5;exact g5.symm
     subst this
     obtain⟨_,b2,ws',e1,e2,e3,e4⟩:=r.hp.ok 0 t' _ g2 ho
     rw[g4] at e1;injection e1 with e1;subst e1
     have hbt:b'∈t'.all:=Tr.root g4
     have hrd:=Ib r (Z:=X) (fun x hx=>by
      by_cases hxb:x=b'
      ·exact .inr (.inl hxb)
      ·exact .inl ⟨hx,hxb⟩) _ hfin (vs:= .agg ws'.toArray::rvs) (by simp[k2]) (fun j v x p q'=>by
       cases j with
       |zero=>simp at p q';subst p;subst q';exact⟨ws',rfl,e4⟩
       |succ j=>exact k3 j v x (by simpa using p) (by simpa using q')) (fun x hx c hc' i t x' hi ht hxt hX'=>by
       have h1:1≤i:=by
        rcases List.mem_cons.1 hx with rfl|hx
        ·exact aL0 (Tn hn1 c hc') i hi
        ·exact aL0 (aE9 hn2 x hx c hc') i hi
       by_cases hxb:x'=b'
       ·subst hxb
        exact r.hp.dist 0 i t' t x' (by omega) g2 ht hbt hxt
       ·exact aDn r i t x' ht hxt ⟨hX',hxb⟩)
     rw[hq,List.map_cons] at hrd
     obtain⟨_,_,he,hr1,hr2⟩:=RdL.cons_inv hrd
     injection he with he1 he2
     subst he1;subst he2
     have hr1:=RdL.agg (show Rd w' X [] (.agg ws'.toArray) (.agg (ds.map Lf.toV)) from hr1)
     exact⟨r.defers,_,xM hl k1,_,ws',rfl,r.hp.ext,e3,hr1,bDa hr2⟩
   ·cases hfin
  ·cases hfin
 rw[hn]
 exact aE3 (Tj G hm hI) 1000 E rfl rfl an cd _ _ _ _ _ q (fun _=>True) (WC.true cd) (AW.true an) h _ (fun s' a' w' β' _ hq r=>done s' a' w' β' hq r) (fun i s' a' w' β' _ hq r=>by cases hq) (fun s' a' w' β' _ hq r=>done s' a' w' β' hq r) _ _ _ r0
theorem bGn (G:Good P g Y TI FZ)(hm:P.follows .mixedOrders=true)(hI:pQ P IL){f:FuncId}{fn:Func}{cd:Code}{n T:Nat}{l:List ResultVar}{ks rs:List Kd}{m:qJ U (.st T::ks)→Option (qJ U (.st T::rs))}{an:qJ U (.st T::ks)→An}(hf:P.funcs[f]? =some fn)(hb:fn.body=some cd)(hn:fn.ntmps=n)(hl:fn.results=l.toArray)
  (hE:∀args w,(callFunc f args).run P w= .ok (.enter f args) w) (hlen:ks.length+1≤n) (h:∀a r,m a=some r→evP Y TI FZ IL (an a) cd n T ks rs l a=some r):Er P g Y f ⟨.st T::ks, .st T::rs,true,true,m⟩:=fun a r hr=>by
 have h':=h a r hr
 refine⟨fun hh=>(by cases hh),fun hh=>(by cases hh),fun _ hh=>(by cases hh),fun _ _ T' ks' cs us ds rs' e1 e2 e3=> ?_⟩
 injection e1 with e1 e4
 injection e1 with e1
 subst e1;subst e4
 have hl':us.length+1≤n:=by
  have:=congrArg List.length e2
  rw[Nr] at this
  simp at this;omega
 exact aWj G hm hI hf hb hn hl hE e2 e3 hl' h'
end
end Go.EV
