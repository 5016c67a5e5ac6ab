import Derived.Test.YthecajfmhdediaaGreatDoorEVttoy
/-
  THE EVALUATOR's KIT: drawn regions with an operation that makes memory and may come up at any time ahead of its place. Plain theorems over any program; the conditions stand in each.
-/
set_option linter.unusedVariables false
set_option linter.unusedSimpArgs false
namespace Go.EV
open Go.RowKit Go.VK
variable {U:Uni} {Y:Lay U} {TI:List (Nat×TInfo)} {FZ:List (Nat×Sum U)} {P:Program} {g:GI} {E:Env U g}
section
variable {s:St U} {a:Act} {w:World} {β:List Tr} {α:Type}
theorem bIu (G:Good P g Y TI FZ)(r:bY Y.C E s a w β){al:List Oper}{o:Oper}{K:St U→Option α}{z:α}(h:grd Y TI FZ al o s K=some z){K':Act→World→Prop}{Q:Exit→Act→World→Prop}
  (hk:∀s' v w' β',Ag (Wr al o) s s'→K s'=some z→bY Y.C E s' (a.put o.dst v) w' β'→(Nat.ble (Bc FZ o.op) 1=true→Ext w w')→K' (a.put o.dst v) w'):if Region.wanted o (yielded al.toArray a.tmps)=true then o.wp P a w K' Q else K' (a.put o.dst undef) w:=by
 obtain⟨s1,r1,h1,h2⟩:=aD1 r h
 rcases h2 with⟨hw,h2⟩|⟨hw,h2⟩
 ·rw[if_pos hw]
  unfold one at h2
  obtain⟨x,s2,k1,k2,k3,k4,k5⟩:=aVn G r1 rfl h2
  exact k2 K' Q fun v w' β' q1 q2 q3=>hk _ v w' β' (Ag.put ⟨fun n hn=>by rw[k3];exact h1.t n hn,by rw[k3];exact h1.tl,by rw[k4];exact h1.fr,h1.m.trans k5⟩ (fun n e=> .inl e)) k1 (q1.put q2) q3
 ·rw[if_neg (by rw[hw];simp)]
  exact hk _ _ w β (h1.put (fun n e=> .inl e)) h2 (r1.put (x:= .l .und) (v:=undef) (fun _=>rfl)) (fun _=>Ext.refl w)
theorem bY.aBO {C:Cod U}(r:bY C E s a w β){d:Option Nat}{x:Sv U}{v:Value}(h:d≠none→x.mean C w (E.X β) β s.m v)(hv:∀n,d=some n→a.tmps.getD n undef=v):bY C E (EV.put s d x) a w β:=by
 have r':=r.put h
 refine⟨r'.hp,r.defers,?_,fun n y hy=> ?_⟩
 ·rw[r.tsz];cases d with
  |none=>rfl
  |some m=>simp[EV.put,cB]
 ·have:=r'.tm n y hy
  cases d with
  |none=>exact this
  |some m=>
   by_cases hm:m=n
   ·subst hm
    by_cases hl:m<a.tmps.size
    ·rw[show(a.put (some m) v).tmps.getD m undef=v from by simp only[Act.put];rw[Ba _ _ _ _ _ hl,if_pos rfl]] at this
     rw[hv m rfl];exact this
    ·rw[show(a.put (some m) v).tmps=a.tmps from Array.setIfInBounds_eq_of_size_le (by omega)] at this;exact this
   ·rw[show(a.put (some m) v).tmps.getD n undef=a.tmps.getD n undef from by
     simp only[Act.put]
     by_cases hl:m<a.tmps.size
     ·rw[Ba _ _ _ _ _ hl,if_neg hm]
     ·rw[Array.setIfInBounds_eq_of_size_le (by omega)]] at this
    exact this
theorem aZm {d:Option Nat}{v:Value}{n:Nat}(h:d≠some n):(a.put d v).tmps.getD n undef=a.tmps.getD n undef:=by
 cases d with
 |none=>rfl
 |some m=>
  simp only[Act.put]
  by_cases hl:m<a.tmps.size
  ·rw[Ba _ _ _ _ _ hl,if_neg (fun e=>h (by rw[e]))]
  ·rw[Array.setIfInBounds_eq_of_size_le (by omega)]
theorem bY.aCD {C:Cod U}(r:bY C E s a w β){d:Option Nat}{v:Value}(h:bFy s d=true):bY C E s (a.put d v) w β:=by
 refine⟨r.hp,?_,?_,fun n x hx=> ?_⟩
 ·cases d<;>exact r.defers
 ·rw[←r.tsz];cases d with
  |none=>rfl
  |some m=>simp[Act.put]
 ·by_cases hd:d=some n
  ·subst hd
   simp only[bFy,bC,hx] at h
   split at h
   ·rename_i hh;have:=Option.some.inj hh;subst this;trivial
   ·cases h
  ·rw[aZm hd];exact r.tm n x hx
theorem bY.aDA {C:Cod U}(r:bY C E s a w β){d:Option Nat}:bY C E (EV.put s d (.l .any)) a w β:=by
 cases d with
 |none=>exact r
 |some n=>exact r.aBO (v:=a.tmps.getD n undef) (fun _=>trivial) (fun m e=>by cases e;rfl)
theorem bGt {o:Oper}(h:aTl o.op=true){a:Act}{w:World}{v:Value}(hr:(execOp a.eval o).run P w= .ok (.value v) w)(w':World):(execOp a.eval o).run P w'= .ok (.value v) w':=by
 cases ho:o.op with
 |move x=>simp[execOp,ho] at hr ⊢;exact hr
 |assign x=>simp[execOp,ho] at hr ⊢;exact hr
 |extract x i=>
  simp only[execOp,ho] at hr ⊢
  cases hx:a.eval x with
  |tuple vs=>
   rw[hx] at hr
   simp only[Instr.extract] at hr ⊢
   cases hv:vs[i]? with
   |none=>rw[hv] at hr;simp at hr
   |some u=>rw[hv] at hr;simp at hr ⊢;exact hr
  |_=>rw[hx] at hr;simp[Instr.extract] at hr
 |_=>rw[ho] at h;cases h
theorem aJc {a0:Option Nat}{i:Nat}{listed:Array Bool}{pre:Bool}(h:a0Y a0 i listed=true)(hp:jB a0 listed=pre):jB a0 (listed.setIfInBounds i true)=(pre&& !isA a0 i):=by
 cases a0 with
 |none=>have:pre=true:=hp.symm;subst this;rfl
 |some b=>
  by_cases hb:b=i
  ·subst hb
   have e:isA (some b) b=true:=Nat.beq_refl b
   rw[e]
   simp only[a0Y,bne_self_eq_false,Bool.false_or,Bool.not_eq_true'] at h
   rw[h];simp
  ·have e:isA (some b) i=false:=by
    unfold isA
    cases hh:Nat.beq b i with
    |false=>exact hh
    |true=>exact absurd (Nat.eq_of_beq_eq_true hh) hb
   rw[e,uN (fun e=>hb (Option.some.inj e)),hp];simp
theorem bLq {os:Array Oper}{a0:Option Nat}(hs:Region.noSelect os=true){Q:Exit→Act→World→Prop}{i:Nat}{o:Oper}{v:Value}{n:Nat}{listed:Array Bool}{wS:World}(ho:os[i]? =some o)(hD:Dn .any os listed)(hc:tkY os a0 i listed=true)
  (hy:YieldsIf P os (Ext wS) o v a) (hpu:aTl o.op=true→YieldsIf P os (fun _=>True) o v a) (hS:jB a0 listed=true→Ext wS w)
  (h:eZ P .any os a0 (NoPanic Q) (Ext wS) n (listed.setIfInBounds i true) (a.put o.dst v) w):eZ P .any os a0 (NoPanic Q) (Ext wS) (n+1) listed a w:=by
 simp only[tkY,Bool.and_eq_true] at hc
 obtain⟨⟨h1,h2⟩,h3⟩:=hc
 have h2':i∈Region.ready .any os listed:=by simpa using h2
 cases a0 with
 |none=>exact nK ho (Region.noSelect_spec hs) (fun _ _ _ h=>h) (by simp) (fun _ _ _=>rfl) n listed a w (Region.free_spec ho h1) hD h2' hy (hS rfl) h
 |some b=>
  simp only[Bool.and_eq_true,bne_iff_ne,ne_eq,Bool.or_eq_true,ho] at h3
  have hne:some b≠some i:=fun e=>h3.1 (Option.some.inj e)
  rcases h3.2 with h4|h4
  ·have hbar:∀listed,Dn .any os listed→listed.getD i true=false→jB (some b) listed=true:=fun listed hD hun=>by
    simp only[jB,Bool.not_eq_true']
    exact getD_in (aDr hD hun 40 b h4)
   exact nK ho (Region.noSelect_spec hs) (fun _ _ _ h=>h) hne hbar n listed a w (Region.free_spec ho h1) hD h2' hy (hS (hbar _ hD (mem_ready.1 h2').1)) h
  ·exact Ye ho (Region.noSelect_spec hs) (fun _ _ _ h=>h) hne n listed a w (Region.free_spec ho h1) h2' (hpu h4) hS h
theorem Bj {os:Array Oper}{a0:Option Nat}{i:Nat}{listed:Array Bool}(h:tkY os a0 i listed=true):i∈Region.ready .any os listed∧a0≠some i:=by
 simp only[tkY,Bool.and_eq_true] at h
 refine⟨by simpa using h.1.2,fun e=> ?_⟩
 subst e
 have:=h.2
 simp at this
structure Lk (E:Env U g) (kd:Option (Nat×Nat)) (st pre:Bool) (wS w:World):Prop where
 fr:∀n k,kd=some (n,k)→(wS,n,k)∈E.fr
 st:st=true→wS=w
 no:kd=none→wS=w
 pre:pre=true→Ext wS w
theorem stepT (G:Good P g Y TI FZ){al:List Oper}{a0:Option Nat}(hs:Region.noSelect al.toArray=true){Q:Exit→Act→World→Prop}{i:Nat}{o:Oper}{n:Nat}{listed:Array Bool}{wS:World}(ho:al[i]? =some o)(hD:Dn .any al.toArray listed)(hc:tkY al.toArray a0 i listed=true)
  {K:St U→Option α} {z:α} {st:Bool} (h:(bif Nat.beq (Bc FZ o.op) 0&&(aTl o.op||st) then grd Y TI FZ al o s K else none)=some z) (hst:st=true→wS=w) (hS:jB a0 listed=true→Ext wS w) (r:bY Y.C E s a w β)
  (hk:∀v s',Ag (Wr al o) s s'→K s'=some z→bY Y.C E s' (a.put o.dst v) w β→eZ P .any al.toArray a0 (NoPanic Q) (Ext wS) n (listed.setIfInBounds i true) (a.put o.dst v) w):eZ P .any al.toArray a0 (NoPanic Q) (Ext wS) (n+1) listed a w:=by
 cases hb:(Nat.beq (Bc FZ o.op) 0&&(aTl o.op||st)) with
 |false=>rw[hb] at h;cases h
 |true=>
  rw[hb] at h
  simp only[cond_true] at h
  simp only[Bool.and_eq_true,Bool.or_eq_true] at hb
  obtain⟨v,s',h1,h2,h3,h4⟩:=bIo G r (Nat.eq_of_beq_eq_true hb.1) h
  have hg:al.toArray[i]? =some o:=by simpa using ho
  have hpu:aTl o.op=true→YieldsIf P al.toArray (fun _=>True) o v a:=fun hp=>h1.imp (fun⟨k1,k2⟩=>⟨k1,fun w' _=>bGt hp (k2 w (Ext.refl w)) w'⟩) id
  refine bLq hs hg hD hc ?_ hpu hS (hk v s' h4 h3 h2)
  rcases hb.2 with hp|hp
  ·exact(hpu hp).imp (fun⟨k1,k2⟩=>⟨k1,fun w' _=>k2 w' trivial⟩) id
  ·have:=hst hp;subst this;exact h1
theorem aZn (G:Good P g Y TI FZ){al:List Oper}{a0:Option Nat}{kd:Option (Nat×Nat)}{Q:Exit→Act→World→Prop}{i:Nat}{o:Oper}{n:Nat}{listed:Array Bool}{wS:World}(ho:al[i]? =some o){pre st:Bool}(ha:a0Y a0 i listed=true)(hp:jB a0 listed=pre)
  {K:St U→Option α} {z:α} (h:grd Y TI FZ al o s (fun s'=>bif !(pre&& !isA a0 i)||(Nat.ble (Bc FZ o.op) 1||unO kd s'.m.o) then K s' else none)=some z) (hl:Lk E kd st pre wS w) (r:bY Y.C E s a w β)
  (hk:∀v s' w' β' wS',Ag (Wr al o) s s'→K s'=some z→bY Y.C E s' (a.put o.dst v) w' β'→Lk E kd (st&&aNn kd) (pre&& !isA a0 i) wS' w'→eZ P .any al.toArray a0 (NoPanic Q) (Ext wS') n (listed.setIfInBounds i true) (a.put o.dst v) w'):
  wpOp P al.toArray (NoPanic Q) i (fun a' w'=>(jB a0 (listed.setIfInBounds i true)=true→Ext wS w')∧eZ P .any al.toArray a0 (NoPanic Q) (Ext wS) n (listed.setIfInBounds i true) a' w') a w:=by
 have hny:=aJc ha hp
 have hg:al.toArray[i]? =some o:=by simpa using ho
 refine wpOp_step hg fun K' hK'=>bIu G r h fun s' v w' β' q1 q2 q3 q4=>hK' _ _ ?_
 cases hb:(!(pre&& !isA a0 i)||(Nat.ble (Bc FZ o.op) 1||unO kd s'.m.o)) with
 |false=>rw[hb] at q2;cases q2
 |true=>
  rw[hb] at q2
  simp only[cond_true] at q2
  have hext:(pre&& !isA a0 i)=true→Ext wS w':=fun hpp=>by
   rw[hpp] at hb
   simp only[Bool.not_true,Bool.false_or,Bool.or_eq_true] at hb
   simp only[Bool.and_eq_true] at hpp
   rcases hb with hb|hb
   ·exact(hl.pre hpp.1).trans (q4 hb)
   ·cases hkd:kd with
    |none=>rw[hkd] at hb;cases hb
    |some p=>
     obtain⟨n0,k0⟩:=p
     rw[hkd] at hb
     exact q3.unt (hl.fr n0 k0 hkd) hb
  refine⟨fun hn=>hext (hny.symm.trans hn),?_⟩
  cases hkd:kd with
  |some p=>
   exact hk v s' w' β' wS q1 q2 q3 ⟨hl.fr,fun h=>(by rw[hkd] at h;simp[aNn] at h),fun h=>(by rw[hkd] at h;cases h),hext⟩
  |none=>
   have hw:=hl.no hkd
   have hk':=hk v s' w' β' w' q1 q2 q3 ⟨fun n k h=>(by rw[hkd] at h;cases h),fun _=>rfl,fun _=>rfl,fun _=>Ext.refl w'⟩
   cases hpp:(pre&& !isA a0 i) with
   |true=>exact qX (fun x hx=>(hext hpp).trans hx) _ _ _ _ hk'
   |false=>exact nA _ _ _ _ (hny.trans hpp) hk'
variable {al:List Oper} {a0:Option Nat} {kd:Option (Nat×Nat)} {Q:Exit→Act→World→Prop} {D:Nat→Prop}
theorem aZo (G:Good P g Y TI FZ)(hs:Region.noSelect al.toArray=true):∀(l:List (Nat×Bool)) (pre st:Bool) (s:St U) (K:St U→Option α) (z:α),(∀i∈l,∀o,al[i.1]? =some o→∀n,Wr al o n→D n)→X6 Y TI FZ al a0 kd l none pre st s K=some z→
  (∀s' a w β,Ag D s s'→K s'=some z→bY Y.C E s' a w β→Q .normal a w)→∀listed,Dn .any al.toArray listed→Nh al.toArray a0 l listed=true→jB a0 listed=pre→∀a w β wS,Lk E kd st pre wS w→bY Y.C E s a w β→eZ P .any al.toArray a0 (NoPanic Q) (Ext wS) l.length listed a w
 |[],pre,st,s,K,z,_,h,hQ,listed,_,hc,_,a,w,β,wS,_,r=>qY (P:=P) (a0:=a0) (S:=Ext wS) (Q:=NoPanic Q) (by simpa[Nh] using hc) (hQ s a w β (Ag.refl s) h r) 0
 |(i,fl)::l,pre,st,s,K,z,hD,h,hQ,listed,hdn,hc,hp,a,w,β,wS,hl,r=>by
  simp only[X6,bC] at h
  cases ho:al[i]? with
  |none=>rw[ho] at h;cases h
  |some o=>
   rw[ho] at h
   simp only at h
   have hDi:=hD (i,fl) (by simp) o ho
   have hD':∀j∈l,∀o,al[j.1]? =some o→∀n,Wr al o n→D n:=fun j hj=>hD j (by simp[hj])
   cases fl with
   |true=>
    simp only[Nh,Bool.and_eq_true] at hc
    obtain⟨hr,hne⟩:=Bj hc.1
    exact stepT G hs ho hdn hc.1 h hl.st (fun hn=>hl.pre (hp.symm.trans hn)) r fun v s' h1 h2 h3=>
     aZo G hs l pre st s' K z hD' h2 (fun s2 a2 w2 β2 g1=>hQ s2 a2 w2 β2 ((h1.mono hDi).trans g1)) _ (hdn.set hr) hc.2 ((uN hne).trans hp) _ w β wS hl h3
   |false=>
    simp only[Nh,Bool.and_eq_true,beq_iff_eq] at hc
    simp only[cond_false] at h
    rw[show aI4 Y TI al none s=true from rfl] at h
    simp only[cond_true] at h
    refine jU hc.1 (by simp) fun i' hi'=> ?_
    simp at hi';subst hi'
    exact aZn G ho hc.2.1 hp h hl r fun v s' w' β' wS' h1 h2 h3 h4=>
     aZo G hs l _ _ s' K z hD' h2 (fun s2 a2 w2 β2 g1=>hQ s2 a2 w2 β2 ((h1.mono hDi).trans g1)) _ (hdn.set (by rw[hc.1];simp)) hc.2.2 (aJc hc.2.1 hp) _ w' β' wS' h4 h3
theorem aOa {j:Nat}{oj:Oper}(ho:al[j]? =some oj)(h:aI4 Y TI al (some j) s=true):oj.guard=none∧bFy s oj.dst=true∧aNo Y TI s oj.op=true∧bFz oj oj.dst=true:=by
 simp only[aI4,bC,ho,Bool.and_eq_true] at h
 refine⟨?_,h.2.1,h.2.2.2,h.2.2.1⟩
 cases hg:oj.guard with
 |none=>rfl
 |some x=>rw[hg] at h;cases h.1
theorem bGu {oj:Oper}{d:Option Nat}(h:bF0 oj d=true):∀n,oj.dst=some n→d≠some n:=fun n hn e=>by
 subst e
 simp only[bF0,hn,Bool.and_eq_true] at h
 have:=h.1
 rw[show Nat.beq n n=true from Nat.beq_refl n] at this
 cases this
theorem bGv {oj:Oper}{d:Option Nat}(h:bF0 oj d=true):bFz oj d=true:=by
 simp only[bF0,Bool.and_eq_true] at h;exact h.2
theorem Lk.mk1 {b:Nat}{blk:Obj}{hb:E.w0.heap.size≤b}{st pre:Bool}{wS:World}(h:Lk E kd st pre wS w):Lk (E.ahd b blk hb) kd st pre wS w:=⟨h.fr,h.st,h.no,h.pre⟩
theorem Lk.un1 {b:Nat}{blk:Obj}{hb:E.w0.heap.size≤b}{st pre:Bool}{wS:World}(h:Lk (E.ahd b blk hb) kd st pre wS w):Lk E kd st pre wS w:=⟨h.fr,h.st,h.no,h.pre⟩
theorem bGw (G:Good P g Y TI FZ)(hs:Region.noSelect al.toArray=true)(hP:E.prm=[]){j:Nat}{oj:Oper}(hj:al[j]? =some oj)(hgj:oj.guard=none)(hja:a0≠some j){b:Nat}{blk:Obj}{hb:E.w0.heap.size≤b}:∀(l:List (Nat×Bool)) (m:Nat) (pre st:Bool) (s:St U) (K:St U→Option α) (z:α),m+1=l.length→(∀i∈l,∀o,al[i.1]? =some o→∀n,Wr al o n→D n)→X6 Y TI FZ al a0 kd l (some j) pre st s K=some z→
  (∀s' a w β,Ag D s s'→K s'=some z→bY Y.C E s' a w β→Q .normal a w)→∀listed,Dn .any al.toArray listed→bBf al.toArray a0 oj j l listed=true→jB a0 listed=pre→∀a w β wS,Lk E kd st pre wS w→Flp P a oj blk→(∀n,oj.dst=some n→a.tmps.getD n undef=mkF oj.op b)→bY Y.C (E.ahd b blk hb) s a w β→eZ P .any al.toArray a0 (NoPanic Q) (Ext wS) m listed a w
 |[],m,pre,st,s,K,z,hm,_,h,hQ,listed,_,hc,_,a,w,β,wS,_,_,_,r=>by cases hc
 |(i,fl)::l,m,pre,st,s,K,z,hm,hD,h,hQ,listed,hdn,hc,hp,a,w,β,wS,hl,hF,hv,r=>by
  have hm':m=l.length:=by simpa using hm
  have hD':∀j∈l,∀o,al[j.1]? =some o→∀n,Wr al o n→D n:=fun j hj=>hD j (by simp[hj])
  simp only[bBf] at hc
  simp only[X6,bC] at h
  cases hij:Nat.beq i j with
  |true=>
   have e:=Nat.eq_of_beq_eq_true hij
   subst e
   rw[hij] at hc
   simp only[cond_true,Bool.and_eq_true] at hc
   have hfl:fl=false:=by simpa using hc.1
   subst hfl
   rw[hj] at h
   simp only[cond_false] at h
   have hDi:=hD (i,false) (by simp) oj hj
   cases hfa:aI4 Y TI al (some i) s with
   |false=>rw[hfa] at h;cases h
   |true=>
    rw[hfa] at h
    simp only[cond_true] at h
    obtain⟨_,_,hok,_⟩:=aOa hj hfa
    have hself:isA (some i) i=true:=Nat.beq_refl i
    have hna:isA a0 i=false:=by
     cases a0 with
     |none=>rfl
     |some c=>
      cases hh:isA (some c) i with
      |false=>rfl
      |true=>exact absurd (congrArg some (Nat.eq_of_beq_eq_true hh)) hja
    rw[hself,hna] at h
    simp only[cond_true,Bool.not_false,Bool.and_true] at h
    unfold grd aYu at h
    rw[hgj] at h
    simp only[one] at h
    obtain⟨x,s',β',k1,k2,k3,k4,k5,k6⟩:=bEt G r hP hF hok h
    cases hcc:(!pre||(Nat.ble (Bc FZ oj.op) 1||unO kd (EV.put s' oj.dst x).m.o)) with
    |false=>rw[hcc] at k1;cases k1
    |true=>
     rw[hcc] at k1
     simp only[cond_true] at k1
     have hag:Ag D s (EV.put s' oj.dst x):=Ag.put ⟨fun n _=>by rw[k4],by rw[k4],k5,k6⟩ (fun n e=>hDi n (.inl e))
     rw[hm']
     exact aZo G hs l pre _ _ K z hD' k1 (fun s2 a2 w2 β2 g1=>hQ s2 a2 w2 β2 (hag.trans g1)) listed hdn hc.2 hp a w β' wS ⟨hl.fr,fun h=>hl.st (by simp only[Bool.and_eq_true] at h;exact h.1),hl.no,hl.pre⟩ (k2.aBO (fun _=>k3) hv)
  |false=>
   rw[hij] at hc
   simp only[cond_false] at hc
   have hnA:isA (some j) i=false:=by
    show Nat.beq j i=false
    cases hh:Nat.beq j i with
    |false=>rfl
    |true=>have:=Nat.eq_of_beq_eq_true hh;subst this;rw[show Nat.beq j j=true from Nat.beq_refl j] at hij;cases hij
   cases ho:al[i]? with
   |none=>rw[ho] at h;cases h
   |some o=>
    rw[ho] at h
    simp only at h
    have hg:al.toArray[i]? =some o:=by simpa using ho
    rw[hg] at hc
    simp only[Bool.and_eq_true] at hc
    obtain⟨hoff,hc⟩:=hc
    have hDi:=hD (i,fl) (by simp) o ho
    have hlen:∃m',m=m'+1∧m'+1=l.length:=by
     cases l with
     |nil=>cases fl<;>(simp only[cond_true,cond_false,bBf,Bool.and_false,Bool.and_eq_true] at hc;simp at hc)
     |cons x l=>exact⟨l.length,by simpa using hm',by simp⟩
    obtain⟨m',rfl,hm2⟩:=hlen
    have hoffd:∀n,oj.dst=some n→∀v,(a.put o.dst v).tmps.getD n undef=mkF oj.op b:=fun n hn v=>by rw[aZm (bGu hoff n hn)];exact hv n hn
    cases fl with
    |true=>
     simp only[cond_true,Bool.and_eq_true] at hc
     obtain⟨hr,hne⟩:=Bj hc.1
     exact stepT G hs ho hdn hc.1 h hl.st (fun hn=>hl.pre (hp.symm.trans hn)) r fun v s' h1 h2 h3=>
      bGw G hs hP hj hgj hja l m' pre st s' K z hm2 hD' h2 (fun s2 a2 w2 β2 g1=>hQ s2 a2 w2 β2 ((h1.mono hDi).trans g1)) _ (hdn.set hr) hc.2 ((uN hne).trans hp) _ w β wS hl (hF.keep (bGv hoff)) (fun n hn=>hoffd n hn v) h3
    |false=>
     simp only[cond_false,Bool.and_eq_true,beq_iff_eq] at hc
     simp only[cond_false,hnA] at h
     cases hfa:aI4 Y TI al (some j) s with
     |false=>rw[hfa] at h;cases h
     |true=>
      rw[hfa] at h
      simp only[cond_true] at h
      refine jU hc.1 (by simp) fun i' hi'=> ?_
      simp at hi';subst hi'
      exact aZn G ho hc.2.1 hp h hl.mk1 r fun v s' w' β' wS' h1 h2 h3 h4=>
       bGw G hs hP hj hgj hja l m' _ _ s' K z hm2 hD' h2 (fun s2 a2 w2 β2 g1=>hQ s2 a2 w2 β2 ((h1.mono hDi).trans g1)) _ (hdn.set (by rw[hc.1];simp)) hc.2.2 (aJc hc.2.1 hp) _ w' β' wS' h4.un1 (hF.keep (bGv hoff)) (fun n hn=>hoffd n hn v) h3
theorem bGx (G:Good P g Y TI FZ)(hs:Region.noSelect al.toArray=true)(hP:E.prm=[]){j:Nat}{oj:Oper}(hj:al[j]? =some oj)(hja:a0≠some j):∀(l:List (Nat×Bool)) (pre st:Bool) (s:St U) (K:St U→Option α) (z:α),(∀i∈l,∀o,al[i.1]? =some o→∀n,Wr al o n→D n)→X6 Y TI FZ al a0 kd l (some j) pre st s K=some z→
  (∀s' a w β,Ag D s s'→K s'=some z→bY Y.C E s' a w β→Q .normal a w)→∀listed,Dn .any al.toArray listed→bF1 al.toArray a0 oj j l listed=true→jB a0 listed=pre→∀a w β wS,Lk E kd st pre wS w→bY Y.C E s a w β→eZ P .any al.toArray a0 (NoPanic Q) (Ext wS) l.length listed a w
 |[],pre,st,s,K,z,_,h,hQ,listed,_,hc,_,a,w,β,wS,_,r=>by cases hc
 |(i,fl)::l,pre,st,s,K,z,hD,h,hQ,listed,hdn,hc,hp,a,w,β,wS,hl,r=>by
  have hD':∀j∈l,∀o,al[j.1]? =some o→∀n,Wr al o n→D n:=fun j hj=>hD j (by simp[hj])
  have hfull:=h
  simp only[bF1] at hc
  simp only[X6,bC] at h
  cases ho:al[i]? with
  |none=>rw[ho] at h;cases h
  |some o=>
   rw[ho] at h
   simp only at h
   have hDi:=hD (i,fl) (by simp) o ho
   cases hij:Nat.beq i j with
   |true=>
    have e:=Nat.eq_of_beq_eq_true hij
    subst e
    rw[hij] at hc
    simp only[cond_true,Bool.and_eq_true,beq_iff_eq] at hc
    have hfl:fl=false:=by simpa using hc.1
    subst hfl
    simp only[cond_false] at h
    cases hfa:aI4 Y TI al (some i) s with
    |false=>rw[hfa] at h;cases h
    |true=>
     rw[hfa] at h
     simp only[cond_true] at h
     have hself:isA (some i) i=true:=Nat.beq_refl i
     rw[hself] at h
     simp only[cond_true] at h
     have ha:a0Y a0 i listed=true:=by
      unfold a0Y
      rw[show(a0 !=some i)=true from by simpa using hja];rfl
     refine jU hc.2.1 (by simp) fun i' hi'=> ?_
     simp at hi';subst hi'
     exact aZn G ho ha hp h hl r fun v s' w' β' wS' h1 h2 h3 h4=>
      aZo G hs l _ _ s' K z hD' h2 (fun s2 a2 w2 β2 g1=>hQ s2 a2 w2 β2 ((h1.mono hDi).trans g1)) _ (hdn.set (by rw[hc.2.1];simp)) hc.2.2 (aJc ha hp) _ w' β' wS' h4 h3
   |false=>
    rw[hij] at hc
    simp only[cond_false] at hc
    have hnA:isA (some j) i=false:=by
     show Nat.beq j i=false
     cases hh:Nat.beq j i with
     |false=>rfl
     |true=>have:=Nat.eq_of_beq_eq_true hh;subst this;rw[show Nat.beq j j=true from Nat.beq_refl j] at hij;cases hij
    cases fl with
    |true=>
     simp only[cond_true,Bool.and_eq_true] at hc
     obtain⟨hr,hne⟩:=Bj hc.1
     exact stepT G hs ho hdn hc.1 h hl.st (fun hn=>hl.pre (hp.symm.trans hn)) r fun v s' h1 h2 h3=>
      bGx G hs hP hj hja l pre st s' K z hD' h2 (fun s2 a2 w2 β2 g1=>hQ s2 a2 w2 β2 ((h1.mono hDi).trans g1)) _ (hdn.set hr) hc.2 ((uN hne).trans hp) _ w β wS hl h3
    |false=>
     simp only[cond_false,Bool.and_eq_true] at hc
     simp only[cond_false,hnA] at h
     cases hfa:aI4 Y TI al (some j) s with
     |false=>rw[hfa] at h;cases h
     |true=>
      rw[hfa] at h
      simp only[cond_true] at h
      obtain⟨hgj,hany,hok,hself⟩:=aOa hj hfa
      have hgi:al.toArray[j]? =some oj:=by simpa using hj
      have inT:i∈Region.ready .any al.toArray listed→wpOp P al.toArray (NoPanic Q) i (fun a' w'=>(jB a0 (listed.setIfInBounds i true)=true→Ext wS w')∧eZ P .any al.toArray a0 (NoPanic Q) (Ext wS) l.length (listed.setIfInBounds i true) a' w') a w:=fun hir=>
       aZn G ho hc.2.1 hp h hl r fun v s' w' β' wS' h1 h2 h3 h4=>
        bGx G hs hP hj hja l _ _ s' K z hD' h2 (fun s2 a2 w2 β2 g1=>hQ s2 a2 w2 β2 ((h1.mono hDi).trans g1)) _ (hdn.set hir) hc.2.2 (aJc hc.2.1 hp) _ w' β' wS' h4 h3
      have early:j∈Region.ready .any al.toArray listed→bBf al.toArray a0 oj j ((i,false)::l) (listed.setIfInBounds j true)=true→wpOp P al.toArray (NoPanic Q) j (fun a' w'=>(jB a0 (listed.setIfInBounds j true)=true→Ext wS w')∧eZ P .any al.toArray a0 (NoPanic Q) (Ext wS) l.length (listed.setIfInBounds j true) a' w') a w:=fun hjr hc1=>by
       obtain⟨blk,hF⟩:=bEr G r hok
       have hny:jB a0 (listed.setIfInBounds j true)=pre:=(uN hja).trans hp
       have hbw:E.w0.heap.size≤w.heap.size:=r.hp.ext.size
       refine wpOp_step hgi fun K' hK'=> ?_
       rw[if_pos (by simp[Region.wanted,hgj])]
       refine wpo (.inl (hF w)) (hK' _ _ ⟨fun hn=>(hl.pre (hny.symm.trans hn)).trans (Ext.alloc _ _),?_⟩)
       have r1:bY Y.C (E.ahd w.heap.size blk hbw) s (a.put oj.dst (mkF oj.op w.heap.size)) (w.alloc blk) β:=(r.ahead hbw).aCD hany
       have hF':Flp P (a.put oj.dst (mkF oj.op w.heap.size)) oj blk:=hF.keep hself
       have hv':∀n,oj.dst=some n→(a.put oj.dst (mkF oj.op w.heap.size)).tmps.getD n undef=mkF oj.op w.heap.size:=fun n hn=>by
        rw[hn]
        simp only[bFy,hn,bC] at hany
        have hlt:n<a.tmps.size:=by
         rw[r.tsz]
         cases hx:s.t[n]? with
         |none=>rw[hx] at hany;cases hany
         |some x=>exact lt_of_some hx
        simp only[Act.put]
        rw[Ba _ _ _ _ _ hlt,if_pos rfl]
       have fin:=fun st' wS' (hfull':X6 Y TI FZ al a0 kd ((i,false)::l) (some j) pre st' s K=some z) (hl':Lk E kd st' pre wS' (w.alloc blk))=>bGw (D:=D) (Q:=Q) G hs hP hj hgj hja ((i,false)::l) l.length pre st' s K z (by simp) hD hfull' hQ _ (hdn.set hjr) hc1 hny _ (w.alloc blk) β wS' hl' hF' hv' r1
       cases hkd:kd with
       |some p=>
        refine fin false wS ?_ ⟨hl.fr,fun h=>(by cases h),fun h=>(by rw[hkd] at h;cases h),fun h=>(hl.pre h).trans (Ext.alloc _ _)⟩
        have hf:=hfull
        rw[hkd] at hf ⊢
        simp only[X6,bC,ho,cond_false,aNn,Bool.and_false] at hf ⊢
        exact hf
       |none=>
        have hw:=hl.no hkd
        have hk':=fin st (w.alloc blk) hfull ⟨fun n k h=>(by rw[hkd] at h;cases h),fun _=>rfl,fun _=>rfl,fun _=>Ext.refl _⟩
        cases hpp:pre with
        |true=>exact qX (fun x hx=>((hl.pre hpp).trans (Ext.alloc _ _)).trans hx) _ _ _ _ hk'
        |false=>exact nA _ _ _ _ (hny.trans hpp) hk'
      have h1:=hc.1
      rw[Bool.or_eq_true,beq_iff_eq] at h1
      rcases h1 with h1|h1
      ·refine jU h1 (by simp) fun i' hi'=> ?_
       simp at hi';subst hi'
       exact inT (by rw[h1];simp)
      ·rw[Bool.and_eq_true,Bool.or_eq_true,beq_iff_eq,beq_iff_eq] at h1
       have hmem:∀x,x∈Region.ready .any al.toArray listed↔x=i∨x=j:=fun x=>by
        rcases h1.1 with e|e<;>rw[e]<;>simp[or_comm]
       exact jU rfl (fun e=>by have:=(hmem i).2 (.inl rfl);rw[e] at this;simp at this) fun i' hi'=>by
        rcases(hmem i').1 hi' with rfl|rfl
        ·exact inT hi'
        ·exact early hi' h1.2
end
end Go.EV

namespace Go.EV
open Go.RowKit Go.VK
variable {U:Uni} {Y:Lay U} {TI:List (Nat×TInfo)} {FZ:List (Nat×Sum U)} {P:Program} {g:GI} {E:Env U g}
section
variable {s s':St U} {a:Act} {w w':World} {β β':List Tr} {α:Type}
def aZp (bs:List Nat)(Yb:Nat→Prop)(n:Nat)(s:St U)(β:List Tr):Prop:=∀(b:Nat) (e:EO U) (t:Tr) (k:Nat),s.m.o[b]? =some e→e.ob.aAT=true→β[b]? =some t→t.b=some k→(b∈bs→Yb k)∧(b∉bs→¬Yb k∧k<n)
theorem aZq {bs:List Nat}{Yb:Nat→Prop}{wS:World}(r:bY Y.C E s a w β)(hI:aZp bs Yb wS.heap.size s β)(hb:Bel Yb wS w){t:Nat}{i:TInfo}(hti:tiB P t i=true){b o:Nat}{y:Sv U}{v:Value}(hm:(Lf.box b o:Lf U).mean Y.C w (E.X β) β s.m v)(h:load Y s i (.box b o)=some y)(hn:b∉bs):
  ∃p v',v= .pointer (some p)∧(∀w',Bel Yb wS w'→(loadVar t p).run P w'= .ok v' w')∧y.mean Y.C w (E.X β) β s.m v':=by
 simp only[load,bC] at h
 obtain⟨_,e,tr,h1,h2,h3⟩:=hm
 simp only[h1] at h
 have hok:=r.hp.ok b tr e h2 h1
 have hi:=hI b e tr
 obtain⟨ob,rv,cv⟩:=e
 cases ob with
 |box T cs us=>
  obtain⟨bb,h4,rfl⟩:=h3 rfl
  obtain⟨_,b',vs,k1,k2,k3,k4⟩:=hok
  rw[h4] at k1;injection k1 with k1;subst k1
  obtain⟨q1,q2⟩:=(hi bb h1 rfl h2 h4).2 hn
  obtain⟨v',q3,q4⟩:=aVe (S:=Bel Yb wS) (P:=P) (p:=⟨bb,o,none⟩) hti h (k4.drop o) (fun w' he j u hj=>by
   rw[kU,cell_of_row w' bb (o+j) _ T (0,0) ((he.block bb q2 q1).trans ((hb.block bb q2 q1).symm.trans k3))]
   simpa using hj)
  exact⟨_,v',rfl,q3,q4⟩
 |_=>cases h
theorem aZp.go {bs:List Nat}{Yb:Nat→Prop}{n:Nat}(h:aZp bs Yb n s β){m:Mm U}{N M K:Nat}(hN:N=s.m.o.length)(r:Hp Y.C E s.m β w)(hl:m.o.length=s.m.o.length)(hev:Evo w w' (E.X β) (E.X β') β β' s.m m N M K){t:List (Sv U)}{fr}:aZp bs Yb n ⟨t,m,fr⟩ β':=by
 intro b e t k h1 h2 h3 h4
 have hb:b<s.m.o.length:=by rw[←hl];exact lt_of_some h1
 have e1:s.m.o[b]? =some s.m.o[b]:=List.getElem?_eq_getElem hb
 have e2:β[b]? =some (β[b]'(by rw[r.len];exact hb)):=List.getElem?_eq_getElem _
 obtain⟨e',t',k1,k2,_,_,k5⟩:=hev.ho b _ _ (by omega) e1 e2
 replace h1:m.o[b]? =some e:=h1
 rw[h1] at k1;injection k1 with k1;subst k1
 rw[h3] at k2;injection k2 with k2;subst k2
 obtain⟨j1,j2⟩:=k5 h2
 exact h b _ _ k e1 j1 e2 (by rw[←j2];exact h4)
theorem bKs {i:Nat}{l:List Nat}(h:(!aJw i l)=true):i∉l:=fun hi=>by rw[Bf.2 hi] at h;cases h
variable {al:List Oper} {Q:Exit→Act→World→Prop} {D:Nat→Prop}
theorem Fw (G:Good P g Y TI FZ)(hs:Region.noSelect al.toArray=true){bs:List Nat}{Yb:Nat→Prop}{wS:World}:∀(l:List (Nat×Bool)) (s:St U) (K:St U→Option α) (z:α),(∀i∈l,∀o,al[i.1]? =some o→∀n,Wr al o n→D n)→aYw Y TI FZ al bs l s K=some z→
  (∀s' a w β,Ag D s s'→K s'=some z→bY Y.C E s' a w β→Q .normal a w)→∀listed,Dn .any al.toArray listed→Nh al.toArray none l listed=true→∀a w β,Bel Yb wS w→aZp bs Yb wS.heap.size s β→bY Y.C E s a w β→eZ P .any al.toArray none (NoPanic Q) (Bel Yb wS) l.length listed a w
 |[],s,K,z,_,h,hQ,listed,_,hc,a,w,β,_,_,r=>qY (P:=P) (a0:=none) (S:=Bel Yb wS) (Q:=NoPanic Q) (by simpa[Nh] using hc) (hQ s a w β (Ag.refl s) h r) 0
 |(i,fl)::l,s,K,z,hD,h,hQ,listed,hdn,hc,a,w,β,hb,hI,r=>by
  simp only[aYw,bC] at h
  cases ho:al[i]? with
  |none=>rw[ho] at h;cases h
  |some o=>
   rw[ho] at h
   simp only at h
   have hDi:=hD (i,fl) (by simp) o ho
   have hD':∀j∈l,∀o,al[j.1]? =some o→∀n,Wr al o n→D n:=fun j hj=>hD j (by simp[hj])
   have hg:al.toArray[i]? =some o:=by simpa using ho
   have put':∀{s1:St U} {x:Sv U},s1.t=s.t→s1.fr=s.fr→Am s.m s1.m→Ag (Wr al o) s (put s1 o.dst x):=fun e1 e2 e3=>Ag.put ⟨fun n _=>by rw[e1],by rw[e1],by rw[e2],e3⟩ (fun n e=> .inl e)
   have invP:∀{s1:St U} {β1:List Tr} {x:Sv U},aZp bs Yb wS.heap.size s1 β1→aZp bs Yb wS.heap.size (put s1 o.dst x) β1:=fun {s1 β1 x} h b e t k h1=>h b e t k (by rw[show(put s1 o.dst x).m=s1.m by cases o.dst<;>rfl] at h1;exact h1)
   cases hb0:(noG o&&(bif fl then ldW bs s o.op else(stW bs s o.op||aTl o.op))) with
   |false=>rw[hb0] at h;cases h
   |true=>
    rw[hb0] at h
    simp only[cond_true] at h
    rw[Bool.and_eq_true] at hb0
    have hgd:o.guard=none:=by
     have:=hb0.1
     unfold noG at this
     split at this
     ·assumption
     ·cases this
    have hw:Region.wanted o (yielded al.toArray a.tmps)=true:=by simp[Region.wanted,hgd]
    have hop:=hb0.2
    cases fl with
    |true=>
     simp only[cond_true] at hop
     simp only[Nh,Bool.and_eq_true] at hc
     obtain⟨hr,_⟩:=Bj hc.1
     cases hoo:o.op with
     |load t x=>
      rw[hoo] at hop
      simp only[ldW] at hop
      split at hop
      ·rename_i b off hx
       unfold one at h
       rw[hoo] at h
       replace h:(match(match mE TI t,gH s x with
        |some i, .l p=>load Y s i p
        |_,_=>none) with
        |some y=>aYw Y TI FZ al bs l (put s o.dst y) K
        |none=>none)=some z:=h
       rw[hx] at h
       cases hf:mE TI t with
       |none=>rw[hf] at h;cases h
       |some ti=>
        rw[hf] at h
        simp only at h
        cases hld:load Y s ti (.box b off) with
        |none=>rw[hld] at h;cases h
        |some y=>
         rw[hld] at h
         simp only at h
         obtain⟨p,v',q1,q2,q3⟩:=aZq r hI hb (dM G.ti hf) (vG r hx) hld (bKs hop)
         have hy:YieldsIf P al.toArray (Bel Yb wS) o v' a:= .inl ⟨hw,fun w' he=>by simp[execOp,hoo,q1,Instr.loadAt,Instr.sureAddr,q2 w' he]⟩
         simp only[tkY,Bool.and_eq_true] at hc
         refine nK hg (Region.noSelect_spec hs) (fun _ _ _ h=>h) (by simp) (fun _ _ _=>rfl) _ listed a w (Region.free_spec hg hc.1.1.1) hdn hr hy hb ?_
         have ag:=put' (s1:=s) (x:=y) rfl rfl (Am.refl _)
         exact Fw G hs l _ K z hD' h (fun s2 a2 w2 β2 g1=>hQ s2 a2 w2 β2 ((ag.mono hDi).trans g1)) _ (hdn.set hr) hc.2 _ w β hb (invP hI) (r.put fun _=>q3)
      ·cases hop
     |_=>rw[hoo] at hop;cases hop
    |false=>
     simp only[cond_false] at hop
     simp only[Nh,Bool.and_eq_true,beq_iff_eq] at hc
     refine jU hc.1 (by simp) fun i' hi'=> ?_
     simp at hi';subst hi'
     have hr:i'∈Region.ready .any al.toArray listed:=by rw[hc.1];simp
     rw[Bool.or_eq_true] at hop
     rcases hop with hop|hop
     ·cases hoo:o.op with
      |store t x y=>
       rw[hoo] at hop
       simp only[stW] at hop
       split at hop
       ·rename_i b off hx
        unfold one stp at h
        rw[hoo] at h
        simp only[hx] at h
        split at h
        ·rename_i ti b' off' ps h1 h2 h3
         cases h2
         split at h
         ·rename_i T cs us rv cv h4
          rw[bC] at h4
          cases hbb:(Nat.beq (len ps) ti.k&&(Nat.ble (off+ti.k) (len cs)&&Nf ps)) with
          |false=>rw[hbb] at h;cases h
          |true=>
           rw[hbb] at h
           simp only[cond_true] at h
           simp only[Bool.and_eq_true,dA] at hbb
           obtain⟨w',β',t',bb,e1,r1,hev,hbel,e2,e3⟩:=Y2 G.ti r hoo h1 hx h3 h4 (Nat.eq_of_beq_eq_true hbb.1) (Nat.le_of_ble_eq_true hbb.2.1) hbb.2.2
           have hyb:Yb bb:=(hI b _ _ bb h4 rfl e2 e3).1 (Bf.1 hop)
           have hb':Bel Yb wS w':=hb.trans ⟨hbel.os,hbel.tape,hbel.output,hbel.size,fun k hk hy=>hbel.block k hk fun e=>hy (by rw[e];exact hyb)⟩
           have hI':=invP (x:= .l .any) (hI.go (E:=E) (Y:=Y) (t:=(trn s b (.box T (spl cs off ps) (spl us off (ps.map fun _=>Nat.succ s.m.k))) rv).t) (fr:=(trn s b (.box T (spl cs off ps) (spl us off (ps.map fun _=>Nat.succ s.m.k))) rv).fr) rfl r.hp (by simp[trn,cB]) hev)
           have ag:=put' (s1:=trn s b (.box T (spl cs off ps) (spl us off (ps.map fun _=>Nat.succ s.m.k))) rv) (x:= .l .any) rfl rfl (aI8 h4 (Nat.eq_of_beq_eq_true hbb.1) (Nat.le_of_ble_eq_true hbb.2.1) (r.aBM h4))
           refine wpOp_step hg fun K' hK'=> ?_
           rw[if_pos hw]
           refine wpo (.inr ⟨e1,rfl⟩) (hK' _ _ ⟨fun _=>hb',?_⟩)
           exact Fw G hs l _ K z hD' h (fun s2 a2 w2 β2 g1=>hQ s2 a2 w2 β2 ((ag.mono hDi).trans g1)) _ (hdn.set hr) hc.2.2 _ w' β' hb' hI' (r1.put fun _=>trivial)
         ·cases h
        ·rename_i h2 _;cases h2
        ·cases h
       ·cases hop
      |_=>rw[hoo] at hop;cases hop
     ·have hc0:Bc FZ o.op=0:=by
       cases hoo:o.op<;>rw[hoo] at hop<;>first|rfl|cases hop
      have hgr:grd Y TI FZ al o s (fun s'=>aYw Y TI FZ al bs l s' K)=some z:=by
       unfold grd aYu;rw[hgd];exact h
      obtain⟨v,s1,h1,h2,h3,h4⟩:=bIo G r hc0 hgr
      have hI':aZp bs Yb wS.heap.size s1 β:=fun b e t k k1 k2 k3 k4=>by
       have hbl:b<s.m.o.length:=by rw[←r.hp.len];exact lt_of_some k3
       exact hI b _ t k (List.getElem?_eq_getElem hbl) ((h4.m.o b _ _ (List.getElem?_eq_getElem hbl) k1).2.1 k2) k3 k4
      refine wpOp_step hg fun K' hK'=> ?_
      rw[if_pos hw]
      rcases h1 with⟨_,h1⟩|⟨h1,_⟩
      ·refine wpo (.inl (h1 w (Ext.refl w))) (hK' _ _ ⟨fun _=>hb,?_⟩)
       exact Fw G hs l _ K z hD' h3 (fun s2 a2 w2 β2 g1=>hQ s2 a2 w2 β2 ((h4.mono hDi).trans g1)) _ (hdn.set hr) hc.2.2 _ w β hb hI' h2
      ·rw[hw] at h1;cases h1
end
end Go.EV

namespace Go.EV
open Go.RowKit Go.VK
variable {U:Uni} {Y:Lay U} {TI:List (Nat×TInfo)} {FZ:List (Nat×Sum U)} {P:Program} {g:GI} {E:Env U g}
section
variable {α:Type}
theorem Y7:∀(l:List (Nat×Bool)),bCt l=l.map Prod.fst
 |[]=>rfl
 |x::l=>by rw[List.map_cons,←Y7 l];rfl
theorem Fx {x:Nat×Bool}{l:List (Nat×Bool)}(h:aI3 (x::l)=true):x.2=false∧aI3 l=true:=by
 have e:aI3 (x::l)=cond x.2 false (aI3 l):=rfl
 rw[e] at h
 cases hx:x.2 with
 |true=>rw[hx] at h;cases h
 |false=>rw[hx] at h;exact⟨rfl,h⟩
theorem bKt (G:Good P g Y TI FZ){al:List Oper}{Q:Exit→Act→World→Prop}{D:Nat→Prop}:∀(l:List Nat) (s:St U) (K:St U→Option α) (z:α),(∀i∈l,∀o,al[i]? =some o→∀n,Wr al o n→D n)→X5 Y TI FZ al l s K=some z→
  ∀(rest:List Nat),(∀s' a w β listed,Ag D s s'→K s'=some z→bY Y.C E s' a w β→chz al.toArray rest listed=true→wpAny P .any al.toArray Q rest.length listed a w)→∀listed,chz al.toArray (l++rest) listed=true→∀a w β,bY Y.C E s a w β→wpAny P .any al.toArray Q (l++rest).length listed a w
 |[],s,K,z,_,h,rest,hk,listed,hc,a,w,β,r=>hk s a w β listed (Ag.refl s) h r hc
 |i::l,s,K,z,hD,h,rest,hk,listed,hc,a,w,β,r=>by
  simp only[X5,bC] at h
  cases ho:al[i]? with
  |none=>rw[ho] at h;cases h
  |some o=>
   rw[ho] at h
   simp only at h
   replace hc:((Region.ready .any al.toArray listed==[i])&&chz al.toArray (l++rest) (listed.setIfInBounds i true))=true:=hc
   simp only[Bool.and_eq_true,beq_iff_eq] at hc
   have hg:al.toArray[i]? =some o:=by simpa using ho
   refine bA4 hc.1 (wpOp_step hg fun K' hK'=>aXf G r h fun s' a' w' β' q1 q2 q3 _=>hK' _ _ ?_)
   have q1':=q1.mono (hD i (by simp) o ho)
   exact bKt G l s' K z (fun j hj=>hD j (by simp[hj])) q2 rest (fun s2 a2 w2 β2 li p1 p2 p3 p4=>hk s2 a2 w2 β2 li (q1'.trans p1) p2 p3 p4) _ hc.2 a' w' β' q3
def CG (FZ:List (Nat×Sum U))(al:List Oper)(a0:Option Nat)(l:List (Nat×Bool))(listed:Array Bool):Prop:=frees FZ al a0 l=true∨(jB a0 listed=false∧aI3 l=true)
theorem bIv (G:Good P g Y TI FZ){al:List Oper}{a0:Option Nat}(hs:Region.noSelect al.toArray=true){Q:Exit→Act→World→Prop}{D:Nat→Prop}:∀(l:List (Nat×Bool)) (s:St U) (K:St U→Option α) (z:α),(∀i∈l,∀o,al[i.1]? =some o→∀n,Wr al o n→D n)→X5 Y TI FZ al (bCt l) s K=some z→
  ∀(rest:List (Nat×Bool)),(∀s' a w β listed,Ag D s s'→K s'=some z→bY Y.C E s' a w β→Dn .any al.toArray listed→chk al.toArray a0 rest listed=true→CG FZ al a0 rest listed→eZ P .any al.toArray a0 (NoPanic Q) (Ext w) rest.length listed a w)→
   ∀listed,Dn .any al.toArray listed→chk al.toArray a0 (l++rest) listed=true→CG FZ al a0 (l++rest) listed→∀a w β,bY Y.C E s a w β→eZ P .any al.toArray a0 (NoPanic Q) (Ext w) (l++rest).length listed a w
 |[],s,K,z,_,h,rest,hk,listed,hd,hc,hg,a,w,β,r=>hk s a w β listed (Ag.refl s) h r hd hc hg
 |(i,fl)::l,s,K,z,hD,h,rest,hk,listed,hd,hc,hcg,a,w,β,r=>by
  replace h:X5 Y TI FZ al (i::bCt l) s K=some z:=h
  simp only[X5,bC] at h
  cases ho:al[i]? with
  |none=>rw[ho] at h;cases h
  |some o=>
   rw[ho] at h
   simp only at h
   have hg:al.toArray[i]? =some o:=by simpa using ho
   cases fl with
   |true=>
    rw[List.cons_append] at hc
    simp only[chk,Bool.and_eq_true] at hc
    have hfr:Nat.beq (Bc FZ o.op) 0=true∧frees FZ al a0 (l++rest)=true:=by
     rcases hcg with hcg|⟨_,hcg⟩
     ·have hcg':frees FZ al a0 ((i,true)::(l++rest))=true:=hcg
      simp only[frees,bC,ho,cond_true,Bool.and_eq_true] at hcg'
      exact hcg'
     ·exact absurd (Fx hcg).1 (by simp)
    obtain⟨v,s',h1,h2,h3,h4⟩:=bIo G r (Nat.eq_of_beq_eq_true hfr.1) h
    have hD':=hd.set (by simpa using hc.1.1.2)
    have h4':=h4.mono (hD (i,true) (by simp) o ho)
    refine Nc (i:=i) (oi:=o) (v:=v) hg hs hc.1.1.1 hc.1.1.2 hc.1.2 hd (fun _ _ _ h=>h) ?_ (Ext.refl w) ?_
    ·rcases h1 with⟨k1,k2⟩|⟨k1,k2⟩
     ·exact .inl ⟨k1,k2⟩
     ·exact .inr ⟨k1,k2⟩
    ·exact bIv G hs l s' K z (fun j hj=>hD j (by simp[hj])) h3 rest (fun s2 a2 w2 β2 li p1 p2 p3 p4 p5 p6=>hk s2 a2 w2 β2 li (h4'.trans p1) p2 p3 p4 p5 p6) _ hD' hc.2 (.inl hfr.2) _ w β h2
   |false=>
    replace hc:((Region.ready .any al.toArray listed==[i])&&(a0 !=some i|| !jB a0 (listed.setIfInBounds i true))&&chk al.toArray a0 (l++rest) (listed.setIfInBounds i true))=true:=hc
    simp only[Bool.and_eq_true,beq_iff_eq] at hc
    have hD':=hd.set (i:=i) (by rw[hc.1.1];simp)
    have hcase:(Nat.ble (Bc FZ o.op) 1=true∧frees FZ al a0 (l++rest)=true)∨(jB a0 (listed.setIfInBounds i true)=false∧aI3 (l++rest)=true):=by
     rcases hcg with hcg|⟨hn,hcg⟩
     ·have hcg':frees FZ al a0 ((i,false)::(l++rest))=true:=hcg
      simp only[frees,bC,ho,cond_false] at hcg'
      cases hb:Nat.ble (Bc FZ o.op) 1 with
      |true=>rw[hb] at hcg';exact .inl ⟨rfl,hcg'⟩
      |false=>
       rw[hb] at hcg'
       simp only[cond_false,Bool.and_eq_true] at hcg'
       refine .inr ⟨?_,hcg'.2⟩
       cases a0 with
       |none=>exact absurd hcg'.1 (by simp)
       |some b=>
        have hbi:b=i:=Nat.eq_of_beq_eq_true hcg'.1
        subst hbi
        have:=hc.1.2
        simpa using this
     ·exact .inr ⟨V5 hn,(Fx hcg).2⟩
    refine jU hc.1.1 (by simp) (fun i' hi'=> ?_)
    simp at hi';subst hi'
    refine wpOp_step hg fun K' hK'=>aXf G r h fun s' a' w' β' q1 q2 q3 q4=>hK' _ _ ?_
    have q1':=q1.mono (hD (i',false) (by simp) o ho)
    have cont:=fun hh=>bIv G hs l s' K z (fun j hj=>hD j (by simp[hj])) q2 rest (fun s2 a2 w2 β2 li p1 p2 p3 p4 p5 p6=>hk s2 a2 w2 β2 li (q1'.trans p1) p2 p3 p4 p5 p6) _ hD' hc.2 hh a' w' β' q3
    rcases hcase with⟨c1,c2⟩|⟨c1,c2⟩
    ·have hx:=q4 c1
     exact⟨fun _=>hx,qX (fun x hx'=>Ext.trans hx hx') _ _ _ _ (cont (.inl c2))⟩
    ·exact⟨fun hn=>(by rw[c1] at hn;cases hn),nA _ _ _ _ c1 (cont (.inr ⟨c1,c2⟩))⟩
theorem Dn0 {os:Array Oper}:Dn .any os (Array.replicate os.size false):=fun j oj hj hl=>by
 have hlt:=(Array.getElem?_eq_some_iff.1 hj).1
 rw[Array.getD_eq_getD_getElem?,Array.getElem?_replicate,if_pos hlt] at hl
 cases hl
theorem bBv {al:List Oper}{i:Nat}{l:List Nat}:aNm al (i::l)=match nth al i with|some o=>o::aNm al l|none=>aNm al l:=rfl
theorem aVx {al:List Oper}:∀{l:List Nat} {i:Nat} {o:Oper},i∈l→al[i]? =some o→o∈aNm al l
 |[],i,o,h,_=>by simp at h
 |x::l,i,o,h,ho=>by
  rw[bBv,bC]
  rcases List.mem_cons.1 h with rfl|h
  ·rw[ho];simp
  ·have:=aVx h ho
   cases al[x]? with
   |none=>exact this
   |some o'=>exact List.mem_cons_of_mem _ this
theorem bGy {β:Type}(l:List β)(k:Nat):tk l k++drp l k=l:=by rw[aYy,aNp];exact List.take_append_drop k l
theorem aVy {os:Array Oper}{an:An}{l:List Nat}(h:aDy FZ os.toList os an=some l):
  (Region.noSelect os=true∧l.length=os.size∧chz os l (Array.replicate os.size false)=true)∨
  (∃a0 ord,Region.noSelect os=true∧ord.length=os.size∧chk os a0 ord (Array.replicate os.size false)=true∧frees FZ os.toList a0 ord=true∧l=ord.map Prod.fst):=by
 cases an with
 |r a0 ord=>
  simp only[aDy] at h
  cases hb:(aNb os a0 ord&&frees FZ os.toList a0 ord) with
  |false=>rw[hb] at h;cases h
  |true=>
   rw[hb] at h
   have:=Option.some.inj h
   simp only[aNb,Bool.and_eq_true,beq_iff_eq] at hb
   exact .inr ⟨a0,ord,hb.1.1.1,hb.1.1.2,hb.1.2,hb.2,by rw[←this,Y7]⟩
 |z ord=>
  simp only[aDy] at h
  cases hb:(Region.noSelect os&&(Nat.beq (len ord) (len os.toList)&&chz os ord (Array.replicate os.size false))) with
  |false=>rw[hb] at h;cases h
  |true=>
   rw[hb] at h
   have:=Option.some.inj h;subst this
   simp only[Bool.and_eq_true,dA] at hb
   exact .inl ⟨hb.1,by have:=Nat.eq_of_beq_eq_true hb.2.1;simpa using this,hb.2.2⟩
 |_=>cases h
theorem bGz (G:Good P g Y TI FZ)(hm:P.follows .mixedOrders=true){os:Array Oper}{an:An}{l l1 l2:List Nat}(h:aDy FZ os.toList os an=some l)(hl:l=l1++l2){id:Nat}{Q:Exit→Act→World→Prop}{D:Nat→Prop}{D2:Nat→Prop}{α α2:Type}{s:St U}{z:α}{K1:St U→Option α}
  (hD:∀o∈os.toList,∀n,Wr os.toList o n→D n) (h1:X5 Y TI FZ os.toList l1 s K1=some z)
  (hk:∀s1,Ag D s s1→K1 s1=some z→∃(K2:St U→Option α2) (z2:α2),(∀i∈l2,∀o,os.toList[i]? =some o→∀n,Wr os.toList o n→D2 n)∧X5 Y TI FZ os.toList l2 s1 K2=some z2∧∀a1 w1 β1,bY Y.C E s1 a1 w1 β1→∀s' a w β,Ag D2 s1 s'→K2 s'=some z2→bY Y.C E s' a w β→Q .normal a w)
  {a:Act} {w:World} {β:List Tr} (r:bY Y.C E s a w β):(Code.region id os true).wp P Q a w:=by
 have hos:os.toList.toArray=os:=by simp
 have hmem:∀(i:Nat) (o:Oper),os.toList[i]? =some o→∀n,Wr os.toList o n→D n:=fun i o ho=>hD o (List.mem_of_getElem? ho)
 have r0:bY Y.C E s a w.drew β:=r.ext (Ext.drew w)
 rcases aVy h with⟨hs,hlen,hc⟩|⟨a0,ord,hs,hlen,hc,hfr,hlo⟩
 ·refine wp_region_noPanic (wp_region_any hm ?_)
  have:=bKt G (E:=E) (al:=os.toList) (Q:=NoPanic Q) (D:=D) l1 s K1 z (fun i _=>hmem i) h1 l2 (fun s1 a1 w1 β1 listed g1 g2 g3 g4=>by
   obtain⟨K2,z2,e1,e2,e3⟩:=hk s1 g1 g2
   have:=bKt G (E:=E) (al:=os.toList) (Q:=NoPanic Q) (D:=D2) l2 s1 K2 z2 e1 e2 [] (fun s' a' w' β' li p1 p2 p3 p4=>⟨by simpa[chz] using p4,e3 a1 w1 β1 g3 s' a' w' β' p1 p2 p3⟩) listed (by simpa using g4) a1 w1 β1 g3
   simpa using this) (Array.replicate os.size false) (by rw[hos,←hl];exact hc) a w.drew β r0
  rw[hos,←hl,hlen] at this
  exact this
 ·refine wp_region_noPanic (wp_region_any hm (mR (a0:=a0) (S:=Ext w.drew) _ _ _ _ ?_))
  have hl1:ord.map Prod.fst=l1++l2:=by rw[←hlo,hl]
  obtain⟨o1,o2,ho,hm1,hm2⟩:=List.map_eq_append_iff.1 hl1
  subst hm1;subst hm2
  have:=bIv G (E:=E) (al:=os.toList) (a0:=a0) (by rw[hos];exact hs) (Q:=Q) (D:=D) o1 s K1 z (fun i _=>hmem i.1) (by rw[Y7];exact h1) o2 (fun s1 a1 w1 β1 listed g1 g2 g3 g4 g5 g6=>by
   obtain⟨K2,z2,e1,e2,e3⟩:=hk s1 g1 g2
   have:=bIv G (E:=E) (al:=os.toList) (a0:=a0) (by rw[hos];exact hs) (Q:=Q) (D:=D2) o2 s1 K2 z2 (fun i hi=>e1 i.1 (List.mem_map.2 ⟨i,hi,rfl⟩)) (by rw[Y7];exact e2) [] (fun s' a' w' β' li p1 p2 p3 p4 p5 p6=>qY (P:=P) (a0:=a0) (S:=Ext w') (Q:=NoPanic Q) (by simpa[chk] using p5) (e3 a1 w1 β1 g3 s' a' w' β' p1 p2 p3) 0) listed g4 (by simpa using g5) (by simpa using g6) a1 w1 β1 g3
   simpa using this) (Array.replicate os.size false) (by rw[hos];exact Dn0) (by rw[hos,←ho];exact hc) (.inl (by rw[←ho];exact hfr)) a w.drew β r0
  rw[hos,←ho,hlen] at this
  exact this
theorem bG0 {a0:Option Nat}{n:Nat}:jB a0 (Array.replicate n false)=true:=by
 cases a0 with
 |none=>rfl
 |some b=>
  simp only[jB,Bool.not_eq_true']
  rw[Array.getD_eq_getD_getElem?,Array.getElem?_replicate]
  split<;>rfl
theorem bKu (hE:E.fr=[])(hP:E.prm=[])(G:Good P g Y TI FZ)(hm:P.follows .mixedOrders=true){os:Array Oper}{id:Nat}{kb:Bool}{f a0:Option Nat}{ord:List (Nat×Bool)}{Q:Exit→Act→World→Prop}{D:Nat→Prop}{s:St U}{z:α}{N:St U→Option α}
  (hD:∀o∈os.toList,∀n,Wr os.toList o n→D n) (hc:X7 os f a0 ord=true) (h:X6 Y TI FZ os.toList a0 (bif kb then some (len s.m.o,s.m.k) else none) ord f true true (wpe os.toList f s) N=some z)
  (hN:∀s' a w β,Ag D s s'→N s'=some z→bY Y.C E s' a w β→Q .normal a w) {a:Act} {w:World} {β:List Tr} (r:bY Y.C E s a w β):(Code.region id os true).wp P Q a w:=by
 have hos:os.toList.toArray=os:=by simp
 have hmem:∀i∈ord,∀o,os.toList[i.1]? =some o→∀n,Wr os.toList o n→D n:=fun i _ o ho=>hD o (List.mem_of_getElem? ho)
 have r0:bY Y.C E s a w.drew β:=r.ext (Ext.drew w)
 simp only[X7,Bool.and_eq_true,dA] at hc
 obtain⟨hs,hlen,hcf⟩:=hc
 have hlen:=Nat.eq_of_beq_eq_true hlen
 have hsm:(wpe os.toList f s).m=s.m:=by
  unfold wpe
  cases f with
  |none=>rfl
  |some j=>
   simp only
   cases nth os.toList j with
   |none=>rfl
   |some o=>simp only;cases o.dst<;>rfl
 have r1:bY Y.C E (wpe os.toList f s) a w.drew β:=by
  unfold wpe
  cases f with
  |none=>exact r0
  |some j=>
   simp only
   cases nth os.toList j with
   |none=>exact r0
   |some o=>exact r0.aDA
 have hag:Ag D s (wpe os.toList f s):=by
  unfold wpe
  cases f with
  |none=>exact Ag.refl s
  |some j=>
   simp only[bC]
   cases ho:os.toList[j]? with
   |none=>exact Ag.refl s
   |some o=>exact(Ag.refl s).put (fun n e=>hD o (List.mem_of_getElem? ho) n (.inl e))
 have main:∀(E':Env U g) (kd:Option (Nat×Nat)),E'.prm=[]→Lk E' kd true true w.drew w.drew→bY Y.C E' (wpe os.toList f s) a w.drew β→(∀s' a w β,bY Y.C E' s' a w β→bY Y.C E s' a w β)→X6 Y TI FZ os.toList a0 kd ord f true true (wpe os.toList f s) N=some z→(Code.region id os true).wp P Q a w:=fun E' kd hP' hl r' hback h=>by
  refine wp_region_noPanic (wp_region_any hm (mR (a0:=a0) (S:=Ext w.drew) _ _ _ _ ?_))
  have hQ:∀s' a w β,Ag D (wpe os.toList f s) s'→N s'=some z→bY Y.C E' s' a w β→Q .normal a w:=fun s' a w β g1 g2 g3=>hN s' a w β (hag.trans g1) g2 (hback s' a w β g3)
  cases f with
  |none=>
   have:=aZo (E:=E') G (al:=os.toList) (a0:=a0) (kd:=kd) (Q:=Q) (D:=D) (by rw[hos];exact hs) ord true true _ N z hmem h hQ (Array.replicate os.size false) (by rw[hos];exact Dn0) (by rw[hos];exact hcf) bG0 a w.drew β w.drew hl r'
   rw[hos,hlen] at this;exact this
  |some j=>
   simp only[Bool.and_eq_true,bne_iff_ne,ne_eq] at hcf
   obtain⟨hja,hcf⟩:=hcf
   split at hcf
   ·rename_i oj hj
    have:=bGx (E:=E') G (al:=os.toList) (a0:=a0) (kd:=kd) (Q:=Q) (D:=D) (by rw[hos];exact hs) hP' (j:=j) (oj:=oj) (by simpa using hj) hja ord true true _ N z hmem h hQ (Array.replicate os.size false) (by rw[hos];exact Dn0) (by rw[hos];exact hcf) bG0 a w.drew β w.drew hl r'
    rw[hos,hlen] at this;exact this
   ·cases hcf
 cases kb with
 |false=>exact main E none hP ⟨fun _ _ h=>(by cases h),fun _=>rfl,fun _=>rfl,fun _=>Ext.refl _⟩ r1 (fun _ _ _ _ h=>h) h
 |true=>
  have hf:=r1.frame hP
  rw[hsm] at hf
  exact main (E.frm [(w.drew,s.m.o.length,s.m.k)]) (some (s.m.o.length,s.m.k)) hP ⟨fun n k h=>(by cases h;exact List.mem_cons_self),fun _=>rfl,fun h=>(by cases h),fun _=>Ext.refl _⟩ hf (fun _ _ _ _ h=>h.aBX hE) (by rw[dA] at h;exact h)
theorem bKv (G:Good P g Y TI FZ)(hm:P.follows .mixedOrders=true){os:Array Oper}{id:Nat}{bs:List Nat}{ord:List (Nat×Bool)}{Q:Exit→Act→World→Prop}{D:Nat→Prop}{s:St U}{z:α}{N:St U→Option α}
  (hD:∀o∈os.toList,∀n,Wr os.toList o n→D n) (hc:X7 os none none ord=true) (h:aYw Y TI FZ os.toList bs ord s N=some z)
  (hN:∀s' a w β,Ag D s s'→N s'=some z→bY Y.C E s' a w β→Q .normal a w) {a:Act} {w:World} {β:List Tr} (r:bY Y.C E s a w β):(Code.region id os true).wp P Q a w:=by
 have hos:os.toList.toArray=os:=by simp
 have r0:bY Y.C E s a w.drew β:=r.ext (Ext.drew w)
 simp only[X7,Bool.and_eq_true,dA] at hc
 obtain⟨hs,hlen,hcf⟩:=hc
 have hlen:=Nat.eq_of_beq_eq_true hlen
 let Yb:Nat→Prop:=fun k=>∃b∈bs,∃t,β[b]? =some t∧t.b=some k
 refine wp_region_noPanic (wp_region_any hm (mR (a0:=none) (S:=Bel Yb w.drew) _ _ _ _ ?_))
 have:=Fw (E:=E) G (al:=os.toList) (Q:=Q) (D:=D) (by rw[hos];exact hs) (bs:=bs) (Yb:=Yb) (wS:=w.drew) ord s N z (fun i _ o ho=>hD o (List.mem_of_getElem? ho)) h hN (Array.replicate os.size false) (by rw[hos];exact Dn0) (by rw[hos];exact hcf) a w.drew β (Bel.refl _) (fun b e t k h1 h2 h3 h4=>⟨fun hb=>⟨b,hb,t,h3,h4⟩,fun hb=>⟨fun⟨b',k1,t',k2,k3⟩=>r0.hp.dist b b' t t' k (fun e=>hb (e▸k1)) h3 k2 (Tr.root h4) (Tr.root k3),(r0.hp.new b t k h3 (Tr.root h4)).2⟩⟩) r0
 rw[hos,hlen] at this;exact this
theorem bEx (hE:E.fr=[])(hP:E.prm=[])(G:Good P g Y TI FZ)(hm:P.follows .mixedOrders=true)(id:Nat)(os:Array Oper)(d:Bool)(an:An){α:Type}(s:St U)(N:St U→Option α)(X:Nat→St U→Option α)(R:St U→Option α)(z:α)(D:Nat→Prop)(hD:∀o∈os.toList,∀n,Wr os.toList o n→D n)(hA:AW D an)(h:rgn Y TI FZ os.toList os d an s N=some z):Snd P Y E D (.region id os d) s z N X R:=by
 intro Q hN hX hR a w β r
 have hos:os.toList.toArray=os:=by simp
 have plain:∀an,(bif d then(match aDy FZ os.toList os an with|some l=>X5 Y TI FZ os.toList l s N|none=>none) else ops Y TI FZ os.toList os.toList s N)=some z→(Code.region id os d).wp P Q a w:=fun an h=>by
  cases d with
  |false=>
   refine wp_region_list ?_
   have:=Tt G (E:=E) (al:=os.toList) (Q:=Q) (D:=D) os.toList s N z hD h [] (fun s' a w β g1 g2 g3=>wpList_nil (hN s' a w β g1 g2 g3)) a w β r
   rw[List.append_nil,hos] at this;exact this
  |true=>
   simp only[cond_true] at h
   cases ho:aDy FZ os.toList os an with
   |none=>rw[ho] at h;cases h
   |some l=>
    rw[ho] at h
    exact bGz G hm (l1:=l) (l2:=[]) (α2:=α) (D2:=D) ho (by simp) hD h (fun s1 g1 g2=>⟨N,z,fun i hi=>by simp at hi,g2,fun a1 w1 β1 _ s' a' w' β' p1 p2 p3=>hN s' a' w' β' (g1.trans p1) p2 p3⟩) r
 cases an with
 |rj k tm a'=>
  cases d with
  |false=>
   replace h:ops Y TI FZ os.toList (tk os.toList k) s (fun s1=>bif wrG tm.ws os.toList (drp os.toList k) then bd (ops Y TI FZ os.toList (drp os.toList k) s1 fun s'=>col Y s1 tm s') fun d=>N (reb Y s1 tm d) else none)=some z:=h
   refine wp_region_list ?_
   have:=Tt G (E:=E) (al:=os.toList) (Q:=Q) (D:=D) (tk os.toList k) s _ z (fun o ho=>hD o (by rw[aYy] at ho;exact List.mem_of_mem_take ho)) h (drp os.toList k) (fun s1 a1 w1 β1 g1 g2 g3=>by
    cases hb:wrG tm.ws os.toList (drp os.toList k) with
    |false=>rw[hb] at g2;cases g2
    |true=>
     rw[hb] at g2
     simp only[cond_true] at g2
     obtain⟨d,k1,k2⟩:=aC g2
     have:=Tt G (E:=E) (al:=os.toList) (Q:=Q) (D:=fun n=>Ey tm.ws 0 n=true) (drp os.toList k) s1 _ d (Y6 hb) k1 [] (fun s' a' w' β' p1 p2 p3=>wpList_nil (by
      obtain⟨β'',r''⟩:=uX hE g3 p3 p1 p2
      obtain⟨_,_,_,hs,_⟩:=Fv p2
      exact hN _ _ _ _ (g1.trans ((aD3 hs).mono hA)) k2 r'')) a1 w1 β1 g3
     rw[List.append_nil] at this;exact this) a w β r
   rw[bGy,hos] at this;exact this
  |true=>
   replace h:(match aDy FZ os.toList os a' with|some l=>X5 Y TI FZ os.toList (tk l k) s (fun s1=>bif wrG tm.ws os.toList (aNm os.toList (drp l k)) then bd (X5 Y TI FZ os.toList (drp l k) s1 fun s'=>col Y s1 tm s') fun d=>N (reb Y s1 tm d) else none)|none=>none)=some z:=h
   cases ho:aDy FZ os.toList os a' with
   |none=>rw[ho] at h;cases h
   |some l=>
    rw[ho] at h
    refine bGz G hm (l1:=tk l k) (l2:=drp l k) (α2:=Dat U tm.it) (D2:=fun n=>Ey tm.ws 0 n=true) ho (bGy l k).symm hD h (fun s1 g1 g2=> ?_) r
    cases hb:wrG tm.ws os.toList (aNm os.toList (drp l k)) with
    |false=>rw[hb] at g2;cases g2
    |true=>
     rw[hb] at g2
     simp only[cond_true] at g2
     obtain⟨d,k1,k2⟩:=aC g2
     refine⟨_,d,fun i hi o hio=>Y6 hb o (aVx hi hio),k1,fun a1 w1 β1 r1 s' a2 w2 β2 p1 p2 p3=> ?_⟩
     obtain⟨β'',r''⟩:=uX hE r1 p3 p1 p2
     obtain⟨_,_,_,hs,_⟩:=Fv p2
     exact hN _ _ _ _ (g1.trans ((aD3 hs).mono hA)) k2 r''
 |y kb f a0 ord=>
  cases d with
  |false=>cases h
  |true=>
   replace h:(bif true&&X7 os f a0 ord then X6 Y TI FZ os.toList a0 (bif kb then some (len s.m.o,s.m.k) else none) ord f true true (wpe os.toList f s) N else none)=some z:=h
   cases hc:X7 os f a0 ord with
   |false=>rw[hc] at h;cases h
   |true=>
    rw[hc] at h
    exact bKu hE hP G hm hD hc h hN r
 |w bs ord=>
  cases d with
  |false=>cases h
  |true=>
   replace h:(bif true&&X7 os none none ord then aYw Y TI FZ os.toList bs ord s N else none)=some z:=h
   cases hc:X7 os none none ord with
   |false=>rw[hc] at h;cases h
   |true=>
    rw[hc] at h
    exact bKv G hm hD hc h hN r
 |n=>exact plain .n h
 |s x y=>exact plain (.s x y) h
 |j t x=>exact plain (.j t x) h
 |jx t x=>exact plain (.jx t x) h
 |l t f x=>exact plain (.l t f x) h
 |r a0 o=>exact plain (.r a0 o) h
 |z o=>exact plain (.z o) h
 |il i a b=>exact plain (.il i a b) h
end
end Go.EV

namespace Go.EV
open Go.RowKit Go.VK
variable {U:Uni} {Y:Lay U} {TI:List (Nat×TInfo)} {FZ:List (Nat×Sum U)} {P:Program} {g:GI} {E:Env U g}
section
variable {s:St U} {a:Act} {w w0:World} {β:List Tr}
theorem bEy (hti:Ao P TI=true)(r:bY Y.C E s a w β){x:ResultVar}{y:Sv U}(h:bIf TI s x=some y):∃v,(V6 P w a.tmps x).run P w= .ok v w∧y.mean Y.C w (E.X β) β s.m v:=by
 cases x with
 |tmp n=>exact⟨_,by simp[V6],r.tm n y (by rw[←bC];exact h)⟩
 |cell c t=>
  simp only[bIf] at h
  split at h
  ·rename_i b i h1 h2
   have hl:load Y s i (.box b 0)=some y:=h
   have hmb:(Lf.box b 0:Lf U).mean Y.C w (E.X β) β s.m (a.tmps.getD c undef):=r.tm c (.l (.box b 0)) (by rw[←bC];exact h1)
   obtain⟨p,v',k1,k2,k3⟩:=aVf r (dM hti h2) hmb hl
   exact⟨v',by simp only[V6,k1,asAddr,Sem.run_bind,Sem.run_pure,Result.andThen_ok,k2 w (Ext.refl w)],k3⟩
  ·cases h
theorem vL (hti:Ao P TI=true)(r:bY Y.C E s a w β):∀{l:List ResultVar} {xs:List (Sv U)},Yh TI s l=some xs→∃vs:List Value,(l.mapM (V6 P w a.tmps)).run P w= .ok vs w∧vs.length=xs.length∧∀(i:Nat) (v:Value) (x:Sv U),vs[i]? =some v→xs[i]? =some x→x.mean Y.C w (E.X β) β s.m v
 |[],xs,h=>by
  have:=Option.some.inj h;subst this
  exact⟨[],rfl,rfl,by simp⟩
 |x::l,xs,h=>by
  simp only[Yh] at h
  cases h1:bIf TI s x with
  |none=>rw[h1] at h;cases h
  |some y=>
   cases h2:Yh TI s l with
   |none=>rw[h1,h2] at h;cases h
   |some ys=>
    rw[h1,h2] at h
    have:=Option.some.inj h;subst this
    obtain⟨v,k1,k2⟩:=bEy hti r h1
    obtain⟨vs,k3,k4,k5⟩:=vL hti r h2
    refine⟨v::vs,by simp[List.mapM_cons,k1,k3],by simp[k4],fun i v' W q1 q2=> ?_⟩
    cases i with
    |zero=>simp at q1 q2;subst q1;subst q2;exact k2
    |succ i=>exact k5 i v' W (by simpa using q1) (by simpa using q2)
theorem yM {fn:Func}{l:List ResultVar}(hf:fn.results=l.toArray){vs:List Value}(h:(l.mapM (V6 P w a.tmps)).run P w= .ok vs w):(results fn a.tmps).run P w= .ok (if h:vs.toArray.size=1 then vs.toArray[0] else .tuple vs.toArray) w:=by
 have e1:results fn a.tmps=(do
   let vs←fn.results.mapM (V6 P w a.tmps)
   pure (if h:vs.size=1 then vs[0] else .tuple vs)):=rfl
 rw[e1,hf,List.mapM_toArray]
 simp only[Sem.run_bind,Sem.run_map,h,Result.andThen_ok,Sem.run_pure]
end
section
def oU (P:Program)(IL:Il):Prop:=∀(f:Nat) (c:Code) (n:Nat) (rv:List ResultVar),mE IL f=some (c,n,rv)→∃fn,P.funcs[f]? =some fn∧fn.body=some c∧fn.ntmps=n∧fn.results=rv.toArray∧∀args w,(callFunc f args).run P w= .ok (.enter f args) w
theorem bKw:oU P []:=fun _ _ _ _ h=>by cases h
theorem Np {IL:Il}{f:Nat}{c:Code}{n:Nat}{rv:List ResultVar}{fn:Func}(hf:P.funcs[f]? =some fn)(hb:fn.body=some c)(hn:fn.ntmps=n)(hl:fn.results=rv.toArray)(hE:∀args w,(callFunc f args).run P w= .ok (.enter f args) w)(h:oU P IL):oU P ((f,c,n,rv)::IL):=fun f' c' n' rv' h'=>by
 have h':cond (Nat.beq f f') (some (c,n,rv)) (mE IL f')=some (c',n',rv'):=h'
 cases hb':Nat.beq f f' with
 |true=>
  rw[hb'] at h'
  have e:=Option.some.inj h'
  injection e with e1 e2
  injection e2 with e2 e3
  subst e1;subst e2;subst e3
  have:=Nat.eq_of_beq_eq_true hb';subst this
  exact⟨fn,hf,hb,hn,hl,hE⟩
 |false=>rw[hb'] at h';exact h f' c' n' rv' h'
def Env.pinned (E:Env U g)(l:List (Sv U×Value)):Env U g:=⟨E.X0,E.Y0,E.w0,E.prm,E.fr,E.h0,E.hY,E.hXY,E.hg,l++E.pin⟩
def bM4 (s:St U)(a:Act):List (Sv U×Value):=s.t.zipIdx.map fun p=>(p.1,a.tmps.getD p.2 undef)
theorem aVz {C:Cod U}{w:World}{X:Nat→Prop}{β:List Tr}{m:Mm U}:∀{ys:List (Sv U)} {l:List (Bool×List (Lf U))} {vs:List Value},bBg ys=some l→vs.length=ys.length→(∀(i:Nat) (v:Value) (x:Sv U),vs[i]? =some v→ys[i]? =some x→x.mean C w X β m v)→vs.length=l.length∧∀(i:Nat) (v:Value) (x:Bool×List (Lf U)),vs[i]? =some v→l[i]? =some x→Mp C w X β m v x
 |[],l,vs,h,hl,_=>by
  have:=Option.some.inj h;subst this
  exact⟨hl,fun i v x _ h=>by simp at h⟩
 |y::ys,l,[],h,hl,_=>by simp at hl
 |y::ys,l,v::vs,h,hl,hm=>by
  simp only[bBg] at h
  cases h1:sv2 y with
  |none=>rw[h1] at h;cases h
  |some p=>
   cases h2:bBg ys with
   |none=>rw[h1,h2] at h;cases h
   |some ps=>
    rw[h1,h2] at h
    have:=Option.some.inj h;subst this
    obtain⟨k1,k2⟩:=aVz h2 (by simpa using hl) (fun i v x p q=>hm (i+1) v x (by simpa using p) (by simpa using q))
    refine⟨by simp[k1],fun i u x p' q=> ?_⟩
    cases i with
    |zero=>
     simp at p' q;subst p';subst q
     have h0:=hm 0 v y rfl rfl
     cases y with
     |l x=>have:=Option.some.inj h1;subst this;exact⟨x,rfl,h0⟩
     |a cs=>have:=Option.some.inj h1;subst this;exact h0
     |t xs=>cases h1
    |succ i=>exact k2 i u x (by simpa using p') (by simpa using q)
theorem bEz {C:Cod U}{w:World}{X:Nat→Prop}{β:List Tr}{m:Mm U}{ys:List (Sv U)}{y:Sv U}{vs:List Value}(h:bKi ys=some y)(hl:vs.length=ys.length)(hm:∀(i:Nat) (v:Value) (x:Sv U),vs[i]? =some v→ys[i]? =some x→x.mean C w X β m v):y.mean C w X β m (if h:vs.toArray.size=1 then vs.toArray[0] else .tuple vs.toArray):=by
 match ys,vs,h,hl,hm with
 |[x],[v],h,_,hm=>
  have:=Option.some.inj h;subst this
  exact hm 0 v x rfl rfl
 |[],[],h,_,_=>
  have:=Option.some.inj h;subst this
  exact⟨[],rfl,rfl,fun i v x h=>by simp at h⟩
 |x::x'::xs,v::v'::vs,h,hl,hm=>
  replace h:(match bBg (x::x'::xs) with|some l=>some (Sv.t l)|none=>none)=some y:=h
  cases h1:bBg (x::x'::xs) with
  |none=>rw[h1] at h;cases h
  |some l=>
   rw[h1] at h
   have:=Option.some.inj h;subst this
   rw[dif_neg (by simp)]
   obtain⟨k1,k2⟩:=aVz h1 hl hm
   exact⟨_,rfl,k1,k2⟩
variable {IL:Il} {α:Type} {EV:An→Code→St U→(St U→Option α)→Option α}
def aZr (P:Program)(Y:Lay U)(g:GI)(EV:An→Code→St U→(St U→Option α)→Option α):Prop:=∀(E:Env U g),E.fr=[]→E.prm=[]→∀(an:An) (c:Code) (s:St U) (K:St U→Option α) (z:α),EV an c s K=some z→Snd P Y E (fun _=>True) c s z K (fun _ _=>none) K
theorem bG1 (G:Good P g Y TI FZ)(hI:oU P IL)(hEV:aZr P Y g EV)(hE:E.fr=[])(hP:E.prm=[]){s:St U}{a:Act}{w:World}{β:List Tr}(r:bY Y.C E s a w β){al:List Oper}{o:Oper}{an:An}{K:St U→Option α}{z:α}(h:inl TI IL EV an o s K=some z){K':Act→World→Prop}{Q:Exit→Act→World→Prop}
  (hk:∀s' a' w' β',Ag (Wr al o) s s'→K s'=some z→bY Y.C E s' a' w' β'→K' a' w'):o.wp P a w K' Q:=by
 unfold inl at h
 split at h
 ·rename_i f xa ats ho
  cases hf:mE IL f with
  |none=>rw[hf] at h;cases h
  |some p=>
   obtain⟨c,n,rv⟩:=p
   rw[hf] at h
   simp only at h
   cases hb:Nat.ble (len xa.toList) n with
   |false=>rw[hb] at h;cases h
   |true=>
    rw[hb] at h
    simp only[cond_true] at h
    have hlen:xa.toList.length≤n:=by have:=Nat.le_of_ble_eq_true hb;rwa [dA] at this
    obtain⟨fn,f1,f2,f3,f4,f5⟩:=hI f c n rv hf
    let E':Env U g:=E.pinned (bM4 s a)
    have hX:∀β,E'.X β=E.X β:=fun _=>rfl
    have H':Hp Y.C E' s.m β w:=⟨r.hp.ext,r.hp.len,r.hp.vers,r.hp.cnt,r.hp.new,r.hp.dist,r.hp.nd,r.hp.ok,fun x hx=>by
     rcases List.mem_append.1 hx with hx|hx
     ·obtain⟨⟨y,m⟩,hy,rfl⟩:=List.mem_map.1 hx
      exact r.tm m y (by simpa using List.mem_zipIdx_iff_getElem?.1 hy)
     ·exact r.hp.pin x hx,r.hp.prm,r.hp.fr⟩
    have r':bY Y.C E' ⟨xa.toList.map (gH s)++List.replicate (n-len xa.toList) (.l .any),s.m,s.fr⟩ {tmps:=(xa.toList.map a.eval).toArray++Array.replicate (fn.ntmps-(xa.toList.map a.eval).toArray.size) undef,defers:=[]} w β:=by
     refine⟨H',rfl,?_,fun m x hx=> ?_⟩
     ·simp only[dA,List.length_append,List.length_map,List.length_replicate,Array.size_append,List.size_toArray,Array.size_replicate,f3]
     ·by_cases hm:m<xa.toList.length
      ·rw[List.getElem?_append_left (by rw[List.length_map];exact hm)] at hx
       have h1:(xa.toList.map a.eval)[m]? =some ((xa.toList.map a.eval)[m]'(by rw[List.length_map];exact hm)):=List.getElem?_eq_getElem _
       obtain⟨y,e1,e2⟩:=Tq (s:=s) (a:=a) m _ x h1 hx
       have hv:((xa.toList.map a.eval).toArray++Array.replicate (fn.ntmps-(xa.toList.map a.eval).toArray.size) undef).getD m undef=a.eval y:=by
        rw[←e1,Array.getD_eq_getD_getElem?,Array.getElem?_append_left (by simpa using hm)]
        simp[h1]
       show x.mean Y.C w (E'.X β) β s.m (((xa.toList.map a.eval).toArray++Array.replicate (fn.ntmps-(xa.toList.map a.eval).toArray.size) undef).getD m undef)
       rw[hv,e2]
       exact Bd r
      ·rw[List.getElem?_append_right (by rw[List.length_map];omega)] at hx
       have:=List.mem_of_getElem? hx
       simp at this
       rw[this.2];trivial
    let R':Value→World→Prop:=fun v w'=>∃(y:Sv U) (s':St U) (β':List Tr),K (put ⟨s.t,s'.m,s.fr⟩ o.dst y)=some z∧bY Y.C E ⟨s.t,s'.m,s.fr⟩ a w' β'∧y.mean Y.C w' (E.X β') β' s'.m v∧Am s.m s'.m
    have done:∀s' a' w' β',Ag (fun _=>True) ⟨xa.toList.map (gH s)++List.replicate (n-len xa.toList) (.l .any),s.m,s.fr⟩ s'→(match Yh TI s' rv with
      |some ys=>match bKi ys with
       |some y=>K (put ⟨s.t,s'.m,s.fr⟩ o.dst y)
       |none=>none
      |none=>none)=some z→bY Y.C E' s' a' w' β'→a'.defers=[]∧∃v,(results fn a'.tmps).run P w'= .ok v w'∧∃v',Ending.returned v= .returned v'∧R' v' w':=fun s' a' w' β' hag hq r2=>by
     split at hq
     ·rename_i ys hys
      split at hq
      ·rename_i y hy
       obtain⟨vs,k1,k2,k3⟩:=vL G.ti r2 hys
       refine⟨r2.defers,_,yM f4 k1,_,rfl,y,s',β',hq,?_,bEz hy k2 k3,hag.m⟩
       have hp:Hp Y.C E s'.m β' w':=⟨r2.hp.ext,r2.hp.len,r2.hp.vers,r2.hp.cnt,r2.hp.new,r2.hp.dist,r2.hp.nd,r2.hp.ok,fun x hx=>r2.hp.pin x (List.mem_append.2 (.inr hx)),r2.hp.prm,r2.hp.fr⟩
       exact⟨hp,r.defers,r.tsz,fun m x hx=>r2.hp.pin (x,a.tmps.getD m undef) (List.mem_append.2 (.inl (List.mem_map.2 ⟨(x,m),List.mem_zipIdx_iff_getElem?.2 hx,rfl⟩)))⟩
      ·cases hq
     ·cases hq
    have hc:Calls P f (xa.toList.map a.eval).toArray w fun e w'=>∃v,e= .returned v∧R' v w':=by
     refine calls_of_wp f1 f2 ?_
     exact hEV E' hE hP an c _ _ z h _ (fun s' a' w' β' hg hq r2=>done s' a' w' β' hg hq r2) (fun i s' a' w' β' _ hq _=>by cases hq) (fun s' a' w' β' hg hq r2=>done s' a' w' β' hg hq r2) _ _ _ r'
    refine wpc (Fs ho f5) hc ?_
    rintro v w' ⟨y,s',β',k1,k2,k3,k4⟩
    exact hk (put ⟨s.t,s'.m,s.fr⟩ o.dst y) _ w' β' (Ag.put (s:=s) (s':=⟨s.t,s'.m,s.fr⟩) ⟨fun _ _=>rfl,rfl,rfl,k4⟩ (fun n e=> .inl e)) k1 (k2.put fun _=>k3)
 ·cases h
theorem aOb (G:Good P g Y TI FZ)(hI:oU P IL)(hEV:aZr P Y g EV)(hE:E.fr=[])(hP:E.prm=[]){s:St U}{a:Act}{w:World}{β:List Tr}(r:bY Y.C E s a w β){al:List Oper}{i:Nat}{o:Oper}(ho:al[i]? =some o){l:List Nat}{an:An}{K:St U→Option α}{z:α}(h:ilr Y TI FZ IL EV al (i::l) an s K=some z):
  ∃an',ilo an'=ilo an∧∀(K':Act→World→Prop) (Q:Exit→Act→World→Prop),(∀s' a' w' β',Ag (Wr al o) s s'→ilr Y TI FZ IL EV al l an' s' K=some z→bY Y.C E s' a' w' β'→(Nat.ble (Bc FZ o.op) 1=true→Ext w w')→K' a' w')→if Region.wanted o (yielded al.toArray a.tmps)=true then o.wp P a w K' Q else K' (a.put o.dst undef) w:=by
 have plain:∀an',ilo an'=ilo an→grd Y TI FZ al o s (fun s'=>ilr Y TI FZ IL EV al l an' s' K)=some z→∃an',ilo an'=ilo an∧∀(K':Act→World→Prop) (Q:Exit→Act→World→Prop),(∀s' a' w' β',Ag (Wr al o) s s'→ilr Y TI FZ IL EV al l an' s' K=some z→bY Y.C E s' a' w' β'→(Nat.ble (Bc FZ o.op) 1=true→Ext w w')→K' a' w')→if Region.wanted o (yielded al.toArray a.tmps)=true then o.wp P a w K' Q else K' (a.put o.dst undef) w:=
  fun an' he h=>⟨an',he,fun K' Q hk=>aXf G r h hk⟩
 unfold ilr at h
 rw[bC,ho] at h
 cases an with
 |il k b q=>
  simp only at h
  cases hb:Nat.beq k i with
  |false=>rw[hb] at h;exact plain _ rfl h
  |true=>
   rw[hb] at h
   simp only[cond_true] at h
   cases hc:Nat.beq (Bc FZ o.op) 2 with
   |false=>rw[hc] at h;cases h
   |true=>
    rw[hc] at h
    simp only[cond_true] at h
    have hc:=Nat.eq_of_beq_eq_true hc
    refine⟨q,rfl,fun K' Q hk=> ?_⟩
    obtain⟨s1,r1,h1,h2⟩:=Zt r h
    rcases h2 with⟨hw,h2⟩|⟨hw,h2⟩
    ·rw[if_pos hw]
     exact bG1 G hI hEV hE hP r1 (al:=al) h2 (fun s' a' w' β' q1 q2 q3=>hk s' a' w' β' (h1.trans q1) q2 q3 (fun hh=>by rw[hc] at hh;cases hh))
    ·rw[if_neg (by rw[hw];simp)]
     exact hk _ _ w β (h1.put (fun n e=> .inl e)) h2 (r1.put (x:= .l .und) (v:=undef) (fun _=>rfl)) (fun _=>Ext.refl w)
 |_=>exact plain _ rfl h
theorem bLr (G:Good P g Y TI FZ)(hI:oU P IL)(hEV:aZr P Y g EV)(hE:E.fr=[])(hP:E.prm=[]){al:List Oper}{Q:Exit→Act→World→Prop}{D:Nat→Prop}:∀(n i:Nat) (an:An) (s:St U) (K:St U→Option α) (z:α),i+n=al.length→(∀o∈al,∀n,Wr al o n→D n)→ilr Y TI FZ IL EV al (rng n i) an s K=some z→
  (∀s' a w β,Ag D s s'→K s'=some z→bY Y.C E s' a w β→Q .normal a w)→∀a w β,bY Y.C E s a w β→wpList P al.toArray Q (al.drop i) a w
 |0,i,an,s,K,z,hn,hD,h,hQ,a,w,β,r=>by
  rw[List.drop_eq_nil_of_le (by omega)]
  exact wpList_nil (hQ s a w β (Ag.refl s) h r)
 |n+1,i,an,s,K,z,hn,hD,h,hQ,a,w,β,r=>by
  have hi:i<al.length:=by omega
  have ho:al[i]? =some al[i]:=List.getElem?_eq_getElem hi
  obtain⟨an',_,hk⟩:=aOb G hI hEV hE hP r ho (l:=rng n (Nat.succ i)) h
  rw[List.drop_eq_getElem_cons hi]
  refine wpList_step fun K' hK'=>hk K' _ fun s' a' w' β' q1 q2 q3 _=>hK' _ _ ?_
  have q1':=q1.mono (hD _ (List.getElem_mem hi))
  exact bLr G hI hEV hE hP n (i+1) an' s' K z (by omega) hD q2 (fun s2 a2 w2 β2 p1 p2 p3=>hQ s2 a2 w2 β2 (q1'.trans p1) p2 p3) a' w' β' q3
theorem bLs (G:Good P g Y TI FZ)(hI:oU P IL)(hEV:aZr P Y g EV)(hE:E.fr=[])(hP:E.prm=[]){al:List Oper}{Q:Exit→Act→World→Prop}{D:Nat→Prop}:∀(l:List Nat) (an:An) (s:St U) (K:St U→Option α) (z:α),(∀o∈al,∀n,Wr al o n→D n)→ilr Y TI FZ IL EV al l an s K=some z→
  (∀s' a w β,Ag D s s'→K s'=some z→bY Y.C E s' a w β→Q .normal a w)→∀listed,chz al.toArray l listed=true→∀a w β,bY Y.C E s a w β→wpAny P .any al.toArray Q l.length listed a w
 |[],an,s,K,z,_,h,hQ,listed,hc,a,w,β,r=>⟨by simpa[chz] using hc,hQ s a w β (Ag.refl s) h r⟩
 |i::l,an,s,K,z,hD,h,hQ,listed,hc,a,w,β,r=>by
  replace hc:((Region.ready .any al.toArray listed==[i])&&chz al.toArray l (listed.setIfInBounds i true))=true:=hc
  simp only[Bool.and_eq_true,beq_iff_eq] at hc
  cases ho:al[i]? with
  |none=>
   have:(none:Option α)=some z:=by
    have h':=h
    unfold ilr at h'
    rw[bC,ho] at h';exact h'
   cases this
  |some o=>
   obtain⟨an',_,hk⟩:=aOb G hI hEV hE hP r ho h
   have hg:al.toArray[i]? =some o:=by simpa using ho
   refine bA4 hc.1 (wpOp_step hg fun K' hK'=>hk K' _ fun s' a' w' β' q1 q2 q3 _=>hK' _ _ ?_)
   have q1':=q1.mono (hD o (List.mem_of_getElem? ho))
   exact bLs G hI hEV hE hP l an' s' K z hD q2 (fun s2 a2 w2 β2 p1 p2 p3=>hQ s2 a2 w2 β2 (q1'.trans p1) p2 p3) _ hc.2 a' w' β' q3
theorem bE0 (G:Good P g Y TI FZ)(hI:oU P IL)(hEV:aZr P Y g EV)(hE:E.fr=[])(hP:E.prm=[]){s:St U}{a:Act}{w:World}{β:List Tr}(r:bY Y.C E s a w β){al:List Oper}{i:Nat}{o:Oper}(ho:al[i]? =some o)(hc:Bc FZ o.op=0){l:List Nat}{an:An}{K:St U→Option α}{z:α}(h:ilr Y TI FZ IL EV al (i::l) an s K=some z):
  ∃an',ilo an'=ilo an∧grd Y TI FZ al o s (fun s'=>ilr Y TI FZ IL EV al l an' s' K)=some z:=by
 unfold ilr at h
 rw[bC,ho] at h
 cases an with
 |il k b q=>
  simp only at h
  cases hb:Nat.beq k i with
  |false=>rw[hb] at h;exact⟨_,rfl,h⟩
  |true=>
   rw[hb] at h
   simp only[cond_true] at h
   rw[hc] at h;cases h
 |_=>exact⟨_,rfl,h⟩
theorem bKx (G:Good P g Y TI FZ)(hI:oU P IL)(hEV:aZr P Y g EV)(hE:E.fr=[])(hP:E.prm=[]){al:List Oper}{a0:Option Nat}(hs:Region.noSelect al.toArray=true){Q:Exit→Act→World→Prop}{D:Nat→Prop}:∀(l:List (Nat×Bool)) (an:An) (s:St U) (K:St U→Option α) (z:α),(∀o∈al,∀n,Wr al o n→D n)→ilr Y TI FZ IL EV al (l.map Prod.fst) an s K=some z→
  (∀s' a w β,Ag D s s'→K s'=some z→bY Y.C E s' a w β→Q .normal a w)→
   ∀listed,Dn .any al.toArray listed→chk al.toArray a0 l listed=true→CG FZ al a0 l listed→∀a w β,bY Y.C E s a w β→eZ P .any al.toArray a0 (NoPanic Q) (Ext w) l.length listed a w
 |[],an,s,K,z,_,h,hQ,listed,hd,hc,hg,a,w,β,r=>qY (P:=P) (a0:=a0) (S:=Ext w) (Q:=NoPanic Q) (by simpa[chk] using hc) (hQ s a w β (Ag.refl s) h r) 0
 |(i,fl)::l,an,s,K,z,hD,h,hQ,listed,hd,hc,hcg,a,w,β,r=>by
  replace h:ilr Y TI FZ IL EV al (i::l.map Prod.fst) an s K=some z:=h
  cases ho:al[i]? with
  |none=>
   have:(none:Option α)=some z:=by
    have h':=h
    unfold ilr at h'
    rw[bC,ho] at h';exact h'
   cases this
  |some o=>
   have hg:al.toArray[i]? =some o:=by simpa using ho
   have hmem:=List.mem_of_getElem? ho
   cases fl with
   |true=>
    simp only[chk,Bool.and_eq_true] at hc
    have hfr:Nat.beq (Bc FZ o.op) 0=true∧frees FZ al a0 l=true:=by
     rcases hcg with hcg|⟨_,hcg⟩
     ·have hcg':frees FZ al a0 ((i,true)::l)=true:=hcg
      simp only[frees,bC,ho,cond_true,Bool.and_eq_true] at hcg'
      exact hcg'
     ·exact absurd (Fx hcg).1 (by simp)
    have hc0:=Nat.eq_of_beq_eq_true hfr.1
    obtain⟨an',_,h⟩:=bE0 G hI hEV hE hP r ho hc0 h
    obtain⟨v,s',h1,h2,h3,h4⟩:=bIo G r hc0 h
    have hD':=hd.set (by simpa using hc.1.1.2)
    have h4':=h4.mono (hD o hmem)
    refine Nc (i:=i) (oi:=o) (v:=v) hg hs hc.1.1.1 hc.1.1.2 hc.1.2 hd (fun _ _ _ h=>h) ?_ (Ext.refl w) ?_
    ·rcases h1 with⟨k1,k2⟩|⟨k1,k2⟩
     ·exact .inl ⟨k1,k2⟩
     ·exact .inr ⟨k1,k2⟩
    ·exact bKx G hI hEV hE hP hs l an' s' K z hD h3 (fun s2 a2 w2 β2 p1 p2 p3=>hQ s2 a2 w2 β2 (h4'.trans p1) p2 p3) _ hD' hc.2 (.inl hfr.2) _ w β h2
   |false=>
    replace hc:((Region.ready .any al.toArray listed==[i])&&(a0 !=some i|| !jB a0 (listed.setIfInBounds i true))&&chk al.toArray a0 l (listed.setIfInBounds i true))=true:=hc
    simp only[Bool.and_eq_true,beq_iff_eq] at hc
    have hD':=hd.set (i:=i) (by rw[hc.1.1];simp)
    have hcase:(Nat.ble (Bc FZ o.op) 1=true∧frees FZ al a0 l=true)∨(jB a0 (listed.setIfInBounds i true)=false∧aI3 l=true):=by
     rcases hcg with hcg|⟨hn,hcg⟩
     ·have hcg':frees FZ al a0 ((i,false)::l)=true:=hcg
      simp only[frees,bC,ho,cond_false] at hcg'
      cases hb:Nat.ble (Bc FZ o.op) 1 with
      |true=>rw[hb] at hcg';exact .inl ⟨rfl,hcg'⟩
      |false=>
       rw[hb] at hcg'
       simp only[cond_false,Bool.and_eq_true] at hcg'
       refine .inr ⟨?_,hcg'.2⟩
       cases a0 with
       |none=>exact absurd hcg'.1 (by simp)
       |some b=>
        have hbi:b=i:=Nat.eq_of_beq_eq_true hcg'.1
        subst hbi
        have:=hc.1.2
        simpa using this
     ·exact .inr ⟨V5 hn,(Fx hcg).2⟩
    obtain⟨an',_,hk⟩:=aOb G hI hEV hE hP r ho h
    refine jU hc.1.1 (by simp) (fun i' hi'=> ?_)
    simp at hi';subst hi'
    refine wpOp_step hg fun K' hK'=>hk K' _ fun s' a' w' β' q1 q2 q3 q4=>hK' _ _ ?_
    have q1':=q1.mono (hD o hmem)
    have cont:=fun hh=>bKx G hI hEV hE hP hs l an' s' K z hD q2 (fun s2 a2 w2 β2 p1 p2 p3=>hQ s2 a2 w2 β2 (q1'.trans p1) p2 p3) _ hD' hc.2 hh a' w' β' q3
    rcases hcase with⟨c1,c2⟩|⟨c1,c2⟩
    ·have hx:=q4 c1
     exact⟨fun _=>hx,qX (fun x hx'=>Ext.trans hx hx') _ _ _ _ (cont (.inl c2))⟩
    ·exact⟨fun hn=>(by rw[c1] at hn;cases hn),nA _ _ _ _ c1 (cont (.inr ⟨c1,c2⟩))⟩
theorem bKy (G:Good P g Y TI FZ)(hI:oU P IL)(hEV:aZr P Y g EV)(hE:E.fr=[])(hP:E.prm=[]){s:St U}{a:Act}{w:World}{β:List Tr}{al:List Oper}{a0:Option Nat}{Q:Exit→Act→World→Prop}{i:Nat}{o:Oper}{n:Nat}{listed:Array Bool}{wS:World}(ho:al[i]? =some o){pre:Bool}(ha:a0Y a0 i listed=true)(hp:jB a0 listed=pre)(hpre:(pre&& !isA a0 i)=false)
  {b:An} {K:St U→Option α} {z:α} (h:aYu al o (fun s=>inl TI IL EV b o s K) s K=some z) (r:bY Y.C E s a w β)
  (hk:∀s' a' w' β',Ag (Wr al o) s s'→K s'=some z→bY Y.C E s' a' w' β'→eZ P .any al.toArray a0 (NoPanic Q) (Ext w') n (listed.setIfInBounds i true) a' w'):
  wpOp P al.toArray (NoPanic Q) i (fun a' w'=>(jB a0 (listed.setIfInBounds i true)=true→Ext wS w')∧eZ P .any al.toArray a0 (NoPanic Q) (Ext wS) n (listed.setIfInBounds i true) a' w') a w:=by
 have hny:jB a0 (listed.setIfInBounds i true)=false:=(aJc ha hp).trans hpre
 have hg:al.toArray[i]? =some o:=by simpa using ho
 refine wpOp_step hg fun K' hK'=> ?_
 have fin:∀s' a' w' β',Ag (Wr al o) s s'→K s'=some z→bY Y.C E s' a' w' β'→K' a' w':=fun s' a' w' β' q1 q2 q3=>hK' _ _ ⟨fun hn=>(by rw[hny] at hn;cases hn),nA _ _ _ _ hny (hk s' a' w' β' q1 q2 q3)⟩
 obtain⟨s1,r1,h1,h2⟩:=Zt r h
 rcases h2 with⟨hw,h2⟩|⟨hw,h2⟩
 ·rw[if_pos hw]
  exact bG1 G hI hEV hE hP r1 (al:=al) h2 (fun s' a' w' β' q1 q2 q3=>fin s' a' w' β' (h1.trans q1) q2 q3)
 ·rw[if_neg (by rw[hw];simp)]
  exact fin _ _ w β (h1.put (fun n e=> .inl e)) h2 (r1.put (x:= .l .und) (v:=undef) (fun _=>rfl))
theorem bIw (G:Good P g Y TI FZ)(hI:oU P IL)(hEV:aZr P Y g EV)(hE:E.fr=[])(hP:E.prm=[]){al:List Oper}{a0:Option Nat}(hs:Region.noSelect al.toArray=true){Q:Exit→Act→World→Prop}{D:Nat→Prop}:∀(l:List (Nat×Bool)) (an:An) (pre st:Bool) (s:St U) (K:St U→Option α) (z:α),(∀i∈l,∀o,al[i.1]? =some o→∀n,Wr al o n→D n)→ilY Y TI FZ IL EV al a0 l an pre st s K=some z→
  (∀s' a w β,Ag D s s'→K s'=some z→bY Y.C E s' a w β→Q .normal a w)→∀listed,Dn .any al.toArray listed→Nh al.toArray a0 l listed=true→jB a0 listed=pre→∀a w β wS,Lk E none st pre wS w→bY Y.C E s a w β→eZ P .any al.toArray a0 (NoPanic Q) (Ext wS) l.length listed a w
 |[],an,pre,st,s,K,z,_,h,hQ,listed,_,hc,_,a,w,β,wS,_,r=>qY (P:=P) (a0:=a0) (S:=Ext wS) (Q:=NoPanic Q) (by simpa[Nh] using hc) (hQ s a w β (Ag.refl s) h r) 0
 |(i,fl)::l,an,pre,st,s,K,z,hD,h,hQ,listed,hdn,hc,hp,a,w,β,wS,hl,r=>by
  unfold ilY at h
  rw[bC] at h
  cases ho:al[i]? with
  |none=>rw[ho] at h;cases h
  |some o=>
   rw[ho] at h
   simp only at h
   have hDi:=hD (i,fl) (by simp) o ho
   have hD':∀j∈l,∀o,al[j.1]? =some o→∀n,Wr al o n→D n:=fun j hj=>hD j (by simp[hj])
   cases fl with
   |true=>
    simp only[cond_true] at h
    simp only[Nh,Bool.and_eq_true] at hc
    obtain⟨hr,hne⟩:=Bj hc.1
    exact stepT G hs ho hdn hc.1 h hl.st (fun hn=>hl.pre (hp.symm.trans hn)) r fun v s' h1 h2 h3=>
     bIw G hI hEV hE hP hs l an pre st s' K z hD' h2 (fun s2 a2 w2 β2 g1=>hQ s2 a2 w2 β2 ((h1.mono hDi).trans g1)) _ (hdn.set hr) hc.2 ((uN hne).trans hp) _ w β wS hl h3
   |false=>
    simp only[Nh,Bool.and_eq_true,beq_iff_eq] at hc
    simp only[cond_false] at h
    have hr:i∈Region.ready .any al.toArray listed:=by rw[hc.1];simp
    refine jU hc.1 (by simp) fun i' hi'=> ?_
    simp at hi';subst hi'
    have plain:∀an',grd Y TI FZ al o s (fun s'=>bif !(pre&& !isA a0 i')||(Nat.ble (Bc FZ o.op) 1||unO none s'.m.o) then ilY Y TI FZ IL EV al a0 l an' (pre&& !isA a0 i') (st&&aNn (none:Option (Nat×Nat))) s' K else none)=some z→wpOp P al.toArray (NoPanic Q) i' (fun a' w'=>(jB a0 (listed.setIfInBounds i' true)=true→Ext wS w')∧eZ P .any al.toArray a0 (NoPanic Q) (Ext wS) l.length (listed.setIfInBounds i' true) a' w') a w:=fun an' h=>
     aZn G ho hc.2.1 hp (kd:=none) (K:=fun s'=>ilY Y TI FZ IL EV al a0 l an' (pre&& !isA a0 i') (st&&aNn (none:Option (Nat×Nat))) s' K) h hl r fun v s' w' β' wS' h1 h2 h3 h4=>
      bIw G hI hEV hE hP hs l an' _ _ s' K z hD' h2 (fun s2 a2 w2 β2 g1=>hQ s2 a2 w2 β2 ((h1.mono hDi).trans g1)) _ (hdn.set hr) hc.2.2 (aJc hc.2.1 hp) _ w' β' wS' h4 h3
    cases an with
    |il k b q=>
     simp only at h
     cases hb:Nat.beq k i' with
     |false=>rw[hb] at h;exact plain _ h
     |true=>
      rw[hb] at h
      simp only[cond_true] at h
      cases hq:(Nat.beq (Bc FZ o.op) 2&& !(pre&& !isA a0 i')) with
      |false=>rw[hq] at h;cases h
      |true=>
       rw[hq] at h
       simp only[cond_true] at h
       simp only[Bool.and_eq_true,Bool.not_eq_true'] at hq
       exact bKy G hI hEV hE hP ho hc.2.1 hp hq.2 h r fun s' a' w' β' q1 q2 q3=>
        bIw G hI hEV hE hP hs l q false st s' K z hD' q2 (fun s2 a2 w2 β2 g1=>hQ s2 a2 w2 β2 ((q1.mono hDi).trans g1)) _ (hdn.set hr) hc.2.2 ((aJc hc.2.1 hp).trans hq.2) a' w' β' w' ⟨fun _ _ h=>(by cases h),fun _=>rfl,fun _=>rfl,fun _=>Ext.refl _⟩ q3
    |_=>exact plain _ h
theorem Zu (G:Good P g Y TI FZ)(hm:P.follows .mixedOrders=true)(hI:oU P IL):bC6 P Y TI FZ IL g:=by
 intro E hE hP α EV hEV id os d an s N X R z D hD hA h
 cases an with
 |il k b q=>
  intro Q hN hX hR a w β r
  have hos:os.toList.toArray=os:=by simp
  by_cases hy:∃kb f a0 ord,ilo q= .y kb f a0 ord
  ·obtain⟨kb,f,a0,ord,hy⟩:=hy
   unfold bF3 at h
   simp only[hy] at h
   replace h:(bif d&&X7 os none a0 ord then ilY Y TI FZ IL EV os.toList a0 ord (.il k b q) true true s N else none)=some z:=h
   cases d with
   |false=>cases h
   |true=>
    cases hc:X7 os none a0 ord with
    |false=>rw[hc] at h;cases h
    |true=>
     rw[hc] at h
     simp only[Bool.and_self,cond_true] at h
     simp only[X7,Bool.and_eq_true,dA] at hc
     obtain⟨hs,hlen,hcf⟩:=hc
     have hlen:=Nat.eq_of_beq_eq_true hlen
     have r0:bY Y.C E s a w.drew β:=r.ext (Ext.drew w)
     refine wp_region_noPanic (wp_region_any hm (mR (a0:=a0) (S:=Ext w.drew) _ _ _ _ ?_))
     have:=bIw G hI hEV hE hP (a0:=a0) (al:=os.toList) (by rw[hos];exact hs) (Q:=Q) (D:=D) ord _ true true s N z (fun i _ o ho=>hD o (List.mem_of_getElem? ho)) h hN (Array.replicate os.size false) (by rw[hos];exact Dn0) (by rw[hos];exact hcf) bG0 a w.drew β w.drew ⟨fun _ _ h=>(by cases h),fun _=>rfl,fun _=>rfl,fun _=>Ext.refl _⟩ r0
     rw[hos,hlen] at this;exact this
  replace h:(match(bif d then aDy FZ os.toList os (ilo q) else some (rng (len os.toList) 0)) with
   |some l=>ilr Y TI FZ IL EV os.toList l (.il k b q) s N
   |none=>none)=some z:=by
   unfold bF3 at h
   simp only at h
   split at h
   ·rename_i kb f a0 ord hq;exact absurd ⟨kb,f,a0,ord,hq⟩ hy
   ·exact h
  cases d with
  |false=>
   simp only[cond_false,dA] at h
   refine wp_region_list ?_
   have:=bLr G hI hEV hE hP (Q:=Q) (D:=D) os.toList.length 0 _ s N z (by omega) hD h hN a w β r
   rw[List.drop_zero,hos] at this;exact this
  |true=>
   simp only[cond_true] at h
   cases ho:aDy FZ os.toList os (ilo q) with
   |none=>rw[ho] at h;cases h
   |some l=>
    rw[ho] at h
    simp only at h
    have r0:bY Y.C E s a w.drew β:=r.ext (Ext.drew w)
    rcases aVy ho with⟨hs,hlen,hc⟩|⟨a0,ord,hs,hlen,hc,hfr,hlo⟩
    ·refine wp_region_noPanic (wp_region_any hm ?_)
     have:=bLs G hI hEV hE hP (Q:=NoPanic Q) (D:=D) l _ s N z hD h hN (Array.replicate os.size false) (by rw[hos];exact hc) a w.drew β r0
     rw[hos,hlen] at this;exact this
    ·refine wp_region_noPanic (wp_region_any hm (mR (a0:=a0) (S:=Ext w.drew) _ _ _ _ ?_))
     subst hlo
     have:=bKx G hI hEV hE hP (a0:=a0) (by rw[hos];exact hs) (Q:=Q) (D:=D) ord _ s N z hD h hN (Array.replicate os.size false) (by rw[hos];exact Dn0) (by rw[hos];exact hc) (.inl hfr) a w.drew β r0
     rw[hos,hlen] at this;exact this
 |_=>exact bEx hE hP G hm id os d _ s N X R z D hD hA h
end
end Go.EV

namespace Go.EV
open Go.RowKit Go.VK
variable {U:Uni} {Y:Lay U} {TI:List (Nat×TInfo)} {FZ:List (Nat×Sum U)} {IL:Il} {P:Program} {g:GI} {E:Env U g}
section
variable {s:St U} {a:Act} {w w0:World} {β:List Tr}
theorem bE1 (hti:Ao P TI=true)(r:bY Y.C E s a w β){fn:Func}{l:List ResultVar}(hf:fn.results=l.toArray){ks:List Kd}{z:sI U ks}(h:fin Y TI false ks l s=some z):∃v,(results fn a.tmps).run P w= .ok v w∧Rd w E.X0 [] v (vE ((dJ Y ks z).map Ig)):=by
 unfold fin at h
 cases h1:Yh TI s l with
 |none=>rw[h1] at h;cases h
 |some xs=>
  rw[h1] at h
  obtain⟨vs,k1,k2,k3⟩:=vL hti r h1
  have hrd:=Zr r (Z:=E.X0) (fun b hb=> .inl hb) ks (z:=z) h k2 k3 (.inr (aXb r))
  refine⟨_,yM hf k1,?_⟩
  generalize(dJ Y ks z).map Ig=Us at hrd
  obtain⟨h2,h3⟩:=hrd
  clear k1 k2 k3 h h1
  match Us,vs,h2,h3 with
  |[U],[v],_,h3=>exact h3 0 v U rfl rfl
  |[],[],_,_=>exact .tup rfl (by simp)
  |U::U'::Us,v::v'::vs,h2,h3=>
   rw[dif_neg (by simp)]
   exact .tup (by simpa using h2) (fun i v c h5 h6=>h3 i v c (by simpa using h5) h6)
theorem aV0 {w0:World}{X0:Nat→Prop}(hG:g.G w0)(hX0:∀b,X0 b→b<w0.heap.size){ks:List Kd}{z:sI U ks}{n:Nat}{vs:List Value}(hvs:RdL w0 X0 vs ((dJ Y ks z).map Ig))(hn:(dJ Y ks z).length≤n)(E:Env U g)(hE0:E.X0=X0)(hEY:∀b,¬E.Y0 b)(hEw:E.w0=w0)(hEp:E.pin=[])(hEm:E.prm=[])(hEf:E.fr=[]):
  bY Y.C E (ini Y n ks z) {tmps:=vs.toArray++Array.replicate (n-vs.toArray.size) undef,defers:=[]} w0 []:=by
 have hlen:vs.length=(dJ Y ks z).length:=by rw[hvs.1,List.length_map]
 refine⟨⟨by rw[←hEw];exact Bel.refl _,rfl,by simp[ini],by simp[ini],by simp,by simp,by simp,by simp,by simp[hEp],by simp[hEm],by simp[hEf]⟩,rfl,?_,fun m x hx=> ?_⟩
 ·simp only[ini,dA,List.length_append,List.length_map,List.length_replicate,Array.size_append,List.size_toArray,Array.size_replicate,hlen]
 ·simp only[ini,dA,List.length_map] at hx
  by_cases hlt:m<(dJ Y ks z).length
  ·rw[List.getElem?_append_left (by simpa using hlt),List.getElem?_map] at hx
   cases hc:(dJ Y ks z)[m]? with
   |none=>rw[hc] at hx;cases hx
   |some c=>
    rw[hc] at hx
    have:=Option.some.inj hx;subst this
    have hvl:m<vs.length:=by omega
    have hv:(vs.toArray++Array.replicate (n-vs.toArray.size) undef).getD m undef=vs[m]:=by
     rw[Array.getD_eq_getD_getElem?,Array.getElem?_append_left (by simpa using hvl)]
     simp[List.getElem?_eq_getElem hvl]
    rw[hv]
    refine Be (aMx (aZc ks z c (List.mem_of_getElem? hc)) (hvs.2 m _ _ (List.getElem?_eq_getElem hvl) (by rw[List.getElem?_map,hc];rfl)) (.inl fun b hb=> ?_))
    rcases hb with hb|hb|⟨t,ht,_⟩
    ·rw[hE0] at hb;exact hb
    ·exact absurd hb (hEY b)
    ·simp at ht
  ·rw[List.getElem?_append_right (by rw[List.length_map];omega)] at hx
   have:=List.mem_of_getElem? hx
   simp at this
   rw[this.2];trivial
theorem bG2 (G:Good P g Y TI FZ)(hm:P.follows .mixedOrders=true)(hI:oU P IL){f:FuncId}{fn:Func}{cd:Code}{n:Nat}{l:List ResultVar}{ar rs:List Kd}{an:An}{z:sI U ar}{q:sI U rs}(hf:P.funcs[f]? =some fn)(hb:fn.body=some cd)(hn:fn.ntmps=n)(hl:fn.results=l.toArray)
  (hE:∀args w,(callFunc f args).run P w= .ok (.enter f args) w) (hlen:(dJ Y ar z).length≤n) (h:evF Y TI FZ IL an cd n ar rs false l z=some q):VK.Spec P g f ((dJ Y ar z).map Ig) (fun v=>v=vE ((dJ Y rs q).map Ig)):=by
 refine⟨hE,fun w X0 vs hG hX0 hvs=>calls_of_wp hf hb ?_⟩
 let E:Env U g:=⟨X0,fun _=>False,w,[],[],fun b h=> .inl (hX0 b h),fun _ h=>h.elim,fun _ _ h=>h,fun w' hw=>g.st w w' hG (hw.ext fun _ h=>h),[]⟩
 have r0:=aV0 (Y:=Y) hG hX0 hvs hlen E rfl (fun _ h=>h) rfl rfl rfl rfl
 have done:∀s' a' w' β',fin Y TI false rs l s'=some q→bY Y.C E s' a' w' β'→a'.defers=[]∧∃v,(results fn a'.tmps).run P w'= .ok v w'∧(∃v' r,Ending.returned v= .returned v'∧r=vE ((dJ Y rs q).map Ig)∧Rd w' X0 [] v' r∧Ext w w'):=fun s' a' w' β' hq r=>by
  obtain⟨v,k1,k2⟩:=bE1 G.ti r hl hq
  exact⟨r.defers,v,k1,v,_,rfl,rfl,k2,r.hp.ext.ext fun _ h=>h⟩
 rw[hn]
 exact aN9 (Zu G hm hI) 1000 E rfl rfl an cd _ _ _ _ _ q (fun _=>True) (WC.true cd) (AW.true an) h _ (fun s' a' w' β' _ hq r=>done s' a' w' β' hq r) (fun i s' a' w' β' _ hq r=>by cases hq) (fun s' a' w' β' _ hq r=>done s' a' w' β' hq r) _ _ _ r0
end
end Go.EV

namespace Go.EV
open Go.RowKit Go.VK
variable {U:Uni} {Y:Lay U} {TI:List (Nat×TInfo)} {FZ:List (Nat×Sum U)} {IL:Il} {P:Program} {g:GI} {E:Env U g}
section
variable {s:St U} {a:Act} {w w0:World} {β:List Tr} {C:Cod U}
theorem bE2 {m:Mm U}{x:Lf U}{xs:List (Lf U)}{l:List Nat}(h:X8 m (x::xs)=some l):∃l1 l2,l=l1++l2∧X8 m [x]=some l1∧X8 m xs=some l2:=by
 cases x with
 |own i r=>
  simp only[X8] at h ⊢
  cases ho:nth m.o i with
  |none=>rw[ho] at h;cases h
  |some e=>
   obtain⟨ob,rv,cv⟩:=e
   cases ob with
   |tree τ d ll=>
    rw[ho] at h
    simp only at h
    cases hb:(Nat.beq rv r&&d) with
    |false=>rw[hb] at h;cases h
    |true=>
     rw[hb] at h
     simp only[cond_true] at h
     cases hx:X8 m xs with
     |none=>rw[hx] at h;cases h
     |some l2=>
      rw[hx] at h
      have:=Option.some.inj h;subst this
      exact⟨[i],l2,rfl,by simp[hb],rfl⟩
   |_=>rw[ho] at h;cases h
 |sl=>cases h
 |bor=>cases h
 |inn=>cases h
 |_=>exact⟨[],l,rfl,rfl,h⟩
theorem aZs (H:Hp C E s.m β w){kd:Kd}{x y:Lf U}{l:List Nat}{v:Value}(h:X8 s.m [x]=some l)(hr:rdn s.m kd x=some y)(hm:x.mean C w (E.X β) β s.m v)(hK:∀τ,kd= .sl τ→0<U.K τ):Ow C w (fun _=>False) true v y (jG β l):=by
 have hb0:jG β []=[]:=rfl
 have flat:mG x=true→mF s.m x=some y→l=[]→(∀τ ll,y≠ .sl τ ll)→Ow C w (fun _=>False) true v y (jG β l):=fun hf hr hl hns=>by
  obtain⟨k1,k2⟩:=rC H hm hr (Z:=fun _=>False) (fun _ h=>h.elim) (.inl hf)
  subst hl
  rw[hb0]
  cases y with
  |int k n=>obtain⟨rfl,h1,h2⟩:=k2.aAP;exact .int h1 h2
  |bool b=>obtain rfl:=k2.aAS;exact .bool
  |str z=>obtain⟨rfl,h1⟩:=k2.aAR;exact .str h1
  |sl τ ll=>exact absurd rfl (hns τ ll)
  |_=>cases k1
 cases x with
 |own i r=>
  obtain⟨_,e,t,h2,h3,h4⟩:=hm
  obtain⟨ob,rv,cv⟩:=e
  simp only[X8,bC,h2] at h
  replace hr:mF s.m (.own i r)=some y:=hr
  simp only[mF,bC,h2] at hr
  cases ob with
  |tree τ d ll=>
   simp only at h hr
   cases hb:(Nat.beq rv r&&d) with
   |false=>rw[hb] at h;cases h
   |true=>
    rw[hb] at h
    have:=Option.some.inj h;subst this
    simp only[Bool.and_eq_true] at hb
    rw[hb.1] at hr
    have:=Option.some.inj hr;subst this
    have hd:d=true:=hb.2
    subst hd
    rw[h4 (Nat.eq_of_beq_eq_true hb.1)]
    have ho:=(Hp.tree H h3 h2 rfl).conv (X':=fun _=>False) (Nat.le_refl _) (fun _ _ h=>h.elim) (fun _ _ _ h=>h) (fun _ _=>rfl)
    have hbl:jG β [i]=t.all:=by simp[jG,h3]
    rw[hbl];exact ho
  |_=>cases h
 |nil=>
  obtain rfl:=hm
  have:=Option.some.inj h;subst this
  cases kd with
  |sl τ=>
   have:=Option.some.inj (show some (Lf.sl τ [])=some y from hr);subst this
   exact .sl Zp (hK τ rfl) (World.ownsRow_nil w 0 τ (U.K τ)) .n
  |_=>cases hr
 |int k n=>have e:=Option.some.inj (show some (Lf.int k n)=some y from hr);exact flat rfl hr (Option.some.inj h).symm (fun _ _ e'=>by rw[←e] at e';cases e')
 |bool b=>have e:=Option.some.inj (show some (Lf.bool b)=some y from hr);exact flat rfl hr (Option.some.inj h).symm (fun _ _ e'=>by rw[←e] at e';cases e')
 |str b=>have e:=Option.some.inj (show some (Lf.str b)=some y from hr);exact flat rfl hr (Option.some.inj h).symm (fun _ _ e'=>by rw[←e] at e';cases e')
 |nat c=>
  refine flat rfl hr (Option.some.inj h).symm (fun τ ll e'=> ?_)
  subst e'
  replace hr:mF s.m (.nat c)=some (.sl τ ll):=hr
  simp only[mF] at hr
  split at hr<;>cases hr
 |lt c n=>
  refine flat rfl hr (Option.some.inj h).symm (fun τ ll e'=> ?_)
  subst e'
  replace hr:mF s.m (.lt c n)=some (.sl τ ll):=hr
  simp only[mF] at hr
  split at hr<;>cases hr
 |sl=>cases h
 |bor=>cases h
 |inn=>cases h
 |_=>cases hr
theorem aOc (H:Hp C E s.m β w):∀(ks:List Kd) {xs ys:List (Lf U)} {l:List Nat} {vs:List Value},rds s.m ks xs=some ys→X8 s.m xs=some l→Ms C w (E.X β) β s.m vs xs→(∀kd∈ks,∀τ,kd= .sl τ→0<U.K τ)→OwL C w (fun _=>False) true vs ys (jG β l)
 |[],[],ys,l,vs,h,hl,hM,_=>by
  have:=Option.some.inj h;subst this
  have:=Option.some.inj hl;subst this
  have:vs=[]:=List.eq_nil_of_length_eq_zero hM.1
  subst this;exact .n
 |[],_::_,_,_,_,h,_,_,_=>by cases h
 |_::_,[],_,_,_,h,_,_,_=>by cases h
 |kd::ks,x::xs,ys,l,vs,h,hl,hM,hK=>by
  obtain⟨y,ys',h1,h2,rfl⟩:=aN0 h
  obtain⟨l1,l2,rfl,h3,h4⟩:=bE2 hl
  cases vs with
  |nil=>have:=hM.1;simp at this
  |cons v vs=>
   rw[Y1]
   exact .c (aZs H h3 h1 (hM.2 0 v x rfl rfl) (hK kd (by simp))) (aOc H ks h2 h4 ⟨by have:=hM.1;simpa using this,fun i u c p q=>hM.2 (i+1) u c (by simpa using p) (by simpa using q)⟩ (fun kd' hk=>hK kd' (by simp[hk])))
theorem aXk (hY:LayOk Y)(H:Hp Y.C E s.m β w){kd:Kd}{x:Sv U}{z:kd.ty U}{v:Value}{cs:List (Lf U)}{l:List Nat}(hm:x.mean Y.C w (E.X β) β s.m v)(hp:parts x=some cs)(hl:X8 s.m cs=some l)(h:Ff Y s.m kd x=some z)(hK:∀τ,kd= .sl τ→0<U.K τ):OwP Y.C w v (jG β l) (gJ Y kd z):=by
 have leaf:∀{y:Lf U},x= .l y→(∀T,kd≠ .st T)→(match rdn s.m kd y with|some q=>aU kd q|none=>none)=some z→OwP Y.C w v (jG β l) (gJ Y kd z):=fun {y} hx hkd h0=>by
  subst hx
  have:=Option.some.inj hp;subst this
  cases hr:rdn s.m kd y with
  |none=>rw[hr] at h0;cases h0
  |some q=>
   rw[hr] at h0
   have hq:=aA (show aU kd q=some z from h0)
   have ho:=aZs H hl hr hm hK
   rw[hq] at ho
   cases kd with
   |st T=>exact absurd rfl (hkd T)
   |_=>exact⟨_,rfl,ho⟩
 cases kd with
 |st T=>
  cases x with
  |a cs'=>
   have:=Option.some.inj hp;subst this
   have h':(match rds s.m (Y.kd T) cs' with|some ds=>Y.C.bld T ds|none=>none)=some z:=h
   cases hr:rds s.m (Y.kd T) cs' with
   |none=>rw[hr] at h';cases h'
   |some ds=>
    rw[hr] at h'
    obtain⟨vs,rfl,hM⟩:=hm
    have ho:=aOc H _ hr hl hM (fun kd hk τ e=>hY.pos T τ (e▸hk))
    rw[Y.C.hmk T ds z h'] at ho
    exact⟨vs,rfl,ho⟩
  |l y=>
   have h':(match rdn s.m (Kd.st T) y with|some q=>aU (Kd.st T) q|none=>none)=some z:=h
   cases hr:rdn s.m (Kd.st T) y with
   |none=>rw[hr] at h';cases h'
   |some q=>rw[hr] at h';cases q<;>cases h'
  |t y=>cases h
 |int k=>cases x with
  |l y=>exact leaf rfl (by simp) h
  |_=>cases h
 |bool=>cases x with
  |l y=>exact leaf rfl (by simp) h
  |_=>cases h
 |str=>cases x with
  |l y=>exact leaf rfl (by simp) h
  |_=>cases h
 |sl τ=>cases x with
  |l y=>exact leaf rfl (by simp) h
  |_=>cases h
theorem bG3 (hY:LayOk Y)(H:Hp Y.C E s.m β w)(ks:List Kd):∀{xs:List (Sv U)} {z:sI U ks} {vs:List Value} {l:List Nat},nL Y s.m ks xs=some z→aYx s.m xs=some l→vs.length=xs.length→(∀(i:Nat) (v:Value) (x:Sv U),vs[i]? =some v→xs[i]? =some x→x.mean Y.C w (E.X β) β s.m v)→(∀kd∈ks,∀τ,kd= .sl τ→0<U.K τ)→OwPs Y.C w vs (dJ Y ks z) (jG β l):=by
 induction ks with
 |nil=>
  intro xs z vs l h hl hlen hm hK
  cases xs with
  |nil=>
   have:=Option.some.inj hl;subst this
   have:vs=[]:=List.eq_nil_of_length_eq_zero hlen
   subst this;exact .n
  |cons=>cases h
 |cons k ks ih=>
  intro xs z vs l h hl hlen hm hK
  cases xs with
  |nil=>cases ks<;>cases h
  |cons x xs=>
   cases vs with
   |nil=>simp at hlen
   |cons v vs=>
    simp only[aYx] at hl
    cases hp:parts x with
    |none=>rw[hp] at hl;cases hl
    |some cs=>
     rw[hp] at hl
     simp only at hl
     cases h1:X8 s.m cs with
     |none=>rw[h1] at hl;cases hl
     |some l1=>
      cases h2:aYx s.m xs with
      |none=>rw[h1,h2] at hl;cases hl
      |some l2=>
       rw[h1,h2] at hl
       have:=Option.some.inj hl;subst this
       rw[Y1]
       cases ks with
       |nil=>
        cases xs with
        |cons x' xs=>cases h
        |nil=>
         have hvs:vs=[]:=List.eq_nil_of_length_eq_zero (by simpa using hlen)
         subst hvs
         have:=Option.some.inj h2;subst this
         exact .c (aXk hY H (hm 0 v x rfl rfl) hp h1 (show Ff Y s.m k x=some z from h) (hK k (by simp))) .n
       |cons k' ks'=>
        replace h:(match Ff Y s.m k x with|some a=>(match nL Y s.m (k'::ks') xs with|some b=>some (a,b)|none=>none)|none=>none)=some (show k.ty U×sI U (k'::ks') from z):=h
        cases g1:Ff Y s.m k x with
        |none=>rw[g1] at h;cases h
        |some z1=>
         cases g2:nL Y s.m (k'::ks') xs with
         |none=>rw[g1,g2] at h;cases h
         |some z2=>
          rw[g1,g2] at h
          have:=Option.some.inj h;subst this
          exact .c (aXk hY H (hm 0 v x rfl rfl) hp h1 g1 (hK k (by simp))) (ih g2 h2 (by simpa using hlen) (fun i u c p q=>hm (i+1) u c (by simpa using p) (by simpa using q)) (fun kd hk=>hK kd (by simp[hk])))
theorem bE3 (G:Good P g Y TI FZ)(r:bY Y.C E s a w β)(hEY:∀b,¬E.Y0 b){fn:Func}{l:List ResultVar}(hf:fn.results=l.toArray){ks:List Kd}{z:sI U ks}(h:fin Y TI true ks l s=some z):∃v B,(results fn a.tmps).run P w= .ok v w∧B.Nodup∧(∀b∈B,E.w0.heap.size≤b)∧OwR Y.C w v (dJ Y ks z) B:=by
 unfold fin at h
 cases h1:Yh TI s l with
 |none=>rw[h1] at h;cases h
 |some xs=>
  rw[h1] at h
  simp only[cond_true] at h
  cases h2:aYx s.m xs with
  |none=>rw[h2] at h;cases h
  |some ids=>
   rw[h2] at h
   simp only at h
   cases hb:(dist ids&&Ng (U:=U) ks) with
   |false=>rw[hb] at h;cases h
   |true=>
    rw[hb] at h
    simp only[cond_true] at h
    simp only[Bool.and_eq_true] at hb
    obtain⟨vs,k1,k2,k3⟩:=vL G.ti r h1
    have ho:=bG3 G.lay r.hp ks h h2 k2 k3 (vI hb.2)
    refine⟨_,jG β ids,yM hf k1,aMw r.hp (rD.1 hb.1),fun b hbb=> ?_,?_⟩
    ·obtain⟨j,_,u,hu,hub⟩:=qV hbb
     exact(r.hp.new j u b hu hub).1.resolve_right (hEY b)
    ·generalize dJ Y ks z=cps at ho ⊢
     generalize jG β ids=B0 at ho ⊢
     clear h k1 k3 h2 h1 k2
     cases ho with
     |n=>exact⟨[],rfl, .n⟩
     | @c v x B B' vs xs' hv hr=>
      cases hr with
      |n=>rw[List.append_nil];exact hv
      | @c v2 x2 B2 B3 vs2 xs2 hv2 hr2=>
       rw[dif_neg (by simp)]
       exact⟨_,rfl, .c hv (.c hv2 hr2)⟩
end
theorem bE4 (G:Good P g Y TI FZ)(hm:P.follows .mixedOrders=true)(hI:oU P IL){f:FuncId}{fn:Func}{cd:Code}{n:Nat}{l:List ResultVar}{ar rs:List Kd}{an:An}{z:sI U ar}{q:sI U rs}(hf:P.funcs[f]? =some fn)(hb:fn.body=some cd)(hn:fn.ntmps=n)(hl:fn.results=l.toArray)
  (hE:∀args w,(callFunc f args).run P w= .ok (.enter f args) w) (hlen:(dJ Y ar z).length≤n) (h:evF Y TI FZ IL an cd n ar rs true l z=some q):bJp P g Y.C f ((dJ Y ar z).map Ig) (dJ Y rs q):=by
 refine⟨hE,fun w X0 vs hG hX0 hvs=>calls_of_wp hf hb ?_⟩
 let E:Env U g:=⟨X0,fun _=>False,w,[],[],fun b h=> .inl (hX0 b h),fun _ h=>h.elim,fun _ _ h=>h,fun w' hw=>g.st w w' hG (hw.ext fun _ h=>h),[]⟩
 have r0:=aV0 (Y:=Y) hG hX0 hvs hlen E rfl (fun _ h=>h) rfl rfl rfl rfl
 have done:∀s' a' w' β',fin Y TI true rs l s'=some q→bY Y.C E s' a' w' β'→a'.defers=[]∧∃v,(results fn a'.tmps).run P w'= .ok v w'∧(∃v' B,Ending.returned v= .returned v'∧Ext w w'∧B.Nodup∧(∀b∈B,w.heap.size≤b)∧OwR Y.C w' v' (dJ Y rs q) B):=fun s' a' w' β' hq r=>by
  obtain⟨v,B,k1,k2,k3,k4⟩:=bE3 G r (fun _ h=>h) hl hq
  exact⟨r.defers,v,k1,v,B,rfl,r.hp.ext.ext fun _ h=>h,k2,k3,k4⟩
 rw[hn]
 exact aN9 (Zu G hm hI) 1000 E rfl rfl an cd _ _ _ _ _ q (fun _=>True) (WC.true cd) (AW.true an) h _ (fun s' a' w' β' _ hq r=>done s' a' w' β' hq r) (fun i s' a' w' β' _ hq r=>by cases hq) (fun s' a' w' β' _ hq r=>done s' a' w' β' hq r) _ _ _ r0
theorem aD4:∀(ks:List Kd) (z:sI U ks),(dJ Y ks z).length=ks.length
 |[],_=>rfl
 |[k],_=>rfl
 |k::k'::ks,z=>by
  show(dJ Y (k'::ks) z.2).length+1=_
  rw[aD4 (k'::ks)];rfl
theorem aV1 {f:FuncId}{S:Sum U}(h:Ih P g Y f S)(G:Good P g Y TI FZ):Good P g Y TI ((f,S)::FZ):=⟨G.ti,G.lay,fun f' S' hm=>by
 rcases List.mem_cons.1 hm with e|e
 ·injection e with e1 e2;subst e1;subst e2;exact h
 ·exact G.fs f' S' e⟩
theorem bKz (G:Good P g Y TI FZ)(hm:P.follows .mixedOrders=true)(hI:oU P IL){f:FuncId}{fn:Func}{cd:Code}{n:Nat}{l:List ResultVar}{S:Sum U}{an:sI U S.ar→An}(hf:P.funcs[f]? =some fn)(hb:fn.body=some cd)(hn:fn.ntmps=n)(hl:fn.results=l.toArray)
  (hE:∀args w,(callFunc f args).run P w= .ok (.enter f args) w) (hlen:S.ar.length≤n) (hwt:S.wt=false) (h:∀a r,S.m a=some r→evF Y TI FZ IL (an a) cd n S.ar S.rs S.fr l a=some r):Ih P g Y f S:=fun a r hr=>by
 have h':=h a r hr
 refine⟨fun _ hfr=> ?_,fun _ hfr=> ?_,fun hh=>by rw[hwt] at hh;cases hh⟩
 ·rw[hfr] at h'
  exact bG2 G hm hI hf hb hn hl hE (by rw[aD4];exact hlen) h'
 ·rw[hfr] at h'
  exact bE4 G hm hI hf hb hn hl hE (by rw[aD4];exact hlen) h'
end Go.EV

namespace Go.EV
open Go.RowKit Go.VK
variable {U:Uni} {Y:Lay U} {TI:List (Nat×TInfo)} {FZ:List (Nat×Sum U)} {IL:Il} {P:Program} {g:GI} {E:Env U g}
section
variable {s:St U} {a:Act} {w w0:World} {β:List Tr} {C:Cod U}
def nM:List Value→List (Lf U)→List (Nat×Nat×Value)
 |v::vs, .own i r::cs=>(i,r,v)::nM vs cs
 |_::vs,_::cs=>nM vs cs
 |_,_=>[]
def Lf.plain:Lf U→Bool
 | .int .. | .bool _| .str _| .own .. =>true
 |_=>false
theorem vM {k:Nat}:∀{cs:List (Lf U)} (n:Nat),(∀c∈cs,c.aAZ=true)→∀c∈(kV k n cs).1,c.plain=true
 |[],n,_,c,h=>by simp[kV] at h
 |x::xs,n,hd,c,h=>by
  have hx:=hd x (by simp)
  have hxs:∀c∈xs,c.aAZ=true:=fun c hc=>hd c (by simp[hc])
  cases x with
  |sl τ l=>
   simp only[kV,List.mem_cons] at h
   rcases h with rfl|h
   ·rfl
   ·exact vM _ hxs c h
  |int k' m=>simp only[kV,List.mem_cons] at h;rcases h with rfl|h;rfl;exact vM _ hxs c h
  |bool b=>simp only[kV,List.mem_cons] at h;rcases h with rfl|h;rfl;exact vM _ hxs c h
  |str b=>simp only[kV,List.mem_cons] at h;rcases h with rfl|h;rfl;exact vM _ hxs c h
  |_=>cases hx
theorem bC8 {X X':Nat→Prop}{w w':World}{β β':List Tr}{m m':Mm U}:∀{cs:List (Lf U)} {vs:List Value},(∀c∈cs,c.plain=true)→Ms C w X β m vs cs→(∀x∈nM vs cs,(Lf.own x.1 x.2.1:Lf U).mean C w' X' β' m' x.2.2)→Ms C w' X' β' m' vs cs
 |[],vs,_,h,_=>⟨h.1,fun i v c _ h2=>by simp at h2⟩
 |c::cs,[],_,h,_=>by have:=h.1;simp at this
 |c::cs,v::vs,hp,h,hpin=>by
  have h0:=h.2 0 v c rfl rfl
  have ht:Ms C w X β m vs cs:=⟨by have:=h.1;simpa using this,fun i u x p q=>h.2 (i+1) u x (by simpa using p) (by simpa using q)⟩
  have hc:=hp c (by simp)
  have key:c.mean C w' X' β' m' v∧∀x∈nM vs cs,(Lf.own x.1 x.2.1:Lf U).mean C w' X' β' m' x.2.2:=by
   cases c with
   |own i r=>exact⟨hpin (i,r,v) (by simp[nM]),fun x hx=>hpin x (by simp[nM,hx])⟩
   |int k n=>exact⟨h0,fun x hx=>hpin x (by simpa[nM] using hx)⟩
   |bool b=>exact⟨h0,fun x hx=>hpin x (by simpa[nM] using hx)⟩
   |str b=>exact⟨h0,fun x hx=>hpin x (by simpa[nM] using hx)⟩
   |_=>cases hc
  have hr:=bC8 (cs:=cs) (vs:=vs) (fun x hx=>hp x (by simp[hx])) ht key.2
  refine⟨by simp[hr.1],fun i u x p q=> ?_⟩
  cases i with
  |zero=>simp at p q;subst p;subst q;exact key.1
  |succ i=>exact hr.2 i u x (by simpa using p) (by simpa using q)
theorem aXl {X:Nat→Prop}{m:Mm U}:∀{cs:List (Lf U)} {vs:List Value},Ms C w X β m vs cs→∀x∈nM vs cs,(Lf.own x.1 x.2.1:Lf U).mean C w X β m x.2.2
 |[],vs,_,x,hx=>by cases vs<;>simp[nM] at hx
 |c::cs,[],h,_,_=>by have:=h.1;simp at this
 |c::cs,v::vs,h,x,hx=>by
  have h0:=h.2 0 v c rfl rfl
  have ht:Ms C w X β m vs cs:=⟨by have:=h.1;simpa using this,fun i u x p q=>h.2 (i+1) u x (by simpa using p) (by simpa using q)⟩
  cases c with
  |own i r=>
   simp only[nM,List.mem_cons] at hx
   rcases hx with rfl|hx
   ·exact h0
   ·exact aXl ht x hx
  |_=>exact aXl ht x (by simpa[nM] using hx)
theorem OwP.lt {v:Value}{B:List Nat}{x:Bool×List (Lf U)}(h:OwP C w v B x):∀b∈B,b<w.heap.size:=by
 obtain⟨b,cs⟩:=x
 cases b with
 |true=>obtain⟨vs,_,h⟩:=h;exact h.lt
 |false=>obtain⟨c,_,h⟩:=h;exact h.lt
theorem bE5 (G:Good P g Y TI FZ)(hm:P.follows .mixedOrders=true)(hI:oU P IL){f:FuncId}{fn:Func}{cd:Code}{n:Nat}{l:List ResultVar}{kd:Kd}{an:An}{z q:sI U [kd, .int .i64]}(hf:P.funcs[f]? =some fn)(hb:fn.body=some cd)(hn:fn.ntmps=n)(hl:fn.results=l.toArray)
  (hE:∀args w,(callFunc f args).run P w= .ok (.enter f args) w) (hlen:2≤n) (h:evM Y TI FZ IL an cd n kd l z=some q):bJq P g Y.C f (gJ Y kd z.1).1 (gJ Y kd z.1).2 (gJ Y kd q.1).2 (Ig (gJ Y (.int .i64) z.2)) q.2:=by
 obtain⟨z,k⟩:=z
 change kd.ty U at z
 change Int at k
 obtain⟨q,kq⟩:=q
 change kd.ty U at q
 change Int at kq
 refine⟨hE,fun w v v1 B hnd hG hO hR=>calls_of_wp hf hb ?_⟩
 obtain⟨rfl,hk1,hk2⟩:=(show Rd w (fun _=>False) [] v1 (.int .i64 k) from hR).aAP
 have hlt:=hO.lt
 have hPs:OwPs Y.C w [v] [gJ Y kd z] B:=by simpa using OwPs.c (show OwP Y.C w v B (gJ Y kd z) from hO) .n
 obtain⟨ts,a1,a2,a3,a4⟩:=Fu (k:=0) 0 hPs
 obtain⟨b,cs,hcp⟩:∃b cs,gJ Y kd z=(b,cs):=⟨_,_,rfl⟩
 obtain⟨cells,objs,hcl⟩:∃cells objs,kV (U:=U) 0 0 cs=(cells,objs):=⟨_,_,rfl⟩
 have hq0:iE (U:=U) 0 0 [gJ Y kd z]=([(b,cells)],objs):=by rw[hcp];simp only[iE,hcl,List.append_nil]
 rw[hq0] at a1 a3 a4
 have hplain:∀c∈cells,c.plain=true:=by
  have:=vM (k:=0) (cs:=cs) 0 (fun c hc=>(aMy (Y:=Y) (k:=kd) (x:=z)).1 c (by rw[hcp];exact hc))
  rw[hcl] at this;exact this
 have plainX:∀{X X':Nat→Prop} {w:World} {β:List Tr} {m:Mm U} {vs:List Value},Ms Y.C w X β m vs cells→Ms Y.C w X' β m vs cells:=fun {X X' w β m vs} h=>⟨h.1,fun i u c p q=>by
  have h1:=h.2 i u c p q
  have h2:=hplain c (List.mem_of_getElem? q)
  cases c with
  |int k n=>exact h1
  |bool b=>exact h1
  |str b=>exact h1
  |own i r=>exact h1
  |_=>cases h2⟩
 let m0:Mm U:=⟨objs,0,[]⟩
 have hMp0:=(a4 (fun _=>True) ts m0 (Nat.le_refl _) (fun j e t p q=>⟨by simpa using p,by simpa using q⟩)).2 0 v (b,cells) rfl rfl
 obtain⟨vs,hM0,hMp⟩:∃vs:List Value,Ms Y.C w (fun _=>True) ts m0 vs cells∧∀{w':World} {X:Nat→Prop} {β':List Tr} {m':Mm U},Ms Y.C w' X β' m' vs cells→(aJu (b,cells)).mean Y.C w' X β' m' v:=by
  cases b with
  |true=>
   obtain⟨vs,e,h1⟩:=hMp0
   exact⟨vs,h1,fun {w' X β' m'} h=>⟨vs,e,h⟩⟩
  |false=>
   obtain⟨c,e,h1⟩:=hMp0
   subst e
   refine⟨[v],⟨rfl,fun i u x p q=> ?_⟩,fun {w' X β' m'} h=>h.2 0 v c rfl rfl⟩
   cases i with
   |zero=>simp at p q;subst p;subst q;exact h1
   |succ i=>simp at p
 have hparts:parts (aJu (U:=U) (b,cells))=some cells:=by
  cases b with
  |true=>rfl
  |false=>
   obtain⟨c,e,h1⟩:=hMp0
   subst e;rfl
 let E:Env U g:=⟨fun _=>False,(·∈B),w,[],[],fun _ h=>h.elim,hlt,fun _ h=>h.elim,hG,(nM vs cells).map fun x=>(Sv.l (.own x.1 x.2.1),x.2.2)⟩
 have htB:∀(i:Nat) (t:Tr),ts[i]? =some t→∀x∈t.all,x∈B:=fun i t ht x hx=>by
  rw[←a2];exact List.mem_flatten.2 ⟨_,List.mem_map.2 ⟨_,List.mem_of_getElem? ht,rfl⟩,hx⟩
 have hndt:(ts.map Tr.all).flatten.Nodup:=by rw[a2];exact hnd
 have Hh:Hp Y.C E m0 ts w:=by
  refine⟨Bel.refl _,a1,fun i e he=> ?_,fun a i h=>by simp[m0] at h,fun i t x ht hx=>⟨.inr (htB i t ht x hx),hlt x (htB i t ht x hx)⟩,fun i j t u x hij ht hu hx hxu=> ?_,fun i t ht=> ?_,fun i t e ht he=> ?_,fun x hx=>by obtain⟨y,hy,rfl⟩:=List.mem_map.1 hx;exact aXl (X:=E.X ts) (plainX hM0) y hy,fun x hx=>by simp[E] at hx,fun f hf=>by simp[E] at hf⟩
  ·have hl:i<ts.length:=by rw[a1];exact lt_of_some he
   have:=a3 i e _ he (List.getElem?_eq_getElem hl)
   rw[this.1,this.2.1];exact⟨Nat.le_refl _,Nat.le_refl _⟩
  ·have hp:=(List.pairwise_flatten.1 hndt).2
   rw[List.pairwise_map] at hp
   have hp:=List.pairwise_iff_getElem.1 hp
   obtain⟨l1,e1⟩:=List.getElem?_eq_some_iff.1 ht
   obtain⟨l2,e2⟩:=List.getElem?_eq_some_iff.1 hu
   rcases Nat.lt_or_gt_of_ne hij with h|h
   ·exact hp i j l1 l2 h x (by rw[e1];exact hx) x (by rw[e2];exact hxu) rfl
   ·exact hp j i l2 l1 h x (by rw[e2];exact hxu) x (by rw[e1];exact hx) rfl
  ·exact(List.pairwise_flatten.1 hndt).1 _ (List.mem_map.2 ⟨t,List.mem_of_getElem? ht,rfl⟩)
  ·obtain⟨_,_,τ,L,xs,c1,c2,c3,c4⟩:=a3 i e t he ht
   rw[c1]
   exact⟨c2,xs,c3,c4.aBK rfl⟩
 have hini:bIg Y n kd z k=⟨[aJu (b,cells), .l (.int .i64 k)]++List.replicate (n-2) (.l .any),m0,[]⟩:=by
  simp only[bIg,hq0,List.map_cons,List.map_nil,dA]
  rfl
 have r0:bY Y.C E (bIg Y n kd z k) {tmps:= #[v, .int .i64 k]++Array.replicate (n-2) undef,defers:=[]} w ts:=by
  rw[hini]
  refine⟨Hh,rfl,by simp;omega,fun m x hx=> ?_⟩
  match m with
  |0=>
   have:aJu (b,cells)=x:=by simpa using hx
   subst this
   have hv:(#[v,Value.int .i64 k]++Array.replicate (n-2) undef).getD 0 undef=v:=by simp[Array.getD_eq_getD_getElem?,Array.getElem?_append]
   simp only[hv]
   exact hMp (plainX hM0)
  |1=>
   have:(Sv.l (.int .i64 k):Sv U)=x:=by simpa using hx
   subst this
   have hv:(#[v,Value.int .i64 k]++Array.replicate (n-2) undef).getD 1 undef= .int .i64 k:=by simp[Array.getD_eq_getD_getElem?,Array.getElem?_append]
   simp only[hv]
   exact⟨rfl,hk1,hk2⟩
  |m+2=>
   have hx':(List.replicate (n-2) (Sv.l .any:Sv U))[m]? =some x:=by simpa using hx
   have:=List.mem_of_getElem? hx'
   simp at this
   rw[this.2];trivial
 have done:∀s' a' w' β',bIh Y TI kd z l s'=some (q,kq)→bY Y.C E s' a' w' β'→a'.defers=[]∧∃v',(results fn a'.tmps).run P w'= .ok v' w'∧(Ending.returned v'= .returned (.int .i64 kq)∧(IntKind.i64.min≤kq∧kq≤IntKind.i64.max)∧Bel (·∈B) w w'∧∃B',B'.Nodup∧(∀x∈B',x∈B∨w.heap.size≤x)∧OwP Y.C w' v B' ((gJ Y kd z).1,(gJ Y kd q).2)):=fun s' a' w' β' hq r=>by
  unfold bIh at hq
  rw[hq0] at hq
  split at hq
  ·rename_i x hres
   split at hq
   ·rename_i k' y hk' hy
    have hy:aJu (b,cells)=y:=by simpa using hy
    subst hy
    split at hq
    ·rename_i ids a' ho ha
     cases hb:(dist ids&&Ng (U:=U) [kd]) with
     |false=>rw[hb] at hq;cases hq
     |true=>
      rw[hb] at hq
      have hq:=Option.some.inj hq
      injection hq with hq1 hq2
      subst hq1;subst hq2
      simp only[Bool.and_eq_true] at hb
      obtain⟨us,k1,k2,k3⟩:=vL G.ti r hres
      match us,k2,k1,k3 with
      |[u],_,k1,k3=>
       have hu:=Bg r (Z:=fun _=>False) (k3 0 u x rfl rfl) hk' (fun _ h=>h.elim) (.inr fun _ _ _ _ _ h=>h)
       obtain⟨rfl,h1,h2⟩:=(show Rd w' (fun _=>False) [] u (.int .i64 k') from hu).aAP
       refine⟨r.defers,_,yM hl k1,rfl,⟨h1,h2⟩,r.hp.ext,?_⟩
       have hMs:Ms Y.C w' (E.X β') β' s'.m vs cells:=bC8 hplain hM0 (fun x hx=>r.hp.pin (_,_) (List.mem_map.2 ⟨x,hx,rfl⟩))
       simp only[aYx,hparts] at ho
       cases hol:X8 s'.m cells with
       |none=>rw[hol] at ho;cases ho
       |some l1=>
        rw[hol] at ho
        have:=Option.some.inj ho;subst this
        have hov:=aXk G.lay r.hp (hMp hMs) hparts hol ha (fun τ e=>vI hb.2 kd (by simp) τ e)
        refine⟨jG β' l1,?_,fun x hx=> ?_,?_⟩
        ·exact aMw r.hp (by have:=rD.1 hb.1;simpa using this)
        ·obtain⟨j,_,t,ht,hxt⟩:=qV hx
         exact((r.hp.new j t x ht hxt).1).symm
        ·have e1:(gJ Y kd z).1=(gJ Y kd (show kd.ty U from a')).1:=by cases kd<;>rfl
         rw[e1]
         exact hov
    ·cases hq
   ·cases hq
  ·cases hq
 rw[hn]
 have e0:(#[v,Value.int .i64 k]:Array Value).size=2:=rfl
 exact aN9 (Zu G hm hI) 1000 E rfl rfl an cd _ _ _ _ _ (q,kq) (fun _=>True) (WC.true cd) (AW.true an) h _ (fun s' a' w' β' _ hq r=>done s' a' w' β' hq r) (fun i s' a' w' β' _ hq r=>by cases hq) (fun s' a' w' β' _ hq r=>done s' a' w' β' hq r) _ _ _ r0
theorem bK0 (G:Good P g Y TI FZ)(hm:P.follows .mixedOrders=true)(hI:oU P IL){f:FuncId}{fn:Func}{cd:Code}{n:Nat}{l:List ResultVar}{kd:Kd}{m:sI U [kd, .int .i64]→Option (sI U [kd, .int .i64])}{an:sI U [kd, .int .i64]→An}(hf:P.funcs[f]? =some fn)(hb:fn.body=some cd)(hn:fn.ntmps=n)(hl:fn.results=l.toArray)
  (hE:∀args w,(callFunc f args).run P w= .ok (.enter f args) w) (hlen:2≤n) (h:∀a r,m a=some r→evM Y TI FZ IL (an a) cd n kd l a=some r):Ih P g Y f ⟨[kd, .int .i64],[kd, .int .i64],false,true,m⟩:=fun a r hr=>by
 have h':=h a r hr
 refine⟨fun hh=>(by cases hh),fun hh=>(by cases hh),fun _ b cs u b' ds b'' k e1 e2=> ?_⟩
 have e1:[gJ Y kd a.1,gJ Y (.int .i64) a.2]=[(b,cs),u]:=e1
 have e2:[gJ Y kd r.1,gJ Y (.int .i64) r.2]=[(b',ds),(b'',[.int .i64 k])]:=e2
 simp only[List.cons.injEq,and_true] at e1 e2
 have e3:(false,[Lf.int (U:=U) .i64 (show Int from r.2)])=(b'',[Lf.int (U:=U) .i64 k]):=e2.2
 injection e3 with _ e3
 injection e3 with e3 _
 injection e3 with _ e3
 have hs:=bE5 G hm hI hf hb hn hl hE hlen h'
 have e4:gJ Y kd (show kd.ty U from a.1)=(b,cs):=e1.1
 have e5:gJ Y kd (show kd.ty U from r.1)=(b',ds):=e2.1
 rw[←e1.2,←e3]
 have e6:(gJ Y kd (show kd.ty U from a.1)).1=b:=by rw[e4]
 have e7:(gJ Y kd (show kd.ty U from a.1)).2=cs:=by rw[e4]
 have e8:(gJ Y kd (show kd.ty U from r.1)).2=ds:=by rw[e5]
 rw[←e6,←e7,←e8]
 exact hs
end
end Go.EV
namespace Go.VK
theorem aB {α:Type}{c:Prop}[Decidable c]{x y:Option α}{r:α}(h:c→y=x)(hr:gd c x=some r):y=some r:=by
 unfold gd at hr
 split at hr
 ·rename_i hc;rw[h hc];exact hr
 ·cases hr
end Go.VK
