import Derived.Test.YtegpalcapdnnoaaGreatDoorEVttoy
import Derived.Test.YtegpalcapdnnoaaGreatDoorVKjtos
import Derived.Lib.SplitLaws
import Derived.HandedShaped
/-
  THE EVALUATOR's KIT: drawn regions with an operation that makes memory and may come up at any time ahead of its place. Plain theorems over any program; the conditions stand in each.
-/
set_option linter.unusedVariables false
set_option linter.unusedSimpArgs false
namespace Go.EV
open Go.RowKit Go.VK
variable {U:Uni} {Y:Lay U} {TI:List (Nat×TInfo)} {FZ:List (Nat×Sum U)} {P:Program} {g:GI} {E:Env g}
section
variable {s:St U} {a:Act} {w:World} {β:List Tr} {α:Type}
theorem grd_wpP (G:Good P g Y TI FZ)(r:Rel Y.C E s a w β){al:List Oper}{o:Oper}{K:St U→Option α}{z:α}(h:grd Y TI FZ al o s K=some z){K':Act→World→Prop}{Q:Exit→Act→World→Prop}
  (hk:∀s' v w' β',Ag (Wr al o) s s'→K s'=some z→Rel Y.C E s' (a.put o.dst v) w' β'→(Nat.ble (cls FZ o.op) 1=true→Ext w w')→K' (a.put o.dst v) w'):if Region.wanted o (yielded al.toArray a.tmps)=true then o.wp P a w K' Q else K' (a.put o.dst undef) w:=by
 obtain⟨s1,r1,h1,h2⟩:=grd_cases r h
 rcases h2 with⟨hw,h2⟩|⟨hw,h2⟩
 ·rw[if_pos hw]
  unfold one at h2
  obtain⟨x,s2,k1,k2,k3,k4,k5⟩:=stp_sound G r1 rfl h2
  exact k2 K' Q fun v w' β' q1 q2 q3=>hk _ v w' β' (Ag.put ⟨fun n hn=>by rw[k3];exact h1.t n hn,by rw[k3];exact h1.tl,by rw[k4];exact h1.fr,h1.m.trans k5⟩ (fun n e=> .inl e)) k1 (q1.put q2) q3
 ·rw[if_neg (by rw[hw];simp)]
  exact hk _ _ w β (h1.put (fun n e=> .inl e)) h2 (r1.put (x:= .l .und) (v:=undef) (fun _=>rfl)) (fun _=>Ext.refl w)
theorem Rel.putSame {C:Cod U}(r:Rel C E s a w β){d:Option Nat}{x:Sv U}{v:Value}(h:d≠none→x.mean C w (E.X β) β s.m v)(hv:∀n,d=some n→a.tmps.getD n undef=v):Rel C E (EV.put s d x) a w β:=by
 have r':=r.put h
 refine⟨r'.hp,r.defers,?_,fun n y hy=> ?_⟩
 ·rw[r.tsz];cases d with
  |none=>rfl
  |some m=>simp[EV.put,upd_eq]
 ·have:=r'.tm n y hy
  cases d with
  |none=>exact this
  |some m=>
   by_cases hm:m=n
   ·subst hm
    by_cases hl:m<a.tmps.size
    ·rw[show(a.put (some m) v).tmps.getD m undef=v from by simp only[Act.put];rw[getD_set _ _ _ _ _ hl,if_pos rfl]] at this
     rw[hv m rfl];exact this
    ·rw[show(a.put (some m) v).tmps=a.tmps from Array.setIfInBounds_eq_of_size_le (by omega)] at this;exact this
   ·rw[show(a.put (some m) v).tmps.getD n undef=a.tmps.getD n undef from by
     simp only[Act.put]
     by_cases hl:m<a.tmps.size
     ·rw[getD_set _ _ _ _ _ hl,if_neg hm]
     ·rw[Array.setIfInBounds_eq_of_size_le (by omega)]] at this
    exact this
theorem put_getD {d:Option Nat}{v:Value}{n:Nat}(h:d≠some n):(a.put d v).tmps.getD n undef=a.tmps.getD n undef:=by
 cases d with
 |none=>rfl
 |some m=>
  simp only[Act.put]
  by_cases hl:m<a.tmps.size
  ·rw[getD_set _ _ _ _ _ hl,if_neg (fun e=>h (by rw[e]))]
  ·rw[Array.setIfInBounds_eq_of_size_le (by omega)]
theorem Rel.putAny {C:Cod U}(r:Rel C E s a w β){d:Option Nat}{v:Value}(h:anyS s d=true):Rel C E s (a.put d v) w β:=by
 refine⟨r.hp,?_,?_,fun n x hx=> ?_⟩
 ·cases d<;>exact r.defers
 ·rw[←r.tsz];cases d with
  |none=>rfl
  |some m=>simp[Act.put]
 ·by_cases hd:d=some n
  ·subst hd
   simp only[anyS,nth_eq,hx] at h
   split at h
   ·rename_i hh;have:=Option.some.inj hh;subst this;trivial
   ·cases h
  ·rw[put_getD hd];exact r.tm n x hx
theorem Rel.wipe {C:Cod U}(r:Rel C E s a w β){d:Option Nat}:Rel C E (EV.put s d (.l .any)) a w β:=by
 cases d with
 |none=>exact r
 |some n=>exact r.putSame (v:=a.tmps.getD n undef) (fun _=>trivial) (fun m e=>by cases e;rfl)
theorem isPu_all {o:Oper}(h:isPu o.op=true){a:Act}{w:World}{v:Value}(hr:(execOp a.eval o).run P w= .ok (.value v) w)(w':World):(execOp a.eval o).run P w'= .ok (.value v) w':=by
 cases ho:o.op with
 |move x=>simp[execOp,ho] at hr ⊢;exact hr
 |assign x=>simp[execOp,ho] at hr ⊢;exact hr
 |extract x i=>
  simp only[execOp,ho] at hr ⊢
  cases hx:a.eval x with
  |tuple vs=>
   rw[hx] at hr
   simp only[Instr.extract] at hr ⊢
   cases hv:vs[i]? with
   |none=>rw[hv] at hr;simp at hr
   |some u=>rw[hv] at hr;simp at hr ⊢;exact hr
  |_=>rw[hx] at hr;simp[Instr.extract] at hr
 |_=>rw[ho] at h;cases h
theorem nyetY {a0:Option Nat}{i:Nat}{listed:Array Bool}{pre:Bool}(h:a0Y a0 i listed=true)(hp:nyet a0 listed=pre):nyet a0 (listed.setIfInBounds i true)=(pre&& !isA a0 i):=by
 cases a0 with
 |none=>have:pre=true:=hp.symm;subst this;rfl
 |some b=>
  by_cases hb:b=i
  ·subst hb
   have e:isA (some b) b=true:=Nat.beq_refl b
   rw[e]
   simp only[a0Y,bne_self_eq_false,Bool.false_or,Bool.not_eq_true'] at h
   rw[h];simp
  ·have e:isA (some b) i=false:=by
    unfold isA
    cases hh:Nat.beq b i with
    |false=>exact hh
    |true=>exact absurd (Nat.eq_of_beq_eq_true hh) hb
   rw[e,nyet_ne (fun e=>hb (Option.some.inj e)),hp];simp
theorem takeY {os:Array Oper}{a0:Option Nat}(hs:Region.noSelect os=true){Q:Exit→Act→World→Prop}{i:Nat}{o:Oper}{v:Value}{n:Nat}{listed:Array Bool}{wS:World}(ho:os[i]? =some o)(hD:Dn .any os listed)(hc:tkY os a0 i listed=true)
  (hy:YieldsIf P os (Ext wS) o v a) (hpu:isPu o.op=true→YieldsIf P os (fun _=>True) o v a) (hS:nyet a0 listed=true→Ext wS w)
  (h:wpAnyG P .any os a0 (NoPanic Q) (Ext wS) n (listed.setIfInBounds i true) (a.put o.dst v) w):wpAnyG P .any os a0 (NoPanic Q) (Ext wS) (n+1) listed a w:=by
 simp only[tkY,Bool.and_eq_true] at hc
 obtain⟨⟨h1,h2⟩,h3⟩:=hc
 have h2':i∈Region.ready .any os listed:=by simpa using h2
 cases a0 with
 |none=>exact wpAnyG_first ho (Region.noSelect_spec hs) (fun _ _ _ h=>h) (by simp) (fun _ _ _=>rfl) n listed a w (Region.free_spec ho h1) hD h2' hy (hS rfl) h
 |some b=>
  simp only[Bool.and_eq_true,bne_iff_ne,ne_eq,Bool.or_eq_true,ho] at h3
  have hne:some b≠some i:=fun e=>h3.1 (Option.some.inj e)
  rcases h3.2 with h4|h4
  ·have hbar:∀listed,Dn .any os listed→listed.getD i true=false→nyet (some b) listed=true:=fun listed hD hun=>by
    simp only[nyet,Bool.not_eq_true']
    exact getD_in (reqB_spec hD hun 40 b h4)
   exact wpAnyG_first ho (Region.noSelect_spec hs) (fun _ _ _ h=>h) hne hbar n listed a w (Region.free_spec ho h1) hD h2' hy (hS (hbar _ hD (mem_ready.1 h2').1)) h
  ·exact wpAnyG_first0 ho (Region.noSelect_spec hs) (fun _ _ _ h=>h) hne n listed a w (Region.free_spec ho h1) h2' (hpu h4) hS h
theorem tkY_ready {os:Array Oper}{a0:Option Nat}{i:Nat}{listed:Array Bool}(h:tkY os a0 i listed=true):i∈Region.ready .any os listed∧a0≠some i:=by
 simp only[tkY,Bool.and_eq_true] at h
 refine⟨by simpa using h.1.2,fun e=> ?_⟩
 subst e
 have:=h.2
 simp at this
structure Lk (E:Env g) (kd:Option (Nat×Nat)) (st pre:Bool) (wS w:World):Prop where
 fr:∀n k,kd=some (n,k)→(wS,n,k)∈E.fr
 st:st=true→wS=w
 no:kd=none→wS=w
 pre:pre=true→Ext wS w
theorem stepT (G:Good P g Y TI FZ){al:List Oper}{a0:Option Nat}(hs:Region.noSelect al.toArray=true){Q:Exit→Act→World→Prop}{i:Nat}{o:Oper}{n:Nat}{listed:Array Bool}{wS:World}(ho:al[i]? =some o)(hD:Dn .any al.toArray listed)(hc:tkY al.toArray a0 i listed=true)
  {K:St U→Option α} {z:α} {st:Bool} (h:(bif Nat.beq (cls FZ o.op) 0&&(isPu o.op||st) then grd Y TI FZ al o s K else none)=some z) (hst:st=true→wS=w) (hS:nyet a0 listed=true→Ext wS w) (r:Rel Y.C E s a w β)
  (hk:∀v s',Ag (Wr al o) s s'→K s'=some z→Rel Y.C E s' (a.put o.dst v) w β→wpAnyG P .any al.toArray a0 (NoPanic Q) (Ext wS) n (listed.setIfInBounds i true) (a.put o.dst v) w):wpAnyG P .any al.toArray a0 (NoPanic Q) (Ext wS) (n+1) listed a w:=by
 cases hb:(Nat.beq (cls FZ o.op) 0&&(isPu o.op||st)) with
 |false=>rw[hb] at h;cases h
 |true=>
  rw[hb] at h
  simp only[cond_true] at h
  simp only[Bool.and_eq_true,Bool.or_eq_true] at hb
  obtain⟨v,s',h1,h2,h3,h4⟩:=grd0 G r (Nat.eq_of_beq_eq_true hb.1) h
  have hg:al.toArray[i]? =some o:=by simpa using ho
  have hpu:isPu o.op=true→YieldsIf P al.toArray (fun _=>True) o v a:=fun hp=>h1.imp (fun⟨k1,k2⟩=>⟨k1,fun w' _=>isPu_all hp (k2 w (Ext.refl w)) w'⟩) id
  refine takeY hs hg hD hc ?_ hpu hS (hk v s' h4 h3 h2)
  rcases hb.2 with hp|hp
  ·exact(hpu hp).imp (fun⟨k1,k2⟩=>⟨k1,fun w' _=>k2 w' trivial⟩) id
  ·have:=hst hp;subst this;exact h1
theorem stepB (G:Good P g Y TI FZ){al:List Oper}{a0:Option Nat}{kd:Option (Nat×Nat)}{Q:Exit→Act→World→Prop}{i:Nat}{o:Oper}{n:Nat}{listed:Array Bool}{wS:World}(ho:al[i]? =some o){pre st:Bool}(ha:a0Y a0 i listed=true)(hp:nyet a0 listed=pre)
  {K:St U→Option α} {z:α} (h:grd Y TI FZ al o s (fun s'=>bif !(pre&& !isA a0 i)||(Nat.ble (cls FZ o.op) 1||unO kd s'.m.o) then K s' else none)=some z) (hl:Lk E kd st pre wS w) (r:Rel Y.C E s a w β)
  (hk:∀v s' w' β' wS',Ag (Wr al o) s s'→K s'=some z→Rel Y.C E s' (a.put o.dst v) w' β'→Lk E kd (st&&isNo kd) (pre&& !isA a0 i) wS' w'→wpAnyG P .any al.toArray a0 (NoPanic Q) (Ext wS') n (listed.setIfInBounds i true) (a.put o.dst v) w'):
  wpOp P al.toArray (NoPanic Q) i (fun a' w'=>(nyet a0 (listed.setIfInBounds i true)=true→Ext wS w')∧wpAnyG P .any al.toArray a0 (NoPanic Q) (Ext wS) n (listed.setIfInBounds i true) a' w') a w:=by
 have hny:=nyetY ha hp
 have hg:al.toArray[i]? =some o:=by simpa using ho
 refine wpOp_step hg fun K' hK'=>grd_wpP G r h fun s' v w' β' q1 q2 q3 q4=>hK' _ _ ?_
 cases hb:(!(pre&& !isA a0 i)||(Nat.ble (cls FZ o.op) 1||unO kd s'.m.o)) with
 |false=>rw[hb] at q2;cases q2
 |true=>
  rw[hb] at q2
  simp only[cond_true] at q2
  have hext:(pre&& !isA a0 i)=true→Ext wS w':=fun hpp=>by
   rw[hpp] at hb
   simp only[Bool.not_true,Bool.false_or,Bool.or_eq_true] at hb
   simp only[Bool.and_eq_true] at hpp
   rcases hb with hb|hb
   ·exact(hl.pre hpp.1).trans (q4 hb)
   ·cases hkd:kd with
    |none=>rw[hkd] at hb;cases hb
    |some p=>
     obtain⟨n0,k0⟩:=p
     rw[hkd] at hb
     exact q3.unt (hl.fr n0 k0 hkd) hb
  refine⟨fun hn=>hext (hny.symm.trans hn),?_⟩
  cases hkd:kd with
  |some p=>
   exact hk v s' w' β' wS q1 q2 q3 ⟨hl.fr,fun h=>(by rw[hkd] at h;simp[isNo] at h),fun h=>(by rw[hkd] at h;cases h),hext⟩
  |none=>
   have hw:=hl.no hkd
   have hk':=hk v s' w' β' w' q1 q2 q3 ⟨fun n k h=>(by rw[hkd] at h;cases h),fun _=>rfl,fun _=>rfl,fun _=>Ext.refl w'⟩
   cases hpp:(pre&& !isA a0 i) with
   |true=>exact wpAnyG_mono (fun x hx=>(hext hpp).trans hx) _ _ _ _ hk'
   |false=>exact wpAnyG_free _ _ _ _ (hny.trans hpp) hk'
variable {al:List Oper} {a0:Option Nat} {kd:Option (Nat×Nat)} {Q:Exit→Act→World→Prop} {D:Nat→Prop}
theorem opsY0 (G:Good P g Y TI FZ)(hs:Region.noSelect al.toArray=true):∀(l:List (Nat×Bool)) (pre st:Bool) (s:St U) (K:St U→Option α) (z:α),(∀i∈l,∀o,al[i.1]? =some o→∀n,Wr al o n→D n)→opsY Y TI FZ al a0 kd l none pre st s K=some z→
  (∀s' a w β,Ag D s s'→K s'=some z→Rel Y.C E s' a w β→Q .normal a w)→∀listed,Dn .any al.toArray listed→chk0 al.toArray a0 l listed=true→nyet a0 listed=pre→∀a w β wS,Lk E kd st pre wS w→Rel Y.C E s a w β→wpAnyG P .any al.toArray a0 (NoPanic Q) (Ext wS) l.length listed a w
 |[],pre,st,s,K,z,_,h,hQ,listed,_,hc,_,a,w,β,wS,_,r=>wpAnyG_done (P:=P) (a0:=a0) (S:=Ext wS) (Q:=NoPanic Q) (by simpa[chk0] using hc) (hQ s a w β (Ag.refl s) h r) 0
 |(i,fl)::l,pre,st,s,K,z,hD,h,hQ,listed,hdn,hc,hp,a,w,β,wS,hl,r=>by
  simp only[opsY,nth_eq] at h
  cases ho:al[i]? with
  |none=>rw[ho] at h;cases h
  |some o=>
   rw[ho] at h
   simp only at h
   have hDi:=hD (i,fl) (by simp) o ho
   have hD':∀j∈l,∀o,al[j.1]? =some o→∀n,Wr al o n→D n:=fun j hj=>hD j (by simp[hj])
   cases fl with
   |true=>
    simp only[chk0,Bool.and_eq_true] at hc
    obtain⟨hr,hne⟩:=tkY_ready hc.1
    exact stepT G hs ho hdn hc.1 h hl.st (fun hn=>hl.pre (hp.symm.trans hn)) r fun v s' h1 h2 h3=>
     opsY0 G hs l pre st s' K z hD' h2 (fun s2 a2 w2 β2 g1=>hQ s2 a2 w2 β2 ((h1.mono hDi).trans g1)) _ (hdn.set hr) hc.2 ((nyet_ne hne).trans hp) _ w β wS hl h3
   |false=>
    simp only[chk0,Bool.and_eq_true,beq_iff_eq] at hc
    simp only[cond_false] at h
    rw[show floAt Y TI al none s=true from rfl] at h
    simp only[cond_true] at h
    refine wpAnyG_all hc.1 (by simp) fun i' hi'=> ?_
    simp at hi';subst hi'
    exact stepB G ho hc.2.1 hp h hl r fun v s' w' β' wS' h1 h2 h3 h4=>
     opsY0 G hs l _ _ s' K z hD' h2 (fun s2 a2 w2 β2 g1=>hQ s2 a2 w2 β2 ((h1.mono hDi).trans g1)) _ (hdn.set (by rw[hc.1];simp)) hc.2.2 (nyetY hc.2.1 hp) _ w' β' wS' h4 h3
theorem floAt_spec {j:Nat}{oj:Oper}(ho:al[j]? =some oj)(h:floAt Y TI al (some j) s=true):oj.guard=none∧anyS s oj.dst=true∧floOk Y TI s oj.op=true∧offL oj oj.dst=true:=by
 simp only[floAt,nth_eq,ho,Bool.and_eq_true] at h
 refine⟨?_,h.2.1,h.2.2.2,h.2.2.1⟩
 cases hg:oj.guard with
 |none=>rfl
 |some x=>rw[hg] at h;cases h.1
theorem offS_dst {oj:Oper}{d:Option Nat}(h:offS oj d=true):∀n,oj.dst=some n→d≠some n:=fun n hn e=>by
 subst e
 simp only[offS,hn,Bool.and_eq_true] at h
 have:=h.1
 rw[show Nat.beq n n=true from Nat.beq_refl n] at this
 cases this
theorem offS_l {oj:Oper}{d:Option Nat}(h:offS oj d=true):offL oj d=true:=by
 simp only[offS,Bool.and_eq_true] at h;exact h.2
theorem Lk.mk1 {b:Nat}{blk:Obj}{hb:E.w0.heap.size≤b}{st pre:Bool}{wS:World}(h:Lk E kd st pre wS w):Lk (E.ahd b blk hb) kd st pre wS w:=⟨h.fr,h.st,h.no,h.pre⟩
theorem Lk.un1 {b:Nat}{blk:Obj}{hb:E.w0.heap.size≤b}{st pre:Bool}{wS:World}(h:Lk (E.ahd b blk hb) kd st pre wS w):Lk E kd st pre wS w:=⟨h.fr,h.st,h.no,h.pre⟩
theorem opsY1 (G:Good P g Y TI FZ)(hs:Region.noSelect al.toArray=true)(hP:E.prm=[]){j:Nat}{oj:Oper}(hj:al[j]? =some oj)(hgj:oj.guard=none)(hja:a0≠some j){b:Nat}{blk:Obj}{hb:E.w0.heap.size≤b}:∀(l:List (Nat×Bool)) (m:Nat) (pre st:Bool) (s:St U) (K:St U→Option α) (z:α),m+1=l.length→(∀i∈l,∀o,al[i.1]? =some o→∀n,Wr al o n→D n)→opsY Y TI FZ al a0 kd l (some j) pre st s K=some z→
  (∀s' a w β,Ag D s s'→K s'=some z→Rel Y.C E s' a w β→Q .normal a w)→∀listed,Dn .any al.toArray listed→chk1 al.toArray a0 oj j l listed=true→nyet a0 listed=pre→∀a w β wS,Lk E kd st pre wS w→Flp P a oj blk→(∀n,oj.dst=some n→a.tmps.getD n undef=mkF oj.op b)→Rel Y.C (E.ahd b blk hb) s a w β→wpAnyG P .any al.toArray a0 (NoPanic Q) (Ext wS) m listed a w
 |[],m,pre,st,s,K,z,hm,_,h,hQ,listed,_,hc,_,a,w,β,wS,_,_,_,r=>by cases hc
 |(i,fl)::l,m,pre,st,s,K,z,hm,hD,h,hQ,listed,hdn,hc,hp,a,w,β,wS,hl,hF,hv,r=>by
  have hm':m=l.length:=by simpa using hm
  have hD':∀j∈l,∀o,al[j.1]? =some o→∀n,Wr al o n→D n:=fun j hj=>hD j (by simp[hj])
  simp only[chk1] at hc
  simp only[opsY,nth_eq] at h
  cases hij:Nat.beq i j with
  |true=>
   have e:=Nat.eq_of_beq_eq_true hij
   subst e
   rw[hij] at hc
   simp only[cond_true,Bool.and_eq_true] at hc
   have hfl:fl=false:=by simpa using hc.1
   subst hfl
   rw[hj] at h
   simp only[cond_false] at h
   have hDi:=hD (i,false) (by simp) oj hj
   cases hfa:floAt Y TI al (some i) s with
   |false=>rw[hfa] at h;cases h
   |true=>
    rw[hfa] at h
    simp only[cond_true] at h
    obtain⟨_,_,hok,_⟩:=floAt_spec hj hfa
    have hself:isA (some i) i=true:=Nat.beq_refl i
    have hna:isA a0 i=false:=by
     cases a0 with
     |none=>rfl
     |some c=>
      cases hh:isA (some c) i with
      |false=>rfl
      |true=>exact absurd (congrArg some (Nat.eq_of_beq_eq_true hh)) hja
    rw[hself,hna] at h
    simp only[cond_true,Bool.not_false,Bool.and_true] at h
    unfold grd at h
    rw[hgj] at h
    simp only[one] at h
    obtain⟨x,s',β',k1,k2,k3,k4,k5,k6⟩:=flo_adopt G r hP hF hok h
    cases hcc:(!pre||(Nat.ble (cls FZ oj.op) 1||unO kd (EV.put s' oj.dst x).m.o)) with
    |false=>rw[hcc] at k1;cases k1
    |true=>
     rw[hcc] at k1
     simp only[cond_true] at k1
     have hag:Ag D s (EV.put s' oj.dst x):=Ag.put ⟨fun n _=>by rw[k4],by rw[k4],k5,k6⟩ (fun n e=>hDi n (.inl e))
     rw[hm']
     exact opsY0 G hs l pre _ _ K z hD' k1 (fun s2 a2 w2 β2 g1=>hQ s2 a2 w2 β2 (hag.trans g1)) listed hdn hc.2 hp a w β' wS ⟨hl.fr,fun h=>hl.st (by simp only[Bool.and_eq_true] at h;exact h.1),hl.no,hl.pre⟩ (k2.putSame (fun _=>k3) hv)
  |false=>
   rw[hij] at hc
   simp only[cond_false] at hc
   have hnA:isA (some j) i=false:=by
    show Nat.beq j i=false
    cases hh:Nat.beq j i with
    |false=>rfl
    |true=>have:=Nat.eq_of_beq_eq_true hh;subst this;rw[show Nat.beq j j=true from Nat.beq_refl j] at hij;cases hij
   cases ho:al[i]? with
   |none=>rw[ho] at h;cases h
   |some o=>
    rw[ho] at h
    simp only at h
    have hg:al.toArray[i]? =some o:=by simpa using ho
    rw[hg] at hc
    simp only[Bool.and_eq_true] at hc
    obtain⟨hoff,hc⟩:=hc
    have hDi:=hD (i,fl) (by simp) o ho
    have hlen:∃m',m=m'+1∧m'+1=l.length:=by
     cases l with
     |nil=>cases fl<;>(simp only[cond_true,cond_false,chk1,Bool.and_false,Bool.and_eq_true] at hc;simp at hc)
     |cons x l=>exact⟨l.length,by simpa using hm',by simp⟩
    obtain⟨m',rfl,hm2⟩:=hlen
    have hoffd:∀n,oj.dst=some n→∀v,(a.put o.dst v).tmps.getD n undef=mkF oj.op b:=fun n hn v=>by rw[put_getD (offS_dst hoff n hn)];exact hv n hn
    cases fl with
    |true=>
     simp only[cond_true,Bool.and_eq_true] at hc
     obtain⟨hr,hne⟩:=tkY_ready hc.1
     exact stepT G hs ho hdn hc.1 h hl.st (fun hn=>hl.pre (hp.symm.trans hn)) r fun v s' h1 h2 h3=>
      opsY1 G hs hP hj hgj hja l m' pre st s' K z hm2 hD' h2 (fun s2 a2 w2 β2 g1=>hQ s2 a2 w2 β2 ((h1.mono hDi).trans g1)) _ (hdn.set hr) hc.2 ((nyet_ne hne).trans hp) _ w β wS hl (hF.keep (offS_l hoff)) (fun n hn=>hoffd n hn v) h3
    |false=>
     simp only[cond_false,Bool.and_eq_true,beq_iff_eq] at hc
     simp only[cond_false,hnA] at h
     cases hfa:floAt Y TI al (some j) s with
     |false=>rw[hfa] at h;cases h
     |true=>
      rw[hfa] at h
      simp only[cond_true] at h
      refine wpAnyG_all hc.1 (by simp) fun i' hi'=> ?_
      simp at hi';subst hi'
      exact stepB G ho hc.2.1 hp h hl.mk1 r fun v s' w' β' wS' h1 h2 h3 h4=>
       opsY1 G hs hP hj hgj hja l m' _ _ s' K z hm2 hD' h2 (fun s2 a2 w2 β2 g1=>hQ s2 a2 w2 β2 ((h1.mono hDi).trans g1)) _ (hdn.set (by rw[hc.1];simp)) hc.2.2 (nyetY hc.2.1 hp) _ w' β' wS' h4.un1 (hF.keep (offS_l hoff)) (fun n hn=>hoffd n hn v) h3
theorem opsYF (G:Good P g Y TI FZ)(hs:Region.noSelect al.toArray=true)(hP:E.prm=[]){j:Nat}{oj:Oper}(hj:al[j]? =some oj)(hja:a0≠some j):∀(l:List (Nat×Bool)) (pre st:Bool) (s:St U) (K:St U→Option α) (z:α),(∀i∈l,∀o,al[i.1]? =some o→∀n,Wr al o n→D n)→opsY Y TI FZ al a0 kd l (some j) pre st s K=some z→
  (∀s' a w β,Ag D s s'→K s'=some z→Rel Y.C E s' a w β→Q .normal a w)→∀listed,Dn .any al.toArray listed→chkF al.toArray a0 oj j l listed=true→nyet a0 listed=pre→∀a w β wS,Lk E kd st pre wS w→Rel Y.C E s a w β→wpAnyG P .any al.toArray a0 (NoPanic Q) (Ext wS) l.length listed a w
 |[],pre,st,s,K,z,_,h,hQ,listed,_,hc,_,a,w,β,wS,_,r=>by cases hc
 |(i,fl)::l,pre,st,s,K,z,hD,h,hQ,listed,hdn,hc,hp,a,w,β,wS,hl,r=>by
  have hD':∀j∈l,∀o,al[j.1]? =some o→∀n,Wr al o n→D n:=fun j hj=>hD j (by simp[hj])
  have hfull:=h
  simp only[chkF] at hc
  simp only[opsY,nth_eq] at h
  cases ho:al[i]? with
  |none=>rw[ho] at h;cases h
  |some o=>
   rw[ho] at h
   simp only at h
   have hDi:=hD (i,fl) (by simp) o ho
   cases hij:Nat.beq i j with
   |true=>
    have e:=Nat.eq_of_beq_eq_true hij
    subst e
    rw[hij] at hc
    simp only[cond_true,Bool.and_eq_true,beq_iff_eq] at hc
    have hfl:fl=false:=by simpa using hc.1
    subst hfl
    simp only[cond_false] at h
    cases hfa:floAt Y TI al (some i) s with
    |false=>rw[hfa] at h;cases h
    |true=>
     rw[hfa] at h
     simp only[cond_true] at h
     have hself:isA (some i) i=true:=Nat.beq_refl i
     rw[hself] at h
     simp only[cond_true] at h
     have ha:a0Y a0 i listed=true:=by
      unfold a0Y
      rw[show(a0 !=some i)=true from by simpa using hja];rfl
     refine wpAnyG_all hc.2.1 (by simp) fun i' hi'=> ?_
     simp at hi';subst hi'
     exact stepB G ho ha hp h hl r fun v s' w' β' wS' h1 h2 h3 h4=>
      opsY0 G hs l _ _ s' K z hD' h2 (fun s2 a2 w2 β2 g1=>hQ s2 a2 w2 β2 ((h1.mono hDi).trans g1)) _ (hdn.set (by rw[hc.2.1];simp)) hc.2.2 (nyetY ha hp) _ w' β' wS' h4 h3
   |false=>
    rw[hij] at hc
    simp only[cond_false] at hc
    have hnA:isA (some j) i=false:=by
     show Nat.beq j i=false
     cases hh:Nat.beq j i with
     |false=>rfl
     |true=>have:=Nat.eq_of_beq_eq_true hh;subst this;rw[show Nat.beq j j=true from Nat.beq_refl j] at hij;cases hij
    cases fl with
    |true=>
     simp only[cond_true,Bool.and_eq_true] at hc
     obtain⟨hr,hne⟩:=tkY_ready hc.1
     exact stepT G hs ho hdn hc.1 h hl.st (fun hn=>hl.pre (hp.symm.trans hn)) r fun v s' h1 h2 h3=>
      opsYF G hs hP hj hja l pre st s' K z hD' h2 (fun s2 a2 w2 β2 g1=>hQ s2 a2 w2 β2 ((h1.mono hDi).trans g1)) _ (hdn.set hr) hc.2 ((nyet_ne hne).trans hp) _ w β wS hl h3
    |false=>
     simp only[cond_false,Bool.and_eq_true] at hc
     simp only[cond_false,hnA] at h
     cases hfa:floAt Y TI al (some j) s with
     |false=>rw[hfa] at h;cases h
     |true=>
      rw[hfa] at h
      simp only[cond_true] at h
      obtain⟨hgj,hany,hok,hself⟩:=floAt_spec hj hfa
      have hgi:al.toArray[j]? =some oj:=by simpa using hj
      have inT:i∈Region.ready .any al.toArray listed→wpOp P al.toArray (NoPanic Q) i (fun a' w'=>(nyet a0 (listed.setIfInBounds i true)=true→Ext wS w')∧wpAnyG P .any al.toArray a0 (NoPanic Q) (Ext wS) l.length (listed.setIfInBounds i true) a' w') a w:=fun hir=>
       stepB G ho hc.2.1 hp h hl r fun v s' w' β' wS' h1 h2 h3 h4=>
        opsYF G hs hP hj hja l _ _ s' K z hD' h2 (fun s2 a2 w2 β2 g1=>hQ s2 a2 w2 β2 ((h1.mono hDi).trans g1)) _ (hdn.set hir) hc.2.2 (nyetY hc.2.1 hp) _ w' β' wS' h4 h3
      have early:j∈Region.ready .any al.toArray listed→chk1 al.toArray a0 oj j ((i,false)::l) (listed.setIfInBounds j true)=true→wpOp P al.toArray (NoPanic Q) j (fun a' w'=>(nyet a0 (listed.setIfInBounds j true)=true→Ext wS w')∧wpAnyG P .any al.toArray a0 (NoPanic Q) (Ext wS) l.length (listed.setIfInBounds j true) a' w') a w:=fun hjr hc1=>by
       obtain⟨blk,hF⟩:=flo_early G r hok
       have hny:nyet a0 (listed.setIfInBounds j true)=pre:=(nyet_ne hja).trans hp
       have hbw:E.w0.heap.size≤w.heap.size:=r.hp.ext.size
       refine wpOp_step hgi fun K' hK'=> ?_
       rw[if_pos (by simp[Region.wanted,hgj])]
       refine wpo (.inl (hF w)) (hK' _ _ ⟨fun hn=>(hl.pre (hny.symm.trans hn)).trans (Ext.alloc _ _),?_⟩)
       have r1:Rel Y.C (E.ahd w.heap.size blk hbw) s (a.put oj.dst (mkF oj.op w.heap.size)) (w.alloc blk) β:=(r.ahead hbw).putAny hany
       have hF':Flp P (a.put oj.dst (mkF oj.op w.heap.size)) oj blk:=hF.keep hself
       have hv':∀n,oj.dst=some n→(a.put oj.dst (mkF oj.op w.heap.size)).tmps.getD n undef=mkF oj.op w.heap.size:=fun n hn=>by
        rw[hn]
        simp only[anyS,hn,nth_eq] at hany
        have hlt:n<a.tmps.size:=by
         rw[r.tsz]
         cases hx:s.t[n]? with
         |none=>rw[hx] at hany;cases hany
         |some x=>exact lt_of_some hx
        simp only[Act.put]
        rw[getD_set _ _ _ _ _ hlt,if_pos rfl]
       have fin:=fun st' wS' (hfull':opsY Y TI FZ al a0 kd ((i,false)::l) (some j) pre st' s K=some z) (hl':Lk E kd st' pre wS' (w.alloc blk))=>opsY1 (D:=D) (Q:=Q) G hs hP hj hgj hja ((i,false)::l) l.length pre st' s K z (by simp) hD hfull' hQ _ (hdn.set hjr) hc1 hny _ (w.alloc blk) β wS' hl' hF' hv' r1
       cases hkd:kd with
       |some p=>
        refine fin false wS ?_ ⟨hl.fr,fun h=>(by cases h),fun h=>(by rw[hkd] at h;cases h),fun h=>(hl.pre h).trans (Ext.alloc _ _)⟩
        have hf:=hfull
        rw[hkd] at hf ⊢
        simp only[opsY,nth_eq,ho,cond_false,isNo,Bool.and_false] at hf ⊢
        exact hf
       |none=>
        have hw:=hl.no hkd
        have hk':=fin st (w.alloc blk) hfull ⟨fun n k h=>(by rw[hkd] at h;cases h),fun _=>rfl,fun _=>rfl,fun _=>Ext.refl _⟩
        cases hpp:pre with
        |true=>exact wpAnyG_mono (fun x hx=>((hl.pre hpp).trans (Ext.alloc _ _)).trans hx) _ _ _ _ hk'
        |false=>exact wpAnyG_free _ _ _ _ (hny.trans hpp) hk'
      have h1:=hc.1
      rw[Bool.or_eq_true,beq_iff_eq] at h1
      rcases h1 with h1|h1
      ·refine wpAnyG_all h1 (by simp) fun i' hi'=> ?_
       simp at hi';subst hi'
       exact inT (by rw[h1];simp)
      ·rw[Bool.and_eq_true,Bool.or_eq_true,beq_iff_eq,beq_iff_eq] at h1
       have hmem:∀x,x∈Region.ready .any al.toArray listed↔x=i∨x=j:=fun x=>by
        rcases h1.1 with e|e<;>rw[e]<;>simp[or_comm]
       exact wpAnyG_all rfl (fun e=>by have:=(hmem i).2 (.inl rfl);rw[e] at this;simp at this) fun i' hi'=>by
        rcases(hmem i').1 hi' with rfl|rfl
        ·exact inT hi'
        ·exact early hi' h1.2
end
end Go.EV

/-
  THE EVALUATOR's KIT, twenty-sixth part: regions, whose order is the text's or drawn; the evaluator is sound. Plain theorems over any program; the conditions stand in each.
-/
set_option linter.unusedVariables false
set_option linter.unusedSimpArgs false
namespace Go.EV
open Go.RowKit Go.VK
variable {U:Uni} {Y:Lay U} {TI:List (Nat×TInfo)} {FZ:List (Nat×Sum U)} {P:Program} {g:GI} {E:Env g}
section
variable {α:Type}
theorem fstsN_eq:∀(l:List (Nat×Bool)),fstsN l=l.map Prod.fst
 |[]=>rfl
 |x::l=>by rw[List.map_cons,←fstsN_eq l];rfl
theorem noneF_cons {x:Nat×Bool}{l:List (Nat×Bool)}(h:noneF (x::l)=true):x.2=false∧noneF l=true:=by
 have e:noneF (x::l)=cond x.2 false (noneF l):=rfl
 rw[e] at h
 cases hx:x.2 with
 |true=>rw[hx] at h;cases h
 |false=>rw[hx] at h;exact⟨rfl,h⟩
theorem opsZ (G:Good P g Y TI FZ){al:List Oper}{Q:Exit→Act→World→Prop}{D:Nat→Prop}:∀(l:List Nat) (s:St U) (K:St U→Option α) (z:α),(∀i∈l,∀o,al[i]? =some o→∀n,Wr al o n→D n)→opsO Y TI FZ al l s K=some z→
  ∀(rest:List Nat),(∀s' a w β listed,Ag D s s'→K s'=some z→Rel Y.C E s' a w β→chz al.toArray rest listed=true→wpAny P .any al.toArray Q rest.length listed a w)→∀listed,chz al.toArray (l++rest) listed=true→∀a w β,Rel Y.C E s a w β→wpAny P .any al.toArray Q (l++rest).length listed a w
 |[],s,K,z,_,h,rest,hk,listed,hc,a,w,β,r=>hk s a w β listed (Ag.refl s) h r hc
 |i::l,s,K,z,hD,h,rest,hk,listed,hc,a,w,β,r=>by
  simp only[opsO,nth_eq] at h
  cases ho:al[i]? with
  |none=>rw[ho] at h;cases h
  |some o=>
   rw[ho] at h
   simp only at h
   replace hc:((Region.ready .any al.toArray listed==[i])&&chz al.toArray (l++rest) (listed.setIfInBounds i true))=true:=hc
   simp only[Bool.and_eq_true,beq_iff_eq] at hc
   have hg:al.toArray[i]? =some o:=by simpa using ho
   refine anyOne hc.1 (wpOp_step hg fun K' hK'=>grd_wp G r h fun s' a' w' β' q1 q2 q3 _=>hK' _ _ ?_)
   have q1':=q1.mono (hD i (by simp) o ho)
   exact opsZ G l s' K z (fun j hj=>hD j (by simp[hj])) q2 rest (fun s2 a2 w2 β2 li p1 p2 p3 p4=>hk s2 a2 w2 β2 li (q1'.trans p1) p2 p3 p4) _ hc.2 a' w' β' q3
def CG (FZ:List (Nat×Sum U))(al:List Oper)(a0:Option Nat)(l:List (Nat×Bool))(listed:Array Bool):Prop:=frees FZ al a0 l=true∨(nyet a0 listed=false∧noneF l=true)
theorem opsG (G:Good P g Y TI FZ){al:List Oper}{a0:Option Nat}(hs:Region.noSelect al.toArray=true){Q:Exit→Act→World→Prop}{D:Nat→Prop}:∀(l:List (Nat×Bool)) (s:St U) (K:St U→Option α) (z:α),(∀i∈l,∀o,al[i.1]? =some o→∀n,Wr al o n→D n)→opsO Y TI FZ al (fstsN l) s K=some z→
  ∀(rest:List (Nat×Bool)),(∀s' a w β listed,Ag D s s'→K s'=some z→Rel Y.C E s' a w β→Dn .any al.toArray listed→chk al.toArray a0 rest listed=true→CG FZ al a0 rest listed→wpAnyG P .any al.toArray a0 (NoPanic Q) (Ext w) rest.length listed a w)→
   ∀listed,Dn .any al.toArray listed→chk al.toArray a0 (l++rest) listed=true→CG FZ al a0 (l++rest) listed→∀a w β,Rel Y.C E s a w β→wpAnyG P .any al.toArray a0 (NoPanic Q) (Ext w) (l++rest).length listed a w
 |[],s,K,z,_,h,rest,hk,listed,hd,hc,hg,a,w,β,r=>hk s a w β listed (Ag.refl s) h r hd hc hg
 |(i,fl)::l,s,K,z,hD,h,rest,hk,listed,hd,hc,hcg,a,w,β,r=>by
  replace h:opsO Y TI FZ al (i::fstsN l) s K=some z:=h
  simp only[opsO,nth_eq] at h
  cases ho:al[i]? with
  |none=>rw[ho] at h;cases h
  |some o=>
   rw[ho] at h
   simp only at h
   have hg:al.toArray[i]? =some o:=by simpa using ho
   cases fl with
   |true=>
    rw[List.cons_append] at hc
    simp only[chk,Bool.and_eq_true] at hc
    have hfr:Nat.beq (cls FZ o.op) 0=true∧frees FZ al a0 (l++rest)=true:=by
     rcases hcg with hcg|⟨_,hcg⟩
     ·have hcg':frees FZ al a0 ((i,true)::(l++rest))=true:=hcg
      simp only[frees,nth_eq,ho,cond_true,Bool.and_eq_true] at hcg'
      exact hcg'
     ·exact absurd (noneF_cons hcg).1 (by simp)
    obtain⟨v,s',h1,h2,h3,h4⟩:=grd0 G r (Nat.eq_of_beq_eq_true hfr.1) h
    have hD':=hd.set (by simpa using hc.1.1.2)
    have h4':=h4.mono (hD (i,true) (by simp) o ho)
    refine wpAnyG_take (i:=i) (oi:=o) (v:=v) hg hs hc.1.1.1 hc.1.1.2 hc.1.2 hd (fun _ _ _ h=>h) ?_ (Ext.refl w) ?_
    ·rcases h1 with⟨k1,k2⟩|⟨k1,k2⟩
     ·exact .inl ⟨k1,k2⟩
     ·exact .inr ⟨k1,k2⟩
    ·exact opsG G hs l s' K z (fun j hj=>hD j (by simp[hj])) h3 rest (fun s2 a2 w2 β2 li p1 p2 p3 p4 p5 p6=>hk s2 a2 w2 β2 li (h4'.trans p1) p2 p3 p4 p5 p6) _ hD' hc.2 (.inl hfr.2) _ w β h2
   |false=>
    replace hc:((Region.ready .any al.toArray listed==[i])&&(a0 !=some i|| !nyet a0 (listed.setIfInBounds i true))&&chk al.toArray a0 (l++rest) (listed.setIfInBounds i true))=true:=hc
    simp only[Bool.and_eq_true,beq_iff_eq] at hc
    have hD':=hd.set (i:=i) (by rw[hc.1.1];simp)
    have hcase:(Nat.ble (cls FZ o.op) 1=true∧frees FZ al a0 (l++rest)=true)∨(nyet a0 (listed.setIfInBounds i true)=false∧noneF (l++rest)=true):=by
     rcases hcg with hcg|⟨hn,hcg⟩
     ·have hcg':frees FZ al a0 ((i,false)::(l++rest))=true:=hcg
      simp only[frees,nth_eq,ho,cond_false] at hcg'
      cases hb:Nat.ble (cls FZ o.op) 1 with
      |true=>rw[hb] at hcg';exact .inl ⟨rfl,hcg'⟩
      |false=>
       rw[hb] at hcg'
       simp only[cond_false,Bool.and_eq_true] at hcg'
       refine .inr ⟨?_,hcg'.2⟩
       cases a0 with
       |none=>exact absurd hcg'.1 (by simp)
       |some b=>
        have hbi:b=i:=Nat.eq_of_beq_eq_true hcg'.1
        subst hbi
        have:=hc.1.2
        simpa using this
     ·exact .inr ⟨nyet_set hn,(noneF_cons hcg).2⟩
    refine wpAnyG_all hc.1.1 (by simp) (fun i' hi'=> ?_)
    simp at hi';subst hi'
    refine wpOp_step hg fun K' hK'=>grd_wp G r h fun s' a' w' β' q1 q2 q3 q4=>hK' _ _ ?_
    have q1':=q1.mono (hD (i',false) (by simp) o ho)
    have cont:=fun hh=>opsG G hs l s' K z (fun j hj=>hD j (by simp[hj])) q2 rest (fun s2 a2 w2 β2 li p1 p2 p3 p4 p5 p6=>hk s2 a2 w2 β2 li (q1'.trans p1) p2 p3 p4 p5 p6) _ hD' hc.2 hh a' w' β' q3
    rcases hcase with⟨c1,c2⟩|⟨c1,c2⟩
    ·have hx:=q4 c1
     exact⟨fun _=>hx,wpAnyG_mono (fun x hx'=>Ext.trans hx hx') _ _ _ _ (cont (.inl c2))⟩
    ·exact⟨fun hn=>(by rw[c1] at hn;cases hn),wpAnyG_free _ _ _ _ c1 (cont (.inr ⟨c1,c2⟩))⟩
theorem Dn0 {os:Array Oper}:Dn .any os (Array.replicate os.size false):=fun j oj hj hl=>by
 have hlt:=(Array.getElem?_eq_some_iff.1 hj).1
 rw[Array.getD_eq_getD_getElem?,Array.getElem?_replicate,if_pos hlt] at hl
 cases hl
theorem opsAt_cons {al:List Oper}{i:Nat}{l:List Nat}:opsAt al (i::l)=match nth al i with|some o=>o::opsAt al l|none=>opsAt al l:=rfl
theorem opsAt_mem {al:List Oper}:∀{l:List Nat} {i:Nat} {o:Oper},i∈l→al[i]? =some o→o∈opsAt al l
 |[],i,o,h,_=>by simp at h
 |x::l,i,o,h,ho=>by
  rw[opsAt_cons,nth_eq]
  rcases List.mem_cons.1 h with rfl|h
  ·rw[ho];simp
  ·have:=opsAt_mem h ho
   cases al[x]? with
   |none=>exact this
   |some o'=>exact List.mem_cons_of_mem _ this
theorem tk_drp {β:Type}(l:List β)(k:Nat):tk l k++drp l k=l:=by rw[tk_eq,drp_eq];exact List.take_append_drop k l
theorem ordr_spec {os:Array Oper}{an:An}{l:List Nat}(h:ordr FZ os.toList os an=some l):
  (Region.noSelect os=true∧l.length=os.size∧chz os l (Array.replicate os.size false)=true)∨
  (∃a0 ord,Region.noSelect os=true∧ord.length=os.size∧chk os a0 ord (Array.replicate os.size false)=true∧frees FZ os.toList a0 ord=true∧l=ord.map Prod.fst):=by
 cases an with
 |r a0 ord=>
  simp only[ordr] at h
  cases hb:(chkAll os a0 ord&&frees FZ os.toList a0 ord) with
  |false=>rw[hb] at h;cases h
  |true=>
   rw[hb] at h
   have:=Option.some.inj h
   simp only[chkAll,Bool.and_eq_true,beq_iff_eq] at hb
   exact .inr ⟨a0,ord,hb.1.1.1,hb.1.1.2,hb.1.2,hb.2,by rw[←this,fstsN_eq]⟩
 |z ord=>
  simp only[ordr] at h
  cases hb:(Region.noSelect os&&(Nat.beq (len ord) (len os.toList)&&chz os ord (Array.replicate os.size false))) with
  |false=>rw[hb] at h;cases h
  |true=>
   rw[hb] at h
   have:=Option.some.inj h;subst this
   simp only[Bool.and_eq_true,len_eq] at hb
   exact .inl ⟨hb.1,by have:=Nat.eq_of_beq_eq_true hb.2.1;simpa using this,hb.2.2⟩
 |_=>cases h
theorem drawn2 (G:Good P g Y TI FZ)(hm:P.follows .mixedOrders=true){os:Array Oper}{an:An}{l l1 l2:List Nat}(h:ordr FZ os.toList os an=some l)(hl:l=l1++l2){id:Nat}{Q:Exit→Act→World→Prop}{D:Nat→Prop}{D2:Nat→Prop}{α α2:Type}{s:St U}{z:α}{K1:St U→Option α}
  (hD:∀o∈os.toList,∀n,Wr os.toList o n→D n) (h1:opsO Y TI FZ os.toList l1 s K1=some z)
  (hk:∀s1,Ag D s s1→K1 s1=some z→∃(K2:St U→Option α2) (z2:α2),(∀i∈l2,∀o,os.toList[i]? =some o→∀n,Wr os.toList o n→D2 n)∧opsO Y TI FZ os.toList l2 s1 K2=some z2∧∀a1 w1 β1,Rel Y.C E s1 a1 w1 β1→∀s' a w β,Ag D2 s1 s'→K2 s'=some z2→Rel Y.C E s' a w β→Q .normal a w)
  {a:Act} {w:World} {β:List Tr} (r:Rel Y.C E s a w β):(Code.region id os true).wp P Q a w:=by
 have hos:os.toList.toArray=os:=by simp
 have hmem:∀(i:Nat) (o:Oper),os.toList[i]? =some o→∀n,Wr os.toList o n→D n:=fun i o ho=>hD o (List.mem_of_getElem? ho)
 have r0:Rel Y.C E s a w.drew β:=r.ext (Ext.drew w)
 rcases ordr_spec h with⟨hs,hlen,hc⟩|⟨a0,ord,hs,hlen,hc,hfr,hlo⟩
 ·refine wp_region_noPanic (wp_region_any hm ?_)
  have:=opsZ G (E:=E) (al:=os.toList) (Q:=NoPanic Q) (D:=D) l1 s K1 z (fun i _=>hmem i) h1 l2 (fun s1 a1 w1 β1 listed g1 g2 g3 g4=>by
   obtain⟨K2,z2,e1,e2,e3⟩:=hk s1 g1 g2
   have:=opsZ G (E:=E) (al:=os.toList) (Q:=NoPanic Q) (D:=D2) l2 s1 K2 z2 e1 e2 [] (fun s' a' w' β' li p1 p2 p3 p4=>⟨by simpa[chz] using p4,e3 a1 w1 β1 g3 s' a' w' β' p1 p2 p3⟩) listed (by simpa using g4) a1 w1 β1 g3
   simpa using this) (Array.replicate os.size false) (by rw[hos,←hl];exact hc) a w.drew β r0
  rw[hos,←hl,hlen] at this
  exact this
 ·refine wp_region_noPanic (wp_region_any hm (wpAny_of_G (a0:=a0) (S:=Ext w.drew) _ _ _ _ ?_))
  have hl1:ord.map Prod.fst=l1++l2:=by rw[←hlo,hl]
  obtain⟨o1,o2,ho,hm1,hm2⟩:=List.map_eq_append_iff.1 hl1
  subst hm1;subst hm2
  have:=opsG G (E:=E) (al:=os.toList) (a0:=a0) (by rw[hos];exact hs) (Q:=Q) (D:=D) o1 s K1 z (fun i _=>hmem i.1) (by rw[fstsN_eq];exact h1) o2 (fun s1 a1 w1 β1 listed g1 g2 g3 g4 g5 g6=>by
   obtain⟨K2,z2,e1,e2,e3⟩:=hk s1 g1 g2
   have:=opsG G (E:=E) (al:=os.toList) (a0:=a0) (by rw[hos];exact hs) (Q:=Q) (D:=D2) o2 s1 K2 z2 (fun i hi=>e1 i.1 (List.mem_map.2 ⟨i,hi,rfl⟩)) (by rw[fstsN_eq];exact e2) [] (fun s' a' w' β' li p1 p2 p3 p4 p5 p6=>wpAnyG_done (P:=P) (a0:=a0) (S:=Ext w') (Q:=NoPanic Q) (by simpa[chk] using p5) (e3 a1 w1 β1 g3 s' a' w' β' p1 p2 p3) 0) listed g4 (by simpa using g5) (by simpa using g6) a1 w1 β1 g3
   simpa using this) (Array.replicate os.size false) (by rw[hos];exact Dn0) (by rw[hos,←ho];exact hc) (.inl (by rw[←ho];exact hfr)) a w.drew β r0
  rw[hos,←ho,hlen] at this
  exact this
theorem nyet0 {a0:Option Nat}{n:Nat}:nyet a0 (Array.replicate n false)=true:=by
 cases a0 with
 |none=>rfl
 |some b=>
  simp only[nyet,Bool.not_eq_true']
  rw[Array.getD_eq_getD_getElem?,Array.getElem?_replicate]
  split<;>rfl
theorem drawnY (hE:E.fr=[])(hP:E.prm=[])(G:Good P g Y TI FZ)(hm:P.follows .mixedOrders=true){os:Array Oper}{id:Nat}{kb:Bool}{f a0:Option Nat}{ord:List (Nat×Bool)}{Q:Exit→Act→World→Prop}{D:Nat→Prop}{s:St U}{z:α}{N:St U→Option α}
  (hD:∀o∈os.toList,∀n,Wr os.toList o n→D n) (hc:chkY os f a0 ord=true) (h:opsY Y TI FZ os.toList a0 (bif kb then some (len s.m.o,s.m.k) else none) ord f true true (wpe os.toList f s) N=some z)
  (hN:∀s' a w β,Ag D s s'→N s'=some z→Rel Y.C E s' a w β→Q .normal a w) {a:Act} {w:World} {β:List Tr} (r:Rel Y.C E s a w β):(Code.region id os true).wp P Q a w:=by
 have hos:os.toList.toArray=os:=by simp
 have hmem:∀i∈ord,∀o,os.toList[i.1]? =some o→∀n,Wr os.toList o n→D n:=fun i _ o ho=>hD o (List.mem_of_getElem? ho)
 have r0:Rel Y.C E s a w.drew β:=r.ext (Ext.drew w)
 simp only[chkY,Bool.and_eq_true,len_eq] at hc
 obtain⟨hs,hlen,hcf⟩:=hc
 have hlen:=Nat.eq_of_beq_eq_true hlen
 have hsm:(wpe os.toList f s).m=s.m:=by
  unfold wpe
  cases f with
  |none=>rfl
  |some j=>
   simp only
   cases nth os.toList j with
   |none=>rfl
   |some o=>simp only;cases o.dst<;>rfl
 have r1:Rel Y.C E (wpe os.toList f s) a w.drew β:=by
  unfold wpe
  cases f with
  |none=>exact r0
  |some j=>
   simp only
   cases nth os.toList j with
   |none=>exact r0
   |some o=>exact r0.wipe
 have hag:Ag D s (wpe os.toList f s):=by
  unfold wpe
  cases f with
  |none=>exact Ag.refl s
  |some j=>
   simp only[nth_eq]
   cases ho:os.toList[j]? with
   |none=>exact Ag.refl s
   |some o=>exact(Ag.refl s).put (fun n e=>hD o (List.mem_of_getElem? ho) n (.inl e))
 have main:∀(E':Env g) (kd:Option (Nat×Nat)),E'.prm=[]→Lk E' kd true true w.drew w.drew→Rel Y.C E' (wpe os.toList f s) a w.drew β→(∀s' a w β,Rel Y.C E' s' a w β→Rel Y.C E s' a w β)→opsY Y TI FZ os.toList a0 kd ord f true true (wpe os.toList f s) N=some z→(Code.region id os true).wp P Q a w:=fun E' kd hP' hl r' hback h=>by
  refine wp_region_noPanic (wp_region_any hm (wpAny_of_G (a0:=a0) (S:=Ext w.drew) _ _ _ _ ?_))
  have hQ:∀s' a w β,Ag D (wpe os.toList f s) s'→N s'=some z→Rel Y.C E' s' a w β→Q .normal a w:=fun s' a w β g1 g2 g3=>hN s' a w β (hag.trans g1) g2 (hback s' a w β g3)
  cases f with
  |none=>
   have:=opsY0 (E:=E') G (al:=os.toList) (a0:=a0) (kd:=kd) (Q:=Q) (D:=D) (by rw[hos];exact hs) ord true true _ N z hmem h hQ (Array.replicate os.size false) (by rw[hos];exact Dn0) (by rw[hos];exact hcf) nyet0 a w.drew β w.drew hl r'
   rw[hos,hlen] at this;exact this
  |some j=>
   simp only[Bool.and_eq_true,bne_iff_ne,ne_eq] at hcf
   obtain⟨hja,hcf⟩:=hcf
   split at hcf
   ·rename_i oj hj
    have:=opsYF (E:=E') G (al:=os.toList) (a0:=a0) (kd:=kd) (Q:=Q) (D:=D) (by rw[hos];exact hs) hP' (j:=j) (oj:=oj) (by simpa using hj) hja ord true true _ N z hmem h hQ (Array.replicate os.size false) (by rw[hos];exact Dn0) (by rw[hos];exact hcf) nyet0 a w.drew β w.drew hl r'
    rw[hos,hlen] at this;exact this
   ·cases hcf
 cases kb with
 |false=>exact main E none hP ⟨fun _ _ h=>(by cases h),fun _=>rfl,fun _=>rfl,fun _=>Ext.refl _⟩ r1 (fun _ _ _ _ h=>h) h
 |true=>
  have hf:=r1.frame hP
  rw[hsm] at hf
  exact main (E.frm [(w.drew,s.m.o.length,s.m.k)]) (some (s.m.o.length,s.m.k)) hP ⟨fun n k h=>(by cases h;exact List.mem_cons_self),fun _=>rfl,fun h=>(by cases h),fun _=>Ext.refl _⟩ hf (fun _ _ _ _ h=>h.unframe hE) (by rw[len_eq] at h;exact h)
theorem rgn_sound (hE:E.fr=[])(hP:E.prm=[])(G:Good P g Y TI FZ)(hm:P.follows .mixedOrders=true):RgnOk P Y TI FZ E:=by
 intro id os d an α s N X R z D hD hA h Q hN hX hR a w β r
 have hos:os.toList.toArray=os:=by simp
 have plain:∀an,(bif d then(match ordr FZ os.toList os an with|some l=>opsO Y TI FZ os.toList l s N|none=>none) else ops Y TI FZ os.toList os.toList s N)=some z→(Code.region id os d).wp P Q a w:=fun an h=>by
  cases d with
  |false=>
   refine wp_region_list ?_
   have:=ops_sound G (E:=E) (al:=os.toList) (Q:=Q) (D:=D) os.toList s N z hD h [] (fun s' a w β g1 g2 g3=>wpList_nil (hN s' a w β g1 g2 g3)) a w β r
   rw[List.append_nil,hos] at this;exact this
  |true=>
   simp only[cond_true] at h
   cases ho:ordr FZ os.toList os an with
   |none=>rw[ho] at h;cases h
   |some l=>
    rw[ho] at h
    exact drawn2 G hm (l1:=l) (l2:=[]) (α2:=α) (D2:=D) ho (by simp) hD h (fun s1 g1 g2=>⟨N,z,fun i hi=>by simp at hi,g2,fun a1 w1 β1 _ s' a' w' β' p1 p2 p3=>hN s' a' w' β' (g1.trans p1) p2 p3⟩) r
 cases an with
 |rj k tm a'=>
  cases d with
  |false=>
   replace h:ops Y TI FZ os.toList (tk os.toList k) s (fun s1=>bif wrG tm.ws os.toList (drp os.toList k) then bd (ops Y TI FZ os.toList (drp os.toList k) s1 fun s'=>col Y s1 tm s') fun d=>N (reb Y s1 tm d) else none)=some z:=h
   refine wp_region_list ?_
   have:=ops_sound G (E:=E) (al:=os.toList) (Q:=Q) (D:=D) (tk os.toList k) s _ z (fun o ho=>hD o (by rw[tk_eq] at ho;exact List.mem_of_mem_take ho)) h (drp os.toList k) (fun s1 a1 w1 β1 g1 g2 g3=>by
    cases hb:wrG tm.ws os.toList (drp os.toList k) with
    |false=>rw[hb] at g2;cases g2
    |true=>
     rw[hb] at g2
     simp only[cond_true] at g2
     obtain⟨d,k1,k2⟩:=bd_some g2
     have:=ops_sound G (E:=E) (al:=os.toList) (Q:=Q) (D:=fun n=>inW tm.ws 0 n=true) (drp os.toList k) s1 _ d (wrG_spec hb) k1 [] (fun s' a' w' β' p1 p2 p3=>wpList_nil (by
      obtain⟨β'',r''⟩:=reb_sound hE g3 p3 p1 p2
      obtain⟨_,_,_,hs,_⟩:=col_inv p2
      exact hN _ _ _ _ (g1.trans ((reb_ag hs).mono hA)) k2 r'')) a1 w1 β1 g3
     rw[List.append_nil] at this;exact this) a w β r
   rw[tk_drp,hos] at this;exact this
  |true=>
   replace h:(match ordr FZ os.toList os a' with|some l=>opsO Y TI FZ os.toList (tk l k) s (fun s1=>bif wrG tm.ws os.toList (opsAt os.toList (drp l k)) then bd (opsO Y TI FZ os.toList (drp l k) s1 fun s'=>col Y s1 tm s') fun d=>N (reb Y s1 tm d) else none)|none=>none)=some z:=h
   cases ho:ordr FZ os.toList os a' with
   |none=>rw[ho] at h;cases h
   |some l=>
    rw[ho] at h
    refine drawn2 G hm (l1:=tk l k) (l2:=drp l k) (α2:=Dat U tm.it) (D2:=fun n=>inW tm.ws 0 n=true) ho (tk_drp l k).symm hD h (fun s1 g1 g2=> ?_) r
    cases hb:wrG tm.ws os.toList (opsAt os.toList (drp l k)) with
    |false=>rw[hb] at g2;cases g2
    |true=>
     rw[hb] at g2
     simp only[cond_true] at g2
     obtain⟨d,k1,k2⟩:=bd_some g2
     refine⟨_,d,fun i hi o hio=>wrG_spec hb o (opsAt_mem hi hio),k1,fun a1 w1 β1 r1 s' a2 w2 β2 p1 p2 p3=> ?_⟩
     obtain⟨β'',r''⟩:=reb_sound hE r1 p3 p1 p2
     obtain⟨_,_,_,hs,_⟩:=col_inv p2
     exact hN _ _ _ _ (g1.trans ((reb_ag hs).mono hA)) k2 r''
 |y kb f a0 ord=>
  cases d with
  |false=>cases h
  |true=>
   replace h:(bif true&&chkY os f a0 ord then opsY Y TI FZ os.toList a0 (bif kb then some (len s.m.o,s.m.k) else none) ord f true true (wpe os.toList f s) N else none)=some z:=h
   cases hc:chkY os f a0 ord with
   |false=>rw[hc] at h;cases h
   |true=>
    rw[hc] at h
    exact drawnY hE hP G hm hD hc h hN r
 |n=>exact plain .n h
 |s x y=>exact plain (.s x y) h
 |j t x=>exact plain (.j t x) h
 |jx t x=>exact plain (.jx t x) h
 |l t f x=>exact plain (.l t f x) h
 |r a0 o=>exact plain (.r a0 o) h
 |z o=>exact plain (.z o) h
end
end Go.EV

/-
  THE EVALUATOR's KIT, twenty-seventh part: functions: the entry, the return, the contract. Plain theorems over any program; the conditions stand in each.
-/
set_option linter.unusedVariables false
set_option linter.unusedSimpArgs false
namespace Go.EV
open Go.RowKit Go.VK
variable {U:Uni} {Y:Lay U} {TI:List (Nat×TInfo)} {FZ:List (Nat×Sum U)} {P:Program} {g:GI} {E:Env g}
section
variable {s:St U} {a:Act} {w w0:World} {β:List Tr}
theorem resV_mean (hti:tiOk P TI=true)(r:Rel Y.C E s a w β){x:ResultVar}{y:Sv U}(h:resV TI s x=some y):∃v,(resM P w a.tmps x).run P w= .ok v w∧y.mean Y.C w (E.X β) β s.m v:=by
 cases x with
 |tmp n=>exact⟨_,by simp[resM],r.tm n y (by rw[←nth_eq];exact h)⟩
 |cell c t=>
  simp only[resV] at h
  split at h
  ·rename_i b i h1 h2
   have hl:load Y s i (.box b 0)=some y:=h
   have hmb:(Lf.box b 0:Lf U).mean Y.C w (E.X β) β s.m (a.tmps.getD c undef):=r.tm c (.l (.box b 0)) (by rw[←nth_eq];exact h1)
   obtain⟨p,v',k1,k2,k3⟩:=load_mean r (tiOk_at hti h2) hmb hl
   exact⟨v',by simp only[resM,k1,asAddr,Sem.run_bind,Sem.run_pure,Result.andThen_ok,k2 w (Ext.refl w)],k3⟩
  ·cases h
theorem resVs_mean (hti:tiOk P TI=true)(r:Rel Y.C E s a w β):∀{l:List ResultVar} {xs:List (Sv U)},resVs TI s l=some xs→∃vs:List Value,(l.mapM (resM P w a.tmps)).run P w= .ok vs w∧vs.length=xs.length∧∀(i:Nat) (v:Value) (x:Sv U),vs[i]? =some v→xs[i]? =some x→x.mean Y.C w (E.X β) β s.m v
 |[],xs,h=>by
  have:=Option.some.inj h;subst this
  exact⟨[],rfl,rfl,by simp⟩
 |x::l,xs,h=>by
  simp only[resVs] at h
  cases h1:resV TI s x with
  |none=>rw[h1] at h;cases h
  |some y=>
   cases h2:resVs TI s l with
   |none=>rw[h1,h2] at h;cases h
   |some ys=>
    rw[h1,h2] at h
    have:=Option.some.inj h;subst this
    obtain⟨v,k1,k2⟩:=resV_mean hti r h1
    obtain⟨vs,k3,k4,k5⟩:=resVs_mean hti r h2
    refine⟨v::vs,by simp[List.mapM_cons,k1,k3],by simp[k4],fun i v' W q1 q2=> ?_⟩
    cases i with
    |zero=>simp at q1 q2;subst q1;subst q2;exact k2
    |succ i=>exact k5 i v' W (by simpa using q1) (by simpa using q2)
theorem results_run {fn:Func}{l:List ResultVar}(hf:fn.results=l.toArray){vs:List Value}(h:(l.mapM (resM P w a.tmps)).run P w= .ok vs w):(results fn a.tmps).run P w= .ok (if h:vs.toArray.size=1 then vs.toArray[0] else .tuple vs.toArray) w:=by
 have e1:results fn a.tmps=(do
   let vs←fn.results.mapM (resM P w a.tmps)
   pure (if h:vs.size=1 then vs[0] else .tuple vs)):=rfl
 rw[e1,hf,List.mapM_toArray]
 simp only[Sem.run_bind,Sem.run_map,h,Result.andThen_ok,Sem.run_pure]
theorem fin_plain (hti:tiOk P TI=true)(r:Rel Y.C E s a w β){fn:Func}{l:List ResultVar}(hf:fn.results=l.toArray){ks:List Kd}{z:Tup U ks}(h:fin Y TI false ks l s=some z):∃v,(results fn a.tmps).run P w= .ok v w∧Rd w E.X0 [] v (tupOf ((toCps Y ks z).map cpV)):=by
 unfold fin at h
 cases h1:resVs TI s l with
 |none=>rw[h1] at h;cases h
 |some xs=>
  rw[h1] at h
  obtain⟨vs,k1,k2,k3⟩:=resVs_mean hti r h1
  have hrd:=svsTy_mean r (Z:=E.X0) (fun b hb=> .inl hb) ks (z:=z) h k2 k3 (.inr (X0_free r))
  refine⟨_,results_run hf k1,?_⟩
  generalize(toCps Y ks z).map cpV=Us at hrd
  obtain⟨h2,h3⟩:=hrd
  clear k1 k2 k3 h h1
  match Us,vs,h2,h3 with
  |[U],[v],_,h3=>exact h3 0 v U rfl rfl
  |[],[],_,_=>exact .tup rfl (by simp)
  |U::U'::Us,v::v'::vs,h2,h3=>
   rw[dif_neg (by simp)]
   exact .tup (by simpa using h2) (fun i v c h5 h6=>h3 i v c (by simpa using h5) h6)
theorem enter_rel {w0:World}{X0:Nat→Prop}(hG:g.G w0)(hX0:∀b,X0 b→b<w0.heap.size){ks:List Kd}{z:Tup U ks}{n:Nat}{vs:List Value}(hvs:RdL w0 X0 vs ((toCps Y ks z).map cpV))(hn:(toCps Y ks z).length≤n)(E:Env g)(hE0:E.X0=X0)(hEY:∀b,¬E.Y0 b)(hEw:E.w0=w0)(hEp:E.pin=[])(hEm:E.prm=[])(hEf:E.fr=[]):
  Rel Y.C E (ini Y n ks z) {tmps:=vs.toArray++Array.replicate (n-vs.toArray.size) undef,defers:=[]} w0 []:=by
 have hlen:vs.length=(toCps Y ks z).length:=by rw[hvs.1,List.length_map]
 refine⟨⟨by rw[←hEw];exact Bel.refl _,rfl,by simp[ini],by simp[ini],by simp,by simp,by simp,by simp,by simp[hEp],by simp[hEm],by simp[hEf]⟩,rfl,?_,fun m x hx=> ?_⟩
 ·simp only[ini,len_eq,List.length_append,List.length_map,List.length_replicate,Array.size_append,List.size_toArray,Array.size_replicate,hlen]
 ·simp only[ini,len_eq,List.length_map] at hx
  by_cases hlt:m<(toCps Y ks z).length
  ·rw[List.getElem?_append_left (by simpa using hlt),List.getElem?_map] at hx
   cases hc:(toCps Y ks z)[m]? with
   |none=>rw[hc] at hx;cases hx
   |some c=>
    rw[hc] at hx
    have:=Option.some.inj hx;subst this
    have hvl:m<vs.length:=by omega
    have hv:(vs.toArray++Array.replicate (n-vs.toArray.size) undef).getD m undef=vs[m]:=by
     rw[Array.getD_eq_getD_getElem?,Array.getElem?_append_left (by simpa using hvl)]
     simp[List.getElem?_eq_getElem hvl]
    rw[hv]
    refine cpSv_mean (cp_mean (toCps_ok ks z c (List.mem_of_getElem? hc)) (hvs.2 m _ _ (List.getElem?_eq_getElem hvl) (by rw[List.getElem?_map,hc];rfl)) (.inl fun b hb=> ?_))
    rcases hb with hb|hb|⟨t,ht,_⟩
    ·rw[hE0] at hb;exact hb
    ·exact absurd hb (hEY b)
    ·simp at ht
  ·rw[List.getElem?_append_right (by rw[List.length_map];omega)] at hx
   have:=List.mem_of_getElem? hx
   simp at this
   rw[this.2];trivial
theorem evF_spec (G:Good P g Y TI FZ)(hm:P.follows .mixedOrders=true){f:FuncId}{fn:Func}{cd:Code}{n:Nat}{l:List ResultVar}{ar rs:List Kd}{an:An}{z:Tup U ar}{q:Tup U rs}(hf:P.funcs[f]? =some fn)(hb:fn.body=some cd)(hn:fn.ntmps=n)(hl:fn.results=l.toArray)
  (hE:∀args w,(callFunc f args).run P w= .ok (.enter f args) w) (hlen:(toCps Y ar z).length≤n) (h:evF Y TI FZ an cd n ar rs false l z=some q):VK.Spec P g f ((toCps Y ar z).map cpV) (fun v=>v=tupOf ((toCps Y rs q).map cpV)):=by
 refine⟨hE,fun w X0 vs hG hX0 hvs=>calls_of_wp hf hb ?_⟩
 let E:Env g:=⟨X0,fun _=>False,w,[],[],fun b h=> .inl (hX0 b h),fun _ h=>h.elim,fun _ _ h=>h,fun w' hw=>g.st w w' hG (hw.ext fun _ h=>h),[]⟩
 have r0:=enter_rel (Y:=Y) hG hX0 hvs hlen E rfl (fun _ h=>h) rfl rfl rfl rfl
 have done:∀s' a' w' β',fin Y TI false rs l s'=some q→Rel Y.C E s' a' w' β'→a'.defers=[]∧∃v,(results fn a'.tmps).run P w'= .ok v w'∧(∃v' r,Ending.returned v= .returned v'∧r=tupOf ((toCps Y rs q).map cpV)∧Rd w' X0 [] v' r∧Ext w w'):=fun s' a' w' β' hq r=>by
  obtain⟨v,k1,k2⟩:=fin_plain G.ti r hl hq
  exact⟨r.defers,v,k1,v,_,rfl,rfl,k2,r.hp.ext.ext fun _ h=>h⟩
 rw[hn]
 exact ev_sound rfl (rgn_sound rfl rfl G hm) 1000 an cd _ _ _ _ _ q (fun _=>True) (by
  have:∀c:Code,WC (fun _=>True) c:=fun c=>by
   induction c with
   |seq a b h1 h2=>exact⟨h1,h2⟩
   |cond c a b h1 h2=>exact⟨fun _ _=>trivial,h1,h2⟩
   |block id c h=>exact h
   |loop c h=>exact h
   |region id os d=>exact fun _ _ _ _=>trivial
   |_=>trivial
  exact this cd) (AW.true an) h _ (fun s' a' w' β' _ hq r=>done s' a' w' β' hq r) (fun i s' a' w' β' _ hq r=>by cases hq) (fun s' a' w' β' _ hq r=>done s' a' w' β' hq r) _ _ _ r0
end
end Go.EV

/-
  THE EVALUATOR's KIT, twenty-eighth part: functions whose results are fresh. Plain theorems over any program; the conditions stand in each.
-/
set_option linter.unusedVariables false
set_option linter.unusedSimpArgs false
namespace Go.EV
open Go.RowKit Go.VK
variable {U:Uni} {Y:Lay U} {TI:List (Nat×TInfo)} {FZ:List (Nat×Sum U)} {P:Program} {g:GI} {E:Env g}
section
variable {s:St U} {a:Act} {w w0:World} {β:List Tr} {C:Cod U}
theorem ownL_cons {m:Mm U}{x:Lf U}{xs:List (Lf U)}{l:List Nat}(h:ownL m (x::xs)=some l):∃l1 l2,l=l1++l2∧ownL m [x]=some l1∧ownL m xs=some l2:=by
 cases x with
 |own i r=>
  simp only[ownL] at h ⊢
  cases ho:nth m.o i with
  |none=>rw[ho] at h;cases h
  |some e=>
   obtain⟨ob,rv,cv⟩:=e
   cases ob with
   |tree τ d ll=>
    rw[ho] at h
    simp only at h
    cases hb:(Nat.beq rv r&&d) with
    |false=>rw[hb] at h;cases h
    |true=>
     rw[hb] at h
     simp only[cond_true] at h
     cases hx:ownL m xs with
     |none=>rw[hx] at h;cases h
     |some l2=>
      rw[hx] at h
      have:=Option.some.inj h;subst this
      exact⟨[i],l2,rfl,by simp[hb],rfl⟩
   |_=>rw[ho] at h;cases h
 |sl=>cases h
 |bor=>cases h
 |inn=>cases h
 |_=>exact⟨[],l,rfl,rfl,h⟩
theorem own_leaf (H:Hp C E s.m β w){kd:Kd}{x y:Lf U}{l:List Nat}{v:Value}(h:ownL s.m [x]=some l)(hr:rdn s.m kd x=some y)(hm:x.mean C w (E.X β) β s.m v)(hK:∀τ,kd= .sl τ→0<U.K τ):Ow C w (fun _=>False) true v y (blks β l):=by
 have hb0:blks β []=[]:=rfl
 have flat:freeL x=true→rdl s.m x=some y→l=[]→(∀τ ll,y≠ .sl τ ll)→Ow C w (fun _=>False) true v y (blks β l):=fun hf hr hl hns=>by
  obtain⟨k1,k2⟩:=rdl_mean H hm hr (Z:=fun _=>False) (fun _ h=>h.elim) (.inl hf)
  subst hl
  rw[hb0]
  cases y with
  |int k n=>obtain⟨rfl,h1,h2⟩:=k2.int_inv;exact .int h1 h2
  |bool b=>obtain rfl:=k2.bool_inv;exact .bool
  |str z=>obtain⟨rfl,h1⟩:=k2.str_inv;exact .str h1
  |sl τ ll=>exact absurd rfl (hns τ ll)
  |_=>cases k1
 cases x with
 |own i r=>
  obtain⟨_,e,t,h2,h3,h4⟩:=hm
  obtain⟨ob,rv,cv⟩:=e
  simp only[ownL,nth_eq,h2] at h
  replace hr:rdl s.m (.own i r)=some y:=hr
  simp only[rdl,nth_eq,h2] at hr
  cases ob with
  |tree τ d ll=>
   simp only at h hr
   cases hb:(Nat.beq rv r&&d) with
   |false=>rw[hb] at h;cases h
   |true=>
    rw[hb] at h
    have:=Option.some.inj h;subst this
    simp only[Bool.and_eq_true] at hb
    rw[hb.1] at hr
    have:=Option.some.inj hr;subst this
    have hd:d=true:=hb.2
    subst hd
    rw[h4 (Nat.eq_of_beq_eq_true hb.1)]
    have ho:=(Hp.tree H h3 h2 rfl).conv (X':=fun _=>False) (Nat.le_refl _) (fun _ _ h=>h.elim) (fun _ _ _ h=>h) (fun _ _=>rfl)
    have hbl:blks β [i]=t.all:=by simp[blks,h3]
    rw[hbl];exact ho
  |_=>cases h
 |nil=>
  obtain rfl:=hm
  have:=Option.some.inj h;subst this
  cases kd with
  |sl τ=>
   have:=Option.some.inj (show some (Lf.sl τ [])=some y from hr);subst this
   exact .sl noTr (hK τ rfl) (World.ownsRow_nil w 0 τ (U.K τ)) .n
  |_=>cases hr
 |int k n=>have e:=Option.some.inj (show some (Lf.int k n)=some y from hr);exact flat rfl hr (Option.some.inj h).symm (fun _ _ e'=>by rw[←e] at e';cases e')
 |bool b=>have e:=Option.some.inj (show some (Lf.bool b)=some y from hr);exact flat rfl hr (Option.some.inj h).symm (fun _ _ e'=>by rw[←e] at e';cases e')
 |str b=>have e:=Option.some.inj (show some (Lf.str b)=some y from hr);exact flat rfl hr (Option.some.inj h).symm (fun _ _ e'=>by rw[←e] at e';cases e')
 |nat c=>
  refine flat rfl hr (Option.some.inj h).symm (fun τ ll e'=> ?_)
  subst e'
  replace hr:rdl s.m (.nat c)=some (.sl τ ll):=hr
  simp only[rdl] at hr
  split at hr<;>cases hr
 |lt c n=>
  refine flat rfl hr (Option.some.inj h).symm (fun τ ll e'=> ?_)
  subst e'
  replace hr:rdl s.m (.lt c n)=some (.sl τ ll):=hr
  simp only[rdl] at hr
  split at hr<;>cases hr
 |sl=>cases h
 |bor=>cases h
 |inn=>cases h
 |_=>cases hr
theorem own_leaves (H:Hp C E s.m β w):∀(ks:List Kd) {xs ys:List (Lf U)} {l:List Nat} {vs:List Value},rds s.m ks xs=some ys→ownL s.m xs=some l→Ms C w (E.X β) β s.m vs xs→(∀kd∈ks,∀τ,kd= .sl τ→0<U.K τ)→OwL C w (fun _=>False) true vs ys (blks β l)
 |[],[],ys,l,vs,h,hl,hM,_=>by
  have:=Option.some.inj h;subst this
  have:=Option.some.inj hl;subst this
  have:vs=[]:=List.eq_nil_of_length_eq_zero hM.1
  subst this;exact .n
 |[],_::_,_,_,_,h,_,_,_=>by cases h
 |_::_,[],_,_,_,h,_,_,_=>by cases h
 |kd::ks,x::xs,ys,l,vs,h,hl,hM,hK=>by
  obtain⟨y,ys',h1,h2,rfl⟩:=rds_cons h
  obtain⟨l1,l2,rfl,h3,h4⟩:=ownL_cons hl
  cases vs with
  |nil=>have:=hM.1;simp at this
  |cons v vs=>
   rw[blks_app]
   exact .c (own_leaf H h3 h1 (hM.2 0 v x rfl rfl) (hK kd (by simp))) (own_leaves H ks h2 h4 ⟨by have:=hM.1;simpa using this,fun i u c p q=>hM.2 (i+1) u c (by simpa using p) (by simpa using q)⟩ (fun kd' hk=>hK kd' (by simp[hk])))
theorem own_val (hY:LayOk Y)(H:Hp Y.C E s.m β w){kd:Kd}{x:Sv U}{z:kd.ty U}{v:Value}{cs:List (Lf U)}{l:List Nat}(hm:x.mean Y.C w (E.X β) β s.m v)(hp:parts x=some cs)(hl:ownL s.m cs=some l)(h:svTy Y s.m kd x=some z)(hK:∀τ,kd= .sl τ→0<U.K τ):OwP Y.C w v (blks β l) (toCp Y kd z):=by
 have leaf:∀{y:Lf U},x= .l y→(∀T,kd≠ .st T)→(match rdn s.m kd y with|some q=>lfTy kd q|none=>none)=some z→OwP Y.C w v (blks β l) (toCp Y kd z):=fun {y} hx hkd h0=>by
  subst hx
  have:=Option.some.inj hp;subst this
  cases hr:rdn s.m kd y with
  |none=>rw[hr] at h0;cases h0
  |some q=>
   rw[hr] at h0
   have hq:=lfTy_some (show lfTy kd q=some z from h0)
   have ho:=own_leaf H hl hr hm hK
   rw[hq] at ho
   cases kd with
   |st T=>exact absurd rfl (hkd T)
   |_=>exact⟨_,rfl,ho⟩
 cases kd with
 |st T=>
  cases x with
  |a cs'=>
   have:=Option.some.inj hp;subst this
   have h':(match rds s.m (Y.kd T) cs' with|some ds=>Y.C.bld T ds|none=>none)=some z:=h
   cases hr:rds s.m (Y.kd T) cs' with
   |none=>rw[hr] at h';cases h'
   |some ds=>
    rw[hr] at h'
    obtain⟨vs,rfl,hM⟩:=hm
    have ho:=own_leaves H _ hr hl hM (fun kd hk τ e=>hY.pos T τ (e▸hk))
    rw[Y.C.hmk T ds z h'] at ho
    exact⟨vs,rfl,ho⟩
  |l y=>
   have h':(match rdn s.m (Kd.st T) y with|some q=>lfTy (Kd.st T) q|none=>none)=some z:=h
   cases hr:rdn s.m (Kd.st T) y with
   |none=>rw[hr] at h';cases h'
   |some q=>rw[hr] at h';cases q<;>cases h'
  |t y=>cases h
 |int k=>cases x with
  |l y=>exact leaf rfl (by simp) h
  |_=>cases h
 |bool=>cases x with
  |l y=>exact leaf rfl (by simp) h
  |_=>cases h
 |str=>cases x with
  |l y=>exact leaf rfl (by simp) h
  |_=>cases h
 |sl τ=>cases x with
  |l y=>exact leaf rfl (by simp) h
  |_=>cases h
theorem own_vals (hY:LayOk Y)(H:Hp Y.C E s.m β w)(ks:List Kd):∀{xs:List (Sv U)} {z:Tup U ks} {vs:List Value} {l:List Nat},svsTy Y s.m ks xs=some z→ownS s.m xs=some l→vs.length=xs.length→(∀(i:Nat) (v:Value) (x:Sv U),vs[i]? =some v→xs[i]? =some x→x.mean Y.C w (E.X β) β s.m v)→(∀kd∈ks,∀τ,kd= .sl τ→0<U.K τ)→OwPs Y.C w vs (toCps Y ks z) (blks β l):=by
 induction ks with
 |nil=>
  intro xs z vs l h hl hlen hm hK
  cases xs with
  |nil=>
   have:=Option.some.inj hl;subst this
   have:vs=[]:=List.eq_nil_of_length_eq_zero hlen
   subst this;exact .n
  |cons=>cases h
 |cons k ks ih=>
  intro xs z vs l h hl hlen hm hK
  cases xs with
  |nil=>cases ks<;>cases h
  |cons x xs=>
   cases vs with
   |nil=>simp at hlen
   |cons v vs=>
    simp only[ownS] at hl
    cases hp:parts x with
    |none=>rw[hp] at hl;cases hl
    |some cs=>
     rw[hp] at hl
     simp only at hl
     cases h1:ownL s.m cs with
     |none=>rw[h1] at hl;cases hl
     |some l1=>
      cases h2:ownS s.m xs with
      |none=>rw[h1,h2] at hl;cases hl
      |some l2=>
       rw[h1,h2] at hl
       have:=Option.some.inj hl;subst this
       rw[blks_app]
       cases ks with
       |nil=>
        cases xs with
        |cons x' xs=>cases h
        |nil=>
         have hvs:vs=[]:=List.eq_nil_of_length_eq_zero (by simpa using hlen)
         subst hvs
         have:=Option.some.inj h2;subst this
         exact .c (own_val hY H (hm 0 v x rfl rfl) hp h1 (show svTy Y s.m k x=some z from h) (hK k (by simp))) .n
       |cons k' ks'=>
        replace h:(match svTy Y s.m k x with|some a=>(match svsTy Y s.m (k'::ks') xs with|some b=>some (a,b)|none=>none)|none=>none)=some (show k.ty U×Tup U (k'::ks') from z):=h
        cases g1:svTy Y s.m k x with
        |none=>rw[g1] at h;cases h
        |some z1=>
         cases g2:svsTy Y s.m (k'::ks') xs with
         |none=>rw[g1,g2] at h;cases h
         |some z2=>
          rw[g1,g2] at h
          have:=Option.some.inj h;subst this
          exact .c (own_val hY H (hm 0 v x rfl rfl) hp h1 g1 (hK k (by simp))) (ih g2 h2 (by simpa using hlen) (fun i u c p q=>hm (i+1) u c (by simpa using p) (by simpa using q)) (fun kd hk=>hK kd (by simp[hk])))
theorem fin_fresh (G:Good P g Y TI FZ)(r:Rel Y.C E s a w β)(hEY:∀b,¬E.Y0 b){fn:Func}{l:List ResultVar}(hf:fn.results=l.toArray){ks:List Kd}{z:Tup U ks}(h:fin Y TI true ks l s=some z):∃v B,(results fn a.tmps).run P w= .ok v w∧B.Nodup∧(∀b∈B,E.w0.heap.size≤b)∧OwR Y.C w v (toCps Y ks z) B:=by
 unfold fin at h
 cases h1:resVs TI s l with
 |none=>rw[h1] at h;cases h
 |some xs=>
  rw[h1] at h
  simp only[cond_true] at h
  cases h2:ownS s.m xs with
  |none=>rw[h2] at h;cases h
  |some ids=>
   rw[h2] at h
   simp only at h
   cases hb:(dist ids&&posKs (U:=U) ks) with
   |false=>rw[hb] at h;cases h
   |true=>
    rw[hb] at h
    simp only[cond_true] at h
    simp only[Bool.and_eq_true] at hb
    obtain⟨vs,k1,k2,k3⟩:=resVs_mean G.ti r h1
    have ho:=own_vals G.lay r.hp ks h h2 k2 k3 (posKs_spec hb.2)
    refine⟨_,blks β ids,results_run hf k1,blks_nd r.hp (dist_iff.1 hb.1),fun b hbb=> ?_,?_⟩
    ·obtain⟨j,_,u,hu,hub⟩:=blks_in hbb
     exact(r.hp.new j u b hu hub).1.resolve_right (hEY b)
    ·generalize toCps Y ks z=cps at ho ⊢
     generalize blks β ids=B0 at ho ⊢
     clear h k1 k3 h2 h1 k2
     cases ho with
     |n=>exact⟨[],rfl, .n⟩
     | @c v x B B' vs xs' hv hr=>
      cases hr with
      |n=>rw[List.append_nil];exact hv
      | @c v2 x2 B2 B3 vs2 xs2 hv2 hr2=>
       rw[dif_neg (by simp)]
       exact⟨_,rfl, .c hv (.c hv2 hr2)⟩
end
theorem evF_fspec (G:Good P g Y TI FZ)(hm:P.follows .mixedOrders=true){f:FuncId}{fn:Func}{cd:Code}{n:Nat}{l:List ResultVar}{ar rs:List Kd}{an:An}{z:Tup U ar}{q:Tup U rs}(hf:P.funcs[f]? =some fn)(hb:fn.body=some cd)(hn:fn.ntmps=n)(hl:fn.results=l.toArray)
  (hE:∀args w,(callFunc f args).run P w= .ok (.enter f args) w) (hlen:(toCps Y ar z).length≤n) (h:evF Y TI FZ an cd n ar rs true l z=some q):FSpec P g Y.C f ((toCps Y ar z).map cpV) (toCps Y rs q):=by
 refine⟨hE,fun w X0 vs hG hX0 hvs=>calls_of_wp hf hb ?_⟩
 let E:Env g:=⟨X0,fun _=>False,w,[],[],fun b h=> .inl (hX0 b h),fun _ h=>h.elim,fun _ _ h=>h,fun w' hw=>g.st w w' hG (hw.ext fun _ h=>h),[]⟩
 have r0:=enter_rel (Y:=Y) hG hX0 hvs hlen E rfl (fun _ h=>h) rfl rfl rfl rfl
 have done:∀s' a' w' β',fin Y TI true rs l s'=some q→Rel Y.C E s' a' w' β'→a'.defers=[]∧∃v,(results fn a'.tmps).run P w'= .ok v w'∧(∃v' B,Ending.returned v= .returned v'∧Ext w w'∧B.Nodup∧(∀b∈B,w.heap.size≤b)∧OwR Y.C w' v' (toCps Y rs q) B):=fun s' a' w' β' hq r=>by
  obtain⟨v,B,k1,k2,k3,k4⟩:=fin_fresh G r (fun _ h=>h) hl hq
  exact⟨r.defers,v,k1,v,B,rfl,r.hp.ext.ext fun _ h=>h,k2,k3,k4⟩
 rw[hn]
 exact ev_sound rfl (rgn_sound rfl rfl G hm) 1000 an cd _ _ _ _ _ q (fun _=>True) (by
  have:∀c:Code,WC (fun _=>True) c:=fun c=>by
   induction c with
   |seq a b h1 h2=>exact⟨h1,h2⟩
   |cond c a b h1 h2=>exact⟨fun _ _=>trivial,h1,h2⟩
   |block id c h=>exact h
   |loop c h=>exact h
   |region id os d=>exact fun _ _ _ _=>trivial
   |_=>trivial
  exact this cd) (AW.true an) h _ (fun s' a' w' β' _ hq r=>done s' a' w' β' hq r) (fun i s' a' w' β' _ hq r=>by cases hq) (fun s' a' w' β' _ hq r=>done s' a' w' β' hq r) _ _ _ r0
theorem toCps_len:∀(ks:List Kd) (z:Tup U ks),(toCps Y ks z).length=ks.length
 |[],_=>rfl
 |[k],_=>rfl
 |k::k'::ks,z=>by
  show(toCps Y (k'::ks) z.2).length+1=_
  rw[toCps_len (k'::ks)];rfl
theorem good_cons {f:FuncId}{S:Sum U}(h:SumOk P g Y f S)(G:Good P g Y TI FZ):Good P g Y TI ((f,S)::FZ):=⟨G.ti,G.lay,fun f' S' hm=>by
 rcases List.mem_cons.1 hm with e|e
 ·injection e with e1 e2;subst e1;subst e2;exact h
 ·exact G.fs f' S' e⟩
theorem sum_ok (G:Good P g Y TI FZ)(hm:P.follows .mixedOrders=true){f:FuncId}{fn:Func}{cd:Code}{n:Nat}{l:List ResultVar}{S:Sum U}{an:Tup U S.ar→An}(hf:P.funcs[f]? =some fn)(hb:fn.body=some cd)(hn:fn.ntmps=n)(hl:fn.results=l.toArray)
  (hE:∀args w,(callFunc f args).run P w= .ok (.enter f args) w) (hlen:S.ar.length≤n) (hwt:S.wt=false) (h:∀a r,S.m a=some r→evF Y TI FZ (an a) cd n S.ar S.rs S.fr l a=some r):SumOk P g Y f S:=fun a r hr=>by
 have h':=h a r hr
 refine⟨fun _ hfr=> ?_,fun _ hfr=> ?_,fun hh=>by rw[hwt] at hh;cases hh⟩
 ·rw[hfr] at h'
  exact evF_spec G hm hf hb hn hl hE (by rw[toCps_len];exact hlen) h'
 ·rw[hfr] at h'
  exact evF_fspec G hm hf hb hn hl hE (by rw[toCps_len];exact hlen) h'
end Go.EV

/-
  THE EVALUATOR's KIT: functions that write their first argument meet their contracts. Plain theorems over any program; the conditions stand in each.
-/
set_option linter.unusedVariables false
set_option linter.unusedSimpArgs false
namespace Go.EV
open Go.RowKit Go.VK
variable {U:Uni} {Y:Lay U} {TI:List (Nat×TInfo)} {FZ:List (Nat×Sum U)} {P:Program} {g:GI} {E:Env g}
section
variable {s:St U} {a:Act} {w w0:World} {β:List Tr} {C:Cod U}
def pinsOf:List Value→List (Lf U)→List (Nat×Nat×Value)
 |v::vs, .own i r::cs=>(i,r,v)::pinsOf vs cs
 |_::vs,_::cs=>pinsOf vs cs
 |_,_=>[]
def Lf.plain:Lf U→Bool
 | .int .. | .bool _| .str _| .own .. =>true
 |_=>false
theorem ownC_plain {k:Nat}:∀{cs:List (Lf U)} (n:Nat),(∀c∈cs,c.isData=true)→∀c∈(ownC k n cs).1,c.plain=true
 |[],n,_,c,h=>by simp[ownC] at h
 |x::xs,n,hd,c,h=>by
  have hx:=hd x (by simp)
  have hxs:∀c∈xs,c.isData=true:=fun c hc=>hd c (by simp[hc])
  cases x with
  |sl τ l=>
   simp only[ownC,List.mem_cons] at h
   rcases h with rfl|h
   ·rfl
   ·exact ownC_plain _ hxs c h
  |int k' m=>simp only[ownC,List.mem_cons] at h;rcases h with rfl|h;rfl;exact ownC_plain _ hxs c h
  |bool b=>simp only[ownC,List.mem_cons] at h;rcases h with rfl|h;rfl;exact ownC_plain _ hxs c h
  |str b=>simp only[ownC,List.mem_cons] at h;rcases h with rfl|h;rfl;exact ownC_plain _ hxs c h
  |_=>cases hx
theorem pins_ms {X X':Nat→Prop}{w w':World}{β β':List Tr}{m m':Mm U}:∀{cs:List (Lf U)} {vs:List Value},(∀c∈cs,c.plain=true)→Ms C w X β m vs cs→(∀x∈pinsOf vs cs,(Lf.own x.1 x.2.1:Lf U).mean C w' X' β' m' x.2.2)→Ms C w' X' β' m' vs cs
 |[],vs,_,h,_=>⟨h.1,fun i v c _ h2=>by simp at h2⟩
 |c::cs,[],_,h,_=>by have:=h.1;simp at this
 |c::cs,v::vs,hp,h,hpin=>by
  have h0:=h.2 0 v c rfl rfl
  have ht:Ms C w X β m vs cs:=⟨by have:=h.1;simpa using this,fun i u x p q=>h.2 (i+1) u x (by simpa using p) (by simpa using q)⟩
  have hc:=hp c (by simp)
  have key:c.mean C w' X' β' m' v∧∀x∈pinsOf vs cs,(Lf.own x.1 x.2.1:Lf U).mean C w' X' β' m' x.2.2:=by
   cases c with
   |own i r=>exact⟨hpin (i,r,v) (by simp[pinsOf]),fun x hx=>hpin x (by simp[pinsOf,hx])⟩
   |int k n=>exact⟨h0,fun x hx=>hpin x (by simpa[pinsOf] using hx)⟩
   |bool b=>exact⟨h0,fun x hx=>hpin x (by simpa[pinsOf] using hx)⟩
   |str b=>exact⟨h0,fun x hx=>hpin x (by simpa[pinsOf] using hx)⟩
   |_=>cases hc
  have hr:=pins_ms (cs:=cs) (vs:=vs) (fun x hx=>hp x (by simp[hx])) ht key.2
  refine⟨by simp[hr.1],fun i u x p q=> ?_⟩
  cases i with
  |zero=>simp at p q;subst p;subst q;exact key.1
  |succ i=>exact hr.2 i u x (by simpa using p) (by simpa using q)
theorem pins_in {X:Nat→Prop}{m:Mm U}:∀{cs:List (Lf U)} {vs:List Value},Ms C w X β m vs cs→∀x∈pinsOf vs cs,(Lf.own x.1 x.2.1:Lf U).mean C w X β m x.2.2
 |[],vs,_,x,hx=>by cases vs<;>simp[pinsOf] at hx
 |c::cs,[],h,_,_=>by have:=h.1;simp at this
 |c::cs,v::vs,h,x,hx=>by
  have h0:=h.2 0 v c rfl rfl
  have ht:Ms C w X β m vs cs:=⟨by have:=h.1;simpa using this,fun i u x p q=>h.2 (i+1) u x (by simpa using p) (by simpa using q)⟩
  cases c with
  |own i r=>
   simp only[pinsOf,List.mem_cons] at hx
   rcases hx with rfl|hx
   ·exact h0
   ·exact pins_in ht x hx
  |_=>exact pins_in ht x (by simpa[pinsOf] using hx)
theorem OwP.lt {v:Value}{B:List Nat}{x:Bool×List (Lf U)}(h:OwP C w v B x):∀b∈B,b<w.heap.size:=by
 obtain⟨b,cs⟩:=x
 cases b with
 |true=>obtain⟨vs,_,h⟩:=h;exact h.lt
 |false=>obtain⟨c,_,h⟩:=h;exact h.lt
theorem evM_mspec (G:Good P g Y TI FZ)(hm:P.follows .mixedOrders=true){f:FuncId}{fn:Func}{cd:Code}{n:Nat}{l:List ResultVar}{kd:Kd}{an:An}{z q:Tup U [kd, .int .i64]}(hf:P.funcs[f]? =some fn)(hb:fn.body=some cd)(hn:fn.ntmps=n)(hl:fn.results=l.toArray)
  (hE:∀args w,(callFunc f args).run P w= .ok (.enter f args) w) (hlen:2≤n) (h:evM Y TI FZ an cd n kd l z=some q):MSpec P g Y.C f (toCp Y kd z.1).1 (toCp Y kd z.1).2 (toCp Y kd q.1).2 (cpV (toCp Y (.int .i64) z.2)) q.2:=by
 obtain⟨z,k⟩:=z
 change kd.ty U at z
 change Int at k
 obtain⟨q,kq⟩:=q
 change kd.ty U at q
 change Int at kq
 refine⟨hE,fun w v v1 B hnd hG hO hR=>calls_of_wp hf hb ?_⟩
 obtain⟨rfl,hk1,hk2⟩:=(show Rd w (fun _=>False) [] v1 (.int .i64 k) from hR).int_inv
 have hlt:=hO.lt
 have hPs:OwPs Y.C w [v] [toCp Y kd z] B:=by simpa using OwPs.c (show OwP Y.C w v B (toCp Y kd z) from hO) .n
 obtain⟨ts,a1,a2,a3,a4⟩:=ownCs_spec (k:=0) 0 hPs
 obtain⟨b,cs,hcp⟩:∃b cs,toCp Y kd z=(b,cs):=⟨_,_,rfl⟩
 obtain⟨cells,objs,hcl⟩:∃cells objs,ownC (U:=U) 0 0 cs=(cells,objs):=⟨_,_,rfl⟩
 have hq0:ownCs (U:=U) 0 0 [toCp Y kd z]=([(b,cells)],objs):=by rw[hcp];simp only[ownCs,hcl,List.append_nil]
 rw[hq0] at a1 a3 a4
 have hplain:∀c∈cells,c.plain=true:=by
  have:=ownC_plain (k:=0) (cs:=cs) 0 (fun c hc=>(toCp_ok (Y:=Y) (k:=kd) (x:=z)).1 c (by rw[hcp];exact hc))
  rw[hcl] at this;exact this
 have plainX:∀{X X':Nat→Prop} {w:World} {β:List Tr} {m:Mm U} {vs:List Value},Ms Y.C w X β m vs cells→Ms Y.C w X' β m vs cells:=fun {X X' w β m vs} h=>⟨h.1,fun i u c p q=>by
  have h1:=h.2 i u c p q
  have h2:=hplain c (List.mem_of_getElem? q)
  cases c with
  |int k n=>exact h1
  |bool b=>exact h1
  |str b=>exact h1
  |own i r=>exact h1
  |_=>cases h2⟩
 let m0:Mm U:=⟨objs,0,[]⟩
 have hMp0:=(a4 (fun _=>True) ts m0 (Nat.le_refl _) (fun j e t p q=>⟨by simpa using p,by simpa using q⟩)).2 0 v (b,cells) rfl rfl
 obtain⟨vs,hM0,hMp⟩:∃vs:List Value,Ms Y.C w (fun _=>True) ts m0 vs cells∧∀{w':World} {X:Nat→Prop} {β':List Tr} {m':Mm U},Ms Y.C w' X β' m' vs cells→(cpSv (b,cells)).mean Y.C w' X β' m' v:=by
  cases b with
  |true=>
   obtain⟨vs,e,h1⟩:=hMp0
   exact⟨vs,h1,fun {w' X β' m'} h=>⟨vs,e,h⟩⟩
  |false=>
   obtain⟨c,e,h1⟩:=hMp0
   subst e
   refine⟨[v],⟨rfl,fun i u x p q=> ?_⟩,fun {w' X β' m'} h=>h.2 0 v c rfl rfl⟩
   cases i with
   |zero=>simp at p q;subst p;subst q;exact h1
   |succ i=>simp at p
 have hparts:parts (cpSv (U:=U) (b,cells))=some cells:=by
  cases b with
  |true=>rfl
  |false=>
   obtain⟨c,e,h1⟩:=hMp0
   subst e;rfl
 let E:Env g:=⟨fun _=>False,(·∈B),w,[],[],fun _ h=>h.elim,hlt,fun _ h=>h.elim,hG,pinsOf vs cells⟩
 have htB:∀(i:Nat) (t:Tr),ts[i]? =some t→∀x∈t.all,x∈B:=fun i t ht x hx=>by
  rw[←a2];exact List.mem_flatten.2 ⟨_,List.mem_map.2 ⟨_,List.mem_of_getElem? ht,rfl⟩,hx⟩
 have hndt:(ts.map Tr.all).flatten.Nodup:=by rw[a2];exact hnd
 have Hh:Hp Y.C E m0 ts w:=by
  refine⟨Bel.refl _,a1,fun i e he=> ?_,fun a i h=>by simp[m0] at h,fun i t x ht hx=>⟨.inr (htB i t ht x hx),hlt x (htB i t ht x hx)⟩,fun i j t u x hij ht hu hx hxu=> ?_,fun i t ht=> ?_,fun i t e ht he=> ?_,fun x hx=>pins_in (plainX hM0) x hx,fun x hx=>by simp[E] at hx,fun f hf=>by simp[E] at hf⟩
  ·have hl:i<ts.length:=by rw[a1];exact lt_of_some he
   have:=a3 i e _ he (List.getElem?_eq_getElem hl)
   rw[this.1,this.2.1];exact⟨Nat.le_refl _,Nat.le_refl _⟩
  ·have hp:=(List.pairwise_flatten.1 hndt).2
   rw[List.pairwise_map] at hp
   have hp:=List.pairwise_iff_getElem.1 hp
   obtain⟨l1,e1⟩:=List.getElem?_eq_some_iff.1 ht
   obtain⟨l2,e2⟩:=List.getElem?_eq_some_iff.1 hu
   rcases Nat.lt_or_gt_of_ne hij with h|h
   ·exact hp i j l1 l2 h x (by rw[e1];exact hx) x (by rw[e2];exact hxu) rfl
   ·exact hp j i l2 l1 h x (by rw[e2];exact hxu) x (by rw[e1];exact hx) rfl
  ·exact(List.pairwise_flatten.1 hndt).1 _ (List.mem_map.2 ⟨t,List.mem_of_getElem? ht,rfl⟩)
  ·obtain⟨_,_,τ,L,xs,c1,c2,c3,c4⟩:=a3 i e t he ht
   rw[c1]
   exact⟨c2,xs,c3,c4.anyX rfl⟩
 have hini:iniM Y n kd z k=⟨[cpSv (b,cells), .l (.int .i64 k)]++List.replicate (n-2) (.l .any),m0,[]⟩:=by
  simp only[iniM,hq0,List.map_cons,List.map_nil,len_eq]
  rfl
 have r0:Rel Y.C E (iniM Y n kd z k) {tmps:= #[v, .int .i64 k]++Array.replicate (n-2) undef,defers:=[]} w ts:=by
  rw[hini]
  refine⟨Hh,rfl,by simp;omega,fun m x hx=> ?_⟩
  match m with
  |0=>
   have:cpSv (b,cells)=x:=by simpa using hx
   subst this
   have hv:(#[v,Value.int .i64 k]++Array.replicate (n-2) undef).getD 0 undef=v:=by simp[Array.getD_eq_getD_getElem?,Array.getElem?_append]
   simp only[hv]
   exact hMp (plainX hM0)
  |1=>
   have:(Sv.l (.int .i64 k):Sv U)=x:=by simpa using hx
   subst this
   have hv:(#[v,Value.int .i64 k]++Array.replicate (n-2) undef).getD 1 undef= .int .i64 k:=by simp[Array.getD_eq_getD_getElem?,Array.getElem?_append]
   simp only[hv]
   exact⟨rfl,hk1,hk2⟩
  |m+2=>
   have hx':(List.replicate (n-2) (Sv.l .any:Sv U))[m]? =some x:=by simpa using hx
   have:=List.mem_of_getElem? hx'
   simp at this
   rw[this.2];trivial
 have done:∀s' a' w' β',finM Y TI kd z l s'=some (q,kq)→Rel Y.C E s' a' w' β'→a'.defers=[]∧∃v',(results fn a'.tmps).run P w'= .ok v' w'∧(Ending.returned v'= .returned (.int .i64 kq)∧(IntKind.i64.min≤kq∧kq≤IntKind.i64.max)∧Bel (·∈B) w w'∧∃B',B'.Nodup∧(∀x∈B',x∈B∨w.heap.size≤x)∧OwP Y.C w' v B' ((toCp Y kd z).1,(toCp Y kd q).2)):=fun s' a' w' β' hq r=>by
  unfold finM at hq
  rw[hq0] at hq
  split at hq
  ·rename_i x hres
   split at hq
   ·rename_i k' y hk' hy
    have hy:cpSv (b,cells)=y:=by simpa using hy
    subst hy
    split at hq
    ·rename_i ids a' ho ha
     cases hb:(dist ids&&posKs (U:=U) [kd]) with
     |false=>rw[hb] at hq;cases hq
     |true=>
      rw[hb] at hq
      have hq:=Option.some.inj hq
      injection hq with hq1 hq2
      subst hq1;subst hq2
      simp only[Bool.and_eq_true] at hb
      obtain⟨us,k1,k2,k3⟩:=resVs_mean G.ti r hres
      match us,k2,k1,k3 with
      |[u],_,k1,k3=>
       have hu:=svTy_mean r (Z:=fun _=>False) (k3 0 u x rfl rfl) hk' (fun _ h=>h.elim) (.inr fun _ _ _ _ _ h=>h)
       obtain⟨rfl,h1,h2⟩:=(show Rd w' (fun _=>False) [] u (.int .i64 k') from hu).int_inv
       refine⟨r.defers,_,results_run hl k1,rfl,⟨h1,h2⟩,r.hp.ext,?_⟩
       have hMs:Ms Y.C w' (E.X β') β' s'.m vs cells:=pins_ms hplain hM0 (fun x hx=>r.hp.pin x hx)
       simp only[ownS,hparts] at ho
       cases hol:ownL s'.m cells with
       |none=>rw[hol] at ho;cases ho
       |some l1=>
        rw[hol] at ho
        have:=Option.some.inj ho;subst this
        have hov:=own_val G.lay r.hp (hMp hMs) hparts hol ha (fun τ e=>posKs_spec hb.2 kd (by simp) τ e)
        refine⟨blks β' l1,?_,fun x hx=> ?_,?_⟩
        ·exact blks_nd r.hp (by have:=dist_iff.1 hb.1;simpa using this)
        ·obtain⟨j,_,t,ht,hxt⟩:=blks_in hx
         exact((r.hp.new j t x ht hxt).1).symm
        ·have e1:(toCp Y kd z).1=(toCp Y kd (show kd.ty U from a')).1:=by cases kd<;>rfl
         rw[e1]
         exact hov
    ·cases hq
   ·cases hq
  ·cases hq
 rw[hn]
 have e0:(#[v,Value.int .i64 k]:Array Value).size=2:=rfl
 exact ev_sound rfl (rgn_sound rfl rfl G hm) 1000 an cd _ _ _ _ _ (q,kq) (fun _=>True) (by
  have:∀c:Code,WC (fun _=>True) c:=fun c=>by
   induction c with
   |seq a b h1 h2=>exact⟨h1,h2⟩
   |cond c a b h1 h2=>exact⟨fun _ _=>trivial,h1,h2⟩
   |block id c h=>exact h
   |loop c h=>exact h
   |region id os d=>exact fun _ _ _ _=>trivial
   |_=>trivial
  exact this cd) (AW.true an) h _ (fun s' a' w' β' _ hq r=>done s' a' w' β' hq r) (fun i s' a' w' β' _ hq r=>by cases hq) (fun s' a' w' β' _ hq r=>done s' a' w' β' hq r) _ _ _ r0
theorem sum_wt (G:Good P g Y TI FZ)(hm:P.follows .mixedOrders=true){f:FuncId}{fn:Func}{cd:Code}{n:Nat}{l:List ResultVar}{kd:Kd}{m:Tup U [kd, .int .i64]→Option (Tup U [kd, .int .i64])}{an:Tup U [kd, .int .i64]→An}(hf:P.funcs[f]? =some fn)(hb:fn.body=some cd)(hn:fn.ntmps=n)(hl:fn.results=l.toArray)
  (hE:∀args w,(callFunc f args).run P w= .ok (.enter f args) w) (hlen:2≤n) (h:∀a r,m a=some r→evM Y TI FZ (an a) cd n kd l a=some r):SumOk P g Y f ⟨[kd, .int .i64],[kd, .int .i64],false,true,m⟩:=fun a r hr=>by
 have h':=h a r hr
 refine⟨fun hh=>(by cases hh),fun hh=>(by cases hh),fun _ b cs u b' ds b'' k e1 e2=> ?_⟩
 have e1:[toCp Y kd a.1,toCp Y (.int .i64) a.2]=[(b,cs),u]:=e1
 have e2:[toCp Y kd r.1,toCp Y (.int .i64) r.2]=[(b',ds),(b'',[.int .i64 k])]:=e2
 simp only[List.cons.injEq,and_true] at e1 e2
 have e3:(false,[Lf.int (U:=U) .i64 (show Int from r.2)])=(b'',[Lf.int (U:=U) .i64 k]):=e2.2
 injection e3 with _ e3
 injection e3 with e3 _
 injection e3 with _ e3
 have hs:=evM_mspec G hm hf hb hn hl hE hlen h'
 have e4:toCp Y kd (show kd.ty U from a.1)=(b,cs):=e1.1
 have e5:toCp Y kd (show kd.ty U from r.1)=(b',ds):=e2.1
 rw[←e1.2,←e3]
 have e6:(toCp Y kd (show kd.ty U from a.1)).1=b:=by rw[e4]
 have e7:(toCp Y kd (show kd.ty U from a.1)).2=cs:=by rw[e4]
 have e8:(toCp Y kd (show kd.ty U from r.1)).2=ds:=by rw[e5]
 rw[←e6,←e7,←e8]
 exact hs
end
end Go.EV
namespace Go.VK
theorem gd_use {α:Type}{c:Prop}[Decidable c]{x y:Option α}{r:α}(h:c→y=x)(hr:gd c x=some r):y=some r:=by
 unfold gd at hr
 split at hr
 ·rename_i hc;rw[h hc];exact hr
 ·cases hr
end Go.VK

/-
  THE EVALUATOR's KIT: plain laws of loops ('itr'), and of what the laws' helpers do to lists. No program in sight; the conditions stand in each.
-/
set_option linter.unusedVariables false
set_option linter.unusedSimpArgs false
namespace Go.VK
open EV (itr)
section
variable {α β σ τ:Type}
theorem itr_to {S:Type}{F:(S→Option τ)→S→Option τ}(V:Nat→S→Prop)(N:Nat)(R:Option τ)
  (step:∀i s rec,i<N→V i s→(∃s',V (i+1) s'∧F rec s=rec s')∨F rec s=R) (last:∀s rec,V N s→F rec s=R):∀(k i n:Nat) (s:S),i+k=N→k<n→V i s→itr n F s=R
 |0,i,n+1,s,hk,hn,h=>by
  have:i=N:=by omega
  subst this
  exact last s _ h
 |k+1,i,n+1,s,hk,hn,h=>by
  rcases step i s (itr n F) (by omega) h with⟨s',h1,h2⟩|h2
  ·exact h2.trans (itr_to V N R step last k (i+1) n s' (by omega) (by omega) h1)
  ·exact h2
theorem itr0 {S:Type}{F:(S→Option τ)→S→Option τ}(V:Nat→S→Prop)(N:Nat)(R:Option τ){s:S}(hN:N≤18446744073709551616)(h0:V 0 s)
  (step:∀i s rec,i<N→V i s→(∃s',V (i+1) s'∧F rec s=rec s')∨F rec s=R) (last:∀s rec,V N s→F rec s=R):itr FUEL F s=R:=
 itr_to V N R step last N 0 FUEL s (by omega) (by have:=FUEL_le;omega) h0
theorem itr_ex {S:Type}{F:(S→Option τ)→S→Option τ}(V:Nat→S→Prop)(N:Nat)(Q:τ→Prop)
  (step:∀i s rec,i<N→V i s→(∃s',V (i+1) s'∧F rec s=rec s')∨∃r,F rec s=some r∧Q r) (last:∀s rec,V N s→∃r,F rec s=some r∧Q r):∀(k i n:Nat) (s:S),i+k=N→k<n→V i s→∃r,itr n F s=some r∧Q r
 |0,i,n+1,s,hk,hn,h=>by
  have:i=N:=by omega
  subst this
  exact last s _ h
 |k+1,i,n+1,s,hk,hn,h=>by
  rcases step i s (itr n F) (by omega) h with⟨s',h1,h2⟩|h2
  ·obtain⟨r,h3⟩:=itr_ex V N Q step last k (i+1) n s' (by omega) (by omega) h1
   exact⟨r,h2.trans h3.1,h3.2⟩
  ·exact h2
theorem lt_i {i n:Nat}(h:i<n):decide ((i:Int)<(n:Int))=true:=by simpa using h
theorem ge_i {n:Nat}:decide ((n:Int)<(n:Int))=false:=by simp
theorem bifT {c:Bool}{x y:α}(h:c=true):(bif c then x else y)=x:=by rw[h];rfl
theorem bifF {c:Bool}{x y:α}(h:c=false):(bif c then x else y)=y:=by rw[h];rfl
theorem set_mid {l r:List β}{i:Nat}{d x:β}(h:l.length=i):(l++d::r).set i x=(l++[x])++r:=by
 subst h
 rw[List.set_append_right _ _ (Nat.le_refl _)]
 simp
theorem toLoop {a:List α}{d:β}{f:α→β}{F:(Nat×List β→Option (List β))→Nat×List β→Option (List β)}{n:Nat}(hn:n=a.length)
  (hl:a.length≤18446744073709551616)
  (hF:∀rec i out,out.length=a.length→∀hi:i<a.length,F rec (i,out)=rec (i+1,out.set i (f a[i]))) (hE:∀rec out,F rec (a.length,out)=some out):itr FUEL F (0,List.replicate n d)=some (a.map f):=by
 subst hn
 refine itr0 (fun i s=>i≤a.length∧s=(i,(a.take i).map f++List.replicate (a.length-i) d)) a.length _ hl ⟨Nat.zero_le _,by simp⟩ (fun i s rec hi hv=> ?_) (fun s rec hv=> ?_)
 ·obtain⟨hle,rfl⟩:=hv
  refine .inl ⟨_,⟨hi,rfl⟩,?_⟩
  rw[hF rec i _ (by simp;omega) hi]
  have e:a.length-i=(a.length-(i+1))+1:=by omega
  rw[e,List.replicate_succ,set_mid (by simp;omega)]
  have e2:a.take (i+1)=a.take i++[a[i]]:=by rw[List.take_add_one,List.getElem?_eq_getElem hi];rfl
  rw[e2,List.map_append];rfl
 ·obtain⟨_,rfl⟩:=hv
  rw[hE];simp
theorem toLoopId {a:List α}{d:α}{F:(Nat×List α→Option (List α))→Nat×List α→Option (List α)}{n:Nat}(hn:n=a.length)
  (hl:a.length≤18446744073709551616)
  (hF:∀rec i out,out.length=a.length→∀hi:i<a.length,F rec (i,out)=rec (i+1,out.set i a[i])) (hE:∀rec out,F rec (a.length,out)=some out):itr FUEL F (0,List.replicate n d)=some a:=by
 have:=toLoop (f:=id) hn hl (d:=d) hF hE
 rwa [List.map_id] at this
theorem eqLoop {a:List α}{F:(Nat→Option (Bool⊕PUnit))→Nat→Option (Bool⊕PUnit)}(hl:a.length≤18446744073709551616)
  (hF:∀rec i (hi:i<a.length),F rec i=rec (i+1)) (hE:∀rec,F rec a.length=some (.inr ())):itr FUEL F 0=some (.inr ()):=by
 refine itr0 (fun i s=>s=i) a.length _ hl rfl (fun i s rec hi hv=> ?_) (fun s rec hv=> ?_)
 ·subst hv;exact .inl ⟨_,rfl,hF rec s hi⟩
 ·subst hv;exact hE rec
theorem sum_take1 {f:α→Nat}{l:List α}{i:Nat}(h:i<l.length):((l.take (i+1)).map f).sum=((l.take i).map f).sum+f l[i]:=by
 rw[List.take_add_one,List.getElem?_eq_getElem h,List.map_append,List.sum_append]
 simp only[Option.toList_some,List.map_cons,List.map_nil,List.sum_cons,List.sum_nil,Nat.add_zero]
def szI (n:Nat)(left:Int):Int:=if (n:Int)≤left then left-n else-1
def szP (left:Int):Prop:=0≤left∧left≤1048576
instance (left:Int):Decidable (szP left):=inferInstanceAs (Decidable (_∧_))
theorem szLoop {a:List α}{f:α→Nat}{l0:Int}{F:(Int×Nat→Option (Int⊕Int))→Int×Nat→Option (Int⊕Int)}(h0:szP l0)(hl:(a.length:Int)≤1048576)
  (hF:∀rec i left (hi:i<a.length),szP left→F rec (left,i)=bif decide (szI (f a[i]) left<0) then some (.inl (-1)) else rec (szI (f a[i]) left,i+1)) (hE:∀rec left,F rec (left,a.length)=some (.inr left)):
  nx (itr FUEL F (l0,0)) (fun z=>some z)=some (szI ((a.map f).sum) l0):=by
 have key:∀(i:Nat),i≤a.length→(a.map f).sum=((a.take i).map f).sum+((a.drop i).map f).sum:=fun i _=>by
  rw[←List.sum_append,←List.map_append,List.take_append_drop]
 by_cases hs:((a.map f).sum:Int)≤l0
 ·have:=itr0 (F:=F) (s:=(l0,0)) (fun i s=>i≤a.length∧s=(l0-(((a.take i).map f).sum:Nat),i)) a.length (some (.inr (l0-((a.map f).sum:Nat)))) (by omega) ⟨Nat.zero_le _,by simp⟩ (fun i s rec hi hv=> ?_) (fun s rec hv=> ?_)
  ·rw[this];simp only[nx_r,szI,if_pos hs]
  ·obtain⟨hle,rfl⟩:=hv
   refine .inl ⟨_,⟨hi,rfl⟩,?_⟩
   have e2:=sum_take1 (f:=f) hi
   have hk:=key (i+1) hi
   have hp:szP (l0-(((a.take i).map f).sum:Nat)):=⟨by omega,by have:=h0.2;omega⟩
   rw[hF rec i _ hi hp]
   have e3:szI (f a[i]) (l0-(((a.take i).map f).sum:Nat))=l0-(((a.take (i+1)).map f).sum:Nat):=by unfold szI;rw[if_pos (by omega),e2];omega
   rw[e3,bifF (decide_eq_false (by omega))]
  ·obtain⟨_,rfl⟩:=hv
   rw[hE,List.take_length]
 ·have:=itr0 (F:=F) (s:=(l0,0)) (fun i s=>i≤a.length∧s=(l0-(((a.take i).map f).sum:Nat),i)∧(((a.take i).map f).sum:Int)≤l0) a.length (some (.inl (-1))) (by omega) ⟨Nat.zero_le _,by simp,by have:=h0.1;simpa using this⟩ (fun i s rec hi hv=> ?_) (fun s rec hv=> ?_)
  ·rw[this];simp only[nx_l,szI,if_neg hs]
  ·obtain⟨hle,rfl,hp0⟩:=hv
   have e2:=sum_take1 (f:=f) hi
   have hp:szP (l0-(((a.take i).map f).sum:Nat)):=⟨by omega,by have:=h0.2;omega⟩
   rw[hF rec i _ hi hp]
   by_cases hq:(((a.take (i+1)).map f).sum:Int)≤l0
   ·have e3:szI (f a[i]) (l0-(((a.take i).map f).sum:Nat))=l0-(((a.take (i+1)).map f).sum:Nat):=by unfold szI;rw[if_pos (by omega),e2];omega
    refine .inl ⟨_,⟨hi,rfl,hq⟩,?_⟩
    rw[e3,bifF (decide_eq_false (by omega))]
   ·have e3:szI (f a[i]) (l0-(((a.take i).map f).sum:Nat))= -1:=by unfold szI;rw[if_neg (by omega)]
    refine .inr ?_
    rw[e3];rfl
  ·obtain⟨_,_,hp0⟩:=hv
   rw[List.take_length] at hp0
   exact absurd hp0 hs
theorem szI_neg {n:Nat}{l:Int}(h:szI n l<0)(h0:0≤l):szI n l= -1∧l<n:=by
 unfold szI at*
 split at h
 ·omega
 ·rename_i h1;rw[if_neg h1];exact⟨rfl,by omega⟩
theorem szI_pos {n:Nat}{l:Int}(h:¬szI n l<0):szI n l=l-n∧(n:Int)≤l:=by
 unfold szI at*
 split at h
 ·rename_i h1;rw[if_pos h1];exact⟨rfl,h1⟩
 ·omega
theorem sz_then {n m:Nat}{l:Int}(h:szP l):(bif decide (szI n l<0) then-1 else szI m (szI n l))=szI (n+m) l:=by
 by_cases hc:szI n l<0
 ·rw[bifT (decide_eq_true hc)]
  have:=(szI_neg hc h.1).2
  unfold szI;rw[if_neg (by omega)]
 ·rw[bifF (decide_eq_false hc)]
  obtain⟨e1,e2⟩:=szI_pos hc
  rw[e1];unfold szI
  by_cases hm:(m:Int)≤l-n
  ·rw[if_pos hm,if_pos (by omega)];omega
  ·rw[if_neg hm,if_neg (by omega)]
theorem szI_p {n:Nat}{l:Int}(h:szP l)(hc:¬szI n l<0):szP (szI n l):=by
 obtain⟨e1,e2⟩:=szI_pos hc
 rw[e1];exact⟨by omega,by have:=h.2;omega⟩
def mkL (e:α→Int→α×Int):List α→Int→List α×Int
 |[],k=>([],k)
 |x::xs,k=>((e x k).1::(mkL e xs (e x k).2).1,(mkL e xs (e x k).2).2)
theorem mkL_app {e:α→Int→α×Int}:∀{l r:List α} {k:Int},mkL e (l++r) k=((mkL e l k).1++(mkL e r (mkL e l k).2).1,(mkL e r (mkL e l k).2).2)
 |[],r,k=>rfl
 |x::l,r,k=>by simp only[List.cons_append,mkL,mkL_app (l:=l)]
theorem mkL_len {e:α→Int→α×Int}:∀{l:List α} {k:Int},(mkL e l k).1.length=l.length
 |[],_=>rfl
 |x::l,k=>by simp[mkL,mkL_len (l:=l)]
theorem atq_set {l:List α}{i:Nat}{x:α}(h:i<l.length):atq (l.set i x) (i:Int)=some x:=by
 rw[atq_nat (by simpa using h)];simp
theorem toNat_i {i:Nat}:((i:Nat):Int).toNat=i:=Int.toNat_natCast i
def MkOk (e:α→Int→α×Int)(c:α→Nat):Prop:=∀(x:α) (k:Int),0≤k→k+c x≤4611686018427387904→(e x k).2=k+c x∧c (e x k).1=c x
def cntL (c:α→Nat)(l:List α):Nat:=(l.map c).sum
theorem mkL_ok {e:α→Int→α×Int}{c:α→Nat}(h:MkOk e c):MkOk (mkL e) (cntL c)
 |[],k,h0,h1=>by simp[mkL,cntL]
 |x::xs,k,h0,h1=>by
  simp only[cntL,List.map_cons,List.sum_cons] at h1 ⊢
  obtain⟨a1,a2⟩:=h x k h0 (by omega)
  obtain⟨b1,b2⟩:=mkL_ok h xs (k+c x) (by omega) (by unfold cntL;omega)
  simp only[mkL,a1,b1,cntL,List.map_cons,List.sum_cons,a2] at b2 ⊢
  exact⟨by omega,by omega⟩
theorem cntL_cons {c:α→Nat}{l:List α}{i:Nat}(h:i<l.length):cntL c l=cntL c (l.take i)+(c l[i]+cntL c (l.drop (i+1))):=by
 unfold cntL
 conv=>lhs;rw[←List.take_append_drop i l,List.drop_eq_getElem_cons h]
 rw[List.map_append,List.map_cons,List.sum_append,List.sum_cons]
theorem markLoop {e:α→Int→α×Int}{c:α→Nat}(hok:MkOk e c){l0:List α}{k0:Int}(h0:0≤k0)(h1:k0+cntL c l0≤4611686018427387904){F:(Int×Nat×List α→Option (Int×List α))→Int×Nat×List α→Option (Int×List α)}(hl:l0.length≤18446744073709551616)
  (hF:∀rec (k:Int) i (l:List α) (hi:i<l.length) (hi0:i<l0.length),l[i]=l0[i]→0≤k→k+c l0[i]≤4611686018427387904→F rec (k,i,l)=rec ((e l0[i] k).2,i+1,l.set i (e l0[i] k).1)) (hE:∀rec k (l:List α),F rec (k,l.length,l)=some (k,l)):itr FUEL F (k0,0,l0)=some ((mkL e l0 k0).2,(mkL e l0 k0).1):=by
 refine itr0 (fun i s=>i≤l0.length∧s=((mkL e (l0.take i) k0).2,i,(mkL e (l0.take i) k0).1++l0.drop i)) l0.length _ hl ⟨Nat.zero_le _,by simp[mkL]⟩ (fun i s rec hi hv=> ?_) (fun s rec hv=> ?_)
 ·obtain⟨hle,rfl⟩:=hv
  refine .inl ⟨_,⟨hi,rfl⟩,?_⟩
  have hd:l0.drop i=l0[i]::l0.drop (i+1):=List.drop_eq_getElem_cons hi
  have hlen:(mkL e (l0.take i) k0).1.length=i:=by rw[mkL_len];simp;omega
  have hil:i<((mkL e (l0.take i) k0).1++l0.drop i).length:=by rw[List.length_append,hlen];simp;omega
  have hget:((mkL e (l0.take i) k0).1++l0.drop i)[i]'hil=l0[i]:=by
   rw[List.getElem_append_right (by omega)];simp[hlen]
  have hc:=cntL_cons (c:=c) hi
  have hk:=(mkL_ok hok (l0.take i) k0 h0 (by omega)).1
  rw[hF rec _ i _ hil hi hget (by omega) (by omega),hd,set_mid hlen]
  have e2:l0.take (i+1)=l0.take i++[l0[i]]:=by rw[List.take_add_one,List.getElem?_eq_getElem hi];rfl
  rw[e2,mkL_app];rfl
 ·obtain⟨_,rfl⟩:=hv
  rw[List.take_length]
  have:=hE rec (mkL e l0 k0).2 (mkL e l0 k0).1
  rw[mkL_len] at this
  simpa using this
def MkP (s c:Nat)(k:Int):Prop:=s≤1152921504606846976∧0≤k∧k+c≤4611686018427387904
instance (s c:Nat) (k:Int):Decidable (MkP s c k):=inferInstanceAs (Decidable (_∧_))
theorem wrap1 {k:Int}(h0:0≤k)(h1:k+1≤4611686018427387904):IntKind.i64.wrap (k+1)=k+1:=wrap64_id (by omega) (by omega)
theorem cntL_le {c s:α→Nat}{l:List α}(h:∀x∈l,c x≤16+16*s x):cntL c l≤16*(l.length+(l.map s).sum):=by
 induction l with
 |nil=>simp[cntL]
 |cons x l ih=>
  have h1:=h x (by simp)
  have h2:=ih (fun y hy=>h y (by simp[hy]))
  simp only[cntL,List.map_cons,List.sum_cons,List.length_cons] at*
  omega
theorem cntL_le0 {c:α→Nat}{l:List α}(h:∀x∈l,c x≤16):cntL c l≤16*l.length:=by
 have:=cntL_le (c:=c) (s:=fun _=>0) (l:=l) (fun x hx=>by have:=h x hx;omega)
 rw[show(l.map fun _=>0).sum=0 from(by clear this h;induction l with|nil=>rfl|cons x l ih=>simp only[List.map_cons,List.sum_cons,ih])] at this
 omega
def HeldP (e:α→Int→α×Int)(c:α→Nat)(a:α)(k:Int):Prop:=0≤k∧k+c a≤4611686018427387904∧∃x,a=(e x k).1∧c x=c a
noncomputable instance (e:α→Int→α×Int) (c:α→Nat) (a:α) (k:Int):Decidable (HeldP e c a k):=Classical.propDecidable _
theorem heldP_of {e:α→Int→α×Int}{c:α→Nat}{a x:α}{k:Int}(h0:0≤k)(h1:k+c x≤4611686018427387904)(ha:a=(e x k).1)(hc:c a=c x):HeldP e c a k:=⟨h0,by rw[hc];exact h1,x,ha,hc.symm⟩
theorem heldLoop {e:α→Int→α×Int}{c:α→Nat}(hok:MkOk e c){a:List α}{k0:Int}(hP:HeldP (mkL e) (cntL c) a k0){F:(Int×Nat→Option (Int⊕Int))→Int×Nat→Option (Int⊕Int)}(hl:a.length≤18446744073709551616)
  (hF:∀rec k i (hi:i<a.length),HeldP e c a[i] k→F rec (k,i)=rec (k+c a[i],i+1)) (hE:∀rec k,F rec (k,a.length)=some (.inr k)):itr FUEL F (k0,0)=some (.inr (k0+cntL c a)):=by
 obtain⟨h0,h1,xs,hx,hcx⟩:=hP
 have hlen:a.length=xs.length:=by rw[hx,mkL_len]
 have key:∀i,i≤a.length→(mkL e (xs.take i) k0).2=k0+cntL c (a.take i)∧a.take i=(mkL e (xs.take i) k0).1:=fun i hi=>by
  have hsum:cntL c xs=cntL c (xs.take i)+cntL c (xs.drop i):=by
   unfold cntL;rw[←List.sum_append,←List.map_append,List.take_append_drop]
  obtain⟨q1,q2⟩:=mkL_ok hok (xs.take i) k0 h0 (by omega)
  have ht:a.take i=(mkL e (xs.take i) k0).1:=by
   rw[hx]
   conv=>lhs;rw[←List.take_append_drop i xs,mkL_app]
   simp only
   rw[List.take_left' (by rw[mkL_len];simp;omega)]
  exact⟨by rw[q1,ht,q2],ht⟩
 refine itr0 (fun i s=>i≤a.length∧s=(k0+cntL c (a.take i),i)) a.length _ hl ⟨Nat.zero_le _,by simp[cntL]⟩ (fun i s rec hi hv=> ?_) (fun s rec hv=> ?_)
 ·obtain⟨hle,rfl⟩:=hv
  refine .inl ⟨_,⟨hi,rfl⟩,?_⟩
  have e2:a.take (i+1)=a.take i++[a[i]]:=by rw[List.take_add_one,List.getElem?_eq_getElem hi];rfl
  have ec:cntL c (a.take (i+1))=cntL c (a.take i)+c a[i]:=sum_take1 hi
  have hsum:cntL c a=cntL c (a.take (i+1))+cntL c (a.drop (i+1)):=by
   unfold cntL;rw[←List.sum_append,←List.map_append,List.take_append_drop]
  have hxi:i<xs.length:=by omega
  obtain⟨k1,k2⟩:=key i hle
  obtain⟨k3,k4⟩:=key (i+1) hi
  have ex:xs.take (i+1)=xs.take i++[xs[i]]:=by rw[List.take_add_one,List.getElem?_eq_getElem hxi];rfl
  have hai:a[i]=(e xs[i] (k0+cntL c (a.take i))).1:=by
   rw[ex,mkL_app,e2,k2] at k4
   have:=List.append_cancel_left k4
   simp only[mkL,List.cons.injEq,and_true] at this
   rw[this,k1]
  have hsx:cntL c xs=cntL c (xs.take i)+(c xs[i]+cntL c (xs.drop (i+1))):=by
   unfold cntL
   conv=>lhs;rw[←List.take_append_drop i xs,List.drop_eq_getElem_cons hxi]
   rw[List.map_append,List.map_cons,List.sum_append,List.sum_cons]
  have hct:cntL c (xs.take i)=cntL c (a.take i):=by
   have:=(mkL_ok hok (xs.take i) k0 h0 (by omega)).2
   rw[←k2] at this;exact this.symm
  have hce:c a[i]=c xs[i]:=by rw[hai];exact(hok xs[i] _ (by omega) (by omega)).2
  rw[hF rec _ i hi ⟨by omega,by omega,xs[i],hai,hce.symm⟩,ec]
  congr 2;omega
 ·obtain⟨_,rfl⟩:=hv
  rw[hE,List.take_length]
end
end Go.VK
namespace Go.VK
open EV (itr)
section
variable {α β σ τ:Type}
def EqZ (n:Nat)(a b:α):Prop:=a=b∧n≤1152921504606846976
noncomputable instance (n:Nat) (a b:α):Decidable (EqZ n a b):=Classical.propDecidable _
def okL (p:α→Prop)(l:List α):Prop:=l.length≤9223372036854775807∧∀y∈l,p y
def okS (s:ByteArray):Prop:=s.size≤9223372036854775807
def SzP (p:α→Prop)(a:α)(left:Int):Prop:=p a∧szP left
noncomputable instance (p:α→Prop) (a:α) (left:Int):Decidable (SzP p a left):=Classical.propDecidable _
theorem mkOk_n {n:Nat}(h:n≤68719476736):mkOk (n:Int):=⟨by omega,by omega⟩
theorem le_sumI {f:α→Nat}{l:List α}{i:Nat}(hi:i<l.length):f l[i]≤(l.map f).sum:=by
 have:f l[i]∈l.map f:=List.mem_map.2 ⟨_,List.getElem_mem hi,rfl⟩
 induction l generalizing i with
 |nil=>simp at hi
 |cons x l ih=>
  cases i with
  |zero=>simp
  |succ i=>
   have h':i<l.length:=by simpa using hi
   have:=ih h' (List.mem_map.2 ⟨_,List.getElem_mem h',rfl⟩)
   simp only[List.map_cons,List.sum_cons,List.getElem_cons_succ];omega
theorem szList {a:List α}{f:α→Nat}{l0:Int}{p:α→Prop}{F:(Int×Nat→Option (Int⊕Int))→Int×Nat→Option (Int⊕Int)}(h:SzP (okL p) a l0)
  (hF:∀rec i left (hi:i<a.length),SzP p a[i] left→F rec (left,i)=bif decide (szI (f a[i]) left<0) then some (.inl (-1)) else rec (szI (f a[i]) left,i+1)) (hE:∀rec left,F rec (left,a.length)=some (.inr left)):
  (bif decide (IntKind.i64.wrap (l0-(a.length:Int))<0) then some (-1:Int) else nx (itr FUEL F (IntKind.i64.wrap (l0-(a.length:Int)),0)) fun z=>some z)=some (szI (a.length+(a.map f).sum) l0):=by
 obtain⟨⟨h1,h2⟩,h3⟩:=h
 have hw:IntKind.i64.wrap (l0-(a.length:Int))=l0-(a.length:Int):=wrap64_id (by have:=h3.1;omega) (by have:=h3.2;omega)
 rw[hw]
 by_cases hc:l0-(a.length:Int)<0
 ·rw[bifT (decide_eq_true hc)];unfold szI;rw[if_neg (by omega)]
 ·rw[bifF (decide_eq_false hc)]
  have hp:szP (l0-(a.length:Int)):=⟨by omega,by have:=h3.2;omega⟩
  rw[szLoop hp (by have:=h3.2;omega) (fun rec i left hi hl=>hF rec i left hi ⟨h2 _ (List.getElem_mem hi),hl⟩) hE]
  unfold szI
  by_cases hm:((a.map f).sum:Int)≤l0-a.length
  ·rw[if_pos hm,if_pos (by omega)];congr 1;omega
  ·rw[if_neg hm,if_neg (by omega)]
theorem szFlat {n:Nat}{l0:Int}(h1:n≤9223372036854775807)(h3:szP l0):(bif decide (IntKind.i64.wrap (l0-(n:Int))<0) then some (-1:Int) else some (IntKind.i64.wrap (l0-(n:Int))))=some (szI n l0):=by
 have hw:IntKind.i64.wrap (l0-(n:Int))=l0-(n:Int):=wrap64_id (by have:=h3.1;omega) (by have:=h3.2;omega)
 rw[hw]
 by_cases hc:l0-(n:Int)<0
 ·rw[bifT (decide_eq_true hc)];unfold szI;rw[if_neg (by omega)]
 ·rw[bifF (decide_eq_false hc)];unfold szI;rw[if_pos (by omega)]
theorem szGo {n m:Nat}{l:Int}{X:Option Int}(h:szP l)(hK:szP (szI n l)→X=some (szI m (szI n l))):(bif decide (szI n l<0) then some (-1) else X)=some (szI (n+m) l):=by
 by_cases hc:szI n l<0
 ·rw[bifT (decide_eq_true hc),←sz_then h,bifT (decide_eq_true hc)]
 ·rw[bifF (decide_eq_false hc),hK (szI_p h hc),←sz_then h,bifF (decide_eq_false hc)]
theorem szEnd {n:Nat}{l:Int}(h:szP l):(bif decide (szI n l<0) then some (-1) else some (szI n l))=some (szI n l):=by
 by_cases hc:szI n l<0
 ·rw[bifT (decide_eq_true hc),(szI_neg hc h.1).1]
 ·rw[bifF (decide_eq_false hc)]
end
end Go.VK
namespace Go.VK
theorem three_ne:((3:Int)≠0)=True:=by simp
theorem szStr {n m:Nat}{l:Int}{X:Option Int}(h:szP l)(hK:szP (l-(n:Int))→X=some (szI m (l-(n:Int)))):(bif decide (l-(n:Int)<0) then some (-1) else X)=some (szI (n+m) l):=by
 by_cases hc:l-(n:Int)<0
 ·rw[bifT (decide_eq_true hc)];unfold szI;rw[if_neg (by omega)]
 ·have hp:szP (l-(n:Int)):=⟨by omega,by have:=h.2;omega⟩
  rw[bifF (decide_eq_false hc),hK hp]
  unfold szI
  by_cases hm:(m:Int)≤l-n
  ·rw[if_pos hm,if_pos (by omega)];congr 1;omega
  ·rw[if_neg hm,if_neg (by omega)]
end Go.VK
namespace Go.VK
open EV (itr)
section
variable {α β σ τ:Type}
theorem anyLoop {l:List α}(p:α→Bool)(a b:τ){F:(Nat→Option τ)→Nat→Option τ}(hl:l.length≤18446744073709551616)
  (hF:∀rec i (hi:i<l.length),F rec i=bif p l[i] then some a else rec (i+1)) (hE:∀rec,F rec l.length=some b):itr FUEL F 0=some (bif l.any p then a else b):=by
 have key:∀i (hi:i<l.length),p l[i]=true→l.any p=true:=fun i hi h=>List.any_eq_true.2 ⟨_,List.getElem_mem hi,h⟩
 refine itr0 (fun i s=>i≤l.length∧s=i∧(l.take i).any p=false) l.length _ hl ⟨Nat.zero_le _,rfl,rfl⟩ (fun i s rec hi hv=> ?_) (fun s rec hv=> ?_)
 ·obtain⟨_,rfl,h3⟩:=hv
  rw[hF rec s hi]
  cases hp:p l[s] with
  |true=>exact .inr (by rw[key s hi hp];rfl)
  |false=>exact .inl ⟨_,⟨hi,rfl,by rw[List.take_add_one,List.getElem?_eq_getElem hi,List.any_append,h3];simp[hp]⟩,rfl⟩
 ·obtain⟨_,rfl,h3⟩:=hv
  rw[List.take_length] at h3
  rw[hE,h3];rfl
theorem anyLoopI {l:List α}(p:Nat→α→Bool)(a b:τ){F:(Nat→Option τ)→Nat→Option τ}(hl:l.length≤18446744073709551616)
  (hF:∀rec i (hi:i<l.length),F rec i=bif p i l[i] then some a else rec (i+1)) (hE:∀rec,F rec l.length=some b):itr FUEL F 0=some (bif anyI p 0 l then a else b):=by
 have key:∀(l:List α) (j:Nat),anyI p j l=true↔∃(i:Nat) (hi:i<l.length),p (j+i) l[i]=true:=by
  intro l
  induction l with
  |nil=>intro j;simp[anyI]
  |cons x xs ih=>
   intro j
   simp only[anyI,Bool.or_eq_true,ih]
   constructor
   ·rintro(h|⟨i,hi,h⟩)
    ·exact⟨0,by simp,h⟩
    ·exact⟨i+1,by simpa using hi,by rw[show j+(i+1)=j+1+i by omega];exact h⟩
   ·rintro⟨i,hi,h⟩
    cases i with
    |zero=>exact .inl h
    |succ i=>exact .inr ⟨i,by simpa using hi,by rw[show j+1+i=j+(i+1) by omega];exact h⟩
 refine itr0 (fun i s=>i≤l.length∧s=i∧∀(j:Nat) (hj:j<l.length),j<i→p j l[j]=false) l.length _ hl ⟨Nat.zero_le _,rfl,fun j _ h=>by omega⟩ (fun i s rec hi hv=> ?_) (fun s rec hv=> ?_)
 ·obtain⟨_,rfl,h3⟩:=hv
  rw[hF rec s hi]
  cases hp:p s l[s] with
  |true=>exact .inr (by rw[(key l 0).2 ⟨s,hi,by rw[Nat.zero_add];exact hp⟩];rfl)
  |false=>
   refine .inl ⟨_,⟨hi,rfl,fun j hj h=> ?_⟩,rfl⟩
   rcases Nat.lt_or_ge j s with h'|h'
   ·exact h3 j hj h'
   ·have:j=s:=by omega
    subst this;exact hp
 ·obtain⟨_,rfl,h3⟩:=hv
  have:anyI p 0 l=false:=by
   cases h:anyI p 0 l with
   |false=>rfl
   |true=>
    obtain⟨i,hi,hp⟩:=(key l 0).1 h
    rw[Nat.zero_add,h3 i hi hi] at hp;cases hp
  rw[hE,this];rfl
theorem findLoop {l:List α}(p:α→Bool){F:(Nat→Option (Int⊕PUnit))→Nat→Option (Int⊕PUnit)}(hl:l.length≤18446744073709551616)
  (hF:∀rec i (hi:i<l.length),F rec i=bif p l[i] then some (.inl (i:Int)) else rec (i+1)) (hE:∀rec,F rec l.length=some (.inr ())):nx (itr FUEL F 0) (fun _=>some (-1:Int))=some (findP p 0 l):=by
 have go:∀(k i n:Nat),i+k=l.length→k<n→nx (itr n F i) (fun _=>some (-1:Int))=some (findP p i (l.drop i)):=by
  intro k
  induction k with
  |zero=>
   intro i n hk hn
   obtain⟨n,rfl⟩:∃m,n=m+1:=⟨n-1,by omega⟩
   have:i=l.length:=by omega
   subst this
   rw[show itr (n+1) F l.length=F (itr n F) l.length from rfl,hE,List.drop_length];rfl
  |succ k ih=>
   intro i n hk hn
   obtain⟨n,rfl⟩:∃m,n=m+1:=⟨n-1,by omega⟩
   have hi:i<l.length:=by omega
   rw[show itr (n+1) F i=F (itr n F) i from rfl,hF _ i hi,List.drop_eq_getElem_cons hi,findP]
   cases p l[i] with
   |true=>rfl
   |false=>exact ih (i+1) n (by omega) (by omega)
 exact go l.length 0 FUEL (by omega) (by have:=FUEL_le;omega)
theorem foldLoopR {l:List α}(g:σ→α→σ)(Inv:Nat→σ→Prop)(fin:σ→Option τ){s0:σ}{F:(σ×Nat→Option τ)→σ×Nat→Option τ}(hl:l.length≤18446744073709551616)(h0:Inv 0 s0)
  (hI:∀i s (hi:i<l.length),Inv i s→Inv (i+1) (g s l[i])) (hF:∀rec i s (hi:i<l.length),Inv i s→F rec (s,i)=rec (g s l[i],i+1)) (hE:∀rec s,Inv l.length s→F rec (s,l.length)=fin s):itr FUEL F (s0,0)=fin (l.foldl g s0):=by
 refine itr0 (fun i s=>i≤l.length∧s=((l.take i).foldl g s0,i)∧Inv i s.1) l.length _ hl ⟨Nat.zero_le _,rfl,h0⟩ (fun i s rec hi hv=> ?_) (fun s rec hv=> ?_)
 ·obtain⟨_,rfl,h3⟩:=hv
  have e:(l.take (i+1)).foldl g s0=g ((l.take i).foldl g s0) l[i]:=by rw[List.take_add_one,List.getElem?_eq_getElem hi,List.foldl_append];rfl
  refine .inl ⟨_,⟨hi,rfl,by rw[e];exact hI i _ hi h3⟩,?_⟩
  rw[hF rec i _ hi h3,e]
 ·obtain⟨_,rfl,h3⟩:=hv
  rw[hE rec _ h3,List.take_length]
theorem foldLoopL {l:List α}(g:σ→α→σ)(Inv:Nat→σ→Prop)(fin:σ→Option τ){s0:σ}{F:(Nat×σ→Option τ)→Nat×σ→Option τ}(hl:l.length≤18446744073709551616)(h0:Inv 0 s0)
  (hI:∀i s (hi:i<l.length),Inv i s→Inv (i+1) (g s l[i])) (hF:∀rec i s (hi:i<l.length),Inv i s→F rec (i,s)=rec (i+1,g s l[i])) (hE:∀rec s,Inv l.length s→F rec (l.length,s)=fin s):itr FUEL F (0,s0)=fin (l.foldl g s0):=by
 refine itr0 (fun i s=>i≤l.length∧s=(i,(l.take i).foldl g s0)∧Inv i s.2) l.length _ hl ⟨Nat.zero_le _,rfl,h0⟩ (fun i s rec hi hv=> ?_) (fun s rec hv=> ?_)
 ·obtain⟨_,rfl,h3⟩:=hv
  have e:(l.take (i+1)).foldl g s0=g ((l.take i).foldl g s0) l[i]:=by rw[List.take_add_one,List.getElem?_eq_getElem hi,List.foldl_append];rfl
  refine .inl ⟨_,⟨hi,rfl,by rw[e];exact hI i _ hi h3⟩,?_⟩
  rw[hF rec i _ hi h3,e]
 ·obtain⟨_,rfl,h3⟩:=hv
  rw[hE rec _ h3,List.take_length]
theorem foldl_app {f:α→List β}:∀{l:List α} {s:List β},l.foldl (fun s x=>s++f x) s=s++(l.map f).flatten
 |[],s=>by simp
 |x::l,s=>by simp only[List.foldl_cons,foldl_app (l:=l),List.map_cons,List.flatten_cons,List.append_assoc]
theorem foldl_one {f:α→β}:∀{l:List α} {s:List β},l.foldl (fun s x=>s++[f x]) s=s++l.map f
 |[],s=>by simp
 |x::l,s=>by simp only[List.foldl_cons,foldl_one (l:=l),List.map_cons,List.append_assoc,List.singleton_append]
theorem cntL_ge {α:Type}{c:α→Nat}(h:∀x,1≤c x):∀(l:List α),l.length≤cntL c l
 |[]=>by simp[cntL]
 |x::l=>by
  have:=cntL_ge h l
  have:=h x
  simp only[cntL,List.map_cons,List.sum_cons,List.length_cons] at*;omega
end
end Go.VK

/-
  THE EVALUATOR's KIT: what the memory says of the data it holds (lengths within a machine's bounds), and a contract without premise.
-/
set_option linter.unusedVariables false
namespace Go.VK
def RdA (w:World)(X:Nat→Prop):List V→Prop
 |[]=>True
 |c::cs=>(∃v,Rd w X [] v c)∧RdA w X cs
section
variable {w:World} {X:Nat→Prop}
theorem RdA.of:∀{cs:List V},(∀(i:Nat) (c:V),cs[i]? =some c→∃v,Rd w X [] v c)→RdA w X cs
 |[],_=>trivial
 |c::cs,h=>⟨h 0 c rfl,RdA.of fun i d hd=>h (i+1) d (by simpa using hd)⟩
theorem RdA.ofL {vs:List Value}{Us:List V}(h:RdL w X vs Us):RdA w X Us:=RdA.of fun i c hc=>by
 have hi:i<vs.length:=by
  rw[h.1]
  exact(List.getElem?_eq_some_iff.1 hc).1
 exact⟨vs[i],h.2 i vs[i] c (List.getElem?_eq_getElem hi) hc⟩
theorem RdA.agg {cs:List V}(h:∃v,Rd w X [] v (.agg cs)):RdA w X cs:=by
 obtain⟨v,h⟩:=h
 obtain⟨vs,rfl,hs,hr⟩:=Rd.agg_inv h
 exact RdA.of fun i c hc=>by
  have hi:i<vs.size:=by
   rw[hs]
   exact(List.getElem?_eq_some_iff.1 hc).1
  exact⟨vs[i],hr i vs[i] c (Array.getElem?_eq_getElem hi) hc⟩
theorem okS_of {s:ByteArray}(h:∃v,Rd w X [] v (.str s)):okS s:=by
 obtain⟨v,h⟩:=h
 exact(Rd.str_inv h).2
theorem okL_of {α:Type}{k:Nat}{enc:α→List V}{l:List α}{p:α→Prop}(h:∃v,Rd w X [] v (.slice k (l.map enc)))(hp:∀y,RdA w X (enc y)→p y):okL p l:=by
 obtain⟨v,h⟩:=h
 refine⟨?_,fun y hy=>hp y ?_⟩
 ·obtain⟨A,c,rfl,h1,h2⟩:=h.slice_len
  rw[List.length_map] at h1
  exact Nat.le_trans h1 h2
 ·obtain⟨i,hi,rfl⟩:=List.mem_iff_getElem.1 hy
  generalize he:l.map enc=es at h
  cases h with
  |slice0 h=>simp at he;subst he;simp at hi
  |slice hn hpos hc hm hX hb hk hcell hrd=>
   exact RdA.of fun j d hd=>⟨_,hrd i j (enc l[i]) d (by rw[←he,List.getElem?_map,List.getElem?_eq_getElem hi];rfl) hd⟩
end
theorem spec_of {P:Program}{g:GI}{f:FuncId}{Us:List V}{R:V→Prop}{p:Prop}(he:∀args w,(callFunc f args).run P w= .ok (.enter f args) w)(h:p→Spec P g f Us R)(hp:∀w X,RdA w X Us→p):Spec P g f Us R:=
 ⟨he,fun w X vs hg hX hR=>(h (hp w X (RdA.ofL hR))).2 w X vs hg hX hR⟩
end Go.VK

/-
  THE VALUE KIT, sixteenth part: strings.Split over the law of it that is laid at a program; the wrap of a tied row that keeps the world's shape.
-/
namespace Go.VK
def GMax (n:Nat):GI where
 G w:=∃m,w.cell? ⟨n,0,none⟩=some (.int .i64 m)
 st _ _ h he:=by
  obtain⟨m,hm⟩:=h
  exact⟨m,he.cell hm⟩
theorem splitB_size (sep:ByteArray):∀(k:Nat) (s l:ByteArray),l∈Lib.splitB sep 0 k s→l.size≤s.size
 |0,s,l,h=>by
  rw[Lib.splitB_zero] at h
  rw[List.mem_singleton.1 h];exact Nat.le_refl _
 |k+1,s,l,h=>by
  unfold Lib.splitB at h
  split at h
  ·rw[List.mem_singleton.1 h];exact Nat.le_refl _
  ·rcases List.mem_cons.1 h with rfl|h
   ·exact ext_size _ _ _
   ·exact Nat.le_trans (splitB_size sep k _ l h) (ext_size _ _ _)
theorem spec_split {P:Program}{F:FuncId}{T n:Nat}(hE:∀args w,(callFunc F args).run P w= .ok (.enter F args) w)
  (hS:∀(s sep:ByteArray) (m:Int) (w:World),s.size<4294967281→w.cell? ⟨n,0,none⟩=some (.int .i64 m)→1≤sep.size→Calls P F #[.string s, .string sep] w fun e w'=>
   e= .returned (.slice (some ⟨w.heap.size,0,none⟩) (Lib.countB s sep+1) (Lib.countB s sep+1))∧w'=w.alloc (.cells ((Lib.splitB sep 0 (Lib.countB s sep) s).map Value.string).toArray T))
  (s sep:ByteArray) (h1:s.size<4294967281) (h2:1≤sep.size):Spec P (GMax n) F [.str s, .str sep] (fun r=>r= .slice 1 ((splitF s sep).map sV)):=by
 refine⟨hE,fun w X0 vs hG hX0 hvs=> ?_⟩
 obtain⟨v,u,rfl⟩:∃v u,vs=[v,u]:=by
  match vs,hvs.1 with
  |[v,u],_=>exact⟨v,u,rfl⟩
 obtain⟨rfl,hv2⟩:=(hvs.2 0 v _ rfl rfl).str_inv
 obtain⟨rfl,hu2⟩:=(hvs.2 1 u _ rfl rfl).str_inv
 obtain⟨m,hm⟩:=hG
 refine(hS s sep m w h1 hm h2).mono ?_
 rintro e w' ⟨rfl,rfl⟩
 have hl:(splitF s sep).length=Lib.countB s sep+1:=Lib.splitB_all sep h2 0 _ s rfl
 have hn:Lib.countB s sep+1=((splitF s sep).map sV).length:=by rw[List.length_map];exact hl.symm
 have hcnt:Lib.countB s sep≤s.size+1:=Lib.count_le s.data.toList sep.data.toList
 have hsz:∀l∈splitF s sep,l.size≤s.size:=fun l h=>splitB_size sep _ s l h
 refine⟨_,_,rfl,rfl,?_,Ext.alloc w _⟩
 have hget:∀(i j:Nat) (e:List V) (d:V),((splitF s sep).map sV)[i]? =some e→e[j]? =some d→∃l,(splitF s sep)[i]? =some l∧j=0∧d= .str l:=by
  intro i j e d h3 h4
  rw[List.getElem?_map] at h3
  obtain⟨l,hl,rfl⟩:=Option.map_eq_some_iff.1 h3
  cases j with
  |zero=>exact⟨l,hl,rfl,by simpa[sV] using h4.symm⟩
  |succ j=>simp[sV] at h4
 refine .slice (val:=fun i j=> .string ((splitF s sep).getD i ⟨#[]⟩)) hn (by rw[←hn];omega) (Nat.le_refl _) (by unfold maxLen;omega) (fun hxx=>by have:=hX0 _ hxx;simp at this) (by simp)
  (fun e he=>by obtain⟨l,_,rfl⟩:=List.mem_map.1 he;rfl) (fun i j e d h3 h4=> ?_) (fun i j e d h3 h4=> ?_)
 ·obtain⟨l,h5,rfl,rfl⟩:=hget i j e d h3 h4
  rw[add_flat,Nat.zero_add,Nat.mul_one,Nat.add_zero]
  have h6:(Lib.splitB sep 0 (Lib.countB s sep) s)[i]? =some l:=h5
  rw[World.cell?_alloc_new]
  simp[List.getD,h5,h6]
 ·obtain⟨l,h5,rfl,rfl⟩:=hget i j e d h3 h4
  have:=hsz l (List.mem_of_getElem? h5)
  have e6:(splitF s sep).getD i ⟨#[]⟩=l:=by simp[List.getD,h5]
  rw[e6]
  exact .str (by unfold maxLen;omega)
end Go.VK
namespace Go
variable {H:Type} {enc:TypeId×Value→H}
theorem VK.wrapShaped {a:Assume}{C:Checked}{os:Os}{f:FuncId}{fn:Func}{s:ChangeSpec}{conds:List PathCond}{apart fresh handsOn again:Bool}{X:World→Array Value→Prop}
  (hX:∀(w w':World) (args:Array Value),w.heap=w'.heap→X w args→X w' args)
  (own:ownKnob C.prog.godebug=none) (started:os.Started) (noInit:C.prog.inits.idxOf? f=none) (hfn:C.prog.funcs[f]? =some fn)
  (witness:∃(w:World) (tape:Tape) (i:Input),w.os=os∧(w.forCall tape i).Shaped C.prog∧i.vars=[]∧Input.okWide C.prog (w.forCall tape i) .any w.heap.size f i∧
   ((s.pre enc C.prog fn conds apart (w.forCall tape i).memory i.args∧X (w.forCall tape i).memory i.args)∧sizedMet enc C.prog fn (OpenSpec.ofChange s) apart (w.forCall tape i).memory i.args)∧a.holds C.prog (lone (Frame.enter C.prog f i.args .normal) [] (w.forCall tape i)))
  (contract:∀(W:World) (base:Nat) (args:Array Value) (ds gs:List (DataW H)) (before:List MemPlace),
   (∀(j:Nat) t v,fn.params[j]? =some t→args[j]? =some v→Value.okWide C.prog W .any base t v)→
   DataW.Whole enc C.prog fn.params.toList s.vars apart W args.toList ds gs before→
   X W args→W.ShapedOpen C.prog→
   Calls C.prog f args W fun e W'=>∃v,e= .returned v∧s.post enc C.prog fn apart fresh handsOn again W args v W'):
  ReturnsInHanded a C os f .any (fun w args=>(s.pre enc C.prog fn conds apart w args∧X w args)∧sizedMet enc C.prog fn (OpenSpec.ofChange s) apart w args) (s.post enc C.prog fn apart fresh handsOn again):=by
 refine returnsInHanded_of_calls own started noInit witness ?_
 intro w tape i _ hsh _ hok hpre hholds
 obtain⟨_,_,_,fn',hfn',_,_,_,_,hval⟩:=hok
 have e:fn'=fn:=Option.some.inj (hfn'.symm.trans hfn)
 subst e
 obtain⟨⟨⟨ds,gs,before,hw,hc⟩,hx⟩,hz⟩:=hpre
 have hw':=DataW.Whole.of_heap (w':=w.forCall tape i) (by rfl) hw
 refine(contract (w.forCall tape i) w.heap.size i.args ds gs before hval hw' (hX _ _ _ (by rfl) hx) hsh).mono fun e W' ⟨v,he,hp⟩=> ?_
 subst he
 exact ChangeSpec.post_blind hp
end Go
