import Derived.Test.YthecajfmhdediaaGreatDoorEVptos
import Derived.Test.YthecajfmhdediaaGreatDoorVKatoi
/-
  THE EVALUATOR's KIT, twentieth part: regions. Plain theorems over any program; the conditions stand in each.
-/
set_option linter.unusedVariables false
set_option linter.unusedSimpArgs false
namespace Go.EV
open Go.RowKit Go.VK
variable {U:Uni} {Y:Lay U} {TI:List (Nat×TInfo)} {FZ:List (Nat×Sum U)} {P:Program} {g:GI} {E:Env U g}
structure Ag (D:Nat→Prop) (s s':St U):Prop where
 t:∀n,¬D n→s'.t[n]? =s.t[n]?
 tl:s'.t.length=s.t.length
 fr:s'.fr=s.fr
 m:Am s.m s'.m
theorem Ag.refl {D:Nat→Prop}(s:St U):Ag D s s:=⟨fun _ _=>rfl,rfl,rfl,Am.refl _⟩
theorem Ag.trans {D:Nat→Prop}{s s' s'':St U}(h:Ag D s s')(h':Ag D s' s''):Ag D s s'':=⟨fun n hn=>(h'.t n hn).trans (h.t n hn),h'.tl.trans h.tl,h'.fr.trans h.fr,h.m.trans h'.m⟩
theorem Ag.mono {D D':Nat→Prop}{s s':St U}(h:Ag D s s')(hd:∀n,D n→D' n):Ag D' s s':=⟨fun n hn=>h.t n (fun hh=>hn (hd n hh)),h.tl,h.fr,h.m⟩
theorem Ag.put {D:Nat→Prop}{s s':St U}(h:Ag D s s'){d:Option Nat}{x:Sv U}(hd:∀n,d=some n→D n):Ag D s (put s' d x):=by
 cases d with
 |none=>exact h
 |some n=>
  refine⟨fun k hk=> ?_,?_,h.fr,h.m⟩
  ·simp only[EV.put,cB]
   rw[List.getElem?_set_ne (fun e=>hk (by rw[←e];exact hd n rfl))]
   exact h.t k hk
  ·simp only[EV.put,cB,List.length_set];exact h.tl
section
variable {s:St U} {a:Act} {w:World} {β:List Tr} {α:Type} {C:Cod U}
theorem bY.set (r:bY C E s a w β){n:Nat}{x:Sv U}(h:x.mean C w (E.X β) β s.m (a.tmps.getD n undef)):bY C E (EV.put s (some n) x) a w β:=by
 refine⟨r.hp,r.defers,by simp only[EV.put,cB,List.length_set];exact r.tsz,fun m y hm=> ?_⟩
 simp only[EV.put,cB] at hm ⊢
 by_cases he:n=m
 ·subst he
  have hl:n<s.t.length:=by have:=lt_of_some hm;simpa using this
  rw[List.getElem?_set_self hl] at hm
  injection hm with hm;subst hm;exact h
 ·rw[List.getElem?_set_ne he] at hm;exact r.tm m y hm
theorem aVo (r:bY C E s a w β){n:Nat}{T F:St U→Option α}{z:α}(h:tst n s T F=some z):
  ∃b s',a.tmps.getD n undef= .bool b∧n<s.t.length∧bY C E s' a w β∧(b=true→T s'=some z)∧(b=false→F s'=some z)∧Ag (fun k=>k=n) s s':=by
 unfold tst at h
 rw[bC] at h
 split at h
 ·rename_i b hx
  have hm:a.tmps.getD n undef= .bool b:=r.tm n _ hx
  cases b with
  |true=>exact⟨true,_,hm,lt_of_some hx,r.set (x:= .l (.bool true)) hm,fun _=>h,fun h=>(by cases h),(Ag.refl s).put (fun k e=>by injection e with e;exact e.symm)⟩
  |false=>exact⟨false,_,hm,lt_of_some hx,r.set (x:= .l (.bool false)) hm,fun h=>(by cases h),fun _=>h,(Ag.refl s).put (fun k e=>by injection e with e;exact e.symm)⟩
 ·rename_i c m hx
  obtain⟨i,f,k1,k2,k3⟩:=r.tm n _ hx
  rw[bC,k1] at h
  simp only at h
  cases hb:decide ((i:Int)<m) with
  |true=>
   rw[hb] at h k2
   have hlt:=of_decide_eq_true hb
   have hns:∀(a' j:Nat) (f':Bool),s.m.ns[a']? =some (j,f')→∃f'',(upd s.m.ns c (i,true))[a']? =some (j,f''):=fun a' j f' h'=>by
    rw[cB]
    by_cases he:c=a'
    ·subst he
     rw[k1] at h';injection h' with h';injection h' with h' _;subst h'
     exact⟨true,List.getElem?_set_self (lt_of_some k1)⟩
    ·exact⟨f',by rw[List.getElem?_set_ne he];exact h'⟩
   have r1:bY C E ⟨s.t,⟨s.m.o,s.m.k,upd s.m.ns c (i,true)⟩,s.fr⟩ a w β:=r.aBT hns (fun a' j h'=>by
    rw[cB] at h'
    by_cases he:c=a'
    ·subst he
     rw[List.getElem?_set_self (lt_of_some k1)] at h'
     have hij:i=j:=congrArg Prod.fst (Option.some.inj h')
     rw[←hij]
     exact Int.le_trans (Int.add_one_le_iff.2 hlt) k3
    ·rw[List.getElem?_set_ne he] at h';exact r.hp.cnt a' j h')
   have hag:Ag (fun k=>k=n) s (⟨s.t,⟨s.m.o,s.m.k,upd s.m.ns c (i,true)⟩,s.fr⟩:St U):=⟨fun _ _=>rfl,rfl,rfl,Am.aBT _ hns⟩
   exact⟨true,_,k2,lt_of_some hx,r1.set (x:= .l (.bool true)) k2,fun _=>h,fun h=>(by cases h),hag.put (fun k e=>by injection e with e;exact e.symm)⟩
  |false=>
   rw[hb] at h k2
   exact⟨false,_,k2,lt_of_some hx,r.set (x:= .l (.bool false)) k2,fun h=>(by cases h),fun _=>h,(Ag.refl s).put (fun k e=>by injection e with e;exact e.symm)⟩
 ·cases h
def Wr (al:List Oper)(o:Oper)(n:Nat):Prop:=o.dst=some n∨∃j b oj,o.guard=some (j,b)∧al[j]? =some oj∧oj.dst=some n
theorem bBq {al:List Oper}{j n:Nat}{oj:Oper}{b:Bool}(hj:al[j]? =some oj)(hd:oj.dst=some n)(hn:n<a.tmps.size)(hv:a.tmps.getD n undef= .bool b):yielded al.toArray a.tmps j=some b:=by
 have h2:a.tmps[n]? =some (.bool b):=by
  rw[Array.getD_eq_getD_getElem?,Array.getElem?_eq_getElem hn] at hv
  rw[Array.getElem?_eq_getElem hn];exact congrArg some hv
 simp[yielded,hj,hd,h2]
theorem bEq {al:List Oper}{j n:Nat}{oj:Oper}(hj:al[j]? =some oj)(hd:oj.dst=some n)(hn:n<a.tmps.size)(hv:a.tmps.getD n undef=undef):yielded al.toArray a.tmps j=none:=by
 have h2:a.tmps[n]? =some undef:=by
  rw[Array.getD_eq_getD_getElem?,Array.getElem?_eq_getElem hn] at hv
  rw[Array.getElem?_eq_getElem hn];exact congrArg some hv
 simp[yielded,hj,hd,h2,undef]
theorem Zt (r:bY C E s a w β){al:List Oper}{o:Oper}{run:St U→Option α}{K:St U→Option α}{z:α}(h:aYu al o run s K=some z):
  ∃s',bY C E s' a w β∧Ag (Wr al o) s s'∧((Region.wanted o (yielded al.toArray a.tmps)=true∧run s'=some z)∨(Region.wanted o (yielded al.toArray a.tmps)=false∧skp o s' K=some z)):=by
 unfold aYu at h
 split at h
 ·rename_i hg
  exact⟨s,r,Ag.refl s, .inl ⟨by simp[Region.wanted,hg],h⟩⟩
 ·rename_i j want hg
  rw[bC] at h
  split at h
  ·rename_i oj hj
   split at h
   ·rename_i n hd
    cases hu:bJj (nth s.t n) with
    |true=>
     rw[hu] at h
     rw[bC] at hu
     have hx:s.t[n]? =some (.l .und):=by
      cases hq:s.t[n]? with
      |none=>rw[hq] at hu;cases hu
      |some x=>
       rw[hq] at hu
       cases x with
       |l y=>cases y<;>first|rfl|cases hu
       |_=>cases hu
     have hv:a.tmps.getD n undef=undef:=r.tm n _ hx
     have hy:=bEq (a:=a) hj hd (by rw[r.tsz];exact lt_of_some hx) hv
     exact⟨s,r,Ag.refl s, .inr ⟨by simp[Region.wanted,hg,hy],h⟩⟩
    |false=>
     rw[hu] at h
     simp only[cond_false] at h
     obtain⟨b,s',k1,k2,k3,k4,k5,k6⟩:=aVo r h
     have hy:=bBq (a:=a) hj hd (by rw[r.tsz];exact k2) k1
     refine⟨s',k3,k6.mono (fun k e=>by subst e;exact .inr ⟨j,want,oj,hg,hj,hd⟩),?_⟩
     cases b with
     |true=>
      have h4:=k4 rfl
      cases want with
      |true=>exact .inl ⟨by simp[Region.wanted,hg,hy],h4⟩
      |false=>exact .inr ⟨by simp[Region.wanted,hg,hy],h4⟩
     |false=>
      have h5:=k5 rfl
      cases want with
      |true=>exact .inr ⟨by simp[Region.wanted,hg,hy],h5⟩
      |false=>exact .inl ⟨by simp[Region.wanted,hg,hy],h5⟩
   ·cases h
  ·cases h
theorem aD1 (r:bY C E s a w β){al:List Oper}{o:Oper}{K:St U→Option α}{z:α}(h:grd Y TI FZ al o s K=some z):
  ∃s',bY C E s' a w β∧Ag (Wr al o) s s'∧((Region.wanted o (yielded al.toArray a.tmps)=true∧one Y TI FZ o s' K=some z)∨(Region.wanted o (yielded al.toArray a.tmps)=false∧skp o s' K=some z)):=Zt r h
theorem aXf (G:Good P g Y TI FZ)(r:bY Y.C E s a w β){al:List Oper}{o:Oper}{K:St U→Option α}{z:α}(h:grd Y TI FZ al o s K=some z){K':Act→World→Prop}{Q:Exit→Act→World→Prop}
  (hk:∀s' a' w' β',Ag (Wr al o) s s'→K s'=some z→bY Y.C E s' a' w' β'→(Nat.ble (Bc FZ o.op) 1=true→Ext w w')→K' a' w'):if Region.wanted o (yielded al.toArray a.tmps)=true then o.wp P a w K' Q else K' (a.put o.dst undef) w:=by
 obtain⟨s1,r1,h1,h2⟩:=aD1 r h
 rcases h2 with⟨hw,h2⟩|⟨hw,h2⟩
 ·rw[if_pos hw]
  unfold one at h2
  obtain⟨x,s2,k1,k2,k3,k4,k5⟩:=aVn G r1 rfl h2
  exact k2 K' Q fun v w' β' q1 q2 q3=>hk _ _ w' β' (Ag.put ⟨fun n hn=>by rw[k3];exact h1.t n hn,by rw[k3];exact h1.tl,by rw[k4];exact h1.fr,h1.m.trans k5⟩ (fun n e=> .inl e)) k1 (q1.put q2) q3
 ·rw[if_neg (by rw[hw];simp)]
  exact hk _ _ w β (h1.put (fun n e=> .inl e)) h2 (r1.put (x:= .l .und) (v:=undef) (fun _=>rfl)) (fun _=>Ext.refl w)
theorem bIo (G:Good P g Y TI FZ)(r:bY Y.C E s a w β){al:List Oper}{o:Oper}(hc:Bc FZ o.op=0){K:St U→Option α}{z:α}(h:grd Y TI FZ al o s K=some z):
  ∃v s',((Region.wanted o (yielded al.toArray a.tmps)=true∧∀w',Ext w w'→(execOp a.eval o).run P w'= .ok (.value v) w')∨(Region.wanted o (yielded al.toArray a.tmps)=false∧v=undef))∧bY Y.C E s' (a.put o.dst v) w β∧K s'=some z∧Ag (Wr al o) s s':=by
 obtain⟨s1,r1,h1,h2⟩:=aD1 r h
 rcases h2 with⟨hw,h2⟩|⟨hw,h2⟩
 ·unfold one at h2
  obtain⟨x,s2,k1,⟨v,p1,p2,p3⟩,k3,k4,k5⟩:=aN4 G r1 rfl hc h2
  exact⟨v,_, .inl ⟨hw,p1⟩,p2.put (fun _=>p3),k1,Ag.put ⟨fun n hn=>by rw[k3];exact h1.t n hn,by rw[k3];exact h1.tl,by rw[k4];exact h1.fr,h1.m.trans k5⟩ (fun n e=> .inl e)⟩
 ·exact⟨undef,_, .inr ⟨hw,rfl⟩,r1.put (x:= .l .und) (v:=undef) (fun _=>rfl),h2,h1.put (fun n e=> .inl e)⟩
theorem Tt (G:Good P g Y TI FZ){al:List Oper}{Q:Exit→Act→World→Prop}{D:Nat→Prop}:∀(l:List Oper) (s:St U) (K:St U→Option α) (z:α),(∀o∈l,∀n,Wr al o n→D n)→ops Y TI FZ al l s K=some z→
  ∀(rest:List Oper),(∀s' a w β,Ag D s s'→K s'=some z→bY Y.C E s' a w β→wpList P al.toArray Q rest a w)→∀a w β,bY Y.C E s a w β→wpList P al.toArray Q (l++rest) a w
 |[],s,K,z,_,h,rest,hk,a,w,β,r=>hk s a w β (Ag.refl s) h r
 |o::l,s,K,z,hD,h,rest,hk,a,w,β,r=>by
  simp only[ops] at h
  refine wpList_step fun K' hK'=>aXf G r h fun s' a' w' β' q1 q2 q3 _=>hK' _ _ ?_
  have q1':=q1.mono (hD o (by simp))
  exact Tt G l s' K z (fun o ho=>hD o (by simp[ho])) q2 rest (fun s2 a2 w2 β2 p1 p2 p3=>hk s2 a2 w2 β2 (q1'.trans p1) p2 p3) a' w' β' q3
end
end Go.EV

namespace Go.EV
open Go.RowKit Go.VK
variable {U:Uni} {Y:Lay U} {TI:List (Nat×TInfo)} {FZ:List (Nat×Sum U)} {P:Program} {g:GI} {E:Env U g}
def Env.frm (E:Env U g)(l:List (World×Nat×Nat)):Env U g:=⟨E.X0,E.Y0,E.w0,E.prm,l,E.h0,E.hY,E.hXY,E.hg,E.pin⟩
section
variable {C:Cod U} {s:St U} {a:Act} {w w':World} {β:List Tr}
theorem bY.frame (r:bY C E s a w β)(hp:E.prm=[]):bY C (E.frm [(w,s.m.o.length,s.m.k)]) s a w β:=by
 have H:=r.hp
 refine⟨⟨H.ext,H.len,H.vers,H.cnt,H.new,H.dist,H.nd,H.ok,H.pin,fun x hx=> ?_,fun f hf=> ?_⟩,r.defers,r.tsz,r.tm⟩
 ·have hx':x∈E.prm:=hx
  rw[hp] at hx';simp at hx'
 ·have hf':f∈[(w,s.m.o.length,s.m.k)]:=hf
  simp at hf';subst hf'
  refine⟨Nat.le_refl _,Nat.le_refl _,Nat.le_refl _, .inr ⟨Ext.refl w,fun i t b hi ht _=> ?_⟩⟩
  have h1:=lt_of_some ht
  have h2:s.m.o.length≤i:=hi
  rw[H.len] at h1;omega
theorem bY.aBX {l:List (World×Nat×Nat)}(r:bY C (E.frm l) s a w β)(hE:E.fr=[]):bY C E s a w β:=by
 have H:=r.hp
 exact⟨⟨H.ext,H.len,H.vers,H.cnt,H.new,H.dist,H.nd,H.ok,H.pin,fun x hx=>by
  obtain⟨h1,h2,_,h4⟩:=H.prm x hx
  exact⟨h1,h2,by rw[hE];simp,h4⟩,by rw[hE];simp⟩,r.defers,r.tsz,r.tm⟩
theorem aZj:∀{n k:Nat} {o:List (EO U)},unt n k o=true→∀(j:Nat) (e:EO U),j<n→o[j]? =some e→e.cv≤k
 |0,_,_,_,j,_,h,_=>by omega
 |_+1,_,[],_,j,e,_,h=>by simp at h
 |n+1,k,x::o,h,j,e,hj,he=>by
  simp only[unt,Bool.and_eq_true] at h
  cases j with
  |zero=>have:=Option.some.inj he;subst this;exact Nat.le_of_ble_eq_true h.1
  |succ j=>exact aZj h.2 j e (by omega) (by simpa using he)
theorem bY.unt (r:bY C E s a w β){f:World×Nat×Nat}(hf:f∈E.fr)(h:unt f.2.1 f.2.2 s.m.o=true):Ext f.1 w:=by
 obtain⟨_,_,_,h3⟩:=r.hp.fr f hf
 rcases h3 with⟨j,e,h1,h2,h3⟩|⟨h3,_⟩
 ·have:=aZj h j e h1 h2;omega
 ·exact h3
def Env.ahd (E:Env U g)(b:Nat)(blk:Obj)(hb:E.w0.heap.size≤b):Env U g:=
 ⟨fun b'=>E.X0 b'∨b'=b,E.Y0,E.w0,(b,blk)::E.prm,E.fr,fun b' h=>by
  rcases h with h|rfl
  ·rcases E.h0 b' h with h|⟨x,hx,e⟩
   ·exact .inl h
   ·exact .inr ⟨x,by simp[hx],e⟩
  ·exact .inr ⟨(b',blk),List.mem_cons_self,rfl⟩,E.hY,fun b' h hy=>by
  rcases h with h|rfl
  ·exact E.hXY b' h hy
  ·have:=E.hY _ hy;omega,E.hg,E.pin⟩
theorem bJr {b:Nat}{blk:Obj}{hb:E.w0.heap.size≤b}{β:List Tr}{b':Nat}:(E.ahd b blk hb).X β b'↔E.X β b'∨b'=b:=by
 unfold Env.X
 constructor
 ·rintro((h|h)|h|h)
  ·exact .inl (.inl h)
  ·exact .inr h
  ·exact .inl (.inr (.inl h))
  ·exact .inl (.inr (.inr h))
 ·rintro((h|h|h)|h)
  ·exact .inl (.inl h)
  ·exact .inr (.inl h)
  ·exact .inr (.inr h)
  ·exact .inl (.inr h)
theorem bY.ahead (r:bY C E s a w β){blk:Obj}(hb:E.w0.heap.size≤w.heap.size):bY C (E.ahd w.heap.size blk hb) s a (w.alloc blk) β:=by
 have H:=r.hp
 have he:Ext w (w.alloc blk):=Ext.alloc _ _
 have hbs:(w.alloc blk).heap[w.heap.size]? =some blk:=by show(w.heap.push blk)[w.heap.size]? =some blk;simp
 have ev:Evo w (w.alloc blk) (E.X β) ((E.ahd w.heap.size blk hb).X β) β β s.m s.m s.m.o.length s.m.ns.length s.m.k:=⟨he.size,fun b hb' h=>(bJr.1 h).resolve_right (by omega),fun _ _ _ h=>he.cell h,Nat.le_refl _,fun a i f _ h=>⟨f,h⟩,fun i e t _ h1 h2=>⟨e,t,h1,h2,fun _=>⟨rfl,rfl⟩,fun _=>⟨rfl,rfl,rfl,fun b hb=>he.block b (H.new i t b h2 hb).2⟩,fun h=>⟨h,rfl⟩⟩⟩
 refine⟨⟨H.ext.trans (Bel.aBS he),H.len,H.vers,H.cnt,fun i t b h1 h2=>⟨(H.new i t b h1 h2).1,Nat.lt_of_lt_of_le (H.new i t b h1 h2).2 he.size⟩,H.dist,H.nd,fun i t e h1 h2=>Ob.aBJ ev (H.ok i t e h1 h2) fun b hb=>he.block b (H.new i t b h1 hb).2,fun x hx=>Sv.aAV ev (H.pin x hx),fun x hx=> ?_,fun f hf=> ?_⟩,r.defers,r.tsz,fun n x hx=>Sv.aAV ev (r.tm n x hx)⟩
 ·have hx':x∈(w.heap.size,blk)::E.prm:=hx
  rcases List.mem_cons.1 hx' with rfl|hx'
  ·refine⟨hb,hbs,fun f hf=> ?_,fun i t ht hm=> ?_⟩
   ·exact(H.fr f hf).2.2.1
   ·have:=(H.new i t _ ht hm).2;omega
  ·obtain⟨h1,h2,h3,h4⟩:=H.prm x hx'
   exact⟨h1,(he.block _ (Array.getElem?_eq_some_iff.1 h2).1).trans h2,h3,h4⟩
 ·obtain⟨h1,h2,h0,h3⟩:=H.fr f hf
  exact⟨h1,h2,Nat.le_trans h0 he.size,h3.imp id fun q=>⟨q.1.trans he,q.2⟩⟩
theorem bY.aBY {b:Nat}{blk:Obj}{hb:E.w0.heap.size≤b}(r:bY C (E.ahd b blk hb) s a w β)(hP:E.prm=[]){e':EO U}{t':Tr}{k':Nat}(hk:s.m.k≤k')(hv:e'.rv≤k'∧e'.cv≤k')(ht:t'.all=[b])
  (hok:Evo w w ((E.ahd b blk hb).X β) (E.X (β++[t'])) β (β++[t']) s.m ⟨s.m.o++[e'],k',s.m.ns⟩ s.m.o.length s.m.ns.length s.m.k→w.heap[b]? =some blk→e'.ob.ok C w (E.X (β++[t'])) (β++[t']) ⟨s.m.o++[e'],k',s.m.ns⟩ t'):
  bY C E ⟨s.t,⟨s.m.o++[e'],k',s.m.ns⟩,s.fr⟩ a w (β++[t']):=by
 have H:=r.hp
 have hlen:=H.len
 obtain⟨_,p2,p3,p4⟩:=H.prm (b,blk) List.mem_cons_self
 have hbl:b<w.heap.size:=(Array.getElem?_eq_some_iff.1 p2).1
 have ev:Evo w w ((E.ahd b blk hb).X β) (E.X (β++[t'])) β (β++[t']) s.m ⟨s.m.o++[e'],k',s.m.ns⟩ s.m.o.length s.m.ns.length s.m.k:=by
  refine⟨Nat.le_refl _,fun b' _ h=>bJr.2 ?_,fun _ _ _ h=>h,hk,fun a i f _ h=>⟨f,h⟩,fun i e t hi he ht'=>⟨e,t,?_,?_,fun _=>⟨rfl,rfl⟩,fun _=>⟨rfl,rfl,rfl,fun _ _=>rfl⟩,fun h=>⟨h,rfl⟩⟩⟩
  ·rcases h with h|h|⟨u,hu,hm⟩
   ·exact .inl (.inl h)
   ·exact .inl (.inr (.inl h))
   ·rcases List.mem_append.1 hu with hu|hu
    ·exact .inl (.inr (.inr ⟨u,hu,hm⟩))
    ·simp at hu;subst hu;rw[ht] at hm;simp at hm;exact .inr hm
  ·exact(List.getElem?_append_left hi).trans he
  ·exact(List.getElem?_append_left (lt_of_some ht')).trans ht'
 have hb':∀(i:Nat) (t:Tr),(β++[t'])[i]? =some t→β[i]? =some t∨(i=β.length∧t=t'):=fun i t h=>by
  by_cases hi:i<β.length
  ·rw[List.getElem?_append_left hi] at h;exact .inl h
  ·have:=lt_of_some h
   simp at this
   have e:i=β.length:=by omega
   subst e;simp at h;exact .inr ⟨rfl,h.symm⟩
 have ho':∀(i:Nat) (e:EO U),(s.m.o++[e'])[i]? =some e→s.m.o[i]? =some e∨(i=s.m.o.length∧e=e'):=fun i e h=>by
  by_cases hi:i<s.m.o.length
  ·rw[List.getElem?_append_left hi] at h;exact .inl h
  ·have:=lt_of_some h
   simp at this
   have e1:i=s.m.o.length:=by omega
   subst e1;simp at h;exact .inr ⟨rfl,h.symm⟩
 refine⟨⟨H.ext,by simp[hlen],fun i e he=> ?_,H.cnt,fun i t x h1 h2=> ?_,fun i j t u x hij h1 h2 h3 h4=> ?_,fun i t h1=> ?_,fun i t e h1 h2=> ?_,fun x hx=>Sv.aAV ev (H.pin x hx),fun x hx=>by rw[hP] at hx;simp at hx,fun f hf=> ?_⟩,r.defers,r.tsz,fun n x hx=>Sv.aAV ev (r.tm n x hx)⟩
 ·rcases ho' i e he with h|⟨_,rfl⟩
  ·have:=H.vers i e h;exact⟨Nat.le_trans this.1 hk,Nat.le_trans this.2 hk⟩
  ·exact hv
 ·rcases hb' i t h1 with h|⟨_,rfl⟩
  ·exact H.new i t x h h2
  ·rw[ht] at h2;simp at h2;subst h2;exact⟨.inl hb,hbl⟩
 ·rcases hb' i t h1 with h|⟨ei,rfl⟩<;>rcases hb' j u h2 with h'|⟨ej,rfl⟩
  ·exact H.dist i j t u x hij h h' h3 h4
  ·rw[ht] at h4;simp at h4;subst h4;exact p4 i t h h3
  ·rw[ht] at h3;simp at h3;subst h3;exact p4 j u h' h4
  ·exact hij (ei.trans ej.symm)
 ·rcases hb' i t h1 with h|⟨_,rfl⟩
  ·exact H.nd i t h
  ·rw[ht];simp
 ·rcases hb' i t h1 with h|⟨ei,rfl⟩
  ·rcases ho' i e h2 with h'|⟨ei,_⟩
   ·exact Ob.aBJ ev (H.ok i t e h h') fun _ _=>rfl
   ·have:=lt_of_some h;rw[hlen] at this;omega
  ·rcases ho' i e h2 with h'|⟨_,rfl⟩
   ·have:=lt_of_some h';rw[hlen] at ei;omega
   ·exact hok ev p2
 ·obtain⟨h1,h2,h0,h3⟩:=H.fr f hf
  refine⟨by simp;omega,Nat.le_trans h2 hk,h0,?_⟩
  rcases h3 with⟨j,e,q1,q2,q3⟩|⟨q1,q2⟩
  ·exact .inl ⟨j,e,q1,(List.getElem?_append_left (lt_of_some q2)).trans q2,q3⟩
  ·refine .inr ⟨q1,fun i t x hi h1 hx=> ?_⟩
   rcases hb' i t h1 with h|⟨_,rfl⟩
   ·exact q2 i t x hi h hx
   ·rw[ht] at hx;simp at hx;subst hx;exact p3 f hf
def mkF (op:Op)(b:Nat):Value:=match op with
 | .buildSlice _ n _=> .slice (some ⟨b,0,none⟩) n n
 |_=> .pointer (some ⟨b,0,none⟩)
def Flp (P:Program)(a:Act)(o:Oper)(blk:Obj):Prop:=∀w:World,(execOp a.eval o).run P w= .ok (.value (mkF o.op w.heap.size)) (w.alloc blk)
theorem bBr {γ:Type}{x:Option γ}(h:(!aNn x)=true):∃y,x=some y:=by
 cases x with
 |none=>cases h
 |some y=>exact⟨y,rfl⟩
theorem aN5 (hTI:Ao P TI=true){o:Oper}{T:TypeId}{i:TInfo}(ho:o.op= .alloc T)(hf:mE TI T=some i):∃vs:Array Value,Flp P a o (.cells vs T)∧∀(w:World) (X:Nat→Prop) (β:List Tr) (m:Mm U),Ms Y.C w X β m vs.toList (i.z.map Kz.lf):=by
 obtain⟨j,z,k3,k4,k5⟩:=aMv (dM hTI hf)
 refine⟨z.cells,fun w=> ?_,fun w X β m=>Nl k5⟩
 simp[execOp,ho,Instr.alloc,zeroValue,typeInfo,k3,k4,newVar,newRow,mkF]
theorem aI9 {T:TypeId}(h:aNo Y TI s (.alloc T)=true):∃i,mE TI T=some i:=bBr h
theorem aJa {t:TypeId}{n:Nat}{ps:Array (Nat×Operand)}(h:aNo Y TI s (.buildSlice t n ps)=true):∃e ek eb k zz l d,mE TI t=some ⟨.sl e ek eb,k,zz⟩∧ps.toList.length=n∧n*ek≤16777216∧okE (U:=U) e ek e=true∧Yg Y s e 0 ps.toList=some (l,[],d):=by
 unfold aNo at h
 simp only at h
 split at h
 ·rename_i e ek eb k zz h1
  simp only[Bool.and_eq_true,dA] at h
  obtain⟨q1,q2,q3,q4⟩:=h
  split at q4
  ·rename_i l d h5
   exact⟨e,ek,eb,k,zz,l,d,h1,Nat.eq_of_beq_eq_true q1,Nat.le_of_ble_eq_true q2,q3,h5⟩
  ·cases q4
 ·cases h
theorem aVp (hTI:Ao P TI=true)(hY:LayOk Y)(r:bY Y.C E s a w β){o:Oper}{t:TypeId}{n e ek eb k:Nat}{zz:List Kz}{ps:Array (Nat×Operand)}{l:List (U.El e)}{d:Bool}(ho:o.op= .buildSlice t n ps)
  (h1:mE TI t=some ⟨.sl e ek eb,k,zz⟩) (h2:ps.toList.length=n) (h3:n*ek≤16777216) (h4:okE (U:=U) e ek e=true) (h5:Yg Y s e 0 ps.toList=some (l,[],d)):
  ∃cells:Array Value,Flp P a o (.cells cells e)∧0<U.K e∧n≤maxLen∧l.length=n∧cells.size=n*U.K e∧OwL Y.C w (E.X β) d cells.toList (l.map (Y.C.cel e)).flatten []:=by
 have hsl:=(Nk (dM hTI h1) rfl).1
 obtain⟨_,_,_,_,_,_,_,_,hk0⟩:=iG hsl
 simp only[okE,Bool.and_eq_true] at h4
 have hKe:U.K e=ek:=Nat.eq_of_beq_eq_true h4.2
 obtain⟨vs,k1,k2,k3,k4,k5⟩:=Zq hY r h5
 rw[hKe] at k4
 have hnm:n≤maxLen:=by
  have:n*1≤n*ek:=Nat.mul_le_mul_left _ hk0
  unfold maxLen;omega
 refine⟨(vs.map fun v=>v.cells.toList).flatten.toArray,fun w=> ?_,by rw[hKe];exact hk0,hnm,k3.trans h2,?_,by rw[List.toList_toArray];exact k5⟩
 ·obtain⟨cells,q1,q2⟩:=aNz (w:=w) hsl (k2.trans h2) h3 k1 k4 ho
  have:cells=(vs.map fun v=>v.cells.toList).flatten.toArray:=by rw[←q2]
  rw[q1,←this];simp only[mkF,ho]
 ·have:=k5.len
  rw[X3 (Y.C.hlen e),k3,h2] at this
  simpa using this
theorem bEr (G:Good P g Y TI FZ)(r:bY Y.C E s a w β){o:Oper}(h:aNo Y TI s o.op=true):∃blk,Flp P a o blk:=by
 cases ho:o.op with
 |alloc T=>
  rw[ho] at h
  obtain⟨i,hf⟩:=aI9 h
  obtain⟨vs,k,_⟩:=aN5 (Y:=Y) (a:=a) G.ti ho hf
  exact⟨_,k⟩
 |buildSlice t n ps=>
  rw[ho] at h
  obtain⟨e,ek,eb,k,zz,l,d,h1,h2,h3,h4,h5⟩:=aJa h
  obtain⟨cells,q,_⟩:=aVp G.ti G.lay r ho h1 h2 h3 h4 h5
  exact⟨_,q⟩
 |_=>rw[ho] at h;cases h
theorem Flp.keep {o:Oper}{blk:Obj}(h:Flp P a o blk){d:Option Nat}{v:Value}(hd:bFz o d=true):Flp P (a.put d v) o blk:=by
 have e:execOp (a.put d v).eval o=execOp a.eval o:=by
  cases d with
  |none=>rfl
  |some n=>
   have hd2:(match o.op with
    | .alloc _=>true
    | .buildSlice _ _ ps=>ps.toList.all fun x=>match x.2 with| .tmp m=> !Nat.beq n m|_=>true
    |_=>false)=true:=hd
   cases ho:o.op with
   |alloc T=>simp only[execOp,ho]
   |buildSlice t m ps=>
    rw[ho] at hd2
    simp only[List.all_eq_true] at hd2
    have:ps.map (fun(i,x)=>(i,(a.put (some n) v).eval x))=ps.map (fun(i,x)=>(i,a.eval x)):=by
     apply Array.map_congr_left
     intro x hx
     have:=hd2 x (by simpa using hx)
     obtain⟨i,x⟩:=x
     simp only[Prod.mk.injEq,true_and]
     refine Act.eval_put fun d hd hxd=> ?_
     have hd':=Option.some.inj hd
     subst hd';subst hxd
     simp at this
    simp only[execOp,ho,this]
   |_=>rw[ho] at hd2;cases hd2
 intro w
 rw[e];exact h w
theorem bEs {w:World}{x y:Obj}(h:w.alloc x=w.alloc y):x=y:=by
 have h1:w.heap.push x=w.heap.push y:=congrArg World.heap h
 have h2:(w.heap.push x)[w.heap.size]? =(w.heap.push y)[w.heap.size]? :=by rw[h1]
 simpa using h2
theorem Flp.inj {o:Oper}{x y:Obj}(w:World)(h1:Flp P a o x)(h2:Flp P a o y):x=y:=by
 have:=(h1 w).symm.trans (h2 w)
 injection this with _ h
 exact bEs h
theorem bEt (G:Good P g Y TI FZ){b:Nat}{blk:Obj}{hb:E.w0.heap.size≤b}(r:bY Y.C (E.ahd b blk hb) s a w β)(hP:E.prm=[]){o:Oper}(hf:Flp P a o blk)(hg:aNo Y TI s o.op=true){α:Type}{K:Sv U→St U→Option α}{z:α}(h:stp Y TI FZ s o.op K=some z):
  ∃x s' β',K x s'=some z∧bY Y.C E s' a w β'∧x.mean Y.C w (E.X β') β' s'.m (mkF o.op b)∧s'.t=s.t∧s'.fr=s.fr∧Am s.m s'.m:=by
 have hlen:=r.hp.len
 cases ho:o.op with
 |alloc T=>
  rw[ho] at hg h
  obtain⟨i,hi⟩:=aI9 hg
  obtain⟨vs,k,hM⟩:=aN5 (Y:=Y) (a:=a) G.ti ho hi
  have hblk:=hf.inj w k
  subst hblk
  have h':K (.l (.box (len s.m.o) 0)) (psh s (.box T (i.z.map Kz.lf) (i.z.map fun _=>s.m.k)))=some z:=by
   have:stp Y TI FZ s (.alloc T) K=match mE TI T with
    |some i=>K (.l (.box (len s.m.o) 0)) (psh s (.box T (i.z.map Kz.lf) (i.z.map fun _=>s.m.k)))
    |none=>none:=rfl
   rw[this,hi] at h;exact h
  have r':=r.aBY hP (e':=⟨.box T (i.z.map Kz.lf) (i.z.map fun _=>s.m.k),s.m.k,s.m.k⟩) (t':=⟨some b,0,0,[]⟩) (Nat.le_refl _) ⟨Nat.le_refl _,Nat.le_refl _⟩ rfl (fun hev hbk=>⟨by simp,b,vs.toList,rfl,rfl,by simpa using hbk,hM _ _ _ _⟩)
  refine⟨_,_,_,h',r',⟨rfl,⟨.box T (i.z.map Kz.lf) (i.z.map fun _=>s.m.k),s.m.k,s.m.k⟩,⟨some b,0,0,[]⟩,?_,?_,fun _=>⟨_,rfl,rfl⟩⟩,rfl,rfl,Am.add _ _⟩
  ·simp[psh,dA]
  ·rw[List.getElem?_append_right (by rw[hlen,dA];exact Nat.le_refl _),hlen,dA];simp
 |buildSlice t n ps=>
  rw[ho] at hg h
  obtain⟨e,ek,eb,k,zz,l,d,h1,h2,h3,h4,h5⟩:=aJa hg
  obtain⟨cells,q1,q2,q3,q4,q5,q6⟩:=aVp G.ti G.lay r ho h1 h2 h3 h4 h5
  have hblk:=hf.inj w q1
  subst hblk
  have hst:∀o':List (EO U),o'=s.m.o++[(⟨.tree e d l,s.m.k,Nat.succ s.m.k⟩:EO U)]→K (.l (.own (len s.m.o) s.m.k)) ⟨s.t,⟨o',Nat.succ s.m.k,s.m.ns⟩,s.fr⟩=some z:=fun o' ho'=>by
   have:stp Y TI FZ s (.buildSlice t n ps) K=bif Nat.beq (len ps.toList) n&&(Nat.ble (n*ek) 16777216&&okE (U:=U) e ek e) then(bif dist (len s.m.o::[]) then K (.l (.own (len s.m.o) s.m.k)) ⟨s.t,⟨upd (s.m.o++[⟨.dead,s.m.k,s.m.k⟩]) (len s.m.o) ⟨.tree e d l,s.m.k,Nat.succ s.m.k⟩,Nat.succ s.m.k,s.m.ns⟩,s.fr⟩ else none) else none:=by
    show(match mE TI t with
     |some ⟨.sl e ek _,_,_⟩=>_
     |_=>none)=_
    rw[h1]
    simp only
    rw[h5]
    rfl
   rw[this,dA,h2] at h
   rw[show Nat.beq n n=true from Nat.beq_refl n,Nat.ble_eq_true_of_le h3,h4] at h
   simp only[Bool.and_self,cond_true] at h
   have hd:dist [len s.m.o]=true:=rfl
   rw[hd] at h
   simp only[cond_true] at h
   rw[cB,dA,List.set_append_right _ _ (Nat.le_refl _),Nat.sub_self] at h
   rw[ho',dA];exact h
  have r':=r.aBY hP (e':=⟨.tree e d l,s.m.k,Nat.succ s.m.k⟩) (t':=⟨some b,n,n,[]⟩) (Nat.le_succ _) ⟨Nat.le_succ _,Nat.le_refl _⟩ rfl (fun hev hbk=>by
   refine⟨q2,cells.toList,?_,q6.conv (Nat.le_refl _) hev.hX (fun _ _ _ h=>h) (by simp)⟩
   exact⟨by rw[q4,Array.length_toList,q5], .inr ⟨b,n,cells,by rw[q4];rfl,Nat.zero_le _,hbk,by rw[q4];exact Nat.le_refl _,q3,q5,by rw[q4];exact List.take_of_length_le (by rw[Array.length_toList,q5];exact Nat.le_refl _)⟩⟩)
  refine⟨_,_,_,hst _ rfl,r',⟨⟨Nat.le_succ _,rfl⟩,⟨.tree e d l,s.m.k,Nat.succ s.m.k⟩,⟨some b,n,n,[]⟩,?_,?_,fun _=>rfl⟩,rfl,rfl,?_⟩
  ·simp[dA]
  ·rw[List.getElem?_append_right (by rw[hlen,dA];exact Nat.le_refl _),hlen,dA];simp
  ·have a1:=(Am.add s.m [(⟨.dead,s.m.k,s.m.k⟩:EO U)]).trans (Am.tree (ids:=[]) (i:=len s.m.o) (τ:=e) (d:=d) (l:=l) (rv:=s.m.k) _)
   have e1:(⟨U9 (Nat.succ s.m.k) [] (upd (s.m.o++[(⟨.dead,s.m.k,s.m.k⟩:EO U)]) (len s.m.o) ⟨.tree e d l,s.m.k,Nat.succ s.m.k⟩),Nat.succ s.m.k,s.m.ns⟩:Mm U)=⟨s.m.o++[⟨.tree e d l,s.m.k,Nat.succ s.m.k⟩],Nat.succ s.m.k,s.m.ns⟩:=by
    rw[cB,dA,List.set_append_right _ _ (Nat.le_refl _),Nat.sub_self];rfl
   exact e1▸a1
 |_=>rw[ho] at hg;cases hg
end
end Go.EV

namespace Go.EV
open Go.RowKit Go.VK
variable {U:Uni} {C:Cod U} {P:Program} {g:GI} {E:Env U g}
def Ob.bd (N M K:Nat):Ob U→Prop
 | .box _ cs _=>∀c∈cs,c.bd N M K
 |_=>True
def jH (β:List Tr):Option Nat→Tr
 |some i=>match β[i]? with|some t=>t|none=>Zp
 |none=>Zp
inductive Src (N M K:Nat) (m:Mm U) (q:Option Nat) (j:Nat) (e':EO U):Prop
 |keep (hq:q=some j) (he:m.o[j]? =some e') (hb:e'.ob.bd N M K)
 |box (hq:q=some j) {e:EO U} {T:Nat} {cs cs':List (Lf U)} {vs vs':List Nat} (he:m.o[j]? =some e) (h1:e.ob= .box T cs vs) (h2:e'.ob= .box T cs' vs') (l1:cs'.length=cs.length) (l2:cs'.length=vs'.length) (hc:∀(i:Nat) (c:Lf U),cs'[i]? =some c→c= .any∨(cs[i]? =some c∧c.bd N M K)) (hv:K<e'.rv∧K<e'.cv)
 |dead (h:e'.ob= .dead) (hv:K<e'.rv∧K<e'.cv)
 |tree {i:Nat} {e:EO U} {τ:Nat} {d d':Bool} {l:List (U.El τ)} (hq:q=some i) (he:m.o[i]? =some e) (h1:e.ob= .tree τ d' l) (hd:d=true→d'=true) (h2:e'.ob= .tree τ d l) (hv:K<e'.rv∧K<e'.cv)
 |ti {e:EO U} {τ:Nat} {d d':Bool} {l:List (U.El τ)} (hq:q=some j) (he:m.o[j]? =some e) (h1:e.ob= .tree τ d' l) (hd:d=true→d'=true) (h2:e'.ob= .tree τ d l) (hr:e'.rv=e.rv) (hv:K<e'.cv)
 |nil {τ:Nat} {d:Bool} (hq:q=none) (h2:e'.ob= .tree τ d []) (hK:0<U.K τ) (hv:K<e'.rv∧K<e'.cv)
section
variable {m m':Mm U} {w:World} {β:List Tr} {σ:List (Option Nat)} {N M K:Nat}
theorem Y4 {q:Option Nat}{b:Nat}(h:b∈(jH β q).all):∃i t,q=some i∧β[i]? =some t∧jH β q=t:=by
 cases q with
 |none=>simp[jH,mI] at h
 |some i=>
  cases hb:β[i]? with
  |none=>simp[jH,hb,mI] at h
  |some t=>exact⟨i,t,rfl,hb,by simp[jH,hb]⟩
theorem Hp.ren (H:Hp C E m β w)(hl:σ.length=m'.o.length)(hN:N≤m'.o.length)(hinj:∀(j j' i:Nat),σ[j]? =some (some i)→σ[j']? =some (some i)→j=j')(hk:K≤m'.k)
  (hver:∀(i:Nat) (e:EO U),m'.o[i]? =some e→e.rv≤m'.k∧e.cv≤m'.k) (hcnt:∀(a i:Nat),m'.ns[a]? =some (i,true)→(i:Int)+1≤9223372036854775807)
  (hn:∀(a i:Nat) (f:Bool),a<M→m.ns[a]? =some (i,f)→∃f',m'.ns[a]? =some (i,f'))
  (hs:∀(j:Nat) (q:Option Nat) (e':EO U),σ[j]? =some q→m'.o[j]? =some e'→Src N M K m q j e') (hpin:∀x∈E.pin,x.1.bd N M K) (hfr:E.fr=[]):
  Hp C E m' (σ.map (jH β)) w∧Evo w w (E.X β) (E.X (σ.map (jH β))) β (σ.map (jH β)) m m' N M K:=by
 have hget:∀(j:Nat) (t:Tr),(σ.map (jH β))[j]? =some t→∃q,σ[j]? =some q∧t=jH β q:=fun j t h=>by
  rw[List.getElem?_map] at h
  cases hq:σ[j]? with
  |none=>simp[hq] at h
  |some q=>simp only[hq,Option.map_some,Option.some.injEq] at h;exact⟨q,rfl,h.symm⟩
 have hX:∀b,E.X (σ.map (jH β)) b→E.X β b:=by
  rintro b (h|h|⟨t,ht,hb⟩)
  ·exact .inl h
  ·exact .inr (.inl h)
  ·obtain⟨q,_,rfl⟩:=List.mem_map.1 ht
   obtain⟨i,t,_,h2,h3⟩:=Y4 hb
   rw[h3] at hb
   exact .inr (.inr ⟨t,List.mem_of_getElem? h2,hb⟩)
 have hev:Evo w w (E.X β) (E.X (σ.map (jH β))) β (σ.map (jH β)) m m' N M K:=by
  refine⟨Nat.le_refl _,fun b _=>hX b,fun _ _ _ h=>h,hk,fun a i f ha h=>hn a i f ha h,fun i e t hi he ht=> ?_⟩
  have hi':i<m'.o.length:=Nat.lt_of_lt_of_le hi hN
  have h1:m'.o[i]? =some m'.o[i]:=List.getElem?_eq_getElem hi'
  have h2:σ[i]? =some (σ[i]'(by omega)):=List.getElem?_eq_getElem _
  have h3:(σ.map (jH β))[i]? =some (jH β (σ[i]'(by omega))):=by rw[List.getElem?_map,h2];rfl
  refine⟨_,_,h1,h3,?_⟩
  have hsr:=hs i _ _ h2 h1
  have big:K<(m'.o[i]).rv∧K<(m'.o[i]).cv→(m'.o[i]).ob.aAT=false→((m'.o[i]).rv≤K→(m'.o[i]).rv=e.rv∧(jH β (σ[i]'(by omega))).val=t.val)∧((m'.o[i]).cv≤K→(m'.o[i]).cv=e.cv∧(m'.o[i]).ob=e.ob∧jH β (σ[i]'(by omega))=t∧∀b∈t.all,w.heap[b]? =w.heap[b]?)∧((m'.o[i]).ob.aAT=true→e.ob.aAT=true∧(jH β (σ[i]'(by omega))).b=t.b):=fun hv hb=>
   ⟨fun h=>absurd h (by omega),fun h=>absurd h (by omega),fun h=>by rw[hb] at h;cases h⟩
  cases hsr with
  |keep hq he' hb=>
   rw[he] at he'
   have e0:e=m'.o[i]:=Option.some.inj he'
   have e1:jH β (σ[i]'(by omega))=t:=by rw[hq];simp[jH,ht]
   rw[e1,←e0]
   exact⟨fun _=>⟨rfl,rfl⟩,fun _=>⟨rfl,rfl,rfl,fun _ _=>rfl⟩,fun h=>⟨h,rfl⟩⟩
  |box hq he' q1 q2 _ _ _ hv=>
   rw[he] at he'
   have e0:=Option.some.inj he'
   have e1:jH β (σ[i]'(by omega))=t:=by rw[hq];simp[jH,ht]
   rw[e1]
   refine⟨fun h=>absurd h (by omega),fun h=>absurd h (by omega),fun _=>⟨?_,rfl⟩⟩
   rw[e0,q1];rfl
  |dead h hv=>exact big hv (by rw[h];rfl)
  |tree _ _ _ _ h hv=>exact big hv (by rw[h];rfl)
  |ti hq he' _ _ h hr hv=>
   rw[he] at he'
   have e0:=Option.some.inj he'
   have e1:jH β (σ[i]'(by omega))=t:=by rw[hq];simp[jH,ht]
   rw[e1,e0]
   exact⟨fun _=>⟨hr,rfl⟩,fun h=>absurd h (by omega),fun hb=>by rw[h] at hb;cases hb⟩
  |nil _ h _ hv=>exact big hv (by rw[h];rfl)
 refine⟨⟨H.ext,by rw[List.length_map,hl],hver,hcnt,?_,?_,?_,?_,fun x hx=>Sv.aAU hev (hpin x hx) (H.pin x hx),fun x hx=> ?_,fun f hf=>by rw[hfr] at hf;simp at hf⟩,hev⟩
 ·intro j t b ht hb
  obtain⟨q,_,rfl⟩:=hget j t ht
  obtain⟨i,t,_,h2,h3⟩:=Y4 hb
  rw[h3] at hb
  exact H.new i t b h2 hb
 ·intro j j' t u b hjj ht hu hb hub
  obtain⟨q,hq,rfl⟩:=hget j t ht
  obtain⟨q',hq',rfl⟩:=hget j' u hu
  obtain⟨i,t,e1,h2,h3⟩:=Y4 hb
  obtain⟨i',t',e1',h2',h3'⟩:=Y4 hub
  rw[h3] at hb;rw[h3'] at hub
  refine H.dist i i' t t' b (fun e=>hjj ?_) h2 h2' hb hub
  subst e;subst e1;subst e1'
  exact hinj j j' i hq hq'
 ·intro j t ht
  obtain⟨q,hq,rfl⟩:=hget j t ht
  cases q with
  |none=>rw[show jH β none=Zp from rfl,mI];exact List.nodup_nil
  |some i=>
   cases hb:β[i]? with
   |none=>simp[jH,hb,mI]
   |some t=>simp only[jH,hb];exact H.nd i t hb
 ·intro j t e' ht he'
  obtain⟨q,hq,rfl⟩:=hget j t ht
  cases hs j q e' hq he' with
  |keep hq he hb=>
   subst hq
   obtain⟨t,ht⟩:=H.tr he
   simp only[jH,ht]
   have hok:=H.ok j t e' ht he
   generalize e'.ob=x at hok hb ⊢
   cases x with
   |dead=>trivial
   |box T cs us=>
    obtain⟨h0,b,vs,h1,h2,h3,h4⟩:=hok
    exact⟨h0,b,vs,h1,h2,h3,h4.evo hev hb⟩
   |tree τ d l=>
    obtain⟨h1,xs,h2,h3⟩:=hok
    exact⟨h1,xs,h2,h3.conv (Nat.le_refl _) (fun b _=>hX b) (fun _ _ _ h=>h) (fun _ _=>rfl)⟩
  |box hq he h1 h2 l1 l2 hc hv=>
   subst hq
   obtain⟨t,ht⟩:=H.tr he
   simp only[jH,ht]
   have hok:=H.ok j t _ ht he
   rw[h1] at hok
   rw[h2]
   obtain⟨h0,b,vs,k1,k2,k3,k4⟩:=hok
   refine⟨l2,b,vs,k1,k2,k3,by rw[k4.1,l1],fun i v c hv hc'=> ?_⟩
   rcases hc i c hc' with rfl|⟨hc1,hc2⟩
   ·trivial
   ·exact Lf.aAU hev hc2 (k4.2 i v c hv hc1)
  |dead h hv=>rw[h];trivial
  |tree hq he h1 hd h2 hv=>
   subst hq
   obtain⟨t,ht⟩:=H.tr he
   simp only[jH,ht]
   have hok:=H.ok _ t _ ht he
   rw[h1] at hok
   rw[h2]
   obtain⟨k1,xs,k2,k3⟩:=hok
   exact⟨k1,xs,k2,(k3.fl hd).conv (Nat.le_refl _) (fun b _=>hX b) (fun _ _ _ h=>h) (fun _ _=>rfl)⟩
  |ti hq he h1 hd h2 hr hv=>
   subst hq
   obtain⟨t,ht⟩:=H.tr he
   simp only[jH,ht]
   have hok:=H.ok _ t _ ht he
   rw[h1] at hok
   rw[h2]
   obtain⟨k1,xs,k2,k3⟩:=hok
   exact⟨k1,xs,k2,(k3.fl hd).conv (Nat.le_refl _) (fun b _=>hX b) (fun _ _ _ h=>h) (fun _ _=>rfl)⟩
  |nil hq h2 hK hv=>
   subst hq
   rw[h2]
   exact⟨hK,[],World.ownsRow_nil w 0 _ _, .n⟩
 ·obtain⟨h1,h2,h3,h4⟩:=H.prm x hx
  refine⟨h1,h2,h3,fun j t ht hb=> ?_⟩
  obtain⟨q,_,rfl⟩:=hget j t ht
  obtain⟨i,t,_,q2,q3⟩:=Y4 hb
  rw[q3] at hb
  exact h4 i t q2 hb
end
end Go.EV

namespace Go.EV
open Go.RowKit Go.VK
variable {U:Uni} {Y:Lay U} {P:Program} {g:GI} {E:Env U g}
def Dhd:{x:DI}→{xs:List DI}→Dat U (x::xs)→x.ty U
 |_,[],d=>d
 |_,_::_,d=>d.1
def Dtl:{x:DI}→{xs:List DI}→Dat U (x::xs)→Dat U xs
 |_,[],_=>()
 |_,_::_,d=>d.2
theorem kG {s:St U}{x:DI}{xs:List DI}{d:Dat U (x::xs)}(h:gets Y s (x::xs)=some d):aWx Y s x=some (Dhd d)∧gets Y s xs=some (Dtl d):=by
 cases xs with
 |nil=>exact⟨h,rfl⟩
 |cons x' xs=>
  simp only[gets] at h
  cases h1:aWx Y s x with
  |none=>rw[h1] at h;cases h
  |some a=>
   cases h2:gets Y s (x'::xs) with
   |none=>rw[h1,h2] at h;cases h
   |some b=>rw[h1,h2] at h;have:=Option.some.inj h;subst this;exact⟨rfl,rfl⟩
theorem qG {k:Nat}{x:DI}{xs:List DI}{d:Dat U (x::xs)}{o:List (EO U)}:aJx k (x::xs) d o=aJx k xs (Dtl d) (aNl k x (Dhd d) o):=by
 cases xs with
 |nil=>rfl
 |cons=>rfl
theorem aVq {k n:Nat}{x:DI}{xs:List DI}{d:Dat U (x::xs)}{s:St U}:sets Y k n s (x::xs) d=sets Y k (nxt n x) (set1 Y k n s x (Dhd d)) xs (Dtl d):=by
 cases xs with
 |nil=>rfl
 |cons=>rfl
theorem Nn {k:Nat}:∀{l:List (Nat×Nat)} {o:List (EO U)},(Kn k l o).length=o.length
 |[],o=>rfl
 |x::l,o=>by
  have e:Kn k (x::l) o=match nth (Kn k l o) x.1 with|some ⟨.box T cs vs,_,_⟩=>upd (Kn k l o) x.1 ⟨.box T (upd cs x.2 .any) (upd vs x.2 k),k,k⟩|_=>Kn k l o:=rfl
  rw[e]
  split
  ·rw[cB,List.length_set];exact Nn
  ·exact Nn
theorem vK {k:Nat}{o:List (EO U)}{j:Nat}{e:EO U}(he:o[j]? =some e):∀(l:List (Nat×Nat)),∃e',(Kn k l o)[j]? =some e'∧((e.ob.aAT=false∨hasB j l=false)→e'=e)∧
  (∀T cs vs,e.ob= .box T cs vs→∃cs' vs',e'.ob= .box T cs' vs'∧cs'.length=cs.length∧vs'.length=vs.length∧(hasB j l=true→e'.rv=k∧e'.cv=k)∧
   ∀i,(aNk j i l=true→∀c,cs'[i]? =some c→c= .any)∧(aNk j i l=true→∀v,vs'[i]? =some v→v=k)∧(aNk j i l=false→cs'[i]? =cs[i]? ∧vs'[i]? =vs[i]?))
 |[]=>⟨e,he,fun _=>rfl,fun T cs vs h=>⟨cs,vs,h,rfl,rfl,fun h=>(by cases h),fun i=>⟨fun h=>(by cases h),fun h=>(by cases h),fun _=>⟨rfl,rfl⟩⟩⟩⟩
 |(b,p)::l=>by
  obtain⟨e1,h1,h2,h3⟩:=vK he l
  have e0:Kn k ((b,p)::l) o=match nth (Kn k l o) b with|some ⟨.box T cs vs,_,_⟩=>upd (Kn k l o) b ⟨.box T (upd cs p .any) (upd vs p k),k,k⟩|_=>Kn k l o:=rfl
  have eB:hasB j ((b,p)::l)=cond (Nat.beq b j) true (hasB j l):=rfl
  have eA:∀i,aNk j i ((b,p)::l)=cond (Nat.beq b j&&Nat.beq p i) true (aNk j i l):=fun _=>rfl
  rw[e0,eB]
  simp only[eA]
  by_cases hb:b=j
  ·subst hb
   have hbb:Nat.beq b b=true:=Nat.beq_refl b
   rw[bC,h1,hbb]
   obtain⟨ob,rv,cv⟩:=e1
   cases ob with
   |box T1 cs1 vs1=>
    refine⟨⟨.box T1 (upd cs1 p .any) (upd vs1 p k),k,k⟩,by show(upd (Kn k l o) b _)[b]? =_;rw[cB,List.getElem?_set_self (lt_of_some h1)],fun h=> ?_,fun T cs vs h=> ?_⟩
    ·rcases h with h|h
     ·have:=h2 (.inl h);subst this;cases h
     ·cases h
    ·obtain⟨cs',vs',k1,k2,k3,k4,k5⟩:=h3 T cs vs h
     injection k1 with q1 q2 q3;subst q1;subst q2;subst q3
     refine⟨_,_,rfl,by rw[cB,List.length_set,k2],by rw[cB,List.length_set,k3],fun _=>⟨rfl,rfl⟩,fun i=> ?_⟩
     by_cases hp:p=i
     ·subst hp
      have hpp:Nat.beq p p=true:=Nat.beq_refl p
      simp only[hpp,Bool.and_self,cond_true]
      refine⟨fun _ c hc=> ?_,fun _ v hv=> ?_,fun h=>by cases h⟩
      ·rw[cB] at hc
       have hl:p<cs1.length:=by have:=lt_of_some hc;simpa using this
       rw[List.getElem?_set_self hl] at hc;exact(Option.some.inj hc).symm
      ·rw[cB] at hv
       have hl:p<vs1.length:=by have:=lt_of_some hv;simpa using this
       rw[List.getElem?_set_self hl] at hv;exact(Option.some.inj hv).symm
     ·have hpp:Nat.beq p i=false:=by
       cases hq:Nat.beq p i with
       |false=>rfl
       |true=>exact absurd (Nat.eq_of_beq_eq_true hq) hp
      simp only[hpp,Bool.and_false,cond_false]
      rw[cB,cB,List.getElem?_set_ne hp,List.getElem?_set_ne hp]
      exact k5 i
   |dead=>
    refine⟨_,h1,fun h=> ?_,fun T cs vs h=> ?_⟩
    ·refine h2 (.inl ?_)
     cases ho:e.ob with
     |box T cs vs=>obtain⟨_,_,k1,_⟩:=h3 T cs vs ho;cases k1
     |_=>rfl
    ·obtain⟨_,_,k1,_⟩:=h3 T cs vs h;cases k1
   |tree=>
    refine⟨_,h1,fun h=> ?_,fun T cs vs h=> ?_⟩
    ·refine h2 (.inl ?_)
     cases ho:e.ob with
     |box T cs vs=>obtain⟨_,_,k1,_⟩:=h3 T cs vs ho;cases k1
     |_=>rfl
    ·obtain⟨_,_,k1,_⟩:=h3 T cs vs h;cases k1
  ·have hbb:Nat.beq b j=false:=by
    cases hq:Nat.beq b j with
    |false=>rfl
    |true=>exact absurd (Nat.eq_of_beq_eq_true hq) hb
   simp only[hbb,Bool.false_and,cond_false]
   refine⟨e1,?_,h2,h3⟩
   split
   ·rw[cB,List.getElem?_set_ne hb];exact h1
   ·exact h1
theorem aVr {cs:List (Nat×Nat)}{k b:Nat}:∀{j:Nat} {vs:List Nat},bIb cs k b j vs=true→∀(i v:Nat),vs[i]? =some v→v≤k∨aNk b (j+i) cs=true
 |j,[],_,i,v,h=>by simp at h
 |j,x::vs,h,i,v,hv=>by
  simp only[bIb,Bool.and_eq_true,Bool.or_eq_true] at h
  cases i with
  |zero=>simp at hv;subst hv;exact h.1.imp Nat.le_of_ble_eq_true id
  |succ i=>
   have:=aVr h.2 i v (by simpa using hv)
   rwa [show Nat.succ j+i=j+(i+1) by omega] at this
theorem aVs {cs:List (Nat×Nat)}{dd:List Nat}{k:Nat}:∀{i:Nat} {es es':List (EO U)},bBb cs dd k i es es'=true→∀(j:Nat) (e:EO U),es[j]? =some e→∃e',es'[j]? =some e'∧(e'.cv≤k∨(i+j)∈dd∨∃T c vs,e'.ob= .box T c vs∧hasB (i+j) cs=true∧∀(p v:Nat),vs[p]? =some v→v≤k∨aNk (i+j) p cs=true)
 |i,[],es',_,j,e,h=>by simp at h
 |i,x::es,[],h,j,e,he=>by cases h
 |i,x::es,y::es',h,j,e,he=>by
  simp only[bBb,Bool.and_eq_true,Bool.or_eq_true] at h
  cases j with
  |zero=>
   refine⟨y,rfl,?_⟩
   rcases h.1 with h1|h1|h1
   ·exact .inl (Nat.le_of_ble_eq_true h1)
   ·exact .inr (.inl (Bf.1 h1))
   ·refine .inr (.inr ?_)
    obtain⟨ob,rv,cv⟩:=y
    cases ob with
    |box T c vs=>
     simp only[Bool.and_eq_true] at h1
     exact⟨T,c,vs,rfl,h1.1,fun p v hv=>by have:=aVr h1.2 p v hv;rwa [Nat.zero_add] at this⟩
    |_=>cases h1
  |succ j=>
   obtain⟨e',q1,q2⟩:=aVs h.2 j e (by simpa using he)
   rw[show Nat.succ i+j=i+(j+1) by omega] at q2
   exact⟨e',by simpa using q1,q2⟩
def sg0 (dd:List Nat)(N:Nat):List (Option Nat):=(List.range N).map fun j=>if j∈dd then none else some j
theorem bC4 {dd:List Nat}{N:Nat}:(sg0 dd N).length=N:=by simp[sg0]
theorem aM0 {dd:List Nat}{N j:Nat}{q:Option Nat}(h:(sg0 dd N)[j]? =some q):j<N∧((j∈dd∧q=none)∨(j∉dd∧q=some j)):=by
 have hl:j<N:=by have:=lt_of_some h;rwa [bC4] at this
 refine⟨hl,?_⟩
 rw[sg0,List.getElem?_map,List.getElem?_range hl] at h
 simp only[Option.map_some,Option.some.injEq] at h
 by_cases hd:j∈dd
 ·rw[if_pos hd] at h;exact .inl ⟨hd,h.symm⟩
 ·rw[if_neg hd] at h;exact .inr ⟨hd,h.symm⟩
structure Inv (N M K k:Nat) (m:Mm U) (σ:List (Option Nat)) (o:List (EO U)):Prop where
 len:σ.length=o.length
 ge:N≤o.length
 inj:∀(j j' i:Nat),σ[j]? =some (some i)→σ[j']? =some (some i)→j=j'
 ver:∀(i:Nat) (e:EO U),o[i]? =some e→e.rv≤k∧e.cv≤k
 src:∀(j:Nat) (q:Option Nat) (e':EO U),σ[j]? =some q→o[j]? =some e'→Src N M K m q j e'
section
variable {C:Cod U} {b s:St U} {a a0:Act} {w w0:World} {β β0:List Tr} {D:Nat→Prop}
theorem bY.obd (r:bY C E b a0 w0 β0){j:Nat}{e:EO U}(h:b.m.o[j]? =some e):e.ob.bd b.m.o.length b.m.ns.length b.m.k:=by
 obtain⟨t,ht⟩:=r.hp.tr h
 have:=r.hp.ok j t e ht h
 generalize e.ob=x at this ⊢
 cases x with
 |box T cs vs=>obtain⟨_,b',vs',_,_,_,h4⟩:=this;exact h4.bd
 |_=>trivial
theorem inv0 (rb:bY C E b a0 w0 β0)(hag:Am b.m s.m){cs:List (Nat×Nat)}{dd:List Nat}(hc:bBb cs dd b.m.k 0 b.m.o s.m.o=true):
  Inv b.m.o.length b.m.ns.length b.m.k (Nat.succ b.m.k) s.m (sg0 dd b.m.o.length) (Kn (Nat.succ b.m.k) cs (U9 (Nat.succ b.m.k) dd b.m.o)):=by
 have hlen:(Kn (Nat.succ b.m.k) cs (U9 (Nat.succ b.m.k) dd b.m.o)).length=b.m.o.length:=by rw[Nn,Fq]
 refine⟨by rw[bC4,hlen],by rw[hlen];exact Nat.le_refl _,fun j j' i h1 h2=> ?_,fun j e' he'=> ?_,fun j q e' hq he'=> ?_⟩
 ·obtain⟨_,h1⟩:=aM0 h1
  obtain⟨_,h2⟩:=aM0 h2
  rcases h1 with⟨_,h1⟩|⟨_,h1⟩
  ·cases h1
  ·rcases h2 with⟨_,h2⟩|⟨_,h2⟩
   ·cases h2
   ·exact(Option.some.inj h1).symm.trans (Option.some.inj h2)
 ·have hl:j<b.m.o.length:=by have:=lt_of_some he';rwa [hlen] at this
  by_cases hd:j∈dd
  ·obtain⟨e1,h1,h2,_⟩:=vK (k:=Nat.succ b.m.k) (aDz (k:=Nat.succ b.m.k) hd hl) cs
   rw[he'] at h1;have:=Option.some.inj h1;subst this
   rw[h2 (.inl rfl)];exact⟨Nat.le_refl _,Nat.le_refl _⟩
  ·have h0:=uQ (k:=Nat.succ b.m.k) (o:=b.m.o) hd
   rw[List.getElem?_eq_getElem hl] at h0
   have hv:=rb.hp.vers j _ (List.getElem?_eq_getElem hl)
   obtain⟨e1,h1,h2,h3⟩:=vK (k:=Nat.succ b.m.k) h0 cs
   rw[he'] at h1;have:=Option.some.inj h1;subst this
   by_cases hk:(b.m.o[j]).ob.aAT=false∨hasB j cs=false
   ·rw[h2 hk];exact⟨Nat.le_succ_of_le hv.1,Nat.le_succ_of_le hv.2⟩
   ·cases ho:(b.m.o[j]).ob with
    |box T c vs=>
     obtain⟨_,_,_,_,_,h4,_⟩:=h3 T c vs ho
     have hB:hasB j cs=true:=by
      cases hh:hasB j cs with
      |true=>rfl
      |false=>exact absurd (.inr hh) hk
     obtain⟨q1,q2⟩:=h4 hB
     rw[q1,q2];exact⟨Nat.le_refl _,Nat.le_refl _⟩
    |_=>exact absurd (.inl (by rw[ho];rfl)) hk
 ·obtain⟨hl,hq⟩:=aM0 hq
  rcases hq with⟨hd,rfl⟩|⟨hd,rfl⟩
  ·obtain⟨e1,h1,h2,_⟩:=vK (k:=Nat.succ b.m.k) (aDz (k:=Nat.succ b.m.k) hd hl) cs
   rw[he'] at h1;have:=Option.some.inj h1;subst this
   rw[h2 (.inl rfl)]
   exact .dead rfl ⟨Nat.lt_succ_self _,Nat.lt_succ_self _⟩
  ·have hb:b.m.o[j]? =some b.m.o[j]:=List.getElem?_eq_getElem hl
   have h0:(U9 (Nat.succ b.m.k) dd b.m.o)[j]? =some b.m.o[j]:=by rw[uQ hd];exact hb
   obtain⟨e1,h1,h2,h3⟩:=vK (k:=Nat.succ b.m.k) h0 cs
   rw[he'] at h1;have:=Option.some.inj h1;subst this
   obtain⟨es,hs1,hs2⟩:=aVs hc j _ hb
   rw[Nat.zero_add] at hs2
   obtain⟨am1,am2,am3⟩:=hag.o j _ es hb hs1
   by_cases hk:(b.m.o[j]).ob.aAT=false∨hasB j cs=false
   ·have he:=h2 hk
    rw[he]
    refine .keep rfl ?_ (rb.obd hb)
    rcases hs2 with h|h|⟨T,c,vs,h,h',_⟩
    ·rw[←am1 h];exact hs1
    ·exact absurd h hd
    ·rcases hk with hk|hk
     ·rw[am2 (by rw[h];rfl)] at hk;cases hk
     ·rw[h'] at hk;cases hk
   ·have hB:hasB j cs=true:=by
     cases hh:hasB j cs with
     |true=>rfl
     |false=>exact absurd (.inr hh) hk
    cases ho:(b.m.o[j]).ob with
    |box T c vs=>
     obtain⟨cs',vs',k1,k2,k3,k4,k5⟩:=h3 T c vs ho
     obtain⟨q1,q2⟩:=k4 hB
     have hbl:c.length=vs.length:=rb.aBM (b:=j) (T:=T) (rv:=(b.m.o[j]).rv) (cv:=(b.m.o[j]).cv) (by rw[hb,←ho])
     have hbd:=rb.obd hb
     rw[ho] at hbd
     have hv:b.m.k<e'.rv∧b.m.k<e'.cv:=by rw[q1,q2];exact⟨Nat.lt_succ_self _,Nat.lt_succ_self _⟩
     have cell:∀(cS:List (Lf U)),(∀(i:Nat),aNk j i cs=false→i<c.length→cS[i]? =c[i]?)→∀(i:Nat) (x:Lf U),cs'[i]? =some x→x= .any∨(cS[i]? =some x∧x.bd b.m.o.length b.m.ns.length b.m.k):=fun cS hS i x hx=>by
      cases hA:aNk j i cs with
      |true=>exact .inl ((k5 i).1 hA x hx)
      |false=>
       have h5:=((k5 i).2.2 hA).1
       rw[hx] at h5
       have hil:i<c.length:=lt_of_some h5.symm
       exact .inr ⟨(hS i hA hil).trans h5.symm,hbd x (List.mem_of_getElem? h5.symm)⟩
     rcases hs2 with h|h|⟨T1,c1,vs1,h,_,h'⟩
     ·have e1:=am1 h
      exact .box rfl hs1 (by rw[e1];exact ho) k1 k2 (by rw[k2,k3,hbl]) (cell c (fun _ _ _=>rfl)) hv
     ·exact absurd h hd
     ·obtain⟨p1,p2,p3,p4⟩:=am3 T c vs T1 c1 vs1 ho h
      refine .box rfl hs1 (by rw[h,p1]) k1 (by rw[k2,p2]) (by rw[k2,k3,hbl]) (cell c1 (fun i hA hil=> ?_)) hv
      have hvl:i<vs1.length:=by rw[p3,←hbl];exact hil
      rcases h' i _ (List.getElem?_eq_getElem hvl) with h''|h''
      ·exact(p4 i _ (List.getElem?_eq_getElem hvl) h'').1
      ·rw[hA] at h'';cases h''
    |_=>exact absurd (.inl (by rw[ho];rfl)) hk
def sgm:List (Option Nat×Option Nat)→List (Option Nat)→List (Option Nat)
 |[],σ=>σ
 |(some i,x)::q,σ=>sgm q (σ.set i x)
 |(none,x)::q,σ=>sgm q (σ++[x])
def Plc (k:Nat)(σ:List (Option Nat))(o:List (EO U))(s:St U):Nat→List DI→Prop
 |_,[]=>True
 |n, .tr l i τ d::xs=>(∃v q e,lkp s l=some v∧sJ s.m τ d v=some q∧σ[i]? =some q.1∧o[i]? =some e∧e.rv=k)∧Plc k σ o s n xs
 |n, .nt l τ d::xs=>(∃v q e,lkp s l=some v∧sJ s.m τ d v=some q∧σ[n]? =some q.1∧o[n]? =some e∧e.rv=k)∧Plc k σ o s (Nat.succ n) xs
 |n,_::xs=>Plc k σ o s n xs
theorem aD2 {x:Option Nat×Option Nat}{q:List (Option Nat×Option Nat)}:yJ (x::q)=(match x.2 with|some i=>i::yJ q|none=>yJ q):=by
 obtain⟨x1,x2⟩:=x
 cases x2<;>rfl
theorem aN6 {m:Mm U}{N M K k:Nat}{τ:Nat}{d:Bool}{v:Sv U}{q:Option Nat×List (U.El τ)}(h:sJ m τ d v=some q)(hk:K<k){j:Nat}:Src N M K m q.1 j ⟨.tree τ d q.2,k,k⟩:=by
 unfold sJ at h
 split at h
 ·cases hb:Nat.ble 1 (U.K τ) with
  |false=>rw[hb] at h;cases h
  |true=>
   rw[hb] at h
   have:=Option.some.inj h;subst this
   exact .nil rfl rfl (Nat.le_of_ble_eq_true hb) ⟨hk,hk⟩
 ·rename_i i r
  rw[bC] at h
  split at h
  ·rename_i τ' d' l rv cv he
   cases hb:(Nat.beq rv r&&(d'|| !d)) with
   |false=>rw[hb] at h;cases h
   |true=>
    rw[hb] at h
    simp only[cond_true] at h
    cases hq:slq τ τ' l with
    |none=>rw[hq] at h;cases h
    |some l'=>
     rw[hq] at h
     have:=Option.some.inj h;subst this
     obtain⟨rfl,hl⟩:=mH hq
     have hl:=eq_of_heq hl;subst hl
     simp only[Bool.and_eq_true,Bool.or_eq_true] at hb
     refine .tree rfl he rfl (fun hd=> ?_) rfl ⟨hk,hk⟩
     rcases hb.2 with h|h
     ·exact h
     ·rw[hd] at h;cases h
  ·cases h
 ·cases h
theorem bGm {m:Mm U}{N M K k i:Nat}{τ:Nat}{d:Bool}{l:List (U.El τ)}(h:bKg m i τ d=some l)(hk:K<k):Src N M K m (some i) i ⟨.tree τ d l,0,k⟩:=by
 unfold bKg at h
 rw[bC] at h
 split at h
 ·rename_i τ' d' l' rv cv he
  cases hb:(Nat.beq rv 0&&(d'|| !d)) with
  |false=>rw[hb] at h;cases h
  |true=>
   rw[hb] at h
   simp only[cond_true] at h
   obtain⟨rfl,hl⟩:=mH h
   have hl:=eq_of_heq hl;subst hl
   simp only[Bool.and_eq_true,Bool.or_eq_true] at hb
   refine .ti rfl he rfl (fun hd=> ?_) rfl (Nat.eq_of_beq_eq_true hb.1).symm hk
   rcases hb.2 with h|h
   ·exact h
   ·rw[hd] at h;cases h
 ·cases h
theorem Inv.set {N M K k:Nat}{m:Mm U}{σ:List (Option Nat)}{o:List (EO U)}(h:Inv N M K k m σ o){i:Nat}{q:Option Nat}{e:EO U}(hq:∀x,q=some x→∀j:Nat,σ[j]? ≠some (some x))(hv:e.rv≤k∧e.cv≤k)(hs:Src N M K m q i e):Inv N M K k m (σ.set i q) (o.set i e):=by
 refine⟨by simp[h.len],by simpa using h.ge,fun j j' x h1 h2=> ?_,fun j e' he=> ?_,fun j q' e' h1 h2=> ?_⟩
 ·by_cases hj:i=j
  ·by_cases hj':i=j'
   ·exact hj.symm.trans hj'
   ·subst hj
    rw[List.getElem?_set_ne hj'] at h2
    have hl:i<σ.length:=by have:=lt_of_some h1;simpa using this
    rw[List.getElem?_set_self hl] at h1
    exact absurd h2 (hq x (Option.some.inj h1) j')
  ·rw[List.getElem?_set_ne hj] at h1
   by_cases hj':i=j'
   ·subst hj'
    have hl:i<σ.length:=by have:=lt_of_some h2;simpa using this
    rw[List.getElem?_set_self hl] at h2
    exact absurd h1 (hq x (Option.some.inj h2) j)
   ·rw[List.getElem?_set_ne hj'] at h2;exact h.inj j j' x h1 h2
 ·by_cases hj:i=j
  ·subst hj
   have hl:i<o.length:=by have:=lt_of_some he;simpa using this
   rw[List.getElem?_set_self hl] at he
   have:=Option.some.inj he;subst this;exact hv
  ·rw[List.getElem?_set_ne hj] at he;exact h.ver j e' he
 ·by_cases hj:i=j
  ·subst hj
   have hl:i<o.length:=by have:=lt_of_some h2;simpa using this
   rw[List.getElem?_set_self (by rw[h.len];exact hl)] at h1
   rw[List.getElem?_set_self hl] at h2
   have:=Option.some.inj h1;subst this
   have:=Option.some.inj h2;subst this
   exact hs
  ·rw[List.getElem?_set_ne hj] at h1 h2;exact h.src j q' e' h1 h2
theorem Inv.app {N M K k:Nat}{m:Mm U}{σ:List (Option Nat)}{o:List (EO U)}(h:Inv N M K k m σ o){q:Option Nat}{e:EO U}(hq:∀x,q=some x→∀j:Nat,σ[j]? ≠some (some x))(hv:e.rv≤k∧e.cv≤k)(hs:Src N M K m q o.length e):Inv N M K k m (σ++[q]) (o++[e]):=by
 have hσ:∀(j:Nat) (x:Option Nat),(σ++[q])[j]? =some x→(σ[j]? =some x)∨(j=o.length∧x=q):=fun j x hx=>by
  by_cases hl:j<σ.length
  ·rw[List.getElem?_append_left hl] at hx;exact .inl hx
  ·rw[List.getElem?_append_right (by omega)] at hx
   cases hz:j-σ.length with
   |zero=>rw[hz] at hx;simp at hx;exact .inr ⟨by have:=h.len;omega,hx.symm⟩
   |succ n=>rw[hz] at hx;simp at hx
 have ho:∀(j:Nat) (x:EO U),(o++[e])[j]? =some x→(o[j]? =some x)∨(j=o.length∧x=e):=fun j x hx=>by
  by_cases hl:j<o.length
  ·rw[List.getElem?_append_left hl] at hx;exact .inl hx
  ·rw[List.getElem?_append_right (by omega)] at hx
   cases hz:j-o.length with
   |zero=>rw[hz] at hx;simp at hx;exact .inr ⟨by omega,hx.symm⟩
   |succ n=>rw[hz] at hx;simp at hx
 refine⟨by simp[h.len],by have:=h.ge;simp;omega,fun j j' x h1 h2=> ?_,fun j e' he=> ?_,fun j q' e' h1 h2=> ?_⟩
 ·rcases hσ j _ h1 with h1|⟨e1,h1⟩<;>rcases hσ j' _ h2 with h2|⟨e2,h2⟩
  ·exact h.inj j j' x h1 h2
  ·exact absurd h1 (hq x h2.symm j)
  ·exact absurd h2 (hq x h1.symm j')
  ·exact e1.trans e2.symm
 ·rcases ho j _ he with h1|⟨_,rfl⟩
  ·exact h.ver j e' h1
  ·exact hv
 ·rcases hσ j _ h1 with h1|⟨e1,rfl⟩<;>rcases ho j _ h2 with h2|⟨e2,rfl⟩
  ·exact h.src j q' e' h1 h2
  ·have:=lt_of_some h1;have:=h.len;omega
  ·have:=lt_of_some h2;omega
  ·subst e1;exact hs
theorem Plc.mono {k:Nat}{σ σ':List (Option Nat)}{o o':List (EO U)}{s:St U}:∀{xs:List DI} {n:Nat},(∀i∈gZ xs,o'[i]? =o[i]? ∧σ'[i]? =σ[i]?)→(∀i,n≤i→o'[i]? =o[i]? ∧σ'[i]? =σ[i]?)→Plc k σ o s n xs→Plc k σ' o' s n xs
 |[],_,_,_,h=>h
 | .tr l i τ d::xs,n,h1,h2,⟨⟨v,q,e,a1,a2,a3,a4,a5⟩,h⟩=>by
  obtain⟨b1,b2⟩:=h1 i (by simp[gZ])
  exact⟨⟨v,q,e,a1,a2,b2.trans a3,b1.trans a4,a5⟩,Plc.mono (fun j hj=>h1 j (by simp[gZ,hj])) h2 h⟩
 | .nt l τ d::xs,n,h1,h2,⟨⟨v,q,e,a1,a2,a3,a4,a5⟩,h⟩=>by
  obtain⟨b1,b2⟩:=h2 n (Nat.le_refl _)
  exact⟨⟨v,q,e,a1,a2,b2.trans a3,b1.trans a4,a5⟩,Plc.mono (fun j hj=>h1 j (by simpa[gZ] using hj)) (fun i hi=>h2 i (by omega)) h⟩
 | .ti i τ d::xs,n,h1,h2,h=>Plc.mono (xs:=xs) (n:=n) (fun j hj=>h1 j (by simp[gZ,hj])) h2 h
 | .dat l kd::xs,n,h1,h2,h=>Plc.mono (xs:=xs) (n:=n) (fun j hj=>h1 j (by simpa[gZ] using hj)) h2 h
 | .nat l::xs,n,h1,h2,h=>Plc.mono (xs:=xs) (n:=n) (fun j hj=>h1 j (by simpa[gZ] using hj)) h2 h
theorem Bh {N M K k:Nat}{s:St U}(hk:K<k):∀(xs:List DI) (q:List (Option Nat×Option Nat)) (d:Dat U xs) (σ:List (Option Nat)) (o:List (EO U)),X4 s xs=some q→gets Y s xs=some d→Inv N M K k s.m σ o→(∀i∈yJ q,∀j:Nat,σ[j]? ≠some (some i))→(yJ q).Nodup→(∀i∈gZ xs,i<o.length)→(gZ xs).Nodup→
  Inv N M K k s.m (sgm q σ) (aJx k xs d o)∧Plc k (sgm q σ) (aJx k xs d o) s o.length xs∧(∀j,j<o.length→j∉gZ xs→(aJx k xs d o)[j]? =o[j]? ∧(sgm q σ)[j]? =σ[j]?)
 |[],q,d,σ,o,hq,_,hI,_,_,_,_=>by
  have:=Option.some.inj hq;subst this
  exact⟨hI,trivial,fun _ _ _=>⟨rfl,rfl⟩⟩
 | .dat l kd::xs,q,d,σ,o,hq,hg,hI,h1,h2,h3,h4=>by
  rw[qG]
  exact Bh hk xs q (Dtl d) σ o hq (kG hg).2 hI h1 h2 h3 h4
 | .nat l::xs,q,d,σ,o,hq,hg,hI,h1,h2,h3,h4=>by
  rw[qG]
  exact Bh hk xs q (Dtl d) σ o hq (kG hg).2 hI h1 h2 h3 h4
 | .ti i τ b::xs,q,d,σ,o,hq,hg,hI,h1,h2,h3,h4=>by
  obtain⟨g1,g2⟩:=kG hg
  simp only[X4] at hq
  simp only[aWx] at g1
  cases hr:X4 s xs with
  |none=>rw[hr] at hq;cases hq
  |some r=>
   rw[hr] at hq
   have:=Option.some.inj hq;subst this
   rw[qG]
   have hi:i<o.length:=h3 i (by simp[gZ])
   have e1:aNl k (.ti i τ b) (Dhd d) o=o.set i ⟨.tree τ b (Dhd d),0,k⟩:=cB _ _ _
   rw[e1]
   rw[aD2] at h1 h2
   simp only at h1 h2
   have hI':=hI.set (i:=i) (q:=some i) (e:=⟨.tree τ b (Dhd d),0,k⟩) (fun x hx j=>h1 x (by rw[Option.some.inj hx];simp) j) ⟨Nat.zero_le _,Nat.le_refl _⟩ (bGm g1 hk)
   obtain⟨n1,n2⟩:=List.nodup_cons.1 (show(i::gZ xs).Nodup from h4)
   have hnx:∀x∈yJ r,∀j:Nat,(σ.set i (some i))[j]? ≠some (some x):=fun x hx j hj=>by
    by_cases hij:i=j
    ·subst hij
     rw[List.getElem?_set_self (by rw[hI.len];exact hi)] at hj
     have hj:=Option.some.inj (Option.some.inj hj)
     subst hj
     exact(List.nodup_cons.1 h2).1 hx
    ·rw[List.getElem?_set_ne hij] at hj
     exact h1 x (by simp[hx]) j hj
   obtain⟨p1,p2,p3⟩:=Bh hk xs r (Dtl d) (σ.set i (some i)) _ hr g2 hI' hnx (List.nodup_cons.1 h2).2 (fun j hj=>by rw[List.length_set];exact h3 j (by simp[gZ,hj])) n2
   rw[List.length_set] at p2 p3
   refine⟨p1,p2,fun j hj hjn=> ?_⟩
   have hjn:j≠i∧j∉gZ xs:=by simpa[gZ] using hjn
   obtain⟨q1,q2⟩:=p3 j hj hjn.2
   exact⟨by rw[q1,List.getElem?_set_ne (Ne.symm hjn.1)],by show(sgm r (σ.set i (some i)))[j]? =_;rw[q2,List.getElem?_set_ne (Ne.symm hjn.1)]⟩
 | .tr l i τ b::xs,q,d,σ,o,hq,hg,hI,h1,h2,h3,h4=>by
  obtain⟨g1,g2⟩:=kG hg
  simp only[X4] at hq
  simp only[aWx] at g1
  cases hv:lkp s l with
  |none=>rw[hv] at hq;cases hq
  |some v=>
   rw[hv] at hq g1
   simp only at hq g1
   cases ht:sJ s.m τ b v with
   |none=>rw[ht] at hq;cases hq
   |some t=>
    rw[ht] at hq g1
    simp only at hq g1
    cases hr:X4 s xs with
    |none=>rw[hr] at hq;cases hq
    |some r=>
     rw[hr] at hq
     have:=Option.some.inj hq;subst this
     have hd:t.2=Dhd d:=Option.some.inj g1
     rw[qG]
     have hi:i<o.length:=h3 i (by simp[gZ])
     have e1:aNl k (.tr l i τ b) (Dhd d) o=o.set i ⟨.tree τ b t.2,k,k⟩:=by rw[hd];exact cB _ _ _
     rw[e1]
     rw[aD2] at h1 h2
     have hsub:∀x∈yJ r,x∈(match t.1 with|some i=>i::yJ r|none=>yJ r):=fun x hx=>by cases t.1<;>simp[hx]
     have hI':=hI.set (i:=i) (q:=t.1) (e:=⟨.tree τ b t.2,k,k⟩) (fun x hx j=>h1 x (by simp only[hx];simp) j) ⟨Nat.le_refl _,Nat.le_refl _⟩ (aN6 ht hk)
     obtain⟨n1,n2⟩:=List.nodup_cons.1 (show(i::gZ xs).Nodup from h4)
     have hnx:∀x∈yJ r,∀j:Nat,(σ.set i t.1)[j]? ≠some (some x):=fun x hx j hj=>by
      by_cases hij:i=j
      ·subst hij
       rw[List.getElem?_set_self (by rw[hI.len];exact hi)] at hj
       have hj:=Option.some.inj hj
       simp only[hj] at h2
       exact(List.nodup_cons.1 h2).1 hx
      ·rw[List.getElem?_set_ne hij] at hj
       exact h1 x (hsub x hx) j hj
     have hnd:(yJ r).Nodup:=by
      cases ht1:t.1 with
      |none=>simp only[ht1] at h2;exact h2
      |some x=>simp only[ht1] at h2;exact(List.nodup_cons.1 h2).2
     obtain⟨p1,p2,p3⟩:=Bh hk xs r (Dtl d) (σ.set i t.1) _ hr g2 hI' hnx hnd (fun j hj=>by rw[List.length_set];exact h3 j (by simp[gZ,hj])) n2
     rw[List.length_set] at p2 p3
     refine⟨p1,⟨⟨v,t,⟨.tree τ b t.2,k,k⟩,hv,ht,?_,?_,rfl⟩,p2⟩,fun j hj hjn=> ?_⟩
     ·show(sgm r (σ.set i t.1))[i]? =_
      rw[(p3 i hi n1).2,List.getElem?_set_self (by rw[hI.len];exact hi)]
     ·rw[(p3 i hi n1).1,List.getElem?_set_self hi]
     ·have hjn:j≠i∧j∉gZ xs:=by simpa[gZ] using hjn
      obtain⟨q1,q2⟩:=p3 j hj hjn.2
      exact⟨by rw[q1,List.getElem?_set_ne (Ne.symm hjn.1)],by show(sgm r (σ.set i t.1))[j]? =_;rw[q2,List.getElem?_set_ne (Ne.symm hjn.1)]⟩
 | .nt l τ b::xs,q,d,σ,o,hq,hg,hI,h1,h2,h3,h4=>by
  obtain⟨g1,g2⟩:=kG hg
  simp only[X4] at hq
  simp only[aWx] at g1
  cases hv:lkp s l with
  |none=>rw[hv] at hq;cases hq
  |some v=>
   rw[hv] at hq g1
   simp only at hq g1
   cases ht:sJ s.m τ b v with
   |none=>rw[ht] at hq;cases hq
   |some t=>
    rw[ht] at hq g1
    simp only at hq g1
    cases hr:X4 s xs with
    |none=>rw[hr] at hq;cases hq
    |some r=>
     rw[hr] at hq
     have:=Option.some.inj hq;subst this
     have hd:t.2=Dhd d:=Option.some.inj g1
     rw[qG]
     have e1:aNl k (.nt l τ b) (Dhd d) o=o++[⟨.tree τ b t.2,k,k⟩]:=by rw[hd];rfl
     rw[e1]
     rw[aD2] at h1 h2
     have hsub:∀x∈yJ r,x∈(match t.1 with|some i=>i::yJ r|none=>yJ r):=fun x hx=>by cases t.1<;>simp[hx]
     have hI':=hI.app (q:=t.1) (e:=⟨.tree τ b t.2,k,k⟩) (fun x hx j=>h1 x (by simp only[hx];simp) j) ⟨Nat.le_refl _,Nat.le_refl _⟩ (aN6 ht hk)
     have n2:(gZ xs).Nodup:=h4
     have hol:(σ++[t.1])[o.length]? =some t.1:=by rw[←hI.len];simp
     have hnx:∀x∈yJ r,∀j:Nat,(σ++[t.1])[j]? ≠some (some x):=fun x hx j hj=>by
      by_cases hl:j<σ.length
      ·rw[List.getElem?_append_left hl] at hj
       exact h1 x (hsub x hx) j hj
      ·rw[List.getElem?_append_right (by omega)] at hj
       cases hz:j-σ.length with
       |zero=>
        rw[hz] at hj
        have hj:t.1=some x:=by simpa using hj
        simp only[hj] at h2
        exact(List.nodup_cons.1 h2).1 hx
       |succ n=>rw[hz] at hj;simp at hj
     have hnd:(yJ r).Nodup:=by
      cases ht1:t.1 with
      |none=>simp only[ht1] at h2;exact h2
      |some x=>simp only[ht1] at h2;exact(List.nodup_cons.1 h2).2
     obtain⟨p1,p2,p3⟩:=Bh hk xs r (Dtl d) (σ++[t.1]) _ hr g2 hI' hnx hnd (fun j hj=>by have:=h3 j (by simpa[gZ] using hj);simp;omega) n2
     rw[show(o++[(⟨.tree τ b t.2,k,k⟩:EO U)]).length=Nat.succ o.length by simp] at p2 p3
     have n1:o.length∉gZ xs:=fun hh=>by have:=h3 _ (show o.length∈gZ (.nt l τ b::xs) from hh);omega
     refine⟨p1,⟨⟨v,t,⟨.tree τ b t.2,k,k⟩,hv,ht,?_,?_,rfl⟩,p2⟩,fun j hj hjn=> ?_⟩
     ·show(sgm r (σ++[t.1]))[o.length]? =_
      rw[(p3 _ (Nat.lt_succ_self _) n1).2,hol]
     ·rw[(p3 _ (Nat.lt_succ_self _) n1).1];simp
     ·obtain⟨q1,q2⟩:=p3 j (Nat.lt_succ_of_lt hj) hjn
      refine⟨by rw[q1,List.getElem?_append_left hj],?_⟩
      show(sgm r (σ++[t.1]))[j]? =_
      rw[q2,List.getElem?_append_left (by rw[hI.len];exact hj)]
end
end Go.EV

namespace Go.EV
open Go.RowKit Go.VK
variable {U:Uni} {Y:Lay U} {P:Program} {g:GI} {E:Env U g}
section aDA
theorem bGn {a n:Nat}{K:List (Sv U)→List (Sv U)}(hK:K []=[]):∀{l:List (Sv U)},(bBd a K l)[n]? =if n<a then l[n]? else(K (l.drop a))[n-a]? :=by
 induction a generalizing n with
 |zero=>intro l;rfl
 |succ a ih=>
  intro l
  cases l with
  |nil=>
   have e:bBd (a+1) K ([]:List (Sv U))=[]:=rfl
   rw[e];simp[hK]
  |cons x l=>
   have e:bBd (a+1) K (x::l)=x::bBd a K l:=rfl
   rw[e]
   cases n with
   |zero=>simp
   |succ n=>simp only[List.getElem?_cons_succ,ih,Nat.add_lt_add_iff_right,List.drop_succ_cons,Nat.add_sub_add_right]
theorem bGo {a n:Nat}{K:List (Sv U)→List (Sv U)}(hK:K []=[]):∀{l:List (Sv U)},(aYv a K l)[n]? =if n<a then(l[n]?).map (fun _=>Sv.l .any) else(K (l.drop a))[n-a]? :=by
 induction a generalizing n with
 |zero=>intro l;rfl
 |succ a ih=>
  intro l
  cases l with
  |nil=>
   have e:aYv (a+1) K ([]:List (Sv U))=[]:=rfl
   rw[e];simp[hK]
  |cons x l=>
   have e:aYv (a+1) K (x::l)=Sv.l .any::aYv a K l:=rfl
   rw[e]
   cases n with
   |zero=>simp
   |succ n=>simp only[List.getElem?_cons_succ,ih,Nat.add_lt_add_iff_right,List.drop_succ_cons,Nat.add_sub_add_right]
theorem aXg:∀{ws:List (Nat×Nat)},wip ws ([]:List (Sv U))=[]
 |[]=>rfl
 |(a,b)::r=>by
  have e:wip ((a,b)::r) ([]:List (Sv U))=bBd a (aYv b (wip r)) []:=rfl
  rw[e]
  cases a with
  |succ a=>rfl
  |zero=>
   cases b with
   |succ b=>rfl
   |zero=>exact aXg (ws:=r)
theorem bGp:∀{ws:List (Nat×Nat)} {p n:Nat},Ey ws p n=true→p≤n
 |[],p,n,h=>by cases h
 |(a,b)::r,p,n,h=>by
  simp only[Ey,Bool.or_eq_true,Bool.and_eq_true] at h
  rcases h with⟨h,_⟩|h
  ·have:=Nat.le_of_ble_eq_true h;omega
  ·have:=bGp h;omega
theorem aM1:∀{ws:List (Nat×Nat)} {p n:Nat} {l:List (Sv U)},(wip ws l)[n]? =if Ey ws p (p+n)=true then(l[n]?).map (fun _=>Sv.l .any) else l[n]?
 |[],p,n,l=>by simp[Ey,wip]
 |(a,b)::r,p,n,l=>by
  have hb:(aYv b (wip r) ([]:List (Sv U)))=[]:=by
   cases b with
   |succ b=>rfl
   |zero=>exact aXg (ws:=r)
  have e:wip ((a,b)::r) l=bBd a (aYv b (wip r)) l:=rfl
  rw[e,bGn hb]
  simp only[Ey,Bool.or_eq_true,Bool.and_eq_true]
  by_cases h1:n<a
  ·rw[if_pos h1,if_neg]
   rintro(⟨h,_⟩|h)
   ·have:=Nat.le_of_ble_eq_true h;omega
   ·have:=bGp h;omega
  ·rw[if_neg h1,bGo aXg]
   by_cases h2:n-a<b
   ·rw[if_pos h2,if_pos]
    ·rw[List.getElem?_drop,show a+(n-a)=n by omega]
    ·exact .inl ⟨Nat.ble_eq_true_of_le (by omega),Nat.ble_eq_true_of_le (by omega)⟩
   ·rw[if_neg h2,aM1 (ws:=r) (p:=p+a+b)]
    rw[show p+a+b+(n-a-b)=p+n by omega]
    simp only[List.getElem?_drop,show a+(b+(n-a-b))=n by omega]
    by_cases h3:Ey r (p+a+b) (p+n)=true
    ·rw[if_pos h3,if_pos (.inr h3)]
    ·rw[if_neg h3,if_neg]
     rintro(⟨_,h⟩|h)
     ·have:=Nat.le_of_ble_eq_true h;omega
     ·exact h3 h
theorem bC5 {ws:List (Nat×Nat)}{l:List (Sv U)}:(wip ws l).length=l.length:=by
 have key:∀n,n<(wip ws l).length↔n<l.length:=fun n=>by
  have h:=aM1 (ws:=ws) (p:=0) (n:=n) (l:=l)
  constructor
  ·intro hn
   rw[List.getElem?_eq_getElem hn] at h
   refine Nat.lt_of_not_le fun hh=> ?_
   rw[List.getElem?_eq_none hh] at h
   split at h<;>cases h
  ·intro hn
   rw[List.getElem?_eq_getElem hn] at h
   refine Nat.lt_of_not_le fun hh=> ?_
   rw[List.getElem?_eq_none hh] at h
   split at h<;>cases h
 have h1:=key (wip ws l).length
 have h2:=key l.length
 omega
end aDA
def LV (a:Act)(w:World)(β:List Tr)(o:List (EO U)):Lo→Value→Prop
 | .s n,v=>v=a.tmps.getD n undef
 | .c b j,v=>∀e,o[b]? =some e→e.ob.aAT=true→∃t blk vals T,β[b]? =some t∧t.b=some blk∧w.heap[blk]? =some (.cells vals T (0,0))∧vals[j]? =some v
section
variable {C:Cod U} {b s u:St U} {a a0:Act} {w w0:World} {β β0:List Tr}
theorem Y5 (r:bY C E s a w β){l:Lo}{x:Sv U}(h:lkp s l=some x):∃v,LV a w β s.m.o l v∧x.mean C w (E.X β) β s.m v:=by
 cases l with
 |s n=>exact⟨_,rfl,r.tm n x (by rw[←bC];exact h)⟩
 |c b j=>
  simp only[lkp,bC] at h
  split at h
  ·rename_i T cs vs rv cv he
   split at h
   ·rename_i y hy
    have:=Option.some.inj h;subst this
    obtain⟨t,ht⟩:=r.hp.tr he
    obtain⟨h0,blk,vals,k1,k2,k3,k4⟩:=r.hp.ok b t _ ht he
    have hjl:j<vals.length:=by rw[k4.1];exact lt_of_some hy
    exact⟨vals[j],fun e _ _=>⟨t,blk,vals.toArray,T,ht,k1,k3,by simp[hjl]⟩,k4.2 j _ _ (List.getElem?_eq_getElem hjl) hy⟩
   ·cases h
  ·cases h
structure Tp (C:Cod U) (E:Env U g) (a:Act) (w:World) (u:St U) (β:List Tr) (u':St U) (β':List Tr):Prop where
 own:∀(i r:Nat) (v:Value),(Lf.own i r:Lf U).mean C w (E.X β) β u.m v→(Lf.own i r:Lf U).mean C w (E.X β') β' u'.m v
 x:∀b,E.X β' b→E.X β b
 lv:∀(l:Lo) (v:Value),LV a w β u.m.o l v→LV a w β' u'.m.o l v
theorem Tp.refl:Tp C E a w u β u β:=⟨fun _ _ _ h=>h,fun _ h=>h,fun _ _ h=>h⟩
theorem bY.aBC (r:bY C E u a w β){l:Lo}{v:Value}(hl:LV a w β u.m.o l v){x:Sv U}(hx:x.mean C w (E.X β) β u.m v):∃β',bY C E (EV.aBC u x l) a w β'∧Tp C E a w u β (EV.aBC u x l) β':=by
 cases l with
 |s n=>
  refine⟨β,r.set (n:=n) (x:=x) ?_,⟨fun _ _ _ h=>h,fun _ h=>h,fun _ _ h=>h⟩⟩
  rw[←(show v=a.tmps.getD n undef from hl)];exact hx
 |c b j=>
  unfold EV.aBC
  simp only[bC]
  split
  ·rename_i T cs vs rv cv y he
   obtain⟨t,blk,vals,T',h1,h2,h3,h4⟩:=hl _ he rfl
   obtain⟨h0,blk',vals',k1,k2,k3,k4⟩:=r.hp.ok b t _ h1 he
   rw[h2] at k1
   have:=Option.some.inj k1;subst this
   rw[h3] at k3
   have:=Option.some.inj k3
   injection this with q1 q2 q3;subst q1;subst q2
   have hvv:vals'[j]? =some v:=by simpa using h4
   obtain⟨β',r',hb',ev⟩:=r.turn (i:=b) (J:=[]) (t':=t) (w':=w) (ob:= .box T' (upd cs j y) (upd vs j (Nat.succ u.m.k))) (rv:=rv) he h1 (by simp) (Nat.le_refl _) rfl rfl rfl (fun _ _ _=>rfl)
    (fun bb hb=>⟨(r.hp.new b t bb h1 hb).2, .inr (.inl hb)⟩) (r.hp.nd b t h1) (.inl ⟨rfl,rfl⟩) (fun _=>⟨rfl,rfl⟩)
    (fun β' m' ev=>by
     refine⟨by rw[cB,cB,List.length_set,List.length_set,h0],blk,vals',h2,k2,h3,by rw[k4.1,cB,List.length_set],fun i v' c p q=> ?_⟩
     rw[cB] at q
     by_cases hij:j=i
     ·subst hij
      have hl:j<cs.length:=by have:=lt_of_some q;simpa using this
      rw[List.getElem?_set_self hl] at q
      have:=Option.some.inj q;subst this
      rw[hvv] at p
      have:=Option.some.inj p;subst this
      exact Lf.aAV ev hx
     ·rw[List.getElem?_set_ne hij] at q
      exact Lf.aAV ev (k4.2 i v' c p q))
   refine⟨β',r',⟨fun i q v' h=>Lf.aAV ev h,fun bb hb=>ev.hX bb (Hp.aBP r'.hp bb hb) hb,fun l v' h=> ?_⟩⟩
   cases l with
   |s n=>exact h
   |c b' j'=>
    intro e' he' hbx
    have hlt:b'<u.m.o.length:=by
     have:=lt_of_some he'
     have hl:(upd u.m.o b (⟨.box T' (upd cs j y) (upd vs j (Nat.succ u.m.k)),rv,Nat.succ u.m.k⟩:EO U)).length=u.m.o.length:=by rw[cB,List.length_set]
     have h2:b'<(upd u.m.o b (⟨.box T' (upd cs j y) (upd vs j (Nat.succ u.m.k)),rv,Nat.succ u.m.k⟩:EO U)).length:=this
     rwa [hl] at h2
    have hb0:u.m.o[b']? =some u.m.o[b']:=List.getElem?_eq_getElem hlt
    obtain⟨t0,ht0⟩:=r.hp.tr hb0
    obtain⟨e1,t1,g1,g2,_,_,g3⟩:=ev.ho b' _ t0 hlt hb0 ht0
    have:e1=e':=Option.some.inj (g1.symm.trans he')
    subst this
    obtain⟨p1,p2⟩:=g3 hbx
    obtain⟨t2,blk2,vals2,T2,z1,z2,z3,z4⟩:=h _ hb0 p1
    rw[ht0] at z1
    have:=Option.some.inj z1;subst this
    exact⟨t1,blk2,vals2,T2,g2,p2.trans z2,z3,z4⟩
  ·exact⟨β,r,Tp.refl⟩
def IF1 (Y:Lay U)(E:Env U g)(k:Nat)(u:St U)(a:Act)(w:World)(β:List Tr)(n:Nat):(x:DI)→x.ty U→Prop
 | .dat l kd,d=>∃v,LV a w β u.m.o l v∧Rd w (E.X β) [] v (Ig (gJ Y kd d))
 | .nat l,i=>∃v,LV a w β u.m.o l v∧∃j:Nat,j=i∧v= .int .i64 (j:Int)∧(j:Int)≤9223372036854775807
 | .tr l i _ _,_=>∃v,LV a w β u.m.o l v∧(Lf.own i k:Lf U).mean Y.C w (E.X β) β u.m v
 | .nt l _ _,_=>∃v,LV a w β u.m.o l v∧(Lf.own n k:Lf U).mean Y.C w (E.X β) β u.m v
 | .ti _ _ _,_=>True
def IF (Y:Lay U)(E:Env U g)(k:Nat)(u:St U)(a:Act)(w:World)(β:List Tr):Nat→(xs:List DI)→Dat U xs→Prop
 |_,[],_=>True
 |n,x::xs,d=>IF1 Y E k u a w β n x (Dhd d)∧IF Y E k u a w β (nxt n x) xs (Dtl d)
theorem IF1.tp {k n:Nat}{u':St U}{β':List Tr}(h:Tp Y.C E a w u β u' β'){x:DI}{d:x.ty U}(hf:IF1 Y E k u a w β n x d):IF1 Y E k u' a w β' n x d:=by
 cases x with
 |dat l kd=>obtain⟨v,h1,h2⟩:=hf;exact⟨v,h.lv l v h1,h2.conv (Nat.le_refl _) (fun b _=>h.x b) (fun _ _ _ h=>h) (fun _ _ h=>h)⟩
 |nat l=>obtain⟨v,h1,h2⟩:=hf;exact⟨v,h.lv l v h1,h2⟩
 |tr l i τ b=>obtain⟨v,h1,h2⟩:=hf;exact⟨v,h.lv l v h1,h.own _ _ v h2⟩
 |nt l τ b=>obtain⟨v,h1,h2⟩:=hf;exact⟨v,h.lv l v h1,h.own _ _ v h2⟩
 |ti i τ b=>trivial
theorem IF.tp {k:Nat}{u':St U}{β':List Tr}(h:Tp Y.C E a w u β u' β'):∀{xs:List DI} {n:Nat} {d:Dat U xs},IF Y E k u a w β n xs d→IF Y E k u' a w β' n xs d
 |[],_,_,_=>trivial
 |x::xs,n,d,⟨h1,h2⟩=>⟨h1.tp h,IF.tp h h2⟩
theorem bBt (r:bY Y.C E u a w β){k n:Nat}{x:DI}{d:x.ty U}(h:IF1 Y E k u a w β n x d):∃β',bY Y.C E (set1 Y k n u x d) a w β'∧Tp Y.C E a w u β (set1 Y k n u x d) β':=by
 cases x with
 |dat l kd=>
  obtain⟨v,h1,h2⟩:=h
  exact r.aBC h1 (Be (aMx aMy h2 (.inl fun _ h=>h)))
 |nat l=>
  obtain⟨v,h1,j,rfl,h2,h3⟩:=h
  have r1:bY Y.C E ⟨u.t,⟨u.m.o,u.m.k,u.m.ns++[((⟨j,false⟩:Nat×Bool))]⟩,u.fr⟩ a w β:=r.aBT (fun a' i f h=>⟨f,by rw[List.getElem?_append_left (lt_of_some h)];exact h⟩) (fun a' i h=>by
   by_cases hl:a'<u.m.ns.length
   ·rw[List.getElem?_append_left hl] at h;exact r.hp.cnt a' i h
   ·rw[List.getElem?_append_right (by omega)] at h
    cases hq:a'-u.m.ns.length with
    |zero=>rw[hq] at h;simp at h
    |succ q=>rw[hq] at h;simp at h)
  obtain⟨β',q1,q2⟩:=r1.aBC (l:=l) (v:=v) h1 (x:= .l (.nat (len u.m.ns))) ⟨j,false,by rw[dA];simp,h2,h3⟩
  exact⟨β',q1,⟨fun i q v h=>q2.own i q v h,q2.x,fun l v h=>q2.lv l v h⟩⟩
 |tr l i τ b=>
  obtain⟨v,h1,h2⟩:=h
  exact r.aBC h1 (x:= .l (.own i k)) h2
 |nt l τ b=>
  obtain⟨v,h1,h2⟩:=h
  exact r.aBC h1 (x:= .l (.own n k)) h2
 |ti i τ b=>exact⟨β,r,Tp.refl⟩
theorem aN7 {k:Nat}:∀(xs:List DI) {u:St U} {β:List Tr} {n:Nat} {d:Dat U xs},bY Y.C E u a w β→IF Y E k u a w β n xs d→∃β',bY Y.C E (sets Y k n u xs d) a w β'
 |[],_,β,_,_,r,_=>⟨β,r⟩
 |x::xs,u,β,n,d,r,⟨h1,h2⟩=>by
  obtain⟨β1,r1,t1⟩:=bBt r h1
  rw[aVq]
  exact aN7 xs r1 (IF.tp t1 h2)
end
end Go.EV

namespace Go.EV
open Go.RowKit Go.VK
variable {U:Uni} {Y:Lay U} {P:Program} {g:GI} {E:Env U g}
section
variable {b s:St U} {a a0:Act} {w w0:World} {β β0:List Tr}
theorem Fv {tm:Tm}{d:Dat U tm.it}(h:col Y b tm s=some d):∃q,X4 s tm.it=some q∧gets Y s tm.it=some d∧slI tm.ws tm.it=true∧bBb tm.aBI tm.dead b.m.k 0 b.m.o s.m.o=true∧bEa b.m.o.length tm.dead (yJ q)=true∧(yJ q).Nodup∧(gZ tm.it).Nodup∧bEb b.m.o.length (gZ tm.it)=true:=by
 unfold col at h
 cases hq:X4 s tm.it with
 |none=>rw[hq] at h;cases h
 |some q=>
  rw[hq] at h
  simp only at h
  cases hb:(slI tm.ws tm.it&&(bBb tm.aBI tm.dead b.m.k 0 b.m.o s.m.o&&(bEa (len b.m.o) tm.dead (yJ q)&&(dist (yJ q)&&(dist (gZ tm.it)&&bEb (len b.m.o) (gZ tm.it)))))) with
  |false=>rw[hb] at h;cases h
  |true=>
   rw[hb] at h
   simp only[cond_true] at h
   simp only[Bool.and_eq_true,dA] at hb
   obtain⟨h1,h2,h3,h4,h5,h6⟩:=hb
   exact⟨q,rfl,h,h1,h2,h3,rD.1 h4,rD.1 h5,h6⟩
theorem aVt {N:Nat}{dd:List Nat}:∀{l:List Nat},bEa N dd l=true→∀i∈l,N≤i∨i∈dd
 |[],_,i,h=>by simp at h
 |x::l,h,i,hi=>by
  simp only[bEa,Bool.and_eq_true,Bool.or_eq_true] at h
  rcases List.mem_cons.1 hi with rfl|hi
  ·exact h.1.imp Nat.le_of_ble_eq_true Bf.1
  ·exact aVt h.2 i hi
theorem aVu {N:Nat}:∀{l:List Nat},bEb N l=true→∀i∈l,i<N
 |[],_,i,h=>by simp at h
 |x::l,h,i,hi=>by
  simp only[bEb,Bool.and_eq_true] at h
  rcases List.mem_cons.1 hi with rfl|hi
  ·exact Nat.le_of_ble_eq_true h.1
  ·exact aVu h.2 i hi
theorem bBu {C:Cod U}{X:Nat→Prop}{m:Mm U}{v:Value}{x:Sv U}{i:Nat}(hm:x.mean C w X β m v)(h:bFw m x=some i):v= .int .i64 (i:Int)∧(i:Int)≤9223372036854775807:=by
 unfold bFw at h
 split at h
 ·obtain⟨i',f,h1,h2,h3⟩:=hm
  rw[bC,h1] at h
  have:=Option.some.inj h;subst this;exact⟨h2,h3⟩
 ·rename_i n
  obtain⟨h1,_,_⟩:=hm
  cases hn:decide (n=0) with
  |false=>rw[hn] at h;cases h
  |true=>
   rw[hn] at h
   have h:=Option.some.inj h
   have:=of_decide_eq_true hn
   subst this;subst h
   exact⟨h1,by simp⟩
 ·cases h
theorem aJb {C:Cod U}{m:Mm U}{X:Nat→Prop}{τ:Nat}{d:Bool}{v:Value}{x:Sv U}{q:Option Nat×List (U.El τ)}(hm:x.mean C w X β m v)(h:sJ m τ d x=some q):v.oneCell'=true∧v=(jH β q.1).val:=by
 unfold sJ at h
 split at h
 ·obtain rfl:=hm
  cases hb:Nat.ble 1 (U.K τ) with
  |false=>rw[hb] at h;cases h
  |true=>
   rw[hb] at h
   have:=Option.some.inj h;subst this
   exact⟨rfl,rfl⟩
 ·rename_i i r
  obtain⟨h1,e,t,h2,h3,h4⟩:=hm
  rw[bC,h2] at h
  obtain⟨ob,rv,cv⟩:=e
  cases ob with
  |tree τ' d' l=>
   simp only at h
   cases hb:(Nat.beq rv r&&(d'|| !d)) with
   |false=>rw[hb] at h;cases h
   |true=>
    rw[hb] at h
    simp only[cond_true] at h
    cases hq:slq τ τ' l with
    |none=>rw[hq] at h;cases h
    |some l'=>
     rw[hq] at h
     have:=Option.some.inj h;subst this
     simp only[Bool.and_eq_true] at hb
     refine⟨h1.2,?_⟩
     rw[h4 (Nat.eq_of_beq_eq_true hb.1)];simp[jH,h3]
  |_=>cases h
 ·cases h
theorem LV.ren {N M K:Nat}{σ:List (Option Nat)}{o:List (EO U)}(hlen:σ.length=o.length)(hs:∀(j:Nat) (q:Option Nat) (e':EO U),σ[j]? =some q→o[j]? =some e'→Src N M K s.m q j e')(r:bY Y.C E s a w β){l:Lo}{v:Value}(h:LV a w β s.m.o l v):LV a w (σ.map (jH β)) o l v:=by
 cases l with
 |s n=>exact h
 |c bb j=>
  intro e' he' hbx
  have hl:bb<σ.length:=by rw[hlen];exact lt_of_some he'
  have hq:σ[bb]? =some σ[bb]:=List.getElem?_eq_getElem hl
  have done:∀e:EO U,σ[bb]=some bb→s.m.o[bb]? =some e→e.ob.aAT=true→∃t blk vals T,(σ.map (jH β))[bb]? =some t∧t.b=some blk∧w.heap[blk]? =some (.cells vals T (0,0))∧vals[j]? =some v:=fun e hq' he hb=>by
   obtain⟨t,blk,vals,T,h1,h2,h3,h4⟩:=h e he hb
   exact⟨t,blk,vals,T,by rw[List.getElem?_map,hq,hq'];simp[jH,h1],h2,h3,h4⟩
  cases hs bb _ e' hq he' with
  |keep hq' he _=>exact done e' hq' he hbx
  |box hq' he h1 h2 _ _ _ _=>exact done _ hq' he (by rw[h1];rfl)
  |dead h' _=>rw[h'] at hbx;cases hbx
  |tree _ _ _ _ h' _=>rw[h'] at hbx;cases hbx
  |ti _ _ _ _ h' _ _=>rw[h'] at hbx;cases hbx
  |nil _ h' _ _=>rw[h'] at hbx;cases hbx
theorem aVv (r:bY Y.C E s a w β){k:Nat}{σ:List (Option Nat)}{o:List (EO U)}{u:St U}(huo:u.m.o=o)(huk:k≤u.m.k)(hX:∀b,E.X (σ.map (jH β)) b→E.X β b)(hfree:∀x:Nat,True)
  (hlv:∀(l:Lo) (v:Value),LV a w β s.m.o l v→LV a w (σ.map (jH β)) o l v):∀(xs:List DI) (n:Nat) (d:Dat U xs),gets Y s xs=some d→Plc k σ o s n xs→IF Y E k u a w (σ.map (jH β)) n xs d
 |[],_,_,_,_=>trivial
 | .dat l kd::xs,n,d,hg,hp=>by
  obtain⟨g1,g2⟩:=kG hg
  refine⟨?_,aVv r huo huk hX hfree hlv xs n (Dtl d) g2 hp⟩
  simp only[aWx] at g1
  cases hl:lkp s l with
  |none=>rw[hl] at g1;cases g1
  |some x=>
   rw[hl] at g1
   simp only at g1
   cases hf:aYt x with
   |false=>rw[hf] at g1;cases g1
   |true=>
    rw[hf] at g1
    obtain⟨v,h1,h2⟩:=Y5 r hl
    exact⟨v,by rw[huo];exact hlv l v h1,Bg r h2 g1 hX (.inl hf)⟩
 | .ti i τ bb::xs,n,d,hg,hp=>⟨trivial,aVv r huo huk hX hfree hlv xs n (Dtl d) (kG hg).2 hp⟩
 | .nat l::xs,n,d,hg,hp=>by
  obtain⟨g1,g2⟩:=kG hg
  refine⟨?_,aVv r huo huk hX hfree hlv xs n (Dtl d) g2 hp⟩
  simp only[aWx] at g1
  cases hl:lkp s l with
  |none=>rw[hl] at g1;cases g1
  |some x=>
   rw[hl] at g1
   obtain⟨v,h1,h2⟩:=Y5 r hl
   obtain⟨q1,q2⟩:=bBu h2 g1
   exact⟨v,by rw[huo];exact hlv l v h1,_,rfl,q1,q2⟩
 | .tr l i τ bb::xs,n,d,hg,⟨⟨v,q,e,p1,p2,p3,p4,p5⟩,hp⟩=>by
  obtain⟨g1,g2⟩:=kG hg
  refine⟨?_,aVv r huo huk hX hfree hlv xs n (Dtl d) g2 hp⟩
  obtain⟨v',h1,h2⟩:=Y5 r p1
  obtain⟨k1,k2⟩:=aJb h2 p2
  exact⟨v',by rw[huo];exact hlv l v' h1,⟨huk,k1⟩,e,jH β q.1,by rw[huo];exact p4,by rw[List.getElem?_map,p3];rfl,fun _=>k2⟩
 | .nt l τ bb::xs,n,d,hg,⟨⟨v,q,e,p1,p2,p3,p4,p5⟩,hp⟩=>by
  obtain⟨g1,g2⟩:=kG hg
  refine⟨?_,aVv r huo huk hX hfree hlv xs (Nat.succ n) (Dtl d) g2 hp⟩
  obtain⟨v',h1,h2⟩:=Y5 r p1
  obtain⟨k1,k2⟩:=aJb h2 p2
  exact⟨v',by rw[huo];exact hlv l v' h1,⟨huk,k1⟩,e,jH β q.1,by rw[huo];exact p4,by rw[List.getElem?_map,p3];rfl,fun _=>k2⟩
theorem uX (hE:E.fr=[])(rb:bY Y.C E b a0 w0 β0)(r:bY Y.C E s a w β){tm:Tm}(hag:Ag (fun n=>Ey tm.ws 0 n=true) b s){d:Dat U tm.it}(h:col Y b tm s=some d):∃β',bY Y.C E (reb Y b tm d) a w β':=by
 obtain⟨q,c1,c2,_,c3,c4,c5,c6,c7⟩:=Fv h
 have hI:=inv0 rb hag.m c3
 have hol:(Kn (Nat.succ b.m.k) tm.aBI (U9 (Nat.succ b.m.k) tm.dead b.m.o)).length=b.m.o.length:=by rw[Nn,Fq]
 obtain⟨i1,i2,_⟩:=Bh (Nat.lt_succ_self _) tm.it q d _ _ c1 c2 hI (fun i hi j hj=>by
  obtain⟨g1,g2⟩:=aM0 hj
  rcases g2 with⟨_,g2⟩|⟨g3,g2⟩
  ·cases g2
  ·have:=Option.some.inj g2;subst this
   rcases aVt c4 i hi with h|h
   ·omega
   ·exact g3 h) c5 (fun i hi=>by rw[hol];exact aVu c7 i hi) c6
 rw[hol] at i2
 obtain⟨H,ev⟩:=Hp.ren (m':=⟨aJx (Nat.succ b.m.k) tm.it d (Kn (Nat.succ b.m.k) tm.aBI (U9 (Nat.succ b.m.k) tm.dead b.m.o)),Nat.succ b.m.k,b.m.ns⟩) r.hp i1.len i1.ge i1.inj (Nat.le_succ _) i1.ver rb.hp.cnt (fun a' i f ha hn=>by
  have h1:b.m.ns[a']? =some b.m.ns[a']:=List.getElem?_eq_getElem ha
  obtain⟨f',h2⟩:=hag.m.ns a' (b.m.ns[a']).1 (b.m.ns[a']).2 h1
  rw[hn] at h2
  have h3:=congrArg Prod.fst (Option.some.inj h2)
  exact⟨(b.m.ns[a']).2,by rw[h1];simp only at h3;rw[h3]⟩) i1.src (fun x hx=>Sv.aBA (rb.hp.pin x hx)) hE
 have hX:∀bb,E.X ((sgm q (sg0 tm.dead b.m.o.length)).map (jH β)) bb→E.X β bb:=fun bb hb=>ev.hX bb (Hp.aBP H bb hb) hb
 have r1:bY Y.C E ⟨wip tm.ws b.t,⟨aJx (Nat.succ b.m.k) tm.it d (Kn (Nat.succ b.m.k) tm.aBI (U9 (Nat.succ b.m.k) tm.dead b.m.o)),Nat.succ b.m.k,b.m.ns⟩,b.fr⟩ a w ((sgm q (sg0 tm.dead b.m.o.length)).map (jH β)):=by
  refine⟨H,r.defers,?_,fun n x hx=> ?_⟩
  ·show a.tmps.size=(wip tm.ws b.t).length
   rw[bC5,r.tsz,hag.tl]
  ·have hx':=(aM1 (ws:=tm.ws) (p:=0) (n:=n) (l:=b.t)).symm.trans hx
   rw[Nat.zero_add] at hx'
   split at hx'
   ·cases hb:b.t[n]? with
    |none=>rw[hb] at hx';cases hx'
    |some y=>rw[hb] at hx';have:=Option.some.inj hx';subst this;trivial
   ·rename_i hn
    exact Sv.aAU ev (Sv.aBA (rb.tm n x hx')) (r.tm n x ((hag.t n hn).trans hx'))
 have hIF:=aVv (Y:=Y) (u:=⟨wip tm.ws b.t,⟨aJx (Nat.succ b.m.k) tm.it d (Kn (Nat.succ b.m.k) tm.aBI (U9 (Nat.succ b.m.k) tm.dead b.m.o)),Nat.succ b.m.k,b.m.ns⟩,b.fr⟩) r rfl (Nat.le_refl _) hX (fun _=>trivial) (fun l v h=>LV.ren i1.len i1.src r h) tm.it b.m.o.length d c2 i2
 have:=aN7 tm.it r1 hIF
 unfold reb
 rw[dA]
 exact this
theorem bIp {u:St U}{x:Sv U}{l:Lo}:(aBC u x l).fr=u.fr∧(aBC u x l).t.length=u.t.length∧Am u.m (aBC u x l).m∧∀n,(∀m,l= .s m→m≠n)→(aBC u x l).t[n]? =u.t[n]? :=by
 cases l with
 |s m=>
  refine⟨rfl,by simp only[aBC,put,cB,List.length_set],Am.refl _,fun n hn=> ?_⟩
  simp only[aBC,put,cB]
  rw[List.getElem?_set_ne (hn m rfl)]
 |c bb j=>
  unfold aBC
  simp only[bC]
  split
  ·rename_i T cs vs rv cv y he
   refine⟨rfl,rfl,Am.turn (ids:=[]) u.m fun _ e he'=> ?_,fun _ _=>rfl⟩
   rw[he] at he';have:=Option.some.inj he';subst this
   refine⟨rfl,fun T1 cs1 vs1 T' cs' vs' k1 k2=> ?_⟩
   injection k1 with a1 a2 a3
   injection k2 with b1 b2 b3
   subst a1;subst a2;subst a3;subst b1;subst b2;subst b3
   refine⟨rfl,by rw[cB,List.length_set],by rw[cB,List.length_set],fun i v hv hk=> ?_⟩
   rw[cB] at hv ⊢
   by_cases hij:j=i
   ·subst hij
    have hl:j<vs.length:=by have:=lt_of_some hv;simpa using this
    rw[List.getElem?_set_self hl] at hv
    have:=Option.some.inj hv;omega
   ·rw[List.getElem?_set_ne hij] at hv
    exact⟨List.getElem?_set_ne hij,hv⟩
  ·exact⟨rfl,rfl,Am.refl _,fun _ _=>rfl⟩
theorem Ag.aBC {D:Nat→Prop}{s0 u:St U}(h:Ag D s0 u){x:Sv U}{l:Lo}(hl:∀m,l= .s m→D m):Ag D s0 (aBC u x l):=by
 obtain⟨h1,h2,h3,h4⟩:=bIp (u:=u) (x:=x) (l:=l)
 exact⟨fun n hn=>(h4 n (fun m e e'=>hn (e'▸hl m e))).trans (h.t n hn),h2.trans h.tl,h1.trans h.fr,h.m.trans h3⟩
theorem Ag.set1 {D:Nat→Prop}{s0 u:St U}(h:Ag D s0 u){k n:Nat}{x:DI}{d:x.ty U}{ws:List (Nat×Nat)}{xs:List DI}(hx:slI ws (x::xs)=true)(hD:∀n,Ey ws 0 n=true→D n):Ag D s0 (set1 Y k n u x d)∧slI ws xs=true:=by
 have key:∀l:Lo,(match l with| .s n=>Ey ws 0 n&&slI ws xs| .c .. =>slI ws xs)=true→(∀m,l= .s m→D m)∧slI ws xs=true:=fun l hl=>by
  cases l with
  |s m=>simp only[Bool.and_eq_true] at hl;exact⟨fun m' e=>by injection e with e;subst e;exact hD _ hl.1,hl.2⟩
  |c=>exact⟨fun m e=>(by cases e),hl⟩
 cases x with
 |dat l kd=>
  obtain⟨k1,k2⟩:=key l (by cases l<;>exact hx)
  exact⟨h.aBC k1,k2⟩
 |nat l=>
  obtain⟨k1,k2⟩:=key l (by cases l<;>exact hx)
  refine⟨Ag.aBC (u:=⟨u.t,⟨u.m.o,u.m.k,u.m.ns++[((⟨d,false⟩:Nat×Bool))]⟩,u.fr⟩) ⟨h.t,h.tl,h.fr,h.m.trans (Am.aBT _ fun a' i f h=>⟨f,by rw[List.getElem?_append_left (lt_of_some h)];exact h⟩)⟩ k1,k2⟩
 |tr l i τ bb=>
  obtain⟨k1,k2⟩:=key l (by cases l<;>exact hx)
  exact⟨h.aBC k1,k2⟩
 |nt l τ bb=>
  obtain⟨k1,k2⟩:=key l (by cases l<;>exact hx)
  exact⟨h.aBC k1,k2⟩
 |ti i τ bb=>exact⟨h,hx⟩
theorem Ag.sets {D:Nat→Prop}{s0:St U}{k:Nat}{ws:List (Nat×Nat)}(hD:∀n,Ey ws 0 n=true→D n):∀(xs:List DI) {u:St U} {n:Nat} {d:Dat U xs},slI ws xs=true→Ag D s0 u→Ag D s0 (sets Y k n u xs d)
 |[],_,_,_,_,h=>h
 |x::xs,u,n,d,hx,h=>by
  obtain⟨h1,h2⟩:=h.set1 (Y:=Y) (k:=k) (n:=n) (d:=Dhd d) hx hD
  rw[aVq]
  exact Ag.sets hD xs h2 h1
theorem aN8 {k:Nat}:∀(xs:List DI) {d:Dat U xs} {o:List (EO U)} {j:Nat} {e:EO U},o[j]? =some e→∃e',(aJx k xs d o)[j]? =some e'∧(e'=e∨(e'.cv=k∧e'.ob.aAT=false))
 |[],_,o,j,e,h=>⟨e,h, .inl rfl⟩
 |x::xs,d,o,j,e,h=>by
  rw[qG]
  have h1:∃e1,(aNl k x (Dhd d) o)[j]? =some e1∧(e1=e∨(e1.cv=k∧e1.ob.aAT=false)):=by
   cases x with
   |dat l kd=>exact⟨e,h, .inl rfl⟩
   |nat l=>exact⟨e,h, .inl rfl⟩
   |tr l i τ bb=>
    show ∃e1,(upd o i (⟨.tree τ bb _,k,k⟩:EO U))[j]? =some e1∧_
    rw[cB]
    by_cases hij:i=j
    ·subst hij
     exact⟨_,List.getElem?_set_self (lt_of_some h), .inr ⟨rfl,rfl⟩⟩
    ·exact⟨e,by rw[List.getElem?_set_ne hij];exact h, .inl rfl⟩
   |ti i τ bb=>
    show ∃e1,(upd o i (⟨.tree τ bb _,0,k⟩:EO U))[j]? =some e1∧_
    rw[cB]
    by_cases hij:i=j
    ·subst hij
     exact⟨_,List.getElem?_set_self (lt_of_some h), .inr ⟨rfl,rfl⟩⟩
    ·exact⟨e,by rw[List.getElem?_set_ne hij];exact h, .inl rfl⟩
   |nt l τ bb=>
    show ∃e1,(o++[(⟨.tree τ bb _,k,k⟩:EO U)])[j]? =some e1∧_
    exact⟨e,by rw[List.getElem?_append_left (lt_of_some h)];exact h, .inl rfl⟩
  obtain⟨e1,h1,h2⟩:=h1
  obtain⟨e',h3,h4⟩:=aN8 xs (d:=Dtl d) h1
  refine⟨e',h3,?_⟩
  rcases h4 with rfl|h4
  ·exact h2
  ·exact .inr h4
theorem aZk {k:Nat}:∀(xs:List DI) {d:Dat U xs} {o:List (EO U)},o.length≤(aJx k xs d o).length
 |[],_,o=>Nat.le_refl _
 |x::xs,d,o=>by
  rw[qG]
  refine Nat.le_trans ?_ (aZk xs)
  cases x with
  |dat=>exact Nat.le_refl _
  |nat=>exact Nat.le_refl _
  |tr l i τ bb=>show o.length≤(upd o i _).length;rw[cB,List.length_set];exact Nat.le_refl _
  |nt l τ bb=>show o.length≤(o++[_]).length;simp
  |ti i τ bb=>show o.length≤(upd o i _).length;rw[cB,List.length_set];exact Nat.le_refl _
theorem aD3 {tm:Tm}{d:Dat U tm.it}(h:slI tm.ws tm.it=true):Ag (fun n=>Ey tm.ws 0 n=true) b (reb Y b tm d):=by
 unfold reb
 refine Ag.sets (fun _ h=>h) tm.it h ⟨fun n hn=> ?_,bC5,rfl,?_⟩
 ·have:=aM1 (ws:=tm.ws) (p:=0) (n:=n) (l:=b.t)
  rw[Nat.zero_add,if_neg hn] at this
  exact this
 ·refine⟨Nat.le_succ _,fun _ _ f h=>⟨f,h⟩,?_,fun i e e' he he'=> ?_⟩
  ·refine Nat.le_trans ?_ (aZk tm.it)
   rw[Nn,Fq];exact Nat.le_refl _
  ·have hl:=lt_of_some he
   by_cases hd:i∈tm.dead
   ·obtain⟨e1,h1,h2,_⟩:=vK (k:=Nat.succ b.m.k) (aDz (k:=Nat.succ b.m.k) hd hl) tm.aBI
    have e1d:=h2 (.inl rfl)
    obtain⟨e2,h3,h4⟩:=aN8 (k:=Nat.succ b.m.k) tm.it (d:=d) h1
    have:=Option.some.inj (h3.symm.trans he');subst this
    have:e2.cv=Nat.succ b.m.k∧e2.ob.aAT=false:=by
     rcases h4 with rfl|h4
     ·rw[e1d];exact⟨rfl,rfl⟩
     ·exact h4
    refine⟨fun hh=>by omega,fun hh=>(by rw[this.2] at hh;cases hh),fun T cs vs T' cs' vs' _ hh=> ?_⟩
    rw[hh] at this;cases this.2
   ·have h0:(U9 (Nat.succ b.m.k) tm.dead b.m.o)[i]? =some e:=by rw[uQ hd];exact he
    obtain⟨e1,h1,h2,h5⟩:=vK (k:=Nat.succ b.m.k) h0 tm.aBI
    obtain⟨e2,h3,h4⟩:=aN8 (k:=Nat.succ b.m.k) tm.it (d:=d) h1
    have:=Option.some.inj (h3.symm.trans he');subst this
    rcases h4 with rfl|h4
    ·by_cases hk:e.ob.aAT=false∨hasB i tm.aBI=false
     ·have:=h2 hk;subst this
      exact(Am.refl b.m).o i _ _ he he
     ·have hB:hasB i tm.aBI=true:=by
       cases hh:hasB i tm.aBI with
       |true=>rfl
       |false=>exact absurd (.inr hh) hk
      cases ho:e.ob with
      |box T cs vs=>
       obtain⟨cs',vs',k1,k2,k3,k4,k5⟩:=h5 T cs vs ho
       obtain⟨q1,q2⟩:=k4 hB
       refine⟨fun hh=>by omega,fun _=>rfl,fun T1 cs1 vs1 T2 cs2 vs2 g1 g2=> ?_⟩
       rw[k1] at g2
       injection g1 with a1 a2 a3
       injection g2 with b1 b2 b3
       subst a1;subst a2;subst a3;subst b1;subst b2;subst b3
       refine⟨rfl,k2,k3,fun j v hv hvk=> ?_⟩
       cases hA:aNk i j tm.aBI with
       |true=>have:=(k5 j).2.1 hA v hv;omega
       |false=>
        obtain⟨z1,z2⟩:=(k5 j).2.2 hA
        exact⟨z1,z2.symm.trans hv⟩
      |_=>exact absurd (.inl (by rw[ho];rfl)) hk
    ·refine⟨fun hh=>by omega,fun hh=>(by rw[h4.2] at hh;cases hh),fun T cs vs T' cs' vs' _ hh=> ?_⟩
     rw[hh] at h4;cases h4.2
end
end Go.EV

namespace Go.EV
open Go.RowKit Go.VK
variable {U:Uni} {Y:Lay U} {TI:List (Nat×TInfo)} {FZ:List (Nat×Sum U)} {IL:Il} {P:Program} {g:GI} {E:Env U g}
def WC (D:Nat→Prop):Code→Prop
 | .seq a b=>WC D a∧WC D b
 | .cond c a b=>(∀n,c= .tmp n→D n)∧WC D a∧WC D b
 | .block _ c=>WC D c
 | .loop c=>WC D c
 | .region _ os _=>∀o∈os.toList,∀n,Wr os.toList o n→D n
 |_=>True
def AW (D:Nat→Prop):An→Prop
 | .s a b=>AW D a∧AW D b
 | .j t a=>(∀n,Ey t.ws 0 n=true→D n)∧AW D a
 | .jx t a=>(∀n,Ey t.ws 0 n=true→D n)∧AW D a
 | .l t _ a=>(∀n,Ey t.ws 0 n=true→D n)∧AW D a
 | .rj _ t _=>∀n,Ey t.ws 0 n=true→D n
 |_=>True
theorem AW.true:∀an:An,AW (fun _=>True) an
 | .n=>trivial
 | .s a b=>⟨AW.true a,AW.true b⟩
 | .j t a=>⟨fun _ _=>trivial,AW.true a⟩
 | .jx t a=>⟨fun _ _=>trivial,AW.true a⟩
 | .l t _ a=>⟨fun _ _=>trivial,AW.true a⟩
 | .r .. =>trivial
 | .rj .. =>fun _ _=>trivial
 | .z .. =>trivial
 | .y .. =>trivial
 | .w .. =>trivial
 | .il .. =>trivial
theorem aVw:∀{ws:List (Nat×Nat)} {p lo hi n:Nat},bIc ws p lo hi=true→lo≤n→n<hi→Ey ws p n=true
 |[],_,_,_,_,h,_,_=>by cases h
 |(a,b)::r,p,lo,hi,n,h,h1,h2=>by
  simp only[bIc,Bool.or_eq_true,Bool.and_eq_true] at h
  simp only[Ey,Bool.or_eq_true,Bool.and_eq_true]
  rcases h with⟨k1,k2⟩|h
  ·have:=Nat.le_of_ble_eq_true k1;have:=Nat.le_of_ble_eq_true k2
   exact .inl ⟨Nat.ble_eq_true_of_le (by omega),Nat.ble_eq_true_of_le (by omega)⟩
  ·exact .inr (aVw h h1 h2)
theorem Bi {ws:List (Nat×Nat)}:∀{r:List (Nat×Nat)} {p n:Nat},bBe ws r p=true→Ey r p n=true→Ey ws 0 n=true
 |[],_,_,_,h=>by cases h
 |(a,b)::r,p,n,h,h1=>by
  simp only[bBe,Bool.and_eq_true,Bool.or_eq_true] at h
  simp only[Ey,Bool.or_eq_true,Bool.and_eq_true] at h1
  rcases h1 with⟨k1,k2⟩|h1
  ·have:=Nat.le_of_ble_eq_true k1;have:=Nat.le_of_ble_eq_true k2
   rcases h.1 with h|h
   ·have:=Nat.eq_of_beq_eq_true h;omega
   ·exact aVw h (by omega) (by omega)
  ·exact Bi h.2 h1
theorem rE {ws:List (Nat×Nat)}:∀{an:An},anW ws an=true→AW (fun n=>Ey ws 0 n=true) an
 | .n,_=>trivial
 | .s a b,h=>by simp only[anW,Bool.and_eq_true] at h;exact⟨rE h.1,rE h.2⟩
 | .j t a,h=>by simp only[anW,Bool.and_eq_true] at h;exact⟨fun n=>Bi h.1,rE h.2⟩
 | .jx t a,h=>by simp only[anW,Bool.and_eq_true] at h;exact⟨fun n=>Bi h.1,rE h.2⟩
 | .l t _ a,h=>by simp only[anW,Bool.and_eq_true] at h;exact⟨fun n=>Bi h.1,rE h.2⟩
 | .r ..,_=>trivial
 | .rj ..,h=>fun n=>Bi h
 | .z ..,_=>trivial
 | .y ..,_=>trivial
 | .w ..,_=>trivial
 | .il ..,_=>trivial
theorem AW.a {D:Nat→Prop}{an:An}(h:AW D an):AW D an.a:=by
 cases an<;>first|exact h.1|trivial
theorem AW.b {D:Nat→Prop}{an:An}(h:AW D an):AW D an.b:=by
 cases an<;>first|exact h.2|trivial
theorem Y6 {ws:List (Nat×Nat)}{al:List Oper}:∀{l:List Oper},wrG ws al l=true→∀o∈l,∀n,Wr al o n→Ey ws 0 n=true
 |[],_,o,h=>by simp at h
 |x::l,h,o,ho=>by
  have e:wrG ws al (x::l)=cond ((match x.dst with|some n=>Ey ws 0 n|none=>true)&&(match x.guard with|some (j,_)=>(match nth al j with|some oj=>(match oj.dst with|some n=>Ey ws 0 n|none=>true)|none=>true)|none=>true)) (wrG ws al l) false:=rfl
  rw[e] at h
  cases hc:((match x.dst with|some n=>Ey ws 0 n|none=>true)&&(match x.guard with|some (j,_)=>(match nth al j with|some oj=>(match oj.dst with|some n=>Ey ws 0 n|none=>true)|none=>true)|none=>true)) with
  |false=>rw[hc] at h;cases h
  |true=>
   rw[hc] at h
   simp only[cond_true] at h
   rcases List.mem_cons.1 ho with rfl|ho
   ·simp only[Bool.and_eq_true] at hc
    rintro n (hn|⟨j,b,oj,h1,h2,h3⟩)
    ·have:=hc.1;rw[hn] at this;exact this
    ·have:=hc.2;rw[h1] at this;simp only[bC,h2,h3] at this;exact this
   ·exact Y6 h o ho
theorem aXh {ws:List (Nat×Nat)}:∀{f:Nat} {c:Code},wr ws f c=true→WC (fun n=>Ey ws 0 n=true) c:=by
 intro f
 induction f with
 |zero=>intro c h;cases h
 |succ f ih=>
  intro c h
  cases c with
  |seq a b=>
   replace h:(wr ws f a&&wr ws f b)=true:=h
   simp only[Bool.and_eq_true] at h;exact⟨ih h.1,ih h.2⟩
  |cond c a b=>
   cases c with
   |tmp n=>
    replace h:(Ey ws 0 n&&(wr ws f a&&wr ws f b))=true:=h
    simp only[Bool.and_eq_true] at h
    exact⟨fun n' e=>by injection e with e;subst e;exact h.1,ih h.2.1,ih h.2.2⟩
   |_=>cases h
  |block id c=>exact ih (c:=c) h
  |loop c=>exact ih (c:=c) h
  |region id os d=>exact Y6 (show wrG ws os.toList os.toList=true from h)
  |_=>trivial
section
variable {α:Type}
def Snd (P:Program)(Y:Lay U)(E:Env U g)(D:Nat→Prop)(c:Code)(s:St U){α:Type}(z:α)(N:St U→Option α)(X:Nat→St U→Option α)(R:St U→Option α):Prop:=
 ∀Q:Exit→Act→World→Prop,(∀s' a w β,Ag D s s'→N s'=some z→bY Y.C E s' a w β→Q .normal a w)→(∀i s' a w β,Ag D s s'→X i s'=some z→bY Y.C E s' a w β→Q (.exit i) a w)→(∀s' a w β,Ag D s s'→R s'=some z→bY Y.C E s' a w β→Q .ret a w)→
  ∀a w β,bY Y.C E s a w β→c.wp P Q a w
def bC6 (P:Program)(Y:Lay U)(TI:List (Nat×TInfo))(FZ:List (Nat×Sum U))(IL:Il)(g:GI):Prop:=
 ∀(E:Env U g),E.fr=[]→E.prm=[]→∀(α:Type) (EV:An→Code→St U→(St U→Option α)→Option α),(∀(E:Env U g),E.fr=[]→E.prm=[]→∀(an:An) (c:Code) (s:St U) (K:St U→Option α) (z:α),EV an c s K=some z→Snd P Y E (fun _=>True) c s z K (fun _ _=>none) K)→
  ∀(id:Nat) (os:Array Oper) (d:Bool) (an:An) (s:St U) (N:St U→Option α) (X:Nat→St U→Option α) (R:St U→Option α) (z:α) (D:Nat→Prop),(∀o∈os.toList,∀n,Wr os.toList o n→D n)→AW D an→bF3 Y TI FZ IL EV os.toList os d an s N=some z→Snd P Y E D (.region id os d) s z N X R
theorem WC.true:∀c:Code,WC (fun _=>True) c:=fun c=>by
 induction c with
 |seq a b h1 h2=>exact⟨h1,h2⟩
 |cond c a b h1 h2=>exact⟨fun _ _=>trivial,h1,h2⟩
 |block id c h=>exact h
 |loop c h=>exact h
 |region id os d=>exact fun _ _ _ _=>trivial
 |_=>trivial
def NJ (an:An):Prop:=(∀tm a,an≠ .j tm a)∧∀tm a,an≠ .jx tm a
section
variable {f:Nat} {an:An} {s:St U} {N:St U→Option α} {X:Nat→St U→Option α} {R:St U→Option α}
theorem bKp (h:NJ an){a b:Code}:ev Y TI FZ IL (f+1) an (.seq a b) α s N X R=ev Y TI FZ IL f an.a a α s (fun s'=>ev Y TI FZ IL f an.b b α s' N X R) X R:=by
 cases an<;>first|exact absurd rfl (h.1 _ _)|exact absurd rfl (h.2 _ _)|rfl
theorem bIq (h:NJ an){n:Nat}{a b:Code}:ev Y TI FZ IL (f+1) an (.cond (.tmp n) a b) α s N X R=tst n s (fun s=>ev Y TI FZ IL f an.a a α s N X R) (fun s=>ev Y TI FZ IL f an.b b α s N X R):=by
 cases an<;>first|exact absurd rfl (h.1 _ _)|exact absurd rfl (h.2 _ _)|rfl
theorem bGq (h:NJ an){c:Operand}{a b:Code}{z:α}(hz:ev Y TI FZ IL (f+1) an (.cond c a b) α s N X R=some z):∃n,c= .tmp n:=by
 cases c with
 |tmp n=>exact⟨n,rfl⟩
 |_=>cases an<;>first|exact absurd rfl (h.1 _ _)|exact absurd rfl (h.2 _ _)|cases hz
theorem bGr (h:NJ an){id:Nat}{c:Code}:ev Y TI FZ IL (f+1) an (.block id c) α s N X R=ev Y TI FZ IL f an.a c α s N (fun i s'=>bif Nat.beq i id then N s' else X i s') R:=by
 cases an<;>first|exact absurd rfl (h.1 _ _)|exact absurd rfl (h.2 _ _)|rfl
theorem bIr (h:NJ an){c:Code}{z:α}(hz:ev Y TI FZ IL (f+1) an (.loop c) α s N X R=some z):(∃tm n a,an= .l tm n a∧(bif wr tm.ws f c&&anW tm.ws a then bd (col Y s tm s) (bX n fun rec d=>ev Y TI FZ IL f a c α (reb Y s tm d) (fun s'=>bd (col Y s tm s') rec) X R) else none)=some z)∨∃a b,an= .s a b∧NJ b∧ev Y TI FZ IL f a c α s (fun s'=>ev Y TI FZ IL f b (.loop c) α s' N X R) X R=some z:=by
 cases an with
 |l tm n a=>exact .inl ⟨tm,n,a,rfl,hz⟩
 |s a b=>
  refine .inr ⟨a,b,rfl,?_⟩
  replace hz:(bif bKj b then ev Y TI FZ IL f a c α s (fun s'=>ev Y TI FZ IL f b (.loop c) α s' N X R) X R else none)=some z:=hz
  cases hb:bKj b with
  |false=>rw[hb] at hz;cases hz
  |true=>
   rw[hb] at hz
   refine⟨?_,hz⟩
   cases b<;>first|(simp[NJ];done)|cases hb
 |j=>exact absurd rfl (h.1 _ _)
 |jx=>exact absurd rfl (h.2 _ _)
 |_=>cases hz
theorem bIs (h:NJ an):ev Y TI FZ IL (f+1) an .skip α s N X R=N s:=by
 cases an<;>first|exact absurd rfl (h.1 _ _)|exact absurd rfl (h.2 _ _)|rfl
theorem bKq (h:NJ an):ev Y TI FZ IL (f+1) an .ret α s N X R=R s:=by
 cases an<;>first|exact absurd rfl (h.1 _ _)|exact absurd rfl (h.2 _ _)|rfl
theorem bIt (h:NJ an){i:Nat}:ev Y TI FZ IL (f+1) an (.exit i) α s N X R=X i s:=by
 cases an<;>first|exact absurd rfl (h.1 _ _)|exact absurd rfl (h.2 _ _)|rfl
theorem bEw (h:NJ an){id:Nat}{os:Array Oper}{d:Bool}:ev Y TI FZ IL (f+1) an (.region id os d) α s N X R=bF3 Y TI FZ IL (fun a c s K=>ev Y TI FZ IL f a c α s K (fun _ _=>none) K) os.toList os d an s N:=by
 cases an<;>first|exact absurd rfl (h.1 _ _)|exact absurd rfl (h.2 _ _)|rfl
end
theorem bGs (an:An):(∃tm a,an= .j tm a)∨(∃tm a,an= .jx tm a)∨NJ an:=by
 cases an<;>simp[NJ]
def LoopIn (P:Program)(Y:Lay U)(E:Env U g)(D:Nat→Prop)(c':Code)(s:St U){α:Type}(z:α)(N:St U→Option α)(X:Nat→St U→Option α)(R:St U→Option α):Prop:=
 ∀Q:Exit→Act→World→Prop,(∀s' a w β,Ag D s s'→N s'=some z→bY Y.C E s' a w β→Q .normal a w)→(∀i s' a w β,Ag D s s'→X i s'=some z→bY Y.C E s' a w β→Q (.exit i) a w)→(∀s' a w β,Ag D s s'→R s'=some z→bY Y.C E s' a w β→Q .ret a w)→
  ∀a w β,bY Y.C E s a w β→∀(b:Frame) (kk:List Item) (cs:List Frame),∃e a' w',Q e a' w'∧Arrives P (lone (b.at a (.code c':: .inLoop c'::kk)) cs w) b kk cs e a' w'
def aZl (P:Program)(Y:Lay U)(TI:List (Nat×TInfo))(FZ:List (Nat×Sum U))(IL:Il)(g:GI)(f:Nat):Prop:=∀(E:Env U g),E.fr=[]→E.prm=[]→∀(an:An) (c:Code) (α:Type) (s:St U) (N:St U→Option α) (X:Nat→St U→Option α) (R:St U→Option α) (z:α) (D:Nat→Prop),WC D c→AW D an→ev Y TI FZ IL f an c α s N X R=some z→Snd P Y E D c s z N X R
def aXi (P:Program)(Y:Lay U)(TI:List (Nat×TInfo))(FZ:List (Nat×Sum U))(IL:Il)(g:GI)(f:Nat):Prop:=∀(E:Env U g),E.fr=[]→E.prm=[]→∀(an:An) (c':Code) (α:Type) (s:St U) (N:St U→Option α) (X:Nat→St U→Option α) (R:St U→Option α) (z:α) (D:Nat→Prop),NJ an→WC D c'→AW D an→ev Y TI FZ IL f an (.loop c') α s N X R=some z→LoopIn P Y E D c' s z N X R
theorem bC7 {f:Nat}(IH:aZl P Y TI FZ IL g f∧aXi P Y TI FZ IL g f):aXi P Y TI FZ IL g (f+1):=by
 intro E hE hP an c' α s N X R z D hn hw ha h Q hN hX hR a0 w0 β0 r0 b kk cs
 rcases bIr hn h with⟨tm,n,a,rfl,h'⟩|⟨a,b2,rfl,hn2,h'⟩<;>replace h:=h'
 ·cases hb:(wr tm.ws f c'&&anW tm.ws a) with
  |false=>rw[hb] at h;cases h
  |true=>
   rw[hb] at h
   simp only[cond_true] at h
   simp only[Bool.and_eq_true] at hb
   obtain⟨d0,h1,h2⟩:=aC h
   have key:∀(m:Nat) (d:Dat U tm.it),bX m (fun rec d=>ev Y TI FZ IL f a c' α (reb Y s tm d) (fun s'=>bd (col Y s tm s') rec) X R) d=some z→∀a1 w1 β1,bY Y.C E (reb Y s tm d) a1 w1 β1→Ag (fun n=>Ey tm.ws 0 n=true) s (reb Y s tm d)→∀(b:Frame) (kk:List Item) (cs:List Frame),
     ∃e a' w',Q e a' w'∧Arrives P (lone (b.at a1 (.code c':: .inLoop c'::kk)) cs w1) b kk cs e a' w':=by
    intro m
    induction m with
    |zero=>intro d hd;cases hd
    |succ m ih=>
     intro d hd a1 w1 β1 r1 hg b kk cs
     have hd':ev Y TI FZ IL f a c' α (reb Y s tm d) (fun s'=>bd (col Y s tm s') (bX m (fun rec d=>ev Y TI FZ IL f a c' α (reb Y s tm d) (fun s'=>bd (col Y s tm s') rec) X R))) X R=some z:=hd
     have hbody:=IH.1 E hE hP a c' _ _ _ _ _ z _ (aXh hb.1) (rE hb.2) hd' (Exit.then (fun a' w'=>∃d' β',bX m (fun rec d=>ev Y TI FZ IL f a c' α (reb Y s tm d) (fun s'=>bd (col Y s tm s') rec) X R) d'=some z∧bY Y.C E (reb Y s tm d') a' w' β'∧Ag (fun n=>Ey tm.ws 0 n=true) s (reb Y s tm d')) Q)
      (fun s2 a2 w2 β2 hg2 hc r2=>by
       obtain⟨d',q1,q2⟩:=aC hc
       obtain⟨β',r'⟩:=uX hE r0 r2 (hg.trans hg2) q1
       obtain⟨_,_,_,hs,_⟩:=Fv q1
       exact⟨d',β',q2,r',aD3 hs⟩)
      (fun i s2 a2 w2 β2 hg2 hc r2=>hX i s2 a2 w2 β2 ((hg.trans hg2).mono ha.1) hc r2)
      (fun s2 a2 w2 β2 hg2 hc r2=>hR s2 a2 w2 β2 ((hg.trans hg2).mono ha.1) hc r2) a1 w1 β1 r1 b (.inLoop c'::kk) cs
     obtain⟨e,a₁,w₁,hq,harr⟩:=hbody
     cases e with
     |normal=>
      obtain⟨d',β',j1,j2,j3⟩:=hq
      obtain⟨e₂,a₂,w₂,hq₂,harr₂⟩:=ih d' j1 a₁ w₁ β' j2 j3 b kk cs
      exact⟨e₂,a₂,w₂,hq₂, .of_steps (Steps.trans harr (.one step_inLoop)) harr₂⟩
     |exit id=>exact⟨_,a₁,w₁,hq, .pass (x:= .inLoop c') rfl (fun _ _=> .inl (by simp)) harr⟩
     |goto l=>exact⟨_,a₁,w₁,hq, .pass (x:= .inLoop c') rfl (fun _ _=> .inl (by simp)) harr⟩
     |ret=>exact⟨_,a₁,w₁,hq, .pass (x:= .inLoop c') rfl (fun _ _=> .inl (by simp)) harr⟩
     |panic ch=>exact⟨_,a₁,w₁,hq, .pass (x:= .inLoop c') rfl (fun _ _=> .inl (by simp)) harr⟩
     |outgrown=>exact⟨_,a₁,w₁,hq, .pass (x:= .inLoop c') rfl (fun _ _=> .inl (by simp)) harr⟩
   obtain⟨β1,r1⟩:=uX hE r0 r0 (Ag.refl s) h1
   obtain⟨_,_,_,hs,_⟩:=Fv h1
   exact key n d0 h2 a0 w0 β1 r1 (aD3 hs) b kk cs
 ·have hbody:=IH.1 E hE hP a c' _ s _ _ _ z D hw ha.1 h (Exit.then (fun a' w'=>∃s' β',ev Y TI FZ IL f b2 (.loop c') α s' N X R=some z∧bY Y.C E s' a' w' β'∧Ag D s s') Q)
   (fun s2 a2 w2 β2 hg2 hc r2=>⟨s2,β2,hc,r2,hg2⟩)
   (fun i s2 a2 w2 β2 hg2 hc r2=>hX i s2 a2 w2 β2 hg2 hc r2)
   (fun s2 a2 w2 β2 hg2 hc r2=>hR s2 a2 w2 β2 hg2 hc r2) a0 w0 β0 r0 b (.inLoop c'::kk) cs
  obtain⟨e,a₁,w₁,hq,harr⟩:=hbody
  cases e with
  |normal=>
   obtain⟨s',β',j1,j2,j3⟩:=hq
   obtain⟨e₂,a₂,w₂,hq₂,harr₂⟩:=IH.2 E hE hP b2 c' _ s' N X R z D hn2 hw ha.2 j1 Q (fun s2 a2 w2 β2 hg=>hN s2 a2 w2 β2 (j3.trans hg)) (fun i s2 a2 w2 β2 hg=>hX i s2 a2 w2 β2 (j3.trans hg)) (fun s2 a2 w2 β2 hg=>hR s2 a2 w2 β2 (j3.trans hg)) a₁ w₁ β' j2 b kk cs
   exact⟨e₂,a₂,w₂,hq₂, .of_steps (Steps.trans harr (.one step_inLoop)) harr₂⟩
  |exit id=>exact⟨_,a₁,w₁,hq, .pass (x:= .inLoop c') rfl (fun _ _=> .inl (by simp)) harr⟩
  |goto l=>exact⟨_,a₁,w₁,hq, .pass (x:= .inLoop c') rfl (fun _ _=> .inl (by simp)) harr⟩
  |ret=>exact⟨_,a₁,w₁,hq, .pass (x:= .inLoop c') rfl (fun _ _=> .inl (by simp)) harr⟩
  |panic ch=>exact⟨_,a₁,w₁,hq, .pass (x:= .inLoop c') rfl (fun _ _=> .inl (by simp)) harr⟩
  |outgrown=>exact⟨_,a₁,w₁,hq, .pass (x:= .inLoop c') rfl (fun _ _=> .inl (by simp)) harr⟩
theorem bKr (HR:bC6 P Y TI FZ IL g){f:Nat}(IH:aZl P Y TI FZ IL g f∧aXi P Y TI FZ IL g f):aZl P Y TI FZ IL g (f+1):=by
  intro E hE hP an c α s N X R z D hw ha h
  rcases bGs an with⟨tm,a,rfl⟩|⟨tm,a,rfl⟩|hn
  ·replace h:(bif wr tm.ws f c&&anW tm.ws a then bd (ev Y TI FZ IL f a c (Dat U tm.it) s (fun s'=>col Y s tm s') (fun _ _=>none) (fun _=>none)) fun d=>N (reb Y s tm d) else none)=some z:=h
   cases hb:(wr tm.ws f c&&anW tm.ws a) with
   |false=>rw[hb] at h;cases h
   |true=>
    rw[hb] at h
    simp only[cond_true] at h
    simp only[Bool.and_eq_true] at hb
    obtain⟨d,h1,h2⟩:=aC h
    intro Q hN hX hR a0 w0 β0 r0
    refine IH.1 E hE hP a c _ s _ _ _ d _ (aXh hb.1) (rE hb.2) h1 Q (fun s' a' w' β' hag hc r'=> ?_) (fun i s' a' w' β' _ hc _=>by cases hc) (fun s' a' w' β' _ hc _=>by cases hc) a0 w0 β0 r0
    obtain⟨β'',r''⟩:=uX hE r0 r' hag hc
    obtain⟨_,_,_,hs,_⟩:=Fv hc
    exact hN _ _ _ _ ((aD3 hs).mono ha.1) h2 r''
  ·replace h:(bif wr tm.ws f c&&anW tm.ws a then nx (ev Y TI FZ IL f a c (α⊕Dat U tm.it) s (fun s'=>bd (col Y s tm s') fun d=>some (.inr d)) (fun i s'=>bd (X i s') fun r=>some (.inl r)) (fun s'=>bd (R s') fun r=>some (.inl r))) fun d=>N (reb Y s tm d) else none)=some z:=h
   cases hb:(wr tm.ws f c&&anW tm.ws a) with
   |false=>rw[hb] at h;cases h
   |true=>
    rw[hb] at h
    simp only[cond_true] at h
    simp only[Bool.and_eq_true] at hb
    obtain⟨q,h1,h2⟩:=bH5 h
    intro Q hN hX hR a0 w0 β0 r0
    refine IH.1 E hE hP a c _ s _ _ _ q _ (aXh hb.1) (rE hb.2) h1 Q (fun s' a' w' β' hag hc r'=> ?_) (fun i s' a' w' β' hag hc r'=> ?_) (fun s' a' w' β' hag hc r'=> ?_) a0 w0 β0 r0
    ·obtain⟨d,h3,h4⟩:=aC hc
     have:=Option.some.inj h4;subst this
     obtain⟨β'',r''⟩:=uX hE r0 r' hag h3
     obtain⟨_,_,_,hs,_⟩:=Fv h3
     exact hN _ _ _ _ ((aD3 hs).mono ha.1) h2 r''
    ·obtain⟨d,h3,h4⟩:=aC hc
     have:=Option.some.inj h4;subst this
     obtain rfl:d=z:=h2
     exact hX i s' a' w' β' (hag.mono ha.1) h3 r'
    ·obtain⟨d,h3,h4⟩:=aC hc
     have:=Option.some.inj h4;subst this
     obtain rfl:d=z:=h2
     exact hR s' a' w' β' (hag.mono ha.1) h3 r'
  cases c with
  |seq a b=>
   rw[bKp hn] at h
   intro Q hN hX hR a0 w0 β0 r0
   exact wp_seq (IH.1 E hE hP an.a a _ s _ _ _ z D hw.1 ha.a h (Exit.then (b.wp P Q) Q) (fun s' a' w' β' hag h2 r'=>
    IH.1 E hE hP an.b b _ s' _ _ _ z D hw.2 ha.b h2 Q (fun s2 a2 w2 β2 hg=>hN s2 a2 w2 β2 (hag.trans hg)) (fun i s2 a2 w2 β2 hg=>hX i s2 a2 w2 β2 (hag.trans hg)) (fun s2 a2 w2 β2 hg=>hR s2 a2 w2 β2 (hag.trans hg)) a' w' β' r')
    (fun i s' a' w' β' hag h2 r'=>hX i s' a' w' β' hag h2 r') (fun s' a' w' β' hag h2 r'=>hR s' a' w' β' hag h2 r') a0 w0 β0 r0)
  |cond c0 a b=>
    obtain⟨n,rfl⟩:=bGq hn h
    rw[bIq hn] at h
    intro Q hN hX hR a0 w0 β0 r0
    obtain⟨t,s1,k1,k2,k3,k4,k5,k6⟩:=aVo r0 h
    have hag:=k6.mono (D':=D) (fun k e=>e▸hw.1 n rfl)
    refine wp_cond_split k1 (fun ht=> ?_) (fun hf=> ?_)
    ·exact IH.1 E hE hP an.a a _ s1 _ _ _ z D hw.2.1 ha.a (k4 ht) Q (fun s2 a2 w2 β2 hg=>hN s2 a2 w2 β2 (hag.trans hg)) (fun i s2 a2 w2 β2 hg=>hX i s2 a2 w2 β2 (hag.trans hg)) (fun s2 a2 w2 β2 hg=>hR s2 a2 w2 β2 (hag.trans hg)) a0 w0 β0 k3
    ·exact IH.1 E hE hP an.b b _ s1 _ _ _ z D hw.2.2 ha.b (k5 hf) Q (fun s2 a2 w2 β2 hg=>hN s2 a2 w2 β2 (hag.trans hg)) (fun i s2 a2 w2 β2 hg=>hX i s2 a2 w2 β2 (hag.trans hg)) (fun s2 a2 w2 β2 hg=>hR s2 a2 w2 β2 (hag.trans hg)) a0 w0 β0 k3
  |block id c'=>
   rw[bGr hn] at h
   intro Q hN hX hR a0 w0 β0 r0
   refine wp_block (IH.1 E hE hP an.a c' _ s _ _ _ z D hw ha.a h (Exit.inBlock id Q) (fun s' a' w' β' hag h2 r'=>hN s' a' w' β' hag h2 r') (fun i s' a' w' β' hag h2 r'=> ?_) (fun s' a' w' β' hag h2 r'=>hR s' a' w' β' hag h2 r') a0 w0 β0 r0)
   simp only[Exit.inBlock]
   cases hb:Nat.beq i id with
   |true=>
    rw[if_pos (Nat.eq_of_beq_eq_true hb)]
    simp only[hb,cond_true] at h2
    exact hN s' a' w' β' hag h2 r'
   |false=>
    rw[if_neg (fun e=>by subst e;rw[show Nat.beq i i=true from Nat.beq_refl i] at hb;cases hb)]
    simp only[hb,cond_false] at h2
    exact hX i s' a' w' β' hag h2 r'
  |loop c'=>
   intro Q hN hX hR a0 w0 β0 r0 b kk cs
   obtain⟨e,a',w',hq,harr⟩:=bC7 IH E hE hP an c' α s N X R z D hn hw ha h Q hN hX hR a0 w0 β0 r0 b kk cs
   exact⟨e,a',w',hq, .of_steps (.one step_loop) harr⟩
  |skip=>
   rw[bIs hn] at h
   intro Q hN hX hR a0 w0 β0 r0
   exact wp_skip (hN s a0 w0 β0 (Ag.refl s) h r0)
  |ret=>
   rw[bKq hn] at h
   intro Q hN hX hR a0 w0 β0 r0
   exact wp_ret (hR s a0 w0 β0 (Ag.refl s) h r0)
  |exit i=>
   rw[bIt hn] at h
   intro Q hN hX hR a0 w0 β0 r0
   exact wp_exit (hX i s a0 w0 β0 (Ag.refl s) h r0)
  |region id os d=>
   rw[bEw hn] at h
   exact HR E hE hP α _ (fun E hE hP an c s K z h=>IH.1 E hE hP an c _ s _ _ _ z (fun _=>True) (WC.true c) (AW.true an) h) id os d an s N X R z D hw ha h
  |_=>cases an<;>first|exact absurd rfl (hn.1 _ _)|exact absurd rfl (hn.2 _ _)|cases h
theorem aXj (HR:bC6 P Y TI FZ IL g):∀(f:Nat),aZl P Y TI FZ IL g f∧aXi P Y TI FZ IL g f
 |0=>And.intro (fun E _ _ an c α s N X R z D _ _ h=>nomatch h) (fun E _ _ an c' α s N X R z D _ _ _ h=>nomatch h)
 |f+1=>⟨bKr HR (aXj HR f),bC7 (aXj HR f)⟩
theorem aN9 (HR:bC6 P Y TI FZ IL g)(f:Nat):aZl P Y TI FZ IL g f:=(aXj HR f).1
end
end Go.EV
