import Derived.Test.YtinkjfapmhcgmaaGreatDoorXjPl
import Derived.Test.YtinkjfapmhcgmaaGreatDoorXjQ
/- Printed by wip/tools: models, walks, proofs. -/
set_option linter.unusedVariables false
set_option linter.unusedSimpArgs false
set_option maxRecDepth 100000
set_option maxHeartbeats 4000000
namespace Go.VK
open Go.RowKit Go.Proofs
noncomputable section
open EV (bU)
theorem WOk.of' {w:D.World}(h:w.sz≤34359738368):WOk w:=by
 simp only[D.World.sz] at h
 unfold WOk
 omega
theorem aJ6 (w:D.World)(d:Int)(h:w.sz≤34359738368):Jc w d=some (dU w&&bH w d):=by
 unfold Jc
 rw[aC h,bd_s,aVr (WOk.of' h),bLm,bd_s]
theorem F5 (b:D.aAD)(s h:Int)(hz:b.sz≤34359738360):wD b s h=some (aDi b s h):=by
 unfold wD aDi
 simp only[aC hz,aC (show b.sz≤34359738368 by omega),bd_s]
 cases aJ b with
 |false=>rfl
 |true=>
  by_cases hf:aH b s h<0
  ·rw[decide_eq_true hf];rfl
  ·obtain⟨h1,h2,h3,h4⟩:=aMh (b:=b) (s:=s) (h:=h) (decide_eq_true (by omega))
   rw[decide_eq_false hf,h1]
   simp only[bd_s]
   rw[show(⟨s,h,IntKind.i64.wrap ((b.Entries.getD (aH b s h).toNat default).Version+1),true⟩:D.Entry)=aI4 b s h from rfl]
   cases(b.Entries.getD (aH b s h).toNat default).Deleted<;>cases((b.Entries.getD (aH b s h).toNat default).Version==1000000)<;>rfl
theorem bHj {l l':List D.Entry}{i:Nat}{e e':D.Entry}(he:e'.Site=e.Site∧e'.Handle=e.Handle)(hp:(l'.getD (i-1) default).Site=(l.getD (i-1) default).Site∧(l'.getD (i-1) default).Handle=(l.getD (i-1) default).Handle)(h:W9 l i e=false):W9 l' i e'= !dG e'.Version 1 1000000:=by
 unfold W9 at h ⊢
 rw[Bool.or_eq_false_iff,Bool.or_eq_false_iff,Bool.or_eq_false_iff] at h
 obtain⟨h1,h2,h3,h4⟩:=h
 rw[he.1,he.2,h1,h2,aNo he,Tw hp,h4];simp
theorem bLr {b:D.aAD}{j:Nat}{x:D.Entry}(hj:j<b.Entries.length)(hx:x.Site=b.Entries[j].Site∧x.Handle=b.Entries[j].Handle)(h:aJ b=true):aJ ⟨b.Entries.set j x⟩=dG x.Version 1 1000000:=by
 unfold aJ at h ⊢
 rw[Bool.and_eq_true,Bool.not_eq_true'] at h
 obtain⟨h1,h2⟩:=h
 rw[List.length_set,h1,Bool.true_and]
 have hg:∀i,((b.Entries.set j x).getD i default).Site=(b.Entries.getD i default).Site∧((b.Entries.set j x).getD i default).Handle=(b.Entries.getD i default).Handle:=fun i=>by
  by_cases hij:j=i
  ·subst hij
   simp only[List.getD,List.getElem?_set_self hj,List.getElem?_eq_getElem hj,Option.getD_some];exact hx
  ·simp[List.getD,List.getElem?_set_ne hij]
 have h2:=d9.1 h2
 have hb:∀(i:Nat) (hi:i<(b.Entries.set j x).length),W9 (b.Entries.set j x) i (b.Entries.set j x)[i]= !dG (b.Entries.set j x)[i].Version 1 1000000:=fun i hi=>by
  have hi':i<b.Entries.length:=by simpa using hi
  have g:=hg i
  simp only[List.getD,List.getElem?_eq_getElem hi,List.getElem?_eq_getElem hi',Option.getD_some] at g
  exact bHj g (hg (i-1)) (h2 i hi')
 have hv:∀(i:Nat) (hi:i<b.Entries.length),dG b.Entries[i].Version 1 1000000=true:=fun i hi=>by
  have:=h2 i hi
  unfold W9 at this
  rw[Bool.or_eq_false_iff,Bool.or_eq_false_iff,Bool.or_eq_false_iff] at this
  simpa using this.2.2.1
 cases hc:dG x.Version 1 1000000 with
 |true=>
  rw[Bool.not_eq_true']
  refine d9.2 fun i hi=> ?_
  rw[hb i hi]
  by_cases hij:j=i
  ·subst hij;rw[List.getElem_set_self,hc];rfl
  ·rw[List.getElem_set_ne hij,hv i (by simpa using hi)];rfl
 |false=>
  rw[Bool.not_eq_false']
  refine(X4 _ 0).2 ⟨j,by simpa using hj,?_⟩
  rw[Nat.zero_add,hb j (by simpa using hj),List.getElem_set_self,hc];rfl
theorem bB9 {b:D.aAD}(h:aJ b=true){i:Nat}(hi:i<b.Entries.length):dG b.Entries[i].Version 1 1000000=true:=by
 unfold aJ at h
 rw[Bool.and_eq_true,Bool.not_eq_true'] at h
 have:=d9.1 h.2 i hi
 unfold W9 at this
 rw[Bool.or_eq_false_iff,Bool.or_eq_false_iff,Bool.or_eq_false_iff] at this
 simpa using this.2.2.1
theorem F6 (b:D.aAD)(s h:Int)(hz:b.sz≤34359738360):wR b s h=some (aDi b s h):=by
 have hq:=hz
 simp only[D.aAD.sz] at hq
 unfold wR aDi
 simp only[aC (show b.sz≤34359738368 by omega),bd_s]
 cases hb:aJ b with
 |false=>rfl
 |true=>
  by_cases hf:aH b s h<0
  ·rw[decide_eq_true hf];rfl
  ·have hf':decide (aH b s h≥0)=true:=decide_eq_true (by omega)
   obtain⟨h1,h2,h3,h4⟩:=aMh hf'
   have hset:nV b (aI4 b s h)=⟨b.Entries.set (aH b s h).toNat (aI4 b s h)⟩:=by
    unfold nV
    rw[show(aI4 b s h).Site=s from rfl,show(aI4 b s h).Handle=h from rfl,hf'];rfl
   have hg:b.Entries.getD (aH b s h).toNat default=b.Entries[(aH b s h).toNat]:=by rw[List.getD,List.getElem?_eq_getElem h2];rfl
   have hok:=bLr (x:=aI4 b s h) h2 ⟨by rw[←hg,h3];rfl,by rw[←hg,h4];rfl⟩ hb
   have hv:=bB9 hb h2
   rw[decide_eq_false hf,h1]
   simp only[bd_s]
   cases hd:(b.Entries.getD (aH b s h).toNat default).Deleted with
   |true=>rfl
   |false=>
    have e:(⟨(b.Entries.getD (aH b s h).toNat default).Site,(b.Entries.getD (aH b s h).toNat default).Handle,IntKind.i64.wrap ((b.Entries.getD (aH b s h).toNat default).Version+1),true⟩:D.Entry)=aI4 b s h:=by rw[h3,h4];rfl
    rw[nK (by omega) (by rw[List.length_set];exact h2),List.getElem_set_self,bd_s,bd_s,List.set_set,e,←hset]
    have hS:(nV b (aI4 b s h)).sz≤34359738368:=by have:=aX0 b (aI4 b s h);simp only[D.aAD.sz];omega
    rw[aC hS,bd_s,hset,hok,←hset]
    have hv:=aMn hv
    have ev:(aI4 b s h).Version=b.Entries[(aH b s h).toNat].Version+1:=by
     show IntKind.i64.wrap ((b.Entries.getD (aH b s h).toNat default).Version+1)=_
     rw[hg,aP (by omega) (by omega)]
    rw[ev,hg]
    generalize b.Entries[(aH b s h).toNat].Version=v at hv ⊢
    unfold dG
    by_cases hm:v=1000000
    ·subst hm;rfl
    ·rw[show(v==1000000)=false by simpa using hm,decide_eq_true (show 1≤v+1 by omega),decide_eq_true (show v+1≤1000000 by omega)];rfl
theorem Vd (d:D.Device)(n:ByteArray)(h:Int)(rm:Bool)(hz:d.sz≤34359738360∧n.size≤34359738300):tZ d n h rm=some (fC d n h rm):=by
 obtain⟨h1,h2⟩:=hz
 have hb:d.aAD.sz≤34359738360:=by simp only[D.Device.sz,D.aAD.sz] at*;omega
 unfold tZ fC Fx
 simp only[aC (show d.sz≤34359738368 by omega),aC h2,aC hb,bd_s]
 cases rm with
 |true=>
  simp only[cond_true,bd_s]
  cases(aDi d.aAD (gW n) h).2<;>rfl
 |false=>
  simp only[cond_false,bd_s]
  cases(aDh d.aAD (gW n) h).2<;>rfl
theorem Ve (d:D.Device)(n:ByteArray)(h:Int)(rm:Bool)(hz:d.sz≤34359738360∧n.size≤34359738300):uF d n h rm=some (fC d n h rm):=by
 obtain⟨h1,h2⟩:=hz
 have hb:d.aAD.sz≤34359738360:=by simp only[D.Device.sz,D.aAD.sz] at*;omega
 unfold uF fC Fx
 simp only[aC (show d.sz≤34359738368 by omega),aC h2,aC hb,bd_s]
 cases rm with
 |true=>
  simp only[cond_true,bd_s]
  cases(aDi d.aAD (gW n) h).2<;>rfl
 |false=>
  simp only[cond_false,bd_s]
  cases(aDh d.aAD (gW n) h).2<;>rfl
end
end Go.VK
