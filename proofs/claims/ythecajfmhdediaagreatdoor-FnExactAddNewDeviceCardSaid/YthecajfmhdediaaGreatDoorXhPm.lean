import Derived.Test.YthecajfmhdediaaGreatDoorXhPl
import Derived.Test.YthecajfmhdediaaGreatDoorXhQ
/- Printed by wip/tools: models, walks, proofs. -/
set_option linter.unusedVariables false
set_option linter.unusedSimpArgs false
set_option maxRecDepth 100000
set_option maxHeartbeats 4000000
namespace Go.VK
open Go.RowKit Go.Proofs
noncomputable section
open EV (bX)
theorem WOk.of' {w:D.World}(h:w.sz≤34359738368):WOk w:=by
 simp only[D.World.sz] at h
 unfold WOk
 omega
theorem aK4 (w:D.World)(d:Int)(h:w.sz≤34359738368):Jd w d=some (dN w&&bK w d):=by
 unfold Jd
 rw[aD h,bd_s,bE7 (WOk.of' h),bK6,bd_s]
theorem F9 (b:D.aAC)(s h:Int)(hz:b.sz≤34359738360):wH b s h=some (aEd b s h):=by
 unfold wH aEd
 simp only[aD hz,aD (show b.sz≤34359738368 by omega),bd_s]
 cases aK b with
 |false=>rfl
 |true=>
  by_cases hf:aJ b s h<0
  ·rw[decide_eq_true hf];rfl
  ·obtain⟨h1,h2,h3,h4⟩:=aM7 (b:=b) (s:=s) (h:=h) (decide_eq_true (by omega))
   rw[decide_eq_false hf,h1]
   simp only[bd_s]
   rw[show(⟨s,h,IntKind.i64.wrap ((b.Entries.getD (aJ b s h).toNat default).Version+1),true⟩:D.Entry)=aJ1 b s h from rfl]
   cases(b.Entries.getD (aJ b s h).toNat default).Deleted<;>cases((b.Entries.getD (aJ b s h).toNat default).Version==1000000)<;>rfl
theorem bHr {l l':List D.Entry}{i:Nat}{e e':D.Entry}(he:e'.Site=e.Site∧e'.Handle=e.Handle)(hp:(l'.getD (i-1) default).Site=(l.getD (i-1) default).Site∧(l'.getD (i-1) default).Handle=(l.getD (i-1) default).Handle)(h:Z4 l i e=false):Z4 l' i e'= !dI e'.Version 1 1000000:=by
 unfold Z4 at h ⊢
 rw[Bool.or_eq_false_iff,Bool.or_eq_false_iff,Bool.or_eq_false_iff] at h
 obtain⟨h1,h2,h3,h4⟩:=h
 rw[he.1,he.2,h1,h2,aOg he,Tw hp,h4];simp
theorem bK9 {b:D.aAC}{j:Nat}{x:D.Entry}(hj:j<b.Entries.length)(hx:x.Site=b.Entries[j].Site∧x.Handle=b.Entries[j].Handle)(h:aK b=true):aK ⟨b.Entries.set j x⟩=dI x.Version 1 1000000:=by
 unfold aK at h ⊢
 rw[Bool.and_eq_true,Bool.not_eq_true'] at h
 obtain⟨h1,h2⟩:=h
 rw[List.length_set,h1,Bool.true_and]
 have hg:∀i,((b.Entries.set j x).getD i default).Site=(b.Entries.getD i default).Site∧((b.Entries.set j x).getD i default).Handle=(b.Entries.getD i default).Handle:=fun i=>by
  by_cases hij:j=i
  ·subst hij
   simp only[List.getD,List.getElem?_set_self hj,List.getElem?_eq_getElem hj,Option.getD_some];exact hx
  ·simp[List.getD,List.getElem?_set_ne hij]
 have h2:=o6.1 h2
 have hb:∀(i:Nat) (hi:i<(b.Entries.set j x).length),Z4 (b.Entries.set j x) i (b.Entries.set j x)[i]= !dI (b.Entries.set j x)[i].Version 1 1000000:=fun i hi=>by
  have hi':i<b.Entries.length:=by simpa using hi
  have g:=hg i
  simp only[List.getD,List.getElem?_eq_getElem hi,List.getElem?_eq_getElem hi',Option.getD_some] at g
  exact bHr g (hg (i-1)) (h2 i hi')
 have hv:∀(i:Nat) (hi:i<b.Entries.length),dI b.Entries[i].Version 1 1000000=true:=fun i hi=>by
  have:=h2 i hi
  unfold Z4 at this
  rw[Bool.or_eq_false_iff,Bool.or_eq_false_iff,Bool.or_eq_false_iff] at this
  simpa using this.2.2.1
 cases hc:dI x.Version 1 1000000 with
 |true=>
  rw[Bool.not_eq_true']
  refine o6.2 fun i hi=> ?_
  rw[hb i hi]
  by_cases hij:j=i
  ·subst hij;rw[List.getElem_set_self,hc];rfl
  ·rw[List.getElem_set_ne hij,hv i (by simpa using hi)];rfl
 |false=>
  rw[Bool.not_eq_false']
  refine(Z6 _ 0).2 ⟨j,by simpa using hj,?_⟩
  rw[Nat.zero_add,hb j (by simpa using hj),List.getElem_set_self,hc];rfl
theorem bCg {b:D.aAC}(h:aK b=true){i:Nat}(hi:i<b.Entries.length):dI b.Entries[i].Version 1 1000000=true:=by
 unfold aK at h
 rw[Bool.and_eq_true,Bool.not_eq_true'] at h
 have:=o6.1 h.2 i hi
 unfold Z4 at this
 rw[Bool.or_eq_false_iff,Bool.or_eq_false_iff,Bool.or_eq_false_iff] at this
 simpa using this.2.2.1
theorem G5 (b:D.aAC)(s h:Int)(hz:b.sz≤34359738360):wY b s h=some (aEd b s h):=by
 have hq:=hz
 simp only[D.aAC.sz] at hq
 unfold wY aEd
 simp only[aD (show b.sz≤34359738368 by omega),bd_s]
 cases hb:aK b with
 |false=>rfl
 |true=>
  by_cases hf:aJ b s h<0
  ·rw[decide_eq_true hf];rfl
  ·have hf':decide (aJ b s h≥0)=true:=decide_eq_true (by omega)
   obtain⟨h1,h2,h3,h4⟩:=aM7 hf'
   have hset:nS b (aJ1 b s h)=⟨b.Entries.set (aJ b s h).toNat (aJ1 b s h)⟩:=by
    unfold nS
    rw[show(aJ1 b s h).Site=s from rfl,show(aJ1 b s h).Handle=h from rfl,hf'];rfl
   have hg:b.Entries.getD (aJ b s h).toNat default=b.Entries[(aJ b s h).toNat]:=by rw[List.getD,List.getElem?_eq_getElem h2];rfl
   have hok:=bK9 (x:=aJ1 b s h) h2 ⟨by rw[←hg,h3];rfl,by rw[←hg,h4];rfl⟩ hb
   have hv:=bCg hb h2
   rw[decide_eq_false hf,h1]
   simp only[bd_s]
   cases hd:(b.Entries.getD (aJ b s h).toNat default).Deleted with
   |true=>rfl
   |false=>
    have e:(⟨(b.Entries.getD (aJ b s h).toNat default).Site,(b.Entries.getD (aJ b s h).toNat default).Handle,IntKind.i64.wrap ((b.Entries.getD (aJ b s h).toNat default).Version+1),true⟩:D.Entry)=aJ1 b s h:=by rw[h3,h4];rfl
    rw[uO (by omega) (by rw[List.length_set];exact h2),List.getElem_set_self,bd_s,bd_s,List.set_set,e,←hset]
    have hS:(nS b (aJ1 b s h)).sz≤34359738368:=by have:=aYa b (aJ1 b s h);simp only[D.aAC.sz];omega
    rw[aD hS,bd_s,hset,hok,←hset]
    have hv:=aNc hv
    have ev:(aJ1 b s h).Version=b.Entries[(aJ b s h).toNat].Version+1:=by
     show IntKind.i64.wrap ((b.Entries.getD (aJ b s h).toNat default).Version+1)=_
     rw[hg,aR (by omega) (by omega)]
    rw[ev,hg]
    generalize b.Entries[(aJ b s h).toNat].Version=v at hv ⊢
    unfold dI
    by_cases hm:v=1000000
    ·subst hm;rfl
    ·rw[show(v==1000000)=false by simpa using hm,decide_eq_true (show 1≤v+1 by omega),decide_eq_true (show v+1≤1000000 by omega)];rfl
theorem Vb (d:D.Device)(n:ByteArray)(h:Int)(rm:Bool)(hz:d.sz≤34359738360∧n.size≤34359738300):tT d n h rm=some (fD d n h rm):=by
 obtain⟨h1,h2⟩:=hz
 have hb:d.aAC.sz≤34359738360:=by simp only[D.Device.sz,D.aAC.sz] at*;omega
 unfold tT fD Gc
 simp only[aD (show d.sz≤34359738368 by omega),aD h2,aD hb,bd_s]
 cases rm with
 |true=>
  simp only[cond_true,bd_s]
  cases(aEd d.aAC (fK n) h).2<;>rfl
 |false=>
  simp only[cond_false,bd_s]
  cases(aEc d.aAC (fK n) h).2<;>rfl
theorem Vd (d:D.Device)(n:ByteArray)(h:Int)(rm:Bool)(hz:d.sz≤34359738360∧n.size≤34359738300):uC d n h rm=some (fD d n h rm):=by
 obtain⟨h1,h2⟩:=hz
 have hb:d.aAC.sz≤34359738360:=by simp only[D.Device.sz,D.aAC.sz] at*;omega
 unfold uC fD Gc
 simp only[aD (show d.sz≤34359738368 by omega),aD h2,aD hb,bd_s]
 cases rm with
 |true=>
  simp only[cond_true,bd_s]
  cases(aEd d.aAC (fK n) h).2<;>rfl
 |false=>
  simp only[cond_false,bd_s]
  cases(aEc d.aAC (fK n) h).2<;>rfl
end
end Go.VK
