import Derived.Test.YtefkjglmpmakcaaGreatDoorXlPl
import Derived.Test.YtefkjglmpmakcaaGreatDoorXlQ
/- Printed by wip/tools: models, walks, proofs. -/
set_option linter.unusedVariables false
set_option linter.unusedSimpArgs false
set_option maxRecDepth 100000
set_option maxHeartbeats 4000000
namespace Go.VK
open Go.RowKit Go.Proofs
noncomputable section
open EV (bS)
theorem Wx (b:D.aAC)(s h:Int)(hz:b.sz≤34359738360):vB b s h=some (aBg b s h):=by
 unfold vB aBg
 simp only[aB hz,aB (show b.sz≤34359738368 by omega),bd_s]
 cases aI b with
 |false=>rfl
 |true=>
  by_cases hf:aH b s h<0
  ·rw[decide_eq_true hf];rfl
  ·obtain⟨h1,h2,h3,h4⟩:=aJx (b:=b) (s:=s) (h:=h) (decide_eq_true (by omega))
   rw[decide_eq_false hf,h1]
   simp only[bd_s]
   rw[show(⟨s,h,IntKind.i64.wrap ((b.Entries.getD (aH b s h).toNat default).Version+1),true⟩:D.Entry)=aGs b s h from rfl]
   cases(b.Entries.getD (aH b s h).toNat default).Deleted<;>cases((b.Entries.getD (aH b s h).toNat default).Version==1000000)<;>rfl
theorem bDf {l l':List D.Entry}{i:Nat}{e e':D.Entry}(he:e'.Site=e.Site∧e'.Handle=e.Handle)(hp:(l'.getD (i-1) default).Site=(l.getD (i-1) default).Site∧(l'.getD (i-1) default).Handle=(l.getD (i-1) default).Handle)(h:J5 l i e=false):J5 l' i e'= !cK e'.Version 1 1000000:=by
 unfold J5 at h ⊢
 rw[Bool.or_eq_false_iff,Bool.or_eq_false_iff,Bool.or_eq_false_iff] at h
 obtain⟨h1,h2,h3,h4⟩:=h
 rw[he.1,he.2,h1,h2,aK3 he,Pn hp,h4];simp
theorem bHk {b:D.aAC}{j:Nat}{x:D.Entry}(hj:j<b.Entries.length)(hx:x.Site=b.Entries[j].Site∧x.Handle=b.Entries[j].Handle)(h:aI b=true):aI ⟨b.Entries.set j x⟩=cK x.Version 1 1000000:=by
 unfold aI at h ⊢
 rw[Bool.and_eq_true,Bool.not_eq_true'] at h
 obtain⟨h1,h2⟩:=h
 rw[List.length_set,h1,Bool.true_and]
 have hg:∀i,((b.Entries.set j x).getD i default).Site=(b.Entries.getD i default).Site∧((b.Entries.set j x).getD i default).Handle=(b.Entries.getD i default).Handle:=fun i=>by
  by_cases hij:j=i
  ·subst hij
   simp only[List.getD,List.getElem?_set_self hj,List.getElem?_eq_getElem hj,Option.getD_some];exact hx
  ·simp[List.getD,List.getElem?_set_ne hij]
 have h2:=Vi.1 h2
 have hb:∀(i:Nat) (hi:i<(b.Entries.set j x).length),J5 (b.Entries.set j x) i (b.Entries.set j x)[i]= !cK (b.Entries.set j x)[i].Version 1 1000000:=fun i hi=>by
  have hi':i<b.Entries.length:=by simpa using hi
  have g:=hg i
  simp only[List.getD,List.getElem?_eq_getElem hi,List.getElem?_eq_getElem hi',Option.getD_some] at g
  exact bDf g (hg (i-1)) (h2 i hi')
 have hv:∀(i:Nat) (hi:i<b.Entries.length),cK b.Entries[i].Version 1 1000000=true:=fun i hi=>by
  have:=h2 i hi
  unfold J5 at this
  rw[Bool.or_eq_false_iff,Bool.or_eq_false_iff,Bool.or_eq_false_iff] at this
  simpa using this.2.2.1
 cases hc:cK x.Version 1 1000000 with
 |true=>
  rw[Bool.not_eq_true']
  refine Vi.2 fun i hi=> ?_
  rw[hb i hi]
  by_cases hij:j=i
  ·subst hij;rw[List.getElem_set_self,hc];rfl
  ·rw[List.getElem_set_ne hij,hv i (by simpa using hi)];rfl
 |false=>
  rw[Bool.not_eq_false']
  refine(J6 _ 0).2 ⟨j,by simpa using hj,?_⟩
  rw[Nat.zero_add,hb j (by simpa using hj),List.getElem_set_self,hc];rfl
theorem aX3 {b:D.aAC}(h:aI b=true){i:Nat}(hi:i<b.Entries.length):cK b.Entries[i].Version 1 1000000=true:=by
 unfold aI at h
 rw[Bool.and_eq_true,Bool.not_eq_true'] at h
 have:=Vi.1 h.2 i hi
 unfold J5 at this
 rw[Bool.or_eq_false_iff,Bool.or_eq_false_iff,Bool.or_eq_false_iff] at this
 simpa using this.2.2.1
theorem Wy (b:D.aAC)(s h:Int)(hz:b.sz≤34359738360):vU b s h=some (aBg b s h):=by
 have hq:=hz
 simp only[D.aAC.sz] at hq
 unfold vU aBg
 simp only[aB (show b.sz≤34359738368 by omega),bd_s]
 cases hb:aI b with
 |false=>rfl
 |true=>
  by_cases hf:aH b s h<0
  ·rw[decide_eq_true hf];rfl
  ·have hf':decide (aH b s h≥0)=true:=decide_eq_true (by omega)
   obtain⟨h1,h2,h3,h4⟩:=aJx hf'
   have hset:nN b (aGs b s h)=⟨b.Entries.set (aH b s h).toNat (aGs b s h)⟩:=by
    unfold nN
    rw[show(aGs b s h).Site=s from rfl,show(aGs b s h).Handle=h from rfl,hf'];rfl
   have hg:b.Entries.getD (aH b s h).toNat default=b.Entries[(aH b s h).toNat]:=by rw[List.getD,List.getElem?_eq_getElem h2];rfl
   have hok:=bHk (x:=aGs b s h) h2 ⟨by rw[←hg,h3];rfl,by rw[←hg,h4];rfl⟩ hb
   have hv:=aX3 hb h2
   rw[decide_eq_false hf,h1]
   simp only[bd_s]
   cases hd:(b.Entries.getD (aH b s h).toNat default).Deleted with
   |true=>rfl
   |false=>
    have e:(⟨(b.Entries.getD (aH b s h).toNat default).Site,(b.Entries.getD (aH b s h).toNat default).Handle,IntKind.i64.wrap ((b.Entries.getD (aH b s h).toNat default).Version+1),true⟩:D.Entry)=aGs b s h:=by rw[h3,h4];rfl
    rw[F8 (by omega) (by rw[List.length_set];exact h2),List.getElem_set_self,bd_s,bd_s,List.set_set,e,←hset]
    have hS:(nN b (aGs b s h)).sz≤34359738368:=by have:=aTq b (aGs b s h);simp only[D.aAC.sz];omega
    rw[aB hS,bd_s,hset,hok,←hset]
    have hv:=nE hv
    have ev:(aGs b s h).Version=b.Entries[(aH b s h).toNat].Version+1:=by
     show IntKind.i64.wrap ((b.Entries.getD (aH b s h).toNat default).Version+1)=_
     rw[hg,aK (by omega) (by omega)]
    rw[ev,hg]
    generalize b.Entries[(aH b s h).toNat].Version=v at hv ⊢
    unfold cK
    by_cases hm:v=1000000
    ·subst hm;rfl
    ·rw[show(v==1000000)=false by simpa using hm,decide_eq_true (show 1≤v+1 by omega),decide_eq_true (show v+1≤1000000 by omega)];rfl
theorem Qo (d:D.Device)(n:ByteArray)(h:Int)(rm:Bool)(hz:d.sz≤34359738360∧n.size≤34359738300):sF d n h rm=some (jD d n h rm):=by
 obtain⟨h1,h2⟩:=hz
 have hb:d.aAC.sz≤34359738360:=by simp only[D.Device.sz,D.aAC.sz] at*;omega
 unfold sF jD xI
 simp only[aB (show d.sz≤34359738368 by omega),aB h2,aB hb,bd_s]
 cases rm with
 |true=>
  simp only[cond_true,bd_s]
  cases(aBg d.aAC (fI n) h).2<;>rfl
 |false=>
  simp only[cond_false,bd_s]
  cases(aBf d.aAC (fI n) h).2<;>rfl
theorem Qp (d:D.Device)(n:ByteArray)(h:Int)(rm:Bool)(hz:d.sz≤34359738360∧n.size≤34359738300):sM d n h rm=some (jD d n h rm):=by
 obtain⟨h1,h2⟩:=hz
 have hb:d.aAC.sz≤34359738360:=by simp only[D.Device.sz,D.aAC.sz] at*;omega
 unfold sM jD xI
 simp only[aB (show d.sz≤34359738368 by omega),aB h2,aB hb,bd_s]
 cases rm with
 |true=>
  simp only[cond_true,bd_s]
  cases(aBg d.aAC (fI n) h).2<;>rfl
 |false=>
  simp only[cond_false,bd_s]
  cases(aBf d.aAC (fI n) h).2<;>rfl
end
end Go.VK
