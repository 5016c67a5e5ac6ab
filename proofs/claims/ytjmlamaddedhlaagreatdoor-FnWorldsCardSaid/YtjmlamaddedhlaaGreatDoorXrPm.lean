import Derived.Test.YtjmlamaddedhlaaGreatDoorXrPl
import Derived.Test.YtjmlamaddedhlaaGreatDoorXrM
/- Printed by wip/tools: models, walks, proofs. -/
set_option linter.all false
set_option maxRecDepth 100000
set_option maxHeartbeats 4000000
namespace Go.VK
open Go.RowKit Go.Proofs
noncomputable section
open EV (bO)
def Sm (b:D.aAC)(s h:Int)(hz:b.sz<=34359738360):uQ b s h=some (R5 b s h):=by
 unfold uQ R5
 simp only[aA hz,aA (show b.sz<=34359738368 by omega),bd_s]
 cases aI b with
 |false=>rfl
 |true=>
  by_cases hf:aG b s h<0
  ·rw[ap hf];rfl
  ·obtain⟨h1,h2,h3,h4⟩:=aFj (b:=b) (s:=s) (h:=h) (ap (by omega))
   rw[aq hf,h1]
   simp only[bd_s]
   rw[show(⟨s,h,IntKind.i64.wrap ((b.Entries.getD (aG b s h).toNat default).Version+1),true⟩:D.Entry)=aC8 b s h from rfl]
   cases(b.Entries.getD (aG b s h).toNat default).Deleted<;>cases((b.Entries.getD (aG b s h).toNat default).Version==1000000)<;>rfl
def bB1 {l l':List D.Entry}{i:Nat}{e e':D.Entry}(he:e'.Site=e.Site/\e'.Handle=e.Handle)(hp:(l'.getD (i-1) default).Site=(l.getD (i-1) default).Site/\(l'.getD (i-1) default).Handle=(l.getD (i-1) default).Handle)(h:Ht l i e=false):Ht l' i e'= !bE e'.Version 1 1000000:=by
 unfold Ht at h ⊢
 rw[bv,bv,bv] at h
 obtain⟨h1,h2,h3,h4⟩:=h
 rw[he.1,he.2,h1,h2,aGu he,Lp hp,h4];simp
def bH4 {b:D.aAC}{j:Nat}{x:D.Entry}(hj:j<b.Entries.length)(hx:x.Site=b.Entries[j].Site/\x.Handle=b.Entries[j].Handle)(h:aI b=true):aI ⟨b.Entries.set j x⟩=bE x.Version 1 1000000:=by
 unfold aI at h ⊢
 rw[aa,cq] at h
 obtain⟨h1,h2⟩:=h
 rw[bq,h1,dc]
 have hg:∀i,((b.Entries.set j x).getD i default).Site=(b.Entries.getD i default).Site/\((b.Entries.set j x).getD i default).Handle=(b.Entries.getD i default).Handle:=λi=>by
  by_cases hij:j=i
  ·subst hij
   simp only[List.getD,bg hj,ab hj,cL];exact hx
  ·simp[List.getD,bf hij]
 have h2:=Re.1 h2
 have hb:∀(i:Nat) (hi:i<(b.Entries.set j x).length),Ht (b.Entries.set j x) i (b.Entries.set j x)[i]= !bE (b.Entries.set j x)[i].Version 1 1000000:=λi hi=>by
  have hi':i<b.Entries.length:=by simpa using hi
  have g:=hg i
  simp only[List.getD,ab hi,ab hi',cL] at g
  exact bB1 g (hg (i-1)) (h2 i hi')
 have hv:∀(i:Nat) (hi:i<b.Entries.length),bE b.Entries[i].Version 1 1000000=true:=λi hi=>by
  have:=h2 i hi
  unfold Ht at this
  rw[bv,bv,bv] at this
  simpa using this.2.2.1
 cases hc:bE x.Version 1 1000000 with
 |true=>
  rw[cq]
  refine Re.2 λi hi=> ?_
  rw[hb i hi]
  by_cases hij:j=i
  ·subst hij;rw[fw,hc];rfl
  ·rw[List.getElem_set_ne hij,hv i (by simpa using hi)];rfl
 |false=>
  rw[en]
  refine(Yh _ 0).2 ⟨j,by simpa using hj,?_⟩
  rw[bu,hb j (by simpa using hj),fw,hc];rfl
def aUd {b:D.aAC}(h:aI b=true){i:Nat}(hi:i<b.Entries.length):bE b.Entries[i].Version 1 1000000=true:=by
 unfold aI at h
 rw[aa,cq] at h
 have:=Re.1 h.2 i hi
 unfold Ht at this
 rw[bv,bv,bv] at this
 simpa using this.2.2.1
def Sq (b:D.aAC)(s h:Int)(hz:b.sz<=34359738360):uB b s h=some (R5 b s h):=by
 have hq:=hz
 simp only[D.aAC.sz] at hq
 unfold uB R5
 simp only[aA (show b.sz<=34359738368 by omega),bd_s]
 cases hb:aI b with
 |false=>rfl
 |true=>
  by_cases hf:aG b s h<0
  ·rw[ap hf];rfl
  ·have hf':decide (aG b s h>=0)=true:=ap (by omega)
   obtain⟨h1,h2,h3,h4⟩:=aFj hf'
   have hset:mO b (aC8 b s h)=⟨b.Entries.set (aG b s h).toNat (aC8 b s h)⟩:=by
    unfold mO
    rw[show(aC8 b s h).Site=s from rfl,show(aC8 b s h).Handle=h from rfl,hf'];rfl
   have hg:b.Entries.getD (aG b s h).toNat default=b.Entries[(aG b s h).toNat]:=by rw[List.getD,ab h2];rfl
   have hok:=bH4 (x:=aC8 b s h) h2 ⟨by rw[<-hg,h3];rfl,by rw[<-hg,h4];rfl⟩ hb
   have hv:=aUd hb h2
   rw[aq hf,h1]
   simp only[bd_s]
   cases hd:(b.Entries.getD (aG b s h).toNat default).Deleted with
   |true=>rfl
   |false=>
    have e:(⟨(b.Entries.getD (aG b s h).toNat default).Site,(b.Entries.getD (aG b s h).toNat default).Handle,IntKind.i64.wrap ((b.Entries.getD (aG b s h).toNat default).Version+1),true⟩:D.Entry)=aC8 b s h:=by rw[h3,h4];rfl
    rw[Bg (by omega) (by rw[bq];exact h2),fw,bd_s,bd_s,List.set_set,e,<-hset]
    have hS:(mO b (aC8 b s h)).sz<=34359738368:=by have:=aPf b (aC8 b s h);simp only[D.aAC.sz];omega
    rw[aA hS,bd_s,hset,hok,<-hset]
    have hv:=gX hv
    have ev:(aC8 b s h).Version=b.Entries[(aG b s h).toNat].Version+1:=by
     show IntKind.i64.wrap ((b.Entries.getD (aG b s h).toNat default).Version+1)=_
     rw[hg,aH (by omega) (by omega)]
    rw[ev,hg]
    generalize b.Entries[(aG b s h).toNat].Version=v at hv ⊢
    unfold bE
    by_cases hm:v=1000000
    ·subst hm;rfl
    ·rw[show(v==1000000)=false by simpa using hm,ap (show 1<=v+1 by omega),ap (show v+1<=1000000 by omega)];rfl
def Mq (d:D.Device)(n:ByteArray)(h:Int)(rm:Bool)(hz:d.sz<=34359738360/\n.size<=34359738300):rA d n h rm=some (eH d n h rm):=by
 obtain⟨h1,h2⟩:=hz
 have hb:d.aAC.sz<=34359738360:=by simp only[D.Device.sz,D.aAC.sz] at*;omega
 unfold rA eH rW
 simp only[aA (show d.sz<=34359738368 by omega),aA h2,aA hb,bd_s]
 cases rm with
 |true=>
  simp only[ae,bd_s]
  cases(R5 d.aAC (aY n) h).2<;>rfl
 |false=>
  simp only[ac,bd_s]
  cases(R4 d.aAC (aY n) h).2<;>rfl
def Mr (d:D.Device)(n:ByteArray)(h:Int)(rm:Bool)(hz:d.sz<=34359738360/\n.size<=34359738300):qU d n h rm=some (eH d n h rm):=by
 obtain⟨h1,h2⟩:=hz
 have hb:d.aAC.sz<=34359738360:=by simp only[D.Device.sz,D.aAC.sz] at*;omega
 unfold qU eH rW
 simp only[aA (show d.sz<=34359738368 by omega),aA h2,aA hb,bd_s]
 cases rm with
 |true=>
  simp only[ae,bd_s]
  cases(R5 d.aAC (aY n) h).2<;>rfl
 |false=>
  simp only[ac,bd_s]
  cases(R4 d.aAC (aY n) h).2<;>rfl
end
end Go.VK
