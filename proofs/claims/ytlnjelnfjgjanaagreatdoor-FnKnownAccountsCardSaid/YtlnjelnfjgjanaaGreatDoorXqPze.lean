import Derived.Test.YtlnjelnfjgjanaaGreatDoorXqPz
import Derived.Test.YtlnjelnfjgjanaaGreatDoorXqM
import Derived.Test.YtlnjelnfjgjanaaGreatDoorLMjtop
import Derived.Test.YtlnjelnfjgjanaaGreatDoorLKatoi
/- Printed by wip/tools: models, walks, proofs. -/
set_option linter.all false
set_option maxRecDepth 100000
set_option maxHeartbeats 4000000
namespace Go.VK
open Go.RowKit Go.Proofs
noncomputable section
open EV (cB)
def Sb (w:D.World)(d:Int)(s:ByteArray)(q:Int)(h:w.sz<=34359738368/\s.size<=34359738300):uY w d s q=some (oV w d s q):=by
 unfold uY oV
 cases hd:aL w d with
 |false=>rfl
 |true=>
  have hb:(aK w d).aAC.sz<=34359738368:=by
   have h2:=(aPf hd).2.2.1
   have h3:(aK w d).aAC.sz<=(aK w d).sz:=by simp only[D.Device.sz,D.aAC.sz];omega
   have:=h.1;omega
  simp only[ay,ab,cA]
  rw[rV hd,bd_s,aB h.2,bd_s,aB hb,bd_s]
  cases hf:decide (aG (aK w d).aAC (aR s) q>=0) with
  |true=>
   have h0:=of_decide_eq_true hf
   rw[ac,(aQ6 hf).1,ap (show ¬aG (aK w d).aAC (aR s) q<0 by omega)];rfl
  |false=>
   have h0:=of_decide_eq_false hf
   rw[ab,ao (show aG (aK w d).aAC (aR s) q<0 by omega)];rfl
def Gg (l:List Int)(h:aHy l):pV l=some true:=by
 unfold pV
 cases hb:bD7 l with
 |true=>rfl
 |false=>
  have hlen:l.length<=1048576:=by
   unfold bD7 at hb
   rw[dh] at hb;omega
  have r:=λi=>bL5 h hlen (i:=i)
  have r0:=r 0 (by omega) (by omega)
  have r1:=r 1 (by omega) (by omega)
  have r2:=r 2 (by omega) (by omega)
  have t3:(3:Int)≠0:=by decide
  have t5:(5:Int)≠0:=by decide
  simp only[ab,aB (show(0:Int)<=0 by decide),aB (show(0:Int)<=1 by decide),aB (show(0:Int)<=2 by decide),aB t3,aB t5,bd_s,aJ (show-9223372036854775808<=1+atF l 0 by omega) (by omega)]
  have hd:0<=(atF l 1).tmod 3/\(atF l 1).tmod 3<3:=⟨e8 3 r1.1,eV _ (by decide)⟩
  have hq:0<=(atF l 2).tmod 5/\(atF l 2).tmod 5<=4:=⟨e8 5 r2.1,by have:=eV (atF l 2) (show(0:Int)<5 by decide);omega⟩
  generalize(atF l 1).tmod 3=d at hd
  generalize(atF l 2).tmod 5=q at hq
  have hsd:1<=1+atF l 0/\1+atF l 0<=256:=by omega
  generalize 1+atF l 0=seed at hsd
  have he:0<=(IntKind.i64.wrap (d+1)).tmod 3/\(IntKind.i64.wrap (d+1)).tmod 3<3/\d≠(IntKind.i64.wrap (d+1)).tmod 3:=by
   rw[aJ (by omega) (by omega)]
   rcases(show d=0\/d=1\/d=2 by omega) with rfl|rfl|rfl<;>decide
  generalize(IntKind.i64.wrap (d+1)).tmod 3=e at he
  have hok:Bp 3 1 1 5 seed=true:=by
   unfold Bp
   rw[show bG seed=true from gU (by omega) (by omega)];decide
  have z0:(aY 3 1 1 5 seed).sz<=100000:=aTi ..
  obtain⟨k1,k2,k3,k4,k5,k6,k7,k8⟩:=known (seed:=seed) hq rfl hok hd ⟨he.1,he.2.1⟩ he.2.2 rfl rfl rfl rfl
  generalize aY 3 1 1 5 seed=w at*
  have z1:=aTt w d eP q false
  have z2:=aPj (eX w d eP q false).1
  have z3:=aTt (iA (eX w d eP q false).1).1 e eP q true
  have z4:=aPj (eX (iA (eX w d eP q false).1).1 e eP q true).1
  have nz:eP.size<=34359738300:=by decide
  change bd (gd (w.sz<=34359738300/\eP.size<=34359738300) (some (eX w d eP q false))) _=_
  rw[aB ⟨by omega,nz⟩,bd_s]
  generalize(eX w d eP q false)=a1 at*
  rw[aB (show a1.1.sz<=1000000000 by omega),bd_s]
  generalize(iA a1.1)=a2 at*
  change bd (gd (a2.1.sz<=34359738300/\eP.size<=34359738300) (some (eX a2.1 e eP q true))) _=_
  rw[aB ⟨by omega,nz⟩,bd_s]
  generalize(eX a2.1 e eP q true)=a3 at*
  rw[aB (show a3.1.sz<=1000000000 by omega),bd_s]
  generalize(iA a3.1)=y at*
  rw[k1,k2,k3,k4,k5]
  have yz:y.1.sz<=34359738200:=by omega
  have az:a3.1.sz<=34359738368:=by omega
  simp only[ay,ab,bd_s]
  rw[show(((3:Nat):Int) !=3)=false from rfl,ab]
  refine Vi (b:=PUnit.unit) (aBx 3 (by omega) (λrec i hi=> ?_) (λrec=>rfl)) ?_
  ·obtain⟨q1,q2,q3,q4⟩:=k6 (i:Int) ⟨by omega,by omega⟩
   rw[ao (show(i:Int)<3 by omega),ac]
   refine jH (a:=(i:Int) !=e) (by rw[<-q1];exact aB ⟨az,nz⟩) ?_
   refine jH (a:=false) ?_ rfl
   rw[show(!((i:Int) !=e)==((i:Int) !=e))=false by cases(i:Int) !=e<;>rfl,ab]
   refine jH (a:=false) (by rw[<-q2];exact aB ⟨by omega,nz⟩) ?_
   rw[ab,aB yz,bd_s,q3]
   exact jH (a:=true) (by rw[<-q4];exact aB ⟨by omega,by decide⟩) rfl
  ·rw[aB yz,bd_s,k7]
   exact jH (a:=true) (jH (a:=false) (by rw[<-k8];exact aB ⟨by omega,by decide⟩) rfl) rfl
end
end Go.VK
