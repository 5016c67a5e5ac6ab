import Derived.Test.YtaaefkcjgkpckaaGreatDoorXoPz
import Derived.Test.YtaaefkcjgkpckaaGreatDoorXoM
import Derived.Test.YtaaefkcjgkpckaaGreatDoorLMctom
/- Printed by wip/tools: models, walks, proofs. -/
set_option linter.unusedVariables false
set_option linter.unusedSimpArgs false
set_option maxRecDepth 100000
set_option maxHeartbeats 4000000
namespace Go.VK
open Go.RowKit Go.Proofs
noncomputable section
open EV (dL)
theorem aVw {x:Int}(h:0≤x):x.tmod 2=0∨x.tmod 2=1:=by
 have:=Int.tmod_nonneg (a:=x) 2 h
 have:=Int.tmod_lt_of_pos x (show(0:Int)<2 by decide)
 omega
theorem V8 (l:List Int)(h:aFw l):Bo l=some true:=by
 unfold Bo
 cases hb:bA2 l with
 |true=>rfl
 |false=>
  have hlen:l.length≤1048576:=by
   unfold bA2 at hb
   rw[decide_eq_false_iff_not] at hb;omega
  have r:=fun i=>bH5 h hlen (i:=i)
  have r0:=r 0 (by omega) (by omega)
  have r1:=r 1 (by omega) (by omega)
  have r2:=aVw (r 2 (by omega) (by omega)).1
  have r3:=aVw (r 3 (by omega) (by omega)).1
  have r4:=aVw (r 4 (by omega) (by omega)).1
  have r5:=aVw r0.1
  have hn:IntKind.i64.wrap (2+(atF l 0).tmod 2)=2∨IntKind.i64.wrap (2+(atF l 0).tmod 2)=3:=by
   rw[aK (by omega) (by omega)];omega
  have hsd:1≤1+atF l 1∧1+atF l 1≤256:=by omega
  have two:(2:Int)≠0:=by decide
  simp only[cond_false,aG (show(0:Int)≤0 by decide),aG (show(0:Int)≤1 by decide),aG (show(0:Int)≤2 by decide),aG (show(0:Int)≤3 by decide),aG (show(0:Int)≤4 by decide),aG two,bd_s,aK (show-9223372036854775808≤1+atF l 1 by omega) (by omega)]
  generalize IntKind.i64.wrap (2+(atF l 0).tmod 2)=n at hn
  generalize 1+atF l 1=seed at hsd
  generalize(atF l 2).tmod 2=j at r2
  generalize(atF l 3).tmod 2=j3 at r3
  generalize(atF l 4).tmod 2=j4 at r4
  have hok:Dp n 3 2 7 seed=true:=by
   unfold Dp
   rw[show bE seed=true from gG (by omega) (by omega),gG (show(1:Int)≤n by omega) (by omega)];decide
  obtain⟨p1,p2,p3,p4⟩:=aX8 hok
  have hA:=bD1 (x:=[]) hok
  have hU:=bGu hok
  have hz0:(aZ n 3 2 7 seed).sz≤100000:=aQl ..
  generalize aZ n 3 2 7 seed=w at p1 p2 p3 p4 hA hU hz0 ⊢
  obtain⟨t1,t2,t3,t4,t5,t6,t7,t8,t9,t10,z1,z2,z3,z4⟩:=bD3 hn hA hU p1 p2 p3 p4 hz0 r2 r3 r4 rfl rfl rfl
  have ho:kT (Ab 0):=⟨2,by decide,rfl⟩
  rw[aG (show w.sz≤34359738368 by omega),bd_s]
  generalize(gU w 1).1=s at*
  rw[aG (show s.sz≤34359738368 by omega),bd_s,aG (show s.sz≤34359738200 by omega),bd_s]
  generalize ha:(nK s 1 j).1=a at*
  simp only[aG (show s.sz≤34359738200 by omega),aG (show w.sz≤34359738200 by omega),aG (show a.sz≤100000000 by omega),bd_s]
  generalize hc:(dJ a 0 1).1=c at*
  simp only[aG (show c.sz≤34359738200 by omega),bd_s]
  rw[show(D.aAK.mk true (ByteArray.mk #[UInt8.ofNat 98,UInt8.ofNat 97,UInt8.ofNat 110,UInt8.ofNat 107,UInt8.ofNat 46,UInt8.ofNat 99,UInt8.ofNat 111,UInt8.ofNat 109]) 443)=Ab 0 from rfl,aG (show kT (Ab 0)∧c.sz≤34359738200 from⟨ho,by omega⟩),bd_s]
  rw[t1,t2,t3,t4,t5,t6,t7,t8,t9,aG (show(nD c 1 j3 (Ab 0)).1.sz≤34359738368 by omega),t10]
  rfl
end
end Go.VK
