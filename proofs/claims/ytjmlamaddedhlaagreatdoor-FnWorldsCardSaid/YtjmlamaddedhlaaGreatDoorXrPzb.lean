import Derived.Test.YtjmlamaddedhlaaGreatDoorXrPz
import Derived.Test.YtjmlamaddedhlaaGreatDoorXrM
import Derived.Test.YtjmlamaddedhlaaGreatDoorLKatop
/- Printed by wip/tools: models, walks, proofs. -/
set_option linter.all false
set_option maxRecDepth 100000
set_option maxHeartbeats 4000000
namespace Go.VK
open Go.RowKit Go.Proofs
noncomputable section
open EV (bO)
def bB7 (x:Int):0<=kR IntKind.i64 x 255/\kR IntKind.i64 x 255<=255:=by
 unfold kR
 rw[BitVec.toNat_and]
 have h:((BitVec.ofInt IntKind.i64.bits x).toNat&&&(BitVec.ofInt IntKind.i64.bits 255).toNat)<=255:=bw Nat.and_le_right (by decide)
 rw[aH (by omega) (by omega)];omega
def r9 {c:D.aAO}(h:eT c):eT (iH c).1/\0<=(iH c).2/\(iH c).2<=255:=by
 unfold iH
 obtain⟨h1,h2⟩:=h
 cases hc:decide (c.i<(c.b.length:Int)) with
 |true=>
  have hc:=of_decide_eq_true hc
  refine⟨⟨?_,h2⟩,bB7 _⟩
  show 0<=IntKind.i64.wrap (c.i+1)
  rw[aH (by omega) (by omega)];omega
 |false=>exact⟨⟨h1,h2⟩,bB7 _⟩
def w9 {c:D.aAO}(h:eT c)(n:Int):eT (gL c n).1/\0<=(gL c n).2/\(0<n->(gL c n).2<n)/\(n<=0->(gL c n).2=0):=by
 obtain⟨h1,h2,h3⟩:=r9 h
 obtain⟨k1,k2,k3⟩:=r9 h1
 obtain⟨l1,l2,l3⟩:=r9 k1
 unfold gL
 by_cases hn:n<=0
 ·rw[ap hn]
  exact⟨h,e9 _,λq=>absurd q (by omega),λ_=>rfl⟩
 ·rw[aq hn]
  have hn:0<n:=by omega
  simp only[ac]
  by_cases hb:n<=256
  ·rw[ap hb]
   exact⟨h1,eR n h2,λ_=>eL _ hn,λq=>absurd q (by omega)⟩
  ·rw[aq hb]
   simp only[ac]
   generalize(iH c).2=x at*
   generalize(iH (iH c).1).2=y at*
   generalize(iH (iH (iH c).1).1).2=z at*
   rw[aH (show-9223372036854775808<=x*65536 by omega) (by omega),aH (show-9223372036854775808<=y*256 by omega) (by omega),aH (show-9223372036854775808<=x*65536+y*256 by omega) (by omega),aH (show-9223372036854775808<=x*65536+y*256+z by omega) (by omega)]
   exact⟨l1,eR n (by omega),λ_=>eL _ hn,λq=>absurd q (by omega)⟩
def bH5 {l:List Int}(h:l.length<=1048576):eT (bJm l):=⟨e9 _,h⟩
def aK7 (c:D.aAO)(h:eT c):Pq c=some (iH c):=by
 unfold Pq iH
 rw[aA (by decide),aA (by decide)]
 cases hc:decide (c.i<(c.b.length:Int)) with
 |true=>
  have hc:=of_decide_eq_true hc
  have h0:=h.1
  rw[ae,ae,Bg h0 (by omega),List.getD,ab (show c.i.toNat<c.b.length by omega)];rfl
 |false=>rfl
def aIt (c:D.aAO)(n:Int)(h:eT c):Ij c n=some (gL c n):=by
 have h1:=(r9 h).1
 have h2:=(r9 h1).1
 unfold Ij gL
 by_cases hn:n<=0
 ·rw[ap hn];rfl
 ·rw[aq hn]
  by_cases hb:n<=256
  ·rw[ap hb]
   simp only[ac,ae,aA h,bd_s,aA (show n≠0 by omega)]
  ·rw[aq hb]
   simp only[ac,aA h,aA h1,aA h2,bd_s,aA (show n≠0 by omega)]
def aK8 (c:D.aAO)(n:Int)(h:eT c):Ps c n=some (Df c n):=by
 unfold Ps
 rw[aA h];rfl
def aUh {c:D.aAO}(h:eT c)(l:List Int):eT (Yo c l).1/\(0<l.length->(Yo c l).2∈l):=by
 obtain⟨h1,h2,h3,_⟩:=w9 h (l.length:Int)
 refine⟨h1,λhl=> ?_⟩
 have h3:=h3 (by omega)
 unfold Yo
 dsimp only
 rw[List.getD,ab (show(gL c (l.length:Int)).2.toNat<l.length by omega)]
 exact cR _
def aPi (c:D.aAO)(l:List Int)(h:eT c/\0<l.length):Yr c l=some (Yo c l):=by
 obtain⟨_,h2,h3,_⟩:=w9 h.1 (l.length:Int)
 have h3:=h3 (by have:=h.2;omega)
 unfold Yr
 rw[aA h.1,bd_s,Yi h2 h3];rfl
def aPj (c:D.aAO)(h:eT c):Yt c=some (aRs c):=by
 have h1:eT (Df c 10).1:=(w9 h 10).1
 unfold Yt
 refine rH (a:=Df c 10) (aA h) ?_
 unfold aRs
 cases(Df c 10).2 with
 |true=>exact rH (a:=Yo (Df c 10).1 [0,-1,1,2147483646,2147483647]) (aA ⟨h1,by decide⟩) rfl
 |false=>exact rH (a:=gL (Df c 10).1 99999) (aA h1) rfl
end
end Go.VK
