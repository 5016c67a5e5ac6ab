import Derived.Test.YtfllllgehgablaaGreatDoorXsPz
import Derived.Test.YtfllllgehgablaaGreatDoorXsM
import Derived.Test.YtfllllgehgablaaGreatDoorLMctop
import Derived.Test.YtfllllgehgablaaGreatDoorLKatob
/- Printed by wip/tools: models, walks, proofs. -/
set_option linter.all false
set_option maxRecDepth 100000
set_option maxHeartbeats 4000000
namespace Go.VK
open Go.RowKit Go.Proofs
noncomputable section
open EV (bU)
def bGl (x:Int):0<=mF IntKind.i64 x 255/\mF IntKind.i64 x 255<=255:=by
 unfold mF
 rw[BitVec.toNat_and]
 have h:((BitVec.ofInt IntKind.i64.bits x).toNat&&&(BitVec.ofInt IntKind.i64.bits 255).toNat)<=255:=bq Nat.and_le_right (by decide)
 rw[aI (by omega) (by omega)];omega
def Q8 {c:D.aAQ}(h:aX c):aX (jL c).1/\0<=(jL c).2/\(jL c).2<=255:=by
 unfold jL
 obtain⟨h1,h2⟩:=h
 cases hc:decide (c.i<(c.b.length:Int)) with
 |true=>
  have hc:=of_decide_eq_true hc
  refine⟨⟨?_,h2⟩,bGl _⟩
  show 0<=IntKind.i64.wrap (c.i+1)
  rw[aI (by omega) (by omega)];omega
 |false=>exact⟨⟨h1,h2⟩,bGl _⟩
def kS {c:D.aAQ}(h:aX c)(n:Int):aX (bK c n).1/\0<=(bK c n).2/\(0<n->(bK c n).2<n)/\(n<=0->(bK c n).2=0):=by
 obtain⟨h1,h2,h3⟩:=Q8 h
 obtain⟨k1,k2,k3⟩:=Q8 h1
 obtain⟨l1,l2,l3⟩:=Q8 k1
 unfold bK
 by_cases hn:n<=0
 ·rw[ao hn]
  exact⟨h,du _,λq=>absurd q (by omega),λ_=>rfl⟩
 ·rw[au hn]
  have hn:0<n:=by omega
  simp only[ab]
  by_cases hb:n<=256
  ·rw[ao hb]
   exact⟨h1,fv n h2,λ_=>fw _ hn,λq=>absurd q (by omega)⟩
  ·rw[au hb]
   simp only[ab]
   generalize(jL c).2=x at*
   generalize(jL (jL c).1).2=y at*
   generalize(jL (jL (jL c).1).1).2=z at*
   rw[aI (show-9223372036854775808<=x*65536 by omega) (by omega),aI (show-9223372036854775808<=y*256 by omega) (by omega),aI (show-9223372036854775808<=x*65536+y*256 by omega) (by omega),aI (show-9223372036854775808<=x*65536+y*256+z by omega) (by omega)]
   exact⟨l1,fv n (by omega),λ_=>fw _ hn,λq=>absurd q (by omega)⟩
def aM6 (c:D.aAQ)(h:aX c):Ue c=some (jL c):=by
 unfold Ue jL
 rw[aB (by decide),aB (by decide)]
 cases hc:decide (c.i<(c.b.length:Int)) with
 |true=>
  have hc:=of_decide_eq_true hc
  have h0:=h.1
  rw[ae,ae,rQ h0 (by omega),List.getD,ac (show c.i.toNat<c.b.length by omega)];rfl
 |false=>rfl
def aKk (c:D.aAQ)(n:Int)(h:aX c):Me c n=some (bK c n):=by
 have h1:=(Q8 h).1
 have h2:=(Q8 h1).1
 unfold Me bK
 by_cases hn:n<=0
 ·rw[ao hn];rfl
 ·rw[au hn]
  by_cases hb:n<=256
  ·rw[ao hb]
   simp only[ab,ae,aB h,bd_s,aB (show n≠0 by omega)]
  ·rw[au hb]
   simp only[ab,aB h,aB h1,aB h2,bd_s,aB (show n≠0 by omega)]
def aM7 (c:D.aAQ)(n:Int)(h:aX c):Uo c n=some (oH c n):=by
 unfold Uo
 rw[aB h];rfl
def aX6 {c:D.aAQ}(h:aX c)(l:List Int):aX (Vv c l).1/\(0<l.length->(Vv c l).2∈l):=by
 obtain⟨h1,h2,h3,_⟩:=kS h (l.length:Int)
 refine⟨h1,λhl=> ?_⟩
 have h3:=h3 (by omega)
 unfold Vv
 dsimp only
 rw[List.getD,ac (show(bK c (l.length:Int)).2.toNat<l.length by omega)]
 exact cN _
def aSb (c:D.aAQ)(l:List Int)(h:aX c/\0<l.length):K3 c l=some (Vv c l):=by
 obtain⟨_,h2,h3,_⟩:=kS h.1 (l.length:Int)
 have h3:=h3 (by have:=h.2;omega)
 unfold K3
 rw[aB h.1,bd_s,sK h2 h3];rfl
def bI8 {c:D.aAQ}(h:aX c):aX (aIs c).1:=by
 have h1:aX (oH c 10).1:=(kS h 10).1
 unfold aIs
 cases(oH c 10).2 with
 |true=>exact(aX6 h1 _).1
 |false=>exact(kS h1 99999).1
def aSc (c:D.aAQ)(h:aX c):K4 c=some (aIs c):=by
 have h1:aX (oH c 10).1:=(kS h 10).1
 unfold K4
 refine Ef (a:=oH c 10) (aB h) ?_
 unfold aIs
 cases(oH c 10).2 with
 |true=>exact Ef (a:=Vv (oH c 10).1 [0,-1,1,2147483646,2147483647]) (aB ⟨h1,by decide⟩) rfl
 |false=>exact Ef (a:=bK (oH c 10).1 99999) (aB h1) rfl
end
end Go.VK
