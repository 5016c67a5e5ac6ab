import Derived.Test.YtlnjelnfjgjanaaGreatXpPz
import Derived.Test.YtlnjelnfjgjanaaGreatXpM
import Derived.Test.YtlnjelnfjgjanaaGreatLKatoq
/- Printed by wip/tools: models, walks, proofs. -/
set_option linter.unusedVariables false
set_option linter.unusedSimpArgs false
set_option maxRecDepth 100000
set_option maxHeartbeats 4000000
namespace Go.VK
open Go.RowKit Go.Proofs
noncomputable section
open EV (bT)
theorem bBy (x:Int):0≤lD IntKind.i64 x 255∧lD IntKind.i64 x 255≤255:=by
 unfold lD
 rw[BitVec.toNat_and]
 have h:((BitVec.ofInt IntKind.i64.bits x).toNat&&&(BitVec.ofInt IntKind.i64.bits 255).toNat)≤255:=Nat.le_trans Nat.and_le_right (by decide)
 rw[aG (by omega) (by omega)];omega
theorem d9 {c:D.aAR}(h:bP c):bP (iX c).1∧0≤(iX c).2∧(iX c).2≤255:=by
 unfold iX
 obtain⟨h1,h2⟩:=h
 cases hc:decide (c.i<(c.b.length:Int)) with
 |true=>
  have hc:=of_decide_eq_true hc
  refine⟨⟨?_,h2⟩,bBy _⟩
  show 0≤IntKind.i64.wrap (c.i+1)
  rw[aG (by omega) (by omega)];omega
 |false=>exact⟨⟨h1,h2⟩,bBy _⟩
theorem bD {c:D.aAR}(h:bP c)(n:Int):bP (cB c n).1∧0≤(cB c n).2∧(0<n→(cB c n).2<n)∧(n≤0→(cB c n).2=0):=by
 obtain⟨h1,h2,h3⟩:=d9 h
 obtain⟨k1,k2,k3⟩:=d9 h1
 obtain⟨l1,l2,l3⟩:=d9 k1
 unfold cB
 by_cases hn:n≤0
 ·rw[decide_eq_true hn]
  exact⟨h,Int.le_refl _,fun q=>absurd q (by omega),fun _=>rfl⟩
 ·rw[decide_eq_false hn]
  have hn:0<n:=by omega
  simp only[cond_false]
  by_cases hb:n≤256
  ·rw[decide_eq_true hb]
   exact⟨h1,Int.tmod_nonneg n h2,fun _=>Int.tmod_lt_of_pos _ hn,fun q=>absurd q (by omega)⟩
  ·rw[decide_eq_false hb]
   simp only[cond_false]
   generalize(iX c).2=x at*
   generalize(iX (iX c).1).2=y at*
   generalize(iX (iX (iX c).1).1).2=z at*
   rw[aG (show-9223372036854775808≤x*65536 by omega) (by omega),aG (show-9223372036854775808≤y*256 by omega) (by omega),aG (show-9223372036854775808≤x*65536+y*256 by omega) (by omega),aG (show-9223372036854775808≤x*65536+y*256+z by omega) (by omega)]
   exact⟨l1,Int.tmod_nonneg n (by omega),fun _=>Int.tmod_lt_of_pos _ hn,fun q=>absurd q (by omega)⟩
theorem bEm {a b c d e:Int}(a1:0≤a)(a2:a<4)(b1:0≤b)(b2:b<3)(c1:0≤c)(c2:0<IntKind.i64.wrap (1+a)→c<IntKind.i64.wrap (1+a))(d1:0≤d)(d2:d<40)(e1:0≤e)(e2:e<999):
  ∃n k t p s,dH (IntKind.i64.wrap (1+b)) (IntKind.i64.wrap (1+a)) (IntKind.i64.wrap (1+c)) d (IntKind.i64.wrap (1+e))=dH n k t p s∧Yi n k t p s=true∧1≤s∧s≤999:=by
 rw[aG (show-9223372036854775808≤1+a by omega) (by omega)] at c2 ⊢
 have c2:=c2 (by omega)
 rw[aG (show-9223372036854775808≤1+b by omega) (by omega),aG (show-9223372036854775808≤1+c by omega) (by omega),aG (show-9223372036854775808≤1+e by omega) (by omega)]
 refine⟨_,_,_,_,_,rfl,?_,by omega,by omega⟩
 unfold Yi
 rw[show bM (1+e)=true from kG (by omega) (by omega),kG (show(1:Int)≤1+b by omega) (by omega),kG (show(1:Int)≤1+a by omega) (by omega),kG (show(1:Int)≤1+c by omega) (by omega),kG d1 (by omega)];rfl
theorem aHl {c:D.aAR}(h:bP c):bP (kX c).1∧∃n k t p s,(kX c).2=dH n k t p s∧Yi n k t p s=true∧1≤s∧s≤999:=by
 have hA:bP (dA c).1:=(bD h 4).1
 have hB:bP (dB c).1:=(bD hA 3).1
 have hC:bP (dC c).1:=(bD hB (IntKind.i64.wrap (1+(dA c).2))).1
 have hD:bP (dD c).1:=(bD hC 40).1
 have hE:bP (dE c).1:=(bD hD 999).1
 have a1:0≤(dA c).2:=(bD h 4).2.1
 have a2:(dA c).2<4:=(bD h 4).2.2.1 (by decide)
 have b1:0≤(dB c).2:=(bD hA 3).2.1
 have b2:(dB c).2<3:=(bD hA 3).2.2.1 (by decide)
 have c1:0≤(dC c).2:=(bD hB (IntKind.i64.wrap (1+(dA c).2))).2.1
 have c2:0<IntKind.i64.wrap (1+(dA c).2)→(dC c).2<IntKind.i64.wrap (1+(dA c).2):=(bD hB (IntKind.i64.wrap (1+(dA c).2))).2.2.1
 have d1:0≤(dD c).2:=(bD hC 40).2.1
 have d2:(dD c).2<40:=(bD hC 40).2.2.1 (by decide)
 have e1:0≤(dE c).2:=(bD hD 999).2.1
 have e2:(dE c).2<999:=(bD hD 999).2.2.1 (by decide)
 unfold kX
 dsimp only
 exact⟨hE,bEm a1 a2 b1 b2 c1 c2 d1 d2 e1 e2⟩
theorem bBz {c:D.aAR}(h:bP c):bP (Ef c).1∧aB8 (Ef c).2:=by
 have hA:bP (eA c).1:=(bD h 13).1
 have a2:0≤(eA c).2:=(bD h 13).2.1
 have a3:(eA c).2<13:=(bD h 13).2.2.1 (by decide)
 have hB:bP (eB c).1:=(bD hA 4).1
 have b2:0≤(eB c).2:=(bD hA 4).2.1
 have b3:(eB c).2<4:=(bD hA 4).2.2.1 (by decide)
 have hC:bP (eC c).1:=(bD hB 3).1
 have c2:0≤(eC c).2:=(bD hB 3).2.1
 have c3:(eC c).2<3:=(bD hB 3).2.2.1 (by decide)
 have hD:bP (eD c).1:=(bD hC 4).1
 have d2:0≤(eD c).2:=(bD hC 4).2.1
 have d3:(eD c).2<4:=(bD hC 4).2.2.1 (by decide)
 have hE:bP (eE c).1:=(bD hD 3).1
 have f1:bP (cB (eE c).1 40).1:=(bD hE 40).1
 have f2:0≤(cB (eE c).1 40).2:=(bD hE 40).2.1
 have f3:(cB (eE c).1 40).2<40:=(bD hE 40).2.2.1 (by decide)
 have g1:bP (Ex (eE c).1 2).1:=(bD hE 2).1
 have hk:1≤eK c∧eK c≤13:=by unfold eK;rw[aG (by omega) (by omega)];omega
 unfold Ef
 generalize eK c=k at*
 generalize(eB c).2=b at*
 generalize(eC c).2=d at*
 generalize(eD c).2=v at*
 generalize(cB (eE c).1 40)=f at*
 generalize(Ex (eE c).1 2)=g at*
 generalize eE c=q at*
 cases h1:k==11 with
 |true=>
  rw[beq_iff_eq] at h1
  exact⟨f1,hk,⟨b2,by show b≤3;omega⟩,⟨c2,by show d≤2;omega⟩,⟨f2,by show f.2≤39;omega⟩,fun q=>absurd h1 q⟩
 |false=>
  cases h2:k==4||k==13 with
  |true=>
   refine⟨g1,?_,⟨b2,by show b≤3;omega⟩,⟨c2,by show d≤2;omega⟩,⟨d2,by show v≤39;omega⟩,fun _=>by show v≤3;omega⟩
   show 1≤(bif g.2 then(2:Int) else k)∧(bif g.2 then(2:Int) else k)≤13
   cases g.2
   ·exact hk
   ·exact⟨show(1:Int)≤2 by decide,show(2:Int)≤13 by decide⟩
  |false=>exact⟨hE,hk,⟨b2,by show b≤3;omega⟩,⟨c2,by show d≤2;omega⟩,⟨d2,by show v≤39;omega⟩,fun _=>by show v≤3;omega⟩
theorem aTm {c:D.aAR}(h:bP c):∀n,bP (xD c n).1∧(xD c n).2.length=n∧∀e∈(xD c n).2,aB8 e
 |0=>⟨h,rfl,fun e he=>by simp[xD] at he⟩
 |n+1=>by
  obtain⟨h1,h2,h3⟩:=aTm h n
  obtain⟨k1,k2⟩:=bBz h1
  refine⟨k1,by simp[xD,h2],fun e he=> ?_⟩
  simp only[xD,List.mem_append,List.mem_singleton] at he
  rcases he with he|rfl
  ·exact h3 e he
  ·exact k2
theorem aVe {l:List Int}(h:l.length≤1048576):3≤xY l 14∧xY l 14≤14:=by
 have h1:=Int.tdiv_nonneg (a:=(l.length:Int)) (b:=12) (by omega) (by decide)
 have h2:(l.length:Int).tdiv 12≤(l.length:Int):=Int.tdiv_le_self _ (by omega)
 unfold xY
 rw[aG (show-9223372036854775808≤(l.length:Int).tdiv 12 by omega) (by omega),aG (show-9223372036854775808≤3+(l.length:Int).tdiv 12 by omega) (by omega)]
 by_cases h3:3+(l.length:Int).tdiv 12>14
 ·rw[decide_eq_true h3];exact⟨show(3:Int)≤14 by decide,show(14:Int)≤14 by decide⟩
 ·rw[decide_eq_false h3]
  show 3≤3+(l.length:Int).tdiv 12∧3+(l.length:Int).tdiv 12≤14
  omega
theorem bB0 {l:List Int}(h:l.length≤1048576):bP (aW3 l):=⟨Int.le_refl _,h⟩
theorem bEn {l:List Int}(h:l.length≤1048576):(∃n k t p s,(aBq l).1=dH n k t p s∧Yi n k t p s=true∧1≤s∧s≤999)∧(aBq l).2.length≤19∧∀e∈(aBq l).2,aB8 e:=by
 obtain⟨h1,h2⟩:=aHl (bB0 h)
 have hs:=aVe h
 have hm:IntKind.i64.wrap (6+xY l 14)≤20∧0<IntKind.i64.wrap (6+xY l 14):=by rw[aG (by omega) (by omega)];omega
 obtain⟨k1,k2,k3,_⟩:=bD h1 (IntKind.i64.wrap (6+xY l 14))
 obtain⟨_,e2,e3⟩:=aTm k1 (cB (kX (aW3 l)).1 (IntKind.i64.wrap (6+xY l 14))).2.toNat
 refine⟨h2,?_,e3⟩
 show(xD _ _).2.length≤19
 rw[e2]
 have:=k3 hm.2
 omega
theorem aJt (c:D.aAR)(h:bP c):Rn c=some (iX c):=by
 unfold Rn iX
 rw[aB (by decide),aB (by decide)]
 cases hc:decide (c.i<(c.b.length:Int)) with
 |true=>
  have hc:=of_decide_eq_true hc
  have h0:=h.1
  rw[cond_true,cond_true,mP h0 (by omega),List.getD,List.getElem?_eq_getElem (show c.i.toNat<c.b.length by omega)];rfl
 |false=>rfl
theorem aHm (c:D.aAR)(n:Int)(h:bP c):Jk c n=some (cB c n):=by
 have h1:=(d9 h).1
 have h2:=(d9 h1).1
 unfold Jk cB
 by_cases hn:n≤0
 ·rw[decide_eq_true hn];rfl
 ·rw[decide_eq_false hn]
  by_cases hb:n≤256
  ·rw[decide_eq_true hb]
   simp only[cond_false,cond_true,aB h,bd_s,aB (show n≠0 by omega)]
  ·rw[decide_eq_false hb]
   simp only[cond_false,aB h,aB h1,aB h2,bd_s,aB (show n≠0 by omega)]
theorem aJu (c:D.aAR)(n:Int)(h:bP c):Rz c n=some (Ex c n):=by
 unfold Rz
 rw[aB h];rfl
theorem aJv (l:List Int)(m:Int):Ry l m=some (xY l m):=by
 unfold Ry xY
 rw[aB (by decide)]
 cases decide (IntKind.i64.wrap (3+IntKind.i64.wrap ((l.length:Int).tdiv 12))>m)<;>rfl
theorem aJw (c:D.aAR)(h:bP c):Rx c=some (kX c):=by
 have hA:bP (dA c).1:=(bD h 4).1
 have hB:bP (dB c).1:=(bD hA 3).1
 have hC:bP (dC c).1:=(bD hB (IntKind.i64.wrap (1+(dA c).2))).1
 have hD:bP (dD c).1:=(bD hC 40).1
 unfold Rx
 exact eT (a:=dA c) (aB h) (eT (a:=dB c) (aB hA) (eT (a:=dC c) (aB hB) (eT (a:=dD c) (aB hC) (eT (a:=dE c) (aB hD) rfl))))
theorem aCt (c:D.aAR)(h:bP c):Fq c=some (Ef c):=by
 have hA:bP (eA c).1:=(bD h 13).1
 have hB:bP (eB c).1:=(bD hA 4).1
 have hC:bP (eC c).1:=(bD hB 3).1
 have hD:bP (eD c).1:=(bD hC 4).1
 have hE:bP (eE c).1:=(bD hD 3).1
 unfold Fq
 refine eT (a:=eA c) (aB h) (eT (a:=eB c) (aB hA) (eT (a:=eC c) (aB hB) (eT (a:=eD c) (aB hC) (eT (a:=eE c) (aB hD) ?_))))
 change bd (bif eK c==11 then _ else bd (bif eK c==4 then _ else some (eK c==13)) _) _=_
 unfold Ef
 cases eK c==11 with
 |true=>
  simp only[cond_true]
  exact eT (eT (a:=cB (eE c).1 40) (aB hE) rfl) rfl
 |false=>
  simp only[cond_false]
  rw[show(bif eK c==4 then(some true:Option Bool) else some (eK c==13))=some (eK c==4||eK c==13) by cases eK c==4<;>rfl,bd_s]
  cases eK c==4||eK c==13 with
  |true=>
   simp only[cond_true]
   cases hq:(Ex (eE c).1 2).2 with
   |true=>exact eT (eT (a:=Ex (eE c).1 2) (aB hE) (by rw[hq];rfl)) rfl
   |false=>exact eT (eT (a:=Ex (eE c).1 2) (aB hE) (by rw[hq];rfl)) rfl
  |false=>rfl
theorem X3 (c:D.aAR)(m:Int)(h:bP c∧m≤256):Bp c m=some (Oc c m):=by
 obtain⟨h,hm⟩:=h
 obtain⟨k1,k2,k3,k4⟩:=bD h m
 have hv:(cB c m).2≤256:=by
  by_cases h0:0<m
  ·have:=k3 h0;omega
  ·rw[k4 (by omega)];decide
 unfold Bp Oc
 rw[aB h,bd_s]
 generalize(cB c m).1=c0 at*
 generalize(cB c m).2=v at*
 obtain⟨n,rfl⟩:=Int.eq_ofNat_of_zero_le k2
 rw[Int.toNat_natCast]
 refine eT (qX (r:=((xD c0 n).2,(xD c0 n).1.b,(xD c0 n).1.i,(xD c0 n).1.h)) (fun i=>((xD c0 i).2,((n-i:Nat):Int),(xD c0 i).1.b,(xD c0 i).1.i,(xD c0 i).1.h)) n (by omega) (fun rec i hi=> ?_) (fun rec=> ?_) rfl) rfl
 ·obtain⟨q1,q2,_⟩:=aTm k1 i
  simp only[decide_eq_true (show((n-i:Nat):Int)>0 by omega),cond_true]
  rw[aB (show bP ⟨(xD c0 i).1.b,(xD c0 i).1.i,(xD c0 i).1.h⟩ from q1),bd_s,aB (by unfold aS;rw[q2,List.length_singleton];omega),show IntKind.i64.wrap (((n-i:Nat):Int)-1)=((n-(i+1):Nat):Int) by rw[aG (by omega) (by omega)];omega]
  rfl
 ·simp only[Nat.sub_self,decide_eq_false (show ¬((0:Nat):Int)>0 by decide),cond_false]
theorem Va (l:List Int)(h:l.length≤1048576):wN l=some (aBq l):=by
 unfold wN
 refine eT (a:=bE8 l) (qX (fun i=>(aUx l i,(i:Int))) (min l.length 4000) (by omega) (fun rec i hi=> ?_) (fun rec=> ?_) rfl) ?_
 ·simp only[decide_eq_true (show(i:Int)<(l.length:Int) by omega),decide_eq_true (show(i:Int)<4000 by omega),cond_true,bd_s,aM (show i<l.length by omega)]
  rw[show IntKind.i64.wrap ((i:Int)+1)=((i+1:Nat):Int) by rw[aG (by omega) (by omega)];omega,aUx,List.getD,List.getElem?_eq_getElem (show i<l.length by omega)];rfl
 ·by_cases hl:l.length<4000
  ·simp only[decide_eq_false (show ¬((min l.length 4000:Nat):Int)<(l.length:Int) by omega),cond_false,bd_s];rfl
  ·simp only[decide_eq_false (show ¬((min l.length 4000:Nat):Int)<4000 by omega),aYl,bd_s,cond_false]
   cases decide (((min l.length 4000:Nat):Int)<(l.length:Int))<;>rfl
 ·have hs:=aVe h
  have h1:=bB0 h
  exact eT (a:=kX (aW3 l)) (aB h1) (eT (a:=Oc (kX (aW3 l)).1 (IntKind.i64.wrap (6+xY l 14))) (aB ⟨(aHl h1).1,by rw[aG (by omega) (by omega)];omega⟩) rfl)
end
end Go.VK
