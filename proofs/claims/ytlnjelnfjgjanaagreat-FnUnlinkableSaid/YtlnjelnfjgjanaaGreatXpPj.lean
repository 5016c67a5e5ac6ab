import Derived.Test.YtlnjelnfjgjanaaGreatXpPh
import Derived.Test.YtlnjelnfjgjanaaGreatXpM
/- Printed by wip/tools: models, walks, proofs. -/
set_option linter.unusedVariables false
set_option linter.unusedSimpArgs false
set_option maxRecDepth 100000
set_option maxHeartbeats 4000000
namespace Go.VK
open Go.RowKit Go.Proofs
noncomputable section
open EV (bT)
theorem T9 (l:List D.aAQ)(h:l.length≤34359738368):Bv l=some (Oo l):=by
 unfold Bv Oo
 rw[kU (l:=l) (aSd l) (.inl false) (.inr ()) (by omega) (fun rec i hi=>by
  simp only[dQ hi,cond_true,aM hi,bd_s,rF]
  rw[bDf (fun q=>q.Index==l[i].Index) (.inl (.inl false)) (.inr ()) i (by omega) h (fun rec j hj=>by simp only[dQ hj,cond_true,aM (show j<l.length by omega),bd_s]) (fun rec=>by simp only[dS,cond_false])]
  unfold aSd
  cases bF l[i].Index 1 7<;>cases bF l[i].Value 0 1018<;>cases(l.take i).any _<;>rfl) (fun rec=>by simp only[dS,cond_false])]
 cases bF (l.length:Int) 1 7<;>cases gB (aSd l) 0 l<;>rfl
theorem aN9 (a:Int):aN5 a=some (dI a 1019):=rfl
theorem bG3:((1019:Int)≠0)=True:=by simp
theorem aJm (c:Int)(l:List Int)(x:Int)(h:0≤x∧x≤1000∧l.length≤34359738368):Rw c l x=some (Ir c l x):=by
 obtain⟨h1,h2,h3⟩:=h
 have hr:=aFh ⟨h1,h2⟩ l
 have hm:=qI (p:=c) (q:=1019) (by omega)
 unfold Rw Ir
 rw[bAc (l:=l) (aFg x) some (by omega) (fun rec s i hi=>by
  simp only[show decide ((i:Int)≥0)=true from decide_eq_true (by omega),cond_true,aM hi,bd_s,bG3,gd_T,aG (show-9223372036854775808≤(i:Int)-1 by omega) (by omega)];rfl) (fun rec s=>rfl) (aG (by omega) (by omega))]
 simp only[bd_s,bG3,gd_T]
 rw[aG (by omega) (by omega),Int.tmod_eq_emod_of_nonneg (by omega)]
theorem aXs {l:List D.aAQ}(h:Oo l=true){i:Nat}(hi:i<l.length):1≤l[i].Index∧l[i].Index≤7:=by
 unfold Oo at h
 rw[Bool.and_eq_true,Bool.not_eq_true'] at h
 have hb:aSd l i l[i]=false:=by
  cases hc:aSd l i l[i] with
  |false=>rfl
  |true=>rw[(Ip l 0).2 ⟨i,hi,by rw[Nat.zero_add];exact hc⟩] at h;exact absurd h.2 (by simp)
 unfold aSd at hb
 rw[Bool.or_eq_false_iff,Bool.not_eq_false'] at hb
 exact kJ hb.1
theorem Kt (l:List D.aAQ)(c:List Int)(h:l.length≤34359738368∧c.length≤34359738368):sP l c=some (jI l c):=by
 unfold sP jI
 rw[aB h.1,bd_s]
 cases hA:Oo l with
 |false=>rfl
 |true=>
  rw[Bool.not_true,cond_false,bGq (l:=l) (bAb c) (by omega) (fun rec i s hi hs=>by
   have:=aXs hA hi
   simp only[dQ hi,cond_true,aM hi,bd_s,aB (show 0≤l[i].Index∧l[i].Index≤1000∧c.length≤34359738368 by omega),bG3,gd_T,gT hs];rfl) (fun rec s=>by simp only[dS,cond_false])]
  rfl
theorem U0 (l:List D.aAA)(h:l.length≤34359738368):Cb l=some (l.map fun h=>h.State.aAQ):=by
 unfold Cb
 rw[bGq (l:=l) (fun h:D.aAA=>h.State.aAQ) (by omega) (fun rec i s hi hs=>by simp only[dQ hi,cond_true,aM hi,bd_s,gT hs]) (fun rec s=>by simp only[dS,cond_false])]
 rfl
end
end Go.VK
