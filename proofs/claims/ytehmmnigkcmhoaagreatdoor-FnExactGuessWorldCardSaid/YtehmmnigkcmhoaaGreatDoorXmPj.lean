import Derived.Test.YtehmmnigkcmhoaaGreatDoorXmPi
import Derived.Test.YtehmmnigkcmhoaaGreatDoorXmQ
/- Printed by wip/tools: models, walks, proofs. -/
set_option linter.unusedVariables false
set_option linter.unusedSimpArgs false
set_option maxRecDepth 100000
set_option maxHeartbeats 4000000
namespace Go.VK
open Go.RowKit Go.Proofs
noncomputable section
open EV (cB)
theorem Q9 (l:List D.aAN)(h:l.length≤34359738368):xY l=some (aGp l):=by
 unfold xY aGp
 rw[fF (l:=l) (Ak l) (.inl false) (.inr ()) (by omega) (fun rec i hi=>by
  simp only[bG hi,cond_true,aD hi,bd_s,kL]
  rw[aZn (fun q=>q.Index==l[i].Index) (.inl (.inl false)) (.inr ()) i (by omega) h (fun rec j hj=>by simp only[bG hj,cond_true,aD (show j<l.length by omega),bd_s]) (fun rec=>by simp only[bH,cond_false])]
  unfold Ak
  cases cZ l[i].Index 1 7<;>cases cZ l[i].Value 0 1018<;>cases(l.take i).any _<;>rfl) (fun rec=>by simp only[bH,cond_false])]
 cases cZ (l.length:Int) 1 7<;>cases eU (Ak l) 0 l<;>rfl
theorem R3 (l:List D.aAN):yM l=some (aGp l):=by
 unfold yM aGp
 cases hr:cZ (l.length:Int) 1 7 with
 |false=>rfl
 |true=>
  have hlen:l.length≤7:=by have:=aFj hr;omega
  rw[Bool.not_true,cond_false,Bool.true_and]
  rw[xB (s:=((0:Nat),false,false,false,false,false,false,false,false)) (fun i s=>i≤l.length∧s=(i,cS l i 0,cS l i 1,cS l i 2,cS l i 3,cS l i 4,cS l i 5,cS l i 6,cS l i 7)∧∀(j:Nat) (hj:j<l.length),j<i→Ak l j l[j]=false) l.length (some (bif eU (Ak l) 0 l then .inl false else .inr ())) (by omega) ⟨by omega,by simp[cS],fun j _ h=>by omega⟩ (fun i s rec hi hv=> ?_) (fun s rec hv=> ?_)]
  ·cases eU (Ak l) 0 l<;>rfl
  ·obtain⟨_,rfl,h3⟩:=hv
   have hbad:Ak l i l[i]=true→eU (Ak l) 0 l=true:=fun h=>(sJ l 0).2 ⟨i,hi,by rw[Nat.zero_add];exact h⟩
   have hgo:Ak l i l[i]=false→∀(j:Nat) (hj:j<l.length),j<i+1→Ak l j l[j]=false:=fun h j hj hij=>by
    rcases Nat.lt_or_ge j i with h'|h'
    ·exact h3 j hj h'
    ·have:j=i:=by omega
     subst this;exact h
   simp only[bG hi,cond_true,aD hi,bd_s]
   cases h1:cZ l[i].Index 1 7 with
   |false=>exact .inr (by rw[hbad (by unfold Ak;rw[h1];rfl)];rfl)
   |true=>
    cases h2:cZ l[i].Value 0 1018 with
    |false=>exact .inr (by rw[hbad (by unfold Ak;rw[h1,h2];rfl)];rfl)
    |true=>
     have hk:=aFj h1
     have hc:Ak l i l[i]=cS l i l[i].Index:=by unfold Ak cS;rw[h1,h2];rfl
     have go:∀n:Int,l[i].Index=n→(cS l i n=true∧eU (Ak l) 0 l=true)∨(cS l i n=false∧∀(j:Nat) (hj:j<l.length),j<i+1→Ak l j l[j]=false):=fun n e=>by
      cases hb:cS l i n with
      |true=>exact .inl ⟨rfl,hbad (by rw[hc,e];exact hb)⟩
      |false=>exact .inr ⟨rfl,hgo (by rw[hc,e];exact hb)⟩
     have hs:=fun k=>bEf (l:=l) (k:=k) hi
     simp only[hs]
     obtain e|e|e|e|e|e|e:l[i].Index=1∨l[i].Index=2∨l[i].Index=3∨l[i].Index=4∨l[i].Index=5∨l[i].Index=6∨l[i].Index=7:=by omega
     all_goals
      rcases go _ e with⟨hb,g⟩|⟨hb,g⟩
      ·exact .inr (by rw[e,g,hb];rfl)
      ·refine .inl ⟨_,⟨by omega,rfl,g⟩,?_⟩
       rw[e,hb]
       simp
  ·obtain⟨_,rfl,h3⟩:=hv
   have:eU (Ak l) 0 l=false:=by
    cases h:eU (Ak l) 0 l with
    |false=>rfl
    |true=>
     obtain⟨i,hi,hp⟩:=(sJ l 0).1 h
     rw[Nat.zero_add,h3 i hi hi] at hp;cases hp
   simp only[bH,cond_false,this]
theorem aPm (a:Int):aO9 a=some (bU a 1019):=rfl
end
end Go.VK
