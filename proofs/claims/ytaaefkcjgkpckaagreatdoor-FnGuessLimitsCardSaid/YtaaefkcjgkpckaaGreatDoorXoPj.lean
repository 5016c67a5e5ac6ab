import Derived.Test.YtaaefkcjgkpckaaGreatDoorXoPi
import Derived.Test.YtaaefkcjgkpckaaGreatDoorXoQ
/- Printed by wip/tools: models, walks, proofs. -/
set_option linter.unusedVariables false
set_option linter.unusedSimpArgs false
set_option maxRecDepth 100000
set_option maxHeartbeats 4000000
namespace Go.VK
open Go.RowKit Go.Proofs
noncomputable section
open EV (bM)
theorem Y1 (l:List D.aAM)(h:l.length≤34359738368):Bd l=some (pQ l):=by
 unfold Bd pQ
 rw[eG (l:=l) (nC l) (.inl false) (.inr ()) (by omega) (fun rec i hi=>by
  simp only[bU hi,cond_true,aH hi,bd_s,jC]
  rw[bDe (fun q=>q.Index==l[i].Index) (.inl (.inl false)) (.inr ()) i (by omega) h (fun rec j hj=>by simp only[bU hj,cond_true,aH (show j<l.length by omega),bd_s]) (fun rec=>by simp only[bX,cond_false])]
  unfold nC
  cases aW l[i].Index 1 7<;>cases aW l[i].Value 0 1018<;>cases(l.take i).any _<;>rfl) (fun rec=>by simp only[bX,cond_false])]
 cases aW (l.length:Int) 1 7<;>cases dJ (nC l) 0 l<;>rfl
theorem Y2 (l:List D.aAM):Ay l=some (pQ l):=by
 unfold Ay pQ
 cases hr:aW (l.length:Int) 1 7 with
 |false=>rfl
 |true=>
  have hlen:l.length≤7:=by have:=gM hr;omega
  rw[Bool.not_true,cond_false,Bool.true_and]
  rw[yM (s:=((0:Nat),false,false,false,false,false,false,false,false)) (fun i s=>i≤l.length∧s=(i,cS l i 0,cS l i 1,cS l i 2,cS l i 3,cS l i 4,cS l i 5,cS l i 6,cS l i 7)∧∀(j:Nat) (hj:j<l.length),j<i→nC l j l[j]=false) l.length (some (bif dJ (nC l) 0 l then .inl false else .inr ())) (by omega) ⟨by omega,by simp[cS],fun j _ h=>by omega⟩ (fun i s rec hi hv=> ?_) (fun s rec hv=> ?_)]
  ·cases dJ (nC l) 0 l<;>rfl
  ·obtain⟨_,rfl,h3⟩:=hv
   have hbad:nC l i l[i]=true→dJ (nC l) 0 l=true:=fun h=>(qP l 0).2 ⟨i,hi,by rw[Nat.zero_add];exact h⟩
   have hgo:nC l i l[i]=false→∀(j:Nat) (hj:j<l.length),j<i+1→nC l j l[j]=false:=fun h j hj hij=>by
    rcases Nat.lt_or_ge j i with h'|h'
    ·exact h3 j hj h'
    ·have:j=i:=by omega
     subst this;exact h
   simp only[bU hi,cond_true,aH hi,bd_s]
   cases h1:aW l[i].Index 1 7 with
   |false=>exact .inr (by rw[hbad (by unfold nC;rw[h1];rfl)];rfl)
   |true=>
    cases h2:aW l[i].Value 0 1018 with
    |false=>exact .inr (by rw[hbad (by unfold nC;rw[h1,h2];rfl)];rfl)
    |true=>
     have hk:=gM h1
     have hc:nC l i l[i]=cS l i l[i].Index:=by unfold nC cS;rw[h1,h2];rfl
     have go:∀n:Int,l[i].Index=n→(cS l i n=true∧dJ (nC l) 0 l=true)∨(cS l i n=false∧∀(j:Nat) (hj:j<l.length),j<i+1→nC l j l[j]=false):=fun n e=>by
      cases hb:cS l i n with
      |true=>exact .inl ⟨rfl,hbad (by rw[hc,e];exact hb)⟩
      |false=>exact .inr ⟨rfl,hgo (by rw[hc,e];exact hb)⟩
     have hs:=fun k=>bKb (l:=l) (k:=k) hi
     simp only[hs]
     obtain e|e|e|e|e|e|e:l[i].Index=1∨l[i].Index=2∨l[i].Index=3∨l[i].Index=4∨l[i].Index=5∨l[i].Index=6∨l[i].Index=7:=by omega
     all_goals
      rcases go _ e with⟨hb,g⟩|⟨hb,g⟩
      ·exact .inr (by rw[e,g,hb];rfl)
      ·refine .inl ⟨_,⟨by omega,rfl,g⟩,?_⟩
       rw[e,hb]
       simp
  ·obtain⟨_,rfl,h3⟩:=hv
   have:dJ (nC l) 0 l=false:=by
    cases h:dJ (nC l) 0 l with
    |false=>rfl
    |true=>
     obtain⟨i,hi,hp⟩:=(qP l 0).1 h
     rw[Nat.zero_add,h3 i hi hi] at hp;cases hp
   simp only[bX,cond_false,this]
theorem aO0 (a:Int):aOw a=some (aZ a 1019):=rfl
theorem bD6:((1019:Int)≠0)=True:=by simp
theorem aKe (c:Int)(l:List Int)(x:Int)(h:0≤x∧x≤1000∧l.length≤34359738368):Qv c l x=some (iD c l x):=by
 obtain⟨h1,h2,h3⟩:=h
 have hr:=Sb ⟨h1,h2⟩ l
 have hm:=iR (p:=c) (q:=1019) (by omega)
 unfold Qv iD
 rw[aQs (l:=l) (aCa x) some (by omega) (fun rec s i hi=>by
  simp only[show decide ((i:Int)≥0)=true from decide_eq_true (by omega),cond_true,aH hi,bd_s,bD6,gd_T,aG (show-9223372036854775808≤(i:Int)-1 by omega) (by omega)];rfl) (fun rec s=>rfl) (aG (by omega) (by omega))]
 simp only[bd_s,bD6,gd_T]
 rw[aG (by omega) (by omega),Int.tmod_eq_emod_of_nonneg (by omega)]
theorem Zb (c:Int)(l:List Int)(x:Int)(h:0≤x∧x≤1000∧l.length≤34359738368):yC c l x=some (iD c l x):=by
 obtain⟨h1,h2,h3⟩:=h
 have hr:=Sb ⟨h1,h2⟩ l
 have hm:=iR (p:=c) (q:=1019) (by omega)
 unfold yC iD
 rw[aQs (l:=l) (aCa x) some (by omega) (fun rec s i hi=>by
  simp only[show decide ((i:Int)≥0)=true from decide_eq_true (by omega),cond_true,aH hi,bd_s,bD6,gd_T,aG (show-9223372036854775808≤(i:Int)-1 by omega) (by omega)];rfl) (fun rec s=>rfl) (aG (by omega) (by omega))]
 simp only[bd_s]
 rw[aG (by omega) (by omega),aZ,if_pos (by omega)]
theorem aYb {l:List D.aAM}(h:pQ l=true){i:Nat}(hi:i<l.length):1≤l[i].Index∧l[i].Index≤7:=by
 unfold pQ at h
 rw[Bool.and_eq_true,Bool.not_eq_true'] at h
 have hb:nC l i l[i]=false:=by
  cases hc:nC l i l[i] with
  |false=>rfl
  |true=>rw[(qP l 0).2 ⟨i,hi,by rw[Nat.zero_add];exact hc⟩] at h;exact absurd h.2 (by simp)
 unfold nC at hb
 rw[Bool.or_eq_false_iff,Bool.not_eq_false'] at hb
 exact gM hb.1
theorem Kl (l:List D.aAM)(c:List Int)(h:l.length≤34359738368∧c.length≤34359738368):rE l c=some (fZ l c):=by
 unfold rE fZ
 cases hA:pQ l with
 |false=>rfl
 |true=>
  rw[Bool.not_true,cond_false,bG0 (l:=l) (Io c) (by omega) (fun rec i s hi hs=>by
   have:=aYb hA hi
   simp only[bU hi,cond_true,aH hi,bd_s,aA (show 0≤l[i].Index∧l[i].Index≤1000∧c.length≤34359738368 by omega),bD6,gd_T,eZ hs];rfl) (fun rec s=>by simp only[bX,cond_false])]
  rfl
theorem aDh (l:List D.aAA)(h:l.length≤34359738368):Fa l=some (l.map fun h=>h.State.aAM):=by
 unfold Fa
 rw[bG0 (l:=l) (fun h:D.aAA=>h.State.aAM) (by omega) (fun rec i s hi hs=>by simp only[bU hi,cond_true,aH hi,bd_s,eZ hs]) (fun rec s=>by simp only[bX,cond_false])]
 rfl
end
end Go.VK
