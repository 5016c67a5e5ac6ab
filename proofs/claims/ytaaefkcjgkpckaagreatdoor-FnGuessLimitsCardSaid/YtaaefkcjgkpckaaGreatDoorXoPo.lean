import Derived.Test.YtaaefkcjgkpckaaGreatDoorXoPm
import Derived.Test.YtaaefkcjgkpckaaGreatDoorXoQ
/- Printed by wip/tools: models, walks, proofs. -/
set_option linter.unusedVariables false
set_option linter.unusedSimpArgs false
set_option maxRecDepth 100000
set_option maxHeartbeats 4000000
namespace Go.VK
open Go.RowKit Go.Proofs
noncomputable section
open EV (bM)
theorem aH2 (l:List D.aAB)(h:l.length≤34359738368):Jg l=some (aN l):=by
 unfold Jg
 rw[fI (l:=l) (fun n e=>bif e.Kind==2 then IntKind.i64.wrap (n+1) else n) (fun _ _=>True) (fun s=>some s) (by omega) trivial (fun _ _ _ _=>trivial) (fun rec i s hi _=>by
  simp only[bU hi,cond_true,aH hi,bd_s,jC]) (fun rec s _=>by simp only[bX,cond_false])]
 rfl
theorem aKf (p e:Int):Qq p e=some (jB p e):=by unfold Qq;rw[aA (by simp)];rfl
theorem aKg (k:Int)(b:D.Box)(h:b.Data.length≤34359738200):Qr k b=some (aJ0 k b):=by
 unfold Qr aJ0
 rw[aA (by omega),bd_s,aA (by simp[aO,Ry];omega),aA (by simp[Ry];omega)];rfl
theorem Y3 {α β:Type}{y:Nat→α→β}:∀{l:List α} {j i:Nat} (hi:i<l.length),Fj (fun i x=>[y i x]) j (l.take (i+1))=Fj (fun i x=>[y i x]) j (l.take i)++[y (j+i) l[i]]
 |x::xs,j,0,_=>by simp[Fj]
 |x::xs,j,i+1,hi=>by
  have:=Y3 (y:=y) (l:=xs) (j:=j+1) (i:=i) (by simpa using hi)
  simp only[List.take_succ_cons,Fj,List.getElem_cons_succ,this,List.cons_append,List.nil_append]
  rw[show j+1+i=j+(i+1) by omega]
theorem bD8 {k:Int}{b:List Int}(hl:b.length≤34359738368){F:(List Int×Nat→Option (List Int))→List Int×Nat→Option (List Int)}
  (hF:∀rec i s (hi:i<b.length),s.length≤34359738368→F rec (s,i)=rec (s++[aSw k i b[i]],i+1)) (hE:∀rec s,F rec (s,b.length)=some s):bM FUEL F ([],0)=some (aOb k b):=by
 refine yM (fun i s=>i≤b.length∧s=(Fj (fun i z=>[aSw k i z]) 0 (b.take i),i)) b.length _ (by omega) ⟨by omega,by simp[Fj]⟩ (fun i s rec hi hv=> ?_) (fun s rec hv=> ?_)
 ·obtain⟨_,rfl⟩:=hv
  refine .inl ⟨_,⟨hi,rfl⟩,?_⟩
  rw[hF rec i _ hi (by rw[zF,List.length_take];omega),Y3 hi,Nat.zero_add]
 ·obtain⟨_,rfl⟩:=hv
  rw[hE,List.take_length];rfl
theorem aH3 (k:Int)(b:List Int)(h:b.length≤34359738368):Jt k b=some (aOb k b):=by
 unfold Jt
 rw[bD8 (k:=k) h (fun rec i s hi hs=>by
  have e:=bAk k i b[i]
  have h4:((256:Int)≠0)=True:=by simp
  simp only[bU hi,cond_true,aH hi,bd_s,aA (show([(i:Int)]:List Int).length≤34359738368 by simp),h4,gd_T,e,eZ hs]) (fun rec s=>by simp only[bX,cond_false])]
 rfl
theorem aH4 (p:Int)(b:D.Box):Ju p b=some (jI p b):=by
 unfold Ju jI
 by_cases hl:b.Data.length≤200
 ·simp only[aA (show b.Data.length≤34359738200 by omega),aA (show b.Data.length≤34359738368 by omega),bd_s,show decide ((b.Data.length:Int)>200)=false from decide_eq_false (by omega)]
  cases bJ p<;>cases(b.To !=fC p)<;>cases bJ b.Ephemeral<;>cases(b.MAC !=aJ0 (jB p b.Ephemeral) b)<;>rfl
 ·rw[show decide ((b.Data.length:Int)>200)=true from decide_eq_true (by omega)]
  cases bJ p<;>cases(b.To !=fC p)<;>cases bJ b.Ephemeral<;>rfl
theorem aO1 {bs:List D.Box}{p:Int}(hl:bs.length≤34359738368){F:(Nat→Option ((List Int×Bool)⊕PUnit))→Nat→Option ((List Int×Bool)⊕PUnit)}
  (hF:∀rec i (hi:i<bs.length),F rec i=bif (jI p bs[i]).2 then some (.inl ((jI p bs[i]).1,true)) else rec (i+1)) (hE:∀rec,F rec bs.length=some (.inr ())):nx (bM FUEL F 0) (fun _=>some (([]:List Int),false))=some (jX bs p):=by
 have go:∀(k i n:Nat),i+k=bs.length→k<n→nx (bM n F i) (fun _=>some (([]:List Int),false))=some (jX (bs.drop i) p):=by
  intro k
  induction k with
  |zero=>
   intro i n hk hn
   obtain⟨n,rfl⟩:∃m,n=m+1:=⟨n-1,by omega⟩
   have:i=bs.length:=by omega
   subst this
   rw[jJ,hE,List.drop_length];rfl
  |succ k ih=>
   intro i n hk hn
   obtain⟨n,rfl⟩:∃m,n=m+1:=⟨n-1,by omega⟩
   have hi:i<bs.length:=by omega
   rw[jJ,hF _ i hi,List.drop_eq_getElem_cons hi,jX]
   cases(jI p bs[i]).2 with
   |true=>rfl
   |false=>exact ih (i+1) n (by omega) (by omega)
 exact go bs.length 0 FUEL (by omega) (by have:=gU;omega)
theorem aH5 (bs:List D.Box)(p:Int)(h:bs.length≤34359738368):Jv bs p=some (jX bs p):=by
 unfold Jv
 exact aO1 h (fun rec i hi=>by simp only[bU hi,cond_true,aH hi,bd_s]) (fun rec=>by simp only[bX,cond_false])
theorem aRs {c:D.aAH}{b:Int}(hz:c.sz≤34359738368)(h0:0≤b∧b<(c.History.length:Int)):bA c.History (IntKind.i64.wrap (IntKind.i64.wrap ((c.History.length:Int)-1)-b))=some (c.History.getD (c.History.length-1-b.toNat) default)∧(c.History.getD (c.History.length-1-b.toNat) default).sz≤34359738368:=by
 simp only[D.aAH.sz] at hz
 have h1:=aOe (f:=D.aAC.sz) (l:=c.History) (i:=c.History.length-1-b.toNat) (by omega)
 refine⟨?_,by omega⟩
 rw[aG (n:=(c.History.length:Int)-1) (by omega) (by omega),aG (by omega) (by omega),zJ (by omega) (by omega)]
 congr 2;omega
theorem Tf (c:D.aAH)(b:Int)(hz:c.sz≤34359738368):uZ c b=some (gI c b):=by
 unfold uZ gI
 rw[aOd (by simp only[D.aAH.sz] at hz;omega)]
 cases e:(decide (b<0)||decide (b≥(c.History.length:Int))) with
 |true=>rfl
 |false=>
  obtain⟨h1,h2⟩:=aRs hz (Cs e)
  rw[cond_false,cond_false,h1,bd_s,aA h2,bd_s]
end
end Go.VK
