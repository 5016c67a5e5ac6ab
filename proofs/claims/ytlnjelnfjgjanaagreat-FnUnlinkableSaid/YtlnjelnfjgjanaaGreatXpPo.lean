import Derived.Test.YtlnjelnfjgjanaaGreatXpPm
import Derived.Test.YtlnjelnfjgjanaaGreatXpM
/- Printed by wip/tools: models, walks, proofs. -/
set_option linter.unusedVariables false
set_option linter.unusedSimpArgs false
set_option maxRecDepth 100000
set_option maxHeartbeats 4000000
namespace Go.VK
open Go.RowKit Go.Proofs
noncomputable section
open EV (bT)
theorem aG7 (l:List D.aAC)(h:l.length≤34359738368):Jo l=some (aQ l):=by
 unfold Jo
 rw[fD (l:=l) (fun n e=>bif e.Kind==2 then IntKind.i64.wrap (n+1) else n) (fun _ _=>True) (fun s=>some s) (by omega) trivial (fun _ _ _ _=>trivial) (fun rec i s hi _=>by
  simp only[dQ hi,cond_true,aM hi,bd_s,rF]) (fun rec s _=>by simp only[dS,cond_false])]
 rfl
theorem aJn (p e:Int):Rp p e=some (jB p e):=by unfold Rp;rw[aB (by simp)];rfl
theorem aJo (k:Int)(b:D.Box)(h:b.Data.length≤34359738200):Rq k b=some (aI8 k b):=by
 unfold Rq aI8
 rw[aB (by omega),bd_s,aB (by simp[aS,Tq];omega),aB (by simp[Tq];omega)];rfl
theorem U1 {α β:Type}{y:Nat→α→β}:∀{l:List α} {j i:Nat} (hi:i<l.length),Oj (fun i x=>[y i x]) j (l.take (i+1))=Oj (fun i x=>[y i x]) j (l.take i)++[y (j+i) l[i]]
 |x::xs,j,0,_=>by simp[Oj]
 |x::xs,j,i+1,hi=>by
  have:=U1 (y:=y) (l:=xs) (j:=j+1) (i:=i) (by simpa using hi)
  simp only[List.take_succ_cons,Oj,List.getElem_cons_succ,this,List.cons_append,List.nil_append]
  rw[show j+1+i=j+(i+1) by omega]
theorem bD4 {k:Int}{b:List Int}(hl:b.length≤34359738368){F:(List Int×Nat→Option (List Int))→List Int×Nat→Option (List Int)}
  (hF:∀rec i s (hi:i<b.length),s.length≤34359738368→F rec (s,i)=rec (s++[aR8 k i b[i]],i+1)) (hE:∀rec s,F rec (s,b.length)=some s):bT FUEL F ([],0)=some (aNr k b):=by
 refine Om (fun i s=>i≤b.length∧s=(Oj (fun i z=>[aR8 k i z]) 0 (b.take i),i)) b.length _ (by omega) ⟨by omega,by simp[Oj]⟩ (fun i s rec hi hv=> ?_) (fun s rec hv=> ?_)
 ·obtain⟨_,rfl⟩:=hv
  refine .inl ⟨_,⟨hi,rfl⟩,?_⟩
  rw[hF rec i _ hi (by rw[Ij,List.length_take];omega),U1 hi,Nat.zero_add]
 ·obtain⟨_,rfl⟩:=hv
  rw[hE,List.take_length];rfl
theorem aG8 (k:Int)(b:List Int)(h:b.length≤34359738368):Kc k b=some (aNr k b):=by
 unfold Kc
 rw[bD4 (k:=k) h (fun rec i s hi hs=>by
  have e:=aZ6 k i b[i]
  have h4:((256:Int)≠0)=True:=by simp
  simp only[dQ hi,cond_true,aM hi,bd_s,aB (show([(i:Int)]:List Int).length≤34359738368 by simp),h4,gd_T,e,gT hs]) (fun rec s=>by simp only[dS,cond_false])]
 rfl
theorem aG9 (p:Int)(b:D.Box):Ke p b=some (jH p b):=by
 unfold Ke jH
 by_cases hl:b.Data.length≤200
 ·simp only[aB (show b.Data.length≤34359738200 by omega),aB (show b.Data.length≤34359738368 by omega),bd_s,show decide ((b.Data.length:Int)>200)=false from decide_eq_false (by omega)]
  cases bM p<;>cases(b.To !=eF p)<;>cases bM b.Ephemeral<;>cases(b.MAC !=aI8 (jB p b.Ephemeral) b)<;>rfl
 ·rw[show decide ((b.Data.length:Int)>200)=true from decide_eq_true (by omega)]
  cases bM p<;>cases(b.To !=eF p)<;>cases bM b.Ephemeral<;>rfl
theorem aOa {bs:List D.Box}{p:Int}(hl:bs.length≤34359738368){F:(Nat→Option ((List Int×Bool)⊕PUnit))→Nat→Option ((List Int×Bool)⊕PUnit)}
  (hF:∀rec i (hi:i<bs.length),F rec i=bif (jH p bs[i]).2 then some (.inl ((jH p bs[i]).1,true)) else rec (i+1)) (hE:∀rec,F rec bs.length=some (.inr ())):nx (bT FUEL F 0) (fun _=>some (([]:List Int),false))=some (jW bs p):=by
 have go:∀(k i n:Nat),i+k=bs.length→k<n→nx (bT n F i) (fun _=>some (([]:List Int),false))=some (jW (bs.drop i) p):=by
  intro k
  induction k with
  |zero=>
   intro i n hk hn
   obtain⟨n,rfl⟩:∃m,n=m+1:=⟨n-1,by omega⟩
   have:i=bs.length:=by omega
   subst this
   rw[gU,hE,List.drop_length];rfl
  |succ k ih=>
   intro i n hk hn
   obtain⟨n,rfl⟩:∃m,n=m+1:=⟨n-1,by omega⟩
   have hi:i<bs.length:=by omega
   rw[gU,hF _ i hi,List.drop_eq_getElem_cons hi,jW]
   cases(jH p bs[i]).2 with
   |true=>rfl
   |false=>exact ih (i+1) n (by omega) (by omega)
 exact go bs.length 0 FUEL (by omega) (by have:=gY;omega)
theorem aHa (bs:List D.Box)(p:Int)(h:bs.length≤34359738368):Kg bs p=some (jW bs p):=by
 unfold Kg
 exact aOa h (fun rec i hi=>by simp only[dQ hi,cond_true,aM hi,bd_s]) (fun rec=>by simp only[dS,cond_false])
theorem aQ1 {c:D.aAE}{b:Int}(hz:c.sz≤34359738368)(h0:0≤b∧b<(c.History.length:Int)):bA c.History (IntKind.i64.wrap (IntKind.i64.wrap ((c.History.length:Int)-1)-b))=some (c.History.getD (c.History.length-1-b.toNat) default)∧(c.History.getD (c.History.length-1-b.toNat) default).sz≤34359738368:=by
 simp only[D.aAE.sz] at hz
 have h1:=xO (f:=D.aAD.sz) (l:=c.History) (i:=c.History.length-1-b.toNat) (by omega)
 refine⟨?_,by omega⟩
 rw[aG (n:=(c.History.length:Int)-1) (by omega) (by omega),aG (by omega) (by omega),oC (by omega) (by omega)]
 congr 2;omega
theorem Uh (c:D.aAE)(b:Int)(hz:c.sz≤34359738368):wJ c b=some (gH c b):=by
 unfold wJ gH
 rw[Xy (by simp only[D.aAE.sz] at hz;omega)]
 cases e:(decide (b<0)||decide (b≥(c.History.length:Int))) with
 |true=>rfl
 |false=>
  obtain⟨h1,h2⟩:=aQ1 hz (Iq e)
  rw[cond_false,cond_false,h1,bd_s,aB h2,bd_s]
end
end Go.VK
