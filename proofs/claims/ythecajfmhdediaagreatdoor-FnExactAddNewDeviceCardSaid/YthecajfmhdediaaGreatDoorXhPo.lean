import Derived.Test.YthecajfmhdediaaGreatDoorXhPm
import Derived.Test.YthecajfmhdediaaGreatDoorXhQ
/- Printed by wip/tools: models, walks, proofs. -/
set_option linter.unusedVariables false
set_option linter.unusedSimpArgs false
set_option maxRecDepth 100000
set_option maxHeartbeats 4000000
namespace Go.VK
open Go.RowKit Go.Proofs
noncomputable section
open EV (bX)
theorem aQg (l:List D.aAB)(h:l.length≤34359738368):Pp l=some (bR l):=by
 unfold Pp
 rw[fJ (l:=l) (fun n e=>bif e.Kind==2 then IntKind.i64.wrap (n+1) else n) (fun _ _=>True) (fun s=>some s) (by omega) trivial (fun _ _ _ _=>trivial) (fun rec i s hi _=>by
  simp only[bH hi,cond_true,aH hi,bd_s,jZ]) (fun rec s _=>by simp only[bJ,cond_false])]
 rfl
theorem aQh (l:List D.aAB)(h:l.length≤34359738368):Qc l=some (bR l):=by
 unfold Qc
 rw[fJ (l:=l) (fun n e=>bif e.Kind==2 then IntKind.i64.wrap (n+1) else n) (fun _ _=>True) (fun s=>some s) (by omega) trivial (fun _ _ _ _=>trivial) (fun rec i s hi _=>by
  simp only[bH hi,cond_true,aH hi,bd_s,jZ]) (fun rec s _=>by simp only[bJ,cond_false])]
 rfl
theorem aT8 (p e:Int):Yz p e=some (fU p e):=by unfold Yz;rw[aD (by simp)];rfl
theorem aT9 (p e:Int):Yr p e=some (fU p e):=by unfold Yr;rw[aD (by simp)];rfl
theorem aUa (k:Int)(b:D.Box)(h:b.Data.length≤34359738200):Yt k b=some (Ub k b):=by
 unfold Yt Ub
 rw[aD (by omega),bd_s,aD (by simp[bI,sK];omega),aD (by simp[sK];omega)];rfl
theorem aUb (k:Int)(b:D.Box)(h:b.Data.length≤34359738200):Za k b=some (Ub k b):=by
 unfold Za Ub
 rw[aD (by omega),bd_s,aD (by simp[vP,sK];omega),bd_s,aD (by simp[sK,nO];omega)]
 simp[nO]
theorem aFz {α β:Type}{y:Nat→α→β}:∀{l:List α} {j i:Nat} (hi:i<l.length),Ua (fun i x=>[y i x]) j (l.take (i+1))=Ua (fun i x=>[y i x]) j (l.take i)++[y (j+i) l[i]]
 |x::xs,j,0,_=>by simp[Ua]
 |x::xs,j,i+1,hi=>by
  have:=aFz (y:=y) (l:=xs) (j:=j+1) (i:=i) (by simpa using hi)
  simp only[List.take_succ_cons,Ua,List.getElem_cons_succ,this,List.cons_append,List.nil_append]
  rw[show j+1+i=j+(i+1) by omega]
theorem bDq {k:Int}{b:List Int}(hl:b.length≤34359738368){F:(List Int×Nat→Option (List Int))→List Int×Nat→Option (List Int)}
  (hF:∀rec i s (hi:i<b.length),s.length≤34359738368→F rec (s,i)=rec (s++[aXn k i b[i]],i+1)) (hE:∀rec s,F rec (s,b.length)=some s):bX FUEL F ([],0)=some (aEa k b):=by
 refine Zv (fun i s=>i≤b.length∧s=(Ua (fun i z=>[aXn k i z]) 0 (b.take i),i)) b.length _ (by omega) ⟨by omega,by simp[Ua]⟩ (fun i s rec hi hv=> ?_) (fun s rec hv=> ?_)
 ·obtain⟨_,rfl⟩:=hv
  refine .inl ⟨_,⟨hi,rfl⟩,?_⟩
  rw[hF rec i _ hi (by rw[Nq,List.length_take];omega),aFz hi,Nat.zero_add]
 ·obtain⟨_,rfl⟩:=hv
  rw[hE,List.take_length];rfl
theorem aQi (k:Int)(b:List Int)(h:b.length≤34359738368):Pq k b=some (aEa k b):=by
 unfold Pq
 rw[bDq (k:=k) h (fun rec i s hi hs=>by
  have e:=bG8 k i b[i]
  have h4:((256:Int)≠0)=True:=by simp
  simp only[bH hi,cond_true,aH hi,bd_s,aD (show([(i:Int)]:List Int).length≤34359738368 by simp),h4,gd_T,e,eT hs]) (fun rec s=>by simp only[bJ,cond_false])]
 rfl
theorem aQj (k:Int)(b:List Int)(h:b.length≤34359738368):Qd k b=some (aEa k b):=by
 unfold Qd
 rw[bDq (k:=k) h (fun rec i s hi hs=>by
  have e:=bG7 k i b[i]
  simp only[bH hi,cond_true,aH hi,bd_s,aD (show([(i:Int)]:List Int).length≤34359738368 by simp),e,eT hs]) (fun rec s=>by simp only[bJ,cond_false])]
 rfl
theorem aQk (p:Int)(b:D.Box):Ps p b=some (gI p b):=by
 unfold Ps gI
 by_cases hl:b.Data.length≤200
 ·simp only[aD (show b.Data.length≤34359738200 by omega),aD (show b.Data.length≤34359738368 by omega),bd_s,show decide ((b.Data.length:Int)>200)=false from decide_eq_false (by omega)]
  cases dY p<;>cases(b.To !=fT p)<;>cases dY b.Ephemeral<;>cases(b.MAC !=Ub (fU p b.Ephemeral) b)<;>rfl
 ·rw[show decide ((b.Data.length:Int)>200)=true from decide_eq_true (by omega)]
  cases dY p<;>cases(b.To !=fT p)<;>cases dY b.Ephemeral<;>rfl
theorem aA1 {bs:List D.Box}{p:Int}(hl:bs.length≤34359738368){F:(Nat→Option ((List Int×Bool)⊕PUnit))→Nat→Option ((List Int×Bool)⊕PUnit)}
  (hF:∀rec i (hi:i<bs.length),F rec i=bif (gI p bs[i]).2 then some (.inl ((gI p bs[i]).1,true)) else rec (i+1)) (hE:∀rec,F rec bs.length=some (.inr ())):nx (bX FUEL F 0) (fun _=>some (([]:List Int),false))=some (iA bs p):=by
 have go:∀(k i n:Nat),i+k=bs.length→k<n→nx (bX n F i) (fun _=>some (([]:List Int),false))=some (iA (bs.drop i) p):=by
  intro k
  induction k with
  |zero=>
   intro i n hk hn
   obtain⟨n,rfl⟩:∃m,n=m+1:=⟨n-1,by omega⟩
   have:i=bs.length:=by omega
   subst this
   rw[iW,hE,List.drop_length];rfl
  |succ k ih=>
   intro i n hk hn
   obtain⟨n,rfl⟩:∃m,n=m+1:=⟨n-1,by omega⟩
   have hi:i<bs.length:=by omega
   rw[iW,hF _ i hi,List.drop_eq_getElem_cons hi,iA]
   cases(gI p bs[i]).2 with
   |true=>rfl
   |false=>exact ih (i+1) n (by omega) (by omega)
 exact go bs.length 0 FUEL (by omega) (by have:=gN;omega)
theorem aQl (bs:List D.Box)(p:Int)(h:bs.length≤34359738368):Pt bs p=some (iA bs p):=by
 unfold Pt
 exact aA1 h (fun rec i hi=>by simp only[bH hi,cond_true,aH hi,bd_s]) (fun rec=>by simp only[bJ,cond_false])
theorem aQm (p:Int)(b:D.Box):Qe p b=some (gI p b):=by
 unfold Qe gI
 by_cases hl:b.Data.length≤200
 ·simp only[aD (show b.Data.length≤34359738200 by omega),aD (show b.Data.length≤34359738368 by omega),bd_s,show decide ((b.Data.length:Int)>200)=false from decide_eq_false (by omega)]
  cases dY p<;>cases(b.To !=fT p)<;>cases dY b.Ephemeral<;>cases(b.MAC !=Ub (fU p b.Ephemeral) b)<;>rfl
 ·rw[show decide ((b.Data.length:Int)>200)=true from decide_eq_true (by omega)]
  cases dY p<;>cases(b.To !=fT p)<;>cases dY b.Ephemeral<;>rfl
theorem aQn (bs:List D.Box)(p:Int)(h:bs.length≤34359738368):Qf bs p=some (iA bs p):=by
 unfold Qf
 exact aA1 h (fun rec i hi=>by simp only[bH hi,cond_true,aH hi,bd_s]) (fun rec=>by simp only[bJ,cond_false])
theorem aQo {c:D.aAH}{b:Int}(hz:c.sz≤34359738368)(h0:0≤b∧b<(c.History.length:Int)):aP c.History (IntKind.i64.wrap (IntKind.i64.wrap ((c.History.length:Int)-1)-b))=some (c.History.getD (c.History.length-1-b.toNat) default)∧(c.History.getD (c.History.length-1-b.toNat) default).sz≤34359738368:=by
 simp only[D.aAH.sz] at hz
 have h1:=aM3 (f:=D.aAA.sz) (l:=c.History) (i:=c.History.length-1-b.toNat) (by omega)
 refine⟨?_,by omega⟩
 rw[aR (n:=(c.History.length:Int)-1) (by omega) (by omega),aR (by omega) (by omega),aOi (by omega) (by omega)]
 congr 2;omega
theorem G6 (c:D.aAH)(b:Int)(hz:c.sz≤34359738368):vZ c b=some (iX c b):=by
 unfold vZ iX
 rw[bI2 (by simp only[D.aAH.sz] at hz;omega)]
 cases e:(decide (b<0)||decide (b≥(c.History.length:Int))) with
 |true=>rfl
 |false=>
  obtain⟨h1,h2⟩:=aQo hz (aXs e)
  rw[cond_false,cond_false,h1,bd_s,aD h2,bd_s]
theorem G7 (c:D.aAH)(b:Int)(hz:c.sz≤34359738368):wP c b=some (iX c b):=by
 unfold wP iX
 rw[sS,bd_s]
 cases e:(decide (b<0)||decide (b≥(c.History.length:Int))) with
 |true=>rfl
 |false=>
  obtain⟨h1,h2⟩:=aQo hz (aXs e)
  rw[cond_false,cond_false,h1,bd_s,aD h2,bd_s]
end
end Go.VK
