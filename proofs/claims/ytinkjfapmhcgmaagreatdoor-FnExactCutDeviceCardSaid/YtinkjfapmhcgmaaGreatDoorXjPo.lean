import Derived.Test.YtinkjfapmhcgmaaGreatDoorXjPm
import Derived.Test.YtinkjfapmhcgmaaGreatDoorXjQ
/- Printed by wip/tools: models, walks, proofs. -/
set_option linter.unusedVariables false
set_option linter.unusedSimpArgs false
set_option maxRecDepth 100000
set_option maxHeartbeats 4000000
namespace Go.VK
open Go.RowKit Go.Proofs
noncomputable section
open EV (bU)
theorem aPm (l:List D.aAB)(h:l.length≤34359738368):Pv l=some (bC l):=by
 unfold Pv
 rw[fK (l:=l) (fun n e=>bif e.Kind==2 then IntKind.i64.wrap (n+1) else n) (fun _ _=>True) (fun s=>some s) (by omega) trivial (fun _ _ _ _=>trivial) (fun rec i s hi _=>by
  simp only[bE hi,cond_true,aF hi,bd_s,kF]) (fun rec s _=>by simp only[bF,cond_false])]
 rfl
theorem aPn (l:List D.aAB)(h:l.length≤34359738368):Qg l=some (bC l):=by
 unfold Qg
 rw[fK (l:=l) (fun n e=>bif e.Kind==2 then IntKind.i64.wrap (n+1) else n) (fun _ _=>True) (fun s=>some s) (by omega) trivial (fun _ _ _ _=>trivial) (fun rec i s hi _=>by
  simp only[bE hi,cond_true,aF hi,bd_s,kF]) (fun rec s _=>by simp only[bF,cond_false])]
 rfl
theorem aTn (p e:Int):Yw p e=some (fU p e):=by unfold Yw;rw[aC (by simp)];rfl
theorem aTo (p e:Int):Yl p e=some (fU p e):=by unfold Yl;rw[aC (by simp)];rfl
theorem aTp (k:Int)(b:D.Box)(h:b.Data.length≤34359738200):Ym k b=some (Uc k b):=by
 unfold Ym Uc
 rw[aC (by omega),bd_s,aC (by simp[bJ,sS];omega),aC (by simp[sS];omega)];rfl
theorem aTq (k:Int)(b:D.Box)(h:b.Data.length≤34359738200):Yx k b=some (Uc k b):=by
 unfold Yx Uc
 rw[aC (by omega),bd_s,aC (by simp[vN,sS];omega),bd_s,aC (by simp[sS,nQ];omega)]
 simp[nQ]
theorem aE3 {α β:Type}{y:Nat→α→β}:∀{l:List α} {j i:Nat} (hi:i<l.length),Tz (fun i x=>[y i x]) j (l.take (i+1))=Tz (fun i x=>[y i x]) j (l.take i)++[y (j+i) l[i]]
 |x::xs,j,0,_=>by simp[Tz]
 |x::xs,j,i+1,hi=>by
  have:=aE3 (y:=y) (l:=xs) (j:=j+1) (i:=i) (by simpa using hi)
  simp only[List.take_succ_cons,Tz,List.getElem_cons_succ,this,List.cons_append,List.nil_append]
  rw[show j+1+i=j+(i+1) by omega]
theorem bDm {k:Int}{b:List Int}(hl:b.length≤34359738368){F:(List Int×Nat→Option (List Int))→List Int×Nat→Option (List Int)}
  (hF:∀rec i s (hi:i<b.length),s.length≤34359738368→F rec (s,i)=rec (s++[aXb k i b[i]],i+1)) (hE:∀rec s,F rec (s,b.length)=some s):bU FUEL F ([],0)=some (aDf k b):=by
 refine Zt (fun i s=>i≤b.length∧s=(Tz (fun i z=>[aXb k i z]) 0 (b.take i),i)) b.length _ (by omega) ⟨by omega,by simp[Tz]⟩ (fun i s rec hi hv=> ?_) (fun s rec hv=> ?_)
 ·obtain⟨_,rfl⟩:=hv
  refine .inl ⟨_,⟨hi,rfl⟩,?_⟩
  rw[hF rec i _ hi (by rw[Ns,List.length_take];omega),aE3 hi,Nat.zero_add]
 ·obtain⟨_,rfl⟩:=hv
  rw[hE,List.take_length];rfl
theorem aPo (k:Int)(b:List Int)(h:b.length≤34359738368):Pw k b=some (aDf k b):=by
 unfold Pw
 rw[bDm (k:=k) h (fun rec i s hi hs=>by
  have e:=bG3 k i b[i]
  have h4:((256:Int)≠0)=True:=by simp
  simp only[bE hi,cond_true,aF hi,bd_s,aC (show([(i:Int)]:List Int).length≤34359738368 by simp),h4,gd_T,e,fF hs]) (fun rec s=>by simp only[bF,cond_false])]
 rfl
theorem aPp (k:Int)(b:List Int)(h:b.length≤34359738368):Qh k b=some (aDf k b):=by
 unfold Qh
 rw[bDm (k:=k) h (fun rec i s hi hs=>by
  have e:=bG2 k i b[i]
  simp only[bE hi,cond_true,aF hi,bd_s,aC (show([(i:Int)]:List Int).length≤34359738368 by simp),e,fF hs]) (fun rec s=>by simp only[bF,cond_false])]
 rfl
theorem aPq (p:Int)(b:D.Box):Px p b=some (gG p b):=by
 unfold Px gG
 by_cases hl:b.Data.length≤200
 ·simp only[aC (show b.Data.length≤34359738200 by omega),aC (show b.Data.length≤34359738368 by omega),bd_s,show decide ((b.Data.length:Int)>200)=false from decide_eq_false (by omega)]
  cases dP p<;>cases(b.To !=gV p)<;>cases dP b.Ephemeral<;>cases(b.MAC !=Uc (fU p b.Ephemeral) b)<;>rfl
 ·rw[show decide ((b.Data.length:Int)>200)=true from decide_eq_true (by omega)]
  cases dP p<;>cases(b.To !=gV p)<;>cases dP b.Ephemeral<;>rfl
theorem aAg {bs:List D.Box}{p:Int}(hl:bs.length≤34359738368){F:(Nat→Option ((List Int×Bool)⊕PUnit))→Nat→Option ((List Int×Bool)⊕PUnit)}
  (hF:∀rec i (hi:i<bs.length),F rec i=bif (gG p bs[i]).2 then some (.inl ((gG p bs[i]).1,true)) else rec (i+1)) (hE:∀rec,F rec bs.length=some (.inr ())):nx (bU FUEL F 0) (fun _=>some (([]:List Int),false))=some (gY bs p):=by
 have go:∀(k i n:Nat),i+k=bs.length→k<n→nx (bU n F i) (fun _=>some (([]:List Int),false))=some (gY (bs.drop i) p):=by
  intro k
  induction k with
  |zero=>
   intro i n hk hn
   obtain⟨n,rfl⟩:∃m,n=m+1:=⟨n-1,by omega⟩
   have:i=bs.length:=by omega
   subst this
   rw[iN,hE,List.drop_length];rfl
  |succ k ih=>
   intro i n hk hn
   obtain⟨n,rfl⟩:∃m,n=m+1:=⟨n-1,by omega⟩
   have hi:i<bs.length:=by omega
   rw[iN,hF _ i hi,List.drop_eq_getElem_cons hi,gY]
   cases(gG p bs[i]).2 with
   |true=>rfl
   |false=>exact ih (i+1) n (by omega) (by omega)
 exact go bs.length 0 FUEL (by omega) (by have:=gK;omega)
theorem aPr (bs:List D.Box)(p:Int)(h:bs.length≤34359738368):Py bs p=some (gY bs p):=by
 unfold Py
 exact aAg h (fun rec i hi=>by simp only[bE hi,cond_true,aF hi,bd_s]) (fun rec=>by simp only[bF,cond_false])
theorem aPs (p:Int)(b:D.Box):Qi p b=some (gG p b):=by
 unfold Qi gG
 by_cases hl:b.Data.length≤200
 ·simp only[aC (show b.Data.length≤34359738200 by omega),aC (show b.Data.length≤34359738368 by omega),bd_s,show decide ((b.Data.length:Int)>200)=false from decide_eq_false (by omega)]
  cases dP p<;>cases(b.To !=gV p)<;>cases dP b.Ephemeral<;>cases(b.MAC !=Uc (fU p b.Ephemeral) b)<;>rfl
 ·rw[show decide ((b.Data.length:Int)>200)=true from decide_eq_true (by omega)]
  cases dP p<;>cases(b.To !=gV p)<;>cases dP b.Ephemeral<;>rfl
theorem aPt (bs:List D.Box)(p:Int)(h:bs.length≤34359738368):Qj bs p=some (gY bs p):=by
 unfold Qj
 exact aAg h (fun rec i hi=>by simp only[bE hi,cond_true,aF hi,bd_s]) (fun rec=>by simp only[bF,cond_false])
theorem aPu {c:D.aAH}{b:Int}(hz:c.sz≤34359738368)(h0:0≤b∧b<(c.History.length:Int)):aL c.History (IntKind.i64.wrap (IntKind.i64.wrap ((c.History.length:Int)-1)-b))=some (c.History.getD (c.History.length-1-b.toNat) default)∧(c.History.getD (c.History.length-1-b.toNat) default).sz≤34359738368:=by
 simp only[D.aAH.sz] at hz
 have h1:=aMc (f:=D.aAA.sz) (l:=c.History) (i:=c.History.length-1-b.toNat) (by omega)
 refine⟨?_,by omega⟩
 rw[aP (n:=(c.History.length:Int)-1) (by omega) (by omega),aP (by omega) (by omega),X5 (by omega) (by omega)]
 congr 2;omega
theorem F7 (c:D.aAH)(b:Int)(hz:c.sz≤34359738368):vX c b=some (iO c b):=by
 unfold vX iO
 rw[bIv (by simp only[D.aAH.sz] at hz;omega)]
 cases e:(decide (b<0)||decide (b≥(c.History.length:Int))) with
 |true=>rfl
 |false=>
  obtain⟨h1,h2⟩:=aPu hz (aXh e)
  rw[cond_false,cond_false,h1,bd_s,aC h2,bd_s]
theorem F8 (c:D.aAH)(b:Int)(hz:c.sz≤34359738368):wL c b=some (iO c b):=by
 unfold wL iO
 rw[Ay,bd_s]
 cases e:(decide (b<0)||decide (b≥(c.History.length:Int))) with
 |true=>rfl
 |false=>
  obtain⟨h1,h2⟩:=aPu hz (aXh e)
  rw[cond_false,cond_false,h1,bd_s,aC h2,bd_s]
end
end Go.VK
