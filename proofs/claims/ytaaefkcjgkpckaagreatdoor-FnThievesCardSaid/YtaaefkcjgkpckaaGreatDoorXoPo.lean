import Derived.Test.YtaaefkcjgkpckaaGreatDoorXoPm
import Derived.Test.YtaaefkcjgkpckaaGreatDoorXoM
/- Printed by wip/tools: models, walks, proofs. -/
set_option linter.unusedVariables false
set_option linter.unusedSimpArgs false
set_option maxRecDepth 100000
set_option maxHeartbeats 4000000
namespace Go.VK
open Go.RowKit Go.Proofs
noncomputable section
open EV (dL)
theorem aHh (l:List D.aAA)(h:l.length≤34359738368):Kc l=some (aD l):=by
 unfold Kc
 rw[gY (l:=l) (fun n e=>bif e.Kind==2 then IntKind.i64.wrap (n+1) else n) (fun _ _=>True) (fun s=>some s) (by omega) trivial (fun _ _ _ _=>trivial) (fun rec i s hi _=>by
  simp only[dZ hi,cond_true,aR hi,bd_s,nA]) (fun rec s _=>by simp only[eD,cond_false])]
 rfl
theorem aJu (p e:Int):Qx p e=some (iR p e):=by unfold Qx;rw[aG (by simp)];rfl
theorem aJv (k:Int)(b:D.Box)(h:b.Data.length≤34359738200):Qy k b=some (aB0 k b):=by
 unfold Qy aB0
 rw[aG (by omega),bd_s,aG (by simp[aX,Di];omega),aG (by simp[Di];omega)];rfl
theorem U4 {α β:Type}{y:Nat→α→β}:∀{l:List α} {j i:Nat} (hi:i<l.length),Gj (fun i x=>[y i x]) j (l.take (i+1))=Gj (fun i x=>[y i x]) j (l.take i)++[y (j+i) l[i]]
 |x::xs,j,0,_=>by simp[Gj]
 |x::xs,j,i+1,hi=>by
  have:=U4 (y:=y) (l:=xs) (j:=j+1) (i:=i) (by simpa using hi)
  simp only[List.take_succ_cons,Gj,List.getElem_cons_succ,this,List.cons_append,List.nil_append]
  rw[show j+1+i=j+(i+1) by omega]
theorem bD5 {k:Int}{b:List Int}(hl:b.length≤34359738368){F:(List Int×Nat→Option (List Int))→List Int×Nat→Option (List Int)}
  (hF:∀rec i s (hi:i<b.length),s.length≤34359738368→F rec (s,i)=rec (s++[aNq k i b[i]],i+1)) (hE:∀rec s,F rec (s,b.length)=some s):dL FUEL F ([],0)=some (O0 k b):=by
 refine aPv (fun i s=>i≤b.length∧s=(Gj (fun i z=>[aNq k i z]) 0 (b.take i),i)) b.length _ (by omega) ⟨by omega,by simp[Gj]⟩ (fun i s rec hi hv=> ?_) (fun s rec hv=> ?_)
 ·obtain⟨_,rfl⟩:=hv
  refine .inl ⟨_,⟨hi,rfl⟩,?_⟩
  rw[hF rec i _ hi (by rw[oM,List.length_take];omega),U4 hi,Nat.zero_add]
 ·obtain⟨_,rfl⟩:=hv
  rw[hE,List.take_length];rfl
theorem aHi (k:Int)(b:List Int)(h:b.length≤34359738368):Kt k b=some (O0 k b):=by
 unfold Kt
 rw[bD5 (k:=k) h (fun rec i s hi hs=>by
  have e:=bAk k i b[i]
  have h4:((256:Int)≠0)=True:=by simp
  simp only[dZ hi,cond_true,aR hi,bd_s,aG (show([(i:Int)]:List Int).length≤34359738368 by simp),h4,gd_T,e,iC hs]) (fun rec s=>by simp only[eD,cond_false])]
 rfl
theorem aHj (p:Int)(b:D.Box):Ku p b=some (gQ p b):=by
 unfold Ku gQ
 by_cases hl:b.Data.length≤200
 ·simp only[aG (show b.Data.length≤34359738200 by omega),aG (show b.Data.length≤34359738368 by omega),bd_s,show decide ((b.Data.length:Int)>200)=false from decide_eq_false (by omega)]
  cases bE p<;>cases(b.To !=dI p)<;>cases bE b.Ephemeral<;>cases(b.MAC !=aB0 (iR p b.Ephemeral) b)<;>rfl
 ·rw[show decide ((b.Data.length:Int)>200)=true from decide_eq_true (by omega)]
  cases bE p<;>cases(b.To !=dI p)<;>cases bE b.Ephemeral<;>rfl
theorem aOd {bs:List D.Box}{p:Int}(hl:bs.length≤34359738368){F:(Nat→Option ((List Int×Bool)⊕PUnit))→Nat→Option ((List Int×Bool)⊕PUnit)}
  (hF:∀rec i (hi:i<bs.length),F rec i=bif (gQ p bs[i]).2 then some (.inl ((gQ p bs[i]).1,true)) else rec (i+1)) (hE:∀rec,F rec bs.length=some (.inr ())):nx (dL FUEL F 0) (fun _=>some (([]:List Int),false))=some (iD bs p):=by
 have go:∀(k i n:Nat),i+k=bs.length→k<n→nx (dL n F i) (fun _=>some (([]:List Int),false))=some (iD (bs.drop i) p):=by
  intro k
  induction k with
  |zero=>
   intro i n hk hn
   obtain⟨n,rfl⟩:∃m,n=m+1:=⟨n-1,by omega⟩
   have:i=bs.length:=by omega
   subst this
   rw[jY,hE,List.drop_length];rfl
  |succ k ih=>
   intro i n hk hn
   obtain⟨n,rfl⟩:∃m,n=m+1:=⟨n-1,by omega⟩
   have hi:i<bs.length:=by omega
   rw[jY,hF _ i hi,List.drop_eq_getElem_cons hi,iD]
   cases(gQ p bs[i]).2 with
   |true=>rfl
   |false=>exact ih (i+1) n (by omega) (by omega)
 exact go bs.length 0 FUEL (by omega) (by have:=jF;omega)
theorem aHk (bs:List D.Box)(p:Int)(h:bs.length≤34359738368):Kv bs p=some (iD bs p):=by
 unfold Kv
 exact aOd h (fun rec i hi=>by simp only[dZ hi,cond_true,aR hi,bd_s]) (fun rec=>by simp only[eD,cond_false])
theorem aRe {c:D.aAB}{b:Int}(hz:c.sz≤34359738368)(h0:0≤b∧b<(c.History.length:Int)):bT c.History (IntKind.i64.wrap (IntKind.i64.wrap ((c.History.length:Int)-1)-b))=some (c.History.getD (c.History.length-1-b.toNat) default)∧(c.History.getD (c.History.length-1-b.toNat) default).sz≤34359738368:=by
 simp only[D.aAB.sz] at hz
 have h1:=Nw (f:=D.aAC.sz) (l:=c.History) (i:=c.History.length-1-b.toNat) (by omega)
 refine⟨?_,by omega⟩
 rw[aK (n:=(c.History.length:Int)-1) (by omega) (by omega),aK (by omega) (by omega),rQ (by omega) (by omega)]
 congr 2;omega
theorem Tx (c:D.aAB)(b:Int)(hz:c.sz≤34359738368):wD c b=some (fG c b):=by
 unfold wD fG
 rw[bDc (by simp only[D.aAB.sz] at hz;omega)]
 cases e:(decide (b<0)||decide (b≥(c.History.length:Int))) with
 |true=>rfl
 |false=>
  obtain⟨h1,h2⟩:=aRe hz (aSs e)
  rw[cond_false,cond_false,h1,bd_s,aG h2,bd_s]
end
end Go.VK
