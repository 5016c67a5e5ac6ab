import Derived.Test.YtefkjglmpmakcaaGreatDoorXlPm
import Derived.Test.YtefkjglmpmakcaaGreatDoorXlQ
/- Printed by wip/tools: models, walks, proofs. -/
set_option linter.unusedVariables false
set_option linter.unusedSimpArgs false
set_option maxRecDepth 100000
set_option maxHeartbeats 4000000
namespace Go.VK
open Go.RowKit Go.Proofs
noncomputable section
open EV (bS)
theorem aMr (l:List D.aAB)(h:l.length≤34359738368):Lj l=some (bC l):=by
 unfold Lj
 rw[fB (l:=l) (fun n e=>bif e.Kind==2 then IntKind.i64.wrap (n+1) else n) (fun _ _=>True) (fun s=>some s) (by omega) trivial (fun _ _ _ _=>trivial) (fun rec i s hi _=>by
  simp only[bJ hi,cond_true,aF hi,bd_s,jC]) (fun rec s _=>by simp only[bM,cond_false])]
 rfl
theorem aMs (l:List D.aAB)(h:l.length≤34359738368):Mo l=some (bC l):=by
 unfold Mo
 rw[fB (l:=l) (fun n e=>bif e.Kind==2 then IntKind.i64.wrap (n+1) else n) (fun _ _=>True) (fun s=>some s) (by omega) trivial (fun _ _ _ _=>trivial) (fun rec i s hi _=>by
  simp only[bJ hi,cond_true,aF hi,bd_s,jC]) (fun rec s _=>by simp only[bM,cond_false])]
 rfl
theorem aPt (p e:Int):Ty p e=some (gB p e):=by unfold Ty;rw[aB (by simp)];rfl
theorem aPu (p e:Int):Tn p e=some (gB p e):=by unfold Tn;rw[aB (by simp)];rfl
theorem aPv (k:Int)(b:D.Box)(h:b.Data.length≤34359738200):Tq k b=some (Pw k b):=by
 unfold Tq Pw
 rw[aB (by omega),bd_s,aB (by simp[bD,rU];omega),aB (by simp[rU];omega)];rfl
theorem aPw (k:Int)(b:D.Box)(h:b.Data.length≤34359738200):Tz k b=some (Pw k b):=by
 unfold Tz Pw
 rw[aB (by omega),bd_s,aB (by simp[uP,rU];omega),bd_s,aB (by simp[rU,nJ];omega)]
 simp[nJ]
theorem aCt {α β:Type}{y:Nat→α→β}:∀{l:List α} {j i:Nat} (hi:i<l.length),Ps (fun i x=>[y i x]) j (l.take (i+1))=Ps (fun i x=>[y i x]) j (l.take i)++[y (j+i) l[i]]
 |x::xs,j,0,_=>by simp[Ps]
 |x::xs,j,i+1,hi=>by
  have:=aCt (y:=y) (l:=xs) (j:=j+1) (i:=i) (by simpa using hi)
  simp only[List.take_succ_cons,Ps,List.getElem_cons_succ,this,List.cons_append,List.nil_append]
  rw[show j+1+i=j+(i+1) by omega]
theorem aZe {k:Int}{b:List Int}(hl:b.length≤34359738368){F:(List Int×Nat→Option (List Int))→List Int×Nat→Option (List Int)}
  (hF:∀rec i s (hi:i<b.length),s.length≤34359738368→F rec (s,i)=rec (s++[aS1 k i b[i]],i+1)) (hE:∀rec s,F rec (s,b.length)=some s):bS FUEL F ([],0)=some (aBd k b):=by
 refine aBa (fun i s=>i≤b.length∧s=(Ps (fun i z=>[aS1 k i z]) 0 (b.take i),i)) b.length _ (by omega) ⟨by omega,by simp[Ps]⟩ (fun i s rec hi hv=> ?_) (fun s rec hv=> ?_)
 ·obtain⟨_,rfl⟩:=hv
  refine .inl ⟨_,⟨hi,rfl⟩,?_⟩
  rw[hF rec i _ hi (by rw[Ko,List.length_take];omega),aCt hi,Nat.zero_add]
 ·obtain⟨_,rfl⟩:=hv
  rw[hE,List.take_length];rfl
theorem aMt (k:Int)(b:List Int)(h:b.length≤34359738368):Me k b=some (aBd k b):=by
 unfold Me
 rw[aZe (k:=k) h (fun rec i s hi hs=>by
  have e:=bCy k i b[i]
  have h4:((256:Int)≠0)=True:=by simp
  simp only[bJ hi,cond_true,aF hi,bd_s,aB (show([(i:Int)]:List Int).length≤34359738368 by simp),h4,gd_T,e,gM hs]) (fun rec s=>by simp only[bM,cond_false])]
 rfl
theorem aMu (k:Int)(b:List Int)(h:b.length≤34359738368):Mt k b=some (aBd k b):=by
 unfold Mt
 rw[aZe (k:=k) h (fun rec i s hi hs=>by
  have e:=bCx k i b[i]
  simp only[bJ hi,cond_true,aF hi,bd_s,aB (show([(i:Int)]:List Int).length≤34359738368 by simp),e,gM hs]) (fun rec s=>by simp only[bM,cond_false])]
 rfl
theorem aMv (p:Int)(b:D.Box):Mf p b=some (gL p b):=by
 unfold Mf gL
 by_cases hl:b.Data.length≤200
 ·simp only[aB (show b.Data.length≤34359738200 by omega),aB (show b.Data.length≤34359738368 by omega),bd_s,show decide ((b.Data.length:Int)>200)=false from decide_eq_false (by omega)]
  cases dG p<;>cases(b.To !=fZ p)<;>cases dG b.Ephemeral<;>cases(b.MAC !=Pw (gB p b.Ephemeral) b)<;>rfl
 ·rw[show decide ((b.Data.length:Int)>200)=true from decide_eq_true (by omega)]
  cases dG p<;>cases(b.To !=fZ p)<;>cases dG b.Ephemeral<;>rfl
theorem O0 {bs:List D.Box}{p:Int}(hl:bs.length≤34359738368){F:(Nat→Option ((List Int×Bool)⊕PUnit))→Nat→Option ((List Int×Bool)⊕PUnit)}
  (hF:∀rec i (hi:i<bs.length),F rec i=bif (gL p bs[i]).2 then some (.inl ((gL p bs[i]).1,true)) else rec (i+1)) (hE:∀rec,F rec bs.length=some (.inr ())):nx (bS FUEL F 0) (fun _=>some (([]:List Int),false))=some (gX bs p):=by
 have go:∀(k i n:Nat),i+k=bs.length→k<n→nx (bS n F i) (fun _=>some (([]:List Int),false))=some (gX (bs.drop i) p):=by
  intro k
  induction k with
  |zero=>
   intro i n hk hn
   obtain⟨n,rfl⟩:∃m,n=m+1:=⟨n-1,by omega⟩
   have:i=bs.length:=by omega
   subst this
   rw[jF,hE,List.drop_length];rfl
  |succ k ih=>
   intro i n hk hn
   obtain⟨n,rfl⟩:∃m,n=m+1:=⟨n-1,by omega⟩
   have hi:i<bs.length:=by omega
   rw[jF,hF _ i hi,List.drop_eq_getElem_cons hi,gX]
   cases(gL p bs[i]).2 with
   |true=>rfl
   |false=>exact ih (i+1) n (by omega) (by omega)
 exact go bs.length 0 FUEL (by omega) (by have:=gU;omega)
theorem aMw (bs:List D.Box)(p:Int)(h:bs.length≤34359738368):Mg bs p=some (gX bs p):=by
 unfold Mg
 exact O0 h (fun rec i hi=>by simp only[bJ hi,cond_true,aF hi,bd_s]) (fun rec=>by simp only[bM,cond_false])
theorem aMx (p:Int)(b:D.Box):Mv p b=some (gL p b):=by
 unfold Mv gL
 by_cases hl:b.Data.length≤200
 ·simp only[aB (show b.Data.length≤34359738200 by omega),aB (show b.Data.length≤34359738368 by omega),bd_s,show decide ((b.Data.length:Int)>200)=false from decide_eq_false (by omega)]
  cases dG p<;>cases(b.To !=fZ p)<;>cases dG b.Ephemeral<;>cases(b.MAC !=Pw (gB p b.Ephemeral) b)<;>rfl
 ·rw[show decide ((b.Data.length:Int)>200)=true from decide_eq_true (by omega)]
  cases dG p<;>cases(b.To !=fZ p)<;>cases dG b.Ephemeral<;>rfl
theorem aMy (bs:List D.Box)(p:Int)(h:bs.length≤34359738368):Mw bs p=some (gX bs p):=by
 unfold Mw
 exact O0 h (fun rec i hi=>by simp only[bJ hi,cond_true,aF hi,bd_s]) (fun rec=>by simp only[bM,cond_false])
theorem aWc {c:D.aAJ}{b:Int}(hz:c.sz≤34359738368)(h0:0≤b∧b<(c.History.length:Int)):aT c.History (IntKind.i64.wrap (IntKind.i64.wrap ((c.History.length:Int)-1)-b))=some (c.History.getD (c.History.length-1-b.toNat) default)∧(c.History.getD (c.History.length-1-b.toNat) default).sz≤34359738368:=by
 simp only[D.aAJ.sz] at hz
 have h1:=aS6 (f:=D.aAA.sz) (l:=c.History) (i:=c.History.length-1-b.toNat) (by omega)
 refine⟨?_,by omega⟩
 rw[aK (n:=(c.History.length:Int)-1) (by omega) (by omega),aK (by omega) (by omega),aK6 (by omega) (by omega)]
 congr 2;omega
theorem Wz (c:D.aAJ)(b:Int)(hz:c.sz≤34359738368):vD c b=some (qB c b):=by
 unfold vD qB
 rw[bEn (by simp only[D.aAJ.sz] at hz;omega)]
 cases e:(decide (b<0)||decide (b≥(c.History.length:Int))) with
 |true=>rfl
 |false=>
  obtain⟨h1,h2⟩:=aWc hz (aXi e)
  rw[cond_false,cond_false,h1,bd_s,aB h2,bd_s]
end
end Go.VK
