import Derived.Test.YtlnjelnfjgjanaaGreatXpPj
import Derived.Test.YtlnjelnfjgjanaaGreatXpM
/- Printed by wip/tools: models, walks, proofs. -/
set_option linter.unusedVariables false
set_option linter.unusedSimpArgs false
set_option maxRecDepth 100000
set_option maxHeartbeats 4000000
namespace Go.VK
open Go.RowKit Go.Proofs
noncomputable section
open EV (bT)
theorem aG6 (k:D.aAT):aGj k=some (pR k):=rfl
theorem Ku (k:D.aAT):sN k=some (lJ k):=by
 unfold sN lJ
 rw[aB (by simp),bd_s]
 cases Oo [k.aAQ]<;>cases bF k.Epoch 0 1000000<;>cases bF k.Limit 1 10<;>rfl
theorem Pe (h:D.aAA)(s:D.aAQ)(hz:h.sz≤34359738368):uG h s=some (aFi h s):=by
 unfold uG aFi iM
 simp only[aB hz,bd_s,aB (show([s]:List D.aAQ).length≤34359738368 by simp)]
 cases lJ h.State<;>cases decide (pR h.State<h.Monotonic)<;>cases(h.State.Epoch==1000000)<;>cases(s.Index !=h.State.aAQ.Index)<;>cases Oo [s]<;>rfl
theorem aTc (hs:List D.aAA)(ss:List D.aAQ)(hl:ss.length=hs.length)(hz:hs.length≤34359738368){F:(List D.aAA×Nat→Option (List D.aAA×Bool⊕List D.aAA))→List D.aAA×Nat→Option (List D.aAA×Bool⊕List D.aAA)}
  (hF:∀rec i s (hi:i<hs.length) (hj:i<ss.length),s.length≤34359738368→F rec (s,i)=bif iM hs[i] ss[i] then some (.inl (hs,false)) else rec (s++[sW hs[i] ss[i]],i+1)) (hE:∀rec s,F rec (s,hs.length)=some (.inr s)):
  nx (bT FUEL F ([],0)) (fun z=>some (z,true))=some (bif (hs.zip ss).any (fun p=>iM p.1 p.2) then(hs,false) else(List.zipWith sW hs ss,true)):=by
 have hb:∀i (hi:i<hs.length),iM hs[i] (ss[i]'(by omega))=true→(hs.zip ss).any (fun p=>iM p.1 p.2)=true:=fun i hi h=>by
  refine List.any_eq_true.2 ⟨(hs[i],ss[i]'(by omega)),?_,h⟩
  have:=List.getElem_mem (l:=hs.zip ss) (n:=i) (by simp;omega)
  rwa [List.getElem_zip] at this
 have ht:∀i (hi:i<hs.length),List.zipWith sW (hs.take (i+1)) (ss.take (i+1))=List.zipWith sW (hs.take i) (ss.take i)++[sW (hs[i]'(by omega)) (ss[i]'(by omega))]:=fun i hi=>by
  rw[List.take_add_one,List.take_add_one,List.getElem?_eq_getElem hi,List.getElem?_eq_getElem (show i<ss.length by omega)]
  simp only[Option.toList_some]
  rw[List.zipWith_append (by simp;omega)];rfl
 have key:=Om (F:=F) (s:=([],0)) (fun i s=>i≤hs.length∧s=(List.zipWith sW (hs.take i) (ss.take i),i)∧∀j (hj:j<hs.length),j<i→iM hs[j] (ss[j]'(by omega))=false) hs.length (some (bif (hs.zip ss).any (fun p=>iM p.1 p.2) then .inl (hs,false) else .inr (List.zipWith sW hs ss))) (by omega) ⟨by omega,by simp,fun j _ h=>by omega⟩ (fun i s rec hi hv=> ?_) (fun s rec hv=> ?_)
 ·rw[key];cases(hs.zip ss).any _<;>rfl
 ·obtain⟨_,rfl,h3⟩:=hv
  rw[hF rec i _ hi (by omega) (by simp;omega)]
  cases hc:iM hs[i] (ss[i]'(by omega)) with
  |true=>exact .inr (by rw[hb i hi hc];rfl)
  |false=>
   refine .inl ⟨_,⟨hi,by rw[ht i hi],fun j hj hji=> ?_⟩,rfl⟩
   rcases Nat.lt_or_ge j i with h'|h'
   ·exact h3 j hj h'
   ·have:j=i:=by omega
    subst this;exact hc
 ·obtain⟨_,rfl,h3⟩:=hv
  have hn:(hs.zip ss).any (fun p=>iM p.1 p.2)=false:=by
   cases h:(hs.zip ss).any (fun p=>iM p.1 p.2) with
   |false=>rfl
   |true=>
    obtain⟨x,hx,hxb⟩:=List.any_eq_true.1 h
    obtain⟨i,hi,e⟩:=List.getElem_of_mem hx
    rw[List.getElem_zip] at e
    have hi':i<hs.length:=by simp at hi;omega
    rw[←e] at hxb
    simp only at hxb
    rw[h3 i hi' hi'] at hxb;cases hxb
  rw[hE,hn,List.take_length,←hl,List.take_length];rfl
theorem Yx (hs:List D.aAA)(c:List Int)(h:Nv D.aAA.sz hs≤34359738368∧c.length≤34359738368):yY hs c=some (eQ hs c):=by
 obtain⟨h1,h2⟩:=h
 have h0:hs.length≤34359738368:=by unfold Nv at h1;omega
 have hr:=aP0 (hs.map fun h=>h.State.aAQ) c
 unfold yY eQ aSe
 rw[aB h0,bd_s,aB ⟨by simpa using h0,h2⟩,bd_s,aB h1]
 cases he:((jI (hs.map fun h=>h.State.aAQ) c).length:Int)==0 with
 |true=>rfl
 |false=>
  have hl:=aP1 (l:=hs.map fun h=>h.State.aAQ) (c:=c) (by simpa using he)
  rw[List.length_map] at hl
  rw[cond_false,Bool.false_or,aTc hs _ hl h0 (fun rec i s hi hj hs'=>by
   have hz:=mR (f:=D.aAA.sz) hi
   unfold Nv at h1
   simp only[dQ hi,cond_true,aM hi,aM hj,bd_s,aB (show hs[i].sz≤34359738368 by omega),gT hs']
   unfold aFi;cases iM hs[i] (jI (hs.map fun h=>h.State.aAQ) c)[i]<;>rfl) (fun rec s=>by simp only[dS,cond_false])]
theorem aMt (w:D.World){F:(List Int×Int→Option (List Int))→List Int×Int→Option (List Int)}
  (hF:∀rec (s:List Int) (k:Int),s.length≤100→0≤k→k≤100→F rec (s,k)=bif decide (k<w.aAO.Threshold)&&decide (k≤7) then rec (s++[aU w.Seed [317,w.Now,k]],k+1) else some s):
  ∀(n f:Nat) (k:Int) (s:List Int),n<f→k=9-(n:Int)→n≤8→s.length≤100-n→bT f F (s,k)=some (s++aBi w n k)
 |0,f+1,k,s,hf,hk,_,hs=>by
  rw[gU,hF _ _ _ (by omega) (by omega) (by omega),show decide (k≤7)=false from decide_eq_false (by omega),Bool.and_false,cond_false]
  unfold aBi;simp
 |n+1,f+1,k,s,hf,hk,hn,hs=>by
  rw[gU,hF _ _ _ (by omega) (by omega) (by omega)]
  unfold aBi
  cases(decide (k<w.aAO.Threshold)&&decide (k≤7)) with
  |true=>rw[cond_true,cond_true,aMt w hF n f _ _ (by omega) (by omega) (by omega) (by simp;omega)];simp
  |false=>simp
theorem Yy (w:D.World)(h:w.sz≤34359738368):yZ w=some (eH w):=by
 have hz:=h
 simp only[D.World.sz] at hz
 have hc:=aL4 w 8 1
 unfold yZ eH
 rw[aB h,bd_s,aMt w (fun rec s k h1 h2 h3=>by
  rw[aB (by simp),bd_s,gT (s:=s) (by omega),aG (by omega) (by omega),aNu,bd_s]) 8 FUEL 1 [] (by have:=gY;omega) rfl (by omega) (by simp),bd_s,List.nil_append,aB ⟨by unfold Nv;omega,by omega⟩,bd_s,aB h,bd_s]
 unfold aFj
 cases aN w<;>cases(eQ w.Hosts (aBi w 8 1)).2<;>rfl
end
end Go.VK
