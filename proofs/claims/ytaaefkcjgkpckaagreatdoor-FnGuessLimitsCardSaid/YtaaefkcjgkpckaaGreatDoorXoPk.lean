import Derived.Test.YtaaefkcjgkpckaaGreatDoorXoPj
import Derived.Test.YtaaefkcjgkpckaaGreatDoorXoQ
/- Printed by wip/tools: models, walks, proofs. -/
set_option linter.unusedVariables false
set_option linter.unusedSimpArgs false
set_option maxRecDepth 100000
set_option maxHeartbeats 4000000
namespace Go.VK
open Go.RowKit Go.Proofs
noncomputable section
open EV (bM)
theorem aH1 (k:D.aAQ):aHb k=some (fQ k):=rfl
theorem aDi (k:D.aAQ):aC7 k=some (fQ k):=rfl
theorem Km (k:D.aAQ):qZ k=some (dX k):=by
 unfold qZ dX
 rw[aA (by simp),bd_s]
 cases pQ [k.aAM]<;>cases aW k.Epoch 0 1000000<;>cases aW k.Limit 1 10<;>rfl
theorem Kn (k:D.aAQ):qX k=some (dX k):=by
 unfold qX dX
 cases pQ [k.aAM]<;>cases aW k.Epoch 0 1000000<;>cases aW k.Limit 1 10<;>rfl
theorem Od (h:D.aAA)(s:D.aAM)(hz:h.sz≤34359738368):sS h s=some (aGa h s):=by
 unfold sS aGa fE
 simp only[aA hz,bd_s]
 cases dX h.State<;>cases decide (fQ h.State<h.Monotonic)<;>cases(h.State.Epoch==1000000)<;>cases(s.Index !=h.State.aAM.Index)<;>cases pQ [s]<;>rfl
theorem aTv (hs:List D.aAA)(ss:List D.aAM)(hl:ss.length=hs.length)(hz:hs.length≤34359738368){F:(List D.aAA×Nat→Option (List D.aAA×Bool⊕List D.aAA))→List D.aAA×Nat→Option (List D.aAA×Bool⊕List D.aAA)}
  (hF:∀rec i s (hi:i<hs.length) (hj:i<ss.length),s.length≤34359738368→F rec (s,i)=bif fE hs[i] ss[i] then some (.inl (hs,false)) else rec (s++[pR hs[i] ss[i]],i+1)) (hE:∀rec s,F rec (s,hs.length)=some (.inr s)):
  nx (bM FUEL F ([],0)) (fun z=>some (z,true))=some (bif (hs.zip ss).any (fun p=>fE p.1 p.2) then(hs,false) else(List.zipWith pR hs ss,true)):=by
 have hb:∀i (hi:i<hs.length),fE hs[i] (ss[i]'(by omega))=true→(hs.zip ss).any (fun p=>fE p.1 p.2)=true:=fun i hi h=>by
  refine List.any_eq_true.2 ⟨(hs[i],ss[i]'(by omega)),?_,h⟩
  have:=List.getElem_mem (l:=hs.zip ss) (n:=i) (by simp;omega)
  rwa [List.getElem_zip] at this
 have ht:∀i (hi:i<hs.length),List.zipWith pR (hs.take (i+1)) (ss.take (i+1))=List.zipWith pR (hs.take i) (ss.take i)++[pR (hs[i]'(by omega)) (ss[i]'(by omega))]:=fun i hi=>by
  rw[List.take_add_one,List.take_add_one,List.getElem?_eq_getElem hi,List.getElem?_eq_getElem (show i<ss.length by omega)]
  simp only[Option.toList_some]
  rw[List.zipWith_append (by simp;omega)];rfl
 have key:=yM (F:=F) (s:=([],0)) (fun i s=>i≤hs.length∧s=(List.zipWith pR (hs.take i) (ss.take i),i)∧∀j (hj:j<hs.length),j<i→fE hs[j] (ss[j]'(by omega))=false) hs.length (some (bif (hs.zip ss).any (fun p=>fE p.1 p.2) then .inl (hs,false) else .inr (List.zipWith pR hs ss))) (by omega) ⟨by omega,by simp,fun j _ h=>by omega⟩ (fun i s rec hi hv=> ?_) (fun s rec hv=> ?_)
 ·rw[key];cases(hs.zip ss).any _<;>rfl
 ·obtain⟨_,rfl,h3⟩:=hv
  rw[hF rec i _ hi (by omega) (by simp;omega)]
  cases hc:fE hs[i] (ss[i]'(by omega)) with
  |true=>exact .inr (by rw[hb i hi hc];rfl)
  |false=>
   refine .inl ⟨_,⟨hi,by rw[ht i hi],fun j hj hji=> ?_⟩,rfl⟩
   rcases Nat.lt_or_ge j i with h'|h'
   ·exact h3 j hj h'
   ·have:j=i:=by omega
    subst this;exact hc
 ·obtain⟨_,rfl,h3⟩:=hv
  have hn:(hs.zip ss).any (fun p=>fE p.1 p.2)=false:=by
   cases h:(hs.zip ss).any (fun p=>fE p.1 p.2) with
   |false=>rfl
   |true=>
    obtain⟨x,hx,hxb⟩:=List.any_eq_true.1 h
    obtain⟨i,hi,e⟩:=List.getElem_of_mem hx
    rw[List.getElem_zip] at e
    have hi':i<hs.length:=by simp at hi;omega
    rw[←e] at hxb
    simp only at hxb
    rw[h3 i hi' hi'] at hxb;cases hxb
  rw[hE,hn,List.take_length,←hl,List.take_length];rfl
theorem Zc (hs:List D.aAA)(c:List Int)(h:lW D.aAA.sz hs≤34359738368∧c.length≤34359738368):yD hs c=some (dC hs c):=by
 obtain⟨h1,h2⟩:=h
 have h0:hs.length≤34359738368:=by unfold lW at h1;omega
 have hr:=aQt (hs.map fun h=>h.State.aAM) c
 unfold yD dC aGb
 rw[aA h0,bd_s,aA ⟨by simpa using h0,h2⟩,bd_s,aA h1]
 cases he:((fZ (hs.map fun h=>h.State.aAM) c).length:Int)==0 with
 |true=>rfl
 |false=>
  have hl:=aQu (l:=hs.map fun h=>h.State.aAM) (c:=c) (by simpa using he)
  rw[List.length_map] at hl
  rw[cond_false,Bool.false_or,aTv hs _ hl h0 (fun rec i s hi hj hs'=>by
   have hz:=gF (f:=D.aAA.sz) hi
   unfold lW at h1
   simp only[bU hi,cond_true,aH hi,aH hj,bd_s,aA (show hs[i].sz≤34359738368 by omega),eZ hs']
   unfold aGa;cases fE hs[i] (fZ (hs.map fun h=>h.State.aAM) c)[i]<;>rfl) (fun rec s=>by simp only[bX,cond_false])]
theorem aM5 (w:D.World){F:(List Int×Int→Option (List Int))→List Int×Int→Option (List Int)}
  (hF:∀rec (s:List Int) (k:Int),s.length≤100→0≤k→k≤100→F rec (s,k)=bif decide (k<w.aAL.Threshold)&&decide (k≤7) then rec (s++[aK w.Seed [317,w.Now,k]],k+1) else some s):
  ∀(n f:Nat) (k:Int) (s:List Int),n<f→k=9-(n:Int)→n≤8→s.length≤100-n→bM f F (s,k)=some (s++Qn w n k)
 |0,f+1,k,s,hf,hk,_,hs=>by
  rw[jJ,hF _ _ _ (by omega) (by omega) (by omega),show decide (k≤7)=false from decide_eq_false (by omega),Bool.and_false,cond_false]
  unfold Qn;simp
 |n+1,f+1,k,s,hf,hk,hn,hs=>by
  rw[jJ,hF _ _ _ (by omega) (by omega) (by omega)]
  unfold Qn
  cases(decide (k<w.aAL.Threshold)&&decide (k≤7)) with
  |true=>rw[cond_true,cond_true,aM5 w hF n f _ _ (by omega) (by omega) (by omega) (by simp;omega)];simp
  |false=>simp
theorem Zd (w:D.World)(h:w.sz≤34359738368):yE w=some (bR w):=by
 have hz:=h
 simp only[D.World.sz] at hz
 have hc:=aMd w 8 1
 unfold yE bR
 rw[aA h,bd_s,aA h,bd_s,aM5 w (fun rec s k h1 h2 h3=>by
  rw[aA (by simp),bd_s,eZ (s:=s) (by omega),aG (by omega) (by omega),aS1,bd_s]) 8 FUEL 1 [] (by have:=gU;omega) rfl (by omega) (by simp),bd_s,List.nil_append,aA ⟨by unfold lW;omega,by omega⟩,bd_s]
 unfold Xz
 cases bK w<;>cases(dC w.Hosts (Qn w 8 1)).2<;>rfl
end
end Go.VK
