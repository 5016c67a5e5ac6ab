import Derived.Test.YtaaefkcjgkpckaaGreatDoorXoPk
import Derived.Test.YtaaefkcjgkpckaaGreatDoorXoQ
/- Printed by wip/tools: models, walks, proofs. -/
set_option linter.unusedVariables false
set_option linter.unusedSimpArgs false
set_option maxRecDepth 100000
set_option maxHeartbeats 4000000
namespace Go.VK
open Go.RowKit Go.Proofs
noncomputable section
open EV (bM)
theorem Td (b:List Int)(h:b.length≤34359738360):uQ b=some (Ry b):=by
 unfold uQ Ry
 rw[bIm (l:=b) IntKind.i64.wrap (by simp;omega) (fun rec i s hi hs=>by simp only[bU hi,cond_true,aH hi,bd_s,eZ hs]) (fun rec s=>by simp only[bX,cond_false])];rfl
theorem Bh (k:Int)(s:ByteArray)(h:s.size≤34359738300):nA k s=some (zD k s):=by
 have hb:=iU s
 unfold nA zD
 rw[aOf,aA (by omega),bd_s,aA (by rw[bDf];omega),bd_s,aQj (jR _ _).1]
theorem aDj (s:ByteArray)(h:s.size≤34359738300):Eh s=some (bT s):=by unfold Eh;rw[aA h];rfl
theorem aV1 {b:D.aAE}{s h:Int}(hf:decide (aI b s h≥0)=true):bA b.Entries (aI b s h)=some (b.Entries.getD (aI b s h).toNat default)∧(aI b s h).toNat<b.Entries.length∧(b.Entries.getD (aI b s h).toNat default).Site=s∧(b.Entries.getD (aI b s h).toNat default).Handle=h:=by
 have h0:=of_decide_eq_true hf
 obtain⟨l1,e,l2,e1,e2,e3⟩:=R6 (p:=fun e:D.Entry=>e.Site==s&&e.Handle==h) (l:=b.Entries) (i:=0) h0
 have e3:aI b s h=((0+l1.length:Nat):Int):=e3
 rw[Nat.zero_add] at e3
 have hl:l1.length<b.Entries.length:=by rw[e1];simp
 have hg:b.Entries.getD l1.length default=e:=by rw[e1];simp[List.getD]
 rw[e3,Int.toNat_natCast,hg]
 simp only[Bool.and_eq_true,beq_iff_eq] at e2
 refine⟨?_,hl,e2.1,e2.2⟩
 rw[aH hl]
 have:b.Entries[l1.length]=e:=by rw[←hg,List.getD,List.getElem?_eq_getElem hl];rfl
 rw[this]
theorem bD7 (b:D.aAE)(x:D.Entry):(Cr b x).Entries.length≤b.Entries.length+1:=by
 unfold Cr
 cases decide (aI b x.Site x.Handle≥0) with
 |true=>simp
 |false=>
  have:=congrArg List.length (List.takeWhile_append_dropWhile (p:=fun e=>qO e x.Site x.Handle) (l:=b.Entries))
  simp only[List.length_append] at this
  simp only[cond_false,List.length_append,List.length_singleton];omega
theorem aDk (b:D.aAE)(s h:Int)(hz:b.sz≤34359738360):Ej b s h=some (aQv b s h):=by
 have hq:=hz
 simp only[D.aAE.sz] at hq
 have hs:=bD7 b (aCy b s h)
 unfold Ej aQv
 have hS:(Cr b (aCy b s h)).sz≤34359738368:=by simp only[D.aAE.sz];omega
 rw[aA (show b.sz≤34359738368 by omega),aA (show b.sz≤34359738368 by omega)]
 simp only[aA (show b.sz≤34359738360 from hz),aA (show b.sz≤34359738368 by omega),bd_s]
 cases hf:decide (aI b s h≥0) with
 |true=>
  obtain⟨h1,h2,_,_⟩:=aV1 hf
  have hv:aCy b s h=⟨s,h,IntKind.i64.wrap ((b.Entries.getD (aI b s h).toNat default).Version+1),false⟩:=by unfold aCy bG1;rw[hf];rfl
  rw[cond_true,h1,bd_s]
  cases hd:(b.Entries.getD (aI b s h).toNat default).Deleted with
  |false=>rfl
  |true=>
   rw[bd_s,Bool.not_true,cond_false,nx_r,←hv,aA hS]
   cases aP b<;>cases aP (Cr b (aCy b s h))<;>rfl
 |false=>
  have hv:aCy b s h=⟨s,h,1,false⟩:=by unfold aCy bG1;rw[hf];rfl
  rw[cond_false,nx_r,←hv,aA hS]
  cases aP b<;>cases aP (Cr b (aCy b s h))<;>rfl
end
end Go.VK
