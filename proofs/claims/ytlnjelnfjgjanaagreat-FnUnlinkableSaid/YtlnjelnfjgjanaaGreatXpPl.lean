import Derived.Test.YtlnjelnfjgjanaaGreatXpPk
import Derived.Test.YtlnjelnfjgjanaaGreatXpM
/- Printed by wip/tools: models, walks, proofs. -/
set_option linter.unusedVariables false
set_option linter.unusedSimpArgs false
set_option maxRecDepth 100000
set_option maxHeartbeats 4000000
namespace Go.VK
open Go.RowKit Go.Proofs
noncomputable section
open EV (bT)
theorem Uf (b:List Int)(h:b.length≤34359738360):vZ b=some (Tq b):=by
 unfold vZ Tq
 rw[bH9 (l:=b) IntKind.i64.wrap (by simp;omega) (fun rec i s hi hs=>by simp only[dQ hi,cond_true,aM hi,bd_s,gT hs]) (fun rec s=>by simp only[dS,cond_false])];rfl
theorem Cm (k:Int)(s:ByteArray)(h:s.size≤34359738300):nN k s=some (vO k s):=by
 have hb:=qN s
 unfold nN vO
 rw[aNv,aB (by omega),bd_s,aB (by rw[bDg];omega),bd_s,aPq (jN _ _).1]
theorem aCh (s:ByteArray)(h:s.size≤34359738300):Fe s=some (bU s):=by unfold Fe;rw[aB h];rfl
theorem aVa {b:D.aAG}{s h:Int}(hf:decide (aL b s h≥0)=true):bA b.Entries (aL b s h)=some (b.Entries.getD (aL b s h).toNat default)∧(aL b s h).toNat<b.Entries.length∧(b.Entries.getD (aL b s h).toNat default).Site=s∧(b.Entries.getD (aL b s h).toNat default).Handle=h:=by
 have h0:=of_decide_eq_true hf
 obtain⟨l1,e,l2,e1,e2,e3⟩:=M8 (p:=fun e:D.Entry=>e.Site==s&&e.Handle==h) (l:=b.Entries) (i:=0) h0
 have e3:aL b s h=((0+l1.length:Nat):Int):=e3
 rw[Nat.zero_add] at e3
 have hl:l1.length<b.Entries.length:=by rw[e1];simp
 have hg:b.Entries.getD l1.length default=e:=by rw[e1];simp[List.getD]
 rw[e3,Int.toNat_natCast,hg]
 simp only[Bool.and_eq_true,beq_iff_eq] at e2
 refine⟨?_,hl,e2.1,e2.2⟩
 rw[aM hl]
 have:b.Entries[l1.length]=e:=by rw[←hg,List.getD,List.getElem?_eq_getElem hl];rfl
 rw[this]
theorem bD3 (b:D.aAG)(x:D.Entry):(Ec b x).Entries.length≤b.Entries.length+1:=by
 unfold Ec
 cases decide (aL b x.Site x.Handle≥0) with
 |true=>simp
 |false=>
  have:=congrArg List.length (List.takeWhile_append_dropWhile (p:=fun e=>rV e x.Site x.Handle) (l:=b.Entries))
  simp only[List.length_append] at this
  simp only[cond_false,List.length_append,List.length_singleton];omega
theorem aCi (b:D.aAG)(s h:Int)(hz:b.sz≤34359738360):Fg b s h=some (aP2 b s h):=by
 have hq:=hz
 simp only[D.aAG.sz] at hq
 have hs:=bD3 b (aB9 b s h)
 unfold Fg aP2
 have hS:(Ec b (aB9 b s h)).sz≤34359738368:=by simp only[D.aAG.sz];omega
 rw[aB (show b.sz≤34359738368 by omega),aB (show b.sz≤34359738368 by omega)]
 simp only[aB (show b.sz≤34359738360 from hz),aB (show b.sz≤34359738368 by omega),bd_s]
 cases hf:decide (aL b s h≥0) with
 |true=>
  obtain⟨h1,h2,_,_⟩:=aVa hf
  have hv:aB9 b s h=⟨s,h,IntKind.i64.wrap ((b.Entries.getD (aL b s h).toNat default).Version+1),false⟩:=by unfold aB9 bGr;rw[hf];rfl
  rw[cond_true,h1,bd_s]
  cases hd:(b.Entries.getD (aL b s h).toNat default).Deleted with
  |false=>rfl
  |true=>
   rw[bd_s,Bool.not_true,cond_false,nx_r,←hv,aB hS]
   cases aT b<;>cases aT (Ec b (aB9 b s h))<;>rfl
 |false=>
  have hv:aB9 b s h=⟨s,h,1,false⟩:=by unfold aB9 bGr;rw[hf];rfl
  rw[cond_false,nx_r,←hv,aB hS]
  cases aT b<;>cases aT (Ec b (aB9 b s h))<;>rfl
end
end Go.VK
