import Derived.Test.YtaaefkcjgkpckaaGreatDoorXoPk
import Derived.Test.YtaaefkcjgkpckaaGreatDoorXoM
/- Printed by wip/tools: models, walks, proofs. -/
set_option linter.unusedVariables false
set_option linter.unusedSimpArgs false
set_option maxRecDepth 100000
set_option maxHeartbeats 4000000
namespace Go.VK
open Go.RowKit Go.Proofs
noncomputable section
open EV (dL)
theorem Tu (b:List Int)(h:b.length≤34359738360):vT b=some (Di b):=by
 unfold vT Di
 rw[bEv (l:=b) IntKind.i64.wrap (by simp;omega) (fun rec i s hi hs=>by simp only[dZ hi,cond_true,aR hi,bd_s,iC hs]) (fun rec s=>by simp only[eD,cond_false])];rfl
theorem Tv (b:List Int)(h:b.length≤34359738360):wQ b=some (Di b):=by
 unfold wQ Di
 rw[bEv (l:=b) IntKind.i64.wrap (by simp;omega) (fun rec i s hi hs=>by simp only[dZ hi,cond_true,aR hi,bd_s,iC hs]) (fun rec s=>by simp only[eD,cond_false])];rfl
theorem Bp (k:Int)(s:ByteArray)(h:s.size≤34359738300):nZ k s=some (lK k s):=by
 have hb:=iN s
 unfold nZ lK
 rw[aDv,aG (by omega),bd_s,aG (by rw[aU5];omega),bd_s,aPx (kL _ _).1]
theorem Bq (k:Int)(s:ByteArray)(h:s.size≤34359738300):oD k s=some (lK k s):=by
 have hb:=iN s
 unfold oD lK
 rw[aDv,aG (by omega),bd_s,aG (by rw[aU5];omega),bd_s]
theorem aCk (s:ByteArray)(h:s.size≤34359738300):Ez s=some (bB s):=by unfold Ez;rw[aG h];rfl
theorem aCl (s:ByteArray)(h:s.size≤34359738300):Fx s=some (bB s):=by unfold Fx;rw[aG h];rfl
theorem aVs {b:D.aAE}{s h:Int}(hf:decide (aJ b s h≥0)=true):bT b.Entries (aJ b s h)=some (b.Entries.getD (aJ b s h).toNat default)∧(aJ b s h).toNat<b.Entries.length∧(b.Entries.getD (aJ b s h).toNat default).Site=s∧(b.Entries.getD (aJ b s h).toNat default).Handle=h:=by
 have h0:=of_decide_eq_true hf
 obtain⟨l1,e,l2,e1,e2,e3⟩:=Nv (p:=fun e:D.Entry=>e.Site==s&&e.Handle==h) (l:=b.Entries) (i:=0) h0
 have e3:aJ b s h=((0+l1.length:Nat):Int):=e3
 rw[Nat.zero_add] at e3
 have hl:l1.length<b.Entries.length:=by rw[e1];simp
 have hg:b.Entries.getD l1.length default=e:=by rw[e1];simp[List.getD]
 rw[e3,Int.toNat_natCast,hg]
 simp only[Bool.and_eq_true,beq_iff_eq] at e2
 refine⟨?_,hl,e2.1,e2.2⟩
 rw[aR hl]
 have:b.Entries[l1.length]=e:=by rw[←hg,List.getD,List.getElem?_eq_getElem hl];rfl
 rw[this]
theorem bD4 (b:D.aAE)(x:D.Entry):(uO b x).Entries.length≤b.Entries.length+1:=by
 unfold uO
 cases decide (aJ b x.Site x.Handle≥0) with
 |true=>simp
 |false=>
  have:=congrArg List.length (List.takeWhile_append_dropWhile (p:=fun e=>rP e x.Site x.Handle) (l:=b.Entries))
  simp only[List.length_append] at this
  simp only[cond_false,List.length_append,List.length_singleton];omega
theorem aCm (b:D.aAE)(s h:Int)(hz:b.sz≤34359738360):Fb b s h=some (aJf b s h):=by
 have hq:=hz
 simp only[D.aAE.sz] at hq
 have hs:=bD4 b (Sj b s h)
 unfold Fb aJf
 have hS:(uO b (Sj b s h)).sz≤34359738368:=by simp only[D.aAE.sz];omega
 rw[aG (show b.sz≤34359738368 by omega),aG (show b.sz≤34359738368 by omega)]
 simp only[aG (show b.sz≤34359738360 from hz),aG (show b.sz≤34359738368 by omega),bd_s]
 cases hf:decide (aJ b s h≥0) with
 |true=>
  obtain⟨h1,h2,_,_⟩:=aVs hf
  have hv:Sj b s h=⟨s,h,IntKind.i64.wrap ((b.Entries.getD (aJ b s h).toNat default).Version+1),false⟩:=by unfold Sj bDd;rw[hf];rfl
  rw[cond_true,h1,bd_s]
  cases hd:(b.Entries.getD (aJ b s h).toNat default).Deleted with
  |false=>rfl
  |true=>
   rw[bd_s,Bool.not_true,cond_false,nx_r,←hv,aG hS]
   cases aP b<;>cases aP (uO b (Sj b s h))<;>rfl
 |false=>
  have hv:Sj b s h=⟨s,h,1,false⟩:=by unfold Sj bDd;rw[hf];rfl
  rw[cond_false,nx_r,←hv,aG hS]
  cases aP b<;>cases aP (uO b (Sj b s h))<;>rfl
end
end Go.VK
