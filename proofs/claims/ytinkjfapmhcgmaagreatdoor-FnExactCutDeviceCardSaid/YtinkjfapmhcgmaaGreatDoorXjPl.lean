import Derived.Test.YtinkjfapmhcgmaaGreatDoorXjPi
import Derived.Test.YtinkjfapmhcgmaaGreatDoorXjQ
/- Printed by wip/tools: models, walks, proofs. -/
set_option linter.unusedVariables false
set_option linter.unusedSimpArgs false
set_option maxRecDepth 100000
set_option maxHeartbeats 4000000
namespace Go.VK
open Go.RowKit Go.Proofs
noncomputable section
open EV (bU)
theorem F3 (b:List Int)(h:b.length≤34359738360):vY b=some (sS b):=by
 unfold vY sS
 rw[bJn (l:=b) IntKind.i64.wrap (by simp;omega) (fun rec i s hi hs=>by simp only[bE hi,cond_true,aF hi,bd_s,fF hs]) (fun rec s=>by simp only[bF,cond_false])];rfl
theorem F4 (b:List Int)(h:b.length≤34359738360):wM b=some (sS b):=by
 unfold wM sS
 rw[bJn (l:=b) IntKind.i64.wrap (by simp;omega) (fun rec i s hi hs=>by simp only[bE hi,cond_true,aF hi,bd_s,fF hs]) (fun rec s=>by simp only[bF,cond_false])];rfl
theorem Dy (k:Int)(s:ByteArray)(h:s.size≤34359738300):nD k s=some (nR k s):=by
 have hb:=iI s
 unfold nD nR
 rw[aMd,aC (by omega),bd_s,aC (by rw[bDc];omega),bd_s,aZs (nP _ _).1]
theorem Dz (k:Int)(s:ByteArray)(h:s.size≤34359738300):nE k s=some (nR k s):=by
 have hb:=iI s
 unfold nE nR
 rw[aMd,aC (by omega),bd_s,aC (by rw[bDc];omega),bd_s]
theorem aJ2 (s:ByteArray)(h:s.size≤34359738300):Jg s=some (gW s):=by unfold Jg;rw[aC h];rfl
theorem aJ3 (s:ByteArray)(h:s.size≤34359738300):Jp s=some (gW s):=by unfold Jp;rw[aC h];rfl
theorem aE2 (b:D.aAD)(s h:Int)(hz:b.sz≤34359738368):Cz b s h=some (aH b s h):=by
 simp only[D.aAD.sz] at hz
 unfold Cz aH
 rw[Av (l:=b.Entries) (fun e=>e.Site==s&&e.Handle==h) (by omega) (fun rec i hi=>by
  simp only[bE hi,cond_true,aF hi,bd_s];cases(b.Entries[i].Site==s)<;>rfl) (fun rec=>by simp only[bF,cond_false])]
theorem aMh {b:D.aAD}{s h:Int}(hf:decide (aH b s h≥0)=true):aL b.Entries (aH b s h)=some (b.Entries.getD (aH b s h).toNat default)∧(aH b s h).toNat<b.Entries.length∧(b.Entries.getD (aH b s h).toNat default).Site=s∧(b.Entries.getD (aH b s h).toNat default).Handle=h:=by
 have h0:=of_decide_eq_true hf
 obtain⟨l1,e,l2,e1,e2,e3⟩:=aDg (p:=fun e:D.Entry=>e.Site==s&&e.Handle==h) (l:=b.Entries) (i:=0) h0
 have e3:aH b s h=((0+l1.length:Nat):Int):=e3
 rw[Nat.zero_add] at e3
 have hl:l1.length<b.Entries.length:=by rw[e1];simp
 have hg:b.Entries.getD l1.length default=e:=by rw[e1];simp[List.getD]
 rw[e3,Int.toNat_natCast,hg]
 simp only[Bool.and_eq_true,beq_iff_eq] at e2
 refine⟨?_,hl,e2.1,e2.2⟩
 rw[aF hl]
 have:b.Entries[l1.length]=e:=by rw[←hg,List.getD,List.getElem?_eq_getElem hl];rfl
 rw[this]
theorem aX0 (b:D.aAD)(x:D.Entry):(nV b x).Entries.length≤b.Entries.length+1:=by
 unfold nV
 cases decide (aH b x.Site x.Handle≥0) with
 |true=>simp
 |false=>
  have:=congrArg List.length (List.takeWhile_append_dropWhile (p:=fun e=>iJ e x.Site x.Handle) (l:=b.Entries))
  simp only[List.length_append] at this
  simp only[cond_false,List.length_append,List.length_singleton];omega
theorem aJ4 (b:D.aAD)(s h:Int)(hz:b.sz≤34359738360):Jh b s h=some (aDh b s h):=by
 have hq:=hz
 simp only[D.aAD.sz] at hq
 have hs:=aX0 b (mW b s h)
 unfold Jh aDh
 have hS:(nV b (mW b s h)).sz≤34359738368:=by simp only[D.aAD.sz];omega
 rw[aC (show b.sz≤34359738368 by omega),aC (show b.sz≤34359738368 by omega)]
 simp only[aC (show b.sz≤34359738360 from hz),aC (show b.sz≤34359738368 by omega),bd_s]
 cases hf:decide (aH b s h≥0) with
 |true=>
  obtain⟨h1,h2,_,_⟩:=aMh hf
  have hv:mW b s h=⟨s,h,IntKind.i64.wrap ((b.Entries.getD (aH b s h).toNat default).Version+1),false⟩:=by unfold mW bHa;rw[hf];rfl
  rw[cond_true,h1,bd_s]
  cases hd:(b.Entries.getD (aH b s h).toNat default).Deleted with
  |false=>rfl
  |true=>
   rw[bd_s,Bool.not_true,cond_false,nx_r,←hv,aC hS]
   cases aJ b<;>cases aJ (nV b (mW b s h))<;>rfl
 |false=>
  have hv:mW b s h=⟨s,h,1,false⟩:=by unfold mW bHa;rw[hf];rfl
  rw[cond_false,nx_r,←hv,aC hS]
  cases aJ b<;>cases aJ (nV b (mW b s h))<;>rfl
theorem bB8 {α:Type}{p:α→Bool}{l:List α}:(l.takeWhile p).length≤l.length:=by
 have:=congrArg List.length (List.takeWhile_append_dropWhile (p:=p) (l:=l))
 simp only[List.length_append] at this;omega
theorem bMs {α:Type}{p:α→Bool}{l:List α}:l.takeWhile p=l.take (l.takeWhile p).length∧l.dropWhile p=l.drop (l.takeWhile p).length:=by
 have e:=List.takeWhile_append_dropWhile (p:=p) (l:=l)
 have h1:=congrArg (List.take (l.takeWhile p).length) e
 have h2:=congrArg (List.drop (l.takeWhile p).length) e
 rw[List.take_left] at h1
 rw[List.drop_left] at h2
 exact⟨h1,h2⟩
theorem bHi (b:D.aAD)(x:D.Entry)(hz:b.Entries.length≤34359738360){F:(Int→Option Int)→Int→Option Int}
  (hF:∀rec i (hi:i<b.Entries.length),F rec (i:Int)=bif dX b.Entries[i] x then rec (((i+1:Nat):Int)) else some (i:Int)) (hE:∀rec,F rec (b.Entries.length:Int)=some (b.Entries.length:Int)):bU FUEL F 0=some (((b.Entries.takeWhile fun e=>iJ e x.Site x.Handle).length:Nat):Int):=by
 refine Zt (fun i s=>i≤(b.Entries.takeWhile fun e=>iJ e x.Site x.Handle).length∧s=(i:Int)) (b.Entries.takeWhile fun e=>iJ e x.Site x.Handle).length _ (by have:=bB8 (p:=fun e=>iJ e x.Site x.Handle) (l:=b.Entries);omega) ⟨by omega,rfl⟩ (fun i s rec hi hv=> ?_) (fun s rec hv=> ?_)
 ·obtain⟨_,rfl⟩:=hv
  rcases aMg (fun e=>iJ e x.Site x.Handle) b.Entries i (by omega) with⟨h1,h2,_⟩|⟨h1,_⟩
  ·refine .inl ⟨_,⟨by omega,rfl⟩,?_⟩
   rw[hF rec i h1]
   have:dX b.Entries[i] x=true:=h2
   rw[this];rfl
  ·omega
 ·obtain⟨_,rfl⟩:=hv
  rcases aMg (fun e=>iJ e x.Site x.Handle) b.Entries _ (Nat.le_refl _) with⟨_,_,h3⟩|⟨_,h2⟩
  ·omega
  ·rcases Nat.lt_or_ge (b.Entries.takeWhile fun e=>iJ e x.Site x.Handle).length b.Entries.length with hlt|hge
   ·rw[hF rec _ hlt]
    have:dX b.Entries[(b.Entries.takeWhile fun e=>iJ e x.Site x.Handle).length] x=false:=h2 hlt
    rw[this];rfl
   ·have:=bB8 (p:=fun e=>iJ e x.Site x.Handle) (l:=b.Entries)
    have e:(b.Entries.takeWhile fun e=>iJ e x.Site x.Handle).length=b.Entries.length:=by omega
    rw[e,hE]
theorem aJ5 (b:D.aAD)(s h:Int)(hz:b.sz≤34359738360):Jq b s h=some (aDh b s h):=by
 have hq:=hz
 simp only[D.aAD.sz] at hq
 have hs:=aX0 b (mW b s h)
 have hS:(nV b (mW b s h)).sz≤34359738368:=by simp only[D.aAD.sz];omega
 unfold Jq aDh
 simp only[aC (show b.sz≤34359738368 by omega),bd_s]
 cases hb:aJ b with
 |false=>simp
 |true=>
  rw[Bool.not_true,cond_false]
  cases hf:decide (aH b s h≥0) with
  |true=>
   obtain⟨h1,h2,h3,h4⟩:=aMh hf
   have h0:=of_decide_eq_true hf
   have hv:mW b s h=⟨s,h,IntKind.i64.wrap ((b.Entries.getD (aH b s h).toNat default).Version+1),false⟩:=by unfold mW bHa;rw[hf];rfl
   have hset:nV b (mW b s h)=⟨b.Entries.set (aH b s h).toNat (mW b s h)⟩:=by
    unfold nV
    rw[show(mW b s h).Site=s from rfl,show(mW b s h).Handle=h from rfl,hf];rfl
   rw[cond_true,h1,bd_s]
   cases hd:(b.Entries.getD (aH b s h).toNat default).Deleted with
   |false=>rfl
   |true=>
    rw[bd_s,Bool.not_true,cond_false]
    rw[nK h0 (by rw[List.length_set];exact h2),bd_s,List.getElem_set_self,bd_s,nx_r,List.set_set,h3,h4,←hv,←hset,aC hS,bd_s]
    cases aJ (nV b (mW b s h))<;>rfl
  |false=>
   have hv:mW b s h=⟨s,h,1,false⟩:=by unfold mW bHa;rw[hf];rfl
   have hset:nV b (mW b s h)=⟨b.Entries.takeWhile (fun e=>iJ e s h)++[mW b s h]++b.Entries.dropWhile (fun e=>iJ e s h)⟩:=by
    unfold nV
    rw[show(mW b s h).Site=s from rfl,show(mW b s h).Handle=h from rfl,hf];rfl
   have hl:=bB8 (p:=fun e=>iJ e s h) (l:=b.Entries)
   obtain⟨w1,w2⟩:=bMs (p:=fun e=>iJ e s h) (l:=b.Entries)
   rw[←hv,cond_false,bHi b (mW b s h) hq (fun rec i hi=>by
    simp only[bE hi,cond_true,aF hi,bd_s,aP (show-9223372036854775808≤(i:Int)+1 by omega) (by omega)];rfl) (fun rec=>by simp only[bF,cond_false,bd_s])]
   rw[show(mW b s h).Site=s from rfl,show(mW b s h).Handle=h from rfl,bd_s,bQ]
   rw[aC (show mF b.Entries _ by unfold mF;omega),aC (show mF b.Entries _ by unfold mF;omega),aC (by unfold bJ;simp;omega),aC (by unfold bJ;simp;omega),aC (by unfold bJ;simp;omega),nx_r,List.nil_append,←w1,←w2,←hset,aC hS,bd_s]
   cases aJ (nV b (mW b s h))<;>rfl
end
end Go.VK
