import Derived.Test.YthecajfmhdediaaGreatDoorXhPi
import Derived.Test.YthecajfmhdediaaGreatDoorXhQ
/- Printed by wip/tools: models, walks, proofs. -/
set_option linter.unusedVariables false
set_option linter.unusedSimpArgs false
set_option maxRecDepth 100000
set_option maxHeartbeats 4000000
namespace Go.VK
open Go.RowKit Go.Proofs
noncomputable section
open EV (bX)
theorem F7 (b:List Int)(h:b.length≤34359738360):wB b=some (sK b):=by
 unfold wB sK
 rw[bJu (l:=b) IntKind.i64.wrap (by simp;omega) (fun rec i s hi hs=>by simp only[bH hi,cond_true,aH hi,bd_s,eT hs]) (fun rec s=>by simp only[bJ,cond_false])];rfl
theorem F8 (b:List Int)(h:b.length≤34359738360):wQ b=some (sK b):=by
 unfold wQ sK
 rw[bJu (l:=b) IntKind.i64.wrap (by simp;omega) (fun rec i s hi hs=>by simp only[bH hi,cond_true,aH hi,bd_s,eT hs]) (fun rec s=>by simp only[bJ,cond_false])];rfl
theorem Ei (k:Int)(s:ByteArray)(h:s.size≤34359738300):nG k s=some (nP k s):=by
 have hb:=iN s
 unfold nG nP
 rw[aM4,aD (by omega),bd_s,aD (by rw[bDi];omega),bd_s,aZu (nN _ _).1]
theorem Ej (k:Int)(s:ByteArray)(h:s.size≤34359738300):nH k s=some (nP k s):=by
 have hb:=iN s
 unfold nH nP
 rw[aM4,aD (by omega),bd_s,aD (by rw[bDi];omega),bd_s]
theorem aK0 (s:ByteArray)(h:s.size≤34359738300):Jg s=some (fK s):=by unfold Jg;rw[aD h];rfl
theorem aK1 (s:ByteArray)(h:s.size≤34359738300):Jo s=some (fK s):=by unfold Jo;rw[aD h];rfl
theorem aFy (b:D.aAC)(s h:Int)(hz:b.sz≤34359738368):Dm b s h=some (aJ b s h):=by
 simp only[D.aAC.sz] at hz
 unfold Dm aJ
 rw[Y9 (l:=b.Entries) (fun e=>e.Site==s&&e.Handle==h) (by omega) (fun rec i hi=>by
  simp only[bH hi,cond_true,aH hi,bd_s];cases(b.Entries[i].Site==s)<;>rfl) (fun rec=>by simp only[bJ,cond_false])]
theorem aM7 {b:D.aAC}{s h:Int}(hf:decide (aJ b s h≥0)=true):aP b.Entries (aJ b s h)=some (b.Entries.getD (aJ b s h).toNat default)∧(aJ b s h).toNat<b.Entries.length∧(b.Entries.getD (aJ b s h).toNat default).Site=s∧(b.Entries.getD (aJ b s h).toNat default).Handle=h:=by
 have h0:=of_decide_eq_true hf
 obtain⟨l1,e,l2,e1,e2,e3⟩:=aEb (p:=fun e:D.Entry=>e.Site==s&&e.Handle==h) (l:=b.Entries) (i:=0) h0
 have e3:aJ b s h=((0+l1.length:Nat):Int):=e3
 rw[Nat.zero_add] at e3
 have hl:l1.length<b.Entries.length:=by rw[e1];simp
 have hg:b.Entries.getD l1.length default=e:=by rw[e1];simp[List.getD]
 rw[e3,Int.toNat_natCast,hg]
 simp only[Bool.and_eq_true,beq_iff_eq] at e2
 refine⟨?_,hl,e2.1,e2.2⟩
 rw[aH hl]
 have:b.Entries[l1.length]=e:=by rw[←hg,List.getD,List.getElem?_eq_getElem hl];rfl
 rw[this]
theorem aYa (b:D.aAC)(x:D.Entry):(nS b x).Entries.length≤b.Entries.length+1:=by
 unfold nS
 cases decide (aJ b x.Site x.Handle≥0) with
 |true=>simp
 |false=>
  have:=congrArg List.length (List.takeWhile_append_dropWhile (p:=fun e=>iO e x.Site x.Handle) (l:=b.Entries))
  simp only[List.length_append] at this
  simp only[cond_false,List.length_append,List.length_singleton];omega
theorem aK2 (b:D.aAC)(s h:Int)(hz:b.sz≤34359738360):Jh b s h=some (aEc b s h):=by
 have hq:=hz
 simp only[D.aAC.sz] at hq
 have hs:=aYa b (mW b s h)
 unfold Jh aEc
 have hS:(nS b (mW b s h)).sz≤34359738368:=by simp only[D.aAC.sz];omega
 rw[aD (show b.sz≤34359738368 by omega),aD (show b.sz≤34359738368 by omega)]
 simp only[aD (show b.sz≤34359738360 from hz),aD (show b.sz≤34359738368 by omega),bd_s]
 cases hf:decide (aJ b s h≥0) with
 |true=>
  obtain⟨h1,h2,_,_⟩:=aM7 hf
  have hv:mW b s h=⟨s,h,IntKind.i64.wrap ((b.Entries.getD (aJ b s h).toNat default).Version+1),false⟩:=by unfold mW bHg;rw[hf];rfl
  rw[cond_true,h1,bd_s]
  cases hd:(b.Entries.getD (aJ b s h).toNat default).Deleted with
  |false=>rfl
  |true=>
   rw[bd_s,Bool.not_true,cond_false,nx_r,←hv,aD hS]
   cases aK b<;>cases aK (nS b (mW b s h))<;>rfl
 |false=>
  have hv:mW b s h=⟨s,h,1,false⟩:=by unfold mW bHg;rw[hf];rfl
  rw[cond_false,nx_r,←hv,aD hS]
  cases aK b<;>cases aK (nS b (mW b s h))<;>rfl
theorem bCf {α:Type}{p:α→Bool}{l:List α}:(l.takeWhile p).length≤l.length:=by
 have:=congrArg List.length (List.takeWhile_append_dropWhile (p:=p) (l:=l))
 simp only[List.length_append] at this;omega
theorem bL7 {α:Type}{p:α→Bool}{l:List α}:l.takeWhile p=l.take (l.takeWhile p).length∧l.dropWhile p=l.drop (l.takeWhile p).length:=by
 have e:=List.takeWhile_append_dropWhile (p:=p) (l:=l)
 have h1:=congrArg (List.take (l.takeWhile p).length) e
 have h2:=congrArg (List.drop (l.takeWhile p).length) e
 rw[List.take_left] at h1
 rw[List.drop_left] at h2
 exact⟨h1,h2⟩
theorem bHq (b:D.aAC)(x:D.Entry)(hz:b.Entries.length≤34359738360){F:(Int→Option Int)→Int→Option Int}
  (hF:∀rec i (hi:i<b.Entries.length),F rec (i:Int)=bif eF b.Entries[i] x then rec (((i+1:Nat):Int)) else some (i:Int)) (hE:∀rec,F rec (b.Entries.length:Int)=some (b.Entries.length:Int)):bX FUEL F 0=some (((b.Entries.takeWhile fun e=>iO e x.Site x.Handle).length:Nat):Int):=by
 refine Zv (fun i s=>i≤(b.Entries.takeWhile fun e=>iO e x.Site x.Handle).length∧s=(i:Int)) (b.Entries.takeWhile fun e=>iO e x.Site x.Handle).length _ (by have:=bCf (p:=fun e=>iO e x.Site x.Handle) (l:=b.Entries);omega) ⟨by omega,rfl⟩ (fun i s rec hi hv=> ?_) (fun s rec hv=> ?_)
 ·obtain⟨_,rfl⟩:=hv
  rcases aM6 (fun e=>iO e x.Site x.Handle) b.Entries i (by omega) with⟨h1,h2,_⟩|⟨h1,_⟩
  ·refine .inl ⟨_,⟨by omega,rfl⟩,?_⟩
   rw[hF rec i h1]
   have:eF b.Entries[i] x=true:=h2
   rw[this];rfl
  ·omega
 ·obtain⟨_,rfl⟩:=hv
  rcases aM6 (fun e=>iO e x.Site x.Handle) b.Entries _ (Nat.le_refl _) with⟨_,_,h3⟩|⟨_,h2⟩
  ·omega
  ·rcases Nat.lt_or_ge (b.Entries.takeWhile fun e=>iO e x.Site x.Handle).length b.Entries.length with hlt|hge
   ·rw[hF rec _ hlt]
    have:eF b.Entries[(b.Entries.takeWhile fun e=>iO e x.Site x.Handle).length] x=false:=h2 hlt
    rw[this];rfl
   ·have:=bCf (p:=fun e=>iO e x.Site x.Handle) (l:=b.Entries)
    have e:(b.Entries.takeWhile fun e=>iO e x.Site x.Handle).length=b.Entries.length:=by omega
    rw[e,hE]
theorem aK3 (b:D.aAC)(s h:Int)(hz:b.sz≤34359738360):Jp b s h=some (aEc b s h):=by
 have hq:=hz
 simp only[D.aAC.sz] at hq
 have hs:=aYa b (mW b s h)
 have hS:(nS b (mW b s h)).sz≤34359738368:=by simp only[D.aAC.sz];omega
 unfold Jp aEc
 simp only[aD (show b.sz≤34359738368 by omega),bd_s]
 cases hb:aK b with
 |false=>simp
 |true=>
  rw[Bool.not_true,cond_false]
  cases hf:decide (aJ b s h≥0) with
  |true=>
   obtain⟨h1,h2,h3,h4⟩:=aM7 hf
   have h0:=of_decide_eq_true hf
   have hv:mW b s h=⟨s,h,IntKind.i64.wrap ((b.Entries.getD (aJ b s h).toNat default).Version+1),false⟩:=by unfold mW bHg;rw[hf];rfl
   have hset:nS b (mW b s h)=⟨b.Entries.set (aJ b s h).toNat (mW b s h)⟩:=by
    unfold nS
    rw[show(mW b s h).Site=s from rfl,show(mW b s h).Handle=h from rfl,hf];rfl
   rw[cond_true,h1,bd_s]
   cases hd:(b.Entries.getD (aJ b s h).toNat default).Deleted with
   |false=>rfl
   |true=>
    rw[bd_s,Bool.not_true,cond_false]
    rw[uO h0 (by rw[List.length_set];exact h2),bd_s,List.getElem_set_self,bd_s,nx_r,List.set_set,h3,h4,←hv,←hset,aD hS,bd_s]
    cases aK (nS b (mW b s h))<;>rfl
  |false=>
   have hv:mW b s h=⟨s,h,1,false⟩:=by unfold mW bHg;rw[hf];rfl
   have hset:nS b (mW b s h)=⟨b.Entries.takeWhile (fun e=>iO e s h)++[mW b s h]++b.Entries.dropWhile (fun e=>iO e s h)⟩:=by
    unfold nS
    rw[show(mW b s h).Site=s from rfl,show(mW b s h).Handle=h from rfl,hf];rfl
   have hl:=bCf (p:=fun e=>iO e s h) (l:=b.Entries)
   obtain⟨w1,w2⟩:=bL7 (p:=fun e=>iO e s h) (l:=b.Entries)
   rw[←hv,cond_false,bHq b (mW b s h) hq (fun rec i hi=>by
    simp only[bH hi,cond_true,aH hi,bd_s,aR (show-9223372036854775808≤(i:Int)+1 by omega) (by omega)];rfl) (fun rec=>by simp only[bJ,cond_false,bd_s])]
   rw[show(mW b s h).Site=s from rfl,show(mW b s h).Handle=h from rfl,bd_s,bT]
   rw[aD (show kC b.Entries _ by unfold kC;omega),aD (show kC b.Entries _ by unfold kC;omega),aD (by unfold bI;simp;omega),aD (by unfold bI;simp;omega),aD (by unfold bI;simp;omega),nx_r,List.nil_append,←w1,←w2,←hset,aD hS,bd_s]
   cases aK (nS b (mW b s h))<;>rfl
end
end Go.VK
