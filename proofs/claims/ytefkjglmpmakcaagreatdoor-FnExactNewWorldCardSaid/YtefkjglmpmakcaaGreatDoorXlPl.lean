import Derived.Test.YtefkjglmpmakcaaGreatDoorXlPk
import Derived.Test.YtefkjglmpmakcaaGreatDoorXlQ
/- Printed by wip/tools: models, walks, proofs. -/
set_option linter.unusedVariables false
set_option linter.unusedSimpArgs false
set_option maxRecDepth 100000
set_option maxHeartbeats 4000000
namespace Go.VK
open Go.RowKit Go.Proofs
noncomputable section
open EV (bS)
theorem Wv (b:List Int)(h:b.length≤34359738360):uT b=some (rU b):=by
 unfold uT rU
 rw[bFd (l:=b) IntKind.i64.wrap (by simp;omega) (fun rec i s hi hs=>by simp only[bJ hi,cond_true,aF hi,bd_s,gM hs]) (fun rec s=>by simp only[bM,cond_false])];rfl
theorem Ww (b:List Int)(h:b.length≤34359738360):vJ b=some (rU b):=by
 unfold vJ rU
 rw[bFd (l:=b) IntKind.i64.wrap (by simp;omega) (fun rec i s hi hs=>by simp only[bJ hi,cond_true,aF hi,bd_s,gM hs]) (fun rec s=>by simp only[bM,cond_false])];rfl
theorem Cu (k:Int)(s:ByteArray)(h:s.size≤34359738300):mY k s=some (nK k s):=by
 have hb:=iD s
 unfold mY nK
 rw[aJt,aB (by omega),bd_s,aB (by rw[aY6];omega),bd_s,aVi (lI _ _).1]
theorem Cw (k:Int)(s:ByteArray)(h:s.size≤34359738300):mZ k s=some (nK k s):=by
 have hb:=iD s
 unfold mZ nK
 rw[aJt,aB (by omega),bd_s,aB (by rw[aY6];omega),bd_s]
theorem aHk (s:ByteArray)(h:s.size≤34359738300):Gi s=some (fI s):=by unfold Gi;rw[aB h];rfl
theorem aHl (s:ByteArray)(h:s.size≤34359738300):Gv s=some (fI s):=by unfold Gv;rw[aB h];rfl
theorem aCs (b:D.aAC)(s h:Int)(hz:b.sz≤34359738368):Bo b s h=some (aH b s h):=by
 simp only[D.aAC.sz] at hz
 unfold Bo aH
 rw[J2 (l:=b.Entries) (fun e=>e.Site==s&&e.Handle==h) (by omega) (fun rec i hi=>by
  simp only[bJ hi,cond_true,aF hi,bd_s];cases(b.Entries[i].Site==s)<;>rfl) (fun rec=>by simp only[bM,cond_false])]
theorem aJx {b:D.aAC}{s h:Int}(hf:decide (aH b s h≥0)=true):aT b.Entries (aH b s h)=some (b.Entries.getD (aH b s h).toNat default)∧(aH b s h).toNat<b.Entries.length∧(b.Entries.getD (aH b s h).toNat default).Site=s∧(b.Entries.getD (aH b s h).toNat default).Handle=h:=by
 have h0:=of_decide_eq_true hf
 obtain⟨l1,e,l2,e1,e2,e3⟩:=aBe (p:=fun e:D.Entry=>e.Site==s&&e.Handle==h) (l:=b.Entries) (i:=0) h0
 have e3:aH b s h=((0+l1.length:Nat):Int):=e3
 rw[Nat.zero_add] at e3
 have hl:l1.length<b.Entries.length:=by rw[e1];simp
 have hg:b.Entries.getD l1.length default=e:=by rw[e1];simp[List.getD]
 rw[e3,Int.toNat_natCast,hg]
 simp only[Bool.and_eq_true,beq_iff_eq] at e2
 refine⟨?_,hl,e2.1,e2.2⟩
 rw[aF hl]
 have:b.Entries[l1.length]=e:=by rw[←hg,List.getD,List.getElem?_eq_getElem hl];rfl
 rw[this]
theorem aTq (b:D.aAC)(x:D.Entry):(nN b x).Entries.length≤b.Entries.length+1:=by
 unfold nN
 cases decide (aH b x.Site x.Handle≥0) with
 |true=>simp
 |false=>
  have:=congrArg List.length (List.takeWhile_append_dropWhile (p:=fun e=>iE e x.Site x.Handle) (l:=b.Entries))
  simp only[List.length_append] at this
  simp only[cond_false,List.length_append,List.length_singleton];omega
theorem aHm (b:D.aAC)(s h:Int)(hz:b.sz≤34359738360):Gl b s h=some (aBf b s h):=by
 have hq:=hz
 simp only[D.aAC.sz] at hq
 have hs:=aTq b (mO b s h)
 unfold Gl aBf
 have hS:(nN b (mO b s h)).sz≤34359738368:=by simp only[D.aAC.sz];omega
 rw[aB (show b.sz≤34359738368 by omega),aB (show b.sz≤34359738368 by omega)]
 simp only[aB (show b.sz≤34359738360 from hz),aB (show b.sz≤34359738368 by omega),bd_s]
 cases hf:decide (aH b s h≥0) with
 |true=>
  obtain⟨h1,h2,_,_⟩:=aJx hf
  have hv:mO b s h=⟨s,h,IntKind.i64.wrap ((b.Entries.getD (aH b s h).toNat default).Version+1),false⟩:=by unfold mO bC5;rw[hf];rfl
  rw[cond_true,h1,bd_s]
  cases hd:(b.Entries.getD (aH b s h).toNat default).Deleted with
  |false=>rfl
  |true=>
   rw[bd_s,Bool.not_true,cond_false,nx_r,←hv,aB hS]
   cases aI b<;>cases aI (nN b (mO b s h))<;>rfl
 |false=>
  have hv:mO b s h=⟨s,h,1,false⟩:=by unfold mO bC5;rw[hf];rfl
  rw[cond_false,nx_r,←hv,aB hS]
  cases aI b<;>cases aI (nN b (mO b s h))<;>rfl
theorem aX2 {α:Type}{p:α→Bool}{l:List α}:(l.takeWhile p).length≤l.length:=by
 have:=congrArg List.length (List.takeWhile_append_dropWhile (p:=p) (l:=l))
 simp only[List.length_append] at this;omega
theorem bIl {α:Type}{p:α→Bool}{l:List α}:l.takeWhile p=l.take (l.takeWhile p).length∧l.dropWhile p=l.drop (l.takeWhile p).length:=by
 have e:=List.takeWhile_append_dropWhile (p:=p) (l:=l)
 have h1:=congrArg (List.take (l.takeWhile p).length) e
 have h2:=congrArg (List.drop (l.takeWhile p).length) e
 rw[List.take_left] at h1
 rw[List.drop_left] at h2
 exact⟨h1,h2⟩
theorem bDe (b:D.aAC)(x:D.Entry)(hz:b.Entries.length≤34359738360){F:(Int→Option Int)→Int→Option Int}
  (hF:∀rec i (hi:i<b.Entries.length),F rec (i:Int)=bif eD b.Entries[i] x then rec (((i+1:Nat):Int)) else some (i:Int)) (hE:∀rec,F rec (b.Entries.length:Int)=some (b.Entries.length:Int)):bS FUEL F 0=some (((b.Entries.takeWhile fun e=>iE e x.Site x.Handle).length:Nat):Int):=by
 refine aBa (fun i s=>i≤(b.Entries.takeWhile fun e=>iE e x.Site x.Handle).length∧s=(i:Int)) (b.Entries.takeWhile fun e=>iE e x.Site x.Handle).length _ (by have:=aX2 (p:=fun e=>iE e x.Site x.Handle) (l:=b.Entries);omega) ⟨by omega,rfl⟩ (fun i s rec hi hv=> ?_) (fun s rec hv=> ?_)
 ·obtain⟨_,rfl⟩:=hv
  rcases aJw (fun e=>iE e x.Site x.Handle) b.Entries i (by omega) with⟨h1,h2,_⟩|⟨h1,_⟩
  ·refine .inl ⟨_,⟨by omega,rfl⟩,?_⟩
   rw[hF rec i h1]
   have:eD b.Entries[i] x=true:=h2
   rw[this];rfl
  ·omega
 ·obtain⟨_,rfl⟩:=hv
  rcases aJw (fun e=>iE e x.Site x.Handle) b.Entries _ (Nat.le_refl _) with⟨_,_,h3⟩|⟨_,h2⟩
  ·omega
  ·rcases Nat.lt_or_ge (b.Entries.takeWhile fun e=>iE e x.Site x.Handle).length b.Entries.length with hlt|hge
   ·rw[hF rec _ hlt]
    have:eD b.Entries[(b.Entries.takeWhile fun e=>iE e x.Site x.Handle).length] x=false:=h2 hlt
    rw[this];rfl
   ·have:=aX2 (p:=fun e=>iE e x.Site x.Handle) (l:=b.Entries)
    have e:(b.Entries.takeWhile fun e=>iE e x.Site x.Handle).length=b.Entries.length:=by omega
    rw[e,hE]
theorem aHn (b:D.aAC)(s h:Int)(hz:b.sz≤34359738360):Gx b s h=some (aBf b s h):=by
 have hq:=hz
 simp only[D.aAC.sz] at hq
 have hs:=aTq b (mO b s h)
 have hS:(nN b (mO b s h)).sz≤34359738368:=by simp only[D.aAC.sz];omega
 unfold Gx aBf
 simp only[aB (show b.sz≤34359738368 by omega),bd_s]
 cases hb:aI b with
 |false=>simp
 |true=>
  rw[Bool.not_true,cond_false]
  cases hf:decide (aH b s h≥0) with
  |true=>
   obtain⟨h1,h2,h3,h4⟩:=aJx hf
   have h0:=of_decide_eq_true hf
   have hv:mO b s h=⟨s,h,IntKind.i64.wrap ((b.Entries.getD (aH b s h).toNat default).Version+1),false⟩:=by unfold mO bC5;rw[hf];rfl
   have hset:nN b (mO b s h)=⟨b.Entries.set (aH b s h).toNat (mO b s h)⟩:=by
    unfold nN
    rw[show(mO b s h).Site=s from rfl,show(mO b s h).Handle=h from rfl,hf];rfl
   rw[cond_true,h1,bd_s]
   cases hd:(b.Entries.getD (aH b s h).toNat default).Deleted with
   |false=>rfl
   |true=>
    rw[bd_s,Bool.not_true,cond_false]
    rw[F8 h0 (by rw[List.length_set];exact h2),bd_s,List.getElem_set_self,bd_s,nx_r,List.set_set,h3,h4,←hv,←hset,aB hS,bd_s]
    cases aI (nN b (mO b s h))<;>rfl
  |false=>
   have hv:mO b s h=⟨s,h,1,false⟩:=by unfold mO bC5;rw[hf];rfl
   have hset:nN b (mO b s h)=⟨b.Entries.takeWhile (fun e=>iE e s h)++[mO b s h]++b.Entries.dropWhile (fun e=>iE e s h)⟩:=by
    unfold nN
    rw[show(mO b s h).Site=s from rfl,show(mO b s h).Handle=h from rfl,hf];rfl
   have hl:=aX2 (p:=fun e=>iE e s h) (l:=b.Entries)
   obtain⟨w1,w2⟩:=bIl (p:=fun e=>iE e s h) (l:=b.Entries)
   rw[←hv,cond_false,bDe b (mO b s h) hq (fun rec i hi=>by
    simp only[bJ hi,cond_true,aF hi,bd_s,aK (show-9223372036854775808≤(i:Int)+1 by omega) (by omega)];rfl) (fun rec=>by simp only[bM,cond_false,bd_s])]
   rw[show(mO b s h).Site=s from rfl,show(mO b s h).Handle=h from rfl,bd_s,gY]
   rw[aB (show jN b.Entries _ by unfold jN;omega),aB (show jN b.Entries _ by unfold jN;omega),aB (by unfold bD;simp;omega),aB (by unfold bD;simp;omega),aB (by unfold bD;simp;omega),nx_r,List.nil_append,←w1,←w2,←hset,aB hS,bd_s]
   cases aI (nN b (mO b s h))<;>rfl
end
end Go.VK
