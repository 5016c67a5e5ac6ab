import Derived.Test.YtlnjelnfjgjanaaGreatXpPx
import Derived.Test.YtlnjelnfjgjanaaGreatXpM
/- Printed by wip/tools: models, walks, proofs. -/
set_option linter.unusedVariables false
set_option linter.unusedSimpArgs false
set_option maxRecDepth 100000
set_option maxHeartbeats 4000000
namespace Go.VK
open Go.RowKit Go.Proofs
noncomputable section
open EV (bT)
theorem Zx (a b c:Int):yT a b c=some (vT a b c):=by
 unfold yT vT;cases dI c 1019==0<;>rfl
theorem Lm (s:D.aAQ)(e:Int):sO s e=some (Yl s e):=by
 unfold sO Yl;cases zS e<;>cases e==1<;>cases bF s.Value 0 1018<;>rfl
theorem V8 (k:D.aAT)(e:Int):Bw k e=some (lT k e):=by
 unfold Bw lT;cases lJ k<;>cases k.Guesses==k.Limit<;>cases zS e<;>cases e==1<;>rfl
theorem aCs (a b:Int):Fy a b=some (O6 a b):=by
 unfold Fy O6;rw[aB (show(2039:Int)≠0 by decide)];cases zS a<;>cases zS b<;>rfl
theorem V9 (v:D.aAO)(o:Int):Ca v o=some (aF3 v o):=by
 unfold Ca aF3;rw[bne];cases Ed o v.Salt==v.Check<;>rfl
theorem Ej (n:Int):oO n=some (Ew n):=by
 have hr:=qI (p:=n) (q:=1019) (by decide)
 have hp:∀m:Int,0≤m→m<1019→((IntKind.i64.wrap (dI n 1019*m)).tmod 1019==1)=((dI n 1019*m)%1019==1):=fun m h0 h1=>by
  have h2:0≤dI n 1019*m:=Int.mul_nonneg hr.1 h0
  have h3:dI n 1019*m≤1019*1019:=Int.mul_le_mul (by omega) (by omega) h0 (by omega)
  rw[aG (by omega) (by omega),Int.tmod_eq_emod_of_nonneg h2]
 have step:∀m:Int,1≤m→m<1019→IntKind.i64.wrap (m+1)=m+1:=fun m _ _=>aG (by omega) (by omega)
 unfold oO Ew
 cases hx:dI n 1019==0 with
 |true=>
  have h0:=eq_of_beq hx
  rw[Om (s:=(1:Int)) (fun i (s:Int)=>s=(i:Int)+1) 1018 (some (.inr ())) (by omega) (by show(1:Int)=((0:Nat):Int)+1;rfl) (fun i s rec hi hv=> ?_) (fun s rec hv=> ?_)]
  ·rfl
  ·left
   have hv:s=(i:Int)+1:=hv
   subst hv
   refine⟨_,rfl,?_⟩
   rw[decide_eq_true (show(i:Int)+1<1019 by omega),cond_true,aB (by decide),hp _ (by omega) (by omega),h0,Int.zero_mul,step _ (by omega) (by omega)];rfl
  ·have hv:s=(1018:Nat)+1:=hv
   subst hv;rfl
 |false=>
  have h0:0<dI n 1019:=by have:=beq_eq_false_iff_ne.1 hx;omega
  obtain⟨e1,e2,e3⟩:=bGy h0 hr.2
  generalize O1 1019 11 (dI n 1019) 1017 1=m0 at*
  rw[Om (s:=(1:Int)) (fun i (s:Int)=>s=(i:Int)+1∧(i:Int)+1≤m0) 1018 (some (.inl m0)) (by omega) ⟨by show(1:Int)=((0:Nat):Int)+1;rfl,by omega⟩ (fun i s rec hi hv=> ?_) (fun s rec hv=> ?_)]
  ·rfl
  ·obtain⟨rfl,hv⟩:=hv
   rw[decide_eq_true (show(i:Int)+1<1019 by omega),cond_true,aB (by decide),hp _ (by omega) (by omega)]
   by_cases hm:(i:Int)+1=m0
   ·right
    rw[hm,e1];rfl
   ·left
    refine⟨_,⟨rfl,by omega⟩,?_⟩
    rw[beq_eq_false_iff_ne.2 (fun h=>hm (bAu (by omega) (by omega) h e1)),cond_false,step _ (by omega) (by omega)];rfl
  ·obtain⟨rfl,hv⟩:=hv
   omega
theorem Pq (a b:Int):uE a b=some (aQi a b):=by
 unfold uE aQi;cases dI b 1019==0<;>rfl
theorem aHk {σ:Type}(g:σ→Nat→σ)(s:σ)(i:Nat):(List.range (i+1)).foldl g s=g ((List.range i).foldl g s) i:=by rw[List.range_succ,List.foldl_append];rfl
theorem getD_at {l:List Int}{i:Nat}(h:i<l.length):l.getD i 0=l[i]:=by simp[List.getD,List.getElem?_eq_getElem h]
theorem aX7 {l:List Int}{i:Int}(h0:0≤i)(h1:i<(l.length:Int)):bA l i=some (l.getD i.toNat 0):=by
 rw[mP h0 (by omega)];simp[List.getD,List.getElem?_eq_getElem (show i.toNat<l.length by omega)]
theorem Gs (l:List Int)(k a:Int)(hl:l.length≤34359738368):qD l k a=some (aW1 l k a):=by
 unfold qD aW1
 rw[Xy hl]
 cases hk:(decide (k<0)||decide (k≥(l.length:Int))) with
 |true=>rfl
 |false=>
  have hk2:=Iq hk
  rw[cond_false,Bool.false_or]
  rw[Om (τ:=Int⊕Int) (s:=((1:Int),(0:Nat))) (fun i (s:Int×Nat)=>i≤l.length∧s=((List.range i).foldl (bDq l k a) 1,i)∧gB (aJc (fun q=>dI q 1019) l) 0 (l.take i)=false) l.length
   (some (bif gB (aJc (fun q=>dI q 1019) l) 0 l then .inl 0 else .inr ((List.range l.length).foldl (bDq l k a) 1))) (by omega) ⟨Nat.zero_le _,rfl,rfl⟩ (fun i s rec hi hv=> ?_) (fun s rec hv=> ?_)]
  ·cases gB (aJc (fun q=>dI q 1019) l) 0 l<;>rfl
  ·obtain⟨_,rfl,hv⟩:=hv
   simp only[dQ hi,cond_true]
   rw[aF4 (f:=fun q=>dI q 1019) hi (by omega) (.inl (.inl (.inl 0))) (.inr ()) (fun rec' j hj=>by
    simp only[dQ hj,cond_true,aM (show j<l.length by omega),aM hi,bd_s]) (fun rec'=>by simp only[dS,cond_false])]
   cases hd:aJc (fun q=>dI q 1019) l i l[i] with
   |true=>right;rw[bGx hi hd];rfl
   |false=>
    left
    refine⟨_,⟨hi,rfl,bAt hi hv hd⟩,?_⟩
    rw[aHk]
    unfold bDq
    simp only[cond_false,nx_r,bne]
    cases he:((i:Int)==k) with
    |true=>rfl
    |false=>
     simp only[Bool.not_false,cond_true,cond_false,aM hi,aX7 hk2.1 hk2.2,bd_s,aB (show(1019:Int)≠0 by decide),getD_at hi]
     rw[show Ew (dI (IntKind.i64.wrap (dI (l.getD k.toNat 0) 1019-dI l[i] 1019)) 1019)=Ew (IntKind.i64.wrap (dI (l.getD k.toNat 0) 1019-dI l[i] 1019)) from aW2 (by rw[bAv,bAv];omega)]
     rfl
  ·obtain⟨_,rfl,hv⟩:=hv
   simp only[dS,cond_false]
   rw[List.take_length] at hv
   rw[hv];rfl
theorem bIo (a b:Nat):((a:Int)==(b:Int))=(a==b):=by
 rw[Bool.eq_iff_iff];simp only[beq_iff_eq];omega
theorem xE (ix vs:List Int)(h:ix.length≤34359738368∧vs.length≤34359738368):lU ix vs=some (aBp ix vs):=by
 unfold lU aBp
 rw[show((ix.length:Int) !=(vs.length:Int))= !(ix.length==vs.length) by rw[bne,bIo],Ap,bd_s,show((ix.length:Int)==0)=(ix.length==0) by rw[show(0:Int)=((0:Nat):Int) from rfl,bIo]]
 cases hc:(!(ix.length==vs.length)||ix.length==0) with
 |true=>rfl
 |false=>
  simp only[Bool.or_eq_false_iff,Bool.not_eq_false',beq_iff_eq,beq_eq_false_iff_ne] at hc
  have hlen:=hc.1
  rw[cond_false,Bool.false_or]
  rw[kU (l:=ix) (aDy ix vs) (.inl ((0:Int),false)) (.inr ()) (by omega) (fun rec i hi=>by
   simp only[dQ hi,cond_true,aM hi,aM (show i<vs.length by omega),bd_s,Ap]
   unfold aDy
   rw[getD_at (show i<vs.length by omega)]
   cases bF ix[i] 1 7 with
   |false=>rfl
   |true=>
    cases zS (vs[i]'(by omega)) with
    |false=>rfl
    |true=>
     simp only[Bool.not_true,Bool.or_self,cond_false,Bool.false_or]
     rw[aF4 (f:=fun q=>q) hi (by omega) (.inl (.inl ((0:Int),false))) (.inr ()) (fun rec' j hj=>by
      simp only[dQ hj,cond_true,aM (show j<ix.length by omega),bd_s]) (fun rec'=>by simp only[dS,cond_false])]
     cases aJc (fun q=>q) ix i ix[i]<;>rfl) (fun rec=>by simp only[dS,cond_false])]
  cases gB (aDy ix vs) 0 ix with
  |true=>rfl
  |false=>
   simp only[cond_false,nx_r]
   rw[Om (τ:=Int) (s:=((1:Int),(0:Nat))) (fun i (s:Int×Nat)=>s=((List.range i).foldl (fun o i=>O6 o (mE (vs.getD i 0) (aW1 ix (i:Int) 0))) 1,i)) ix.length (some (bAs ix vs)) (by omega) rfl (fun i s rec hi hv=> ?_) (fun s rec hv=> ?_)]
   ·rfl
   ·left
    subst hv
    refine⟨_,rfl,?_⟩
    rw[aHk]
    simp only[dQ hi,cond_true,aM (show i<vs.length by omega),bd_s,aB h.1,getD_at (show i<vs.length by omega)]
   ·subst hv
    simp only[dS,cond_false]
    unfold bAs;rw[hlen]
theorem W9 (hs:List D.aAA)(ch:List Int)(h:hs.length≤34359738368∧ch.length≤34359738368):Bu hs ch=some (jQ hs ch):=by
 unfold Bu jQ
 rw[kU (l:=ch) (O5 hs ch) (.inl false) (.inr ()) (by omega) (fun rec i hi=>by
  simp only[dQ hi,cond_true,aM hi,bd_s]
  rw[Xy h.1]
  unfold O5
  cases(decide (ch[i]<0)||decide (ch[i]≥(hs.length:Int))) with
  |true=>rfl
  |false=>
   simp only[cond_false,Bool.false_or]
   rw[aF4 (f:=fun q=>q) hi (by omega) (.inl (.inl false)) (.inr ()) (fun rec' j hj=>by
    simp only[dQ hj,cond_true,aM (show j<ch.length by omega),bd_s]) (fun rec'=>by simp only[dS,cond_false])]
   cases aJc (fun q=>q) ch i ch[i]<;>rfl) (fun rec=>by simp only[dS,cond_false])]
 cases gB (O5 hs ch) 0 ch<;>rfl
theorem aJs (hs:List D.aAA)(ch:List Int)(e:Int)(h:(Nv D.aAA.sz hs≤34000000000∧ch.length≤100000000)∧jQ hs ch=true):Sd hs ch e=some (mY hs ch e):=by
 obtain⟨⟨h1,h2⟩,hch⟩:=h
 unfold Sd
 rw[aB (show Nv D.aAA.sz hs≤34359738368 by omega),bd_s]
 rw[Om (τ:=List Int×List Int×List D.aAA) (s:=(([]:List Int),([]:List Int),(0:Nat),hs)) (fun i (s:List Int×List Int×Nat×List D.aAA)=>s=((xX e hs ch i).2.1,(xX e hs ch i).2.2,i,(xX e hs ch i).1)) ch.length
  (some ((mY hs ch e).2.1,(mY hs ch e).2.2,(mY hs ch e).1)) (by omega) rfl (fun i s rec hi hv=> ?_) (fun s rec hv=> ?_)]
 ·rfl
 ·left
  subst hv
  refine⟨_,rfl,?_⟩
  have hin:=aF5 (e:=e) hch i (by omega)
  have hc:=O7 hch hi
  rw[Tx hi]
  generalize xX e hs ch i=s at*
  obtain⟨q1,q2,q3,q4⟩:=hin
  have hk:ch[i].toNat<s.1.length:=by omega
  have hg:s.1.getD ch[i].toNat default=s.1[ch[i].toNat]:=by simp[List.getD,List.getElem?_eq_getElem hk]
  have hat:bA s.1 ch[i]=some s.1[ch[i].toNat]:=mP hc.1 hk
  have hz:=q2 _ (List.getElem_mem hk)
  have hz2:=hz
  simp only[D.aAA.sz] at hz2
  simp only[dQ hi,cond_true,aM hi,bd_s,hat]
  unfold aW0 Rm
  rw[hg]
  generalize s.1[ch[i].toNat]=x at*
  simp only[Ap,bd_s]
  cases hb:(decide (pR x.State<x.Monotonic)|| !(lT x.State e).2.2) with
  |true=>simp only[cond_true,cond_false,aB (show x.sz≤34359738368 by omega),bd_s]
  |false=>
   simp only[cond_false,cond_true,List.nil_append]
   rw[aB (show aS ([]:List D.aAT) x.Saved by unfold aS;simp only[List.length_nil];omega),aB (show aS x.Saved [x.State] by unfold aS;simp only[List.length_cons,List.length_nil];omega)]
   have a1:∀y:Int,aS s.2.1 [y]:=fun y=>by unfold aS;simp only[List.length_cons,List.length_nil];omega
   have a2:∀y:Int,aS s.2.2 [y]:=fun y=>by unfold aS;simp only[List.length_cons,List.length_nil];omega
   unfold bGw
   cases hd:decide (((x.Saved++[x.State]).length:Int)>30) with
   |false=>simp only[cond_false,aB (a1 _),aB (a2 _),bd_s]
   |true=>
    have:=of_decide_eq_true hd
    simp only[cond_true,aB (show nT (x.Saved++[x.State]) 1 from⟨by omega,by omega⟩),aB (a1 _),aB (a2 _),bd_s];rfl
 ·subst hv
  simp only[dS,cond_false]
  unfold xX mY
  rw[List.take_length]
theorem bEk {e:Int}{hs:List D.aAA}{ch:List Int}(h:jQ hs ch=true):AskIn (Nv D.aAA.sz hs) hs ch.length (mY hs ch e):=by
 have:=aF5 (e:=e) h ch.length (Nat.le_refl _)
 unfold xX at this
 rw[List.take_length] at this;exact this
theorem bEl (hs:List D.aAA):hs.length≤Nv D.aAA.sz hs:=by unfold Nv;omega
theorem Zy (v:D.aAO)(hs:List D.aAA)(ch:List Int)(pin b:Int)(h:Nv D.aAA.sz hs≤34000000000∧ch.length≤100000000):yU v hs ch pin b=some (Jd v hs ch pin b):=by
 have hl:=bEl hs
 unfold yU Jd bDr
 rw[aB (show hs.length≤34359738368∧ch.length≤34359738368 by omega),bd_s]
 cases hc:jQ hs ch with
 |false=>simp only[aB (show Nv D.aAA.sz hs≤34359738368 by omega),bd_s];rfl
 |true=>
  simp only[Bool.not_true,cond_false,Ap,bd_s,Bool.true_and]
  rw[show(!(!(dI b 1019==0)&&bF pin 0 9999))=(dI b 1019==0|| !bF pin 0 9999) by rw[Bool.not_and,Bool.not_not]]
  cases(dI b 1019==0|| !bF pin 0 9999) with
  |true=>simp only[aB (show Nv D.aAA.sz hs≤34359738368 by omega),bd_s,cond_true]
  |false=>
   obtain⟨q1,q2,q3,q4⟩:=bEk (e:=vT v.Salt pin b) hc
   simp only[cond_false]
   rw[aB ⟨⟨h.1,h.2⟩,trivial⟩,bd_s,aB (show(mY hs ch (vT v.Salt pin b)).2.1.length≤34359738368∧(mY hs ch (vT v.Salt pin b)).2.2.length≤34359738368 by omega),bd_s]
   unfold vU
   generalize mY hs ch (vT v.Salt pin b)=r at*
   rw[show decide ((r.2.2.length:Int)<(ch.length:Int))=decide (r.2.2.length<ch.length) by rw[decide_eq_decide];omega]
   cases decide ((ch.length:Int)<v.Threshold)<;>cases decide (r.2.2.length<ch.length)<;>cases(aBp r.2.1 r.2.2).2<;>rfl
theorem bIp (w:D.World):Nv D.aAA.sz w.Hosts≤w.sz∧w.Mail.sz≤w.sz:=by
 simp only[D.World.sz,D.aAP.sz,Nv];omega
theorem Ps (w:D.World)(ch:List Int)(pin:Int)(h:w.sz≤34000000000∧ch.length≤100000000):uF w ch pin=some (fV w ch pin):=by
 obtain⟨q1,q2⟩:=bIp w
 unfold uF fV
 rw[aB (show w.sz≤34359738368 by omega),bd_s,aB (show w.sz≤34359738368 by omega),bd_s]
 cases aN w with
 |false=>rfl
 |true=>
  rw[aB (by simp),bd_s,aB (by decide),aB (show Nv D.aAA.sz w.Hosts≤34000000000∧ch.length≤100000000 by omega),bd_s,aB (show w.Mail.sz≤34359738300 by omega),bd_s];rfl
theorem Zz (w:D.World)(pin:Int)(h:w.sz≤33000000):yX w pin=some (uV w pin):=by
 have hl:w.Hosts.length≤w.sz:=by simp only[D.World.sz];omega
 have hgl:=aF6 w
 unfold yX
 have hn:(min w.aAO.Threshold ((w.Hosts.length:Int)+1)).toNat≤w.Hosts.length+1:=by omega
 rw[Om (τ:=List Int) (s:=(([]:List Int),(0:Int))) (fun i (s:List Int×Int)=>s=((List.range i).map (fun(k:Nat)=>(k:Int)),(i:Int))) (min w.aAO.Threshold ((w.Hosts.length:Int)+1)).toNat (some (zT w)) (by omega) rfl (fun i s rec hi hv=> ?_) (fun s rec hv=> ?_)]
 ·rw[bd_s,aB (show w.sz≤34000000000∧(zT w).length≤100000000 by omega)];rfl
 ·left
  subst hv
  refine⟨_,rfl,?_⟩
  simp only[aNu,bd_s]
  rw[decide_eq_true (show(i:Int)<w.aAO.Threshold by omega),decide_eq_true (show(i:Int)≤(w.Hosts.length:Int) by omega),Bool.and_self,cond_true,aB (show aS ((List.range i).map (fun(k:Nat)=>(k:Int))) [(i:Int)] by unfold aS;simp only[List.length_map,List.length_range,List.length_cons,List.length_nil];omega),aG (by omega) (by omega),List.range_succ,List.map_append];rfl
 ·subst hv
  simp only[aNu,bd_s]
  generalize hm:(min w.aAO.Threshold ((w.Hosts.length:Int)+1)).toNat=m
  rw[show(decide ((m:Int)<w.aAO.Threshold)&&decide ((m:Int)≤(w.Hosts.length:Int)))=false by
   rw[Bool.and_eq_false_iff,decide_eq_false_iff_not,decide_eq_false_iff_not];omega,cond_false]
  unfold zT;rw[hm]
end
end Go.VK
