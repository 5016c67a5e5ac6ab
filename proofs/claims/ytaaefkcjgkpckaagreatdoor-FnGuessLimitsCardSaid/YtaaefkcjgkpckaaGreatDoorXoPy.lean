import Derived.Test.YtaaefkcjgkpckaaGreatDoorXoPx
import Derived.Test.YtaaefkcjgkpckaaGreatDoorXoQ
/- Printed by wip/tools: models, walks, proofs. -/
set_option linter.unusedVariables false
set_option linter.unusedSimpArgs false
set_option maxRecDepth 100000
set_option maxHeartbeats 4000000
namespace Go.VK
open Go.RowKit Go.Proofs
noncomputable section
open EV (bM)
theorem d9 (a b c:Int):xU a b c=some (bZ a b c):=by
 unfold xU bZ;cases aZ c 1019==0<;>rfl
theorem o5 (a b c:Int):xN a b c=some (bZ a b c):=by
 unfold xN bZ;cases aZ c 1019==0<;>rfl
theorem Ku (s:D.aAM)(e:Int):rA s e=some (mJ s e):=by
 unfold rA mJ;cases fB e<;>cases e==1<;>cases aW s.Value 0 1018<;>rfl
theorem Kv (s:D.aAM)(e:Int):qY s e=some (mJ s e):=by
 unfold qY mJ;cases fB e<;>cases e==1<;>cases aW s.Value 0 1018<;>rfl
theorem Z6 (k:D.aAQ)(e:Int):Be k e=some (eQ k e):=by
 unfold Be eQ;cases dX k<;>cases k.Guesses==k.Limit<;>cases fB e<;>cases e==1<;>rfl
theorem Z7 (k:D.aAQ)(e:Int):Az k e=some (eQ k e):=by
 unfold Az eQ;cases dX k<;>cases k.Guesses==k.Limit<;>cases fB e<;>cases e==1<;>rfl
theorem aDr (a b:Int):Ez a b=some (gL a b):=by
 unfold Ez gL;rw[aA (show(2039:Int)≠0 by decide)];cases fB a<;>cases fB b<;>rfl
theorem aDs (a b:Int):Ex a b=some (gL a b):=by
 unfold Ex gL;rw[aA (show(2039:Int)≠0 by decide)];cases fB a<;>cases fB b<;>rfl
theorem Z8 (v:D.aAL)(o:Int):Bf v o=some (yQ v o):=by
 unfold Bf yQ;rw[bne];cases mI o v.Salt==v.Check<;>rfl
theorem Z9 (v:D.aAL)(o:Int):Bb v o=some (yQ v o):=by
 unfold Bb yQ;rw[bne];cases mI o v.Salt==v.Check<;>rfl
theorem aId (h:D.aAA)(e:Int)(hz:h.sz≤34359738300):Kc h e=some (jK h e):=by
 have hq:=hz
 simp only[D.aAA.sz] at hq
 have ha:aO h.Saved [h.State]:=by unfold aO;simp only[List.length_cons,List.length_nil];omega
 unfold Kc jK
 rw[aA (show h.sz≤34359738368 by omega),bd_s]
 cases decide (fQ h.State<h.Monotonic) with
 |true=>rfl
 |false=>
  rw[cond_false]
  cases(eQ h.State e).2.2 with
  |false=>rfl
  |true=>
   simp only[Bool.not_true,cond_false,aA ha,Bool.or_self]
   unfold aTg
   cases hd:decide (((h.Saved++[h.State]).length:Int)>30) with
   |false=>rfl
   |true=>
    have:=of_decide_eq_true hd
    rw[cond_true,aA (show jG (h.Saved++[h.State]) 1 from⟨by omega,by omega⟩),aA (show aO [] (List.drop (Int.toNat 1) (h.Saved++[h.State])) by unfold aO;simp only[List.length_nil,List.length_drop,List.length_append,List.length_cons];omega)];rfl
theorem Db (n:Int):nS n=some (oH n):=by
 have hr:=iR (p:=n) (q:=1019) (by decide)
 have hp:∀m:Int,0≤m→m<1019→((IntKind.i64.wrap (aZ n 1019*m)).tmod 1019==1)=((aZ n 1019*m)%1019==1):=fun m h0 h1=>by
  have h2:0≤aZ n 1019*m:=Int.mul_nonneg hr.1 h0
  have h3:aZ n 1019*m≤1019*1019:=Int.mul_le_mul (by omega) (by omega) h0 (by omega)
  rw[aG (by omega) (by omega),Int.tmod_eq_emod_of_nonneg h2]
 have step:∀m:Int,1≤m→m<1019→IntKind.i64.wrap (m+1)=m+1:=fun m _ _=>aG (by omega) (by omega)
 unfold nS oH
 cases hx:aZ n 1019==0 with
 |true=>
  have h0:=eq_of_beq hx
  rw[yM (s:=(1:Int)) (fun i (s:Int)=>s=(i:Int)+1) 1018 (some (.inr ())) (by omega) (by show(1:Int)=((0:Nat):Int)+1;rfl) (fun i s rec hi hv=> ?_) (fun s rec hv=> ?_)]
  ·rfl
  ·left
   have hv:s=(i:Int)+1:=hv
   subst hv
   refine⟨_,rfl,?_⟩
   rw[decide_eq_true (show(i:Int)+1<1019 by omega),cond_true,aA (by decide),hp _ (by omega) (by omega),h0,Int.zero_mul,step _ (by omega) (by omega)];rfl
  ·have hv:s=(1018:Nat)+1:=hv
   subst hv;rfl
 |false=>
  have h0:0<aZ n 1019:=by have:=beq_eq_false_iff_ne.1 hx;omega
  obtain⟨e1,e2,e3⟩:=bA7 h0 hr.2
  generalize wB 1019 11 (aZ n 1019) 1017 1=m0 at*
  rw[yM (s:=(1:Int)) (fun i (s:Int)=>s=(i:Int)+1∧(i:Int)+1≤m0) 1018 (some (.inl m0)) (by omega) ⟨by show(1:Int)=((0:Nat):Int)+1;rfl,by omega⟩ (fun i s rec hi hv=> ?_) (fun s rec hv=> ?_)]
  ·rfl
  ·obtain⟨rfl,hv⟩:=hv
   rw[decide_eq_true (show(i:Int)+1<1019 by omega),cond_true,aA (by decide),hp _ (by omega) (by omega)]
   by_cases hm:(i:Int)+1=m0
   ·right
    rw[hm,e1];rfl
   ·left
    refine⟨_,⟨rfl,by omega⟩,?_⟩
    rw[beq_eq_false_iff_ne.2 (fun h=>hm (bA8 (by omega) (by omega) h e1)),cond_false,step _ (by omega) (by omega)];rfl
  ·obtain⟨rfl,hv⟩:=hv
   omega
theorem bE8:((1019:Int)≠0)=True:=by simp
theorem aKi (b n:Int)(h:0≤n∧n<2048)(hb:0≤b∧b<1019):eT b n 1019=some (wB 1019 11 b n 1):=by
 unfold eT
 rw[show b.tmod 1019=b by rw[Int.tmod_eq_emod_of_nonneg hb.1];omega,show(1:Int).tmod 1019=1 by decide,Zu (m:=1019) (fun rec b n s h0 h1=>by
  have h4:((2:Int)≠0)=True:=by simp
  simp only[show n.tmod 2=n%2 from Int.tmod_eq_emod_of_nonneg h0,show n.tdiv 2=n/2 from Int.tdiv_eq_ediv_of_nonneg h0,show IntKind.i64.wrap (n/2)=n/2 from aG (by omega) (by omega),bE8,h4,gd_T,jC,bd_s]) 11 b n 1 FUEL (by have:=gU;omega) h.1 (by have:=h.2;omega) (by omega)]
 simp only[bE8,gd_T,bd_s]
theorem Dc (n:Int):nR n=some (oH n):=by
 have hr:=iR (p:=n) (q:=1019) (by decide)
 unfold nR oH
 rw[aKi _ _ (by decide) ⟨hr.1,hr.2⟩]
 cases aZ n 1019==0<;>rfl
theorem Om (a b:Int):sM a b=some (Qo a b):=by
 unfold sM Qo;cases aZ b 1019==0<;>rfl
theorem Oo (a b:Int):sI a b=some (Qo a b):=by
 unfold sI Qo cO;cases fB a<;>cases aZ b 1019==0<;>rfl
theorem Tz {σ:Type}(g:σ→Nat→σ)(s:σ)(i:Nat):(List.range (i+1)).foldl g s=g ((List.range i).foldl g s) i:=by rw[List.range_succ,List.foldl_append];rfl
theorem getD_at {l:List Int}{i:Nat}(h:i<l.length):l.getD i 0=l[i]:=by simp[List.getD,List.getElem?_eq_getElem h]
theorem aM9 {l:List Int}{i:Int}(h0:0≤i)(h1:i<(l.length:Int)):bA l i=some (l.getD i.toNat 0):=by
 rw[Nb h0 (by omega)];simp[List.getD,List.getElem?_eq_getElem (show i.toNat<l.length by omega)]
theorem Gc (l:List Int)(k a:Int)(hl:l.length≤34359738368):oV l k a=some (rO l k a):=by
 unfold oV rO
 rw[aOd hl]
 cases hk:(decide (k<0)||decide (k≥(l.length:Int))) with
 |true=>rfl
 |false=>
  have hk2:=Cs hk
  rw[cond_false,Bool.false_or]
  rw[yM (τ:=Int⊕Int) (s:=((1:Int),(0:Nat))) (fun i (s:Int×Nat)=>i≤l.length∧s=((List.range i).foldl (Yi l k a) 1,i)∧dJ (zP (fun q=>aZ q 1019) l) 0 (l.take i)=false) l.length
   (some (bif dJ (zP (fun q=>aZ q 1019) l) 0 l then .inl 0 else .inr ((List.range l.length).foldl (Yi l k a) 1))) (by omega) ⟨Nat.zero_le _,rfl,rfl⟩ (fun i s rec hi hv=> ?_) (fun s rec hv=> ?_)]
  ·cases dJ (zP (fun q=>aZ q 1019) l) 0 l<;>rfl
  ·obtain⟨_,rfl,hv⟩:=hv
   simp only[bU hi,cond_true]
   rw[Yl (f:=fun q=>aZ q 1019) hi (by omega) (.inl (.inl (.inl 0))) (.inr ()) (fun rec' j hj=>by
    simp only[bU hj,cond_true,aH (show j<l.length by omega),aH hi,bd_s]) (fun rec'=>by simp only[bX,cond_false])]
   cases hd:zP (fun q=>aZ q 1019) l i l[i] with
   |true=>right;rw[bG6 hi hd];rfl
   |false=>
    left
    refine⟨_,⟨hi,rfl,bA6 hi hv hd⟩,?_⟩
    rw[Tz]
    unfold Yi
    simp only[cond_false,nx_r,bne]
    cases he:((i:Int)==k) with
    |true=>rfl
    |false=>
     simp only[Bool.not_false,cond_true,cond_false,aH hi,aM9 hk2.1 hk2.2,bd_s,aA (show(1019:Int)≠0 by decide),getD_at hi]
     rw[show oH (aZ (IntKind.i64.wrap (aZ (l.getD k.toNat 0) 1019-aZ l[i] 1019)) 1019)=oH (IntKind.i64.wrap (aZ (l.getD k.toNat 0) 1019-aZ l[i] 1019)) from aXt (by rw[aTh,aTh];omega)]
     rfl
  ·obtain⟨_,rfl,hv⟩:=hv
   simp only[bX,cond_false]
   rw[List.take_length] at hv
   rw[hv];rfl
theorem Gd (l:List Int)(k a:Int)(hl:l.length≤34359738368):oQ l k a=some (rO l k a):=by
 unfold oQ rO
 rw[rW,bd_s]
 cases hk:(decide (k<0)||decide (k≥(l.length:Int))) with
 |true=>rfl
 |false=>
  have hk2:=Cs hk
  rw[cond_false,Bool.false_or]
  rw[eG (l:=l) (zP (fun q=>aZ q 1019) l) (.inl (0:Int)) (.inr ()) (by omega) (fun rec i hi=>by
   simp only[bU hi,cond_true]
   rw[Yl (f:=fun q=>aZ q 1019) hi (by omega) (.inl (.inl (0:Int))) (.inr ()) (fun rec' j hj=>by
    simp only[bU hj,cond_true,aH (show j<l.length by omega),aH hi,bd_s]
    rw[BEq.comm]) (fun rec'=>by simp only[bX,cond_false])]
   cases zP (fun q=>aZ q 1019) l i l[i]<;>rfl) (fun rec=>by simp only[bX,cond_false])]
  cases dJ (zP (fun q=>aZ q 1019) l) 0 l with
  |true=>rfl
  |false=>
   simp only[cond_false,nx_r,aM9 hk2.1 hk2.2,bd_s]
   rw[yM (τ:=Int) (s:=((1:Int),(0:Nat))) (fun i (s:Int×Nat)=>s=((List.range i).foldl (Yi l k a) 1,i)) l.length (some ((List.range l.length).foldl (Yi l k a) 1)) (by omega) rfl (fun i s rec hi hv=> ?_) (fun s rec hv=> ?_)]
   ·rfl
   ·left
    subst hv
    refine⟨_,rfl,?_⟩
    rw[Tz]
    simp only[bU hi,cond_true]
    unfold Yi
    cases he:((i:Int)==k) with
    |true=>simp only[bne,he,Bool.not_true,cond_false,bd_s,cond_true]
    |false=>simp only[bne,he,Bool.not_false,cond_true,cond_false,aH hi,bd_s,aA (show(1019:Int)≠0 by decide),getD_at hi]
   ·subst hv
    simp only[bX,cond_false]
theorem bI5 (a b:Nat):((a:Int)==(b:Int))=(a==b):=by
 rw[Bool.eq_iff_iff];simp only[beq_iff_eq];omega
theorem wC (ix vs:List Int)(h:ix.length≤34359738368∧vs.length≤34359738368):lN ix vs=some (jL ix vs):=by
 unfold lN jL
 rw[show((ix.length:Int) !=(vs.length:Int))= !(ix.length==vs.length) by rw[bne,bI5],rW,bd_s,show((ix.length:Int)==0)=(ix.length==0) by rw[show(0:Int)=((0:Nat):Int) from rfl,bI5]]
 cases hc:(!(ix.length==vs.length)||ix.length==0) with
 |true=>rfl
 |false=>
  simp only[Bool.or_eq_false_iff,Bool.not_eq_false',beq_iff_eq,beq_eq_false_iff_ne] at hc
  have hlen:=hc.1
  rw[cond_false,Bool.false_or]
  rw[eG (l:=ix) (lF ix vs) (.inl ((0:Int),false)) (.inr ()) (by omega) (fun rec i hi=>by
   simp only[bU hi,cond_true,aH hi,aH (show i<vs.length by omega),bd_s,rW]
   unfold lF
   rw[getD_at (show i<vs.length by omega)]
   cases aW ix[i] 1 7 with
   |false=>rfl
   |true=>
    cases fB (vs[i]'(by omega)) with
    |false=>rfl
    |true=>
     simp only[Bool.not_true,Bool.or_self,cond_false,Bool.false_or]
     rw[Yl (f:=fun q=>q) hi (by omega) (.inl (.inl ((0:Int),false))) (.inr ()) (fun rec' j hj=>by
      simp only[bU hj,cond_true,aH (show j<ix.length by omega),bd_s]) (fun rec'=>by simp only[bX,cond_false])]
     cases zP (fun q=>q) ix i ix[i]<;>rfl) (fun rec=>by simp only[bX,cond_false])]
  cases dJ (lF ix vs) 0 ix with
  |true=>rfl
  |false=>
   simp only[cond_false,nx_r]
   rw[yM (τ:=Int) (s:=((1:Int),(0:Nat))) (fun i (s:Int×Nat)=>s=((List.range i).foldl (fun o i=>gL o (cO (vs.getD i 0) (rO ix (i:Int) 0))) 1,i)) ix.length (some (aVi ix vs)) (by omega) rfl (fun i s rec hi hv=> ?_) (fun s rec hv=> ?_)]
   ·rfl
   ·left
    subst hv
    refine⟨_,rfl,?_⟩
    rw[Tz]
    simp only[bU hi,cond_true,aH (show i<vs.length by omega),bd_s,aA h.1,getD_at (show i<vs.length by omega)]
   ·subst hv
    simp only[bX,cond_false]
    unfold aVi;rw[hlen]
theorem aAa (hs:List D.aAA)(ch:List Int)(h:hs.length≤34359738368∧ch.length≤34359738368):Bc hs ch=some (gJ hs ch):=by
 unfold Bc gJ
 rw[eG (l:=ch) (yP hs ch) (.inl false) (.inr ()) (by omega) (fun rec i hi=>by
  simp only[bU hi,cond_true,aH hi,bd_s]
  rw[aOd h.1]
  unfold yP
  cases(decide (ch[i]<0)||decide (ch[i]≥(hs.length:Int))) with
  |true=>rfl
  |false=>
   simp only[cond_false,Bool.false_or]
   rw[Yl (f:=fun q=>q) hi (by omega) (.inl (.inl false)) (.inr ()) (fun rec' j hj=>by
    simp only[bU hj,cond_true,aH (show j<ch.length by omega),bd_s]) (fun rec'=>by simp only[bX,cond_false])]
   cases zP (fun q=>q) ch i ch[i]<;>rfl) (fun rec=>by simp only[bX,cond_false])]
 cases dJ (yP hs ch) 0 ch<;>rfl
theorem aKj (hs:List D.aAA)(ch:List Int)(pin b:Int)(h:hs.length≤34359738368∧ch.length≤34359738368):Qz hs ch pin b=some (Yj hs ch pin b):=by
 unfold Qz Yj gJ
 rw[eG (l:=ch) (yP hs ch) (.inl false) (.inr ()) (by omega) (fun rec i hi=>by
  simp only[bU hi,cond_true,aH hi,bd_s,aA (show jG ch (i:Int) from⟨by omega,by omega⟩),Int.toNat_natCast,aA (show(List.take i ch).length≤1099511627776 by rw[List.length_take];omega)]
  unfold yP zP
  show bd (bif decide (ch[i]<0) then some true else bif decide (ch[i]≥(hs.length:Int)) then some true else some (fV (List.take i ch) ch[i])) _=_
  unfold fV
  cases decide (ch[i]<0)<;>cases decide (ch[i]≥(hs.length:Int))<;>rfl) (fun rec=>by simp only[bX,cond_false])]
 rw[bne]
 cases dJ (yP hs ch) 0 ch<;>cases aZ b 1019==0<;>rfl
theorem aKk (hs:List D.aAA)(ch:List Int)(e:Int)(h:(lW D.aAA.sz hs≤34000000000∧ch.length≤100000000)∧gJ hs ch=true):Ra hs ch e=some (jE hs ch e):=by
 obtain⟨⟨h1,h2⟩,hch⟩:=h
 unfold Ra
 rw[aA (show lW D.aAA.sz hs≤34359738368 by omega),bd_s]
 rw[yM (τ:=List Int×List Int×List D.aAA) (s:=(([]:List Int),([]:List Int),(0:Nat),hs)) (fun i (s:List Int×List Int×Nat×List D.aAA)=>s=((jP e hs ch i).2.1,(jP e hs ch i).2.2,i,(jP e hs ch i).1)) ch.length
  (some ((jE hs ch e).2.1,(jE hs ch e).2.2,(jE hs ch e).1)) (by omega) rfl (fun i s rec hi hv=> ?_) (fun s rec hv=> ?_)]
 ·rfl
 ·left
  subst hv
  refine⟨_,rfl,?_⟩
  have hin:=Iy (e:=e) hch i (by omega)
  have hc:=Nl hch hi
  rw[uM hi]
  generalize jP e hs ch i=s at*
  obtain⟨q1,q2,q3,q4⟩:=hin
  have hk:ch[i].toNat<s.1.length:=by omega
  have hg:s.1.getD ch[i].toNat default=s.1[ch[i].toNat]:=by simp[List.getD,List.getElem?_eq_getElem hk]
  have hat:bA s.1 ch[i]=some s.1[ch[i].toNat]:=Nb hc.1 hk
  have hz:=q2 _ (List.getElem_mem hk)
  have hz2:=hz
  simp only[D.aAA.sz] at hz2
  simp only[bU hi,cond_true,aH hi,bd_s,hat]
  unfold Iw jK
  rw[hg]
  generalize s.1[ch[i].toNat]=x at*
  simp only[rW,bd_s]
  cases hb:(decide (fQ x.State<x.Monotonic)|| !(eQ x.State e).2.2) with
  |true=>simp only[cond_true,cond_false,aA (show x.sz≤34359738368 by omega),bd_s]
  |false=>
   simp only[cond_false,cond_true,List.nil_append]
   rw[aA (show aO ([]:List D.aAQ) x.Saved by unfold aO;simp only[List.length_nil];omega),aA (show aO x.Saved [x.State] by unfold aO;simp only[List.length_cons,List.length_nil];omega)]
   have a1:∀y:Int,aO s.2.1 [y]:=fun y=>by unfold aO;simp only[List.length_cons,List.length_nil];omega
   have a2:∀y:Int,aO s.2.2 [y]:=fun y=>by unfold aO;simp only[List.length_cons,List.length_nil];omega
   unfold aTg
   cases hd:decide (((x.Saved++[x.State]).length:Int)>30) with
   |false=>simp only[cond_false,aA (a1 _),aA (a2 _),bd_s]
   |true=>
    have:=of_decide_eq_true hd
    simp only[cond_true,aA (show jG (x.Saved++[x.State]) 1 from⟨by omega,by omega⟩),aA (a1 _),aA (a2 _),bd_s];rfl
 ·subst hv
  simp only[bX,cond_false]
  unfold jP jE
  rw[List.take_length]
theorem aV4 {e:Int}{hs:List D.aAA}{ch:List Int}(h:gJ hs ch=true):AskIn (lW D.aAA.sz hs) hs ch.length (jE hs ch e):=by
 have:=Iy (e:=e) h ch.length (Nat.le_refl _)
 unfold jP at this
 rw[List.take_length] at this;exact this
theorem aV5 (hs:List D.aAA):hs.length≤lW D.aAA.sz hs:=by unfold lW;omega
theorem o6 (v:D.aAL)(hs:List D.aAA)(ch:List Int)(pin b:Int)(h:lW D.aAA.sz hs≤34000000000∧ch.length≤100000000):xV v hs ch pin b=some (lM v hs ch pin b):=by
 have hl:=aV5 hs
 unfold xV lM Yj
 rw[aA (show hs.length≤34359738368∧ch.length≤34359738368 by omega),bd_s]
 cases hc:gJ hs ch with
 |false=>simp only[aA (show lW D.aAA.sz hs≤34359738368 by omega),bd_s];rfl
 |true=>
  simp only[Bool.not_true,cond_false,rW,bd_s,Bool.true_and]
  rw[show(!(!(aZ b 1019==0)&&aW pin 0 9999))=(aZ b 1019==0|| !aW pin 0 9999) by rw[Bool.not_and,Bool.not_not]]
  cases(aZ b 1019==0|| !aW pin 0 9999) with
  |true=>simp only[aA (show lW D.aAA.sz hs≤34359738368 by omega),bd_s,cond_true]
  |false=>
   obtain⟨q1,q2,q3,q4⟩:=aV4 (e:=bZ v.Salt pin b) hc
   simp only[cond_false]
   rw[aA ⟨⟨h.1,h.2⟩,trivial⟩,bd_s,aA (show(jE hs ch (bZ v.Salt pin b)).2.1.length≤34359738368∧(jE hs ch (bZ v.Salt pin b)).2.2.length≤34359738368 by omega),bd_s]
   unfold fM
   generalize jE hs ch (bZ v.Salt pin b)=r at*
   rw[show decide ((r.2.2.length:Int)<(ch.length:Int))=decide (r.2.2.length<ch.length) by rw[decide_eq_decide];omega]
   cases decide ((ch.length:Int)<v.Threshold)<;>cases decide (r.2.2.length<ch.length)<;>cases(jL r.2.1 r.2.2).2<;>rfl
theorem o7 (v:D.aAL)(hs:List D.aAA)(ch:List Int)(pin b:Int)(h:lW D.aAA.sz hs≤34000000000∧ch.length≤100000000):xP v hs ch pin b=some (aVl v hs ch pin b):=by
 have hl:=aV5 hs
 unfold xP aVl lM bA5
 rw[aA (show lW D.aAA.sz hs≤34359738368 by omega),bd_s,aA (show hs.length≤34359738368∧ch.length≤34359738368 by omega),bd_s]
 cases hm:Yj hs ch pin b with
 |false=>rfl
 |true=>
  have hc:gJ hs ch=true:=by
   unfold Yj at hm
   rw[Bool.and_eq_true] at hm;exact hm.1
  simp only[Bool.not_true,cond_false,bd_s,Bool.true_and]
  have main:EV.bM (α:=List Int×List Int×Bool×List D.aAA) FUEL (fun rec4 (i4:(List Int×List Int×Bool×Nat×List D.aAA))=>bif (decide ((↑i4.2.2.2.1:Int)<(↑ch.length:Int))) then(bd (bA ch (↑i4.2.2.2.1:Int)) fun z5=>bd (bA (i4.2.2.2.2) z5) fun z6=>bd (gd (z6.sz≤34359738300) (some (jK z6 (bZ v.Salt pin b)))) fun z7=>bd (bA (i4.2.2.2.2) z5) fun z8=>bd (bif (i4.2.2.1) then(some (z7.2.2)) else(some (false))) fun z9=>gd (aO i4.1 [z7.1.State.aAM.Index]) (gd (aO i4.2.1 [z7.2.1]) (rec4 ((i4.1++[z7.1.State.aAM.Index],i4.2.1++[z7.2.1],z9,(i4.2.2.2.1+1),i4.2.2.2.2.set z5.toNat z7.1))))) else(some (i4.1,i4.2.1,i4.2.2.1,i4.2.2.2.2))) ([],[],true,0,hs)
    =some (aVj v hs ch pin b,aVk v hs ch pin b,(fM v hs ch pin b).2.2.length==ch.length,(fM v hs ch pin b).1)∧((fM v hs ch pin b).2.2.length=ch.length→aVj v hs ch pin b=(fM v hs ch pin b).2.1∧aVk v hs ch pin b=(fM v hs ch pin b).2.2)∧(aVj v hs ch pin b).length=ch.length∧(aVk v hs ch pin b).length=ch.length:=by
   have st:∀i,i≤ch.length→∃ix vs,EV.bM (α:=List Int×List Int×Bool×List D.aAA) 0 (fun _ _=>none) (ix,vs,true,0,hs)=none∧ix.length=i∧vs.length=i∧(((jP (bZ v.Salt pin b) hs ch i).2.2.length=i)→ix=(jP (bZ v.Salt pin b) hs ch i).2.1∧vs=(jP (bZ v.Salt pin b) hs ch i).2.2)∧ix=mQ v hs ch pin b i∧vs=mR v hs ch pin b i:=fun i hi=>by
    refine⟨mQ v hs ch pin b i,mR v hs ch pin b i,rfl,?_,?_,?_,rfl,rfl⟩
    ·unfold mQ;simp
    ·unfold mR;simp
    ·intro he
     induction i with
     |zero=>exact⟨rfl,rfl⟩
     |succ i ih=>
      have hin:=Iy (e:=bZ v.Salt pin b) hc i (by omega)
      rw[uM hi] at he ⊢
      unfold mQ mR
      rw[List.range_succ,List.map_append,List.map_append]
      simp only[List.map_cons,List.map_nil]
      have hx:wT v hs ch pin b i=jK ((jP (bZ v.Salt pin b) hs ch i).1.getD (ch[i]).toNat default) (bZ v.Salt pin b):=by
       unfold wT;rw[getD_at hi];rfl
      rw[hx]
      unfold Iw at he ⊢
      cases hb:(jK ((jP (bZ v.Salt pin b) hs ch i).1.getD (ch[i]).toNat default) (bZ v.Salt pin b)).2.2 with
      |false=>
       rw[hb] at he
       have:=hin.le
       simp only[cond_false] at he
       omega
      |true=>
       rw[hb] at he
       simp only[cond_true,List.length_append,List.length_cons,List.length_nil] at he
       obtain⟨j1,j2⟩:=ih (by omega) (by omega)
       unfold mQ at j1
       unfold mR at j2
       exact⟨by rw[j1];rfl,by rw[j2];rfl⟩
   have all:∀i,i≤ch.length→(jP (bZ v.Salt pin b) hs ch i).2.2.length≤i:=fun i hi=>(Iy hc i hi).le
   have eAll:jP (bZ v.Salt pin b) hs ch ch.length=fM v hs ch pin b:=by unfold jP fM jE;rw[List.take_length]
   refine⟨?_,?_,?_,?_⟩
   ·rw[yM (τ:=List Int×List Int×Bool×List D.aAA) (s:=(([]:List Int),([]:List Int),true,(0:Nat),hs)) (fun i (s:List Int×List Int×Bool×Nat×List D.aAA)=>s=(mQ v hs ch pin b i,mR v hs ch pin b i,(jP (bZ v.Salt pin b) hs ch i).2.2.length==i,i,(jP (bZ v.Salt pin b) hs ch i).1)) ch.length
     (some (aVj v hs ch pin b,aVk v hs ch pin b,(fM v hs ch pin b).2.2.length==ch.length,(fM v hs ch pin b).1)) (by omega) rfl (fun i s rec hi hv=> ?_) (fun s rec hv=> ?_)]
    ·left
     subst hv
     refine⟨_,rfl,?_⟩
     have hin:=Iy (e:=bZ v.Salt pin b) hc i (by omega)
     have hcc:=Nl hc hi
     have hx:wT v hs ch pin b i=jK ((jP (bZ v.Salt pin b) hs ch i).1.getD (ch[i]).toNat default) (bZ v.Salt pin b):=by
      unfold wT;rw[getD_at hi];rfl
     have e1:mQ v hs ch pin b (i+1)=mQ v hs ch pin b i++[(wT v hs ch pin b i).1.State.aAM.Index]:=by
      unfold mQ;rw[List.range_succ,List.map_append];rfl
     have e2:mR v hs ch pin b (i+1)=mR v hs ch pin b i++[(wT v hs ch pin b i).2.1]:=by
      unfold mR;rw[List.range_succ,List.map_append];rfl
     have l1:(mQ v hs ch pin b i).length=i:=by unfold mQ;simp
     have l2:(mR v hs ch pin b i).length=i:=by unfold mR;simp
     rw[e1,e2,hx,uM hi]
     generalize mQ v hs ch pin b i=ix at*
     generalize mR v hs ch pin b i=vs at*
     generalize jP (bZ v.Salt pin b) hs ch i=s at*
     obtain⟨q1,q2,q3,q4⟩:=hin
     have hk:ch[i].toNat<s.1.length:=by omega
     have hg:s.1.getD ch[i].toNat default=s.1[ch[i].toNat]:=by simp[List.getD,List.getElem?_eq_getElem hk]
     have hat:bA s.1 ch[i]=some s.1[ch[i].toNat]:=Nb hcc.1 hk
     have hz:=q2 _ (List.getElem_mem hk)
     simp only[bU hi,cond_true,aH hi,bd_s,hat]
     unfold Iw
     rw[hg]
     generalize s.1[ch[i].toNat]=x at*
     rw[aA (show x.sz≤34359738300 by omega),bd_s]
     have a1:∀y:Int,aO ix [y]:=fun y=>by unfold aO;simp only[List.length_cons,List.length_nil];omega
     have a2:∀y:Int,aO vs [y]:=fun y=>by unfold aO;simp only[List.length_cons,List.length_nil];omega
     rw[jC,bd_s,aA (a1 _),aA (a2 _)]
     have hfl:(bif s.2.2.length==i then(jK x (bZ v.Salt pin b)).2.2 else false)=((bif (jK x (bZ v.Salt pin b)).2.2 then s.2.2++[(jK x (bZ v.Salt pin b)).2.1] else s.2.2).length==i+1):=by
      cases(jK x (bZ v.Salt pin b)).2.2 with
      |true=>
       simp only[cond_true,List.length_append,List.length_cons,List.length_nil]
       cases he:s.2.2.length==i with
       |true=>rw[cond_true];exact(beq_iff_eq.2 (by have:=eq_of_beq he;omega)).symm
       |false=>rw[cond_false];exact(beq_eq_false_iff_ne.2 (by have:=beq_eq_false_iff_ne.1 he;omega)).symm
      |false=>
       simp only[cond_false]
       rw[beq_eq_false_iff_ne.2 (show s.2.2.length≠i+1 by omega)]
       cases s.2.2.length==i<;>rfl
     rw[hfl]
    ·subst hv
     simp only[bX,cond_false]
     rw[eAll];rfl
   ·intro he
    obtain⟨ix,vs,_,_,_,h3,h4,h5⟩:=st ch.length (Nat.le_refl _)
    rw[eAll] at h3
    have:=h3 he
    rw[h4,h5] at this
    exact this
   ·show(mQ v hs ch pin b ch.length).length=_;unfold mQ;simp
   ·show(mR v hs ch pin b ch.length).length=_;unfold mR;simp
  obtain⟨m1,m2,m3,m4⟩:=main
  rw[m1,bd_s]
  have q:=aV4 (e:=bZ v.Salt pin b) hc
  have hq:(fM v hs ch pin b).2.2.length≤ch.length:=q.le
  simp only[rW,bd_s]
  cases he:(fM v hs ch pin b).2.2.length==ch.length with
  |false=>
   have:=beq_eq_false_iff_ne.1 he
   rw[decide_eq_true (show(fM v hs ch pin b).2.2.length<ch.length by omega)]
   cases decide ((ch.length:Int)<v.Threshold)<;>rfl
  |true=>
   have he2:=eq_of_beq he
   obtain⟨n1,n2⟩:=m2 he2
   rw[decide_eq_false (show ¬(fM v hs ch pin b).2.2.length<ch.length by omega),aA ⟨by omega,by omega⟩,n1,n2]
   simp only[bd_s]
   cases decide ((ch.length:Int)<v.Threshold)<;>cases(jL (fM v hs ch pin b).2.1 (fM v hs ch pin b).2.2).2<;>rfl
theorem o8 (v:D.aAL)(hs:List D.aAA)(ch:List Int)(pin b:Int)(h:lW D.aAA.sz hs≤34000000000∧ch.length≤100000000):xQ v hs ch pin b=some (lM v hs ch pin b):=by
 unfold xQ;rw[aA h];rfl
theorem bE9 (w:D.World):lW D.aAA.sz w.Hosts≤w.sz∧w.Mail.sz≤w.sz:=by
 simp only[D.World.sz,D.aAJ.sz,lW];omega
theorem Oq (w:D.World)(ch:List Int)(pin:Int)(h:w.sz≤34000000000∧ch.length≤100000000):sN w ch pin=some (cB w ch pin):=by
 obtain⟨q1,q2⟩:=bE9 w
 unfold sN cB
 rw[aA (show w.sz≤34359738368 by omega),bd_s,aA (show w.sz≤34359738368 by omega),bd_s]
 cases bK w with
 |false=>rfl
 |true=>
  rw[aA (by simp),bd_s,aA (by decide),aA (show lW D.aAA.sz w.Hosts≤34000000000∧ch.length≤100000000 by omega),bd_s,aA (show w.Mail.sz≤34359738300 by omega),bd_s];rfl
theorem Ot (w:D.World)(ch:List Int)(pin:Int)(h:w.sz≤34000000000∧ch.length≤100000000):sJ w ch pin=some (cB w ch pin):=by
 obtain⟨q1,q2⟩:=bE9 w
 unfold sJ cB
 rw[aA (show w.sz≤34359738368 by omega),bd_s,aA (show w.sz≤34359738368 by omega),bd_s]
 cases bK w with
 |false=>rfl
 |true=>
  rw[aA (by simp),bd_s,aA (by decide),aA (show lW D.aAA.sz w.Hosts≤34000000000∧ch.length≤100000000 by omega),bd_s,aA (show w.Mail.sz≤34359738300 by omega),bd_s];rfl
theorem o9 (w:D.World)(pin:Int)(h:w.sz≤33000000):xX w pin=some (jU w pin):=by
 have hl:w.Hosts.length≤w.sz:=by simp only[D.World.sz];omega
 have hgl:=aGv w
 unfold xX
 have hn:(min w.aAL.Threshold ((w.Hosts.length:Int)+1)).toNat≤w.Hosts.length+1:=by omega
 rw[yM (τ:=List Int) (s:=(([]:List Int),(0:Int))) (fun i (s:List Int×Int)=>s=((List.range i).map (fun(k:Nat)=>(k:Int)),(i:Int))) (min w.aAL.Threshold ((w.Hosts.length:Int)+1)).toNat (some (mU w)) (by omega) rfl (fun i s rec hi hv=> ?_) (fun s rec hv=> ?_)]
 ·rw[bd_s,aA (show w.sz≤34000000000∧(mU w).length≤100000000 by omega)];rfl
 ·left
  subst hv
  refine⟨_,rfl,?_⟩
  simp only[aS1,bd_s]
  rw[decide_eq_true (show(i:Int)<w.aAL.Threshold by omega),decide_eq_true (show(i:Int)≤(w.Hosts.length:Int) by omega),Bool.and_self,cond_true,aA (show aO ((List.range i).map (fun(k:Nat)=>(k:Int))) [(i:Int)] by unfold aO;simp only[List.length_map,List.length_range,List.length_cons,List.length_nil];omega),aG (by omega) (by omega),List.range_succ,List.map_append];rfl
 ·subst hv
  simp only[aS1,bd_s]
  generalize hm:(min w.aAL.Threshold ((w.Hosts.length:Int)+1)).toNat=m
  rw[show(decide ((m:Int)<w.aAL.Threshold)&&decide ((m:Int)≤(w.Hosts.length:Int)))=false by
   rw[Bool.and_eq_false_iff,decide_eq_false_iff_not,decide_eq_false_iff_not];omega,cond_false]
  unfold mU;rw[hm]
theorem p8 (w:D.World)(pin:Int)(h:w.sz≤33000000):xS w pin=some (jU w pin):=by
 have hl:w.Hosts.length≤w.sz:=by simp only[D.World.sz];omega
 have hgl:=aGv w
 unfold xS
 have hw:IntKind.i64.wrap ((w.Hosts.length:Int)+1)=(w.Hosts.length:Int)+1:=aG (by omega) (by omega)
 have hmin:(if IntKind.i64.wrap ((w.Hosts.length:Int)+(1:Int))<w.aAL.Threshold then IntKind.i64.wrap ((w.Hosts.length:Int)+(1:Int)) else w.aAL.Threshold)=min w.aAL.Threshold ((w.Hosts.length:Int)+1):=by
  rw[hw];split<;>omega
 rw[hmin]
 rw[yM (τ:=List Int) (s:=(([]:List Int),(0:Nat))) (fun i (s:List Int×Nat)=>s=((List.range i).map (fun(k:Nat)=>(k:Int)),i)) (min w.aAL.Threshold ((w.Hosts.length:Int)+1)).toNat (some (mU w)) (by omega) rfl (fun i s rec hi hv=> ?_) (fun s rec hv=> ?_)]
 ·rw[bd_s,aA (show w.sz≤34000000000∧(mU w).length≤100000000 by omega)];rfl
 ·left
  subst hv
  refine⟨_,rfl,?_⟩
  simp only
  rw[decide_eq_true (show(i:Int)<min w.aAL.Threshold ((w.Hosts.length:Int)+1) by omega),cond_true,aA (show aO ((List.range i).map (fun(k:Nat)=>(k:Int))) [(i:Int)] by unfold aO;simp only[List.length_map,List.length_range,List.length_cons,List.length_nil];omega),List.range_succ,List.map_append];rfl
 ·subst hv
  simp only
  rw[decide_eq_false (by omega),cond_false];rfl
end
end Go.VK
