import Derived.Test.YtehmmnigkcmhoaaGreatDoorXmPx
import Derived.Test.YtehmmnigkcmhoaaGreatDoorXmQ
/- Printed by wip/tools: models, walks, proofs. -/
set_option linter.unusedVariables false
set_option linter.unusedSimpArgs false
set_option maxRecDepth 100000
set_option maxHeartbeats 4000000
namespace Go.VK
open Go.RowKit Go.Proofs
noncomputable section
open EV (cB)
theorem Yo (a b c:Int):vG a b c=some (dI a b c):=by
 unfold vG dI;cases bU c 1019==0<;>rfl
theorem Yp (a b c:Int):vP a b c=some (dI a b c):=by
 unfold vP dI;cases bU c 1019==0<;>rfl
theorem Ku (s:D.aAN)(e:Int):oN s e=some (qY s e):=by
 unfold oN qY;cases gB e<;>cases e==1<;>cases cZ s.Value 0 1018<;>rfl
theorem Kv (s:D.aAN)(e:Int):oP s e=some (qY s e):=by
 unfold oP qY;cases gB e<;>cases e==1<;>cases cZ s.Value 0 1018<;>rfl
theorem R6 (k:D.aAL)(e:Int):xZ k e=some (gH k e):=by
 unfold xZ gH;cases gY k<;>cases k.Guesses==k.Limit<;>cases gB e<;>cases e==1<;>rfl
theorem R7 (k:D.aAL)(e:Int):yN k e=some (gH k e):=by
 unfold yN gH;cases gY k<;>cases k.Guesses==k.Limit<;>cases gB e<;>cases e==1<;>rfl
theorem aDi (a b:Int):Dm a b=some (fM a b):=by
 unfold Dm fM;rw[aG (show(2039:Int)≠0 by decide)];cases gB a<;>cases gB b<;>rfl
theorem aDj (a b:Int):Dx a b=some (fM a b):=by
 unfold Dx fM;rw[aG (show(2039:Int)≠0 by decide)];cases gB a<;>cases gB b<;>rfl
theorem R8 (v:D.aAQ)(o:Int):yB v o=some (wH v o):=by
 unfold yB wH;rw[bne];cases qX o v.Salt==v.Check<;>rfl
theorem R9 (v:D.aAQ)(o:Int):yP v o=some (wH v o):=by
 unfold yP wH;rw[bne];cases qX o v.Salt==v.Check<;>rfl
theorem aIh (h:D.aAA)(e:Int)(hz:h.sz≤34359738300):Jt h e=some (jN h e):=by
 have hq:=hz
 simp only[D.aAA.sz] at hq
 have ha:bL h.Saved [h.State]:=by unfold bL;simp only[List.length_cons,List.length_nil];omega
 unfold Jt jN
 rw[aG (show h.sz≤34359738368 by omega),bd_s]
 cases decide (uY h.State<h.Monotonic) with
 |true=>rfl
 |false=>
  rw[cond_false]
  cases(gH h.State e).2.2 with
  |false=>rfl
  |true=>
   simp only[Bool.not_true,cond_false,aG ha,Bool.or_self]
   unfold aZr
   cases hd:decide (((h.Saved++[h.State]).length:Int)>30) with
   |false=>rfl
   |true=>
    have:=of_decide_eq_true hd
    rw[cond_true,aG (show kY (h.Saved++[h.State]) 1 from⟨by omega,by omega⟩),aG (show bL [] (List.drop (Int.toNat 1) (h.Saved++[h.State])) by unfold bL;simp only[List.length_nil,List.length_drop,List.length_append,List.length_cons];omega)];rfl
theorem Be (n:Int):lU n=some (mO n):=by
 have hr:=rM (p:=n) (q:=1019) (by decide)
 have hp:∀m:Int,0≤m→m<1019→((IntKind.i64.wrap (bU n 1019*m)).tmod 1019==1)=((bU n 1019*m)%1019==1):=fun m h0 h1=>by
  have h2:0≤bU n 1019*m:=Int.mul_nonneg hr.1 h0
  have h3:bU n 1019*m≤1019*1019:=Int.mul_le_mul (by omega) (by omega) h0 (by omega)
  rw[bN (by omega) (by omega),Int.tmod_eq_emod_of_nonneg h2]
 have step:∀m:Int,1≤m→m<1019→IntKind.i64.wrap (m+1)=m+1:=fun m _ _=>bN (by omega) (by omega)
 unfold lU mO
 cases hx:bU n 1019==0 with
 |true=>
  have h0:=eq_of_beq hx
  rw[xB (s:=(1:Int)) (fun i (s:Int)=>s=(i:Int)+1) 1018 (some (.inr ())) (by omega) (by show(1:Int)=((0:Nat):Int)+1;rfl) (fun i s rec hi hv=> ?_) (fun s rec hv=> ?_)]
  ·rfl
  ·left
   have hv:s=(i:Int)+1:=hv
   subst hv
   refine⟨_,rfl,?_⟩
   rw[decide_eq_true (show(i:Int)+1<1019 by omega),cond_true,aG (by decide),hp _ (by omega) (by omega),h0,Int.zero_mul,step _ (by omega) (by omega)];rfl
  ·have hv:s=(1018:Nat)+1:=hv
   subst hv;rfl
 |false=>
  have h0:0<bU n 1019:=by have:=beq_eq_false_iff_ne.1 hx;omega
  obtain⟨e1,e2,e3⟩:=bB5 h0 hr.2
  generalize Er 1019 11 (bU n 1019) 1017 1=m0 at*
  rw[xB (s:=(1:Int)) (fun i (s:Int)=>s=(i:Int)+1∧(i:Int)+1≤m0) 1018 (some (.inl m0)) (by omega) ⟨by show(1:Int)=((0:Nat):Int)+1;rfl,by omega⟩ (fun i s rec hi hv=> ?_) (fun s rec hv=> ?_)]
  ·rfl
  ·obtain⟨rfl,hv⟩:=hv
   rw[decide_eq_true (show(i:Int)+1<1019 by omega),cond_true,aG (by decide),hp _ (by omega) (by omega)]
   by_cases hm:(i:Int)+1=m0
   ·right
    rw[hm,e1];rfl
   ·left
    refine⟨_,⟨rfl,by omega⟩,?_⟩
    rw[beq_eq_false_iff_ne.2 (fun h=>hm (aX7 (by omega) (by omega) h e1)),cond_false,step _ (by omega) (by omega)];rfl
  ·obtain⟨rfl,hv⟩:=hv
   omega
theorem bAj:((1019:Int)≠0)=True:=by simp
theorem aLo (b n:Int)(h:0≤n∧n<2048)(hb:0≤b∧b<1019):eO b n 1019=some (Er 1019 11 b n 1):=by
 unfold eO
 rw[show b.tmod 1019=b by rw[Int.tmod_eq_emod_of_nonneg hb.1];omega,show(1:Int).tmod 1019=1 by decide,Yj (m:=1019) (fun rec b n s h0 h1=>by
  have h4:((2:Int)≠0)=True:=by simp
  simp only[show n.tmod 2=n%2 from Int.tmod_eq_emod_of_nonneg h0,show n.tdiv 2=n/2 from Int.tdiv_eq_ediv_of_nonneg h0,show IntKind.i64.wrap (n/2)=n/2 from bN (by omega) (by omega),bAj,h4,gd_T,kL,bd_s]) 11 b n 1 FUEL (by have:=nQ;omega) h.1 (by have:=h.2;omega) (by omega)]
 simp only[bAj,gd_T,bd_s]
theorem Bf (n:Int):lW n=some (mO n):=by
 have hr:=rM (p:=n) (q:=1019) (by decide)
 unfold lW mO
 rw[aLo _ _ (by decide) ⟨hr.1,hr.2⟩]
 cases bU n 1019==0<;>rfl
theorem Oa (a b:Int):qC a b=some (Qk a b):=by
 unfold qC Qk;cases bU b 1019==0<;>rfl
theorem Oc (a b:Int):qF a b=some (Qk a b):=by
 unfold qF Qk dO;cases gB a<;>cases bU b 1019==0<;>rfl
theorem Tn {σ:Type}(g:σ→Nat→σ)(s:σ)(i:Nat):(List.range (i+1)).foldl g s=g ((List.range i).foldl g s) i:=by rw[List.range_succ,List.foldl_append];rfl
theorem getD_at {l:List Int}{i:Nat}(h:i<l.length):l.getD i 0=l[i]:=by simp[List.getD,List.getElem?_eq_getElem h]
theorem aN3 {l:List Int}{i:Int}(h0:0≤i)(h1:i<(l.length:Int)):aV l i=some (l.getD i.toNat 0):=by
 rw[aN8 h0 (by omega)];simp[List.getD,List.getElem?_eq_getElem (show i.toNat<l.length by omega)]
theorem Fp (l:List Int)(k a:Int)(hl:l.length≤34359738368):mW l k a=some (pK l k a):=by
 unfold mW pK
 rw[aT6 hl]
 cases hk:(decide (k<0)||decide (k≥(l.length:Int))) with
 |true=>rfl
 |false=>
  have hk2:=aSw hk
  rw[cond_false,Bool.false_or]
  rw[xB (τ:=Int⊕Int) (s:=((1:Int),(0:Nat))) (fun i (s:Int×Nat)=>i≤l.length∧s=((List.range i).foldl (Xg l k a) 1,i)∧eU (xD (fun q=>bU q 1019) l) 0 (l.take i)=false) l.length
   (some (bif eU (xD (fun q=>bU q 1019) l) 0 l then .inl 0 else .inr ((List.range l.length).foldl (Xg l k a) 1))) (by omega) ⟨Nat.zero_le _,rfl,rfl⟩ (fun i s rec hi hv=> ?_) (fun s rec hv=> ?_)]
  ·cases eU (xD (fun q=>bU q 1019) l) 0 l<;>rfl
  ·obtain⟨_,rfl,hv⟩:=hv
   simp only[bG hi,cond_true]
   rw[Xh (f:=fun q=>bU q 1019) hi (by omega) (.inl (.inl (.inl 0))) (.inr ()) (fun rec' j hj=>by
    simp only[bG hj,cond_true,aD (show j<l.length by omega),aD hi,bd_s]) (fun rec'=>by simp only[bH,cond_false])]
   cases hd:xD (fun q=>bU q 1019) l i l[i] with
   |true=>right;rw[bB4 hi hd];rfl
   |false=>
    left
    refine⟨_,⟨hi,rfl,aX6 hi hv hd⟩,?_⟩
    rw[Tn]
    unfold Xg
    simp only[cond_false,nx_r,bne]
    cases he:((i:Int)==k) with
    |true=>rfl
    |false=>
     simp only[Bool.not_false,cond_true,cond_false,aD hi,aN3 hk2.1 hk2.2,bd_s,aG (show(1019:Int)≠0 by decide),getD_at hi]
     rw[show mO (bU (IntKind.i64.wrap (bU (l.getD k.toNat 0) 1019-bU l[i] 1019)) 1019)=mO (IntKind.i64.wrap (bU (l.getD k.toNat 0) 1019-bU l[i] 1019)) from aVy (by rw[aX8,aX8];omega)]
     rfl
  ·obtain⟨_,rfl,hv⟩:=hv
   simp only[bH,cond_false]
   rw[List.take_length] at hv
   rw[hv];rfl
theorem Fq (l:List Int)(k a:Int)(hl:l.length≤34359738368):nC l k a=some (pK l k a):=by
 unfold nC pK
 rw[aNr,bd_s]
 cases hk:(decide (k<0)||decide (k≥(l.length:Int))) with
 |true=>rfl
 |false=>
  have hk2:=aSw hk
  rw[cond_false,Bool.false_or]
  rw[fF (l:=l) (xD (fun q=>bU q 1019) l) (.inl (0:Int)) (.inr ()) (by omega) (fun rec i hi=>by
   simp only[bG hi,cond_true]
   rw[Xh (f:=fun q=>bU q 1019) hi (by omega) (.inl (.inl (0:Int))) (.inr ()) (fun rec' j hj=>by
    simp only[bG hj,cond_true,aD (show j<l.length by omega),aD hi,bd_s]
    rw[BEq.comm]) (fun rec'=>by simp only[bH,cond_false])]
   cases xD (fun q=>bU q 1019) l i l[i]<;>rfl) (fun rec=>by simp only[bH,cond_false])]
  cases eU (xD (fun q=>bU q 1019) l) 0 l with
  |true=>rfl
  |false=>
   simp only[cond_false,nx_r,aN3 hk2.1 hk2.2,bd_s]
   rw[xB (τ:=Int) (s:=((1:Int),(0:Nat))) (fun i (s:Int×Nat)=>s=((List.range i).foldl (Xg l k a) 1,i)) l.length (some ((List.range l.length).foldl (Xg l k a) 1)) (by omega) rfl (fun i s rec hi hv=> ?_) (fun s rec hv=> ?_)]
   ·rfl
   ·left
    subst hv
    refine⟨_,rfl,?_⟩
    rw[Tn]
    simp only[bG hi,cond_true]
    unfold Xg
    cases he:((i:Int)==k) with
    |true=>simp only[bne,he,Bool.not_true,cond_false,bd_s,cond_true]
    |false=>simp only[bne,he,Bool.not_false,cond_true,cond_false,aD hi,bd_s,aG (show(1019:Int)≠0 by decide),getD_at hi]
   ·subst hv
    simp only[bH,cond_false]
theorem bDd (a b:Nat):((a:Int)==(b:Int))=(a==b):=by
 rw[Bool.eq_iff_iff];simp only[beq_iff_eq];omega
theorem uL (ix vs:List Int)(h:ix.length≤34359738368∧vs.length≤34359738368):jW ix vs=some (gZ ix vs):=by
 unfold jW gZ
 rw[show((ix.length:Int) !=(vs.length:Int))= !(ix.length==vs.length) by rw[bne,bDd],aNr,bd_s,show((ix.length:Int)==0)=(ix.length==0) by rw[show(0:Int)=((0:Nat):Int) from rfl,bDd]]
 cases hc:(!(ix.length==vs.length)||ix.length==0) with
 |true=>rfl
 |false=>
  simp only[Bool.or_eq_false_iff,Bool.not_eq_false',beq_iff_eq,beq_eq_false_iff_ne] at hc
  have hlen:=hc.1
  rw[cond_false,Bool.false_or]
  rw[fF (l:=ix) (jT ix vs) (.inl ((0:Int),false)) (.inr ()) (by omega) (fun rec i hi=>by
   simp only[bG hi,cond_true,aD hi,aD (show i<vs.length by omega),bd_s,aNr]
   unfold jT
   rw[getD_at (show i<vs.length by omega)]
   cases cZ ix[i] 1 7 with
   |false=>rfl
   |true=>
    cases gB (vs[i]'(by omega)) with
    |false=>rfl
    |true=>
     simp only[Bool.not_true,Bool.or_self,cond_false,Bool.false_or]
     rw[Xh (f:=fun q=>q) hi (by omega) (.inl (.inl ((0:Int),false))) (.inr ()) (fun rec' j hj=>by
      simp only[bG hj,cond_true,aD (show j<ix.length by omega),bd_s]) (fun rec'=>by simp only[bH,cond_false])]
     cases xD (fun q=>q) ix i ix[i]<;>rfl) (fun rec=>by simp only[bH,cond_false])]
  cases eU (jT ix vs) 0 ix with
  |true=>rfl
  |false=>
   simp only[cond_false,nx_r]
   rw[xB (τ:=Int) (s:=((1:Int),(0:Nat))) (fun i (s:Int×Nat)=>s=((List.range i).foldl (fun o i=>fM o (dO (vs.getD i 0) (pK ix (i:Int) 0))) 1,i)) ix.length (some (aT7 ix vs)) (by omega) rfl (fun i s rec hi hv=> ?_) (fun s rec hv=> ?_)]
   ·rfl
   ·left
    subst hv
    refine⟨_,rfl,?_⟩
    rw[Tn]
    simp only[bG hi,cond_true,aD (show i<vs.length by omega),bd_s,aG h.1,getD_at (show i<vs.length by omega)]
   ·subst hv
    simp only[bH,cond_false]
    unfold aT7;rw[hlen]
theorem S9 (hs:List D.aAA)(ch:List Int)(h:hs.length≤34359738368∧ch.length≤34359738368):xX hs ch=some (gM hs ch):=by
 unfold xX gM
 rw[fF (l:=ch) (Ao hs ch) (.inl false) (.inr ()) (by omega) (fun rec i hi=>by
  simp only[bG hi,cond_true,aD hi,bd_s]
  rw[aT6 h.1]
  unfold Ao
  cases(decide (ch[i]<0)||decide (ch[i]≥(hs.length:Int))) with
  |true=>rfl
  |false=>
   simp only[cond_false,Bool.false_or]
   rw[Xh (f:=fun q=>q) hi (by omega) (.inl (.inl false)) (.inr ()) (fun rec' j hj=>by
    simp only[bG hj,cond_true,aD (show j<ch.length by omega),bd_s]) (fun rec'=>by simp only[bH,cond_false])]
   cases xD (fun q=>q) ch i ch[i]<;>rfl) (fun rec=>by simp only[bH,cond_false])]
 cases eU (Ao hs ch) 0 ch<;>rfl
theorem aLp (hs:List D.aAA)(ch:List Int)(pin b:Int)(h:hs.length≤34359738368∧ch.length≤34359738368):Qx hs ch pin b=some (aGr hs ch pin b):=by
 unfold Qx aGr gM
 rw[fF (l:=ch) (Ao hs ch) (.inl false) (.inr ()) (by omega) (fun rec i hi=>by
  simp only[bG hi,cond_true,aD hi,bd_s,aG (show kY ch (i:Int) from⟨by omega,by omega⟩),Int.toNat_natCast,aG (show(List.take i ch).length≤1099511627776 by rw[List.length_take];omega)]
  unfold Ao xD
  show bd (bif decide (ch[i]<0) then some true else bif decide (ch[i]≥(hs.length:Int)) then some true else some (jD (List.take i ch) ch[i])) _=_
  unfold jD
  cases decide (ch[i]<0)<;>cases decide (ch[i]≥(hs.length:Int))<;>rfl) (fun rec=>by simp only[bH,cond_false])]
 rw[bne]
 cases eU (Ao hs ch) 0 ch<;>cases bU b 1019==0<;>rfl
theorem aUg (h:D.aAA)(e:Int):(jN h e).1.sz≤h.sz+1:=by
 unfold jN
 cases decide (uY h.State<h.Monotonic)|| !(gH h.State e).2.2 with
 |true=>exact Nat.le_succ _
 |false=>
  simp only[cond_false,D.aAA.sz]
  unfold aZr
  cases decide (((h.Saved++[h.State]).length:Int)>30)<;>simp only[cond_true,cond_false,List.length_drop,List.length_append,List.length_cons,List.length_nil]<;>omega
def iH (e:Int)(hs:List D.aAA)(ch:List Int)(i:Nat):List D.aAA×List Int×List Int:=(ch.take i).foldl (aO4 e) (hs,[],[])
theorem uC {e:Int}{hs:List D.aAA}{ch:List Int}{i:Nat}(hi:i<ch.length):iH e hs ch (i+1)=aO4 e (iH e hs ch i) ch[i]:=by
 unfold iH
 rw[List.take_add_one,List.getElem?_eq_getElem hi,List.foldl_append];rfl
theorem bB9 {hs:List D.aAA}{h:D.aAA}(hm:h∈hs):h.sz≤uH D.aAA.sz hs:=by
 have:=aO3 (g:=D.aAA.sz) hm
 unfold uH;omega
structure AskIn (B:Nat) (hs:List D.aAA) (i:Nat) (s:List D.aAA×List Int×List Int):Prop where
 len:s.1.length=hs.length
 sz:∀h∈s.1,h.sz≤B+i
 eq:s.2.1.length=s.2.2.length
 le:s.2.2.length≤i
theorem Nc {hs:List D.aAA}{ch:List Int}(h:gM hs ch=true){i:Nat}(hi:i<ch.length):0≤ch[i]∧ch[i]<(hs.length:Int):=by
 unfold gM at h
 rw[Bool.not_eq_true',Bool.eq_false_iff,Ne,sJ] at h
 have h2:Ao hs ch i ch[i]≠true:=fun e=>h ⟨i,hi,by rw[Nat.zero_add];exact e⟩
 have h2:=Bool.eq_false_iff.2 h2
 unfold Ao at h2
 exact aSw (Bool.or_eq_false_iff.1 h2).1
theorem Kw {e:Int}{hs:List D.aAA}{ch:List Int}(h:gM hs ch=true):∀i,i≤ch.length→AskIn (uH D.aAA.sz hs) hs i (iH e hs ch i)
 |0,_=>⟨rfl,fun h hm=>by have:h∈hs:=hm;have:=bB9 this;omega,rfl,Nat.le_refl _⟩
 |i+1,hi=>by
  obtain⟨h1,h2,h3,h4⟩:=Kw (e:=e) h i (by omega)
  have hc:=Nc h (i:=i) hi
  rw[uC hi]
  generalize iH e hs ch i=s at*
  have hk:ch[i].toNat<s.1.length:=by omega
  have hg:s.1.getD ch[i].toNat default=s.1[ch[i].toNat]:=by simp[List.getD,List.getElem?_eq_getElem hk]
  have hz:=h2 _ (List.getElem_mem hk)
  have ha:=aUg s.1[ch[i].toNat] e
  unfold aO4
  rw[hg]
  refine⟨by simp[h1],fun x hx=> ?_,?_,?_⟩
  ·rcases List.mem_or_eq_of_mem_set hx with hx|rfl
   ·have:=h2 x hx;omega
   ·omega
  ·cases(jN s.1[ch[i].toNat] e).2.2<;>simp[h3]
  ·cases(jN s.1[ch[i].toNat] e).2.2<;>simp<;>omega
theorem aLq (hs:List D.aAA)(ch:List Int)(e:Int)(h:(uH D.aAA.sz hs≤34000000000∧ch.length≤100000000)∧gM hs ch=true):Qt hs ch e=some (jS hs ch e):=by
 obtain⟨⟨h1,h2⟩,hch⟩:=h
 unfold Qt
 rw[aG (show uH D.aAA.sz hs≤34359738368 by omega),bd_s]
 rw[xB (τ:=List Int×List Int×List D.aAA) (s:=(([]:List Int),([]:List Int),(0:Nat),hs)) (fun i (s:List Int×List Int×Nat×List D.aAA)=>s=((iH e hs ch i).2.1,(iH e hs ch i).2.2,i,(iH e hs ch i).1)) ch.length
  (some ((jS hs ch e).2.1,(jS hs ch e).2.2,(jS hs ch e).1)) (by omega) rfl (fun i s rec hi hv=> ?_) (fun s rec hv=> ?_)]
 ·rfl
 ·left
  subst hv
  refine⟨_,rfl,?_⟩
  have hin:=Kw (e:=e) hch i (by omega)
  have hc:=Nc hch hi
  rw[uC hi]
  generalize iH e hs ch i=s at*
  obtain⟨q1,q2,q3,q4⟩:=hin
  have hk:ch[i].toNat<s.1.length:=by omega
  have hg:s.1.getD ch[i].toNat default=s.1[ch[i].toNat]:=by simp[List.getD,List.getElem?_eq_getElem hk]
  have hat:aV s.1 ch[i]=some s.1[ch[i].toNat]:=aN8 hc.1 hk
  have hz:=q2 _ (List.getElem_mem hk)
  have hz2:=hz
  simp only[D.aAA.sz] at hz2
  simp only[bG hi,cond_true,aD hi,bd_s,hat]
  unfold aO4 jN
  rw[hg]
  generalize s.1[ch[i].toNat]=x at*
  simp only[aNr,bd_s]
  cases hb:(decide (uY x.State<x.Monotonic)|| !(gH x.State e).2.2) with
  |true=>simp only[cond_true,cond_false,aG (show x.sz≤34359738368 by omega),bd_s]
  |false=>
   simp only[cond_false,cond_true,List.nil_append]
   rw[aG (show bL ([]:List D.aAL) x.Saved by unfold bL;simp only[List.length_nil];omega),aG (show bL x.Saved [x.State] by unfold bL;simp only[List.length_cons,List.length_nil];omega)]
   have a1:∀y:Int,bL s.2.1 [y]:=fun y=>by unfold bL;simp only[List.length_cons,List.length_nil];omega
   have a2:∀y:Int,bL s.2.2 [y]:=fun y=>by unfold bL;simp only[List.length_cons,List.length_nil];omega
   unfold aZr
   cases hd:decide (((x.Saved++[x.State]).length:Int)>30) with
   |false=>simp only[cond_false,aG (a1 _),aG (a2 _),bd_s]
   |true=>
    have:=of_decide_eq_true hd
    simp only[cond_true,aG (show kY (x.Saved++[x.State]) 1 from⟨by omega,by omega⟩),aG (a1 _),aG (a2 _),bd_s];rfl
 ·subst hv
  simp only[bH,cond_false]
  unfold iH jS
  rw[List.take_length]
theorem aUh {e:Int}{hs:List D.aAA}{ch:List Int}(h:gM hs ch=true):AskIn (uH D.aAA.sz hs) hs ch.length (jS hs ch e):=by
 have:=Kw (e:=e) h ch.length (Nat.le_refl _)
 unfold iH at this
 rw[List.take_length] at this;exact this
theorem aUi (hs:List D.aAA):hs.length≤uH D.aAA.sz hs:=by unfold uH;omega
theorem Yq (v:D.aAQ)(hs:List D.aAA)(ch:List Int)(pin b:Int)(h:uH D.aAA.sz hs≤34000000000∧ch.length≤100000000):vI v hs ch pin b=some (oH v hs ch pin b):=by
 have hl:=aUi hs
 unfold vI oH aGr
 rw[aG (show hs.length≤34359738368∧ch.length≤34359738368 by omega),bd_s]
 cases hc:gM hs ch with
 |false=>simp only[aG (show uH D.aAA.sz hs≤34359738368 by omega),bd_s];rfl
 |true=>
  simp only[Bool.not_true,cond_false,aNr,bd_s,Bool.true_and]
  rw[show(!(!(bU b 1019==0)&&cZ pin 0 9999))=(bU b 1019==0|| !cZ pin 0 9999) by rw[Bool.not_and,Bool.not_not]]
  cases(bU b 1019==0|| !cZ pin 0 9999) with
  |true=>simp only[aG (show uH D.aAA.sz hs≤34359738368 by omega),bd_s,cond_true]
  |false=>
   obtain⟨q1,q2,q3,q4⟩:=aUh (e:=dI v.Salt pin b) hc
   simp only[cond_false]
   rw[aG ⟨⟨h.1,h.2⟩,trivial⟩,bd_s,aG (show(jS hs ch (dI v.Salt pin b)).2.1.length≤34359738368∧(jS hs ch (dI v.Salt pin b)).2.2.length≤34359738368 by omega),bd_s]
   unfold fC
   generalize jS hs ch (dI v.Salt pin b)=r at*
   rw[show decide ((r.2.2.length:Int)<(ch.length:Int))=decide (r.2.2.length<ch.length) by rw[decide_eq_decide];omega]
   cases decide ((ch.length:Int)<v.Threshold)<;>cases decide (r.2.2.length<ch.length)<;>cases(gZ r.2.1 r.2.2).2<;>rfl
theorem Yr (v:D.aAQ)(hs:List D.aAA)(ch:List Int)(pin b:Int)(h:uH D.aAA.sz hs≤34000000000∧ch.length≤100000000):vR v hs ch pin b=some (aUa v hs ch pin b):=by
 have hl:=aUi hs
 unfold vR aUa oH aX5
 rw[aG (show uH D.aAA.sz hs≤34359738368 by omega),bd_s,aG (show hs.length≤34359738368∧ch.length≤34359738368 by omega),bd_s]
 cases hm:aGr hs ch pin b with
 |false=>rfl
 |true=>
  have hc:gM hs ch=true:=by
   unfold aGr at hm
   rw[Bool.and_eq_true] at hm;exact hm.1
  simp only[Bool.not_true,cond_false,bd_s,Bool.true_and]
  have main:EV.cB (α:=List Int×List Int×Bool×List D.aAA) FUEL (fun rec4 (i4:(List Int×List Int×Bool×Nat×List D.aAA))=>bif (decide ((↑i4.2.2.2.1:Int)<(↑ch.length:Int))) then(bd (aV ch (↑i4.2.2.2.1:Int)) fun z5=>bd (aV (i4.2.2.2.2) z5) fun z6=>bd (gd (z6.sz≤34359738300) (some (jN z6 (dI v.Salt pin b)))) fun z7=>bd (aV (i4.2.2.2.2) z5) fun z8=>bd (bif (i4.2.2.1) then(some (z7.2.2)) else(some (false))) fun z9=>gd (bL i4.1 [z7.1.State.aAN.Index]) (gd (bL i4.2.1 [z7.2.1]) (rec4 ((i4.1++[z7.1.State.aAN.Index],i4.2.1++[z7.2.1],z9,(i4.2.2.2.1+1),i4.2.2.2.2.set z5.toNat z7.1))))) else(some (i4.1,i4.2.1,i4.2.2.1,i4.2.2.2.2))) ([],[],true,0,hs)
    =some (aT8 v hs ch pin b,aT9 v hs ch pin b,(fC v hs ch pin b).2.2.length==ch.length,(fC v hs ch pin b).1)∧((fC v hs ch pin b).2.2.length=ch.length→aT8 v hs ch pin b=(fC v hs ch pin b).2.1∧aT9 v hs ch pin b=(fC v hs ch pin b).2.2)∧(aT8 v hs ch pin b).length=ch.length∧(aT9 v hs ch pin b).length=ch.length:=by
   have st:∀i,i≤ch.length→∃ix vs,EV.cB (α:=List Int×List Int×Bool×List D.aAA) 0 (fun _ _=>none) (ix,vs,true,0,hs)=none∧ix.length=i∧vs.length=i∧(((iH (dI v.Salt pin b) hs ch i).2.2.length=i)→ix=(iH (dI v.Salt pin b) hs ch i).2.1∧vs=(iH (dI v.Salt pin b) hs ch i).2.2)∧ix=kP v hs ch pin b i∧vs=kQ v hs ch pin b i:=fun i hi=>by
    refine⟨kP v hs ch pin b i,kQ v hs ch pin b i,rfl,?_,?_,?_,rfl,rfl⟩
    ·unfold kP;simp
    ·unfold kQ;simp
    ·intro he
     induction i with
     |zero=>exact⟨rfl,rfl⟩
     |succ i ih=>
      have hin:=Kw (e:=dI v.Salt pin b) hc i (by omega)
      rw[uC hi] at he ⊢
      unfold kP kQ
      rw[List.range_succ,List.map_append,List.map_append]
      simp only[List.map_cons,List.map_nil]
      have hx:uZ v hs ch pin b i=jN ((iH (dI v.Salt pin b) hs ch i).1.getD (ch[i]).toNat default) (dI v.Salt pin b):=by
       unfold uZ;rw[getD_at hi];rfl
      rw[hx]
      unfold aO4 at he ⊢
      cases hb:(jN ((iH (dI v.Salt pin b) hs ch i).1.getD (ch[i]).toNat default) (dI v.Salt pin b)).2.2 with
      |false=>
       rw[hb] at he
       have:=hin.le
       simp only[cond_false] at he
       omega
      |true=>
       rw[hb] at he
       simp only[cond_true,List.length_append,List.length_cons,List.length_nil] at he
       obtain⟨j1,j2⟩:=ih (by omega) (by omega)
       unfold kP at j1
       unfold kQ at j2
       exact⟨by rw[j1];rfl,by rw[j2];rfl⟩
   have all:∀i,i≤ch.length→(iH (dI v.Salt pin b) hs ch i).2.2.length≤i:=fun i hi=>(Kw hc i hi).le
   have eAll:iH (dI v.Salt pin b) hs ch ch.length=fC v hs ch pin b:=by unfold iH fC jS;rw[List.take_length]
   refine⟨?_,?_,?_,?_⟩
   ·rw[xB (τ:=List Int×List Int×Bool×List D.aAA) (s:=(([]:List Int),([]:List Int),true,(0:Nat),hs)) (fun i (s:List Int×List Int×Bool×Nat×List D.aAA)=>s=(kP v hs ch pin b i,kQ v hs ch pin b i,(iH (dI v.Salt pin b) hs ch i).2.2.length==i,i,(iH (dI v.Salt pin b) hs ch i).1)) ch.length
     (some (aT8 v hs ch pin b,aT9 v hs ch pin b,(fC v hs ch pin b).2.2.length==ch.length,(fC v hs ch pin b).1)) (by omega) rfl (fun i s rec hi hv=> ?_) (fun s rec hv=> ?_)]
    ·left
     subst hv
     refine⟨_,rfl,?_⟩
     have hin:=Kw (e:=dI v.Salt pin b) hc i (by omega)
     have hcc:=Nc hc hi
     have hx:uZ v hs ch pin b i=jN ((iH (dI v.Salt pin b) hs ch i).1.getD (ch[i]).toNat default) (dI v.Salt pin b):=by
      unfold uZ;rw[getD_at hi];rfl
     have e1:kP v hs ch pin b (i+1)=kP v hs ch pin b i++[(uZ v hs ch pin b i).1.State.aAN.Index]:=by
      unfold kP;rw[List.range_succ,List.map_append];rfl
     have e2:kQ v hs ch pin b (i+1)=kQ v hs ch pin b i++[(uZ v hs ch pin b i).2.1]:=by
      unfold kQ;rw[List.range_succ,List.map_append];rfl
     have l1:(kP v hs ch pin b i).length=i:=by unfold kP;simp
     have l2:(kQ v hs ch pin b i).length=i:=by unfold kQ;simp
     rw[e1,e2,hx,uC hi]
     generalize kP v hs ch pin b i=ix at*
     generalize kQ v hs ch pin b i=vs at*
     generalize iH (dI v.Salt pin b) hs ch i=s at*
     obtain⟨q1,q2,q3,q4⟩:=hin
     have hk:ch[i].toNat<s.1.length:=by omega
     have hg:s.1.getD ch[i].toNat default=s.1[ch[i].toNat]:=by simp[List.getD,List.getElem?_eq_getElem hk]
     have hat:aV s.1 ch[i]=some s.1[ch[i].toNat]:=aN8 hcc.1 hk
     have hz:=q2 _ (List.getElem_mem hk)
     simp only[bG hi,cond_true,aD hi,bd_s,hat]
     unfold aO4
     rw[hg]
     generalize s.1[ch[i].toNat]=x at*
     rw[aG (show x.sz≤34359738300 by omega),bd_s]
     have a1:∀y:Int,bL ix [y]:=fun y=>by unfold bL;simp only[List.length_cons,List.length_nil];omega
     have a2:∀y:Int,bL vs [y]:=fun y=>by unfold bL;simp only[List.length_cons,List.length_nil];omega
     rw[kL,bd_s,aG (a1 _),aG (a2 _)]
     have hfl:(bif s.2.2.length==i then(jN x (dI v.Salt pin b)).2.2 else false)=((bif (jN x (dI v.Salt pin b)).2.2 then s.2.2++[(jN x (dI v.Salt pin b)).2.1] else s.2.2).length==i+1):=by
      cases(jN x (dI v.Salt pin b)).2.2 with
      |true=>
       simp only[cond_true,List.length_append,List.length_cons,List.length_nil]
       cases he:s.2.2.length==i with
       |true=>rw[cond_true];exact(beq_iff_eq.2 (by have:=eq_of_beq he;omega)).symm
       |false=>rw[cond_false];exact(beq_eq_false_iff_ne.2 (by have:=beq_eq_false_iff_ne.1 he;omega)).symm
      |false=>
       simp only[cond_false]
       rw[beq_eq_false_iff_ne.2 (show s.2.2.length≠i+1 by omega)]
       cases s.2.2.length==i<;>rfl
     rw[hfl]
    ·subst hv
     simp only[bH,cond_false]
     rw[eAll];rfl
   ·intro he
    obtain⟨ix,vs,_,_,_,h3,h4,h5⟩:=st ch.length (Nat.le_refl _)
    rw[eAll] at h3
    have:=h3 he
    rw[h4,h5] at this
    exact this
   ·show(kP v hs ch pin b ch.length).length=_;unfold kP;simp
   ·show(kQ v hs ch pin b ch.length).length=_;unfold kQ;simp
  obtain⟨m1,m2,m3,m4⟩:=main
  rw[m1,bd_s]
  have q:=aUh (e:=dI v.Salt pin b) hc
  have hq:(fC v hs ch pin b).2.2.length≤ch.length:=q.le
  simp only[aNr,bd_s]
  cases he:(fC v hs ch pin b).2.2.length==ch.length with
  |false=>
   have:=beq_eq_false_iff_ne.1 he
   rw[decide_eq_true (show(fC v hs ch pin b).2.2.length<ch.length by omega)]
   cases decide ((ch.length:Int)<v.Threshold)<;>rfl
  |true=>
   have he2:=eq_of_beq he
   obtain⟨n1,n2⟩:=m2 he2
   rw[decide_eq_false (show ¬(fC v hs ch pin b).2.2.length<ch.length by omega),aG ⟨by omega,by omega⟩,n1,n2]
   simp only[bd_s]
   cases decide ((ch.length:Int)<v.Threshold)<;>cases(gZ (fC v hs ch pin b).2.1 (fC v hs ch pin b).2.2).2<;>rfl
theorem Yt (v:D.aAQ)(hs:List D.aAA)(ch:List Int)(pin b:Int)(h:uH D.aAA.sz hs≤34000000000∧ch.length≤100000000):vS v hs ch pin b=some (oH v hs ch pin b):=by
 unfold vS;rw[aG h];rfl
theorem bAk (w:D.World):uH D.aAA.sz w.Hosts≤w.sz∧w.Mail.sz≤w.sz:=by
 simp only[D.World.sz,D.aAI.sz,uH];omega
theorem Od (w:D.World)(ch:List Int)(pin:Int)(h:w.sz≤34000000000∧ch.length≤100000000):qD w ch pin=some (fO w ch pin):=by
 obtain⟨q1,q2⟩:=bAk w
 unfold qD fO
 rw[aG (show w.sz≤34359738368 by omega),bd_s,aG (show w.sz≤34359738368 by omega),bd_s]
 cases iO w with
 |false=>rfl
 |true=>
  rw[aG (by simp),bd_s,aG (by decide),aG (show uH D.aAA.sz w.Hosts≤34000000000∧ch.length≤100000000 by omega),bd_s,aG (show w.Mail.sz≤34359738300 by omega),bd_s];rfl
theorem Oe (w:D.World)(ch:List Int)(pin:Int)(h:w.sz≤34000000000∧ch.length≤100000000):qG w ch pin=some (fO w ch pin):=by
 obtain⟨q1,q2⟩:=bAk w
 unfold qG fO
 rw[aG (show w.sz≤34359738368 by omega),bd_s,aG (show w.sz≤34359738368 by omega),bd_s]
 cases iO w with
 |false=>rfl
 |true=>
  rw[aG (by simp),bd_s,aG (by decide),aG (show uH D.aAA.sz w.Hosts≤34000000000∧ch.length≤100000000 by omega),bd_s,aG (show w.Mail.sz≤34359738300 by omega),bd_s];rfl
theorem Tq (w:D.World):(sK w).length≤w.Hosts.length+1:=by
 unfold sK
 rw[List.length_map,List.length_range];omega
theorem Yu (w:D.World)(pin:Int)(h:w.sz≤33000000):vZ w pin=some (qZ w pin):=by
 have hl:w.Hosts.length≤w.sz:=by simp only[D.World.sz];omega
 have hgl:=Tq w
 unfold vZ
 have hn:(min w.aAQ.Threshold ((w.Hosts.length:Int)+1)).toNat≤w.Hosts.length+1:=by omega
 rw[xB (τ:=List Int) (s:=(([]:List Int),(0:Int))) (fun i (s:List Int×Int)=>s=((List.range i).map (fun(k:Nat)=>(k:Int)),(i:Int))) (min w.aAQ.Threshold ((w.Hosts.length:Int)+1)).toNat (some (sK w)) (by omega) rfl (fun i s rec hi hv=> ?_) (fun s rec hv=> ?_)]
 ·rw[bd_s,aG (show w.sz≤34000000000∧(sK w).length≤100000000 by omega)];rfl
 ·left
  subst hv
  refine⟨_,rfl,?_⟩
  simp only[aX3,bd_s]
  rw[decide_eq_true (show(i:Int)<w.aAQ.Threshold by omega),decide_eq_true (show(i:Int)≤(w.Hosts.length:Int) by omega),Bool.and_self,cond_true,aG (show bL ((List.range i).map (fun(k:Nat)=>(k:Int))) [(i:Int)] by unfold bL;simp only[List.length_map,List.length_range,List.length_cons,List.length_nil];omega),bN (by omega) (by omega),List.range_succ,List.map_append];rfl
 ·subst hv
  simp only[aX3,bd_s]
  generalize hm:(min w.aAQ.Threshold ((w.Hosts.length:Int)+1)).toNat=m
  rw[show(decide ((m:Int)<w.aAQ.Threshold)&&decide ((m:Int)≤(w.Hosts.length:Int)))=false by
   rw[Bool.and_eq_false_iff,decide_eq_false_iff_not,decide_eq_false_iff_not];omega,cond_false]
  unfold sK;rw[hm]
theorem Yv (w:D.World)(pin:Int)(h:w.sz≤33000000):wB w pin=some (qZ w pin):=by
 have hl:w.Hosts.length≤w.sz:=by simp only[D.World.sz];omega
 have hgl:=Tq w
 unfold wB
 have hw:IntKind.i64.wrap ((w.Hosts.length:Int)+1)=(w.Hosts.length:Int)+1:=bN (by omega) (by omega)
 have hmin:(if IntKind.i64.wrap ((w.Hosts.length:Int)+(1:Int))<w.aAQ.Threshold then IntKind.i64.wrap ((w.Hosts.length:Int)+(1:Int)) else w.aAQ.Threshold)=min w.aAQ.Threshold ((w.Hosts.length:Int)+1):=by
  rw[hw];split<;>omega
 rw[hmin]
 rw[xB (τ:=List Int) (s:=(([]:List Int),(0:Nat))) (fun i (s:List Int×Nat)=>s=((List.range i).map (fun(k:Nat)=>(k:Int)),i)) (min w.aAQ.Threshold ((w.Hosts.length:Int)+1)).toNat (some (sK w)) (by omega) rfl (fun i s rec hi hv=> ?_) (fun s rec hv=> ?_)]
 ·rw[bd_s,aG (show w.sz≤34000000000∧(sK w).length≤100000000 by omega)];rfl
 ·left
  subst hv
  refine⟨_,rfl,?_⟩
  simp only
  rw[decide_eq_true (show(i:Int)<min w.aAQ.Threshold ((w.Hosts.length:Int)+1) by omega),cond_true,aG (show bL ((List.range i).map (fun(k:Nat)=>(k:Int))) [(i:Int)] by unfold bL;simp only[List.length_map,List.length_range,List.length_cons,List.length_nil];omega),List.range_succ,List.map_append];rfl
 ·subst hv
  simp only
  rw[decide_eq_false (by omega),cond_false];rfl
theorem aRs {α:Type}[Inhabited α]{f:α→Nat}{x:α}:∀{l:List α} {i:Nat},i<l.length→f x≤f (l.getD i default)+1→((l.set i x).map f).sum≤(l.map f).sum+1
 |y::l,0,_,h=>by
  simp only[List.getD,List.getElem?_cons_zero,Option.getD_some] at h
  simp only[List.set_cons_zero,List.map_cons,List.sum_cons];omega
 |y::l,i+1,hi,h=>by
  have:=aRs (f:=f) (l:=l) (i:=i) (x:=x) (by simpa using hi) (by simpa[List.getD] using h)
  simp only[List.set_cons_succ,List.map_cons,List.sum_cons];omega
theorem aUj {e:Int}{hs:List D.aAA}{ch:List Int}(h:gM hs ch=true):∀i,i≤ch.length→((iH e hs ch i).1.map D.aAA.sz).sum≤(hs.map D.aAA.sz).sum+i
 |0,_=>Nat.le_refl _
 |i+1,hi=>by
  have ih:=aUj (e:=e) h i (by omega)
  have hin:=Kw (e:=e) h i (by omega)
  have hc:=Nc h (i:=i) hi
  rw[uC hi]
  generalize iH e hs ch i=s at*
  have hk:ch[i].toNat<s.1.length:=by have:=hin.len;omega
  have:=aRs (f:=D.aAA.sz) hk (aUg (s.1.getD ch[i].toNat default) e)
  unfold aO4
  simp only
  omega
theorem aZy (v:D.aAQ)(hs:List D.aAA)(ch:List Int)(pin b:Int):(oH v hs ch pin b).1.length=hs.length∧((oH v hs ch pin b).1.map D.aAA.sz).sum≤(hs.map D.aAA.sz).sum+ch.length:=by
 unfold oH
 cases hm:aGr hs ch pin b with
 |false=>exact⟨rfl,Nat.le_add_right _ _⟩
 |true=>
  have hc:gM hs ch=true:=by
   unfold aGr at hm
   rw[Bool.and_eq_true] at hm;exact hm.1
  have hs1:=aUj (e:=dI v.Salt pin b) hc ch.length (Nat.le_refl _)
  have hs2:=(Kw (e:=dI v.Salt pin b) hc ch.length (Nat.le_refl _)).len
  unfold iH at hs1 hs2
  rw[List.take_length] at hs1 hs2
  simp only[Bool.not_true,cond_false]
  cases decide ((ch.length:Int)<v.Threshold)||(decide ((fC v hs ch pin b).2.2.length<ch.length)|| !(gZ (fC v hs ch pin b).2.1 (fC v hs ch pin b).2.2).2)<;>exact⟨hs2,hs1⟩
theorem aZz (w:D.World)(ch:List Int)(pin:Int):(fO w ch pin).1.sz≤w.sz+ch.length+1:=by
 unfold fO
 cases iO w with
 |false=>simp only[Bool.not_false,cond_true];omega
 |true=>
  obtain⟨q1,q2⟩:=aZy w.aAQ w.Hosts ch pin (aUb w)
  have:=aZp {w with Hosts:=(oH w.aAQ w.Hosts ch pin (aUb w)).1} 5
  simp only[Bool.not_true,cond_false]
  simp only[D.World.sz] at this ⊢
  omega
theorem aV4 (w:D.World)(pin:Int):(qZ w pin).1.sz≤2*w.sz+2:=by
 have h1:=aZz w (sK w) pin
 have h2:=Tq w
 have h3:w.Hosts.length≤w.sz:=by simp only[D.World.sz];omega
 show(fO w (sK w) pin).1.sz≤_
 omega
theorem wK (w:D.World)(pin:Int)(h:w.ok):kG w pin=some true:=by
 unfold kG
 obtain⟨e0,⟨hs,e⟩|e⟩:=szW h
 ·have hg:=aV4 w pin
  simp only[e0,bd_s,e,bDc hs,aG hs,aG (show w.sz≤33000000 by omega)]
  generalize qZ w pin=g at hg ⊢
  have hg:g.1.sz≤68719476736:=by omega
  have hw:w.sz≤68719476736:=by omega
  simp only[aX1 hg,aX1 hw,bd_s,Bool.not_true,cond_false,aX2,bAi hw,bAi hg,bEk hw,aZx,bDa hg,bDb,bEj hg,bne_self_eq_false]
 ·simp only[e0,bd_s,e];rfl
end
end Go.VK
