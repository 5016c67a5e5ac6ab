import Derived.Test.YtffpnfmhcpcaaaaGreatDoorXgPp
import Derived.Test.YtffpnfmhcpcaaaaGreatDoorXgQ
/-
  Printed by wip/tools (own work of this part): models of functions, walks over the value kit, and proofs.
-/
set_option linter.unusedVariables false
set_option linter.unusedSimpArgs false
set_option maxRecDepth 100000
set_option maxHeartbeats 4000000
namespace Go.VK
open Go.RowKit Go.Proofs
noncomputable section
open EV (bW)
theorem aWq {F:(Int×List Int→Option (Int×List Int))→Int×List Int→Option (Int×List Int)}{n:Int}{b:List Int}(hk:0≤n∧n≤1000000000000)(hb:b.length≤34359738300)
  (hF:∀rec (n:Int) (s:List Int),0≤n→n<9223372036854775807→s.length≤34359738368→F rec (n,s)=bif decide (n>127) then rec (n/128,s++[n%128+128]) else some (n,s)):
  (bd (EV.bW FUEL F (n,b)) fun z=>gd (bO z.2 [IntKind.u8.wrap z.1]) (some (z.2++[IntKind.u8.wrap z.1])))=some (b++uvE 5 n):=by
 have h7:(128:Int)^(5+1)=4398046511104:=by decide
 obtain⟨m,q,e1,e2,e3,e4⟩:=aTg hF 5 n b FUEL (by have:=gT;omega) hk.1 (by omega) (by omega) (by omega)
 have hq:q.length≤34359738368:=by
  have h1:=congrArg List.length e2
  have h2:=(aQ6 5 n).2
  simp only[List.length_append,List.length_singleton] at h1;omega
 rw[e1,bd_s]
 simp only[aH1 e3 (show m≤255 by omega)]
 rw[fM (s:=q) hq,e2]
theorem Mh (b:List Int)(n:Int)(h:b.length≤34359738300):oU b n=some (lN b n):=by
 unfold oU lN enc1
 rw[jP (by omega)]
 cases hr:dD n 0 1000000000000 with
 |false=>simp
 |true=>
  rw[Bool.not_true,cond_false,cond_true,List.nil_append]
  exact aWq (aGx hr) h (fun rec n s h0 h1 h2=>by
   show(bif decide (n>127) then gd (bO s [IntKind.u8.wrap (orI .i64 (vG .i64 n 127) 128)]) (gd ((0:Int)≤7) (rec (P8 .i64 n 7,s++[IntKind.u8.wrap (orI .i64 (vG .i64 n 127) 128)]))) else some (n,s))=_
   rw[bBi h0 (by omega),bC8 (Int.emod_nonneg _ (by decide)) (Int.emod_lt_of_pos _ (by decide)),bDx h0,aH1 (by omega) (by omega),fM (s:=s) h2,aH (show(0:Int)≤7 by decide)])
theorem aAp:∀(l s:List Int),l.foldl lN s=s++rF l
 |[],s=>by simp[rF]
 |x::l,s=>by rw[List.foldl_cons,aAp l,rM,lN,List.append_assoc]
theorem E5 (l:List Int)(h:l.length≤5000000000):vY l=some (rF l):=by
 unfold vY
 rw[fH (l:=l) lN (fun i s=>s.length≤6*i) (fun s=>some s) (by omega) (by simp) (fun i s hi hv=>by have:=aH2 l[i];simp only[lN,List.length_append];omega) (fun rec i s hi hv=>by
  simp only[bD hi,cond_true,aG hi,bd_s,aH (show s.length≤34359738300 by omega)]) (fun rec s _=>by simp only[bE,cond_false]),aAp]
 rfl
theorem Vt:∀(l:List D.Entry) (s:List Int),l.foldl (fun s e=>s++aTj e) s=s++oL l
 |[],s=>by simp[oL]
 |x::l,s=>by rw[List.foldl_cons,Vt l];simp[oL]
theorem Pv (b:D.Bundle)(h:b.sz≤34359738368):qD b=some (mO b):=by
 unfold qD mO
 rw[aH h,bd_s]
 cases hb:bB b with
 |false=>rfl
 |true=>
  have hl:=nM hb
  have hv:(oM b).length=1+4*b.Entries.length:=by simp[oM,rO];omega
  rw[Bool.not_true,cond_false,cond_true,fH (l:=b.Entries) (fun s e=>s++aTj e) (fun i s=>s.length≤1+4*i) (fun s=>some s) (by omega) (by simp) (fun i s hi hv=>by simp only[aTj,List.length_append,List.length_cons,List.length_nil];omega) (fun rec i s hi hv=>by
   have e:∀x y z w:Int,gd (bO s [x,y,z,w]) (some (s++[x,y,z,w]))=some (s++[x,y,z,w]):=fun _ _ _ _=>aH (by unfold bO;simp only[List.length_cons,List.length_nil];omega)
   simp only[bD hi,cond_true,aG hi,bd_s,kQ,e];rfl) (fun rec s _=>by simp only[bE,cond_false]),Vt,bd_s]
  rw[aH (show([(b.Entries.length:Int)]++oL b.Entries).length≤5000000000 by show(oM b).length≤_;omega),bd_s]
  rfl
theorem E8 (a b:List Int)(h:bF a∧bF b):vZ a b=some (a==b):=by
 obtain⟨ha,hb⟩:=h
 have h1:=ha.1
 have h2:=hb.1
 unfold vZ
 rw[aH (by omega),aH (by omega),aWg,aWg,ByteArray.toList_eq,ByteArray.toList_eq,aPu,aPu]
 congr 1
 rw[Bool.eq_iff_iff,beq_iff_eq,beq_iff_eq]
 exact⟨fun h=>bytes_inj (aDf ha) (aDf hb) h,fun h=>by rw[h]⟩
theorem bD5 {v:List Int}{i:Nat}(h:4*i+3<v.length):v.drop (4*i)=v[4*i]::v[4*i+1]::v[4*i+2]::v[4*i+3]::v.drop (4*(i+1)):=by
 rw[List.drop_eq_getElem_cons (show 4*i<v.length by omega),List.drop_eq_getElem_cons (show 4*i+1<v.length by omega),List.drop_eq_getElem_cons (show 4*i+1+1<v.length by omega),List.drop_eq_getElem_cons (show 4*i+1+1+1<v.length by omega)];rfl
theorem aTv {v:List Int}{k:Nat}(hv:v.length=4*k)(hk:k≤20){τ:Type}{x:τ}{F:(Nat×List D.Entry→Option (τ⊕List D.Entry))→Nat×List D.Entry→Option (τ⊕List D.Entry)}
  (hF:∀rec i s (hi:i<k) (h:4*i+3<v.length),s.length≤100→F rec (i,s)=bif decide (v[4*i+3]>1) then some (.inl x) else rec (i+1,s++[⟨v[4*i],v[4*i+1],v[4*i+2],v[4*i+3]==1⟩])) (hE:∀rec s,F rec (k,s)=some (.inr s)):
  ∀(m i n:Nat) (s:List D.Entry),i+m=k→m<n→s.length≤i→EV.bW n F (i,s)=some (bif jW (v.drop (4*i)) then .inr (s++jD (v.drop (4*i))) else .inl x)
 |0,i,n+1,s,h,_,_=>by
  have:i=k:=by omega
  subst this
  rw[kJ,hE,List.drop_eq_nil_of_le (by omega)];simp[jW,jD]
 |m+1,i,n+1,s,h,hn,hs=>by
  have h4:4*i+3<v.length:=by omega
  rw[kJ,hF _ i s (by omega) h4 (by omega),bD5 h4]
  simp only[jW,jD]
  by_cases hg:v[4*i+3]>1
  ·rw[decide_eq_true hg,decide_eq_false (show ¬v[4*i+3]≤1 by omega)];rfl
  ·rw[decide_eq_false hg,decide_eq_true (show v[4*i+3]≤1 by omega),cond_false,Bool.true_and,aTv hv hk hF hE m (i+1) n _ (by omega) (by omega) (by simp;omega)]
   simp
theorem aTw {a:List Int}(hb:bF a)(hc:(!(vE a 0).2.2||decide ((vE a 0).1>20))=false):∃(n:Int) (q:Nat),vE a 0=(n,(q:Int),true)∧0≤n∧n≤20∧q≤a.length:=by
 simp only[Bool.or_eq_false_iff,Bool.not_eq_false',decide_eq_false_iff_not] at hc
 cases hu:vE a 0 with
 |mk n r=>
  obtain⟨e,ok⟩:=r
  rw[hu] at hc
  obtain⟨rfl,hc2⟩:=hc
  obtain⟨q,⟨_,g1,g2,g3,g4⟩,_⟩:=aQ8 hb hu
  exact⟨n,q,by rw[g3],g1,by simp only at hc2;omega,g4⟩
theorem aTx {a:List Int}{e c:Int}(h0:0≤c)(h1:c≤100)(h2:0≤e)(h3:e≤a.length):gU a e c=iP a c.toNat e []:=by
 unfold gU dD
 rw[decide_eq_true h0,decide_eq_true h1,decide_eq_true h2,decide_eq_true h3];rfl
theorem aRn {v:List Int}{i j:Nat}{q:Int}(hq:q=(j:Int))(h:i+j<v.length):aT (v.drop i) q=some v[i+j]:=by
 subst hq
 rw[aG (by rw[List.length_drop];omega),List.getElem_drop]
theorem Pw (a:List Int)(hb:bF a):qI a=some (Jc a):=by
 unfold qI Jc
 rw[aH hb,bd_s,Dx,bd_s]
 cases hc:(!(vE a 0).2.2||decide ((vE a 0).1>20)) with
 |true=>rfl
 |false=>
  obtain⟨n,q,hu,h0,h1,h2⟩:=aTw hb hc
  rw[hu,cond_false,cond_false]
  dsimp only
  rw[aS (n:=4*n) (by omega) (by omega),aH hb,bd_s,aTx (by omega) (by omega) (by omega) (by omega)]
  cases hd:iP a (4*n).toNat (q:Int) [] with
  |mk v r=>
   obtain⟨e,ok⟩:=r
   dsimp only
   rw[Dx,bd_s]
   unfold aWj
   cases ok with
   |false=>rfl
   |true=>
    dsimp only
    rw[Bool.not_true,Bool.false_or,Bool.false_or]
    cases he:(e !=(a.length:Int)) with
    |true=>rfl
    |false=>
     obtain⟨t,q',⟨k1,k2,k3,k4,k5⟩,_⟩:=Jb hb _ _ _ _ _ (by omega) (by omega) hd
     rw[List.nil_append] at k1
     subst k1
     have hv:v.length=4*n.toNat:=by omega
     rw[cond_false,Bool.false_or,aTv (x:=((D.Bundle.mk [],false):D.Bundle×Bool)) hv (by omega) (fun rec i s hi h4 hs=>by
      have e1:decide ((i:Int)<n)=true:=decide_eq_true (by omega)
      have e2:IntKind.i64.wrap (4*(i:Int))=((4*i:Nat):Int):=by rw[aS (by omega) (by omega)];omega
      have g0:aT (v.drop (4*i)) 0=some (v[4*i]'(by omega)):=aRn (j:=0) rfl (by omega)
      have g1:aT (v.drop (4*i)) 1=some (v[4*i+1]'(by omega)):=aRn (j:=1) rfl (by omega)
      have g2:aT (v.drop (4*i)) 2=some (v[4*i+2]'(by omega)):=aRn (j:=2) rfl (by omega)
      have g3:aT (v.drop (4*i)) 3=some v[4*i+3]:=aRn (j:=3) rfl h4
      simp only[e1,e2,Int.toNat_natCast,cond_true,aH (show Az v ((4*i:Nat):Int) from⟨by omega,by omega⟩),g0,g1,g2,g3,bd_s,fM (show s.length≤34359738368 by omega)]) (fun rec s=>by
      rw[show decide (((n.toNat:Nat):Int)<n)=false from decide_eq_false (by omega)];rfl) n.toNat 0 FUEL [] (by omega) (by have:=gT;omega) (by simp)]
     simp only[Nat.mul_zero,List.drop_zero,List.nil_append]
     cases hf:jW v with
     |false=>rfl
     |true=>
      have hl:=Zt n.toNat v hv
      simp only[cond_true,nx_r]
      rw[aH (show(D.Bundle.mk (jD v)).sz≤34359738368 by simp only[D.Bundle.sz];omega),bd_s]
      cases bB ⟨jD v⟩<;>rfl
theorem aP4 {a:List Int}(hb:bF a){k:Nat}(hk:k≤20){τ:Type}{x:τ}{F:(Int×Nat×List D.Entry→Option (τ⊕List D.Entry))→Int×Nat×List D.Entry→Option (τ⊕List D.Entry)}
  (hF:∀rec (q:Nat) i s (hi:i<k),q≤a.length→s.length≤100→F rec ((q:Int),i,s)=bif !(iP a 4 q []).2.2 then some (.inl x) else rec ((iP a 4 q []).2.1,i+1,s++jD (iP a 4 q []).1)) (hE:∀rec e s,F rec (e,k,s)=some (.inr s)):
  ∀(m i n q:Nat) (s:List D.Entry),i+m=k→m<n→q≤a.length→s.length≤i→EV.bW n F ((q:Int),i,s)=some (bif (iP a (4*m) q []).2.2 then .inr (s++jD (iP a (4*m) q []).1) else .inl x)
 |0,i,n+1,q,s,h,_,_,_=>by
  have:i=k:=by omega
  subst this
  rw[kJ,hE];simp[iP,jD]
 |m+1,i,n+1,q,s,h,hn,hq,hs=>by
  rw[kJ,hF _ q i s (by omega) hq (by omega),show 4*(m+1)=4+4*m by omega,aH4 4 (4*m)]
  cases hd:iP a 4 (q:Int) [] with
  |mk l r=>
   obtain⟨e,ok⟩:=r
   cases ok with
   |false=>rfl
   |true=>
    obtain⟨t,q',⟨k1,k2,k3,k4,k5⟩,_⟩:=Jb hb _ _ _ _ _ (by omega) (by omega) hd
    rw[List.nil_append] at k1
    subst k1;subst k3
    have hl:(jD l).length=1:=Zt 1 l (by omega)
    simp only[Bool.not_true,cond_false,cond_true]
    rw[aP4 hb hk hF hE m (i+1) n q' _ (by omega) (by omega) k4 (by simp[hl];omega),aH5 (4*m) (q':Int) l]
    cases(iP a (4*m) (q':Int) []).2.2 with
    |false=>rfl
    |true=>simp[aTk 1 l _ (by omega)]
theorem four {l:List Int}(h:l.length=4):∃w x y z,l=[w,x,y,z]:=by
 match l,h with
 |[w,x,y,z],_=>exact⟨w,x,y,z,rfl⟩
theorem Px (a:List Int)(hb:bF a):qE a=some (Jc a):=by
 unfold qE Jc
 rw[aH hb,bd_s,Dx,bd_s]
 cases hc:(!(vE a 0).2.2||decide ((vE a 0).1>20)) with
 |true=>rfl
 |false=>
  obtain⟨n,q,hu,h0,h1,h2⟩:=aTw hb hc
  rw[hu,cond_false,cond_false]
  dsimp only
  rw[aP4 (x:=((D.Bundle.mk [],false):D.Bundle×Bool)) hb (k:=n.toNat) (by omega) (fun rec q i s hi hq hs=>by
   have e1:decide ((i:Int)<n)=true:=decide_eq_true (by omega)
   simp only[e1,cond_true,aH hb,bd_s,aTx (a:=a) (e:=(q:Int)) (c:=4) (by omega) (by omega) (by omega) (by omega),show Int.toNat 4=4 from rfl]
   cases hd:iP a 4 (q:Int) [] with
   |mk l r=>
    obtain⟨e,ok⟩:=r
    cases ok with
    |false=>rfl
    |true=>
     obtain⟨t,q',⟨k1,k2,_⟩,_⟩:=Jb hb _ _ _ _ _ (by omega) (by omega) hd
     rw[List.nil_append] at k1
     subst k1
     obtain⟨w,x,y,z,rfl⟩:=four k2
     simp only[Bool.not_true,cond_false,show aT [w,x,y,z] 0=some w from rfl,show aT [w,x,y,z] 1=some x from rfl,show aT [w,x,y,z] 2=some y from rfl,show aT [w,x,y,z] 3=some z from rfl,bd_s,fM (show s.length≤34359738368 by omega)]
     rfl) (fun rec e s=>by
   rw[show decide (((n.toNat:Nat):Int)<n)=false from decide_eq_false (by omega)];rfl) n.toNat 0 FUEL q [] (by omega) (by have:=gT;omega) h2 (by simp)]
  rw[show(4*n).toNat=4*n.toNat by omega]
  unfold aWj
  cases hd:iP a (4*n.toNat) (q:Int) [] with
  |mk v r=>
   obtain⟨e,ok⟩:=r
   cases ok with
   |false=>rfl
   |true=>
    obtain⟨b1,b2,b3,b4⟩:=aZ8 hb hu h1 (show iP a (4*n).toNat (q:Int) []=(v,e,true) by rw[show(4*n).toNat=4*n.toNat by omega];exact hd)
    have hz:(D.Bundle.mk (jD v)).sz≤34359738368:=by simp only[D.Bundle.sz];omega
    simp only[cond_true,nx_r,List.nil_append,aH hz,bd_s,aH (show bF (mO ⟨jD v⟩)∧bF a from⟨aH6 _,hb⟩),Dx]
    unfold mO
    cases hbo:bB ⟨jD v⟩ with
    |false=>simp
    |true=>
     rw[cond_true]
     by_cases hq:rF (oM ⟨jD v⟩)=a
     ·obtain⟨c1,c2⟩:=b1.1 hq
      rw[hq,c1,c2];simp
     ·have:(e !=(a.length:Int)|| !jW v)=true:=by
       cases h3:(e !=(a.length:Int)) with
       |true=>rfl
       |false=>
        cases h4:jW v with
        |false=>rfl
        |true=>exact absurd (b1.2 ⟨by simpa using h3,h4⟩) hq
      rw[show(rF (oM ⟨jD v⟩)==a)=false by simpa using hq]
      simp only[Bool.not_true,Bool.not_false,cond_true,Bool.false_or,Bool.or_false,this]
theorem E9 (k:Int)(s:D.SealedBundle)(h:s.Data.length≤34359738200):wM k s=some (jE k s):=by
 unfold wM jE
 rw[aH h,aH (by simp)]
 simp only[bd_s,aH (show s.Data.length≤34359738368 by omega),aH (aQ2 (k:=gD k [223,s.Epoch,s.Version]) (show s.Data.length≤34359738368 by omega))]
 unfold jQ
 cases eG k<;>cases dD s.Epoch 0 1000000<;>cases dD s.Version 0 1000000<;>cases(s.MAC !=gQ k s)<;>rfl
theorem F3 (k:Int)(s:D.SealedBundle)(h:s.Data.length≤34359738200):wB k s=some (jE k s):=by
 unfold wB jE
 rw[aH h,aH (show s.Data.length≤34359738368 by omega)]
 simp only[bd_s,aH (aQ2 (k:=jQ k s.Epoch s.Version) (show s.Data.length≤34359738368 by omega))]
 cases eG k<;>cases dD s.Epoch 0 1000000<;>cases dD s.Version 0 1000000<;>cases(s.MAC !=gQ k s)<;>rfl
theorem F4 (d:D.Device)(l:List D.LogEntry)(bx:D.EpochBoxes)(s:D.SealedBundle)(h:d.sz≤34359738368∧l.length≤34359738368∧bx.sz≤34359738368∧s.Data.length≤34359738200):wN d l bx s=some (fO d l bx s):=by
 obtain⟨h1,h2,h3,h4⟩:=h
 have hdl:=jB l
 have hb:d.Bundle.sz≤34359738368:=by simp only[D.Device.sz,D.Bundle.sz] at*;omega
 unfold wN fO Om
 simp only[aH h1,aH h2,aH h3,aH h4,aH (show(aW l).length≤1099511627776 by omega),bd_s,Dx,bif_and,bif_or,kQ]
 have ho:=aPw (dA d.Store bx).1 s
 generalize jE (dA d.Store bx).1 s=o at ho ⊢
 simp only[aH (show d.Bundle.sz≤34359738368∧o.1.sz≤34359738368 from⟨hb,by omega⟩),bd_s]
 cases !jN l|| !iY l d.Log with
 |true=>rfl
 |false=>
  cases !iE (aW l) (jS d.Store) with
  |true=>rfl
  |false=>
   cases bx.Epoch !=eO l|| !(dA d.Store bx).2 with
   |true=>rfl
   |false=>
    cases decide (s.Epoch<eO l)||(decide (s.Epoch<d.Epoch)||(s.Epoch==d.Epoch&&decide (s.Version<d.Version))) with
    |true=>rfl
    |false=>cases !o.2<;>cases !(jO d.Bundle o.1).2<;>rfl
theorem F5 (d:D.Device)(l:List D.LogEntry)(bx:D.EpochBoxes)(s:D.SealedBundle)(h:d.sz≤34359738368∧l.length≤34359738368∧bx.sz≤34359738368∧s.Data.length≤34359738200):wC d l bx s=some (fO d l bx s):=by
 obtain⟨h1,h2,h3,h4⟩:=h
 have hdl:=jB l
 have hb:d.Bundle.sz≤34359738368:=by simp only[D.Device.sz,D.Bundle.sz] at*;omega
 unfold wC fO Om
 simp only[aH h1,aH h2,aH h3,aH h4,aH (show(aW l).length≤1099511627776 by omega),bd_s,Dx,bif_and,bif_or,kQ]
 have ho:=aPw (dA d.Store bx).1 s
 generalize jE (dA d.Store bx).1 s=o at ho ⊢
 simp only[aH (show d.Bundle.sz≤34359738368∧o.1.sz≤34359738368 from⟨hb,by omega⟩),bd_s]
 cases !jN l|| !iY l d.Log with
 |true=>rfl
 |false=>
  cases !iE (aW l) (jS d.Store) with
  |true=>rfl
  |false=>
   cases bx.Epoch !=eO l|| !(dA d.Store bx).2 with
   |true=>rfl
   |false=>
    cases decide (s.Epoch<eO l)||(decide (s.Epoch<d.Epoch)||(s.Epoch==d.Epoch&&decide (s.Version<d.Version))) with
    |true=>rfl
    |false=>cases !o.2<;>cases !(jO d.Bundle o.1).2<;>rfl
theorem aP5 {c:D.Cloud}(h:c.sz≤34359738100)(b:Int):c.Log.length≤34359738100∧c.Boxes.sz≤34359738100∧(gW c b).1.Data.length≤34359738100:=by
 have hz:=h
 simp only[D.Cloud.sz] at h
 refine⟨by omega,by simp only[D.EpochBoxes.sz] at*;omega,?_⟩
 unfold gW
 cases e:(decide (b<0)||decide (b≥(c.History.length:Int))) with
 |true=>simp
 |false=>
  have:=(aJ0 (b:=b) (show c.sz≤34359738368 by omega) (aQ4 e)).2
  have h1:=aQ5 (f:=D.SealedBundle.sz) (l:=c.History) (i:=c.History.length-1-b.toNat) (by have:=aQ4 e;omega)
  simp only[cond_false]
  simp only[D.SealedBundle.sz] at h1
  omega
theorem aJ1 (d:D.Device)(c:D.Cloud)(b:Int)(h:d.sz≤34359738100∧c.sz≤34359738100):Kq d c b=some (fO d c.Log c.Boxes (gW c b).1):=by
 obtain⟨h1,h2⟩:=h
 obtain⟨k1,k2,k3⟩:=aP5 h2 b
 unfold Kq
 rw[aH (show c.sz≤34359738368 by omega),bd_s,aH ⟨by omega,by omega,by omega,by omega⟩,bd_s]
theorem aVf {w:D.World}{d:Int}(h:dO w d=true):0≤d∧d.toNat<w.Devices.length∧(fJ w d).sz≤w.sz∧fJ w d=w.Devices.getD d.toNat default:=by
 simp only[dO,Bool.and_eq_true,decide_eq_true_eq] at h
 have hi:d.toNat<w.Devices.length:=by omega
 have:=aQ5 (f:=D.Device.sz) hi
 refine⟨h.1,hi,?_,rfl⟩
 show(w.Devices.getD d.toNat default).sz≤_
 simp only[D.World.sz];omega
theorem aJ2 (w:D.World):w.Cloud.sz≤w.sz:=by simp only[D.World.sz,D.Cloud.sz,D.EpochBoxes.sz];omega
theorem aJ3 (w:D.World)(d b:Int)(hz:w.sz≤34359738100):Kr w d b=some (eD w d b):=by
 have hcl:=aJ2 w
 unfold Kr eD
 rw[aH (show w.sz≤34359738368 by omega),bd_s,aH (show w.sz≤34359738368 by omega),bd_s]
 cases hc:(dS w&&dO w d) with
 |false=>rfl
 |true=>
  have hd:=(Bool.and_eq_true_iff.1 hc).2
  obtain⟨k1,k2,k3,k4⟩:=aVf hd
  rw[Bool.not_true,cond_false,cond_true,Oj hd,bd_s,aH ⟨by omega,by omega⟩,bd_s,bd_s]
theorem aJ4 (w:D.World)(d b:Int)(hz:w.sz≤34359738100):Ld w d b=some (eD w d b):=by
 have hcl:=aJ2 w
 unfold Ld eD
 rw[aH (show w.sz≤34359738368 by omega),bd_s,aH (show w.sz≤34359738368 by omega),bd_s,Dx,bd_s,←Bool.not_and]
 cases hc:(dS w&&dO w d) with
 |false=>rfl
 |true=>
  have hd:=(Bool.and_eq_true_iff.1 hc).2
  obtain⟨k1,k2,k3,k4⟩:=aVf hd
  obtain⟨l1,l2,l3⟩:=aP5 (show w.Cloud.sz≤34359738100 by omega) b
  rw[Bool.not_true,cond_false,cond_true,aH (show w.Cloud.sz≤34359738368 by omega),bd_s,Oj hd,bd_s,aH ⟨by omega,by omega,by omega,by omega⟩,bd_s,bd_s]
end
end Go.VK
