import Derived.Test.YtinkjfapmhcgmaaGreatDoorXjPp
import Derived.Test.YtinkjfapmhcgmaaGreatDoorXjQ
/- Printed by wip/tools: models, walks, proofs. -/
set_option linter.unusedVariables false
set_option linter.unusedSimpArgs false
set_option maxRecDepth 100000
set_option maxHeartbeats 4000000
namespace Go.VK
open Go.RowKit Go.Proofs
noncomputable section
open EV (bU)
theorem bDn {F:(Int×List Int→Option (Int×List Int))→Int×List Int→Option (Int×List Int)}{n:Int}{b:List Int}(hk:0≤n∧n≤1000000000000)(hb:b.length≤34359738300)
  (hF:∀rec (n:Int) (s:List Int),0≤n→n<9223372036854775807→s.length≤34359738368→F rec (n,s)=bif decide (n>127) then rec (n/128,s++[n%128+128]) else some (n,s)):
  (bd (EV.bU FUEL F (n,b)) fun z=>gd (bJ z.2 [IntKind.u8.wrap z.1]) (some (z.2++[IntKind.u8.wrap z.1])))=some (b++uvE 5 n):=by
 have h7:(128:Int)^(5+1)=4398046511104:=by decide
 obtain⟨m,q,e1,e2,e3,e4⟩:=aZ2 hF 5 n b FUEL (by have:=gK;omega) hk.1 (by omega) (by omega) (by omega)
 have hq:q.length≤34359738368:=by
  have h1:=congrArg List.length e2
  have h2:=(aXi 5 n).2
  simp only[List.length_append,List.length_singleton] at h1;omega
 rw[e1,bd_s]
 simp only[aNr e3 (show m≤255 by omega)]
 rw[fF (s:=q) hq,e2]
theorem Rf (b:List Int)(n:Int)(h:b.length≤34359738300):rZ b n=some (nW b n):=by
 unfold rZ nW enc1
 rw[lI (by omega)]
 cases hr:dG n 0 1000000000000 with
 |false=>simp
 |true=>
  rw[Bool.not_true,cond_false,cond_true,List.nil_append]
  exact bDn (aMn hr) h (fun rec n s h0 h1 h2=>by
   show(bif decide (n>127) then gd (bJ s [IntKind.u8.wrap (orI .i64 (xV .i64 n 127) 128)]) (gd ((0:Int)≤7) (rec (aCw .i64 n 7,s++[IntKind.u8.wrap (orI .i64 (xV .i64 n 127) 128)]))) else some (n,s))=_
   rw[bI0 h0 (by omega),bLn (Int.emod_nonneg _ (by decide)) (Int.emod_lt_of_pos _ (by decide)),bMk h0,aNr (by omega) (by omega),fF (s:=s) h2,aC (show(0:Int)≤7 by decide)])
theorem aE6:∀(l s:List Int),l.foldl nW s=s++kY l
 |[],s=>by simp[kY]
 |x::l,s=>by rw[List.foldl_cons,aE6 l,uY,nW,List.append_assoc]
theorem aAl (l:List Int)(h:l.length≤5000000000):yI l=some (kY l):=by
 unfold yI
 rw[fK (l:=l) nW (fun i s=>s.length≤6*i) (fun s=>some s) (by omega) (by simp) (fun i s hi hv=>by have:=aNs l[i];simp only[nW,List.length_append];omega) (fun rec i s hi hv=>by
  simp only[bE hi,cond_true,aF hi,bd_s,aC (show s.length≤34359738300 by omega)]) (fun rec s _=>by simp only[bF,cond_false]),aE6]
 rfl
theorem G6:∀(l:List D.Entry) (s:List Int),l.foldl (fun s e=>s++aZ5 e) s=s++rQ l
 |[],s=>by simp[rQ]
 |x::l,s=>by rw[List.foldl_cons,G6 l];simp[rQ]
theorem Vf (b:D.aAD)(h:b.sz≤34359738368):tT b=some (pF b):=by
 unfold tT pF
 rw[aC h,bd_s]
 cases hb:aJ b with
 |false=>rfl
 |true=>
  have hl:=qO hb
  have hv:(rR b).length=1+4*b.Entries.length:=by simp[rR,uZ];omega
  rw[Bool.not_true,cond_false,cond_true,fK (l:=b.Entries) (fun s e=>s++aZ5 e) (fun i s=>s.length≤1+4*i) (fun s=>some s) (by omega) (by simp) (fun i s hi hv=>by simp only[aZ5,List.length_append,List.length_cons,List.length_nil];omega) (fun rec i s hi hv=>by
   have e:∀x y z w:Int,gd (bJ s [x,y,z,w]) (some (s++[x,y,z,w]))=some (s++[x,y,z,w]):=fun _ _ _ _=>aC (by unfold bJ;simp only[List.length_cons,List.length_nil];omega)
   simp only[bE hi,cond_true,aF hi,bd_s,kF,e];rfl) (fun rec s _=>by simp only[bF,cond_false]),G6,bd_s]
  rw[aC (show([(b.Entries.length:Int)]++rQ b.Entries).length≤5000000000 by show(rR b).length≤_;omega),bd_s]
  rfl
theorem aAm (a b:List Int)(h:aW a∧aW b):yJ a b=some (a==b):=by
 obtain⟨ha,hb⟩:=h
 have h1:=ha.1
 have h2:=hb.1
 unfold yJ
 rw[aC (by omega),aC (by omega),aMd,aMd,ByteArray.toList_eq,ByteArray.toList_eq,aVu,aVu]
 congr 1
 rw[Bool.eq_iff_iff,beq_iff_eq,beq_iff_eq]
 exact⟨fun h=>bytes_inj (aIm ha) (aIm hb) h,fun h=>by rw[h]⟩
theorem bMt {v:List Int}{i:Nat}(h:4*i+3<v.length):v.drop (4*i)=v[4*i]::v[4*i+1]::v[4*i+2]::v[4*i+3]::v.drop (4*(i+1)):=by
 rw[List.drop_eq_getElem_cons (show 4*i<v.length by omega),List.drop_eq_getElem_cons (show 4*i+1<v.length by omega),List.drop_eq_getElem_cons (show 4*i+1+1<v.length by omega),List.drop_eq_getElem_cons (show 4*i+1+1+1<v.length by omega)];rfl
theorem bAn {v:List Int}{k:Nat}(hv:v.length=4*k)(hk:k≤20){τ:Type}{x:τ}{F:(Nat×List D.Entry→Option (τ⊕List D.Entry))→Nat×List D.Entry→Option (τ⊕List D.Entry)}
  (hF:∀rec i s (hi:i<k) (h:4*i+3<v.length),s.length≤100→F rec (i,s)=bif decide (v[4*i+3]>1) then some (.inl x) else rec (i+1,s++[⟨v[4*i],v[4*i+1],v[4*i+2],v[4*i+3]==1⟩])) (hE:∀rec s,F rec (k,s)=some (.inr s)):
  ∀(m i n:Nat) (s:List D.Entry),i+m=k→m<n→s.length≤i→EV.bU n F (i,s)=some (bif lW (v.drop (4*i)) then .inr (s++kT (v.drop (4*i))) else .inl x)
 |0,i,n+1,s,h,_,_=>by
  have:i=k:=by omega
  subst this
  rw[iN,hE,List.drop_eq_nil_of_le (by omega)];simp[lW,kT]
 |m+1,i,n+1,s,h,hn,hs=>by
  have h4:4*i+3<v.length:=by omega
  rw[iN,hF _ i s (by omega) h4 (by omega),bMt h4]
  simp only[lW,kT]
  by_cases hg:v[4*i+3]>1
  ·rw[decide_eq_true hg,decide_eq_false (show ¬v[4*i+3]≤1 by omega)];rfl
  ·rw[decide_eq_false hg,decide_eq_true (show v[4*i+3]≤1 by omega),cond_false,Bool.true_and,bAn hv hk hF hE m (i+1) n _ (by omega) (by omega) (by simp;omega)]
   simp
theorem bAo {a:List Int}(hb:aW a)(hc:(!(xS a 0).2.2||decide ((xS a 0).1>20))=false):∃(n:Int) (q:Nat),xS a 0=(n,(q:Int),true)∧0≤n∧n≤20∧q≤a.length:=by
 simp only[Bool.or_eq_false_iff,Bool.not_eq_false',decide_eq_false_iff_not] at hc
 cases hu:xS a 0 with
 |mk n r=>
  obtain⟨e,ok⟩:=r
  rw[hu] at hc
  obtain⟨rfl,hc2⟩:=hc
  obtain⟨q,⟨_,g1,g2,g3,g4⟩,_⟩:=aXk hb hu
  exact⟨n,q,by rw[g3],g1,by simp only at hc2;omega,g4⟩
theorem bAp {a:List Int}{e c:Int}(h0:0≤c)(h1:c≤100)(h2:0≤e)(h3:e≤a.length):iL a e c=jV a c.toNat e []:=by
 unfold iL dG
 rw[decide_eq_true h0,decide_eq_true h1,decide_eq_true h2,decide_eq_true h3];rfl
theorem aX1 {v:List Int}{i j:Nat}{q:Int}(hq:q=(j:Int))(h:i+j<v.length):aL (v.drop i) q=some v[i+j]:=by
 subst hq
 rw[aF (by rw[List.length_drop];omega),List.getElem_drop]
theorem Vg (a:List Int)(hb:aW a):uC a=some (Oc a):=by
 unfold uC Oc
 rw[aC hb,bd_s,Ay,bd_s]
 cases hc:(!(xS a 0).2.2||decide ((xS a 0).1>20)) with
 |true=>rfl
 |false=>
  obtain⟨n,q,hu,h0,h1,h2⟩:=bAo hb hc
  rw[hu,cond_false,cond_false]
  dsimp only
  rw[aP (n:=4*n) (by omega) (by omega),aC hb,bd_s,bAp (by omega) (by omega) (by omega) (by omega)]
  cases hd:jV a (4*n).toNat (q:Int) [] with
  |mk v r=>
   obtain⟨e,ok⟩:=r
   dsimp only
   rw[Ay,bd_s]
   unfold bDf
   cases ok with
   |false=>rfl
   |true=>
    dsimp only
    rw[Bool.not_true,Bool.false_or,Bool.false_or]
    cases he:(e !=(a.length:Int)) with
    |true=>rfl
    |false=>
     obtain⟨t,q',⟨k1,k2,k3,k4,k5⟩,_⟩:=Oa hb _ _ _ _ _ (by omega) (by omega) hd
     rw[List.nil_append] at k1
     subst k1
     have hv:v.length=4*n.toNat:=by omega
     rw[cond_false,Bool.false_or,bAn (x:=((D.aAD.mk [],false):D.aAD×Bool)) hv (by omega) (fun rec i s hi h4 hs=>by
      have e1:decide ((i:Int)<n)=true:=decide_eq_true (by omega)
      have e2:IntKind.i64.wrap (4*(i:Int))=((4*i:Nat):Int):=by rw[aP (by omega) (by omega)];omega
      have g0:aL (v.drop (4*i)) 0=some (v[4*i]'(by omega)):=aX1 (j:=0) rfl (by omega)
      have g1:aL (v.drop (4*i)) 1=some (v[4*i+1]'(by omega)):=aX1 (j:=1) rfl (by omega)
      have g2:aL (v.drop (4*i)) 2=some (v[4*i+2]'(by omega)):=aX1 (j:=2) rfl (by omega)
      have g3:aL (v.drop (4*i)) 3=some v[4*i+3]:=aX1 (j:=3) rfl h4
      simp only[e1,e2,Int.toNat_natCast,cond_true,aC (show mF v ((4*i:Nat):Int) from⟨by omega,by omega⟩),g0,g1,g2,g3,bd_s,fF (show s.length≤34359738368 by omega)]) (fun rec s=>by
      rw[show decide (((n.toNat:Nat):Int)<n)=false from decide_eq_false (by omega)];rfl) n.toNat 0 FUEL [] (by omega) (by have:=gK;omega) (by simp)]
     simp only[Nat.mul_zero,List.drop_zero,List.nil_append]
     cases hf:lW v with
     |false=>rfl
     |true=>
      have hl:=X7 n.toNat v hv
      simp only[cond_true,nx_r]
      rw[aC (show(D.aAD.mk (kT v)).sz≤34359738368 by simp only[D.aAD.sz];omega),bd_s]
      cases aJ ⟨kT v⟩<;>rfl
theorem aV9 {a:List Int}(hb:aW a){k:Nat}(hk:k≤20){τ:Type}{x:τ}{F:(Int×Nat×List D.Entry→Option (τ⊕List D.Entry))→Int×Nat×List D.Entry→Option (τ⊕List D.Entry)}
  (hF:∀rec (q:Nat) i s (hi:i<k),q≤a.length→s.length≤100→F rec ((q:Int),i,s)=bif !(jV a 4 q []).2.2 then some (.inl x) else rec ((jV a 4 q []).2.1,i+1,s++kT (jV a 4 q []).1)) (hE:∀rec e s,F rec (e,k,s)=some (.inr s)):
  ∀(m i n q:Nat) (s:List D.Entry),i+m=k→m<n→q≤a.length→s.length≤i→EV.bU n F ((q:Int),i,s)=some (bif (jV a (4*m) q []).2.2 then .inr (s++kT (jV a (4*m) q []).1) else .inl x)
 |0,i,n+1,q,s,h,_,_,_=>by
  have:i=k:=by omega
  subst this
  rw[iN,hE];simp[jV,kT]
 |m+1,i,n+1,q,s,h,hn,hq,hs=>by
  rw[iN,hF _ q i s (by omega) hq (by omega),show 4*(m+1)=4+4*m by omega,aNt 4 (4*m)]
  cases hd:jV a 4 (q:Int) [] with
  |mk l r=>
   obtain⟨e,ok⟩:=r
   cases ok with
   |false=>rfl
   |true=>
    obtain⟨t,q',⟨k1,k2,k3,k4,k5⟩,_⟩:=Oa hb _ _ _ _ _ (by omega) (by omega) hd
    rw[List.nil_append] at k1
    subst k1;subst k3
    have hl:(kT l).length=1:=X7 1 l (by omega)
    simp only[Bool.not_true,cond_false,cond_true]
    rw[aV9 hb hk hF hE m (i+1) n q' _ (by omega) (by omega) k4 (by simp[hl];omega),aNu (4*m) (q':Int) l]
    cases(jV a (4*m) (q':Int) []).2.2 with
    |false=>rfl
    |true=>simp[aZ6 1 l _ (by omega)]
theorem four {l:List Int}(h:l.length=4):∃w x y z,l=[w,x,y,z]:=by
 match l,h with
 |[w,x,y,z],_=>exact⟨w,x,y,z,rfl⟩
theorem Vh (a:List Int)(hb:aW a):tV a=some (Oc a):=by
 unfold tV Oc
 rw[aC hb,bd_s,Ay,bd_s]
 cases hc:(!(xS a 0).2.2||decide ((xS a 0).1>20)) with
 |true=>rfl
 |false=>
  obtain⟨n,q,hu,h0,h1,h2⟩:=bAo hb hc
  rw[hu,cond_false,cond_false]
  dsimp only
  rw[aV9 (x:=((D.aAD.mk [],false):D.aAD×Bool)) hb (k:=n.toNat) (by omega) (fun rec q i s hi hq hs=>by
   have e1:decide ((i:Int)<n)=true:=decide_eq_true (by omega)
   simp only[e1,cond_true,aC hb,bd_s,bAp (a:=a) (e:=(q:Int)) (c:=4) (by omega) (by omega) (by omega) (by omega),show Int.toNat 4=4 from rfl]
   cases hd:jV a 4 (q:Int) [] with
   |mk l r=>
    obtain⟨e,ok⟩:=r
    cases ok with
    |false=>rfl
    |true=>
     obtain⟨t,q',⟨k1,k2,_⟩,_⟩:=Oa hb _ _ _ _ _ (by omega) (by omega) hd
     rw[List.nil_append] at k1
     subst k1
     obtain⟨w,x,y,z,rfl⟩:=four k2
     simp only[Bool.not_true,cond_false,show aL [w,x,y,z] 0=some w from rfl,show aL [w,x,y,z] 1=some x from rfl,show aL [w,x,y,z] 2=some y from rfl,show aL [w,x,y,z] 3=some z from rfl,bd_s,fF (show s.length≤34359738368 by omega)]
     rfl) (fun rec e s=>by
   rw[show decide (((n.toNat:Nat):Int)<n)=false from decide_eq_false (by omega)];rfl) n.toNat 0 FUEL q [] (by omega) (by have:=gK;omega) h2 (by simp)]
  rw[show(4*n).toNat=4*n.toNat by omega]
  unfold bDf
  cases hd:jV a (4*n.toNat) (q:Int) [] with
  |mk v r=>
   obtain⟨e,ok⟩:=r
   cases ok with
   |false=>rfl
   |true=>
    obtain⟨b1,b2,b3,b4⟩:=bHb hb hu h1 (show jV a (4*n).toNat (q:Int) []=(v,e,true) by rw[show(4*n).toNat=4*n.toNat by omega];exact hd)
    have hz:(D.aAD.mk (kT v)).sz≤34359738368:=by simp only[D.aAD.sz];omega
    simp only[cond_true,nx_r,List.nil_append,aC hz,bd_s,aC (show aW (pF ⟨kT v⟩)∧aW a from⟨aNx _,hb⟩),Ay]
    unfold pF
    cases hbo:aJ ⟨kT v⟩ with
    |false=>simp
    |true=>
     rw[cond_true]
     by_cases hq:kY (rR ⟨kT v⟩)=a
     ·obtain⟨c1,c2⟩:=b1.1 hq
      rw[hq,c1,c2];simp
     ·have:(e !=(a.length:Int)|| !lW v)=true:=by
       cases h3:(e !=(a.length:Int)) with
       |true=>rfl
       |false=>
        cases h4:lW v with
        |false=>rfl
        |true=>exact absurd (b1.2 ⟨by simpa using h3,h4⟩) hq
      rw[show(kY (rR ⟨kT v⟩)==a)=false by simpa using hq]
      simp only[Bool.not_true,Bool.not_false,cond_true,Bool.false_or,Bool.or_false,this]
theorem aAn (k:Int)(s:D.aAA)(h:s.Data.length≤34359738200):zA k s=some (kU k s):=by
 unfold zA kU
 rw[aC h,aC (by simp)]
 simp only[bd_s,aC (show s.Data.length≤34359738368 by omega),aC (aXe (k:=eU k [223,s.Epoch,s.Version]) (show s.Data.length≤34359738368 by omega))]
 unfold lJ
 cases dP k<;>cases dG s.Epoch 0 1000000<;>cases dG s.Version 0 1000000<;>cases(s.MAC !=iK k s)<;>rfl
theorem aAo (k:Int)(s:D.aAA)(h:s.Data.length≤34359738200):yK k s=some (kU k s):=by
 unfold yK kU
 rw[aC h,aC (show s.Data.length≤34359738368 by omega)]
 simp only[bd_s,aC (aXe (k:=lJ k s.Epoch s.Version) (show s.Data.length≤34359738368 by omega))]
 cases dP k<;>cases dG s.Epoch 0 1000000<;>cases dG s.Version 0 1000000<;>cases(s.MAC !=iK k s)<;>rfl
theorem aAp (d:D.Device)(l:List D.aAB)(bx:D.aAE)(s:D.aAA)(h:d.sz≤34359738368∧l.length≤34359738368∧bx.sz≤34359738368∧s.Data.length≤34359738200):zB d l bx s=some (gN d l bx s):=by
 obtain⟨h1,h2,h3,h4⟩:=h
 have hdl:=fE l
 have hb:d.aAD.sz≤34359738368:=by simp only[D.Device.sz,D.aAD.sz] at*;omega
 unfold zB gN Ty
 simp only[aC h1,aC h2,aC h3,aC h4,aC (show(aI l).length≤1099511627776 by omega),bd_s,Ay,bif_and,bif_or,kF]
 have ho:=aVw (dI d.Store bx).1 s
 generalize kU (dI d.Store bx).1 s=o at ho ⊢
 simp only[aC (show d.aAD.sz≤34359738368∧o.1.sz≤34359738368 from⟨hb,by omega⟩),bd_s]
 cases !cB l|| !dY l d.Log with
 |true=>rfl
 |false=>
  cases !jC (aI l) (dB d.Store) with
  |true=>rfl
  |false=>
   cases bx.Epoch !=bC l|| !(dI d.Store bx).2 with
   |true=>rfl
   |false=>
    cases decide (s.Epoch<bC l)||(decide (s.Epoch<d.Epoch)||(s.Epoch==d.Epoch&&decide (s.Version<d.Version))) with
    |true=>rfl
    |false=>cases !o.2<;>cases !(lH d.aAD o.1).2<;>rfl
theorem aAq (d:D.Device)(l:List D.aAB)(bx:D.aAE)(s:D.aAA)(h:d.sz≤34359738368∧l.length≤34359738368∧bx.sz≤34359738368∧s.Data.length≤34359738200):yL d l bx s=some (gN d l bx s):=by
 obtain⟨h1,h2,h3,h4⟩:=h
 have hdl:=fE l
 have hb:d.aAD.sz≤34359738368:=by simp only[D.Device.sz,D.aAD.sz] at*;omega
 unfold yL gN Ty
 simp only[aC h1,aC h2,aC h3,aC h4,aC (show(aI l).length≤1099511627776 by omega),bd_s,Ay,bif_and,bif_or,kF]
 have ho:=aVw (dI d.Store bx).1 s
 generalize kU (dI d.Store bx).1 s=o at ho ⊢
 simp only[aC (show d.aAD.sz≤34359738368∧o.1.sz≤34359738368 from⟨hb,by omega⟩),bd_s]
 cases !cB l|| !dY l d.Log with
 |true=>rfl
 |false=>
  cases !jC (aI l) (dB d.Store) with
  |true=>rfl
  |false=>
   cases bx.Epoch !=bC l|| !(dI d.Store bx).2 with
   |true=>rfl
   |false=>
    cases decide (s.Epoch<bC l)||(decide (s.Epoch<d.Epoch)||(s.Epoch==d.Epoch&&decide (s.Version<d.Version))) with
    |true=>rfl
    |false=>cases !o.2<;>cases !(lH d.aAD o.1).2<;>rfl
theorem aWa {c:D.aAH}(h:c.sz≤34359738100)(b:Int):c.Log.length≤34359738100∧c.Boxes.sz≤34359738100∧(iO c b).1.Data.length≤34359738100:=by
 have hz:=h
 simp only[D.aAH.sz] at h
 refine⟨by omega,by simp only[D.aAE.sz] at*;omega,?_⟩
 unfold iO
 cases e:(decide (b<0)||decide (b≥(c.History.length:Int))) with
 |true=>simp
 |false=>
  have:=(aPu (b:=b) (show c.sz≤34359738368 by omega) (aXh e)).2
  have h1:=aMc (f:=D.aAA.sz) (l:=c.History) (i:=c.History.length-1-b.toNat) (by have:=aXh e;omega)
  simp only[cond_false]
  simp only[D.aAA.sz] at h1
  omega
theorem aPv (d:D.Device)(c:D.aAH)(b:Int)(h:d.sz≤34359738100∧c.sz≤34359738100):Qa d c b=some (gN d c.Log c.Boxes (iO c b).1):=by
 obtain⟨h1,h2⟩:=h
 obtain⟨k1,k2,k3⟩:=aWa h2 b
 unfold Qa
 rw[aC (show c.sz≤34359738368 by omega),bd_s,aC ⟨by omega,by omega,by omega,by omega⟩,bd_s]
theorem aPw {w:D.World}{d:Int}(h:bH w d=true):0≤d∧d.toNat<w.Devices.length∧(bR w d).sz≤w.sz∧bR w d=w.Devices.getD d.toNat default:=by
 simp only[bH,Bool.and_eq_true,decide_eq_true_eq] at h
 have hi:d.toNat<w.Devices.length:=by omega
 have:=aMc (f:=D.Device.sz) hi
 refine⟨h.1,hi,?_,rfl⟩
 show(w.Devices.getD d.toNat default).sz≤_
 simp only[D.World.sz];omega
theorem aAr (w:D.World):w.aAH.sz≤w.sz:=by simp only[D.World.sz,D.aAH.sz,D.aAE.sz];omega
theorem aPx (w:D.World)(d b:Int)(hz:w.sz≤34359738100):Qb w d b=some (bO w d b):=by
 have hcl:=aAr w
 unfold Qb bO
 rw[aC (show w.sz≤34359738368 by omega),bd_s,aC (show w.sz≤34359738368 by omega),bd_s]
 cases hc:(dU w&&bH w d) with
 |false=>rfl
 |true=>
  have hd:=(Bool.and_eq_true_iff.1 hc).2
  obtain⟨k1,k2,k3,k4⟩:=aPw hd
  rw[Bool.not_true,cond_false,cond_true,xZ hd,bd_s,aC ⟨by omega,by omega⟩,bd_s,bd_s]
theorem aPy (w:D.World)(d b:Int)(hz:w.sz≤34359738100):Qk w d b=some (bO w d b):=by
 have hcl:=aAr w
 unfold Qk bO
 rw[aC (show w.sz≤34359738368 by omega),bd_s,aC (show w.sz≤34359738368 by omega),bd_s,Ay,bd_s,←Bool.not_and]
 cases hc:(dU w&&bH w d) with
 |false=>rfl
 |true=>
  have hd:=(Bool.and_eq_true_iff.1 hc).2
  obtain⟨k1,k2,k3,k4⟩:=aPw hd
  obtain⟨l1,l2,l3⟩:=aWa (show w.aAH.sz≤34359738100 by omega) b
  rw[Bool.not_true,cond_false,cond_true,aC (show w.aAH.sz≤34359738368 by omega),bd_s,xZ hd,bd_s,aC ⟨by omega,by omega,by omega,by omega⟩,bd_s,bd_s]
end
end Go.VK
