import Derived.Test.YtefkjglmpmakcaaGreatDoorXlPp
import Derived.Test.YtefkjglmpmakcaaGreatDoorXlQ
/- Printed by wip/tools: models, walks, proofs. -/
set_option linter.unusedVariables false
set_option linter.unusedSimpArgs false
set_option maxRecDepth 100000
set_option maxHeartbeats 4000000
namespace Go.VK
open Go.RowKit Go.Proofs
noncomputable section
open EV (bS)
theorem aZf {F:(Int×List Int→Option (Int×List Int))→Int×List Int→Option (Int×List Int)}{n:Int}{b:List Int}(hk:0≤n∧n≤1000000000000)(hb:b.length≤34359738300)
  (hF:∀rec (n:Int) (s:List Int),0≤n→n<9223372036854775807→s.length≤34359738368→F rec (n,s)=bif decide (n>127) then rec (n/128,s++[n%128+128]) else some (n,s)):
  (bd (EV.bS FUEL F (n,b)) fun z=>gd (bD z.2 [IntKind.u8.wrap z.1]) (some (z.2++[IntKind.u8.wrap z.1])))=some (b++uvE 5 n):=by
 have h7:(128:Int)^(5+1)=4398046511104:=by decide
 obtain⟨m,q,e1,e2,e3,e4⟩:=aVt hF 5 n b FUEL (by have:=gU;omega) hk.1 (by omega) (by omega) (by omega)
 have hq:q.length≤34359738368:=by
  have h1:=congrArg List.length e2
  have h2:=(aS7 5 n).2
  simp only[List.length_append,List.length_singleton] at h1;omega
 rw[e1,bd_s]
 simp only[aK8 e3 (show m≤255 by omega)]
 rw[gM (s:=q) hq,e2]
theorem Nr (b:List Int)(n:Int)(h:b.length≤34359738300):rC b n=some (nP b n):=by
 unfold rC nP enc1
 rw[nO (by omega)]
 cases hr:cK n 0 1000000000000 with
 |false=>simp
 |true=>
  rw[Bool.not_true,cond_false,cond_true,List.nil_append]
  exact aZf (nE hr) h (fun rec n s h0 h1 h2=>by
   show(bif decide (n>127) then gd (bD s [IntKind.u8.wrap (orI .i64 (tJ .i64 n 127) 128)]) (gd ((0:Int)≤7) (rec (Uo .i64 n 7,s++[IntKind.u8.wrap (orI .i64 (tJ .i64 n 127) 128)]))) else some (n,s))=_
   rw[bEs h0 (by omega),bHf (Int.emod_nonneg _ (by decide)) (Int.emod_lt_of_pos _ (by decide)),bIe h0,aK8 (by omega) (by omega),gM (s:=s) h2,aB (show(0:Int)≤7 by decide)])
theorem aCw:∀(l s:List Int),l.foldl nP s=s++kF l
 |[],s=>by simp[kF]
 |x::l,s=>by rw[List.foldl_cons,aCw l,uA,nP,List.append_assoc]
theorem O6 (l:List Int)(h:l.length≤5000000000):xM l=some (kF l):=by
 unfold xM
 rw[fB (l:=l) nP (fun i s=>s.length≤6*i) (fun s=>some s) (by omega) (by simp) (fun i s hi hv=>by have:=aK9 l[i];simp only[nP,List.length_append];omega) (fun rec i s hi hv=>by
  simp only[bJ hi,cond_true,aF hi,bd_s,aB (show s.length≤34359738300 by omega)]) (fun rec s _=>by simp only[bM,cond_false]),aCw]
 rfl
theorem Xc:∀(l:List D.Entry) (s:List Int),l.foldl (fun s e=>s++aVw e) s=s++qY l
 |[],s=>by simp[qY]
 |x::l,s=>by rw[List.foldl_cons,Xc l];simp[qY]
theorem Qq (b:D.aAC)(h:b.sz≤34359738368):sG b=some (oO b):=by
 unfold sG oO
 rw[aB h,bd_s]
 cases hb:aI b with
 |false=>rfl
 |true=>
  have hl:=qC hb
  have hv:(qZ b).length=1+4*b.Entries.length:=by simp[qZ,uB];omega
  rw[Bool.not_true,cond_false,cond_true,fB (l:=b.Entries) (fun s e=>s++aVw e) (fun i s=>s.length≤1+4*i) (fun s=>some s) (by omega) (by simp) (fun i s hi hv=>by simp only[aVw,List.length_append,List.length_cons,List.length_nil];omega) (fun rec i s hi hv=>by
   have e:∀x y z w:Int,gd (bD s [x,y,z,w]) (some (s++[x,y,z,w]))=some (s++[x,y,z,w]):=fun _ _ _ _=>aB (by unfold bD;simp only[List.length_cons,List.length_nil];omega)
   simp only[bJ hi,cond_true,aF hi,bd_s,jC,e];rfl) (fun rec s _=>by simp only[bM,cond_false]),Xc,bd_s]
  rw[aB (show([(b.Entries.length:Int)]++qY b.Entries).length≤5000000000 by show(qZ b).length≤_;omega),bd_s]
  rfl
theorem O7 (a b:List Int)(h:aW a∧aW b):xU a b=some (a==b):=by
 obtain⟨ha,hb⟩:=h
 have h1:=ha.1
 have h2:=hb.1
 unfold xU
 rw[aB (by omega),aB (by omega),aJt,aJt,ByteArray.toList_eq,ByteArray.toList_eq,aRm,aRm]
 congr 1
 rw[Bool.eq_iff_iff,beq_iff_eq,beq_iff_eq]
 exact⟨fun h=>bytes_inj (aF4 ha) (aF4 hb) h,fun h=>by rw[h]⟩
theorem bIm {v:List Int}{i:Nat}(h:4*i+3<v.length):v.drop (4*i)=v[4*i]::v[4*i+1]::v[4*i+2]::v[4*i+3]::v.drop (4*(i+1)):=by
 rw[List.drop_eq_getElem_cons (show 4*i<v.length by omega),List.drop_eq_getElem_cons (show 4*i+1<v.length by omega),List.drop_eq_getElem_cons (show 4*i+1+1<v.length by omega),List.drop_eq_getElem_cons (show 4*i+1+1+1<v.length by omega)];rfl
theorem aWe {v:List Int}{k:Nat}(hv:v.length=4*k)(hk:k≤20){τ:Type}{x:τ}{F:(Nat×List D.Entry→Option (τ⊕List D.Entry))→Nat×List D.Entry→Option (τ⊕List D.Entry)}
  (hF:∀rec i s (hi:i<k) (h:4*i+3<v.length),s.length≤100→F rec (i,s)=bif decide (v[4*i+3]>1) then some (.inl x) else rec (i+1,s++[⟨v[4*i],v[4*i+1],v[4*i+2],v[4*i+3]==1⟩])) (hE:∀rec s,F rec (k,s)=some (.inr s)):
  ∀(m i n:Nat) (s:List D.Entry),i+m=k→m<n→s.length≤i→EV.bS n F (i,s)=some (bif lJ (v.drop (4*i)) then .inr (s++kM (v.drop (4*i))) else .inl x)
 |0,i,n+1,s,h,_,_=>by
  have:i=k:=by omega
  subst this
  rw[jF,hE,List.drop_eq_nil_of_le (by omega)];simp[lJ,kM]
 |m+1,i,n+1,s,h,hn,hs=>by
  have h4:4*i+3<v.length:=by omega
  rw[jF,hF _ i s (by omega) h4 (by omega),bIm h4]
  simp only[lJ,kM]
  by_cases hg:v[4*i+3]>1
  ·rw[decide_eq_true hg,decide_eq_false (show ¬v[4*i+3]≤1 by omega)];rfl
  ·rw[decide_eq_false hg,decide_eq_true (show v[4*i+3]≤1 by omega),cond_false,Bool.true_and,aWe hv hk hF hE m (i+1) n _ (by omega) (by omega) (by simp;omega)]
   simp
theorem aWf {a:List Int}(hb:aW a)(hc:(!(xB a 0).2.2||decide ((xB a 0).1>20))=false):∃(n:Int) (q:Nat),xB a 0=(n,(q:Int),true)∧0≤n∧n≤20∧q≤a.length:=by
 simp only[Bool.or_eq_false_iff,Bool.not_eq_false',decide_eq_false_iff_not] at hc
 cases hu:xB a 0 with
 |mk n r=>
  obtain⟨e,ok⟩:=r
  rw[hu] at hc
  obtain⟨rfl,hc2⟩:=hc
  obtain⟨q,⟨_,g1,g2,g3,g4⟩,_⟩:=aS9 hb hu
  exact⟨n,q,by rw[g3],g1,by simp only at hc2;omega,g4⟩
theorem aWg {a:List Int}{e c:Int}(h0:0≤c)(h1:c≤100)(h2:0≤e)(h3:e≤a.length):iG a e c=jQ a c.toNat e []:=by
 unfold iG cK
 rw[decide_eq_true h0,decide_eq_true h1,decide_eq_true h2,decide_eq_true h3];rfl
theorem aTr {v:List Int}{i j:Nat}{q:Int}(hq:q=(j:Int))(h:i+j<v.length):aT (v.drop i) q=some v[i+j]:=by
 subst hq
 rw[aF (by rw[List.length_drop];omega),List.getElem_drop]
theorem Qr (a:List Int)(hb:aW a):sO a=some (Kw a):=by
 unfold sO Kw
 rw[aB hb,bd_s,Ai,bd_s]
 cases hc:(!(xB a 0).2.2||decide ((xB a 0).1>20)) with
 |true=>rfl
 |false=>
  obtain⟨n,q,hu,h0,h1,h2⟩:=aWf hb hc
  rw[hu,cond_false,cond_false]
  dsimp only
  rw[aK (n:=4*n) (by omega) (by omega),aB hb,bd_s,aWg (by omega) (by omega) (by omega) (by omega)]
  cases hd:jQ a (4*n).toNat (q:Int) [] with
  |mk v r=>
   obtain⟨e,ok⟩:=r
   dsimp only
   rw[Ai,bd_s]
   unfold aY9
   cases ok with
   |false=>rfl
   |true=>
    dsimp only
    rw[Bool.not_true,Bool.false_or,Bool.false_or]
    cases he:(e !=(a.length:Int)) with
    |true=>rfl
    |false=>
     obtain⟨t,q',⟨k1,k2,k3,k4,k5⟩,_⟩:=Kv hb _ _ _ _ _ (by omega) (by omega) hd
     rw[List.nil_append] at k1
     subst k1
     have hv:v.length=4*n.toNat:=by omega
     rw[cond_false,Bool.false_or,aWe (x:=((D.aAC.mk [],false):D.aAC×Bool)) hv (by omega) (fun rec i s hi h4 hs=>by
      have e1:decide ((i:Int)<n)=true:=decide_eq_true (by omega)
      have e2:IntKind.i64.wrap (4*(i:Int))=((4*i:Nat):Int):=by rw[aK (by omega) (by omega)];omega
      have g0:aT (v.drop (4*i)) 0=some (v[4*i]'(by omega)):=aTr (j:=0) rfl (by omega)
      have g1:aT (v.drop (4*i)) 1=some (v[4*i+1]'(by omega)):=aTr (j:=1) rfl (by omega)
      have g2:aT (v.drop (4*i)) 2=some (v[4*i+2]'(by omega)):=aTr (j:=2) rfl (by omega)
      have g3:aT (v.drop (4*i)) 3=some v[4*i+3]:=aTr (j:=3) rfl h4
      simp only[e1,e2,Int.toNat_natCast,cond_true,aB (show jN v ((4*i:Nat):Int) from⟨by omega,by omega⟩),g0,g1,g2,g3,bd_s,gM (show s.length≤34359738368 by omega)]) (fun rec s=>by
      rw[show decide (((n.toNat:Nat):Int)<n)=false from decide_eq_false (by omega)];rfl) n.toNat 0 FUEL [] (by omega) (by have:=gU;omega) (by simp)]
     simp only[Nat.mul_zero,List.drop_zero,List.nil_append]
     cases hf:lJ v with
     |false=>rfl
     |true=>
      have hl:=J8 n.toNat v hv
      simp only[cond_true,nx_r]
      rw[aB (show(D.aAC.mk (kM v)).sz≤34359738368 by simp only[D.aAC.sz];omega),bd_s]
      cases aI ⟨kM v⟩<;>rfl
theorem aRz {a:List Int}(hb:aW a){k:Nat}(hk:k≤20){τ:Type}{x:τ}{F:(Int×Nat×List D.Entry→Option (τ⊕List D.Entry))→Int×Nat×List D.Entry→Option (τ⊕List D.Entry)}
  (hF:∀rec (q:Nat) i s (hi:i<k),q≤a.length→s.length≤100→F rec ((q:Int),i,s)=bif !(jQ a 4 q []).2.2 then some (.inl x) else rec ((jQ a 4 q []).2.1,i+1,s++kM (jQ a 4 q []).1)) (hE:∀rec e s,F rec (e,k,s)=some (.inr s)):
  ∀(m i n q:Nat) (s:List D.Entry),i+m=k→m<n→q≤a.length→s.length≤i→EV.bS n F ((q:Int),i,s)=some (bif (jQ a (4*m) q []).2.2 then .inr (s++kM (jQ a (4*m) q []).1) else .inl x)
 |0,i,n+1,q,s,h,_,_,_=>by
  have:i=k:=by omega
  subst this
  rw[jF,hE];simp[jQ,kM]
 |m+1,i,n+1,q,s,h,hn,hq,hs=>by
  rw[jF,hF _ q i s (by omega) hq (by omega),show 4*(m+1)=4+4*m by omega,aLa 4 (4*m)]
  cases hd:jQ a 4 (q:Int) [] with
  |mk l r=>
   obtain⟨e,ok⟩:=r
   cases ok with
   |false=>rfl
   |true=>
    obtain⟨t,q',⟨k1,k2,k3,k4,k5⟩,_⟩:=Kv hb _ _ _ _ _ (by omega) (by omega) hd
    rw[List.nil_append] at k1
    subst k1;subst k3
    have hl:(kM l).length=1:=J8 1 l (by omega)
    simp only[Bool.not_true,cond_false,cond_true]
    rw[aRz hb hk hF hE m (i+1) n q' _ (by omega) (by omega) k4 (by simp[hl];omega),aLb (4*m) (q':Int) l]
    cases(jQ a (4*m) (q':Int) []).2.2 with
    |false=>rfl
    |true=>simp[aVx 1 l _ (by omega)]
theorem four {l:List Int}(h:l.length=4):∃w x y z,l=[w,x,y,z]:=by
 match l,h with
 |[w,x,y,z],_=>exact⟨w,x,y,z,rfl⟩
theorem Qs (a:List Int)(hb:aW a):sH a=some (Kw a):=by
 unfold sH Kw
 rw[aB hb,bd_s,Ai,bd_s]
 cases hc:(!(xB a 0).2.2||decide ((xB a 0).1>20)) with
 |true=>rfl
 |false=>
  obtain⟨n,q,hu,h0,h1,h2⟩:=aWf hb hc
  rw[hu,cond_false,cond_false]
  dsimp only
  rw[aRz (x:=((D.aAC.mk [],false):D.aAC×Bool)) hb (k:=n.toNat) (by omega) (fun rec q i s hi hq hs=>by
   have e1:decide ((i:Int)<n)=true:=decide_eq_true (by omega)
   simp only[e1,cond_true,aB hb,bd_s,aWg (a:=a) (e:=(q:Int)) (c:=4) (by omega) (by omega) (by omega) (by omega),show Int.toNat 4=4 from rfl]
   cases hd:jQ a 4 (q:Int) [] with
   |mk l r=>
    obtain⟨e,ok⟩:=r
    cases ok with
    |false=>rfl
    |true=>
     obtain⟨t,q',⟨k1,k2,_⟩,_⟩:=Kv hb _ _ _ _ _ (by omega) (by omega) hd
     rw[List.nil_append] at k1
     subst k1
     obtain⟨w,x,y,z,rfl⟩:=four k2
     simp only[Bool.not_true,cond_false,show aT [w,x,y,z] 0=some w from rfl,show aT [w,x,y,z] 1=some x from rfl,show aT [w,x,y,z] 2=some y from rfl,show aT [w,x,y,z] 3=some z from rfl,bd_s,gM (show s.length≤34359738368 by omega)]
     rfl) (fun rec e s=>by
   rw[show decide (((n.toNat:Nat):Int)<n)=false from decide_eq_false (by omega)];rfl) n.toNat 0 FUEL q [] (by omega) (by have:=gU;omega) h2 (by simp)]
  rw[show(4*n).toNat=4*n.toNat by omega]
  unfold aY9
  cases hd:jQ a (4*n.toNat) (q:Int) [] with
  |mk v r=>
   obtain⟨e,ok⟩:=r
   cases ok with
   |false=>rfl
   |true=>
    obtain⟨b1,b2,b3,b4⟩:=bC6 hb hu h1 (show jQ a (4*n).toNat (q:Int) []=(v,e,true) by rw[show(4*n).toNat=4*n.toNat by omega];exact hd)
    have hz:(D.aAC.mk (kM v)).sz≤34359738368:=by simp only[D.aAC.sz];omega
    simp only[cond_true,nx_r,List.nil_append,aB hz,bd_s,aB (show aW (oO ⟨kM v⟩)∧aW a from⟨aLe _,hb⟩),Ai]
    unfold oO
    cases hbo:aI ⟨kM v⟩ with
    |false=>simp
    |true=>
     rw[cond_true]
     by_cases hq:kF (qZ ⟨kM v⟩)=a
     ·obtain⟨c1,c2⟩:=b1.1 hq
      rw[hq,c1,c2];simp
     ·have:(e !=(a.length:Int)|| !lJ v)=true:=by
       cases h3:(e !=(a.length:Int)) with
       |true=>rfl
       |false=>
        cases h4:lJ v with
        |false=>rfl
        |true=>exact absurd (b1.2 ⟨by simpa using h3,h4⟩) hq
      rw[show(kF (qZ ⟨kM v⟩)==a)=false by simpa using hq]
      simp only[Bool.not_true,Bool.not_false,cond_true,Bool.false_or,Bool.or_false,this]
theorem O8 (k:Int)(s:D.aAA)(h:s.Data.length≤34359738200):yL k s=some (kN k s):=by
 unfold yL kN
 rw[aB h,aB (by simp)]
 simp only[bd_s,aB (show s.Data.length≤34359738368 by omega),aB (aS4 (k:=aY k [223,s.Epoch,s.Version]) (show s.Data.length≤34359738368 by omega))]
 unfold kY
 cases dG k<;>cases cK s.Epoch 0 1000000<;>cases cK s.Version 0 1000000<;>cases(s.MAC !=iF k s)<;>rfl
theorem O9 (k:Int)(s:D.aAA)(h:s.Data.length≤34359738200):xV k s=some (kN k s):=by
 unfold xV kN
 rw[aB h,aB (show s.Data.length≤34359738368 by omega)]
 simp only[bd_s,aB (aS4 (k:=kY k s.Epoch s.Version) (show s.Data.length≤34359738368 by omega))]
 cases dG k<;>cases cK s.Epoch 0 1000000<;>cases cK s.Version 0 1000000<;>cases(s.MAC !=iF k s)<;>rfl
theorem P5 (d:D.Device)(l:List D.aAB)(bx:D.aAD)(s:D.aAA)(h:d.sz≤34359738368∧l.length≤34359738368∧bx.sz≤34359738368∧s.Data.length≤34359738200):yM d l bx s=some (eP d l bx s):=by
 obtain⟨h1,h2,h3,h4⟩:=h
 have hdl:=gN l
 have hb:d.aAC.sz≤34359738368:=by simp only[D.Device.sz,D.aAC.sz] at*;omega
 unfold yM eP tT
 simp only[aB h1,aB h2,aB h3,aB h4,aB (show(aJ l).length≤1099511627776 by omega),bd_s,Ai,bif_and,bif_or,jC]
 have ho:=aRo (dD d.Store bx).1 s
 generalize kN (dD d.Store bx).1 s=o at ho ⊢
 simp only[aB (show d.aAC.sz≤34359738368∧o.1.sz≤34359738368 from⟨hb,by omega⟩),bd_s]
 cases !cO l|| !fJ l d.Log with
 |true=>rfl
 |false=>
  cases !jP (aJ l) (dY d.Store) with
  |true=>rfl
  |false=>
   cases bx.Epoch !=bC l|| !(dD d.Store bx).2 with
   |true=>rfl
   |false=>
    cases decide (s.Epoch<bC l)||(decide (s.Epoch<d.Epoch)||(s.Epoch==d.Epoch&&decide (s.Version<d.Version))) with
    |true=>rfl
    |false=>cases !o.2<;>cases !(kX d.aAC o.1).2<;>rfl
theorem P6 (d:D.Device)(l:List D.aAB)(bx:D.aAD)(s:D.aAA)(h:d.sz≤34359738368∧l.length≤34359738368∧bx.sz≤34359738368∧s.Data.length≤34359738200):xW d l bx s=some (eP d l bx s):=by
 obtain⟨h1,h2,h3,h4⟩:=h
 have hdl:=gN l
 have hb:d.aAC.sz≤34359738368:=by simp only[D.Device.sz,D.aAC.sz] at*;omega
 unfold xW eP tT
 simp only[aB h1,aB h2,aB h3,aB h4,aB (show(aJ l).length≤1099511627776 by omega),bd_s,Ai,bif_and,bif_or,jC]
 have ho:=aRo (dD d.Store bx).1 s
 generalize kN (dD d.Store bx).1 s=o at ho ⊢
 simp only[aB (show d.aAC.sz≤34359738368∧o.1.sz≤34359738368 from⟨hb,by omega⟩),bd_s]
 cases !cO l|| !fJ l d.Log with
 |true=>rfl
 |false=>
  cases !jP (aJ l) (dY d.Store) with
  |true=>rfl
  |false=>
   cases bx.Epoch !=bC l|| !(dD d.Store bx).2 with
   |true=>rfl
   |false=>
    cases decide (s.Epoch<bC l)||(decide (s.Epoch<d.Epoch)||(s.Epoch==d.Epoch&&decide (s.Version<d.Version))) with
    |true=>rfl
    |false=>cases !o.2<;>cases !(kX d.aAC o.1).2<;>rfl
theorem bA6 {c:D.aAJ}(h:c.sz≤34359738100)(b:Int):c.Log.length≤34359738100∧c.Boxes.sz≤34359738100∧(qB c b).1.Data.length≤34359738100:=by
 have hz:=h
 simp only[D.aAJ.sz] at h
 refine⟨by omega,by simp only[D.aAD.sz] at*;omega,?_⟩
 unfold qB
 cases e:(decide (b<0)||decide (b≥(c.History.length:Int))) with
 |true=>simp
 |false=>
  have:=(aWc (b:=b) (show c.sz≤34359738368 by omega) (aXi e)).2
  have h1:=aS6 (f:=D.aAA.sz) (l:=c.History) (i:=c.History.length-1-b.toNat) (by have:=aXi e;omega)
  simp only[cond_false]
  simp only[D.aAA.sz] at h1
  omega
theorem aMz (d:D.Device)(c:D.aAJ)(b:Int)(h:d.sz≤34359738100∧c.sz≤34359738100):Mh d c b=some (eP d c.Log c.Boxes (qB c b).1):=by
 obtain⟨h1,h2⟩:=h
 obtain⟨k1,k2,k3⟩:=bA6 h2 b
 unfold Mh
 rw[aB (show c.sz≤34359738368 by omega),bd_s,aB ⟨by omega,by omega,by omega,by omega⟩,bd_s]
end
end Go.VK
