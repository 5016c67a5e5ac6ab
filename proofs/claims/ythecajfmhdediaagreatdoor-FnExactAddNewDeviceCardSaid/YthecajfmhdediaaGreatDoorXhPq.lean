import Derived.Test.YthecajfmhdediaaGreatDoorXhPp
import Derived.Test.YthecajfmhdediaaGreatDoorXhQ
/- Printed by wip/tools: models, walks, proofs. -/
set_option linter.unusedVariables false
set_option linter.unusedSimpArgs false
set_option maxRecDepth 100000
set_option maxHeartbeats 4000000
namespace Go.VK
open Go.RowKit Go.Proofs
noncomputable section
open EV (bX)
theorem bDr {F:(Int×List Int→Option (Int×List Int))→Int×List Int→Option (Int×List Int)}{n:Int}{b:List Int}(hk:0≤n∧n≤1000000000000)(hb:b.length≤34359738300)
  (hF:∀rec (n:Int) (s:List Int),0≤n→n<9223372036854775807→s.length≤34359738368→F rec (n,s)=bif decide (n>127) then rec (n/128,s++[n%128+128]) else some (n,s)):
  (bd (EV.bX FUEL F (n,b)) fun z=>gd (bI z.2 [IntKind.u8.wrap z.1]) (some (z.2++[IntKind.u8.wrap z.1])))=some (b++uvE 5 n):=by
 have h7:(128:Int)^(5+1)=4398046511104:=by decide
 obtain⟨m,q,e1,e2,e3,e4⟩:=aZ4 hF 5 n b FUEL (by have:=gN;omega) hk.1 (by omega) (by omega) (by omega)
 have hq:q.length≤34359738368:=by
  have h1:=congrArg List.length e2
  have h2:=(aXt 5 n).2
  simp only[List.length_append,List.length_singleton] at h1;omega
 rw[e1,bd_s]
 simp only[aOk e3 (show m≤255 by omega)]
 rw[eT (s:=q) hq,e2]
theorem Ra (b:List Int)(n:Int)(h:b.length≤34359738300):rT b n=some (nT b n):=by
 unfold rT nT enc1
 rw[kZ (by omega)]
 cases hr:dI n 0 1000000000000 with
 |false=>simp
 |true=>
  rw[Bool.not_true,cond_false,cond_true,List.nil_append]
  exact bDr (aNc hr) h (fun rec n s h0 h1 h2=>by
   show(bif decide (n>127) then gd (bI s [IntKind.u8.wrap (orI .i64 (yI .i64 n 127) 128)]) (gd ((0:Int)≤7) (rec (aDt .i64 n 7,s++[IntKind.u8.wrap (orI .i64 (yI .i64 n 127) 128)]))) else some (n,s))=_
   rw[bI7 h0 (by omega),bK7 (Int.emod_nonneg _ (by decide)) (Int.emod_lt_of_pos _ (by decide)),bLy h0,aOk (by omega) (by omega),eT (s:=s) h2,aD (show(0:Int)≤7 by decide)])
theorem aF2:∀(l s:List Int),l.foldl nT s=s++kT l
 |[],s=>by simp[kT]
 |x::l,s=>by rw[List.foldl_cons,aF2 l,uZ,nT,List.append_assoc]
theorem aA6 (l:List Int)(h:l.length≤5000000000):yX l=some (kT l):=by
 unfold yX
 rw[fJ (l:=l) nT (fun i s=>s.length≤6*i) (fun s=>some s) (by omega) (by simp) (fun i s hi hv=>by have:=aOl l[i];simp only[nT,List.length_append];omega) (fun rec i s hi hv=>by
  simp only[bH hi,cond_true,aH hi,bd_s,aD (show s.length≤34359738300 by omega)]) (fun rec s _=>by simp only[bJ,cond_false]),aF2]
 rfl
theorem H5:∀(l:List D.Entry) (s:List Int),l.foldl (fun s e=>s++aZ7 e) s=s++rH l
 |[],s=>by simp[rH]
 |x::l,s=>by rw[List.foldl_cons,H5 l];simp[rH]
theorem Ve (b:D.aAC)(h:b.sz≤34359738368):tL b=some (oV b):=by
 unfold tL oV
 rw[aD h,bd_s]
 cases hb:aK b with
 |false=>rfl
 |true=>
  have hl:=qI hb
  have hv:(rJ b).length=1+4*b.Entries.length:=by simp[rJ,vB];omega
  rw[Bool.not_true,cond_false,cond_true,fJ (l:=b.Entries) (fun s e=>s++aZ7 e) (fun i s=>s.length≤1+4*i) (fun s=>some s) (by omega) (by simp) (fun i s hi hv=>by simp only[aZ7,List.length_append,List.length_cons,List.length_nil];omega) (fun rec i s hi hv=>by
   have e:∀x y z w:Int,gd (bI s [x,y,z,w]) (some (s++[x,y,z,w]))=some (s++[x,y,z,w]):=fun _ _ _ _=>aD (by unfold bI;simp only[List.length_cons,List.length_nil];omega)
   simp only[bH hi,cond_true,aH hi,bd_s,jZ,e];rfl) (fun rec s _=>by simp only[bJ,cond_false]),H5,bd_s]
  rw[aD (show([(b.Entries.length:Int)]++rH b.Entries).length≤5000000000 by show(rJ b).length≤_;omega),bd_s]
  rfl
theorem aA7 (a b:List Int)(h:bA a∧bA b):yY a b=some (a==b):=by
 obtain⟨ha,hb⟩:=h
 have h1:=ha.1
 have h2:=hb.1
 unfold yY
 rw[aD (by omega),aD (by omega),aM4,aM4,ByteArray.toList_eq,ByteArray.toList_eq,aV6,aV6]
 congr 1
 rw[Bool.eq_iff_iff,beq_iff_eq,beq_iff_eq]
 exact⟨fun h=>bytes_inj (aJi ha) (aJi hb) h,fun h=>by rw[h]⟩
theorem bL8 {v:List Int}{i:Nat}(h:4*i+3<v.length):v.drop (4*i)=v[4*i]::v[4*i+1]::v[4*i+2]::v[4*i+3]::v.drop (4*(i+1)):=by
 rw[List.drop_eq_getElem_cons (show 4*i<v.length by omega),List.drop_eq_getElem_cons (show 4*i+1<v.length by omega),List.drop_eq_getElem_cons (show 4*i+1+1<v.length by omega),List.drop_eq_getElem_cons (show 4*i+1+1+1<v.length by omega)];rfl
theorem bAr {v:List Int}{k:Nat}(hv:v.length=4*k)(hk:k≤20){τ:Type}{x:τ}{F:(Nat×List D.Entry→Option (τ⊕List D.Entry))→Nat×List D.Entry→Option (τ⊕List D.Entry)}
  (hF:∀rec i s (hi:i<k) (h:4*i+3<v.length),s.length≤100→F rec (i,s)=bif decide (v[4*i+3]>1) then some (.inl x) else rec (i+1,s++[⟨v[4*i],v[4*i+1],v[4*i+2],v[4*i+3]==1⟩])) (hE:∀rec s,F rec (k,s)=some (.inr s)):
  ∀(m i n:Nat) (s:List D.Entry),i+m=k→m<n→s.length≤i→EV.bX n F (i,s)=some (bif lQ (v.drop (4*i)) then .inr (s++kJ (v.drop (4*i))) else .inl x)
 |0,i,n+1,s,h,_,_=>by
  have:i=k:=by omega
  subst this
  rw[iW,hE,List.drop_eq_nil_of_le (by omega)];simp[lQ,kJ]
 |m+1,i,n+1,s,h,hn,hs=>by
  have h4:4*i+3<v.length:=by omega
  rw[iW,hF _ i s (by omega) h4 (by omega),bL8 h4]
  simp only[lQ,kJ]
  by_cases hg:v[4*i+3]>1
  ·rw[decide_eq_true hg,decide_eq_false (show ¬v[4*i+3]≤1 by omega)];rfl
  ·rw[decide_eq_false hg,decide_eq_true (show v[4*i+3]≤1 by omega),cond_false,Bool.true_and,bAr hv hk hF hE m (i+1) n _ (by omega) (by omega) (by simp;omega)]
   simp
theorem bAs {a:List Int}(hb:bA a)(hc:(!(yG a 0).2.2||decide ((yG a 0).1>20))=false):∃(n:Int) (q:Nat),yG a 0=(n,(q:Int),true)∧0≤n∧n≤20∧q≤a.length:=by
 simp only[Bool.or_eq_false_iff,Bool.not_eq_false',decide_eq_false_iff_not] at hc
 cases hu:yG a 0 with
 |mk n r=>
  obtain⟨e,ok⟩:=r
  rw[hu] at hc
  obtain⟨rfl,hc2⟩:=hc
  obtain⟨q,⟨_,g1,g2,g3,g4⟩,_⟩:=aXv hb hu
  exact⟨n,q,by rw[g3],g1,by simp only at hc2;omega,g4⟩
theorem bAt {a:List Int}{e c:Int}(h0:0≤c)(h1:c≤100)(h2:0≤e)(h3:e≤a.length):iR a e c=jT a c.toNat e []:=by
 unfold iR dI
 rw[decide_eq_true h0,decide_eq_true h1,decide_eq_true h2,decide_eq_true h3];rfl
theorem aYb {v:List Int}{i j:Nat}{q:Int}(hq:q=(j:Int))(h:i+j<v.length):aP (v.drop i) q=some v[i+j]:=by
 subst hq
 rw[aH (by rw[List.length_drop];omega),List.getElem_drop]
theorem Vf (a:List Int)(hb:bA a):tZ a=some (Ny a):=by
 unfold tZ Ny
 rw[aD hb,bd_s,sS,bd_s]
 cases hc:(!(yG a 0).2.2||decide ((yG a 0).1>20)) with
 |true=>rfl
 |false=>
  obtain⟨n,q,hu,h0,h1,h2⟩:=bAs hb hc
  rw[hu,cond_false,cond_false]
  dsimp only
  rw[aR (n:=4*n) (by omega) (by omega),aD hb,bd_s,bAt (by omega) (by omega) (by omega) (by omega)]
  cases hd:jT a (4*n).toNat (q:Int) [] with
  |mk v r=>
   obtain⟨e,ok⟩:=r
   dsimp only
   rw[sS,bd_s]
   unfold bDl
   cases ok with
   |false=>rfl
   |true=>
    dsimp only
    rw[Bool.not_true,Bool.false_or,Bool.false_or]
    cases he:(e !=(a.length:Int)) with
    |true=>rfl
    |false=>
     obtain⟨t,q',⟨k1,k2,k3,k4,k5⟩,_⟩:=Nw hb _ _ _ _ _ (by omega) (by omega) hd
     rw[List.nil_append] at k1
     subst k1
     have hv:v.length=4*n.toNat:=by omega
     rw[cond_false,Bool.false_or,bAr (x:=((D.aAC.mk [],false):D.aAC×Bool)) hv (by omega) (fun rec i s hi h4 hs=>by
      have e1:decide ((i:Int)<n)=true:=decide_eq_true (by omega)
      have e2:IntKind.i64.wrap (4*(i:Int))=((4*i:Nat):Int):=by rw[aR (by omega) (by omega)];omega
      have g0:aP (v.drop (4*i)) 0=some (v[4*i]'(by omega)):=aYb (j:=0) rfl (by omega)
      have g1:aP (v.drop (4*i)) 1=some (v[4*i+1]'(by omega)):=aYb (j:=1) rfl (by omega)
      have g2:aP (v.drop (4*i)) 2=some (v[4*i+2]'(by omega)):=aYb (j:=2) rfl (by omega)
      have g3:aP (v.drop (4*i)) 3=some v[4*i+3]:=aYb (j:=3) rfl h4
      simp only[e1,e2,Int.toNat_natCast,cond_true,aD (show kC v ((4*i:Nat):Int) from⟨by omega,by omega⟩),g0,g1,g2,g3,bd_s,eT (show s.length≤34359738368 by omega)]) (fun rec s=>by
      rw[show decide (((n.toNat:Nat):Int)<n)=false from decide_eq_false (by omega)];rfl) n.toNat 0 FUEL [] (by omega) (by have:=gN;omega) (by simp)]
     simp only[Nat.mul_zero,List.drop_zero,List.nil_append]
     cases hf:lQ v with
     |false=>rfl
     |true=>
      have hl:=Z8 n.toNat v hv
      simp only[cond_true,nx_r]
      rw[aD (show(D.aAC.mk (kJ v)).sz≤34359738368 by simp only[D.aAC.sz];omega),bd_s]
      cases aK ⟨kJ v⟩<;>rfl
theorem aWn {a:List Int}(hb:bA a){k:Nat}(hk:k≤20){τ:Type}{x:τ}{F:(Int×Nat×List D.Entry→Option (τ⊕List D.Entry))→Int×Nat×List D.Entry→Option (τ⊕List D.Entry)}
  (hF:∀rec (q:Nat) i s (hi:i<k),q≤a.length→s.length≤100→F rec ((q:Int),i,s)=bif !(jT a 4 q []).2.2 then some (.inl x) else rec ((jT a 4 q []).2.1,i+1,s++kJ (jT a 4 q []).1)) (hE:∀rec e s,F rec (e,k,s)=some (.inr s)):
  ∀(m i n q:Nat) (s:List D.Entry),i+m=k→m<n→q≤a.length→s.length≤i→EV.bX n F ((q:Int),i,s)=some (bif (jT a (4*m) q []).2.2 then .inr (s++kJ (jT a (4*m) q []).1) else .inl x)
 |0,i,n+1,q,s,h,_,_,_=>by
  have:i=k:=by omega
  subst this
  rw[iW,hE];simp[jT,kJ]
 |m+1,i,n+1,q,s,h,hn,hq,hs=>by
  rw[iW,hF _ q i s (by omega) hq (by omega),show 4*(m+1)=4+4*m by omega,aOm 4 (4*m)]
  cases hd:jT a 4 (q:Int) [] with
  |mk l r=>
   obtain⟨e,ok⟩:=r
   cases ok with
   |false=>rfl
   |true=>
    obtain⟨t,q',⟨k1,k2,k3,k4,k5⟩,_⟩:=Nw hb _ _ _ _ _ (by omega) (by omega) hd
    rw[List.nil_append] at k1
    subst k1;subst k3
    have hl:(kJ l).length=1:=Z8 1 l (by omega)
    simp only[Bool.not_true,cond_false,cond_true]
    rw[aWn hb hk hF hE m (i+1) n q' _ (by omega) (by omega) k4 (by simp[hl];omega),aOn (4*m) (q':Int) l]
    cases(jT a (4*m) (q':Int) []).2.2 with
    |false=>rfl
    |true=>simp[aZ8 1 l _ (by omega)]
theorem four {l:List Int}(h:l.length=4):∃w x y z,l=[w,x,y,z]:=by
 match l,h with
 |[w,x,y,z],_=>exact⟨w,x,y,z,rfl⟩
theorem Vg (a:List Int)(hb:bA a):tN a=some (Ny a):=by
 unfold tN Ny
 rw[aD hb,bd_s,sS,bd_s]
 cases hc:(!(yG a 0).2.2||decide ((yG a 0).1>20)) with
 |true=>rfl
 |false=>
  obtain⟨n,q,hu,h0,h1,h2⟩:=bAs hb hc
  rw[hu,cond_false,cond_false]
  dsimp only
  rw[aWn (x:=((D.aAC.mk [],false):D.aAC×Bool)) hb (k:=n.toNat) (by omega) (fun rec q i s hi hq hs=>by
   have e1:decide ((i:Int)<n)=true:=decide_eq_true (by omega)
   simp only[e1,cond_true,aD hb,bd_s,bAt (a:=a) (e:=(q:Int)) (c:=4) (by omega) (by omega) (by omega) (by omega),show Int.toNat 4=4 from rfl]
   cases hd:jT a 4 (q:Int) [] with
   |mk l r=>
    obtain⟨e,ok⟩:=r
    cases ok with
    |false=>rfl
    |true=>
     obtain⟨t,q',⟨k1,k2,_⟩,_⟩:=Nw hb _ _ _ _ _ (by omega) (by omega) hd
     rw[List.nil_append] at k1
     subst k1
     obtain⟨w,x,y,z,rfl⟩:=four k2
     simp only[Bool.not_true,cond_false,show aP [w,x,y,z] 0=some w from rfl,show aP [w,x,y,z] 1=some x from rfl,show aP [w,x,y,z] 2=some y from rfl,show aP [w,x,y,z] 3=some z from rfl,bd_s,eT (show s.length≤34359738368 by omega)]
     rfl) (fun rec e s=>by
   rw[show decide (((n.toNat:Nat):Int)<n)=false from decide_eq_false (by omega)];rfl) n.toNat 0 FUEL q [] (by omega) (by have:=gN;omega) h2 (by simp)]
  rw[show(4*n).toNat=4*n.toNat by omega]
  unfold bDl
  cases hd:jT a (4*n.toNat) (q:Int) [] with
  |mk v r=>
   obtain⟨e,ok⟩:=r
   cases ok with
   |false=>rfl
   |true=>
    obtain⟨b1,b2,b3,b4⟩:=bHh hb hu h1 (show jT a (4*n).toNat (q:Int) []=(v,e,true) by rw[show(4*n).toNat=4*n.toNat by omega];exact hd)
    have hz:(D.aAC.mk (kJ v)).sz≤34359738368:=by simp only[D.aAC.sz];omega
    simp only[cond_true,nx_r,List.nil_append,aD hz,bd_s,aD (show bA (oV ⟨kJ v⟩)∧bA a from⟨aOq _,hb⟩),sS]
    unfold oV
    cases hbo:aK ⟨kJ v⟩ with
    |false=>simp
    |true=>
     rw[cond_true]
     by_cases hq:kT (rJ ⟨kJ v⟩)=a
     ·obtain⟨c1,c2⟩:=b1.1 hq
      rw[hq,c1,c2];simp
     ·have:(e !=(a.length:Int)|| !lQ v)=true:=by
       cases h3:(e !=(a.length:Int)) with
       |true=>rfl
       |false=>
        cases h4:lQ v with
        |false=>rfl
        |true=>exact absurd (b1.2 ⟨by simpa using h3,h4⟩) hq
      rw[show(kT (rJ ⟨kJ v⟩)==a)=false by simpa using hq]
      simp only[Bool.not_true,Bool.not_false,cond_true,Bool.false_or,Bool.or_false,this]
theorem aA8 (k:Int)(s:D.aAA)(h:s.Data.length≤34359738200):zQ k s=some (kK k s):=by
 unfold zQ kK
 rw[aD h,aD (by simp)]
 simp only[bd_s,aD (show s.Data.length≤34359738368 by omega),aD (aXq (k:=dD k [223,s.Epoch,s.Version]) (show s.Data.length≤34359738368 by omega))]
 unfold lC
 cases dY k<;>cases dI s.Epoch 0 1000000<;>cases dI s.Version 0 1000000<;>cases(s.MAC !=iP k s)<;>rfl
theorem aA9 (k:Int)(s:D.aAA)(h:s.Data.length≤34359738200):yZ k s=some (kK k s):=by
 unfold yZ kK
 rw[aD h,aD (show s.Data.length≤34359738368 by omega)]
 simp only[bd_s,aD (aXq (k:=lC k s.Epoch s.Version) (show s.Data.length≤34359738368 by omega))]
 cases dY k<;>cases dI s.Epoch 0 1000000<;>cases dI s.Version 0 1000000<;>cases(s.MAC !=iP k s)<;>rfl
theorem aBa (d:D.Device)(l:List D.aAB)(bx:D.aAE)(s:D.aAA)(h:d.sz≤34359738368∧l.length≤34359738368∧bx.sz≤34359738368∧s.Data.length≤34359738200):zR d l bx s=some (gU d l bx s):=by
 obtain⟨h1,h2,h3,h4⟩:=h
 have hdl:=gQ l
 have hb:d.aAC.sz≤34359738368:=by simp only[D.Device.sz,D.aAC.sz] at*;omega
 unfold zR gU Ty
 simp only[aD h1,aD h2,aD h3,aD h4,aD (show(aL l).length≤1099511627776 by omega),bd_s,sS,bif_and,bif_or,jZ]
 have ho:=aV8 (dK d.Store bx).1 s
 generalize kK (dK d.Store bx).1 s=o at ho ⊢
 simp only[aD (show d.aAC.sz≤34359738368∧o.1.sz≤34359738368 from⟨hb,by omega⟩),bd_s]
 cases !dH l|| !fM l d.Log with
 |true=>rfl
 |false=>
  cases !jW (aL l) (dV d.Store) with
  |true=>rfl
  |false=>
   cases bx.Epoch !=bR l|| !(dK d.Store bx).2 with
   |true=>rfl
   |false=>
    cases decide (s.Epoch<bR l)||(decide (s.Epoch<d.Epoch)||(s.Epoch==d.Epoch&&decide (s.Version<d.Version))) with
    |true=>rfl
    |false=>cases !o.2<;>cases !(kY d.aAC o.1).2<;>rfl
theorem aBb (d:D.Device)(l:List D.aAB)(bx:D.aAE)(s:D.aAA)(h:d.sz≤34359738368∧l.length≤34359738368∧bx.sz≤34359738368∧s.Data.length≤34359738200):zA d l bx s=some (gU d l bx s):=by
 obtain⟨h1,h2,h3,h4⟩:=h
 have hdl:=gQ l
 have hb:d.aAC.sz≤34359738368:=by simp only[D.Device.sz,D.aAC.sz] at*;omega
 unfold zA gU Ty
 simp only[aD h1,aD h2,aD h3,aD h4,aD (show(aL l).length≤1099511627776 by omega),bd_s,sS,bif_and,bif_or,jZ]
 have ho:=aV8 (dK d.Store bx).1 s
 generalize kK (dK d.Store bx).1 s=o at ho ⊢
 simp only[aD (show d.aAC.sz≤34359738368∧o.1.sz≤34359738368 from⟨hb,by omega⟩),bd_s]
 cases !dH l|| !fM l d.Log with
 |true=>rfl
 |false=>
  cases !jW (aL l) (dV d.Store) with
  |true=>rfl
  |false=>
   cases bx.Epoch !=bR l|| !(dK d.Store bx).2 with
   |true=>rfl
   |false=>
    cases decide (s.Epoch<bR l)||(decide (s.Epoch<d.Epoch)||(s.Epoch==d.Epoch&&decide (s.Version<d.Version))) with
    |true=>rfl
    |false=>cases !o.2<;>cases !(kY d.aAC o.1).2<;>rfl
theorem aWo {c:D.aAH}(h:c.sz≤34359738100)(b:Int):c.Log.length≤34359738100∧c.Boxes.sz≤34359738100∧(iX c b).1.Data.length≤34359738100:=by
 have hz:=h
 simp only[D.aAH.sz] at h
 refine⟨by omega,by simp only[D.aAE.sz] at*;omega,?_⟩
 unfold iX
 cases e:(decide (b<0)||decide (b≥(c.History.length:Int))) with
 |true=>simp
 |false=>
  have:=(aQo (b:=b) (show c.sz≤34359738368 by omega) (aXs e)).2
  have h1:=aM3 (f:=D.aAA.sz) (l:=c.History) (i:=c.History.length-1-b.toNat) (by have:=aXs e;omega)
  simp only[cond_false]
  simp only[D.aAA.sz] at h1
  omega
theorem aQp (d:D.Device)(c:D.aAH)(b:Int)(h:d.sz≤34359738100∧c.sz≤34359738100):Pw d c b=some (gU d c.Log c.Boxes (iX c b).1):=by
 obtain⟨h1,h2⟩:=h
 obtain⟨k1,k2,k3⟩:=aWo h2 b
 unfold Pw
 rw[aD (show c.sz≤34359738368 by omega),bd_s,aD ⟨by omega,by omega,by omega,by omega⟩,bd_s]
theorem aQq {w:D.World}{d:Int}(h:bK w d=true):0≤d∧d.toNat<w.Devices.length∧(dC w d).sz≤w.sz∧dC w d=w.Devices.getD d.toNat default:=by
 simp only[bK,Bool.and_eq_true,decide_eq_true_eq] at h
 have hi:d.toNat<w.Devices.length:=by omega
 have:=aM3 (f:=D.Device.sz) hi
 refine⟨h.1,hi,?_,rfl⟩
 show(w.Devices.getD d.toNat default).sz≤_
 simp only[D.World.sz];omega
theorem Rb (w:D.World):w.aAH.sz≤w.sz:=by simp only[D.World.sz,D.aAH.sz,D.aAE.sz];omega
theorem aQr (w:D.World)(d b:Int)(hz:w.sz≤34359738100):Px w d b=some (aN w d b):=by
 have hcl:=Rb w
 unfold Px aN
 rw[aD (show w.sz≤34359738368 by omega),bd_s,aD (show w.sz≤34359738368 by omega),bd_s]
 cases hc:(dN w&&bK w d) with
 |false=>rfl
 |true=>
  have hd:=(Bool.and_eq_true_iff.1 hc).2
  obtain⟨k1,k2,k3,k4⟩:=aQq hd
  rw[Bool.not_true,cond_false,cond_true,Tu hd,bd_s,aD ⟨by omega,by omega⟩,bd_s,bd_s]
theorem aQs (w:D.World)(d b:Int)(hz:w.sz≤34359738100):Qg w d b=some (aN w d b):=by
 have hcl:=Rb w
 unfold Qg aN
 rw[aD (show w.sz≤34359738368 by omega),bd_s,aD (show w.sz≤34359738368 by omega),bd_s,sS,bd_s,←Bool.not_and]
 cases hc:(dN w&&bK w d) with
 |false=>rfl
 |true=>
  have hd:=(Bool.and_eq_true_iff.1 hc).2
  obtain⟨k1,k2,k3,k4⟩:=aQq hd
  obtain⟨l1,l2,l3⟩:=aWo (show w.aAH.sz≤34359738100 by omega) b
  rw[Bool.not_true,cond_false,cond_true,aD (show w.aAH.sz≤34359738368 by omega),bd_s,Tu hd,bd_s,aD ⟨by omega,by omega,by omega,by omega⟩,bd_s,bd_s]
end
end Go.VK
