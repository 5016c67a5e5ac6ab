import Derived.Test.YtaaefkcjgkpckaaGreatDoorXoPp
import Derived.Test.YtaaefkcjgkpckaaGreatDoorXoM
/- Printed by wip/tools: models, walks, proofs. -/
set_option linter.unusedVariables false
set_option linter.unusedSimpArgs false
set_option maxRecDepth 100000
set_option maxHeartbeats 4000000
namespace Go.VK
open Go.RowKit Go.Proofs
noncomputable section
open EV (dL)
theorem bD6 {F:(Int×List Int→Option (Int×List Int))→Int×List Int→Option (Int×List Int)}{n:Int}{b:List Int}(hk:0≤n∧n≤1000000000000)(hb:b.length≤34359738300)
  (hF:∀rec (n:Int) (s:List Int),0≤n→n<9223372036854775807→s.length≤34359738368→F rec (n,s)=bif decide (n>127) then rec (n/128,s++[n%128+128]) else some (n,s)):
  (bd (EV.dL FUEL F (n,b)) fun z=>gd (aX z.2 [IntKind.u8.wrap z.1]) (some (z.2++[IntKind.u8.wrap z.1])))=some (b++J6 5 n):=by
 have h7:(128:Int)^(5+1)=4398046511104:=by decide
 obtain⟨m,q,e1,e2,e3,e4⟩:=aP6 hF 5 n b FUEL (by have:=jF;omega) hk.1 (by omega) (by omega) (by omega)
 have hq:q.length≤34359738368:=by
  have h1:=congrArg List.length e2
  have h2:=(aNt 5 n).2
  simp only[List.length_append,List.length_singleton] at h1;omega
 rw[e1,bd_s]
 simp only[aP7 e3 (show m≤255 by omega)]
 rw[iC (s:=q) hq,e2]
theorem Ll (b:List Int)(n:Int)(h:b.length≤34359738300):rW b n=some (Jn b n):=by
 unfold rW Jn enc1
 rw[lM (by omega)]
 cases hr:bR n 0 1000000000000 with
 |false=>simp
 |true=>
  rw[Bool.not_true,cond_false,cond_true,List.nil_append]
  exact bD6 (gW hr) h (fun rec n s h0 h1 h2=>by
   show(bif decide (n>127) then gd (aX s [IntKind.u8.wrap (orI .i64 (uH .i64 n 127) 128)]) (gd ((0:Int)≤7) (rec (Rt .i64 n 7,s++[IntKind.u8.wrap (orI .i64 (uH .i64 n 127) 128)]))) else some (n,s))=_
   rw[bDh h0 (by omega),bGj (Int.emod_nonneg _ (by decide)) (Int.emod_lt_of_pos _ (by decide)),bH1 h0,aP7 (by omega) (by omega),iC (s:=s) h2,aG (show(0:Int)≤7 by decide)])
theorem aMl:∀(l s:List Int),l.foldl Jn s=s++gV l
 |[],s=>by simp[gV]
 |x::l,s=>by rw[List.foldl_cons,aMl l,qU,Jn,List.append_assoc]
theorem Zl (l:List Int)(h:l.length≤5000000000):yB l=some (gV l):=by
 unfold yB
 rw[gY (l:=l) Jn (fun i s=>s.length≤6*i) (fun s=>some s) (by omega) (by simp) (fun i s hi hv=>by have:=Yg l[i];simp only[Jn,List.length_append];omega) (fun rec i s hi hv=>by
  simp only[dZ hi,cond_true,aR hi,bd_s,aG (show s.length≤34359738300 by omega)]) (fun rec s _=>by simp only[eD,cond_false]),aMl]
 rfl
theorem aHl:∀(l:List D.Entry) (s:List Int),l.foldl (fun s e=>s++aP9 e) s=s++jA l
 |[],s=>by simp[jA]
 |x::l,s=>by rw[List.foldl_cons,aHl l];simp[jA]
theorem Pk (b:D.aAE)(h:b.sz≤34359738368):tO b=some (nT b):=by
 unfold tO nT
 rw[aG h,bd_s]
 cases hb:aP b with
 |false=>rfl
 |true=>
  have hl:=nH hb
  have hv:(pU b).length=1+4*b.Entries.length:=by simp[pU,uX];omega
  rw[Bool.not_true,cond_false,cond_true,gY (l:=b.Entries) (fun s e=>s++aP9 e) (fun i s=>s.length≤1+4*i) (fun s=>some s) (by omega) (by simp) (fun i s hi hv=>by simp only[aP9,List.length_append,List.length_cons,List.length_nil];omega) (fun rec i s hi hv=>by
   have e:∀x y z w:Int,gd (aX s [x,y,z,w]) (some (s++[x,y,z,w]))=some (s++[x,y,z,w]):=fun _ _ _ _=>aG (by unfold aX;simp only[List.length_cons,List.length_nil];omega)
   simp only[dZ hi,cond_true,aR hi,bd_s,nA,e];rfl) (fun rec s _=>by simp only[eD,cond_false]),aHl,bd_s]
  rw[aG (show([(b.Entries.length:Int)]++jA b.Entries).length≤5000000000 by show(pU b).length≤_;omega),bd_s]
  rfl
theorem Zm (a b:List Int)(h:bF a∧bF b):yI a b=some (a==b):=by
 obtain⟨ha,hb⟩:=h
 have h1:=ha.1
 have h2:=hb.1
 unfold yI
 rw[aG (by omega),aG (by omega),aDv,aDv,ByteArray.toList_eq,ByteArray.toList_eq,aLt,aLt]
 congr 1
 rw[Bool.eq_iff_iff,beq_iff_eq,beq_iff_eq]
 exact⟨fun h=>bytes_inj (Jo ha) (Jo hb) h,fun h=>by rw[h]⟩
theorem bBz {a:List Int}(hb:bF a)(hc:(!(zM a 0).2.2||decide ((zM a 0).1>20))=false):∃(n:Int) (q:Nat),zM a 0=(n,(q:Int),true)∧0≤n∧n≤20∧q≤a.length:=by
 simp only[Bool.or_eq_false_iff,Bool.not_eq_false',decide_eq_false_iff_not] at hc
 cases hu:zM a 0 with
 |mk n r=>
  obtain⟨e,ok⟩:=r
  rw[hu] at hc
  obtain⟨rfl,hc2⟩:=hc
  obtain⟨q,⟨_,g1,g2,g3,g4⟩,_⟩:=aNu hb hu
  exact⟨n,q,by rw[g3],g1,by simp only at hc2;omega,g4⟩
theorem bB0 {a:List Int}{e c:Int}(h0:0≤c)(h1:c≤100)(h2:0≤e)(h3:e≤a.length):lD a e c=jR a c.toNat e []:=by
 unfold lD bR
 rw[decide_eq_true h0,decide_eq_true h1,decide_eq_true h2,decide_eq_true h3];rfl
theorem aMm {a:List Int}(hb:bF a){k:Nat}(hk:k≤20){τ:Type}{x:τ}{F:(Int×Nat×List D.Entry→Option (τ⊕List D.Entry))→Int×Nat×List D.Entry→Option (τ⊕List D.Entry)}
  (hF:∀rec (q:Nat) i s (hi:i<k),q≤a.length→s.length≤100→F rec ((q:Int),i,s)=bif !(jR a 4 q []).2.2 then some (.inl x) else rec ((jR a 4 q []).2.1,i+1,s++lS (jR a 4 q []).1)) (hE:∀rec e s,F rec (e,k,s)=some (.inr s)):
  ∀(m i n q:Nat) (s:List D.Entry),i+m=k→m<n→q≤a.length→s.length≤i→EV.dL n F ((q:Int),i,s)=some (bif (jR a (4*m) q []).2.2 then .inr (s++lS (jR a (4*m) q []).1) else .inl x)
 |0,i,n+1,q,s,h,_,_,_=>by
  have:i=k:=by omega
  subst this
  rw[jY,hE];simp[jR,lS]
 |m+1,i,n+1,q,s,h,hn,hq,hs=>by
  rw[jY,hF _ q i s (by omega) hq (by omega),show 4*(m+1)=4+4*m by omega,aFh 4 (4*m)]
  cases hd:jR a 4 (q:Int) [] with
  |mk l r=>
   obtain⟨e,ok⟩:=r
   cases ok with
   |false=>rfl
   |true=>
    obtain⟨t,q',⟨k1,k2,k3,k4,k5⟩,_⟩:=Yi hb _ _ _ _ _ (by omega) (by omega) hd
    rw[List.nil_append] at k1
    subst k1;subst k3
    have hl:(lS l).length=1:=aFj 1 l (by omega)
    simp only[Bool.not_true,cond_false,cond_true]
    rw[aMm hb hk hF hE m (i+1) n q' _ (by omega) (by omega) k4 (by simp[hl];omega),aFi (4*m) (q':Int) l]
    cases(jR a (4*m) (q':Int) []).2.2 with
    |false=>rfl
    |true=>simp[aQa 1 l _ (by omega)]
theorem four {l:List Int}(h:l.length=4):∃w x y z,l=[w,x,y,z]:=by
 match l,h with
 |[w,x,y,z],_=>exact⟨w,x,y,z,rfl⟩
theorem Pm (a:List Int)(hb:bF a):tQ a=some (Qv a):=by
 unfold tQ Qv
 rw[aG hb,bd_s,aFe,bd_s]
 cases hc:(!(zM a 0).2.2||decide ((zM a 0).1>20)) with
 |true=>rfl
 |false=>
  obtain⟨n,q,hu,h0,h1,h2⟩:=bBz hb hc
  rw[hu,cond_false,cond_false]
  dsimp only
  rw[aMm (x:=((D.aAE.mk [],false):D.aAE×Bool)) hb (k:=n.toNat) (by omega) (fun rec q i s hi hq hs=>by
   have e1:decide ((i:Int)<n)=true:=decide_eq_true (by omega)
   simp only[e1,cond_true,aG hb,bd_s,bB0 (a:=a) (e:=(q:Int)) (c:=4) (by omega) (by omega) (by omega) (by omega),show Int.toNat 4=4 from rfl]
   cases hd:jR a 4 (q:Int) [] with
   |mk l r=>
    obtain⟨e,ok⟩:=r
    cases ok with
    |false=>rfl
    |true=>
     obtain⟨t,q',⟨k1,k2,_⟩,_⟩:=Yi hb _ _ _ _ _ (by omega) (by omega) hd
     rw[List.nil_append] at k1
     subst k1
     obtain⟨w,x,y,z,rfl⟩:=four k2
     simp only[Bool.not_true,cond_false,show bT [w,x,y,z] 0=some w from rfl,show bT [w,x,y,z] 1=some x from rfl,show bT [w,x,y,z] 2=some y from rfl,show bT [w,x,y,z] 3=some z from rfl,bd_s,iC (show s.length≤34359738368 by omega)]
     rfl) (fun rec e s=>by
   rw[show decide (((n.toNat:Nat):Int)<n)=false from decide_eq_false (by omega)];rfl) n.toNat 0 FUEL q [] (by omega) (by have:=jF;omega) h2 (by simp)]
  rw[show(4*n).toNat=4*n.toNat by omega]
  unfold aU8
  cases hd:jR a (4*n.toNat) (q:Int) [] with
  |mk v r=>
   obtain⟨e,ok⟩:=r
   cases ok with
   |false=>rfl
   |true=>
    obtain⟨b1,b2,b3,b4⟩:=bAt hb hu h1 (show jR a (4*n).toNat (q:Int) []=(v,e,true) by rw[show(4*n).toNat=4*n.toNat by omega];exact hd)
    have hz:(D.aAE.mk (lS v)).sz≤34359738368:=by simp only[D.aAE.sz];omega
    simp only[cond_true,nx_r,List.nil_append,aG hz,bd_s,aG (show bF (nT ⟨lS v⟩)∧bF a from⟨aFl _,hb⟩),aFe]
    unfold nT
    cases hbo:aP ⟨lS v⟩ with
    |false=>simp
    |true=>
     rw[cond_true]
     by_cases hq:gV (pU ⟨lS v⟩)=a
     ·obtain⟨c1,c2⟩:=b1.1 hq
      rw[hq,c1,c2];simp
     ·have:(e !=(a.length:Int)|| !nC v)=true:=by
       cases h3:(e !=(a.length:Int)) with
       |true=>rfl
       |false=>
        cases h4:nC v with
        |false=>rfl
        |true=>exact absurd (b1.2 ⟨by simpa using h3,h4⟩) hq
      rw[show(gV (pU ⟨lS v⟩)==a)=false by simpa using hq]
      simp only[Bool.not_true,Bool.not_false,cond_true,Bool.false_or,Bool.or_false,this]
theorem Zn (k:Int)(s:D.aAC)(h:s.Data.length≤34359738200):yJ k s=some (iO k s):=by
 unfold yJ iO
 rw[aG h,aG (show s.Data.length≤34359738368 by omega)]
 simp only[bd_s,aG (aUw (k:=lQ k s.Epoch s.Version) (show s.Data.length≤34359738368 by omega))]
 cases bE k<;>cases bR s.Epoch 0 1000000<;>cases bR s.Version 0 1000000<;>cases(s.MAC !=lN k s)<;>rfl
theorem Zo (d:D.Device)(l:List D.aAA)(bx:D.aAG)(s:D.aAC)(h:d.sz≤34359738368∧l.length≤34359738368∧bx.sz≤34359738368∧s.Data.length≤34359738200):yK d l bx s=some (cK d l bx s):=by
 obtain⟨h1,h2,h3,h4⟩:=h
 have hdl:=iJ l
 have hb:d.aAE.sz≤34359738368:=by simp only[D.Device.sz,D.aAE.sz] at*;omega
 unfold yK cK jL
 simp only[aG h1,aG h2,aG h3,aG h4,aG (show(aB l).length≤1099511627776 by omega),bd_s,aFe,bif_and,bif_or,nA]
 have ho:=aW8 (bW d.Store bx).1 s
 generalize iO (bW d.Store bx).1 s=o at ho ⊢
 simp only[aG (show d.aAE.sz≤34359738368∧o.1.sz≤34359738368 from⟨hb,by omega⟩),bd_s]
 cases !aT l|| !cO l d.Log with
 |true=>rfl
 |false=>
  cases !gP (aB l) (aN d.Store) with
  |true=>rfl
  |false=>
   cases bx.Epoch !=aD l|| !(bW d.Store bx).2 with
   |true=>rfl
   |false=>
    cases decide (s.Epoch<aD l)||(decide (s.Epoch<d.Epoch)||(s.Epoch==d.Epoch&&decide (s.Version<d.Version))) with
    |true=>rfl
    |false=>cases !o.2<;>cases !(iB d.aAE o.1).2<;>rfl
theorem aYa {c:D.aAB}(h:c.sz≤34359738100)(b:Int):c.Log.length≤34359738100∧c.Boxes.sz≤34359738100∧(fG c b).1.Data.length≤34359738100:=by
 have hz:=h
 simp only[D.aAB.sz] at h
 refine⟨by omega,by simp only[D.aAG.sz] at*;omega,?_⟩
 unfold fG
 cases e:(decide (b<0)||decide (b≥(c.History.length:Int))) with
 |true=>simp
 |false=>
  have:=(aRe (b:=b) (show c.sz≤34359738368 by omega) (aSs e)).2
  have h1:=Nw (f:=D.aAC.sz) (l:=c.History) (i:=c.History.length-1-b.toNat) (by have:=aSs e;omega)
  simp only[cond_false]
  simp only[D.aAC.sz] at h1
  omega
theorem aHm (d:D.Device)(c:D.aAB)(b:Int)(h:d.sz≤34359738100∧c.sz≤34359738100):Kw d c b=some (cK d c.Log c.Boxes (fG c b).1):=by
 obtain⟨h1,h2⟩:=h
 obtain⟨k1,k2,k3⟩:=aYa h2 b
 unfold Kw
 rw[aG (show c.sz≤34359738368 by omega),bd_s,aG ⟨by omega,by omega,by omega,by omega⟩,bd_s]
theorem aTl {w:D.World}{d:Int}(h:aQ w d=true):0≤d∧d.toNat<w.Devices.length∧(aF w d).sz≤w.sz∧aF w d=w.Devices.getD d.toNat default:=by
 simp only[aQ,Bool.and_eq_true,decide_eq_true_eq] at h
 have hi:d.toNat<w.Devices.length:=by omega
 have:=Nw (f:=D.Device.sz) hi
 refine⟨h.1,hi,?_,rfl⟩
 show(w.Devices.getD d.toNat default).sz≤_
 simp only[D.World.sz];omega
theorem aRf (w:D.World):w.aAB.sz≤w.sz:=by simp only[D.World.sz,D.aAB.sz,D.aAG.sz];omega
theorem aHn (w:D.World)(d b:Int)(hz:w.sz≤34359738100):Lj w d b=some (aV w d b):=by
 have hcl:=aRf w
 unfold Lj aV
 rw[aG (show w.sz≤34359738368 by omega),bd_s,aG (show w.sz≤34359738368 by omega),bd_s]
 cases hc:(bK w&&aQ w d) with
 |false=>rfl
 |true=>
  have hd:=(Bool.and_eq_true_iff.1 hc).2
  obtain⟨k1,k2,k3,k4⟩:=aTl hd
  rw[Bool.not_true,cond_false,cond_true,Ya hd,bd_s,aG ⟨by omega,by omega⟩,bd_s,bd_s]
end
end Go.VK
