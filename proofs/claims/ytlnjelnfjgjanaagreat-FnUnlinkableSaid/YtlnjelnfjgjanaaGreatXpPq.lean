import Derived.Test.YtlnjelnfjgjanaaGreatXpPp
import Derived.Test.YtlnjelnfjgjanaaGreatXpM
/- Printed by wip/tools: models, walks, proofs. -/
set_option linter.unusedVariables false
set_option linter.unusedSimpArgs false
set_option maxRecDepth 100000
set_option maxHeartbeats 4000000
namespace Go.VK
open Go.RowKit Go.Proofs
noncomputable section
open EV (bT)
theorem bD5 {F:(Int×List Int→Option (Int×List Int))→Int×List Int→Option (Int×List Int)}{n:Int}{b:List Int}(hk:0≤n∧n≤1000000000000)(hb:b.length≤34359738300)
  (hF:∀rec (n:Int) (s:List Int),0≤n→n<9223372036854775807→s.length≤34359738368→F rec (n,s)=bif decide (n>127) then rec (n/128,s++[n%128+128]) else some (n,s)):
  (bd (EV.bT FUEL F (n,b)) fun z=>gd (aS z.2 [IntKind.u8.wrap z.1]) (some (z.2++[IntKind.u8.wrap z.1])))=some (b++uvE 5 n):=by
 have h7:(128:Int)^(5+1)=4398046511104:=by decide
 obtain⟨m,q,e1,e2,e3,e4⟩:=aP5 hF 5 n b FUEL (by have:=gY;omega) hk.1 (by omega) (by omega) (by omega)
 have hq:q.length≤34359738368:=by
  have h1:=congrArg List.length e2
  have h2:=(aNw 5 n).2
  simp only[List.length_append,List.length_singleton] at h1;omega
 rw[e1,bd_s]
 simp only[aP6 e3 (show m≤255 by omega)]
 rw[gT (s:=q) hq,e2]
theorem Kv (b:List Int)(n:Int)(h:b.length≤34359738300):sD b n=some (Iu b n):=by
 unfold sD Iu enc1
 rw[zQ (by omega)]
 cases hr:bF n 0 1000000000000 with
 |false=>simp
 |true=>
  rw[Bool.not_true,cond_false,cond_true,List.nil_append]
  exact bD5 (kJ hr) h (fun rec n s h0 h1 h2=>by
   show(bif decide (n>127) then gd (aS s [IntKind.u8.wrap (orI .i64 (lD .i64 n 127) 128)]) (gd ((0:Int)≤7) (rec (zL .i64 n 7,s++[IntKind.u8.wrap (orI .i64 (lD .i64 n 127) 128)]))) else some (n,s))=_
   rw[bDl h0 (by omega),bGt (Int.emod_nonneg _ (by decide)) (Int.emod_lt_of_pos _ (by decide)),bIa h0,aP6 (by omega) (by omega),gT (s:=s) h2,aB (show(0:Int)≤7 by decide)])
theorem aMu:∀(l s:List Int),l.foldl Iu s=s++jX l
 |[],s=>by simp[jX]
 |x::l,s=>by rw[List.foldl_cons,aMu l,uY,Iu,List.append_assoc]
theorem Zd (l:List Int)(h:l.length≤5000000000):yB l=some (jX l):=by
 unfold yB
 rw[fD (l:=l) Iu (fun i s=>s.length≤6*i) (fun s=>some s) (by omega) (by simp) (fun i s hi hv=>by have:=Xz l[i];simp only[Iu,List.length_append];omega) (fun rec i s hi hv=>by
  simp only[dQ hi,cond_true,aM hi,bd_s,aB (show s.length≤34359738300 by omega)]) (fun rec s _=>by simp only[dS,cond_false]),aMu]
 rfl
theorem aHb:∀(l:List D.Entry) (s:List Int),l.foldl (fun s e=>s++aWm e) s=s++tQ l
 |[],s=>by simp[tQ]
 |x::l,s=>by rw[List.foldl_cons,aHb l];simp[tQ]
theorem Pg (b:D.aAG)(h:b.sz≤34359738368):tX b=some (xR b):=by
 unfold tX xR
 rw[aB h,bd_s]
 cases hb:aT b with
 |false=>rfl
 |true=>
  have hl:=vP hb
  have hv:(xQ b).length=1+4*b.Entries.length:=by simp[xQ,Ar];omega
  rw[Bool.not_true,cond_false,cond_true,fD (l:=b.Entries) (fun s e=>s++aWm e) (fun i s=>s.length≤1+4*i) (fun s=>some s) (by omega) (by simp) (fun i s hi hv=>by simp only[aWm,List.length_append,List.length_cons,List.length_nil];omega) (fun rec i s hi hv=>by
   have e:∀x y z w:Int,gd (aS s [x,y,z,w]) (some (s++[x,y,z,w]))=some (s++[x,y,z,w]):=fun _ _ _ _=>aB (by unfold aS;simp only[List.length_cons,List.length_nil];omega)
   simp only[dQ hi,cond_true,aM hi,bd_s,rF,e];rfl) (fun rec s _=>by simp only[dS,cond_false]),aHb,bd_s]
  rw[aB (show([(b.Entries.length:Int)]++tQ b.Entries).length≤5000000000 by show(xQ b).length≤_;omega),bd_s]
  rfl
theorem Ze (a b:List Int)(h:bB a∧bB b):yI a b=some (a==b):=by
 obtain⟨ha,hb⟩:=h
 have h1:=ha.1
 have h2:=hb.1
 unfold yI
 rw[aB (by omega),aB (by omega),aNv,aNv,ByteArray.toList_eq,ByteArray.toList_eq,aL6,aL6]
 congr 1
 rw[Bool.eq_iff_iff,beq_iff_eq,beq_iff_eq]
 exact⟨fun h=>bytes_inj (aBj ha) (aBj hb) h,fun h=>by rw[h]⟩
theorem bBo {a:List Int}(hb:bB a)(hc:(!(Ea a 0).2.2||decide ((Ea a 0).1>20))=false):∃(n:Int) (q:Nat),Ea a 0=(n,(q:Int),true)∧0≤n∧n≤20∧q≤a.length:=by
 simp only[Bool.or_eq_false_iff,Bool.not_eq_false',decide_eq_false_iff_not] at hc
 cases hu:Ea a 0 with
 |mk n r=>
  obtain⟨e,ok⟩:=r
  rw[hu] at hc
  obtain⟨rfl,hc2⟩:=hc
  obtain⟨q,⟨_,g1,g2,g3,g4⟩,_⟩:=aNy hb hu
  exact⟨n,q,by rw[g3],g1,by simp only at hc2;omega,g4⟩
theorem bBp {a:List Int}{e c:Int}(h0:0≤c)(h1:c≤100)(h2:0≤e)(h3:e≤a.length):mV a e c=jO a c.toNat e []:=by
 unfold mV bF
 rw[decide_eq_true h0,decide_eq_true h1,decide_eq_true h2,decide_eq_true h3];rfl
theorem aMv {a:List Int}(hb:bB a){k:Nat}(hk:k≤20){τ:Type}{x:τ}{F:(Int×Nat×List D.Entry→Option (τ⊕List D.Entry))→Int×Nat×List D.Entry→Option (τ⊕List D.Entry)}
  (hF:∀rec (q:Nat) i s (hi:i<k),q≤a.length→s.length≤100→F rec ((q:Int),i,s)=bif !(jO a 4 q []).2.2 then some (.inl x) else rec ((jO a 4 q []).2.1,i+1,s++mJ (jO a 4 q []).1)) (hE:∀rec e s,F rec (e,k,s)=some (.inr s)):
  ∀(m i n q:Nat) (s:List D.Entry),i+m=k→m<n→q≤a.length→s.length≤i→EV.bT n F ((q:Int),i,s)=some (bif (jO a (4*m) q []).2.2 then .inr (s++mJ (jO a (4*m) q []).1) else .inl x)
 |0,i,n+1,q,s,h,_,_,_=>by
  have:i=k:=by omega
  subst this
  rw[gU,hE];simp[jO,mJ]
 |m+1,i,n+1,q,s,h,hn,hq,hs=>by
  rw[gU,hF _ q i s (by omega) hq (by omega),show 4*(m+1)=4+4*m by omega,aFl 4 (4*m)]
  cases hd:jO a 4 (q:Int) [] with
  |mk l r=>
   obtain⟨e,ok⟩:=r
   cases ok with
   |false=>rfl
   |true=>
    obtain⟨t,q',⟨k1,k2,k3,k4,k5⟩,_⟩:=Yc hb _ _ _ _ _ (by omega) (by omega) hd
    rw[List.nil_append] at k1
    subst k1;subst k3
    have hl:(mJ l).length=1:=aFn 1 l (by omega)
    simp only[Bool.not_true,cond_false,cond_true]
    rw[aMv hb hk hF hE m (i+1) n q' _ (by omega) (by omega) k4 (by simp[hl];omega),aFm (4*m) (q':Int) l]
    cases(jO a (4*m) (q':Int) []).2.2 with
    |false=>rfl
    |true=>simp[aP9 1 l _ (by omega)]
theorem four {l:List Int}(h:l.length=4):∃w x y z,l=[w,x,y,z]:=by
 match l,h with
 |[w,x,y,z],_=>exact⟨w,x,y,z,rfl⟩
theorem Ph (a:List Int)(hb:bB a):tY a=some (aFo a):=by
 unfold tY aFo
 rw[aB hb,bd_s,Ap,bd_s]
 cases hc:(!(Ea a 0).2.2||decide ((Ea a 0).1>20)) with
 |true=>rfl
 |false=>
  obtain⟨n,q,hu,h0,h1,h2⟩:=bBo hb hc
  rw[hu,cond_false,cond_false]
  dsimp only
  rw[aMv (x:=((D.aAG.mk [],false):D.aAG×Bool)) hb (k:=n.toNat) (by omega) (fun rec q i s hi hq hs=>by
   have e1:decide ((i:Int)<n)=true:=decide_eq_true (by omega)
   simp only[e1,cond_true,aB hb,bd_s,bBp (a:=a) (e:=(q:Int)) (c:=4) (by omega) (by omega) (by omega) (by omega),show Int.toNat 4=4 from rfl]
   cases hd:jO a 4 (q:Int) [] with
   |mk l r=>
    obtain⟨e,ok⟩:=r
    cases ok with
    |false=>rfl
    |true=>
     obtain⟨t,q',⟨k1,k2,_⟩,_⟩:=Yc hb _ _ _ _ _ (by omega) (by omega) hd
     rw[List.nil_append] at k1
     subst k1
     obtain⟨w,x,y,z,rfl⟩:=four k2
     simp only[Bool.not_true,cond_false,show bA [w,x,y,z] 0=some w from rfl,show bA [w,x,y,z] 1=some x from rfl,show bA [w,x,y,z] 2=some y from rfl,show bA [w,x,y,z] 3=some z from rfl,bd_s,gT (show s.length≤34359738368 by omega)]
     rfl) (fun rec e s=>by
   rw[show decide (((n.toNat:Nat):Int)<n)=false from decide_eq_false (by omega)];rfl) n.toNat 0 FUEL q [] (by omega) (by have:=gY;omega) h2 (by simp)]
  rw[show(4*n).toNat=4*n.toNat by omega]
  unfold bAd
  cases hd:jO a (4*n.toNat) (q:Int) [] with
  |mk v r=>
   obtain⟨e,ok⟩:=r
   cases ok with
   |false=>rfl
   |true=>
    obtain⟨b1,b2,b3,b4⟩:=bAe hb hu h1 (show jO a (4*n).toNat (q:Int) []=(v,e,true) by rw[show(4*n).toNat=4*n.toNat by omega];exact hd)
    have hz:(D.aAG.mk (mJ v)).sz≤34359738368:=by simp only[D.aAG.sz];omega
    simp only[cond_true,nx_r,List.nil_append,aB hz,bd_s,aB (show bB (xR ⟨mJ v⟩)∧bB a from⟨aQa _,hb⟩),Ap]
    unfold xR
    cases hbo:aT ⟨mJ v⟩ with
    |false=>simp
    |true=>
     rw[cond_true]
     by_cases hq:jX (xQ ⟨mJ v⟩)=a
     ·obtain⟨c1,c2⟩:=b1.1 hq
      rw[hq,c1,c2];simp
     ·have:(e !=(a.length:Int)|| !uS v)=true:=by
       cases h3:(e !=(a.length:Int)) with
       |true=>rfl
       |false=>
        cases h4:uS v with
        |false=>rfl
        |true=>exact absurd (b1.2 ⟨by simpa using h3,h4⟩) hq
      rw[show(jX (xQ ⟨mJ v⟩)==a)=false by simpa using hq]
      simp only[Bool.not_true,Bool.not_false,cond_true,Bool.false_or,Bool.or_false,this]
theorem Zg (k:Int)(s:D.aAD)(h:s.Data.length≤34359738200):yJ k s=some (lW k s):=by
 unfold yJ lW
 rw[aB h,aB (show s.Data.length≤34359738368 by omega)]
 simp only[bd_s,aB (aUk (k:=oF k s.Epoch s.Version) (show s.Data.length≤34359738368 by omega))]
 cases bM k<;>cases bF s.Epoch 0 1000000<;>cases bF s.Version 0 1000000<;>cases(s.MAC !=oD k s)<;>rfl
theorem Zh (d:D.Device)(l:List D.aAC)(bx:D.aAH)(s:D.aAD)(h:d.sz≤34359738368∧l.length≤34359738368∧bx.sz≤34359738368∧s.Data.length≤34359738200):yK d l bx s=some (dJ d l bx s):=by
 obtain⟨h1,h2,h3,h4⟩:=h
 have hdl:=iT l
 have hb:d.aAG.sz≤34359738368:=by simp only[D.Device.sz,D.aAG.sz] at*;omega
 unfold yK dJ mX
 simp only[aB h1,aB h2,aB h3,aB h4,aB (show(aH l).length≤1099511627776 by omega),bd_s,Ap,bif_and,bif_or,rF]
 have ho:=aWn (cO d.Store bx).1 s
 generalize lW (cO d.Store bx).1 s=o at ho ⊢
 simp only[aB (show d.aAG.sz≤34359738368∧o.1.sz≤34359738368 from⟨hb,by omega⟩),bd_s]
 cases !bE l|| !dX l d.Log with
 |true=>rfl
 |false=>
  cases !iZ (aH l) (aX d.Store) with
  |true=>rfl
  |false=>
   cases bx.Epoch !=aQ l|| !(cO d.Store bx).2 with
   |true=>rfl
   |false=>
    cases decide (s.Epoch<aQ l)||(decide (s.Epoch<d.Epoch)||(s.Epoch==d.Epoch&&decide (s.Version<d.Version))) with
    |true=>rfl
    |false=>cases !o.2<;>cases !(nZ d.aAG o.1).2<;>rfl
theorem aXv {c:D.aAE}(h:c.sz≤34359738100)(b:Int):c.Log.length≤34359738100∧c.Boxes.sz≤34359738100∧(gH c b).1.Data.length≤34359738100:=by
 have hz:=h
 simp only[D.aAE.sz] at h
 refine⟨by omega,by simp only[D.aAH.sz] at*;omega,?_⟩
 unfold gH
 cases e:(decide (b<0)||decide (b≥(c.History.length:Int))) with
 |true=>simp
 |false=>
  have:=(aQ1 (b:=b) (show c.sz≤34359738368 by omega) (Iq e)).2
  have h1:=xO (f:=D.aAD.sz) (l:=c.History) (i:=c.History.length-1-b.toNat) (by have:=Iq e;omega)
  simp only[cond_false]
  simp only[D.aAD.sz] at h1
  omega
theorem aHc (d:D.Device)(c:D.aAE)(b:Int)(h:d.sz≤34359738100∧c.sz≤34359738100):Kh d c b=some (dJ d c.Log c.Boxes (gH c b).1):=by
 obtain⟨h1,h2⟩:=h
 obtain⟨k1,k2,k3⟩:=aXv h2 b
 unfold Kh
 rw[aB (show c.sz≤34359738368 by omega),bd_s,aB ⟨by omega,by omega,by omega,by omega⟩,bd_s]
theorem aHd {w:D.World}{d:Int}(h:aK w d=true):0≤d∧d.toNat<w.Devices.length∧(aO w d).sz≤w.sz∧aO w d=w.Devices.getD d.toNat default:=by
 simp only[aK,Bool.and_eq_true,decide_eq_true_eq] at h
 have hi:d.toNat<w.Devices.length:=by omega
 have:=xO (f:=D.Device.sz) hi
 refine⟨h.1,hi,?_,rfl⟩
 show(w.Devices.getD d.toNat default).sz≤_
 simp only[D.World.sz];omega
theorem Zi (w:D.World):w.aAE.sz≤w.sz:=by simp only[D.World.sz,D.aAE.sz,D.aAH.sz];omega
theorem aHe (w:D.World)(d b:Int)(hz:w.sz≤34359738100):Kn w d b=some (aI w d b):=by
 have hcl:=Zi w
 unfold Kn aI
 rw[aB (show w.sz≤34359738368 by omega),bd_s,aB (show w.sz≤34359738368 by omega),bd_s]
 cases hc:(aN w&&aK w d) with
 |false=>rfl
 |true=>
  have hd:=(Bool.and_eq_true_iff.1 hc).2
  obtain⟨k1,k2,k3,k4⟩:=aHd hd
  rw[Bool.not_true,cond_false,cond_true,uR hd,bd_s,aB ⟨by omega,by omega⟩,bd_s,bd_s]
end
end Go.VK
