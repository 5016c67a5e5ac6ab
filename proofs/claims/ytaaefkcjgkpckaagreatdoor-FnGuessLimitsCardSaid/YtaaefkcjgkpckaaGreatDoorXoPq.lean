import Derived.Test.YtaaefkcjgkpckaaGreatDoorXoPp
import Derived.Test.YtaaefkcjgkpckaaGreatDoorXoQ
/- Printed by wip/tools: models, walks, proofs. -/
set_option linter.unusedVariables false
set_option linter.unusedSimpArgs false
set_option maxRecDepth 100000
set_option maxHeartbeats 4000000
namespace Go.VK
open Go.RowKit Go.Proofs
noncomputable section
open EV (bM)
theorem bD9 {F:(Int×List Int→Option (Int×List Int))→Int×List Int→Option (Int×List Int)}{n:Int}{b:List Int}(hk:0≤n∧n≤1000000000000)(hb:b.length≤34359738300)
  (hF:∀rec (n:Int) (s:List Int),0≤n→n<9223372036854775807→s.length≤34359738368→F rec (n,s)=bif decide (n>127) then rec (n/128,s++[n%128+128]) else some (n,s)):
  (bd (EV.bM FUEL F (n,b)) fun z=>gd (aO z.2 [IntKind.u8.wrap z.1]) (some (z.2++[IntKind.u8.wrap z.1])))=some (b++uvE 5 n):=by
 have h7:(128:Int)^(5+1)=4398046511104:=by decide
 obtain⟨m,q,e1,e2,e3,e4⟩:=aQy hF 5 n b FUEL (by have:=gU;omega) hk.1 (by omega) (by omega) (by omega)
 have hq:q.length≤34359738368:=by
  have h1:=congrArg List.length e2
  have h2:=(aOg 5 n).2
  simp only[List.length_append,List.length_singleton] at h1;omega
 rw[e1,bd_s]
 simp only[aQz e3 (show m≤255 by omega)]
 rw[eZ (s:=q) hq,e2]
theorem Ko (b:List Int)(n:Int)(h:b.length≤34359738300):qV b n=some (Ip b n):=by
 unfold qV Ip enc1
 rw[kS (by omega)]
 cases hr:aW n 0 1000000000000 with
 |false=>simp
 |true=>
  rw[Bool.not_true,cond_false,cond_true,List.nil_append]
  exact bD9 (gM hr) h (fun rec n s h0 h1 h2=>by
   show(bif decide (n>127) then gd (aO s [IntKind.u8.wrap (orI .i64 (tC .i64 n 127) 128)]) (gd ((0:Int)≤7) (rec (Rj .i64 n 7,s++[IntKind.u8.wrap (orI .i64 (tC .i64 n 127) 128)]))) else some (n,s))=_
   rw[bDj h0 (by omega),bG3 (Int.emod_nonneg _ (by decide)) (Int.emod_lt_of_pos _ (by decide)),bIn h0,aQz (by omega) (by omega),eZ (s:=s) h2,aA (show(0:Int)≤7 by decide)])
theorem aM6:∀(l s:List Int),l.foldl Ip s=s++jY l
 |[],s=>by simp[jY]
 |x::l,s=>by rw[List.foldl_cons,aM6 l,tX,Ip,List.append_assoc]
theorem Zi (l:List Int)(h:l.length≤5000000000):wW l=some (jY l):=by
 unfold wW
 rw[fI (l:=l) Ip (fun i s=>s.length≤6*i) (fun s=>some s) (by omega) (by simp) (fun i s hi hv=>by have:=Ya l[i];simp only[Ip,List.length_append];omega) (fun rec i s hi hv=>by
  simp only[bU hi,cond_true,aH hi,bd_s,aA (show s.length≤34359738300 by omega)]) (fun rec s _=>by simp only[bX,cond_false]),aM6]
 rfl
theorem aH6:∀(l:List D.Entry) (s:List Int),l.foldl (fun s e=>s++aXi e) s=s++rX l
 |[],s=>by simp[rX]
 |x::l,s=>by rw[List.foldl_cons,aH6 l];simp[rX]
theorem Og (b:D.aAE)(h:b.sz≤34359738368):sD b=some (wN b):=by
 unfold sD wN
 rw[aA h,bd_s]
 cases hb:aP b with
 |false=>rfl
 |true=>
  have hl:=uJ hb
  have hv:(wM b).length=1+4*b.Entries.length:=by simp[wM,zK];omega
  rw[Bool.not_true,cond_false,cond_true,fI (l:=b.Entries) (fun s e=>s++aXi e) (fun i s=>s.length≤1+4*i) (fun s=>some s) (by omega) (by simp) (fun i s hi hv=>by simp only[aXi,List.length_append,List.length_cons,List.length_nil];omega) (fun rec i s hi hv=>by
   have e:∀x y z w:Int,gd (aO s [x,y,z,w]) (some (s++[x,y,z,w]))=some (s++[x,y,z,w]):=fun _ _ _ _=>aA (by unfold aO;simp only[List.length_cons,List.length_nil];omega)
   simp only[bU hi,cond_true,aH hi,bd_s,jC,e];rfl) (fun rec s _=>by simp only[bX,cond_false]),aH6,bd_s]
  rw[aA (show([(b.Entries.length:Int)]++rX b.Entries).length≤5000000000 by show(wM b).length≤_;omega),bd_s]
  rfl
theorem Zj (a b:List Int)(h:aR a∧aR b):xD a b=some (a==b):=by
 obtain⟨ha,hb⟩:=h
 have h1:=ha.1
 have h2:=hb.1
 unfold xD
 rw[aA (by omega),aA (by omega),aOf,aOf,ByteArray.toList_eq,ByteArray.toList_eq,aMf,aMf]
 congr 1
 rw[Bool.eq_iff_iff,beq_iff_eq,beq_iff_eq]
 exact⟨fun h=>bytes_inj (aCb ha) (aCb hb) h,fun h=>by rw[h]⟩
theorem bB2 {a:List Int}(hb:aR a)(hc:(!(Co a 0).2.2||decide ((Co a 0).1>20))=false):∃(n:Int) (q:Nat),Co a 0=(n,(q:Int),true)∧0≤n∧n≤20∧q≤a.length:=by
 simp only[Bool.or_eq_false_iff,Bool.not_eq_false',decide_eq_false_iff_not] at hc
 cases hu:Co a 0 with
 |mk n r=>
  obtain⟨e,ok⟩:=r
  rw[hu] at hc
  obtain⟨rfl,hc2⟩:=hc
  obtain⟨q,⟨_,g1,g2,g3,g4⟩,_⟩:=aOi hb hu
  exact⟨n,q,by rw[g3],g1,by simp only at hc2;omega,g4⟩
theorem bB3 {a:List Int}{e c:Int}(h0:0≤c)(h1:c≤100)(h2:0≤e)(h3:e≤a.length):mG a e c=jS a c.toNat e []:=by
 unfold mG aW
 rw[decide_eq_true h0,decide_eq_true h1,decide_eq_true h2,decide_eq_true h3];rfl
theorem aM7 {a:List Int}(hb:aR a){k:Nat}(hk:k≤20){τ:Type}{x:τ}{F:(Int×Nat×List D.Entry→Option (τ⊕List D.Entry))→Int×Nat×List D.Entry→Option (τ⊕List D.Entry)}
  (hF:∀rec (q:Nat) i s (hi:i<k),q≤a.length→s.length≤100→F rec ((q:Int),i,s)=bif !(jS a 4 q []).2.2 then some (.inl x) else rec ((jS a 4 q []).2.1,i+1,s++lZ (jS a 4 q []).1)) (hE:∀rec e s,F rec (e,k,s)=some (.inr s)):
  ∀(m i n q:Nat) (s:List D.Entry),i+m=k→m<n→q≤a.length→s.length≤i→EV.bM n F ((q:Int),i,s)=some (bif (jS a (4*m) q []).2.2 then .inr (s++lZ (jS a (4*m) q []).1) else .inl x)
 |0,i,n+1,q,s,h,_,_,_=>by
  have:i=k:=by omega
  subst this
  rw[jJ,hE];simp[jS,lZ]
 |m+1,i,n+1,q,s,h,hn,hq,hs=>by
  rw[jJ,hF _ q i s (by omega) hq (by omega),show 4*(m+1)=4+4*m by omega,aGd 4 (4*m)]
  cases hd:jS a 4 (q:Int) [] with
  |mk l r=>
   obtain⟨e,ok⟩:=r
   cases ok with
   |false=>rfl
   |true=>
    obtain⟨t,q',⟨k1,k2,k3,k4,k5⟩,_⟩:=Yd hb _ _ _ _ _ (by omega) (by omega) hd
    rw[List.nil_append] at k1
    subst k1;subst k3
    have hl:(lZ l).length=1:=aGf 1 l (by omega)
    simp only[Bool.not_true,cond_false,cond_true]
    rw[aM7 hb hk hF hE m (i+1) n q' _ (by omega) (by omega) k4 (by simp[hl];omega),aGe (4*m) (q':Int) l]
    cases(jS a (4*m) (q':Int) []).2.2 with
    |false=>rfl
    |true=>simp[aQ2 1 l _ (by omega)]
theorem four {l:List Int}(h:l.length=4):∃w x y z,l=[w,x,y,z]:=by
 match l,h with
 |[w,x,y,z],_=>exact⟨w,x,y,z,rfl⟩
theorem Oh (a:List Int)(hb:aR a):sF a=some (aGg a):=by
 unfold sF aGg
 rw[aA hb,bd_s,rW,bd_s]
 cases hc:(!(Co a 0).2.2||decide ((Co a 0).1>20)) with
 |true=>rfl
 |false=>
  obtain⟨n,q,hu,h0,h1,h2⟩:=bB2 hb hc
  rw[hu,cond_false,cond_false]
  dsimp only
  rw[aM7 (x:=((D.aAE.mk [],false):D.aAE×Bool)) hb (k:=n.toNat) (by omega) (fun rec q i s hi hq hs=>by
   have e1:decide ((i:Int)<n)=true:=decide_eq_true (by omega)
   simp only[e1,cond_true,aA hb,bd_s,bB3 (a:=a) (e:=(q:Int)) (c:=4) (by omega) (by omega) (by omega) (by omega),show Int.toNat 4=4 from rfl]
   cases hd:jS a 4 (q:Int) [] with
   |mk l r=>
    obtain⟨e,ok⟩:=r
    cases ok with
    |false=>rfl
    |true=>
     obtain⟨t,q',⟨k1,k2,_⟩,_⟩:=Yd hb _ _ _ _ _ (by omega) (by omega) hd
     rw[List.nil_append] at k1
     subst k1
     obtain⟨w,x,y,z,rfl⟩:=four k2
     simp only[Bool.not_true,cond_false,show bA [w,x,y,z] 0=some w from rfl,show bA [w,x,y,z] 1=some x from rfl,show bA [w,x,y,z] 2=some y from rfl,show bA [w,x,y,z] 3=some z from rfl,bd_s,eZ (show s.length≤34359738368 by omega)]
     rfl) (fun rec e s=>by
   rw[show decide (((n.toNat:Nat):Int)<n)=false from decide_eq_false (by omega)];rfl) n.toNat 0 FUEL q [] (by omega) (by have:=gU;omega) h2 (by simp)]
  rw[show(4*n).toNat=4*n.toNat by omega]
  unfold bAs
  cases hd:jS a (4*n.toNat) (q:Int) [] with
  |mk v r=>
   obtain⟨e,ok⟩:=r
   cases ok with
   |false=>rfl
   |true=>
    obtain⟨b1,b2,b3,b4⟩:=bAt hb hu h1 (show jS a (4*n).toNat (q:Int) []=(v,e,true) by rw[show(4*n).toNat=4*n.toNat by omega];exact hd)
    have hz:(D.aAE.mk (lZ v)).sz≤34359738368:=by simp only[D.aAE.sz];omega
    simp only[cond_true,nx_r,List.nil_append,aA hz,bd_s,aA (show aR (wN ⟨lZ v⟩)∧aR a from⟨aQ3 _,hb⟩),rW]
    unfold wN
    cases hbo:aP ⟨lZ v⟩ with
    |false=>simp
    |true=>
     rw[cond_true]
     by_cases hq:jY (wM ⟨lZ v⟩)=a
     ·obtain⟨c1,c2⟩:=b1.1 hq
      rw[hq,c1,c2];simp
     ·have:(e !=(a.length:Int)|| !tL v)=true:=by
       cases h3:(e !=(a.length:Int)) with
       |true=>rfl
       |false=>
        cases h4:tL v with
        |false=>rfl
        |true=>exact absurd (b1.2 ⟨by simpa using h3,h4⟩) hq
      rw[show(jY (wM ⟨lZ v⟩)==a)=false by simpa using hq]
      simp only[Bool.not_true,Bool.not_false,cond_true,Bool.false_or,Bool.or_false,this]
theorem Zk (k:Int)(s:D.aAC)(h:s.Data.length≤34359738200):xE k s=some (lS k s):=by
 unfold xE lS
 rw[aA h,aA (show s.Data.length≤34359738368 by omega)]
 simp only[bd_s,aA (aU4 (k:=nI k s.Epoch s.Version) (show s.Data.length≤34359738368 by omega))]
 cases bJ k<;>cases aW s.Epoch 0 1000000<;>cases aW s.Version 0 1000000<;>cases(s.MAC !=nH k s)<;>rfl
theorem Zl (d:D.Device)(l:List D.aAB)(bx:D.aAD)(s:D.aAC)(h:d.sz≤34359738368∧l.length≤34359738368∧bx.sz≤34359738368∧s.Data.length≤34359738200):xG d l bx s=some (dA d l bx s):=by
 obtain⟨h1,h2,h3,h4⟩:=h
 have hdl:=kF l
 have hb:d.aAE.sz≤34359738368:=by simp only[D.Device.sz,D.aAE.sz] at*;omega
 unfold xG dA mH
 simp only[aA h1,aA h2,aA h3,aA h4,aA (show(aB l).length≤1099511627776 by omega),bd_s,rW,bif_and,bif_or,jC]
 have ho:=aXj (bY d.Store bx).1 s
 generalize lS (bY d.Store bx).1 s=o at ho ⊢
 simp only[aA (show d.aAE.sz≤34359738368∧o.1.sz≤34359738368 from⟨hb,by omega⟩),bd_s]
 cases !aT l|| !dI l d.Log with
 |true=>rfl
 |false=>
  cases !fV (aB l) (bN d.Store) with
  |true=>rfl
  |false=>
   cases bx.Epoch !=aN l|| !(bY d.Store bx).2 with
   |true=>rfl
   |false=>
    cases decide (s.Epoch<aN l)||(decide (s.Epoch<d.Epoch)||(s.Epoch==d.Epoch&&decide (s.Version<d.Version))) with
    |true=>rfl
    |false=>cases !o.2<;>cases !(lQ d.aAE o.1).2<;>rfl
theorem aYc {c:D.aAH}(h:c.sz≤34359738100)(b:Int):c.Log.length≤34359738100∧c.Boxes.sz≤34359738100∧(gI c b).1.Data.length≤34359738100:=by
 have hz:=h
 simp only[D.aAH.sz] at h
 refine⟨by omega,by simp only[D.aAD.sz] at*;omega,?_⟩
 unfold gI
 cases e:(decide (b<0)||decide (b≥(c.History.length:Int))) with
 |true=>simp
 |false=>
  have:=(aRs (b:=b) (show c.sz≤34359738368 by omega) (Cs e)).2
  have h1:=aOe (f:=D.aAC.sz) (l:=c.History) (i:=c.History.length-1-b.toNat) (by have:=Cs e;omega)
  simp only[cond_false]
  simp only[D.aAC.sz] at h1
  omega
theorem aH7 (d:D.Device)(c:D.aAH)(b:Int)(h:d.sz≤34359738100∧c.sz≤34359738100):Jw d c b=some (dA d c.Log c.Boxes (gI c b).1):=by
 obtain⟨h1,h2⟩:=h
 obtain⟨k1,k2,k3⟩:=aYc h2 b
 unfold Jw
 rw[aA (show c.sz≤34359738368 by omega),bd_s,aA ⟨by omega,by omega,by omega,by omega⟩,bd_s]
end
end Go.VK
