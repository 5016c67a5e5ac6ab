import Derived.Test.YtinkjfapmhcgmaaGreatDoorXjPu
import Derived.Test.YtinkjfapmhcgmaaGreatDoorXjQ
/- Printed by wip/tools: models, walks, proofs. -/
set_option linter.unusedVariables false
set_option linter.unusedSimpArgs false
set_option maxRecDepth 100000
set_option maxHeartbeats 4000000
namespace Go.VK
open Go.RowKit Go.Proofs
noncomputable section
open EV (bU)
theorem aJ8 (s e:Int):Jf s e=some (kQ s e):=by unfold Jf;rw[aC (by simp)];rfl
theorem aJ9 (s e:Int):Jo s e=some (kQ s e):=by unfold Jo;rw[aC (by simp)];rfl
theorem aA0 (d:D.Device)(l:List D.aAB)(k:Int)(h:d.sz≤34359738368∧l.length≤34359738368):yN d l k=some (nX d l k):=by
 unfold yN nX
 simp only[aC h.1,aC h.2,bd_s]
 cases cB l<;>cases dY l d.Log<;>cases decide (bC l<d.Epoch)<;>cases dP k<;>rfl
theorem aA1 (d:D.Device)(l:List D.aAB)(k:Int)(h:d.sz≤34359738368∧l.length≤34359738368):zF d l k=some (nX d l k):=by
 unfold zF nX
 simp only[aC h.1,aC h.2,bd_s]
 cases cB l<;>cases dY l d.Log<;>cases decide (bC l<d.Epoch)<;>cases dP k<;>rfl
theorem Li (s:D.aAG)(i:Int)(h:s.Credentials.length≤34359738368):pR s i=some (eG s i):=by
 unfold pR
 exact Av (l:=s.Credentials) (fun a=>a.Handle==i) (by omega) (fun rec j hj=>by simp only[bE hj,cond_true,aF hj,bd_s]) (fun rec=>by simp only[bF,cond_false])
theorem Lj (s:D.aAG)(i:Int)(h:s.Credentials.length≤34359738368):qA s i=some (eG s i):=by
 unfold qA
 exact Av (l:=s.Credentials) (fun a=>a.Handle==i) (by omega) (fun rec j hj=>by simp only[bE hj,cond_true,aF hj,bd_s]) (fun rec=>by simp only[bF,cond_false])
theorem bDu {a:D.aAG}{h:Int}(hk:decide (eG a h<0)=false):aL a.Credentials (eG a h)=some (aDl a (eG a h)):=by
 have hr:=Od (p:=fun c:D.aAI=>c.Handle==h) (i:=0) (l:=a.Credentials) hk
 exact X5 (by unfold eG;omega) (by unfold eG;omega)
theorem Ri (a:D.aAG)(h:Int)(hz:a.sz≤34359738368):sD a h=some (kL a h):=by
 have hl:a.Credentials.length≤34359738368:=hz
 unfold sD kL
 simp only[aC hz,aC hl,bd_s]
 cases dW a with
 |false=>rfl
 |true=>
  cases hk:decide (eG a h<0) with
  |true=>rfl
  |false=>
   simp only[Bool.not_true,cond_false,bDu hk,bd_s]
   cases(aDl a (eG a h)).Cut<;>rfl
theorem Rj (a:D.aAG)(h:Int)(hz:a.sz≤34359738368):sG a h=some (kL a h):=by
 have hl:a.Credentials.length≤34359738368:=hz
 unfold sG kL
 simp only[aC hz,aC hl,bd_s]
 cases dW a with
 |false=>rfl
 |true=>
  cases hk:decide (eG a h<0) with
  |true=>rfl
  |false=>
   simp only[Bool.not_true,cond_false,bDu hk,bd_s]
   cases(aDl a (eG a h)).Cut<;>rfl
theorem bDv {s:D.Site}(hz:s.sz≤34359738300)(h:decide (bA s 1≥0)=true):aL s.Accounts (bA s 1)=some (Oe s (bA s 1))∧(Oe s (bA s 1)).sz≤34359738368:=by
 have h0:decide (bA s 1<0)=false:=by rw[decide_eq_true_iff] at h;exact decide_eq_false (by omega)
 obtain⟨e1,e2,_⟩:=bLp hz h0
 exact⟨e1,by unfold Oe;omega⟩
theorem bAs {h:Int}{N:Nat}{F:(Nat×List D.Site→Option (List D.Site))→Nat×List D.Site→Option (List D.Site)}
  (hF:∀rec (p:List D.Site) (s:D.Site) (r:List D.Site),p.length+r.length+1=N→s.sz≤34359738300→F rec (p.length,p++s::r)=rec (p.length+1,p++kH h s::r)) (hE:∀rec S,F rec (N,S)=some S):
  ∀(r p:List D.Site) (m:Nat),p.length+r.length=N→r.length<m→(∀s∈r,s.sz≤34359738300)→EV.bU m F (p.length,p++r)=some (p++r.map (kH h))
 |[],p,m+1,hl,_,_=>by
  simp only[List.length_nil,Nat.add_zero] at hl
  rw[iN,hl,hE];simp
 |s::r,p,m+1,hl,hm,hs=>by
  simp only[List.length_cons] at hl hm
  have:=bAs hF hE r (p++[kH h s]) m (by simp;omega) (by omega) (fun y hy=>hs y (by simp[hy]))
  simp only[List.length_append,List.length_singleton,List.append_assoc,List.cons_append,List.nil_append] at this
  rw[iN,hF _ p s r (by omega) (hs s (by simp)),this];simp
theorem aWd {h:Int}{N:Nat}{l:List D.Site}(hN:l.length=N)(hN2:N≤100)(hs:∀s∈l,s.sz≤34359738300){F:(Nat×List D.Site→Option (List D.Site))→Nat×List D.Site→Option (List D.Site)}
  (hF:∀rec (p:List D.Site) (s:D.Site) (r:List D.Site),p.length+r.length+1=N→s.sz≤34359738300→F rec (p.length,p++s::r)=rec (p.length+1,p++kH h s::r)) (hE:∀rec S,F rec (N,S)=some S):EV.bU FUEL F (0,l)=some (l.map (kH h)):=by
 have:=bAs hF hE l [] FUEL (by simp;omega) (by have:=gK;omega) hs
 simpa using this
theorem mD {w:D.World}{b t:Int}(h:((bO w b 0).2==0&&(!yA w b&&(!(b==t)&&jF w t)))=false):kJ w b t=(w,false):=by unfold kJ;rw[h];rfl
theorem aP4 {w:D.World}{b t:Int}(h:((bO w b 0).2==0&&(!yA w b&&(!(b==t)&&jF w t)))=true):kJ w b t=Fz w b t:=by unfold kJ;rw[h];rfl
theorem lM {w:D.World}{b t:Int}(h:(Az w b t).2=false∨(aS1 w b t).2=false∨(bBy w b t).2=false):Fz w b t=(w,false):=by
 unfold Fz
 rcases h with h|h|h<;>rw[h]<;>simp
theorem bHn {w:D.World}{b:Int}(hz:w.sz≤100000000)(h1:dU w=true)(hs:((bO w b 0).2==0)=true):(bH (bO w b 0).1 b=true∧(bO w b 0).1.Sites.length=2)∧(bO w b 0).1.sz≤300000000∧(bO w b 0).1.aAH.Log.length≤100000000∧∀s∈(bO w b 0).1.Sites,s.sz≤34359738300:=by
 obtain⟨⟨g1,g3⟩,g4⟩:=bLs hz h1 hs
 exact⟨g1,g3,g4,fun s hs=>by have h1:=aXf (g:=D.Site.sz) hs;simp only[D.World.sz] at g3;omega⟩
theorem bDw {w:D.World}{b t:Int}(hz:w.sz≤100000000)(hs:((bO w b 0).2==0)=true){o:D.World}(ho:o=(bO w b 0).1){c:D.aAH}(h1:Az w b t=({o with aAH:=c},true)){x:D.Device}(h2:aS1 w b t=(x,true)):
  (x.sz≤34359738300∧(rU x t true).sz≤34359738368∧c.sz≤34359738300∧(fB (rU x t true)).2.1.sz≤34359738300∧o.Mail.sz≤34359738300)∧
  Fz w b t=bif (fB (rU x t true)).2.2&&(gX c (fB (rU x t true)).2.1).2 then(D.World.mk o.Now o.Seed (o.Devices.set b.toNat (fB (rU x t true)).1) o.Stolen (gX c (fB (rU x t true)).2.1).1 (o.Sites.map (kH t)) o.aAQ o.Hosts o.Pin (Ij o.Mail 4 1 o.Now).1,true) else(w,false):=by
 obtain⟨⟨a1,a2,a3,a4⟩,a5,⟨b1,b2⟩,b3,b4⟩:=aV3 (t:=t) hs
 have hd:=a1
 simp only[bH,Bool.and_eq_true,decide_eq_true_eq] at hd
 have hi:b.toNat<(kM w b).Devices.length:=by omega
 have hoo:o=kM w b:=ho
 have hx:(nX (bR (kM w b) b) (aDm w b t) (kI (bR (kM w b) b).Store (aDm w b t))).1=x:=by
  have:=congrArg Prod.fst h2;exact this
 have hdv:(bR (kM w b) b).sz≤(kM w b).sz:=(aPw a1).2.2.1
 have hxs:x.sz≤3*w.sz+21:=by
  have:=bAc (bR (kM w b) b) (aDm w b t) (kI (bR (kM w b) b).Store (aDm w b t))
  rw[hx] at this;omega
 have hes:=bDi x t true
 have hws:=aVy (rU x t true)
 have hW:aXl w b t=D.World.mk o.Now o.Seed (o.Devices.set b.toNat (rU x t true)) o.Stolen c (o.Sites.map (kH t)) o.aAQ o.Hosts o.Pin o.Mail:=by
  unfold aXl;rw[h1,h2]
 have hdW:bR (aXl w b t) b=rU x t true:=by
  rw[hW,hoo];simp only[bR,List.getD,List.getElem?_set_self hi,Option.getD_some]
 have hc0:c.sz≤({o with aAH:=c}:D.World).sz:=by simp only[D.World.sz,D.aAH.sz];omega
 have hcs:c.sz≤16*w.sz+34:=by rw[h1] at b3;exact Nat.le_trans hc0 b3
 have hms:o.Mail.sz≤2*w.sz+20:=by
  rw[hoo];have:(kM w b).Mail.sz≤(kM w b).sz:=by simp only[D.aAK.sz,D.World.sz];omega
  omega
 refine⟨⟨by omega,by omega,by omega,by simp only[D.aAA.sz];omega,by omega⟩,?_⟩
 unfold Fz
 rw[show bBy w b t=upF (aXl w b t) b from rfl,h1,h2]
 unfold upF
 rw[hdW,hW]
 simp only[Bool.true_and]
 cases(fB (rU x t true)).2.2&&(gX c (fB (rU x t true)).2.1).2 with
 |false=>rfl
 |true=>simp only[cond_true,bDh,List.set_set]
theorem aWe {h:Int}{p r:List D.Site}{s:D.Site}(hz:s.sz≤34359738300):s.Accounts.length≤34359738368:=by simp only[D.Site.sz] at hz;omega
theorem aFf (w:D.World)(b t:Int)(hz:w.sz≤100000000):Cf w b t=some (kJ w b t):=by
 have hw8:w.sz≤34359738368:=by omega
 unfold Cf
 simp only[bd_s,aC (show w.sz≤34359738100 by omega),aC hw8,bne]
 cases hs:((bO w b 0).2==0) with
 |false=>rw[mD (by rw[hs];rfl)];rfl
 |true=>
 obtain⟨⟨h1,h2⟩,_⟩:=aMe hs
 rw[bHm h1 h2]
 simp only[Bool.not_true,cond_false,bd_s]
 cases h3:yA w b with
 |true=>rw[mD (by rw[hs,h3];rfl)];rfl
 |false=>
 cases h4:(b==t) with
 |true=>rw[mD (by rw[hs,h3,h4];rfl)];rfl
 |false=>
 rw[aC (WOk.of' hw8)]
 cases h5:jF w t with
 |false=>rw[mD (by rw[hs,h3,h4,h5];rfl)];rfl
 |true=>
 rw[aP4 (by rw[hs,h3,h4,h5];rfl)]
 have ht:bH w t=true:=by unfold jF at h5;rw[Bool.and_eq_true] at h5;exact h5.1
 obtain⟨⟨g1,g2⟩,g3,g4,g5⟩:=bHn hz h1 hs
 simp only[Bool.not_true,cond_false,bd_s,xZ ht,xZ g1,aC (show(bO w b 0).1.aAH.Log.length≤34359738300 by omega)]
 have hll:=Fy (bO w b 0).1.aAH.Log 2 (dB (bR w t).Store) (bR (bO w b 0).1 b).Store
 obtain⟨l,hl⟩:∃l,l=kG (bO w b 0).1.aAH.Log 2 (dB (bR w t).Store) (bR (bO w b 0).1 b).Store:=⟨_,rfl⟩
 obtain⟨e,he⟩:∃e,e=iX l.1 (kI (bR (bO w b 0).1 b).Store l.1) (IntKind.i64.wrap (1000+IntKind.i64.wrap (10*(l.1.length:Int)))):=⟨_,rfl⟩
 obtain⟨c,hcc⟩:∃c,c=lL (bO w b 0).1.aAH l.1 e.1:=⟨_,rfl⟩
 have A1:Az w b t=bif l.2&&(e.2&&c.2) then({(bO w b 0).1 with aAH:=c.1},true) else((bO w b 0).1,false):=by rw[hcc,he,hl];rfl
 have AL:aDm w b t=l.1:=by rw[hl];rfl
 rw[←hl] at hll ⊢
 have hez:=aDj l.1 (kI (bR (bO w b 0).1 b).Store l.1) (IntKind.i64.wrap (1000+IntKind.i64.wrap (10*(l.1.length:Int))))
 have hcz:=aAr (bO w b 0).1
 rw[aC (show([311]:List Int).length≤34359738300 by simp),bd_s,aC (show l.1.length≤34359738368 by omega),bd_s,bd_s,aC (show l.1.length≤34359738300 by omega),bd_s]
 rw[show kQ (eU (bR (bO w b 0).1 b).Store.Seed [311]) (bC l.1)=kI (bR (bO w b 0).1 b).Store l.1 from rfl]
 rw[←he] at hez ⊢
 rw[aC (show(bO w b 0).1.aAH.sz≤34359738368∧l.1.length≤34359738368∧e.1.sz≤34359738368 from⟨by omega,by omega,by omega⟩),bd_s,←hcc]
 cases h6:l.2 with
 |false=>rw[lM (.inl (by rw[A1,h6];rfl))];rfl
 |true=>
 cases h7:e.2 with
 |false=>rw[lM (.inl (by rw[A1,h6,h7];rfl))];rfl
 |true=>
 cases h8:c.2 with
 |false=>rw[lM (.inl (by rw[A1,h6,h7,h8];rfl))];rfl
 |true=>
 have A1':Az w b t=({(bO w b 0).1 with aAH:=c.1},true):=by rw[A1,h6,h7,h8];rfl
 obtain⟨k1,k2,k3,k4⟩:=aPw g1
 obtain⟨x,hx⟩:∃x,x=nX (bR (bO w b 0).1 b) l.1 (kI (bR (bO w b 0).1 b).Store l.1):=⟨_,rfl⟩
 have A2:aS1 w b t=x:=by rw[hx,←AL];rfl
 simp only[Bool.not_true,cond_false,bd_s,aC (show(bR (bO w b 0).1 b).sz≤34359738368∧l.1.length≤34359738368 from⟨by omega,by omega⟩)]
 rw[←hx]
 cases h9:x.2 with
 |false=>rw[lM (.inr (.inl (by rw[A2,h9])))];rfl
 |true=>
 obtain⟨⟨z1,z2,z3,z4,z5⟩,AE⟩:=bDw hz hs rfl A1' (x:=x.1) (by rw[A2,←h9])
 have q1:∀y:D.Device,aL ((bO w b 0).1.Devices.set b.toNat y) b=some y:=fun y=>by rw[nK k1 (by rw[List.length_set];exact k2)];simp
 rw[Bool.not_true,cond_false,aWd (h:=t) (l:=(bO w b 0).1.Sites) (N:=2) g2 (by omega) g5 (fun rec p s r hp hzs=>by
  simp only[decide_eq_true (show((p.length:Nat):Int)<2 by omega),cond_true,bDs,bd_s,aC (aWe (h:=t) (p:=p) (r:=r) hzs)]
  cases hc:decide (bA s 1≥0) with
  |false=>simp only[cond_false,bd_s,kH,hc]
  |true=>
   obtain⟨e1,e2⟩:=bDv hzs hc
   simp only[cond_true,e1,bd_s,aC e2,bAq,kH,hc]) (fun rec S=>rfl)]
 simp only[bd_s,q1,aC z1,aC z2,aC z5,List.set_set,aC (show c.1.sz≤34359738300∧(fB (rU x.1 t true)).2.1.sz≤34359738300 from⟨z3,z4⟩)]
 rw[AE]
 cases(fB (rU x.1 t true)).2.2<;>cases(gX c.1 (fB (rU x.1 t true)).2.1).2<;>rfl
theorem bHo {w:D.World}{b t:Int}(h2:bH w b=true)(ht:bH w t=true)(hne:(b==t)=false):bH (bO w b 0).1 t=true∧bR (bO w b 0).1 t=bR w t:=by
 unfold bO
 cases(dU w&&bH w b) with
 |false=>exact⟨ht,rfl⟩
 |true=>
  have ht':=ht
  have hb':b≠t:=by simpa using hne
  simp only[bH,Bool.and_eq_true,decide_eq_true_eq] at h2 ht'
  have h:b.toNat≠t.toNat:=by omega
  refine⟨?_,?_⟩
  ·simp only[bH,cond_true,List.length_set] at*;exact ht
  ·simp only[bR,cond_true,List.getD,List.getElem?_set_ne h]
theorem aP5 {w:D.World}{b t:Int}(h:(dU w&&bH w b)=false):kJ w b t=(w,false):=by
 apply mD
 cases hs:((bO w b 0).2==0) with
 |false=>rfl
 |true=>
  obtain⟨⟨h1,h2⟩,_⟩:=aMe hs
  rw[h1,h2] at h;cases h
theorem aFg (w:D.World)(b t:Int)(hz:w.sz≤100000000):Db w b t=some (kJ w b t):=by
 have hw8:w.sz≤34359738368:=by omega
 unfold Db
 simp only[aC hw8,bd_s]
 cases h1:dU w with
 |false=>rw[aP5 (by rw[h1];rfl)];rfl
 |true=>
 cases h2:bH w b with
 |false=>rw[aP5 (by rw[h1,h2];rfl)];rfl
 |true=>
 cases h4:(b==t) with
 |true=>rw[mD (by rw[h4];simp)];rfl
 |false=>
 rw[bHm h1 h2]
 cases h3:yA w b with
 |true=>rw[mD (by rw[h3];simp)];rfl
 |false=>
 rw[aC (WOk.of' hw8)]
 cases h5:jF w t with
 |false=>rw[mD (by rw[h5];simp)];rfl
 |true=>
 simp only[Bool.not_true,cond_false,bd_s,aC (show w.sz≤34359738100 by omega),bne]
 cases hs:((bO w b 0).2==0) with
 |false=>rw[mD (by rw[hs];rfl)];rfl
 |true=>
 rw[aP4 (by rw[hs,h3,h4,h5];rfl)]
 have ht:bH w t=true:=by unfold jF at h5;rw[Bool.and_eq_true] at h5;exact h5.1
 obtain⟨⟨g1,g2⟩,g3,g4,g5⟩:=bHn hz h1 hs
 obtain⟨d1,d2⟩:=bHo h2 ht h4
 simp only[Bool.not_true,cond_false,bd_s,xZ d1,xZ g1,d2,aC (show(bO w b 0).1.aAH.Log.length≤34359738300 by omega)]
 have hll:=Fy (bO w b 0).1.aAH.Log 2 (dB (bR w t).Store) (bR (bO w b 0).1 b).Store
 obtain⟨l,hl⟩:∃l,l=kG (bO w b 0).1.aAH.Log 2 (dB (bR w t).Store) (bR (bO w b 0).1 b).Store:=⟨_,rfl⟩
 obtain⟨e,he⟩:∃e,e=iX l.1 (kI (bR (bO w b 0).1 b).Store l.1) (IntKind.i64.wrap (1000+IntKind.i64.wrap (10*(l.1.length:Int)))):=⟨_,rfl⟩
 obtain⟨c,hcc⟩:∃c,c=lL (bO w b 0).1.aAH l.1 e.1:=⟨_,rfl⟩
 have A1:Az w b t=bif l.2&&(e.2&&c.2) then({(bO w b 0).1 with aAH:=c.1},true) else((bO w b 0).1,false):=by rw[hcc,he,hl];rfl
 have AL:aDm w b t=l.1:=by rw[hl];rfl
 rw[←hl] at hll ⊢
 have hez:=aDj l.1 (kI (bR (bO w b 0).1 b).Store l.1) (IntKind.i64.wrap (1000+IntKind.i64.wrap (10*(l.1.length:Int))))
 have hcz:=aAr (bO w b 0).1
 cases h6:l.2 with
 |false=>rw[lM (.inl (by rw[A1,h6];rfl))];rfl
 |true=>
 rw[Bool.not_true,cond_false,aC (show([311]:List Int).length≤34359738300 by simp),bd_s,aC (show l.1.length≤34359738368 by omega),bd_s,aC (show l.1.length≤34359738300 by omega),bd_s]
 rw[show kQ (eU (bR (bO w b 0).1 b).Store.Seed [311]) (bC l.1)=kI (bR (bO w b 0).1 b).Store l.1 from rfl]
 rw[←he] at hez ⊢
 cases h7:e.2 with
 |false=>rw[lM (.inl (by rw[A1,h6,h7];rfl))];rfl
 |true=>
 rw[Bool.not_true,cond_false,aC (show(bO w b 0).1.aAH.sz≤34359738368∧l.1.length≤34359738368∧e.1.sz≤34359738368 from⟨by omega,by omega,by omega⟩),bd_s,←hcc]
 cases h8:c.2 with
 |false=>rw[lM (.inl (by rw[A1,h6,h7,h8];rfl))];rfl
 |true=>
 have A1':Az w b t=({(bO w b 0).1 with aAH:=c.1},true):=by rw[A1,h6,h7,h8];rfl
 obtain⟨k1,k2,k3,k4⟩:=aPw g1
 obtain⟨x,hx⟩:∃x,x=nX (bR (bO w b 0).1 b) l.1 (kI (bR (bO w b 0).1 b).Store l.1):=⟨_,rfl⟩
 have A2:aS1 w b t=x:=by rw[hx,←AL];rfl
 simp only[Bool.not_true,cond_false,bd_s,aC (show(bR (bO w b 0).1 b).sz≤34359738368∧l.1.length≤34359738368 from⟨by omega,by omega⟩)]
 rw[←hx]
 cases h9:x.2 with
 |false=>rw[lM (.inr (.inl (by rw[A2,h9])))];rfl
 |true=>
 obtain⟨⟨z1,z2,z3,z4,z5⟩,AE⟩:=bDw hz hs rfl A1' (x:=x.1) (by rw[A2,←h9])
 have q1:∀y:D.Device,aL ((bO w b 0).1.Devices.set b.toNat y) b=some y:=fun y=>by rw[nK k1 (by rw[List.length_set];exact k2)];simp
 rw[Bool.not_true,cond_false,aWd (h:=t) (l:=(bO w b 0).1.Sites) (N:=(bO w b 0).1.Sites.length) rfl (by omega) g5 (fun rec p s r hp hzs=>by
  simp only[bE (show p.length<(bO w b 0).1.Sites.length by omega),cond_true,bDs,bd_s,aC (aWe (h:=t) (p:=p) (r:=r) hzs)]
  cases hc:decide (bA s 1≥0) with
  |false=>simp only[cond_false,bd_s,kH,hc]
  |true=>
   obtain⟨e1,e2⟩:=bDv hzs hc
   simp only[cond_true,e1,bd_s,aC e2,bAq,kH,hc]) (fun rec S=>by simp only[bF,cond_false])]
 rw[bd_s,bI7 (d:=x.1) k1 (by rw[List.length_set];exact k2) (by simp) (by omega),List.set_set]
 simp only[bd_s,q1,aC z2,aC z5,List.set_set,aC (show c.1.sz≤34359738300∧(fB (rU x.1 t true)).2.1.sz≤34359738300 from⟨z3,z4⟩)]
 rw[AE]
 cases(fB (rU x.1 t true)).2.2<;>cases(gX c.1 (fB (rU x.1 t true)).2.1).2<;>rfl
theorem Ea (w:D.World)(d t:Int)(h:w.ok):nG w d t=some true:=by
 unfold nG
 obtain⟨e0,⟨hs,e⟩|e⟩:=szW h
 ·have hg:=bE8 w d t
  simp only[e0,bd_s,e,bMr hs,aC hs,aC (show w.sz≤100000000 by omega)]
  generalize kJ w d t=g at hg ⊢
  have hg:g.1.sz≤68719476736:=by omega
  have hw:w.sz≤68719476736:=by omega
  simp only[bG8 hg,bG8 hw,bd_s,Bool.not_true,cond_false,bG9,bJr hw,bJr hg,bNv hw,bI6,bMp hg,bMq,bNu hg,bne_self_eq_false]
 ·simp only[e0,bd_s,e];rfl
end
end Go.VK
