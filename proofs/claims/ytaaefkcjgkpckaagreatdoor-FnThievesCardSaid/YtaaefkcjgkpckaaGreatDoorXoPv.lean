import Derived.Test.YtaaefkcjgkpckaaGreatDoorXoPu
import Derived.Test.YtaaefkcjgkpckaaGreatDoorXoM
/- Printed by wip/tools: models, walks, proofs. -/
set_option linter.unusedVariables false
set_option linter.unusedSimpArgs false
set_option maxRecDepth 100000
set_option maxHeartbeats 4000000
namespace Go.VK
open Go.RowKit Go.Proofs
noncomputable section
open EV (dL)
theorem aCp (s e:Int):Eu s e=some (bP s e):=by unfold Eu;rw[aG (by simp)];rfl
theorem Zx (d:D.Device)(l:List D.aAA)(k:Int)(h:d.sz≤34359738368∧l.length≤34359738368):yF d l k=some (kD d l k):=by
 unfold yF kD
 simp only[aG h.1,aG h.2,bd_s]
 cases aT l<;>cases cO l d.Log<;>cases decide (aD l<d.Epoch)<;>cases bE k<;>rfl
theorem Gw (s:D.aAF)(i:Int)(h:s.Credentials.length≤34359738368):qJ s i=some (aM s i):=by
 unfold qJ
 exact zU (l:=s.Credentials) (fun a=>a.Handle==i) (by omega) (fun rec j hj=>by simp only[dZ hj,cond_true,aR hj,bd_s]) (fun rec=>by simp only[eD,cond_false])
theorem Gx (s:D.aAF)(i:Int)(h:s.Credentials.length≤34359738368):qI s i=some (aM s i):=by
 unfold qI
 exact zU (l:=s.Credentials) (fun a=>a.Handle==i) (by omega) (fun rec j hj=>by simp only[dZ hj,cond_true,aR hj,bd_s]) (fun rec=>by simp only[eD,cond_false])
theorem bEd {a:D.aAF}{h:Int}(hk:decide (aM a h<0)=false):bT a.Credentials (aM a h)=some (dU a (aM a h)):=by
 have hr:=lU (p:=fun c:D.aAJ=>c.Handle==h) (i:=0) (l:=a.Credentials) hk
 exact rQ (by unfold aM;omega) (by unfold aM;omega)
theorem Lp (a:D.aAF)(h:Int)(hz:a.sz≤34359738368):sH a h=some (kR a h):=by
 have hl:a.Credentials.length≤34359738368:=hz
 unfold sH kR
 simp only[aG hz,aG hl,bd_s]
 cases aU a with
 |false=>rfl
 |true=>
  cases hk:decide (aM a h<0) with
  |true=>rfl
  |false=>
   simp only[Bool.not_true,cond_false,bEd hk,bd_s]
   cases(dU a (aM a h)).Cut<;>rfl
theorem bEe {s:D.Site}(hz:s.sz≤34359738300)(h:decide (aC s 1≥0)=true):bT s.Accounts (aC s 1)=some (dK s (aC s 1))∧(dK s (aC s 1)).sz≤34359738368:=by
 have h0:decide (aC s 1<0)=false:=by rw[decide_eq_true_iff] at h;exact decide_eq_false (by omega)
 obtain⟨e1,e2,_⟩:=bAy hz h0
 exact⟨e1,by unfold dK;omega⟩
theorem aRh {h:Int}{N:Nat}{F:(Nat×List D.Site→Option (List D.Site))→Nat×List D.Site→Option (List D.Site)}
  (hF:∀rec (p:List D.Site) (s:D.Site) (r:List D.Site),p.length+r.length+1=N→s.sz≤34359738300→F rec (p.length,p++s::r)=rec (p.length+1,p++eH h s::r)) (hE:∀rec S,F rec (N,S)=some S):
  ∀(r p:List D.Site) (m:Nat),p.length+r.length=N→r.length<m→(∀s∈r,s.sz≤34359738300)→EV.dL m F (p.length,p++r)=some (p++r.map (eH h))
 |[],p,m+1,hl,_,_=>by
  simp only[List.length_nil,Nat.add_zero] at hl
  rw[jY,hl,hE];simp
 |s::r,p,m+1,hl,hm,hs=>by
  simp only[List.length_cons] at hl hm
  have:=aRh hF hE r (p++[eH h s]) m (by simp;omega) (by omega) (fun y hy=>hs y (by simp[hy]))
  simp only[List.length_append,List.length_singleton,List.append_assoc,List.cons_append,List.nil_append] at this
  rw[jY,hF _ p s r (by omega) (hs s (by simp)),this];simp
theorem aYc {h:Int}{N:Nat}{l:List D.Site}(hN:l.length=N)(hN2:N≤100)(hs:∀s∈l,s.sz≤34359738300){F:(Nat×List D.Site→Option (List D.Site))→Nat×List D.Site→Option (List D.Site)}
  (hF:∀rec (p:List D.Site) (s:D.Site) (r:List D.Site),p.length+r.length+1=N→s.sz≤34359738300→F rec (p.length,p++s::r)=rec (p.length+1,p++eH h s::r)) (hE:∀rec S,F rec (N,S)=some S):EV.dL FUEL F (0,l)=some (l.map (eH h)):=by
 have:=aRh hF hE l [] FUEL (by simp;omega) (by have:=jF;omega) hs
 simpa using this
theorem Om {w:D.World}{b t:Int}(h:((aV w b 0).2==0&&(!bM w b&&(!(b==t)&&cB w t)))=false):dJ w b t=(w,false):=by unfold dJ;rw[h];rfl
theorem aTo {w:D.World}{b t:Int}(h:((aV w b 0).2==0&&(!bM w b&&(!(b==t)&&cB w t)))=true):dJ w b t=mE w b t:=by unfold dJ;rw[h];rfl
theorem Ef {w:D.World}{b t:Int}(h:(kI w b t).2=false∨(zJ w b t).2=false∨(Dk w b t).2=false):mE w b t=(w,false):=by
 unfold mE
 rcases h with h|h|h<;>rw[h]<;>simp
theorem bG0 {w:D.World}{b:Int}(hz:w.sz≤100000000)(h1:bK w=true)(hs:((aV w b 0).2==0)=true):(aQ (aV w b 0).1 b=true∧(aV w b 0).1.Sites.length=2)∧(aV w b 0).1.sz≤300000000∧(aV w b 0).1.aAB.Log.length≤100000000∧∀s∈(aV w b 0).1.Sites,s.sz≤34359738300:=by
 obtain⟨⟨g1,g3⟩,g4⟩:=bGz hz h1 hs
 exact⟨g1,g3,g4,fun s hs=>by have h1:=aNr (g:=D.Site.sz) hs;simp only[D.World.sz] at g3;omega⟩
theorem bEf {w:D.World}{b t:Int}(hz:w.sz≤100000000)(hs:((aV w b 0).2==0)=true){o:D.World}(ho:o=(aV w b 0).1){c:D.aAB}(h1:kI w b t=({o with aAB:=c},true)){x:D.Device}(h2:zJ w b t=(x,true)):
  (x.sz≤34359738300∧(jZ x t true).sz≤34359738368∧c.sz≤34359738300∧(dF (jZ x t true)).2.1.sz≤34359738300∧o.Mail.sz≤34359738300)∧
  mE w b t=bif (dF (jZ x t true)).2.2&&(cZ c (dF (jZ x t true)).2.1).2 then(D.World.mk o.Now o.Seed (o.Devices.set b.toNat (dF (jZ x t true)).1) o.Stolen (cZ c (dF (jZ x t true)).2.1).1 (o.Sites.map (eH t)) o.aAU o.Hosts o.Pin (xV o.Mail 4 1 o.Now).1,true) else(w,false):=by
 obtain⟨⟨a1,a2,a3,a4⟩,a5,⟨b1,b2⟩,b3,b4⟩:=aXb (t:=t) hs
 have hd:=a1
 simp only[aQ,Bool.and_eq_true,decide_eq_true_eq] at hd
 have hi:b.toNat<(fK w b).Devices.length:=by omega
 have hoo:o=fK w b:=ho
 have hx:(kD (aF (fK w b) b) (Js w b t) (iX (aF (fK w b) b).Store (Js w b t))).1=x:=by
  have:=congrArg Prod.fst h2;exact this
 have hdv:(aF (fK w b) b).sz≤(fK w b).sz:=(aTl a1).2.2.1
 have hxs:x.sz≤3*w.sz+21:=by
  have:=aFp (aF (fK w b) b) (Js w b t) (iX (aF (fK w b) b).Store (Js w b t))
  rw[hx] at this;omega
 have hes:=aNw x t true
 have hws:=zZ (jZ x t true)
 have hW:Ot w b t=D.World.mk o.Now o.Seed (o.Devices.set b.toNat (jZ x t true)) o.Stolen c (o.Sites.map (eH t)) o.aAU o.Hosts o.Pin o.Mail:=by
  unfold Ot;rw[h1,h2]
 have hdW:aF (Ot w b t) b=jZ x t true:=by
  rw[hW,hoo];simp only[aF,List.getD,List.getElem?_set_self hi,Option.getD_some]
 have hc0:c.sz≤({o with aAB:=c}:D.World).sz:=by simp only[D.World.sz,D.aAB.sz];omega
 have hcs:c.sz≤16*w.sz+34:=by rw[h1] at b3;exact Nat.le_trans hc0 b3
 have hms:o.Mail.sz≤2*w.sz+20:=by
  rw[hoo];have:(fK w b).Mail.sz≤(fK w b).sz:=by simp only[D.aAN.sz,D.World.sz];omega
  omega
 refine⟨⟨by omega,by omega,by omega,by simp only[D.aAC.sz];omega,by omega⟩,?_⟩
 unfold mE
 rw[show Dk w b t=O1 (Ot w b t) b from rfl,h1,h2]
 unfold O1
 rw[hdW,hW]
 simp only[Bool.true_and]
 cases(dF (jZ x t true)).2.2&&(cZ c (dF (jZ x t true)).2.1).2 with
 |false=>rfl
 |true=>simp only[cond_true,mO,List.set_set]
theorem aYd {h:Int}{p r:List D.Site}{s:D.Site}(hz:s.sz≤34359738300):s.Accounts.length≤34359738368:=by simp only[D.Site.sz] at hz;omega
theorem V4 (w:D.World)(b t:Int)(hz:w.sz≤100000000):Bn w b t=some (dJ w b t):=by
 have hw8:w.sz≤34359738368:=by omega
 unfold Bn
 simp only[bd_s,aG (show w.sz≤34359738100 by omega),aG hw8,bne]
 cases hs:((aV w b 0).2==0) with
 |false=>rw[Om (by rw[hs];rfl)];rfl
 |true=>
 obtain⟨⟨h1,h2⟩,_⟩:=uQ hs
 rw[bGy h1 h2]
 simp only[Bool.not_true,cond_false,bd_s]
 cases h3:bM w b with
 |true=>rw[Om (by rw[hs,h3];rfl)];rfl
 |false=>
 cases h4:(b==t) with
 |true=>rw[Om (by rw[hs,h3,h4];rfl)];rfl
 |false=>
 rw[aG (WOk.of' hw8)]
 cases h5:cB w t with
 |false=>rw[Om (by rw[hs,h3,h4,h5];rfl)];rfl
 |true=>
 rw[aTo (by rw[hs,h3,h4,h5];rfl)]
 have ht:aQ w t=true:=by unfold cB at h5;rw[Bool.and_eq_true] at h5;exact h5.1
 obtain⟨⟨g1,g2⟩,g3,g4,g5⟩:=bG0 hz h1 hs
 simp only[Bool.not_true,cond_false,bd_s,Ya ht,Ya g1,aG (show(aV w b 0).1.aAB.Log.length≤34359738300 by omega)]
 have hll:=vP (aV w b 0).1.aAB.Log 2 (aN (aF w t).Store) (aF (aV w b 0).1 b).Store
 obtain⟨l,hl⟩:∃l,l=dD (aV w b 0).1.aAB.Log 2 (aN (aF w t).Store) (aF (aV w b 0).1 b).Store:=⟨_,rfl⟩
 obtain⟨e,he⟩:∃e,e=aW l.1 (iX (aF (aV w b 0).1 b).Store l.1) (IntKind.i64.wrap (1000+IntKind.i64.wrap (10*(l.1.length:Int)))):=⟨_,rfl⟩
 obtain⟨c,hcc⟩:∃c,c=iP (aV w b 0).1.aAB l.1 e.1:=⟨_,rfl⟩
 have A1:kI w b t=bif l.2&&(e.2&&c.2) then({(aV w b 0).1 with aAB:=c.1},true) else((aV w b 0).1,false):=by rw[hcc,he,hl];rfl
 have AL:Js w b t=l.1:=by rw[hl];rfl
 rw[←hl] at hll ⊢
 have hez:=O4 l.1 (iX (aF (aV w b 0).1 b).Store l.1) (IntKind.i64.wrap (1000+IntKind.i64.wrap (10*(l.1.length:Int))))
 have hcz:=aRf (aV w b 0).1
 rw[aG (show([311]:List Int).length≤34359738300 by simp),bd_s,aG (show l.1.length≤34359738368 by omega),bd_s,bd_s,aG (show l.1.length≤34359738300 by omega),bd_s]
 rw[show bP (bA (aF (aV w b 0).1 b).Store.Seed [311]) (aD l.1)=iX (aF (aV w b 0).1 b).Store l.1 from rfl]
 rw[←he] at hez ⊢
 rw[aG (show(aV w b 0).1.aAB.sz≤34359738368∧l.1.length≤34359738368∧e.1.sz≤34359738368 from⟨by omega,by omega,by omega⟩),bd_s,←hcc]
 cases h6:l.2 with
 |false=>rw[Ef (.inl (by rw[A1,h6];rfl))];rfl
 |true=>
 cases h7:e.2 with
 |false=>rw[Ef (.inl (by rw[A1,h6,h7];rfl))];rfl
 |true=>
 cases h8:c.2 with
 |false=>rw[Ef (.inl (by rw[A1,h6,h7,h8];rfl))];rfl
 |true=>
 have A1':kI w b t=({(aV w b 0).1 with aAB:=c.1},true):=by rw[A1,h6,h7,h8];rfl
 obtain⟨k1,k2,k3,k4⟩:=aTl g1
 obtain⟨x,hx⟩:∃x,x=kD (aF (aV w b 0).1 b) l.1 (iX (aF (aV w b 0).1 b).Store l.1):=⟨_,rfl⟩
 have A2:zJ w b t=x:=by rw[hx,←AL];rfl
 simp only[Bool.not_true,cond_false,bd_s,aG (show(aF (aV w b 0).1 b).sz≤34359738368∧l.1.length≤34359738368 from⟨by omega,by omega⟩)]
 rw[←hx]
 cases h9:x.2 with
 |false=>rw[Ef (.inr (.inl (by rw[A2,h9])))];rfl
 |true=>
 obtain⟨⟨z1,z2,z3,z4,z5⟩,AE⟩:=bEf hz hs rfl A1' (x:=x.1) (by rw[A2,←h9])
 have q1:∀y:D.Device,bT ((aV w b 0).1.Devices.set b.toNat y) b=some y:=fun y=>by rw[uI k1 (by rw[List.length_set];exact k2)];simp
 rw[Bool.not_true,cond_false,aYc (h:=t) (l:=(aV w b 0).1.Sites) (N:=2) g2 (by omega) g5 (fun rec p s r hp hzs=>by
  simp only[decide_eq_true (show((p.length:Nat):Int)<2 by omega),cond_true,bEc,bd_s,aG (aYd (h:=t) (p:=p) (r:=r) hzs)]
  cases hc:decide (aC s 1≥0) with
  |false=>simp only[cond_false,bd_s,eH,hc]
  |true=>
   obtain⟨e1,e2⟩:=bEe hzs hc
   simp only[cond_true,e1,bd_s,aG e2,bB1,eH,hc]) (fun rec S=>rfl)]
 simp only[bd_s,q1,aG z1,aG z2,aG z5,List.set_set,aG (show c.1.sz≤34359738300∧(dF (jZ x.1 t true)).2.1.sz≤34359738300 from⟨z3,z4⟩)]
 rw[AE]
 cases(dF (jZ x.1 t true)).2.2<;>cases(cZ c.1 (dF (jZ x.1 t true)).2.1).2<;>rfl
end
end Go.VK
