import Derived.Test.YtlnjelnfjgjanaaGreatXpPu
import Derived.Test.YtlnjelnfjgjanaaGreatXpM
/- Printed by wip/tools: models, walks, proofs. -/
set_option linter.unusedVariables false
set_option linter.unusedSimpArgs false
set_option maxRecDepth 100000
set_option maxHeartbeats 4000000
namespace Go.VK
open Go.RowKit Go.Proofs
noncomputable section
open EV (bT)
theorem aCl (s e:Int):Ey s e=some (fG s e):=by unfold Ey;rw[aB (by simp)];rfl
theorem Zq (d:D.Device)(l:List D.aAC)(k:Int)(h:d.sz≤34359738368∧l.length≤34359738368):yF d l k=some (nC d l k):=by
 unfold yF nC
 simp only[aB h.1,aB h.2,bd_s]
 cases bE l<;>cases dX l d.Log<;>cases decide (aQ l<d.Epoch)<;>cases bM k<;>rfl
theorem Gm (s:D.aAF)(i:Int)(h:s.Credentials.length≤34359738368):qC s i=some (aR s i):=by
 unfold qC
 exact Xw (l:=s.Credentials) (fun a=>a.Handle==i) (by omega) (fun rec j hj=>by simp only[dQ hj,cond_true,aM hj,bd_s]) (fun rec=>by simp only[dS,cond_false])
theorem bEf {a:D.aAF}{h:Int}(hk:decide (aR a h<0)=false):bA a.Credentials (aR a h)=some (fB a (aR a h)):=by
 have hr:=kV (p:=fun c:D.aAJ=>c.Handle==h) (i:=0) (l:=a.Credentials) hk
 exact oC (by unfold aR;omega) (by unfold aR;omega)
theorem La (a:D.aAF)(h:Int)(hz:a.sz≤34359738368):sM a h=some (mK a h):=by
 have hl:a.Credentials.length≤34359738368:=hz
 unfold sM mK
 simp only[aB hz,aB hl,bd_s]
 cases aY a with
 |false=>rfl
 |true=>
  cases hk:decide (aR a h<0) with
  |true=>rfl
  |false=>
   simp only[Bool.not_true,cond_false,bEf hk,bd_s]
   cases(fB a (aR a h)).Cut<;>rfl
theorem bEg {s:D.Site}(hz:s.sz≤34359738300)(h:decide (aC s 1≥0)=true):bA s.Accounts (aC s 1)=some (fM s (aC s 1))∧(fM s (aC s 1)).sz≤34359738368:=by
 have h0:decide (aC s 1<0)=false:=by rw[decide_eq_true_iff] at h;exact decide_eq_false (by omega)
 obtain⟨e1,e2,_⟩:=bAo hz h0
 exact⟨e1,by unfold fM;omega⟩
theorem aQ5 {h:Int}{N:Nat}{F:(Nat×List D.Site→Option (List D.Site))→Nat×List D.Site→Option (List D.Site)}
  (hF:∀rec (p:List D.Site) (s:D.Site) (r:List D.Site),p.length+r.length+1=N→s.sz≤34359738300→F rec (p.length,p++s::r)=rec (p.length+1,p++jF h s::r)) (hE:∀rec S,F rec (N,S)=some S):
  ∀(r p:List D.Site) (m:Nat),p.length+r.length=N→r.length<m→(∀s∈r,s.sz≤34359738300)→EV.bT m F (p.length,p++r)=some (p++r.map (jF h))
 |[],p,m+1,hl,_,_=>by
  simp only[List.length_nil,Nat.add_zero] at hl
  rw[gU,hl,hE];simp
 |s::r,p,m+1,hl,hm,hs=>by
  simp only[List.length_cons] at hl hm
  have:=aQ5 hF hE r (p++[jF h s]) m (by simp;omega) (by omega) (fun y hy=>hs y (by simp[hy]))
  simp only[List.length_append,List.length_singleton,List.append_assoc,List.cons_append,List.nil_append] at this
  rw[gU,hF _ p s r (by omega) (hs s (by simp)),this];simp
theorem aX0 {h:Int}{N:Nat}{l:List D.Site}(hN:l.length=N)(hN2:N≤100)(hs:∀s∈l,s.sz≤34359738300){F:(Nat×List D.Site→Option (List D.Site))→Nat×List D.Site→Option (List D.Site)}
  (hF:∀rec (p:List D.Site) (s:D.Site) (r:List D.Site),p.length+r.length+1=N→s.sz≤34359738300→F rec (p.length,p++s::r)=rec (p.length+1,p++jF h s::r)) (hE:∀rec S,F rec (N,S)=some S):EV.bT FUEL F (0,l)=some (l.map (jF h)):=by
 have:=aQ5 hF hE l [] FUEL (by simp;omega) (by have:=gY;omega) hs
 simpa using this
theorem Oe {w:D.World}{b t:Int}(h:((aI w b 0).2==0&&(!dV w b&&(!(b==t)&&gF w t)))=false):jG w b t=(w,false):=by unfold jG;rw[h];rfl
theorem aTf {w:D.World}{b t:Int}(h:((aI w b 0).2==0&&(!dV w b&&(!(b==t)&&gF w t)))=true):jG w b t=rH w b t:=by unfold jG;rw[h];rfl
theorem Ei {w:D.World}{b t:Int}(h:(lX w b t).2=false∨(N7 w b t).2=false∨(N9 w b t).2=false):rH w b t=(w,false):=by
 unfold rH
 rcases h with h|h|h<;>rw[h]<;>simp
theorem bG6 {w:D.World}{b:Int}(hz:w.sz≤100000000)(h1:aN w=true)(hs:((aI w b 0).2==0)=true):(aK (aI w b 0).1 b=true∧(aI w b 0).1.Sites.length=2)∧(aI w b 0).1.sz≤300000000∧(aI w b 0).1.aAE.Log.length≤100000000∧∀s∈(aI w b 0).1.Sites,s.sz≤34359738300:=by
 obtain⟨⟨g1,g3⟩,g4⟩:=bBr hz h1 hs
 exact⟨g1,g3,g4,fun s hs=>by have h1:=M6 (g:=D.Site.sz) hs;simp only[D.World.sz] at g3;omega⟩
theorem bEh {w:D.World}{b t:Int}(hz:w.sz≤100000000)(hs:((aI w b 0).2==0)=true){o:D.World}(ho:o=(aI w b 0).1){c:D.aAE}(h1:lX w b t=({o with aAE:=c},true)){x:D.Device}(h2:N7 w b t=(x,true)):
  (x.sz≤34359738300∧(lL x t true).sz≤34359738368∧c.sz≤34359738300∧(bW (lL x t true)).2.1.sz≤34359738300∧o.Mail.sz≤34359738300)∧
  rH w b t=bif (bW (lL x t true)).2.2&&(dF c (bW (lL x t true)).2.1).2 then(D.World.mk o.Now o.Seed (o.Devices.set b.toNat (bW (lL x t true)).1) o.Stolen (dF c (bW (lL x t true)).2.1).1 (o.Sites.map (jF t)) o.aAO o.Hosts o.Pin (xU o.Mail 4 1 o.Now).1,true) else(w,false):=by
 obtain⟨⟨a1,a2,a3,a4⟩,a5,⟨b1,b2⟩,b3,b4⟩:=aWt (t:=t) hs
 have hd:=a1
 simp only[aK,Bool.and_eq_true,decide_eq_true_eq] at hd
 have hi:b.toNat<(gM w b).Devices.length:=by omega
 have hoo:o=gM w b:=ho
 have hx:(nC (aO (gM w b) b) (Yg w b t) (lM (aO (gM w b) b).Store (Yg w b t))).1=x:=by
  have:=congrArg Prod.fst h2;exact this
 have hdv:(aO (gM w b) b).sz≤(gM w b).sz:=(aHd a1).2.2.1
 have hxs:x.sz≤3*w.sz+21:=by
  have:=aFt (aO (gM w b) b) (Yg w b t) (lM (aO (gM w b) b).Store (Yg w b t))
  rw[hx] at this;omega
 have hes:=aDt x t true
 have hws:=uZ (lL x t true)
 have hW:N8 w b t=D.World.mk o.Now o.Seed (o.Devices.set b.toNat (lL x t true)) o.Stolen c (o.Sites.map (jF t)) o.aAO o.Hosts o.Pin o.Mail:=by
  unfold N8;rw[h1,h2]
 have hdW:aO (N8 w b t) b=lL x t true:=by
  rw[hW,hoo];simp only[aO,List.getD,List.getElem?_set_self hi,Option.getD_some]
 have hc0:c.sz≤({o with aAE:=c}:D.World).sz:=by simp only[D.World.sz,D.aAE.sz];omega
 have hcs:c.sz≤16*w.sz+34:=by rw[h1] at b3;exact Nat.le_trans hc0 b3
 have hms:o.Mail.sz≤2*w.sz+20:=by
  rw[hoo];have:(gM w b).Mail.sz≤(gM w b).sz:=by simp only[D.aAP.sz,D.World.sz];omega
  omega
 refine⟨⟨by omega,by omega,by omega,by simp only[D.aAD.sz];omega,by omega⟩,?_⟩
 unfold rH
 rw[show N9 w b t=Rl (N8 w b t) b from rfl,h1,h2]
 unfold Rl
 rw[hdW,hW]
 simp only[Bool.true_and]
 cases(bW (lL x t true)).2.2&&(dF c (bW (lL x t true)).2.1).2 with
 |false=>rfl
 |true=>simp only[cond_true,Iy,List.set_set]
theorem aX1 {h:Int}{p r:List D.Site}{s:D.Site}(hz:s.sz≤34359738300):s.Accounts.length≤34359738368:=by simp only[D.Site.sz] at hz;omega
theorem V3 (w:D.World)(b t:Int)(hz:w.sz≤100000000):Bt w b t=some (jG w b t):=by
 have hw8:w.sz≤34359738368:=by omega
 unfold Bt
 simp only[bd_s,aB (show w.sz≤34359738100 by omega),aB hw8,bne]
 cases hs:((aI w b 0).2==0) with
 |false=>rw[Oe (by rw[hs];rfl)];rfl
 |true=>
 obtain⟨⟨h1,h2⟩,_⟩:=lK hs
 rw[bBq h1 h2]
 simp only[Bool.not_true,cond_false,bd_s]
 cases h3:dV w b with
 |true=>rw[Oe (by rw[hs,h3];rfl)];rfl
 |false=>
 cases h4:(b==t) with
 |true=>rw[Oe (by rw[hs,h3,h4];rfl)];rfl
 |false=>
 rw[aB (WOk.of' hw8)]
 cases h5:gF w t with
 |false=>rw[Oe (by rw[hs,h3,h4,h5];rfl)];rfl
 |true=>
 rw[aTf (by rw[hs,h3,h4,h5];rfl)]
 have ht:aK w t=true:=by unfold gF at h5;rw[Bool.and_eq_true] at h5;exact h5.1
 obtain⟨⟨g1,g2⟩,g3,g4,g5⟩:=bG6 hz h1 hs
 simp only[Bool.not_true,cond_false,bd_s,uR ht,uR g1,aB (show(aI w b 0).1.aAE.Log.length≤34359738300 by omega)]
 have hll:=qQ (aI w b 0).1.aAE.Log 2 (aX (aO w t).Store) (aO (aI w b 0).1 b).Store
 obtain⟨l,hl⟩:∃l,l=gK (aI w b 0).1.aAE.Log 2 (aX (aO w t).Store) (aO (aI w b 0).1 b).Store:=⟨_,rfl⟩
 obtain⟨e,he⟩:∃e,e=bG l.1 (lM (aO (aI w b 0).1 b).Store l.1) (IntKind.i64.wrap (1000+IntKind.i64.wrap (10*(l.1.length:Int)))):=⟨_,rfl⟩
 obtain⟨c,hcc⟩:∃c,c=kF (aI w b 0).1.aAE l.1 e.1:=⟨_,rfl⟩
 have A1:lX w b t=bif l.2&&(e.2&&c.2) then({(aI w b 0).1 with aAE:=c.1},true) else((aI w b 0).1,false):=by rw[hcc,he,hl];rfl
 have AL:Yg w b t=l.1:=by rw[hl];rfl
 rw[←hl] at hll ⊢
 have hez:=Nw l.1 (lM (aO (aI w b 0).1 b).Store l.1) (IntKind.i64.wrap (1000+IntKind.i64.wrap (10*(l.1.length:Int))))
 have hcz:=Zi (aI w b 0).1
 rw[aB (show([311]:List Int).length≤34359738300 by simp),bd_s,aB (show l.1.length≤34359738368 by omega),bd_s,bd_s,aB (show l.1.length≤34359738300 by omega),bd_s]
 rw[show fG (aU (aO (aI w b 0).1 b).Store.Seed [311]) (aQ l.1)=lM (aO (aI w b 0).1 b).Store l.1 from rfl]
 rw[←he] at hez ⊢
 rw[aB (show(aI w b 0).1.aAE.sz≤34359738368∧l.1.length≤34359738368∧e.1.sz≤34359738368 from⟨by omega,by omega,by omega⟩),bd_s,←hcc]
 cases h6:l.2 with
 |false=>rw[Ei (.inl (by rw[A1,h6];rfl))];rfl
 |true=>
 cases h7:e.2 with
 |false=>rw[Ei (.inl (by rw[A1,h6,h7];rfl))];rfl
 |true=>
 cases h8:c.2 with
 |false=>rw[Ei (.inl (by rw[A1,h6,h7,h8];rfl))];rfl
 |true=>
 have A1':lX w b t=({(aI w b 0).1 with aAE:=c.1},true):=by rw[A1,h6,h7,h8];rfl
 obtain⟨k1,k2,k3,k4⟩:=aHd g1
 obtain⟨x,hx⟩:∃x,x=nC (aO (aI w b 0).1 b) l.1 (lM (aO (aI w b 0).1 b).Store l.1):=⟨_,rfl⟩
 have A2:N7 w b t=x:=by rw[hx,←AL];rfl
 simp only[Bool.not_true,cond_false,bd_s,aB (show(aO (aI w b 0).1 b).sz≤34359738368∧l.1.length≤34359738368 from⟨by omega,by omega⟩)]
 rw[←hx]
 cases h9:x.2 with
 |false=>rw[Ei (.inr (.inl (by rw[A2,h9])))];rfl
 |true=>
 obtain⟨⟨z1,z2,z3,z4,z5⟩,AE⟩:=bEh hz hs rfl A1' (x:=x.1) (by rw[A2,←h9])
 have q1:∀y:D.Device,bA ((aI w b 0).1.Devices.set b.toNat y) b=some y:=fun y=>by rw[mP k1 (by rw[List.length_set];exact k2)];simp
 rw[Bool.not_true,cond_false,aX0 (h:=t) (l:=(aI w b 0).1.Sites) (N:=2) g2 (by omega) g5 (fun rec p s r hp hzs=>by
  simp only[decide_eq_true (show((p.length:Nat):Int)<2 by omega),cond_true,aVb,bd_s,aB (aX1 (h:=t) (p:=p) (r:=r) hzs)]
  cases hc:decide (aC s 1≥0) with
  |false=>simp only[cond_false,bd_s,jF,hc]
  |true=>
   obtain⟨e1,e2⟩:=bEg hzs hc
   simp only[cond_true,e1,bd_s,aB e2,aQ2,jF,hc]) (fun rec S=>rfl)]
 simp only[bd_s,q1,aB z1,aB z2,aB z5,List.set_set,aB (show c.1.sz≤34359738300∧(bW (lL x.1 t true)).2.1.sz≤34359738300 from⟨z3,z4⟩)]
 rw[AE]
 cases(bW (lL x.1 t true)).2.2<;>cases(dF c.1 (bW (lL x.1 t true)).2.1).2<;>rfl
end
end Go.VK
