import Derived.Test.YtfllllgehgablaaGreatDoorXsPu
import Derived.Test.YtfllllgehgablaaGreatDoorXsM
/- Printed by wip/tools: models, walks, proofs. -/
set_option linter.all false
set_option maxRecDepth 100000
set_option maxHeartbeats 4000000
namespace Go.VK
open Go.RowKit Go.Proofs
noncomputable section
open EV (bU)
def aFf (s e:Int):Hl s e=some (bL s e):=by unfold Hl;rw[aB (by simp)];rfl
def P6 (d:D.Device)(l:List D.aAC)(k:Int)(h:d.sz<=34359738368/\l.length<=34359738368):zL d l k=some (lW d l k):=by
 unfold zL lW
 simp only[aB h.1,aB h.2,bd_s]
 cases bC l<;>cases bZ l d.Log<;>cases decide (aJ l<d.Epoch)<;>cases bG k<;>rfl
def Jh (s:D.aAH)(i:Int)(h:s.Credentials.length<=34359738368):qN s i=some (aU s i):=by
 unfold qN
 exact F7 (l:=s.Credentials) (λa=>a.Handle==i) (by omega) (λrec j hj=>by simp only[dL hj,ae,aM hj,bd_s]) (λrec=>by simp only[dP,ab])
def bI2 {a:D.aAH}{h:Int}(hk:decide (aU a h<0)=false):bA a.Credentials (aU a h)=some (fH a (aU a h)):=by
 have hr:=lV (p:=λc:D.aAK=>c.Handle==h) (i:=0) (l:=a.Credentials) hk
 exact sK (by unfold aU;omega) (by unfold aU;omega)
def Og (a:D.aAH)(h:Int)(hz:a.sz<=34359738368):tH a h=some (nD a h):=by
 have hl:a.Credentials.length<=34359738368:=hz
 unfold tH nD
 simp only[aB hz,aB hl,bd_s]
 cases aZ a with
 |false=>rfl
 |true=>
  cases hk:decide (aU a h<0) with
  |true=>rfl
  |false=>
   simp only[bf,ab,bI2 hk,bd_s]
   cases(fH a (aU a h)).Cut<;>rfl
def bI3 {s:D.Site}(hz:s.sz<=34359738300)(h:decide (aC s 1>=0)=true):bA s.Accounts (aC s 1)=some (fM s (aC s 1))/\(fM s (aC s 1)).sz<=34359738368:=by
 have h0:decide (aC s 1<0)=false:=by rw[decide_eq_true_iff] at h;exact au (by omega)
 obtain⟨e1,e2,_⟩:=bFg hz h0
 exact⟨e1,by unfold fM;omega⟩
def aVn {h:Int}{N:Nat}{F:(Nat×List D.Site->Option (List D.Site))->Nat×List D.Site->Option (List D.Site)}
  (hF:∀rec (p:List D.Site) (s:D.Site) (r:List D.Site),p.length+r.length+1=N->s.sz<=34359738300->F rec (p.length,p++s::r)=rec (p.length+1,p++jQ h s::r)) (hE:∀rec S,F rec (N,S)=some S):
  ∀(r p:List D.Site) (m:Nat),p.length+r.length=N->r.length<m->(∀s∈r,s.sz<=34359738300)->EV.bU m F (p.length,p++r)=some (p++r.map (jQ h))
 |[],p,m+1,hl,_,_=>by
  simp only[bo,ee] at hl
  rw[gX,hl,hE];simp
 |s::r,p,m+1,hl,hm,hs=>by
  simp only[av] at hl hm
  have:=aVn hF hE r (p++[jQ h s]) m (by simp;omega) (by omega) (λy hy=>hs y (by simp[hy]))
  simp only[aw,ct,ce,cA,bn] at this
  rw[gX,hF _ p s r (by omega) (hs s (by simp)),this];simp
def bCq {h:Int}{N:Nat}{l:List D.Site}(hN:l.length=N)(hN2:N<=100)(hs:∀s∈l,s.sz<=34359738300){F:(Nat×List D.Site->Option (List D.Site))->Nat×List D.Site->Option (List D.Site)}
  (hF:∀rec (p:List D.Site) (s:D.Site) (r:List D.Site),p.length+r.length+1=N->s.sz<=34359738300->F rec (p.length,p++s::r)=rec (p.length+1,p++jQ h s::r)) (hE:∀rec S,F rec (N,S)=some S):EV.bU FUEL F (0,l)=some (l.map (jQ h)):=by
 have:=aVn hF hE l [] FUEL (by simp;omega) (by have:=fO;omega) hs
 simpa using this
def Qs {w:D.World}{b t:Int}(h:((aH w b 0).2==0&&(!dU w b&&(!(b==t)&&kG w t)))=false):iC w b t=(w,false):=by unfold iC;rw[h];rfl
def aXz {w:D.World}{b t:Int}(h:((aH w b 0).2==0&&(!dU w b&&(!(b==t)&&kG w t)))=true):iC w b t=pF w b t:=by unfold iC;rw[h];rfl
def Gm {w:D.World}{b t:Int}(h:(lX w b t).2=false\/(H9 w b t).2=false\/(I4 w b t).2=false):pF w b t=(w,false):=by
 unfold pF
 rcases h with h|h|h<;>rw[h]<;>simp
def bMn {w:D.World}{b:Int}(hz:w.sz<=100000000)(h1:aV w=true)(hs:((aH w b 0).2==0)=true):(aN (aH w b 0).1 b=true/\(aH w b 0).1.Sites.length=2)/\(aH w b 0).1.sz<=300000000/\(aH w b 0).1.aAB.Log.length<=100000000/\∀s∈(aH w b 0).1.Sites,s.sz<=34359738300:=by
 obtain⟨⟨g1,g3⟩,g4⟩:=bGe hz h1 hs
 exact⟨g1,g3,g4,λs hs=>by have h1:=aH8 (g:=D.Site.sz) hs;simp only[D.World.sz] at g3;omega⟩
def bI4 {w:D.World}{b t:Int}(hz:w.sz<=100000000)(hs:((aH w b 0).2==0)=true){o:D.World}(ho:o=(aH w b 0).1){c:D.aAB}(h1:lX w b t=({o with aAB:=c},true)){x:D.Device}(h2:H9 w b t=(x,true)):
  (x.sz<=34359738300/\(mK x t true).sz<=34359738368/\c.sz<=34359738300/\(dD (mK x t true)).2.1.sz<=34359738300/\o.Mail.sz<=34359738300)/\
  pF w b t=bif (dD (mK x t true)).2.2&&(cK c (dD (mK x t true)).2.1).2 then(D.World.mk o.Now o.Seed (o.Devices.set b.toNat (dD (mK x t true)).1) o.Stolen (cK c (dD (mK x t true)).2.1).1 (o.Sites.map (jQ t)) o.aAP o.Hosts o.Pin (uD o.Mail 4 1 o.Now).1,true) else(w,false):=by
 obtain⟨⟨a1,a2,a3,a4⟩,a5,⟨b1,b2⟩,b3,b4⟩:=bBm (t:=t) hs
 have hd:=a1
 simp only[aN,aa,bp] at hd
 have hi:b.toNat<(gZ w b).Devices.length:=by omega
 have hoo:o=gZ w b:=ho
 have hx:(lW (aO (gZ w b) b) (H8 w b t) (mM (aO (gZ w b) b).Store (H8 w b t))).1=x:=by
  have:=congrArg Prod.fst h2;exact this
 have hdv:(aO (gZ w b) b).sz<=(gZ w b).sz:=(aBz a1).2.2.1
 have hxs:x.sz<=3*w.sz+21:=by
  have:=aIk (aO (gZ w b) b) (H8 w b t) (mM (aO (gZ w b) b).Store (H8 w b t))
  rw[hx] at this;omega
 have hes:=aGq x t true
 have hws:=vQ (mK x t true)
 have hW:I1 w b t=D.World.mk o.Now o.Seed (o.Devices.set b.toNat (mK x t true)) o.Stolen c (o.Sites.map (jQ t)) o.aAP o.Hosts o.Pin o.Mail:=by
  unfold I1;rw[h1,h2]
 have hdW:aO (I1 w b t) b=mK x t true:=by
  rw[hW,hoo];simp only[aO,List.getD,bh hi,cE]
 have hc0:c.sz<=({o with aAB:=c}:D.World).sz:=by simp only[D.World.sz,D.aAB.sz];omega
 have hcs:c.sz<=16*w.sz+34:=by rw[h1] at b3;exact bq hc0 b3
 have hms:o.Mail.sz<=2*w.sz+20:=by
  rw[hoo];have:(gZ w b).Mail.sz<=(gZ w b).sz:=by simp only[D.aAJ.sz,D.World.sz];omega
  omega
 refine⟨⟨by omega,by omega,by omega,by simp only[D.aAA.sz];omega,by omega⟩,?_⟩
 unfold pF
 rw[show I4 w b t=Ud (I1 w b t) b from rfl,h1,h2]
 unfold Ud
 rw[hdW,hW]
 simp only[da]
 cases(dD (mK x t true)).2.2&&(cK c (dD (mK x t true)).2.1).2 with
 |false=>rfl
 |true=>simp only[ae,Ls,List.set_set]
def bCr {h:Int}{p r:List D.Site}{s:D.Site}(hz:s.sz<=34359738300):s.Accounts.length<=34359738368:=by simp only[D.Site.sz] at hz;omega
def aB7 (w:D.World)(b t:Int)(hz:w.sz<=100000000):Dj w b t=some (iC w b t):=by
 have hw8:w.sz<=34359738368:=by omega
 unfold Dj
 simp only[bd_s,aB (show w.sz<=34359738100 by omega),aB hw8,bne]
 cases hs:((aH w b 0).2==0) with
 |false=>rw[Qs (by rw[hs];rfl)];rfl
 |true=>
 obtain⟨⟨h1,h2⟩,_⟩:=jP hs
 rw[bGd h1 h2]
 simp only[bf,ab,bd_s]
 cases h3:dU w b with
 |true=>rw[Qs (by rw[hs,h3];rfl)];rfl
 |false=>
 cases h4:(b==t) with
 |true=>rw[Qs (by rw[hs,h3,h4];rfl)];rfl
 |false=>
 rw[aB (WOk.of' hw8)]
 cases h5:kG w t with
 |false=>rw[Qs (by rw[hs,h3,h4,h5];rfl)];rfl
 |true=>
 rw[aXz (by rw[hs,h3,h4,h5];rfl)]
 have ht:aN w t=true:=by unfold kG at h5;rw[aa] at h5;exact h5.1
 obtain⟨⟨g1,g2⟩,g3,g4,g5⟩:=bMn hz h1 hs
 simp only[bf,ab,bd_s,vE ht,vE g1,aB (show(aH w b 0).1.aAB.Log.length<=34359738300 by omega)]
 have hll:=nM (aH w b 0).1.aAB.Log 2 (aY (aO w t).Store) (aO (aH w b 0).1 b).Store
 obtain⟨l,hl⟩:∃l,l=dQ (aH w b 0).1.aAB.Log 2 (aY (aO w t).Store) (aO (aH w b 0).1 b).Store:=⟨_,rfl⟩
 obtain⟨e,he⟩:∃e,e=bD l.1 (mM (aO (aH w b 0).1 b).Store l.1) (IntKind.i64.wrap (1000+IntKind.i64.wrap (10*(l.1.length:Int)))):=⟨_,rfl⟩
 obtain⟨c,hcc⟩:∃c,c=jK (aH w b 0).1.aAB l.1 e.1:=⟨_,rfl⟩
 have A1:lX w b t=bif l.2&&(e.2&&c.2) then({(aH w b 0).1 with aAB:=c.1},true) else((aH w b 0).1,false):=by rw[hcc,he,hl];rfl
 have AL:H8 w b t=l.1:=by rw[hl];rfl
 rw[<-hl] at hll ⊢
 have hez:=Ck l.1 (mM (aO (aH w b 0).1 b).Store l.1) (IntKind.i64.wrap (1000+IntKind.i64.wrap (10*(l.1.length:Int))))
 have hcz:=Oc (aH w b 0).1
 rw[aB (show([311]:List Int).length<=34359738300 by simp),bd_s,aB (show l.1.length<=34359738368 by omega),bd_s,bd_s,aB (show l.1.length<=34359738300 by omega),bd_s]
 rw[show bL (aT (aO (aH w b 0).1 b).Store.Seed [311]) (aJ l.1)=mM (aO (aH w b 0).1 b).Store l.1 from rfl]
 rw[<-he] at hez ⊢
 rw[aB (show(aH w b 0).1.aAB.sz<=34359738368/\l.1.length<=34359738368/\e.1.sz<=34359738368 from⟨by omega,by omega,by omega⟩),bd_s,<-hcc]
 cases h6:l.2 with
 |false=>rw[Gm (.inl (by rw[A1,h6];rfl))];rfl
 |true=>
 cases h7:e.2 with
 |false=>rw[Gm (.inl (by rw[A1,h6,h7];rfl))];rfl
 |true=>
 cases h8:c.2 with
 |false=>rw[Gm (.inl (by rw[A1,h6,h7,h8];rfl))];rfl
 |true=>
 have A1':lX w b t=({(aH w b 0).1 with aAB:=c.1},true):=by rw[A1,h6,h7,h8];rfl
 obtain⟨k1,k2,k3,k4⟩:=aBz g1
 obtain⟨x,hx⟩:∃x,x=lW (aO (aH w b 0).1 b) l.1 (mM (aO (aH w b 0).1 b).Store l.1):=⟨_,rfl⟩
 have A2:H9 w b t=x:=by rw[hx,<-AL];rfl
 simp only[bf,ab,bd_s,aB (show(aO (aH w b 0).1 b).sz<=34359738368/\l.1.length<=34359738368 from⟨by omega,by omega⟩)]
 rw[<-hx]
 cases h9:x.2 with
 |false=>rw[Gm (.inr (.inl (by rw[A2,h9])))];rfl
 |true=>
 obtain⟨⟨z1,z2,z3,z4,z5⟩,AE⟩:=bI4 hz hs rfl A1' (x:=x.1) (by rw[A2,<-h9])
 have q1:∀y:D.Device,bA ((aH w b 0).1.Devices.set b.toNat y) b=some y:=λy=>by rw[rQ k1 (by rw[ax];exact k2)];simp
 rw[bf,ab,bCq (h:=t) (l:=(aH w b 0).1.Sites) (N:=2) g2 (by omega) g5 (λrec p s r hp hzs=>by
  simp only[ao (show((p.length:Nat):Int)<2 by omega),ae,aZ5,bd_s,aB (bCr (h:=t) (p:=p) (r:=r) hzs)]
  cases hc:decide (aC s 1>=0) with
  |false=>simp only[ab,bd_s,jQ,hc]
  |true=>
   obtain⟨e1,e2⟩:=bI3 hzs hc
   simp only[ae,e1,bd_s,aB e2,aVk,jQ,hc]) (λrec S=>rfl)]
 simp only[bd_s,q1,aB z1,aB z2,aB z5,List.set_set,aB (show c.1.sz<=34359738300/\(dD (mK x.1 t true)).2.1.sz<=34359738300 from⟨z3,z4⟩)]
 rw[AE]
 cases(dD (mK x.1 t true)).2.2<;>cases(cK c.1 (dD (mK x.1 t true)).2.1).2<;>rfl
end
end Go.VK
