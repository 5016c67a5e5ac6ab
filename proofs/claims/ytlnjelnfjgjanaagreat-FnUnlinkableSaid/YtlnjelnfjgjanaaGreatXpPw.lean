import Derived.Test.YtlnjelnfjgjanaaGreatXpPv
import Derived.Test.YtlnjelnfjgjanaaGreatXpM
/- Printed by wip/tools: models, walks, proofs. -/
set_option linter.unusedVariables false
set_option linter.unusedSimpArgs false
set_option maxRecDepth 100000
set_option maxHeartbeats 4000000
namespace Go.VK
open Go.RowKit Go.Proofs
noncomputable section
open EV (bT)
theorem Gn (b:D.aAB)(i:Int):qB b i=some (iN b i):=by
 unfold qB
 rw[aB (by simp)];rfl
theorem Pm (s:D.aAI):uB s=some (rY s):=by
 unfold uB rY
 cases bF s.Vendor 1 9<;>cases bF s.Serial 0 1000000<;>cases bM s.Seed<;>rfl
theorem Cn (a:D.aAL)(h:a.Site.size≤34359738300∧a.aAK.size≤34359738300):nP a=some (bO a):=by
 unfold nP bO
 rw[aB h.1,aB h.2]
 cases a.Present<;>rfl
theorem Lb (b:D.aAB)(i:Int)(h:b.Open.length≤34359738368):sI b i=some (dG b i):=by
 unfold sI
 exact Xw (l:=b.Open) (fun c=>c.Id==i) (by omega) (fun rec j hj=>by simp only[dQ hj,cond_true,aM hj,bd_s]) (fun rec=>by simp only[dS,cond_false])
theorem Gp (b:D.aAB)(i n:Int)(h:b.sz≤34359738368):qA b i n=some (iF b i n):=by
 have hl:b.Open.length≤b.sz:=by simp only[D.aAB.sz];omega
 have ha:∀(x y:List D.aAM),x.length+y.length≤34359738400→aS x y:=fun x y h=>by unfold aS;omega
 unfold qA iF
 rw[aB h,bd_s,aB h,bd_s]
 cases eG b with
 |false=>rfl
 |true=>
  cases b.Next==1000000 with
  |true=>rfl
  |false=>
   cases bF i 0 1000000 with
   |false=>rfl
   |true=>
    cases bF n 0 1000000 with
    |false=>rfl
    |true=>
     simp only[Bool.not_true,Bool.not_false,Bool.and_self,cond_false,cond_true,bd_s]
     cases hd:decide ((b.Open.length:Int)≥16) with
     |false=>rw[cond_false,aB (ha _ _ (by simp only[List.length_cons,List.length_nil];omega))];rfl
     |true=>
      have h16:=of_decide_eq_true hd
      rw[cond_true,aB (show nT b.Open 1 from⟨by omega,by omega⟩),aB (ha _ _ (by simp only[List.length_drop,List.length_cons,List.length_nil];omega))];rfl
theorem Lc (b:D.aAB)(id acc now:Int)(h:b.sz≤34359738368):sJ b id acc now=some (rX b id acc now):=by
 have hl:b.Open.length≤b.sz:=by simp only[D.aAB.sz];omega
 have ha:∀(x y:List D.aAM),x.length+y.length≤34359738400→aS x y:=fun x y h=>by unfold aS;omega
 unfold sJ rX
 rw[aB (show b.Open.length≤34359738368 by omega),bd_s,aB h,bd_s]
 cases eG b with
 |false=>simp only[Bool.not_false,cond_true,bd_s,Bool.true_or];rw[aB h];rfl
 |true=>
  simp only[Bool.not_true,cond_false,bd_s,Bool.false_or]
  cases hf:decide (dG b id<0) with
  |true=>rw[cond_true,cond_true,aB h];rfl
  |false=>
   obtain⟨h0,h1⟩:=kV (i:=0) hf
   have h0:0≤dG b id:=h0
   have h1:dG b id<(b.Open.length:Int):=by have:dG b id<0+(b.Open.length:Int):=h1;omega
   have hk:IntKind.i64.wrap (dG b id+1)=(((dG b id).toNat+1:Nat):Int):=by rw[aG (by omega) (by omega)];omega
   have hat:bA b.Open (dG b id)=some (aNz b (dG b id)):=oC h0 h1
   rw[cond_false,cond_false,hk,hat,aB (show nT b.Open (dG b id) from⟨by omega,by omega⟩),aB (show nT b.Open (((dG b id).toNat+1:Nat):Int) from⟨by omega,by omega⟩),
    aB (ha _ _ (by simp only[List.length_nil,List.length_take];omega)),aB (ha _ _ (by simp only[List.nil_append,List.length_take,List.length_drop];omega)),bd_s,bd_s,Int.toNat_natCast]
   cases(aNz b (dG b id)).aAF==acc<;>rfl
theorem Ld (s:D.aAI)(z:ByteArray)(i:Int)(l:List Int)(h:z.size≤34359738300∧l.length≤34359738200):sG s z i l=some (fC s z i l):=by
 have ha:∀(x y:List Int),x.length+y.length≤34359738400→aS x y:=fun x y h=>by unfold aS;omega
 unfold sG fC
 cases rY s with
 |false=>rfl
 |true=>
  simp only[Bool.not_true,cond_false,bd_s,Bool.true_and]
  cases s.Counter==1000000 with
  |true=>rfl
  |false=>
   simp only[aB h.1,bd_s,cond_false,Bool.not_false,cond_true]
   rw[aB (ha _ _ (by simp only[List.length_nil];omega)),aB (ha _ _ (by simp only[List.nil_append,List.length_cons,List.length_nil];omega)),aB (by simp only[List.nil_append,List.length_append,List.length_cons,List.length_nil];omega)]
   rfl
theorem Zr (s:D.Site)(id now:Int)(h:s.sz≤34359738368):yM s id now=some (qR s id now):=by
 have hb:s.Book.sz≤34359738368:=by simp only[D.Site.sz,D.aAB.sz] at h ⊢;omega
 have hl:s.Accounts.length≤34359738368:=by simp only[D.Site.sz] at h;omega
 unfold yM qR
 rw[aB h,bd_s,aB hb,bd_s,aB h,bd_s]
 cases cZ s with
 |false=>rfl
 |true=>
  simp only[Bool.not_true,cond_false,Bool.true_and]
  rw[aB hl,bd_s]
  cases decide (aC s id<0) with
  |true=>rfl
  |false=>cases(iF s.Book id now).2.2<;>rfl
theorem Pn (a:D.aAF)(m:Int)(h:a.sz≤34359738368):uC a m=some (xV a m):=by
 have hl:a.Credentials.length≤34359738368:=by simp only[D.aAF.sz] at h;omega
 unfold uC xV
 rw[aB h,bd_s,mU (l:=a.Credentials) (fun c=> !c.Cut) (.inl true) (.inr ()) (by omega) (fun rec i hi=>by simp only[dQ hi,cond_true,aM hi,bd_s]) (fun rec=>by simp only[dS,cond_false])]
 cases aY a with
 |false=>rfl
 |true=>
  simp only[Bool.not_true,cond_false,bd_s,Bool.true_and]
  rw[show bF m a.Minimum 3=(decide (a.Minimum≤m)&&decide (m≤3)) from rfl]
  cases decide (a.Minimum≤m)<;>cases decide (m≤3)<;>try rfl
  cases hm:m==3<;>cases a.Credentials.any fun c=> !c.Cut<;>simp[hm,nx,bne]
theorem aCm (o:D.aAK)(h:o.Host.size≤34359738368):Fv o=some (nM o):=by
 unfold Fv nM
 rw[aB h,bd_s]
 cases jC o.Host<;>rfl
theorem Po (o:D.aAK)(h:jY o):Ov o=some (mM o):=by
 obtain⟨k,hk,rfl⟩:=h
 rcases(show k=0∨k=1∨k=2∨k=3∨k=4∨k=5 by omega) with rfl|rfl|rfl|rfl|rfl|rfl<;>kernel_rfl
theorem aJq (o:D.aAK)(z:ByteArray)(h:Eu o z):aJe o z=some (rJ o z):=by
 obtain⟨⟨k,hk,rfl⟩,j,hj,rfl⟩:=h
 rcases hj with rfl|rfl<;>rcases(show k=0∨k=1∨k=2∨k=3∨k=4∨k=5 by omega) with rfl|rfl|rfl|rfl|rfl|rfl<;>kernel_rfl
theorem eT {α β:Type}{x:Option α}{f:α→Option β}{a:α}{r:Option β}(h:x=some a)(h2:f a=r):bd x f=r:=by rw[h];exact h2
theorem aHh {α β:Type}{x:Option (α⊕β)}{f:β→Option α}{b:β}{r:Option α}(h:x=some (.inr b))(h2:f b=r):nx x f=r:=by rw[h];exact h2
theorem Ur {τ:Type}(n:Nat){F:(Nat→Option τ)→Nat→Option τ}{b:τ}(hn:n≤18446744073709551616)(hF:∀rec i,i<n→F rec i=rec (i+1))(hE:∀rec,F rec n=some b):bT FUEL F 0=some b:=by
 have:=mU (l:=List.replicate n ()) (fun _=>false) b b (by simpa using hn) (F:=F) (fun rec i hi=>by rw[hF rec i (by simpa using hi)];rfl) (fun rec=>by simpa using hE rec)
 rw[this];cases(List.replicate n ()).any fun _=>false<;>rfl
theorem bIk {p:Nat→Prop}(h:p 0∧p 1∧p 2∧p 3∧p 4∧p 5∧p 6∧p 7∧p 8∧p 9∧p 10∧p 11):∀i,i<12→p i:=fun i hi=>by
 match i,hi with
 |0,_=>exact h.1
 |1,_=>exact h.2.1
 |2,_=>exact h.2.2.1
 |3,_=>exact h.2.2.2.1
 |4,_=>exact h.2.2.2.2.1
 |5,_=>exact h.2.2.2.2.2.1
 |6,_=>exact h.2.2.2.2.2.2.1
 |7,_=>exact h.2.2.2.2.2.2.2.1
 |8,_=>exact h.2.2.2.2.2.2.2.2.1
 |9,_=>exact h.2.2.2.2.2.2.2.2.2.1
 |10,_=>exact h.2.2.2.2.2.2.2.2.2.2.1
 |11,_=>exact h.2.2.2.2.2.2.2.2.2.2.2
 |n+12,h=>omega
theorem lt8 {p:Nat→Prop}(h:p 0∧p 1∧p 2∧p 3∧p 4∧p 5∧p 6∧p 7):∀i,i<8→p i:=fun i hi=>by
 match i,hi with
 |0,_=>exact h.1
 |1,_=>exact h.2.1
 |2,_=>exact h.2.2.1
 |3,_=>exact h.2.2.2.1
 |4,_=>exact h.2.2.2.2.1
 |5,_=>exact h.2.2.2.2.2.1
 |6,_=>exact h.2.2.2.2.2.2.1
 |7,_=>exact h.2.2.2.2.2.2.2
 |n+8,h=>omega
theorem Og (k:Nat)(h:jY (pO k))(hx:nM (pO k)=true)(he:(mM (pO k)).toList=(Ja k).toList):
  (bd (bif (!nM (pO k)) then(some (true)) else(bd (gd (jY (pO k)) (some (mM (pO k)))) fun z5=>some (!z5.toList==(Ja k).toList))) fun z4=>bif z4 then(some ((D.aAK.mk false (ByteArray.mk #[]) (0:Int),false))) else(some (pO k,true)))=some (pO k,true):=by
 rw[hx,aB h,bd_s,he]
 simp[bd]
theorem Ut (z:ByteArray)(h:aWu z):nE z=some (vB z):=by
 obtain rfl|⟨k,hk,rfl⟩:=h
 ·unfold nE
  refine eT (a:=(⟨#[]⟩,false,⟨#[]⟩,0)) (by kernel_rfl) ?_
  refine aHh (b:=(⟨#[]⟩,(0:Int))) (Ur 0 (by omega) (fun rec i hi=>by omega) (fun rec=>by kernel_rfl)) ?_
  kernel_rfl
 ·unfold nE
  rcases(show k=0∨k=1∨k=2∨k=3 by omega) with rfl|rfl|rfl|rfl
  ·refine eT (a:=((pO 0).Host,true,⟨#[]⟩,443)) (by kernel_rfl) ?_
   refine aHh (b:=((pO 0).Host,(443:Int))) (Ur 12 (by omega) (fun rec=>bIk (by refine⟨?_,?_,?_,?_,?_,?_,?_,?_,?_,?_,?_,?_⟩<;>kernel_rfl)) (fun rec=>by kernel_rfl)) ?_
   refine eT (a:=true) (by kernel_rfl) ?_
   exact(Og 0 ⟨0,by decide,rfl⟩ (by kernel_rfl) (by kernel_rfl)).trans (by kernel_rfl)
  ·refine eT (a:=((pO 1).Host,true,⟨#[]⟩,443)) (by kernel_rfl) ?_
   refine aHh (b:=((pO 1).Host,(443:Int))) (Ur 12 (by omega) (fun rec=>bIk (by refine⟨?_,?_,?_,?_,?_,?_,?_,?_,?_,?_,?_,?_⟩<;>kernel_rfl)) (fun rec=>by kernel_rfl)) ?_
   refine eT (a:=true) (by kernel_rfl) ?_
   exact(Og 1 ⟨1,by decide,rfl⟩ (by kernel_rfl) (by kernel_rfl)).trans (by kernel_rfl)
  ·refine eT (a:=((pO 2).Host,true,⟨#[]⟩,443)) (by kernel_rfl) ?_
   refine aHh (b:=((pO 2).Host,(443:Int))) (Ur 8 (by omega) (fun rec=>lt8 (by refine⟨?_,?_,?_,?_,?_,?_,?_,?_⟩<;>kernel_rfl)) (fun rec=>by kernel_rfl)) ?_
   refine eT (a:=true) (by kernel_rfl) ?_
   exact(Og 2 ⟨2,by decide,rfl⟩ (by kernel_rfl) (by kernel_rfl)).trans (by kernel_rfl)
  ·refine eT (a:=((pO 3).Host,true,⟨#[]⟩,443)) (by kernel_rfl) ?_
   refine aHh (b:=((pO 3).Host,(443:Int))) (Ur 8 (by omega) (fun rec=>lt8 (by refine⟨?_,?_,?_,?_,?_,?_,?_,?_⟩<;>kernel_rfl)) (fun rec=>by kernel_rfl)) ?_
   refine eT (a:=true) (by kernel_rfl) ?_
   exact(Og 3 ⟨3,by decide,rfl⟩ (by kernel_rfl) (by kernel_rfl)).trans (by kernel_rfl)
theorem bBt {o:D.aAK}{z:ByteArray}(h:Eu o z):jY o∧z.size≤34359738300∧(mM o).size≤34359738300:=by
 obtain⟨ho,j,hj,rfl⟩:=h
 refine⟨ho,?_,?_⟩
 ·rcases hj with rfl|rfl<;>exact(show 8≤34359738300 by omega)
 ·obtain⟨k,hk,rfl⟩:=ho
  have:(mM (pO k)).size≤40:=by
   rcases(show k=0∨k=1∨k=2∨k=3∨k=4∨k=5 by omega) with rfl|rfl|rfl|rfl|rfl|rfl<;>decide
  omega
theorem Lg (s:D.aAI)(o:D.aAK)(z:ByteArray)(i c:Int)(b:Bool)(h:Eu o z):sH s o z i c b=some (iO s o z i c b):=by
 obtain⟨h1,h2,h3⟩:=bBt h
 unfold sH iO O0
 have hm:∀a,(bO a).length≤34359738200:=fun a=>by simp[bO]
 rw[aB h1,bd_s,aB ⟨h2,h3⟩,bd_s,aB ⟨h2,hm _⟩,bd_s,aB h,bd_s]
 generalize fC s z i (bO (D.aAL.mk z (mM o) c i b 0 0))=q
 obtain⟨q1,q2,q3⟩:=q
 cases rJ o z<;>cases q3<;>rfl
theorem aMw {k:Nat}(hk:k<4):vB (Ja k)=(pO k,true)∧(Ja k).size≤34359738300:=by
 rcases(show k=0∨k=1∨k=2∨k=3 by omega) with rfl|rfl|rfl|rfl
 ·exact⟨by kernel_rfl,show 20≤34359738300 by omega⟩
 ·exact⟨by kernel_rfl,show 20≤34359738300 by omega⟩
 ·exact⟨by kernel_rfl,show 16≤34359738300 by omega⟩
 ·exact⟨by kernel_rfl,show 16≤34359738300 by omega⟩
theorem aTg {j:Int}(hj:j=0∨j=1){k:Nat}(hk:k<4):vB (Ja k)=(pO k,true)∧(aA j).size≤34359738300∧(Ja k).size≤34359738300:=by
 refine⟨(aMw hk).1,?_,(aMw hk).2⟩
 rcases hj with rfl|rfl<;>exact(show 8≤34359738300 by omega)
theorem Gq (pub:Int)(a:D.aAL)(z:ByteArray)(ch cnt:Int)(h:AsP a z):kH pub a z ch cnt=some (jZ pub a z ch cnt):=by
 obtain⟨j,hj,rfl,rfl|⟨hs,k,hk,ho,hu⟩⟩:=h
 ·unfold kH
  rw[aB (show aWu bAq.aAK from .inl rfl)]
  rcases hj with rfl|rfl<;>kernel_rfl
 ·obtain⟨h1,h2,h3⟩:=aTg hj hk
  have hm:(bO a).length=6:=by simp[bO]
  unfold kH jZ
  rw[aB (show aWu a.aAK from .inr ⟨k,hk,ho⟩),bd_s,show vB a.aAK=(pO k,true) by rw[ho];exact h1,show(a.Site.toList==(aA j).toList)=true by rw[hs];simp]
  simp only[Bool.not_true,cond_false]
  rw[aB (show Eu (pO k) (aA j) from⟨⟨k,by omega,rfl⟩,j,hj,rfl⟩),bd_s,hu,bd_s]
  simp only[Bool.not_true,cond_false,bne]
  rw[aB (show a.Site.size≤34359738300∧a.aAK.size≤34359738300 by rw[hs,ho];exact⟨h2,h3⟩),bd_s,aB (show aS (bO a) [a.Counter] by unfold aS;simp only[hm,List.length_cons,List.length_nil];omega),aB (show(bO a++[a.Counter]).length≤34359738300 by simp only[List.length_append,hm,List.length_cons,List.length_nil];omega),bd_s]
  cases a.Present<;>cases a.aAM==ch<;>cases lI pub (bO a++[a.Counter]) a.Signature<;>cases decide (a.Counter≤cnt)<;>rfl
theorem bG7 {a:D.aAF}{h:Int}(hk:decide (aR a h<0)=false):bA a.Credentials (aR a h)=some (fB a (aR a h))∧(aR a h).toNat<a.Credentials.length:=by
 have hr:=kV (p:=fun c:D.aAJ=>c.Handle==h) (i:=0) (l:=a.Credentials) hk
 exact⟨oC (by unfold aR;omega) (by unfold aR;omega),by unfold aR;omega⟩
theorem Lh (a:D.aAF)(x:D.aAL)(z:ByteArray)(c:Int)(h:AsP x z∧a.sz≤34359738368):sK a x z c=some (lY a x z c):=by
 obtain⟨hp,hz⟩:=h
 have hl:a.Credentials.length≤34359738368:=hz
 unfold sK lY
 simp only[aB hz,aB hl,bd_s]
 cases aY a with
 |false=>rfl
 |true=>
  cases hk:decide (aR a x.Handle<0) with
  |true=>rfl
  |false=>
   simp only[Bool.not_true,cond_false,(bG7 hk).1,bd_s,Bool.false_or]
   cases(fB a (aR a x.Handle)).Cut with
   |true=>rfl
   |false=>
    simp only[aB hp,bd_s,cond_false]
    generalize jZ (fB a (aR a x.Handle)).Public x z c (fB a (aR a x.Handle)).Counter=k
    cases k==0<;>cases k==4<;>rfl
theorem bEi {s:D.Site}{i:Int}(hz:s.sz≤34359738300)(h:decide (aC s i<0)=false):bA s.Accounts (aC s i)=some (fM s (aC s i))∧(fM s (aC s i)).sz≤34359738300∧(aC s i).toNat<s.Accounts.length:=by
 have hr:=kV (p:=fun a:D.aAF=>a.Id==i) (i:=0) (l:=s.Accounts) h
 have hi:(aC s i).toNat<s.Accounts.length:=by unfold aC;omega
 have h1:=xO (f:=D.aAF.sz) hi
 refine⟨oC (by unfold aC;omega) (by unfold aC;omega),?_,hi⟩
 unfold fM
 simp only[D.Site.sz] at hz;omega
theorem Uu (s:D.Site)(i c n:Int)(x:D.aAL)(h:AsP x s.Name∧s.sz≤34359738300):wO s i c n x=some (rM s i c n x):=by
 obtain⟨hp,hz⟩:=h
 have hz1:s.sz≤34359738368:=by omega
 have hb:s.Book.sz≤34359738368:=by simp only[D.Site.sz,D.aAB.sz] at hz ⊢;omega
 have hl:s.Accounts.length≤34359738368:=by simp only[D.Site.sz] at hz;omega
 have ha:aS s.Logins [i]:=by unfold aS;simp only[D.Site.sz] at hz;simp only[List.length_cons,List.length_nil];omega
 unfold wO rM
 simp only[aB hz1,aB hl,aB hb,bd_s]
 cases cZ s with
 |false=>rfl
 |true=>
  simp only[Bool.not_true,cond_false,bd_s,Bool.false_or]
  cases hk:decide (aC s i<0) with
  |true=>rfl
  |false=>
   obtain⟨e1,e2,e3⟩:=bEi hz hk
   simp only[cond_false]
   cases(rX s.Book c i n).2 with
   |false=>rfl
   |true=>
    simp only[Bool.not_true,cond_false,e1,bd_s,aB (show(fM s (aC s i)).sz≤34359738368 by omega)]
    cases xV (fM s (aC s i)) 3 with
    |false=>rfl
    |true=>
     simp only[Bool.not_true,cond_false,aB (show AsP x s.Name∧(fM s (aC s i)).sz≤34359738368 from⟨hp,by omega⟩),bd_s,aB ha,bne]
     cases hc:(lY (fM s (aC s i)) x s.Name (iN s.Book c)).2==0 with
     |false=>rfl
     |true=>rw[eq_of_beq hc];rfl
theorem zC {w:D.World}(h:aN w=true):w.Sites.length=2∧w.Stolen.length=w.Devices.length∧w.Devices.length≤6∧gB nY 0 w.Sites=false:=by
 simp only[aN,bF,Bool.and_eq_true,decide_eq_true_eq,beq_iff_eq,Bool.not_eq_true'] at h
 exact⟨by omega,by omega,by omega,h.2⟩
theorem aCn (w:D.World)(d j:Int)(h:w.sz≤34359738368):Fu w d j=some (dU w d j):=by
 unfold Fu dU
 rw[aB h,bd_s]
 cases hw:aN w with
 |false=>rfl
 |true=>
  obtain⟨h1,h2,h3,_⟩:=zC hw
  have e:bF d 0 (IntKind.i64.wrap ((w.Devices.length:Int)-1))=aK w d:=by
   rw[aG (by omega) (by omega)]
   unfold bF aK
   by_cases hd:d<(w.Devices.length:Int)
   ·rw[decide_eq_true hd,decide_eq_true (show d≤(w.Devices.length:Int)-1 by omega)]
   ·rw[decide_eq_false hd,decide_eq_false (show ¬d≤(w.Devices.length:Int)-1 by omega)]
  have e2:bF j 0 1=gI w j:=by
   unfold bF gI
   rw[h1,show((2:Nat):Int)=2 from rfl]
   by_cases hd:j<(2:Int)
   ·rw[decide_eq_true hd,decide_eq_true (show j≤1 by omega)]
   ·rw[decide_eq_false hd,decide_eq_false (show ¬j≤1 by omega)]
  rw[e,e2,cond_true]
  cases aK w d<;>cases gI w j<;>rfl
theorem Oh {w:D.World}{d j:Int}(h:dU w d j=true):bA w.Stolen d=some (dV w d):=by
 simp only[dU,Bool.and_eq_true] at h
 obtain⟨h1,h2,h3,_⟩:=zC h.1
 have hd:=h.2.1
 simp only[aK,Bool.and_eq_true,decide_eq_true_eq] at hd
 unfold dV
 rw[mP hd.1 (by omega)];simp[List.getD,List.getElem?_eq_getElem (show d.toNat<w.Stolen.length by omega)]
theorem aVc (j:Int):(ByteArray.mk #[UInt8.ofNat 119,UInt8.ofNat 119,UInt8.ofNat 119,UInt8.ofNat 46]).size+(aA j).size≤9223372036854775807:=by
 unfold aA;cases j==0<;>cases j==1<;>decide
theorem V4 (s:ByteArray):Q3 s=some (D.aAK.mk true s 443):=rfl
theorem bG8 {a b:ByteArray}(h:a.toList=b.toList):a=b:=by
 rw[ByteArray.toList_eq,ByteArray.toList_eq] at h
 exact ByteArray.ext (Array.toList_inj.1 h)
theorem bBu {l:List D.Site}{k:Nat}:∀{i:Nat},gB nY i l=false→∀(h:k<l.length),cZ l[k]=true∧l[k].Name=aA ((i+k:Nat):Int):=by
 induction l generalizing k with
 |nil=>intro i _ h;simp at h
 |cons s l ih=>
  intro i ha h
  simp only[gB,Bool.or_eq_false_iff] at ha
  cases k with
  |zero=>
   have hb:=ha.1
   simp only[nY,Bool.or_eq_false_iff,Bool.not_eq_false'] at hb
   refine⟨hb.1,?_⟩
   have:=eq_of_beq hb.2
   exact bG8 this
  |succ k=>
   have:=ih (k:=k) (i:=i+1) ha.2 (by simpa using h)
   simp only[List.getElem_cons_succ]
   refine⟨this.1,this.2.trans ?_⟩
   congr 1;omega
theorem Li {w:D.World}{d j:Int}(h:dU w d j=true):bA w.Sites j=some (lZ w j)∧(lZ w j).sz≤w.sz∧(lZ w j).Name=aA j∧(j=0∨j=1)∧j.toNat<w.Sites.length:=by
 simp only[dU,Bool.and_eq_true] at h
 obtain⟨h1,h2,h3,h4⟩:=zC h.1
 have hd:=h.2.2
 simp only[gI,Bool.and_eq_true,decide_eq_true_eq] at hd
 have hj:j.toNat<w.Sites.length:=by omega
 have hs:=xO (f:=D.Site.sz) hj
 have e:lZ w j=w.Sites[j.toNat]:=by unfold lZ;simp[List.getD,List.getElem?_eq_getElem hj]
 refine⟨by rw[mP hd.1 hj,e],?_,?_,by omega,hj⟩
 ·unfold lZ;simp only[D.World.sz];omega
 ·rw[e,(bBu h4 hj).2];congr 1;omega
theorem aTh (s:D.Site)(i n:Int):(qR s i n).1.Name=s.Name∧(qR s i n).1.sz≤s.sz+1:=by
 unfold qR
 cases cZ s&&(!decide (aC s i<0)&&(iF s.Book i n).2.2) with
 |false=>exact⟨rfl,Nat.le_succ _⟩
 |true=>
  refine⟨rfl,?_⟩
  have hb:(iF s.Book i n).1.Open.length≤s.Book.Open.length+1:=by
   unfold iF
   cases eG s.Book&&(!(s.Book.Next==1000000)&&(bF i 0 1000000&&bF n 0 1000000)) with
   |false=>simp only[cond_false];omega
   |true=>
    simp only[cond_true]
    cases decide ((s.Book.Open.length:Int)≥16) with
    |true=>simp only[cond_true,List.length_append,List.length_drop,List.length_cons,List.length_nil];omega
    |false=>simp only[cond_false,List.length_append,List.length_cons,List.length_nil];omega
  simp only[cond_true,D.Site.sz,D.aAB.sz];omega
theorem bBv {k:Nat}(hk:k<6){j:Int}(hj:j=0∨j=1)(h:rJ (pO k) (aA j)=true):k<4:=by
 rcases(show k<4∨k=4∨k=5 by omega) with h4|rfl|rfl
 ·exact h4
 ·rcases hj with rfl|rfl<;>exact absurd h (by decide)
 ·rcases hj with rfl|rfl<;>exact absurd h (by decide)
theorem aTi (s:D.aAI)(h c:Int)(p:Bool){o:D.aAK}(ho:jY o){j:Int}(hj:j=0∨j=1):AsP (iO s o (aA j) h c p).2.1 (aA j):=by
 refine⟨j,hj,rfl,?_⟩
 obtain⟨k,hk,rfl⟩:=ho
 unfold iO
 cases hm:rJ (pO k) (aA j) with
 |false=>exact .inl rfl
 |true=>
  cases(fC s (aA j) h (bO (O0 s (pO k) (aA j) h c p))).2.2 with
  |false=>exact .inl rfl
  |true=>exact .inr ⟨rfl,k,bBv hk hj hm,rfl,hm⟩
theorem bIl {w:D.World}{d j:Int}{o:D.aAK}(ho:jY o)(h:dU w d j=true)(hz:w.sz≤34359738200):AsP (aJa w d j o).2.1 (sZ w j).1.Name∧(sZ w j).1.sz≤34359738300:=by
 obtain⟨_,h2,h3,h4,_⟩:=Li h
 obtain⟨b1,b2⟩:=aTh (lZ w j) 1 w.Now
 exact⟨by unfold aJa sZ;rw[b1,h3];exact aTi _ _ _ _ ho h4,by unfold sZ;omega⟩
theorem aJr (w:D.World)(d j:Int)(o:D.aAK)(h:jY o∧w.sz≤34359738200):Sa w d j o=some (mD w d j o):=by
 obtain⟨ho,hz⟩:=h
 have hz1:w.sz≤34359738368:=by omega
 unfold Sa mD
 simp only[aB hz1,bd_s]
 cases ht:dU w d j with
 |false=>rfl
 |true=>
  obtain⟨e1,e2,e3,e4,e5⟩:=Li ht
  obtain⟨p1,p2⟩:=bIl ho ht hz
  have ht2:=ht
  simp only[dU,Bool.and_eq_true] at ht2
  have ed:=uR ht2.2.1
  have hm:w.Mail.sz≤34359738300:=by simp only[D.World.sz,D.aAP.sz] at hz ⊢;omega
  simp only[Bool.not_true,cond_false,e1,bd_s,aB (show(lZ w j).sz≤34359738368 by omega)]
  rw[show qR (lZ w j) 1 w.Now=sZ w j from rfl]
  cases hb:(sZ w j).2.2.2 with
  |false=>rfl
  |true=>
   simp only[Bool.not_true,cond_false,ed,bd_s,aB (show Eu o (aA j) from ho.p e4)]
   rw[show iO (aO w d).Store o (aA j) d (sZ w j).2.2.1 true=aJa w d j o from rfl]
   simp only[aB (show AsP (aJa w d j o).2.1 (sZ w j).1.Name∧(sZ w j).1.sz≤34359738300 from⟨p1,p2⟩),bd_s,aB hm,bne]
   rw[show rM (sZ w j).1 1 (sZ w j).2.1 w.Now (aJa w d j o).2.1=aFw w d j o from rfl]
   cases(aFw w d j o).2.1==0<;>rfl
theorem aCo (w:D.World)(d j:Int)(o:D.aAK)(h:jY o∧w.sz≤34359738200):Fw w d j o=some (oJ w d j o):=by
 unfold Fw;rw[aB h];rfl
theorem Uv (w:D.World)(d j:Int)(hz:w.sz≤34359738200):wP w d j=some (xW w d j):=by
 have hz1:w.sz≤34359738368:=by omega
 unfold wP xW
 simp only[aB hz1,bd_s,aB (aVc j)]
 cases ht:dU w d j with
 |false=>rfl
 |true=>
  simp only[Bool.not_true,cond_false,Oh ht,bd_s,Bool.true_and]
  cases dV w d with
  |true=>rfl
  |false=>
   simp only[Bool.not_false,cond_false,cond_true]
   exact(eT (aB (show jY (aFu j)∧w.sz≤34359738200 from⟨bAp (Li ht).2.2.2.1,hz⟩)) rfl)
end
end Go.VK
