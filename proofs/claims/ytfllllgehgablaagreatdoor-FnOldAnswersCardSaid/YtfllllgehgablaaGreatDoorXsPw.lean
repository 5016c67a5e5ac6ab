import Derived.Test.YtfllllgehgablaaGreatDoorXsPv
import Derived.Test.YtfllllgehgablaaGreatDoorXsM
/- Printed by wip/tools: models, walks, proofs. -/
set_option linter.all false
set_option maxRecDepth 100000
set_option maxHeartbeats 4000000
namespace Go.VK
open Go.RowKit Go.Proofs
noncomputable section
open EV (bU)
def Ji (b:D.aAD)(i:Int):qM b i=some (jE b i):=by
 unfold qM
 rw[aB (by simp)];rfl
def Ro (s:D.aAI):uK s=some (sN s):=by
 unfold uK sN
 cases bI s.Vendor 1 9<;>cases bI s.Serial 0 1000000<;>cases bG s.Seed<;>rfl
def Ee (a:D.aAL)(h:a.Site.size<=34359738300/\a.aAN.size<=34359738300):oK a=some (dA a):=by
 unfold oK dA
 rw[aB h.1,aB h.2]
 cases a.Present<;>rfl
def Oh (b:D.aAD)(i:Int)(h:b.Open.length<=34359738368):sZ b i=some (dH b i):=by
 unfold sZ
 exact F7 (l:=b.Open) (λc=>c.Id==i) (by omega) (λrec j hj=>by simp only[dL hj,ae,aM hj,bd_s]) (λrec=>by simp only[dP,ab])
def Jj (b:D.aAD)(i n:Int)(h:b.sz<=34359738368):qL b i n=some (iT b i n):=by
 have hl:b.Open.length<=b.sz:=by simp only[D.aAD.sz];omega
 have ha:∀(x y:List D.aAM),x.length+y.length<=34359738400->aW x y:=λx y h=>by unfold aW;omega
 unfold qL iT
 rw[aB h,bd_s,aB h,bd_s]
 cases dW b with
 |false=>rfl
 |true=>
  cases b.Next==1000000 with
  |true=>rfl
  |false=>
   cases bI i 0 1000000 with
   |false=>rfl
   |true=>
    cases bI n 0 1000000 with
    |false=>rfl
    |true=>
     simp only[bf,dv,dw,ab,ae,bd_s]
     cases hd:decide ((b.Open.length:Int)>=16) with
     |false=>rw[ab,aB (ha _ _ (by simp only[av,bo];omega))];rfl
     |true=>
      have h16:=of_decide_eq_true hd
      rw[ae,aB (show jH b.Open 1 from⟨by omega,by omega⟩),aB (ha _ _ (by simp only[ck,av,bo];omega))];rfl
def Oi (b:D.aAD)(id acc now:Int)(h:b.sz<=34359738368):tC b id acc now=some (sM b id acc now):=by
 have hl:b.Open.length<=b.sz:=by simp only[D.aAD.sz];omega
 have ha:∀(x y:List D.aAM),x.length+y.length<=34359738400->aW x y:=λx y h=>by unfold aW;omega
 unfold tC sM
 rw[aB (show b.Open.length<=34359738368 by omega),bd_s,aB h,bd_s]
 cases dW b with
 |false=>simp only[dv,ae,bd_s,iw];rw[aB h];rfl
 |true=>
  simp only[bf,ab,bd_s,cL]
  cases hf:decide (dH b id<0) with
  |true=>rw[ae,ae,aB h];rfl
  |false=>
   obtain⟨h0,h1⟩:=lV (i:=0) hf
   have h0:0<=dH b id:=h0
   have h1:dH b id<(b.Open.length:Int):=by have:dH b id<0+(b.Open.length:Int):=h1;omega
   have hk:IntKind.i64.wrap (dH b id+1)=(((dH b id).toNat+1:Nat):Int):=by rw[aI (by omega) (by omega)];omega
   have hat:bA b.Open (dH b id)=some (aRq b (dH b id)):=sK h0 h1
   rw[ab,ab,hk,hat,aB (show jH b.Open (dH b id) from⟨by omega,by omega⟩),aB (show jH b.Open (((dH b id).toNat+1:Nat):Int) from⟨by omega,by omega⟩),
    aB (ha _ _ (by simp only[bo,bz];omega)),aB (ha _ _ (by simp only[bn,bz,ck];omega)),bd_s,bd_s,cm]
   cases(aRq b (dH b id)).aAH==acc<;>rfl
def Oj (s:D.aAI)(z:ByteArray)(i:Int)(l:List Int)(h:z.size<=34359738300/\l.length<=34359738200):sU s z i l=some (fI s z i l):=by
 have ha:∀(x y:List Int),x.length+y.length<=34359738400->aW x y:=λx y h=>by unfold aW;omega
 unfold sU fI
 cases sN s with
 |false=>rfl
 |true=>
  simp only[bf,ab,bd_s,da]
  cases s.Counter==1000000 with
  |true=>rfl
  |false=>
   simp only[aB h.1,bd_s,ab,dv,ae]
   rw[aB (ha _ _ (by simp only[bo];omega)),aB (ha _ _ (by simp only[bn,av,bo];omega)),aB (by simp only[bn,aw,av,bo];omega)]
   rfl
def P7 (s:D.Site)(id now:Int)(h:s.sz<=34359738368):zS s id now=some (rH s id now):=by
 have hb:s.Book.sz<=34359738368:=by simp only[D.Site.sz,D.aAD.sz] at h ⊢;omega
 have hl:s.Accounts.length<=34359738368:=by simp only[D.Site.sz] at h;omega
 unfold zS rH
 rw[aB h,bd_s,aB hb,bd_s,aB h,bd_s]
 cases dE s with
 |false=>rfl
 |true=>
  simp only[bf,ab,da]
  rw[aB hl,bd_s]
  cases decide (aC s id<0) with
  |true=>rfl
  |false=>cases(iT s.Book id now).2.2<;>rfl
def Rp (a:D.aAH)(m:Int)(h:a.sz<=34359738368):uL a m=some (zB a m):=by
 have hl:a.Credentials.length<=34359738368:=by simp only[D.aAH.sz] at h;omega
 unfold uL zB
 rw[aB h,bd_s,mJ (l:=a.Credentials) (λc=> !c.Cut) (.inl true) (.inr ()) (by omega) (λrec i hi=>by simp only[dL hi,ae,aM hi,bd_s]) (λrec=>by simp only[dP,ab])]
 cases aZ a with
 |false=>rfl
 |true=>
  simp only[bf,ab,bd_s,da]
  rw[show bI m a.Minimum 3=(decide (a.Minimum<=m)&&decide (m<=3)) from rfl]
  cases decide (a.Minimum<=m)<;>cases decide (m<=3)<;>try rfl
  cases hm:m==3<;>cases a.Credentials.any λc=> !c.Cut<;>simp[hm,nx,bne]
def aFg (o:D.aAN)(h:o.Host.size<=34359738368):Ib o=some (oG o):=by
 unfold Ib oG
 rw[aB h,bd_s]
 cases fE o.Host<;>rfl
def Rq (o:D.aAN)(h:oF o):Qy o=some (nE o):=by
 obtain⟨k,hk,rfl⟩:=h
 rcases(show k=0\/k=1\/k=2\/k=3\/k=4\/k=5 by omega) with rfl|rfl|rfl|rfl|rfl|rfl<;>kernel_rfl
def aM4 (o:D.aAN)(z:ByteArray)(h:He o z):aMp o z=some (rV o z):=by
 obtain⟨⟨k,hk,rfl⟩,j,hj,rfl⟩:=h
 rcases hj with rfl|rfl<;>rcases(show k=0\/k=1\/k=2\/k=3\/k=4\/k=5 by omega) with rfl|rfl|rfl|rfl|rfl|rfl<;>kernel_rfl
def Ef {α β:Type}{x:Option α}{f:α->Option β}{a:α}{r:Option β}(h:x=some a)(h2:f a=r):bd x f=r:=by rw[h];exact h2
def aVo {α β:Type}{x:Option (α⊕β)}{f:β->Option α}{b:β}{r:Option α}(h:x=some (.inr b))(h2:f b=r):nx x f=r:=by rw[h];exact h2
def aKf {τ:Type}(n:Nat){F:(Nat->Option τ)->Nat->Option τ}{b:τ}(hn:n<=18446744073709551616)(hF:∀rec i,i<n->F rec i=rec (i+1))(hE:∀rec,F rec n=some b):bU FUEL F 0=some b:=by
 have:=mJ (l:=List.replicate n ()) (λ_=>false) b b (by simpa using hn) (F:=F) (λrec i hi=>by rw[hF rec i (by simpa using hi)];rfl) (λrec=>by simpa using hE rec)
 rw[this];cases(List.replicate n ()).any λ_=>false<;>rfl
def bN4 {p:Nat->Prop}(h:p 0/\p 1/\p 2/\p 3/\p 4/\p 5/\p 6/\p 7/\p 8/\p 9/\p 10/\p 11):∀i,i<12->p i:=λi hi=>by
 match i,hi with
 |0,_=>exact h.1
 |1,_=>exact h.2.1
 |2,_=>exact h.2.2.1
 |3,_=>exact h.2.2.2.1
 |4,_=>exact h.2.2.2.2.1
 |5,_=>exact h.2.2.2.2.2.1
 |6,_=>exact h.2.2.2.2.2.2.1
 |7,_=>exact h.2.2.2.2.2.2.2.1
 |8,_=>exact h.2.2.2.2.2.2.2.2.1
 |9,_=>exact h.2.2.2.2.2.2.2.2.2.1
 |10,_=>exact h.2.2.2.2.2.2.2.2.2.2.1
 |11,_=>exact h.2.2.2.2.2.2.2.2.2.2.2
 |n+12,h=>omega
def lt8 {p:Nat->Prop}(h:p 0/\p 1/\p 2/\p 3/\p 4/\p 5/\p 6/\p 7):∀i,i<8->p i:=λi hi=>by
 match i,hi with
 |0,_=>exact h.1
 |1,_=>exact h.2.1
 |2,_=>exact h.2.2.1
 |3,_=>exact h.2.2.2.1
 |4,_=>exact h.2.2.2.2.1
 |5,_=>exact h.2.2.2.2.2.1
 |6,_=>exact h.2.2.2.2.2.2.1
 |7,_=>exact h.2.2.2.2.2.2.2
 |n+8,h=>omega
def Qt (k:Nat)(h:oF (qD k))(hx:oG (qD k)=true)(he:(nE (qD k)).toList=(Lu k).toList):
  (bd (bif (!oG (qD k)) then(some (true)) else(bd (gd (oF (qD k)) (some (nE (qD k)))) λz5=>some (!z5.toList==(Lu k).toList))) λz4=>bif z4 then(some ((D.aAN.mk false (ByteArray.mk #[]) (0:Int),false))) else(some (qD k,true)))=some (qD k,true):=by
 rw[hx,aB h,bd_s,he]
 simp[bd]
def Xg (z:ByteArray)(h:bBn z):nP z=some (vR z):=by
 obtain rfl|⟨k,hk,rfl⟩:=h
 ·unfold nP
  refine Ef (a:=(⟨#[]⟩,false,⟨#[]⟩,0)) (by kernel_rfl) ?_
  refine aVo (b:=(⟨#[]⟩,(0:Int))) (aKf 0 (by omega) (λrec i hi=>by omega) (λrec=>by kernel_rfl)) ?_
  kernel_rfl
 ·unfold nP
  rcases(show k=0\/k=1\/k=2\/k=3 by omega) with rfl|rfl|rfl|rfl
  ·refine Ef (a:=((qD 0).Host,true,⟨#[]⟩,443)) (by kernel_rfl) ?_
   refine aVo (b:=((qD 0).Host,(443:Int))) (aKf 12 (by omega) (λrec=>bN4 (by refine⟨?_,?_,?_,?_,?_,?_,?_,?_,?_,?_,?_,?_⟩<;>kernel_rfl)) (λrec=>by kernel_rfl)) ?_
   refine Ef (a:=true) (by kernel_rfl) ?_
   exact(Qt 0 ⟨0,by decide,rfl⟩ (by kernel_rfl) (by kernel_rfl)).trans (by kernel_rfl)
  ·refine Ef (a:=((qD 1).Host,true,⟨#[]⟩,443)) (by kernel_rfl) ?_
   refine aVo (b:=((qD 1).Host,(443:Int))) (aKf 12 (by omega) (λrec=>bN4 (by refine⟨?_,?_,?_,?_,?_,?_,?_,?_,?_,?_,?_,?_⟩<;>kernel_rfl)) (λrec=>by kernel_rfl)) ?_
   refine Ef (a:=true) (by kernel_rfl) ?_
   exact(Qt 1 ⟨1,by decide,rfl⟩ (by kernel_rfl) (by kernel_rfl)).trans (by kernel_rfl)
  ·refine Ef (a:=((qD 2).Host,true,⟨#[]⟩,443)) (by kernel_rfl) ?_
   refine aVo (b:=((qD 2).Host,(443:Int))) (aKf 8 (by omega) (λrec=>lt8 (by refine⟨?_,?_,?_,?_,?_,?_,?_,?_⟩<;>kernel_rfl)) (λrec=>by kernel_rfl)) ?_
   refine Ef (a:=true) (by kernel_rfl) ?_
   exact(Qt 2 ⟨2,by decide,rfl⟩ (by kernel_rfl) (by kernel_rfl)).trans (by kernel_rfl)
  ·refine Ef (a:=((qD 3).Host,true,⟨#[]⟩,443)) (by kernel_rfl) ?_
   refine aVo (b:=((qD 3).Host,(443:Int))) (aKf 8 (by omega) (λrec=>lt8 (by refine⟨?_,?_,?_,?_,?_,?_,?_,?_⟩<;>kernel_rfl)) (λrec=>by kernel_rfl)) ?_
   refine Ef (a:=true) (by kernel_rfl) ?_
   exact(Qt 3 ⟨3,by decide,rfl⟩ (by kernel_rfl) (by kernel_rfl)).trans (by kernel_rfl)
def bGg {o:D.aAN}{z:ByteArray}(h:He o z):oF o/\z.size<=34359738300/\(nE o).size<=34359738300:=by
 obtain⟨ho,j,hj,rfl⟩:=h
 refine⟨ho,?_,?_⟩
 ·rcases hj with rfl|rfl<;>exact(show 8<=34359738300 by omega)
 ·obtain⟨k,hk,rfl⟩:=ho
  have:(nE (qD k)).size<=40:=by
   rcases(show k=0\/k=1\/k=2\/k=3\/k=4\/k=5 by omega) with rfl|rfl|rfl|rfl|rfl|rfl<;>decide
  omega
def Ol (s:D.aAI)(o:D.aAN)(z:ByteArray)(i c:Int)(b:Bool)(h:He o z):sW s o z i c b=some (jF s o z i c b):=by
 obtain⟨h1,h2,h3⟩:=bGg h
 unfold sW jF aA0
 have hm:∀a,(dA a).length<=34359738200:=λa=>by simp[dA]
 rw[aB h1,bd_s,aB ⟨h2,h3⟩,bd_s,aB ⟨h2,hm _⟩,bd_s,aB h,bd_s]
 generalize fI s z i (dA (D.aAL.mk z (nE o) c i b 0 0))=q
 obtain⟨q1,q2,q3⟩:=q
 cases rV o z<;>cases q3<;>rfl
def aQf {k:Nat}(hk:k<4):vR (Lu k)=(qD k,true)/\(Lu k).size<=34359738300:=by
 rcases(show k=0\/k=1\/k=2\/k=3 by omega) with rfl|rfl|rfl|rfl
 ·exact⟨by kernel_rfl,show 20<=34359738300 by omega⟩
 ·exact⟨by kernel_rfl,show 20<=34359738300 by omega⟩
 ·exact⟨by kernel_rfl,show 16<=34359738300 by omega⟩
 ·exact⟨by kernel_rfl,show 16<=34359738300 by omega⟩
def aX0 {j:Int}(hj:j=0\/j=1){k:Nat}(hk:k<4):vR (Lu k)=(qD k,true)/\(aA j).size<=34359738300/\(Lu k).size<=34359738300:=by
 refine⟨(aQf hk).1,?_,(aQf hk).2⟩
 rcases hj with rfl|rfl<;>exact(show 8<=34359738300 by omega)
def Jk (pub:Int)(a:D.aAL)(z:ByteArray)(ch cnt:Int)(h:AsP a z):kY pub a z ch cnt=some (kP pub a z ch cnt):=by
 obtain⟨j,hj,rfl,rfl|⟨hs,k,hk,ho,hu⟩⟩:=h
 ·unfold kY
  rw[aB (show bBn bFh.aAN from .inl rfl)]
  rcases hj with rfl|rfl<;>kernel_rfl
 ·obtain⟨h1,h2,h3⟩:=aX0 hj hk
  have hm:(dA a).length=6:=by simp[dA]
  unfold kY kP
  rw[aB (show bBn a.aAN from .inr ⟨k,hk,ho⟩),bd_s,show vR a.aAN=(qD k,true) by rw[ho];exact h1,show(a.Site.toList==(aA j).toList)=true by rw[hs];simp]
  simp only[bf,ab]
  rw[aB (show He (qD k) (aA j) from⟨⟨k,by omega,rfl⟩,j,hj,rfl⟩),bd_s,hu,bd_s]
  simp only[bf,ab,bne]
  rw[aB (show a.Site.size<=34359738300/\a.aAN.size<=34359738300 by rw[hs,ho];exact⟨h2,h3⟩),bd_s,aB (show aW (dA a) [a.Counter] by unfold aW;simp only[hm,av,bo];omega),aB (show(dA a++[a.Counter]).length<=34359738300 by simp only[aw,hm,av,bo];omega),bd_s]
  cases a.Present<;>cases a.aAM==ch<;>cases gB pub (dA a++[a.Counter]) a.Signature<;>cases decide (a.Counter<=cnt)<;>rfl
def bMo {a:D.aAH}{h:Int}(hk:decide (aU a h<0)=false):bA a.Credentials (aU a h)=some (fH a (aU a h))/\(aU a h).toNat<a.Credentials.length:=by
 have hr:=lV (p:=λc:D.aAK=>c.Handle==h) (i:=0) (l:=a.Credentials) hk
 exact⟨sK (by unfold aU;omega) (by unfold aU;omega),by unfold aU;omega⟩
def Om (a:D.aAH)(x:D.aAL)(z:ByteArray)(c:Int)(h:AsP x z/\a.sz<=34359738368):tF a x z c=some (mW a x z c):=by
 obtain⟨hp,hz⟩:=h
 have hl:a.Credentials.length<=34359738368:=hz
 unfold tF mW
 simp only[aB hz,aB hl,bd_s]
 cases aZ a with
 |false=>rfl
 |true=>
  cases hk:decide (aU a x.Handle<0) with
  |true=>rfl
  |false=>
   simp only[bf,ab,(bMo hk).1,bd_s,cL]
   cases(fH a (aU a x.Handle)).Cut with
   |true=>rfl
   |false=>
    simp only[aB hp,bd_s,ab]
    generalize kP (fH a (aU a x.Handle)).Public x z c (fH a (aU a x.Handle)).Counter=k
    cases k==0<;>cases k==4<;>rfl
def bI5 {s:D.Site}{i:Int}(hz:s.sz<=34359738300)(h:decide (aC s i<0)=false):bA s.Accounts (aC s i)=some (fM s (aC s i))/\(fM s (aC s i)).sz<=34359738300/\(aC s i).toNat<s.Accounts.length:=by
 have hr:=lV (p:=λa:D.aAH=>a.Id==i) (i:=0) (l:=s.Accounts) h
 have hi:(aC s i).toNat<s.Accounts.length:=by unfold aC;omega
 have h1:=Gc (f:=D.aAH.sz) hi
 refine⟨sK (by unfold aC;omega) (by unfold aC;omega),?_,hi⟩
 unfold fM
 simp only[D.Site.sz] at hz;omega
def Xh (s:D.Site)(i c n:Int)(x:D.aAL)(h:AsP x s.Name/\s.sz<=34359738300):xI s i c n x=some (rW s i c n x):=by
 obtain⟨hp,hz⟩:=h
 have hz1:s.sz<=34359738368:=by omega
 have hb:s.Book.sz<=34359738368:=by simp only[D.Site.sz,D.aAD.sz] at hz ⊢;omega
 have hl:s.Accounts.length<=34359738368:=by simp only[D.Site.sz] at hz;omega
 have ha:aW s.Logins [i]:=by unfold aW;simp only[D.Site.sz] at hz;simp only[av,bo];omega
 unfold xI rW
 simp only[aB hz1,aB hl,aB hb,bd_s]
 cases dE s with
 |false=>rfl
 |true=>
  simp only[bf,ab,bd_s,cL]
  cases hk:decide (aC s i<0) with
  |true=>rfl
  |false=>
   obtain⟨e1,e2,e3⟩:=bI5 hz hk
   simp only[ab]
   cases(sM s.Book c i n).2 with
   |false=>rfl
   |true=>
    simp only[bf,ab,e1,bd_s,aB (show(fM s (aC s i)).sz<=34359738368 by omega)]
    cases zB (fM s (aC s i)) 3 with
    |false=>rfl
    |true=>
     simp only[bf,ab,aB (show AsP x s.Name/\(fM s (aC s i)).sz<=34359738368 from⟨hp,by omega⟩),bd_s,aB ha,bne]
     cases hc:(mW (fM s (aC s i)) x s.Name (jE s.Book c)).2==0 with
     |false=>rfl
     |true=>rw[eq_of_beq hc];rfl
def Oo {w:D.World}(h:aV w=true):w.Sites.length=2/\w.Stolen.length=w.Devices.length/\w.Devices.length<=6/\gL kN 0 w.Sites=false:=by
 simp only[aV,bI,aa,bp,cI,cz] at h
 exact⟨by omega,by omega,by omega,h.2⟩
def aFh (w:D.World)(d j:Int)(h:w.sz<=34359738368):Ia w d j=some (eD w d j):=by
 unfold Ia eD
 rw[aB h,bd_s]
 cases hw:aV w with
 |false=>rfl
 |true=>
  obtain⟨h1,h2,h3,_⟩:=Oo hw
  have e:bI d 0 (IntKind.i64.wrap ((w.Devices.length:Int)-1))=aN w d:=by
   rw[aI (by omega) (by omega)]
   unfold bI aN
   by_cases hd:d<(w.Devices.length:Int)
   ·rw[ao hd,ao (show d<=(w.Devices.length:Int)-1 by omega)]
   ·rw[au hd,au (show ¬d<=(w.Devices.length:Int)-1 by omega)]
  have e2:bI j 0 1=wH w j:=by
   unfold bI wH
   rw[h1,show((2:Nat):Int)=2 from rfl]
   by_cases hd:j<(2:Int)
   ·rw[ao hd,ao (show j<=1 by omega)]
   ·rw[au hd,au (show ¬j<=1 by omega)]
  rw[e,e2,ae]
  cases aN w d<;>cases wH w j<;>rfl
def aQg {w:D.World}{d j:Int}(h:eD w d j=true):bA w.Stolen d=some (dU w d):=by
 simp only[eD,aa] at h
 obtain⟨h1,h2,h3,_⟩:=Oo h.1
 have hd:=h.2.1
 simp only[aN,aa,bp] at hd
 unfold dU
 rw[rQ hd.1 (by omega)];simp[List.getD,ac (show d.toNat<w.Stolen.length by omega)]
def bI6 (j:Int):(ByteArray.mk #[UInt8.ofNat 119,UInt8.ofNat 119,UInt8.ofNat 119,UInt8.ofNat 46]).size+(aA j).size<=9223372036854775807:=by
 unfold aA;cases j==0<;>cases j==1<;>decide
def aB8 (s:ByteArray):aBb s=some (D.aAN.mk true s 443):=rfl
def bMp {a b:ByteArray}(h:a.toList=b.toList):a=b:=by
 rw[ByteArray.toList_eq,ByteArray.toList_eq] at h
 exact ByteArray.ext (jf.1 h)
def bGh {l:List D.Site}{k:Nat}:∀{i:Nat},gL kN i l=false->∀(h:k<l.length),dE l[k]=true/\l[k].Name=aA ((i+k:Nat):Int):=by
 induction l generalizing k with
 |nil=>intro i _ h;simp at h
 |cons s l ih=>
  intro i ha h
  simp only[gL,cn] at ha
  cases k with
  |zero=>
   have hb:=ha.1
   simp only[kN,cn,eh] at hb
   refine⟨hb.1,?_⟩
   have:=eq_of_beq hb.2
   exact bMp this
  |succ k=>
   have:=ih (k:=k) (i:=i+1) ha.2 (by simpa using h)
   simp only[eI]
   refine⟨this.1,this.2.trans ?_⟩
   congr 1;omega
def aKg {w:D.World}{d j:Int}(h:eD w d j=true):bA w.Sites j=some (mX w j)/\(mX w j).sz<=w.sz/\(mX w j).Name=aA j/\(j=0\/j=1)/\j.toNat<w.Sites.length:=by
 simp only[eD,aa] at h
 obtain⟨h1,h2,h3,h4⟩:=Oo h.1
 have hd:=h.2.2
 simp only[wH,aa,bp] at hd
 have hj:j.toNat<w.Sites.length:=by omega
 have hs:=Gc (f:=D.Site.sz) hj
 have e:mX w j=w.Sites[j.toNat]:=by unfold mX;simp[List.getD,ac hj]
 refine⟨by rw[rQ hd.1 hj,e],?_,?_,by omega,hj⟩
 ·unfold mX;simp only[D.World.sz];omega
 ·rw[e,(bGh h4 hj).2];congr 1;omega
def aX1 (s:D.Site)(i n:Int):(rH s i n).1.Name=s.Name/\(rH s i n).1.sz<=s.sz+1:=by
 unfold rH
 cases dE s&&(!decide (aC s i<0)&&(iT s.Book i n).2.2) with
 |false=>exact⟨rfl,eo _⟩
 |true=>
  refine⟨rfl,?_⟩
  have hb:(iT s.Book i n).1.Open.length<=s.Book.Open.length+1:=by
   unfold iT
   cases dW s.Book&&(!(s.Book.Next==1000000)&&(bI i 0 1000000&&bI n 0 1000000)) with
   |false=>simp only[ab];omega
   |true=>
    simp only[ae]
    cases decide ((s.Book.Open.length:Int)>=16) with
    |true=>simp only[ae,aw,ck,av,bo];omega
    |false=>simp only[ab,aw,av,bo];omega
  simp only[ae,D.Site.sz,D.aAD.sz];omega
def bGi {k:Nat}(hk:k<6){j:Int}(hj:j=0\/j=1)(h:rV (qD k) (aA j)=true):k<4:=by
 rcases(show k<4\/k=4\/k=5 by omega) with h4|rfl|rfl
 ·exact h4
 ·rcases hj with rfl|rfl<;>exact absurd h (by decide)
 ·rcases hj with rfl|rfl<;>exact absurd h (by decide)
def aX2 (s:D.aAI)(h c:Int)(p:Bool){o:D.aAN}(ho:oF o){j:Int}(hj:j=0\/j=1):AsP (jF s o (aA j) h c p).2.1 (aA j):=by
 refine⟨j,hj,rfl,?_⟩
 obtain⟨k,hk,rfl⟩:=ho
 unfold jF
 cases hm:rV (qD k) (aA j) with
 |false=>exact .inl rfl
 |true=>
  cases(fI s (aA j) h (dA (aA0 s (qD k) (aA j) h c p))).2.2 with
  |false=>exact .inl rfl
  |true=>exact .inr ⟨rfl,k,bGi hk hj hm,rfl,hm⟩
def bN5 {w:D.World}{d j:Int}{o:D.aAN}(ho:oF o)(h:eD w d j=true)(hz:w.sz<=34359738200):AsP (aMl w d j o).2.1 (sO w j).1.Name/\(sO w j).1.sz<=34359738300:=by
 obtain⟨_,h2,h3,h4,_⟩:=aKg h
 obtain⟨b1,b2⟩:=aX1 (mX w j) 1 w.Now
 exact⟨by unfold aMl sO;rw[b1,h3];exact aX2 _ _ _ _ ho h4,by unfold sO;omega⟩
def aM5 (w:D.World)(d j:Int)(o:D.aAN)(h:oF o/\w.sz<=34359738200):Um w d j o=some (kW w d j o):=by
 obtain⟨ho,hz⟩:=h
 have hz1:w.sz<=34359738368:=by omega
 unfold Um kW
 simp only[aB hz1,bd_s]
 cases ht:eD w d j with
 |false=>rfl
 |true=>
  obtain⟨e1,e2,e3,e4,e5⟩:=aKg ht
  obtain⟨p1,p2⟩:=bN5 ho ht hz
  have ht2:=ht
  simp only[eD,aa] at ht2
  have ed:=vE ht2.2.1
  have hm:w.Mail.sz<=34359738300:=by simp only[D.World.sz,D.aAJ.sz] at hz ⊢;omega
  simp only[bf,ab,e1,bd_s,aB (show(mX w j).sz<=34359738368 by omega)]
  rw[show rH (mX w j) 1 w.Now=sO w j from rfl]
  cases hb:(sO w j).2.2.2 with
  |false=>rfl
  |true=>
   simp only[bf,ab,ed,bd_s,aB (show He o (aA j) from ho.p e4)]
   rw[show jF (aO w d).Store o (aA j) d (sO w j).2.2.1 true=aMl w d j o from rfl]
   simp only[aB (show AsP (aMl w d j o).2.1 (sO w j).1.Name/\(sO w j).1.sz<=34359738300 from⟨p1,p2⟩),bd_s,aB hm,bne]
   rw[show rW (sO w j).1 1 (sO w j).2.1 w.Now (aMl w d j o).2.1=aEs w d j o from rfl]
   cases(aEs w d j o).2.1==0<;>rfl
def aFi (w:D.World)(d j:Int)(o:D.aAN)(h:oF o/\w.sz<=34359738200):Ic w d j o=some (Gd w d j o):=by
 unfold Ic;rw[aB h];rfl
def Xi (w:D.World)(d j:Int)(hz:w.sz<=34359738200):xJ w d j=some (pG w d j):=by
 have hz1:w.sz<=34359738368:=by omega
 unfold xJ pG
 simp only[aB hz1,bd_s,aB (bI6 j)]
 cases ht:eD w d j with
 |false=>rfl
 |true=>
  simp only[bf,ab,aQg ht,bd_s,da]
  cases dU w d with
  |true=>rfl
  |false=>
   simp only[dv,ab,ae]
   exact(Ef (aB (show oF (aPs j)/\w.sz<=34359738200 from⟨bL4 (aKg ht).2.2.2.1,hz⟩)) rfl)
end
end Go.VK
