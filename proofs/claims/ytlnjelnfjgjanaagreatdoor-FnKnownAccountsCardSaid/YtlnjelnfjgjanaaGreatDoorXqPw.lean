import Derived.Test.YtlnjelnfjgjanaaGreatDoorXqPv
import Derived.Test.YtlnjelnfjgjanaaGreatDoorXqM
/- Printed by wip/tools: models, walks, proofs. -/
set_option linter.all false
set_option maxRecDepth 100000
set_option maxHeartbeats 4000000
namespace Go.VK
open Go.RowKit Go.Proofs
noncomputable section
open EV (cB)
def Je (b:D.aAB)(i:Int):qO b i=some (eY b i):=by
 unfold qO
 rw[aB (by simp)];rfl
def Rw (s:D.aAH):vB s=some (jC s):=by
 unfold vB jC
 cases bH s.Vendor 1 9<;>cases bH s.Serial 0 1000000<;>cases bG s.Seed<;>rfl
def Dk (a:D.aAK)(h:a.Site.size<=34359738300/\a.aAJ.size<=34359738300):oH a=some (aZ a):=by
 unfold oH aZ xQ
 rw[aB h.1,aB h.2]
 cases a.Present<;>rfl
def aUb (b:D.aAB)(i:Int)(h:b.Open.length<=34359738368):tQ b i=some (bN b i):=by
 unfold tQ
 exact sI (l:=b.Open) (λc=>c.Id==i) (by omega) (λrec j hj=>by simp only[dB hj,ac,aN hj,bd_s]) (λrec=>by simp only[dF,ab])
def Og (b:D.aAB)(i:Int)(h:b.Open.length<=34359738368):tK b i=some (bN b i):=by
 unfold tK
 exact sI (l:=b.Open) (λc=>c.Id==i) (by omega) (λrec j hj=>by simp only[dB hj,ac,aN hj,bd_s]) (λrec=>by simp only[dF,ab])
def aRl (b:D.aAB)(i n:Int)(h:b.sz<=34359738368):qQ b i n=some (dL b i n):=by
 have hl:b.Open.length<=b.sz:=by simp only[D.aAB.sz];omega
 have ha:∀(x y:List D.aAI),x.length+y.length<=34359738400->aS x y:=λx y h=>by unfold aS;omega
 unfold qQ dL
 rw[aB h,bd_s,aB h,bd_s]
 cases dN b with
 |false=>rfl
 |true=>
  cases b.Next==1000000 with
  |true=>rfl
  |false=>
   cases bH i 0 1000000 with
   |false=>rfl
   |true=>
    cases bH n 0 1000000 with
    |false=>rfl
    |true=>
     simp only[ay,dr,dt,ab,ac,bd_s]
     cases hd:decide ((b.Open.length:Int)>=16) with
     |false=>rw[ab,aB (ha _ _ (by simp only[au,bn];omega))];rfl
     |true=>
      have h16:=of_decide_eq_true hd
      rw[ac,aB (show iQ b.Open 1 from⟨by omega,by omega⟩),aB (ha _ _ (by simp only[ci,au,bn];omega))];rfl
def Jf (b:D.aAB)(i n:Int)(h:b.sz<=34359738368):qN b i n=some (dL b i n):=by
 have hl:b.Open.length<=b.sz:=by simp only[D.aAB.sz];omega
 have ha:∀(x y:List D.aAI),x.length+y.length<=34359738400->aS x y:=λx y h=>by unfold aS;omega
 unfold qN dL
 rw[aB h,bd_s,aB h,bd_s]
 cases hb:dN b with
 |false=>rfl
 |true=>
  have h16:b.Open.length<=16:=by
   simp only[dN,aa,cb] at hb;exact hb.1.2
  cases b.Next==1000000 with
  |true=>rfl
  |false=>
   cases bH i 0 1000000 with
   |false=>rfl
   |true=>
    cases bH n 0 1000000 with
    |false=>rfl
    |true=>
     simp only[ay,dr,dt,ab,ac,bd_s]
     by_cases hd:b.Open.length=16
     ·rw[show((b.Open.length:Int)==16)=true by rw[hd];rfl,show decide ((b.Open.length:Int)>=16)=true from ao (by omega),ac,ac,aB (show iQ b.Open 1 from⟨by omega,by omega⟩),aB (ha _ _ (by simp only[bn,ci];omega)),bd_s,aB (ha _ _ (by simp only[bm,ci,au,bn];omega))];rfl
     ·rw[show((b.Open.length:Int)==16)=false from cq.2 (by omega),show decide ((b.Open.length:Int)>=16)=false from ap (by omega),ab,ab,bd_s,aB (ha _ _ (by simp only[au,bn];omega))];rfl
def aUc (b:D.aAB)(id acc now:Int)(h:b.sz<=34359738368):tT b id acc now=some (sP b id acc now):=by
 have hl:b.Open.length<=b.sz:=by simp only[D.aAB.sz];omega
 have ha:∀(x y:List D.aAI),x.length+y.length<=34359738400->aS x y:=λx y h=>by unfold aS;omega
 unfold tT sP
 rw[aB (show b.Open.length<=34359738368 by omega),bd_s,aB h,bd_s]
 cases dN b with
 |false=>simp only[dr,ac,bd_s,jb];rw[aB h];rfl
 |true=>
  simp only[ay,ab,bd_s,cC]
  cases hf:decide (bN b id<0) with
  |true=>rw[ac,ac,aB h];rfl
  |false=>
   obtain⟨h0,h1⟩:=nZ (i:=0) hf
   have h0:0<=bN b id:=h0
   have h1:bN b id<(b.Open.length:Int):=by have:bN b id<0+(b.Open.length:Int):=h1;omega
   have hk:IntKind.i64.wrap (bN b id+1)=(((bN b id).toNat+1:Nat):Int):=by rw[aJ (by omega) (by omega)];omega
   have hat:bD b.Open (bN b id)=some (Lt b (bN b id)):=sN h0 h1
   rw[ab,ab,hk,hat,aB (show iQ b.Open (bN b id) from⟨by omega,by omega⟩),aB (show iQ b.Open (((bN b id).toNat+1:Nat):Int) from⟨by omega,by omega⟩),
    aB (ha _ _ (by simp only[bn,ca];omega)),aB (ha _ _ (by simp only[bm,ca,ci];omega)),bd_s,bd_s,bv]
   cases(Lt b (bN b id)).Account==acc<;>rfl
def Oh (b:D.aAB)(id acc now:Int)(h:b.sz<=34359738368):tL b id acc now=some (sP b id acc now):=by
 have hl:b.Open.length<=b.sz:=by simp only[D.aAB.sz];omega
 have ha:∀(x y:List D.aAI),x.length+y.length<=34359738400->aS x y:=λx y h=>by unfold aS;omega
 unfold tL sP
 rw[aB h,bd_s,aB (show b.Open.length<=34359738368 by omega),bd_s,aB h,bd_s]
 cases dN b with
 |false=>rfl
 |true=>
  simp only[ay,ab,bd_s,cC]
  cases hf:decide (bN b id<0) with
  |true=>rfl
  |false=>
   obtain⟨h0,h1⟩:=nZ (i:=0) hf
   have h0:0<=bN b id:=h0
   have h1:bN b id<(b.Open.length:Int):=by have:bN b id<0+(b.Open.length:Int):=h1;omega
   have hk:IntKind.i64.wrap (bN b id+1)=(((bN b id).toNat+1:Nat):Int):=by rw[aJ (by omega) (by omega)];omega
   have hat:bD b.Open (bN b id)=some (Lt b (bN b id)):=sN h0 h1
   rw[ab,ab,hk,hat,bd_s,aB (show iQ b.Open (bN b id) from⟨by omega,by omega⟩),aB (show iQ b.Open (((bN b id).toNat+1:Nat):Int) from⟨by omega,by omega⟩),
    aB (ha _ _ (by simp only[bn,ca];omega)),aB (ha _ _ (by simp only[bm,ca,ci];omega)),bv]
   cases(Lt b (bN b id)).Account==acc<;>rfl
def aUd (s:D.aAH)(z:ByteArray)(i:Int)(l:List Int)(h:z.size<=34359738300/\l.length<=34359738200):tO s z i l=some (kF s z i l):=by
 have ha:∀(x y:List Int),x.length+y.length<=34359738400->aS x y:=λx y h=>by unfold aS;omega
 unfold tO kF
 cases jC s with
 |false=>rfl
 |true=>
  simp only[ay,ab,bd_s,cA]
  cases s.Counter==1000000 with
  |true=>rfl
  |false=>
   simp only[aB h.1,bd_s,ab,dr,ac]
   rw[aB (ha _ _ (by simp only[bn];omega)),aB (ha _ _ (by simp only[bm,au,bn];omega)),aB (by simp only[bm,av,au,bn];omega)]
   rfl
def Oi (s:D.aAH)(z:ByteArray)(i:Int)(l:List Int)(h:z.size<=34359738300/\l.length<=34359738200):tH s z i l=some (kF s z i l):=by
 unfold tH kF
 cases jC s with
 |false=>rfl
 |true=>
  simp only[ay,ab,bd_s,cA]
  cases s.Counter==1000000 with
  |true=>rfl
  |false=>
   simp only[aB h.1,bd_s,ab,dr,ac]
   have e:kI l [[IntKind.i64.wrap (s.Counter+1)]]=l++[IntKind.i64.wrap (s.Counter+1)]:=by simp[kI]
   rw[aB (by simp[nX];omega),bd_s,e,aB (by simp only[av,au,bn];omega)]
   rfl
def aYx (s:D.Site)(id now:Int)(h:s.sz<=34359738368):Af s id now=some (lX s id now):=by
 have hb:s.Book.sz<=34359738368:=by simp only[D.Site.sz,D.aAB.sz] at h ⊢;omega
 have hl:s.Accounts.length<=34359738368:=by simp only[D.Site.sz] at h;omega
 unfold Af lX
 rw[aB h,bd_s,aB hb,bd_s,aB h,bd_s]
 cases bR s with
 |false=>rfl
 |true=>
  simp only[ay,ab,cA]
  rw[aB hl,bd_s]
  cases decide (aC s id<0) with
  |true=>rfl
  |false=>cases(dL s.Book id now).2.2<;>rfl
def O4 (s:D.Site)(id now:Int)(h:s.sz<=34359738368):Ac s id now=some (lX s id now):=by
 have hb:s.Book.sz<=34359738368:=by simp only[D.Site.sz,D.aAB.sz] at h ⊢;omega
 have hl:s.Accounts.length<=34359738368:=by simp only[D.Site.sz] at h;omega
 unfold Ac lX
 rw[aB h,bd_s,aB h,bd_s]
 cases bR s with
 |false=>rfl
 |true=>
  simp only[ay,ab,cA]
  rw[aB hl,bd_s,bd_s]
  cases decide (aC s id<0) with
  |true=>rfl
  |false=>
   rw[ab,aB hb,bd_s]
   cases(dL s.Book id now).2.2<;>rfl
def aUp (a:D.Account)(m:Int)(h:a.sz<=34359738368):vE a m=some (nG a m):=by
 have hl:a.Credentials.length<=34359738368:=by simp only[D.Account.sz] at h;omega
 unfold vE nG
 rw[aB h,bd_s,kX (l:=a.Credentials) (λc=> !c.Cut) (.inl true) (.inr ()) (by omega) (λrec i hi=>by simp only[dB hi,ac,aN hi,bd_s]) (λrec=>by simp only[dF,ab])]
 cases aV a with
 |false=>rfl
 |true=>
  simp only[ay,ab,bd_s,cA]
  rw[show bH m a.Minimum 3=(decide (a.Minimum<=m)&&decide (m<=3)) from rfl]
  cases decide (a.Minimum<=m)<;>cases decide (m<=3)<;>try rfl
  cases hm:m==3<;>cases a.Credentials.any λc=> !c.Cut<;>simp[hm,nx,bne]
def Rx (a:D.Account)(m:Int)(h:a.sz<=34359738368):vC a m=some (nG a m):=by
 have hl:a.Credentials.length<=34359738368:=by simp only[D.Account.sz] at h;omega
 unfold vC nG
 rw[aB h,bd_s,kX (l:=a.Credentials) (λc=> !c.Cut) (.inl true) (.inr ()) (by omega) (λrec i hi=>by simp only[dB hi,ac,aN hi,bd_s]) (λrec=>by simp only[dF,ab])]
 cases ha:aV a with
 |false=>rfl
 |true=>
  have h1:1<=a.Minimum:=by
   simp only[aV,bH,aa,cb] at ha;exact ha.1.1.2.1
  simp only[ay,ab,bd_s,cA]
  rw[show bH m 1 3=(decide (1<=m)&&decide (m<=3)) from rfl]
  by_cases hm:a.Minimum<=m
  ·rw[show decide (a.Minimum<=m)=true from ao hm,show decide (1<=m)=true from ao (by omega),show decide (m<a.Minimum)=false from ap (by omega)]
   cases decide (m<=3)<;>try rfl
   cases hm:m==3<;>cases a.Credentials.any λc=> !c.Cut<;>simp[hm,nx,bne]
  ·rw[show decide (a.Minimum<=m)=false from ap hm,show decide (m<a.Minimum)=true from ao (by omega)]
   cases decide (1<=m)<;>cases decide (m<=3)<;>rfl
def aE1 (o:D.aAJ):Hz o=some (kP o):=by
 unfold Hz kP
 cases fJ o.Host<;>rfl
def aUq (o:D.aAJ)(h:lY o):Re o=some (lZ o):=by
 obtain⟨k,hk,rfl⟩:=h
 rcases(show k=0\/k=1\/k=2\/k=3\/k=4\/k=5 by omega) with rfl|rfl|rfl|rfl|rfl|rfl<;>kernel_rfl
def Ry (o:D.aAJ)(h:lY o):Rc o=some (lZ o):=by
 obtain⟨k,hk,rfl⟩:=h
 rcases(show k=0\/k=1\/k=2\/k=3\/k=4\/k=5 by omega) with rfl|rfl|rfl|rfl|rfl|rfl<;>kernel_rfl
def aMj (o:D.aAJ)(z:ByteArray)(h:uK o z):aL4 o z=some (jD o z):=by
 obtain⟨⟨k,hk,rfl⟩,j,hj,rfl⟩:=h
 rcases hj with rfl|rfl<;>rcases(show k=0\/k=1\/k=2\/k=3\/k=4\/k=5 by omega) with rfl|rfl|rfl|rfl|rfl|rfl<;>kernel_rfl
def jH {α β:Type}{x:Option α}{f:α->Option β}{a:α}{r:Option β}(h:x=some a)(h2:f a=r):bd x f=r:=by rw[h];exact h2
def Vi {α β:Type}{x:Option (α⊕β)}{f:β->Option α}{b:β}{r:Option α}(h:x=some (.inr b))(h2:f b=r):nx x f=r:=by rw[h];exact h2
def aBx {τ:Type}(n:Nat){F:(Nat->Option τ)->Nat->Option τ}{b:τ}(hn:n<=18446744073709551616)(hF:∀rec i,i<n->F rec i=rec (i+1))(hE:∀rec,F rec n=some b):cB FUEL F 0=some b:=by
 have:=kX (l:=List.replicate n ()) (λ_=>false) b b (by simpa using hn) (F:=F) (λrec i hi=>by rw[hF rec i (by simpa using hi)];rfl) (λrec=>by simpa using hE rec)
 rw[this];cases(List.replicate n ()).any λ_=>false<;>rfl
def bMn {p:Nat->Prop}(h:p 0/\p 1/\p 2/\p 3/\p 4/\p 5/\p 6/\p 7/\p 8/\p 9/\p 10/\p 11):∀i,i<12->p i:=λi hi=>by
 match i,hi with
 |0,_=>exact h.1
 |1,_=>exact h.2.1
 |2,_=>exact h.2.2.1
 |3,_=>exact h.2.2.2.1
 |4,_=>exact h.2.2.2.2.1
 |5,_=>exact h.2.2.2.2.2.1
 |6,_=>exact h.2.2.2.2.2.2.1
 |7,_=>exact h.2.2.2.2.2.2.2.1
 |8,_=>exact h.2.2.2.2.2.2.2.2.1
 |9,_=>exact h.2.2.2.2.2.2.2.2.2.1
 |10,_=>exact h.2.2.2.2.2.2.2.2.2.2.1
 |11,_=>exact h.2.2.2.2.2.2.2.2.2.2.2
 |n+12,h=>omega
def lt8 {p:Nat->Prop}(h:p 0/\p 1/\p 2/\p 3/\p 4/\p 5/\p 6/\p 7):∀i,i<8->p i:=λi hi=>by
 match i,hi with
 |0,_=>exact h.1
 |1,_=>exact h.2.1
 |2,_=>exact h.2.2.1
 |3,_=>exact h.2.2.2.1
 |4,_=>exact h.2.2.2.2.1
 |5,_=>exact h.2.2.2.2.2.1
 |6,_=>exact h.2.2.2.2.2.2.1
 |7,_=>exact h.2.2.2.2.2.2.2
 |n+8,h=>omega
def oL (k:Nat)(h:lY (kL k))(hx:kP (kL k)=true)(he:(lZ (kL k)).toList=(tY k).toList):
  (bd (bif (!kP (kL k)) then(some (true)) else(bd (gd (lY (kL k)) (some (lZ (kL k)))) λz5=>some (!z5.toList==(tY k).toList))) λz4=>bif z4 then(some ((D.aAJ.mk false (ByteArray.mk #[]) (0:Int),false))) else(some (kL k,true)))=some (kL k,true):=by
 rw[hx,aB h,bd_s,he]
 simp[bd]
def aWq (z:ByteArray)(h:aL2 z):nK z=some (mK z):=by
 obtain rfl|⟨k,hk,rfl⟩:=h
 ·unfold nK
  refine jH (a:=(⟨#[]⟩,false,⟨#[]⟩,0)) (by kernel_rfl) ?_
  refine Vi (b:=(⟨#[]⟩,(0:Int))) (aBx 0 (by omega) (λrec i hi=>by omega) (λrec=>by kernel_rfl)) ?_
  kernel_rfl
 ·unfold nK
  rcases(show k=0\/k=1\/k=2\/k=3 by omega) with rfl|rfl|rfl|rfl
  ·refine jH (a:=((kL 0).Host,true,⟨#[]⟩,443)) (by kernel_rfl) ?_
   refine Vi (b:=((kL 0).Host,(443:Int))) (aBx 12 (by omega) (λrec=>bMn (by refine⟨?_,?_,?_,?_,?_,?_,?_,?_,?_,?_,?_,?_⟩<;>kernel_rfl)) (λrec=>by kernel_rfl)) ?_
   refine jH (a:=true) (by kernel_rfl) ?_
   exact(oL 0 ⟨0,by decide,rfl⟩ (by kernel_rfl) (by kernel_rfl)).trans (by kernel_rfl)
  ·refine jH (a:=((kL 1).Host,true,⟨#[]⟩,443)) (by kernel_rfl) ?_
   refine Vi (b:=((kL 1).Host,(443:Int))) (aBx 12 (by omega) (λrec=>bMn (by refine⟨?_,?_,?_,?_,?_,?_,?_,?_,?_,?_,?_,?_⟩<;>kernel_rfl)) (λrec=>by kernel_rfl)) ?_
   refine jH (a:=true) (by kernel_rfl) ?_
   exact(oL 1 ⟨1,by decide,rfl⟩ (by kernel_rfl) (by kernel_rfl)).trans (by kernel_rfl)
  ·refine jH (a:=((kL 2).Host,true,⟨#[]⟩,443)) (by kernel_rfl) ?_
   refine Vi (b:=((kL 2).Host,(443:Int))) (aBx 8 (by omega) (λrec=>lt8 (by refine⟨?_,?_,?_,?_,?_,?_,?_,?_⟩<;>kernel_rfl)) (λrec=>by kernel_rfl)) ?_
   refine jH (a:=true) (by kernel_rfl) ?_
   exact(oL 2 ⟨2,by decide,rfl⟩ (by kernel_rfl) (by kernel_rfl)).trans (by kernel_rfl)
  ·refine jH (a:=((kL 3).Host,true,⟨#[]⟩,443)) (by kernel_rfl) ?_
   refine Vi (b:=((kL 3).Host,(443:Int))) (aBx 8 (by omega) (λrec=>lt8 (by refine⟨?_,?_,?_,?_,?_,?_,?_,?_⟩<;>kernel_rfl)) (λrec=>by kernel_rfl)) ?_
   refine jH (a:=true) (by kernel_rfl) ?_
   exact(oL 3 ⟨3,by decide,rfl⟩ (by kernel_rfl) (by kernel_rfl)).trans (by kernel_rfl)
def Xr (z:ByteArray)(h:aL2 z):xX z=some (mK z):=by
 obtain rfl|⟨k,hk,rfl⟩:=h
 ·kernel_rfl
 ·unfold xX
  rcases(show k=0\/k=1\/k=2\/k=3 by omega) with rfl|rfl|rfl|rfl
  ·refine jH (a:=(tY 0,false)) (by kernel_rfl) ?_
   refine jH (a:=((kL 0).Host,true,true,⟨#[]⟩,443)) (by kernel_rfl) ?_
   simp only[ay,ab]
   refine jH (a:=((kL 0).Host,⟨#[]⟩,false)) (by kernel_rfl) ?_
   refine Vi (b:=(443:Int)) (by kernel_rfl) ?_
   exact(oL 0 ⟨0,by decide,rfl⟩ (by kernel_rfl) (by kernel_rfl)).trans (by kernel_rfl)
  ·refine jH (a:=(tY 1,false)) (by kernel_rfl) ?_
   refine jH (a:=((kL 1).Host,true,true,⟨#[]⟩,443)) (by kernel_rfl) ?_
   simp only[ay,ab]
   refine jH (a:=((kL 1).Host,⟨#[]⟩,false)) (by kernel_rfl) ?_
   refine Vi (b:=(443:Int)) (by kernel_rfl) ?_
   exact(oL 1 ⟨1,by decide,rfl⟩ (by kernel_rfl) (by kernel_rfl)).trans (by kernel_rfl)
  ·refine jH (a:=(tY 2,false)) (by kernel_rfl) ?_
   refine jH (a:=((kL 2).Host,true,true,⟨#[]⟩,443)) (by kernel_rfl) ?_
   simp only[ay,ab]
   refine jH (a:=((kL 2).Host,⟨#[]⟩,false)) (by kernel_rfl) ?_
   refine Vi (b:=(443:Int)) (by kernel_rfl) ?_
   exact(oL 2 ⟨2,by decide,rfl⟩ (by kernel_rfl) (by kernel_rfl)).trans (by kernel_rfl)
  ·refine jH (a:=(tY 3,false)) (by kernel_rfl) ?_
   refine jH (a:=((kL 3).Host,true,true,⟨#[]⟩,443)) (by kernel_rfl) ?_
   simp only[ay,ab]
   refine jH (a:=((kL 3).Host,⟨#[]⟩,false)) (by kernel_rfl) ?_
   refine Vi (b:=(443:Int)) (by kernel_rfl) ?_
   exact(oL 3 ⟨3,by decide,rfl⟩ (by kernel_rfl) (by kernel_rfl)).trans (by kernel_rfl)
def bE8 {o:D.aAJ}{z:ByteArray}(h:uK o z):lY o/\z.size<=34359738300/\(lZ o).size<=34359738300:=by
 obtain⟨ho,j,hj,rfl⟩:=h
 refine⟨ho,?_,?_⟩
 ·rcases hj with rfl|rfl<;>exact(show 8<=34359738300 by omega)
 ·obtain⟨k,hk,rfl⟩:=ho
  have:(lZ (kL k)).size<=40:=by
   rcases(show k=0\/k=1\/k=2\/k=3\/k=4\/k=5 by omega) with rfl|rfl|rfl|rfl|rfl|rfl<;>decide
  omega
def Oj (s:D.aAH)(o:D.aAJ)(z:ByteArray)(i c:Int)(b:Bool)(h:uK o z):tJ s o z i c b=some (jL s o z i c b):=by
 obtain⟨h1,h2,h3⟩:=bE8 h
 have hm:∀a,(aZ a).length<=34359738200:=λa=>by simp[aZ]
 unfold tJ jL
 rw[aB h,bd_s]
 cases jD o z with
 |false=>rfl
 |true=>
  simp only[ay,ab,cA]
  rw[aB h1,bd_s,aB ⟨h2,h3⟩,bd_s,aB ⟨h2,hm _⟩,bd_s]
  show(bif !(kF s z i (aZ (Qt s o z i c b))).2.2 then _ else _)=_
  cases(kF s z i (aZ (Qt s o z i c b))).2.2<;>rfl
def aPk {k:Nat}(hk:k<4):mK (tY k)=(kL k,true)/\(tY k).size<=34359738300:=by
 rcases(show k=0\/k=1\/k=2\/k=3 by omega) with rfl|rfl|rfl|rfl
 ·exact⟨by kernel_rfl,show 20<=34359738300 by omega⟩
 ·exact⟨by kernel_rfl,show 20<=34359738300 by omega⟩
 ·exact⟨by kernel_rfl,show 16<=34359738300 by omega⟩
 ·exact⟨by kernel_rfl,show 16<=34359738300 by omega⟩
def aJw {j:Int}(hj:j=0\/j=1){k:Nat}(hk:k<4):mK (tY k)=(kL k,true)/\(aA j).size<=34359738300/\(tY k).size<=34359738300:=by
 refine⟨(aPk hk).1,?_,(aPk hk).2⟩
 rcases hj with rfl|rfl<;>exact(show 8<=34359738300 by omega)
def aRm (pub:Int)(a:D.aAK)(z:ByteArray)(ch cnt:Int)(h:AsP a z):kV pub a z ch cnt=some (iL pub a z ch cnt):=by
 obtain⟨j,hj,rfl,rfl|⟨hs,k,hk,ho,hu⟩⟩:=h
 ·unfold kV
  rw[aB (show aL2 aV0.aAJ from .inl rfl)]
  rcases hj with rfl|rfl<;>kernel_rfl
 ·obtain⟨h1,h2,h3⟩:=aJw hj hk
  have hm:(aZ a).length=6:=by simp[aZ]
  unfold kV iL
  rw[aB (show aL2 a.aAJ from .inr ⟨k,hk,ho⟩),bd_s,show mK a.aAJ=(kL k,true) by rw[ho];exact h1,show(a.Site.toList==(aA j).toList)=true by rw[hs];simp]
  simp only[ay,ab]
  rw[aB (show uK (kL k) (aA j) from⟨⟨k,by omega,rfl⟩,j,hj,rfl⟩),bd_s,hu,bd_s]
  simp only[ay,ab,bne]
  rw[aB (show a.Site.size<=34359738300/\a.aAJ.size<=34359738300 by rw[hs,ho];exact⟨h2,h3⟩),bd_s,aB (show aS (aZ a) [a.Counter] by unfold aS;simp only[hm,au,bn];omega),aB (show(aZ a++[a.Counter]).length<=34359738300 by simp only[av,hm,au,bn];omega),bd_s]
  cases a.Present<;>cases a.aAI==ch<;>cases eF pub (aZ a++[a.Counter]) a.Signature<;>cases decide (a.Counter<=cnt)<;>rfl
def Jg (pub:Int)(a:D.aAK)(z:ByteArray)(ch cnt:Int)(h:AsP a z):kU pub a z ch cnt=some (iL pub a z ch cnt):=by
 obtain⟨j,hj,rfl,rfl|⟨hs,k,hk,ho,hu⟩⟩:=h
 ·unfold kU
  rw[aB (show aL2 aV0.aAJ from .inl rfl)]
  rcases hj with rfl|rfl<;>kernel_rfl
 ·obtain⟨h1,h2,h3⟩:=aJw hj hk
  have hm:(aZ a).length=6:=by simp[aZ]
  have e:kI (aZ a) [[a.Counter]]=aZ a++[a.Counter]:=by simp[kI]
  have hz:a.Site.size<=34359738300/\a.aAJ.size<=34359738300:=by rw[hs,ho];exact⟨h2,h3⟩
  unfold kU iL
  rw[aB (show aL2 a.aAJ from .inr ⟨k,hk,ho⟩),bd_s,show mK a.aAJ=(kL k,true) by rw[ho];exact h1,show(a.Site.toList==(aA j).toList)=true by rw[hs];simp]
  simp only[ay,ab]
  rw[aB (show uK (kL k) (aA j) from⟨⟨k,by omega,rfl⟩,j,hj,rfl⟩),bd_s,hu,bd_s]
  simp only[ay,ab,bne,aB hz,bd_s]
  rw[aB (show nX (aZ a) [[a.Counter]] by simp[nX,hm]),bd_s,e,aB (show(aZ a++[a.Counter]).length<=34359738300 by simp only[av,hm,au,bn];omega),bd_s]
  cases a.Present<;>cases a.aAI==ch<;>cases eF pub (aZ a++[a.Counter]) a.Signature<;>cases decide (a.Counter<=cnt)<;>rfl
def bE9 {a:D.Account}{h:Int}(hk:decide (bC a h<0)=false):bD a.Credentials (bC a h)=some (jQ a (bC a h))/\(bC a h).toNat<a.Credentials.length:=by
 have hr:=nZ (p:=λc:D.aAL=>c.Handle==h) (i:=0) (l:=a.Credentials) hk
 exact⟨sN (by unfold bC;omega) (by unfold bC;omega),by unfold bC;omega⟩
def Ol (a:D.Account)(x:D.aAK)(z:ByteArray)(c:Int)(h:AsP x z/\a.sz<=34359738368):tN a x z c=some (kT a x z c):=by
 obtain⟨hp,hz⟩:=h
 have hl:a.Credentials.length<=34359738368:=hz
 unfold tN kT
 simp only[aB hz,aB hl,bd_s]
 cases aV a with
 |false=>rfl
 |true=>
  cases hk:decide (bC a x.Handle<0) with
  |true=>rfl
  |false=>
   simp only[ay,ab,(bE9 hk).1,bd_s,cC]
   cases(jQ a (bC a x.Handle)).Cut with
   |true=>rfl
   |false=>
    simp only[aB hp,bd_s,ab]
    generalize iL (jQ a (bC a x.Handle)).Public x z c (jQ a (bC a x.Handle)).Counter=k
    by_cases h0:k=0
    ·subst h0;rfl
    ·rw[cq.2 h0]
     cases k==4 with
     |false=>rfl
     |true=>simp only[ac,ab,bd_s,(bE9 hk).1]
def aYy {s:D.Site}{i:Int}(hz:s.sz<=34359738300)(h:decide (aC s i<0)=false):bD s.Accounts (aC s i)=some (jG s (aC s i))/\(jG s (aC s i)).sz<=34359738300/\(aC s i).toNat<s.Accounts.length:=by
 have hr:=nZ (p:=λa:D.Account=>a.Id==i) (i:=0) (l:=s.Accounts) h
 have hi:(aC s i).toNat<s.Accounts.length:=by unfold aC;omega
 have h1:=Fu (f:=D.Account.sz) hi
 refine⟨sN (by unfold aC;omega) (by unfold aC;omega),?_,hi⟩
 unfold jG
 simp only[D.Site.sz] at hz;omega
def aWr (s:D.Site)(i c n:Int)(x:D.aAK)(h:AsP x s.Name/\s.sz<=34359738300):yA s i c n x=some (pG s i c n x):=by
 obtain⟨hp,hz⟩:=h
 have hz1:s.sz<=34359738368:=by omega
 have hb:s.Book.sz<=34359738368:=by simp only[D.Site.sz,D.aAB.sz] at hz ⊢;omega
 have hl:s.Accounts.length<=34359738368:=by simp only[D.Site.sz] at hz;omega
 have ha:aS s.Logins [i]:=by unfold aS;simp only[D.Site.sz] at hz;simp only[au,bn];omega
 unfold yA pG
 simp only[aB hz1,aB hl,aB hb,bd_s]
 cases bR s with
 |false=>rfl
 |true=>
  simp only[ay,ab,bd_s,cC]
  cases hk:decide (aC s i<0) with
  |true=>rfl
  |false=>
   obtain⟨e1,e2,e3⟩:=aYy hz hk
   simp only[ab]
   cases(sP s.Book c i n).2 with
   |false=>rfl
   |true=>
    simp only[ay,ab,e1,bd_s,aB (show(jG s (aC s i)).sz<=34359738368 by omega)]
    cases nG (jG s (aC s i)) 3 with
    |false=>rfl
    |true=>
     simp only[ay,ab,aB (show AsP x s.Name/\(jG s (aC s i)).sz<=34359738368 from⟨hp,by omega⟩),bd_s,aB ha,bne]
     cases hc:(kT (jG s (aC s i)) x s.Name (eY s.Book c)).2==0 with
     |false=>rfl
     |true=>rw[eq_of_beq hc];rfl
def Xt (s:D.Site)(i c n:Int)(x:D.aAK)(h:AsP x s.Name/\s.sz<=34359738300):xY s i c n x=some (pG s i c n x):=by
 obtain⟨hp,hz⟩:=h
 have hz1:s.sz<=34359738368:=by omega
 have hb:s.Book.sz<=34359738368:=by simp only[D.Site.sz,D.aAB.sz] at hz ⊢;omega
 have hl:s.Accounts.length<=34359738368:=by simp only[D.Site.sz] at hz;omega
 have ha:aS s.Logins [i]:=by unfold aS;simp only[D.Site.sz] at hz;simp only[au,bn];omega
 unfold xY pG
 simp only[aB hz1,aB hl,aB hb,bd_s]
 cases bR s with
 |false=>rfl
 |true=>
  simp only[ay,ab,bd_s,cC]
  cases hk:decide (aC s i<0) with
  |true=>rfl
  |false=>
   obtain⟨e1,e2,e3⟩:=aYy hz hk
   simp only[ab]
   cases(sP s.Book c i n).2 with
   |false=>rfl
   |true=>
    simp only[ay,ab,e1,bd_s,aB (show(jG s (aC s i)).sz<=34359738368 by omega)]
    cases nG (jG s (aC s i)) 3 with
    |false=>rfl
    |true=>
     simp only[ay,ab,aB (show AsP x s.Name/\(jG s (aC s i)).sz<=34359738368 from⟨hp,by omega⟩),bd_s,aB ha,bne]
     cases(kT (jG s (aC s i)) x s.Name (eY s.Book c)).2==0<;>rfl
def aD2 {w:D.World}(h:aU w=true):w.Sites.length=2/\w.Stolen.length=w.Devices.length/\w.Devices.length<=6/\gW kJ 0 w.Sites=false:=by
 simp only[aU,bH,aa,cb,cN,cE] at h
 exact⟨by omega,by omega,by omega,h.2⟩
def bBe {w:D.World}{d j:Int}(h:fC w d j=true):bD w.Stolen d=some (jB w d):=by
 simp only[fC,aa] at h
 obtain⟨h1,h2,h3,_⟩:=aD2 h.1
 have hd:=h.2.1
 simp only[aL,aa,cb] at hd
 unfold jB
 rw[Eo hd.1 (by omega)];simp[List.getD,ae (show d.toNat<w.Stolen.length by omega)]
def aMk (w:D.World)(d j:Int)(b:Bool)(h:w.sz<=34359738368):Vd w d j b=some (fC w d j&&jB w d==b):=by
 unfold Vd
 rw[aB h,bd_s]
 cases ht:fC w d j with
 |true=>
  have ht2:=ht
  simp only[fC,aa] at ht2
  rw[ht2.1,ht2.2.1,ht2.2.2,bBe ht];rfl
 |false=>
  unfold fC at ht
  cases hw:aU w with
  |false=>rfl
  |true=>
   cases hd:aL w d with
   |false=>rfl
   |true=>
    cases hs:jP w j with
    |false=>rfl
    |true=>rw[hw,hd,hs] at ht;cases ht
def bHl (j:Int):(ByteArray.mk #[UInt8.ofNat 119,UInt8.ofNat 119,UInt8.ofNat 119,UInt8.ofNat 46]).size+(aA j).size<=9223372036854775807:=by
 unfold aA;cases j==0<;>cases j==1<;>decide
def aUe (j:Int):aD1 j=some (Uk j):=by
 unfold aD1
 rw[aB (bHl j)];rfl
def bKp {a b:ByteArray}(h:a.toList=b.toList):a=b:=by
 rw[ByteArray.toList_eq,ByteArray.toList_eq] at h
 exact ByteArray.ext (jk.1 h)
def bFa {l:List D.Site}{k:Nat}:∀{i:Nat},gW kJ i l=false->∀(h:k<l.length),bR l[k]=true/\l[k].Name=aA ((i+k:Nat):Int):=by
 induction l generalizing k with
 |nil=>intro i _ h;simp at h
 |cons s l ih=>
  intro i ha h
  simp only[gW,cl] at ha
  cases k with
  |zero=>
   have hb:=ha.1
   simp only[kJ,cl,dw] at hb
   refine⟨hb.1,?_⟩
   have:=eq_of_beq hb.2
   exact bKp this
  |succ k=>
   have:=ih (k:=k) (i:=i+1) ha.2 (by simpa using h)
   simp only[eS]
   refine⟨this.1,this.2.trans ?_⟩
   congr 1;omega
def O5 {w:D.World}{d j:Int}(h:fC w d j=true):bD w.Sites j=some (dX w j)/\(dX w j).sz<=w.sz/\(dX w j).Name=aA j/\(j=0\/j=1)/\j.toNat<w.Sites.length:=by
 simp only[fC,aa] at h
 obtain⟨h1,h2,h3,h4⟩:=aD2 h.1
 have hd:=h.2.2
 simp only[jP,aa,cb] at hd
 have hj:j.toNat<w.Sites.length:=by omega
 have hs:=Fu (f:=D.Site.sz) hj
 have e:dX w j=w.Sites[j.toNat]:=by unfold dX;simp[List.getD,ae hj]
 refine⟨by rw[Eo hd.1 hj,e],?_,?_,by omega,hj⟩
 ·unfold dX;simp only[D.World.sz];omega
 ·rw[e,(bFa h4 hj).2];congr 1;omega
def aWs (s:D.Site)(i n:Int):(lX s i n).1.Name=s.Name/\(lX s i n).1.sz<=s.sz+1:=by
 unfold lX
 cases bR s&&(!decide (aC s i<0)&&(dL s.Book i n).2.2) with
 |false=>exact⟨rfl,eo _⟩
 |true=>
  refine⟨rfl,?_⟩
  have hb:(dL s.Book i n).1.Open.length<=s.Book.Open.length+1:=by
   unfold dL
   cases dN s.Book&&(!(s.Book.Next==1000000)&&(bH i 0 1000000&&bH n 0 1000000)) with
   |false=>simp only[ab];omega
   |true=>
    simp only[ac]
    cases decide ((s.Book.Open.length:Int)>=16) with
    |true=>simp only[ac,av,ci,au,bn];omega
    |false=>simp only[ab,av,au,bn];omega
  simp only[ac,D.Site.sz,D.aAB.sz];omega
def bFb {k:Nat}(hk:k<6){j:Int}(hj:j=0\/j=1)(h:jD (kL k) (aA j)=true):k<4:=by
 rcases(show k<4\/k=4\/k=5 by omega) with h4|rfl|rfl
 ·exact h4
 ·rcases hj with rfl|rfl<;>exact absurd h (by decide)
 ·rcases hj with rfl|rfl<;>exact absurd h (by decide)
def aWt (s:D.aAH)(h c:Int)(p:Bool){o:D.aAJ}(ho:lY o){j:Int}(hj:j=0\/j=1):AsP (jL s o (aA j) h c p).2.1 (aA j):=by
 refine⟨j,hj,rfl,?_⟩
 obtain⟨k,hk,rfl⟩:=ho
 unfold jL
 cases hm:jD (kL k) (aA j) with
 |false=>exact .inl rfl
 |true=>
  cases(kF s (aA j) h (aZ (Qt s (kL k) (aA j) h c p))).2.2 with
  |false=>exact .inl rfl
  |true=>exact .inr ⟨rfl,k,bFb hk hj hm,rfl,hm⟩
def bIf {w:D.World}{d j:Int}{o:D.aAJ}(ho:lY o)(h:fC w d j=true)(hz:w.sz<=34359738200):AsP (Qu w d j o).2.1 (jX w j).1.Name/\(jX w j).1.sz<=34359738300:=by
 obtain⟨_,h2,h3,h4,_⟩:=O5 h
 obtain⟨b1,b2⟩:=aWs (dX w j) 1 w.Now
 exact⟨by unfold Qu jX;rw[b1,h3];exact aWt _ _ _ _ ho h4,by unfold jX;omega⟩
def bFj (w:D.World)(d j:Int)(o:D.aAJ)(h:lY o/\w.sz<=34359738200):Vf w d j o=some (wL w d j o):=by
 obtain⟨ho,hz⟩:=h
 have hz1:w.sz<=34359738368:=by omega
 unfold Vf wL
 simp only[aB hz1,bd_s]
 cases ht:fC w d j with
 |false=>rfl
 |true=>
  obtain⟨e1,e2,e3,e4,e5⟩:=O5 ht
  obtain⟨p1,p2⟩:=bIf ho ht hz
  have ht2:=ht
  simp only[fC,aa] at ht2
  have ed:=rV ht2.2.1
  have hm:w.Mail.sz<=34359738300:=by simp only[D.World.sz,D.aAM.sz] at hz ⊢;omega
  simp only[ay,ab,e1,bd_s,aB (show(dX w j).sz<=34359738368 by omega)]
  rw[show lX (dX w j) 1 w.Now=jX w j from rfl]
  cases hb:(jX w j).2.2.2 with
  |false=>rfl
  |true=>
   simp only[ay,ab,ed,bd_s,aB (show uK o (aA j) from ho.p e4)]
   rw[show jL (aK w d).Store o (aA j) d (jX w j).2.2.1 true=Qu w d j o from rfl]
   simp only[aB (show AsP (Qu w d j o).2.1 (jX w j).1.Name/\(jX w j).1.sz<=34359738300 from⟨p1,p2⟩),bd_s,aB hm,bne]
   rw[show pG (jX w j).1 1 (jX w j).2.1 w.Now (Qu w d j o).2.1=aTg w d j o from rfl]
   cases(aTg w d j o).2.1==0<;>rfl
def aQ8 (w:D.World)(d j:Int)(o:D.aAJ)(h:lY o/\w.sz<=34359738200):J3 w d j o=some (wL w d j o):=by
 obtain⟨ho,hz⟩:=h
 have hz1:w.sz<=34359738368:=by omega
 unfold J3 wL
 simp only[aB hz1,bd_s]
 cases ht:fC w d j with
 |false=>
  unfold fC at ht
  cases hw:aU w with
  |false=>rfl
  |true=>
   cases hd:aL w d with
   |false=>rfl
   |true=>
    cases hs:jP w j with
    |false=>rfl
    |true=>rw[hw,hd,hs] at ht;cases ht
 |true=>
  obtain⟨e1,e2,e3,e4,e5⟩:=O5 ht
  obtain⟨p1,p2⟩:=bIf ho ht hz
  have ht2:=ht
  simp only[fC,aa] at ht2
  have ed:=rV ht2.2.1
  have hm:w.Mail.sz<=34359738300:=by simp only[D.World.sz,D.aAM.sz] at hz ⊢;omega
  have hj0:0<=j:=by omega
  have es:bD (w.Sites.set j.toNat (jX w j).1) j=some (jX w j).1:=by
   rw[Eo hj0 (by simpa using e5)];simp
  rw[ht2.1,ht2.2.1,ht2.2.2]
  simp only[ay,ab,e1,bd_s,aB (show(dX w j).sz<=34359738368 by omega)]
  rw[show lX (dX w j) 1 w.Now=jX w j from rfl]
  cases hb:(jX w j).2.2.2 with
  |false=>rfl
  |true=>
   simp only[ay,ab,ed,es,bd_s,aB (show uK o (aA j) from ho.p e4)]
   rw[show jL (aK w d).Store o (aA j) d (jX w j).2.2.1 true=Qu w d j o from rfl]
   simp only[aB (show AsP (Qu w d j o).2.1 (jX w j).1.Name/\(jX w j).1.sz<=34359738300 from⟨p1,p2⟩),bd_s,aB hm,bne]
   rw[show pG (jX w j).1 1 (jX w j).2.1 w.Now (Qu w d j o).2.1=aTg w d j o from rfl,List.set_set]
   cases(aTg w d j o).2.1==0<;>rfl
def aE2 (w:D.World)(d j:Int)(o:D.aAJ)(h:lY o/\w.sz<=34359738200):Ib w d j o=some (Qk w d j o):=by
 unfold Ib;rw[aB h];rfl
def Xu (w:D.World)(d j:Int)(hz:w.sz<=34359738200):xZ w d j=some (lG w d j):=by
 have hz1:w.sz<=34359738368:=by omega
 unfold xZ lG
 simp only[aB hz1,bd_s]
 rw[show(jB w d==false)= !jB w d by cases jB w d<;>rfl]
 cases hq:fC w d j&& !jB w d with
 |false=>rfl
 |true=>
  rw[aa] at hq
  simp only[ay,ab,ac]
  exact(jH (aB (show lY (Uk j)/\w.sz<=34359738200 from⟨bKb (O5 hq.1).2.2.2.1,hz⟩)) rfl)
def aUf {w:D.World}{d:Int}(hz:w.sz<=34359738200):cB (α:=Int) FUEL (λrec1 (i1:Int×Nat)=>bif (decide ((↑i1.2:Int)<(2:Int))) then(bd (bd (gd (w.sz<=34359738200) (some (lG w d (↑i1.2:Int)))) λz3=>bif (z3.2==(0:Int)) then(some (IntKind.i64.wrap (i1.1+(1:Int)))) else(some (i1.1))) λz2=>rec1 ((z2,(i1.2+1)))) else(some (i1.1))) ((0:Int),0)=some (rX w d):=by
 rw[show FUEL=FUEL-3+1+1+1 from by have:=gL;omega]
 simp only[iP,aB hz,bd_s]
 unfold rX
 simp only[show decide (((0:Nat):Int)<2)=true from rfl,show decide (((0+1:Nat):Int)<2)=true from rfl,show decide (((0+1+1:Nat):Int)<2)=false from rfl,ac,ab,bd_s,show((0:Nat):Int)=0 from rfl,show((0+1:Nat):Int)=1 from rfl]
 cases(lG w d 0).2==0<;>cases(lG w d 1).2==0<;>rfl
def Rz (w:D.World)(d:Int)(hz:w.sz<=34359738200):vD w d=some (rX w d):=by
 unfold vD
 rw[aUf hz];rfl
end
end Go.VK
