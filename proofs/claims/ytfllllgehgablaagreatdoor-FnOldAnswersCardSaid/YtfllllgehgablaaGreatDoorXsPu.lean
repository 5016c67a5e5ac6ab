import Derived.Test.YtfllllgehgablaaGreatDoorXsPs
import Derived.Test.YtfllllgehgablaaGreatDoorXsM
/- Printed by wip/tools: models, walks, proofs. -/
set_option linter.all false
set_option maxRecDepth 100000
set_option maxHeartbeats 4000000
namespace Go.VK
open Go.RowKit Go.Proofs
noncomputable section
open EV (bU)
def O6 (s n:Int):zF s n=some (aL s n):=by unfold zF;rw[aB (by simp)];rfl
def aB1 (s:D.aAI):aA9 s=some (bM s):=rfl
def Xb (s:D.aAI)(n:ByteArray)(k:Int)(h:n.size<=34359738300):wX s n k=some (eO s n k):=by unfold wX;rw[aB h,bd_s,aB (by simp)];rfl
def O7 (s:D.aAI)(n:ByteArray)(k:Int)(h:n.size<=34359738300):zJ s n k=some (dM s n k):=by unfold zJ;rw[aB h];rfl
def Rm (s:D.aAI)(l:List Int)(h:l.length<=34359738300):uE s l=some (oZ s l):=by unfold uE;rw[aB h];rfl
def O8 (e:D.aAE)(d:Int)(h:e.Boxes.length<=34359738368):zI e d=some (pE e d):=by
 unfold zI
 rw[fV (l:=e.Boxes) (λn b=>bif b.To==d then IntKind.i64.wrap (n+1) else n) (λ_ _=>True) (λs=>some s) (by omega) trivial (λ_ _ _ _=>trivial) (λrec i s hi _=>by
  simp only[dL hi,ae,aM hi,bd_s,lF]) (λrec s _=>by simp only[dP,ab])]
 rfl
def Xc (l:List D.aAC)(k d:Int)(s:D.aAI)(h:l.length<=34359738300):wQ l k d s=some (dQ l k d s):=by
 have h1:l.length<=34359738368:=by omega
 have e:∀x:D.aAC,gd ((l++[x]).length<=34359738368) (some (bC (l++[x])))=some (bC (l++[x])):=λx=>aB (by simp;omega)
 have e1:∀x:Int,gd ([x].length<=34359738300) (some (oZ s [x]))=some (oZ s [x]):=λx=>aB (by simp)
 unfold wQ dQ bBj aW3
 simp only[aB h1,bd_s,e1,fF h1,e]
 generalize bC (l++_)=q
 cases decide ((l.length:Int)>0)<;>cases bC l<;>cases q<;>rfl
def aXx (p e:Int)(d:List Int)(h:aQ d):(bd (bif eP p==0 then some true else bif !bG e then some true else some (decide ((d.length:Int)>200))) λz0=>bif z0 then some (D.Box.mk 0 0 [] 0,false) else bd (gd (aQ d) (some (jV (fD (eP p) e) d))) λz1=>bd (gd (z1.length<=34359738200) (some (Lg (fD (eP p) e) (D.Box.mk p e z1 0)))) λz2=>some (D.Box.mk p e z1 z2,true))=some (dY p e d):=by
 unfold dY fT
 rw[zA,zA,bd_s]
 cases hc:(eP p==0||(!bG e||decide ((d.length:Int)>200))) with
 |true=>rfl
 |false=>
  have hl:d.length<=200:=by simp only[cn,di] at hc;omega
  rw[ab,ab,aB h,bd_s,aB (show(jV (fD (eP p) e) d).length<=34359738200 by rw[wK];omega),bd_s]
def aKe (p e:Int)(d:List Int)(h:aQ d):aI8 p e d=some (dY p e d):=aXx p e d h
def aB2 (l:List Int)(e:Int)(d:List Int)(h:l.length<=34359738300/\aQ d):Cz l e d=some (dZ e d 0 l):=by
 obtain⟨h1,h2⟩:=h
 unfold Cz
 rw[aPq (e:=e) (d:=d) (l:=l) (x:=(([],false):List D.Box×Bool)) (λrec i s hi hs=>by
  simp only[dL hi,ae,aM hi,bd_s,aB h2,fF (show s.length<=34359738368 by omega)]) (λrec s=>by simp only[dP,ab]) l.length 0 FUEL [] (by omega) (by have:=fO;omega) (by simp),gk]
 cases hs:(dZ e d 0 l).2 with
 |true=>rw[ae,nx_r,bn,<-hs]
 |false=>rw[ab,bFf hs];rfl
def bIw (a b:Int):aQ (gN [a,b]):=aIg (by have:=aUl a b;omega) (Vr _)
def Jg (l:List D.aAC)(k e:Int)(h:l.length<=34359738300):qG l k e=some (bD l k e):=by
 have hd:=iD l
 unfold qG bD
 simp only[aB (show l.length<=34359738368 by omega),bd_s,aB (show[aJ l,k].length<=5000000000 by simp),aB (show(aD l).length<=34359738300/\aQ (gN [aJ l,k]) from⟨by omega,bIw _ _⟩)]
 cases bC l<;>cases bG k<;>cases(dZ e (gN [aJ l,k]) 0 (aD l)).2<;>rfl
def bIx (e:D.aAE)(l:List Int):(l.all λd=>pE e d==1)= !(l.any λd=>pE e d !=1):=by
 induction l with
 |nil=>rfl
 |cons x l ih=>simp only[gr,jz,ih,bne];cases(pE e x==1)<;>simp
def aB3 (e:D.aAE)(l:List D.aAC)(h:e.Boxes.length<=34359738368/\l.length<=34359738368):Da e l=some (gF e l):=by
 obtain⟨h1,h2⟩:=h
 have hd:=iD l
 unfold Da gF
 rw[aB h2,bd_s,mJ (l:=aD l) (λd=>pE e d !=1) (.inl false) (.inr PUnit.unit) (by omega) (λrec i hi=>by
  simp only[dL hi,ae,aM hi,bd_s,aB h1]) (λrec=>by simp only[dP,ab]),bIx]
 simp only[aB h2,bd_s]
 cases(aD l).any (λd=>pE e d !=1)<;>cases(e.Epoch==aJ l)<;>cases((e.Boxes.length:Int)==((aD l).length:Int))<;>rfl
def bMm {e:D.aAE}(h:e.sz<=34359738368):e.Boxes.length<=34359738368:=by simp only[D.aAE.sz] at h;omega
def aB4 (c:D.aAB)(l:List D.aAC)(e:D.aAE)(h:c.sz<=34359738368/\l.length<=34359738368/\e.sz<=34359738368):Di c l e=some (jK c l e):=by
 obtain⟨h1,h2,h3⟩:=h
 unfold Di jK
 simp only[aB h1,aB h2,aB h3,bd_s,aB (show e.Boxes.length<=34359738368/\l.length<=34359738368 from⟨bMm h3,h2⟩)]
 cases bC l<;>cases bZ l c.Log<;>cases gF e l<;>rfl
def Xd (s:D.Site)(i:Int)(h:s.Accounts.length<=34359738368):wY s i=some (aC s i):=by
 unfold wY
 exact F7 (l:=s.Accounts) (λa=>a.Id==i) (by omega) (λrec j hj=>by simp only[dL hj,ae,aM hj,bd_s]) (λrec=>by simp only[dP,ab])
def bN2 {l:List D.aAK}{h p:Int}(hz:l.length<=34359738300){β:Type}(k:List D.aAK->Option β):gd (jH l ((Vs h l:Nat):Int)) (gd (jH l ((Vs h l:Nat):Int)) (gd (aW [] (List.take (Vs h l) l)) (gd (aW ([]++List.take (Vs h l) l) [D.aAK.mk h p 0 false]) (gd (aW ([]++List.take (Vs h l) l++[D.aAK.mk h p 0 false]) (List.drop (Vs h l) l)) (k ([]++List.take (Vs h l) l++[D.aAK.mk h p 0 false]++List.drop (Vs h l) l))))))=k (aEr l h p):=by
 have hk:Vs h l<=l.length:=Lt
 have h1:jH l ((Vs h l:Nat):Int):=⟨by omega,by omega⟩
 rw[aB h1,aB h1,aB (by unfold aW;simp;omega),aB (by unfold aW;simp;omega),aB (by unfold aW;simp;omega)];rfl
def bIy {l:List D.aAK}{h:Int}(hz:l.length<=34359738300):EV.bU (α:=Int) FUEL (λrec (i:Int)=>bd (bif decide (i<(l.length:Int)) then(bd (bA l i) λz=>some (decide (z.Handle<h))) else some false) λz=>bif z then rec (IntKind.i64.wrap (i+1)) else some i) 0=some ((Vs h l:Nat):Int):=by
 have:=aPp (l:=l) (λc=>decide (c.Handle<h)) (λi=>some (i:Int)) (λi=>(i:Int)) (F:=λrec (i:Int)=>bd (bif decide (i<(l.length:Int)) then(bd (bA l i) λz=>some (decide (z.Handle<h))) else some false) λz=>bif z then rec (IntKind.i64.wrap (i+1)) else some i) (by omega) (λrec i hi=>by
  simp only[dL hi,ae,aM hi,bd_s]
  rw[aI (by omega) (by omega)];rfl) (λrec=>by simp only[dP,ab,bd_s])
 exact this
def bN3 {a:D.aAH}(hz:a.sz<=34359738300)(h p:Int):(D.aAH.mk a.Id a.Minimum (aEr a.Credentials h p)).sz<=34359738368:=by
 simp only[D.aAH.sz,aUm] at*;omega
def Od (a:D.aAH)(h p:Int)(hz:a.sz<=34359738300):sS a h p=some (gY a h p):=by
 have h1:a.sz<=34359738368:=by omega
 have hc:a.Credentials.length<=34359738300:=hz
 unfold sS gY
 rw[aB h1,bd_s,bIy hc]
 simp only[aB h1,bd_s,cm]
 rw[bN2 hc (λL=>bd (bif !aZ a then some true else(bd (gd ((D.aAH.mk a.Id a.Minimum L).sz<=34359738368) (some (aZ (D.aAH.mk a.Id a.Minimum L)))) λz4=>some (!z4))) λz3=>bif z3 then some (a,false) else some (D.aAH.mk a.Id a.Minimum L,true))]
 simp only[bd_s,aB (bN3 hz h p)]
 cases aZ a<;>cases aZ {a with Credentials:=aEr a.Credentials h p}<;>rfl
def aXy {a:D.aAH}{h p:Int}(hn:(gY a h p).2=false):(gY a h p).1=a:=by
 unfold gY at*
 cases hc: !aZ a|| !aZ {a with Credentials:=aEr a.Credentials h p} with
 |true=>rfl
 |false=>rw[hc] at hn;cases hn
def Xe (s:D.Site)(i h p:Int)(hz:s.sz<=34359738300):wZ s i h p=some (eG s i h p):=by
 have h1:s.sz<=34359738368:=by omega
 have hl:s.Accounts.length<=34359738368:=by simp only[D.Site.sz] at hz;omega
 unfold wZ eG
 simp only[aB h1,aB hl,bd_s]
 rw[zA,bd_s]
 cases hc:(!dE s||decide (aC s i<0)) with
 |true=>rfl
 |false=>
  rw[cn] at hc
  obtain⟨e1,e2,e3⟩:=bFg hz hc.2
  simp only[ab,e1,bd_s,aB e2]
  cases ha:(gY (s.Accounts.getD (aC s i).toNat default) h p).2 with
  |true=>rfl
  |false=>rw[aXy ha,aUa e3];rfl
def aB5 (i:Int):(aA i).size<=34359738300:=by unfold aA;cases i==0<;>cases i==1<;>decide
def O9 (d:D.Device)(h:Int)(rm:Bool)(hz:d.sz<=34359738300):zX d h rm=some (mK d h rm):=by
 have h1:=Ci d (aA 0) h rm
 unfold zX mK
 rw[aB ⟨by omega,aB5 0⟩,bd_s,show FUEL=FUEL-2+1+1 from by have:=fO;omega]
 have e:∀{β:Type} (k:Option β),gd ((cO d (aA 0) h rm).1.sz<=34359738360/\(aA 1).size<=34359738300) k=k:=λk=>aB ⟨by omega,aB5 1⟩
 show(bd (bd (gd ((cO d (aA 0) h rm).1.sz<=34359738360/\(aA 1).size<=34359738300) (some (cO (cO d (aA 0) h rm).1 (aA 1) h rm))) λz3=>some (z3.1.Store.Vendor,z3.1.Store.Serial,z3.1.Store.Seed,z3.1.Store.Counter,z3.1.Log,z3.1.Key,z3.1.Epoch,z3.1.Version,z3.1.aAF.Entries)) λz0=>some (D.Device.mk (D.aAI.mk z0.1 z0.2.1 z0.2.2.1 z0.2.2.2.1) z0.2.2.2.2.1 z0.2.2.2.2.2.1 z0.2.2.2.2.2.2.1 z0.2.2.2.2.2.2.2.1 (D.aAF.mk z0.2.2.2.2.2.2.2.2)))=_
 rw[e,bd_s,bd_s]
def bGd {w:D.World}{d:Int}(hw:aV w=true)(hd:aN w d=true):bA w.Stolen d=some (dU w d):=by
 have hl:w.Stolen.length=w.Devices.length:=by
  simp only[aV,aa,cI] at hw;omega
 simp only[aN,aa,bp] at hd
 rw[rQ hd.1 (by omega)]
 simp[dU,List.getD,ac (show d.toNat<w.Stolen.length by omega)]
def aZ5 {p r:List D.Site}{s:D.Site}:bA (p++s::r) ((p.length:Nat):Int)=some s:=by
 rw[aM (by simp)];simp
def aVk {p r:List D.Site}{s y:D.Site}:(p++s::r).set (Int.toNat ((p.length:Nat):Int)) y=p++y::r:=by
 rw[cm];simp
def bGe {w:D.World}{b:Int}(hz:w.sz<=100000000)(h1:aV w=true)(hs:((aH w b 0).2==0)=true):((aN (aH w b 0).1 b=true/\(aH w b 0).1.Sites.length=2)/\(aH w b 0).1.sz<=300000000)/\(aH w b 0).1.aAB.Log.length<=100000000:=by
 obtain⟨⟨k1,k2⟩,k3,k4,k5⟩:=jP hs
 have hL:w.aAB.Log.length<=w.sz:=by simp only[D.World.sz,D.aAB.sz];omega
 refine⟨⟨⟨by simp only[aN] at*;rw[k4];exact k2,?_⟩,by omega⟩,by rw[k3];omega⟩
 have e:(aH w b 0).1.Sites=w.Sites:=by unfold aH;cases(aV w&&aN w b)<;>rfl
 rw[e]
 simp only[aV,aa,cI] at h1
 omega
def bCn {L:List D.aAR}(h30:30<L.length)(hL:L.length<=34359738301):gd (jH L ((wL L:Nat):Int)) (gd (jH L (IntKind.i64.wrap (((wL L:Nat):Int)+1))) (gd (aW [] (List.take (Int.toNat ((wL L:Nat):Int)) L)) (gd (aW ([]++List.take (Int.toNat ((wL L:Nat):Int)) L) (List.drop (Int.toNat (IntKind.i64.wrap (((wL L:Nat):Int)+1))) L)) (some ([]++List.take (Int.toNat ((wL L:Nat):Int)) L++List.drop (Int.toNat (IntKind.i64.wrap (((wL L:Nat):Int)+1))) L)))))=some (Ha L):=by
 have hs:=bFe (l:=L) (by omega)
 have e:IntKind.i64.wrap (((wL L:Nat):Int)+1)=((wL L+1:Nat):Int):=by rw[aI (by omega) (by omega)];rfl
 rw[e,aB ⟨by omega,by omega⟩,aB ⟨by omega,by omega⟩,aB (by unfold aW;simp;omega),aB (by unfold aW;simp;omega),cm,cm]
 unfold Ha
 rw[ao (show(L.length:Int)>30 by omega)];rfl
def bIz (l:List D.aAR)(x:D.aAR)(h:l.length<=34359738300):(D.aAJ.mk (Ha (l++[x]))).sz<=34359738368:=by
 have:=aPk (l++[x])
 simp only[aw,ct] at this
 simp only[D.aAJ.sz];omega
def bGf {L:List D.aAR}(h:¬30<L.length):Ha L=L:=by
 unfold Ha
 rw[au (show ¬(L.length:Int)>30 by omega)];rfl
def P5 (m:D.aAJ)(k a t:Int)(hz:m.sz<=34359738300):zT m k a t=some (uD m k a t):=by
 have h1:m.sz<=34359738368:=by omega
 have hm:m.Notices.length<=34359738300:=hz
 have hL:(m.Notices++[(⟨k,a,t,false⟩:D.aAR)]).length=m.Notices.length+1:=by simp
 have hn:=bIz m.Notices ⟨k,a,t,false⟩ hm
 unfold zT uD
 rw[aB (by unfold aW;simp;omega),bn,fF (show m.Notices.length<=34359738368 by omega)]
 simp only[aB h1,bd_s]
 generalize hg:m.Notices++[(⟨k,a,t,false⟩:D.aAR)]=L at*
 by_cases h30:30<L.length
 ·have e:=aPr (l:=L) (F:=λrec (i2:Int×Int)=>bif (decide (i2.2>=(0:Int))) then(bd (bd (bA L (i2.2)) λz4=>bif (z4.Seen) then(some (i2.2)) else(some (i2.1))) λz3=>rec ((z3,IntKind.i64.wrap (i2.2-(1:Int))))) else(some (i2.1))) (λrec q i hi=>by
   simp only[ao (show((i:Int)>=0) by omega),ae,aM hi,bd_s,lF,aI (show(-9223372036854775808:Int)<=(i:Int)-1 by omega) (show(i:Int)-1<=9223372036854775807 by omega)]) (λrec q=>rfl) L.length FUEL 0 (aj _) (by have:=fO;omega)
  rw[eS] at e
  rw[ao (show(L.length:Int)>30 by omega),ae,aI (by omega) (by omega),e,<-bFd,bd_s,bCn h30 (by omega),bd_s,aB hn,bd_s]
  cases dV m<;>cases dV ⟨Ha L⟩<;>rfl
 ·rw[au (show ¬(L.length:Int)>30 by omega),ab,bd_s]
  rw[bGf h30] at hn ⊢
  rw[aB hn,bd_s]
  cases dV m<;>cases dV ⟨L⟩<;>rfl
def aVl {τ:Type}{x:τ}{st:D.aAI}{n:Int}{N:Nat}{F:(Nat×List D.Site->Option (τ⊕List D.Site))->Nat×List D.Site->Option (τ⊕List D.Site)}
  (hF:∀rec (p:List D.Site) (s:D.Site) (r:List D.Site),p.length+r.length+1=N->s.sz<=34359738300->F rec (p.length,p++s::r)=bif !(eG s 1 n (dM st (aA (p.length:Int)) n)).2 then some (.inl x) else rec (p.length+1,p++(eG s 1 n (dM st (aA (p.length:Int)) n)).1::r)) (hE:∀rec S,F rec (N,S)=some (.inr S)):
  ∀(r p:List D.Site) (m:Nat),p.length+r.length=N->r.length<m->(∀s∈r,s.sz<=34359738300)->EV.bU m F (p.length,p++r)=some (bif (fK st n p.length r).2 then .inr (p++(fK st n p.length r).1) else .inl x)
 |[],p,m+1,h,_,_=>by
  simp only[bo,ee] at h
  rw[gX,h,hE];simp[fK]
 |s::r,p,m+1,h,hm,hs=>by
  simp only[av] at h hm
  rw[gX,hF _ p s r (by omega) (hs s (by simp)),fK]
  cases hr:(eG s 1 n (dM st (aA (p.length:Int)) n)).2 with
  |false=>rfl
  |true=>
   have:=aVl hF hE r (p++[(eG s 1 n (dM st (aA (p.length:Int)) n)).1]) m (by simp;omega) (by omega) (λy hy=>hs y (by simp[hy]))
   simp only[aw,ct,ce,cA,bn] at this
   rw[bf,ab,this]
   cases(fK st n (p.length+1) r).2<;>rfl
def bCo {τ:Type}{x:τ}{st:D.aAI}{n:Int}{N:Nat}{l:List D.Site}(hN:l.length=N)(hN2:N<=100)(hs:∀s∈l,s.sz<=34359738300){F:(Nat×List D.Site->Option (τ⊕List D.Site))->Nat×List D.Site->Option (τ⊕List D.Site)}
  (hF:∀rec (p:List D.Site) (s:D.Site) (r:List D.Site),p.length+r.length+1=N->s.sz<=34359738300->F rec (p.length,p++s::r)=bif !(eG s 1 n (dM st (aA (p.length:Int)) n)).2 then some (.inl x) else rec (p.length+1,p++(eG s 1 n (dM st (aA (p.length:Int)) n)).1::r)) (hE:∀rec S,F rec (N,S)=some (.inr S)):EV.bU FUEL F (0,l)=some (bif (fK st n 0 l).2 then .inr (fK st n 0 l).1 else .inl x):=by
 have:=aVl hF hE l [] FUEL (by simp;omega) (by have:=fO;omega) hs
 simpa using this
def Ao (w:D.World)(b:Int):D.World×Bool:=bif (add1 w b).2&&((aIj w b).2&&((nN w b).2&&(yP w b).2==0)) then(Ls (yP w b).1 2,true) else(w,false)
def bCp {w:D.World}{b:Int}(h1:aV w=true)(h2:aN w b=true)(h3:dU w b=false)(h4:decide ((w.Devices.length:Int)>=6)=false)(h5:((aH w b 0).2==0)=true):iB w b=Ao w b:=by
 unfold iB H6 Ao
 rw[h1,h2,h3,h4,h5];rfl
def Xf {w:D.World}{b:Int}(h:(add1 w b).2=false):Ao w b=(w,false):=by unfold Ao;rw[h];rfl
def Oe {w:D.World}{b:Int}(h:(aIj w b).2=false\/(nN w b).2=false\/((yP w b).2==0)=false):Ao w b=(w,false):=by
 unfold Ao
 rcases h with h|h|h<;>rw[h]<;>simp
def aVm {w:D.World}{b:Int}(h1:(add1 w b).2=true)(h2:(aIj w b).2=true)(h3:(nN w b).2=true)(h4:((yP w b).2==0)=true):Ao w b=(Ls (yP w b).1 2,true):=by
 unfold Ao;rw[h1,h2,h3,h4];rfl
def bI0 {w:D.World}{b:Int}(hz:w.sz<=100000000)(h0:((aH w b 0).2==0)=true)(h3:(nN w b).2=true):(appW (nN w b).1 (bM (aL w.Seed (w.Devices.length:Int)))).sz<=34359738100/\((yP w b).2==0->(yP w b).1.Mail.sz<=34359738300):=by
 obtain⟨g1,g2⟩:=bH9 h0 h3
 have g4:(bM (aL w.Seed (w.Devices.length:Int))).sz=0:=rfl
 refine⟨by rw[H7];omega,λh4=> ?_⟩
 obtain⟨_,_,_,g3⟩:=jP (w:=appW (nN w b).1 (bM (aL w.Seed (w.Devices.length:Int)))) h4
 rw[H7] at g3
 have g5:(appW (nN w b).1 (bM (aL w.Seed (w.Devices.length:Int)))).aAB.Log.length<=w.sz+1:=g2
 have g6:(yP w b).1.sz<=34*w.sz+690:=by show(aH _ _ 0).1.sz<=_;omega
 have:(yP w b).1.Mail.sz<=(yP w b).1.sz:=by simp only[D.aAJ.sz,D.World.sz];omega
 omega
def aB6 {w:D.World}{b:Int}(h:(aV w&&(aN w b&&(!dU w b&& !decide ((w.Devices.length:Int)>=6))))=false\/((aH w b 0).2==0)=false):iB w b=(w,false):=by
 unfold iB H6
 rcases h with h|h
 ·rw[h];rfl
 ·rw[h];simp
def bI1 {w:D.World}{d:Int}(h:(fG w d).2=false):(fG w d).1=w:=by
 unfold fG at*
 cases hc:((aH w d 0).2==0&&(Ud (aH w d 0).1 d).2) with
 |true=>rw[hc] at h;cases h
 |false=>rfl
def Rn (w:D.World)(b:Int)(hz:w.sz<=100000000):uM w b=some (iB w b):=by
 have hw8:w.sz<=34359738368:=by omega
 unfold uM
 simp only[bd_s,aB (show w.sz<=34359738100 by omega),aB hw8,bne]
 cases hs:((aH w b 0).2==0) with
 |false=>rw[aB6 (.inr hs)];rfl
 |true=>
 obtain⟨⟨h1,h2⟩,_⟩:=jP hs
 rw[bGd h1 h2]
 cases h3:dU w b with
 |true=>rw[aB6 (.inl (by rw[h1,h2,h3];rfl))];rfl
 |false=>
 cases h4:decide ((w.Devices.length:Int)>=6) with
 |true=>rw[aB6 (.inl (by rw[h1,h2,h3,h4];rfl))];rfl
 |false=>
 simp only[bf,ab,bd_s]
 rw[bCp h1 h2 h3 h4 hs]
 have hn6:w.Devices.length<6:=by have:=of_decide_eq_false h4;omega
 obtain⟨⟨⟨g1,g2⟩,g3⟩,g4⟩:=bGe hz h1 hs
 have hst:D.aAI.mk (1:Int) (w.Devices.length:Int) (aT w.Seed [277,(w.Devices.length:Int)]) 0=aL w.Seed (w.Devices.length:Int):=rfl
 simp only[hst,vE g1,bd_s,aB (show(aH w b 0).1.aAB.Log.length<=34359738300 by omega)]
 have hll:=nM (aH w b 0).1.aAB.Log 1 (aY (aL w.Seed (w.Devices.length:Int))) (aO (aH w b 0).1 b).Store
 obtain⟨l,hl⟩:∃l,l=dQ (aH w b 0).1.aAB.Log 1 (aY (aL w.Seed (w.Devices.length:Int))) (aO (aH w b 0).1 b).Store:=⟨_,rfl⟩
 obtain⟨e,he⟩:∃e,e=bD l.1 (aO (aH w b 0).1 b).Key (IntKind.i64.wrap (1000+IntKind.i64.wrap (10*(l.1.length:Int)))):=⟨_,rfl⟩
 obtain⟨c,hcc⟩:∃c,c=jK (aH w b 0).1.aAB l.1 e.1:=⟨_,rfl⟩
 have A1:add1 w b=bif l.2&&(e.2&&c.2) then({(aH w b 0).1 with aAB:=c.1},true) else((aH w b 0).1,false):=by rw[hcc,he,hl];rfl
 rw[<-hl] at hll ⊢
 have hez:=Ck l.1 (aO (aH w b 0).1 b).Key (IntKind.i64.wrap (1000+IntKind.i64.wrap (10*(l.1.length:Int))))
 rw[aB (show l.1.length<=34359738300 by omega),bd_s]
 rw[<-he] at hez ⊢
 have hcz:=Oc (aH w b 0).1
 rw[aB (show(aH w b 0).1.aAB.sz<=34359738368/\l.1.length<=34359738368/\e.1.sz<=34359738368 from⟨by omega,by omega,by omega⟩),bd_s,<-hcc]
 cases h5:l.2 with
 |false=>rw[Xf (by rw[A1,h5];rfl)];rfl
 |true=>
 cases h6:e.2 with
 |false=>rw[Xf (by rw[A1,h5,h6];rfl)];rfl
 |true=>
 cases h7:c.2 with
 |false=>rw[Xf (by rw[A1,h5,h6,h7];rfl)];rfl
 |true=>
 have A1':add1 w b=({(aH w b 0).1 with aAB:=c.1},true):=by rw[A1,h5,h6,h7];rfl
 have A2:aIj w b=fK (aL w.Seed (w.Devices.length:Int)) (w.Devices.length:Int) 0 (aH w b 0).1.Sites:=by unfold aIj;rw[A1']
 have hss:∀s∈(aH w b 0).1.Sites,s.sz<=34359738300:=λs hs=>by
  have h1:=aH8 (g:=D.Site.sz) hs
  simp only[D.World.sz] at g3;omega
 simp only[bf,ab,bd_s]
 rw[bCo (x:=((w,false):D.World×Bool)) (st:=aL w.Seed (w.Devices.length:Int)) (n:=(w.Devices.length:Int)) (l:=(aH w b 0).1.Sites) (N:=2) g2 (by omega) hss (λrec p s r hp hz=>by
  simp only[ao (show((p.length:Nat):Int)<2 by omega),ae,aZ5,bd_s,aB (aB5 (p.length:Int)),aB hz,aVk]) (λrec S=>rfl)]
 cases h8:(fK (aL w.Seed (w.Devices.length:Int)) (w.Devices.length:Int) 0 (aH w b 0).1.Sites).2 with
 |false=>rw[Oe (.inl (by rw[A2,h8]))];rfl
 |true=>
 obtain⟨k1,k2,k3,k4⟩:=aBz g1
 have hg:=g1
 simp only[aN,aa,bp] at hg
 have W2:D.World.mk (aH w b 0).1.Now (aH w b 0).1.Seed ((aH w b 0).1.Devices.set b.toNat (mK (aO (aH w b 0).1 b) (w.Devices.length:Int) false)) (aH w b 0).1.Stolen c.1 (fK (aL w.Seed (w.Devices.length:Int)) (w.Devices.length:Int) 0 (aH w b 0).1.Sites).1 (aH w b 0).1.aAP (aH w b 0).1.Hosts (aH w b 0).1.Pin (aH w b 0).1.Mail=jD w b:=by
  unfold jD;rw[A2,A1'];rfl
 obtain⟨⟨z1,z2⟩,z3,z4⟩:=aUo hs
 have y0:(aH w b 0).1.sz<=34359738368:=by omega
 have y3:(aH w b 0).1.Devices.length<=34359738368/\(aH w b 0).1.Stolen.length<=34359738368:=by clear g3;simp only[D.World.sz] at y0;omega
 simp only[ae,nx_r,aB (show(aO (aH w b 0).1 b).sz<=34359738300 by omega),bd_s,fF (show((aH w b 0).1.Devices.set b.toNat (mK (aO (aH w b 0).1 b) (w.Devices.length:Int) false)).length<=34359738368 by rw[ax];exact y3.1),fF y3.2]
 show(bd (gd ((appW (D.World.mk (aH w b 0).1.Now (aH w b 0).1.Seed ((aH w b 0).1.Devices.set b.toNat (mK (aO (aH w b 0).1 b) (w.Devices.length:Int) false)) (aH w b 0).1.Stolen c.1 (fK (aL w.Seed (w.Devices.length:Int)) (w.Devices.length:Int) 0 (aH w b 0).1.Sites).1 (aH w b 0).1.aAP (aH w b 0).1.Hosts (aH w b 0).1.Pin (aH w b 0).1.Mail) (bM (aL w.Seed (w.Devices.length:Int)))).sz<=10000000000) (some (fG (appW (D.World.mk (aH w b 0).1.Now (aH w b 0).1.Seed ((aH w b 0).1.Devices.set b.toNat (mK (aO (aH w b 0).1 b) (w.Devices.length:Int) false)) (aH w b 0).1.Stolen c.1 (fK (aL w.Seed (w.Devices.length:Int)) (w.Devices.length:Int) 0 (aH w b 0).1.Sites).1 (aH w b 0).1.aAP (aH w b 0).1.Hosts (aH w b 0).1.Pin (aH w b 0).1.Mail) (bM (aL w.Seed (w.Devices.length:Int)))) b))) λz13=>bd (gd (z13.1.sz<=34359738100) (some (aH z13.1 (w.Devices.length:Int) 0))) λz14=>bd (bif !z13.2 then some true else some !(z14.2==0)) λz15=>bif z15 then some (w,false) else bd (gd (z14.1.Mail.sz<=34359738300) (some (uD z14.1.Mail 2 1 z14.1.Now))) λz16=>some (D.World.mk z14.1.Now z14.1.Seed z14.1.Devices z14.1.Stolen z14.1.aAB z14.1.Sites z14.1.aAP z14.1.Hosts z14.1.Pin z16.1,true))=_
 have nz:(bM (aL w.Seed (w.Devices.length:Int))).sz=0:=rfl
 rw[W2,aB (show(appW (jD w b) (bM (aL w.Seed (w.Devices.length:Int)))).sz<=10000000000 by rw[H7];omega),bd_s,bFc _ z1 (by omega),show fG (jD w b) b=nN w b from rfl]
 cases h9:(nN w b).2 with
 |false=>
  have hp:(nN w b).1=jD w b:=bI1 (w:=jD w b) (d:=b) h9
  rw[Oe (.inr (.inl h9)),aB (show(appW (nN w b).1 (bM (aL w.Seed (w.Devices.length:Int)))).sz<=34359738100 by rw[hp,H7];omega)];rfl
 |true=>
 obtain⟨v1,v2⟩:=bI0 hz hs h9
 rw[aB v1,bd_s,show aH (appW (nN w b).1 (bM (aL w.Seed (w.Devices.length:Int)))) (w.Devices.length:Int) 0=yP w b from rfl]
 cases h10:((yP w b).2==0) with
 |false=>rw[Oe (.inr (.inr h10))];rfl
 |true=>rw[aVm (by rw[A1']) (by rw[A2,h8]) h9 h10,bf,ab,bd_s,ab,aB (v2 h10),bd_s];rfl
end
end Go.VK
