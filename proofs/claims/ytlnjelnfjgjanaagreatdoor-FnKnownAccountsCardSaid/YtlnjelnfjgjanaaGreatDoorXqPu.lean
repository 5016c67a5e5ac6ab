import Derived.Test.YtlnjelnfjgjanaaGreatDoorXqPt
import Derived.Test.YtlnjelnfjgjanaaGreatDoorXqM
/- Printed by wip/tools: models, walks, proofs. -/
set_option linter.all false
set_option maxRecDepth 100000
set_option maxHeartbeats 4000000
namespace Go.VK
open Go.RowKit Go.Proofs
noncomputable section
open EV (cB)
def N8 (s n:Int):zA s n=some (aP s n):=by unfold zA;rw[aB (by simp)];rfl
def aBu (s:D.aAH):aA0 s=some (dH s):=rfl
def Xl (s:D.aAH)(n:ByteArray)(k:Int)(h:n.size<=34359738300):wW s n k=some (bM s n k):=by unfold wW;rw[aB h,bd_s,aB (by simp)];rfl
def Xm (s:D.aAH)(n:ByteArray)(k:Int)(h:n.size<=34359738300):xW s n k=some (bM s n k):=by unfold xW;rw[aB h,bd_s,aB (by simp)];rfl
def N9 (s:D.aAH)(n:ByteArray)(k:Int)(h:n.size<=34359738300):zF s n k=some (iK s n k):=by unfold zF;rw[aB h];rfl
def Rv (s:D.aAH)(l:List Int)(h:l.length<=34359738300):uN s l=some (pE s l):=by unfold uN;rw[aB h];rfl
def O0 (e:D.aAG)(d:Int)(h:e.Boxes.length<=34359738368):zD e d=some (pF e d):=by
 unfold zD
 rw[eT (l:=e.Boxes) (λn b=>bif b.To==d then IntKind.i64.wrap (n+1) else n) (λ_ _=>True) (λs=>some s) (by omega) trivial (λ_ _ _ _=>trivial) (λrec i s hi _=>by
  simp only[dB hi,ac,aN hi,bd_s,kZ]) (λrec s _=>by simp only[dF,ab])]
 rfl
def Xn (l:List D.aAD)(k d:Int)(s:D.aAH)(h:l.length<=34359738300):wQ l k d s=some (nE l k d s):=by
 have h1:l.length<=34359738368:=by omega
 have e:∀x:D.aAD,gd ((l++[x]).length<=34359738368) (some (bL (l++[x])))=some (bL (l++[x])):=λx=>aB (by simp;omega)
 have e1:∀x:Int,gd ([x].length<=34359738300) (some (pE s [x]))=some (pE s [x]):=λx=>aB (by simp)
 unfold wQ nE bAf aVu
 simp only[aB h1,bd_s,e1,fK h1,e]
 generalize bL (l++_)=q
 cases decide ((l.length:Int)>0)<;>cases bL l<;>cases q<;>rfl
def aWo (p e:Int)(d:List Int)(h:aT d):(bd (bif eG p==0 then some true else bif !bG e then some true else some (decide ((d.length:Int)>200))) λz0=>bif z0 then some (D.Box.mk 0 0 [] 0,false) else bd (gd (aT d) (some (jY (fH (eG p) e) d))) λz1=>bd (gd (z1.length<=34359738200) (some (La (fH (eG p) e) (D.Box.mk p e z1 0)))) λz2=>some (D.Box.mk p e z1 z2,true))=some (fM p e d):=by
 unfold fM fZ
 rw[wJ,wJ,bd_s]
 cases hc:(eG p==0||(!bG e||decide ((d.length:Int)>200))) with
 |true=>rfl
 |false=>
  have hl:d.length<=200:=by simp only[cl,dh] at hc;omega
  rw[ab,ab,aB h,bd_s,aB (show(jY (fH (eG p) e) d).length<=34359738200 by rw[Lp];omega),bd_s]
def aJv (p e:Int)(d:List Int)(h:aT d):aIn p e d=some (fM p e d):=aWo p e d h
def aBv (l:List Int)(e:Int)(d:List Int)(h:l.length<=34359738300/\aT d):Cg l e d=some (fD e d 0 l):=by
 obtain⟨h1,h2⟩:=h
 unfold Cg
 rw[aOv (e:=e) (d:=d) (l:=l) (x:=(([],false):List D.Box×Bool)) (λrec i s hi hs=>by
  simp only[dB hi,ac,aN hi,bd_s,aB h2,fK (show s.length<=34359738368 by omega)]) (λrec s=>by simp only[dF,ab]) l.length 0 FUEL [] (by omega) (by have:=gL;omega) (by simp),fh]
 cases hs:(fD e d 0 l).2 with
 |true=>rw[ac,nx_r,bm,<-hs]
 |false=>rw[ab,bDz hs];rfl
def bHh (a b:Int):aT (gG [a,b]):=aHr (by have:=aTd a b;omega) (Vy _)
def Jc (l:List D.aAD)(k e:Int)(h:l.length<=34359738300):qE l k e=some (cK l k e):=by
 have hd:=gD l
 unfold qE cK
 simp only[aB (show l.length<=34359738368 by omega),bd_s,aB (show[aF l,k].length<=5000000000 by simp),aB (show(aD l).length<=34359738300/\aT (gG [aF l,k]) from⟨by omega,bHh _ _⟩)]
 cases bL l<;>cases bG k<;>cases(fD e (gG [aF l,k]) 0 (aD l)).2<;>rfl
def bHi (e:D.aAG)(l:List Int):(l.all λd=>pF e d==1)= !(l.any λd=>pF e d !=1):=by
 induction l with
 |nil=>rfl
 |cons x l ih=>simp only[gt,List.any_cons,ih,bne];cases(pF e x==1)<;>simp
def aBw (e:D.aAG)(l:List D.aAD)(h:e.Boxes.length<=34359738368/\l.length<=34359738368):Ch e l=some (lF e l):=by
 obtain⟨h1,h2⟩:=h
 have hd:=gD l
 unfold Ch lF
 rw[aB h2,bd_s,kX (l:=aD l) (λd=>pF e d !=1) (.inl false) (.inr PUnit.unit) (by omega) (λrec i hi=>by
  simp only[dB hi,ac,aN hi,bd_s,aB h1]) (λrec=>by simp only[dF,ab]),bHi]
 simp only[aB h2,bd_s]
 cases(aD l).any (λd=>pF e d !=1)<;>cases(e.Epoch==aF l)<;>cases((e.Boxes.length:Int)==((aD l).length:Int))<;>rfl
def Xo (s:D.Site)(i:Int)(h:s.Accounts.length<=34359738368):wX s i=some (aC s i):=by
 unfold wX
 exact sI (l:=s.Accounts) (λa=>a.Id==i) (by omega) (λrec j hj=>by simp only[dB hj,ac,aN hj,bd_s]) (λrec=>by simp only[dF,ab])
def Xp (s:D.Site)(i:Int)(h:s.Accounts.length<=34359738368):xU s i=some (aC s i):=by
 unfold xU
 exact sI (l:=s.Accounts) (λa=>a.Id==i) (by omega) (λrec j hj=>by simp only[dB hj,ac,aN hj,bd_s]) (λrec=>by simp only[dF,ab])
def bMl {l:List D.aAL}{h p:Int}(hz:l.length<=34359738300){β:Type}(k:List D.aAL->Option β):gd (iQ l ((Lr h l:Nat):Int)) (gd (iQ l ((Lr h l:Nat):Int)) (gd (aS [] (List.take (Lr h l) l)) (gd (aS ([]++List.take (Lr h l) l) [D.aAL.mk h p 0 false]) (gd (aS ([]++List.take (Lr h l) l++[D.aAL.mk h p 0 false]) (List.drop (Lr h l) l)) (k ([]++List.take (Lr h l) l++[D.aAL.mk h p 0 false]++List.drop (Lr h l) l))))))=k (aAr l h p):=by
 have hk:Lr h l<=l.length:=Ls
 have h1:iQ l ((Lr h l:Nat):Int):=⟨by omega,by omega⟩
 rw[aB h1,aB h1,aB (by unfold aS;simp;omega),aB (by unfold aS;simp;omega),aB (by unfold aS;simp;omega)];rfl
def bHj {l:List D.aAL}{h:Int}(hz:l.length<=34359738300):EV.cB (α:=Int) FUEL (λrec (i:Int)=>bd (bif decide (i<(l.length:Int)) then(bd (bD l i) λz=>some (decide (z.Handle<h))) else some false) λz=>bif z then rec (IntKind.i64.wrap (i+1)) else some i) 0=some ((Lr h l:Nat):Int):=by
 have:=aAs (l:=l) (λc=>decide (c.Handle<h)) (λi=>some (i:Int)) (λi=>(i:Int)) (F:=λrec (i:Int)=>bd (bif decide (i<(l.length:Int)) then(bd (bD l i) λz=>some (decide (z.Handle<h))) else some false) λz=>bif z then rec (IntKind.i64.wrap (i+1)) else some i) (by omega) (λrec i hi=>by
  simp only[dB hi,ac,aN hi,bd_s]
  rw[aJ (by omega) (by omega)];rfl) (λrec=>by simp only[dF,ab,bd_s])
 exact this
def bMm {a:D.Account}(hz:a.sz<=34359738300)(h p:Int):(D.Account.mk a.Id a.Minimum (aAr a.Credentials h p)).sz<=34359738368:=by
 simp only[D.Account.sz,aTe] at*;omega
def Oe (a:D.Account)(h p:Int)(hz:a.sz<=34359738300):tC a h p=some (eD a h p):=by
 have h1:a.sz<=34359738368:=by omega
 have hc:a.Credentials.length<=34359738300:=hz
 unfold tC eD
 rw[aB h1,bd_s,bHj hc]
 simp only[aB h1,bd_s,bv]
 rw[bMl hc (λL=>bd (bif !aV a then some true else(bd (gd ((D.Account.mk a.Id a.Minimum L).sz<=34359738368) (some (aV (D.Account.mk a.Id a.Minimum L)))) λz4=>some (!z4))) λz3=>bif z3 then some (a,false) else some (D.Account.mk a.Id a.Minimum L,true))]
 simp only[bd_s,aB (bMm hz h p)]
 cases aV a<;>cases aV {a with Credentials:=aAr a.Credentials h p}<;>rfl
def aWp {a:D.Account}{h p:Int}(hn:(eD a h p).2=false):(eD a h p).1=a:=by
 unfold eD at*
 cases hc: !aV a|| !aV {a with Credentials:=aAr a.Credentials h p} with
 |true=>rfl
 |false=>rw[hc] at hn;cases hn
def Xq (s:D.Site)(i h p:Int)(hz:s.sz<=34359738300):wY s i h p=some (gQ s i h p):=by
 have h1:s.sz<=34359738368:=by omega
 have hl:s.Accounts.length<=34359738368:=by simp only[D.Site.sz] at hz;omega
 unfold wY gQ
 simp only[aB h1,aB hl,bd_s]
 rw[wJ,bd_s]
 cases hc:(!bR s||decide (aC s i<0)) with
 |true=>rfl
 |false=>
  rw[cl] at hc
  obtain⟨e1,e2,e3⟩:=bKa hz hc.2
  simp only[ab,e1,bd_s,aB e2]
  cases ha:(eD (s.Accounts.getD (aC s i).toNat default) h p).2 with
  |true=>rfl
  |false=>rw[aWp ha,aS2 e3];rfl
def bBd {L:List D.aAO}(h30:30<L.length)(hL:L.length<=34359738301):gd (iQ L ((sO L:Nat):Int)) (gd (iQ L (IntKind.i64.wrap (((sO L:Nat):Int)+1))) (gd (aS [] (List.take (Int.toNat ((sO L:Nat):Int)) L)) (gd (aS ([]++List.take (Int.toNat ((sO L:Nat):Int)) L) (List.drop (Int.toNat (IntKind.i64.wrap (((sO L:Nat):Int)+1))) L)) (some ([]++List.take (Int.toNat ((sO L:Nat):Int)) L++List.drop (Int.toNat (IntKind.i64.wrap (((sO L:Nat):Int)+1))) L)))))=some (Uj L):=by
 have hs:=aTf (l:=L) (by omega)
 have e:IntKind.i64.wrap (((sO L:Nat):Int)+1)=((sO L+1:Nat):Int):=by rw[aJ (by omega) (by omega)];rfl
 rw[e,aB ⟨by omega,by omega⟩,aB ⟨by omega,by omega⟩,aB (by unfold aS;simp;omega),aB (by unfold aS;simp;omega),bv,bv]
 unfold Uj
 rw[ao (show(L.length:Int)>30 by omega)];rfl
def bHk (l:List D.aAO)(x:D.aAO)(h:l.length<=34359738300):(D.aAM.mk (Uj (l++[x]))).sz<=34359738368:=by
 have:=bAh (l++[x])
 simp only[av,cW] at this
 simp only[D.aAM.sz];omega
def bE7 {L:List D.aAO}(h:¬30<L.length):Uj L=L:=by
 unfold Uj
 rw[ap (show ¬(L.length:Int)>30 by omega)];rfl
def O1 (m:D.aAM)(k a t:Int)(hz:m.sz<=34359738300):Ae m k a t=some (aOs m k a t):=by
 have h1:m.sz<=34359738368:=by omega
 have hm:m.Notices.length<=34359738300:=hz
 have hL:(m.Notices++[(⟨k,a,t,false⟩:D.aAO)]).length=m.Notices.length+1:=by simp
 have hn:=bHk m.Notices ⟨k,a,t,false⟩ hm
 unfold Ae aOs
 simp only[aB h1,bd_s,fK (show m.Notices.length<=34359738368 by omega)]
 generalize hg:m.Notices++[(⟨k,a,t,false⟩:D.aAO)]=L at*
 by_cases h30:30<L.length
 ·rw[ao (show(L.length:Int)>30 by omega),bGs (l:=L) (λi=>some i) (λi=>((0:Int),i)) (by omega) (λrec i hi=>by simp only[dB hi,ac,aN hi,bd_s]) (λrec=>by simp only[dF,ab]),ac,bd_s,bBd h30 (by omega),bd_s,aB hn,bd_s]
  cases gF m<;>cases gF ⟨Uj L⟩<;>rfl
 ·rw[ap (show ¬(L.length:Int)>30 by omega),ab,bd_s]
  rw[bE7 h30] at hn ⊢
  rw[aB hn,bd_s]
  cases gF m<;>cases gF ⟨L⟩<;>rfl
end
end Go.VK
