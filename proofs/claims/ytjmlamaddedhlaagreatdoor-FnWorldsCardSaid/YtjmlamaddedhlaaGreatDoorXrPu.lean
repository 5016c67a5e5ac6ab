import Derived.Test.YtjmlamaddedhlaaGreatDoorXrPs
import Derived.Test.YtjmlamaddedhlaaGreatDoorXrM
/- Printed by wip/tools: models, walks, proofs. -/
set_option linter.all false
set_option maxRecDepth 100000
set_option maxHeartbeats 4000000
namespace Go.VK
open Go.RowKit Go.Proofs
noncomputable section
open EV (bO)
def Zw (s n:Int):wY s n=some (aN s n):=by unfold wY;rw[aA (by simp)];rfl
def Zx (s n:Int):wG s n=some (aN s n):=by unfold wG;rw[aA (by simp)];rfl
def Y9 (s:D.aAH):U4 s=some (bQ s):=rfl
def Z0 (s:D.aAH):U2 s=some (bQ s):=rfl
def Tc (s:D.aAH)(n:ByteArray)(k:Int)(h:n.size<=34359738300):uN s n k=some (dQ s n k):=by unfold uN;rw[aA h,bd_s,aA (by simp)];rfl
def Td (s:D.aAH)(n:ByteArray)(k:Int)(h:n.size<=34359738300):tX s n k=some (dQ s n k):=by unfold tX;rw[aA h,bd_s,aA (by simp)];rfl
def Zy (s:D.aAH)(n:ByteArray)(k:Int)(h:n.size<=34359738300):xC s n k=some (eZ s n k):=by unfold xC;rw[aA h];rfl
def Zz (s:D.aAH)(n:ByteArray)(k:Int)(h:n.size<=34359738300):wL s n k=some (eZ s n k):=by unfold wL;rw[aA h];rfl
def Nc (s:D.aAH)(l:List Int)(h:l.length<=34359738300):qZ s l=some (iC s l):=by unfold qZ;rw[aA h];rfl
def Nf (s:D.aAH)(l:List Int)(h:l.length<=34359738300):qR s l=some (iC s l):=by unfold qR;rw[aA (by simp),bd_s,aA h];rfl
def d9 (e:D.aAD)(d:Int)(h:e.Boxes.length<=34359738368):xB e d=some (iN e d):=by
 unfold xB
 rw[dP (l:=e.Boxes) (λn b=>bif b.To==d then IntKind.i64.wrap (n+1) else n) (λ_ _=>True) (λs=>some s) (by omega) trivial (λ_ _ _ _=>trivial) (λrec i s hi _=>by
  simp only[bY hi,ae,aK hi,bd_s,iK]) (λrec s _=>by simp only[cB,ac])]
 rfl
def o5 (e:D.aAD)(d:Int)(h:e.Boxes.length<=34359738368):wK e d=some (iN e d):=by
 unfold wK
 rw[dP (l:=e.Boxes) (λn b=>bif b.To==d then IntKind.i64.wrap (n+1) else n) (λ_ _=>True) (λs=>some s) (by omega) trivial (λ_ _ _ _=>trivial) (λrec i s hi _=>by
  simp only[bY hi,ae,aK hi,bd_s,iK]) (λrec s _=>by simp only[cB,ac])]
 rfl
def Te (l:List D.aAB)(k d:Int)(s:D.aAH)(h:l.length<=34359738300):uI l k d s=some (iM l k d s):=by
 have h1:l.length<=34359738368:=by omega
 have e:∀x:D.aAB,gd ((l++[x]).length<=34359738368) (some (aV (l++[x])))=some (aV (l++[x])):=λx=>aA (by simp;omega)
 have e1:∀x:Int,gd ([x].length<=34359738300) (some (iC s [x]))=some (iC s [x]):=λx=>aA (by simp)
 unfold uI iM aTn aRj
 simp only[aA h1,bd_s,e1,fB h1,e]
 generalize aV (l++_)=q
 cases decide ((l.length:Int)>0)<;>cases aV l<;>cases q<;>rfl
def Tf (l:List D.aAB)(k d:Int)(s:D.aAH)(h:l.length<=34359738300):tJ l k d s=some (iM l k d s):=by
 have h1:l.length<=34359738368:=by omega
 have e:∀x:D.aAB,gd ((l++[x]).length<=34359738368) (some (aV (l++[x])))=some (aV (l++[x])):=λx=>aA (by simp;omega)
 have e1:∀x:Int,gd ([x].length<=34359738300) (some (iC s [x]))=some (iC s [x]):=λx=>aA (by simp)
 unfold tJ iM aTn aRj
 simp only[aA h1,bd_s,e1,fB h1,e]
 generalize aV (l++_)=q
 cases decide ((l.length:Int)>0)<;>cases aV l<;>cases q<;>rfl
def aIk (p e:Int)(d:List Int)(h:aQ d):(bd (bif dL p==0 then some true else bif !bB e then some true else some (decide ((d.length:Int)>200))) λz0=>bif z0 then some (D.Box.mk 0 0 [] 0,false) else bd (gd (aQ d) (some (iW (dU (dL p) e) d))) λz1=>bd (gd (z1.length<=34359738200) (some (Ex (dU (dL p) e) (D.Box.mk p e z1 0)))) λz2=>some (D.Box.mk p e z1 z2,true))=some (dM p e d):=by
 unfold dM fA
 rw[yX,yX,bd_s]
 cases hc:(dL p==0||(!bB e||decide ((d.length:Int)>200))) with
 |true=>rfl
 |false=>
  have hl:d.length<=200:=by simp only[bv,eI] at hc;omega
  rw[ac,ac,aA h,bd_s,aA (show(iW (dU (dL p) e) d).length<=34359738200 by rw[Ia];omega),bd_s]
def aIl (p e:Int)(d:List Int)(h:aQ d):aHm p e d=some (dM p e d):=aIk p e d h
def aIm (p e:Int)(d:List Int)(h:aQ d):aHj p e d=some (dM p e d):=aIk p e d h
def Z4 (l:List Int)(e:Int)(d:List Int)(h:l.length<=34359738300/\aQ d):Ac l e d=some (dN e d 0 l):=by
 obtain⟨h1,h2⟩:=h
 unfold Ac
 rw[R7 (e:=e) (d:=d) (l:=l) (x:=(([],false):List D.Box×Bool)) (λrec i s hi hs=>by
  simp only[bY hi,ae,aK hi,bd_s,aA h2,fB (show s.length<=34359738368 by omega)]) (λrec s=>by simp only[cB,ac]) l.length 0 FUEL [] (by omega) (by have:=fP;omega) (by simp),fu]
 cases hs:(dN e d 0 l).2 with
 |true=>rw[ae,nx_r,bh,<-hs]
 |false=>rw[ac,aRn hs];rfl
def Z5 (l:List Int)(e:Int)(d:List Int)(h:l.length<=34359738300/\aQ d):zJ l e d=some (dN e d 0 l):=by
 obtain⟨h1,h2⟩:=h
 unfold zJ
 rw[R7 (e:=e) (d:=d) (l:=l) (x:=(([],false):List D.Box×Bool)) (λrec i s hi hs=>by
  simp only[bY hi,ae,aK hi,bd_s,aA h2,fB (show s.length<=34359738368 by omega)]) (λrec s=>by simp only[cB,ac]) l.length 0 FUEL [] (by omega) (by have:=fP;omega) (by simp),fu]
 cases hs:(dN e d 0 l).2 with
 |true=>rw[ae,nx_r,bh,<-hs]
 |false=>rw[ac,aRn hs];rfl
def aWh (a b:Int):aQ (eU [a,b]):=aG1 (by have:=aRl a b;omega) (Rh _)
def Fh (l:List D.aAB)(k e:Int)(h:l.length<=34359738300):nT l k e=some (bK l k e):=by
 have hd:=eD l
 unfold nT bK
 simp only[aA (show l.length<=34359738368 by omega),bd_s,aA (show[aJ l,k].length<=5000000000 by simp),aA (show(aB l).length<=34359738300/\aQ (eU [aJ l,k]) from⟨by omega,aWh _ _⟩)]
 cases aV l<;>cases bB k<;>cases(dN e (eU [aJ l,k]) 0 (aB l)).2<;>rfl
def Fj (l:List D.aAB)(k e:Int)(h:l.length<=34359738300):nN l k e=some (bK l k e):=by
 have hd:=eD l
 unfold nN bK
 simp only[aA (show l.length<=34359738368 by omega),bd_s,aA (show[aJ l,k].length<=5000000000 by simp),aA (show(aB l).length<=34359738300/\aQ (eU [aJ l,k]) from⟨by omega,aWh _ _⟩)]
 cases aV l<;>cases bB k<;>cases(dN e (eU [aJ l,k]) 0 (aB l)).2<;>rfl
def aWi (e:D.aAD)(l:List Int):(l.all λd=>iN e d==1)= !(l.any λd=>iN e d !=1):=by
 induction l with
 |nil=>rfl
 |cons x l ih=>simp only[fR,List.any_cons,ih,bne];cases(iN e x==1)<;>simp
def Z6 (e:D.aAD)(l:List D.aAB)(h:e.Boxes.length<=34359738368/\l.length<=34359738368):Ad e l=some (fZ e l):=by
 obtain⟨h1,h2⟩:=h
 have hd:=eD l
 unfold Ad fZ
 rw[aA h2,bd_s,jV (l:=aB l) (λd=>iN e d !=1) (.inl false) (.inr PUnit.unit) (by omega) (λrec i hi=>by
  simp only[bY hi,ae,aK hi,bd_s,aA h1]) (λrec=>by simp only[cB,ac]),aWi]
 simp only[aA h2,bd_s]
 cases(aB l).any (λd=>iN e d !=1)<;>cases(e.Epoch==aJ l)<;>cases((e.Boxes.length:Int)==((aB l).length:Int))<;>rfl
def Z7 (e:D.aAD)(l:List D.aAB)(h:e.Boxes.length<=34359738368/\l.length<=34359738368):zK e l=some (fZ e l):=by
 obtain⟨h1,h2⟩:=h
 have hd:=eD l
 unfold zK fZ
 rw[aA h2,bd_s,aA h2,bd_s,jV (l:=aB l) (λd=>iN e d !=1) (.inl false) (.inr PUnit.unit) (by omega) (λrec i hi=>by
  simp only[bY hi,ae,aK hi,bd_s,aA h1]) (λrec=>by simp only[cB,ac]),aWi]
 simp only[bne]
 cases(aB l).any (λd=> !(iN e d==1))<;>cases(e.Epoch==aJ l)<;>cases((e.Boxes.length:Int)==((aB l).length:Int))<;>rfl
def Tg (s:D.Site)(i:Int)(h:s.Accounts.length<=34359738368):uO s i=some (aL s i):=by
 unfold uO
 exact Yf (l:=s.Accounts) (λa=>a.Id==i) (by omega) (λrec j hj=>by simp only[bY hj,ae,aK hj,bd_s]) (λrec=>by simp only[cB,ac])
def Ti (s:D.Site)(i:Int)(h:s.Accounts.length<=34359738368):tY s i=some (aL s i):=by
 unfold tY
 exact Yf (l:=s.Accounts) (λa=>a.Id==i) (by omega) (λrec j hj=>by simp only[bY hj,ae,aK hj,bd_s]) (λrec=>by simp only[cB,ac])
def bFf {l:List D.aAJ}{h p:Int}(hz:l.length<=34359738300){β:Type}(k:List D.aAJ->Option β):gd (jF l ((Rj h l:Nat):Int)) (gd (jF l ((Rj h l:Nat):Int)) (gd (aS [] (List.take (Rj h l) l)) (gd (aS ([]++List.take (Rj h l) l) [D.aAJ.mk h p 0 false]) (gd (aS ([]++List.take (Rj h l) l++[D.aAJ.mk h p 0 false]) (List.drop (Rj h l) l)) (k ([]++List.take (Rj h l) l++[D.aAJ.mk h p 0 false]++List.drop (Rj h l) l))))))=k (R6 l h p):=by
 have hk:Rj h l<=l.length:=Ib
 have h1:jF l ((Rj h l:Nat):Int):=⟨by omega,by omega⟩
 rw[aA h1,aA h1,aA (by unfold aS;simp;omega),aA (by unfold aS;simp;omega),aA (by unfold aS;simp;omega)];rfl
def aWj {l:List D.aAJ}{h:Int}(hz:l.length<=34359738300):EV.bO (α:=Int) FUEL (λrec (i:Int)=>bd (bif decide (i<(l.length:Int)) then(bd (aZ l i) λz=>some (decide (z.Handle<h))) else some false) λz=>bif z then rec (IntKind.i64.wrap (i+1)) else some i) 0=some ((Rj h l:Nat):Int):=by
 have:=aNf (l:=l) (λc=>decide (c.Handle<h)) (λi=>some (i:Int)) (λi=>(i:Int)) (F:=λrec (i:Int)=>bd (bif decide (i<(l.length:Int)) then(bd (aZ l i) λz=>some (decide (z.Handle<h))) else some false) λz=>bif z then rec (IntKind.i64.wrap (i+1)) else some i) (by omega) (λrec i hi=>by
  simp only[bY hi,ae,aK hi,bd_s]
  rw[aH (by omega) (by omega)];rfl) (λrec=>by simp only[cB,ac,bd_s])
 exact this
def bFg {a:D.aAG}(hz:a.sz<=34359738300)(h p:Int):(D.aAG.mk a.Id a.Minimum (R6 a.Credentials h p)).sz<=34359738368:=by
 simp only[D.aAG.sz,aRm] at*;omega
def Jy (a:D.aAG)(h p:Int)(hz:a.sz<=34359738300):pX a h p=some (dS a h p):=by
 have h1:a.sz<=34359738368:=by omega
 have hc:a.Credentials.length<=34359738300:=hz
 unfold pX dS
 rw[aA h1,bd_s,aWj hc]
 simp only[aA h1,bd_s,bp]
 rw[bFf hc (λL=>bd (bif !aU a then some true else(bd (gd ((D.aAG.mk a.Id a.Minimum L).sz<=34359738368) (some (aU (D.aAG.mk a.Id a.Minimum L)))) λz4=>some (!z4))) λz3=>bif z3 then some (a,false) else some (D.aAG.mk a.Id a.Minimum L,true))]
 simp only[bd_s,aA (bFg hz h p)]
 cases aU a<;>cases aU {a with Credentials:=R6 a.Credentials h p}<;>rfl
def Jz (a:D.aAG)(h p:Int)(hz:a.sz<=34359738300):pV a h p=some (dS a h p):=by
 have h1:a.sz<=34359738368:=by omega
 have hc:a.Credentials.length<=34359738300:=hz
 unfold pV dS
 rw[aA h1,bd_s,aWj hc]
 simp only[aA h1,bd_s,bp]
 rw[bFf hc (λL=>bd (gd ((D.aAG.mk a.Id a.Minimum L).sz<=34359738368) (some (aU (D.aAG.mk a.Id a.Minimum L)))) λz3=>bif (!z3) then some (a,false) else some (D.aAG.mk a.Id a.Minimum L,true))]
 simp only[bd_s,aA (bFg hz h p)]
 cases aU a<;>cases aU {a with Credentials:=R6 a.Credentials h p}<;>rfl
def aUe {a:D.aAG}{h p:Int}(hn:(dS a h p).2=false):(dS a h p).1=a:=by
 unfold dS at*
 cases hc: !aU a|| !aU {a with Credentials:=R6 a.Credentials h p} with
 |true=>rfl
 |false=>rw[hc] at hn;cases hn
def Tj (s:D.Site)(i h p:Int)(hz:s.sz<=34359738300):uP s i h p=some (fG s i h p):=by
 have h1:s.sz<=34359738368:=by omega
 have hl:s.Accounts.length<=34359738368:=by simp only[D.Site.sz] at hz;omega
 unfold uP fG
 simp only[aA h1,aA hl,bd_s]
 rw[yX,bd_s]
 cases hc:(!cO s||decide (aL s i<0)) with
 |true=>rfl
 |false=>
  rw[bv] at hc
  obtain⟨e1,e2,e3⟩:=bA0 hz hc.2
  simp only[ac,e1,bd_s,aA e2]
  cases ha:(dS (s.Accounts.getD (aL s i).toNat default) h p).2 with
  |true=>rfl
  |false=>rw[aUe ha,bAr e3];rfl
def Tn (s:D.Site)(i h p:Int)(hz:s.sz<=34359738300):tZ s i h p=some (fG s i h p):=by
 have h1:s.sz<=34359738368:=by omega
 have hl:s.Accounts.length<=34359738368:=by simp only[D.Site.sz] at hz;omega
 unfold tZ fG
 simp only[aA h1,aA hl,bd_s]
 rw[yX,bd_s]
 cases hc:(!cO s||decide (aL s i<0)) with
 |true=>rfl
 |false=>
  rw[bv] at hc
  obtain⟨e1,e2,e3⟩:=bA0 hz hc.2
  simp only[ac,e1,bd_s,aA e2]
  cases ha:(dS (s.Accounts.getD (aL s i).toNat default) h p).2<;>rfl
end
end Go.VK
