import Derived.Test.YtlnjelnfjgjanaaGreatXpPs
import Derived.Test.YtlnjelnfjgjanaaGreatXpM
/- Printed by wip/tools: models, walks, proofs. -/
set_option linter.unusedVariables false
set_option linter.unusedSimpArgs false
set_option maxRecDepth 100000
set_option maxHeartbeats 4000000
namespace Go.VK
open Go.RowKit Go.Proofs
noncomputable section
open EV (bT)
theorem Zl (s n:Int):xZ s n=some (aJ s n):=by unfold xZ;rw[aB (by simp)];rfl
theorem U4 (s:D.aAI):P9 s=some (bJ s):=rfl
theorem Uk (s:D.aAI)(n:ByteArray)(k:Int)(h:n.size≤34359738300):wE s n k=some (eO s n k):=by unfold wE;rw[aB h,bd_s,aB (by simp)];rfl
theorem Zm (s:D.aAI)(n:ByteArray)(k:Int)(h:n.size≤34359738300):yD s n k=some (dO s n k):=by unfold yD;rw[aB h];rfl
theorem Pj (s:D.aAI)(l:List Int)(h:l.length≤34359738300):tT s l=some (oG s l):=by unfold tT;rw[aB h];rfl
theorem Zn (e:D.aAH)(d:Int)(h:e.Boxes.length≤34359738368):yC e d=some (oH e d):=by
 unfold yC
 rw[fD (l:=e.Boxes) (fun n b=>bif b.To==d then IntKind.i64.wrap (n+1) else n) (fun _ _=>True) (fun s=>some s) (by omega) trivial (fun _ _ _ _=>trivial) (fun rec i s hi _=>by
  simp only[dQ hi,cond_true,aM hi,bd_s,rF]) (fun rec s _=>by simp only[dS,cond_false])]
 rfl
theorem Ul (l:List D.aAC)(k d:Int)(s:D.aAI)(h:l.length≤34359738300):vY l k d s=some (gK l k d s):=by
 have h1:l.length≤34359738368:=by omega
 have e:∀x:D.aAC,gd ((l++[x]).length≤34359738368) (some (bE (l++[x])))=some (bE (l++[x])):=fun x=>aB (by simp;omega)
 have e1:∀x:Int,gd ([x].length≤34359738300) (some (oG s [x]))=some (oG s [x]):=fun x=>aB (by simp)
 unfold vY gK aWq aSg
 simp only[aB h1,bd_s,e1,gT h1,e]
 generalize bE (l++_)=q
 cases decide ((l.length:Int)>0)<;>cases bE l<;>cases q<;>rfl
theorem aTd (p e:Int)(d:List Int)(h:bB d):(bd (bif gG p==0 then some true else bif !bM e then some true else some (decide ((d.length:Int)>200))) fun z0=>bif z0 then some (D.Box.mk 0 0 [] 0,false) else bd (gd (bB d) (some (xS (jB (gG p) e) d))) fun z1=>bd (gd (z1.length≤34359738200) (some (aI8 (jB (gG p) e) (D.Box.mk p e z1 0)))) fun z2=>some (D.Box.mk p e z1 z2,true))=some (fA p e d):=by
 unfold fA rW
 rw[Ap,Ap,bd_s]
 cases hc:(gG p==0||(!bM e||decide ((d.length:Int)>200))) with
 |true=>rfl
 |false=>
  have hl:d.length≤200:=by simp only[Bool.or_eq_false_iff,decide_eq_false_iff_not] at hc;omega
  rw[cond_false,cond_false,aB h,bd_s,aB (show(xS (jB (gG p) e) d).length≤34359738200 by rw[Yd];omega),bd_s]
theorem aHg (p e:Int)(d:List Int)(h:bB d):aGi p e d=some (fA p e d):=aTd p e d h
theorem U5 (l:List Int)(e:Int)(d:List Int)(h:l.length≤34359738300∧bB d):Bf l e d=some (eU e d 0 l):=by
 obtain⟨h1,h2⟩:=h
 unfold Bf
 rw[aMg (e:=e) (d:=d) (l:=l) (x:=(([],false):List D.Box×Bool)) (fun rec i s hi hs=>by
  simp only[dQ hi,cond_true,aM hi,bd_s,aB h2,gT (show s.length≤34359738368 by omega)]) (fun rec s=>by simp only[dS,cond_false]) l.length 0 FUEL [] (by omega) (by have:=gY;omega) (by simp),List.drop_zero]
 cases hs:(eU e d 0 l).2 with
 |true=>rw[cond_true,nx_r,List.nil_append,←hs]
 |false=>rw[cond_false,bAn hs];rfl
theorem bD9 (a b:Int):bB (jX [a,b]):=aFp (by have:=aQc a b;omega) (aFq _)
theorem Gl (l:List D.aAC)(k e:Int)(h:l.length≤34359738300):pU l k e=some (bG l k e):=by
 have hd:=iT l
 unfold pU bG
 simp only[aB (show l.length≤34359738368 by omega),bd_s,aB (show[aQ l,k].length≤5000000000 by simp),aB (show(aH l).length≤34359738300∧bB (jX [aQ l,k]) from⟨by omega,bD9 _ _⟩)]
 cases bE l<;>cases bM k<;>cases(eU e (jX [aQ l,k]) 0 (aH l)).2<;>rfl
theorem bEa (e:D.aAH)(l:List Int):(l.all fun d=>oH e d==1)= !(l.any fun d=>oH e d !=1):=by
 induction l with
 |nil=>rfl
 |cons x l ih=>simp only[List.all_cons,List.any_cons,ih,bne];cases(oH e x==1)<;>simp
theorem U6 (e:D.aAH)(l:List D.aAC)(h:e.Boxes.length≤34359738368∧l.length≤34359738368):Bg e l=some (gL e l):=by
 obtain⟨h1,h2⟩:=h
 have hd:=iT l
 unfold Bg gL
 rw[aB h2,bd_s,mU (l:=aH l) (fun d=>oH e d !=1) (.inl false) (.inr PUnit.unit) (by omega) (fun rec i hi=>by
  simp only[dQ hi,cond_true,aM hi,bd_s,aB h1]) (fun rec=>by simp only[dS,cond_false]),bEa]
 simp only[aB h2,bd_s]
 cases(aH l).any (fun d=>oH e d !=1)<;>cases(e.Epoch==aQ l)<;>cases((e.Boxes.length:Int)==((aH l).length:Int))<;>rfl
theorem bG5 {e:D.aAH}(h:e.sz≤34359738368):e.Boxes.length≤34359738368:=by simp only[D.aAH.sz] at h;omega
theorem U7 (c:D.aAE)(l:List D.aAC)(e:D.aAH)(h:c.sz≤34359738368∧l.length≤34359738368∧e.sz≤34359738368):Bq c l e=some (kF c l e):=by
 obtain⟨h1,h2,h3⟩:=h
 unfold Bq kF
 simp only[aB h1,aB h2,aB h3,bd_s,aB (show e.Boxes.length≤34359738368∧l.length≤34359738368 from⟨bG5 h3,h2⟩)]
 cases bE l<;>cases dX l c.Log<;>cases gL e l<;>rfl
theorem Um (s:D.Site)(i:Int)(h:s.Accounts.length≤34359738368):wF s i=some (aC s i):=by
 unfold wF
 exact Xw (l:=s.Accounts) (fun a=>a.Id==i) (by omega) (fun rec j hj=>by simp only[dQ hj,cond_true,aM hj,bd_s]) (fun rec=>by simp only[dS,cond_false])
theorem bIi {l:List D.aAJ}{h p:Int}(hz:l.length≤34359738300){β:Type}(k:List D.aAJ→Option β):gd (nT l ((Tv h l:Nat):Int)) (gd (nT l ((Tv h l:Nat):Int)) (gd (aS [] (List.take (Tv h l) l)) (gd (aS ([]++List.take (Tv h l) l) [D.aAJ.mk h p 0 false]) (gd (aS ([]++List.take (Tv h l) l++[D.aAJ.mk h p 0 false]) (List.drop (Tv h l) l)) (k ([]++List.take (Tv h l) l++[D.aAJ.mk h p 0 false]++List.drop (Tv h l) l))))))=k (aCa l h p):=by
 have hk:Tv h l≤l.length:=Iz
 have h1:nT l ((Tv h l:Nat):Int):=⟨by omega,by omega⟩
 rw[aB h1,aB h1,aB (by unfold aS;simp;omega),aB (by unfold aS;simp;omega),aB (by unfold aS;simp;omega)];rfl
theorem bEb {l:List D.aAJ}{h:Int}(hz:l.length≤34359738300):EV.bT (α:=Int) FUEL (fun rec (i:Int)=>bd (bif decide (i<(l.length:Int)) then(bd (bA l i) fun z=>some (decide (z.Handle<h))) else some false) fun z=>bif z then rec (IntKind.i64.wrap (i+1)) else some i) 0=some ((Tv h l:Nat):Int):=by
 have:=aMf (l:=l) (fun c=>decide (c.Handle<h)) (fun i=>some (i:Int)) (fun i=>(i:Int)) (F:=fun rec (i:Int)=>bd (bif decide (i<(l.length:Int)) then(bd (bA l i) fun z=>some (decide (z.Handle<h))) else some false) fun z=>bif z then rec (IntKind.i64.wrap (i+1)) else some i) (by omega) (fun rec i hi=>by
  simp only[dQ hi,cond_true,aM hi,bd_s]
  rw[aG (by omega) (by omega)];rfl) (fun rec=>by simp only[dS,cond_false,bd_s])
 exact this
theorem bIj {a:D.aAF}(hz:a.sz≤34359738300)(h p:Int):(D.aAF.mk a.Id a.Minimum (aCa a.Credentials h p)).sz≤34359738368:=by
 simp only[D.aAF.sz,aQd] at*;omega
theorem Kw (a:D.aAF)(h p:Int)(hz:a.sz≤34359738300):sF a h p=some (gJ a h p):=by
 have h1:a.sz≤34359738368:=by omega
 have hc:a.Credentials.length≤34359738300:=hz
 unfold sF gJ
 rw[aB h1,bd_s,bEb hc]
 simp only[aB h1,bd_s,Int.toNat_natCast]
 rw[bIi hc (fun L=>bd (bif !aY a then some true else(bd (gd ((D.aAF.mk a.Id a.Minimum L).sz≤34359738368) (some (aY (D.aAF.mk a.Id a.Minimum L)))) fun z4=>some (!z4))) fun z3=>bif z3 then some (a,false) else some (D.aAF.mk a.Id a.Minimum L,true))]
 simp only[bd_s,aB (bIj hz h p)]
 cases aY a<;>cases aY {a with Credentials:=aCa a.Credentials h p}<;>rfl
theorem aTe {a:D.aAF}{h p:Int}(hn:(gJ a h p).2=false):(gJ a h p).1=a:=by
 unfold gJ at*
 cases hc: !aY a|| !aY {a with Credentials:=aCa a.Credentials h p} with
 |true=>rfl
 |false=>rw[hc] at hn;cases hn
theorem Uo (s:D.Site)(i h p:Int)(hz:s.sz≤34359738300):wG s i h p=some (eP s i h p):=by
 have h1:s.sz≤34359738368:=by omega
 have hl:s.Accounts.length≤34359738368:=by simp only[D.Site.sz] at hz;omega
 unfold wG eP
 simp only[aB h1,aB hl,bd_s]
 rw[Ap,bd_s]
 cases hc:(!cZ s||decide (aC s i<0)) with
 |true=>rfl
 |false=>
  rw[Bool.or_eq_false_iff] at hc
  obtain⟨e1,e2,e3⟩:=bAo hz hc.2
  simp only[cond_false,e1,bd_s,aB e2]
  cases ha:(gJ (s.Accounts.getD (aC s i).toNat default) h p).2 with
  |true=>rfl
  |false=>rw[aTe ha,aFf e3];rfl
theorem U8 (i:Int):(aA i).size≤34359738300:=by unfold aA;cases i==0<;>cases i==1<;>decide
theorem Zo (d:D.Device)(h:Int)(rm:Bool)(hz:d.sz≤34359738300):yQ d h rm=some (lL d h rm):=by
 have h1:=Aq d (aA 0) h rm
 unfold yQ lL
 rw[aB ⟨by omega,U8 0⟩,bd_s,show FUEL=FUEL-2+1+1 from by have:=gY;omega]
 have e:∀{β:Type} (k:Option β),gd ((bX d (aA 0) h rm).1.sz≤34359738360∧(aA 1).size≤34359738300) k=k:=fun k=>aB ⟨by omega,U8 1⟩
 show(bd (bd (gd ((bX d (aA 0) h rm).1.sz≤34359738360∧(aA 1).size≤34359738300) (some (bX (bX d (aA 0) h rm).1 (aA 1) h rm))) fun z3=>some (z3.1.Store.Vendor,z3.1.Store.Serial,z3.1.Store.Seed,z3.1.Store.Counter,z3.1.Log,z3.1.Key,z3.1.Epoch,z3.1.Version,z3.1.aAG.Entries)) fun z0=>some (D.Device.mk (D.aAI.mk z0.1 z0.2.1 z0.2.2.1 z0.2.2.2.1) z0.2.2.2.2.1 z0.2.2.2.2.2.1 z0.2.2.2.2.2.2.1 z0.2.2.2.2.2.2.2.1 (D.aAG.mk z0.2.2.2.2.2.2.2.2)))=_
 rw[e,bd_s,bd_s]
theorem bBq {w:D.World}{d:Int}(hw:aN w=true)(hd:aK w d=true):bA w.Stolen d=some (dV w d):=by
 have hl:w.Stolen.length=w.Devices.length:=by
  simp only[aN,Bool.and_eq_true,beq_iff_eq] at hw;omega
 simp only[aK,Bool.and_eq_true,decide_eq_true_eq] at hd
 rw[mP hd.1 (by omega)]
 simp[dV,List.getD,List.getElem?_eq_getElem (show d.toNat<w.Stolen.length by omega)]
theorem aVb {p r:List D.Site}{s:D.Site}:bA (p++s::r) ((p.length:Nat):Int)=some s:=by
 rw[aM (by simp)];simp
theorem aQ2 {p r:List D.Site}{s y:D.Site}:(p++s::r).set (Int.toNat ((p.length:Nat):Int)) y=p++y::r:=by
 rw[Int.toNat_natCast];simp
theorem bBr {w:D.World}{b:Int}(hz:w.sz≤100000000)(h1:aN w=true)(hs:((aI w b 0).2==0)=true):((aK (aI w b 0).1 b=true∧(aI w b 0).1.Sites.length=2)∧(aI w b 0).1.sz≤300000000)∧(aI w b 0).1.aAE.Log.length≤100000000:=by
 obtain⟨⟨k1,k2⟩,k3,k4,k5⟩:=lK hs
 have hL:w.aAE.Log.length≤w.sz:=by simp only[D.World.sz,D.aAE.sz];omega
 refine⟨⟨⟨by simp only[aK] at*;rw[k4];exact k2,?_⟩,by omega⟩,by rw[k3];omega⟩
 have e:(aI w b 0).1.Sites=w.Sites:=by unfold aI;cases(aN w&&aK w b)<;>rfl
 rw[e]
 simp only[aN,Bool.and_eq_true,beq_iff_eq] at h1
 omega
theorem aXx {L:List D.aAS}(h30:30<L.length)(hL:L.length≤34359738301):gd (nT L ((vQ L:Nat):Int)) (gd (nT L (IntKind.i64.wrap (((vQ L:Nat):Int)+1))) (gd (aS [] (List.take (Int.toNat ((vQ L:Nat):Int)) L)) (gd (aS ([]++List.take (Int.toNat ((vQ L:Nat):Int)) L) (List.drop (Int.toNat (IntKind.i64.wrap (((vQ L:Nat):Int)+1))) L)) (some ([]++List.take (Int.toNat ((vQ L:Nat):Int)) L++List.drop (Int.toNat (IntKind.i64.wrap (((vQ L:Nat):Int)+1))) L)))))=some (Et L):=by
 have hs:=bAm (l:=L) (by omega)
 have e:IntKind.i64.wrap (((vQ L:Nat):Int)+1)=((vQ L+1:Nat):Int):=by rw[aG (by omega) (by omega)];rfl
 rw[e,aB ⟨by omega,by omega⟩,aB ⟨by omega,by omega⟩,aB (by unfold aS;simp;omega),aB (by unfold aS;simp;omega),Int.toNat_natCast,Int.toNat_natCast]
 unfold Et
 rw[decide_eq_true (show(L.length:Int)>30 by omega)];rfl
theorem bEc (l:List D.aAS)(x:D.aAS)(h:l.length≤34359738300):(D.aAP.mk (Et (l++[x]))).sz≤34359738368:=by
 have:=aMa (l++[x])
 simp only[List.length_append,List.length_singleton] at this
 simp only[D.aAP.sz];omega
theorem bBs {L:List D.aAS}(h:¬30<L.length):Et L=L:=by
 unfold Et
 rw[decide_eq_false (show ¬(L.length:Int)>30 by omega)];rfl
theorem Zp (m:D.aAP)(k a t:Int)(hz:m.sz≤34359738300):yN m k a t=some (xU m k a t):=by
 have h1:m.sz≤34359738368:=by omega
 have hm:m.Notices.length≤34359738300:=hz
 have hL:(m.Notices++[(⟨k,a,t,false⟩:D.aAS)]).length=m.Notices.length+1:=by simp
 have hn:=bEc m.Notices ⟨k,a,t,false⟩ hm
 unfold yN xU
 rw[aB (by unfold aS;simp;omega),List.nil_append,gT (show m.Notices.length≤34359738368 by omega)]
 simp only[aB h1,bd_s]
 generalize hg:m.Notices++[(⟨k,a,t,false⟩:D.aAS)]=L at*
 by_cases h30:30<L.length
 ·have e:=aMh (l:=L) (F:=fun rec (i2:Int×Int)=>bif (decide (i2.2≥(0:Int))) then(bd (bd (bA L (i2.2)) fun z4=>bif (z4.Seen) then(some (i2.2)) else(some (i2.1))) fun z3=>rec ((z3,IntKind.i64.wrap (i2.2-(1:Int))))) else(some (i2.1))) (fun rec q i hi=>by
   simp only[decide_eq_true (show((i:Int)≥0) by omega),cond_true,aM hi,bd_s,rF,aG (show(-9223372036854775808:Int)≤(i:Int)-1 by omega) (show(i:Int)-1≤9223372036854775807 by omega)]) (fun rec q=>rfl) L.length FUEL 0 (Nat.le_refl _) (by have:=gY;omega)
  rw[List.take_length] at e
  rw[decide_eq_true (show(L.length:Int)>30 by omega),cond_true,aG (by omega) (by omega),e,←bAl,bd_s,aXx h30 (by omega),bd_s,aB hn,bd_s]
  cases fO m<;>cases fO ⟨Et L⟩<;>rfl
 ·rw[decide_eq_false (show ¬(L.length:Int)>30 by omega),cond_false,bd_s]
  rw[bBs h30] at hn ⊢
  rw[aB hn,bd_s]
  cases fO m<;>cases fO ⟨L⟩<;>rfl
theorem aQ3 {τ:Type}{x:τ}{st:D.aAI}{n:Int}{N:Nat}{F:(Nat×List D.Site→Option (τ⊕List D.Site))→Nat×List D.Site→Option (τ⊕List D.Site)}
  (hF:∀rec (p:List D.Site) (s:D.Site) (r:List D.Site),p.length+r.length+1=N→s.sz≤34359738300→F rec (p.length,p++s::r)=bif !(eP s 1 n (dO st (aA (p.length:Int)) n)).2 then some (.inl x) else rec (p.length+1,p++(eP s 1 n (dO st (aA (p.length:Int)) n)).1::r)) (hE:∀rec S,F rec (N,S)=some (.inr S)):
  ∀(r p:List D.Site) (m:Nat),p.length+r.length=N→r.length<m→(∀s∈r,s.sz≤34359738300)→EV.bT m F (p.length,p++r)=some (bif (fK st n p.length r).2 then .inr (p++(fK st n p.length r).1) else .inl x)
 |[],p,m+1,h,_,_=>by
  simp only[List.length_nil,Nat.add_zero] at h
  rw[gU,h,hE];simp[fK]
 |s::r,p,m+1,h,hm,hs=>by
  simp only[List.length_cons] at h hm
  rw[gU,hF _ p s r (by omega) (hs s (by simp)),fK]
  cases hr:(eP s 1 n (dO st (aA (p.length:Int)) n)).2 with
  |false=>rfl
  |true=>
   have:=aQ3 hF hE r (p++[(eP s 1 n (dO st (aA (p.length:Int)) n)).1]) m (by simp;omega) (by omega) (fun y hy=>hs y (by simp[hy]))
   simp only[List.length_append,List.length_singleton,List.append_assoc,List.cons_append,List.nil_append] at this
   rw[Bool.not_true,cond_false,this]
   cases(fK st n (p.length+1) r).2<;>rfl
theorem aXy {τ:Type}{x:τ}{st:D.aAI}{n:Int}{N:Nat}{l:List D.Site}(hN:l.length=N)(hN2:N≤100)(hs:∀s∈l,s.sz≤34359738300){F:(Nat×List D.Site→Option (τ⊕List D.Site))→Nat×List D.Site→Option (τ⊕List D.Site)}
  (hF:∀rec (p:List D.Site) (s:D.Site) (r:List D.Site),p.length+r.length+1=N→s.sz≤34359738300→F rec (p.length,p++s::r)=bif !(eP s 1 n (dO st (aA (p.length:Int)) n)).2 then some (.inl x) else rec (p.length+1,p++(eP s 1 n (dO st (aA (p.length:Int)) n)).1::r)) (hE:∀rec S,F rec (N,S)=some (.inr S)):EV.bT FUEL F (0,l)=some (bif (fK st n 0 l).2 then .inr (fK st n 0 l).1 else .inl x):=by
 have:=aQ3 hF hE l [] FUEL (by simp;omega) (by have:=gY;omega) hs
 simpa using this
def zB (w:D.World)(b:Int):D.World×Bool:=bif (add1 w b).2&&((aFs w b).2&&((oI w b).2&&(zR w b).2==0)) then(Iy (zR w b).1 2,true) else(w,false)
theorem aXz {w:D.World}{b:Int}(h1:aN w=true)(h2:aK w b=true)(h3:dV w b=false)(h4:decide ((w.Devices.length:Int)≥6)=false)(h5:((aI w b 0).2==0)=true):jE w b=zB w b:=by
 unfold jE aBk zB
 rw[h1,h2,h3,h4,h5];rfl
theorem Uq {w:D.World}{b:Int}(h:(add1 w b).2=false):zB w b=(w,false):=by unfold zB;rw[h];rfl
theorem Ky {w:D.World}{b:Int}(h:(aFs w b).2=false∨(oI w b).2=false∨((zR w b).2==0)=false):zB w b=(w,false):=by
 unfold zB
 rcases h with h|h|h<;>rw[h]<;>simp
theorem aQ4 {w:D.World}{b:Int}(h1:(add1 w b).2=true)(h2:(aFs w b).2=true)(h3:(oI w b).2=true)(h4:((zR w b).2==0)=true):zB w b=(Iy (zR w b).1 2,true):=by
 unfold zB;rw[h1,h2,h3,h4];rfl
theorem bEd {w:D.World}{b:Int}(hz:w.sz≤100000000)(h0:((aI w b 0).2==0)=true)(h3:(oI w b).2=true):(appW (oI w b).1 (bJ (aJ w.Seed (w.Devices.length:Int)))).sz≤34359738100∧((zR w b).2==0→(zR w b).1.Mail.sz≤34359738300):=by
 obtain⟨g1,g2⟩:=bDn h0 h3
 have g4:(bJ (aJ w.Seed (w.Devices.length:Int))).sz=0:=rfl
 refine⟨by rw[Yf];omega,fun h4=> ?_⟩
 obtain⟨_,_,_,g3⟩:=lK (w:=appW (oI w b).1 (bJ (aJ w.Seed (w.Devices.length:Int)))) h4
 rw[Yf] at g3
 have g5:(appW (oI w b).1 (bJ (aJ w.Seed (w.Devices.length:Int)))).aAE.Log.length≤w.sz+1:=g2
 have g6:(zR w b).1.sz≤34*w.sz+690:=by show(aI _ _ 0).1.sz≤_;omega
 have:(zR w b).1.Mail.sz≤(zR w b).1.sz:=by simp only[D.aAP.sz,D.World.sz];omega
 omega
theorem U9 {w:D.World}{b:Int}(h:(aN w&&(aK w b&&(!dV w b&& !decide ((w.Devices.length:Int)≥6))))=false∨((aI w b 0).2==0)=false):jE w b=(w,false):=by
 unfold jE aBk
 rcases h with h|h
 ·rw[h];rfl
 ·rw[h];simp
theorem bEe {w:D.World}{d:Int}(h:(fQ w d).2=false):(fQ w d).1=w:=by
 unfold fQ at*
 cases hc:((aI w d 0).2==0&&(Rl (aI w d 0).1 d).2) with
 |true=>rw[hc] at h;cases h
 |false=>rfl
theorem Pk (w:D.World)(b:Int)(hz:w.sz≤100000000):uD w b=some (jE w b):=by
 have hw8:w.sz≤34359738368:=by omega
 unfold uD
 simp only[bd_s,aB (show w.sz≤34359738100 by omega),aB hw8,bne]
 cases hs:((aI w b 0).2==0) with
 |false=>rw[U9 (.inr hs)];rfl
 |true=>
 obtain⟨⟨h1,h2⟩,_⟩:=lK hs
 rw[bBq h1 h2]
 cases h3:dV w b with
 |true=>rw[U9 (.inl (by rw[h1,h2,h3];rfl))];rfl
 |false=>
 cases h4:decide ((w.Devices.length:Int)≥6) with
 |true=>rw[U9 (.inl (by rw[h1,h2,h3,h4];rfl))];rfl
 |false=>
 simp only[Bool.not_true,cond_false,bd_s]
 rw[aXz h1 h2 h3 h4 hs]
 have hn6:w.Devices.length<6:=by have:=of_decide_eq_false h4;omega
 obtain⟨⟨⟨g1,g2⟩,g3⟩,g4⟩:=bBr hz h1 hs
 have hst:D.aAI.mk (1:Int) (w.Devices.length:Int) (aU w.Seed [277,(w.Devices.length:Int)]) 0=aJ w.Seed (w.Devices.length:Int):=rfl
 simp only[hst,uR g1,bd_s,aB (show(aI w b 0).1.aAE.Log.length≤34359738300 by omega)]
 have hll:=qQ (aI w b 0).1.aAE.Log 1 (aX (aJ w.Seed (w.Devices.length:Int))) (aO (aI w b 0).1 b).Store
 obtain⟨l,hl⟩:∃l,l=gK (aI w b 0).1.aAE.Log 1 (aX (aJ w.Seed (w.Devices.length:Int))) (aO (aI w b 0).1 b).Store:=⟨_,rfl⟩
 obtain⟨e,he⟩:∃e,e=bG l.1 (aO (aI w b 0).1 b).Key (IntKind.i64.wrap (1000+IntKind.i64.wrap (10*(l.1.length:Int)))):=⟨_,rfl⟩
 obtain⟨c,hcc⟩:∃c,c=kF (aI w b 0).1.aAE l.1 e.1:=⟨_,rfl⟩
 have A1:add1 w b=bif l.2&&(e.2&&c.2) then({(aI w b 0).1 with aAE:=c.1},true) else((aI w b 0).1,false):=by rw[hcc,he,hl];rfl
 rw[←hl] at hll ⊢
 have hez:=Nw l.1 (aO (aI w b 0).1 b).Key (IntKind.i64.wrap (1000+IntKind.i64.wrap (10*(l.1.length:Int))))
 rw[aB (show l.1.length≤34359738300 by omega),bd_s]
 rw[←he] at hez ⊢
 have hcz:=Zi (aI w b 0).1
 rw[aB (show(aI w b 0).1.aAE.sz≤34359738368∧l.1.length≤34359738368∧e.1.sz≤34359738368 from⟨by omega,by omega,by omega⟩),bd_s,←hcc]
 cases h5:l.2 with
 |false=>rw[Uq (by rw[A1,h5];rfl)];rfl
 |true=>
 cases h6:e.2 with
 |false=>rw[Uq (by rw[A1,h5,h6];rfl)];rfl
 |true=>
 cases h7:c.2 with
 |false=>rw[Uq (by rw[A1,h5,h6,h7];rfl)];rfl
 |true=>
 have A1':add1 w b=({(aI w b 0).1 with aAE:=c.1},true):=by rw[A1,h5,h6,h7];rfl
 have A2:aFs w b=fK (aJ w.Seed (w.Devices.length:Int)) (w.Devices.length:Int) 0 (aI w b 0).1.Sites:=by unfold aFs;rw[A1']
 have hss:∀s∈(aI w b 0).1.Sites,s.sz≤34359738300:=fun s hs=>by
  have h1:=M6 (g:=D.Site.sz) hs
  simp only[D.World.sz] at g3;omega
 simp only[Bool.not_true,cond_false,bd_s]
 rw[aXy (x:=((w,false):D.World×Bool)) (st:=aJ w.Seed (w.Devices.length:Int)) (n:=(w.Devices.length:Int)) (l:=(aI w b 0).1.Sites) (N:=2) g2 (by omega) hss (fun rec p s r hp hz=>by
  simp only[decide_eq_true (show((p.length:Nat):Int)<2 by omega),cond_true,aVb,bd_s,aB (U8 (p.length:Int)),aB hz,aQ2]) (fun rec S=>rfl)]
 cases h8:(fK (aJ w.Seed (w.Devices.length:Int)) (w.Devices.length:Int) 0 (aI w b 0).1.Sites).2 with
 |false=>rw[Ky (.inl (by rw[A2,h8]))];rfl
 |true=>
 obtain⟨k1,k2,k3,k4⟩:=aHd g1
 have hg:=g1
 simp only[aK,Bool.and_eq_true,decide_eq_true_eq] at hg
 have W2:D.World.mk (aI w b 0).1.Now (aI w b 0).1.Seed ((aI w b 0).1.Devices.set b.toNat (lL (aO (aI w b 0).1 b) (w.Devices.length:Int) false)) (aI w b 0).1.Stolen c.1 (fK (aJ w.Seed (w.Devices.length:Int)) (w.Devices.length:Int) 0 (aI w b 0).1.Sites).1 (aI w b 0).1.aAO (aI w b 0).1.Hosts (aI w b 0).1.Pin (aI w b 0).1.Mail=iW w b:=by
  unfold iW;rw[A2,A1'];rfl
 obtain⟨⟨z1,z2⟩,z3,z4⟩:=aQf hs
 have y0:(aI w b 0).1.sz≤34359738368:=by omega
 have y3:(aI w b 0).1.Devices.length≤34359738368∧(aI w b 0).1.Stolen.length≤34359738368:=by clear g3;simp only[D.World.sz] at y0;omega
 simp only[cond_true,nx_r,aB (show(aO (aI w b 0).1 b).sz≤34359738300 by omega),bd_s,gT (show((aI w b 0).1.Devices.set b.toNat (lL (aO (aI w b 0).1 b) (w.Devices.length:Int) false)).length≤34359738368 by rw[List.length_set];exact y3.1),gT y3.2]
 show(bd (gd ((appW (D.World.mk (aI w b 0).1.Now (aI w b 0).1.Seed ((aI w b 0).1.Devices.set b.toNat (lL (aO (aI w b 0).1 b) (w.Devices.length:Int) false)) (aI w b 0).1.Stolen c.1 (fK (aJ w.Seed (w.Devices.length:Int)) (w.Devices.length:Int) 0 (aI w b 0).1.Sites).1 (aI w b 0).1.aAO (aI w b 0).1.Hosts (aI w b 0).1.Pin (aI w b 0).1.Mail) (bJ (aJ w.Seed (w.Devices.length:Int)))).sz≤10000000000) (some (fQ (appW (D.World.mk (aI w b 0).1.Now (aI w b 0).1.Seed ((aI w b 0).1.Devices.set b.toNat (lL (aO (aI w b 0).1 b) (w.Devices.length:Int) false)) (aI w b 0).1.Stolen c.1 (fK (aJ w.Seed (w.Devices.length:Int)) (w.Devices.length:Int) 0 (aI w b 0).1.Sites).1 (aI w b 0).1.aAO (aI w b 0).1.Hosts (aI w b 0).1.Pin (aI w b 0).1.Mail) (bJ (aJ w.Seed (w.Devices.length:Int)))) b))) fun z13=>bd (gd (z13.1.sz≤34359738100) (some (aI z13.1 (w.Devices.length:Int) 0))) fun z14=>bd (bif !z13.2 then some true else some !(z14.2==0)) fun z15=>bif z15 then some (w,false) else bd (gd (z14.1.Mail.sz≤34359738300) (some (xU z14.1.Mail 2 1 z14.1.Now))) fun z16=>some (D.World.mk z14.1.Now z14.1.Seed z14.1.Devices z14.1.Stolen z14.1.aAE z14.1.Sites z14.1.aAO z14.1.Hosts z14.1.Pin z16.1,true))=_
 have nz:(bJ (aJ w.Seed (w.Devices.length:Int))).sz=0:=rfl
 rw[W2,aB (show(appW (iW w b) (bJ (aJ w.Seed (w.Devices.length:Int)))).sz≤10000000000 by rw[Yf];omega),bd_s,bAk _ z1 (by omega),show fQ (iW w b) b=oI w b from rfl]
 cases h9:(oI w b).2 with
 |false=>
  have hp:(oI w b).1=iW w b:=bEe (w:=iW w b) (d:=b) h9
  rw[Ky (.inr (.inl h9)),aB (show(appW (oI w b).1 (bJ (aJ w.Seed (w.Devices.length:Int)))).sz≤34359738100 by rw[hp,Yf];omega)];rfl
 |true=>
 obtain⟨v1,v2⟩:=bEd hz hs h9
 rw[aB v1,bd_s,show aI (appW (oI w b).1 (bJ (aJ w.Seed (w.Devices.length:Int)))) (w.Devices.length:Int) 0=zR w b from rfl]
 cases h10:((zR w b).2==0) with
 |false=>rw[Ky (.inr (.inr h10))];rfl
 |true=>rw[aQ4 (by rw[A1']) (by rw[A2,h8]) h9 h10,Bool.not_true,cond_false,bd_s,cond_false,aB (v2 h10),bd_s];rfl
end
end Go.VK
