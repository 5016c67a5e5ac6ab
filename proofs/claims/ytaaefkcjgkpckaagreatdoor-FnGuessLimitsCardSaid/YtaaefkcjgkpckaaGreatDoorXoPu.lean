import Derived.Test.YtaaefkcjgkpckaaGreatDoorXoPt
import Derived.Test.YtaaefkcjgkpckaaGreatDoorXoQ
/- Printed by wip/tools: models, walks, proofs. -/
set_option linter.unusedVariables false
set_option linter.unusedSimpArgs false
set_option maxRecDepth 100000
set_option maxHeartbeats 4000000
namespace Go.VK
open Go.RowKit Go.Proofs
noncomputable section
open EV (bM)
theorem Zn (s n:Int):wU s n=some (aJ s n):=by unfold wU;rw[aA (by simp)];rfl
theorem Y6 (s:D.aAI):U5 s=some (bQ s):=rfl
theorem Tj (s:D.aAI)(n:ByteArray)(k:Int)(h:n.size≤34359738300):uU s n k=some (fK s n k):=by unfold uU;rw[aA h,bd_s,aA (by simp)];rfl
theorem Zo (s:D.aAI)(n:ByteArray)(k:Int)(h:n.size≤34359738300):wY s n k=some (fF s n k):=by unfold wY;rw[aA h];rfl
theorem Oj (s:D.aAI)(l:List Int)(h:l.length≤34359738300):rY s l=some (nJ s l):=by unfold rY;rw[aA h];rfl
theorem Zp (e:D.aAD)(d:Int)(h:e.Boxes.length≤34359738368):wX e d=some (nK e d):=by
 unfold wX
 rw[fI (l:=e.Boxes) (fun n b=>bif b.To==d then IntKind.i64.wrap (n+1) else n) (fun _ _=>True) (fun s=>some s) (by omega) trivial (fun _ _ _ _=>trivial) (fun rec i s hi _=>by
  simp only[bU hi,cond_true,aH hi,bd_s,jC]) (fun rec s _=>by simp only[bX,cond_false])]
 rfl
theorem Tn (l:List D.aAB)(k d:Int)(s:D.aAI)(h:l.length≤34359738300):uP l k d s=some (kK l k d s):=by
 have h1:l.length≤34359738368:=by omega
 have e:∀x:D.aAB,gd ((l++[x]).length≤34359738368) (some (aT (l++[x])))=some (aT (l++[x])):=fun x=>aA (by simp;omega)
 have e1:∀x:Int,gd ([x].length≤34359738300) (some (nJ s [x]))=some (nJ s [x]):=fun x=>aA (by simp)
 unfold uP kK aXm aS4
 simp only[aA h1,bd_s,e1,eZ h1,e]
 generalize aT (l++_)=q
 cases decide ((l.length:Int)>0)<;>cases aT l<;>cases q<;>rfl
theorem aTw (p e:Int)(d:List Int)(h:aR d):(bd (bif dW p==0 then some true else bif !bJ e then some true else some (decide ((d.length:Int)>200))) fun z0=>bif z0 then some (D.Box.mk 0 0 [] 0,false) else bd (gd (aR d) (some (oG (jB (dW p) e) d))) fun z1=>bd (gd (z1.length≤34359738200) (some (aJ0 (jB (dW p) e) (D.Box.mk p e z1 0)))) fun z2=>some (D.Box.mk p e z1 z2,true))=some (eP p e d):=by
 unfold eP qQ
 rw[rW,rW,bd_s]
 cases hc:(dW p==0||(!bJ e||decide ((d.length:Int)>200))) with
 |true=>rfl
 |false=>
  have hl:d.length≤200:=by simp only[Bool.or_eq_false_iff,decide_eq_false_iff_not] at hc;omega
  rw[cond_false,cond_false,aA h,bd_s,aA (show(oG (jB (dW p) e) d).length≤34359738200 by rw[zL];omega),bd_s]
theorem aH9 (p e:Int)(d:List Int)(h:aR d):aHa p e d=some (eP p e d):=aTw p e d h
theorem Y7 (l:List Int)(e:Int)(d:List Int)(h:l.length≤34359738300∧aR d):Ab l e d=some (dZ e d 0 l):=by
 obtain⟨h1,h2⟩:=h
 unfold Ab
 rw[aMo (e:=e) (d:=d) (l:=l) (x:=(([],false):List D.Box×Bool)) (fun rec i s hi hs=>by
  simp only[bU hi,cond_true,aH hi,bd_s,aA h2,eZ (show s.length≤34359738368 by omega)]) (fun rec s=>by simp only[bX,cond_false]) l.length 0 FUEL [] (by omega) (by have:=gU;omega) (by simp),List.drop_zero]
 cases hs:(dZ e d 0 l).2 with
 |true=>rw[cond_true,nx_r,List.nil_append,←hs]
 |false=>rw[cond_false,bAz hs];rfl
theorem bEc (a b:Int):aR (jY [a,b]):=aGh (by have:=aQ5 a b;omega) (aGi _)
theorem Fy (l:List D.aAB)(k e:Int)(h:l.length≤34359738300):oI l k e=some (bH l k e):=by
 have hd:=kF l
 unfold oI bH
 simp only[aA (show l.length≤34359738368 by omega),bd_s,aA (show[aN l,k].length≤5000000000 by simp),aA (show(aB l).length≤34359738300∧aR (jY [aN l,k]) from⟨by omega,bEc _ _⟩)]
 cases aT l<;>cases bJ k<;>cases(dZ e (jY [aN l,k]) 0 (aB l)).2<;>rfl
theorem bEd (e:D.aAD)(l:List Int):(l.all fun d=>nK e d==1)= !(l.any fun d=>nK e d !=1):=by
 induction l with
 |nil=>rfl
 |cons x l ih=>simp only[List.all_cons,List.any_cons,ih,bne];cases(nK e x==1)<;>simp
theorem Y8 (e:D.aAD)(l:List D.aAB)(h:e.Boxes.length≤34359738368∧l.length≤34359738368):Ac e l=some (iO e l):=by
 obtain⟨h1,h2⟩:=h
 have hd:=kF l
 unfold Ac iO
 rw[aA h2,bd_s,lD (l:=aB l) (fun d=>nK e d !=1) (.inl false) (.inr PUnit.unit) (by omega) (fun rec i hi=>by
  simp only[bU hi,cond_true,aH hi,bd_s,aA h1]) (fun rec=>by simp only[bX,cond_false]),bEd]
 simp only[aA h2,bd_s]
 cases(aB l).any (fun d=>nK e d !=1)<;>cases(e.Epoch==aN l)<;>cases((e.Boxes.length:Int)==((aB l).length:Int))<;>rfl
theorem Tq (s:D.Site)(i:Int)(h:s.Accounts.length≤34359738368):uV s i=some (aQ s i):=by
 unfold uV
 exact aQh (l:=s.Accounts) (fun a=>a.Id==i) (by omega) (fun rec j hj=>by simp only[bU hj,cond_true,aH hj,bd_s]) (fun rec=>by simp only[bX,cond_false])
theorem bI2 {l:List D.aAK}{h p:Int}(hz:l.length≤34359738300){β:Type}(k:List D.aAK→Option β):gd (jG l ((Sc h l:Nat):Int)) (gd (jG l ((Sc h l:Nat):Int)) (gd (aO [] (List.take (Sc h l) l)) (gd (aO ([]++List.take (Sc h l) l) [D.aAK.mk h p 0 false]) (gd (aO ([]++List.take (Sc h l) l++[D.aAK.mk h p 0 false]) (List.drop (Sc h l) l)) (k ([]++List.take (Sc h l) l++[D.aAK.mk h p 0 false]++List.drop (Sc h l) l))))))=k (aCz l h p):=by
 have hk:Sc h l≤l.length:=Ir
 have h1:jG l ((Sc h l:Nat):Int):=⟨by omega,by omega⟩
 rw[aA h1,aA h1,aA (by unfold aO;simp;omega),aA (by unfold aO;simp;omega),aA (by unfold aO;simp;omega)];rfl
theorem bEe {l:List D.aAK}{h:Int}(hz:l.length≤34359738300):EV.bM (α:=Int) FUEL (fun rec (i:Int)=>bd (bif decide (i<(l.length:Int)) then(bd (bA l i) fun z=>some (decide (z.Handle<h))) else some false) fun z=>bif z then rec (IntKind.i64.wrap (i+1)) else some i) 0=some ((Sc h l:Nat):Int):=by
 have:=R9 (l:=l) (fun c=>decide (c.Handle<h)) (fun i=>some (i:Int)) (fun i=>(i:Int)) (F:=fun rec (i:Int)=>bd (bif decide (i<(l.length:Int)) then(bd (bA l i) fun z=>some (decide (z.Handle<h))) else some false) fun z=>bif z then rec (IntKind.i64.wrap (i+1)) else some i) (by omega) (fun rec i hi=>by
  simp only[bU hi,cond_true,aH hi,bd_s]
  rw[aG (by omega) (by omega)];rfl) (fun rec=>by simp only[bX,cond_false,bd_s])
 exact this
theorem bI3 {a:D.aAG}(hz:a.sz≤34359738300)(h p:Int):(D.aAG.mk a.Id a.Minimum (aCz a.Credentials h p)).sz≤34359738368:=by
 simp only[D.aAG.sz,aQ6] at*;omega
theorem Kq (a:D.aAG)(h p:Int)(hz:a.sz≤34359738300):qW a h p=some (gB a h p):=by
 have h1:a.sz≤34359738368:=by omega
 have hc:a.Credentials.length≤34359738300:=hz
 unfold qW gB
 rw[aA h1,bd_s,bEe hc]
 simp only[aA h1,bd_s,Int.toNat_natCast]
 rw[bI2 hc (fun L=>bd (bif !bC a then some true else(bd (gd ((D.aAG.mk a.Id a.Minimum L).sz≤34359738368) (some (bC (D.aAG.mk a.Id a.Minimum L)))) fun z4=>some (!z4))) fun z3=>bif z3 then some (a,false) else some (D.aAG.mk a.Id a.Minimum L,true))]
 simp only[bd_s,aA (bI3 hz h p)]
 cases bC a<;>cases bC {a with Credentials:=aCz a.Credentials h p}<;>rfl
theorem aTx {a:D.aAG}{h p:Int}(hn:(gB a h p).2=false):(gB a h p).1=a:=by
 unfold gB at*
 cases hc: !bC a|| !bC {a with Credentials:=aCz a.Credentials h p} with
 |true=>rfl
 |false=>rw[hc] at hn;cases hn
theorem Tt (s:D.Site)(i h p:Int)(hz:s.sz≤34359738300):uW s i h p=some (iA s i h p):=by
 have h1:s.sz≤34359738368:=by omega
 have hl:s.Accounts.length≤34359738368:=by simp only[D.Site.sz] at hz;omega
 unfold uW iA
 simp only[aA h1,aA hl,bd_s]
 rw[rW,bd_s]
 cases hc:(!dQ s||decide (aQ s i<0)) with
 |true=>rfl
 |false=>
  rw[Bool.or_eq_false_iff] at hc
  obtain⟨e1,e2,e3⟩:=bG4 hz hc.2
  simp only[cond_false,e1,bd_s,aA e2]
  cases ha:(gB (s.Accounts.getD (aQ s i).toNat default) h p).2 with
  |true=>rfl
  |false=>rw[aTx ha,bAr e3];rfl
theorem aM8 {L:List D.aAP}(h30:30<L.length)(hL:L.length≤34359738301):gd (jG L ((qR L:Nat):Int)) (gd (jG L (IntKind.i64.wrap (((qR L:Nat):Int)+1))) (gd (aO [] (List.take (Int.toNat ((qR L:Nat):Int)) L)) (gd (aO ([]++List.take (Int.toNat ((qR L:Nat):Int)) L) (List.drop (Int.toNat (IntKind.i64.wrap (((qR L:Nat):Int)+1))) L)) (some ([]++List.take (Int.toNat ((qR L:Nat):Int)) L++List.drop (Int.toNat (IntKind.i64.wrap (((qR L:Nat):Int)+1))) L)))))=some (zM L):=by
 have hs:=aQ9 (l:=L) (by omega)
 have e:IntKind.i64.wrap (((qR L:Nat):Int)+1)=((qR L+1:Nat):Int):=by rw[aG (by omega) (by omega)];rfl
 rw[e,aA ⟨by omega,by omega⟩,aA ⟨by omega,by omega⟩,aA (by unfold aO;simp;omega),aA (by unfold aO;simp;omega),Int.toNat_natCast,Int.toNat_natCast]
 unfold zM
 rw[decide_eq_true (show(L.length:Int)>30 by omega)];rfl
theorem aV2 (l:List D.aAP)(x:D.aAP)(h:l.length≤34359738300):(D.aAJ.mk (zM (l++[x]))).sz≤34359738368:=by
 have:=aMj (l++[x])
 simp only[List.length_append,List.length_singleton] at this
 simp only[D.aAJ.sz];omega
theorem aRt {L:List D.aAP}(h:¬30<L.length):zM L=L:=by
 unfold zM
 rw[decide_eq_false (show ¬(L.length:Int)>30 by omega)];rfl
theorem Zq (m:D.aAJ)(k a t:Int)(hz:m.sz≤34359738300):xR m k a t=some (zN m k a t):=by
 have h1:m.sz≤34359738368:=by omega
 have hm:m.Notices.length≤34359738300:=hz
 have hL:(m.Notices++[(⟨k,a,t,false⟩:D.aAP)]).length=m.Notices.length+1:=by simp
 have hn:=aV2 m.Notices ⟨k,a,t,false⟩ hm
 unfold xR zN
 simp only[aA h1,bd_s,eZ (show m.Notices.length≤34359738368 by omega)]
 generalize hg:m.Notices++[(⟨k,a,t,false⟩:D.aAP)]=L at*
 by_cases h30:30<L.length
 ·rw[decide_eq_true (show(L.length:Int)>30 by omega),bDn (l:=L) (fun i=>some i) (fun i=>((0:Int),i)) (by omega) (fun rec i hi=>by simp only[bU hi,cond_true,aH hi,bd_s]) (fun rec=>by simp only[bX,cond_false]),cond_true,bd_s,aM8 h30 (by omega),bd_s,aA hn,bd_s]
  cases cZ m<;>cases cZ ⟨zM L⟩<;>rfl
 ·rw[decide_eq_false (show ¬(L.length:Int)>30 by omega),cond_false,bd_s]
  rw[aRt h30] at hn ⊢
  rw[aA hn,bd_s]
  cases cZ m<;>cases cZ ⟨L⟩<;>rfl
theorem Zr (m:D.aAJ)(k a t:Int)(hz:m.sz≤34359738300):xW m k a t=some (zN m k a t):=by
 have h1:m.sz≤34359738368:=by omega
 have hm:m.Notices.length≤34359738300:=hz
 have hL:(m.Notices++[(⟨k,a,t,false⟩:D.aAP)]).length=m.Notices.length+1:=by simp
 have hn:=aV2 m.Notices ⟨k,a,t,false⟩ hm
 unfold xW zN
 rw[aA (by unfold aO;simp;omega),List.nil_append,eZ (show m.Notices.length≤34359738368 by omega)]
 simp only[aA h1,bd_s]
 generalize hg:m.Notices++[(⟨k,a,t,false⟩:D.aAP)]=L at*
 by_cases h30:30<L.length
 ·have e:=aMp (l:=L) (F:=fun rec (i2:Int×Int)=>bif (decide (i2.2≥(0:Int))) then(bd (bd (bA L (i2.2)) fun z4=>bif (z4.Seen) then(some (i2.2)) else(some (i2.1))) fun z3=>rec ((z3,IntKind.i64.wrap (i2.2-(1:Int))))) else(some (i2.1))) (fun rec q i hi=>by
   simp only[decide_eq_true (show((i:Int)≥0) by omega),cond_true,aH hi,bd_s,jC,aG (show(-9223372036854775808:Int)≤(i:Int)-1 by omega) (show(i:Int)-1≤9223372036854775807 by omega)]) (fun rec q=>rfl) L.length FUEL 0 (Nat.le_refl _) (by have:=gU;omega)
  rw[List.take_length] at e
  rw[decide_eq_true (show(L.length:Int)>30 by omega),cond_true,aG (by omega) (by omega),e,←aQ8,bd_s,aM8 h30 (by omega),bd_s,aA hn,bd_s]
  cases cZ m<;>cases cZ ⟨zM L⟩<;>rfl
 ·rw[decide_eq_false (show ¬(L.length:Int)>30 by omega),cond_false,bd_s]
  rw[aRt h30] at hn ⊢
  rw[aA hn,bd_s]
  cases cZ m<;>cases cZ ⟨L⟩<;>rfl
end
end Go.VK
