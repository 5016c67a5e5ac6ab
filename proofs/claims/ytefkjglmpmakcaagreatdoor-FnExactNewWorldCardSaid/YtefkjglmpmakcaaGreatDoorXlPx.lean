import Derived.Test.YtefkjglmpmakcaaGreatDoorXlPv
import Derived.Test.YtefkjglmpmakcaaGreatDoorXlQ
/- Printed by wip/tools: models, walks, proofs. -/
set_option linter.unusedVariables false
set_option linter.unusedSimpArgs false
set_option maxRecDepth 100000
set_option maxHeartbeats 4000000
namespace Go.VK
open Go.RowKit Go.Proofs
noncomputable section
open EV (bS)
theorem zJ {σ τ:Type}{F:(σ→Option τ)→σ→Option τ}(S:Nat→σ)(N:Nat){r:τ}(hN:N≤1000000)(hF:∀rec i,i<N→F rec (S i)=rec (S (i+1)))(hE:∀rec,F rec (S N)=some r){s:σ}(hs:s=S 0):EV.bS FUEL F s=some r:=by
 subst hs
 have go:∀(k i n:Nat),i+k=N→k<n→EV.bS n F (S i)=some r:=by
  intro k
  induction k with
  |zero=>
   intro i n h hn
   obtain⟨m,rfl⟩:∃m,n=m+1:=⟨n-1,by omega⟩
   rw[jF,show i=N by omega];exact hE _
  |succ k ih=>
   intro i n h hn
   obtain⟨m,rfl⟩:∃m,n=m+1:=⟨n-1,by omega⟩
   rw[jF,hF _ i (by omega)];exact ih (i+1) m (by omega) (by omega)
 exact go N 0 FUEL (by omega) (by have:=gU;omega)
theorem aM5 {m:Int}{F:(Int×Int×Int→Option Int)→Int×Int×Int→Option Int}(hF:∀rec (b n s:Int),0≤n→n<9223372036854775807→F rec (b,n,s)=bif decide (n>0) then rec ((IntKind.i64.wrap (b*b)).tmod m,n/2,bif n%2==1 then(IntKind.i64.wrap (s*b)).tmod m else s) else some s):
  ∀(k:Nat) (b n s:Int) (f:Nat),k<f→0≤n→n<2^k→k≤62→bS f F (b,n,s)=some (aXo m k b n s)
 |0,b,n,s,f+1,hf,h0,h1,hk=>by
  have:n=0:=by simp at h1;omega
  subst this;rw[jF,hF _ _ _ _ (by omega) (by omega)];rfl
 |k+1,b,n,s,f+1,hf,h0,h1,hk=>by
  have h2:(2:Int)^(k+1)=2*2^k:=by rw[Int.pow_succ];omega
  have h3:n<2^62:=Int.lt_of_lt_of_le h1 (by exact_mod_cast Nat.pow_le_pow_right (by omega) hk)
  rw[jF,hF _ _ _ _ h0 (by omega)]
  unfold aXo
  by_cases hn:n>0
  ·rw[decide_eq_true hn,cond_true,if_pos hn]
   exact aM5 hF k _ (n/2) _ f (by omega) (by omega) (by omega) (by omega)
  ·rw[decide_eq_false hn,cond_false,if_neg hn]
theorem bDh:((2039:Int)≠0)=True:=by simp
theorem R3 (b n:Int)(h:0≤n∧n<2048):nU b n=some (aXo 2039 11 b n 1):=by
 unfold nU
 rw[aM5 (m:=2039) (fun rec b n s h0 h1=>by simp only[show tJ .i64 n 1=n%2 from and_one h0 (by omega),show Uo .i64 n 1=n/2 from aYz h0,bDh,gd_T,jC,bd_s,aB (show(0:Int)≤1 by decide)]) 11 b n 1 FUEL (by have:=gU;omega) h.1 (by have:=h.2;omega) (by omega)];rfl
theorem Ug (b n:Int)(h:0≤n∧n<2048)(hb:0≤b∧b<2039):iR b n 2039=some (aXo 2039 11 b n 1):=by
 unfold iR
 rw[show b.tmod 2039=b by rw[Int.tmod_eq_emod_of_nonneg hb.1];omega,show(1:Int).tmod 2039=1 by decide,aM5 (m:=2039) (fun rec b n s h0 h1=>by
  have h4:((2:Int)≠0)=True:=by simp
  simp only[show n.tmod 2=n%2 from Int.tmod_eq_emod_of_nonneg h0,show n.tdiv 2=n/2 from Int.tdiv_eq_ediv_of_nonneg h0,show IntKind.i64.wrap (n/2)=n/2 from aK (by omega) (by omega),bDh,h4,gd_T,jC,bd_s]) 11 b n 1 FUEL (by have:=gU;omega) h.1 (by have:=h.2;omega) (by omega)]
 simp only[bDh,gd_T,bd_s]
theorem Ja (x:Int):oW x=some (aGt x):=by
 unfold oW aGt
 rw[R3 _ _ (by decide)]
 cases cK x 1 2038<;>rfl
theorem Jb (x:Int):pI x=some (aGt x):=by
 unfold pI aGt
 cases h:cK x 1 2038 with
 |false=>rfl
 |true=>
  have:=nE h
  rw[Ug _ _ (by decide) ⟨by omega,by omega⟩];rfl
theorem aHr (g n:Int):Gn g n=some (rW g n):=by
 unfold Gn rW
 have hr:=pX (p:=n) (q:=1019) (by decide)
 rw[R3 _ _ ⟨hr.1,by omega⟩]
 cases aGt g<;>rfl
theorem aHs (g n:Int):Gy g n=some (rW g n):=by
 unfold Gy rW
 have hr:=pX (p:=n) (q:=1019) (by decide)
 cases h:aGt g with
 |false=>rfl
 |true=>
  have h':=h
  unfold aGt at h'
  rw[Bool.and_eq_true] at h'
  have:=nE h'.1
  rw[Ug _ _ ⟨hr.1,by omega⟩ ⟨by omega,by omega⟩];rfl
theorem Xn (a b:Int):vG a b=some (Ed a b):=by
 unfold vG
 rw[aB (by simp),bd_s,aB (by decide),aB (by decide)];rfl
theorem Xo (a b:Int):vZ a b=some (Ed a b):=by
 unfold vZ
 rw[aB (by simp),bd_s,aB (by decide),aB (by decide)];rfl
theorem Qy (a b c:Int):Qb a b c=some (qO a b c):=rfl
theorem Qz (a b c:Int):Qd a b c=some (qO a b c):=rfl
theorem aC5 (a b:Int):Ba a b=some (nQ a b):=by
 unfold Ba nQ
 rw[aB (by simp),bd_s]
 have h:=(lI a [157,b]).1
 generalize dH a [157,b]=n at h ⊢
 unfold aS0 rT
 by_cases h1:n>1
 ·rw[decide_eq_true h1,show(n==0)=false by simp;omega];rfl
 ·rw[decide_eq_false h1]
  by_cases h2:n=0
  ·subst h2;rfl
  ·have:n=1:=by omega
   subst this;rfl
theorem aC6 (a b:Int):Bu a b=some (nQ a b):=by
 unfold Bu
 rw[aB (by simp)];rfl
theorem R4 (a b:Int):xX a b=some (Ee a b):=by
 unfold xX
 rw[aB (by simp)];rfl
theorem R5 (a b:Int):yO a b=some (Ee a b):=by
 unfold yO
 rw[aB (by simp)];rfl
theorem aM6 (a b:Int):Mi a b=some (K3 a b):=by
 unfold Mi K3
 rw[aB (by simp)]
 cases cK a 0 2147483647<;>rfl
theorem aM7 (a b:Int):Mx a b=some (K3 a b):=by
 unfold Mx K3
 rw[aB (by simp)]
 cases cK a 0 2147483647<;>rfl
theorem aC7 (k:D.aAL):aBm k=some (xJ k):=rfl
theorem aC8 (k:D.aAL):aBo k=some (xJ k):=rfl
theorem Xp (w:D.World):vX w=some (aJs w):=by
 unfold vX
 rw[aB (by simp)];rfl
theorem aM8 (n:ByteArray)(s:Int)(h:n.size≤34359738368):Mr n s=some (eY n s):=by
 unfold Mr eY
 rw[aB (by omega),bd_s]
 cases jB n s<;>rfl
theorem aM9 {c n:Int}{l:List Int}(hn:1≤n∧n≤7)(hl:l.length≤34359738368){F:(List D.aAM×Int→Option (List D.aAM))→List D.aAM×Int→Option (List D.aAM)}(hF:∀rec (s:List D.aAM) (i:Int),1≤i→i≤8→s.length≤8→F rec (s,i)=bif decide (i≤n) then rec (s++[⟨i,xH c l i⟩],i+1) else some s):EV.bS FUEL F ([],1)=some ((List.range n.toNat).map fun(i:Nat)=>(⟨(i:Int)+1,xH c l ((i:Int)+1)⟩:D.aAM)):=
 zJ (fun i=>((List.range i).map fun(i:Nat)=>(⟨(i:Int)+1,xH c l ((i:Int)+1)⟩:D.aAM),(i:Int)+1)) n.toNat (by omega) (fun rec i hi=>by
  rw[hF rec _ _ (by omega) (by omega) (by simp;omega),decide_eq_true (by omega),cond_true,List.range_succ,List.map_append];rfl) (fun rec=>by
  rw[hF rec _ _ (by omega) (by omega) (by simp;omega),decide_eq_false (by omega),cond_false]) rfl
theorem Xq (c:Int)(l:List Int)(n:Int)(h:l.length≤34359738368):vF c l n=some (lU c l n):=by
 unfold vF lU
 cases h1:cK n 1 7 with
 |false=>rfl
 |true=>
  have hn:=nE h1
  rw[aM9 (c:=c) hn h (fun rec s i h0 h1 h2=>by
   simp only[aB (show(0:Int)≤i∧i≤1000∧l.length≤34359738368 from⟨by omega,by omega,h⟩),bd_s,aB (show bD s [D.aAM.mk i (xH c l i)] by unfold bD;simp;omega),aK (show-9223372036854775808≤i+1 by omega) (show i+1≤9223372036854775807 by omega)])]
  by_cases h2:(l.length:Int)<n
  ·rw[decide_eq_true h2,decide_eq_false (show ¬(l.length:Int)≥n by omega)];rfl
  ·rw[decide_eq_false h2,decide_eq_true (show(l.length:Int)≥n by omega)];rfl
theorem Xr (c:Int)(l:List Int)(n:Int)(h:l.length≤34359738368):vY c l n=some (lU c l n):=by
 unfold vY lU
 cases h1:cK n 1 7 with
 |false=>rfl
 |true=>
  have hn:=nE h1
  rw[aM9 (c:=c) hn h (fun rec s i h0 h1 h2=>by
   simp only[aB (show(0:Int)≤i∧i≤1000∧l.length≤34359738368 from⟨by omega,by omega,h⟩),bd_s,aB (show bD s [D.aAM.mk i (xH c l i)] by unfold bD;simp;omega),aK (show-9223372036854775808≤i+1 by omega) (show i+1≤9223372036854775807 by omega)])]
  by_cases h2:(l.length:Int)<n
  ·rw[decide_eq_true h2,decide_eq_false (show ¬(l.length:Int)≥n by omega)];rfl
  ·rw[decide_eq_false h2,decide_eq_true (show(l.length:Int)≥n by omega)];rfl
theorem aC9 (pin salt key sec:Int)(cs:List Int)(n lim:Int)(h:cs.length≤34359738368):Bb pin salt key sec cs n lim=some (qF pin salt key sec cs n lim):=by
 unfold Bb qF aJu
 simp only[aB h,bd_s]
 have hl:=aBj sec cs n
 generalize lU sec cs n=l at hl ⊢
 cases cK pin 0 9999 with
 |false=>rfl
 |true=>
 cases cK salt 0 1000000 with
 |false=>rfl
 |true=>
 cases dG key with
 |false=>rfl
 |true=>
 cases iJ sec 1019==0 with
 |true=>rfl
 |false=>
 cases cK lim 1 10 with
 |false=>rfl
 |true=>
 rw[bId (l:=l) (fun s=>xJ ⟨s,0,0,lim⟩) (by omega) (fun rec i s hi hs=>by
  have ha:∀x:D.aAE,bD s [x]:=fun x=>by unfold bD;simp;omega
  simp only[bJ hi,cond_true,aF hi,bd_s,aB (ha _)];rfl) (fun rec s=>by simp only[bM,cond_false])]
 cases l with
 |nil=>rfl
 |cons x l=>
  have e:(((x::l).length:Int)==0)=false:=by simp;omega
  have e2:((x::l).length==0)=false:=by simp
  rw[e,e2];rfl
theorem aDa (pin salt key sec:Int)(cs:List Int)(n lim:Int)(h:cs.length≤34359738368):Bv pin salt key sec cs n lim=some (qF pin salt key sec cs n lim):=by
 unfold Bv qF aJu
 simp only[aB h,bd_s]
 have hl:=aBj sec cs n
 generalize lU sec cs n=l at hl ⊢
 cases cK pin 0 9999 with
 |false=>rfl
 |true=>
 cases cK salt 0 1000000 with
 |false=>rfl
 |true=>
 cases dG key with
 |false=>rfl
 |true=>
 cases iJ sec 1019==0 with
 |true=>rfl
 |false=>
 cases cK lim 1 10 with
 |false=>rfl
 |true=>
 rw[bId (l:=l) (fun s=>xJ ⟨s,0,0,lim⟩) (by omega) (fun rec i s hi hs=>by
  have ha:∀x:D.aAE,bD s [x]:=fun x=>by unfold bD;simp;omega
  simp only[bJ hi,cond_true,aF hi,bd_s,aB (ha _)];rfl) (fun rec s=>by simp only[bM,cond_false])]
 cases l with
 |nil=>rfl
 |cons x l=>
  have e:(((x::l).length:Int)==0)=false:=by simp;omega
  have e2:((x::l).length==0)=false:=by simp
  rw[e,e2];rfl
theorem aHt (l:List D.aAB)(b:D.aAD)(h:l.length≤34359738368∧b.sz≤34359738368):Gf l b=some (dS l b):=by
 unfold Gf dS
 have hb:b.Boxes.length≤34359738368:=by have:=h.2;simp only[D.aAD.sz] at this;omega
 simp only[aB h.1,aB h.2,aB (show b.Boxes.length≤34359738368∧l.length≤34359738368 from⟨hb,h.1⟩),bd_s]
 cases cO l<;>cases jY b l<;>rfl
theorem aHu (l:List D.aAB)(b:D.aAD)(h:l.length≤34359738368∧b.sz≤34359738368):Gr l b=some (dS l b):=by
 unfold Gr dS
 have hb:b.Boxes.length≤34359738368:=by have:=h.2;simp only[D.aAD.sz] at this;omega
 simp only[aB h.1,aB h.2,aB (show b.Boxes.length≤34359738368∧l.length≤34359738368 from⟨hb,h.1⟩),bd_s]
 cases cO l<;>cases jY b l<;>rfl
theorem aGe (s:D.Site)(id m:Int):(kH s id m).sz=s.sz+1:=by
 have e:(s.Accounts.map D.aAF.sz).sum=((s.Accounts.take (jR id s.Accounts)).map D.aAF.sz).sum+((s.Accounts.drop (jR id s.Accounts)).map D.aAF.sz).sum:=by rw[←List.sum_append,←List.map_append,List.take_append_drop]
 have el:(s.Accounts.take (jR id s.Accounts)).length+(s.Accounts.drop (jR id s.Accounts)).length=s.Accounts.length:=by rw[←List.length_append,List.take_append_drop]
 simp only[kH,D.Site.sz,List.length_append,List.map_append,List.sum_append,List.length_cons,List.length_nil,List.map_cons,List.map_nil,List.sum_cons,List.sum_nil,D.aAF.sz] at e el ⊢
 omega
theorem aR1 {l:List D.aAF}{id:Int}{F:(Int→Option Int)→Int→Option Int}(hl:l.length≤34359738368)(hF:∀rec (i:Nat) (hi:i<l.length),F rec (i:Int)=bif decide (l[i].Id<id) then rec ((i+1:Nat):Int) else some (i:Int))(hE:∀rec,F rec (l.length:Int)=some (l.length:Int)):EV.bS FUEL F 0=some (jR id l:Int):=
 aRs (fun a:D.aAF=>decide (a.Id<id)) (fun i=>some (i:Int)) (fun i=>(i:Int)) hl hF hE
theorem aWh (id:Int)(l:List D.aAF):jR id l≤l.length:=Ky
theorem Xt (s:D.Site)(id m:Int)(h:s.sz≤34359738300):uW s id m=some (iP s id m):=by
 unfold uW iP
 have hl:s.Accounts.length≤s.sz:=by simp only[D.Site.sz];omega
 have hk:=aWh id s.Accounts
 have ha:∀(x y:List D.aAF),x.length+y.length≤34359738400→bD x y:=fun x y h=>by unfold bD;omega
 have hs:s.sz≤34359738368:=by omega
 have h1:=aGe s id m
 rw[aB hs,bd_s,aR1 (id:=id) (l:=s.Accounts) (by omega) (fun rec i hi=>by simp only[bJ hi,cond_true,aF hi,bd_s,aK (show-9223372036854775808≤(i:Int)+1 by omega) (show(i:Int)+1≤9223372036854775807 by omega)];rfl) (fun rec=>by simp only[bM,cond_false,bd_s]),bd_s]
 have hh:jN s.Accounts (jR id s.Accounts:Int):=⟨by omega,by omega⟩
 have he:(List.take (jR id s.Accounts) s.Accounts).length+(List.drop (jR id s.Accounts) s.Accounts).length=s.Accounts.length:=by rw[←List.length_append,List.take_append_drop]
 have ht:(List.take (jR id s.Accounts) s.Accounts).length≤s.Accounts.length:=by omega
 have hd:(List.drop (jR id s.Accounts) s.Accounts).length≤s.Accounts.length:=by omega
 rw[Int.toNat_natCast,aB hh,aB hh,aB (ha _ _ (by simp only[List.length_nil];omega)),aB (ha _ _ (by simp only[List.nil_append,List.length_cons,List.length_nil];omega)),aB (ha _ _ (by simp only[List.nil_append,List.length_append,List.length_cons,List.length_nil];omega)),aB hs,bd_s,List.nil_append]
 rw[show(D.Site.mk s.Name (List.take (jR id s.Accounts) s.Accounts++[D.aAF.mk id m []]++List.drop (jR id s.Accounts) s.Accounts) s.Book s.Logins)=kH s id m from rfl,aB (show(kH s id m).sz≤34359738368 by omega)]
 cases fP s<;>cases fP (kH s id m)<;>rfl
theorem Xu (s:D.Site)(id m:Int)(h:s.sz≤34359738300):vP s id m=some (iP s id m):=by
 unfold vP iP
 have hl:s.Accounts.length≤s.sz:=by simp only[D.Site.sz];omega
 have hk:=aWh id s.Accounts
 have ha:∀(x y:List D.aAF),x.length+y.length≤34359738400→bD x y:=fun x y h=>by unfold bD;omega
 have hs:s.sz≤34359738368:=by omega
 have h1:=aGe s id m
 simp only[aB hs,bd_s]
 cases fP s with
 |false=>rfl
 |true=>
 rw[Bool.not_true,cond_false,aR1 (id:=id) (l:=s.Accounts) (by omega) (fun rec i hi=>by simp only[bJ hi,cond_true,aF hi,bd_s,aK (show-9223372036854775808≤(i:Int)+1 by omega) (show(i:Int)+1≤9223372036854775807 by omega)];rfl) (fun rec=>by simp only[bM,cond_false,bd_s]),bd_s]
 have hh:jN s.Accounts (jR id s.Accounts:Int):=⟨by omega,by omega⟩
 have he:(List.take (jR id s.Accounts) s.Accounts).length+(List.drop (jR id s.Accounts) s.Accounts).length=s.Accounts.length:=by rw[←List.length_append,List.take_append_drop]
 have ht:(List.take (jR id s.Accounts) s.Accounts).length≤s.Accounts.length:=by omega
 have hd:(List.drop (jR id s.Accounts) s.Accounts).length≤s.Accounts.length:=by omega
 rw[Int.toNat_natCast,aB hh,aB hh,aB (ha _ _ (by simp only[List.length_nil];omega)),aB (ha _ _ (by simp only[List.nil_append,List.length_cons,List.length_nil];omega)),aB (ha _ _ (by simp only[List.nil_append,List.length_append,List.length_cons,List.length_nil];omega)),List.nil_append]
 rw[show(D.Site.mk s.Name (List.take (jR id s.Accounts) s.Accounts++[D.aAF.mk id m []]++List.drop (jR id s.Accounts) s.Accounts) s.Book s.Logins)=kH s id m from rfl,aB (show(kH s id m).sz≤34359738368 by omega)]
 cases fP (kH s id m)<;>rfl
theorem aX5 {α:Type}{x y:List α}(h:x.length≤1000)(h':y.length≤1000):bD x y:=by unfold bD;omega
theorem nA (seed:Int)(n:Nat):(bI seed n).length=n:=by simp[bI]
theorem tX (seed:Int)(n:Nat):bI seed (n+1)=bI seed n++[dR (dZ seed (n:Int))]:=by simp[bI,List.range_succ]
theorem aR2 (seed:Int)(n:Nat):aT (bI seed (n+1)) 0=some (dR (dZ seed 0)):=by
 rw[show(0:Int)=((0:Nat):Int) from rfl,aF (by rw[nA];omega)]
 simp[bI]
theorem bA7 (seed:Int)(n:Nat):aT (bI seed (n+1)) (n:Int)=some (dR (dZ seed (n:Int))):=by
 rw[aF (by rw[nA];omega)]
 simp[bI]
theorem R6 (seed:Int)(n:Nat)(h:1≤n):bI seed n=dR (dZ seed 0)::(bI seed n).drop 1:=by
 obtain⟨m,rfl⟩:∃m,n=m+1:=⟨n-1,by omega⟩
 simp[bI,List.range_succ_eq_map]
abbrev sT (s:D.Site):ByteArray×List D.aAF×Int×Int×List D.aAK×List Int:=(s.Name,s.Accounts,s.Book.Seed,s.Book.Next,s.Book.Open,s.Logins)
theorem R7 (nm:ByteArray):∀(l:List D.Device) (k:Nat) (d:D.Device) (s:D.Site),tV nm k (l++[d]) s=(jZ (tV nm k l s) 1 ((k+l.length:Nat):Int) (kG d.Store nm ((k+l.length:Nat):Int))).1
 |[],k,d,s=>rfl
 |x::l,k,d,s=>by
  rw[List.cons_append]
  show tV nm (k+1) (l++[d]) _=_
  rw[R7 nm l (k+1) d,List.length_cons,show k+1+l.length=k+(l.length+1) by omega];rfl
theorem aWi {nm:ByteArray}{l:List D.Device}{s0:D.Site}(hl:l.length≤3)(hs:s0.sz≤1000){F:(Nat×ByteArray×List D.aAF×Int×Int×List D.aAK×List Int→Option (ByteArray×List D.aAF×Int×Int×List D.aAK×List Int))→Nat×ByteArray×List D.aAF×Int×Int×List D.aAK×List Int→Option (ByteArray×List D.aAF×Int×Int×List D.aAK×List Int)}
  (hF:∀rec (i:Nat) (hi:i<l.length) (s:D.Site),s.sz≤2000→F rec (i,sT s)=rec (i+1,sT (jZ s 1 (i:Int) (kG l[i].Store nm (i:Int))).1)) (hE:∀rec s,F rec (l.length,sT s)=some (sT s)):EV.bS FUEL F (0,sT s0)=some (sT (tV nm 0 l s0)):=
 zJ (fun i=>(i,sT (tV nm 0 (l.take i) s0))) l.length (by omega) (fun rec i hi=>by
  have h1:=Vn nm 0 (l.take i) s0
  have h2:(l.take i).length=i:=by rw[List.length_take];omega
  rw[hF rec i hi _ (by omega),List.take_succ_eq_append_getElem hi,R7,h2,Nat.zero_add]) (fun rec=>by rw[hE,List.take_of_length_le (Nat.le_refl _)]) rfl
theorem R8 {α:Type}{p r:List α}{s:α}:aT (p++s::r) ((p.length:Nat):Int)=some s:=by
 rw[aF (by simp)];simp
theorem aTs {α ι:Type}(e:Nat→ι){p0 l:List α}(f:α→α){F:(ι×List α→Option (List α))→ι×List α→Option (List α)}(hl:l.length≤1000)
  (hF:∀rec (p:List α) (d:α) (r:List α),p.length+1+r.length=p0.length+l.length→d∈l→F rec (e p.length,p++d::r)=rec (e (p.length+1),p++f d::r)) (hE:∀rec (p:List α),p.length=p0.length+l.length→F rec (e (p0.length+l.length),p)=some p):EV.bS FUEL F (e p0.length,p0++l)=some (p0++l.map f):=
 zJ (fun i=>(e (p0.length+i),p0++(l.take i).map f++l.drop i)) l.length (by omega) (fun rec i hi=>by
  have h2:(p0++(l.take i).map f).length=p0.length+i:=by rw[List.length_append,List.length_map,List.length_take];omega
  have h3:(l.drop (i+1)).length=l.length-(i+1):=List.length_drop
  have h4:l.drop i=l[i]::l.drop (i+1):=List.drop_eq_getElem_cons hi
  have:=hF rec (p0++(l.take i).map f) l[i] (l.drop (i+1)) (by omega) (List.getElem_mem hi)
  rw[h2,←h4] at this
  show F rec (e (p0.length+i),p0++(l.take i).map f++l.drop i)=_
  rw[this,List.take_succ_eq_append_getElem hi,List.map_append,List.map_singleton]
  simp only[List.append_assoc,List.singleton_append,Nat.add_assoc]) (fun rec=>by
  rw[List.take_of_length_le (Nat.le_refl _),List.drop_of_length_le (Nat.le_refl _),List.append_nil]
  exact hE rec _ (by rw[List.length_append,List.length_map])) (by simp)
def aGf (n:Nat)(d:D.Device):Nat→D.Device
 |0=>d
 |j+1=>Px (aQ (j:Int)) n (aGf n d j)
theorem yU (j:Int):(aQ j).size≤100:=by unfold aQ;cases j==0<;>cases j==1<;>decide
theorem aR3 {nm:ByteArray}{n:Nat}{d:D.Device}{r:List D.Device}(hn:n≤3)(hd:d.sz≤100){F:(Nat×List D.Device→Option (List D.Device))→Nat×List D.Device→Option (List D.Device)}
  (hF:∀rec (i:Nat) (x:D.Device),i<n→x.sz≤1000→F rec (i,x::r)=rec (i+1,(jD x nm (i:Int) false).1::r)) (hE:∀rec x,F rec (n,x::r)=some (x::r)):EV.bS FUEL F (0,d::r)=some (Px nm n d::r):=
 zJ (fun i=>(i,Px nm i d::r)) n (by omega) (fun rec i hi=>by
  have h1:=K5 nm i d
  rw[hF rec i _ hi (by omega)];rfl) (fun rec=>hE rec _) rfl
theorem aR4 {n:Nat}{d:D.Device}{r:List D.Device}{F:(Nat×List D.Device→Option (List D.Device))→Nat×List D.Device→Option (List D.Device)}(hn:n≤3)(hd:d.sz≤10)
  (hF:∀rec (j:Nat) (x:D.Device),j<2→x.sz≤100→F rec (j,x::r)=rec (j+1,Px (aQ (j:Int)) n x::r)) (hE:∀rec x,F rec (2,x::r)=some (x::r)):EV.bS FUEL F (0,d::r)=some (aGf n d 2::r):=
 zJ (fun j=>(j,aGf n d j::r)) 2 (by omega) (fun rec j hj=>by
  have h1:∀j:Nat,(aGf n d j).sz≤d.sz+j*n:=by
   intro j
   induction j with
   |zero=>exact Nat.le_add_right _ _
   |succ j ih=>have:=K5 (aQ (j:Int)) n (aGf n d j);show(Px (aQ (j:Int)) n (aGf n d j)).sz≤_;rw[Nat.add_mul];omega
  have h2:=h1 j
  have h3:j*n≤2*3:=Nat.mul_le_mul (by omega) hn
  rw[hF rec j _ hj (by omega)];rfl) (fun rec=>hE rec _) rfl
theorem aR5 {seed t:Int}(ht:1≤t∧t≤7){F:(List Int×Int→Option (List Int))→List Int×Int→Option (List Int)}(hF:∀rec (s:List Int) (i:Int),1≤i→i≤8→s.length≤8→F rec (s,i)=bif decide (i<t) then rec (s++[aY seed [307,i]],i+1) else some s):EV.bS FUEL F ([],1)=some (La seed t):=
 zJ (fun i=>((List.range i).map fun(k:Nat)=>aY seed [307,(k:Int)+1],(i:Int)+1)) (t-1).toNat (by omega) (fun rec i hi=>by
  rw[hF rec _ _ (by omega) (by omega) (by simp;omega),decide_eq_true (by omega),cond_true,List.range_succ,List.map_append];rfl) (fun rec=>by
  rw[hF rec _ _ (by omega) (by omega) (by simp;omega),decide_eq_false (by omega),cond_false];rfl) rfl
theorem aJy (s:D.Site):D.Site.mk s.Name s.Accounts (D.aAG.mk s.Book.Seed s.Book.Next s.Book.Open) s.Logins=s:=rfl
theorem bDi (s:D.aAH):D.Device.mk s [] (0:Int) (0:Int) (0:Int) (D.aAC.mk [])=dR s:=rfl
theorem bFi (seed:Int)(i:Nat):D.aAH.mk (1:Int) (i:Int) (aY seed [277,(i:Int)]) (0:Int)=dZ seed (i:Int):=rfl
theorem aHv (n k t pin seed:Int):Gp n k t pin seed=some (bG n k t pin seed):=by
 unfold Gp bG bAy
 cases h1:cK n 1 3 with
 |false=>rfl
 |true=>
 cases h2:cK k 1 7 with
 |false=>rfl
 |true=>
 cases h3:cK t 1 k with
 |false=>rfl
 |true=>
 cases h4:cK pin 0 9999 with
 |false=>rfl
 |true=>
 cases h5:dG seed with
 |false=>rfl
 |true=>
 have hn:=nE h1;have hk:=nE h2;have ht:=nE h3
 obtain⟨N,rfl⟩:∃N:Nat,n=(N:Int):=⟨n.toNat,by omega⟩
 rw[Int.toNat_natCast]
 have hN:1≤N∧N≤3:=by omega
 have hL:=kC seed N
 have hB:=Vl seed N
 have hC:=Vm seed N
 simp only[Bool.not_true,cond_false,Bool.and_self,cond_true,bd_s,bDi,bFi]
 rw[zJ (r:=(bZ seed N,bI seed N,List.replicate N false)) (fun i=>(bZ seed i,i,bI seed i,List.replicate i false)) N (s:=([],0,[],[])) (by omega) (fun rec i hi=>by
  have e2:=aR2 seed i
  have e3:=kC seed i
  have e4:=nA seed i
  rw[tX] at e2
  simp only[bJ hi,cond_true,aB (show bD (bI seed i) [dR (dZ seed (i:Int))] from aX5 (by omega) (by simp)),aB (show bD (List.replicate i false) [false] from aX5 (by rw[List.length_replicate];omega) (by simp)),e2,bd_s,aB (show(bZ seed i).length≤34359738300 by omega),tX,List.replicate_succ']
  rfl) (fun rec=>by simp only[bM,cond_false]) rfl]
 have hE:(dL (bZ seed N) (gH seed 0) 1000).1=gW seed N:=rfl
 simp only[bd_s,aB (show(bZ seed N).length≤34359738300 by omega),hE,aB (show(bZ seed N).length≤34359738368∧(gW seed N).sz≤34359738368 from⟨by omega,by omega⟩)]
 have hD:=nA seed N
 rw[zJ (r:=kI (bI seed N) seed) (fun j=>((kI (bI seed N) seed).take j,j)) 2 (s:=([],0)) (by omega) (fun rec j hj=>by
  have hs:=yU (j:Int)
  have h6:=Lc (aQ (j:Int)) (aY seed [281,(j:Int)])
  have h7:=Vo (eY (aQ (j:Int)) (aY seed [281,(j:Int)])) 1 3
  simp only[decide_eq_true (show(j:Int)<2 by omega),cond_true,aB (show[281,(j:Int)].length≤34359738300 by simp),bd_s,aB (show(aQ (j:Int)).size≤34359738368 by omega),aB (show(eY (aQ (j:Int)) (aY seed [281,(j:Int)])).sz≤34359738300 by omega)]
  rw[aWi (nm:=aQ (j:Int)) (l:=bI seed N) (s0:=(iP (eY (aQ (j:Int)) (aY seed [281,(j:Int)])) 1 3).1) (by omega) (by omega) (fun rec i hi s hsz=>by
   simp only[bJ hi,cond_true,aF hi,bd_s,aB (show(aQ (j:Int)).size≤34359738300 by omega),aJy,aB (show s.sz≤34359738300 by omega)]) (fun rec s=>by simp only[bM,cond_false])]
  have e1:((kI (bI seed N) seed).take j).length≤1000:=by rw[List.length_take];omega
  have ha:∀x:D.Site,bD ((kI (bI seed N) seed).take j) [x]:=fun x=>aX5 e1 (by simp)
  simp only[bd_s,aJy,aB (ha _)]
  have hj':j=0∨j=1:=by omega
  rcases hj' with rfl|rfl<;>rfl) (fun rec=>by rfl) rfl]
 simp only[bd_s]
 have hd1:∀d∈bI seed N,d.sz=0:=fun d hd=>by
  simp only[bI,List.mem_map] at hd
  obtain⟨i,_,rfl⟩:=hd;rfl
 rw[show(0,bI seed N)=((fun i:Nat=>i) ([]:List D.Device).length,([]:List D.Device)++bI seed N) from rfl,aTs (fun i:Nat=>i) (p0:=[]) (l:=bI seed N) (nR seed N) (by omega) (fun rec p d r hp hd=>by
  have h0:=hd1 d hd
  simp only[List.length_nil] at hp
  simp only[bJ (show p.length<N by omega),cond_true,R8,bd_s,aB (show d.sz≤34359738368∧(bZ seed N).length≤34359738368 from⟨by omega,by omega⟩),Int.toNat_natCast,set_mid rfl,List.append_assoc,List.singleton_append];rfl) (fun rec p hp=>by
  simp only[List.length_nil,hD,Nat.zero_add,bM,cond_false])]
 obtain⟨R,hR⟩:∃R,R=((bI seed N).drop 1).map (nR seed N):=⟨_,rfl⟩
 have hm:(bI seed N).map (nR seed N)=nR seed N (dR (dZ seed 0))::R:=by
  have:=congrArg (List.map (nR seed N)) (R6 seed N hN.1)
  rw[this,hR];rfl
 have hRl:R.length=N-1:=by rw[hR,List.length_map,List.length_drop,hD]
 have hRz:∀d∈R,d.sz≤10:=fun d hd=>by
  rw[hR,List.mem_map] at hd
  obtain⟨x,hx,rfl⟩:=hd
  have h0:=hd1 x (List.mem_of_mem_drop hx)
  have:=Pp seed N x
  omega
 have hA:=Pp seed N (dR (dZ seed 0))
 rw[Pq] at hA
 have hq:∀x:D.Device,aT (x::R) 0=some x:=fun x=>rfl
 rw[List.nil_append,hm,bd_s,aR4 (n:=N) (d:=nR seed N (dR (dZ seed 0))) (r:=R) hN.2 (by omega) (fun rec j x hj hx=>by
  simp only[decide_eq_true (show(j:Int)<2 by omega),cond_true]
  rw[aR3 (nm:=aQ (j:Int)) (n:=N) (d:=x) (r:=R) hN.2 hx (fun rec i x hi hx=>by
   have hs:=yU (j:Int)
   simp only[bJ hi,cond_true,hq,bd_s,aB (show x.sz≤34359738360∧(aQ (j:Int)).size≤34359738300 from⟨by omega,by omega⟩)];rfl) (fun rec x=>by simp only[bM,cond_false])]
  simp only[bd_s]) (fun rec x=>by rfl)]
 have hf:aGf N (nR seed N (dR (dZ seed 0))) 2=iQ seed N:=rfl
 have hw:mP (iQ seed N)=Py seed N:=rfl
 have hc:(gJ (dS (bZ seed N) (gW seed N)).1 (Py seed N).2.1).1=iI seed N:=rfl
 have hF:=Vk seed N
 have hW:=Po (iQ seed N)
 rw[hw] at hW
 have hNC:=Lb (bZ seed N) (gW seed N)
 have hset:∀x y:D.Device,(x::R).set (0:Int).toNat y=y::R:=fun _ _=>rfl
 simp only[bd_s,hf,hq,aB (show(iQ seed N).sz≤34359738368 by omega),hw,aB (show(dS (bZ seed N) (gW seed N)).1.sz≤34359738300∧(Py seed N).2.1.sz≤34359738300 from⟨by omega,by have:=hW.2;simp only[D.aAA.sz];omega⟩),hc,hset]
 rw[show((1:Int),(Py seed N).1::R)=((fun i:Nat=>(i:Int)) ([(Py seed N).1]:List D.Device).length,[(Py seed N).1]++R) from rfl,aTs (fun i:Nat=>(i:Int)) (p0:=[(Py seed N).1]) (l:=R) (fun d=>(eP d (iI seed N).Log (iI seed N).Boxes (qB (iI seed N) 0).1).1) (by omega) (fun rec p d r hp hd=>by
  have h0:=hRz d hd
  simp only[List.length_cons,List.length_nil] at hp
  simp only[bJ (show p.length<N by omega),cond_true,R8,bd_s,aB (show d.sz≤34359738100∧(iI seed N).sz≤34359738100 from⟨by omega,by omega⟩),Int.toNat_natCast,set_mid rfl,List.append_assoc,List.singleton_append,aK (show-9223372036854775808≤(p.length:Int)+1 by omega) (show(p.length:Int)+1≤9223372036854775807 by omega)];rfl) (fun rec p hp=>by
  simp only[show([(Py seed N).1]:List D.Device).length+R.length=N by simp only[List.length_cons,List.length_nil];omega,bM,cond_false])]
 have hS:[(Py seed N).1]++R.map (fun d=>(eP d (iI seed N).Log (iI seed N).Boxes (qB (iI seed N) 0).1).1)=uC seed N:=by
  rw[hR,List.map_map]
  show(Py seed N).1::_=(Py seed N).1::_
  congr 1
  exact List.map_congr_left fun d _=>bEv seed N d
 rw[hS]
 simp only[bd_s]
 rw[aR5 (seed:=seed) (t:=t) ⟨by omega,by omega⟩ (fun rec s i h0 h1 h2=>by
  have ha:∀x:Int,bD s [x]:=fun x=>aX5 (by omega) (by simp)
  simp only[aB (show([307,i]:List Int).length≤34359738300 by simp),bd_s,aB (ha _),aK (show-9223372036854775808≤i+1 by omega) (show i+1≤9223372036854775807 by omega)])]
 have hcl:(La seed t).length≤34359738368:=by simp only[La,List.length_map,List.length_range];omega
 simp only[bd_s,aB (show([283]:List Int).length≤34359738300 by simp),aB (show([293]:List Int).length≤34359738300 by simp),aB (show(1018:Int)≠0 by decide),aB hcl]
 rfl
theorem aHw (n k t pin seed:Int):He n k t pin seed=some (bG n k t pin seed):=by
 unfold He bG bAy
 cases h1:cK n 1 3 with
 |false=>rfl
 |true=>
 cases h2:cK k 1 7 with
 |false=>rfl
 |true=>
 cases h3:cK t 1 k with
 |false=>rfl
 |true=>
 cases h4:cK pin 0 9999 with
 |false=>rfl
 |true=>
 cases h5:dG seed with
 |false=>rfl
 |true=>
 have hn:=nE h1;have hk:=nE h2;have ht:=nE h3
 obtain⟨N,rfl⟩:∃N:Nat,n=(N:Int):=⟨n.toNat,by omega⟩
 rw[Int.toNat_natCast]
 have hN:1≤N∧N≤3:=by omega
 have hL:=kC seed N
 have hB:=Vl seed N
 have hC:=Vm seed N
 simp only[Bool.not_true,cond_false,Bool.and_self,cond_true,bd_s,bDi,bFi,aB (show bBh (N:Int) from⟨by omega,by omega⟩)]
 rw[zJ (r:=(bZ seed N,bI seed N)) (fun i=>(bZ seed i,i,bI seed i)) N (s:=([],0,[])) (by omega) (fun rec i hi=>by
  have e2:=aR2 seed i
  have e5:=bA7 seed i
  have e3:=kC seed i
  have e4:=nA seed i
  rw[tX] at e2 e5
  simp only[bJ hi,cond_true,aB (show bD (bI seed i) [dR (dZ seed (i:Int))] from aX5 (by omega) (by simp)),e2,e5,bd_s,aB (show(bZ seed i).length≤34359738300 by omega),tX]
  rfl) (fun rec=>by simp only[bM,cond_false]) rfl]
 have hE:(dL (bZ seed N) (gH seed 0) 1000).1=gW seed N:=rfl
 simp only[bd_s,aB (show(bZ seed N).length≤34359738300 by omega),hE,aB (show(bZ seed N).length≤34359738368∧(gW seed N).sz≤34359738368 from⟨by omega,by omega⟩)]
 have hD:=nA seed N
 rw[zJ (r:=kI (bI seed N) seed) (fun j=>(j,(kI (bI seed N) seed).take j)) 2 (s:=(0,[])) (by omega) (fun rec j hj=>by
  have hs:=yU (j:Int)
  have h6:=Lc (aQ (j:Int)) (aY seed [281,(j:Int)])
  have h7:=Vo (eY (aQ (j:Int)) (aY seed [281,(j:Int)])) 1 3
  simp only[decide_eq_true (show(j:Int)<2 by omega),cond_true,aB (show[281,(j:Int)].length≤34359738300 by simp),bd_s,aB (show(aQ (j:Int)).size≤34359738368 by omega),aB (show(eY (aQ (j:Int)) (aY seed [281,(j:Int)])).sz≤34359738300 by omega)]
  rw[aWi (nm:=aQ (j:Int)) (l:=bI seed N) (s0:=(iP (eY (aQ (j:Int)) (aY seed [281,(j:Int)])) 1 3).1) (by omega) (by omega) (fun rec i hi s hsz=>by
   simp only[bJ hi,cond_true,aF hi,bd_s,aB (show(aQ (j:Int)).size≤34359738300 by omega),aJy,aB (show s.sz≤34359738300 by omega)]) (fun rec s=>by simp only[bM,cond_false])]
  have e1:((kI (bI seed N) seed).take j).length≤1000:=by rw[List.length_take];omega
  have ha:∀x:D.Site,bD ((kI (bI seed N) seed).take j) [x]:=fun x=>aX5 e1 (by simp)
  simp only[bd_s,aJy,aB (ha _)]
  have hj':j=0∨j=1:=by omega
  rcases hj' with rfl|rfl<;>rfl) (fun rec=>by rfl) rfl]
 simp only[bd_s]
 have hd1:∀d∈bI seed N,d.sz=0:=fun d hd=>by
  simp only[bI,List.mem_map] at hd
  obtain⟨i,_,rfl⟩:=hd;rfl
 rw[show(0,bI seed N)=((fun i:Nat=>i) ([]:List D.Device).length,([]:List D.Device)++bI seed N) from rfl,aTs (fun i:Nat=>i) (p0:=[]) (l:=bI seed N) (nR seed N) (by omega) (fun rec p d r hp hd=>by
  have h0:=hd1 d hd
  simp only[List.length_nil] at hp
  simp only[hD,bJ (show p.length<N by omega),cond_true,R8,bd_s,aB (show d.sz≤34359738368∧(bZ seed N).length≤34359738368 from⟨by omega,by omega⟩),Int.toNat_natCast,set_mid rfl,List.append_assoc,List.singleton_append];rfl) (fun rec p hp=>by
  simp only[List.length_nil,hD,Nat.zero_add,bM,cond_false])]
 obtain⟨R,hR⟩:∃R,R=((bI seed N).drop 1).map (nR seed N):=⟨_,rfl⟩
 have hm:(bI seed N).map (nR seed N)=nR seed N (dR (dZ seed 0))::R:=by
  have:=congrArg (List.map (nR seed N)) (R6 seed N hN.1)
  rw[this,hR];rfl
 have hRl:R.length=N-1:=by rw[hR,List.length_map,List.length_drop,hD]
 have hRz:∀d∈R,d.sz≤10:=fun d hd=>by
  rw[hR,List.mem_map] at hd
  obtain⟨x,hx,rfl⟩:=hd
  have h0:=hd1 x (List.mem_of_mem_drop hx)
  have:=Pp seed N x
  omega
 have hA:=Pp seed N (dR (dZ seed 0))
 rw[Pq] at hA
 have hq:∀x:D.Device,aT (x::R) 0=some x:=fun x=>rfl
 rw[List.nil_append,hm,bd_s,aR4 (n:=N) (d:=nR seed N (dR (dZ seed 0))) (r:=R) hN.2 (by omega) (fun rec j x hj hx=>by
  simp only[decide_eq_true (show(j:Int)<2 by omega),cond_true]
  rw[aR3 (nm:=aQ (j:Int)) (n:=N) (d:=x) (r:=R) hN.2 hx (fun rec i x hi hx=>by
   have hs:=yU (j:Int)
   simp only[bJ hi,cond_true,hq,bd_s,aB (show x.sz≤34359738360∧(aQ (j:Int)).size≤34359738300 from⟨by omega,by omega⟩)];rfl) (fun rec x=>by simp only[bM,cond_false])]
  simp only[bd_s]) (fun rec x=>by rfl)]
 have hf:aGf N (nR seed N (dR (dZ seed 0))) 2=iQ seed N:=rfl
 have hw:mP (iQ seed N)=Py seed N:=rfl
 have hc:(gJ (dS (bZ seed N) (gW seed N)).1 (Py seed N).2.1).1=iI seed N:=rfl
 have hF:=Vk seed N
 have hW:=Po (iQ seed N)
 rw[hw] at hW
 have hNC:=Lb (bZ seed N) (gW seed N)
 have hset:∀x y:D.Device,(x::R).set (0:Int).toNat y=y::R:=fun _ _=>rfl
 simp only[bd_s,hf,hq,aB (show(iQ seed N).sz≤34359738368 by omega),hw,aB (show(dS (bZ seed N) (gW seed N)).1.sz≤34359738300∧(Py seed N).2.1.sz≤34359738300 from⟨by omega,by have:=hW.2;simp only[D.aAA.sz];omega⟩),hc,hset]
 rw[show((1:Int),(Py seed N).1::R)=((fun i:Nat=>(i:Int)) ([(Py seed N).1]:List D.Device).length,[(Py seed N).1]++R) from rfl,aTs (fun i:Nat=>(i:Int)) (p0:=[(Py seed N).1]) (l:=R) (fun d=>(eP d (bZ seed N) (gW seed N) (Py seed N).2.1).1) (by omega) (fun rec p d r hp hd=>by
  have h0:=hRz d hd
  have h9:=hW.2
  simp only[List.length_cons,List.length_nil] at hp
  simp only[bJ (show p.length<N by omega),cond_true,R8,bd_s,aB (show d.sz≤34359738368∧(bZ seed N).length≤34359738368∧(gW seed N).sz≤34359738368∧(Py seed N).2.1.Data.length≤34359738200 from⟨by omega,by omega,by omega,by omega⟩),Int.toNat_natCast,set_mid rfl,List.append_assoc,List.singleton_append,aK (show-9223372036854775808≤(p.length:Int)+1 by omega) (show(p.length:Int)+1≤9223372036854775807 by omega)];rfl) (fun rec p hp=>by
  simp only[show([(Py seed N).1]:List D.Device).length+R.length=N by simp only[List.length_cons,List.length_nil];omega,bM,cond_false])]
 have hS:[(Py seed N).1]++R.map (fun d=>(eP d (bZ seed N) (gW seed N) (Py seed N).2.1).1)=uC seed N:=by
  rw[hR,List.map_map]
  rfl
 rw[hS]
 simp only[bd_s]
 rw[aR5 (seed:=seed) (t:=t) ⟨by omega,by omega⟩ (fun rec s i h0 h1 h2=>by
  have ha:∀x:Int,bD s [x]:=fun x=>aX5 (by omega) (by simp)
  simp only[aB (show([307,i]:List Int).length≤34359738300 by simp),bd_s,aB (ha _),aK (show-9223372036854775808≤i+1 by omega) (show i+1≤9223372036854775807 by omega)])]
 have hcl:(La seed t).length≤34359738368:=by simp only[La,List.length_map,List.length_range];omega
 have hz:=aF7 (N:Int) k t pin seed
 have hnw:bG (N:Int) k t pin seed=⟨0,seed,uC seed N,List.replicate N false,iI seed N,kI (bI seed N) seed,(Ef seed t pin k).1,(Ef seed t pin k).2.1,pin,⟨[]⟩⟩:=by
  unfold bG bAy
  rw[h1,h2,h3,h4,h5,Int.toNat_natCast];rfl
 rw[hnw] at hz
 have hv:qF pin 7 (aJs (D.World.mk 0 seed (uC seed N) (List.replicate N false) (iI seed N) (kI (bI seed N) seed) (D.aAQ.mk 0 0 0 0) [] pin (D.aAO.mk []))) (IntKind.i64.wrap (1+(aY seed [293]).tmod 1018)) (La seed t) k 5=Ef seed t pin k:=rfl
 simp only[Int.toNat_natCast,bd_s,aB (show([293]:List Int).length≤34359738300 by simp),aB (show(1018:Int)≠0 by decide),aB hcl,hv]
 rw[aB (by omega)];rfl
theorem Es (n k t pin seed:Int):oH n k t pin seed=some true:=by
 unfold oH
 have hg:=aF7 n k t pin seed
 generalize bG n k t pin seed=g at hg ⊢
 have hg:g.sz≤68719476736:=by omega
 simp only[bHe hg,bd_s,Bool.not_true,cond_false,bC4,bIi hg,bEw,bIj hg,bIk,bJo hg,bne_self_eq_false]
end
end Go.VK
