import Derived.Test.YtlnjelnfjgjanaaGreatXpPw
import Derived.Test.YtlnjelnfjgjanaaGreatXpM
/- Printed by wip/tools: models, walks, proofs. -/
set_option linter.unusedVariables false
set_option linter.unusedSimpArgs false
set_option maxRecDepth 100000
set_option maxHeartbeats 4000000
namespace Go.VK
open Go.RowKit Go.Proofs
noncomputable section
open EV (bT)
theorem qX {σ τ:Type}{F:(σ→Option τ)→σ→Option τ}(S:Nat→σ)(N:Nat){r:τ}(hN:N≤1000000)(hF:∀rec i,i<N→F rec (S i)=rec (S (i+1)))(hE:∀rec,F rec (S N)=some r){s:σ}(hs:s=S 0):EV.bT FUEL F s=some r:=by
 subst hs
 have go:∀(k i n:Nat),i+k=N→k<n→EV.bT n F (S i)=some r:=by
  intro k
  induction k with
  |zero=>
   intro i n h hn
   obtain⟨m,rfl⟩:∃m,n=m+1:=⟨n-1,by omega⟩
   rw[gU,show i=N by omega];exact hE _
  |succ k ih=>
   intro i n h hn
   obtain⟨m,rfl⟩:∃m,n=m+1:=⟨n-1,by omega⟩
   rw[gU,hF _ i (by omega)];exact ih (i+1) m (by omega) (by omega)
 exact go N 0 FUEL (by omega) (by have:=gY;omega)
theorem aQ6 {m:Int}{F:(Int×Int×Int→Option Int)→Int×Int×Int→Option Int}(hF:∀rec (b n s:Int),0≤n→n<9223372036854775807→F rec (b,n,s)=bif decide (n>0) then rec ((IntKind.i64.wrap (b*b)).tmod m,n/2,bif n%2==1 then(IntKind.i64.wrap (s*b)).tmod m else s) else some s):
  ∀(k:Nat) (b n s:Int) (f:Nat),k<f→0≤n→n<2^k→k≤62→bT f F (b,n,s)=some (O1 m k b n s)
 |0,b,n,s,f+1,hf,h0,h1,hk=>by
  have:n=0:=by simp at h1;omega
  subst this;rw[gU,hF _ _ _ _ (by omega) (by omega)];rfl
 |k+1,b,n,s,f+1,hf,h0,h1,hk=>by
  have h2:(2:Int)^(k+1)=2*2^k:=by rw[Int.pow_succ];omega
  have h3:n<2^62:=Int.lt_of_lt_of_le h1 (by exact_mod_cast Nat.pow_le_pow_right (by omega) hk)
  rw[gU,hF _ _ _ _ h0 (by omega)]
  unfold O1
  by_cases hn:n>0
  ·rw[decide_eq_true hn,cond_true,if_pos hn]
   exact aQ6 hF k _ (n/2) _ f (by omega) (by omega) (by omega) (by omega)
  ·rw[decide_eq_false hn,cond_false,if_neg hn]
theorem bIm:((2039:Int)≠0)=True:=by simp
theorem Zt (b n:Int)(h:0≤n∧n<2048):oN b n=some (O1 2039 11 b n 1):=by
 unfold oN
 rw[aQ6 (m:=2039) (fun rec b n s h0 h1=>by simp only[show lD .i64 n 1=n%2 from and_one h0 (by omega),show zL .i64 n 1=n/2 from aUl h0,bIm,gd_T,rF,bd_s,aB (show(0:Int)≤1 by decide)]) 11 b n 1 FUEL (by have:=gY;omega) h.1 (by have:=h.2;omega) (by omega)];rfl
theorem Gr (x:Int):pX x=some (zS x):=by
 unfold pX zS
 rw[Zt _ _ (by decide)]
 cases bF x 1 2038<;>rfl
theorem aCp (g n:Int):Fj g n=some (mE g n):=by
 unfold Fj mE
 have hr:=qI (p:=n) (q:=1019) (by decide)
 rw[Zt _ _ ⟨hr.1,by omega⟩]
 cases zS g<;>rfl
theorem Uw (a b:Int):wM a b=some (Ny a b):=by
 unfold wM
 rw[aB (by simp),bd_s,aB (by decide),aB (by decide)];rfl
theorem Pp (a b c:Int):Ou a b c=some (Oa a b c):=rfl
theorem V5 (a b:Int):Bn a b=some (uT a b):=by
 unfold Bn uT
 rw[aB (by simp),bd_s]
 have h:=(jN a [157,b]).1
 generalize bI a [157,b]=n at h ⊢
 unfold aNq gQ
 by_cases h1:n>1
 ·rw[decide_eq_true h1,show(n==0)=false by simp;omega];rfl
 ·rw[decide_eq_false h1]
  by_cases h2:n=0
  ·subst h2;rfl
  ·have:n=1:=by omega
   subst this;rfl
theorem Zu (a b:Int):yL a b=some (Ed a b):=by
 unfold yL
 rw[aB (by simp)];rfl
theorem aHi (a b:Int):Ki a b=some (aFx a b):=by
 unfold Ki aFx
 rw[aB (by simp)]
 cases bF a 0 2147483647<;>rfl
theorem V6 (k:D.aAT):Q0 k=some (Yh k):=rfl
theorem aTj {c n:Int}{l:List Int}(hn:1≤n∧n≤7)(hl:l.length≤34359738368){F:(List D.aAQ×Int→Option (List D.aAQ))→List D.aAQ×Int→Option (List D.aAQ)}(hF:∀rec (s:List D.aAQ) (i:Int),1≤i→i≤8→s.length≤8→F rec (s,i)=bif decide (i≤n) then rec (s++[⟨i,Ir c l i⟩],i+1) else some s):EV.bT FUEL F ([],1)=some ((List.range n.toNat).map fun(i:Nat)=>(⟨(i:Int)+1,Ir c l ((i:Int)+1)⟩:D.aAQ)):=
 qX (fun i=>((List.range i).map fun(i:Nat)=>(⟨(i:Int)+1,Ir c l ((i:Int)+1)⟩:D.aAQ),(i:Int)+1)) n.toNat (by omega) (fun rec i hi=>by
  rw[hF rec _ _ (by omega) (by omega) (by simp;omega),decide_eq_true (by omega),cond_true,List.range_succ,List.map_append];rfl) (fun rec=>by
  rw[hF rec _ _ (by omega) (by omega) (by simp;omega),decide_eq_false (by omega),cond_false]) rfl
theorem Ux (c:Int)(l:List Int)(n:Int)(h:l.length≤34359738368):wL c l n=some (vR c l n):=by
 unfold wL vR
 cases h1:bF n 1 7 with
 |false=>rfl
 |true=>
  have hn:=kJ h1
  rw[aTj (c:=c) hn h (fun rec s i h0 h1 h2=>by
   simp only[aB (show(0:Int)≤i∧i≤1000∧l.length≤34359738368 from⟨by omega,by omega,h⟩),bd_s,aB (show aS s [D.aAQ.mk i (Ir c l i)] by unfold aS;simp;omega),aG (show-9223372036854775808≤i+1 by omega) (show i+1≤9223372036854775807 by omega)])]
  by_cases h2:(l.length:Int)<n
  ·rw[decide_eq_true h2,decide_eq_false (show ¬(l.length:Int)≥n by omega)];rfl
  ·rw[decide_eq_false h2,decide_eq_true (show(l.length:Int)≥n by omega)];rfl
theorem V7 (pin salt key sec:Int)(cs:List Int)(n lim:Int)(h:cs.length≤34359738368):Bo pin salt key sec cs n lim=some (Jb pin salt key sec cs n lim):=by
 unfold Bo Jb aN0
 simp only[aB h,bd_s]
 have hl:=aMk sec cs n
 generalize vR sec cs n=l at hl ⊢
 cases bF pin 0 9999 with
 |false=>rfl
 |true=>
 cases bF salt 0 1000000 with
 |false=>rfl
 |true=>
 cases bM key with
 |false=>rfl
 |true=>
 cases dI sec 1019==0 with
 |true=>rfl
 |false=>
 cases bF lim 1 10 with
 |false=>rfl
 |true=>
 rw[bGq (l:=l) (fun s=>Yh ⟨s,0,0,lim⟩) (by omega) (fun rec i s hi hs=>by
  have ha:∀x:D.aAA,aS s [x]:=fun x=>by unfold aS;simp;omega
  simp only[dQ hi,cond_true,aM hi,bd_s,aB (ha _)];rfl) (fun rec s=>by simp only[dS,cond_false])]
 cases l with
 |nil=>rfl
 |cons x l=>
  have e:(((x::l).length:Int)==0)=false:=by simp;omega
  have e2:((x::l).length==0)=false:=by simp
  rw[e,e2];rfl
theorem aCq (l:List D.aAC)(b:D.aAH)(h:l.length≤34359738368∧b.sz≤34359738368):Ez l b=some (dW l b):=by
 unfold Ez dW
 have hb:b.Boxes.length≤34359738368:=by have:=h.2;simp only[D.aAH.sz] at this;omega
 simp only[aB h.1,aB h.2,aB (show b.Boxes.length≤34359738368∧l.length≤34359738368 from⟨hb,h.1⟩),bd_s]
 cases bE l<;>cases gL b l<;>rfl
theorem aQ7 (s:D.Site)(id m:Int):(mO s id m).sz=s.sz+1:=by
 have e:(s.Accounts.map D.aAF.sz).sum=((s.Accounts.take (oK id s.Accounts)).map D.aAF.sz).sum+((s.Accounts.drop (oK id s.Accounts)).map D.aAF.sz).sum:=by rw[←List.sum_append,←List.map_append,List.take_append_drop]
 have el:(s.Accounts.take (oK id s.Accounts)).length+(s.Accounts.drop (oK id s.Accounts)).length=s.Accounts.length:=by rw[←List.length_append,List.take_append_drop]
 simp only[mO,D.Site.sz,List.length_append,List.map_append,List.sum_append,List.length_cons,List.length_nil,List.map_cons,List.map_nil,List.sum_cons,List.sum_nil,D.aAF.sz] at e el ⊢
 omega
theorem aX2 {l:List D.aAF}{id:Int}{F:(Int→Option Int)→Int→Option Int}(hl:l.length≤34359738368)(hF:∀rec (i:Nat) (hi:i<l.length),F rec (i:Int)=bif decide (l[i].Id<id) then rec ((i+1:Nat):Int) else some (i:Int))(hE:∀rec,F rec (l.length:Int)=some (l.length:Int)):EV.bT FUEL F 0=some (oK id l:Int):=
 aMf (fun a:D.aAF=>decide (a.Id<id)) (fun i=>some (i:Int)) (fun i=>(i:Int)) hl hF hE
theorem bBw (id:Int)(l:List D.aAF):oK id l≤l.length:=Iz
theorem Uy (s:D.Site)(id m:Int)(h:s.sz≤34359738300):wD s id m=some (kW s id m):=by
 unfold wD kW
 have hl:s.Accounts.length≤s.sz:=by simp only[D.Site.sz];omega
 have hk:=bBw id s.Accounts
 have ha:∀(x y:List D.aAF),x.length+y.length≤34359738400→aS x y:=fun x y h=>by unfold aS;omega
 have hs:s.sz≤34359738368:=by omega
 have h1:=aQ7 s id m
 rw[aB hs,bd_s,aX2 (id:=id) (l:=s.Accounts) (by omega) (fun rec i hi=>by simp only[dQ hi,cond_true,aM hi,bd_s,aG (show-9223372036854775808≤(i:Int)+1 by omega) (show(i:Int)+1≤9223372036854775807 by omega)];rfl) (fun rec=>by simp only[dS,cond_false,bd_s]),bd_s]
 have hh:nT s.Accounts (oK id s.Accounts:Int):=⟨by omega,by omega⟩
 have he:(List.take (oK id s.Accounts) s.Accounts).length+(List.drop (oK id s.Accounts) s.Accounts).length=s.Accounts.length:=by rw[←List.length_append,List.take_append_drop]
 have ht:(List.take (oK id s.Accounts) s.Accounts).length≤s.Accounts.length:=by omega
 have hd:(List.drop (oK id s.Accounts) s.Accounts).length≤s.Accounts.length:=by omega
 rw[Int.toNat_natCast,aB hh,aB hh,aB (ha _ _ (by simp only[List.length_nil];omega)),aB (ha _ _ (by simp only[List.nil_append,List.length_cons,List.length_nil];omega)),aB (ha _ _ (by simp only[List.nil_append,List.length_append,List.length_cons,List.length_nil];omega)),aB hs,bd_s,List.nil_append]
 rw[show(D.Site.mk s.Name (List.take (oK id s.Accounts) s.Accounts++[D.aAF.mk id m []]++List.drop (oK id s.Accounts) s.Accounts) s.Book s.Logins)=mO s id m from rfl,aB (show(mO s id m).sz≤34359738368 by omega)]
 cases cZ s<;>cases cZ (mO s id m)<;>rfl
theorem bEj {α:Type}{x y:List α}(h:x.length≤1000)(h':y.length≤1000):aS x y:=by unfold aS;omega
theorem Lj (seed:Int)(n:Nat):(bQ seed n).length=n:=by simp[bQ]
theorem Zv (seed:Int)(n:Nat):bQ seed (n+1)=bQ seed n++[bJ (aJ seed (n:Int))]:=by simp[bQ,List.range_succ]
theorem aX3 (seed:Int)(n:Nat):bA (bQ seed (n+1)) 0=some (bJ (aJ seed 0)):=by
 rw[show(0:Int)=((0:Nat):Int) from rfl,aM (by rw[Lj];omega)]
 simp[bQ]
theorem aOb (seed:Int)(n:Nat)(h:1≤n):bQ seed n=bJ (aJ seed 0)::(bQ seed n).drop 1:=by
 obtain⟨m,rfl⟩:∃m,n=m+1:=⟨n-1,by omega⟩
 simp[bQ,List.range_succ_eq_map]
abbrev sT (s:D.Site):ByteArray×List D.aAF×Int×Int×List D.aAM×List Int:=(s.Name,s.Accounts,s.Book.Seed,s.Book.Next,s.Book.Open,s.Logins)
theorem Zw (nm:ByteArray):∀(l:List D.Device) (k:Nat) (d:D.Device) (s:D.Site),rO nm k (l++[d]) s=(eP (rO nm k l s) 1 ((k+l.length:Nat):Int) (dO d.Store nm ((k+l.length:Nat):Int))).1
 |[],k,d,s=>rfl
 |x::l,k,d,s=>by
  rw[List.cons_append]
  show rO nm (k+1) (l++[d]) _=_
  rw[Zw nm l (k+1) d,List.length_cons,show k+1+l.length=k+(l.length+1) by omega];rfl
theorem aX4 {nm:ByteArray}{l:List D.Device}{s0:D.Site}(hl:l.length≤3)(hs:s0.sz≤1000){F:(Nat×ByteArray×List D.aAF×Int×Int×List D.aAM×List Int→Option (ByteArray×List D.aAF×Int×Int×List D.aAM×List Int))→Nat×ByteArray×List D.aAF×Int×Int×List D.aAM×List Int→Option (ByteArray×List D.aAF×Int×Int×List D.aAM×List Int)}
  (hF:∀rec (i:Nat) (hi:i<l.length) (s:D.Site),s.sz≤2000→F rec (i,sT s)=rec (i+1,sT (eP s 1 (i:Int) (dO l[i].Store nm (i:Int))).1)) (hE:∀rec s,F rec (l.length,sT s)=some (sT s)):EV.bT FUEL F (0,sT s0)=some (sT (rO nm 0 l s0)):=
 qX (fun i=>(i,sT (rO nm 0 (l.take i) s0))) l.length (by omega) (fun rec i hi=>by
  have h1:=Tw nm 0 (l.take i) s0
  have h2:(l.take i).length=i:=by rw[List.length_take];omega
  rw[hF rec i hi _ (by omega),List.take_succ_eq_append_getElem hi,Zw,h2,Nat.zero_add]) (fun rec=>by rw[hE,List.take_of_length_le (Nat.le_refl _)]) rfl
theorem aQ8 {α:Type}{p r:List α}{s:α}:bA (p++s::r) ((p.length:Nat):Int)=some s:=by
 rw[aM (by simp)];simp
theorem bBx {α ι:Type}(e:Nat→ι){p0 l:List α}(f:α→α){F:(ι×List α→Option (List α))→ι×List α→Option (List α)}(hl:l.length≤1000)
  (hF:∀rec (p:List α) (d:α) (r:List α),p.length+1+r.length=p0.length+l.length→d∈l→F rec (e p.length,p++d::r)=rec (e (p.length+1),p++f d::r)) (hE:∀rec (p:List α),p.length=p0.length+l.length→F rec (e (p0.length+l.length),p)=some p):EV.bT FUEL F (e p0.length,p0++l)=some (p0++l.map f):=
 qX (fun i=>(e (p0.length+i),p0++(l.take i).map f++l.drop i)) l.length (by omega) (fun rec i hi=>by
  have h2:(p0++(l.take i).map f).length=p0.length+i:=by rw[List.length_append,List.length_map,List.length_take];omega
  have h3:(l.drop (i+1)).length=l.length-(i+1):=List.length_drop
  have h4:l.drop i=l[i]::l.drop (i+1):=List.drop_eq_getElem_cons hi
  have:=hF rec (p0++(l.take i).map f) l[i] (l.drop (i+1)) (by omega) (List.getElem_mem hi)
  rw[h2,←h4] at this
  show F rec (e (p0.length+i),p0++(l.take i).map f++l.drop i)=_
  rw[this,List.take_succ_eq_append_getElem hi,List.map_append,List.map_singleton]
  simp only[List.append_assoc,List.singleton_append,Nat.add_assoc]) (fun rec=>by
  rw[List.take_of_length_le (Nat.le_refl _),List.drop_of_length_le (Nat.le_refl _),List.append_nil]
  exact hE rec _ (by rw[List.length_append,List.length_map])) (by simp)
def aHj (n:Nat)(d:D.Device):Nat→D.Device
 |0=>d
 |j+1=>Gg (aA (j:Int)) n (aHj n d j)
theorem Ll (j:Int):(aA j).size≤100:=by unfold aA;cases j==0<;>cases j==1<;>decide
theorem aX5 {nm:ByteArray}{n:Nat}{d:D.Device}{r:List D.Device}(hn:n≤3)(hd:d.sz≤100){F:(Nat×List D.Device→Option (List D.Device))→Nat×List D.Device→Option (List D.Device)}
  (hF:∀rec (i:Nat) (x:D.Device),i<n→x.sz≤1000→F rec (i,x::r)=rec (i+1,(bX x nm (i:Int) false).1::r)) (hE:∀rec x,F rec (n,x::r)=some (x::r)):EV.bT FUEL F (0,d::r)=some (Gg nm n d::r):=
 qX (fun i=>(i,Gg nm i d::r)) n (by omega) (fun rec i hi=>by
  have h1:=Yj nm i d
  rw[hF rec i _ hi (by omega)];rfl) (fun rec=>hE rec _) rfl
theorem aX6 {n:Nat}{d:D.Device}{r:List D.Device}{F:(Nat×List D.Device→Option (List D.Device))→Nat×List D.Device→Option (List D.Device)}(hn:n≤3)(hd:d.sz≤10)
  (hF:∀rec (j:Nat) (x:D.Device),j<2→x.sz≤100→F rec (j,x::r)=rec (j+1,Gg (aA (j:Int)) n x::r)) (hE:∀rec x,F rec (2,x::r)=some (x::r)):EV.bT FUEL F (0,d::r)=some (aHj n d 2::r):=
 qX (fun j=>(j,aHj n d j::r)) 2 (by omega) (fun rec j hj=>by
  have h1:∀j:Nat,(aHj n d j).sz≤d.sz+j*n:=by
   intro j
   induction j with
   |zero=>exact Nat.le_add_right _ _
   |succ j ih=>have:=Yj (aA (j:Int)) n (aHj n d j);show(Gg (aA (j:Int)) n (aHj n d j)).sz≤_;rw[Nat.add_mul];omega
  have h2:=h1 j
  have h3:j*n≤2*3:=Nat.mul_le_mul (by omega) hn
  rw[hF rec j _ hj (by omega)];rfl) (fun rec=>hE rec _) rfl
theorem aTk {seed t:Int}(ht:1≤t∧t≤7){F:(List Int×Int→Option (List Int))→List Int×Int→Option (List Int)}(hF:∀rec (s:List Int) (i:Int),1≤i→i≤8→s.length≤8→F rec (s,i)=bif decide (i<t) then rec (s++[aU seed [307,i]],i+1) else some s):EV.bT FUEL F ([],1)=some (O3 seed t):=
 qX (fun i=>((List.range i).map fun(k:Nat)=>aU seed [307,(k:Int)+1],(i:Int)+1)) (t-1).toNat (by omega) (fun rec i hi=>by
  rw[hF rec _ _ (by omega) (by omega) (by simp;omega),decide_eq_true (by omega),cond_true,List.range_succ,List.map_append];rfl) (fun rec=>by
  rw[hF rec _ _ (by omega) (by omega) (by simp;omega),decide_eq_false (by omega),cond_false];rfl) rfl
theorem aVd (s:D.Site):D.Site.mk s.Name s.Accounts (D.aAB.mk s.Book.Seed s.Book.Next s.Book.Open) s.Logins=s:=rfl
theorem bG9 (s:D.aAI):D.Device.mk s [] (0:Int) (0:Int) (0:Int) (D.aAG.mk [])=bJ s:=rfl
theorem bIn (seed:Int)(i:Nat):D.aAI.mk (1:Int) (i:Int) (aU seed [277,(i:Int)]) (0:Int)=aJ seed (i:Int):=rfl
theorem aCr (n k t pin seed:Int):Fp n k t pin seed=some (dH n k t pin seed):=by
 unfold Fp dH Yi
 cases h1:bF n 1 3 with
 |false=>rfl
 |true=>
 cases h2:bF k 1 7 with
 |false=>rfl
 |true=>
 cases h3:bF t 1 k with
 |false=>rfl
 |true=>
 cases h4:bF pin 0 9999 with
 |false=>rfl
 |true=>
 cases h5:bM seed with
 |false=>rfl
 |true=>
 have hn:=kJ h1;have hk:=kJ h2;have ht:=kJ h3
 obtain⟨N,rfl⟩:∃N:Nat,n=(N:Int):=⟨n.toNat,by omega⟩
 rw[Int.toNat_natCast]
 have hN:1≤N∧N≤3:=by omega
 have hL:=nD seed N
 have hB:=aF0 seed N
 have hC:=aF1 seed N
 simp only[Bool.not_true,cond_false,Bool.and_self,cond_true,bd_s,bG9,bIn]
 rw[qX (r:=(aW seed N,bQ seed N,List.replicate N false)) (fun i=>(aW seed i,i,bQ seed i,List.replicate i false)) N (s:=([],0,[],[])) (by omega) (fun rec i hi=>by
  have e2:=aX3 seed i
  have e3:=nD seed i
  have e4:=Lj seed i
  rw[Zv] at e2
  simp only[dQ hi,cond_true,aB (show aS (bQ seed i) [bJ (aJ seed (i:Int))] from bEj (by omega) (by simp)),aB (show aS (List.replicate i false) [false] from bEj (by rw[List.length_replicate];omega) (by simp)),e2,bd_s,aB (show(aW seed i).length≤34359738300 by omega),Zv,List.replicate_succ']
  rfl) (fun rec=>by simp only[dS,cond_false]) rfl]
 have hE:(bG (aW seed N) (fG seed 0) 1000).1=jP seed N:=rfl
 simp only[bd_s,aB (show(aW seed N).length≤34359738300 by omega),hE,aB (show(aW seed N).length≤34359738368∧(jP seed N).sz≤34359738368 from⟨by omega,by omega⟩)]
 have hD:=Lj seed N
 rw[qX (r:=vS (bQ seed N) seed) (fun j=>((vS (bQ seed N) seed).take j,j)) 2 (s:=([],0)) (by omega) (fun rec j hj=>by
  have hs:=Ll (j:Int)
  have h6:=aBm (aA (j:Int)) (aU seed [281,(j:Int)])
  have h7:=aF2 (eY (aA (j:Int)) (aU seed [281,(j:Int)])) 1 3
  simp only[decide_eq_true (show(j:Int)<2 by omega),cond_true,aB (show[281,(j:Int)].length≤34359738300 by simp),bd_s,aB (show(aA (j:Int)).size≤34359738368 by omega),aB (show(eY (aA (j:Int)) (aU seed [281,(j:Int)])).sz≤34359738300 by omega)]
  rw[aX4 (nm:=aA (j:Int)) (l:=bQ seed N) (s0:=(kW (eY (aA (j:Int)) (aU seed [281,(j:Int)])) 1 3).1) (by omega) (by omega) (fun rec i hi s hsz=>by
   simp only[dQ hi,cond_true,aM hi,bd_s,aB (show(aA (j:Int)).size≤34359738300 by omega),aVd,aB (show s.sz≤34359738300 by omega)]) (fun rec s=>by simp only[dS,cond_false])]
  have e1:((vS (bQ seed N) seed).take j).length≤1000:=by rw[List.length_take];omega
  have ha:∀x:D.Site,aS ((vS (bQ seed N) seed).take j) [x]:=fun x=>bEj e1 (by simp)
  simp only[bd_s,aVd,aB (ha _)]
  have hj':j=0∨j=1:=by omega
  rcases hj' with rfl|rfl<;>rfl) (fun rec=>by rfl) rfl]
 simp only[bd_s]
 have hd1:∀d∈bQ seed N,d.sz=0:=fun d hd=>by
  simp only[bQ,List.mem_map] at hd
  obtain⟨i,_,rfl⟩:=hd;rfl
 rw[show(0,bQ seed N)=((fun i:Nat=>i) ([]:List D.Device).length,([]:List D.Device)++bQ seed N) from rfl,bBx (fun i:Nat=>i) (p0:=[]) (l:=bQ seed N) (uU seed N) (by omega) (fun rec p d r hp hd=>by
  have h0:=hd1 d hd
  simp only[List.length_nil] at hp
  simp only[dQ (show p.length<N by omega),cond_true,aQ8,bd_s,aB (show d.sz≤34359738368∧(aW seed N).length≤34359738368 from⟨by omega,by omega⟩),Int.toNat_natCast,set_mid rfl,List.append_assoc,List.singleton_append];rfl) (fun rec p hp=>by
  simp only[List.length_nil,hD,Nat.zero_add,dS,cond_false])]
 obtain⟨R,hR⟩:∃R,R=((bQ seed N).drop 1).map (uU seed N):=⟨_,rfl⟩
 have hm:(bQ seed N).map (uU seed N)=uU seed N (bJ (aJ seed 0))::R:=by
  have:=congrArg (List.map (uU seed N)) (aOb seed N hN.1)
  rw[this,hR];rfl
 have hRl:R.length=N-1:=by rw[hR,List.length_map,List.length_drop,hD]
 have hRz:∀d∈R,d.sz≤10:=fun d hd=>by
  rw[hR,List.mem_map] at hd
  obtain⟨x,hx,rfl⟩:=hd
  have h0:=hd1 x (List.mem_of_mem_drop hx)
  have:=aDx seed N x
  omega
 have hA:=aDx seed N (bJ (aJ seed 0))
 rw[O4] at hA
 have hq:∀x:D.Device,bA (x::R) 0=some x:=fun x=>rfl
 rw[List.nil_append,hm,bd_s,aX6 (n:=N) (d:=uU seed N (bJ (aJ seed 0))) (r:=R) hN.2 (by omega) (fun rec j x hj hx=>by
  simp only[decide_eq_true (show(j:Int)<2 by omega),cond_true]
  rw[aX5 (nm:=aA (j:Int)) (n:=N) (d:=x) (r:=R) hN.2 hx (fun rec i x hi hx=>by
   have hs:=Ll (j:Int)
   simp only[dQ hi,cond_true,hq,bd_s,aB (show x.sz≤34359738360∧(aA (j:Int)).size≤34359738300 from⟨by omega,by omega⟩)];rfl) (fun rec x=>by simp only[dS,cond_false])]
  simp only[bd_s]) (fun rec x=>by rfl)]
 have hf:aHj N (uU seed N (bJ (aJ seed 0))) 2=kL seed N:=rfl
 have hw:bW (kL seed N)=nwW seed N:=rfl
 have hc:(dF (dW (aW seed N) (jP seed N)).1 (nwW seed N).2.1).1=iC seed N:=rfl
 have hF:=aFz seed N
 have hW:=uZ (kL seed N)
 rw[hw] at hW
 have hNC:=aBl (aW seed N) (jP seed N)
 have hset:∀x y:D.Device,(x::R).set (0:Int).toNat y=y::R:=fun _ _=>rfl
 simp only[bd_s,hf,hq,aB (show(kL seed N).sz≤34359738368 by omega),hw,aB (show(dW (aW seed N) (jP seed N)).1.sz≤34359738300∧(nwW seed N).2.1.sz≤34359738300 from⟨by omega,by have:=hW.2;simp only[D.aAD.sz];omega⟩),hc,hset]
 rw[show((1:Int),(nwW seed N).1::R)=((fun i:Nat=>(i:Int)) ([(nwW seed N).1]:List D.Device).length,[(nwW seed N).1]++R) from rfl,bBx (fun i:Nat=>(i:Int)) (p0:=[(nwW seed N).1]) (l:=R) (fun d=>(dJ d (iC seed N).Log (iC seed N).Boxes (gH (iC seed N) 0).1).1) (by omega) (fun rec p d r hp hd=>by
  have h0:=hRz d hd
  simp only[List.length_cons,List.length_nil] at hp
  simp only[dQ (show p.length<N by omega),cond_true,aQ8,bd_s,aB (show d.sz≤34359738100∧(iC seed N).sz≤34359738100 from⟨by omega,by omega⟩),Int.toNat_natCast,set_mid rfl,List.append_assoc,List.singleton_append,aG (show-9223372036854775808≤(p.length:Int)+1 by omega) (show(p.length:Int)+1≤9223372036854775807 by omega)];rfl) (fun rec p hp=>by
  simp only[show([(nwW seed N).1]:List D.Device).length+R.length=N by simp only[List.length_cons,List.length_nil];omega,dS,cond_false])]
 have hS:[(nwW seed N).1]++R.map (fun d=>(dJ d (iC seed N).Log (iC seed N).Boxes (gH (iC seed N) 0).1).1)=gN seed N:=by
  rw[hR,List.map_map]
  show(nwW seed N).1::_=(nwW seed N).1::_
  congr 1
  exact List.map_congr_left fun d _=>bDp seed N d
 rw[hS]
 simp only[bd_s]
 rw[aTk (seed:=seed) (t:=t) ⟨by omega,by omega⟩ (fun rec s i h0 h1 h2=>by
  have ha:∀x:Int,aS s [x]:=fun x=>bEj (by omega) (by simp)
  simp only[aB (show([307,i]:List Int).length≤34359738300 by simp),bd_s,aB (ha _),aG (show-9223372036854775808≤i+1 by omega) (show i+1≤9223372036854775807 by omega)])]
 have hcl:(O3 seed t).length≤34359738368:=by simp only[O3,List.length_map,List.length_range];omega
 simp only[bd_s,aB (show([283]:List Int).length≤34359738300 by simp),aB (show([293]:List Int).length≤34359738300 by simp),aB (show(1018:Int)≠0 by decide),aB hcl]
 rfl
end
end Go.VK
