import Derived.Test.YtaaefkcjgkpckaaGreatDoorXoPw
import Derived.Test.YtaaefkcjgkpckaaGreatDoorXoM
/- Printed by wip/tools: models, walks, proofs. -/
set_option linter.unusedVariables false
set_option linter.unusedSimpArgs false
set_option maxRecDepth 100000
set_option maxHeartbeats 4000000
namespace Go.VK
open Go.RowKit Go.Proofs
noncomputable section
open EV (dL)
theorem Ma {σ τ:Type}{F:(σ→Option τ)→σ→Option τ}(S:Nat→σ)(N:Nat){r:τ}(hN:N≤1000000)(hF:∀rec i,i<N→F rec (S i)=rec (S (i+1)))(hE:∀rec,F rec (S N)=some r){s:σ}(hs:s=S 0):EV.dL FUEL F s=some r:=by
 subst hs
 have go:∀(k i n:Nat),i+k=N→k<n→EV.dL n F (S i)=some r:=by
  intro k
  induction k with
  |zero=>
   intro i n h hn
   obtain⟨m,rfl⟩:∃m,n=m+1:=⟨n-1,by omega⟩
   rw[jY,show i=N by omega];exact hE _
  |succ k ih=>
   intro i n h hn
   obtain⟨m,rfl⟩:∃m,n=m+1:=⟨n-1,by omega⟩
   rw[jY,hF _ i (by omega)];exact ih (i+1) m (by omega) (by omega)
 exact go N 0 FUEL (by omega) (by have:=jF;omega)
theorem aRj {m:Int}{F:(Int×Int×Int→Option Int)→Int×Int×Int→Option Int}(hF:∀rec (b n s:Int),0≤n→n<9223372036854775807→F rec (b,n,s)=bif decide (n>0) then rec ((IntKind.i64.wrap (b*b)).tmod m,n/2,bif n%2==1 then(IntKind.i64.wrap (s*b)).tmod m else s) else some s):
  ∀(k:Nat) (b n s:Int) (f:Nat),k<f→0≤n→n<2^k→k≤62→dL f F (b,n,s)=some (aXd m k b n s)
 |0,b,n,s,f+1,hf,h0,h1,hk=>by
  have:n=0:=by simp at h1;omega
  subst this;rw[jY,hF _ _ _ _ (by omega) (by omega)];rfl
 |k+1,b,n,s,f+1,hf,h0,h1,hk=>by
  have h2:(2:Int)^(k+1)=2*2^k:=by rw[Int.pow_succ];omega
  have h3:n<2^62:=Int.lt_of_lt_of_le h1 (by exact_mod_cast Nat.pow_le_pow_right (by omega) hk)
  rw[jY,hF _ _ _ _ h0 (by omega)]
  unfold aXd
  by_cases hn:n>0
  ·rw[decide_eq_true hn,cond_true,if_pos hn]
   exact aRj hF k _ (n/2) _ f (by omega) (by omega) (by omega) (by omega)
  ·rw[decide_eq_false hn,cond_false,if_neg hn]
theorem bIk:((2039:Int)≠0)=True:=by simp
theorem d9 (b n:Int)(h:0≤n∧n<2048):pF b n=some (aXd 2039 11 b n 1):=by
 unfold pF
 rw[aRj (m:=2039) (fun rec b n s h0 h1=>by simp only[show uH .i64 n 1=n%2 from and_one h0 (by omega),show Rt .i64 n 1=n/2 from aUx h0,bIk,gd_T,nA,bd_s,aG (show(0:Int)≤1 by decide)]) 11 b n 1 FUEL (by have:=jF;omega) h.1 (by have:=h.2;omega) (by omega)];rfl
theorem He (x:Int):qB x=some (aXe x):=by
 unfold qB aXe
 rw[d9 _ _ (by decide)]
 cases bR x 1 2038<;>rfl
theorem aCs (g n:Int):Ff g n=some (Sl g n):=by
 unfold Ff Sl
 have hr:=vD (p:=n) (q:=1019) (by decide)
 rw[d9 _ _ ⟨hr.1,by omega⟩]
 cases aXe g<;>rfl
theorem Uj (a b:Int):wG a b=some (aDy a b):=by
 unfold wG
 rw[aG (by simp),bd_s,aG (by decide),aG (by decide)];rfl
theorem Pt (a b c:Int):Pd a b c=some (Oa a b c):=rfl
theorem V5 (a b:Int):Av a b=some (Dl a b):=by
 unfold Av Dl
 rw[aG (by simp),bd_s]
 have h:=(kL a [157,b]).1
 generalize bH a [157,b]=n at h ⊢
 unfold aNp iH
 by_cases h1:n>1
 ·rw[decide_eq_true h1,show(n==0)=false by simp;omega];rfl
 ·rw[decide_eq_false h1]
  by_cases h2:n=0
  ·subst h2;rfl
  ·have:n=1:=by omega
   subst this;rfl
theorem o5 (a b:Int):yL a b=some (aDz a b):=by
 unfold yL
 rw[aG (by simp)];rfl
theorem aHq (a b:Int):Ky a b=some (aQj a b):=by
 unfold Ky aQj
 rw[aG (by simp)]
 cases bR a 0 2147483647<;>rfl
theorem V6 (k:D.aAS):Q3 k=some (xW k):=rfl
theorem aTs {c n:Int}{l:List Int}(hn:1≤n∧n≤7)(hl:l.length≤34359738368){F:(List D.aAV×Int→Option (List D.aAV))→List D.aAV×Int→Option (List D.aAV)}(hF:∀rec (s:List D.aAV) (i:Int),1≤i→i≤8→s.length≤8→F rec (s,i)=bif decide (i≤n) then rec (s++[⟨i,Yf c l i⟩],i+1) else some s):EV.dL FUEL F ([],1)=some ((List.range n.toNat).map fun(i:Nat)=>(⟨(i:Int)+1,Yf c l ((i:Int)+1)⟩:D.aAV)):=
 Ma (fun i=>((List.range i).map fun(i:Nat)=>(⟨(i:Int)+1,Yf c l ((i:Int)+1)⟩:D.aAV),(i:Int)+1)) n.toNat (by omega) (fun rec i hi=>by
  rw[hF rec _ _ (by omega) (by omega) (by simp;omega),decide_eq_true (by omega),cond_true,List.range_succ,List.map_append];rfl) (fun rec=>by
  rw[hF rec _ _ (by omega) (by omega) (by simp;omega),decide_eq_false (by omega),cond_false]) rfl
theorem Uk (c:Int)(l:List Int)(n:Int)(h:l.length≤34359738368):wF c l n=some (qV c l n):=by
 unfold wF qV
 cases h1:bR n 1 7 with
 |false=>rfl
 |true=>
  have hn:=gW h1
  rw[aTs (c:=c) hn h (fun rec s i h0 h1 h2=>by
   simp only[aG (show(0:Int)≤i∧i≤1000∧l.length≤34359738368 from⟨by omega,by omega,h⟩),bd_s,aG (show aX s [D.aAV.mk i (Yf c l i)] by unfold aX;simp;omega),aK (show-9223372036854775808≤i+1 by omega) (show i+1≤9223372036854775807 by omega)])]
  by_cases h2:(l.length:Int)<n
  ·rw[decide_eq_true h2,decide_eq_false (show ¬(l.length:Int)≥n by omega)];rfl
  ·rw[decide_eq_false h2,decide_eq_true (show(l.length:Int)≥n by omega)];rfl
theorem V7 (pin salt key sec:Int)(cs:List Int)(n lim:Int)(h:cs.length≤34359738368):Aw pin salt key sec cs n lim=some (Dm pin salt key sec cs n lim):=by
 unfold Aw Dm aD0
 simp only[aG h,bd_s]
 have hl:=aL6 sec cs n
 generalize qV sec cs n=l at hl ⊢
 cases bR pin 0 9999 with
 |false=>rfl
 |true=>
 cases bR salt 0 1000000 with
 |false=>rfl
 |true=>
 cases bE key with
 |false=>rfl
 |true=>
 cases kN sec 1019==0 with
 |true=>rfl
 |false=>
 cases bR lim 1 10 with
 |false=>rfl
 |true=>
 rw[bJ0 (l:=l) (fun s=>xW ⟨s,0,0,lim⟩) (by omega) (fun rec i s hi hs=>by
  have ha:∀x:D.aAI,aX s [x]:=fun x=>by unfold aX;simp;omega
  simp only[dZ hi,cond_true,aR hi,bd_s,aG (ha _)];rfl) (fun rec s=>by simp only[eD,cond_false])]
 cases l with
 |nil=>rfl
 |cons x l=>
  have e:(((x::l).length:Int)==0)=false:=by simp;omega
  have e2:((x::l).length==0)=false:=by simp
  rw[e,e2];rfl
theorem aCt (l:List D.aAA)(b:D.aAG)(h:l.length≤34359738368∧b.sz≤34359738368):Ew l b=some (dW l b):=by
 unfold Ew dW
 have hb:b.Boxes.length≤34359738368:=by have:=h.2;simp only[D.aAG.sz] at this;omega
 simp only[aG h.1,aG h.2,aG (show b.Boxes.length≤34359738368∧l.length≤34359738368 from⟨hb,h.1⟩),bd_s]
 cases aT l<;>cases iA b l<;>rfl
theorem aRk (s:D.Site)(id m:Int):(lV s id m).sz=s.sz+1:=by
 have e:(s.Accounts.map D.aAF.sz).sum=((s.Accounts.take (oQ id s.Accounts)).map D.aAF.sz).sum+((s.Accounts.drop (oQ id s.Accounts)).map D.aAF.sz).sum:=by rw[←List.sum_append,←List.map_append,List.take_append_drop]
 have el:(s.Accounts.take (oQ id s.Accounts)).length+(s.Accounts.drop (oQ id s.Accounts)).length=s.Accounts.length:=by rw[←List.length_append,List.take_append_drop]
 simp only[lV,D.Site.sz,List.length_append,List.map_append,List.sum_append,List.length_cons,List.length_nil,List.map_cons,List.map_nil,List.sum_cons,List.sum_nil,D.aAF.sz] at e el ⊢
 omega
theorem aYe {l:List D.aAF}{id:Int}{F:(Int→Option Int)→Int→Option Int}(hl:l.length≤34359738368)(hF:∀rec (i:Nat) (hi:i<l.length),F rec (i:Int)=bif decide (l[i].Id<id) then rec ((i+1:Nat):Int) else some (i:Int))(hE:∀rec,F rec (l.length:Int)=some (l.length:Int)):EV.dL FUEL F 0=some (oQ id l:Int):=
 O5 (fun a:D.aAF=>decide (a.Id<id)) (fun i=>some (i:Int)) (fun i=>(i:Int)) hl hF hE
theorem bB6 (id:Int)(l:List D.aAF):oQ id l≤l.length:=Jr
theorem Ul (s:D.Site)(id m:Int)(h:s.sz≤34359738300):vW s id m=some (kU s id m):=by
 unfold vW kU
 have hl:s.Accounts.length≤s.sz:=by simp only[D.Site.sz];omega
 have hk:=bB6 id s.Accounts
 have ha:∀(x y:List D.aAF),x.length+y.length≤34359738400→aX x y:=fun x y h=>by unfold aX;omega
 have hs:s.sz≤34359738368:=by omega
 have h1:=aRk s id m
 rw[aG hs,bd_s,aYe (id:=id) (l:=s.Accounts) (by omega) (fun rec i hi=>by simp only[dZ hi,cond_true,aR hi,bd_s,aK (show-9223372036854775808≤(i:Int)+1 by omega) (show(i:Int)+1≤9223372036854775807 by omega)];rfl) (fun rec=>by simp only[eD,cond_false,bd_s]),bd_s]
 have hh:kJ s.Accounts (oQ id s.Accounts:Int):=⟨by omega,by omega⟩
 have he:(List.take (oQ id s.Accounts) s.Accounts).length+(List.drop (oQ id s.Accounts) s.Accounts).length=s.Accounts.length:=by rw[←List.length_append,List.take_append_drop]
 have ht:(List.take (oQ id s.Accounts) s.Accounts).length≤s.Accounts.length:=by omega
 have hd:(List.drop (oQ id s.Accounts) s.Accounts).length≤s.Accounts.length:=by omega
 rw[Int.toNat_natCast,aG hh,aG hh,aG (ha _ _ (by simp only[List.length_nil];omega)),aG (ha _ _ (by simp only[List.nil_append,List.length_cons,List.length_nil];omega)),aG (ha _ _ (by simp only[List.nil_append,List.length_append,List.length_cons,List.length_nil];omega)),aG hs,bd_s,List.nil_append]
 rw[show(D.Site.mk s.Name (List.take (oQ id s.Accounts) s.Accounts++[D.aAF.mk id m []]++List.drop (oQ id s.Accounts) s.Accounts) s.Book s.Logins)=lV s id m from rfl,aG (show(lV s id m).sz≤34359738368 by omega)]
 cases bL s<;>cases bL (lV s id m)<;>rfl
theorem bEi {α:Type}{x y:List α}(h:x.length≤1000)(h':y.length≤1000):aX x y:=by unfold aX;omega
theorem Mc (seed:Int)(n:Nat):(bX seed n).length=n:=by simp[bX]
theorem o6 (seed:Int)(n:Nat):bX seed (n+1)=bX seed n++[bG (aL seed (n:Int))]:=by simp[bX,List.range_succ]
theorem aYf (seed:Int)(n:Nat):bT (bX seed (n+1)) 0=some (bG (aL seed 0)):=by
 rw[show(0:Int)=((0:Nat):Int) from rfl,aR (by rw[Mc];omega)]
 simp[bX]
theorem aOf (seed:Int)(n:Nat)(h:1≤n):bX seed n=bG (aL seed 0)::(bX seed n).drop 1:=by
 obtain⟨m,rfl⟩:∃m,n=m+1:=⟨n-1,by omega⟩
 simp[bX,List.range_succ_eq_map]
abbrev sT (s:D.Site):ByteArray×List D.aAF×Int×Int×List D.aAM×List Int:=(s.Name,s.Accounts,s.Book.Seed,s.Book.Next,s.Book.Open,s.Logins)
theorem o7 (nm:ByteArray):∀(l:List D.Device) (k:Nat) (d:D.Device) (s:D.Site),mG nm k (l++[d]) s=(fV (mG nm k l s) 1 ((k+l.length:Nat):Int) (fT d.Store nm ((k+l.length:Nat):Int))).1
 |[],k,d,s=>rfl
 |x::l,k,d,s=>by
  rw[List.cons_append]
  show mG nm (k+1) (l++[d]) _=_
  rw[o7 nm l (k+1) d,List.length_cons,show k+1+l.length=k+(l.length+1) by omega];rfl
theorem aYg {nm:ByteArray}{l:List D.Device}{s0:D.Site}(hl:l.length≤3)(hs:s0.sz≤1000){F:(Nat×ByteArray×List D.aAF×Int×Int×List D.aAM×List Int→Option (ByteArray×List D.aAF×Int×Int×List D.aAM×List Int))→Nat×ByteArray×List D.aAF×Int×Int×List D.aAM×List Int→Option (ByteArray×List D.aAF×Int×Int×List D.aAM×List Int)}
  (hF:∀rec (i:Nat) (hi:i<l.length) (s:D.Site),s.sz≤2000→F rec (i,sT s)=rec (i+1,sT (fV s 1 (i:Int) (fT l[i].Store nm (i:Int))).1)) (hE:∀rec s,F rec (l.length,sT s)=some (sT s)):EV.dL FUEL F (0,sT s0)=some (sT (mG nm 0 l s0)):=
 Ma (fun i=>(i,sT (mG nm 0 (l.take i) s0))) l.length (by omega) (fun rec i hi=>by
  have h1:=Sq nm 0 (l.take i) s0
  have h2:(l.take i).length=i:=by rw[List.length_take];omega
  rw[hF rec i hi _ (by omega),List.take_succ_eq_append_getElem hi,o7,h2,Nat.zero_add]) (fun rec=>by rw[hE,List.take_of_length_le (Nat.le_refl _)]) rfl
theorem aRl {α:Type}{p r:List α}{s:α}:bT (p++s::r) ((p.length:Nat):Int)=some s:=by
 rw[aR (by simp)];simp
theorem bB7 {α ι:Type}(e:Nat→ι){p0 l:List α}(f:α→α){F:(ι×List α→Option (List α))→ι×List α→Option (List α)}(hl:l.length≤1000)
  (hF:∀rec (p:List α) (d:α) (r:List α),p.length+1+r.length=p0.length+l.length→d∈l→F rec (e p.length,p++d::r)=rec (e (p.length+1),p++f d::r)) (hE:∀rec (p:List α),p.length=p0.length+l.length→F rec (e (p0.length+l.length),p)=some p):EV.dL FUEL F (e p0.length,p0++l)=some (p0++l.map f):=
 Ma (fun i=>(e (p0.length+i),p0++(l.take i).map f++l.drop i)) l.length (by omega) (fun rec i hi=>by
  have h2:(p0++(l.take i).map f).length=p0.length+i:=by rw[List.length_append,List.length_map,List.length_take];omega
  have h3:(l.drop (i+1)).length=l.length-(i+1):=List.length_drop
  have h4:l.drop i=l[i]::l.drop (i+1):=List.drop_eq_getElem_cons hi
  have:=hF rec (p0++(l.take i).map f) l[i] (l.drop (i+1)) (by omega) (List.getElem_mem hi)
  rw[h2,←h4] at this
  show F rec (e (p0.length+i),p0++(l.take i).map f++l.drop i)=_
  rw[this,List.take_succ_eq_append_getElem hi,List.map_append,List.map_singleton]
  simp only[List.append_assoc,List.singleton_append,Nat.add_assoc]) (fun rec=>by
  rw[List.take_of_length_le (Nat.le_refl _),List.drop_of_length_le (Nat.le_refl _),List.append_nil]
  exact hE rec _ (by rw[List.length_append,List.length_map])) (by simp)
def aHr (n:Nat)(d:D.Device):Nat→D.Device
 |0=>d
 |j+1=>Ac (aA (j:Int)) n (aHr n d j)
theorem aBo (j:Int):(aA j).size≤100:=by unfold aA;cases j==0<;>cases j==1<;>decide
theorem aYh {nm:ByteArray}{n:Nat}{d:D.Device}{r:List D.Device}(hn:n≤3)(hd:d.sz≤100){F:(Nat×List D.Device→Option (List D.Device))→Nat×List D.Device→Option (List D.Device)}
  (hF:∀rec (i:Nat) (x:D.Device),i<n→x.sz≤1000→F rec (i,x::r)=rec (i+1,(fB x nm (i:Int) false).1::r)) (hE:∀rec x,F rec (n,x::r)=some (x::r)):EV.dL FUEL F (0,d::r)=some (Ac nm n d::r):=
 Ma (fun i=>(i,Ac nm i d::r)) n (by omega) (fun rec i hi=>by
  have h1:=Ym nm i d
  rw[hF rec i _ hi (by omega)];rfl) (fun rec=>hE rec _) rfl
theorem aYi {n:Nat}{d:D.Device}{r:List D.Device}{F:(Nat×List D.Device→Option (List D.Device))→Nat×List D.Device→Option (List D.Device)}(hn:n≤3)(hd:d.sz≤10)
  (hF:∀rec (j:Nat) (x:D.Device),j<2→x.sz≤100→F rec (j,x::r)=rec (j+1,Ac (aA (j:Int)) n x::r)) (hE:∀rec x,F rec (2,x::r)=some (x::r)):EV.dL FUEL F (0,d::r)=some (aHr n d 2::r):=
 Ma (fun j=>(j,aHr n d j::r)) 2 (by omega) (fun rec j hj=>by
  have h1:∀j:Nat,(aHr n d j).sz≤d.sz+j*n:=by
   intro j
   induction j with
   |zero=>exact Nat.le_add_right _ _
   |succ j ih=>have:=Ym (aA (j:Int)) n (aHr n d j);show(Ac (aA (j:Int)) n (aHr n d j)).sz≤_;rw[Nat.add_mul];omega
  have h2:=h1 j
  have h3:j*n≤2*3:=Nat.mul_le_mul (by omega) hn
  rw[hF rec j _ hj (by omega)];rfl) (fun rec=>hE rec _) rfl
theorem aTt {seed t:Int}(ht:1≤t∧t≤7){F:(List Int×Int→Option (List Int))→List Int×Int→Option (List Int)}(hF:∀rec (s:List Int) (i:Int),1≤i→i≤8→s.length≤8→F rec (s,i)=bif decide (i<t) then rec (s++[bA seed [307,i]],i+1) else some s):EV.dL FUEL F ([],1)=some (Sm seed t):=
 Ma (fun i=>((List.range i).map fun(k:Nat)=>bA seed [307,(k:Int)+1],(i:Int)+1)) (t-1).toNat (by omega) (fun rec i hi=>by
  rw[hF rec _ _ (by omega) (by omega) (by simp;omega),decide_eq_true (by omega),cond_true,List.range_succ,List.map_append];rfl) (fun rec=>by
  rw[hF rec _ _ (by omega) (by omega) (by simp;omega),decide_eq_false (by omega),cond_false];rfl) rfl
theorem aVv (s:D.Site):D.Site.mk s.Name s.Accounts (D.aAD.mk s.Book.Seed s.Book.Next s.Book.Open) s.Logins=s:=rfl
theorem bG2 (s:D.aAH):D.Device.mk s [] (0:Int) (0:Int) (0:Int) (D.aAE.mk [])=bG s:=rfl
theorem bIl (seed:Int)(i:Nat):D.aAH.mk (1:Int) (i:Int) (bA seed [277,(i:Int)]) (0:Int)=aL seed (i:Int):=rfl
theorem aCu (n k t pin seed:Int):Fg n k t pin seed=some (aZ n k t pin seed):=by
 unfold Fg aZ Dp
 cases h1:bR n 1 3 with
 |false=>rfl
 |true=>
 cases h2:bR k 1 7 with
 |false=>rfl
 |true=>
 cases h3:bR t 1 k with
 |false=>rfl
 |true=>
 cases h4:bR pin 0 9999 with
 |false=>rfl
 |true=>
 cases h5:bE seed with
 |false=>rfl
 |true=>
 have hn:=gW h1;have hk:=gW h2;have ht:=gW h3
 obtain⟨N,rfl⟩:∃N:Nat,n=(N:Int):=⟨n.toNat,by omega⟩
 rw[Int.toNat_natCast]
 have hN:1≤N∧N≤3:=by omega
 have hL:=nJ seed N
 have hB:=aFt seed N
 have hC:=aFu seed N
 simp only[Bool.not_true,cond_false,Bool.and_self,cond_true,bd_s,bG2,bIl]
 rw[Ma (r:=(aO seed N,bX seed N,List.replicate N false)) (fun i=>(aO seed i,i,bX seed i,List.replicate i false)) N (s:=([],0,[],[])) (by omega) (fun rec i hi=>by
  have e2:=aYf seed i
  have e3:=nJ seed i
  have e4:=Mc seed i
  rw[o6] at e2
  simp only[dZ hi,cond_true,aG (show aX (bX seed i) [bG (aL seed (i:Int))] from bEi (by omega) (by simp)),aG (show aX (List.replicate i false) [false] from bEi (by rw[List.length_replicate];omega) (by simp)),e2,bd_s,aG (show(aO seed i).length≤34359738300 by omega),o6,List.replicate_succ']
  rfl) (fun rec=>by simp only[eD,cond_false]) rfl]
 have hE:(aW (aO seed N) (bP seed 0) 1000).1=gB seed N:=rfl
 simp only[bd_s,aG (show(aO seed N).length≤34359738300 by omega),hE,aG (show(aO seed N).length≤34359738368∧(gB seed N).sz≤34359738368 from⟨by omega,by omega⟩)]
 have hD:=Mc seed N
 rw[Ma (r:=oU (bX seed N) seed) (fun j=>((oU (bX seed N) seed).take j,j)) 2 (s:=([],0)) (by omega) (fun rec j hj=>by
  have hs:=aBo (j:Int)
  have h6:=aBe (aA (j:Int)) (bA seed [281,(j:Int)])
  have h7:=aFv (fD (aA (j:Int)) (bA seed [281,(j:Int)])) 1 3
  simp only[decide_eq_true (show(j:Int)<2 by omega),cond_true,aG (show[281,(j:Int)].length≤34359738300 by simp),bd_s,aG (show(aA (j:Int)).size≤34359738368 by omega),aG (show(fD (aA (j:Int)) (bA seed [281,(j:Int)])).sz≤34359738300 by omega)]
  rw[aYg (nm:=aA (j:Int)) (l:=bX seed N) (s0:=(kU (fD (aA (j:Int)) (bA seed [281,(j:Int)])) 1 3).1) (by omega) (by omega) (fun rec i hi s hsz=>by
   simp only[dZ hi,cond_true,aR hi,bd_s,aG (show(aA (j:Int)).size≤34359738300 by omega),aVv,aG (show s.sz≤34359738300 by omega)]) (fun rec s=>by simp only[eD,cond_false])]
  have e1:((oU (bX seed N) seed).take j).length≤1000:=by rw[List.length_take];omega
  have ha:∀x:D.Site,aX ((oU (bX seed N) seed).take j) [x]:=fun x=>bEi e1 (by simp)
  simp only[bd_s,aVv,aG (ha _)]
  have hj':j=0∨j=1:=by omega
  rcases hj' with rfl|rfl<;>rfl) (fun rec=>by rfl) rfl]
 simp only[bd_s]
 have hd1:∀d∈bX seed N,d.sz=0:=fun d hd=>by
  simp only[bX,List.mem_map] at hd
  obtain⟨i,_,rfl⟩:=hd;rfl
 rw[show(0,bX seed N)=((fun i:Nat=>i) ([]:List D.Device).length,([]:List D.Device)++bX seed N) from rfl,bB7 (fun i:Nat=>i) (p0:=[]) (l:=bX seed N) (rU seed N) (by omega) (fun rec p d r hp hd=>by
  have h0:=hd1 d hd
  simp only[List.length_nil] at hp
  simp only[dZ (show p.length<N by omega),cond_true,aRl,bd_s,aG (show d.sz≤34359738368∧(aO seed N).length≤34359738368 from⟨by omega,by omega⟩),Int.toNat_natCast,set_mid rfl,List.append_assoc,List.singleton_append];rfl) (fun rec p hp=>by
  simp only[List.length_nil,hD,Nat.zero_add,eD,cond_false])]
 obtain⟨R,hR⟩:∃R,R=((bX seed N).drop 1).map (rU seed N):=⟨_,rfl⟩
 have hm:(bX seed N).map (rU seed N)=rU seed N (bG (aL seed 0))::R:=by
  have:=congrArg (List.map (rU seed N)) (aOf seed N hN.1)
  rw[this,hR];rfl
 have hRl:R.length=N-1:=by rw[hR,List.length_map,List.length_drop,hD]
 have hRz:∀d∈R,d.sz≤10:=fun d hd=>by
  rw[hR,List.mem_map] at hd
  obtain⟨x,hx,rfl⟩:=hd
  have h0:=hd1 x (List.mem_of_mem_drop hx)
  have:=aD1 seed N x
  omega
 have hA:=aD1 seed N (bG (aL seed 0))
 rw[O7] at hA
 have hq:∀x:D.Device,bT (x::R) 0=some x:=fun x=>rfl
 rw[List.nil_append,hm,bd_s,aYi (n:=N) (d:=rU seed N (bG (aL seed 0))) (r:=R) hN.2 (by omega) (fun rec j x hj hx=>by
  simp only[decide_eq_true (show(j:Int)<2 by omega),cond_true]
  rw[aYh (nm:=aA (j:Int)) (n:=N) (d:=x) (r:=R) hN.2 hx (fun rec i x hi hx=>by
   have hs:=aBo (j:Int)
   simp only[dZ hi,cond_true,hq,bd_s,aG (show x.sz≤34359738360∧(aA (j:Int)).size≤34359738300 from⟨by omega,by omega⟩)];rfl) (fun rec x=>by simp only[eD,cond_false])]
  simp only[bd_s]) (fun rec x=>by rfl)]
 have hf:aHr N (rU seed N (bG (aL seed 0))) 2=jW seed N:=rfl
 have hw:dF (jW seed N)=nwW seed N:=rfl
 have hc:(cZ (dW (aO seed N) (gB seed N)).1 (nwW seed N).2.1).1=gH seed N:=rfl
 have hF:=aFs seed N
 have hW:=zZ (jW seed N)
 rw[hw] at hW
 have hNC:=aBd (aO seed N) (gB seed N)
 have hset:∀x y:D.Device,(x::R).set (0:Int).toNat y=y::R:=fun _ _=>rfl
 simp only[bd_s,hf,hq,aG (show(jW seed N).sz≤34359738368 by omega),hw,aG (show(dW (aO seed N) (gB seed N)).1.sz≤34359738300∧(nwW seed N).2.1.sz≤34359738300 from⟨by omega,by have:=hW.2;simp only[D.aAC.sz];omega⟩),hc,hset]
 rw[show((1:Int),(nwW seed N).1::R)=((fun i:Nat=>(i:Int)) ([(nwW seed N).1]:List D.Device).length,[(nwW seed N).1]++R) from rfl,bB7 (fun i:Nat=>(i:Int)) (p0:=[(nwW seed N).1]) (l:=R) (fun d=>(cK d (gH seed N).Log (gH seed N).Boxes (fG (gH seed N) 0).1).1) (by omega) (fun rec p d r hp hd=>by
  have h0:=hRz d hd
  simp only[List.length_cons,List.length_nil] at hp
  simp only[dZ (show p.length<N by omega),cond_true,aRl,bd_s,aG (show d.sz≤34359738100∧(gH seed N).sz≤34359738100 from⟨by omega,by omega⟩),Int.toNat_natCast,set_mid rfl,List.append_assoc,List.singleton_append,aK (show-9223372036854775808≤(p.length:Int)+1 by omega) (show(p.length:Int)+1≤9223372036854775807 by omega)];rfl) (fun rec p hp=>by
  simp only[show([(nwW seed N).1]:List D.Device).length+R.length=N by simp only[List.length_cons,List.length_nil];omega,eD,cond_false])]
 have hS:[(nwW seed N).1]++R.map (fun d=>(cK d (gH seed N).Log (gH seed N).Boxes (fG (gH seed N) 0).1).1)=gK seed N:=by
  rw[hR,List.map_map]
  show(nwW seed N).1::_=(nwW seed N).1::_
  congr 1
  exact List.map_congr_left fun d _=>bDm seed N d
 rw[hS]
 simp only[bd_s]
 rw[aTt (seed:=seed) (t:=t) ⟨by omega,by omega⟩ (fun rec s i h0 h1 h2=>by
  have ha:∀x:Int,aX s [x]:=fun x=>bEi (by omega) (by simp)
  simp only[aG (show([307,i]:List Int).length≤34359738300 by simp),bd_s,aG (ha _),aK (show-9223372036854775808≤i+1 by omega) (show i+1≤9223372036854775807 by omega)])]
 have hcl:(Sm seed t).length≤34359738368:=by simp only[Sm,List.length_map,List.length_range];omega
 simp only[bd_s,aG (show([283]:List Int).length≤34359738300 by simp),aG (show([293]:List Int).length≤34359738300 by simp),aG (show(1018:Int)≠0 by decide),aG hcl]
 rfl
end
end Go.VK
