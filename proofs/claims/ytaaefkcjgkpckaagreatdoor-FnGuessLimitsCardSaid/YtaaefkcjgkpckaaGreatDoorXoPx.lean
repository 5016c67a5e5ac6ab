import Derived.Test.YtaaefkcjgkpckaaGreatDoorXoPw
import Derived.Test.YtaaefkcjgkpckaaGreatDoorXoQ
/- Printed by wip/tools: models, walks, proofs. -/
set_option linter.unusedVariables false
set_option linter.unusedSimpArgs false
set_option maxRecDepth 100000
set_option maxHeartbeats 4000000
namespace Go.VK
open Go.RowKit Go.Proofs
noncomputable section
open EV (bM)
theorem Kr {σ τ:Type}{F:(σ→Option τ)→σ→Option τ}(S:Nat→σ)(N:Nat){r:τ}(hN:N≤1000000)(hF:∀rec i,i<N→F rec (S i)=rec (S (i+1)))(hE:∀rec,F rec (S N)=some r){s:σ}(hs:s=S 0):EV.bM FUEL F s=some r:=by
 subst hs
 have go:∀(k i n:Nat),i+k=N→k<n→EV.bM n F (S i)=some r:=by
  intro k
  induction k with
  |zero=>
   intro i n h hn
   obtain⟨m,rfl⟩:∃m,n=m+1:=⟨n-1,by omega⟩
   rw[jJ,show i=N by omega];exact hE _
  |succ k ih=>
   intro i n h hn
   obtain⟨m,rfl⟩:∃m,n=m+1:=⟨n-1,by omega⟩
   rw[jJ,hF _ i (by omega)];exact ih (i+1) m (by omega) (by omega)
 exact go N 0 FUEL (by omega) (by have:=gU;omega)
theorem Zu {m:Int}{F:(Int×Int×Int→Option Int)→Int×Int×Int→Option Int}(hF:∀rec (b n s:Int),0≤n→n<9223372036854775807→F rec (b,n,s)=bif decide (n>0) then rec ((IntKind.i64.wrap (b*b)).tmod m,n/2,bif n%2==1 then(IntKind.i64.wrap (s*b)).tmod m else s) else some s):
  ∀(k:Nat) (b n s:Int) (f:Nat),k<f→0≤n→n<2^k→k≤62→bM f F (b,n,s)=some (wB m k b n s)
 |0,b,n,s,f+1,hf,h0,h1,hk=>by
  have:n=0:=by simp at h1;omega
  subst this;rw[jJ,hF _ _ _ _ (by omega) (by omega)];rfl
 |k+1,b,n,s,f+1,hf,h0,h1,hk=>by
  have h2:(2:Int)^(k+1)=2*2^k:=by rw[Int.pow_succ];omega
  have h3:n<2^62:=Int.lt_of_lt_of_le h1 (by exact_mod_cast Nat.pow_le_pow_right (by omega) hk)
  rw[jJ,hF _ _ _ _ h0 (by omega)]
  unfold wB
  by_cases hn:n>0
  ·rw[decide_eq_true hn,cond_true,if_pos hn]
   exact Zu hF k _ (n/2) _ f (by omega) (by omega) (by omega) (by omega)
  ·rw[decide_eq_false hn,cond_false,if_neg hn]
theorem bB4:((2039:Int)≠0)=True:=by simp
theorem Zv (b n:Int)(h:0≤n∧n<2048):nP b n=some (wB 2039 11 b n 1):=by
 unfold nP
 rw[Zu (m:=2039) (fun rec b n s h0 h1=>by simp only[show tC .i64 n 1=n%2 from and_one h0 (by omega),show Rj .i64 n 1=n/2 from aU5 h0,bB4,gd_T,jC,bd_s,aA (show(0:Int)≤1 by decide)]) 11 b n 1 FUEL (by have:=gU;omega) h.1 (by have:=h.2;omega) (by omega)];rfl
theorem Rc (b n:Int)(h:0≤n∧n<2048)(hb:0≤b∧b<2039):eT b n 2039=some (wB 2039 11 b n 1):=by
 unfold eT
 rw[show b.tmod 2039=b by rw[Int.tmod_eq_emod_of_nonneg hb.1];omega,show(1:Int).tmod 2039=1 by decide,Zu (m:=2039) (fun rec b n s h0 h1=>by
  have h4:((2:Int)≠0)=True:=by simp
  simp only[show n.tmod 2=n%2 from Int.tmod_eq_emod_of_nonneg h0,show n.tdiv 2=n/2 from Int.tdiv_eq_ediv_of_nonneg h0,show IntKind.i64.wrap (n/2)=n/2 from aG (by omega) (by omega),bB4,h4,gd_T,jC,bd_s]) 11 b n 1 FUEL (by have:=gU;omega) h.1 (by have:=h.2;omega) (by omega)]
 simp only[bB4,gd_T,bd_s]
theorem Ga (x:Int):oL x=some (fB x):=by
 unfold oL fB
 rw[Zv _ _ (by decide)]
 cases aW x 1 2038<;>rfl
theorem Gb (x:Int):oP x=some (fB x):=by
 unfold oP fB
 cases h:aW x 1 2038 with
 |false=>rfl
 |true=>
  have:=gM h
  rw[Rc _ _ (by decide) ⟨by omega,by omega⟩];rfl
theorem aDn (g n:Int):En g n=some (cO g n):=by
 unfold En cO
 have hr:=iR (p:=n) (q:=1019) (by decide)
 rw[Zv _ _ ⟨hr.1,by omega⟩]
 cases fB g<;>rfl
theorem aDo (g n:Int):Ew g n=some (cO g n):=by
 unfold Ew cO
 have hr:=iR (p:=n) (q:=1019) (by decide)
 cases h:fB g with
 |false=>rfl
 |true=>
  have h':=h
  unfold fB at h'
  rw[Bool.and_eq_true] at h'
  have:=gM h'.1
  rw[Rc _ _ ⟨hr.1,by omega⟩ ⟨by omega,by omega⟩];rfl
theorem Tu (a b:Int):vD a b=some (nL a b):=by
 unfold vD
 rw[aA (by simp),bd_s,aA (by decide),aA (by decide)];rfl
theorem Tv (a b:Int):vL a b=some (nL a b):=by
 unfold vL
 rw[aA (by simp),bd_s,aA (by decide),aA (by decide)];rfl
theorem Ol (a b c:Int):Nu a b c=some (wQ a b c):=rfl
theorem Y9 (a b:Int):Ah a b=some (jT a b):=by
 unfold Ah jT
 rw[aA (by simp),bd_s]
 have h:=(jR a [157,b]).1
 generalize aX a [157,b]=n at h ⊢
 unfold Rx gG
 by_cases h1:n>1
 ·rw[decide_eq_true h1,show(n==0)=false by simp;omega];rfl
 ·rw[decide_eq_false h1]
  by_cases h2:n=0
  ·subst h2;rfl
  ·have:n=1:=by omega
   subst this;rfl
theorem Z0 (a b:Int):Ba a b=some (jT a b):=by
 unfold Ba
 rw[aA (by simp)];rfl
theorem Zw (a b:Int):xH a b=some (mI a b):=by
 unfold xH
 rw[aA (by simp)];rfl
theorem Zx (a b:Int):xO a b=some (mI a b):=by
 unfold xO
 rw[aA (by simp)];rfl
theorem aIa (a b:Int):Jy a b=some (Eb a b):=by
 unfold Jy Eb
 rw[aA (by simp)]
 cases aW a 0 2147483647<;>rfl
theorem aIb (a b:Int):Ke a b=some (Eb a b):=by
 unfold Ke Eb
 rw[aA (by simp)]
 cases aW a 0 2147483647<;>rfl
theorem Z4 (k:D.aAQ):U6 k=some (Yf k):=rfl
theorem Tw (w:D.World):vP w=some (Cn w):=by
 unfold vP
 rw[aA (by simp)];rfl
theorem aTy {c n:Int}{l:List Int}(hn:1≤n∧n≤7)(hl:l.length≤34359738368){F:(List D.aAM×Int→Option (List D.aAM))→List D.aAM×Int→Option (List D.aAM)}(hF:∀rec (s:List D.aAM) (i:Int),1≤i→i≤8→s.length≤8→F rec (s,i)=bif decide (i≤n) then rec (s++[⟨i,iD c l i⟩],i+1) else some s):EV.bM FUEL F ([],1)=some ((List.range n.toNat).map fun(i:Nat)=>(⟨(i:Int)+1,iD c l ((i:Int)+1)⟩:D.aAM)):=
 Kr (fun i=>((List.range i).map fun(i:Nat)=>(⟨(i:Int)+1,iD c l ((i:Int)+1)⟩:D.aAM),(i:Int)+1)) n.toNat (by omega) (fun rec i hi=>by
  rw[hF rec _ _ (by omega) (by omega) (by simp;omega),decide_eq_true (by omega),cond_true,List.range_succ,List.map_append];rfl) (fun rec=>by
  rw[hF rec _ _ (by omega) (by omega) (by simp;omega),decide_eq_false (by omega),cond_false]) rfl
theorem Tx (c:Int)(l:List Int)(n:Int)(h:l.length≤34359738368):vC c l n=some (uK c l n):=by
 unfold vC uK
 cases h1:aW n 1 7 with
 |false=>rfl
 |true=>
  have hn:=gM h1
  rw[aTy (c:=c) hn h (fun rec s i h0 h1 h2=>by
   simp only[aA (show(0:Int)≤i∧i≤1000∧l.length≤34359738368 from⟨by omega,by omega,h⟩),bd_s,aA (show aO s [D.aAM.mk i (iD c l i)] by unfold aO;simp;omega),aG (show-9223372036854775808≤i+1 by omega) (show i+1≤9223372036854775807 by omega)])]
  by_cases h2:(l.length:Int)<n
  ·rw[decide_eq_true h2,decide_eq_false (show ¬(l.length:Int)≥n by omega)];rfl
  ·rw[decide_eq_false h2,decide_eq_true (show(l.length:Int)≥n by omega)];rfl
theorem Z5 (pin salt key sec:Int)(cs:List Int)(n lim:Int)(h:cs.length≤34359738368):Ai pin salt key sec cs n lim=some (Cu pin salt key sec cs n lim):=by
 unfold Ai Cu Yg
 simp only[aA h,bd_s]
 have hl:=aMs sec cs n
 generalize uK sec cs n=l at hl ⊢
 cases aW pin 0 9999 with
 |false=>rfl
 |true=>
 cases aW salt 0 1000000 with
 |false=>rfl
 |true=>
 cases bJ key with
 |false=>rfl
 |true=>
 cases aZ sec 1019==0 with
 |true=>rfl
 |false=>
 cases aW lim 1 10 with
 |false=>rfl
 |true=>
 rw[bG0 (l:=l) (fun s=>Yf ⟨s,0,0,lim⟩) (by omega) (fun rec i s hi hs=>by
  have ha:∀x:D.aAA,aO s [x]:=fun x=>by unfold aO;simp;omega
  simp only[bU hi,cond_true,aH hi,bd_s,aA (ha _)];rfl) (fun rec s=>by simp only[bX,cond_false])]
 cases l with
 |nil=>rfl
 |cons x l=>
  have e:(((x::l).length:Int)==0)=false:=by simp;omega
  have e2:((x::l).length==0)=false:=by simp
  rw[e,e2];rfl
theorem aDp (l:List D.aAB)(b:D.aAD)(h:l.length≤34359738368∧b.sz≤34359738368):Ee l b=some (dK l b):=by
 unfold Ee dK
 have hb:b.Boxes.length≤34359738368:=by have:=h.2;simp only[D.aAD.sz] at this;omega
 simp only[aA h.1,aA h.2,aA (show b.Boxes.length≤34359738368∧l.length≤34359738368 from⟨hb,h.1⟩),bd_s]
 cases aT l<;>cases iO b l<;>rfl
theorem aRu (s:D.Site)(id m:Int):(mD s id m).sz=s.sz+1:=by
 have e:(s.Accounts.map D.aAG.sz).sum=((s.Accounts.take (nM id s.Accounts)).map D.aAG.sz).sum+((s.Accounts.drop (nM id s.Accounts)).map D.aAG.sz).sum:=by rw[←List.sum_append,←List.map_append,List.take_append_drop]
 have el:(s.Accounts.take (nM id s.Accounts)).length+(s.Accounts.drop (nM id s.Accounts)).length=s.Accounts.length:=by rw[←List.length_append,List.take_append_drop]
 simp only[mD,D.Site.sz,List.length_append,List.map_append,List.sum_append,List.length_cons,List.length_nil,List.map_cons,List.map_nil,List.sum_cons,List.sum_nil,D.aAG.sz] at e el ⊢
 omega
theorem aYe {l:List D.aAG}{id:Int}{F:(Int→Option Int)→Int→Option Int}(hl:l.length≤34359738368)(hF:∀rec (i:Nat) (hi:i<l.length),F rec (i:Int)=bif decide (l[i].Id<id) then rec ((i+1:Nat):Int) else some (i:Int))(hE:∀rec,F rec (l.length:Int)=some (l.length:Int)):EV.bM FUEL F 0=some (nM id l:Int):=
 R9 (fun a:D.aAG=>decide (a.Id<id)) (fun i=>some (i:Int)) (fun i=>(i:Int)) hl hF hE
theorem bB5 (id:Int)(l:List D.aAG):nM id l≤l.length:=Ir
theorem Ty (s:D.Site)(id m:Int)(h:s.sz≤34359738300):uT s id m=some (kT s id m):=by
 unfold uT kT
 have hl:s.Accounts.length≤s.sz:=by simp only[D.Site.sz];omega
 have hk:=bB5 id s.Accounts
 have ha:∀(x y:List D.aAG),x.length+y.length≤34359738400→aO x y:=fun x y h=>by unfold aO;omega
 have hs:s.sz≤34359738368:=by omega
 have h1:=aRu s id m
 rw[aA hs,bd_s,aYe (id:=id) (l:=s.Accounts) (by omega) (fun rec i hi=>by simp only[bU hi,cond_true,aH hi,bd_s,aG (show-9223372036854775808≤(i:Int)+1 by omega) (show(i:Int)+1≤9223372036854775807 by omega)];rfl) (fun rec=>by simp only[bX,cond_false,bd_s]),bd_s]
 have hh:jG s.Accounts (nM id s.Accounts:Int):=⟨by omega,by omega⟩
 have he:(List.take (nM id s.Accounts) s.Accounts).length+(List.drop (nM id s.Accounts) s.Accounts).length=s.Accounts.length:=by rw[←List.length_append,List.take_append_drop]
 have ht:(List.take (nM id s.Accounts) s.Accounts).length≤s.Accounts.length:=by omega
 have hd:(List.drop (nM id s.Accounts) s.Accounts).length≤s.Accounts.length:=by omega
 rw[Int.toNat_natCast,aA hh,aA hh,aA (ha _ _ (by simp only[List.length_nil];omega)),aA (ha _ _ (by simp only[List.nil_append,List.length_cons,List.length_nil];omega)),aA (ha _ _ (by simp only[List.nil_append,List.length_append,List.length_cons,List.length_nil];omega)),aA hs,bd_s,List.nil_append]
 rw[show(D.Site.mk s.Name (List.take (nM id s.Accounts) s.Accounts++[D.aAG.mk id m []]++List.drop (nM id s.Accounts) s.Accounts) s.Book s.Logins)=mD s id m from rfl,aA (show(mD s id m).sz≤34359738368 by omega)]
 cases dQ s<;>cases dQ (mD s id m)<;>rfl
theorem bEf {α:Type}{x y:List α}(h:x.length≤1000)(h':y.length≤1000):aO x y:=by unfold aO;omega
theorem Kt (seed:Int)(n:Nat):(bO seed n).length=n:=by simp[bO]
theorem Zy (seed:Int)(n:Nat):bO seed (n+1)=bO seed n++[bQ (aJ seed (n:Int))]:=by simp[bO,List.range_succ]
theorem aYf (seed:Int)(n:Nat):bA (bO seed (n+1)) 0=some (bQ (aJ seed 0)):=by
 rw[show(0:Int)=((0:Nat):Int) from rfl,aH (by rw[Kt];omega)]
 simp[bO]
theorem aO2 (seed:Int)(n:Nat)(h:1≤n):bO seed n=bQ (aJ seed 0)::(bO seed n).drop 1:=by
 obtain⟨m,rfl⟩:∃m,n=m+1:=⟨n-1,by omega⟩
 simp[bO,List.range_succ_eq_map]
abbrev sT (s:D.Site):ByteArray×List D.aAG×Int×Int×List D.aAO×List Int:=(s.Name,s.Accounts,s.Book.Seed,s.Book.Next,s.Book.Open,s.Logins)
theorem Zz (nm:ByteArray):∀(l:List D.Device) (k:Nat) (d:D.Device) (s:D.Site),qH nm k (l++[d]) s=(iA (qH nm k l s) 1 ((k+l.length:Nat):Int) (fF d.Store nm ((k+l.length:Nat):Int))).1
 |[],k,d,s=>rfl
 |x::l,k,d,s=>by
  rw[List.cons_append]
  show qH nm (k+1) (l++[d]) _=_
  rw[Zz nm l (k+1) d,List.length_cons,show k+1+l.length=k+(l.length+1) by omega];rfl
theorem aYg {nm:ByteArray}{l:List D.Device}{s0:D.Site}(hl:l.length≤3)(hs:s0.sz≤1000){F:(Nat×ByteArray×List D.aAG×Int×Int×List D.aAO×List Int→Option (ByteArray×List D.aAG×Int×Int×List D.aAO×List Int))→Nat×ByteArray×List D.aAG×Int×Int×List D.aAO×List Int→Option (ByteArray×List D.aAG×Int×Int×List D.aAO×List Int)}
  (hF:∀rec (i:Nat) (hi:i<l.length) (s:D.Site),s.sz≤2000→F rec (i,sT s)=rec (i+1,sT (iA s 1 (i:Int) (fF l[i].Store nm (i:Int))).1)) (hE:∀rec s,F rec (l.length,sT s)=some (sT s)):EV.bM FUEL F (0,sT s0)=some (sT (qH nm 0 l s0)):=
 Kr (fun i=>(i,sT (qH nm 0 (l.take i) s0))) l.length (by omega) (fun rec i hi=>by
  have h1:=Sd nm 0 (l.take i) s0
  have h2:(l.take i).length=i:=by rw[List.length_take];omega
  rw[hF rec i hi _ (by omega),List.take_succ_eq_append_getElem hi,Zz,h2,Nat.zero_add]) (fun rec=>by rw[hE,List.take_of_length_le (Nat.le_refl _)]) rfl
theorem aRv {α:Type}{p r:List α}{s:α}:bA (p++s::r) ((p.length:Nat):Int)=some s:=by
 rw[aH (by simp)];simp
theorem bB6 {α ι:Type}(e:Nat→ι){p0 l:List α}(f:α→α){F:(ι×List α→Option (List α))→ι×List α→Option (List α)}(hl:l.length≤1000)
  (hF:∀rec (p:List α) (d:α) (r:List α),p.length+1+r.length=p0.length+l.length→d∈l→F rec (e p.length,p++d::r)=rec (e (p.length+1),p++f d::r)) (hE:∀rec (p:List α),p.length=p0.length+l.length→F rec (e (p0.length+l.length),p)=some p):EV.bM FUEL F (e p0.length,p0++l)=some (p0++l.map f):=
 Kr (fun i=>(e (p0.length+i),p0++(l.take i).map f++l.drop i)) l.length (by omega) (fun rec i hi=>by
  have h2:(p0++(l.take i).map f).length=p0.length+i:=by rw[List.length_append,List.length_map,List.length_take];omega
  have h3:(l.drop (i+1)).length=l.length-(i+1):=List.length_drop
  have h4:l.drop i=l[i]::l.drop (i+1):=List.drop_eq_getElem_cons hi
  have:=hF rec (p0++(l.take i).map f) l[i] (l.drop (i+1)) (by omega) (List.getElem_mem hi)
  rw[h2,←h4] at this
  show F rec (e (p0.length+i),p0++(l.take i).map f++l.drop i)=_
  rw[this,List.take_succ_eq_append_getElem hi,List.map_append,List.map_singleton]
  simp only[List.append_assoc,List.singleton_append,Nat.add_assoc]) (fun rec=>by
  rw[List.take_of_length_le (Nat.le_refl _),List.drop_of_length_le (Nat.le_refl _),List.append_nil]
  exact hE rec _ (by rw[List.length_append,List.length_map])) (by simp)
def aIc (n:Nat)(d:D.Device):Nat→D.Device
 |0=>d
 |j+1=>zO (aD (j:Int)) n (aIc n d j)
theorem aCn (j:Int):(aD j).size≤100:=by unfold aD;cases j==0<;>cases j==1<;>decide
theorem aYh {nm:ByteArray}{n:Nat}{d:D.Device}{r:List D.Device}(hn:n≤3)(hd:d.sz≤100){F:(Nat×List D.Device→Option (List D.Device))→Nat×List D.Device→Option (List D.Device)}
  (hF:∀rec (i:Nat) (x:D.Device),i<n→x.sz≤1000→F rec (i,x::r)=rec (i+1,(gZ x nm (i:Int) false).1::r)) (hE:∀rec x,F rec (n,x::r)=some (x::r)):EV.bM FUEL F (0,d::r)=some (zO nm n d::r):=
 Kr (fun i=>(i,zO nm i d::r)) n (by omega) (fun rec i hi=>by
  have h1:=Yh nm i d
  rw[hF rec i _ hi (by omega)];rfl) (fun rec=>hE rec _) rfl
theorem aYi {n:Nat}{d:D.Device}{r:List D.Device}{F:(Nat×List D.Device→Option (List D.Device))→Nat×List D.Device→Option (List D.Device)}(hn:n≤3)(hd:d.sz≤10)
  (hF:∀rec (j:Nat) (x:D.Device),j<2→x.sz≤100→F rec (j,x::r)=rec (j+1,zO (aD (j:Int)) n x::r)) (hE:∀rec x,F rec (2,x::r)=some (x::r)):EV.bM FUEL F (0,d::r)=some (aIc n d 2::r):=
 Kr (fun j=>(j,aIc n d j::r)) 2 (by omega) (fun rec j hj=>by
  have h1:∀j:Nat,(aIc n d j).sz≤d.sz+j*n:=by
   intro j
   induction j with
   |zero=>exact Nat.le_add_right _ _
   |succ j ih=>have:=Yh (aD (j:Int)) n (aIc n d j);show(zO (aD (j:Int)) n (aIc n d j)).sz≤_;rw[Nat.add_mul];omega
  have h2:=h1 j
  have h3:j*n≤2*3:=Nat.mul_le_mul (by omega) hn
  rw[hF rec j _ hj (by omega)];rfl) (fun rec=>hE rec _) rfl
theorem aTz {seed t:Int}(ht:1≤t∧t≤7){F:(List Int×Int→Option (List Int))→List Int×Int→Option (List Int)}(hF:∀rec (s:List Int) (i:Int),1≤i→i≤8→s.length≤8→F rec (s,i)=bif decide (i<t) then rec (s++[aK seed [307,i]],i+1) else some s):EV.bM FUEL F ([],1)=some (lU seed t):=
 Kr (fun i=>((List.range i).map fun(k:Nat)=>aK seed [307,(k:Int)+1],(i:Int)+1)) (t-1).toNat (by omega) (fun rec i hi=>by
  rw[hF rec _ _ (by omega) (by omega) (by simp;omega),decide_eq_true (by omega),cond_true,List.range_succ,List.map_append];rfl) (fun rec=>by
  rw[hF rec _ _ (by omega) (by omega) (by simp;omega),decide_eq_false (by omega),cond_false];rfl) rfl
theorem aV3 (s:D.Site):D.Site.mk s.Name s.Accounts (D.aAF.mk s.Book.Seed s.Book.Next s.Book.Open) s.Logins=s:=rfl
theorem bHm (s:D.aAI):D.Device.mk s [] (0:Int) (0:Int) (0:Int) (D.aAE.mk [])=bQ s:=rfl
theorem bI4 (seed:Int)(i:Nat):D.aAI.mk (1:Int) (i:Int) (aK seed [277,(i:Int)]) (0:Int)=aJ seed (i:Int):=rfl
theorem aDq (n k t pin seed:Int):Eo n k t pin seed=some (aV n k t pin seed):=by
 unfold Eo aV aGq
 cases h1:aW n 1 3 with
 |false=>rfl
 |true=>
 cases h2:aW k 1 7 with
 |false=>rfl
 |true=>
 cases h3:aW t 1 k with
 |false=>rfl
 |true=>
 cases h4:aW pin 0 9999 with
 |false=>rfl
 |true=>
 cases h5:bJ seed with
 |false=>rfl
 |true=>
 have hn:=gM h1;have hk:=gM h2;have ht:=gM h3
 obtain⟨N,rfl⟩:∃N:Nat,n=(N:Int):=⟨n.toNat,by omega⟩
 rw[Int.toNat_natCast]
 have hN:1≤N∧N≤3:=by omega
 have hL:=mP seed N
 have hB:=aGs seed N
 have hC:=aGt seed N
 simp only[Bool.not_true,cond_false,Bool.and_self,cond_true,bd_s,bHm,bI4]
 rw[Kr (r:=(aM seed N,bO seed N,List.replicate N false)) (fun i=>(aM seed i,i,bO seed i,List.replicate i false)) N (s:=([],0,[],[])) (by omega) (fun rec i hi=>by
  have e2:=aYf seed i
  have e3:=mP seed i
  have e4:=Kt seed i
  rw[Zy] at e2
  simp only[bU hi,cond_true,aA (show aO (bO seed i) [bQ (aJ seed (i:Int))] from bEf (by omega) (by simp)),aA (show aO (List.replicate i false) [false] from bEf (by rw[List.length_replicate];omega) (by simp)),e2,bd_s,aA (show(aM seed i).length≤34359738300 by omega),Zy,List.replicate_succ']
  rfl) (fun rec=>by simp only[bX,cond_false]) rfl]
 have hE:(bH (aM seed N) (bI seed 0) 1000).1=dY seed N:=rfl
 simp only[bd_s,aA (show(aM seed N).length≤34359738300 by omega),hE,aA (show(aM seed N).length≤34359738368∧(dY seed N).sz≤34359738368 from⟨by omega,by omega⟩)]
 have hD:=Kt seed N
 rw[Kr (r:=uL (bO seed N) seed) (fun j=>((uL (bO seed N) seed).take j,j)) 2 (s:=([],0)) (by omega) (fun rec j hj=>by
  have hs:=aCn (j:Int)
  have h6:=aCf (aD (j:Int)) (aK seed [281,(j:Int)])
  have h7:=aGu (eH (aD (j:Int)) (aK seed [281,(j:Int)])) 1 3
  simp only[decide_eq_true (show(j:Int)<2 by omega),cond_true,aA (show[281,(j:Int)].length≤34359738300 by simp),bd_s,aA (show(aD (j:Int)).size≤34359738368 by omega),aA (show(eH (aD (j:Int)) (aK seed [281,(j:Int)])).sz≤34359738300 by omega)]
  rw[aYg (nm:=aD (j:Int)) (l:=bO seed N) (s0:=(kT (eH (aD (j:Int)) (aK seed [281,(j:Int)])) 1 3).1) (by omega) (by omega) (fun rec i hi s hsz=>by
   simp only[bU hi,cond_true,aH hi,bd_s,aA (show(aD (j:Int)).size≤34359738300 by omega),aV3,aA (show s.sz≤34359738300 by omega)]) (fun rec s=>by simp only[bX,cond_false])]
  have e1:((uL (bO seed N) seed).take j).length≤1000:=by rw[List.length_take];omega
  have ha:∀x:D.Site,aO ((uL (bO seed N) seed).take j) [x]:=fun x=>bEf e1 (by simp)
  simp only[bd_s,aV3,aA (ha _)]
  have hj':j=0∨j=1:=by omega
  rcases hj' with rfl|rfl<;>rfl) (fun rec=>by rfl) rfl]
 simp only[bd_s]
 have hd1:∀d∈bO seed N,d.sz=0:=fun d hd=>by
  simp only[bO,List.mem_map] at hd
  obtain⟨i,_,rfl⟩:=hd;rfl
 rw[show(0,bO seed N)=((fun i:Nat=>i) ([]:List D.Device).length,([]:List D.Device)++bO seed N) from rfl,bB6 (fun i:Nat=>i) (p0:=[]) (l:=bO seed N) (qU seed N) (by omega) (fun rec p d r hp hd=>by
  have h0:=hd1 d hd
  simp only[List.length_nil] at hp
  simp only[bU (show p.length<N by omega),cond_true,aRv,bd_s,aA (show d.sz≤34359738368∧(aM seed N).length≤34359738368 from⟨by omega,by omega⟩),Int.toNat_natCast,set_mid rfl,List.append_assoc,List.singleton_append];rfl) (fun rec p hp=>by
  simp only[List.length_nil,hD,Nat.zero_add,bX,cond_false])]
 obtain⟨R,hR⟩:∃R,R=((bO seed N).drop 1).map (qU seed N):=⟨_,rfl⟩
 have hm:(bO seed N).map (qU seed N)=qU seed N (bQ (aJ seed 0))::R:=by
  have:=congrArg (List.map (qU seed N)) (aO2 seed N hN.1)
  rw[this,hR];rfl
 have hRl:R.length=N-1:=by rw[hR,List.length_map,List.length_drop,hD]
 have hRz:∀d∈R,d.sz≤10:=fun d hd=>by
  rw[hR,List.mem_map] at hd
  obtain⟨x,hx,rfl⟩:=hd
  have h0:=hd1 x (List.mem_of_mem_drop hx)
  have:=aEx seed N x
  omega
 have hA:=aEx seed N (bQ (aJ seed 0))
 rw[T9] at hA
 have hq:∀x:D.Device,bA (x::R) 0=some x:=fun x=>rfl
 rw[List.nil_append,hm,bd_s,aYi (n:=N) (d:=qU seed N (bQ (aJ seed 0))) (r:=R) hN.2 (by omega) (fun rec j x hj hx=>by
  simp only[decide_eq_true (show(j:Int)<2 by omega),cond_true]
  rw[aYh (nm:=aD (j:Int)) (n:=N) (d:=x) (r:=R) hN.2 hx (fun rec i x hi hx=>by
   have hs:=aCn (j:Int)
   simp only[bU hi,cond_true,hq,bd_s,aA (show x.sz≤34359738360∧(aD (j:Int)).size≤34359738300 from⟨by omega,by omega⟩)];rfl) (fun rec x=>by simp only[bX,cond_false])]
  simp only[bd_s]) (fun rec x=>by rfl)]
 have hf:aIc N (qU seed N (bQ (aJ seed 0))) 2=jD seed N:=rfl
 have hw:fA (jD seed N)=nwW seed N:=rfl
 have hc:(dR (dK (aM seed N) (dY seed N)).1 (nwW seed N).2.1).1=fU seed N:=rfl
 have hF:=aGr seed N
 have hW:=Nj (jD seed N)
 rw[hw] at hW
 have hNC:=aCe (aM seed N) (dY seed N)
 have hset:∀x y:D.Device,(x::R).set (0:Int).toNat y=y::R:=fun _ _=>rfl
 simp only[bd_s,hf,hq,aA (show(jD seed N).sz≤34359738368 by omega),hw,aA (show(dK (aM seed N) (dY seed N)).1.sz≤34359738300∧(nwW seed N).2.1.sz≤34359738300 from⟨by omega,by have:=hW.2;simp only[D.aAC.sz];omega⟩),hc,hset]
 rw[show((1:Int),(nwW seed N).1::R)=((fun i:Nat=>(i:Int)) ([(nwW seed N).1]:List D.Device).length,[(nwW seed N).1]++R) from rfl,bB6 (fun i:Nat=>(i:Int)) (p0:=[(nwW seed N).1]) (l:=R) (fun d=>(dA d (fU seed N).Log (fU seed N).Boxes (gI (fU seed N) 0).1).1) (by omega) (fun rec p d r hp hd=>by
  have h0:=hRz d hd
  simp only[List.length_cons,List.length_nil] at hp
  simp only[bU (show p.length<N by omega),cond_true,aRv,bd_s,aA (show d.sz≤34359738100∧(fU seed N).sz≤34359738100 from⟨by omega,by omega⟩),Int.toNat_natCast,set_mid rfl,List.append_assoc,List.singleton_append,aG (show-9223372036854775808≤(p.length:Int)+1 by omega) (show(p.length:Int)+1≤9223372036854775807 by omega)];rfl) (fun rec p hp=>by
  simp only[show([(nwW seed N).1]:List D.Device).length+R.length=N by simp only[List.length_cons,List.length_nil];omega,bX,cond_false])]
 have hS:[(nwW seed N).1]++R.map (fun d=>(dA d (fU seed N).Log (fU seed N).Boxes (gI (fU seed N) 0).1).1)=gN seed N:=by
  rw[hR,List.map_map]
  show(nwW seed N).1::_=(nwW seed N).1::_
  congr 1
  exact List.map_congr_left fun d _=>bDq seed N d
 rw[hS]
 simp only[bd_s]
 rw[aTz (seed:=seed) (t:=t) ⟨by omega,by omega⟩ (fun rec s i h0 h1 h2=>by
  have ha:∀x:Int,aO s [x]:=fun x=>bEf (by omega) (by simp)
  simp only[aA (show([307,i]:List Int).length≤34359738300 by simp),bd_s,aA (ha _),aG (show-9223372036854775808≤i+1 by omega) (show i+1≤9223372036854775807 by omega)])]
 have hcl:(lU seed t).length≤34359738368:=by simp only[lU,List.length_map,List.length_range];omega
 simp only[bd_s,aA (show([283]:List Int).length≤34359738300 by simp),aA (show([293]:List Int).length≤34359738300 by simp),aA (show(1018:Int)≠0 by decide),aA hcl]
 rfl
end
end Go.VK
