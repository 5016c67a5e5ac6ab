import Derived.Test.YthecajfmhdediaaGreatDoorEVybtoc
import Derived.Test.YthecajfmhdediaaGreatDoorVKjtos
import Derived.Lib.SplitLaws
import Derived.HandedShaped
/-
  THE EVALUATOR's KIT: plain laws of loops ('itr'), and of what the laws' helpers do to lists. No program in sight; the conditions stand in each.
-/
set_option linter.unusedVariables false
set_option linter.unusedSimpArgs false
namespace Go.VK
open EV (bX)
section
variable {α β σ τ:Type}
theorem bG4 {S:Type}{F:(S→Option τ)→S→Option τ}(V:Nat→S→Prop)(N:Nat)(R:Option τ)
  (step:∀i s rec,i<N→V i s→(∃s',V (i+1) s'∧F rec s=rec s')∨F rec s=R) (last:∀s rec,V N s→F rec s=R):∀(k i n:Nat) (s:S),i+k=N→k<n→V i s→bX n F s=R
 |0,i,n+1,s,hk,hn,h=>by
  have:i=N:=by omega
  subst this
  exact last s _ h
 |k+1,i,n+1,s,hk,hn,h=>by
  rcases step i s (bX n F) (by omega) h with⟨s',h1,h2⟩|h2
  ·exact h2.trans (bG4 V N R step last k (i+1) n s' (by omega) (by omega) h1)
  ·exact h2
theorem Zv {S:Type}{F:(S→Option τ)→S→Option τ}(V:Nat→S→Prop)(N:Nat)(R:Option τ){s:S}(hN:N≤18446744073709551616)(h0:V 0 s)
  (step:∀i s rec,i<N→V i s→(∃s',V (i+1) s'∧F rec s=rec s')∨F rec s=R) (last:∀s rec,V N s→F rec s=R):bX FUEL F s=R:=
 bG4 V N R step last N 0 FUEL s (by omega) (by have:=gN;omega) h0
theorem bG5 {S:Type}{F:(S→Option τ)→S→Option τ}(V:Nat→S→Prop)(N:Nat)(Q:τ→Prop)
  (step:∀i s rec,i<N→V i s→(∃s',V (i+1) s'∧F rec s=rec s')∨∃r,F rec s=some r∧Q r) (last:∀s rec,V N s→∃r,F rec s=some r∧Q r):∀(k i n:Nat) (s:S),i+k=N→k<n→V i s→∃r,bX n F s=some r∧Q r
 |0,i,n+1,s,hk,hn,h=>by
  have:i=N:=by omega
  subst this
  exact last s _ h
 |k+1,i,n+1,s,hk,hn,h=>by
  rcases step i s (bX n F) (by omega) h with⟨s',h1,h2⟩|h2
  ·obtain⟨r,h3⟩:=bG5 V N Q step last k (i+1) n s' (by omega) (by omega) h1
   exact⟨r,h2.trans h3.1,h3.2⟩
  ·exact h2
theorem bH {i n:Nat}(h:i<n):decide ((i:Int)<(n:Int))=true:=by simpa using h
theorem bJ {n:Nat}:decide ((n:Int)<(n:Int))=false:=by simp
theorem aXm {c:Bool}{x y:α}(h:c=true):(bif c then x else y)=x:=by rw[h];rfl
theorem aD5 {c:Bool}{x y:α}(h:c=false):(bif c then x else y)=y:=by rw[h];rfl
theorem set_mid {l r:List β}{i:Nat}{d x:β}(h:l.length=i):(l++d::r).set i x=(l++[x])++r:=by
 subst h
 rw[List.set_append_right _ _ (Nat.le_refl _)]
 simp
theorem bK1 {a:List α}{d:β}{f:α→β}{F:(Nat×List β→Option (List β))→Nat×List β→Option (List β)}{n:Nat}(hn:n=a.length)
  (hl:a.length≤18446744073709551616)
  (hF:∀rec i out,out.length=a.length→∀hi:i<a.length,F rec (i,out)=rec (i+1,out.set i (f a[i]))) (hE:∀rec out,F rec (a.length,out)=some out):bX FUEL F (0,List.replicate n d)=some (a.map f):=by
 subst hn
 refine Zv (fun i s=>i≤a.length∧s=(i,(a.take i).map f++List.replicate (a.length-i) d)) a.length _ hl ⟨Nat.zero_le _,by simp⟩ (fun i s rec hi hv=> ?_) (fun s rec hv=> ?_)
 ·obtain⟨hle,rfl⟩:=hv
  refine .inl ⟨_,⟨hi,rfl⟩,?_⟩
  rw[hF rec i _ (by simp;omega) hi]
  have e:a.length-i=(a.length-(i+1))+1:=by omega
  rw[e,List.replicate_succ,set_mid (by simp;omega)]
  have e2:a.take (i+1)=a.take i++[a[i]]:=by rw[List.take_add_one,List.getElem?_eq_getElem hi];rfl
  rw[e2,List.map_append];rfl
 ·obtain⟨_,rfl⟩:=hv
  rw[hE];simp
theorem iI {a:List α}{d:α}{F:(Nat×List α→Option (List α))→Nat×List α→Option (List α)}{n:Nat}(hn:n=a.length)
  (hl:a.length≤18446744073709551616)
  (hF:∀rec i out,out.length=a.length→∀hi:i<a.length,F rec (i,out)=rec (i+1,out.set i a[i])) (hE:∀rec out,F rec (a.length,out)=some out):bX FUEL F (0,List.replicate n d)=some a:=by
 have:=bK1 (f:=id) hn hl (d:=d) hF hE
 rwa [List.map_id] at this
theorem mU {a:List α}{F:(Nat→Option (Bool⊕PUnit))→Nat→Option (Bool⊕PUnit)}(hl:a.length≤18446744073709551616)
  (hF:∀rec i (hi:i<a.length),F rec i=rec (i+1)) (hE:∀rec,F rec a.length=some (.inr ())):bX FUEL F 0=some (.inr ()):=by
 refine Zv (fun i s=>s=i) a.length _ hl rfl (fun i s rec hi hv=> ?_) (fun s rec hv=> ?_)
 ·subst hv;exact .inl ⟨_,rfl,hF rec s hi⟩
 ·subst hv;exact hE rec
theorem aD6 {f:α→Nat}{l:List α}{i:Nat}(h:i<l.length):((l.take (i+1)).map f).sum=((l.take i).map f).sum+f l[i]:=by
 rw[List.take_add_one,List.getElem?_eq_getElem h,List.map_append,List.sum_append]
 simp only[Option.toList_some,List.map_cons,List.map_nil,List.sum_cons,List.sum_nil,Nat.add_zero]
def eX (n:Nat)(left:Int):Int:=if (n:Int)≤left then left-n else-1
def szP (left:Int):Prop:=0≤left∧left≤1048576
instance (left:Int):Decidable (szP left):=inferInstanceAs (Decidable (_∧_))
theorem bK2 {a:List α}{f:α→Nat}{l0:Int}{F:(Int×Nat→Option (Int⊕Int))→Int×Nat→Option (Int⊕Int)}(h0:szP l0)(hl:(a.length:Int)≤1048576)
  (hF:∀rec i left (hi:i<a.length),szP left→F rec (left,i)=bif decide (eX (f a[i]) left<0) then some (.inl (-1)) else rec (eX (f a[i]) left,i+1)) (hE:∀rec left,F rec (left,a.length)=some (.inr left)):
  nx (bX FUEL F (l0,0)) (fun z=>some z)=some (eX ((a.map f).sum) l0):=by
 have key:∀(i:Nat),i≤a.length→(a.map f).sum=((a.take i).map f).sum+((a.drop i).map f).sum:=fun i _=>by
  rw[←List.sum_append,←List.map_append,List.take_append_drop]
 by_cases hs:((a.map f).sum:Int)≤l0
 ·have:=Zv (F:=F) (s:=(l0,0)) (fun i s=>i≤a.length∧s=(l0-(((a.take i).map f).sum:Nat),i)) a.length (some (.inr (l0-((a.map f).sum:Nat)))) (by omega) ⟨Nat.zero_le _,by simp⟩ (fun i s rec hi hv=> ?_) (fun s rec hv=> ?_)
  ·rw[this];simp only[nx_r,eX,if_pos hs]
  ·obtain⟨hle,rfl⟩:=hv
   refine .inl ⟨_,⟨hi,rfl⟩,?_⟩
   have e2:=aD6 (f:=f) hi
   have hk:=key (i+1) hi
   have hp:szP (l0-(((a.take i).map f).sum:Nat)):=⟨by omega,by have:=h0.2;omega⟩
   rw[hF rec i _ hi hp]
   have e3:eX (f a[i]) (l0-(((a.take i).map f).sum:Nat))=l0-(((a.take (i+1)).map f).sum:Nat):=by unfold eX;rw[if_pos (by omega),e2];omega
   rw[e3,aD5 (decide_eq_false (by omega))]
  ·obtain⟨_,rfl⟩:=hv
   rw[hE,List.take_length]
 ·have:=Zv (F:=F) (s:=(l0,0)) (fun i s=>i≤a.length∧s=(l0-(((a.take i).map f).sum:Nat),i)∧(((a.take i).map f).sum:Int)≤l0) a.length (some (.inl (-1))) (by omega) ⟨Nat.zero_le _,by simp,by have:=h0.1;simpa using this⟩ (fun i s rec hi hv=> ?_) (fun s rec hv=> ?_)
  ·rw[this];simp only[nx_l,eX,if_neg hs]
  ·obtain⟨hle,rfl,hp0⟩:=hv
   have e2:=aD6 (f:=f) hi
   have hp:szP (l0-(((a.take i).map f).sum:Nat)):=⟨by omega,by have:=h0.2;omega⟩
   rw[hF rec i _ hi hp]
   by_cases hq:(((a.take (i+1)).map f).sum:Int)≤l0
   ·have e3:eX (f a[i]) (l0-(((a.take i).map f).sum:Nat))=l0-(((a.take (i+1)).map f).sum:Nat):=by unfold eX;rw[if_pos (by omega),e2];omega
    refine .inl ⟨_,⟨hi,rfl,hq⟩,?_⟩
    rw[e3,aD5 (decide_eq_false (by omega))]
   ·have e3:eX (f a[i]) (l0-(((a.take i).map f).sum:Nat))= -1:=by unfold eX;rw[if_neg (by omega)]
    refine .inr ?_
    rw[e3];rfl
  ·obtain⟨_,_,hp0⟩:=hv
   rw[List.take_length] at hp0
   exact absurd hp0 hs
theorem bC9 {n:Nat}{l:Int}(h:eX n l<0)(h0:0≤l):eX n l= -1∧l<n:=by
 unfold eX at*
 split at h
 ·omega
 ·rename_i h1;rw[if_neg h1];exact⟨rfl,by omega⟩
theorem bDa {n:Nat}{l:Int}(h:¬eX n l<0):eX n l=l-n∧(n:Int)≤l:=by
 unfold eX at*
 split at h
 ·rename_i h1;rw[if_pos h1];exact⟨rfl,h1⟩
 ·omega
theorem bDb {n m:Nat}{l:Int}(h:szP l):(bif decide (eX n l<0) then-1 else eX m (eX n l))=eX (n+m) l:=by
 by_cases hc:eX n l<0
 ·rw[aXm (decide_eq_true hc)]
  have:=(bC9 hc h.1).2
  unfold eX;rw[if_neg (by omega)]
 ·rw[aD5 (decide_eq_false hc)]
  obtain⟨e1,e2⟩:=bDa hc
  rw[e1];unfold eX
  by_cases hm:(m:Int)≤l-n
  ·rw[if_pos hm,if_pos (by omega)];omega
  ·rw[if_neg hm,if_neg (by omega)]
theorem bLt {n:Nat}{l:Int}(h:szP l)(hc:¬eX n l<0):szP (eX n l):=by
 obtain⟨e1,e2⟩:=bDa hc
 rw[e1];exact⟨by omega,by have:=h.2;omega⟩
def bL (e:α→Int→α×Int):List α→Int→List α×Int
 |[],k=>([],k)
 |x::xs,k=>((e x k).1::(bL e xs (e x k).2).1,(bL e xs (e x k).2).2)
theorem aM2 {e:α→Int→α×Int}:∀{l r:List α} {k:Int},bL e (l++r) k=((bL e l k).1++(bL e r (bL e l k).2).1,(bL e r (bL e l k).2).2)
 |[],r,k=>rfl
 |x::l,r,k=>by simp only[List.cons_append,bL,aM2 (l:=l)]
theorem Y8 {e:α→Int→α×Int}:∀{l:List α} {k:Int},(bL e l k).1.length=l.length
 |[],_=>rfl
 |x::l,k=>by simp[bL,Y8 (l:=l)]
theorem mO {l:List α}{i:Nat}{x:α}(h:i<l.length):aP (l.set i x) (i:Int)=some x:=by
 rw[aH (by simpa using h)];simp
theorem bT {i:Nat}:((i:Nat):Int).toNat=i:=Int.toNat_natCast i
def uR (e:α→Int→α×Int)(c:α→Nat):Prop:=∀(x:α) (k:Int),0≤k→k+c x≤4611686018427387904→(e x k).2=k+c x∧c (e x k).1=c x
def aG (c:α→Nat)(l:List α):Nat:=(l.map c).sum
theorem bP {e:α→Int→α×Int}{c:α→Nat}(h:uR e c):uR (bL e) (aG c)
 |[],k,h0,h1=>by simp[bL,aG]
 |x::xs,k,h0,h1=>by
  simp only[aG,List.map_cons,List.sum_cons] at h1 ⊢
  obtain⟨a1,a2⟩:=h x k h0 (by omega)
  obtain⟨b1,b2⟩:=bP h xs (k+c x) (by omega) (by unfold aG;omega)
  simp only[bL,a1,b1,aG,List.map_cons,List.sum_cons,a2] at b2 ⊢
  exact⟨by omega,by omega⟩
theorem bE6 {c:α→Nat}{l:List α}{i:Nat}(h:i<l.length):aG c l=aG c (l.take i)+(c l[i]+aG c (l.drop (i+1))):=by
 unfold aG
 conv=>lhs;rw[←List.take_append_drop i l,List.drop_eq_getElem_cons h]
 rw[List.map_append,List.map_cons,List.sum_append,List.sum_cons]
theorem iJ {e:α→Int→α×Int}{c:α→Nat}(hok:uR e c){l0:List α}{k0:Int}(h0:0≤k0)(h1:k0+aG c l0≤4611686018427387904){F:(Int×Nat×List α→Option (Int×List α))→Int×Nat×List α→Option (Int×List α)}(hl:l0.length≤18446744073709551616)
  (hF:∀rec (k:Int) i (l:List α) (hi:i<l.length) (hi0:i<l0.length),l[i]=l0[i]→0≤k→k+c l0[i]≤4611686018427387904→F rec (k,i,l)=rec ((e l0[i] k).2,i+1,l.set i (e l0[i] k).1)) (hE:∀rec k (l:List α),F rec (k,l.length,l)=some (k,l)):bX FUEL F (k0,0,l0)=some ((bL e l0 k0).2,(bL e l0 k0).1):=by
 refine Zv (fun i s=>i≤l0.length∧s=((bL e (l0.take i) k0).2,i,(bL e (l0.take i) k0).1++l0.drop i)) l0.length _ hl ⟨Nat.zero_le _,by simp[bL]⟩ (fun i s rec hi hv=> ?_) (fun s rec hv=> ?_)
 ·obtain⟨hle,rfl⟩:=hv
  refine .inl ⟨_,⟨hi,rfl⟩,?_⟩
  have hd:l0.drop i=l0[i]::l0.drop (i+1):=List.drop_eq_getElem_cons hi
  have hlen:(bL e (l0.take i) k0).1.length=i:=by rw[Y8];simp;omega
  have hil:i<((bL e (l0.take i) k0).1++l0.drop i).length:=by rw[List.length_append,hlen];simp;omega
  have hget:((bL e (l0.take i) k0).1++l0.drop i)[i]'hil=l0[i]:=by
   rw[List.getElem_append_right (by omega)];simp[hlen]
  have hc:=bE6 (c:=c) hi
  have hk:=(bP hok (l0.take i) k0 h0 (by omega)).1
  rw[hF rec _ i _ hil hi hget (by omega) (by omega),hd,set_mid hlen]
  have e2:l0.take (i+1)=l0.take i++[l0[i]]:=by rw[List.take_add_one,List.getElem?_eq_getElem hi];rfl
  rw[e2,aM2];rfl
 ·obtain⟨_,rfl⟩:=hv
  rw[List.take_length]
  have:=hE rec (bL e l0 k0).2 (bL e l0 k0).1
  rw[Y8] at this
  simpa using this
def jS (s c:Nat)(k:Int):Prop:=s≤1152921504606846976∧0≤k∧k+c≤4611686018427387904
instance (s c:Nat) (k:Int):Decidable (jS s c k):=inferInstanceAs (Decidable (_∧_))
theorem aM {k:Int}(h0:0≤k)(h1:k+1≤4611686018427387904):IntKind.i64.wrap (k+1)=k+1:=aR (by omega) (by omega)
theorem Fy {c s:α→Nat}{l:List α}(h:∀x∈l,c x≤16+16*s x):aG c l≤16*(l.length+(l.map s).sum):=by
 induction l with
 |nil=>simp[aG]
 |cons x l ih=>
  have h1:=h x (by simp)
  have h2:=ih (fun y hy=>h y (by simp[hy]))
  simp only[aG,List.map_cons,List.sum_cons,List.length_cons] at*
  omega
theorem kW {c:α→Nat}{l:List α}(h:∀x∈l,c x≤16):aG c l≤16*l.length:=by
 have:=Fy (c:=c) (s:=fun _=>0) (l:=l) (fun x hx=>by have:=h x hx;omega)
 rw[show(l.map fun _=>0).sum=0 from(by clear this h;induction l with|nil=>rfl|cons x l ih=>simp only[List.map_cons,List.sum_cons,ih])] at this
 omega
def bO (e:α→Int→α×Int)(c:α→Nat)(a:α)(k:Int):Prop:=0≤k∧k+c a≤4611686018427387904∧∃x,a=(e x k).1∧c x=c a
noncomputable instance (e:α→Int→α×Int) (c:α→Nat) (a:α) (k:Int):Decidable (bO e c a k):=Classical.propDecidable _
theorem fE {e:α→Int→α×Int}{c:α→Nat}{a x:α}{k:Int}(h0:0≤k)(h1:k+c x≤4611686018427387904)(ha:a=(e x k).1)(hc:c a=c x):bO e c a k:=⟨h0,by rw[hc];exact h1,x,ha,hc.symm⟩
theorem iK {e:α→Int→α×Int}{c:α→Nat}(hok:uR e c){a:List α}{k0:Int}(hP:bO (bL e) (aG c) a k0){F:(Int×Nat→Option (Int⊕Int))→Int×Nat→Option (Int⊕Int)}(hl:a.length≤18446744073709551616)
  (hF:∀rec k i (hi:i<a.length),bO e c a[i] k→F rec (k,i)=rec (k+c a[i],i+1)) (hE:∀rec k,F rec (k,a.length)=some (.inr k)):bX FUEL F (k0,0)=some (.inr (k0+aG c a)):=by
 obtain⟨h0,h1,xs,hx,hcx⟩:=hP
 have hlen:a.length=xs.length:=by rw[hx,Y8]
 have key:∀i,i≤a.length→(bL e (xs.take i) k0).2=k0+aG c (a.take i)∧a.take i=(bL e (xs.take i) k0).1:=fun i hi=>by
  have hsum:aG c xs=aG c (xs.take i)+aG c (xs.drop i):=by
   unfold aG;rw[←List.sum_append,←List.map_append,List.take_append_drop]
  obtain⟨q1,q2⟩:=bP hok (xs.take i) k0 h0 (by omega)
  have ht:a.take i=(bL e (xs.take i) k0).1:=by
   rw[hx]
   conv=>lhs;rw[←List.take_append_drop i xs,aM2]
   simp only
   rw[List.take_left' (by rw[Y8];simp;omega)]
  exact⟨by rw[q1,ht,q2],ht⟩
 refine Zv (fun i s=>i≤a.length∧s=(k0+aG c (a.take i),i)) a.length _ hl ⟨Nat.zero_le _,by simp[aG]⟩ (fun i s rec hi hv=> ?_) (fun s rec hv=> ?_)
 ·obtain⟨hle,rfl⟩:=hv
  refine .inl ⟨_,⟨hi,rfl⟩,?_⟩
  have e2:a.take (i+1)=a.take i++[a[i]]:=by rw[List.take_add_one,List.getElem?_eq_getElem hi];rfl
  have ec:aG c (a.take (i+1))=aG c (a.take i)+c a[i]:=aD6 hi
  have hsum:aG c a=aG c (a.take (i+1))+aG c (a.drop (i+1)):=by
   unfold aG;rw[←List.sum_append,←List.map_append,List.take_append_drop]
  have hxi:i<xs.length:=by omega
  obtain⟨k1,k2⟩:=key i hle
  obtain⟨k3,k4⟩:=key (i+1) hi
  have ex:xs.take (i+1)=xs.take i++[xs[i]]:=by rw[List.take_add_one,List.getElem?_eq_getElem hxi];rfl
  have hai:a[i]=(e xs[i] (k0+aG c (a.take i))).1:=by
   rw[ex,aM2,e2,k2] at k4
   have:=List.append_cancel_left k4
   simp only[bL,List.cons.injEq,and_true] at this
   rw[this,k1]
  have hsx:aG c xs=aG c (xs.take i)+(c xs[i]+aG c (xs.drop (i+1))):=by
   unfold aG
   conv=>lhs;rw[←List.take_append_drop i xs,List.drop_eq_getElem_cons hxi]
   rw[List.map_append,List.map_cons,List.sum_append,List.sum_cons]
  have hct:aG c (xs.take i)=aG c (a.take i):=by
   have:=(bP hok (xs.take i) k0 h0 (by omega)).2
   rw[←k2] at this;exact this.symm
  have hce:c a[i]=c xs[i]:=by rw[hai];exact(hok xs[i] _ (by omega) (by omega)).2
  rw[hF rec _ i hi ⟨by omega,by omega,xs[i],hai,hce.symm⟩,ec]
  congr 2;omega
 ·obtain⟨_,rfl⟩:=hv
  rw[hE,List.take_length]
end
end Go.VK
namespace Go.VK
open EV (bX)
section
variable {α β σ τ:Type}
def eH (n:Nat)(a b:α):Prop:=a=b∧n≤1152921504606846976
noncomputable instance (n:Nat) (a b:α):Decidable (eH n a b):=Classical.propDecidable _
def jL (p:α→Prop)(l:List α):Prop:=l.length≤9223372036854775807∧∀y∈l,p y
def okS (s:ByteArray):Prop:=s.size≤9223372036854775807
def gP (p:α→Prop)(a:α)(left:Int):Prop:=p a∧szP left
noncomputable instance (p:α→Prop) (a:α) (left:Int):Decidable (gP p a left):=Classical.propDecidable _
theorem mV {n:Nat}(h:n≤68719476736):Fa (n:Int):=⟨by omega,by omega⟩
theorem dP {f:α→Nat}{l:List α}{i:Nat}(hi:i<l.length):f l[i]≤(l.map f).sum:=by
 have:f l[i]∈l.map f:=List.mem_map.2 ⟨_,List.getElem_mem hi,rfl⟩
 induction l generalizing i with
 |nil=>simp at hi
 |cons x l ih=>
  cases i with
  |zero=>simp
  |succ i=>
   have h':i<l.length:=by simpa using hi
   have:=ih h' (List.mem_map.2 ⟨_,List.getElem_mem h',rfl⟩)
   simp only[List.map_cons,List.sum_cons,List.getElem_cons_succ];omega
theorem aD7 {a:List α}{f:α→Nat}{l0:Int}{p:α→Prop}{F:(Int×Nat→Option (Int⊕Int))→Int×Nat→Option (Int⊕Int)}(h:gP (jL p) a l0)
  (hF:∀rec i left (hi:i<a.length),gP p a[i] left→F rec (left,i)=bif decide (eX (f a[i]) left<0) then some (.inl (-1)) else rec (eX (f a[i]) left,i+1)) (hE:∀rec left,F rec (left,a.length)=some (.inr left)):
  (bif decide (IntKind.i64.wrap (l0-(a.length:Int))<0) then some (-1:Int) else nx (bX FUEL F (IntKind.i64.wrap (l0-(a.length:Int)),0)) fun z=>some z)=some (eX (a.length+(a.map f).sum) l0):=by
 obtain⟨⟨h1,h2⟩,h3⟩:=h
 have hw:IntKind.i64.wrap (l0-(a.length:Int))=l0-(a.length:Int):=aR (by have:=h3.1;omega) (by have:=h3.2;omega)
 rw[hw]
 by_cases hc:l0-(a.length:Int)<0
 ·rw[aXm (decide_eq_true hc)];unfold eX;rw[if_neg (by omega)]
 ·rw[aD5 (decide_eq_false hc)]
  have hp:szP (l0-(a.length:Int)):=⟨by omega,by have:=h3.2;omega⟩
  rw[bK2 hp (by have:=h3.2;omega) (fun rec i left hi hl=>hF rec i left hi ⟨h2 _ (List.getElem_mem hi),hl⟩) hE]
  unfold eX
  by_cases hm:((a.map f).sum:Int)≤l0-a.length
  ·rw[if_pos hm,if_pos (by omega)];congr 1;omega
  ·rw[if_neg hm,if_neg (by omega)]
theorem Fz {n:Nat}{l0:Int}(h1:n≤9223372036854775807)(h3:szP l0):(bif decide (IntKind.i64.wrap (l0-(n:Int))<0) then some (-1:Int) else some (IntKind.i64.wrap (l0-(n:Int))))=some (eX n l0):=by
 have hw:IntKind.i64.wrap (l0-(n:Int))=l0-(n:Int):=aR (by have:=h3.1;omega) (by have:=h3.2;omega)
 rw[hw]
 by_cases hc:l0-(n:Int)<0
 ·rw[aXm (decide_eq_true hc)];unfold eX;rw[if_neg (by omega)]
 ·rw[aD5 (decide_eq_false hc)];unfold eX;rw[if_pos (by omega)]
theorem aTm {n m:Nat}{l:Int}{X:Option Int}(h:szP l)(hK:szP (eX n l)→X=some (eX m (eX n l))):(bif decide (eX n l<0) then some (-1) else X)=some (eX (n+m) l):=by
 by_cases hc:eX n l<0
 ·rw[aXm (decide_eq_true hc),←bDb h,aXm (decide_eq_true hc)]
 ·rw[aD5 (decide_eq_false hc),hK (bLt h hc),←bDb h,aD5 (decide_eq_false hc)]
theorem Ii {n:Nat}{l:Int}(h:szP l):(bif decide (eX n l<0) then some (-1) else some (eX n l))=some (eX n l):=by
 by_cases hc:eX n l<0
 ·rw[aXm (decide_eq_true hc),(bC9 hc h.1).1]
 ·rw[aD5 (decide_eq_false hc)]
end
end Go.VK
namespace Go.VK
theorem dW:((3:Int)≠0)=True:=by simp
theorem bLu {n m:Nat}{l:Int}{X:Option Int}(h:szP l)(hK:szP (l-(n:Int))→X=some (eX m (l-(n:Int)))):(bif decide (l-(n:Int)<0) then some (-1) else X)=some (eX (n+m) l):=by
 by_cases hc:l-(n:Int)<0
 ·rw[aXm (decide_eq_true hc)];unfold eX;rw[if_neg (by omega)]
 ·have hp:szP (l-(n:Int)):=⟨by omega,by have:=h.2;omega⟩
  rw[aD5 (decide_eq_false hc),hK hp]
  unfold eX
  by_cases hm:(m:Int)≤l-n
  ·rw[if_pos hm,if_pos (by omega)];congr 1;omega
  ·rw[if_neg hm,if_neg (by omega)]
end Go.VK
namespace Go.VK
open EV (bX)
section
variable {α β σ τ:Type}
theorem mP {l:List α}(p:α→Bool)(a b:τ){F:(Nat→Option τ)→Nat→Option τ}(hl:l.length≤18446744073709551616)
  (hF:∀rec i (hi:i<l.length),F rec i=bif p l[i] then some a else rec (i+1)) (hE:∀rec,F rec l.length=some b):bX FUEL F 0=some (bif l.any p then a else b):=by
 have key:∀i (hi:i<l.length),p l[i]=true→l.any p=true:=fun i hi h=>List.any_eq_true.2 ⟨_,List.getElem_mem hi,h⟩
 refine Zv (fun i s=>i≤l.length∧s=i∧(l.take i).any p=false) l.length _ hl ⟨Nat.zero_le _,rfl,rfl⟩ (fun i s rec hi hv=> ?_) (fun s rec hv=> ?_)
 ·obtain⟨_,rfl,h3⟩:=hv
  rw[hF rec s hi]
  cases hp:p l[s] with
  |true=>exact .inr (by rw[key s hi hp];rfl)
  |false=>exact .inl ⟨_,⟨hi,rfl,by rw[List.take_add_one,List.getElem?_eq_getElem hi,List.any_append,h3];simp[hp]⟩,rfl⟩
 ·obtain⟨_,rfl,h3⟩:=hv
  rw[List.take_length] at h3
  rw[hE,h3];rfl
theorem iL {l:List α}(p:Nat→α→Bool)(a b:τ){F:(Nat→Option τ)→Nat→Option τ}(hl:l.length≤18446744073709551616)
  (hF:∀rec i (hi:i<l.length),F rec i=bif p i l[i] then some a else rec (i+1)) (hE:∀rec,F rec l.length=some b):bX FUEL F 0=some (bif kI p 0 l then a else b):=by
 have key:∀(l:List α) (j:Nat),kI p j l=true↔∃(i:Nat) (hi:i<l.length),p (j+i) l[i]=true:=by
  intro l
  induction l with
  |nil=>intro j;simp[kI]
  |cons x xs ih=>
   intro j
   simp only[kI,Bool.or_eq_true,ih]
   constructor
   ·rintro(h|⟨i,hi,h⟩)
    ·exact⟨0,by simp,h⟩
    ·exact⟨i+1,by simpa using hi,by rw[show j+(i+1)=j+1+i by omega];exact h⟩
   ·rintro⟨i,hi,h⟩
    cases i with
    |zero=>exact .inl h
    |succ i=>exact .inr ⟨i,by simpa using hi,by rw[show j+1+i=j+(i+1) by omega];exact h⟩
 refine Zv (fun i s=>i≤l.length∧s=i∧∀(j:Nat) (hj:j<l.length),j<i→p j l[j]=false) l.length _ hl ⟨Nat.zero_le _,rfl,fun j _ h=>by omega⟩ (fun i s rec hi hv=> ?_) (fun s rec hv=> ?_)
 ·obtain⟨_,rfl,h3⟩:=hv
  rw[hF rec s hi]
  cases hp:p s l[s] with
  |true=>exact .inr (by rw[(key l 0).2 ⟨s,hi,by rw[Nat.zero_add];exact hp⟩];rfl)
  |false=>
   refine .inl ⟨_,⟨hi,rfl,fun j hj h=> ?_⟩,rfl⟩
   rcases Nat.lt_or_ge j s with h'|h'
   ·exact h3 j hj h'
   ·have:j=s:=by omega
    subst this;exact hp
 ·obtain⟨_,rfl,h3⟩:=hv
  have:kI p 0 l=false:=by
   cases h:kI p 0 l with
   |false=>rfl
   |true=>
    obtain⟨i,hi,hp⟩:=(key l 0).1 h
    rw[Nat.zero_add,h3 i hi hi] at hp;cases hp
  rw[hE,this];rfl
theorem Y9 {l:List α}(p:α→Bool){F:(Nat→Option (Int⊕PUnit))→Nat→Option (Int⊕PUnit)}(hl:l.length≤18446744073709551616)
  (hF:∀rec i (hi:i<l.length),F rec i=bif p l[i] then some (.inl (i:Int)) else rec (i+1)) (hE:∀rec,F rec l.length=some (.inr ())):nx (bX FUEL F 0) (fun _=>some (-1:Int))=some (kD p 0 l):=by
 have go:∀(k i n:Nat),i+k=l.length→k<n→nx (bX n F i) (fun _=>some (-1:Int))=some (kD p i (l.drop i)):=by
  intro k
  induction k with
  |zero=>
   intro i n hk hn
   obtain⟨n,rfl⟩:∃m,n=m+1:=⟨n-1,by omega⟩
   have:i=l.length:=by omega
   subst this
   rw[show bX (n+1) F l.length=F (bX n F) l.length from rfl,hE,List.drop_length];rfl
  |succ k ih=>
   intro i n hk hn
   obtain⟨n,rfl⟩:∃m,n=m+1:=⟨n-1,by omega⟩
   have hi:i<l.length:=by omega
   rw[show bX (n+1) F i=F (bX n F) i from rfl,hF _ i hi,List.drop_eq_getElem_cons hi,kD]
   cases p l[i] with
   |true=>rfl
   |false=>exact ih (i+1) n (by omega) (by omega)
 exact go l.length 0 FUEL (by omega) (by have:=gN;omega)
theorem fJ {l:List α}(g:σ→α→σ)(Inv:Nat→σ→Prop)(fin:σ→Option τ){s0:σ}{F:(σ×Nat→Option τ)→σ×Nat→Option τ}(hl:l.length≤18446744073709551616)(h0:Inv 0 s0)
  (hI:∀i s (hi:i<l.length),Inv i s→Inv (i+1) (g s l[i])) (hF:∀rec i s (hi:i<l.length),Inv i s→F rec (s,i)=rec (g s l[i],i+1)) (hE:∀rec s,Inv l.length s→F rec (s,l.length)=fin s):bX FUEL F (s0,0)=fin (l.foldl g s0):=by
 refine Zv (fun i s=>i≤l.length∧s=((l.take i).foldl g s0,i)∧Inv i s.1) l.length _ hl ⟨Nat.zero_le _,rfl,h0⟩ (fun i s rec hi hv=> ?_) (fun s rec hv=> ?_)
 ·obtain⟨_,rfl,h3⟩:=hv
  have e:(l.take (i+1)).foldl g s0=g ((l.take i).foldl g s0) l[i]:=by rw[List.take_add_one,List.getElem?_eq_getElem hi,List.foldl_append];rfl
  refine .inl ⟨_,⟨hi,rfl,by rw[e];exact hI i _ hi h3⟩,?_⟩
  rw[hF rec i _ hi h3,e]
 ·obtain⟨_,rfl,h3⟩:=hv
  rw[hE rec _ h3,List.take_length]
theorem aV2 {l:List α}(g:σ→α→σ)(Inv:Nat→σ→Prop)(fin:σ→Option τ){s0:σ}{F:(Nat×σ→Option τ)→Nat×σ→Option τ}(hl:l.length≤18446744073709551616)(h0:Inv 0 s0)
  (hI:∀i s (hi:i<l.length),Inv i s→Inv (i+1) (g s l[i])) (hF:∀rec i s (hi:i<l.length),Inv i s→F rec (i,s)=rec (i+1,g s l[i])) (hE:∀rec s,Inv l.length s→F rec (l.length,s)=fin s):bX FUEL F (0,s0)=fin (l.foldl g s0):=by
 refine Zv (fun i s=>i≤l.length∧s=(i,(l.take i).foldl g s0)∧Inv i s.2) l.length _ hl ⟨Nat.zero_le _,rfl,h0⟩ (fun i s rec hi hv=> ?_) (fun s rec hv=> ?_)
 ·obtain⟨_,rfl,h3⟩:=hv
  have e:(l.take (i+1)).foldl g s0=g ((l.take i).foldl g s0) l[i]:=by rw[List.take_add_one,List.getElem?_eq_getElem hi,List.foldl_append];rfl
  refine .inl ⟨_,⟨hi,rfl,by rw[e];exact hI i _ hi h3⟩,?_⟩
  rw[hF rec i _ hi h3,e]
 ·obtain⟨_,rfl,h3⟩:=hv
  rw[hE rec _ h3,List.take_length]
theorem aD8 {f:α→List β}:∀{l:List α} {s:List β},l.foldl (fun s x=>s++f x) s=s++(l.map f).flatten
 |[],s=>by simp
 |x::l,s=>by simp only[List.foldl_cons,aD8 (l:=l),List.map_cons,List.flatten_cons,List.append_assoc]
theorem aV3 {f:α→β}:∀{l:List α} {s:List β},l.foldl (fun s x=>s++[f x]) s=s++l.map f
 |[],s=>by simp
 |x::l,s=>by simp only[List.foldl_cons,aV3 (l:=l),List.map_cons,List.append_assoc,List.singleton_append]
theorem jI {α:Type}{c:α→Nat}(h:∀x,1≤c x):∀(l:List α),l.length≤aG c l
 |[]=>by simp[aG]
 |x::l=>by
  have:=jI h l
  have:=h x
  simp only[aG,List.map_cons,List.sum_cons,List.length_cons] at*;omega
end
end Go.VK

namespace Go.VK
def RdA (w:World)(X:Nat→Prop):List V→Prop
 |[]=>True
 |c::cs=>(∃v,Rd w X [] v c)∧RdA w X cs
section
variable {w:World} {X:Nat→Prop}
theorem RdA.of:∀{cs:List V},(∀(i:Nat) (c:V),cs[i]? =some c→∃v,Rd w X [] v c)→RdA w X cs
 |[],_=>trivial
 |c::cs,h=>⟨h 0 c rfl,RdA.of fun i d hd=>h (i+1) d (by simpa using hd)⟩
theorem RdA.ofL {vs:List Value}{Us:List V}(h:RdL w X vs Us):RdA w X Us:=RdA.of fun i c hc=>by
 have hi:i<vs.length:=by
  rw[h.1]
  exact(List.getElem?_eq_some_iff.1 hc).1
 exact⟨vs[i],h.2 i vs[i] c (List.getElem?_eq_getElem hi) hc⟩
theorem RdA.agg {cs:List V}(h:∃v,Rd w X [] v (.agg cs)):RdA w X cs:=by
 obtain⟨v,h⟩:=h
 obtain⟨vs,rfl,hs,hr⟩:=Rd.aAX h
 exact RdA.of fun i c hc=>by
  have hi:i<vs.size:=by
   rw[hs]
   exact(List.getElem?_eq_some_iff.1 hc).1
  exact⟨vs[i],hr i vs[i] c (Array.getElem?_eq_getElem hi) hc⟩
theorem bK3 {s:ByteArray}(h:∃v,Rd w X [] v (.str s)):okS s:=by
 obtain⟨v,h⟩:=h
 exact(Rd.aAR h).2
theorem kX {α:Type}{k:Nat}{enc:α→List V}{l:List α}{p:α→Prop}(h:∃v,Rd w X [] v (.slice k (l.map enc)))(hp:∀y,RdA w X (enc y)→p y):jL p l:=by
 obtain⟨v,h⟩:=h
 refine⟨?_,fun y hy=>hp y ?_⟩
 ·obtain⟨A,c,rfl,h1,h2⟩:=h.aBB
  rw[List.length_map] at h1
  exact Nat.le_trans h1 h2
 ·obtain⟨i,hi,rfl⟩:=List.mem_iff_getElem.1 hy
  generalize he:l.map enc=es at h
  cases h with
  |slice0 h=>simp at he;subst he;simp at hi
  |slice hn hpos hc hm hX hb hk hcell hrd=>
   exact RdA.of fun j d hd=>⟨_,hrd i j (enc l[i]) d (by rw[←he,List.getElem?_map,List.getElem?_eq_getElem hi];rfl) hd⟩
end
theorem bIx {P:Program}{g:GI}{f:FuncId}{Us:List V}{R:V→Prop}{p:Prop}(he:∀args w,(callFunc f args).run P w= .ok (.enter f args) w)(h:p→Spec P g f Us R)(hp:∀w X,RdA w X Us→p):Spec P g f Us R:=
 ⟨he,fun w X vs hg hX hR=>(h (hp w X (RdA.ofL hR))).2 w X vs hg hX hR⟩
end Go.VK

namespace Go.VK
def bLv (n:Nat):GI where
 G w:=∃m,w.cell? ⟨n,0,none⟩=some (.int .i64 m)
 st _ _ h he:=by
  obtain⟨m,hm⟩:=h
  exact⟨m,he.cell hm⟩
theorem aJd (sep:ByteArray):∀(k:Nat) (s l:ByteArray),l∈Lib.splitB sep 0 k s→l.size≤s.size
 |0,s,l,h=>by
  rw[Lib.splitB_zero] at h
  rw[List.mem_singleton.1 h];exact Nat.le_refl _
 |k+1,s,l,h=>by
  unfold Lib.splitB at h
  split at h
  ·rw[List.mem_singleton.1 h];exact Nat.le_refl _
  ·rcases List.mem_cons.1 h with rfl|h
   ·exact ext_size _ _ _
   ·exact Nat.le_trans (aJd sep k _ l h) (ext_size _ _ _)
theorem bBw {P:Program}{F:FuncId}{T n:Nat}(hE:∀args w,(callFunc F args).run P w= .ok (.enter F args) w)
  (hS:∀(s sep:ByteArray) (m:Int) (w:World),s.size<4294967281→w.cell? ⟨n,0,none⟩=some (.int .i64 m)→1≤sep.size→Calls P F #[.string s, .string sep] w fun e w'=>
   e= .returned (.slice (some ⟨w.heap.size,0,none⟩) (Lib.countB s sep+1) (Lib.countB s sep+1))∧w'=w.alloc (.cells ((Lib.splitB sep 0 (Lib.countB s sep) s).map Value.string).toArray T))
  (s sep:ByteArray) (h1:s.size<4294967281) (h2:1≤sep.size):Spec P (bLv n) F [.str s, .str sep] (fun r=>r= .slice 1 ((jJ s sep).map sV)):=by
 refine⟨hE,fun w X0 vs hG hX0 hvs=> ?_⟩
 obtain⟨v,u,rfl⟩:∃v u,vs=[v,u]:=by
  match vs,hvs.1 with
  |[v,u],_=>exact⟨v,u,rfl⟩
 obtain⟨rfl,hv2⟩:=(hvs.2 0 v _ rfl rfl).aAR
 obtain⟨rfl,hu2⟩:=(hvs.2 1 u _ rfl rfl).aAR
 obtain⟨m,hm⟩:=hG
 refine(hS s sep m w h1 hm h2).mono ?_
 rintro e w' ⟨rfl,rfl⟩
 have hl:(jJ s sep).length=Lib.countB s sep+1:=Lib.splitB_all sep h2 0 _ s rfl
 have hn:Lib.countB s sep+1=((jJ s sep).map sV).length:=by rw[List.length_map];exact hl.symm
 have hcnt:Lib.countB s sep≤s.size+1:=Lib.count_le s.data.toList sep.data.toList
 have hsz:∀l∈jJ s sep,l.size≤s.size:=fun l h=>aJd sep _ s l h
 refine⟨_,_,rfl,rfl,?_,Ext.alloc w _⟩
 have hget:∀(i j:Nat) (e:List V) (d:V),((jJ s sep).map sV)[i]? =some e→e[j]? =some d→∃l,(jJ s sep)[i]? =some l∧j=0∧d= .str l:=by
  intro i j e d h3 h4
  rw[List.getElem?_map] at h3
  obtain⟨l,hl,rfl⟩:=Option.map_eq_some_iff.1 h3
  cases j with
  |zero=>exact⟨l,hl,rfl,by simpa[sV] using h4.symm⟩
  |succ j=>simp[sV] at h4
 refine .slice (val:=fun i j=> .string ((jJ s sep).getD i ⟨#[]⟩)) hn (by rw[←hn];omega) (Nat.le_refl _) (by unfold maxLen;omega) (fun hxx=>by have:=hX0 _ hxx;simp at this) (by simp)
  (fun e he=>by obtain⟨l,_,rfl⟩:=List.mem_map.1 he;rfl) (fun i j e d h3 h4=> ?_) (fun i j e d h3 h4=> ?_)
 ·obtain⟨l,h5,rfl,rfl⟩:=hget i j e d h3 h4
  rw[kU,Nat.zero_add,Nat.mul_one,Nat.add_zero]
  have h6:(Lib.splitB sep 0 (Lib.countB s sep) s)[i]? =some l:=h5
  rw[World.cell?_alloc_new]
  simp[List.getD,h5,h6]
 ·obtain⟨l,h5,rfl,rfl⟩:=hget i j e d h3 h4
  have:=hsz l (List.mem_of_getElem? h5)
  have e6:(jJ s sep).getD i ⟨#[]⟩=l:=by simp[List.getD,h5]
  rw[e6]
  exact .str (by unfold maxLen;omega)
end Go.VK
namespace Go
variable {H:Type} {enc:TypeId×Value→H}
theorem VK.aBL {a:Assume}{C:Checked}{os:Os}{f:FuncId}{fn:Func}{s:ChangeSpec}{conds:List PathCond}{apart fresh handsOn again:Bool}{X:World→Array Value→Prop}
  (hX:∀(w w':World) (args:Array Value),w.heap=w'.heap→X w args→X w' args)
  (own:ownKnob C.prog.godebug=none) (started:os.Started) (noInit:C.prog.inits.idxOf? f=none) (hfn:C.prog.funcs[f]? =some fn)
  (witness:∃(w:World) (tape:Tape) (i:Input),w.os=os∧(w.forCall tape i).Shaped C.prog∧i.vars=[]∧Input.okWide C.prog (w.forCall tape i) .any w.heap.size f i∧
   ((s.pre enc C.prog fn conds apart (w.forCall tape i).memory i.args∧X (w.forCall tape i).memory i.args)∧sizedMet enc C.prog fn (OpenSpec.ofChange s) apart (w.forCall tape i).memory i.args)∧a.holds C.prog (lone (Frame.enter C.prog f i.args .normal) [] (w.forCall tape i)))
  (contract:∀(W:World) (base:Nat) (args:Array Value) (ds gs:List (DataW H)) (before:List MemPlace),
   (∀(j:Nat) t v,fn.params[j]? =some t→args[j]? =some v→Value.okWide C.prog W .any base t v)→
   DataW.Whole enc C.prog fn.params.toList s.vars apart W args.toList ds gs before→
   X W args→W.ShapedOpen C.prog→
   Calls C.prog f args W fun e W'=>∃v,e= .returned v∧s.post enc C.prog fn apart fresh handsOn again W args v W'):
  ReturnsInHanded a C os f .any (fun w args=>(s.pre enc C.prog fn conds apart w args∧X w args)∧sizedMet enc C.prog fn (OpenSpec.ofChange s) apart w args) (s.post enc C.prog fn apart fresh handsOn again):=by
 refine returnsInHanded_of_calls own started noInit witness ?_
 intro w tape i _ hsh _ hok hpre hholds
 obtain⟨_,_,_,fn',hfn',_,_,_,_,hval⟩:=hok
 have e:fn'=fn:=Option.some.inj (hfn'.symm.trans hfn)
 subst e
 obtain⟨⟨⟨ds,gs,before,hw,hc⟩,hx⟩,hz⟩:=hpre
 have hw':=DataW.Whole.of_heap (w':=w.forCall tape i) (by rfl) hw
 refine(contract (w.forCall tape i) w.heap.size i.args ds gs before hval hw' (hX _ _ _ (by rfl) hx) hsh).mono fun e W' ⟨v,he,hp⟩=> ?_
 subst he
 exact ChangeSpec.post_blind hp
end Go

namespace Go.EV
open Go.RowKit Go.VK
variable {U:Uni} {Y:Lay U} {P:Program} {g:GI} {C:Cod U}
theorem OwP.rd {w:World}{Z:Nat→Prop}{v:Value}{B:List Nat}:∀{x:Bool×List (Lf U)},OwP C w v B x→(∀b∈B,¬Z b)→Rd w Z [] v (Ig x)
 |(true,cs),h,hB=>by
  obtain⟨vs,rfl,ho⟩:=h
  obtain⟨h1,h2⟩:=(OwL.aBK (X':=Z) rfl ho).rd (Z:=Z) (fun _ h=>h) hB
  refine .agg (by simpa using h1) fun i v c h3 h4=> ?_
  rw[List.getElem?_map] at h4
  obtain⟨x,h5,rfl⟩:=Option.map_eq_some_iff.1 h4
  exact h2 i v x (by simpa using h3) h5
 |(false,cs),h,hB=>by
  obtain⟨c,rfl,ho⟩:=h
  exact(Ow.aBK (X':=Z) rfl ho).rd (fun _ h=>h) hB
theorem OwPs.rd {w:World}{Z:Nat→Prop}:∀{vs:List Value} {xs:List (Bool×List (Lf U))} {B:List Nat},OwPs C w vs xs B→(∀b∈B,¬Z b)→vs.length=(xs.map Ig).length∧∀(i:Nat) (v:Value) (c:V),vs[i]? =some v→(xs.map Ig)[i]? =some c→Rd w Z [] v c
 |_,_,_, .n,_=>⟨rfl,fun i v c h=>by simp at h⟩
 |_,_,_, .c h hr,hB=>by
  obtain⟨h1,h2⟩:=hr.rd (Z:=Z) fun b hb=>hB b (List.mem_append.2 (.inr hb))
  refine⟨by simp only[List.length_cons,List.map_cons,h1],fun i v c h3 h4=> ?_⟩
  cases i with
  |zero=>
   simp only[List.getElem?_cons_zero,List.map_cons,Option.some.injEq] at h3 h4
   subst h3;subst h4
   exact h.rd fun b hb=>hB b (List.mem_append.2 (.inl hb))
  |succ i=>exact h2 i v c (by simpa using h3) (by simpa using h4)
theorem OwR.rd {w:World}{Z:Nat→Prop}{v:Value}{B:List Nat}{cps:List (Bool×List (Lf U))}(h:OwR C w v cps B)(hB:∀b∈B,¬Z b):Rd w Z [] v (vE (cps.map Ig)):=by
 unfold OwR at h
 split at h
 ·exact h.rd hB
 ·rename_i hne
  obtain⟨vs,rfl,ho⟩:=h
  obtain⟨h1,h2⟩:=ho.rd hB
  have e:vE (cps.map Ig)= .tup (cps.map Ig):=by
   match cps,hne with
   |[],_=>rfl
   |[x],hne=>exact absurd rfl (hne x)
   |x::y::r,_=>rfl
  rw[e]
  exact .tup (by simpa using h1) fun i v c h3 h4=>h2 i v c (by simpa using h3) h4
def Sum.pl (S:Sum U):Sum U:=⟨S.ar,S.rs,false,S.wt,S.m⟩
theorem bK4 {f:FuncId}{S:Sum U}(h:Ih P g Y f S)(hw:S.wt=false)(hf:S.fr=true):Ih P g Y f S.pl:=fun a r hr=>by
 obtain⟨_,h2,_⟩:=h a r hr
 obtain⟨k1,k2⟩:=h2 hw hf
 refine⟨fun _ _=>⟨k1,fun w X vs hG hX hrd=>(k2 w X vs hG hX hrd).mono fun e w' hq=> ?_⟩,fun _ h=>(by cases h),fun hh=>by
  have hh:S.wt=true:=hh
  rw[hw] at hh;cases hh⟩
 obtain⟨v,B,e1,e2,e3,e4,e5⟩:=hq
 exact⟨v,_,e1,rfl,e5.rd fun b hb hx=>by have:=e4 b hb;have:=hX b hx;omega,e2⟩
end Go.EV
