import Derived.Test.YtaaefkcjgkpckaaGreatDoorXoFF
/- What holds in all worlds that events lead to: plain laws over the pure definitions, no program in sight. The conditions stand in each. -/
set_option linter.unusedVariables false
set_option maxRecDepth 100000
namespace Go.VK
theorem jV {h:Int}(v:Int)(h0:0≤h∧h<2147483647):∃q,hstep h v=h*1000003+v+13-2147483647*q∧(0≤hstep h v∧hstep h v<2147483647):=by
 obtain⟨h0,h1⟩:=h0
 have hm:=iR (p:=v) (q:=2147483647) (by decide)
 have hv:aZ v 2147483647=v%2147483647:=if_pos (by decide)
 have e:hstep h v=(h*1000003+v+13)%2147483647:=by
  unfold hstep
  rw[aG (n:=h*1000003) (by omega) (by omega),aG (n:=h*1000003+aZ v 2147483647) (by omega) (by omega),aG (by omega) (by omega),Int.tmod_eq_emod_of_nonneg (by omega),hv]
  omega
 rw[e]
 refine⟨(h*1000003+v+13)/2147483647,?_,Int.emod_nonneg _ (by decide),Int.emod_lt_of_pos _ (by decide)⟩
 have:=Int.emod_add_mul_ediv (h*1000003+v+13) 2147483647
 omega
theorem bBb (k a b:Int):∃q,aX k [a,b]=k*1000009000027000028+a*1000006000009+b*1000003+11000145000724001630001411-2147483647*q:=by
 simp only[aX,rT,List.flatten_cons,List.flatten_nil,List.append_nil,List.cons_append,List.nil_append,List.foldl_cons,List.foldl_nil]
 obtain⟨q0,e0,r0⟩:=jV k (h:=11) ⟨by decide,by decide⟩
 generalize hstep 11 k=y0 at*
 obtain⟨q1,e1,r1⟩:=jV a (h:=y0) r0
 generalize hstep y0 a=y1 at*
 obtain⟨q2,e2,r2⟩:=jV b (h:=y1) r1
 generalize hstep y1 b=y2 at*
 obtain⟨q3,e3,r3⟩:=jV k (h:=y2) r2
 generalize hstep y2 k=y3 at*
 exact⟨q0*1000009000027000027+q1*1000006000009+q2*1000003+q3*1,by omega⟩
theorem bBc (k a b c:Int):∃q,aX k [a,b,c]=k*1000012000054000108000082+a*1000009000027000027+b*1000006000009+c*1000003+11000178001159003802006301004246-2147483647*q:=by
 simp only[aX,rT,List.flatten_cons,List.flatten_nil,List.append_nil,List.cons_append,List.nil_append,List.foldl_cons,List.foldl_nil]
 obtain⟨q0,e0,r0⟩:=jV k (h:=11) ⟨by decide,by decide⟩
 generalize hstep 11 k=y0 at*
 obtain⟨q1,e1,r1⟩:=jV a (h:=y0) r0
 generalize hstep y0 a=y1 at*
 obtain⟨q2,e2,r2⟩:=jV b (h:=y1) r1
 generalize hstep y1 b=y2 at*
 obtain⟨q3,e3,r3⟩:=jV c (h:=y2) r2
 generalize hstep y2 c=y3 at*
 obtain⟨q4,e4,r4⟩:=jV k (h:=y3) r3
 generalize hstep y3 k=y4 at*
 exact⟨q0*1000012000054000108000081+q1*1000009000027000027+q2*1000006000009+q3*1000003+q4*1,by omega⟩
theorem bBd (k a b c d:Int):∃q,aX k [a,b,c,d]=k*1000015000090000270000405000244+a*1000012000054000108000081+b*1000009000027000027+c*1000006000009+d*1000003+11000211001693007279017707023149012751-2147483647*q:=by
 simp only[aX,rT,List.flatten_cons,List.flatten_nil,List.append_nil,List.cons_append,List.nil_append,List.foldl_cons,List.foldl_nil]
 obtain⟨q0,e0,r0⟩:=jV k (h:=11) ⟨by decide,by decide⟩
 generalize hstep 11 k=y0 at*
 obtain⟨q1,e1,r1⟩:=jV a (h:=y0) r0
 generalize hstep y0 a=y1 at*
 obtain⟨q2,e2,r2⟩:=jV b (h:=y1) r1
 generalize hstep y1 b=y2 at*
 obtain⟨q3,e3,r3⟩:=jV c (h:=y2) r2
 generalize hstep y2 c=y3 at*
 obtain⟨q4,e4,r4⟩:=jV d (h:=y3) r3
 generalize hstep y3 d=y4 at*
 obtain⟨q5,e5,r5⟩:=jV k (h:=y4) r4
 generalize hstep y4 k=y5 at*
 exact⟨q0*1000015000090000270000405000243+q1*1000012000054000108000081+q2*1000009000027000027+q3*1000006000009+q4*1000003+q5*1,by omega⟩
theorem Nn (n:Int):∃e,gG n=n+e∧0≤e∧e≤1:=by
 unfold gG
 by_cases h:n=0
 ·subst h;exact⟨1,rfl,by decide,by decide⟩
 ·rw[beq_eq_false_iff_ne.2 h];exact⟨0,by simp,by decide,by decide⟩
theorem bBe (s i:Int):(aJ s i).Seed=gG (aX s [151,277,i]):=by
 unfold aJ aK;simp only[List.cons_append,List.nil_append]
theorem bBf (s:D.aAI):gW s=gG (aX s.Seed [151,181]):=by
 unfold gW aK;simp only[List.cons_append,List.nil_append]
theorem aVo (s:D.aAI)(n:ByteArray)(i:Int):fK s n i=gG (aX s.Seed [151,179,bT n,i]):=by
 unfold fK aK;simp only[List.cons_append,List.nil_append]
theorem aRd (s i k:Int):∃e q,(aJ s i).Seed-(aJ s k).Seed=(i-k)*1000003+e+2147483647*q∧-1≤e∧e≤1:=by
 have hi:(aJ s i).Seed=gG (aX s [151,277,i]):=bBe s i
 have hk:(aJ s k).Seed=gG (aX s [151,277,k]):=bBe s k
 obtain⟨e1,a1,a2,a3⟩:=Nn (aX s [151,277,i])
 obtain⟨e2,b1,b2,b3⟩:=Nn (aX s [151,277,k])
 obtain⟨q1,c1⟩:=bBc s 151 277 i
 obtain⟨q2,c2⟩:=bBc s 151 277 k
 rw[hi,hk,a1,b1,c1,c2]
 exact⟨e1-e2,q2-q1,by omega,by omega,by omega⟩
def dfs:List Int:=[-5,-4,-3,-2,-1,0,1,2,3,4,5]
def aXv:List Int:=[-1,0,1]
theorem aVp {d:Int}(h1: -5≤d)(h2:d≤5):d∈dfs:=by simp only[dfs,List.mem_cons,List.not_mem_nil,or_false];omega
theorem Ym {d:Int}(h1: -1≤d)(h2:d≤1):d∈aXv:=by simp only[aXv,List.mem_cons,List.not_mem_nil,or_false];omega
theorem bDu:(dfs.all fun d=>d==0||aXv.all fun e=>aXv.all fun z=> !((d*1000003+e)*1000009000027000028-z)%2147483647==0)=true:=by kernel_rfl
theorem aXw {s i k:Int}(hi:0≤i∧i<6)(hk:0≤k∧k<6)(h:i≠k):gW (aJ s i)≠gW (aJ s k):=by
 intro he
 obtain⟨e,q,d1,d2,d3⟩:=aRd s i k
 have h1:gW (aJ s i)=gG (aX (aJ s i).Seed [151,181]):=bBf _
 have h2:gW (aJ s k)=gG (aX (aJ s k).Seed [151,181]):=bBf _
 obtain⟨e1,a1,a2,a3⟩:=Nn (aX (aJ s i).Seed [151,181])
 obtain⟨e2,b1,b2,b3⟩:=Nn (aX (aJ s k).Seed [151,181])
 obtain⟨q1,c1⟩:=bBb (aJ s i).Seed 151 181
 obtain⟨q2,c2⟩:=bBb (aJ s k).Seed 151 181
 rw[h1,h2,a1,b1,c1,c2] at he
 have hz:(((i-k)*1000003+e)*1000009000027000028-(e2-e1))%2147483647=0:=by
  clear h1 h2 a1 b1 c1 c2
  generalize(aJ s i).Seed=x at*
  generalize(aJ s k).Seed=y at*
  omega
 have:=List.all_eq_true.1 bDu (i-k) (aVp (by omega) (by omega))
 rw[beq_eq_false_iff_ne.2 (show i-k≠0 by omega),Bool.false_or] at this
 have:=List.all_eq_true.1 (List.all_eq_true.1 this e (Ym d2 d3)) (e2-e1) (Ym (by omega) (by omega))
 rw[hz] at this;cases this
def hs1:Int:=1464438180
theorem bKd:bT (aD 0)=1941999745:=by kernel_rfl
theorem bKe:bT (aD 1)=1464438180:=by kernel_rfl
theorem bBg:(dfs.all fun d=>[0,477561565,-477561565].all fun(g:Int)=>(d==0&&g==0)||aXv.all fun e=>aXv.all fun z=> !((d*1000003+e)*1000015000090000270000405000244+g*1000006000009+d*1000003-z)%2147483647==0)=true:=by kernel_rfl
theorem aRe {s i k j l:Int}(hi:0≤i∧i<6)(hk:0≤k∧k<6)(hj:j=0∨j=1)(hl:l=0∨l=1)(h:i≠k∨j≠l):fK (aJ s i) (aD j) i≠fK (aJ s k) (aD l) k:=by
 intro he
 obtain⟨e,q,d1,d2,d3⟩:=aRd s i k
 have h1:fK (aJ s i) (aD j) i=gG (aX (aJ s i).Seed [151,179,bT (aD j),i]):=aVo _ _ _
 have h2:fK (aJ s k) (aD l) k=gG (aX (aJ s k).Seed [151,179,bT (aD l),k]):=aVo _ _ _
 obtain⟨e1,a1,a2,a3⟩:=Nn (aX (aJ s i).Seed [151,179,bT (aD j),i])
 obtain⟨e2,b1,b2,b3⟩:=Nn (aX (aJ s k).Seed [151,179,bT (aD l),k])
 obtain⟨q1,c1⟩:=bBd (aJ s i).Seed 151 179 (bT (aD j)) i
 obtain⟨q2,c2⟩:=bBd (aJ s k).Seed 151 179 (bT (aD l)) k
 rw[h1,h2,a1,b1,c1,c2] at he
 obtain⟨g,hg,hg2⟩:∃g,bT (aD j)-bT (aD l)=g∧(g∈[0,477561565,(-477561565:Int)]∧(j≠l→g≠0)):=by
  rcases hj with rfl|rfl<;>rcases hl with rfl|rfl<;>simp only[bKd,bKe]
  ·exact⟨0,by decide,by decide,by decide⟩
  ·exact⟨477561565,by decide,by decide,by decide⟩
  ·exact⟨-477561565,by decide,by decide,by decide⟩
  ·exact⟨0,by decide,by decide,by decide⟩
 have hz:(((i-k)*1000003+e)*1000015000090000270000405000244+g*1000006000009+(i-k)*1000003-(e2-e1))%2147483647=0:=by
  clear h1 h2 a1 b1 c1 c2
  generalize(aJ s i).Seed=x at*
  generalize(aJ s k).Seed=y at*
  generalize bT (aD j)=x1 at*
  generalize bT (aD l)=y1 at*
  clear hg2 hj hl h
  omega
 have:=List.all_eq_true.1 (List.all_eq_true.1 bBg (i-k) (aVp (by omega) (by omega))) g hg2.1
 rw[show(i-k==0&&g==0)=false by
  rcases h with h|h
  ·rw[beq_eq_false_iff_ne.2 (show i-k≠0 by omega)];rfl
  ·rw[beq_eq_false_iff_ne.2 (hg2.2 h),Bool.and_false],Bool.false_or] at this
 have:=List.all_eq_true.1 (List.all_eq_true.1 this e (Ym d2 d3)) (e2-e1) (Ym (by omega) (by omega))
 rw[hz] at this;cases this
theorem aXx {n:Int}(h:0≤n∧n<2147483647):bJ (gG n)=true:=by
 unfold gG bJ aW
 by_cases h0:n=0
 ·subst h0;rfl
 ·rw[beq_eq_false_iff_ne.2 h0,cond_false,decide_eq_true (show 1≤n by omega),decide_eq_true (show n≤2147483646 by omega)];rfl
theorem dU (s:Int)(l:List Int):bJ (aK s l)=true:=aXx (jR _ _)
theorem aMt {k:Int}(h:bJ k=true):1≤k∧k≤2147483646:=gM h
theorem bEz {k:Int}(h:bJ k=true):fC k=k*48271%2147483647:=by
 have:=aMt h
 unfold fC
 rw[h,Bool.not_true,cond_false,aG (by omega) (by omega),Int.tmod_eq_emod_of_nonneg (by omega)]
theorem aVq {k:Int}(h:bJ k=true):bJ (fC k)=true:=by
 have:=aMt h
 rw[bEz h]
 have:k*48271%2147483647≠0:=by omega
 unfold bJ aW
 rw[decide_eq_true (show 1≤k*48271%2147483647 by omega),decide_eq_true (show k*48271%2147483647≤2147483646 by omega)];rfl
theorem Yo {k:Int}(h:bJ k=true):dW (fC k)=k:=by
 have:=aMt h
 unfold dW
 rw[aVq h,Bool.not_true,cond_false,bEz h]
 omega
theorem aVr {a b:Int}(ha:bJ a=true)(hb:bJ b=true)(h:fC a=fC b):a=b:=by
 rw[←Yo ha,h,Yo hb]
theorem aTi {s i k j l:Int}(hi:0≤i∧i<6)(hk:0≤k∧k<6)(hj:j=0∨j=1)(hl:l=0∨l=1)(h:i≠k∨j≠l):fF (aJ s i) (aD j) i≠fF (aJ s k) (aD l) k:=
 fun he=>aRe hi hk hj hl h (aVr (dU _ _) (dU _ _) he)
theorem aXy {s i k:Int}(hi:0≤i∧i<6)(hk:0≤k∧k<6)(h:i≠k):bN (aJ s i)≠bN (aJ s k):=
 fun he=>aXw hi hk h (aVr (dU _ _) (dU _ _) he)
end Go.VK

set_option maxRecDepth 100000
namespace Go.VK
theorem aGw {α:Type}{p:Nat→α→Bool}:∀{l:List α} {i:Nat},(∀k (h:k<l.length),p (i+k) l[k]=false)→dJ p i l=false
 |[],i,_=>rfl
 |x::l,i,h=>by
  have h0:=h 0 (by simp)
  have ih:=aGw (p:=p) (l:=l) (i:=i+1) (fun k hk=>by
   have:=h (k+1) (by simpa using hk)
   rw[show i+1+k=i+(k+1) by omega];simpa using this)
  simp only[dJ,Nat.add_zero,List.getElem_cons_zero] at h0 ⊢
  rw[h0,ih];rfl
theorem aTj {α:Type}{p:Nat→α→Bool}:∀{l:List α} {i:Nat},dJ p i l=false→∀k (h:k<l.length),p (i+k) l[k]=false
 |x::l,i,h,0,_=>by simp only[dJ,Bool.or_eq_false_iff] at h;simpa using h.1
 |x::l,i,h,k+1,hk=>by
  simp only[dJ,Bool.or_eq_false_iff] at h
  have:=aTj h.2 k (by simpa using hk)
  rw[show i+(k+1)=i+1+k by omega];simpa using this
def Iz (seed j:Int)(k:Nat):Int:=fF (aJ seed (k:Int)) (aD j) (k:Int)
def aJ5 (seed j:Int)(l:List D.aAK):Prop:=∀k (h:k<l.length),l[k].Handle=(k:Int)∧l[k].Public=Iz seed j k∧0≤l[k].Counter∧l[k].Counter≤1000000
theorem gT {x a b:Int}(h1:a≤x)(h2:x≤b):aW x a b=true:=by unfold aW;rw[decide_eq_true h1,decide_eq_true h2];rfl
theorem bDv {seed j l:Int}{i k:Nat}(hi:i<6)(hk:k<6)(hj:j=0∨j=1)(hl:l=0∨l=1)(h:i≠k∨j≠l):Iz seed j i≠Iz seed l k:=
 aTi (by omega) (by omega) hj hl (by omega)
theorem aXz (seed j:Int)(k:Nat):dW (Iz seed j k)=fK (aJ seed (k:Int)) (aD j) (k:Int):=by
 unfold Iz fF
 exact Yo (by unfold fK;exact dU _ _)
theorem aTk {seed j m:Int}{l:List D.aAK}(hj:j=0∨j=1)(h:aJ5 seed j l)(hl:l.length≤6)(hm:1≤m∧m≤3):bC ⟨1,m,l⟩=true:=by
 have ha:dJ (qG ⟨1,m,l⟩) 0 l=false:=aGw fun k hk=>by
  obtain⟨h1,h2,h3,h4⟩:=h k hk
  have hp:=aMt (dU (aJ seed (k:Int)).Seed [179,bT (aD j),(k:Int)])
  unfold qG
  rw[Nat.zero_add,h1,gT (by omega) (by omega),h2,aXz,beq_eq_false_iff_ne.2 (show fK (aJ seed (k:Int)) (aD j) (k:Int)≠0 by unfold fK;omega),gT h3 h4]
  have e1:(decide (0<k)&&decide ((l.getD (k-1) default).Handle≥(k:Int)))=false:=by
   by_cases hk0:0<k
   ·have hk1:k-1<l.length:=by omega
    have:=(h (k-1) hk1).1
    rw[List.getD,List.getElem?_eq_getElem hk1,Option.getD_some,this,decide_eq_false (show ¬((k-1:Nat):Int)≥(k:Int) by omega),Bool.and_false]
   ·rw[decide_eq_false hk0,Bool.false_and]
  have e2:((l.take k).any fun q=>q.Public==Iz seed j k)=false:=by
   rw[List.any_eq_false]
   intro q hq
   obtain⟨i,hi,rfl⟩:=List.mem_iff_getElem.1 hq
   rw[List.length_take] at hi
   rw[List.getElem_take,(h i (by omega)).2.1]
   simp only[beq_iff_eq]
   exact bDv (by omega) (by omega) hj hj (.inl (by omega))
  show(!true||((decide (0<k)&&decide ((l.getD (k-1) default).Handle≥(k:Int)))||(false|| !true))||(l.take k).any fun q=>q.Public==Iz seed j k)=false
  rw[e1,e2];rfl
 unfold bC
 show(aW 1 0 1000000&&aW m 1 3&&decide (l.length≤8)&& !dJ (qG ⟨1,m,l⟩) 0 l)=true
 rw[ha,gT hm.1 hm.2,decide_eq_true (show l.length≤8 by omega)];rfl
structure SiteIn (seed j:Int) (n:Nat) (s:D.Site):Prop where
 name:s.Name=aD j
 book:iM s.Book=true
 key:bJ s.Book.Seed=true
 acc:∃l,s.Accounts=[⟨1,3,l⟩]∧aJ5 seed j l∧l.length=n
theorem U1 {j:Int}(hj:j=0∨j=1):(gH (aD j)&&decide (2≤(aU (aD j)).length))=true:=by
 rcases hj with rfl|rfl<;>kernel_rfl
theorem SiteIn.ok {seed j:Int}{n:Nat}{s:D.Site}(hj:j=0∨j=1)(hn:n≤6)(h:SiteIn seed j n s):dQ s=true:=by
 obtain⟨h1,h2,h3,l,h4,h5,h6⟩:=h
 unfold dQ iN
 rw[h1,U1 hj,h3,h2,h4]
 show(true&&true&&decide (1≤8)&&true&& !(Cq [⟨1,3,l⟩] 0 ⟨1,3,l⟩||false))=true
 unfold Cq
 rw[aTk hj h5 (by omega) ⟨by decide,by decide⟩];rfl
theorem SiteIn.find {seed j:Int}{n:Nat}{s:D.Site}(h:SiteIn seed j n s):aQ s 1=0:=by
 obtain⟨_,_,_,l,h4,_⟩:=h
 unfold aQ;rw[h4];rfl
theorem aMu {α:Type}{p:α→Bool}:∀{l:List α},(∀c∈l,p c=true)→l.takeWhile p=l
 |[],_=>rfl
 |x::l,h=>by rw[List.takeWhile_cons,h x (by simp),if_pos rfl,aMu (fun c hc=>h c (by simp[hc]))]
theorem bBh {l:List D.aAK}{p:Int}(h:∀k (h:k<l.length),l[k].Handle=(k:Int)):aCz l (l.length:Int) p=l++[⟨(l.length:Int),p,0,false⟩]:=by
 have:Sc (l.length:Int) l=l.length:=by
  unfold Sc
  rw[aMu]
  intro c hc
  obtain⟨i,hi,rfl⟩:=List.mem_iff_getElem.1 hc
  rw[h i hi];exact decide_eq_true (by omega)
 unfold aCz
 rw[this,List.take_length,List.drop_length,List.append_nil]
theorem aJ5.snoc {seed j:Int}{l:List D.aAK}(h:aJ5 seed j l):aJ5 seed j (l++[⟨(l.length:Int),Iz seed j l.length,0,false⟩]):=by
 intro k hk
 by_cases hk1:k<l.length
 ·rw[List.getElem_append_left hk1];exact h k hk1
 ·have:k=l.length:=by simp at hk;omega
  subst this
  simp
theorem SiteIn.reg {seed j:Int}{n:Nat}{s:D.Site}(hj:j=0∨j=1)(hn:n<6)(h:SiteIn seed j n s):
  (iA s 1 (n:Int) (Iz seed j n)).2=true∧SiteIn seed j (n+1) (iA s 1 (n:Int) (Iz seed j n)).1:=by
 have hok:=h.ok hj (by omega)
 have hf:=h.find
 obtain⟨h1,h2,h3,l,h4,h5,h6⟩:=h
 subst h6
 have ha:(s.Accounts.getD (aQ s 1).toNat default)=⟨1,3,l⟩:=by rw[hf,h4];rfl
 have hi:=bBh (p:=Iz seed j l.length) (fun k hk=>(h5 k hk).1)
 have hs:=h5.snoc
 have e1:=aTk (m:=3) hj h5 (by omega) ⟨by decide,by decide⟩
 have e2:=aTk (m:=3) hj hs (by simp;omega) ⟨by decide,by decide⟩
 have hadd:gB ⟨1,3,l⟩ (l.length:Int) (Iz seed j l.length)=(⟨1,3,l++[⟨(l.length:Int),Iz seed j l.length,0,false⟩]⟩,true):=by
  unfold gB
  rw[e1]
  show(bif !true|| !bC ⟨1,3,aCz l (l.length:Int) (Iz seed j l.length)⟩ then _ else _)=_
  rw[hi,e2];rfl
 unfold iA
 rw[hok,hf,show decide ((0:Int)<0)=false from rfl,←hf,ha,hadd,hf,h4]
 exact⟨rfl,h1,h2,h3,_,rfl,hs,by simp⟩
theorem aTl {seed j:Int}(hj:j=0∨j=1):SiteIn seed j 0 (kT (eH (aD j) (aK seed [281,j])) 1 3).1:=by
 have hk:=dU seed [281,j]
 generalize aK seed [281,j]=q at*
 have hn:eH (aD j) q=⟨aD j,[],⟨q,0,[]⟩,[]⟩:=by
  unfold eH iN
  rw[U1 hj,hk];rfl
 have hb:iM ⟨q,0,[]⟩=true:=rfl
 have hin:SiteIn seed j 0 (mD ⟨aD j,[],⟨q,0,[]⟩,[]⟩ 1 3):=
  ⟨rfl,hb,hk,[],rfl,fun k hk=>by simp at hk,rfl⟩
 have h0:dQ ⟨aD j,[],⟨q,0,[]⟩,[]⟩=true:=by
  unfold dQ iN
  rw[U1 hj,hk];rfl
 unfold kT
 rw[hn,h0,hin.ok hj (by omega)]
 exact hin
theorem aGx {seed j:Int}(hj:j=0∨j=1):∀(m i:Nat) (s:D.Site),SiteIn seed j i s→i+m≤6→
  SiteIn seed j (i+m) (qH (aD j) i ((List.range' i m).map fun(k:Nat)=>bQ (aJ seed (k:Int))) s)
 |0,i,s,h,_=>h
 |m+1,i,s,h,hm=>by
  have:=aGx hj m (i+1) _ (h.reg hj (by omega)).2 (by omega)
  rw[show i+1+m=i+(m+1) by omega] at this
  exact this
theorem aCi {seed j:Int}(hj:j=0∨j=1){n:Nat}(hn:n≤6):SiteIn seed j n (Iu seed (bO seed n) j):=by
 have:=aGx hj n 0 _ (aTl (seed:=seed) hj) (by omega)
 rw[Nat.zero_add,←List.range_eq_range'] at this
 exact this
end Go.VK

set_option maxRecDepth 100000
namespace Go.VK
theorem aRf {α:Type}{r:α→α→Prop}(ht:∀a b c,r a b→r b c→r a c):∀{l:List α},(∀k (h:k+1<l.length),r l[k] l[k+1])→l.Pairwise r
 |[],_=> .nil
 |[x],_=>List.pairwise_singleton r x
 |x::y::l,h=>by
  have ih:=aRf (r:=r) ht (l:=y::l) (fun k hk=>by have:=h (k+1) (by simpa using hk);simpa using this)
  refine List.pairwise_cons.2 ⟨fun z hz=> ?_,ih⟩
  have h0:r x y:=by simpa using h 0 (by simp)
  rcases List.mem_cons.1 hz with rfl|hz
  ·exact h0
  ·exact ht _ _ _ h0 ((List.pairwise_cons.1 ih).1 z hz)
structure BookIn (b:D.aAF):Prop where
 next:0≤b.Next∧b.Next≤1000000
 len:b.Open.length≤16
 ord:b.Open.Pairwise (fun a c=>a.Id<c.Id)
 all:∀c∈b.Open,(0≤c.Id∧c.Id<b.Next)∧(0≤c.aAG∧c.aAG≤1000005)∧(0≤c.Until∧c.Until≤1000005)
theorem BookIn.ok {b:D.aAF}(h:BookIn b):iM b=true:=by
 obtain⟨h1,h2,h3,h4⟩:=h
 have ha:dJ (fO b) 0 b.Open=false:=aGw fun k hk=>by
  obtain⟨a1,a2,a3⟩:=h4 b.Open[k] (List.getElem_mem hk)
  unfold fO
  rw[Nat.zero_add,aG (by omega) (by omega),gT (by omega) (by omega),gT a2.1 a2.2,gT a3.1 a3.2]
  have e1:(decide (0<k)&&decide ((b.Open.getD (k-1) default).Id≥b.Open[k].Id))=false:=by
   by_cases hk0:0<k
   ·have hk1:k-1<b.Open.length:=by omega
    have:=List.pairwise_iff_getElem.1 h3 (k-1) k hk1 hk (by omega)
    rw[List.getD,List.getElem?_eq_getElem hk1,Option.getD_some,decide_eq_false (show ¬b.Open[k-1].Id≥b.Open[k].Id by omega),Bool.and_false]
   ·rw[decide_eq_false hk0,Bool.false_and]
  rw[e1];rfl
 unfold iM
 rw[ha,gT h1.1 h1.2,decide_eq_true h2];rfl
theorem bDw {b:D.aAF}(h:iM b=true):BookIn b:=by
 unfold iM at h
 simp only[Bool.and_eq_true,decide_eq_true_eq,Bool.not_eq_true'] at h
 obtain⟨⟨h1,h2⟩,h3⟩:=h
 have h1:=gM h1
 have hg:∀k (hk:k<b.Open.length),((0≤b.Open[k].Id∧b.Open[k].Id<b.Next)∧(0≤b.Open[k].aAG∧b.Open[k].aAG≤1000005)∧(0≤b.Open[k].Until∧b.Open[k].Until≤1000005))∧(0<k→(b.Open.getD (k-1) default).Id<b.Open[k].Id):=fun k hk=>by
  have:=aTj h3 k hk
  unfold fO at this
  rw[Nat.zero_add,aG (by omega) (by omega)] at this
  simp only[Bool.or_eq_false_iff,Bool.not_eq_false',Bool.and_eq_false_iff,decide_eq_false_iff_not] at this
  obtain⟨a1,a2,a3,a4⟩:=this
  have a1:=gM a1
  have a3:=gM a3
  have a4:=gM a4
  exact⟨⟨⟨a1.1,by omega⟩,⟨a3.1,a3.2⟩,a4.1,a4.2⟩,fun h0=>by rcases a2 with a2|a2<;>omega⟩
 refine⟨⟨h1.1,h1.2⟩,h2,aRf (r:=fun a c:D.aAO=>a.Id<c.Id) (fun a b c h1 h2=>Int.lt_trans h1 h2) (fun k hk=> ?_),fun c hc=> ?_⟩
 ·have:=(hg (k+1) hk).2 (by omega)
  rw[Nat.add_sub_cancel,List.getD,List.getElem?_eq_getElem (show k<b.Open.length by omega),Option.getD_some] at this
  exact this
 ·obtain⟨i,hi,rfl⟩:=List.mem_iff_getElem.1 hc
  exact(hg i hi).1
theorem aJ5.set {seed j:Int}{l:List D.aAK}(h:aJ5 seed j l){k:Nat}(hk:k<l.length){c:D.aAK}(h1:c.Handle=l[k].Handle)(h2:c.Public=l[k].Public)(h3:0≤c.Counter∧c.Counter≤1000000):aJ5 seed j (l.set k c):=by
 intro i hi
 rw[List.getElem_set]
 rw[List.length_set] at hi
 split
 ·rename_i e;subst e
  have:=h k hk
  exact⟨h1.trans this.1,h2.trans this.2.1,h3⟩
 ·exact h i hi
end Go.VK

set_option maxRecDepth 100000
namespace Go.VK
theorem aRg {α:Type}{p:α→Bool}:∀{l:List α} {i:Nat},decide (iC p i l<0)=false→∃k,∃h:k<l.length,iC p i l=((i+k:Nat):Int)∧p l[k]=true
 |[],i,h=>by simp[iC] at h
 |x::l,i,h=>by
  unfold iC at h ⊢
  cases hp:p x with
  |true=>exact⟨0,by simp,by simp,by simpa using hp⟩
  |false=>
   rw[hp,cond_false] at h
   obtain⟨k,hk,e1,e2⟩:=aRg h
   exact⟨k+1,by simpa using hk,by rw[cond_false,e1];congr 1;omega,by simpa using e2⟩
theorem SiteIn.aCI {seed j:Int}{n:Nat}{s:D.Site}(h:SiteIn seed j n s){l:List D.aAK}(hl:aJ5 seed j l)(hn:l.length=n)(g:List Int)(b:D.aAF)(hb:BookIn b)(hs:b.Seed=s.Book.Seed):SiteIn seed j n {s with Book:=b,Accounts:=[⟨1,3,l⟩],Logins:=g}:=
 ⟨h.name,hb.ok,by show bJ b.Seed=true;rw[hs];exact h.key,l,rfl,hl,hn⟩
theorem bBi (s:D.aAI)(z:ByteArray)(i:Int)(m:List Int):(iP s z i m).1.Seed=s.Seed∧(iP s z i m).1.Vendor=s.Vendor∧(iP s z i m).1.Serial=s.Serial∧((iP s z i m).2.2=true→(iP s z i m).1.Counter=s.Counter+1∧0≤s.Counter∧s.Counter<1000000)∧((iP s z i m).2.2=false→(iP s z i m).1=s):=by
 unfold iP
 cases hb:aGo s&& !(s.Counter==1000000) with
 |false=>exact⟨rfl,rfl,rfl,fun h=>(by cases h),fun _=>rfl⟩
 |true=>
  simp only[Bool.and_eq_true,Bool.not_eq_true',beq_eq_false_iff_ne] at hb
  have hs:=hb.1
  unfold aGo at hs
  simp only[Bool.and_eq_true] at hs
  have hc:=gM hs.2.2.2
  refine⟨rfl,rfl,rfl,⟨fun _=> ?_,fun h=>by cases h⟩⟩
  have:IntKind.i64.wrap (s.Counter+1)=s.Counter+1:=aG (by omega) (by omega)
  exact⟨this,by omega,by have:=hb.2;omega⟩
theorem bBj (s:D.aAI)(o:D.aAS)(z:ByteArray)(i c:Int)(p:Bool):(tN s o z i c p).1.Seed=s.Seed∧(tN s o z i c p).1.Vendor=s.Vendor∧(tN s o z i c p).1.Serial=s.Serial∧(0≤s.Counter∧s.Counter≤1000000→(0≤(tN s o z i c p).1.Counter∧(tN s o z i c p).1.Counter≤1000000)∧(0≤(tN s o z i c p).2.1.Counter∧(tN s o z i c p).2.1.Counter≤1000000)):=by
 obtain⟨h1,h2,h3,h4,h5⟩:=bBi s z i (iW (aGp s o z i c p))
 unfold tN
 cases hb:aVh o z&&(iP s z i (iW (aGp s o z i c p))).2.2 with
 |false=>exact⟨rfl,rfl,rfl,fun h=>⟨h,Int.le_refl 0,show(0:Int)≤1000000 by decide⟩⟩
 |true=>
  rw[Bool.and_eq_true] at hb
  obtain⟨q1,q2,q3⟩:=h4 hb.2
  refine⟨h1,h2,h3,fun h=>⟨?_,?_⟩⟩
  ·show 0≤(iP s z i (iW (aGp s o z i c p))).1.Counter∧(iP s z i (iW (aGp s o z i c p))).1.Counter≤1000000
   omega
  ·show 0≤(iP s z i (iW (aGp s o z i c p))).1.Counter∧(iP s z i (iW (aGp s o z i c p))).1.Counter≤1000000
   omega
end Go.VK

set_option maxRecDepth 100000
namespace Go.VK
structure StIn (seed:Int) (k:Nat) (s:D.aAI):Prop where
 ven:s.Vendor=1
 ser:s.Serial=(k:Int)
 key:s.Seed=(aJ seed (k:Int)).Seed
 cnt:0≤s.Counter∧s.Counter≤1000000
structure WIn (m:Nat) (w:D.World):Prop where
 seed:bJ w.Seed=true
 now:0≤w.Now∧w.Now≤999900
 dlen:1≤w.Devices.length∧w.Devices.length≤6
 slen:w.Stolen.length=w.Devices.length
 dev:∀k (h:k<w.Devices.length),StIn w.Seed k w.Devices[k].Store
 two:w.Sites.length=2
 mle:m≤6
 site:∀j (h:j<w.Sites.length),SiteIn w.Seed (j:Int) m w.Sites[j]
 mail:cZ w.Mail=true
 log:aT w.aAH.Log=true
theorem WIn.ok {m:Nat}{w:D.World}(h:WIn m w):bK w=true:=by
 have hs:dJ nG 0 w.Sites=false:=aGw fun k hk=>by
  have h2:=h.two
  have:=h.site k hk
  unfold nG
  rw[this.ok (by omega) h.mle,this.name,Nat.zero_add];simp
 unfold bK
 have h2:=h.two
 have h3:=h.slen
 have h4:=h.dlen
 rw[hs,h.log,h.mail,h.seed,gT h.now.1 h.now.2,gT (by omega) (by omega),h3,h2];simp
theorem WIn.upd {m:Nat}{w v:D.World}(h:WIn m w)(h1:v.Seed=w.Seed)(h2:v.Now=w.Now)(h3:v.Devices.length=w.Devices.length)(h4:v.Stolen.length=w.Stolen.length)
  (h5:∀k (h:k<v.Devices.length),StIn w.Seed k v.Devices[k].Store) (h6:v.Sites.length=2) (h7:∀j (h:j<v.Sites.length),SiteIn w.Seed (j:Int) m v.Sites[j]) (h8:cZ v.Mail=true) (h9:aT v.aAH.Log=true):WIn m v where
 seed:=by rw[h1];exact h.seed
 now:=by rw[h2];exact h.now
 dlen:=by rw[h3];exact h.dlen
 slen:=by rw[h3,h4];exact h.slen
 dev:=by rw[h1];exact h5
 two:=h6
 mle:=h.mle
 site:=by rw[h1];exact h7
 mail:=h8
 log:=h9
theorem WIn.aBW {m:Nat}{w:D.World}(h:WIn m w){i:Nat}{x:D.Device}(hi:i<w.Devices.length)(hx:StIn w.Seed i x.Store):∀k (h:k<(w.Devices.set i x).length),StIn w.Seed k (w.Devices.set i x)[k].Store:=fun k hk=>by
 rw[List.getElem_set]
 rw[List.length_set] at hk
 split
 ·rename_i e;subst e;exact hx
 ·exact h.dev k hk
theorem U2 {w:D.World}{d:Int}(h:dO w d=true):0≤d∧d.toNat<w.Devices.length∧cK w d=w.Devices.getD d.toNat default:=by
 simp only[dO,Bool.and_eq_true,decide_eq_true_eq] at h
 exact⟨h.1,by omega,rfl⟩
theorem bDx {w:D.World}{d:Int}(h:dO w d=true):∃h:d.toNat<w.Devices.length,cK w d=w.Devices[d.toNat]:=by
 obtain⟨h1,h2,h3⟩:=U2 h
 exact⟨h2,by rw[h3];simp[List.getD,List.getElem?_eq_getElem h2]⟩
theorem WIn.aCC {m:Nat}{w:D.World}(h:WIn m w){d:Int}(hd:dO w d=true):StIn w.Seed d.toNat (cK w d).Store:=by
 obtain⟨h1,h2⟩:=bDx hd
 rw[h2];exact h.dev _ h1
theorem aX0 {m:D.aAJ}(h:cZ m=true)(k a t:Int):cZ (zN m k a t).1=true:=by
 unfold zN
 cases hb: !cZ m|| !cZ ⟨zM (m.Notices++[⟨k,a,t,false⟩])⟩ with
 |true=>exact h
 |false=>simp only[Bool.or_eq_false_iff,Bool.not_eq_false'] at hb;exact hb.2
theorem WIn.tell {m:Nat}{w:D.World}(h:WIn m w)(k:Int):WIn m (aCd w k):=
 h.upd rfl rfl rfl rfl h.dev h.two h.site (aX0 h.mail _ _ _) h.log
theorem StIn.make {seed:Int}{k:Nat}{s:D.aAI}(h:StIn seed k s)(o:D.aAS)(z:ByteArray)(i c:Int)(p:Bool):StIn seed k (tN s o z i c p).1:=by
 obtain⟨h1,h2,h3,h4⟩:=bBj s o z i c p
 exact⟨h2.trans h.ven,h3.trans h.ser,h1.trans h.key,(h4 h.cnt).1⟩
theorem WIn.sync {m:Nat}{w:D.World}(h:WIn m w)(d b:Int):WIn m (eO w d b).1:=by
 unfold eO
 cases hb:bK w&&dO w d with
 |false=>exact h
 |true=>
  rw[Bool.and_eq_true] at hb
  obtain⟨hd0,hd1,_⟩:=U2 hb.2
  refine h.upd rfl rfl (List.length_set ..) rfl (h.aBW hd1 ?_) h.two h.site h.mail h.log
  have hst:=h.aCC hb.2
  unfold dA
  cases mH (cK w d) w.aAH.Log w.aAH.Boxes (gI w.aAH b).1==0<;>exact hst
theorem aCj (d:D.Device):(fA d).1.Store=d.Store:=by
 unfold fA
 cases(wO d.Key d.Epoch (IntKind.i64.wrap (d.Version+1)) d.aAE).2<;>rfl
theorem WIn.up {m:Nat}{w:D.World}(h:WIn m w){d:Int}(hd:dO w d=true):WIn m (upF w d).1:=by
 unfold upF
 cases(fA (cK w d)).2.2&&(dR w.aAH (fA (cK w d)).2.1).2 with
 |false=>exact h
 |true=>
  obtain⟨hd0,hd1,_⟩:=U2 hd
  refine h.upd rfl rfl (List.length_set ..) rfl (h.aBW hd1 (by rw[aCj];exact h.aCC hd)) h.two h.site h.mail ?_
  show aT (dR w.aAH (fA (cK w d)).2.1).1.Log=true
  rw[(pU _ _).2];exact h.log
theorem WIn.push {m:Nat}{w:D.World}(h:WIn m w)(d:Int):WIn m (wP w d).1:=by
 unfold wP
 cases hb:(eO w d 0).2==0&&(upF (eO w d 0).1 d).2 with
 |false=>exact h
 |true=>
  rw[Bool.and_eq_true] at hb
  have h0:=aEu hb.1
  exact(h.sync d 0).up (by
   have:=h0.1.2
   simp only[dO,Bool.and_eq_true,decide_eq_true_eq] at this ⊢
   rw[h0.2.2.1];exact this)
end Go.VK

set_option maxRecDepth 100000
namespace Go.VK
theorem zQ (w:D.World)(d b:Int):(eO w d b).1.Seed=w.Seed∧(eO w d b).1.Now=w.Now∧(eO w d b).1.Devices.length=w.Devices.length∧(eO w d b).1.Sites=w.Sites∧(eO w d b).1.Stolen=w.Stolen∧(eO w d b).1.aAH=w.aAH:=by
 unfold eO
 cases bK w&&dO w d with
 |false=>exact⟨rfl,rfl,rfl,rfl,rfl,rfl⟩
 |true=>exact⟨rfl,rfl,List.length_set ..,rfl,rfl,rfl⟩
theorem aVs (w:D.World)(d:Int):(upF w d).1.Seed=w.Seed∧(upF w d).1.Now=w.Now∧(upF w d).1.Devices.length=w.Devices.length∧(upF w d).1.Sites=w.Sites∧(upF w d).1.Stolen=w.Stolen∧(upF w d).1.aAH.Log=w.aAH.Log:=by
 unfold upF
 cases(fA (cK w d)).2.2&&(dR w.aAH (fA (cK w d)).2.1).2 with
 |false=>exact⟨rfl,rfl,rfl,rfl,rfl,rfl⟩
 |true=>exact⟨rfl,rfl,List.length_set ..,rfl,rfl,(pU _ _).2⟩
theorem aX1 (w:D.World)(d:Int):(wP w d).1.Seed=w.Seed∧(wP w d).1.Now=w.Now∧(wP w d).1.Devices.length=w.Devices.length∧(wP w d).1.Sites=w.Sites∧(wP w d).1.Stolen=w.Stolen∧(wP w d).1.aAH.Log=w.aAH.Log:=by
 unfold wP
 cases(eO w d 0).2==0&&(upF (eO w d 0).1 d).2 with
 |false=>exact⟨rfl,rfl,rfl,rfl,rfl,rfl⟩
 |true=>
  obtain⟨a1,a2,a3,a4,a5,a6⟩:=zQ w d 0
  obtain⟨b1,b2,b3,b4,b5,b6⟩:=aVs (eO w d 0).1 d
  exact⟨b1.trans a1,b2.trans a2,b3.trans a3,b4.trans a4,b5.trans a5,b6.trans (by rw[a6])⟩
theorem Sg (w:D.World)(b k p:Int)(key:List D.aAB→Int):(kH w b k p key).1.Seed=w.Seed∧(kH w b k p key).1.Now=w.Now∧(kH w b k p key).1.Devices=w.Devices∧(kH w b k p key).1.Sites=w.Sites∧(kH w b k p key).1.Stolen=w.Stolen∧(kH w b k p key).1.Mail=w.Mail∧(aT w.aAH.Log=true→aT (kH w b k p key).1.aAH.Log=true):=by
 unfold kH
 simp only[]
 generalize kK w.aAH.Log k p (cK w b).Store=l
 generalize bH l.1 (key l.1) (IntKind.i64.wrap (1000+IntKind.i64.wrap (10*(l.1.length:Int))))=e
 cases l.2&&(e.2&&(yO w.aAH l.1 e.1).2) with
 |false=>exact⟨rfl,rfl,rfl,rfl,rfl,rfl,fun h=>h⟩
 |true=>
  refine⟨rfl,rfl,rfl,rfl,rfl,rfl,fun h=> ?_⟩
  show aT (yO w.aAH l.1 e.1).1.Log=true
  unfold yO
  cases hl:aT l.1 with
  |false=>exact h
  |true=>
   cases !dI l.1 w.aAH.Log|| !iO e.1 l.1 with
   |true=>exact h
   |false=>exact hl
theorem WIn.aCJ {m:Nat}{w:D.World}(h:WIn m w)(b k p:Int)(key:List D.aAB→Int):WIn m (kH w b k p key).1:=by
 obtain⟨a1,a2,a3,a4,a5,a6,a7⟩:=Sg w b k p key
 exact h.upd a1 a2 (by rw[a3]) (by rw[a5]) (by rw[a3];exact h.dev) (by rw[a4];exact h.two) (by rw[a4];exact h.site) (by rw[a6];exact h.mail) (a7 h.log)
theorem aMv {seed:Int}{m:Nat}(hm:m<6):∀(l:List D.Site) (j:Nat),j+l.length≤2→(∀i (h:i<l.length),SiteIn seed ((j+i:Nat):Int) m l[i])→
  (lT (aJ seed (m:Int)) (m:Int) j l).2=true∧(lT (aJ seed (m:Int)) (m:Int) j l).1.length=l.length∧∀i (h:i<(lT (aJ seed (m:Int)) (m:Int) j l).1.length),SiteIn seed ((j+i:Nat):Int) (m+1) (lT (aJ seed (m:Int)) (m:Int) j l).1[i]
 |[],j,_,_=>⟨rfl,rfl,fun i h=>by simp[lT] at h⟩
 |s::l,j,hj,h=>by
  have h0:SiteIn seed (j:Int) m s:=h 0 (by simp)
  simp only[List.length_cons] at hj
  obtain⟨r1,r2⟩:=h0.reg (by omega) hm
  obtain⟨i1,i2,i3⟩:=aMv hm l (j+1) (by omega) (fun i hi=>by
   have:=h (i+1) (by simpa using hi)
   rw[show j+1+i=j+(i+1) by omega];simpa using this)
  have e:fF (aJ seed (m:Int)) (aD (j:Int)) (m:Int)=Iz seed (j:Int) m:=by unfold Iz;rfl
  have hu:lT (aJ seed (m:Int)) (m:Int) j (s::l)=((iA s 1 (m:Int) (Iz seed (j:Int) m)).1::(lT (aJ seed (m:Int)) (m:Int) (j+1) l).1,true):=by
   rw[lT,e,r1,i1];rfl
  rw[hu]
  refine⟨rfl,by simp[i2],fun i hi=> ?_⟩
  cases i with
  |zero=>simpa using r2
  |succ i=>
   simp only[List.length_cons] at hi
   have:=i3 i (by omega)
   rw[show j+1+i=j+(i+1) by omega] at this
   simpa using this
theorem Cx (d:D.Device)(n:ByteArray)(h:Int)(r:Bool):(gZ d n h r).1.Store=d.Store:=by
 unfold gZ;cases(wL d n h r).2<;>rfl
theorem aGy (d:D.Device)(h:Int)(r:Bool):(aOl d h r).Store=d.Store:=by
 unfold aOl;rw[Cx,Cx]
theorem aOp {w v:D.World}{d:Int}(h:dO w d=true)(e:v.Devices.length=w.Devices.length):dO v d=true:=by
 simp only[dO,Bool.and_eq_true,decide_eq_true_eq] at h ⊢
 rw[e];exact h
theorem WIn.app {m:Nat}{w:D.World}(h:WIn m w)(hl:w.Devices.length<6):WIn m (appW w (bQ (aJ w.Seed (w.Devices.length:Int)))) where
 seed:=h.seed
 now:=h.now
 dlen:=by unfold appW;simp only[List.length_append,List.length_cons,List.length_nil];have:=h.dlen;omega
 slen:=by unfold appW;simp only[List.length_append,List.length_cons,List.length_nil,h.slen]
 dev:=fun k hk=>by
  have hk':k<(w.Devices++[bQ (aJ w.Seed (w.Devices.length:Int))]).length:=hk
  show StIn w.Seed k ((w.Devices++[bQ (aJ w.Seed (w.Devices.length:Int))])[k]'hk').Store
  rw[List.getElem_append]
  split
  ·rename_i hk1;exact h.dev k hk1
  ·simp only[List.length_append,List.length_cons,List.length_nil] at hk'
   have e:k=w.Devices.length:=by omega
   subst e
   simp only[Nat.sub_self,List.getElem_cons_zero]
   exact⟨rfl,rfl,rfl,Int.le_refl 0,show(0:Int)≤1000000 by decide⟩
 two:=h.two
 mle:=h.mle
 site:=h.site
 mail:=h.mail
 log:=h.log
theorem WIn.aCT {w:D.World}(h:WIn w.Devices.length w){b:Int}(hn:w.Devices.length<6)(k2:dO w b=true):WIn (w.Devices.length+1) (Ea w b)∧(Ea w b).Seed=w.Seed∧(Ea w b).Devices.length=w.Devices.length:=by
 obtain⟨s1,s2,s3,s4,s5,s6⟩:=zQ w b 0
 have h0:=h.sync b 0
 have h1:WIn w.Devices.length (add1 w b).1:=h0.aCJ _ _ _ _
 obtain⟨a1,a2,a3,a4,a5,a6,a7⟩:=Sg (eO w b 0).1 b 1 (bN (aJ w.Seed (w.Devices.length:Int))) (fun _=>(cK (eO w b 0).1 b).Key)
 have e1:(add1 w b).1.Seed=w.Seed:=a1.trans s1
 have e3:(add1 w b).1.Devices.length=w.Devices.length:=by show(kH _ _ _ _ _).1.Devices.length=_;rw[a3,s3]
 obtain⟨r1,r2,r3⟩:=aMv (seed:=w.Seed) hn (add1 w b).1.Sites 0 (by rw[h1.two];omega) (fun i hi=>by
  have:=h1.site i hi
  rw[e1] at this;rw[Nat.zero_add];exact this)
 have hd:dO (add1 w b).1 b=true:=aOp k2 e3
 obtain⟨d0,d1,_⟩:=U2 hd
 refine⟨{
  seed:=by show bJ (add1 w b).1.Seed=true;exact h1.seed
  now:=h1.now
  dlen:=by show 1≤((add1 w b).1.Devices.set _ _).length∧((add1 w b).1.Devices.set _ _).length≤6;rw[List.length_set];exact h1.dlen
  slen:=by show(add1 w b).1.Stolen.length=((add1 w b).1.Devices.set _ _).length;rw[List.length_set];exact h1.slen
  dev:=h1.aBW d1 (by rw[aGy];exact h1.aCC hd)
  two:=by show(bAy w b).1.length=2;exact r2.trans h1.two
  mle:=by omega
  site:=fun j hj=>by
   have:=r3 j hj
   rw[Nat.zero_add] at this
   show SiteIn (add1 w b).1.Seed (j:Int) _ _
   rw[e1];exact this
  mail:=h1.mail
  log:=h1.log},e1,?_⟩
 show((add1 w b).1.Devices.set _ _).length=_
 rw[List.length_set,e3]
theorem WIn.add {w:D.World}(h:WIn w.Devices.length w)(b:Int):WIn (Nk w b).1.Devices.length (Nk w b).1∧(Nk w b).1.Seed=w.Seed:=by
 unfold Nk
 cases hok:aQ7 w b with
 |false=>exact⟨h,rfl⟩
 |true=>
  unfold aQ7 at hok
  simp only[Bool.and_eq_true,Bool.not_eq_true',decide_eq_false_iff_not] at hok
  obtain⟨⟨k1,k2,k3,k4⟩,k5,k6,k7,k8,k9⟩:=hok
  have hn:w.Devices.length<6:=by omega
  obtain⟨h2,e1,e4⟩:=h.aCT hn k2
  have h3:WIn (w.Devices.length+1) (aC0 w b).1:=h2.push b
  obtain⟨p1,p2,p3,p4,p5,p6⟩:=aX1 (Ea w b) b
  have p1:(aC0 w b).1.Seed=w.Seed:=p1.trans e1
  have p3:(aC0 w b).1.Devices.length=w.Devices.length:=p3.trans e4
  have h4:=h3.app (by omega)
  rw[p1,p3] at h4
  have h5:WIn (w.Devices.length+1) (aS7 w b).1:=h4.sync _ _
  obtain⟨q1,q2,q3,q4,q5,q6⟩:=zQ (appW (aC0 w b).1 (bQ (aJ w.Seed (w.Devices.length:Int)))) (w.Devices.length:Int) 0
  have e5:(aCd (aS7 w b).1 2).Devices.length=w.Devices.length+1:=by
   show(aS7 w b).1.Devices.length=_
   refine q3.trans ?_
   unfold appW;simp only[List.length_append,List.length_cons,List.length_nil,p3]
  have h6:=h5.tell 2
  simp only[cond_true]
  rw[e5]
  exact⟨h6,q1.trans p1⟩
end Go.VK

set_option maxRecDepth 100000
namespace Go.VK
theorem bBk {k:Int}(h:bJ k=true)(l:List Int):gY (fC k) l (zG k l)=true:=by
 have:=aMt h
 unfold gY
 rw[Yo h,bne,beq_eq_false_iff_ne.2 (show k≠0 by omega)];simp
theorem bBl {l:List D.aAB}{e:D.aAB}(h:l=[]∨aT l=true)(hs:kJ l e=true)(hl:l.length<40):aT (l++[e])=true:=by
 have ha:dJ (fun i x=> !kJ ((l++[e]).take i) x) 0 (l++[e])=false:=aGw fun k hk=>by
  rw[Nat.zero_add]
  by_cases hk1:k<l.length
  ·rw[List.getElem_append_left hk1,List.take_append_of_le_length (by omega)]
   rcases h with h|h
   ·subst h;simp at hk1
   ·unfold aT at h
    rw[Bool.and_eq_true,Bool.not_eq_true'] at h
    have:=aTj h.2 k hk1
    rw[Nat.zero_add] at this;exact this
  ·have e1:k=l.length:=by simp at hk;omega
   subst e1
   simp[hs]
 unfold aT
 rw[Bool.and_eq_true,Bool.not_eq_true']
 exact⟨gT (by simp;omega) (by simp;omega),ha⟩
theorem bBm (l:List D.aAB)(e:D.aAB):aB (l++[e])=gX (aB l) e:=by
 unfold aB;rw[List.foldl_append];rfl
theorem aTm (l:List D.aAB)(e:D.aAB):aN (l++[e])=bif e.Kind==2 then IntKind.i64.wrap (aN l+1) else aN l:=by
 unfold aN;rw[List.foldl_append];rfl
theorem aOq (l:List D.aAB)(e:D.aAB)(p:Int):iL (l++[e]) p=(iL l p||(e.Kind==2&&e.Device==p)):=by
 unfold iL;rw[List.any_append];simp
def uN (seed:Int)(k:Nat):Int:=bN (aJ seed (k:Int))
theorem aVt {seed:Int}{i k:Nat}(hi:i<6)(hk:k<6)(h:i≠k):uN seed i≠uN seed k:=aXy (by omega) (by omega) (by omega)
theorem aGz (s:D.aAI):bJ (gW s)=true:=by unfold gW;exact dU _ _
theorem aG0 {l:List Int}{x:Int}:fV l x=true↔x∈l:=by
 unfold fV;rw[List.any_eq_true]
 constructor
 ·rintro⟨y,hy,e⟩;rw[←eq_of_beq e];exact hy
 ·exact fun h=>⟨x,h,beq_self_eq_true x⟩
structure NewLog (seed:Int) (n:Nat) (l:List D.aAB):Prop where
 len:l.length=n
 devs:aB l=(List.range n).map (uN seed)
 rem:∀p,iL l p=false
 ep:aN l=0
 ok:n=0∨aT l=true
theorem zR (seed:Int):∀n,n≤6→NewLog seed n (aM seed n)
 |0,_=>⟨rfl,rfl,fun _=>rfl,rfl, .inl rfl⟩
 |n+1,hn=>by
  obtain⟨h1,h2,h3,h4,h5⟩:=zR seed n (by omega)
  have hnot:fV (aB (aM seed n)) (uN seed n)=false:=by
   rw[Bool.eq_false_iff,Ne,aG0,h2]
   intro hm
   obtain⟨i,hi,e⟩:=List.mem_map.1 hm
   have hi:=List.mem_range.1 hi
   exact aVt (by omega) (by omega) (by omega) e
  have hst:kJ (aM seed n) (aXm (aM seed n) 1 (uN seed n) (aJ seed 0))=true:=by
   unfold kJ
   have v:gY (bN (aJ seed 0)) [bL (aS4 (aM seed n) 1 (uN seed n) (aJ seed 0))] (nJ (aJ seed 0) [bL (aS4 (aM seed n) 1 (uN seed n) (aJ seed 0))])=true:=by
    unfold nJ bN;exact bBk (aGz _) _
   show(((aM seed n).length:Int)==((aM seed n).length:Int)&&(fD (aM seed n)==fD (aM seed n)&&((fV (aB (aM seed n)) (bN (aJ seed 0))||(((aM seed n).length:Int)==0&&bN (aJ seed 0)==uN seed n))&&(gY (bN (aJ seed 0)) [bL (aS4 (aM seed n) 1 (uN seed n) (aJ seed 0))] (nJ (aJ seed 0) [bL (aS4 (aM seed n) 1 (uN seed n) (aJ seed 0))])&&
    (!iL (aM seed n) (uN seed n)&&(true&&(!fV (aB (aM seed n)) (uN seed n)&&decide (((aB (aM seed n)).length:Int)<6))))))))=true
   rw[v,h3,hnot,h2,h1]
   have hby:(fV ((List.range n).map (uN seed)) (bN (aJ seed 0))||((n:Int)==0&&bN (aJ seed 0)==uN seed n))=true:=by
    cases n with
    |zero=>simp[uN]
    |succ n=>
     rw[show fV ((List.range (n+1)).map (uN seed)) (bN (aJ seed 0))=true from aG0.2 (List.mem_map.2 ⟨0,by simp,rfl⟩)];rfl
   rw[hby]
   simp;omega
  have hl:=bBl (l:=aM seed n) (by
   rcases h5 with h5|h5
   ·subst h5;exact .inl rfl
   ·exact .inr h5) hst (by omega)
  have e:aM seed (n+1)=aM seed n++[aXm (aM seed n) 1 (uN seed n) (aJ seed 0)]:=by
   show(kK (aM seed n) 1 (bN (aJ seed (n:Int))) (aJ seed 0)).1=_
   unfold kK
   have hq:(decide (((aM seed n).length:Int)>0)&& !aT (aM seed n))=false:=by
    rcases h5 with h5|h5
    ·subst h5;rfl
    ·rw[h5];simp
   rw[hq,show bN (aJ seed (n:Int))=uN seed n from rfl,hl];rfl
  rw[e]
  refine⟨by simp[h1],?_,fun p=> ?_,?_, .inr hl⟩
  ·rw[bBm,List.range_succ,List.map_append,←h2]
   unfold gX
   have hc:(aB (aM seed n)).contains (uN seed n)=false:=by
    rw[Bool.eq_false_iff] at hnot ⊢
    intro hc;exact hnot (aG0.2 (by simpa using hc))
   show(bif (1:Int)==1 then(bif (aB (aM seed n)).contains (uN seed n) then _ else _) else _)=_
   rw[hc];rfl
  ·rw[aOq,h3];rfl
  ·rw[aTm,h4];rfl
end Go.VK

set_option maxRecDepth 100000
namespace Go.VK
theorem aMw {e:Int}{d:List Int}(hd:d.length≤200):∀(l:List Int) (i:Nat),(∀p∈l,bJ p=true)→1≤e+(i:Int)→e+(i:Int)+(l.length:Int)≤2147483646→
  (dZ e d i l).2=true∧(dZ e d i l).1.length=l.length∧(dZ e d i l).1.map (·.To)=l∧∀k (h:k<(dZ e d i l).1.length) (h2:k<l.length),(dZ e d i l).1[k]=qQ l[k] (e+((i+k:Nat):Int)) d
 |[],i,_,_,_=>⟨rfl,rfl,rfl,fun k h _=>by simp[dZ] at h⟩
 |p::l,i,hp,h1,h2=>by
  simp only[List.length_cons] at h2
  obtain⟨i1,i2,i3,i4⟩:=aMw (e:=e) hd l (i+1) (fun q hq=>hp q (by simp[hq])) (by push_cast;omega) (by push_cast at h2 ⊢;omega)
  have hk:=hp p (by simp)
  have hq:=aMt hk
  have hw:IntKind.i64.wrap (e+(i:Int))=e+(i:Int):=aG (by omega) (by push_cast at h2;omega)
  have hpr:dW p≠0:=by
   unfold dW
   rw[hk,Bool.not_true,cond_false]
   omega
  have hb:eP p (IntKind.i64.wrap (e+(i:Int))) d=(qQ p (e+(i:Int)) d,true):=by
   unfold eP
   rw[hw,beq_eq_false_iff_ne.2 hpr,show bJ (e+(i:Int))=true from gT (by omega) (by push_cast at h2;omega),decide_eq_false (show ¬(d.length:Int)>200 by omega)];rfl
  have hu:dZ e d i (p::l)=(qQ p (e+(i:Int)) d::(dZ e d (i+1) l).1,true):=by
   rw[dZ,hb,i1];rfl
  rw[hu]
  refine⟨rfl,by simp[i2],?_,fun k hk1 hk2=> ?_⟩
  ·simp only[List.map_cons,i3];rfl
  ·cases k with
   |zero=>rfl
   |succ k=>
    simp only[List.length_cons] at hk1 hk2
    have:=i4 k (by omega) (by omega)
    simp only[List.getElem_cons_succ]
    rw[this];congr 1;push_cast;omega
theorem bBn {l:List D.Box}{p:Int}:∀(n:Int),0≤n→n+(l.length:Int)≤1000000→l.foldl (fun n b=>bif b.To==p then IntKind.i64.wrap (n+1) else n) n=n+((l.filter fun b=>b.To==p).length:Int):=by
 induction l with
 |nil=>intro n _ _;simp
 |cons b l ih=>
  intro n h0 h1
  simp only[List.length_cons] at h1
  push_cast at h1
  rw[List.foldl_cons,List.filter_cons]
  cases hb:b.To==p with
  |true=>
   rw[cond_true,aG (by omega) (by omega),if_pos rfl,ih (n+1) (by omega) (by omega),List.length_cons]
   push_cast;omega
  |false=>
   rw[cond_false,if_neg (by simp),ih n h0 (by omega)]
theorem aX2 {l:List D.Box}(h:(l.map (·.To)).Nodup){p:Int}(hp:p∈l.map (·.To)):(l.filter fun b=>b.To==p).length=1:=by
 induction l with
 |nil=>simp at hp
 |cons b l ih=>
  simp only[List.map_cons,List.nodup_cons,List.mem_cons] at h hp
  rw[List.filter_cons]
  by_cases hb:b.To=p
  ·have hn:(l.filter fun b=>b.To==p)=[]:=by
    rw[List.filter_eq_nil_iff]
    intro c hc he
    exact h.1 (List.mem_map.2 ⟨c,hc,by rw[hb];exact eq_of_beq he⟩)
   rw[beq_iff_eq.2 hb,if_pos rfl,hn];rfl
  ·have hp2:p∈l.map (·.To):=by
    rcases hp with hp|hp
    ·exact absurd hp.symm hb
    ·exact hp
   rw[beq_eq_false_iff_ne.2 hb,if_neg (by simp)]
   exact ih h.2 hp2
theorem aX3 {log:List D.aAB}{bx:D.aAD}(h1:bx.Epoch=aN log)(h2:bx.Boxes.map (·.To)=aB log)(h3:(aB log).Nodup)(h4:(aB log).length≤1000):iO bx log=true:=by
 have hl:bx.Boxes.length=(aB log).length:=by rw[←h2,List.length_map]
 unfold iO
 rw[h1,hl,beq_self_eq_true,beq_self_eq_true,Bool.and_self,Bool.true_and,List.all_eq_true]
 intro p hp
 unfold nK
 rw[bBn 0 (by omega) (by omega),aX2 (by rw[h2];exact h3) (by rw[h2];exact hp)];rfl
theorem bE0 (a b:Int):(jY [a,b]).length≤12:=by
 have h1:=Ya a
 have h2:=Ya b
 unfold jY
 simp only[List.map_cons,List.map_nil,List.flatten_cons,List.flatten_nil,List.append_nil,List.length_append];omega
theorem aMx {log:List D.aAB}{key eph:Int}(h1:aT log=true)(h2:bJ key=true)(h3:∀p∈aB log,bJ p=true)(h4:(aB log).length≤1000)(h5:1≤eph∧eph≤1000000):
  (bH log key eph).2=true∧(bH log key eph).1.Epoch=aN log∧(bH log key eph).1.Boxes.map (·.To)=aB log∧∀k (h:k<(bH log key eph).1.Boxes.length) (h2:k<(aB log).length),(bH log key eph).1.Boxes[k]=qQ (aB log)[k] (eph+(k:Int)) (jY [aN log,key]):=by
 have hd:=bE0 (aN log) key
 obtain⟨s1,s2,s3,s4⟩:=aMw (e:=eph) (d:=jY [aN log,key]) (by omega) (aB log) 0 h3 (by omega) (by omega)
 have e:bH log key eph=(⟨aN log,(dZ eph (jY [aN log,key]) 0 (aB log)).1⟩,true):=by
  unfold bH
  rw[h1,h2,s1];rfl
 rw[e]
 refine⟨rfl,rfl,s3,fun k hk hk2=> ?_⟩
 have:=s4 k hk hk2
 rw[Nat.zero_add] at this;exact this
end Go.VK

set_option maxRecDepth 100000
namespace Go.VK
theorem aRh (seed:Int)(k:Nat):bJ (uN seed k)=true:=by
 unfold uN bN;exact aVq (aGz _)
theorem aRi {seed:Int}{n:Nat}(hn:n≤6):((List.range n).map (uN seed)).Nodup:=by
 rw[List.nodup_iff_pairwise_ne,List.pairwise_map]
 refine(List.pairwise_lt_range).imp_of_mem ?_
 intro a b ha hb hab
 have ha:=List.mem_range.1 ha
 have hb:=List.mem_range.1 hb
 exact aVt (by omega) (by omega) (by omega)
theorem Si {seed:Int}{n:Nat}(h0:1≤n)(hn:n≤6):iO (dY seed n) (aM seed n)=true∧aT (aM seed n)=true∧(dY seed n).Epoch=0:=by
 obtain⟨h1,h2,h3,h4,h5⟩:=zR seed n hn
 have hl:aT (aM seed n)=true:=h5.resolve_left (by omega)
 have hlen:(aB (aM seed n)).length≤1000:=by rw[h2,List.length_map,List.length_range];omega
 obtain⟨m1,m2,m3,m4⟩:=aMx (key:=bI seed 0) (eph:=1000) hl (by unfold bI;exact dU _ _) (fun p hp=>by
  rw[h2] at hp
  obtain⟨i,_,rfl⟩:=List.mem_map.1 hp
  exact aRh _ _) hlen ⟨by decide,by decide⟩
 refine⟨aX3 m2 m3 (by rw[h2];exact aRi hn) hlen,hl,?_⟩
 unfold dY;rw[m2,h4]
theorem aRj {seed:Int}{n:Nat}(h0:1≤n)(hn:n≤6):(fU seed n).Log=aM seed n:=by
 obtain⟨h1,h2,_⟩:=Si (seed:=seed) h0 hn
 unfold fU
 rw[(pU _ _).2]
 unfold dK
 rw[h1,h2];rfl
theorem Ja (d:D.Device)(l:List D.aAB)(k:Int):(pV d l k).1.Store=d.Store:=by
 unfold pV
 cases !aT l||(!dI l d.Log||(decide (aN l<d.Epoch)|| !bJ k))<;>rfl
theorem aJ6 (d:D.Device)(l:List D.aAB)(b:D.aAD)(s:D.aAC):(dA d l b s).1.Store=d.Store:=by
 unfold dA
 cases mH d l b s==0<;>rfl
theorem Sj (nm:ByteArray):∀(i:Nat) (d:D.Device),(zO nm i d).Store=d.Store
 |0,d=>rfl
 |i+1,d=>by
  show(gZ (zO nm i d) nm (i:Int) false).1.Store=_
  rw[Cx,Sj nm i d]
theorem aX4 {seed:Int}{n:Nat}(h0:1≤n):(gN seed n).length=n∧∀k (h:k<(gN seed n).length),(gN seed n)[k].Store=aJ seed (k:Int):=by
 have hl:(gN seed n).length=n:=by
  unfold gN bO
  simp only[List.length_cons,List.length_map,List.length_drop,List.length_range];omega
 refine⟨hl,fun k hk=> ?_⟩
 cases k with
 |zero=>
  show(nwW seed n).1.Store=_
  unfold nwW
  rw[aCj]
  unfold jD qU
  rw[Sj,Sj,Ja];rfl
 |succ k=>
  have hk2:k<(((bO seed n).drop 1).map (Cw seed n)).length:=by
   have:(gN seed n).length=(((bO seed n).drop 1).map (Cw seed n)).length+1:=rfl
   omega
  show((((bO seed n).drop 1).map (Cw seed n))[k]'hk2).Store=_
  rw[List.getElem_map]
  unfold Cw qU
  rw[aJ6,Ja,List.getElem_drop]
  unfold bO
  rw[List.getElem_map,List.getElem_range]
  unfold bQ
  rw[show((1+k:Nat):Int)=((k+1:Nat):Int) by omega]
theorem aRk {n k t pin seed:Int}(h:aGq n k t pin seed=true):WIn n.toNat (aV n k t pin seed)∧(aV n k t pin seed).Devices.length=n.toNat∧(aV n k t pin seed).Seed=seed:=by
 have hb:=h
 unfold aGq at hb
 simp only[Bool.and_eq_true] at hb
 obtain⟨b1,b2,b3,b4,b5⟩:=hb
 have r:=gM b1
 unfold aV
 rw[h,cond_true]
 obtain⟨d1,d2⟩:=aX4 (seed:=seed) (n:=n.toNat) (by omega)
 have hlog:=aRj (seed:=seed) (n:=n.toNat) (by omega) (by omega)
 have hok:=(Si (seed:=seed) (n:=n.toNat) (by omega) (by omega)).2.1
 refine⟨{seed:=b5,now:=⟨Int.le_refl 0,show(0:Int)≤999900 by decide⟩,dlen:= ?_,slen:= ?_,dev:= ?_,two:=rfl,mle:=by omega,site:= ?_,mail:=rfl,log:= ?_},d1,rfl⟩
 ·show 1≤(gN seed n.toNat).length∧(gN seed n.toNat).length≤6;omega
 ·show(List.replicate n.toNat false).length=(gN seed n.toNat).length;rw[List.length_replicate,d1]
 ·intro j hj
  show StIn seed j ((gN seed n.toNat)[j]'hj).Store
  rw[d2 j hj]
  exact⟨rfl,rfl,rfl,Int.le_refl 0,show(0:Int)≤1000000 by decide⟩
 ·intro j hj
  show SiteIn seed (j:Int) n.toNat ((uL (bO seed n.toNat) seed)[j]'hj)
  match j,hj with
  |0,_=>exact aCi (.inl rfl) (by omega)
  |1,_=>exact aCi (.inr rfl) (by omega)
  |j+2,hj=>have:j+2<2:=hj;omega
 ·show aT (fU seed n.toNat).Log=true
  rw[hlog];exact hok
end Go.VK

set_option maxRecDepth 100000
namespace Go.VK
theorem SiteIn.cut {seed j:Int}{n:Nat}{s:D.Site}(h:SiteIn seed j n s)(t:Int):SiteIn seed j n (aEv t s):=by
 have hf:=h.find
 obtain⟨l,e,hl,hn⟩:=h.acc
 have ea:aS9 s 0=⟨1,3,l⟩:=by unfold aS9;rw[e];rfl
 unfold aEv
 rw[hf,show decide ((0:Int)≥0)=true from rfl,cond_true,ea,show(0:Int).toNat=0 from rfl,e]
 have key:∃l',(aGm ⟨1,3,l⟩ t).1=⟨1,3,l'⟩∧aJ5 seed j l'∧l'.length=l.length:=by
  unfold aGm
  cases hb: !bC ⟨1,3,l⟩||(decide (pW ⟨1,3,l⟩ t<0)||(aGl ⟨1,3,l⟩ (pW ⟨1,3,l⟩ t)).Cut) with
  |true=>exact⟨l,rfl,hl,rfl⟩
  |false=>
   simp only[Bool.or_eq_false_iff] at hb
   obtain⟨k,hk,e1,e2⟩:=aRg (l:=l) hb.2.1
   have ef:pW ⟨1,3,l⟩ t=(k:Int):=e1.trans (by simp)
   have ec:aGl ⟨1,3,l⟩ (k:Int)=l[k]:=by unfold aGl;simp[List.getD,List.getElem?_eq_getElem hk]
   rw[ef,ec,cond_false,Int.toNat_natCast]
   exact⟨_,rfl,hl.set hk rfl rfl (hl k hk).2.2,List.length_set⟩
 obtain⟨l',q1,q2,q3⟩:=key
 rw[q1]
 have:=h.aCI q2 (q3.trans hn) s.Logins s.Book (bDw h.book) rfl
 exact this
theorem bG8 {α β:Type}{P:Nat→β→Prop}{f:α→β}{l:List α}(h:∀j (hj:j<l.length),P j (f l[j])):∀j (hj:j<(l.map f).length),P j (l.map f)[j]:=fun j hj=>by
 rw[List.getElem_map];exact h j (by simpa using hj)
theorem WIn.cut {m:Nat}{w:D.World}(h:WIn m w)(b t:Int):WIn m (aEw w b t).1∧(aEw w b t).1.Seed=w.Seed∧(aEw w b t).1.Devices.length=w.Devices.length:=by
 unfold aEw
 cases hq:(eO w b 0).2==0&&(!aOj w b&&(!(b==t)&&aU2 w t)) with
 |false=>exact⟨h,rfl,rfl⟩
 |true=>
  simp only[Bool.and_eq_true] at hq
  have h0:=(aEu hq.1).1
  simp only[cond_true]
  unfold aVg
  cases(S9 w b t).2&&((bA0 w b t).2&&(aXo w b t).2) with
  |false=>exact⟨h,rfl,rfl⟩
  |true=>
   obtain⟨s1,s2,s3,s4,s5,s6⟩:=zQ w b 0
   have hO:WIn m (aGn w b):=h.sync b 0
   have h1:WIn m (S9 w b t).1:=hO.aCJ _ _ _ _
   obtain⟨a1,a2,a3,a4,a5,a6,a7⟩:=Sg (aGn w b) b 2 (bN (cK w t).Store) (aOm (cK (aGn w b) b).Store)
   have e1:(S9 w b t).1.Devices=(aGn w b).Devices:=a3
   have hd:dO (S9 w b t).1 b=true:=aOp h0.2 (by rw[e1];exact s3)
   obtain⟨d0,d1,_⟩:=U2 hd
   have hst:StIn (S9 w b t).1.Seed b.toNat (aOl (bA0 w b t).1 t true).Store:=by
    rw[aGy]
    unfold bA0
    rw[Ja]
    have:=h1.aCC hd
    have e2:cK (S9 w b t).1 b=cK (aGn w b) b:=by unfold cK;rw[e1]
    rw[e2] at this;exact this
   have hW:WIn m (bDo w b t):=by
    refine h1.upd rfl rfl (List.length_set ..) rfl (h1.aBW d1 hst) (by show((S9 w b t).1.Sites.map (aEv t)).length=2;rw[List.length_map];exact h1.two) (bG8 (P:=fun j s=>SiteIn (S9 w b t).1.Seed ((j:Nat):Int) m s) fun j hj=>(h1.site j hj).cut t) h1.mail h1.log
   have hdW:dO (bDo w b t) b=true:=aOp hd (List.length_set ..)
   have h3:WIn m (aXo w b t).1:=hW.up hdW
   obtain⟨u1,u2,u3,u4,u5,u6⟩:=aVs (bDo w b t) b
   refine⟨h3.tell 4,?_,?_⟩
   ·show(aXo w b t).1.Seed=w.Seed
    exact u1.trans (a1.trans s1)
   ·show(aXo w b t).1.Devices.length=w.Devices.length
    refine u3.trans ?_
    show((S9 w b t).1.Devices.set _ _).length=_
    rw[List.length_set,e1];exact s3
theorem WIn.aDF {m:Nat}{w:D.World}(h:WIn m w)(ch:List Int)(pin:Int):WIn m (cB w ch pin).1∧(cB w ch pin).1.Seed=w.Seed∧(cB w ch pin).1.Devices.length=w.Devices.length:=by
 unfold cB
 cases !bK w with
 |true=>exact⟨h,rfl,rfl⟩
 |false=>
  have h1:WIn m {w with Hosts:=(lM w.aAL w.Hosts ch pin (Yk w)).1}:=h.upd rfl rfl rfl rfl h.dev h.two h.site h.mail h.log
  exact⟨h1.tell 5,rfl,rfl⟩
theorem WIn.aCL {m:Nat}{w:D.World}(h:WIn m w)(pin:Int):WIn m (jU w pin).1∧(jU w pin).1.Seed=w.Seed∧(jU w pin).1.Devices.length=w.Devices.length:=h.aDF _ _
theorem WIn.renew {m:Nat}{w:D.World}(h:WIn m w):WIn m (bR w).1∧(bR w).1.Seed=w.Seed∧(bR w).1.Devices.length=w.Devices.length:=by
 unfold bR
 cases bK w&&(dC w.Hosts (Xz w)).2 with
 |false=>exact⟨h,rfl,rfl⟩
 |true=>exact⟨h.upd rfl rfl rfl rfl h.dev h.two h.site h.mail h.log,rfl,rfl⟩
theorem WIn.roll {m:Nat}{w:D.World}(h:WIn m w)(i b:Int):WIn m (dM w i b).1∧(dM w i b).1.Seed=w.Seed∧(dM w i b).1.Devices.length=w.Devices.length:=by
 unfold dM
 cases !bK w||(decide (i<0)||decide (i≥(w.Hosts.length:Int))) with
 |true=>exact⟨h,rfl,rfl⟩
 |false=>
  simp only[cond_false]
  cases(fT (w.Hosts.getD i.toNat default) b).2 with
  |false=>exact⟨h,rfl,rfl⟩
  |true=>exact⟨h.upd rfl rfl rfl rfl h.dev h.two h.site h.mail h.log,rfl,rfl⟩
end Go.VK

set_option maxRecDepth 100000
namespace Go.VK
end Go.VK

set_option maxRecDepth 100000
namespace Go.VK
theorem aG1 {α:Type}[Inhabited α]{f:α→Nat}{K:Nat}{x:α}:∀{l:List α} {i:Nat},i<l.length→f x≤f (l.getD i default)+K→((l.set i x).map f).sum≤(l.map f).sum+K
 |y::l,0,_,h=>by
  simp only[List.getD,List.getElem?_cons_zero,Option.getD_some] at h
  simp only[List.set_cons_zero,List.map_cons,List.sum_cons];omega
 |y::l,i+1,hi,h=>by
  have:=aG1 (f:=f) (l:=l) (i:=i) (x:=x) (K:=K) (by simpa using hi) (by simpa[List.getD] using h)
  simp only[List.set_cons_succ,List.map_cons,List.sum_cons];omega
theorem aMy {w:D.World}{d:Int}(hd:dO w d=true){x:D.Device}{K:Nat}(hx:x.sz≤(cK w d).sz+K):({w with Devices:=w.Devices.set d.toNat x}:D.World).sz≤w.sz+K:=by
 obtain⟨h0,h1,h2⟩:=U2 hd
 have:=aG1 (f:=D.Device.sz) (K:=K) h1 (by rw[←h2];exact hx)
 simp only[D.World.sz,List.length_set] at this ⊢;omega
theorem WIn.aCX {m:Nat}{w:D.World}(h:WIn m w):w.aAH.Log.length≤40:=by
 have:=h.log
 unfold aT at this
 rw[Bool.and_eq_true] at this
 have:=gM this.1
 omega
theorem bBo {m:Nat}{w:D.World}(h:WIn m w)(d b:Int):(eO w d b).1.sz≤w.sz+60:=by
 have hl:=h.aCX
 unfold eO
 cases hb:bK w&&dO w d with
 |false=>simp only[cond_false];omega
 |true=>
  rw[Bool.and_eq_true] at hb
  simp only[cond_true]
  have:=aGj (cK w d) w.aAH.Log w.aAH.Boxes (gI w.aAH b).1
  exact aMy hb.2 (by omega)
theorem add_add {w:D.World}(h:WIn w.Devices.length w)(b:Int):(Nk w b).1.sz≤w.sz+2500:=by
 have hl:=h.aCX
 unfold Nk
 cases hok:aQ7 w b with
 |false=>simp only[cond_false];omega
 |true=>
  unfold aQ7 at hok
  simp only[Bool.and_eq_true,Bool.not_eq_true',decide_eq_false_iff_not] at hok
  obtain⟨⟨k1,k2,k3,k4⟩,k5,k6,k7,k8,k9⟩:=hok
  obtain⟨s1,s2,s3,s4,s5,s6⟩:=zQ w b 0
  have a0:=bBo h b 0
  have h0:=h.sync b 0
  have h1:WIn w.Devices.length (add1 w b).1:=h0.aCJ _ _ _ _
  obtain⟨z1,z2,z3,z4⟩:=bAx (eO w b 0).1 b 1 (bN (aJ w.Seed (w.Devices.length:Int))) (fun _=>(cK (eO w b 0).1 b).Key)
  rw[s6] at z1 z2
  have z1:(add1 w b).1.sz≤(eO w b 0).1.sz+14*(w.aAH.Log.length+1):=z1
  have z2:(add1 w b).1.aAH.Log.length≤w.aAH.Log.length+1:=z2
  have hd:dO (add1 w b).1 b=true:=aOp k2 (by show(kH _ _ _ _ _).1.Devices.length=_;rw[z3,s3])
  obtain⟨r1,r2⟩:=aMl (st:=aJ w.Seed (w.Devices.length:Int)) (n:=(w.Devices.length:Int)) (j:=0) (l:=(add1 w b).1.Sites)
  have e2:=h1.two
  have hw2:(Ea w b).sz≤(add1 w b).1.sz+4:=by
   have q:=aMy (w:=(add1 w b).1) hd (x:=aOl (cK (add1 w b).1 b) (w.Devices.length:Int) false) (K:=2) (bDl _ _ _)
   unfold Ea bAy
   simp only[D.World.sz] at q ⊢
   omega
  have p1:=(aVe (w:=Ea w b) (d:=b) k8).2
  have p1:(aC0 w b).1.sz≤(Ea w b).sz+(Ea w b).aAH.Log.length+521:=p1
  have pl:=(aVe (w:=Ea w b) (d:=b) k8).1
  have pl:(aC0 w b).1.aAH.Log=(Ea w b).aAH.Log:=pl
  have e3:(Ea w b).aAH.Log.length=(add1 w b).1.aAH.Log.length:=rfl
  have ap:=bDm (aC0 w b).1 (bQ (aJ w.Seed (w.Devices.length:Int)))
  have nd:(bQ (aJ w.Seed (w.Devices.length:Int))).sz=0:=rfl
  have f1:=(aEu (w:=appW (aC0 w b).1 (bQ (aJ w.Seed (w.Devices.length:Int)))) k9).2.2.2
  have f1:(aS7 w b).1.sz≤(appW (aC0 w b).1 (bQ (aJ w.Seed (w.Devices.length:Int)))).sz+(aC0 w b).1.aAH.Log.length+20:=f1
  have tl:=aVf (aS7 w b).1 2
  simp only[cond_true]
  rw[pl,e3] at f1
  omega
end Go.VK

set_option maxRecDepth 100000
namespace Go.VK
structure Kept (w v:D.World):Prop where
 wi:WIn v.Devices.length v
 seed:v.Seed=w.Seed
 sz:v.sz≤w.sz+3000
theorem Kept.of {w v:D.World}(h:WIn w.Devices.length v∧v.Seed=w.Seed∧v.Devices.length=w.Devices.length)(hz:v.sz≤w.sz+3000):Kept w v:=⟨by rw[h.2.2];exact h.1,h.2.1,hz⟩
theorem Kept.refl {w:D.World}(h:WIn w.Devices.length w):Kept w w:=⟨h,rfl,Nat.le_add_right _ _⟩
theorem bBp (w:D.World)(i b:Int):(dM w i b).1.sz≤w.sz:=by
 unfold dM
 cases hc: !bK w||(decide (i<0)||decide (i≥(w.Hosts.length:Int))) with
 |true=>exact Nat.le_refl _
 |false=>
  have hi:=Cs (Bool.or_eq_false_iff.1 hc).2
  simp only[cond_false]
  cases(fT (w.Hosts.getD i.toNat default) b).2 with
  |false=>exact Nat.le_refl _
  |true=>
   have:=aG1 (f:=D.aAA.sz) (K:=0) (l:=w.Hosts) (i:=i.toNat) (x:=(fT (w.Hosts.getD i.toNat default) b).1) (by omega) (by rw[aQq];exact Nat.le_refl _)
   simp only[cond_true,D.World.sz,List.length_set];omega
end Go.VK

set_option maxRecDepth 100000
namespace Go.VK
theorem aVu {α β:Type}{y:Nat→α→β}:∀{l:List α} {i k:Nat} (h:k<l.length) (h2:k<(Fj (fun i x=>[y i x]) i l).length),(Fj (fun i x=>[y i x]) i l)[k]=y (i+k) l[k]
 |x::l,i,0,_,_=>rfl
 |x::l,i,k+1,h,h2=>by
  have:=aVu (y:=y) (l:=l) (i:=i+1) (k:=k) (by simpa using h) (by rw[zF];simpa using h)
  rw[show i+1+k=i+(k+1) by omega] at this
  exact this
end Go.VK

set_option maxRecDepth 100000
namespace Go.VK
structure BoxIn (log:List D.aAB) (bx:D.aAD) (key:Int):Prop where
 ep:bx.Epoch=aN log
 to:bx.Boxes.map (·.To)=aB log
 nd:(aB log).Nodup
 kok:bJ key=true
 box:∀k (h:k<bx.Boxes.length),∃e,bJ e=true∧bx.Boxes[k]=qQ bx.Boxes[k].To e (jY [aN log,key])
 eps:0≤aN log∧aN log≤40
theorem aRl (log:List D.aAB):dI log []=true:=by
 unfold dI;simp[dJ]
theorem bBq {seed:Int}{n:Nat}(h0:1≤n)(hn:n≤6):BoxIn (aM seed n) (dY seed n) (bI seed 0):=by
 obtain⟨h1,h2,h3,h4,h5⟩:=zR seed n hn
 have hl:aT (aM seed n)=true:=h5.resolve_left (by omega)
 have hlen:(aB (aM seed n)).length≤1000:=by rw[h2,List.length_map,List.length_range];omega
 have hk:bJ (bI seed 0)=true:=by unfold bI;exact dU _ _
 obtain⟨m1,m2,m3,m4⟩:=aMx (key:=bI seed 0) (eph:=1000) hl hk (fun p hp=>by
  rw[h2] at hp
  obtain⟨i,_,rfl⟩:=List.mem_map.1 hp
  exact aRh _ _) hlen ⟨by decide,by decide⟩
 have hnd:(aB (aM seed n)).Nodup:=by rw[h2];exact aRi hn
 refine⟨m2,m3,hnd,hk,fun k hk'=> ?_,by rw[h4];exact⟨by decide,by decide⟩⟩
 have hlb:(dY seed n).Boxes.length=(aB (aM seed n)).length:=by
  have:=congrArg List.length m3
  rw[List.length_map] at this;exact this
 have hk2:k<(aB (aM seed n)).length:=by omega
 have hb:=m4 k hk' hk2
 have hto:(dY seed n).Boxes[k].To=(aB (aM seed n))[k]:=by
  show(bH (aM seed n) (bI seed 0) 1000).1.Boxes[k].To=_
  rw[hb];rfl
 refine⟨1000+(k:Int),gT (by omega) (by omega),?_⟩
 rw[hto];exact hb
end Go.VK

set_option maxRecDepth 100000
namespace Go.VK
def nwB:Nat→D.aAE
 |1=>⟨[⟨1464438180,0,1,false⟩,⟨1941999745,0,1,false⟩]⟩
 |2=>⟨[⟨1464438180,0,1,false⟩,⟨1464438180,1,1,false⟩,⟨1941999745,0,1,false⟩,⟨1941999745,1,1,false⟩]⟩
 |3=>⟨[⟨1464438180,0,1,false⟩,⟨1464438180,1,1,false⟩,⟨1464438180,2,1,false⟩,⟨1941999745,0,1,false⟩,⟨1941999745,1,1,false⟩,⟨1941999745,2,1,false⟩]⟩
 |_=>⟨[]⟩
def aVv (seed:Int)(n k:Nat)(v:Int)(b:D.aAE):D.Device:=⟨aJ seed (k:Int),aM seed n,bI seed 0,0,v,b⟩
theorem bG9 {seed:Int}{n:Nat}(h0:1≤n)(hn:n≤6)(k:Nat):qU seed n (bQ (aJ seed (k:Int)))=aVv seed n k 0 ⟨[]⟩:=by
 obtain⟨h1,h2,h3,h4,h5⟩:=zR seed n hn
 have hl:aT (aM seed n)=true:=h5.resolve_left (by omega)
 have hk:bJ (bI seed 0)=true:=by unfold bI;exact dU _ _
 unfold qU pV bQ
 rw[hl,aRl,hk,h4];rfl
theorem bIs {n:Nat}(h:n=1∨n=2∨n=3)(s:D.aAI)(l:List D.aAB)(k e v:Int):zO (aD 1) n (zO (aD 0) n ⟨s,l,k,e,v,⟨[]⟩⟩)=⟨s,l,k,e,v,nwB n⟩:=by
 rcases h with rfl|rfl|rfl<;>kernel_rfl
theorem bHa {n:Nat}(h:n=1∨n=2∨n=3):aP (nwB n)=true∧lQ ⟨[]⟩ (nwB n)=(nwB n,true)∧lQ (nwB n) (nwB n)=(nwB n,true):=by
 rcases h with rfl|rfl|rfl<;>exact⟨by kernel_rfl,by kernel_rfl,by kernel_rfl⟩
theorem aX5 {seed:Int}{n:Nat}(h:n=1∨n=2∨n=3):jD seed n=aVv seed n 0 0 (nwB n):=by
 unfold jD
 rw[show(0:Int)=((0:Nat):Int) from rfl,bG9 (by omega) (by omega)]
 exact bIs h _ _ _ _ _
theorem bIt {seed:Int}{n:Nat}(h:n=1∨n=2∨n=3):nwW seed n=(aVv seed n 0 1 (nwB n),Ye (bI seed 0) 0 1 (nwB n),true):=by
 have hk:bJ (bI seed 0)=true:=by unfold bI;exact dU _ _
 unfold nwW
 rw[aX5 h]
 unfold fA wO aVv
 simp only[]
 rw[show IntKind.i64.wrap (0+1)=1 from by decide,hk,(bHa h).1];rfl
theorem aX6 {seed:Int}{n:Nat}(h:n=1∨n=2∨n=3):fU seed n=⟨aM seed n,dY seed n,[Ye (bI seed 0) 0 1 (nwB n)]⟩:=by
 obtain⟨h1,h2,_⟩:=Si (seed:=seed) (n:=n) (by omega) (by omega)
 have h4:=(zR seed n (by omega)).ep
 have e:dK (aM seed n) (dY seed n)=(⟨aM seed n,dY seed n,[]⟩,true):=by
  unfold dK;rw[h1,h2];rfl
 unfold fU
 rw[e,bIt h]
 show(dR ⟨aM seed n,dY seed n,[]⟩ (Ye (bI seed 0) 0 1 (nwB n))).1=_
 unfold dR
 rw[show(Ye (bI seed 0) 0 1 (nwB n)).Epoch=0 from rfl,h4];rfl
end Go.VK

set_option maxRecDepth 100000
namespace Go.VK
structure KeptH (w v:D.World):Prop where
 kept:Kept w v
 hosts:v.Hosts.length≤w.Hosts.length
theorem KeptH.of {w v:D.World}(h:Kept w v)(e:v.Hosts=w.Hosts):KeptH w v:=⟨h,by rw[e];exact Nat.le_refl _⟩
end Go.VK

set_option maxRecDepth 100000
namespace Go.VK
theorem aOr {m:Nat}(hm:1≤m∧m≤46000):∀(k b n s:Nat),b<m→s<m→n<2^k→wB (m:Int) k (b:Int) (n:Int) (s:Int)=((s*b^n%m:Nat):Int)
 |0,b,n,s,hb,hs,hn=>by
  have:n=0:=by omega
  subst this
  show(s:Int)=_
  rw[Nat.pow_zero,Nat.mul_one,Nat.mod_eq_of_lt hs]
 |k+1,b,n,s,hb,hs,hn=>by
  have hbb:b*b<46000*46000:=Nat.mul_lt_mul_of_lt_of_lt (by omega) (by omega)
  have hsb:s*b<46000*46000:=Nat.mul_lt_mul_of_lt_of_lt (by omega) (by omega)
  unfold wB
  by_cases h0:n=0
  ·subst h0
   rw[if_neg (by decide),Nat.pow_zero,Nat.mul_one,Nat.mod_eq_of_lt hs]
  ·rw[if_pos (by omega)]
   have e1:(IntKind.i64.wrap ((b:Int)*(b:Int))).tmod (m:Int)=((b*b%m:Nat):Int):=by
    rw[aG (by omega) (by omega),←Int.natCast_mul,Int.ofNat_tmod]
   have e2:(IntKind.i64.wrap ((s:Int)*(b:Int))).tmod (m:Int)=((s*b%m:Nat):Int):=by
    rw[aG (by omega) (by omega),←Int.natCast_mul,Int.ofNat_tmod]
   have hm0:0<m:=by omega
   rw[e1,e2,show(n:Int)/2=((n/2:Nat):Int) by omega]
   have hn2:n/2<2^k:=by rw[Nat.pow_succ] at hn;omega
   have hsq:∀t,(b*b%m)^t%m=b^(2*t)%m:=fun t=>by
    rw[←Nat.pow_mod,←Nat.pow_two,←Nat.pow_mul]
   rcases Nat.mod_two_eq_zero_or_one n with h|h
   ·rw[show((n:Int)%2==1)=false by rw[beq_eq_false_iff_ne];omega,cond_false,aOr hm k _ _ _ (Nat.mod_lt _ hm0) hs hn2]
    rw[Nat.mul_mod,hsq,←Nat.mul_mod,show 2*(n/2)=n by omega]
   ·rw[show((n:Int)%2==1)=true by rw[beq_iff_eq];omega,cond_true,aOr hm k _ _ _ (Nat.mod_lt _ hm0) (Nat.mod_lt _ hm0) hn2]
    rw[Nat.mul_mod,hsq,Nat.mod_mod,←Nat.mul_mod,Nat.mul_assoc,←Nat.pow_succ',show(2*(n/2)).succ=n by omega]
theorem bE1 {x:Nat}:fB (x:Int)=true↔(1≤x∧x≤2038)∧x^1019%2039=1:=by
 by_cases hx:x≤2038
 ·have e:=aOr (m:=2039) (by omega) 11 x 1019 1 (by omega) (by omega) (by omega)
  generalize x^1019=y at e ⊢
  rw[Nat.one_mul] at e
  have e:wB 2039 11 (x:Int) 1019 1=((y%2039:Nat):Int):=e
  unfold fB
  rw[e]
  constructor
  ·intro h
   rw[Bool.and_eq_true,beq_iff_eq] at h
   obtain⟨h1,h2⟩:=gM h.1
   have h3:=h.2
   exact⟨by omega,by omega⟩
  ·intro h
   rw[Bool.and_eq_true,beq_iff_eq]
   refine⟨gT (by omega) (by omega),?_⟩
   rw[h.2];rfl
 ·constructor
  ·intro h
   unfold fB at h
   rw[Bool.and_eq_true] at h
   obtain⟨h1,h2⟩:=gM h.1
   omega
  ·rintro⟨⟨_,h2⟩,_⟩
   exact absurd h2 hx
theorem bHb (x n a m:Nat):(x^n%m)^a%m=x^(a*n)%m:=by
 rw[←Nat.pow_mod,←Nat.pow_mul,Nat.mul_comm]
theorem Jb {x a:Nat}(h:x^a%2039=1)(b:Nat):x^(a*b)%2039=1:=by
 rw[Nat.pow_mul,Nat.pow_mod,h,Nat.one_pow]
theorem bBr {x:Int}(hx:fB x=true)(h1:x≠1){b:Int}(hb:¬aZ b 1019=0):fB (cO x b)=true∧cO x b≠1:=by
 have h0:0≤x:=by
  unfold fB at hx
  rw[Bool.and_eq_true] at hx
  have:=(gM hx.1).1;omega
 obtain⟨x,rfl⟩:=Int.eq_ofNat_of_zero_le h0
 have hm:=bAi (p:=b) (q:=1019) (by omega)
 unfold cO
 rw[hx,cond_true]
 generalize aZ b 1019=n at hb hm
 obtain⟨n,rfl⟩:=Int.eq_ofNat_of_zero_le hm.1
 obtain⟨⟨g1,g2⟩,g3⟩:=bE1.1 hx
 have e:=aOr (m:=2039) (by omega) 11 x n 1 (by omega) (by omega) (by omega)
 rw[show((1:Int))=((1:Nat):Int) from rfl,show((2039:Int))=((2039:Nat):Int) from rfl,e,Nat.one_mul]
 have hp:(x^n%2039)^1019%2039=1:=(bHb x n 1019 2039).trans (Jb g3 n)
 have hz:x^n%2039≠0:=fun h=>by
  rw[h,Nat.zero_pow (show 0<1019 by decide)] at hp
  exact absurd hp (by decide)
 refine⟨bE1.2 ⟨⟨by omega,by have:=Nat.mod_lt (x^n) (show 0<2039 by decide);omega⟩,hp⟩,fun h=>h1 ?_⟩
 have hone:x^n%2039=1:=by omega
 obtain⟨i1,i2,i3⟩:=bA7 (x:=(n:Int)) (by omega) (by omega)
 generalize wB 1019 11 (n:Int) 1017 1=c at i1 i2 i3
 obtain⟨c,rfl⟩:=Int.eq_ofNat_of_zero_le (show 0≤c by omega)
 have i1:n*c%1019=1:=by
  rw[←Int.natCast_mul] at i1;omega
 have e1:x^(n*c)%2039=1:=Jb hone c
 have e2:x^(n*c)%2039=x:=by
  have hq:n*c=1019*(n*c/1019)+1:=by omega
  rw[hq,Nat.pow_succ,Nat.mul_mod,Jb g3,Nat.one_mul,Nat.mod_mod,Nat.mod_eq_of_lt (by omega)]
 have:x=1:=by omega
 rw[this];rfl
theorem aOs {k:Int}(h:0≤k):¬aZ (IntKind.i64.wrap (1+k.tmod 1018)) 1019=0:=by
 have h1:0≤k.tmod 1018∧k.tmod 1018<1018:=⟨Int.tmod_nonneg _ h,Int.tmod_lt_of_pos _ (by decide)⟩
 rw[aG (by omega) (by omega),aTh];omega
theorem bDy (l v:Int):fB (nL l v)=true∧nL l v≠1:=by
 have hk:=jR l [89,v]
 have hs:0≤aX l [89,v]*aX l [89,v]:=Int.mul_nonneg hk.1 hk.1
 have hs2:aX l [89,v]*aX l [89,v]≤2147483646*2147483646:=Int.mul_le_mul (by omega) (by omega) hk.1 (by decide)
 refine bBr (by kernel_rfl) (by decide) (aOs ?_)
 rw[aG (by omega) (by omega)]
 exact Int.tmod_nonneg _ hs
theorem bBs (l v b:Int)(hb:¬aZ b 1019=0):fB (bZ l v b)=true∧bZ l v b≠1:=by
 obtain⟨h1,h2⟩:=bDy l v
 have hb':(aZ b 1019==0)=false:=by rw[beq_eq_false_iff_ne];exact hb
 unfold bZ
 rw[hb',cond_false]
 exact bBr h1 h2 hb
end Go.VK

set_option maxRecDepth 100000
namespace Go.VK
def gV (seed:Int):D.aAL:=(wR seed 2 500 3).1
def Nq (seed:Int):Int:=IntKind.i64.wrap (1+(aK seed [293]).tmod 1018)
def gD (seed x:Int):D.aAM:=⟨x,iD (Nq seed) (lU seed 2) x⟩
def gK (s:D.aAM)(i:Nat):D.aAQ:=⟨s,0,(i:Int),5⟩
def eY (s:D.aAM)(i:Nat):D.aAA:=⟨gK s i,(List.range i).map (gK s),(i:Int)⟩
def gHs (seed:Int)(i:Nat):List D.aAA:=[eY (gD seed 1) i,eY (gD seed 2) i,eY (gD seed 3) 0]
def U3 (seed x:Int)(i:Nat):D.aAA:=pR (eY (gD seed x) i) (Io [aK seed [317,0,1]] (gD seed x))
def gFs (seed:Int):List D.aAA:=[U3 seed 1 5,U3 seed 2 5,U3 seed 3 0]
def gBl (seed:Int):Int:=IntKind.i64.wrap (1+(aK seed [313,0]).tmod 1018)
def aRm (seed:Int):Bool:=(lM (gV seed) (gFs seed) [1,2] 500 (gBl seed)).2==(aK seed [283],true)
theorem bHc:((List.range 64).all fun(s:Nat)=>aRm ((s:Int)+1))=true:=by kernel_rfl
theorem bHd:((List.range 64).all fun(s:Nat)=>aRm ((s:Int)+65))=true:=by kernel_rfl
theorem bHe:((List.range 64).all fun(s:Nat)=>aRm ((s:Int)+129))=true:=by kernel_rfl
theorem bHf:((List.range 64).all fun(s:Nat)=>aRm ((s:Int)+193))=true:=by kernel_rfl
theorem bIu {seed:Int}(h:1≤seed∧seed≤256):aRm seed=true:=by
 have at_:∀{a:Int},((List.range 64).all fun(s:Nat)=>aRm ((s:Int)+a))=true→a≤seed→seed<a+64→aRm seed=true:=fun {a} h h1 h2=>by
  have:=List.all_eq_true.1 h (seed-a).toNat (List.mem_range.2 (by omega))
  rwa [show(((seed-a).toNat:Nat):Int)+a=seed by omega] at this
 by_cases h1:seed<65
 ·exact at_ bHc (by omega) (by omega)
 ·by_cases h2:seed<129
  ·exact at_ bHd (by omega) (by omega)
  ·by_cases h3:seed<193
   ·exact at_ bHe (by omega) (by omega)
   ·exact at_ bHf (by omega) (by omega)
end Go.VK

set_option maxRecDepth 100000
namespace Go.VK
structure GS (seed:Int) (i:Nat) (w:D.World):Prop where
 wi:WIn 1 w
 len:w.Devices.length=1
 sd:w.Seed=seed
 now:w.Now=0
 vault:w.aAL=gV seed
 hosts:w.Hosts=gHs seed i
 le:i≤5
theorem aEy (c:Int)(l:List Int)(x:Int):0≤iD c l x∧iD c l x≤1018:=by
 unfold iD;omega
theorem bHg (seed:Int){x:Int}(h:1≤x∧x≤7):pQ [gD seed x]=true:=by
 have:=aEy (Nq seed) (lU seed 2) x
 have hb:nC [gD seed x] 0 (gD seed x)=false:=by
  unfold nC
  rw[show(gD seed x).Index=x from rfl,show(gD seed x).Value=iD (Nq seed) (lU seed 2) x from rfl,gT h.1 h.2,gT this.1 this.2];rfl
 unfold pQ
 show(aW 1 1 7&& !(nC [gD seed x] 0 (gD seed x)||false))=true
 rw[hb];rfl
theorem bE3 {seed:Int}{x:Int}(h:1≤x∧x≤7){i:Nat}(hi:i≤5):dX (gK (gD seed x) i)=true:=by
 unfold dX gK
 rw[bHg seed h]
 rw[gT (show(0:Int)≤(i:Int) by omega) (show(i:Int)≤5 by omega)];rfl
theorem aRn {s:D.aAM}{i:Nat}(hi:i≤5):fQ (gK s i)=(i:Int):=by
 unfold fQ gK
 simp only[show IntKind.i64.wrap ((0:Int)*1000)=0 from by decide,Int.zero_add]
 exact aG (by omega) (by omega)
theorem bE4 {seed:Int}(h:1≤seed∧seed≤1000000):GS seed 0 (aV 1 3 2 500 seed)∧(gV seed).Threshold=2∧(aV 1 3 2 500 seed).sz≤100000:=by
 have hk:bJ seed=true:=gT (by omega) (by omega)
 have ho:aGq 1 3 2 500 seed=true:=by unfold aGq;rw[hk];decide
 obtain⟨h1,h2,h3⟩:=aRk ho
 have hv:Yg 500 7 (aK seed [283]) (Nq seed) 5=true:=by
  have hd:=dU seed [283]
  have hs:(aZ (Nq seed) 1019==0)=false:=by
   rw[beq_eq_false_iff_ne]
   refine aOs ?_
   have:=dU seed [293]
   have:=(gM this).1;omega
  unfold Yg
  rw[hd,hs];decide
 have hV:wR seed 2 500 3=(⟨7,2,mI (jT (wQ (Nq seed) 7 500) 7) 7,Eb (aK seed [283]) (jT (wQ (Nq seed) 7 500) 7)⟩,gHs seed 0,true):=by
  unfold wR Cu
  rw[show IntKind.i64.wrap (1+(aK seed [293]).tmod 1018)=Nq seed from rfl,hv]
  rfl
 refine⟨⟨h1,h2,h3,?_,?_,?_,by decide⟩,?_,aRb ..⟩
 ·unfold aV;rw[ho,cond_true]
 ·unfold aV;rw[ho,cond_true];rfl
 ·unfold aV;rw[ho,cond_true]
  show(wR seed 2 500 3).2.1=_
  rw[hV]
 ·unfold gV;rw[hV]
theorem bE5 {seed x e:Int}(h:1≤x∧x≤7){i:Nat}(hi:i<5)(he:fB e=true)(h1:e≠1):jK (eY (gD seed x) i) e=(eY (gD seed x) (i+1),mJ (gD seed x) e,true):=by
 have hg:((gK (gD seed x) i).Guesses==(gK (gD seed x) i).Limit)=false:=by
  rw[beq_eq_false_iff_ne];show(i:Int)≠5;omega
 have hk:eQ (gK (gD seed x) i) e=(gK (gD seed x) (i+1),mJ (gD seed x) e,true):=by
  unfold eQ
  rw[bE3 h (by omega),hg,he,show(e==1)=false by rw[beq_eq_false_iff_ne];exact h1]
  show(({gK (gD seed x) i with Guesses:=IntKind.i64.wrap ((i:Int)+1)}:D.aAQ),_,true)=_
  rw[aG (by omega) (by omega)];rfl
 have hm:decide (fQ (gK (gD seed x) i)<(i:Int))=false:=by rw[aRn (by omega)];simp
 have hc:aTg ((List.range i).map (gK (gD seed x))++[gK (gD seed x) i])=(List.range (i+1)).map (gK (gD seed x)):=by
  unfold aTg
  rw[decide_eq_false (by simp;omega),cond_false,List.range_succ,List.map_append];rfl
 unfold jK
 show(bif decide (fQ (gK (gD seed x) i)<(i:Int))|| !(eQ (gK (gD seed x) i) e).2.2 then _ else((⟨(eQ (gK (gD seed x) i) e).1,aTg ((List.range i).map (gK (gD seed x))++[gK (gD seed x) i]),fQ (eQ (gK (gD seed x) i) e).1⟩:D.aAA),_))=_
 rw[hk,hm,hc]
 simp only[Bool.false_or,Bool.not_true,cond_false,aRn (s:=gD seed x) (show i+1≤5 by omega)]
 show(_,(eQ (gK (gD seed x) i) e).2.1,true)=_
 rw[hk];rfl
theorem bBt {seed x e:Int}:jK (eY (gD seed x) 5) e=(eY (gD seed x) 5,0,false):=by
 have hk:eQ (gK (gD seed x) 5) e=(gK (gD seed x) 5,0,false):=by
  unfold eQ
  rw[show((gK (gD seed x) 5).Guesses==(gK (gD seed x) 5).Limit)=true from rfl]
  cases dX (gK (gD seed x) 5)<;>rfl
 unfold jK
 show(bif _|| !(eQ (gK (gD seed x) 5) e).2.2 then _ else _)=_
 rw[hk,show(!(gK (gD seed x) 5,(0:Int),false).2.2)=true from rfl,Bool.or_true];rfl
theorem bDz {seed e:Int}{i:Nat}(hi:i≤5)(he:fB e=true)(h1:e≠1):(jE (gHs seed i) [0,1] e).1=gHs seed (min 5 (i+1)):=by
 unfold jE
 show(Iw e (Iw e (gHs seed i,[],[]) 0) 1).1=_
 by_cases h:i<5
 ·rw[show min 5 (i+1)=i+1 by omega]
  have e0:((gHs seed i).getD 0 default)=eY (gD seed 1) i:=rfl
  have a0:=bE5 (seed:=seed) (x:=1) (e:=e) (by omega) h he h1
  have a1:=bE5 (seed:=seed) (x:=2) (e:=e) (by omega) h he h1
  have s0:Iw e (gHs seed i,[],[]) 0=([eY (gD seed 1) (i+1),eY (gD seed 2) i,eY (gD seed 3) 0],[1],[mJ (gD seed 1) e]):=by
   unfold Iw
   simp only[show(0:Int).toNat=0 from rfl,e0,a0];rfl
  rw[s0]
  unfold Iw
  simp only[show(1:Int).toNat=1 from rfl,show([eY (gD seed 1) (i+1),eY (gD seed 2) i,eY (gD seed 3) 0].getD 1 default)=eY (gD seed 2) i from rfl,a1];rfl
 ·have:i=5:=by omega
  subst this
  have s0:Iw e (gHs seed 5,[],[]) 0=(gHs seed 5,[],[]):=by
   unfold Iw
   simp only[show(0:Int).toNat=0 from rfl,show((gHs seed 5).getD 0 default)=eY (gD seed 1) 5 from rfl,bBt];rfl
  rw[s0]
  unfold Iw
  simp only[show(1:Int).toNat=1 from rfl,show((gHs seed 5).getD 1 default)=eY (gD seed 2) 5 from rfl,bBt];rfl
theorem Sk {seed:Int}(h:1≤seed∧seed≤1000000):(gV seed).Threshold=2:=(bE4 h).2.1
theorem bIv {seed g:Int}{hs:List D.aAA}(hl:hs.length=3){a b:Int}(hc:a=0∧b=1∨a=1∧b=2)(hg:0≤g∧g≤9999):Yj hs [a,b] g (gBl seed)=true:=by
 have hb:(aZ (gBl seed) 1019==0)=false:=by
  rw[beq_eq_false_iff_ne]
  refine aOs ?_
  have:=dU seed [313,0]
  have:=(gM this).1;omega
 have hch:gJ hs [a,b]=true:=by
  unfold gJ yP
  rw[hl]
  rcases hc with⟨rfl,rfl⟩|⟨rfl,rfl⟩<;>rfl
 unfold Yj
 rw[hch,hb,gT hg.1 hg.2];rfl
theorem bBu {v:D.aAL}{hs:List D.aAA}{ch:List Int}{pin b:Int}(h:Yj hs ch pin b=true):(lM v hs ch pin b).1=(jE hs ch (bZ v.Salt pin b)).1:=by
 unfold lM
 rw[h,Bool.not_true,cond_false]
 generalize(decide ((ch.length:Int)<v.Threshold)||_)=q
 cases q<;>rfl
theorem GS.aCL {seed:Int}(hs:1≤seed∧seed≤1000000){i:Nat}{w:D.World}(h:GS seed i w){g:Int}(hg:0≤g∧g≤9999):GS seed (min 5 (i+1)) (jU w g).1:=by
 obtain⟨k1,k2,k3⟩:=h.wi.aCL g
 have hl:mU w=[0,1]:=by
  unfold mU
  rw[h.vault,Sk hs,h.hosts];rfl
 have hb:Yk w=gBl seed:=by unfold Yk;rw[h.sd,h.now];rfl
 have hn:¬aZ (gBl seed) 1019=0:=by
  refine aOs ?_
  have:=dU seed [313,0]
  have:=(gM this).1;omega
 obtain⟨q1,q2⟩:=bBs (gV seed).Salt g (gBl seed) hn
 have hw:(jU w g).1=aCd {w with Hosts:=gHs seed (min 5 (i+1))} 5:=by
  show(cB w (mU w) g).1=_
  unfold cB
  rw[h.wi.ok,hl,hb,h.vault,h.hosts,Bool.not_true,cond_false,bBu (bIv rfl (.inl ⟨rfl,rfl⟩) hg),bDz h.le q1 q2]
 exact⟨k1,k3.trans h.len,k2.trans h.sd,by rw[hw];exact h.now,by rw[hw];exact h.vault,by rw[hw];rfl,by omega⟩
theorem aTn {s:D.aAM}{i:Nat}(hi:i≤5){v:Int}:fJ v (eY s i)=bGz v (5-(i:Int)):=by
 unfold fJ
 rw[show fQ (eY s i).State=(i:Int) from aRn hi,show(eY s i).Monotonic=(i:Int) from rfl,show(eY s i).State.Limit=5 from rfl,show(eY s i).State.Guesses=(i:Int) from rfl,decide_eq_false (show ¬(i:Int)<(i:Int) by omega),cond_false,aG (by omega) (by omega)];rfl
theorem GS.left {seed:Int}(hs:1≤seed∧seed≤1000000){i:Nat}{w:D.World}(h:GS seed i w):dG w=5-(i:Int):=by
 have hi:=h.le
 unfold dG
 rw[h.wi.ok,h.vault,Sk hs,h.hosts]
 show fJ (fJ 10 (eY (gD seed 1) i)) (eY (gD seed 2) i)=_
 rw[aTn hi,aTn hi]
 unfold bGz
 rw[decide_eq_true (show 5-(i:Int)<10 by omega),cond_true,decide_eq_false (by omega)];rfl
theorem GS.roll {seed:Int}(hs:1≤seed∧seed≤1000000){w:D.World}(h:GS seed 5 w){b:Int}(hb:0≤b∧b≤4):(dM w 0 b).2=true∧dG (dM w 0 b).1=0∧(bR (dM w 0 b).1).2=false:=by
 obtain⟨j,rfl⟩:=Int.eq_ofNat_of_zero_le hb.1
 have hj:j≤4:=by omega
 have hw:=(h.wi.roll 0 (j:Int)).1
 have hr:fT (eY (gD seed 1) 5) (j:Int)=(⟨gK (gD seed 1) (4-j),(List.range 5).map (gK (gD seed 1)),5⟩,true):=by
  have:j=0∨j=1∨j=2∨j=3∨j=4:=by omega
  rcases this with rfl|rfl|rfl|rfl|rfl<;>rfl
 have he:dM w 0 (j:Int)=({w with Hosts:=[⟨gK (gD seed 1) (4-j),(List.range 5).map (gK (gD seed 1)),5⟩,eY (gD seed 2) 5,eY (gD seed 3) 0]},true):=by
  unfold dM
  rw[h.wi.ok,h.hosts]
  show(bif (fT (eY (gD seed 1) 5) (j:Int)).2 then _ else _)=_
  rw[show((gHs seed 5).getD (0:Int).toNat default)=eY (gD seed 1) 5 from rfl,hr];rfl
 rw[he] at hw ⊢
 have hm:decide (fQ (gK (gD seed 1) (4-j))<(5:Int))=true:=by rw[aRn (by omega)];exact decide_eq_true (by omega)
 refine⟨rfl,?_,?_⟩
 ·unfold dG
  rw[hw.ok]
  show(bif !true||decide ((3:Int)<w.aAL.Threshold) then 0 else(List.foldl fJ 10 (List.take w.aAL.Threshold.toNat _)))=0
  rw[h.vault,Sk hs]
  show fJ (fJ 10 ⟨gK (gD seed 1) (4-j),(List.range 5).map (gK (gD seed 1)),5⟩) (eY (gD seed 2) 5)=0
  rw[aTn (by omega)]
  unfold fJ
  simp only[hm];rfl
 ·unfold bR
  rw[hw.ok]
  show(bif true&&(dC [⟨gK (gD seed 1) (4-j),(List.range 5).map (gK (gD seed 1)),5⟩,eY (gD seed 2) 5,eY (gD seed 3) 0] _).2 then(_,true) else(_,false)).2=false
  have:∀c,(dC [⟨gK (gD seed 1) (4-j),(List.range 5).map (gK (gD seed 1)),5⟩,eY (gD seed 2) 5,eY (gD seed 3) 0] c).2=false:=fun c=>by
   unfold dC aGb
   generalize fZ _ c=ss
   cases ss with
   |nil=>rfl
   |cons s ss=>
    have hbad:fE ⟨gK (gD seed 1) (4-j),(List.range 5).map (gK (gD seed 1)),5⟩ s=true:=by
     unfold fE
     simp only[hm,Bool.true_or,Bool.or_true]
    simp only[List.zip_cons_cons,List.any_cons,hbad,Bool.true_or,Bool.or_true,cond_true]
  rw[this];rfl
theorem bD0 {seed:Int}{w:D.World}(hs:1≤seed∧seed≤1000000)(h:GS seed 5 w):(dC w.Hosts (Xz w))=(gFs seed,true):=by
 have hc:Xz w=[aK seed [317,0,1]]:=by
  unfold Xz
  rw[show(8:Nat)=0+1+1+1+1+1+1+1+1 from rfl]
  unfold Qn
  rw[h.vault,Sk hs,h.sd,h.now]
  simp only[show(decide ((1:Int)<2)&&decide ((1:Int)≤7))=true from rfl,cond_true]
  unfold Qn
  rw[h.vault,Sk hs];rfl
 have ha:pQ [gD seed 1,gD seed 2,gD seed 3]=true:=by
  have b:∀(l:List D.aAM) (i:Nat) (x:Int),(1≤x∧x≤7)→((l.take i).any fun q=>q.Index==x)=false→nC l i (gD seed x)=false:=fun l i x hx hq=>by
   have:=aEy (Nq seed) (lU seed 2) x
   unfold nC
   rw[show(gD seed x).Index=x from rfl,show(gD seed x).Value=iD (Nq seed) (lU seed 2) x from rfl,gT hx.1 hx.2,gT this.1 this.2,hq];rfl
  unfold pQ
  show(aW 3 1 7&& !(nC _ 0 (gD seed 1)||(nC _ 1 (gD seed 2)||(nC _ 2 (gD seed 3)||false))))=true
  rw[b _ 0 1 (by omega) rfl,b _ 1 2 (by omega) rfl,b _ 2 3 (by omega) rfl];rfl
 have hr:∀(x:Int) (i:Nat) (_:1≤x∧x≤7) (_:i≤5),fE (eY (gD seed x) i) (Io [aK seed [317,0,1]] (gD seed x))=false:=fun x i hx hi=>by
  have hp:pQ [Io [aK seed [317,0,1]] (gD seed x)]=true:=by
   have p1:=aEy (Nq seed) (lU seed 2) x
   have p2:=aEy 0 [aK seed [317,0,1]] x
   have hv:0≤(IntKind.i64.wrap (iD (Nq seed) (lU seed 2) x+iD 0 [aK seed [317,0,1]] x)).tmod 1019∧(IntKind.i64.wrap (iD (Nq seed) (lU seed 2) x+iD 0 [aK seed [317,0,1]] x)).tmod 1019≤1018:=by
    rw[aG (by omega) (by omega)]
    have:=Int.tmod_nonneg (a:=iD (Nq seed) (lU seed 2) x+iD 0 [aK seed [317,0,1]] x) 1019 (by omega)
    have:=Int.tmod_lt_of_pos (iD (Nq seed) (lU seed 2) x+iD 0 [aK seed [317,0,1]] x) (show(0:Int)<1019 by decide)
    omega
   unfold pQ
   show(aW 1 1 7&& !((!aW x 1 7||(!aW ((IntKind.i64.wrap (iD (Nq seed) (lU seed 2) x+iD 0 [aK seed [317,0,1]] x)).tmod 1019) 0 1018||false))||false))=true
   rw[gT hx.1 hx.2,gT hv.1 hv.2];rfl
  unfold fE
  rw[show(eY (gD seed x) i).State=gK (gD seed x) i from rfl,bE3 hx hi,aRn hi,show(eY (gD seed x) i).Monotonic=(i:Int) from rfl,decide_eq_false (show ¬(i:Int)<(i:Int) by omega),hp]
  show(false||(false||((0:Int)==1000000||(x !=x||false))))=false
  simp
 rw[hc,h.hosts]
 have hf:fZ ((gHs seed 5).map fun h=>h.State.aAM) [aK seed [317,0,1]]=[Io [aK seed [317,0,1]] (gD seed 1),Io [aK seed [317,0,1]] (gD seed 2),Io [aK seed [317,0,1]] (gD seed 3)]:=by
  unfold fZ
  rw[show((gHs seed 5).map fun h=>h.State.aAM)=[gD seed 1,gD seed 2,gD seed 3] from rfl,ha];rfl
 unfold dC aGb
 rw[hf]
 simp only[gHs,List.zip_cons_cons,List.any_cons,hr 1 5 (by omega) (by omega),hr 2 5 (by omega) (by omega),hr 3 0 (by omega) (by omega)]
 rfl
theorem GS.renew {seed:Int}(hs:1≤seed∧seed≤256){w:D.World}(h:GS seed 5 w):(bR w).2=true∧dG (bR w).1=5∧(cB (bR w).1 [1,2] 500).2=(Cn w,true):=by
 have hs':1≤seed∧seed≤1000000:=by omega
 have hw:=h.wi.renew.1
 have he:bR w=({w with Hosts:=gFs seed},true):=by
  unfold bR
  rw[h.wi.ok,bD0 hs' h];rfl
 rw[he] at hw ⊢
 refine⟨rfl,?_,?_⟩
 ·unfold dG
  rw[hw.ok]
  show(bif !true||decide ((3:Int)<w.aAL.Threshold) then 0 else(List.foldl fJ 10 (List.take w.aAL.Threshold.toNat (gFs seed))))=5
  rw[h.vault,Sk hs']
  show fJ (fJ 10 (U3 seed 1 5)) (U3 seed 2 5)=5
  have:∀x i v,fJ v (U3 seed x i)=bGz v 5:=fun x i v=>rfl
  rw[this,this];rfl
 ·have hb:Yk ({w with Hosts:=gFs seed}:D.World)=gBl seed:=by unfold Yk;rw[h.sd,h.now];rfl
  have hc:=bIu hs
  unfold cB
  rw[hw.ok,hb]
  show(lM w.aAL (gFs seed) [1,2] 500 (gBl seed)).2=_
  rw[h.vault]
  unfold aRm at hc
  rw[beq_iff_eq.1 hc]
  unfold Cn
  rw[h.sd]
end Go.VK
