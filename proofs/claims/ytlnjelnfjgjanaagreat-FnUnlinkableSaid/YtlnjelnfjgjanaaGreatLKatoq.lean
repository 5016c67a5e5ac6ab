import Derived.Test.YtlnjelnfjgjanaaGreatXpFF
/- What holds in all worlds that events lead to: plain laws over the pure definitions, no program in sight. The conditions stand in each. -/
set_option linter.unusedVariables false
set_option maxRecDepth 100000
namespace Go.VK
theorem jR {h:Int}(v:Int)(h0:0≤h∧h<2147483647):∃q,hstep h v=h*1000003+v+13-2147483647*q∧(0≤hstep h v∧hstep h v<2147483647):=by
 obtain⟨h0,h1⟩:=h0
 have hm:=qI (p:=v) (q:=2147483647) (by decide)
 have hv:dI v 2147483647=v%2147483647:=if_pos (by decide)
 have e:hstep h v=(h*1000003+v+13)%2147483647:=by
  unfold hstep
  rw[aG (n:=h*1000003) (by omega) (by omega),aG (n:=h*1000003+dI v 2147483647) (by omega) (by omega),aG (by omega) (by omega),Int.tmod_eq_emod_of_nonneg (by omega),hv]
  omega
 rw[e]
 refine⟨(h*1000003+v+13)/2147483647,?_,Int.emod_nonneg _ (by decide),Int.emod_lt_of_pos _ (by decide)⟩
 have:=Int.emod_add_mul_ediv (h*1000003+v+13) 2147483647
 omega
theorem bAy (k a b:Int):∃q,bI k [a,b]=k*1000009000027000028+a*1000006000009+b*1000003+11000145000724001630001411-2147483647*q:=by
 simp only[bI,vF,List.flatten_cons,List.flatten_nil,List.append_nil,List.cons_append,List.nil_append,List.foldl_cons,List.foldl_nil]
 obtain⟨q0,e0,r0⟩:=jR k (h:=11) ⟨by decide,by decide⟩
 generalize hstep 11 k=y0 at*
 obtain⟨q1,e1,r1⟩:=jR a (h:=y0) r0
 generalize hstep y0 a=y1 at*
 obtain⟨q2,e2,r2⟩:=jR b (h:=y1) r1
 generalize hstep y1 b=y2 at*
 obtain⟨q3,e3,r3⟩:=jR k (h:=y2) r2
 generalize hstep y2 k=y3 at*
 exact⟨q0*1000009000027000027+q1*1000006000009+q2*1000003+q3*1,by omega⟩
theorem bAz (k a b c:Int):∃q,bI k [a,b,c]=k*1000012000054000108000082+a*1000009000027000027+b*1000006000009+c*1000003+11000178001159003802006301004246-2147483647*q:=by
 simp only[bI,vF,List.flatten_cons,List.flatten_nil,List.append_nil,List.cons_append,List.nil_append,List.foldl_cons,List.foldl_nil]
 obtain⟨q0,e0,r0⟩:=jR k (h:=11) ⟨by decide,by decide⟩
 generalize hstep 11 k=y0 at*
 obtain⟨q1,e1,r1⟩:=jR a (h:=y0) r0
 generalize hstep y0 a=y1 at*
 obtain⟨q2,e2,r2⟩:=jR b (h:=y1) r1
 generalize hstep y1 b=y2 at*
 obtain⟨q3,e3,r3⟩:=jR c (h:=y2) r2
 generalize hstep y2 c=y3 at*
 obtain⟨q4,e4,r4⟩:=jR k (h:=y3) r3
 generalize hstep y3 k=y4 at*
 exact⟨q0*1000012000054000108000081+q1*1000009000027000027+q2*1000006000009+q3*1000003+q4*1,by omega⟩
theorem bA0 (k a b c d:Int):∃q,bI k [a,b,c,d]=k*1000015000090000270000405000244+a*1000012000054000108000081+b*1000009000027000027+c*1000006000009+d*1000003+11000211001693007279017707023149012751-2147483647*q:=by
 simp only[bI,vF,List.flatten_cons,List.flatten_nil,List.append_nil,List.cons_append,List.nil_append,List.foldl_cons,List.foldl_nil]
 obtain⟨q0,e0,r0⟩:=jR k (h:=11) ⟨by decide,by decide⟩
 generalize hstep 11 k=y0 at*
 obtain⟨q1,e1,r1⟩:=jR a (h:=y0) r0
 generalize hstep y0 a=y1 at*
 obtain⟨q2,e2,r2⟩:=jR b (h:=y1) r1
 generalize hstep y1 b=y2 at*
 obtain⟨q3,e3,r3⟩:=jR c (h:=y2) r2
 generalize hstep y2 c=y3 at*
 obtain⟨q4,e4,r4⟩:=jR d (h:=y3) r3
 generalize hstep y3 d=y4 at*
 obtain⟨q5,e5,r5⟩:=jR k (h:=y4) r4
 generalize hstep y4 k=y5 at*
 exact⟨q0*1000015000090000270000405000243+q1*1000012000054000108000081+q2*1000009000027000027+q3*1000006000009+q4*1000003+q5*1,by omega⟩
theorem Od (n:Int):∃e,gQ n=n+e∧0≤e∧e≤1:=by
 unfold gQ
 by_cases h:n=0
 ·subst h;exact⟨1,rfl,by decide,by decide⟩
 ·rw[beq_eq_false_iff_ne.2 h];exact⟨0,by simp,by decide,by decide⟩
theorem bA1 (s i:Int):(aJ s i).Seed=gQ (bI s [151,277,i]):=by
 unfold aJ aU;simp only[List.cons_append,List.nil_append]
theorem bA2 (s:D.aAI):iA s=gQ (bI s.Seed [151,181]):=by
 unfold iA aU;simp only[List.cons_append,List.nil_append]
theorem aUy (s:D.aAI)(n:ByteArray)(i:Int):eO s n i=gQ (bI s.Seed [151,179,bU n,i]):=by
 unfold eO aU;simp only[List.cons_append,List.nil_append]
theorem aQm (s i k:Int):∃e q,(aJ s i).Seed-(aJ s k).Seed=(i-k)*1000003+e+2147483647*q∧-1≤e∧e≤1:=by
 have hi:(aJ s i).Seed=gQ (bI s [151,277,i]):=bA1 s i
 have hk:(aJ s k).Seed=gQ (bI s [151,277,k]):=bA1 s k
 obtain⟨e1,a1,a2,a3⟩:=Od (bI s [151,277,i])
 obtain⟨e2,b1,b2,b3⟩:=Od (bI s [151,277,k])
 obtain⟨q1,c1⟩:=bAz s 151 277 i
 obtain⟨q2,c2⟩:=bAz s 151 277 k
 rw[hi,hk,a1,b1,c1,c2]
 exact⟨e1-e2,q2-q1,by omega,by omega,by omega⟩
def dfs:List Int:=[-5,-4,-3,-2,-1,0,1,2,3,4,5]
def aW4:List Int:=[-1,0,1]
theorem aUz {d:Int}(h1: -5≤d)(h2:d≤5):d∈dfs:=by simp only[dfs,List.mem_cons,List.not_mem_nil,or_false];omega
theorem Ym {d:Int}(h1: -1≤d)(h2:d≤1):d∈aW4:=by simp only[aW4,List.mem_cons,List.not_mem_nil,or_false];omega
theorem bDv:(dfs.all fun d=>d==0||aW4.all fun e=>aW4.all fun z=> !((d*1000003+e)*1000009000027000028-z)%2147483647==0)=true:=by kernel_rfl
theorem aW5 {s i k:Int}(hi:0≤i∧i<6)(hk:0≤k∧k<6)(h:i≠k):iA (aJ s i)≠iA (aJ s k):=by
 intro he
 obtain⟨e,q,d1,d2,d3⟩:=aQm s i k
 have h1:iA (aJ s i)=gQ (bI (aJ s i).Seed [151,181]):=bA2 _
 have h2:iA (aJ s k)=gQ (bI (aJ s k).Seed [151,181]):=bA2 _
 obtain⟨e1,a1,a2,a3⟩:=Od (bI (aJ s i).Seed [151,181])
 obtain⟨e2,b1,b2,b3⟩:=Od (bI (aJ s k).Seed [151,181])
 obtain⟨q1,c1⟩:=bAy (aJ s i).Seed 151 181
 obtain⟨q2,c2⟩:=bAy (aJ s k).Seed 151 181
 rw[h1,h2,a1,b1,c1,c2] at he
 have hz:(((i-k)*1000003+e)*1000009000027000028-(e2-e1))%2147483647=0:=by
  clear h1 h2 a1 b1 c1 c2
  generalize(aJ s i).Seed=x at*
  generalize(aJ s k).Seed=y at*
  omega
 have:=List.all_eq_true.1 bDv (i-k) (aUz (by omega) (by omega))
 rw[beq_eq_false_iff_ne.2 (show i-k≠0 by omega),Bool.false_or] at this
 have:=List.all_eq_true.1 (List.all_eq_true.1 this e (Ym d2 d3)) (e2-e1) (Ym (by omega) (by omega))
 rw[hz] at this;cases this
def hs1:Int:=1464438180
theorem bJ2:bU (aA 0)=1941999745:=by kernel_rfl
theorem bJ3:bU (aA 1)=1464438180:=by kernel_rfl
theorem bA3:(dfs.all fun d=>[0,477561565,-477561565].all fun(g:Int)=>(d==0&&g==0)||aW4.all fun e=>aW4.all fun z=> !((d*1000003+e)*1000015000090000270000405000244+g*1000006000009+d*1000003-z)%2147483647==0)=true:=by kernel_rfl
theorem aQn {s i k j l:Int}(hi:0≤i∧i<6)(hk:0≤k∧k<6)(hj:j=0∨j=1)(hl:l=0∨l=1)(h:i≠k∨j≠l):eO (aJ s i) (aA j) i≠eO (aJ s k) (aA l) k:=by
 intro he
 obtain⟨e,q,d1,d2,d3⟩:=aQm s i k
 have h1:eO (aJ s i) (aA j) i=gQ (bI (aJ s i).Seed [151,179,bU (aA j),i]):=aUy _ _ _
 have h2:eO (aJ s k) (aA l) k=gQ (bI (aJ s k).Seed [151,179,bU (aA l),k]):=aUy _ _ _
 obtain⟨e1,a1,a2,a3⟩:=Od (bI (aJ s i).Seed [151,179,bU (aA j),i])
 obtain⟨e2,b1,b2,b3⟩:=Od (bI (aJ s k).Seed [151,179,bU (aA l),k])
 obtain⟨q1,c1⟩:=bA0 (aJ s i).Seed 151 179 (bU (aA j)) i
 obtain⟨q2,c2⟩:=bA0 (aJ s k).Seed 151 179 (bU (aA l)) k
 rw[h1,h2,a1,b1,c1,c2] at he
 obtain⟨g,hg,hg2⟩:∃g,bU (aA j)-bU (aA l)=g∧(g∈[0,477561565,(-477561565:Int)]∧(j≠l→g≠0)):=by
  rcases hj with rfl|rfl<;>rcases hl with rfl|rfl<;>simp only[bJ2,bJ3]
  ·exact⟨0,by decide,by decide,by decide⟩
  ·exact⟨477561565,by decide,by decide,by decide⟩
  ·exact⟨-477561565,by decide,by decide,by decide⟩
  ·exact⟨0,by decide,by decide,by decide⟩
 have hz:(((i-k)*1000003+e)*1000015000090000270000405000244+g*1000006000009+(i-k)*1000003-(e2-e1))%2147483647=0:=by
  clear h1 h2 a1 b1 c1 c2
  generalize(aJ s i).Seed=x at*
  generalize(aJ s k).Seed=y at*
  generalize bU (aA j)=x1 at*
  generalize bU (aA l)=y1 at*
  clear hg2 hj hl h
  omega
 have:=List.all_eq_true.1 (List.all_eq_true.1 bA3 (i-k) (aUz (by omega) (by omega))) g hg2.1
 rw[show(i-k==0&&g==0)=false by
  rcases h with h|h
  ·rw[beq_eq_false_iff_ne.2 (show i-k≠0 by omega)];rfl
  ·rw[beq_eq_false_iff_ne.2 (hg2.2 h),Bool.and_false],Bool.false_or] at this
 have:=List.all_eq_true.1 (List.all_eq_true.1 this e (Ym d2 d3)) (e2-e1) (Ym (by omega) (by omega))
 rw[hz] at this;cases this
theorem aW6 {n:Int}(h:0≤n∧n<2147483647):bM (gQ n)=true:=by
 unfold gQ bM bF
 by_cases h0:n=0
 ·subst h0;rfl
 ·rw[beq_eq_false_iff_ne.2 h0,cond_false,decide_eq_true (show 1≤n by omega),decide_eq_true (show n≤2147483646 by omega)];rfl
theorem jS (s:Int)(l:List Int):bM (aU s l)=true:=aW6 (jN _ _)
theorem aMl {k:Int}(h:bM k=true):1≤k∧k≤2147483646:=kJ h
theorem bE9 {k:Int}(h:bM k=true):eF k=k*48271%2147483647:=by
 have:=aMl h
 unfold eF
 rw[h,Bool.not_true,cond_false,aG (by omega) (by omega),Int.tmod_eq_emod_of_nonneg (by omega)]
theorem aU0 {k:Int}(h:bM k=true):bM (eF k)=true:=by
 have:=aMl h
 rw[bE9 h]
 have:k*48271%2147483647≠0:=by omega
 unfold bM bF
 rw[decide_eq_true (show 1≤k*48271%2147483647 by omega),decide_eq_true (show k*48271%2147483647≤2147483646 by omega)];rfl
theorem Yo {k:Int}(h:bM k=true):gG (eF k)=k:=by
 have:=aMl h
 unfold gG
 rw[aU0 h,Bool.not_true,cond_false,bE9 h]
 omega
theorem aU1 {a b:Int}(ha:bM a=true)(hb:bM b=true)(h:eF a=eF b):a=b:=by
 rw[←Yo ha,h,Yo hb]
theorem aSu {s i k j l:Int}(hi:0≤i∧i<6)(hk:0≤k∧k<6)(hj:j=0∨j=1)(hl:l=0∨l=1)(h:i≠k∨j≠l):dO (aJ s i) (aA j) i≠dO (aJ s k) (aA l) k:=
 fun he=>aQn hi hk hj hl h (aU1 (jS _ _) (jS _ _) he)
theorem aW7 {s i k:Int}(hi:0≤i∧i<6)(hk:0≤k∧k<6)(h:i≠k):aX (aJ s i)≠aX (aJ s k):=
 fun he=>aW5 hi hk h (aU1 (jS _ _) (jS _ _) he)
end Go.VK

set_option maxRecDepth 100000
namespace Go.VK
theorem aF9 {α:Type}{p:Nat→α→Bool}:∀{l:List α} {i:Nat},(∀k (h:k<l.length),p (i+k) l[k]=false)→gB p i l=false
 |[],i,_=>rfl
 |x::l,i,h=>by
  have h0:=h 0 (by simp)
  have ih:=aF9 (p:=p) (l:=l) (i:=i+1) (fun k hk=>by
   have:=h (k+1) (by simpa using hk)
   rw[show i+1+k=i+(k+1) by omega];simpa using this)
  simp only[gB,Nat.add_zero,List.getElem_cons_zero] at h0 ⊢
  rw[h0,ih];rfl
theorem aSv {α:Type}{p:Nat→α→Bool}:∀{l:List α} {i:Nat},gB p i l=false→∀k (h:k<l.length),p (i+k) l[k]=false
 |x::l,i,h,0,_=>by simp only[gB,Bool.or_eq_false_iff] at h;simpa using h.1
 |x::l,i,h,k+1,hk=>by
  simp only[gB,Bool.or_eq_false_iff] at h
  have:=aSv h.2 k (by simpa using hk)
  rw[show i+(k+1)=i+1+k by omega];simpa using this
def Jf (seed j:Int)(k:Nat):Int:=dO (aJ seed (k:Int)) (aA j) (k:Int)
def Tz (seed j:Int)(l:List D.aAJ):Prop:=∀k (h:k<l.length),l[k].Handle=(k:Int)∧l[k].Public=Jf seed j k∧0≤l[k].Counter∧l[k].Counter≤1000000
theorem kG {x a b:Int}(h1:a≤x)(h2:x≤b):bF x a b=true:=by unfold bF;rw[decide_eq_true h1,decide_eq_true h2];rfl
theorem aU2 {seed j l:Int}{i k:Nat}(hi:i<6)(hk:k<6)(hj:j=0∨j=1)(hl:l=0∨l=1)(h:i≠k∨j≠l):Jf seed j i≠Jf seed l k:=
 aSu (by omega) (by omega) hj hl (by omega)
theorem aW8 (seed j:Int)(k:Nat):gG (Jf seed j k)=eO (aJ seed (k:Int)) (aA j) (k:Int):=by
 unfold Jf dO
 exact Yo (by unfold eO;exact jS _ _)
theorem aSw {seed j m:Int}{l:List D.aAJ}(hj:j=0∨j=1)(h:Tz seed j l)(hl:l.length≤6)(hm:1≤m∧m≤3):aY ⟨1,m,l⟩=true:=by
 have ha:gB (xN ⟨1,m,l⟩) 0 l=false:=aF9 fun k hk=>by
  obtain⟨h1,h2,h3,h4⟩:=h k hk
  have hp:=aMl (jS (aJ seed (k:Int)).Seed [179,bU (aA j),(k:Int)])
  unfold xN
  rw[Nat.zero_add,h1,kG (by omega) (by omega),h2,aW8,beq_eq_false_iff_ne.2 (show eO (aJ seed (k:Int)) (aA j) (k:Int)≠0 by unfold eO;omega),kG h3 h4]
  have e1:(decide (0<k)&&decide ((l.getD (k-1) default).Handle≥(k:Int)))=false:=by
   by_cases hk0:0<k
   ·have hk1:k-1<l.length:=by omega
    have:=(h (k-1) hk1).1
    rw[List.getD,List.getElem?_eq_getElem hk1,Option.getD_some,this,decide_eq_false (show ¬((k-1:Nat):Int)≥(k:Int) by omega),Bool.and_false]
   ·rw[decide_eq_false hk0,Bool.false_and]
  have e2:((l.take k).any fun q=>q.Public==Jf seed j k)=false:=by
   rw[List.any_eq_false]
   intro q hq
   obtain⟨i,hi,rfl⟩:=List.mem_iff_getElem.1 hq
   rw[List.length_take] at hi
   rw[List.getElem_take,(h i (by omega)).2.1]
   simp only[beq_iff_eq]
   exact aU2 (by omega) (by omega) hj hj (.inl (by omega))
  show(!true||((decide (0<k)&&decide ((l.getD (k-1) default).Handle≥(k:Int)))||(false|| !true))||(l.take k).any fun q=>q.Public==Jf seed j k)=false
  rw[e1,e2];rfl
 unfold aY
 show(bF 1 0 1000000&&bF m 1 3&&decide (l.length≤8)&& !gB (xN ⟨1,m,l⟩) 0 l)=true
 rw[ha,kG hm.1 hm.2,decide_eq_true (show l.length≤8 by omega)];rfl
structure SiteIn (seed j:Int) (n:Nat) (s:D.Site):Prop where
 name:s.Name=aA j
 book:eG s.Book=true
 key:bM s.Book.Seed=true
 acc:∃l,s.Accounts=[⟨1,3,l⟩]∧Tz seed j l∧l.length=n
theorem O9 {j:Int}(hj:j=0∨j=1):(jC (aA j)&&decide (2≤(dR (aA j)).length))=true:=by
 rcases hj with rfl|rfl<;>kernel_rfl
theorem SiteIn.ok {seed j:Int}{n:Nat}{s:D.Site}(hj:j=0∨j=1)(hn:n≤6)(h:SiteIn seed j n s):cZ s=true:=by
 obtain⟨h1,h2,h3,l,h4,h5,h6⟩:=h
 unfold cZ mW
 rw[h1,O9 hj,h3,h2,h4]
 show(true&&true&&decide (1≤8)&&true&& !(M5 [⟨1,3,l⟩] 0 ⟨1,3,l⟩||false))=true
 unfold M5
 rw[aSw hj h5 (by omega) ⟨by decide,by decide⟩];rfl
theorem SiteIn.find {seed j:Int}{n:Nat}{s:D.Site}(h:SiteIn seed j n s):aC s 1=0:=by
 obtain⟨_,_,_,l,h4,_⟩:=h
 unfold aC;rw[h4];rfl
theorem aMm {α:Type}{p:α→Bool}:∀{l:List α},(∀c∈l,p c=true)→l.takeWhile p=l
 |[],_=>rfl
 |x::l,h=>by rw[List.takeWhile_cons,h x (by simp),if_pos rfl,aMm (fun c hc=>h c (by simp[hc]))]
theorem bA4 {l:List D.aAJ}{p:Int}(h:∀k (h:k<l.length),l[k].Handle=(k:Int)):aCa l (l.length:Int) p=l++[⟨(l.length:Int),p,0,false⟩]:=by
 have:Tv (l.length:Int) l=l.length:=by
  unfold Tv
  rw[aMm]
  intro c hc
  obtain⟨i,hi,rfl⟩:=List.mem_iff_getElem.1 hc
  rw[h i hi];exact decide_eq_true (by omega)
 unfold aCa
 rw[this,List.take_length,List.drop_length,List.append_nil]
theorem Tz.snoc {seed j:Int}{l:List D.aAJ}(h:Tz seed j l):Tz seed j (l++[⟨(l.length:Int),Jf seed j l.length,0,false⟩]):=by
 intro k hk
 by_cases hk1:k<l.length
 ·rw[List.getElem_append_left hk1];exact h k hk1
 ·have:k=l.length:=by simp at hk;omega
  subst this
  simp
theorem SiteIn.reg {seed j:Int}{n:Nat}{s:D.Site}(hj:j=0∨j=1)(hn:n<6)(h:SiteIn seed j n s):
  (eP s 1 (n:Int) (Jf seed j n)).2=true∧SiteIn seed j (n+1) (eP s 1 (n:Int) (Jf seed j n)).1:=by
 have hok:=h.ok hj (by omega)
 have hf:=h.find
 obtain⟨h1,h2,h3,l,h4,h5,h6⟩:=h
 subst h6
 have ha:(s.Accounts.getD (aC s 1).toNat default)=⟨1,3,l⟩:=by rw[hf,h4];rfl
 have hi:=bA4 (p:=Jf seed j l.length) (fun k hk=>(h5 k hk).1)
 have hs:=h5.snoc
 have e1:=aSw (m:=3) hj h5 (by omega) ⟨by decide,by decide⟩
 have e2:=aSw (m:=3) hj hs (by simp;omega) ⟨by decide,by decide⟩
 have hadd:gJ ⟨1,3,l⟩ (l.length:Int) (Jf seed j l.length)=(⟨1,3,l++[⟨(l.length:Int),Jf seed j l.length,0,false⟩]⟩,true):=by
  unfold gJ
  rw[e1]
  show(bif !true|| !aY ⟨1,3,aCa l (l.length:Int) (Jf seed j l.length)⟩ then _ else _)=_
  rw[hi,e2];rfl
 unfold eP
 rw[hok,hf,show decide ((0:Int)<0)=false from rfl,←hf,ha,hadd,hf,h4]
 exact⟨rfl,h1,h2,h3,_,rfl,hs,by simp⟩
theorem aSx {seed j:Int}(hj:j=0∨j=1):SiteIn seed j 0 (kW (eY (aA j) (aU seed [281,j])) 1 3).1:=by
 have hk:=jS seed [281,j]
 generalize aU seed [281,j]=q at*
 have hn:eY (aA j) q=⟨aA j,[],⟨q,0,[]⟩,[]⟩:=by
  unfold eY mW
  rw[O9 hj,hk];rfl
 have hb:eG ⟨q,0,[]⟩=true:=rfl
 have hin:SiteIn seed j 0 (mO ⟨aA j,[],⟨q,0,[]⟩,[]⟩ 1 3):=
  ⟨rfl,hb,hk,[],rfl,fun k hk=>by simp at hk,rfl⟩
 have h0:cZ ⟨aA j,[],⟨q,0,[]⟩,[]⟩=true:=by
  unfold cZ mW
  rw[O9 hj,hk];rfl
 unfold kW
 rw[hn,h0,hin.ok hj (by omega)]
 exact hin
theorem aGa {seed j:Int}(hj:j=0∨j=1):∀(m i:Nat) (s:D.Site),SiteIn seed j i s→i+m≤6→
  SiteIn seed j (i+m) (rO (aA j) i ((List.range' i m).map fun(k:Nat)=>bJ (aJ seed (k:Int))) s)
 |0,i,s,h,_=>h
 |m+1,i,s,h,hm=>by
  have:=aGa hj m (i+1) _ (h.reg hj (by omega)).2 (by omega)
  rw[show i+1+m=i+(m+1) by omega] at this
  exact this
theorem aBr {seed j:Int}(hj:j=0∨j=1){n:Nat}(hn:n≤6):SiteIn seed j n (Jc seed (bQ seed n) j):=by
 have:=aGa hj n 0 _ (aSx (seed:=seed) hj) (by omega)
 rw[Nat.zero_add,←List.range_eq_range'] at this
 exact this
end Go.VK

set_option maxRecDepth 100000
namespace Go.VK
theorem aQo {α:Type}{r:α→α→Prop}(ht:∀a b c,r a b→r b c→r a c):∀{l:List α},(∀k (h:k+1<l.length),r l[k] l[k+1])→l.Pairwise r
 |[],_=> .nil
 |[x],_=>List.pairwise_singleton r x
 |x::y::l,h=>by
  have ih:=aQo (r:=r) ht (l:=y::l) (fun k hk=>by have:=h (k+1) (by simpa using hk);simpa using this)
  refine List.pairwise_cons.2 ⟨fun z hz=> ?_,ih⟩
  have h0:r x y:=by simpa using h 0 (by simp)
  rcases List.mem_cons.1 hz with rfl|hz
  ·exact h0
  ·exact ht _ _ _ h0 ((List.pairwise_cons.1 ih).1 z hz)
structure BookIn (b:D.aAB):Prop where
 next:0≤b.Next∧b.Next≤1000000
 len:b.Open.length≤16
 ord:b.Open.Pairwise (fun a c=>a.Id<c.Id)
 all:∀c∈b.Open,(0≤c.Id∧c.Id<b.Next)∧(0≤c.aAF∧c.aAF≤1000005)∧(0≤c.Until∧c.Until≤1000005)
theorem BookIn.ok {b:D.aAB}(h:BookIn b):eG b=true:=by
 obtain⟨h1,h2,h3,h4⟩:=h
 have ha:gB (iL b) 0 b.Open=false:=aF9 fun k hk=>by
  obtain⟨a1,a2,a3⟩:=h4 b.Open[k] (List.getElem_mem hk)
  unfold iL
  rw[Nat.zero_add,aG (by omega) (by omega),kG (by omega) (by omega),kG a2.1 a2.2,kG a3.1 a3.2]
  have e1:(decide (0<k)&&decide ((b.Open.getD (k-1) default).Id≥b.Open[k].Id))=false:=by
   by_cases hk0:0<k
   ·have hk1:k-1<b.Open.length:=by omega
    have:=List.pairwise_iff_getElem.1 h3 (k-1) k hk1 hk (by omega)
    rw[List.getD,List.getElem?_eq_getElem hk1,Option.getD_some,decide_eq_false (show ¬b.Open[k-1].Id≥b.Open[k].Id by omega),Bool.and_false]
   ·rw[decide_eq_false hk0,Bool.false_and]
  rw[e1];rfl
 unfold eG
 rw[ha,kG h1.1 h1.2,decide_eq_true h2];rfl
theorem aD0 {b:D.aAB}(h:eG b=true):BookIn b:=by
 unfold eG at h
 simp only[Bool.and_eq_true,decide_eq_true_eq,Bool.not_eq_true'] at h
 obtain⟨⟨h1,h2⟩,h3⟩:=h
 have h1:=kJ h1
 have hg:∀k (hk:k<b.Open.length),((0≤b.Open[k].Id∧b.Open[k].Id<b.Next)∧(0≤b.Open[k].aAF∧b.Open[k].aAF≤1000005)∧(0≤b.Open[k].Until∧b.Open[k].Until≤1000005))∧(0<k→(b.Open.getD (k-1) default).Id<b.Open[k].Id):=fun k hk=>by
  have:=aSv h3 k hk
  unfold iL at this
  rw[Nat.zero_add,aG (by omega) (by omega)] at this
  simp only[Bool.or_eq_false_iff,Bool.not_eq_false',Bool.and_eq_false_iff,decide_eq_false_iff_not] at this
  obtain⟨a1,a2,a3,a4⟩:=this
  have a1:=kJ a1
  have a3:=kJ a3
  have a4:=kJ a4
  exact⟨⟨⟨a1.1,by omega⟩,⟨a3.1,a3.2⟩,a4.1,a4.2⟩,fun h0=>by rcases a2 with a2|a2<;>omega⟩
 refine⟨⟨h1.1,h1.2⟩,h2,aQo (r:=fun a c:D.aAM=>a.Id<c.Id) (fun a b c h1 h2=>Int.lt_trans h1 h2) (fun k hk=> ?_),fun c hc=> ?_⟩
 ·have:=(hg (k+1) hk).2 (by omega)
  rw[Nat.add_sub_cancel,List.getD,List.getElem?_eq_getElem (show k<b.Open.length by omega),Option.getD_some] at this
  exact this
 ·obtain⟨i,hi,rfl⟩:=List.mem_iff_getElem.1 hc
  exact(hg i hi).1
theorem bA5 {b:D.aAB}(h:BookIn b)(a n:Int):BookIn (iF b a n).1∧(iF b a n).1.Seed=b.Seed∧b.Next≤(iF b a n).1.Next∧(iF b a n).1.Next≤b.Next+1:=by
 unfold iF
 rw[h.ok]
 by_cases hn:b.Next=1000000
 ·have e:∀{x y:D.aAB×D.aAM×Bool},(bif true&&(!(b.Next==1000000)&&(bF a 0 1000000&&bF n 0 1000000)) then x else y)=y:=by
   intro x y;rw[hn];rfl
  rw[e];exact⟨h,rfl,Int.le_refl _,by show b.Next≤_;omega⟩
 ·rw[beq_eq_false_iff_ne.2 hn]
  cases hr:bF a 0 1000000&&bF n 0 1000000 with
  |false=>exact⟨h,rfl,Int.le_refl _,by show b.Next≤_;omega⟩
  |true=>
   rw[Bool.and_eq_true] at hr
   have r1:=kJ hr.1
   have r2:=kJ hr.2
   obtain⟨h1,h2,h3,h4⟩:=h
   have hw:IntKind.i64.wrap (b.Next+1)=b.Next+1:=aG (by omega) (by omega)
   have hw2:IntKind.i64.wrap (n+5)=n+5:=aG (by omega) (by omega)
   have key:∀l:List D.aAM,l.length≤15→l.Pairwise (fun a c=>a.Id<c.Id)→(∀c∈l,c∈b.Open)→BookIn ⟨b.Seed,IntKind.i64.wrap (b.Next+1),l++[aDv b a n]⟩:=fun l hl ho hm=>by
    rw[hw]
    refine⟨⟨show 0≤b.Next+1 by omega,show b.Next+1≤1000000 by omega⟩,by simp;omega,?_,fun c hc=> ?_⟩
    ·show(l++[aDv b a n]).Pairwise _
     refine List.pairwise_append.2 ⟨ho,List.pairwise_singleton _ _,fun x hx y hy=> ?_⟩
     rw[List.mem_singleton.1 hy]
     exact(h4 x (hm x hx)).1.2
    ·rcases List.mem_append.1 hc with hc|hc
     ·obtain⟨q1,q2,q3⟩:=h4 c (hm c hc)
      exact⟨⟨q1.1,show c.Id<b.Next+1 by omega⟩,q2,q3⟩
     ·rw[List.mem_singleton.1 hc]
      refine⟨⟨h1.1,show b.Next<b.Next+1 by omega⟩,⟨show 0≤a by omega,show a≤1000005 by omega⟩,?_⟩
      show 0≤IntKind.i64.wrap (n+5)∧IntKind.i64.wrap (n+5)≤1000005
      rw[hw2];omega
   simp only[Bool.not_false,Bool.true_and,cond_true]
   cases hd:decide ((b.Open.length:Int)≥16) with
   |true=>
    refine⟨key _ (by simp only[cond_true,List.length_drop];omega) ?_ (fun c hc=>List.mem_of_mem_drop hc),by first|rfl|trivial,by first|(rw[hw];omega)|(simp only[hw];omega),by first|(rw[hw];omega)|(simp only[hw];omega)⟩
    exact h3.sublist (List.drop_sublist _ _)
   |false=>
    have:=of_decide_eq_false hd
    exact⟨key _ (by simp only[cond_false];omega) h3 (fun c hc=>hc),by first|rfl|trivial,by first|(rw[hw];omega)|(simp only[hw];omega),by first|(rw[hw];omega)|(simp only[hw];omega)⟩
theorem bDw {b:D.aAB}(h:BookIn b)(c a n:Int):BookIn (rX b c a n).1∧(rX b c a n).1.Seed=b.Seed:=by
 unfold rX
 rw[h.ok]
 cases decide (dG b c<0) with
 |true=>exact⟨h,rfl⟩
 |false=>
  obtain⟨h1,h2,h3,h4⟩:=h
  have hsub:(b.Open.take (dG b c).toNat++b.Open.drop ((dG b c).toNat+1)).Sublist b.Open:=by
   conv=>rhs;rw[←List.take_append_drop (dG b c).toNat b.Open]
   refine List.Sublist.append (List.Sublist.refl _) ?_
   rw[←List.drop_drop];exact List.drop_sublist _ _
  exact⟨⟨h1,Nat.le_trans hsub.length_le h2,h3.sublist hsub,fun c hc=>h4 c (hsub.subset hc)⟩,rfl⟩
theorem SiteIn.aBG {seed j:Int}{n:Nat}{s:D.Site}(h:SiteIn seed j n s){b:D.aAB}(hb:BookIn b)(hs:b.Seed=s.Book.Seed):SiteIn seed j n {s with Book:=b}:=
 ⟨h.name,hb.ok,by show bM b.Seed=true;rw[hs];exact h.key,h.acc⟩
theorem SiteIn.begin {seed j:Int}{n:Nat}{s:D.Site}(h:SiteIn seed j n s)(i t:Int):SiteIn seed j n (qR s i t).1:=by
 unfold qR
 cases cZ s&&(!decide (aC s i<0)&&(iF s.Book i t).2.2) with
 |false=>exact h
 |true=>
  have:=bA5 (aD0 h.book) i t
  exact h.aBG this.1 this.2.1
theorem Tz.set {seed j:Int}{l:List D.aAJ}(h:Tz seed j l){k:Nat}(hk:k<l.length){c:D.aAJ}(h1:c.Handle=l[k].Handle)(h2:c.Public=l[k].Public)(h3:0≤c.Counter∧c.Counter≤1000000):Tz seed j (l.set k c):=by
 intro i hi
 rw[List.getElem_set]
 rw[List.length_set] at hi
 split
 ·rename_i e;subst e
  have:=h k hk
  exact⟨h1.trans this.1,h2.trans this.2.1,h3⟩
 ·exact h i hi
end Go.VK

set_option maxRecDepth 100000
namespace Go.VK
theorem aGb {α:Type}{p:α→Bool}:∀{l:List α} {i:Nat},decide (gP p i l<0)=false→∃k,∃h:k<l.length,gP p i l=((i+k:Nat):Int)∧p l[k]=true
 |[],i,h=>by simp[gP] at h
 |x::l,i,h=>by
  unfold gP at h ⊢
  cases hp:p x with
  |true=>exact⟨0,by simp,by simp,by simpa using hp⟩
  |false=>
   rw[hp,cond_false] at h
   obtain⟨k,hk,e1,e2⟩:=aGb h
   exact⟨k+1,by simpa using hk,by rw[cond_false,e1];congr 1;omega,by simpa using e2⟩
theorem Tz.use {seed j:Int}{l:List D.aAJ}(h:Tz seed j l)(x:D.aAL)(z:ByteArray)(c:Int)(hx:0≤x.Counter∧x.Counter≤1000000):
  ∃l',(lY ⟨1,3,l⟩ x z c).1=⟨1,3,l'⟩∧Tz seed j l'∧l'.length=l.length∧∀k (h1:k<l.length) (h2:k<l'.length),l[k].Cut=true→l'[k].Cut=true:=by
 unfold lY
 cases hb: !aY ⟨1,3,l⟩||(decide (aR ⟨1,3,l⟩ x.Handle<0)||(fB ⟨1,3,l⟩ (aR ⟨1,3,l⟩ x.Handle)).Cut) with
 |true=>exact⟨l,rfl,h,rfl,fun k h1 h2 e=>e⟩
 |false=>
  simp only[Bool.or_eq_false_iff] at hb
  obtain⟨k,hk,e1,e2⟩:=aGb (l:=l) hb.2.1
  have ef:aR ⟨1,3,l⟩ x.Handle=(k:Int):=e1.trans (by simp)
  have ec:fB ⟨1,3,l⟩ (k:Int)=l[k]:=by unfold fB;simp[List.getD,List.getElem?_eq_getElem hk]
  rw[ef,ec,cond_false,Int.toNat_natCast]
  have hset:∀c:D.aAJ,c.Handle=l[k].Handle→c.Public=l[k].Public→0≤c.Counter∧c.Counter≤1000000→(l[k].Cut=true→c.Cut=true)→
    ∃l',(D.aAF.mk 1 3 (l.set k c))=⟨1,3,l'⟩∧Tz seed j l'∧l'.length=l.length∧∀i (h1:i<l.length) (h2:i<l'.length),l[i].Cut=true→l'[i].Cut=true:=fun c c1 c2 c3 c4=>
   ⟨_,rfl,h.set hk c1 c2 c3,List.length_set,fun i h1 h2 e=>by
    rw[List.getElem_set]
    split
    ·rename_i q;subst q;exact c4 e
    ·exact e⟩
  cases jZ l[k].Public x z c l[k].Counter==0 with
  |true=>exact hset _ rfl rfl hx (fun e=>e)
  |false=>
   cases jZ l[k].Public x z c l[k].Counter==4 with
   |true=>exact hset _ rfl rfl (h k hk).2.2 (fun _=>rfl)
   |false=>exact⟨l,rfl,h,rfl,fun k h1 h2 e=>e⟩
theorem SiteIn.aBO {seed j:Int}{n:Nat}{s:D.Site}(h:SiteIn seed j n s){l:List D.aAJ}(hl:Tz seed j l)(hn:l.length=n)(g:List Int)(b:D.aAB)(hb:BookIn b)(hs:b.Seed=s.Book.Seed):SiteIn seed j n {s with Book:=b,Accounts:=[⟨1,3,l⟩],Logins:=g}:=
 ⟨h.name,hb.ok,by show bM b.Seed=true;rw[hs];exact h.key,l,rfl,hl,hn⟩
theorem SiteIn.finish {seed j:Int}{n:Nat}{s:D.Site}(h:SiteIn seed j n s)(c t:Int)(x:D.aAL)(hx:0≤x.Counter∧x.Counter≤1000000):SiteIn seed j n (rM s 1 c t x).1:=by
 have hf:=h.find
 have hk:=bDw (aD0 h.book) c 1 t
 unfold rM
 rw[hf]
 cases !cZ s||decide ((0:Int)<0) with
 |true=>exact h
 |false=>
  simp only[cond_false]
  cases !(rX s.Book c 1 t).2 with
  |true=>exact h.aBG hk.1 hk.2
  |false=>
   simp only[cond_false]
   cases !xV (fM s 0) 3 with
   |true=>exact h.aBG hk.1 hk.2
   |false=>
    obtain⟨l,e,hl,hn⟩:=h.acc
    have ea:fM s 0=⟨1,3,l⟩:=by unfold fM;rw[e];rfl
    obtain⟨l',q1,q2,q3,_⟩:=hl.use x s.Name (iN s.Book c) hx
    simp only[cond_false,ea,q1]
    rw[show s.Accounts.set (0:Int).toNat ⟨1,3,l'⟩=[⟨1,3,l'⟩] by rw[e];rfl]
    cases !((lY ⟨1,3,l⟩ x s.Name (iN s.Book c)).2==0) with
    |true=>exact h.aBO q2 (q3.trans hn) s.Logins _ hk.1 hk.2
    |false=>exact h.aBO q2 (q3.trans hn) (s.Logins++[1]) _ hk.1 hk.2
theorem bA6 (s:D.aAI)(z:ByteArray)(i:Int)(m:List Int):(fC s z i m).1.Seed=s.Seed∧(fC s z i m).1.Vendor=s.Vendor∧(fC s z i m).1.Serial=s.Serial∧((fC s z i m).2.2=true→(fC s z i m).1.Counter=s.Counter+1∧0≤s.Counter∧s.Counter<1000000)∧((fC s z i m).2.2=false→(fC s z i m).1=s):=by
 unfold fC
 cases hb:rY s&& !(s.Counter==1000000) with
 |false=>exact⟨rfl,rfl,rfl,fun h=>(by cases h),fun _=>rfl⟩
 |true=>
  simp only[Bool.and_eq_true,Bool.not_eq_true',beq_eq_false_iff_ne] at hb
  have hs:=hb.1
  unfold rY at hs
  simp only[Bool.and_eq_true] at hs
  have hc:=kJ hs.2.2.2
  refine⟨rfl,rfl,rfl,⟨fun _=> ?_,fun h=>by cases h⟩⟩
  have:IntKind.i64.wrap (s.Counter+1)=s.Counter+1:=aG (by omega) (by omega)
  exact⟨this,by omega,by have:=hb.2;omega⟩
theorem aQp (s:D.aAI)(o:D.aAK)(z:ByteArray)(i c:Int)(p:Bool):(iO s o z i c p).1.Seed=s.Seed∧(iO s o z i c p).1.Vendor=s.Vendor∧(iO s o z i c p).1.Serial=s.Serial∧(0≤s.Counter∧s.Counter≤1000000→(0≤(iO s o z i c p).1.Counter∧(iO s o z i c p).1.Counter≤1000000)∧(0≤(iO s o z i c p).2.1.Counter∧(iO s o z i c p).2.1.Counter≤1000000)):=by
 obtain⟨h1,h2,h3,h4,h5⟩:=bA6 s z i (bO (O0 s o z i c p))
 unfold iO
 cases hb:rJ o z&&(fC s z i (bO (O0 s o z i c p))).2.2 with
 |false=>exact⟨rfl,rfl,rfl,fun h=>⟨h,Int.le_refl 0,show(0:Int)≤1000000 by decide⟩⟩
 |true=>
  rw[Bool.and_eq_true] at hb
  obtain⟨q1,q2,q3⟩:=h4 hb.2
  refine⟨h1,h2,h3,fun h=>⟨?_,?_⟩⟩
  ·show 0≤(fC s z i (bO (O0 s o z i c p))).1.Counter∧(fC s z i (bO (O0 s o z i c p))).1.Counter≤1000000
   omega
  ·show 0≤(fC s z i (bO (O0 s o z i c p))).1.Counter∧(fC s z i (bO (O0 s o z i c p))).1.Counter≤1000000
   omega
end Go.VK

set_option maxRecDepth 100000
namespace Go.VK
structure StIn (seed:Int) (k:Nat) (s:D.aAI):Prop where
 ven:s.Vendor=1
 ser:s.Serial=(k:Int)
 key:s.Seed=(aJ seed (k:Int)).Seed
 cnt:0≤s.Counter∧s.Counter≤1000000
structure WIn (m:Nat) (w:D.World):Prop where
 seed:bM w.Seed=true
 now:0≤w.Now∧w.Now≤999900
 dlen:1≤w.Devices.length∧w.Devices.length≤6
 slen:w.Stolen.length=w.Devices.length
 dev:∀k (h:k<w.Devices.length),StIn w.Seed k w.Devices[k].Store
 two:w.Sites.length=2
 mle:m≤6
 site:∀j (h:j<w.Sites.length),SiteIn w.Seed (j:Int) m w.Sites[j]
 mail:fO w.Mail=true
 log:bE w.aAE.Log=true
theorem WIn.ok {m:Nat}{w:D.World}(h:WIn m w):aN w=true:=by
 have hs:gB nY 0 w.Sites=false:=aF9 fun k hk=>by
  have h2:=h.two
  have:=h.site k hk
  unfold nY
  rw[this.ok (by omega) h.mle,this.name,Nat.zero_add];simp
 unfold aN
 have h2:=h.two
 have h3:=h.slen
 have h4:=h.dlen
 rw[hs,h.log,h.mail,h.seed,kG h.now.1 h.now.2,kG (by omega) (by omega),h3,h2];simp
theorem WIn.upd {m:Nat}{w v:D.World}(h:WIn m w)(h1:v.Seed=w.Seed)(h2:v.Now=w.Now)(h3:v.Devices.length=w.Devices.length)(h4:v.Stolen.length=w.Stolen.length)
  (h5:∀k (h:k<v.Devices.length),StIn w.Seed k v.Devices[k].Store) (h6:v.Sites.length=2) (h7:∀j (h:j<v.Sites.length),SiteIn w.Seed (j:Int) m v.Sites[j]) (h8:fO v.Mail=true) (h9:bE v.aAE.Log=true):WIn m v where
 seed:=by rw[h1];exact h.seed
 now:=by rw[h2];exact h.now
 dlen:=by rw[h3];exact h.dlen
 slen:=by rw[h3,h4];exact h.slen
 dev:=by rw[h1];exact h5
 two:=h6
 mle:=h.mle
 site:=by rw[h1];exact h7
 mail:=h8
 log:=h9
theorem WIn.aBJ {m:Nat}{w:D.World}(h:WIn m w){i:Nat}{x:D.Device}(hi:i<w.Devices.length)(hx:StIn w.Seed i x.Store):∀k (h:k<(w.Devices.set i x).length),StIn w.Seed k (w.Devices.set i x)[k].Store:=fun k hk=>by
 rw[List.getElem_set]
 rw[List.length_set] at hk
 split
 ·rename_i e;subst e;exact hx
 ·exact h.dev k hk
theorem WIn.aCI {m:Nat}{w:D.World}(h:WIn m w){i:Nat}{x:D.Site}(hi:i<2)(hx:SiteIn w.Seed (i:Int) m x):∀k (h:k<(w.Sites.set i x).length),SiteIn w.Seed (k:Int) m (w.Sites.set i x)[k]:=fun k hk=>by
 rw[List.getElem_set]
 rw[List.length_set] at hk
 split
 ·rename_i e;subst e;exact hx
 ·exact h.site k hk
theorem Jg {w:D.World}{d:Int}(h:aK w d=true):0≤d∧d.toNat<w.Devices.length∧aO w d=w.Devices.getD d.toNat default:=by
 simp only[aK,Bool.and_eq_true,decide_eq_true_eq] at h
 exact⟨h.1,by omega,rfl⟩
theorem bDx {w:D.World}{d:Int}(h:aK w d=true):∃h:d.toNat<w.Devices.length,aO w d=w.Devices[d.toNat]:=by
 obtain⟨h1,h2,h3⟩:=Jg h
 exact⟨h2,by rw[h3];simp[List.getD,List.getElem?_eq_getElem h2]⟩
theorem WIn.aBS {m:Nat}{w:D.World}(h:WIn m w){d:Int}(hd:aK w d=true):StIn w.Seed d.toNat (aO w d).Store:=by
 obtain⟨h1,h2⟩:=bDx hd
 rw[h2];exact h.dev _ h1
theorem aW9 {m:D.aAP}(h:fO m=true)(k a t:Int):fO (xU m k a t).1=true:=by
 unfold xU
 cases hb: !fO m|| !fO ⟨Et (m.Notices++[⟨k,a,t,false⟩])⟩ with
 |true=>exact h
 |false=>simp only[Bool.or_eq_false_iff,Bool.not_eq_false'] at hb;exact hb.2
theorem WIn.tell {m:Nat}{w:D.World}(h:WIn m w)(k:Int):WIn m (Iy w k):=
 h.upd rfl rfl rfl rfl h.dev h.two h.site (aW9 h.mail _ _ _) h.log
theorem StIn.make {seed:Int}{k:Nat}{s:D.aAI}(h:StIn seed k s)(o:D.aAK)(z:ByteArray)(i c:Int)(p:Bool):StIn seed k (iO s o z i c p).1:=by
 obtain⟨h1,h2,h3,h4⟩:=aQp s o z i c p
 exact⟨h2.trans h.ven,h3.trans h.ser,h1.trans h.key,(h4 h.cnt).1⟩
theorem WIn.visit {m:Nat}{w:D.World}(h:WIn m w)(d j:Int)(o:D.aAK):WIn m (mD w d j o).1:=by
 unfold mD
 cases ht:dU w d j with
 |false=>exact h
 |true=>
  have ht2:=ht
  simp only[dU,Bool.and_eq_true] at ht2
  have h2:=h.two
  have hq:=ht2.2.2
  simp only[gI,Bool.and_eq_true,decide_eq_true_eq] at hq
  have hj:j.toNat<w.Sites.length:=by omega
  have es:lZ w j=w.Sites[j.toNat]:=by unfold lZ;simp[List.getD,List.getElem?_eq_getElem hj]
  have hs:=h.site _ hj
  rw[←es,show((j.toNat:Nat):Int)=j by omega] at hs
  have hst:=h.aBS ht2.2.1
  have hm:=aQp (aO w d).Store o (aA j) d (sZ w j).2.2.1 true
  have hb:SiteIn w.Seed j m (sZ w j).1:=hs.begin 1 w.Now
  have hfin:SiteIn w.Seed j m (aFw w d j o).1:=hb.finish _ _ _ (hm.2.2.2 hst.cnt).2
  have hw:WIn m (aWv w d j o):=by
   obtain⟨hd0,hd1,_⟩:=Jg ht2.2.1
   refine h.upd rfl rfl (List.length_set ..) rfl (h.aBJ hd1 (hst.make o (aA j) d (sZ w j).2.2.1 true)) (by show(w.Sites.set _ _).length=2;rw[List.length_set,h2]) (h.aCI (by omega) (by rw[show((j.toNat:Nat):Int)=j by omega];exact hfin)) h.mail h.log
  simp only[Bool.not_true,cond_false]
  cases !(sZ w j).2.2.2 with
  |true=>exact h
  |false=>
   cases !((aFw w d j o).2.1==0) with
   |true=>exact hw
   |false=>exact hw.tell 1
theorem WIn.sync {m:Nat}{w:D.World}(h:WIn m w)(d b:Int):WIn m (aI w d b).1:=by
 unfold aI
 cases hb:aN w&&aK w d with
 |false=>exact h
 |true=>
  rw[Bool.and_eq_true] at hb
  obtain⟨hd0,hd1,_⟩:=Jg hb.2
  refine h.upd rfl rfl (List.length_set ..) rfl (h.aBJ hd1 ?_) h.two h.site h.mail h.log
  have hst:=h.aBS hb.2
  unfold dJ
  cases mX (aO w d) w.aAE.Log w.aAE.Boxes (gH w.aAE b).1==0<;>exact hst
theorem WIn.aDA {m:Nat}{w:D.World}(h:WIn m w)(d:Int)(n:ByteArray)(a:Int)(r:Bool):WIn m (xP w d n a r).1:=by
 unfold xP
 cases hb:aN w&&aK w d with
 |false=>exact h
 |true=>
  rw[Bool.and_eq_true] at hb
  obtain⟨hd0,hd1,_⟩:=Jg hb.2
  have hst:=h.aBS hb.2
  simp only[cond_true]
  cases(bX (aO w d) n a r).2 with
  |false=>exact h
  |true=>
   refine h.upd rfl rfl (List.length_set ..) rfl (h.aBJ hd1 ?_) h.two h.site h.mail h.log
   unfold bX
   cases(rG (aO w d) n a r).2<;>exact hst
theorem aBs (d:D.Device):(bW d).1.Store=d.Store:=by
 unfold bW
 cases(Au d.Key d.Epoch (IntKind.i64.wrap (d.Version+1)) d.aAG).2<;>rfl
theorem WIn.up {m:Nat}{w:D.World}(h:WIn m w){d:Int}(hd:aK w d=true):WIn m (Rl w d).1:=by
 unfold Rl
 cases(bW (aO w d)).2.2&&(dF w.aAE (bW (aO w d)).2.1).2 with
 |false=>exact h
 |true=>
  obtain⟨hd0,hd1,_⟩:=Jg hd
  refine h.upd rfl rfl (List.length_set ..) rfl (h.aBJ hd1 (by rw[aBs];exact h.aBS hd)) h.two h.site h.mail ?_
  show bE (dF w.aAE (bW (aO w d)).2.1).1.Log=true
  rw[(qO _ _).2];exact h.log
theorem WIn.push {m:Nat}{w:D.World}(h:WIn m w)(d:Int):WIn m (fQ w d).1:=by
 unfold fQ
 cases hb:(aI w d 0).2==0&&(Rl (aI w d 0).1 d).2 with
 |false=>exact h
 |true=>
  rw[Bool.and_eq_true] at hb
  have h0:=lK hb.1
  exact(h.sync d 0).up (by
   have:=h0.1.2
   simp only[aK,Bool.and_eq_true,decide_eq_true_eq] at this ⊢
   rw[h0.2.2.1];exact this)
end Go.VK

set_option maxRecDepth 100000
namespace Go.VK
theorem qV (w:D.World)(d b:Int):(aI w d b).1.Seed=w.Seed∧(aI w d b).1.Now=w.Now∧(aI w d b).1.Devices.length=w.Devices.length∧(aI w d b).1.Sites=w.Sites∧(aI w d b).1.Stolen=w.Stolen∧(aI w d b).1.aAE=w.aAE:=by
 unfold aI
 cases aN w&&aK w d with
 |false=>exact⟨rfl,rfl,rfl,rfl,rfl,rfl⟩
 |true=>exact⟨rfl,rfl,List.length_set ..,rfl,rfl,rfl⟩
theorem aU3 (w:D.World)(d:Int):(Rl w d).1.Seed=w.Seed∧(Rl w d).1.Now=w.Now∧(Rl w d).1.Devices.length=w.Devices.length∧(Rl w d).1.Sites=w.Sites∧(Rl w d).1.Stolen=w.Stolen∧(Rl w d).1.aAE.Log=w.aAE.Log:=by
 unfold Rl
 cases(bW (aO w d)).2.2&&(dF w.aAE (bW (aO w d)).2.1).2 with
 |false=>exact⟨rfl,rfl,rfl,rfl,rfl,rfl⟩
 |true=>exact⟨rfl,rfl,List.length_set ..,rfl,rfl,(qO _ _).2⟩
theorem P5 (w:D.World)(d:Int):(fQ w d).1.Seed=w.Seed∧(fQ w d).1.Now=w.Now∧(fQ w d).1.Devices.length=w.Devices.length∧(fQ w d).1.Sites=w.Sites∧(fQ w d).1.Stolen=w.Stolen∧(fQ w d).1.aAE.Log=w.aAE.Log:=by
 unfold fQ
 cases(aI w d 0).2==0&&(Rl (aI w d 0).1 d).2 with
 |false=>exact⟨rfl,rfl,rfl,rfl,rfl,rfl⟩
 |true=>
  obtain⟨a1,a2,a3,a4,a5,a6⟩:=qV w d 0
  obtain⟨b1,b2,b3,b4,b5,b6⟩:=aU3 (aI w d 0).1 d
  exact⟨b1.trans a1,b2.trans a2,b3.trans a3,b4.trans a4,b5.trans a5,b6.trans (by rw[a6])⟩
theorem Ua (w:D.World)(b k p:Int)(key:List D.aAC→Int):(iE w b k p key).1.Seed=w.Seed∧(iE w b k p key).1.Now=w.Now∧(iE w b k p key).1.Devices=w.Devices∧(iE w b k p key).1.Sites=w.Sites∧(iE w b k p key).1.Stolen=w.Stolen∧(iE w b k p key).1.Mail=w.Mail∧(bE w.aAE.Log=true→bE (iE w b k p key).1.aAE.Log=true):=by
 unfold iE
 simp only[]
 generalize gK w.aAE.Log k p (aO w b).Store=l
 generalize bG l.1 (key l.1) (IntKind.i64.wrap (1000+IntKind.i64.wrap (10*(l.1.length:Int))))=e
 cases l.2&&(e.2&&(kF w.aAE l.1 e.1).2) with
 |false=>exact⟨rfl,rfl,rfl,rfl,rfl,rfl,fun h=>h⟩
 |true=>
  refine⟨rfl,rfl,rfl,rfl,rfl,rfl,fun h=> ?_⟩
  show bE (kF w.aAE l.1 e.1).1.Log=true
  unfold kF
  cases hl:bE l.1 with
  |false=>exact h
  |true=>
   cases !dX l.1 w.aAE.Log|| !gL e.1 l.1 with
   |true=>exact h
   |false=>exact hl
theorem WIn.aCE {m:Nat}{w:D.World}(h:WIn m w)(b k p:Int)(key:List D.aAC→Int):WIn m (iE w b k p key).1:=by
 obtain⟨a1,a2,a3,a4,a5,a6,a7⟩:=Ua w b k p key
 exact h.upd a1 a2 (by rw[a3]) (by rw[a5]) (by rw[a3];exact h.dev) (by rw[a4];exact h.two) (by rw[a4];exact h.site) (by rw[a6];exact h.mail) (a7 h.log)
theorem aMn {seed:Int}{m:Nat}(hm:m<6):∀(l:List D.Site) (j:Nat),j+l.length≤2→(∀i (h:i<l.length),SiteIn seed ((j+i:Nat):Int) m l[i])→
  (fK (aJ seed (m:Int)) (m:Int) j l).2=true∧(fK (aJ seed (m:Int)) (m:Int) j l).1.length=l.length∧∀i (h:i<(fK (aJ seed (m:Int)) (m:Int) j l).1.length),SiteIn seed ((j+i:Nat):Int) (m+1) (fK (aJ seed (m:Int)) (m:Int) j l).1[i]
 |[],j,_,_=>⟨rfl,rfl,fun i h=>by simp[fK] at h⟩
 |s::l,j,hj,h=>by
  have h0:SiteIn seed (j:Int) m s:=h 0 (by simp)
  simp only[List.length_cons] at hj
  obtain⟨r1,r2⟩:=h0.reg (by omega) hm
  obtain⟨i1,i2,i3⟩:=aMn hm l (j+1) (by omega) (fun i hi=>by
   have:=h (i+1) (by simpa using hi)
   rw[show j+1+i=j+(i+1) by omega];simpa using this)
  have e:dO (aJ seed (m:Int)) (aA (j:Int)) (m:Int)=Jf seed (j:Int) m:=by unfold Jf;rfl
  have hu:fK (aJ seed (m:Int)) (m:Int) j (s::l)=((eP s 1 (m:Int) (Jf seed (j:Int) m)).1::(fK (aJ seed (m:Int)) (m:Int) (j+1) l).1,true):=by
   rw[fK,e,r1,i1];rfl
  rw[hu]
  refine⟨rfl,by simp[i2],fun i hi=> ?_⟩
  cases i with
  |zero=>simpa using r2
  |succ i=>
   simp only[List.length_cons] at hi
   have:=i3 i (by omega)
   rw[show j+1+i=j+(i+1) by omega] at this
   simpa using this
theorem Eg (d:D.Device)(n:ByteArray)(h:Int)(r:Bool):(bX d n h r).1.Store=d.Store:=by
 unfold bX;cases(rG d n h r).2<;>rfl
theorem aGc (d:D.Device)(h:Int)(r:Bool):(lL d h r).Store=d.Store:=by
 unfold lL;rw[Eg,Eg]
theorem P6 {w v:D.World}{d:Int}(h:aK w d=true)(e:v.Devices.length=w.Devices.length):aK v d=true:=by
 simp only[aK,Bool.and_eq_true,decide_eq_true_eq] at h ⊢
 rw[e];exact h
theorem WIn.app {m:Nat}{w:D.World}(h:WIn m w)(hl:w.Devices.length<6):WIn m (appW w (bJ (aJ w.Seed (w.Devices.length:Int)))) where
 seed:=h.seed
 now:=h.now
 dlen:=by unfold appW;simp only[List.length_append,List.length_cons,List.length_nil];have:=h.dlen;omega
 slen:=by unfold appW;simp only[List.length_append,List.length_cons,List.length_nil,h.slen]
 dev:=fun k hk=>by
  have hk':k<(w.Devices++[bJ (aJ w.Seed (w.Devices.length:Int))]).length:=hk
  show StIn w.Seed k ((w.Devices++[bJ (aJ w.Seed (w.Devices.length:Int))])[k]'hk').Store
  rw[List.getElem_append]
  split
  ·rename_i hk1;exact h.dev k hk1
  ·simp only[List.length_append,List.length_cons,List.length_nil] at hk'
   have e:k=w.Devices.length:=by omega
   subst e
   simp only[Nat.sub_self,List.getElem_cons_zero]
   exact⟨rfl,rfl,rfl,Int.le_refl 0,show(0:Int)≤1000000 by decide⟩
 two:=h.two
 mle:=h.mle
 site:=h.site
 mail:=h.mail
 log:=h.log
theorem WIn.aCJ {w:D.World}(h:WIn w.Devices.length w){b:Int}(hn:w.Devices.length<6)(k2:aK w b=true):WIn (w.Devices.length+1) (iW w b)∧(iW w b).Seed=w.Seed∧(iW w b).Devices.length=w.Devices.length:=by
 obtain⟨s1,s2,s3,s4,s5,s6⟩:=qV w b 0
 have h0:=h.sync b 0
 have h1:WIn w.Devices.length (add1 w b).1:=h0.aCE _ _ _ _
 obtain⟨a1,a2,a3,a4,a5,a6,a7⟩:=Ua (aI w b 0).1 b 1 (aX (aJ w.Seed (w.Devices.length:Int))) (fun _=>(aO (aI w b 0).1 b).Key)
 have e1:(add1 w b).1.Seed=w.Seed:=a1.trans s1
 have e3:(add1 w b).1.Devices.length=w.Devices.length:=by show(iE _ _ _ _ _).1.Devices.length=_;rw[a3,s3]
 obtain⟨r1,r2,r3⟩:=aMn (seed:=w.Seed) hn (add1 w b).1.Sites 0 (by rw[h1.two];omega) (fun i hi=>by
  have:=h1.site i hi
  rw[e1] at this;rw[Nat.zero_add];exact this)
 have hd:aK (add1 w b).1 b=true:=P6 k2 e3
 obtain⟨d0,d1,_⟩:=Jg hd
 refine⟨{
  seed:=by show bM (add1 w b).1.Seed=true;exact h1.seed
  now:=h1.now
  dlen:=by show 1≤((add1 w b).1.Devices.set _ _).length∧((add1 w b).1.Devices.set _ _).length≤6;rw[List.length_set];exact h1.dlen
  slen:=by show(add1 w b).1.Stolen.length=((add1 w b).1.Devices.set _ _).length;rw[List.length_set];exact h1.slen
  dev:=h1.aBJ d1 (by rw[aGc];exact h1.aBS hd)
  two:=by show(aFs w b).1.length=2;exact r2.trans h1.two
  mle:=by omega
  site:=fun j hj=>by
   have:=r3 j hj
   rw[Nat.zero_add] at this
   show SiteIn (add1 w b).1.Seed (j:Int) _ _
   rw[e1];exact this
  mail:=h1.mail
  log:=h1.log},e1,?_⟩
 show((add1 w b).1.Devices.set _ _).length=_
 rw[List.length_set,e3]
theorem WIn.add {w:D.World}(h:WIn w.Devices.length w)(b:Int):WIn (jE w b).1.Devices.length (jE w b).1∧(jE w b).1.Seed=w.Seed:=by
 unfold jE
 cases hok:aBk w b with
 |false=>exact⟨h,rfl⟩
 |true=>
  unfold aBk at hok
  simp only[Bool.and_eq_true,Bool.not_eq_true',decide_eq_false_iff_not] at hok
  obtain⟨⟨k1,k2,k3,k4⟩,k5,k6,k7,k8,k9⟩:=hok
  have hn:w.Devices.length<6:=by omega
  obtain⟨h2,e1,e4⟩:=h.aCJ hn k2
  have h3:WIn (w.Devices.length+1) (oI w b).1:=h2.push b
  obtain⟨p1,p2,p3,p4,p5,p6⟩:=P5 (iW w b) b
  have p1:(oI w b).1.Seed=w.Seed:=p1.trans e1
  have p3:(oI w b).1.Devices.length=w.Devices.length:=p3.trans e4
  have h4:=h3.app (by omega)
  rw[p1,p3] at h4
  have h5:WIn (w.Devices.length+1) (zR w b).1:=h4.sync _ _
  obtain⟨q1,q2,q3,q4,q5,q6⟩:=qV (appW (oI w b).1 (bJ (aJ w.Seed (w.Devices.length:Int)))) (w.Devices.length:Int) 0
  have e5:(Iy (zR w b).1 2).Devices.length=w.Devices.length+1:=by
   show(zR w b).1.Devices.length=_
   refine q3.trans ?_
   unfold appW;simp only[List.length_append,List.length_cons,List.length_nil,p3]
  have h6:=h5.tell 2
  simp only[cond_true]
  rw[e5]
  exact⟨h6,q1.trans p1⟩
end Go.VK

set_option maxRecDepth 100000
namespace Go.VK
theorem bA7 {k:Int}(h:bM k=true)(l:List Int):lI (eF k) l (Ri k l)=true:=by
 have:=aMl h
 unfold lI
 rw[Yo h,bne,beq_eq_false_iff_ne.2 (show k≠0 by omega)];simp
theorem bA8 {l:List D.aAC}{e:D.aAC}(h:l=[]∨bE l=true)(hs:nW l e=true)(hl:l.length<40):bE (l++[e])=true:=by
 have ha:gB (fun i x=> !nW ((l++[e]).take i) x) 0 (l++[e])=false:=aF9 fun k hk=>by
  rw[Nat.zero_add]
  by_cases hk1:k<l.length
  ·rw[List.getElem_append_left hk1,List.take_append_of_le_length (by omega)]
   rcases h with h|h
   ·subst h;simp at hk1
   ·unfold bE at h
    rw[Bool.and_eq_true,Bool.not_eq_true'] at h
    have:=aSv h.2 k hk1
    rw[Nat.zero_add] at this;exact this
  ·have e1:k=l.length:=by simp at hk;omega
   subst e1
   simp[hs]
 unfold bE
 rw[Bool.and_eq_true,Bool.not_eq_true']
 exact⟨kG (by simp;omega) (by simp;omega),ha⟩
theorem bA9 (l:List D.aAC)(e:D.aAC):aH (l++[e])=iB (aH l) e:=by
 unfold aH;rw[List.foldl_append];rfl
theorem aSy (l:List D.aAC)(e:D.aAC):aQ (l++[e])=bif e.Kind==2 then IntKind.i64.wrap (aQ l+1) else aQ l:=by
 unfold aQ;rw[List.foldl_append];rfl
theorem aN3 (l:List D.aAC)(e:D.aAC)(p:Int):rU (l++[e]) p=(rU l p||(e.Kind==2&&e.Device==p)):=by
 unfold rU;rw[List.any_append];simp
def vV (seed:Int)(k:Nat):Int:=aX (aJ seed (k:Int))
theorem aU4 {seed:Int}{i k:Nat}(hi:i<6)(hk:k<6)(h:i≠k):vV seed i≠vV seed k:=aW7 (by omega) (by omega) (by omega)
theorem aGd (s:D.aAI):bM (iA s)=true:=by unfold iA;exact jS _ _
theorem Yp {l:List Int}{x:Int}:iZ l x=true↔x∈l:=by
 unfold iZ;rw[List.any_eq_true]
 constructor
 ·rintro⟨y,hy,e⟩;rw[←eq_of_beq e];exact hy
 ·exact fun h=>⟨x,h,beq_self_eq_true x⟩
structure NewLog (seed:Int) (n:Nat) (l:List D.aAC):Prop where
 len:l.length=n
 devs:aH l=(List.range n).map (vV seed)
 rem:∀p,rU l p=false
 ep:aQ l=0
 ok:n=0∨bE l=true
theorem aMo (seed:Int):∀n,n≤6→NewLog seed n (aW seed n)
 |0,_=>⟨rfl,rfl,fun _=>rfl,rfl, .inl rfl⟩
 |n+1,hn=>by
  obtain⟨h1,h2,h3,h4,h5⟩:=aMo seed n (by omega)
  have hnot:iZ (aH (aW seed n)) (vV seed n)=false:=by
   rw[Bool.eq_false_iff,Ne,Yp,h2]
   intro hm
   obtain⟨i,hi,e⟩:=List.mem_map.1 hm
   have hi:=List.mem_range.1 hi
   exact aU4 (by omega) (by omega) (by omega) e
  have hst:nW (aW seed n) (aWq (aW seed n) 1 (vV seed n) (aJ seed 0))=true:=by
   unfold nW
   have v:lI (aX (aJ seed 0)) [dY (aSg (aW seed n) 1 (vV seed n) (aJ seed 0))] (oG (aJ seed 0) [dY (aSg (aW seed n) 1 (vV seed n) (aJ seed 0))])=true:=by
    unfold oG aX;exact bA7 (aGd _) _
   show(((aW seed n).length:Int)==((aW seed n).length:Int)&&(mI (aW seed n)==mI (aW seed n)&&((iZ (aH (aW seed n)) (aX (aJ seed 0))||(((aW seed n).length:Int)==0&&aX (aJ seed 0)==vV seed n))&&(lI (aX (aJ seed 0)) [dY (aSg (aW seed n) 1 (vV seed n) (aJ seed 0))] (oG (aJ seed 0) [dY (aSg (aW seed n) 1 (vV seed n) (aJ seed 0))])&&
    (!rU (aW seed n) (vV seed n)&&(true&&(!iZ (aH (aW seed n)) (vV seed n)&&decide (((aH (aW seed n)).length:Int)<6))))))))=true
   rw[v,h3,hnot,h2,h1]
   have hby:(iZ ((List.range n).map (vV seed)) (aX (aJ seed 0))||((n:Int)==0&&aX (aJ seed 0)==vV seed n))=true:=by
    cases n with
    |zero=>simp[vV]
    |succ n=>
     rw[show iZ ((List.range (n+1)).map (vV seed)) (aX (aJ seed 0))=true from Yp.2 (List.mem_map.2 ⟨0,by simp,rfl⟩)];rfl
   rw[hby]
   simp;omega
  have hl:=bA8 (l:=aW seed n) (by
   rcases h5 with h5|h5
   ·subst h5;exact .inl rfl
   ·exact .inr h5) hst (by omega)
  have e:aW seed (n+1)=aW seed n++[aWq (aW seed n) 1 (vV seed n) (aJ seed 0)]:=by
   show(gK (aW seed n) 1 (aX (aJ seed (n:Int))) (aJ seed 0)).1=_
   unfold gK
   have hq:(decide (((aW seed n).length:Int)>0)&& !bE (aW seed n))=false:=by
    rcases h5 with h5|h5
    ·subst h5;rfl
    ·rw[h5];simp
   rw[hq,show aX (aJ seed (n:Int))=vV seed n from rfl,hl];rfl
  rw[e]
  refine⟨by simp[h1],?_,fun p=> ?_,?_, .inr hl⟩
  ·rw[bA9,List.range_succ,List.map_append,←h2]
   unfold iB
   have hc:(aH (aW seed n)).contains (vV seed n)=false:=by
    rw[Bool.eq_false_iff] at hnot ⊢
    intro hc;exact hnot (Yp.2 (by simpa using hc))
   show(bif (1:Int)==1 then(bif (aH (aW seed n)).contains (vV seed n) then _ else _) else _)=_
   rw[hc];rfl
  ·rw[aN3,h3];rfl
  ·rw[aSy,h4];rfl
end Go.VK

set_option maxRecDepth 100000
namespace Go.VK
theorem aMp {e:Int}{d:List Int}(hd:d.length≤200):∀(l:List Int) (i:Nat),(∀p∈l,bM p=true)→1≤e+(i:Int)→e+(i:Int)+(l.length:Int)≤2147483646→
  (eU e d i l).2=true∧(eU e d i l).1.length=l.length∧(eU e d i l).1.map (·.To)=l∧∀k (h:k<(eU e d i l).1.length) (h2:k<l.length),(eU e d i l).1[k]=rW l[k] (e+((i+k:Nat):Int)) d
 |[],i,_,_,_=>⟨rfl,rfl,rfl,fun k h _=>by simp[eU] at h⟩
 |p::l,i,hp,h1,h2=>by
  simp only[List.length_cons] at h2
  obtain⟨i1,i2,i3,i4⟩:=aMp (e:=e) hd l (i+1) (fun q hq=>hp q (by simp[hq])) (by push_cast;omega) (by push_cast at h2 ⊢;omega)
  have hk:=hp p (by simp)
  have hq:=aMl hk
  have hw:IntKind.i64.wrap (e+(i:Int))=e+(i:Int):=aG (by omega) (by push_cast at h2;omega)
  have hpr:gG p≠0:=by
   unfold gG
   rw[hk,Bool.not_true,cond_false]
   omega
  have hb:fA p (IntKind.i64.wrap (e+(i:Int))) d=(rW p (e+(i:Int)) d,true):=by
   unfold fA
   rw[hw,beq_eq_false_iff_ne.2 hpr,show bM (e+(i:Int))=true from kG (by omega) (by push_cast at h2;omega),decide_eq_false (show ¬(d.length:Int)>200 by omega)];rfl
  have hu:eU e d i (p::l)=(rW p (e+(i:Int)) d::(eU e d (i+1) l).1,true):=by
   rw[eU,hb,i1];rfl
  rw[hu]
  refine⟨rfl,by simp[i2],?_,fun k hk1 hk2=> ?_⟩
  ·simp only[List.map_cons,i3];rfl
  ·cases k with
   |zero=>rfl
   |succ k=>
    simp only[List.length_cons] at hk1 hk2
    have:=i4 k (by omega) (by omega)
    simp only[List.getElem_cons_succ]
    rw[this];congr 1;push_cast;omega
theorem bBa {l:List D.Box}{p:Int}:∀(n:Int),0≤n→n+(l.length:Int)≤1000000→l.foldl (fun n b=>bif b.To==p then IntKind.i64.wrap (n+1) else n) n=n+((l.filter fun b=>b.To==p).length:Int):=by
 induction l with
 |nil=>intro n _ _;simp
 |cons b l ih=>
  intro n h0 h1
  simp only[List.length_cons] at h1
  push_cast at h1
  rw[List.foldl_cons,List.filter_cons]
  cases hb:b.To==p with
  |true=>
   rw[cond_true,aG (by omega) (by omega),if_pos rfl,ih (n+1) (by omega) (by omega),List.length_cons]
   push_cast;omega
  |false=>
   rw[cond_false,if_neg (by simp),ih n h0 (by omega)]
theorem aXa {l:List D.Box}(h:(l.map (·.To)).Nodup){p:Int}(hp:p∈l.map (·.To)):(l.filter fun b=>b.To==p).length=1:=by
 induction l with
 |nil=>simp at hp
 |cons b l ih=>
  simp only[List.map_cons,List.nodup_cons,List.mem_cons] at h hp
  rw[List.filter_cons]
  by_cases hb:b.To=p
  ·have hn:(l.filter fun b=>b.To==p)=[]:=by
    rw[List.filter_eq_nil_iff]
    intro c hc he
    exact h.1 (List.mem_map.2 ⟨c,hc,by rw[hb];exact eq_of_beq he⟩)
   rw[beq_iff_eq.2 hb,if_pos rfl,hn];rfl
  ·have hp2:p∈l.map (·.To):=by
    rcases hp with hp|hp
    ·exact absurd hp.symm hb
    ·exact hp
   rw[beq_eq_false_iff_ne.2 hb,if_neg (by simp)]
   exact ih h.2 hp2
theorem aXb {log:List D.aAC}{bx:D.aAH}(h1:bx.Epoch=aQ log)(h2:bx.Boxes.map (·.To)=aH log)(h3:(aH log).Nodup)(h4:(aH log).length≤1000):gL bx log=true:=by
 have hl:bx.Boxes.length=(aH log).length:=by rw[←h2,List.length_map]
 unfold gL
 rw[h1,hl,beq_self_eq_true,beq_self_eq_true,Bool.and_self,Bool.true_and,List.all_eq_true]
 intro p hp
 unfold oH
 rw[bBa 0 (by omega) (by omega),aXa (by rw[h2];exact h3) (by rw[h2];exact hp)];rfl
theorem bIe (a b:Int):(jX [a,b]).length≤12:=by
 have h1:=Xz a
 have h2:=Xz b
 unfold jX
 simp only[List.map_cons,List.map_nil,List.flatten_cons,List.flatten_nil,List.append_nil,List.length_append];omega
theorem aXc {log:List D.aAC}{key eph:Int}(h1:bE log=true)(h2:bM key=true)(h3:∀p∈aH log,bM p=true)(h4:(aH log).length≤1000)(h5:1≤eph∧eph≤1000000):
  (bG log key eph).2=true∧(bG log key eph).1.Epoch=aQ log∧(bG log key eph).1.Boxes.map (·.To)=aH log∧∀k (h:k<(bG log key eph).1.Boxes.length) (h2:k<(aH log).length),(bG log key eph).1.Boxes[k]=rW (aH log)[k] (eph+(k:Int)) (jX [aQ log,key]):=by
 have hd:=bIe (aQ log) key
 obtain⟨s1,s2,s3,s4⟩:=aMp (e:=eph) (d:=jX [aQ log,key]) (by omega) (aH log) 0 h3 (by omega) (by omega)
 have e:bG log key eph=(⟨aQ log,(eU eph (jX [aQ log,key]) 0 (aH log)).1⟩,true):=by
  unfold bG
  rw[h1,h2,s1];rfl
 rw[e]
 refine⟨rfl,rfl,s3,fun k hk hk2=> ?_⟩
 have:=s4 k hk hk2
 rw[Nat.zero_add] at this;exact this
end Go.VK

set_option maxRecDepth 100000
namespace Go.VK
theorem bBb (seed:Int)(k:Nat):bM (vV seed k)=true:=by
 unfold vV aX;exact aU0 (aGd _)
theorem bBc {seed:Int}{n:Nat}(hn:n≤6):((List.range n).map (vV seed)).Nodup:=by
 rw[List.nodup_iff_pairwise_ne,List.pairwise_map]
 refine(List.pairwise_lt_range).imp_of_mem ?_
 intro a b ha hb hab
 have ha:=List.mem_range.1 ha
 have hb:=List.mem_range.1 hb
 exact aU4 (by omega) (by omega) (by omega)
theorem aGe {seed:Int}{n:Nat}(h0:1≤n)(hn:n≤6):gL (jP seed n) (aW seed n)=true∧bE (aW seed n)=true∧(jP seed n).Epoch=0:=by
 obtain⟨h1,h2,h3,h4,h5⟩:=aMo seed n hn
 have hl:bE (aW seed n)=true:=h5.resolve_left (by omega)
 have hlen:(aH (aW seed n)).length≤1000:=by rw[h2,List.length_map,List.length_range];omega
 obtain⟨m1,m2,m3,m4⟩:=aXc (key:=fG seed 0) (eph:=1000) hl (by unfold fG;exact jS _ _) (fun p hp=>by
  rw[h2] at hp
  obtain⟨i,_,rfl⟩:=List.mem_map.1 hp
  exact bBb _ _) hlen ⟨by decide,by decide⟩
 refine⟨aXb m2 m3 (by rw[h2];exact bBc hn) hlen,hl,?_⟩
 unfold jP;rw[m2,h4]
theorem aQq {seed:Int}{n:Nat}(h0:1≤n)(hn:n≤6):(iC seed n).Log=aW seed n:=by
 obtain⟨h1,h2,_⟩:=aGe (seed:=seed) h0 hn
 unfold iC
 rw[(qO _ _).2]
 unfold dW
 rw[h1,h2];rfl
theorem Jh (d:D.Device)(l:List D.aAC)(k:Int):(nC d l k).1.Store=d.Store:=by
 unfold nC
 cases !bE l||(!dX l d.Log||(decide (aQ l<d.Epoch)|| !bM k))<;>rfl
theorem aJd (d:D.Device)(l:List D.aAC)(b:D.aAH)(s:D.aAD):(dJ d l b s).1.Store=d.Store:=by
 unfold dJ
 cases mX d l b s==0<;>rfl
theorem Ub (nm:ByteArray):∀(i:Nat) (d:D.Device),(Gg nm i d).Store=d.Store
 |0,d=>rfl
 |i+1,d=>by
  show(bX (Gg nm i d) nm (i:Int) false).1.Store=_
  rw[Eg,Ub nm i d]
theorem aXd {seed:Int}{n:Nat}(h0:1≤n):(gN seed n).length=n∧∀k (h:k<(gN seed n).length),(gN seed n)[k].Store=aJ seed (k:Int):=by
 have hl:(gN seed n).length=n:=by
  unfold gN bQ
  simp only[List.length_cons,List.length_map,List.length_drop,List.length_range];omega
 refine⟨hl,fun k hk=> ?_⟩
 cases k with
 |zero=>
  show(nwW seed n).1.Store=_
  unfold nwW
  rw[aBs]
  unfold kL uU
  rw[Ub,Ub,Jh];rfl
 |succ k=>
  have hk2:k<(((bQ seed n).drop 1).map (Ee seed n)).length:=by
   have:(gN seed n).length=(((bQ seed n).drop 1).map (Ee seed n)).length+1:=rfl
   omega
  show((((bQ seed n).drop 1).map (Ee seed n))[k]'hk2).Store=_
  rw[List.getElem_map]
  unfold Ee uU
  rw[aJd,Jh,List.getElem_drop]
  unfold bQ
  rw[List.getElem_map,List.getElem_range]
  unfold bJ
  rw[show((1+k:Nat):Int)=((k+1:Nat):Int) by omega]
theorem aBt {n k t pin seed:Int}(h:Yi n k t pin seed=true):WIn n.toNat (dH n k t pin seed)∧(dH n k t pin seed).Devices.length=n.toNat∧(dH n k t pin seed).Seed=seed:=by
 have hb:=h
 unfold Yi at hb
 simp only[Bool.and_eq_true] at hb
 obtain⟨b1,b2,b3,b4,b5⟩:=hb
 have r:=kJ b1
 unfold dH
 rw[h,cond_true]
 obtain⟨d1,d2⟩:=aXd (seed:=seed) (n:=n.toNat) (by omega)
 have hlog:=aQq (seed:=seed) (n:=n.toNat) (by omega) (by omega)
 have hok:=(aGe (seed:=seed) (n:=n.toNat) (by omega) (by omega)).2.1
 refine⟨{seed:=b5,now:=⟨Int.le_refl 0,show(0:Int)≤999900 by decide⟩,dlen:= ?_,slen:= ?_,dev:= ?_,two:=rfl,mle:=by omega,site:= ?_,mail:=rfl,log:= ?_},d1,rfl⟩
 ·show 1≤(gN seed n.toNat).length∧(gN seed n.toNat).length≤6;omega
 ·show(List.replicate n.toNat false).length=(gN seed n.toNat).length;rw[List.length_replicate,d1]
 ·intro j hj
  show StIn seed j ((gN seed n.toNat)[j]'hj).Store
  rw[d2 j hj]
  exact⟨rfl,rfl,rfl,Int.le_refl 0,show(0:Int)≤1000000 by decide⟩
 ·intro j hj
  show SiteIn seed (j:Int) n.toNat ((vS (bQ seed n.toNat) seed)[j]'hj)
  match j,hj with
  |0,_=>exact aBr (.inl rfl) (by omega)
  |1,_=>exact aBr (.inr rfl) (by omega)
  |j+2,hj=>have:j+2<2:=hj;omega
 ·show bE (iC seed n.toNat).Log=true
  rw[hlog];exact hok
end Go.VK

set_option maxRecDepth 100000
namespace Go.VK
theorem SiteIn.cut {seed j:Int}{n:Nat}{s:D.Site}(h:SiteIn seed j n s)(t:Int):SiteIn seed j n (jF t s):=by
 have hf:=h.find
 obtain⟨l,e,hl,hn⟩:=h.acc
 have ea:fM s 0=⟨1,3,l⟩:=by unfold fM;rw[e];rfl
 unfold jF
 rw[hf,show decide ((0:Int)≥0)=true from rfl,cond_true,ea,show(0:Int).toNat=0 from rfl,e]
 have key:∃l',(mK ⟨1,3,l⟩ t).1=⟨1,3,l'⟩∧Tz seed j l'∧l'.length=l.length:=by
  unfold mK
  cases hb: !aY ⟨1,3,l⟩||(decide (aR ⟨1,3,l⟩ t<0)||(fB ⟨1,3,l⟩ (aR ⟨1,3,l⟩ t)).Cut) with
  |true=>exact⟨l,rfl,hl,rfl⟩
  |false=>
   simp only[Bool.or_eq_false_iff] at hb
   obtain⟨k,hk,e1,e2⟩:=aGb (l:=l) hb.2.1
   have ef:aR ⟨1,3,l⟩ t=(k:Int):=e1.trans (by simp)
   have ec:fB ⟨1,3,l⟩ (k:Int)=l[k]:=by unfold fB;simp[List.getD,List.getElem?_eq_getElem hk]
   rw[ef,ec,cond_false,Int.toNat_natCast]
   exact⟨_,rfl,hl.set hk rfl rfl (hl k hk).2.2,List.length_set⟩
 obtain⟨l',q1,q2,q3⟩:=key
 rw[q1]
 have:=h.aBO q2 (q3.trans hn) s.Logins s.Book (aD0 h.book) rfl
 exact this
theorem bBd {α β:Type}{P:Nat→β→Prop}{f:α→β}{l:List α}(h:∀j (hj:j<l.length),P j (f l[j])):∀j (hj:j<(l.map f).length),P j (l.map f)[j]:=fun j hj=>by
 rw[List.getElem_map];exact h j (by simpa using hj)
theorem WIn.cut {m:Nat}{w:D.World}(h:WIn m w)(b t:Int):WIn m (jG w b t).1∧(jG w b t).1.Seed=w.Seed∧(jG w b t).1.Devices.length=w.Devices.length:=by
 unfold jG
 cases hq:(aI w b 0).2==0&&(!dV w b&&(!(b==t)&&gF w t)) with
 |false=>exact⟨h,rfl,rfl⟩
 |true=>
  simp only[Bool.and_eq_true] at hq
  have h0:=(lK hq.1).1
  simp only[cond_true]
  unfold rH
  cases(lX w b t).2&&((N7 w b t).2&&(N9 w b t).2) with
  |false=>exact⟨h,rfl,rfl⟩
  |true=>
   obtain⟨s1,s2,s3,s4,s5,s6⟩:=qV w b 0
   have hO:WIn m (gM w b):=h.sync b 0
   have h1:WIn m (lX w b t).1:=hO.aCE _ _ _ _
   obtain⟨a1,a2,a3,a4,a5,a6,a7⟩:=Ua (gM w b) b 2 (aX (aO w t).Store) (lM (aO (gM w b) b).Store)
   have e1:(lX w b t).1.Devices=(gM w b).Devices:=a3
   have hd:aK (lX w b t).1 b=true:=P6 h0.2 (by rw[e1];exact s3)
   obtain⟨d0,d1,_⟩:=Jg hd
   have hst:StIn (lX w b t).1.Seed b.toNat (lL (N7 w b t).1 t true).Store:=by
    rw[aGc]
    unfold N7
    rw[Jh]
    have:=h1.aBS hd
    have e2:aO (lX w b t).1 b=aO (gM w b) b:=by unfold aO;rw[e1]
    rw[e2] at this;exact this
   have hW:WIn m (N8 w b t):=by
    refine h1.upd rfl rfl (List.length_set ..) rfl (h1.aBJ d1 hst) (by show((lX w b t).1.Sites.map (jF t)).length=2;rw[List.length_map];exact h1.two) (bBd (P:=fun j s=>SiteIn (lX w b t).1.Seed ((j:Nat):Int) m s) fun j hj=>(h1.site j hj).cut t) h1.mail h1.log
   have hdW:aK (N8 w b t) b=true:=P6 hd (List.length_set ..)
   have h3:WIn m (N9 w b t).1:=hW.up hdW
   obtain⟨u1,u2,u3,u4,u5,u6⟩:=aU3 (N8 w b t) b
   refine⟨h3.tell 4,?_,?_⟩
   ·show(N9 w b t).1.Seed=w.Seed
    exact u1.trans (a1.trans s1)
   ·show(N9 w b t).1.Devices.length=w.Devices.length
    refine u3.trans ?_
    show((lX w b t).1.Devices.set _ _).length=_
    rw[List.length_set,e1];exact s3
theorem WIn.aCW {m:Nat}{w:D.World}(h:WIn m w)(d:Int):WIn m (qU w d).1∧(qU w d).1.Seed=w.Seed∧(qU w d).1.Devices.length=w.Devices.length:=by
 unfold qU
 cases dU w d 0&& !dV w d with
 |false=>exact⟨h,rfl,rfl⟩
 |true=>exact⟨h.upd rfl rfl rfl (List.length_set ..) h.dev h.two h.site h.mail h.log,rfl,rfl⟩
theorem aXe {b:D.aAB}(h:BookIn b)(now:Int):BookIn (kM b now)∧(kM b now).Seed=b.Seed:=by
 unfold kM
 rw[h.ok]
 have hs:(b.Open.filter fun c=>decide (c.Until≥now)).Sublist b.Open:=List.filter_sublist
 exact⟨⟨h.next,Nat.le_trans hs.length_le h.len,h.ord.sublist hs,fun c hc=>h.all c (hs.subset hc)⟩,rfl⟩
theorem WIn.tick {m:Nat}{w:D.World}(h:WIn m w):WIn m (Av w).1∧(Av w).1.Seed=w.Seed∧(Av w).1.Devices.length=w.Devices.length:=by
 unfold Av
 cases hw:aN (rZ w) with
 |false=>exact⟨h,rfl,rfl⟩
 |true=>
  refine⟨?_,rfl,rfl⟩
  have hn:0≤(rZ w).Now∧(rZ w).Now≤999900:=by
   unfold aN at hw
   simp only[Bool.and_eq_true] at hw
   have:=kJ hw.1.1.1.1.1.1.1
   exact⟨by omega,by omega⟩
  exact {
   seed:=h.seed
   now:=hn
   dlen:=h.dlen
   slen:=h.slen
   dev:=h.dev
   two:=by show(w.Sites.map _).length=2;rw[List.length_map];exact h.two
   mle:=h.mle
   site:=bBd (P:=fun j s=>SiteIn w.Seed ((j:Nat):Int) m s) fun j hj=>by
    have hs:=h.site j hj
    have he:=aXe (aD0 hs.book) (rZ w).Now
    exact hs.aBG he.1 he.2
   mail:=h.mail
   log:=h.log}
theorem WIn.aCV {m:Nat}{w:D.World}(h:WIn m w)(ch:List Int)(pin:Int):WIn m (fV w ch pin).1∧(fV w ch pin).1.Seed=w.Seed∧(fV w ch pin).1.Devices.length=w.Devices.length:=by
 unfold fV
 cases !aN w with
 |true=>exact⟨h,rfl,rfl⟩
 |false=>
  have h1:WIn m {w with Hosts:=(Jd w.aAO w.Hosts ch pin (aQj w)).1}:=h.upd rfl rfl rfl rfl h.dev h.two h.site h.mail h.log
  exact⟨h1.tell 5,rfl,rfl⟩
theorem WIn.aCS {m:Nat}{w:D.World}(h:WIn m w)(pin:Int):WIn m (uV w pin).1∧(uV w pin).1.Seed=w.Seed∧(uV w pin).1.Devices.length=w.Devices.length:=h.aCV _ _
theorem WIn.renew {m:Nat}{w:D.World}(h:WIn m w):WIn m (eH w).1∧(eH w).1.Seed=w.Seed∧(eH w).1.Devices.length=w.Devices.length:=by
 unfold eH
 cases aN w&&(eQ w.Hosts (aFj w)).2 with
 |false=>exact⟨h,rfl,rfl⟩
 |true=>exact⟨h.upd rfl rfl rfl rfl h.dev h.two h.site h.mail h.log,rfl,rfl⟩
theorem WIn.roll {m:Nat}{w:D.World}(h:WIn m w)(i b:Int):WIn m (eZ w i b).1∧(eZ w i b).1.Seed=w.Seed∧(eZ w i b).1.Devices.length=w.Devices.length:=by
 unfold eZ
 cases !aN w||(decide (i<0)||decide (i≥(w.Hosts.length:Int))) with
 |true=>exact⟨h,rfl,rfl⟩
 |false=>
  simp only[cond_false]
  cases(fF (w.Hosts.getD i.toNat default) b).2 with
  |false=>exact⟨h,rfl,rfl⟩
  |true=>exact⟨h.upd rfl rfl rfl rfl h.dev h.two h.site h.mail h.log,rfl,rfl⟩
theorem aSz (w:D.World)(d j:Int)(o:D.aAK):(mD w d j o).1.Seed=w.Seed∧(mD w d j o).1.Devices.length=w.Devices.length:=by
 unfold mD
 cases !dU w d j with
 |true=>exact⟨rfl,rfl⟩
 |false=>
  cases !(sZ w j).2.2.2 with
  |true=>exact⟨rfl,rfl⟩
  |false=>
   cases !((aFw w d j o).2.1==0) with
   |true=>exact⟨rfl,List.length_set ..⟩
   |false=>exact⟨rfl,List.length_set ..⟩
theorem aXf (w:D.World)(d:Int)(n:ByteArray)(a:Int)(r:Bool):(xP w d n a r).1.Seed=w.Seed∧(xP w d n a r).1.Devices.length=w.Devices.length:=by
 unfold xP
 cases aN w&&aK w d with
 |false=>exact⟨rfl,rfl⟩
 |true=>
  cases(bX (aO w d) n a r).2 with
  |false=>exact⟨rfl,rfl⟩
  |true=>exact⟨rfl,List.length_set ..⟩
end Go.VK

set_option maxRecDepth 100000
namespace Go.VK
theorem Ji {α:Type}[Inhabited α]{f:α→Nat}{K:Nat}{x:α}:∀{l:List α} {i:Nat},i<l.length→f x≤f (l.getD i default)+K→((l.set i x).map f).sum≤(l.map f).sum+K
 |y::l,0,_,h=>by
  simp only[List.getD,List.getElem?_cons_zero,Option.getD_some] at h
  simp only[List.set_cons_zero,List.map_cons,List.sum_cons];omega
 |y::l,i+1,hi,h=>by
  have:=Ji (f:=f) (l:=l) (i:=i) (x:=x) (K:=K) (by simpa using hi) (by simpa[List.getD] using h)
  simp only[List.set_cons_succ,List.map_cons,List.sum_cons];omega
theorem Aw {w:D.World}{d:Int}(hd:aK w d=true){x:D.Device}{K:Nat}(hx:x.sz≤(aO w d).sz+K):({w with Devices:=w.Devices.set d.toNat x}:D.World).sz≤w.sz+K:=by
 obtain⟨h0,h1,h2⟩:=Jg hd
 have:=Ji (f:=D.Device.sz) (K:=K) h1 (by rw[←h2];exact hx)
 simp only[D.World.sz,List.length_set] at this ⊢;omega
theorem aS0 {w:D.World}{j:Nat}(hj:j<w.Sites.length){x:D.Site}{K:Nat}(hx:x.sz≤(w.Sites.getD j default).sz+K):({w with Sites:=w.Sites.set j x}:D.World).sz≤w.sz+K:=by
 have:=Ji (f:=D.Site.sz) (K:=K) hj hx
 simp only[D.World.sz,List.length_set] at this ⊢;omega
theorem WIn.aBY {m:Nat}{w:D.World}(h:WIn m w):w.aAE.Log.length≤40:=by
 have:=h.log
 unfold bE at this
 rw[Bool.and_eq_true] at this
 have:=kJ this.1
 omega
theorem aQr {m:Nat}{w:D.World}(h:WIn m w)(d b:Int):(aI w d b).1.sz≤w.sz+60:=by
 have hl:=h.aBY
 unfold aI
 cases hb:aN w&&aK w d with
 |false=>simp only[cond_false];omega
 |true=>
  rw[Bool.and_eq_true] at hb
  simp only[cond_true]
  have:=aFr (aO w d) w.aAE.Log w.aAE.Boxes (gH w.aAE b).1
  exact Aw hb.2 (by omega)
theorem bBe (w:D.World)(d:Int)(n:ByteArray)(a:Int)(r:Bool):(xP w d n a r).1.sz≤w.sz+1:=by
 unfold xP
 cases hb:aN w&&aK w d with
 |false=>simp only[cond_false];omega
 |true=>
  rw[Bool.and_eq_true] at hb
  simp only[cond_true]
  cases(bX (aO w d) n a r).2 with
  |false=>simp only[cond_false];omega
  |true=>exact Aw hb.2 (Aq _ _ _ _)
theorem bBf {m:Nat}{w:D.World}(h:WIn m w)(d:Int):(fQ w d).1.sz≤w.sz+561:=by
 have hl:=h.aBY
 cases hp:(fQ w d).2 with
 |true=>have:=(aDs hp).2;omega
 |false=>
  have e:(fQ w d).1=w:=by
   unfold fQ at hp ⊢
   cases hc:(aI w d 0).2==0&&(Rl (aI w d 0).1 d).2 with
   |true=>rw[hc] at hp;cases hp
   |false=>rfl
  rw[e];omega
theorem add_add {w:D.World}(h:WIn w.Devices.length w)(b:Int):(jE w b).1.sz≤w.sz+2500:=by
 have hl:=h.aBY
 unfold jE
 cases hok:aBk w b with
 |false=>simp only[cond_false];omega
 |true=>
  unfold aBk at hok
  simp only[Bool.and_eq_true,Bool.not_eq_true',decide_eq_false_iff_not] at hok
  obtain⟨⟨k1,k2,k3,k4⟩,k5,k6,k7,k8,k9⟩:=hok
  obtain⟨s1,s2,s3,s4,s5,s6⟩:=qV w b 0
  have a0:=aQr h b 0
  have h0:=h.sync b 0
  have h1:WIn w.Devices.length (add1 w b).1:=h0.aCE _ _ _ _
  obtain⟨z1,z2,z3,z4⟩:=Ye (aI w b 0).1 b 1 (aX (aJ w.Seed (w.Devices.length:Int))) (fun _=>(aO (aI w b 0).1 b).Key)
  rw[s6] at z1 z2
  have z1:(add1 w b).1.sz≤(aI w b 0).1.sz+14*(w.aAE.Log.length+1):=z1
  have z2:(add1 w b).1.aAE.Log.length≤w.aAE.Log.length+1:=z2
  have hd:aK (add1 w b).1 b=true:=P6 k2 (by show(iE _ _ _ _ _).1.Devices.length=_;rw[z3,s3])
  obtain⟨r1,r2⟩:=M9 (st:=aJ w.Seed (w.Devices.length:Int)) (n:=(w.Devices.length:Int)) (j:=0) (l:=(add1 w b).1.Sites)
  have e2:=h1.two
  have hw2:(iW w b).sz≤(add1 w b).1.sz+4:=by
   have q:=Aw (w:=(add1 w b).1) hd (x:=lL (aO (add1 w b).1 b) (w.Devices.length:Int) false) (K:=2) (aDt _ _ _)
   unfold iW aFs
   simp only[D.World.sz] at q ⊢
   omega
  have p1:=(aDs (w:=iW w b) (d:=b) k8).2
  have p1:(oI w b).1.sz≤(iW w b).sz+(iW w b).aAE.Log.length+521:=p1
  have pl:=(aDs (w:=iW w b) (d:=b) k8).1
  have pl:(oI w b).1.aAE.Log=(iW w b).aAE.Log:=pl
  have e3:(iW w b).aAE.Log.length=(add1 w b).1.aAE.Log.length:=rfl
  have ap:=Yf (oI w b).1 (bJ (aJ w.Seed (w.Devices.length:Int)))
  have nd:(bJ (aJ w.Seed (w.Devices.length:Int))).sz=0:=rfl
  have f1:=(lK (w:=appW (oI w b).1 (bJ (aJ w.Seed (w.Devices.length:Int)))) k9).2.2.2
  have f1:(zR w b).1.sz≤(appW (oI w b).1 (bJ (aJ w.Seed (w.Devices.length:Int)))).sz+(oI w b).1.aAE.Log.length+20:=f1
  have tl:=aDu (zR w b).1 2
  simp only[cond_true]
  rw[pl,e3] at f1
  omega
theorem bDy {m:Nat}{w:D.World}(h:WIn m w)(b t:Int):(jG w b t).1.sz≤w.sz+2500:=by
 have hl:=h.aBY
 unfold jG
 cases hq:(aI w b 0).2==0&&(!dV w b&&(!(b==t)&&gF w t)) with
 |false=>simp only[cond_false];omega
 |true=>
  simp only[Bool.and_eq_true] at hq
  obtain⟨q1,q2,q3,q4⟩:=lK hq.1
  simp only[cond_true]
  unfold rH
  cases(lX w b t).2&&((N7 w b t).2&&(N9 w b t).2) with
  |false=>simp only[cond_false];omega
  |true=>
   obtain⟨z1,z2,z3,z4⟩:=Ye (gM w b) b 2 (aX (aO w t).Store) (lM (aO (gM w b) b).Store)
   have e0:(gM w b).aAE.Log=w.aAE.Log:=by show(aI w b 0).1.aAE.Log=_;rw[q2]
   rw[e0] at z1 z2
   have z1:(lX w b t).1.sz≤(gM w b).sz+14*(w.aAE.Log.length+1):=z1
   have z3:(lX w b t).1.Devices=(gM w b).Devices:=z3
   have q4:(gM w b).sz≤w.sz+w.aAE.Log.length+20:=q4
   have hd:aK (lX w b t).1 b=true:=P6 q1.2 (by rw[z3];exact q3)
   have hL:(Yg w b t).length≤w.aAE.Log.length+1:=by
    unfold Yg
    have:=qQ (gM w b).aAE.Log 2 (aX (aO w t).Store) (aO (gM w b) b).Store
    rw[e0] at this ⊢;exact this
   have hdev:aO (lX w b t).1 b=aO (gM w b) b:=by unfold aO;rw[z3]
   have hx:(lL (N7 w b t).1 t true).sz≤(aO (lX w b t).1 b).sz+(w.aAE.Log.length+3):=by
    have x1:=aDt (N7 w b t).1 t true
    have x2:=aFt (aO (gM w b) b) (Yg w b t) (lM (aO (gM w b) b).Store (Yg w b t))
    have x2:(N7 w b t).1.sz≤(aO (gM w b) b).sz+(Yg w b t).length:=x2
    rw[hdev];omega
   have hW:(N8 w b t).sz≤(lX w b t).1.sz+(w.aAE.Log.length+3):=by
    have q:=Aw (w:=(lX w b t).1) hd hx
    have c:=aQg t (lX w b t).1.Sites
    unfold N8
    simp only[D.World.sz,List.length_map] at q ⊢
    omega
   have hdW:aK (N8 w b t) b=true:=P6 hd (List.length_set ..)
   have u:=(bE4 (w:=N8 w b t) hdW).2.2
   have u:(N9 w b t).1.sz≤(N8 w b t).sz+501:=u
   have tl:=aDu (N9 w b t).1 4
   simp only[cond_true]
   omega
end Go.VK

set_option maxRecDepth 100000
namespace Go.VK
structure Kept (w v:D.World):Prop where
 wi:WIn v.Devices.length v
 seed:v.Seed=w.Seed
 sz:v.sz≤w.sz+3000
theorem Kept.of {w v:D.World}(h:WIn w.Devices.length v∧v.Seed=w.Seed∧v.Devices.length=w.Devices.length)(hz:v.sz≤w.sz+3000):Kept w v:=⟨by rw[h.2.2];exact h.1,h.2.1,hz⟩
theorem aXg (s:D.Site)(c t:Int)(x:D.aAL)(h:aC s 1=0)(h0:0<s.Accounts.length):(rM s 1 c t x).1.sz≤s.sz+1:=by
 have hb:(rX s.Book c 1 t).1.Open.length≤s.Book.Open.length:=by
  unfold rX
  cases !eG s.Book||decide (dG s.Book c<0) with
  |true=>exact Nat.le_refl _
  |false=>simp only[cond_false,List.length_append,List.length_take,List.length_drop];omega
 have hu:∀a x z q,(lY a x z q).1.sz=a.sz:=fun a x z q=>by
  unfold lY
  cases !aY a||(decide (aR a x.Handle<0)||(fB a (aR a x.Handle)).Cut) with
  |true=>rfl
  |false=>
   simp only[cond_false,D.aAF.sz]
   cases jZ (fB a (aR a x.Handle)).Public x z q (fB a (aR a x.Handle)).Counter==0<;>cases jZ (fB a (aR a x.Handle)).Public x z q (fB a (aR a x.Handle)).Counter==4<;>simp
 have hs:=Ji (f:=D.aAF.sz) (K:=0) (l:=s.Accounts) (i:=0) (x:=(lY (fM s 0) x s.Name (iN s.Book c)).1) h0 (by rw[hu];exact Nat.le_refl _)
 unfold rM
 rw[h]
 cases !cZ s||decide ((0:Int)<0) with
 |true=>exact Nat.le_succ _
 |false=>
  simp only[cond_false]
  cases !(rX s.Book c 1 t).2 with
  |true=>simp only[cond_true,D.Site.sz];omega
  |false=>
   simp only[cond_false]
   cases !xV (fM s 0) 3 with
   |true=>simp only[cond_true,D.Site.sz];omega
   |false=>
    simp only[cond_false]
    cases !((lY (fM s 0) x s.Name (iN s.Book c)).2==0) with
    |true=>simp only[cond_true,D.Site.sz,show(0:Int).toNat=0 from rfl,List.length_set];omega
    |false=>simp only[cond_false,D.Site.sz,show(0:Int).toNat=0 from rfl,List.length_set,List.length_append,List.length_cons,List.length_nil];omega
theorem aXh (s:D.Site)(i n:Int):(qR s i n).1.sz≤s.sz+1:=by
 unfold qR
 cases cZ s&&(!decide (aC s i<0)&&(iF s.Book i n).2.2) with
 |false=>exact Nat.le_succ _
 |true=>
  have hb:(iF s.Book i n).1.Open.length≤s.Book.Open.length+1:=by
   unfold iF
   cases eG s.Book&&(!(s.Book.Next==1000000)&&(bF i 0 1000000&&bF n 0 1000000)) with
   |false=>simp only[cond_false];omega
   |true=>
    simp only[cond_true]
    cases decide ((s.Book.Open.length:Int)≥16) with
    |true=>simp only[cond_true,List.length_append,List.length_drop,List.length_cons,List.length_nil];omega
    |false=>simp only[cond_false,List.length_append,List.length_cons,List.length_nil];omega
  simp only[cond_true,D.Site.sz];omega
theorem aXi {m:Nat}{w:D.World}(h:WIn m w)(d j:Int)(o:D.aAK):(mD w d j o).1.sz≤w.sz+3:=by
 unfold mD
 cases ht:dU w d j with
 |false=>simp only[Bool.not_false,cond_true];omega
 |true=>
  have ht2:=ht
  simp only[dU,Bool.and_eq_true] at ht2
  have h2:=h.two
  have hq:=ht2.2.2
  simp only[gI,Bool.and_eq_true,decide_eq_true_eq] at hq
  have hj:j.toNat<w.Sites.length:=by omega
  have es:lZ w j=w.Sites[j.toNat]:=by unfold lZ;simp[List.getD,List.getElem?_eq_getElem hj]
  have hs:=h.site _ hj
  rw[←es,show((j.toNat:Nat):Int)=j by omega] at hs
  have hb:SiteIn w.Seed j m (sZ w j).1:=hs.begin 1 w.Now
  have z1:(sZ w j).1.sz≤(lZ w j).sz+1:=aXh _ _ _
  obtain⟨l,ea,_⟩:=hb.acc
  have z2:(aFw w d j o).1.sz≤(sZ w j).1.sz+1:=aXg _ _ _ _ hb.find (by rw[ea];simp)
  have hw:(aWv w d j o).sz≤w.sz+2:=by
   have q1:=Aw (w:=w) ht2.2.1 (x:={aO w d with Store:=(aJa w d j o).1}) (K:=0) (Nat.le_refl _)
   have q2:=aS0 (w:=w) hj (x:=(aFw w d j o).1) (K:=2) (by show _≤(lZ w j).sz+2;omega)
   unfold aWv
   simp only[D.World.sz] at q1 q2 ⊢
   omega
  simp only[Bool.not_true,cond_false]
  cases !(sZ w j).2.2.2 with
  |true=>simp only[cond_true];omega
  |false=>
   simp only[cond_false]
   cases !((aFw w d j o).2.1==0) with
   |true=>simp only[cond_true];omega
   |false=>have:=aDu (aWv w d j o) 1;simp only[cond_false];omega
theorem aS1 {w:D.World}(h:WIn w.Devices.length w)(d j:Int)(o:D.aAK):Kept w (mD w d j o).1:=by
 obtain⟨k1,k2⟩:=aSz w d j o
 have:=aXi h d j o
 exact .of ⟨h.visit d j o,k1,k2⟩ (by omega)
theorem Kept.refl {w:D.World}(h:WIn w.Devices.length w):Kept w w:=⟨h,rfl,Nat.le_add_right _ _⟩
theorem bBg {w:D.World}(h:WIn w.Devices.length w)(b:Bool)(d j:Int)(o:D.aAK):Kept w (bif b then oJ w d j o else(w,1)).1:=by
 cases b with
 |true=>exact aS1 h d j o
 |false=>exact .refl h
theorem bBh (w:D.World)(i b:Int):(eZ w i b).1.sz≤w.sz:=by
 unfold eZ
 cases hc: !aN w||(decide (i<0)||decide (i≥(w.Hosts.length:Int))) with
 |true=>exact Nat.le_refl _
 |false=>
  have hi:=Iq (Bool.or_eq_false_iff.1 hc).2
  simp only[cond_false]
  cases(fF (w.Hosts.getD i.toNat default) b).2 with
  |false=>exact Nat.le_refl _
  |true=>
   have:=Ji (f:=D.aAA.sz) (K:=0) (l:=w.Hosts) (i:=i.toNat) (x:=(fF (w.Hosts.getD i.toNat default) b).1) (by omega) (by rw[aPy];exact Nat.le_refl _)
   simp only[cond_true,D.World.sz,List.length_set];omega
theorem bDz (w:D.World):(Av w).1.sz≤w.sz:=by
 unfold Av
 cases aN (rZ w) with
 |false=>exact Nat.le_refl _
 |true=>
  have he:∀b n,(kM b n).Open.length≤b.Open.length:=fun b n=>by
   unfold kM
   cases eG b with
   |false=>exact Nat.le_refl _
   |true=>exact List.length_filter_le _ _
  have hs:∀(l:List D.Site) n,((l.map fun s=>({s with Book:=kM s.Book n}:D.Site)).map D.Site.sz).sum≤(l.map D.Site.sz).sum:=fun l n=>by
   induction l with
   |nil=>exact Nat.le_refl _
   |cons s l ih=>
    have:=he s.Book n
    simp only[List.map_cons,List.sum_cons,D.Site.sz] at ih ⊢
    omega
  have:=hs w.Sites (rZ w).Now
  simp only[cond_true,D.World.sz,rZ,List.length_map] at this ⊢
  omega
end Go.VK

set_option maxRecDepth 100000
namespace Go.VK
structure BoxIn (log:List D.aAC) (bx:D.aAH) (key:Int):Prop where
 ep:bx.Epoch=aQ log
 to:bx.Boxes.map (·.To)=aH log
 nd:(aH log).Nodup
 kok:bM key=true
 box:∀k (h:k<bx.Boxes.length),∃e,bM e=true∧bx.Boxes[k]=rW bx.Boxes[k].To e (jX [aQ log,key])
 eps:0≤aQ log∧aQ log≤40
end Go.VK

set_option maxRecDepth 100000
namespace Go.VK
theorem aQs (w:D.World)(d j:Int)(o:D.aAK):(mD w d j o).1.Hosts=w.Hosts:=by
 unfold mD
 cases !dU w d j with
 |true=>rfl
 |false=>
  cases !(sZ w j).2.2.2 with
  |true=>rfl
  |false=>cases !((aFw w d j o).2.1==0)<;>rfl
theorem vW (w:D.World)(d b:Int):(aI w d b).1.Hosts=w.Hosts:=by
 unfold aI
 cases aN w&&aK w d<;>rfl
theorem aQt (w:D.World)(d:Int):(Rl w d).1.Hosts=w.Hosts:=by
 unfold Rl
 cases(bW (aO w d)).2.2&&(dF w.aAE (bW (aO w d)).2.1).2<;>rfl
theorem aGf (w:D.World)(d:Int):(fQ w d).1.Hosts=w.Hosts:=by
 unfold fQ
 cases(aI w d 0).2==0&&(Rl (aI w d 0).1 d).2 with
 |false=>rfl
 |true=>exact(aQt _ _).trans (vW _ _ _)
theorem aS2 (w:D.World)(d:Int)(n:ByteArray)(a:Int)(r:Bool):(xP w d n a r).1.Hosts=w.Hosts:=by
 unfold xP
 cases aN w&&aK w d with
 |false=>rfl
 |true=>cases(bX (aO w d) n a r).2<;>rfl
theorem aBu (w:D.World)(b k p:Int)(key:List D.aAC→Int):(iE w b k p key).1.Hosts=w.Hosts:=by
 unfold iE
 simp only[]
 generalize gK w.aAE.Log k p (aO w b).Store=l
 generalize bG l.1 (key l.1) (IntKind.i64.wrap (1000+IntKind.i64.wrap (10*(l.1.length:Int))))=e
 cases l.2&&(e.2&&(kF w.aAE l.1 e.1).2)<;>rfl
theorem aXj (w:D.World)(b:Int):(jE w b).1.Hosts=w.Hosts:=by
 unfold jE
 cases aBk w b with
 |false=>rfl
 |true=>
  show(zR w b).1.Hosts=w.Hosts
  have h3:(oI w b).1.Hosts=w.Hosts:=by
   unfold oI
   rw[aGf]
   exact(aBu _ _ _ _ _).trans (vW _ _ _)
  unfold zR
  first
   |exact h3
   |exact(vW _ _ _).trans h3
theorem aQu (w:D.World)(d:Int):(qU w d).1.Hosts=w.Hosts:=by
 unfold qU
 cases dU w d 0&& !dV w d<;>rfl
theorem aS3 (w:D.World):(Av w).1.Hosts=w.Hosts:=by
 unfold Av
 cases aN (rZ w)<;>rfl
theorem aXk (w:D.World)(b t:Int):(jG w b t).1.Hosts=w.Hosts:=by
 unfold jG
 generalize((aI w b 0).2==0&&(!dV w b&&(!(b==t)&&gF w t)))=q
 cases q with
 |false=>rfl
 |true=>
  show(rH w b t).1.Hosts=w.Hosts
  have h1:(lX w b t).1.Hosts=w.Hosts:=(aBu _ _ _ _ _).trans (vW _ _ _)
  have h3:(N9 w b t).1.Hosts=w.Hosts:=(aQt _ _).trans h1
  unfold rH
  cases(lX w b t).2&&((N7 w b t).2&&(N9 w b t).2) with
  |false=>rfl
  |true=>exact h3
theorem aQv (w:D.World)(pin:Int):(uV w pin).1.Hosts.length=w.Hosts.length:=by
 show(fV w (zT w) pin).1.Hosts.length=_
 unfold fV
 cases aN w with
 |false=>rfl
 |true=>exact(aUw ..).1
theorem aQw (w:D.World):(eH w).1.Hosts.length≤w.Hosts.length:=by
 unfold eH
 cases aN w&&(eQ w.Hosts (aFj w)).2 with
 |false=>exact Nat.le_refl _
 |true=>exact(Rk ..).1
theorem aS4 (w:D.World)(i b:Int):(eZ w i b).1.Hosts.length=w.Hosts.length:=by
 unfold eZ
 cases !aN w||(decide (i<0)||decide (i≥(w.Hosts.length:Int))) with
 |true=>rfl
 |false=>cases(fF (w.Hosts.getD i.toNat default) b).2 with
  |false=>rfl
  |true=>exact List.length_set ..
theorem bBi (w:D.World)(d:Int):(qU w d).1.sz=w.sz:=by
 unfold qU
 cases dU w d 0&& !dV w d with
 |false=>rfl
 |true=>simp only[cond_true,D.World.sz,List.length_set]
structure KeptH (w v:D.World):Prop where
 kept:Kept w v
 hosts:v.Hosts.length≤w.Hosts.length
theorem KeptH.of {w v:D.World}(h:Kept w v)(e:v.Hosts=w.Hosts):KeptH w v:=⟨h,by rw[e];exact Nat.le_refl _⟩
theorem aS5 {w:D.World}(h:WIn w.Devices.length w)(hh:w.Hosts.length≤400)(k d o v:Int)(f:Bool):KeptH w (aF7 w k d o v f).1:=by
 have tr:∀b d j o,KeptH w (bif b then oJ w d j o else(w,1)).1:=fun b d j o=>by
  refine .of (bBg h b d j o) ?_
  cases b with
  |true=>exact aQs _ _ _ _
  |false=>rfl
 unfold aF7
 rw[h.ok]
 simp only[Bool.not_true,cond_false]
 cases k==1 with
 |true=>exact .of (.of h.tick (Nat.le_trans (bDz w) (Nat.le_add_right _ _))) (aS3 w)
 |false=>
 simp only[cond_false]
 cases k==2 with
 |true=>exact tr _ _ _ _
 |false=>
 simp only[cond_false]
 cases k==3 with
 |true=>exact tr _ _ _ _
 |false=>
 simp only[cond_false]
 cases k==4 with
 |true=>exact .of (.of (h.aCW d) (by rw[cond_true,bBi];omega)) (aQu w d)
 |false=>
 simp only[cond_false]
 cases k==5 with
 |true=>exact tr _ _ _ _
 |false=>
 simp only[cond_false]
 cases k==6 with
 |true=>exact .of ⟨(h.add d).1,(h.add d).2,by have:=add_add h d;rw[cond_true];omega⟩ (aXj w d)
 |false=>
 simp only[cond_false]
 cases k==7 with
 |true=>exact .of (.of (h.cut d o) (by have:=bDy h d o;rw[cond_true];omega)) (aXk w d o)
 |false=>
 simp only[cond_false]
 cases k==8 with
 |true=>exact .of (.of ⟨h.aDA d bAw v f,aXf w d bAw v f⟩ (by have:=bBe w d bAw v f;rw[cond_true];omega)) (aS2 w d bAw v f)
 |false=>
 simp only[cond_false]
 cases k==9 with
 |true=>exact .of (.of ⟨h.push d,(P5 w d).1,(P5 w d).2.2.1⟩ (by have:=bBf h d;rw[cond_true];omega)) (aGf w d)
 |false=>
 simp only[cond_false]
 cases k==10 with
 |true=>exact .of (.of ⟨h.sync d v,(qV w d v).1,(qV w d v).2.2.1⟩ (by have:=aQr h d v;rw[cond_true];show(aI w d v).1.sz≤_;omega)) (vW w d v)
 |false=>
 simp only[cond_false]
 cases k==11 with
 |true=>exact⟨.of (h.aCS v) (by
   have h1:=bDt w (zT w) v
   have h2:=aF6 w
   show(fV w (zT w) v).1.sz≤_
   omega),Nat.le_of_eq (aQv w v)⟩
 |false=>
 simp only[cond_false]
 cases k==12 with
 |true=>exact⟨.of h.renew (Nat.le_trans (aI9 w) (Nat.le_add_right _ _)),aQw w⟩
 |false=>
 simp only[cond_false]
 cases k==13 with
 |true=>exact⟨.of (h.roll o v) (Nat.le_trans (bBh w o v) (Nat.le_add_right _ _)),Nat.le_of_eq (aS4 w o v)⟩
 |false=>exact⟨.refl h,Nat.le_refl _⟩
end Go.VK
