import Derived.Test.YtaaefkcjgkpckaaGreatDoorXoFF
/- What holds in all worlds that events lead to: plain laws over the pure definitions, no program in sight. The conditions stand in each. -/
set_option linter.unusedVariables false
set_option maxRecDepth 100000
namespace Go.VK
theorem kM {h:Int}(v:Int)(h0:0≤h∧h<2147483647):∃q,hstep h v=h*1000003+v+13-2147483647*q∧(0≤hstep h v∧hstep h v<2147483647):=by
 obtain⟨h0,h1⟩:=h0
 have hm:=vD (p:=v) (q:=2147483647) (by decide)
 have hv:kN v 2147483647=v%2147483647:=if_pos (by decide)
 have e:hstep h v=(h*1000003+v+13)%2147483647:=by
  unfold hstep
  rw[aK (n:=h*1000003) (by omega) (by omega),aK (n:=h*1000003+kN v 2147483647) (by omega) (by omega),aK (by omega) (by omega),Int.tmod_eq_emod_of_nonneg (by omega),hv]
  omega
 rw[e]
 refine⟨(h*1000003+v+13)/2147483647,?_,Int.emod_nonneg _ (by decide),Int.emod_lt_of_pos _ (by decide)⟩
 have:=Int.emod_add_mul_ediv (h*1000003+v+13) 2147483647
 omega
theorem bA3 (k a b:Int):∃q,bH k [a,b]=k*1000009000027000028+a*1000006000009+b*1000003+11000145000724001630001411-2147483647*q:=by
 simp only[bH,sW,List.flatten_cons,List.flatten_nil,List.append_nil,List.cons_append,List.nil_append,List.foldl_cons,List.foldl_nil]
 obtain⟨q0,e0,r0⟩:=kM k (h:=11) ⟨by decide,by decide⟩
 generalize hstep 11 k=y0 at*
 obtain⟨q1,e1,r1⟩:=kM a (h:=y0) r0
 generalize hstep y0 a=y1 at*
 obtain⟨q2,e2,r2⟩:=kM b (h:=y1) r1
 generalize hstep y1 b=y2 at*
 obtain⟨q3,e3,r3⟩:=kM k (h:=y2) r2
 generalize hstep y2 k=y3 at*
 exact⟨q0*1000009000027000027+q1*1000006000009+q2*1000003+q3*1,by omega⟩
theorem bA4 (k a b c:Int):∃q,bH k [a,b,c]=k*1000012000054000108000082+a*1000009000027000027+b*1000006000009+c*1000003+11000178001159003802006301004246-2147483647*q:=by
 simp only[bH,sW,List.flatten_cons,List.flatten_nil,List.append_nil,List.cons_append,List.nil_append,List.foldl_cons,List.foldl_nil]
 obtain⟨q0,e0,r0⟩:=kM k (h:=11) ⟨by decide,by decide⟩
 generalize hstep 11 k=y0 at*
 obtain⟨q1,e1,r1⟩:=kM a (h:=y0) r0
 generalize hstep y0 a=y1 at*
 obtain⟨q2,e2,r2⟩:=kM b (h:=y1) r1
 generalize hstep y1 b=y2 at*
 obtain⟨q3,e3,r3⟩:=kM c (h:=y2) r2
 generalize hstep y2 c=y3 at*
 obtain⟨q4,e4,r4⟩:=kM k (h:=y3) r3
 generalize hstep y3 k=y4 at*
 exact⟨q0*1000012000054000108000081+q1*1000009000027000027+q2*1000006000009+q3*1000003+q4*1,by omega⟩
theorem bA5 (k a b c d:Int):∃q,bH k [a,b,c,d]=k*1000015000090000270000405000244+a*1000012000054000108000081+b*1000009000027000027+c*1000006000009+d*1000003+11000211001693007279017707023149012751-2147483647*q:=by
 simp only[bH,sW,List.flatten_cons,List.flatten_nil,List.append_nil,List.cons_append,List.nil_append,List.foldl_cons,List.foldl_nil]
 obtain⟨q0,e0,r0⟩:=kM k (h:=11) ⟨by decide,by decide⟩
 generalize hstep 11 k=y0 at*
 obtain⟨q1,e1,r1⟩:=kM a (h:=y0) r0
 generalize hstep y0 a=y1 at*
 obtain⟨q2,e2,r2⟩:=kM b (h:=y1) r1
 generalize hstep y1 b=y2 at*
 obtain⟨q3,e3,r3⟩:=kM c (h:=y2) r2
 generalize hstep y2 c=y3 at*
 obtain⟨q4,e4,r4⟩:=kM d (h:=y3) r3
 generalize hstep y3 d=y4 at*
 obtain⟨q5,e5,r5⟩:=kM k (h:=y4) r4
 generalize hstep y4 k=y5 at*
 exact⟨q0*1000015000090000270000405000243+q1*1000012000054000108000081+q2*1000009000027000027+q3*1000006000009+q4*1000003+q5*1,by omega⟩
theorem Od (n:Int):∃e,iH n=n+e∧0≤e∧e≤1:=by
 unfold iH
 by_cases h:n=0
 ·subst h;exact⟨1,rfl,by decide,by decide⟩
 ·rw[beq_eq_false_iff_ne.2 h];exact⟨0,by simp,by decide,by decide⟩
theorem bA6 (s i:Int):(aL s i).Seed=iH (bH s [151,277,i]):=by
 unfold aL bA;simp only[List.cons_append,List.nil_append]
theorem bA7 (s:D.aAH):gM s=iH (bH s.Seed [151,181]):=by
 unfold gM bA;simp only[List.cons_append,List.nil_append]
theorem aVd (s:D.aAH)(n:ByteArray)(i:Int):bS s n i=iH (bH s.Seed [151,179,bB n,i]):=by
 unfold bS bA;simp only[List.cons_append,List.nil_append]
theorem aQm (s i k:Int):∃e q,(aL s i).Seed-(aL s k).Seed=(i-k)*1000003+e+2147483647*q∧-1≤e∧e≤1:=by
 have hi:(aL s i).Seed=iH (bH s [151,277,i]):=bA6 s i
 have hk:(aL s k).Seed=iH (bH s [151,277,k]):=bA6 s k
 obtain⟨e1,a1,a2,a3⟩:=Od (bH s [151,277,i])
 obtain⟨e2,b1,b2,b3⟩:=Od (bH s [151,277,k])
 obtain⟨q1,c1⟩:=bA4 s 151 277 i
 obtain⟨q2,c2⟩:=bA4 s 151 277 k
 rw[hi,hk,a1,b1,c1,c2]
 exact⟨e1-e2,q2-q1,by omega,by omega,by omega⟩
def dfs:List Int:=[-5,-4,-3,-2,-1,0,1,2,3,4,5]
def aXj:List Int:=[-1,0,1]
theorem aVe {d:Int}(h1: -5≤d)(h2:d≤5):d∈dfs:=by simp only[dfs,List.mem_cons,List.not_mem_nil,or_false];omega
theorem Yo {d:Int}(h1: -1≤d)(h2:d≤1):d∈aXj:=by simp only[aXj,List.mem_cons,List.not_mem_nil,or_false];omega
theorem bDn:(dfs.all fun d=>d==0||aXj.all fun e=>aXj.all fun z=> !((d*1000003+e)*1000009000027000028-z)%2147483647==0)=true:=by kernel_rfl
theorem aXk {s i k:Int}(hi:0≤i∧i<6)(hk:0≤k∧k<6)(h:i≠k):gM (aL s i)≠gM (aL s k):=by
 intro he
 obtain⟨e,q,d1,d2,d3⟩:=aQm s i k
 have h1:gM (aL s i)=iH (bH (aL s i).Seed [151,181]):=bA7 _
 have h2:gM (aL s k)=iH (bH (aL s k).Seed [151,181]):=bA7 _
 obtain⟨e1,a1,a2,a3⟩:=Od (bH (aL s i).Seed [151,181])
 obtain⟨e2,b1,b2,b3⟩:=Od (bH (aL s k).Seed [151,181])
 obtain⟨q1,c1⟩:=bA3 (aL s i).Seed 151 181
 obtain⟨q2,c2⟩:=bA3 (aL s k).Seed 151 181
 rw[h1,h2,a1,b1,c1,c2] at he
 have hz:(((i-k)*1000003+e)*1000009000027000028-(e2-e1))%2147483647=0:=by
  clear h1 h2 a1 b1 c1 c2
  generalize(aL s i).Seed=x at*
  generalize(aL s k).Seed=y at*
  omega
 have:=List.all_eq_true.1 bDn (i-k) (aVe (by omega) (by omega))
 rw[beq_eq_false_iff_ne.2 (show i-k≠0 by omega),Bool.false_or] at this
 have:=List.all_eq_true.1 (List.all_eq_true.1 this e (Yo d2 d3)) (e2-e1) (Yo (by omega) (by omega))
 rw[hz] at this;cases this
def hs1:Int:=1464438180
theorem bH6:bB (aA 0)=1941999745:=by kernel_rfl
theorem bH7:bB (aA 1)=1464438180:=by kernel_rfl
theorem bA8:(dfs.all fun d=>[0,477561565,-477561565].all fun(g:Int)=>(d==0&&g==0)||aXj.all fun e=>aXj.all fun z=> !((d*1000003+e)*1000015000090000270000405000244+g*1000006000009+d*1000003-z)%2147483647==0)=true:=by kernel_rfl
theorem aQn {s i k j l:Int}(hi:0≤i∧i<6)(hk:0≤k∧k<6)(hj:j=0∨j=1)(hl:l=0∨l=1)(h:i≠k∨j≠l):bS (aL s i) (aA j) i≠bS (aL s k) (aA l) k:=by
 intro he
 obtain⟨e,q,d1,d2,d3⟩:=aQm s i k
 have h1:bS (aL s i) (aA j) i=iH (bH (aL s i).Seed [151,179,bB (aA j),i]):=aVd _ _ _
 have h2:bS (aL s k) (aA l) k=iH (bH (aL s k).Seed [151,179,bB (aA l),k]):=aVd _ _ _
 obtain⟨e1,a1,a2,a3⟩:=Od (bH (aL s i).Seed [151,179,bB (aA j),i])
 obtain⟨e2,b1,b2,b3⟩:=Od (bH (aL s k).Seed [151,179,bB (aA l),k])
 obtain⟨q1,c1⟩:=bA5 (aL s i).Seed 151 179 (bB (aA j)) i
 obtain⟨q2,c2⟩:=bA5 (aL s k).Seed 151 179 (bB (aA l)) k
 rw[h1,h2,a1,b1,c1,c2] at he
 obtain⟨g,hg,hg2⟩:∃g,bB (aA j)-bB (aA l)=g∧(g∈[0,477561565,(-477561565:Int)]∧(j≠l→g≠0)):=by
  rcases hj with rfl|rfl<;>rcases hl with rfl|rfl<;>simp only[bH6,bH7]
  ·exact⟨0,by decide,by decide,by decide⟩
  ·exact⟨477561565,by decide,by decide,by decide⟩
  ·exact⟨-477561565,by decide,by decide,by decide⟩
  ·exact⟨0,by decide,by decide,by decide⟩
 have hz:(((i-k)*1000003+e)*1000015000090000270000405000244+g*1000006000009+(i-k)*1000003-(e2-e1))%2147483647=0:=by
  clear h1 h2 a1 b1 c1 c2
  generalize(aL s i).Seed=x at*
  generalize(aL s k).Seed=y at*
  generalize bB (aA j)=x1 at*
  generalize bB (aA l)=y1 at*
  clear hg2 hj hl h
  omega
 have:=List.all_eq_true.1 (List.all_eq_true.1 bA8 (i-k) (aVe (by omega) (by omega))) g hg2.1
 rw[show(i-k==0&&g==0)=false by
  rcases h with h|h
  ·rw[beq_eq_false_iff_ne.2 (show i-k≠0 by omega)];rfl
  ·rw[beq_eq_false_iff_ne.2 (hg2.2 h),Bool.and_false],Bool.false_or] at this
 have:=List.all_eq_true.1 (List.all_eq_true.1 this e (Yo d2 d3)) (e2-e1) (Yo (by omega) (by omega))
 rw[hz] at this;cases this
theorem aXl {n:Int}(h:0≤n∧n<2147483647):bE (iH n)=true:=by
 unfold iH bE bR
 by_cases h0:n=0
 ·subst h0;rfl
 ·rw[beq_eq_false_iff_ne.2 h0,cond_false,decide_eq_true (show 1≤n by omega),decide_eq_true (show n≤2147483646 by omega)];rfl
theorem eZ (s:Int)(l:List Int):bE (bA s l)=true:=aXl (kL _ _)
theorem aFx {k:Int}(h:bE k=true):1≤k∧k≤2147483646:=gW h
theorem bEx {k:Int}(h:bE k=true):dI k=k*48271%2147483647:=by
 have:=aFx h
 unfold dI
 rw[h,Bool.not_true,cond_false,aK (by omega) (by omega),Int.tmod_eq_emod_of_nonneg (by omega)]
theorem aVf {k:Int}(h:bE k=true):bE (dI k)=true:=by
 have:=aFx h
 rw[bEx h]
 have:k*48271%2147483647≠0:=by omega
 unfold bE bR
 rw[decide_eq_true (show 1≤k*48271%2147483647 by omega),decide_eq_true (show k*48271%2147483647≤2147483646 by omega)];rfl
theorem Ad {k:Int}(h:bE k=true):fF (dI k)=k:=by
 have:=aFx h
 unfold fF
 rw[aVf h,Bool.not_true,cond_false,bEx h]
 omega
theorem aVg {a b:Int}(ha:bE a=true)(hb:bE b=true)(h:dI a=dI b):a=b:=by
 rw[←Ad ha,h,Ad hb]
theorem aS5 {s i k j l:Int}(hi:0≤i∧i<6)(hk:0≤k∧k<6)(hj:j=0∨j=1)(hl:l=0∨l=1)(h:i≠k∨j≠l):fT (aL s i) (aA j) i≠fT (aL s k) (aA l) k:=
 fun he=>aQn hi hk hj hl h (aVg (eZ _ _) (eZ _ _) he)
theorem aXm {s i k:Int}(hi:0≤i∧i<6)(hk:0≤k∧k<6)(h:i≠k):aN (aL s i)≠aN (aL s k):=
 fun he=>aXk hi hk h (aVg (eZ _ _) (eZ _ _) he)
end Go.VK

set_option maxRecDepth 100000
namespace Go.VK
theorem Jt {α:Type}{p:Nat→α→Bool}:∀{l:List α} {i:Nat},(∀k (h:k<l.length),p (i+k) l[k]=false)→jB p i l=false
 |[],i,_=>rfl
 |x::l,i,h=>by
  have h0:=h 0 (by simp)
  have ih:=Jt (p:=p) (l:=l) (i:=i+1) (fun k hk=>by
   have:=h (k+1) (by simpa using hk)
   rw[show i+1+k=i+(k+1) by omega];simpa using this)
  simp only[jB,Nat.add_zero,List.getElem_cons_zero] at h0 ⊢
  rw[h0,ih];rfl
theorem Sr {α:Type}{p:Nat→α→Bool}:∀{l:List α} {i:Nat},jB p i l=false→∀k (h:k<l.length),p (i+k) l[k]=false
 |x::l,i,h,0,_=>by simp only[jB,Bool.or_eq_false_iff] at h;simpa using h.1
 |x::l,i,h,k+1,hk=>by
  simp only[jB,Bool.or_eq_false_iff] at h
  have:=Sr h.2 k (by simpa using hk)
  rw[show i+(k+1)=i+1+k by omega];simpa using this
def Gm (seed j:Int)(k:Nat):Int:=fT (aL seed (k:Int)) (aA j) (k:Int)
def Dq (seed j:Int)(l:List D.aAJ):Prop:=∀k (h:k<l.length),l[k].Handle=(k:Int)∧l[k].Public=Gm seed j k∧0≤l[k].Counter∧l[k].Counter≤1000000
theorem gG {x a b:Int}(h1:a≤x)(h2:x≤b):bR x a b=true:=by unfold bR;rw[decide_eq_true h1,decide_eq_true h2];rfl
theorem bDo {seed j l:Int}{i k:Nat}(hi:i<6)(hk:k<6)(hj:j=0∨j=1)(hl:l=0∨l=1)(h:i≠k∨j≠l):Gm seed j i≠Gm seed l k:=
 aS5 (by omega) (by omega) hj hl (by omega)
theorem aXn (seed j:Int)(k:Nat):fF (Gm seed j k)=bS (aL seed (k:Int)) (aA j) (k:Int):=by
 unfold Gm fT
 exact Ad (by unfold bS;exact eZ _ _)
theorem aFy {seed j m:Int}{l:List D.aAJ}(hj:j=0∨j=1)(h:Dq seed j l)(hl:l.length≤6)(hm:1≤m∧m≤3):aU ⟨1,m,l⟩=true:=by
 have ha:jB (rD ⟨1,m,l⟩) 0 l=false:=Jt fun k hk=>by
  obtain⟨h1,h2,h3,h4⟩:=h k hk
  have hp:=aFx (eZ (aL seed (k:Int)).Seed [179,bB (aA j),(k:Int)])
  unfold rD
  rw[Nat.zero_add,h1,gG (by omega) (by omega),h2,aXn,beq_eq_false_iff_ne.2 (show bS (aL seed (k:Int)) (aA j) (k:Int)≠0 by unfold bS;omega),gG h3 h4]
  have e1:(decide (0<k)&&decide ((l.getD (k-1) default).Handle≥(k:Int)))=false:=by
   by_cases hk0:0<k
   ·have hk1:k-1<l.length:=by omega
    have:=(h (k-1) hk1).1
    rw[List.getD,List.getElem?_eq_getElem hk1,Option.getD_some,this,decide_eq_false (show ¬((k-1:Nat):Int)≥(k:Int) by omega),Bool.and_false]
   ·rw[decide_eq_false hk0,Bool.false_and]
  have e2:((l.take k).any fun q=>q.Public==Gm seed j k)=false:=by
   rw[List.any_eq_false]
   intro q hq
   obtain⟨i,hi,rfl⟩:=List.mem_iff_getElem.1 hq
   rw[List.length_take] at hi
   rw[List.getElem_take,(h i (by omega)).2.1]
   simp only[beq_iff_eq]
   exact bDo (by omega) (by omega) hj hj (.inl (by omega))
  show(!true||((decide (0<k)&&decide ((l.getD (k-1) default).Handle≥(k:Int)))||(false|| !true))||(l.take k).any fun q=>q.Public==Gm seed j k)=false
  rw[e1,e2];rfl
 unfold aU
 show(bR 1 0 1000000&&bR m 1 3&&decide (l.length≤8)&& !jB (rD ⟨1,m,l⟩) 0 l)=true
 rw[ha,gG hm.1 hm.2,decide_eq_true (show l.length≤8 by omega)];rfl
structure SiteIn (seed j:Int) (n:Nat) (s:D.Site):Prop where
 name:s.Name=aA j
 book:dV s.Book=true
 key:bE s.Book.Seed=true
 acc:∃l,s.Accounts=[⟨1,3,l⟩]∧Dq seed j l∧l.length=n
theorem Oe {j:Int}(hj:j=0∨j=1):(fQ (aA j)&&decide (2≤(bD (aA j)).length))=true:=by
 rcases hj with rfl|rfl<;>kernel_rfl
theorem SiteIn.ok {seed j:Int}{n:Nat}{s:D.Site}(hj:j=0∨j=1)(hn:n≤6)(h:SiteIn seed j n s):bL s=true:=by
 obtain⟨h1,h2,h3,l,h4,h5,h6⟩:=h
 unfold bL iU
 rw[h1,Oe hj,h3,h2,h4]
 show(true&&true&&decide (1≤8)&&true&& !(Dj [⟨1,3,l⟩] 0 ⟨1,3,l⟩||false))=true
 unfold Dj
 rw[aFy hj h5 (by omega) ⟨by decide,by decide⟩];rfl
theorem SiteIn.find {seed j:Int}{n:Nat}{s:D.Site}(h:SiteIn seed j n s):aC s 1=0:=by
 obtain⟨_,_,_,l,h4,_⟩:=h
 unfold aC;rw[h4];rfl
theorem aL7 {α:Type}{p:α→Bool}:∀{l:List α},(∀c∈l,p c=true)→l.takeWhile p=l
 |[],_=>rfl
 |x::l,h=>by rw[List.takeWhile_cons,h x (by simp),if_pos rfl,aL7 (fun c hc=>h c (by simp[hc]))]
theorem bA9 {l:List D.aAJ}{p:Int}(h:∀k (h:k<l.length),l[k].Handle=(k:Int)):O3 l (l.length:Int) p=l++[⟨(l.length:Int),p,0,false⟩]:=by
 have:Jq (l.length:Int) l=l.length:=by
  unfold Jq
  rw[aL7]
  intro c hc
  obtain⟨i,hi,rfl⟩:=List.mem_iff_getElem.1 hc
  rw[h i hi];exact decide_eq_true (by omega)
 unfold O3
 rw[this,List.take_length,List.drop_length,List.append_nil]
theorem Dq.snoc {seed j:Int}{l:List D.aAJ}(h:Dq seed j l):Dq seed j (l++[⟨(l.length:Int),Gm seed j l.length,0,false⟩]):=by
 intro k hk
 by_cases hk1:k<l.length
 ·rw[List.getElem_append_left hk1];exact h k hk1
 ·have:k=l.length:=by simp at hk;omega
  subst this
  simp
theorem SiteIn.reg {seed j:Int}{n:Nat}{s:D.Site}(hj:j=0∨j=1)(hn:n<6)(h:SiteIn seed j n s):
  (fV s 1 (n:Int) (Gm seed j n)).2=true∧SiteIn seed j (n+1) (fV s 1 (n:Int) (Gm seed j n)).1:=by
 have hok:=h.ok hj (by omega)
 have hf:=h.find
 obtain⟨h1,h2,h3,l,h4,h5,h6⟩:=h
 subst h6
 have ha:(s.Accounts.getD (aC s 1).toNat default)=⟨1,3,l⟩:=by rw[hf,h4];rfl
 have hi:=bA9 (p:=Gm seed j l.length) (fun k hk=>(h5 k hk).1)
 have hs:=h5.snoc
 have e1:=aFy (m:=3) hj h5 (by omega) ⟨by decide,by decide⟩
 have e2:=aFy (m:=3) hj hs (by simp;omega) ⟨by decide,by decide⟩
 have hadd:fE ⟨1,3,l⟩ (l.length:Int) (Gm seed j l.length)=(⟨1,3,l++[⟨(l.length:Int),Gm seed j l.length,0,false⟩]⟩,true):=by
  unfold fE
  rw[e1]
  show(bif !true|| !aU ⟨1,3,O3 l (l.length:Int) (Gm seed j l.length)⟩ then _ else _)=_
  rw[hi,e2];rfl
 unfold fV
 rw[hok,hf,show decide ((0:Int)<0)=false from rfl,←hf,ha,hadd,hf,h4]
 exact⟨rfl,h1,h2,h3,_,rfl,hs,by simp⟩
theorem aS6 {seed j:Int}(hj:j=0∨j=1):SiteIn seed j 0 (kU (fD (aA j) (bA seed [281,j])) 1 3).1:=by
 have hk:=eZ seed [281,j]
 generalize bA seed [281,j]=q at*
 have hn:fD (aA j) q=⟨aA j,[],⟨q,0,[]⟩,[]⟩:=by
  unfold fD iU
  rw[Oe hj,hk];rfl
 have hb:dV ⟨q,0,[]⟩=true:=rfl
 have hin:SiteIn seed j 0 (lV ⟨aA j,[],⟨q,0,[]⟩,[]⟩ 1 3):=
  ⟨rfl,hb,hk,[],rfl,fun k hk=>by simp at hk,rfl⟩
 have h0:bL ⟨aA j,[],⟨q,0,[]⟩,[]⟩=true:=by
  unfold bL iU
  rw[Oe hj,hk];rfl
 unfold kU
 rw[hn,h0,hin.ok hj (by omega)]
 exact hin
theorem aFz {seed j:Int}(hj:j=0∨j=1):∀(m i:Nat) (s:D.Site),SiteIn seed j i s→i+m≤6→
  SiteIn seed j (i+m) (mG (aA j) i ((List.range' i m).map fun(k:Nat)=>bG (aL seed (k:Int))) s)
 |0,i,s,h,_=>h
 |m+1,i,s,h,hm=>by
  have:=aFz hj m (i+1) _ (h.reg hj (by omega)).2 (by omega)
  rw[show i+1+m=i+(m+1) by omega] at this
  exact this
theorem aBg {seed j:Int}(hj:j=0∨j=1){n:Nat}(hn:n≤6):SiteIn seed j n (rT seed (bX seed n) j):=by
 have:=aFz hj n 0 _ (aS6 (seed:=seed) hj) (by omega)
 rw[Nat.zero_add,←List.range_eq_range'] at this
 exact this
end Go.VK

set_option maxRecDepth 100000
namespace Go.VK
theorem aQo {α:Type}{r:α→α→Prop}(ht:∀a b c,r a b→r b c→r a c):∀{l:List α},(∀k (h:k+1<l.length),r l[k] l[k+1])→l.Pairwise r
 |[],_=> .nil
 |[x],_=>List.pairwise_singleton r x
 |x::y::l,h=>by
  have ih:=aQo (r:=r) ht (l:=y::l) (fun k hk=>by have:=h (k+1) (by simpa using hk);simpa using this)
  refine List.pairwise_cons.2 ⟨fun z hz=> ?_,ih⟩
  have h0:r x y:=by simpa using h 0 (by simp)
  rcases List.mem_cons.1 hz with rfl|hz
  ·exact h0
  ·exact ht _ _ _ h0 ((List.pairwise_cons.1 ih).1 z hz)
structure BookIn (b:D.aAD):Prop where
 next:0≤b.Next∧b.Next≤1000000
 len:b.Open.length≤16
 ord:b.Open.Pairwise (fun a c=>a.Id<c.Id)
 all:∀c∈b.Open,(0≤c.Id∧c.Id<b.Next)∧(0≤c.aAF∧c.aAF≤1000005)∧(0≤c.Until∧c.Until≤1000005)
theorem BookIn.ok {b:D.aAD}(h:BookIn b):dV b=true:=by
 obtain⟨h1,h2,h3,h4⟩:=h
 have ha:jB (fP b) 0 b.Open=false:=Jt fun k hk=>by
  obtain⟨a1,a2,a3⟩:=h4 b.Open[k] (List.getElem_mem hk)
  unfold fP
  rw[Nat.zero_add,aK (by omega) (by omega),gG (by omega) (by omega),gG a2.1 a2.2,gG a3.1 a3.2]
  have e1:(decide (0<k)&&decide ((b.Open.getD (k-1) default).Id≥b.Open[k].Id))=false:=by
   by_cases hk0:0<k
   ·have hk1:k-1<b.Open.length:=by omega
    have:=List.pairwise_iff_getElem.1 h3 (k-1) k hk1 hk (by omega)
    rw[List.getD,List.getElem?_eq_getElem hk1,Option.getD_some,decide_eq_false (show ¬b.Open[k-1].Id≥b.Open[k].Id by omega),Bool.and_false]
   ·rw[decide_eq_false hk0,Bool.false_and]
  rw[e1];rfl
 unfold dV
 rw[ha,gG h1.1 h1.2,decide_eq_true h2];rfl
theorem Dt {b:D.aAD}(h:dV b=true):BookIn b:=by
 unfold dV at h
 simp only[Bool.and_eq_true,decide_eq_true_eq,Bool.not_eq_true'] at h
 obtain⟨⟨h1,h2⟩,h3⟩:=h
 have h1:=gW h1
 have hg:∀k (hk:k<b.Open.length),((0≤b.Open[k].Id∧b.Open[k].Id<b.Next)∧(0≤b.Open[k].aAF∧b.Open[k].aAF≤1000005)∧(0≤b.Open[k].Until∧b.Open[k].Until≤1000005))∧(0<k→(b.Open.getD (k-1) default).Id<b.Open[k].Id):=fun k hk=>by
  have:=Sr h3 k hk
  unfold fP at this
  rw[Nat.zero_add,aK (by omega) (by omega)] at this
  simp only[Bool.or_eq_false_iff,Bool.not_eq_false',Bool.and_eq_false_iff,decide_eq_false_iff_not] at this
  obtain⟨a1,a2,a3,a4⟩:=this
  have a1:=gW a1
  have a3:=gW a3
  have a4:=gW a4
  exact⟨⟨⟨a1.1,by omega⟩,⟨a3.1,a3.2⟩,a4.1,a4.2⟩,fun h0=>by rcases a2 with a2|a2<;>omega⟩
 refine⟨⟨h1.1,h1.2⟩,h2,aQo (r:=fun a c:D.aAM=>a.Id<c.Id) (fun a b c h1 h2=>Int.lt_trans h1 h2) (fun k hk=> ?_),fun c hc=> ?_⟩
 ·have:=(hg (k+1) hk).2 (by omega)
  rw[Nat.add_sub_cancel,List.getD,List.getElem?_eq_getElem (show k<b.Open.length by omega),Option.getD_some] at this
  exact this
 ·obtain⟨i,hi,rfl⟩:=List.mem_iff_getElem.1 hc
  exact(hg i hi).1
theorem aF0 {b:D.aAD}(h:BookIn b)(a n:Int):BookIn (dO b a n).1∧(dO b a n).1.Seed=b.Seed∧b.Next≤(dO b a n).1.Next∧(dO b a n).1.Next≤b.Next+1:=by
 unfold dO
 rw[h.ok]
 by_cases hn:b.Next=1000000
 ·have e:∀{x y:D.aAD×D.aAM×Bool},(bif true&&(!(b.Next==1000000)&&(bR a 0 1000000&&bR n 0 1000000)) then x else y)=y:=by
   intro x y;rw[hn];rfl
  rw[e];exact⟨h,rfl,Int.le_refl _,by show b.Next≤_;omega⟩
 ·rw[beq_eq_false_iff_ne.2 hn]
  cases hr:bR a 0 1000000&&bR n 0 1000000 with
  |false=>exact⟨h,rfl,Int.le_refl _,by show b.Next≤_;omega⟩
  |true=>
   rw[Bool.and_eq_true] at hr
   have r1:=gW hr.1
   have r2:=gW hr.2
   obtain⟨h1,h2,h3,h4⟩:=h
   have hw:IntKind.i64.wrap (b.Next+1)=b.Next+1:=aK (by omega) (by omega)
   have hw2:IntKind.i64.wrap (n+5)=n+5:=aK (by omega) (by omega)
   have key:∀l:List D.aAM,l.length≤15→l.Pairwise (fun a c=>a.Id<c.Id)→(∀c∈l,c∈b.Open)→BookIn ⟨b.Seed,IntKind.i64.wrap (b.Next+1),l++[Yl b a n]⟩:=fun l hl ho hm=>by
    rw[hw]
    refine⟨⟨show 0≤b.Next+1 by omega,show b.Next+1≤1000000 by omega⟩,by simp;omega,?_,fun c hc=> ?_⟩
    ·show(l++[Yl b a n]).Pairwise _
     refine List.pairwise_append.2 ⟨ho,List.pairwise_singleton _ _,fun x hx y hy=> ?_⟩
     rw[List.mem_singleton.1 hy]
     exact(h4 x (hm x hx)).1.2
    ·rcases List.mem_append.1 hc with hc|hc
     ·obtain⟨q1,q2,q3⟩:=h4 c (hm c hc)
      exact⟨⟨q1.1,show c.Id<b.Next+1 by omega⟩,q2,q3⟩
     ·rw[List.mem_singleton.1 hc]
      refine⟨⟨h1.1,show b.Next<b.Next+1 by omega⟩,⟨show 0≤a by omega,show a≤1000005 by omega⟩,?_⟩
      show 0≤IntKind.i64.wrap (n+5)∧IntKind.i64.wrap (n+5)≤1000005
      rw[hw2];omega
   simp only[Bool.not_false,Bool.true_and,cond_true]
   cases hd:decide ((b.Open.length:Int)≥16) with
   |true=>
    refine⟨key _ (by simp only[cond_true,List.length_drop];omega) ?_ (fun c hc=>List.mem_of_mem_drop hc),by first|rfl|trivial,by first|(rw[hw];omega)|(simp only[hw];omega),by first|(rw[hw];omega)|(simp only[hw];omega)⟩
    exact h3.sublist (List.drop_sublist _ _)
   |false=>
    have:=of_decide_eq_false hd
    exact⟨key _ (by simp only[cond_false];omega) h3 (fun c hc=>hc),by first|rfl|trivial,by first|(rw[hw];omega)|(simp only[hw];omega),by first|(rw[hw];omega)|(simp only[hw];omega)⟩
theorem bDp {b:D.aAD}(h:BookIn b)(c a n:Int):BookIn (kS b c a n).1∧(kS b c a n).1.Seed=b.Seed:=by
 unfold kS
 rw[h.ok]
 cases decide (dC b c<0) with
 |true=>exact⟨h,rfl⟩
 |false=>
  obtain⟨h1,h2,h3,h4⟩:=h
  have hsub:(b.Open.take (dC b c).toNat++b.Open.drop ((dC b c).toNat+1)).Sublist b.Open:=by
   conv=>rhs;rw[←List.take_append_drop (dC b c).toNat b.Open]
   refine List.Sublist.append (List.Sublist.refl _) ?_
   rw[←List.drop_drop];exact List.drop_sublist _ _
  exact⟨⟨h1,Nat.le_trans hsub.length_le h2,h3.sublist hsub,fun c hc=>h4 c (hsub.subset hc)⟩,rfl⟩
theorem SiteIn.aBN {seed j:Int}{n:Nat}{s:D.Site}(h:SiteIn seed j n s){b:D.aAD}(hb:BookIn b)(hs:b.Seed=s.Book.Seed):SiteIn seed j n {s with Book:=b}:=
 ⟨h.name,hb.ok,by show bE b.Seed=true;rw[hs];exact h.key,h.acc⟩
theorem SiteIn.begin {seed j:Int}{n:Nat}{s:D.Site}(h:SiteIn seed j n s)(i t:Int):SiteIn seed j n (gT s i t).1:=by
 unfold gT
 cases bL s&&(!decide (aC s i<0)&&(dO s.Book i t).2.2) with
 |false=>exact h
 |true=>
  have:=aF0 (Dt h.book) i t
  exact h.aBN this.1 this.2.1
theorem Dq.set {seed j:Int}{l:List D.aAJ}(h:Dq seed j l){k:Nat}(hk:k<l.length){c:D.aAJ}(h1:c.Handle=l[k].Handle)(h2:c.Public=l[k].Public)(h3:0≤c.Counter∧c.Counter≤1000000):Dq seed j (l.set k c):=by
 intro i hi
 rw[List.getElem_set]
 rw[List.length_set] at hi
 split
 ·rename_i e;subst e
  have:=h k hk
  exact⟨h1.trans this.1,h2.trans this.2.1,h3⟩
 ·exact h i hi
end Go.VK

set_option maxRecDepth 100000
namespace Go.VK
theorem rV {α:Type}{p:α→Bool}:∀{l:List α} {i:Nat},decide (iL p i l<0)=false→∃k,∃h:k<l.length,iL p i l=((i+k:Nat):Int)∧p l[k]=true
 |[],i,h=>by simp[iL] at h
 |x::l,i,h=>by
  unfold iL at h ⊢
  cases hp:p x with
  |true=>exact⟨0,by simp,by simp,by simpa using hp⟩
  |false=>
   rw[hp,cond_false] at h
   obtain⟨k,hk,e1,e2⟩:=rV h
   exact⟨k+1,by simpa using hk,by rw[cond_false,e1];congr 1;omega,by simpa using e2⟩
theorem Dq.use {seed j:Int}{l:List D.aAJ}(h:Dq seed j l)(x:D.aAL)(z:ByteArray)(c:Int)(hx:0≤x.Counter∧x.Counter≤1000000):
  ∃l',(eQ ⟨1,3,l⟩ x z c).1=⟨1,3,l'⟩∧Dq seed j l'∧l'.length=l.length∧∀k (h1:k<l.length) (h2:k<l'.length),l[k].Cut=true→l'[k].Cut=true:=by
 unfold eQ
 cases hb: !aU ⟨1,3,l⟩||(decide (aM ⟨1,3,l⟩ x.Handle<0)||(dU ⟨1,3,l⟩ (aM ⟨1,3,l⟩ x.Handle)).Cut) with
 |true=>exact⟨l,rfl,h,rfl,fun k h1 h2 e=>e⟩
 |false=>
  simp only[Bool.or_eq_false_iff] at hb
  obtain⟨k,hk,e1,e2⟩:=rV (l:=l) hb.2.1
  have ef:aM ⟨1,3,l⟩ x.Handle=(k:Int):=e1.trans (by simp)
  have ec:dU ⟨1,3,l⟩ (k:Int)=l[k]:=by unfold dU;simp[List.getD,List.getElem?_eq_getElem hk]
  rw[ef,ec,cond_false,Int.toNat_natCast]
  have hset:∀c:D.aAJ,c.Handle=l[k].Handle→c.Public=l[k].Public→0≤c.Counter∧c.Counter≤1000000→(l[k].Cut=true→c.Cut=true)→
    ∃l',(D.aAF.mk 1 3 (l.set k c))=⟨1,3,l'⟩∧Dq seed j l'∧l'.length=l.length∧∀i (h1:i<l.length) (h2:i<l'.length),l[i].Cut=true→l'[i].Cut=true:=fun c c1 c2 c3 c4=>
   ⟨_,rfl,h.set hk c1 c2 c3,List.length_set,fun i h1 h2 e=>by
    rw[List.getElem_set]
    split
    ·rename_i q;subst q;exact c4 e
    ·exact e⟩
  cases dQ l[k].Public x z c l[k].Counter==0 with
  |true=>exact hset _ rfl rfl hx (fun e=>e)
  |false=>
   cases dQ l[k].Public x z c l[k].Counter==4 with
   |true=>exact hset _ rfl rfl (h k hk).2.2 (fun _=>rfl)
   |false=>exact⟨l,rfl,h,rfl,fun k h1 h2 e=>e⟩
theorem SiteIn.aBU {seed j:Int}{n:Nat}{s:D.Site}(h:SiteIn seed j n s){l:List D.aAJ}(hl:Dq seed j l)(hn:l.length=n)(g:List Int)(b:D.aAD)(hb:BookIn b)(hs:b.Seed=s.Book.Seed):SiteIn seed j n {s with Book:=b,Accounts:=[⟨1,3,l⟩],Logins:=g}:=
 ⟨h.name,hb.ok,by show bE b.Seed=true;rw[hs];exact h.key,l,rfl,hl,hn⟩
theorem SiteIn.finish {seed j:Int}{n:Nat}{s:D.Site}(h:SiteIn seed j n s)(c t:Int)(x:D.aAL)(hx:0≤x.Counter∧x.Counter≤1000000):SiteIn seed j n (jN s 1 c t x).1:=by
 have hf:=h.find
 have hk:=bDp (Dt h.book) c 1 t
 unfold jN
 rw[hf]
 cases !bL s||decide ((0:Int)<0) with
 |true=>exact h
 |false=>
  simp only[cond_false]
  cases !(kS s.Book c 1 t).2 with
  |true=>exact h.aBN hk.1 hk.2
  |false=>
   simp only[cond_false]
   cases !mF (dK s 0) 3 with
   |true=>exact h.aBN hk.1 hk.2
   |false=>
    obtain⟨l,e,hl,hn⟩:=h.acc
    have ea:dK s 0=⟨1,3,l⟩:=by unfold dK;rw[e];rfl
    obtain⟨l',q1,q2,q3,_⟩:=hl.use x s.Name (dH s.Book c) hx
    simp only[cond_false,ea,q1]
    rw[show s.Accounts.set (0:Int).toNat ⟨1,3,l'⟩=[⟨1,3,l'⟩] by rw[e];rfl]
    cases !((eQ ⟨1,3,l⟩ x s.Name (dH s.Book c)).2==0) with
    |true=>exact h.aBU q2 (q3.trans hn) s.Logins _ hk.1 hk.2
    |false=>exact h.aBU q2 (q3.trans hn) (s.Logins++[1]) _ hk.1 hk.2
theorem bBa (s:D.aAH)(z:ByteArray)(i:Int)(m:List Int):(fC s z i m).1.Seed=s.Seed∧(fC s z i m).1.Vendor=s.Vendor∧(fC s z i m).1.Serial=s.Serial∧((fC s z i m).2.2=true→(fC s z i m).1.Counter=s.Counter+1∧0≤s.Counter∧s.Counter<1000000)∧((fC s z i m).2.2=false→(fC s z i m).1=s):=by
 unfold fC
 cases hb:jM s&& !(s.Counter==1000000) with
 |false=>exact⟨rfl,rfl,rfl,fun h=>(by cases h),fun _=>rfl⟩
 |true=>
  simp only[Bool.and_eq_true,Bool.not_eq_true',beq_eq_false_iff_ne] at hb
  have hs:=hb.1
  unfold jM at hs
  simp only[Bool.and_eq_true] at hs
  have hc:=gW hs.2.2.2
  refine⟨rfl,rfl,rfl,⟨fun _=> ?_,fun h=>by cases h⟩⟩
  have:IntKind.i64.wrap (s.Counter+1)=s.Counter+1:=aK (by omega) (by omega)
  exact⟨this,by omega,by have:=hb.2;omega⟩
theorem aQp (s:D.aAH)(o:D.aAK)(z:ByteArray)(i c:Int)(p:Bool):(fZ s o z i c p).1.Seed=s.Seed∧(fZ s o z i c p).1.Vendor=s.Vendor∧(fZ s o z i c p).1.Serial=s.Serial∧(0≤s.Counter∧s.Counter≤1000000→(0≤(fZ s o z i c p).1.Counter∧(fZ s o z i c p).1.Counter≤1000000)∧(0≤(fZ s o z i c p).2.1.Counter∧(fZ s o z i c p).2.1.Counter≤1000000)):=by
 obtain⟨h1,h2,h3,h4,h5⟩:=bBa s z i (aY (xP s o z i c p))
 unfold fZ
 cases hb:iI o z&&(fC s z i (aY (xP s o z i c p))).2.2 with
 |false=>exact⟨rfl,rfl,rfl,fun h=>⟨h,Int.le_refl 0,show(0:Int)≤1000000 by decide⟩⟩
 |true=>
  rw[Bool.and_eq_true] at hb
  obtain⟨q1,q2,q3⟩:=h4 hb.2
  refine⟨h1,h2,h3,fun h=>⟨?_,?_⟩⟩
  ·show 0≤(fC s z i (aY (xP s o z i c p))).1.Counter∧(fC s z i (aY (xP s o z i c p))).1.Counter≤1000000
   omega
  ·show 0≤(fC s z i (aY (xP s o z i c p))).1.Counter∧(fC s z i (aY (xP s o z i c p))).1.Counter≤1000000
   omega
end Go.VK

set_option maxRecDepth 100000
namespace Go.VK
structure StIn (seed:Int) (k:Nat) (s:D.aAH):Prop where
 ven:s.Vendor=1
 ser:s.Serial=(k:Int)
 key:s.Seed=(aL seed (k:Int)).Seed
 cnt:0≤s.Counter∧s.Counter≤1000000
structure WIn (m:Nat) (w:D.World):Prop where
 seed:bE w.Seed=true
 now:0≤w.Now∧w.Now≤999900
 dlen:1≤w.Devices.length∧w.Devices.length≤6
 slen:w.Stolen.length=w.Devices.length
 dev:∀k (h:k<w.Devices.length),StIn w.Seed k w.Devices[k].Store
 two:w.Sites.length=2
 mle:m≤6
 site:∀j (h:j<w.Sites.length),SiteIn w.Seed (j:Int) m w.Sites[j]
 mail:dP w.Mail=true
 log:aT w.aAB.Log=true
theorem WIn.ok {m:Nat}{w:D.World}(h:WIn m w):bK w=true:=by
 have hs:jB kP 0 w.Sites=false:=Jt fun k hk=>by
  have h2:=h.two
  have:=h.site k hk
  unfold kP
  rw[this.ok (by omega) h.mle,this.name,Nat.zero_add];simp
 unfold bK
 have h2:=h.two
 have h3:=h.slen
 have h4:=h.dlen
 rw[hs,h.log,h.mail,h.seed,gG h.now.1 h.now.2,gG (by omega) (by omega),h3,h2];simp
theorem WIn.upd {m:Nat}{w v:D.World}(h:WIn m w)(h1:v.Seed=w.Seed)(h2:v.Now=w.Now)(h3:v.Devices.length=w.Devices.length)(h4:v.Stolen.length=w.Stolen.length)
  (h5:∀k (h:k<v.Devices.length),StIn w.Seed k v.Devices[k].Store) (h6:v.Sites.length=2) (h7:∀j (h:j<v.Sites.length),SiteIn w.Seed (j:Int) m v.Sites[j]) (h8:dP v.Mail=true) (h9:aT v.aAB.Log=true):WIn m v where
 seed:=by rw[h1];exact h.seed
 now:=by rw[h2];exact h.now
 dlen:=by rw[h3];exact h.dlen
 slen:=by rw[h3,h4];exact h.slen
 dev:=by rw[h1];exact h5
 two:=h6
 mle:=h.mle
 site:=by rw[h1];exact h7
 mail:=h8
 log:=h9
theorem WIn.aBR {m:Nat}{w:D.World}(h:WIn m w){i:Nat}{x:D.Device}(hi:i<w.Devices.length)(hx:StIn w.Seed i x.Store):∀k (h:k<(w.Devices.set i x).length),StIn w.Seed k (w.Devices.set i x)[k].Store:=fun k hk=>by
 rw[List.getElem_set]
 rw[List.length_set] at hk
 split
 ·rename_i e;subst e;exact hx
 ·exact h.dev k hk
theorem WIn.aDG {m:Nat}{w:D.World}(h:WIn m w){i:Nat}{x:D.Site}(hi:i<2)(hx:SiteIn w.Seed (i:Int) m x):∀k (h:k<(w.Sites.set i x).length),SiteIn w.Seed (k:Int) m (w.Sites.set i x)[k]:=fun k hk=>by
 rw[List.getElem_set]
 rw[List.length_set] at hk
 split
 ·rename_i e;subst e;exact hx
 ·exact h.site k hk
theorem nL {w:D.World}{d:Int}(h:aQ w d=true):0≤d∧d.toNat<w.Devices.length∧aF w d=w.Devices.getD d.toNat default:=by
 simp only[aQ,Bool.and_eq_true,decide_eq_true_eq] at h
 exact⟨h.1,by omega,rfl⟩
theorem gN {w:D.World}{d:Int}(h:aQ w d=true):∃h:d.toNat<w.Devices.length,aF w d=w.Devices[d.toNat]:=by
 obtain⟨h1,h2,h3⟩:=nL h
 exact⟨h2,by rw[h3];simp[List.getD,List.getElem?_eq_getElem h2]⟩
theorem WIn.aCE {m:Nat}{w:D.World}(h:WIn m w){d:Int}(hd:aQ w d=true):StIn w.Seed d.toNat (aF w d).Store:=by
 obtain⟨h1,h2⟩:=gN hd
 rw[h2];exact h.dev _ h1
theorem aXo {m:D.aAN}(h:dP m=true)(k a t:Int):dP (xV m k a t).1=true:=by
 unfold xV
 cases hb: !dP m|| !dP ⟨Aa (m.Notices++[⟨k,a,t,false⟩])⟩ with
 |true=>exact h
 |false=>simp only[Bool.or_eq_false_iff,Bool.not_eq_false'] at hb;exact hb.2
theorem WIn.tell {m:Nat}{w:D.World}(h:WIn m w)(k:Int):WIn m (mO w k):=
 h.upd rfl rfl rfl rfl h.dev h.two h.site (aXo h.mail _ _ _) h.log
theorem StIn.make {seed:Int}{k:Nat}{s:D.aAH}(h:StIn seed k s)(o:D.aAK)(z:ByteArray)(i c:Int)(p:Bool):StIn seed k (fZ s o z i c p).1:=by
 obtain⟨h1,h2,h3,h4⟩:=aQp s o z i c p
 exact⟨h2.trans h.ven,h3.trans h.ser,h1.trans h.key,(h4 h.cnt).1⟩
theorem WIn.visit {m:Nat}{w:D.World}(h:WIn m w)(d j:Int)(o:D.aAK):WIn m (dY w d j o).1:=by
 unfold dY
 cases ht:bU w d j with
 |false=>exact h
 |true=>
  have ht2:=ht
  simp only[bU,Bool.and_eq_true] at ht2
  have h2:=h.two
  have hq:=ht2.2.2
  simp only[iE,Bool.and_eq_true,decide_eq_true_eq] at hq
  have hj:j.toNat<w.Sites.length:=by omega
  have es:dA w j=w.Sites[j.toNat]:=by unfold dA;simp[List.getD,List.getElem?_eq_getElem hj]
  have hs:=h.site _ hj
  rw[←es,show((j.toNat:Nat):Int)=j by omega] at hs
  have hst:=h.aCE ht2.2.1
  have hm:=aQp (aF w d).Store o (aA j) d (eT w j).2.2.1 true
  have hb:SiteIn w.Seed j m (eT w j).1:=hs.begin 1 w.Now
  have hfin:SiteIn w.Seed j m (xQ w d j o).1:=hb.finish _ _ _ (hm.2.2.2 hst.cnt).2
  have hw:WIn m (aB1 w d j o):=by
   obtain⟨hd0,hd1,_⟩:=nL ht2.2.1
   refine h.upd rfl rfl (List.length_set ..) rfl (h.aBR hd1 (hst.make o (aA j) d (eT w j).2.2.1 true)) (by show(w.Sites.set _ _).length=2;rw[List.length_set,h2]) (h.aDG (by omega) (by rw[show((j.toNat:Nat):Int)=j by omega];exact hfin)) h.mail h.log
  simp only[Bool.not_true,cond_false]
  cases !(eT w j).2.2.2 with
  |true=>exact h
  |false=>
   cases !((xQ w d j o).2.1==0) with
   |true=>exact hw
   |false=>exact hw.tell 1
theorem WIn.sync {m:Nat}{w:D.World}(h:WIn m w)(d b:Int):WIn m (aV w d b).1:=by
 unfold aV
 cases hb:bK w&&aQ w d with
 |false=>exact h
 |true=>
  rw[Bool.and_eq_true] at hb
  obtain⟨hd0,hd1,_⟩:=nL hb.2
  refine h.upd rfl rfl (List.length_set ..) rfl (h.aBR hd1 ?_) h.two h.site h.mail h.log
  have hst:=h.aCE hb.2
  unfold cK
  cases jL (aF w d) w.aAB.Log w.aAB.Boxes (fG w.aAB b).1==0<;>exact hst
theorem Ju (d:D.Device):(dF d).1.Store=d.Store:=by
 unfold dF
 cases(tJ d.Key d.Epoch (IntKind.i64.wrap (d.Version+1)) d.aAE).2<;>rfl
theorem WIn.up {m:Nat}{w:D.World}(h:WIn m w){d:Int}(hd:aQ w d=true):WIn m (O1 w d).1:=by
 unfold O1
 cases(dF (aF w d)).2.2&&(cZ w.aAB (dF (aF w d)).2.1).2 with
 |false=>exact h
 |true=>
  obtain⟨hd0,hd1,_⟩:=nL hd
  refine h.upd rfl rfl (List.length_set ..) rfl (h.aBR hd1 (by rw[Ju];exact h.aCE hd)) h.two h.site h.mail ?_
  show aT (cZ w.aAB (dF (aF w d)).2.1).1.Log=true
  rw[(nI _ _).2];exact h.log
theorem WIn.push {m:Nat}{w:D.World}(h:WIn m w)(d:Int):WIn m (zY w d).1:=by
 unfold zY
 cases hb:(aV w d 0).2==0&&(O1 (aV w d 0).1 d).2 with
 |false=>exact h
 |true=>
  rw[Bool.and_eq_true] at hb
  have h0:=uQ hb.1
  exact(h.sync d 0).up (by
   have:=h0.1.2
   simp only[aQ,Bool.and_eq_true,decide_eq_true_eq] at this ⊢
   rw[h0.2.2.1];exact this)
end Go.VK

set_option maxRecDepth 100000
namespace Go.VK
theorem Og (w:D.World)(d b:Int):(aV w d b).1.Seed=w.Seed∧(aV w d b).1.Now=w.Now∧(aV w d b).1.Devices.length=w.Devices.length∧(aV w d b).1.Sites=w.Sites∧(aV w d b).1.Stolen=w.Stolen∧(aV w d b).1.aAB=w.aAB:=by
 unfold aV
 cases bK w&&aQ w d with
 |false=>exact⟨rfl,rfl,rfl,rfl,rfl,rfl⟩
 |true=>exact⟨rfl,rfl,List.length_set ..,rfl,rfl,rfl⟩
theorem bDq (w:D.World)(d:Int):(O1 w d).1.Seed=w.Seed∧(O1 w d).1.Now=w.Now∧(O1 w d).1.Devices.length=w.Devices.length∧(O1 w d).1.Sites=w.Sites∧(O1 w d).1.Stolen=w.Stolen∧(O1 w d).1.aAB.Log=w.aAB.Log:=by
 unfold O1
 cases(dF (aF w d)).2.2&&(cZ w.aAB (dF (aF w d)).2.1).2 with
 |false=>exact⟨rfl,rfl,rfl,rfl,rfl,rfl⟩
 |true=>exact⟨rfl,rfl,List.length_set ..,rfl,rfl,(nI _ _).2⟩
theorem Du (w:D.World)(b k p:Int)(key:List D.aAA→Int):(gJ w b k p key).1.Seed=w.Seed∧(gJ w b k p key).1.Now=w.Now∧(gJ w b k p key).1.Devices=w.Devices∧(gJ w b k p key).1.Sites=w.Sites∧(gJ w b k p key).1.Stolen=w.Stolen∧(gJ w b k p key).1.Mail=w.Mail∧(aT w.aAB.Log=true→aT (gJ w b k p key).1.aAB.Log=true):=by
 unfold gJ
 simp only[]
 generalize dD w.aAB.Log k p (aF w b).Store=l
 generalize aW l.1 (key l.1) (IntKind.i64.wrap (1000+IntKind.i64.wrap (10*(l.1.length:Int))))=e
 cases l.2&&(e.2&&(iP w.aAB l.1 e.1).2) with
 |false=>exact⟨rfl,rfl,rfl,rfl,rfl,rfl,fun h=>h⟩
 |true=>
  refine⟨rfl,rfl,rfl,rfl,rfl,rfl,fun h=> ?_⟩
  show aT (iP w.aAB l.1 e.1).1.Log=true
  unfold iP
  cases hl:aT l.1 with
  |false=>exact h
  |true=>
   cases !cO l.1 w.aAB.Log|| !iA e.1 l.1 with
   |true=>exact h
   |false=>exact hl
theorem WIn.aCT {m:Nat}{w:D.World}(h:WIn m w)(b k p:Int)(key:List D.aAA→Int):WIn m (gJ w b k p key).1:=by
 obtain⟨a1,a2,a3,a4,a5,a6,a7⟩:=Du w b k p key
 exact h.upd a1 a2 (by rw[a3]) (by rw[a5]) (by rw[a3];exact h.dev) (by rw[a4];exact h.two) (by rw[a4];exact h.site) (by rw[a6];exact h.mail) (a7 h.log)
theorem aL8 {seed:Int}{m:Nat}(hm:m<6):∀(l:List D.Site) (j:Nat),j+l.length≤2→(∀i (h:i<l.length),SiteIn seed ((j+i:Nat):Int) m l[i])→
  (kC (aL seed (m:Int)) (m:Int) j l).2=true∧(kC (aL seed (m:Int)) (m:Int) j l).1.length=l.length∧∀i (h:i<(kC (aL seed (m:Int)) (m:Int) j l).1.length),SiteIn seed ((j+i:Nat):Int) (m+1) (kC (aL seed (m:Int)) (m:Int) j l).1[i]
 |[],j,_,_=>⟨rfl,rfl,fun i h=>by simp[kC] at h⟩
 |s::l,j,hj,h=>by
  have h0:SiteIn seed (j:Int) m s:=h 0 (by simp)
  simp only[List.length_cons] at hj
  obtain⟨r1,r2⟩:=h0.reg (by omega) hm
  obtain⟨i1,i2,i3⟩:=aL8 hm l (j+1) (by omega) (fun i hi=>by
   have:=h (i+1) (by simpa using hi)
   rw[show j+1+i=j+(i+1) by omega];simpa using this)
  have e:fT (aL seed (m:Int)) (aA (j:Int)) (m:Int)=Gm seed (j:Int) m:=by unfold Gm;rfl
  have hu:kC (aL seed (m:Int)) (m:Int) j (s::l)=((fV s 1 (m:Int) (Gm seed (j:Int) m)).1::(kC (aL seed (m:Int)) (m:Int) (j+1) l).1,true):=by
   rw[kC,e,r1,i1];rfl
  rw[hu]
  refine⟨rfl,by simp[i2],fun i hi=> ?_⟩
  cases i with
  |zero=>simpa using r2
  |succ i=>
   simp only[List.length_cons] at hi
   have:=i3 i (by omega)
   rw[show j+1+i=j+(i+1) by omega] at this
   simpa using this
theorem Dw (d:D.Device)(n:ByteArray)(h:Int)(r:Bool):(fB d n h r).1.Store=d.Store:=by
 unfold fB;cases(uP d n h r).2<;>rfl
theorem Su (d:D.Device)(h:Int)(r:Bool):(jZ d h r).Store=d.Store:=by
 unfold jZ;rw[Dw,Dw]
theorem Sw {w v:D.World}{d:Int}(h:aQ w d=true)(e:v.Devices.length=w.Devices.length):aQ v d=true:=by
 simp only[aQ,Bool.and_eq_true,decide_eq_true_eq] at h ⊢
 rw[e];exact h
theorem WIn.app {m:Nat}{w:D.World}(h:WIn m w)(hl:w.Devices.length<6):WIn m (appW w (bG (aL w.Seed (w.Devices.length:Int)))) where
 seed:=h.seed
 now:=h.now
 dlen:=by unfold appW;simp only[List.length_append,List.length_cons,List.length_nil];have:=h.dlen;omega
 slen:=by unfold appW;simp only[List.length_append,List.length_cons,List.length_nil,h.slen]
 dev:=fun k hk=>by
  have hk':k<(w.Devices++[bG (aL w.Seed (w.Devices.length:Int))]).length:=hk
  show StIn w.Seed k ((w.Devices++[bG (aL w.Seed (w.Devices.length:Int))])[k]'hk').Store
  rw[List.getElem_append]
  split
  ·rename_i hk1;exact h.dev k hk1
  ·simp only[List.length_append,List.length_cons,List.length_nil] at hk'
   have e:k=w.Devices.length:=by omega
   subst e
   simp only[Nat.sub_self,List.getElem_cons_zero]
   exact⟨rfl,rfl,rfl,Int.le_refl 0,show(0:Int)≤1000000 by decide⟩
 two:=h.two
 mle:=h.mle
 site:=h.site
 mail:=h.mail
 log:=h.log
theorem WIn.aDH {w:D.World}(h:WIn w.Devices.length w){b:Int}(hn:w.Devices.length<6)(k2:aQ w b=true):WIn (w.Devices.length+1) (aAW w b)∧(aAW w b).Seed=w.Seed∧(aAW w b).Devices.length=w.Devices.length:=by
 obtain⟨s1,s2,s3,s4,s5,s6⟩:=Og w b 0
 have h0:=h.sync b 0
 have h1:WIn w.Devices.length (add1 w b).1:=h0.aCT _ _ _ _
 obtain⟨a1,a2,a3,a4,a5,a6,a7⟩:=Du (aV w b 0).1 b 1 (aN (aL w.Seed (w.Devices.length:Int))) (fun _=>(aF (aV w b 0).1 b).Key)
 have e1:(add1 w b).1.Seed=w.Seed:=a1.trans s1
 have e3:(add1 w b).1.Devices.length=w.Devices.length:=by show(gJ _ _ _ _ _).1.Devices.length=_;rw[a3,s3]
 obtain⟨r1,r2,r3⟩:=aL8 (seed:=w.Seed) hn (add1 w b).1.Sites 0 (by rw[h1.two];omega) (fun i hi=>by
  have:=h1.site i hi
  rw[e1] at this;rw[Nat.zero_add];exact this)
 have hd:aQ (add1 w b).1 b=true:=Sw k2 e3
 obtain⟨d0,d1,_⟩:=nL hd
 refine⟨{
  seed:=by show bE (add1 w b).1.Seed=true;exact h1.seed
  now:=h1.now
  dlen:=by show 1≤((add1 w b).1.Devices.set _ _).length∧((add1 w b).1.Devices.set _ _).length≤6;rw[List.length_set];exact h1.dlen
  slen:=by show(add1 w b).1.Stolen.length=((add1 w b).1.Devices.set _ _).length;rw[List.length_set];exact h1.slen
  dev:=h1.aBR d1 (by rw[Su];exact h1.aCE hd)
  two:=by show(aSw w b).1.length=2;exact r2.trans h1.two
  mle:=by omega
  site:=fun j hj=>by
   have:=r3 j hj
   rw[Nat.zero_add] at this
   show SiteIn (add1 w b).1.Seed (j:Int) _ _
   rw[e1];exact this
  mail:=h1.mail
  log:=h1.log},e1,?_⟩
 show((add1 w b).1.Devices.set _ _).length=_
 rw[List.length_set,e3]
end Go.VK

set_option maxRecDepth 100000
namespace Go.VK
theorem aF1 {k:Int}(h:bE k=true)(l:List Int):fA (dI k) l (oN k l)=true:=by
 have:=aFx h
 unfold fA
 rw[Ad h,bne,beq_eq_false_iff_ne.2 (show k≠0 by omega)];simp
theorem aQq {l:List D.aAA}{e:D.aAA}(h:l=[]∨aT l=true)(hs:iT l e=true)(hl:l.length<40):aT (l++[e])=true:=by
 have ha:jB (fun i x=> !iT ((l++[e]).take i) x) 0 (l++[e])=false:=Jt fun k hk=>by
  rw[Nat.zero_add]
  by_cases hk1:k<l.length
  ·rw[List.getElem_append_left hk1,List.take_append_of_le_length (by omega)]
   rcases h with h|h
   ·subst h;simp at hk1
   ·unfold aT at h
    rw[Bool.and_eq_true,Bool.not_eq_true'] at h
    have:=Sr h.2 k hk1
    rw[Nat.zero_add] at this;exact this
  ·have e1:k=l.length:=by simp at hk;omega
   subst e1
   simp[hs]
 unfold aT
 rw[Bool.and_eq_true,Bool.not_eq_true']
 exact⟨gG (by simp;omega) (by simp;omega),ha⟩
theorem Yp (l:List D.aAA)(e:D.aAA):aB (l++[e])=gZ (aB l) e:=by
 unfold aB;rw[List.foldl_append];rfl
theorem Dx (l:List D.aAA)(e:D.aAA):aD (l++[e])=bif e.Kind==2 then IntKind.i64.wrap (aD l+1) else aD l:=by
 unfold aD;rw[List.foldl_append];rfl
theorem Dy (l:List D.aAA)(e:D.aAA)(p:Int):dM (l++[e]) p=(dM l p||(e.Kind==2&&e.Device==p)):=by
 unfold dM;rw[List.any_append];simp
def iZ (seed:Int)(k:Nat):Int:=aN (aL seed (k:Int))
theorem Oh {seed:Int}{i k:Nat}(hi:i<6)(hk:k<6)(h:i≠k):iZ seed i≠iZ seed k:=aXm (by omega) (by omega) (by omega)
theorem Dz (s:D.aAH):bE (gM s)=true:=by unfold gM;exact eZ _ _
theorem iF {l:List Int}{x:Int}:gP l x=true↔x∈l:=by
 unfold gP;rw[List.any_eq_true]
 constructor
 ·rintro⟨y,hy,e⟩;rw[←eq_of_beq e];exact hy
 ·exact fun h=>⟨x,h,beq_self_eq_true x⟩
structure NewLog (seed:Int) (n:Nat) (l:List D.aAA):Prop where
 len:l.length=n
 devs:aB l=(List.range n).map (iZ seed)
 rem:∀p,dM l p=false
 ep:aD l=0
 ok:n=0∨aT l=true
theorem iK (seed:Int):∀n,n≤6→NewLog seed n (aO seed n)
 |0,_=>⟨rfl,rfl,fun _=>rfl,rfl, .inl rfl⟩
 |n+1,hn=>by
  obtain⟨h1,h2,h3,h4,h5⟩:=iK seed n (by omega)
  have hnot:gP (aB (aO seed n)) (iZ seed n)=false:=by
   rw[Bool.eq_false_iff,Ne,iF,h2]
   intro hm
   obtain⟨i,hi,e⟩:=List.mem_map.1 hm
   have hi:=List.mem_range.1 hi
   exact Oh (by omega) (by omega) (by omega) e
  have hst:iT (aO seed n) (zI (aO seed n) 1 (iZ seed n) (aL seed 0))=true:=by
   unfold iT
   have v:fA (aN (aL seed 0)) [bN (aFn (aO seed n) 1 (iZ seed n) (aL seed 0))] (kQ (aL seed 0) [bN (aFn (aO seed n) 1 (iZ seed n) (aL seed 0))])=true:=by
    unfold kQ aN;exact aF1 (Dz _) _
   show(((aO seed n).length:Int)==((aO seed n).length:Int)&&(fH (aO seed n)==fH (aO seed n)&&((gP (aB (aO seed n)) (aN (aL seed 0))||(((aO seed n).length:Int)==0&&aN (aL seed 0)==iZ seed n))&&(fA (aN (aL seed 0)) [bN (aFn (aO seed n) 1 (iZ seed n) (aL seed 0))] (kQ (aL seed 0) [bN (aFn (aO seed n) 1 (iZ seed n) (aL seed 0))])&&
    (!dM (aO seed n) (iZ seed n)&&(true&&(!gP (aB (aO seed n)) (iZ seed n)&&decide (((aB (aO seed n)).length:Int)<6))))))))=true
   rw[v,h3,hnot,h2,h1]
   have hby:(gP ((List.range n).map (iZ seed)) (aN (aL seed 0))||((n:Int)==0&&aN (aL seed 0)==iZ seed n))=true:=by
    cases n with
    |zero=>simp[iZ]
    |succ n=>
     rw[show gP ((List.range (n+1)).map (iZ seed)) (aN (aL seed 0))=true from iF.2 (List.mem_map.2 ⟨0,by simp,rfl⟩)];rfl
   rw[hby]
   simp;omega
  have hl:=aQq (l:=aO seed n) (by
   rcases h5 with h5|h5
   ·subst h5;exact .inl rfl
   ·exact .inr h5) hst (by omega)
  have e:aO seed (n+1)=aO seed n++[zI (aO seed n) 1 (iZ seed n) (aL seed 0)]:=by
   show(dD (aO seed n) 1 (aN (aL seed (n:Int))) (aL seed 0)).1=_
   unfold dD
   have hq:(decide (((aO seed n).length:Int)>0)&& !aT (aO seed n))=false:=by
    rcases h5 with h5|h5
    ·subst h5;rfl
    ·rw[h5];simp
   rw[hq,show aN (aL seed (n:Int))=iZ seed n from rfl,hl];rfl
  rw[e]
  refine⟨by simp[h1],?_,fun p=> ?_,?_, .inr hl⟩
  ·rw[Yp,List.range_succ,List.map_append,←h2]
   unfold gZ
   have hc:(aB (aO seed n)).contains (iZ seed n)=false:=by
    rw[Bool.eq_false_iff] at hnot ⊢
    intro hc;exact hnot (iF.2 (by simpa using hc))
   show(bif (1:Int)==1 then(bif (aB (aO seed n)).contains (iZ seed n) then _ else _) else _)=_
   rw[hc];rfl
  ·rw[Dy,h3];rfl
  ·rw[Dx,h4];rfl
end Go.VK

set_option maxRecDepth 100000
namespace Go.VK
theorem aL9 {e:Int}{d:List Int}(hd:d.length≤200):∀(l:List Int) (i:Nat),(∀p∈l,bE p=true)→1≤e+(i:Int)→e+(i:Int)+(l.length:Int)≤2147483646→
  (fI e d i l).2=true∧(fI e d i l).1.length=l.length∧(fI e d i l).1.map (·.To)=l∧∀k (h:k<(fI e d i l).1.length) (h2:k<l.length),(fI e d i l).1[k]=gI l[k] (e+((i+k:Nat):Int)) d
 |[],i,_,_,_=>⟨rfl,rfl,rfl,fun k h _=>by simp[fI] at h⟩
 |p::l,i,hp,h1,h2=>by
  simp only[List.length_cons] at h2
  obtain⟨i1,i2,i3,i4⟩:=aL9 (e:=e) hd l (i+1) (fun q hq=>hp q (by simp[hq])) (by push_cast;omega) (by push_cast at h2 ⊢;omega)
  have hk:=hp p (by simp)
  have hq:=aFx hk
  have hw:IntKind.i64.wrap (e+(i:Int))=e+(i:Int):=aK (by omega) (by push_cast at h2;omega)
  have hpr:fF p≠0:=by
   unfold fF
   rw[hk,Bool.not_true,cond_false]
   omega
  have hb:fU p (IntKind.i64.wrap (e+(i:Int))) d=(gI p (e+(i:Int)) d,true):=by
   unfold fU
   rw[hw,beq_eq_false_iff_ne.2 hpr,show bE (e+(i:Int))=true from gG (by omega) (by push_cast at h2;omega),decide_eq_false (show ¬(d.length:Int)>200 by omega)];rfl
  have hu:fI e d i (p::l)=(gI p (e+(i:Int)) d::(fI e d (i+1) l).1,true):=by
   rw[fI,hb,i1];rfl
  rw[hu]
  refine⟨rfl,by simp[i2],?_,fun k hk1 hk2=> ?_⟩
  ·simp only[List.map_cons,i3];rfl
  ·cases k with
   |zero=>rfl
   |succ k=>
    simp only[List.length_cons] at hk1 hk2
    have:=i4 k (by omega) (by omega)
    simp only[List.getElem_cons_succ]
    rw[this];congr 1;push_cast;omega
theorem bBb {l:List D.Box}{p:Int}:∀(n:Int),0≤n→n+(l.length:Int)≤1000000→l.foldl (fun n b=>bif b.To==p then IntKind.i64.wrap (n+1) else n) n=n+((l.filter fun b=>b.To==p).length:Int):=by
 induction l with
 |nil=>intro n _ _;simp
 |cons b l ih=>
  intro n h0 h1
  simp only[List.length_cons] at h1
  push_cast at h1
  rw[List.foldl_cons,List.filter_cons]
  cases hb:b.To==p with
  |true=>
   rw[cond_true,aK (by omega) (by omega),if_pos rfl,ih (n+1) (by omega) (by omega),List.length_cons]
   push_cast;omega
  |false=>
   rw[cond_false,if_neg (by simp),ih n h0 (by omega)]
theorem aXp {l:List D.Box}(h:(l.map (·.To)).Nodup){p:Int}(hp:p∈l.map (·.To)):(l.filter fun b=>b.To==p).length=1:=by
 induction l with
 |nil=>simp at hp
 |cons b l ih=>
  simp only[List.map_cons,List.nodup_cons,List.mem_cons] at h hp
  rw[List.filter_cons]
  by_cases hb:b.To=p
  ·have hn:(l.filter fun b=>b.To==p)=[]:=by
    rw[List.filter_eq_nil_iff]
    intro c hc he
    exact h.1 (List.mem_map.2 ⟨c,hc,by rw[hb];exact eq_of_beq he⟩)
   rw[beq_iff_eq.2 hb,if_pos rfl,hn];rfl
  ·have hp2:p∈l.map (·.To):=by
    rcases hp with hp|hp
    ·exact absurd hp.symm hb
    ·exact hp
   rw[beq_eq_false_iff_ne.2 hb,if_neg (by simp)]
   exact ih h.2 hp2
theorem aMa {log:List D.aAA}{bx:D.aAG}(h1:bx.Epoch=aD log)(h2:bx.Boxes.map (·.To)=aB log)(h3:(aB log).Nodup)(h4:(aB log).length≤1000):iA bx log=true:=by
 have hl:bx.Boxes.length=(aB log).length:=by rw[←h2,List.length_map]
 unfold iA
 rw[h1,hl,beq_self_eq_true,beq_self_eq_true,Bool.and_self,Bool.true_and,List.all_eq_true]
 intro p hp
 unfold oO
 rw[bBb 0 (by omega) (by omega),aXp (by rw[h2];exact h3) (by rw[h2];exact hp)];rfl
theorem bEy (a b:Int):(gV [a,b]).length≤12:=by
 have h1:=Yg a
 have h2:=Yg b
 unfold gV
 simp only[List.map_cons,List.map_nil,List.flatten_cons,List.flatten_nil,List.append_nil,List.length_append];omega
theorem O8 {log:List D.aAA}{key eph:Int}(h1:aT log=true)(h2:bE key=true)(h3:∀p∈aB log,bE p=true)(h4:(aB log).length≤1000)(h5:1≤eph∧eph≤1000000):
  (aW log key eph).2=true∧(aW log key eph).1.Epoch=aD log∧(aW log key eph).1.Boxes.map (·.To)=aB log∧∀k (h:k<(aW log key eph).1.Boxes.length) (h2:k<(aB log).length),(aW log key eph).1.Boxes[k]=gI (aB log)[k] (eph+(k:Int)) (gV [aD log,key]):=by
 have hd:=bEy (aD log) key
 obtain⟨s1,s2,s3,s4⟩:=aL9 (e:=eph) (d:=gV [aD log,key]) (by omega) (aB log) 0 h3 (by omega) (by omega)
 have e:aW log key eph=(⟨aD log,(fI eph (gV [aD log,key]) 0 (aB log)).1⟩,true):=by
  unfold aW
  rw[h1,h2,s1];rfl
 rw[e]
 refine⟨rfl,rfl,s3,fun k hk hk2=> ?_⟩
 have:=s4 k hk hk2
 rw[Nat.zero_add] at this;exact this
end Go.VK

set_option maxRecDepth 100000
namespace Go.VK
theorem Yq (seed:Int)(k:Nat):bE (iZ seed k)=true:=by
 unfold iZ aN;exact aVf (Dz _)
theorem aQr {seed:Int}{n:Nat}(hn:n≤6):((List.range n).map (iZ seed)).Nodup:=by
 rw[List.nodup_iff_pairwise_ne,List.pairwise_map]
 refine(List.pairwise_lt_range).imp_of_mem ?_
 intro a b ha hb hab
 have ha:=List.mem_range.1 ha
 have hb:=List.mem_range.1 hb
 exact Oh (by omega) (by omega) (by omega)
theorem Sy {seed:Int}{n:Nat}(h0:1≤n)(hn:n≤6):iA (gB seed n) (aO seed n)=true∧aT (aO seed n)=true∧(gB seed n).Epoch=0:=by
 obtain⟨h1,h2,h3,h4,h5⟩:=iK seed n hn
 have hl:aT (aO seed n)=true:=h5.resolve_left (by omega)
 have hlen:(aB (aO seed n)).length≤1000:=by rw[h2,List.length_map,List.length_range];omega
 obtain⟨m1,m2,m3,m4⟩:=O8 (key:=bP seed 0) (eph:=1000) hl (by unfold bP;exact eZ _ _) (fun p hp=>by
  rw[h2] at hp
  obtain⟨i,_,rfl⟩:=List.mem_map.1 hp
  exact Yq _ _) hlen ⟨by decide,by decide⟩
 refine⟨aMa m2 m3 (by rw[h2];exact aQr hn) hlen,hl,?_⟩
 unfold gB;rw[m2,h4]
theorem aQs {seed:Int}{n:Nat}(h0:1≤n)(hn:n≤6):(gH seed n).Log=aO seed n:=by
 obtain⟨h1,h2,_⟩:=Sy (seed:=seed) h0 hn
 unfold gH
 rw[(nI _ _).2]
 unfold dW
 rw[h1,h2];rfl
theorem Jv (d:D.Device)(l:List D.aAA)(k:Int):(kD d l k).1.Store=d.Store:=by
 unfold kD
 cases !aT l||(!cO l d.Log||(decide (aD l<d.Epoch)|| !bE k))<;>rfl
theorem aJj (d:D.Device)(l:List D.aAA)(b:D.aAG)(s:D.aAC):(cK d l b s).1.Store=d.Store:=by
 unfold cK
 cases jL d l b s==0<;>rfl
theorem Sz (nm:ByteArray):∀(i:Nat) (d:D.Device),(Ac nm i d).Store=d.Store
 |0,d=>rfl
 |i+1,d=>by
  show(fB (Ac nm i d) nm (i:Int) false).1.Store=_
  rw[Dw,Sz nm i d]
theorem aXq {seed:Int}{n:Nat}(h0:1≤n):(gK seed n).length=n∧∀k (h:k<(gK seed n).length),(gK seed n)[k].Store=aL seed (k:Int):=by
 have hl:(gK seed n).length=n:=by
  unfold gK bX
  simp only[List.length_cons,List.length_map,List.length_drop,List.length_range];omega
 refine⟨hl,fun k hk=> ?_⟩
 cases k with
 |zero=>
  show(nwW seed n).1.Store=_
  unfold nwW
  rw[Ju]
  unfold jW rU
  rw[Sz,Sz,Jv];rfl
 |succ k=>
  have hk2:k<(((bX seed n).drop 1).map (oV seed n)).length:=by
   have:(gK seed n).length=(((bX seed n).drop 1).map (oV seed n)).length+1:=rfl
   omega
  show((((bX seed n).drop 1).map (oV seed n))[k]'hk2).Store=_
  rw[List.getElem_map]
  unfold oV rU
  rw[aJj,Jv,List.getElem_drop]
  unfold bX
  rw[List.getElem_map,List.getElem_range]
  unfold bG
  rw[show((1+k:Nat):Int)=((k+1:Nat):Int) by omega]
theorem aBh {n k t pin seed:Int}(h:Dp n k t pin seed=true):WIn n.toNat (aZ n k t pin seed)∧(aZ n k t pin seed).Devices.length=n.toNat∧(aZ n k t pin seed).Seed=seed:=by
 have hb:=h
 unfold Dp at hb
 simp only[Bool.and_eq_true] at hb
 obtain⟨b1,b2,b3,b4,b5⟩:=hb
 have r:=gW b1
 unfold aZ
 rw[h,cond_true]
 obtain⟨d1,d2⟩:=aXq (seed:=seed) (n:=n.toNat) (by omega)
 have hlog:=aQs (seed:=seed) (n:=n.toNat) (by omega) (by omega)
 have hok:=(Sy (seed:=seed) (n:=n.toNat) (by omega) (by omega)).2.1
 refine⟨{seed:=b5,now:=⟨Int.le_refl 0,show(0:Int)≤999900 by decide⟩,dlen:= ?_,slen:= ?_,dev:= ?_,two:=rfl,mle:=by omega,site:= ?_,mail:=rfl,log:= ?_},d1,rfl⟩
 ·show 1≤(gK seed n.toNat).length∧(gK seed n.toNat).length≤6;omega
 ·show(List.replicate n.toNat false).length=(gK seed n.toNat).length;rw[List.length_replicate,d1]
 ·intro j hj
  show StIn seed j ((gK seed n.toNat)[j]'hj).Store
  rw[d2 j hj]
  exact⟨rfl,rfl,rfl,Int.le_refl 0,show(0:Int)≤1000000 by decide⟩
 ·intro j hj
  show SiteIn seed (j:Int) n.toNat ((oU (bX seed n.toNat) seed)[j]'hj)
  match j,hj with
  |0,_=>exact aBg (.inl rfl) (by omega)
  |1,_=>exact aBg (.inr rfl) (by omega)
  |j+2,hj=>have:j+2<2:=hj;omega
 ·show aT (gH seed n.toNat).Log=true
  rw[hlog];exact hok
end Go.VK

set_option maxRecDepth 100000
namespace Go.VK
theorem SiteIn.cut {seed j:Int}{n:Nat}{s:D.Site}(h:SiteIn seed j n s)(t:Int):SiteIn seed j n (eH t s):=by
 have hf:=h.find
 obtain⟨l,e,hl,hn⟩:=h.acc
 have ea:dK s 0=⟨1,3,l⟩:=by unfold dK;rw[e];rfl
 unfold eH
 rw[hf,show decide ((0:Int)≥0)=true from rfl,cond_true,ea,show(0:Int).toNat=0 from rfl,e]
 have key:∃l',(kR ⟨1,3,l⟩ t).1=⟨1,3,l'⟩∧Dq seed j l'∧l'.length=l.length:=by
  unfold kR
  cases hb: !aU ⟨1,3,l⟩||(decide (aM ⟨1,3,l⟩ t<0)||(dU ⟨1,3,l⟩ (aM ⟨1,3,l⟩ t)).Cut) with
  |true=>exact⟨l,rfl,hl,rfl⟩
  |false=>
   simp only[Bool.or_eq_false_iff] at hb
   obtain⟨k,hk,e1,e2⟩:=rV (l:=l) hb.2.1
   have ef:aM ⟨1,3,l⟩ t=(k:Int):=e1.trans (by simp)
   have ec:dU ⟨1,3,l⟩ (k:Int)=l[k]:=by unfold dU;simp[List.getD,List.getElem?_eq_getElem hk]
   rw[ef,ec,cond_false,Int.toNat_natCast]
   exact⟨_,rfl,hl.set hk rfl rfl (hl k hk).2.2,List.length_set⟩
 obtain⟨l',q1,q2,q3⟩:=key
 rw[q1]
 have:=h.aBU q2 (q3.trans hn) s.Logins s.Book (Dt h.book) rfl
 exact this
theorem bGm {α β:Type}{P:Nat→β→Prop}{f:α→β}{l:List α}(h:∀j (hj:j<l.length),P j (f l[j])):∀j (hj:j<(l.map f).length),P j (l.map f)[j]:=fun j hj=>by
 rw[List.getElem_map];exact h j (by simpa using hj)
theorem WIn.cut {m:Nat}{w:D.World}(h:WIn m w)(b t:Int):WIn m (dJ w b t).1∧(dJ w b t).1.Seed=w.Seed∧(dJ w b t).1.Devices.length=w.Devices.length:=by
 unfold dJ
 cases hq:(aV w b 0).2==0&&(!bM w b&&(!(b==t)&&cB w t)) with
 |false=>exact⟨h,rfl,rfl⟩
 |true=>
  simp only[Bool.and_eq_true] at hq
  have h0:=(uQ hq.1).1
  simp only[cond_true]
  unfold mE
  cases(kI w b t).2&&((zJ w b t).2&&(Dk w b t).2) with
  |false=>exact⟨h,rfl,rfl⟩
  |true=>
   obtain⟨s1,s2,s3,s4,s5,s6⟩:=Og w b 0
   have hO:WIn m (fK w b):=h.sync b 0
   have h1:WIn m (kI w b t).1:=hO.aCT _ _ _ _
   obtain⟨a1,a2,a3,a4,a5,a6,a7⟩:=Du (fK w b) b 2 (aN (aF w t).Store) (iX (aF (fK w b) b).Store)
   have e1:(kI w b t).1.Devices=(fK w b).Devices:=a3
   have hd:aQ (kI w b t).1 b=true:=Sw h0.2 (by rw[e1];exact s3)
   obtain⟨d0,d1,_⟩:=nL hd
   have hst:StIn (kI w b t).1.Seed b.toNat (jZ (zJ w b t).1 t true).Store:=by
    rw[Su]
    unfold zJ
    rw[Jv]
    have:=h1.aCE hd
    have e2:aF (kI w b t).1 b=aF (fK w b) b:=by unfold aF;rw[e1]
    rw[e2] at this;exact this
   have hW:WIn m (Ot w b t):=by
    refine h1.upd rfl rfl (List.length_set ..) rfl (h1.aBR d1 hst) (by show((kI w b t).1.Sites.map (eH t)).length=2;rw[List.length_map];exact h1.two) (bGm (P:=fun j s=>SiteIn (kI w b t).1.Seed ((j:Nat):Int) m s) fun j hj=>(h1.site j hj).cut t) h1.mail h1.log
   have hdW:aQ (Ot w b t) b=true:=Sw hd (List.length_set ..)
   have h3:WIn m (Dk w b t).1:=hW.up hdW
   obtain⟨u1,u2,u3,u4,u5,u6⟩:=bDq (Ot w b t) b
   refine⟨h3.tell 4,?_,?_⟩
   ·show(Dk w b t).1.Seed=w.Seed
    exact u1.trans (a1.trans s1)
   ·show(Dk w b t).1.Devices.length=w.Devices.length
    refine u3.trans ?_
    show((kI w b t).1.Devices.set _ _).length=_
    rw[List.length_set,e1];exact s3
theorem WIn.aBS {m:Nat}{w:D.World}(h:WIn m w)(d:Int):WIn m (gU w d).1∧(gU w d).1.Seed=w.Seed∧(gU w d).1.Devices.length=w.Devices.length:=by
 unfold gU
 cases bU w d 0&& !bM w d with
 |false=>exact⟨h,rfl,rfl⟩
 |true=>exact⟨h.upd rfl rfl rfl (List.length_set ..) h.dev h.two h.site h.mail h.log,rfl,rfl⟩
theorem aF2 (w:D.World)(d j:Int)(o:D.aAK):(dY w d j o).1.Seed=w.Seed∧(dY w d j o).1.Devices.length=w.Devices.length:=by
 unfold dY
 cases !bU w d j with
 |true=>exact⟨rfl,rfl⟩
 |false=>
  cases !(eT w j).2.2.2 with
  |true=>exact⟨rfl,rfl⟩
  |false=>
   cases !((xQ w d j o).2.1==0) with
   |true=>exact⟨rfl,List.length_set ..⟩
   |false=>exact⟨rfl,List.length_set ..⟩
end Go.VK

set_option maxRecDepth 100000
namespace Go.VK
theorem Yr {α:Type}[Inhabited α]{f:α→Nat}{K:Nat}{x:α}:∀{l:List α} {i:Nat},i<l.length→f x≤f (l.getD i default)+K→((l.set i x).map f).sum≤(l.map f).sum+K
 |y::l,0,_,h=>by
  simp only[List.getD,List.getElem?_cons_zero,Option.getD_some] at h
  simp only[List.set_cons_zero,List.map_cons,List.sum_cons];omega
 |y::l,i+1,hi,h=>by
  have:=Yr (f:=f) (l:=l) (i:=i) (x:=x) (K:=K) (by simpa using hi) (by simpa[List.getD] using h)
  simp only[List.set_cons_succ,List.map_cons,List.sum_cons];omega
theorem Oi {w:D.World}{d:Int}(hd:aQ w d=true){x:D.Device}{K:Nat}(hx:x.sz≤(aF w d).sz+K):({w with Devices:=w.Devices.set d.toNat x}:D.World).sz≤w.sz+K:=by
 obtain⟨h0,h1,h2⟩:=nL hd
 have:=Yr (f:=D.Device.sz) (K:=K) h1 (by rw[←h2];exact hx)
 simp only[D.World.sz,List.length_set] at this ⊢;omega
theorem aS7 {w:D.World}{j:Nat}(hj:j<w.Sites.length){x:D.Site}{K:Nat}(hx:x.sz≤(w.Sites.getD j default).sz+K):({w with Sites:=w.Sites.set j x}:D.World).sz≤w.sz+K:=by
 have:=Yr (f:=D.Site.sz) (K:=K) hj hx
 simp only[D.World.sz,List.length_set] at this ⊢;omega
theorem WIn.aDD {m:Nat}{w:D.World}(h:WIn m w):w.aAB.Log.length≤40:=by
 have:=h.log
 unfold aT at this
 rw[Bool.and_eq_true] at this
 have:=gW this.1
 omega
theorem bBc {m:Nat}{w:D.World}(h:WIn m w)(d b:Int):(aV w d b).1.sz≤w.sz+60:=by
 have hl:=h.aDD
 unfold aV
 cases hb:bK w&&aQ w d with
 |false=>simp only[cond_false];omega
 |true=>
  rw[Bool.and_eq_true] at hb
  simp only[cond_true]
  have:=aFm (aF w d) w.aAB.Log w.aAB.Boxes (fG w.aAB b).1
  exact Oi hb.2 (by omega)
theorem add_add {w:D.World}(h:WIn w.Devices.length w)(b:Int):(iW w b).1.sz≤w.sz+2500:=by
 have hl:=h.aDD
 unfold iW
 cases hok:Yk w b with
 |false=>simp only[cond_false];omega
 |true=>
  unfold Yk at hok
  simp only[Bool.and_eq_true,Bool.not_eq_true',decide_eq_false_iff_not] at hok
  obtain⟨⟨k1,k2,k3,k4⟩,k5,k6,k7,k8,k9⟩:=hok
  obtain⟨s1,s2,s3,s4,s5,s6⟩:=Og w b 0
  have a0:=bBc h b 0
  have h0:=h.sync b 0
  have h1:WIn w.Devices.length (add1 w b).1:=h0.aCT _ _ _ _
  obtain⟨z1,z2,z3,z4⟩:=Yj (aV w b 0).1 b 1 (aN (aL w.Seed (w.Devices.length:Int))) (fun _=>(aF (aV w b 0).1 b).Key)
  rw[s6] at z1 z2
  have z1:(add1 w b).1.sz≤(aV w b 0).1.sz+14*(w.aAB.Log.length+1):=z1
  have z2:(add1 w b).1.aAB.Log.length≤w.aAB.Log.length+1:=z2
  have hd:aQ (add1 w b).1 b=true:=Sw k2 (by show(gJ _ _ _ _ _).1.Devices.length=_;rw[z3,s3])
  obtain⟨r1,r2⟩:=aLz (st:=aL w.Seed (w.Devices.length:Int)) (n:=(w.Devices.length:Int)) (j:=0) (l:=(add1 w b).1.Sites)
  have e2:=h1.two
  have hw2:(aAW w b).sz≤(add1 w b).1.sz+4:=by
   have q:=Oi (w:=(add1 w b).1) hd (x:=jZ (aF (add1 w b).1 b) (w.Devices.length:Int) false) (K:=2) (aNw _ _ _)
   unfold aAW aSw
   simp only[D.World.sz] at q ⊢
   omega
  have p1:=(aU9 (w:=aAW w b) (d:=b) k8).2
  have p1:(aFo w b).1.sz≤(aAW w b).sz+(aAW w b).aAB.Log.length+521:=p1
  have pl:=(aU9 (w:=aAW w b) (d:=b) k8).1
  have pl:(aFo w b).1.aAB.Log=(aAW w b).aAB.Log:=pl
  have e3:(aAW w b).aAB.Log.length=(add1 w b).1.aAB.Log.length:=rfl
  have ap:=bDk (aFo w b).1 (bG (aL w.Seed (w.Devices.length:Int)))
  have nd:(bG (aL w.Seed (w.Devices.length:Int))).sz=0:=rfl
  have f1:=(uQ (w:=appW (aFo w b).1 (bG (aL w.Seed (w.Devices.length:Int)))) k9).2.2.2
  have f1:(aQf w b).1.sz≤(appW (aFo w b).1 (bG (aL w.Seed (w.Devices.length:Int)))).sz+(aFo w b).1.aAB.Log.length+20:=f1
  have tl:=aNx (aQf w b).1 2
  simp only[cond_true]
  rw[pl,e3] at f1
  omega
theorem bDr {m:Nat}{w:D.World}(h:WIn m w)(b t:Int):(dJ w b t).1.sz≤w.sz+2500:=by
 have hl:=h.aDD
 unfold dJ
 cases hq:(aV w b 0).2==0&&(!bM w b&&(!(b==t)&&cB w t)) with
 |false=>simp only[cond_false];omega
 |true=>
  simp only[Bool.and_eq_true] at hq
  obtain⟨q1,q2,q3,q4⟩:=uQ hq.1
  simp only[cond_true]
  unfold mE
  cases(kI w b t).2&&((zJ w b t).2&&(Dk w b t).2) with
  |false=>simp only[cond_false];omega
  |true=>
   obtain⟨z1,z2,z3,z4⟩:=Yj (fK w b) b 2 (aN (aF w t).Store) (iX (aF (fK w b) b).Store)
   have e0:(fK w b).aAB.Log=w.aAB.Log:=by show(aV w b 0).1.aAB.Log=_;rw[q2]
   rw[e0] at z1 z2
   have z1:(kI w b t).1.sz≤(fK w b).sz+14*(w.aAB.Log.length+1):=z1
   have z3:(kI w b t).1.Devices=(fK w b).Devices:=z3
   have q4:(fK w b).sz≤w.sz+w.aAB.Log.length+20:=q4
   have hd:aQ (kI w b t).1 b=true:=Sw q1.2 (by rw[z3];exact q3)
   have hL:(Js w b t).length≤w.aAB.Log.length+1:=by
    unfold Js
    have:=vP (fK w b).aAB.Log 2 (aN (aF w t).Store) (aF (fK w b) b).Store
    rw[e0] at this ⊢;exact this
   have hdev:aF (kI w b t).1 b=aF (fK w b) b:=by unfold aF;rw[z3]
   have hx:(jZ (zJ w b t).1 t true).sz≤(aF (kI w b t).1 b).sz+(w.aAB.Log.length+3):=by
    have x1:=aNw (zJ w b t).1 t true
    have x2:=aFp (aF (fK w b) b) (Js w b t) (iX (aF (fK w b) b).Store (Js w b t))
    have x2:(zJ w b t).1.sz≤(aF (fK w b) b).sz+(Js w b t).length:=x2
    rw[hdev];omega
   have hW:(Ot w b t).sz≤(kI w b t).1.sz+(w.aAB.Log.length+3):=by
    have q:=Oi (w:=(kI w b t).1) hd hx
    have c:=aQi t (kI w b t).1.Sites
    unfold Ot
    simp only[D.World.sz,List.length_map] at q ⊢
    omega
   have hdW:aQ (Ot w b t) b=true:=Sw hd (List.length_set ..)
   have u:=(bEw (w:=Ot w b t) hdW).2.2
   have u:(Dk w b t).1.sz≤(Ot w b t).sz+501:=u
   have tl:=aNx (Dk w b t).1 4
   simp only[cond_true]
   omega
end Go.VK

set_option maxRecDepth 100000
namespace Go.VK
structure Kept (w v:D.World):Prop where
 wi:WIn v.Devices.length v
 seed:v.Seed=w.Seed
 sz:v.sz≤w.sz+3000
theorem Kept.of {w v:D.World}(h:WIn w.Devices.length v∧v.Seed=w.Seed∧v.Devices.length=w.Devices.length)(hz:v.sz≤w.sz+3000):Kept w v:=⟨by rw[h.2.2];exact h.1,h.2.1,hz⟩
theorem aXr (s:D.Site)(c t:Int)(x:D.aAL)(h:aC s 1=0)(h0:0<s.Accounts.length):(jN s 1 c t x).1.sz≤s.sz+1:=by
 have hb:(kS s.Book c 1 t).1.Open.length≤s.Book.Open.length:=by
  unfold kS
  cases !dV s.Book||decide (dC s.Book c<0) with
  |true=>exact Nat.le_refl _
  |false=>simp only[cond_false,List.length_append,List.length_take,List.length_drop];omega
 have hu:∀a x z q,(eQ a x z q).1.sz=a.sz:=fun a x z q=>by
  unfold eQ
  cases !aU a||(decide (aM a x.Handle<0)||(dU a (aM a x.Handle)).Cut) with
  |true=>rfl
  |false=>
   simp only[cond_false,D.aAF.sz]
   cases dQ (dU a (aM a x.Handle)).Public x z q (dU a (aM a x.Handle)).Counter==0<;>cases dQ (dU a (aM a x.Handle)).Public x z q (dU a (aM a x.Handle)).Counter==4<;>simp
 have hs:=Yr (f:=D.aAF.sz) (K:=0) (l:=s.Accounts) (i:=0) (x:=(eQ (dK s 0) x s.Name (dH s.Book c)).1) h0 (by rw[hu];exact Nat.le_refl _)
 unfold jN
 rw[h]
 cases !bL s||decide ((0:Int)<0) with
 |true=>exact Nat.le_succ _
 |false=>
  simp only[cond_false]
  cases !(kS s.Book c 1 t).2 with
  |true=>simp only[cond_true,D.Site.sz];omega
  |false=>
   simp only[cond_false]
   cases !mF (dK s 0) 3 with
   |true=>simp only[cond_true,D.Site.sz];omega
   |false=>
    simp only[cond_false]
    cases !((eQ (dK s 0) x s.Name (dH s.Book c)).2==0) with
    |true=>simp only[cond_true,D.Site.sz,show(0:Int).toNat=0 from rfl,List.length_set];omega
    |false=>simp only[cond_false,D.Site.sz,show(0:Int).toNat=0 from rfl,List.length_set,List.length_append,List.length_cons,List.length_nil];omega
theorem aXs (s:D.Site)(i n:Int):(gT s i n).1.sz≤s.sz+1:=by
 unfold gT
 cases bL s&&(!decide (aC s i<0)&&(dO s.Book i n).2.2) with
 |false=>exact Nat.le_succ _
 |true=>
  have hb:(dO s.Book i n).1.Open.length≤s.Book.Open.length+1:=by
   unfold dO
   cases dV s.Book&&(!(s.Book.Next==1000000)&&(bR i 0 1000000&&bR n 0 1000000)) with
   |false=>simp only[cond_false];omega
   |true=>
    simp only[cond_true]
    cases decide ((s.Book.Open.length:Int)≥16) with
    |true=>simp only[cond_true,List.length_append,List.length_drop,List.length_cons,List.length_nil];omega
    |false=>simp only[cond_false,List.length_append,List.length_cons,List.length_nil];omega
  simp only[cond_true,D.Site.sz];omega
theorem aMb {m:Nat}{w:D.World}(h:WIn m w)(d j:Int)(o:D.aAK):(dY w d j o).1.sz≤w.sz+3:=by
 unfold dY
 cases ht:bU w d j with
 |false=>simp only[Bool.not_false,cond_true];omega
 |true=>
  have ht2:=ht
  simp only[bU,Bool.and_eq_true] at ht2
  have h2:=h.two
  have hq:=ht2.2.2
  simp only[iE,Bool.and_eq_true,decide_eq_true_eq] at hq
  have hj:j.toNat<w.Sites.length:=by omega
  have es:dA w j=w.Sites[j.toNat]:=by unfold dA;simp[List.getD,List.getElem?_eq_getElem hj]
  have hs:=h.site _ hj
  rw[←es,show((j.toNat:Nat):Int)=j by omega] at hs
  have hb:SiteIn w.Seed j m (eT w j).1:=hs.begin 1 w.Now
  have z1:(eT w j).1.sz≤(dA w j).sz+1:=aXs _ _ _
  obtain⟨l,ea,_⟩:=hb.acc
  have z2:(xQ w d j o).1.sz≤(eT w j).1.sz+1:=aXr _ _ _ _ hb.find (by rw[ea];simp)
  have hw:(aB1 w d j o).sz≤w.sz+2:=by
   have q1:=Oi (w:=w) ht2.2.1 (x:={aF w d with Store:=(mQ w d j o).1}) (K:=0) (Nat.le_refl _)
   have q2:=aS7 (w:=w) hj (x:=(xQ w d j o).1) (K:=2) (by show _≤(dA w j).sz+2;omega)
   unfold aB1
   simp only[D.World.sz] at q1 q2 ⊢
   omega
  simp only[Bool.not_true,cond_false]
  cases !(eT w j).2.2.2 with
  |true=>simp only[cond_true];omega
  |false=>
   simp only[cond_false]
   cases !((xQ w d j o).2.1==0) with
   |true=>simp only[cond_true];omega
   |false=>have:=aNx (aB1 w d j o) 1;simp only[cond_false];omega
end Go.VK

set_option maxRecDepth 100000
namespace Go.VK
theorem O9 {b:List Int}{p:Nat}{h:Int}{t:List Int}(e:b.drop p=h::t):p<b.length∧b.getD p 0=h∧b.drop (p+1)=t:=by
 have hp:p<b.length:=by
  have:=congrArg List.length e
  rw[List.length_drop,List.length_cons] at this;omega
 rw[List.drop_eq_getElem_cons hp] at e
 injection e with e1 e2
 exact⟨hp,by simp[List.getD,List.getElem?_eq_getElem hp,e1],e2⟩
theorem split_mul (r P:Int):r*P=r/128*(P*128)+r%128*P:=by
 have h:128*(r/128)+r%128=r:=Int.mul_ediv_add_emod r 128
 conv=>lhs;rw[←h]
 rw[Int.add_mul,Int.mul_comm 128,Int.mul_assoc,Int.mul_comm 128 P]
theorem aVh {b y:List Int}{p:Nat}:∀(k i:Nat) (n r:Int),b.drop (p+i)=J6 k r++y→0≤r→r<128^(k+1)→(0<i→r≠0)→0≤n→n+r*128^i≤1000000000000→
  uvG b p (k+1) i n=(n+r*128^i,((p+i+(J6 k r).length:Nat):Int),true)
 |0,i,n,r,hd,h0,h1,hi,hn,hm=>by
  obtain⟨d1,d2,d3⟩:=O9 (show b.drop (p+i)=r::y from hd)
  have hr:r<128:=by simpa using h1
  unfold uvG
  rw[if_pos d1,d2,decide_eq_true hr,cond_true,show r%128=r by omega,decide_eq_false (show ¬n+r*128^i>1000000000000 by omega),Bool.or_false]
  have:(decide (0<i)&&r==0)=false:=by
   by_cases hz:0<i
   ·rw[beq_eq_false_iff_ne.2 (hi hz),Bool.and_false]
   ·rw[decide_eq_false hz,Bool.false_and]
  rw[this];rfl
 |k+1,i,n,r,hd,h0,h1,hi,hn,hm=>by
  have hp:(0:Int)≤128^i:=Int.pow_nonneg (by decide)
  have hs:=split_mul r (128^i)
  have hpow:(128:Int)^(i+1)=128^i*128:=Int.pow_succ ..
  unfold J6 at hd ⊢
  by_cases hb:r>127
  ·rw[decide_eq_true hb,cond_true] at hd ⊢
   obtain⟨d1,d2,d3⟩:=O9 (show b.drop (p+i)=(r%128+128)::(J6 k (r/128)++y) from hd)
   have hq:(r/128)<128^(k+1):=by
    have:(128:Int)^(k+1+1)=128^(k+1)*128:=Int.pow_succ ..
    omega
   have hx:0≤r%128*128^i:=Int.mul_nonneg (by omega) hp
   have ih:=aVh k (i+1) (n+r%128*128^i) (r/128) (by rw[show p+(i+1)=p+i+1 by omega];exact d3) (by omega) hq (fun _=>by omega) (by omega) (by rw[hpow];omega)
   rw[uvG,if_pos d1,d2,decide_eq_false (show ¬r%128+128<128 by omega),cond_false,show(r%128+128)%128=r%128 by omega,ih,hpow]
   simp only[List.length_cons,Prod.mk.injEq,and_true]
   constructor
   ·omega
   ·congr 1;omega
  ·rw[decide_eq_false hb,cond_false] at hd ⊢
   obtain⟨d1,d2,d3⟩:=O9 (show b.drop (p+i)=r::y from hd)
   unfold uvG
   rw[if_pos d1,d2,decide_eq_true (show r<128 by omega),cond_true,show r%128=r by omega,decide_eq_false (show ¬n+r*128^i>1000000000000 by omega),Bool.or_false]
   have:(decide (0<i)&&r==0)=false:=by
    by_cases hz:0<i
    ·rw[beq_eq_false_iff_ne.2 (hi hz),Bool.and_false]
    ·rw[decide_eq_false hz,Bool.false_and]
   rw[this];rfl
theorem aVi {x y:List Int}{n:Int}(h:0≤n∧n≤1000000000000):zM (x++(enc1 n++y)) (x.length:Int)=(n,((x.length+(enc1 n).length:Nat):Int),true):=by
 have e:=aDw h
 unfold zM
 rw[if_neg (by omega),Int.toNat_natCast,e]
 have hp:(128:Int)^(5+1)=4398046511104:=by decide
 have:=aVh (b:=x++(J6 5 n++y)) (y:=y) (p:=x.length) 5 0 0 n (by simp) h.1 (by omega) (fun h=>by omega) (by decide) (by simp;omega)
 rw[this];simp
theorem aF3:∀(t x y s:List Int),aJh t→jR (x++(gV t++y)) t.length (x.length:Int) s=(s++t,((x.length+(gV t).length:Nat):Int),true)
 |[],x,y,s,_=>by simp[jR,gV]
 |n::t,x,y,s,h=>by
  have hn:=h n (by simp)
  have hu:=aVi (x:=x) (y:=gV t++y) hn
  rw[qU,List.append_assoc]
  show jR _ (t.length+1) _ _=_
  rw[jR,hu]
  simp only[cond_true]
  have ih:=aF3 t (x++enc1 n) y (s++[n]) (fun v hv=>h v (by simp[hv]))
  rw[List.length_append,List.append_assoc] at ih
  rw[ih]
  simp[Nat.add_assoc]
theorem aF4:∀l:List D.Entry,lS (jA l)=l∧nC (jA l)=true
 |[]=>⟨rfl,rfl⟩
 |e::l=>by
  obtain⟨h1,h2⟩:=aF4 l
  have hf:jA (e::l)=aP9 e++jA l:=by simp[jA]
  rw[hf]
  obtain⟨s,h,v,d⟩:=e
  cases d with
  |true=>exact⟨by show(⟨s,h,v,(1:Int)==1⟩:D.Entry)::lS (jA l)=_;rw[h1];rfl,by show(decide ((1:Int)≤1)&&nC (jA l))=true;rw[h2];rfl⟩
  |false=>exact⟨by show(⟨s,h,v,(0:Int)==1⟩:D.Entry)::lS (jA l)=_;rw[h1];rfl,by show(decide ((0:Int)≤1)&&nC (jA l))=true;rw[h2];rfl⟩
theorem aXt {b:D.aAE}(h:aP b=true):∀e∈b.Entries,(0≤e.Site∧e.Site≤2147483646)∧(0≤e.Handle∧e.Handle≤1000000)∧(1≤e.Version∧e.Version≤1000000):=fun e he=>by
 unfold aP at h
 rw[Bool.and_eq_true,Bool.not_eq_true'] at h
 obtain⟨i,hi,rfl⟩:=List.mem_iff_getElem.1 he
 have:=Sr h.2 i hi
 unfold aNs at this
 simp only[Bool.or_eq_false_iff,Bool.not_eq_false'] at this
 have h1:=gW this.1
 have h2:=gW this.2.1
 have h3:=gW this.2.2.1
 exact⟨⟨h1.1,by omega⟩,⟨h2.1,by omega⟩,⟨h3.1,by omega⟩⟩
theorem bDs {b:D.aAE}(h:aP b=true):aJh (pU b):=fun v hv=>by
 have hl:=nH h
 unfold pU at hv
 rcases List.mem_append.1 hv with hv|hv
 ·rw[List.mem_singleton.1 hv];omega
 ·unfold jA at hv
  obtain⟨e,he,hv⟩:=List.mem_flatMap.1 hv
  obtain⟨h1,h2,h3⟩:=aXt h e he
  unfold aP9 at hv
  simp only[List.mem_cons,List.not_mem_nil,or_false] at hv
  rcases hv with rfl|rfl|rfl|rfl
  ·omega
  ·omega
  ·omega
  ·cases e.Deleted<;>simp
theorem aXu {b:D.aAE}(h:aP b=true):Qv (nT b)=(b,true):=by
 have hl:=nH h
 have hv:=bDs h
 have he:nT b=enc1 (b.Entries.length:Int)++gV (jA b.Entries):=by
  unfold nT pU
  rw[h,cond_true];rfl
 have hu:zM (nT b) 0=((b.Entries.length:Int),(((enc1 (b.Entries.length:Int)).length:Nat):Int),true):=by
  have:=aVi (x:=[]) (y:=gV (jA b.Entries)) (n:=(b.Entries.length:Int)) (by omega)
  rw[List.nil_append,←he] at this
  simpa using this
 have hd:=aF3 (jA b.Entries) (enc1 (b.Entries.length:Int)) [] [] (fun v hv'=>hv v (by unfold pU;simp[hv']))
 rw[List.append_nil,←he,uX,List.nil_append] at hd
 have hend:(((enc1 (b.Entries.length:Int)).length+(gV (jA b.Entries)).length:Nat):Int)=((nT b).length:Int):=by rw[he,List.length_append]
 obtain⟨e1,e2⟩:=aF4 b.Entries
 unfold Qv
 rw[hu,show(4*(b.Entries.length:Int)).toNat=4*b.Entries.length by omega,hd,decide_eq_false (show ¬(b.Entries.length:Int)>20 by omega)]
 unfold aU8
 simp only[hend,e1,e2]
 rw[h];simp
theorem aN0 {α β:Type}{y:Nat→α→β}:∀{l:List α} {i k:Nat} (h:k<l.length) (h2:k<(Gj (fun i x=>[y i x]) i l).length),(Gj (fun i x=>[y i x]) i l)[k]=y (i+k) l[k]
 |x::l,i,0,_,_=>rfl
 |x::l,i,k+1,h,h2=>by
  have:=aN0 (y:=y) (l:=l) (i:=i+1) (k:=k) (by simpa using h) (by rw[oM];simpa using h)
  rw[show i+1+k=i+(k+1) by omega] at this
  exact this
theorem aQt {k:Int}{d:List Int}(h:∀z∈d,0≤z∧z≤255):O0 k (lT k d)=d:=by
 apply List.ext_getElem
 ·unfold O0 lT;rw[oM,oM]
 ·intro i h1 h2
  have h3:i<(lT k d).length:=by unfold lT;rw[oM];exact h2
  have e1:(O0 k (lT k d))[i]=aNq k (0+i) (lT k d)[i]:=aN0 h3 h1
  have e2:(lT k d)[i]=aQb k (0+i) d[i]:=aN0 h2 h3
  rw[e1,e2]
  have hz:=h d[i] (List.getElem_mem h2)
  unfold aNq aQb
  generalize bH k [((0+i:Nat):Int)]=q
  rw[IntKind.wrap_u8,IntKind.wrap_u8]
  omega
theorem aXv {k e v:Int}{b:D.aAE}(hk:bE k=true)(he:0≤e∧e≤1000000)(hv:0≤v∧v≤1000000)(hb:aP b=true):iO k (eU k e v b)=(b,true):=by
 have hm:(eU k e v b).MAC=lN k (eU k e v b):=by simp only[eU,lN]
 unfold iO
 rw[hm,bne_self_eq_false,hk,show(eU k e v b).Epoch=e from rfl,show(eU k e v b).Version=v from rfl,gG he.1 he.2,gG hv.1 hv.2]
 show Qv (O0 (lQ k e v) (lT (lQ k e v) (nT b)))=(b,true)
 rw[aQt (Jo (aFl b)),aXu hb]
theorem bBd {p e:Int}{d:List Int}(hp:bE p=true)(he:bE e=true)(hl:d.length≤200)(hd:∀z∈d,0≤z∧z≤255):gQ p (gI (dI p) e d)=(d,true):=by
 have e1:(gI (dI p) e d).To=dI p:=rfl
 have e2:(gI (dI p) e d).Ephemeral=e:=rfl
 have e3:(gI (dI p) e d).Data=lT (iR p e) d:=by unfold gI;rw[Ad hp]
 have e4:(gI (dI p) e d).MAC=aB0 (iR p e) (gI (dI p) e d):=by unfold gI aB0;rw[Ad hp]
 unfold gQ
 rw[e2,e1,e4,hp,he,e3,Jp,bne_self_eq_false,bne_self_eq_false,decide_eq_false (show ¬(d.length:Int)>200 by omega),aQt hd];rfl
theorem aS8 {p:Int}{b:D.Box}(h:b.To≠dI p):(gQ p b).2=false:=by
 unfold gQ
 rw[bne,beq_eq_false_iff_ne.2 h]
 cases bE p<;>rfl
theorem aF5 {p:Int}{d:List Int}(hp:bE p=true)(hl:d.length≤200)(hd:∀z∈d,0≤z∧z≤255):∀{bs:List D.Box} {k:Nat} (hk:k<bs.length),(∀j (hj:j<bs.length),j<k→bs[j].To≠dI p)→(∃e,bE e=true∧bs[k]=gI (dI p) e d)→iD bs p=(d,true)
 |b::bs,0,_,_,⟨e,he,hb⟩=>by
  have hb:b=gI (dI p) e d:=hb
  rw[iD,hb,bBd hp he hl hd];rfl
 |b::bs,k+1,hk,hn,⟨e,he,hb⟩=>by
  have h0:b.To≠dI p:=hn 0 (by simp) (by omega)
  rw[iD,aS8 h0,cond_false]
  exact aF5 hp hl hd (by simpa using hk) (fun j hj hjk=>hn (j+1) (by simpa using hj) (by omega)) ⟨e,he,hb⟩
end Go.VK

set_option maxRecDepth 100000
namespace Go.VK
structure BoxIn (log:List D.aAA) (bx:D.aAG) (key:Int):Prop where
 ep:bx.Epoch=aD log
 to:bx.Boxes.map (·.To)=aB log
 nd:(aB log).Nodup
 kok:bE key=true
 box:∀k (h:k<bx.Boxes.length),∃e,bE e=true∧bx.Boxes[k]=gI bx.Boxes[k].To e (gV [aD log,key])
 eps:0≤aD log∧aD log≤40
theorem bGn {k:Int}(h:bE k=true):0≤k∧k≤1000000000000:=by have:=aFx h;omega
theorem aN1 {log:List D.aAA}{bx:D.aAG}{key:Int}(h:BoxIn log bx key){s:D.aAH}(hs:aN s∈aB log):bW s bx=(key,true):=by
 obtain⟨h1,h2,h3,h4,h5,h6⟩:=h
 rw[←h2] at hs h3
 obtain⟨k,hk,e⟩:=List.mem_iff_getElem.1 hs
 have hk2:k<bx.Boxes.length:=by simpa using hk
 have e:bx.Boxes[k].To=dI (gM s):=by
  rw[List.getElem_map] at e;rw[e];rfl
 have hd:(gV [aD log,key]).length≤12:=bEy _ _
 have hf:iD bx.Boxes (gM s)=(gV [aD log,key],true):=by
  refine aF5 (Dz s) (by omega) (Sk _) hk2 (fun j hj hjk he=> ?_) ?_
  ·have:=List.pairwise_iff_getElem.1 h3 j k (by simpa using hj) (by simpa using hk2) hjk
   rw[List.getElem_map,List.getElem_map] at this
   exact this (by rw[he,e])
  ·obtain⟨q,hq,hb⟩:=h5 k hk2
   rw[e] at hb
   exact⟨q,hq,hb⟩
 have hdec:lD (gV [aD log,key]) 0 2=([aD log,key],((gV [aD log,key]).length:Int),true):=by
  have:=aF3 [aD log,key] [] [] [] (fun v hv=>by
   simp only[List.mem_cons,List.not_mem_nil,or_false] at hv
   rcases hv with rfl|rfl
   ·omega
   ·exact bGn h4)
  simp only[List.nil_append,List.append_nil,List.length_nil,Nat.zero_add] at this
  unfold lD
  rw[show bR 2 0 100=true from rfl,gG (by omega) (by omega)]
  exact this
 unfold bW Sg
 rw[hf,hdec]
 show(bif !true||(!true||(((gV [aD log,key]).length:Int) !=((gV [aD log,key]).length:Int)||(aD log !=bx.Epoch|| !bE key))) then(0,false) else(key,true))=(key,true)
 rw[bne_self_eq_false,h1,bne_self_eq_false,h4];rfl
theorem aF6 {log:List D.aAA}{bx:D.aAG}{key:Int}(h:BoxIn log bx key)(hl:aT log=true){d:D.Device}(he:cO log d.Log=true)(hs:aN d.Store∈aB log)
  {e v:Int} {b:D.aAE} (hv:0≤v∧v≤1000000) (hb:aP b=true) (hep:e=aD log) (ho:d.Epoch<e∨(d.Epoch=e∧d.Version≤v)) (hm:(iB d.aAE b).2=true):
  cK d log bx (eU key e v b)=(⟨d.Store,log,key,e,v,(iB d.aAE b).1⟩,0):=by
 have ho1:=aN1 h hs
 have he2:=h.eps
 have hop:iO key (eU key e v b)=(b,true):=aXv h.kok (by omega) hv hb
 have hbad:jL d log bx (eU key e v b)=0:=by
  unfold jL
  rw[hl,he,iF.2 hs,ho1,h.ep,hop,hm,bne_self_eq_false,show(eU key e v b).Epoch=e from rfl,show(eU key e v b).Version=v from rfl]
  have:(decide (e<aD log)||(decide (e<d.Epoch)||(e==d.Epoch&&decide (v<d.Version))))=false:=by
   rw[decide_eq_false (show ¬e<aD log by omega),decide_eq_false (show ¬e<d.Epoch by omega),Bool.false_or,Bool.false_or]
   rcases ho with ho|ho
   ·rw[beq_eq_false_iff_ne.2 (show e≠d.Epoch by omega),Bool.false_and]
   ·rw[decide_eq_false (show ¬v<d.Version by omega),Bool.and_false]
  rw[this];rfl
 unfold cK
 rw[hbad,ho1,hop];rfl
theorem aQu (log:List D.aAA):cO log []=true:=by
 unfold cO;simp[jB]
theorem bBe (a:D.aAA):aW7 a a=true:=by
 unfold aW7;simp
theorem xX (log r:List D.aAA):cO (log++r) log=true:=by
 unfold cO
 rw[decide_eq_true (by simp),Bool.true_and,Bool.not_eq_true']
 exact Jt fun k hk=>by
  rw[Nat.zero_add,Bool.not_eq_false']
  have:(log++r).getD k default=log[k]:=by simp[List.getD,List.getElem?_append_left hk,List.getElem?_eq_getElem hk]
  rw[this];exact bBe _
theorem aQv (log:List D.aAA):cO log log=true:=by simpa using xX log []
theorem aQw {seed:Int}{n:Nat}(h0:1≤n)(hn:n≤6):BoxIn (aO seed n) (gB seed n) (bP seed 0):=by
 obtain⟨h1,h2,h3,h4,h5⟩:=iK seed n hn
 have hl:aT (aO seed n)=true:=h5.resolve_left (by omega)
 have hlen:(aB (aO seed n)).length≤1000:=by rw[h2,List.length_map,List.length_range];omega
 have hk:bE (bP seed 0)=true:=by unfold bP;exact eZ _ _
 obtain⟨m1,m2,m3,m4⟩:=O8 (key:=bP seed 0) (eph:=1000) hl hk (fun p hp=>by
  rw[h2] at hp
  obtain⟨i,_,rfl⟩:=List.mem_map.1 hp
  exact Yq _ _) hlen ⟨by decide,by decide⟩
 have hnd:(aB (aO seed n)).Nodup:=by rw[h2];exact aQr hn
 refine⟨m2,m3,hnd,hk,fun k hk'=> ?_,by rw[h4];exact⟨by decide,by decide⟩⟩
 have hlb:(gB seed n).Boxes.length=(aB (aO seed n)).length:=by
  have:=congrArg List.length m3
  rw[List.length_map] at this;exact this
 have hk2:k<(aB (aO seed n)).length:=by omega
 have hb:=m4 k hk' hk2
 have hto:(gB seed n).Boxes[k].To=(aB (aO seed n))[k]:=by
  show(aW (aO seed n) (bP seed 0) 1000).1.Boxes[k].To=_
  rw[hb];rfl
 refine⟨1000+(k:Int),gG (by omega) (by omega),?_⟩
 rw[hto];exact hb
end Go.VK

set_option maxRecDepth 100000
namespace Go.VK
def nwB:Nat→D.aAE
 |1=>⟨[⟨1464438180,0,1,false⟩,⟨1941999745,0,1,false⟩]⟩
 |2=>⟨[⟨1464438180,0,1,false⟩,⟨1464438180,1,1,false⟩,⟨1941999745,0,1,false⟩,⟨1941999745,1,1,false⟩]⟩
 |3=>⟨[⟨1464438180,0,1,false⟩,⟨1464438180,1,1,false⟩,⟨1464438180,2,1,false⟩,⟨1941999745,0,1,false⟩,⟨1941999745,1,1,false⟩,⟨1941999745,2,1,false⟩]⟩
 |_=>⟨[]⟩
def Er (seed:Int)(n k:Nat)(v:Int)(b:D.aAE):D.Device:=⟨aL seed (k:Int),aO seed n,bP seed 0,0,v,b⟩
theorem bBf {seed:Int}{n:Nat}(h0:1≤n)(hn:n≤6)(k:Nat):rU seed n (bG (aL seed (k:Int)))=Er seed n k 0 ⟨[]⟩:=by
 obtain⟨h1,h2,h3,h4,h5⟩:=iK seed n hn
 have hl:aT (aO seed n)=true:=h5.resolve_left (by omega)
 have hk:bE (bP seed 0)=true:=by unfold bP;exact eZ _ _
 unfold rU kD bG
 rw[hl,aQu,hk,h4];rfl
theorem bH8 {n:Nat}(h:n=1∨n=2∨n=3)(s:D.aAH)(l:List D.aAA)(k e v:Int):Ac (aA 1) n (Ac (aA 0) n ⟨s,l,k,e,v,⟨[]⟩⟩)=⟨s,l,k,e,v,nwB n⟩:=by
 rcases h with rfl|rfl|rfl<;>kernel_rfl
theorem aS9 {n:Nat}(h:n=1∨n=2∨n=3):aP (nwB n)=true∧iB ⟨[]⟩ (nwB n)=(nwB n,true)∧iB (nwB n) (nwB n)=(nwB n,true):=by
 rcases h with rfl|rfl|rfl<;>exact⟨by kernel_rfl,by kernel_rfl,by kernel_rfl⟩
theorem aXw {seed:Int}{n:Nat}(h:n=1∨n=2∨n=3):jW seed n=Er seed n 0 0 (nwB n):=by
 unfold jW
 rw[show(0:Int)=((0:Nat):Int) from rfl,bBf (by omega) (by omega)]
 exact bH8 h _ _ _ _ _
theorem bBg {seed:Int}{n:Nat}(h:n=1∨n=2∨n=3):nwW seed n=(Er seed n 0 1 (nwB n),eU (bP seed 0) 0 1 (nwB n),true):=by
 have hk:bE (bP seed 0)=true:=by unfold bP;exact eZ _ _
 unfold nwW
 rw[aXw h]
 unfold dF tJ Er
 simp only[]
 rw[show IntKind.i64.wrap (0+1)=1 from by decide,hk,(aS9 h).1];rfl
theorem aF7 {seed:Int}{n k:Nat}(h:n=1∨n=2∨n=3)(hk:k<n):oV seed n (bG (aL seed (k:Int)))=Er seed n k 1 (nwB n):=by
 obtain⟨h1,h2,h3,h4,h5⟩:=iK seed n (by omega)
 obtain⟨b1,b2,b3⟩:=aS9 h
 unfold oV
 rw[bBf (by omega) (by omega),bBg h]
 rw[aF6 (aQw (by omega) (by omega)) (h5.resolve_left (by omega)) (d:=Er seed n k 0 ⟨[]⟩) (aQv _) (by
  rw[h2];exact List.mem_map.2 ⟨k,List.mem_range.2 hk,rfl⟩) ⟨by decide,by decide⟩ b1 h4.symm (.inr ⟨rfl,by show(0:Int)≤1;decide⟩) (by show(iB ⟨[]⟩ (nwB n)).2=true;rw[b2])]
 show(D.Device.mk (aL seed (k:Int)) (aO seed n) (bP seed 0) 0 1 (iB ⟨[]⟩ (nwB n)).1)=_
 rw[b2];rfl
theorem aBi {seed:Int}{n:Nat}(h:n=1∨n=2∨n=3):gK seed n=(List.range n).map fun k=>Er seed n k 1 (nwB n):=by
 unfold gK bX
 rw[bBg h]
 rcases h with rfl|rfl|rfl
 ·rfl
 ·show[_,oV seed 2 (bG (aL seed ((1:Nat):Int)))]=_
  rw[aF7 (.inr (.inl rfl)) (by decide)];rfl
 ·show[_,oV seed 3 (bG (aL seed ((1:Nat):Int))),oV seed 3 (bG (aL seed ((2:Nat):Int)))]=_
  rw[aF7 (.inr (.inr rfl)) (by decide),aF7 (.inr (.inr rfl)) (by decide)];rfl
theorem P5 {seed:Int}{n:Nat}(h:n=1∨n=2∨n=3):gH seed n=⟨aO seed n,gB seed n,[eU (bP seed 0) 0 1 (nwB n)]⟩:=by
 obtain⟨h1,h2,_⟩:=Sy (seed:=seed) (n:=n) (by omega) (by omega)
 have h4:=(iK seed n (by omega)).ep
 have e:dW (aO seed n) (gB seed n)=(⟨aO seed n,gB seed n,[]⟩,true):=by
  unfold dW;rw[h1,h2];rfl
 unfold gH
 rw[e,bBg h]
 show(cZ ⟨aO seed n,gB seed n,[]⟩ (eU (bP seed 0) 0 1 (nwB n))).1=_
 unfold cZ
 rw[show(eU (bP seed 0) 0 1 (nwB n)).Epoch=0 from rfl,h4];rfl
end Go.VK

set_option maxRecDepth 100000
namespace Go.VK
theorem aQx (w:D.World)(d j:Int)(o:D.aAK):(dY w d j o).1.Hosts=w.Hosts:=by
 unfold dY
 cases !bU w d j with
 |true=>rfl
 |false=>
  cases !(eT w j).2.2.2 with
  |true=>rfl
  |false=>cases !((xQ w d j o).2.1==0)<;>rfl
theorem Ea (w:D.World)(d b:Int):(aV w d b).1.Hosts=w.Hosts:=by
 unfold aV
 cases bK w&&aQ w d<;>rfl
theorem aQy (w:D.World)(d:Int):(O1 w d).1.Hosts=w.Hosts:=by
 unfold O1
 cases(dF (aF w d)).2.2&&(cZ w.aAB (dF (aF w d)).2.1).2<;>rfl
theorem aTa (w:D.World)(d:Int):(zY w d).1.Hosts=w.Hosts:=by
 unfold zY
 cases(aV w d 0).2==0&&(O1 (aV w d 0).1 d).2 with
 |false=>rfl
 |true=>exact(aQy _ _).trans (Ea _ _ _)
theorem aBj (w:D.World)(b k p:Int)(key:List D.aAA→Int):(gJ w b k p key).1.Hosts=w.Hosts:=by
 unfold gJ
 simp only[]
 generalize dD w.aAB.Log k p (aF w b).Store=l
 generalize aW l.1 (key l.1) (IntKind.i64.wrap (1000+IntKind.i64.wrap (10*(l.1.length:Int))))=e
 cases l.2&&(e.2&&(iP w.aAB l.1 e.1).2)<;>rfl
theorem aXx (w:D.World)(b:Int):(iW w b).1.Hosts=w.Hosts:=by
 unfold iW
 cases Yk w b with
 |false=>rfl
 |true=>
  show(aQf w b).1.Hosts=w.Hosts
  have h3:(aFo w b).1.Hosts=w.Hosts:=by
   unfold aFo
   rw[aTa]
   exact(aBj _ _ _ _ _).trans (Ea _ _ _)
  unfold aQf
  first
   |exact h3
   |exact(Ea _ _ _).trans h3
theorem aQz (w:D.World)(d:Int):(gU w d).1.Hosts=w.Hosts:=by
 unfold gU
 cases bU w d 0&& !bM w d<;>rfl
theorem aXy (w:D.World)(b t:Int):(dJ w b t).1.Hosts=w.Hosts:=by
 unfold dJ
 generalize((aV w b 0).2==0&&(!bM w b&&(!(b==t)&&cB w t)))=q
 cases q with
 |false=>rfl
 |true=>
  show(mE w b t).1.Hosts=w.Hosts
  have h1:(kI w b t).1.Hosts=w.Hosts:=(aBj _ _ _ _ _).trans (Ea _ _ _)
  have h3:(Dk w b t).1.Hosts=w.Hosts:=(aQy _ _).trans h1
  unfold mE
  cases(kI w b t).2&&((zJ w b t).2&&(Dk w b t).2) with
  |false=>rfl
  |true=>exact h3
theorem bBh (w:D.World)(d:Int):(gU w d).1.sz=w.sz:=by
 unfold gU
 cases bU w d 0&& !bM w d with
 |false=>rfl
 |true=>simp only[cond_true,D.World.sz,List.length_set]
structure KeptH (w v:D.World):Prop where
 kept:Kept w v
 hosts:v.Hosts.length≤w.Hosts.length
theorem KeptH.of {w v:D.World}(h:Kept w v)(e:v.Hosts=w.Hosts):KeptH w v:=⟨h,by rw[e];exact Nat.le_refl _⟩
end Go.VK

set_option maxRecDepth 100000
namespace Go.VK
def same (s h:Int)(e:D.Entry):Bool:=e.Site==s&&e.Handle==h
def lk (l:List D.Entry)(s h:Int):Option D.Entry:=l.find? (same s h)
def bBi:Option D.Entry→Option D.Entry→Option D.Entry
 |none,y=>y
 |some e,none=>some e
 |some e,some x=>some (xU e x)
theorem same_iff {s h:Int}{e:D.Entry}:same s h e=true↔e.Site=s∧e.Handle=h:=by simp[same]
theorem aMc (e:D.Entry):same e.Site e.Handle e=true:=same_iff.2 ⟨rfl,rfl⟩
theorem Oj {a b:D.Entry}(h:eO a b=true):¬(a.Site=b.Site∧a.Handle=b.Handle):=by rw[uW] at h;omega
theorem nW:∀(n:Nat) {a b:List D.Entry} {e:D.Entry},a.length+b.length≤n→e∈bJ a b→e∈a∨e∈b
 |_,[],b,e,_,h=>by rw[jS] at h;exact .inr h
 |_,a::xs,[],e,_,h=>by rw[eX] at h;exact .inl h
 |0,a::xs,b::bs,e,h,_=>by simp at h
 |n+1,a::xs,b::bs,e,hn,h=>by
  simp only[List.length_cons] at hn
  rw[vN] at h
  cases h1:eO a b with
  |true=>
   rw[h1,cond_true] at h
   rcases List.mem_cons.1 h with rfl|h
   ·exact .inl (List.mem_cons_self ..)
   ·rcases nW n (by simp only[List.length_cons];omega) h with h|h
    ·exact .inl (List.mem_cons_of_mem _ h)
    ·exact .inr h
  |false=>
   rw[h1,cond_false] at h
   cases h2:eO b a with
   |true=>
    rw[h2,cond_true] at h
    rcases List.mem_cons.1 h with rfl|h
    ·exact .inr (List.mem_cons_self ..)
    ·rcases nW n (by simp only[List.length_cons];omega) h with h|h
     ·exact .inl h
     ·exact .inr (List.mem_cons_of_mem _ h)
   |false=>
    rw[h2,cond_false] at h
    rcases List.mem_cons.1 h with rfl|h
    ·rcases aUz a b with e|e
     ·rw[e];exact .inl (List.mem_cons_self ..)
     ·rw[e];exact .inr (List.mem_cons_self ..)
    ·rcases nW n (by omega) h with h|h
     ·exact .inl (List.mem_cons_of_mem _ h)
     ·exact .inr (List.mem_cons_of_mem _ h)
theorem Ol:∀(n:Nat) {a b:List D.Entry},a.length+b.length≤n→srt a→srt b→srt (bJ a b)
 |_,[],b,_,_,h=>by rw[jS];exact h
 |_,a::xs,[],_,h,_=>by rw[eX];exact h
 |0,a::xs,b::bs,h,_,_=>by simp at h
 |n+1,a::xs,b::bs,hn,ha,hb=>by
  simp only[List.length_cons] at hn
  obtain⟨a1,a2⟩:=List.pairwise_cons.1 ha
  obtain⟨b1,b2⟩:=List.pairwise_cons.1 hb
  rw[vN]
  cases h1:eO a b with
  |true=>
   rw[cond_true]
   refine List.pairwise_cons.2 ⟨fun y hy=> ?_,Ol n (by simp only[List.length_cons];omega) a2 hb⟩
   rcases nW _ (Nat.le_refl _) hy with hy|hy
   ·exact a1 y hy
   ·rcases List.mem_cons.1 hy with rfl|hy
    ·exact h1
    ·exact lL h1 (b1 y hy)
  |false=>
   rw[cond_false]
   cases h2:eO b a with
   |true=>
    rw[cond_true]
    refine List.pairwise_cons.2 ⟨fun y hy=> ?_,Ol n (by simp only[List.length_cons];omega) ha b2⟩
    rcases nW _ (Nat.le_refl _) hy with hy|hy
    ·rcases List.mem_cons.1 hy with rfl|hy
     ·exact h2
     ·exact lL h2 (a1 y hy)
    ·exact b1 y hy
   |false=>
    rw[cond_false]
    have hk:=vM h1 h2
    have hp:=Yd hk
    refine List.pairwise_cons.2 ⟨fun y hy=> ?_,Ol n (by omega) a2 b2⟩
    rw[zW hp]
    rcases nW _ (Nat.le_refl _) hy with hy|hy
    ·rw[←zW hk];exact a1 y hy
    ·exact b1 y hy
theorem xY (a:D.Entry)(l:List D.Entry)(s h:Int):lk (a::l) s h=bif same s h a then some a else lk l s h:=by
 unfold lk;rw[List.find?_cons];cases same s h a<;>rfl
theorem aN2 {l:List D.Entry}{s h:Int}(hl:∀e∈l,same s h e=false):lk l s h=none:=by
 unfold lk;rw[List.find?_eq_none];intro x hx;rw[hl x hx];exact Bool.false_ne_true
theorem aF8 {l:List D.Entry}{s h:Int}{e:D.Entry}(hl:lk l s h=some e):e∈l∧e.Site=s∧e.Handle=h:=by
 unfold lk at hl
 exact⟨List.mem_of_find?_eq_some hl,same_iff.1 (List.find?_some hl)⟩
theorem bDt {a:D.Entry}{l:List D.Entry}(hs:srt (a::l)){s h:Int}(ha:same s h a=true):∀e∈l,same s h e=false:=fun e he=>by
 have:=Oj ((List.pairwise_cons.1 hs).1 e he)
 rw[Bool.eq_false_iff,Ne,same_iff]
 have h2:=same_iff.1 ha
 exact fun q=>this ⟨h2.1.trans q.1.symm,h2.2.trans q.2.symm⟩
theorem bEz {l:List D.Entry}(hs:srt l){e:D.Entry}(he:e∈l):lk l e.Site e.Handle=some e:=by
 induction l with
 |nil=>simp at he
 |cons a l ih=>
  rw[xY]
  rcases List.mem_cons.1 he with rfl|he
  ·rw[aMc];rfl
  ·cases hq:same e.Site e.Handle a with
   |true=>have:=bDt hs hq e he;rw[aMc] at this;cases this
   |false=>exact ih (List.pairwise_cons.1 hs).2 he
theorem aXz {a b:D.Entry}(hk:a.Site=b.Site∧a.Handle=b.Handle)(s h:Int):same s h (xU a b)=same s h b:=by
 have:=Yd hk
 unfold same;rw[this.1,this.2]
theorem Yt:∀(n:Nat) {a b:List D.Entry},a.length+b.length≤n→srt a→srt b→∀s h,lk (bJ a b) s h=bBi (lk a s h) (lk b s h)
 |_,[],b,_,_,_,s,h=>by rw[jS];rfl
 |_,a::xs,[],_,_,_,s,h=>by
  rw[eX]
  show _=bBi (lk (a::xs) s h) none
  cases lk (a::xs) s h<;>rfl
 |0,a::xs,b::bs,h,_,_,_,_=>by simp at h
 |n+1,a::xs,b::bs,hn,ha,hb,s,h=>by
  simp only[List.length_cons] at hn
  obtain⟨a1,a2⟩:=List.pairwise_cons.1 ha
  obtain⟨b1,b2⟩:=List.pairwise_cons.1 hb
  rw[vN]
  cases h1:eO a b with
  |true=>
   rw[cond_true,xY,xY a xs,Yt n (by simp only[List.length_cons];omega) a2 hb]
   cases hq:same s h a with
   |false=>rfl
   |true=>
    have hno:lk (b::bs) s h=none:=aN2 fun e he=>by
     have he:eO a e=true:=by
      rcases List.mem_cons.1 he with rfl|he
      ·exact h1
      ·exact lL h1 (b1 e he)
     have:=Oj he
     have h2:=same_iff.1 hq
     rw[Bool.eq_false_iff,Ne,same_iff]
     exact fun q=>this ⟨h2.1.trans q.1.symm,h2.2.trans q.2.symm⟩
    rw[hno];rfl
  |false=>
   rw[cond_false]
   cases h2:eO b a with
   |true=>
    rw[cond_true,xY,xY b bs,Yt n (by simp only[List.length_cons];omega) ha b2]
    cases hq:same s h b with
    |false=>rfl
    |true=>
     have hno:lk (a::xs) s h=none:=aN2 fun e he=>by
      have he:eO b e=true:=by
       rcases List.mem_cons.1 he with rfl|he
       ·exact h2
       ·exact lL h2 (a1 e he)
      have:=Oj he
      have h2:=same_iff.1 hq
      rw[Bool.eq_false_iff,Ne,same_iff]
      exact fun q=>this ⟨h2.1.trans q.1.symm,h2.2.trans q.2.symm⟩
     rw[hno];rfl
   |false=>
    have hk:=vM h1 h2
    rw[cond_false,xY,xY a xs,xY b bs,Yt n (by omega) a2 b2,aXz hk]
    have:same s h a=same s h b:=by unfold same;rw[hk.1,hk.2]
    rw[this]
    cases same s h b<;>rfl
theorem lkM {a b:List D.Entry}(ha:srt a)(hb:srt b)(s h:Int):lk (bJ a b) s h=bBi (lk a s h) (lk b s h):=Yt _ (Nat.le_refl _) ha hb s h
theorem bJ1 {a b:List D.Entry}(ha:srt a)(hb:srt b):srt (bJ a b):=Ol _ (Nat.le_refl _) ha hb
def rk (e:D.Entry):Int:=2*e.Version+(bif e.Deleted then 1 else 0)
theorem bH9 {x e:D.Entry}(hk:x.Site=e.Site∧x.Handle=e.Handle)(h:rk x=rk e):x=e:=by
 obtain⟨s,hh,v,d⟩:=x
 obtain⟨s2,h2,v2,d2⟩:=e
 simp only[rk] at h hk
 obtain⟨rfl,rfl⟩:=hk
 cases d<;>cases d2<;>simp at h ⊢<;>omega
theorem aQ0 {x e:D.Entry}:nG x e=true↔rk e<rk x∨(rk e=rk x∧x.Deleted=true):=by
 unfold nG rk
 simp only[Bool.or_eq_true,Bool.and_eq_true,decide_eq_true_eq,beq_iff_eq]
 cases x.Deleted<;>cases e.Deleted<;>simp only[cond_true,cond_false,Bool.false_eq_true,and_false,and_true,or_false]<;>omega
theorem bDu {e x:D.Entry}(hk:x.Site=e.Site∧x.Handle=e.Handle):xU e x=if rk e<rk x then x else e:=by
 unfold xU
 by_cases h:rk e<rk x
 ·rw[if_pos h,aQ0.2 (.inl h)];rfl
 ·rw[if_neg h]
  cases hn:nG x e with
  |false=>rfl
  |true=>
   rcases aQ0.1 hn with q|q
   ·exact absurd q h
   ·exact bH9 hk q.1.symm
def Sub (a b:List D.Entry):Prop:=∀e∈a,∃x∈b,x.Site=e.Site∧x.Handle=e.Handle∧rk e≤rk x
theorem Sub.refl (a:List D.Entry):Sub a a:=fun e he=>⟨e,he,rfl,rfl,Int.le_refl _⟩
theorem Sub.trans {a b c:List D.Entry}(h:Sub a b)(k:Sub b c):Sub a c:=fun e he=>by
 obtain⟨x,hx,x1,x2,x3⟩:=h e he
 obtain⟨y,hy,y1,y2,y3⟩:=k x hx
 exact⟨y,hy,y1.trans x1,y2.trans x2,Int.le_trans x3 y3⟩
theorem Sub.left {a b:List D.Entry}(ha:srt a)(hb:srt b):Sub a (bJ a b):=fun e he=>by
 have h1:=lkM ha hb e.Site e.Handle
 rw[bEz ha he] at h1
 cases hq:lk b e.Site e.Handle with
 |none=>
  rw[hq] at h1
  exact⟨e,(aF8 h1).1,rfl,rfl,Int.le_refl _⟩
 |some x=>
  rw[hq] at h1
  obtain⟨m1,m2,m3⟩:=aF8 h1
  obtain⟨_,q2,q3⟩:=aF8 hq
  refine⟨_,m1,m2,m3,?_⟩
  rw[bDu ⟨q2,q3⟩]
  split<;>omega
theorem bBk {α:Type}[BEq α][LawfulBEq α]:∀{l S:List α},l.Nodup→(∀x∈l,x∈S)→l.length≤S.length
 |[],S,_,_=>by simp
 |x::l,S,hn,hs=>by
  obtain⟨h1,h2⟩:=List.nodup_cons.1 hn
  have hx:=hs x (List.mem_cons_self ..)
  have:=bBk (l:=l) (S:=S.erase x) h2 fun y hy=>by
   have hne:y≠x:=fun e=>h1 (e▸hy)
   exact(List.mem_erase_of_ne hne).2 (hs y (List.mem_cons_of_mem _ hy))
  rw[List.length_erase_of_mem hx] at this
  have:0<S.length:=List.length_pos_of_mem hx
  simp only[List.length_cons];omega
structure KeyS (S:List (Int×Int)):Prop where
 len:S.length≤20
 rg:∀p∈S,(0≤p.1∧p.1≤2147483646)∧(0≤p.2∧p.2≤1000000)
structure BunIn (S:List (Int×Int)) (V:Int) (b:List D.Entry):Prop where
 st:srt b
 key:∀e∈b,(e.Site,e.Handle)∈S
 ver:∀e∈b,1≤e.Version∧e.Version≤V
theorem BunIn.mono {S:List (Int×Int)}{V W:Int}{b:List D.Entry}(h:BunIn S V b)(hv:V≤W):BunIn S W b:=⟨h.st,h.key,fun e he=>⟨(h.ver e he).1,Int.le_trans (h.ver e he).2 hv⟩⟩
theorem BunIn.nil (S:List (Int×Int))(V:Int):BunIn S V []:=⟨List.Pairwise.nil,fun e he=>by simp at he,fun e he=>by simp at he⟩
theorem BunIn.len {S:List (Int×Int)}{V:Int}{b:List D.Entry}(h:BunIn S V b):b.length≤S.length:=by
 have hn:(b.map fun e=>(e.Site,e.Handle)).Nodup:=by
  rw[List.nodup_iff_pairwise_ne,List.pairwise_map]
  exact h.st.imp fun {a b} hk (e:(a.Site,a.Handle)=(b.Site,b.Handle))=>Oj hk ⟨congrArg Prod.fst e,congrArg Prod.snd e⟩
 have:=bBk hn fun p hp=>by
  obtain⟨e,he,rfl⟩:=List.mem_map.1 hp
  exact h.key e he
 rwa [List.length_map] at this
theorem BunIn.ok {S:List (Int×Int)}{V:Int}{b:List D.Entry}(hS:KeyS S)(hV:V≤1000000)(h:BunIn S V b):aP ⟨b⟩=true:=by
 have hl:=h.len
 have:=hS.len
 unfold aP
 rw[decide_eq_true (show((⟨b⟩:D.aAE).Entries.length:Int)≤20 by show(b.length:Int)≤20;omega),Bool.true_and,Bool.not_eq_true']
 refine Jt fun k hk=> ?_
 have hk:k<b.length:=hk
 show aNs b (0+k) b[k]=false
 have hm:=List.getElem_mem hk
 have r:=hS.rg _ (h.key _ hm)
 have v:=h.ver _ hm
 unfold aNs
 rw[gG r.1.1 r.1.2,gG r.2.1 r.2.2,gG v.1 (by omega)]
 simp only[Bool.not_true,Bool.false_or,Nat.zero_add]
 by_cases h0:0<k
 ·have:b.getD (k-1) default=b[k-1]'(by omega):=by rw[List.getD,List.getElem?_eq_getElem (by omega),Option.getD_some]
  rw[this,List.pairwise_iff_getElem.1 h.st (k-1) k (by omega) hk (by omega)];simp
 ·rw[decide_eq_false (by omega)];rfl
theorem BunIn.merge {S:List (Int×Int)}{V:Int}{a b:List D.Entry}(ha:BunIn S V a)(hb:BunIn S V b):BunIn S V (bJ a b):=
 ⟨bJ1 ha.st hb.st,fun e he=>(nW _ (Nat.le_refl _) he).elim (ha.key e) (hb.key e),fun e he=>(nW _ (Nat.le_refl _) he).elim (ha.ver e) (hb.ver e)⟩
theorem aX0 {S:List (Int×Int)}{V:Int}{a b:D.aAE}(hS:KeyS S)(hV:V≤1000000)(ha:BunIn S V a.Entries)(hb:BunIn S V b.Entries):iB a b=(⟨bJ a.Entries b.Entries⟩,true):=by
 unfold iB
 rw[show aP a=true from ha.ok hS hV,show aP b=true from hb.ok hS hV,(ha.merge hb).ok hS hV];rfl
end Go.VK

set_option maxRecDepth 100000
namespace Go.VK
theorem aD2 {l:List D.Entry}(hs:srt l)(s h:Int):(aJ ⟨l⟩ s h<0∧lk l s h=none)∨(0≤aJ ⟨l⟩ s h∧∃e,lk l s h=some e∧l.getD (aJ ⟨l⟩ s h).toNat default=e∧(aJ ⟨l⟩ s h).toNat<l.length):=by
 by_cases hf:aJ ⟨l⟩ s h<0
 ·exact .inl ⟨hf,aN2 fun e he=>Jm (p:=same s h) hf e he⟩
 ·refine .inr ⟨by omega,?_⟩
  obtain⟨l1,e,l2,e1,e2,e3⟩:=Nv (p:=same s h) (l:=l) (i:=0) (by show 0≤aJ ⟨l⟩ s h;omega)
  have e3:aJ ⟨l⟩ s h=((0+l1.length:Nat):Int):=e3
  have hm:e∈l:=by rw[e1];simp
  have:=bEz hs hm
  have h2:=same_iff.1 e2
  rw[h2.1,h2.2] at this
  refine⟨e,this,?_,?_⟩
  ·rw[e3,e1];simp
  ·rw[e3,e1];simp
theorem bBl {x e:D.Entry}(h:x.Version>e.Version):nG x e=true:=by
 unfold nG;rw[decide_eq_true h];rfl
theorem aMd {l:List D.Entry}(hs:srt l){x:D.Entry}(h:∀e,lk l x.Site x.Handle=some e→x.Version>e.Version):(uO ⟨l⟩ x).Entries=bJ l [x]:=by
 rw[←aP1 hs]
 rcases aD2 hs x.Site x.Handle with⟨h1,h2⟩|⟨h1,e,h2,h3,h4⟩
 ·rw[decide_eq_true h1];rfl
 ·rw[h3,bBl (h e h2),Bool.or_true];rfl
theorem bGo (x:D.Entry):srt [x]:=List.pairwise_cons.2 ⟨fun y hy=>by simp at hy,List.Pairwise.nil⟩
theorem BunIn.one {S:List (Int×Int)}{V:Int}{x:D.Entry}(hk:(x.Site,x.Handle)∈S)(hv:1≤x.Version∧x.Version≤V):BunIn S V [x]:=
 ⟨bGo x,fun e he=>by rw[List.mem_singleton.1 he];exact hk,fun e he=>by rw[List.mem_singleton.1 he];exact hv⟩
def Es (l:List D.Entry)(s h:Int):Bool:=match lk l s h with|some e=> !e.Deleted|none=>false
def aBE (l:List D.Entry)(s h:Int):Int:=match lk l s h with|some e=>e.Version|none=>0
theorem BunIn.aBE {S:List (Int×Int)}{V:Int}{l:List D.Entry}(h:BunIn S V l)(hV:0≤V)(s q:Int):0≤aBE l s q∧aBE l s q≤V:=by
 unfold VK.aBE
 cases hq:lk l s q with
 |none=>exact⟨Int.le_refl _,hV⟩
 |some e=>have:=h.ver e (aF8 hq).1;show 0≤e.Version∧e.Version≤V;omega
theorem bGp {S:List (Int×Int)}{V:Int}(hS:KeyS S)(hV:0≤V∧V<1000000){b:D.aAE}(h:BunIn S V b.Entries){s q:Int}(hk:(s,q)∈S):
  aJf b s q=bif Es b.Entries s q then(b,false) else(⟨bJ b.Entries [⟨s,q,aBE b.Entries s q+1,false⟩]⟩,true):=by
 obtain⟨l⟩:=b
 have h:BunIn S V l:=h
 have hv:=h.aBE hV.1 s q
 have hpv:(aJ ⟨l⟩ s q<0→lk l s q=none)∧Sj ⟨l⟩ s q=⟨s,q,aBE l s q+1,false⟩:=by
  unfold Sj bDd
  rcases aD2 h.st s q with⟨h1,h2⟩|⟨h1,e,h2,h3,h4⟩
  ·refine⟨fun _=>h2,?_⟩
   rw[decide_eq_false (by omega)];unfold aBE;rw[h2];rfl
  ·refine⟨fun h0=>by omega,?_⟩
   have hve:aBE l s q=e.Version:=by unfold aBE;rw[h2]
   show(⟨s,q,bif decide (aJ ⟨l⟩ s q≥0) then IntKind.i64.wrap ((l.getD (aJ ⟨l⟩ s q).toNat default).Version+1) else 1,false⟩:D.Entry)=_
   rw[decide_eq_true h1,h3,cond_true,hve,aK (by omega) (by omega)]
 have hset:(uO ⟨l⟩ (Sj ⟨l⟩ s q))=⟨bJ l [⟨s,q,aBE l s q+1,false⟩]⟩:=by
  rw[hpv.2]
  have:(uO ⟨l⟩ ⟨s,q,aBE l s q+1,false⟩).Entries=bJ l [⟨s,q,aBE l s q+1,false⟩]:=aMd h.st fun e he=>by
   have:aBE l s q=e.Version:=by unfold aBE;rw[show lk l s q=some e from he]
   show aBE l s q+1>e.Version;omega
  rw[←this]
 have hok:aP ⟨bJ l [⟨s,q,aBE l s q+1,false⟩]⟩=true:=((h.mono (W:=V+1) (by omega)).merge (.one (x:=⟨s,q,aBE l s q+1,false⟩) hk ⟨by show 1≤aBE l s q+1;omega,by show aBE l s q+1≤V+1;omega⟩)).ok hS (by omega)
 unfold aJf
 rw[hset,hok,h.ok hS (by omega)]
 rcases aD2 h.st s q with⟨h1,h2⟩|⟨h1,e,h2,h3,h4⟩
 ·rw[decide_eq_false (show ¬aJ ⟨l⟩ s q≥0 by omega)]
  unfold Es;rw[h2];rfl
 ·rw[decide_eq_true (show aJ ⟨l⟩ s q≥0 from h1)]
  show(bif !(true&& !(l.getD (aJ ⟨l⟩ s q).toNat default).Deleted)&&(true&&true) then _ else _)=_
  have hl:Es l s q= !e.Deleted:=by unfold Es;rw[h2]
  show _=bif Es l s q then _ else _
  rw[h3,hl]
  cases e.Deleted<;>rfl
theorem bGq {S:List (Int×Int)}{V:Int}(hS:KeyS S)(hV:0≤V∧V<1000000){b:D.aAE}(h:BunIn S V b.Entries){s q:Int}:
  aJg b s q=bif Es b.Entries s q then(⟨bJ b.Entries [⟨s,q,aBE b.Entries s q+1,true⟩]⟩,true) else(b,false):=by
 obtain⟨l⟩:=b
 have h:BunIn S V l:=h
 have hv:=h.aBE hV.1 s q
 unfold aJg
 rw[h.ok hS (by omega)]
 rcases aD2 h.st s q with⟨h1,h2⟩|⟨h1,e,h2,h3,h4⟩
 ·rw[decide_eq_true (show aJ ⟨l⟩ s q<0 by omega)]
  unfold Es;rw[h2];rfl
 ·have hve:aBE l s q=e.Version:=by unfold aBE;rw[h2]
  have he:=h.ver e (aF8 h2).1
  have hd:aW6 ⟨l⟩ s q=⟨s,q,aBE l s q+1,true⟩:=by
   unfold aW6
   show(⟨s,q,IntKind.i64.wrap ((l.getD (aJ ⟨l⟩ s q).toNat default).Version+1),true⟩:D.Entry)=_
   rw[h3,hve,aK (by omega) (by omega)]
  have hset:(uO ⟨l⟩ (aW6 ⟨l⟩ s q))=⟨bJ l [⟨s,q,aBE l s q+1,true⟩]⟩:=by
   rw[hd]
   have:(uO ⟨l⟩ ⟨s,q,aBE l s q+1,true⟩).Entries=bJ l [⟨s,q,aBE l s q+1,true⟩]:=aMd h.st fun e' he'=>by
    have:aBE l s q=e'.Version:=by unfold aBE;rw[show lk l s q=some e' from he']
    show aBE l s q+1>e'.Version;omega
   rw[←this]
  rw[hset,decide_eq_false (show ¬aJ ⟨l⟩ s q<0 by omega)]
  show(bif !true||(false||((l.getD (aJ ⟨l⟩ s q).toNat default).Deleted||(l.getD (aJ ⟨l⟩ s q).toNat default).Version==1000000)) then _ else _)=_
  have hl:Es l s q= !e.Deleted:=by unfold Es;rw[h2]
  show _=bif Es l s q then _ else _
  rw[h3,beq_eq_false_iff_ne.2 (show e.Version≠1000000 by omega),hl]
  cases e.Deleted<;>rfl
structure ChgIn (S:List (Int×Int)) (V:Int) (d x:D.Device):Prop where
 store:x.Store=d.Store
 log:x.Log=d.Log
 key:x.Key=d.Key
 ep:x.Epoch=d.Epoch
 ver:x.Version=d.Version
 bun:BunIn S V x.aAE.Entries
 sub:Sub d.aAE.Entries x.aAE.Entries
theorem ChgIn.rfl' {S:List (Int×Int)}{V W:Int}{d:D.Device}(h:BunIn S V d.aAE.Entries)(hv:V≤W):ChgIn S W d d:=⟨rfl,rfl,rfl,rfl,rfl,h.mono hv, .refl _⟩
theorem ChgIn.trans {S:List (Int×Int)}{V W:Int}{a b c:D.Device}(h:ChgIn S V a b)(k:ChgIn S W b c):ChgIn S W a c:=
 ⟨k.store.trans h.store,k.log.trans h.log,k.key.trans h.key,k.ep.trans h.ep,k.ver.trans h.ver,k.bun,h.sub.trans k.sub⟩
theorem aMe {S:List (Int×Int)}{V:Int}(hS:KeyS S)(hV:0≤V∧V<1000000){d:D.Device}(h:BunIn S V d.aAE.Entries){n:ByteArray}{q:Int}(hk:(bB n,q)∈S)(rm:Bool):ChgIn S (V+1) d (fB d n q rm).1:=by
 have hv:=h.aBE hV.1 (bB n) q
 unfold fB uP
 have one:∀f,BunIn S (V+1) (bJ d.aAE.Entries [⟨bB n,q,aBE d.aAE.Entries (bB n) q+1,f⟩]):=fun f=>(h.mono (by omega)).merge (.one hk ⟨by show 1≤aBE _ _ _+1;omega,by show aBE _ _ _+1≤V+1;omega⟩)
 cases rm with
 |true=>
  rw[cond_true,bGq hS hV h]
  cases Es d.aAE.Entries (bB n) q with
  |true=>exact⟨rfl,rfl,rfl,rfl,rfl,one _, .left h.st (bGo _)⟩
  |false=>exact .rfl' h (by omega)
 |false=>
  rw[cond_false,bGp hS hV h hk]
  cases Es d.aAE.Entries (bB n) q with
  |false=>exact⟨rfl,rfl,rfl,rfl,rfl,one _, .left h.st (bGo _)⟩
  |true=>exact .rfl' h (by omega)
theorem bBm {S:List (Int×Int)}{V:Int}(hS:KeyS S)(hV:0≤V∧V+1<1000000){d:D.Device}(h:BunIn S V d.aAE.Entries){q:Int}(h0:(bB (aA 0),q)∈S)(h1:(bB (aA 1),q)∈S)(rm:Bool):ChgIn S (V+2) d (jZ d q rm):=by
 unfold jZ
 have c1:=aMe hS (by omega) h h0 rm
 exact c1.trans (by have:=aMe hS (V:=V+1) (by omega) c1.bun h1 rm;rwa [show V+1+1=V+2 by omega] at this)
end Go.VK
