import Derived.Test.YtlnjelnfjgjanaaGreatDoorLKatoi
/- What holds in all worlds that events lead to: plain laws over the pure definitions, no program in sight. The conditions stand in each. -/
set_option linter.all false
set_option maxRecDepth 100000
namespace Go.VK
section
variable {S:List (Int×Int)} {t m:Nat} {w:D.World} {K v:Int} {r:List D.aAA} {b:D.aAC}
def at_set {l:List D.Device}{x:D.Device}{c d:Int}(hc:0<=c)(hd:0<=d)(h:d≠c):(l.set c.toNat x).getD d.toNat default=l.getD d.toNat default:=by
 rw[List.getD,List.getD,bj (by omega)]
def aQy {l:List D.Device}{x:D.Device}{c:Nat}(hc:c<l.length):(l.set c x).getD c default=x:=by
 rw[List.getD,bg hc];rfl
def bEx {w:D.World}{K v:Int}{b:D.aAC}{d:Int}(hd:aL w d=true):aK (aBP w K v b d) d=aT0 w K v b (aK w d)/\∀c,aL w c=true->c≠d->aK (aBP w K v b d) c=aK w c:=by
 obtain⟨d0,d1,_⟩:=rH hd
 refine⟨aQy d1,λc hc hne=> ?_⟩
 obtain⟨c0,_,_⟩:=rH hc
 exact at_set d0 c0 hne
def Net.aBO (h:Net S t m w K v r b){t':Nat}{u:D.World}{K' v':Int}{r':List D.aAA}{b':D.aAC}(h':Net S t' m u K' v' r' b')(e1:u.Devices.length=w.Devices.length)(e2:u.Seed=w.Seed)(e3:u.aAE.Log=w.aAE.Log)(c:Int):cZ u c=cZ w c:=by
 have hh:aL u c=aL w c:=by unfold aL;rw[e1]
 cases hd:aL w c with
 |false=>unfold cZ;rw[hh,hd];rfl
 |true=>rw[h.aDL hd,h'.aDL (hh.trans hd),e2,e3]
def aIc (hS:KeyS S):∀(l:List Int) (t:Nat) (w:D.World) (v:Int) (r:List D.aAA) (b:D.aAC),Net S t m w K v r b->(∀d∈l,cZ w d=true)->t+l.length<=900000->r.length+l.length<=58->
  ∃u v' r' b',gP l w=(u,true)/\(Net S (t+l.length) m u K v' r' b'/\r'.length=r.length+l.length)/\u.aAE.Log=w.aAE.Log/\u.Seed=w.Seed/\u.Stolen=w.Stolen/\u.Devices.length=w.Devices.length/\u.Sites=w.Sites/\u.Hosts=w.Hosts/\Sub b.Entries b'.Entries/\
   (∀d,aL w d=true->(d∈l\/Sub (aK w d).aAC.Entries b.Entries)->Sub (aK u d).aAC.Entries b'.Entries)/\(∀d∈l,Sub (aK w d).aAC.Entries b'.Entries)/\
   (∀e∈b'.Entries,e∈b.Entries\/∃d∈l,e∈(aK w d).aAC.Entries)/\(∀d,aL w d=true->(aK u d).Store=(aK w d).Store/\(d∉l->aK u d=aK w d))
 |[],t,w,v,r,b,h,_,_,_=>⟨w,v,r,b,rfl,⟨h,rfl⟩,rfl,rfl,rfl,rfl,rfl,rfl, .refl _,λd _ hd=>hd.resolve_left (by simp),λd hd=>by simp at hd,λe he=> .inl he,λd _=>⟨rfl,λ_=>rfl⟩⟩
 |d::l,t,w,v,r,b,h,hl,ht,hrl=>by
  simp only[au] at ht hrl
  have hin:=hl d (cD ..)
  have hd:=sW hin
  obtain⟨hlt,e⟩:=kH hd
  have hD:=h.dev _ hlt
  rw[<-e] at hD
  have hN:=h.aBP hS (by omega) (by omega) hin
  have hlen:(aBP w K v b d).Devices.length=w.Devices.length:=bh ..
  obtain⟨a1,a2⟩:=bEx (K:=K) (v:=v) (b:=b) hd
  obtain⟨u,v',r',b',i1,i2,i3,i4,i5,i6,i7,i8,i9,i10,i11,i12,i13⟩:=aIc hS l (t+1) _ _ _ _ hN (λc hc=>by
   rw[h.aBO hN hlen rfl rfl];exact hl c (cp _ hc)) (by omega) (by simp;omega)
  have hsub:Sub b.Entries (aX (aK w d).aAC.Entries b.Entries):= .right hD.bun.st h.bun.st
  refine⟨u,v',r',b',?_,⟨by rw[au,show t+(l.length+1)=t+1+l.length by omega];exact i2.1,by rw[i2.2];simp;omega⟩,i3,i4,i5,i6.trans hlen,i7,i8,hsub.trans i9,λc hc hcl=> ?_,λc hc=> ?_,λx hx=> ?_,λc hc=> ?_⟩
  ·rw[gP,h.aBM hS (by omega) (by omega) hin];exact i1
  ·have hc':aL (aBP w K v b d) c=true:=aAu hc hlen
   by_cases hcd:c=d
   ·subst hcd
    exact i10 c hc' (.inr (by rw[a1];exact .refl _))
   ·refine i10 c hc' ?_
    rw[a2 c hc hcd]
    rcases hcl with hcl|hcl
    ·exact .inl ((ax.1 hcl).resolve_left hcd)
    ·exact .inr (hcl.trans hsub)
  ·by_cases hcd:c=d
   ·subst hcd
    exact(Sub.left hD.bun.st h.bun.st).trans i9
   ·have hcl:=(ax.1 hc).resolve_left hcd
    have:=i11 c hcl
    rw[a2 c (sW (hl c hc)) hcd] at this;exact this
  ·have dec:∀e∈aX (aK w d).aAC.Entries b.Entries,e∈b.Entries\/∃c∈d::l,e∈(aK w c).aAC.Entries:=λe he=>
    (jR _ (ak _) he).elim (λq=> .inr ⟨d,cD ..,q⟩) .inl
   rcases i12 x hx with hx|⟨c,hc,hx⟩
   ·exact dec x hx
   ·by_cases hcd:c=d
    ·subst hcd
     rw[a1] at hx
     exact dec x hx
    ·rw[a2 c (sW (hl c (cp _ hc))) hcd] at hx
     exact .inr ⟨c,cp _ hc,hx⟩
  ·obtain⟨q1,q2⟩:=i13 c (aAu hc hlen)
   by_cases hcd:c=d
   ·subst hcd
    rw[a1] at q1
    exact⟨q1,λq=>absurd (cD ..) q⟩
   ·rw[a2 c hc hcd] at q1 q2
    exact⟨q1,λq=>q2 λz=>q (cp _ z)⟩
def aId (hS:KeyS S):∀(l:List Int) (w:D.World),Net S t m w K v r b->(∀d∈l,cZ w d=true)->t<=900000->(∀d∈l,Sub (aK w d).aAC.Entries b.Entries)->
  ∃u,lD l w=(u,true)/\Net S t m u K v r b/\u.aAE=w.aAE/\u.Seed=w.Seed/\u.Stolen=w.Stolen/\u.Devices.length=w.Devices.length/\u.Sites=w.Sites/\u.Hosts=w.Hosts/\
   (∀d,aL w d=true->d∉l->aK u d=aK w d)/\(∀d∈l,aK u d=⟨(aK w d).Store,w.aAE.Log,K,aF w.aAE.Log,v,b⟩)
 |[],w,h,_,_,_=>⟨w,rfl,h,rfl,rfl,rfl,rfl,rfl,rfl,λd _ _=>rfl,λd hd=>by simp at hd⟩
 |d::l,w,h,hl,ht,hs=>by
  have hin:=hl d (cD ..)
  have hd:=sW hin
  obtain⟨hlt,e⟩:=kH hd
  obtain⟨d0,_,_⟩:=rH hd
  have hD:=h.dev _ hlt
  rw[<-e] at hD
  have hX:aIb w K v b (aK w d)=⟨(aK w d).Store,w.aAE.Log,K,aF w.aAE.Log,v,b⟩:=by
   unfold aIb
   rw[(hs d (cD ..)).merge' hD.bun.st h.bun.st]
  have hsy:=h.aCG hS ht hin
  rw[hX] at hsy
  have hN:=h.sync hS ht d 0
  rw[hsy] at hN
  have hlen:(w.Devices.set d.toNat (⟨(aK w d).Store,w.aAE.Log,K,aF w.aAE.Log,v,b⟩:D.Device)).length=w.Devices.length:=bh
  have a1:aK ({w with Devices:=w.Devices.set d.toNat ⟨(aK w d).Store,w.aAE.Log,K,aF w.aAE.Log,v,b⟩}:D.World) d=⟨(aK w d).Store,w.aAE.Log,K,aF w.aAE.Log,v,b⟩:=aQy hlt
  have a2:∀c,aL w c=true->c≠d->aK ({w with Devices:=w.Devices.set d.toNat ⟨(aK w d).Store,w.aAE.Log,K,aF w.aAE.Log,v,b⟩}:D.World) c=aK w c:=λc hc hne=>by
   obtain⟨c0,_,_⟩:=rH hc
   exact at_set d0 c0 hne
  obtain⟨u,i1,i2,i3,i4,i5,i6,i7,i8,i9,i10⟩:=aId hS l _ hN (λc hc=>by
   rw[h.aBO hN hlen rfl rfl];exact hl c (cp _ hc)) ht (λc hc=>by
   by_cases hcd:c=d
   ·subst hcd;rw[a1];exact .refl _
   ·rw[a2 c (sW (hl c (cp _ hc))) hcd];exact hs c (cp _ hc))
  refine⟨u,?_,i2,i3,i4,i5,i6.trans hlen,i7,i8,λc hc hcl=> ?_,λc hc=> ?_⟩
  ·rw[lD,hsy];exact i1
  ·have hne:c≠d:=λq=>hcl (q▸cD ..)
   rw[i9 c (aAu hc hlen) (λq=>hcl (cp _ q)),a2 c hc hne]
  ·by_cases hcd:c=d
   ·subst hcd
    by_cases hcl:c∈l
    ·rw[i10 c hcl,a1]
    ·rw[i9 c (aAu hd hlen) hcl,a1]
   ·have hcl:=(ax.1 hc).resolve_left hcd
    rw[i10 c hcl,a2 c (sW (hl c hc)) hcd]
def Gb {w:D.World}{d:Int}(h:d∈bX w):cZ w d=true:=by
 unfold bX at h
 obtain⟨k,hk,rfl⟩:=bu.1 h
 have:=(jn.1 hk).2
 unfold kS at this
 rw[aa] at this
 exact this.1
def bEy (w:D.World):(bX w).length<=w.Devices.length:=by
 unfold bX
 rw[bl]
 exact bz (fR ..) (by simp)
def bEz {w u:D.World}(h1:u.Devices.length=w.Devices.length)(h2:u.Stolen=w.Stolen)(h3:∀c,cZ u c=cZ w c):bX u=bX w:=by
 unfold bX
 rw[h1]
 have:kS u=kS w:=by funext i;unfold kS;rw[h3,h2]
 rw[this]
structure Settled (S:List (Int×Int)) (t:Nat) (w:D.World) (K:Int) (r:List D.aAA) (b:D.aAC) (y:D.World) (v':Int) (r':List D.aAA) (b':D.aAC):Prop where
 eq:iA w=(y,true)
 net:Net S (t+w.Devices.length) w.Devices.length y K v' r' b'
 rlen:r'.length<=r.length+w.Devices.length
 log:y.aAE.Log=w.aAE.Log
 seed:y.Seed=w.Seed
 stolen:y.Stolen=w.Stolen
 len:y.Devices.length=w.Devices.length
 sites:y.Sites=w.Sites
 hosts:y.Hosts=w.Hosts
 reach:bX y=bX w
 own:∀d∈bX w,(aK y d).aAC=b'/\(aK y d).Epoch=aF w.aAE.Log/\(aK y d).Version=v'/\(aK y d).Key=K
 other:∀d,aL w d=true->(aK y d).Store=(aK w d).Store/\(d∉bX w->aK y d=aK w d)
 sub:∀d∈bX w,Sub (aK w d).aAC.Entries b'.Entries
 last:Sub b.Entries b'.Entries
 mem:∀e∈b'.Entries,e∈b.Entries\/∃d∈bX w,e∈(aK w d).aAC.Entries
def aDx (hS:KeyS S)(n:Net S t w.Devices.length w K v r b)(ht:t<=800000)(hr:r.length+w.Devices.length<=58):∃y v' r' b',Settled S t w K r b y v' r' b':=by
 have hrl:=bEy w
 have hdl:=n.wi.dlen
 obtain⟨u,v',r',b',i1,⟨i2,i2r⟩,i3,i4,i5,i6,i7,i8,i9,i10,i11,i12,i13⟩:=aIc hS (bX w) t w v r b n (λd hd=>Gb hd) (by omega) (by omega)
 have hlist:∀c,cZ u c=cZ w c:=n.aBO i2 i6 i4 i3
 obtain⟨y,j1,j2,j3,j4,j5,j6,j7,j8,j9,j10⟩:=aId hS (bX w) u i2 (λd hd=>by rw[hlist];exact Gb hd) (by omega) (λd hd=>i10 d (sW (Gb hd)) (.inl hd))
 have hlist2:∀c,cZ y c=cZ w c:=λc=>(i2.aBO j2 j6 j4 (by rw[j3]) c).trans (hlist c)
 refine⟨y,v',r',b',⟨?_,j2.mono (by omega),by omega,by rw[j3,i3],j4.trans i4,j5.trans i5,j6.trans i6,j7.trans i7,j8.trans i8,bEz (j6.trans i6) (j5.trans i5) hlist2,λd hd=> ?_,λd hd=> ?_,i11,i9,i12⟩⟩
 ·unfold iA
  rw[n.wi.ok,i1,j1];rfl
 ·rw[j10 d hd];exact⟨rfl,by rw[i3],rfl,rfl⟩
 ·obtain⟨q1,q2⟩:=i13 d hd
  have hd':aL u d=true:=aAu hd i6
  by_cases hr:d∈bX w
  ·exact⟨by rw[j10 d hr];exact q1,λq=>absurd hr q⟩
  ·rw[j9 d hd' hr]
   exact⟨q1,q2⟩
end
end Go.VK

set_option maxRecDepth 100000
namespace Go.VK
def bE0 (s:D.aAH)(o:D.aAJ)(z:ByteArray)(i c:Int)(p:Bool):jL s o z i c p=(s,aV0,false)\/(jD o z=true/\jC s=true/\s.Counter<1000000/\jL s o z i c p=({s with Counter:=s.Counter+1},{Qt s o z i c p with Counter:=s.Counter+1,Signature:=nW (bM s z i) (aZ (Qt s o z i c p)++[s.Counter+1])},true)):=by
 unfold jL
 cases hm:jD o z with
 |false=>exact .inl rfl
 |true=>
  unfold kF
  cases hs:jC s&& !(s.Counter==1000000) with
  |false=>exact .inl rfl
  |true=>
   simp only[aa,cE,cq] at hs
   have hc:=hs.1
   unfold jC at hc
   simp only[aa] at hc
   have hr:=iE hc.2.2.2
   have hn:aYc s={s with Counter:=s.Counter+1}:=by unfold aYc;rw[aJ (by omega) (by omega)]
   refine .inr ⟨rfl,hs.1,by omega,?_⟩
   simp only[cA,ac,hn]
def bHe {s:D.aAH}{o:D.aAJ}{z:ByteArray}{i c:Int}{p:Bool}(h1:jD o z=true)(h2:jC s=true)(h3:s.Counter<1000000):jL s o z i c p=({s with Counter:=s.Counter+1},{Qt s o z i c p with Counter:=s.Counter+1,Signature:=nW (bM s z i) (aZ (Qt s o z i c p)++[s.Counter+1])},true):=by
 rcases bE0 s o z i c p with e|⟨_,_,_,e⟩
 ·have:(jL s o z i c p).2.2=true:=by
   unfold jL kF
   rw[h1,h2,cq.2 (show s.Counter≠1000000 by omega)];rfl
  rw[e] at this;cases this
 ·exact e
def bMb {seed:Int}{k:Nat}{s:D.aAH}(h:StIn seed k s)(hk:k<6):jC s=true:=by
 unfold jC
 rw[h.ven,h.ser,h.key,gU (show(0:Int)<=(k:Int) by omega) (by omega),gU h.cnt.1 h.cnt.2]
 show(true&&(true&&(bG (aW seed [277,(k:Int)])&&true)))=true
 rw[eO];rfl
def bMc {a:D.Account}{x:D.aAK}{z:ByteArray}{c:Int}:((kT a x z c).1=a/\(kT a x z c).2≠0)\/(∃k,∃h:k<a.Credentials.length,bC a x.Handle=(k:Int)/\a.Credentials[k].Handle=x.Handle/\a.Credentials[k].Cut=false/\(kT a x z c).2=iL a.Credentials[k].Public x z c a.Credentials[k].Counter/\
  (kT a x z c).1={a with Credentials:=bif iL a.Credentials[k].Public x z c a.Credentials[k].Counter==0 then a.Credentials.set k {a.Credentials[k] with Counter:=x.Counter} else bif iL a.Credentials[k].Public x z c a.Credentials[k].Counter==4 then a.Credentials.set k {a.Credentials[k] with Cut:=true} else a.Credentials}):=by
 unfold kT
 cases hb: !aV a||(decide (bC a x.Handle<0)||(jQ a (bC a x.Handle)).Cut) with
 |true=>exact .inl ⟨rfl,by show(5:Int)≠0;decide⟩
 |false=>
  simp only[cl] at hb
  obtain⟨k,hk,e1,e2⟩:=Lx (l:=a.Credentials) hb.2.1
  have ef:bC a x.Handle=(k:Int):=e1.trans (by simp)
  have ec:jQ a (k:Int)=a.Credentials[k]:=by unfold jQ;simp[List.getD,ae hk]
  have hcut:=hb.2.2
  rw[ef,ec] at hcut
  refine .inr ⟨k,hk,ef,eq_of_beq e2,hcut,?_,?_⟩
  ·rw[ef,ec];rfl
  ·rw[ef,ec,ab,bv]
def aWf {b:D.aAB}(h:BookIn b)(hn:b.Next<1000000){now:Int}(ht:0<=now/\now<=999900):dL b 1 now=((dL b 1 now).1,⟨b.Next,1,now+5⟩,true)/\(dL b 1 now).1.Next=b.Next+1/\(sP (dL b 1 now).1 b.Next 1 now).2=true:=by
 have hbk:=aQq h.ok
 have hq:=(aTn h 1 now).1
 have hw:IntKind.i64.wrap (now+5)=now+5:=aJ (by omega) (by omega)
 have hnr:0<=b.Next:=by
  have:=h.ok
  unfold dN at this
  simp only[aa] at this
  exact(iE this.1.1).1
 have hI:dL b 1 now=(⟨b.Seed,b.Next+1,(bif decide ((b.Open.length:Int)>=16) then b.Open.drop 1 else b.Open)++[⟨b.Next,1,now+5⟩]⟩,⟨b.Next,1,now+5⟩,true):=by
  unfold dL H6
  rw[h.ok,cq.2 (show b.Next≠1000000 by omega),gU (show(0:Int)<=1 by decide) (by decide),gU ht.1 (by omega),hw,aJ (show-9223372036854775808<=b.Next+1 by omega) (by omega)];rfl
 refine⟨by rw[hI],by rw[hI],?_⟩
 have hlow:∀c∈b.Open,c.Id<=b.Next-1:=λc hc=>by
  have:=h.ok
  unfold dN at this
  simp only[aa,cE] at this
  obtain⟨i,hi,e⟩:=et.1 hc
  have h2:=aH1 this.2 i hi
  unfold fI at h2
  simp only[cl,dw] at h2
  have:=(iE h2.1).2
  rw[aJ (by omega) (by omega),e] at this;exact this
 have hm:∀c∈(dL b 1 now).1.Open,c.Id=b.Next->c=⟨b.Next,1,now+5⟩:=λc hc he=>by
  rw[hI] at hc
  have hc:c∈(bif decide ((b.Open.length:Int)>=16) then b.Open.drop 1 else b.Open)++[(⟨b.Next,1,now+5⟩:D.aAI)]:=hc
  rcases bq.1 hc with hc|hc
  ·have:c∈b.Open:=by
    cases hd:decide ((b.Open.length:Int)>=16) with
    |true=>rw[hd] at hc;exact cU hc
    |false=>rw[hd] at hc;exact hc
   have:=hlow c this;omega
  ·exact cg.1 hc
 have hin:(⟨b.Next,1,now+5⟩:D.aAI)∈(dL b 1 now).1.Open:=by rw[hI];show _∈_++[_];simp
 have hf:decide (bN (dL b 1 now).1 b.Next<0)=false:=by
  rw[dh]
  intro hneg
  have:=Lh (p:=λc:D.aAI=>c.Id==b.Next) hneg _ hin
  simp at this
 obtain⟨k,hk,e1,e2⟩:=Lx (l:=(dL b 1 now).1.Open) hf
 have ec:Lt (dL b 1 now).1 (bN (dL b 1 now).1 b.Next)=⟨b.Next,1,now+5⟩:=by
  have e1:bN (dL b 1 now).1 b.Next=((0+k:Nat):Int):=e1
  rw[e1];unfold Lt
  rw[ce,bv,List.getD,ae hk,cu]
  exact hm _ (cx hk) (eq_of_beq e2)
 unfold sP
 rw[hq.ok,hf,ec]
 show((1:Int)==1&&decide (now<=now+5))=true
 rw[ao (by omega)];rfl
section
variable {m:Nat} {w:D.World}
def bE1 (h:WIn m w){d j:Int}{o:D.aAJ}(ht:fC w d j=true)(hm:d.toNat<m)(ho:jD o (aA j)=true)(hn:(dX w j).Book.Next<1000000)(hc:(aK w d).Store.Counter<1000000)
  (hu:∀a∈(dX w j).Accounts,∀(hk:d.toNat<a.Credentials.length),a.Credentials[d.toNat].Cut=false/\a.Credentials[d.toNat].Counter<=(aK w d).Store.Counter):(wL w d j o).2.2=0:=by
 obtain⟨t1,t2,t3⟩:=aO8 ht
 obtain⟨hl,es,hj,hs⟩:=aYm h t3
 obtain⟨d0,d1,_⟩:=rH t2
 have hmle:=h.mle
 have hb:=aQq hs.book
 obtain⟨i1,i2,i3⟩:=aWf hb hn h.now
 have hB:jX w j=({dX w j with Book:=(dL (dX w j).Book 1 w.Now).1},(dX w j).Book.Next,eY (dL (dX w j).Book 1 w.Now).1 (dX w j).Book.Next,true):=by
  unfold jX lX
  rw[hs.ok hj h.mle,hs.find,i1];rfl
 have hst:=h.aCK t2
 have hsok:=bMb hst (by omega)
 have hA:Qu w d j o=({(aK w d).Store with Counter:=(aK w d).Store.Counter+1},{Qt (aK w d).Store o (aA j) d (jX w j).2.2.1 true with Counter:=(aK w d).Store.Counter+1,Signature:=nW (bM (aK w d).Store (aA j) d) (aZ (Qt (aK w d).Store o (aA j) d (jX w j).2.2.1 true)++[(aK w d).Store.Counter+1])},true):=bHe ho hsok hc
 have hbi:=hs.begin 1 w.Now
 rw[show(lX (dX w j) 1 w.Now)=jX w j from rfl] at hbi
 obtain⟨l,e,hl2,hln⟩:=hs.acc
 subst hln
 have hcr:=hl2 d.toNat hm
 obtain⟨u1,u2⟩:=hu ⟨1,3,l⟩ (by rw[e];simp) hm
 have u2:l[d.toNat].Counter<=(aK w d).Store.Counter:=u2
 have u1:l[d.toNat].Cut=false:=u1
 have hac:jG (jX w j).1 0=⟨1,3,l⟩:=by rw[hB];unfold jG;show((dX w j).Accounts.getD _ _)=_;rw[e];rfl
 have hok:=aQp (m:=3) hj hl2 h.mle ⟨by decide,by decide⟩
 have hfc:bC ⟨1,3,l⟩ d=(d.toNat:Int):=by
  have:=bG9 hl2 hm
  rwa [eN d0] at this ⊢
 have hca:jQ ⟨1,3,l⟩ (d.toNat:Int)=l[d.toNat]:=by
  unfold jQ
  rw[bv]
  show l.getD d.toNat default=_
  rw[List.getD,ae hm,cu]
 have hkey:bM (aK w d).Store (aA j) d=bM (aP w.Seed (d.toNat:Int)) (aA j) (d.toNat:Int):=by
  rw[bM,bM,hst.key,eN d0]
 have hv:∀M,eF (bU (bM (aP w.Seed (d.toNat:Int)) (aA j) (d.toNat:Int))) M (nW (bM (aP w.Seed (d.toNat:Int)) (aA j) (d.toNat:Int)) M)=true:=λM=>aTo (by unfold bM;exact eO _ _) M
 have hchk:iL l[d.toNat].Public (Qu w d j o).2.1 (jX w j).1.Name (eY (jX w j).1.Book (jX w j).2.1) l[d.toNat].Counter=0:=by
  rw[hbi.name,hA,hB]
  unfold iL
  show(bif !((aA j).toList==(aA j).toList) then(1:Int) else bif !true then 2 else bif !(eY (dL (dX w j).Book 1 w.Now).1 (dX w j).Book.Next==eY (dL (dX w j).Book 1 w.Now).1 (dX w j).Book.Next) then 3 else bif !eF l[d.toNat].Public (aZ (Qt (aK w d).Store o (aA j) d (eY (dL (dX w j).Book 1 w.Now).1 (dX w j).Book.Next) true)++[(aK w d).Store.Counter+1]) (nW (bM (aK w d).Store (aA j) d) (aZ (Qt (aK w d).Store o (aA j) d (eY (dL (dX w j).Book 1 w.Now).1 (dX w j).Book.Next) true)++[(aK w d).Store.Counter+1])) then 5 else bif decide ((aK w d).Store.Counter+1<=l[d.toNat].Counter) then 4 else 0)=0
  rw[hcr.2.1,hkey,show Wi w.Seed j d.toNat=bU (bM (aP w.Seed (d.toNat:Int)) (aA j) (d.toNat:Int)) from rfl,hv,ap (show ¬(aK w d).Store.Counter+1<=l[d.toNat].Counter by omega)]
  simp
 have hE:(aTg w d j o).2.1=0:=by
  unfold aTg pG
  rw[hbi.ok hj h.mle,hbi.find]
  have htk:(sP (jX w j).1.Book (jX w j).2.1 1 w.Now).2=true:=by rw[hB];exact i3
  have hal:nG (jG (jX w j).1 0) 3=true:=by
   rw[hac];unfold nG
   rw[hok]
   have:(l.any λc=> !c.Cut)=true:=fY.2 ⟨l[d.toNat],cx hm,by rw[u1];rfl⟩
   show(true&&(true&&(true&&(false||l.any λc=> !c.Cut))))=true
   rw[this];rfl
  have hH:(Qu w d j o).2.1.Handle=d:=by rw[hA];rfl
  have huse:(kT (jG (jX w j).1 0) (Qu w d j o).2.1 (jX w j).1.Name (eY (jX w j).1.Book (jX w j).2.1)).2=0:=by
   rw[hac];unfold kT
   rw[hok,hH,hfc,hca,u1,ap (show ¬(d.toNat:Int)<0 by omega)]
   exact hchk
  rw[htk,hal,huse];rfl
 unfold wL
 rw[ht,hE,hB];rfl
end
end Go.VK

set_option maxRecDepth 100000
namespace Go.VK
def aIe (w:D.World)(k:Nat):Int:=(w.Devices.getD k default).Store.Counter
def aIf (w:D.World)(k:Nat):Prop:=fG w.aAE.Log (oO w.Seed k)=true
def CrU (cnt:Nat->Int)(rem:Nat->Prop)(c:D.aAL):Prop:=c.Counter<=cnt c.Handle.toNat/\(c.Cut=true->rem c.Handle.toNat)
structure Us (B:Int) (w:D.World):Prop where
 cnt:∀k,k<w.Devices.length->aIe w k<=B
 next:∀s∈w.Sites,s.Book.Next<=B
 cred:∀s∈w.Sites,aDw (CrU (aIe w) (aIf w)) s
def CrU.mono {cnt cnt':Nat->Int}{rem rem':Nat->Prop}(hc:∀k,cnt k<=cnt' k)(hr:∀k,rem k->rem' k){c:D.aAL}(h:CrU cnt rem c):CrU cnt' rem' c:=⟨eE h.1 (hc _),λq=>hr _ (h.2 q)⟩
section
variable {m:Nat} {w:D.World} {B:Int}
def Us.keep (h:Us B w){u:D.World}(e1:u.Devices.length=w.Devices.length)(e2:∀k,aIe u k=aIe w k)(e3:u.Sites=w.Sites)(e4:∀k,aIf w k->aIf u k):Us B u:=
 ⟨λk hk=>by rw[e2];exact h.cnt k (by omega),λs hs=>h.next s (by rw[<-e3];exact hs),λs hs a ha c hc=>(h.cred s (by rw[<-e3];exact hs) a ha c hc).mono (λk=>by rw[e2];exact dg _) e4⟩
def aQz {l:List D.Device}{i:Nat}{x:D.Device}(hi:i<l.length)(hx:x.Store=(l.getD i default).Store)(k:Nat):((l.set i x).getD k default).Store.Counter=(l.getD k default).Store.Counter:=by
 rw[List.getD,List.getElem?_set]
 by_cases hk:i=k
 ·subst hk;rw[cz rfl,cz hi];show x.Store.Counter=_;rw[hx]
 ·rw[cR hk];rfl
def Us.aCW (h:Us B w)(d:Int)(n:ByteArray)(a:Int)(f:Bool):Us B (eX w d n a f).1:=by
 unfold eX
 cases hb:aU w&&aL w d with
 |false=>exact h
 |true=>
  rw[aa] at hb
  obtain⟨hl,e⟩:=kH hb.2
  simp only[ac]
  cases(dC (aK w d) n a f).2 with
  |false=>exact h
  |true=>exact h.keep (bh ..) (λk=>aQz hl (by rw[I4];rfl) k) rfl (λ_ q=>q)
def Us.sync (h:Us B w)(d c:Int):Us B (bY w d c).1:=by
 unfold bY
 cases hb:aU w&&aL w d with
 |false=>exact h
 |true=>
  rw[aa] at hb
  obtain⟨hl,e⟩:=kH hb.2
  exact h.keep (bh ..) (λk=>aQz hl (by rw[Ul];rfl) k) rfl (λ_ q=>q)
def Us.up (h:Us B w){d:Int}(hd:aL w d=true):Us B (upF w d).1:=by
 unfold upF
 cases(dK (aK w d)).2.2&&(dD w.aAE (dK (aK w d)).2.1).2 with
 |false=>exact h
 |true=>
  obtain⟨hl,e⟩:=kH hd
  exact h.keep (bh ..) (λk=>aQz hl (by rw[Ma];rfl) k) rfl (λk q=>by
   unfold aIf at q ⊢
   show fG (dD w.aAE (dK (aK w d)).2.1).1.Log _=true
   rw[(rE _ _).2];exact q)
def Us.push (h:Us B w)(d:Int):Us B (kK w d).1:=by
 unfold kK
 cases hb:(bY w d 0).2==0&&(upF (bY w d 0).1 d).2 with
 |false=>exact h
 |true=>
  rw[aa] at hb
  have h0:=Qj hb.1
  exact(h.sync d 0).up (aAu h0.1.2 (bAu w d 0).2.2.1)
end
section
variable {S:List (Int×Int)} {t m:Nat} {w:D.World} {K v:Int} {r:List D.aAA} {b:D.aAC} {B:Int}
end
def bA8 {n k t pin seed:Int}(h:Bp n k t pin seed=true):(∀i,aIe (aY n k t pin seed) i=0)/\∀s∈(aY n k t pin seed).Sites,s.Book.Next=0/\s.Logins=[]/\aDw (λc=>c.Counter=0/\c.Cut=false) s:=by
 have hn:n.toNat=1\/n.toNat=2\/n.toNat=3:=by
  unfold Bp at h
  simp only[aa] at h
  have:=iE h.1;omega
 have ed:(aY n k t pin seed).Devices=(List.range n.toNat).map λk=>Bt seed n.toNat k 1 (Aw n.toNat):=by
  unfold aY;rw[h];exact Mc hn
 refine⟨λi=> ?_,λs hs=> ?_⟩
 ·unfold aIe
  rw[ed,List.getD,bf]
  cases hq:(List.range n.toNat)[i]? with
  |none=>rfl
  |some q=>rfl
 ·have reg:∀(nm:ByteArray) (l:List D.Device) (i:Nat) (s:D.Site),(s.Book.Next=0/\s.Logins=[]/\aDw (λc=>c.Counter=0/\c.Cut=false) s)->((mM nm i l s).Book.Next=0/\(mM nm i l s).Logins=[]/\aDw (λc=>c.Counter=0/\c.Cut=false) (mM nm i l s)):=by
   intro nm l
   induction l with
   |nil=>intro i s hs;exact hs
   |cons d l ih=>
    intro i s hs
    refine ih _ _ ⟨?_,?_,bG8 hs.2.2 ⟨rfl,rfl⟩⟩
    ·unfold gQ
     cases !bR s||decide (aC s 1<0) with
     |true=>exact hs.1
     |false=>
      simp only[ab]
      cases(eD (s.Accounts.getD (aC s 1).toNat default) _ _).2<;>exact hs.1
    ·unfold gQ
     cases !bR s||decide (aC s 1<0) with
     |true=>exact hs.2.1
     |false=>
      simp only[ab]
      cases(eD (s.Accounts.getD (aC s 1).toNat default) _ _).2<;>exact hs.2.1
  have one:∀j:Int,j=0\/j=1->((sQ seed (bS seed n.toNat) j).Book.Next=0/\(sQ seed (bS seed n.toNat) j).Logins=[]/\aDw (λc=>c.Counter=0/\c.Cut=false) (sQ seed (bS seed n.toNat) j)):=λj hj=>by
   refine reg _ _ _ _ ?_
   have hk:=eO seed [281,j]
   generalize aW seed [281,j]=q at*
   have hN:dZ (aA j) q=⟨aA j,[],⟨q,0,[]⟩,[]⟩:=by
    unfold dZ iO
    rw[Qn hj,hk];rfl
   rw[hN]
   unfold kM
   cases bR ⟨aA j,[],⟨q,0,[]⟩,[]⟩&&bR (mD ⟨aA j,[],⟨q,0,[]⟩,[]⟩ 1 3) with
   |false=>exact⟨rfl,rfl,λa ha=>by simp at ha⟩
   |true=>
    refine⟨rfl,rfl,λa ha c hc=> ?_⟩
    have ha:a∈[(⟨1,3,[]⟩:D.Account)]:=ha
    rw[cg.1 ha] at hc
    simp at hc
  unfold aY at hs
  rw[h] at hs
  have hs:s∈pJ (bS seed n.toNat) seed:=hs
  unfold pJ at hs
  rcases ax.1 hs with rfl|hs
  ·exact one 0 (.inl rfl)
  ·rw[cg.1 hs];exact one 1 (.inr rfl)
def bKn {n k t pin seed:Int}(h:Bp n k t pin seed=true):Us 0 (aY n k t pin seed):=by
 obtain⟨h1,h2⟩:=bA8 (k:=k) h
 exact⟨λi _=>by rw[h1];exact dg _,λs hs=>by rw[(h2 s hs).1];exact dg _,λs hs a ha c hc=>⟨by rw[((h2 s hs).2.2 a ha c hc).1,h1];exact dg _,λq=>by rw[((h2 s hs).2.2 a ha c hc).2] at q;cases q⟩⟩
section
variable {m:Nat} {w:D.World} {B:Int}
def Us.ok (hw:WIn m w)(h:Us B w)(hB:B<1000000){d j:Int}{o:D.aAJ}(ht:fC w d j=true)(hm:d.toNat<m)(ho:jD o (aA j)=true)(hr:¬aIf w d.toNat):(wL w d j o).2.2=0:=by
 obtain⟨t1,t2,t3⟩:=aO8 ht
 obtain⟨hl,es,hj,hs⟩:=aYm hw t3
 obtain⟨hdl,ed⟩:=kH t2
 have hcd:aIe w d.toNat=(aK w d).Store.Counter:=rfl
 have hm1:dX w j∈w.Sites:=by rw[es];exact cx hl
 have hn:=h.next _ hm1
 have hc:=h.cnt _ hdl
 rw[hcd] at hc
 refine bE1 hw ht hm ho (by omega) (by omega) λa ha hk=> ?_
 have hq:=h.cred _ hm1 a ha _ (cx hk)
 obtain⟨l,el,hl2,_⟩:=hs.acc
 rw[el] at ha
 have ha:a=⟨1,3,l⟩:=by simpa using ha
 subst ha
 have hh:(D.Account.mk 1 3 l).Credentials[d.toNat].Handle=(d.toNat:Int):=(hl2 d.toNat hk).1
 unfold CrU at hq
 rw[hh,bv] at hq
 refine⟨?_,by have:=hq.1;rw[hcd] at this;exact this⟩
 cases hcut:(D.Account.mk 1 3 l).Credentials[d.toNat].Cut with
 |false=>rfl
 |true=>exact absurd (hq.2 hcut) hr
end
end Go.VK

set_option maxRecDepth 100000
namespace Go.VK
def bA9 {n k t pin seed:Int}(h:Bp n k t pin seed=true):(aY n k t pin seed).Stolen=List.replicate n.toNat false/\(aY n k t pin seed).aAE.Log=aO seed n.toNat/\(aY n k t pin seed).Devices.length=n.toNat/\(aY n k t pin seed).Seed=seed:=by
 have hn:n.toNat=1\/n.toNat=2\/n.toNat=3:=by
  unfold Bp at h
  simp only[aa] at h
  have:=iE h.1;omega
 obtain⟨_,h2,h3⟩:=aDu h
 refine⟨by unfold aY;rw[h];rfl,?_,h2,h3⟩
 unfold aY;rw[h]
 show(fT seed n.toNat).Log=_
 rw[aAw hn]
def bE2 {S:List (Int×Int)}{t:Nat}{w:D.World}(ha:All S t w){d:Nat}(hd:d<w.Devices.length){j:Int}(hj:j=0\/j=1):fC w (d:Int) j=true:=by
 have h2:=ha.wi.two
 unfold fC
 rw[ha.wi.ok,bHd hd]
 unfold jP
 rw[ao (show 0<=j by omega),ao (show j<(w.Sites.length:Int) by omega)];rfl
end Go.VK

set_option maxRecDepth 100000
namespace Go.VK
def eP:ByteArray:=⟨#[110,101,119,46,110,101,116]⟩
def aIg:aR eP=1685652244:=by kernel_rfl
def Wn {S:List (Int×Int)}{T:Int}{w:D.World}{d:Int}(h:BunIn S T (aK w d).aAC.Entries)(s:ByteArray)(q:Int):oV w d s q=(aL w d&&pM (aK w d).aAC.Entries (aR s) q):=by
 unfold oV pM
 rcases I7 h.st (aR s) q with⟨h1,h2⟩|⟨h1,e,h2,h3,h4⟩
 ·rw[h2,show decide (aG (aK w d).aAC (aR s) q<0)=true from ao h1];rfl
 ·rw[h2,show decide (aG (aK w d).aAC (aR s) q<0)=false from ap (by
   have:0<=aG (aK w d).aAC (aR s) q:=h1
   omega)]
  show(aL w d&&(!false&& !((aK w d).aAC.Entries.getD (aG ⟨(aK w d).aAC.Entries⟩ (aR s) q).toNat default).Deleted))=_
  rw[h3];rfl
def Us.settle {w:D.World}{B:Int}(h:Us B w):Us B (iA w).1:=by
 have hp:∀(l:List Int) (w:D.World),Us B w->Us B (gP l w).1:=by
  intro l
  induction l with
  |nil=>intro w h;exact h
  |cons i l ih=>
   intro w h
   unfold gP
   cases(kK w i).2 with
   |false=>exact h
   |true=>exact ih _ (h.push i)
 have hs:∀(l:List Int) (w:D.World),Us B w->Us B (lD l w).1:=by
  intro l
  induction l with
  |nil=>intro w h;exact h
  |cons i l ih=>
   intro w h
   unfold lD
   cases(bY w i 0).2==0 with
   |false=>exact h
   |true=>exact ih _ (h.sync i 0)
 unfold iA
 cases aU w&&((gP (bX w) w).2&&(lD (bX w) (gP (bX w) w).1).2) with
 |false=>exact h
 |true=>exact hs _ _ (hp _ _ h)
def aYo {S:List (Int×Int)}{t m:Nat}{w:D.World}{K v:Int}{r:List D.aAA}{b:D.aAC}(n:Net S t m w K v r b){d:Int}(hd:aL w d=true)(nm:ByteArray)(q:Int)(f:Bool):
  (eX w d nm q f).2=(gY (aK w d) nm q f).2/\((gY (aK w d) nm q f).2=true->aK (eX w d nm q f).1 d={aK w d with aAC:=(gY (aK w d) nm q f).1}/\∀c,aL w c=true->c≠d->aK (eX w d nm q f).1 c=aK w c):=by
 obtain⟨hl,e⟩:=kH hd
 obtain⟨d0,_,_⟩:=rH hd
 unfold eX dC
 rw[n.wi.ok,hd]
 cases hc:(gY (aK w d) nm q f).2 with
 |false=>exact⟨rfl,λh=>by cases h⟩
 |true=>
  refine⟨rfl,λ_=>⟨aQy hl,λc hc hne=> ?_⟩⟩
  obtain⟨c0,_,_⟩:=rH hc
  exact at_set d0 c0 hne
def aWg {P:D.Entry->Prop}{l:List D.Entry}(hs:Qs l){e:D.Entry}(hm:∃x∈l,x.Site=e.Site/\x.Handle=e.Handle/\rk e<=rk x)(hu:∀x∈l,x.Site=e.Site->x.Handle=e.Handle->rk e<=rk x->x=e):lk l e.Site e.Handle=some e:=by
 obtain⟨x,hx,x1,x2,x3⟩:=hm
 have:=hu x hx x1 x2 x3
 subst this
 exact aH9 hs hx
def uL (q:Int):D.Entry:=⟨1685652244,q,1,false⟩
def wN (q:Int):D.Entry:=⟨1685652244,q,2,true⟩
def bE3:∀e∈(Aw 3).Entries,e.Version=1/\e.Deleted=false/\(e.Site=1464438180\/e.Site=1941999745):=by decide
def bBa:∀i:Nat,i<3->(⟨1941999745,(i:Int),1,false⟩:D.Entry)∈(Aw 3).Entries:=λi hi=>by
 rcases(show i=0\/i=1\/i=2 by omega) with rfl|rfl|rfl<;>simp[Aw]
def known {seed:Int}{w0 w1 x x1 y:D.World}{q d e:Int}(hq:0<=q/\q<=4)(hw0:w0=aY 3 1 1 5 seed)(hok:Bp 3 1 1 5 seed=true)(hd:0<=d/\d<3)(he:0<=e/\e<3)(hde:d≠e)
  (d1:w1=(eX w0 d eP q false).1) (dx:x=(iA w1).1) (d2:x1=(eX x e eP q true).1) (dy:y=(iA x1).1):
  (eX w0 d eP q false).2=true/\(iA w1).2=true/\(eX x e eP q true).2=true/\(iA x1).2=true/\y.Devices.length=3/\
   (∀i:Int,0<=i/\i<3->oV x1 i eP q=(i !=e)/\oV y i eP q=false/\rX y i=2/\oV y i (aA 0) i=true)/\rX y 3=0/\oV y 3 (aA 0) 0=false:=by
 have hS:KeyD (Bu++[((1685652244:Int),q)]):=bHa (show[((1685652244:Int),q)].length<=8 by show 1<=8;decide) (λp hp=>by
  rw[cg.1 hp];exact⟨⟨by show(0:Int)<=1685652244;decide,by show(1685652244:Int)<=2147483646;decide⟩,by show 0<=q;omega,by show q<=1000000;omega⟩)
 have hkq:((aR eP,q):Int×Int)∈Bu++[((1685652244:Int),q)]:=by rw[aIg];simp
 obtain⟨p1,p2,p3,p4⟩:=bA9 hok
 have ed:w0.Devices=(List.range 3).map λk=>Bt seed 3 k 1 (Aw 3):=by
  rw[hw0];unfold aY;rw[hok];exact Mc (.inr (.inr rfl))
 have n0:=aYn (x:=[((1685652244:Int),q)]) hok
 have hA0:All (Bu++[((1685652244:Int),q)]) 0 w0:=by rw[hw0];exact bHc hok
 have hU0:Us 0 w0:=by rw[hw0];exact bKn hok
 rw[<-hw0] at p1 p2 p3 p4 n0
 have n0:Net (Bu++[((1685652244:Int),q)]) 3 w0.Devices.length w0 (bI seed 0) 1 [] (Aw 3):=n0
 have l0:w0.Devices.length=3:=p3
 have has0:∀i:Int,0<=i/\i<3->aL w0 i=true:=λi hi=>by
  unfold aL;rw[ao hi.1,ao (by omega)];rfl
 have at0:∀i:Int,0<=i/\i<3->(aK w0 i).aAC=Aw 3:=λi hi=>by
  unfold aK
  rw[ed,List.getD,bf,dn (by omega)];rfl
 have reach:∀{t m:Nat} {u:D.World} {K v:Int} {r:List D.aAA} {b:D.aAC},Net (Bu++[((1685652244:Int),q)]) t m u K v r b->u.Devices.length=3->u.Stolen=w0.Stolen->u.aAE.Log=w0.aAE.Log->u.Seed=w0.Seed->∀i:Int,0<=i/\i<3->i∈bX u:=λn e1 e2 e3 e4 i hi=>by
  unfold bX
  refine bu.2 ⟨i.toNat,jn.2 ⟨fe.2 (by omega),?_⟩,by show((i.toNat:Nat):Int)=i;omega⟩
  unfold kS
  rw[n.aDL (by unfold aL;rw[ao (by omega),ao (by omega)];rfl),e3,e4,p2,p4,(kQ seed (3:Int).toNat (by decide)).devs,sU.2 (bu.2 ⟨i.toNat,fe.2 (by show i.toNat<3;omega),by rw[bv]⟩),e2,p1]
  have:(List.replicate (3:Int).toNat false).getD i.toNat false=false:=by
   rcases(show i.toNat=0\/i.toNat=1\/i.toNat=2 by omega) with h|h|h<;>rw[h]<;>rfl
  rw[this,ao (show i.toNat<(List.replicate (3:Int).toNat false).length by show i.toNat<3;omega)];rfl
 have e1:=aYo n0 (has0 d hd) eP q false
 have c1:gY (aK w0 d) eP q false=(⟨aX (Aw 3).Entries [uL q]⟩,true):=by
  unfold gY
  have hp:=bEs hS.ks (V:=3) (by decide) (b:=(aK w0 d).aAC) (by rw[at0 d hd];exact aQw (.inr (.inr rfl))) hkq
  have hno:lk (Aw 3).Entries 1685652244 q=none:=Fy λe he=>by
   have:=bE3 e he
   rw[ey,Ne,same_iff]
   rintro⟨h1,_⟩
   rcases this.2.2 with h|h<;>omega
  rw[ab,hp,at0 d hd,aIg]
  unfold pM aBA
  rw[hno];rfl
 rw[c1] at e1
 obtain⟨e1a,e1b⟩:=e1
 obtain⟨e1c,e1d⟩:=e1b rfl
 have n1:Net (Bu++[((1685652244:Int),q)]) 4 3 w1 (bI seed 0) 1 [] (Aw 3):=by
  have h:=n0.aCW hS.ks (by decide) d hkq false
  rw[l0,<-d1] at h;exact h
 have l1:w1.Devices.length=3:=by rw[d1,(Qo w0 d eP q false).2,l0]
 have st1:w1.Stolen=w0.Stolen/\w1.aAE=w0.aAE/\w1.Seed=w0.Seed/\w1.Sites=w0.Sites:=by
  rw[d1]
  refine⟨?_,(Ga ..).1,(Qo ..).1,(Ga ..).2⟩
  unfold eX
  cases aU w0&&aL w0 d with
  |false=>rfl
  |true=>simp only[ac];cases(dC (aK w0 d) eP q false).2<;>rfl
 have r1:=reach n1 l1 st1.1 (by rw[st1.2.1]) st1.2.2.1
 have at1:∀i:Int,0<=i/\i<3->∀z∈(aK w1 i).aAC.Entries,z∈(Aw 3).Entries\/z=uL q:=λi hi z hz=>by
  rw[d1] at hz
  by_cases hid:i=d
  ·subst hid
   rw[e1c] at hz
   have hz:z∈aX (Aw 3).Entries [uL q]:=hz
   exact(jR _ (ak _) hz).imp id cg.1
  ·rw[e1d i (has0 i hi) hid,at0 i hi] at hz
   exact .inl hz
 have hb1:(Aw 3).Entries.length<=6:=by decide
 have n1':Net (Bu++[((1685652244:Int),q)]) 4 w1.Devices.length w1 (bI seed 0) 1 [] (Aw 3):=by rw[l1];exact n1
 obtain⟨x',vx,rx,bx,sx⟩:=aDx hS.ks n1' (by decide) (by rw[l1];decide)
 have hx:x=x':=by rw[dx,sx.eq]
 subst hx
 have rin:∀{u:D.World},u.Devices.length=3->∀i∈bX u,0<=i/\i<3:=λhu i hi=>by
  obtain⟨h0,h1,_⟩:=rH (sW (Gb hi));omega
 have mx:∀z∈bx.Entries,z∈(Aw 3).Entries\/z=uL q:=λz hz=>by
  rcases sx.mem z hz with hz|⟨c,hc,hz⟩
  ·exact .inl hz
  ·exact at1 c (rin l1 c hc) z hz
 have lx:x.Devices.length=3:=sx.len.trans l1
 have hnx:=sx.net
 rw[l1] at hnx
 have lkx:lk bx.Entries 1685652244 q=some (uL q):=by
  have hsub:=sx.sub d (r1 d hd)
  rw[d1,e1c] at hsub
  have hsub:Sub (aX (Aw 3).Entries [uL q]) bx.Entries:=hsub
  have hl:uL q∈aX (Aw 3).Entries [uL q]:=by
   have h1:=lkM (aQw (x:=[]) (n:=3) (.inr (.inr rfl))).st (aWe (uL q)) 1685652244 q
   have hno:lk (Aw 3).Entries 1685652244 q=none:=Fy λe he=>by
    have:=bE3 e he
    rw[ey,Ne,same_iff]
    rintro⟨h1,_⟩
    rcases this.2.2 with h|h<;>omega
   rw[hno,show lk [uL q] 1685652244 q=some (uL q) from aH9 (aWe _) (cg.2 rfl)] at h1
   exact(rJ h1).1
  exact aWg (P:=λ_=>True) (e:=uL q) hnx.bun.st (hsub _ hl) (λz hz z1 z2 _=>by
   rcases mx z hz with h|h
   ·have:=bE3 z h
    have z1:z.Site=1685652244:=z1
    rcases this.2.2 with h|h<;>omega
   ·exact h)
 have hasx:∀i:Int,0<=i/\i<3->aL x i=true:=λi hi=>by
  unfold aL;rw[ao hi.1,ao (by omega)];rfl
 have atx:∀i:Int,0<=i/\i<3->(aK x i).aAC=bx:=λi hi=>(sx.own i (r1 i hi)).1
 have e2:=aYo hnx (hasx e he) eP q true
 have c2:gY (aK x e) eP q true=(⟨aX bx.Entries [wN q]⟩,true):=by
  unfold gY
  have hp:=bEt hS.ks (V:=((4+3:Nat):Int)) (by decide) (b:=(aK x e).aAC) (s:=aR eP) (q:=q) (by rw[atx e he];exact hnx.bun)
  rw[ac,hp,atx e he,aIg]
  unfold pM aBA
  rw[lkx];rfl
 rw[c2] at e2
 obtain⟨e2a,e2b⟩:=e2
 obtain⟨e2c,e2d⟩:=e2b rfl
 have n2:Net (Bu++[((1685652244:Int),q)]) 8 3 x1 (bI seed 0) vx rx bx:=by
  rw[d2];exact hnx.aCW hS.ks (by decide) e hkq true
 have l2:x1.Devices.length=3:=by rw[d2,(Qo x e eP q true).2,lx]
 have st2:x1.Stolen=w0.Stolen/\x1.aAE.Log=w0.aAE.Log/\x1.Seed=w0.Seed/\x1.Sites=w0.Sites:=by
  rw[d2]
  refine⟨?_,by rw[(Ga ..).1,sx.log,st1.2.1],by rw[(Qo ..).1,sx.seed,st1.2.2.1],by rw[(Ga ..).2,sx.sites,st1.2.2.2]⟩
  have:(eX x e eP q true).1.Stolen=x.Stolen:=by
   unfold eX
   cases aU x&&aL x e with
   |false=>rfl
   |true=>simp only[ac];cases(dC (aK x e) eP q true).2<;>rfl
  rw[this,sx.stolen,st1.1]
 have r2:=reach n2 l2 st2.1 st2.2.1 st2.2.2.1
 have hd2:∀z∈aX bx.Entries [wN q],z∈bx.Entries\/z=wN q:=λz hz=>(jR _ (ak _) hz).imp id cg.1
 have at2:∀i:Int,0<=i/\i<3->(aK x1 i).aAC=if i=e then⟨aX bx.Entries [wN q]⟩ else bx:=λi hi=>by
  rw[d2]
  split
  ·rename_i h;subst h;rw[e2c]
  ·rename_i h;rw[e2d i (hasx i hi) h,atx i hi]
 have n2':Net (Bu++[((1685652244:Int),q)]) 8 x1.Devices.length x1 (bI seed 0) vx rx bx:=by rw[l2];exact n2
 obtain⟨y',vy,ry,by_,sy⟩:=aDx hS.ks n2' (by decide) (by have:=sx.rlen;rw[l1] at this;rw[l2];simp at this;omega)
 have hy:y=y':=by rw[dy,sy.eq]
 subst hy
 have ly:y.Devices.length=3:=sy.len.trans l2
 have my:∀z∈by_.Entries,(z∈(Aw 3).Entries\/z=uL q)\/z=wN q:=λz hz=>by
  rcases sy.mem z hz with hz|⟨c,hc,hz⟩
  ·exact .inl (mx z hz)
  ·rw[at2 c (rin l2 c hc)] at hz
   split at hz
   ·exact(hd2 z hz).imp (mx z) id
   ·exact .inl (mx z hz)
 have hdl:lk (aX bx.Entries [wN q]) 1685652244 q=some (wN q):=by
  rw[lkM hnx.bun.st (aWe _),lkx,show lk [wN q] 1685652244 q=some (wN q) from aH9 (aWe _) (cg.2 rfl)]
  show some (lT (uL q) (wN q))=_
  unfold lT
  rw[aTz (show(wN q).Version>(uL q).Version by show(2:Int)>1;decide)];rfl
 have hny:=sy.net
 rw[l2] at hny
 have lky:lk by_.Entries 1685652244 q=some (wN q):=by
  have hsub:=sy.sub e (r2 e he)
  rw[at2 e he,cz rfl] at hsub
  exact aWg (P:=λ_=>True) (e:=wN q) hny.bun.st (hsub _ (rJ hdl).1) (λz hz z1 z2 z3=>by
   have z1:z.Site=1685652244:=z1
   rcases my z hz with(h|h)|h
   ·have:=bE3 z h
    rcases this.2.2 with h|h<;>omega
   ·rw[h] at z3
    exact absurd z3 (show ¬rk (wN q)<=rk (uL q) by show ¬((2*2+1:Int)<=2*1+0);decide)
   ·exact h)
 have lkb:∀i:Nat,i<3->lk by_.Entries 1941999745 (i:Int)=some ⟨1941999745,(i:Int),1,false⟩:=λi hi=>by
  have h1:=sx.last
  have h2:=sy.last
  exact aWg (P:=λ_=>True) (e:=⟨1941999745,(i:Int),1,false⟩) hny.bun.st ((h1.trans h2) _ (bBa i hi)) (λz hz z1 z2 _=>by
   have z1:z.Site=1941999745:=z1
   have z2:z.Handle=(i:Int):=z2
   rcases my z hz with(h|h)|h
   ·have:=bE3 z h
    obtain⟨zs,zh,zv,zd⟩:=z
    obtain⟨q1,q2,_⟩:=this
    simp only at q1 q2 z1 z2
    subst q1;subst q2;subst z1;subst z2;rfl
   ·rw[h] at z1;exact absurd z1 (by show ¬(1685652244:Int)=1941999745;decide)
   ·rw[h] at z1;exact absurd z1 (by show ¬(1685652244:Int)=1941999745;decide))
 have aty:∀i:Int,0<=i/\i<3->(aK y i).aAC=by_:=λi hi=>(sy.own i (r2 i hi)).1
 have hasy:∀i:Int,0<=i/\i<3->aL y i=true:=λi hi=>by
  unfold aL;rw[ao hi.1,ao (by omega)];rfl
 have hasx1:∀i:Int,0<=i/\i<3->aL x1 i=true:=λi hi=>by
  unfold aL;rw[ao hi.1,ao (by omega)];rfl
 have hasy3:aL y 3=false:=by unfold aL;rw[ly];rfl
 have hAy:All (Bu++[((1685652244:Int),q)]) 6 y:=by
  refine⟨⟨bI seed 0,vy,ry,by_,?_,by have:=sx.rlen;have:=sy.rlen;rw[l1] at*;rw[l2] at*;simp at*;omega⟩,?_,?_⟩
  ·rw[ly];exact hny.mono (by decide)
  ·exact hA0.cut.keep (by rw[sy.seed,st2.2.2.1]) (by rw[sy.log,st2.2.1]) (by rw[sy.sites,st2.2.2.2])
  ·rw[sy.hosts,d2,aH8,sx.hosts,d1,aH8];exact hA0.hosts
 have hUy:Us 0 y:=by
  have h1:Us 0 w1:=by rw[d1];exact hU0.aCW ..
  have h2:Us 0 x:=by rw[dx];exact h1.settle
  have h3:Us 0 x1:=by rw[d2];exact h2.aCW ..
  rw[dy];exact h3.settle
 have hrm:∀k,¬aIf y k:=λk z=>by
  unfold aIf at z
  rw[sy.log,st2.2.1,p2,(kQ seed (3:Int).toNat (by decide)).rem] at z;cases z
 have hsy:∀i:Int,0<=i/\i<3->jB y i=false:=λi hi=>by
  unfold jB
  rw[sy.stolen,st2.1,p1]
  rcases(show i.toNat=0\/i.toNat=1\/i.toNat=2 by omega) with h|h|h<;>rw[h]<;>rfl
 have may:jD (Uk 0) (aA 0)=true/\jD (Uk 1) (aA 1)=true:=by decide
 have per:∀(i j:Int),0<=i/\i<3->j=0\/j=1->(lG y i j).2=0:=λi j hi hj=>by
  have ht:=bE2 hAy (d:=i.toNat) (by omega) hj
  rw[eN hi.1] at ht
  unfold lG
  rw[ht,hsy i hi]
  refine hUy.ok hAy.wi (by decide) ht (by omega) ?_ (hrm _)
  rcases hj with rfl|rfl
  ·exact may.1
  ·exact may.2
 refine⟨e1a,by rw[sx.eq],e2a,by rw[sy.eq],ly,λi hi=>⟨?_,?_,?_,?_⟩,?_,?_⟩
 ·rw[Wn (S:=Bu++[((1685652244:Int),q)]) (T:=((8:Nat):Int)) (by
   obtain⟨hl,e⟩:=kH (hasx1 i hi)
   rw[e];exact(n2.dev _ hl).bun),hasx1 i hi,at2 i hi,aIg,cA]
  unfold pM
  by_cases hie:i=e
  ·subst hie
   rw[cz rfl,hdl];simp;rfl
  ·rw[cR hie,lkx,show(i !=e)=true by simp[bne,hie]];rfl
 ·rw[Wn (S:=Bu++[((1685652244:Int),q)]) (T:=((11:Nat):Int)) (by rw[aty i hi];exact hny.bun),aty i hi,aIg]
  unfold pM
  rw[lky];simp[wN]
 ·unfold rX
  rw[per i 0 hi (.inl rfl),per i 1 hi (.inr rfl)];rfl
 ·rw[Wn (S:=Bu++[((1685652244:Int),q)]) (T:=((11:Nat):Int)) (by rw[aty i hi];exact hny.bun),aty i hi,hasy i hi,bKk]
  unfold pM
  have:=lkb i.toNat (by omega)
  rw[eN hi.1] at this
  rw[this];rfl
 ·unfold rX lG fC
  rw[hasy3]
  simp only[eu,dc,ab];rfl
 ·unfold oV
  rw[hasy3];rfl
end Go.VK

set_option maxRecDepth 100000
namespace Go.VK
def bHf (l:List D.aAA):Prop:=l.Pairwise λa b=>mW b a=true
structure CldOk (c:D.aAE):Prop where
 bytes:bD8 c
 inc:bHf c.History
section
variable {w:D.World}
end
end Go.VK
