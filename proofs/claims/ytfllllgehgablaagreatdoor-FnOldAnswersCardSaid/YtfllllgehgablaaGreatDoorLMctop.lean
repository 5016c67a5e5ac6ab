import Derived.Test.YtfllllgehgablaaGreatDoorLKatob
/- What holds in all worlds that events lead to: plain laws over the pure definitions, no program in sight. The conditions stand in each. -/
set_option linter.all false
set_option maxRecDepth 100000
namespace Go.VK
structure Dv (S:List (Int×Int)) (T:Int) (log:List D.aAC) (K ep v:Int) (d:D.Device):Prop where
 pre:∃r,log=d.Log++r
 at_:d.Epoch<ep\/(d.Epoch=ep/\d.Version<=v)
 key:d.Epoch=ep->d.Key=K
 bun:BunIn S T d.aAF.Entries
structure Hs (S:List (Int×Int)) (T:Int) (K ep v:Int) (s:D.aAA):Prop where
 low:s.Epoch<=ep
 own:s.Epoch=ep->∃v' b',s=oD K ep v' b'/\0<=v'/\v'<=v/\BunIn S T b'.Entries
structure Net (S:List (Int×Int)) (t m:Nat) (w:D.World) (K v:Int) (r:List D.aAA) (b:D.aAF):Prop where
 wi:WIn m w
 bx:BoxIn w.aAB.Log w.aAB.Boxes K
 devs:∀p∈aD w.aAB.Log,∃k,k<m/\p=tN w.Seed k
 rem:∀p,iJ w.aAB.Log p=true->∃k,k<m/\p=tN w.Seed k
 hist:w.aAB.History=r++[oD K (aJ w.aAB.Log) v b]
 old:∀s∈r,Hs S (t:Int) K (aJ w.aAB.Log) v s
 bun:BunIn S (t:Int) b.Entries
 ver:0<=v/\v<=(t:Int)
 dev:∀k (h:k<w.Devices.length),Dv S (t:Int) w.aAB.Log K (aJ w.aAB.Log) v w.Devices[k]
def Dv.mono {S:List (Int×Int)}{T U:Int}{log:List D.aAC}{K ep v u:Int}{d:D.Device}(h:Dv S T log K ep v d)(hT:T<=U)(hv:v<=u):Dv S U log K ep u d:=
 ⟨h.pre,h.at_.imp id λq=>⟨q.1,e9 q.2 hv⟩,h.key,h.bun.mono hT⟩
def Hs.mono {S:List (Int×Int)}{T U:Int}{K ep v u:Int}{s:D.aAA}(h:Hs S T K ep v s)(hT:T<=U)(hv:v<=u):Hs S U K ep u s:=
 ⟨h.low,λe=>let ⟨v',b',h1,h2,h3,h4⟩:=h.own e;⟨v',b',h1,h2,e9 h3 hv,h4.mono hT⟩⟩
section
variable {S:List (Int×Int)} {t m:Nat} {w:D.World} {K v:Int} {r:List D.aAA} {b:D.aAF}
def Net.last (h:Net S t m w K v r b):Hs S (t:Int) K (aJ w.aAB.Log) v (oD K (aJ w.aAB.Log) v b):=
 ⟨du _,λ_=>⟨v,b,rfl,h.ver.1,du _,h.bun⟩⟩
def Net.hs (h:Net S t m w K v r b){s:D.aAA}(hs:s∈w.aAB.History):Hs S (t:Int) K (aJ w.aAB.Log) v s:=by
 rw[h.hist] at hs
 rcases bw.1 hs with hs|hs
 ·exact h.old s hs
 ·rw[cy.1 hs];exact h.last
def aP5 (K:Int):(eU K ⟨0,0,[],0⟩).2=false:=by
 unfold eU
 cases !(bG K&&(bI (D.aAA.mk 0 0 [] 0).Epoch 0 1000000&&bI (D.aAA.mk 0 0 [] 0).Version 0 1000000))||(D.aAA.mk 0 0 [] 0).MAC !=gH K ⟨0,0,[],0⟩ with
 |true=>rfl
 |false=>
  show(wJ (Iy (jU K 0 0) [])).2=false
  rfl
def bJ2 {d:D.Device}{log:List D.aAC}{bx:D.aAE}{s:D.aAA}(h:(eQ d log bx s==0)=true):
  bZ log d.Log=true/\aY d.Store∈aD log/\aJ log<=s.Epoch/\(eU (bB d.Store bx).1 s).2=true/\(gG d.aAF (eU (bB d.Store bx).1 s).1).2=true:=by
 have h:=eq_of_beq h
 unfold eQ at h
 cases h1: !bC log|| !bZ log d.Log with
 |true=>rw[h1] at h;cases h
 |false=>
 cases h2: !gM (aD log) (aY d.Store) with
 |true=>rw[h1,h2] at h;cases h
 |false=>
 cases h3:bx.Epoch !=aJ log|| !(bB d.Store bx).2 with
 |true=>rw[h1,h2,h3] at h;cases h
 |false=>
 cases h4:decide (s.Epoch<aJ log)||(decide (s.Epoch<d.Epoch)||(s.Epoch==d.Epoch&&decide (s.Version<d.Version))) with
 |true=>rw[h1,h2,h3,h4] at h;cases h
 |false=>
 cases h5: !(eU (bB d.Store bx).1 s).2|| !(gG d.aAF (eU (bB d.Store bx).1 s).1).2 with
 |true=>rw[h1,h2,h3,h4,h5] at h;cases h
 |false=>
 simp only[cn,eh,di] at h1 h2 h4 h5
 exact⟨h1.2,J4.1 h2,by omega,h5.1,h5.2⟩
def Net.set (h:Net S t m w K v r b){i:Nat}{x:D.Device}(hi:i<w.Devices.length)(hx:Dv S (t:Int) w.aAB.Log K (aJ w.aAB.Log) v x):∀k (hk:k<(w.Devices.set i x).length),Dv S (t:Int) w.aAB.Log K (aJ w.aAB.Log) v (w.Devices.set i x)[k]:=λk hk=>by
 rw[fX]
 rw[ax] at hk
 split
 ·exact hx
 ·exact h.dev k hk
def Net.upd (h:Net S t m w K v r b){u:D.World}(h1:u.Seed=w.Seed)(h2:u.aAB=w.aAB)(h3:u.Devices.length=w.Devices.length)(h4:WIn m u)
  (h5:∀k (hk:k<u.Devices.length),Dv S (t:Int) w.aAB.Log K (aJ w.aAB.Log) v u.Devices[k]):Net S t m u K v r b where
 wi:=h4
 bx:=by rw[h2];exact h.bx
 devs:=by rw[h1,h2];exact h.devs
 rem:=by rw[h1,h2];exact h.rem
 hist:=by rw[h2];exact h.hist
 old:=by rw[h2];exact h.old
 bun:=h.bun
 ver:=h.ver
 dev:=by rw[h2];exact h5
def Net.mono (h:Net S t m w K v r b){u:Nat}(hu:t<=u):Net S u m w K v r b where
 wi:=h.wi
 bx:=h.bx
 devs:=h.devs
 rem:=h.rem
 hist:=h.hist
 old:=λs hs=>(h.old s hs).mono (by omega) (du _)
 bun:=h.bun.mono (by omega)
 ver:=by have:=h.ver;omega
 dev:=λk hk=>(h.dev k hk).mono (by omega) (du _)
def Net.aDE (h:Net S t m w K v r b)(hS:KeyS S)(ht:t<=900000){d:D.Device}(hd:Dv S (t:Int) w.aAB.Log K (aJ w.aAB.Log) v d)(c:Int):Dv S (t:Int) w.aAB.Log K (aJ w.aAB.Log) v (bO d w.aAB.Log w.aAB.Boxes (bN w.aAB c).1).1:=by
 unfold bO
 cases h0:eQ d w.aAB.Log w.aAB.Boxes (bN w.aAB c).1==0 with
 |false=>exact hd
 |true=>
  obtain⟨q1,q2,q3,q4,q5⟩:=bJ2 h0
  have ho:=aR0 h.bx q2
  rw[ho] at q4 q5
  rw[ae,ho]
  have hep:=h.bx.eps
  have hf:(bN w.aAB c).1=⟨0,0,[],0⟩\/(bN w.aAB c).1∈w.aAB.History:=by
   unfold bN
   cases hb:decide (c<0)||decide (c>=(w.aAB.History.length:Int)) with
   |true=>exact .inl rfl
   |false=>
    simp only[cn,di] at hb
    refine .inr ?_
    have hl:w.aAB.History.length-1-c.toNat<w.aAB.History.length:=by omega
    show w.aAB.History.getD (w.aAB.History.length-1-c.toNat) default∈_
    rw[List.getD,ac hl,cE];exact cN hl
  rcases hf with hf|hf
  ·rw[hf,aP5] at q4;cases q4
  ·obtain⟨l1,l2⟩:=h.hs hf
   obtain⟨v',b',e,e1,e2,e3⟩:=l2 (by omega)
   have hv:=h.ver
   have hop:eU K (oD K (aJ w.aAB.Log) v' b')=(b',true):=bCa h.bx.kok (by omega) (by omega) (e3.ok hS (by omega))
   rw[e,hop,bCd hS (by omega) hd.bun e3]
   exact⟨⟨[],by simp⟩, .inr ⟨rfl,e2⟩,λ_=>rfl,hd.bun.merge e3⟩
def Net.sync (h:Net S t m w K v r b)(hS:KeyS S)(ht:t<=900000)(d c:Int):Net S t m (aH w d c).1 K v r b:=by
 have hw:=h.wi.sync d c
 unfold aH at hw ⊢
 cases hb:aV w&&aN w d with
 |false=>exact h
 |true=>
  rw[hb] at hw
  rw[aa] at hb
  obtain⟨hd,e⟩:=J3 hb.2
  exact h.upd rfl rfl (ax ..) hw (h.set hd (h.aDE hS ht (by rw[e];exact h.dev _ hd) c))
def Net.aDH (h:Net S t m w K v r b)(hS:KeyS S)(ht:t<=900000)(d:Int){n:ByteArray}{a:Int}(hk:(bT n,a)∈S)(f:Bool):Net S (t+1) m (oW w d n a f).1 K v r b:=by
 have hw:=h.wi.aDH d n a f
 unfold oW at hw ⊢
 cases hb:aV w&&aN w d with
 |false=>exact h.mono (by omega)
 |true=>
  rw[hb] at hw
  rw[aa] at hb
  obtain⟨hd,e⟩:=J3 hb.2
  have hD:=h.dev _ hd
  rw[<-e] at hD
  have c:=bCe hS (by omega) hD.bun hk f
  cases hc:(cO (aO w d) n a f).2 with
  |false=>exact h.mono (by omega)
  |true=>
   rw[hc] at hw
   have h':=h.mono (u:=t+1) (by omega)
   exact h'.upd rfl rfl (ax ..) hw (h'.set hd ⟨by rw[c.log];exact hD.pre,by rw[c.ep,c.ver];exact hD.at_,by rw[c.ep,c.key];exact hD.key,c.bun.mono (by omega)⟩)
end
end Go.VK

set_option maxRecDepth 100000
namespace Go.VK
def aXq (k:Int)(b:List Int):∀z∈jV k b,0<=z/\z<=255:=λz hz=>by
 obtain⟨i,hi,e⟩:=dt.1 hz
 unfold jV at hi e
 have hl:i<b.length:=by
  have:=wK k b
  unfold jV at this;omega
 rw[aGw hl] at e
 rw[<-e]
 unfold aRo
 rw[IntKind.wrap_u8];omega
def J7 {k:Int}{b:List Int}(h:b.length<=34359738368):aQ (jV k b):=
 ⟨by rw[wK];exact h,cG.2 λz hz=>by
  have:=aXq k b z hz
  rw[ao this.1,ao this.2];rfl⟩
def bCf {n k t pin seed:Int}(h:aEu n k t pin seed=true):tL (fA n k t pin seed).aAB:=by
 have hn:n.toNat=1\/n.toNat=2\/n.toNat=3:=by
  unfold aEu at h
  simp only[aa] at h
  have:=jS h.1;omega
 have ec:(fA n k t pin seed).aAB=⟨aS seed n.toNat,eT seed n.toNat,[oD (bL seed 0) 0 1 (nwB n.toNat)]⟩:=by
  unfold fA;rw[h];exact aP2 hn
 rw[ec]
 refine⟨λx hx=> ?_,λs hs=> ?_⟩
 ·obtain⟨i,hi,e⟩:=dt.1 hx
  obtain⟨e',_,he⟩:=(bF4 (seed:=seed) (n:=n.toNat) (by omega) (by omega)).box i hi
  have e:(eT seed n.toNat).Boxes[i]=x:=e
  rw[<-e,he]
  exact J7 (by have:=aZv (aJ (aS seed n.toNat)) (bL seed 0);omega)
 ·have hs:s=oD (bL seed 0) 0 1 (nwB n.toNat):=by simpa using hs
  rw[hs]
  refine J7 ?_
  have:=Cj (nwB n.toNat)
  omega
def aR2 (l:List D.aAA):Prop:=l.Pairwise λa b=>nK b a=true
def aP6 {a b:D.aAA}:nK a b=true↔b.Epoch<a.Epoch\/(a.Epoch=b.Epoch/\b.Version<a.Version):=by
 unfold nK;simp
def aU7 {a b c:D.aAA}(h:nK a b=true)(k:nK b c=true):nK a c=true:=by
 rw[aP6] at*;omega
structure CldOk (c:D.aAB):Prop where
 bytes:tL c
 inc:aR2 c.History
def aI1 {c:D.aAB}(h:CldOk c){s:D.aAA}(hs:aQ s.Data):CldOk (cK c s).1:=by
 unfold cK
 cases hb:s.Epoch !=aJ c.Log||((decide ((c.History.length:Int)>0)&& !nK s (c.History.getD (c.History.length-1) default))||decide ((c.History.length:Int)>=60)) with
 |true=>exact h
 |false=>
  simp only[cn] at hb
  refine⟨⟨h.bytes.1,λx hx=> ?_⟩,?_⟩
  ·rcases bw.1 hx with hx|hx
   ·exact h.bytes.2 x hx
   ·rw[cy.1 hx];exact hs
  ·show aR2 (c.History++[s])
   refine List.pairwise_append.2 ⟨h.inc,eV ..,λa ha b hb'=> ?_⟩
   rw[cy.1 hb']
   obtain⟨i,hi,e⟩:=dt.1 ha
   have hf:=hb.2.1
   rw[ao (show(c.History.length:Int)>0 by omega),da,eh,List.getD,ac (by omega),cE] at hf
   by_cases hl:i=c.History.length-1
   ·subst hl;rw[<-e];exact hf
   ·have:=dm.1 h.inc i (c.History.length-1) hi (by omega) (by omega)
    rw[e] at this
    exact aU7 hf this
def bCg {c:D.aAB}(h:CldOk c){log:List D.aAC}{e:D.aAE}(he:aRw e):CldOk (jK c log e).1:=by
 unfold jK
 cases !bC log||(!bZ log c.Log|| !gF e log) with
 |true=>exact h
 |false=>exact⟨⟨he,h.bytes.2⟩,h.inc⟩
def aMo (p e:Int)(d:List Int)(hd:d.length<=34359738368):aQ (dY p e d).1.Data:=by
 unfold dY
 cases eP p==0||(!bG e||decide ((d.length:Int)>200)) with
 |true=>exact⟨by show 0<=_;omega,rfl⟩
 |false=>exact J7 hd
def aEa {e:Int}{d:List Int}(hd:d.length<=34359738368):∀(l:List Int) (i:Nat),∀x∈(dZ e d i l).1,aQ x.Data
 |[],i,x,hx=>by simp[dZ] at hx
 |p::l,i,x,hx=>by
  unfold dZ at hx
  cases hb:(dY p (IntKind.i64.wrap (e+(i:Int))) d).2&&(dZ e d (i+1) l).2 with
  |false=>rw[hb] at hx;simp at hx
  |true=>
   rw[hb,ae] at hx
   rcases ba.1 hx with rfl|hx
   ·exact aMo _ _ _ hd
   ·exact aEa hd l (i+1) x hx
def J8 (log:List D.aAC)(k e:Int):aRw (bD log k e).1:=by
 unfold bD
 cases !bC log||(!bG k|| !(dZ e (gN [aJ log,k]) 0 (aD log)).2) with
 |true=>intro x hx;simp at hx
 |false=>exact λx hx=>aEa (by have:=aZv (aJ log) k;omega) _ _ x hx
def aU8 (d:D.Device):aQ (dD d).2.1.Data:=by
 have h0:aQ ([]:List Int):=⟨by show 0<=_;omega,rfl⟩
 unfold dD
 cases hw:(lG d.Key d.Epoch (IntKind.i64.wrap (d.Version+1)) d.aAF).2 with
 |false=>exact h0
 |true=>
  show aQ (lG d.Key d.Epoch (IntKind.i64.wrap (d.Version+1)) d.aAF).1.Data
  unfold lG
  cases bG d.Key&&(bI d.Epoch 0 1000000&&bI (IntKind.i64.wrap (d.Version+1)) 0 1000000)&&aP d.aAF with
  |false=>exact h0
  |true=>
   refine J7 ?_
   have:=Cj d.aAF
   omega
section
variable {w:D.World}
def bGa (h:CldOk w.aAB)(d:Int):CldOk (Ud w d).1.aAB:=by
 unfold Ud
 cases(dD (aO w d)).2.2&&(cK w.aAB (dD (aO w d)).2.1).2 with
 |false=>exact h
 |true=>exact aI1 h (aU8 _)
def aU9 (h:CldOk w.aAB)(d:Int):CldOk (fG w d).1.aAB:=by
 unfold fG
 cases(aH w d 0).2==0&&(Ud (aH w d 0).1 d).2 with
 |false=>exact h
 |true=>exact bGa (by rw[(gU w d 0).2.2.2.2.2];exact h) d
def aP7 (h:CldOk w.aAB)(b k p:Int)(key:List D.aAC->Int):CldOk (iA w b k p key).1.aAB:=by
 unfold iA
 dsimp only
 cases(dQ w.aAB.Log k p (aO w b).Store).2&&((bD (dQ w.aAB.Log k p (aO w b).Store).1 (key (dQ w.aAB.Log k p (aO w b).Store).1) (IntKind.i64.wrap (1000+IntKind.i64.wrap (10*((dQ w.aAB.Log k p (aO w b).Store).1.length:Int))))).2&&(jK w.aAB (dQ w.aAB.Log k p (aO w b).Store).1 (bD (dQ w.aAB.Log k p (aO w b).Store).1 (key (dQ w.aAB.Log k p (aO w b).Store).1) (IntKind.i64.wrap (1000+IntKind.i64.wrap (10*((dQ w.aAB.Log k p (aO w b).Store).1.length:Int))))).1).2) with
 |false=>exact h
 |true=>exact bCg h (J8 _ _ _)
def bIo (h:CldOk w.aAB)(b:Int):CldOk (iB w b).1.aAB:=by
 unfold iB
 cases H6 w b with
 |false=>exact h
 |true=>
  show CldOk (yP w b).1.aAB
  have h0:CldOk (aH w b 0).1.aAB:=by rw[(gU w b 0).2.2.2.2.2];exact h
  have h1:CldOk (add1 w b).1.aAB:=aP7 h0 _ _ _ _
  have h3:CldOk (nN w b).1.aAB:=aU9 (w:=jD w b) h1 b
  show CldOk (aH (appW (nN w b).1 (bM (aL w.Seed (w.Devices.length:Int)))) (w.Devices.length:Int) 0).1.aAB
  rw[(gU _ _ _).2.2.2.2.2];exact h3
def bIp (h:CldOk w.aAB)(c x:Int):CldOk (iC w c x).1.aAB:=by
 unfold iC
 cases(aH w c 0).2==0&&(!dU w c&&(!(c==x)&&kG w x)) with
 |false=>exact h
 |true=>
  simp only[ae]
  unfold pF
  cases(lX w c x).2&&((H9 w c x).2&&(I4 w c x).2) with
  |false=>exact h
  |true=>
   have h0:CldOk (gZ w c).aAB:=by unfold gZ;rw[(gU w c 0).2.2.2.2.2];exact h
   have h1:CldOk (lX w c x).1.aAB:=aP7 h0 _ _ _ _
   exact bGa (w:=I1 w c x) h1 c
def bGb (h:CldOk w.aAB)(d:Int)(n:ByteArray)(a:Int)(f:Bool):CldOk (oW w d n a f).1.aAB:=by
 unfold oW
 cases aV w&&aN w d with
 |false=>exact h
 |true=>
  simp only[ae]
  cases(cO (aO w d) n a f).2<;>exact h
def bCh (h:CldOk w.aAB)(d j:Int)(o:D.aAN):CldOk (kW w d j o).1.aAB:=by
 unfold kW
 cases !eD w d j with
 |true=>exact h
 |false=>
  simp only[ab]
  cases !(sO w j).2.2.2 with
  |true=>exact h
  |false=>
   simp only[ab]
   cases !((aEs w d j o).2.1==0)<;>exact h
def bCi (h:CldOk w.aAB)(d:Int):CldOk (mY w d).1.aAB:=by
 unfold mY
 cases eD w d 0&& !dU w d<;>exact h
def bIq {n k t pin seed:Int}:CldOk (fA n k t pin seed).aAB:=by
 cases h:aEu n k t pin seed with
 |false=>
  unfold fA;rw[h]
  exact⟨⟨λx hx=>by simp[aRs] at hx,λx hx=>by simp[aRs] at hx⟩,List.Pairwise.nil⟩
 |true=>
  have hn:n.toNat=1\/n.toNat=2\/n.toNat=3:=by
   unfold aEu at h
   simp only[aa] at h
   have:=jS h.1;omega
  have ec:(fA n k t pin seed).aAB=⟨aS seed n.toNat,eT seed n.toNat,[oD (bL seed 0) 0 1 (nwB n.toNat)]⟩:=by
   unfold fA;rw[h];exact aP2 hn
  exact⟨bCf h,by rw[ec];exact eV ..⟩
def bMi {d:Int}(h:aN w d=true):w.Devices.set d.toNat (aO w d)=w.Devices:=by
 obtain⟨hl,e⟩:=J3 h
 rw[e];exact List.set_getElem_self hl
def aZy {d c:Int}(h:((aH w d c).2==0)=false):(aH w d c).1=w:=by
 unfold aH at h ⊢
 cases hb:aV w&&aN w d with
 |false=>rfl
 |true=>
  rw[hb] at h
  rw[aa] at hb
  unfold bO at h ⊢
  cases h0:eQ (aO w d) w.aAB.Log w.aAB.Boxes (bN w.aAB c).1==0 with
  |true=>rw[h0] at h;cases h
  |false=>
   show({w with Devices:=w.Devices.set d.toNat (aO w d)}:D.World)=w
   rw[bMi hb.2]
def aVa (d:D.Device)(log:List D.aAC)(bx:D.aAE):(eQ d log bx ⟨0,0,[],0⟩==0)=false:=by
 cases h:eQ d log bx ⟨0,0,[],0⟩==0 with
 |false=>rfl
 |true=>
  obtain⟨_,_,_,q,_⟩:=bJ2 h
  rw[aP5] at q;cases q
def bGc (hi:aR2 w.aAB.History){d c:Int}(h:((aH w d c).2==0)=true):((aH (aH w d c).1 d (c+1)).2==0)=false:=by
 obtain⟨⟨k1,k2⟩,k3,k4,k5⟩:=jP h
 have hs:aH w d c=({w with Devices:=w.Devices.set d.toNat (bO (aO w d) w.aAB.Log w.aAB.Boxes (bN w.aAB c).1).1},(bO (aO w d) w.aAB.Log w.aAB.Boxes (bN w.aAB c).1).2):=by
  unfold aH;rw[k1,k2];rfl
 rw[hs] at h
 unfold bO at hs h
 cases h0:eQ (aO w d) w.aAB.Log w.aAB.Boxes (bN w.aAB c).1==0 with
 |false=>
  rw[h0] at h
  have h:(eQ (aO w d) w.aAB.Log w.aAB.Boxes (bN w.aAB c).1==0)=true:=h
  rw[h0] at h;cases h
 |true=>
  rw[h0,ae] at hs
  obtain⟨hl,_⟩:=J3 k2
  have hc:0<=c/\c<(w.aAB.History.length:Int):=by
   refine Decidable.byContradiction λhn=> ?_
   have:(bN w.aAB c).1=⟨0,0,[],0⟩:=by
    unfold bN
    rw[show(decide (c<0)||decide (c>=(w.aAB.History.length:Int)))=true by simp;omega];rfl
   rw[this,aVa] at h0;cases h0
  have hf:(bN w.aAB c).1=w.aAB.History[w.aAB.History.length-1-c.toNat]'(by omega):=by
   unfold bN
   rw[au (show ¬c<0 by omega),au (show ¬c>=(w.aAB.History.length:Int) by omega)]
   show w.aAB.History.getD _ default=_
   rw[List.getD,ac (by omega),cE]
  have hX:aO (aH w d c).1 d=⟨(aO w d).Store,w.aAB.Log,(bB (aO w d).Store w.aAB.Boxes).1,(bN w.aAB c).1.Epoch,(bN w.aAB c).1.Version,(gG (aO w d).aAF (eU (bB (aO w d).Store w.aAB.Boxes).1 (bN w.aAB c).1).1).1⟩:=by
   rw[hs]
   unfold aO
   show(w.Devices.set d.toNat _).getD d.toNat default=_
   rw[List.getD,bh hl];rfl
  have hcl:(aH w d c).1.aAB=w.aAB:=(gU w d c).2.2.2.2.2
  cases hr:(aH (aH w d c).1 d (c+1)).2==0 with
  |false=>rfl
  |true=>
   exfalso
   obtain⟨⟨r1,r2⟩,_⟩:=jP hr
   have hr:((bO (aO (aH w d c).1 d) (aH w d c).1.aAB.Log (aH w d c).1.aAB.Boxes (bN (aH w d c).1.aAB (c+1)).1).2==0)=true:=by
    generalize(aH w d c).1=u at hr r1 r2
    unfold aH at hr
    rw[r1,r2] at hr;exact hr
   unfold bO at hr
   have hb:(eQ (aO (aH w d c).1 d) (aH w d c).1.aAB.Log (aH w d c).1.aAB.Boxes (bN (aH w d c).1.aAB (c+1)).1==0)=true:=by
    cases hb:eQ (aO (aH w d c).1 d) (aH w d c).1.aAB.Log (aH w d c).1.aAB.Boxes (bN (aH w d c).1.aAB (c+1)).1==0 with
    |true=>rfl
    |false=>
     rw[hb] at hr
     have hr:(eQ (aO (aH w d c).1 d) (aH w d c).1.aAB.Log (aH w d c).1.aAB.Boxes (bN (aH w d c).1.aAB (c+1)).1==0)=true:=hr
     rw[hb] at hr;cases hr
   rw[hcl,hX] at hb
   by_cases hc1:c+1<(w.aAB.History.length:Int)
   ·have hf1:(bN w.aAB (c+1)).1=w.aAB.History[w.aAB.History.length-1-(c+1).toNat]'(by omega):=by
     unfold bN
     rw[au (show ¬c+1<0 by omega),au (show ¬c+1>=(w.aAB.History.length:Int) by omega)]
     show w.aAB.History.getD _ default=_
     rw[List.getD,ac (by omega),cE]
    have hfr:=dm.1 hi (w.aAB.History.length-1-(c+1).toNat) (w.aAB.History.length-1-c.toNat) (by omega) (by omega) (by omega)
    rw[<-hf,<-hf1,aP6] at hfr
    have hb:=eq_of_beq hb
    unfold eQ at hb
    cases h1: !bC w.aAB.Log|| !bZ w.aAB.Log w.aAB.Log with
    |true=>rw[h1] at hb;cases hb
    |false=>
    cases h2: !gM (aD w.aAB.Log) (aY (aO w d).Store) with
    |true=>rw[h1,h2] at hb;cases hb
    |false=>
    cases h3:w.aAB.Boxes.Epoch !=aJ w.aAB.Log|| !(bB (aO w d).Store w.aAB.Boxes).2 with
    |true=>rw[h1,h2,h3] at hb;cases hb
    |false=>
    have h4:(decide ((bN w.aAB (c+1)).1.Epoch<aJ w.aAB.Log)||(decide ((bN w.aAB (c+1)).1.Epoch<(bN w.aAB c).1.Epoch)||((bN w.aAB (c+1)).1.Epoch==(bN w.aAB c).1.Epoch&&decide ((bN w.aAB (c+1)).1.Version<(bN w.aAB c).1.Version))))=true:=by
     rcases hfr with q|⟨q1,q2⟩
     ·rw[ao q];simp
     ·rw[q1,dx,ao q2];simp
    rw[h1,h2,h3,h4] at hb;cases hb
   ·have:(bN w.aAB (c+1)).1=⟨0,0,[],0⟩:=by
     unfold bN
     rw[show(decide (c+1<0)||decide (c+1>=(w.aAB.History.length:Int)))=true by simp;omega];rfl
    rw[this,aVa] at hb;cases hb
end
end Go.VK
