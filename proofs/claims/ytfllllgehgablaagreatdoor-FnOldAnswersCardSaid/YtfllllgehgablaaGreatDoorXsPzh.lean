import Derived.Test.YtfllllgehgablaaGreatDoorXsPzg
import Derived.Test.YtfllllgehgablaaGreatDoorXsM
import Derived.Test.YtfllllgehgablaaGreatDoorLKatob
import Derived.Test.YtfllllgehgablaaGreatDoorLMctop
/- Printed by wip/tools: models, walks, proofs. -/
set_option linter.all false
set_option maxRecDepth 100000
set_option maxHeartbeats 4000000
namespace Go.VK
open Go.RowKit Go.Proofs
noncomputable section
open EV (bU)
section
variable {ρ σ τ S:Type}
def Ex (x:Option τ)(Q:τ->Prop):Prop:=∃r,x=some r/\Q r
def fB {Q:τ->Prop}{r:τ}(h:Q r):Ex (some r) Q:=⟨r,rfl,h⟩
def bdE {x:Option σ}{f:σ->Option τ}(P:σ->Prop){Q:τ->Prop}(h:Ex x P)(k:∀r,P r->Ex (f r) Q):Ex (bd x f) Q:=by
 obtain⟨r,rfl,p⟩:=h;exact k r p
def gdE {c:Prop}[Decidable c]{x:Option τ}{Q:τ->Prop}(h:c)(k:Ex x Q):Ex (gd c x) Q:=by rw[aB h];exact k
def bgE {c:Prop}[Decidable c]{v:σ}{f:σ->Option τ}{Q:τ->Prop}(h:c)(k:Ex (f v) Q):Ex (bd (gd c (some v)) f) Q:=by rw[aB h];exact k
def rM {c:Bool}{x y:Option τ}{Q:τ->Prop}(h:c=true->Ex x Q)(k:c=false->Ex y Q):Ex (bif c then x else y) Q:=by
 cases c with
 |true=>exact h rfl
 |false=>exact k rfl
def blE {c:D.aAQ}{n:Int}{f:D.aAQ×Int->Option τ}{Q:τ->Prop}(h:aX c)(k:∀c' v,aX c'->0<=v->(0<n->v<n)->Ex (f (c',v)) Q):Ex (bd (gd (aX c) (some (bK c n))) f) Q:=
 bgE h (k _ _ (kS h n).1 (kS h n).2.1 (kS h n).2.2.1)
def onE {c:D.aAQ}{n:Int}{f:D.aAQ×Bool->Option τ}{Q:τ->Prop}(h:aX c)(k:∀c' v,aX c'->Ex (f (c',v)) Q):Ex (bd (gd (aX c) (some (oH c n))) f) Q:=
 bgE h (k (oH c n).1 (oH c n).2 (kS h n).1)
def inE {c:D.aAQ}{l:List Int}{f:D.aAQ×Int->Option τ}{Q:τ->Prop}(h:aX c)(hl:0<l.length)(k:∀c' v,aX c'->v∈l->Ex (f (c',v)) Q):Ex (bd (gd (aX c/\0<l.length) (some (Vv c l))) f) Q:=
 bgE ⟨h,hl⟩ (k _ _ (aX6 h l).1 ((aX6 h l).2 hl))
def St (V:Nat->S->Prop)(Q:τ->Prop)(i:Nat)(rec:S->Option τ)(x:Option τ):Prop:=(∃s',V (i+1) s'/\x=rec s')\/Ex x Q
section
variable {V:Nat->S->Prop} {Q:τ->Prop} {i:Nat} {rec:S->Option τ}
def bCx {s:S}(h:V (i+1) s):St V Q i rec (rec s):= .inl ⟨s,h,rfl⟩
def bdS {x:Option σ}{f:σ->Option τ}(P:σ->Prop)(h:Ex x P)(k:∀r,P r->St V Q i rec (f r)):St V Q i rec (bd x f):=by
 obtain⟨r,rfl,p⟩:=h;exact k r p
def bgS {c:Prop}[Decidable c]{v:σ}{f:σ->Option τ}(h:c)(k:St V Q i rec (f v)):St V Q i rec (bd (gd c (some v)) f):=by rw[aB h];exact k
def bGm {c:Bool}{x y:Option τ}(h:c=true)(k:St V Q i rec x):St V Q i rec (bif c then x else y):=by rw[h];exact k
def blS {c:D.aAQ}{n:Int}{f:D.aAQ×Int->Option τ}(h:aX c)(k:∀c' v,aX c'->0<=v->(0<n->v<n)->St V Q i rec (f (c',v))):St V Q i rec (bd (gd (aX c) (some (bK c n))) f):=
 bgS h (k _ _ (kS h n).1 (kS h n).2.1 (kS h n).2.2.1)
end
def bCy {F:(S->Option τ)->S->Option τ}(V:Nat->S->Prop)(N:Nat){Q:τ->Prop}{s:S}(hN:N<=18446744073709551616)(h0:V 0 s)(step:∀i s rec,i<N->V i s->St V Q i rec (F rec s))(last:∀s rec,V N s->Ex (F rec s) Q):Ex (bU FUEL F s) Q:=
 bEx V N Q step last N 0 FUEL s (by omega) (by have:=fO;omega) h0
end
abbrev WU:=Int×Int×List D.Device×List Bool×List D.aAC×Int×List D.Box×List D.aAA×List D.Site×Int×Int×Int×Int×List D.aAG×Int×List D.aAR
def wT (w:D.World):WU:=(w.Now,w.Seed,w.Devices,w.Stolen,w.aAB.Log,w.aAB.Boxes.Epoch,w.aAB.Boxes.Boxes,w.aAB.History,w.Sites,w.aAP.Salt,w.aAP.Threshold,w.aAP.Check,w.aAP.Masked,w.Hosts,w.Pin,w.Mail.Notices)
def aZ7 (n k t pin seed:Int)(cb:List Int)(ci ch:Int):Option (List Int×Int×Int×WU):=bd (bif !bI n 1 3 then some true else bif !bI k 1 7 then some true else bif !bI t 1 k then some true else bif !bI pin 0 9999 then some true else some (!bG seed)) λz7=>bif z7 then some (cb,ci,ch,(0:Int),(0:Int),[],[],[],(0:Int),[],[],[],(0:Int),(0:Int),(0:Int),(0:Int),[],(0:Int),[]) else bd (bU (α:=List D.aAC×List D.Device×List Bool) FUEL (λrec9 (i9:(List D.aAC×Nat×List D.Device×List Bool))=>bif (↑i9.2.1:Int)<n then gd (aW i9.2.2.1 [D.Device.mk (D.aAI.mk 1 ↑i9.2.1 (aT seed [277,↑i9.2.1]) 0) [] 0 0 0 (D.aAF.mk [])]) (gd (aW i9.2.2.2 [false]) (bd (bA (i9.2.2.1++[D.Device.mk (D.aAI.mk 1 ↑i9.2.1 (aT seed [277,↑i9.2.1]) 0) [] 0 0 0 (D.aAF.mk [])]) 0) λz10=>bd (gd (i9.1.length<=34359738300) (some (dQ i9.1 1 (aY (D.aAI.mk 1 ↑i9.2.1 (aT seed [277,↑i9.2.1]) 0)) z10.Store))) λz11=>rec9 (z11.1,(i9.2.1+1),i9.2.2.1++[D.Device.mk (D.aAI.mk 1 ↑i9.2.1 (aT seed [277,↑i9.2.1]) 0) [] 0 0 0 (D.aAF.mk [])],i9.2.2.2++[false]))) else some (i9.1,i9.2.2)) ([],0,[],[])) λz8=>bd (gd (z8.1.length<=34359738300) (some (bD z8.1 (bL seed 0) 1000))) λz9=>bd (gd (z8.1.length<=34359738368/\z9.1.sz<=34359738368) (some (dF z8.1 z9.1))) λz10=>bd (bU (α:=List D.Site) FUEL (λrec12 (i12:(List D.Site×Nat))=>bif (↑i12.2:Int)<2 then bd (bd (gd ([(281:Int),(↑i12.2:Int)].length<=34359738300) (some (aT seed [281,↑i12.2]))) λz14=>bd (gd ((aA ↑i12.2).size<=34359738368) (some (eZ (aA ↑i12.2) z14))) λz15=>bd (gd (z15.sz<=34359738300) (some (kQ z15 1 3))) λz16=>bd (bU (α:=ByteArray×List D.aAH×Int×Int×List D.aAM×List Int) FUEL (λrec18 (i18:(Nat×ByteArray×List D.aAH×Int×Int×List D.aAM×List Int))=>bif (↑i18.1:Int)<z8.2.1.length then bd (bA z8.2.1 ↑i18.1) λz19=>bd (gd ((aA ↑i12.2).size<=34359738300) (some (dM z19.Store (aA ↑i12.2) ↑i18.1))) λz20=>bd (gd ((D.Site.mk i18.2.1 i18.2.2.1 (D.aAD.mk i18.2.2.2.1 i18.2.2.2.2.1 i18.2.2.2.2.2.1) i18.2.2.2.2.2.2).sz<=34359738300) (some (eG (D.Site.mk i18.2.1 i18.2.2.1 (D.aAD.mk i18.2.2.2.1 i18.2.2.2.2.1 i18.2.2.2.2.2.1) i18.2.2.2.2.2.2) 1 ↑i18.1 z20))) λz21=>rec18 ((i18.1+1),z21.1.Name,z21.1.Accounts,z21.1.Book.Seed,z21.1.Book.Next,z21.1.Book.Open,z21.1.Logins) else some i18.2) (0,z16.1.Name,z16.1.Accounts,z16.1.Book.Seed,z16.1.Book.Next,z16.1.Book.Open,z16.1.Logins)) λz17=>gd (aW i12.1 [D.Site.mk z17.1 z17.2.1 (D.aAD.mk z17.2.2.1 z17.2.2.2.1 z17.2.2.2.2.1) z17.2.2.2.2.2]) (some (i12.1++[D.Site.mk z17.1 z17.2.1 (D.aAD.mk z17.2.2.1 z17.2.2.2.1 z17.2.2.2.2.1) z17.2.2.2.2.2]))) λz13=>rec12 (z13,(i12.2+1)) else some i12.1) ([],0)) λz11=>bd (bU (α:=List D.Device) FUEL (λrec13 (i13:(Nat×List D.Device))=>bif (↑i13.1:Int)<n then bd (bA i13.2 ↑i13.1) λz14=>bd (gd (z14.sz<=34359738368/\z8.1.length<=34359738368) (some (lW z14 z8.1 (bL seed 0)))) λz15=>bd (bA i13.2 ↑i13.1) λz16=>rec13 ((i13.1+1),i13.2.set (↑i13.1:Int).toNat z15.1) else some i13.2) (0,z8.2.1)) λz12=>bd (bU (α:=List D.Device) FUEL (λrec14 (i14:(Nat×List D.Device))=>bif (↑i14.1:Int)<2 then bd (bU (α:=List D.Device) FUEL (λrec16 (i16:(Nat×List D.Device))=>bif (↑i16.1:Int)<n then bd (bA i16.2 0) λz17=>bd (gd (z17.sz<=34359738360/\(aA ↑i14.1).size<=34359738300) (some (cO z17 (aA ↑i14.1) ↑i16.1 false))) λz18=>bd (bA i16.2 0) λz19=>rec16 ((i16.1+1),i16.2.set (0:Int).toNat z18.1) else some i16.2) (0,i14.2)) λz15=>rec14 ((i14.1+1),z15) else some i14.2) (0,z12)) λz13=>bd (bA z13 0) λz14=>bd (gd (z14.sz<=34359738368) (some (dD z14))) λz15=>bd (bA z13 0) λz16=>bd (gd (z10.1.sz<=34359738300/\z15.2.1.sz<=34359738300) (some (cK z10.1 z15.2.1))) λz17=>bd (bU (α:=List D.Device) FUEL (λrec19 (i19:(Int×List D.Device))=>bif i19.1<n then bd (bA i19.2 i19.1) λz20=>bd (gd (z20.sz<=34359738100/\z17.1.sz<=34359738100) (some (bO z20 z17.1.Log z17.1.Boxes (bN z17.1 0).1))) λz21=>bd (bA i19.2 i19.1) λz22=>rec19 (IntKind.i64.wrap (i19.1+1),i19.2.set i19.1.toNat z21.1) else some i19.2) ((1:Int),z13.set (0:Int).toNat z15.1)) λz18=>bd (bU (α:=List Int) FUEL (λrec20 (i20:(List Int×Int))=>bif i20.2<t then bd (gd ([(307:Int),i20.2].length<=34359738300) (some (aT seed [307,i20.2]))) λz21=>gd (aW i20.1 [z21]) (rec20 (i20.1++[z21],IntKind.i64.wrap (i20.2+1))) else some i20.1) ([],(1:Int))) λz19=>bd (gd ([(283:Int)].length<=34359738300) (some (aT seed [283]))) λz20=>bd (gd ([(293:Int)].length<=34359738300) (some (aT seed [293]))) λz21=>gd ((1018:Int)≠(0:Int)) (bd (gd (z19.length<=34359738368) (some (Gf pin 7 z20 (IntKind.i64.wrap ((1:Int)+z21.tmod (1018:Int))) z19 k 5))) λz22=>some (cb,ci,ch,(0:Int),seed,z18,z8.2.2,z17.1.Log,z17.1.Boxes.Epoch,z17.1.Boxes.Boxes,z17.1.History,z11,z22.1.Salt,z22.1.Threshold,z22.1.Check,z22.1.Masked,z22.2.1,pin,[]))
def bGn (n k t pin seed:Int)(cb:List Int)(ci ch:Int):aZ7 n k t pin seed cb ci ch=some (cb,ci,ch,wT (fA n k t pin seed)):=by
 unfold aZ7 fA aEu
 cases h1:bI n 1 3 with
 |false=>rfl
 |true=>
 cases h2:bI k 1 7 with
 |false=>rfl
 |true=>
 cases h3:bI t 1 k with
 |false=>rfl
 |true=>
 cases h4:bI pin 0 9999 with
 |false=>rfl
 |true=>
 cases h5:bG seed with
 |false=>rfl
 |true=>
 have hn:=jS h1;have hk:=jS h2;have ht:=jS h3
 obtain⟨N,rfl⟩:∃N:Nat,n=(N:Int):=⟨n.toNat,by omega⟩
 rw[cm]
 have hN:1<=N/\N<=3:=by omega
 have hL:=nO seed N
 have hB:=aIo seed N
 have hC:=aIp seed N
 simp only[bf,ab,dw,ae,bd_s,bMq,bN7]
 rw[Oq (r:=(aS seed N,dB seed N,List.replicate N false)) (λi=>(aS seed i,i,dB seed i,List.replicate i false)) N (s:=([],0,[],[])) (by omega) (λrec i hi=>by
  have e2:=bCt seed i
  have e3:=nO seed i
  have e4:=Ot seed i
  rw[Q0] at e2
  simp only[dL hi,ae,aB (show aW (dB seed i) [bM (aL seed (i:Int))] from bI7 (by omega) (by simp)),aB (show aW (List.replicate i false) [false] from bI7 (by rw[fe];omega) (by simp)),e2,bd_s,aB (show(aS seed i).length<=34359738300 by omega),Q0,List.replicate_succ']
  rfl) (λrec=>by simp only[dP,ab]) rfl]
 have hE:(bD (aS seed N) (bL seed 0) 1000).1=eT seed N:=rfl
 simp only[bd_s,aB (show(aS seed N).length<=34359738300 by omega),hE,aB (show(aS seed N).length<=34359738368/\(eT seed N).sz<=34359738368 from⟨by omega,by omega⟩)]
 have hD:=Ot seed N
 rw[Oq (r:=wO (dB seed N) seed) (λj=>((wO (dB seed N) seed).take j,j)) 2 (s:=([],0)) (by omega) (λrec j hj=>by
  have hs:=aEe (j:Int)
  have h6:=aD6 (aA (j:Int)) (aT seed [281,(j:Int)])
  have h7:=aIq (eZ (aA (j:Int)) (aT seed [281,(j:Int)])) 1 3
  simp only[ao (show(j:Int)<2 by omega),ae,aB (show[281,(j:Int)].length<=34359738300 by simp),bd_s,aB (show(aA (j:Int)).size<=34359738368 by omega),aB (show(eZ (aA (j:Int)) (aT seed [281,(j:Int)])).sz<=34359738300 by omega)]
  rw[bCu (nm:=aA (j:Int)) (l:=dB seed N) (s0:=(kQ (eZ (aA (j:Int)) (aT seed [281,(j:Int)])) 1 3).1) (by omega) (by omega) (λrec i hi s hsz=>by
   simp only[dL hi,ae,aM hi,bd_s,aB (show(aA (j:Int)).size<=34359738300 by omega),aZ6,aB (show s.sz<=34359738300 by omega)]) (λrec s=>by simp only[dP,ab])]
  have e1:((wO (dB seed N) seed).take j).length<=1000:=by rw[bz];omega
  have ha:∀x:D.Site,aW ((wO (dB seed N) seed).take j) [x]:=λx=>bI7 e1 (by simp)
  simp only[bd_s,aZ6,aB (ha _)]
  have hj':j=0\/j=1:=by omega
  rcases hj' with rfl|rfl<;>rfl) (λrec=>by rfl) rfl]
 simp only[bd_s]
 have hd1:∀d∈dB seed N,d.sz=0:=λd hd=>by
  simp only[dB,cg] at hd
  obtain⟨i,_,rfl⟩:=hd;rfl
 rw[show(0,dB seed N)=((λi:Nat=>i) ([]:List D.Device).length,([]:List D.Device)++dB seed N) from rfl,bGk (λi:Nat=>i) (p0:=[]) (l:=dB seed N) (sP seed N) (by omega) (λrec p d r hp hd=>by
  have h0:=hd1 d hd
  simp only[bo] at hp
  simp only[dL (show p.length<N by omega),ae,aVr,bd_s,aB (show d.sz<=34359738368/\(aS seed N).length<=34359738368 from⟨by omega,by omega⟩),cm,set_mid rfl,ce,fb];rfl) (λrec p hp=>by
  simp only[bo,hD,ca,dP,ab])]
 obtain⟨R,hR⟩:∃R,R=((dB seed N).drop 1).map (sP seed N):=⟨_,rfl⟩
 have hm:(dB seed N).map (sP seed N)=sP seed N (bM (aL seed 0))::R:=by
  have:=congrArg (List.map (sP seed N)) (aSa seed N hN.1)
  rw[this,hR];rfl
 have hRl:R.length=N-1:=by rw[hR,bl,ck,hD]
 have hRz:∀d∈R,d.sz<=10:=λd hd=>by
  rw[hR,cg] at hd
  obtain⟨x,hx,rfl⟩:=hd
  have h0:=hd1 x (dl hx)
  have:=aGt seed N x
  omega
 have hA:=aGt seed N (bM (aL seed 0))
 rw[aA1] at hA
 have hq:∀x:D.Device,bA (x::R) 0=some x:=λx=>rfl
 rw[bn,hm,bd_s,bCw (n:=N) (d:=sP seed N (bM (aL seed 0))) (r:=R) hN.2 (by omega) (λrec j x hj hx=>by
  simp only[ao (show(j:Int)<2 by omega),ae]
  rw[bCv (nm:=aA (j:Int)) (n:=N) (d:=x) (r:=R) hN.2 hx (λrec i x hi hx=>by
   have hs:=aEe (j:Int)
   simp only[dL hi,ae,hq,bd_s,aB (show x.sz<=34359738360/\(aA (j:Int)).size<=34359738300 from⟨by omega,by omega⟩)];rfl) (λrec x=>by simp only[dP,ab])]
  simp only[bd_s]) (λrec x=>by rfl)]
 have hf:aKi N (sP seed N (bM (aL seed 0))) 2=jR seed N:=rfl
 have hw:dD (jR seed N)=nwW seed N:=rfl
 have hc:(cK (dF (aS seed N) (eT seed N)).1 (nwW seed N).2.1).1=gT seed N:=rfl
 have hF:=aIn seed N
 have hW:=vQ (jR seed N)
 rw[hw] at hW
 have hNC:=Lx (aS seed N) (eT seed N)
 have hset:∀x y:D.Device,(x::R).set (0:Int).toNat y=y::R:=λ_ _=>rfl
 simp only[bd_s,hf,hq,aB (show(jR seed N).sz<=34359738368 by omega),hw,aB (show(dF (aS seed N) (eT seed N)).1.sz<=34359738300/\(nwW seed N).2.1.sz<=34359738300 from⟨by omega,by have:=hW.2;simp only[D.aAA.sz];omega⟩),hc,hset]
 rw[show((1:Int),(nwW seed N).1::R)=((λi:Nat=>(i:Int)) ([(nwW seed N).1]:List D.Device).length,[(nwW seed N).1]++R) from rfl,bGk (λi:Nat=>(i:Int)) (p0:=[(nwW seed N).1]) (l:=R) (λd=>(bO d (gT seed N).Log (gT seed N).Boxes (bN (gT seed N) 0).1).1) (by omega) (λrec p d r hp hd=>by
  have h0:=hRz d hd
  simp only[av,bo] at hp
  simp only[dL (show p.length<N by omega),ae,aVr,bd_s,aB (show d.sz<=34359738100/\(gT seed N).sz<=34359738100 from⟨by omega,by omega⟩),cm,set_mid rfl,ce,fb,aI (show-9223372036854775808<=(p.length:Int)+1 by omega) (show(p.length:Int)+1<=9223372036854775807 by omega)];rfl) (λrec p hp=>by
  simp only[show([(nwW seed N).1]:List D.Device).length+R.length=N by simp only[av,bo];omega,dP,ab])]
 have hS:[(nwW seed N).1]++R.map (λd=>(bO d (gT seed N).Log (gT seed N).Boxes (bN (gT seed N) 0).1).1)=iF seed N:=by
  rw[hR,gz]
  show(nwW seed N).1::_=(nwW seed N).1::_
  congr 1
  exact gh λd _=>bIa seed N d
 rw[hS]
 simp only[bd_s]
 rw[aX4 (seed:=seed) (t:=t) ⟨by omega,by omega⟩ (λrec s i h0 h1 h2=>by
  have ha:∀x:Int,aW s [x]:=λx=>bI7 (by omega) (by simp)
  simp only[aB (show([307,i]:List Int).length<=34359738300 by simp),bd_s,aB (ha _),aI (show-9223372036854775808<=i+1 by omega) (show i+1<=9223372036854775807 by omega)])]
 have hcl:(aIm seed t).length<=34359738368:=by simp only[aIm,bl,fN];omega
 simp only[bd_s,aB (show([283]:List Int).length<=34359738300 by simp),aB (show([293]:List Int).length<=34359738300 by simp),aB (show(1018:Int)≠0 by decide),aB hcl]
 rfl
def bCz (w:D.World)(d j:Int)(o:D.aAN):(kW w d j o).1.Now=w.Now:=by
 unfold kW
 cases !eD w d j with
 |true=>rfl
 |false=>
  cases !(sO w j).2.2.2 with
  |true=>rfl
  |false=>cases !((aEs w d j o).2.1==0)<;>rfl
def bGo (w:D.World)(d:Int)(n:ByteArray)(a:Int)(r:Bool):(oW w d n a r).1.Now=w.Now:=by
 unfold oW
 cases aV w&&aN w d with
 |false=>rfl
 |true=>cases(cO (aO w d) n a r).2<;>rfl
def aQj (w:D.World)(b k p:Int)(key:List D.aAC->Int):(iA w b k p key).1.Now=w.Now:=by
 unfold iA
 simp only[]
 generalize dQ w.aAB.Log k p (aO w b).Store=l
 generalize bD l.1 (key l.1) (IntKind.i64.wrap (1000+IntKind.i64.wrap (10*(l.1.length:Int))))=e
 cases l.2&&(e.2&&(jK w.aAB l.1 e.1).2)<;>rfl
def Q9 (w:D.World)(d b:Int):(aH w d b).1.Now=w.Now:=(gU w d b).2.1
def aVs (w:D.World)(d:Int):(fG w d).1.Now=w.Now:=(Qo w d).2.1
def bI9 (w:D.World)(b:Int):(iB w b).1.Now=w.Now:=by
 unfold iB
 cases H6 w b with
 |false=>rfl
 |true=>
  show(yP w b).1.Now=w.Now
  have h3:(nN w b).1.Now=w.Now:=by
   unfold nN
   rw[aVs]
   exact(aQj _ _ _ _ _).trans (Q9 _ _ _)
  unfold yP
  first
   |exact h3
   |exact(Q9 _ _ _).trans h3
def bC0 (w:D.World)(d:Int):(mY w d).1.Now=w.Now:=by
 unfold mY
 cases eD w d 0&& !dU w d<;>rfl
def bJa (w:D.World)(b t:Int):(iC w b t).1.Now=w.Now:=by
 unfold iC
 generalize((aH w b 0).2==0&&(!dU w b&&(!(b==t)&&kG w t)))=q
 cases q with
 |false=>rfl
 |true=>
  show(pF w b t).1.Now=w.Now
  have h1:(lX w b t).1.Now=w.Now:=(aQj _ _ _ _ _).trans (Q9 _ _ _)
  have h3:(I4 w b t).1.Now=w.Now:=(aRy _ _).2.1.trans h1
  unfold pF
  cases(lX w b t).2&&((H9 w b t).2&&(I4 w b t).2) with
  |false=>rfl
  |true=>exact h3
def aX7 (w:D.World)(d j:Int):(pG w d j).1.Now=w.Now:=by
 unfold pG
 cases eD w d j&& !dU w d with
 |false=>rfl
 |true=>exact bCz ..
def aX8 {w:D.World}(h:CldOk w.aAB)(d j:Int):CldOk (pG w d j).1.aAB:=by
 unfold pG
 cases eD w d j&& !dU w d with
 |false=>exact h
 |true=>exact bCh h ..
def aVt {w:D.World}(h:CldOk w.aAB)(d b:Int):CldOk (aH w d b).1.aAB:=by rw[(gU w d b).2.2.2.2.2];exact h
def aX9 (k e v:Int)(b:D.aAF):aQ (lG k e v b).1.Data/\(lG k e v b).1.Data.length<=500:=by
 refine⟨?_,aPj k e v b⟩
 unfold lG
 cases bG k&&(bI e 0 1000000&&bI v 0 1000000)&&aP b with
 |false=>exact⟨by show 0<=_;omega,rfl⟩
 |true=>
  refine J7 ?_
  have:=Cj b
  omega
structure Wv (i:Nat) (w:D.World):Prop where
 inn:WIn w.Devices.length w
 now:w.Now<=(i:Int)
 sz:w.sz<=100000+3000*i
 cld:CldOk w.aAB
def Wv.next {i:Nat}{w v:D.World}(h:Wv i w)(k:Kept w v)(n:v.Now=w.Now)(c:CldOk v.aAB):Wv (i+1) v:=
 ⟨k.wi,by rw[n];have:=h.now;omega,by have:=h.sz;have:=k.sz;omega,c⟩
def PW (p:D.World->Prop)(r:List Int×Int×Int×WU):Prop:=∃c w,aX c/\p w/\r=(c.b,c.i,c.h,wT w)
def bGp (r:D.World×Int×Int):Prop:=∃w d b,r=(w,d,b)/\w.sz<=1000000/\CldOk w.aAB/\-1<=b/\b<=3
def aEf {c:D.aAQ}{n:Int}{W:D.World}(hc:aX c)(hz:W.sz<=1000000)(hd:CldOk W.aAB):
  Ex (bd (gd (aX c) (some (bK c n))) λz5=>bd (gd (aX z5.1) (some (bK z5.1 4))) λz6=>some (W,IntKind.i64.wrap (z5.2-1),IntKind.i64.wrap (z6.2-1))) bGp:=
 blE hc λc1 v1 h1 _ _=>blE h1 λc2 v2 h2 a b=>fB ⟨W,_,_,rfl,hz,hd,by
  have b:=b (by decide)
  rw[aI (by omega) (by omega)];omega⟩
def bPz {c:D.aAQ}{l:List ByteArray}(h:aX c)(h0:0<l.length)(hl:∀s∈l,s.size<=100):Ex (vJ c l) λr=>aX r.1/\r.2.size<=100:=by
 unfold vJ
 refine blE h λc1 v h1 a b=> ?_
 have b:=b (by omega)
 show Ex (bd (bA l v) _) _
 rw[rQ a (by omega)]
 exact fB ⟨h1,hl _ (cN _)⟩
def bN9 {m:D.aAJ}(h:m.Notices.length<=34359738368):Ex (kI m) λr=>r.1.Notices.length=m.Notices.length:=by
 unfold kI
 refine bgE h (bdE (λr=>r.2.length=m.Notices.length) ?_ λr hr=>fB hr)
 refine bCy (λi (s:List D.aAR×Nat×List D.aAR)=>∃a ns,a.length<=i/\ns.length=m.Notices.length/\s=(a,i,ns)) m.Notices.length (by omega) ⟨[],m.Notices,aj _,rfl,rfl⟩ (λi s rec hi hv=> ?_) (λs rec hv=> ?_)
 ·obtain⟨a,ns,h1,h2,rfl⟩:=hv
  refine bGm (dL hi) (bdS (λr=>r.1.length<=i+1/\r.2.length=m.Notices.length) (bdE (λr=>r.length<=i+1) ?_ λr hr=> ?_) λr hr=>bCx ⟨r.1,r.2,hr.1,hr.2,rfl⟩)
  ·show Ex (bd (bA m.Notices (i:Int)) _) _
   rw[aM hi]
   refine bdE (λ_=>True) (fB trivial) λr _=> ?_
   refine rM (λ_=> ?_) λ_=>fB (show a.length<=i+1 by omega)
   exact gdE (by unfold aW;show a.length+1<=_;omega) (fB (by simp only[aw,ct];omega))
  ·show Ex (bd (bA ns (i:Int)) _) _
   rw[aM (by omega)]
   exact fB ⟨hr,by simp only[ax];exact h2⟩
 ·obtain⟨a,ns,h1,h2,rfl⟩:=hv
  exact rM (λq=>absurd (q.symm.trans dP) (by decide)) λ_=>fB h2
def R3 {k i:Nat}(h:i<k):decide ((k:Int)-(i:Int)>0)=true:=by simp;omega
def aSd {k:Nat}:decide ((k:Int)-(k:Int)>0)=false:=by simp
def aSe {k i:Nat}(h:k<=1000)(h1:i<k):IntKind.i64.wrap ((k:Int)-(i:Int)-1)=(k:Int)-((i+1:Nat):Int):=by rw[aI (by omega) (by omega)];omega
def bP0 {c:D.aAQ}(h:aX c):Ex (rY c 10) λr=>aX r.1/\r.2.length<=10:=by
 unfold rY
 refine bdE (λr=>∃(c:D.aAQ) (l:List D.aAC),aX c/\l.length<=10/\r=(l,c.b,c.i,c.h)) ?_ λr hr=> ?_
 ·refine blE h λc1 v h1 a b=> ?_
  have b:=b (by decide)
  obtain⟨k,rfl⟩:∃k:Nat,v=(k:Int):=⟨v.toNat,by omega⟩
  refine bCy (λi (s:List D.aAC×Int×List Int×Int×Int)=>∃(c:D.aAQ) (l:List D.aAC),aX c/\l.length<=i/\s=(l,(k:Int)-(i:Int),c.b,c.i,c.h)) k (by omega) ⟨c1,[],h1,aj _,by simp⟩ (λi s rec hi hv=> ?_) (λs rec hv=> ?_)
  ·obtain⟨c,l,q1,q2,rfl⟩:=hv
   refine bGm (R3 hi) (bdS (λr=>∃(c:D.aAQ) (l:List D.aAC),aX c/\l.length<=i+1/\r=(l,c.b,c.i,c.h)) ?_ λr hr=> ?_)
   ·refine blE q1 λc4 v4 h4 _ _=>blE h4 λc5 v5 h5 _ _=>bdE (λ_=>True) (rM (λ_=>fB trivial) λ_=>fB trivial) λz6 _=> ?_
    refine bdE (λr=>∃(n:Int) (c:D.aAQ),aX c/\r=(n,c.b,c.i,c.h)) (bdE (λr=>∃(n:Bool) (c:D.aAQ),aX c/\r=(n,c.b,c.i,c.h)) (rM (λ_=>onE h5 λc9 v9 h9=>fB ⟨v9,c9,h9,rfl⟩) λ_=>fB ⟨_,c5,h5,rfl⟩) ?_) ?_
    ·rintro _ ⟨n,c,hc,rfl⟩
     exact rM (λ_=>fB ⟨_,c,hc,rfl⟩) λ_=>fB ⟨_,c,hc,rfl⟩
    ·rintro _ ⟨n,c,hc,rfl⟩
     refine bdE (λ_=>True) (by unfold kR;exact fB trivial) λz8 _=>bdE (λ_=>True) (by unfold kR;exact fB trivial) λz9 _=>bgE (show l.length<=34359738300 by omega) (fB ⟨c,_,hc,?_,rfl⟩)
     have:=nM l n (aY z8) z9
     show(dQ l n (aY z8) z9).1.length<=_
     omega
   ·obtain⟨c,l,r1,r2,rfl⟩:=hr
    exact bCx ⟨c,l,r1,r2,by show(l,IntKind.i64.wrap ((k:Int)-(i:Int)-1),c.b,c.i,c.h)=_;rw[aSe (by omega) hi]⟩
  ·obtain⟨c,l,q1,q2,rfl⟩:=hv
   exact rM (λq=>absurd (q.symm.trans aSd) (by decide)) λ_=>fB ⟨c,l,q1,by omega,rfl⟩
 ·obtain⟨c,l,r1,r2,rfl⟩:=hr
  exact fB ⟨r1,r2⟩
def bP1 {n k t pin seed:Int}{c:D.aAQ}(hc:aX c)(h:aEu n k t pin seed=true):Ex (aZ7 n k t pin seed c.b c.i c.h) (PW (Wv 0)):=by
 rw[bGn]
 obtain⟨w1,w2,w3⟩:=aU1 h
 have hz:=aUr n k t pin seed
 refine fB ⟨c,fA n k t pin seed,hc,⟨by rw[w2];exact w1,?_,by omega,bIq⟩,rfl⟩
 unfold fA
 rw[h];exact du _
def bP2 (l:List Int):Ex (bU (α:=Int) FUEL (λrec1 (i1:(Int×Int))=>bd (bif i1.2<(l.length:Int) then some (decide (i1.2<4000)) else some false) λz2=>bif z2 then bd (bA l i1.2) λz3=>rec1 (mF IntKind.i64 (IntKind.i64.wrap (IntKind.i64.wrap (IntKind.i64.wrap (i1.1*137)+IntKind.i64.wrap z3)+11)) (1073741823:Int),IntKind.i64.wrap (i1.2+1)) else some i1.1) (IntKind.i64.wrap ((193017:Int)+(l.length:Int)),(0:Int))) λ_=>True:=by
 refine bCy (λi (s:Int×Int)=>s.2=(i:Int)) (min l.length 4000) (by omega) rfl (λi s rec hi hv=> ?_) (λs rec hv=> ?_)
 ·obtain⟨x,y⟩:=s
  have hv:y=(i:Int):=hv
  subst hv
  simp only[ao (show(i:Int)<(l.length:Int) by omega),ao (show(i:Int)<4000 by omega),ae,bd_s,aM (show i<l.length by omega)]
  exact bCx (by show IntKind.i64.wrap ((i:Int)+1)=((i+1:Nat):Int);rw[aI (by omega) (by omega)];omega)
 ·obtain⟨x,y⟩:=s
  have hv:y=((min l.length 4000:Nat):Int):=hv
  subst hv
  refine bdE (λr=>r=false) (rM (λq=>fB ?_) λ_=>fB rfl) λr hr=>by subst hr;exact fB trivial
  have q:=of_decide_eq_true q
  exact au (by omega)
def bMr:∀s∈[ByteArray.mk #[UInt8.ofNat 98,UInt8.ofNat 97,UInt8.ofNat 110,UInt8.ofNat 107,UInt8.ofNat 46,UInt8.ofNat 99,UInt8.ofNat 111,UInt8.ofNat 109],ByteArray.mk #[UInt8.ofNat 97,UInt8.ofNat 46,UInt8.ofNat 110,UInt8.ofNat 101,UInt8.ofNat 116],ByteArray.mk #[UInt8.ofNat 98,UInt8.ofNat 46,UInt8.ofNat 110,UInt8.ofNat 101,UInt8.ofNat 116]],s.size<=100:=by
 intro s hs
 simp only[ba,et,or_false] at hs
 rcases hs with rfl|rfl|rfl<;>decide
def Wv.tick {i:Nat}{w:D.World}(h:Wv i w)(hi:i<5):Wv (i+1) {w with Now:=IntKind.i64.wrap (w.Now+1)}:=by
 have h0:=h.inn.now
 have hn:=h.now
 have e:IntKind.i64.wrap (w.Now+1)=w.Now+1:=aI (by omega) (by omega)
 rw[e]
 exact⟨⟨h.inn.seed,show 0<=w.Now+1/\w.Now+1<=999900 by omega,h.inn.dlen,h.inn.slen,h.inn.dev,h.inn.two,h.inn.mle,h.inn.site,h.inn.mail,h.inn.log⟩,by show w.Now+1<=_;omega,by have:=h.sz;show w.sz<=_;omega,h.cld⟩
def bC1 {w:D.World}{c:D.aAB}:({w with aAB:=c}:D.World).sz<=w.sz+c.sz:=by
 simp only[D.World.sz,D.aAB.sz];omega
def bJb {α:Type}(f:α->Nat)(l:List α)(n:Nat):((l.take n).map f).sum<=(l.map f).sum:=by
 have:(l.map f).sum=((l.take n).map f).sum+((l.drop n).map f).sum:=by rw[<-eN,<-cT,cF]
 omega
def aSf {l:List D.aAC}{b:D.aAE}(h:aRw b):CldOk (dF l b).1:=by
 unfold dF
 cases bC l&&gF b l with
 |true=>exact⟨⟨h,λs hs=>absurd hs et⟩, .nil⟩
 |false=>exact⟨⟨λs hs=>absurd hs et,λs hs=>absurd hs et⟩, .nil⟩
def aYa {l:List Int}(hl:l.length<=1048576):Ex (kJ l) bGp:=by
 unfold kJ
 refine bdE (λ_=>True) (bP2 l) λz0 _=> ?_
 refine blE (c:=D.aAQ.mk l 0 z0) ⟨du _,hl⟩ λc1 v1 h1 a1 b1=> ?_
 have b1:=b1 (by decide)
 refine bdE (PW (Wv 0)) (blE h1 λc3 v3 h3 a3 b3=>blE h3 λc4 v4 h4 a4 b4=>blE h4 λc5 v5 h5 a5 b5=>blE h5 λc6 v6 h6 a6 b6=> ?_) ?_
 ·have b3:=b3 (by decide)
  have b5:=b5 (by decide)
  have b6:=b6 (by decide)
  show Ex (aZ7 (IntKind.i64.wrap ((1:Int)+v3)) (IntKind.i64.wrap ((1:Int)+v1)) (IntKind.i64.wrap ((1:Int)+v4)) v5 (IntKind.i64.wrap ((1:Int)+v6)) c6.b c6.i c6.h) _
  refine bP1 h6 ?_
  have b4:0<IntKind.i64.wrap (1+v1)->v4<IntKind.i64.wrap (1+v1):=b4
  rw[aI (show-9223372036854775808<=1+v1 by omega) (by omega)] at b4 ⊢
  have b4:=b4 (by omega)
  rw[aI (show-9223372036854775808<=1+v3 by omega) (by omega),aI (show-9223372036854775808<=1+v4 by omega) (by omega),aI (show-9223372036854775808<=1+v6 by omega) (by omega)]
  unfold aEu
  rw[show bG (1+v6)=true from iL (by omega) (by omega),iL (show(1:Int)<=1+v3 by omega) (by omega),iL (show(1:Int)<=1+v1 by omega) (by omega),iL (show(1:Int)<=1+v4 by omega) (by omega),iL a5 (by omega)];rfl
 rintro _ ⟨c,w,hc,hw,rfl⟩
 refine bdE (PW λw=>w.sz<=200000/\CldOk w.aAB/\w.Sites.length=2) ?_ ?_
 ·refine blE hc λc4 v4 h4 a4 b4=> ?_
  have b4:=b4 (by decide)
  obtain⟨k,rfl⟩:∃k:Nat,v4=(k:Int):=⟨v4.toNat,by omega⟩
  refine bCy (λi (s:Int×List Int×Int×Int×WU)=>∃c w,aX c/\Wv i w/\s=((k:Int)-(i:Int),c.b,c.i,c.h,wT w)) k (by omega) ⟨c4,w,h4,hw,by simp⟩ (λi s rec hi hv=> ?_) (λs rec hv=> ?_)
  ·obtain⟨c,w,hc,hw,rfl⟩:=hv
   have hz:w.sz<=120000:=by have:=hw.sz;omega
   refine bGm (R3 hi) (blS hc λc6 v6 h6 a6 b6=>bdS (PW (Wv (i+1))) (blE h6 λc8 v8 h8 a8 b8=> ?_) ?_)
   ·refine rM (λ_=> ?_) λ_=>rM (λ_=> ?_) λ_=>rM (λ_=> ?_) λ_=>bdE (λ_=>True) (rM (λ_=>fB trivial) λ_=>fB trivial) λq9 _=>rM (λ_=> ?_) λ_=>rM (λ_=> ?_) λ_=>rM (λ_=> ?_) λ_=>rM (λ_=> ?_) λ_=> ?_
    ·exact bgE (show w.sz<=34359738368 by omega) (fB ⟨c8,(mY w v6).1,h8,hw.next (.of (hw.inn.aDK v6) (by rw[bF5];omega)) (bC0 w v6) (bCi hw.cld v6),rfl⟩)
    ·refine blE h8 λc9 v9 h9 _ _=>bgE (show w.sz<=34359738200 by omega) (fB ⟨c9,(pG w v6 v9).1,h9,hw.next ?_ (aX7 w v6 v9) (aX8 hw.cld v6 v9),rfl⟩)
     exact bF2 hw.inn _ _ _ _
    ·refine bdE _ (bPz h8 (by decide) bMr) λr9 h9=>blE h9.1 λc10 v10 h10 _ _=>onE h10 λc11 v11 h11=>bgE ⟨show w.sz<=34359738300 by omega,by have:=h9.2;omega⟩ (fB ⟨c11,(oW w v6 r9.2 v10 v11).1,h11,hw.next ?_ (bGo ..) (bGb hw.cld ..),rfl⟩)
     exact .of ⟨hw.inn.aDH v6 r9.2 v10 v11,bB4 w v6 r9.2 v10 v11⟩ (by have:=bF0 w v6 r9.2 v10 v11;omega)
    ·refine bgE (show w.sz<=10000000000 by omega) (fB ⟨c8,(fG w v6).1,h8,hw.next ?_ (aVs ..) (aU9 hw.cld ..),rfl⟩)
     exact .of ⟨hw.inn.push v6,(Qo w v6).1,(Qo w v6).2.2.1⟩ (by have:=bF1 hw.inn v6;omega)
    ·refine bgE (show w.sz<=100000000 by omega) (fB ⟨c8,(iB w v6).1,h8,hw.next ?_ (bI9 ..) (bIo hw.cld ..),rfl⟩)
     exact⟨(hw.inn.add v6).1,(hw.inn.add v6).2,by have:=add_add hw.inn v6;omega⟩
    ·refine blE h8 λc10 v10 h10 _ _=>bgE (show w.sz<=100000000 by omega) (fB ⟨c10,(iC w v6 v10).1,h10,hw.next ?_ (bJa ..) (bIp hw.cld ..),rfl⟩)
     exact .of (hw.inn.cut v6 v10) (by have:=bIk hw.inn v6 v10;omega)
    ·exact fB ⟨c8,{w with Now:=IntKind.i64.wrap (w.Now+1)},h8,hw.tick (by omega),rfl⟩
    ·refine blE h8 λc10 v10 h10 _ _=>bgE (show w.sz<=34359738100 by omega) (fB ⟨c10,(aH w v6 v10).1,h10,hw.next ?_ (Q9 ..) (aVt hw.cld ..),rfl⟩)
     exact .of ⟨hw.inn.sync v6 v10,(gU w v6 v10).1,(gU w v6 v10).2.2.1⟩ (by have:=aU2 hw.inn v6 v10;omega)
   ·rintro _ ⟨c,w,hc,hw,rfl⟩
    exact bCx ⟨c,w,hc,hw,by show(IntKind.i64.wrap ((k:Int)-(i:Int)-1),c.b,c.i,c.h,wT w)=_;rw[aSe (by omega) hi]⟩
  ·obtain⟨c,w,hc,hw,rfl⟩:=hv
   exact rM (λq=>absurd (q.symm.trans aSd) (by decide)) λ_=>fB ⟨c,w,hc,⟨by have:=hw.sz;omega,hw.cld,hw.inn.two⟩,rfl⟩
 rintro _ ⟨c,w,hc,⟨hz,hd,ho⟩,rfl⟩
 refine blE hc λc4 v4 h4 a4 b4=>rM (λ_=> ?_) λ_=>rM (λ_=> ?_) λ_=>rM (λ_=> ?_) λ_=>rM (λ_=> ?_) λ_=>rM (λ_=> ?_) λ_=>rM (λ_=> ?_) λ_=>rM (λ_=> ?_) λ_=> ?_
 ·exact inE h4 (by decide) λc5 v5 h5 _=>aEf (W:={w with Now:=v5}) h5 (by show w.sz<=_;omega) hd
 ·exact gdE (by unfold jH;show(0:Int)<=0/\_;omega) (aEf (W:={w with Stolen:=w.Stolen.take 0}) h4 (by simp only[D.World.sz] at hz ⊢;simp only[bz];omega) hd)
 ·refine gdE (show jH w.Sites 1 from⟨by decide,by show 1<=_;omega⟩) (aEf (W:={w with Sites:=w.Sites.take 1}) h4 ?_ hd)
  have e:=bJb D.Site.sz w.Sites 1
  simp only[D.World.sz] at hz ⊢
  simp only[bz,show(1:Int).toNat=1 from rfl] at*;omega
 ·refine bdE (λr=>∃(c:D.aAQ) (m:List D.aAR),aX c/\m.length<=1000/\r=(c.b,c.i,c.h,m)) (inE h4 (by decide) λc6 v6 h6 m6=> ?_) ?_
  ·obtain⟨k,rfl,hk⟩:∃k:Nat,v6=(k:Int)/\k<=32:=⟨v6.toNat,by simp at m6;omega,by simp at m6;omega⟩
   refine bCy (λi (s:Int×Int×List Int×Int×Int×List D.aAR)=>∃(t:Int) (c:D.aAQ) (m:List D.aAR),aX c/\m.length<=i/\s=(t,(k:Int)-(i:Int),c.b,c.i,c.h,m)) k (by omega) ⟨0,c6,[],h6,aj _,by simp⟩ (λi s rec hi hv=> ?_) (λs rec hv=> ?_)
   ·obtain⟨t,c,m,hc,hm,rfl⟩:=hv
    refine bGm (R3 hi) (bdS (λr=>∃(t:Int) (c:D.aAQ) (m:List D.aAR),aX c/\m.length<=i+1/\r=(t,c.b,c.i,c.h,m)) ?_ ?_)
    ·refine blE hc λc9 v9 h9 _ _=>blE h9 λc10 v10 h10 _ _=>blE h10 λc11 v11 h11 _ _=>bgE (show m.length<=34359738300 by omega) (onE h11 λc13 v13 h13=> ?_)
     have hs:(uD (D.aAJ.mk m) (IntKind.i64.wrap ((1:Int)+v10)) v11 (IntKind.i64.wrap (t+v9))).1.Notices.length<=m.length+1:=aZn (D.aAJ.mk m) (IntKind.i64.wrap ((1:Int)+v10)) v11 (IntKind.i64.wrap (t+v9))
     exact rM (λ_=>bdE _ (bN9 (by show(uD (D.aAJ.mk m) (IntKind.i64.wrap ((1:Int)+v10)) v11 (IntKind.i64.wrap (t+v9))).1.Notices.length<=_;omega)) λz14 h14=>fB ⟨_,c13,_,h13,bq (Nat.le_of_eq h14) (bq hs (by omega)),rfl⟩) λ_=>fB ⟨_,c13,_,h13,bq hs (by omega),rfl⟩
    ·rintro _ ⟨t,c,m,hc,hm,rfl⟩
     exact bCx ⟨t,c,m,hc,hm,by show(t,IntKind.i64.wrap ((k:Int)-(i:Int)-1),c.b,c.i,c.h,m)=_;rw[aSe (by omega) hi]⟩
   ·obtain⟨t,c,m,hc,hm,rfl⟩:=hv
    exact rM (λq=>absurd (q.symm.trans aSd) (by decide)) λ_=>fB ⟨c,m,hc,by omega,rfl⟩
  rintro _ ⟨c,m,hc,hm,rfl⟩
  refine bdE (λr=>∃(c:D.aAQ) (m:List D.aAR),aX c/\m.length<=1001/\r=(c.b,c.i,c.h,m)) (blE hc λc7 v7 h7 _ _=>rM (λ_=>inE h7 (by decide) λc8 v8 h8 _=>inE h8 (by decide) λc9 v9 h9 _=>inE h9 (by decide) λc10 v10 h10 _=>gdE (by unfold aW;show m.length+1<=_;omega) (fB ⟨c10,_,h10,by rw[aw];show m.length+1<=_;omega,rfl⟩)) λ_=>fB ⟨c7,m,h7,by omega,rfl⟩) ?_
  rintro _ ⟨c,m,hc,hm,rfl⟩
  refine aEf (W:={w with Mail:=⟨m⟩}) hc ?_ hd
  simp only[D.World.sz] at hz ⊢;omega
 ·exact bgE h4 (aEf (W:={w with Seed:=(aIs c4).2}) (bI8 h4) (by show w.sz<=_;omega) hd)
 ·refine bdE _ (bP0 h4) λr5 h5=>blE h5.1 λc6 v6 h6 _ _=>blE h6 λc7 v7 h7 _ _=> ?_
  obtain⟨c5,log⟩:=r5
  obtain⟨h5,hl⟩:=h5
  have hl:log.length<=10:=hl
  have he:=Ck log (IntKind.i64.wrap ((1:Int)+v6)) (IntKind.i64.wrap ((1:Int)+v7))
  have heb:=J8 log (IntKind.i64.wrap ((1:Int)+v6)) (IntKind.i64.wrap ((1:Int)+v7))
  refine bgE (show log.length<=34359738300 by omega) ?_
  show Ex (bd (gd (log.length<=34359738368/\(bD log (IntKind.i64.wrap ((1:Int)+v6)) (IntKind.i64.wrap ((1:Int)+v7))).1.sz<=34359738368) (some (dF log (bD log (IntKind.i64.wrap ((1:Int)+v6)) (IntKind.i64.wrap ((1:Int)+v7))).1))) _) _
  generalize(bD log (IntKind.i64.wrap ((1:Int)+v6)) (IntKind.i64.wrap ((1:Int)+v7))).1=bx at he heb
  have hn:=Lx log bx
  have hnc:=aSf (l:=log) heb
  refine bgE ⟨by omega,by omega⟩ ?_
  generalize dF log bx=cl at hn hnc
  obtain⟨cl,clb⟩:=cl
  have hn:cl.sz<=log.length+bx.sz:=hn
  refine bdE (λr=>∃(c:D.aAQ) (q:D.aAB),aX c/\(q.sz<=100000/\CldOk q)/\r=(c.b,c.i,c.h,q.Log,q.Boxes.Epoch,q.Boxes.Boxes,q.History)) (inE h7 (by decide) λc11 v11 h11 m11=> ?_) ?_
  ·obtain⟨k,rfl,hk⟩:∃k:Nat,v11=(k:Int)/\k<=61:=⟨v11.toNat,by simp at m11;omega,by simp at m11;omega⟩
   refine bCy (λi (s:Int×Int×List Int×Int×Int×List D.aAC×Int×List D.Box×List D.aAA)=>∃(t:Int) (c:D.aAQ) (q:D.aAB),aX c/\(q.sz<=1000+600*i/\CldOk q)/\s=(t,(k:Int)-(i:Int),c.b,c.i,c.h,q.Log,q.Boxes.Epoch,q.Boxes.Boxes,q.History)) k (by omega) ⟨0,c11,cl,h11,⟨by omega,hnc⟩,by simp⟩ (λi s rec hi hv=> ?_) (λs rec hv=> ?_)
   ·obtain⟨t,c,q,hc,⟨hq,hqc⟩,rfl⟩:=hv
    refine bGm (R3 hi) (blS hc λc13 v13 h13 _ _=>bgS (show log.length<=34359738368 by omega) (blS h13 λc15 v15 h15 _ _=>bgS (show(1:Nat)<=34359738368 by decide) ?_))
    show St _ _ _ _ (bd (gd (q.sz<=34359738300/\(lG (IntKind.i64.wrap ((1:Int)+v6)) (aJ log) (IntKind.i64.wrap (IntKind.i64.wrap (t+1)+v13)) (D.aAF.mk [D.Entry.mk (IntKind.i64.wrap ((1:Int)+v15)) 0 1 false])).1.sz<=34359738300) (some (cK q (lG (IntKind.i64.wrap ((1:Int)+v6)) (aJ log) (IntKind.i64.wrap (IntKind.i64.wrap (t+1)+v13)) (D.aAF.mk [D.Entry.mk (IntKind.i64.wrap ((1:Int)+v15)) 0 1 false])).1))) _)
    have hb:=aX9 (IntKind.i64.wrap ((1:Int)+v6)) (aJ log) (IntKind.i64.wrap (IntKind.i64.wrap (t+1)+v13)) (D.aAF.mk [D.Entry.mk (IntKind.i64.wrap ((1:Int)+v15)) 0 1 false])
    generalize(lG (IntKind.i64.wrap ((1:Int)+v6)) (aJ log) (IntKind.i64.wrap (IntKind.i64.wrap (t+1)+v13)) (D.aAF.mk [D.Entry.mk (IntKind.i64.wrap ((1:Int)+v15)) 0 1 false])).1=sl at hb
    have hu:=(nL q sl).1
    refine bgS ⟨by omega,by show sl.Data.length<=_;omega⟩ (bCx ⟨IntKind.i64.wrap (IntKind.i64.wrap (t+1)+v13),c15,(cK q sl).1,h15,⟨by omega,aI1 hqc hb.1⟩,?_⟩)
    show(_,IntKind.i64.wrap ((k:Int)-(i:Int)-1),_,_,_,_,_,_,_)=_
    rw[aSe (by omega) hi]
   ·obtain⟨t,c,q,hc,hq,rfl⟩:=hv
    exact rM (λq=>absurd (q.symm.trans aSd) (by decide)) λ_=>fB ⟨c,q,hc,⟨by omega,hq.2⟩,rfl⟩
  ·rintro _ ⟨c,q,hc,hq,rfl⟩
   exact aEf (W:={w with aAB:=q}) hc (bq bC1 (by omega)) hq.2
 ·refine gdE ?_ (aEf (W:={w with Devices:=w.Devices++[D.Device.mk (D.aAI.mk 0 0 0 0) [] 0 0 0 (D.aAF.mk [])]}) h4 ?_ hd)
  ·simp only[D.World.sz] at hz
   unfold aW;show w.Devices.length+1<=_;omega
  ·simp only[D.World.sz] at hz ⊢
   simp only[aw,cT,eN,ct,bm,ex,df,fy,D.Device.sz,bo];omega
 ·exact aEf (W:=w) h4 (by omega) hd
def aYb {w:D.World}(d b:Int)(h:w.sz<=1000000):(aH w d b).1.sz<=3000000:=by
 cases hc:(aH w d b).2==0 with
 |false=>rw[aZy hc];omega
 |true=>
  have h1:=(jP hc).2.2.2
  have h2:w.aAB.Log.length<=w.sz:=by simp only[D.World.sz];omega
  omega
def bJc {l:List Int}(hb:bBt l=false):l.length<=1048576:=by
 unfold bBt at hb
 rw[di] at hb;omega
def eqT {w:D.World}(hz:w.sz<=34359738368)(h:CldOk w.aAB):nI w.sz w w/\w.sz<=34359738368/\tL w.aAB:=⟨⟨rfl,by omega⟩,hz,h.bytes⟩
def Rw (l:List Int)(h:aRv l):uT l=some true:=by
 unfold uT
 cases hb:bBt l with
 |true=>rfl
 |false=>
  obtain⟨_,e,w,d,b,rfl,hz,hd,b1,b2⟩:=aYa (bJc hb)
  have hs:=aYb d b hz
  have hsc:=aVt hd d b
  rw[ab,e,bd_s]
  dsimp only
  rw[aB (show w.sz<=34359738100 by omega),bd_s,bd_s,cC,ab,aB (eqT (by omega) hsc)]
  simp only[bd_s,bf,ab]
  cases hc:(aH w d b).2==0 with
  |false=>
   rw[show((aH w d b).2 !=0)=true by rw[bne,hc];rfl]
   simp only[ae]
   rw[aZy hc,aB (eqT (by omega) hd)];rfl
  |true=>
   rw[show((aH w d b).2 !=0)=false by rw[bne,hc];rfl]
   simp only[ab,bd_s]
   rw[aB (show(aH w d b).1.sz<=34359738100 by omega),bd_s,aI (by omega) (by omega),bne,bGc hd.inc hc];rfl
end
end Go.VK
