import Derived.Test.YtbaeclcknbiehaaGreatDoorXbPatoPzg
import Derived.Test.YtbaeclcknbiehaaGreatDoorXbM
import Derived.Test.YtbaeclcknbiehaaGreatDoorLKatoa
/- Printed by wip/tools: models, walks, proofs. -/
set_option linter.all false
set_option maxRecDepth 100000
set_option maxHeartbeats 4000000
namespace Go.VK
open Go.RowKit Go.Proofs D
noncomputable section
open EV (bI)
section
variable {ρ σ τ S:Type}
def Ex (x:Option τ)(Q:τ->Prop):Prop:=∃r,x=some r/\Q r
def gP {Q:τ->Prop}{r:τ}(h:Q r):Ex (some r) Q:=⟨r,rfl,h⟩
def bdE {x:Option σ}{f:σ->Option τ}(P:σ->Prop){Q:τ->Prop}(h:Ex x P)(k:∀r,P r->Ex (f r) Q):Ex (bd x f) Q:=by obtain⟨r,rfl,p⟩:=h;exact k r p
def gdE {c:Prop}[Decidable c]{x:Option τ}{Q:τ->Prop}(h:c)(k:Ex x Q):Ex (gd c x) Q:=by rw[aA h];exact k
def bgE {c:Prop}[Decidable c]{v:σ}{f:σ->Option τ}{Q:τ->Prop}(h:c)(k:Ex (f v) Q):Ex (bd (gd c (some v)) f) Q:=by rw[aA h];exact k
def uU {c:Bool}{x y:Option τ}{Q:τ->Prop}(h:c=true->Ex x Q)(k:c=false->Ex y Q):Ex (bif c then x else y) Q:=by
 cases c with
 |true=>exact h rfl
 |false=>exact k rfl
def blE {c:AM}{n:Int}{f:AM×Int->Option τ}{Q:τ->Prop}(h:bB c)(k:∀a v,bB a->0<=v->(0<n->v<n)->Ex (f (a,v)) Q):Ex (bd (gd (bB c) (some (bS c n))) f) Q:=
 bgE h (k _ _ (dH h n).1 (dH h n).2.1 (dH h n).2.2.1)
def onE {c:AM}{n:Int}{f:AM×Bool->Option τ}{Q:τ->Prop}(h:bB c)(k:∀a v,bB a->Ex (f (a,v)) Q):Ex (bd (gd (bB c) (some (mG c n))) f) Q:=
 bgE h (k (mG c n).1 (mG c n).2 (dH h n).1)
def inE {c:AM}{l:List Int}{f:AM×Int->Option τ}{Q:τ->Prop}(h:bB c)(hl:0<l.length)(k:∀a v,bB a->v∈l->Ex (f (a,v)) Q):Ex (bd (gd (bB c/\0<l.length) (some (F6 c l))) f) Q:=
 bgE ⟨h,hl⟩ (k _ _ (bMa h l).1 ((bMa h l).2 hl))
def St (V:Nat->S->Prop)(Q:τ->Prop)(i:Nat)(rec:S->Option τ)(x:Option τ):Prop:=(∃s',V (i+1) s'/\x=rec s')\/Ex x Q
section
variable {V:Nat->S->Prop} {Q:τ->Prop} {i:Nat} {rec:S->Option τ}
def bRe {s:S}(h:V (i+1) s):St V Q i rec (rec s):= .inl ⟨s,h,rfl⟩
def bdS {x:Option σ}{f:σ->Option τ}(P:σ->Prop)(h:Ex x P)(k:∀r,P r->St V Q i rec (f r)):St V Q i rec (bd x f):=by obtain⟨r,rfl,p⟩:=h;exact k r p
def bgS {c:Prop}[Decidable c]{v:σ}{f:σ->Option τ}(h:c)(k:St V Q i rec (f v)):St V Q i rec (bd (gd c (some v)) f):=by rw[aA h];exact k
def bU9 {c:Bool}{x y:Option τ}(h:c=true)(k:St V Q i rec x):St V Q i rec (bif c then x else y):=by rw[h];exact k
def blS {c:AM}{n:Int}{f:AM×Int->Option τ}(h:bB c)(k:∀a v,bB a->0<=v->(0<n->v<n)->St V Q i rec (f (a,v))):St V Q i rec (bd (gd (bB c) (some (bS c n))) f):=
 bgS h (k _ _ (dH h n).1 (dH h n).2.1 (dH h n).2.2.1)
end
def bRf {F:(S->Option τ)->S->Option τ}(V:Nat->S->Prop)(N:Nat){Q:τ->Prop}{s:S}(a:N<=18446744073709551616)(h0:V 0 s)(step:∀i s rec,i<N->V i s->St V Q i rec (F rec s))(last:∀s rec,V N s->Ex (F rec s) Q):Ex (bI FUEL F s) Q:=
 bTg V N Q step last N 0 FUEL s (by omega) (by have:=fM;omega) h0
end
abbrev WU:=Int×Int×List AD×List Bool×List AG×Int×List AQ×List AK×List AB×Int×Int×Int×Int×List AC×Int×List AU
def wT (w:AA):WU:=(w.Now,w.Seed,w.Devices,w.Stolen,w.aAF.Log,w.aAF.Boxes.Epoch,w.aAF.Boxes.Boxes,w.aAF.History,w.Sites,w.aAO.Salt,w.aAO.Threshold,w.aAO.Check,w.aAO.Masked,w.Hosts,w.Pin,w.Mail.Notices)
def bOr (n k t pin seed:Int)(K:List Int)(L M:Int):Option (List Int×Int×Int×WU):=bd (bif !bG n 1 3 then some true else bif !bG k 1 7 then some true else bif !bG t 1 k then some true else bif !bG pin 0 9999 then some true else some (!bZ seed)) λO=>bif O then some (K,L,M,(0:Int),(0:Int),[],[],[],(0:Int),[],[],[],(0:Int),(0:Int),(0:Int),(0:Int),[],(0:Int),[]) else bd (bI (α:=List AG×List AD×List Bool) FUEL (λI (f:(List AG×Nat×List AD×List Bool))=>bif (↑f.2.1:Int)<n then gd (aS f.2.2.1 [AD.mk (AJ.mk 1 ↑f.2.1 (aV seed [277,↑f.2.1]) 0) [] 0 0 0 (AF.mk [])]) (gd (aS f.2.2.2 [false]) (bd (aT (f.2.2.1++[AD.mk (AJ.mk 1 ↑f.2.1 (aV seed [277,↑f.2.1]) 0) [] 0 0 0 (AF.mk [])]) 0) λw=>bd (gd (f.1.length<=34359738300) (some (dP f.1 1 (aZ (AJ.mk 1 ↑f.2.1 (aV seed [277,↑f.2.1]) 0)) w.Store))) λx=>I (x.1,(f.2.1+1),f.2.2.1++[AD.mk (AJ.mk 1 ↑f.2.1 (aV seed [277,↑f.2.1]) 0) [] 0 0 0 (AF.mk [])],f.2.2.2++[false]))) else some (f.1,f.2.2)) ([],0,[],[])) λv=>bd (gd (v.1.length<=34359738300) (some (bH v.1 (bL seed 0) 1000))) λN=>bd (gd (v.1.length<=34359738368/\N.1.sz<=34359738368) (some (dM v.1 N.1))) λw=>bd (bI (α:=List AB) FUEL (λy (d:(List AB×Nat))=>bif (↑d.2:Int)<2 then bd (bd (gd ([(281:Int),(↑d.2:Int)].length<=34359738300) (some (aV seed [281,↑d.2]))) λm=>bd (gd ((aB ↑d.2).size<=34359738368) (some (gM (aB ↑d.2) m))) λe=>bd (gd (e.sz<=34359738300) (some (oP e 1 3))) λl=>bd (bI (α:=ByteArray×List AI×Int×Int×List A0×List Int) FUEL (λz (b:(Nat×ByteArray×List AI×Int×Int×List A0×List Int))=>bif (↑b.1:Int)<v.2.1.length then bd (aT v.2.1 ↑b.1) λs=>bd (gd ((aB ↑d.2).size<=34359738300) (some (eQ s.Store (aB ↑d.2) ↑b.1))) λp=>bd (gd ((AB.mk b.2.1 b.2.2.1 (AN.mk b.2.2.2.1 b.2.2.2.2.1 b.2.2.2.2.2.1) b.2.2.2.2.2.2).sz<=34359738300) (some (fC (AB.mk b.2.1 b.2.2.1 (AN.mk b.2.2.2.1 b.2.2.2.2.1 b.2.2.2.2.2.1) b.2.2.2.2.2.2) 1 ↑b.1 p))) λc=>z ((b.1+1),c.1.Name,c.1.Accounts,c.1.Book.Seed,c.1.Book.Next,c.1.Book.Open,c.1.Logins) else some b.2) (0,l.1.Name,l.1.Accounts,l.1.Book.Seed,l.1.Book.Next,l.1.Book.Open,l.1.Logins)) λa=>gd (aS d.1 [AB.mk a.1 a.2.1 (AN.mk a.2.2.1 a.2.2.2.1 a.2.2.2.2.1) a.2.2.2.2.2]) (some (d.1++[AB.mk a.1 a.2.1 (AN.mk a.2.2.1 a.2.2.2.1 a.2.2.2.2.1) a.2.2.2.2.2]))) λu=>y (u,(d.2+1)) else some d.1) ([],0)) λx=>bd (bI (α:=List AD) FUEL (λA (h:(Nat×List AD))=>bif (↑h.1:Int)<n then bd (aT h.2 ↑h.1) λm=>bd (gd (m.sz<=34359738368/\v.1.length<=34359738368) (some (nV m v.1 (bL seed 0)))) λe=>bd (aT h.2 ↑h.1) λl=>A ((h.1+1),h.2.set (↑h.1:Int).toNat e.1) else some h.2) (0,v.2.1)) λJ=>bd (bI (α:=List AD) FUEL (λB (q:(Nat×List AD))=>bif (↑q.1:Int)<2 then bd (bI (α:=List AD) FUEL (λD (i16:(Nat×List AD))=>bif (↑i16.1:Int)<n then bd (aT i16.2 0) λa=>bd (gd (a.sz<=34359738360/\(aB ↑q.1).size<=34359738300) (some (bN a (aB ↑q.1) ↑i16.1 false))) λF=>bd (aT i16.2 0) λs=>D ((i16.1+1),i16.2.set (0:Int).toNat F.1) else some i16.2) (0,q.2)) λe=>B ((q.1+1),e) else some q.2) (0,J)) λu=>bd (aT u 0) λm=>bd (gd (m.sz<=34359738368) (some (dC m))) λe=>bd (aT u 0) λl=>bd (gd (w.1.sz<=34359738300/\e.2.1.sz<=34359738300) (some (bW w.1 e.2.1))) λa=>bd (bI (α:=List AD) FUEL (λG (j:(Int×List AD))=>bif j.1<n then bd (aT j.2 j.1) λp=>bd (gd (p.sz<=34359738100/\a.1.sz<=34359738100) (some (dO p a.1.Log a.1.Boxes (iG a.1 0).1))) λc=>bd (aT j.2 j.1) λr=>G (IntKind.i64.wrap (j.1+1),j.2.set j.1.toNat c.1) else some j.2) ((1:Int),u.set (0:Int).toNat e.1)) λF=>bd (bI (α:=List Int) FUEL (λH (o:(List Int×Int))=>bif o.2<t then bd (gd ([(307:Int),o.2].length<=34359738300) (some (aV seed [307,o.2]))) λc=>gd (aS o.1 [c]) (H (o.1++[c],IntKind.i64.wrap (o.2+1))) else some o.1) ([],(1:Int))) λs=>bd (gd ([(283:Int)].length<=34359738300) (some (aV seed [283]))) λp=>bd (gd ([(293:Int)].length<=34359738300) (some (aV seed [293]))) λc=>gd ((1018:Int)≠(0:Int)) (bd (gd (s.length<=34359738368) (some (Yh pin 7 p (IntKind.i64.wrap ((1:Int)+c.tmod (1018:Int))) s k 5))) λr=>some (K,L,M,(0:Int),seed,F,v.2.2,a.1.Log,a.1.Boxes.Epoch,a.1.Boxes.Boxes,a.1.History,x,r.1.Salt,r.1.Threshold,r.1.Check,r.1.Masked,r.2.1,pin,[]))
def bVa (n k t pin seed:Int)(u:List Int)(v w:Int):bOr n k t pin seed u v w=some (u,v,w,wT (gN n k t pin seed)):=by
 unfold bOr gN aSt;cases h1:bG n 1 3 with
 |false=>rfl
 |true=>
 cases h2:bG k 1 7 with
 |false=>rfl
 |true=>
 cases F:bG t 1 k with
 |false=>rfl
 |true=>
 cases O:bG pin 0 9999 with
 |false=>rfl
 |true=>
 cases T:bZ seed with
 |false=>rfl
 |true=>
 have hn:=jK h1;have hk:=jK h2;have ht:=jK F;obtain⟨N,rfl⟩:∃N:Nat,n=(N:Int):=⟨n.toNat,by omega⟩;rw[bw];have f:1<=N/\N<=3:=by omega
 have W:=tF seed N;have X:=aWr seed N;have Z:=aWs seed N;simp only[aj,aa,dc,ae,bd_s,cBm,cC8];rw[tJ (r:=(bA seed N,dQ seed N,List.replicate N false)) (λi=>(bA seed i,i,dQ seed i,List.replicate i false)) N (s:=([],0,[],[])) (by omega) (λrec i hi=>by
  have z:=bRa seed i;have e3:=tF seed i;have e4:=aAn seed i;rw[aLy] at z;simp only[dD hi,ae,aA (show aS (dQ seed i) [bQ (aN seed (i:Int))] from bXp (by omega) (by simp)),aA (show aS (List.replicate i false) [false] from bXp (by rw[fe];omega) (by simp)),z,bd_s,aA (show(bA seed i).length<=34359738300 by omega),aLy,List.replicate_succ'];rfl) (λrec=>by simp only[rU,aa]) rfl]
 have G:(bH (bA seed N) (bL seed 0) 1000).1=gU seed N:=rfl;simp only[bd_s,aA (show(bA seed N).length<=34359738300 by omega),G,aA (show(bA seed N).length<=34359738368/\(gU seed N).sz<=34359738368 from⟨by omega,by omega⟩)];have A:=aAn seed N;rw[tJ (r:=Gz (dQ seed N) seed) (λj=>((Gz (dQ seed N) seed).take j,j)) 2 (s:=([],0)) (by omega) (λrec j hj=>by
  have hs:=Pv (j:Int);have h6:=aR0 (aB (j:Int)) (aV seed [281,(j:Int)]);have h7:=aWt (gM (aB (j:Int)) (aV seed [281,(j:Int)])) 1 3;simp only[au (show(j:Int)<2 by omega),ae,aA (show[281,(j:Int)].length<=34359738300 by simp),bd_s,aA (show(aB (j:Int)).size<=34359738368 by omega),aA (show(gM (aB (j:Int)) (aV seed [281,(j:Int)])).sz<=34359738300 by omega)];rw[bRb (nm:=aB (j:Int)) (l:=dQ seed N) (s0:=(oP (gM (aB (j:Int)) (aV seed [281,(j:Int)])) 1 3).1) (by omega) (by omega) (λrec i hi s hsz=>by
   simp only[dD hi,ae,aL hi,bd_s,aA (show(aB (j:Int)).size<=34359738300 by omega),bOo,aA (show s.sz<=34359738300 by omega)]) (λrec s=>by simp only[rU,aa])]
  have H:((Gz (dQ seed N) seed).take j).length<=1000:=by rw[bu];omega
  have h:∀x:AB,aS ((Gz (dQ seed N) seed).take j) [x]:=λx=>bXp H (by simp);simp only[bd_s,bOo,aA (h _)];have m:j=0\/j=1:=by omega
  rcases m with rfl|rfl<;>rfl) (λrec=>by rfl) rfl]
 simp only[bd_s];have a:∀d∈dQ seed N,d.sz=0:=λd hd=>by
  simp only[dQ,cq] at hd;obtain⟨i,_,rfl⟩:=hd;rfl
 rw[show(0,dQ seed N)=((λi:Nat=>i) ([]:List AD).length,([]:List AD)++dQ seed N) from rfl,bU6 (λi:Nat=>i) (p0:=[]) (l:=dQ seed N) (Fy seed N) (by omega) (λrec p d r hp hd=>by
  have h0:=a d hd;simp only[bc] at hp;simp only[dD (show p.length<N by omega),ae,bJj,bd_s,aA (show d.sz<=34359738368/\(bA seed N).length<=34359738368 from⟨by omega,by omega⟩),bw,set_mid rfl,cw,fb];rfl) (λrec p hp=>by
  simp only[bc,A,co,rU,aa])]
 obtain⟨R,c⟩:∃R,R=((dQ seed N).drop 1).map (Fy seed N):=⟨_,rfl⟩;have hm:(dQ seed N).map (Fy seed N)=Fy seed N (bQ (aN seed 0))::R:=by have:=congrArg (List.map (Fy seed N)) (bFs seed N f.1);rw[this,c];rfl
 have I:R.length=N-1:=by rw[c,bf,cm,A]
 have o:∀d∈R,d.sz<=10:=λd hd=>by
  rw[c,cq] at hd;obtain⟨x,e,rfl⟩:=hd;have h0:=a x (eo e);have:=aUu seed N x;omega
 have J:=aUu seed N (bQ (aN seed 0));rw[aOx] at J;have hq:∀x:AD,aT (x::R) 0=some x:=λx=>rfl;rw[bo,hm,bd_s,bRd (n:=N) (d:=Fy seed N (bQ (aN seed 0))) (r:=R) f.2 (by omega) (λrec j x hj e=>by
  simp only[au (show(j:Int)<2 by omega),ae];rw[bRc (nm:=aB (j:Int)) (n:=N) (d:=x) (r:=R) f.2 e (λrec i x hi e=>by
   have hs:=Pv (j:Int);simp only[dD hi,ae,hq,bd_s,aA (show x.sz<=34359738360/\(aB (j:Int)).size<=34359738300 from⟨by omega,by omega⟩)];rfl) (λrec x=>by simp only[rU,aa])]
  simp only[bd_s]) (λrec x=>by rfl)]
 have K:bDu N (Fy seed N (bQ (aN seed 0))) 2=mQ seed N:=rfl;have B:dC (mQ seed N)=nwW seed N:=rfl;have hc:(bW (dM (bA seed N) (gU seed N)).1 (nwW seed N).2.1).1=jD seed N:=rfl;have hF:=aWq seed N;have D:=Gi (mQ seed N);rw[B] at D;have L:=P5 (bA seed N) (gU seed N);have b:∀x y:AD,(x::R).set (0:Int).toNat y=y::R:=λ_ _=>rfl;simp only[bd_s,K,hq,aA (show(mQ seed N).sz<=34359738368 by omega),B,aA (show(dM (bA seed N) (gU seed N)).1.sz<=34359738300/\(nwW seed N).2.1.sz<=34359738300 from⟨by omega,by have:=D.2;simp only[AK.sz];omega⟩),hc,b];rw[show((1:Int),(nwW seed N).1::R)=((λi:Nat=>(i:Int)) ([(nwW seed N).1]:List AD).length,[(nwW seed N).1]++R) from rfl,bU6 (λi:Nat=>(i:Int)) (p0:=[(nwW seed N).1]) (l:=R) (λd=>(dO d (jD seed N).Log (jD seed N).Boxes (iG (jD seed N) 0).1).1) (by omega) (λrec p d r hp hd=>by
  have h0:=o d hd;simp only[aq,bc] at hp;simp only[dD (show p.length<N by omega),ae,bJj,bd_s,aA (show d.sz<=34359738100/\(jD seed N).sz<=34359738100 from⟨by omega,by omega⟩),bw,set_mid rfl,cw,fb,aJ (show-9223372036854775808<=(p.length:Int)+1 by omega) (show(p.length:Int)+1<=9223372036854775807 by omega)];rfl) (λrec p hp=>by
  simp only[show([(nwW seed N).1]:List AD).length+R.length=N by simp only[aq,bc];omega,rU,aa])]
 have M:[(nwW seed N).1]++R.map (λd=>(dO d (jD seed N).Log (jD seed N).Boxes (iG (jD seed N) 0).1).1)=mY seed N:=by rw[c,gu];show(nwW seed N).1::_=(nwW seed N).1::_;congr 1;exact gh λd _=>bXa seed N d
 rw[M];simp only[bd_s];rw[bL8 (seed:=seed) (t:=t) ⟨by omega,by omega⟩ (λrec s i h0 h1 h2=>by
  have h:∀x:Int,aS s [x]:=λx=>bXp (by omega) (by simp);simp only[aA (show([307,i]:List Int).length<=34359738300 by simp),bd_s,aA (h _),aJ (show-9223372036854775808<=i+1 by omega) (show i+1<=9223372036854775807 by omega)])]
 have q:(aOw seed t).length<=34359738368:=by simp only[aOw,bf,d8];omega
 simp only[bd_s,aA (show([283]:List Int).length<=34359738300 by simp),aA (show([293]:List Int).length<=34359738300 by simp),aA (show(1018:Int)≠0 by decide),aA q];rfl
def bRg (w:AA)(d j:Int)(o:AO):(jH w d j o).1.Now=w.Now:=by
 unfold jH;cases !bX w d j with
 |true=>rfl
 |false=>
  cases !(oN w j).2.2.2 with
  |true=>rfl
  |false=>cases !((F4 w d j o).2.1==0)<;>rfl
def bVb (w:AA)(d:Int)(n:ByteArray)(a:Int)(r:Bool):(pR w d n a r).1.Now=w.Now:=by
 unfold pR;cases aK w&&aM w d with
 |false=>rfl
 |true=>cases(bN (aR w d) n a r).2<;>rfl
def bDy (w:AA)(b k p:Int)(key:List AG->Int):(iO w b k p key).1.Now=w.Now:=by unfold iO;simp only[];generalize dP w.aAF.Log k p (aR w b).Store=l;generalize bH l.1 (key l.1) (IntKind.i64.wrap (1000+IntKind.i64.wrap (10*(l.1.length:Int))))=e;cases l.2&&(e.2&&(kS w.aAF l.1 e.1).2)<;>rfl
def aMe (w:AA)(d b:Int):(aH w d b).1.Now=w.Now:=(jE w d b).2.1
def bJl (w:AA)(d:Int):(eP w d).1.Now=w.Now:=(aCs w d).2.1
def bXs (w:AA)(b:Int):(fP w b).1.Now=w.Now:=by
 unfold fP;cases Zc w b with
 |false=>rfl
 |true=>
  show(Bw w b).1.Now=w.Now;have a:(lY w b).1.Now=w.Now:=by unfold lY;rw[bJl];exact(bDy _ _ _ _ _).trans (aMe _ _ _)
  unfold Bw
  first
   |exact a
   |exact(aMe _ _ _).trans a
def bRh (w:AA)(d:Int):(kH w d).1.Now=w.Now:=by unfold kH;cases bX w d 0&& !bR w d<;>rfl
def bXt (w:AA)(b t:Int):(fF w b t).1.Now=w.Now:=by
 unfold fF;generalize((aH w b 0).2==0&&(!bR w b&&(!(b==t)&&iH w t)))=q;cases q with
 |false=>rfl
 |true=>
  show(pU w b t).1.Now=w.Now;have h1:(jX w b t).1.Now=w.Now:=(bDy _ _ _ _ _).trans (aMe _ _ _);have a:(F3 w b t).1.Now=w.Now:=(bFd _ _).2.1.trans h1;unfold pU;cases(jX w b t).2&&((Yf w b t).2&&(F3 w b t).2) with
  |false=>rfl
  |true=>exact a
def bMb (w:AA)(d j:Int):(lN w d j).1.Now=w.Now:=by
 unfold lN;cases bX w d j&& !bR w d with
 |false=>rfl
 |true=>exact bRg ..
def bMc {w:AA}(h:CldOk w.aAF)(d j:Int):CldOk (lN w d j).1.aAF:=by
 unfold lN;cases bX w d j&& !bR w d with
 |false=>exact h
 |true=>exact bDb h ..
def bJm {w:AA}(h:CldOk w.aAF)(d b:Int):CldOk (aH w d b).1.aAF:=by rw[(jE w d b).2.2.2.2.2];exact h
def bMd (k e v:Int)(b:AF):aU (mE k e v b).1.Data/\(mE k e v b).1.Data.length<=500:=by
 refine⟨?_,bCs k e v b⟩;unfold mE;cases bZ k&&(bG e 0 1000000&&bG v 0 1000000)&&aO b with
 |false=>exact⟨by show 0<=_;omega,rfl⟩
 |true=>refine aKk ?_;have:=Sy b;omega
structure Wv (i:Nat) (w:AA):Prop where
 inn:WIn w.Devices.length w
 now:w.Now<=(i:Int)
 sz:w.sz<=100000+3000*i
 cld:CldOk w.aAF
def Wv.next {i:Nat}{w v:AA}(h:Wv i w)(k:Kept w v)(n:v.Now=w.Now)(c:CldOk v.aAF):Wv (i+1) v:=
 ⟨k.wi,by rw[n];have:=h.now;omega,by have:=h.sz;have:=k.sz;omega,c⟩
def PW (p:AA->Prop)(r:List Int×Int×Int×WU):Prop:=∃c w,bB c/\p w/\r=(c.b,c.i,c.h,wT w)
def aMf {k i:Nat}(h:i<k):decide ((k:Int)-(i:Int)>0)=true:=by simp;omega
def bFv {k:Nat}:decide ((k:Int)-(k:Int)>0)=false:=by simp
def bFw {k i:Nat}(h:k<=1000)(h1:i<k):IntKind.i64.wrap ((k:Int)-(i:Int)-1)=(k:Int)-((i+1:Nat):Int):=by rw[aJ (by omega) (by omega)];omega
def cEz {n k t pin seed:Int}{c:AM}(hc:bB c)(h:aSt n k t pin seed=true):Ex (bOr n k t pin seed c.b c.i c.h) (PW (Wv 0)):=by rw[bVa];obtain⟨a,d,e⟩:=bIr h;have f:=bIh n k t pin seed;refine gP ⟨c,gN n k t pin seed,hc,⟨by rw[d];exact a,?_,by omega,bXl⟩,rfl⟩;unfold gN;rw[h];exact eS _
def cE0 (l:List Int):Ex (bI (α:=Int) FUEL (λb (a:(Int×Int))=>bd (bif a.2<(l.length:Int) then some (decide (a.2<4000)) else some false) λc=>bif c then bd (aT l a.2) λd=>b (rT IntKind.i64 (IntKind.i64.wrap (IntKind.i64.wrap (IntKind.i64.wrap (a.1*137)+IntKind.i64.wrap d)+11)) (1073741823:Int),IntKind.i64.wrap (a.2+1)) else some a.1) (IntKind.i64.wrap ((193017:Int)+(l.length:Int)),(0:Int))) λ_=>True:=by
 refine bRf (λi (s:Int×Int)=>s.2=(i:Int)) (min l.length 4000) (by omega) rfl (λi s rec hi hv=> ?_) (λs rec hv=> ?_)
 ·obtain⟨x,y⟩:=s;have hv:y=(i:Int):=hv;subst hv;simp only[au (show(i:Int)<(l.length:Int) by omega),au (show(i:Int)<4000 by omega),ae,bd_s,aL (show i<l.length by omega)];exact bRe (by show IntKind.i64.wrap ((i:Int)+1)=((i+1:Nat):Int);rw[aJ (by omega) (by omega)];omega)
 ·obtain⟨x,y⟩:=s;have hv:y=((min l.length 4000:Nat):Int):=hv;subst hv;refine bdE (λr=>r=false) (uU (λq=>gP ?_) λ_=>gP rfl) λr hr=>by subst hr;exact gP trivial
  have q:=of_decide_eq_true q;exact ay (by omega)
def cBo:∀s∈[ByteArray.mk #[UInt8.ofNat 98,UInt8.ofNat 97,UInt8.ofNat 110,UInt8.ofNat 107,UInt8.ofNat 46,UInt8.ofNat 99,UInt8.ofNat 111,UInt8.ofNat 109],ByteArray.mk #[UInt8.ofNat 97,UInt8.ofNat 46,UInt8.ofNat 110,UInt8.ofNat 101,UInt8.ofNat 116],ByteArray.mk #[UInt8.ofNat 98,UInt8.ofNat 46,UInt8.ofNat 110,UInt8.ofNat 101,UInt8.ofNat 116]],s.size<=100:=by intro s hs;simp only[bg,eW,or_false] at hs;rcases hs with rfl|rfl|rfl<;>decide
def Wv.tick {i:Nat}{w:AA}(h:Wv i w)(hi:i<5):Wv (i+1) {w with Now:=IntKind.i64.wrap (w.Now+1)}:=by have h0:=h.inn.now;have hn:=h.now;have e:IntKind.i64.wrap (w.Now+1)=w.Now+1:=aJ (by omega) (by omega);rw[e];exact⟨⟨h.inn.seed,show 0<=w.Now+1/\w.Now+1<=999900 by omega,h.inn.dlen,h.inn.slen,h.inn.dev,h.inn.two,h.inn.mle,h.inn.site,h.inn.mail,h.inn.log⟩,by show w.Now+1<=_;omega,by have:=h.sz;show w.sz<=_;omega,h.cld⟩
def bRi {w:AA}{c:AR}:({w with aAF:=c}:AA).sz<=w.sz+c.sz:=by simp only[AA.sz,AR.sz];omega
def bXu {α:Type}(f:α->Nat)(l:List α)(n:Nat):((l.take n).map f).sum<=(l.map f).sum:=by
 have:(l.map f).sum=((l.take n).map f).sum+((l.drop n).map f).sum:=by rw[<-List.sum_append,<-cQ,cF]
 omega
def bFx {l:List AG}{b:AP}(h:bFb b):CldOk (dM l b).1:=by
 unfold dM;cases bD l&&gY b l with
 |true=>exact⟨⟨h,λs hs=>absurd hs eW⟩, .nil⟩
 |false=>exact⟨⟨λs hs=>absurd hs eW,λs hs=>absurd hs eW⟩, .nil⟩
def bXv {l:List Int}(hb:bQk l=false):l.length<=1048576:=by unfold bQk at hb;rw[cY] at hb;omega
def eqT {w:AA}(a:w.sz<=34359738368)(h:CldOk w.aAF):rO w.sz w w/\w.sz<=34359738368/\yI w.aAF:=⟨⟨rfl,by omega⟩,a,h.bytes⟩
end
end Go.VK
set_option maxRecDepth 100000
set_option maxHeartbeats 4000000
namespace Go.VK
open Go.RowKit Go.Proofs D
noncomputable section
open EV (bI)
def aIa (l:List AS):Jk l=some (List.take 60 l):=by
 grind[aA,gH,Int.toNat_natCast,List.take_length,List.take_of_length_le,Jk]
def Vq (b:AN)(now:Int)(h:b.sz<=34359738368):uC b now=some (lS b now):=by
 unfold uC lS;rw[aA h,bd_s,aA h,bd_s];cases hb:dK b with
 |false=>rfl
 |true=>
  have hl:b.Open.length<=16:=by
   grind[dK]
  simp only[aj,aa,ae];refine cK (a:=b.Open.filter λc=>decide (c.Until>=now)) (tJ (λi=>(i,(b.Open.take i).filter λc=>decide (c.Until>=now))) b.Open.length (by omega) (λrec i hi=> ?_) (λrec=> ?_) rfl) rfl
  ·grind[decide,aA,aS,List.length_singleton,bd_s,List.take_succ_eq_append_getElem,Nat.le_trans,List.length_filter_le,List.length_take,dD,aL]
  simp
def bJn (w:AA)(h:w.sz<=34359738368):aR8 w=some (Mo w):=by
 unfold aR8 Mo;rw[aA h,bd_s];refine cK (a:=aK (vE w)) (aA (by assumption)) ?_;cases c:aK (vE w) with
 |false=>rfl
 |true=>
  obtain⟨h2,_⟩:=uM c;change w.Sites.length=2 at h2;have b:∀s∈w.Sites,s.Book.sz<=34359738368:=λs hs=>by
   have h1:s.sz<=w.sz:=by
    obtain⟨i,hi,rfl⟩:=de.1 hs;have:=Fw (f:=AB.sz) hi
    grind[AA.sz,List.getD,List.getElem?_eq_getElem]
   grind[AB.sz,AN.sz]
  obtain⟨s0,s1,e⟩:∃s0 s1,w.Sites=[s0,s1]:=by
   match hq:w.Sites,h2 with
   |[s0,s1],_=>exact⟨s0,s1,rfl⟩
  rw[e] at b;have d:=b s0 (by simp);have j:=b s1 (by simp);rw[aj,aa,ae];rw[e];refine cK (tJ (λi=>(i,match i with|0=>[s0,s1]|1=>[{s0 with Book:=lS s0.Book (vE w).Now},s1]|_=>[{s0 with Book:=lS s0.Book (vE w).Now},{s1 with Book:=lS s1.Book (vE w).Now}])) 2 (by omega) (λrec i hi=> ?_) (λrec=> ?_) rfl) rfl
  ·rcases(show i=0\/i=1 by omega) with rfl|rfl
   ·exact cK (aA d) rfl
   ·exact cK (aA j) rfl
  ·rfl
def aMg (w:AA)(d j:Int)(o:ByteArray)(h:Ro w d j o/\w.sz<=34359738200):Nu w d j o=some (Yj w d j o):=by
 have a:w.sz<=34359738368:=by omega
 unfold Nu Yj;rw[aA a,bd_s,aA a];cases ht:bX w d j with
 |false=>rfl
 |true=>
  cases bR w d with
  |true=>rfl
  |false=>exact cK (aA (show iX (AO.mk true o 443)/\w.sz<=34359738200 from⟨h.1 ht,h.2⟩)) rfl
def bVc (w:AA)(d j:Int):Ro w d j (aGu j).Host:=λht=>by
 rcases(vN ht).2.2.2.1 with rfl|rfl
 ·exact⟨4,by decide,rfl⟩
 ·exact⟨5,by decide,rfl⟩
def aMh (w:AA)(e:AS)(h:w.sz<=99000000):Oq w e=some (yZ w e):=by
 have a:w.sz<=34359738368:=by omega
 have b:w.sz<=34359738200:=by omega
 have l:w.sz<=100000000:=by omega
 have c:w.sz<=34359738300:=by omega
 have m:w.sz<=10000000000:=by omega
 have n:w.sz<=34359738100:=by omega
 have hn:=Pv e.Other;unfold Oq yZ aWv;rw[aA a,bd_s];cases aK w with
 |false=>simp[*,flW,unW]
 |true=>
 rw[aj,aa];cases h1:e.Kind==1 with
 |true=>simp[*,flW,unW]
 |false=>
 cases h2:e.Kind==2 with
 |true=>simp[*,flW,unW]
 |false=>
 cases o:e.Kind==3 with
 |true=>rw[aa,aa,ae,aA (by show 6+(aB e.Other).size<=_;omega),aA (by rw[ByteArray.size_append];show 6+(aB e.Other).size+9<=_;omega)];exact aFs (cK (aA (show Ro w e.Device e.Other (aGu e.Other).Host/\w.sz<=34359738200 from⟨bVc _ _ _,b⟩)) rfl) rfl
 |false=>
 cases p:e.Kind==4 with
 |true=>simp[*,flW,unW]
 |false=>
 cases q:e.Kind==5 with
 |true=>simp[*,flW,unW]
 |false=>
 cases r:e.Kind==6 with
 |true=>simp[*,flW,unW]
 |false=>
 cases s:e.Kind==7 with
 |true=>simp[*,flW,unW]
 |false=>
 cases t:e.Kind==8 with
 |true=>simp only[aa,ae];rw[aA (show w.sz<=34359738300/\_ from⟨c,by decide⟩)];rfl
 |false=>
 cases u:e.Kind==9 with
 |true=>simp[*,flW,unW]
 |false=>
 cases d:e.Kind==10 with
 |true=>simp[*,flW,unW]
 |false=>
 cases f:e.Kind==11 with
 |true=>simp[*,flW,unW]
 |false=>
 cases j:e.Kind==12 with
 |true=>simp[*,flW,unW]
 |false=>
 cases k:e.Kind==13<;>simp_all[flW,unW]
theorem bVd {l:List AS}{i:Nat}(h:i<(l.take 60).length):(l.take 60)[i]=l.getD i default:=by
 have:i<l.length:=by grind
 rw[List.getD,ab this,cJ,fS]
def aQh (w:AA)(l:List AS)(h:Tf w l):Va w l=some (bT4 w l):=by
 unfold Va;rw[aA h.1,bd_s];refine cK (a:=flW (runN w l (min l.length 60))) (tJ (λi=>(i,flW (runN w l i))) (min l.length 60) (by omega) (λrec i hi=> ?_) (λrec=> ?_) rfl) rfl
 ·have b:i<(l.take 60).length:=by grind
  simp only[dD b,ae,aL b,bd_s,bVd b];exact cK (aA (show(runN w l i).sz<=99000000 from h.2 i hi)) rfl
 grind
def aMi (w:AA)(l:List AS)(h:Tf w l):Pg w l=some (Zd w l):=by
 unfold Pg;refine cK (a:=Zd w l) ?_ rfl;have hlen:(l.take 60).length=min 60 l.length:=bu;by_cases h0:l.length=0
 ·grind[Zd,decide_eq_false]
 ·have hp:0<(l.take 60).length:=by omega
  rw[au (show(0:Int)<((l.take 60).length:Int) by omega),ae];refine cK (a:=l.getD 0 default) (by grind[aL,trans,bVd]) (cK (aA (show w.sz<=99000000 from h.2 0 (by omega))) ?_);rw[aA (by show 0+1<=_;decide)];refine tJ (λi=>((List.range (i+1)).map (bT5 w l),((i+1:Nat):Int),flW (runN w l (i+1)))) (min l.length 60-1) (by omega) (λrec i hi=> ?_) (λrec=> ?_) rfl
  ·have b:i+1<(l.take 60).length:=by omega
   simp only[dD b,ae,aL b,bd_s,bVd b];refine cK (aA (show(runN w l (i+1)).sz<=99000000 from h.2 (i+1) (by omega))) ?_;rw[aA (by grind[List.length_map,List.length_range,List.length_singleton,aS])];rw[dg (n:=i+1),cQ,show(((i+1+1:Nat)):Int)=IntKind.i64.wrap (((i+1:Nat):Int)+1) by rw[aJ (by omega) (by omega)];omega];rfl
  grind[min,Zd,Nat.min_comm]
theorem bOs {q:Int}{w:AA}{l:List AS}:∀k,bQl q w l k<=k
 |0=>ak _
 |k+1=>by
  have:=bOs (q:=q) (w:=w) (l:=l) k
  grind[Nat.succ_le_succ,Nat.le_succ_of_le,bT5,default,bQl]
def aD3 (w:AA)(l:List AS)(q:Int)(h:Tf w l):Ed w l q=some (aWy w l q):=by
 unfold Ed;refine cK (a:=aWy w l q) (cK (aA h) ?_) rfl;have hlen:(Zd w l).length=min l.length 60:=by unfold Zd;rw[bf,d8]
 refine tJ (λi=>((bQl q w l i:Int),i)) (min l.length 60) (by omega) (λrec i hi=> ?_) (λrec=> ?_) rfl
 ·grind[bT5,bd_s,default,aJ,bQl,dD,aL,bOs,List.getD,List.getElem?_eq_getElem,Zd]
 ·rw[<-hlen];simp only[rU,aa];rw[hlen];rfl
def bVe {w:AA}(h:CldOk w.aAF)(e:AS):CldOk (yZ w e).1.aAF:=
 bUt (Q:=λv=>CldOk v.aAF) h (by unfold Mo;cases aK (vE w)<;>exact h) (λ_ _ _=>bDb h _ _ _) (λ_=>bDc h _) (λ_=>bN4 h _) (λ_ _=>bN5 h _ _) (λ_ _ _ _=>bI4 h _ _ _ _) (λ_=>aW8 h _) (λ_ _=>bJm h _ _)
  (λv=>by
   show CldOk (iP w (Cb w) v).1.aAF;unfold iP;cases aK w<;>exact h)
  (by unfold fH;cases aK w&&(fG w.Hosts (aWb w)).2<;>exact h)
  (λo v=>by
   unfold gI;cases !aK w||(decide (o<0)||decide (o>=(w.Hosts.length:Int))) with
   |true=>exact h
   |false=>cases(fE (w.Hosts.getD o.toNat default) v).2<;>exact h) e
--@draw
def bVf (r:AA×AS):Prop:=r.1.sz<=1000000/\CldOk r.1.aAF
def tailV {c:AM}{W:AA}(hc:bB c)(a:W.sz<=1000000)(hd:CldOk W.aAF):Ex (Rp c W) bVf:=by unfold Rp;refine bgE hc (blE (bU8 hc).1 λb d h1 _ _=>uU (λ_=> ?_) λ_=>uU (λ_=> ?_) λ_=>uU (λ_=> ?_) λ_=>gP ⟨a,hd⟩)<;>exact inE h1 (by decide) λ_ _ _ _=>gP ⟨a,hd⟩
def cE2 {c:AM}{l:List ByteArray}(h:bB c)(h0:0<l.length)(hl:∀s∈l,s.size<=100):Ex (Gb c l) λr=>bB r.1/\r.2.size<=100:=by
 unfold Gb;refine blE h λd v h1 a b=> ?_
 have b:=b (by omega);show Ex (bd (aT l v) _) _;rw[jP a (by omega)];exact gP ⟨h1,hl _ (cp _)⟩
def cDd {m:AV}(h:m.Notices.length<=34359738368):Ex (nX m) λr=>r.1.Notices.length=m.Notices.length:=by
 unfold nX;refine bgE h (bdE (λr=>r.2.length=m.Notices.length) ?_ λr hr=>gP hr);refine bRf (λi (s:List AU×Nat×List AU)=>∃a ns,a.length<=i/\ns.length=m.Notices.length/\s=(a,i,ns)) m.Notices.length (by omega) ⟨[],m.Notices,ak _,rfl,rfl⟩ (λi s rec hi hv=> ?_) (λs rec hv=> ?_)
 ·obtain⟨a,ns,h1,h2,rfl⟩:=hv;refine bU9 (dD hi) (bdS (λr=>r.1.length<=i+1/\r.2.length=m.Notices.length) (bdE (λr=>r.length<=i+1) ?_ λr hr=> ?_) λr hr=>bRe ⟨r.1,r.2,hr.1,hr.2,rfl⟩)
  ·show Ex (bd (aT m.Notices (i:Int)) _) _;rw[aL hi];refine bdE (λ_=>True) (gP trivial) λr _=> ?_
   refine uU (λ_=> ?_) λ_=>gP (show a.length<=i+1 by omega);exact gdE (by unfold aS;show a.length+1<=_;omega) (gP (by simp only[ax,ck];omega))
  ·show Ex (bd (aT ns (i:Int)) _) _;rw[aL (by omega)];exact gP ⟨hr,by simp only[aw];exact h2⟩
 ·obtain⟨a,ns,h1,h2,rfl⟩:=hv;exact uU (λq=>absurd (q.symm.trans rU) (by decide)) λ_=>gP h2
def cE3 {c:AM}(h:bB c):Ex (zD c 10) λr=>bB r.1/\r.2.length<=10:=by
 unfold zD;refine bdE (λr=>∃(c:AM) (l:List AG),bB c/\l.length<=10/\r=(l,c.b,c.i,c.h)) ?_ λr hr=> ?_
 ·refine blE h λo v h1 a b=> ?_;have b:=b (by decide);obtain⟨k,rfl⟩:∃k:Nat,v=(k:Int):=⟨v.toNat,by omega⟩;refine bRf (λi (s:List AG×Int×List Int×Int×Int)=>∃(c:AM) (l:List AG),bB c/\l.length<=i/\s=(l,(k:Int)-(i:Int),c.b,c.i,c.h)) k (by omega) ⟨o,[],h1,ak _,by simp⟩ (λi s rec hi hv=> ?_) (λs rec hv=> ?_)
  ·obtain⟨c,l,q1,q2,rfl⟩:=hv;refine bU9 (aMf hi) (bdS (λr=>∃(c:AM) (l:List AG),bB c/\l.length<=i+1/\r=(l,c.b,c.i,c.h)) ?_ λr hr=> ?_)
   ·refine blE q1 λy z p _ _=>blE p λt A f _ _=>bdE (λ_=>True) (uU (λ_=>gP trivial) λ_=>gP trivial) λB _=> ?_;refine bdE (λr=>∃(n:Int) (c:AM),bB c/\r=(n,c.b,c.i,c.h)) (bdE (λr=>∃(n:Bool) (c:AM),bB c/\r=(n,c.b,c.i,c.h)) (uU (λ_=>onE f λu w x=>gP ⟨w,u,x,rfl⟩) λ_=>gP ⟨_,t,f,rfl⟩) ?_) ?_
    ·rintro _ ⟨n,c,hc,rfl⟩;exact uU (λ_=>gP ⟨_,c,hc,rfl⟩) λ_=>gP ⟨_,c,hc,rfl⟩
    ·rintro _ ⟨n,c,hc,rfl⟩;refine bdE (λ_=>True) (by unfold oQ;exact gP trivial) λj _=>bdE (λ_=>True) (by unfold oQ;exact gP trivial) λm _=>bgE (show l.length<=34359738300 by omega) (gP ⟨c,_,hc,?_,rfl⟩);have:=lX l n (aZ j) m;show(dP l n (aZ j) m).1.length<=_;omega
   ·obtain⟨c,l,d,e,rfl⟩:=hr;exact bRe ⟨c,l,d,e,by show(l,IntKind.i64.wrap ((k:Int)-(i:Int)-1),c.b,c.i,c.h)=_;rw[bFw (by omega) hi]⟩
  ·obtain⟨c,l,q1,q2,rfl⟩:=hv;exact uU (λq=>absurd (q.symm.trans bFv) (by decide)) λ_=>gP ⟨c,l,q1,by omega,rfl⟩
 ·obtain⟨c,l,d,e,rfl⟩:=hr;exact gP ⟨d,e⟩
def bJo {l:List Int}(hl:l.length<=1048576):Ex (kP l) bVf:=by
 unfold kP;refine bdE (λ_=>True) (cE0 l) λz0 _=> ?_
 refine blE (c:=AM.mk l 0 z0) ⟨eS _,hl⟩ λc1 N h1 a1 b1=> ?_;have b1:=b1 (by decide);refine bdE (PW (Wv 0)) (blE h1 λc3 v3 h3 a3 b3=>blE h3 λZ D p a4 y=>blE p λc5 v5 H a5 b5=>blE H λI a J a6 b6=> ?_) ?_
 ·have b3:=b3 (by decide);have b5:=b5 (by decide);have b6:=b6 (by decide);show Ex (bOr (IntKind.i64.wrap ((1:Int)+v3)) (IntKind.i64.wrap ((1:Int)+N)) (IntKind.i64.wrap ((1:Int)+D)) v5 (IntKind.i64.wrap ((1:Int)+a)) I.b I.i I.h) _;refine cEz J ?_;have y:0<IntKind.i64.wrap (1+N)->D<IntKind.i64.wrap (1+N):=y;rw[aJ (show-9223372036854775808<=1+N by omega) (by omega)] at y ⊢;have y:=y (by omega);rw[aJ (show-9223372036854775808<=1+v3 by omega) (by omega),aJ (show-9223372036854775808<=1+D by omega) (by omega),aJ (show-9223372036854775808<=1+a by omega) (by omega)];unfold aSt;rw[show bZ (1+a)=true from pG (by omega) (by omega),pG (show(1:Int)<=1+v3 by omega) (by omega),pG (show(1:Int)<=1+N by omega) (by omega),pG (show(1:Int)<=1+D by omega) (by omega),pG a5 (by omega)];rfl
 rintro _ ⟨c,w,hc,f,rfl⟩;refine bdE (PW λw=>w.sz<=200000/\CldOk w.aAF/\w.Sites.length=2) ?_ ?_
 ·refine blE hc λZ D p a4 y=> ?_;have y:=y (by decide);obtain⟨k,rfl⟩:∃k:Nat,D=(k:Int):=⟨D.toNat,by omega⟩;refine bRf (λi (s:Int×List Int×Int×Int×WU)=>∃c w,bB c/\Wv i w/\s=((k:Int)-(i:Int),c.b,c.i,c.h,wT w)) k (by omega) ⟨Z,w,p,f,by simp⟩ (λi s rec hi hv=> ?_) (λs rec hv=> ?_)
  ·obtain⟨c,w,hc,f,rfl⟩:=hv;have L:w.sz<=120000:=by have:=f.sz;omega
   refine bU9 (aMf hi) (blS hc λI a J a6 b6=>bdS (PW (Wv (i+1))) (blE J λO v8 x a8 b8=> ?_) ?_)
   ·refine uU (λ_=> ?_) λ_=>uU (λ_=> ?_) λ_=>uU (λ_=> ?_) λ_=>bdE (λ_=>True) (uU (λ_=>gP trivial) λ_=>gP trivial) λq9 _=>uU (λ_=> ?_) λ_=>uU (λ_=> ?_) λ_=>uU (λ_=> ?_) λ_=>uU (λ_=> ?_) λ_=> ?_
    ·exact bgE (show w.sz<=34359738368 by omega) (gP ⟨O,(kH w a).1,x,f.next (.of (f.inn.aDJ a) (by rw[bI1];omega)) (bRh w a) (bDc f.cld a),rfl⟩)
    ·refine blE x λc9 F G _ _=>bgE (show w.sz<=34359738200 by omega) (gP ⟨c9,(lN w a F).1,G,f.next ?_ (bMb w a F) (bMc f.cld a F),rfl⟩);exact bUl f.inn _ _ _ _
    ·refine bdE _ (cE2 x (by decide) cBo) λr9 G=>blE G.1 λo d n _ _=>onE n λz j v=>bgE ⟨show w.sz<=34359738300 by omega,by have:=G.2;omega⟩ (gP ⟨z,(pR w a r9.2 d j).1,v,f.next ?_ (bVb ..) (bI4 f.cld ..),rfl⟩);exact .of ⟨f.inn.aDN a r9.2 d j,bQv w a r9.2 d j⟩ (by have:=bIt w a r9.2 d j;omega)
    ·refine bgE (show w.sz<=10000000000 by omega) (gP ⟨O,(eP w a).1,x,f.next ?_ (bJl ..) (aW8 f.cld ..),rfl⟩);exact .of ⟨f.inn.push a,(aCs w a).1,(aCs w a).2.2.1⟩ (by have:=bUk f.inn a;omega)
    ·refine bgE (show w.sz<=100000000 by omega) (gP ⟨O,(fP w a).1,x,f.next ?_ (bXs ..) (bN4 f.cld ..),rfl⟩);exact⟨(f.inn.add a).1,(f.inn.add a).2,by have:=add_add f.inn a;omega⟩
    ·refine blE x λo d n _ _=>bgE (show w.sz<=100000000 by omega) (gP ⟨o,(fF w a d).1,n,f.next ?_ (bXt ..) (bN5 f.cld ..),rfl⟩);exact .of (f.inn.cut a d) (by have:=bXj f.inn a d;omega)
    ·exact gP ⟨O,{w with Now:=IntKind.i64.wrap (w.Now+1)},x,f.tick (by omega),rfl⟩
    ·refine blE x λo d n _ _=>bgE (show w.sz<=34359738100 by omega) (gP ⟨o,(aH w a d).1,n,f.next ?_ (aMe ..) (bJm f.cld ..),rfl⟩);exact .of ⟨f.inn.sync a d,(jE w a d).1,(jE w a d).2.2.1⟩ (by have:=bIs f.inn a d;omega)
   ·rintro _ ⟨c,w,hc,f,rfl⟩;exact bRe ⟨c,w,hc,f,by show(IntKind.i64.wrap ((k:Int)-(i:Int)-1),c.b,c.i,c.h,wT w)=_;rw[bFw (by omega) hi]⟩
  ·obtain⟨c,w,hc,f,rfl⟩:=hv;exact uU (λq=>absurd (q.symm.trans bFv) (by decide)) λ_=>gP ⟨c,w,hc,⟨by have:=f.sz;omega,f.cld,f.inn.two⟩,rfl⟩
 rintro _ ⟨c,w,hc,⟨L,hd,ho⟩,rfl⟩;refine blE hc λZ D p a4 y=>uU (λ_=> ?_) λ_=>uU (λ_=> ?_) λ_=>uU (λ_=> ?_) λ_=>uU (λ_=> ?_) λ_=>uU (λ_=> ?_) λ_=>uU (λ_=> ?_) λ_=>uU (λ_=> ?_) λ_=> ?_
 ·exact inE p (by decide) λc5 v5 H _=>tailV (W:={w with Now:=v5}) H (by show w.sz<=_;omega) hd
 ·exact gdE (by unfold gH;show(0:Int)<=0/\_;omega) (tailV (W:={w with Stolen:=w.Stolen.take 0}) p (by simp only[AA.sz] at L ⊢;simp only[bu];omega) hd)
 ·refine gdE (show gH w.Sites 1 from⟨by decide,by show 1<=_;omega⟩) (tailV (W:={w with Sites:=w.Sites.take 1}) p ?_ hd);have e:=bXu AB.sz w.Sites 1;simp only[AA.sz] at L ⊢;simp only[bu,show(1:Int).toNat=1 from rfl] at*;omega
 ·refine bdE (λr=>∃(c:AM) (m:List AU),bB c/\m.length<=1000/\r=(c.b,c.i,c.h,m)) (inE p (by decide) λI a J m6=> ?_) ?_
  ·obtain⟨k,rfl,hk⟩:∃k:Nat,a=(k:Int)/\k<=32:=⟨a.toNat,by simp at m6;omega,by simp at m6;omega⟩;refine bRf (λi (s:Int×Int×List Int×Int×Int×List AU)=>∃(t:Int) (c:AM) (m:List AU),bB c/\m.length<=i/\s=(t,(k:Int)-(i:Int),c.b,c.i,c.h,m)) k (by omega) ⟨0,I,[],J,ak _,by simp⟩ (λi s rec hi hv=> ?_) (λs rec hv=> ?_)
   ·obtain⟨t,c,m,hc,hm,rfl⟩:=hv;refine bU9 (aMf hi) (bdS (λr=>∃(t:Int) (c:AM) (m:List AU),bB c/\m.length<=i+1/\r=(t,c.b,c.i,c.h,m)) ?_ ?_)
    ·refine blE hc λc9 F G _ _=>blE G λo d n _ _=>blE n λz j v _ _=>bgE (show m.length<=34359738300 by omega) (onE v λK u A=> ?_);have hs:(qK (AV.mk m) (IntKind.i64.wrap ((1:Int)+d)) j (IntKind.i64.wrap (t+F))).1.Notices.length<=m.length+1:=bNo (AV.mk m) (IntKind.i64.wrap ((1:Int)+d)) j (IntKind.i64.wrap (t+F));exact uU (λ_=>bdE _ (cDd (by show(qK (AV.mk m) (IntKind.i64.wrap ((1:Int)+d)) j (IntKind.i64.wrap (t+F))).1.Notices.length<=_;omega)) λz14 h14=>gP ⟨_,K,_,A,bm (Nat.le_of_eq h14) (bm hs (by omega)),rfl⟩) λ_=>gP ⟨_,K,_,A,bm hs (by omega),rfl⟩
    ·rintro _ ⟨t,c,m,hc,hm,rfl⟩;exact bRe ⟨t,c,m,hc,hm,by show(t,IntKind.i64.wrap ((k:Int)-(i:Int)-1),c.b,c.i,c.h,m)=_;rw[bFw (by omega) hi]⟩
   ·obtain⟨t,c,m,hc,hm,rfl⟩:=hv;exact uU (λq=>absurd (q.symm.trans bFv) (by decide)) λ_=>gP ⟨c,m,hc,by omega,rfl⟩
  rintro _ ⟨c,m,hc,hm,rfl⟩;refine bdE (λr=>∃(c:AM) (m:List AU),bB c/\m.length<=1001/\r=(c.b,c.i,c.h,m)) (blE hc λc7 M h7 _ _=>uU (λ_=>inE h7 (by decide) λO v8 x _=>inE x (by decide) λc9 F G _=>inE G (by decide) λo d n _=>gdE (by unfold aS;show m.length+1<=_;omega) (gP ⟨o,_,n,by rw[ax];show m.length+1<=_;omega,rfl⟩)) λ_=>gP ⟨c7,m,h7,by omega,rfl⟩) ?_;rintro _ ⟨c,m,hc,hm,rfl⟩;refine tailV (W:={w with Mail:=⟨m⟩}) hc ?_ hd;simp only[AA.sz] at L ⊢;omega
 ·exact bgE p (tailV (W:={w with Seed:=(aWw Z).2}) (bXq p) (by show w.sz<=_;omega) hd)
 ·refine bdE _ (cE3 p) λr5 H=>blE H.1 λI a J _ _=>blE J λc7 M h7 _ _=> ?_;obtain⟨c5,log⟩:=r5;obtain⟨H,hl⟩:=H;have hl:log.length<=10:=hl;have he:=yH log (IntKind.i64.wrap ((1:Int)+a)) (IntKind.i64.wrap ((1:Int)+M));have R:=aKl log (IntKind.i64.wrap ((1:Int)+a)) (IntKind.i64.wrap ((1:Int)+M));refine bgE (show log.length<=34359738300 by omega) ?_;show Ex (bd (gd (log.length<=34359738368/\(bH log (IntKind.i64.wrap ((1:Int)+a)) (IntKind.i64.wrap ((1:Int)+M))).1.sz<=34359738368) (some (dM log (bH log (IntKind.i64.wrap ((1:Int)+a)) (IntKind.i64.wrap ((1:Int)+M))).1))) _) _;generalize(bH log (IntKind.i64.wrap ((1:Int)+a)) (IntKind.i64.wrap ((1:Int)+M))).1=bx at he R;have hn:=P5 log bx;have T:=bFx (l:=log) R;refine bgE ⟨by omega,by omega⟩ ?_;generalize dM log bx=cl at hn T;obtain⟨cl,clb⟩:=cl;have hn:cl.sz<=log.length+bx.sz:=hn;refine bdE (λr=>∃(c:AM) (q:AR),bB c/\(q.sz<=100000/\CldOk q)/\r=(c.b,c.i,c.h,q.Log,q.Boxes.Epoch,q.Boxes.Boxes,q.History)) (inE h7 (by decide) λz j v X=> ?_) ?_
  ·obtain⟨k,rfl,hk⟩:∃k:Nat,j=(k:Int)/\k<=61:=⟨j.toNat,by simp at X;omega,by simp at X;omega⟩;refine bRf (λi (s:Int×Int×List Int×Int×Int×List AG×Int×List AQ×List AK)=>∃(t:Int) (c:AM) (q:AR),bB c/\(q.sz<=1000+600*i/\CldOk q)/\s=(t,(k:Int)-(i:Int),c.b,c.i,c.h,q.Log,q.Boxes.Epoch,q.Boxes.Boxes,q.History)) k (by omega) ⟨0,z,cl,v,⟨by omega,T⟩,by simp⟩ (λi s rec hi hv=> ?_) (λs rec hv=> ?_)
   ·obtain⟨t,c,q,hc,⟨hq,hqc⟩,rfl⟩:=hv;refine bU9 (aMf hi) (blS hc λK u A _ _=>bgS (show log.length<=34359738368 by omega) (blS A λc15 B h15 _ _=>bgS (show(1:Nat)<=34359738368 by decide) ?_));show St _ _ _ _ (bd (gd (q.sz<=34359738300/\(mE (IntKind.i64.wrap ((1:Int)+a)) (aQ log) (IntKind.i64.wrap (IntKind.i64.wrap (t+1)+u)) (AF.mk [AH.mk (IntKind.i64.wrap ((1:Int)+B)) 0 1 false])).1.sz<=34359738300) (some (bW q (mE (IntKind.i64.wrap ((1:Int)+a)) (aQ log) (IntKind.i64.wrap (IntKind.i64.wrap (t+1)+u)) (AF.mk [AH.mk (IntKind.i64.wrap ((1:Int)+B)) 0 1 false])).1))) _);have hb:=bMd (IntKind.i64.wrap ((1:Int)+a)) (aQ log) (IntKind.i64.wrap (IntKind.i64.wrap (t+1)+u)) (AF.mk [AH.mk (IntKind.i64.wrap ((1:Int)+B)) 0 1 false]);generalize(mE (IntKind.i64.wrap ((1:Int)+a)) (aQ log) (IntKind.i64.wrap (IntKind.i64.wrap (t+1)+u)) (AF.mk [AH.mk (IntKind.i64.wrap ((1:Int)+B)) 0 1 false])).1=sl at hb;have hu:=(tC q sl).1;refine bgS ⟨by omega,by show sl.Data.length<=_;omega⟩ (bRe ⟨IntKind.i64.wrap (IntKind.i64.wrap (t+1)+u),c15,(bW q sl).1,h15,⟨by omega,aW7 hqc hb.1⟩,?_⟩);show(_,IntKind.i64.wrap ((k:Int)-(i:Int)-1),_,_,_,_,_,_,_)=_;rw[bFw (by omega) hi]
   ·obtain⟨t,c,q,hc,hq,rfl⟩:=hv;exact uU (λq=>absurd (q.symm.trans bFv) (by decide)) λ_=>gP ⟨c,q,hc,⟨by omega,hq.2⟩,rfl⟩
  ·rintro _ ⟨c,q,hc,hq,rfl⟩;exact tailV (W:={w with aAF:=q}) hc (bm bRi (by omega)) hq.2
 ·refine gdE ?_ (tailV (W:={w with Devices:=w.Devices++[AD.mk (AJ.mk 0 0 0 0) [] 0 0 0 (AF.mk [])]}) p ?_ hd)
  ·simp only[AA.sz] at L;unfold aS;show w.Devices.length+1<=_;omega
  ·simp only[AA.sz] at L ⊢;simp only[ax,cQ,List.sum_append,ck,bn,e9,dt,List.sum_nil,AD.sz,bc];omega
 ·exact tailV (W:=w) p (by omega) hd
def bXw (k:Int):Ex (rF k) λn=>(!n.toList==(ByteArray.mk #[]).toList)=bG k 1 13:=by
 unfold rF;cases h:bG k 1 13 with
 |false=>exact⟨_,rfl,by show(!(ByteArray.mk #[]).toList==(ByteArray.mk #[]).toList)=false;kernel_rfl⟩
 |true=>have hk:=jK h;obtain⟨j,rfl⟩:∃j:Nat,k=(j:Int)+1:=⟨(k-1).toNat,by omega⟩;rw[aj,aa,aJ (by omega) (by omega),show(j:Int)+1-1=(j:Int) by omega,aL (by show j<13;omega)];refine⟨_,rfl,?_⟩;show(!ByteArray.toList _==(ByteArray.mk #[]).toList)=true;rcases(show j=0\/j=1\/j=2\/j=3\/j=4\/j=5\/j=6\/j=7\/j=8\/j=9\/j=10\/j=11\/j=12 by omega) with rfl|rfl|rfl|rfl|rfl|rfl|rfl|rfl|rfl|rfl|rfl|rfl|rfl<;>kernel_rfl
def bXx (q:Int)(w:AA)(e:AS):Ex (Ph (yZ (yZ w e).1 (AS.mk 1 0 0 0 false)).2) λn=>n<=aWy w [e,AS.mk 1 0 0 0 false] 1:=by
 have hs:aWy w [e,AS.mk 1 0 0 0 false] 1=((0+(bif (yZ w e).2&&e.Kind==1 then 1 else 0)+(bif (yZ (yZ w e).1 (AS.mk 1 0 0 0 false)).2&&(1:Int)==1 then 1 else 0):Nat):Int):=rfl;rw[hs];unfold Ph;generalize(bif (yZ w e).2&&e.Kind==1 then 1 else 0:Nat)=a;cases(yZ (yZ w e).1 (AS.mk 1 0 0 0 false)).2 with
 |true=>exact⟨_,rfl,by show(1:Int)<=((0+a+1:Nat):Int);omega⟩
 |false=>exact⟨_,rfl,by show(0:Int)<=((0+a+0:Nat):Int);omega⟩
def aTs (l:List Int)(h:bFa l):o6 l=some true:=by
 unfold o6;cases hb:bQk l with
 |true=>rfl
 |false=>
  obtain⟨⟨w,e⟩,j,f,hd⟩:=bJo (bXv hb);have f:w.sz<=1000000:=f;have hd:CldOk w.aAF:=hd;have p:w.Hosts.length<=w.sz:=by simp only[AA.sz];omega
  have q:=(bUu w e).1;have b:=bVe hd e;have c:=bVe b (AS.mk 1 0 0 0 false);have hr:=cBg (show w.sz<=1048576 by omega) [e,AS.mk 1 0 0 0 false];have m:(yZ (yZ w e).1 (AS.mk 1 0 0 0 false)).1.sz<=65000000:=bUv (show w.sz<=1048576 by omega) [e,AS.mk 1 0 0 0 false] (k:=2) (by decide);rw[aa];refine cK (a:=(w,e)) j (cK (a:=yZ w e) (aA (show w.sz<=99000000 by omega)) (cK (a:=yZ w e) (aA (show w.sz<=99000000 by omega)) (cK (a:=false) ?_ ?_)))
  ·rw[bTn,aa];refine cK (a:=true) (aA (show rO (yZ w e).1.sz (yZ w e).1 (yZ w e).1/\_ from eqT (by omega) b)) ?_;rw[aj,aa];refine cK (a:=aK w) (aA (show w.sz<=34359738368 by omega)) ?_;cases o:aK w with
   |true=>rfl
   |false=>rw[cBh o];exact cK (a:=true) (aA (show rO w.sz w w/\_ from eqT (by omega) hd)) rfl
  ·rw[aa];refine cK (a:=AS.mk 1 0 0 0 false) rfl (cK (a:=yZ (yZ w e).1 (AS.mk 1 0 0 0 false)) (aA (show(yZ w e).1.sz<=99000000 by omega)) ?_);refine cK (a:=Zd w [e,AS.mk 1 0 0 0 false]) (aA hr) (cK (a:=bT4 w [e,AS.mk 1 0 0 0 false]) (aA hr) ?_);refine cK (a:=true) (aA (show rO (yZ (yZ w e).1 (AS.mk 1 0 0 0 false)).1.sz (yZ (yZ w e).1 (AS.mk 1 0 0 0 false)).1 (yZ (yZ w e).1 (AS.mk 1 0 0 0 false)).1/\_ from eqT (by omega) c)) (cK (a:=true) ?_ rfl);obtain⟨n,hn,d⟩:=bXx 1 w e;obtain⟨t,ht,hk⟩:=bXw e.Kind;rw[ae,show(((Zd w [e,AS.mk 1 0 0 0 false]).length:Int)==2)=true from rfl,ae];refine cK (a:=(yZ w e).2) rfl ?_;rw[dh,ae];refine cK (a:=(yZ (yZ w e).1 (AS.mk 1 0 0 0 false)).2) rfl ?_;rw[dh,ae];refine cK (a:=aWy w [e,AS.mk 1 0 0 0 false] 1) (aA hr) (cK (a:=n) hn ?_);rw[au (show aWy w [e,AS.mk 1 0 0 0 false] 1>=n from d),ae];refine cK (a:=t) ht ?_;unfold bG at hk;rw[hk];by_cases h1:e.Kind>=1
   ·rw[au h1];show some ((true&&decide (e.Kind<=13))==decide (e.Kind<=13))=some true;cases decide (e.Kind<=13)<;>rfl
   ·rw[ay h1];rfl
--@end
end
end Go.VK
