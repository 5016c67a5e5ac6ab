import Derived.Test.YtlnjelnfjgjanaaGreatDoorXqPm
import Derived.Test.YtlnjelnfjgjanaaGreatDoorXqM
/- Printed by wip/tools: models, walks, proofs. -/
set_option linter.all false
set_option maxRecDepth 100000
set_option maxHeartbeats 4000000
namespace Go.VK
open Go.RowKit Go.Proofs
noncomputable section
open EV (cB)
def aJg (l:List D.aAD)(h:l.length<=34359738368):Mi l=some (aF l):=by
 unfold Mi
 rw[eT (l:=l) (λn e=>bif e.Kind==2 then IntKind.i64.wrap (n+1) else n) (λ_ _=>True) (λs=>some s) (by omega) trivial (λ_ _ _ _=>trivial) (λrec i s hi _=>by
  simp only[dB hi,ac,aN hi,bd_s,kZ]) (λrec s _=>by simp only[dF,ab])]
 rfl
def aJh (l:List D.aAD)(h:l.length<=34359738368):Nr l=some (aF l):=by
 unfold Nr
 rw[eT (l:=l) (λn e=>bif e.Kind==2 then IntKind.i64.wrap (n+1) else n) (λ_ _=>True) (λs=>some s) (by omega) trivial (λ_ _ _ _=>trivial) (λrec i s hi _=>by
  simp only[dB hi,ac,aN hi,bd_s,kZ]) (λrec s _=>by simp only[dF,ab])]
 rfl
def aMe (p e:Int):Va p e=some (fH p e):=by unfold Va;rw[aB (by simp)];rfl
def aMf (p e:Int):Uo p e=some (fH p e):=by unfold Uo;rw[aB (by simp)];rfl
def aMg (k:Int)(b:D.Box)(h:b.Data.length<=34359738200):Uq k b=some (La k b):=by
 unfold Uq La
 rw[aB (by omega),bd_s,aB (by simp[aS,tX];omega),aB (by simp[tX];omega)];rfl
def aMh (k:Int)(b:D.Box)(h:b.Data.length<=34359738200):Vb k b=some (La k b):=by
 unfold Vb La
 rw[aB (by omega),bd_s,aB (by simp[nX,tX];omega),bd_s,aB (by simp[tX,kI];omega)]
 simp[kI]
def aBo {α β:Type}{y:Nat->α->β}:∀{l:List α} {j i:Nat} (hi:i<l.length),Im (λi x=>[y i x]) j (l.take (i+1))=Im (λi x=>[y i x]) j (l.take i)++[y (j+i) l[i]]
 |x::xs,j,0,_=>by simp[Im]
 |x::xs,j,i+1,hi=>by
  have:=aBo (y:=y) (l:=xs) (j:=j+1) (i:=i) (by simpa using hi)
  simp only[ip,Im,eS,this,cH,bm]
  rw[show j+1+i=j+(i+1) by omega]
def aYs {k:Int}{b:List Int}(hl:b.length<=34359738368){F:(List Int×Nat->Option (List Int))->List Int×Nat->Option (List Int)}
  (hF:∀rec i s (hi:i<b.length),s.length<=34359738368->F rec (s,i)=rec (s++[aHg k i b[i]],i+1)) (hE:∀rec s,F rec (s,b.length)=some s):cB FUEL F ([],0)=some (Iq k b):=by
 refine aHf (λi s=>i<=b.length/\s=(Im (λi z=>[aHg k i z]) 0 (b.take i),i)) b.length _ (by omega) ⟨by omega,by simp[Im]⟩ (λi s rec hi hv=> ?_) (λs rec hv=> ?_)
 ·obtain⟨_,rfl⟩:=hv
  refine .inl ⟨_,⟨hi,rfl⟩,?_⟩
  rw[hF rec i _ hi (by rw[oW,ca];omega),aBo hi,ce]
 ·obtain⟨_,rfl⟩:=hv
  rw[hE,fk];rfl
def aJi (k:Int)(b:List Int)(h:b.length<=34359738368):Nc k b=some (Iq k b):=by
 unfold Nc
 rw[aYs (k:=k) h (λrec i s hi hs=>by
  have e:=bDm k i b[i]
  have h4:((256:Int)≠0)=True:=by simp
  simp only[dB hi,ac,aN hi,bd_s,aB (show([(i:Int)]:List Int).length<=34359738368 by simp),h4,gd_T,e,fK hs]) (λrec s=>by simp only[dF,ab])]
 rfl
def aJj (k:Int)(b:List Int)(h:b.length<=34359738368):Ns k b=some (Iq k b):=by
 unfold Ns
 rw[aYs (k:=k) h (λrec i s hi hs=>by
  have e:=bDl k i b[i]
  simp only[dB hi,ac,aN hi,bd_s,aB (show([(i:Int)]:List Int).length<=34359738368 by simp),e,fK hs]) (λrec s=>by simp only[dF,ab])]
 rfl
def aJk (p:Int)(b:D.Box):Nf p b=some (dY p b):=by
 unfold Nf dY
 by_cases hl:b.Data.length<=200
 ·simp only[aB (show b.Data.length<=34359738200 by omega),aB (show b.Data.length<=34359738368 by omega),bd_s,show decide ((b.Data.length:Int)>200)=false from ap (by omega)]
  cases bG p<;>cases(b.To !=bU p)<;>cases bG b.Ephemeral<;>cases(b.MAC !=La (fH p b.Ephemeral) b)<;>rfl
 ·rw[show decide ((b.Data.length:Int)>200)=true from ao (by omega)]
  cases bG p<;>cases(b.To !=bU p)<;>cases bG b.Ephemeral<;>rfl
def K7 {bs:List D.Box}{p:Int}(hl:bs.length<=34359738368){F:(Nat->Option ((List Int×Bool)⊕PUnit))->Nat->Option ((List Int×Bool)⊕PUnit)}
  (hF:∀rec i (hi:i<bs.length),F rec i=bif (dY p bs[i]).2 then some (.inl ((dY p bs[i]).1,true)) else rec (i+1)) (hE:∀rec,F rec bs.length=some (.inr ())):nx (cB FUEL F 0) (λ_=>some (([]:List Int),false))=some (eU bs p):=by
 have go:∀(k i n:Nat),i+k=bs.length->k<n->nx (cB n F i) (λ_=>some (([]:List Int),false))=some (eU (bs.drop i) p):=by
  intro k
  induction k with
  |zero=>
   intro i n hk hn
   obtain⟨n,rfl⟩:∃m,n=m+1:=⟨n-1,by omega⟩
   have:i=bs.length:=by omega
   subst this
   rw[iP,hE,dl];rfl
  |succ k ih=>
   intro i n hk hn
   obtain⟨n,rfl⟩:∃m,n=m+1:=⟨n-1,by omega⟩
   have hi:i<bs.length:=by omega
   rw[iP,hF _ i hi,cn hi,eU]
   cases(dY p bs[i]).2 with
   |true=>rfl
   |false=>exact ih (i+1) n (by omega) (by omega)
 exact go bs.length 0 FUEL (by omega) (by have:=gL;omega)
def aJl (bs:List D.Box)(p:Int)(h:bs.length<=34359738368):Ng bs p=some (eU bs p):=by
 unfold Ng
 exact K7 h (λrec i hi=>by simp only[dB hi,ac,aN hi,bd_s]) (λrec=>by simp only[dF,ab])
def aJm (p:Int)(b:D.Box):Nt p b=some (dY p b):=by
 unfold Nt dY
 by_cases hl:b.Data.length<=200
 ·simp only[aB (show b.Data.length<=34359738200 by omega),aB (show b.Data.length<=34359738368 by omega),bd_s,show decide ((b.Data.length:Int)>200)=false from ap (by omega)]
  cases bG p<;>cases(b.To !=bU p)<;>cases bG b.Ephemeral<;>cases(b.MAC !=La (fH p b.Ephemeral) b)<;>rfl
 ·rw[show decide ((b.Data.length:Int)>200)=true from ao (by omega)]
  cases bG p<;>cases(b.To !=bU p)<;>cases bG b.Ephemeral<;>rfl
def aJn (bs:List D.Box)(p:Int)(h:bs.length<=34359738368):Nu bs p=some (eU bs p):=by
 unfold Nu
 exact K7 h (λrec i hi=>by simp only[dB hi,ac,aN hi,bd_s]) (λrec=>by simp only[dF,ab])
def aJo {c:D.aAE}{b:Int}(hz:c.sz<=34359738368)(h0:0<=b/\b<(c.History.length:Int)):bD c.History (IntKind.i64.wrap (IntKind.i64.wrap ((c.History.length:Int)-1)-b))=some (c.History.getD (c.History.length-1-b.toNat) default)/\(c.History.getD (c.History.length-1-b.toNat) default).sz<=34359738368:=by
 simp only[D.aAE.sz] at hz
 have h1:=Fu (f:=D.aAA.sz) (l:=c.History) (i:=c.History.length-1-b.toNat) (by omega)
 refine⟨?_,by omega⟩
 rw[aJ (n:=(c.History.length:Int)-1) (by omega) (by omega),aJ (by omega) (by omega),sN (by omega) (by omega)]
 congr 2;omega
def Xd (c:D.aAE)(b:Int)(hz:c.sz<=34359738368):xB c b=some (dW c b):=by
 unfold xB dW
 rw[bGl (by simp only[D.aAE.sz] at hz;omega)]
 cases e:(decide (b<0)||decide (b>=(c.History.length:Int))) with
 |true=>rfl
 |false=>
  obtain⟨h1,h2⟩:=aJo hz (aQk e)
  rw[ab,ab,h1,bd_s,aB h2,bd_s]
def Xe (c:D.aAE)(b:Int)(hz:c.sz<=34359738368):xM c b=some (dW c b):=by
 unfold xM dW
 rw[wJ,bd_s]
 cases e:(decide (b<0)||decide (b>=(c.History.length:Int))) with
 |true=>rfl
 |false=>
  obtain⟨h1,h2⟩:=aJo hz (aQk e)
  rw[ab,ab,h1,bd_s,aB h2,bd_s]
end
end Go.VK
