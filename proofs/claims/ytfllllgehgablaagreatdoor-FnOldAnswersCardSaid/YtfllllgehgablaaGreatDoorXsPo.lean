import Derived.Test.YtfllllgehgablaaGreatDoorXsPm
import Derived.Test.YtfllllgehgablaaGreatDoorXsM
/- Printed by wip/tools: models, walks, proofs. -/
set_option linter.all false
set_option maxRecDepth 100000
set_option maxHeartbeats 4000000
namespace Go.VK
open Go.RowKit Go.Proofs
noncomputable section
open EV (bU)
def aJ0 (l:List D.aAC)(h:l.length<=34359738368):Mi l=some (aJ l):=by
 unfold Mi
 rw[fV (l:=l) (λn e=>bif e.Kind==2 then IntKind.i64.wrap (n+1) else n) (λ_ _=>True) (λs=>some s) (by omega) trivial (λ_ _ _ _=>trivial) (λrec i s hi _=>by
  simp only[dL hi,ae,aM hi,bd_s,lF]) (λrec s _=>by simp only[dP,ab])]
 rfl
def aJ1 (l:List D.aAC)(h:l.length<=34359738368):Ns l=some (aJ l):=by
 unfold Ns
 rw[fV (l:=l) (λn e=>bif e.Kind==2 then IntKind.i64.wrap (n+1) else n) (λ_ _=>True) (λs=>some s) (by omega) trivial (λ_ _ _ _=>trivial) (λrec i s hi _=>by
  simp only[dL hi,ae,aM hi,bd_s,lF]) (λrec s _=>by simp only[dP,ab])]
 rfl
def aMz (p e:Int):Uv p e=some (fD p e):=by unfold Uv;rw[aB (by simp)];rfl
def aM0 (p e:Int):Ug p e=some (fD p e):=by unfold Ug;rw[aB (by simp)];rfl
def aM1 (k:Int)(b:D.Box)(h:b.Data.length<=34359738200):Uh k b=some (Lg k b):=by
 unfold Uh Lg
 rw[aB (by omega),bd_s,aB (by simp[aW,vD];omega),aB (by simp[vD];omega)];rfl
def aM2 (k:Int)(b:D.Box)(h:b.Data.length<=34359738200):Uw k b=some (Lg k b):=by
 unfold Uw Lg
 rw[aB (by omega),bd_s,aB (by simp[wG,vD];omega),bd_s,aB (by simp[vD,oQ];omega)]
 simp[oQ]
def aBw {α β:Type}{y:Nat->α->β}:∀{l:List α} {j i:Nat} (hi:i<l.length),Iu (λi x=>[y i x]) j (l.take (i+1))=Iu (λi x=>[y i x]) j (l.take i)++[y (j+i) l[i]]
 |x::xs,j,0,_=>by simp[Iu]
 |x::xs,j,i+1,hi=>by
  have:=aBw (y:=y) (l:=xs) (j:=j+1) (i:=i) (by simpa using hi)
  simp only[ig,Iu,eI,this,cA,bn]
  rw[show j+1+i=j+(i+1) by omega]
def aZ4 {k:Int}{b:List Int}(hl:b.length<=34359738368){F:(List Int×Nat->Option (List Int))->List Int×Nat->Option (List Int)}
  (hF:∀rec i s (hi:i<b.length),s.length<=34359738368->F rec (s,i)=rec (s++[aH5 k i b[i]],i+1)) (hE:∀rec s,F rec (s,b.length)=some s):bU FUEL F ([],0)=some (Iy k b):=by
 refine aMg (λi s=>i<=b.length/\s=(Iu (λi z=>[aH5 k i z]) 0 (b.take i),i)) b.length _ (by omega) ⟨by omega,by simp[Iu]⟩ (λi s rec hi hv=> ?_) (λs rec hv=> ?_)
 ·obtain⟨_,rfl⟩:=hv
  refine .inl ⟨_,⟨hi,rfl⟩,?_⟩
  rw[hF rec i _ hi (by rw[oU,bz];omega),aBw hi,ca]
 ·obtain⟨_,rfl⟩:=hv
  rw[hE,eS];rfl
def aJ2 (k:Int)(b:List Int)(h:b.length<=34359738368):Nc k b=some (Iy k b):=by
 unfold Nc
 rw[aZ4 (k:=k) h (λrec i s hi hs=>by
  have e:=bE0 k i b[i]
  have h4:((256:Int)≠0)=True:=by simp
  simp only[dL hi,ae,aM hi,bd_s,aB (show([(i:Int)]:List Int).length<=34359738368 by simp),h4,gd_T,e,fF hs]) (λrec s=>by simp only[dP,ab])]
 rfl
def aJ3 (k:Int)(b:List Int)(h:b.length<=34359738368):Nt k b=some (Iy k b):=by
 unfold Nt
 rw[aZ4 (k:=k) h (λrec i s hi hs=>by
  have e:=bEz k i b[i]
  simp only[dL hi,ae,aM hi,bd_s,aB (show([(i:Int)]:List Int).length<=34359738368 by simp),e,fF hs]) (λrec s=>by simp only[dP,ab])]
 rfl
def aJ4 (p:Int)(b:D.Box):Nf p b=some (dX p b):=by
 unfold Nf dX
 by_cases hl:b.Data.length<=200
 ·simp only[aB (show b.Data.length<=34359738200 by omega),aB (show b.Data.length<=34359738368 by omega),bd_s,show decide ((b.Data.length:Int)>200)=false from au (by omega)]
  cases bG p<;>cases(b.To !=cB p)<;>cases bG b.Ephemeral<;>cases(b.MAC !=Lg (fD p b.Ephemeral) b)<;>rfl
 ·rw[show decide ((b.Data.length:Int)>200)=true from ao (by omega)]
  cases bG p<;>cases(b.To !=cB p)<;>cases bG b.Ephemeral<;>rfl
def M5 {bs:List D.Box}{p:Int}(hl:bs.length<=34359738368){F:(Nat->Option ((List Int×Bool)⊕PUnit))->Nat->Option ((List Int×Bool)⊕PUnit)}
  (hF:∀rec i (hi:i<bs.length),F rec i=bif (dX p bs[i]).2 then some (.inl ((dX p bs[i]).1,true)) else rec (i+1)) (hE:∀rec,F rec bs.length=some (.inr ())):nx (bU FUEL F 0) (λ_=>some (([]:List Int),false))=some (eY bs p):=by
 have go:∀(k i n:Nat),i+k=bs.length->k<n->nx (bU n F i) (λ_=>some (([]:List Int),false))=some (eY (bs.drop i) p):=by
  intro k
  induction k with
  |zero=>
   intro i n hk hn
   obtain⟨n,rfl⟩:∃m,n=m+1:=⟨n-1,by omega⟩
   have:i=bs.length:=by omega
   subst this
   rw[gX,hE,dz];rfl
  |succ k ih=>
   intro i n hk hn
   obtain⟨n,rfl⟩:∃m,n=m+1:=⟨n-1,by omega⟩
   have hi:i<bs.length:=by omega
   rw[gX,hF _ i hi,co hi,eY]
   cases(dX p bs[i]).2 with
   |true=>rfl
   |false=>exact ih (i+1) n (by omega) (by omega)
 exact go bs.length 0 FUEL (by omega) (by have:=fO;omega)
def aJ5 (bs:List D.Box)(p:Int)(h:bs.length<=34359738368):Ng bs p=some (eY bs p):=by
 unfold Ng
 exact M5 h (λrec i hi=>by simp only[dL hi,ae,aM hi,bd_s]) (λrec=>by simp only[dP,ab])
def aJ6 (p:Int)(b:D.Box):Nu p b=some (dX p b):=by
 unfold Nu dX
 by_cases hl:b.Data.length<=200
 ·simp only[aB (show b.Data.length<=34359738200 by omega),aB (show b.Data.length<=34359738368 by omega),bd_s,show decide ((b.Data.length:Int)>200)=false from au (by omega)]
  cases bG p<;>cases(b.To !=cB p)<;>cases bG b.Ephemeral<;>cases(b.MAC !=Lg (fD p b.Ephemeral) b)<;>rfl
 ·rw[show decide ((b.Data.length:Int)>200)=true from ao (by omega)]
  cases bG p<;>cases(b.To !=cB p)<;>cases bG b.Ephemeral<;>rfl
def aJ7 (bs:List D.Box)(p:Int)(h:bs.length<=34359738368):Nv bs p=some (eY bs p):=by
 unfold Nv
 exact M5 h (λrec i hi=>by simp only[dL hi,ae,aM hi,bd_s]) (λrec=>by simp only[dP,ab])
def aJ8 {c:D.aAB}{b:Int}(hz:c.sz<=34359738368)(h0:0<=b/\b<(c.History.length:Int)):bA c.History (IntKind.i64.wrap (IntKind.i64.wrap ((c.History.length:Int)-1)-b))=some (c.History.getD (c.History.length-1-b.toNat) default)/\(c.History.getD (c.History.length-1-b.toNat) default).sz<=34359738368:=by
 simp only[D.aAB.sz] at hz
 have h1:=Gc (f:=D.aAA.sz) (l:=c.History) (i:=c.History.length-1-b.toNat) (by omega)
 refine⟨?_,by omega⟩
 rw[aI (n:=(c.History.length:Int)-1) (by omega) (by omega),aI (by omega) (by omega),sK (by omega) (by omega)]
 congr 2;omega
def Ww (c:D.aAB)(b:Int)(hz:c.sz<=34359738368):xC c b=some (bN c b):=by
 unfold xC bN
 rw[bH2 (by simp only[D.aAB.sz] at hz;omega)]
 cases e:(decide (b<0)||decide (b>=(c.History.length:Int))) with
 |true=>rfl
 |false=>
  obtain⟨h1,h2⟩:=aJ8 hz (aRk e)
  rw[ab,ab,h1,bd_s,aB h2,bd_s]
def Wx (c:D.aAB)(b:Int)(hz:c.sz<=34359738368):xQ c b=some (bN c b):=by
 unfold xQ bN
 rw[zA,bd_s]
 cases e:(decide (b<0)||decide (b>=(c.History.length:Int))) with
 |true=>rfl
 |false=>
  obtain⟨h1,h2⟩:=aJ8 hz (aRk e)
  rw[ab,ab,h1,bd_s,aB h2,bd_s]
end
end Go.VK
