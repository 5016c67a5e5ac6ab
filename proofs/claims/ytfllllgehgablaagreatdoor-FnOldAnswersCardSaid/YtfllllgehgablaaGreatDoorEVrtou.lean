import Derived.Test.YtfllllgehgablaaGreatDoorEVmtoq
/-
  THE EVALUATOR's KIT, eighteenth part: calls by contract; all operations. Plain theorems over any program; the conditions stand in each.
-/
set_option linter.all false
namespace Go.EV
open Go.RowKit Go.VK
variable {U:Uni} {Y:Lay U} {TI:List (Nat×TInfo)} {P:Program} {g:GI} {E:Env U g}
section
variable {s:St U} {a:Act} {w w':World} {β:List Tr} {α:Type} {C:Cod U}
mutual
def Ow.aCM {X X':Nat->Prop}{d:Bool}(hd:d=true):∀{v:Value} {x:Lf U} {B:List Nat},Ow C w X d v x B->Ow C w X' d v x B
 |_,_,_, .int h1 h2=> .int h1 h2
 |_,_,_, .bool=> .bool
 |_,_,_, .str h=> .str h
 |_,_,_, .fz h0 _=>by rw[hd] at h0;cases h0
 |_,_,_, .su h0 .. =>by rw[hd] at h0;cases h0
 |_,_,_, .sl t hk hown hc=> .sl t hk hown (OwL.aCM hd hc)
def OwL.aCM {X X':Nat->Prop}{d:Bool}(hd:d=true):∀{vs:List Value} {xs:List (Lf U)} {B:List Nat},OwL C w X d vs xs B->OwL C w X' d vs xs B
 |_,_,_, .n=> .n
 |_,_,_, .c h hr=> .c (Ow.aCM hd h) (OwL.aCM hd hr)
end
def Bw {X Z:Nat->Prop}{m:Mm U}{v:Value}{c:Lf U}(hc:c.aAZ=true)(h:Rd w Z [] v c.toV)(hX:(∀b,X b->Z b)\/∀τ l,c≠ .sl τ l):c.mean C w X β m v:=by
 cases c with
 |int k n=>exact h.aAO
 |bool b=>exact h.aAW
 |str b=>exact h.aAT
 |sl τ l=>
  rcases hX with hX|hX
  ·exact Rd.conv h (aj _) (λb _ hb=>hX b hb) (λ_ _ _ h=>h) (λ_ _ h=>h)
  ·exact absurd rfl (hX τ l)
 |_=>cases hc
def bAy (x:Bool×List (Lf U)):Prop:=(∀c∈x.2,c.aAZ=true)/\(x.1=false->∃c,x.2=[c])
def D6 {X Z:Nat->Prop}{m:Mm U}{v:Value}{x:Bool×List (Lf U)}(hx:bAy x)(h:Rd w Z [] v (vC x))(hX:(∀b,X b->Z b)\/∀c∈x.2,∀τ l,c≠ .sl τ l):Mp C w X β m v x:=by
 obtain⟨b,cs⟩:=x
 cases b with
 |false=>
  obtain⟨c,rfl⟩:=hx.2 rfl
  exact⟨c,rfl,Bw (hx.1 c (by simp)) h (hX.imp id λh=>h c (by simp))⟩
 |true=>
  obtain⟨vs,rfl,h2,h3⟩:=Rd.aBA (show Rd w Z [] v (.agg (cs.map Lf.toV)) from h)
  refine⟨vs.toList,by simp,by simpa using h2,λi u c p q=> ?_⟩
  exact Bw (hx.1 c (az q)) (h3 i u _ (by simpa using p) (by rw[bg,q];rfl)) (hX.imp id λh=>h c (az q))
def aQ4 {k:Kd}{x:k.ty U}:bAy (w9 Y k x):=by
 cases k with
 |st T=>exact⟨Y.C.hdat T x,λh=>by cases h⟩
 |_=>exact⟨λc hc=>by simp only[w9,cy] at hc;subst hc;rfl,λ_=>⟨_,rfl⟩⟩
def Ca (ks:List Kd):∀(z:qB U ks),∀x∈bW Y ks z,bAy x:=by
 induction ks with
 |nil=>intro z x hx;simp[bW] at hx
 |cons k ks ih=>
  intro z x hx
  cases ks with
  |nil=>simp only[bW,cy] at hx;subst hx;exact aQ4
  |cons k' ks=>
   simp only[bW,ba] at hx
   rcases hx with rfl|hx
   ·exact aQ4
   ·exact ih z.2 x hx
def aTp (hY:LayOk Y){k:Kd}(h:flatK Y k=true){x:k.ty U}:∀c∈(w9 Y k x).2,∀τ l,c≠ .sl τ l:=by
 cases k with
 |st T=>exact λc hc=>aOg hY h hc
 |sl τ=>cases h
 |_=>intro c hc τ l e;simp only[w9,cy] at hc;rw[hc] at e;cases e
def aTq {k:Kd}{ks:List Kd}(h:vW Y (k::ks)=true):flatK Y k=true/\vW Y ks=true:=by
 have e:vW Y (k::ks)=cond (flatK Y k) (vW Y ks) false:=rfl
 rw[e] at h
 cases hk:flatK Y k with
 |true=>rw[hk] at h;exact⟨rfl,h⟩
 |false=>rw[hk] at h;cases h
def aWh (hY:LayOk Y)(ks:List Kd):∀(z:qB U ks),vW Y ks=true->∀x∈bW Y ks z,∀c∈x.2,∀τ l,c≠ .sl τ l:=by
 induction ks with
 |nil=>intro z _ x hx;simp[bW] at hx
 |cons k ks ih=>
  intro z h x hx
  obtain⟨h1,h2⟩:=aTq h
  cases ks with
  |nil=>simp only[bW,cy] at hx;subst hx;exact aTp hY h1
  |cons k' ks=>
   simp only[bW,ba] at hx
   rcases hx with rfl|hx
   ·exact aTp hY h1
   ·exact ih z.2 h2 x hx
def aTr {X Z:Nat->Prop}{m:Mm U}{v:Value}{cps:List (Bool×List (Lf U))}(hc:∀x∈cps,bAy x)(h:Rd w Z [] v (lM (cps.map vC)))(hX:(∀b,X b->Z b)\/∀x∈cps,∀c∈x.2,∀τ l,c≠ .sl τ l):(uA cps).mean C w X β m v:=by
 have many:(∀x,cps≠[x])->(Sv.t cps:Sv U).mean C w X β m v:=λhn=>by
  have e:lM (cps.map vC)= .tup (cps.map vC):=by
   match cps,hn with
   |[],_=>rfl
   |[x],hn=>exact absurd rfl (hn x)
   |_::_::_,_=>rfl
  rw[e] at h
  obtain⟨vs,rfl,h2,h3⟩:=h.aCE
  refine⟨vs.toList,by simp,by simpa using h2,λi u x p q=> ?_⟩
  have hm:=az q
  exact D6 (hc x hm) (h3 i u _ (by simpa using p) (by rw[bg,q];rfl)) (hX.imp id λh=>h x hm)
 match cps,many,hc,h,hX with
 |[],many,_,_,_=>exact many (by simp)
 |[x],_,hc,h,hX=>exact qZ (D6 (hc x (by simp)) h (hX.imp id λh=>h x (by simp)))
 |_::_::_,many,_,_,_=>exact many (by simp)
def aGl (r:bE C E s a w β):∀(i:Nat) (t:Tr) (b:Nat),β[i]? =some t->b∈t.all->¬E.X0 b:=λi t b ht hb hx=>by
 rcases(r.hp.new i t b ht hb).1 with h|h
 ·rcases E.h0 b hx with h'|⟨x,h',rfl⟩
  ·omega
  ·exact(r.hp.prm x h').2.2.2 i t ht hb
 ·exact E.hXY b hx h
def Cb {xa:Array Operand}:∀(i:Nat) (v:Value) (x:Sv U),(xa.toList.map a.eval)[i]? =some v->(xa.toList.map (dS s))[i]? =some x->∃y,v=a.eval y/\x=dS s y:=λi v x p q=>by
 rw[bg] at p q
 cases h:xa.toList[i]? with
 |none=>simp[h] at p
 |some y=>simp only[h,cJ,ai] at p q;exact⟨y,p.symm,q.symm⟩
def wC {f:FuncId}{xa:Array Operand}{ats:Array TypeId}{o:Oper}(ho:o.op= .call {callee:= .value (.func f),args:=xa,argTypes:=ats})(h:∀args w,(callFunc f args).run P w= .ok (.enter f args) w):(execOp a.eval o).run P w= .ok (.enter f (xa.toList.map a.eval).toArray) w:=
 aN0 (xs:=xa.toList) (by rw[ho]) h
def Gz (hY:LayOk Y)(r:bE Y.C E s a w β){o:Oper}{f:FuncId}{xa:Array Operand}{ats:Array TypeId}{S:Sum U}{z:qB U S.ar}{q:qB U S.rs}(ho:o.op= .call {callee:= .value (.func f),args:=xa,argTypes:=ats})
  (hS:yT P g Y f S) (hz:lC Y s.m S.ar (xa.toList.map (dS s))=some z) (hmk:S.wt=false) (hfr:S.fr=false) (hff:vW Y S.rs=true\/kV (xa.toList.map (dS s))=true) (hq:S.m z=some q):
  SO P Y.C E a w o (uA (bW Y S.rs q)) s true:=λK Q hK=>by
 have hsp:=(hS z q hq).1 hmk hfr
 have hm:∀(i:Nat) (v:Value) (x:Sv U),(xa.toList.map a.eval)[i]? =some v->(xa.toList.map (dS s))[i]? =some x->x.mean Y.C w (E.X β) β s.m v:=λi v x p q=>by
  obtain⟨y,rfl,rfl⟩:=Cb i v x p q;exact vX r
 have go:∀(Z:Nat->Prop),(∀b,Z b->E.X β b)->(kV (xa.toList.map (dS s))=true\/∀(i:Nat) (t:Tr) (b:Nat),β[i]? =some t->b∈t.all->¬Z b)->((∀b,E.X β b->Z b)\/vW Y S.rs=true)->o.wp P a w K Q:=λZ hZ hf hX=>by
  have hrd:=Fq r hZ _ hz (by simp) hm hf
  refine wpc (wC ho hsp.1) (R':=λv w'=>Rd w' Z [] v (lM ((bW Y S.rs q).map vC))/\Ext w w') ((hsp.2 w Z _ r.hp.gw (λb hb=>r.hp.aCB b (hZ b hb)) hrd).mono ?_) ?_
  ·rintro e w' ⟨v,r',e1,rfl,e3,e4⟩;exact⟨v,e1,e3,e4⟩
  ·rintro v w' ⟨h3,h4⟩
   exact hK v w' β (r.ext h4) (λ_=>aTr (Ca _ q) h3 (hX.imp id λh=>aWh hY _ q h)) (λ_=>h4)
 rcases hff with hff|hff
 ·exact go E.X0 (λb hb=> .inl hb) (.inr (aGl r)) (.inr hff)
 ·exact go (E.X β) (λ_ h=>h) (.inl hff) (.inl λ_ h=>h)
def aOj {Z X:Nat->Prop}{m:Mm U}{i:Nat}{e:EO U}{t:Tr}(he:m.o[i]? =some e)(ht:β[i]? =some t)(hk:e.cv<=m.k)(hZ:∀b,X b/\b∉t.all->Z b){vs:List Value}:
  ∀{cs:List (Lf U)},(∀c∈cs,c.aAZ=true)->vs.length=cs.length->(∀(j:Nat) (v:Value) (c:Lf U),vs[j]? =some v->cs[j]? =some c->Rd w Z [] v c.toV)->Ms C w X β m vs (aL9 i e.cv cs):=by
 induction vs with
 |nil=>
  intro cs _ hl _
  cases cs with
  |nil=>exact⟨rfl,λj v c h=>by simp at h⟩
  |cons c cs=>simp at hl
 |cons v vs ih=>
  intro cs hd hl h
  cases cs with
  |nil=>simp at hl
  |cons c cs=>
   have ih:=ih (cs:=cs) (λx hx=>hd x (by simp[hx])) (by simpa using hl) (λj v c p q=>h (j+1) v c (by simpa using p) (by simpa using q))
   have h0:=h 0 v c rfl rfl
   have hc:∃c',aL9 i e.cv (c::cs)=c'::aL9 i e.cv cs/\c'.mean C w X β m v:=by
    by_cases hs:∃τ l,c= .sl τ l
    ·obtain⟨τ,l,rfl⟩:=hs
     exact⟨.bor i e.cv τ l,rfl,⟨hk,h0.one rfl⟩,e,t,he,ht,λ_=>h0.conv (aj _) (λb _ hb=>hZ b hb) (λ_ _ _ hc=>hc) (λ_ _ h=>h)⟩
    ·refine⟨c,?_,Bw (hd c (by simp)) h0 (.inr λτ l e=>hs ⟨τ,l,e⟩)⟩
     cases c<;>first|rfl|exact absurd ⟨_,_,rfl⟩ hs
   obtain⟨c',e1,e2⟩:=hc
   rw[e1]
   exact⟨by simp[ih.1],λj u x p q=>by
    cases j with
    |zero=>simp at p q;subst p;subst q;exact e2
    |succ j=>exact ih.2 j u x (by simpa using p) (by simpa using q)⟩
def aOk {i c:Nat}:∀{cps:List (Bool×List (Lf U))} {j:Nat},(Gx i c cps)[j]? =(cps[j]?).map λx=>(x.1,aL9 i c x.2)
 |[],j=>by simp[Gx]
 |(b,cs)::xs,0=>by simp[Gx]
 |(b,cs)::xs,j+1=>by simp[Gx,aOk (cps:=xs)]
def aOl {i c:Nat}:∀{cps:List (Bool×List (Lf U))},(Gx i c cps).length=cps.length
 |[]=>rfl
 |(b,cs)::xs=>by simp[Gx,aOl (cps:=xs)]
def bD7 {i c:Nat}(x:Lf U):∃y,aL9 i c [x]=[y]:=by cases x<;>exact⟨_,rfl⟩
def bHk {X Z:Nat->Prop}{m:Mm U}{i:Nat}{e:EO U}{t:Tr}{v:Value}{cps:List (Bool×List (Lf U))}(he:m.o[i]? =some e)(ht:β[i]? =some t)(hk:e.cv<=m.k)(hZ:∀b,X b/\b∉t.all->Z b)(hc:∀x∈cps,bAy x)(h:Rd w Z [] v (lM (cps.map vC))):
  (uA (Gx i e.cv cps)).mean C w X β m v:=by
 have one:∀{x:Bool×List (Lf U)} {v:Value},bAy x->Rd w Z [] v (vC x)->Mp C w X β m v (x.1,aL9 i e.cv x.2):=λ{x v} hx h=>by
  obtain⟨b,cs⟩:=x
  cases b with
  |false=>
   obtain⟨c,rfl⟩:=hx.2 rfl
   have:=aOj (C:=C) (vs:=[v]) he ht hk hZ (cs:=[c]) (λx hx'=>hx.1 x hx') rfl (λj v' c' p q=>by
    cases j with
    |zero=>simp at p q;subst p;subst q;exact h
    |succ j=>simp at p)
   obtain⟨y,hy⟩:=bD7 (i:=i) (c:=e.cv) c
   show ∃c',aL9 i e.cv [c]=[c']/\c'.mean C w X β m v
   rw[hy] at this ⊢
   exact⟨y,rfl,this.2 0 v y rfl rfl⟩
  |true=>
   obtain⟨vs,rfl,h2,h3⟩:=Rd.aBA (show Rd w Z [] v (.agg (cs.map Lf.toV)) from h)
   exact⟨vs.toList,by simp,aOj (C:=C) he ht hk hZ (λc hc=>hx.1 c hc) (by simpa using h2) (λj u c p q=>h3 j u _ (by simpa using p) (by rw[bg,q];rfl))⟩
 have many:(∀x,cps≠[x])->(Sv.t (Gx i e.cv cps):Sv U).mean C w X β m v:=λhn=>by
  have e0:lM (cps.map vC)= .tup (cps.map vC):=by
   match cps,hn with
   |[],_=>rfl
   |[x],hn=>exact absurd rfl (hn x)
   |_::_::_,_=>rfl
  rw[e0] at h
  obtain⟨vs,rfl,h2,h3⟩:=h.aCE
  refine⟨vs.toList,by simp,by rw[aOl];simpa using h2,λj u x p q=> ?_⟩
  rw[aOk] at q
  obtain⟨y,hy,rfl⟩:=eE.1 q
  exact one (hc y (az hy)) (h3 j u _ (by simpa using p) (by rw[bg,hy];rfl))
 match cps,many,hc,h with
 |[],many,_,_=>exact many (by simp)
 |[(b,cs)],_,hc,h=>exact qZ (one (hc (b,cs) (by simp)) h)
 |(b,cs)::(b',cs')::r,many,_,_=>exact many (by simp)
def aY0 {i:Nat}{t:Tr}{Z:Nat->Prop}(ht:β[i]? =some t)(hZ:∀b∈t.all,¬Z b):∀{xs:List (Lf U)},aHb i xs=true->∀c∈xs,Fz β Z c
 |[],_,c,hc=>by simp at hc
 |x::xs,h,c,hc=>by
  have key:(mR x=true\/∃r,x= .own i r)/\aHb i xs=true:=by
   cases x with
   |own j r=>
    simp only[aHb,aa] at h
    have:=ah h.1
    subst this
    exact⟨.inr ⟨r,rfl⟩,h.2⟩
   |_=>simp only[aHb,aa] at h;exact⟨.inl h.1,h.2⟩
  rcases ba.1 hc with rfl|hc
  ·rcases key.1 with h1|⟨r,rfl⟩
   ·exact Fz.of (.inl h1)
   ·intro j u b ho hu hb
    have:i=j:=ak ho
    subst this
    rw[ht] at hu;injection hu with hu;subst hu
    exact hZ b hb
  ·exact aY0 ht hZ key.2 c hc
def bLd (x:Sv U):lsV x=aEp x:=by cases x<;>rfl
def aTs {i:Nat}{t:Tr}{Z:Nat->Prop}(ht:β[i]? =some t)(hZ:∀b∈t.all,¬Z b):∀{xs:List (Sv U)},aS1 i xs=true->∀x∈xs,∀c∈aEp x,Fz β Z c
 |[],_,x,hx=>by simp at hx
 |y::ys,h,x,hx=>by
  simp only[aS1,aa] at h
  rcases ba.1 hx with rfl|hx
  ·rw[<-bLd];exact aY0 ht hZ h.1
  ·exact aTs ht hZ h.2 x hx
def aMe (r:bE Y.C E s a w β){o:Oper}{f:FuncId}{xa:Array Operand}{ats:Array TypeId}{S:Sum U}{z:qB U S.ar}{q:qB U S.rs}(ho:o.op= .call {callee:= .value (.func f),args:=xa,argTypes:=ats})
  (hS:yT P g Y f S) (hz:lC Y s.m S.ar (xa.toList.map (dS s))=some z) (hmk:S.wt=false) (hfr:S.fr=false) {i c:Nat} (hi:aS2 s.m (xa.toList.map (dS s))=some (i,c)) (hq:S.m z=some q):
  SO P Y.C E a w o (uA (Gx i c (bW Y S.rs q))) s true:=λK Q hK=>by
 have hsp:=(hS z q hq).1 hmk hfr
 have hm:∀(i:Nat) (v:Value) (x:Sv U),(xa.toList.map a.eval)[i]? =some v->(xa.toList.map (dS s))[i]? =some x->x.mean Y.C w (E.X β) β s.m v:=λi v x p q=>by
  obtain⟨y,rfl,rfl⟩:=Cb i v x p q;exact vX r
 unfold aS2 at hi
 split at hi
 ·rename_i i' hf
  cases hon:aS1 i' (xa.toList.map (dS s)) with
  |false=>rw[hon] at hi;cases hi
  |true=>
   rw[hon] at hi
   simp only[ae] at hi
   cases hn:nth s.m.o i' with
   |none=>rw[hn] at hi;cases hi
   |some e=>
    rw[hn] at hi
    injection hi with hi
    injection hi with h1 h2
    subst h1;subst h2
    have he:s.m.o[i']? =some e:=by rw[<-aR];exact hn
    obtain⟨t,ht⟩:∃t,β[i']? =some t:=by
     have:=lt_of_some he
     rw[<-r.hp.len] at this
     exact⟨_,ac this⟩
    have hk:=(r.hp.vers i' e he).2
    have hrd:=Ky r (Z:=λb=>E.X β b/\b∉t.all) (λb hb=>hb.1) S.ar hz (by simp) hm (aTs ht (λb hb h=>h.2 hb) hon)
    refine wpc (wC ho hsp.1) (R':=λv w'=>Rd w' (λb=>E.X β b/\b∉t.all) [] v (lM ((bW Y S.rs q).map vC))/\Ext w w') ((hsp.2 w _ _ r.hp.gw (λb hb=>r.hp.aCB b hb.1) hrd).mono ?_) ?_
    ·rintro e' w' ⟨v,r',e1,rfl,e3,e4⟩;exact⟨v,e1,e3,e4⟩
    ·rintro v w' ⟨h3,h4⟩
     exact hK v w' β (r.ext h4) (λ_=>bHk he ht hk (λb hb=>hb) (Ca _ q) h3) (λ_=>h4)
 ·cases hi
def aAq {k:Nat}:∀{vs:List Value} {cs:List (Lf U)} {B:List Nat} (n:Nat),OwL C w (λ_=>False) true vs cs B->
  ∃ts:List Tr,ts.length=(qC k n cs).2.length/\(ts.map Tr.all).flatten=B/\(∀(j:Nat) (e:EO U) (t:Tr),(qC k n cs).2[j]? =some e->ts[j]? =some t->e.rv=k/\e.cv=k/\∃τ l xs,e.ob= .tree τ true l/\0<U.K τ/\w.ownsRow 0 τ (U.K τ) t.val l.length xs/\OwL C w (λ_=>False) true xs (l.map (C.cel τ)).flatten t.bs)/\
   ∀(X:Nat->Prop) (β':List Tr) (m':Mm U),k<=m'.k->(∀(j:Nat) (e:EO U) (t:Tr),(qC k n cs).2[j]? =some e->ts[j]? =some t->m'.o[n+j]? =some e/\β'[n+j]? =some t)->Ms C w X β' m' vs (qC k n cs).1
 |_,_,_,n, .n=>⟨[],rfl,rfl,by simp[qC],λ_ _ _ _ _=>⟨rfl,by simp⟩⟩
 |_,_,_,n, .c (v:=v) (x:=x) (vs:=vs) (xs:=xs) h hr=>by
  have flat:∀{y:Lf U} {B:List Nat},Ow C w (λ_=>False) true v y B->(∀τ l,y≠ .sl τ l)->B=[]/\∀(X:Nat->Prop) (β':List Tr) (m':Mm U),y.mean C w X β' m' v:=λ{y B} h hn=>by
   cases h with
   |int h1 h2=>exact⟨rfl,λ_ _ _=>⟨rfl,h1,h2⟩⟩
   |bool=>exact⟨rfl,λ_ _ _=>rfl⟩
   |str h9=>exact⟨rfl,λ_ _ _=>⟨rfl,h9⟩⟩
   |fz=>exact absurd rfl (hn _ _)
   |su=>exact absurd rfl (hn _ _)
   |sl=>exact absurd rfl (hn _ _)
  by_cases hs:∃τ l,x= .sl τ l
  ·obtain⟨τ,l,rfl⟩:=hs
   cases h with
   |fz h0=>cases h0
   |su h0=>cases h0
   |sl t hk hown hc=>
    obtain⟨ts,k1,k2,k3,k4⟩:=aAq (k:=k) (Nat.succ n) hr
    refine⟨t::ts,by simp[qC,k1],by simp[k2],λj e t' p q=> ?_,λX β' m' hkm hm=> ?_⟩
    ·cases j with
     |zero=>
      simp only[qC,gv,ai] at p q
      subst p;subst q
      exact⟨rfl,rfl,τ,l,_,rfl,hk,hown,hc⟩
     |succ j=>exact k3 j e t' (by simpa[qC] using p) (by simpa using q)
    ·have h0:=hm 0 ⟨.tree τ true l,k,k⟩ t (by simp[qC]) rfl
     have hr':=k4 X β' m' hkm (λj e t' p q=>by
      have:=hm (j+1) e t' (by simpa[qC] using p) (by simpa using q)
      rw[show n+(j+1)=Nat.succ n+j by omega] at this;exact this)
     have e1:(qC k n (.sl τ l::xs)).1= .own n k::(qC k (Nat.succ n) xs).1:=rfl
     rw[e1]
     refine⟨by simp[hr'.1],λi u c p q=> ?_⟩
     cases i with
     |zero=>
      simp at p q;subst p;subst q
      exact⟨⟨hkm,rfl⟩,_,t,h0.1,h0.2,λ_=>rfl⟩
     |succ i=>exact hr'.2 i u c (by simpa using p) (by simpa using q)
  ·have hn:∀τ l,x≠ .sl τ l:=λτ l e=>hs ⟨τ,l,e⟩
   obtain⟨rfl,hm0⟩:=flat h hn
   obtain⟨ts,k1,k2,k3,k4⟩:=aAq (k:=k) n hr
   have e1:qC k n (x::xs)=(x::(qC k n xs).1,(qC k n xs).2):=by
    cases x<;>first|rfl|exact absurd rfl (hn _ _)
   rw[e1]
   refine⟨ts,k1,by simpa using k2,k3,λX β' m' hkm hm=> ?_⟩
   have hr':=k4 X β' m' hkm hm
   refine⟨by simp[hr'.1],λi u c p q=> ?_⟩
   cases i with
   |zero=>simp at p q;subst p;subst q;exact hm0 X β' m'
   |succ i=>exact hr'.2 i u c (by simpa using p) (by simpa using q)
def Vi {k:Nat}:∀{vs:List Value} {cps:List (Bool×List (Lf U))} {B:List Nat} (n:Nat),OwPs C w vs cps B->
  ∃ts:List Tr,ts.length=(iY k n cps).2.length/\(ts.map Tr.all).flatten=B/\(∀(j:Nat) (e:EO U) (t:Tr),(iY k n cps).2[j]? =some e->ts[j]? =some t->e.rv=k/\e.cv=k/\∃τ l xs,e.ob= .tree τ true l/\0<U.K τ/\w.ownsRow 0 τ (U.K τ) t.val l.length xs/\OwL C w (λ_=>False) true xs (l.map (C.cel τ)).flatten t.bs)/\
   ∀(X:Nat->Prop) (β':List Tr) (m':Mm U),k<=m'.k->(∀(j:Nat) (e:EO U) (t:Tr),(iY k n cps).2[j]? =some e->ts[j]? =some t->m'.o[n+j]? =some e/\β'[n+j]? =some t)->
    vs.length=(iY k n cps).1.length/\∀(i:Nat) (v:Value) (x:Bool×List (Lf U)),vs[i]? =some v->(iY k n cps).1[i]? =some x->Mp C w X β' m' v x
 |_,_,_,n, .n=>⟨[],rfl,rfl,by simp[iY],λ_ _ _ _ _=>⟨rfl,by simp⟩⟩
 |_,_,_,n, .c (v:=v) (x:=x) (B:=B0) (vs:=vs) (xs:=xs) h hr=>by
  obtain⟨b,cs⟩:=x
  have h1:∃us:List Value,OwL C w (λ_=>False) true us cs B0/\∀(X:Nat->Prop) (β':List Tr) (m':Mm U) (cs':List (Lf U)),Ms C w X β' m' us cs'->cs'.length=cs.length->Mp C w X β' m' v (b,cs'):=by
   cases b with
   |true=>
    obtain⟨us,rfl,hu⟩:=h
    exact⟨us,hu,λ_ _ _ cs' hM _=>⟨us,rfl,hM⟩⟩
   |false=>
    obtain⟨c,rfl,hc⟩:=h
    refine⟨[v],by simpa using OwL.c hc .n,λX β' m' cs' hM hl=> ?_⟩
    match cs',hl with
    |[c'],_=>exact⟨c',rfl,hM.2 0 v c' rfl rfl⟩
  obtain⟨us,hu,hMp⟩:=h1
  obtain⟨t1,a1,a2,a3,a4⟩:=aAq (k:=k) n hu
  obtain⟨t2,b1,b2,b3,b4⟩:=Vi (k:=k) (n+(qC k n cs).2.length) hr
  have e1:iY k n ((b,cs)::xs)=((b,(qC k n cs).1)::(iY k (n+(qC k n cs).2.length) xs).1,(qC k n cs).2++(iY k (n+(qC k n cs).2.length) xs).2):=by
   simp only[iY,bH]
  rw[e1]
  refine⟨t1++t2,by simp[a1,b1],by simp[a2,b2],λj e t p q=> ?_,λX β' m' hkm hm=> ?_⟩
  ·by_cases hj:j<(qC k n cs).2.length
   ·rw[aq hj] at p
    rw[aq (by omega)] at q
    exact a3 j e t p q
   ·rw[ay (by omega)] at p
    rw[ay (by omega),a1] at q
    exact b3 _ e t p q
  ·have m1:=a4 X β' m' hkm (λj e t p q=>by
    have hj:=lt_of_some p
    exact hm j e t (by rw[aq hj];exact p) (by rw[aq (by omega)];exact q))
   have m2:=b4 X β' m' hkm (λj e t p q=>by
    have:=hm ((qC k n cs).2.length+j) e t (by rw[ay (by omega)];simpa using p) (by rw[ay (by omega),a1];simpa using q)
    rw[show n+((qC k n cs).2.length+j)=n+(qC k n cs).2.length+j by omega] at this;exact this)
   refine⟨by simp[m2.1],λi u x p q=> ?_⟩
   cases i with
   |zero=>
    simp at p q;subst p;subst q
    exact hMp X β' m' _ m1 (by rw[<-m1.1,hu.len])
   |succ i=>exact m2.2 i u x (by simpa using p) (by simpa using q)
def aQ5 {v:Value}{cps:List (Bool×List (Lf U))}{B:List Nat}{k n:Nat}(h:OwR C w v cps B):
  ∃ts:List Tr,ts.length=(iY k n cps).2.length/\(ts.map Tr.all).flatten=B/\(∀(j:Nat) (e:EO U) (t:Tr),(iY k n cps).2[j]? =some e->ts[j]? =some t->e.rv=k/\e.cv=k/\∃τ l xs,e.ob= .tree τ true l/\0<U.K τ/\w.ownsRow 0 τ (U.K τ) t.val l.length xs/\OwL C w (λ_=>False) true xs (l.map (C.cel τ)).flatten t.bs)/\
   ∀(X:Nat->Prop) (β':List Tr) (m':Mm U),k<=m'.k->(∀(j:Nat) (e:EO U) (t:Tr),(iY k n cps).2[j]? =some e->ts[j]? =some t->m'.o[n+j]? =some e/\β'[n+j]? =some t)->(uA (iY k n cps).1).mean C w X β' m' v:=by
 have many:(∀x,cps≠[x])->(∃vs:List Value,v= .tuple vs.toArray/\OwPs C w vs cps B)->∃ts:List Tr,ts.length=(iY k n cps).2.length/\(ts.map Tr.all).flatten=B/\(∀(j:Nat) (e:EO U) (t:Tr),(iY k n cps).2[j]? =some e->ts[j]? =some t->e.rv=k/\e.cv=k/\∃τ l xs,e.ob= .tree τ true l/\0<U.K τ/\w.ownsRow 0 τ (U.K τ) t.val l.length xs/\OwL C w (λ_=>False) true xs (l.map (C.cel τ)).flatten t.bs)/\
   ∀(X:Nat->Prop) (β':List Tr) (m':Mm U),k<=m'.k->(∀(j:Nat) (e:EO U) (t:Tr),(iY k n cps).2[j]? =some e->ts[j]? =some t->m'.o[n+j]? =some e/\β'[n+j]? =some t)->(uA (iY k n cps).1).mean C w X β' m' v:=λhn ⟨vs,hv,ho⟩=>by
  obtain⟨ts,a1,a2,a3,a4⟩:=Vi (k:=k) n ho
  refine⟨ts,a1,a2,a3,λX β' m' hk hm=> ?_⟩
  obtain⟨m1,m2⟩:=a4 X β' m' hk hm
  have hl:vs.length=cps.length:=by
   have:∀{vs:List Value} {cps:List (Bool×List (Lf U))} {B:List Nat},OwPs C w vs cps B->vs.length=cps.length:=by
    intro vs cps B h
    induction h with
    |n=>rfl
    |c _ _ ih=>simp[ih]
   exact this ho
  have e:uA (iY k n cps).1= .t (iY k n cps).1:=by
   have hlen:(iY k n cps).1.length≠1:=by
    rw[<-m1,hl]
    intro h1
    match cps,hn,h1 with
    |[x],hn,_=>exact hn x rfl
   generalize(iY k n cps).1=ys at hlen
   match ys,hlen with
   |[],_=>rfl
   |[_],h=>exact absurd rfl h
   |_::_::_,_=>rfl
  rw[e]
  exact⟨vs,hv,m1,m2⟩
 match cps,many,h with
 |[],many,h=>exact many (by simp) h
 |[x],_,h=>
  have h1:OwPs C w [v] [x] B:=by simpa using OwPs.c (h:OwP C w v B x) .n
  obtain⟨ts,a1,a2,a3,a4⟩:=Vi (k:=k) n h1
  refine⟨ts,a1,a2,a3,λX β' m' hk hm=> ?_⟩
  obtain⟨m1,m2⟩:=a4 X β' m' hk hm
  obtain⟨b,cs⟩:=x
  have e1:(iY k n [(b,cs)]).1=[(b,(qC k n cs).1)]:=rfl
  rw[e1] at m2 ⊢
  exact qZ (m2 0 v _ rfl rfl)
 |_::_::_,many,h=>exact many (by simp) h
def aEq (r:bE Y.C E s a w β){o:Oper}{f:FuncId}{xa:Array Operand}{ats:Array TypeId}{S:Sum U}{z:qB U S.ar}{q:qB U S.rs}(ho:o.op= .call {callee:= .value (.func f),args:=xa,argTypes:=ats})
  (hS:yT P g Y f S) (hz:lC Y s.m S.ar (xa.toList.map (dS s))=some z) (hmk:S.wt=false) (hfr:S.fr=true) (hq:S.m z=some q):
  SO P Y.C E a w o (uA (iY s.m.k (len s.m.o) (bW Y S.rs q)).1) ⟨s.t,⟨s.m.o++(iY s.m.k (len s.m.o) (bW Y S.rs q)).2,s.m.k,s.m.ns⟩,s.fr⟩ true:=λK Q hK=>by
 have hsp:=(hS z q hq).2.1 hmk hfr
 have hm:∀(i:Nat) (v:Value) (x:Sv U),(xa.toList.map a.eval)[i]? =some v->(xa.toList.map (dS s))[i]? =some x->x.mean Y.C w (E.X β) β s.m v:=λi v x p q=>by
  obtain⟨y,rfl,rfl⟩:=Cb i v x p q;exact vX r
 have hrd:=Fq r (Z:=E.X0) (λb hb=> .inl hb) S.ar hz (by simp) hm (.inr (aGl r))
 refine wpc (wC ho hsp.1) (R':=λv w'=>∃B,Ext w w'/\B.Nodup/\(∀b∈B,w.heap.size<=b)/\OwR Y.C w' v (bW Y S.rs q) B) ((hsp.2 w E.X0 _ r.hp.gw (λb hb=>r.hp.aCB b (.inl hb)) hrd).mono ?_) ?_
 ·rintro e w' ⟨v,B,e1,e2⟩;exact⟨v,e1,B,e2⟩
 ·rintro v w' ⟨B,he,hnd,hfresh,hR⟩
  obtain⟨ts,a1,a2,a3,a4⟩:=aQ5 (k:=s.m.k) (n:=len s.m.o) hR
  generalize hes:(iY s.m.k (len s.m.o) (bW Y S.rs q)).2=es at a1 a3 a4 hK
  have hz1:(es.zip ts).map (·.1)=es:=List.map_fst_zip (by omega)
  have hz2:(es.zip ts).map (·.2)=ts:=List.map_snd_zip (by omega)
  have hget:∀x∈es.zip ts,∃j,es[j]? =some x.1/\ts[j]? =some x.2:=λx hx=>by
   obtain⟨j,hj⟩:=cV.1 hx
   rw[List.getElem?_zip_eq_some] at hj
   exact⟨j,hj⟩
  have hB:∀x∈es.zip ts,∀b∈x.2.all,b∈B:=λx hx b hb=>by
   obtain⟨j,_,hj⟩:=hget x hx
   rw[<-a2]
   exact jc.2 ⟨_,cg.2 ⟨_,az hj,rfl⟩,hb⟩
  have r1:=r.add he (es.zip ts) (λx hx=>by
    obtain⟨j,h1,h2⟩:=hget x hx
    have:=a3 j x.1 x.2 h1 h2
    rw[this.1,this.2.1];exact⟨aj _,aj _⟩)
   (λx hx b hb=>by
    obtain⟨j,h1,h2⟩:=hget x hx
    refine⟨hfresh b (hB x hx b hb),?_⟩
    obtain⟨_,_,τ,l,xs,_,c2,c3,c4⟩:=a3 j x.1 x.2 h1 h2
    have ho:Ow Y.C w' (λ_=>False) true x.2.val (.sl τ l) x.2.all:= .sl x.2 c2 c3 c4
    exact ho.lt b hb)
   (by
    have e:((es.zip ts).map λx=>x.2.all)=ts.map Tr.all:=by
     have:=congrArg (List.map Tr.all) hz2
     rw[gz] at this;exact this
    rw[e,a2];exact hnd)
   (λhev x hx=>by
    obtain⟨j,h1,h2⟩:=hget x hx
    obtain⟨_,_,τ,l,xs,c1,c2,c3,c4⟩:=a3 j x.1 x.2 h1 h2
    rw[c1]
    exact⟨c2,xs,c3,c4.aCM rfl⟩)
  rw[hz1,hz2] at r1
  refine hK v w' _ r1 (λ_=>a4 _ _ _ (aj _) (λj e t p q=> ?_)) (λ_=>he)
  rw[bH]
  refine⟨by rw[ay (db _ _),cP];exact p,?_⟩
  rw[<-r.hp.len,ay (db _ _),cP];exact q
end
end Go.EV

namespace Go.EV
open Go.RowKit Go.VK
variable {U:Uni} {Y:Lay U} {P:Program} {g:GI} {C:Cod U}
def OwP.rd {w:World}{Z:Nat->Prop}{v:Value}{B:List Nat}:∀{x:Bool×List (Lf U)},OwP C w v B x->(∀b∈B,¬Z b)->Rd w Z [] v (vC x)
 |(true,cs),h,hB=>by
  obtain⟨vs,rfl,ho⟩:=h
  obtain⟨h1,h2⟩:=(OwL.aCM (X':=Z) rfl ho).rd (Z:=Z) (λ_ h=>h) hB
  refine .agg (by simpa using h1) λi v c h3 h4=> ?_
  rw[bg] at h4
  obtain⟨x,h5,rfl⟩:=eE.1 h4
  exact h2 i v x (by simpa using h3) h5
 |(false,cs),h,hB=>by
  obtain⟨c,rfl,ho⟩:=h
  exact(Ow.aCM (X':=Z) rfl ho).rd (λ_ h=>h) hB
def OwPs.rd {w:World}{Z:Nat->Prop}:∀{vs:List Value} {xs:List (Bool×List (Lf U))} {B:List Nat},OwPs C w vs xs B->(∀b∈B,¬Z b)->vs.length=(xs.map vC).length/\∀(i:Nat) (v:Value) (c:V),vs[i]? =some v->(xs.map vC)[i]? =some c->Rd w Z [] v c
 |_,_,_, .n,_=>⟨rfl,λi v c h=>by simp at h⟩
 |_,_,_, .c h hr,hB=>by
  obtain⟨h1,h2⟩:=hr.rd (Z:=Z) λb hb=>hB b (bw.2 (.inr hb))
  refine⟨by simp only[av,bm,h1],λi v c h3 h4=> ?_⟩
  cases i with
  |zero=>
   simp only[gv,bm,ai] at h3 h4
   subst h3;subst h4
   exact h.rd λb hb=>hB b (bw.2 (.inl hb))
  |succ i=>exact h2 i v c (by simpa using h3) (by simpa using h4)
def OwR.rd {w:World}{Z:Nat->Prop}{v:Value}{B:List Nat}{cps:List (Bool×List (Lf U))}(h:OwR C w v cps B)(hB:∀b∈B,¬Z b):Rd w Z [] v (lM (cps.map vC)):=by
 unfold OwR at h
 split at h
 ·exact h.rd hB
 ·rename_i hne
  obtain⟨vs,rfl,ho⟩:=h
  obtain⟨h1,h2⟩:=ho.rd hB
  have e:lM (cps.map vC)= .tup (cps.map vC):=by
   match cps,hne with
   |[],_=>rfl
   |[x],hne=>exact absurd rfl (hne x)
   |x::y::r,_=>rfl
  rw[e]
  exact .tup (by simpa using h1) λi v c h3 h4=>h2 i v c (by simpa using h3) h4
def Sum.pl (S:Sum U):Sum U:=⟨S.ar,S.rs,false,S.wt,S.m⟩
def bD8 {f:FuncId}{S:Sum U}(h:yT P g Y f S)(hw:S.wt=false)(hf:S.fr=true):yT P g Y f S.pl:=λa r hr=>by
 obtain⟨_,h2,_⟩:=h a r hr
 obtain⟨k1,k2⟩:=h2 hw hf
 refine⟨λ_ _=>⟨k1,λw X vs hG hX hrd=>(k2 w X vs hG hX hrd).mono λe w' hq=> ?_⟩,λ_ h=>(by cases h),λhh=>(by
  have hh:S.wt=true:=hh
  rw[hw] at hh;cases hh),λhh=>(by
  have hh:S.wt=true:=hh
  rw[hw] at hh;cases hh)⟩
 obtain⟨v,B,e1,e2,e3,e4,e5⟩:=hq
 exact⟨v,_,e1,rfl,e5.rd λb hb hx=>by have:=e4 b hb;have:=hX b hx;omega,e2⟩
end Go.EV

namespace Go.EV
open Go.RowKit Go.VK
variable {U:Uni} {Y:Lay U} {TI:List (Nat×TInfo)} {FZ:List (Nat×Sum U)} {P:Program} {g:GI} {E:Env U g}
section
variable {s:St U} {a:Act} {w:World} {β:List Tr} {α:Type} {C:Cod U}
def Vj:∀{ks:List Kd},aHd (U:=U) ks=true->∀kd∈ks,∀τ,kd= .sl τ->0<U.K τ
 |[],_,kd,h,_,_=>by simp at h
 |k::ks,h,kd,hk,τ,e=>by
  cases k with
  |sl τ'=>
   simp only[aHd,aa] at h
   rcases ba.1 hk with rfl|hk
   ·injection e with e;subst e;exact bc h.1
   ·exact Vj h.2 kd hk τ e
  |_=>
   rcases ba.1 hk with rfl|hk
   ·cases e
   ·exact Vj (ks:=ks) h kd hk τ e
def bPk (C:Cod U)(w:World)(t:Tr)(τ:Nat)(L:List (U.El τ)):Prop:=0<U.K τ/\∃xs,w.ownsRow 0 τ (U.K τ) t.val L.length xs/\OwL C w (λ_=>False) true xs (L.map (C.cel τ)).flatten t.bs
structure Hd (C:Cod U) (m:Mm U) (w:World) (β:List Tr) (v:Value) (y':Lf U) (i:Nat) (e:EO U) (t:Tr) (B:List Nat):Prop where
 ht:β[i]? =some t
 he:∃e0 τ L,m.o[i]? =some e0/\e0.ob.aAX=false/\e=⟨.tree τ true L,e0.rv,Nat.succ m.k⟩
 sub:∀b∈B,b∈t.all
 back:∀w' B',w.heap.size<=w'.heap.size->Ow C w' (λ_=>False) true v y' B'->(∀b∈t.all,b∉B->w'.heap[b]? =w.heap[b]?)->
  ∃t' τ L,t'.val=t.val/\(∀b∈t'.all,b∈B'\/(b∈t.all/\b∉B))/\(B'.Nodup->(∀b∈B',b∈t.all->b∈B)->t'.all.Nodup)/\e.ob= .tree τ true L/\bPk C w' t' τ L
structure Wo (U:Uni) where
 i:Nat
 e:EO U
 t:Tr
 B:List Nat
 v:Value
 y:Lf U
end
end Go.EV

namespace Go.EV
open Go.RowKit Go.VK
variable {U:Uni} {Y:Lay U} {TI:List (Nat×TInfo)} {FZ:List (Nat×Sum U)} {P:Program} {g:GI} {E:Env U g}
structure Good (P:Program) (g:GI) (Y:Lay U) (TI:List (Nat×TInfo)) (FZ:List (Nat×Sum U)):Prop where
 ti:oO P TI=true
 lay:LayOk Y
 fs:∀(f:Nat) (S:Sum U),(f,S)∈FZ->yT P g Y f S
structure Am (m m':Mm U):Prop where
 k:m.k<=m'.k
 ns:∀(a i:Nat) (f:Bool),m.ns[a]? =some (i,f)->∃f',m'.ns[a]? =some (i,f')
 ol:m.o.length<=m'.o.length
 o:∀(i:Nat) (e e':EO U),m.o[i]? =some e->m'.o[i]? =some e'->(e'.cv<=m.k->e'=e)/\(e'.ob.aAX=true->e.ob.aAX=true)/\
  ∀T cs vs T' cs' vs',e.ob= .box T cs vs->e'.ob= .box T' cs' vs'->T'=T/\cs'.length=cs.length/\vs'.length=vs.length/\∀(j v:Nat),vs'[j]? =some v->v<=m.k->cs'[j]? =cs[j]? /\vs[j]? =some v
def Am.refl (m:Mm U):Am m m:=⟨aj _,λ_ _ f h=>⟨f,h⟩,aj _,λi e e' h h'=>by
 rw[h] at h';injection h' with h';subst h'
 refine⟨λ_=>rfl,id,λT cs vs T' cs' vs' h1 h2=> ?_⟩
 rw[h1] at h2;injection h2 with a b c;subst a;subst b;subst c
 exact⟨rfl,rfl,rfl,λj v hv _=>⟨rfl,hv⟩⟩⟩
def Am.trans {m m' m'':Mm U}(h:Am m m')(h':Am m' m''):Am m m'':=by
 refine⟨bq h.k h'.k,λa i f hf=> ?_,bq h.ol h'.ol,λi e e'' he he''=> ?_⟩
 ·obtain⟨f',h1⟩:=h.ns a i f hf;exact h'.ns a i f' h1
 ·have hl:i<m'.o.length:=cf (lt_of_some he) h.ol
  obtain⟨a1,a2,a3⟩:=h.o i e _ he (ac hl)
  obtain⟨b1,b2,b3⟩:=h'.o i _ e'' (ac hl) he''
  refine⟨λhc=> ?_,λhb=>a2 (b2 hb),λT cs vs T'' cs'' vs'' h1 h2=> ?_⟩
  ·have e1:=b1 (bq hc h.k)
   rw[e1] at hc ⊢
   exact a1 hc
  ·have hb:(m'.o[i]).ob.aAX=true:=b2 (by rw[h2];rfl)
   cases hm:(m'.o[i]).ob with
   |box T' cs' vs'=>
    obtain⟨p1,p2,p3,p4⟩:=a3 T cs vs T' cs' vs' h1 hm
    obtain⟨q1,q2,q3,q4⟩:=b3 T' cs' vs' T'' cs'' vs'' hm h2
    refine⟨q1.trans p1,q2.trans p2,q3.trans p3,λj v hv hvk=> ?_⟩
    obtain⟨r1,r2⟩:=q4 j v hv (bq hvk h.k)
    obtain⟨r3,r4⟩:=p4 j v r2 hvk
    exact⟨r1.trans r3,r4⟩
   |_=>rw[hm] at hb;cases hb
def Am.add (m:Mm U)(es:List (EO U)):Am m ⟨m.o++es,m.k,m.ns⟩:=by
 refine⟨aj _,λ_ _ f h=>⟨f,h⟩,by simp,λi e e' he he'=> ?_⟩
 have h2:(m.o++es)[i]? =some e:=by rw[aq (lt_of_some he)];exact he
 simp only at he'
 rw[h2] at he'
 exact(Am.refl m).o i e e' he (he.trans he')
def Am.aCO (m:Mm U){ns':List (Nat×Bool)}(h:∀(a i:Nat) (f:Bool),m.ns[a]? =some (i,f)->∃f',ns'[a]? =some (i,f')):Am m ⟨m.o,m.k,ns'⟩:=⟨aj _,h,aj _,(Am.refl m).o⟩
def Am.turn (m:Mm U){i:Nat}{ids:List Nat}{ob:Ob U}{rv:Nat}(hb:ob.aAX=true->∀e,m.o[i]? =some e->e.ob.aAX=true/\∀T cs vs T' cs' vs',e.ob= .box T cs vs->ob= .box T' cs' vs'->T'=T/\cs'.length=cs.length/\vs'.length=vs.length/\∀(j v:Nat),vs'[j]? =some v->v<=m.k->cs'[j]? =cs[j]? /\vs[j]? =some v):
  Am m ⟨Qg (Nat.succ m.k) ids (upd m.o i ⟨ob,rv,Nat.succ m.k⟩),Nat.succ m.k,m.ns⟩:=by
 refine⟨eo _,λ_ _ f h=>⟨f,h⟩,by rw[Fh,bX,ax];exact aj _,λj e e' he he'=> ?_⟩
 simp only at he'
 by_cases hj:j∈ids
 ·rw[aAo hj (by rw[bX,ax];exact lt_of_some he)] at he'
  injection he' with he';subst he'
  exact⟨λh=>(by simp only at h;omega),λh=>(by cases h),λ_ _ _ _ _ _ _ h=>(by cases h)⟩
 ·rw[uZ hj,bX] at he'
  by_cases hij:i=j
  ·subst hij
   rw[bh (lt_of_some he)] at he'
   injection he' with he';subst he'
   refine⟨λh=>by simp only at h;omega,λh=>(hb h e he).1,λT cs vs T' cs' vs' h1 h2=> ?_⟩
   have hbx:ob.aAX=true:=by simp only at h2;rw[h2];rfl
   exact(hb hbx e he).2 T cs vs T' cs' vs' h1 h2
  ·rw[bj hij] at he'
   exact(Am.refl m).o j e e' he he'
def Am.tree (m:Mm U){i:Nat}{ids:List Nat}{τ:Nat}{d:Bool}{l:List (U.El τ)}{rv:Nat}:Am m ⟨Qg (Nat.succ m.k) ids (upd m.o i ⟨.tree τ d l,rv,Nat.succ m.k⟩),Nat.succ m.k,m.ns⟩:=Am.turn m (λh=>by cases h)
section
variable {s:St U} {a:Act} {w:World} {β:List Tr} {α:Type}
def bAz (r:bE Y.C E s a w β){o:Oper}{ta tb e:Nat}{x:Operand}{z:ByteArray}(ho:o.op= .convert ta tb x)(hs:P.underlying ta=some .string)(hd:P.underlying tb=some (.slice e))(he:P.underlying e=some (.int .u8))(hx:dS s x= .l (.str z)):SO P Y.C E a w o (.l (.sl Y.bt ((bQ z).map Y.be))) s true:=λK Q hK=>by
 obtain⟨h1,h2⟩:=(lJ r hx:(Lf.str z:Lf U).mean Y.C w (E.X β) β s.m (a.eval x))
 have hE:Ext w (Lib.bytesWorld w e z):=⟨rfl,rfl,rfl,by rw[Lib.bytesWorld_size];omega,λb hb=>Lib.bytesWorld_at_old w e z b hb⟩
 refine wpo (w':=Lib.bytesWorld w e z) (v:= .slice (some ⟨w.heap.size,0,none⟩) z.size (grownCap w z.size 0 e)) (.inl (by simp[execOp,ho,h1,Lib.run_convert_string_bytes (P:=P) w ta tb e z hs hd he])) (hK _ _ β (r.ext hE) (λ_=> ?_) (λ_=>hE))
 have hen:∀n,U.enc Y.bt (Y.be n)=[V.int .u8 n]:=λn=>by
  rw[<-Y.C.hcel Y.bt (Y.be n),Y.hb,Y.hbe];rfl
 have hk:U.K Y.bt=1:=by rw[<-Y.C.hlen Y.bt (Y.be 0),Y.hb];rfl
 have el:((bQ z).map Y.be).map (U.enc Y.bt)=z.data.toList.map yV:=by
  rw[gz]
  have:(U.enc Y.bt∘Y.be)=λn=>[V.int .u8 n]:=funext hen
  rw[this];simp[bQ,yV]
 show Rd _ (E.X β) [] _ (.slice (U.K Y.bt) (((bQ z).map Y.be).map (U.enc Y.bt)))
 rw[el,hk]
 have hc:=grownCap_le_maxLen w z.size 0 e h2
 have hg:=grownCap_ge w z.size 0 e
 cases hz:z.data.toList with
 |nil=>
  have:z.size=0:=by rw[sF,hz];rfl
  rw[this] at hc ⊢
  exact .slice0 hc
 |cons b0 bs=>
  rw[<-hz]
  have hlen:z.size=(z.data.toList.map yV).length:=by rw[bl,sF]
  have hget:∀(i j:Nat) (e':List V) (d':V),(z.data.toList.map yV)[i]? =some e'->e'[j]? =some d'->i<z.size/\j=0/\d'= .int .u8 ((z.data.toList.getD i 0).toNat:Int):=by
   intro i j e' d' h3 h4
   rw[bg] at h3
   obtain⟨b,hb,rfl⟩:=eE.1 h3
   have hi:i<z.data.toList.length:=(aE.1 hb).1
   cases j with
   |zero=>
    simp[yV] at h4
    refine⟨by rw[sF];exact hi,rfl,?_⟩
    rw[<-h4];simp[List.getD,hb]
   |succ j=>simp[yV] at h4
  refine .slice (val:=λi j=> .int .u8 ((z.data.toList.getD i 0).toNat:Int)) hlen (by rw[<-hlen,sF,hz];simp) hg hc (λhxx=>by have:=r.hp.aCB _ hxx;simp at this) (by rw[Lib.bytesWorld_size];simp)
   (λe' he'=>by obtain⟨b,_,rfl⟩:=cg.1 he';rfl) (λi j e' d' h3 h4=> ?_) (λi j e' d' h3 h4=> ?_)
  ·obtain⟨h5,rfl,rfl⟩:=hget i j e' d' h3 h4
   rw[fC,ca,Nat.mul_one,ee]
   exact Lib.bytesWorld_cell w e z i h5
  ·obtain⟨h5,rfl,rfl⟩:=hget i j e' d' h3 h4
   have hb:=(z.data.toList.getD i 0).toNat_lt
   exact .int (im _) (show(((z.data.toList.getD i 0).toNat:Nat):Int)<=255 by omega)
def lS (G:Good P g Y TI FZ)(r:bE Y.C E s a w β){o:Oper}{op:Op}(ho:o.op=op){K:Sv U->St U->Option α}{z:α}(h:Qu Y TI s op (λx=>K x s)=some z):∃x s',K x s'=some z/\PO P Y.C E a w β o x s'/\s'.t=s.t/\s'.fr=s.fr/\Am s.m s'.m:=by
 obtain⟨x,h1,h2⟩:=Vf G.ti r h
 obtain⟨v,k1,k2⟩:=h2 o ho
 exact⟨x,s,h1,⟨v,k1,r,k2⟩,rfl,rfl,Am.refl _⟩
def Fs (G:Good P g Y TI FZ)(r:bE Y.C E s a w β){o:Oper}{op:Op}(ho:o.op=op)(hc:uC FZ op=0){K:Sv U->St U->Option α}{z:α}(h:stp Y TI FZ s op K=some z):∃x s',K x s'=some z/\PO P Y.C E a w β o x s'/\s'.t=s.t/\s'.fr=s.fr/\Am s.m s'.m:=by
 unfold stp at h
 split at h
 ·cases hc
 ·cases hc
 ·cases hc
 ·cases hc
 ·cases hc
 ·cases hc
 ·rename_i f xa ats
  exfalso
  simp only[uC] at hc
  split at hc
  ·cases hw:(Sum.wt _)<;>rw[hw] at hc<;>cases hc
  ·cases hc
 ·rename_i t x y u
  split at h
  ·rename_i c n hx
   cases hn:decide (n=1) with
   |false=>rw[hn] at h;exact lS G r ho h
   |true=>
    rw[hn] at h
    simp only[ae] at h
    cases hm:nth s.m.ns c with
    |none=>rw[hm] at h;cases h
    |some p=>
     obtain⟨i,f⟩:=p
     rw[hm] at h
     cases f with
     |false=>exact lS G r ho h
     |true=>exact⟨_,_,h,bAv r ho (of_decide_eq_true hn) hx (by rw[<-aR];exact hm),rfl,rfl,Am.aCO _ (λa' j f' h=>⟨f',by rw[aq (lt_of_some h)];exact h⟩)⟩
  ·exact lS G r ho h
 ·rename_i ta tb x
  cases hm:iE FZ (tb+1000000) with
  |some S=>simp only[uC,hm] at hc;cases hc
  |none=>simp only[hm] at h;exact lS G r ho h
 ·exact lS G r ho h
 ·rename_i t x b
  cases hm:iE FZ 2000000 with
  |none=>simp only[hm] at h;exact lS G r ho h
  |some S=>
   simp only[hm] at h
   split at h
   ·rename_i e ek eb k zz i q0 n h1 h2 h3
    split at h
    ·rename_i τ d l rv cv h4
     rw[aR] at h4
     cases hb:(Nat.beq rv q0&&Fa (U:=U) e ek τ) with
     |false=>rw[hb] at h;cases h
     |true=>
      rw[hb] at h;simp only[ae] at h
      simp only[Fa,aa] at hb
      obtain⟨hg,h⟩:=jN h
      obtain⟨v,k1,k2⟩:=bD0 G.ti r h1 h2 h3 h4 (ah hb.1) (ah hb.2.2) hg o ho
      exact⟨_,s,h,⟨v,k1,r,k2⟩,rfl,rfl,Am.refl _⟩
    ·cases h
   ·exact lS G r ho h
 ·exact lS G r ho h
def bE.aBR {C:Cod U}(r:bE C E s a w β){b T rv cv:Nat}{cs:List (Lf U)}{us:List Nat}(h:s.m.o[b]? =some ⟨.box T cs us,rv,cv⟩):cs.length=us.length:=by
 obtain⟨t,ht⟩:=r.hp.tr h
 exact(r.hp.ok b t _ ht h).1
def La {b T rv cv off n:Nat}{cs ps:List (Lf U)}{us:List Nat}{rv':Nat}(h4:s.m.o[b]? =some ⟨.box T cs us,rv,cv⟩)(h5:ps.length=n)(h6:off+n<=cs.length)(hl:cs.length=us.length):
  Am s.m (trn s b (.box T (o5 cs off ps) (o5 us off (ps.map λ_=>Nat.succ s.m.k))) rv').m:=by
 have e1:=Ff cs off ps (by rw[h5];exact h6)
 have e2:=Ff us off (ps.map λ_=>Nat.succ s.m.k) (by rw[bl,h5,<-hl];exact h6)
 refine Am.turn (ids:=[]) s.m λ_ e he=> ?_
 rw[h4] at he;injection he with he;subst he
 refine⟨rfl,λT1 cs1 vs1 T' cs' vs' k1 k2=> ?_⟩
 injection k1 with a1 a2 a3
 injection k2 with b1 b2 b3
 subst a1;subst a2;subst a3;subst b1;subst b2;subst b3
 refine⟨rfl,by rw[e1];simp;omega,by rw[e2];simp;omega,λj v hv hvk=> ?_⟩
 rw[e2,vU _ _ _ _ (by rw[bl,h5,<-hl];exact h6)] at hv
 rw[e1,vU _ _ _ _ (by rw[h5];exact h6)]
 rw[bl,h5] at hv
 rw[h5]
 split at hv
 ·rename_i hj
  rw[bg] at hv
  cases hp:ps[j-off]? with
  |none=>simp[hp] at hv
  |some y=>simp only[hp,cJ,ai] at hv;omega
 ·rename_i hj
  rw[cX hj];exact⟨rfl,hv⟩
def aWi {e i:Nat}{px:Lf U}{d:Bool}{l:List (U.El e)}{s1:St U}(h:apD s e px=some (i,d,l,s1)):s1.t=s.t/\s1.fr=s.fr/\Am s.m s1.m:=by
 cases px with
 |nil=>
  simp only[apD,ai,cU] at h
  obtain⟨_,_,_,rfl⟩:=h
  exact⟨rfl,rfl,Am.add _ _⟩
 |own j q=>
  simp only[apD] at h
  split at h
  ·rename_i τ d0 l0 rv cv ho
   cases hb:Nat.beq rv q with
   |false=>simp[hb] at h
   |true=>
    simp only[hb,ae] at h
    split at h
    ·simp only[ai,cU] at h
     obtain⟨_,_,_,rfl⟩:=h
     exact⟨rfl,rfl,Am.refl _⟩
    ·cases h
  ·cases h
 |_=>cases h
def SO.to {C:Cod U}{o:Oper}{x:Sv U}{s':St U}{b:Bool}(h:SO P C E a w o x s' true):SO P C E a w o x s' b:=by
 cases b with
 |true=>exact h
 |false=>exact h.soft
def aOm {xs:Array Operand}{l:List Operand}(h:xs.toList=l):xs=l.toArray:=by apply gC;simpa using h
def aOn {xs:Array TypeId}{l:List TypeId}(h:xs.toList=l):xs=l.toArray:=by apply gC;simpa using h
def bD9 {T:Nat}{ks:List Kd}(z:qB U (.st T::ks)):∃cs us,bW Y (.st T::ks) z=(true,cs)::us:=by
 cases ks with
 |nil=>exact⟨_,_,rfl⟩
 |cons k ks=>exact⟨_,_,rfl⟩
def RdL.cons_inv {w:World}{X:Nat->Prop}{vs:List Value}{u:V}{us:List V}(h:RdL w X vs (u::us)):∃v vs',vs=v::vs'/\Rd w X [] v u/\RdL w X vs' us:=by
 obtain⟨h1,h2⟩:=h
 cases vs with
 |nil=>simp at h1
 |cons v vs=>exact⟨v,vs,rfl,h2 0 v u rfl rfl,by simpa using h1,λi v u p q=>h2 (i+1) v u (by simpa using p) (by simpa using q)⟩
def RdL.agg {w:World}{X:Nat->Prop}{vs:List Value}{us:List V}(h:Rd w X [] (.agg vs.toArray) (.agg us)):RdL w X vs us:=by
 obtain⟨vs',e,h2,h3⟩:=h.aBA
 injection e with e
 subst e
 exact⟨by simpa using h2,λi v c p q=>h3 i v c (by simpa using p) q⟩
def aDv (hY:LayOk Y)(r:bE Y.C E s a w β){o:Oper}{f:FuncId}{xa:Array Operand}{ats:Array TypeId}{S:Sum U}(ho:o.op= .call {callee:= .value (.func f),args:=xa,argTypes:=ats})
  (hS:yT P g Y f S) (hmk:S.wt=true) (hfr:S.fr=true) {K:Sv U->St U->Option α} {z:α} (h:bG7 Y s S (xa.toList.map (dS s)) K=some z):
  ∃x s' i b,K x s'=some z/\(∃ys,xa.toList.map (dS s)= .l (.box i 0)::ys)/\(∀v,(Sv.l (.box i 0):Sv U).mean Y.C w (E.X β) β s.m v->v= .pointer (some ⟨b,0,none⟩))/\
   (∀(K':Act->World->Prop) (Q:Exit->Act->World->Prop),(∀v w' β',bE Y.C E s' a w' β'->(o.dst≠none->x.mean Y.C w' (E.X β') β' s'.m v)->Bel (·=b) w w'->K' (a.put o.dst v) w')->o.wp P a w K' Q)/\s'.t=s.t/\s'.fr=s.fr/\Am s.m s'.m:=by
 unfold bG7 at h
 split at h
 ·rename_i i off ys hxs
  split at h
  ·rename_i T cs us rv cv hi
   rw[aR] at hi
   split at h
   ·rename_i z1 hz
    cases hb:(Nat.beq off 0&&(hdT T S.ar&&(Fe cs&&kV ys))) with
    |false=>rw[hb] at h;cases h
    |true=>
     rw[hb] at h
     simp only[ae] at h
     obtain⟨q,hq,hk⟩:=iP h
     clear h
     split at hk
     ·rename_i ds rs hr
      cases hlen:Nat.beq (len ds) (len cs) with
      |false=>rw[hlen] at hk;cases hk
      |true=>
       rw[hlen] at hk
       simp only[ae] at hk
       have hlen:=ah hlen
       rw[bH,bH] at hlen
       simp only[aa] at hb
       obtain⟨hoff,hT,hfc,hfy⟩:=hb
       have hoff:=ah hoff
       subst hoff
       obtain⟨ar,rs0,fr,wt,mm⟩:=S
       obtain⟨ks,rfl⟩:∃ks,ar= .st T::ks:=by
        simp only[hdT] at hT
        cases ar with
        |nil=>cases hT
        |cons k ks=>cases k with
         |st T'=>exact⟨ks,by rw[ah hT]⟩
         |_=>cases hT
       obtain⟨cs0,us0,hcp⟩:=bD9 (Y:=Y) z1
       have hsp:=(hS z1 q hq).2.2.2 hmk hfr T ks cs0 us0 ds rs rfl hcp hr
       have hbl:=r.aBR hi
       obtain⟨tr,ht⟩:=r.hp.tr hi
       obtain⟨_,b,ws,e1,e2,e3,e4⟩:=r.hp.ok i tr _ ht hi
       refine⟨_,_,i,b,hk,⟨ys,hxs⟩,λv hv=> ?_,λK' Q hK=> ?_,rfl,rfl,?_⟩
       ·obtain⟨_,e',t',g1,g2,g3⟩:=hv
        rw[hi] at g1;injection g1 with g1;subst g1
        rw[ht] at g2;injection g2 with g2;subst g2
        obtain⟨b',g4,rfl⟩:=g3 rfl
        rw[e1] at g4;injection g4 with g4;rw[g4]
       ·--the arguments
        have hm:∀(i:Nat) (v:Value) (x:Sv U),(xa.toList.map a.eval)[i]? =some v->(xa.toList.map (dS s))[i]? =some x->x.mean Y.C w (E.X β) β s.m v:=λi v x p q=>by
         obtain⟨y,rfl,rfl⟩:=Cb i v x p q;exact vX r
        obtain⟨v0,vs,hvs,hvl⟩:∃v0 vs,xa.toList.map a.eval=v0::vs/\vs.length=ys.length:=by
         have hl:(xa.toList.map a.eval).length=(Sv.l (.box i 0)::ys).length:=by rw[<-hxs];simp
         match hh:xa.toList.map a.eval,hl with
         |v0::vs,hl=>exact⟨v0,vs,rfl,by simpa using hl⟩
        rw[hxs,hvs] at hm
        obtain⟨_,e',t',g1,g2,g3⟩:=hm 0 v0 _ rfl rfl
        rw[hi] at g1;injection g1 with g1;subst g1
        rw[ht] at g2;injection g2 with g2;subst g2
        obtain⟨b',g4,rfl⟩:=g3 rfl
        rw[e1] at g4;injection g4 with g4;subst g4
        have hall:tr.all=[b]:=by simp[Tr.all,e1,e2]
        have hfree:kV (.a cs::ys)=true:=by simp only[kV,aHa,aa];exact⟨hfc,hfy⟩
        have hrd:=Fq r (Z:=E.X β) (λ_ h=>h) _ hz (vs:= .agg ws.toArray::vs) (by simp[hvl]) (λj v x p q=>by
         cases j with
         |zero=>simp at p q;subst p;subst q;exact⟨ws,rfl,e4⟩
         |succ j=>exact hm (j+1) v x (by simpa using p) (by simpa using q)) (.inl hfree)
        rw[hcp,bm] at hrd
        obtain⟨_,_,he,hr1,hr2⟩:=RdL.cons_inv hrd
        injection he with he1 he2
        subst he1;subst he2
        have hr1:=RdL.agg (show Rd w (E.X β) [] (.agg ws.toArray) (.agg (cs0.map Lf.toV)) from hr1)
        have hXb:E.X β b:=bK7 ht (by rw[hall];simp)
        have hG:∀w',Bel (·=b) w w'->g.G w':=λw' hb'=>E.hg w' ⟨hb'.os.trans r.hp.ext.os,hb'.tape.trans r.hp.ext.tape,hb'.output.trans r.hp.ext.output,bq r.hp.ext.size hb'.size,λx hlt hy=>by
         rw[hb'.block x (cf hlt r.hp.ext.size) (λhB=> ?_)]
         ·exact r.hp.ext.block x hlt hy
         ·subst hB
          rcases(r.hp.new i tr x ht (by rw[hall];simp)).1 with h|h
          ·omega
          ·exact hy h⟩
        have hcall:=hsp.2 w (E.X β) b ws vs hG (λx hx=>r.hp.aCB x hx) hXb e3 hr1 hr2
        have hargs:(xa.toList.map a.eval).toArray=(.pointer (some ⟨b,0,none⟩)::vs).toArray:=by rw[hvs]
        refine wpc (wC ho hsp.1) (R':=λu w'=>∃ws',Bel (·=b) w w'/\w'.heap[b]? =some (.cells ws'.toArray T (0,0))/\RdL w' (E.X β) ws' (ds.map Lf.toV)/\Rd w' (E.X β) [] u (lM (rs.map vC))) ?_ ?_
        ·rw[hargs]
         refine hcall.mono ?_
         rintro e w' ⟨v,ws',rfl,h4⟩
         exact⟨v,rfl,ws',h4⟩
        ·rintro u w' ⟨ws',h4,h5,h6,h7⟩
         have hlen':=r.hp.len
         have hil:i<s.m.o.length:=lt_of_some hi
         have hcase:∀j,(j=i\/s.m.o.length<=j)->∀t,β[j]? =some t->j=i/\t=tr:=λj hj t ht'=>by
          rcases hj with rfl|hj
          ·rw[ht] at ht';injection ht' with ht';exact⟨rfl,ht'.symm⟩
          ·have:=lt_of_some ht';omega
         have hcaseo:∀j,(j=i\/s.m.o.length<=j)->∀e,(s.m.o.set i ⟨.box T ds (us.map λ_=>Nat.succ s.m.k),rv,Nat.succ s.m.k⟩)[j]? =some e->e=⟨.box T ds (us.map λ_=>Nat.succ s.m.k),rv,Nat.succ s.m.k⟩:=λj hj e he=>by
          rcases hj with rfl|hj
          ·rw[bh hil] at he;injection he with he;exact he.symm
          ·have:=lt_of_some he;simp at this;omega
         obtain⟨q1,q2⟩:=r.hp.step (s':=⟨s.m.o.set i ⟨.box T ds (us.map λ_=>Nat.succ s.m.k),rv,Nat.succ s.m.k⟩,Nat.succ s.m.k,s.m.ns⟩) (β':=β) (w':=w') (λj=>j=i) (λx=>x=b) (eo _) (λ_ _ f h=>⟨f,h⟩) r.hp.cnt (by simp[hlen']) (by simp) h4.size h4.os h4.tape h4.output
          (λx hx hn=>h4.block x hx hn)
          (λx hx=>⟨i,tr,rfl,ht,by rw[hall,hx];simp⟩)
          (λj hj _=>⟨by rw[bj (Ne.symm hj)],rfl⟩)
          (λj t x hj ht' hx=>by
           obtain⟨rfl,rfl⟩:=hcase j hj t ht'
           exact⟨cf (r.hp.new _ _ x ht hx).2 h4.size, .inr ⟨_,_,rfl,ht,hx⟩⟩)
          (λj j' t t' x hj hj' hjj ht1 ht2 _=>by
           have:=(hcase j hj t ht1).1;have:=(hcase j' hj' t' ht2).1;omega)
          (λj t hj ht'=>by obtain⟨rfl,rfl⟩:=hcase j hj t ht';exact r.hp.nd _ _ ht)
          (λj e hj he=>by
           have:=hcaseo j hj e he;subst this
           refine⟨?_,aj _⟩
           have:=(r.hp.vers _ _ hi).1
           simp only at this ⊢;omega)
          (λj e e' t t' hj h1 h2 h3 h4=>by
           subst hj
           have:=hcaseo _ (.inl rfl) e' h2;subst this
           rw[hi] at h1;injection h1 with h1;subst h1
           rw[h3] at h4;injection h4 with h4;subst h4
           exact⟨λ_=>⟨rfl,rfl⟩,dq _,λ_=>⟨rfl,rfl⟩⟩)
          (λhev j t e hj ht' he=>by
           obtain⟨rfl,rfl⟩:=hcase j hj t ht'
           have:=hcaseo _ (.inl rfl) e he;subst this
           refine⟨by rw[bl,hlen,hbl],b,ws',e1,e2,h5,by have:=h6.1;simpa using this,λl v c p q'=> ?_⟩
           have hcd:c.aAZ=true:=(Ca rs0 q (true,ds) (by rw[hr];simp)).1 c (az q')
           exact Bw hcd (h6.2 l v _ p (by rw[bg,q'];rfl)) (.inl λ_ h=>h))
         have r':=r.go q1 q2 (fr:=s.fr)
         have e5:(trn s i (.box T ds (us.map λ_=>Nat.succ s.m.k)) rv)=⟨s.t,⟨s.m.o.set i ⟨.box T ds (us.map λ_=>Nat.succ s.m.k),rv,Nat.succ s.m.k⟩,Nat.succ s.m.k,s.m.ns⟩,s.fr⟩:=by simp only[trn,bX]
         rw[e5] at hK
         exact hK u w' β r' (λ_=>aTr (λx hx=>Ca rs0 q x (by rw[hr];simp[hx])) h7 (.inl λ_ h=>h)) h4
       ·have:=Am.turn s.m (i:=i) (ids:=[]) (ob:= .box T ds (us.map λ_=>Nat.succ s.m.k)) (rv:=rv) (λ_ e he=>by
         rw[hi] at he;injection he with he;subst he
         refine⟨rfl,λT0 cs0 vs0 T' cs' vs' h1 h2=> ?_⟩
         injection h1 with a1 a2 a3;injection h2 with b1 b2 b3
         subst a1;subst a2;subst a3;subst b1;subst b2;subst b3
         refine⟨rfl,hlen,by simp,λj v hv hvk=> ?_⟩
         rw[bg] at hv
         cases hu:us[j]? with
         |none=>rw[hu] at hv;cases hv
         |some x=>rw[hu] at hv;simp at hv;omega)
        exact this
     ·cases hk
   ·cases h
  ·cases h
 ·cases h
def aMf (hY:LayOk Y)(r:bE Y.C E s a w β){o:Oper}{f:FuncId}{xa:Array Operand}{ats:Array TypeId}{S:Sum U}(ho:o.op= .call {callee:= .value (.func f),args:=xa,argTypes:=ats})
  (hS:yT P g Y f S) (hmk:S.wt=true) (hfr:S.fr=true) {K:Sv U->St U->Option α} {z:α} (h:bG7 Y s S (xa.toList.map (dS s)) K=some z):
  ∃x s',K x s'=some z/\SO P Y.C E a w o x s' false/\s'.t=s.t/\s'.fr=s.fr/\Am s.m s'.m:=by
 obtain⟨x,s',i,b,h1,_,_,h4,h5⟩:=aDv hY r ho hS hmk hfr h
 exact⟨x,s',h1,λK' Q hK=>h4 K' Q λv w' β' k1 k2 _=>hK v w' β' k1 k2 (λh=>by cases h),h5⟩
def aOo (G:Good P g Y TI FZ)(r:bE Y.C E s a w β){o:Oper}{op:Op}(ho:o.op=op){K:Sv U->St U->Option α}{z:α}(h:stp Y TI FZ s op K=some z):∃x s',K x s'=some z/\SO P Y.C E a w o x s' (Nat.ble (uC FZ op) 1)/\s'.t=s.t/\s'.fr=s.fr/\Am s.m s'.m:=by
 by_cases hc:uC FZ op=0
 ·obtain⟨x,s',h1,h2,h3⟩:=Fs G r ho hc h
  rw[hc];exact⟨x,s',h1,SO.aDJ h2,h3⟩
 unfold stp at h
 split at h
 ·rename_i T x
  cases hp:parts (sG s x) with
  |none=>rw[hp] at h;cases h
  |some cs=>
   rw[hp] at h
   cases ha:Bg cs with
   |false=>simp[ha] at h
   |true=>
    simp only[ha,ae] at h
    exact⟨_,_,h,bAq r ho hp ha,rfl,rfl,Am.add _ _⟩
 ·rename_i T
  cases hf:iE TI T with
  |none=>rw[hf] at h;cases h
  |some i=>rw[hf] at h;exact⟨_,_,h,aTh G.ti r ho hf,rfl,rfl,Am.add _ _⟩
 ·rename_i t x y
  split at h
  ·rename_i i b off ps h1 h2 h3
   split at h
   ·rename_i T cs us rv cv h4
    rw[aR] at h4
    cases hb:(Nat.beq (len ps) i.k&&(Nat.ble (off+i.k) (len cs)&&Bg ps)) with
    |false=>rw[hb] at h;cases h
    |true=>
     rw[hb] at h
     simp only[ae] at h
     simp only[aa,bH] at hb
     exact⟨_,_,h,aHs G.ti r ho h1 h2 h3 h4 (ah hb.1) (bc hb.2.1) hb.2.2,rfl,rfl,La h4 (ah hb.1) (bc hb.2.1) (r.aBR h4)⟩
   ·cases h
  ·rename_i i b c τ q z' off ps h1 h2 h3
   cases hv:okv s.m b c with
   |false=>rw[hv] at h;cases h
   |true=>
    rw[hv] at h
    simp only[ae] at h
    split at h
    ·rename_i τ' d l rv cv h4
     rw[aR] at h4
     cases hs:slq τ τ' l with
     |none=>rw[hs] at h;cases h
     |some l1=>
      rw[hs] at h
      obtain⟨rfl,hh⟩:=lN hs
      obtain rfl:=ez hh
      simp only at h
      split at h
      ·rename_i ds ids d' h8
       rw[aN7,aAm] at h8
       cases hb:(Nat.beq (len ps) i.k&&(Nat.ble (off+i.k) (U.K τ')&&(Bg ps&&dist (b::ids)))) with
       |false=>rw[hb] at h;cases h
       |true=>
        rw[hb] at h
        simp only[ae] at h
        simp only[aa,bH] at hb
        split at h
        ·rename_i z2 h9
         obtain⟨e',k1,k2⟩:=Bu hv
         rw[h4] at k1;injection k1 with k1;subst k1
         exact⟨_,_,h,aEn G.ti G.lay r ho h1 h2 h3 h4 k2 (ah hb.1) (bc hb.2.1) hb.2.2.1 h8 (wB.1 hb.2.2.2) h9,rfl,rfl,Am.tree _⟩
        ·cases h
      ·cases h
    ·cases h
  ·rename_i i b c τ q z j τ' l q' z' off ps h1 h2 h3
   cases hv:okv s.m b c with
   |false=>rw[hv] at h;cases h
   |true=>
    rw[hv] at h
    simp only[ae] at h
    split at h
    ·rename_i τ1 d L rv cv h4
     rw[aR] at h4
     cases hs:slq τ τ1 L with
     |none=>rw[hs] at h;cases h
     |some l1=>
      rw[hs] at h
      obtain⟨rfl,hh⟩:=lN hs
      obtain rfl:=ez hh
      simp only at h
      split at h
      ·rename_i ds ids d' h8
       rw[aN7,aAm] at h8
       cases hb:(Nat.beq (len ps) i.k&&(Nat.ble (off+i.k) (U.K τ')&&(Bg ps&&dist (b::ids)))) with
       |false=>rw[hb] at h;cases h
       |true=>
        rw[hb] at h
        simp only[ae] at h
        simp only[aa,bH] at hb
        split at h
        ·rename_i z2 h9
         split at h
         ·rename_i z3 h10
          obtain⟨e',k1,k2⟩:=Bu hv
          rw[h4] at k1;injection k1 with k1;subst k1
          exact⟨_,_,h,aMd G.ti G.lay r ho h1 h2 h3 h4 k2 (ah hb.1) (bc hb.2.1) hb.2.2.1 h8 (wB.1 hb.2.2.2) h9 h10,rfl,rfl,Am.tree _⟩
         ·cases h
        ·cases h
      ·cases h
    ·cases h
  ·cases h
 ·rename_i t n ps
  split at h
  ·rename_i e ek eb k zz h1
   cases hb:(Nat.beq (len ps.toList) n&&(Nat.ble (n*ek) 16777216&&Fa (U:=U) e ek e)) with
   |false=>rw[hb] at h;cases h
   |true=>
    rw[hb] at h
    simp only[ae] at h
    simp only[aa,bH] at hb
    split at h
    ·rename_i l ids d h5
     cases hpl:(!Bq (iE FZ 3000000)&&(!Nat.beq n 0&&aV4 ids)) with
     |true=>
      rw[hpl] at h
      simp only[ae] at h
      cases ids with
      |cons _ _=>simp[aV4] at hpl
      |nil=>exact⟨_,_,h,aTk G.ti G.lay r ho h1 (ah hb.1) (bc hb.2.1) hb.2.2 h5,rfl,rfl,Am.refl _⟩
     |false=>
     rw[hpl] at h
     simp only[ab] at h
     cases hd:dist (len s.m.o::ids) with
     |false=>rw[hd] at h;cases h
     |true=>
      rw[hd] at h
      simp only[ae] at h
      have hJ:=wB.1 hd
      rw[bH] at hJ
      exact⟨_,_,h,aTl G.ti G.lay r ho h1 (ah hb.1) (bc hb.2.1) hb.2.2 h5 hJ,rfl,rfl,(Am.add s.m [⟨.dead,s.m.k,s.m.k⟩]).trans (Am.tree _)⟩
    ·cases h
  ·cases h
 ·rename_i t x y
  split at h
  ·rename_i e ek eb k zz h1
   split at h
   ·rename_i i n h2 h3
    cases hb:(aHc x y&&(Nat.ble eb 2048&&Fa (U:=U) e ek e)) with
    |false=>rw[hb] at h;cases h
    |true=>
     rw[hb] at h
     simp only[ae] at h
     simp only[aa] at hb
     split at h
     ·rename_i ds h7
      split at h
      ·rename_i z2 h8
       obtain⟨hg,h⟩:=jN h
       exact⟨_,_,h,aWe G.ti G.lay r ho h1 h2 h3 hb.1 hb.2.1 hb.2.2 h7 h8 hg,rfl,rfl,Am.add _ _⟩
      ·cases h
     ·cases h
   ·cases h
  ·cases h
 ·rename_i xa ats
  split at h
  ·rename_i x y t t2 hxa hats
   split at h
   ·rename_i e ek eb k zz h1
    cases hb:(Nat.beq t t2&&(Nat.ble eb 2048&&Fa (U:=U) e ek e)) with
    |false=>rw[hb] at h;cases h
    |true=>
     rw[hb] at h
     simp only[ae] at h
     simp only[aa] at hb
     obtain rfl:t=t2:=ah hb.1
     split at h
     ·rename_i i c τ n l py h4 h5
      cases hv:okv s.m i c with
      |false=>rw[hv] at h;cases h
      |true=>
       rw[hv] at h
       simp only[ae] at h
       cases hs:slq e τ l with
       |none=>rw[hs] at h;cases h
       |some l1=>
        rw[hs] at h
        obtain⟨rfl,hh⟩:=lN hs
        obtain rfl:=ez hh
        simp only at h
        split at h
        ·rename_i l' d' h7
         cases hne:Nat.ble 1 (len l') with
         |false=>rw[hne] at h;cases h
         |true=>
          rw[hne] at h
          obtain⟨hg,h⟩:=jN h
          rw[aOm hxa,aOn hats] at ho ⊢
          exact⟨_,_,h,aEo G.ti G.lay r ho h1 hb.2.1 hb.2.2 h4 h5 hv h7 (by rw[<-bH];exact bc hne) hg,rfl,rfl,Am.turn (ids:=[]) s.m (λh=>by cases h)⟩
        ·cases h
     ·rename_i px py _ h4 h5
      split at h
      ·rename_i i d l s1 h6
       split at h
       ·rename_i l' ids d' h7
        obtain⟨hg,h⟩:=jN h
        rw[aOm hxa,aOn hats] at ho ⊢
        exact⟨_,_,h,aQ3 G.ti G.lay r ho h1 hb.2.1 hb.2.2 h4 h5 h6 h7 hg,(aWi h6).1,(aWi h6).2.1,(aWi h6).2.2.trans (Am.tree _)⟩
       ·cases h
      ·cases h
     ·cases h
   ·cases h
  ·cases h
 ·rename_i f xa ats
  split at h
  ·rename_i S hS
   have hok:=G.fs f S (aGi hS)
   cases hpt:(S.wt&&S.fr) with
   |true=>
    simp only[hpt,ae] at h
    rw[aa] at hpt
    have hcl:Nat.ble (uC FZ (.call {callee:= .value (.func f),args:=xa,argTypes:=ats})) 1=false:=by simp only[uC,hS,hpt.1,ae];rfl
    rw[hcl]
    exact aMf G.lay r ho hok hpt.1 hpt.2 h
   |false=>
   simp only[hpt,ab] at h
   split at h
   ·rename_i z1 hz
    cases hmk:S.wt with
    |true=>
     rw[hmk] at h;cases h
    |false=>
     rw[hmk] at h
     simp only[ab] at h
     cases hfr:S.fr with
     |true=>
      rw[hfr] at h
      simp only[ae] at h
      obtain⟨q,hq,h⟩:=iP h
      exact⟨_,_,h,(aEq r ho hok hz hmk hfr hq).to,rfl,rfl,Am.add _ _⟩
     |false=>
      rw[hfr] at h
      simp only[ab] at h
      cases hff:(vW Y S.rs||kV (xa.toList.map (dS s))) with
      |false=>
       rw[hff] at h
       simp only[ab] at h
       cases hi:aS2 s.m (xa.toList.map (dS s)) with
       |none=>rw[hi] at h;cases h
       |some p=>
        obtain⟨i,c⟩:=p
        rw[hi] at h
        simp only at h
        obtain⟨q,hq,h⟩:=iP h
        exact⟨_,_,h,(aMe r ho hok hz hmk hfr hi hq).to,rfl,rfl,Am.refl _⟩
      |true=>
       rw[hff] at h
       simp only[ae] at h
       obtain⟨q,hq,h⟩:=iP h
       rw[cq] at hff
       exact⟨_,_,h,(Gz G.lay r ho hok hz hmk hfr hff hq).to,rfl,rfl,Am.refl _⟩
   ·cases h
  ·cases h
 ·exact absurd rfl hc
 ·rename_i ta tb x
  have mk:∀{K:Sv U->St U->Option α} {z:α},Qu Y TI s (.convert ta tb x) (λx=>K x s)=some z->∃y s',K y s'=some z/\SO P Y.C E a w o y s' (Nat.ble (uC FZ (.convert ta tb x)) 1)/\s'.t=s.t/\s'.fr=s.fr/\Am s.m s'.m:=λh=>by
   obtain⟨y,k1,k2⟩:=Vf G.ti r h
   exact⟨y,s,k1,(SO.aDB r (o:=o) (by rw[ho];exact k2)).to,rfl,rfl,Am.refl _⟩
  cases hm:iE FZ (tb+1000000) with
  |none=>simp only[hm] at h;exact mk h
  |some S=>
   simp only[hm] at h
   split at h
   ·rename_i k1 z1 e ek eb k2 z2 k3 z3 z h1 h2 h3 h4
    cases hb:Nat.beq e Y.bt with
    |false=>rw[hb] at h;cases h
    |true=>
     rw[hb] at h
     have he:=ah hb
     subst he
     exact⟨_,_,h,(bAz r ho (Fg (bP G.ti h1) rfl).1 (eX (yS (bP G.ti h2) rfl).1).1 (Kv (bP G.ti h3) rfl).1 h4).to,rfl,rfl,Am.refl _⟩
   ·exact mk h
 ·exact absurd rfl hc
 ·exact absurd rfl hc
 ·rename_i h1 h2 h3 h4 h5 h6 h7 h8 h9
  obtain⟨x,k1,k2⟩:=Vf G.ti r h
  refine⟨x,s,k1,?_,rfl,rfl,Am.refl _⟩
  exact(by
   have hle:Nat.ble (uC FZ op) 1=true\/Nat.ble (uC FZ op) 1=false:=by cases Nat.ble (uC FZ op) 1<;>simp
   have:=SO.aDB r (o:=o) (by rw[ho];exact k2)
   rcases hle with e|e
   ·rw[e];exact this
   ·rw[e];exact this.soft)
end
end Go.EV

namespace Go.EV
open Go.RowKit Go.VK
variable {U:Uni} {Y:Lay U} {TI:List (Nat×TInfo)} {FZ:List (Nat×Sum U)} {P:Program} {g:GI} {E:Env U g}
structure Ag (D:Nat->Prop) (s s':St U):Prop where
 t:∀n,¬D n->s'.t[n]? =s.t[n]?
 tl:s'.t.length=s.t.length
 fr:s'.fr=s.fr
 m:Am s.m s'.m
def Ag.refl {D:Nat->Prop}(s:St U):Ag D s s:=⟨λ_ _=>rfl,rfl,rfl,Am.refl _⟩
def Ag.trans {D:Nat->Prop}{s s' s'':St U}(h:Ag D s s')(h':Ag D s' s''):Ag D s s'':=⟨λn hn=>(h'.t n hn).trans (h.t n hn),h'.tl.trans h.tl,h'.fr.trans h.fr,h.m.trans h'.m⟩
def Ag.mono {D D':Nat->Prop}{s s':St U}(h:Ag D s s')(hd:∀n,D n->D' n):Ag D' s s':=⟨λn hn=>h.t n (λhh=>hn (hd n hh)),h.tl,h.fr,h.m⟩
def Ag.put {D:Nat->Prop}{s s':St U}(h:Ag D s s'){d:Option Nat}{x:Sv U}(hd:∀n,d=some n->D n):Ag D s (put s' d x):=by
 cases d with
 |none=>exact h
 |some n=>
  refine⟨λk hk=> ?_,?_,h.fr,h.m⟩
  ·simp only[EV.put,bX]
   rw[bj (λe=>hk (by rw[<-e];exact hd n rfl))]
   exact h.t k hk
  ·simp only[EV.put,bX,ax];exact h.tl
section
variable {s:St U} {a:Act} {w:World} {β:List Tr} {α:Type} {C:Cod U}
def bE.set (r:bE C E s a w β){n:Nat}{x:Sv U}(h:x.mean C w (E.X β) β s.m (a.tmps.getD n undef)):bE C E (EV.put s (some n) x) a w β:=by
 refine⟨r.hp,r.defers,by simp only[EV.put,bX,ax];exact r.tsz,λm y hm=> ?_⟩
 simp only[EV.put,bX] at hm ⊢
 by_cases he:n=m
 ·subst he
  have hl:n<s.t.length:=by have:=lt_of_some hm;simpa using this
  rw[bh hl] at hm
  injection hm with hm;subst hm;exact h
 ·rw[bj he] at hm;exact r.tm m y hm
def aOp (r:bE C E s a w β){n:Nat}{T F:St U->Option α}{z:α}(h:tst n s T F=some z):
  ∃b s',a.tmps.getD n undef= .bool b/\n<s.t.length/\bE C E s' a w β/\(b=true->T s'=some z)/\(b=false->F s'=some z)/\Ag (λk=>k=n) s s':=by
 unfold tst at h
 rw[aR] at h
 split at h
 ·rename_i b hx
  have hm:a.tmps.getD n undef= .bool b:=r.tm n _ hx
  cases b with
  |true=>exact⟨true,_,hm,lt_of_some hx,r.set (x:= .l (.bool true)) hm,λ_=>h,λh=>(by cases h),(Ag.refl s).put (λk e=>by injection e with e;exact e.symm)⟩
  |false=>exact⟨false,_,hm,lt_of_some hx,r.set (x:= .l (.bool false)) hm,λh=>(by cases h),λ_=>h,(Ag.refl s).put (λk e=>by injection e with e;exact e.symm)⟩
 ·rename_i c m hx
  obtain⟨i,f,k1,k2,k3⟩:=r.tm n _ hx
  rw[aR,k1] at h
  simp only at h
  cases hb:decide ((i:Int)<m) with
  |true=>
   rw[hb] at h k2
   have hlt:=of_decide_eq_true hb
   have hns:∀(a' j:Nat) (f':Bool),s.m.ns[a']? =some (j,f')->∃f'',(upd s.m.ns c (i,true))[a']? =some (j,f''):=λa' j f' h'=>by
    rw[bX]
    by_cases he:c=a'
    ·subst he
     rw[k1] at h';injection h' with h';injection h' with h' _;subst h'
     exact⟨true,bh (lt_of_some k1)⟩
    ·exact⟨f',by rw[bj he];exact h'⟩
   have r1:bE C E ⟨s.t,⟨s.m.o,s.m.k,upd s.m.ns c (i,true)⟩,s.fr⟩ a w β:=r.aCO hns (λa' j h'=>by
    rw[bX] at h'
    by_cases he:c=a'
    ·subst he
     rw[bh (lt_of_some k1)] at h'
     have hij:i=j:=congrArg Prod.fst (ak h')
     rw[<-hij]
     exact e9 (Int.add_one_le_iff.2 hlt) k3
    ·rw[bj he] at h';exact r.hp.cnt a' j h')
   have hag:Ag (λk=>k=n) s (⟨s.t,⟨s.m.o,s.m.k,upd s.m.ns c (i,true)⟩,s.fr⟩:St U):=⟨λ_ _=>rfl,rfl,rfl,Am.aCO _ hns⟩
   exact⟨true,_,k2,lt_of_some hx,r1.set (x:= .l (.bool true)) k2,λ_=>h,λh=>(by cases h),hag.put (λk e=>by injection e with e;exact e.symm)⟩
  |false=>
   rw[hb] at h k2
   exact⟨false,_,k2,lt_of_some hx,r.set (x:= .l (.bool false)) k2,λh=>(by cases h),λ_=>h,(Ag.refl s).put (λk e=>by injection e with e;exact e.symm)⟩
 ·cases h
def Wr (al:List Oper)(o:Oper)(n:Nat):Prop:=o.dst=some n\/∃j b oj,o.guard=some (j,b)/\al[j]? =some oj/\oj.dst=some n
def aWj {al:List Oper}{j n:Nat}{oj:Oper}{b:Bool}(hj:al[j]? =some oj)(hd:oj.dst=some n)(hn:n<a.tmps.size)(hv:a.tmps.getD n undef= .bool b):yielded al.toArray a.tmps j=some b:=by
 have h2:a.tmps[n]? =some (.bool b):=by
  rw[cj,cQ hn] at hv
  rw[cQ hn];exact congrArg some hv
 simp[yielded,hj,hd,h2]
def bA0 {al:List Oper}{j n:Nat}{oj:Oper}(hj:al[j]? =some oj)(hd:oj.dst=some n)(hn:n<a.tmps.size)(hv:a.tmps.getD n undef=undef):yielded al.toArray a.tmps j=none:=by
 have h2:a.tmps[n]? =some undef:=by
  rw[cj,cQ hn] at hv
  rw[cQ hn];exact congrArg some hv
 simp[yielded,hj,hd,h2,undef]
def Fu (r:bE C E s a w β){al:List Oper}{o:Oper}{run:St U->Option α}{K:St U->Option α}{z:α}(h:aMa al o run s K=some z):
  ∃s',bE C E s' a w β/\Ag (Wr al o) s s'/\((Region.wanted o (yielded al.toArray a.tmps)=true/\run s'=some z)\/(Region.wanted o (yielded al.toArray a.tmps)=false/\skp o s' K=some z)):=by
 unfold aMa at h
 split at h
 ·rename_i hg
  exact⟨s,r,Ag.refl s, .inl ⟨by simp[Region.wanted,hg],h⟩⟩
 ·rename_i j want hg
  rw[aR] at h
  split at h
  ·rename_i oj hj
   split at h
   ·rename_i n hd
    cases hu:bJf (nth s.t n) with
    |true=>
     rw[hu] at h
     rw[aR] at hu
     have hx:s.t[n]? =some (.l .und):=by
      cases hq:s.t[n]? with
      |none=>rw[hq] at hu;cases hu
      |some x=>
       rw[hq] at hu
       cases x with
       |l y=>cases y<;>first|rfl|cases hu
       |_=>cases hu
     have hv:a.tmps.getD n undef=undef:=r.tm n _ hx
     have hy:=bA0 (a:=a) hj hd (by rw[r.tsz];exact lt_of_some hx) hv
     exact⟨s,r,Ag.refl s, .inr ⟨by simp[Region.wanted,hg,hy],h⟩⟩
    |false=>
     rw[hu] at h
     simp only[ab] at h
     obtain⟨b,s',k1,k2,k3,k4,k5,k6⟩:=aOp r h
     have hy:=aWj (a:=a) hj hd (by rw[r.tsz];exact k2) k1
     refine⟨s',k3,k6.mono (λk e=>by subst e;exact .inr ⟨j,want,oj,hg,hj,hd⟩),?_⟩
     cases b with
     |true=>
      have h4:=k4 rfl
      cases want with
      |true=>exact .inl ⟨by simp[Region.wanted,hg,hy],h4⟩
      |false=>exact .inr ⟨by simp[Region.wanted,hg,hy],h4⟩
     |false=>
      have h5:=k5 rfl
      cases want with
      |true=>exact .inr ⟨by simp[Region.wanted,hg,hy],h5⟩
      |false=>exact .inl ⟨by simp[Region.wanted,hg,hy],h5⟩
   ·cases h
  ·cases h
def aAr (r:bE C E s a w β){al:List Oper}{o:Oper}{K:St U->Option α}{z:α}(h:grd Y TI FZ al o s K=some z):
  ∃s',bE C E s' a w β/\Ag (Wr al o) s s'/\((Region.wanted o (yielded al.toArray a.tmps)=true/\one Y TI FZ o s' K=some z)\/(Region.wanted o (yielded al.toArray a.tmps)=false/\skp o s' K=some z)):=Fu r h
def aQ6 (G:Good P g Y TI FZ)(r:bE Y.C E s a w β){al:List Oper}{o:Oper}{K:St U->Option α}{z:α}(h:grd Y TI FZ al o s K=some z){K':Act->World->Prop}{Q:Exit->Act->World->Prop}
  (hk:∀s' a' w' β',Ag (Wr al o) s s'->K s'=some z->bE Y.C E s' a' w' β'->(Nat.ble (uC FZ o.op) 1=true->Ext w w')->K' a' w'):if Region.wanted o (yielded al.toArray a.tmps)=true then o.wp P a w K' Q else K' (a.put o.dst undef) w:=by
 obtain⟨s1,r1,h1,h2⟩:=aAr r h
 rcases h2 with⟨hw,h2⟩|⟨hw,h2⟩
 ·rw[cH hw]
  unfold one at h2
  obtain⟨x,s2,k1,k2,k3,k4,k5⟩:=aOo G r1 rfl h2
  exact k2 K' Q λv w' β' q1 q2 q3=>hk _ _ w' β' (Ag.put ⟨λn hn=>by rw[k3];exact h1.t n hn,by rw[k3];exact h1.tl,by rw[k4];exact h1.fr,h1.m.trans k5⟩ (λn e=> .inl e)) k1 (q1.put q2) q3
 ·rw[cX (by rw[hw];simp)]
  exact hk _ _ w β (h1.put (λn e=> .inl e)) h2 (r1.put (x:= .l .und) (v:=undef) (λ_=>rfl)) (λ_=>Ext.refl w)
def bHl (G:Good P g Y TI FZ)(r:bE Y.C E s a w β){al:List Oper}{o:Oper}(hc:uC FZ o.op=0){K:St U->Option α}{z:α}(h:grd Y TI FZ al o s K=some z):
  ∃v s',((Region.wanted o (yielded al.toArray a.tmps)=true/\∀w',Ext w w'->(execOp a.eval o).run P w'= .ok (.value v) w')\/(Region.wanted o (yielded al.toArray a.tmps)=false/\v=undef))/\bE Y.C E s' (a.put o.dst v) w β/\K s'=some z/\Ag (Wr al o) s s':=by
 obtain⟨s1,r1,h1,h2⟩:=aAr r h
 rcases h2 with⟨hw,h2⟩|⟨hw,h2⟩
 ·unfold one at h2
  obtain⟨x,s2,k1,⟨v,p1,p2,p3⟩,k3,k4,k5⟩:=Fs G r1 rfl hc h2
  exact⟨v,_, .inl ⟨hw,p1⟩,p2.put (λ_=>p3),k1,Ag.put ⟨λn hn=>by rw[k3];exact h1.t n hn,by rw[k3];exact h1.tl,by rw[k4];exact h1.fr,h1.m.trans k5⟩ (λn e=> .inl e)⟩
 ·exact⟨undef,_, .inr ⟨hw,rfl⟩,r1.put (x:= .l .und) (v:=undef) (λ_=>rfl),h2,h1.put (λn e=> .inl e)⟩
def Qi (G:Good P g Y TI FZ){al:List Oper}{Q:Exit->Act->World->Prop}{D:Nat->Prop}:∀(l:List Oper) (s:St U) (K:St U->Option α) (z:α),(∀o∈l,∀n,Wr al o n->D n)->ops Y TI FZ al l s K=some z->
  ∀(rest:List Oper),(∀s' a w β,Ag D s s'->K s'=some z->bE Y.C E s' a w β->wpList P al.toArray Q rest a w)->∀a w β,bE Y.C E s a w β->wpList P al.toArray Q (l++rest) a w
 |[],s,K,z,_,h,rest,hk,a,w,β,r=>hk s a w β (Ag.refl s) h r
 |o::l,s,K,z,hD,h,rest,hk,a,w,β,r=>by
  simp only[ops] at h
  refine wpList_step λK' hK'=>aQ6 G r h λs' a' w' β' q1 q2 q3 _=>hK' _ _ ?_
  have q1':=q1.mono (hD o (by simp))
  exact Qi G l s' K z (λo ho=>hD o (by simp[ho])) q2 rest (λs2 a2 w2 β2 p1 p2 p3=>hk s2 a2 w2 β2 (q1'.trans p1) p2 p3) a' w' β' q3
end
end Go.EV

namespace Go.EV
open Go.RowKit Go.VK
variable {U:Uni} {Y:Lay U} {TI:List (Nat×TInfo)} {FZ:List (Nat×Sum U)} {P:Program} {g:GI} {E:Env U g}
def Env.frm (E:Env U g)(l:List (World×Nat×Nat)):Env U g:=⟨E.X0,E.Y0,E.w0,E.prm,l,E.h0,E.hY,E.hXY,E.hg,E.pin⟩
section
variable {C:Cod U} {s:St U} {a:Act} {w w':World} {β:List Tr}
def bE.frame (r:bE C E s a w β)(hp:E.prm=[]):bE C (E.frm [(w,s.m.o.length,s.m.k)]) s a w β:=by
 have H:=r.hp
 refine⟨⟨H.ext,H.len,H.vers,H.cnt,H.new,H.dist,H.nd,H.ok,H.pin,λx hx=> ?_,λf hf=> ?_⟩,r.defers,r.tsz,r.tm⟩
 ·have hx':x∈E.prm:=hx
  rw[hp] at hx';simp at hx'
 ·have hf':f∈[(w,s.m.o.length,s.m.k)]:=hf
  simp at hf';subst hf'
  refine⟨aj _,aj _,aj _, .inr ⟨Ext.refl w,λi t b hi ht _=> ?_⟩⟩
  have h1:=lt_of_some ht
  have h2:s.m.o.length<=i:=hi
  rw[H.len] at h1;omega
def bE.aCF {l:List (World×Nat×Nat)}(r:bE C (E.frm l) s a w β)(hE:E.fr=[]):bE C E s a w β:=by
 have H:=r.hp
 exact⟨⟨H.ext,H.len,H.vers,H.cnt,H.new,H.dist,H.nd,H.ok,H.pin,λx hx=>by
  obtain⟨h1,h2,_,h4⟩:=H.prm x hx
  exact⟨h1,h2,by rw[hE];simp,h4⟩,by rw[hE];simp⟩,r.defers,r.tsz,r.tm⟩
def aTt:∀{n k:Nat} {o:List (EO U)},unt n k o=true->∀(j:Nat) (e:EO U),j<n->o[j]? =some e->e.cv<=k
 |0,_,_,_,j,_,h,_=>by omega
 |_+1,_,[],_,j,e,_,h=>by simp at h
 |n+1,k,x::o,h,j,e,hj,he=>by
  simp only[unt,aa] at h
  cases j with
  |zero=>have:=ak he;subst this;exact bc h.1
  |succ j=>exact aTt h.2 j e (by omega) (by simpa using he)
def bE.unt (r:bE C E s a w β){f:World×Nat×Nat}(hf:f∈E.fr)(h:unt f.2.1 f.2.2 s.m.o=true):Ext f.1 w:=by
 obtain⟨_,_,_,h3⟩:=r.hp.fr f hf
 rcases h3 with⟨j,e,h1,h2,h3⟩|⟨h3,_⟩
 ·have:=aTt h j e h1 h2;omega
 ·exact h3
def Env.ahd (E:Env U g)(b:Nat)(blk:Obj)(hb:E.w0.heap.size<=b):Env U g:=
 ⟨λb'=>E.X0 b'\/b'=b,E.Y0,E.w0,(b,blk)::E.prm,E.fr,λb' h=>by
  rcases h with h|rfl
  ·rcases E.h0 b' h with h|⟨x,hx,e⟩
   ·exact .inl h
   ·exact .inr ⟨x,by simp[hx],e⟩
  ·exact .inr ⟨(b',blk),de,rfl⟩,E.hY,λb' h hy=>by
  rcases h with h|rfl
  ·exact E.hXY b' h hy
  ·have:=E.hY _ hy;omega,E.hg,E.pin⟩
def aY1 {b:Nat}{blk:Obj}{hb:E.w0.heap.size<=b}{β:List Tr}{b':Nat}:(E.ahd b blk hb).X β b'↔E.X β b'\/b'=b:=by
 unfold Env.X
 constructor
 ·rintro((h|h)|h|h)
  ·exact .inl (.inl h)
  ·exact .inr h
  ·exact .inl (.inr (.inl h))
  ·exact .inl (.inr (.inr h))
 ·rintro((h|h|h)|h)
  ·exact .inl (.inl h)
  ·exact .inr (.inl h)
  ·exact .inr (.inr h)
  ·exact .inl (.inr h)
def bE.ahead (r:bE C E s a w β){blk:Obj}(hb:E.w0.heap.size<=w.heap.size):bE C (E.ahd w.heap.size blk hb) s a (w.alloc blk) β:=by
 have H:=r.hp
 have he:Ext w (w.alloc blk):=Ext.alloc _ _
 have hbs:(w.alloc blk).heap[w.heap.size]? =some blk:=by show(w.heap.push blk)[w.heap.size]? =some blk;simp
 have ev:Evo w (w.alloc blk) (E.X β) ((E.ahd w.heap.size blk hb).X β) β β s.m s.m s.m.o.length s.m.ns.length s.m.k:=⟨he.size,λb hb' h=>(aY1.1 h).resolve_right (by omega),λ_ _ _ h=>he.cell h,aj _,λa i f _ h=>⟨f,h⟩,λi e t _ h1 h2=>⟨e,t,h1,h2,λ_=>⟨rfl,rfl⟩,λ_=>⟨rfl,rfl,rfl,λb hb=>he.block b (H.new i t b h2 hb).2⟩,λh=>⟨h,rfl⟩⟩⟩
 refine⟨⟨H.ext.trans (Bel.aBN he),H.len,H.vers,H.cnt,λi t b h1 h2=>⟨(H.new i t b h1 h2).1,cf (H.new i t b h1 h2).2 he.size⟩,H.dist,H.nd,λi t e h1 h2=>Ob.aBF ev (H.ok i t e h1 h2) λb hb=>he.block b (H.new i t b h1 hb).2,λx hx=>Sv.aAU ev (H.pin x hx),λx hx=> ?_,λf hf=> ?_⟩,r.defers,r.tsz,λn x hx=>Sv.aAU ev (r.tm n x hx)⟩
 ·have hx':x∈(w.heap.size,blk)::E.prm:=hx
  rcases ba.1 hx' with rfl|hx'
  ·refine⟨hb,hbs,λf hf=> ?_,λi t ht hm=> ?_⟩
   ·exact(H.fr f hf).2.2.1
   ·have:=(H.new i t _ ht hm).2;omega
  ·obtain⟨h1,h2,h3,h4⟩:=H.prm x hx'
   exact⟨h1,(he.block _ (bv.1 h2).1).trans h2,h3,h4⟩
 ·obtain⟨h1,h2,h0,h3⟩:=H.fr f hf
  exact⟨h1,h2,bq h0 he.size,h3.imp id λq=>⟨q.1.trans he,q.2⟩⟩
def bE.aDP {b:Nat}{blk:Obj}{hb:E.w0.heap.size<=b}(r:bE C (E.ahd b blk hb) s a w β):bE C E s a w β:=by
 have H:=r.hp
 have ev:Evo w w ((E.ahd b blk hb).X β) (E.X β) β β s.m s.m s.m.o.length s.m.ns.length s.m.k:=⟨aj _,λb _ hb=>aY1.2 (.inl hb),λ_ _ _ h=>h,aj _,λa i f _ h=>⟨f,h⟩,λi e t _ h1 h2=>⟨e,t,h1,h2,λ_=>⟨rfl,rfl⟩,λ_=>⟨rfl,rfl,rfl,λb hb=>rfl⟩,λh=>⟨h,rfl⟩⟩⟩
 exact⟨⟨H.ext,H.len,H.vers,H.cnt,H.new,H.dist,H.nd,λi t e h1 h2=>Ob.aBF ev (H.ok i t e h1 h2) λb hb=>rfl,λx hx=>Sv.aAU ev (H.pin x hx),λx hx=>H.prm x (cY _ hx),H.fr⟩,r.defers,r.tsz,λn x hx=>Sv.aAU ev (r.tm n x hx)⟩
def bE.aCZ {b:Nat}{blk:Obj}{hb:E.w0.heap.size<=b}(r:bE C (E.ahd b blk hb) s a w β)(hP:E.prm=[]){e':EO U}{t':Tr}{k':Nat}(hk:s.m.k<=k')(hv:e'.rv<=k'/\e'.cv<=k')(ht:t'.all=[b])
  (hok:Evo w w ((E.ahd b blk hb).X β) (E.X (β++[t'])) β (β++[t']) s.m ⟨s.m.o++[e'],k',s.m.ns⟩ s.m.o.length s.m.ns.length s.m.k->w.heap[b]? =some blk->e'.ob.ok C w (E.X (β++[t'])) (β++[t']) ⟨s.m.o++[e'],k',s.m.ns⟩ t'):
  bE C E ⟨s.t,⟨s.m.o++[e'],k',s.m.ns⟩,s.fr⟩ a w (β++[t']):=by
 have H:=r.hp
 have hlen:=H.len
 obtain⟨_,p2,p3,p4⟩:=H.prm (b,blk) de
 have hbl:b<w.heap.size:=(bv.1 p2).1
 have ev:Evo w w ((E.ahd b blk hb).X β) (E.X (β++[t'])) β (β++[t']) s.m ⟨s.m.o++[e'],k',s.m.ns⟩ s.m.o.length s.m.ns.length s.m.k:=by
  refine⟨aj _,λb' _ h=>aY1.2 ?_,λ_ _ _ h=>h,hk,λa i f _ h=>⟨f,h⟩,λi e t hi he ht'=>⟨e,t,?_,?_,λ_=>⟨rfl,rfl⟩,λ_=>⟨rfl,rfl,rfl,λ_ _=>rfl⟩,λh=>⟨h,rfl⟩⟩⟩
  ·rcases h with h|h|⟨u,hu,hm⟩
   ·exact .inl (.inl h)
   ·exact .inl (.inr (.inl h))
   ·rcases bw.1 hu with hu|hu
    ·exact .inl (.inr (.inr ⟨u,hu,hm⟩))
    ·simp at hu;subst hu;rw[ht] at hm;simp at hm;exact .inr hm
  ·exact(aq hi).trans he
  ·exact(aq (lt_of_some ht')).trans ht'
 have hb':∀(i:Nat) (t:Tr),(β++[t'])[i]? =some t->β[i]? =some t\/(i=β.length/\t=t'):=λi t h=>by
  by_cases hi:i<β.length
  ·rw[aq hi] at h;exact .inl h
  ·have:=lt_of_some h
   simp at this
   have e:i=β.length:=by omega
   subst e;simp at h;exact .inr ⟨rfl,h.symm⟩
 have ho':∀(i:Nat) (e:EO U),(s.m.o++[e'])[i]? =some e->s.m.o[i]? =some e\/(i=s.m.o.length/\e=e'):=λi e h=>by
  by_cases hi:i<s.m.o.length
  ·rw[aq hi] at h;exact .inl h
  ·have:=lt_of_some h
   simp at this
   have e1:i=s.m.o.length:=by omega
   subst e1;simp at h;exact .inr ⟨rfl,h.symm⟩
 refine⟨⟨H.ext,by simp[hlen],λi e he=> ?_,H.cnt,λi t x h1 h2=> ?_,λi j t u x hij h1 h2 h3 h4=> ?_,λi t h1=> ?_,λi t e h1 h2=> ?_,λx hx=>Sv.aAU ev (H.pin x hx),λx hx=>by rw[hP] at hx;simp at hx,λf hf=> ?_⟩,r.defers,r.tsz,λn x hx=>Sv.aAU ev (r.tm n x hx)⟩
 ·rcases ho' i e he with h|⟨_,rfl⟩
  ·have:=H.vers i e h;exact⟨bq this.1 hk,bq this.2 hk⟩
  ·exact hv
 ·rcases hb' i t h1 with h|⟨_,rfl⟩
  ·exact H.new i t x h h2
  ·rw[ht] at h2;simp at h2;subst h2;exact⟨.inl hb,hbl⟩
 ·rcases hb' i t h1 with h|⟨ei,rfl⟩<;>rcases hb' j u h2 with h'|⟨ej,rfl⟩
  ·exact H.dist i j t u x hij h h' h3 h4
  ·rw[ht] at h4;simp at h4;subst h4;exact p4 i t h h3
  ·rw[ht] at h3;simp at h3;subst h3;exact p4 j u h' h4
  ·exact hij (ei.trans ej.symm)
 ·rcases hb' i t h1 with h|⟨_,rfl⟩
  ·exact H.nd i t h
  ·rw[ht];simp
 ·rcases hb' i t h1 with h|⟨ei,rfl⟩
  ·rcases ho' i e h2 with h'|⟨ei,_⟩
   ·exact Ob.aBF ev (H.ok i t e h h') λ_ _=>rfl
   ·have:=lt_of_some h;rw[hlen] at this;omega
  ·rcases ho' i e h2 with h'|⟨_,rfl⟩
   ·have:=lt_of_some h';rw[hlen] at ei;omega
   ·exact hok ev p2
 ·obtain⟨h1,h2,h0,h3⟩:=H.fr f hf
  refine⟨by simp;omega,bq h2 hk,h0,?_⟩
  rcases h3 with⟨j,e,q1,q2,q3⟩|⟨q1,q2⟩
  ·exact .inl ⟨j,e,q1,(aq (lt_of_some q2)).trans q2,q3⟩
  ·refine .inr ⟨q1,λi t x hi h1 hx=> ?_⟩
   rcases hb' i t h1 with h|⟨_,rfl⟩
   ·exact q2 i t x hi h hx
   ·rw[ht] at hx;simp at hx;subst hx;exact p3 f hf
def mkF (op:Op)(b:Nat):Value:=match op with
 | .buildSlice _ n _=> .slice (some ⟨b,0,none⟩) n n
 |_=> .pointer (some ⟨b,0,none⟩)
def Flp (P:Program)(a:Act)(o:Oper)(blk:Obj):Prop:=∀w:World,(execOp a.eval o).run P w= .ok (.value (mkF o.op w.heap.size)) (w.alloc blk)
def aWk {γ:Type}{x:Option γ}(h:(!Bq x)=true):∃y,x=some y:=by
 cases x with
 |none=>cases h
 |some y=>exact⟨y,rfl⟩
def Vk (hTI:oO P TI=true){o:Oper}{T:TypeId}{i:TInfo}(ho:o.op= .alloc T)(hf:iE TI T=some i):∃vs:Array Value,Flp P a o (.cells vs T)/\∀(w:World) (X:Nat->Prop) (β:List Tr) (m:Mm U),Ms Y.C w X β m vs.toList (i.z.map Kz.lf):=by
 obtain⟨j,z,k3,k4,k5⟩:=aGk (bP hTI hf)
 refine⟨z.cells,λw=> ?_,λw X β m=>Kw k5⟩
 simp[execOp,ho,Instr.alloc,zeroValue,typeInfo,k3,k4,newVar,newRow,mkF]
def Lb {T:TypeId}(h:yR Y TI s (.alloc T)=true):∃i,iE TI T=some i:=aWk h
def Lc {t:TypeId}{n:Nat}{ps:Array (Nat×Operand)}(h:yR Y TI s (.buildSlice t n ps)=true):∃e ek eb k zz l d,iE TI t=some ⟨.sl e ek eb,k,zz⟩/\ps.toList.length=n/\n*ek<=16777216/\Fa (U:=U) e ek e=true/\Kt Y s e 0 ps.toList=some (l,[],d):=by
 unfold yR at h
 simp only at h
 split at h
 ·rename_i e ek eb k zz h1
  simp only[aa,bH] at h
  obtain⟨q1,q2,q3,q4⟩:=h
  split at q4
  ·rename_i l d h5
   exact⟨e,ek,eb,k,zz,l,d,h1,ah q1,bc q2,q3,h5⟩
  ·cases q4
 ·cases h
def aAs (hTI:oO P TI=true)(hY:LayOk Y)(r:bE Y.C E s a w β){o:Oper}{t:TypeId}{n e ek eb k:Nat}{zz:List Kz}{ps:Array (Nat×Operand)}{l:List (U.El e)}{d:Bool}(ho:o.op= .buildSlice t n ps)
  (h1:iE TI t=some ⟨.sl e ek eb,k,zz⟩) (h2:ps.toList.length=n) (h3:n*ek<=16777216) (h4:Fa (U:=U) e ek e=true) (h5:Kt Y s e 0 ps.toList=some (l,[],d)):
  ∃cells:Array Value,Flp P a o (.cells cells e)/\0<U.K e/\n<=maxLen/\l.length=n/\cells.size=n*U.K e/\OwL Y.C w (E.X β) d cells.toList (l.map (Y.C.cel e)).flatten []:=by
 have hsl:=(yS (bP hTI h1) rfl).1
 obtain⟨_,_,_,_,_,_,_,_,hk0⟩:=eX hsl
 simp only[Fa,aa] at h4
 have hKe:U.K e=ek:=ah h4.2
 obtain⟨vs,k1,k2,k3,k4,k5⟩:=Fp hY r h5
 rw[hKe] at k4
 have hnm:n<=maxLen:=by
  have:n*1<=n*ek:=fo _ hk0
  unfold maxLen;omega
 refine⟨(vs.map λv=>v.cells.toList).flatten.toArray,λw=> ?_,by rw[hKe];exact hk0,hnm,k3.trans h2,?_,by rw[List.toList_toArray];exact k5⟩
 ·obtain⟨cells,q1,q2⟩:=Vg (w:=w) hsl (k2.trans h2) h3 k1 k4 ho
  have:cells=(vs.map λv=>v.cells.toList).flatten.toArray:=by rw[<-q2]
  rw[q1,<-this];simp only[mkF,ho]
 ·have:=k5.len
  rw[Bp (Y.C.hlen e),k3,h2] at this
  simpa using this
def aOq (G:Good P g Y TI FZ)(r:bE Y.C E s a w β){o:Oper}(h:yR Y TI s o.op=true):∃blk,Flp P a o blk:=by
 cases ho:o.op with
 |alloc T=>
  rw[ho] at h
  obtain⟨i,hf⟩:=Lb h
  obtain⟨vs,k,_⟩:=Vk (Y:=Y) (a:=a) G.ti ho hf
  exact⟨_,k⟩
 |buildSlice t n ps=>
  rw[ho] at h
  obtain⟨e,ek,eb,k,zz,l,d,h1,h2,h3,h4,h5⟩:=Lc h
  obtain⟨cells,q,_⟩:=aAs G.ti G.lay r ho h1 h2 h3 h4 h5
  exact⟨_,q⟩
 |_=>rw[ho] at h;cases h
def Flp.keep {o:Oper}{blk:Obj}(h:Flp P a o blk){d:Option Nat}{v:Value}(hd:aV9 o d=true):Flp P (a.put d v) o blk:=by
 have e:execOp (a.put d v).eval o=execOp a.eval o:=by
  cases d with
  |none=>rfl
  |some n=>
   have hd2:(match o.op with
    | .alloc _=>true
    | .buildSlice _ _ ps=>ps.toList.all λx=>match x.2 with| .tmp m=> !Nat.beq n m|_=>true
    |_=>false)=true:=hd
   cases ho:o.op with
   |alloc T=>simp only[execOp,ho]
   |buildSlice t m ps=>
    rw[ho] at hd2
    simp only[cG] at hd2
    have:ps.map (λ(i,x)=>(i,(a.put (some n) v).eval x))=ps.map (λ(i,x)=>(i,a.eval x)):=by
     apply Array.map_congr_left
     intro x hx
     have:=hd2 x (by simpa using hx)
     obtain⟨i,x⟩:=x
     simp only[cU,true_and]
     refine Act.eval_put λd hd hxd=> ?_
     have hd':=ak hd
     subst hd';subst hxd
     simp at this
    simp only[execOp,ho,this]
   |_=>rw[ho] at hd2;cases hd2
 intro w
 rw[e];exact h w
def bA1 {w:World}{x y:Obj}(h:w.alloc x=w.alloc y):x=y:=by
 have h1:w.heap.push x=w.heap.push y:=congrArg World.heap h
 have h2:(w.heap.push x)[w.heap.size]? =(w.heap.push y)[w.heap.size]? :=by rw[h1]
 simpa using h2
def Flp.inj {o:Oper}{x y:Obj}(w:World)(h1:Flp P a o x)(h2:Flp P a o y):x=y:=by
 have:=(h1 w).symm.trans (h2 w)
 injection this with _ h
 exact bA1 h
def bA2 (G:Good P g Y TI FZ){b:Nat}{blk:Obj}{hb:E.w0.heap.size<=b}(r:bE Y.C (E.ahd b blk hb) s a w β)(hP:E.prm=[]){o:Oper}(hf:Flp P a o blk)(hg:yR Y TI s o.op=true){α:Type}{K:Sv U->St U->Option α}{z:α}(h:stp Y TI FZ s o.op K=some z):
  ∃x s' β',K x s'=some z/\bE Y.C E s' a w β'/\x.mean Y.C w (E.X β') β' s'.m (mkF o.op b)/\s'.t=s.t/\s'.fr=s.fr/\Am s.m s'.m:=by
 have hlen:=r.hp.len
 cases ho:o.op with
 |alloc T=>
  rw[ho] at hg h
  obtain⟨i,hi⟩:=Lb hg
  obtain⟨vs,k,hM⟩:=Vk (Y:=Y) (a:=a) G.ti ho hi
  have hblk:=hf.inj w k
  subst hblk
  have h':K (.l (.box (len s.m.o) 0)) (psh s (.box T (i.z.map Kz.lf) (i.z.map λ_=>s.m.k)))=some z:=by
   have:stp Y TI FZ s (.alloc T) K=match iE TI T with
    |some i=>K (.l (.box (len s.m.o) 0)) (psh s (.box T (i.z.map Kz.lf) (i.z.map λ_=>s.m.k)))
    |none=>none:=rfl
   rw[this,hi] at h;exact h
  have r':=r.aCZ hP (e':=⟨.box T (i.z.map Kz.lf) (i.z.map λ_=>s.m.k),s.m.k,s.m.k⟩) (t':=⟨some b,0,0,[]⟩) (aj _) ⟨aj _,aj _⟩ rfl (λhev hbk=>⟨by simp,b,vs.toList,rfl,rfl,by simpa using hbk,hM _ _ _ _⟩)
  refine⟨_,_,_,h',r',⟨rfl,⟨.box T (i.z.map Kz.lf) (i.z.map λ_=>s.m.k),s.m.k,s.m.k⟩,⟨some b,0,0,[]⟩,?_,?_,λ_=>⟨_,rfl,rfl⟩⟩,rfl,rfl,Am.add _ _⟩
  ·simp[psh,bH]
  ·rw[ay (by rw[hlen,bH];exact aj _),hlen,bH];simp
 |buildSlice t n ps=>
  rw[ho] at hg h
  obtain⟨e,ek,eb,k,zz,l,d,h1,h2,h3,h4,h5⟩:=Lc hg
  obtain⟨cells,q1,q2,q3,q4,q5,q6⟩:=aAs G.ti G.lay r ho h1 h2 h3 h4 h5
  have hblk:=hf.inj w q1
  subst hblk
  cases hpl:(!Bq (iE FZ 3000000)&&(!Nat.beq n 0&&aV4 ([]:List Nat))) with
  |true=>
  have h':K (.l (.sl e l)) s=some z:=by
   have:stp Y TI FZ s (.buildSlice t n ps) K=bif Nat.beq (len ps.toList) n&&(Nat.ble (n*ek) 16777216&&Fa (U:=U) e ek e) then(bif !Bq (iE FZ 3000000)&&(!Nat.beq n 0&&aV4 ([]:List Nat)) then K (.l (.sl e l)) s else bif dist (len s.m.o::[]) then K (.l (.own (len s.m.o) s.m.k)) ⟨s.t,⟨upd (s.m.o++[⟨.dead,s.m.k,s.m.k⟩]) (len s.m.o) ⟨.tree e d l,s.m.k,Nat.succ s.m.k⟩,Nat.succ s.m.k,s.m.ns⟩,s.fr⟩ else none) else none:=by
    show(match iE TI t with
     |some ⟨.sl e ek _,_,_⟩=>_
     |_=>none)=_
    rw[h1]
    simp only
    rw[h5]
    rfl
   rw[hpl] at this
   rw[this,bH,h2] at h
   rw[show Nat.beq n n=true from dn n,d8 h3,h4] at h
   simpa using h
  obtain⟨_,p2,_,p4⟩:=r.hp.prm (b, .cells cells e) de
  refine⟨_,_,β,h',r.aDP,?_,rfl,rfl,Am.refl _⟩
  refine Ow.rd (X:=(E.ahd b (.cells cells e) hb).X β) (Z:=E.X β) (λx hx=>aY1.2 (.inl hx)) (Ow.sl ⟨some b,n,n,[]⟩ q2 (by
   exact⟨by rw[q4,cx,q5], .inr ⟨b,n,cells,by rw[q4];rfl,cw _,p2,by rw[q4];exact aj _,q3,q5,by rw[q4];exact dy (by rw[cx,q5];exact aj _)⟩⟩) q6) (λx hx hX=> ?_)
  simp[Tr.all] at hx
  subst hx
  rcases hX with hX|hX|⟨u,hu,hm⟩
  ·rcases E.h0 _ hX with hX|⟨y,hy,_⟩
   ·omega
   ·rw[hP] at hy;simp at hy
  ·have:=E.hY _ hX;omega
  ·obtain⟨i,hi⟩:=cV.1 hu
   exact p4 i u hi hm
  |false=>
  have hst:∀o':List (EO U),o'=s.m.o++[(⟨.tree e d l,s.m.k,Nat.succ s.m.k⟩:EO U)]->K (.l (.own (len s.m.o) s.m.k)) ⟨s.t,⟨o',Nat.succ s.m.k,s.m.ns⟩,s.fr⟩=some z:=λo' ho'=>by
   have:stp Y TI FZ s (.buildSlice t n ps) K=bif Nat.beq (len ps.toList) n&&(Nat.ble (n*ek) 16777216&&Fa (U:=U) e ek e) then(bif dist (len s.m.o::[]) then K (.l (.own (len s.m.o) s.m.k)) ⟨s.t,⟨upd (s.m.o++[⟨.dead,s.m.k,s.m.k⟩]) (len s.m.o) ⟨.tree e d l,s.m.k,Nat.succ s.m.k⟩,Nat.succ s.m.k,s.m.ns⟩,s.fr⟩ else none) else none:=by
    show(match iE TI t with
     |some ⟨.sl e ek _,_,_⟩=>_
     |_=>none)=_
    rw[h1]
    simp only
    rw[h5]
    simp only[hpl,ab]
    rfl
   rw[this,bH,h2] at h
   rw[show Nat.beq n n=true from dn n,d8 h3,h4] at h
   simp only[dw,ae] at h
   have hd:dist [len s.m.o]=true:=rfl
   rw[hd] at h
   simp only[ae] at h
   rw[bX,bH,fc _ _ (aj _),fj] at h
   rw[ho',bH];exact h
  have r':=r.aCZ hP (e':=⟨.tree e d l,s.m.k,Nat.succ s.m.k⟩) (t':=⟨some b,n,n,[]⟩) (eo _) ⟨eo _,aj _⟩ rfl (λhev hbk=>by
   refine⟨q2,cells.toList,?_,q6.conv (aj _) hev.hX (λ_ _ _ h=>h) (by simp)⟩
   exact⟨by rw[q4,cx,q5], .inr ⟨b,n,cells,by rw[q4];rfl,cw _,hbk,by rw[q4];exact aj _,q3,q5,by rw[q4];exact dy (by rw[cx,q5];exact aj _)⟩⟩)
  refine⟨_,_,_,hst _ rfl,r',⟨⟨eo _,rfl⟩,⟨.tree e d l,s.m.k,Nat.succ s.m.k⟩,⟨some b,n,n,[]⟩,?_,?_,λ_=>rfl⟩,rfl,rfl,?_⟩
  ·simp[bH]
  ·rw[ay (by rw[hlen,bH];exact aj _),hlen,bH];simp
  ·have a1:=(Am.add s.m [(⟨.dead,s.m.k,s.m.k⟩:EO U)]).trans (Am.tree (ids:=[]) (i:=len s.m.o) (τ:=e) (d:=d) (l:=l) (rv:=s.m.k) _)
   have e1:(⟨Qg (Nat.succ s.m.k) [] (upd (s.m.o++[(⟨.dead,s.m.k,s.m.k⟩:EO U)]) (len s.m.o) ⟨.tree e d l,s.m.k,Nat.succ s.m.k⟩),Nat.succ s.m.k,s.m.ns⟩:Mm U)=⟨s.m.o++[⟨.tree e d l,s.m.k,Nat.succ s.m.k⟩],Nat.succ s.m.k,s.m.ns⟩:=by
    rw[bX,bH,fc _ _ (aj _),fj];rfl
   exact e1▸a1
 |_=>rw[ho] at hg;cases hg
end
end Go.EV

namespace Go.EV
open Go.RowKit Go.VK
variable {U:Uni} {C:Cod U} {P:Program} {g:GI} {E:Env U g}
def Ob.bd (N M K:Nat):Ob U->Prop
 | .box _ cs _=>∀c∈cs,c.bd N M K
 |_=>True
def jI (β:List Tr):Option Nat->Tr
 |some i=>match β[i]? with|some t=>t|none=>aAp
 |none=>aAp
inductive Src (N M K:Nat) (m:Mm U) (q:Option Nat) (j:Nat) (e':EO U):Prop
 |keep (hq:q=some j) (he:m.o[j]? =some e') (hb:e'.ob.bd N M K)
 |box (hq:q=some j) {e:EO U} {T:Nat} {cs cs':List (Lf U)} {vs vs':List Nat} (he:m.o[j]? =some e) (h1:e.ob= .box T cs vs) (h2:e'.ob= .box T cs' vs') (l1:cs'.length=cs.length) (l2:cs'.length=vs'.length) (hc:∀(i:Nat) (c:Lf U),cs'[i]? =some c->c= .any\/(cs[i]? =some c/\c.bd N M K)) (hv:K<e'.rv/\K<e'.cv)
 |dead (h:e'.ob= .dead) (hv:K<e'.rv/\K<e'.cv)
 |tree {i:Nat} {e:EO U} {τ:Nat} {d d':Bool} {l:List (U.El τ)} (hq:q=some i) (he:m.o[i]? =some e) (h1:e.ob= .tree τ d' l) (hd:d=true->d'=true) (h2:e'.ob= .tree τ d l) (hv:K<e'.rv/\K<e'.cv)
 |ti {e:EO U} {τ:Nat} {d d':Bool} {l:List (U.El τ)} (hq:q=some j) (he:m.o[j]? =some e) (h1:e.ob= .tree τ d' l) (hd:d=true->d'=true) (h2:e'.ob= .tree τ d l) (hr:e'.rv=e.rv) (hv:K<e'.cv)
 |nil {τ:Nat} {d:Bool} (hq:q=none) (h2:e'.ob= .tree τ d []) (hK:0<U.K τ) (hv:K<e'.rv/\K<e'.cv)
section
variable {m m':Mm U} {w:World} {β:List Tr} {σ:List (Option Nat)} {N M K:Nat}
def D7 {q:Option Nat}{b:Nat}(h:b∈(jI β q).all):∃i t,q=some i/\β[i]? =some t/\jI β q=t:=by
 cases q with
 |none=>simp[jI,nC] at h
 |some i=>
  cases hb:β[i]? with
  |none=>simp[jI,hb,nC] at h
  |some t=>exact⟨i,t,rfl,hb,by simp[jI,hb]⟩
def Hp.ren (H:Hp C E m β w)(hl:σ.length=m'.o.length)(hN:N<=m'.o.length)(hinj:∀(j j' i:Nat),σ[j]? =some (some i)->σ[j']? =some (some i)->j=j')(hk:K<=m'.k)
  (hver:∀(i:Nat) (e:EO U),m'.o[i]? =some e->e.rv<=m'.k/\e.cv<=m'.k) (hcnt:∀(a i:Nat),m'.ns[a]? =some (i,true)->(i:Int)+1<=9223372036854775807)
  (hn:∀(a i:Nat) (f:Bool),a<M->m.ns[a]? =some (i,f)->∃f',m'.ns[a]? =some (i,f'))
  (hs:∀(j:Nat) (q:Option Nat) (e':EO U),σ[j]? =some q->m'.o[j]? =some e'->Src N M K m q j e') (hpin:∀x∈E.pin,x.1.bd N M K) (hfr:E.fr=[]):
  Hp C E m' (σ.map (jI β)) w/\Evo w w (E.X β) (E.X (σ.map (jI β))) β (σ.map (jI β)) m m' N M K:=by
 have hget:∀(j:Nat) (t:Tr),(σ.map (jI β))[j]? =some t->∃q,σ[j]? =some q/\t=jI β q:=λj t h=>by
  rw[bg] at h
  cases hq:σ[j]? with
  |none=>simp[hq] at h
  |some q=>simp only[hq,cJ,ai] at h;exact⟨q,rfl,h.symm⟩
 have hX:∀b,E.X (σ.map (jI β)) b->E.X β b:=by
  rintro b (h|h|⟨t,ht,hb⟩)
  ·exact .inl h
  ·exact .inr (.inl h)
  ·obtain⟨q,_,rfl⟩:=cg.1 ht
   obtain⟨i,t,_,h2,h3⟩:=D7 hb
   rw[h3] at hb
   exact .inr (.inr ⟨t,az h2,hb⟩)
 have hev:Evo w w (E.X β) (E.X (σ.map (jI β))) β (σ.map (jI β)) m m' N M K:=by
  refine⟨aj _,λb _=>hX b,λ_ _ _ h=>h,hk,λa i f ha h=>hn a i f ha h,λi e t hi he ht=> ?_⟩
  have hi':i<m'.o.length:=cf hi hN
  have h1:m'.o[i]? =some m'.o[i]:=ac hi'
  have h2:σ[i]? =some (σ[i]'(by omega)):=ac _
  have h3:(σ.map (jI β))[i]? =some (jI β (σ[i]'(by omega))):=by rw[bg,h2];rfl
  refine⟨_,_,h1,h3,?_⟩
  have hsr:=hs i _ _ h2 h1
  have big:K<(m'.o[i]).rv/\K<(m'.o[i]).cv->(m'.o[i]).ob.aAX=false->((m'.o[i]).rv<=K->(m'.o[i]).rv=e.rv/\(jI β (σ[i]'(by omega))).val=t.val)/\((m'.o[i]).cv<=K->(m'.o[i]).cv=e.cv/\(m'.o[i]).ob=e.ob/\jI β (σ[i]'(by omega))=t/\∀b∈t.all,w.heap[b]? =w.heap[b]?)/\((m'.o[i]).ob.aAX=true->e.ob.aAX=true/\(jI β (σ[i]'(by omega))).b=t.b):=λhv hb=>
   ⟨λh=>absurd h (by omega),λh=>absurd h (by omega),λh=>by rw[hb] at h;cases h⟩
  cases hsr with
  |keep hq he' hb=>
   rw[he] at he'
   have e0:e=m'.o[i]:=ak he'
   have e1:jI β (σ[i]'(by omega))=t:=by rw[hq];simp[jI,ht]
   rw[e1,<-e0]
   exact⟨λ_=>⟨rfl,rfl⟩,λ_=>⟨rfl,rfl,rfl,λ_ _=>rfl⟩,λh=>⟨h,rfl⟩⟩
  |box hq he' q1 q2 _ _ _ hv=>
   rw[he] at he'
   have e0:=ak he'
   have e1:jI β (σ[i]'(by omega))=t:=by rw[hq];simp[jI,ht]
   rw[e1]
   refine⟨λh=>absurd h (by omega),λh=>absurd h (by omega),λ_=>⟨?_,rfl⟩⟩
   rw[e0,q1];rfl
  |dead h hv=>exact big hv (by rw[h];rfl)
  |tree _ _ _ _ h hv=>exact big hv (by rw[h];rfl)
  |ti hq he' _ _ h hr hv=>
   rw[he] at he'
   have e0:=ak he'
   have e1:jI β (σ[i]'(by omega))=t:=by rw[hq];simp[jI,ht]
   rw[e1,e0]
   exact⟨λ_=>⟨hr,rfl⟩,λh=>absurd h (by omega),λhb=>by rw[h] at hb;cases hb⟩
  |nil _ h _ hv=>exact big hv (by rw[h];rfl)
 refine⟨⟨H.ext,by rw[bl,hl],hver,hcnt,?_,?_,?_,?_,λx hx=>Sv.aAY hev (hpin x hx) (H.pin x hx),λx hx=> ?_,λf hf=>by rw[hfr] at hf;simp at hf⟩,hev⟩
 ·intro j t b ht hb
  obtain⟨q,_,rfl⟩:=hget j t ht
  obtain⟨i,t,_,h2,h3⟩:=D7 hb
  rw[h3] at hb
  exact H.new i t b h2 hb
 ·intro j j' t u b hjj ht hu hb hub
  obtain⟨q,hq,rfl⟩:=hget j t ht
  obtain⟨q',hq',rfl⟩:=hget j' u hu
  obtain⟨i,t,e1,h2,h3⟩:=D7 hb
  obtain⟨i',t',e1',h2',h3'⟩:=D7 hub
  rw[h3] at hb;rw[h3'] at hub
  refine H.dist i i' t t' b (λe=>hjj ?_) h2 h2' hb hub
  subst e;subst e1;subst e1'
  exact hinj j j' i hq hq'
 ·intro j t ht
  obtain⟨q,hq,rfl⟩:=hget j t ht
  cases q with
  |none=>rw[show jI β none=aAp from rfl,nC];exact fh
  |some i=>
   cases hb:β[i]? with
   |none=>simp[jI,hb,nC]
   |some t=>simp only[jI,hb];exact H.nd i t hb
 ·intro j t e' ht he'
  obtain⟨q,hq,rfl⟩:=hget j t ht
  cases hs j q e' hq he' with
  |keep hq he hb=>
   subst hq
   obtain⟨t,ht⟩:=H.tr he
   simp only[jI,ht]
   have hok:=H.ok j t e' ht he
   generalize e'.ob=x at hok hb ⊢
   cases x with
   |dead=>trivial
   |box T cs us=>
    obtain⟨h0,b,vs,h1,h2,h3,h4⟩:=hok
    exact⟨h0,b,vs,h1,h2,h3,h4.evo hev hb⟩
   |tree τ d l=>
    obtain⟨h1,xs,h2,h3⟩:=hok
    exact⟨h1,xs,h2,h3.conv (aj _) (λb _=>hX b) (λ_ _ _ h=>h) (λ_ _=>rfl)⟩
  |box hq he h1 h2 l1 l2 hc hv=>
   subst hq
   obtain⟨t,ht⟩:=H.tr he
   simp only[jI,ht]
   have hok:=H.ok j t _ ht he
   rw[h1] at hok
   rw[h2]
   obtain⟨h0,b,vs,k1,k2,k3,k4⟩:=hok
   refine⟨l2,b,vs,k1,k2,k3,by rw[k4.1,l1],λi v c hv hc'=> ?_⟩
   rcases hc i c hc' with rfl|⟨hc1,hc2⟩
   ·trivial
   ·exact Lf.aAY hev hc2 (k4.2 i v c hv hc1)
  |dead h hv=>rw[h];trivial
  |tree hq he h1 hd h2 hv=>
   subst hq
   obtain⟨t,ht⟩:=H.tr he
   simp only[jI,ht]
   have hok:=H.ok _ t _ ht he
   rw[h1] at hok
   rw[h2]
   obtain⟨k1,xs,k2,k3⟩:=hok
   exact⟨k1,xs,k2,(k3.fl hd).conv (aj _) (λb _=>hX b) (λ_ _ _ h=>h) (λ_ _=>rfl)⟩
  |ti hq he h1 hd h2 hr hv=>
   subst hq
   obtain⟨t,ht⟩:=H.tr he
   simp only[jI,ht]
   have hok:=H.ok _ t _ ht he
   rw[h1] at hok
   rw[h2]
   obtain⟨k1,xs,k2,k3⟩:=hok
   exact⟨k1,xs,k2,(k3.fl hd).conv (aj _) (λb _=>hX b) (λ_ _ _ h=>h) (λ_ _=>rfl)⟩
  |nil hq h2 hK hv=>
   subst hq
   rw[h2]
   exact⟨hK,[],World.ownsRow_nil w 0 _ _, .n⟩
 ·obtain⟨h1,h2,h3,h4⟩:=H.prm x hx
  refine⟨h1,h2,h3,λj t ht hb=> ?_⟩
  obtain⟨q,_,rfl⟩:=hget j t ht
  obtain⟨i,t,_,q2,q3⟩:=D7 hb
  rw[q3] at hb
  exact h4 i t q2 hb
end
end Go.EV
