import Derived.Test.YtchppgifkkcfpaaGreatDoorEVatop
import Derived.Test.YtchppgifkkcfpaaGreatDoorVKatos
/- Printed by wip/tools: models, walks, proofs. -/
set_option linter.all false
namespace Go.EV
open Go.RowKit Go.VK
variable {U:Uni} {Y:Lay U} {TI:List (Nat×TInfo)} {P:Program} {g:GI} {E:Env U g}
def pJ:Bool×List (Lf U)->V
 |(true,cs)=> .agg (cs.map Lf.toV)
 |(false,[x])=>x.toV
 |_=> .any
def OwP (C:Cod U)(w:World)(v:Value)(B:List Nat):Bool×List (Lf U)->Prop
 |(true,cs)=>∃vs:List Value,v= .agg vs.toArray/\OwL C w (λ_=>False) true vs cs B
 |(false,cs)=>∃c,cs=[c]/\Ow C w (λ_=>False) true v c B
inductive OwPs (C:Cod U) (w:World):List Value->List (Bool×List (Lf U))->List Nat->Prop
 |n:OwPs C w [] [] []
 |c {v:Value} {x:Bool×List (Lf U)} {B B':List Nat} {vs:List Value} {xs:List (Bool×List (Lf U))} (h:OwP C w v B x) (hr:OwPs C w vs xs B'):OwPs C w (v::vs) (x::xs) (B++B')
def OwR (C:Cod U)(w:World)(v:Value)(cps:List (Bool×List (Lf U)))(B:List Nat):Prop:=
 match cps with
 |[x]=>OwP C w v B x
 |xs=>∃vs:List Value,v= .tuple vs.toArray/\OwPs C w vs xs B
def cAb (P:Program)(g:GI)(C:Cod U)(f:FuncId)(Us:List V)(cps:List (Bool×List (Lf U))):Prop:=
 (∀args w,(callFunc f args).run P w= .ok (.enter f args) w)/\
 ∀(w:World) (X:Nat->Prop) (vs:List Value),g.G w->(∀b,X b->b<w.heap.size)->RdL w X vs Us->
  Calls P f vs.toArray w λe w'=>∃v B,e= .returned v/\Ext w w'/\B.Nodup/\(∀b∈B,w.heap.size<=b)/\OwR C w' v cps B
def cDa (P:Program)(g:GI)(C:Cod U)(f:FuncId)(b:Bool)(cs ds:List (Lf U))(u:V)(k:Int):Prop:=
 (∀args w,(callFunc f args).run P w= .ok (.enter f args) w)/\
 ∀(w:World) (v c:Value) (B:List Nat),B.Nodup->(∀w',Bel (·∈B) w w'->g.G w')->OwP C w v B (b,cs)->Rd w (λ_=>False) [] c u->
  Calls P f #[v,c] w λe w'=>e= .returned (.int .i64 k)/\(IntKind.i64.min<=k/\k<=IntKind.i64.max)/\Bel (·∈B) w w'/\∃B',B'.Nodup/\(∀x∈B',x∈B\/w.heap.size<=x)/\OwP C w' v B' (b,ds)
def cDb (P:Program)(g:GI)(f:FuncId)(T:Nat)(cs ds d:List V)(r:V):Prop:=
 (∀args w,(callFunc f args).run P w= .ok (.enter f args) w)/\
 ∀(w:World) (X:Nat->Prop) (b:Nat) (ws vs:List Value),(∀w',Bel (·=b) w w'->g.G w')->(∀x,X x->x<w.heap.size)->X b->w.heap[b]? =some (.cells ws.toArray T (0,0))->RdL w X ws cs->RdL w X vs d->
  Calls P f ((.pointer (some ⟨b,0,none⟩)::vs).toArray) w λe w'=>∃v c,e= .returned v/\Bel (·=b) w w'/\w'.heap[b]? =some (.cells c.toArray T (0,0))/\RdL w' X c ds/\Rd w' X [] v r
def Rb (P:Program)(g:GI)(Y:Lay U)(f:FuncId)(S:Sum U):Prop:=
 ∀(a:fM U S.ar) (r:fM U S.rs),S.m a=some r->
  (S.wt=false->S.fr=false->VK.Spec P g f ((bG Y S.ar a).map pJ) (λv=>v=jC ((bG Y S.rs r).map pJ)))/\(S.wt=false->S.fr=true->cAb P g Y.C f ((bG Y S.ar a).map pJ) (bG Y S.rs r))/\
  (S.wt=true->S.fr=false->∀b cs u e ds c k,bG Y S.ar a=[(b,cs),u]->bG Y S.rs r=[(e,ds),(c,[.int .i64 k])]->cDa P g Y.C f b cs ds (pJ u) k)/\
  (S.wt=true->S.fr=true->∀T ks cs d ds rs,S.ar= .st T::ks->bG Y S.ar a=(true,cs)::d->bG Y S.rs r=(true,ds)::rs->cDb P g f T (cs.map Lf.toV) (ds.map Lf.toV) (d.map pJ) (jC (rs.map pJ)))
section
variable {s:St U} {a:Act} {w w':World} {β:List Tr} {α:Type}
def bB.aCH {C:Cod U}(r:bB C E s a w β){c:List (Nat×Bool)}(hn:∀(a i:Nat) (f:Bool),s.m.ns[a]? =some (i,f)->∃f',c[a]? =some (i,f'))(hc:∀(a i:Nat),c[a]? =some (i,true)->(i:Int)+1<=9223372036854775807):
  bB C E ⟨s.t,⟨s.m.o,s.m.k,c⟩,s.fr⟩ a w β:=by
 obtain⟨h1,h2⟩:=r.hp.step (s':=⟨s.m.o,s.m.k,c⟩) (β':=β) (w':=w) (λ_=>False) (λ_=>False) (ao _) hn hc r.hp.len (ao _) (ao _) rfl rfl rfl (λ_ _ _=>rfl) (λ_ h=>h.elim) (by simp)
  (λj t b d ht _=>by rcases d with h|h;exact h.elim;have:=lt_of_some ht;rw[r.hp.len] at this;omega)
  (λi j t u b hi d _ ht _ _=>by rcases hi with h|h;exact h.elim;have:=lt_of_some ht;rw[r.hp.len] at this;omega)
  (λj t d ht=>by rcases d with h|h;exact h.elim;have:=lt_of_some ht;rw[r.hp.len] at this;omega)
  (by simp_all)
  (by simp)
  (by grind)
 exact r.go h1 h2
def PO (P:Program)(C:Cod U)(E:Env U g)(a:Act)(w:World)(β:List Tr)(o:Oper)(x:Sv U)(s':St U):Prop:=
 ∃v,(∀w',Ext w w'->(execOp a.eval o).run P w'= .ok (.value v) w')/\bB C E s' a w β/\x.mean C w (E.X β) β s'.m v
def SO.aDN {C:Cod U}{o:Oper}{x:Sv U}{s':St U}(h:PO P C E a w β o x s'):SO P C E a w o x s' true:=λK Q hK=>by
 obtain⟨v,h1,h2,c⟩:=h
 grind[wpo,inl,Ext.refl]
theorem bTi (r:bB Y.C E s a w β){o:Oper}{t u:TypeId}{x:Operand}{n:Int}{c i:Nat}(ho:o.op= .binOp .add t x (.const (.int .i64 n)) u)(hn:n=1)(q:xW s x= .l (.nat c))(hc:s.m.ns[c]? =some (i,true)):
  PO P Y.C E a w β o (.l (.nat (len s.m.ns))) ⟨s.t,⟨s.m.o,s.m.k,s.m.ns++[(Nat.succ i,false)]⟩,s.fr⟩:=by
 subst hn;have y:=r.hp.cnt c i hc;have hm:=jR r (x:=x);rw[q] at hm;obtain⟨B,f,k1,k2,k3⟩:=hm;rw[hc] at k1;injection k1 with k1;injection k1 with k1 _;subst k1;have z:bB Y.C E ⟨s.t,⟨s.m.o,s.m.k,s.m.ns++[(Nat.succ i,false)]⟩,s.fr⟩ a w β:=r.aCH (by grind[List.getElem?_append_left,lt_of_some]) (λp j h=>by
  by_cases hl:p<s.m.ns.length
  ·rw[aq hl] at h;exact r.hp.cnt p j h
  grind)
 have A:IntKind.i64.wrap ((i:Int)+1)=((Nat.succ i:Nat):Int):=by rw[IntKind.wrap_i64];omega
 have d:eG s x= .l (.int .i64 (i:Int)):=by grind[rsv,aR,eG]
 have e:eG s (.const (.int .i64 (1:Int)))= .l (.int .i64 (1:Int)):=rfl;obtain⟨v,h1,h2⟩:=lT (P:=P) r (λ_=>add (t:=t) (u:=u) (dI d) (dI e)) o ho;have hv:v= .int .i64 ((Nat.succ i:Nat):Int):=by rw[<-A];exact h2.1
 exact⟨v,h1,z,Nat.succ i,false,by rw[bL];simp,hv,by omega⟩
def aC2 {kd:Kd}{x:Lf U}{v:kd.ty U}(h:bEf kd x=some v):x=cA3 kd v:=by
 cases kd with
 |int k=>
  cases x with
  |int d n=>
   have c:(if d=k then some n else none)=some (show Int from v):=h;split at c
   ·rename_i e;subst e;have:=ak c;subst this;rfl
   ·cases c
  |_=>cases h
 |bool=>
  cases x with
  |bool b=>have c:some b=some (show Bool from v):=h;have:=ak c;subst this;rfl
  |_=>cases h
 |str=>
  cases x with
  |str b=>have c:some b=some (show ByteArray from v):=h;have:=ak c;subst this;rfl
  |_=>cases h
 |sl τ=>
  cases x with
  |sl τ' l=>exact bYo (by assumption)
  |_=>cases h
 |st T=>cases x<;>cases h
def lfs:(ks:List Kd)->fM U ks->List (Lf U)
 |[],_=>[]
 |[k],x=>[cA3 k x]
 |k::c::ks,x=>cA3 k x.1::lfs (c::ks) x.2
def apC {β:Type}:(ks:List Kd)->Cur U β ks->fM U ks->β
 |[],f,_=>f
 |[_],f,x=>f x
 |_::c::ks,f,x=>apC (c::ks) (f x.1) x.2
def bQ3 {β:Type}:∀{ks:List Kd} {f:Cur U β ks} {cs:List (Lf U)} {x:β},fQ ks f cs=some x->∃t:fM U ks,cs=lfs ks t/\x=apC ks f t
 |[],f,[],x,h=>⟨(),rfl,(ak h).symm⟩
 |[],f,_::_,x,h=>by cases h
 |k::ks,f,[],x,h=>by cases h
 |[k],f,[c],x,h=>by
  cases hc:bEf k c with
  |none=>simp[fQ,hc] at h
  |some a=>simp only[fQ,hc] at h;exact⟨a,by rw[aC2 hc];rfl,(ak h).symm⟩
 |[k],f,c::_::_,x,h=>by
  cases hc:bEf k c with
  |none=>simp[fQ,hc] at h
  |some a=>simp[fQ,hc] at h
 |k::d::ks,f,c::cs,x,h=>by
  cases hc:bEf k c with
  |none=>simp[fQ,hc] at h
  |some a=>
   have e:fQ (d::ks) (f a) cs=some x:=by rw[<-h];conv=>rhs;unfold fQ;rw[hc]
   obtain⟨t,rfl,rfl⟩:=bQ3 e;exact⟨(a,t),by rw[aC2 hc];rfl,rfl⟩
def bVw {f:FuncId}{fn:Func}{c:Code}(hf:P.funcs[f]? =some fn)(hb:fn.body=some c)(hn:(fn.name== "runtime.NumGoroutine")=false)(args:Array Value)(w:World):(callFunc f args).run P w= .ok (.enter f args) w:=by simp_all[callFunc]
def bHi {C:Cod U}(H:Hp C E s.m β w){v:Value}{x y:Lf U}{kd:Kd}(hm:x.mean C w (E.X β) β s.m v)(h:rdn s.m kd x=some y){Z:Nat->Prop}(e:∀b,Z b->E.X β b)(d:Fz β Z x):
  y.aBB=true/\Rd w Z [] v y.toV:=by
 by_cases c:x= .nil
 ·subst c;obtain rfl:=hm;cases kd with
  |sl τ=>simp only[rdn,aj] at h;subst h;exact⟨rfl, .slice0 (cm _)⟩
  |_=>cases h
 ·have i:uQ s.m x=some y:=by cases x<;>first|exact absurd rfl c|exact h
  grind[bG9]
def bMf {m:Mm U}{kd:Kd}{ks:List Kd}{x:Lf U}{xs ys:List (Lf U)}(h:rds m (kd::ks) (x::xs)=some ys):∃y c,rdn m kd x=some y/\rds m ks xs=some c/\ys=y::c:=by
 grind[rdn,rds,Option.some.inj]
def bVx {Z:Nat->Prop}:∀{xs:List (Lf U)},(aHt xs=true\/∀(i:Nat) (t:Tr) (b:Nat),β[i]? =some t->b∈t.all->¬Z b)->∀x∈xs,Fz β Z x
 |[],_,x,c=>by simp at c
 |y::ys,h,x,c=>by
  rcases bl.1 c with rfl|c
  ·exact Fz.of (h.imp (λh=>by simp only[aHt,ab] at h;exact h.1) id)
  ·exact bVx (h.imp (λh=>by simp only[aHt,ab] at h;exact h.2) id) x c
def bJ2:Sv U->List (Lf U)
 | .l x=>[x]
 | .a cs=>cs
 | .t _=>[]
def bVy {Z:Nat->Prop}{x:Sv U}(h:bG5 x=true\/∀(i:Nat) (t:Tr) (b:Nat),β[i]? =some t->b∈t.all->¬Z b):∀c∈bJ2 x,Fz β Z c:=by
 cases x with
 |l x=>intro c hc;simp only[bJ2,dh] at hc;subst hc;exact Fz.of h
 |a cs=>exact bVx h
 |t xs=>simp[bJ2]
theorem bQ4 {Z:Nat->Prop}:∀{xs:List (Sv U)},(sI xs=true\/∀(i:Nat) (t:Tr) (b:Nat),β[i]? =some t->b∈t.all->¬Z b)->∀x∈xs,∀c∈bJ2 x,Fz β Z c
 |[],_,x,d=>by simp at d
 |y::ys,h,x,d=>by
  rcases bl.1 d with rfl|d
  ·exact bVy (h.imp (λh=>by simp only[sI,ab] at h;exact h.1) id)
  ·exact bQ4 (h.imp (λh=>by simp only[sI,ab] at h;exact h.2) id) x d
def bTj {C:Cod U}(H:Hp C E s.m β w){Z:Nat->Prop}(j:∀b,Z b->E.X β b)(ks:List Kd):∀{xs ys:List (Lf U)} {vs:List Value},rds s.m ks xs=some ys->Ms C w (E.X β) β s.m vs xs->(∀x∈xs,Fz β Z x)->
  vs.length=ys.length/\∀(i:Nat) (v:Value) (y:Lf U),vs[i]? =some v->ys[i]? =some y->Rd w Z [] v y.toV:=by
 induction ks with
 |nil=>
  intro xs ys vs h d _;cases xs with
  |nil=>have e:ys=[]:=(ak h).symm;have:vs=[]:=cj d.1;simp[*]
  |cons x xs=>cases h
 |cons kd ks k=>
  intro xs ys vs h d l;cases xs with
  |nil=>cases h
  |cons x xs=>
   obtain⟨y,n,h1,h2,rfl⟩:=bMf h;cases vs with
   |nil=>have:=d.1;grind
   |cons v vs=>
    have k1:=(bHi H (d.2 0 v x rfl rfl) h1 j (l x (by simp))).2;have k2:=k h2 ⟨by have:=d.1;simpa using this,λi u c p q=>d.2 (i+1) u c (by simpa using p) (by simpa using q)⟩ (by simp_all)
    grind
def aHx (r:bB Y.C E s a w β){kd:Kd}{x:Sv U}{v:Value}{z:kd.ty U}{Z:Nat->Prop}(hm:x.mean Y.C w (E.X β) β s.m v)(h:aHs Y s.m kd x=some z)(e:∀b,Z b->E.X β b)(j:∀c∈bJ2 x,Fz β Z c):
  Rd w Z [] v (pJ (aKz Y kd z)):=by
 have leaf:∀{y:Lf U},x= .l y->(∀T,kd≠ .st T)->(match rdn s.m kd y with|some q=>bEf kd q|none=>none)=some z->Rd w Z [] v (pJ (aKz Y kd z)):=λ{y} n o h0=>by
  subst n;cases hr:rdn s.m kd y with
  |none=>simp_all
  |some q=>
   rw[hr] at h0;have hq:=aC2 (by assumption);have:=(bHi r.hp hm hr e (j y (by simp[bJ2]))).2;rw[hq] at this;cases kd with
   |st T=>simp_all
   |_=>exact this
 cases kd with
 |st T=>
  cases x with
  |a cs=>
   have d:(match rds s.m (Y.kd T) cs with|some ds=>Y.C.bld T ds|none=>none)=some z:=h;cases hr:rds s.m (Y.kd T) cs with
   |none=>simp_all
   |some ds=>
    rw[hr] at d;obtain⟨vs,rfl,A⟩:=hm;have hrd:=bTj r.hp e _ hr A j;rw[Y.C.hmk T ds z d] at hrd;simp only[aKz,pJ];refine .agg (by grind) (λi u c p q=> ?_)
    grind
  |l y=>
   have d:(match rdn s.m (.st T) y with|some q=>bEf (.st T) q|none=>none)=some z:=h;cases hr:rdn s.m (.st T) y with
   |none=>simp_all
   |some q=>rw[hr] at d;cases q<;>cases d
  |t xs=>cases h
 |int k=>cases x with
  |l y=>exact leaf rfl (by simp) h
  |_=>cases h
 |bool=>cases x with
  |l y=>exact leaf rfl (by simp) h
  |_=>cases h
 |str=>cases x with
  |l y=>exact leaf rfl (by simp) h
  |_=>cases h
 |sl τ=>cases x with
  |l y=>exact leaf rfl (by simp) h
  |_=>cases h
def bTk (r:bB Y.C E s a w β){kd:Kd}{x:Sv U}{v:Value}{z:kd.ty U}{Z:Nat->Prop}(hm:x.mean Y.C w (E.X β) β s.m v)(h:aHs Y s.m kd x=some z)(c:∀b,Z b->E.X β b)(d:bG5 x=true\/∀(i:Nat) (t:Tr) (b:Nat),β[i]? =some t->b∈t.all->¬Z b):
  Rd w Z [] v (pJ (aKz Y kd z)):=aHx r hm h c (bVy d)
theorem aUc (r:bB Y.C E s a w β){Z:Nat->Prop}(l:∀b,Z b->E.X β b)(ks:List Kd):∀{xs:List (Sv U)} {vs:List Value} {z:fM U ks},oZ Y s.m ks xs=some z->vs.length=xs.length->(∀(i:Nat) (v:Value) (x:Sv U),vs[i]? =some v->xs[i]? =some x->x.mean Y.C w (E.X β) β s.m v)->
  (∀x∈xs,∀c∈bJ2 x,Fz β Z c)->RdL w Z vs ((bG Y ks z).map pJ):=by
 induction ks with
 |nil=>
  intro xs vs z h hl _ _;cases xs with
  |nil=>have:vs=[]:=cj hl;subst this;exact⟨rfl,by simp⟩
  |cons x xs=>cases h
 |cons k ks o=>
  intro xs vs z h hl hm d;cases xs with
  |nil=>cases ks<;>cases h
  |cons x xs=>
   cases vs with
   |nil=>simp at hl
   |cons v vs=>
    cases ks with
    |nil=>
     cases xs with
     |cons y ys=>cases h
     |nil=>
      have e:vs=[]:=(by grind);subst e;have k1:=aHx r (hm 0 v x rfl rfl) (by assumption) l (d x (by simp));refine⟨rfl,λi u W p q=> ?_⟩
      grind[bG,k1]
    |cons j ks=>
     have n:(match aHs Y s.m k x with
      |some a=>match oZ Y s.m (j::ks) xs with
       |some b=>some ((a,b):fM U (k::j::ks))
       |none=>none
      |none=>none)=some z:=h
     cases h1:aHs Y s.m k x with
     |none=>simp_all
     |some A=>
      cases h2:oZ Y s.m (j::ks) xs with
      |none=>simp_all
      |some B=>
       rw[h1,h2] at n;have e:=(ak n).symm;subst e;have k1:=aHx r (hm 0 v x rfl rfl) h1 l (d x (by simp));have k2:=o h2 (by simpa using hl) (λi v x p q=>hm (i+1) v x (by assumption) (by assumption)) (λy t=>d y (by simp[t]));refine⟨by simp[bG,k2.1],λi u W p q=> ?_⟩;cases i with
       |zero=>grind[k1,bG]
       |succ i=>exact k2.2 i u W (by assumption) (by assumption)
def aHy (r:bB Y.C E s a w β){Z:Nat->Prop}(c:∀b,Z b->E.X β b)(ks:List Kd):∀{xs:List (Sv U)} {vs:List Value} {z:fM U ks},oZ Y s.m ks xs=some z->vs.length=xs.length->(∀(i:Nat) (v:Value) (x:Sv U),vs[i]? =some v->xs[i]? =some x->x.mean Y.C w (E.X β) β s.m v)->
  (sI xs=true\/∀(i:Nat) (t:Tr) (b:Nat),β[i]? =some t->b∈t.all->¬Z b)->RdL w Z vs ((bG Y ks z).map pJ):=(by grind[aUc,bQ4])
end
end Go.EV
namespace Go.EV
open Go.RowKit Go.VK
variable {U:Uni} {Y:Lay U} {TI:List (Nat×TInfo)} {P:Program} {g:GI} {E:Env U g}
section
variable {s:St U} {a:Act} {w w':World} {β:List Tr} {α:Type} {C:Cod U}
mutual
def Ow.aCG {X X':Nat->Prop}{d:Bool}(hd:d=true):∀{v:Value} {x:Lf U} {B:List Nat},Ow C w X d v x B->Ow C w X' d v x B
 |_,_,_, .int h1 h2=> .int h1 h2
 |_,_,_, .bool=> .bool
 |_,_,_, .str h=> .str h
 |_,_,_, .fz h0 _=>by rw[hd] at h0;cases h0
 |_,_,_, .su h0 .. =>by rw[hd] at h0;cases h0
 |_,_,_, .sl t hk hown hc=> .sl t hk hown (OwL.aCG hd hc)
def OwL.aCG {X X':Nat->Prop}{d:Bool}(hd:d=true):∀{vs:List Value} {xs:List (Lf U)} {B:List Nat},OwL C w X d vs xs B->OwL C w X' d vs xs B
 |_,_,_, .n=> .n
 |_,_,_, .c h hr=> .c (Ow.aCG hd h) (OwL.aCG hd hr)
end
def aP9 {X Z:Nat->Prop}{m:Mm U}{v:Value}{c:Lf U}(hc:c.aBB=true)(h:Rd w Z [] v c.toV)(hX:(∀b,X b->Z b)\/∀τ l,c≠ .sl τ l):c.mean C w X β m v:=by
 cases c with
 |int k n=>exact h.aAR
 |bool b=>exact h.aAU
 |str b=>exact h.aAT
 |sl τ l=>
  rcases hX with hX|hX
  ·exact Rd.conv h (ao _) (λb _ hb=>hX b hb) (λ_ _ _ h=>h) (λ_ _ h=>h)
  grind
 |_=>cases hc
def bTl (x:Bool×List (Lf U)):Prop:=(∀c∈x.2,c.aBB=true)/\(x.1=false->∃c,x.2=[c])
def aX8 {X Z:Nat->Prop}{m:Mm U}{v:Value}{x:Bool×List (Lf U)}(d:bTl x)(h:Rd w Z [] v (pJ x))(hX:(∀b,X b->Z b)\/∀c∈x.2,∀τ l,c≠ .sl τ l):Mp C w X β m v x:=by
 obtain⟨b,cs⟩:=x;cases b with
 |false=>obtain⟨c,rfl⟩:=d.2 rfl;exact⟨c,rfl,aP9 (d.1 c (by simp)) h (hX.imp id λh=>h c (by simp))⟩
 |true=>obtain⟨vs,rfl,h2,e⟩:=Rd.aAZ (by assumption);refine⟨vs.toList,by simp,by simpa using h2,λi u c p q=> ?_⟩;exact aP9 (d.1 c (ba q)) (e i u _ (by grind) (by simp[*])) (by grind)
theorem bQ5 {k:Kd}{x:k.ty U}:bTl (aKz Y k x):=by
 cases k with
 |st T=>exact⟨Y.C.hdat T x,λh=>by cases h⟩
 |_=>exact⟨λc hc=>by simp only[aKz,dh] at hc;subst hc;rfl,λ_=>⟨_,rfl⟩⟩
def aZf (ks:List Kd):∀(z:fM U ks),∀x∈bG Y ks z,bTl x:=by
 induction ks with
 |nil=>simp[bG]
 |cons k ks c=>intro z x d;cases ks<;>grind[bG,List.mem_singleton,bQ5]
theorem bVz (hY:LayOk Y){k:Kd}(h:flatK Y k=true){x:k.ty U}:∀c∈(aKz Y k x).2,∀τ l,c≠ .sl τ l:=by
 cases k with
 |st T=>exact λc hc=>bHg hY h hc
 |sl τ=>cases h
 |_=>simp[aKz,dh]
def bMg {k:Kd}{ks:List Kd}(h:Qh Y (k::ks)=true):flatK Y k=true/\Qh Y ks=true:=by
 grind[flatK,Qh]
def bO2 (hY:LayOk Y)(ks:List Kd):∀(z:fM U ks),Qh Y ks=true->∀x∈bG Y ks z,∀c∈x.2,∀τ l,c≠ .sl τ l:=by
 induction ks with
 |nil=>simp[bG]
 |cons k ks d=>intro z h x e;obtain⟨h1,h2⟩:=bMg h;cases ks<;>grind[bG,List.mem_singleton,bVz]
def bV0 {X Z:Nat->Prop}{m:Mm U}{v:Value}{cps:List (Bool×List (Lf U))}(hc:∀x∈cps,bTl x)(h:Rd w Z [] v (jC (cps.map pJ)))(hX:(∀b,X b->Z b)\/∀x∈cps,∀c∈x.2,∀τ l,c≠ .sl τ l):(Ff cps).mean C w X β m v:=by
 have many:(∀x,cps≠[x])->(Sv.t cps:Sv U).mean C w X β m v:=λhn=>by
  have e:jC (cps.map pJ)= .tup (cps.map pJ):=by
   match cps,hn with
   |[],_=>rfl
   |[x],hn=>simp_all
   |_::_::_,_=>rfl
  rw[e] at h;obtain⟨vs,rfl,h2,d⟩:=h.aBX;refine⟨vs.toList,by simp,by simpa using h2,λi u x p q=> ?_⟩;have hm:=ba q;exact aX8 (hc x hm) (d i u _ (by grind) (by simp[*])) (by grind)
 match cps,many,hc,h,hX with
 |[],many,_,_,_=>exact many (by simp)
 |[x],_,hc,h,hX=>exact Es (aX8 (hc x (by simp)) h (by grind))
 |_::_::_,many,_,_,_=>exact many (by simp)
def bJ3 (r:bB C E s a w β):∀(i:Nat) (t:Tr) (b:Nat),β[i]? =some t->b∈t.all->¬E.X0 b:=λi t b ht hb c=>by
 rcases(r.hp.new i t b ht hb).1 with h|h
 ·rcases E.h0 b c with d|⟨x,d,rfl⟩
  ·omega
  ·exact(r.hp.prm x d).2.2.2 i t ht hb
 ·exact E.hXY b c h
theorem aC3 {c:Array Operand}:∀(i:Nat) (v:Value) (x:Sv U),(c.toList.map a.eval)[i]? =some v->(c.toList.map (eG s))[i]? =some x->∃y,v=a.eval y/\x=eG s y:=(by grind)
def Wt {f:FuncId}{c:Array Operand}{ats:Array TypeId}{o:Oper}(ho:o.op= .call {callee:= .value (.func f),args:=c,argTypes:=ats})(h:∀args w,(callFunc f args).run P w= .ok (.enter f args) w):(execOp a.eval o).run P w= .ok (.enter f (c.toList.map a.eval).toArray) w:=
 bG0 (xs:=c.toList) (by rw[ho]) h
def Yg (hY:LayOk Y)(r:bB Y.C E s a w β){o:Oper}{f:FuncId}{d:Array Operand}{ats:Array TypeId}{S:Sum U}{z:fM U S.ar}{q:fM U S.rs}(ho:o.op= .call {callee:= .value (.func f),args:=d,argTypes:=ats})
  (l:Rb P g Y f S) (n:oZ Y s.m S.ar (d.toList.map (eG s))=some z) (hmk:S.wt=false) (e:S.fr=false) (c:Qh Y S.rs=true\/sI (d.toList.map (eG s))=true) (hq:S.m z=some q):
  SO P Y.C E a w o (Ff (bG Y S.rs q)) s true:=λK Q hK=>by
 have hsp:=(l z q hq).1 hmk e;have hm:∀(i:Nat) (v:Value) (x:Sv U),(d.toList.map a.eval)[i]? =some v->(d.toList.map (eG s))[i]? =some x->x.mean Y.C w (E.X β) β s.m v:=(by grind[aC3,Qx]);have go:∀(Z:Nat->Prop),(∀b,Z b->E.X β b)->(sI (d.toList.map (eG s))=true\/∀(i:Nat) (t:Tr) (b:Nat),β[i]? =some t->b∈t.all->¬Z b)->((∀b,E.X β b->Z b)\/Qh Y S.rs=true)->o.wp P a w K Q:=λZ j p hX=>by
  have hrd:=aHy r j _ n (by simp) hm p;refine wpc (Wt ho hsp.1) (R':=λv w'=>Rd w' Z [] v (jC ((bG Y S.rs q).map pJ))/\Ext w w') ((hsp.2 w Z _ r.hp.gw (λb hb=>r.hp.aBZ b (j b hb)) hrd).mono ?_) ?_
  ·simp
  ·rintro v w' ⟨y,k⟩;exact hK v w' β (r.ext k) (λ_=>bV0 (aZf _ q) y (hX.imp id λh=>bO2 hY _ q h)) (λ_=>k)
 rcases c with c|c
 ·exact go E.X0 (λb hb=> .inl hb) (.inr (bJ3 r)) (.inr c)
 ·exact go (E.X β) (λ_ h=>h) (.inl c) (.inl λ_ h=>h)
def bHj {Z X:Nat->Prop}{m:Mm U}{i:Nat}{e:EO U}{t:Tr}(he:m.o[i]? =some e)(ht:β[i]? =some t)(hk:e.cv<=m.k)(r:∀b,X b/\b∉t.all->Z b){vs:List Value}:
  ∀{cs:List (Lf U)},(∀c∈cs,c.aBB=true)->vs.length=cs.length->(∀(j:Nat) (v:Value) (c:Lf U),vs[j]? =some v->cs[j]? =some c->Rd w Z [] v c.toV)->Ms C w X β m vs (bEi i e.cv cs):=by
 induction vs with
 |nil=>
  intro cs _ hl _;cases cs with
  |nil=>exact⟨rfl,λj v c h=>by simp at h⟩
  |cons c cs=>simp at hl
 |cons v vs d=>
  intro cs hd hl h;cases cs with
  |nil=>simp at hl
  |cons c cs=>
   have d:=d (cs:=cs) (by simp_all) (by simp_all) (λj v c p q=>h (j+1) v c (by assumption) (by assumption));have h0:=h 0 v c rfl rfl;have hc:∃n,bEi i e.cv (c::cs)=n::bEi i e.cv cs/\n.mean C w X β m v:=by
    by_cases hs:∃τ l,c= .sl τ l
    ·obtain⟨τ,l,rfl⟩:=hs;exact⟨.bor i e.cv τ l,rfl,⟨hk,h0.one rfl⟩,e,t,he,ht,λ_=>h0.conv (ao _) (λb _ hb=>r b hb) (λ_ _ _ hc=>hc) (λ_ _ h=>h)⟩
    ·refine⟨c,?_,aP9 (hd c (by simp)) h0 (.inr λτ l e=>hs ⟨τ,l,e⟩)⟩;cases c<;>first|rfl|simp_all
   obtain⟨n,y,z⟩:=hc;rw[y];exact⟨by simp[d.1],λj u x p q=>by
    cases j with
    |zero=>simp at p q;subst p;subst q;exact z
    |succ j=>exact d.2 j u x (by simpa using p) (by simpa using q)⟩
def bHk {i c:Nat}:∀{cps:List (Bool×List (Lf U))} {j:Nat},(Ye i c cps)[j]? =(cps[j]?).map λx=>(x.1,bEi i c x.2)
 |[],j=>by simp[Ye]
 |(b,cs)::xs,0=>by simp[Ye]
 |(b,cs)::xs,j+1=>by simp[Ye,bHk]
def bHl {i c:Nat}:∀{cps:List (Bool×List (Lf U))},(Ye i c cps).length=cps.length
 |[]=>rfl
 |(b,cs)::xs=>by simp[Ye,bHl]
def bV1 {i c:Nat}(x:Lf U):∃y,bEi i c [x]=[y]:=by cases x<;>exact⟨_,rfl⟩
def bYt {X Z:Nat->Prop}{m:Mm U}{i:Nat}{e:EO U}{t:Tr}{v:Value}{cps:List (Bool×List (Lf U))}(he:m.o[i]? =some e)(ht:β[i]? =some t)(hk:e.cv<=m.k)(A:∀b,X b/\b∉t.all->Z b)(hc:∀x∈cps,bTl x)(h:Rd w Z [] v (jC (cps.map pJ))):
  (Ff (Ye i e.cv cps)).mean C w X β m v:=by
 have one:∀{x:Bool×List (Lf U)} {v:Value},bTl x->Rd w Z [] v (pJ x)->Mp C w X β m v (x.1,bEi i e.cv x.2):=λ{x v} d h=>by
  obtain⟨b,cs⟩:=x;cases b with
  |false=>
   obtain⟨c,rfl⟩:=d.2 rfl;have:=bHj (C:=C) (vs:=[v]) he ht hk A (cs:=[c]) (λx l=>d.1 x l) rfl (λj F n p q=>by
    cases j with
    |zero=>simp at p q;subst p;subst q;exact h
    |succ j=>simp at p)
   obtain⟨y,B⟩:=bV1 (i:=i) (c:=e.cv) c;show ∃n,bEi i e.cv [c]=[n]/\n.mean C w X β m v;rw[B] at this ⊢;exact⟨y,rfl,this.2 0 v y rfl rfl⟩
  |true=>obtain⟨vs,rfl,h2,z⟩:=Rd.aAZ (by assumption);exact⟨vs.toList,by simp,bHj (C:=C) he ht hk A (λc hc=>d.1 c hc) (by simpa using h2) (λj u c p q=>z j u _ (by simpa using p) (by rw[bq,q];rfl))⟩
 have many:(∀x,cps≠[x])->(Sv.t (Ye i e.cv cps):Sv U).mean C w X β m v:=λhn=>by
  have e0:jC (cps.map pJ)= .tup (cps.map pJ):=by
   match cps,hn with
   |[],_=>rfl
   |[x],hn=>simp_all
   |_::_::_,_=>rfl
  rw[e0] at h;obtain⟨vs,rfl,h2,z⟩:=h.aBX;refine⟨vs.toList,by simp,by rw[bHl];simpa using h2,λj u x p q=> ?_⟩;rw[bHk] at q;obtain⟨y,B,rfl⟩:=dx.1 q;exact one (by grind) (z j u _ (by grind) (by simp[*]))
 match cps,many,hc,h with
 |[],many,_,_=>exact many (by simp)
 |[(b,cs)],_,hc,h=>exact Es (one (hc (b,cs) (by simp)) h)
 |(b,cs)::(G,cs')::r,many,_,_=>exact many (by simp)
def bQ6 {i:Nat}{t:Tr}{Z:Nat->Prop}(ht:β[i]? =some t)(e:∀b∈t.all,¬Z b):∀{xs:List (Lf U)},aYv i xs=true->∀c∈xs,Fz β Z c
 |[],_,c,hc=>by simp at hc
 |x::xs,h,c,hc=>by
  have key:(pE x=true\/∃r,x= .own i r)/\aYv i xs=true:=by
   cases x with
   |own j r=>simp only[aYv,ab] at h;have:=ai h.1;subst this;exact⟨.inr ⟨r,rfl⟩,h.2⟩
   |_=>simp only[aYv,ab] at h;exact⟨.inl h.1,h.2⟩
  rcases bl.1 hc with rfl|hc
  ·rcases key.1 with h1|⟨r,rfl⟩
   ·exact Fz.of (.inl h1)
   ·intro j u b ho d hb;have:i=j:=ak ho;subst this;rw[ht] at d;injection d with d;subst d;exact e b hb
  ·exact bQ6 ht e key.2 c hc
def cBc (x:Sv U):lsV x=bJ2 x:=by cases x<;>rfl
theorem bMh {i:Nat}{t:Tr}{Z:Nat->Prop}(ht:β[i]? =some t)(e:∀b∈t.all,¬Z b):∀{xs:List (Sv U)},bLv i xs=true->∀x∈xs,∀c∈bJ2 x,Fz β Z c
 |[],_,x,d=>by simp at d
 |y::ys,h,x,d=>by
  simp only[bLv,ab] at h;rcases bl.1 d with rfl|d
  ·rw[<-cBc];exact bQ6 ht e h.1
  ·exact bMh ht e h.2 x d
def bEo (r:bB Y.C E s a w β){o:Oper}{f:FuncId}{d:Array Operand}{ats:Array TypeId}{S:Sum U}{z:fM U S.ar}{q:fM U S.rs}(ho:o.op= .call {callee:= .value (.func f),args:=d,argTypes:=ats})
  (n:Rb P g Y f S) (p:oZ Y s.m S.ar (d.toList.map (eG s))=some z) (hmk:S.wt=false) (j:S.fr=false) {i c:Nat} (hi:bLw s.m (d.toList.map (eG s))=some (i,c)) (hq:S.m z=some q):
  SO P Y.C E a w o (Ff (Ye i c (bG Y S.rs q))) s true:=λK Q hK=>by
 have hsp:=(n z q hq).1 hmk j;have hm:∀(i:Nat) (v:Value) (x:Sv U),(d.toList.map a.eval)[i]? =some v->(d.toList.map (eG s))[i]? =some x->x.mean Y.C w (E.X β) β s.m v:=(by grind[aC3,Qx]);unfold bLw at hi;split at hi
 ·rename_i h A;cases k:bLv h (d.toList.map (eG s)) with
  |false=>simp_all
  |true=>
   rw[k] at hi;simp only[ae] at hi;cases hn:nth s.m.o h with
   |none=>simp_all
   |some e=>
    rw[hn] at hi;injection hi with hi;injection hi with h1 h2;subst h1;subst h2;have he:s.m.o[h]? =some e:=by grind[aR]
    obtain⟨t,ht⟩:∃t,β[h]? =some t:=by have:=lt_of_some he;rw[<-r.hp.len] at this;simp[*]
    have hk:=(r.hp.vers h e he).2;have hrd:=aUc r (Z:=λb=>E.X β b/\b∉t.all) (λb hb=>hb.1) S.ar p (by simp) hm (by grind[bMh]);refine wpc (Wt ho hsp.1) (R':=λv w'=>Rd w' (λb=>E.X β b/\b∉t.all) [] v (jC ((bG Y S.rs q).map pJ))/\Ext w w') ((hsp.2 w _ _ r.hp.gw (λb hb=>r.hp.aBZ b hb.1) hrd).mono ?_) ?_
    ·simp
    ·rintro v w' ⟨y,l⟩;exact hK v w' β (r.ext l) (λ_=>bYt he ht hk (λb hb=>hb) (aZf _ q) y) (λ_=>l)
 ·cases hi
def aQa {k:Nat}:∀{vs:List Value} {cs:List (Lf U)} {B:List Nat} (n:Nat),OwL C w (λ_=>False) true vs cs B->
  ∃z:List Tr,z.length=(uR k n cs).2.length/\(z.map Tr.all).flatten=B/\(∀(j:Nat) (e:EO U) (t:Tr),(uR k n cs).2[j]? =some e->z[j]? =some t->e.rv=k/\e.cv=k/\∃τ l xs,e.ob= .tree τ true l/\0<U.K τ/\w.ownsRow 0 τ (U.K τ) t.val l.length xs/\OwL C w (λ_=>False) true xs (l.map (C.cel τ)).flatten t.bs)/\
   ∀(X:Nat->Prop) (β':List Tr) (m':Mm U),k<=m'.k->(∀(j:Nat) (e:EO U) (t:Tr),(uR k n cs).2[j]? =some e->z[j]? =some t->m'.o[n+j]? =some e/\β'[n+j]? =some t)->Ms C w X β' m' vs (uR k n cs).1
 |_,_,_,n, .n=>⟨[],rfl,rfl,by simp[uR],λ_ _ _ _ _=>⟨rfl,by simp⟩⟩
 |_,_,_,n, .c (v:=v) (x:=x) (vs:=vs) (xs:=xs) h hr=>by
  have flat:∀{y:Lf U} {B:List Nat},Ow C w (λ_=>False) true v y B->(∀τ l,y≠ .sl τ l)->B=[]/\∀(X:Nat->Prop) (β':List Tr) (m':Mm U),y.mean C w X β' m' v:=λ{y B} h hn=>by
   cases h with
   |int h1 h2=>exact⟨rfl,λ_ _ _=>⟨rfl,h1,h2⟩⟩
   |bool=>exact⟨rfl,λ_ _ _=>rfl⟩
   |str G=>exact⟨rfl,λ_ _ _=>⟨rfl,G⟩⟩
   |fz=>exact absurd rfl (hn _ _)
   |su=>exact absurd rfl (hn _ _)
   |sl=>exact absurd rfl (hn _ _)
  by_cases hs:∃τ l,x= .sl τ l
  ·obtain⟨τ,l,rfl⟩:=hs;cases h with
   |fz h0=>cases h0
   |su h0=>cases h0
   |sl t hk hown hc=>
    obtain⟨z,k1,k2,k3,k4⟩:=aQa (k:=k) (Nat.succ n) hr;refine⟨t::z,by simp[uR,k1],by simp[k2],λj e t' p q=> ?_,λX β' m' r hm=> ?_⟩
    ·cases j with
     |zero=>simp only[uR,e8,aj] at p q;subst p;subst q;exact⟨rfl,rfl,τ,l,_,rfl,hk,hown,hc⟩
     |succ j=>exact k3 j e t' (by simpa[uR] using p) (by simpa using q)
    ·have h0:=hm 0 ⟨.tree τ true l,k,k⟩ t (by simp[uR]) rfl;have d:=k4 X β' m' r (λj e t' p q=>by
      have:=hm (j+1) e t' (by simpa[uR] using p) (by simpa using q);rw[show n+(j+1)=Nat.succ n+j by omega] at this;exact this)
     have A:(uR k n (.sl τ l::xs)).1= .own n k::(uR k (Nat.succ n) xs).1:=rfl;rw[A];refine⟨by simp[d.1],λi u c p q=> ?_⟩;cases i with
     |zero=>simp at p q;subst p;subst q;exact⟨⟨r,rfl⟩,_,t,h0.1,h0.2,λ_=>rfl⟩
     |succ i=>exact d.2 i u c (by simpa using p) (by simpa using q)
  ·have hn:∀τ l,x≠ .sl τ l:=λτ l e=>hs ⟨τ,l,e⟩;obtain⟨rfl,F⟩:=flat h hn;obtain⟨z,k1,k2,k3,k4⟩:=aQa (k:=k) n hr;have A:uR k n (x::xs)=(x::(uR k n xs).1,(uR k n xs).2):=by cases x<;>first|rfl|exact absurd rfl (hn _ _)
   rw[A];refine⟨z,k1,by simpa using k2,k3,λX β' m' r hm=> ?_⟩;have d:=k4 X β' m' r hm;refine⟨by simp[d.1],λi u c p q=> ?_⟩;cases i with
   |zero=>simp at p q;subst p;subst q;exact F X β' m'
   |succ i=>exact d.2 i u c (by simpa using p) (by simpa using q)
def aHz {k:Nat}:∀{vs:List Value} {cps:List (Bool×List (Lf U))} {B:List Nat} (n:Nat),OwPs C w vs cps B->
  ∃y:List Tr,y.length=(jQ k n cps).2.length/\(y.map Tr.all).flatten=B/\(∀(j:Nat) (e:EO U) (t:Tr),(jQ k n cps).2[j]? =some e->y[j]? =some t->e.rv=k/\e.cv=k/\∃τ l xs,e.ob= .tree τ true l/\0<U.K τ/\w.ownsRow 0 τ (U.K τ) t.val l.length xs/\OwL C w (λ_=>False) true xs (l.map (C.cel τ)).flatten t.bs)/\
   ∀(X:Nat->Prop) (β':List Tr) (m':Mm U),k<=m'.k->(∀(j:Nat) (e:EO U) (t:Tr),(jQ k n cps).2[j]? =some e->y[j]? =some t->m'.o[n+j]? =some e/\β'[n+j]? =some t)->
    vs.length=(jQ k n cps).1.length/\∀(i:Nat) (v:Value) (x:Bool×List (Lf U)),vs[i]? =some v->(jQ k n cps).1[i]? =some x->Mp C w X β' m' v x
 |_,_,_,n, .n=>⟨[],rfl,rfl,by simp[jQ],λ_ _ _ _ _=>⟨rfl,by simp⟩⟩
 |_,_,_,n, .c (v:=v) (x:=x) (B:=O) (vs:=vs) (xs:=xs) h hr=>by
  obtain⟨b,cs⟩:=x;have h1:∃d:List Value,OwL C w (λ_=>False) true d cs O/\∀(X:Nat->Prop) (β':List Tr) (m':Mm U) (cs':List (Lf U)),Ms C w X β' m' d cs'->cs'.length=cs.length->Mp C w X β' m' v (b,cs'):=by
   cases b with
   |true=>obtain⟨d,rfl,z⟩:=h;exact⟨d,z,λ_ _ _ cs' A _=>⟨d,rfl,A⟩⟩
   |false=>
    obtain⟨c,rfl,hc⟩:=h;refine⟨[v],by simpa using OwL.c hc .n,λX β' m' cs' A hl=> ?_⟩
    match cs',hl with
    |[I],_=>exact⟨I,rfl,A.2 0 v I rfl rfl⟩
  obtain⟨d,z,F⟩:=h1;obtain⟨S,G,T,V,W⟩:=aQa (k:=k) n z;obtain⟨t2,b1,Z,b3,b4⟩:=aHz (k:=k) (n+(uR k n cs).2.length) hr;have e1:jQ k n ((b,cs)::xs)=((b,(uR k n cs).1)::(jQ k (n+(uR k n cs).2.length) xs).1,(uR k n cs).2++(jQ k (n+(uR k n cs).2.length) xs).2):=by simp only[jQ,bL]
  rw[e1];refine⟨S++t2,by simp[G,b1],by simp[T,Z],λj e t p q=> ?_,λX β' m' r hm=> ?_⟩
  ·by_cases H:j<(uR k n cs).2.length
   ·rw[aq H] at p;rw[aq (by omega)] at q;exact V j e t p q
   ·rw[ax (by omega)] at p;rw[ax (by omega),G] at q;exact b3 _ e t p q
  ·have J:=W X β' m' r (λj e t p q=>by
    have H:=lt_of_some p;exact hm j e t (by rw[aq H];exact p) (by rw[aq (by omega)];exact q))
   have L:=b4 X β' m' r (λj e t p q=>by
    have:=hm ((uR k n cs).2.length+j) e t (by rw[ax (by omega)];simpa using p) (by rw[ax (by omega),G];simpa using q);rw[show n+((uR k n cs).2.length+j)=n+(uR k n cs).2.length+j by omega] at this;exact this)
   refine⟨by simp[L.1],λi u x p q=> ?_⟩;cases i with
   |zero=>simp at p q;subst p;subst q;exact F X β' m' _ J (by rw[<-J.1,z.len])
   |succ i=>exact L.2 i u x (by simpa using p) (by simpa using q)
def bJ4 {v:Value}{cps:List (Bool×List (Lf U))}{B:List Nat}{k n:Nat}(h:OwR C w v cps B):
  ∃d:List Tr,d.length=(jQ k n cps).2.length/\(d.map Tr.all).flatten=B/\(∀(j:Nat) (e:EO U) (t:Tr),(jQ k n cps).2[j]? =some e->d[j]? =some t->e.rv=k/\e.cv=k/\∃τ l xs,e.ob= .tree τ true l/\0<U.K τ/\w.ownsRow 0 τ (U.K τ) t.val l.length xs/\OwL C w (λ_=>False) true xs (l.map (C.cel τ)).flatten t.bs)/\
   ∀(X:Nat->Prop) (β':List Tr) (m':Mm U),k<=m'.k->(∀(j:Nat) (e:EO U) (t:Tr),(jQ k n cps).2[j]? =some e->d[j]? =some t->m'.o[n+j]? =some e/\β'[n+j]? =some t)->(Ff (jQ k n cps).1).mean C w X β' m' v:=by
 have many:(∀x,cps≠[x])->(∃vs:List Value,v= .tuple vs.toArray/\OwPs C w vs cps B)->∃d:List Tr,d.length=(jQ k n cps).2.length/\(d.map Tr.all).flatten=B/\(∀(j:Nat) (e:EO U) (t:Tr),(jQ k n cps).2[j]? =some e->d[j]? =some t->e.rv=k/\e.cv=k/\∃τ l xs,e.ob= .tree τ true l/\0<U.K τ/\w.ownsRow 0 τ (U.K τ) t.val l.length xs/\OwL C w (λ_=>False) true xs (l.map (C.cel τ)).flatten t.bs)/\
   ∀(X:Nat->Prop) (β':List Tr) (m':Mm U),k<=m'.k->(∀(j:Nat) (e:EO U) (t:Tr),(jQ k n cps).2[j]? =some e->d[j]? =some t->m'.o[n+j]? =some e/\β'[n+j]? =some t)->(Ff (jQ k n cps).1).mean C w X β' m' v:=λhn ⟨vs,hv,ho⟩=>by
  obtain⟨d,p,q,r,y⟩:=aHz (k:=k) n ho;refine⟨d,p,q,r,λX β' m' hk hm=> ?_⟩;obtain⟨z,i⟩:=y X β' m' hk hm;have hl:vs.length=cps.length:=by
   have:∀{vs:List Value} {cps:List (Bool×List (Lf U))} {B:List Nat},OwPs C w vs cps B->vs.length=cps.length:=by intro vs cps B h;induction h<;>grind
   grind
  have e:Ff (jQ k n cps).1= .t (jQ k n cps).1:=by
   have hlen:(jQ k n cps).1.length≠1:=by
    rw[<-z,hl];intro h1
    match cps,hn,h1 with
    |[x],hn,_=>exact hn x rfl
   generalize(jQ k n cps).1=ys at hlen
   match ys,hlen with
   |[],_=>rfl
   |[_],h=>simp_all
   |_::_::_,_=>rfl
  rw[e];exact⟨vs,hv,z,i⟩
 match cps,many,h with
 |[],many,h=>exact many (by simp) h
 |[x],_,h=>
  have h1:OwPs C w [v] [x] B:=by simpa using OwPs.c (h:OwP C w v B x) .n
  obtain⟨d,p,q,r,y⟩:=aHz (k:=k) n h1;refine⟨d,p,q,r,λX β' m' hk hm=> ?_⟩;obtain⟨z,i⟩:=y X β' m' hk hm;obtain⟨b,cs⟩:=x;have A:(jQ k n [(b,cs)]).1=[(b,(uR k n cs).1)]:=rfl;rw[A] at i ⊢;exact Es (i 0 v _ rfl rfl)
 |_::_::_,many,h=>exact many (by simp) h
def aVc (r:bB Y.C E s a w β){o:Oper}{f:FuncId}{F:Array Operand}{ats:Array TypeId}{S:Sum U}{z:fM U S.ar}{q:fM U S.rs}(ho:o.op= .call {callee:= .value (.func f),args:=F,argTypes:=ats})
  (hS:Rb P g Y f S) (hz:oZ Y s.m S.ar (F.toList.map (eG s))=some z) (hmk:S.wt=false) (G:S.fr=true) (hq:S.m z=some q):
  SO P Y.C E a w o (Ff (jQ s.m.k (len s.m.o) (bG Y S.rs q)).1) ⟨s.t,⟨s.m.o++(jQ s.m.k (len s.m.o) (bG Y S.rs q)).2,s.m.k,s.m.ns⟩,s.fr⟩ true:=λK Q hK=>by
 have hsp:=(hS z q hq).2.1 hmk G;have hm:∀(i:Nat) (v:Value) (x:Sv U),(F.toList.map a.eval)[i]? =some v->(F.toList.map (eG s))[i]? =some x->x.mean Y.C w (E.X β) β s.m v:=(by grind[aC3,Qx]);have hrd:=aHy r (Z:=E.X0) (λb hb=> .inl hb) S.ar hz (by simp) hm (.inr (bJ3 r));refine wpc (Wt ho hsp.1) (R':=λv w'=>∃B,Ext w w'/\B.Nodup/\(∀b∈B,w.heap.size<=b)/\OwR Y.C w' v (bG Y S.rs q) B) ((hsp.2 w E.X0 _ r.hp.gw (λb hb=>r.hp.aBZ b (.inl hb)) hrd).mono ?_) ?_
 ·simp
 ·rintro v w' ⟨B,he,hnd,d,hR⟩;obtain⟨h,a1,a2,H,T⟩:=bJ4 (k:=s.m.k) (n:=len s.m.o) hR;generalize hes:(jQ s.m.k (len s.m.o) (bG Y S.rs q)).2=es at a1 H T hK;have I:(es.zip h).map (·.1)=es:=List.map_fst_zip (by omega);have A:(es.zip h).map (·.2)=h:=List.map_snd_zip (by omega);have c:∀x∈es.zip h,∃j,es[j]? =some x.1/\h[j]? =some x.2:=λx y=>by
   obtain⟨j,V⟩:=cQ.1 y;rw[List.getElem?_zip_eq_some] at V;exact⟨j,V⟩
  have hB:∀x∈es.zip h,∀b∈x.2.all,b∈B:=λx y b hb=>by
   grind[List.mem_flatten,List.mem_of_getElem?]
  have W:=r.add he (es.zip h) (λx y=>by
    obtain⟨j,h1,h2⟩:=c x y
    grind)
   (λx y b hb=>by
    obtain⟨j,h1,h2⟩:=c x y;refine⟨d b (hB x y b hb),?_⟩;obtain⟨_,_,τ,l,xs,_,J,L,O⟩:=H j x.1 x.2 h1 h2;have ho:Ow Y.C w' (λ_=>False) true x.2.val (.sl τ l) x.2.all:= .sl x.2 J L O;exact ho.lt b hb)
   (by
    have e:((es.zip h).map λx=>x.2.all)=h.map Tr.all:=by have:=congrArg (List.map Tr.all) A;rw[gz] at this;exact this
    simp[*])
   (λhev x y=>by
    obtain⟨j,h1,h2⟩:=c x y;obtain⟨_,_,τ,l,xs,c1,J,L,O⟩:=H j x.1 x.2 h1 h2;rw[c1];exact⟨J,xs,L,O.aCG rfl⟩)
  rw[I,A] at W;refine hK v w' _ W (λ_=>T _ _ _ (ao _) (λj e t p q=> ?_)) (λ_=>he);rw[bL];refine⟨by rw[ax (dc _ _),cC];exact p,?_⟩;rw[<-r.hp.len,ax (dc _ _),cC];exact q
end
end Go.EV
namespace Go.EV
open Go.RowKit Go.VK
variable {U:Uni} {Y:Lay U} {P:Program} {g:GI} {C:Cod U}
def OwP.rd {w:World}{Z:Nat->Prop}{v:Value}{B:List Nat}:∀{x:Bool×List (Lf U)},OwP C w v B x->(∀b∈B,¬Z b)->Rd w Z [] v (pJ x)
 |(true,cs),h,d=>by
  obtain⟨vs,rfl,ho⟩:=h;obtain⟨h1,h2⟩:=(OwL.aCG (X':=Z) rfl ho).rd (Z:=Z) (λ_ h=>h) d;refine .agg (by simpa using h1) λi v c j e=> ?_;rw[bq] at e;obtain⟨x,k,rfl⟩:=dx.1 e;exact h2 i v x (by simpa using j) k
 |(false,cs),h,d=>by
  obtain⟨c,rfl,ho⟩:=h;exact(Ow.aCG (X':=Z) rfl ho).rd (λ_ h=>h) d
def OwPs.rd {w:World}{Z:Nat->Prop}:∀{vs:List Value} {xs:List (Bool×List (Lf U))} {B:List Nat},OwPs C w vs xs B->(∀b∈B,¬Z b)->vs.length=(xs.map pJ).length/\∀(i:Nat) (v:Value) (c:V),vs[i]? =some v->(xs.map pJ)[i]? =some c->Rd w Z [] v c
 |_,_,_, .n,_=>⟨rfl,λi v c h=>by simp at h⟩
 |_,_,_, .c h hr,j=>by
  obtain⟨h1,h2⟩:=hr.rd (Z:=Z) λb hb=>j b (ce.2 (.inr hb));refine⟨by simp only[aw,bw,h1],λi v c d e=> ?_⟩;cases i with
  |zero=>simp only[e8,bw,aj] at d e;subst d;subst e;exact h.rd λb hb=>j b (ce.2 (.inl hb))
  |succ i=>exact h2 i v c (by simpa using d) (by simpa using e)
def OwR.rd {w:World}{Z:Nat->Prop}{v:Value}{B:List Nat}{cps:List (Bool×List (Lf U))}(h:OwR C w v cps B)(j:∀b∈B,¬Z b):Rd w Z [] v (jC (cps.map pJ)):=by
 unfold OwR at h;split at h
 ·exact h.rd j
 ·rename_i d;obtain⟨vs,rfl,ho⟩:=h;obtain⟨h1,h2⟩:=ho.rd j;have e:jC (cps.map pJ)= .tup (cps.map pJ):=by
   match cps,d with
   |[],_=>rfl
   |[x],d=>exact absurd rfl (d x)
   |x::y::r,_=>rfl
  rw[e];exact .tup (by simpa using h1) λi v c k l=>h2 i v c (by simpa using k) l
def Sum.pl (S:Sum U):Sum U:=⟨S.ar,S.rs,false,S.wt,S.m⟩
def bV2 {f:FuncId}{S:Sum U}(h:Rb P g Y f S)(d:S.wt=false)(i:S.fr=true):Rb P g Y f S.pl:=λa r hr=>by
 obtain⟨_,h2,_⟩:=h a r hr;obtain⟨k1,k2⟩:=h2 d i;refine⟨λ_ _=>⟨k1,λw X vs j hX hrd=>(k2 w X vs j hX hrd).mono λe w' hq=> ?_⟩,λ_ h=>(by cases h),λc=>(by
  have c:S.wt=true:=c;rw[d] at c;cases c),λc=>(by
  have c:S.wt=true:=c;rw[d] at c;cases c)⟩
 obtain⟨v,B,k,l,q,n,o⟩:=hq;exact⟨v,_,k,rfl,o.rd λb hb p=>by have:=n b hb;have:=hX b p;omega,l⟩
end Go.EV
namespace Go.EV
open Go.RowKit Go.VK
variable {U:Uni} {Y:Lay U} {TI:List (Nat×TInfo)} {FZ:List (Nat×Sum U)} {P:Program} {g:GI} {E:Env U g}
section
variable {s:St U} {a:Act} {w:World} {β:List Tr} {α:Type} {C:Cod U}
def aH0:∀{ks:List Kd},aYx (U:=U) ks=true->∀kd∈ks,∀τ,kd= .sl τ->0<U.K τ
 |[],_,kd,h,_,_=>by simp at h
 |k::ks,h,kd,hk,τ,e=>by
  cases k with
  |sl τ'=>
   simp only[aYx,ab] at h;rcases bl.1 hk with rfl|hk
   ·injection e with e;subst e;exact aE h.1
   ·exact aH0 h.2 kd hk τ e
  |_=>
   rcases bl.1 hk with rfl|hk
   ·cases e
   ·exact aH0 (ks:=ks) h kd hk τ e
def cE6 (C:Cod U)(w:World)(t:Tr)(τ:Nat)(L:List (U.El τ)):Prop:=0<U.K τ/\∃xs,w.ownsRow 0 τ (U.K τ) t.val L.length xs/\OwL C w (λ_=>False) true xs (L.map (C.cel τ)).flatten t.bs
structure Hd (C:Cod U) (m:Mm U) (w:World) (β:List Tr) (v:Value) (y':Lf U) (i:Nat) (e:EO U) (t:Tr) (B:List Nat):Prop where
 ht:β[i]? =some t
 he:∃e0 τ L,m.o[i]? =some e0/\e0.ob.aAW=false/\e=⟨.tree τ true L,e0.rv,Nat.succ m.k⟩
 sub:∀b∈B,b∈t.all
 back:∀w' B',w.heap.size<=w'.heap.size->Ow C w' (λ_=>False) true v y' B'->(∀b∈t.all,b∉B->w'.heap[b]? =w.heap[b]?)->
  ∃t' τ L,t'.val=t.val/\(∀b∈t'.all,b∈B'\/(b∈t.all/\b∉B))/\(B'.Nodup->(∀b∈B',b∈t.all->b∈B)->t'.all.Nodup)/\e.ob= .tree τ true L/\cE6 C w' t' τ L
structure Wo (U:Uni) where
 i:Nat
 e:EO U
 t:Tr
 B:List Nat
 v:Value
 y:Lf U
end
end Go.EV
namespace Go.EV
open Go.RowKit Go.VK
variable {U:Uni} {Y:Lay U} {TI:List (Nat×TInfo)} {FZ:List (Nat×Sum U)} {P:Program} {g:GI} {E:Env U g}
structure Good (P:Program) (g:GI) (Y:Lay U) (TI:List (Nat×TInfo)) (FZ:List (Nat×Sum U)):Prop where
 ti:uS P TI=true
 lay:LayOk Y
 fs:∀(f:Nat) (S:Sum U),(f,S)∈FZ->Rb P g Y f S
structure Am (m m':Mm U):Prop where
 k:m.k<=m'.k
 ns:∀(a i:Nat) (f:Bool),m.ns[a]? =some (i,f)->∃f',m'.ns[a]? =some (i,f')
 ol:m.o.length<=m'.o.length
 o:∀(i:Nat) (e e':EO U),m.o[i]? =some e->m'.o[i]? =some e'->(e'.cv<=m.k->e'=e)/\(e'.ob.aAW=true->e.ob.aAW=true)/\
  ∀T cs vs T' cs' vs',e.ob= .box T cs vs->e'.ob= .box T' cs' vs'->T'=T/\cs'.length=cs.length/\vs'.length=vs.length/\∀(j v:Nat),vs'[j]? =some v->v<=m.k->cs'[j]? =cs[j]? /\vs[j]? =some v
theorem Am.refl (m:Mm U):Am m m:=⟨ao _,(by simp_all),ao _,(by grind)⟩
theorem Am.trans {m m' c:Mm U}(h:Am m m')(l:Am m' c):Am m c:=by
 refine⟨bo h.k l.k,λa i f t=> ?_,bo h.ol l.ol,λi e n he d=> ?_⟩
 ·obtain⟨f',h1⟩:=h.ns a i f t;exact l.ns a i f' h1
 ·have hl:i<m'.o.length:=ca (lt_of_some he) h.ol;obtain⟨G,x,y⟩:=h.o i e _ he (aa hl);obtain⟨b1,r,z⟩:=l.o i _ n (aa hl) d;refine⟨λhc=> ?_,λhb=>x (r hb),λT cs vs p cs'' vs'' h1 h2=> ?_⟩
  ·have H:=b1 (bo hc h.k);simp_all
  ·have hb:(m'.o[i]).ob.aAW=true:=r (by rw[h2];rfl);cases hm:(m'.o[i]).ob with
   |box T' cs' vs'=>obtain⟨A,B,F,I⟩:=y T cs vs T' cs' vs' h1 hm;obtain⟨q1,q2,q3,q4⟩:=z T' cs' vs' p cs'' vs'' hm h2;refine⟨q1.trans A,q2.trans B,q3.trans F,λj v hv q=> ?_⟩;obtain⟨J,L⟩:=q4 j v hv (bo q h.k);simp[*]
   |_=>rw[hm] at hb;cases hb
theorem Am.add (m:Mm U)(es:List (EO U)):Am m ⟨m.o++es,m.k,m.ns⟩:=by
 refine⟨ao _,(by simp_all),by simp,λi e e' he c=> ?_⟩
 grind
theorem Am.aCH (m:Mm U){c:List (Nat×Bool)}(h:∀(a i:Nat) (f:Bool),m.ns[a]? =some (i,f)->∃f',c[a]? =some (i,f')):Am m ⟨m.o,m.k,c⟩:=⟨ao _,h,ao _,(Am.refl m).o⟩
def Am.turn (m:Mm U){i:Nat}{ids:List Nat}{ob:Ob U}{rv:Nat}(hb:ob.aAW=true->∀e,m.o[i]? =some e->e.ob.aAW=true/\∀T cs vs T' cs' vs',e.ob= .box T cs vs->ob= .box T' cs' vs'->T'=T/\cs'.length=cs.length/\vs'.length=vs.length/\∀(j v:Nat),vs'[j]? =some v->v<=m.k->cs'[j]? =cs[j]? /\vs[j]? =some v):
  Am m ⟨kil (Nat.succ m.k) ids (upd m.o i ⟨ob,rv,Nat.succ m.k⟩),Nat.succ m.k,m.ns⟩:=by
 refine⟨dy _,(by simp_all),by grind[Ws,cK,List.length_set],λj e e' he c=> ?_⟩;simp only at c;by_cases l:j∈ids
 ·rw[aP7 l (by rw[cK,ay];exact lt_of_some he)] at c;injection c with c;subst c;exact⟨λh=>(by simp only at h;omega),λh=>(by cases h),λ_ _ _ _ _ _ _ h=>(by cases h)⟩
 ·rw[Ef l,cK] at c;by_cases d:i=j
  ·subst d;rw[bm (lt_of_some he)] at c;injection c with c;subst c;refine⟨λh=>by simp only at h;omega,λh=>(hb h e he).1,λT cs vs T' cs' vs' h1 h2=> ?_⟩
   have n:ob.aAW=true:=by simp only at h2;rw[h2];rfl
   grind
  simp_all
def Am.tree (m:Mm U){i:Nat}{ids:List Nat}{τ:Nat}{d:Bool}{l:List (U.El τ)}{rv:Nat}:Am m ⟨kil (Nat.succ m.k) ids (upd m.o i ⟨.tree τ d l,rv,Nat.succ m.k⟩),Nat.succ m.k,m.ns⟩:=Am.turn m (λh=>by cases h)
section
variable {s:St U} {a:Act} {w:World} {β:List Tr} {α:Type}
def bTm (r:bB Y.C E s a w β){o:Oper}{k p e:Nat}{x:Operand}{z:ByteArray}(ho:o.op= .convert k p x)(hs:P.underlying k=some .string)(hd:P.underlying p=some (.slice e))(he:P.underlying e=some (.int .u8))(A:eG s x= .l (.str z)):SO P Y.C E a w o (.l (.sl Y.bt ((bK z).map Y.be))) s true:=λK Q hK=>by
 obtain⟨h1,h2⟩:=(mX r A:(Lf.str z:Lf U).mean Y.C w (E.X β) β s.m (a.eval x));have q:Ext w (Lib.bytesWorld w e z):=⟨rfl,rfl,rfl,by simp[Lib.bytesWorld_size],(by grind[Lib.bytesWorld_at_old])⟩;refine wpo (w':=Lib.bytesWorld w e z) (v:= .slice (some ⟨w.heap.size,0,none⟩) z.size (grownCap w z.size 0 e)) (by simp_all[inl,execOp,Lib.run_convert_string_bytes]) (hK _ _ β (r.ext q) (λ_=> ?_) (λ_=>q));have d:∀n,U.enc Y.bt (Y.be n)=[V.int .u8 n]:=λn=>by
  rw[<-Y.C.hcel Y.bt (Y.be n),Y.hb,Y.hbe];rfl
 have hk:U.K Y.bt=1:=by rw[<-Y.C.hlen Y.bt (Y.be 0),Y.hb];rfl
 have el:((bK z).map Y.be).map (U.enc Y.bt)=z.data.toList.map yV:=by rw[gz];have:(U.enc Y.bt∘Y.be)=λn=>[V.int .u8 n]:=funext d;simp_all[bK,yV]
 show Rd _ (E.X β) [] _ (.slice (U.K Y.bt) (((bK z).map Y.be).map (U.enc Y.bt)));rw[el,hk];have hc:=grownCap_le_maxLen w z.size 0 e h2;have hg:=grownCap_ge w z.size 0 e;cases B:z.data.toList with
 |nil=>
  have:z.size=0:=by grind[Kq]
  rw[this] at hc ⊢;exact .slice0 hc
 |cons F bs=>
  rw[<-B];have hlen:z.size=(z.data.toList.map yV).length:=by rw[bn,Kq]
  have c:∀(i j:Nat) (e':List V) (d':V),(z.data.toList.map yV)[i]? =some e'->e'[j]? =some d'->i<z.size/\j=0/\d'= .int .u8 ((z.data.toList.getD i 0).toNat:Int):=by
   grind[yV,Kq,List.getD,List.getElem?_eq_some_iff,Option.map_eq_some_iff]
  refine .slice (val:=λi j=> .int .u8 ((z.data.toList.getD i 0).toNat:Int)) hlen (by simp[*]) hg hc (λh=>by have:=r.hp.aBZ _ h;grind) (by rw[Lib.bytesWorld_size];simp)
   (by grind) (λi j e' d' t y=> ?_) (λi j e' d' t y=> ?_)
  ·grind[Lib.bytesWorld_cell,fT]
  ·obtain⟨G,rfl,rfl⟩:=c i j e' d' t y;have hb:=(z.data.toList.getD i 0).toNat_lt;exact .int (gt _) (show(((z.data.toList.getD i 0).toNat:Nat):Int)<=255 by omega)
def nN (G:Good P g Y TI FZ)(r:bB Y.C E s a w β){o:Oper}{op:Op}(ho:o.op=op){K:Sv U->St U->Option α}{z:α}(h:aDe Y TI s op (λx=>K x s)=some z):∃x s',K x s'=some z/\PO P Y.C E a w β o x s'/\s'.t=s.t/\s'.fr=s.fr/\Am s.m s'.m:=by obtain⟨x,h1,h2⟩:=aHv G.ti r h;obtain⟨v,k1,k2⟩:=h2 o ho;exact⟨x,s,h1,⟨v,k1,r,k2⟩,rfl,rfl,Am.refl _⟩
def Wu (G:Good P g Y TI FZ)(r:bB Y.C E s a w β){o:Oper}{op:Op}(ho:o.op=op)(hc:Fg FZ op=0){K:Sv U->St U->Option α}{z:α}(h:stp Y TI FZ s op K=some z):∃x s',K x s'=some z/\PO P Y.C E a w β o x s'/\s'.t=s.t/\s'.fr=s.fr/\Am s.m s'.m:=by
 unfold stp at h;split at h
 ·cases hc
 ·cases hc
 ·cases hc
 ·cases hc
 ·cases hc
 ·cases hc
 ·grind[Fg]
 ·rename_i t x y u;split at h
  ·rename_i c n B;cases hn:decide (n=1) with
   |false=>rw[hn] at h;exact nN G r ho h
   |true=>
    rw[hn] at h;simp only[ae] at h;cases hm:nth s.m.ns c with
    |none=>simp_all
    |some p=>
     obtain⟨i,f⟩:=p;rw[hm] at h;cases f with
     |false=>exact nN G r ho h
     |true=>grind[bTi,aR,Am.aCH,List.getElem?_append_left,lt_of_some]
  ·exact nN G r ho h
 ·rename_i F q x;cases hm:kG FZ (q+1000000) with
  |some S=>grind[Fg]
  |none=>simp only[hm] at h;exact nN G r ho h
 ·exact nN G r ho h
 ·rename_i t x b;cases hm:kG FZ 2000000 with
  |none=>simp only[hm] at h;exact nN G r ho h
  |some S=>
   simp only[hm] at h;split at h
   ·rename_i e ek eb k H i q0 n h1 h2 A;split at h
    ·rename_i τ d l rv cv j;rw[aR] at j;cases hb:(Nat.beq rv q0&&K4 (U:=U) e ek τ) with
     |false=>simp_all
     |true=>rw[hb] at h;simp only[ae] at h;simp only[K4,ab] at hb;obtain⟨hg,h⟩:=kM h;obtain⟨v,k1,k2⟩:=bVr G.ti r h1 h2 A j (ai hb.1) (ai hb.2.2) hg o ho;exact⟨_,s,h,⟨v,k1,r,k2⟩,rfl,rfl,Am.refl _⟩
    ·cases h
   ·exact nN G r ho h
 ·exact nN G r ho h
def bB.aBT {C:Cod U}(r:bB C E s a w β){b T rv cv:Nat}{cs:List (Lf U)}{c:List Nat}(h:s.m.o[b]? =some ⟨.box T cs c,rv,cv⟩):cs.length=c.length:=by obtain⟨t,ht⟩:=r.hp.tr h;exact(r.hp.ok b t _ ht h).1
def aUd {b T rv cv off n:Nat}{cs ps:List (Lf U)}{c:List Nat}{d:Nat}(j:s.m.o[b]? =some ⟨.box T cs c,rv,cv⟩)(h:ps.length=n)(i:off+n<=cs.length)(hl:cs.length=c.length):
  Am s.m (trn s b (.box T (spl cs off ps) (spl c off (ps.map λ_=>Nat.succ s.m.k))) d).m:=by
 have l:=Wn cs off ps (by rw[h];exact i);have p:=Wn c off (ps.map λ_=>Nat.succ s.m.k) (by rw[bn,h,<-hl];exact i);refine Am.turn (ids:=[]) s.m λ_ e he=> ?_;rw[j] at he;injection he with he;subst he;refine⟨rfl,λq cs1 vs1 T' cs' vs' k1 k2=> ?_⟩
 grind[Option.some.injEq,List.length_map,Wl,k2,k1]
def bO3 {e i:Nat}{c:Lf U}{d:Bool}{l:List (U.El e)}{s1:St U}(h:apD s e c=some (i,d,l,s1)):s1.t=s.t/\s1.fr=s.fr/\Am s.m s1.m:=by
 cases c with
 |nil=>simp only[apD,aj,cD] at h;obtain⟨_,_,_,rfl⟩:=h;exact⟨rfl,rfl,Am.add _ _⟩
 |own j q=>
  grind[d0,Nat.beq,Option.some.injEq,Prod.mk.injEq,Am.refl,apD]
 |_=>cases h
def SO.to {C:Cod U}{o:Oper}{x:Sv U}{s':St U}{b:Bool}(h:SO P C E a w o x s' true):SO P C E a w o x s' b:=by
 cases b with
 |true=>exact h
 |false=>exact h.soft
def bHm {xs:Array Operand}{l:List Operand}(h:xs.toList=l):xs=l.toArray:=by grind
def bHn {xs:Array TypeId}{l:List TypeId}(h:xs.toList=l):xs=l.toArray:=by grind
def RdL.agg {w:World}{X:Nat->Prop}{vs:List Value}{d:List V}(h:Rd w X [] (.agg vs.toArray) (.agg d)):RdL w X vs d:=by obtain⟨vs',e,h2,j⟩:=h.aAZ;injection e with e;subst e;exact⟨by simpa using h2,λi v c p q=>j i v c (by simpa using p) q⟩
def bHo (G:Good P g Y TI FZ)(r:bB Y.C E s a w β){o:Oper}{op:Op}(ho:o.op=op){K:Sv U->St U->Option α}{z:α}(h:stp Y TI FZ s op K=some z):∃x s',K x s'=some z/\SO P Y.C E a w o x s' (Nat.ble (Fg FZ op) 1)/\s'.t=s.t/\s'.fr=s.fr/\Am s.m s'.m:=by
 by_cases hc:Fg FZ op=0
 ·obtain⟨x,s',h1,h2,A⟩:=Wu G r ho hc h;rw[hc];exact⟨x,s',h1,SO.aDN h2,A⟩
 unfold stp at h;split at h
 ·rename_i T x;cases hp:parts (xW s x) with
  |none=>rw[hp] at h;cases h
  |some cs=>
   rw[hp] at h;cases ha:Qv cs with
   |false=>simp[ha] at h
   |true=>simp only[ha,ae] at h;exact⟨_,_,h,bTd r ho hp ha,rfl,rfl,Am.add _ _⟩
 ·rename_i T;cases hf:kG TI T with
  |none=>rw[hf] at h;cases h
  |some i=>rw[hf] at h;exact⟨_,_,h,bMa G.ti r ho hf,rfl,rfl,Am.add _ _⟩
 ·rename_i t x y;split at h
  ·rename_i i b off ps h1 h2 A;split at h
   ·rename_i T cs us rv cv v;rw[aR] at v;cases hb:(Nat.beq (len ps) i.k&&(Nat.ble (off+i.k) (len cs)&&Qv ps)) with
    |false=>rw[hb] at h;cases h
    |true=>rw[hb] at h;simp only[ae] at h;simp only[ab,bL] at hb;exact⟨_,_,h,aZb G.ti r ho h1 h2 A v (ai hb.1) (aE hb.2.1) hb.2.2,rfl,rfl,aUd v (ai hb.1) (aE hb.2.1) (r.aBT v)⟩
   ·cases h
  ·rename_i i b c τ q z' off ps h1 h2 A;cases hv:okv s.m b c with
   |false=>rw[hv] at h;cases h
   |true=>
    rw[hv] at h;simp only[ae] at h;split at h
    ·rename_i τ' d l rv cv v;rw[aR] at v;cases hs:slq τ τ' l with
     |none=>rw[hs] at h;cases h
     |some l1=>
      rw[hs] at h;obtain⟨rfl,Z⟩:=nM hs;obtain rfl:=dv Z;simp only at h;split at h
      ·rename_i ds ids d' H;rw[bG8,aP5] at H;cases hb:(Nat.beq (len ps) i.k&&(Nat.ble (off+i.k) (U.K τ')&&(Qv ps&&dist (b::ids)))) with
       |false=>rw[hb] at h;cases h
       |true=>
        rw[hb] at h;simp only[ae] at h;simp only[ab,bL] at hb;split at h
        ·rename_i z2 h9;obtain⟨e',k1,k2⟩:=Qy hv;rw[v] at k1;injection k1 with k1;subst k1;exact⟨_,_,h,aVa G.ti G.lay r ho h1 h2 A v k2 (ai hb.1) (aE hb.2.1) hb.2.2.1 H (Qz.1 hb.2.2.2) h9,rfl,rfl,Am.tree _⟩
        ·cases h
      ·cases h
    ·cases h
  ·rename_i i b c τ q z j τ' l q' z' off ps h1 h2 A;cases hv:okv s.m b c with
   |false=>rw[hv] at h;cases h
   |true=>
    rw[hv] at h;simp only[ae] at h;split at h
    ·rename_i τ1 d L rv cv v;rw[aR] at v;cases hs:slq τ τ1 L with
     |none=>rw[hs] at h;cases h
     |some l1=>
      rw[hs] at h;obtain⟨rfl,Z⟩:=nM hs;obtain rfl:=dv Z;simp only at h;split at h
      ·rename_i ds ids d' H;rw[bG8,aP5] at H;cases hb:(Nat.beq (len ps) i.k&&(Nat.ble (off+i.k) (U.K τ')&&(Qv ps&&dist (b::ids)))) with
       |false=>rw[hb] at h;cases h
       |true=>
        rw[hb] at h;simp only[ae] at h;simp only[ab,bL] at hb;split at h
        ·rename_i z2 h9;split at h
         ·rename_i z3 h10;obtain⟨e',k1,k2⟩:=Qy hv;rw[v] at k1;injection k1 with k1;subst k1;exact⟨_,_,h,bEn G.ti G.lay r ho h1 h2 A v k2 (ai hb.1) (aE hb.2.1) hb.2.2.1 H (Qz.1 hb.2.2.2) h9 h10,rfl,rfl,Am.tree _⟩
         ·cases h
        ·cases h
      ·cases h
    ·cases h
  ·cases h
 ·rename_i t n ps;split at h
  ·rename_i e ek eb k zz h1;cases hb:(Nat.beq (len ps.toList) n&&(Nat.ble (n*ek) 16777216&&K4 (U:=U) e ek e)) with
   |false=>rw[hb] at h;cases h
   |true=>
    rw[hb] at h;simp only[ae] at h;simp only[ab,bL] at hb;split at h
    ·rename_i l ids d V;cases hd:dist (len s.m.o::ids) with
     |false=>rw[hd] at h;cases h
     |true=>rw[hd] at h;simp only[ae] at h;have hJ:=Qz.1 hd;rw[bL] at hJ;exact⟨_,_,h,bMd G.ti G.lay r ho h1 (ai hb.1) (aE hb.2.1) hb.2.2 V hJ,rfl,rfl,(Am.add s.m [⟨.dead,s.m.k,s.m.k⟩]).trans (Am.tree _)⟩
    ·cases h
  ·cases h
 ·rename_i t x y;split at h
  ·rename_i e ek eb k zz h1;split at h
   ·rename_i i n h2 A;cases hb:(aYw x y&&(Nat.ble eb 2048&&K4 (U:=U) e ek e)) with
    |false=>rw[hb] at h;cases h
    |true=>
     rw[hb] at h;simp only[ae] at h;simp only[ab] at hb;split at h
     ·rename_i ds W;split at h
      ·rename_i z2 H;obtain⟨hg,h⟩:=kM h;exact⟨_,_,h,bOz G.ti G.lay r ho h1 h2 A hb.1 hb.2.1 hb.2.2 W H hg,rfl,rfl,Am.add _ _⟩
      ·cases h
     ·cases h
   ·cases h
  ·cases h
 ·rename_i xa ats;split at h
  ·rename_i x y t t2 hxa I;split at h
   ·rename_i e ek eb k zz h1;cases hb:(Nat.beq t t2&&(Nat.ble eb 2048&&K4 (U:=U) e ek e)) with
    |false=>rw[hb] at h;cases h
    |true=>
     rw[hb] at h;simp only[ae] at h;simp only[ab] at hb;obtain rfl:t=t2:=ai hb.1;split at h
     ·rename_i i c τ n l py v V;cases hv:okv s.m i c with
      |false=>rw[hv] at h;cases h
      |true=>
       rw[hv] at h;simp only[ae] at h;cases hs:slq e τ l with
       |none=>rw[hs] at h;cases h
       |some l1=>
        rw[hs] at h;obtain⟨rfl,Z⟩:=nM hs;obtain rfl:=dv Z;simp only at h;split at h
        ·rename_i l' d' W;cases J:Nat.ble 1 (len l') with
         |false=>rw[J] at h;cases h
         |true=>rw[J] at h;obtain⟨hg,h⟩:=kM h;rw[bHm hxa,bHn I] at ho ⊢;exact⟨_,_,h,aVb G.ti G.lay r ho h1 hb.2.1 hb.2.2 v V hv W (by rw[<-bL];exact aE J) hg,rfl,rfl,Am.turn (ids:=[]) s.m (λh=>by cases h)⟩
        ·cases h
     ·rename_i px py _ v V;split at h
      ·rename_i i d l s1 h6;split at h
       ·rename_i l' ids d' W;obtain⟨hg,h⟩:=kM h;rw[bHm hxa,bHn I] at ho ⊢;exact⟨_,_,h,bJ1 G.ti G.lay r ho h1 hb.2.1 hb.2.2 v V h6 W hg,(bO3 h6).1,(bO3 h6).2.1,(bO3 h6).2.2.trans (Am.tree _)⟩
       ·cases h
      ·cases h
     ·cases h
   ·cases h
  ·cases h
 ·rename_i f xa ats;split at h
  ·rename_i S hS;have O:=G.fs f S (bJo hS);cases hpt:(S.wt&&S.fr) with
   |true=>simp only[hpt,ae] at h;cases h
   |false=>
   simp only[hpt,ac] at h;split at h
   ·rename_i z1 hz;cases hmk:S.wt with
    |true=>rw[hmk] at h;cases h
    |false=>
     rw[hmk] at h;simp only[ac] at h;cases B:S.fr with
     |true=>rw[B] at h;simp only[ae] at h;obtain⟨q,hq,h⟩:=jN h;exact⟨_,_,h,(aVc r ho O hz hmk B hq).to,rfl,rfl,Am.add _ _⟩
     |false=>
      rw[B] at h;simp only[ac] at h;cases F:(Qh Y S.rs||sI (xa.toList.map (eG s))) with
      |false=>
       rw[F] at h;simp only[ac] at h;cases hi:bLw s.m (xa.toList.map (eG s)) with
       |none=>rw[hi] at h;cases h
       |some p=>obtain⟨i,c⟩:=p;rw[hi] at h;simp only at h;obtain⟨q,hq,h⟩:=jN h;exact⟨_,_,h,(bEo r ho O hz hmk B hi hq).to,rfl,rfl,Am.refl _⟩
      |true=>rw[F] at h;simp only[ae] at h;obtain⟨q,hq,h⟩:=jN h;rw[ck] at F;exact⟨_,_,h,(Yg G.lay r ho O hz hmk B F hq).to,rfl,rfl,Am.refl _⟩
   ·cases h
  ·cases h
 ·exact absurd rfl hc
 ·rename_i ta tb x;have mk:∀{K:Sv U->St U->Option α} {z:α},aDe Y TI s (.convert ta tb x) (λx=>K x s)=some z->∃y s',K y s'=some z/\SO P Y.C E a w o y s' (Nat.ble (Fg FZ (.convert ta tb x)) 1)/\s'.t=s.t/\s'.fr=s.fr/\Am s.m s'.m:=λh=>by
   obtain⟨y,k1,k2⟩:=aHv G.ti r h;exact⟨y,s,k1,(SO.aCS r (o:=o) (by rw[ho];exact k2)).to,rfl,rfl,Am.refl _⟩
  cases hm:kG FZ (tb+1000000) with
  |none=>simp only[hm] at h;exact mk h
  |some S=>
   simp only[hm] at h;split at h
   ·rename_i k1 z1 e ek eb k2 z2 k3 z3 z h1 h2 A v;cases hb:Nat.beq e Y.bt with
    |false=>rw[hb] at h;cases h
    |true=>rw[hb] at h;have he:=ai hb;subst he;exact⟨_,_,h,(bTm r ho (Wp (bM G.ti h1) rfl).1 (fH (Kt (bM G.ti h2) rfl).1).1 (K5 (bM G.ti A) rfl).1 v).to,rfl,rfl,Am.refl _⟩
   ·exact mk h
 ·exact absurd rfl hc
 ·exact absurd rfl hc
 ·rename_i h1 h2 A v V h6 W H h9;obtain⟨x,k1,k2⟩:=aHv G.ti r h;refine⟨x,s,k1,?_,rfl,rfl,Am.refl _⟩;exact(by
   have hle:Nat.ble (Fg FZ op) 1=true\/Nat.ble (Fg FZ op) 1=false:=by cases Nat.ble (Fg FZ op) 1<;>simp
   have:=SO.aCS r (o:=o) (by rw[ho];exact k2);rcases hle with e|e
   ·rw[e];exact this
   ·rw[e];exact this.soft)
end
end Go.EV
namespace Go.EV
open Go.RowKit Go.VK
variable {U:Uni} {Y:Lay U} {TI:List (Nat×TInfo)} {FZ:List (Nat×Sum U)} {P:Program} {g:GI} {E:Env U g}
structure Ag (D:Nat->Prop) (s s':St U):Prop where
 t:∀n,¬D n->s'.t[n]? =s.t[n]?
 tl:s'.t.length=s.t.length
 fr:s'.fr=s.fr
 m:Am s.m s'.m
theorem Ag.refl {D:Nat->Prop}(s:St U):Ag D s s:=⟨λ_ _=>rfl,rfl,rfl,Am.refl _⟩
theorem Ag.trans {D:Nat->Prop}{s s' c:St U}(h:Ag D s s')(d:Ag D s' c):Ag D s c:=⟨λn hn=>(d.t n hn).trans (h.t n hn),d.tl.trans h.tl,d.fr.trans h.fr,h.m.trans d.m⟩
def Ag.mono {D D':Nat->Prop}{s s':St U}(h:Ag D s s')(hd:∀n,D n->D' n):Ag D' s s':=⟨λn hn=>h.t n (λc=>hn (hd n c)),h.tl,h.fr,h.m⟩
def Ag.put {D:Nat->Prop}{s s':St U}(h:Ag D s s'){d:Option Nat}{x:Sv U}(hd:∀n,d=some n->D n):Ag D s (put s' d x):=by
 cases d with
 |none=>exact h
 |some n=>
  refine⟨λk hk=> ?_,?_,h.fr,h.m⟩
  ·simp only[EV.put,cK];rw[bg (λe=>hk (by rw[<-e];exact hd n rfl))];exact h.t k hk
  ·simp only[EV.put,cK,ay];exact h.tl
section
variable {s:St U} {a:Act} {w:World} {β:List Tr} {α:Type} {C:Cod U}
def bB.set (r:bB C E s a w β){n:Nat}{x:Sv U}(h:x.mean C w (E.X β) β s.m (a.tmps.getD n undef)):bB C E (EV.put s (some n) x) a w β:=by
 refine⟨r.hp,r.defers,by simp only[EV.put,cK,ay];exact r.tsz,λm y hm=> ?_⟩;simp only[EV.put,cK] at hm ⊢;by_cases he:n=m
 ·subst he;have hl:n<s.t.length:=by have:=lt_of_some hm;simpa using this
  rw[bm hl] at hm;injection hm with hm;subst hm;exact h
 ·rw[bg he] at hm;exact r.tm m y hm
def bHp (r:bB C E s a w β){n:Nat}{T F:St U->Option α}{z:α}(h:tst n s T F=some z):
  ∃b s',a.tmps.getD n undef= .bool b/\n<s.t.length/\bB C E s' a w β/\(b=true->T s'=some z)/\(b=false->F s'=some z)/\Ag (λk=>k=n) s s':=by
 unfold tst at h;rw[aR] at h;split at h
 ·rename_i b p;have hm:a.tmps.getD n undef= .bool b:=r.tm n _ p;cases b with
  |true=>exact⟨true,_,hm,lt_of_some p,r.set (x:= .l (.bool true)) hm,λ_=>h,λh=>(by cases h),(Ag.refl s).put (λk e=>by injection e with e;exact e.symm)⟩
  |false=>exact⟨false,_,hm,lt_of_some p,r.set (x:= .l (.bool false)) hm,λh=>(by cases h),λ_=>h,(Ag.refl s).put (λk e=>by injection e with e;exact e.symm)⟩
 ·rename_i c m p;obtain⟨i,f,k1,k2,k3⟩:=r.tm n _ p;rw[aR,k1] at h;simp only at h;cases hb:decide ((i:Int)<m) with
  |true=>
   rw[hb] at h k2;have y:=of_decide_eq_true hb;have v:∀(q j:Nat) (f':Bool),s.m.ns[q]? =some (j,f')->∃A,(upd s.m.ns c (i,true))[q]? =some (j,A):=λq j f' d=>by
    rw[cK];by_cases he:c=q
    ·subst he;rw[k1] at d;injection d with d;injection d with d _;subst d;exact⟨true,bm (lt_of_some k1)⟩
    ·exact⟨f',by rw[bg he];exact d⟩
   have H:bB C E ⟨s.t,⟨s.m.o,s.m.k,upd s.m.ns c (i,true)⟩,s.fr⟩ a w β:=r.aCH v (λq j d=>by
    rw[cK] at d;by_cases he:c=q
    ·subst he;rw[bm (lt_of_some k1)] at d;have B:i=j:=congrArg Prod.fst (ak d);rw[<-B];exact fW (Int.add_one_le_iff.2 y) k3
    ·rw[bg he] at d;exact r.hp.cnt q j d)
   have G:Ag (λk=>k=n) s (⟨s.t,⟨s.m.o,s.m.k,upd s.m.ns c (i,true)⟩,s.fr⟩:St U):=⟨λ_ _=>rfl,rfl,rfl,Am.aCH _ v⟩;exact⟨true,_,k2,lt_of_some p,H.set (x:= .l (.bool true)) k2,λ_=>h,λh=>(by cases h),G.put (λk e=>by injection e with e;exact e.symm)⟩
  |false=>rw[hb] at h k2;exact⟨false,_,k2,lt_of_some p,r.set (x:= .l (.bool false)) k2,λh=>(by cases h),λ_=>h,(Ag.refl s).put (λk e=>by injection e with e;exact e.symm)⟩
 ·cases h
def Wr (al:List Oper)(o:Oper)(n:Nat):Prop:=o.dst=some n\/∃j b oj,o.guard=some (j,b)/\al[j]? =some oj/\oj.dst=some n
def bO4 {al:List Oper}{j n:Nat}{oj:Oper}{b:Bool}(c:al[j]? =some oj)(hd:oj.dst=some n)(hn:n<a.tmps.size)(hv:a.tmps.getD n undef= .bool b):yielded al.toArray a.tmps j=some b:=by
 have h2:a.tmps[n]? =some (.bool b):=by rw[ct,cL hn] at hv;rw[cL hn];exact congrArg some hv
 simp[yielded,c,hd,h2]
def bTn {al:List Oper}{j n:Nat}{oj:Oper}(c:al[j]? =some oj)(hd:oj.dst=some n)(hn:n<a.tmps.size)(hv:a.tmps.getD n undef=undef):yielded al.toArray a.tmps j=none:=by
 have h2:a.tmps[n]? =some undef:=by rw[ct,cL hn] at hv;rw[cL hn];exact congrArg some hv
 simp[yielded,c,hd,h2,undef]
def Wv (r:bB C E s a w β){al:List Oper}{o:Oper}{run:St U->Option α}{K:St U->Option α}{z:α}(h:bJj al o run s K=some z):
  ∃s',bB C E s' a w β/\Ag (Wr al o) s s'/\((Region.wanted o (yielded al.toArray a.tmps)=true/\run s'=some z)\/(Region.wanted o (yielded al.toArray a.tmps)=false/\skp o s' K=some z)):=by
 unfold bJj at h;split at h
 ·rename_i hg;exact⟨s,r,Ag.refl s, .inl ⟨by simp[Region.wanted,hg],h⟩⟩
 ·rename_i j want hg;rw[aR] at h;split at h
  ·rename_i oj i;split at h
   ·rename_i n hd;cases c:bZ4 (nth s.t n) with
    |true=>
     rw[c] at h;rw[aR] at c;have p:s.t[n]? =some (.l .und):=by
      cases hq:s.t[n]? with
      |none=>rw[hq] at c;cases c
      |some x=>
       rw[hq] at c;cases x with
       |l y=>cases y<;>first|rfl|cases c
       |_=>cases c
     have hv:a.tmps.getD n undef=undef:=r.tm n _ p;have d:=bTn (a:=a) i hd (by rw[r.tsz];exact lt_of_some p) hv;exact⟨s,r,Ag.refl s, .inr ⟨by simp[Region.wanted,hg,d],h⟩⟩
    |false=>
     rw[c] at h;simp only[ac] at h;obtain⟨b,s',k1,k2,k3,k4,k5,k6⟩:=bHp r h;have d:=bO4 (a:=a) i hd (by rw[r.tsz];exact k2) k1;refine⟨s',k3,k6.mono (λk e=>by subst e;exact .inr ⟨j,want,oj,hg,i,hd⟩),?_⟩;cases b with
     |true=>
      have q:=k4 rfl;cases want with
      |true=>exact .inl ⟨by simp[Region.wanted,hg,d],q⟩
      |false=>exact .inr ⟨by simp[Region.wanted,hg,d],q⟩
     |false=>
      have v:=k5 rfl;cases want with
      |true=>exact .inr ⟨by simp[Region.wanted,hg,d],v⟩
      |false=>exact .inl ⟨by simp[Region.wanted,hg,d],v⟩
   ·cases h
  ·cases h
def aQb (r:bB C E s a w β){al:List Oper}{o:Oper}{K:St U->Option α}{z:α}(h:grd Y TI FZ al o s K=some z):
  ∃s',bB C E s' a w β/\Ag (Wr al o) s s'/\((Region.wanted o (yielded al.toArray a.tmps)=true/\one Y TI FZ o s' K=some z)\/(Region.wanted o (yielded al.toArray a.tmps)=false/\skp o s' K=some z)):=Wv r h
def bJ5 (G:Good P g Y TI FZ)(r:bB Y.C E s a w β){al:List Oper}{o:Oper}{K:St U->Option α}{z:α}(h:grd Y TI FZ al o s K=some z){c:Act->World->Prop}{Q:Exit->Act->World->Prop}
  (hk:∀s' i w' β',Ag (Wr al o) s s'->K s'=some z->bB Y.C E s' i w' β'->(Nat.ble (Fg FZ o.op) 1=true->Ext w w')->c i w'):if Region.wanted o (yielded al.toArray a.tmps)=true then o.wp P a w c Q else c (a.put o.dst undef) w:=by
 obtain⟨s1,j,h1,h2⟩:=aQb r h;rcases h2 with⟨d,h2⟩|⟨d,h2⟩
 ·rw[cu d];unfold one at h2;obtain⟨x,s2,k1,k2,k3,k4,k5⟩:=bHo G j rfl h2;exact k2 c Q λv w' β' q1 q2 q3=>hk _ _ w' β' (Ag.put ⟨λn hn=>by rw[k3];exact h1.t n hn,by rw[k3];exact h1.tl,by rw[k4];exact h1.fr,h1.m.trans k5⟩ (λn e=> .inl e)) k1 (q1.put q2) q3
 ·rw[cG (by rw[d];simp)];exact hk _ _ w β (h1.put (λn e=> .inl e)) h2 (j.put (x:= .l .und) (v:=undef) (λ_=>rfl)) (λ_=>Ext.refl w)
def cBd (G:Good P g Y TI FZ)(r:bB Y.C E s a w β){al:List Oper}{o:Oper}(hc:Fg FZ o.op=0){K:St U->Option α}{z:α}(h:grd Y TI FZ al o s K=some z):
  ∃v s',((Region.wanted o (yielded al.toArray a.tmps)=true/\∀w',Ext w w'->(execOp a.eval o).run P w'= .ok (.value v) w')\/(Region.wanted o (yielded al.toArray a.tmps)=false/\v=undef))/\bB Y.C E s' (a.put o.dst v) w β/\K s'=some z/\Ag (Wr al o) s s':=by
 obtain⟨s1,d,h1,h2⟩:=aQb r h;rcases h2 with⟨c,h2⟩|⟨c,h2⟩
 ·unfold one at h2;obtain⟨x,s2,k1,⟨v,i,j,k⟩,k3,k4,k5⟩:=Wu G d rfl hc h2;exact⟨v,_, .inl ⟨c,i⟩,j.put (λ_=>k),k1,Ag.put ⟨λn hn=>by rw[k3];exact h1.t n hn,by rw[k3];exact h1.tl,by rw[k4];exact h1.fr,h1.m.trans k5⟩ (λn e=> .inl e)⟩
 ·exact⟨undef,_, .inr ⟨c,rfl⟩,d.put (x:= .l .und) (v:=undef) (λ_=>rfl),h2,h1.put (λn e=> .inl e)⟩
def aC4 (G:Good P g Y TI FZ){al:List Oper}{Q:Exit->Act->World->Prop}{D:Nat->Prop}:∀(l:List Oper) (s:St U) (K:St U->Option α) (z:α),(∀o∈l,∀n,Wr al o n->D n)->ops Y TI FZ al l s K=some z->
  ∀(rest:List Oper),(∀s' a w β,Ag D s s'->K s'=some z->bB Y.C E s' a w β->wpList P al.toArray Q rest a w)->∀a w β,bB Y.C E s a w β->wpList P al.toArray Q (l++rest) a w
 |[],s,K,z,_,h,rest,hk,a,w,β,r=>hk s a w β (Ag.refl s) h r
 |o::l,s,K,z,e,h,rest,hk,a,w,β,r=>by
  simp only[ops] at h;refine wpList_step λv c=>bJ5 G r h λs' i w' β' q1 q2 q3 _=>c _ _ ?_
  have d:=q1.mono (e o (by simp));exact aC4 G l s' K z (λo ho=>e o (by simp[ho])) q2 rest (λs2 j k β2 p q t=>hk s2 j k β2 (d.trans p) q t) i w' β' q3
end
end Go.EV
namespace Go.EV
open Go.RowKit Go.VK
variable {U:Uni} {Y:Lay U} {TI:List (Nat×TInfo)} {FZ:List (Nat×Sum U)} {P:Program} {g:GI} {E:Env U g}
def Env.frm (E:Env U g)(l:List (World×Nat×Nat)):Env U g:=⟨E.X0,E.Y0,E.w0,E.prm,l,E.h0,E.hY,E.hXY,E.hg,E.pin⟩
section
variable {C:Cod U} {s:St U} {a:Act} {w w':World} {β:List Tr}
def bB.frame (r:bB C E s a w β)(hp:E.prm=[]):bB C (E.frm [(w,s.m.o.length,s.m.k)]) s a w β:=by
 have H:=r.hp;refine⟨⟨H.ext,H.len,H.vers,H.cnt,H.new,H.dist,H.nd,H.ok,H.pin,λx d=> ?_,λf e=> ?_⟩,r.defers,r.tsz,r.tm⟩
 ·have h:x∈E.prm:=d;simp_all
 ·have c:f∈[(w,s.m.o.length,s.m.k)]:=e;simp at c;subst c;refine⟨ao _,ao _,ao _, .inr ⟨Ext.refl w,λi t b hi ht _=> ?_⟩⟩;have h1:=lt_of_some ht;have h2:s.m.o.length<=i:=hi;rw[H.len] at h1;omega
def bB.aBY {l:List (World×Nat×Nat)}(r:bB C (E.frm l) s a w β)(c:E.fr=[]):bB C E s a w β:=by
 have H:=r.hp;exact⟨⟨H.ext,H.len,H.vers,H.cnt,H.new,H.dist,H.nd,H.ok,H.pin,λx d=>by
  obtain⟨h1,h2,_,e⟩:=H.prm x d;exact⟨h1,h2,by rw[c];simp,e⟩,by simp[*]⟩,r.defers,r.tsz,r.tm⟩
def bMi:∀{n k:Nat} {o:List (EO U)},unt n k o=true->∀(j:Nat) (e:EO U),j<n->o[j]? =some e->e.cv<=k
 |0,_,_,_,j,_,h,_=>by omega
 |_+1,_,[],_,j,e,_,h=>by simp at h
 |n+1,k,x::o,h,j,e,c,he=>by
  simp only[unt,ab] at h;cases j with
  |zero=>have:=ak he;subst this;exact aE h.1
  |succ j=>exact bMi h.2 j e (by omega) (by simpa using he)
def bB.unt (r:bB C E s a w β){f:World×Nat×Nat}(d:f∈E.fr)(h:unt f.2.1 f.2.2 s.m.o=true):Ext f.1 w:=by
 obtain⟨_,_,_,c⟩:=r.hp.fr f d;rcases c with⟨j,e,h1,h2,c⟩|⟨c,_⟩
 ·have:=bMi h j e h1 h2;omega
 ·exact c
def Env.ahd (E:Env U g)(b:Nat)(blk:Obj)(hb:E.w0.heap.size<=b):Env U g:=
 ⟨λc=>E.X0 c\/c=b,E.Y0,E.w0,(b,blk)::E.prm,E.fr,λc h=>by
  rcases h with h|rfl
  ·rcases E.h0 c h with h|⟨x,i,e⟩
   ·exact .inl h
   ·exact .inr ⟨x,by simp[i],e⟩
  ·exact .inr ⟨(c,blk),dT,rfl⟩,E.hY,λc h d=>by
  rcases h with h|rfl
  ·exact E.hXY c h d
  ·have:=E.hY _ d;omega,E.hg,E.pin⟩
theorem cAc {b:Nat}{blk:Obj}{hb:E.w0.heap.size<=b}{β:List Tr}{c:Nat}:(E.ahd b blk hb).X β c↔E.X β c\/c=b:=by
 unfold Env.X;constructor
 ·rintro((h|h)|h|h)
  ·simp[*]
  ·exact .inr h
  ·exact .inl (.inr (.inl h))
  simp[*]
 ·rintro((h|h|h)|h)
  ·exact .inl (.inl h)
  ·exact .inr (.inl h)
  ·simp[*]
  ·exact .inl (.inr h)
def bB.ahead (r:bB C E s a w β){blk:Obj}(hb:E.w0.heap.size<=w.heap.size):bB C (E.ahd w.heap.size blk hb) s a (w.alloc blk) β:=by
 have H:=r.hp;have he:Ext w (w.alloc blk):=Ext.alloc _ _;have j:(w.alloc blk).heap[w.heap.size]? =some blk:=by show(w.heap.push blk)[w.heap.size]? =some blk;simp
 have ev:Evo w (w.alloc blk) (E.X β) ((E.ahd w.heap.size blk hb).X β) β β s.m s.m s.m.o.length s.m.ns.length s.m.k:=⟨he.size,(by grind[cAc]),λ_ _ _ h=>he.cell h,ao _,(by grind),λi e t _ h1 h2=>⟨e,t,h1,h2,λ_=>⟨rfl,rfl⟩,λ_=>⟨rfl,rfl,rfl,λb hb=>he.block b (H.new i t b h2 hb).2⟩,λh=>⟨h,rfl⟩⟩⟩;refine⟨⟨H.ext.trans (Bel.aBJ he),H.len,H.vers,H.cnt,λi t b h1 h2=>⟨(H.new i t b h1 h2).1,ca (H.new i t b h1 h2).2 he.size⟩,H.dist,H.nd,λi t e h1 h2=>Ob.aBE ev (H.ok i t e h1 h2) λb hb=>he.block b (H.new i t b h1 hb).2,λx d=>Sv.aAV ev (H.pin x d),λx d=> ?_,λf l=> ?_⟩,r.defers,r.tsz,λn x d=>Sv.aAV ev (r.tm n x d)⟩
 ·have c:x∈(w.heap.size,blk)::E.prm:=d;rcases bl.1 c with rfl|c
  ·refine⟨hb,j,λf l=> ?_,λi t ht hm=> ?_⟩
   ·exact(H.fr f l).2.2.1
   ·have:=(H.new i t _ ht hm).2;omega
  ·obtain⟨h1,h2,p,v⟩:=H.prm x c;exact⟨h1,(he.block _ (bz.1 h2).1).trans h2,p,v⟩
 ·obtain⟨h1,h2,h0,p⟩:=H.fr f l;exact⟨h1,h2,bo h0 he.size,p.imp id λq=>⟨q.1.trans he,q.2⟩⟩
def bB.aCO {b:Nat}{blk:Obj}{hb:E.w0.heap.size<=b}(r:bB C (E.ahd b blk hb) s a w β)(L:E.prm=[]){e':EO U}{t':Tr}{c:Nat}(hk:s.m.k<=c)(hv:e'.rv<=c/\e'.cv<=c)(ht:t'.all=[b])
  (B:Evo w w ((E.ahd b blk hb).X β) (E.X (β++[t'])) β (β++[t']) s.m ⟨s.m.o++[e'],c,s.m.ns⟩ s.m.o.length s.m.ns.length s.m.k->w.heap[b]? =some blk->e'.ob.ok C w (E.X (β++[t'])) (β++[t']) ⟨s.m.o++[e'],c,s.m.ns⟩ t'):
  bB C E ⟨s.t,⟨s.m.o++[e'],c,s.m.ns⟩,s.fr⟩ a w (β++[t']):=by
 have H:=r.hp;have hlen:=H.len;obtain⟨_,F,G,O⟩:=H.prm (b,blk) dT;have I:b<w.heap.size:=(bz.1 F).1;have ev:Evo w w ((E.ahd b blk hb).X β) (E.X (β++[t'])) β (β++[t']) s.m ⟨s.m.o++[e'],c,s.m.ns⟩ s.m.o.length s.m.ns.length s.m.k:=by
  refine⟨ao _,λS _ h=>cAc.2 ?_,λ_ _ _ h=>h,hk,(by grind),(by grind)⟩
  ·rcases h with h|h|⟨u,p,hm⟩
   ·exact .inl (.inl h)
   ·exact .inl (.inr (.inl h))
   ·rcases ce.1 p with p|p
    ·exact .inl (.inr (.inr ⟨u,p,hm⟩))
    simp_all
  all_goals grind
 have hb':∀(i:Nat) (t:Tr),(β++[t'])[i]? =some t->β[i]? =some t\/(i=β.length/\t=t'):=(by grind[List.getElem?_append_left,inl,lt_of_some]);have l:∀(i:Nat) (e:EO U),(s.m.o++[e'])[i]? =some e->s.m.o[i]? =some e\/(i=s.m.o.length/\e=e'):=(by grind[List.getElem?_append_left,inl,lt_of_some]);refine⟨⟨H.ext,by simp[hlen],λi e he=> ?_,H.cnt,λi t x h1 h2=> ?_,λi j t u x q h1 h2 v J=> ?_,λi t h1=> ?_,λi t e h1 h2=> ?_,λx d=>Sv.aAV ev (H.pin x d),(by simp[*]),λf z=> ?_⟩,r.defers,r.tsz,λn x d=>Sv.aAV ev (r.tm n x d)⟩
 ·rcases l i e he with h|⟨_,rfl⟩
  ·have:=H.vers i e h;grind
  ·exact hv
 ·rcases hb' i t h1 with h|⟨_,rfl⟩
  ·exact H.new i t x h h2
  simp_all
 ·rcases hb' i t h1 with h|⟨A,rfl⟩<;>rcases hb' j u h2 with y|⟨T,rfl⟩
  ·exact H.dist i j t u x q h y v J
  all_goals grind
 ·rcases hb' i t h1 with h|⟨_,rfl⟩
  ·exact H.nd i t h
  simp[*]
 ·rcases hb' i t h1 with h|⟨A,rfl⟩
  ·rcases l i e h2 with y|⟨A,_⟩
   ·exact Ob.aBE ev (H.ok i t e h y) λ_ _=>rfl
   simp_all
  simp_all
 ·obtain⟨h1,h2,h0,v⟩:=H.fr f z;refine⟨by simp;omega,bo h2 hk,h0,?_⟩;rcases v with⟨j,e,q1,q2,q3⟩|⟨q1,q2⟩
  ·grind
  ·refine .inr ⟨q1,λi t x hi h1 d=> ?_⟩;rcases hb' i t h1 with h|⟨_,rfl⟩
   ·grind
   ·rw[ht] at d;simp at d;subst d;exact G f z
def mkF (op:Op)(b:Nat):Value:=match op with
 | .buildSlice _ n _=> .slice (some ⟨b,0,none⟩) n n
 |_=> .pointer (some ⟨b,0,none⟩)
def Flp (P:Program)(a:Act)(o:Oper)(blk:Obj):Prop:=∀w:World,(execOp a.eval o).run P w= .ok (.value (mkF o.op w.heap.size)) (w.alloc blk)
def bO5 {γ:Type}{x:Option γ}(h:(!aK0 x)=true):∃y,x=some y:=by
 cases x with
 |none=>cases h
 |some y=>simp
def aH1 (c:uS P TI=true){o:Oper}{T:TypeId}{i:TInfo}(ho:o.op= .alloc T)(d:kG TI T=some i):∃vs:Array Value,Flp P a o (.cells vs T)/\∀(w:World) (X:Nat->Prop) (β:List Tr) (m:Mm U),Ms Y.C w X β m vs.toList (i.z.map Kz.lf):=by obtain⟨j,z,k3,k4,k5⟩:=aX7 (bM c d);refine⟨z.cells,λw=> ?_,λw X β m=>K6 k5⟩;simp_all[execOp,Instr.alloc,zeroValue,typeInfo,k3,k4,newVar,newRow,mkF]
def K7 {T:TypeId}(h:Kr Y TI s (.alloc T)=true):∃i,kG TI T=some i:=bO5 h
def K8 {t:TypeId}{n:Nat}{ps:Array (Nat×Operand)}(h:Kr Y TI s (.buildSlice t n ps)=true):∃e ek eb k c l d,kG TI t=some ⟨.sl e ek eb,k,c⟩/\ps.toList.length=n/\n*ek<=16777216/\K4 (U:=U) e ek e=true/\aGd Y s e 0 ps.toList=some (l,[],d):=by
 unfold Kr at h;simp only at h;split at h
 ·rename_i e ek eb k c h1;simp only[ab,bL] at h;obtain⟨q1,q2,q3,q4⟩:=h;split at q4
  ·rename_i l d i;exact⟨e,ek,eb,k,c,l,d,h1,ai q1,aE q2,q3,i⟩
  ·cases q4
 ·cases h
def aQc (j:uS P TI=true)(hY:LayOk Y)(r:bB Y.C E s a w β){o:Oper}{t:TypeId}{n e ek eb k:Nat}{x:List Kz}{ps:Array (Nat×Operand)}{l:List (U.El e)}{d:Bool}(ho:o.op= .buildSlice t n ps)
  (h1:kG TI t=some ⟨.sl e ek eb,k,x⟩) (h2:ps.toList.length=n) (y:n*ek<=16777216) (q:K4 (U:=U) e ek e=true) (z:aGd Y s e 0 ps.toList=some (l,[],d)):
  ∃cells:Array Value,Flp P a o (.cells cells e)/\0<U.K e/\n<=maxLen/\l.length=n/\cells.size=n*U.K e/\OwL Y.C w (E.X β) d cells.toList (l.map (Y.C.cel e)).flatten []:=by
 have c:=(Kt (bM j h1) rfl).1;obtain⟨_,_,_,_,_,_,_,_,h⟩:=fH c;simp only[K4,ab] at q;have i:U.K e=ek:=ai q.2;obtain⟨vs,k1,k2,k3,k4,k5⟩:=aHw hY r z;rw[i] at k4;have p:n<=maxLen:=by
  have:n*1<=n*ek:=fj _ h
  grind[maxLen]
 refine⟨(vs.map λv=>v.cells.toList).flatten.toArray,λw=> ?_,by rw[i];exact h,p,k3.trans h2,?_,by rw[List.toList_toArray];exact k5⟩
 ·obtain⟨cells,q1,q2⟩:=aZc (w:=w) c (k2.trans h2) y k1 k4 ho;have:cells=(vs.map λv=>v.cells.toList).flatten.toArray:=by rw[<-q2]
  grind[mkF,q1]
 ·have:=k5.len;rw[K3 (Y.C.hlen e),k3,h2] at this;assumption
def bHq (G:Good P g Y TI FZ)(r:bB Y.C E s a w β){o:Oper}(h:Kr Y TI s o.op=true):∃blk,Flp P a o blk:=by
 cases ho:o.op with
 |alloc T=>
  rw[ho] at h;obtain⟨i,c⟩:=K7 h;obtain⟨vs,k,_⟩:=aH1 (Y:=Y) (a:=a) G.ti ho c
  grind
 |buildSlice t n ps=>
  rw[ho] at h;obtain⟨e,ek,eb,k,x,l,d,h1,h2,j,p,v⟩:=K8 h;obtain⟨cells,q,_⟩:=aQc G.ti G.lay r ho h1 h2 j p v
  grind
 |_=>rw[ho] at h;cases h
def Flp.keep {o:Oper}{blk:Obj}(h:Flp P a o blk){d:Option Nat}{v:Value}(hd:bOu o d=true):Flp P (a.put d v) o blk:=by
 have e:execOp (a.put d v).eval o=execOp a.eval o:=by
  cases d with
  |none=>rfl
  |some n=>
   have c:(match o.op with
    | .alloc _=>true
    | .buildSlice _ _ ps=>ps.toList.all λx=>match x.2 with| .tmp m=> !Nat.beq n m|_=>true
    |_=>false)=true:=hd
   cases ho:o.op with
   |alloc T=>grind[execOp]
   |buildSlice t m ps=>
    rw[ho] at c;simp only[cI] at c;have:ps.map (λ(i,x)=>(i,(a.put (some n) v).eval x))=ps.map (λ(i,x)=>(i,a.eval x)):=by
     apply Array.map_congr_left;intro x j;have:=c x (by simpa using j);obtain⟨i,x⟩:=x;simp only[cD,true_and];refine Act.eval_put λd hd k=> ?_
     simp_all
    grind[execOp]
   |_=>rw[ho] at c;cases c
 intro w;rw[e];exact h w
theorem bTo {w:World}{x y:Obj}(h:w.alloc x=w.alloc y):x=y:=by
 have h1:w.heap.push x=w.heap.push y:=congrArg World.heap h;have h2:(w.heap.push x)[w.heap.size]? =(w.heap.push y)[w.heap.size]? :=by rw[h1]
 grind
def Flp.inj {o:Oper}{x y:Obj}(w:World)(h1:Flp P a o x)(h2:Flp P a o y):x=y:=by
 have:=(h1 w).symm.trans (h2 w)
 grind[bTo]
def bTp (G:Good P g Y TI FZ){b:Nat}{blk:Obj}{hb:E.w0.heap.size<=b}(r:bB Y.C (E.ahd b blk hb) s a w β)(B:E.prm=[]){o:Oper}(F:Flp P a o blk)(hg:Kr Y TI s o.op=true){α:Type}{K:Sv U->St U->Option α}{z:α}(h:stp Y TI FZ s o.op K=some z):
  ∃x s' β',K x s'=some z/\bB Y.C E s' a w β'/\x.mean Y.C w (E.X β') β' s'.m (mkF o.op b)/\s'.t=s.t/\s'.fr=s.fr/\Am s.m s'.m:=by
 have hlen:=r.hp.len;cases ho:o.op with
 |alloc T=>
  rw[ho] at hg h;obtain⟨i,hi⟩:=K7 hg;obtain⟨vs,k,L⟩:=aH1 (Y:=Y) (a:=a) G.ti ho hi;have c:=F.inj w k;subst c;have O:K (.l (.box (len s.m.o) 0)) (psh s (.box T (i.z.map Kz.lf) (i.z.map λ_=>s.m.k)))=some z:=by
   have:stp Y TI FZ s (.alloc T) K=match kG TI T with
    |some i=>K (.l (.box (len s.m.o) 0)) (psh s (.box T (i.z.map Kz.lf) (i.z.map λ_=>s.m.k)))
    |none=>none:=rfl
   rw[this,hi] at h;exact h
  have q:=r.aCO B (e':=⟨.box T (i.z.map Kz.lf) (i.z.map λ_=>s.m.k),s.m.k,s.m.k⟩) (t':=⟨some b,0,0,[]⟩) (ao _) ⟨ao _,ao _⟩ rfl (λp j=>⟨by simp,b,vs.toList,rfl,rfl,by simpa using j,L _ _ _ _⟩);refine⟨_,_,_,O,q,⟨rfl,⟨.box T (i.z.map Kz.lf) (i.z.map λ_=>s.m.k),s.m.k,s.m.k⟩,⟨some b,0,0,[]⟩,?_,?_,λ_=>⟨_,rfl,rfl⟩⟩,rfl,rfl,Am.add _ _⟩
  ·simp[psh,bL]
  ·rw[ax (by rw[hlen,bL];exact ao _),hlen,bL];simp
 |buildSlice t n ps=>
  rw[ho] at hg h;obtain⟨e,ek,eb,k,W,l,d,h1,h2,H,I,J⟩:=K8 hg;obtain⟨cells,q1,q2,q3,q4,q5,q6⟩:=aQc G.ti G.lay r ho h1 h2 H I J;have c:=F.inj w q1;subst c;have v:∀y:List (EO U),y=s.m.o++[(⟨.tree e d l,s.m.k,Nat.succ s.m.k⟩:EO U)]->K (.l (.own (len s.m.o) s.m.k)) ⟨s.t,⟨y,Nat.succ s.m.k,s.m.ns⟩,s.fr⟩=some z:=λy A=>by
   have:stp Y TI FZ s (.buildSlice t n ps) K=bif Nat.beq (len ps.toList) n&&(Nat.ble (n*ek) 16777216&&K4 (U:=U) e ek e) then(bif dist (len s.m.o::[]) then K (.l (.own (len s.m.o) s.m.k)) ⟨s.t,⟨upd (s.m.o++[⟨.dead,s.m.k,s.m.k⟩]) (len s.m.o) ⟨.tree e d l,s.m.k,Nat.succ s.m.k⟩,Nat.succ s.m.k,s.m.ns⟩,s.fr⟩ else none) else none:=by
    show(match kG TI t with
     |some ⟨.sl e ek _,_,_⟩=>_
     |_=>none)=_
    rw[h1];simp only;rw[J];rfl
   rw[this,bL,h2] at h;rw[show Nat.beq n n=true from de n,d8 H,I] at h;simp only[dl,ae] at h;have hd:dist [len s.m.o]=true:=rfl;rw[hd] at h;simp only[ae] at h;rw[cK,bL,ez _ _ (ao _),fL] at h;rw[A,bL];exact h
  have q:=r.aCO B (e':=⟨.tree e d l,s.m.k,Nat.succ s.m.k⟩) (t':=⟨some b,n,n,[]⟩) (dy _) ⟨dy _,ao _⟩ rfl (λp j=>by
   refine⟨q2,cells.toList,?_,q6.conv (ao _) p.hX (λ_ _ _ h=>h) (by simp)⟩;exact⟨by rw[q4,cT,q5], .inr ⟨b,n,cells,by rw[q4];rfl,cm _,j,by rw[q4];exact ao _,q3,q5,by rw[q4];exact ex (by rw[cT,q5];exact ao _)⟩⟩)
  refine⟨_,_,_,v _ rfl,q,⟨⟨dy _,rfl⟩,⟨.tree e d l,s.m.k,Nat.succ s.m.k⟩,⟨some b,n,n,[]⟩,?_,?_,λ_=>rfl⟩,rfl,rfl,?_⟩
  ·simp[bL]
  ·rw[ax (by rw[hlen,bL];exact ao _),hlen,bL];simp
  ·have S:=(Am.add s.m [(⟨.dead,s.m.k,s.m.k⟩:EO U)]).trans (Am.tree (ids:=[]) (i:=len s.m.o) (τ:=e) (d:=d) (l:=l) (rv:=s.m.k) _);have V:(⟨kil (Nat.succ s.m.k) [] (upd (s.m.o++[(⟨.dead,s.m.k,s.m.k⟩:EO U)]) (len s.m.o) ⟨.tree e d l,s.m.k,Nat.succ s.m.k⟩),Nat.succ s.m.k,s.m.ns⟩:Mm U)=⟨s.m.o++[⟨.tree e d l,s.m.k,Nat.succ s.m.k⟩],Nat.succ s.m.k,s.m.ns⟩:=by rw[cK,bL,ez _ _ (ao _),fL];rfl
   exact V▸S
 |_=>rw[ho] at hg;cases hg
end
end Go.EV
namespace Go.EV
open Go.RowKit Go.VK
variable {U:Uni} {C:Cod U} {P:Program} {g:GI} {E:Env U g}
def Ob.bd (N M K:Nat):Ob U->Prop
 | .box _ cs _=>∀c∈cs,c.bd N M K
 |_=>True
def kH (β:List Tr):Option Nat->Tr
 |some i=>match β[i]? with|some t=>t|none=>aP8
 |none=>aP8
inductive Src (N M K:Nat) (m:Mm U) (q:Option Nat) (j:Nat) (e':EO U):Prop
 |keep (hq:q=some j) (he:m.o[j]? =some e') (hb:e'.ob.bd N M K)
 |box (hq:q=some j) {e:EO U} {T:Nat} {cs cs':List (Lf U)} {vs vs':List Nat} (he:m.o[j]? =some e) (h1:e.ob= .box T cs vs) (h2:e'.ob= .box T cs' vs') (l1:cs'.length=cs.length) (l2:cs'.length=vs'.length) (hc:∀(i:Nat) (c:Lf U),cs'[i]? =some c->c= .any\/(cs[i]? =some c/\c.bd N M K)) (hv:K<e'.rv/\K<e'.cv)
 |dead (h:e'.ob= .dead) (hv:K<e'.rv/\K<e'.cv)
 |tree {i:Nat} {e:EO U} {τ:Nat} {d d':Bool} {l:List (U.El τ)} (hq:q=some i) (he:m.o[i]? =some e) (h1:e.ob= .tree τ d' l) (hd:d=true->d'=true) (h2:e'.ob= .tree τ d l) (hv:K<e'.rv/\K<e'.cv)
 |ti {e:EO U} {τ:Nat} {d d':Bool} {l:List (U.El τ)} (hq:q=some j) (he:m.o[j]? =some e) (h1:e.ob= .tree τ d' l) (hd:d=true->d'=true) (h2:e'.ob= .tree τ d l) (hr:e'.rv=e.rv) (hv:K<e'.cv)
 |nil {τ:Nat} {d:Bool} (hq:q=none) (h2:e'.ob= .tree τ d []) (hK:0<U.K τ) (hv:K<e'.rv/\K<e'.cv)
section
variable {m m':Mm U} {w:World} {β:List Tr} {σ:List (Option Nat)} {N M K:Nat}
def aLc {q:Option Nat}{b:Nat}(h:b∈(kH β q).all):∃i t,q=some i/\β[i]? =some t/\kH β q=t:=by
 cases q with
 |none=>simp[kH,pW] at h
 |some i=>
  cases hb:β[i]? with
  |none=>simp[kH,hb,pW] at h
  |some t=>exact⟨i,t,rfl,hb,by simp[kH,hb]⟩
def Hp.ren (H:Hp C E m β w)(hl:σ.length=m'.o.length)(hN:N<=m'.o.length)(G:∀(j j' i:Nat),σ[j]? =some (some i)->σ[j']? =some (some i)->j=j')(hk:K<=m'.k)
  (I:∀(i:Nat) (e:EO U),m'.o[i]? =some e->e.rv<=m'.k/\e.cv<=m'.k) (J:∀(a i:Nat),m'.ns[a]? =some (i,true)->(i:Int)+1<=9223372036854775807)
  (hn:∀(a i:Nat) (f:Bool),a<M->m.ns[a]? =some (i,f)->∃f',m'.ns[a]? =some (i,f'))
  (hs:∀(j:Nat) (q:Option Nat) (e':EO U),σ[j]? =some q->m'.o[j]? =some e'->Src N M K m q j e') (L:∀x∈E.pin,x.1.bd N M K) (S:E.fr=[]):
  Hp C E m' (σ.map (kH β)) w/\Evo w w (E.X β) (E.X (σ.map (kH β))) β (σ.map (kH β)) m m' N M K:=by
 have y:∀(j:Nat) (t:Tr),(σ.map (kH β))[j]? =some t->∃q,σ[j]? =some q/\t=kH β q:=λj t h=>by
  rw[bq] at h;cases hq:σ[j]? with
  |none=>simp[hq] at h
  |some q=>simp only[hq,da,aj] at h;exact⟨q,rfl,h.symm⟩
 have hX:∀b,E.X (σ.map (kH β)) b->E.X β b:=by
  rintro b (h|h|⟨t,ht,hb⟩)
  ·exact .inl h
  ·exact .inr (.inl h)
  ·obtain⟨q,_,rfl⟩:=cz.1 ht;obtain⟨i,t,_,h2,z⟩:=aLc hb;rw[z] at hb;exact .inr (.inr ⟨t,ba h2,hb⟩)
 have A:Evo w w (E.X β) (E.X (σ.map (kH β))) β (σ.map (kH β)) m m' N M K:=by
  refine⟨ao _,λb _=>hX b,λ_ _ _ h=>h,hk,λa i f ha h=>hn a i f ha h,λi e t hi he ht=> ?_⟩;have V:i<m'.o.length:=ca hi hN;have h1:m'.o[i]? =some m'.o[i]:=aa V;have h2:σ[i]? =some (σ[i]'(by omega)):=aa _;have z:(σ.map (kH β))[i]? =some (kH β (σ[i]'(by omega))):=by rw[bq,h2];rfl
  refine⟨_,_,h1,z,?_⟩;have W:=hs i _ _ h2 h1;have big:K<(m'.o[i]).rv/\K<(m'.o[i]).cv->(m'.o[i]).ob.aAW=false->((m'.o[i]).rv<=K->(m'.o[i]).rv=e.rv/\(kH β (σ[i]'(by omega))).val=t.val)/\((m'.o[i]).cv<=K->(m'.o[i]).cv=e.cv/\(m'.o[i]).ob=e.ob/\kH β (σ[i]'(by omega))=t/\∀b∈t.all,w.heap[b]? =w.heap[b]?)/\((m'.o[i]).ob.aAW=true->e.ob.aAW=true/\(kH β (σ[i]'(by omega))).b=t.b):=λhv hb=>
   ⟨λh=>absurd h (by omega),λh=>absurd h (by omega),λh=>by rw[hb] at h;cases h⟩
  cases W with
  |keep hq r hb=>
   rw[he] at r;have e0:e=m'.o[i]:=ak r;have B:kH β (σ[i]'(by omega))=t:=by rw[hq];simp[kH,ht]
   rw[B,<-e0];exact⟨λ_=>⟨rfl,rfl⟩,λ_=>⟨rfl,rfl,rfl,λ_ _=>rfl⟩,λh=>⟨h,rfl⟩⟩
  |box hq r q1 q2 _ _ _ hv=>
   rw[he] at r;have e0:=ak r;have B:kH β (σ[i]'(by omega))=t:=by rw[hq];simp[kH,ht]
   rw[B];refine⟨λh=>absurd h (by omega),λh=>absurd h (by omega),λ_=>⟨?_,rfl⟩⟩;rw[e0,q1];rfl
  |dead h hv=>exact big hv (by rw[h];rfl)
  |tree _ _ _ _ h hv=>exact big hv (by rw[h];rfl)
  |ti hq r _ _ h hr hv=>
   rw[he] at r;have e0:=ak r;have B:kH β (σ[i]'(by omega))=t:=by rw[hq];simp[kH,ht]
   rw[B,e0];exact⟨λ_=>⟨hr,rfl⟩,λh=>absurd h (by omega),λhb=>by rw[h] at hb;cases hb⟩
  |nil _ h _ hv=>exact big hv (by rw[h];rfl)
 refine⟨⟨H.ext,by rw[bn,hl],I,J,?_,?_,?_,?_,λx O=>Sv.aAY A (L x O) (H.pin x O),λx O=> ?_,λf hf=>by rw[S] at hf;simp at hf⟩,A⟩
 ·intro j t b ht hb;obtain⟨q,_,rfl⟩:=y j t ht;obtain⟨i,t,_,h2,z⟩:=aLc hb;rw[z] at hb;exact H.new i t b h2 hb
 ·intro j j' t u b Z ht hu hb F;obtain⟨q,hq,rfl⟩:=y j t ht;obtain⟨q',hq',rfl⟩:=y j' u hu;obtain⟨i,t,B,h2,z⟩:=aLc hb;obtain⟨i',t',e1',h2',h3'⟩:=aLc F;rw[z] at hb;rw[h3'] at F;refine H.dist i i' t t' b (λe=>Z ?_) h2 h2' hb F;subst e;subst B;subst e1';exact G j j' i hq hq'
 ·intro j t ht;obtain⟨q,hq,rfl⟩:=y j t ht;cases q with
  |none=>rw[show kH β none=aP8 from rfl,pW];exact io
  |some i=>
   cases hb:β[i]? with
   |none=>simp[kH,hb,pW]
   |some t=>simp only[kH,hb];exact H.nd i t hb
 ·intro j t e' ht r;obtain⟨q,hq,rfl⟩:=y j t ht;cases hs j q e' hq r with
  |keep hq he hb=>
   subst hq;obtain⟨t,ht⟩:=H.tr he;simp only[kH,ht];have p:=H.ok j t e' ht he;generalize e'.ob=x at p hb ⊢;cases x with
   |dead=>trivial
   |box T cs us=>obtain⟨h0,b,vs,h1,h2,z,h4⟩:=p;exact⟨h0,b,vs,h1,h2,z,h4.evo A hb⟩
   |tree τ d l=>obtain⟨h1,xs,h2,z⟩:=p;exact⟨h1,xs,h2,z.conv (ao _) (λb _=>hX b) (λ_ _ _ h=>h) (λ_ _=>rfl)⟩
  |box hq he h1 h2 l1 l2 hc hv=>
   subst hq;obtain⟨t,ht⟩:=H.tr he;simp only[kH,ht];have p:=H.ok j t _ ht he;rw[h1] at p;rw[h2];obtain⟨h0,b,vs,k1,k2,k3,k4⟩:=p;refine⟨l2,b,vs,k1,k2,k3,by rw[k4.1,l1],λi v c hv hc'=> ?_⟩
   rcases hc i c hc' with rfl|⟨hc1,hc2⟩
   ·trivial
   ·exact Lf.aAY A hc2 (k4.2 i v c hv hc1)
  |dead h hv=>rw[h];trivial
  |tree hq he h1 hd h2 hv=>subst hq;obtain⟨t,ht⟩:=H.tr he;simp only[kH,ht];have p:=H.ok _ t _ ht he;rw[h1] at p;rw[h2];obtain⟨k1,xs,k2,k3⟩:=p;exact⟨k1,xs,k2,(k3.fl hd).conv (ao _) (λb _=>hX b) (λ_ _ _ h=>h) (λ_ _=>rfl)⟩
  |ti hq he h1 hd h2 hr hv=>subst hq;obtain⟨t,ht⟩:=H.tr he;simp only[kH,ht];have p:=H.ok _ t _ ht he;rw[h1] at p;rw[h2];obtain⟨k1,xs,k2,k3⟩:=p;exact⟨k1,xs,k2,(k3.fl hd).conv (ao _) (λb _=>hX b) (λ_ _ _ h=>h) (λ_ _=>rfl)⟩
  |nil hq h2 hK hv=>subst hq;rw[h2];exact⟨hK,[],World.ownsRow_nil w 0 _ _, .n⟩
 ·obtain⟨h1,h2,z,h4⟩:=H.prm x O;refine⟨h1,h2,z,λj t ht hb=> ?_⟩;obtain⟨q,_,rfl⟩:=y j t ht;obtain⟨i,t,_,q2,q3⟩:=aLc hb;rw[q3] at hb;exact h4 i t q2 hb
end
end Go.EV
namespace Go.EV
open Go.RowKit Go.VK
variable {U:Uni} {Y:Lay U} {P:Program} {g:GI} {E:Env U g}
def Dhd:{x:DI}->{xs:List DI}->Dat U (x::xs)->x.ty U
 |_,[],d=>d
 |_,_::_,d=>d.1
def Dtl:{x:DI}->{xs:List DI}->Dat U (x::xs)->Dat U xs
 |_,[],_=>()
 |_,_::_,d=>d.2
def mW {s:St U}{x:DI}{xs:List DI}{d:Dat U (x::xs)}(h:gets Y s (x::xs)=some d):bJk Y s x=some (Dhd d)/\gets Y s xs=some (Dtl d):=by
 cases xs with
 |nil=>exact⟨h,rfl⟩
 |cons c xs=>
  simp only[gets] at h;cases h1:bJk Y s x with
  |none=>simp_all
  |some a=>
   cases h2:gets Y s (c::xs) with
   |none=>simp_all
   |some b=>rw[h1,h2] at h;have:=ak h;subst this;exact⟨rfl,rfl⟩
def wN {k:Nat}{x:DI}{xs:List DI}{d:Dat U (x::xs)}{o:List (EO U)}:aU6 k (x::xs) d o=aU6 k xs (Dtl d) (aYy k x (Dhd d) o):=by
 cases xs with
 |nil=>rfl
 |cons=>rfl
def bHr {k n:Nat}{x:DI}{xs:List DI}{d:Dat U (x::xs)}{s:St U}:sets Y k n s (x::xs) d=sets Y k (nxt n x) (set1 Y k n s x (Dhd d)) xs (Dtl d):=by
 cases xs with
 |nil=>rfl
 |cons=>rfl
theorem K9 {k:Nat}:∀{l:List (Nat×Nat)} {o:List (EO U)},(A8 k l o).length=o.length
 |[],o=>rfl
 |x::l,o=>by
  have e:A8 k (x::l) o=match nth (A8 k l o) x.1 with|some ⟨.box T cs vs,_,_⟩=>upd (A8 k l o) x.1 ⟨.box T (upd cs x.2 .any) (upd vs x.2 k),k,k⟩|_=>A8 k l o:=rfl
  rw[e];split
  ·rw[cK,ay];exact K9
  ·exact K9
def Fj {k:Nat}{o:List (EO U)}{j:Nat}{e:EO U}(he:o[j]? =some e):∀(l:List (Nat×Nat)),∃e',(A8 k l o)[j]? =some e'/\((e.ob.aAW=false\/hasB j l=false)->e'=e)/\
  (∀T cs vs,e.ob= .box T cs vs->∃cs' vs',e'.ob= .box T cs' vs'/\cs'.length=cs.length/\vs'.length=vs.length/\(hasB j l=true->e'.rv=k/\e'.cv=k)/\
   ∀i,(bEk j i l=true->∀c,cs'[i]? =some c->c= .any)/\(bEk j i l=true->∀v,vs'[i]? =some v->v=k)/\(bEk j i l=false->cs'[i]? =cs[i]? /\vs'[i]? =vs[i]?))
 |[]=>⟨e,he,λ_=>rfl,λT cs vs h=>⟨cs,vs,h,rfl,rfl,λh=>(by cases h),λi=>⟨λh=>(by cases h),λh=>(by cases h),λ_=>⟨rfl,rfl⟩⟩⟩⟩
 |(b,p)::l=>by
  obtain⟨n,h1,h2,q⟩:=Fj he l;have e0:A8 k ((b,p)::l) o=match nth (A8 k l o) b with|some ⟨.box T cs vs,_,_⟩=>upd (A8 k l o) b ⟨.box T (upd cs p .any) (upd vs p k),k,k⟩|_=>A8 k l o:=rfl
  have eB:hasB j ((b,p)::l)=cond (Nat.beq b j) true (hasB j l):=rfl;have eA:∀i,bEk j i ((b,p)::l)=cond (Nat.beq b j&&Nat.beq p i) true (bEk j i l):=λ_=>rfl;rw[e0,eB];simp only[eA];by_cases hb:b=j
  ·subst hb;have d:Nat.beq b b=true:=de b;rw[aR,h1,d];obtain⟨ob,rv,cv⟩:=n;cases ob with
   |box r cs1 vs1=>
    refine⟨⟨.box r (upd cs1 p .any) (upd vs1 p k),k,k⟩,by show(upd (A8 k l o) b _)[b]? =_;rw[cK,bm (lt_of_some h1)],λh=> ?_,λT cs vs h=> ?_⟩
    ·rcases h with h|h
     ·have:=h2 (.inl h);subst this;cases h
     ·cases h
    ·obtain⟨cs',vs',k1,k2,k3,k4,k5⟩:=q T cs vs h;injection k1 with q1 q2 q3;subst q1;subst q2;subst q3;refine⟨_,_,rfl,by rw[cK,ay,k2],by rw[cK,ay,k3],λ_=>⟨rfl,rfl⟩,λi=> ?_⟩
     grind[Nat.beq,absurd,Nat.eq_of_beq_eq_true,cK,List.getElem?_set_ne,k5,Nat.beq_refl,Bool.and_self,lt_of_some,List.getElem?_set_self,Option.some.inj]
   |dead=>simp_all
   |tree=>simp_all
  grind[Nat.beq,absurd,Nat.eq_of_beq_eq_true,cK,List.getElem?_set_ne]
def bHs {cs:List (Nat×Nat)}{k b:Nat}:∀{j:Nat} {vs:List Nat},bYj cs k b j vs=true->∀(i v:Nat),vs[i]? =some v->v<=k\/bEk b (j+i) cs=true
 |j,[],_,i,v,h=>by simp at h
 |j,x::vs,h,i,v,hv=>by
  simp only[bYj,ab,ck] at h;cases i with
  |zero=>simp at hv;subst hv;exact h.1.imp aE id
  |succ i=>have:=bHs h.2 i v (by simpa using hv);rwa [show Nat.succ j+i=j+(i+1) by omega] at this
def bHt {cs:List (Nat×Nat)}{dd:List Nat}{k:Nat}:∀{i:Nat} {es es':List (EO U)},bOq cs dd k i es es'=true->∀(j:Nat) (e:EO U),es[j]? =some e->∃e',es'[j]? =some e'/\(e'.cv<=k\/(i+j)∈dd\/∃T c vs,e'.ob= .box T c vs/\hasB (i+j) cs=true/\∀(p v:Nat),vs[p]? =some v->v<=k\/bEk (i+j) p cs=true)
 |i,[],es',_,j,e,h=>by simp at h
 |i,x::es,[],h,j,e,he=>by cases h
 |i,x::es,y::es',h,j,e,he=>by
  simp only[bOq,ab,ck] at h;cases j with
  |zero=>
   refine⟨y,rfl,?_⟩;rcases h.1 with h1|h1|h1
   ·exact .inl (aE h1)
   ·exact .inr (.inl (sJ.1 h1))
   ·refine .inr (.inr ?_);obtain⟨ob,rv,cv⟩:=y;cases ob with
    |box T c vs=>simp only[ab] at h1;exact⟨T,c,vs,rfl,h1.1,λp v hv=>by have:=bHs h1.2 p v hv;rwa [cl] at this⟩
    |_=>cases h1
  |succ j=>obtain⟨e',q1,q2⟩:=bHt h.2 j e (by simpa using he);rw[show Nat.succ i+j=i+(j+1) by omega] at q2;exact⟨e',by simpa using q1,q2⟩
def sg0 (dd:List Nat)(N:Nat):List (Option Nat):=(List.range N).map λj=>if j∈dd then none else some j
theorem bQ8 {dd:List Nat}{N:Nat}:(sg0 dd N).length=N:=by simp[sg0]
def aX9 {dd:List Nat}{N j:Nat}{q:Option Nat}(h:(sg0 dd N)[j]? =some q):j<N/\((j∈dd/\q=none)\/(j∉dd/\q=some j)):=by
 grind[inl,Option.some.injEq,sg0,List.getElem?_range,lt_of_some,bQ8]
structure Inv (N M K k:Nat) (m:Mm U) (σ:List (Option Nat)) (o:List (EO U)):Prop where
 len:σ.length=o.length
 ge:N<=o.length
 inj:∀(j j' i:Nat),σ[j]? =some (some i)->σ[j']? =some (some i)->j=j'
 ver:∀(i:Nat) (e:EO U),o[i]? =some e->e.rv<=k/\e.cv<=k
 src:∀(j:Nat) (q:Option Nat) (e':EO U),σ[j]? =some q->o[j]? =some e'->Src N M K m q j e'
section
variable {C:Cod U} {b s:St U} {a a0:Act} {w w0:World} {β β0:List Tr} {D:Nat->Prop}
def bB.obd (r:bB C E b a0 w0 β0){j:Nat}{e:EO U}(h:b.m.o[j]? =some e):e.ob.bd b.m.o.length b.m.ns.length b.m.k:=by
 obtain⟨t,ht⟩:=r.hp.tr h;have:=r.hp.ok j t e ht h;generalize e.ob=x at this ⊢;cases x with
 |box T cs vs=>obtain⟨_,d,vs',_,_,_,c⟩:=this;exact c.bd
 |_=>trivial
def inv0 (r:bB C E b a0 w0 β0)(t:Am b.m s.m){cs:List (Nat×Nat)}{dd:List Nat}(hc:bOq cs dd b.m.k 0 b.m.o s.m.o=true):
  Inv b.m.o.length b.m.ns.length b.m.k (Nat.succ b.m.k) s.m (sg0 dd b.m.o.length) (A8 (Nat.succ b.m.k) cs (kil (Nat.succ b.m.k) dd b.m.o)):=by
 have hlen:(A8 (Nat.succ b.m.k) cs (kil (Nat.succ b.m.k) dd b.m.o)).length=b.m.o.length:=by rw[K9,Ws]
 refine⟨by rw[bQ8,hlen],by omega,λj j' i h1 h2=> ?_,λj e' d=> ?_,λj q e' hq d=> ?_⟩
 ·obtain⟨_,h1⟩:=aX9 h1;obtain⟨_,h2⟩:=aX9 h2;simp_all
 ·have hl:j<b.m.o.length:=by have:=lt_of_some d;rwa [hlen] at this
  by_cases hd:j∈dd
  ·obtain⟨l,h1,h2,_⟩:=Fj (k:=Nat.succ b.m.k) (aP7 (k:=Nat.succ b.m.k) hd hl) cs;rw[d] at h1;have:=ak h1;subst this;rw[h2 (.inl rfl)];simp
  ·have h0:=Ef (k:=Nat.succ b.m.k) (o:=b.m.o) hd;rw[aa hl] at h0;have hv:=r.hp.vers j _ (aa hl);obtain⟨l,h1,h2,z⟩:=Fj (k:=Nat.succ b.m.k) h0 cs;rw[d] at h1;have:=ak h1;subst this;by_cases hk:(b.m.o[j]).ob.aAW=false\/hasB j cs=false
   ·grind
   ·cases ho:(b.m.o[j]).ob with
    |box T c vs=>
     grind
    |_=>exact absurd (.inl (by rw[ho];rfl)) hk
 ·obtain⟨hl,hq⟩:=aX9 hq;rcases hq with⟨hd,rfl⟩|⟨hd,rfl⟩
  ·obtain⟨l,h1,h2,_⟩:=Fj (k:=Nat.succ b.m.k) (aP7 (k:=Nat.succ b.m.k) hd hl) cs;rw[d] at h1;have:=ak h1;subst this;rw[h2 (.inl rfl)];exact .dead rfl (by grind)
  ·have hb:b.m.o[j]? =some b.m.o[j]:=aa hl;have h0:(kil (Nat.succ b.m.k) dd b.m.o)[j]? =some b.m.o[j]:=by grind[Ef]
   obtain⟨l,h1,h2,z⟩:=Fj (k:=Nat.succ b.m.k) h0 cs;rw[d] at h1;have:=ak h1;subst this;obtain⟨es,hs1,e⟩:=bHt hc j _ hb;rw[cl] at e;obtain⟨am1,am2,am3⟩:=t.o j _ es hb hs1;by_cases hk:(b.m.o[j]).ob.aAW=false\/hasB j cs=false
   ·have he:=h2 hk;rw[he];refine .keep rfl ?_ (r.obd hb);rcases e with h|h|⟨T,c,vs,h,F,_⟩
    ·grind
    ·grind
    ·rcases hk with hk|hk
     ·rw[am2 (by rw[h];rfl)] at hk;cases hk
     grind
   ·have G:hasB j cs=true:=by
     grind
    cases ho:(b.m.o[j]).ob with
    |box T c vs=>
     obtain⟨cs',vs',k1,k2,k3,k4,k5⟩:=z T c vs ho;obtain⟨q1,q2⟩:=k4 G;have n:c.length=vs.length:=r.aBT (b:=j) (T:=T) (rv:=(b.m.o[j]).rv) (cv:=(b.m.o[j]).cv) (by rw[hb,<-ho]);have p:=r.obd hb;rw[ho] at p;have hv:b.m.k<e'.rv/\b.m.k<e'.cv:=by omega
     have cell:∀(cS:List (Lf U)),(∀(i:Nat),bEk j i cs=false->i<c.length->cS[i]? =c[i]?)->∀(i:Nat) (x:Lf U),cs'[i]? =some x->x= .any\/(cS[i]? =some x/\x.bd b.m.o.length b.m.ns.length b.m.k):=λcS O i x H=>by
      cases A:bEk j i cs with
      |true=>grind
      |false=>have v:=((k5 i).2.2 A).1;rw[H] at v;have y:i<c.length:=lt_of_some v.symm;exact .inr ⟨(by grind),p x (ba v.symm)⟩
     rcases e with h|h|⟨I,B,vs1,h,_,F⟩
     ·have l:=am1 h;exact .box rfl hs1 (by rw[l];exact ho) k1 k2 (by rw[k2,k3,n]) (by grind) hv
     ·grind
     ·obtain⟨J,L,S,V⟩:=am3 T c vs I B vs1 ho h;refine .box rfl hs1 (by rw[h,J]) k1 (by rw[k2,L]) (by rw[k2,k3,n]) (cell B (λi A y=> ?_)) hv
      grind
    |_=>exact absurd (.inl (by rw[ho];rfl)) hk
def sgm:List (Option Nat×Option Nat)->List (Option Nat)->List (Option Nat)
 |[],σ=>σ
 |(some i,x)::q,σ=>sgm q (σ.set i x)
 |(none,x)::q,σ=>sgm q (σ++[x])
def Plc (k:Nat)(σ:List (Option Nat))(o:List (EO U))(s:St U):Nat->List DI->Prop
 |_,[]=>True
 |n, .tr l i τ d::xs=>(∃v q e,lkp s l=some v/\Ad s.m τ d v=some q/\σ[i]? =some q.1/\o[i]? =some e/\e.rv=k)/\Plc k σ o s n xs
 |n, .nt l τ d::xs=>(∃v q e,lkp s l=some v/\Ad s.m τ d v=some q/\σ[n]? =some q.1/\o[n]? =some e/\e.rv=k)/\Plc k σ o s (Nat.succ n) xs
 |n,_::xs=>Plc k σ o s n xs
def aQd {x:Option Nat×Option Nat}{q:List (Option Nat×Option Nat)}:Qi (x::q)=(match x.2 with|some i=>i::Qi q|none=>Qi q):=by obtain⟨x1,x2⟩:=x;cases x2<;>rfl
def aZg {m:Mm U}{N M K k:Nat}{τ:Nat}{d:Bool}{v:Sv U}{q:Option Nat×List (U.El τ)}(h:Ad m τ d v=some q)(hk:K<k){j:Nat}:Src N M K m q.1 j ⟨.tree τ d q.2,k,k⟩:=by
 unfold Ad at h;split at h
 ·cases hb:Nat.ble 1 (U.K τ) with
  |false=>simp_all
  |true=>rw[hb] at h;have:=ak h;subst this;exact .nil rfl rfl (aE hb) ⟨hk,hk⟩
 ·rename_i i r;rw[aR] at h;split at h
  ·rename_i τ' d' l rv cv he;cases hb:(Nat.beq rv r&&(d'|| !d)) with
   |false=>simp_all
   |true=>
    rw[hb] at h;simp only[ae] at h;cases hq:slq τ τ' l with
    |none=>simp_all
    |some l'=>rw[hq] at h;have:=ak h;subst this;obtain⟨rfl,hl⟩:=nM hq;have hl:=dv hl;subst hl;simp only[ab,ck] at hb;refine .tree rfl he rfl (λhd=> ?_) rfl ⟨hk,hk⟩;simp_all
  ·cases h
 ·cases h
def bV3 {m:Mm U}{N M K k i:Nat}{τ:Nat}{d:Bool}{l:List (U.El τ)}(h:cA4 m i τ d=some l)(hk:K<k):Src N M K m (some i) i ⟨.tree τ d l,0,k⟩:=by
 unfold cA4 at h;rw[aR] at h;split at h
 ·rename_i τ' d' l' rv cv he;cases hb:(Nat.beq rv 0&&(d'|| !d)) with
  |false=>simp_all
  |true=>rw[hb] at h;simp only[ae] at h;obtain⟨rfl,hl⟩:=nM h;have hl:=dv hl;subst hl;simp only[ab,ck] at hb;refine .ti rfl he rfl (λhd=> ?_) rfl (ai hb.1).symm hk;simp_all
 ·cases h
def Inv.set {N M K k:Nat}{m:Mm U}{σ:List (Option Nat)}{o:List (EO U)}(h:Inv N M K k m σ o){i:Nat}{q:Option Nat}{e:EO U}(hq:∀x,q=some x->∀j:Nat,σ[j]? ≠some (some x))(hv:e.rv<=k/\e.cv<=k)(hs:Src N M K m q i e):Inv N M K k m (σ.set i q) (o.set i e):=by
 refine⟨by simp[h.len],by simpa using h.ge,λj j' x h1 h2=> ?_,λj e' he=> ?_,λj q' e' h1 h2=> ?_⟩
 ·by_cases c:i=j
  ·grind
  ·rw[bg c] at h1;by_cases d:i=j'
   ·grind
   ·rw[bg d] at h2;exact h.inj j j' x h1 h2
 ·by_cases c:i=j
  ·grind
  ·rw[bg c] at he;exact h.ver j e' he
 ·by_cases c:i=j
  ·grind
  ·rw[bg c] at h1 h2;exact h.src j q' e' h1 h2
def Inv.app {N M K k:Nat}{m:Mm U}{σ:List (Option Nat)}{o:List (EO U)}(h:Inv N M K k m σ o){q:Option Nat}{e:EO U}(hq:∀x,q=some x->∀j:Nat,σ[j]? ≠some (some x))(hv:e.rv<=k/\e.cv<=k)(hs:Src N M K m q o.length e):Inv N M K k m (σ++[q]) (o++[e]):=by
 have d:∀(j:Nat) (x:Option Nat),(σ++[q])[j]? =some x->(σ[j]? =some x)\/(j=o.length/\x=q):=λj x c=>by
  by_cases hl:j<σ.length
  ·grind
  ·rw[ax (by omega)] at c;cases i:j-σ.length with
   |zero=>rw[i] at c;simp at c;exact .inr ⟨by have:=h.len;omega,c.symm⟩
   |succ n=>simp_all
 have ho:∀(j:Nat) (x:EO U),(o++[e])[j]? =some x->(o[j]? =some x)\/(j=o.length/\x=e):=(by grind[List.getElem?_append_left,inl,List.getElem?_append_right]);refine⟨by simp[h.len],by have:=h.ge;simp;omega,λj j' x h1 h2=> ?_,λj e' he=> ?_,λj q' e' h1 h2=> ?_⟩
 ·rcases d j _ h1 with h1|⟨l,h1⟩<;>rcases d j' _ h2 with h2|⟨p,h2⟩
  ·exact h.inj j j' x h1 h2
  all_goals grind
 ·rcases ho j _ he with h1|⟨_,rfl⟩
  ·exact h.ver j e' h1
  ·exact hv
 ·rcases d j _ h1 with h1|⟨l,rfl⟩<;>rcases ho j _ h2 with h2|⟨p,rfl⟩
  ·exact h.src j q' e' h1 h2
  ·have:=lt_of_some h1;have:=h.len;omega
  all_goals grind
def Plc.mono {k:Nat}{σ σ':List (Option Nat)}{o p:List (EO U)}{s:St U}:∀{xs:List DI} {n:Nat},(∀i∈iD xs,p[i]? =o[i]? /\σ'[i]? =σ[i]?)->(∀i,n<=i->p[i]? =o[i]? /\σ'[i]? =σ[i]?)->Plc k σ o s n xs->Plc k σ' p s n xs
 |[],_,_,_,h=>h
 | .tr l i τ d::xs,n,h1,h2,⟨⟨v,q,e,r,t,x,y,z⟩,h⟩=>by
  obtain⟨b1,A⟩:=h1 i (by simp[iD]);exact⟨⟨v,q,e,r,t,A.trans x,b1.trans y,z⟩,Plc.mono (λj c=>h1 j (by simp[iD,c])) h2 h⟩
 | .nt l τ d::xs,n,h1,h2,⟨⟨v,q,e,r,t,x,y,z⟩,h⟩=>by
  obtain⟨b1,A⟩:=h2 n (ao _);exact⟨⟨v,q,e,r,t,A.trans x,b1.trans y,z⟩,Plc.mono (λj c=>h1 j (by simpa[iD] using c)) (λi hi=>h2 i (by omega)) h⟩
 | .ti i τ d::xs,n,h1,h2,h=>Plc.mono (xs:=xs) (n:=n) (λj c=>h1 j (by simp[iD,c])) h2 h
 | .dat l kd::xs,n,h1,h2,h=>Plc.mono (xs:=xs) (n:=n) (λj c=>h1 j (by simpa[iD] using c)) h2 h
 | .nat l::xs,n,h1,h2,h=>Plc.mono (xs:=xs) (n:=n) (λj c=>h1 j (by simpa[iD] using c)) h2 h
def Rc {N M K k:Nat}{s:St U}(hk:K<k):∀(xs:List DI) (q:List (Option Nat×Option Nat)) (d:Dat U xs) (σ:List (Option Nat)) (o:List (EO U)),aK1 s xs=some q->gets Y s xs=some d->Inv N M K k s.m σ o->(∀i∈Qi q,∀j:Nat,σ[j]? ≠some (some i))->(Qi q).Nodup->(∀i∈iD xs,i<o.length)->(iD xs).Nodup->
  Inv N M K k s.m (sgm q σ) (aU6 k xs d o)/\Plc k (sgm q σ) (aU6 k xs d o) s o.length xs/\(∀j,j<o.length->j∉iD xs->(aU6 k xs d o)[j]? =o[j]? /\(sgm q σ)[j]? =σ[j]?)
 |[],q,d,σ,o,hq,_,y,_,_,_,_=>by
  have:=ak hq;subst this;exact⟨y,trivial,λ_ _ _=>⟨rfl,rfl⟩⟩
 | .dat l kd::xs,q,d,σ,o,hq,hg,y,h1,h2,A,L=>by
  rw[wN];exact Rc hk xs q (Dtl d) σ o hq (mW hg).2 y h1 h2 A L
 | .nat l::xs,q,d,σ,o,hq,hg,y,h1,h2,A,L=>by
  rw[wN];exact Rc hk xs q (Dtl d) σ o hq (mW hg).2 y h1 h2 A L
 | .ti i τ b::xs,q,d,σ,o,hq,hg,y,h1,h2,A,L=>by
  obtain⟨z,T⟩:=mW hg;simp only[aK1] at hq;simp only[bJk] at z;cases hr:aK1 s xs with
  |none=>rw[hr] at hq;cases hq
  |some r=>
   rw[hr] at hq;have:=ak hq;subst this;rw[wN];have hi:i<o.length:=A i (by simp[iD]);have V:aYy k (.ti i τ b) (Dhd d) o=o.set i ⟨.tree τ b (Dhd d),0,k⟩:=cK _ _ _;rw[V];rw[aQd] at h1 h2;simp only at h1 h2;have F:=y.set (i:=i) (q:=some i) (e:=⟨.tree τ b (Dhd d),0,k⟩) (λx p j=>h1 x (by rw[ak p];simp) j) ⟨cm _,ao _⟩ (bV3 z hk);obtain⟨n1,n2⟩:=co.1 (show(i::iD xs).Nodup from L);have G:∀x∈Qi r,∀j:Nat,(σ.set i (some i))[j]? ≠some (some x):=λx p j c=>by
    by_cases H:i=j
    ·subst H;rw[bm (by rw[y.len];exact hi)] at c;have c:=ak (ak c);subst c;exact(co.1 h2).1 p
    ·rw[bg H] at c;exact h1 x (by simp[p]) j c
   obtain⟨W,O,B⟩:=Rc hk xs r (Dtl d) (σ.set i (some i)) _ hr T F G (co.1 h2).2 (λj c=>by rw[ay];exact A j (by simp[iD,c])) n2;rw[ay] at O B;refine⟨W,O,λj c h=> ?_⟩;have h:j≠i/\j∉iD xs:=by simpa[iD] using h
   obtain⟨q1,q2⟩:=B j c h.2;exact⟨by rw[q1,bg (Ne.symm h.1)],by show(sgm r (σ.set i (some i)))[j]? =_;rw[q2,bg (Ne.symm h.1)]⟩
 | .tr l i τ b::xs,q,d,σ,o,hq,hg,y,h1,h2,A,L=>by
  obtain⟨z,T⟩:=mW hg;simp only[aK1] at hq;simp only[bJk] at z;cases hv:lkp s l with
  |none=>rw[hv] at hq;cases hq
  |some v=>
   rw[hv] at hq z;simp only at hq z;cases ht:Ad s.m τ b v with
   |none=>rw[ht] at hq;cases hq
   |some t=>
    rw[ht] at hq z;simp only at hq z;cases hr:aK1 s xs with
    |none=>rw[hr] at hq;cases hq
    |some r=>
     rw[hr] at hq;have:=ak hq;subst this;have hd:t.2=Dhd d:=ak z;rw[wN];have hi:i<o.length:=A i (by simp[iD]);have V:aYy k (.tr l i τ b) (Dhd d) o=o.set i ⟨.tree τ b t.2,k,k⟩:=by rw[hd];exact cK _ _ _
     rw[V];rw[aQd] at h1 h2;have I:∀x∈Qi r,x∈(match t.1 with|some i=>i::Qi r|none=>Qi r):=λx p=>by cases t.1<;>simp[p]
     have F:=y.set (i:=i) (q:=t.1) (e:=⟨.tree τ b t.2,k,k⟩) (λx p j=>h1 x (by simp only[p];simp) j) ⟨ao _,ao _⟩ (aZg ht hk);obtain⟨n1,n2⟩:=co.1 (show(i::iD xs).Nodup from L);have G:∀x∈Qi r,∀j:Nat,(σ.set i t.1)[j]? ≠some (some x):=λx p j c=>by
      by_cases H:i=j
      ·subst H;rw[bm (by rw[y.len];exact hi)] at c;have c:=ak c;simp only[c] at h2;exact(co.1 h2).1 p
      ·rw[bg H] at c;exact h1 x (I x p) j c
     have S:(Qi r).Nodup:=by
      cases J:t.1 with
      |none=>simp only[J] at h2;exact h2
      |some x=>simp only[J] at h2;exact(co.1 h2).2
     obtain⟨W,O,B⟩:=Rc hk xs r (Dtl d) (σ.set i t.1) _ hr T F G S (λj c=>by rw[ay];exact A j (by simp[iD,c])) n2;rw[ay] at O B;refine⟨W,⟨⟨v,t,⟨.tree τ b t.2,k,k⟩,hv,ht,?_,?_,rfl⟩,O⟩,λj c h=> ?_⟩
     ·show(sgm r (σ.set i t.1))[i]? =_;rw[(B i hi n1).2,bm (by rw[y.len];exact hi)]
     ·rw[(B i hi n1).1,bm hi]
     ·have h:j≠i/\j∉iD xs:=by simpa[iD] using h
      obtain⟨q1,q2⟩:=B j c h.2;exact⟨by rw[q1,bg (Ne.symm h.1)],by show(sgm r (σ.set i t.1))[j]? =_;rw[q2,bg (Ne.symm h.1)]⟩
 | .nt l τ b::xs,q,d,σ,o,hq,hg,y,h1,h2,A,L=>by
  obtain⟨z,T⟩:=mW hg;simp only[aK1] at hq;simp only[bJk] at z;cases hv:lkp s l with
  |none=>rw[hv] at hq;cases hq
  |some v=>
   rw[hv] at hq z;simp only at hq z;cases ht:Ad s.m τ b v with
   |none=>rw[ht] at hq;cases hq
   |some t=>
    rw[ht] at hq z;simp only at hq z;cases hr:aK1 s xs with
    |none=>rw[hr] at hq;cases hq
    |some r=>
     rw[hr] at hq;have:=ak hq;subst this;have hd:t.2=Dhd d:=ak z;rw[wN];have V:aYy k (.nt l τ b) (Dhd d) o=o++[⟨.tree τ b t.2,k,k⟩]:=by rw[hd];rfl
     rw[V];rw[aQd] at h1 h2;have I:∀x∈Qi r,x∈(match t.1 with|some i=>i::Qi r|none=>Qi r):=λx p=>by cases t.1<;>simp[p]
     have F:=y.app (q:=t.1) (e:=⟨.tree τ b t.2,k,k⟩) (λx p j=>h1 x (by simp only[p];simp) j) ⟨ao _,ao _⟩ (aZg ht hk);have n2:(iD xs).Nodup:=L;have Z:(σ++[t.1])[o.length]? =some t.1:=by rw[<-y.len];simp
     have G:∀x∈Qi r,∀j:Nat,(σ++[t.1])[j]? ≠some (some x):=λx p j c=>by
      by_cases hl:j<σ.length
      ·rw[aq hl] at c;exact h1 x (I x p) j c
      ·rw[ax (by omega)] at c;cases hz:j-σ.length with
       |zero=>
        rw[hz] at c;have c:t.1=some x:=by simpa using c
        simp only[c] at h2;exact(co.1 h2).1 p
       |succ n=>rw[hz] at c;simp at c
     have S:(Qi r).Nodup:=by
      cases J:t.1 with
      |none=>simp only[J] at h2;exact h2
      |some x=>simp only[J] at h2;exact(co.1 h2).2
     obtain⟨W,O,B⟩:=Rc hk xs r (Dtl d) (σ++[t.1]) _ hr T F G S (λj c=>by have:=A j (by simpa[iD] using c);simp;omega) n2;rw[show(o++[(⟨.tree τ b t.2,k,k⟩:EO U)]).length=Nat.succ o.length by simp] at O B;have n1:o.length∉iD xs:=λhh=>by have:=A _ (show o.length∈iD (.nt l τ b::xs) from hh);omega
     refine⟨W,⟨⟨v,t,⟨.tree τ b t.2,k,k⟩,hv,ht,?_,?_,rfl⟩,O⟩,λj c h=> ?_⟩
     ·show(sgm r (σ++[t.1]))[o.length]? =_;rw[(B _ (et _) n1).2,Z]
     ·rw[(B _ (et _) n1).1];simp
     ·obtain⟨q1,q2⟩:=B j (Nat.lt_succ_of_lt c) h;refine⟨by rw[q1,aq c],?_⟩;show(sgm r (σ++[t.1]))[j]? =_;rw[q2,aq (by rw[y.len];exact c)]
end
end Go.EV
namespace Go.EV
open Go.RowKit Go.VK
variable {U:Uni} {Y:Lay U} {P:Program} {g:GI} {E:Env U g}
section aCW
def bV4 {a n:Nat}{K:List (Sv U)->List (Sv U)}(hK:K []=[]):∀{l:List (Sv U)},(bOs a K l)[n]? =if n<a then l[n]? else(K (l.drop a))[n-a]? :=by
 induction a generalizing n with
 |zero=>intro l;rfl
 |succ a c=>
  intro l;cases l with
  |nil=>have e:bOs (a+1) K ([]:List (Sv U))=[]:=rfl;rw[e];simp[hK]
  |cons x l=>
   have e:bOs (a+1) K (x::l)=x::bOs a K l:=rfl;rw[e];cases n with
   |zero=>simp
   |succ n=>simp only[e9,c,iw,fk,Nat.add_sub_add_right]
def bV5 {a n:Nat}{K:List (Sv U)->List (Sv U)}(hK:K []=[]):∀{l:List (Sv U)},(bLx a K l)[n]? =if n<a then(l[n]?).map (λ_=>Sv.l .any) else(K (l.drop a))[n-a]? :=by
 induction a generalizing n with
 |zero=>intro l;rfl
 |succ a c=>
  intro l;cases l with
  |nil=>have e:bLx (a+1) K ([]:List (Sv U))=[]:=rfl;rw[e];simp[hK]
  |cons x l=>
   have e:bLx (a+1) K (x::l)=Sv.l .any::bLx a K l:=rfl;rw[e];cases n with
   |zero=>simp
   |succ n=>simp only[e9,c,iw,fk,Nat.add_sub_add_right]
def bJ6:∀{ws:List (Nat×Nat)},wip ws ([]:List (Sv U))=[]
 |[]=>rfl
 |(a,b)::r=>by
  have e:wip ((a,b)::r) ([]:List (Sv U))=bOs a (bLx b (wip r)) []:=rfl;rw[e];cases a with
  |succ a=>rfl
  |zero=>
   cases b with
   |succ b=>rfl
   |zero=>exact bJ6 (ws:=r)
def bV6:∀{ws:List (Nat×Nat)} {p n:Nat},Wi ws p n=true->p<=n
 |[],p,n,h=>by cases h
 |(a,b)::r,p,n,h=>by
  simp only[Wi,ck,ab] at h;rcases h with⟨h,_⟩|h
  ·have:=aE h;omega
  ·have:=bV6 h;omega
def aYa:∀{ws:List (Nat×Nat)} {p n:Nat} {l:List (Sv U)},(wip ws l)[n]? =if Wi ws p (p+n)=true then(l[n]?).map (λ_=>Sv.l .any) else l[n]?
 |[],p,n,l=>by simp[Wi,wip]
 |(a,b)::r,p,n,l=>by
  have hb:(bLx b (wip r) ([]:List (Sv U)))=[]:=by
   cases b with
   |succ b=>rfl
   |zero=>exact bJ6 (ws:=r)
  have e:wip ((a,b)::r) l=bOs a (bLx b (wip r)) l:=rfl;rw[e,bV4 hb];simp only[Wi,ck,ab];by_cases h1:n<a
  ·rw[cu h1,cG];rintro(⟨h,_⟩|h)
   ·have:=aE h;omega
   ·have:=bV6 h;omega
  ·rw[cG h1,bV5 bJ6];by_cases h2:n-a<b
   ·rw[cu h2,cu]
    ·rw[eW,show a+(n-a)=n by omega]
    ·exact .inl ⟨d8 (by omega),d8 (by omega)⟩
   ·rw[cG h2,aYa (ws:=r) (p:=p+a+b)];rw[show p+a+b+(n-a-b)=p+n by omega];simp only[eW,show a+(b+(n-a-b))=n by omega];by_cases c:Wi r (p+a+b) (p+n)=true
    ·rw[cu c,cu (.inr c)]
    ·rw[cG c,cG];rintro(⟨_,h⟩|h)
     ·have:=aE h;omega
     ·exact c h
def bQ9 {ws:List (Nat×Nat)}{l:List (Sv U)}:(wip ws l).length=l.length:=by
 have key:∀n,n<(wip ws l).length↔n<l.length:=λn=>by
  have h:=aYa (ws:=ws) (p:=0) (n:=n) (l:=l);constructor
  ·intro hn;rw[aa hn] at h;refine Nat.lt_of_not_le λc=> ?_
   rw[eE c] at h;split at h<;>cases h
  ·intro hn;rw[aa hn] at h;refine Nat.lt_of_not_le λc=> ?_
   rw[eE c] at h;split at h<;>cases h
 have h1:=key (wip ws l).length;have h2:=key l.length;omega
end aCW
def LV (a:Act)(w:World)(β:List Tr)(o:List (EO U)):Lo->Value->Prop
 | .s n,v=>v=a.tmps.getD n undef
 | .c b j,v=>∀e,o[b]? =some e->e.ob.aAW=true->∃t blk vals T,β[b]? =some t/\t.b=some blk/\w.heap[blk]? =some (.cells vals T (0,0))/\vals[j]? =some v
section
variable {C:Cod U} {b s u:St U} {a a0:Act} {w w0:World} {β β0:List Tr}
def aLd (r:bB C E s a w β){l:Lo}{x:Sv U}(h:lkp s l=some x):∃v,LV a w β s.m.o l v/\x.mean C w (E.X β) β s.m v:=by
 cases l with
 |s n=>exact⟨_,rfl,r.tm n x (by rw[<-aR];exact h)⟩
 |c b j=>
  simp only[lkp,aR] at h;split at h
  ·rename_i T cs vs rv cv he;split at h
   ·rename_i y i;have:=ak h;subst this;obtain⟨t,ht⟩:=r.hp.tr he;obtain⟨h0,blk,vals,k1,k2,k3,k4⟩:=r.hp.ok b t _ ht he;have d:j<vals.length:=by rw[k4.1];exact lt_of_some i
    exact⟨vals[j],λe _ _=>⟨t,blk,vals.toArray,T,ht,k1,k3,by simp[d]⟩,k4.2 j _ _ (aa d) i⟩
   ·cases h
  ·cases h
structure Tp (C:Cod U) (E:Env U g) (a:Act) (w:World) (u:St U) (β:List Tr) (u':St U) (β':List Tr):Prop where
 own:∀(i r:Nat) (v:Value),(Lf.own i r:Lf U).mean C w (E.X β) β u.m v->(Lf.own i r:Lf U).mean C w (E.X β') β' u'.m v
 x:∀b,E.X β' b->E.X β b
 lv:∀(l:Lo) (v:Value),LV a w β u.m.o l v->LV a w β' u'.m.o l v
def Tp.refl:Tp C E a w u β u β:=⟨λ_ _ _ h=>h,λ_ h=>h,λ_ _ h=>h⟩
def bB.aBG (r:bB C E u a w β){l:Lo}{v:Value}(hl:LV a w β u.m.o l v){x:Sv U}(O:x.mean C w (E.X β) β u.m v):∃β',bB C E (EV.aBG u x l) a w β'/\Tp C E a w u β (EV.aBG u x l) β':=by
 cases l with
 |s n=>refine⟨β,r.set (n:=n) (x:=x) ?_,⟨λ_ _ _ h=>h,λ_ h=>h,λ_ _ h=>h⟩⟩;rw[<-(show v=a.tmps.getD n undef from hl)];exact O
 |c b j=>
  unfold EV.aBG;simp only[aR];split
  ·rename_i T cs vs rv cv y he;obtain⟨t,blk,vals,T',h1,h2,S,Z⟩:=hl _ he rfl;obtain⟨h0,blk',vals',k1,k2,k3,k4⟩:=r.hp.ok b t _ h1 he;rw[h2] at k1;have:=ak k1;subst this;rw[S] at k3;have:=ak k3;injection this with q1 q2 q3;subst q1;subst q2;have H:vals'[j]? =some v:=by simpa using Z
   obtain⟨β',V,hb',ev⟩:=r.turn (i:=b) (J:=[]) (t':=t) (w':=w) (ob:= .box T' (upd cs j y) (upd vs j (Nat.succ u.m.k))) (rv:=rv) he h1 (by simp) (ao _) rfl rfl rfl (λ_ _ _=>rfl)
    (λG hb=>⟨(r.hp.new b t G h1 hb).2, .inr (.inl hb)⟩) (r.hp.nd b t h1) (.inl ⟨rfl,rfl⟩) (λ_=>⟨rfl,rfl⟩)
    (λβ' m' ev=>by
     refine⟨by rw[cK,cK,ay,ay,h0],blk,vals',h2,k2,S,by rw[k4.1,cK,ay],λi I c p q=> ?_⟩;rw[cK] at q;by_cases e:j=i
     ·subst e;have hl:j<cs.length:=by have:=lt_of_some q;simpa using this
      rw[bm hl] at q;have:=ak q;subst this;rw[H] at p;have:=ak p;subst this;exact Lf.aAV ev O
     ·rw[bg e] at q;exact Lf.aAV ev (k4.2 i I c p q))
   refine⟨β',V,⟨λi q I h=>Lf.aAV ev h,λG hb=>ev.hX G (Hp.aBZ V.hp G hb) hb,λl I h=> ?_⟩⟩;cases l with
   |s n=>exact h
   |c z j'=>
    intro e' A L;have B:z<u.m.o.length:=by
     have:=lt_of_some A;have hl:(upd u.m.o b (⟨.box T' (upd cs j y) (upd vs j (Nat.succ u.m.k)),rv,Nat.succ u.m.k⟩:EO U)).length=u.m.o.length:=by rw[cK,ay]
     have h2:z<(upd u.m.o b (⟨.box T' (upd cs j y) (upd vs j (Nat.succ u.m.k)),rv,Nat.succ u.m.k⟩:EO U)).length:=this;rwa [hl] at h2
    have d:u.m.o[z]? =some u.m.o[z]:=aa B;obtain⟨t0,F⟩:=r.hp.tr d;obtain⟨e1,t1,g1,g2,_,_,g3⟩:=ev.ho z _ t0 B d F;have:e1=e':=ak (g1.symm.trans A);subst this;obtain⟨p1,p2⟩:=g3 L;obtain⟨t2,blk2,vals2,T2,W,z2,z3,z4⟩:=h _ d p1;rw[F] at W;have:=ak W;subst this;exact⟨t1,blk2,vals2,T2,g2,p2.trans z2,z3,z4⟩
  ·exact⟨β,r,Tp.refl⟩
def IF1 (Y:Lay U)(E:Env U g)(k:Nat)(u:St U)(a:Act)(w:World)(β:List Tr)(n:Nat):(x:DI)->x.ty U->Prop
 | .dat l kd,d=>∃v,LV a w β u.m.o l v/\Rd w (E.X β) [] v (pJ (aKz Y kd d))
 | .nat l,i=>∃v,LV a w β u.m.o l v/\∃j:Nat,j=i/\v= .int .i64 (j:Int)/\(j:Int)<=9223372036854775807
 | .tr l i _ _,_=>∃v,LV a w β u.m.o l v/\(Lf.own i k:Lf U).mean Y.C w (E.X β) β u.m v
 | .nt l _ _,_=>∃v,LV a w β u.m.o l v/\(Lf.own n k:Lf U).mean Y.C w (E.X β) β u.m v
 | .ti _ _ _,_=>True
def IF (Y:Lay U)(E:Env U g)(k:Nat)(u:St U)(a:Act)(w:World)(β:List Tr):Nat->(xs:List DI)->Dat U xs->Prop
 |_,[],_=>True
 |n,x::xs,d=>IF1 Y E k u a w β n x (Dhd d)/\IF Y E k u a w β (nxt n x) xs (Dtl d)
def IF1.tp {k n:Nat}{u':St U}{β':List Tr}(h:Tp Y.C E a w u β u' β'){x:DI}{d:x.ty U}(c:IF1 Y E k u a w β n x d):IF1 Y E k u' a w β' n x d:=by
 cases x with
 |dat l kd=>obtain⟨v,h1,h2⟩:=c;exact⟨v,h.lv l v h1,h2.conv (ao _) (λb _=>h.x b) (λ_ _ _ h=>h) (λ_ _ h=>h)⟩
 |nat l=>obtain⟨v,h1,h2⟩:=c;exact⟨v,h.lv l v h1,h2⟩
 |tr l i τ b=>obtain⟨v,h1,h2⟩:=c;exact⟨v,h.lv l v h1,h.own _ _ v h2⟩
 |nt l τ b=>obtain⟨v,h1,h2⟩:=c;exact⟨v,h.lv l v h1,h.own _ _ v h2⟩
 |ti i τ b=>trivial
def IF.tp {k:Nat}{u':St U}{β':List Tr}(h:Tp Y.C E a w u β u' β'):∀{xs:List DI} {n:Nat} {d:Dat U xs},IF Y E k u a w β n xs d->IF Y E k u' a w β' n xs d
 |[],_,_,_=>trivial
 |x::xs,n,d,⟨h1,h2⟩=>⟨h1.tp h,IF.tp h h2⟩
def bO7 (r:bB Y.C E u a w β){k n:Nat}{x:DI}{d:x.ty U}(h:IF1 Y E k u a w β n x d):∃β',bB Y.C E (set1 Y k n u x d) a w β'/\Tp Y.C E a w u β (set1 Y k n u x d) β':=by
 cases x with
 |dat l kd=>obtain⟨v,h1,h2⟩:=h;exact r.aBG h1 (Es (aX8 bQ5 h2 (.inl λ_ h=>h)))
 |nat l=>
  obtain⟨v,h1,j,rfl,h2,e⟩:=h;have p:bB Y.C E ⟨u.t,⟨u.m.o,u.m.k,u.m.ns++[((⟨j,false⟩:Nat×Bool))]⟩,u.fr⟩ a w β:=r.aCH (λc i f h=>⟨f,by rw[aq (lt_of_some h)];exact h⟩) (λc i h=>by
   by_cases hl:c<u.m.ns.length
   ·rw[aq hl] at h;exact r.hp.cnt c i h
   ·rw[ax (by omega)] at h;cases hq:c-u.m.ns.length with
    |zero=>rw[hq] at h;simp at h
    |succ q=>rw[hq] at h;simp at h)
  obtain⟨β',q1,q2⟩:=p.aBG (l:=l) (v:=v) h1 (x:= .l (.nat (len u.m.ns))) ⟨j,false,by rw[bL];simp,h2,e⟩;exact⟨β',q1,⟨λi q v h=>q2.own i q v h,q2.x,λl v h=>q2.lv l v h⟩⟩
 |tr l i τ b=>obtain⟨v,h1,h2⟩:=h;exact r.aBG h1 (x:= .l (.own i k)) h2
 |nt l τ b=>obtain⟨v,h1,h2⟩:=h;exact r.aBG h1 (x:= .l (.own n k)) h2
 |ti i τ b=>exact⟨β,r,Tp.refl⟩
def aZh {k:Nat}:∀(xs:List DI) {u:St U} {β:List Tr} {n:Nat} {d:Dat U xs},bB Y.C E u a w β->IF Y E k u a w β n xs d->∃β',bB Y.C E (sets Y k n u xs d) a w β'
 |[],_,β,_,_,r,_=>⟨β,r⟩
 |x::xs,u,β,n,d,r,⟨h1,h2⟩=>by
  obtain⟨β1,c,e⟩:=bO7 r h1;rw[bHr];exact aZh xs c (IF.tp e h2)
end
end Go.EV
namespace Go.EV
open Go.RowKit Go.VK
variable {U:Uni} {Y:Lay U} {P:Program} {g:GI} {E:Env U g}
section
variable {b s:St U} {a a0:Act} {w w0:World} {β β0:List Tr}
def Ww {tm:Tm}{d:Dat U tm.it}(h:col Y b tm s=some d):∃q,aK1 s tm.it=some q/\gets Y s tm.it=some d/\slI tm.ws tm.it=true/\bOq tm.aBU tm.dead b.m.k 0 b.m.o s.m.o=true/\bS4 b.m.o.length tm.dead (Qi q)=true/\(Qi q).Nodup/\(iD tm.it).Nodup/\bS5 b.m.o.length (iD tm.it)=true:=by
 grind[aK1,slI,bOq,bS4,len,Qi,dist,iD,bS5,bL,Qz,col]
def bHu {N:Nat}{dd:List Nat}:∀{l:List Nat},bS4 N dd l=true->∀i∈l,N<=i\/i∈dd
 |[],_,i,h=>by simp at h
 |x::l,h,i,hi=>by
  simp only[bS4,ab,ck] at h;rcases bl.1 hi with rfl|hi
  ·exact h.1.imp aE sJ.1
  ·exact bHu h.2 i hi
def bHv {N:Nat}:∀{l:List Nat},bS5 N l=true->∀i∈l,i<N
 |[],_,i,h=>by simp at h
 |x::l,h,i,hi=>by
  simp only[bS5,ab] at h;rcases bl.1 hi with rfl|hi
  ·exact aE h.1
  ·exact bHv h.2 i hi
def bO8 {C:Cod U}{X:Nat->Prop}{m:Mm U}{v:Value}{x:Sv U}{i:Nat}(hm:x.mean C w X β m v)(h:bU9 m x=some i):v= .int .i64 (i:Int)/\(i:Int)<=9223372036854775807:=by
 unfold bU9 at h;split at h
 ·obtain⟨c,f,h1,h2,d⟩:=hm
  grind[Option.some.inj,aR]
 ·rename_i n;obtain⟨h1,_,_⟩:=hm
  grind
 ·cases h
def aUe {C:Cod U}{m:Mm U}{X:Nat->Prop}{τ:Nat}{d:Bool}{v:Value}{x:Sv U}{q:Option Nat×List (U.El τ)}(hm:x.mean C w X β m v)(h:Ad m τ d x=some q):v.oneCell'=true/\v=(kH β q.1).val:=by
 unfold Ad at h;split at h
 ·obtain rfl:=hm;cases hb:Nat.ble 1 (U.K τ) with
  |false=>simp_all
  |true=>rw[hb] at h;have:=ak h;subst this;exact⟨rfl,rfl⟩
 ·rename_i i r;obtain⟨h1,e,t,h2,c,j⟩:=hm
  grind[Nat.beq,slq,Option.some.inj,Nat.eq_of_beq_eq_true,kH,aR]
 ·cases h
def LV.ren {N M K:Nat}{σ:List (Option Nat)}{o:List (EO U)}(hlen:σ.length=o.length)(hs:∀(j:Nat) (q:Option Nat) (e':EO U),σ[j]? =some q->o[j]? =some e'->Src N M K s.m q j e')(r:bB Y.C E s a w β){l:Lo}{v:Value}(h:LV a w β s.m.o l v):LV a w (σ.map (kH β)) o l v:=by
 cases l with
 |s n=>exact h
 |c i j=>
  intro e' x d;have hl:i<σ.length:=by grind
  have hq:σ[i]? =some σ[i]:=aa hl;have done:∀e:EO U,σ[i]=some i->s.m.o[i]? =some e->e.ob.aAW=true->∃t blk vals T,(σ.map (kH β))[i]? =some t/\t.b=some blk/\w.heap[blk]? =some (.cells vals T (0,0))/\vals[j]? =some v:=λe k he hb=>by
   obtain⟨t,blk,vals,T,h1,h2,y,z⟩:=h e he hb
   grind[kH]
  cases hs i _ e' hq x with
  |keep k he _=>simp_all
  |box k he h1 h2 _ _ _ _=>exact done _ k he (by rw[h1];rfl)
  |dead p _=>rw[p] at d;cases d
  |tree _ _ _ _ p _=>rw[p] at d;cases d
  |ti _ _ _ _ p _ _=>rw[p] at d;cases d
  |nil _ p _ _=>rw[p] at d;cases d
def bHw (r:bB Y.C E s a w β){k:Nat}{σ:List (Option Nat)}{o:List (EO U)}{u:St U}(c:u.m.o=o)(p:k<=u.m.k)(hX:∀b,E.X (σ.map (kH β)) b->E.X β b)(hfree:∀x:Nat,True)
  (h:∀(l:Lo) (v:Value),LV a w β s.m.o l v->LV a w (σ.map (kH β)) o l v):∀(xs:List DI) (n:Nat) (d:Dat U xs),gets Y s xs=some d->Plc k σ o s n xs->IF Y E k u a w (σ.map (kH β)) n xs d
 |[],_,_,_,_=>trivial
 | .dat l kd::xs,n,d,hg,hp=>by
  obtain⟨j,t⟩:=mW hg;refine⟨?_,bHw r c p hX hfree h xs n (Dtl d) t hp⟩;simp only[bJk] at j;cases hl:lkp s l with
  |none=>rw[hl] at j;cases j
  |some x=>
   rw[hl] at j;simp only at j;cases z:bG5 x with
   |false=>rw[z] at j;cases j
   |true=>rw[z] at j;obtain⟨v,h1,h2⟩:=aLd r hl;exact⟨v,by rw[c];exact h l v h1,bTk r h2 j hX (.inl z)⟩
 | .ti i τ H::xs,n,d,hg,hp=>⟨trivial,bHw r c p hX hfree h xs n (Dtl d) (mW hg).2 hp⟩
 | .nat l::xs,n,d,hg,hp=>by
  obtain⟨j,t⟩:=mW hg;refine⟨?_,bHw r c p hX hfree h xs n (Dtl d) t hp⟩;simp only[bJk] at j;cases hl:lkp s l with
  |none=>rw[hl] at j;cases j
  |some x=>rw[hl] at j;obtain⟨v,h1,h2⟩:=aLd r hl;obtain⟨q1,q2⟩:=bO8 h2 j;exact⟨v,by rw[c];exact h l v h1,_,rfl,q1,q2⟩
 | .tr l i τ H::xs,n,d,hg,⟨⟨v,q,e,A,B,F,G,I⟩,hp⟩=>by
  obtain⟨j,t⟩:=mW hg;refine⟨?_,bHw r c p hX hfree h xs n (Dtl d) t hp⟩;obtain⟨y,h1,h2⟩:=aLd r A;obtain⟨k1,k2⟩:=aUe h2 B;exact⟨y,by rw[c];exact h l y h1,⟨p,k1⟩,e,kH β q.1,by rw[c];exact G,by rw[bq,F];rfl,λ_=>k2⟩
 | .nt l τ H::xs,n,d,hg,⟨⟨v,q,e,A,B,F,G,I⟩,hp⟩=>by
  obtain⟨j,t⟩:=mW hg;refine⟨?_,bHw r c p hX hfree h xs (Nat.succ n) (Dtl d) t hp⟩;obtain⟨y,h1,h2⟩:=aLd r A;obtain⟨k1,k2⟩:=aUe h2 B;exact⟨y,by rw[c];exact h l y h1,⟨p,k1⟩,e,kH β q.1,by rw[c];exact G,by rw[bq,F];rfl,λ_=>k2⟩
def Et (T:E.fr=[])(I:bB Y.C E b a0 w0 β0)(r:bB Y.C E s a w β){tm:Tm}(e:Ag (λn=>Wi tm.ws 0 n=true) b s){d:Dat U tm.it}(h:col Y b tm s=some d):∃β',bB Y.C E (reb Y b tm d) a w β':=by
 obtain⟨q,V,O,_,W,Z,c5,c6,c7⟩:=Ww h;have hI:=inv0 I e.m W;have A:(A8 (Nat.succ b.m.k) tm.aBU (kil (Nat.succ b.m.k) tm.dead b.m.o)).length=b.m.o.length:=by rw[K9,Ws]
 obtain⟨z,S,_⟩:=Rc (et _) tm.it q d _ _ V O hI (λi hi j hj=>by
  obtain⟨g1,B⟩:=aX9 hj;rcases B with⟨_,B⟩|⟨g3,B⟩
  ·cases B
  ·have:=ak B;subst this;rcases bHu Z i hi with h|h
   all_goals grind) c5 (λi hi=>by rw[A];exact bHv c7 i hi) c6
 rw[A] at S;obtain⟨H,ev⟩:=Hp.ren (m':=⟨aU6 (Nat.succ b.m.k) tm.it d (A8 (Nat.succ b.m.k) tm.aBU (kil (Nat.succ b.m.k) tm.dead b.m.o)),Nat.succ b.m.k,b.m.ns⟩) r.hp z.len z.ge z.inj (dy _) z.ver I.hp.cnt (λF i f ha hn=>by
  have h1:b.m.ns[F]? =some b.m.ns[F]:=aa ha;obtain⟨f',h2⟩:=e.m.ns F (b.m.ns[F]).1 (b.m.ns[F]).2 h1
  grind) z.src (λx J=>Sv.aBD (I.hp.pin x J)) T
 have hX:∀G,E.X ((sgm q (sg0 tm.dead b.m.o.length)).map (kH β)) G->E.X β G:=λG hb=>ev.hX G (Hp.aBZ H G hb) hb;have r1:bB Y.C E ⟨wip tm.ws b.t,⟨aU6 (Nat.succ b.m.k) tm.it d (A8 (Nat.succ b.m.k) tm.aBU (kil (Nat.succ b.m.k) tm.dead b.m.o)),Nat.succ b.m.k,b.m.ns⟩,b.fr⟩ a w ((sgm q (sg0 tm.dead b.m.o.length)).map (kH β)):=by
  refine⟨H,r.defers,?_,λn x J=> ?_⟩
  ·show a.tmps.size=(wip tm.ws b.t).length;rw[bQ9,r.tsz,e.tl]
  ·have c:=(aYa (ws:=tm.ws) (p:=0) (n:=n) (l:=b.t)).symm.trans J;rw[cl] at c;split at c
   ·cases hb:b.t[n]? with
    |none=>simp_all
    |some y=>rw[hb] at c;have:=ak c;subst this;trivial
   ·rename_i hn;exact Sv.aAY ev (Sv.aBD (I.tm n x c)) (r.tm n x ((e.t n hn).trans c))
 have L:=bHw (Y:=Y) (u:=⟨wip tm.ws b.t,⟨aU6 (Nat.succ b.m.k) tm.it d (A8 (Nat.succ b.m.k) tm.aBU (kil (Nat.succ b.m.k) tm.dead b.m.o)),Nat.succ b.m.k,b.m.ns⟩,b.fr⟩) r rfl (ao _) hX (λ_=>trivial) (λl v h=>LV.ren z.len z.src r h) tm.it b.m.o.length d O S;have:=aZh tm.it r1 L
 grind[bL,reb]
def bYu {u:St U}{x:Sv U}{l:Lo}:(aBG u x l).fr=u.fr/\(aBG u x l).t.length=u.t.length/\Am u.m (aBG u x l).m/\∀n,(∀m,l= .s m->m≠n)->(aBG u x l).t[n]? =u.t[n]? :=by
 cases l with
 |s m=>refine⟨rfl,by simp only[aBG,put,cK,ay],Am.refl _,λn hn=> ?_⟩;simp only[aBG,put,cK];rw[bg (hn m rfl)]
 |c h j=>
  unfold aBG;simp only[aR];split
  ·rename_i T cs vs rv cv y he;refine⟨rfl,rfl,Am.turn (ids:=[]) u.m λ_ e d=> ?_,λ_ _=>rfl⟩
   rw[he] at d;have:=ak d;subst this;refine⟨rfl,λi cs1 vs1 T' cs' vs' k1 k2=> ?_⟩
   grind[List.getElem?_set_ne,lt_of_some,List.getElem?_set_self,Option.some.inj,cK,List.length_set,k2,k1]
  simp[Am.refl]
def Ag.aBG {D:Nat->Prop}{s0 u:St U}(h:Ag D s0 u){x:Sv U}{l:Lo}(hl:∀m,l= .s m->D m):Ag D s0 (aBG u x l):=by obtain⟨h1,h2,c,d⟩:=bYu (u:=u) (x:=x) (l:=l);exact⟨λn hn=>(d n (λm e e'=>hn (e'▸hl m e))).trans (h.t n hn),h2.trans h.tl,h1.trans h.fr,h.m.trans c⟩
def Ag.set1 {D:Nat->Prop}{s0 u:St U}(h:Ag D s0 u){k n:Nat}{x:DI}{d:x.ty U}{ws:List (Nat×Nat)}{xs:List DI}(e:slI ws (x::xs)=true)(p:∀n,Wi ws 0 n=true->D n):Ag D s0 (set1 Y k n u x d)/\slI ws xs=true:=by
 have key:∀l:Lo,(match l with| .s n=>Wi ws 0 n&&slI ws xs| .c .. =>slI ws xs)=true->(∀m,l= .s m->D m)/\slI ws xs=true:=λl hl=>by
  grind
 cases x with
 |dat l kd=>obtain⟨k1,k2⟩:=key l (by cases l<;>exact e);exact⟨h.aBG k1,k2⟩
 |nat l=>obtain⟨k1,k2⟩:=key l (by cases l<;>exact e);refine⟨Ag.aBG (u:=⟨u.t,⟨u.m.o,u.m.k,u.m.ns++[((⟨d,false⟩:Nat×Bool))]⟩,u.fr⟩) ⟨h.t,h.tl,h.fr,h.m.trans (Am.aCH _ λq i f h=>⟨f,by rw[aq (lt_of_some h)];exact h⟩)⟩ k1,k2⟩
 |tr l i τ j=>obtain⟨k1,k2⟩:=key l (by cases l<;>exact e);exact⟨h.aBG k1,k2⟩
 |nt l τ j=>obtain⟨k1,k2⟩:=key l (by cases l<;>exact e);exact⟨h.aBG k1,k2⟩
 |ti i τ j=>exact⟨h,e⟩
def Ag.sets {D:Nat->Prop}{s0:St U}{k:Nat}{ws:List (Nat×Nat)}(c:∀n,Wi ws 0 n=true->D n):∀(xs:List DI) {u:St U} {n:Nat} {d:Dat U xs},slI ws xs=true->Ag D s0 u->Ag D s0 (sets Y k n u xs d)
 |[],_,_,_,_,h=>h
 |x::xs,u,n,d,e,h=>by
  obtain⟨h1,h2⟩:=h.set1 (Y:=Y) (k:=k) (n:=n) (d:=Dhd d) e c;rw[bHr];exact Ag.sets c xs h2 h1
def aZi {k:Nat}:∀(xs:List DI) {d:Dat U xs} {o:List (EO U)} {j:Nat} {e:EO U},o[j]? =some e->∃e',(aU6 k xs d o)[j]? =some e'/\(e'=e\/(e'.cv=k/\e'.ob.aAW=false))
 |[],_,o,j,e,h=>⟨e,h, .inl rfl⟩
 |x::xs,d,o,j,e,h=>by
  rw[wN];have h1:∃c,(aYy k x (Dhd d) o)[j]? =some c/\(c=e\/(c.cv=k/\c.ob.aAW=false)):=by
   cases x with
   |dat l kd=>exact⟨e,h, .inl rfl⟩
   |nat l=>exact⟨e,h, .inl rfl⟩
   |tr l i τ p=>
    show ∃c,(upd o i (⟨.tree τ p _,k,k⟩:EO U))[j]? =some c/\_;rw[cK];by_cases n:i=j
    ·subst n;exact⟨_,bm (lt_of_some h), .inr ⟨rfl,rfl⟩⟩
    ·exact⟨e,by rw[bg n];exact h, .inl rfl⟩
   |ti i τ p=>
    show ∃c,(upd o i (⟨.tree τ p _,0,k⟩:EO U))[j]? =some c/\_;rw[cK];by_cases n:i=j
    ·subst n;exact⟨_,bm (lt_of_some h), .inr ⟨rfl,rfl⟩⟩
    ·exact⟨e,by rw[bg n];exact h, .inl rfl⟩
   |nt l τ p=>show ∃c,(o++[(⟨.tree τ p _,k,k⟩:EO U)])[j]? =some c/\_;exact⟨e,by rw[aq (lt_of_some h)];exact h, .inl rfl⟩
  obtain⟨c,h1,h2⟩:=h1;obtain⟨e',r,q⟩:=aZi xs (d:=Dtl d) h1;refine⟨e',r,?_⟩;rcases q with rfl|q
  ·exact h2
  ·exact .inr q
theorem bMj {k:Nat}:∀(xs:List DI) {d:Dat U xs} {o:List (EO U)},o.length<=(aU6 k xs d o).length
 |[],_,o=>ao _
 |x::xs,d,o=>by
  rw[wN];refine bo ?_ (bMj xs);cases x with
  |dat=>exact ao _
  |nat=>exact ao _
  |tr l i τ c=>show o.length<=(upd o i _).length;grind[cK,List.length_set]
  |nt l τ c=>show o.length<=(o++[_]).length;simp
  |ti i τ c=>show o.length<=(upd o i _).length;grind[cK,List.length_set]
def aQe {tm:Tm}{d:Dat U tm.it}(h:slI tm.ws tm.it=true):Ag (λn=>Wi tm.ws 0 n=true) b (reb Y b tm d):=by
 unfold reb;refine Ag.sets (λ_ h=>h) tm.it h ⟨λn hn=> ?_,bQ9,rfl,?_⟩
 ·have:=aYa (ws:=tm.ws) (p:=0) (n:=n) (l:=b.t);simp[*]
 ·refine⟨dy _,(by simp_all),?_,λi e e' he q=> ?_⟩
  ·grind[K9,Ws,Nat.le_trans,bMj]
  ·have hl:=lt_of_some he;by_cases hd:i∈tm.dead
   ·obtain⟨x,h1,h2,_⟩:=Fj (k:=Nat.succ b.m.k) (aP7 (k:=Nat.succ b.m.k) hd hl) tm.aBU;have e1d:=h2 (.inl rfl);obtain⟨r,v,j⟩:=aZi (k:=Nat.succ b.m.k) tm.it (d:=d) h1;have:=ak (v.symm.trans q);subst this;have:r.cv=Nat.succ b.m.k/\r.ob.aAW=false:=by
     rcases j with rfl|j
     ·rw[e1d];exact⟨rfl,rfl⟩
     ·exact j
    refine⟨λc=>by omega,λc=>(by rw[this.2] at c;cases c),λT cs vs T' cs' vs' _ c=> ?_⟩;rw[c] at this;cases this.2
   ·have h0:(kil (Nat.succ b.m.k) tm.dead b.m.o)[i]? =some e:=by grind[Ef]
    obtain⟨x,h1,h2,y⟩:=Fj (k:=Nat.succ b.m.k) h0 tm.aBU;obtain⟨r,v,j⟩:=aZi (k:=Nat.succ b.m.k) tm.it (d:=d) h1;have:=ak (v.symm.trans q);subst this;rcases j with rfl|j
    ·by_cases hk:e.ob.aAW=false\/hasB i tm.aBU=false
     ·simp_all
     ·have z:hasB i tm.aBU=true:=by simp_all
      cases ho:e.ob with
      |box T cs vs=>
       grind
      |_=>exact absurd (.inl (by rw[ho];rfl)) hk
    ·refine⟨λc=>by omega,λc=>(by rw[j.2] at c;cases c),λT cs vs T' cs' vs' _ c=> ?_⟩;rw[c] at j;cases j.2
end
end Go.EV
namespace Go.EV
open Go.RowKit Go.VK
variable {U:Uni} {Y:Lay U} {TI:List (Nat×TInfo)} {FZ:List (Nat×Sum U)} {IL:Il} {P:Program} {g:GI} {E:Env U g}
def WC (D:Nat->Prop):Code->Prop
 | .seq a b=>WC D a/\WC D b
 | .cond c a b=>(∀n,c= .tmp n->D n)/\WC D a/\WC D b
 | .block _ c=>WC D c
 | .loop c=>WC D c
 | .region _ os _=>∀o∈os.toList,∀n,Wr os.toList o n->D n
 |_=>True
def AW (D:Nat->Prop):An->Prop
 | .s a b=>AW D a/\AW D b
 | .j t a=>(∀n,Wi t.ws 0 n=true->D n)/\AW D a
 | .jx t a=>(∀n,Wi t.ws 0 n=true->D n)/\AW D a
 | .l t _ a=>(∀n,Wi t.ws 0 n=true->D n)/\AW D a
 | .rj _ t _=>∀n,Wi t.ws 0 n=true->D n
 |_=>True
def AW.true:∀an:An,AW (λ_=>True) an
 | .n=>trivial
 | .s a b=>⟨AW.true a,AW.true b⟩
 | .j t a=>⟨λ_ _=>trivial,AW.true a⟩
 | .jx t a=>⟨λ_ _=>trivial,AW.true a⟩
 | .l t _ a=>⟨λ_ _=>trivial,AW.true a⟩
 | .r .. =>trivial
 | .rj .. =>λ_ _=>trivial
 | .z .. =>trivial
 | .y .. =>trivial
 | .w .. =>trivial
 | .v .. =>trivial
 | .u .. =>trivial
 | .il .. =>trivial
 | .pl .. =>trivial
def bHx:∀{ws:List (Nat×Nat)} {p c hi n:Nat},bYk ws p c hi=true->c<=n->n<hi->Wi ws p n=true
 |[],_,_,_,_,h,_,_=>by cases h
 |(a,b)::r,p,c,hi,n,h,h1,h2=>by
  simp only[bYk,ck,ab] at h;simp only[Wi,ck,ab];rcases h with⟨k1,k2⟩|h
  ·have:=aE k1;have:=aE k2;exact .inl ⟨d8 (by omega),d8 (by omega)⟩
  ·exact .inr (bHx h h1 h2)
def Re {ws:List (Nat×Nat)}:∀{r:List (Nat×Nat)} {p n:Nat},bOt ws r p=true->Wi r p n=true->Wi ws 0 n=true
 |[],_,_,_,h=>by cases h
 |(a,b)::r,p,n,h,h1=>by
  simp only[bOt,ab,ck] at h;simp only[Wi,ck,ab] at h1;rcases h1 with⟨k1,k2⟩|h1
  ·have:=aE k1;have:=aE k2;rcases h.1 with h|h
   ·have:=ai h;omega
   ·exact bHx h (by omega) (by omega)
  ·exact Re h.2 h1
def xX {ws:List (Nat×Nat)}:∀{an:An},anW ws an=true->AW (λn=>Wi ws 0 n=true) an
 | .n,_=>trivial
 | .s a b,h=>by simp only[anW,ab] at h;exact⟨xX h.1,xX h.2⟩
 | .j t a,h=>by simp only[anW,ab] at h;exact⟨λn=>Re h.1,xX h.2⟩
 | .jx t a,h=>by simp only[anW,ab] at h;exact⟨λn=>Re h.1,xX h.2⟩
 | .l t _ a,h=>by simp only[anW,ab] at h;exact⟨λn=>Re h.1,xX h.2⟩
 | .r ..,_=>trivial
 | .rj ..,h=>λn=>Re h
 | .z ..,_=>trivial
 | .y ..,_=>trivial
 | .w ..,_=>trivial
 | .v ..,_=>trivial
 | .u ..,_=>trivial
 | .il ..,_=>trivial
 | .pl ..,_=>trivial
def AW.a {D:Nat->Prop}{an:An}(h:AW D an):AW D an.a:=by cases an<;>first|exact h.1|trivial
def AW.b {D:Nat->Prop}{an:An}(h:AW D an):AW D an.b:=by cases an<;>first|exact h.2|trivial
def aLe {ws:List (Nat×Nat)}{al:List Oper}:∀{l:List Oper},wrG ws al l=true->∀o∈l,∀n,Wr al o n->Wi ws 0 n=true
 |[],_,o,h=>by simp at h
 |x::l,h,o,ho=>by
  have e:wrG ws al (x::l)=cond ((match x.dst with|some n=>Wi ws 0 n|none=>true)&&(match x.guard with|some (j,_)=>(match nth al j with|some oj=>(match oj.dst with|some n=>Wi ws 0 n|none=>true)|none=>true)|none=>true)) (wrG ws al l) false:=rfl;rw[e] at h;cases hc:((match x.dst with|some n=>Wi ws 0 n|none=>true)&&(match x.guard with|some (j,_)=>(match nth al j with|some oj=>(match oj.dst with|some n=>Wi ws 0 n|none=>true)|none=>true)|none=>true)) with
  |false=>rw[hc] at h;cases h
  |true=>
   rw[hc] at h;simp only[ae] at h;rcases bl.1 ho with rfl|ho
   ·simp only[ab] at hc;rintro n (hn|⟨j,b,oj,h1,h2,c⟩)
    ·have:=hc.1;rw[hn] at this;exact this
    ·have:=hc.2;rw[h1] at this;simp only[aR,h2,c] at this;exact this
   ·exact aLe h o ho
def bJ7 {ws:List (Nat×Nat)}:∀{f:Nat} {c:Code},wr ws f c=true->WC (λn=>Wi ws 0 n=true) c:=by
 intro f;induction f with
 |zero=>intro c h;cases h
 |succ f i=>
  intro c h;cases c with
  |seq a b=>replace h:(wr ws f a&&wr ws f b)=true:=h;simp only[ab] at h;exact⟨i h.1,i h.2⟩
  |cond c a b=>
   cases c with
   |tmp n=>replace h:(Wi ws 0 n&&(wr ws f a&&wr ws f b))=true:=h;simp only[ab] at h;exact⟨λj e=>by injection e with e;subst e;exact h.1,i h.2.1,i h.2.2⟩
   |_=>cases h
  |block id c=>exact i (c:=c) h
  |loop c=>exact i (c:=c) h
  |region id os d=>exact aLe (by assumption)
  |_=>trivial
section
variable {α:Type}
def Snd (P:Program)(Y:Lay U)(E:Env U g)(D:Nat->Prop)(c:Code)(s:St U){α:Type}(z:α)(N:St U->Option α)(X:Nat->St U->Option α)(R:St U->Option α):Prop:=
 ∀Q:Exit->Act->World->Prop,(∀s' a w β,Ag D s s'->N s'=some z->bB Y.C E s' a w β->Q .normal a w)->(∀i s' a w β,Ag D s s'->X i s'=some z->bB Y.C E s' a w β->Q (.exit i) a w)->(∀s' a w β,Ag D s s'->R s'=some z->bB Y.C E s' a w β->Q .ret a w)->
  ∀a w β,bB Y.C E s a w β->c.wp P Q a w
def bRa (P:Program)(Y:Lay U)(TI:List (Nat×TInfo))(FZ:List (Nat×Sum U))(IL:Il)(g:GI):Prop:=
 ∀(E:Env U g),E.fr=[]->E.prm=[]->∀(α:Type) (EV:An->Code->St U->(St U->Option α)->Option α),(∀(E:Env U g),E.fr=[]->E.prm=[]->∀(an:An) (c:Code) (s:St U) (K:St U->Option α) (z:α),EV an c s K=some z->Snd P Y E (λ_=>True) c s z K (λ_ _=>none) K)->
  ∀(id:Nat) (os:Array Oper) (d:Bool) (an:An) (s:St U) (N:St U->Option α) (X:Nat->St U->Option α) (R:St U->Option α) (z:α) (D:Nat->Prop),(∀o∈os.toList,∀n,Wr os.toList o n->D n)->AW D an->bS6 Y TI FZ IL EV os.toList os d an s N=some z->Snd P Y E D (.region id os d) s z N X R
def WC.true:∀c:Code,WC (λ_=>True) c:=λc=>by
 induction c with
 |seq a b h1 h2=>exact⟨h1,h2⟩
 |cond c a b h1 h2=>exact⟨λ_ _=>trivial,h1,h2⟩
 |block id c h=>exact h
 |loop c h=>exact h
 |region id os d=>exact λ_ _ _ _=>trivial
 |_=>trivial
def NJ (an:An):Prop:=(∀tm a,an≠ .j tm a)/\∀tm a,an≠ .jx tm a
section
variable {f:Nat} {an:An} {s:St U} {N:St U->Option α} {X:Nat->St U->Option α} {R:St U->Option α}
def cBf (h:NJ an){a b:Code}:ev Y TI FZ IL (f+1) an (.seq a b) α s N X R=ev Y TI FZ IL f an.a a α s (λs'=>ev Y TI FZ IL f an.b b α s' N X R) X R:=by cases an<;>first|exact absurd rfl (h.1 _ _)|exact absurd rfl (h.2 _ _)|rfl
def bYv (h:NJ an){n:Nat}{a b:Code}:ev Y TI FZ IL (f+1) an (.cond (.tmp n) a b) α s N X R=tst n s (λs=>ev Y TI FZ IL f an.a a α s N X R) (λs=>ev Y TI FZ IL f an.b b α s N X R):=by cases an<;>first|exact absurd rfl (h.1 _ _)|exact absurd rfl (h.2 _ _)|rfl
def bV7 (h:NJ an){c:Operand}{a b:Code}{z:α}(d:ev Y TI FZ IL (f+1) an (.cond c a b) α s N X R=some z):∃n,c= .tmp n:=by
 cases c with
 |tmp n=>simp
 |_=>cases an<;>first|exact absurd rfl (h.1 _ _)|exact absurd rfl (h.2 _ _)|cases d
def bV8 (h:NJ an){id:Nat}{c:Code}:ev Y TI FZ IL (f+1) an (.block id c) α s N X R=ev Y TI FZ IL f an.a c α s N (λi s'=>bif Nat.beq i id then N s' else X i s') R:=by cases an<;>first|exact absurd rfl (h.1 _ _)|exact absurd rfl (h.2 _ _)|rfl
def bYw (h:NJ an){c:Code}{z:α}(e:ev Y TI FZ IL (f+1) an (.loop c) α s N X R=some z):(∃tm n a,an= .l tm n a/\(bif wr tm.ws f c&&anW tm.ws a then bd (col Y s tm s) (bF n λrec d=>ev Y TI FZ IL f a c α (reb Y s tm d) (λs'=>bd (col Y s tm s') rec) X R) else none)=some z)\/∃a b,an= .s a b/\NJ b/\ev Y TI FZ IL f a c α s (λs'=>ev Y TI FZ IL f b (.loop c) α s' N X R) X R=some z:=by cases an<;>grind[inl,cC4,ev,NJ,absurd]
def bYx (h:NJ an):ev Y TI FZ IL (f+1) an .skip α s N X R=N s:=by cases an<;>first|exact absurd rfl (h.1 _ _)|exact absurd rfl (h.2 _ _)|rfl
def cBg (h:NJ an):ev Y TI FZ IL (f+1) an .ret α s N X R=R s:=by cases an<;>first|exact absurd rfl (h.1 _ _)|exact absurd rfl (h.2 _ _)|rfl
def bYy (h:NJ an){i:Nat}:ev Y TI FZ IL (f+1) an (.exit i) α s N X R=X i s:=by cases an<;>first|exact absurd rfl (h.1 _ _)|exact absurd rfl (h.2 _ _)|rfl
def bTs (h:NJ an){id:Nat}{os:Array Oper}{d:Bool}:ev Y TI FZ IL (f+1) an (.region id os d) α s N X R=bS6 Y TI FZ IL (λa c s K=>ev Y TI FZ IL f a c α s K (λ_ _=>none) K) os.toList os d an s N:=by cases an<;>first|exact absurd rfl (h.1 _ _)|exact absurd rfl (h.2 _ _)|rfl
end
def bV9 (an:An):(∃tm a,an= .j tm a)\/(∃tm a,an= .jx tm a)\/NJ an:=by cases an<;>simp[NJ]
def LoopIn (P:Program)(Y:Lay U)(E:Env U g)(D:Nat->Prop)(c:Code)(s:St U){α:Type}(z:α)(N:St U->Option α)(X:Nat->St U->Option α)(R:St U->Option α):Prop:=
 ∀Q:Exit->Act->World->Prop,(∀s' a w β,Ag D s s'->N s'=some z->bB Y.C E s' a w β->Q .normal a w)->(∀i s' a w β,Ag D s s'->X i s'=some z->bB Y.C E s' a w β->Q (.exit i) a w)->(∀s' a w β,Ag D s s'->R s'=some z->bB Y.C E s' a w β->Q .ret a w)->
  ∀a w β,bB Y.C E s a w β->∀(b:Frame) (d:List Item) (cs:List Frame),∃e h w',Q e h w'/\Arrives P (lone (b.at a (.code c:: .inLoop c::d)) cs w) b d cs e h w'
def bMk (P:Program)(Y:Lay U)(TI:List (Nat×TInfo))(FZ:List (Nat×Sum U))(IL:Il)(g:GI)(f:Nat):Prop:=∀(E:Env U g),E.fr=[]->E.prm=[]->∀(an:An) (c:Code) (α:Type) (s:St U) (N:St U->Option α) (X:Nat->St U->Option α) (R:St U->Option α) (z:α) (D:Nat->Prop),WC D c->AW D an->ev Y TI FZ IL f an c α s N X R=some z->Snd P Y E D c s z N X R
def bJ8 (P:Program)(Y:Lay U)(TI:List (Nat×TInfo))(FZ:List (Nat×Sum U))(IL:Il)(g:GI)(f:Nat):Prop:=∀(E:Env U g),E.fr=[]->E.prm=[]->∀(an:An) (c:Code) (α:Type) (s:St U) (N:St U->Option α) (X:Nat->St U->Option α) (R:St U->Option α) (z:α) (D:Nat->Prop),NJ an->WC D c->AW D an->ev Y TI FZ IL f an (.loop c) α s N X R=some z->LoopIn P Y E D c s z N X R
def bRb {f:Nat}(IH:bMk P Y TI FZ IL g f/\bJ8 P Y TI FZ IL g f):bJ8 P Y TI FZ IL g (f+1):=by
 intro E B L an j α s N X R z D hn Z G h Q hN hX hR a0 w0 β0 H b t cs;rcases bYw hn h with⟨tm,n,a,rfl,h'⟩|⟨a,b2,rfl,O,h'⟩<;>replace h:=h'
 ·cases hb:(wr tm.ws f j&&anW tm.ws a) with
  |false=>simp_all
  |true=>
   rw[hb] at h;simp only[ae] at h;simp only[ab] at hb;obtain⟨d0,h1,h2⟩:=jN h;have key:∀(m:Nat) (d:Dat U tm.it),bF m (λrec d=>ev Y TI FZ IL f a j α (reb Y s tm d) (λs'=>bd (col Y s tm s') rec) X R) d=some z->∀I J β1,bB Y.C E (reb Y s tm d) I J β1->Ag (λn=>Wi tm.ws 0 n=true) s (reb Y s tm d)->∀(b:Frame) (t:List Item) (cs:List Frame),
     ∃e A w',Q e A w'/\Arrives P (lone (b.at I (.code j:: .inLoop j::t)) cs J) b t cs e A w':=by
    intro m;induction m with
    |zero=>intro d hd;cases hd
    |succ m ih=>
     intro d hd I J β1 S hg b t cs;have T:ev Y TI FZ IL f a j α (reb Y s tm d) (λs'=>bd (col Y s tm s') (bF m (λrec d=>ev Y TI FZ IL f a j α (reb Y s tm d) (λs'=>bd (col Y s tm s') rec) X R))) X R=some z:=hd;have k:=IH.1 E B L a j _ _ _ _ _ z _ (bJ7 hb.1) (xX hb.2) T (Exit.then (λA w'=>∃d' β',bF m (λrec d=>ev Y TI FZ IL f a j α (reb Y s tm d) (λs'=>bd (col Y s tm s') rec) X R) d'=some z/\bB Y.C E (reb Y s tm d') A w' β'/\Ag (λn=>Wi tm.ws 0 n=true) s (reb Y s tm d')) Q)
      (λs2 q r β2 o hc v=>by
       obtain⟨d',q1,q2⟩:=jN hc;obtain⟨β',r'⟩:=Et B H v (hg.trans o) q1;obtain⟨_,_,_,hs,_⟩:=Ww q1;exact⟨d',β',q2,r',aQe hs⟩)
      (λi s2 q r β2 o hc v=>hX i s2 q r β2 ((hg.trans o).mono G.1) hc v)
      (λs2 q r β2 o hc v=>hR s2 q r β2 ((hg.trans o).mono G.1) hc v) I J β1 S b (.inLoop j::t) cs
     obtain⟨e,a₁,w₁,hq,c⟩:=k;cases e with
     |normal=>obtain⟨d',β',V,W,F⟩:=hq;obtain⟨e₂,a₂,w₂,y,p⟩:=ih d' V a₁ w₁ β' W F b t cs;exact⟨e₂,a₂,w₂,y, .of_steps (Steps.trans c (.one step_inLoop)) p⟩
     |exit id=>exact⟨_,a₁,w₁,hq, .pass (x:= .inLoop j) rfl (λ_ _=> .inl (by simp)) c⟩
     |goto l=>exact⟨_,a₁,w₁,hq, .pass (x:= .inLoop j) rfl (λ_ _=> .inl (by simp)) c⟩
     |ret=>exact⟨_,a₁,w₁,hq, .pass (x:= .inLoop j) rfl (λ_ _=> .inl (by simp)) c⟩
     |panic ch=>exact⟨_,a₁,w₁,hq, .pass (x:= .inLoop j) rfl (λ_ _=> .inl (by simp)) c⟩
     |outgrown=>exact⟨_,a₁,w₁,hq, .pass (x:= .inLoop j) rfl (λ_ _=> .inl (by simp)) c⟩
   obtain⟨β1,S⟩:=Et B H H (Ag.refl s) h1;obtain⟨_,_,_,hs,_⟩:=Ww h1;exact key n d0 h2 a0 w0 β1 S (aQe hs) b t cs
 ·have k:=IH.1 E B L a j _ s _ _ _ z D Z G.1 h (Exit.then (λA w'=>∃s' β',ev Y TI FZ IL f b2 (.loop j) α s' N X R=some z/\bB Y.C E s' A w' β'/\Ag D s s') Q)
   (λs2 q r β2 o hc v=>⟨s2,β2,hc,v,o⟩)
   (by assumption)
   (by assumption) a0 w0 β0 H b (.inLoop j::t) cs
  obtain⟨e,a₁,w₁,hq,c⟩:=k;cases e with
  |normal=>obtain⟨s',β',V,W,F⟩:=hq;obtain⟨e₂,a₂,w₂,y,p⟩:=IH.2 E B L b2 j _ s' N X R z D O Z G.2 V Q (λs2 q r β2 hg=>hN s2 q r β2 (F.trans hg)) (λi s2 q r β2 hg=>hX i s2 q r β2 (F.trans hg)) (λs2 q r β2 hg=>hR s2 q r β2 (F.trans hg)) a₁ w₁ β' W b t cs;exact⟨e₂,a₂,w₂,y, .of_steps (Steps.trans c (.one step_inLoop)) p⟩
  |exit id=>exact⟨_,a₁,w₁,hq, .pass (x:= .inLoop j) rfl (λ_ _=> .inl (by simp)) c⟩
  |goto l=>exact⟨_,a₁,w₁,hq, .pass (x:= .inLoop j) rfl (λ_ _=> .inl (by simp)) c⟩
  |ret=>exact⟨_,a₁,w₁,hq, .pass (x:= .inLoop j) rfl (λ_ _=> .inl (by simp)) c⟩
  |panic ch=>exact⟨_,a₁,w₁,hq, .pass (x:= .inLoop j) rfl (λ_ _=> .inl (by simp)) c⟩
  |outgrown=>exact⟨_,a₁,w₁,hq, .pass (x:= .inLoop j) rfl (λ_ _=> .inl (by simp)) c⟩
def cBh (HR:bRa P Y TI FZ IL g){f:Nat}(IH:bMk P Y TI FZ IL g f/\bJ8 P Y TI FZ IL g f):bMk P Y TI FZ IL g (f+1):=by
  intro E x A an c α s N X R z D H B h;rcases bV9 an with⟨tm,a,rfl⟩|⟨tm,a,rfl⟩|hn
  ·replace h:(bif wr tm.ws f c&&anW tm.ws a then bd (ev Y TI FZ IL f a c (Dat U tm.it) s (λs'=>col Y s tm s') (λ_ _=>none) (λ_=>none)) λd=>N (reb Y s tm d) else none)=some z:=h;cases hb:(wr tm.ws f c&&anW tm.ws a) with
   |false=>simp_all
   |true=>rw[hb] at h;simp only[ae] at h;simp only[ab] at hb;obtain⟨d,h1,h2⟩:=jN h;intro Q v hX y a0 w0 β0 p;refine IH.1 E x A a c _ s _ _ _ d _ (bJ7 hb.1) (xX hb.2) h1 Q (λs' F w' β' j hc G=> ?_) (by simp) (by simp) a0 w0 β0 p;obtain⟨β'',I⟩:=Et x p G j hc;obtain⟨_,_,_,hs,_⟩:=Ww hc;exact v _ _ _ _ ((aQe hs).mono B.1) h2 I
  ·replace h:(bif wr tm.ws f c&&anW tm.ws a then nx (ev Y TI FZ IL f a c (α⊕Dat U tm.it) s (λs'=>bd (col Y s tm s') λd=>some (.inr d)) (λi s'=>bd (X i s') λr=>some (.inl r)) (λs'=>bd (R s') λr=>some (.inl r))) λd=>N (reb Y s tm d) else none)=some z:=h;cases hb:(wr tm.ws f c&&anW tm.ws a) with
   |false=>simp_all
   |true=>
    rw[hb] at h;simp only[ae] at h;simp only[ab] at hb;obtain⟨q,h1,h2⟩:=bYe h;intro Q v hX y a0 w0 β0 p;refine IH.1 E x A a c _ s _ _ _ q _ (bJ7 hb.1) (xX hb.2) h1 Q (λs' F w' β' j hc G=> ?_) (λi s' F w' β' j hc G=> ?_) (λs' F w' β' j hc G=> ?_) a0 w0 β0 p
    ·obtain⟨d,J,L⟩:=jN hc;have:=ak L;subst this;obtain⟨β'',I⟩:=Et x p G j J;obtain⟨_,_,_,hs,_⟩:=Ww J;exact v _ _ _ _ ((aQe hs).mono B.1) h2 I
    ·obtain⟨d,J,L⟩:=jN hc;have:=ak L;subst this;obtain rfl:d=z:=h2;exact hX i s' F w' β' (j.mono B.1) J G
    ·obtain⟨d,J,L⟩:=jN hc;have:=ak L;subst this;obtain rfl:d=z:=h2;exact y s' F w' β' (j.mono B.1) J G
  cases c with
  |seq a b=>
   rw[cBf hn] at h;intro Q v hX y a0 w0 β0 p;exact wp_seq (IH.1 E x A an.a a _ s _ _ _ z D H.1 B.a h (Exit.then (b.wp P Q) Q) (λs' F w' β' j h2 G=>
    IH.1 E x A an.b b _ s' _ _ _ z D H.2 B.b h2 Q (λs2 l o β2 hg=>v s2 l o β2 (j.trans hg)) (λi s2 l o β2 hg=>hX i s2 l o β2 (j.trans hg)) (λs2 l o β2 hg=>y s2 l o β2 (j.trans hg)) F w' β' G)
    (by assumption) (by assumption) a0 w0 β0 p)
  |cond W a b=>
    obtain⟨n,rfl⟩:=bV7 hn h;rw[bYv hn] at h;intro Q v hX y a0 w0 β0 p;obtain⟨t,s1,k1,k2,k3,k4,k5,k6⟩:=bHp p h;have j:=k6.mono (D':=D) (λk e=>e▸H.1 n rfl);refine wp_cond_split k1 (λht=> ?_) (λT=> ?_)
    ·exact IH.1 E x A an.a a _ s1 _ _ _ z D H.2.1 B.a (k4 ht) Q (λs2 l o β2 hg=>v s2 l o β2 (j.trans hg)) (λi s2 l o β2 hg=>hX i s2 l o β2 (j.trans hg)) (λs2 l o β2 hg=>y s2 l o β2 (j.trans hg)) a0 w0 β0 k3
    ·exact IH.1 E x A an.b b _ s1 _ _ _ z D H.2.2 B.b (k5 T) Q (λs2 l o β2 hg=>v s2 l o β2 (j.trans hg)) (λi s2 l o β2 hg=>hX i s2 l o β2 (j.trans hg)) (λs2 l o β2 hg=>y s2 l o β2 (j.trans hg)) a0 w0 β0 k3
  |block id S=>
   rw[bV8 hn] at h;intro Q v hX y a0 w0 β0 p;refine wp_block (IH.1 E x A an.a S _ s _ _ _ z D H B.a h (Exit.inBlock id Q) (by assumption) (λi s' F w' β' j h2 G=> ?_) (by assumption) a0 w0 β0 p)
   grind[Nat.beq,id,Nat.eq_of_beq_eq_true,Nat.beq_refl,Exit.inBlock]
  |loop S=>intro Q v hX y a0 w0 β0 p b V cs;obtain⟨e,F,w',hq,O⟩:=bRb IH E x A an S α s N X R z D hn H B h Q v hX y a0 w0 β0 p b V cs;exact⟨e,F,w',hq, .of_steps (.one step_loop) O⟩
  |skip=>
   rw[bYx hn] at h;intro Q v hX y a0 w0 β0 p
   grind[wp_skip,Ag.refl]
  |ret=>
   rw[cBg hn] at h;intro Q v hX y a0 w0 β0 p
   grind[wp_ret,Ag.refl]
  |exit i=>
   rw[bYy hn] at h;intro Q v hX y a0 w0 β0 p
   grind[wp_exit,Ag.refl]
  |region id os d=>rw[bTs hn] at h;exact HR E x A α _ (λE x A an c s K z h=>IH.1 E x A an c _ s _ _ _ z (λ_=>True) (WC.true c) (AW.true an) h) id os d an s N X R z D H B h
  |_=>cases an<;>first|exact absurd rfl (hn.1 _ _)|exact absurd rfl (hn.2 _ _)|cases h
def bJ9 (HR:bRa P Y TI FZ IL g):∀(f:Nat),bMk P Y TI FZ IL g f/\bJ8 P Y TI FZ IL g f
 |0=>And.intro (λE _ _ an c α s N X R z D _ _ h=>nomatch h) (λE _ _ an d α s N X R z D _ _ _ h=>nomatch h)
 |f+1=>⟨cBh HR (bJ9 HR f),bRb (bJ9 HR f)⟩
def bMl (HR:bRa P Y TI FZ IL g)(f:Nat):bMk P Y TI FZ IL g f:=(bJ9 HR f).1
end
end Go.EV
namespace Go.EV
open Go.RowKit Go.VK
variable {U:Uni} {Y:Lay U} {TI:List (Nat×TInfo)} {FZ:List (Nat×Sum U)} {P:Program} {g:GI} {E:Env U g}
section
variable {s:St U} {a:Act} {w:World} {β:List Tr} {α:Type}
def bKa (G:Good P g Y TI FZ)(r:bB Y.C E s a w β){al:List Oper}{o:Oper}{K:St U->Option α}{z:α}(h:grd Y TI FZ al o s K=some z){c:Act->World->Prop}{Q:Exit->Act->World->Prop}
  (hk:∀s' v w' β',Ag (Wr al o) s s'->K s'=some z->bB Y.C E s' (a.put o.dst v) w' β'->(Nat.ble (Fg FZ o.op) 1=true->Ext w w')->c (a.put o.dst v) w'):if Region.wanted o (yielded al.toArray a.tmps)=true then o.wp P a w c Q else c (a.put o.dst undef) w:=by
 obtain⟨s1,i,h1,h2⟩:=aQb r h;rcases h2 with⟨d,h2⟩|⟨d,h2⟩
 ·rw[cu d];unfold one at h2;obtain⟨x,s2,k1,k2,k3,k4,k5⟩:=bHo G i rfl h2;exact k2 c Q λv w' β' q1 q2 q3=>hk _ v w' β' (Ag.put ⟨λn hn=>by rw[k3];exact h1.t n hn,by rw[k3];exact h1.tl,by rw[k4];exact h1.fr,h1.m.trans k5⟩ (λn e=> .inl e)) k1 (q1.put q2) q3
 ·rw[cG (by rw[d];simp)];exact hk _ _ w β (h1.put (λn e=> .inl e)) h2 (i.put (x:= .l .und) (v:=undef) (λ_=>rfl)) (λ_=>Ext.refl w)
def bB.aBL {C:Cod U}(r:bB C E s a w β){d:Option Nat}{x:Sv U}{v:Value}(h:d≠none->x.mean C w (E.X β) β s.m v)(hv:∀n,d=some n->a.tmps.getD n undef=v):bB C E (EV.put s d x) a w β:=by
 have c:=r.put h;refine⟨c.hp,r.defers,?_,λn y e=> ?_⟩
 ·rw[r.tsz];cases d<;>grind[EV.put,cK]
 ·have:=c.tm n y e;cases d with
  |none=>exact this
  |some m=>
   by_cases hm:m=n
   ·subst hm;by_cases hl:m<a.tmps.size
    all_goals simp_all[ee,undef,Act.put,Fa,cu]
   simp_all[undef,Act.put,Fa,cG,ee]
def aLf {d:Option Nat}{v:Value}{n:Nat}(h:d≠some n):(a.put d v).tmps.getD n undef=a.tmps.getD n undef:=by cases d<;>simp_all[Act.put,Fa,cG,ee]
def bB.aBQ {C:Cod U}(r:bB C E s a w β){d:Option Nat}{v:Value}(h:bEl s d=true):bB C E s (a.put d v) w β:=by
 refine⟨r.hp,?_,?_,λn x c=> ?_⟩
 ·cases d<;>exact r.defers
 ·rw[<-r.tsz];cases d<;>grind[Act.put]
 ·by_cases hd:d=some n
  ·subst hd;simp only[bEl,aR,c] at h;split at h
   ·rename_i e;have:=ak e;subst this;trivial
   ·cases h
  ·rw[aLf hd];exact r.tm n x c
def bB.aCW {C:Cod U}(r:bB C E s a w β){d:Option Nat}:bB C E (EV.put s d (.l .any)) a w β:=by
 cases d with
 |none=>exact r
 |some n=>exact r.aBL (v:=a.tmps.getD n undef) (λ_=>trivial) (by simp)
theorem Rf {o:Oper}(h:aY1 o.op=true){a:Act}{w:World}{v:Value}(hr:(execOp a.eval o).run P w= .ok (.value v) w)(w':World):(execOp a.eval o).run P w'= .ok (.value v) w':=by
 cases ho:o.op with
 |move x=>simp_all[execOp]
 |assign x=>simp_all[execOp]
 |extract x i=>
  simp only[execOp,ho] at hr ⊢;cases c:a.eval x with
  |tuple vs=>rw[c] at hr;simp only[Instr.extract] at hr ⊢;cases hv:vs[i]?<;>simp_all
  |_=>rw[c] at hr;simp[Instr.extract] at hr
 |_=>rw[ho] at h;cases h
def aGe {a0:Option Nat}{i:Nat}{c:Array Bool}{pre:Bool}(h:a0Y a0 i c=true)(hp:gH a0 c=pre):gH a0 (c.setIfInBounds i true)=(pre&& !Qs a0 i):=by cases a0<;>grind[Qs,Nat.beq_refl,a0Y,bne_self_eq_false,Bool.not_eq_true',Nat.beq,absurd,Nat.eq_of_beq_eq_true,Ee,Option.some.inj]
def cDe {os:Array Oper}{a0:Option Nat}(hs:Region.noSelect os=true){Q:Exit->Act->World->Prop}{i:Nat}{o:Oper}{v:Value}{n:Nat}{c:Array Bool}{wS:World}(ho:os[i]? =some o)(l:Dn .any os c)(hc:tkY os a0 i c=true)
  (p:YieldsIf P os (Ext wS) o v a) (k:aY1 o.op=true->YieldsIf P os (λ_=>True) o v a) (q:gH a0 c=true->Ext wS w)
  (h:dO P .any os a0 (NoPanic Q) (Ext wS) n (c.setIfInBounds i true) (a.put o.dst v) w):dO P .any os a0 (NoPanic Q) (Ext wS) (n+1) c a w:=by
 simp only[tkY,ab] at hc;obtain⟨⟨h1,h2⟩,r⟩:=hc;have d:i∈Region.ready .any os c:=by simp_all
 cases a0 with
 |none=>exact oG ho (Region.noSelect_spec hs) (λ_ _ _ h=>h) (by simp) (λ_ _ _=>rfl) n c a w (Region.free_spec ho h1) l d p (q rfl) h
 |some b=>
  simp only[ab,bne_iff_ne,ne_eq,ck,ho] at r;have e:some b≠some i:=(by simp[*]);rcases r.2 with t|t
  ·have j:∀c,Dn .any os c->c.getD i true=false->gH (some b) c=true:=(by grind[gH,Bool.not_eq_true',getD_in,aC0]);exact oG ho (Region.noSelect_spec hs) (λ_ _ _ h=>h) e j n c a w (Region.free_spec ho h1) l d p (by grind[mem_ready]) h
  ·exact Qg ho (Region.noSelect_spec hs) (λ_ _ _ h=>h) e n c a w (Region.free_spec ho h1) d (k t) q h
def wO {os:Array Oper}{a0:Option Nat}{i:Nat}{c:Array Bool}(h:tkY os a0 i c=true):i∈Region.ready .any os c/\a0≠some i:=by
 simp only[tkY,ab] at h
 grind
structure Lk (E:Env U g) (kd:Option (Nat×Nat)) (st pre:Bool) (wS w:World):Prop where
 fr:∀n k,kd=some (n,k)->(wS,n,k)∈E.fr
 st:st=true->wS=w
 no:kd=none->wS=w
 pre:pre=true->Ext wS w
def stepT (G:Good P g Y TI FZ){al:List Oper}{a0:Option Nat}(hs:Region.noSelect al.toArray=true){Q:Exit->Act->World->Prop}{i:Nat}{o:Oper}{n:Nat}{c:Array Bool}{wS:World}(ho:al[i]? =some o)(j:Dn .any al.toArray c)(hc:tkY al.toArray a0 i c=true)
  {K:St U->Option α} {z:α} {st:Bool} (h:(bif Nat.beq (Fg FZ o.op) 0&&(aY1 o.op||st) then grd Y TI FZ al o s K else none)=some z) (e:st=true->wS=w) (k:gH a0 c=true->Ext wS w) (r:bB Y.C E s a w β)
  (hk:∀v s',Ag (Wr al o) s s'->K s'=some z->bB Y.C E s' (a.put o.dst v) w β->dO P .any al.toArray a0 (NoPanic Q) (Ext wS) n (c.setIfInBounds i true) (a.put o.dst v) w):dO P .any al.toArray a0 (NoPanic Q) (Ext wS) (n+1) c a w:=by
 cases hb:(Nat.beq (Fg FZ o.op) 0&&(aY1 o.op||st)) with
 |false=>simp_all
 |true=>
  rw[hb] at h;simp only[ae] at h;simp only[ab,ck] at hb;obtain⟨v,s',h1,h2,l,p⟩:=cBd G r (ai hb.1) h;have hg:al.toArray[i]? =some o:=by simp[*]
  have d:aY1 o.op=true->YieldsIf P al.toArray (λ_=>True) o v a:=λhp=>h1.imp (λ⟨k1,k2⟩=>⟨k1,λw' _=>Rf hp (k2 w (Ext.refl w)) w'⟩) id;refine cDe hs hg j hc ?_ d k (hk v s' p l h2);rcases hb.2 with hp|hp
  ·exact(d hp).imp (by simp_all) id
  ·have:=e hp;subst this;exact h1
def bMm (G:Good P g Y TI FZ){al:List Oper}{a0:Option Nat}{kd:Option (Nat×Nat)}{Q:Exit->Act->World->Prop}{i:Nat}{o:Oper}{n:Nat}{c:Array Bool}{wS:World}(ho:al[i]? =some o){pre st:Bool}(t:a0Y a0 i c=true)(hp:gH a0 c=pre)
  {K:St U->Option α} {z:α} (h:grd Y TI FZ al o s (λs'=>bif !(pre&& !Qs a0 i)||(Nat.ble (Fg FZ o.op) 1||unO kd s'.m.o) then K s' else none)=some z) (hl:Lk E kd st pre wS w) (r:bB Y.C E s a w β)
  (hk:∀v s' w' β' wS',Ag (Wr al o) s s'->K s'=some z->bB Y.C E s' (a.put o.dst v) w' β'->Lk E kd (st&&aK0 kd) (pre&& !Qs a0 i) wS' w'->dO P .any al.toArray a0 (NoPanic Q) (Ext wS') n (c.setIfInBounds i true) (a.put o.dst v) w'):
  wpOp P al.toArray (NoPanic Q) i (λy w'=>(gH a0 (c.setIfInBounds i true)=true->Ext wS w')/\dO P .any al.toArray a0 (NoPanic Q) (Ext wS) n (c.setIfInBounds i true) y w') a w:=by
 have k:=aGe t hp;have hg:al.toArray[i]? =some o:=by simp[*]
 refine wpOp_step hg λB l=>bKa G r h λs' v w' β' q1 q2 q3 q4=>l _ _ ?_;cases hb:(!(pre&& !Qs a0 i)||(Nat.ble (Fg FZ o.op) 1||unO kd s'.m.o)) with
 |false=>simp_all
 |true=>
  rw[hb] at q2;simp only[ae] at q2;have d:(pre&& !Qs a0 i)=true->Ext wS w':=λe=>by
   rw[e] at hb;simp only[ah,cy,ck] at hb;simp only[ab] at e;rcases hb with hb|hb
   ·exact(hl.pre e.1).trans (q4 hb)
   ·cases j:kd with
    |none=>rw[j] at hb;cases hb
    |some p=>obtain⟨n0,k0⟩:=p;rw[j] at hb;exact q3.unt (hl.fr n0 k0 j) hb
  refine⟨λhn=>d (k.symm.trans hn),?_⟩;cases j:kd with
  |some p=>exact hk v s' w' β' wS q1 q2 q3 ⟨hl.fr,(by grind[aK0]),(by simp[*]),d⟩
  |none=>
   have F:=hl.no j;have q:=hk v s' w' β' w' q1 q2 q3 ⟨(by simp[*]),λ_=>rfl,λ_=>rfl,λ_=>Ext.refl w'⟩;cases e:(pre&& !Qs a0 i) with
   |true=>exact xU (λx A=>(d e).trans A) _ _ _ _ q
   |false=>grind[qX]
variable {al:List Oper} {a0:Option Nat} {kd:Option (Nat×Nat)} {Q:Exit->Act->World->Prop} {D:Nat->Prop}
def bMn (G:Good P g Y TI FZ)(hs:Region.noSelect al.toArray=true):∀(l:List (Nat×Bool)) (pre st:Bool) (s:St U) (K:St U->Option α) (z:α),(∀i∈l,∀o,al[i.1]? =some o->∀n,Wr al o n->D n)->aK3 Y TI FZ al a0 kd l none pre st s K=some z->
  (∀s' a w β,Ag D s s'->K s'=some z->bB Y.C E s' a w β->Q .normal a w)->∀c,Dn .any al.toArray c->aP3 al.toArray a0 l c=true->gH a0 c=pre->∀a w β wS,Lk E kd st pre wS w->bB Y.C E s a w β->dO P .any al.toArray a0 (NoPanic Q) (Ext wS) l.length c a w
 |[],pre,st,s,K,z,_,h,q,c,_,hc,_,a,w,β,wS,_,r=>xV (P:=P) (a0:=a0) (S:=Ext wS) (Q:=NoPanic Q) (by simpa[aP3] using hc) (q s a w β (Ag.refl s) h r) 0
 |(i,fl)::l,pre,st,s,K,z,F,h,q,c,d,hc,hp,a,w,β,wS,hl,r=>by
  simp only[aK3,aR] at h;cases ho:al[i]? with
  |none=>rw[ho] at h;cases h
  |some o=>
   rw[ho] at h;simp only at h;have e:=F (i,fl) (by simp) o ho;have k:∀j∈l,∀o,al[j.1]? =some o->∀n,Wr al o n->D n:=λj H=>F j (by simp[H]);cases fl with
   |true=>
    simp only[aP3,ab] at hc;obtain⟨hr,t⟩:=wO hc.1;exact stepT G hs ho d hc.1 h hl.st (λhn=>hl.pre (hp.symm.trans hn)) r λv s' h1 h2 x=>
     bMn G hs l pre st s' K z k h2 (λs2 y A β2 B=>q s2 y A β2 ((h1.mono e).trans B)) _ (d.set hr) hc.2 ((Ee t).trans hp) _ w β wS hl x
   |false=>
    simp only[aP3,ab,cN] at hc;simp only[ac] at h;rw[show aUa Y TI al none s=true from rfl] at h;simp only[ae] at h;refine lQ hc.1 (by simp) λJ p=> ?_
    simp at p;subst p;exact bMm G ho hc.2.1 hp h hl r λv s' w' β' wS' h1 h2 x I=>
     bMn G hs l _ _ s' K z k h2 (λs2 y A β2 B=>q s2 y A β2 ((h1.mono e).trans B)) _ (d.set (by rw[hc.1];simp)) hc.2.2 (aGe hc.2.1 hp) _ w' β' wS' I x
def aZj {j:Nat}{oj:Oper}(ho:al[j]? =some oj)(h:aUa Y TI al (some j) s=true):oj.guard=none/\bEl s oj.dst=true/\Kr Y TI s oj.op=true/\bOu oj oj.dst=true:=by
 simp only[aUa,aR,ho,ab] at h;refine⟨?_,h.2.1,h.2.2.2,h.2.2.1⟩;cases hg:oj.guard with
 |none=>rfl
 |some x=>rw[hg] at h;cases h.1
def bWa {oj:Oper}{d:Option Nat}(h:bVa oj d=true):∀n,oj.dst=some n->d≠some n:=(by grind[bVa,Nat.beq,Nat.beq_refl])
def bWb {oj:Oper}{d:Option Nat}(h:bVa oj d=true):bOu oj d=true:=by simp_all[bVa,ab]
def Lk.mk1 {b:Nat}{blk:Obj}{hb:E.w0.heap.size<=b}{st pre:Bool}{wS:World}(h:Lk E kd st pre wS w):Lk (E.ahd b blk hb) kd st pre wS w:=⟨h.fr,h.st,h.no,h.pre⟩
def Lk.un1 {b:Nat}{blk:Obj}{hb:E.w0.heap.size<=b}{st pre:Bool}{wS:World}(h:Lk (E.ahd b blk hb) kd st pre wS w):Lk E kd st pre wS w:=⟨h.fr,h.st,h.no,h.pre⟩
def bWc (G:Good P g Y TI FZ)(hs:Region.noSelect al.toArray=true)(hP:E.prm=[]){j:Nat}{oj:Oper}(B:al[j]? =some oj)(F:oj.guard=none)(H:a0≠some j){b:Nat}{blk:Obj}{hb:E.w0.heap.size<=b}:∀(l:List (Nat×Bool)) (m:Nat) (pre st:Bool) (s:St U) (K:St U->Option α) (z:α),m+1=l.length->(∀i∈l,∀o,al[i.1]? =some o->∀n,Wr al o n->D n)->aK3 Y TI FZ al a0 kd l (some j) pre st s K=some z->
  (∀s' a w β,Ag D s s'->K s'=some z->bB Y.C E s' a w β->Q .normal a w)->∀d,Dn .any al.toArray d->bOv al.toArray a0 oj j l d=true->gH a0 d=pre->∀a w β wS,Lk E kd st pre wS w->Flp P a oj blk->(∀n,oj.dst=some n->a.tmps.getD n undef=mkF oj.op b)->bB Y.C (E.ahd b blk hb) s a w β->dO P .any al.toArray a0 (NoPanic Q) (Ext wS) m d a w
 |[],m,pre,st,s,K,z,hm,_,h,hQ,d,_,hc,_,a,w,β,wS,_,_,_,r=>by cases hc
 |(i,fl)::l,m,pre,st,s,K,z,hm,hD,h,hQ,d,y,hc,hp,a,w,β,wS,hl,hF,hv,r=>by
  have L:m=l.length:=by simpa using hm
  have I:∀j∈l,∀o,al[j.1]? =some o->∀n,Wr al o n->D n:=λj B=>hD j (by simp[B]);simp only[bOv] at hc;simp only[aK3,aR] at h;cases p:Nat.beq i j with
  |true=>
   have e:=ai p;subst e;rw[p] at hc;simp only[ae,ab] at hc;have hfl:fl=false:=by simpa using hc.1
   subst hfl;rw[B] at h;simp only[ac] at h;have A:=hD (i,false) (by simp) oj B;cases k:aUa Y TI al (some i) s with
   |false=>rw[k] at h;cases h
   |true=>
    rw[k] at h;simp only[ae] at h;obtain⟨_,_,hok,_⟩:=aZj B k;have J:Qs (some i) i=true:=de i;have hna:Qs a0 i=false:=by
     cases a0 with
     |none=>rfl
     |some c=>
      cases hh:Qs (some c) i with
      |false=>rfl
      |true=>exact absurd (congrArg some (ai hh)) H
    rw[J,hna] at h;simp only[ae,bc,gp] at h;unfold grd bJj at h;rw[F] at h;simp only[one] at h;obtain⟨x,s',β',k1,k2,k3,k4,k5,k6⟩:=bTp G r hP hF hok h;cases O:(!pre||(Nat.ble (Fg FZ oj.op) 1||unO kd (EV.put s' oj.dst x).m.o)) with
    |false=>rw[O] at k1;cases k1
    |true=>rw[O] at k1;simp only[ae] at k1;have hag:Ag D s (EV.put s' oj.dst x):=Ag.put ⟨λn _=>by rw[k4],by rw[k4],k5,k6⟩ (λn e=>A n (.inl e));rw[L];exact bMn G hs l pre _ _ K z I k1 (λs2 S T β2 V=>hQ s2 S T β2 (hag.trans V)) d y hc.2 hp a w β' wS ⟨hl.fr,λh=>hl.st (by simp only[ab] at h;exact h.1),hl.no,hl.pre⟩ (k2.aBL (λ_=>k3) hv)
  |false=>
   rw[p] at hc;simp only[ac] at hc;have hnA:Qs (some j) i=false:=by
    show Nat.beq j i=false;cases hh:Nat.beq j i with
    |false=>rfl
    |true=>have:=ai hh;subst this;rw[show Nat.beq j j=true from de j] at p;cases p
   cases ho:al[i]? with
   |none=>rw[ho] at h;cases h
   |some o=>
    rw[ho] at h;simp only at h;have hg:al.toArray[i]? =some o:=by simpa using ho
    rw[hg] at hc;simp only[ab] at hc;obtain⟨q,hc⟩:=hc;have A:=hD (i,fl) (by simp) o ho;have hlen:∃m',m=m'+1/\m'+1=l.length:=by
     cases l with
     |nil=>cases fl<;>(simp only[ae,ac,bOv,dm,ab] at hc;simp at hc)
     |cons x l=>exact⟨l.length,by simpa using L,by simp⟩
    obtain⟨m',rfl,W⟩:=hlen;have t:∀n,oj.dst=some n->∀v,(a.put o.dst v).tmps.getD n undef=mkF oj.op b:=λn hn v=>by rw[aLf (bWa q n hn)];exact hv n hn
    cases fl with
    |true=>
     simp only[ae,ab] at hc;obtain⟨hr,hne⟩:=wO hc.1;exact stepT G hs ho y hc.1 h hl.st (λhn=>hl.pre (hp.symm.trans hn)) r λv s' h1 h2 h3=>
      bWc G hs hP B F H l m' pre st s' K z W I h2 (λs2 S T β2 V=>hQ s2 S T β2 ((h1.mono A).trans V)) _ (y.set hr) hc.2 ((Ee hne).trans hp) _ w β wS hl (hF.keep (bWb q)) (λn hn=>t n hn v) h3
    |false=>
     simp only[ac,ab,cN] at hc;simp only[ac,hnA] at h;cases k:aUa Y TI al (some j) s with
     |false=>rw[k] at h;cases h
     |true=>
      rw[k] at h;simp only[ae] at h;refine lQ hc.1 (by simp) λi' Z=> ?_;simp at Z;subst Z;exact bMm G ho hc.2.1 hp h hl.mk1 r λv s' w' β' wS' h1 h2 h3 h4=>
       bWc G hs hP B F H l m' _ _ s' K z W I h2 (λs2 S T β2 V=>hQ s2 S T β2 ((h1.mono A).trans V)) _ (y.set (by rw[hc.1];simp)) hc.2.2 (aGe hc.2.1 hp) _ w' β' wS' h4.un1 (hF.keep (bWb q)) (λn hn=>t n hn v) h3
def bWd (G:Good P g Y TI FZ)(hs:Region.noSelect al.toArray=true)(hP:E.prm=[]){j:Nat}{oj:Oper}(S:al[j]? =some oj)(B:a0≠some j):∀(l:List (Nat×Bool)) (pre st:Bool) (s:St U) (K:St U->Option α) (z:α),(∀i∈l,∀o,al[i.1]? =some o->∀n,Wr al o n->D n)->aK3 Y TI FZ al a0 kd l (some j) pre st s K=some z->
  (∀s' a w β,Ag D s s'->K s'=some z->bB Y.C E s' a w β->Q .normal a w)->∀c,Dn .any al.toArray c->bVc al.toArray a0 oj j l c=true->gH a0 c=pre->∀a w β wS,Lk E kd st pre wS w->bB Y.C E s a w β->dO P .any al.toArray a0 (NoPanic Q) (Ext wS) l.length c a w
 |[],pre,st,s,K,z,_,h,hQ,c,_,hc,_,a,w,β,wS,_,r=>by cases hc
 |(i,fl)::l,pre,st,s,K,z,hD,h,hQ,c,F,hc,hp,a,w,β,wS,hl,r=>by
  have T:∀j∈l,∀o,al[j.1]? =some o->∀n,Wr al o n->D n:=λj S=>hD j (by simp[S]);have H:=h;simp only[bVc] at hc;simp only[aK3,aR] at h;cases ho:al[i]? with
  |none=>rw[ho] at h;cases h
  |some o=>
   rw[ho] at h;simp only at h;have V:=hD (i,fl) (by simp) o ho;cases I:Nat.beq i j with
   |true=>
    have e:=ai I;subst e;rw[I] at hc;simp only[ae,ab,cN] at hc;have hfl:fl=false:=by simpa using hc.1
    subst hfl;simp only[ac] at h;cases A:aUa Y TI al (some i) s with
    |false=>rw[A] at h;cases h
    |true=>
     rw[A] at h;simp only[ae] at h;have q:Qs (some i) i=true:=de i;rw[q] at h;simp only[ae] at h;have ha:a0Y a0 i c=true:=by unfold a0Y;rw[show(a0 !=some i)=true from by simpa using B];rfl
     refine lQ hc.2.1 (by simp) λi' d=> ?_;simp at d;subst d;exact bMm G ho ha hp h hl r λv s' w' β' wS' h1 h2 h3 h4=>
      bMn G hs l _ _ s' K z T h2 (λs2 a2 w2 β2 g1=>hQ s2 a2 w2 β2 ((h1.mono V).trans g1)) _ (F.set (by rw[hc.2.1];simp)) hc.2.2 (aGe ha hp) _ w' β' wS' h4 h3
   |false=>
    rw[I] at hc;simp only[ac] at hc;have hnA:Qs (some j) i=false:=by
     show Nat.beq j i=false;cases hh:Nat.beq j i with
     |false=>rfl
     |true=>have:=ai hh;subst this;rw[show Nat.beq j j=true from de j] at I;cases I
    cases fl with
    |true=>
     simp only[ae,ab] at hc;obtain⟨hr,hne⟩:=wO hc.1;exact stepT G hs ho F hc.1 h hl.st (λhn=>hl.pre (hp.symm.trans hn)) r λv s' h1 h2 h3=>
      bWd G hs hP S B l pre st s' K z T h2 (λs2 a2 w2 β2 g1=>hQ s2 a2 w2 β2 ((h1.mono V).trans g1)) _ (F.set hr) hc.2 ((Ee hne).trans hp) _ w β wS hl h3
    |false=>
     simp only[ac,ab] at hc;simp only[ac,hnA] at h;cases A:aUa Y TI al (some j) s with
     |false=>rw[A] at h;cases h
     |true=>
      rw[A] at h;simp only[ae] at h;obtain⟨hgj,y,hok,q⟩:=aZj S A;have hgi:al.toArray[j]? =some oj:=by simpa using S
      have inT:i∈Region.ready .any al.toArray c->wpOp P al.toArray (NoPanic Q) i (λa' w'=>(gH a0 (c.setIfInBounds i true)=true->Ext wS w')/\dO P .any al.toArray a0 (NoPanic Q) (Ext wS) l.length (c.setIfInBounds i true) a' w') a w:=λhir=>
       bMm G ho hc.2.1 hp h hl r λv s' w' β' wS' h1 h2 h3 h4=>
        bWd G hs hP S B l _ _ s' K z T h2 (λs2 a2 w2 β2 g1=>hQ s2 a2 w2 β2 ((h1.mono V).trans g1)) _ (F.set hir) hc.2.2 (aGe hc.2.1 hp) _ w' β' wS' h4 h3
      have early:j∈Region.ready .any al.toArray c->bOv al.toArray a0 oj j ((i,false)::l) (c.setIfInBounds j true)=true->wpOp P al.toArray (NoPanic Q) j (λa' w'=>(gH a0 (c.setIfInBounds j true)=true->Ext wS w')/\dO P .any al.toArray a0 (NoPanic Q) (Ext wS) l.length (c.setIfInBounds j true) a' w') a w:=λhjr hc1=>by
       obtain⟨blk,hF⟩:=bHq G r hok;have W:gH a0 (c.setIfInBounds j true)=pre:=(Ee B).trans hp;have hbw:E.w0.heap.size<=w.heap.size:=r.hp.ext.size;refine wpOp_step hgi λK' hK'=> ?_;rw[cu (by simp[Region.wanted,hgj])];refine wpo (.inl (hF w)) (hK' _ _ ⟨λhn=>(hl.pre (W.symm.trans hn)).trans (Ext.alloc _ _),?_⟩);have r1:bB Y.C (E.ahd w.heap.size blk hbw) s (a.put oj.dst (mkF oj.op w.heap.size)) (w.alloc blk) β:=(r.ahead hbw).aBQ y;have hF':Flp P (a.put oj.dst (mkF oj.op w.heap.size)) oj blk:=hF.keep q;have hv':∀n,oj.dst=some n->(a.put oj.dst (mkF oj.op w.heap.size)).tmps.getD n undef=mkF oj.op w.heap.size:=λn hn=>by
        rw[hn];simp only[bEl,hn,aR] at y;have hlt:n<a.tmps.size:=by
         rw[r.tsz];cases hx:s.t[n]? with
         |none=>rw[hx] at y;cases y
         |some x=>exact lt_of_some hx
        simp only[Act.put];rw[Fa _ _ _ _ _ hlt,cu rfl]
       have fin:=λZ wS' (J:aK3 Y TI FZ al a0 kd ((i,false)::l) (some j) pre Z s K=some z) (hl':Lk E kd Z pre wS' (w.alloc blk))=>bWc (D:=D) (Q:=Q) G hs hP S hgj B ((i,false)::l) l.length pre Z s K z (by simp) hD J hQ _ (F.set hjr) hc1 W _ (w.alloc blk) β wS' hl' hF' hv' r1;cases L:kd with
       |some p=>refine fin false wS ?_ ⟨hl.fr,λh=>(by cases h),λh=>(by rw[L] at h;cases h),λh=>(hl.pre h).trans (Ext.alloc _ _)⟩;have hf:=H;rw[L] at hf ⊢;simp only[aK3,aR,ho,ac,aK0,dm] at hf ⊢;exact hf
       |none=>
        have hw:=hl.no L;have hk':=fin st (w.alloc blk) H ⟨λn k h=>(by rw[L] at h;cases h),λ_=>rfl,λ_=>rfl,λ_=>Ext.refl _⟩;cases hpp:pre with
        |true=>exact xU (λx hx=>((hl.pre hpp).trans (Ext.alloc _ _)).trans hx) _ _ _ _ hk'
        |false=>exact qX _ _ _ _ (W.trans hpp) hk'
      have h1:=hc.1;rw[ck,cN] at h1;rcases h1 with h1|h1
      ·refine lQ h1 (by simp) λi' d=> ?_;simp at d;subst d;exact inT (by rw[h1];simp)
      ·rw[ab,ck,cN,cN] at h1;have O:∀x,x∈Region.ready .any al.toArray c↔x=i\/x=j:=λx=>by
        rcases h1.1 with e|e<;>rw[e]<;>simp[or_comm]
       exact lQ rfl (λe=>by have:=(O i).2 (.inl rfl);rw[e] at this;simp at this) λi' d=>by
        rcases(O i').1 d with rfl|rfl
        ·exact inT d
        ·exact early d h1.2
end
end Go.EV
namespace Go.EV
open Go.RowKit Go.VK
variable {U:Uni} {Y:Lay U} {TI:List (Nat×TInfo)} {FZ:List (Nat×Sum U)} {P:Program} {g:GI} {E:Env U g}
section
variable {s s':St U} {a:Act} {w w':World} {β β':List Tr} {α:Type}
def bEp (bs:List Nat)(Yb:Nat->Prop)(n:Nat)(s:St U)(β:List Tr):Prop:=∀(b:Nat) (e:EO U) (t:Tr) (k:Nat),s.m.o[b]? =some e->e.ob.aAW=true->β[b]? =some t->t.b=some k->(b∈bs->Yb k)/\(b∉bs->¬Yb k/\k<n)
def bMo {bs:List Nat}{Yb:Nat->Prop}{wS:World}(r:bB Y.C E s a w β)(q:bEp bs Yb wS.heap.size s β)(hb:Bel Yb wS w){t:Nat}{i:TInfo}(d:tiB P t i=true){b o:Nat}{y:Sv U}{v:Value}(hm:(Lf.box b o:Lf U).mean Y.C w (E.X β) β s.m v)(h:load Y s i (.box b o)=some y)(hn:b∉bs):
  ∃p k,v= .pointer (some p)/\(∀w',Bel Yb wS w'->(loadVar t p).run P w'= .ok k w')/\y.mean Y.C w (E.X β) β s.m k:=by
 simp only[load,aR] at h;obtain⟨_,e,tr,h1,h2,x⟩:=hm;simp only[h1] at h;have l:=r.hp.ok b tr e h2 h1;have hi:=q b e tr;obtain⟨ob,rv,cv⟩:=e;cases ob with
 |box T cs z=>
  obtain⟨c,n,rfl⟩:=x rfl;obtain⟨_,A,vs,k1,k2,k3,k4⟩:=l;rw[n] at k1;injection k1 with k1;subst k1;obtain⟨q1,q2⟩:=(hi c h1 rfl h2 n).2 hn;obtain⟨k,q3,q4⟩:=aP6 (S:=Bel Yb wS) (P:=P) (p:=⟨c,o,none⟩) d h (k4.drop o) (λw' he j u B=>by
   rw[fT,cell_of_row w' c (o+j) _ T (0,0) ((he.block c q2 q1).trans ((hb.block c q2 q1).symm.trans k3))];simp_all)
  grind
 |_=>cases h
def bEp.go {bs:List Nat}{Yb:Nat->Prop}{n:Nat}(h:bEp bs Yb n s β){m:Mm U}{N M K:Nat}(p:N=s.m.o.length)(r:Hp Y.C E s.m β w)(hl:m.o.length=s.m.o.length)(c:Evo w w' (E.X β) (E.X β') β β' s.m m N M K){t:List (Sv U)}{fr}:bEp bs Yb n ⟨t,m,fr⟩ β':=by
 intro b e t k h1 h2 j q;have hb:b<s.m.o.length:=by grind
 have d:s.m.o[b]? =some s.m.o[b]:=aa hb;have i:β[b]? =some (β[b]'(by rw[r.len];exact hb)):=aa _;obtain⟨e',t',k1,k2,_,_,k5⟩:=c.ho b _ _ (by omega) d i;replace h1:m.o[b]? =some e:=h1;rw[h1] at k1;injection k1 with k1;subst k1;rw[j] at k2;injection k2 with k2;subst k2;obtain⟨l,v⟩:=k5 h2;exact h b _ _ k d l i (by simp_all)
def cBi {i:Nat}{l:List Nat}(h:(!A7 i l)=true):i∉l:=(by grind[sJ])
variable {al:List Oper} {Q:Exit->Act->World->Prop} {D:Nat->Prop}
def Env.pinned (E:Env U g)(l:List (Sv U×Value)):Env U g:=⟨E.X0,E.Y0,E.w0,E.prm,E.fr,E.h0,E.hY,E.hXY,E.hg,l++E.pin⟩
def bB.pins {C:Cod U}(r:bB C E s a w β){ps:List (Sv U×Value)}(h:∀x∈ps,x.1.mean C w (E.X β) β s.m x.2):bB C (E.pinned ps) s a w β:=
 ⟨⟨r.hp.ext,r.hp.len,r.hp.vers,r.hp.cnt,r.hp.new,r.hp.dist,r.hp.nd,r.hp.ok,λx c=>(ce.1 c).elim (h x) (r.hp.pin x),r.hp.prm,r.hp.fr⟩,r.defers,r.tsz,r.tm⟩
def bB.aCV {C:Cod U}{ps:List (Sv U×Value)}(r:bB C (E.pinned ps) s a w β):bB C E s a w β:=
 ⟨⟨r.hp.ext,r.hp.len,r.hp.vers,r.hp.cnt,r.hp.new,r.hp.dist,r.hp.nd,r.hp.ok,λx c=>r.hp.pin x (ce.2 (.inr c)),r.hp.prm,r.hp.fr⟩,r.defers,r.tsz,r.tm⟩
def bMp {C:Cod U}{m:Mm U}(H:Hp C E m β w):∀(bs:List Nat),bxs bs m.o=true->∃ps:List (Sv U×Value),(∀x∈ps,x.1.mean C w (E.X β) β m x.2)/\∀b∈bs,∃t k,β[b]? =some t/\t.b=some k/\(Sv.l (.box b 0),Value.pointer (some ⟨k,0,none⟩))∈ps
 |[],_=>⟨[],by simp,by simp⟩
 |b::bs,h=>by
  have c:(match nth m.o b with|some ⟨.box ..,_,_⟩=>bxs bs m.o|_=>false)=true:=h;split at c
  ·rename_i T cs q rv cv ho;rw[aR] at ho;obtain⟨t,ht⟩:=H.tr ho;obtain⟨_,k,vs,e,r,v,y⟩:=H.ok b t _ ht ho;obtain⟨ps,i,j⟩:=bMp H bs c;refine⟨(Sv.l (.box b 0),Value.pointer (some ⟨k,0,none⟩))::ps,λx d=> ?_,λn hb=> ?_⟩
   ·rcases bl.1 d with rfl|d
    ·exact⟨rfl,_,t,ho,ht,λ_=>⟨k,e,rfl⟩⟩
    ·exact i x d
   ·rcases bl.1 hb with rfl|hb
    ·exact⟨t,k,ht,e,by simp⟩
    ·obtain⟨t',p,q1,q2,q3⟩:=j n hb;exact⟨t',p,q1,q2,by simp[q3]⟩
  ·cases c
def bMq {Yb:Nat->Prop}(hY:∀k,Yb k->E.X β k){t:Nat}{i:TInfo}(r:tiB P t i=true){τ o:Nat}{d:U.El τ}{y:Sv U}{v:Value}(hm:(Lf.ptr τ d o:Lf U).mean Y.C w (E.X β) β s.m v)(h:load Y s i (.ptr τ d o)=some y):
  ∃p x,v= .pointer (some p)/\(∀w',Bel Yb w w'->(loadVar t p).run P w'= .ok x w')/\y.mean Y.C w (E.X β) β s.m x:=by
 simp only[load] at h;have q:Rd w (E.X β) [] v (.elem ((U.enc τ d).drop o)):=hm;cases v with
 |pointer p=>
  cases q with
  | @elem _ A _ val hX hb hcell hrd=>
   have hlen:((List.range ((Y.C.cel τ d).drop o).length).map val).length=((Y.C.cel τ d).drop o).length:=by simp
   obtain⟨x,q1,q2⟩:=aP6 (S:=Bel Yb w) (P:=P) (p:=A) (vs:=(List.range ((Y.C.cel τ d).drop o).length).map val) r h (m:=s.m) (C:=Y.C) (w:=w) (X:=E.X β) (β:=β) ⟨hlen,λj u c B z=>by
     have e:=lt_of_some z;simp only[bq,df e,da,aj] at B;subst B;have hd:((U.enc τ d).drop o)[j]? =some c.toV:=by rw[<-Y.C.hcel,<-eN,bq,z];rfl
     have hr:=hrd j _ hd;have hdat:=Y.C.hdat τ d c (eI (ba z));cases c with
     |int k n=>exact hr.aAR
     |bool b=>exact hr.aAU
     |str b=>exact hr.aAT
     |sl τ' l=>exact hr
     |_=>cases hdat⟩ (λw' he j u F=>by
     have e:j<((Y.C.cel τ d).drop o).length:=by grind
     simp only[bq,df e,da,aj] at F;subst F;have hc:=hcell j (((U.enc τ d).drop o)[j]'(by rw[<-Y.C.hcel,<-eN,bn];exact e)) (aa _);exact(World.cell?_of_block (a:=A.add j) (w:=w) (w':=w') (by rw[add_block];exact he.block _ hb λG=>hX (hY _ G))).trans hc)
   grind
 |_=>cases q
def Bl (P:Program){γ:Type}(x:Sem γ):Prop:=∀(w c:World) (v:γ),x.run P w= .ok v c->c=w/\∀w',x.run P w'= .ok v w'
def Bl.pure {γ:Type}(c:γ):Bl P (Pure.pure c:Sem γ):=λw d v h=>by
 simp only[Sem.run_pure] at h ⊢;injection h with h1 h2;subst h1 h2;exact⟨rfl,λ_=>rfl⟩
def Bl.bind {γ δ:Type}{x:Sem γ}{f:γ->Sem δ}(d:Bl P x)(i:∀c,Bl P (f c)):Bl P (x>>=f):=λw k v h=>by
 rw[Sem.run_bind] at h;cases hr:x.run P w with
 |ok c j=>rw[hr] at h;obtain⟨e,h1⟩:=d _ _ _ hr;subst e;obtain⟨l,h2⟩:=i c _ _ _ h;simp[*]
 |halt y j=>simp_all
def Bl.no {γ:Type}{x:Sem γ}(d:∀(w c:World) (v:γ),x.run P w≠ .ok v c):Bl P x:=λw c v h=>absurd h (d w c v)
def Bl.ite {γ:Type}{c:Prop}[Decidable c]{x y:Sem γ}(d:Bl P x)(e:Bl P y):Bl P (if c then x else y):=by split<;>assumption
def Bl.und (t:TypeId):Bl P (underlying t):=λw c v h=>by
 unfold underlying at h ⊢;simp only[Sem.run_bind] at h ⊢;cases d:P.underlying t<;>simp_all
def Bl.size (t:TypeId):Bl P (sizeOf t):=λw c v h=>by
 unfold sizeOf typeInfo at h ⊢;simp only[Sem.run_bind] at h ⊢;cases d:P.info? t<;>simp_all
def Bl.sure (v:Value):Bl P (Instr.sureAddr v):=by
 unfold Instr.sureAddr;split
 ·exact Bl.pure _
 ·exact Bl.no (by simp)
def Bl.asInt (v:Value):Bl P (asIntOf v):=by
 unfold asIntOf;split
 ·exact Bl.pure _
 ·exact Bl.no (by simp)
 ·exact Bl.no (by simp)
def then_ok {γ δ:Type}{x:Result γ}{f:γ->World->Result δ}{c:δ}{e:World}(h:x.andThen f= .ok c e):∃y d,f y d= .ok c e:=by
 cases x with
 |ok y d=>exact⟨y,d,h⟩
 |halt y d=>cases h
def Bl.stuck {γ:Type}(s:String):Bl P (stuck s:Sem γ):=Bl.no (by simp)
def Bl.aDO {γ:Type}(u:Unsupported):Bl P (unsupported u:Sem γ):=Bl.no (by simp)
def Bl.bounds {γ:Type}(k:IntKind)(x y:Int)(c:BoundsCode):Bl P (boundsPanic k x y c:Sem γ):=Bl.no λw d v h=>by
 unfold boundsPanic at h;dsimp only at h;split at h<;>rw[Sem.run_bind] at h<;>obtain⟨_,_,h2⟩:=then_ok h<;>simp[runtimePanic] at h2
def Bl.index (t:TypeId)(A:Option Addr)(n c:Nat)(ix:Value):Bl P (Instr.indexAt t (.slice A n c) ix):=by
 unfold Instr.indexAt;dsimp only
 repeat' first
  |with_reducible exact Bl.pure _
  |with_reducible exact Bl.bounds ..
  |with_reducible exact Bl.und _
  |with_reducible exact Bl.size _
  |with_reducible exact Bl.sure _
  |with_reducible exact Bl.asInt _
  |with_reducible exact Bl.stuck _
  |with_reducible exact Bl.aDO _
  |with_reducible refine Bl.ite ?_ ?_
  |with_reducible refine Bl.bind ?_ λ_=> ?_
  |split
def Bl.pick (o:Oper){c x y:Operand}(ho:o.op= .pick c x y)(ρ:Operand->Value):Bl P (execOp ρ o):=by
 simp only[execOp,ho];refine Bl.bind ?_ λ_=>Bl.pure _
 unfold asBool;split
 ·exact Bl.pure _
 ·exact Bl.no (by simp)
theorem bRc {bs : List Nat} {o : Oper} (r : bB Y.C E s a w β) {b : BinOp} {t : TypeId} {x y : Operand} {u : TypeId} (d : o.op = .binOp b t x y u) (he : erl bs s o.op = true) {v : Value} (hv : (execOp a.eval o).run P w = .ok (.value v) w) (w' : World) : (execOp a.eval o).run P w' = .ok (.value v) w' := by
  rw [d] at he;simp only [erl] at he;have e : ∀ {k m c n}, xW s x = .l (.int k m) -> xW s y = .l (.int c n) -> a.eval x = .int k m /\ a.eval y = .int c n := λ{k m c n} h i =>
    ⟨(mX r (x := x) (show eG s x = .l (.int k m) by unfold eG; rw [h]; rfl)).1, (mX r (x := y) (show eG s y = .l (.int c n) by unfold eG; rw [i]; rfl)).1⟩
  split at he <;> first
    | (rename_i k m c n h i
       obtain ⟨j, p⟩ := e h i;by_cases hk : k = c
       · simp_all[execOp,eqGuard_at_int,binOp_add,binOp_sub,binOp_lss,binOp_leq,binOp_gtr,binOp_geq,binOp_eql,binOp_neq,Op.intArith]
       simp_all[execOp,eqGuard_at_int,binOp])
    | cases he
def bTt (G:Good P g Y TI FZ){bs:List Nat}{Yb:Nat->Prop}{al:List Oper}{o:Oper}(r:bB Y.C E s a w β)(hI:bEp bs Yb w.heap.size s β)(hY:∀k,Yb k->E.X β k)(he:erl bs s o.op=true){v:Value}(hv:(execOp a.eval o).run P w= .ok (.value v) w){K:St U->Option α}{z:α}(h:one Y TI FZ o s K=some z):∀w',Bel Yb w w'->(execOp a.eval o).run P w'= .ok (.value v) w':=by
 have vof:∀{x:Sem Value} {S:World} {u:Value},x.run P S= .ok u S->(do pure (Next.value (<-x)):Sem Next).run P S= .ok (.value u) S:=λh=>by simp[h]
 cases j:o.op with
 |move x=>exact λw' _=>Rf (by rw[j];rfl) hv w'
 |assign x=>exact λw' _=>Rf (by rw[j];rfl) hv w'
 |extract x i=>exact λw' _=>Rf (by rw[j];rfl) hv w'
 |pick c x y=>exact λw' _=>(Bl.pick o j _ _ _ _ hv).2 w'
 |load t x=>
  rw[j] at he;simp only[erl] at he;unfold one at h;rw[j] at h;replace h:(match(match kG TI t,eG s x with
   |some i, .l p=>load Y s i p
   |_,_=>none) with
   |some y=>K (put s o.dst y)
   |none=>none)=some z:=h
  have fin:∀{p:Addr} {L:Value},a.eval x= .pointer (some p)->(∀w',Bel Yb w w'->(loadVar t p).run P w'= .ok L w')->∀w',Bel Yb w w'->(execOp a.eval o).run P w'= .ok (.value v) w':=λ{p L} q1 q2 w' hb=>by
   have e:∀w',Bel Yb w w'->(execOp a.eval o).run P w'= .ok (.value L) w':=λw' hb=>by simp[execOp,j,q1,Instr.loadAt,Instr.sureAddr,q2 w' hb]
   have:=(e w (Bel.refl w)).symm.trans hv;injection this with this _;injection this with this;rw[<-this];exact e w' hb
  split at he
  ·rename_i b off B;rw[B] at h;cases F:kG TI t with
   |none=>rw[F] at h;cases h
   |some ti=>
    rw[F] at h;simp only at h;cases H:load Y s ti (.box b off) with
    |none=>rw[H] at h;cases h
    |some y=>obtain⟨p,L,q1,q2,_⟩:=bMo r hI (Bel.refl w) (bM G.ti F) (mX r B) H (cBi he);exact fin q1 q2
  ·rename_i τ zz off B;rw[B] at h;cases F:kG TI t with
   |none=>rw[F] at h;cases h
   |some ti=>
    rw[F] at h;simp only at h;cases H:load Y s ti (.ptr τ zz off) with
    |none=>rw[H] at h;cases h
    |some y=>obtain⟨p,L,q1,q2,_⟩:=bMq hY (bM G.ti F) (mX r B) H;exact fin q1 q2
  ·cases he
 |fieldAddr t y f=>
  unfold one at h;rw[j] at h;replace h:(match(match kG TI t,eG s y with
   |some ⟨.st fs,_,_⟩, .l p=>match fld fs f with
    |some (off,_,_)=>match xL s.m off p with
     |some z=>some (.l z)
     |none=>none
    |none=>none
   |_,_=>none) with
   |some y=>K (put s o.dst y)
   |none=>none)=some z:=h
  cases hp:(match kG TI t,eG s y with
   |some ⟨.st fs,_,_⟩, .l p=>match fld fs f with
    |some (off,_,_)=>match xL s.m off p with
     |some z=>some (Sv.l z)
     |none=>none
    |none=>none
   |_,_=>none) with
  |none=>rw[hp] at h;cases h
  |some x0=>
   split at hp
   ·rename_i fs i z p h1 h2;split at hp
    ·rename_i off ft n T;split at hp
     ·rename_i q h4;have V:=(aK7 (bM G.ti h1) rfl).2.1;simp only[fld,aR] at T;have h5:=(aY4 V T).1;rw[cl] at h5;obtain⟨L,q1,q2⟩:=aK9 r h5 (mX r h2) h4;have e:∀w':World,(execOp a.eval o).run P w'= .ok (.value L) w':=λw'=>by simp[execOp,j,q1]
      have:=(e w).symm.trans hv;injection this with this _;injection this with this;intro w' _;rw[<-this];exact e w'
     ·cases hp
    ·cases hp
   ·cases hp
 |indexAddr t x y=>
  rw[j] at he;simp only[erl] at he;split at he
  ·rename_i τ l k n B hy;have hm:Rd w (E.X β) [] (a.eval x) (.slice (U.K τ) (l.map (U.enc τ))):=mX r B;cases I:a.eval x with
   |slice A n c=>
    have e:∀w':World,(execOp a.eval o).run P w'=(do pure (Next.value (<-Instr.indexAt t (.slice A n c) (a.eval y))):Sem Next).run P w':=λw'=>by simp only[execOp,j,I]
    rw[e] at hv;intro w' _;rw[e];exact(Bl.bind (Bl.index _ _ _ _ _) (λ_=>Bl.pure _) _ _ _ hv).2 w'
   |_=>rw[I] at hm;cases hm
  ·cases he
 |binOp b t x y u=>exact λw' _=>bRc r j he hv w'
 |call c=>
  rw[j] at he;obtain⟨cal,xa,ats⟩:=c;cases cal with
  |builtin bb=>
   cases bb with
   |len=>
    replace he:(match xa.toList with
     |[x]=>match eG s x with
      | .l (.sl ..)=>true
      | .l (.own i r)=>match nth s.m.o i with
       |some ⟨.tree ..,rv,_⟩=>Nat.beq rv r
       |_=>false
      |_=>false
     |_=>false)=true:=he
    split at he
    ·rename_i x O;have W:∃A n c,a.eval x= .slice A n c:=by
      split at he
      ·rename_i τ l B;have hm:Rd w (E.X β) [] (a.eval x) (.slice (U.K τ) (l.map (U.enc τ))):=mX r B;cases I:a.eval x with
       |slice A n c=>exact⟨A,n,c,rfl⟩
       |_=>rw[I] at hm;cases hm
      ·rename_i i q B;split at he
       ·rename_i τ d l rv cv hn;obtain⟨_,e,t,h1,h2,T⟩:=mX r B;rw[aR,h1] at hn;have hn:=ak hn;subst hn;exact⟨_,_,_,T (ai he)⟩
       ·cases he
      ·cases he
     obtain⟨A,n,c,hs⟩:=W;unfold one at h;rw[j] at h;replace h:(match(match xa.toList,ats.toList with
      |[x],[t]=>match kG TI t,eG s x with
       |some ⟨.sl ..,_,_⟩, .l y=>match y with
        | .str _=>none
        |y=>match lenOf s.m y with
         |some z=>some (Sv.l z)
         |none=>none
       |some ⟨.str,_,_⟩, .l (.str z)=>some (.l (.int .i64 (z.size:Int)))
       |_,_=>none
      |_,_=>none) with
      |some y=>K (put s o.dst y)
      |none=>none)=some z:=h
     rw[O] at h;cases J:ats.toList with
     |nil=>rw[J] at h;cases h
     |cons t ts=>
      cases ts with
      |cons t2 ts=>rw[J] at h;cases h
      |nil=>
       rw[J] at h;simp only at h;cases F:kG TI t with
       |none=>rw[F] at h;cases h
       |some ti=>
        obtain⟨u,k1,z1⟩:=ti;cases u with
        |sl e ek eb=>
         have hu:=(fH (Kt (bM G.ti F) rfl).1).1;have Z:o.op= .call {callee:= .builtin .len,args:= #[x],argTypes:= #[t]}:=by rw[j,<-Ku O,<-Ku J]
         have hr:∀w':World,(execOp a.eval o).run P w'= .ok (.value (.int .i64 n)) w':=λw'=>bJe hu hs Z;have:=(hr w).symm.trans hv;injection this with this _;injection this with this;intro w' _;rw[<-this];exact hr w'
        |_=>
         rw[F] at h;exfalso
         revert he h
         cases B:eG s x with
         |l y=>cases y<;>simp
         |_=>simp
    ·cases he
   |_=>cases he
  |_=>cases he
 |_=>rw[j] at he;cases he
def bEp.am {bs:List Nat}{Yb:Nat->Prop}{n:Nat}(h:bEp bs Yb n s β)(r:Hp Y.C E s.m β w)(d:Am s.m s'.m):bEp bs Yb n s' β:=λb e t k k1 k2 k3 k4=>by
 have c:b<s.m.o.length:=by rw[<-r.len];exact lt_of_some k3
 exact h b _ t k (aa c) ((d.o b _ _ (aa c) k1).2.1 k2) k3 k4
def bYz {bs:List Nat}{o:Op}(h:erl bs s o=true):Fg FZ o=0:=by
 cases o with
 |call c=>
  obtain⟨cal,e,ats⟩:=c;cases cal with
  |builtin d=>cases d<;>first|rfl|cases h
  |_=>cases h
 |_=>first|rfl|cases h
def bWe {d:Option Nat}{x:Sv U}:(EV.put s d x).m=s.m:=by cases d<;>rfl
end
end Go.EV
namespace Go.EV
open Go.RowKit Go.VK
variable {U:Uni} {Y:Lay U} {TI:List (Nat×TInfo)} {FZ:List (Nat×Sum U)} {P:Program} {g:GI} {E:Env U g}
section
variable {C:Cod U} {s:St U} {a:Act} {w w':World} {β:List Tr}
def Env.ahs (E:Env U g)(L:List (Nat×Obj))(hb:∀x∈L,E.w0.heap.size<=x.1):Env U g:=
 ⟨λc=>E.X0 c\/∃x∈L,x.1=c,E.Y0,E.w0,L++E.prm,E.fr,λc h=>by
  rcases h with h|⟨x,d,e⟩
  ·rcases E.h0 c h with h|⟨x,d,e⟩
   ·exact .inl h
   ·exact .inr ⟨x,by simp[d],e⟩
  ·exact .inr ⟨x,by simp[d],e⟩,E.hY,λc h i=>by
  rcases h with h|⟨x,d,rfl⟩
  ·exact E.hXY c h i
  ·have:=E.hY _ i;have:=hb x d;omega,E.hg,E.pin⟩
theorem bHy {L:List (Nat×Obj)}{hb:∀x∈L,E.w0.heap.size<=x.1}{β:List Tr}{c:Nat}:(E.ahs L hb).X β c↔E.X β c\/∃x∈L,x.1=c:=by
 unfold Env.X;constructor
 ·rintro((h|h)|h|h)
  ·simp[*]
  ·exact .inr h
  ·exact .inl (.inr (.inl h))
  simp[*]
 ·rintro((h|h|h)|h)
  ·exact .inl (.inl h)
  ·exact .inr (.inl h)
  ·simp[*]
  ·exact .inl (.inr h)
def bB.aDP (r:bB C E s a w β){h}:bB C (E.ahs [] h) s a w β:=by simp_all[Ob.aBE,ev,Sv.aAV,Env.ahs,ao,bHy]
def bB.aDQ {h}(r:bB C (E.ahs [] h) s a w β):bB C E s a w β:=by simp_all[Ob.aBE,ev,Sv.aAV,Env.ahs,ao,bHy,inl]
def bB.aCQ {L L':List (Nat×Obj)}{j:∀x∈L,E.w0.heap.size<=x.1}{hL':∀x∈L',E.w0.heap.size<=x.1}(r:bB C (E.ahs L j) s a w β)(h1:∀p∈L',p∈L):bB C (E.ahs L' hL') s a w β:=by
 have H:=r.hp;have ev:Evo w w ((E.ahs L j).X β) ((E.ahs L' hL').X β) β β s.m s.m s.m.o.length s.m.ns.length s.m.k:=⟨ao _,(by grind[bHy,inl]),λ_ _ _ h=>h,ao _,(by grind),(by grind)⟩;exact⟨⟨H.ext,H.len,H.vers,H.cnt,H.new,H.dist,H.nd,λi t e h1 h2=>Ob.aBE ev (H.ok i t e h1 h2) λb hb=>rfl,λx d=>Sv.aAV ev (H.pin x d),λx d=>H.prm x (by
  have c:x∈L'++E.prm:=d;rcases ce.1 c with c|c
  ·exact ce.2 (.inl (h1 x c))
  ·exact ce.2 (.inr c)),H.fr⟩,r.defers,r.tsz,λn x d=>Sv.aAV ev (r.tm n x d)⟩
def cBj {L:List (Nat×Obj)}{hb:∀x∈L,E.w0.heap.size<=x.1}(r:bB C (E.ahs L hb) s a w β):∀x∈L,x.1<w.heap.size:=λx c=>
 (bz.1 (r.hp.prm x (ce.2 (.inl c))).2.1).1
def bB.aCP {L:List (Nat×Obj)}{hb:∀x∈L,E.w0.heap.size<=x.1}(r:bB C (E.ahs L hb) s a w β){blk:Obj}(v:E.w0.heap.size<=w.heap.size){hb'}:bB C (E.ahs ((w.heap.size,blk)::L) hb') s a (w.alloc blk) β:=by
 have H:=r.hp;have he:Ext w (w.alloc blk):=Ext.alloc _ _;have j:(w.alloc blk).heap[w.heap.size]? =some blk:=by show(w.heap.push blk)[w.heap.size]? =some blk;simp
 have ev:Evo w (w.alloc blk) ((E.ahs L hb).X β) ((E.ahs ((w.heap.size,blk)::L) hb').X β) β β s.m s.m s.m.o.length s.m.ns.length s.m.k:=⟨he.size,(by grind[bHy,inl]),λ_ _ _ h=>he.cell h,ao _,(by grind),λi e t _ h1 h2=>⟨e,t,h1,h2,λ_=>⟨rfl,rfl⟩,λ_=>⟨rfl,rfl,rfl,λb hb=>he.block b (H.new i t b h2 hb).2⟩,λh=>⟨h,rfl⟩⟩⟩;refine⟨⟨H.ext.trans (Bel.aBJ he),H.len,H.vers,H.cnt,λi t b h1 h2=>⟨(H.new i t b h1 h2).1,ca (H.new i t b h1 h2).2 he.size⟩,H.dist,H.nd,λi t e h1 h2=>Ob.aBE ev (H.ok i t e h1 h2) λb hb=>he.block b (H.new i t b h1 hb).2,λx d=>Sv.aAV ev (H.pin x d),λx d=> ?_,λf l=> ?_⟩,r.defers,r.tsz,λn x d=>Sv.aAV ev (r.tm n x d)⟩
 ·have c:x∈(w.heap.size,blk)::(L++E.prm):=d;rcases bl.1 c with rfl|c
  ·refine⟨v,j,λf l=> ?_,λi t ht hm=> ?_⟩
   ·exact(H.fr f l).2.2.1
   ·have:=(H.new i t _ ht hm).2;omega
  ·obtain⟨h1,h2,p,y⟩:=H.prm x c;exact⟨h1,(he.block _ (bz.1 h2).1).trans h2,p,y⟩
 ·obtain⟨h1,h2,h0,p⟩:=H.fr f l;exact⟨h1,h2,bo h0 he.size,p.imp id λq=>⟨q.1.trans he,q.2⟩⟩
def bB.aCC {L L':List (Nat×Obj)}{J:∀x∈L,E.w0.heap.size<=x.1}{hL':∀x∈L',E.w0.heap.size<=x.1}(r:bB C (E.ahs L J) s a w β){b:Nat}{blk:Obj}(hm:(b,blk)∈L)(hs1:∀x∈L',x∈L/\x.1≠b)(Z:E.prm=[]){e':EO U}{t':Tr}{p:Nat}(hk:s.m.k<=p)(hv:e'.rv<=p/\e'.cv<=p)(ht:t'.all=[b])
  (O:Evo w w ((E.ahs L J).X β) ((E.ahs L' hL').X (β++[t'])) β (β++[t']) s.m ⟨s.m.o++[e'],p,s.m.ns⟩ s.m.o.length s.m.ns.length s.m.k->w.heap[b]? =some blk->e'.ob.ok C w ((E.ahs L' hL').X (β++[t'])) (β++[t']) ⟨s.m.o++[e'],p,s.m.ns⟩ t'):
  bB C (E.ahs L' hL') ⟨s.t,⟨s.m.o++[e'],p,s.m.ns⟩,s.fr⟩ a w (β++[t']):=by
 have H:=r.hp;have hlen:=H.len;obtain⟨p1,T,p3,V⟩:=H.prm (b,blk) (ce.2 (.inl hm));have S:b<w.heap.size:=(bz.1 T).1;have ev:Evo w w ((E.ahs L J).X β) ((E.ahs L' hL').X (β++[t'])) β (β++[t']) s.m ⟨s.m.o++[e'],p,s.m.ns⟩ s.m.o.length s.m.ns.length s.m.k:=by
  refine⟨ao _,λb' _ h=>bHy.2 ?_,λ_ _ _ h=>h,hk,λa i f _ h=>⟨f,h⟩,λi e t hi he A=>⟨e,t,?_,?_,λ_=>⟨rfl,rfl⟩,λ_=>⟨rfl,rfl,rfl,λ_ _=>rfl⟩,λh=>⟨h,rfl⟩⟩⟩
  ·rcases bHy.1 h with h|⟨x,c,e⟩
   ·rcases h with h|h|⟨u,y,d⟩
    ·exact .inl (.inl h)
    ·exact .inl (.inr (.inl h))
    ·rcases ce.1 y with y|y
     ·exact .inl (.inr (.inr ⟨u,y,d⟩))
     ·simp at y;subst y;rw[ht] at d;simp at d;exact .inr ⟨_,hm,d.symm⟩
   ·exact .inr ⟨x,(hs1 x c).1,e⟩
  ·exact(aq hi).trans he
  ·exact(aq (lt_of_some A)).trans A
 have hb':∀(i:Nat) (t:Tr),(β++[t'])[i]? =some t->β[i]? =some t\/(i=β.length/\t=t'):=λi t h=>by
  by_cases hi:i<β.length
  ·rw[aq hi] at h;exact .inl h
  ·have:=lt_of_some h;simp at this;have e:i=β.length:=by omega
   subst e;simp at h;exact .inr ⟨rfl,h.symm⟩
 have q:∀(i:Nat) (e:EO U),(s.m.o++[e'])[i]? =some e->s.m.o[i]? =some e\/(i=s.m.o.length/\e=e'):=λi e h=>by
  by_cases hi:i<s.m.o.length
  ·rw[aq hi] at h;exact .inl h
  ·have:=lt_of_some h;simp at this;have e1:i=s.m.o.length:=by omega
   subst e1;simp at h;exact .inr ⟨rfl,h.symm⟩
 refine⟨⟨H.ext,by simp[hlen],λi e he=> ?_,H.cnt,λi t x h1 h2=> ?_,λi j t u x B h1 h2 l v=> ?_,λi t h1=> ?_,λi t e h1 h2=> ?_,λx c=>Sv.aAV ev (H.pin x c),λx c=> ?_,λf W=> ?_⟩,r.defers,r.tsz,λn x c=>Sv.aAV ev (r.tm n x c)⟩
 ·rcases q i e he with h|⟨_,rfl⟩
  ·have:=H.vers i e h;exact⟨bo this.1 hk,bo this.2 hk⟩
  ·exact hv
 ·rcases hb' i t h1 with h|⟨_,rfl⟩
  ·exact H.new i t x h h2
  ·rw[ht] at h2;simp at h2;subst h2;exact⟨.inl p1,S⟩
 ·rcases hb' i t h1 with h|⟨G,rfl⟩<;>rcases hb' j u h2 with z|⟨ej,rfl⟩
  ·exact H.dist i j t u x B h z l v
  ·rw[ht] at v;simp at v;subst v;exact V i t h l
  ·rw[ht] at l;simp at l;subst l;exact V j u z v
  ·exact B (G.trans ej.symm)
 ·rcases hb' i t h1 with h|⟨_,rfl⟩
  ·exact H.nd i t h
  ·rw[ht];simp
 ·rcases hb' i t h1 with h|⟨G,rfl⟩
  ·rcases q i e h2 with z|⟨G,_⟩
   ·exact Ob.aBE ev (H.ok i t e h z) λ_ _=>rfl
   ·have:=lt_of_some h;rw[hlen] at this;omega
  ·rcases q i e h2 with z|⟨_,rfl⟩
   ·have:=lt_of_some z;rw[hlen] at G;omega
   ·exact O ev T
 ·have F:x∈L'++E.prm:=c;rw[Z,ey] at F;obtain⟨q1,q2⟩:=hs1 x F;obtain⟨h1,h2,l,v⟩:=H.prm x (ce.2 (.inl q1));refine⟨h1,h2,l,λi t h5 I=> ?_⟩;rcases hb' i t h5 with h|⟨_,rfl⟩
  ·exact v i t h I
  ·rw[ht] at I;simp at I;exact q2 I
 ·obtain⟨h1,h2,h0,l⟩:=H.fr f W;refine⟨by simp;omega,bo h2 hk,h0,?_⟩;rcases l with⟨j,e,q1,q2,q3⟩|⟨q1,q2⟩
  ·exact .inl ⟨j,e,q1,(aq (lt_of_some q2)).trans q2,q3⟩
  ·refine .inr ⟨q1,λi t x hi h1 c=> ?_⟩;rcases hb' i t h1 with h|⟨_,rfl⟩
   ·exact q2 i t x hi h c
   ·rw[ht] at c;simp at c;subst c;exact p3 f W
def bO9 (G:Good P g Y TI FZ){L L':List (Nat×Obj)}{O:∀x∈L,E.w0.heap.size<=x.1}{hL':∀x∈L',E.w0.heap.size<=x.1}(r:bB Y.C (E.ahs L O) s a w β){b:Nat}{blk:Obj}(hm:(b,blk)∈L)(hs1:∀x∈L',x∈L/\x.1≠b)(B:E.prm=[]){o:Oper}(F:Flp P a o blk)(hg:Kr Y TI s o.op=true){α:Type}{K:Sv U->St U->Option α}{z:α}(h:stp Y TI FZ s o.op K=some z):
  ∃x s' β',K x s'=some z/\bB Y.C (E.ahs L' hL') s' a w β'/\x.mean Y.C w ((E.ahs L' hL').X β') β' s'.m (mkF o.op b)/\s'.t=s.t/\s'.fr=s.fr/\Am s.m s'.m:=by
 have hlen:=r.hp.len;cases ho:o.op with
 |alloc T=>
  rw[ho] at hg h;obtain⟨i,hi⟩:=K7 hg;obtain⟨vs,k,S⟩:=aH1 (Y:=Y) (a:=a) G.ti ho hi;have c:=F.inj w k;subst c;have V:K (.l (.box (len s.m.o) 0)) (psh s (.box T (i.z.map Kz.lf) (i.z.map λ_=>s.m.k)))=some z:=by
   have:stp Y TI FZ s (.alloc T) K=match kG TI T with
    |some i=>K (.l (.box (len s.m.o) 0)) (psh s (.box T (i.z.map Kz.lf) (i.z.map λ_=>s.m.k)))
    |none=>none:=rfl
   rw[this,hi] at h;exact h
  have q:=r.aCC (hL':=hL') hm hs1 B (e':=⟨.box T (i.z.map Kz.lf) (i.z.map λ_=>s.m.k),s.m.k,s.m.k⟩) (t':=⟨some b,0,0,[]⟩) (ao _) ⟨ao _,ao _⟩ rfl (λp j=>⟨by simp,b,vs.toList,rfl,rfl,by simpa using j,S _ _ _ _⟩);refine⟨_,_,_,V,q,⟨rfl,⟨.box T (i.z.map Kz.lf) (i.z.map λ_=>s.m.k),s.m.k,s.m.k⟩,⟨some b,0,0,[]⟩,?_,?_,λ_=>⟨_,rfl,rfl⟩⟩,rfl,rfl,Am.add _ _⟩
  ·simp[psh,bL]
  ·rw[ax (by rw[hlen,bL];exact ao _),hlen,bL];simp
 |buildSlice t n ps=>
  rw[ho] at hg h;obtain⟨e,ek,eb,k,zz,l,d,h1,h2,H,I,J⟩:=K8 hg;obtain⟨cells,q1,q2,q3,q4,q5,q6⟩:=aQc G.ti G.lay r ho h1 h2 H I J;have c:=F.inj w q1;subst c;have v:∀y:List (EO U),y=s.m.o++[(⟨.tree e d l,s.m.k,Nat.succ s.m.k⟩:EO U)]->K (.l (.own (len s.m.o) s.m.k)) ⟨s.t,⟨y,Nat.succ s.m.k,s.m.ns⟩,s.fr⟩=some z:=λy A=>by
   have:stp Y TI FZ s (.buildSlice t n ps) K=bif Nat.beq (len ps.toList) n&&(Nat.ble (n*ek) 16777216&&K4 (U:=U) e ek e) then(bif dist (len s.m.o::[]) then K (.l (.own (len s.m.o) s.m.k)) ⟨s.t,⟨upd (s.m.o++[⟨.dead,s.m.k,s.m.k⟩]) (len s.m.o) ⟨.tree e d l,s.m.k,Nat.succ s.m.k⟩,Nat.succ s.m.k,s.m.ns⟩,s.fr⟩ else none) else none:=by
    show(match kG TI t with
     |some ⟨.sl e ek _,_,_⟩=>_
     |_=>none)=_
    rw[h1];simp only;rw[J];rfl
   rw[this,bL,h2] at h;rw[show Nat.beq n n=true from de n,d8 H,I] at h;simp only[dl,ae] at h;have hd:dist [len s.m.o]=true:=rfl;rw[hd] at h;simp only[ae] at h;rw[cK,bL,ez _ _ (ao _),fL] at h;rw[A,bL];exact h
  have q:=r.aCC (hL':=hL') hm hs1 B (e':=⟨.tree e d l,s.m.k,Nat.succ s.m.k⟩) (t':=⟨some b,n,n,[]⟩) (dy _) ⟨dy _,ao _⟩ rfl (λp j=>by
   refine⟨q2,cells.toList,?_,q6.conv (ao _) p.hX (λ_ _ _ h=>h) (by simp)⟩;exact⟨by rw[q4,cT,q5], .inr ⟨b,n,cells,by rw[q4];rfl,cm _,j,by rw[q4];exact ao _,q3,q5,by rw[q4];exact ex (by rw[cT,q5];exact ao _)⟩⟩)
  refine⟨_,_,_,v _ rfl,q,⟨⟨dy _,rfl⟩,⟨.tree e d l,s.m.k,Nat.succ s.m.k⟩,⟨some b,n,n,[]⟩,?_,?_,λ_=>rfl⟩,rfl,rfl,?_⟩
  ·simp[bL]
  ·rw[ax (by rw[hlen,bL];exact ao _),hlen,bL];simp
  ·have W:=(Am.add s.m [(⟨.dead,s.m.k,s.m.k⟩:EO U)]).trans (Am.tree (ids:=[]) (i:=len s.m.o) (τ:=e) (d:=d) (l:=l) (rv:=s.m.k) _);have Z:(⟨kil (Nat.succ s.m.k) [] (upd (s.m.o++[(⟨.dead,s.m.k,s.m.k⟩:EO U)]) (len s.m.o) ⟨.tree e d l,s.m.k,Nat.succ s.m.k⟩),Nat.succ s.m.k,s.m.ns⟩:Mm U)=⟨s.m.o++[⟨.tree e d l,s.m.k,Nat.succ s.m.k⟩],Nat.succ s.m.k,s.m.ns⟩:=by rw[cK,bL,ez _ _ (ao _),fL];rfl
   exact Z▸W
 |_=>rw[ho] at hg;cases hg
def aUf:Op->Bool
 | .call ⟨.value (.func _),_,_⟩=>true
 |_=>false
def FlC (Y:Lay U)(FZ:List (Nat×Sum U))(s:St U)(o:Oper)(x:Sv U):Prop:=∃(f:FuncId) (c:Array Operand) (ats:Array TypeId) (S:Sum U) (z:fM U S.ar) (q:fM U S.rs),o.op= .call {callee:= .value (.func f),args:=c,argTypes:=ats}/\kG FZ f=some S/\oZ Y s.m S.ar (c.toList.map (eG s))=some z/\S.wt=false/\S.fr=false/\sI (c.toList.map (eG s))=true/\xM (c.toList.map (xW s))=true/\S.m z=some q/\Ff (bG Y S.rs q)=x
def aLg:∀{cs:List (Lf U)},aK4 cs=true->aHt cs=true
 |[],_=>rfl
 |c::cs,h=>by
  have h:(aY2 c&&aK4 cs)=true:=h;rw[ab] at h;show(pE c&&aHt cs)=true;rw[aLg h.2,gp];cases c<;>first|rfl|cases h.1
def aH2:∀{xs:List (Sv U)},xM xs=true->sI xs=true
 |[],_=>rfl
 |x::xs,h=>by
  have h:(aHu x&&xM xs)=true:=h;rw[ab] at h;show(bG5 x&&sI xs)=true;rw[aH2 h.2,gp];cases x with
  |l y=>cases y<;>first|rfl|cases h.1
  |a cs=>exact aLg h.1
  |t _=>cases h.1
def bPa {x:Sv U}{m m':Mm U}:aHu x=true->(match x with| .l y=>Sv.l (rsv m.ns y)|y=>y)=x:=λh=>by
 cases x with
 |l y=>cases y<;>first|rfl|cases h
 |_=>rfl
theorem aC5 {s:St U}:∀{xs:List Operand},xM (xs.map (xW s))=true->xs.map (eG s)=xs.map (xW s)
 |[],_=>rfl
 |x::xs,h=>by
  have h:(aHu (xW s x)&&xM (xs.map (xW s)))=true:=h;rw[ab] at h;rw[bw,bw,aC5 h.2];exact congrArg (·::_) (bPa (m:=s.m) (m':=s.m) h.1)
variable {α:Type}
def bWf {o:Oper}{K:Option α}{z:α}(h:flc Y TI FZ s o K=some z):K=some z/\((aUf o.op=false/\Kr Y TI s o.op=true)\/(aUf o.op=true/\∃x,FlC Y FZ s o x)):=by
 unfold flc at h;split at h
 ·rename_i f c ats ho;cases d:kG FZ f with
  |none=>simp_all
  |some S=>
   rw[d] at h;simp only at h;cases e:oZ Y s.m S.ar (c.toList.map (eG s)) with
   |none=>simp_all
   |some a=>
    rw[e] at h;simp only at h;cases hb:(!S.wt&&(!S.fr&&xM (c.toList.map (xW s)))) with
    |false=>simp_all
    |true=>rw[hb] at h;simp only[ae] at h;obtain⟨q,h1,h2⟩:=jN h;simp only[ab,cn] at hb;exact⟨h2, .inr ⟨by rw[ho];rfl,_,f,c,ats,S,a,q,ho,d,e,hb.1,hb.2.1,by rw[aC5 hb.2.2];exact aH2 hb.2.2,hb.2.2,h1,rfl⟩⟩
 grind[Kr,inl,aUf,absurd]
def bHz {al:List Oper}{K:Option α}{z:α}:∀(fs:List Nat),cA6 Y TI FZ al s fs K=some z->K=some z/\∀j∈fs,∃o,al[j]? =some o/\o.guard=none/\bEl s o.dst=true/\bEm o o.dst=true/\((aUf o.op=false/\Kr Y TI s o.op=true)\/(aUf o.op=true/\∃x,FlC Y FZ s o x))
 |[],h=>⟨h,by simp⟩
 |j::fs,h=>by
  have h:(match nth al j with
   |some o=>bif aK0 o.guard&&(bEl s o.dst&&bEm o o.dst) then flc Y TI FZ s o (cA6 Y TI FZ al s fs K) else none
   |none=>none)=some z:=h
  rw[aR] at h;cases ho:al[j]? with
  |none=>rw[ho] at h;cases h
  |some o=>
   rw[ho] at h;simp only at h;cases hb:(aK0 o.guard&&(bEl s o.dst&&bEm o o.dst)) with
   |false=>rw[hb] at h;cases h
   |true=>
    rw[hb] at h;simp only[ae] at h;obtain⟨h1,h2⟩:=bWf h;obtain⟨d,e⟩:=bHz fs h1;simp only[ab] at hb;refine⟨d,λj' c=> ?_⟩;rcases bl.1 c with rfl|c
    ·refine⟨o,ho,?_,hb.2.1,hb.2.2,h2⟩;cases hg:o.guard with
     |none=>rfl
     |some x=>rw[hg] at hb;cases hb.1
    ·exact e j' c
def qD {i j:Nat}:∀{l:List Nat},j∈rmv i l↔j∈l/\j≠i
 |[]=>by simp[rmv]
 |x::l=>by
  have e:rmv i (x::l)=bif Nat.beq x i then rmv i l else x::rmv i l:=rfl;rw[e];cases hb:Nat.beq x i with
  |true=>
   have:=ai hb;subst this;simp only[ae,bl];rw[qD];constructor
   ·rintro⟨h1,h2⟩;exact⟨.inr h1,h2⟩
   ·rintro⟨h1|h1,h2⟩
    ·exact absurd h1 h2
    ·exact⟨h1,h2⟩
  |false=>
   have c:x≠i:=λe=>by subst e;rw[show Nat.beq x x=true from de x] at hb;cases hb
   simp only[ac,bl];rw[qD];constructor
   ·rintro(rfl|⟨h1,h2⟩)
    ·exact⟨.inl rfl,c⟩
    ·exact⟨.inr h1,h2⟩
   ·rintro⟨rfl|h1,h2⟩
    ·exact .inl rfl
    ·exact .inr ⟨h1,h2⟩
abbrev Rec:=List (Nat×Option (Nat×Obj))
def bks (R:Rec):List (Nat×Obj):=R.filterMap Prod.snd
def Rec.rm (R:Rec)(i:Nat):Rec:=R.filter λx=> !Nat.beq x.1 i
def Rec.aCD {R:Rec}{i:Nat}{x:Nat×Option (Nat×Obj)}:x∈R.rm i↔x∈R/\x.1≠i:=by
 unfold Rec.rm;rw[List.mem_filter];refine and_congr_right λ_=> ?_
 constructor
 ·intro h e;simp_all
 grind[Nat.beq,absurd,Nat.eq_of_beq_eq_true]
def Rec.aBV {i:Nat}:∀{R:Rec},(R.rm i).map Prod.fst=rmv i (R.map Prod.fst)
 |[]=>rfl
 |x::R=>by
  have e:rmv i ((x::R).map Prod.fst)=bif Nat.beq x.1 i then rmv i (R.map Prod.fst) else x.1::rmv i (R.map Prod.fst):=rfl;rw[e,<-Rec.aBV];unfold Rec.rm;cases hb:Nat.beq x.1 i with
  |true=>rw[List.filter_cons_of_neg (by rw[hb];simp)];rfl
  |false=>rw[List.filter_cons_of_pos (by rw[hb];rfl)];rfl
def Wx {R:Rec}{p:Nat×Obj}:p∈bks R↔∃j,(j,some p)∈R:=by simp[List.mem_filterMap,bks]
def aZk (P : Program) (Y : Lay U) (FZ : List (Nat × Sum U)) (c : List (Sv U × Value)) (al : List Oper) (s : St U) (a : Act) (x : Nat × Option (Nat × Obj)) : Prop := ∃ oj, al[x.1]? = some oj /\
  ((∃ b blk, x.2 = some (b, blk) /\ aUf oj.op = false /\ Flp P a oj blk /\ ∀ n, oj.dst = some n -> a.tmps.getD n undef = mkF oj.op b) \/
   (∃ y v, x.2 = none /\ aUf oj.op = true /\ FlC Y FZ s oj y /\ (oj.dst ≠ none -> (y, v) ∈ c) /\ ∀ d, oj.dst = some d -> a.tmps.getD d undef = v))
def aZk.mono {d c:List (Sv U×Value)}{al:List Oper}{x:Nat×Option (Nat×Obj)}(h:aZk P Y FZ d al s a x)(hp:∀p∈d,p∈c):aZk P Y FZ c al s a x:=by obtain⟨oj,h1,h2⟩:=h;refine⟨oj,h1,h2.imp id ?_⟩;rintro⟨y,v,k1,k2,k3,k4,k5⟩;exact⟨y,v,k1,k2,k3,λh=>hp _ (k4 h),k5⟩
def bMr {oj:Oper}{d:Option Nat}(h:aY3 oj d=true):∀n,oj.dst=some n->d≠some n:=(by grind[aY3,Nat.beq,Nat.beq_refl])
def bPb {oj:Oper}{d:Option Nat}(h:aY3 oj d=true):bEm oj d=true:=by simp_all[aY3,ab]
def bWg {oj:Oper}{d:Option Nat}(h:bEm oj d=true)(hc:aUf oj.op=false):bOu oj d=true:=by
 cases d with
 |none=>rfl
 |some n=>
  unfold bEm at h;simp only at h;split at h
  ·rename_i f c ats ho;rw[ho] at hc;cases hc
  ·exact h
def bH0 {m m':Mm U}{kd:Kd}{x:Lf U}(h:aY2 x=true):rdn m kd x=rdn m' kd x:=by cases x<;>first|rfl|cases h
def bH1 {m m':Mm U}:∀{ks:List Kd} {cs:List (Lf U)},aK4 cs=true->rds m ks cs=rds m' ks cs
 |[],[],_=>rfl
 |[],_::_,_=>rfl
 |_::_,[],_=>rfl
 |k::ks,c::cs,h=>by
  have h:(aY2 c&&aK4 cs)=true:=h;rw[ab] at h;simp only[rds,bH0 (m:=m) (m':=m') h.1,bH1 (m:=m) (m':=m') h.2]
def aZl {m m':Mm U}{kd:Kd}{x:Sv U}(h:aHu x=true):aHs Y m kd x=aHs Y m' kd x:=by
 cases x with
 |l y=>cases kd<;>simp only[aHs,bH0 (m:=m) (m':=m') (x:=y) h]
 |a cs=>cases kd<;>first|rfl|simp only[aHs,bH1 (m:=m) (m':=m') (cs:=cs) h]
 |t _=>cases kd<;>rfl
theorem aUg {m m':Mm U}:∀(ks:List Kd) {xs:List (Sv U)},xM xs=true->oZ Y m ks xs=oZ Y m' ks xs
 |[],[],_=>rfl
 |[],_::_,_=>rfl
 |[k],[],_=>rfl
 |[k],[x],h=>by
  have h:(aHu x&&true)=true:=h;rw[gp] at h;exact aZl h
 |[k],_::_::_,_=>rfl
 |k::c::ks,[],_=>rfl
 |k::c::ks,x::xs,h=>by
  have h:(aHu x&&xM xs)=true:=h;rw[ab] at h;have e:=aZl (Y:=Y) (m:=m) (m':=m') (kd:=k) h.1;have i:=aUg (m:=m) (m':=m') (c::ks) h.2;have d:∀m,oZ Y m (k::c::ks) (x::xs)=(match aHs Y m k x with
   |some a=>match oZ Y m (c::ks) xs with
    |some b=>some ((a,b):fM U (k::c::ks))
    |none=>none
   |none=>none):=λm=>rfl
  rw[d,d,e,i]
def FlC.keep {s':St U}{o:Oper}{y:Sv U}(h:FlC Y FZ s o y){d:Option Nat}(hd:bEm o d=true)(ht:∀i,d≠some i->s'.t[i]? =s.t[i]?):FlC Y FZ s' o y:=by
 obtain⟨f,c,ats,S,z,q,h1,h2,v,k,l,A,B,n,p⟩:=h;have e:c.toList.map (xW s')=c.toList.map (xW s):=by
  refine gk λx r=> ?_;cases x with
  |tmp i=>
   have:d≠some i:=λe=>by
    subst e;unfold bEm at hd;rw[h1] at hd;simp only[cI] at hd;have:=hd _ r;simp at this
   grind[xW,aR]
  |_=>rfl
 have j:xM (c.toList.map (xW s'))=true:=by simp[*]
 refine⟨f,c,ats,S,z,q,h1,h2,?_,k,l,by rw[aC5 j];exact aH2 j,j,n,p⟩
 grind[aUg,aC5]
def aZk.keep {e:List (Sv U×Value)}{al:List Oper}{x:Nat×Option (Nat×Obj)}{s':St U}{d:Option Nat}{v:Value}(h:aZk P Y FZ e al s a x)(hd:∀oj,al[x.1]? =some oj->aY3 oj d=true)(ht:∀i,d≠some i->s'.t[i]? =s.t[i]?):aZk P Y FZ e al s' (a.put d v) x:=by
 obtain⟨oj,h1,h2⟩:=h;have c:=hd oj h1;refine⟨oj,h1,?_⟩;rcases h2 with⟨b,blk,k1,k2,k3,k4⟩|⟨y,j,k1,k2,k3,k4,k5⟩
 ·exact .inl ⟨b,blk,k1,k2,k3.keep (bWg (bPb c) k2),λn hn=>by rw[aLf (bMr c n hn)];exact k4 n hn⟩
 ·exact .inr ⟨y,j,k1,k2,k3.keep (bPb c) ht,k4,λi hi=>by rw[aLf (bMr c i hi)];exact k5 i hi⟩
def aZk.keep' {c:List (Sv U×Value)}{al:List Oper}{x:Nat×Option (Nat×Obj)}{s':St U}{d:Option Nat}(h:aZk P Y FZ c al s a x)(hd:∀oj,al[x.1]? =some oj->aY3 oj d=true)(ht:∀i,d≠some i->s'.t[i]? =s.t[i]?):aZk P Y FZ c al s' a x:=by
 obtain⟨oj,h1,h2⟩:=h;have e:=hd oj h1;refine⟨oj,h1,?_⟩;rcases h2 with h2|⟨y,v,k1,k2,k3,k4,k5⟩
 ·grind
 ·exact .inr ⟨y,v,k1,k2,k3.keep (bPb e) ht,k4,k5⟩
def Kv {al:List Oper}{c:List Nat}{d:Option Nat}(h:aP4 al.toArray c d=true):∀j∈c,∀oj,al[j]? =some oj->aY3 oj d=true:=(by grind[aP4,List.all_eq_true])
def cntF (l:Array Bool):Nat:=l.toList.count false
def aLh {l:Array Bool}{i:Nat}(h:l.getD i true=false):cntF l=cntF (l.setIfInBounds i true)+1:=by
 unfold cntF;have hi:i<l.size:=by
  grind
 have hv:l.toList[i]=false:=by simp_all
 grind
def bH2 {al:List Oper}{o:Oper}(hg:o.guard=none){K:St U->Option α}:grd Y TI FZ al o s K=one Y TI FZ o s K:=by unfold grd bJj;rw[hg]
theorem aLi {os:Array Oper}{c:Array Bool}{i:Nat}(h:i∈Region.ready .any os c):c.getD i true=false:=(mem_ready.1 h).1
def bY0 {o:Oper}{y:Sv U}(h:FlC Y FZ s o y):Nat.ble (Fg FZ o.op) 1=true:=by obtain⟨f,c,ats,S,z,q,h1,h2,d,e,i,_⟩:=h;simp_all[Fg,ac]
def bY1 {o:Oper}(h:Kr Y TI s o.op=true):Nat.ble (Fg FZ o.op) 1=true:=by cases ho:o.op<;>rw[ho] at h<;>first|rfl|cases h
variable {al:List Oper} {Q:Exit->Act->World->Prop} {D:Nat->Prop}
def wP {a0:Option Nat}{c:Array Bool}{i:Nat}(h:gH a0 (c.setIfInBounds i true)=true):gH a0 c=true:=by
 grind[gH,nK]
def bY2 {o:Op}(h:erp s o=true):Fg FZ o=0:=by cases o<;>first|rfl|cases h
def bY3 {o:Oper}(r:bB Y.C E s a w β)(h:erp s o.op=true){v:Value}(hv:(execOp a.eval o).run P w= .ok (.value v) w)(w':World):(execOp a.eval o).run P w'= .ok (.value v) w':=by
 unfold erp at h
 grind[bRc,Rf]
def bWh {os:Array Oper}{a0:Option Nat}{Q:Exit->Act->World->Prop}{S:World->Prop}{i:Nat}{oi:Oper}{v:Value}{n:Nat}{d:Array Bool}(hi:os[i]? =some oi)(hs:Region.noSelect os=true)(ht:tkY os a0 i d=true)(e:Dn .any os d)
  (j:∀c a w,Q (.panic c) (a.put oi.dst v) w->Q (.panic c) a w) (k:YieldsIf P os S oi v a) (hp:aY1 oi.op=true->YieldsIf P os (λ_=>True) oi v a) (l:gH a0 d=true->S w)
  (h:dO P .any os a0 Q S n (d.setIfInBounds i true) (a.put oi.dst v) w):dO P .any os a0 Q S (n+1) d a w:=by
 have hr:=(wO ht).1;simp only[tkY,ab] at ht;have o:=Region.free_spec hi ht.1.1;cases a0 with
 |none=>exact oG hi (Region.noSelect_spec hs) j (by simp) (λ_ _ _=>rfl) n d a w o e hr k (l rfl) h
 |some b=>
  have p:=ht.2;simp only[ab,ck,hi] at p;have q:some b≠some i:=(by simp_all)
  grind[Qg,Region.noSelect_spec,Dn,os,gH,Bool.not_eq_true',getD_in,aC0,oG,aLi]
def bPc (G:Good P g Y TI FZ)(hs:Region.noSelect al.toArray=true)(hP:E.prm=[]){bs:List Nat}{Yb:Nat->Prop}{wS:World}(I:∀b∈bs,∃k,Yb k/\((Sv.l (.box b 0):Sv U),Value.pointer (some ⟨k,0,none⟩))∈E.pin){a0:Option Nat}{kd:Option (Nat×Nat)}(Z:∀n k,kd=some (n,k)->(wS,n,k)∈E.fr):
  ∀(f:Nat) (pd:List Nat) (R:Rec) (l:List (Nat×Bool)) (fs:List Nat) (st ps:Bool) (s:St U) (K:St U->Option α) (z:α),(∀i∈l,∀o,al[i.1]? =some o->∀n,Wr al o n->D n)->Qj Y TI FZ al a0 bs kd l fs st ps s K=some z->
  (∀s' a w β,Ag D s s'->K s'=some z->bB Y.C E s' a w β->Q .normal a w)->(∀j∈pd,j∈fs)->(∀x∈R,x.1∈fs/\x.1∉pd)->(∀x∈R,∀y∈R,x.1≠y.1->∀p q,x.2=some p->y.2=some q->p.1≠q.1)->(∀x∈R,∀y∈R,x.1=y.1->x=y)->
  ∀c,Dn .any al.toArray c->aU8 al.toArray a0 f pd (R.map Prod.fst) l c=true->∀a w β (hL:∀x∈bks R,E.w0.heap.size<=x.1),(ps=true->gH a0 c=false)->(gH a0 c=true->Bel Yb wS w)->(st=true->w=wS/\(∀k,Yb k->(E.ahs (bks R) hL).X β k)/\bEp bs Yb wS.heap.size s β/\R=[])->(∀x∈R,aZk P Y FZ E.pin al s a x)->bB Y.C (E.ahs (bks R) hL) s a w β->dO P .any al.toArray a0 (NoPanic Q) (Bel Yb wS) (cntF c) c a w:=by
 intro f;induction f generalizing E with
 |zero=>intro pd R l fs st ps s K z _ _ _ _ _ _ _ c _ hc;cases hc
 |succ f ih=>
  intro pd R l fs st ps s K z hD h hQ hpd hR hR2 hR3 c hdn hc a w β hL hps hb hI hE r;cases l with
  |nil=>
   simp only[aU8,ab] at hc;have hR0:R=[]:=by
    have:=hc.1;cases R with
    |nil=>rfl
    |cons x R=>cases this
   subst hR0;exact xV (P:=P) (a0:=a0) (S:=Bel Yb wS) (Q:=NoPanic Q) (by simpa using hc.2) (hQ s a w β (Ag.refl s) h r.aDQ) _
  |cons x l=>
   obtain⟨i,fl⟩:=x;simp only[Qj,aR] at h;cases ho:al[i]? with
   |none=>rw[ho] at h;cases h
   |some o=>
    rw[ho] at h;simp only at h;have hDi:=hD (i,fl) (by simp) o ho;have hD':∀j∈l,∀o,al[j.1]? =some o->∀n,Wr al o n->D n:=λj hj=>hD j (by simp[hj]);have hg:al.toArray[i]? =some o:=by simpa using ho
    cases fl with
    |true=>
     simp only[aU8,ab,hg] at hc;cases st with
     |false=>
      replace h:(bif erp s o.op&&noG o then one Y TI FZ o s (λs'=>Qj Y TI FZ al a0 bs kd l fs false ps s' K) else none)=some z:=h;cases hb0:(erp s o.op&&noG o) with
      |false=>rw[hb0] at h;cases h
      |true=>
       rw[hb0] at h;simp only[ae] at h;rw[ab] at hb0;have hgd:o.guard=none:=by
        have:=hb0.2;unfold noG at this;split at this
        ·assumption
        ·cases this
       have hw:Region.wanted o (yielded al.toArray a.tmps)=true:=by simp[Region.wanted,hgd]
       obtain⟨hr,_⟩:=wO hc.2.1;have J:Fg FZ o.op=0:=bY2 hb0.1;unfold one at h;obtain⟨x,s2,k1,⟨v,p1,p2,p3⟩,k3,k4,k5⟩:=Wu G r rfl J h;have A:YieldsIf P al.toArray (λ_=>True) o v a:= .inl ⟨hw,λw' _=>bY3 r hb0.1 (p1 w (Ext.refl w)) w'⟩;have ag:Ag (Wr al o) s (put s2 o.dst x):=Ag.put ⟨λn hn=>by rw[k3],by rw[k3],by rw[k4],k5⟩ (λn e=> .inl e);have hWr:∀n,Wr al o n->o.dst=some n:=λn hn=>by
        rcases hn with hn|⟨j,b,oj,e,_⟩
        ·exact hn
        ·rw[hgd] at e;cases e
       rw[aLh (aLi hr)];refine bWh hg hs hc.2.1 hdn (λ_ _ _ h=>h) (A.imp (λ⟨h1,h2⟩=>⟨h1,λw' _=>h2 w' trivial⟩) id) (λ_=>A) hb ?_;exact ih hP I Z pd R l fs false ps _ K z hD' k1 (λs3 a3 w3 β3 g1=>hQ s3 a3 w3 β3 ((ag.mono hDi).trans g1)) hpd hR hR2 hR3 _ (hdn.set hr) hc.2.2 _ w β hL (λhp=>nK (hps hp)) (λhn=>hb (wP hn)) (λh=>by cases h) (λy A=>(hE y A).keep (Kv hc.1 _ (cz.2 ⟨y,A,rfl⟩)) (λi hi=>ag.t i λhn=>hi (hWr i hn))) (p2.put λ_=>p3)
     |true=>
      simp only[ae] at h;obtain⟨rfl,hYX,hI,hR0⟩:=hI rfl;obtain⟨hr,_⟩:=wO hc.2.1;obtain⟨s1,r1,h1,h2⟩:=Wv r h;have hI1:bEp bs Yb w.heap.size s1 β:=hI.am r.hp h1.m;rw[aLh (aLi hr)];rcases h2 with⟨hw,h2⟩|⟨hw,h2⟩
      ·cases hel:erl bs s1 o.op with
       |false=>rw[hel] at h2;cases h2
       |true=>rw[hel] at h2;simp only[ae] at h2;have h2':=h2;unfold one at h2';obtain⟨x,s2,k1,⟨v,p1,p2,p3⟩,k3,k4,k5⟩:=Wu G r1 rfl (bYz hel) h2';have A:YieldsIf P al.toArray (Bel Yb w) o v a:= .inl ⟨hw,λw' he=>bTt (al:=al) G r1 hI1 hYX hel (p1 w (Ext.refl w)) h2 w' he⟩;have ag:Ag (Wr al o) s (put s2 o.dst x):=Ag.put ⟨λn hn=>by rw[k3];exact h1.t n hn,by rw[k3];exact h1.tl,by rw[k4];exact h1.fr,h1.m.trans k5⟩ (λn e=> .inl e);refine bWh hg hs hc.2.1 hdn (λ_ _ _ h=>h) A (λhp=> .inl ⟨hw,λw' _=>Rf hp (p1 w (Ext.refl w)) w'⟩) hb ?_;exact ih hP I Z pd R l fs true ps _ K z hD' k1 (λs3 a3 w3 β3 g1=>hQ s3 a3 w3 β3 ((ag.mono hDi).trans g1)) hpd hR hR2 hR3 _ (hdn.set hr) hc.2.2 _ w β hL (λhp=>nK (hps hp)) (λhn=>hb (wP hn)) (λ_=>⟨rfl,hYX,(hI1.am r1.hp k5).am p2.hp (by rw[bWe];exact Am.refl _),hR0⟩) (by rw[hR0];simp) (p2.put λ_=>p3)
      ·have A:YieldsIf P al.toArray (Bel Yb w) o undef a:= .inr ⟨hw,rfl⟩;have ag:Ag (Wr al o) s (put s1 o.dst (.l .und)):=h1.put (λn e=> .inl e);refine bWh hg hs hc.2.1 hdn (λ_ _ _ h=>h) A (λ_=> .inr ⟨hw,rfl⟩) hb ?_;exact ih hP I Z pd R l fs true ps _ K z hD' h2 (λs3 a3 w3 β3 g1=>hQ s3 a3 w3 β3 ((ag.mono hDi).trans g1)) hpd hR hR2 hR3 _ (hdn.set hr) hc.2.2 _ w β hL (λhp=>nK (hps hp)) (λhn=>hb (wP hn)) (λ_=>⟨rfl,hYX,hI1.am r1.hp (by rw[bWe];exact Am.refl _),hR0⟩) (by rw[hR0];simp) (r1.put (x:= .l .und) (v:=undef) λ_=>rfl)
    |false=>
     have hfull:=h;simp only[ac] at h;cases hno:noG o with
     |false=>rw[hno] at h;cases h
     |true=>
      rw[hno] at h;simp only[ae] at h;have hgd:o.guard=none:=by
       unfold noG at hno;split at hno
       ·assumption
       ·cases hno
      have hw:Region.wanted o (yielded al.toArray a.tmps)=true:=by simp[Region.wanted,hgd]
      obtain⟨hK,hF⟩:=bHz fs h;have hWr:∀n,Wr al o n->o.dst=some n:=λn hn=>by
       rcases hn with hn|⟨j,b,oj,e,_⟩
       ·exact hn
       ·rw[hgd] at e;cases e
      have keepAg:∀{s':St U},Ag (Wr al o) s s'->∀i,o.dst≠some i->s'.t[i]? =s.t[i]? :=λhag i hi=>hag.t i λhn=>hi (hWr i hn);simp only[aU8] at hc;cases him:A7 i (R.map Prod.fst) with
      |true=>
       rw[him] at hc;simp only[ae,hg,ab] at hc;obtain⟨hoff,hna,hc⟩:=hc;rw[cn] at hna;obtain⟨x,B,hxi⟩:=cz.1 (sJ.1 him);have L:∀y∈R.rm i,y∈R/\y.1≠i:=λy A=>Rec.aCD.1 A;have O:∀y∈R.rm i,∀oj,al[y.1]? =some oj->aY3 oj o.dst=true:=λy A=>Kv hoff _ (by rw[<-Rec.aBV];exact cz.2 ⟨y,A,rfl⟩);have hLs:∀p∈bks (R.rm i),p∈bks R:=λp hp=>by
        obtain⟨j,hj⟩:=Wx.1 hp;exact Wx.2 ⟨j,(L _ hj).1⟩
       have hL':∀p∈bks (R.rm i),E.w0.heap.size<=p.1:=λp hp=>hL p (hLs p hp);rw[<-Rec.aBV] at hc;obtain⟨oj,e1,e2⟩:=hE x B;rw[hxi,ho] at e1;have e1:=ak e1;subst e1;obtain⟨o2,q0,_,_,_,q1⟩:=hF x.1 (hR x B).1;rw[hxi,ho] at q0;have q0:=ak q0;subst q0;have J:Nat.ble (Fg FZ o.op) 1=true:=by
        rcases q1 with⟨_,q1⟩|⟨_,y,q1⟩
        ·exact bY1 q1
        ·exact bY0 q1
       rw[J] at hK;simp only[ae] at hK;have rcc:∀(s':St U) (x0:Sv U) β',s'.t=s.t->s'.fr=s.fr->Am s.m s'.m->Qj Y TI FZ al a0 bs kd l (rmv i fs) false (ps||Qs a0 i) (EV.put s' o.dst x0) K=some z->bB Y.C (E.ahs (bks (R.rm i)) hL') (EV.put s' o.dst x0) a w β'->dO P .any al.toArray a0 (NoPanic Q) (Bel Yb wS) (cntF c) c a w:=λs' x0 β' k4 k5 k6 k1 r'=>by
        have ag:Ag (Wr al o) s (EV.put s' o.dst x0):=Ag.put ⟨λn _=>by rw[k4],by rw[k4],k5,k6⟩ (λn e=> .inl e);exact ih hP I Z pd (R.rm i) l (rmv i fs) false (ps||Qs a0 i) _ K z hD' k1 (λs3 a3 w3 β3 g1=>hQ s3 a3 w3 β3 ((ag.mono hDi).trans g1)) (λj hj=>qD.2 ⟨hpd j hj,λe=>(hR x B).2 (by rw[hxi,<-e];exact hj)⟩) (λy A=>⟨qD.2 ⟨(hR y (L y A).1).1,(L y A).2⟩,(hR y (L y A).1).2⟩)
         (λy A y' hy'=>hR2 y (L y A).1 y' (L y' hy').1) (λy A y' hy'=>hR3 y (L y A).1 y' (L y' hy').1) c hdn hc a w β' hL' (λhp=>hps (by rw[hna,fw] at hp;exact hp)) hb (λh=>by cases h) (λy A=>(hE y (L y A).1).keep' (O y A) (keepAg ag)) r'
       rcases e2 with⟨b,blk,e3,e4,e5,e6⟩|⟨y,v,e3,e4,e5,e6,e7⟩
       ·have hfo:Kr Y TI s o.op=true:=by
         rcases q1 with⟨_,q1⟩|⟨q1,_⟩
         ·exact q1
         ·rw[e4] at q1;cases q1
        have hmem:(b,blk)∈bks R:=Wx.2 ⟨x.1,by rw[<-e3];exact B⟩;have H:stp Y TI FZ s o.op (λx0 s'=>Qj Y TI FZ al a0 bs kd l (rmv i fs) false (ps||Qs a0 i) (EV.put s' o.dst x0) K)=some z:=hK;obtain⟨x0,s',β',k1,k2,k3,k4,k5,k6⟩:=bO9 (L':=bks (R.rm i)) (hL':=hL') G r hmem (λp hp=>by
         obtain⟨j,hj⟩:=Wx.1 hp;exact⟨hLs p hp,λe=>hR2 _ (L _ hj).1 x B (by rw[hxi];exact(L _ hj).2) p (b,blk) rfl e3 e⟩) hP e5 hfo H
        exact rcc s' x0 β' k4 k5 k6 k1 (k2.aBL (λ_=>k3) e6)
       ·obtain⟨ff,xa,ats,S,z1,q,c1,c2,c3,c4,c5,c6,c7,c8,c9⟩:=e5;have hff:(Qh Y S.rs||sI (xa.toList.map (eG s)))=true:=by rw[c6,Bool.or_true]
        have H:stp Y TI FZ s o.op (λx0 s'=>Qj Y TI FZ al a0 bs kd l (rmv i fs) false (ps||Qs a0 i) (EV.put s' o.dst x0) K)=some z:=hK;have hb2:(match oZ Y s.m S.ar (xa.toList.map (eG s)) with
         |some a=>bif S.wt then(match xa.toList.map (eG s) with
          |[x,_]=>match parts x with
           |some cs=>bd (S.m a) λr=>match bG Y S.rs r with
            |[(_,ds),(_,[.int .i64 k])]=>match wrm Y s.m cs ds with
             |some us=>bif dist (cE2 us)&&aYx (U:=U) S.ar then Qj Y TI FZ al a0 bs kd l (rmv i fs) false (ps||Qs a0 i) (EV.put ⟨s.t,⟨cE1 us s.m.o,Nat.succ s.m.k,s.m.ns⟩,s.fr⟩ o.dst (.l (.int .i64 k))) K else none
             |none=>none
            |_=>none
           |none=>none
          |_=>none)
          else bif S.fr then bd (S.m a) λr=>
           let q:=jQ s.m.k (len s.m.o) (bG Y S.rs r)
           Qj Y TI FZ al a0 bs kd l (rmv i fs) false (ps||Qs a0 i) (EV.put ⟨s.t,⟨s.m.o++q.2,s.m.k,s.m.ns⟩,s.fr⟩ o.dst (Ff q.1)) K
          else bif Qh Y S.rs||sI (xa.toList.map (eG s)) then bd (S.m a) λr=>Qj Y TI FZ al a0 bs kd l (rmv i fs) false (ps||Qs a0 i) (EV.put s o.dst (Ff (bG Y S.rs r))) K
          else match bLw s.m (xa.toList.map (eG s)) with
           |some (i',c')=>bd (S.m a) λr=>Qj Y TI FZ al a0 bs kd l (rmv i fs) false (ps||Qs a0 i) (EV.put s o.dst (Ff (Ye i' c' (bG Y S.rs r)))) K
           |none=>none
         |none=>none)=some z:=by
         rw[c1] at H;unfold stp at H;simp only[c2] at H;rw[c4] at H;rw[c4];exact H
        rw[c3] at hb2;simp only[c4,c5,hff,ac,ae] at hb2;obtain⟨q',d1,d2⟩:=jN hb2;rw[c8] at d1;have d1:=ak d1;subst d1;rw[c9] at d2;have hbk:bks (R.rm i)=bks (R.rm i):=rfl;have hsame:∀p,p∈bks R->p∈bks (R.rm i):=λp hp=>by
         obtain⟨j,hj⟩:=Wx.1 hp;refine Wx.2 ⟨j,Rec.aCD.2 ⟨hj,λe=> ?_⟩⟩;have:=hR3 _ hj x B (by rw[hxi];exact e);rw[<-this] at e3;cases e3
        have r':bB Y.C (E.ahs (bks (R.rm i)) hL') s a w β:=r.aCQ hLs;exact rcc s _ β rfl rfl (Am.refl _) d2 (r'.aBL (v:=v) (λh=>r'.hp.pin _ (e6 h)) e7)
      |false=>
       rw[him] at hc;simp only[ac,ab,cI] at hc;obtain⟨hir,hall⟩:=hc;have hir:i∈Region.ready .any al.toArray c:=by simpa using hir
       have hiR:∀x∈R,x.1≠i:=λx B e=>by
        have:A7 i (R.map Prod.fst)=true:=sJ.2 (cz.2 ⟨x,B,e⟩);rw[this] at him;cases him
       obtain⟨m,hm⟩:∃m,cntF c=m+1:=⟨_,aLh (aLi hir)⟩;have hcnt:∀{j},j∈Region.ready .any al.toArray c->m=cntF (c.setIfInBounds j true):=λhj=>by
        have:=aLh (aLi hj);omega
       rw[hm];refine lQ rfl (λe=>by rw[e] at hir;simp at hir) λj hjr=> ?_;have V:=hall j hjr;cases hij:Nat.beq j i with
       |true=>
        have e:=ai hij;subst e;rw[hij] at V;simp only[ae,hg,ab] at V;obtain⟨hoff,hay,hc⟩:=V;have O:∀y∈R,∀oj,al[y.1]? =some oj->aY3 oj o.dst=true:=λy A=>Kv hoff _ (cz.2 ⟨y,A,rfl⟩);have rcc:∀(s':St U) v w' β',Ag (Wr al o) s s'->Qj Y TI FZ al a0 bs kd l (rmv j fs) false (ps||Qs a0 j) s' K=some z->bB Y.C (E.ahs (bks R) hL) s' (a.put o.dst v) w' β'->(gH a0 (c.setIfInBounds j true)=true->Bel Yb wS w')->(gH a0 (c.setIfInBounds j true)=true->Bel Yb wS w')/\dO P .any al.toArray a0 (NoPanic Q) (Bel Yb wS) m (c.setIfInBounds j true) (a.put o.dst v) w':=λs' v w' β' g1 g2 g3 hb'=>by
         refine⟨hb',?_⟩;rw[hcnt hjr];exact ih hP I Z (rmv j pd) R l (rmv j fs) false (ps||Qs a0 j) s' K z hD' g2 (λs2 a2 w2 β2 q1=>hQ s2 a2 w2 β2 ((g1.mono hDi).trans q1)) (λx B=>qD.2 ⟨hpd x (qD.1 B).1,(qD.1 B).2⟩) (λx B=>⟨qD.2 ⟨(hR x B).1,hiR x B⟩,λh=>(hR x B).2 (qD.1 h).1⟩) hR2 hR3 _ (hdn.set hjr) hc _ w' β' hL (λhp=>(Bool.or_eq_true_iff.1 hp).elim (λhp=>nK (hps hp)) λhp=>by rw[aGe hay rfl,hp,ah,dm]) hb' (λh=>by cases h) (λy A=>(hE y A).keep (O y A) (keepAg g1)) g3
        cases J:Nat.ble (Fg FZ o.op) 1 with
        |true=>rw[J] at hK;simp only[ae] at hK;rw[<-bH2 (al:=al) hgd] at hK;exact wpOp_step hg λK' H=>bKa G r hK λs' v w' β' g1 g2 g3 g4=>H _ _ (rcc s' v w' β' g1 g2 g3 λhn=>(hb (wP hn)).trans (Bel.aBJ (g4 J)))
        |false=>
         rw[J] at hK;simp only[ac] at hK;cases F:(stW bs s o.op||ptW FZ bs s o.op) with
         |false=>
          rw[F] at hK;simp only[ac] at hK;rw[<-bH2 (al:=al) hgd] at hK;refine wpOp_step hg λK' H=>bKa G r hK λs' v w' β' g1 g2 g3 g4=>H _ _ ?_;cases hun:unO kd s'.m.o with
          |false=>
           rw[hun,cy] at g2;cases hia:(Qs a0 j||ps) with
           |false=>rw[hia] at g2;cases g2
           |true=>
            rw[hia] at g2;refine rcc s' v w' β' g1 g2 g3 λhn=> ?_;rw[ck] at hia;rcases hia with hia|hia
            ·rw[aGe hay rfl,hia,ah,dm] at hn;cases hn
            ·rw[nK (hps hia)] at hn;cases hn
          |true=>
           rw[hun] at g2;simp only[Bool.true_or,ae] at g2;refine rcc s' v w' β' g1 g2 g3 λ_=> ?_;cases hk:kd with
           |none=>rw[hk] at hun;cases hun
           |some p=>obtain⟨n0,k0⟩:=p;rw[hk] at hun;exact Bel.aBJ (g3.unt (Z n0 k0 hk) hun)
         |true=>
          rw[F] at hK;simp only[ae] at hK;cases hoo:o.op with
          |store t x y=>
           rw[hoo] at F;simp only[stW,ptW,fw] at F;split at F
           ·rename_i b off B;unfold one stp at hK;rw[hoo] at hK;simp only[B] at hK;split at hK
            ·rename_i ti b' off' ps h1 h2 h3;cases h2;split at hK
             ·rename_i T cs us rv cv h4;rw[aR] at h4;cases hbb:(Nat.beq (len ps) ti.k&&(Nat.ble (off+ti.k) (len cs)&&Qv ps)) with
              |false=>rw[hbb] at hK;cases hK
              |true=>
               rw[hbb] at hK;simp only[ae] at hK;simp only[ab,bL] at hbb;obtain⟨w',β',t',bb,e1,r1,hev,hbel,e2,e3⟩:=aLb G.ti r hoo h1 B h3 h4 (ai hbb.1) (aE hbb.2.1) hbb.2.2;have hyb:Yb bb:=by obtain⟨k,k1,k2⟩:=I b (sJ.1 F);obtain⟨_,e,t2,j1,j2,j3⟩:=(r.hp.pin _ k2:(Lf.box b 0:Lf U).mean Y.C w ((E.ahs (bks R) hL).X β) β s.m _);rw[h4] at j1;injection j1 with j1;subst j1;obtain⟨b2,m1,m2⟩:=j3 rfl;injection m2 with m2;injection m2 with m2;injection m2 with m2;rw[e2] at j2;injection j2 with j2;subst j2;rw[e3] at m1;injection m1 with m1;subst m1;subst m2;exact k1
               have hb':gH a0 (c.setIfInBounds j true)=true->Bel Yb wS w':=λhn=>(hb (wP hn)).trans ⟨hbel.os,hbel.tape,hbel.output,hbel.size,λk hk A=>hbel.block k hk λe=>A (by rw[e];exact hyb)⟩;have ag:Ag (Wr al o) s (put (trn s b (.box T (spl cs off ps) (spl us off (ps.map λ_=>Nat.succ s.m.k))) rv) o.dst (.l .any)):=Ag.put (s:=s) (s':=trn s b (.box T (spl cs off ps) (spl us off (ps.map λ_=>Nat.succ s.m.k))) rv) (D:=Wr al o) ⟨λn _=>rfl,rfl,rfl,aUd h4 (ai hbb.1) (aE hbb.2.1) (r.aBT h4)⟩ (λn e=>Or.inl e);refine wpOp_step hg λK' H=> ?_;rw[cu hw];exact wpo (.inr ⟨e1,rfl⟩) (H _ _ (rcc _ _ w' β' ag hK (r1.put λ_=>trivial) hb'))
             ·cases hK
            ·rename_i h2 _;cases h2
            ·rename_i h2 _;cases h2
            ·cases hK
           ·cases F
          |call cc=>
           obtain⟨f,xa,ats,S,b,ys,rfl,hS,hxs,hwt,hfr,hmem⟩:∃f xa ats S b ys,cc=⟨.value (.func f),xa,ats⟩/\kG FZ f=some S/\xa.toList.map (eG s)= .l (.box b 0)::ys/\S.wt=true/\S.fr=true/\A7 b bs=true:=by
            rw[hoo] at F;simp only[stW,ptW,cy] at F;split at F
            ·rename_i f xa ats he;split at F
             ·rename_i S b ys h1 h2;simp only[ab] at F;injection he with he;exact⟨f,xa,ats,S,b,ys,he,h1,h2,F.1,F.2.1,F.2.2⟩
             ·cases F
            ·cases F
           unfold one stp at hK;rw[hoo] at hK;simp only[hS,hwt,hfr,dl,ae] at hK;cases hK
          |_=>rw[hoo] at F;simp[stW,ptW] at F
       |false=>
        rw[hij] at V;simp only[ac,ab] at V;obtain⟨hjp,V⟩:=V;have hjp:=sJ.1 hjp;obtain⟨oj,ho',hgj,W,hself,hfl⟩:=hF j (hpd j hjp);have hgi:al.toArray[j]? =some oj:=by simpa using ho'
        rw[hgi] at V;simp only[ab] at V;obtain⟨hoff,hc⟩:=V;have O:∀y∈R,∀o,al[y.1]? =some o->aY3 o oj.dst=true:=λy A=>Kv hoff _ (cz.2 ⟨y,A,rfl⟩);have hjR:∀x∈R,x.1≠j:=λx B e=>(hR x B).2 (by rw[e];exact hjp);have hget:∀(v:Value) n,oj.dst=some n->(a.put oj.dst v).tmps.getD n undef=v:=λv n hn=>by
         rw[hn];simp only[bEl,hn,aR] at W;have hlt:n<a.tmps.size:=by
          rw[r.tsz];cases B:s.t[n]? with
          |none=>rw[B] at W;cases W
          |some x=>exact lt_of_some B
         simp only[Act.put];rw[Fa _ _ _ _ _ hlt,cu rfl]
        have rcc:∀(E':Env U g) (hP':E'.prm=[]) (hpin':∀b∈bs,∃k,Yb k/\((Sv.l (.box b 0):Sv U),Value.pointer (some ⟨k,0,none⟩))∈E'.pin) (hkd':∀n k,kd=some (n,k)->(wS,n,k)∈E'.fr) (hback:∀s a w β,bB Y.C E' s a w β->bB Y.C E s a w β) (hpn:∀p∈E.pin,p∈E'.pin) (q:Option (Nat×Obj)) v w' β' (hL':∀x∈bks ((j,q)::R),E'.w0.heap.size<=x.1),(∀p,q=some p->∀y∈R,∀p',y.2=some p'->p.1≠p'.1)->aZk P Y FZ E'.pin al s (a.put oj.dst v) (j,q)->bB Y.C (E'.ahs (bks ((j,q)::R)) hL') s (a.put oj.dst v) w' β'->(gH a0 (c.setIfInBounds j true)=true->Bel Yb wS w')->(gH a0 (c.setIfInBounds j true)=true->Bel Yb wS w')/\dO P .any al.toArray a0 (NoPanic Q) (Bel Yb wS) m (c.setIfInBounds j true) (a.put oj.dst v) w':=λE' hP' hpin' hkd' hback hpn q v w' β' hL' hq hEr r' hb'=>by
         refine⟨hb',?_⟩;rw[hcnt hjr];refine ih hP' hpin' hkd' (rmv j pd) ((j,q)::R) ((i,false)::l) fs false ps s K z hD (by simp only[Qj,aR,ho];exact hfull) (λs' a w β g1 g2 g3=>hQ s' a w β g1 g2 (hback _ _ _ _ g3)) (λx B=>hpd x (qD.1 B).1) (λx B=> ?_) (λx B y A hne p p' hp hp'=> ?_) (λx B y A he=> ?_) _ (hdn.set hjr) hc _ w' β' hL' (λhp=>nK (hps hp)) hb' (λh=>by cases h) (λy A=> ?_) r'
         ·rcases bl.1 B with rfl|B
          ·exact⟨hpd j hjp,λh=>(qD.1 h).2 rfl⟩
          ·exact⟨(hR x B).1,λh=>(hR x B).2 (qD.1 h).1⟩
         ·rcases bl.1 B with rfl|B<;>rcases bl.1 A with rfl|A
          ·exact absurd rfl hne
          ·exact hq p hp y A p' hp'
          ·exact λe=>hq p' hp' x B p hp e.symm
          ·exact hR2 x B y A hne p p' hp hp'
         ·rcases bl.1 B with rfl|B<;>rcases bl.1 A with rfl|A
          ·rfl
          ·exact absurd he.symm (hjR y A)
          ·exact absurd he (hjR x B)
          ·exact hR3 x B y A he
         ·rcases bl.1 A with rfl|A
          ·exact hEr
          ·exact((hE y A).mono hpn).keep (O y A) (λ_ _=>rfl)
        have hwj:Region.wanted oj (yielded al.toArray a.tmps)=true:=by simp[Region.wanted,hgj]
        refine wpOp_step hgi λK' H=> ?_;rw[cu hwj];rcases hfl with⟨J,hok⟩|⟨J,y0,hfc⟩
        ·obtain⟨blk,hFl⟩:=bHq G r hok;have hbw:E.w0.heap.size<=w.heap.size:=r.hp.ext.size;have hL':∀x∈bks ((j,some (w.heap.size,blk))::R),E.w0.heap.size<=x.1:=λx B=>by
          have B:x∈(w.heap.size,blk)::bks R:=B;rcases bl.1 B with rfl|B
          ·exact hbw
          ·exact hL x B
         refine wpo (.inl (hFl w)) (H _ _ (rcc E hP I Z (λ_ _ _ _ h=>h) (λ_ h=>h) (some (w.heap.size,blk)) _ (w.alloc blk) β hL' (λp hp y A p' hp'=> ?_) ?_ ?_ (λhn=>(hb (wP hn)).trans (Bel.aBJ (Ext.alloc _ _)))))
         ·have:=ak hp;subst this;have:=cBj r p' (Wx.2 ⟨y.1,by rw[<-hp'];exact A⟩);intro e;have e:w.heap.size=p'.1:=e;omega
         ·exact⟨oj,ho', .inl ⟨_,blk,rfl,J,hFl.keep (bWg hself J),λn hn=>hget _ n hn⟩⟩
         ·exact(r.aCP (blk:=blk) (hb':=hL') hbw).aBQ W
        ·have hfc0:=hfc;obtain⟨ff,xa,ats,S,z1,q,c1,c2,c3,c4,c5,c6,c7,c8,c9⟩:=hfc0;have hso:=Yg G.lay r c1 (G.fs ff S (bJo c2)) c3 c4 c5 (.inr c6) c8;refine hso K' _ λv w' β' q1 q2 q3=> ?_;have hbx:=λhn:gH a0 (c.setIfInBounds j true)=true=>(hb (wP hn)).trans (Bel.aBJ (q3 rfl));by_cases hd0:oj.dst=none
         ·exact H _ _ (rcc E hP I Z (λ_ _ _ _ h=>h) (λ_ h=>h) none v w' β' hL (λp hp=>by cases hp) ⟨oj,ho', .inr ⟨y0,v,rfl,J,hfc.keep (s':=s) (d:=none) rfl (λ_ _=>rfl),λhd=>absurd hd0 hd,λd hd=>by rw[hd0] at hd;cases hd⟩⟩ (q1.aBQ W) hbx)
         ·have hm2:y0.mean Y.C w' ((E.ahs (bks R) hL).X β') β' s.m v:=by rw[<-c9];exact q2 hd0
          have q1':bB Y.C ((E.pinned [(y0,v)]).ahs (bks R) hL) s (a.put oj.dst v) w' β':=(q1.aBQ W).pins (ps:=[(y0,v)]) (λx B=>by simp at B;subst B;exact hm2);exact H _ _ (rcc (E.pinned [(y0,v)]) hP (λb hb=>by
           obtain⟨k,k1,k2⟩:=I b hb;exact⟨k,k1,eh _ k2⟩) Z (λ_ _ _ _ h=>h.aCV) (λ_ h=>eh _ h) none v w' β' hL (λp hp=>by cases hp) ⟨oj,ho', .inr ⟨y0,v,rfl,J,hfc.keep (s':=s) (d:=none) rfl (λ_ _=>rfl),λ_=>dT,λd hd=>hget v d hd⟩⟩ q1' hbx)
end
end Go.EV
