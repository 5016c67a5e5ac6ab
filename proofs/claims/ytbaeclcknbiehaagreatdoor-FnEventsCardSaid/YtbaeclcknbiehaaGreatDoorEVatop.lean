import Derived.Test.YtbaeclcknbiehaaGreatDoorVKatos
/- Printed by wip/tools: models, walks, proofs. -/
set_option linter.all false
namespace Go.EV
open Go.RowKit Go.VK
structure Uni where
 El:Nat->Type
 K:Nat->Nat
 enc:(τ:Nat)->El τ->List V
inductive Lf (U:Uni) where
 |int (k:IntKind) (n:Int)
 |bool (b:Bool)
 |str (s:ByteArray)
 |nat (a:Nat)
 |lt (a:Nat) (m:Int)
 |sl (τ:Nat) (l:List (U.El τ))
 |nil
 |own (i r:Nat)
 |bor (i c τ:Nat) (l:List (U.El τ))
 |inn (i c τ:Nat) (q:Int) (z:U.El τ) (j τ':Nat) (l:List (U.El τ'))
 |box (i off:Nat)
 |ptr (τ:Nat) (z:U.El τ) (off:Nat)
 |oel (i c τ:Nat) (q:Int) (z:U.El τ) (off:Nat)
 |oin (i c τ:Nat) (q:Int) (z:U.El τ) (j τ':Nat) (l:List (U.El τ')) (q':Int) (z':U.El τ') (off:Nat)
 |suf (i c τ:Nat) (q:Int) (l:List (U.El τ))
 |und
 |any
variable {U:Uni}
def Lf.toV:Lf U->V
 | .int k n=> .int k n
 | .bool b=> .bool b
 | .str s=> .str s
 | .sl τ l=> .slice (U.K τ) (l.map (U.enc τ))
 | .nil=> .nil
 |_=> .any
def Lf.aBA:Lf U->Bool
 | .int .. | .bool _| .str _| .sl .. =>true
 |_=>false
structure Cod (U:Uni) where
 cel:(τ:Nat)->U.El τ->List (Lf U)
 bld:(τ:Nat)->List (Lf U)->Option (U.El τ)
 hcel:∀τ x,(cel τ x).map Lf.toV=U.enc τ x
 hlen:∀τ x,(cel τ x).length=U.K τ
 hdat:∀τ x c,c∈cel τ x->c.aBA=true
 hmk:∀τ cs x,bld τ cs=some x->cs=cel τ x
inductive Ob (U:Uni) where
 |dead
 |box (T:Nat) (cs:List (Lf U)) (vs:List Nat)
 |tree (τ:Nat) (d:Bool) (l:List (U.El τ))
def Ob.aAX:Ob U->Bool
 | .box .. =>true
 |_=>false
structure EO (U:Uni) where
 ob:Ob U
 rv:Nat
 cv:Nat
inductive Sv (U:Uni) where
 |l (x:Lf U)
 |a (cs:List (Lf U))
 |t (xs:List (Bool×List (Lf U)))
structure Mm (U:Uni) where
 o:List (EO U)
 k:Nat
 ns:List (Nat×Bool)
structure St (U:Uni) where
 t:List (Sv U)
 m:Mm U
 fr:List (List (Sv U))
structure Tr where
 b:Option Nat
 n:Nat
 c:Nat
 bs:List Nat
def Tr.val (t:Tr):Value:= .slice (t.b.map λb=>⟨b,0,none⟩) t.n t.c
def Tr.all (t:Tr):List Nat:=t.b.toList++t.bs
def aU6 (K:Nat)(t:Tr)(q n:Nat):Value:= .slice (if t.c=q then t.b.map λb=>⟨b,0,none⟩ else(t.b.map λb=>(⟨b,0,none⟩:Addr)).map λp=>p.add (q*K)) (n-q) (t.c-q)
mutual
inductive Ow (C:Cod U) (w:World) (X:Nat->Prop) (d:Bool):Value->Lf U->List Nat->Prop
 |int {k:IntKind} {n:Int} (h1:k.min<=n) (h2:n<=k.max):Ow C w X d (.int k n) (.int k n) []
 |bool {b:Bool}:Ow C w X d (.bool b) (.bool b) []
 |str {s:ByteArray} (h:s.size<=maxLen):Ow C w X d (.string s) (.str s) []
 |fz {v:Value} {τ:Nat} {l:List (U.El τ)} (hd:d=false) (h:Rd w X [] v (.slice (U.K τ) (l.map (U.enc τ)))):Ow C w X d v (.sl τ l) []
 |sl {τ:Nat} {l:List (U.El τ)} {xs:List Value} (t:Tr) (hk:0<U.K τ) (hown:w.ownsRow 0 τ (U.K τ) t.val l.length xs) (hc:OwL C w X d xs (l.map (C.cel τ)).flatten t.bs):Ow C w X d t.val (.sl τ l) t.all
 |su {τ:Nat} {l:List (U.El τ)} {xs:List Value} (hd:d=false) (t:Tr) (q:Nat) (hk:0<U.K τ) (hq:q<=l.length) (hown:w.ownsRow 0 τ (U.K τ) t.val l.length xs) (hc:OwL C w X d xs (l.map (C.cel τ)).flatten t.bs):Ow C w X d (aU6 (U.K τ) t q l.length) (.sl τ (l.drop q)) t.all
inductive OwL (C:Cod U) (w:World) (X:Nat->Prop) (d:Bool):List Value->List (Lf U)->List Nat->Prop
 |n:OwL C w X d [] [] []
 |c {v:Value} {x:Lf U} {B B':List Nat} {vs:List Value} {xs:List (Lf U)} (h:Ow C w X d v x B) (hr:OwL C w X d vs xs B'):OwL C w X d (v::vs) (x::xs) (B++B')
end
variable {C:Cod U}
theorem Tr.root {t:Tr}{b:Nat}(h:t.b=some b):b∈t.all:=by simp[Tr.all,h]
def qU {w w':World}{T k n:Nat}{t:Tr}{xs:List Value}(h:w.ownsRow 0 T k t.val n xs)(e:∀b,t.b=some b->w'.heap[b]? =w.heap[b]?):w'.ownsRow 0 T k t.val n xs:=by
 refine⟨h.1,h.2.imp id ?_⟩;rintro⟨d,cap,cur,c,f,i,j⟩;refine⟨d,cap,cur,c,f,?_,j⟩;rw[e d ?_]
 ·exact i
 ·cases hb:t.b with
  |none=>simp[Tr.val,hb] at c
  |some b=>simp[Tr.val,hb] at c;rw[c.1]
section
variable {w w':World} {X X':Nat->Prop}
mutual
def Ow.conv {d:Bool}(hsz:w.heap.size<=w'.heap.size)(hX:∀b,b<w.heap.size->X' b->X b)(hcell:∀(p:Addr) (u:Value),¬X p.block->w.cell? p=some u->w'.cell? p=some u):
  ∀{v:Value} {x:Lf U} {B:List Nat},Ow C w X d v x B->(∀b∈B,w'.heap[b]? =w.heap[b]?)->Ow C w' X' d v x B
 |_,_,_, .int h1 h2,_=> .int h1 h2
 |_,_,_, .bool,_=> .bool
 |_,_,_, .str h,_=> .str h
 |_,_,_, .fz hd h,_=> .fz hd (h.conv hsz hX hcell (λ_ _ h=>h))
 |_,_,_, .sl t hk hown hc,hh=> .sl t hk (qU hown λb hb=>hh b (Tr.root hb)) (OwL.conv hsz hX hcell hc λb hb=>hh b (by simp[Tr.all,hb]))
 |_,_,_, .su hd t q hk hq hown hc,hh=> .su hd t q hk hq (qU hown λb hb=>hh b (Tr.root hb)) (OwL.conv hsz hX hcell hc λb hb=>hh b (by simp[Tr.all,hb]))
def OwL.conv {d:Bool}(hsz:w.heap.size<=w'.heap.size)(hX:∀b,b<w.heap.size->X' b->X b)(hcell:∀(p:Addr) (u:Value),¬X p.block->w.cell? p=some u->w'.cell? p=some u):
  ∀{vs:List Value} {xs:List (Lf U)} {B:List Nat},OwL C w X d vs xs B->(∀b∈B,w'.heap[b]? =w.heap[b]?)->OwL C w' X' d vs xs B
 |_,_,_, .n,_=> .n
 |_,_,_, .c h hr,hh=> .c (Ow.conv hsz hX hcell h λb hb=>hh b (by simp[hb])) (OwL.conv hsz hX hcell hr λb hb=>hh b (by simp[hb]))
end
mutual
def Ow.soft {d:Bool}:∀{v:Value} {x:Lf U} {B:List Nat},Ow C w X d v x B->Ow C w X false v x B
 |_,_,_, .int h1 h2=> .int h1 h2
 |_,_,_, .bool=> .bool
 |_,_,_, .str h=> .str h
 |_,_,_, .fz hd h=> .fz rfl h
 |_,_,_, .sl t hk hown hc=> .sl t hk hown (OwL.soft hc)
 |_,_,_, .su hd t q hk hq hown hc=> .su rfl t q hk hq hown (OwL.soft hc)
def OwL.soft {d:Bool}:∀{vs:List Value} {xs:List (Lf U)} {B:List Nat},OwL C w X d vs xs B->OwL C w X false vs xs B
 |_,_,_, .n=> .n
 |_,_,_, .c h hr=> .c (Ow.soft h) (OwL.soft hr)
end
def OwL.split {d:Bool}:∀{vs:List Value} {xs ys:List (Lf U)} {B:List Nat},OwL C w X d vs (xs++ys) B->∃b e i f,vs=b++e/\B=i++f/\OwL C w X d b xs i/\OwL C w X d e ys f
 |vs,[],ys,B,h=>⟨[],vs,[],B,rfl,rfl, .n,h⟩
 |_,x::xs,ys,_, .c h hr=>by
  obtain⟨b,e,i,f,rfl,rfl,h1,h2⟩:=OwL.split hr;exact⟨_::b,e,_,f,rfl,by rw[cw], .c h h1,h2⟩
def OwL.app {d:Bool}:∀{b e:List Value} {xs ys:List (Lf U)} {f i:List Nat},OwL C w X d b xs f->OwL C w X d e ys i->OwL C w X d (b++e) (xs++ys) (f++i)
 |_,_,_,_,_,_, .n,h=>h
 |_,_,_,_,_,_, .c h hr,h2=>by rw[cw];exact .c h (OwL.app hr h2)
theorem OwL.len {d:Bool}:∀{vs:List Value} {xs:List (Lf U)} {B:List Nat},OwL C w X d vs xs B->vs.length=xs.length
 |_,_,_, .n=>rfl
 |_,_,_, .c _ hr=>by simp[OwL.len hr]
def Ow.one {d:Bool}{v:Value}{x:Lf U}{B:List Nat}(h:Ow C w X d v x B):v.oneCell'=true:=by
 cases h with
 |int=>rfl
 |bool=>rfl
 |str=>rfl
 |fz _ h=>exact Rd.one h rfl
 |sl=>rfl
 |su=>rfl
def OwL.ones {d:Bool}:∀{vs:List Value} {xs:List (Lf U)} {B:List Nat},OwL C w X d vs xs B->∀v∈vs,v.oneCell'=true
 |_,_,_, .n,v,hv=>by simp at hv
 |_,_,_, .c h hr,v,hv=>by
  rcases bg.1 hv with rfl|hv
  ·exact h.one
  ·exact OwL.ones hr v hv
mutual
def Ow.lt {d:Bool}:∀{v:Value} {x:Lf U} {B:List Nat},Ow C w X d v x B->∀b∈B,b<w.heap.size
 |_,_,_, .int _ _,b,hb=>by simp at hb
 |_,_,_, .bool,b,hb=>by simp at hb
 |_,_,_, .str _,b,hb=>by simp at hb
 |_,_,_, .fz _ _,b,hb=>by simp at hb
 |_,_,_, .sl t hk hown hc,b,hb=>by
  simp only[Tr.all,ce,ip] at hb;rcases hb with hb|hb
  ·have hb:t.b=some b:=hb;rcases hown.2 with⟨h5,_⟩|⟨gg,cap,cur,h5,_,h6,_⟩
   ·simp[Tr.val,hb] at h5
   ·simp[Tr.val,hb] at h5;rw[h5.1];exact(ca.1 h6).1
  ·exact OwL.lt hc b hb
 |_,_,_, .su hd t q hk hq hown hc,b,hb=>by
  simp only[Tr.all,ce,ip] at hb;rcases hb with hb|hb
  ·have hb:t.b=some b:=hb;rcases hown.2 with⟨h5,_⟩|⟨gg,cap,cur,h5,_,h6,_⟩
   ·simp[Tr.val,hb] at h5
   ·simp[Tr.val,hb] at h5;rw[h5.1];exact(ca.1 h6).1
  ·exact OwL.lt hc b hb
def OwL.lt {d:Bool}:∀{vs:List Value} {xs:List (Lf U)} {B:List Nat},OwL C w X d vs xs B->∀b∈B,b<w.heap.size
 |_,_,_, .n,b,hb=>by simp at hb
 |_,_,_, .c h hr,b,hb=>by
  rcases ce.1 hb with hb|hb
  ·exact Ow.lt h b hb
  ·exact OwL.lt hr b hb
end
end
def aJh {α β:Type}{f:α->List β}{k:Nat}(hk:∀x,(f x).length=k):∀{l:List α} {i:Nat} {x:α},l[i]? =some x->∃l1 l2,l=l1++x::l2/\l1.length=i/\(l.map f).flatten=(l1.map f).flatten++(f x++(l2.map f).flatten)/\(l1.map f).flatten.length=i*k
 |[],i,x,h=>by simp at h
 |y::l,0,x,h=>by simp at h;subst h;exact⟨[],l,rfl,rfl,rfl,by simp⟩
 |y::l,i+1,x,h=>by
  obtain⟨l1,l2,h1,h2,b,c⟩:=aJh hk (l:=l) (i:=i) (x:=x) (by simpa using h);refine⟨y::l1,l2,by rw[h1];rfl,by simp[h2],?_,?_⟩
  ·simp only[bn,cM,b,cw]
  ·simp only[bn,cM,ax,c,hk];rw[dr];omega
def Ry {α β:Type}{f:α->List β}{k:Nat}(hk:∀x,(f x).length=k):∀{l:List α},(l.map f).flatten.length=l.length*k
 |[]=>by simp
 |y::l=>by simp only[bn,cM,ax,Ry hk (l:=l),hk,aq,dr];omega
def uV {w:World}{T k n:Nat}{t:Tr}{xs:List Value}(h:w.ownsRow 0 T k t.val n xs){b:Nat}(hb:t.b=some b){i:Nat}{v:Value}(hv:xs[i]? =some v):w.cell? (Addr.add ⟨b,0,none⟩ i)=some v:=by exact h.cells (g:=b) (by simp[Tr.val,hb,Value.ownBlock]) i v hv
theorem fA {w:World}{T k n:Nat}{t:Tr}{xs:List Value}(h:w.ownsRow 0 T k t.val n xs):(t.b=none/\n=0/\xs=[]/\t.n=0/\t.c=0)\/∃b cur,t.b=some b/\t.n=n/\n<=t.c/\t.c<=maxLen/\w.heap[b]? =some (.cells cur T (0,0))/\cur.size=t.c*k/\cur.toList.take (n*k)=xs:=by
 rcases h.2 with⟨d,e⟩|⟨o,cap,cur,d,_,e,i,j,l,f⟩
 ·left;cases hb:t.b with
  |some b=>simp[Tr.val,hb] at d
  |none=>simp[Tr.val,hb] at d;refine⟨rfl,e,cg ?_,d.1,d.2⟩;rw[h.1,e];simp
 ·right;cases hb:t.b with
  |none=>simp[Tr.val,hb] at d
  |some b=>simp[Tr.val,hb] at d;obtain⟨q1,q2,q3⟩:=d;subst q1;subst q2;subst q3;exact⟨_,cur,rfl,rfl,i,j,e,l,f⟩
theorem Lf.aCI {x:Lf U}(h:x.aBA=true):x.toV.one=true:=by cases x<;>simp_all [Lf.aBA,Lf.toV,V.one]
def bRx {C:Cod U}{w:World}{Z:Nat->Prop}{τ:Nat}{l:List (U.El τ)}{xs:List Value}(t:Tr)(hown:w.ownsRow 0 τ (U.K τ) t.val l.length xs)(r:∀b∈t.all,¬Z b)
  (c:xs.length=((l.map (C.cel τ)).flatten).length/\∀(i:Nat) (v:Value) (x:Lf U),xs[i]? =some v->((l.map (C.cel τ)).flatten)[i]? =some x->Rd w Z [] v x.toV):Rd w Z [] t.val (.slice (U.K τ) (l.map (U.enc τ))):=by
 have k:=c.1;rcases fA hown with⟨h1,h2,q,n,o⟩|⟨b,cur,h1,h2,q,n,o,B,D⟩
 ·have:l=[]:=cg h2;subst this;simp only[Tr.val,h1,n,o];exact .slice0 (ct _)
 ·simp only[Tr.val,h1,h2,dn];cases hl:l with
  |nil=>exact .slice0 (by omega)
  |cons F G=>
   rw[<-hl];have key:∀(i j:Nat) (e:List V) (dd:V),(l.map (U.enc τ))[i]? =some e->e[j]? =some dd->∃u,xs[i*U.K τ+j]? =some u/\Rd w Z [] u dd:=λi j e dd k1 k2=>by
    rw[bq] at k1;cases p:l[i]? with
    |none=>simp[p] at k1
    |some z=>
     simp only[p,dn,ai] at k1;subst k1;obtain⟨l1,l2,H,I,y,A⟩:=aJh (C.hlen τ) p;rw[<-C.hcel,bq] at k2;cases h:(C.cel τ z)[j]? with
     |none=>simp[h] at k2
     |some x=>
      simp only[h,dn,ai] at k2;subst k2;have d:(l.map (C.cel τ)).flatten[i*U.K τ+j]? =some x:=by rw[y,<-A,az (di _ _),cL,av (bj.1 h).1];exact h
      have f:i*U.K τ+j<xs.length:=by rw[k];exact(bj.1 d).1
      exact⟨_,ab f,c.2 _ _ _ (ab f) d⟩
   refine .slice (val:=λi j=>xs.getD (i*U.K τ+j) undef) (by simp) (by simp[hl]) q n (r b (Tr.root h1)) (ca.1 o).1 (λe he=> ?_) (λi j e dd k1 k2=> ?_) (λi j e dd k1 k2=> ?_)
   ·obtain⟨z,_,rfl⟩:=cq.1 he;rw[<-C.hcel,bf,C.hlen]
   ·obtain⟨u,k3,k4⟩:=key i j e dd k1 k2;rw[uV hown h1 k3];simp[List.getD,k3]
   ·obtain⟨u,k3,k4⟩:=key i j e dd k1 k2;simp only[List.getD,k3,cJ];exact k4
mutual
def Ow.rd {w:World}{X Z:Nat->Prop}{d:Bool}(hZ:∀b,Z b->X b):∀{v:Value} {x:Lf U} {B:List Nat},Ow C w X d v x B->(∀b∈B,¬Z b)->Rd w Z [] v x.toV
 |_,_,_, .int h1 h2,_=> .int h1 h2
 |_,_,_, .bool,_=> .bool
 |_,_,_, .str h,_=> .str h
 |_,_,_, .fz hd h,_=>h.conv (ak _) (λb _ hb=>hZ b hb) (λ_ _ _ h=>h) (λ_ _ h=>h)
 |_,_,_, .sl t hk hown hc,hh=>bRx t hown hh (OwL.rd hZ hc (λb hb=>hh b (by simp[Tr.all,hb])))
 |_,_,_, .su (τ:=τ) (l:=l) hd t q hk hq hown hc,hh=>by
  have h:=bRx t hown hh (OwL.rd hZ hc (λb hb=>hh b (by simp[Tr.all,hb])));have hn:t.n=l.length:=by rcases fA hown with⟨_,h2,_,h4,_⟩|⟨_,_,_,h2,_⟩<;>omega
  have:=Rd.sub (show Rd w Z [] (.slice (t.b.map λb=>⟨b,0,none⟩) t.n t.c) (.slice (U.K τ) (l.map (U.enc τ))) from h) (a:=q) (b:=l.length) hq (by rw[bf];exact ak _);rw[dT (by rw[bf];exact ak _),<-fp] at this;exact this
def OwL.rd {w:World}{X Z:Nat->Prop}{d:Bool}(hZ:∀b,Z b->X b):∀{vs:List Value} {xs:List (Lf U)} {B:List Nat},OwL C w X d vs xs B->(∀b∈B,¬Z b)->vs.length=xs.length/\∀(i:Nat) (v:Value) (x:Lf U),vs[i]? =some v->xs[i]? =some x->Rd w Z [] v x.toV
 |_,_,_, .n,_=>by simp
 |_,_,_, .c h hr,hh=>by
  have ih:=OwL.rd hZ hr (λb hb=>hh b (by simp[hb]));have h0:=Ow.rd hZ h (λb hb=>hh b (by simp[hb]));refine⟨by simp[ih.1],λi v x h1 h2=> ?_⟩;cases i with
  |zero=>simp at h1 h2;subst h1;subst h2;exact h0
  |succ i=>exact ih.2 i v x (by simpa using h1) (by simpa using h2)
end
end Go.EV
namespace Go.EV
open Go.RowKit Go.VK
variable {U:Uni} {C:Cod U}
def Lf.mean (C:Cod U)(w:World)(X:Nat->Prop)(β:List Tr)(s:Mm U)(v:Value):Lf U->Prop
 | .int kd n=>v= .int kd n/\kd.min<=n/\n<=kd.max
 | .bool b=>v= .bool b
 | .str z=>v= .string z/\z.size<=maxLen
 | .nat a=>∃i f,s.ns[a]? =some (i,f)/\v= .int .i64 (i:Int)/\(i:Int)<=9223372036854775807
 | .lt a m=>∃i f,s.ns[a]? =some (i,f)/\v= .bool (decide ((i:Int)<m))/\m<=9223372036854775807
 | .sl τ l=>Rd w X [] v (.slice (U.K τ) (l.map (U.enc τ)))
 | .nil=>v= .slice none 0 0
 | .own i r=>(r<=s.k/\v.oneCell'=true)/\∃e t,s.o[i]? =some e/\β[i]? =some t/\(e.rv=r->v=t.val)
 | .bor i c τ l=>(c<=s.k/\v.oneCell'=true)/\∃e t,s.o[i]? =some e/\β[i]? =some t/\(e.cv=c->Rd w (λb=>X b/\b∉t.all) [] v (.slice (U.K τ) (l.map (U.enc τ))))
 | .inn i c τ q z j τ' l=>(c<=s.k/\v.oneCell'=true)/\∃e t,s.o[i]? =some e/\β[i]? =some t/\(e.cv=c->∃d L xs,e.ob= .tree τ d L/\0<=q/\L[q.toNat]? =some z/\(C.cel τ z)[j]? =some (.sl τ' l)/\w.ownsRow 0 τ (U.K τ) t.val L.length xs/\xs[q.toNat*U.K τ+j]? =some v)
 | .box i off=>v.oneCell'=true/\∃e t,s.o[i]? =some e/\β[i]? =some t/\(e.ob.aAX=true->∃b,t.b=some b/\v= .pointer (some ⟨b,off,none⟩))
 | .ptr τ z off=>Rd w X [] v (.elem ((U.enc τ z).drop off))
 | .oel i c τ q z off=>(c<=s.k/\v.oneCell'=true)/\∃e t,s.o[i]? =some e/\β[i]? =some t/\(e.cv=c->∃d L b,e.ob= .tree τ d L/\0<=q/\L[q.toNat]? =some z/\t.b=some b/\v= .pointer (some ⟨b,q.toNat*U.K τ+off,none⟩))
 | .oin i c τ q z j τ' l q' z' off=>(c<=s.k/\v.oneCell'=true)/\∃e t,s.o[i]? =some e/\β[i]? =some t/\(e.cv=c->∃L xs v0 b h p,e.ob= .tree τ true L/\0<=q/\L[q.toNat]? =some z/\(C.cel τ z)[j]? =some (.sl τ' l)/\w.ownsRow 0 τ (U.K τ) t.val L.length xs/\xs[q.toNat*U.K τ+j]? =some v0/\v0= .slice (some ⟨b,0,none⟩) h p/\0<=q'/\l[q'.toNat]? =some z'/\v= .pointer (some ⟨b,q'.toNat*U.K τ'+off,none⟩))
 | .suf i c τ q l=>(c<=s.k/\v.oneCell'=true)/\∃e t,s.o[i]? =some e/\β[i]? =some t/\(e.cv=c->∃d,e.ob= .tree τ d l/\0<=q/\q.toNat<=l.length/\v=aU6 (U.K τ) t q.toNat l.length)
 | .und=>v=undef
 | .any=>True
def Ms (C:Cod U)(w:World)(X:Nat->Prop)(β:List Tr)(s:Mm U)(vs:List Value)(cs:List (Lf U)):Prop:=
 vs.length=cs.length/\∀(i:Nat) (v:Value) (c:Lf U),vs[i]? =some v->cs[i]? =some c->c.mean C w X β s v
def Mp (C:Cod U)(w:World)(X:Nat->Prop)(β:List Tr)(s:Mm U)(v:Value):Bool×List (Lf U)->Prop
 |(false,cs)=>∃c,cs=[c]/\c.mean C w X β s v
 |(true,cs)=>∃vs:List Value,v= .agg vs.toArray/\Ms C w X β s vs cs
def Sv.mean (C:Cod U)(w:World)(X:Nat->Prop)(β:List Tr)(s:Mm U)(v:Value):Sv U->Prop
 | .l x=>x.mean C w X β s v
 | .a cs=>∃vs:List Value,v= .agg vs.toArray/\Ms C w X β s vs cs
 | .t xs=>∃vs:List Value,v= .tuple vs.toArray/\vs.length=xs.length/\∀(i:Nat) (v:Value) (x:Bool×List (Lf U)),vs[i]? =some v->xs[i]? =some x->Mp C w X β s v x
def Lf.bd (N M K:Nat):Lf U->Prop
 | .own i r=>i<N/\r<=K
 | .bor i c _ _=>i<N/\c<=K
 | .inn i c _ _ _ _ _ _=>i<N/\c<=K
 | .box i _=>i<N
 | .oel i c _ _ _ _=>i<N/\c<=K
 | .oin i c _ _ _ _ _ _ _ _ _=>i<N/\c<=K
 | .suf i c _ _ _=>i<N/\c<=K
 | .nat a=>a<M
 | .lt a _=>a<M
 |_=>True
def Sv.bd (N M K:Nat):Sv U->Prop
 | .l x=>x.bd N M K
 | .a cs=>∀c∈cs,c.bd N M K
 | .t xs=>∀x∈xs,∀c∈x.2,c.bd N M K
structure Evo (w w':World) (X X':Nat->Prop) (β β':List Tr) (s s':Mm U) (N M K:Nat):Prop where
 sz:w.heap.size<=w'.heap.size
 hX:∀b,b<w.heap.size->X' b->X b
 hc:∀(p:Addr) (u:Value),¬X p.block->w.cell? p=some u->w'.cell? p=some u
 hk:K<=s'.k
 hn:∀(a i:Nat) (f:Bool),a<M->s.ns[a]? =some (i,f)->∃f',s'.ns[a]? =some (i,f')
 ho:∀(i:Nat) (e:EO U) (t:Tr),i<N->s.o[i]? =some e->β[i]? =some t->∃e' t',s'.o[i]? =some e'/\β'[i]? =some t'/\(e'.rv<=K->e'.rv=e.rv/\t'.val=t.val)/\
  (e'.cv<=K->e'.cv=e.cv/\e'.ob=e.ob/\t'=t/\∀b∈t.all,w'.heap[b]? =w.heap[b]?)/\(e'.ob.aAX=true->e.ob.aAX=true/\t'.b=t.b)
section
variable {w w':World} {X X':Nat->Prop} {β β':List Tr} {s s':Mm U} {N M K:Nat}
theorem lt_of_some {α:Type}{l:List α}{i:Nat}{x:α}(h:l[i]? =some x):i<l.length:=(bj.1 h).1
def Lf.aBD {v:Value}{x:Lf U}(hm:x.mean C w X β s v):x.bd s.o.length s.ns.length s.k:=by
 cases x with
 |own i r=>obtain⟨h1,e,t,h2,_⟩:=hm;exact⟨lt_of_some h2,h1.1⟩
 |bor i c τ l=>obtain⟨h1,e,t,h2,_⟩:=hm;exact⟨lt_of_some h2,h1.1⟩
 |inn i c τ q z j τ' l=>obtain⟨h1,e,t,h2,_⟩:=hm;exact⟨lt_of_some h2,h1.1⟩
 |oel i c τ q z off=>obtain⟨h1,e,t,h2,_⟩:=hm;exact⟨lt_of_some h2,h1.1⟩
 |oin i c τ q z j τ' l q' z' off=>obtain⟨h1,e,t,h2,_⟩:=hm;exact⟨lt_of_some h2,h1.1⟩
 |suf i c τ q l=>obtain⟨h1,e,t,h2,_⟩:=hm;exact⟨lt_of_some h2,h1.1⟩
 |box i off=>obtain⟨_,e,t,h2,_⟩:=hm;exact lt_of_some h2
 |nat a=>obtain⟨i,f,h2,_⟩:=hm;exact lt_of_some h2
 |lt a m=>obtain⟨i,f,h2,_⟩:=hm;exact lt_of_some h2
 |_=>trivial
theorem Ms.bd {vs:List Value}{cs:List (Lf U)}(hm:Ms C w X β s vs cs):∀c∈cs,c.bd s.o.length s.ns.length s.k:=λc hc=>by
 obtain⟨i,hi⟩:=cP.1 hc;have hl:i<vs.length:=by rw[hm.1];exact lt_of_some hi
 exact Lf.aBD (hm.2 i _ c (ab hl) hi)
def Sv.aBD {v:Value}{x:Sv U}(hm:x.mean C w X β s v):x.bd s.o.length s.ns.length s.k:=by
 cases x with
 |l x=>exact Lf.aBD hm
 |a cs=>obtain⟨vs,_,h⟩:=hm;exact h.bd
 |t xs=>
  obtain⟨vs,_,h2,d⟩:=hm;intro x e c hc;obtain⟨i,hi⟩:=cP.1 e;have hl:i<vs.length:=by rw[h2];exact lt_of_some hi
  have:=d i _ x (ab hl) hi;obtain⟨b,cs⟩:=x;cases b with
  |false=>obtain⟨f,rfl,h⟩:=this;simp at hc;subst hc;exact Lf.aBD h
  |true=>obtain⟨vs,_,h⟩:=this;exact h.bd c hc
def Lf.aAY (h:Evo w w' X X' β β' s s' N M K){v:Value}{x:Lf U}(hb:x.bd N M K)(hm:x.mean C w X β s v):x.mean C w' X' β' s' v:=by
 cases x with
 |int=>exact hm
 |bool=>exact hm
 |str=>exact hm
 |nil=>exact hm
 |nat a=>obtain⟨i,f,h1,h2⟩:=hm;obtain⟨f',k⟩:=h.hn a i f hb h1;exact⟨i,f',k,h2⟩
 |lt a m=>obtain⟨i,f,h1,h2⟩:=hm;obtain⟨f',k⟩:=h.hn a i f hb h1;exact⟨i,f',k,h2⟩
 |und=>exact hm
 |any=>trivial
 |sl τ l=>exact Rd.conv hm h.sz h.hX h.hc (λ_ _ h=>h)
 |ptr τ z off=>exact Rd.conv hm h.sz h.hX h.hc (λ_ _ h=>h)
 |own i r=>obtain⟨h1,e,t,h2,k,n⟩:=hm;obtain⟨e',t',o,y,A,_⟩:=h.ho i e t hb.1 h2 k;refine⟨⟨bm hb.2 h.hk,h1.2⟩,e',t',o,y,λhr=> ?_⟩;obtain⟨q1,q2⟩:=A (hr▸hb.2);rw[q2];exact n (q1.symm.trans hr)
 |bor i c τ l=>
  obtain⟨h1,e,t,h2,k,n⟩:=hm;obtain⟨e',t',o,y,_,A,_⟩:=h.ho i e t hb.1 h2 k;refine⟨⟨bm hb.2 h.hk,h1.2⟩,e',t',o,y,λhr=> ?_⟩;obtain⟨q1,_,q3,q4⟩:=A (hr▸hb.2);subst q3;refine(n (q1.symm.trans hr)).conv h.sz (λb hb ⟨k1,k2⟩=>⟨h.hX b hb k1,k2⟩) (λp u hp hc=> ?_) (λ_ _ h=>h);by_cases J:X p.block
  ·have:p.block∈t'.all:=Classical.byContradiction λhn=>hp ⟨J,hn⟩;rw[World.cell?_of_block (q4 _ this)];exact hc
  ·exact h.hc p u J hc
 |inn i c τ q z j τ' l=>obtain⟨h1,e,t,h2,k,n⟩:=hm;obtain⟨e',t',o,y,_,A,_⟩:=h.ho i e t hb.1 h2 k;refine⟨⟨bm hb.2 h.hk,h1.2⟩,e',t',o,y,λhr=> ?_⟩;obtain⟨q1,q2,q3,q4⟩:=A (hr▸hb.2);subst q3;obtain⟨d,L,xs,B,D,F,G,H,I⟩:=n (q1.symm.trans hr);exact⟨d,L,xs,q2.trans B,D,F,G,qU H (λb hb=>q4 b (Tr.root hb)),I⟩
 |box i off=>obtain⟨h1,e,t,h2,k,n⟩:=hm;obtain⟨e',t',o,y,_,_,A⟩:=h.ho i e t hb h2 k;refine⟨h1,e',t',o,y,λhr=> ?_⟩;obtain⟨q1,q2⟩:=A hr;rw[q2];exact n q1
 |oel i c τ q z off=>obtain⟨h1,e,t,h2,k,n⟩:=hm;obtain⟨e',t',o,y,_,A,_⟩:=h.ho i e t hb.1 h2 k;refine⟨⟨bm hb.2 h.hk,h1.2⟩,e',t',o,y,λhr=> ?_⟩;obtain⟨q1,q2,q3,q4⟩:=A (hr▸hb.2);subst q3;obtain⟨d,L,b,B,D⟩:=n (q1.symm.trans hr);exact⟨d,L,b,q2.trans B,D⟩
 |suf i c τ q l=>obtain⟨h1,e,t,h2,k,n⟩:=hm;obtain⟨e',t',o,y,_,A,_⟩:=h.ho i e t hb.1 h2 k;refine⟨⟨bm hb.2 h.hk,h1.2⟩,e',t',o,y,λhr=> ?_⟩;obtain⟨q1,q2,q3,q4⟩:=A (hr▸hb.2);subst q3;obtain⟨d,B,D⟩:=n (q1.symm.trans hr);exact⟨d,q2.trans B,D⟩
 |oin i c τ q z j τ' l q' z' off=>obtain⟨h1,e,t,h2,k,n⟩:=hm;obtain⟨e',t',o,y,_,A,_⟩:=h.ho i e t hb.1 h2 k;refine⟨⟨bm hb.2 h.hk,h1.2⟩,e',t',o,y,λhr=> ?_⟩;obtain⟨q1,q2,q3,q4⟩:=A (hr▸hb.2);subst q3;obtain⟨L,xs,v0,b,O,Q,B,D,F,G,H,I⟩:=n (q1.symm.trans hr);exact⟨L,xs,v0,b,O,Q,q2.trans B,D,F,G,qU H (λb hb=>q4 b (Tr.root hb)),I⟩
def Ms.evo (h:Evo w w' X X' β β' s s' N M K){vs:List Value}{cs:List (Lf U)}(hb:∀c∈cs,c.bd N M K)(hm:Ms C w X β s vs cs):Ms C w' X' β' s' vs cs:=
 ⟨hm.1,λi v c h1 h2=>Lf.aAY h (hb c (aE h2)) (hm.2 i v c h1 h2)⟩
def Mp.evo (h:Evo w w' X X' β β' s s' N M K){v:Value}{x:Bool×List (Lf U)}(hb:∀c∈x.2,c.bd N M K)(hm:Mp C w X β s v x):Mp C w' X' β' s' v x:=by
 obtain⟨b,cs⟩:=x;cases b with
 |false=>obtain⟨c,rfl,h2⟩:=hm;exact⟨c,rfl,Lf.aAY h (hb c (by simp)) h2⟩
 |true=>obtain⟨vs,h1,h2⟩:=hm;exact⟨vs,h1,h2.evo h hb⟩
def Sv.aAY (h:Evo w w' X X' β β' s s' N M K){v:Value}{x:Sv U}(hb:x.bd N M K)(hm:x.mean C w X β s v):x.mean C w' X' β' s' v:=by
 cases x with
 |l x=>exact Lf.aAY h hb hm
 |a cs=>obtain⟨vs,h1,h2⟩:=hm;exact⟨vs,h1,h2.evo h hb⟩
 |t xs=>obtain⟨vs,h1,h2,c⟩:=hm;exact⟨vs,h1,h2,λi v x a b=>(c i v x a b).evo h (hb x (aE b))⟩
def Sv.aAV (h:Evo w w' X X' β β' s s' s.o.length s.ns.length s.k){v:Value}{x:Sv U}(hm:x.mean C w X β s v):x.mean C w' X' β' s' v:=Sv.aAY h (Sv.aBD hm) hm
def Lf.aAV (h:Evo w w' X X' β β' s s' s.o.length s.ns.length s.k){v:Value}{x:Lf U}(hm:x.mean C w X β s v):x.mean C w' X' β' s' v:=Lf.aAY h (Lf.aBD hm) hm
def Ms.go (h:Evo w w' X X' β β' s s' s.o.length s.ns.length s.k){vs:List Value}{cs:List (Lf U)}(hm:Ms C w X β s vs cs):Ms C w' X' β' s' vs cs:=Ms.evo h hm.bd hm
end
structure Bel (Y:Nat->Prop) (w w':World):Prop where
 os:w'.os=w.os
 tape:w'.tape=w.tape
 output:w'.output=w.output
 size:w.heap.size<=w'.heap.size
 block:∀b,b<w.heap.size->¬Y b->w'.heap[b]? =w.heap[b]?
def Bel.refl {Y:Nat->Prop}(w:World):Bel Y w w:=⟨rfl,rfl,rfl,ak _,λ_ _ _=>rfl⟩
theorem Bel.trans {Y:Nat->Prop}{a b c:World}(h:Bel Y a b)(k:Bel Y b c):Bel Y a c:=
 ⟨k.os.trans h.os,k.tape.trans h.tape,k.output.trans h.output,bm h.size k.size,λi hi d=>(k.block i (bz hi h.size) d).trans (h.block i hi d)⟩
def Bel.aBL {w w':World}(h:Ext w w'){Y:Nat->Prop}:Bel Y w w':=⟨h.os,h.tape,h.output,h.size,λb hb _=>h.block b hb⟩
def Bel.ext {w w':World}{Y:Nat->Prop}(h:Bel Y w w')(c:∀b,¬Y b):Ext w w':=⟨h.os,h.tape,h.output,h.size,λb hb=>h.block b hb (c b)⟩
structure Env (U:Uni) (g:GI) where
 X0:Nat->Prop
 Y0:Nat->Prop
 w0:World
 /--Blocks that were made ahead of their step:nobody touches them. -/
 prm:List (Nat×Obj)
 /--Moments to which one looks back:as long as nothing has turned that was there,all of it stays. -/
 fr:List (World×Nat×Nat)
 h0:∀b,X0 b->b<w0.heap.size\/∃x∈prm,x.1=b
 hY:∀b,Y0 b->b<w0.heap.size
 hXY:∀b,X0 b->¬Y0 b
 hg:∀w,Bel Y0 w0 w->g.G w
 pin:List (Sv U×Value)
variable {g:GI}
def Env.X (E:Env U g)(β:List Tr)(b:Nat):Prop:=E.X0 b\/E.Y0 b\/∃t∈β,b∈t.all
def Ob.ok (C:Cod U)(w:World)(X:Nat->Prop)(β:List Tr)(s:Mm U)(t:Tr):Ob U->Prop
 | .dead=>True
 | .box T cs c=>cs.length=c.length/\∃b vs,t.b=some b/\t.bs=[]/\w.heap[b]? =some (.cells vs.toArray T (0,0))/\Ms C w X β s vs cs
 | .tree τ d l=>0<U.K τ/\∃xs,w.ownsRow 0 τ (U.K τ) t.val l.length xs/\OwL C w X d xs (l.map (C.cel τ)).flatten t.bs
structure Hp (C:Cod U) (E:Env U g) (s:Mm U) (β:List Tr) (w:World):Prop where
 ext:Bel E.Y0 E.w0 w
 len:β.length=s.o.length
 vers:∀(i:Nat) (e:EO U),s.o[i]? =some e->e.rv<=s.k/\e.cv<=s.k
 cnt:∀(a i:Nat),s.ns[a]? =some (i,true)->(i:Int)+1<=9223372036854775807
 new:∀(i:Nat) (t:Tr) (b:Nat),β[i]? =some t->b∈t.all->(E.w0.heap.size<=b\/E.Y0 b)/\b<w.heap.size
 dist:∀(i j:Nat) (t u:Tr) (b:Nat),i≠j->β[i]? =some t->β[j]? =some u->b∈t.all->b∉u.all
 nd:∀(i:Nat) (t:Tr),β[i]? =some t->t.all.Nodup
 ok:∀(i:Nat) (t:Tr) (e:EO U),β[i]? =some t->s.o[i]? =some e->e.ob.ok C w (E.X β) β s t
 pin:∀x∈E.pin,x.1.mean C w (E.X β) β s x.2
 prm:∀x∈E.prm,E.w0.heap.size<=x.1/\w.heap[x.1]? =some x.2/\(∀f∈E.fr,f.1.heap.size<=x.1)/\∀(i:Nat) (t:Tr),β[i]? =some t->x.1∉t.all
 fr:∀f∈E.fr,f.2.1<=s.o.length/\f.2.2<=s.k/\f.1.heap.size<=w.heap.size/\((∃(j:Nat) (e:EO U),j<f.2.1/\s.o[j]? =some e/\f.2.2<e.cv)\/(Ext f.1 w/\∀(i:Nat) (t:Tr) (b:Nat),f.2.1<=i->β[i]? =some t->b∈t.all->f.1.heap.size<=b))
section
variable {E:Env U g} {s s':Mm U} {β β':List Tr} {w w':World}
def Hp.gw (H:Hp C E s β w):g.G w:=E.hg w H.ext
def Hp.aCB (H:Hp C E s β w)(b:Nat)(h:E.X β b):b<w.heap.size:=by
 rcases h with h|h|⟨t,ht,hb⟩
 ·rcases E.h0 b h with h|⟨x,c,rfl⟩
  ·exact bz h H.ext.size
  ·exact(ca.1 (H.prm x c).2.1).1
 ·exact bz (E.hY b h) H.ext.size
 ·obtain⟨i,hi⟩:=cP.1 ht;exact(H.new i t b hi hb).2
def Hp.tr (H:Hp C E s β w){i:Nat}{e:EO U}(h:s.o[i]? =some e):∃t,β[i]? =some t:=
 ⟨_,ab (by rw[H.len];exact(bj.1 h).1)⟩
def Ob.aBE {X X':Nat->Prop}(h:Evo w w' X X' β β' s s' s.o.length s.ns.length s.k){t:Tr}{x:Ob U}(c:x.ok C w X β s t)(e:∀b∈t.all,w'.heap[b]? =w.heap[b]?):x.ok C w' X' β' s' t:=by
 cases x with
 |dead=>trivial
 |box T cs j=>obtain⟨h0,b,vs,h1,h2,f,i⟩:=c;exact⟨h0,b,vs,h1,h2,by rw[e b (Tr.root h1)];exact f,i.go h⟩
 |tree τ d l=>obtain⟨h1,xs,h2,f⟩:=c;exact⟨h1,xs,qU h2 (λb hb=>e b (Tr.root hb)),f.conv h.sz h.hX h.hc (λb hb=>e b (by simp[Tr.all,hb]))⟩
def Hp.step (H:Hp C E s β w)(I D:Nat->Prop)(hk:s.k<=s'.k)(hn:∀(a i:Nat) (f:Bool),s.ns[a]? =some (i,f)->∃f',s'.ns[a]? =some (i,f'))(R:∀(a i:Nat),s'.ns[a]? =some (i,true)->(i:Int)+1<=9223372036854775807)(hlen:β'.length=s'.o.length)(hge:s.o.length<=s'.o.length)(hsz:w.heap.size<=w'.heap.size)(S:w'.os=w.os)(z:w'.tape=w.tape)(G:w'.output=w.output)
  (n:∀b,b<w.heap.size->¬D b->w'.heap[b]? =w.heap[b]?) (T:∀b,D b->∃i t,I i/\β[i]? =some t/\b∈t.all)
  (c:∀i,¬I i->i<s.o.length->s'.o[i]? =s.o[i]? /\β'[i]? =β[i]?)
  (v:∀(j:Nat) (t:Tr) (b:Nat),(I j\/s.o.length<=j)->β'[j]? =some t->b∈t.all->b<w'.heap.size/\(w.heap.size<=b\/∃i u,I i/\β[i]? =some u/\b∈u.all))
  (J:∀(i j:Nat) (t u:Tr) (b:Nat),(I i\/s.o.length<=i)->(I j\/s.o.length<=j)->i≠j->β'[i]? =some t->β'[j]? =some u->b∈t.all->b∉u.all)
  (hnd:∀(j:Nat) (t:Tr),(I j\/s.o.length<=j)->β'[j]? =some t->t.all.Nodup)
  (V:∀(j:Nat) (e:EO U),(I j\/s.o.length<=j)->s'.o[j]? =some e->e.rv<=s'.k/\e.cv<=s'.k)
  (hI:∀(i:Nat) (e e':EO U) (t t':Tr),I i->s.o[i]? =some e->s'.o[i]? =some e'->β[i]? =some t->β'[i]? =some t'->(e'.rv<=s.k->e'.rv=e.rv/\t'.val=t.val)/\s.k<e'.cv/\(e'.ob.aAX=true->e.ob.aAX=true/\t'.b=t.b))
  (hok:Evo w w' (E.X β) (E.X β') β β' s s' s.o.length s.ns.length s.k->∀(j:Nat) (t:Tr) (e:EO U),(I j\/s.o.length<=j)->β'[j]? =some t->s'.o[j]? =some e->e.ob.ok C w' (E.X β') β' s' t):
  Hp C E s' β' w'/\Evo w w' (E.X β) (E.X β') β β' s s' s.o.length s.ns.length s.k:=by
 have d:∀j,(I j\/s.o.length<=j)\/(¬I j/\j<s.o.length):=λj=>by
  by_cases h:I j
  ·exact .inl (.inl h)
  ·by_cases h2:s.o.length<=j
   ·exact .inl (.inr h2)
   ·exact .inr ⟨h,by omega⟩
 have hX:∀b,b<w.heap.size->E.X β' b->E.X β b:=by
  rintro b hb (h|h|⟨t,ht,F⟩)
  ·exact .inl h
  ·exact .inr (.inl h)
  ·obtain⟨j,hj⟩:=cP.1 ht;rcases d j with hc|⟨hn,hl⟩
   ·rcases(v j t b hc hj F).2 with h|⟨i,u,_,r,l⟩
    ·omega
    ·exact .inr (.inr ⟨u,aE r,l⟩)
   ·rw[(c j hn hl).2] at hj;exact .inr (.inr ⟨t,aE hj,F⟩)
 have hDX:∀b,D b->E.X β b:=λb hb=>by
  obtain⟨i,t,_,h2,L⟩:=T b hb;exact .inr (.inr ⟨t,aE h2,L⟩)
 have A:∀(i:Nat) (t:Tr),¬I i->β[i]? =some t->∀b∈t.all,w'.heap[b]? =w.heap[b]? :=λi t hi ht b hb=>
  n b (H.new i t b ht hb).2 (λhd=>by
   obtain⟨j,u,hj,r,l⟩:=T b hd;exact H.dist i j t u b (λe=>hi (e▸hj)) ht r hb l)
 have y:Evo w w' (E.X β) (E.X β') β β' s s' s.o.length s.ns.length s.k:=by
  refine⟨hsz,hX,λp u hp hc=> ?_,hk,λa i f _ h=>hn a i f h,λi e t _ he ht=> ?_⟩
  ·have O:=World.block_lt_of_cell? w p hc;rw[World.cell?_of_block (n p.block O (λhd=>hp (hDX _ hd)))];exact hc
  ·have Q:i<s.o.length:=(bj.1 he).1;by_cases hi:I i
   ·have h1:s'.o[i]? =some (s'.o[i]'(by omega)):=ab _;have h2:β'[i]? =some (β'[i]'(by omega)):=ab _;obtain⟨q1,q2,q3⟩:=hI i e _ t _ hi he h1 ht h2;exact⟨_,_,h1,h2,q1,λhc=>absurd hc (by omega),q3⟩
   ·obtain⟨h1,h2⟩:=c i hi Q;exact⟨e,t,h1.trans he,h2.trans ht,λ_=>⟨rfl,rfl⟩,λ_=>⟨rfl,rfl,rfl,A i t hi ht⟩,λh=>⟨h,rfl⟩⟩
 refine⟨⟨?_,hlen,?_,R,?_,?_,?_,?_,λx W=>Sv.aAV y (H.pin x W),λx W=> ?_,λf hf=> ?_⟩,y⟩
 ·refine⟨S.trans H.ext.os,z.trans H.ext.tape,G.trans H.ext.output,bm H.ext.size hsz,λb hb hy=> ?_⟩;rw[n b (bz hb H.ext.size) (λhd=>by
   obtain⟨i,t,_,h2,L⟩:=T b hd;rcases(H.new i t b h2 L).1 with h|h
   ·omega
   ·exact hy h)]
  exact H.ext.block b hb hy
 ·intro j e he;rcases d j with hc|⟨hn,hl⟩
  ·exact V j e hc he
  ·rw[(c j hn hl).1] at he;have:=H.vers j e he;omega
 ·intro j t b ht hb;rcases d j with hc|⟨hn,hl⟩
  ·obtain⟨h1,h2⟩:=v j t b hc ht hb;refine⟨?_,h1⟩;rcases h2 with h|⟨i,u,_,r,l⟩
   ·have:=H.ext.size;exact .inl (by omega)
   ·exact(H.new i u b r l).1
  ·rw[(c j hn hl).2] at ht;have:=H.new j t b ht hb;exact⟨this.1,by omega⟩
 ·intro i j t u b B ht r hb l;have aux:∀(i j:Nat) (t u:Tr),i≠j->(I i\/s.o.length<=i)->(¬I j/\j<s.o.length)->β'[i]? =some t->β[j]? =some u->b∈t.all->b∈u.all->False:=by
   intro i j t u B hi hj ht r hb l;rcases(v i t b hi ht hb).2 with h|⟨q,x,hq,W,hxb⟩
   ·have:=(H.new j u b r l).2;omega
   ·exact H.dist q j x u b (λe=>hj.1 (e▸hq)) W r hxb l
  rcases d i with hi|hi<;>rcases d j with hj|hj
  ·exact J i j t u b hi hj B ht r hb l
  ·rw[(c j hj.1 hj.2).2] at r;exact aux i j t u B hi hj ht r hb l
  ·rw[(c i hi.1 hi.2).2] at ht;exact aux j i u t (Ne.symm B) hj hi r ht l hb
  ·rw[(c i hi.1 hi.2).2] at ht;rw[(c j hj.1 hj.2).2] at r;exact H.dist i j t u b B ht r hb l
 ·intro j t ht;rcases d j with hc|⟨hn,hl⟩
  ·exact hnd j t hc ht
  ·rw[(c j hn hl).2] at ht;exact H.nd j t ht
 ·intro j t e ht he;rcases d j with hc|⟨hn,hl⟩
  ·exact hok y j t e hc ht he
  ·obtain⟨h1,h2⟩:=c j hn hl;rw[h1] at he;rw[h2] at ht;exact Ob.aBE y (H.ok j t e ht he) (A j t hn ht)
 ·obtain⟨h1,h2,L,h4⟩:=H.prm x W;have O:x.1<w.heap.size:=(ca.1 h2).1;refine⟨h1,(n x.1 O λhd=> ?_).trans h2,L,λj t ht hb=> ?_⟩
  ·obtain⟨i,u,_,r,l⟩:=T _ hd;exact h4 i u r l
  ·rcases d j with hc|⟨hn,hl⟩
   ·rcases(v j t _ hc ht hb).2 with h|⟨i,u,_,r,l⟩
    ·omega
    ·exact h4 i u r l
   ·rw[(c j hn hl).2] at ht;exact h4 j t ht hb
 ·obtain⟨h1,h2,h0,L⟩:=H.fr f hf;refine⟨bm h1 hge,bm h2 hk,bm h0 hsz,?_⟩;have turned:∀i,I i->i<f.2.1->∃(j:Nat) (e:EO U),j<f.2.1/\s'.o[j]? =some e/\f.2.2<e.cv:=λi hi hl=>by
   have Q:i<s.o.length:=bz hl h1;have g1:s.o[i]? =some s.o[i]:=ab Q;have g2:s'.o[i]? =some (s'.o[i]'(by omega)):=ab _;obtain⟨t,g3⟩:=H.tr g1;have g4:β'[i]? =some (β'[i]'(by omega)):=ab _;have:=(hI i _ _ t _ hi g1 g2 g3 g4).2.1;exact⟨i,_,hl,g2,by omega⟩
  rcases L with⟨j,e,q1,q2,q3⟩|⟨q1,q2⟩
  ·by_cases hj:I j
   ·exact .inl (turned j hj q1)
   ·exact .inl ⟨j,e,q1,by rw[(c j hj (lt_of_some q2)).1];exact q2,q3⟩
  ·by_cases Z:∃i,I i/\i<f.2.1
   ·obtain⟨i,hi,hl⟩:=Z;exact .inl (turned i hi hl)
   ·have hno:∀i,I i->f.2.1<=i:=λi hi=>Nat.le_of_not_lt λhl=>Z ⟨i,hi,hl⟩;refine .inr ⟨⟨S.trans q1.os,z.trans q1.tape,G.trans q1.output,bm q1.size hsz,λb hb=> ?_⟩,λj t b hj ht hb=> ?_⟩
    ·rw[n b (bz hb q1.size) (λhd=>by
      obtain⟨i,t,hi,ht,F⟩:=T b hd;have:=q2 i t b (hno i hi) ht F;omega)]
     exact q1.block b hb
    ·rcases d j with hc|⟨hn,hl⟩
     ·rcases(v j t b hc ht hb).2 with h|⟨i,u,hi,r,l⟩
      ·exact bm q1.size h
      ·exact q2 i u b (hno i hi) r l
     ·rw[(c j hn hl).2] at ht;exact q2 j t b hj ht hb
end
end Go.EV
namespace Go.EV
open Go.RowKit Go.VK
noncomputable section
def nth {α:Type}(l:List α):Nat->Option α:=List.rec (motive:=λ_=>Nat->Option α) (λ_=>none) (λx _ b n=>Nat.rec (motive:=λ_=>Option α) (some x) (λm _=>b m) n) l
def upd {α:Type}(l:List α):Nat->α->List α:=List.rec (motive:=λ_=>Nat->α->List α) (λ_ _=>[]) (λx t b n y=>Nat.rec (motive:=λ_=>List α) (y::t) (λm _=>x::b m y) n) l
def drp {α:Type}(l:List α):Nat->List α:=List.rec (motive:=λ_=>Nat->List α) (λ_=>[]) (λx t b n=>Nat.rec (motive:=λ_=>List α) (x::t) (λm _=>b m) n) l
def tk {α:Type}(l:List α):Nat->List α:=List.rec (motive:=λ_=>Nat->List α) (λ_=>[]) (λx _ b n=>Nat.rec (motive:=λ_=>List α) [] (λm _=>x::b m) n) l
def len {α:Type}(l:List α):Nat:=List.rec (motive:=λ_=>Nat) 0 (λ_ _ b=>Nat.succ b) l
def jV {α:Type}(l:List (Nat×α))(n:Nat):Option α:=List.rec (motive:=λ_=>Option α) none (λx _ b=>cond (Nat.beq x.1 n) (some x.2) b) l
inductive Kz where
 |int (k:IntKind)
 |bool
 |str
 |nil
def Kz.v:Kz->V
 | .int k=> .int k 0
 | .bool=> .bool false
 | .str=> .str ⟨#[]⟩
 | .nil=> .nil
inductive UT where
 |int (k:IntKind)
 |bool
 |str
 |sl (e ek eb:Nat)
 |st (fs:List (Nat×Nat×Nat))
structure TInfo where
 u:UT
 k:Nat
 z:List Kz
inductive Kd where
 |int (k:IntKind)
 |bool
 |str
 |sl (τ:Nat)
 |st (T:Nat)
variable {U:Uni}
def Kz.lf:Kz->Lf U
 | .int k=> .int k (0:Int)
 | .bool=> .bool false
 | .str=> .str (⟨#[]⟩:ByteArray)
 | .nil=> .nil
def Kd.ty (U:Uni):Kd->Type
 | .int _=>Int
 | .bool=>Bool
 | .str=>ByteArray
 | .sl τ=>List (U.El τ)
 | .st T=>U.El T
def sW (U:Uni):List Kd->Type
 |[]=>Unit
 |[k]=>k.ty U
 |k::b::ks=>k.ty U×sW U (b::ks)
structure Sum (U:Uni) where
 ar:List Kd
 rs:List Kd
 fr:Bool
 wt:Bool
 m:sW U ar->Option (sW U rs)
def slq (τ τ':Nat)(l:List (U.El τ')):Option (List (U.El τ)):=if h:τ'=τ then some (h▸l) else none
def okv (m:Mm U)(i c:Nat):Bool:=match nth m.o i with
 |some e=>Nat.beq e.cv c
 |none=>false
def rsv (ns:List (Nat×Bool)):Lf U->Lf U
 | .nat a=>match nth ns a with|some (i,_)=> .int .i64 (i:Int)|none=> .any
 | .lt a m=>match nth ns a with|some (i,_)=> .bool (decide ((i:Int)<m))|none=> .any
 |x=>x
def wI (m:Mm U):Lf U->Option (Lf U)
 | .int k n=>some (.int k n)
 | .bool b=>some (.bool b)
 | .str s=>some (.str s)
 | .sl τ l=>some (.sl τ l)
 | .nat a=>match nth m.ns a with|some (i,_)=>some (.int .i64 (i:Int))|none=>none
 | .lt a n=>match nth m.ns a with|some (i,_)=>some (.bool (decide ((i:Int)<n)))|none=>none
 | .own i r=>match nth m.o i with
  |some ⟨.tree τ _ l,rv,_⟩=>bif Nat.beq rv r then some (.sl τ l) else none
  |_=>none
 | .bor i c τ l=>bif okv m i c then some (.sl τ l) else none
 | .inn i c _ _ _ _ τ' l=>bif okv m i c then some (.sl τ' l) else none
 |_=>none
def rdn (m:Mm U)(kd:Kd):Lf U->Option (Lf U)
 | .nil=>match kd with| .sl τ=>some (.sl τ [])|_=>none
 |x=>wI m x
def rds (m:Mm U):List Kd->List (Lf U)->Option (List (Lf U))
 |[],[]=>some []
 |kd::ks,x::xs=>match rdn m kd x with
  |some y=>match rds m ks xs with
   |some ys=>some (y::ys)
   |none=>none
  |none=>none
 |_,_=>none
def aU7:(kd:Kd)->Lf U->Option (kd.ty U)
 | .int k, .int c n=>if c=k then some n else none
 | .bool, .bool b=>some b
 | .str, .str s=>some s
 | .sl τ, .sl τ' l=>slq τ τ' l
 |_,_=>none
def Cur (U:Uni)(β:Type):List Kd->Type
 |[]=>β
 |k::ks=>k.ty U->Cur U β ks
def nQ {β:Type}:(ks:List Kd)->Cur U β ks->List (Lf U)->Option β
 |[],x,[]=>some x
 |k::ks,f,c::cs=>match aU7 k c with
  |some a=>nQ ks (f a) cs
  |none=>none
 |_,_,_=>none
structure Lay (U:Uni) where
 C:Cod U
 kd:Nat->List Kd
 bt:Nat
 be:Int->U.El bt
 bi:U.El bt->Int
 hb:∀x,C.cel bt x=[.int .u8 (bi x)]
 hbe:∀n,bi (be n)=n
def bO9 (ns:List Int):ByteArray:=ns.foldl (λr n=>r.push (UInt8.ofNat n.toNat)) ByteArray.empty
variable (Y:Lay U)
def aCt (m:Mm U):(kd:Kd)->Sv U->Option (kd.ty U)
 | .st T, .a cs=>match rds m (Y.kd T) cs with
  |some ds=>Y.C.bld T ds
  |none=>none
 |kd, .l x=>match rdn m kd x with
  |some y=>aU7 kd y
  |none=>none
 |_,_=>none
def pM (m:Mm U):(ks:List Kd)->List (Sv U)->Option (sW U ks)
 |[],[]=>some ()
 |[k],[x]=>aCt Y m k x
 |k::c::ks,x::xs=>match aCt Y m k x with
  |some a=>match pM m (c::ks) xs with
   |some b=>some (a,b)
   |none=>none
  |none=>none
 |_,_=>none
def cAc:(kd:Kd)->kd.ty U->Lf U
 | .int k,n=> .int k n
 | .bool,b=> .bool b
 | .str,s=> .str s
 | .sl τ,l=> .sl τ l
 | .st _,_=> .any
def aJi:(kd:Kd)->kd.ty U->Bool×List (Lf U)
 | .st T,x=>(true,Y.C.cel T x)
 | .int k,n=>(false,[.int k n])
 | .bool,b=>(false,[.bool b])
 | .str,s=>(false,[.str s])
 | .sl τ,l=>(false,[.sl τ l])
def bK:(ks:List Kd)->sW U ks->List (Bool×List (Lf U))
 |[],_=>[]
 |[k],x=>[aJi Y k x]
 |k::b::ks,x=>aJi Y k x.1::bK (b::ks) x.2
def bJy:Bool×List (Lf U)->Sv U
 |(true,cs)=> .a cs
 |(false,[x])=> .l x
 |_=> .l .any
def Cn:List (Bool×List (Lf U))->Sv U
 |[x]=>bJy x
 |xs=> .t xs
def bGi (k:IntKind)(n:Int):Bool:=decide (k.min<=n)&&decide (n<=k.max)
def bGj:Value->Sv U
 | .int k n=>bif bGi k n then .l (.int k n) else .l .any
 | .bool b=> .l (.bool b)
 | .string s=>bif Nat.ble (len s.data.toList) 1000 then .l (.str s) else .l .any
 | .slice none 0 0=> .l .nil
 |_=> .l .any
def zK (s:St U):Operand->Sv U
 | .tmp n=>match nth s.t n with|some x=>x|none=> .l .any
 | .const v=>bGj v
 |_=> .l .any
def eT (s:St U)(x:Operand):Sv U:=match zK s x with
 | .l y=> .l (rsv s.m.ns y)
 |y=>y
variable (TI:List (Nat×TInfo))
def bV3 (b:BinOp)(k:IntKind)(m n:Int):Option (Lf U):=match b with
 | .add=>some (.int k (k.wrap (m+n)))
 | .sub=>some (.int k (k.wrap (m-n)))
 | .mul=>some (.int k (k.wrap (m*n)))
 | .lss=>some (.bool (decide (m<n)))
 | .leq=>some (.bool (decide (m<=n)))
 | .gtr=>some (.bool (decide (m>n)))
 | .geq=>some (.bool (decide (m>=n)))
 | .eql=>some (.bool (m==n))
 | .neq=>some (.bool (m !=n))
 | .and=>some (.int k (rT k m n))
 | .or=>some (.int k (orI k m n))
 | .xor=>some (.int k (bGh k m n))
 |_=>none
def bV4 (b:BinOp)(m n:ByteArray):Option (Lf U):=match b with
 | .eql=>some (.bool (m.toList==n.toList))
 | .neq=>some (.bool (!(m.toList==n.toList)))
 |_=>none
def eqQ:Nat->List (Nat×Nat×Nat)->List (Lf U)->List (Lf U)->Option Bool
 |_,[],[],[]=>some true
 |i,(off,ft,_)::fs,c::cs,d::ds=>bif Nat.beq off i then(match eqQ (Nat.succ i) fs cs ds with
  |some r=>(match jV TI ft,c,d with
   |some ⟨.int _,_,_⟩, .int k m, .int b n=>if k=b then some (m==n&&r) else none
   |some ⟨.bool,_,_⟩, .bool m, .bool n=>some (m==n&&r)
   |some ⟨.str,_,_⟩, .str m, .str n=>some (m.toList==n.toList&&r)
   |_,_,_=>none)
  |none=>none) else none
 |_,_,_,_=>none
def cut (i:TInfo)(cs:List (Lf U))(off:Nat):Option (Sv U):=match i.u with
 | .st _=>let ds:=tk (drp cs off) i.k
  bif Nat.beq (len ds) i.k then some (.a ds) else none
 |_=>match nth cs off with
  |some x=>some (.l x)
  |none=>none
def eqV (i:TInfo):Sv U->Sv U->Option Bool
 | .l (.int k m), .l (.int b n)=>match i.u with
  | .int _=>if k=b then some (m==n) else none
  |_=>none
 | .l (.bool m), .l (.bool n)=>match i.u with
  | .bool=>some (m==n)
  |_=>none
 | .l (.str m), .l (.str n)=>match i.u with
  | .str=>some (m.toList==n.toList)
  |_=>none
 | .a xs, .a ys=>match i.u with
  | .st (g::c)=>eqQ TI 0 (g::c) xs ys
  |_=>none
 |_,_=>none
def eqN:List (Nat×Nat×Nat)->List (Lf U)->List (Lf U)->Option Bool
 |[],_,_=>some true
 |(off,ft,_)::fs,cs,ds=>match jV TI ft with
  |some i=>match cut i cs off with
   |some x=>match cut i ds off with
    |some y=>match eqV TI i x y with
     |some a=>match eqN fs cs ds with
      |some r=>some (a&&r)
      |none=>none
     |none=>none
    |none=>none
   |none=>none
  |none=>none
def eqB (fs:List (Nat×Nat×Nat))(cs ds:List (Lf U)):Option Bool:=match eqQ TI 0 fs cs ds with
 |some r=>some r
 |none=>eqN TI fs cs ds
def bin (b:BinOp)(t:TypeId):Sv U->Sv U->Option (Lf U)
 | .l (.int k m), .l (.int c n)=>if k=c then bV3 b k m n else none
 | .l (.str m), .l (.str n)=>bV4 b m n
 | .l (.bool m), .l (.bool n)=>match jV TI t with
  |some ⟨.bool,_,_⟩=>match b with
   | .eql=>some (.bool (m==n))
   | .neq=>some (.bool (!(m==n)))
   |_=>none
  |_=>none
 | .a cs, .a ds=>match jV TI t with
  |some ⟨.st (f::fs),_,_⟩=>match eqB TI (f::fs) cs ds with
   |some r=>(match b with
    | .eql=>some (.bool r)
    | .neq=>some (.bool (!r))
    |_=>none)
   |none=>none
  |_=>none
 |_,_=>none
def aSi (i c τ:Nat)(q:Int)(z:U.El τ):Nat->List (Lf U)->List (Lf U)
 |_,[]=>[]
 |j, .sl τ' l::xs=> .inn i c τ q z j τ' l::aSi i c τ q z (Nat.succ j) xs
 |j,x::xs=>x::aSi i c τ q z (Nat.succ j) xs
def aSj (i c:Nat):List (Lf U)->List (Lf U)
 |[]=>[]
 | .sl τ l::xs=> .bor i c τ l::aSj i c xs
 |x::xs=>x::aSj i c xs
def fld (fs:List (Nat×Nat×Nat))(f:Nat):Option (Nat×Nat×Nat):=nth fs f
def yX (m:Mm U)(f:Nat):Lf U->Option (Lf U)
 | .box i off=>match nth m.o i with
  |some ⟨.box ..,_,_⟩=>some (.box i (off+f))
  |_=>none
 | .ptr τ z off=>some (.ptr τ z (off+f))
 | .oel i c τ q z off=>bif okv m i c then some (.oel i c τ q z (off+f)) else none
 |_=>none
def brA {α:Type}(q:Int)(F:Nat->Option α)(n:Nat):Option α:=Nat.rec (motive:=λ_=>Option α) none (λj b=>bif decide (q=(j:Int)) then F j else b) n
def load (s:St U)(i:TInfo):Lf U->Option (Sv U)
 | .box b off=>match nth s.m.o b with
  |some ⟨.box _ cs _,_,_⟩=>cut i cs off
  |_=>none
 | .ptr τ z off=>cut i (Y.C.cel τ z) off
 | .oel b c τ q z off=>bif okv s.m b c then cut i (aSi b c τ q z 0 (Y.C.cel τ z)) off else none
 | .oin b c _ _ _ _ τ' _ _ z' off=>bif okv s.m b c then cut i (aSj b c (Y.C.cel τ' z')) off else none
 |_=>none
def lenOf (m:Mm U):Lf U->Option (Lf U)
 | .str z=>some (.int .i64 (z.size:Int))
 | .nil=>some (.int .i64 (0:Int))
 |x=>match wI m x with
  |some (.sl _ l)=>some (.int .i64 (l.length:Int))
  |_=>none
def spl {α:Type}(l:List α)(off:Nat)(vs:List α):List α:=List.rec (motive:=λ_=>Nat->List α) (λ_=>[]) (λx t b n=>Nat.rec (motive:=λ_=>List α) (vs++drp (x::t) (len vs)) (λm _=>x::b m) n) l off
def parts:Sv U->Option (List (Lf U))
 | .l x=>some [x]
 | .a cs=>some cs
 |_=>none
def bRy:Lf U->Bool
 | .und=>false
 | .any=>false
 |_=>true
def Rz:List (Lf U)->Bool
 |[]=>true
 |x::xs=>bRy x&&Rz xs
def bJz (s:St U)(fs:List (Nat×Nat×Nat)):List (Nat×Operand)->List (Lf U)->Option (List (Lf U))
 |[],cs=>some cs
 |(f,x)::xs,cs=>match fld fs f,parts (zK s x) with
  |some (off,_,n),some ps=>bif Nat.beq (len ps) n&&Nat.ble (off+n) (len cs)&&Rz ps then bJz s fs xs (spl cs off ps) else none
  |_,_=>none
def pur (s:St U)(op:Op):Option (Sv U):=match op with
 | .move x=>some (zK s x)
 | .assign x=>some (zK s x)
 | .pick c x y=>match eT s c with
  | .l (.bool b)=>bif b then some (zK s x) else some (zK s y)
  |_=>none
 | .nilCheck x=>match eT s x with
  | .l (.box b off)=>match nth s.m.o b with
   |some ⟨.box ..,_,_⟩=>some (.l (.box b off))
   |_=>none
  |_=>none
 | .unOp u _ x=>match u,eT s x with
  | .not, .l (.bool b)=>some (.l (.bool (!b)))
  | .neg, .l (.int k n)=>some (.l (.int k (k.wrap (0-n))))
  |_,_=>none
 | .convert a b x=>match jV TI a,jV TI b,eT s x with
  |some ⟨.int _,_,_⟩,some ⟨.int j,_,_⟩, .l (.int _ n)=>some (.l (.int j (j.wrap n)))
  |_,_,_=>none
 | .fieldAddr t x f=>match jV TI t,eT s x with
  |some ⟨.st fs,_,_⟩, .l p=>match fld fs f with
   |some (off,_,_)=>match yX s.m off p with
    |some z=>some (.l z)
    |none=>none
   |none=>none
  |_,_=>none
 | .load t x=>match jV TI t,eT s x with
  |some i, .l p=>load Y s i p
  |_,_=>none
 | .field t x f=>match jV TI t,eT s x with
  |some ⟨.st fs,_,_⟩, .a cs=>match fld fs f with
   |some (off,ft,_)=>match jV TI ft with
    |some i=>cut i cs off
    |none=>none
   |none=>none
  |_,_=>none
 | .build t ps=>match jV TI t with
  |some ⟨.st fs,_,z⟩=>match bJz s fs ps.toList (z.map Kz.lf) with
   |some cs=>some (.a cs)
   |none=>none
  |_=>none
 | .extract x i=>match eT s x with
  | .t xs=>match nth xs i with
   |some c=>some (bJy c)
   |none=>none
  |_=>none
 | .call ⟨.builtin .len,d,ats⟩=>match d.toList,ats.toList with
  |[x],[t]=>match jV TI t,eT s x with
   |some ⟨.sl ..,_,_⟩, .l y=>match y with
    | .str _=>none
    |y=>match lenOf s.m y with
     |some z=>some (.l z)
     |none=>none
   |some ⟨.str,_,_⟩, .l (.str z)=>some (.l (.int .i64 (z.size:Int)))
   |_,_=>none
  |_,_=>none
 | .call ⟨.builtin .min,d,_⟩=>match d.toList with
  |[x,y]=>match eT s x,eT s y with
   | .l (.int k a), .l (.int e b)=>if k=e then some (.l (.int k (if b<a then b else a))) else none
   |_,_=>none
  |_=>none
 | .call ⟨.builtin .max,d,_⟩=>match d.toList with
  |[x,y]=>match eT s x,eT s y with
   | .l (.int k a), .l (.int e b)=>if k=e then some (.l (.int k (if b>a then b else a))) else none
   |_,_=>none
  |_=>none
 |_=>none
variable {α:Type}
def aZd (f:(τ:Nat)->List (U.El τ)->List (U.El τ))(o:List (EO U)):Lf U->Option (Lf U)
 | .sl τ l=>some (.sl τ (f τ l))
 | .own i r=>match nth o i with
  |some ⟨.tree τ _ l,rv,cv⟩=>bif Nat.beq rv r then some (.bor i cv τ (f τ l)) else none
  |_=>none
 | .bor i c τ l=>some (.bor i c τ (f τ l))
 | .inn i c _ _ _ _ τ' l=>some (.bor i c τ' (f τ' l))
 |_=>none
def Xn (e k τ:Nat):Bool:=Nat.beq e τ&&Nat.beq (U.K τ) k
def Co:Sv U->Option Int
 | .l (.int _ n)=>some n
 |_=>none
def aCu (s:St U)(op:Op)(K:Sv U->Option α):Option α:=match op with
 | .binOp b t x y u=>match eT s x,eT s y with
  | .l (.int k m), .l (.int v n)=>match b with
   | .lss=>if k=v then(match zK s x with
    | .l (.nat a)=>K (.l (.lt a n))
    |_=>K (.l (.bool (decide (m<n))))) else none
   | .quo=>if k=v then gd (n≠0) (K (.l (.int k (k.wrap (m.tdiv n))))) else none
   | .rem=>if k=v then gd (n≠0) (K (.l (.int k (m.tmod n)))) else none
   | .shl=>gd (0<=n) (K (.l (.int k (aJg k m n))))
   | .shr=>gd (0<=n) (K (.l (.int k (Ri k m n))))
   |b=>if k=v then(match bV3 b k m n with|some z=>K (.l z)|none=>none) else none
  | .l (.str m), .l (.str n)=>match b with
   | .add=>gd (m.size+n.size<=9223372036854775807) (K (.l (.str (m++n))))
   |b=>match bV4 b m n with|some z=>K (.l z)|none=>none
  |x,y=>match bin TI b t x y with
   |some z=>K (.l z)
   |none=>none
 | .indexAddr t x y=>match jV TI t,eT s x,eT s y with
  |some ⟨.sl e ek _,_,_⟩, .l p, .l (.int _ q)=>match p with
   | .sl τ l=>bif Xn (U:=U) e ek τ then bd (aT l q) λz=>K (.l (.ptr τ z 0)) else none
   | .own i r=>match nth s.m.o i with
    |some ⟨.tree τ _ l,rv,cv⟩=>bif Nat.beq rv r&&Xn (U:=U) e ek τ then bd (aT l q) λz=>K (.l (.oel i cv τ q z 0)) else none
    |_=>none
   | .inn i c τ q0 z j τ' l=>match nth s.m.o i with
    |some ⟨.tree _ d _,_,cv⟩=>bif d&&(Nat.beq cv c&&Xn (U:=U) e ek τ') then bd (aT l q) λz'=>K (.l (.oin i c τ q0 z j τ' l q z' 0)) else none
    |_=>none
   |_=>none
  |some ⟨.st [],k,_⟩, .l (.box b off), .l (.int _ q)=>brA q (λj=>match yX s.m j (.box b off) with
   |some z=>K (.l z)
   |none=>none) k
  |_,_,_=>none
 | .index t x y=>match jV TI t,eT s x,eT s y with
  |some ⟨.str,_,_⟩, .l (.str z), .l (.int _ q)=>bd (aT (bU z) q) λc=>K (.l (.int .u8 c))
  |_,_,_=>none
 | .slice t x A hi none=>match jV TI t,eT s x with
  |some ⟨.str,_,_⟩, .l (.str z)=>match A,hi with
   |none,some h=>match Co (eT s h) with
    |some n=>gd (rZ z 0 n) (K (.l (.str (z.extract 0 n.toNat))))
    |none=>none
   |some l,none=>match Co (eT s l) with
    |some m=>gd (rZ z m z.size) (K (.l (.str (z.extract m.toNat z.size))))
    |none=>none
   |some l,some h=>match Co (eT s l),Co (eT s h) with
    |some m,some n=>gd (rZ z m n) (K (.l (.str (z.extract m.toNat n.toNat))))
    |_,_=>none
   |none,none=>none
  |some ⟨.sl e ek _,_,_⟩, .l p=>match wI s.m p with
   |some (.sl τ l)=>bif Xn (U:=U) e ek τ then(match A,hi with
    |none,none=>match aZd (λ_ l=>l) s.m.o p with
     |some f=>K (.l f)
     |none=>none
    |none,some h=>match Co (eT s h),aZd (λ_ l=>l.take (match Co (eT s h) with|some n=>n.toNat|none=>0)) s.m.o p with
     |some n,some f=>gd (gH l n) (K (.l f))
     |_,_=>none
    |some b,none=>match Co (eT s b),aZd (λ_ l=>l.drop (match Co (eT s b) with|some n=>n.toNat|none=>0)) s.m.o p with
     |some n,some f=>gd (gH l n) (K (.l f))
     |_,_=>none
    |some b,some h=>match Co (eT s b),Co (eT s h),aZd (λ_ l=>(l.take (match Co (eT s h) with|some n=>n.toNat|none=>0)).drop (match Co (eT s b) with|some n=>n.toNat|none=>0)) s.m.o p with
     |some n,some m,some f=>gd (0<=n/\n<=m/\gH l m) (K (.l f))
     |_,_,_=>none) else none
   |_=>none
  |_,_=>none
 | .convert B D x=>match jV TI B,jV TI D,eT s x with
  |some ⟨.sl e _ _,_,_⟩,some ⟨.str,_,_⟩, .l p=>match wI s.m p,jV TI e with
   |some (.sl τ l),some ⟨.int .u8,_,_⟩=>match slq Y.bt τ l with
    |some l=>bif Nat.beq e τ then gd (l.length<=68719476736) (K (.l (.str (bO9 (l.map Y.bi))))) else none
    |none=>none
   |_,_=>none
  |_,_,_=>match pur Y TI s (.convert B D x) with
   |some x=>K x
   |none=>none
 |op=>match pur Y TI s op with
  |some x=>K x
  |none=>none
end
end Go.EV
namespace Go.EV
open Go.RowKit Go.VK
noncomputable section
variable {U:Uni} (Y:Lay U) (TI:List (Nat×TInfo)) (FZ:List (Nat×Sum U)) {α:Type}
def put (s:St U)(d:Option Nat)(x:Sv U):St U:=match d with
 |some n=>⟨upd s.t n x,s.m,s.fr⟩
 |none=>s
def psh (s:St U)(b:Ob U):St U:=⟨s.t,⟨s.m.o++[⟨b,s.m.k,s.m.k⟩],s.m.k,s.m.ns⟩,s.fr⟩
def trn (s:St U)(i:Nat)(b:Ob U)(rv:Nat):St U:=⟨s.t,⟨upd s.m.o i ⟨b,rv,Nat.succ s.m.k⟩,Nat.succ s.m.k,s.m.ns⟩,s.fr⟩
def kil (k:Nat)(ids:List Nat)(o:List (EO U)):List (EO U):=List.rec (motive:=λ_=>List (EO U)) o (λi _ b=>upd b i ⟨.dead,k,k⟩) ids
def E5 (i:Nat)(l:List Nat):Bool:=List.rec (motive:=λ_=>Bool) false (λx _ b=>cond (Nat.beq x i) true b) l
def dist (l:List Nat):Bool:=List.rec (motive:=λ_=>Bool) true (λx xs b=>cond (E5 x xs) false b) l
def bGk (m:Mm U)(kd:Kd):Lf U->Option (Lf U×List Nat×Bool)
 | .nil=>match kd with| .sl τ=>some (.sl τ [],[],true)|_=>none
 | .sl τ l=>some (.sl τ l,[],false)
 | .own i r=>match nth m.o i with
  |some ⟨.tree τ d l,rv,_⟩=>bif Nat.beq rv r then some (.sl τ l,[i],d) else none
  |_=>none
 | .bor .. =>none
 | .inn .. =>none
 | .suf i c τ q l=>match nth m.o i with
  |some ⟨.tree _ _ _,_,cv⟩=>bif Nat.beq cv c then some (.sl τ (l.drop q.toNat),[i],false) else none
  |_=>none
 |x=>match wI m x with
  |some y=>some (y,[],true)
  |none=>none
def aSk (m:Mm U):List Kd->List (Lf U)->Option (List (Lf U)×List Nat×Bool)
 |[],[]=>some ([],[],true)
 |kd::ks,x::xs=>match bGk m kd x with
  |some (y,i,d)=>match aSk m ks xs with
   |some (ys,is,ds)=>some (y::ys,i++is,d&&ds)
   |none=>none
  |none=>none
 |_,_=>none
def bV6 (s:St U)(e:Nat)(x:Sv U):Option (U.El e×List Nat×Bool):=match parts x with
 |some cs=>match aSk s.m (Y.kd e) cs with
  |some (ds,ids,d)=>match Y.C.bld e ds with
   |some z=>some (z,ids,d)
   |none=>none
  |none=>none
 |none=>none
def M0 (s:St U)(e:Nat):Nat->List (Nat×Operand)->Option (List (U.El e)×List Nat×Bool)
 |_,[]=>some ([],[],true)
 |n,(i,x)::ps=>bif Nat.beq i n then(match bV6 Y s e (eT s x) with
  |some (z,ids,d)=>match M0 s e (Nat.succ n) ps with
   |some (b,c,ds)=>some (z::b,ids++c,d&&ds)
   |none=>none
  |none=>none) else none
def Kd.aDH:Kd->Bool
 | .sl _=>true
 |_=>false
def aU8 (l:List Kd):Bool:=List.rec (motive:=λ_=>Bool) false (λx _ b=>cond x.aDH true b) l
def aU9 (τ:Nat):Bool:=cond (aU8 (Y.kd τ)) false true
def flatK:Kd->Bool
 | .sl _=>false
 | .st T=>aU9 Y T
 |_=>true
def Rj (l:List Kd):Bool:=List.rec (motive:=λ_=>Bool) true (λx _ b=>cond (flatK Y x) b false) l
def rM:Lf U->Bool
 | .own .. =>false
 | .bor .. =>false
 | .inn .. =>false
 |_=>true
def Xo:List (Lf U)->Bool
 |[]=>true
 |x::xs=>rM x&&Xo xs
def aVa:Sv U->Bool
 | .l x=>rM x
 | .a cs=>Xo cs
 | .t _=>false
def oZ:List (Sv U)->Bool
 |[]=>true
 |x::xs=>aVa x&&oZ xs
def lsV:Sv U->List (Lf U)
 | .l x=>[x]
 | .a cs=>cs
 | .t _=>[]
def bRz:List (Lf U)->Option Nat
 |[]=>none
 | .own i _::_=>some i
 |_::xs=>bRz xs
def bMo:List (Sv U)->Option Nat
 |[]=>none
 |x::xs=>match bRz (lsV x) with
  |some i=>some i
  |none=>bMo xs
def aVb (i:Nat):List (Lf U)->Bool
 |[]=>true
 | .own j _::xs=>Nat.beq i j&&aVb i xs
 |x::xs=>rM x&&aVb i xs
def bGl (i:Nat):List (Sv U)->Bool
 |[]=>true
 |x::xs=>aVb i (lsV x)&&bGl i xs
def bGm (m:Mm U)(xs:List (Sv U)):Option (Nat×Nat):=match bMo xs with
 |some i=>bif bGl i xs then(match nth m.o i with
  |some e=>some (i,e.cv)
  |none=>none) else none
 |none=>none
def aZf (i c:Nat):List (Lf U)->List (Lf U)
 |[]=>[]
 | .sl τ l::xs=> .bor i c τ l::aZf i c xs
 |x::xs=>x::aZf i c xs
def Yz (i c:Nat):List (Bool×List (Lf U))->List (Bool×List (Lf U))
 |[]=>[]
 |(b,cs)::xs=>(b,aZf i c cs)::Yz i c xs
def aVc:Operand->Operand->Bool
 | .tmp i, .tmp j=>Nat.beq i j
 | .const (.int k m), .const (.int b n)=>decide (k=b)&&decide (m=n)
 |_,_=>false
def wJ (k:Nat):Nat->List (Lf U)->List (Lf U)×List (EO U)
 |_,[]=>([],[])
 |n, .sl τ l::xs=>let r:=wJ k (Nat.succ n) xs
  (.own n k::r.1,⟨.tree τ true l,k,k⟩::r.2)
 |n,x::xs=>let r:=wJ k n xs
  (x::r.1,r.2)
def lF (k:Nat):Nat->List (Bool×List (Lf U))->List (Bool×List (Lf U))×List (EO U)
 |_,[]=>([],[])
 |n,(b,cs)::xs=>let r:=wJ k n cs
  let q:=lF k (n+len r.2) xs
  ((b,r.1)::q.1,r.2++q.2)
def apD (s:St U)(e:Nat):Lf U->Option (Nat×Bool×List (U.El e)×St U)
 | .nil=>some (len s.m.o,true,[],psh s (.tree e true []))
 | .own i r=>match nth s.m.o i with
  |some ⟨.tree τ d l,rv,_⟩=>bif Nat.beq rv r then(match slq e τ l with
   |some l=>some (i,d,l,s)
   |none=>none) else none
  |_=>none
 |_=>none
def aRj (i:Nat):Lf U->Bool
 | .own j _=>cond (Nat.beq i j) false true
 | .bor j _ _ _=>cond (Nat.beq i j) false true
 | .inn j _ _ _ _ _ _ _=>cond (Nat.beq i j) false true
 |_=>true
def apS (m:Mm U)(e i:Nat)(py:Lf U):Option (List (U.El e)×List Nat×Bool):=match py with
 | .nil=>some ([],[],true)
 |py=>bif aU9 Y e then(match wI m py with
   |some (.sl τ l)=>match slq e τ l with
    |some l=>bif aRj i py then some (l,[],true) else none
    |none=>none
   |_=>none) else(match py with
   | .sl τ l=>match slq e τ l with
    |some l=>some (l,[],false)
    |none=>none
   | .own j r=>match nth m.o j with
    |some ⟨.tree τ d l,rv,_⟩=>bif Nat.beq rv r&&aRj i py then(match slq e τ l with
     |some l=>some (l,[j],d)
     |none=>none) else none
    |_=>none
   |_=>none)
def aVd:List Kd->Bool
 |[]=>true
 | .sl τ::ks=>Nat.ble 1 (U.K τ)&&aVd ks
 |_::ks=>aVd ks
def wr1 (m:Mm U):Lf U->Lf U->Option (List (Nat×EO U))
 | .own i r,y=>match nth m.o i,y with
  |some ⟨.tree τ' d _,rv,_⟩, .sl τ l=>bif d&&(Nat.beq rv r&&Nat.beq τ' τ) then some [(i,⟨.tree τ true l,rv,Nat.succ m.k⟩)] else none
  |_,_=>none
 | .inn i c τ q z j τ' _,y=>match nth m.o i,y with
  |some ⟨.tree τ1 d L,rv,cv⟩, .sl τ'' l=>bif d&&(Nat.beq cv c&&Nat.beq τ'' τ') then(match slq τ τ1 L with
   |some L=>match Y.C.bld τ (upd (Y.C.cel τ z) j (.sl τ'' l)) with
    |some z'=>some [(i,⟨.tree τ true (L.set q.toNat z'),rv,Nat.succ m.k⟩)]
    |none=>none
   |none=>none) else none
  |_,_=>none
 | .sl ..,_=>none
 | .bor ..,_=>none
 |_,_=>some []
def wrm (m:Mm U):List (Lf U)->List (Lf U)->Option (List (Nat×EO U))
 |[],[]=>some []
 |x::xs,y::ys=>match wr1 Y m x y with
  |some u=>match wrm m xs ys with
   |some b=>some (u++b)
   |none=>none
  |none=>none
 |_,_=>none
def cEi (l:List (Nat×EO U))(o:List (EO U)):List (EO U):=List.rec (motive:=λ_=>List (EO U)) o (λx _ b=>upd b x.1 x.2) l
def cEj (l:List (Nat×EO U)):List Nat:=List.rec (motive:=λ_=>List Nat) [] (λx _ b=>x.1::b) l
def hdT (T:Nat):List Kd->Bool
 | .st T'::_=>Nat.beq T' T
 |_=>false
def bV7 (s:St U)(S:Sum U)(xs:List (Sv U))(K:Sv U->St U->Option α):Option α:=match xs with
 | .l (.box i off)::ys=>match nth s.m.o i with
  |some ⟨.box T cs b,rv,_⟩=>match pM Y s.m S.ar (.a cs::ys) with
   |some a=>bif Nat.beq off 0&&(hdT T S.ar&&(Xo cs&&oZ ys)) then bd (S.m a) λr=>match bK Y S.rs r with
    |(true,ds)::rs=>bif Nat.beq (len ds) (len cs) then K (Cn rs) (trn s i (.box T ds (b.map λ_=>Nat.succ s.m.k)) rv) else none
    |_=>none
    else none
   |none=>none
  |_=>none
 |_=>none
def Sa {β:Type}(x:Option β):Bool:=match x with
 |some _=>false
 |none=>true
def bJ1 (l:List Nat):Bool:=match l with
 |[]=>true
 |_=>false
def stp (s:St U)(op:Op)(K:Sv U->St U->Option α):Option α:=match op with
 | .box T x=>match parts (zK s x) with
  |some cs=>bif Rz cs then K (.l (.box (len s.m.o) 0)) (psh s (.box T cs (cs.map λ_=>s.m.k))) else none
  |none=>none
 | .alloc T=>match jV TI T with
  |some i=>K (.l (.box (len s.m.o) 0)) (psh s (.box T (i.z.map Kz.lf) (i.z.map λ_=>s.m.k)))
  |none=>none
 | .store t x y=>match jV TI t,eT s x,parts (zK s y) with
  |some i, .l (.box b off),some ps=>match nth s.m.o b with
   |some ⟨.box T cs u,rv,_⟩=>bif Nat.beq (len ps) i.k&&(Nat.ble (off+i.k) (len cs)&&Rz ps) then K (.l .any) (trn s b (.box T (spl cs off ps) (spl u off (ps.map λ_=>Nat.succ s.m.k))) rv) else none
   |_=>none
  |some i, .l (.oel b c τ q z off),some ps=>bif okv s.m b c then(match nth s.m.o b with
   |some ⟨.tree τ' d l,rv,_⟩=>match slq τ τ' l with
    |some l=>match aSk s.m (tk (drp (Y.kd τ) off) i.k) ps with
     |some (ds,ids,d')=>bif Nat.beq (len ps) i.k&&(Nat.ble (off+i.k) (U.K τ)&&(Rz ps&&dist (b::ids))) then(match Y.C.bld τ (spl (Y.C.cel τ z) off ds) with
      |some z'=>let s':=trn s b (.tree τ (d&&d') (l.set q.toNat z')) rv
       K (.l .any) ⟨s'.t,⟨kil s'.m.k ids s'.m.o,s'.m.k,s'.m.ns⟩,s'.fr⟩
      |none=>none) else none
     |none=>none
    |none=>none
   |_=>none) else none
  |some i, .l (.oin b c τ q z j τ' l q' z' off),some ps=>bif okv s.m b c then(match nth s.m.o b with
   |some ⟨.tree τ1 d L,rv,_⟩=>match slq τ τ1 L with
    |some L=>match aSk s.m (tk (drp (Y.kd τ') off) i.k) ps with
     |some (ds,ids,d')=>bif Nat.beq (len ps) i.k&&(Nat.ble (off+i.k) (U.K τ')&&(Rz ps&&dist (b::ids))) then(match Y.C.bld τ' (spl (Y.C.cel τ' z') off ds) with
      |some v=>match Y.C.bld τ (upd (Y.C.cel τ z) j (.sl τ' (l.set q'.toNat v))) with
       |some A=>let s':=trn s b (.tree τ (d&&d') (L.set q.toNat A)) rv
        K (.l .any) ⟨s'.t,⟨kil s'.m.k ids s'.m.o,s'.m.k,s'.m.ns⟩,s'.fr⟩
       |none=>none
      |none=>none) else none
     |none=>none
    |none=>none
   |_=>none) else none
  |_,_,_=>none
 | .buildSlice t n ps=>match jV TI t with
  |some ⟨.sl e ek _,_,_⟩=>bif Nat.beq (len ps.toList) n&&(Nat.ble (n*ek) 16777216&&Xn (U:=U) e ek e) then(match M0 Y s e 0 ps.toList with
   |some (l,ids,d)=>bif !Sa (jV FZ 3000000)&&(!Nat.beq n 0&&bJ1 ids) then K (.l (.sl e l)) s else bif dist (len s.m.o::ids) then(let s':=trn (psh s .dead) (len s.m.o) (.tree e d l) s.m.k
    K (.l (.own (len s.m.o) s.m.k)) ⟨s'.t,⟨kil s'.m.k ids s'.m.o,s'.m.k,s'.m.ns⟩,s'.fr⟩) else none
   |none=>none) else none
  |_=>none
 | .makeSlice t x y=>match jV TI t with
  |some ⟨.sl e ek eb,_,_⟩=>match jV TI e,eT s x with
   |some i, .l (.int .i64 n)=>bif aVc x y&&(Nat.ble eb 2048&&Xn (U:=U) e ek e) then(match rds s.m (Y.kd e) (i.z.map Kz.lf) with
    |some ds=>match Y.C.bld e ds with
     |some z=>gd (bZ8 n) (K (.l (.own (len s.m.o) s.m.k)) (psh s (.tree e true (List.replicate n.toNat z))))
     |none=>none
    |none=>none) else none
   |_,_=>none
  |_=>none
 | .call ⟨.builtin .append,h,ats⟩=>match h.toList,ats.toList with
  |[x,y],[t,t2]=>match jV TI t with
   |some ⟨.sl e ek eb,_,_⟩=>bif Nat.beq t t2&&(Nat.ble eb 2048&&Xn (U:=U) e ek e) then(match eT s x,eT s y with
    | .l (.suf i c τ n l), .l py=>bif okv s.m i c then(match slq e τ l with
     |some l=>match apS Y s.m e i py with
      |some (l',[],_)=>bif Nat.ble 1 (len l') then gd (aS l l') (K (.l (.bor i (Nat.succ s.m.k) e (l.drop n.toNat++l'))) (trn s i .dead (Nat.succ s.m.k))) else none
      |_=>none
     |none=>none) else none
    | .l B, .l py=>match apD s e B with
     |some (i,d,l,s1)=>match apS Y s1.m e i py with
      |some (l',ids,d')=>gd (aS l l') (
       let s2:=trn s1 i (.tree e (d&&d') (l++l')) (Nat.succ s1.m.k)
       K (.l (.own i (Nat.succ s1.m.k))) ⟨s2.t,⟨kil s2.m.k ids s2.m.o,s2.m.k,s2.m.ns⟩,s2.fr⟩)
      |none=>none
     |none=>none
    |_,_=>none) else none
   |_=>none
  |_,_=>none
 | .call ⟨.value (.func f),h,_⟩=>match jV FZ f with
  |some S=>bif S.wt&&S.fr then bV7 Y s S (h.toList.map (eT s)) K else(let xs:=h.toList.map (eT s)
   match pM Y s.m S.ar xs with
   |some a=>bif S.wt then none
    else bif S.fr then bd (S.m a) λr=>
     let q:=lF s.m.k (len s.m.o) (bK Y S.rs r)
     K (Cn q.1) ⟨s.t,⟨s.m.o++q.2,s.m.k,s.m.ns⟩,s.fr⟩
    else bif Rj Y S.rs||oZ xs then bd (S.m a) λr=>K (Cn (bK Y S.rs r)) s
    else match bGm s.m xs with
     |some (i,c)=>bd (S.m a) λr=>K (Cn (Yz i c (bK Y S.rs r))) s
     |none=>none
   |none=>none)
  |none=>none
 | .binOp .add _ x y _=>match zK s x,y with
  | .l (.nat a), .const (.int .i64 n)=>bif decide (n=1) then(match nth s.m.ns a with
    |some (i,f)=>bif f then K (.l (.nat (len s.m.ns))) ⟨s.t,⟨s.m.o,s.m.k,s.m.ns++[(Nat.succ i,false)]⟩,s.fr⟩ else aCu Y TI s op (λx=>K x s)
    |none=>none) else aCu Y TI s op (λx=>K x s)
  |_,_=>aCu Y TI s op (λx=>K x s)
 | .convert D p x=>match jV FZ (p+1000000) with
  |some _=>match jV TI D,jV TI p,jV TI Y.bt,eT s x with
   |some ⟨.str,_,_⟩,some ⟨.sl e _ _,_,_⟩,some ⟨.int .u8,_,_⟩, .l (.str z)=>bif Nat.beq e Y.bt then K (.l (.sl Y.bt ((bU z).map Y.be))) s else none
   |_,_,_,_=>aCu Y TI s op (λx=>K x s)
  |none=>aCu Y TI s op (λx=>K x s)
 | .slice t x none none none=>aCu Y TI s op (λx=>K x s)
 | .slice t x (some b) none none=>match jV FZ 2000000 with
  |some _=>match jV TI t,eT s x,Co (eT s b) with
   |some ⟨.sl e ek _,_,_⟩, .l (.own i r),some n=>match nth s.m.o i with
    |some ⟨.tree τ _ l,rv,cv⟩=>bif Nat.beq rv r&&Xn (U:=U) e ek τ then gd (gH l n) (K (.l (.suf i cv τ n l)) s) else none
    |_=>none
   |_,_,_=>aCu Y TI s op (λx=>K x s)
  |none=>aCu Y TI s op (λx=>K x s)
 |op=>aCu Y TI s op (λx=>K x s)
def one (o:Oper)(s:St U)(K:St U->Option α):Option α:=stp Y TI FZ s o.op λx s'=>K (put s' o.dst x)
def tst (n:Nat)(s:St U)(T F:St U->Option α):Option α:=match nth s.t n with
 |some (.l (.bool b))=>bif b then T (put s (some n) (.l (.bool true))) else F (put s (some n) (.l (.bool false)))
 |some (.l (.lt a m))=>match nth s.m.ns a with
  |some (i,_)=>bif decide ((i:Int)<m) then T (put ⟨s.t,⟨s.m.o,s.m.k,upd s.m.ns a (i,true)⟩,s.fr⟩ (some n) (.l (.bool true))) else F (put s (some n) (.l (.bool false)))
  |none=>none
 |_=>none
def skp (o:Oper)(s:St U)(K:St U->Option α):Option α:=K (put s o.dst (.l .und))
def bX3:Option (Sv U)->Bool
 |some (.l .und)=>true
 |_=>false
def bD5 (al:List Oper)(o:Oper)(run:St U->Option α)(s:St U)(K:St U->Option α):Option α:=match o.guard with
 |none=>run s
 |some (j,want)=>match nth al j with
  |some oj=>match oj.dst with
   |some n=>bif bX3 (nth s.t n) then skp o s K else
    tst n s (λs=>bif want then run s else skp o s K) (λs=>bif want then skp o s K else run s)
   |none=>none
  |none=>none
def grd (al:List Oper)(o:Oper)(s:St U)(K:St U->Option α):Option α:=bD5 al o (λs=>one Y TI FZ o s K) s K
def ops (al:List Oper):List Oper->St U->(St U->Option α)->Option α
 |[],s,K=>K s
 |o::l,s,K=>grd Y TI FZ al o s λs=>ops al l s K
def Fp:Op->Nat
 | .box .. | .alloc _| .makeSlice .. =>1
 | .buildSlice .. =>1
 | .call ⟨.value (.func f),_,_⟩=>match jV FZ f with
  |some S=>bif S.wt then 2 else 1
  |none=>1
 | .call ⟨.value _,_,_⟩=>1
 | .store .. =>2
 | .call ⟨.builtin .append,_,_⟩=>2
 | .convert _ b _=>match jV FZ (b+1000000) with
  |some _=>1
  |none=>0
 |_=>0
inductive Lo where
 |s (n:Nat)
 |c (b j:Nat)
inductive DI where
 |dat (l:Lo) (kd:Kd)
 |nat (l:Lo)
 |tr (l:Lo) (i τ:Nat) (d:Bool)
 |nt (l:Lo) (τ:Nat) (d:Bool)
 |ti (i τ:Nat) (d:Bool)
structure Tm where
 ws:List (Nat×Nat)
 it:List DI
 an:List (Nat×Nat)
 dd:List Nat
def DI.ty (U:Uni):DI->Type
 | .dat _ kd=>kd.ty U
 | .nat _=>Nat
 | .tr _ _ τ _=>List (U.El τ)
 | .nt _ τ _=>List (U.El τ)
 | .ti _ τ _=>List (U.El τ)
def Dat (U:Uni):List DI->Type
 |[]=>Unit
 |[k]=>k.ty U
 |k::b::ks=>k.ty U×Dat U (b::ks)
def lkp (s:St U):Lo->Option (Sv U)
 | .s n=>nth s.t n
 | .c b j=>match nth s.m.o b with
  |some ⟨.box _ cs _,_,_⟩=>match nth cs j with
   |some x=>some (.l x)
   |none=>none
  |_=>none
def cAd (m:Mm U)(i τ:Nat)(d:Bool):Option (List (U.El τ)):=match nth m.o i with
 |some ⟨.tree τ' d' l,rv,_⟩=>bif Nat.beq rv 0&&(d'|| !d) then slq τ τ' l else none
 |_=>none
def Bq (m:Mm U)(τ:Nat)(d:Bool):Sv U->Option (Option Nat×List (U.El τ))
 | .l .nil=>bif Nat.ble 1 (U.K τ) then some (none,[]) else none
 | .l (.own i r)=>match nth m.o i with
  |some ⟨.tree τ' d' l,rv,_⟩=>bif Nat.beq rv r&&(d'|| !d) then(match slq τ τ' l with
   |some l=>some (some i,l)
   |none=>none) else none
  |_=>none
 |_=>none
def bR0 (m:Mm U):Sv U->Option Nat
 | .l (.nat a)=>match nth m.ns a with
  |some (i,_)=>some i
  |none=>none
 | .l (.int .i64 n)=>bif decide (n=0) then some 0 else none
 |_=>none
def bD6 (s:St U):(x:DI)->Option (x.ty U)
 | .ti i τ d=>cAd s.m i τ d
 | .dat l kd=>match lkp s l with
  |some v=>bif aVa v then aCt Y s.m kd v else none
  |none=>none
 | .nat l=>match lkp s l with
  |some v=>bR0 s.m v
  |none=>none
 | .tr l _ τ d=>match lkp s l with
  |some v=>match Bq s.m τ d v with
   |some q=>some q.2
   |none=>none
  |none=>none
 | .nt l τ d=>match lkp s l with
  |some v=>match Bq s.m τ d v with
   |some q=>some q.2
   |none=>none
  |none=>none
def gets (s:St U):(xs:List DI)->Option (Dat U xs)
 |[]=>some ()
 |[x]=>bD6 Y s x
 |x::c::xs=>match bD6 Y s x with
  |some a=>match gets s (c::xs) with
   |some b=>some (a,b)
   |none=>none
  |none=>none
def aJj (s:St U):List DI->Option (List (Option Nat×Option Nat))
 |[]=>some []
 | .ti i _ _::xs=>match aJj s xs with
  |some r=>some ((some i,some i)::r)
  |none=>none
 | .tr l i τ d::xs=>match lkp s l with
  |some v=>match Bq s.m τ d v with
   |some q=>match aJj s xs with
    |some r=>some ((some i,q.1)::r)
    |none=>none
   |none=>none
  |none=>none
 | .nt l τ d::xs=>match lkp s l with
  |some v=>match Bq s.m τ d v with
   |some q=>match aJj s xs with
    |some r=>some ((none,q.1)::r)
    |none=>none
   |none=>none
  |none=>none
 |_::xs=>aJj s xs
def Rk (l:List (Option Nat×Option Nat)):List Nat:=List.rec (motive:=λ_=>List Nat) [] (λx _ b=>match x.2 with|some i=>i::b|none=>b) l
def aN9:List DI->List (Nat×Nat)
 |[]=>[]
 | .dat (.c b j) _::xs=>(b,j)::aN9 xs
 | .nat (.c b j)::xs=>(b,j)::aN9 xs
 | .tr (.c b j) _ _ _::xs=>(b,j)::aN9 xs
 | .nt (.c b j) _ _::xs=>(b,j)::aN9 xs
 |_::xs=>aN9 xs
def aZh (b j:Nat)(l:List (Nat×Nat)):Bool:=List.rec (motive:=λ_=>Bool) false (λx _ c=>cond (Nat.beq x.1 b&&Nat.beq x.2 j) true c) l
def hasB (b:Nat)(l:List (Nat×Nat)):Bool:=List.rec (motive:=λ_=>Bool) false (λx _ c=>cond (Nat.beq x.1 b) true c) l
def bV8 (cs:List (Nat×Nat))(k b:Nat):Nat->List Nat->Bool
 |_,[]=>true
 |j,v::vs=>(Nat.ble v k||aZh b j cs)&&bV8 cs k b (Nat.succ j) vs
def bJ2 (cs:List (Nat×Nat))(dd:List Nat)(k:Nat):Nat->List (EO U)->List (EO U)->Bool
 |_,[],_=>true
 |i,_::es,e'::es'=>(Nat.ble e'.cv k||(E5 i dd||(match e'.ob with| .box _ _ vs=>hasB i cs&&bV8 cs k i 0 vs|_=>false)))&&bJ2 cs dd k (Nat.succ i) es es'
 |_,_,[]=>false
def bPa (N:Nat)(dd:List Nat):List Nat->Bool
 |[]=>true
 |i::is=>(Nat.ble N i||E5 i dd)&&bPa N dd is
def bPb (N:Nat):List Nat->Bool
 |[]=>true
 |i::is=>Nat.ble (Nat.succ i) N&&bPb N is
def jL:List DI->List Nat
 |[]=>[]
 | .tr _ i _ _::xs=>i::jL xs
 | .ti i _ _::xs=>i::jL xs
 |_::xs=>jL xs
def Tm.dead (tm:Tm):List Nat:=jL tm.it++tm.dd
def Tm.aCC (tm:Tm):List (Nat×Nat):=aN9 tm.it++tm.an
def Xj:List (Nat×Nat)->Nat->Nat->Bool
 |[],_,_=>false
 |(a,b)::r,p,n=>(Nat.ble (p+a) n&&Nat.ble (Nat.succ n) (p+a+b))||Xj r (p+a+b) n
def slI (ws:List (Nat×Nat)):List DI->Bool
 |[]=>true
 | .dat (.s n) _::xs=>Xj ws 0 n&&slI ws xs
 | .nat (.s n)::xs=>Xj ws 0 n&&slI ws xs
 | .tr (.s n) _ _ _::xs=>Xj ws 0 n&&slI ws xs
 | .nt (.s n) _ _::xs=>Xj ws 0 n&&slI ws xs
 |_::xs=>slI ws xs
def col (b:St U)(tm:Tm)(s:St U):Option (Dat U tm.it):=match aJj s tm.it with
 |some q=>bif slI tm.ws tm.it&&(bJ2 tm.aCC tm.dead b.m.k 0 b.m.o s.m.o&&(bPa (len b.m.o) tm.dead (Rk q)&&(dist (Rk q)&&(dist (jL tm.it)&&bPb (len b.m.o) (jL tm.it))))) then gets Y s tm.it else none
 |none=>none
def bGn (n:Nat)(K:List (Sv U)->List (Sv U)):List (Sv U)->List (Sv U):=Nat.rec (motive:=λ_=>List (Sv U)->List (Sv U)) K (λ_ b l=>match l with|[]=>[]|_::t=>Sv.l .any::b t) n
def bJ4 (n:Nat)(K:List (Sv U)->List (Sv U)):List (Sv U)->List (Sv U):=Nat.rec (motive:=λ_=>List (Sv U)->List (Sv U)) K (λ_ b l=>match l with|[]=>[]|x::t=>x::b t) n
def wip:List (Nat×Nat)->List (Sv U)->List (Sv U)
 |[],l=>l
 |(a,b)::r,l=>bJ4 a (bGn b (wip r)) l
def wrG (ws:List (Nat×Nat))(al:List Oper)(l:List Oper):Bool:=List.rec (motive:=λ_=>Bool) true (λo _ b=>cond ((match o.dst with|some n=>Xj ws 0 n|none=>true)&&(match o.guard with|some (j,_)=>(match nth al j with|some oj=>(match oj.dst with|some n=>Xj ws 0 n|none=>true)|none=>true)|none=>true)) b false) l
def wr (ws:List (Nat×Nat)):Nat->Code->Bool
 |0,_=>false
 |f+1, .seq a b=>wr ws f a&&wr ws f b
 |f+1, .cond (.tmp n) a b=>Xj ws 0 n&&(wr ws f a&&wr ws f b)
 |f+1, .block _ c=>wr ws f c
 |f+1, .loop c=>wr ws f c
 |_+1, .region _ os _=>wrG ws os.toList os.toList
 |_+1, .skip=>true
 |_+1, .ret=>true
 |_+1, .exit _=>true
 |_+1,_=>false
def aBI (s:St U)(x:Sv U):Lo->St U
 | .s n=>put s (some n) x
 | .c b j=>match nth s.m.o b,x with
  |some ⟨.box T cs vs,rv,_⟩, .l y=>trn s b (.box T (upd cs j y) (upd vs j (Nat.succ s.m.k))) rv
  |_,_=>s
def set1 (k n:Nat)(s:St U):(x:DI)->x.ty U->St U
 | .dat l kd,d=>aBI s (bJy (aJi Y kd d)) l
 | .nat l,i=>aBI ⟨s.t,⟨s.m.o,s.m.k,s.m.ns++[(⟨i,false⟩:Nat×Bool)]⟩,s.fr⟩ (.l (.nat (len s.m.ns))) l
 | .tr l i _ _,_=>aBI s (.l (.own i k)) l
 | .nt l _ _,_=>aBI s (.l (.own n k)) l
 | .ti _ _ _,_=>s
def nxt (n:Nat):DI->Nat
 | .nt .. =>Nat.succ n
 |_=>n
def sets (k n:Nat)(s:St U):(xs:List DI)->Dat U xs->St U
 |[],_=>s
 |[x],d=>set1 Y k n s x d
 |x::b::xs,d=>sets k (nxt n x) (set1 Y k n s x d.1) (b::xs) d.2
def aVe (k:Nat):(x:DI)->x.ty U->List (EO U)->List (EO U)
 | .tr _ i τ b,d,o=>upd o i ⟨.tree τ b d,k,k⟩
 | .nt _ τ b,d,o=>o++[⟨.tree τ b d,k,k⟩]
 | .ti i τ b,d,o=>upd o i ⟨.tree τ b d,0,k⟩
 |_,_,o=>o
def aSl (k:Nat):(xs:List DI)->Dat U xs->List (EO U)->List (EO U)
 |[],_,o=>o
 |[x],d,o=>aVe k x d o
 |x::b::xs,d,o=>aSl k (b::xs) d.2 (aVe k x d.1 o)
def E8 (k:Nat)(l:List (Nat×Nat))(o:List (EO U)):List (EO U):=List.rec (motive:=λ_=>List (EO U)) o (λx _ b=>match nth b x.1 with|some ⟨.box T cs vs,_,_⟩=>upd b x.1 ⟨.box T (upd cs x.2 .any) (upd vs x.2 k),k,k⟩|_=>b) l
def reb (b:St U)(tm:Tm)(d:Dat U tm.it):St U:=
 let k:=Nat.succ b.m.k
 sets Y k (len b.m.o) ⟨wip tm.ws b.t,⟨aSl k tm.it d (E8 k tm.aCC (kil k tm.dead b.m.o)),k,b.m.ns⟩,b.fr⟩ tm.it d
inductive An where
 |n
 |s (a b:An)
 |j (t:Tm) (a:An)
 |jx (t:Tm) (a:An)
 |l (t:Tm) (f:Nat) (a:An)
 |r (a0:Option Nat) (ord:List (Nat×Bool))
 |rj (k:Nat) (t:Tm) (a:An)
 |z (ord:List Nat)
 |y (kb:Bool) (f a0:Option Nat) (ord:List (Nat×Bool))
 |il (i:Nat) (a r:An)
 |w (bs:List Nat) (ord:List (Nat×Bool))
 |v (bs:List Nat) (ord:List (Nat×Bool))
 |u (a0:Option Nat) (bs fs:List Nat) (ord:List (Nat×Bool))
 |pl (a:An)
def bV9:List (Nat×Nat)->Nat->Nat->Nat->Bool
 |[],_,_,_=>false
 |(a,b)::r,p,c,hi=>(Nat.ble (p+a) c&&Nat.ble hi (p+a+b))||bV9 r (p+a+b) c hi
def bJ5 (ws:List (Nat×Nat)):List (Nat×Nat)->Nat->Bool
 |[],_=>true
 |(a,b)::r,p=>(Nat.beq b 0||bV9 ws 0 (p+a) (p+a+b))&&bJ5 ws r (p+a+b)
def anW (ws:List (Nat×Nat)):An->Bool
 | .s a b=>anW ws a&&anW ws b
 | .j t a=>bJ5 ws t.ws 0&&anW ws a
 | .jx t a=>bJ5 ws t.ws 0&&anW ws a
 | .l t _ a=>bJ5 ws t.ws 0&&anW ws a
 | .rj _ t _=>bJ5 ws t.ws 0
 |_=>true
def An.a:An->An
 | .s a _=>a
 |_=> .n
def An.b:An->An
 | .s _ b=>b
 |_=> .n
def bI {β:Type}(n:Nat)(F:(β->Option α)->β->Option α):β->Option α:=Nat.rec (motive:=λ_=>β->Option α) (λ_=>none) (λ_ b=>F b) n
def aJk (al:List Oper):List Nat->St U->(St U->Option α)->Option α
 |[],s,K=>K s
 |i::l,s,K=>match nth al i with
  |some o=>grd Y TI FZ al o s λs=>aJk al l s K
  |none=>none
def aVf (l:List (Nat×Bool)):Bool:=List.rec (motive:=λ_=>Bool) true (λx _ b=>cond x.2 false b) l
def frees (al:List Oper)(a0:Option Nat):List (Nat×Bool)->Bool
 |[]=>true
 |(i,f)::l=>match nth al i with
  |some o=>bif f then Nat.beq (Fp FZ o.op) 0&&frees al a0 l else
   (bif Nat.ble (Fp FZ o.op) 1 then frees al a0 l else(match a0 with|some b=>Nat.beq b i|none=>false)&&aVf l)
  |none=>false
def bMq (l:List (Nat×Bool)):List Nat:=List.rec (motive:=λ_=>List Nat) [] (λx _ b=>x.1::b) l
def aSm (al:List Oper)(os:Array Oper):An->Option (List Nat)
 | .r a0 ord=>bif aU1 os a0 ord&&frees FZ al a0 ord then some (bMq ord) else none
 | .z ord=>bif Region.noSelect os&&(Nat.beq (len ord) (len al)&&chz os ord (Array.replicate os.size false)) then some ord else none
 |_=>none
def aVg (al:List Oper)(l:List Nat):List Oper:=List.rec (motive:=λ_=>List Oper) [] (λi _ b=>match nth al i with|some o=>o::b|none=>b) l
def aVh:Op->Bool
 | .move _=>true
 | .assign _=>true
 | .extract .. =>true
 |_=>false
def Rv (a:Option Nat)(i:Nat):Bool:=match a with
 |some b=>Nat.beq b i
 |none=>false
def unt:Nat->Nat->List (EO U)->Bool
 |0,_,_=>true
 |_+1,_,[]=>true
 |n+1,k,e::o=>Nat.ble e.cv k&&unt n k o
def unO (kd:Option (Nat×Nat))(o:List (EO U)):Bool:=match kd with
 |some (n,k)=>unt n k o
 |none=>false
def Mc (s:St U):Op->Bool
 | .alloc t=> !Sa (jV TI t)
 | .buildSlice t n ps=>match jV TI t with
  |some ⟨.sl e ek _,_,_⟩=>Nat.beq (len ps.toList) n&&(Nat.ble (n*ek) 16777216&&(Xn (U:=U) e ek e&&(match M0 Y s e 0 ps.toList with
   |some (_,[],_)=>true
   |_=>false)))
  |_=>false
 |_=>false
def aZi (s:St U)(d:Option Nat):Bool:=match d with
 |some n=>(match nth s.t n with
  |some (.l .any)=>true
  |_=>false)
 |none=>true
def bJ6 (oj:Oper)(d:Option Nat):Bool:=match d with
 |none=>true
 |some n=>match oj.op with
  | .alloc _=>true
  | .buildSlice _ _ ps=>ps.toList.all λx=>match x.2 with| .tmp m=> !Nat.beq n m|_=>true
  |_=>false
def bR1 (oj:Oper)(d:Option Nat):Bool:=(match d with
 |none=>true
 |some n=>(match oj.dst with|some m=> !Nat.beq n m|none=>true))&&bJ6 oj d
def aRk (al:List Oper)(f:Option Nat)(s:St U):Bool:=match f with
 |some j=>match nth al j with
  |some o=>Sa o.guard&&(aZi s o.dst&&(bJ6 o o.dst&&Mc Y TI s o.op))
  |none=>false
 |none=>true
def wpe (al:List Oper)(f:Option Nat)(s:St U):St U:=match f with
 |some j=>match nth al j with
  |some o=>put s o.dst (.l .any)
  |none=>s
 |none=>s
def aJl (al:List Oper)(a0:Option Nat)(kd:Option (Nat×Nat)):List (Nat×Bool)->Option Nat->Bool->Bool->St U->(St U->Option α)->Option α
 |[],_,_,_,s,K=>K s
 |(i,fl)::l,f,pre,st,s,K=>match nth al i with
  |some o=>bif fl then(bif Nat.beq (Fp FZ o.op) 0&&(aVh o.op||st) then grd Y TI FZ al o s (λs'=>aJl al a0 kd l f pre st s' K) else none)
   else bif aRk Y TI al f s then grd Y TI FZ al o s (λs'=>bif !(pre&& !Rv a0 i)||(Nat.ble (Fp FZ o.op) 1||unO kd s'.m.o) then aJl al a0 kd l (bif Rv f i then none else f) (pre&& !Rv a0 i) (st&&Sa kd) s' K else none)
   else none
  |none=>none
def tkY (os:Array Oper)(a0:Option Nat)(i:Nat)(c:Array Bool):Bool:=Region.free .any os c i&&(Region.ready .any os c).contains i&&(match a0 with
 |none=>true
 |some b=>b !=i&&(bO3 .any os 40 b i||(match os[i]? with|some o=>aVh o.op|none=>false)))
def a0Y (a0:Option Nat)(i:Nat)(b:Array Bool):Bool:=a0 !=some i|| !iI a0 (b.setIfInBounds i true)
def aOa (os:Array Oper)(a0:Option Nat):List (Nat×Bool)->Array Bool->Bool
 |[],b=>(Region.ready .any os b).isEmpty
 |(i,true)::r,b=>tkY os a0 i b&&aOa os a0 r (b.setIfInBounds i true)
 |(i,false)::r,b=>Region.ready .any os b==[i]&&(a0Y a0 i b&&aOa os a0 r (b.setIfInBounds i true))
def bJ7 (os:Array Oper)(a0:Option Nat)(oj:Oper)(j:Nat):List (Nat×Bool)->Array Bool->Bool
 |[],_=>false
 |(i,fl)::r,b=>bif Nat.beq i j then !fl&&aOa os a0 r b else
  ((match os[i]? with|some o=>bR1 oj o.dst|none=>false)&&(bif fl then tkY os a0 i b&&bJ7 os a0 oj j r (b.setIfInBounds i true)
   else Region.ready .any os b==[i]&&(a0Y a0 i b&&bJ7 os a0 oj j r (b.setIfInBounds i true))))
def bR3 (os:Array Oper)(a0:Option Nat)(oj:Oper)(j:Nat):List (Nat×Bool)->Array Bool->Bool
 |[],_=>false
 |(i,fl)::r,b=>bif Nat.beq i j then !fl&&(Region.ready .any os b==[i]&&aOa os a0 r (b.setIfInBounds i true)) else
  bif fl then tkY os a0 i b&&bR3 os a0 oj j r (b.setIfInBounds i true)
  else((Region.ready .any os b==[i]||((Region.ready .any os b==[i,j]||Region.ready .any os b==[j,i])&&bJ7 os a0 oj j ((i,fl)::r) (b.setIfInBounds j true)))
   &&(a0Y a0 i b&&bR3 os a0 oj j r (b.setIfInBounds i true)))
def bD9 (os:Array Oper)(f a0:Option Nat)(ord:List (Nat×Bool)):Bool:=Region.noSelect os&&(Nat.beq (len ord) os.size&&(match f with
 |none=>aOa os a0 ord (Array.replicate os.size false)
 |some j=>a0 !=some j&&(match os[j]? with
  |some oj=>bR3 os a0 oj j ord (Array.replicate os.size false)
  |none=>false)))
def stW (bs:List Nat)(s:St U):Op->Bool
 | .store _ x _=>match eT s x with
  | .l (.box b _)=>E5 b bs
  |_=>false
 |_=>false
def noG (o:Oper):Bool:=match o.guard with
 |none=>true
 |some _=>false
def ptW (FZ:List (Nat×Sum U))(bs:List Nat)(s:St U):Op->Bool
 | .call ⟨.value (.func f),c,_⟩=>match jV FZ f,c.toList.map (eT s) with
  |some S, .l (.box b 0)::_=>S.wt&&(S.fr&&E5 b bs)
  |_,_=>false
 |_=>false
def erl (bs:List Nat)(s:St U):Op->Bool
 | .load _ x=>match eT s x with
  | .l (.box b _)=> !E5 b bs
  | .l (.ptr ..)=>true
  |_=>false
 | .fieldAddr .. =>true
 | .pick .. =>true
 | .indexAddr _ x y=>match eT s x,eT s y with
  | .l (.sl ..), .l (.int ..)=>true
  |_,_=>false
 | .binOp b _ x y _=>match b,zK s x,zK s y with
  | .add, .l (.int ..), .l (.int ..)=>true
  | .sub, .l (.int ..), .l (.int ..)=>true
  | .lss, .l (.int ..), .l (.int ..)=>true
  | .leq, .l (.int ..), .l (.int ..)=>true
  | .gtr, .l (.int ..), .l (.int ..)=>true
  | .geq, .l (.int ..), .l (.int ..)=>true
  | .eql, .l (.int ..), .l (.int ..)=>true
  | .neq, .l (.int ..), .l (.int ..)=>true
  |_,_,_=>false
 | .call ⟨.builtin .len,c,_⟩=>match c.toList with
  |[x]=>match eT s x with
   | .l (.sl ..)=>true
   | .l (.own i r)=>match nth s.m.o i with
    |some ⟨.tree ..,rv,_⟩=>Nat.beq rv r
    |_=>false
   |_=>false
  |_=>false
 |op=>aVh op
def bxs (l:List Nat)(o:List (EO U)):Bool:=List.rec (motive:=λ_=>Bool) true (λb _ c=>match nth o b with|some ⟨.box ..,_,_⟩=>c|_=>false) l
def aVi:Lf U->Bool
 | .int .. =>true
 | .bool _=>true
 | .str _=>true
 | .sl .. =>true
 | .nil=>true
 |_=>false
def aJm (l:List (Lf U)):Bool:=List.rec (motive:=λ_=>Bool) true (λx _ b=>aVi x&&b) l
def aF9:Sv U->Bool
 | .l x=>aVi x
 | .a cs=>aJm cs
 | .t _=>false
def yY (l:List (Sv U)):Bool:=List.rec (motive:=λ_=>Bool) true (λx _ b=>aF9 x&&b) l
def flc (s:St U)(o:Oper)(K:Option α):Option α:=match o.op with
 | .call ⟨.value (.func f),b,_⟩=>match jV FZ f with
  |some S=>match pM Y s.m S.ar (b.toList.map (eT s)) with
   |some a=>bif !S.wt&&(!S.fr&&yY (b.toList.map (zK s))) then bd (S.m a) λ_=>K else none
   |none=>none
  |none=>none
 |op=>bif Mc Y TI s op then K else none
def aZj (oj:Oper)(d:Option Nat):Bool:=match d with
 |none=>true
 |some n=>match oj.op with
  | .call ⟨.value (.func _),b,_⟩=>b.toList.all λx=>match x with| .tmp m=> !Nat.beq n m|_=>true
  |_=>bJ6 oj d
def aVj (oj:Oper)(d:Option Nat):Bool:=(match d with
 |none=>true
 |some n=>(match oj.dst with|some m=> !Nat.beq n m|none=>true))&&aZj oj d
def cAf (al:List Oper)(s:St U)(fs:List Nat)(K:Option α):Option α:=List.rec (motive:=λ_=>Option α) K (λj _ b=>match nth al j with
  |some o=>bif Sa o.guard&&(aZi s o.dst&&aZj o o.dst) then flc Y TI FZ s o b else none
  |none=>none) fs
def rmv (i:Nat)(l:List Nat):List Nat:=List.rec (motive:=λ_=>List Nat) [] (λx _ b=>bif Nat.beq x i then b else x::b) l
def wpl (al:List Oper)(s:St U)(fs:List Nat):St U:=List.rec (motive:=λ_=>St U) s (λj _ b=>match nth al j with
 |some o=>put b o.dst (.l .any)
 |none=>b) fs
def erp (s:St U)(op:Op):Bool:=aVh op||(match op with
 | .binOp .. =>erl [] s op
 |_=>false)
def Rl (al:List Oper)(a0:Option Nat)(bs:List Nat)(kd:Option (Nat×Nat)):List (Nat×Bool)->List Nat->Bool->Bool->St U->(St U->Option α)->Option α
 |[],_,_,_,s,K=>K s
 |(i,fl)::l,fs,st,ps,s,K=>match nth al i with
  |some o=>bif fl then(bif st then bD5 al o (λs1=>bif erl bs s1 o.op then one Y TI FZ o s1 (λs'=>Rl al a0 bs kd l fs st ps s' K) else none) s (λs'=>Rl al a0 bs kd l fs st ps s' K) else(bif erp s o.op&&noG o then one Y TI FZ o s (λs'=>Rl al a0 bs kd l fs st ps s' K) else none))
   else(bif noG o then cAf Y TI FZ al s fs (
    bif Nat.ble (Fp FZ o.op) 1 then one Y TI FZ o s (λs'=>Rl al a0 bs kd l (rmv i fs) false (ps||Rv a0 i) s' K)
    else(bif stW bs s o.op||ptW FZ bs s o.op then one Y TI FZ o s (λs'=>Rl al a0 bs kd l (rmv i fs) false (ps||Rv a0 i) s' K)
    else one Y TI FZ o s (λs'=>bif unO kd s'.m.o||(Rv a0 i||ps) then Rl al a0 bs kd l (rmv i fs) false (ps||Rv a0 i) s' K else none))) else none)
  |none=>none
def aOb (os:Array Oper)(b:List Nat)(d:Option Nat):Bool:=b.all λj=>match os[j]? with
 |some oj=>aVj oj d
 |none=>false
def aSn (os:Array Oper)(a0:Option Nat):Nat->List Nat->List Nat->List (Nat×Bool)->Array Bool->Bool
 |0,_,_,_,_=>false
 |_+1,_,c,[],b=>c.isEmpty&&(Region.ready .any os b).isEmpty
 |n+1,d,c,(i,true)::r,b=>(match os[i]? with|some o=>aOb os c o.dst|none=>false)&&(tkY os a0 i b&&aSn os a0 n d c r (b.setIfInBounds i true))
 |n+1,d,c,(i,false)::r,b=>bif E5 i c then(match os[i]? with
   |some o=>aOb os (rmv i c) o.dst&&(!Rv a0 i&&aSn os a0 n d (rmv i c) r b)
   |none=>false) else
  ((Region.ready .any os b).contains i&&((Region.ready .any os b).all λj=>bif Nat.beq j i then(match os[i]? with
    |some o=>aOb os c o.dst&&(a0Y a0 i b&&aSn os a0 n (rmv i d) c r (b.setIfInBounds i true))
    |none=>false)
   else(E5 j d&&(match os[j]? with
    |some oj=>aOb os c oj.dst&&aSn os a0 n (rmv j d) (j::c) ((i,false)::r) (b.setIfInBounds j true)
    |none=>false))))
def rgn (al:List Oper)(os:Array Oper)(d:Bool)(an:An)(s:St U)(N:St U->Option α):Option α:=match an with
 | .rj k tm a=>bif d then(match aSm FZ al os a with
   |some l=>aJk Y TI FZ al (tk l k) s λs1=>bif wrG tm.ws al (aVg al (drp l k)) then bd (aJk Y TI FZ al (drp l k) s1 λs'=>col Y s1 tm s') λd=>N (reb Y s1 tm d) else none
   |none=>none) else
   ops Y TI FZ al (tk al k) s λs1=>bif wrG tm.ws al (drp al k) then bd (ops Y TI FZ al (drp al k) s1 λs'=>col Y s1 tm s') λd=>N (reb Y s1 tm d) else none
 | .y kb f a0 ord=>bif d&&bD9 os f a0 ord then aJl Y TI FZ al a0 (bif kb then some (len s.m.o,s.m.k) else none) ord f true true (wpe al f s) N else none
 | .w _ _=>none
 | .u a0 bs fs ord=>bif d&&(Region.noSelect os&&(aSn os a0 (Nat.succ (Nat.add (len ord) (len ord))) fs [] ord (Array.replicate os.size false)&&bxs bs s.m.o)) then Rl Y TI FZ al a0 bs (some (len s.m.o,s.m.k)) ord fs true false (wpl al s fs) N else none
 | .v _ _=>none
 |an=>bif d then(match aSm FZ al os an with
   |some l=>aJk Y TI FZ al l s N
   |none=>none) else ops Y TI FZ al al s N
def bWc (s:St U):ResultVar->Option (Sv U)
 | .tmp n=>nth s.t n
 | .cell a t=>match nth s.t a,jV TI t with
  |some (.l (.box b 0)),some i=>match nth s.m.o b with
   |some ⟨.box _ cs _,_,_⟩=>cut i cs 0
   |_=>none
  |_,_=>none
def aE2 (s:St U):List ResultVar->Option (List (Sv U))
 |[]=>some []
 |r::rs=>match bWc TI s r with
  |some x=>match aE2 s rs with
   |some xs=>some (x::xs)
   |none=>none
  |none=>none
abbrev Il:=List (Nat×Code×Nat×List ResultVar)
def sv2:Sv U->Option (Bool×List (Lf U))
 | .l x=>some (false,[x])
 | .a cs=>some (true,cs)
 | .t _=>none
def bJ8:List (Sv U)->Option (List (Bool×List (Lf U)))
 |[]=>some []
 |x::xs=>match sv2 x with
  |some y=>match bJ8 xs with
   |some ys=>some (y::ys)
   |none=>none
  |none=>none
def cAg:List (Sv U)->Option (Sv U)
 |[x]=>some x
 |xs=>match bJ8 xs with
  |some l=>some (.t l)
  |none=>none
def inl (IL:Il)(EV:An->Code->St U->(St U->Option α)->Option α)(an:An)(o:Oper)(s:St U)(K:St U->Option α):Option α:=match o.op with
 | .call ⟨.value (.func f),b,_⟩=>match jV IL f with
  |some (c,n,rv)=>bif Nat.ble (len b.toList) n then EV an c ⟨b.toList.map (eT s)++List.replicate (n-len b.toList) (.l .any),s.m,s.fr⟩ λs'=>match aE2 TI s' rv with
    |some ys=>match cAg ys with
     |some y=>K (put ⟨s.t,s'.m,s.fr⟩ o.dst y)
     |none=>none
    |none=>none
   else none
  |none=>none
 |_=>none
def ilo:An->An
 | .il _ _ r=>ilo r
 |an=>an
def ilr (IL:Il)(EV:An->Code->St U->(St U->Option α)->Option α)(al:List Oper):List Nat->An->St U->(St U->Option α)->Option α
 |[],_,s,K=>K s
 |i::l,an,s,K=>match nth al i with
  |some o=>(match an with
   | .il k a r=>bif Nat.beq k i then(bif Nat.beq (Fp FZ o.op) 2 then bD5 al o (λs=>inl TI IL EV a o s λs'=>ilr IL EV al l r s' K) s (λs'=>ilr IL EV al l r s' K) else none) else grd Y TI FZ al o s λs'=>ilr IL EV al l (.il k a r) s' K
   |an=>grd Y TI FZ al o s λs'=>ilr IL EV al l an s' K)
  |none=>none
def ilY (IL:Il)(EV:An->Code->St U->(St U->Option α)->Option α)(al:List Oper)(a0:Option Nat):List (Nat×Bool)->An->Bool->Bool->St U->(St U->Option α)->Option α
 |[],_,_,_,s,K=>K s
 |(i,fl)::l,an,pre,st,s,K=>match nth al i with
  |some o=>bif fl then(bif Nat.beq (Fp FZ o.op) 0&&(aVh o.op||st) then grd Y TI FZ al o s (λs'=>ilY IL EV al a0 l an pre st s' K) else none)
   else(match an with
    | .il k b r=>bif Nat.beq k i then(bif Nat.beq (Fp FZ o.op) 2&& !(pre&& !Rv a0 i) then bD5 al o (λs=>inl TI IL EV b o s λs'=>ilY IL EV al a0 l r false st s' K) s (λs'=>ilY IL EV al a0 l r false st s' K) else none)
     else grd Y TI FZ al o s (λs'=>bif !(pre&& !Rv a0 i)||(Nat.ble (Fp FZ o.op) 1||unO none s'.m.o) then ilY IL EV al a0 l (.il k b r) (pre&& !Rv a0 i) (st&&Sa (none:Option (Nat×Nat))) s' K else none)
    |an=>grd Y TI FZ al o s (λs'=>bif !(pre&& !Rv a0 i)||(Nat.ble (Fp FZ o.op) 1||unO none s'.m.o) then ilY IL EV al a0 l an (pre&& !Rv a0 i) (st&&Sa (none:Option (Nat×Nat))) s' K else none))
  |none=>none
def rng:Nat->Nat->List Nat
 |0,_=>[]
 |n+1,i=>i::rng n (Nat.succ i)
def plT (FZ:List (Nat×Sum U)):List (Nat×Sum U):=FZ.map λp=>(p.1,⟨p.2.ar,p.2.rs,p.2.fr&&p.2.wt,p.2.wt,p.2.m⟩)
def bPc (IL:Il)(EV:An->Code->St U->(St U->Option α)->Option α)(al:List Oper)(os:Array Oper)(d:Bool)(an:An)(s:St U)(N:St U->Option α):Option α:=match an with
 | .il k a r=>match ilo r with
  | .y _ _ a0 ord=>bif d&&bD9 os none a0 ord then ilY Y TI FZ IL EV al a0 ord (.il k a r) true true s N else none
  |_=>match(bif d then aSm FZ al os (ilo r) else some (rng (len al) 0)) with
   |some l=>ilr Y TI FZ IL EV al l (.il k a r) s N
   |none=>none
 | .pl a=>match a with
  | .r a0 ord=>rgn Y TI (plT FZ) al os d (.r a0 ord) s N
  |_=>rgn Y TI (plT FZ) al os d .n s N
 |an=>rgn Y TI FZ al os d an s N
def cCh:An->Bool
 | .l .. =>true
 | .s .. =>true
 |_=>false
variable (IL:Il)
def ev:Nat->An->Code->(α:Type)->St U->(St U->Option α)->(Nat->St U->Option α)->(St U->Option α)->Option α
 |0,_,_,_,_,_,_,_=>none
 |f+1, .j tm a,c,α,s,N,_,_=>bif wr tm.ws f c&&anW tm.ws a then bd (ev f a c (Dat U tm.it) s (λs'=>col Y s tm s') (λ_ _=>none) (λ_=>none)) λd=>N (reb Y s tm d) else none
 |f+1, .jx tm a,c,α,s,N,X,R=>bif wr tm.ws f c&&anW tm.ws a then nx (ev f a c (α⊕Dat U tm.it) s (λs'=>bd (col Y s tm s') λd=>some (.inr d)) (λi s'=>bd (X i s') λr=>some (.inl r)) (λs'=>bd (R s') λr=>some (.inl r))) λd=>N (reb Y s tm d) else none
 |f+1,an, .seq a b,α,s,N,X,R=>ev f an.a a α s (λs'=>ev f an.b b α s' N X R) X R
 |f+1,an, .cond c a b,α,s,N,X,R=>match c with
  | .tmp n=>tst n s (λs=>ev f an.a a α s N X R) (λs=>ev f an.b b α s N X R)
  |_=>none
 |f+1,an, .block id c,α,s,N,X,R=>ev f an.a c α s N (λi s'=>bif Nat.beq i id then N s' else X i s') R
 |f+1, .l tm n a, .loop c,α,s,_,X,R=>bif wr tm.ws f c&&anW tm.ws a then bd (col Y s tm s) (bI n λrec d=>ev f a c α (reb Y s tm d) (λs'=>bd (col Y s tm s') rec) X R) else none
 |f+1, .s a b, .loop c,α,s,N,X,R=>bif cCh b then ev f a c α s (λs'=>ev f b (.loop c) α s' N X R) X R else none
 |_+1,_, .skip,_,s,N,_,_=>N s
 |_+1,_, .ret,_,s,_,_,R=>R s
 |_+1,_, .exit i,_,s,_,X,_=>X i s
 |f+1,an, .region _ os d,α,s,N,_,_=>bPc Y TI FZ IL (λa c s K=>ev f a c α s K (λ_ _=>none) K) os.toList os d an s N
 |_+1,_,_,_,_,_,_,_=>none
def aOc (m:Mm U):List (Lf U)->Option (List Nat)
 |[]=>some []
 | .own i r::xs=>match nth m.o i with
  |some ⟨.tree _ d _,rv,_⟩=>bif Nat.beq rv r&&d then(match aOc m xs with
   |some l=>some (i::l)
   |none=>none) else none
  |_=>none
 |x::xs=>match x with
  | .sl .. =>none
  | .bor .. =>none
  | .inn .. =>none
  |_=>aOc m xs
def bPd (m:Mm U):List (Sv U)->Option (List Nat)
 |[]=>some []
 |x::xs=>match parts x with
  |some cs=>match aOc m cs with
   |some l=>match bPd m xs with
    |some l'=>some (l++l')
    |none=>none
   |none=>none
  |none=>none
def fin (fr:Bool)(ks:List Kd)(rs:List ResultVar)(s:St U):Option (sW U ks):=match aE2 TI s rs with
 |some xs=>bif fr then(match bPd s.m xs with
  |some l=>bif dist l&&aVd (U:=U) ks then pM Y s.m ks xs else none
  |none=>none) else pM Y s.m ks xs
 |none=>none
def ini (n:Nat)(ks:List Kd)(a:sW U ks):St U:=
 let l:=(bK Y ks a).map bJy
 ⟨l++List.replicate (n-len l) (.l .any),⟨[],0,[]⟩,[]⟩
def yZ (an:An)(c:Code)(n:Nat)(ar rs:List Kd)(fr:Bool)(rv:List ResultVar)(a:sW U ar):Option (sW U rs):=
 ev Y TI FZ IL 1000 an c (sW U rs) (ini Y n ar a) (fin Y TI fr rs rv) (λ_ _=>none) (fin Y TI fr rs rv)
def bWd (n T:Nat)(ks:List Kd)(a:sW U (.st T::ks)):St U:=match bK Y (.st T::ks) a with
 |(_,cs)::b=>let l:=Sv.l (.box 0 0)::b.map bJy
  ⟨l++List.replicate (n-len l) (.l .any),⟨[⟨.box T cs (cs.map λ_=>0),0,0⟩],0,[]⟩,[]⟩
 |[]=>⟨[],⟨[],0,[]⟩,[]⟩
def bR5:Lf U->Bool
 | .own i _=>Nat.ble 1 i
 | .bor i _ _ _=>Nat.ble 1 i
 | .inn i _ _ _ _ _ _ _=>Nat.ble 1 i
 |_=>true
def bBi:List (Lf U)->Bool
 |[]=>true
 |x::xs=>bR5 x&&bBi xs
def cEm:Sv U->Bool
 | .l x=>bR5 x
 | .a cs=>bBi cs
 | .t _=>false
def bGo:List (Sv U)->Bool
 |[]=>true
 |x::xs=>cEm x&&bGo xs
def bWe (T:Nat)(rs:List Kd)(rv:List ResultVar)(s:St U):Option (sW U (.st T::rs)):=match nth s.m.o 0 with
 |some ⟨.box T' cs _,_,_⟩=>match aE2 TI s rv with
  |some xs=>bif Nat.beq T' T&&(bBi cs&&bGo xs) then pM Y s.m (.st T::rs) (.a cs::xs) else none
  |none=>none
 |_=>none
def evP (an:An)(c:Code)(n T:Nat)(ks rs:List Kd)(rv:List ResultVar)(a:sW U (.st T::ks)):Option (sW U (.st T::rs)):=
 ev Y TI FZ IL 1000 an c (sW U (.st T::rs)) (bWd Y n T ks a) (bWe Y TI T rs rv) (λ_ _=>none) (bWe Y TI T rs rv)
end
end Go.EV
namespace Go.EV
open Go.RowKit Go.VK
section lists
variable {α:Type}
theorem aY:∀(l:List α) (n:Nat),nth l n=l[n]?
 |[],n=>by cases n<;>rfl
 |x::l,0=>rfl
 |x::l,n+1=>by rw[ex];exact aY l n
theorem dJ:∀(l:List α) (n:Nat) (y:α),upd l n y=l.set n y
 |[],n,y=>by cases n<;>rfl
 |x::l,0,y=>rfl
 |x::l,n+1,y=>by rw[gk,<-dJ l n y];rfl
theorem aOd:∀(l:List α) (n:Nat),drp l n=l.drop n
 |[],n=>by cases n<;>rfl
 |x::l,0=>rfl
 |x::l,n+1=>by rw[gi];exact aOd l n
theorem bBj:∀(l:List α) (n:Nat),tk l n=l.take n
 |[],n=>by cases n<;>rfl
 |x::l,0=>rfl
 |x::l,n+1=>by rw[ia,<-bBj l n];rfl
theorem dA:∀(l:List α),len l=l.length
 |[]=>rfl
 |x::l=>by rw[aq,<-dA l];rfl
theorem Xp:∀(l:List α) (n:Nat) (vs:List α),n+vs.length<=l.length->spl l n vs=l.take n++vs++l.drop (n+vs.length)
 |[],n,vs,h=>by
  have h1:vs=[]:=cg (by simp only[bc] at h;omega);subst h1;cases n<;>rfl
 |x::l,0,vs,h=>by
  show vs++drp (x::l) (len vs)=_;rw[aOd,dA];simp
 |x::l,n+1,vs,h=>by
  show x::spl l n vs=_;rw[Xp l n vs (by simp at h;omega),show n+1+vs.length=(n+vs.length)+1 by omega];rfl
def bX4:∀{l:List α} {n:Nat} {x:α},l[n]? =some x->At l n x
 |[],n,x,h=>by simp at h
 |y::l,0,x,h=>by simp at h;subst h;exact .z
 |y::l,n+1,x,h=> .s (bX4 (by simpa using h))
def aUk {l:List (Nat×α)}{n:Nat}{x:α}(h:jV l n=some x):(n,x)∈l:=by
 induction l with
 |nil=>cases h
 |cons y l d=>
  have c:cond (Nat.beq y.1 n) (some y.2) (jV l n)=some x:=h;cases hb:Nat.beq y.1 n with
  |true=>rw[hb] at c;obtain⟨a,b⟩:=y;have:a=n:=ah hb;simp at c;subst c;subst this;exact dv
  |false=>rw[hb] at c;exact dx _ (d c)
end lists
variable {U:Uni} {Y:Lay U} {P:Program} {g:GI} {E:Env U g}
structure bJ (C:Cod U) (E:Env U g) (s:St U) (a:Act) (w:World) (β:List Tr):Prop where
 hp:Hp C E s.m β w
 defers:a.defers=[]
 tsz:a.tmps.size=s.t.length
 tm:∀(n:Nat) (x:Sv U),s.t[n]? =some x->x.mean C w (E.X β) β s.m (a.tmps.getD n undef)
section
variable {C:Cod U} {s:St U} {a:Act} {w w':World} {β β':List Tr}
def bJ.put (r:bJ C E s a w β){d:Option Nat}{x:Sv U}{v:Value}(h:d≠none->x.mean C w (E.X β) β s.m v):bJ C E (put s d x) (a.put d v) w β:=by
 cases d with
 |none=>exact r
 |some n=>
  refine⟨r.hp,r.defers,?_,λm y hm=> ?_⟩
  ·simp only[EV.put,dJ,aw];simpa[Act.put] using r.tsz
  ·simp only[EV.put,dJ] at hm ⊢;have b:m<s.t.length:=by have:=lt_of_some hm;simpa using this
   simp only[Act.put];by_cases hn:n<s.t.length
   ·rw[Gm _ _ _ _ _ (by rw[r.tsz];exact hn)];by_cases he:n=m
    ·subst he;rw[bl hn] at hm;injection hm with hm;rw[cR rfl,<-hm];exact h (by simp)
    ·rw[bh he] at hm;rw[dk he];exact r.tm m y hm
   ·rw[jq (by omega)] at hm;have:(a.tmps.setIfInBounds n v)=a.tmps:=by apply eL;rw[r.tsz];omega
    rw[this];exact r.tm m y hm
def bJ.go (r:bJ C E s a w β){m':Mm U}(h:Hp C E m' β' w')(he:Evo w w' (E.X β) (E.X β') β β' s.m m' s.m.o.length s.m.ns.length s.m.k){fr:List (List (Sv U))}:bJ C E ⟨s.t,m',fr⟩ a w' β':=
 ⟨h,r.defers,r.tsz,λn x b=>Sv.aAV he (r.tm n x b)⟩
def Evo.ext (he:Ext w w'){m:Mm U}(H:Hp C E m β w):Hp C E m β w'/\Evo w w' (E.X β) (E.X β) β β m m m.o.length m.ns.length m.k:=by
 have ev:Evo w w' (E.X β) (E.X β) β β m m m.o.length m.ns.length m.k:=⟨he.size,λ_ _ h=>h,λ_ _ _ h=>he.cell h,ak _,λa i f _ h=>⟨f,h⟩,λi e t _ h1 h2=>⟨e,t,h1,h2,λ_=>⟨rfl,rfl⟩,λ_=>⟨rfl,rfl,rfl,λb hb=>he.block b (H.new i t b h2 hb).2⟩,λh=>⟨h,rfl⟩⟩⟩;refine⟨⟨H.ext.trans (Bel.aBL he),H.len,H.vers,H.cnt,λi t b h1 h2=>⟨(H.new i t b h1 h2).1,bz (H.new i t b h1 h2).2 he.size⟩,H.dist,H.nd,λi t e h1 h2=>Ob.aBE ev (H.ok i t e h1 h2) λb hb=>he.block b (H.new i t b h1 hb).2,λx c=>Sv.aAV ev (H.pin x c),λx c=> ?_,λf j=> ?_⟩,ev⟩
 ·obtain⟨h1,h2,d,l⟩:=H.prm x c;exact⟨h1,(he.block _ (ca.1 h2).1).trans h2,d,l⟩
 ·obtain⟨h1,h2,h0,d⟩:=H.fr f j;exact⟨h1,h2,bm h0 he.size,d.imp id λq=>⟨q.1.trans he,q.2⟩⟩
def bJ.ext (r:bJ C E s a w β)(he:Ext w w'):bJ C E s a w' β:=by obtain⟨h1,h2⟩:=Evo.ext he r.hp;exact r.go h1 h2
def bR6 {X:Nat->Prop}{m:Mm U}{v:Value}{x:Lf U}(h:x.mean C w X β m v):(rsv m.ns x).mean C w X β m v:=by
 cases x with
 |nat a=>obtain⟨i,f,h1,h2,b⟩:=h;simp only[rsv,aY,h1];exact⟨h2,by simp[IntKind.min,IntKind.signed,IntKind.bits],by simpa[IntKind.max,IntKind.signed,IntKind.bits] using b⟩
 |lt a n=>obtain⟨i,f,h1,h2,b⟩:=h;simp only[rsv,aY,h1];exact h2
 |_=>exact h
theorem qE {τ τ':Nat}{l:List (U.El τ')}{l':List (U.El τ)}(h:slq τ τ' l=some l'):τ'=τ/\HEq l l':=by
 unfold slq at h;split at h
 ·rename_i he;subst he;simp at h;subst h;exact⟨rfl,HEq.rfl⟩
 ·cases h
def bWf {τ τ':Nat}{l:List (U.El τ')}{l':List (U.El τ)}(h:slq τ τ' l=some l'):Lf.sl τ' l=Lf.sl τ l':=by obtain⟨rfl,h⟩:=qE h;rw[et h]
def Hp.tree (H:Hp C E s.m β w){i:Nat}{t:Tr}{e:EO U}{τ:Nat}{d:Bool}{l:List (U.El τ)}(h1:β[i]? =some t)(h2:s.m.o[i]? =some e)(b:e.ob= .tree τ d l):Ow C w (E.X β) d t.val (.sl τ l) t.all:=by have:=H.ok i t e h1 h2;rw[b] at this;obtain⟨c,xs,f,h⟩:=this;exact .sl t c f h
theorem cAh {b:Nat}{i:Nat}{t:Tr}(h1:β[i]? =some t)(h2:b∈t.all):E.X β b:= .inr (.inr ⟨t,aE h1,h2⟩)
def cAi:Lf U->Option Nat
 | .own i _=>some i
 | .bor i _ _ _=>some i
 | .inn i _ _ _ _ _ _ _=>some i
 |_=>none
def Fz (β:List Tr)(Z:Nat->Prop)(x:Lf U):Prop:=∀(i:Nat) (t:Tr) (b:Nat),cAi x=some i->β[i]? =some t->b∈t.all->¬Z b
def Fz.of {Z:Nat->Prop}{x:Lf U}(h:rM x=true\/∀(i:Nat) (t:Tr) (b:Nat),β[i]? =some t->b∈t.all->¬Z b):Fz β Z x:=λi t b ho ht hb=>by
 rcases h with h|h
 ·cases x<;>first|(cases ho;done)|(cases h;done)
 ·exact h i t b ht hb
theorem bBk (H:Hp C E s.m β w){v:Value}{x y:Lf U}(hm:x.mean C w (E.X β) β s.m v)(h:wI s.m x=some y){Z:Nat->Prop}(F:∀b,Z b->E.X β b)(p:Fz β Z x):
  y.aBA=true/\Rd w Z [] v y.toV:=by
 have G:∀b,b<w.heap.size->Z b->E.X β b:=λb _ hb=>F b hb;cases x with
 |int k n=>simp only[wI,ai] at h;subst h;obtain⟨rfl,h1,h2⟩:=hm;exact⟨rfl, .int h1 h2⟩
 |bool b=>simp only[wI,ai] at h;subst h;obtain rfl:=hm;exact⟨rfl, .bool⟩
 |str z=>simp only[wI,ai] at h;subst h;obtain⟨rfl,h1⟩:=hm;exact⟨rfl, .str h1⟩
 |sl τ l=>simp only[wI,ai] at h;subst h;exact⟨rfl,Rd.conv hm (ak _) G (λ_ _ _ h=>h) (λ_ _ h=>h)⟩
 |nat a=>obtain⟨i,f,h1,rfl,o⟩:=hm;simp only[wI,aY,h1,ai] at h;subst h;exact⟨rfl, .int (by simp[IntKind.min,IntKind.signed,IntKind.bits]) (by simpa[IntKind.max,IntKind.signed,IntKind.bits] using o)⟩
 |lt a n=>obtain⟨i,f,h1,rfl,o⟩:=hm;simp only[wI,aY,h1,ai] at h;subst h;exact⟨rfl, .bool⟩
 |own i r=>
  obtain⟨_,e,t,h2,o,B⟩:=hm;simp only[wI,aY,h2] at h;obtain⟨ob,rv,cv⟩:=e;cases ob with
  |tree τ d l=>
   cases hb:Nat.beq rv r with
   |false=>simp[hb] at h
   |true=>simp only[hb,ae,ai] at h;subst h;rw[B (ah hb)];exact⟨rfl,(Hp.tree H o h2 rfl).rd F (λb hb'=>p i t b rfl o hb')⟩
  |_=>cases h
 |bor i c τ l=>
  obtain⟨_,e,t,h2,o,B⟩:=hm;simp only[wI,okv,aY,h2] at h;cases hb:Nat.beq e.cv c with
  |false=>simp[hb] at h
  |true=>simp only[hb,ae,ai] at h;subst h;refine⟨rfl,(B (ah hb)).conv (ak _) (λb _ hb'=>⟨F b hb',λI=>p i t b rfl o I hb'⟩) (λ_ _ _ h=>h) (λ_ _ h=>h)⟩
 |inn i c τ q z j τ' l=>
  obtain⟨_,e,t,h2,o,B⟩:=hm;simp only[wI,okv,aY,h2] at h;cases hb:Nat.beq e.cv c with
  |false=>simp[hb] at h
  |true=>
   simp only[hb,ae,ai] at h;subst h;obtain⟨d,L,xs,S,a2,T,Q,R,V⟩:=B (ah hb);have D:=H.ok i t e o h2;rw[S] at D;obtain⟨k1,J,k2,k3⟩:=D;obtain rfl:J=xs:=by
    rcases fA k2 with⟨b1,W,b3,_⟩|⟨b,cur,b1,_,_,_,b5,_,b7⟩
    ·rw[b3];have:=R.1;rw[W] at this;simp at this;exact this.symm
    ·rcases fA R with⟨u,_⟩|⟨b',cur',u,_,_,_,A,_,c7⟩
     ·rw[b1] at u;cases u
     ·rw[b1] at u;injection u with u;subst u;rw[b5] at A;injection A with A;injection A with A;subst A;rw[<-b7,<-c7]
   obtain⟨l1,l2,g1,g2,g3,g4⟩:=aJh (C.hlen τ) T;have O:(L.map (C.cel τ)).flatten[q.toNat*U.K τ+j]? =some (.sl τ' l):=by rw[g3,<-g4,az (di _ _),cL,av (lt_of_some Q)];exact Q
   have:=(k3.rd F (λb hb'=>p i t b rfl o (by simp[Tr.all,hb']))).2 _ _ _ V O;exact⟨rfl,this⟩
 |_=>cases h
def Sb (H:Hp C E s.m β w){v:Value}{x y:Lf U}(hm:x.mean C w (E.X β) β s.m v)(h:wI s.m x=some y){Z:Nat->Prop}(d:∀b,Z b->E.X β b)(c:rM x=true\/∀(i:Nat) (t:Tr) (b:Nat),β[i]? =some t->b∈t.all->¬Z b):
  y.aBA=true/\Rd w Z [] v y.toV:=bBk H hm h d (Fz.of c)
end
end Go.EV
namespace Go.EV
open Go.RowKit Go.VK
def kzB:Value->Kz->Bool
 | .int k n, .int c=>decide (k=c)&&decide (n=0)&&decide (k.min<=0)&&decide (0<=k.max)
 | .bool b, .bool=> !b
 | .string s, .str=>Nat.beq s.data.size 0
 | .slice none 0 0, .nil=>true
 |_,_=>false
def bJ9:List Value->List Kz->Bool
 |[],[]=>true
 |v::vs,z::b=>kzB v z&&bJ9 vs b
 |_,_=>false
def fsB (P:Program)(t:Nat):Nat->List (Nat×Nat×Nat)->Bool
 |_,[]=>true
 |f,(off,ft,n)::l=>(bRp P t f off&&bO8 P t f ft off&&(match P.info? ft with|some j=>j.size==n|none=>false))&&fsB P t (f+1) l
def bEa:List (Nat×Nat)->List (Nat×Nat×Nat)->Bool
 |[],[]=>true
 |(a,b)::l,(off,_,n)::l'=>Nat.beq a off&&Nat.beq b n&&bEa l l'
 |_,_=>false
def arB (P:Program)(t k:Nat):Bool:=match P.underlying t with
 |some (.array n e)=>Nat.beq n k&&(match P.info? e with|some j=>Nat.beq j.size 1|none=>false)
 |_=>false
def bWg {P:Program}{t k j:Nat}{w:World}(h:arB P t k=true)(hj:j<k)(b:Addr)(f:IntKind):(Instr.indexAt t (.pointer (some b)) (.int f (j:Int))).run P w= .ok (.pointer (some (b.add j))) w:=by
 unfold arB at h;cases c:P.underlying t with
 |none=>simp_all
 |some d=>
  cases d<;>simp[c] at h;rename_i n e;obtain⟨h1,h2⟩:=h;cases hi:P.info? e with
  |none=>simp_all
  |some i=>simp[hi] at h2;subst h1;simp[Instr.indexAt,asIntOf,run_underlying c,Instr.sureAddr,sizeOf,typeInfo,hi,h2,hj]
def Rm (P:Program)(f:Field):Bool:=match P.underlying f.type with
 |some (.int _)=>true
 |some .bool=>true
 |some .string=>true
 |_=>false
def Za (P:Program)(t:Nat):Bool:=match P.underlying t with
 |some (.int _)=>true
 |some .bool=>true
 |some .string=>true
 |some (.struct fds)=>fds.toList.all (Rm P)
 |_=>false
def cAj (P:Program)(t:Nat):Bool:=match P.underlying t with
 |some (.struct fds)=> !(fds.toList.all λf=>Za P f.type)||(!P.eqGuardType P.depth t&&(!P.stoodInHeld t&&fds.toList.all λf=>f.name != "_"))
 |_=>true
def tiB (P:Program)(t:Nat)(i:TInfo):Bool:=
 (match i.u with
 | .int k=>(match P.underlying t with|some (.int b)=>decide (b=k)|_=>false)&&L6 P t&&Nat.beq i.k 1
 | .bool=>(match P.underlying t with|some .bool=>true|_=>false)&&L6 P t&&Nat.beq i.k 1
 | .str=>(match P.underlying t with|some .string=>true|_=>false)&&L6 P t&&Nat.beq i.k 1
 | .sl e ek eb=>slB P t e ek eb&&L6 P t&&Nat.beq i.k 1
 | .st fs=>(bO2 P t i.k&&cAj P t)&&fsB P t 0 fs&&(match fs with|[]=>arB P t i.k|_=>(match aU3 P t with|some l=>bEa l fs|none=>false)))&&
 (match P.info? t with|some j=>(match j.zero with|some z=>bJ9 z.cells.toList i.z|none=>false)|none=>false)
def uW (P:Program)(TI:List (Nat×TInfo)):Bool:=TI.all λx=>tiB P x.1 x.2
section
variable {P:Program} {TI:List (Nat×TInfo)}
def bT (h:uW P TI=true){t:Nat}{i:TInfo}(b:jV TI t=some i):tiB P t i=true:=by have:=cx.1 h _ (aUk b);exact this
def M3 {t:Nat}{i:TInfo}{k:IntKind}(h:tiB P t i=true)(b:i.u= .int k):P.underlying t=some (.int k)/\L6 P t=true/\i.k=1:=by
 grind[Nat.eq_of_beq_eq_true,tiB]
def aJn {t:Nat}{i:TInfo}(h:tiB P t i=true)(b:i.u= .bool):P.underlying t=some .bool/\L6 P t=true/\i.k=1:=by
 grind[Nat.eq_of_beq_eq_true,tiB]
def Xq {t:Nat}{i:TInfo}(h:tiB P t i=true)(b:i.u= .str):P.underlying t=some .string/\L6 P t=true/\i.k=1:=by
 grind[Nat.eq_of_beq_eq_true,tiB]
def Gp {t:Nat}{i:TInfo}{e ek eb:Nat}(h:tiB P t i=true)(b:i.u= .sl e ek eb):slB P t e ek eb=true/\L6 P t=true/\i.k=1:=by
 grind[Nat.eq_of_beq_eq_true,tiB]
def aJo {t:Nat}{i:TInfo}{fs:List (Nat×Nat×Nat)}(h:tiB P t i=true)(b:i.u= .st fs):bO2 P t i.k=true/\fsB P t 0 fs=true/\((fs≠[]/\∃l,aU3 P t=some l/\bEa l fs=true)\/(fs=[]/\arB P t i.k=true)):=by
 grind[aU3,inl,tiB]
def cCi {t:Nat}{i:TInfo}{fs:List (Nat×Nat×Nat)}(h:tiB P t i=true)(b:i.u= .st fs):cAj P t=true:=by
 grind[tiB]
def aUm {t:Nat}{i:TInfo}(h:tiB P t i=true):∃j z,P.info? t=some j/\j.zero=some z/\bJ9 z.cells.toList i.z=true:=by
 grind[tiB]
def aVk {t:Nat}:∀{fs:List (Nat×Nat×Nat)} {f n off ft k:Nat},fsB P t f fs=true->fs[n]? =some (off,ft,k)->bRp P t (f+n) off=true/\bO8 P t (f+n) ft off=true/\∃j,P.info? ft=some j/\j.size=k
 |[],f,n,off,ft,k,h,hn=>by simp at hn
 |(a,b,c)::fs,f,0,off,ft,k,h,hn=>by
  simp at hn;obtain⟨rfl,rfl,rfl⟩:=hn;simp only[fsB,ac] at h;refine⟨h.1.1.1,h.1.1.2,?_⟩;cases hj:P.info? b with
  |none=>simp[hj] at h
  |some j=>simp[hj] at h;exact⟨j,rfl,h.1.2⟩
 |(a,b,c)::fs,f,n+1,off,ft,k,h,hn=>by
  simp only[fsB,ac] at h;have:=aVk (f:=f+1) (n:=n) h.2 (by simpa using hn);rw[show f+(n+1)=f+1+n by omega];exact this
end
variable {U:Uni} {Y:Lay U} {TI:List (Nat×TInfo)} {P:Program} {g:GI} {E:Env U g}
noncomputable def lv (m:Mm U)(fr:Bool)(x:Lf U):V:=match x with
 | .nil=> .nil
 |x=>bif fr&& !rM x then .any else match wI m x with
  |some y=>y.toV
  |none=> .any
noncomputable def vw (m:Mm U)(fr:Bool):Sv U->V
 | .l x=>lv m fr x
 | .a cs=> .agg (cs.map (lv m fr))
 | .t _=> .any
section
variable {C:Cod U} {s:St U} {a:Act} {w w':World} {β β':List Tr}
theorem bMs (H:Hp C E s.m β w){v:Value}{x:Lf U}(hm:x.mean C w (E.X β) β s.m v)(fr:Bool){Z:Nat->Prop}(c:∀b,Z b->fr=true/\E.X β b):Rd w Z [] v (lv s.m fr x):=by
 have go:Rd w Z [] v (bif fr&& !rM x then .any else match wI s.m x with|some y=>y.toV|none=> .any):=by
  cases fr with
  |false=>
   simp only[Bool.false_and,aa];cases hr:wI s.m x with
   |none=>exact .any
   |some y=>exact(Sb H hm hr (λb hb=>(c b hb).2) (.inr λ_ _ b _ _ hb=>by cases(c b hb).1)).2
  |true=>
   cases d:rM x with
   |false=>exact .any
   |true=>
    simp only[aj,ee,aa];cases hr:wI s.m x with
    |none=>exact .any
    |some y=>exact(Sb H hm hr (λb hb=>(c b hb).2) (.inl d)).2
 cases x with
 |nil=>obtain rfl:=hm;exact .nil
 |_=>exact go
noncomputable def Zf (E:Env U g)(β:List Tr)(fr:Bool)(b:Nat):Prop:=fr=true/\E.X β b
noncomputable def brE (H:Hp C E s.m β w)(fr:Bool):VK.Env P g:=⟨Zf E β fr,w,λb hb=>H.aCB b hb.2,H.gw⟩
noncomputable def brS (s:St U)(fr:Bool):VK.S:=⟨s.t.map (vw s.m fr),[]⟩
def br (r:bJ C E s a w β)(fr:Bool):RelB (brE (P:=P) r.hp fr) (brS s fr) [] a w where
 ext:=Ext.refl w
 defers:=r.defers
 tsz:=by simp[brS,r.tsz]
 tmps:=λn W d=>by
  simp only[brS,bq] at d;cases e:s.t[n]? with
  |none=>simp_all
  |some x=>
   simp only[e,dn,ai] at d;subst d;have hm:=r.tm n x e;have f:∀b,(brE (P:=P) r.hp fr).X [] b->fr=true/\E.X β b:=λb hb=>by
    rcases hb with hb|⟨t,ht,_⟩
    ·exact hb
    grind
   cases x with
   |l y=>exact bMs r.hp hm fr f
   |t xs=>exact .any
   |a cs=>
    obtain⟨vs,h1,h2,h⟩:=hm;rw[h1];refine .agg (by simp[h2]) (λi v c k1 k2=> ?_)
    grind[k2,Option.some.injEq,bMs,k1]
 blen:=rfl
 new:=by simp
 dist:=by simp
 objs:=by simp[brS]
def bR7 {E':VK.Env P g}{S:VK.S}{v:Value}{m:Mm U}{fr:Bool}:VK.Ev E' S (.const v) (vw m fr (bGj v)):=by
 have any:∀v,VK.Ev E' S (.const v) .any:=λv _ _ _ _=> .any;unfold bGj;split
 ·rename_i k n;cases h:bGi k n with
  |false=>cases fr<;>exact any _
  |true=>
   simp only[ae,vw,lv,rM,aj,ee,aa,wI,Lf.toV];refine .i ?_
   grind[bGi]
 ·simp only[vw,lv,rM,aj,ee,aa,wI,Lf.toV];exact .b
 ·rename_i z;cases h:Nat.ble (len z.data.toList) 1000 with
  |false=>cases fr<;>exact any _
  |true=>simp only[ae,vw,lv,rM,aj,ee,aa,wI,Lf.toV];refine .s ?_;simp_all[au,dA,cD,ba]
 ·exact .n
 ·cases fr<;>exact any _
theorem bEb {E':VK.Env P g}{fr:Bool}{x:Operand}:VK.Ev E' (brS s fr) x (vw s.m fr (zK s x)):=by
 have any:∀x,VK.Ev E' (brS s fr) x .any:=λx _ _ _ _=> .any;cases x with
 |tmp n=>
  simp only[zK,aY];cases h:s.t[n]? with
  |none=>cases fr<;>exact any _
  |some y=>exact .t (bX4 (by simp[brS,h]))
 |const v=>exact bR7
 |_=>cases fr<;>exact any _
def bKa {X:Nat->Prop}{m:Mm U}{v:Value}:(bGj v:Sv U).mean C w X β m v:=by
 unfold bGj;split
 ·rename_i k n;cases h:bGi k n with
  |false=>trivial
  |true=>simp only[bGi,ac,cn] at h;exact⟨rfl,h⟩
 ·rfl
 ·rename_i z;cases h:Nat.ble (len z.data.toList) 1000 with
  |false=>trivial
  |true=>have:=ba h;rw[dA,cD] at this;refine⟨rfl,?_⟩;simp_all[maxLen];omega
 ·rfl
 ·trivial
def lG (r:bJ C E s a w β){x:Operand}:(zK s x).mean C w (E.X β) β s.m (a.eval x):=by
 cases x with
 |tmp n=>
  simp only[zK,aY];cases h:s.t[n]? with
  |none=>trivial
  |some y=>exact r.tm n y h
 |const v=>exact bKa
 |_=>trivial
theorem Gq (r:bJ C E s a w β){x:Operand}:(eT s x).mean C w (E.X β) β s.m (a.eval x):=by
 have:=lG r (x:=x);unfold eT;cases h:zK s x with
 |l y=>rw[h] at this;exact bR6 this
 |_=>simp_all
def bX5:Lf U->Bool
 | .int .. =>true
 | .bool _=>true
 | .str _=>true
 |_=>false
def bR8 {x:Operand}{y:Lf U}(h:eT s x= .l y)(c:bX5 y=true)(fr:Bool):vw s.m fr (zK s x)=y.toV:=by
 unfold eT at h;cases ho:zK s x with
 |l z=>
  simp only[ho,Sv.l.injEq] at h;simp only[vw];cases z with
  |nat a=>
   simp only[rsv,aY] at h;cases hn:s.m.ns[a]? with
   |none=>simp only[hn] at h;subst h;cases c
   |some p=>grind[lv,rM,wI,aY]
  |lt a n=>
   simp only[rsv,aY] at h;cases hn:s.m.ns[a]? with
   |none=>simp only[hn] at h;subst h;cases c
   |some p=>grind[lv,rM,wI,aY]
  |int k n=>grind[lv,rM,wI,rsv]
  |bool b=>grind[lv,rM,wI,rsv]
  |str b=>grind[lv,rM,wI,rsv]
  |_=>simp only[rsv] at h;subst h;cases c
 |_=>simp_all
def bEc {E':VK.Env P g}{x:Operand}{y:Lf U}(h:eT s x= .l y)(b:bX5 y=true)(fr:Bool):VK.Ev E' (brS s fr) x y.toV:=by rw[<-bR8 h b fr];exact bEb
theorem dW {E':VK.Env P g}{x:Operand}{k:IntKind}{n:Int}(h:eT s x= .l (.int k n))(fr:Bool:=false):VK.Ev E' (brS s fr) x (.int k n):=bEc h rfl fr
theorem bEd {E':VK.Env P g}{x:Operand}{b:Bool}(h:eT s x= .l (.bool b))(fr:Bool:=false):VK.Ev E' (brS s fr) x (.bool b):=bEc h rfl fr
def Xr {E':VK.Env P g}{x:Operand}{z:ByteArray}(h:eT s x= .l (.str z))(fr:Bool:=false):VK.Ev E' (brS s fr) x (.str z):=bEc h rfl fr
def bX6 {E':VK.Env P g}{x:Operand}{p:Lf U}{τ:Nat}{l:List (U.El τ)}(h:eT s x= .l p)(hr:wI s.m p=some (.sl τ l)):VK.Ev E' (brS s false) x (.slice (U.K τ) (l.map (U.enc τ))):=by
 have hv:vw s.m false (zK s x)= .slice (U.K τ) (l.map (U.enc τ)):=by
  unfold eT at h;cases ho:zK s x with
  |l z=>
   simp only[ho,Sv.l.injEq] at h;simp only[vw];have:wI s.m z=some (.sl τ l)/\z≠ .nil:=by
    cases z with
    |nat a=>
     simp only[rsv,aY] at h;cases hn:s.m.ns[a]? with
     |none=>simp only[hn] at h;subst h;cases hr
     |some q=>simp only[hn] at h;subst h;cases hr
    |lt a n=>
     simp only[rsv,aY] at h;cases hn:s.m.ns[a]? with
     |none=>simp only[hn] at h;subst h;cases hr
     |some q=>simp only[hn] at h;subst h;cases hr
    |nil=>simp only[rsv] at h;subst h;cases hr
    |_=>simp only[rsv] at h;subst h;exact⟨hr,by simp⟩
   grind[absurd,lv,Lf.toV]
  |_=>simp_all
 grind[bEb]
def cCj {E':VK.Env P g}{x:Operand}{τ:Nat}{l:List (U.El τ)}(h:eT s x= .l (.sl τ l))(fr:Bool:=true):VK.Ev E' (brS s fr) x (.slice (U.K τ) (l.map (U.enc τ))):=by
 have hv:vw s.m fr (zK s x)= .slice (U.K τ) (l.map (U.enc τ)):=by
  unfold eT at h;cases ho:zK s x with
  |l z=>simp only[ho,Sv.l.injEq] at h;simp only[vw];cases z<;>grind[rsv,aY,lv,rM,wI,Lf.toV]
  |_=>simp_all
 grind[bEb]
def MO (P:Program)(C:Cod U)(E:Env U g)(s:St U)(a:Act)(w:World)(β:List Tr)(op:Op)(x:Sv U):Prop:=
 ∀o:Oper,o.op=op->∃v,(∀w',Ext w w'->(execOp a.eval o).run P w'= .ok (.value v) w')/\x.mean C w (E.X β) β s.m v
def bGp (r:bJ C E s a w β)(fr:Bool){op:Op}{W:V}{x:Sv U}(h:∀E':VK.Env P g,Ll E' (brS s fr) op W)(c:∀v,Rd w (Zf E β fr) [] v W->x.mean C w (E.X β) β s.m v):MO P C E s a w β op x:=λo ho=>by
 obtain⟨v,h1,h2⟩:=h _ [] a w (br (P:=P) r fr) o ho;refine⟨v,h1,c v (h2.conv (ak _) (λb _ hb=> .inl hb) (λ_ _ _ h=>h) (λ_ _ h=>h))⟩
def cCk {k:IntKind}{n:Int}{X:Nat->Prop}{Z:Nat->Prop}{m:Mm U}{v:Value}(h:Rd w Z [] v (.int k n)):(Sv.l (.int k n):Sv U).mean C w X β m v:=h.aAR
def cAk {b:Bool}{X:Nat->Prop}{Z:Nat->Prop}{m:Mm U}{v:Value}(h:Rd w Z [] v (.bool b)):(Sv.l (.bool b):Sv U).mean C w X β m v:=h.aAW
def bX7 {z:ByteArray}{X:Nat->Prop}{Z:Nat->Prop}{m:Mm U}{v:Value}(h:Rd w Z [] v (.str z)):(Sv.l (.str z):Sv U).mean C w X β m v:=h.aAU
end
end Go.EV
namespace Go.EV
open Go.RowKit Go.VK
variable {U:Uni} {Y:Lay U} {TI:List (Nat×TInfo)} {P:Program} {g:GI} {E:Env U g}
section
variable {C:Cod U} {s:St U} {m:Mm U} {a:Act} {w w':World} {β β':List Tr} {X:Nat->Prop}
def bBl {i:TInfo}{cs:List (Lf U)}{off:Nat}{x:Sv U}(h:cut i cs off=some x):
  (∃fs ds,i.u= .st fs/\ds=(cs.drop off).take i.k/\ds.length=i.k/\x= .a ds)\/((∀fs,i.u≠ .st fs)/\∃y,cs[off]? =some y/\x= .l y):=by
 grind[aY,Option.some.injEq,aOd,bBj,dA,Nat.beq,Nat.eq_of_beq_eq_true,cut]
def bR9 {t:Nat}{i:TInfo}(h:tiB P t i=true)(b:∀fs,i.u≠ .st fs):L6 P t=true/\i.k=1:=by
 cases hi:i.u with
 |int k=>have:=M3 h hi;exact this.2
 |bool=>have:=aJn h hi;exact this.2
 |str=>have:=Xq h hi;exact this.2
 |sl e ek eb=>have:=Gp h hi;exact this.2
 |st fs=>simp_all
theorem add_zero' (p:Addr):p.add 0=p:=by rfl
def aOe {S:World->Prop}{t:Nat}{i:TInfo}{p:Addr}{vs:List Value}{cs:List (Lf U)}{off:Nat}{x:Sv U}(b:tiB P t i=true)(hc:cut i cs off=some x)(d:Ms C w X β m vs (cs.drop off))
  (hcell:∀w',S w'->∀(j:Nat) (v:Value),vs[j]? =some v->w'.cell? (p.add j)=some v):
  ∃v,(∀w',S w'->(loadVar t p).run P w'= .ok v w')/\x.mean C w X β m v:=by
 rcases bBl hc with⟨fs,ds,e,h1,h2,rfl⟩|⟨e,y,h1,rfl⟩
 ·have o:=(aJo b e).1;have hl:i.k<=vs.length:=by rw[d.1,<-h2,h1,bu];omega
  have f:(vs.take i.k).length=i.k:=by simp[*]
  refine⟨.agg (vs.take i.k).toArray,λw' he=> ?_,vs.take i.k,rfl,by rw[f,h2],λj v c h l=> ?_⟩
  ·grind[aRi]
  ·rw[fw] at h;split at h
   ·rw[h1,fw] at l;split at l
    ·exact d.2 j v c h l
    omega
   grind
 ·have ho:=(bR9 b e).1;have h0:(cs.drop off)[0]? =some y:=by simp[*]
  have hl:0<vs.length:=by rw[d.1];exact lt_of_some h0
  have n:vs[0]? =some vs[0]:=ab hl;refine⟨vs[0],λw' he=> ?_,d.2 0 _ y n h0⟩
  grind[aRh,add_zero']
def aJp {t:Nat}{i:TInfo}{p:Addr}{vs:List Value}{cs:List (Lf U)}{off:Nat}{x:Sv U}(b:tiB P t i=true)(hc:cut i cs off=some x)(c:Ms C w X β m vs (cs.drop off))
  (hcell:∀w',Ext w w'->∀(j:Nat) (v:Value),vs[j]? =some v->w'.cell? (p.add j)=some v):
  ∃v,(∀w',Ext w w'->(loadVar t p).run P w'= .ok v w')/\x.mean C w X β m v:=aOe (S:=Ext w) b hc c hcell
def Ms.drop {vs:List Value}{cs:List (Lf U)}(h:Ms C w X β m vs cs)(n:Nat):Ms C w X β m (vs.drop n) (cs.drop n):=
 ⟨by simp[h.1],λi v c h1 h2=>h.2 (n+i) v c (by simpa using h1) (by simpa using h2)⟩
theorem bGq {T k n:Nat}{t:Tr}{xs c:List Value}(h:w.ownsRow 0 T k t.val n xs)(e:w.ownsRow 0 T k t.val n c):xs=c:=by
 rcases fA h with⟨d,_,f,_⟩|⟨b,cur,d,_,_,_,i,_,j⟩
 all_goals grind[fA,d1,d5,d7,d3]
theorem bEe {d:Bool}{τ n:Nat}{L:List (U.El τ)}{z:U.El τ}{xs:List Value}{B:List Nat}(f:OwL C w X d xs (L.map (C.cel τ)).flatten B)(j:L[n]? =some z):
  ∃(l1 l2:List (U.El τ)) (x1 b x2:List Value) (c Bz e:List Nat),L=l1++z::l2/\l1.length=n/\xs=x1++(b++x2)/\x1.length=n*U.K τ/\b.length=U.K τ/\B=c++(Bz++e)/\
   OwL C w X d x1 (l1.map (C.cel τ)).flatten c/\OwL C w X d b (C.cel τ z) Bz/\OwL C w X d x2 (l2.map (C.cel τ)).flatten e:=by
 obtain⟨l1,l2,k,l,o,p⟩:=aJh (C.hlen τ) j;rw[o] at f;obtain⟨x1,y,c,Br,q,r,h,t⟩:=OwL.split f;obtain⟨b,x2,Bz,e,u,v,i,x⟩:=OwL.split t;exact⟨l1,l2,x1,b,x2,c,Bz,e,k,l,by rw[<-u,<-q],by rw[h.len,p],by rw[i.len,C.hlen],by rw[<-v,<-r],h,i,x⟩
def bEf (H:Hp C E m β w){i n:Nat}{t:Tr}{e:EO U}{τ:Nat}{d:Bool}{L:List (U.El τ)}{z:U.El τ}(hβ:β[i]? =some t)(ho:m.o[i]? =some e)(he:e.ob= .tree τ d L)(j:L[n]? =some z):
  ∃(l1 l2:List (U.El τ)) (x1 c x2:List Value) (f Bz h:List Nat),L=l1++z::l2/\l1.length=n/\w.ownsRow 0 τ (U.K τ) t.val L.length (x1++(c++x2))/\x1.length=n*U.K τ/\c.length=U.K τ/\t.bs=f++(Bz++h)/\
   OwL C w (E.X β) d x1 (l1.map (C.cel τ)).flatten f/\OwL C w (E.X β) d c (C.cel τ z) Bz/\OwL C w (E.X β) d x2 (l2.map (C.cel τ)).flatten h/\0<U.K τ:=by
 have b:=H.ok i t e hβ ho;rw[he] at b;obtain⟨h1,xs,h2,k⟩:=b
 grind[bEe]
def bGr {i c τ:Nat}{q:Int}{z:U.El τ}:∀(cs:List (Lf U)) (b j:Nat) (x:Lf U),(aSi i c τ q z b cs)[j]? =some x->∃y,cs[j]? =some y/\((∃τ' l,y= .sl τ' l/\x= .inn i c τ q z (b+j) τ' l)\/((∀τ' l,y≠ .sl τ' l)/\x=y))
 |[],b,j,x,h=>by simp[aSi] at h
 |y::cs,b,0,x,h=>by
  refine⟨y,rfl,?_⟩;cases y with
  |sl τ' l=>simp[aSi] at h;subst h;exact .inl ⟨τ',l,rfl,rfl⟩
  |_=>simp[aSi] at h;subst h;exact .inr ⟨by simp,rfl⟩
 |y::cs,b,j+1,x,h=>by
  have d:(aSi i c τ q z (Nat.succ b) cs)[j]? =some x:=by cases y<;>simpa[aSi] using h
  obtain⟨y',h1,h2⟩:=bGr cs (Nat.succ b) j x d;refine⟨y',by simpa using h1,?_⟩;rw[show b+(j+1)=Nat.succ b+j by omega];exact h2
def bGs {i c τ:Nat}{q:Int}{z:U.El τ}:∀(cs:List (Lf U)) (b:Nat),(aSi i c τ q z b cs).length=cs.length
 |[],_=>rfl
 |y::cs,b=>by cases y<;>simp[aSi,bGs cs]
def OwL.at {d:Bool}:∀{vs:List Value} {xs:List (Lf U)} {B:List Nat},OwL C w X d vs xs B->∀(i:Nat) (v:Value) (x:Lf U),vs[i]? =some v->xs[i]? =some x->∃B',Ow C w X d v x B'/\∀b∈B',b∈B
 |_,_,_, .n,i,v,x,h,_=>by simp at h
 |_,_,_, .c h hr,i,v,x,h1,h2=>by
  cases i with
  |zero=>simp at h1 h2;subst h1;subst h2;exact⟨_,h,λb hb=>by simp[hb]⟩
  |succ i=>obtain⟨B',k1,k2⟩:=OwL.at hr i v x (by simpa using h1) (by simpa using h2);exact⟨B',k1,λb hb=>by simp[k2 b hb]⟩
def bPe (H:Hp C E m β w){i:Nat}{q:Int}{t:Tr}{e:EO U}{τ:Nat}{d:Bool}{L:List (U.El τ)}{z:U.El τ}(hβ:β[i]? =some t)(ho:m.o[i]? =some e)(he:e.ob= .tree τ d L)(h0:0<=q)(h:L[q.toNat]? =some z):
  ∃c:List Value,Ms C w (E.X β) β m c (aSi i e.cv τ q z 0 (C.cel τ z))/\∀b,t.b=some b->∀(j:Nat) (v:Value),c[j]? =some v->w.cell? (Addr.add ⟨b,0,none⟩ (q.toNat*U.K τ+j))=some v:=by
 obtain⟨l1,l2,x1,c,x2,r,Bz,u,A,B,k,p,D,F,G,f,I,_⟩:=bEf H hβ ho he h;have n:∀(j:Nat) (v:Value),c[j]? =some v->(x1++(c++x2))[q.toNat*U.K τ+j]? =some v:=λj v hj=>by
  rw[<-p,az (di _ _),cL,av (lt_of_some hj)];exact hj
 refine⟨c,⟨by rw[bGs,f.len],λj v x h1 h2=> ?_⟩,λb hb j v hj=>uV k hb (n j v hj)⟩;obtain⟨y,k1,k2⟩:=bGr _ _ _ _ h2;rw[co] at k2;obtain⟨B',k3,_⟩:=f.at j v y h1 k1;rcases k2 with⟨τ',l,rfl,rfl⟩|⟨k2,rfl⟩
 ·exact⟨⟨(H.vers i e ho).2,f.ones v (aE h1)⟩,e,t,ho,hβ,λ_=>⟨d,L,_,he,h0,h,k1,k,n j v h1⟩⟩
 ·cases k3 with
  |int q1 q2=>exact⟨rfl,q1,q2⟩
  |bool=>rfl
  |str q=>exact⟨rfl,q⟩
  |fz=>assumption
  |sl=>grind
  |su=>grind
def bMt (H:Hp C E m β w){i j τ':Nat}{q:Int}{t:Tr}{e:EO U}{τ:Nat}{L:List (U.El τ)}{z:U.El τ}{l:List (U.El τ')}{xs:List Value}{v:Value}(hβ:β[i]? =some t)(ho:m.o[i]? =some e)(he:e.ob= .tree τ true L)(f:L[q.toNat]? =some z)
  (hj:(C.cel τ z)[j]? =some (.sl τ' l)) (hr:w.ownsRow 0 τ (U.K τ) t.val L.length xs) (hv:xs[q.toNat*U.K τ+j]? =some v):
  ∃(u:Tr) (ys:List Value),v=u.val/\w.ownsRow 0 τ' (U.K τ') u.val l.length ys/\OwL C w (E.X β) true ys (l.map (C.cel τ')).flatten u.bs/\∀b∈u.all,b∈t.all:=by
 obtain⟨l1,l2,x1,d,x2,p,Bz,r,x,y,A,B,h,D,F,k,G,_⟩:=bEf H hβ ho he f;have n:j<d.length:=by rw[h,<-C.hlen τ z];exact lt_of_some hj
 have c:d[j]? =some v:=by
  grind[bGq,List.getElem?_append_right,Nat.add_sub_cancel_left,List.getElem?_append_left]
 obtain⟨B',k3,k4⟩:=k.at j v _ c hj;cases k3<;>grind[k3,k4,Tr.all]
def bX8 {u:Tr}{b c d:Nat}(h:u.val= .slice (some ⟨b,0,none⟩) c d):u.b=some b:=by simp_all[Tr.val]
def bGt {i c:Nat}:∀(cs:List (Lf U)) (j:Nat) (x:Lf U),(aSj i c cs)[j]? =some x->∃y,cs[j]? =some y/\((∃τ l,y= .sl τ l/\x= .bor i c τ l)\/((∀τ l,y≠ .sl τ l)/\x=y))
 |[],j,x,h=>by simp[aSj] at h
 |y::cs,0,x,h=>by
  refine⟨y,rfl,?_⟩;cases y with
  |sl τ l=>simp[aSj] at h;subst h;exact .inl ⟨τ,l,rfl,rfl⟩
  |_=>simp[aSj] at h;subst h;exact .inr ⟨by simp,rfl⟩
 |y::cs,j+1,x,h=>by
  have b:(aSj i c cs)[j]? =some x:=by cases y<;>simpa[aSj] using h
  obtain⟨y',h1,h2⟩:=bGt cs j x b;exact⟨y',by simpa using h1,h2⟩
def bGu {i c:Nat}:∀(cs:List (Lf U)),(aSj i c cs).length=cs.length
 |[]=>rfl
 |y::cs=>by cases y<;>simp[aSj,bGu cs]
def Sc {i c:Nat}(h:okv m i c=true):∃e,m.o[i]? =some e/\e.cv=c:=by
 grind[Nat.eq_of_beq_eq_true,aY,okv]
def bEg (r:bJ C E s a w β){t k j i off:Nat}{y:Lf U}{v:Value}(c:IntKind)(d:arB P t k=true)(hj:j<k)(hm:(Lf.box i off:Lf U).mean C w (E.X β) β s.m v)(h:yX s.m j (.box i off)=some y):
  ∃v',(∀w':World,(Instr.indexAt t v (.int c (j:Int))).run P w'= .ok v' w')/\y.mean C w (E.X β) β s.m v':=by
 simp only[yX,aY] at h;obtain⟨_,e,tr,h1,h2,f⟩:=hm;simp only[h1] at h;obtain⟨ob,rv,cv⟩:=e;cases ob with
 |box T cs l=>simp only[ai] at h;subst h;obtain⟨b,n,rfl⟩:=f rfl;refine⟨_,λw'=>bWg d hj _ c,⟨rfl,⟨.box T cs l,rv,cv⟩,tr,h1,h2,λ_=>⟨b,n,by rw[gX]⟩⟩⟩
 |_=>cases h
def aJq (r:bJ C E s a w β){t f:Nat}{off:Nat}{x y:Lf U}{v:Value}(l:bRp P t f off=true)(hm:x.mean C w (E.X β) β s.m v)(h:yX s.m off x=some y):
  ∃v',(∀w':World,(Instr.fieldAt t v f).run P w'= .ok v' w')/\y.mean C w (E.X β) β s.m v':=by
 cases x with
 |box i o=>
  simp only[yX,aY] at h;obtain⟨_,e,tr,h1,h2,n⟩:=hm;simp only[h1] at h;obtain⟨ob,rv,cv⟩:=e;cases ob with
  |box T cs u=>simp only[ai] at h;subst h;obtain⟨b,A,rfl⟩:=n rfl;refine⟨_,λw'=>aUz l _,⟨rfl,⟨.box T cs u,rv,cv⟩,tr,h1,h2,λ_=>⟨b,A,by rw[gX]⟩⟩⟩
  |_=>cases h
 |ptr τ z o=>
  simp only[yX,ai] at h;subst h;have k:Rd w (E.X β) [] v (.elem ((U.enc τ z).drop o)):=hm;cases v with
  |pointer p=>
   cases k with
   | @elem _ B _ val hX hb hcell hrd=>
    refine⟨.pointer (some (B.add off)),λw'=>aUz l _,?_⟩;show Rd w (E.X β) [] _ (.elem ((U.enc τ z).drop (o+off)));refine .elem (val:=λj=>val (off+j)) (by grind[add_block]) (by grind[add_block]) (λj d hj=> ?_) (λj d hj=> ?_)
    all_goals grind[Nat.add_assoc,add_add']
  |_=>cases k
 |oel i c τ q z o=>
  simp only[yX] at h;cases hv:okv s.m i c with
  |false=>simp_all
  |true=>simp only[hv,ae,ai] at h;subst h;obtain⟨h0,e,tr,h1,h2,n⟩:=hm;obtain⟨e',k1,k2⟩:=Sc hv;rw[h1] at k1;injection k1 with k1;subst k1;obtain⟨d,L,b,D,F,G,H,rfl⟩:=n k2;refine⟨_,λw'=>aUz l _,⟨⟨h0.1,rfl⟩,e,tr,h1,h2,λ_=>⟨d,L,b,D,F,G,H,by rw[gX,ie]⟩⟩⟩
 |_=>cases h
def bBm (r:bJ Y.C E s a w β){t:Nat}{i:TInfo}(f:tiB P t i=true){x:Lf U}{y:Sv U}{v:Value}(hm:x.mean Y.C w (E.X β) β s.m v)(h:load Y s i x=some y):
  ∃p v',v= .pointer (some p)/\(∀w',Ext w w'->(loadVar t p).run P w'= .ok v' w')/\y.mean Y.C w (E.X β) β s.m v':=by
 cases x with
 |box b o=>
  simp only[load,aY] at h;obtain⟨_,e,tr,h1,h2,D⟩:=hm;simp only[h1] at h;have O:=r.hp.ok b tr e h2 h1;obtain⟨ob,rv,cv⟩:=e;cases ob with
  |box T cs us=>
   obtain⟨B,h4,rfl⟩:=D rfl;obtain⟨_,b',vs,k1,k2,k3,k4⟩:=O;rw[h4] at k1;injection k1 with k1;subst k1;obtain⟨v',q1,q2⟩:=aJp (P:=P) (p:=⟨B,o,none⟩) f h (k4.drop o) (λw' he j u hj=>by
    rw[gX,cell_of_row w' B (o+j) _ T (0,0) (he.heap k3)];simp_all)
   grind
  |_=>cases h
 |ptr τ z o=>
  simp only[load] at h;have F:Rd w (E.X β) [] v (.elem ((U.enc τ z).drop o)):=hm;cases v with
  |pointer p=>
   cases F with
   | @elem _ ad _ val hX hb hcell hrd=>
    have hlen:((List.range ((Y.C.cel τ z).drop o).length).map val).length=((Y.C.cel τ z).drop o).length:=by simp
    obtain⟨v',q1,q2⟩:=aJp (P:=P) (p:=ad) (vs:=(List.range ((Y.C.cel τ z).drop o).length).map val) f h (m:=s.m) (C:=Y.C) (w:=w) (X:=E.X β) (β:=β) ⟨hlen,λj u c h5 Q=>by
      have A:=lt_of_some Q;simp only[bq,dq A,dn,ai] at h5;subst h5;have hd:((U.enc τ z).drop o)[j]? =some c.toV:=by rw[<-Y.C.hcel,<-fp,bq,Q];rfl
      have hr:=hrd j _ hd;have hdat:=Y.C.hdat τ z c (eo (aE Q));cases c with
      |int k n=>exact hr.aAR
      |bool b=>exact hr.aAW
      |str b=>exact hr.aAU
      |sl τ' l=>exact hr
      |_=>cases hdat⟩ (λw' he j u hj=>by
      have A:j<((Y.C.cel τ z).drop o).length:=by grind
      simp only[bq,dq A,dn,ai] at hj;subst hj;exact he.cell (hcell j (((U.enc τ z).drop o)[j]'(by rw[<-Y.C.hcel,<-fp,bf];exact A)) (ab _)))
    grind
  |_=>cases F
 |oel b c τ q z o=>
  simp only[load] at h;cases hv:okv s.m b c with
  |false=>simp_all
  |true=>
   simp only[hv,ae] at h;obtain⟨h0,e,tr,h1,h2,D⟩:=hm;obtain⟨e',k1,k2⟩:=Sc hv;rw[h1] at k1;injection k1 with k1;subst k1;subst k2;obtain⟨d,L,B,R,a2,S,V,rfl⟩:=D rfl;obtain⟨W,m1,m2⟩:=bPe r.hp h2 h1 R a2 S;obtain⟨v',q1,q2⟩:=aJp (P:=P) (p:=⟨B,q.toNat*U.K τ+o,none⟩) f h (m1.drop o) (λw' he j u hj=>by
    have:=he.cell (m2 B V (o+j) u (by simpa using hj))
    grind[gX])
   grind
 |oin b c τ q z j τ' l q' z' o=>
  simp only[load] at h;cases hv:okv s.m b c with
  |false=>simp_all
  |true=>
   simp only[hv,ae] at h;obtain⟨h0,e,tr,h1,h2,D⟩:=hm;obtain⟨e',k1,k2⟩:=Sc hv;rw[h1] at k1;injection k1 with k1;subst k1;subst k2;obtain⟨L,xs,v0,B,n',c',R,a2,S,V,a5,a6,a7,a8,a9,rfl⟩:=D rfl;obtain⟨u,ys,b1,b2,b3,b4⟩:=bMt r.hp h2 h1 R S V a5 a6;have hub:u.b=some B:=bX8 (b1.symm.trans a7);obtain⟨l1,l2,x1,W,x2,B1,Bz,B2,g1,g2,g3,g4,g5,g6,o1,J,o3⟩:=bEe b3 a9;have m1:Ms Y.C w (E.X β) β s.m W (aSj b e.cv (Y.C.cel τ' z')):=⟨by rw[bGu,J.len],λG v x f1 f2=>by
    obtain⟨y,f3,H⟩:=bGt _ _ _ f2;obtain⟨B',f5,f6⟩:=J.at G v y f1 f3;rcases H with⟨τ2,l2,rfl,rfl⟩|⟨H,rfl⟩
    ·exact⟨⟨(r.hp.vers b e h1).2,J.ones v (aE f1)⟩,e,tr,h1,h2,λ_=>(J.rd (Z:=λb=>E.X β b/\b∉tr.all) (λb hb'=>hb'.1) (λb hb' hn=>hn.2 (b4 b (by simp[Tr.all,g6,hb'])))).2 G v _ f1 f3⟩
    ·cases f5 with
     |int q1 q2=>exact⟨rfl,q1,q2⟩
     |bool=>rfl
     |str q=>exact⟨rfl,q⟩
     |fz=>exact absurd rfl (H _ _)
     |sl=>exact absurd rfl (H _ _)
     |su=>exact absurd rfl (H _ _)⟩
   obtain⟨v',q1,q2⟩:=aJp (P:=P) (p:=⟨B,q'.toNat*U.K τ'+o,none⟩) f h (m1.drop o) (λw' he G u' hj=>by
    have hx:ys[q'.toNat*U.K τ'+(o+G)]? =some u':=by
     have I:W[o+G]? =some u':=by simp_all
     rw[g3,<-g4,az (di _ _),cL,av (lt_of_some I)];exact I
    have:=he.cell (uV b2 hub hx)
    grind[gX])
   grind
 |_=>cases h
end
end Go.EV
namespace Go.EV
open Go.RowKit Go.VK
variable {U:Uni} {Y:Lay U} {TI:List (Nat×TInfo)} {P:Program} {g:GI} {E:Env U g}
section
variable {s:St U} {m:Mm U} {a:Act} {w w':World} {β β':List Tr} {X:Nat->Prop}
def pE {x:Operand}(r:bJ Y.C E s a w β){y:Lf U}(h:eT s x= .l y):y.mean Y.C w (E.X β) β s.m (a.eval x):=by have:=Gq r (x:=x);rw[h] at this;exact this
def cAl {x:Operand}(r:bJ Y.C E s a w β){cs:List (Lf U)}(h:zK s x= .a cs):∃vs:List Value,a.eval x= .agg vs.toArray/\Ms Y.C w (E.X β) β s.m vs cs:=by have:=lG r (x:=x);rw[h] at this;exact this
def bSa {x:Operand}{cs:List (Lf U)}(h:eT s x= .a cs):zK s x= .a cs:=by
 unfold eT at h;cases ho:zK s x with
 |l y=>simp[ho] at h
 |a ds=>simp only[ho] at h;exact h
 |t xs=>simp[ho] at h
def cCl {x:Operand}{xs:List (Bool×List (Lf U))}(h:eT s x= .t xs):zK s x= .t xs:=by
 unfold eT at h;cases ho:zK s x with
 |l y=>simp[ho] at h
 |a ds=>simp[ho] at h
 |t xs=>simp only[ho] at h;exact h
def aVl {v:Value}{x:Lf U}(hm:x.mean Y.C w X β m v)(h:bRy x=true):v.oneCell'=true:=by
 cases x with
 |int=>obtain⟨rfl,_⟩:=hm;rfl
 |bool=>obtain rfl:=hm;rfl
 |str=>obtain⟨rfl,_⟩:=hm;rfl
 |nat=>obtain⟨_,_,_,rfl,_⟩:=hm;rfl
 |lt=>obtain⟨_,_,_,rfl,_⟩:=hm;rfl
 |sl τ l=>exact Rd.one hm rfl
 |nil=>obtain rfl:=hm;rfl
 |own=>exact hm.1.2
 |bor=>exact hm.1.2
 |inn=>exact hm.1.2
 |oel=>exact hm.1.2
 |oin=>exact hm.1.2
 |suf=>exact hm.1.2
 |box=>exact hm.1
 |ptr τ z off=>have b:Rd w X [] v (.elem ((U.enc τ z).drop off)):=hm;exact Rd.one b rfl
 |und=>cases h
 |any=>cases h
def bEh:∀{cs:List (Lf U)},Rz cs=true->∀c∈cs,bRy c=true
 |[],_,c,hc=>by simp at hc
 |x::xs,h,c,hc=>by
  simp only[Rz,ac] at h;rcases bg.1 hc with rfl|hc
  ·exact h.1
  ·exact bEh h.2 c hc
def Gr {v:Value}{x:Sv U}{ps:List (Lf U)}(hm:x.mean Y.C w X β m v)(hp:parts x=some ps)(h1:Rz ps=true):Ms Y.C w X β m v.cells.toList ps/\∀u∈v.cells.toList,u.oneCell'=true:=by
 have key:∀{vs:List Value},Ms Y.C w X β m vs ps->∀u∈vs,u.oneCell'=true:=λ{vs} b u j=>by
  obtain⟨i,hi⟩:=cP.1 j;have d:i<ps.length:=by rw[<-b.1];exact lt_of_some hi
  exact aVl (b.2 i u _ hi (ab d)) (bEh h1 _ (cp d))
 cases x with
 |l y=>
  simp only[parts,ai] at hp;subst hp;have ho:=aVl (Y:=Y) (m:=m) (β:=β) hm (bEh h1 y (by simp));rw[aCd ho];have b:Ms Y.C w X β m [v] [y]:=⟨rfl,λi u c f h=>by
   cases i with
   |zero=>simp at f h;subst f;subst h;exact hm
   |succ i=>simp at f⟩
  exact⟨b,key b⟩
 |a cs=>simp only[parts,ai] at hp;subst hp;obtain⟨vs,rfl,b⟩:=hm;have e:(Value.agg vs.toArray).cells.toList=vs:=rfl;rw[e];exact⟨b,key b⟩
 |t xs=>cases hp
def bMu:∀{l:List (Nat×Nat)} {fs:List (Nat×Nat×Nat)} {n:Nat} {off ft k:Nat},bEa l fs=true->fs[n]? =some (off,ft,k)->l[n]? =some (off,k)
 |[],[],n,off,ft,k,_,h=>by simp at h
 |[],_::_,n,off,ft,k,h,_=>by cases h
 |_::_,[],n,off,ft,k,h,_=>by cases h
 |(x,y)::l,(o,f,c)::fs,0,off,ft,k,h,hn=>by
  simp only[bEa,ac] at h;simp at hn;obtain⟨rfl,rfl,rfl⟩:=hn;rw[ah h.1.1,ah h.1.2];rfl
 |(x,y)::l,(o,f,c)::fs,n+1,off,ft,k,h,hn=>by
  simp only[bEa,ac] at h;simpa using bMu h.2 (by simpa using hn)
def bGv (r:bJ Y.C E s a w β){pls:List (Nat×Nat)}{fs:List (Nat×Nat×Nat)}(hp:bEa pls fs=true):∀{xs:List (Nat×Operand)} {cs ds:List (Lf U)},bJz s fs xs cs=some ds->
  ∀cells:Array Value,Ms Y.C w (E.X β) β s.m cells.toList cs->∃res,Instr.fill (λi=>pls.toArray[i]?) cells (xs.map λ(i,x)=>(i,a.eval x))=some res/\Ms Y.C w (E.X β) β s.m res.toList ds
 |[],cs,ds,h,cells,p=>by
  simp only[bJz,ai] at h;subst h;exact⟨cells,rfl,p⟩
 |(f,x)::xs,cs,ds,h,cells,p=>by
  simp only[bJz,fld,aY] at h;cases t:fs[f]? with
  |none=>simp[t] at h
  |some q=>
   obtain⟨off,ft,n⟩:=q;cases d:parts (zK s x) with
   |none=>simp[t,d] at h
   |some ps=>
    simp only[t,d] at h;cases hb:(Nat.beq (len ps) n&&Nat.ble (off+n) (len cs)&&Rz ps) with
    |false=>rw[hb] at h;cases h
    |true=>
     rw[hb] at h;simp only[ae] at h;simp only[ac,dA] at hb;obtain⟨⟨b1,z⟩,A⟩:=hb;have b1:=ah b1;have z:=ba z;have l:=(Gr (lG r (x:=x)) d A).1;have e:cells.size=cs.length:=by have:=p.1;simpa using this
     have hsz:(a.eval x).cells.toList.length=n:=by rw[l.1,b1]
     have o:=aJe off (a.eval x).cells.toList 0 cells (by rw[hsz,e];omega);rw[Xp _ _ _ (by rw[b1];omega)] at h;obtain⟨res,B,D⟩:=bGv r hp h ((((a.eval x).cells.toList.zipIdx 0).foldl (λcs (u,j)=>cs.setIfInBounds (off+j) u) cells)) ⟨by
       have:=o.1;simp only[cD,this,e,ax,bu,cm];omega,λj v c F k=>by
       have b:(((a.eval x).cells.toList.zipIdx 0).foldl (λcs (u,j)=>cs.setIfInBounds (off+j) u) cells)[j]? =some v:=by simpa using F
       rw[o.2] at b;rw[Xl _ _ _ _ (by rw[b1];omega)] at k;simp only[dz,hsz] at b;rw[b1] at k;split at b
       ·rename_i hj;rw[cR hj] at k;exact l.2 _ v c b k
       ·rename_i hj;rw[dk hj] at k;exact p.2 j v c (by simpa using b) k⟩
     refine⟨res,?_,D⟩;simp only[bn,Instr.fill];have hg:pls.toArray[f]? =some (off,n):=by simpa using bMu hp t
     rw[hg];simp only;have y:(a.eval x).cells.size=n:=by rw[<-hsz];simp
     rw[dk (by simp only[y,e];simp;omega)];rw[<-io,ic];exact B
def bMv {v:Value}{z:Kz}(h:kzB v z=true):(z.lf:Lf U).mean Y.C w X β m v:=by
 unfold kzB at h;split at h
 ·simp only[ac,cn] at h;obtain⟨⟨⟨rfl,rfl⟩,h1⟩,h2⟩:=h;exact⟨rfl,h1,h2⟩
 ·rename_i b;have:b=false:=by simpa using h
  subst this;rfl
 ·rename_i b;have hs:b.data.size=0:=ah h;have hb:b=⟨#[]⟩:=by
   cases b with
   |mk d=>have hd:d= #[]:=Array.eq_empty_of_size_eq_zero hs;rw[hd]
  subst hb;exact⟨rfl,by decide⟩
 ·rfl
 ·cases h
def M4:∀{vs:List Value} {b:List Kz},bJ9 vs b=true->Ms Y.C w X β m vs (b.map (Kz.lf:Kz->Lf U))
 |[],[],_=>⟨rfl,by simp⟩
 |[],_::_,h=>by cases h
 |_::_,[],h=>by cases h
 |v::vs,z::b,h=>by
  simp only[bJ9,ac] at h;have d:=M4 h.2;refine⟨by simp[d.1],λi u c h1 h2=> ?_⟩
  cases i with
  |zero=>simp at h1 h2;subst h1;subst h2;exact bMv h.1
  |succ i=>exact d.2 i u c (by simpa using h1) (by simpa using h2)
def yA {C:Cod U}{v:Value}{x:Bool×List (Lf U)}(h:Mp C w X β m v x):(bJy x).mean C w X β m v:=by
 obtain⟨b,cs⟩:=x;cases b with
 |false=>obtain⟨c,rfl,h⟩:=h;exact h
 |true=>exact h
def aVm {t:Nat}{i:TInfo}{vs:List Value}{cs:List (Lf U)}{off:Nat}{x:Sv U}(b:tiB P t i=true)(hc:cut i cs off=some x)(e:Ms Y.C w X β m vs cs):
  ∃v,(∀w',(part t vs.toArray off).run P w'= .ok v w')/\x.mean Y.C w X β m v:=by
 rcases bBl hc with⟨fs,ds,h,h1,h2,rfl⟩|⟨h,y,h1,rfl⟩
 ·have d:=(aJo b h).1;have hl:i.k<=vs.length-off:=by rw[e.1,<-h2,h1,bu,cm];exact Nat.min_le_right _ _
  refine⟨.agg (vs.toArray.extract off (off+i.k)),λw'=> ?_,(vs.drop off).take i.k,?_,?_,λj v c f l=> ?_⟩
  ·have n:=(Gn (w:=w') d).1;have o:=(Gn (w:=w') d).2;simp[part,n,o]
  ·congr 1;apply Array.ext';simp[List.extract,cL]
  ·rw[h2,bu,cm];omega
  ·rw[fw] at f;split at f
   ·rw[h1,fw] at l;split at l
    ·exact e.2 (off+j) v c (by simpa using f) (by simpa using l)
    ·exact absurd ‹j<i.k› ‹¬j<i.k›
   ·simp at f
 ·have ho:=(bR9 b h).1;have hl:off<vs.length:=by rw[e.1];exact lt_of_some h1
  exact⟨vs[off],λw'=>aJf ho (by simp[hl]),e.2 off _ y (ab hl) h1⟩
end
end Go.EV
namespace Go.EV
open Go.RowKit Go.VK
variable {U:Uni} {Y:Lay U} {TI:List (Nat×TInfo)} {P:Program} {g:GI} {E:Env U g}
section
variable {s:St U} {a:Act} {w:World} {β:List Tr} {α:Type}
theorem nR (r:bJ Y.C E s a w β){op:Op}{k:IntKind}{n:Int}(h:∀E':VK.Env P g,Ll E' (brS s false) op (.int k n)):MO P Y.C E s a w β op (.l (.int k n)):=bGp r false h (λv hv=>cCk hv)
theorem qV (r:bJ Y.C E s a w β){op:Op}{b:Bool}(h:∀E':VK.Env P g,Ll E' (brS s false) op (.bool b)):MO P Y.C E s a w β op (.l (.bool b)):=bGp r false h (λv hv=>cAk hv)
def bEi (r:bJ Y.C E s a w β){op:Op}{z:ByteArray}(h:∀E':VK.Env P g,Ll E' (brS s false) op (.str z)):MO P Y.C E s a w β op (.l (.str z)):=bGp r false h (λv hv=>bX7 hv)
theorem aVn (r:bJ Y.C E s a w β){b:BinOp}{t u:TypeId}{x y:Operand}{k:IntKind}{m n:Int}{z:Lf U}(c:eT s x= .l (.int k m))(d:eT s y= .l (.int k n))(h:bV3 b k m n=some z):MO P Y.C E s a w β (.binOp b t x y u) (.l z):=by
 cases b<;>simp only[bV3,ai,reduceCtorEq] at h<;>subst h
 ·grind[nR,add,dW]
 ·grind[nR,sub,dW]
 ·grind[nR,mul,dW]
 ·grind[nR,bZ9,dW]
 ·grind[nR,cCe,dW]
 ·grind[nR,cAa,dW]
 ·exact qV r λ_=>eql (dW c) (dW d)
 ·exact qV r λ_=>neq (dW c) (dW d)
 ·exact qV r λ_=>lss (dW c) (dW d)
 ·exact qV r λ_=>leq (dW c) (dW d)
 ·exact qV r λ_=>gtr (dW c) (dW d)
 ·exact qV r λ_=>geq (dW c) (dW d)
theorem aVo (r:bJ Y.C E s a w β){b:BinOp}{t u:TypeId}{x y:Operand}{m n:ByteArray}{z:Lf U}(c:eT s x= .l (.str m))(d:eT s y= .l (.str n))(h:bV4 b m n=some z):MO P Y.C E s a w β (.binOp b t x y u) (.l z):=by
 cases b<;>simp only[bV4,ai,reduceCtorEq] at h<;>subst h
 ·exact qV r (by simp_all[cDz,Xr])
 ·exact qV r (by simp_all[sne,Xr])
def bSb {i off ft n:Nat}{fs:List (Nat×Nat×Nat)}{c d:Lf U}{cs ds:List (Lf U)}{z:Bool}(h:eqQ TI i ((off,ft,n)::fs) (c::cs) (d::ds)=some z):off=i/\∃r,eqQ TI (Nat.succ i) fs cs ds=some r/\
  ((∃k k1 b q m n,jV TI ft=some ⟨.int q,k1,b⟩/\c= .int k m/\d= .int k n/\z=(m==n&&r))\/(∃k1 b m n,jV TI ft=some ⟨.bool,k1,b⟩/\c= .bool m/\d= .bool n/\z=(m==n&&r))\/(∃k1 b m n,jV TI ft=some ⟨.str,k1,b⟩/\c= .str m/\d= .str n/\z=(m.toList==n.toList&&r))):=by
 grind[Nat.beq,Nat.eq_of_beq_eq_true,k1,inl,Option.some.inj,eqQ]
def bSc {D:Nat}{w w':World}{C:Cod U}{X:Nat->Prop}{β:List Tr}{m:Mm U}(hTI:uW P TI=true){xs ys:Array Value}:∀{fs:List (Nat×Nat×Nat)} {fds:List Field} {i:Nat} {cs ds:List (Lf U)} {z:Bool},fds.length=fs.length->
  (∀(j:Nat) (fd:Field) (q:Nat×Nat×Nat),fds[j]? =some fd->fs[j]? =some q->fd.type=q.2.1/\fd.offset=q.1)->
  (∀(j:Nat) (c:Lf U),cs[j]? =some c->∃v,xs[i+j]? =some v/\c.mean C w X β m v)->(∀(j:Nat) (c:Lf U),ds[j]? =some c->∃v,ys[i+j]? =some v/\c.mean C w X β m v)->
  eqQ TI i fs cs ds=some z->fds.all (Rm P)=true/\((fds.all λf=>f.name != "_")=true->(Op.eqFields (D+1) xs ys fds).run P w'= .ok z w')
 |[],fds,i,cs,ds,z,hl,_,_,_,he=>by
  have h1:fds=[]:=List.length_eq_zero_iff.1 hl;subst h1;cases cs<;>cases ds<;>first|(simp only[eqQ,ai] at he;subst he;exact⟨rfl,λ_=>bMl⟩)|cases he
 |(off,ft,n)::fs,[],i,cs,ds,z,hl,_,_,_,_=>by cases hl
 |(off,ft,n)::fs,fd::fds,i,[],ds,z,_,_,_,_,he=>by cases ds<;>cases he
 |(off,ft,n)::fs,fd::fds,i,c::cs,[],z,_,_,_,_,he=>by cases he
 |(off,ft,n)::fs,fd::fds,i,c::cs,d::ds,z,hl,hfd,hx,hy,he=>by
  obtain⟨h1,r,hr,hcase⟩:=bSb he;obtain⟨k1,k2⟩:=hfd 0 fd (off,ft,n) rfl rfl;have ho:fd.offset=i:=k2.trans h1;obtain⟨v,x1,x2⟩:=hx 0 c rfl;obtain⟨u,y1,y2⟩:=hy 0 d rfl;rw[dz] at x1 y1;obtain⟨g1,g2⟩:=bSc (D:=D) (w':=w') hTI (fs:=fs) (fds:=fds) (i:=Nat.succ i) (by simpa using hl) (λj fd q a b=>hfd (j+1) fd q (by simpa using a) (by simpa using b))
   (λj c h=>by have:=hx (j+1) c (by simpa using h);rwa [show i+(j+1)=Nat.succ i+j by omega] at this) (λj c h=>by have:=hy (j+1) c (by simpa using h);rwa [show i+(j+1)=Nat.succ i+j by omega] at this) hr
  have fin:∀{q:Bool},Rm P fd=true->L6 P fd.type=true->(Op.equalIn (D+1) fd.type v u).run P w'= .ok q w'->z=(q&&r)->(fd::fds).all (Rm P)=true/\(((fd::fds).all λf=>f.name != "_")=true->(Op.eqFields (D+1) xs ys (fd::fds)).run P w'= .ok z w'):=λa1 a2 a3 a4=>by
   refine⟨by rw[ig,a1,g1];rfl,λhn=> ?_⟩;rw[ig,ac] at hn;rw[a4];exact bRw hn.1 a2 (by rw[ho];exact x1) (by rw[ho];exact y1) a3 (g2 hn.2)
  have k1:fd.type=ft:=k1;rcases hcase with⟨k,j1,z1,q,m,n,hf,rfl,rfl,hz⟩|⟨j1,z1,m,n,hf,rfl,rfl,hz⟩|⟨j1,z1,m,n,hf,rfl,rfl,hz⟩
  ·obtain⟨t1,t2,_⟩:=M3 (bT hTI hf) rfl;obtain⟨rfl,_⟩:=x2;obtain⟨rfl,_⟩:=y2;exact fin (by simp[Rm,k1,t1]) (by rw[k1];exact t2) (by rw[k1];exact run_equalIn_int w' D _ _ _ _ _ t1) hz
  ·obtain⟨t1,t2,_⟩:=aJn (bT hTI hf) rfl;obtain rfl:=x2;obtain rfl:=y2;exact fin (by simp[Rm,k1,t1]) (by rw[k1];exact t2) (by rw[k1];exact run_equalIn_bool' w' D _ _ _ t1) hz
  ·obtain⟨t1,t2,_⟩:=Xq (bT hTI hf) rfl;obtain⟨rfl,_⟩:=x2;obtain⟨rfl,_⟩:=y2;exact fin (by simp[Rm,k1,t1]) (by rw[k1];exact t2) (by rw[k1];exact run_equalIn_string w' D _ _ _ t1) hz
def bGw {P:Program}:∀{fs:List Field} {l:List (Nat×Nat)},bD4 P fs=some l->l.length=fs.length
 |[],l,h=>by simp[bD4] at h;subst h;rfl
 |f::fs,l,h=>by
  simp only[bD4] at h;split at h
  ·rename_i i l' _ h2;have:=ao h;subst this;simp[bGw h2]
  ·cases h
def bGx:∀{l:List (Nat×Nat)} {fs:List (Nat×Nat×Nat)},bEa l fs=true->l.length=fs.length
 |[],[],_=>rfl
 |[],_::_,h=>by cases h
 |_::_,[],h=>by cases h
 |(a,b)::l,(off,ft,n)::fs,h=>by
  simp only[bEa,ac] at h;simp[bGx h.2]
theorem bSd {P:Program}{f:Field}(h:Rm P f=true):Za P f.type=true:=by
 grind[Za,Rm]
def bPf {P:Program}{l:List Field}(h:l.all (Rm P)=true):(l.all λf=>Za P f.type)=true:=by
 grind[bSd,List.all_eq_true]
def bSe {t:Nat}{f:Nat×Nat×Nat}{fs:List (Nat×Nat×Nat)}{k:Nat}{zz:List Kz}(hTI:uW P TI=true)(h1:jV TI t=some ⟨.st (f::fs),k,zz⟩):∃fds:Array Field,P.underlying t=some (.struct fds)/\fds.toList.length=(f::fs).length/\
  (∀(j:Nat) (fd:Field) (q:Nat×Nat×Nat),fds.toList[j]? =some fd->(f::fs)[j]? =some q->fd.type=q.2.1/\fd.offset=q.1)/\
  ((fds.toList.all λf=>Za P f.type)=true->P.eqGuardType P.depth t=false/\P.stoodInHeld t=false/\(fds.toList.all λf=>f.name != "_")=true):=by
 obtain⟨_,hfs,hor⟩:=aJo (bT hTI h1) rfl;have heq:=cCi (bT hTI h1) rfl;rcases hor with⟨_,pls,k1,k2⟩|⟨hne,_⟩
 ·unfold aU3 at k1;cases hu:P.underlying t with
  |none=>simp_all
  |some d=>
   cases d<;>simp[hu] at k1;rename_i fds;refine⟨fds,rfl,(bGw k1).symm.trans (bGx k2),λj fd qq ha hc=> ?_,λhf=> ?_⟩
   ·have h5:=(aVk hfs (n:=j) (off:=qq.1) (ft:=qq.2.1) (k:=qq.2.2) hc).2.1
    grind[bO8]
   grind[cAj,Bool.not_true,Bool.not_eq_true']
 ·cases hne
def bMw {D:Nat}{w:World}{C:Cod U}{X:Nat->Prop}{β:List Tr}{m:Mm U}(d:uW P TI=true){t:Nat}{f:Nat×Nat×Nat}{fs:List (Nat×Nat×Nat)}{k:Nat}{r:List Kz}{cs ds:List (Lf U)}{q:Bool}{vs h:List Value}(h1:jV TI t=some ⟨.st (f::fs),k,r⟩)
  (hv:Ms C w X β m vs cs) (u:Ms C w X β m h ds) (h2:eqQ TI 0 (f::fs) cs ds=some q):P.eqGuardType P.depth t=false/\Za P t=true/\∀w':World,(Op.equalIn (D+2) t (.agg vs.toArray) (.agg h.toArray)).run P w'= .ok q w':=by
 obtain⟨fds,n,hlen,o,p⟩:=bSe d h1;have b:∀(l:List Value) (e:List (Lf U)),Ms C w X β m l e->∀(j:Nat) (c:Lf U),e[j]? =some c->∃v,l.toArray[0+j]? =some v/\c.mean C w X β m v:=λl e hm j c hc=>by
  have hj:j<l.length:=by rw[hm.1];grind
  exact⟨l[j],by simp[hj],hm.2 j _ c (ab hj) hc⟩
 have key:=λw':World=>bSc (D:=D) (w:=w) (w':=w') (C:=C) (X:=X) (β:=β) (m:=m) d (xs:=vs.toArray) (ys:=h.toArray) (fds:=fds.toList) (i:=0) hlen o (b vs cs hv) (b h ds u) h2;obtain⟨x,y,z⟩:=p (bPf (key w).1);refine⟨x,by simp only[Za,n];exact(key w).1,λw'=> ?_⟩
 grind[run_equalIn_struct,Program.fieldsOf]
def cAm {D:Nat}{w:World}{C:Cod U}{X:Nat->Prop}{β:List Tr}{m:Mm U}(b:uW P TI=true){ft:Nat}{i:TInfo}{x y:Sv U}{v u:Value}{q:Bool}(c:jV TI ft=some i)(d:x.mean C w X β m v)(e:y.mean C w X β m u)(h:eqV TI i x y=some q):
  Za P ft=true/\∀w':World,(Op.equalIn (D+2) ft v u).run P w'= .ok q w':=by
 obtain⟨f,l,n⟩:=i;unfold eqV at h;split at h
 ·split at h
  ·rename_i he;split at h
   ·rename_i hk;subst hk;have he:f=_:=he;subst he;obtain⟨j,_⟩:=M3 (bT b c) rfl;obtain⟨rfl,_⟩:=d;obtain⟨rfl,_⟩:=e
    grind[Za,run_equalIn_int]
   ·cases h
  ·cases h
 ·split at h
  ·rename_i he;have he:f=_:=he;subst he;obtain⟨j,_⟩:=aJn (bT b c) rfl;obtain rfl:=d;obtain rfl:=e
   grind[Za,run_equalIn_bool']
  ·cases h
 ·split at h
  ·rename_i he;have he:f=_:=he;subst he;obtain⟨j,_⟩:=Xq (bT b c) rfl;obtain⟨rfl,_⟩:=d;obtain⟨rfl,_⟩:=e
   grind[Za,run_equalIn_string]
  ·cases h
 ·split at h
  ·rename_i g o he;have he:f=_:=he;subst he;obtain⟨vs,rfl,hv⟩:=d;obtain⟨p,rfl,k⟩:=e;obtain⟨_,k2,k3⟩:=bMw (D:=D) b c hv k h;simp[*]
  ·cases h
 ·cases h
def bSf {D:Nat}{w w':World}{X:Nat->Prop}{β:List Tr}{m:Mm U}(hTI:uW P TI=true){vs us:List Value}{cs ds:List (Lf U)}(hv:Ms Y.C w X β m vs cs)(hu:Ms Y.C w X β m us ds):∀{fs:List (Nat×Nat×Nat)} {fds:List Field} {z:Bool},fds.length=fs.length->
  (∀(j:Nat) (fd:Field) (q:Nat×Nat×Nat),fds[j]? =some fd->fs[j]? =some q->fd.type=q.2.1/\fd.offset=q.1)->
  eqN TI fs cs ds=some z->(fds.all λf=>Za P f.type)=true/\((fds.all λf=>f.name != "_")=true->(Op.eqFields (D+2) vs.toArray us.toArray fds).run P w'= .ok z w')
 |[],fds,z,hl,_,he=>by
  have h1:fds=[]:=List.length_eq_zero_iff.1 hl;subst h1;cases he;exact⟨rfl,λ_=>bMl⟩
 |(off,ft,n)::fs,[],z,hl,_,_=>by cases hl
 |(off,ft,n)::fs,fd::fds,z,hl,hfd,he=>by
  unfold eqN at he;split at he
  ·rename_i i hi;split at he
   ·rename_i x hcx;split at he
    ·rename_i y hcy;split at he
     ·rename_i a ha;split at he
      ·rename_i r hr;obtain⟨k1,k2⟩:=hfd 0 fd (off,ft,n) rfl rfl;have k1:fd.type=ft:=k1;have k2:fd.offset=off:=k2;obtain⟨v,p1,m1⟩:=aVm (bT hTI hi) hcx hv;obtain⟨u,p2,m2⟩:=aVm (bT hTI hi) hcy hu;obtain⟨f1,f2⟩:=cAm (D:=D) hTI hi m1 m2 ha;obtain⟨g1,g2⟩:=bSf (D:=D) (w':=w') hTI hv hu (fs:=fs) (fds:=fds) (by simpa using hl) (λj fd q a b=>hfd (j+1) fd q (by simpa using a) (by simpa using b)) hr;cases he;refine⟨by rw[ig,k1,f1,g1];rfl,λhn=> ?_⟩
       rw[ig,ac] at hn;have hnm:fd.name≠ "_" :=by simpa using hn.1
       simp only[Op.eqFields,hnm,ne_eq,not_false_eq_true,gS,Sem.run_bind,k1,k2,p1,p2,f2,Result.andThen_ok];cases a with
       |true=>simp only[aj,Bool.false_eq_true,if_false,cA];exact g2 hn.2
       |false=>simp only[cy,gS,Sem.run_pure,Bool.false_and]
      ·cases he
     ·cases he
    ·cases he
   ·cases he
  ·cases he
theorem bPg (c:uW P TI=true)(r:bJ Y.C E s a w β){b:BinOp}{t u:TypeId}{x y:Operand}{f:Nat×Nat×Nat}{fs:List (Nat×Nat×Nat)}{k:Nat}{n:List Kz}{cs ds:List (Lf U)}{q:Bool}(p:eT s x= .a cs)(v:eT s y= .a ds)(h1:jV TI t=some ⟨.st (f::fs),k,n⟩)(h2:eqB TI (f::fs) cs ds=some q)(hb:b= .eql\/b= .neq):
  MO P Y.C E s a w β (.binOp b t x y u) (.l (.bool (if b= .eql then q else !q))):=λo ho=>by
 obtain⟨vs,q1,q2⟩:=cAl r (bSa p);obtain⟨A,i,j⟩:=cAl r (bSa v);have hq:P.eqGuardType P.depth t=false/\∀w':World,(Op.equalIn 10000 t (.agg vs.toArray) (.agg A.toArray)).run P w'= .ok q w':=by
  unfold eqB at h2;split at h2
  ·rename_i z B;cases h2;obtain⟨k1,_,k3⟩:=bMw (D:=9998) c h1 q2 j B;simp[*]
  ·obtain⟨fds,F,hlen,d,e⟩:=bSe c h1;have key:=λw':World=>bSf (D:=9997) (w':=w') c q2 j hlen d h2;obtain⟨h,G,H⟩:=e (key w).1
   grind[run_equalIn_struct,Program.fieldsOf]
 obtain⟨h,hq⟩:=hq;rcases hb with rfl|rfl
 ·exact⟨.bool q,λw' _=>by simp only[execOp,ho,q1,i,Sem.run_bind,run_eqGuard_agg _ _ _ _ _ _ _ h,Result.andThen_ok,run_eql_struct,hq,Sem.run_pure],rfl⟩
 ·exact⟨.bool (!q),λw' _=>by simp only[execOp,ho,q1,i,Sem.run_bind,run_eqGuard_agg _ _ _ _ _ _ _ h,Result.andThen_ok,run_neq_struct,hq,Sem.run_pure],rfl⟩
def bPh (c:uW P TI=true)(r:bJ Y.C E s a w β){b:BinOp}{t u:TypeId}{x y:Operand}{z:Lf U}(h:bin TI b t (eT s x) (eT s y)=some z):MO P Y.C E s a w β (.binOp b t x y u) (.l z):=by
 generalize e:eT s x=f at h;generalize j:eT s y=n at h;unfold bin at h;split at h
 ·grind[aVn]
 ·grind[aVo]
 ·split at h
  ·rename_i i k z' d;have ht:=(aJn (bT c d) rfl).1;split at h
   ·simp only[ai] at h;subst h;exact qV r (by simp_all[cD0,bEd])
   ·simp only[ai] at h;subst h;exact qV r (by simp_all[cD1,bEd])
   ·cases h
  ·cases h
 all_goals grind[Option.some.injEq,bPg,inl]
def aRl {xs:Array Operand}{x y:Operand}(h:xs.toList=[x,y]):xs= #[x,y]:=by grind
def Md {α:Type}{xs:Array α}{x:α}(h:xs.toList=[x]):xs= #[x]:=by grind
def bBn (v:uW P TI=true)(r:bJ Y.C E s a w β){op:Op}{x:Sv U}(h:pur Y TI s op=some x):MO P Y.C E s a w β op x:=by
 unfold pur at h;split at h
 ·simp only[ai] at h;subst h;exact λo ho=>⟨_,λw' _=>by simp[execOp,ho],lG r⟩
 ·simp only[ai] at h;subst h;exact λo ho=>⟨_,λw' _=>by simp[execOp,ho],lG r⟩
 ·rename_i c y z;split at h
  ·rename_i b hc;have G:a.eval c= .bool b:=pE r hc;cases b with
   |true=>simp only[ae,ai] at h;subst h;exact λo ho=>⟨_,λw' _=>by simp[execOp,ho,G,asBool],lG r⟩
   |false=>simp only[aa,ai] at h;subst h;exact λo ho=>⟨_,λw' _=>by simp[execOp,ho,G,asBool],lG r⟩
  ·cases h
 ·rename_i y;split at h
  ·rename_i b off V;split at h
   ·rename_i T cs us rv cv F;simp only[ai] at h;subst h;rw[aY] at F;have hm:=pE r V;obtain⟨_,e,tr,h1,h2,B⟩:=pE r V;rw[F] at h1;injection h1 with h1;subst h1;obtain⟨bb,_,hv⟩:=B rfl;exact λo ho=>⟨a.eval y,λw' _=>by simp[execOp,ho,hv],hm⟩
   ·cases h
  ·cases h
 ·grind[Option.some.injEq,nR,cDx,dW,qV,not_,bEd]
 ·rename_i t u y;split at h
  ·rename_i k1 i1 z1 j i2 z2 k n h1 h2 B;simp only[ai] at h;subst h;exact nR r λ_=>cnv (by rw[(M3 (bT v h1) rfl).1];rfl) (M3 (bT v h2) rfl).1 (dW B)
  ·cases h
 ·rename_i t y f;split at h
  ·rename_i fs i z p h1 h2;split at h
   ·rename_i off ft n B;split at h
    ·rename_i q F;simp only[ai] at h;subst h;have D:=(aJo (bT v h1) rfl).2.1;simp only[fld,aY] at B;have H:=(aVk D B).1;rw[co] at H;obtain⟨v',q1,q2⟩:=aJq r H (pE r h2) F;exact λo ho=>⟨v',λw' _=>by simp[execOp,ho,q1],q2⟩
    ·cases h
   ·cases h
  ·cases h
 ·rename_i t y;split at h
  ·rename_i i p h1 h2;obtain⟨p',v',q1,q2,q3⟩:=bBm r (bT v h1) (pE r h2) h;exact λo ho=>⟨v',λw' he=>by simp[execOp,ho,q1,Instr.loadAt,Instr.sureAddr,q2 w' he],q3⟩
  ·cases h
 ·rename_i t y f;split at h
  ·rename_i fs i z cs h1 h2;split at h
   ·rename_i off ft n B;split at h
    ·rename_i j F;have D:=(aJo (bT v h1) rfl).2.1;simp only[fld,aY] at B;have H:=(aVk D B).2.1;rw[co] at H;obtain⟨vs,q1,q2⟩:=cAl r (bSa h2);obtain⟨v',q3,q4⟩:=aVm (bT v F) h q2;exact λo ho=>⟨v',λw' _=>by simp only[execOp,ho,q1,bMn H,q3,Sem.run_bind,Sem.run_pure,Result.andThen_ok,Sem.run_map],q4⟩
    ·cases h
   ·cases h
  ·cases h
 ·rename_i t ps;split at h
  ·rename_i fs k z h1;split at h
   ·rename_i cs h2;simp only[ai] at h;subst h;have I:=bT v h1;obtain⟨j,O,k3,k4,k5⟩:=aUm I;obtain⟨W,_,Q⟩:=aJo I rfl;rcases Q with⟨_,pls,k1,k2⟩|⟨rfl,J⟩
    rotate_left
    ·--an array:nothing is put in
     have R:ps.toList=[]:=by cases hp:ps.toList<;>grind[bJz,fld,aY]
     rw[R] at h2;simp only[bJz,ai] at h2;subst h2;refine λo ho=>⟨.agg O.cells,λw' _=> ?_,O.cells.toList,by simp,M4 k5⟩;unfold arB at J;cases S:P.underlying t with
     |none=>simp_all
     |some d=>cases d<;>simp[S] at J;rename_i n e;cases hi:P.info? e<;>simp_all[execOp,Instr.build,zeroValue,typeInfo,k3,k4,run_underlying,sizeOf,Instr.fill]
    obtain⟨res,k6,k7⟩:=bGv r k2 h2 O.cells (M4 k5);refine λo ho=>⟨.agg res,λw' _=> ?_,res.toList,by simp,k7⟩;unfold aU3 at k1;cases S:P.underlying t with
    |none=>simp_all
    |some d=>
     cases d<;>simp[S] at k1;rename_i fds;have hm:=aU4 (w:=w') k1;have hm':(fds.mapM λf=>(Prod.mk f.offset<$>sizeOf f.type:Sem (Nat×Nat))).run P w'= .ok pls.toArray w':=by rw[<-Array.toArray_toList (xs:=fds),List.mapM_toArray];simp[*]
     simp_all[Instr.fill,k6,execOp,Instr.build,zeroValue,typeInfo,k3,k4,run_underlying]
   ·cases h
  ·cases h
 ·rename_i y i;split at h
  ·rename_i xs h1;split at h
   ·rename_i c h2;simp only[ai] at h;subst h;rw[aY] at h2;have hm:=lG r (x:=y);rw[cCl h1] at hm;obtain⟨vs,q1,q2,q3⟩:=hm;have hl:i<vs.length:=by grind
    exact λo ho=>⟨vs[i],λw' _=>by simp[execOp,ho,q1,Instr.extract,hl],yA (q3 i _ c (ab hl) h2)⟩
   ·cases h
  ·cases h
 ·rename_i Z ats;split at h
  ·rename_i y t A L;rw[Md A,Md L];split at h
   ·rename_i e ek eb i z p h1 h2;have hs:=(Gp (bT v h1) rfl).1;split at h
    ·cases h
    ·rename_i hns;cases hl:lenOf s.m p with
     |none=>simp_all
     |some q=>
      simp only[hl,ai] at h;subst h;cases p with
      |nil=>
       simp only[lenOf,ai] at hl;subst hl;have hv:∀E':VK.Env P g,VK.Ev E' (brS s false) y .nil:=λE'=>by
        have:vw s.m false (zK s y)= .nil:=by
         unfold eT at h2;cases ho:zK s y with
         |l z=>
          simp only[ho,Sv.l.injEq] at h2;cases z with
          |nil=>rfl
          |nat a=>simp only[rsv,aY] at h2;cases hn:s.m.ns[a]? <;>simp[hn] at h2
          |lt a n=>simp only[rsv,aY] at h2;cases hn:s.m.ns[a]? <;>simp[hn] at h2
          |_=>simp[rsv] at h2
         |_=>simp_all
        grind[bEb]
       grind[nR,cD3]
      |str z=>simp_all
      |_=>
       simp only[lenOf] at hl;split at hl
       ·rename_i τ l hr;simp only[ai] at hl;subst hl;exact nR r λ_=>cD2 hs (bX6 h2 hr)
       ·cases hl
   ·rename_i i z q h1 h2;simp only[ai] at h;subst h;exact nR r λ_=>cD4 (Xq (bT v h1) rfl).1 (Xr h2)
   ·cases h
  ·cases h
 ·rename_i Z ats;split at h
  ·rename_i y z A;rw[aRl A];split at h
   ·rename_i k m k' n h1 h2;split at h
    ·rename_i he;subst he;simp only[ai] at h;subst h;exact nR r (by simp_all[mn2,dW])
    ·cases h
   ·cases h
  ·cases h
 ·rename_i Z ats;split at h
  ·rename_i y z A;rw[aRl A];split at h
   ·rename_i k m k' n h1 h2;split at h
    ·rename_i he;subst he;simp only[ai] at h;subst h;exact nR r (by simp_all[mx2,dW])
    ·cases h
   ·cases h
  ·cases h
 ·cases h
end
end Go.EV
namespace Go.EV
open Go.RowKit Go.VK
variable {U:Uni} {Y:Lay U} {TI:List (Nat×TInfo)} {P:Program} {g:GI} {E:Env U g}
section
variable {s:St U} {a:Act} {w:World} {β:List Tr} {α:Type}
def qW {x:Operand}{n:Int}(h:Co (eT s x)=some n):∃k,eT s x= .l (.int k n):=by
 cases ho:eT s x with
 |l y=>
  cases y with
  |int k m=>rw[ho] at h;simp only[Co,ai] at h;subst h;exact⟨k,rfl⟩
  |_=>rw[ho] at h;cases h
 |_=>rw[ho] at h;cases h
def bPi (r:bJ Y.C E s a w β){f:(τ:Nat)->List (U.El τ)->List (U.El τ)}{p B:Lf U}{τ:Nat}{l:List (U.El τ)}(hr:wI s.m p=some (.sl τ l))(hs:aZd f s.m.o p=some B){v v0:Value}(hm:p.mean Y.C w (E.X β) β s.m v0)
  (h1:v.oneCell'=true) (hv:∀Z:Nat->Prop,Rd w Z [] v0 (.slice (U.K τ) (l.map (U.enc τ)))->Rd w Z [] v (.slice (U.K τ) ((f τ l).map (U.enc τ)))):B.mean Y.C w (E.X β) β s.m v:=by
 have own:∀(i c:Nat) (e:EO U),s.m.o[i]? =some e->e.cv=c->rM p=false->(∀t,β[i]? =some t->Rd w (λb=>E.X β b/\b∉t.all) [] v0 (.slice (U.K τ) (l.map (U.enc τ))))->(Lf.bor i c τ (f τ l):Lf U).mean Y.C w (E.X β) β s.m v:=λi c e he hc _ hrd=>by
  obtain⟨t,ht⟩:=r.hp.tr he;exact⟨⟨hc▸(r.hp.vers i e he).2,h1⟩,e,t,he,ht,λ_=>hv _ (hrd t ht)⟩
 cases p with
 |sl τ' l'=>simp only[wI,ai,Lf.sl.injEq] at hr;obtain⟨rfl,hl⟩:=hr;obtain rfl:=et hl;simp only[aZd,ai] at hs;subst hs;exact hv _ hm
 |own i q=>
  obtain⟨_,e,t,k1,k2,k3⟩:=hm;simp only[wI,aY,k1] at hr;simp only[aZd,aY,k1] at hs;obtain⟨ob,rv,cv⟩:=e;cases ob with
  |tree τ' d l'=>
   cases hb:Nat.beq rv q with
   |false=>simp[hb] at hr
   |true=>simp only[hb,ae,ai,Lf.sl.injEq] at hr hs;obtain⟨rfl,hl⟩:=hr;obtain rfl:=et hl;subst hs;refine own i cv _ k1 rfl rfl (λt' h=> ?_);rw[k2] at h;injection h with h;subst h;rw[k3 (ah hb)];exact(Hp.tree r.hp k2 k1 rfl).rd (λb hb'=>hb'.1) (λb hb' hn=>hn.2 hb')
  |_=>cases hr
 |bor i c τ' l'=>
  obtain⟨h0,e,t,k1,k2,k3⟩:=hm;simp only[wI,okv,aY,k1] at hr;simp only[aZd,ai] at hs;cases hb:Nat.beq e.cv c with
  |false=>simp[hb] at hr
  |true=>simp only[hb,ae,ai,Lf.sl.injEq] at hr;obtain⟨rfl,hl⟩:=hr;obtain rfl:=et hl;subst hs;refine own i c e k1 (ah hb) rfl (λt' h=> ?_);rw[k2] at h;injection h with h;subst h;exact k3 (ah hb)
 |inn i c τ0 q z j τ' l'=>
  have I:=hm;obtain⟨h0,e,t,k1,k2,k3⟩:=hm;have J:=hr;simp only[wI,okv,aY,k1] at hr;simp only[aZd,ai] at hs;cases hb:Nat.beq e.cv c with
  |false=>simp[hb] at hr
  |true=>
   simp only[hb,ae,ai,Lf.sl.injEq] at hr;obtain⟨rfl,hl⟩:=hr;obtain rfl:=et hl;subst hs;refine own i c e k1 (ah hb) rfl (λt' h=> ?_);rw[k2] at h;injection h with h;subst h;have hc:=ah hb;obtain⟨d,L,xs,D,a2,O,F,Q,G⟩:=k3 hc;have k:=r.hp.ok i t e k2 k1;rw[D] at k;obtain⟨_,R,b2,b3⟩:=k;obtain⟨l1,l2,x1,n,x2,B1,Bz,B2,g1,g2,H,S,T,V,o1,W,o3,_⟩:=bEf r.hp k2 k1 D O;have u:xs=x1++(n++x2):=by
    rcases fA Q with⟨x,c2,c3,_⟩|⟨b,cur,x,_,_,_,c5,_,c7⟩
    ·have:=H.1;rw[c2] at this;simp at this;rw[c3,this.1,this.2.1,this.2.2];rfl
    ·rcases fA H with⟨d1,_⟩|⟨b',cur',d1,_,_,_,d5,_,d7⟩
     ·rw[x] at d1;cases d1
     ·rw[x] at d1;injection d1 with d1;subst d1;rw[c5] at d5;injection d5 with d5;injection d5 with d5;subst d5;rw[<-c7,<-d7]
   have y:n[j]? =some v0:=by
    have A:j<n.length:=by rw[T,<-Y.C.hlen τ0 z];exact lt_of_some F
    rw[u,<-S,az (di _ _),cL,av A] at G;exact G
   exact(W.rd (Z:=λb=>E.X β b/\b∉t.all) (λb hb'=>hb'.1) (λb hb' hn=>hn.2 (by simp[Tr.all,V,hb']))).2 j v0 _ y F
 |_=>cases hs
def bEj (r:bJ Y.C E s a w β){op:Op}{f:(τ:Nat)->List (U.El τ)->List (U.El τ)}{x:Operand}{p i:Lf U}{τ:Nat}{l:List (U.El τ)}(k:eT s x= .l p)(hr:wI s.m p=some (.sl τ l))(hs:aZd f s.m.o p=some i)
  (a0 d:Nat) (e:a0<=d) (hb:d<=l.length) (n:f τ l=(l.take d).drop a0)
  (b:∀(A:Option Addr) (c:Nat),a.eval x= .slice A l.length c->l.length<=c->∀o:Oper,o.op=op->∀w',(execOp a.eval o).run P w'= .ok (.value (.slice (if c=a0 then A else A.map λq=>q.add (a0*U.K τ)) (d-a0) (c-a0))) w'):MO P Y.C E s a w β op (.l i):=λo ho=>by
 have hm:=pE r k;have h0:=(Sb r.hp hm hr (Z:=λ_=>False) (λ_ h=>h.elim) (.inr λ_ _ _ _ _ h=>h)).2;obtain⟨A,c,h1,h2,t⟩:=Rd.aAZ (show Rd w _ [] (a.eval x) (.slice (U.K τ) (l.map (U.enc τ))) from h0);rw[bf] at h1 h2;refine⟨_,λw' _=>b A c h1 h2 o ho w',bPi r hr hs hm rfl λZ j=> ?_⟩;rw[h1] at j;rw[n,fp,List.map_take];exact j.sub e (by rw[bf];exact hb)
def bGy (B:uW P TI=true)(r:bJ Y.C E s a w β){t:TypeId}{x:Operand}{R hi:Option Operand}{K:Sv U->Option α}{z:α}(h:aCu Y TI s (.slice t x R hi none) K=some z):∃y,K y=some z/\MO P Y.C E s a w β (.slice t x R hi none) y:=by
 simp only[aCu] at h;split at h
 ·rename_i i k S str h1 h2;have ht:=(Xq (bT B h1) rfl).1;split at h
  ·rename_i v;split at h
   ·rename_i n hn;obtain⟨hg,h⟩:=mI h;obtain⟨q,hn⟩:=qW hn;exact⟨_,h,bEi r λ_=>cEb hg ht (Xr h2) (dW hn)⟩
   ·cases h
  ·rename_i T;split at h
   ·rename_i n hn;obtain⟨hg,h⟩:=mI h;obtain⟨q,hn⟩:=qW hn;exact⟨_,h,bEi r λ_=>cEc hg ht (Xr h2) (dW hn)⟩
   ·cases h
  ·rename_i T v;split at h
   ·rename_i m n hm hn;obtain⟨hg,h⟩:=mI h;obtain⟨q,hn⟩:=qW hn;obtain⟨D,hm⟩:=qW hm;exact⟨_,h,bEi r λ_=>cEa hg ht (Xr h2) (dW hm) (dW hn)⟩
   ·cases h
  ·cases h
 ·rename_i e ek eb k S p h1 h2;have I:=(Gp (bT B h1) rfl).1;obtain⟨H,ii,V,j,hz,F,W,Z,hk0⟩:=gF I;split at h
  ·rename_i τ l hr;cases b:Xn (U:=U) e ek τ with
   |false=>simp[b] at h
   |true=>
    simp only[b,ae] at h;simp only[Xn,ac] at b;have he:e=τ:=ah b.1;have hk:U.K τ=ek:=ah b.2;subst he;split at h
    ·split at h
     ·rename_i J hs;refine⟨_,h,bEj r h2 hr hs 0 l.length (ct _) (ak _) (by simp) λA c u hc o ho w'=> ?_⟩
      simp[execOp,ho,u,Instr.sliceAt,Instr.slice,run_underlying H,Instr.sliceBounds,Instr.sliceBound,asIntOf,sizeOf,typeInfo,j,hc]
     ·cases h
    ·rename_i v;split at h
     ·rename_i n J hn hs;obtain⟨hg,h⟩:=mI h;rw[hn] at hs;obtain⟨q,d⟩:=qW hn;have f:a.eval v= .int q n:=(pE r d).1;refine⟨_,h,bEj r h2 hr hs 0 n.toNat (ct _) hg.2 (by simp) λA c u hc o ho w'=> ?_⟩
      have G:(0<=n/\n<=(c:Int)):=⟨hg.1,by have:=hg.2;have:=hg.1;omega⟩;simp[execOp,ho,u,f,Instr.sliceAt,Instr.slice,run_underlying H,Instr.sliceBounds,Instr.sliceBound,asIntOf,G,sizeOf,typeInfo,j]
     ·cases h
    ·rename_i L;split at h
     ·rename_i n J hn hs;obtain⟨hg,h⟩:=mI h;rw[hn] at hs;obtain⟨q,d⟩:=qW hn;have f:a.eval L= .int q n:=(pE r d).1;refine⟨_,h,bEj r h2 hr hs n.toNat l.length hg.2 (ak _) (by simp) λA c u hc o ho w'=> ?_⟩
      have G:(0<=n/\n<=(l.length:Int)):=⟨hg.1,by have:=hg.2;have:=hg.1;omega⟩;simp[execOp,ho,u,f,Instr.sliceAt,Instr.slice,run_underlying H,Instr.sliceBounds,Instr.sliceBound,asIntOf,G,sizeOf,typeInfo,j,F,hk]
     ·cases h
    ·rename_i L v;split at h
     ·rename_i n m J hn hm hs;obtain⟨hg,h⟩:=mI h;rw[hn,hm] at hs;obtain⟨q,d⟩:=qW hn;obtain⟨D,O⟩:=qW hm;have f:a.eval L= .int q n:=(pE r d).1;have Q:a.eval v= .int D m:=(pE r O).1;obtain⟨g1,g2,g3,g4⟩:=hg;refine⟨_,h,bEj r h2 hr hs n.toNat m.toNat (by omega) g4 (by simp) λA c u hc o ho w'=> ?_⟩
      have G:(0<=m/\m<=(c:Int)):=⟨g3,by omega⟩;have e2:(0<=n/\n<=((m.toNat:Nat):Int)):=⟨g1,by omega⟩;simp[execOp,ho,u,f,Q,Instr.sliceAt,Instr.slice,run_underlying H,Instr.sliceBounds,Instr.sliceBound,asIntOf,G,e2,sizeOf,typeInfo,j,F,hk];intro v;exfalso;omega
     ·cases h
  ·cases h
 ·cases h
end
end Go.EV
namespace Go.EV
open Go.RowKit Go.VK
variable {U:Uni} {Y:Lay U} {TI:List (Nat×TInfo)} {P:Program} {g:GI} {E:Env U g}
section
variable {s:St U} {a:Act} {w:World} {β:List Tr} {α:Type}
def bWh (r:bJ Y.C E s a w β){x y:Operand}{c:Nat}{k:IntKind}{m n:Int}{t u:TypeId}(hc:zK s x= .l (.nat c))(b:eT s x= .l (.int k m))(d:eT s y= .l (.int k n)):MO P Y.C E s a w β (.binOp .lss t x y u) (.l (.lt c n)):=λo ho=>by
 obtain⟨v,h1,h2⟩:=qV (P:=P) r (λ_=>lss (t:=t) (u:=u) (dW b) (dW d)) o ho;refine⟨v,h1,?_⟩;have hm:=lG r (x:=x);rw[hc] at hm;obtain⟨i,f,k1,k2,k3⟩:=hm;have hk:k= .i64/\m=(i:Int):=by have:=(pE r b).1;rw[k2] at this;injection this with e h;exact⟨e.symm,h.symm⟩
 obtain⟨rfl,rfl⟩:=hk;have hn:=(pE r d).2.2;exact⟨i,f,k1,h2,by simpa[IntKind.max,IntKind.signed,IntKind.bits] using hn⟩
def bSg (r:bJ Y.C E s a w β){t:TypeId}{e ek eb:Nat}(h:slB P t e ek eb=true){x y:Operand}{i q0:Nat}{τ:Nat}{d:Bool}{l:List (U.El τ)}{rv cv:Nat}{k:IntKind}{q:Int}{z:U.El τ}(F:eT s x= .l (.own i q0))(G:eT s y= .l (.int k q))
  (ho:s.m.o[i]? =some ⟨.tree τ d l,rv,cv⟩) (hr:rv=q0) (hk:U.K τ=ek) (H:aT l q=some z):MO P Y.C E s a w β (.indexAddr t x y) (.l (.oel i cv τ q z 0)):=λo j=>by
 obtain⟨I,S,T,n,J,p,L,O,Q⟩:=gF h;obtain⟨h0,hq⟩:=L9 H;have hm:=pE r F;obtain⟨_,e',t',k1,k2,k3⟩:=hm;rw[ho] at k1;injection k1 with k1;subst k1;have hv:=k3 hr;have u:a.eval y= .int k q:=(pE r G).1;have v:=r.hp.ok i t' _ k2 ho;obtain⟨_,xs,R,_⟩:=v;have A:q.toNat<l.length:=lt_of_some hq;rcases fA R with⟨_,D,_⟩|⟨b,cur,b1,D,_⟩
 ·omega
 ·have f:a.eval x= .slice (some ⟨b,0,none⟩) l.length t'.c:=by rw[hv];simp[Tr.val,b1,D]
  refine⟨.pointer (some (Addr.add ⟨b,0,none⟩ (q.toNat*ek))),λw' _=> ?_,⟨⟨(r.hp.vers i _ ho).2,rfl⟩,⟨.tree τ d l,rv,cv⟩,t',ho,k2,λ_=>⟨d,l,b,rfl,h0,hq,b1,?_⟩⟩⟩
  ·have B:q.toNat<l.length:=A;simp[execOp,j,f,u,Instr.indexAt,asIntOf,run_underlying I,sizeOf,typeInfo,n,p,h0,B];intro V;exfalso;omega
  ·rw[gX,hk];simp
def bSh (r:bJ Y.C E s a w β){t:TypeId}{e ek eb:Nat}(h:slB P t e ek eb=true){x y:Operand}{i c j τ τ' τ1:Nat}{q q':Int}{z:U.El τ}{l:List (U.El τ')}{L:List (U.El τ1)}{rv cv:Nat}{k:IntKind}{z':U.El τ'}(O:eT s x= .l (.inn i c τ q z j τ' l))(Q:eT s y= .l (.int k q'))
  (ho:s.m.o[i]? =some ⟨.tree τ1 true L,rv,cv⟩) (hr:cv=c) (hk:U.K τ'=ek) (R:aT l q'=some z'):MO P Y.C E s a w β (.indexAddr t x y) (.l (.oin i c τ q z j τ' l q' z' 0)):=λo n=>by
 obtain⟨S,ii,zz,p,T,v,V,W,Z⟩:=gF h;obtain⟨h0,hq⟩:=L9 R;obtain⟨g0,e',t',k1,k2,k3⟩:=pE r O;rw[ho] at k1;injection k1 with k1;subst k1;obtain⟨d,L1,xs,a1,a2,F,G,H,I⟩:=k3 hr;injection a1 with e1 e2 e3;subst e1;subst e2;obtain rfl:=et e3;have A:a.eval y= .int k q':=(pE r Q).1;obtain⟨u,ys,b1,b2,b3,b4⟩:=bMt r.hp k2 ho rfl F G H I;have B:q'.toNat<l.length:=lt_of_some hq;rcases fA b2 with⟨_,J,_⟩|⟨b,cur,c1,J,_⟩
 ·omega
 ·have f:a.eval x= .slice (some ⟨b,0,none⟩) l.length u.c:=by rw[b1];simp[Tr.val,c1,J]
  refine⟨.pointer (some (Addr.add ⟨b,0,none⟩ (q'.toNat*ek))),λw' _=> ?_,⟨⟨g0.1,rfl⟩,_,t',ho,k2,λ_=>⟨_,xs,_,b,_,_,rfl,a2,F,G,H,I,f,h0,hq,?_⟩⟩⟩
  ·have D:q'.toNat<l.length:=B;simp[execOp,n,f,A,Instr.indexAt,asIntOf,run_underlying S,sizeOf,typeInfo,p,v,h0,D];intro hh;exfalso;omega
  ·rw[gX,hk];simp
def bSi (b:uW P TI=true)(r:bJ Y.C E s a w β){e f:TypeId}{x:Operand}{ek eb k1 k2 k3:Nat}{h i j:List Kz}{p:Lf U}{l:List (U.El Y.bt)}(h1:jV TI e=some ⟨.sl Y.bt ek eb,k1,h⟩)(h2:jV TI f=some ⟨.str,k2,i⟩)(k:jV TI Y.bt=some ⟨.int .u8,k3,j⟩)
  (o:eT s x= .l p) (hr:wI s.m p=some (.sl Y.bt l)) (hg:l.length<=68719476736):MO P Y.C E s a w β (.convert e f x) (.l (.str (bO9 (l.map Y.bi)))):=by
 have hK:U.K Y.bt=1:=by rw[<-Y.C.hlen Y.bt (Y.be 0),Y.hb];rfl
 have c:∀x,U.enc Y.bt x=[V.int .u8 (Y.bi x)]:=λx=>by rw[<-Y.C.hcel,Y.hb];rfl
 have d:l.map (U.enc Y.bt)=(l.map Y.bi).map λn=>[V.int .u8 n]:=by rw[gu];exact gh λx _=>c x
 refine bGp r false (λE'=>b2s (gF (Gp (bT b h1) rfl).1).1 (M3 (bT b k) rfl).1 (Xq (bT b h2) rfl).1 (ns:=l.map Y.bi) (by rw[bf];unfold maxLen;omega) ?_) λv hv=>bX7 hv;have:=bX6 (E':=E') o hr;rw[hK,d] at this;exact this
def bGz {α:Type}{q:Int}{F:Nat->Option α}{z:α}:∀{n:Nat},brA q F n=some z->∃j,j<n/\q=(j:Int)/\F j=some z
 |0,h=>by cases h
 |n+1,h=>by
  have h:(bif decide (q=(n:Int)) then F n else brA q F n)=some z:=h;by_cases hq:q=(n:Int)
  ·rw[au hq] at h;exact⟨n,eI _,hq,h⟩
  ·rw[ay hq] at h;obtain⟨j,h1,h2,b⟩:=bGz h;exact⟨j,by omega,h2,b⟩
def aGa (A:uW P TI=true)(r:bJ Y.C E s a w β){op:Op}{K:Sv U->Option α}{z:α}(h:aCu Y TI s op K=some z):∃x,K x=some z/\MO P Y.C E s a w β op x:=by
 unfold aCu at h;split at h
 ·rename_i b t x y u;generalize B:eT s x=V at h;generalize D:eT s y=W at h;split at h
  ·rename_i k m Z n;split at h
   ·split at h
    ·rename_i he;subst he;split at h
     ·rename_i c hc;exact⟨_,h,bWh r hc B D⟩
     ·exact⟨_,h,qV r λ_=>lss (dW B) (dW D)⟩
    ·cases h
   ·split at h
    ·rename_i he;subst he;obtain⟨hg,h⟩:=mI h;exact⟨_,h,nR r λ_=>quo hg (dW B) (dW D)⟩
    ·cases h
   ·split at h
    ·rename_i he;subst he;obtain⟨hg,h⟩:=mI h;exact⟨_,h,nR r λ_=>rem hg (dW B) (dW D)⟩
    ·cases h
   ·obtain⟨hg,h⟩:=mI h;exact⟨_,h,nR r λ_=>cD7 hg (dW B) (dW D)⟩
   ·obtain⟨hg,h⟩:=mI h;exact⟨_,h,nR r λ_=>cD8 hg (dW B) (dW D)⟩
   ·split at h
    ·rename_i he;subst he;split at h
     ·rename_i z' G;exact⟨_,h,aVn r B D G⟩
     ·cases h
    ·cases h
  ·rename_i m n;split at h
   ·obtain⟨hg,h⟩:=mI h;exact⟨_,h,bEi r λ_=>cDy hg (Xr B) (Xr D)⟩
   ·split at h
    ·rename_i z' G;exact⟨_,h,aVo r B D G⟩
    ·cases h
  ·split at h
   ·rename_i z' G;refine⟨_,h,bPh A r ?_⟩;rw[B,D];exact G
   ·cases h
 ·rename_i t x y;split at h
  ·rename_i e ek eb k R p I q h1 h2 F;have H:=(Gp (bT A h1) rfl).1;split at h
   ·rename_i τ l;cases f:Xn (U:=U) e ek τ with
    |false=>simp[f] at h
    |true=>
     simp only[f,ae] at h;simp only[Xn,ac] at f;have he:e=τ:=ah f.1;have hk:U.K τ=ek:=ah f.2;subst he;subst hk;obtain⟨c,hc,h⟩:=kL h;refine⟨_,h,bGp r true (λ_=>ixq hc H (cCj h2) (dW F true)) λv hv=> ?_⟩
     show Rd w (E.X β) [] v (.elem ((U.enc e c).drop 0));rw[jl];exact hv.conv (ak _) (λb _ hb=>⟨rfl,hb⟩) (λ_ _ _ h=>h) (λ_ _ h=>h)
   ·rename_i i q0;split at h
    ·rename_i τ d l rv cv ho;rw[aY] at ho;cases f:(Nat.beq rv q0&&Xn (U:=U) e ek τ) with
     |false=>rw[f] at h;cases h
     |true=>rw[f] at h;simp only[ae] at h;simp only[Xn,ac] at f;obtain⟨c,hc,h⟩:=kL h;exact⟨_,h,bSg r H h2 F ho (ah f.1) (ah f.2.2) hc⟩
    ·cases h
   ·rename_i i c τ q0 z j τ' l;split at h
    ·rename_i τ1 d L rv cv ho;rw[aY] at ho;cases f:(d&&(Nat.beq cv c&&Xn (U:=U) e ek τ')) with
     |false=>rw[f] at h;cases h
     |true=>rw[f] at h;simp only[ae] at h;simp only[Xn,ac] at f;obtain⟨c',hc,h⟩:=kL h;obtain⟨rfl,f⟩:=f;exact⟨_,h,bSh r H h2 F ho (ah f.1) (ah f.2.2) hc⟩
    ·cases h
   ·cases h
  ·rename_i k R b0 off I q h1 h2 F;obtain⟨j,hj,hq,J⟩:=bGz h;subst hq;clear h;split at J
   ·rename_i y' G;rcases(aJo (bT A h1) rfl).2.2 with⟨O,_⟩|⟨_,Q⟩
    ·exact absurd rfl O
    ·obtain⟨v',q1,q2⟩:=bEg r I Q hj (pE r h2) G;have hv:a.eval y= .int I (j:Int):=(pE r F).1;exact⟨_,J,λo ho=>⟨v',λw' _=>by simp[execOp,ho,hv,q1],q2⟩⟩
   ·cases J
  ·cases h
 ·rename_i t x y;split at h
  ·rename_i k R z' I q h1 h2 F;obtain⟨c,hc,h⟩:=kL h;exact⟨_,h,nR r λ_=>cD9 hc (Xq (bT A h1) rfl).1 (Xr h2) (dW F)⟩
  ·cases h
 ·exact bGy A r (by unfold aCu;exact h)
 ·rename_i ta tb x;split at h
  ·rename_i e ek eb k1 z1 k2 z2 p h1 h2 F;split at h
   ·rename_i τ l k3 z3 hr S;split at h
    ·rename_i l' hs;obtain⟨rfl,hl⟩:=qE hs;have hl:=et hl;subst hl;cases hb:Nat.beq e Y.bt with
     |false=>rw[hb] at h;cases h
     |true=>rw[hb] at h;obtain⟨hg,h⟩:=mI h;have he:=ah hb;subst he;refine⟨_,h,bSi A r h1 h2 S F hr hg⟩
    ·cases h
   ·cases h
  ·split at h
   ·rename_i T B;exact⟨T,h,bBn A r B⟩
   ·cases h
 ·split at h
  ·rename_i x B;exact⟨x,h,bBn A r B⟩
  ·cases h
def bSj (f:uW P TI=true)(r:bJ Y.C E s a w β){t:TypeId}{x b:Operand}{e ek eb k i q0 τ:Nat}{v:List Kz}{d:Bool}{l:List (U.El τ)}{rv cv:Nat}{n:Int}(h1:jV TI t=some ⟨.sl e ek eb,k,v⟩)(h2:eT s x= .l (.own i q0))(y:Co (eT s b)=some n)
  (ho:s.m.o[i]? =some ⟨.tree τ d l,rv,cv⟩) (hr:rv=q0) (hk:U.K τ=ek) (hg:gH l n):MO P Y.C E s a w β (.slice t x (some b) none none) (.l (.suf i cv τ n l)):=λo h=>by
 obtain⟨z,L,A,j,O,p,B,D,F⟩:=gF (Gp (bT f h1) rfl).1;obtain⟨G,hn⟩:=qW y;have q:a.eval b= .int G n:=(pE r hn).1;obtain⟨_,e',t',k1,k2,k3⟩:=pE r h2;rw[ho] at k1;injection k1 with k1;subst k1;have hv:=k3 hr;obtain⟨_,xs,H,_⟩:=r.hp.ok i t' _ k2 ho;have hlen:t'.n=l.length/\l.length<=t'.c:=by
  rcases fA H with⟨_,u,_,Q,R⟩|⟨b,cur,b1,u,I,_⟩
  ·omega
  ·exact⟨u,I⟩
 refine⟨aU6 (U.K τ) t' n.toNat l.length,λw' _=> ?_,⟨⟨(r.hp.vers i _ ho).2,rfl⟩,_,t',ho,k2,λ_=>⟨d,rfl,hg.1,hg.2,rfl⟩⟩⟩;have J:(0<=n/\n<=(l.length:Int)):=⟨hg.1,by have:=hg.2;have:=hg.1;omega⟩;simp[execOp,h,hv,Tr.val,hlen.1,q,Instr.sliceAt,Instr.slice,run_underlying z,Instr.sliceBounds,Instr.sliceBound,asIntOf,J,sizeOf,typeInfo,j,p,hk,aU6]
end
end Go.EV
namespace Go.EV
open Go.RowKit Go.VK
variable {U:Uni} {Y:Lay U} {TI:List (Nat×TInfo)} {P:Program} {g:GI} {E:Env U g} {C:Cod U}
theorem sD:∀{l:List Nat} {i:Nat},E5 i l=true↔i∈l
 |[],i=>by simp[E5]
 |x::l,i=>by
  have e:E5 i (x::l)=cond (Nat.beq x i) true (E5 i l):=rfl;rw[e,bg];cases hb:Nat.beq x i with
  |true=>simp[(ah hb).symm]
  |false=>simp only[aa];rw[sD];exact⟨.inr,λh=>h.resolve_left (λe=>by rw[e,show Nat.beq x x=true from dp x] at hb;cases hb)⟩
theorem Sd:∀{l:List Nat},dist l=true↔l.Nodup
 |[]=>by simp[dist]
 |x::l=>by
  have e:dist (x::l)=cond (E5 x l) false (dist l):=rfl;rw[e,cr,<-Sd (l:=l),<-sD (l:=l)];cases E5 x l<;>simp
theorem Xt {k:Nat}:∀{ids:List Nat} {o:List (EO U)},(kil k ids o).length=o.length
 |[],o=>rfl
 |i::ids,o=>by
  have e:kil k (i::ids) o=upd (kil k ids o) i ⟨.dead,k,k⟩:=rfl;rw[e,dJ,aw,Xt]
def aOf {k:Nat}:∀{ids:List Nat} {o:List (EO U)} {j:Nat},j∈ids->j<o.length->(kil k ids o)[j]? =some ⟨.dead,k,k⟩
 |[],o,j,h,_=>by simp at h
 |i::ids,o,j,h,hj=>by
  have e:kil k (i::ids) o=upd (kil k ids o) i ⟨.dead,k,k⟩:=rfl;rw[e,dJ];by_cases b:i=j
  ·subst b;rw[bl (by rw[Xt];exact hj)]
  ·rw[bh b];exact aOf (by rcases bg.1 h with h|h;exact absurd h.symm b;exact h) hj
theorem Fq {k:Nat}:∀{ids:List Nat} {o:List (EO U)} {j:Nat},j∉ids->(kil k ids o)[j]? =o[j]?
 |[],o,j,_=>rfl
 |i::ids,o,j,h=>by
  have e:kil k (i::ids) o=upd (kil k ids o) i ⟨.dead,k,k⟩:=rfl;rw[e,dJ,bh (λe=>h (by simp[e])),Fq (λb=>h (by simp[b]))]
def aOg:Tr:=⟨none,0,0,[]⟩
def sF:aOg.all=[]:=rfl
def bG0:List Nat->List Tr->List Tr
 |[],β=>β
 |i::ids,β=>(bG0 ids β).set i aOg
def aVp:∀{ids:List Nat} {β:List Tr},(bG0 ids β).length=β.length
 |[],_=>rfl
 |i::ids,β=>by simp[bG0,aVp]
def bMx:∀{ids:List Nat} {β:List Tr} {j:Nat},j∈ids->j<β.length->(bG0 ids β)[j]? =some aOg
 |[],_,j,h,_=>by simp at h
 |i::ids,β,j,h,hj=>by
  simp only[bG0];by_cases b:i=j
  ·subst b;rw[bl (by rw[aVp];exact hj)]
  ·rw[bh b];exact bMx (by rcases bg.1 h with h|h;exact absurd h.symm b;exact h) hj
def aVq:∀{ids:List Nat} {β:List Tr} {j:Nat},j∉ids->(bG0 ids β)[j]? =β[j]?
 |[],_,j,_=>rfl
 |i::ids,β,j,h=>by
  simp only[bG0];rw[bh (λe=>h (by simp[e])),aVq (λb=>h (by simp[b]))]
section
variable {s:St U} {a:Act} {w w':World} {β:List Tr}
theorem bJ.add (r:bJ C E s a w β)(he:Ext w w')(bs:List (EO U×Tr))(hv:∀x∈bs,x.1.rv<=s.m.k/\x.1.cv<=s.m.k)(hb:∀x∈bs,∀b∈x.2.all,w.heap.size<=b/\b<w'.heap.size)
  (f:((bs.map λx=>x.2.all).flatten).Nodup)
  (l:Evo w w' (E.X β) (E.X (β++bs.map (·.2))) β (β++bs.map (·.2)) s.m ⟨s.m.o++bs.map (·.1),s.m.k,s.m.ns⟩ s.m.o.length s.m.ns.length s.m.k->∀x∈bs,x.1.ob.ok C w' (E.X (β++bs.map (·.2))) (β++bs.map (·.2)) ⟨s.m.o++bs.map (·.1),s.m.k,s.m.ns⟩ x.2):
  bJ C E ⟨s.t,⟨s.m.o++bs.map (·.1),s.m.k,s.m.ns⟩,s.fr⟩ a w' (β++bs.map (·.2)):=by
 have hlen:=r.hp.len;have d:∀(j:Nat) (t:Tr),s.m.o.length<=j->(β++bs.map (·.2))[j]? =some t->∃x,bs[j-s.m.o.length]? =some x/\t=x.2:=(by grind[List.getElem?_append_right,bs,Option.some.injEq]);have c:∀(j:Nat) (e:EO U),s.m.o.length<=j->(s.m.o++bs.map (·.1))[j]? =some e->∃x,bs[j-s.m.o.length]? =some x/\e=x.1:=(by grind[List.getElem?_append_right,bs,Option.some.injEq]);have p:∀{j:Nat},(False\/s.m.o.length<=j)->s.m.o.length<=j:=λh=>h.resolve_left id;have n:∀(i j:Nat) (x y:EO U×Tr) (b:Nat),i≠j->bs[i]? =some x->bs[j]? =some y->b∈x.2.all->b∉y.2.all:=(by grind[hp,List.pairwise_iff_getElem,List.getElem?_eq_some_iff,Nat.lt_or_gt_of_ne]);obtain⟨h1,h2⟩:=r.hp.step (s':=⟨s.m.o++bs.map (·.1),s.m.k,s.m.ns⟩) (β':=β++bs.map (·.2)) (w':=w') (λ_=>False) (λ_=>False) (ak _) (by simp_all) r.hp.cnt (by simp[hlen]) (by simp) he.size he.os he.tape he.output
  (λb hb _=>he.block b hb) (λ_ h=>h.elim) (by grind[List.getElem?_append_left])
  (by grind)
  (by grind)
  (by grind[List.mem_of_getElem?])
  (by grind[List.mem_of_getElem?])
  (by simp)
  (by grind)
 exact r.go h1 h2
def bJ.turn (r:bJ C E s a w β){i:Nat}{J:List Nat}{e:EO U}{t t':Tr}{ob:Ob U}{rv:Nat}(hi:s.m.o[i]? =some e)(ht:β[i]? =some t)(hJ:(i::J).Nodup)
  (hsz:w.heap.size<=w'.heap.size) (hos:w'.os=w.os) (B:w'.tape=w.tape) (H:w'.output=w.output) (D:∀b,b<w.heap.size->b∉t.all->w'.heap[b]? =w.heap[b]?)
  (I:∀b∈t'.all,b<w'.heap.size/\(w.heap.size<=b\/b∈t.all\/∃j∈J,∃u,β[j]? =some u/\b∈u.all)) (hnd:t'.all.Nodup) (L:(rv=e.rv/\t'.val=t.val)\/rv=s.m.k+1)
  (O:ob.aAX=true->e.ob.aAX=true/\t'.b=t.b)
  (hok:∀(β':List Tr) (m':Mm U),Evo w w' (E.X β) (E.X β') β β' s.m m' s.m.o.length s.m.ns.length s.m.k->ob.ok C w' (E.X β') β' m' t'):
  ∃β',bJ C E ⟨s.t,⟨kil (s.m.k+1) J (upd s.m.o i ⟨ob,rv,s.m.k+1⟩),s.m.k+1,s.m.ns⟩,s.fr⟩ a w' β'/\β'[i]? =some t'/\Evo w w' (E.X β) (E.X β') β β' s.m ⟨kil (s.m.k+1) J (upd s.m.o i ⟨ob,rv,s.m.k+1⟩),s.m.k+1,s.m.ns⟩ s.m.o.length s.m.ns.length s.m.k:=by
 have Q:i∉J:=(cr.1 hJ).1;have R:i<s.m.o.length:=lt_of_some hi;have hlen:=r.hp.len;let A:=kil (s.m.k+1) J (upd s.m.o i ⟨ob,rv,s.m.k+1⟩);let β':=bG0 J (β.set i t');have S:A.length=s.m.o.length:=by simp only[A,Xt,dJ,aw]
 have hbl:β'.length=β.length:=by simp only[β',aVp,aw]
 have v:A[i]? =some ⟨ob,rv,s.m.k+1⟩:=by simp only[A];rw[Fq Q,dJ,bl R]
 have p:β'[i]? =some t':=by simp only[β'];rw[aVq Q,bl (by rw[hlen];exact R)]
 have x:∀j∈J,j<s.m.o.length->A[j]? =some ⟨.dead,s.m.k+1,s.m.k+1⟩:=λj hj hl=>aOf hj (by rw[dJ,aw];exact hl);have T:∀j∈J,j<s.m.o.length->β'[j]? =some aOg:=λj hj hl=>bMx hj (by rw[aw,hlen];exact hl);have V:∀j,j≠i->j∉J->A[j]? =s.m.o[j]? :=λj h1 h2=>by simp only[A];rw[Fq h2,dJ,bh (Ne.symm h1)]
 have W:∀j,j≠i->j∉J->β'[j]? =β[j]? :=λj h1 h2=>by simp only[β'];rw[aVq h2,bh (Ne.symm h1)]
 have n:∀j,((j=i\/j∈J)\/s.m.o.length<=j)->j=i\/(j∈J/\j<s.m.o.length)\/s.m.o.length<=j:=λj h=>by
  rcases h with(h|h)|h
  ·exact .inl h
  ·by_cases hl:j<s.m.o.length
   ·exact .inr (.inl ⟨h,hl⟩)
   ·exact .inr (.inr (by omega))
  ·exact .inr (.inr h)
 have z:∀(j:Nat) (u:Tr),((j=i\/j∈J)\/s.m.o.length<=j)->β'[j]? =some u->(j=i/\u=t')\/u=aOg:=λj u h d=>by
  rcases n j h with rfl|⟨h1,h2⟩|h1
  ·rw[p] at d;injection d with d;exact .inl ⟨rfl,d.symm⟩
  ·rw[T j h1 h2] at d;injection d with d;exact .inr d.symm
  ·have:=lt_of_some d;omega
 obtain⟨h1,h2⟩:=r.hp.step (s':=⟨A,s.m.k+1,s.m.ns⟩) (β':=β') (w':=w') (λj=>j=i\/j∈J) (λb=>b∈t.all\/∃j∈J,∃u,β[j]? =some u/\b∈u.all) (en _) (λ_ _ f h=>⟨f,h⟩) r.hp.cnt (by rw[hbl,S,hlen]) (by rw[S];exact ak _) hsz hos B H
  (λb hb hn=>D b hb (λh=>hn (.inl h)))
  (λb hb=>by
   rcases hb with hb|⟨j,hj,u,d,hub⟩
   ·exact⟨i,t, .inl rfl,ht,hb⟩
   ·exact⟨j,u, .inr hj,d,hub⟩)
  (λj hj _=>⟨V j (λe=>hj (.inl e)) (λe=>hj (.inr e)),W j (λe=>hj (.inl e)) (λe=>hj (.inr e))⟩)
  (λj u b hj d hb=>by
   rcases z j u hj d with⟨_,rfl⟩|rfl
   ·obtain⟨q1,q2⟩:=I b hb;refine⟨q1,q2.imp id λq=> ?_⟩;rcases q with q|⟨j',F,u',l,Z⟩
    ·exact⟨i,t, .inl rfl,ht,q⟩
    ·exact⟨j',u', .inr F,l,Z⟩
   ·simp[sF] at hb)
  (λj j' u u' b hj F hjj d l hb hb'=>by
   rcases z j u hj d with⟨e1,rfl⟩|rfl
   ·rcases z j' u' F l with⟨e2,rfl⟩|rfl
    ·exact hjj (e1.trans e2.symm)
    ·simp[sF] at hb'
   ·simp[sF] at hb)
  (λj u hj d=>by
   rcases z j u hj d with⟨_,rfl⟩|rfl
   ·exact hnd
   ·rw[sF];exact gR)
  (λj e' hj c=>by
   rcases n j hj with rfl|⟨q1,q2⟩|q
   ·rw[v] at c;injection c with c;subst c;refine⟨?_,ak _⟩;rcases L with⟨h,_⟩|h
    ·have:=(r.hp.vers _ e hi).1;simp only;omega
    ·simp only;omega
   ·rw[x j q1 q2] at c;injection c with c;subst c;exact⟨ak _,ak _⟩
   ·have:=lt_of_some c;simp only at this;omega)
  (λj e0 e' u u' hj y c d l=>by
   rcases hj with rfl|hj
   ·rw[v] at c;injection c with c;subst c;rw[hi] at y;injection y with y;subst y;rw[ht] at d;injection d with d;subst d;rw[p] at l;injection l with l;subst l;refine⟨λG=> ?_,eI _,O⟩;rcases L with h|h
    ·exact h
    ·simp only at G;omega
   ·have hl:=lt_of_some y;rw[x j hj hl] at c;injection c with c;subst c;exact⟨λG=>by simp only at G;omega,eI _,λh=>by cases h⟩)
  (λhev j u e' hj d c=>by
   rcases n j hj with rfl|⟨q1,q2⟩|q
   ·rw[v] at c;injection c with c;subst c;rw[p] at d;injection d with d;subst d;exact hok _ _ hev
   ·rw[x j q1 q2] at c;injection c with c;subst c;trivial
   ·have:=lt_of_some c;simp only at this;omega)
 exact⟨β',r.go h1 h2,p,h2⟩
def mH (β:List Tr)(ids:List Nat):List Nat:=(ids.map λj=>match β[j]? with|some t=>t.all|none=>[]).flatten
def Fs {ids:List Nat}{b:Nat}(h:b∈mH β ids):∃j∈ids,∃u,β[j]? =some u/\b∈u.all:=by
 grind[mH,List.mem_flatten]
def bEk (H:Hp C E s.m β w){ids:List Nat}(h:ids.Nodup):(mH β ids).Nodup:=by
 unfold mH;refine List.pairwise_flatten.2 ⟨λl hl=> ?_,?_⟩
 ·obtain⟨j,_,rfl⟩:=cq.1 hl;cases d:β[j]? with
  |none=>simp
  |some u=>exact H.nd j u d
 ·rw[ir];refine h.imp λ{j j'} e b hb b' hb'=> ?_;rintro rfl;cases d:β[j]? with
  |none=>simp_all
  |some u=>
   cases c:β[j']? with
   |none=>simp_all
   |some u'=>simp only[d] at hb;simp only[c] at hb';exact H.dist j j' u u' b e d c hb hb'
def aJr {i j:List Nat}:mH β (i++j)=mH β i++mH β j:=by simp[mH]
def bBo (H:Hp C E s.m β w){kd:Kd}{x y:Lf U}{ids:List Nat}{d:Bool}(h:bGk s.m kd x=some (y,ids,d)){v:Value}(hm:x.mean C w (E.X β) β s.m v)(hK:∀τ,kd= .sl τ->0<U.K τ):Ow C w (E.X β) d v y (mH β ids):=by
 have flat:∀{x:Lf U},x.mean C w (E.X β) β s.m v->rM x=true->(∀τ l,x≠ .sl τ l)->(match wI s.m x with|some y=>some (y,([]:List Nat),true)|none=>none)=some (y,ids,d)->Ow C w (E.X β) d v y (mH β ids):=λ{x} hm f j h=>by
  cases hr:wI s.m x with
  |none=>simp[hr] at h
  |some y'=>
   simp only[hr,ai,cN] at h;obtain⟨rfl,rfl,rfl⟩:=h;have:=(Sb H hm hr (Z:=λ_=>False) (λ_ h=>h.elim) (.inl f)).2;have hb:mH β []=[]:=rfl;rw[hb];cases x with
   |int k n=>simp only[wI,ai] at hr;subst hr;obtain⟨rfl,h1,h2⟩:=this.aAR;exact .int h1 h2
   |bool k=>simp only[wI,ai] at hr;subst hr;obtain rfl:=this.aAW;exact .bool
   |str k=>simp only[wI,ai] at hr;subst hr;obtain⟨rfl,h1⟩:=this.aAU;exact .str h1
   |nat c=>
    simp only[wI] at hr;split at hr
    ·simp only[ai] at hr;subst hr;obtain⟨rfl,h1,h2⟩:=this.aAR;exact .int h1 h2
    ·cases hr
   |lt c n=>
    simp only[wI] at hr;split at hr
    ·simp only[ai] at hr;subst hr;obtain rfl:=this.aAW;exact .bool
    ·cases hr
   |sl τ l=>exact absurd rfl (j τ l)
   |own=>cases f
   |bor=>cases f
   |inn=>cases f
   |_=>cases hr
 cases x with
 |nil=>
  obtain rfl:=hm;cases kd with
  |sl τ=>simp only[bGk,ai,cN] at h;obtain⟨rfl,rfl,rfl⟩:=h;exact .sl aOg (hK τ rfl) (World.ownsRow_nil w 0 τ (U.K τ)) .n
  |_=>cases h
 |sl τ l=>simp only[bGk,ai,cN] at h;obtain⟨rfl,rfl,rfl⟩:=h;exact .fz rfl hm
 |own i q=>
  obtain⟨_,e,t,k1,k2,k3⟩:=hm;simp only[bGk,aY,k1] at h;obtain⟨ob,rv,cv⟩:=e;cases ob with
  |tree τ d' l=>
   cases hb:Nat.beq rv q with
   |false=>simp[hb] at h
   |true=>simp only[hb,ae,ai,cN] at h;obtain⟨rfl,rfl,rfl⟩:=h;rw[k3 (ah hb)];have:=Hp.tree H k2 k1 rfl;simpa[mH,k2] using this
  |_=>cases h
 |bor=>cases h
 |inn=>cases h
 |suf i c τ q l=>
  obtain⟨_,e,t,k1,k2,k3⟩:=hm;simp only[bGk,aY,k1] at h;obtain⟨ob,rv,cv⟩:=e;cases ob with
  |tree τ' d' l'=>
   cases hb:Nat.beq cv c with
   |false=>simp[hb] at h
   |true=>simp only[hb,ae,ai,cN] at h;obtain⟨rfl,rfl,rfl⟩:=h;obtain⟨d0,o,B,p,rfl⟩:=k3 (ah hb);injection o with r u z;subst r;subst u;obtain rfl:=et z;obtain⟨h1,xs,h2,A⟩:=H.ok i t _ k2 k1;have:=Ow.su rfl t q.toNat h1 p h2 A.soft;simpa[mH,k2] using this
  |_=>cases h
 |int k n=>exact flat hm rfl (by simp) h
 |bool b=>exact flat hm rfl (by simp) h
 |str b=>exact flat hm rfl (by simp) h
 |nat c=>exact flat hm rfl (by simp) h
 |lt c n=>exact flat hm rfl (by simp) h
 |_=>cases h
def Ow.fl {X:Nat->Prop}{d d':Bool}{v:Value}{x:Lf U}{B:List Nat}(h:Ow C w X d v x B)(hd:d'=true->d=true):Ow C w X d' v x B:=by
 cases d' with
 |false=>exact h.soft
 |true=>simp_all
def OwL.fl {X:Nat->Prop}{d d':Bool}{v:List Value}{x:List (Lf U)}{B:List Nat}(h:OwL C w X d v x B)(hd:d'=true->d=true):OwL C w X d' v x B:=by
 cases d' with
 |false=>exact h.soft
 |true=>simp_all
def Sg (H:Hp C E s.m β w):∀{ks:List Kd} {xs ys:List (Lf U)} {ids:List Nat} {d:Bool} {vs:List Value},aSk s.m ks xs=some (ys,ids,d)->Ms C w (E.X β) β s.m vs xs->(∀kd∈ks,∀τ,kd= .sl τ->0<U.K τ)->OwL C w (E.X β) d vs ys (mH β ids)
 |[],[],ys,ids,d,vs,h,e,_=>by
  simp only[aSk,ai,cN] at h;obtain⟨rfl,rfl,rfl⟩:=h;have:vs=[]:=cg e.1;subst this;exact .n
 |[],_::_,_,_,_,_,h,_,_=>by cases h
 |_::_,[],_,_,_,_,h,_,_=>by cases h
 |kd::ks,x::xs,ys,ids,d,vs,h,e,hK=>by
  simp only[aSk] at h;cases h1:bGk s.m kd x with
  |none=>simp[h1] at h
  |some q=>
   obtain⟨y,i,d1⟩:=q;cases h2:aSk s.m ks xs with
   |none=>simp[h1,h2] at h
   |some q2=>
    obtain⟨j,is,ds⟩:=q2;simp only[h1,h2,ai,cN] at h;obtain⟨rfl,rfl,rfl⟩:=h
    match vs,e with
    |[],e=>have:=e.1;simp at this
    |v::vs,e=>rw[aJr];refine .c ((bBo H h1 (e.2 0 v x rfl rfl) (hK kd (by simp))).fl (by simp;exact λh _=>h)) ((Sg H h2 ⟨by have:=e.1;simpa using this,λi u c a b=>e.2 (i+1) u c (by simpa using a) (by simpa using b)⟩ (λf hk=>hK f (by simp[hk]))).fl (by simp))
end
end Go.EV
namespace Go.EV
open Go.RowKit Go.VK
variable {U:Uni} {Y:Lay U} {TI:List (Nat×TInfo)} {P:Program} {g:GI} {E:Env U g}
def kdL:Lf U->Option Kd
 | .int k _=>some (.int k)
 | .bool _=>some .bool
 | .str _=>some .str
 | .sl τ _=>some (.sl τ)
 |_=>none
def bSk {cs:List (Lf U)}{ks:List Kd}(h:cs.map kdL=ks.map some):∀c∈cs,c.aBA=true:=λc hc=>by
 have h1:kdL c∈cs.map kdL:=(by grind);rw[h] at h1;obtain⟨k,_,hk⟩:=cq.1 h1;cases c<;>first|rfl|cases hk
structure LayOk (Y:Lay U):Prop where
 kds:∀(τ:Nat) (x:U.El τ),(Y.C.cel τ x).map kdL=(Y.kd τ).map some
 pos:∀(τ τ':Nat),Kd.sl τ'∈Y.kd τ->0<U.K τ'
section
variable {s:St U} {a:Act} {w:World} {β:List Tr} {α:Type}
def SO (P:Program)(C:Cod U)(E:Env U g)(a:Act)(w:World)(o:Oper)(x:Sv U)(s':St U)(e:Bool):Prop:=
 ∀(K:Act->World->Prop) (Q:Exit->Act->World->Prop),(∀v w' β',bJ C E s' a w' β'->(o.dst≠none->x.mean C w' (E.X β') β' s'.m v)->(e=true->Ext w w')->K (a.put o.dst v) w')->o.wp P a w K Q
def SO.aDC (r:bJ Y.C E s a w β){o:Oper}{x:Sv U}(h:MO P Y.C E s a w β o.op x):SO P Y.C E a w o x s true:=λK Q hK=>by
 obtain⟨v,h1,h2⟩:=h o rfl
 grind[wpo,inl,Ext.refl]
def SO.soft {o:Oper}{x:Sv U}{s':St U}{e:Bool}{C:Cod U}(h:SO P C E a w o x s' e):SO P C E a w o x s' false:=λK Q hK=>h K Q (by grind)
def bSl (w:World)(cs:Array Value)(T:Nat):(w.alloc (.cells cs T)).heap[w.heap.size]? =some (.cells cs T (0,0)):=by grind[heap_alloc_new]
def bJ.aCM (r:bJ Y.C E s a w β){T:Nat}{vs:Array Value}{cs:List (Lf U)}(d:Ms Y.C w (E.X β) β s.m vs.toList cs):
  ∃β',bJ Y.C E (psh s (.box T cs (cs.map λ_=>s.m.k))) a (w.alloc (.cells vs T)) β'/\(Lf.box (len s.m.o) 0:Lf U).mean Y.C (w.alloc (.cells vs T)) (E.X β') β' (psh s (.box T cs (cs.map λ_=>s.m.k))).m (.pointer (some ⟨w.heap.size,0,none⟩)):=by
 have he:Ext w (w.alloc (.cells vs T)):=Ext.alloc _ _;have e:=r.add he [(⟨.box T cs (cs.map λ_=>s.m.k),s.m.k,s.m.k⟩,⟨some w.heap.size,0,0,[]⟩)] (by simp) (by simp[Tr.all]) (by simp[Tr.all]) (λb x c=>by
  simp at c;subst c;exact⟨by simp,w.heap.size,vs.toList,rfl,rfl,by simpa using bSl w vs T,d.go b⟩)
 refine⟨_,e,rfl,⟨.box T cs (cs.map λ_=>s.m.k),s.m.k,s.m.k⟩,⟨some w.heap.size,0,0,[]⟩,?_,?_,λ_=>⟨_,rfl,rfl⟩⟩
 ·simp[psh,dA]
 ·rw[az (by rw[r.hp.len,dA];omega),r.hp.len,dA];simp
def bPj (r:bJ Y.C E s a w β){o:Oper}{T:TypeId}{x:Operand}(ho:o.op= .box T x){cs:List (Lf U)}(hp:parts (zK s x)=some cs)(h1:Rz cs=true):
  SO P Y.C E a w o (.l (.box (len s.m.o) 0)) (psh s (.box T cs (cs.map λ_=>s.m.k))) true:=λK Q hK=>by
 have b:=(Gr (lG r (x:=x)) hp h1).1;obtain⟨β',c,d⟩:=r.aCM (T:=T) b;refine wpo (w':=w.alloc (.cells (a.eval x).cells T)) (v:= .pointer (some ⟨w.heap.size,0,none⟩)) (.inl ?_) (hK _ _ β' c (λ_=>d) (λ_=>Ext.alloc _ _));simp[execOp,ho,Instr.box,newVar,newRow]
def bG1 (b:uW P TI=true)(r:bJ Y.C E s a w β){o:Oper}{T:TypeId}{i:TInfo}(ho:o.op= .alloc T)(f:jV TI T=some i):
  SO P Y.C E a w o (.l (.box (len s.m.o) 0)) (psh s (.box T (i.z.map Kz.lf) (i.z.map λ_=>s.m.k))) true:=λK Q hK=>by
 obtain⟨j,z,k3,k4,k5⟩:=aUm (bT b f);have h:Ms Y.C w (E.X β) β s.m z.cells.toList (i.z.map Kz.lf):=M4 k5;obtain⟨β',c,d⟩:=r.aCM (T:=T) h;have e:((i.z.map (Kz.lf:Kz->Lf U)).map λ_=>s.m.k)=i.z.map λ_=>s.m.k:=by simp
 rw[e] at c d;refine wpo (w':=w.alloc (.cells z.cells T)) (v:= .pointer (some ⟨w.heap.size,0,none⟩)) (.inl ?_) (hK _ _ β' c (λ_=>d) (λ_=>Ext.alloc _ _));simp[execOp,ho,Instr.alloc,zeroValue,typeInfo,k3,k4,newVar,newRow]
def bJ.aCW (r:bJ Y.C E s a w β){τ n:Nat}{cells:Array Value}{l:List (U.El τ)}{d:Bool}(hk:0<U.K τ)(hn:l.length=n)(hm:n<=maxLen)(hsz:cells.size=n*U.K τ)
  (e:OwL Y.C w (E.X β) d cells.toList (l.map (Y.C.cel τ)).flatten []):
  ∃β',bJ Y.C E (psh s (.tree τ d l)) a (w.alloc (.cells cells τ)) β'/\(Lf.own (len s.m.o) s.m.k:Lf U).mean Y.C (w.alloc (.cells cells τ)) (E.X β') β' (psh s (.tree τ d l)).m (.slice (some ⟨w.heap.size,0,none⟩) n n):=by
 have he:Ext w (w.alloc (.cells cells τ)):=Ext.alloc _ _;have f:=r.add he [(⟨.tree τ d l,s.m.k,s.m.k⟩,⟨some w.heap.size,n,n,[]⟩)] (by simp) (by simp[Tr.all]) (by simp[Tr.all]) (λb x c=>by
  simp at c;subst c;refine⟨hk,cells.toList,?_,e.conv b.sz b.hX b.hc (by simp)⟩;rw[hn];exact World.ownsRow_lit w cells n (ct _) hm hsz)
 refine⟨_,f,⟨ak _,rfl⟩,⟨.tree τ d l,s.m.k,s.m.k⟩,⟨some w.heap.size,n,n,[]⟩,?_,?_,λ_=>rfl⟩
 ·simp[psh,dA]
 ·rw[az (by rw[r.hp.len,dA];omega),r.hp.len,dA];simp
theorem OwL.flatten {C:Cod U}{X:Nat->Prop}{d:Bool}:∀{vss:List (List Value)} {xss:List (List (Lf U))},vss.length=xss.length->(∀(i:Nat) (vs:List Value) (xs:List (Lf U)),vss[i]? =some vs->xss[i]? =some xs->OwL C w X d vs xs [])->OwL C w X d vss.flatten xss.flatten []
 |[],[],_,_=> .n
 |[],_::_,h,_=>by simp at h
 |_::_,[],h,_=>by simp at h
 |vs::vss,xs::xss,h,h1=>by
  have:=OwL.app (h1 0 vs xs rfl rfl) (OwL.flatten (vss:=vss) (xss:=xss) (by simpa using h) λi vs xs a b=>h1 (i+1) vs xs (by simpa using a) (by simpa using b));simpa using this
def bG2 (hY:LayOk Y)(r:bJ Y.C E s a w β){e:Nat}:∀{ks:List Kd} {b:List Kz} {ds:List (Lf U)} {vs:List Value},rds s.m ks (b.map Kz.lf)=some ds->bJ9 vs b=true->(∀τ',Kd.sl τ'∈ks->0<U.K τ')->OwL Y.C w (E.X β) true vs ds []
 |[],[],ds,[],h,_,_=>by simp only[e9,rds,ai] at h;subst h;exact .n
 |[],_::_,_,_,h,_,_=>by cases h
 |_::_,[],_,_,h,_,_=>by cases h
 |_,[],_,_::_,_,h,_=>by cases h
 |_,_::_,_,[],_,h,_=>by cases h
 |kd::ks,z::b,ds,v::vs,h,d,hp=>by
  simp only[bn,rds] at h;simp only[bJ9,ac] at d;cases h1:rdn s.m kd (z.lf:Lf U) with
  |none=>simp[h1] at h
  |some y=>
   cases h2:rds s.m ks (b.map (Kz.lf:Kz->Lf U)) with
   |none=>simp[h1,h2] at h
   |some ys=>
    simp only[h1,h2,ai] at h;subst h;have hm:(z.lf:Lf U).mean Y.C w (E.X β) β s.m v:=bMv d.1;have ho:Ow Y.C w (E.X β) true v y []:=by
     cases z with
     |int k=>simp only[Kz.lf,rdn,wI,ai] at h1;subst h1;obtain⟨rfl,q1,q2⟩:=hm;exact .int q1 q2
     |bool=>simp only[Kz.lf,rdn,wI,ai] at h1;subst h1;obtain rfl:=hm;exact .bool
     |str=>simp only[Kz.lf,rdn,wI,ai] at h1;subst h1;obtain⟨rfl,q1⟩:=hm;exact .str q1
     |nil=>
      obtain rfl:=hm;cases kd with
      |sl τ=>simp only[Kz.lf,rdn,ai] at h1;subst h1;exact .sl aOg (hp τ (by simp)) (World.ownsRow_nil w 0 τ (U.K τ)) .n
      |_=>cases h1
    have:=OwL.c ho (bG2 hY r (e:=e) h2 d.2 (λτ' f=>hp τ' (by simp[f])));simpa using this
theorem bPk {x y:Operand}(h:aVc x y=true):x=y:=by
 cases x<;>cases y<;>simp only[aVc] at h
 ·rw[ah h]
 all_goals first|cases h|skip
 rename_i v u;split at h<;>simp_all
def bKb (c:uW P TI=true)(hY:LayOk Y)(r:bJ Y.C E s a w β){o:Oper}{t:TypeId}{x y:Operand}{e ek eb k:Nat}{W:List Kz}{i:TInfo}{n:Int}{ds:List (Lf U)}{z:U.El e}(ho:o.op= .makeSlice t x y)
  (h1:jV TI t=some ⟨.sl e ek eb,k,W⟩) (h2:jV TI e=some i) (Z:eT s x= .l (.int .i64 n)) (h4:aVc x y=true) (h5:Nat.ble eb 2048=true) (V:Xn (U:=U) e ek e=true) (h7:rds s.m (Y.kd e) (i.z.map Kz.lf)=some ds) (h8:Y.C.bld e ds=some z) (hg:bZ8 n):
  SO P Y.C E a w o (.l (.own (len s.m.o) s.m.k)) (psh s (.tree e true (List.replicate n.toNat z))) true:=λK Q hK=>by
 have G:=(Gp (bT c h1) rfl).1;obtain⟨H,I,b,p,u,J,L,O,hk0⟩:=gF G;obtain⟨j,zc,k3,k4,k5⟩:=aUm (bT c h2);rw[p] at k3;injection k3 with k3;subst k3;rw[u] at k4;injection k4 with k4;subst k4;simp only[Xn,ac] at V;have A:U.K e=ek:=ah V.2;have hb':eb<=2048:=ba h5;have hnn:((n.toNat:Nat):Int)=n:=Int.toNat_of_nonneg hg.1;have hN:n.toNat<=68719476736:=by have:=hg.2;omega
 have hb:(I.bytes:Int)*n<=281474976710656:=by
  have h:((I.bytes*n.toNat:Nat):Int)<=281474976710656:=by rw[L];have:eb*n.toNat<=2048*68719476736:=gE hb' hN;omega
  simp_all
 have hxv:a.eval x= .int .i64 n:=(pE r Z).1;have hyv:a.eval y= .int .i64 n:=by grind[bPk]
 have B:=run_make (P:=P) w t e I b H p u .i64 .i64 n n hg.1 (eS _) hb (by omega);rw[J,<-A] at B;have hO:OwL Y.C w (E.X β) true b.cells.toList (Y.C.cel e z) []:=by have:=bG2 hY r (e:=e) h7 k5 (λτ' hh=>hY.pos e τ' hh);rw[Y.C.hmk e ds z h8] at this;exact this
 have F:(madeCells b.cells (n.toNat*U.K e)).toList=(List.replicate n.toNat b.cells.toList).flatten:=by
  apply List.ext_getElem?;intro q;have R:b.cells.size=U.K e:=by rw[O,A]
  have S:0<U.K e:=by omega
  by_cases hq:q<n.toNat*U.K e
  ·obtain⟨q0,q1,T,rfl⟩:∃q0 q1,q1<U.K e/\q=q0*U.K e+q1:=⟨q/U.K e,q%U.K e,Nat.mod_lt _ S,by rw[fR];exact(gy q _).symm⟩;have D:q0<n.toNat:=jh (Nat.lt_of_le_of_lt (di _ _) hq);obtain⟨l1,l2,_,_,f3,f4⟩:=aJh (f:=λ(_:Unit)=>b.cells.toList) (k:=U.K e) (by simp[*]) (l:=List.replicate n.toNat ()) (i:=q0) (x:=()) (by rw[List.getElem?_replicate,cR D]);have em:((List.replicate n.toNat ()).map λ(_:Unit)=>b.cells.toList)=List.replicate n.toNat b.cells.toList:=by simp
   rw[em] at f3;have hR:(List.replicate n.toNat b.cells.toList).flatten[q0*U.K e+q1]? =b.cells.toList[q1]? :=by rw[f3,<-f4,az (di _ _),cL,av (by simp[R];exact T)]
   grind[q1,madeCells,Array.toList_map,Array.toList_range,List.getElem?_range,q0,Nat.mul_comm,Nat.mul_add_mod,Nat.mod_eq_of_lt]
  simp_all[fh,size_madeCells]
 obtain⟨β',r1,r2⟩:=r.aCW (τ:=e) (n:=n.toNat) (cells:=madeCells b.cells (n.toNat*U.K e)) (l:=List.replicate n.toNat z) (d:=true) (by omega) (by simp) (by grind[maxLen]) (size_madeCells _ _) (by
  grind[OwL.flatten,q1,q2,List.map_replicate])
 refine wpo (w':=w.alloc (.cells (madeCells b.cells (n.toNat*U.K e)) e)) (v:= .slice (some ⟨w.heap.size,0,none⟩) n.toNat n.toNat) (.inl ?_) (hK _ _ β' r1 (λ_=>r2) (λ_=>Ext.alloc _ _))
 grind[execOp,Sem.run_bind,Result.andThen_ok,Sem.run_pure]
end
end Go.EV
namespace Go.EV
open Go.RowKit Go.VK
variable {U:Uni} {Y:Lay U} {TI:List (Nat×TInfo)} {P:Program} {g:GI} {E:Env U g}
section
variable {s:St U} {a:Act} {w:World} {β:List Tr} {α:Type}
theorem bEl {t:Nat}{i:TInfo}(h:tiB P t i=true)(w:World):(sizeOf t).run P w= .ok i.k w:=by
 cases hi:i.u with
 |int k=>have:=M3 h hi;simp_all[xZ]
 |bool=>have:=aJn h hi;simp_all[xZ]
 |str=>have:=Xq h hi;simp_all[xZ]
 |sl e ek eb=>have:=Gp h hi;simp_all[xZ]
 |st fs=>exact(Gn (aJo h hi).1).2
def aJs (u:uW P TI=true)(r:bJ Y.C E s a w β){o:Oper}{t:TypeId}{x y:Operand}{i:TInfo}{b off T rv cv:Nat}{cs ps:List (Lf U)}{q:List Nat}(ho:o.op= .store t x y)
  (h1:jV TI t=some i) (h2:eT s x= .l (.box b off)) (R:parts (zK s y)=some ps) (z:s.m.o[b]? =some ⟨.box T cs q,rv,cv⟩) (A:ps.length=i.k) (H:off+i.k<=cs.length) (S:Rz ps=true):
  ∃(w':World) (β':List Tr) (t':Tr) (f:Nat),(execOp a.eval o).run P w= .ok .skip w'/\bJ Y.C E (trn s b (.box T (spl cs off ps) (spl q off (ps.map λ_=>Nat.succ s.m.k))) rv) a w' β'/\Evo w w' (E.X β) (E.X β') β β' s.m (trn s b (.box T (spl cs off ps) (spl q off (ps.map λ_=>Nat.succ s.m.k))) rv).m s.m.o.length s.m.ns.length s.m.k/\Bel (λk=>k=f) w w'/\β[b]? =some t'/\t'.b=some f:=by
 have B:=bT u h1;obtain⟨d,h⟩:=Gr (lG r (x:=y)) R S;have D:=pE r h2;obtain⟨_,e',t',k1,k2,k3⟩:=D;rw[z] at k1;injection k1 with k1;subst k1;obtain⟨f,k4,k5⟩:=k3 rfl;have F:=r.hp.ok b t' _ k2 z;obtain⟨q0,b',vs,q1,q2,q3,q4⟩:=F;rw[k4] at q1;injection q1 with q1;subst q1;have hl:off+(a.eval y).cells.toList.length<=vs.length:=by rw[d.1,A,q4.1];exact H
 have I:=aN6 (P:=P) (T:=T) (t:=t) (b:=f) (off:=off) (cur:=vs) (vs:=(a.eval y).cells.toList) (v:=a.eval y) (w:=w) (by simp) (by rw[d.1,A];exact bEl B w) q3 hl h;obtain⟨L,O,f3,Q,V⟩:=Xk w f (vs.take off++(a.eval y).cells.toList++vs.drop (off+(a.eval y).cells.toList.length)).toArray;obtain⟨β',W,_,e⟩:=r.turn (J:=[]) (ob:= .box T (spl cs off ps) (spl q off (ps.map λ_=>Nat.succ s.m.k))) (rv:=rv) (t':=t') z k2 (by simp) (by omega) O f3 Q
  (by grind[Tr.root,k4]) (λk hk=>⟨by rw[L];exact(r.hp.new b t' k k2 hk).2, .inr (.inl hk)⟩) (r.hp.nd b t' k2) (.inl ⟨rfl,rfl⟩) (λ_=>⟨rfl,rfl⟩) (λβ' m' e=>by
   have G:(spl cs off ps).length=cs.length:=by
    grind[Xp]
   refine⟨?_,f,_,k4,q2,setRow_heap _ _ _ _ _ _ q3,?_⟩
   ·grind[q0,Xp]
   ·have hg:=d.go e;have hq:=q4.go e;refine⟨by rw[G,<-q4.1];simp only[ax,bu,cm];omega,λj v c n p=> ?_⟩;rw[Xl _ _ _ _ hl] at n;rw[Xp _ _ _ (by rw[A];exact H),Xl _ _ _ _ (by omega)] at p;rw[d.1] at n;split at n
    ·rename_i hj;rw[cR hj] at p;exact hg.2 _ v c n p
    ·rename_i hj;rw[dk hj] at p;exact hq.2 _ v c n p)
 refine⟨w.setRow f (vs.take off++(a.eval y).cells.toList++vs.drop (off+(a.eval y).cells.toList.length)).toArray,β',t',f,?_,W,e,⟨O,f3,Q,by rw[L];exact ak _,λk _ hk=>V k hk⟩,k2,k4⟩
 grind[execOp,k5,Instr.storeAt,Instr.sureAddr,Sem.run_bind,Sem.run_pure,Result.andThen_ok]
def aVr (c:uW P TI=true)(r:bJ Y.C E s a w β){o:Oper}{t:TypeId}{x y:Operand}{i:TInfo}{b off T rv cv:Nat}{cs ps:List (Lf U)}{d:List Nat}(ho:o.op= .store t x y)
  (h1:jV TI t=some i) (h2:eT s x= .l (.box b off)) (e:parts (zK s y)=some ps) (f:s.m.o[b]? =some ⟨.box T cs d,rv,cv⟩) (j:ps.length=i.k) (n:off+i.k<=cs.length) (p:Rz ps=true):
  SO P Y.C E a w o (.l .any) (trn s b (.box T (spl cs off ps) (spl d off (ps.map λ_=>Nat.succ s.m.k))) rv) false:=λK Q hK=>by
 obtain⟨w',β',t',v,q,u,_,_,_,_⟩:=aJs c r ho h1 h2 e f j n p;exact wpo (.inr ⟨q,rfl⟩) (hK _ _ β' u (λ_=>trivial) (λh=>by cases h))
def bPl {A M b D:List Nat}(h:(A++(M++D)).Nodup)(c:b.Nodup)(hd:∀x,x∈b->x∉A++(M++D)):(A++(b++D)).Nodup:=by
 grind
def bKc {α:Type}(l:List α)(off n:Nat)(h:off+n<=l.length):l=l.take off++((l.drop off).take n++l.drop (off+n))/\(l.take off).length=off/\((l.drop off).take n).length=n:=by refine⟨?_,by simp;omega,by simp;omega⟩;rw[<-jm,cF,cF]
def bBp {C:Cod U}{X:Nat->Prop}{d d':Bool}{t:Tr}{b τ q off:Nat}{L:List (U.El τ)}{z z':U.El τ}{xs vs:List Value}{ds:List (Lf U)}{D:List Nat}(hb:t.b=some b)
  (hown:w.ownsRow 0 τ (U.K τ) t.val L.length xs) (hc:OwL C w X d xs (L.map (C.cel τ)).flatten t.bs) (R:L[q]? =some z) (S:OwL C w X d' vs ds D) (hl:off+vs.length<=U.K τ)
  (T:C.cel τ z'=(C.cel τ z).take off++(ds++(C.cel τ z).drop (off+vs.length))):
  ∃(cur:Array Value) (A M Z:List Nat),w.heap[b]? =some (.cells cur τ (0,0))/\q*U.K τ+off+vs.length<=cur.toList.length/\t.bs=A++(M++Z)/\
   ∀(w':World) (X':Nat->Prop),w.heap.size<=w'.heap.size->(∀b,b<w.heap.size->X' b->X b)->(∀(p:Addr) (u:Value),¬X p.block->w.cell? p=some u->w'.cell? p=some u)->
    w'.heap[b]? =some (.cells (cur.toList.take (q*U.K τ+off)++vs++cur.toList.drop (q*U.K τ+off+vs.length)).toArray τ (0,0))->(∀k,k≠b->w'.heap[k]? =w.heap[k]?)->b∉t.bs->b∉D->
    ∃j,w'.ownsRow 0 τ (U.K τ) t.val L.length j/\OwL C w' X' (d&&d') j ((L.set q z').map (C.cel τ)).flatten (A++(D++Z)):=by
 obtain⟨l1,l2,x1,V,x2,y,Bz,B,g1,g2,W,g4,g5,g6,o1,H,o3⟩:=bEe hc R;obtain⟨s1,s2,s3⟩:=bKc (C.cel τ z) off vs.length (by rw[C.hlen];exact hl);rw[s1] at H;obtain⟨i,zr,Bz1,Bzr,e1,e2,I,p2⟩:=OwL.split H;obtain⟨J,F,Bz2,Bz3,e3,e4,p3,p4⟩:=OwL.split p2;have G:i.length=off:=by rw[I.len,s2]
 have hz2:J.length=vs.length:=by rw[p3.len,s3]
 rcases fA hown with⟨b1,_⟩|⟨b',cur,b1,b2,b3,b4,b5,b6,b7⟩
 ·grind
 rw[hb] at b1;injection b1 with b1;subst b1;have hxs:cur.toList=(x1++(V++x2))++cur.toList.drop (L.length*U.K τ):=by rw[<-W,<-b7,cF]
 have O:cur.toList=(x1++i)++(J++(F++(x2++cur.toList.drop (L.length*U.K τ)))):=by
  grind
 have hpos:q*U.K τ+off=(x1++i).length:=by rw[ax,g4,G]
 have l:cur.toList.take (q*U.K τ+off)++vs++cur.toList.drop (q*U.K τ+off+vs.length)=(x1++((i++(vs++F))++x2))++cur.toList.drop (L.length*U.K τ):=by
  rw[hpos]
  grind[List.append_assoc,List.drop_drop,List.drop_left,List.take_left]
 refine⟨cur,y++Bz1,Bz2,Bz3++B,b5,by grind,by simp[*],λw' X' n o r Q c5 c6 c7=> ?_⟩;rw[l] at Q;have hne:∀k,(k∈y\/k∈Bz1\/k∈Bz3\/k∈B)->w'.heap[k]? =w.heap[k]? :=λk hk=>(by grind);have v:(x1++((i++(vs++F))++x2)).length=L.length*U.K τ:=by
  have:=hown.1
  grind
 have x:L.set q z'=l1++z'::l2:=by simp[*]
 refine⟨x1++((i++(vs++F))++x2),⟨v, .inr ⟨b,t.c,_,?_,ct _,Q,b3,b4,?_,?_⟩⟩,?_⟩
 ·grind[Tr.val]
 ·grind
 ·simp only[List.toList_toArray];rw[<-v,gO]
 ·rw[x,cQ,eg,bn,cM,T];have e:(d&&d')=true->d=true:=λh=>by grind
  have f:(d&&d')=true->d'=true:=(by simp);rw[show(y++Bz1)++(D++(Bz3++B))=y++((Bz1++(D++Bz3))++B) by simp];exact OwL.app ((o1.conv n o r (by grind[inl])).fl e)
   (OwL.app (OwL.app ((I.conv n o r (by grind[inl])).fl e)
    (OwL.app ((S.conv n o r (λk hk=>(by grind))).fl f) ((p4.conv n o r (by grind[inl])).fl e)))
    ((o3.conv n o r (λk hk=>(by grind))).fl e))
def bWi {C:Cod U}{X:Nat->Prop}{d:Bool}{B:List Nat}{τ τ' q j:Nat}{L:List (U.El τ)}{z:U.El τ}{l:List (U.El τ')}{xs:List Value}(hc:OwL C w X d xs (L.map (C.cel τ)).flatten B)(F:L[q]? =some z)(hj:(C.cel τ z)[j]? =some (.sl τ' l)):
  ∃(v:Value) (A h Z:List Nat),xs[q*U.K τ+j]? =some v/\Ow C w X d v (.sl τ' l) h/\B=A++(h++Z)/\
   ∀(w':World) (X':Nat->Prop) (d2:Bool) (l':List (U.El τ')) (e:U.El τ) (B':List Nat),w.heap.size<=w'.heap.size->(∀b,b<w.heap.size->X' b->X b)->(∀(p:Addr) (u:Value),¬X p.block->w.cell? p=some u->w'.cell? p=some u)->
    (∀k,k∈A\/k∈Z->w'.heap[k]? =w.heap[k]?)->(d2=true->d=true)->Ow C w' X' d2 v (.sl τ' l') B'->C.cel τ e=(C.cel τ z).take j++(.sl τ' l'::(C.cel τ z).drop (j+1))->OwL C w' X' d2 xs ((L.set q e).map (C.cel τ)).flatten (A++(B'++Z)):=by
 obtain⟨l1,l2,x1,xz,x2,t,Bz,x,G,H,I,g4,g5,g6,J,y,O⟩:=bEe hc F;have f:j<(C.cel τ z).length:=lt_of_some hj;have s1:C.cel τ z=(C.cel τ z).take j++((.sl τ' l)::(C.cel τ z).drop (j+1)):=by rw[ab f] at hj;injection hj with hj;rw[<-hj,<-cE f,cF]
 rw[s1] at y;obtain⟨Q,zr,Bz1,Bzr,R,e2,D,S⟩:=OwL.split y;have T:Q.length=j:=by rw[D.len,bu];omega
 cases S with
 | @c v _ h Br vs _ hv hr=>
  refine⟨v,t++Bz1,h,Br++x,?_,hv,by simp[*],λw' X' d2 l' e B' i n o c4 r V W=> ?_⟩
  ·simp[*]
  ·rw[show L.set q e=l1++e::l2 by rw[G,<-H];simp,cQ,eg,bn,cM,W,I,R];rw[show(t++Bz1)++(B'++(Br++x))=t++((Bz1++(B'++Br))++x) by simp];exact OwL.app ((J.conv i n o (by grind[inl])).fl r)
    (OwL.app (OwL.app ((D.conv i n o (by grind[inl])).fl r) (.c V ((hr.conv i n o (λk hk=>(by grind))).fl r)))
     ((O.conv i n o (λk hk=>(by grind))).fl r))
def bG3 {ids:List Nat}{b:Nat}{t t2:Tr}(r:bJ Y.C E s a w β)(k2:β[b]? =some t)(i:(b::ids).Nodup){A M Z:List Nat}(h1:t.all=A++(M++Z))(h2:t2.all=A++(mH β ids++Z)):
  t2.all.Nodup/\(∀k∈t2.all,k<w.heap.size/\(w.heap.size<=k\/k∈t.all\/∃j∈ids,∃u,β[j]? =some u/\k∈u.all))/\∀k,k∈mH β ids->k∉t.all:=by
 have d:∀k,k∈mH β ids->k∉t.all:=λk hk f=>by
  obtain⟨j,hj,u,e,c⟩:=Fs hk;exact r.hp.dist j b u t k (by grind[List.nodup_cons]) e k2 c f
 refine⟨?_,λk hk=> ?_,d⟩
 ·rw[h2];exact bPl (h1▸r.hp.nd b t k2) (bEk r.hp (cr.1 i).2) (by simp_all)
 ·have:k∈t.all\/k∈mH β ids:=by
   grind
  rcases this with h|h
  ·exact⟨(r.hp.new b t k k2 h).2, .inr (.inl h)⟩
  ·obtain⟨j,hj,u,e,c⟩:=Fs h;exact⟨(r.hp.new j u k e c).2, .inr (.inr ⟨j,hj,u,e,c⟩)⟩
def aSo (H:uW P TI=true)(hY:LayOk Y)(r:bJ Y.C E s a w β){o:Oper}{t:TypeId}{x y:Operand}{i:TInfo}{b c τ off rv cv:Nat}{q:Int}{z z':U.El τ}{d d':Bool}{L:List (U.El τ)}{ps ds:List (Lf U)}{ids:List Nat}(ho:o.op= .store t x y)
  (h1:jV TI t=some i) (h2:eT s x= .l (.oel b c τ q z off)) (h3:parts (zK s y)=some ps) (I:s.m.o[b]? =some ⟨.tree τ d L,rv,cv⟩) (O:cv=c) (h5:ps.length=i.k) (h6:off+i.k<=U.K τ) (h7:Rz ps=true)
  (h8:aSk s.m ((((Y.kd τ).drop off).take i.k)) ps=some (ds,ids,d')) (hJ:(b::ids).Nodup) (h9:Y.C.bld τ (spl (Y.C.cel τ z) off ds)=some z'):
  SO P Y.C E a w o (.l .any) ⟨s.t,⟨kil (Nat.succ s.m.k) ids (upd s.m.o b ⟨.tree τ (d&&d') (L.set q.toNat z'),rv,Nat.succ s.m.k⟩),Nat.succ s.m.k,s.m.ns⟩,s.fr⟩ false:=λK Q hK=>by
 have hti:=bT H h1;obtain⟨p,u⟩:=Gr (lG r (x:=y)) h3 h7;obtain⟨_,e',t',k1,k2,k3⟩:=pE r h2;rw[I] at k1;injection k1 with k1;subst k1;obtain⟨d0,L0,B,R,a2,a3,a4,a5⟩:=k3 O;injection R with _ R S;subst R;subst S;obtain⟨V,xs,c1,c2⟩:=r.hp.ok b t' _ k2 I;have hO:=Sg r.hp h8 p (λkd hk τ' e=>hY.pos τ τ' (by grind));have f:(a.eval y).cells.toList.length=i.k:=by rw[p.1,h5]
 have D:ds.length=i.k:=by rw[<-hO.len,f]
 obtain⟨cur,A,M,Z,f1,f2,f3,f4⟩:=bBp (d':=d') a4 c1 c2 a3 hO (by rw[f];exact h6) (z':=z') (by rw[<-Y.C.hmk τ _ z' h9,Xp _ _ _ (by rw[D,Y.C.hlen];exact h6),D,f,cw]);have F:=aN6 (P:=P) (T:=τ) (t:=t) (b:=B) (off:=q.toNat*U.K τ+off) (cur:=cur.toList) (vs:=(a.eval y).cells.toList) (v:=a.eval y) (w:=w) (by simp) (by grind[bEl]) (by assumption) f2 u;generalize hN:(cur.toList.take (q.toNat*U.K τ+off)++(a.eval y).cells.toList++cur.toList.drop (q.toNat*U.K τ+off+(a.eval y).cells.toList.length)).toArray=N at F f4;obtain⟨n1,n2,n3,n4,n5⟩:=Xk w B N;have G:t'.all=(B::A)++(M++Z):=by grind[Tr.all]
 let t2:Tr:=⟨t'.b,t'.n,t'.c,A++(mH β ids++Z)⟩;obtain⟨m1,m2,m3⟩:=bG3 (t2:=t2) r k2 hJ G (by grind[Tr.all]);have hnd:=r.hp.nd b t' k2;have W:B∉t'.bs:=(by simp_all);obtain⟨β',r1,_,_⟩:=r.turn (J:=ids) (ob:= .tree τ (d&&d') (L.set q.toNat z')) (rv:=rv) (t':=t2) I k2 hJ (by omega) n2 n3 n4
  (by grind[n5,Tr.root]) (by simp_all) m1 (.inl ⟨rfl,rfl⟩) (λh=>by cases h) (λβ' m' j=>by
   obtain⟨xs',p1,p2⟩:=f4 _ (E.X β') j.sz j.hX j.hc (setRow_heap _ _ _ _ _ _ f1) n5 W (by grind[Tr.root]);exact⟨V,xs',by rw[aw];exact p1,p2⟩)
 refine wpo (w':=w.setRow B N) (v:=undef) (.inr ⟨?_,rfl⟩) (hK _ _ β' r1 (λ_=>trivial) (λh=>by cases h))
 grind[execOp,Instr.storeAt,Instr.sureAddr,Sem.run_bind,Sem.run_pure,Result.andThen_ok]
def aZk (W:uW P TI=true)(hY:LayOk Y)(r:bJ Y.C E s a w β){o:Oper}{t:TypeId}{x y:Operand}{i:TInfo}{b c τ τ' j off rv cv:Nat}{q q':Int}{z F:U.El τ}{z' G:U.El τ'}{l:List (U.El τ')}{d d':Bool}{L:List (U.El τ)}{ps ds:List (Lf U)}{ids:List Nat}(ho:o.op= .store t x y)
  (h1:jV TI t=some i) (h2:eT s x= .l (.oin b c τ q z j τ' l q' z' off)) (h3:parts (zK s y)=some ps) (h4:s.m.o[b]? =some ⟨.tree τ d L,rv,cv⟩) (hcv:cv=c) (h5:ps.length=i.k) (h6:off+i.k<=U.K τ') (h7:Rz ps=true)
  (h8:aSk s.m ((((Y.kd τ').drop off).take i.k)) ps=some (ds,ids,d')) (hJ:(b::ids).Nodup) (h9:Y.C.bld τ' (spl (Y.C.cel τ' z') off ds)=some G) (h10:Y.C.bld τ (upd (Y.C.cel τ z) j (.sl τ' (l.set q'.toNat G)))=some F):
  SO P Y.C E a w o (.l .any) ⟨s.t,⟨kil (Nat.succ s.m.k) ids (upd s.m.o b ⟨.tree τ (d&&d') (L.set q.toNat F),rv,Nat.succ s.m.k⟩),Nat.succ s.m.k,s.m.ns⟩,s.fr⟩ false:=λK Q hK=>by
 have hti:=bT W h1;obtain⟨H,I⟩:=Gr (lG r (x:=y)) h3 h7;obtain⟨_,e',t',k1,k2,k3⟩:=pE r h2;rw[h4] at k1;injection k1 with k1;subst k1;obtain⟨L0,xs,v0,p,n',c',a1,a2,a3,a4,a5,a6,a7,a8,a9,a10⟩:=k3 hcv;injection a1 with _ a1 a1';subst a1;subst a1';obtain⟨hk0,xs1,c1,c2⟩:=r.hp.ok b t' _ k2 h4;obtain rfl:=bGq a5 c1;have hO:=Sg r.hp h8 H (λkd hk τ2 e=>hY.pos τ' τ2 (by grind));have B:(a.eval y).cells.toList.length=i.k:=by rw[H.1,h5]
 have O:ds.length=i.k:=by rw[<-hO.len,B]
 obtain⟨v1,A,B0,Z,d1,d2,d3,d4⟩:=bWi c2 a3 a4;rw[a6] at d1;injection d1 with d1;subst d1;cases d2 with
 |fz hd=>cases hd
 |su hd=>cases hd
 |sl u hk hown hc=>
  have hub:=bX8 a7;obtain⟨cur,A1,M,Z1,f1,f2,f3,f4⟩:=bBp (d':=d') hub hown hc a9 hO (by rw[B];exact h6) (z':=G) (by rw[<-Y.C.hmk τ' _ G h9,Xp _ _ _ (by rw[O,Y.C.hlen];exact h6),O,B,cw]);have R:=aN6 (P:=P) (T:=τ') (t:=t) (b:=p) (off:=q'.toNat*U.K τ'+off) (cur:=cur.toList) (vs:=(a.eval y).cells.toList) (v:=a.eval y) (w:=w) (by simp) (by grind[bEl]) (by assumption) f2 I;generalize hN:(cur.toList.take (q'.toNat*U.K τ'+off)++(a.eval y).cells.toList++cur.toList.drop (q'.toNat*U.K τ'+off+(a.eval y).cells.toList.length)).toArray=N at R f4;obtain⟨n1,n2,n3,n4,n5⟩:=Xk w p N;let u2:Tr:=⟨u.b,u.n,u.c,A1++(mH β ids++Z1)⟩;let t2:Tr:=⟨t'.b,t'.n,t'.c,A++(u2.all++Z)⟩;have S:t'.all=(t'.b.toList++(A++(p::A1)))++(M++(Z1++Z)):=by grind[Tr.all,d3]
  obtain⟨m1,m2,m3⟩:=bG3 (t2:=t2) r k2 hJ S (by grind[u2,Tr.all]);have hin:p∈t'.all:=by simp[*]
  have V:=r.hp.nd b t' k2;have D:t'.all=(t'.b.toList++A)++(p::(u.bs++Z)):=by simp[*]
  rw[D,eu,cr] at V;have hA:∀k,k∈t'.b.toList\/k∈A\/k∈Z->k≠p:=λk hk e=>by
   grind
  obtain⟨β',r1,_,_⟩:=r.turn (J:=ids) (ob:= .tree τ (true&&d') (L.set q.toNat F)) (rv:=rv) (t':=t2) h4 k2 hJ (by omega) n2 n3 n4
   (by grind[n5]) (by simp at*;omega) m1 (.inl ⟨rfl,rfl⟩) (λh=>by cases h) (λβ' m' f=>by
    obtain⟨ys,p1,p2⟩:=f4 _ (E.X β') f.sz f.hX f.hc (setRow_heap _ _ _ _ _ _ f1) n5 (λh=>V.2.1.1 (by simp[h])) (λh=>m3 _ h hin);refine⟨hk0,xs,by rw[aw];exact qU c1 (λk hk=>n5 k (hA k (.inl (by rw[show t'.b=some k from hk];simp)))),?_⟩;refine d4 _ (E.X β') (true&&d') (l.set q'.toNat G) F u2.all f.sz f.hX f.hc (by grind[n5]) (λ_=>rfl) (.sl u2 hk (by rw[aw];exact p1) p2) ?_;rw[<-Y.C.hmk τ _ F h10,dJ,List.set_eq_take_append_cons_drop,cR (lt_of_some a4)])
  refine wpo (w':=w.setRow p N) (v:=undef) (.inr ⟨?_,rfl⟩) (hK _ _ β' r1 (λ_=>trivial) (λh=>by cases h))
  grind[execOp,Instr.storeAt,Instr.sureAddr,Sem.run_bind,Sem.run_pure,Result.andThen_ok]
end
end Go.EV
namespace Go.EV
open Go.RowKit Go.VK
variable {U:Uni} {Y:Lay U} {TI:List (Nat×TInfo)} {P:Program} {g:GI} {E:Env U g}
section
variable {s:St U} {a:Act} {w:World} {β:List Tr} {α:Type}
def aGb {t:TypeId}{e k bts n:Nat}{ps:Array (Nat×Operand)}{vs:List Value}(ht:slB P t e k bts=true)(hn:vs.length=n)(r:n*k<=16777216)(y:(ps.toList.map λ(i,x)=>(i,a.eval x))=(vs.zipIdx 0|>.map λ(v,j)=>(j,v)))(hsz:∀v∈vs,v.cells.size=k){o:Oper}(ho:o.op= .buildSlice t n ps):
  ∃cells:Array Value,(execOp a.eval o).run P w= .ok (.value (.slice (some ⟨w.heap.size,0,none⟩) n n)) (w.alloc (.cells cells e))/\cells.toList=(vs.map λv=>v.cells.toList).flatten:=by
 obtain⟨f,i,z,hi,I,A,B,D,l⟩:=gF ht;have hz0:∃zc:Array Value,(if n*k=0 then(pure #[]:Sem (Array Value)) else do pure (<-zeroValue e).cells).run P w= .ok zc w:=by
  by_cases h:n*k=0
  all_goals simp_all[zeroValue,typeInfo]
 obtain⟨zc,b⟩:=hz0;obtain⟨res,J,L,O,F⟩:=aN7 k vs 0 ((Array.range (n*k)).map (zc[·%zc.size]!)) hsz (by simp[hn]);have G:res.size=n*k:=by simp[*]
 refine⟨res,?_,?_⟩
 ·have hp:((ps.map λ(i,x)=>(i,a.eval x)):Array (Nat×Value)).toList=((vs.zipIdx 0).map λ(v,j)=>(j,v)):=by simp[*]
  simp only[execOp,ho,Instr.buildSlice,Sem.run_bind,run_underlying f,Result.andThen_ok];have hs:(sizeOf e).run P w= .ok k w:=by simp_all[sizeOf,typeInfo]
  simp only[hs,Result.andThen_ok];rw[dk (by omega)];by_cases h:n*k=0
  ·have c:zc= #[]:=by simp_all
   simp_all[newRow,Sem.run_bind,run_newObj,Sem.run_pure,Result.andThen_ok,gS]
  ·simp only[h,if_false,Sem.run_bind,Sem.run_pure] at b ⊢;have c:((zeroValue e).run P w).andThen (λa w'=>Result.ok a.cells w')= .ok zc w:=b;simp_all[Result.andThen_ok,newRow,Sem.run_bind,run_newObj,Sem.run_pure,Result.ok.injEq,and_true,zeroValue,typeInfo]
 ·have hlen:(vs.map λv=>v.cells.toList).flatten.length=n*k:=by
   have:∀(vs:List Value),(∀v∈vs,v.cells.size=k)->(vs.map λv=>v.cells.toList).flatten.length=vs.length*k:=by intro vs;induction vs<;>grind
   rw[this vs hsz,hn]
  apply List.ext_getElem?;intro q;by_cases hq:q<n*k
  ·obtain⟨q0,q1,d,rfl⟩:∃q0 q1,q1<k/\q=q0*k+q1:=⟨q/k,q%k,Nat.mod_lt _ l,by rw[fR];exact(gy q _).symm⟩;have p:q0<n:=jh (Nat.lt_of_le_of_lt (di _ _) hq);have hv:vs[q0]? =some (vs[q0]'(by omega)):=ab _;have H:=F q0 q1 _ hv d;rw[co] at H;have key:∀(vs:List Value) (q0:Nat) (v:Value),(∀v∈vs,v.cells.size=k)->vs[q0]? =some v->(vs.map λv=>v.cells.toList).flatten[q0*k+q1]? =v.cells.toList[q1]? :=by
    intro vs;induction vs with
    |nil=>simp
    |cons u vs Q=>
     intro q0 v h hv;cases q0 with
     |zero=>simp at hv;subst hv;simp only[bn,cM,Nat.zero_mul,co];rw[av (by simp[h u (by simp)];exact d)]
     |succ q0=>
      simp only[bn,cM];have f:u.cells.toList.length=k:=by simp[*]
      rw[show(q0+1)*k+q1=u.cells.toList.length+(q0*k+q1) by rw[f,dr];omega,az (di _ _),cL];simp_all
   rw[key vs q0 _ hsz hv];simp_all
  simp[*]
def bPm (hY:LayOk Y)(r:bJ Y.C E s a w β){e:Nat}{x:Operand}{z:U.El e}{ids:List Nat}{d:Bool}(h:bV6 Y s e (eT s x)=some (z,ids,d)):
  OwL Y.C w (E.X β) d (a.eval x).cells.toList (Y.C.cel e z) (mH β ids):=by
 unfold bV6 at h;cases hp:parts (eT s x) with
 |none=>simp_all
 |some cs=>
  cases b:aSk s.m (Y.kd e) cs with
  |none=>simp_all
  |some q=>
   obtain⟨ds,ids',d'⟩:=q;cases hb:Y.C.bld e ds with
   |none=>simp_all
   |some z'=>
    simp only[hp,b,hb,ai,cN] at h;obtain⟨rfl,rfl,rfl⟩:=h;rw[<-Y.C.hmk e ds z' hb];have hm:=Gq r (x:=x);cases ho:eT s x with
    |l y=>
     rw[ho] at hm hp;simp only[parts,ai] at hp;subst hp;cases hk:Y.kd e with
     |nil=>rw[hk] at b;cases b
     |cons kd ks=>
      rw[hk] at b;simp only[aSk] at b;cases h1:bGk s.m kd y with
      |none=>simp_all
      |some q1=>
       obtain⟨y',v,d1⟩:=q1;have ho:=bBo r.hp h1 hm (λτ e'=>hY.pos e τ (by simp[*]));have:(a.eval x).cells= #[a.eval x]:=aCd ho.one;rw[this];refine Sg r.hp (ks:=kd::ks) (xs:=[y]) (by assumption) ⟨rfl,λi u c f n=> ?_⟩ (λj k τ e'=>hY.pos e τ (by simp_all));cases i with
       |zero=>simp at f n;subst f;subst n;exact hm
       |succ i=>simp at f
    |a o=>rw[ho] at hm hp;simp only[parts,ai] at hp;subst hp;obtain⟨vs,hv,p⟩:=hm;rw[hv];exact Sg r.hp b p (λj k τ e'=>hY.pos e τ (by simp_all))
    |t xs=>rw[ho] at hp;cases hp
def Xu (hY:LayOk Y)(r:bJ Y.C E s a w β){e:Nat}:∀{ps:List (Nat×Operand)} {n:Nat} {l:List (U.El e)} {ids:List Nat} {d:Bool},M0 Y s e n ps=some (l,ids,d)->
  ∃vs:List Value,(ps.map λ(i,x)=>(i,a.eval x))=(vs.zipIdx n|>.map λ(v,j)=>(j,v))/\vs.length=ps.length/\l.length=ps.length/\(∀v∈vs,v.cells.size=U.K e)/\OwL Y.C w (E.X β) d (vs.map λv=>v.cells.toList).flatten (l.map (Y.C.cel e)).flatten (mH β ids)
 |[],n,l,ids,d,h=>by
  simp only[M0,ai,cN] at h;obtain⟨rfl,rfl,rfl⟩:=h;exact⟨[],rfl,rfl,rfl,by simp, .n⟩
 |(i,x)::ps,n,l,ids,d,h=>by
  simp only[M0] at h;cases hb:Nat.beq i n with
  |false=>simp[hb] at h
  |true=>
   have b:i=n:=ah hb;subst b;simp only[hb,ae] at h;cases h1:bV6 Y s e (eT s x) with
   |none=>simp[h1] at h
   |some q=>
    obtain⟨z,f,d1⟩:=q;cases h2:M0 Y s e (Nat.succ i) ps with
    |none=>simp[h1,h2] at h
    |some q2=>
     obtain⟨k,o,d2⟩:=q2;simp only[h1,h2,ai,cN] at h;obtain⟨rfl,rfl,rfl⟩:=h;obtain⟨vs,k1,k2,k3,k4,k5⟩:=Xu hY r h2;have c:=bPm hY r h1;refine⟨a.eval x::vs,by simp[gq,k1],by simp[k2],by simp[k3],λv hv=> ?_,?_⟩
     ·rcases bg.1 hv with rfl|hv
      ·have:=c.len;rw[Y.C.hlen] at this;simpa using this
      ·exact k4 v hv
     ·rw[aJr];simp only[bn,cM];exact OwL.app (c.fl (by simp;exact λh _=>h)) (k5.fl (by simp))
def bG4 (f:uW P TI=true)(hY:LayOk Y)(r:bJ Y.C E s a w β){o:Oper}{t:TypeId}{n e ek eb k:Nat}{y:List Kz}{ps:Array (Nat×Operand)}{l:List (U.El e)}{d:Bool}(ho:o.op= .buildSlice t n ps)
  (h1:jV TI t=some ⟨.sl e ek eb,k,y⟩) (h2:ps.toList.length=n) (z:n*ek<=16777216) (x:Xn (U:=U) e ek e=true) (A:M0 Y s e 0 ps.toList=some (l,[],d)):SO P Y.C E a w o (.l (.sl e l)) s true:=λK Q hK=>by
 have c:=(Gp (bT f h1) rfl).1;obtain⟨_,_,_,_,_,_,_,_,i⟩:=gF c;simp only[Xn,ac] at x;have j:U.K e=ek:=ah x.2;obtain⟨vs,k1,k2,k3,k4,k5⟩:=Xu hY r A;rw[j] at k4;obtain⟨cells,q1,q2⟩:=aGb (w:=w) c (k2.trans h2) z k1 k4 ho;have he:Ext w (w.alloc (.cells cells e)):=Ext.alloc _ _;have q:n<=maxLen:=by
  have:n*1<=n*ek:=fo _ i
  grind[maxLen]
 refine wpo (w':=w.alloc (.cells cells e)) (v:= .slice (some ⟨w.heap.size,0,none⟩) n n) (.inl q1) (hK _ _ β (r.ext he) (λ_=> ?_) (λ_=>he));have hown:(w.alloc (.cells cells e)).ownsRow 0 e (U.K e) (.slice (some ⟨w.heap.size,0,none⟩) n n) l.length cells.toList:=by
  rw[k3,h2];exact World.ownsRow_lit w cells n (ct _) q (by
   have hc:cells.size=cells.toList.length:=by simp
   rw[hc,q2,k5.len,Ry (Y.C.hlen e),k3,h2])
 exact Ow.rd (X:=E.X β) (Z:=E.X β) (λ_ h=>h) (Ow.sl ⟨some w.heap.size,n,n,[]⟩ (by omega) hown (by
  rw[q2];exact k5.conv he.size (λb _ h=>h) (λp u _ hc=>he.cell hc) (λb hb=>absurd (show b∈([]:List Nat) from hb) (by simp)))) (λb hb B=>by
  simp[Tr.all] at hb;subst hb;exact Nat.lt_irrefl _ (r.hp.aCB _ B))
def bG5 (A:uW P TI=true)(hY:LayOk Y)(r:bJ Y.C E s a w β){o:Oper}{t:TypeId}{n e ek eb k:Nat}{T:List Kz}{ps:Array (Nat×Operand)}{l:List (U.El e)}{ids:List Nat}{d:Bool}(ho:o.op= .buildSlice t n ps)
  (h1:jV TI t=some ⟨.sl e ek eb,k,T⟩) (h2:ps.toList.length=n) (V:n*ek<=16777216) (L:Xn (U:=U) e ek e=true) (W:M0 Y s e 0 ps.toList=some (l,ids,d)) (B:(s.m.o.length::ids).Nodup):
  SO P Y.C E a w o (.l (.own (len s.m.o) s.m.k)) ⟨s.t,⟨kil (Nat.succ s.m.k) ids (upd (s.m.o++[⟨.dead,s.m.k,s.m.k⟩]) (len s.m.o) ⟨.tree e d l,s.m.k,Nat.succ s.m.k⟩),Nat.succ s.m.k,s.m.ns⟩,s.fr⟩ true:=λK Q hK=>by
 have q:=(Gp (bT A h1) rfl).1;obtain⟨_,_,_,_,_,_,_,_,y⟩:=gF q;simp only[Xn,ac] at L;have z:U.K e=ek:=ah L.2;obtain⟨vs,k1,k2,k3,k4,k5⟩:=Xu hY r W;rw[z] at k4;obtain⟨cells,q1,q2⟩:=aGb (w:=w) q (k2.trans h2) V k1 k4 ho;have he:Ext w (w.alloc (.cells cells e)):=Ext.alloc _ _;have D:n<=maxLen:=by
  have:n*1<=n*ek:=fo _ y
  grind[maxLen]
 have Z:=r.add he [((⟨.dead,s.m.k,s.m.k⟩:EO U),(⟨some w.heap.size,n,n,[]⟩:Tr))] (by simp) (by simp[Tr.all]) (by simp[Tr.all]) (λ_ x i=>by simp at i;subst i;trivial);have F:(s.m.o++[(⟨.dead,s.m.k,s.m.k⟩:EO U)])[s.m.o.length]? =some ⟨.dead,s.m.k,s.m.k⟩:=by simp
 have G:(β++[(⟨some w.heap.size,n,n,[]⟩:Tr)])[s.m.o.length]? =some ⟨some w.heap.size,n,n,[]⟩:=by rw[<-r.hp.len];simp
 have O:∀j∈ids,∀u,(β++[(⟨some w.heap.size,n,n,[]⟩:Tr)])[j]? =some u->β[j]? =some u:=λj hj u f=>by
  have hne:j≠s.m.o.length:=(by grind[List.nodup_cons]);by_cases hl:j<β.length
  ·rwa [av hl] at f
  ·have:=lt_of_some f;simp at this;rw[r.hp.len] at this hl;omega
 have hbl:mH (β++[(⟨some w.heap.size,n,n,[]⟩:Tr)]) ids=mH β ids:=by
  grind[List.nodup_cons,List.getElem?_eq_none,List.getElem?_append_left,List.map_congr_left,mH]
 obtain⟨β',R,S,r4⟩:=Z.turn (w':=w.alloc (.cells cells e)) (J:=ids) (ob:= .tree e d l) (rv:=s.m.k) (t':=⟨some w.heap.size,n,n,mH β ids⟩) F G B (ak _) rfl rfl rfl (λ_ _ _=>rfl)
  (λb hb=>by
   simp only[Tr.all,du,cI,bo,bg] at hb;rcases hb with rfl|hb
   ·simp[inl,Tr.all]
   ·obtain⟨j,hj,u,f,c⟩:=Fs hb;have:=(r.hp.new j u b f c).2;refine⟨by simp;omega, .inr (.inr ⟨j,hj,u,?_,c⟩)⟩
    grind)
  (by
   simp only[Tr.all,du,cI,bo];rw[cr];refine⟨λhb=> ?_,bEk r.hp (cr.1 B).2⟩;obtain⟨j,_,u,f,c⟩:=Fs hb;have:=(r.hp.new j u _ f c).2;omega)
  (.inl ⟨rfl,rfl⟩) (λh=>by cases h) (λβ' m' H=>by
   refine⟨by rw[z];exact y,cells.toList,?_,?_⟩
   ·rw[k3,h2];exact World.ownsRow_lit w cells n (ct _) D (by
     have hc:cells.size=cells.toList.length:=by simp
     rw[hc,q2,k5.len,Ry (Y.C.hlen e),k3,h2])
   ·rw[q2];have I:∀b,b<w.heap.size->E.X (β++[(⟨some w.heap.size,n,n,[]⟩:Tr)]) b->E.X β b:=λb hb i=>by
     rcases i with h|h|⟨u,f,c⟩
     ·exact .inl h
     ·exact .inr (.inl h)
     ·rcases ce.1 f with f|f
      ·exact .inr (.inr ⟨u,f,c⟩)
      grind[Tr.all]
    exact k5.conv he.size (λb hb i=>I b hb (H.hX b (bz hb he.size) i)) (λp u _ hc=>he.cell hc) (λb hb=>by
     obtain⟨j,_,u,f,c⟩:=Fs hb;exact he.block b (r.hp.new j u b f c).2))
 rw[<-dA] at R S;refine wpo (w':=w.alloc (.cells cells e)) (v:= .slice (some ⟨w.heap.size,0,none⟩) n n) (.inl q1) (hK _ _ β' R (λ_=> ?_) (λ_=>he));refine⟨⟨en _,rfl⟩,⟨.tree e d l,s.m.k,Nat.succ s.m.k⟩,_,?_,S,λ_=>rfl⟩;rw[Fq (by rw[dA];exact(cr.1 B).1),dJ,bl (by rw[dA];simp)]
end
end Go.EV
namespace Go.EV
open Go.RowKit Go.VK
variable {U:Uni} {Y:Lay U} {TI:List (Nat×TInfo)} {P:Program} {g:GI} {E:Env U g}
section
variable {s:St U} {a:Act} {w:World} {β:List Tr} {α:Type}
def bMy {α β:Type}{f:α->List β}{k:Nat}(hk:∀x,(f x).length=k)(h0:0<k):∀{l:List α} {q:Nat} {c:β},(l.map f).flatten[q]? =some c->∃x,l[q/k]? =some x/\(f x)[q%k]? =some c
 |[],q,c,h=>by simp at h
 |x::l,q,c,h=>by
  simp only[bn,cM] at h;by_cases hq:q<k
  ·rw[av (by rw[hk];exact hq)] at h;exact⟨x,by rw[Nat.div_eq_of_lt hq];rfl,by rw[iS hq];exact h⟩
  ·rw[az (by rw[hk];omega),hk] at h;obtain⟨y,h1,h2⟩:=bMy hk h0 h;have e:q=q-k+k:=by omega
   refine⟨y,?_,?_⟩
   ·rw[e,Nat.add_div_right _ h0];simpa using h1
   ·rw[e,Nat.add_mod_right];exact h2
def OwL.aDD {C:Cod U}{X:Nat->Prop}{d:Bool}:∀{vs:List Value} {xs:List (Lf U)},vs.length=xs.length->(∀(i:Nat) (v:Value) (x:Lf U),vs[i]? =some v->xs[i]? =some x->Ow C w X d v x [])->OwL C w X d vs xs []
 |[],[],_,_=> .n
 |[],_::_,h,_=>by simp at h
 |_::_,[],h,_=>by simp at h
 |v::vs,x::xs,h,h1=>by
  have:=OwL.c (h1 0 v x rfl rfl) (OwL.aDD (by simpa using h) λi v x a b=>h1 (i+1) v x (by simpa using a) (by simpa using b));simpa using this
theorem bBq:∀{l:List Kd},aU8 l=false↔∀τ,Kd.sl τ∉l
 |[]=>by simp[aU8]
 |x::l=>by
  have e:aU8 (x::l)=cond x.aDH true (aU8 l):=rfl;rw[e];cases x with
  |sl τ=>exact⟨λh=>(by cases h),λh=>absurd dv (h τ)⟩
  |_=>simp only[Kd.aDH,aa,bg,reduceCtorEq,false_or];exact bBq
theorem bBr (hY:LayOk Y){τ:Nat}(h:aU9 Y τ=true){z:U.El τ}{c:Lf U}(hc:c∈Y.C.cel τ z):∀τ' l,c≠ .sl τ' l:=λτ' l e=>by
 subst e;have b:aU8 (Y.kd τ)=false:=by
  grind[aU8,aU9]
 have hk:=hY.kds τ z;have:some (Kd.sl τ')∈(Y.kd τ).map some:=by rw[<-hk];exact cq.2 ⟨_,hc,rfl⟩
 grind[bBq]
def bKd (Y:Lay U){τ:Nat}{z:U.El τ}:rR (U.enc τ z)=true:=by
 rw[<-Y.C.hcel];have:∀(cs:List (Lf U)),(∀c∈cs,c.aBA=true)->rR (cs.map Lf.toV)=true:=by intro cs;induction cs<;>grind[rR,Lf.aCI]
 exact this _ (Y.C.hdat τ z)
def bBs (hY:LayOk Y){e:Nat}(hk:0<U.K e){X Z:Nat->Prop}{d:Bool}{v:Value}{l:List (U.El e)}(h:Rd w Z [] v (.slice (U.K e) (l.map (U.enc e))))(hd:aU9 Y e=true\/(d=false/\∀b,X b->Z b)):
  ∃(A:Option Addr) (c:Nat) (news:List Value),v= .slice A l.length c/\news.length=l.length*U.K e/\(l.length=0\/∃p,A=some p/\∀j u,news[j]? =some u->w.cell? (p.add j)=some u)/\OwL Y.C w X d news (l.map (Y.C.cel e)).flatten []:=by
 obtain⟨A,c,xs,h1,h2,o,F,G,r⟩:=bBc h (λe' he=>by
  obtain⟨z,_,rfl⟩:=cq.1 he;exact bKd Y)
 rw[bf] at h1 h2;refine⟨A,c,xs,h1,h2,o.imp (λhn=>by simpa using congrArg List.length hn) id,OwL.aDD (by rw[h2,Ry (Y.C.hlen e)]) λq u x t y=> ?_⟩;obtain⟨z,q1,q2⟩:=bMy (Y.C.hlen e) hk y;have B:(l.map (U.enc e))[q/U.K e]? =some (U.enc e z):=by simp[*]
 have hc:(U.enc e z)[q%U.K e]? =some x.toV:=by rw[<-Y.C.hcel,bq,q2];rfl
 obtain⟨u',k1,k2⟩:=r _ _ _ _ B hc;have hq:q/U.K e*U.K e+q%U.K e=q:=by simp[gy,fR]
 rw[hq,t] at k1;injection k1 with k1;subst k1;have f:=aE q2;have hdat:=Y.C.hdat e z x f;cases x with
 |int k n=>obtain⟨rfl,i,D⟩:=k2.aAR;exact .int i D
 |bool b=>obtain rfl:=k2.aAW;exact .bool
 |str b=>obtain⟨rfl,i⟩:=k2.aAU;exact .str i
 |sl τ' l'=>
  rcases hd with hd|⟨hd,hX⟩
  ·grind[absurd,bBr]
  ·exact .fz hd (Rd.conv k2 (ak _) (λb _ hb=>hX b hb) (λ_ _ _ h=>h) (λ_ _ h=>h))
 |_=>cases hdat
def bPn {i j r:Nat}(h:aRj i (.own j r:Lf U)=true):j≠i:=(by grind[aRj,Nat.beq,Nat.beq_refl])
def bSm (r:bJ Y.C E s a w β){e i:Nat}(c:0<U.K e){x:Operand}{f:Lf U}{d:Bool}{l:List (U.El e)}{s1:St U}(b:eT s x= .l f)(h:apD s e f=some (i,d,l,s1)):
  ∃β1 t rv cv,bJ Y.C E s1 a w β1/\s1.t=s.t/\s1.m.ns=s.m.ns/\s1.fr=s.fr/\β1[i]? =some t/\s1.m.o[i]? =some ⟨.tree e d l,rv,cv⟩/\a.eval x=t.val/\rv<=s1.m.k:=by
 have hm:=pE r b;cases f with
 |nil=>
  simp only[apD,ai,cN] at h;obtain⟨rfl,rfl,rfl,rfl⟩:=h;have p:=r.add (Ext.refl w) [((⟨.tree e true [],s.m.k,s.m.k⟩:EO U),aOg)] (by simp) (by simp[sF]) (by simp[sF]) (λu x b=>by
   simp at b;subst b;exact⟨c,[],World.ownsRow_nil w 0 e (U.K e), .n⟩)
  refine⟨_,aOg,s.m.k,s.m.k,p,rfl,rfl,rfl,?_,?_,?_,ak _⟩
  ·rw[dA,<-r.hp.len];simp
  ·simp[psh,dA]
  assumption
 |own j q=>
  simp only[apD,aY] at h;obtain⟨_,e',t,k1,k2,k3⟩:=hm
  grind[d0,Nat.beq,slq,Option.some.injEq,Prod.mk.injEq,qE,k2,k1,k3,Nat.eq_of_beq_eq_true]
 |_=>cases h
def bG6 (hY:LayOk Y)(r:bJ Y.C E s a w β){e i:Nat}(k:0<U.K e){py:Lf U}{v:Value}{l:List (U.El e)}{ids:List Nat}{d:Bool}(hm:py.mean Y.C w (E.X β) β s.m v)(h:apS Y s.m e i py=some (l,ids,d)):
  (i::ids).Nodup/\∃(A:Option Addr) (c:Nat) (news:List Value),v= .slice A l.length c/\news.length=l.length*U.K e/\(l.length=0\/∃p,A=some p/\∀j u,news[j]? =some u->w.cell? (p.add j)=some u)/\∃B,OwL Y.C w (E.X β) d news (l.map (Y.C.cel e)).flatten B/\(∀b∈B,b∈mH β ids)/\B.Nodup:=by
 by_cases hn:py= .nil
 ·subst hn;simp only[apS,ai,cN] at h;obtain⟨rfl,rfl,rfl⟩:=h;obtain rfl:=hm;exact⟨by simp,none,0,[],rfl,by simp, .inl rfl,[], .n,by simp,gR⟩
 ·have f:(bif aU9 Y e then(match wI s.m py with
   |some (.sl τ l)=>match slq e τ l with
    |some l=>bif aRj i py then some (l,[],true) else none
    |none=>none
   |_=>none) else(match py with
   | .sl τ l=>match slq e τ l with
    |some l=>some (l,[],false)
    |none=>none
   | .own j r=>match nth s.m.o j with
    |some ⟨.tree τ d l,rv,_⟩=>bif Nat.beq rv r&&aRj i py then(match slq e τ l with
     |some l=>some (l,[j],d)
     |none=>none) else none
    |_=>none
   |_=>none))=some (l,ids,d):=by
   cases py<;>first|exact absurd rfl hn|exact h
  cases D:aU9 Y e with
  |true=>
   rw[D] at f;simp only[ae] at f;split at f
   ·rename_i τ x hr;cases hs:slq e τ x with
    |none=>simp_all
    |some l1=>
     simp only[hs] at f;cases F:aRj i py with
     |false=>simp_all
     |true=>
      simp only[F,ae,ai,cN] at f;obtain⟨rfl,rfl,rfl⟩:=f;obtain⟨rfl,y⟩:=qE hs;obtain rfl:=et y;have hrd:=(Sb r.hp hm hr (Z:=λ_=>False) (λ_ h=>h.elim) (by simp)).2;obtain⟨A,c,news,q1,q2,q3,q4⟩:=bBs (X:=E.X β) (d:=true) hY k hrd (.inl D)
      grind
   ·cases f
  |false=>
   rw[D] at f;simp only[aa] at f;cases py with
   |nil=>simp_all
   |sl τ x=>
    simp only at f;cases hs:slq e τ x with
    |none=>simp_all
    |some l1=>
     simp only[hs,ai,cN] at f;obtain⟨rfl,rfl,rfl⟩:=f;obtain⟨rfl,y⟩:=qE hs;obtain rfl:=et y;obtain⟨A,c,news,q1,q2,q3,q4⟩:=bBs (X:=E.X β) (d:=false) hY k (Z:=E.X β) hm (by simp)
     grind
   |own j q=>
    simp only at f;split at f
    ·rename_i τ d0 x rv cv ho;rw[aY] at ho;cases hb:(Nat.beq rv q&&aRj i (.own j q:Lf U)) with
     |false=>simp_all
     |true=>
      rw[hb] at f;simp only[ae] at f;simp only[ac] at hb;cases hs:slq e τ x with
      |none=>simp_all
      |some l1=>
       simp only[hs,ai,cN] at f;obtain⟨rfl,rfl,rfl⟩:=f;obtain⟨rfl,y⟩:=qE hs;obtain rfl:=et y;obtain⟨_,e',t,k1,k2,k3⟩:=hm;rw[ho] at k1;injection k1 with k1;subst k1;have hv:=k3 (ah hb.1);have G:=r.hp.ok j t _ k2 ho;obtain⟨_,xs,H,L⟩:=G;have O:mH β [j]=t.all:=by simp[mH,k2]
       have z:∀b∈t.bs,b∈mH β [j]:=(by grind[Tr.all]);have I:t.bs.Nodup:=(eu.1 (r.hp.nd j t k2)).2.1;refine⟨by simp;exact(bPn hb.2).symm,?_⟩;rcases fA H with⟨b1,J,Q,R,S⟩|⟨b,cur,b1,J,Q,R,S,V,W⟩
       ·grind[Tr.val,inl,List.eq_nil_of_length_eq_zero]
       ·exact⟨some ⟨b,0,none⟩,t.c,xs,by rw[hv];simp[Tr.val,b1,J],H.1, .inr ⟨_,rfl,λj u T=>uV H b1 T⟩,t.bs,L,z,I⟩
    ·cases f
   |_=>cases f
def bWj {e k n:Nat}{v:Value}{xs:List Value}{w:World}(h:w.ownsRow 0 e k v n xs)(bs:List Nat):∃t:Tr,t.val=v/\t.b=v.ownBlock/\t.bs=bs:=by
 rcases h.2 with⟨rfl,_⟩|⟨c,cap,cur,rfl,_⟩
 ·exact⟨⟨none,0,0,bs⟩,rfl,rfl,rfl⟩
 ·exact⟨⟨some c,n,cap,bs⟩,rfl,rfl,rfl⟩
def bEm (T:uW P TI=true)(hY:LayOk Y)(r:bJ Y.C E s a w β){o:Oper}{t:TypeId}{x y:Operand}{e ek eb k i:Nat}{zz:List Kz}{px py:Lf U}{d d':Bool}{l l':List (U.El e)}{s1:St U}{ids:List Nat}
  (ho:o.op= .call {callee:= .builtin .append,args:= #[x,y],argTypes:= #[t,t]}) (h1:jV TI t=some ⟨.sl e ek eb,k,zz⟩) (h2:Nat.ble eb 2048=true) (h3:Xn (U:=U) e ek e=true) (h4:eT s x= .l px) (h5:eT s y= .l py)
  (h6:apD s e px=some (i,d,l,s1)) (h7:apS Y s1.m e i py=some (l',ids,d')) (hg:aS l l'):
  SO P Y.C E a w o (.l (.own i (Nat.succ s1.m.k))) ⟨s1.t,⟨kil (Nat.succ s1.m.k) ids (upd s1.m.o i ⟨.tree e (d&&d') (l++l'),Nat.succ s1.m.k,Nat.succ s1.m.k⟩),Nat.succ s1.m.k,s1.m.ns⟩,s1.fr⟩ false:=λK Q hK=>by
 have I:=(Gp (bT T h1) rfl).1;obtain⟨_,_,_,_,_,_,_,_,hk0⟩:=gF I;simp only[Xn,ac] at h3;have V:U.K e=ek:=ah h3.2;have G:0<U.K e:=by omega
 obtain⟨β1,tr,rv,cv,p,e1,e2,e3,F,W,e6,_⟩:=bSm r G h4 h6;have Z:eT s1 y= .l py:=by rw[<-h5];unfold eT zK;rw[e1,e2]
 obtain⟨hJ,A,c,news,q1,q2,q3,B,q4,q5,q6⟩:=bG6 hY p G (pE p Z) h7;have hok:=p.hp.ok i tr _ F W;obtain⟨_,xs,c1,c2⟩:=hok;have hb':eb<=2048:=ba h2;unfold aS at hg;rw[V] at c1 q2;obtain⟨v',w',a1,a2,q,S⟩:=aU2 (P:=P) (ty:=o.type) I c1 (A:=A) (c:=c) q2 q3 q4.ones (by grind[maxLen]) (by
  calc (l.length+l'.length)*eb<=68719476736*2048:=gE hg hb'
   _=140737488355328:=by decide)
 obtain⟨t2,t3,t4,t5⟩:=bWj a2 (tr.bs++B);have htv:tr.val.ownBlock=tr.b:=by cases h:tr.b<;>simp[Tr.val,Value.ownBlock,h]
 rw[htv] at q S;rw[<-t4] at S;have hnd:=p.hp.nd i tr F;have hBd:∀b∈B,b∉tr.all:=λb hb hb'=>by
  obtain⟨j,hj,u,L,z⟩:=Fs (q5 b hb);exact p.hp.dist j i u tr b (by grind[List.nodup_cons]) L F z hb'
 have O:∀b∈B,b<w.heap.size:=λb hb=>by
  obtain⟨j,hj,u,L,z⟩:=Fs (q5 b hb);exact(p.hp.new j u b L z).2
 have R:∀b,(b∈tr.bs\/b∈B)->some b≠tr.b:=λb hb e=>by
  rcases hb with hb|hb
  ·have h':b∈tr.b.toList:=by simp[*]
   exact(eu.1 hnd).2.2 b h' b hb rfl
  grind[Tr.root]
 obtain⟨β',r2,r3,_⟩:=p.turn (w':=w') (J:=ids) (ob:= .tree e (d&&d') (l++l')) (rv:=s1.m.k+1) (t':=t2) W F hJ q.size q.os q.tape q.output
  (λb hb hn=>q.block b hb (by grind[Tr.root]))
  (λb hb=>by
   simp only[Tr.all,t5,ce,ip] at hb;rcases hb with hb|hb|hb
   ·rcases S with h|h
    ·have f:tr.b=some b:=by simp_all
     exact⟨bz (p.hp.new i tr b F (Tr.root f)).2 q.size, .inr (.inl (Tr.root f))⟩
    ·rw[h] at hb;have f:b=w.heap.size:=by grind
     refine⟨?_, .inl (by omega)⟩;have:=a2.lt b (by rw[<-t4,h,f]);exact this.2
   ·exact⟨bz (p.hp.new i tr b F (by simp[Tr.all,hb])).2 q.size, .inr (.inl (by simp[Tr.all,hb]))⟩
   ·obtain⟨j,hj,u,L,z⟩:=Fs (q5 b hb);exact⟨bz (O b hb) q.size, .inr (.inr ⟨j,hj,u,L,z⟩)⟩)
  (by
   have hbs:(tr.bs++B).Nodup:=by
    grind[Tr.all,List.nodup_append,q6]
   rw[Tr.all,t5,eu];refine⟨by cases t2.b<;>simp,hbs,λb hb b' hb' e=> ?_⟩;subst e;have f:t2.b=some b:=by simp_all
   rcases S with h|h
   ·simp_all
   ·rw[h] at f;injection f with f;rcases ce.1 hb' with hb'|hb'
    ·have:=(p.hp.new i tr b F (by simp[Tr.all,hb'])).2;omega
    grind)
  (.inr rfl) (λh=>by cases h) (λβ' m' n=>by
   refine⟨G,xs++news,?_,?_⟩
   ·simp[*]
   ·rw[cQ,eg,t5];have H:(d&&d')=true->d=true:=(by simp_all);have D:(d&&d')=true->d'=true:=(by simp);exact OwL.app ((c2.conv n.sz n.hX n.hc (λb hb=>q.block b (p.hp.new i tr b F (by simp[Tr.all,hb])).2 (R b (.inl hb)))).fl H)
     ((q4.conv n.sz n.hX n.hc (λb hb=>q.block b (O b hb) (R b (.inr hb)))).fl D))
 refine wpo (w':=w') (v:=v') (.inl ?_) (hK _ _ β' r2 (λ_=> ?_) (λh=>by cases h))
 ·simp_all[execOp,resolve,invoke,builtin,Sem.run_bind,Sem.run_pure,Result.andThen_ok,jb,bn,e9,q1]
 ·refine⟨⟨ak _,by rw[<-t3];rfl⟩,⟨.tree e (d&&d') (l++l'),s1.m.k+1,s1.m.k+1⟩,t2,?_,r3,λ_=>t3.symm⟩;rw[Fq (cr.1 hJ).1,dJ,bl (lt_of_some W)]
def aVs {t ty e:TypeId}{i:TypeInfo}(ht:P.underlying t=some (.slice e))(hi:P.info? e=some i)(f o sLen sCap:Nat)(cur:Array Value)(hg:w.heap[f]? =some (.cells cur e (0,0)))
  (p:Addr) (m c:Nat) (news:List Value) (hl:news.length=m*i.size) (b:∀j u,news[j]? =some u->w.cell? (p.add j)=some u) (h1:∀u∈news,u.oneCell'=true)
  (d:sLen+m<=sCap) (k:o+sLen*i.size+news.length<=cur.size):
  (Builtin.append_ #[t,t] ty #[.slice (some ⟨f,o,none⟩) sLen sCap, .slice (some p) m c]).run P w=
   .ok (.slice (some ⟨f,o,none⟩) (sLen+m) sCap) (w.setRow f (cur.toList.take (o+sLen*i.size)++news++cur.toList.drop (o+sLen*i.size+news.length)).toArray):=by
 have l:=run_firstCells_some (P:=P) w i.size m p m c news hl b;have h:=run_storeCells_at P f (o+sLen*i.size) e news 0 cur w hg (by assumption) h1;simp only[dz] at h;simp[Builtin.append_,run_underlying ht,sizeOf,typeInfo,hi,Builtin.lenOf,d,l,gX,h]
def aVt {t ty e k bts:Nat}(ht:slB P t e k bts=true){u:Tr}{n q:Nat}{xs:List Value}(hown:w.ownsRow 0 e k u.val n xs)(hq:q<=n){A:Option Addr}{m c:Nat}{news:List Value}(hl:news.length=m*k)(T:0<m)
  (Q:m=0\/∃p,A=some p/\∀j u,news[j]? =some u->w.cell? (p.add j)=some u) (h1:∀u∈news,u.oneCell'=true) (hm:n+m<=maxLen) (hb:(n+m)*bts<=140737488355328):
  ∃(v':Value) (w':World) (b' D r q':Nat) (ys:List Value),(Builtin.append_ #[t,t] ty #[aU6 k u q n, .slice A m c]).run P w= .ok v' w'/\w'.ownsRow 0 e k (.slice (some ⟨b',0,none⟩) r D) r (ys++news)/\w.grownBy w' u.b/\
   v'= .slice (if D=q' then some ⟨b',0,none⟩ else some (Addr.add ⟨b',0,none⟩ (q'*k))) (r-q') (D-q')/\
   ((u.b=some b'/\q'=q/\r=n+m/\ys=xs)\/(b'=w.heap.size/\q'=0/\r=n-q+m/\ys=xs.drop (q*k))):=by
 obtain⟨R,i,z,hi,V,F,G,H,W⟩:=gF ht;subst F;subst G;obtain⟨p,Z,d⟩:∃p,A=some p/\∀j u,news[j]? =some u->w.cell? (p.add j)=some u:=(by grind);subst Z;have v:=hown.1;have l:(xs.drop (q*i.size)).length=(n-q)*i.size:=by rw[cm,v,Nat.sub_mul]
 have hlen:(xs.drop (q*i.size)++news).length=(n-q+m)*i.size:=by rw[ax,l,hl,dr]
 have h63:n+m<=9223372036854775807:=by assumption
 have grown:∀(old:Nat),old<n-q+m->(w.drew.alloc (.cells ((xs.drop (q*i.size)).toArray++news.toArray++Builtin.zeroCells z.cells (grownCap w (n-q+m) old e-(n-q+m))) e)).ownsRow 0 e i.size
    (.slice (some ⟨w.heap.size,0,none⟩) (n-q+m) (grownCap w (n-q+m) old e)) (n-q+m) (xs.drop (q*i.size)++news)/\
   w.grownBy (w.drew.alloc (.cells ((xs.drop (q*i.size)).toArray++news.toArray++Builtin.zeroCells z.cells (grownCap w (n-q+m) old e-(n-q+m))) e)) u.b:=by
  intro old ho;have x:=grownCap_ge w (n-q+m) old e;have I:grownCap w (n-q+m) old e<=maxLen:=(by grind[grownCap_le_maxLen]);refine⟨⟨hlen, .inr ⟨w.heap.size,_,_,rfl,ct _,heap_alloc_new w.drew _,x,I,?_,?_⟩⟩,⟨rfl,rfl,rfl,by simp,λk hk _=>heap_alloc_old w.drew _ hk⟩⟩
  ·simp only[iy,iq,size_zeroCells,H,l,hl,<-dr];simp[*]
  grind
 rcases fA hown with⟨b1,b2,b3,S,J⟩|⟨b,cur,b1,b2,b3,S,J,b6,b7⟩
 ·grind[Addr.add,grownCap_ge,run_append_nil,aU6]
 ·by_cases f:n+m<=u.c
  ·have L:¬u.c=q:=by omega
   have hs:aU6 i.size u q n= .slice (some ⟨b,q*i.size,none⟩) (n-q) (u.c-q):=by grind[aU6,gX]
   have y:q*i.size+(n-q)*i.size=n*i.size:=by rw[<-dr];simp[*]
   have h:q*i.size+(n-q)*i.size+news.length<=cur.size:=by rw[y,hl,b6,<-dr];exact dw _ f
   have hr:=aVs (P:=P) (w:=w) (ty:=ty) R hi b (q*i.size) (n-q) (u.c-q) cur J p m c news hl d h1 (by omega) h;rw[y] at hr h;refine⟨_,_,b,u.c,n+m,q,xs,by rw[hs];exact hr,⟨by rw[ax,v,hl,dr], .inr ⟨b,u.c,_,rfl,ct _,setRow_heap w b cur _ e _ J,f,S,?_,?_⟩⟩,⟨rfl,rfl,rfl,by simp,λk _ hk=>setRow_other w b k _ (λe=>hk (by rw[b1,e]))⟩,?_, .inl ⟨b1,rfl,rfl,rfl⟩⟩
   ·grind
   ·grind[List.take_left,List.length_append,Nat.add_mul]
   simp_all[dk,gX,co];omega
  ·have holds:∀(O:Addr),(∀j,O.add j=⟨b,q*i.size+j,none⟩)->∀j u',(xs.drop (q*i.size))[j]? =some u'->w.cell? (O.add j)=some u':=λO hp j u' hj=>by
    rw[hp];have:=uV hown b1 (i:=q*i.size+j) (by simpa using hj)
    grind[gX]
   have B:=grown (u.c-q) (by omega);have x:=grownCap_ge w (n-q+m) (u.c-q) e;have o:=growslice_fits (old:=u.c-q) (need:=n-q+m) (bytes:=i.bytes) (by omega) (bm (dw _ (by omega)) hb);refine⟨.slice (some ⟨w.heap.size,0,none⟩) (n-q+m) (grownCap w (n-q+m) (u.c-q) e),_,w.heap.size,grownCap w (n-q+m) (u.c-q) e,n-q+m,0,_,?_,B.1,B.2,by rw[dk (by omega)];simp[Addr.add], .inr ⟨rfl,rfl,rfl,rfl⟩⟩;by_cases L:u.c=q
   ·grind[lt_of_some,run_append_grow,aU6]
   ·have hs:aU6 i.size u q n= .slice (some ⟨b,q*i.size,none⟩) (n-q) (u.c-q):=by grind[aU6,gX]
    rw[hs];exact run_append_grow (P:=P) w t ty e i z R hi V ⟨b,q*i.size,none⟩ (n-q) (u.c-q) _ l (by grind[gX]) p m c news hl d (by omega) (by omega) o
def aSp (H:uW P TI=true)(hY:LayOk Y)(r:bJ Y.C E s a w β){o:Oper}{t:TypeId}{x y:Operand}{e ek eb k i c:Nat}{zz:List Kz}{py:Lf U}{d':Bool}{n:Int}{l l':List (U.El e)}
  (ho:o.op= .call {callee:= .builtin .append,args:= #[x,y],argTypes:= #[t,t]}) (h1:jV TI t=some ⟨.sl e ek eb,k,zz⟩) (h2:Nat.ble eb 2048=true) (h3:Xn (U:=U) e ek e=true) (h4:eT s x= .l (.suf i c e n l)) (h5:eT s y= .l py)
  (h6:okv s.m i c=true) (h7:apS Y s.m e i py=some (l',[],d')) (hne:1<=l'.length) (hg:aS l l'):
  SO P Y.C E a w o (.l (.bor i (Nat.succ s.m.k) e (l.drop n.toNat++l'))) ⟨s.t,⟨upd s.m.o i ⟨.dead,Nat.succ s.m.k,Nat.succ s.m.k⟩,Nat.succ s.m.k,s.m.ns⟩,s.fr⟩ false:=λK Q hK=>by
 have z:=(Gp (bT H h1) rfl).1;obtain⟨_,_,_,_,_,_,_,_,hk0⟩:=gF z;simp only[Xn,ac] at h3;have p:U.K e=ek:=ah h3.2;have D:0<U.K e:=by omega
 obtain⟨hJ,A,c0,news,q1,q2,q3,B,q4,q5,q6⟩:=bG6 hY r D (pE r h5) h7;have hB:B=[]:=by
  cases B with
  |nil=>rfl
  |cons b B=>have:=q5 b (by simp);grind[mH]
 subst hB;obtain⟨_,e',tr,k1,k2,k3⟩:=pE r h4;obtain⟨e2,G,g2⟩:=Sc h6;rw[k1] at G;injection G with G;subst G;obtain⟨d,a1,a2,a3,a4⟩:=k3 g2;have F:=r.hp.ok i tr _ k2 k1;rw[a1] at F;obtain⟨_,xs,c1,c2⟩:=F;have hb':eb<=2048:=ba h2;unfold aS at hg;rw[p] at c1 q2;obtain⟨v',w',b',c',u,q',ys,p1,p2,q,p4,p5⟩:=aVt (P:=P) (ty:=o.type) z c1 a3 (A:=A) (c:=c0) q2 (by omega) q3 q4.ones (by grind[maxLen]) (by
  calc (l.length+l'.length)*eb<=68719476736*2048:=gE hg hb'
   _=140737488355328:=by decide)
 obtain⟨L,Bs,hL,I,O,R⟩:∃(L:List (U.El e)) (Bs:List Nat),OwL Y.C w (E.X β) d ys (L.map (Y.C.cel e)).flatten Bs/\u=L.length+l'.length/\(L++l').drop q'=l.drop n.toNat++l'/\List.Sublist Bs tr.bs:=by
  rcases p5 with⟨_,rfl,rfl,rfl⟩|⟨_,rfl,rfl,rfl⟩
  ·grind
  ·have hsp:(l.map (Y.C.cel e)).flatten=((l.take n.toNat).map (Y.C.cel e)).flatten++((l.drop n.toNat).map (Y.C.cel e)).flatten:=by rw[<-eg,<-cQ,cF]
   rw[hsp] at c2;obtain⟨v1,v2,B1,B2,e1,e2,o1,o2⟩:=OwL.split c2;have hv1:v1.length=n.toNat*ek:=by rw[o1.len,Ry (Y.C.hlen e),bu,jf a3,p]
   grind
 have htv:tr.val.ownBlock=tr.b:=by cases h:tr.b<;>simp[Tr.val,Value.ownBlock,h]
 have S:=r.hp.nd i tr k2;let t2:Tr:=⟨some b',u,c',Bs⟩;have j:∀b∈Bs,b∈tr.all/\some b≠tr.b:=(by grind[Tr.all,List.nodup_append]);have T:(b'∈tr.all/\tr.b=some b')\/b'=w.heap.size:=by
  grind[inl,Tr.root]
 have V:b'<w'.heap.size:=(p2.lt b' rfl).2;obtain⟨β',r2,r3,f⟩:=r.turn (w':=w') (J:=[]) (ob:= .dead) (rv:=s.m.k+1) (t':=t2) k1 k2 (by simp) q.size q.os q.tape q.output
  (λb hb hn=>q.block b hb (by grind[Tr.root]))
  (λb hb=>by
   simp only[t2,Tr.all,du,ce,cH] at hb;rcases hb with rfl|hb
   ·grind
   ·exact⟨bz (r.hp.new i tr b k2 (j b hb).1).2 q.size, .inr (.inl (j b hb).1)⟩)
  (by
   simp only[t2,Tr.all,du,fb,cr];refine⟨λh=> ?_,R.nodup (eu.1 S).2.1⟩;rcases T with h2|h2
   ·grind
   ·have:=(r.hp.new i tr b' k2 (j b' h).1).2;omega)
  (.inr rfl) (λh=>by cases h) (λ_ _ _=>trivial)
 have W:Ow Y.C w' (λb=>E.X β' b\/b∈t2.all) false t2.val (.sl e (L++l')) t2.all:=by
  have hX:∀b,b<w.heap.size->(E.X β' b\/b∈t2.all)->E.X β b:=λb hb h=>h.elim (f.hX b hb) (λh=>f.hX b hb (cAh r3 h));refine .sl t2 D (xs:=ys++news) ?_ ?_
  ·rw[ax,p,<-I];exact p2
  ·rw[cQ,eg];have:=OwL.app ((hL.conv f.sz hX f.hc (λb hb=>q.block b (r.hp.new i tr b k2 (j b hb).1).2 (j b hb).2)).soft) ((q4.conv f.sz hX f.hc (λb hb=>by simp at hb)).soft)
   grind
 have hRd:=W.rd (Z:=λb=>E.X β' b/\b∉t2.all) (λb hb=> .inl hb.1) (by simp_all);refine wpo (w':=w') (v:=v') (.inl ?_) (hK _ _ β' (by assumption) (λ_=> ?_) (λh=>by cases h))
 ·simp_all[execOp,resolve,invoke,builtin,Sem.run_bind,Sem.run_pure,Result.andThen_ok,jb,bn,e9,q1]
 ·refine⟨⟨ak _,by rw[p4];rfl⟩,⟨.dead,s.m.k+1,s.m.k+1⟩,t2,?_,r3,λ_=> ?_⟩
  ·simp only[dJ];rw[bl (lt_of_some k1)]
  ·have hle:q'<=u:=by rcases p5 with⟨_,rfl,rfl,_⟩|⟨_,rfl,rfl,_⟩<;>omega
   have:=Rd.sub (A:=some ⟨b',0,none⟩) (n:=u) (c:=c') hRd (a:=q') (b:=u) hle (by simp[*]);have e1:((((L++l').map (U.enc e)).take u).drop q')=(l.drop n.toNat++l').map (U.enc e):=by rw[<-O,fp,dT (by simp[*])]
   simp_all
end
end Go.EV
