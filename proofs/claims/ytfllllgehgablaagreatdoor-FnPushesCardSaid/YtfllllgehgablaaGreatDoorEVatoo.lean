import Derived.Test.YtfllllgehgablaaGreatDoorVKatos
/- Printed by wip/tools: models, walks, proofs. -/
set_option linter.all false
namespace Go.EV
open Go.RowKit Go.VK
structure Uni where
 El:Nat->Type
 K:Nat->Nat
 enc:(τ:Nat)->El τ->List V
inductive Lf (U:Uni) where
 |int (k:IntKind) (n:Int)
 |bool (b:Bool)
 |str (s:ByteArray)
 |nat (a:Nat)
 |lt (a:Nat) (m:Int)
 |sl (τ:Nat) (l:List (U.El τ))
 |nil
 |own (i r:Nat)
 |bor (i c τ:Nat) (l:List (U.El τ))
 |inn (i c τ:Nat) (q:Int) (z:U.El τ) (j τ':Nat) (l:List (U.El τ'))
 |box (i off:Nat)
 |ptr (τ:Nat) (z:U.El τ) (off:Nat)
 |oel (i c τ:Nat) (q:Int) (z:U.El τ) (off:Nat)
 |oin (i c τ:Nat) (q:Int) (z:U.El τ) (j τ':Nat) (l:List (U.El τ')) (q':Int) (z':U.El τ') (off:Nat)
 |suf (i c τ:Nat) (q:Int) (l:List (U.El τ))
 |und
 |any
variable {U:Uni}
def Lf.toV:Lf U->V
 | .int k n=> .int k n
 | .bool b=> .bool b
 | .str s=> .str s
 | .sl τ l=> .slice (U.K τ) (l.map (U.enc τ))
 | .nil=> .nil
 |_=> .any
def Lf.aAZ:Lf U->Bool
 | .int .. | .bool _| .str _| .sl .. =>true
 |_=>false
structure Cod (U:Uni) where
 cel:(τ:Nat)->U.El τ->List (Lf U)
 bld:(τ:Nat)->List (Lf U)->Option (U.El τ)
 hcel:∀τ x,(cel τ x).map Lf.toV=U.enc τ x
 hlen:∀τ x,(cel τ x).length=U.K τ
 hdat:∀τ x c,c∈cel τ x->c.aAZ=true
 hmk:∀τ cs x,bld τ cs=some x->cs=cel τ x
inductive Ob (U:Uni) where
 |dead
 |box (T:Nat) (cs:List (Lf U)) (vs:List Nat)
 |tree (τ:Nat) (d:Bool) (l:List (U.El τ))
def Ob.aAX:Ob U->Bool
 | .box .. =>true
 |_=>false
structure EO (U:Uni) where
 ob:Ob U
 rv:Nat
 cv:Nat
inductive Sv (U:Uni) where
 |l (x:Lf U)
 |a (cs:List (Lf U))
 |t (xs:List (Bool×List (Lf U)))
structure Mm (U:Uni) where
 o:List (EO U)
 k:Nat
 ns:List (Nat×Bool)
structure St (U:Uni) where
 t:List (Sv U)
 m:Mm U
 fr:List (List (Sv U))
structure Tr where
 b:Option Nat
 n:Nat
 c:Nat
 bs:List Nat
def Tr.val (t:Tr):Value:= .slice (t.b.map λb=>⟨b,0,none⟩) t.n t.c
def Tr.all (t:Tr):List Nat:=t.b.toList++t.bs
def aCh (K:Nat)(t:Tr)(q n:Nat):Value:= .slice (if t.c=q then t.b.map λb=>⟨b,0,none⟩ else(t.b.map λb=>(⟨b,0,none⟩:Addr)).map λp=>p.add (q*K)) (n-q) (t.c-q)
mutual
inductive Ow (C:Cod U) (w:World) (X:Nat->Prop) (d:Bool):Value->Lf U->List Nat->Prop
 |int {k:IntKind} {n:Int} (h1:k.min<=n) (h2:n<=k.max):Ow C w X d (.int k n) (.int k n) []
 |bool {b:Bool}:Ow C w X d (.bool b) (.bool b) []
 |str {s:ByteArray} (h:s.size<=maxLen):Ow C w X d (.string s) (.str s) []
 |fz {v:Value} {τ:Nat} {l:List (U.El τ)} (hd:d=false) (h:Rd w X [] v (.slice (U.K τ) (l.map (U.enc τ)))):Ow C w X d v (.sl τ l) []
 |sl {τ:Nat} {l:List (U.El τ)} {xs:List Value} (t:Tr) (hk:0<U.K τ) (hown:w.ownsRow 0 τ (U.K τ) t.val l.length xs) (hc:OwL C w X d xs (l.map (C.cel τ)).flatten t.bs):Ow C w X d t.val (.sl τ l) t.all
 |su {τ:Nat} {l:List (U.El τ)} {xs:List Value} (hd:d=false) (t:Tr) (q:Nat) (hk:0<U.K τ) (hq:q<=l.length) (hown:w.ownsRow 0 τ (U.K τ) t.val l.length xs) (hc:OwL C w X d xs (l.map (C.cel τ)).flatten t.bs):Ow C w X d (aCh (U.K τ) t q l.length) (.sl τ (l.drop q)) t.all
inductive OwL (C:Cod U) (w:World) (X:Nat->Prop) (d:Bool):List Value->List (Lf U)->List Nat->Prop
 |n:OwL C w X d [] [] []
 |c {v:Value} {x:Lf U} {B B':List Nat} {vs:List Value} {xs:List (Lf U)} (h:Ow C w X d v x B) (hr:OwL C w X d vs xs B'):OwL C w X d (v::vs) (x::xs) (B++B')
end
variable {C:Cod U}
def Tr.root {t:Tr}{b:Nat}(h:t.b=some b):b∈t.all:=by simp[Tr.all,h]
def mX {w w':World}{T k n:Nat}{t:Tr}{xs:List Value}(h:w.ownsRow 0 T k t.val n xs)(hh:∀b,t.b=some b->w'.heap[b]? =w.heap[b]?):w'.ownsRow 0 T k t.val n xs:=by
 refine⟨h.1,h.2.imp id ?_⟩;rintro⟨gg,cap,cur,c1,c2,c3,c4⟩;refine⟨gg,cap,cur,c1,c2,?_,c4⟩;rw[hh gg ?_]
 ·exact c3
 ·cases hb:t.b with
  |none=>simp[Tr.val,hb] at c1
  |some b=>simp[Tr.val,hb] at c1;rw[c1.1]
section
variable {w w':World} {X X':Nat->Prop}
mutual
def Ow.conv {d:Bool}(hsz:w.heap.size<=w'.heap.size)(hX:∀b,b<w.heap.size->X' b->X b)(hcell:∀(p:Addr) (u:Value),¬X p.block->w.cell? p=some u->w'.cell? p=some u):
  ∀{v:Value} {x:Lf U} {B:List Nat},Ow C w X d v x B->(∀b∈B,w'.heap[b]? =w.heap[b]?)->Ow C w' X' d v x B
 |_,_,_, .int h1 h2,_=> .int h1 h2
 |_,_,_, .bool,_=> .bool
 |_,_,_, .str h,_=> .str h
 |_,_,_, .fz hd h,_=> .fz hd (h.conv hsz hX hcell (λ_ _ h=>h))
 |_,_,_, .sl t hk hown hc,hh=> .sl t hk (mX hown λb hb=>hh b (Tr.root hb)) (OwL.conv hsz hX hcell hc λb hb=>hh b (by simp[Tr.all,hb]))
 |_,_,_, .su hd t q hk hq hown hc,hh=> .su hd t q hk hq (mX hown λb hb=>hh b (Tr.root hb)) (OwL.conv hsz hX hcell hc λb hb=>hh b (by simp[Tr.all,hb]))
def OwL.conv {d:Bool}(hsz:w.heap.size<=w'.heap.size)(hX:∀b,b<w.heap.size->X' b->X b)(hcell:∀(p:Addr) (u:Value),¬X p.block->w.cell? p=some u->w'.cell? p=some u):
  ∀{vs:List Value} {xs:List (Lf U)} {B:List Nat},OwL C w X d vs xs B->(∀b∈B,w'.heap[b]? =w.heap[b]?)->OwL C w' X' d vs xs B
 |_,_,_, .n,_=> .n
 |_,_,_, .c h hr,hh=> .c (Ow.conv hsz hX hcell h λb hb=>hh b (by simp[hb])) (OwL.conv hsz hX hcell hr λb hb=>hh b (by simp[hb]))
end
mutual
def Ow.soft {d:Bool}:∀{v:Value} {x:Lf U} {B:List Nat},Ow C w X d v x B->Ow C w X false v x B
 |_,_,_, .int h1 h2=> .int h1 h2
 |_,_,_, .bool=> .bool
 |_,_,_, .str h=> .str h
 |_,_,_, .fz hd h=> .fz rfl h
 |_,_,_, .sl t hk hown hc=> .sl t hk hown (OwL.soft hc)
 |_,_,_, .su hd t q hk hq hown hc=> .su rfl t q hk hq hown (OwL.soft hc)
def OwL.soft {d:Bool}:∀{vs:List Value} {xs:List (Lf U)} {B:List Nat},OwL C w X d vs xs B->OwL C w X false vs xs B
 |_,_,_, .n=> .n
 |_,_,_, .c h hr=> .c (Ow.soft h) (OwL.soft hr)
end
def OwL.split {d:Bool}:∀{vs:List Value} {xs ys:List (Lf U)} {B:List Nat},OwL C w X d vs (xs++ys) B->∃v1 v2 B1 B2,vs=v1++v2/\B=B1++B2/\OwL C w X d v1 xs B1/\OwL C w X d v2 ys B2
 |vs,[],ys,B,h=>⟨[],vs,[],B,rfl,rfl, .n,h⟩
 |_,x::xs,ys,_, .c h hr=>by
  obtain⟨v1,v2,B1,B2,rfl,rfl,h1,h2⟩:=OwL.split hr;exact⟨_::v1,v2,_,B2,rfl,by rw[cf], .c h h1,h2⟩
def OwL.app {d:Bool}:∀{v1 v2:List Value} {xs ys:List (Lf U)} {B1 B2:List Nat},OwL C w X d v1 xs B1->OwL C w X d v2 ys B2->OwL C w X d (v1++v2) (xs++ys) (B1++B2)
 |_,_,_,_,_,_, .n,h=>h
 |_,_,_,_,_,_, .c h hr,h2=>by rw[cf];exact .c h (OwL.app hr h2)
def OwL.len {d:Bool}:∀{vs:List Value} {xs:List (Lf U)} {B:List Nat},OwL C w X d vs xs B->vs.length=xs.length
 |_,_,_, .n=>rfl
 |_,_,_, .c _ hr=>by simp[OwL.len hr]
def Ow.one {d:Bool}{v:Value}{x:Lf U}{B:List Nat}(h:Ow C w X d v x B):v.oneCell'=true:=by
 cases h with
 |int=>rfl
 |bool=>rfl
 |str=>rfl
 |fz _ h=>exact Rd.one h rfl
 |sl=>rfl
 |su=>rfl
def OwL.ones {d:Bool}:∀{vs:List Value} {xs:List (Lf U)} {B:List Nat},OwL C w X d vs xs B->∀v∈vs,v.oneCell'=true
 |_,_,_, .n,v,hv=>by simp at hv
 |_,_,_, .c h hr,v,hv=>by
  rcases aE.1 hv with rfl|hv
  ·exact h.one
  ·exact OwL.ones hr v hv
mutual
def Ow.lt {d:Bool}:∀{v:Value} {x:Lf U} {B:List Nat},Ow C w X d v x B->∀b∈B,b<w.heap.size
 |_,_,_, .int _ _,b,hb=>by simp at hb
 |_,_,_, .bool,b,hb=>by simp at hb
 |_,_,_, .str _,b,hb=>by simp at hb
 |_,_,_, .fz _ _,b,hb=>by simp at hb
 |_,_,_, .sl t hk hown hc,b,hb=>by
  simp only[Tr.all,bz,iw] at hb;rcases hb with hb|hb
  ·have hb:t.b=some b:=hb;rcases hown.2 with⟨h5,_⟩|⟨gg,cap,cur,h5,_,h6,_⟩
   ·simp[Tr.val,hb] at h5
   ·simp[Tr.val,hb] at h5;rw[h5.1];exact(bw.1 h6).1
  ·exact OwL.lt hc b hb
 |_,_,_, .su hd t q hk hq hown hc,b,hb=>by
  simp only[Tr.all,bz,iw] at hb;rcases hb with hb|hb
  ·have hb:t.b=some b:=hb;rcases hown.2 with⟨h5,_⟩|⟨gg,cap,cur,h5,_,h6,_⟩
   ·simp[Tr.val,hb] at h5
   ·simp[Tr.val,hb] at h5;rw[h5.1];exact(bw.1 h6).1
  ·exact OwL.lt hc b hb
def OwL.lt {d:Bool}:∀{vs:List Value} {xs:List (Lf U)} {B:List Nat},OwL C w X d vs xs B->∀b∈B,b<w.heap.size
 |_,_,_, .n,b,hb=>by simp at hb
 |_,_,_, .c h hr,b,hb=>by
  rcases bz.1 hb with hb|hb
  ·exact Ow.lt h b hb
  ·exact OwL.lt hr b hb
end
end
def L9 {α β:Type}{f:α->List β}{k:Nat}(hk:∀x,(f x).length=k):∀{l:List α} {i:Nat} {x:α},l[i]? =some x->∃l1 l2,l=l1++x::l2/\l1.length=i/\(l.map f).flatten=(l1.map f).flatten++(f x++(l2.map f).flatten)/\(l1.map f).flatten.length=i*k
 |[],i,x,h=>by simp at h
 |y::l,0,x,h=>by simp at h;subst h;exact⟨[],l,rfl,rfl,rfl,by simp⟩
 |y::l,i+1,x,h=>by
  obtain⟨l1,l2,h1,h2,h3,h4⟩:=L9 hk (l:=l) (i:=i) (x:=x) (by simpa using h);refine⟨y::l1,l2,by rw[h1];rfl,by simp[h2],?_,?_⟩
  ·simp only[bm,cR,h3,cf]
  ·simp only[bm,cR,au,h4,hk];rw[dr];omega
def Cw {α β:Type}{f:α->List β}{k:Nat}(hk:∀x,(f x).length=k):∀{l:List α},(l.map f).flatten.length=l.length*k
 |[]=>by simp
 |y::l=>by simp only[bm,cR,au,Cw hk (l:=l),hk,av,dr];omega
def pX {w:World}{T k n:Nat}{t:Tr}{xs:List Value}(h:w.ownsRow 0 T k t.val n xs){b:Nat}(hb:t.b=some b){i:Nat}{v:Value}(hv:xs[i]? =some v):w.cell? (Addr.add ⟨b,0,none⟩ i)=some v:=by exact h.cells (g:=b) (by simp[Tr.val,hb,Value.ownBlock]) i v hv
def dR {w:World}{T k n:Nat}{t:Tr}{xs:List Value}(h:w.ownsRow 0 T k t.val n xs):(t.b=none/\n=0/\xs=[]/\t.n=0/\t.c=0)\/∃b cur,t.b=some b/\t.n=n/\n<=t.c/\t.c<=maxLen/\w.heap[b]? =some (.cells cur T (0,0))/\cur.size=t.c*k/\cur.toList.take (n*k)=xs:=by
 rcases h.2 with⟨h5,h6⟩|⟨gg,cap,cur,h5,_,h6,h7,h8,h9,h10⟩
 ·left;cases hb:t.b with
  |some b=>simp[Tr.val,hb] at h5
  |none=>simp[Tr.val,hb] at h5;refine⟨rfl,h6,bv ?_,h5.1,h5.2⟩;rw[h.1,h6];simp
 ·right;cases hb:t.b with
  |none=>simp[Tr.val,hb] at h5
  |some b=>simp[Tr.val,hb] at h5;obtain⟨q1,q2,q3⟩:=h5;subst q1;subst q2;subst q3;exact⟨_,cur,rfl,rfl,h7,h8,h6,h9,h10⟩
def Lf.aCH {x:Lf U}(h:x.aAZ=true):x.toV.one=true:=by cases x<;>simp_all [Lf.aAZ,Lf.toV,V.one]
def bF3 {C:Cod U}{w:World}{Z:Nat->Prop}{τ:Nat}{l:List (U.El τ)}{xs:List Value}(t:Tr)(hown:w.ownsRow 0 τ (U.K τ) t.val l.length xs)(hh:∀b∈t.all,¬Z b)
  (hcells:xs.length=((l.map (C.cel τ)).flatten).length/\∀(i:Nat) (v:Value) (x:Lf U),xs[i]? =some v->((l.map (C.cel τ)).flatten)[i]? =some x->Rd w Z [] v x.toV):Rd w Z [] t.val (.slice (U.K τ) (l.map (U.enc τ))):=by
 have hxl:=hcells.1;rcases dR hown with⟨h1,h2,h3,h4,h5⟩|⟨b,cur,h1,h2,h3,h4,h5,h6,h7⟩
 ·have:l=[]:=bv h2;subst this;simp only[Tr.val,h1,h4,h5];exact .slice0 (cx _)
 ·simp only[Tr.val,h1,h2,cJ];cases hl:l with
  |nil=>exact .slice0 (by omega)
  |cons z0 l0=>
   rw[<-hl];have key:∀(i j:Nat) (e:List V) (dd:V),(l.map (U.enc τ))[i]? =some e->e[j]? =some dd->∃u,xs[i*U.K τ+j]? =some u/\Rd w Z [] u dd:=λi j e dd k1 k2=>by
    rw[bh] at k1;cases hz:l[i]? with
    |none=>simp[hz] at k1
    |some z=>
     simp only[hz,cJ,ai] at k1;subst k1;obtain⟨l1,l2,g1,g2,g3,g4⟩:=L9 (C.hlen τ) hz;rw[<-C.hcel,bh] at k2;cases hx:(C.cel τ z)[j]? with
     |none=>simp[hx] at k2
     |some x=>
      simp only[hx,cJ,ai] at k2;subst k2;have hin:(l.map (C.cel τ)).flatten[i*U.K τ+j]? =some x:=by rw[g3,<-g4,ay (db _ _),cP,aq (bc.1 hx).1];exact hx
      have hlt:i*U.K τ+j<xs.length:=by rw[hxl];exact(bc.1 hin).1
      exact⟨_,ae hlt,hcells.2 _ _ _ (ae hlt) hin⟩
   refine .slice (val:=λi j=>xs.getD (i*U.K τ+j) undef) (by simp) (by simp[hl]) h3 h4 (hh b (Tr.root h1)) (bw.1 h5).1 (λe he=> ?_) (λi j e dd k1 k2=> ?_) (λi j e dd k1 k2=> ?_)
   ·obtain⟨z,_,rfl⟩:=cj.1 he;rw[<-C.hcel,bl,C.hlen]
   ·obtain⟨u,k3,k4⟩:=key i j e dd k1 k2;rw[pX hown h1 k3];simp[List.getD,k3]
   ·obtain⟨u,k3,k4⟩:=key i j e dd k1 k2;simp only[List.getD,k3,cD];exact k4
mutual
def Ow.rd {w:World}{X Z:Nat->Prop}{d:Bool}(hZ:∀b,Z b->X b):∀{v:Value} {x:Lf U} {B:List Nat},Ow C w X d v x B->(∀b∈B,¬Z b)->Rd w Z [] v x.toV
 |_,_,_, .int h1 h2,_=> .int h1 h2
 |_,_,_, .bool,_=> .bool
 |_,_,_, .str h,_=> .str h
 |_,_,_, .fz hd h,_=>h.conv (aj _) (λb _ hb=>hZ b hb) (λ_ _ _ h=>h) (λ_ _ h=>h)
 |_,_,_, .sl t hk hown hc,hh=>bF3 t hown hh (OwL.rd hZ hc (λb hb=>hh b (by simp[Tr.all,hb])))
 |_,_,_, .su (τ:=τ) (l:=l) hd t q hk hq hown hc,hh=>by
  have h:=bF3 t hown hh (OwL.rd hZ hc (λb hb=>hh b (by simp[Tr.all,hb])));have hn:t.n=l.length:=by rcases dR hown with⟨_,h2,_,h4,_⟩|⟨_,_,_,h2,_⟩<;>omega
  have:=Rd.sub (show Rd w Z [] (.slice (t.b.map λb=>⟨b,0,none⟩) t.n t.c) (.slice (U.K τ) (l.map (U.enc τ))) from h) (a:=q) (b:=l.length) hq (by rw[bl];exact aj _);rw[dy (by rw[bl];exact aj _),<-fv] at this;exact this
def OwL.rd {w:World}{X Z:Nat->Prop}{d:Bool}(hZ:∀b,Z b->X b):∀{vs:List Value} {xs:List (Lf U)} {B:List Nat},OwL C w X d vs xs B->(∀b∈B,¬Z b)->vs.length=xs.length/\∀(i:Nat) (v:Value) (x:Lf U),vs[i]? =some v->xs[i]? =some x->Rd w Z [] v x.toV
 |_,_,_, .n,_=>by simp
 |_,_,_, .c h hr,hh=>by
  have ih:=OwL.rd hZ hr (λb hb=>hh b (by simp[hb]));have h0:=Ow.rd hZ h (λb hb=>hh b (by simp[hb]));refine⟨by simp[ih.1],λi v x h1 h2=> ?_⟩;cases i with
  |zero=>simp at h1 h2;subst h1;subst h2;exact h0
  |succ i=>exact ih.2 i v x (by simpa using h1) (by simpa using h2)
end
end Go.EV
namespace Go.EV
open Go.RowKit Go.VK
variable {U:Uni} {C:Cod U}
def Lf.mean (C:Cod U)(w:World)(X:Nat->Prop)(β:List Tr)(s:Mm U)(v:Value):Lf U->Prop
 | .int kd n=>v= .int kd n/\kd.min<=n/\n<=kd.max
 | .bool b=>v= .bool b
 | .str z=>v= .string z/\z.size<=maxLen
 | .nat a=>∃i f,s.ns[a]? =some (i,f)/\v= .int .i64 (i:Int)/\(i:Int)<=9223372036854775807
 | .lt a m=>∃i f,s.ns[a]? =some (i,f)/\v= .bool (decide ((i:Int)<m))/\m<=9223372036854775807
 | .sl τ l=>Rd w X [] v (.slice (U.K τ) (l.map (U.enc τ)))
 | .nil=>v= .slice none 0 0
 | .own i r=>(r<=s.k/\v.oneCell'=true)/\∃e t,s.o[i]? =some e/\β[i]? =some t/\(e.rv=r->v=t.val)
 | .bor i c τ l=>(c<=s.k/\v.oneCell'=true)/\∃e t,s.o[i]? =some e/\β[i]? =some t/\(e.cv=c->Rd w (λb=>X b/\b∉t.all) [] v (.slice (U.K τ) (l.map (U.enc τ))))
 | .inn i c τ q z j τ' l=>(c<=s.k/\v.oneCell'=true)/\∃e t,s.o[i]? =some e/\β[i]? =some t/\(e.cv=c->∃d L xs,e.ob= .tree τ d L/\0<=q/\L[q.toNat]? =some z/\(C.cel τ z)[j]? =some (.sl τ' l)/\w.ownsRow 0 τ (U.K τ) t.val L.length xs/\xs[q.toNat*U.K τ+j]? =some v)
 | .box i off=>v.oneCell'=true/\∃e t,s.o[i]? =some e/\β[i]? =some t/\(e.ob.aAX=true->∃b,t.b=some b/\v= .pointer (some ⟨b,off,none⟩))
 | .ptr τ z off=>Rd w X [] v (.elem ((U.enc τ z).drop off))
 | .oel i c τ q z off=>(c<=s.k/\v.oneCell'=true)/\∃e t,s.o[i]? =some e/\β[i]? =some t/\(e.cv=c->∃d L b,e.ob= .tree τ d L/\0<=q/\L[q.toNat]? =some z/\t.b=some b/\v= .pointer (some ⟨b,q.toNat*U.K τ+off,none⟩))
 | .oin i c τ q z j τ' l q' z' off=>(c<=s.k/\v.oneCell'=true)/\∃e t,s.o[i]? =some e/\β[i]? =some t/\(e.cv=c->∃L xs v0 b n' c',e.ob= .tree τ true L/\0<=q/\L[q.toNat]? =some z/\(C.cel τ z)[j]? =some (.sl τ' l)/\w.ownsRow 0 τ (U.K τ) t.val L.length xs/\xs[q.toNat*U.K τ+j]? =some v0/\v0= .slice (some ⟨b,0,none⟩) n' c'/\0<=q'/\l[q'.toNat]? =some z'/\v= .pointer (some ⟨b,q'.toNat*U.K τ'+off,none⟩))
 | .suf i c τ q l=>(c<=s.k/\v.oneCell'=true)/\∃e t,s.o[i]? =some e/\β[i]? =some t/\(e.cv=c->∃d,e.ob= .tree τ d l/\0<=q/\q.toNat<=l.length/\v=aCh (U.K τ) t q.toNat l.length)
 | .und=>v=undef
 | .any=>True
def Ms (C:Cod U)(w:World)(X:Nat->Prop)(β:List Tr)(s:Mm U)(vs:List Value)(cs:List (Lf U)):Prop:=
 vs.length=cs.length/\∀(i:Nat) (v:Value) (c:Lf U),vs[i]? =some v->cs[i]? =some c->c.mean C w X β s v
def Mp (C:Cod U)(w:World)(X:Nat->Prop)(β:List Tr)(s:Mm U)(v:Value):Bool×List (Lf U)->Prop
 |(false,cs)=>∃c,cs=[c]/\c.mean C w X β s v
 |(true,cs)=>∃vs:List Value,v= .agg vs.toArray/\Ms C w X β s vs cs
def Sv.mean (C:Cod U)(w:World)(X:Nat->Prop)(β:List Tr)(s:Mm U)(v:Value):Sv U->Prop
 | .l x=>x.mean C w X β s v
 | .a cs=>∃vs:List Value,v= .agg vs.toArray/\Ms C w X β s vs cs
 | .t xs=>∃vs:List Value,v= .tuple vs.toArray/\vs.length=xs.length/\∀(i:Nat) (v:Value) (x:Bool×List (Lf U)),vs[i]? =some v->xs[i]? =some x->Mp C w X β s v x
def Lf.bd (N M K:Nat):Lf U->Prop
 | .own i r=>i<N/\r<=K
 | .bor i c _ _=>i<N/\c<=K
 | .inn i c _ _ _ _ _ _=>i<N/\c<=K
 | .box i _=>i<N
 | .oel i c _ _ _ _=>i<N/\c<=K
 | .oin i c _ _ _ _ _ _ _ _ _=>i<N/\c<=K
 | .suf i c _ _ _=>i<N/\c<=K
 | .nat a=>a<M
 | .lt a _=>a<M
 |_=>True
def Sv.bd (N M K:Nat):Sv U->Prop
 | .l x=>x.bd N M K
 | .a cs=>∀c∈cs,c.bd N M K
 | .t xs=>∀x∈xs,∀c∈x.2,c.bd N M K
structure Evo (w w':World) (X X':Nat->Prop) (β β':List Tr) (s s':Mm U) (N M K:Nat):Prop where
 sz:w.heap.size<=w'.heap.size
 hX:∀b,b<w.heap.size->X' b->X b
 hc:∀(p:Addr) (u:Value),¬X p.block->w.cell? p=some u->w'.cell? p=some u
 hk:K<=s'.k
 hn:∀(a i:Nat) (f:Bool),a<M->s.ns[a]? =some (i,f)->∃f',s'.ns[a]? =some (i,f')
 ho:∀(i:Nat) (e:EO U) (t:Tr),i<N->s.o[i]? =some e->β[i]? =some t->∃e' t',s'.o[i]? =some e'/\β'[i]? =some t'/\(e'.rv<=K->e'.rv=e.rv/\t'.val=t.val)/\
  (e'.cv<=K->e'.cv=e.cv/\e'.ob=e.ob/\t'=t/\∀b∈t.all,w'.heap[b]? =w.heap[b]?)/\(e'.ob.aAX=true->e.ob.aAX=true/\t'.b=t.b)
section
variable {w w':World} {X X':Nat->Prop} {β β':List Tr} {s s':Mm U} {N M K:Nat}
def lt_of_some {α:Type}{l:List α}{i:Nat}{x:α}(h:l[i]? =some x):i<l.length:=(bc.1 h).1
def Lf.aBC {v:Value}{x:Lf U}(hm:x.mean C w X β s v):x.bd s.o.length s.ns.length s.k:=by
 cases x with
 |own i r=>obtain⟨h1,e,t,h2,_⟩:=hm;exact⟨lt_of_some h2,h1.1⟩
 |bor i c τ l=>obtain⟨h1,e,t,h2,_⟩:=hm;exact⟨lt_of_some h2,h1.1⟩
 |inn i c τ q z j τ' l=>obtain⟨h1,e,t,h2,_⟩:=hm;exact⟨lt_of_some h2,h1.1⟩
 |oel i c τ q z off=>obtain⟨h1,e,t,h2,_⟩:=hm;exact⟨lt_of_some h2,h1.1⟩
 |oin i c τ q z j τ' l q' z' off=>obtain⟨h1,e,t,h2,_⟩:=hm;exact⟨lt_of_some h2,h1.1⟩
 |suf i c τ q l=>obtain⟨h1,e,t,h2,_⟩:=hm;exact⟨lt_of_some h2,h1.1⟩
 |box i off=>obtain⟨_,e,t,h2,_⟩:=hm;exact lt_of_some h2
 |nat a=>obtain⟨i,f,h2,_⟩:=hm;exact lt_of_some h2
 |lt a m=>obtain⟨i,f,h2,_⟩:=hm;exact lt_of_some h2
 |_=>trivial
def Ms.bd {vs:List Value}{cs:List (Lf U)}(hm:Ms C w X β s vs cs):∀c∈cs,c.bd s.o.length s.ns.length s.k:=λc hc=>by
 obtain⟨i,hi⟩:=cV.1 hc;have hl:i<vs.length:=by rw[hm.1];exact lt_of_some hi
 exact Lf.aBC (hm.2 i _ c (ae hl) hi)
def Sv.aBC {v:Value}{x:Sv U}(hm:x.mean C w X β s v):x.bd s.o.length s.ns.length s.k:=by
 cases x with
 |l x=>exact Lf.aBC hm
 |a cs=>obtain⟨vs,_,h⟩:=hm;exact h.bd
 |t xs=>
  obtain⟨vs,_,h2,h3⟩:=hm;intro x hx c hc;obtain⟨i,hi⟩:=cV.1 hx;have hl:i<vs.length:=by rw[h2];exact lt_of_some hi
  have:=h3 i _ x (ae hl) hi;obtain⟨b,cs⟩:=x;cases b with
  |false=>obtain⟨c',rfl,h⟩:=this;simp at hc;subst hc;exact Lf.aBC h
  |true=>obtain⟨vs,_,h⟩:=this;exact h.bd c hc
def Lf.aAY (h:Evo w w' X X' β β' s s' N M K){v:Value}{x:Lf U}(hb:x.bd N M K)(hm:x.mean C w X β s v):x.mean C w' X' β' s' v:=by
 cases x with
 |int=>exact hm
 |bool=>exact hm
 |str=>exact hm
 |nil=>exact hm
 |nat a=>obtain⟨i,f,h1,h2⟩:=hm;obtain⟨f',h3⟩:=h.hn a i f hb h1;exact⟨i,f',h3,h2⟩
 |lt a m=>obtain⟨i,f,h1,h2⟩:=hm;obtain⟨f',h3⟩:=h.hn a i f hb h1;exact⟨i,f',h3,h2⟩
 |und=>exact hm
 |any=>trivial
 |sl τ l=>exact Rd.conv hm h.sz h.hX h.hc (λ_ _ h=>h)
 |ptr τ z off=>exact Rd.conv hm h.sz h.hX h.hc (λ_ _ h=>h)
 |own i r=>obtain⟨h1,e,t,h2,h3,h4⟩:=hm;obtain⟨e',t',g1,g2,g3,_⟩:=h.ho i e t hb.1 h2 h3;refine⟨⟨bu hb.2 h.hk,h1.2⟩,e',t',g1,g2,λhr=> ?_⟩;obtain⟨q1,q2⟩:=g3 (hr▸hb.2);rw[q2];exact h4 (q1.symm.trans hr)
 |bor i c τ l=>
  obtain⟨h1,e,t,h2,h3,h4⟩:=hm;obtain⟨e',t',g1,g2,_,g3,_⟩:=h.ho i e t hb.1 h2 h3;refine⟨⟨bu hb.2 h.hk,h1.2⟩,e',t',g1,g2,λhr=> ?_⟩;obtain⟨q1,_,q3,q4⟩:=g3 (hr▸hb.2);subst q3;refine(h4 (q1.symm.trans hr)).conv h.sz (λb hb ⟨k1,k2⟩=>⟨h.hX b hb k1,k2⟩) (λp u hp hc=> ?_) (λ_ _ h=>h);by_cases hx:X p.block
  ·have:p.block∈t'.all:=Classical.byContradiction λhn=>hp ⟨hx,hn⟩;rw[World.cell?_of_block (q4 _ this)];exact hc
  ·exact h.hc p u hx hc
 |inn i c τ q z j τ' l=>obtain⟨h1,e,t,h2,h3,h4⟩:=hm;obtain⟨e',t',g1,g2,_,g3,_⟩:=h.ho i e t hb.1 h2 h3;refine⟨⟨bu hb.2 h.hk,h1.2⟩,e',t',g1,g2,λhr=> ?_⟩;obtain⟨q1,q2,q3,q4⟩:=g3 (hr▸hb.2);subst q3;obtain⟨d,L,xs,a1,a2,a3,a4,a5,a6⟩:=h4 (q1.symm.trans hr);exact⟨d,L,xs,q2.trans a1,a2,a3,a4,mX a5 (λb hb=>q4 b (Tr.root hb)),a6⟩
 |box i off=>obtain⟨h1,e,t,h2,h3,h4⟩:=hm;obtain⟨e',t',g1,g2,_,_,g3⟩:=h.ho i e t hb h2 h3;refine⟨h1,e',t',g1,g2,λhr=> ?_⟩;obtain⟨q1,q2⟩:=g3 hr;rw[q2];exact h4 q1
 |oel i c τ q z off=>obtain⟨h1,e,t,h2,h3,h4⟩:=hm;obtain⟨e',t',g1,g2,_,g3,_⟩:=h.ho i e t hb.1 h2 h3;refine⟨⟨bu hb.2 h.hk,h1.2⟩,e',t',g1,g2,λhr=> ?_⟩;obtain⟨q1,q2,q3,q4⟩:=g3 (hr▸hb.2);subst q3;obtain⟨d,L,b,a1,a2⟩:=h4 (q1.symm.trans hr);exact⟨d,L,b,q2.trans a1,a2⟩
 |suf i c τ q l=>obtain⟨h1,e,t,h2,h3,h4⟩:=hm;obtain⟨e',t',g1,g2,_,g3,_⟩:=h.ho i e t hb.1 h2 h3;refine⟨⟨bu hb.2 h.hk,h1.2⟩,e',t',g1,g2,λhr=> ?_⟩;obtain⟨q1,q2,q3,q4⟩:=g3 (hr▸hb.2);subst q3;obtain⟨d,a1,a2⟩:=h4 (q1.symm.trans hr);exact⟨d,q2.trans a1,a2⟩
 |oin i c τ q z j τ' l q' z' off=>obtain⟨h1,e,t,h2,h3,h4⟩:=hm;obtain⟨e',t',g1,g2,_,g3,_⟩:=h.ho i e t hb.1 h2 h3;refine⟨⟨bu hb.2 h.hk,h1.2⟩,e',t',g1,g2,λhr=> ?_⟩;obtain⟨q1,q2,q3,q4⟩:=g3 (hr▸hb.2);subst q3;obtain⟨L,xs,v0,b,n',c',a1,a2,a3,a4,a5,a6⟩:=h4 (q1.symm.trans hr);exact⟨L,xs,v0,b,n',c',q2.trans a1,a2,a3,a4,mX a5 (λb hb=>q4 b (Tr.root hb)),a6⟩
def Ms.evo (h:Evo w w' X X' β β' s s' N M K){vs:List Value}{cs:List (Lf U)}(hb:∀c∈cs,c.bd N M K)(hm:Ms C w X β s vs cs):Ms C w' X' β' s' vs cs:=
 ⟨hm.1,λi v c h1 h2=>Lf.aAY h (hb c (az h2)) (hm.2 i v c h1 h2)⟩
def Mp.evo (h:Evo w w' X X' β β' s s' N M K){v:Value}{x:Bool×List (Lf U)}(hb:∀c∈x.2,c.bd N M K)(hm:Mp C w X β s v x):Mp C w' X' β' s' v x:=by
 obtain⟨b,cs⟩:=x;cases b with
 |false=>obtain⟨c,rfl,h2⟩:=hm;exact⟨c,rfl,Lf.aAY h (hb c (by simp)) h2⟩
 |true=>obtain⟨vs,h1,h2⟩:=hm;exact⟨vs,h1,h2.evo h hb⟩
def Sv.aAY (h:Evo w w' X X' β β' s s' N M K){v:Value}{x:Sv U}(hb:x.bd N M K)(hm:x.mean C w X β s v):x.mean C w' X' β' s' v:=by
 cases x with
 |l x=>exact Lf.aAY h hb hm
 |a cs=>obtain⟨vs,h1,h2⟩:=hm;exact⟨vs,h1,h2.evo h hb⟩
 |t xs=>obtain⟨vs,h1,h2,h3⟩:=hm;exact⟨vs,h1,h2,λi v x a b=>(h3 i v x a b).evo h (hb x (az b))⟩
def Sv.aAU (h:Evo w w' X X' β β' s s' s.o.length s.ns.length s.k){v:Value}{x:Sv U}(hm:x.mean C w X β s v):x.mean C w' X' β' s' v:=Sv.aAY h (Sv.aBC hm) hm
def Lf.aAU (h:Evo w w' X X' β β' s s' s.o.length s.ns.length s.k){v:Value}{x:Lf U}(hm:x.mean C w X β s v):x.mean C w' X' β' s' v:=Lf.aAY h (Lf.aBC hm) hm
def Ms.go (h:Evo w w' X X' β β' s s' s.o.length s.ns.length s.k){vs:List Value}{cs:List (Lf U)}(hm:Ms C w X β s vs cs):Ms C w' X' β' s' vs cs:=Ms.evo h hm.bd hm
end
structure Bel (Y:Nat->Prop) (w w':World):Prop where
 os:w'.os=w.os
 tape:w'.tape=w.tape
 output:w'.output=w.output
 size:w.heap.size<=w'.heap.size
 block:∀b,b<w.heap.size->¬Y b->w'.heap[b]? =w.heap[b]?
def Bel.refl {Y:Nat->Prop}(w:World):Bel Y w w:=⟨rfl,rfl,rfl,aj _,λ_ _ _=>rfl⟩
def Bel.trans {Y:Nat->Prop}{a b c:World}(h:Bel Y a b)(k:Bel Y b c):Bel Y a c:=
 ⟨k.os.trans h.os,k.tape.trans h.tape,k.output.trans h.output,bu h.size k.size,λi hi hy=>(k.block i (cg hi h.size) hy).trans (h.block i hi hy)⟩
def Bel.aBN {w w':World}(h:Ext w w'){Y:Nat->Prop}:Bel Y w w':=⟨h.os,h.tape,h.output,h.size,λb hb _=>h.block b hb⟩
def Bel.ext {w w':World}{Y:Nat->Prop}(h:Bel Y w w')(hy:∀b,¬Y b):Ext w w':=⟨h.os,h.tape,h.output,h.size,λb hb=>h.block b hb (hy b)⟩
structure Env (U:Uni) (g:GI) where
 X0:Nat->Prop
 Y0:Nat->Prop
 w0:World
 /--Blocks that were made ahead of their step:nobody touches them. -/
 prm:List (Nat×Obj)
 /--Moments to which one looks back:as long as nothing has turned that was there,all of it stays. -/
 fr:List (World×Nat×Nat)
 h0:∀b,X0 b->b<w0.heap.size\/∃x∈prm,x.1=b
 hY:∀b,Y0 b->b<w0.heap.size
 hXY:∀b,X0 b->¬Y0 b
 hg:∀w,Bel Y0 w0 w->g.G w
 pin:List (Sv U×Value)
variable {g:GI}
def Env.X (E:Env U g)(β:List Tr)(b:Nat):Prop:=E.X0 b\/E.Y0 b\/∃t∈β,b∈t.all
def Ob.ok (C:Cod U)(w:World)(X:Nat->Prop)(β:List Tr)(s:Mm U)(t:Tr):Ob U->Prop
 | .dead=>True
 | .box T cs us=>cs.length=us.length/\∃b vs,t.b=some b/\t.bs=[]/\w.heap[b]? =some (.cells vs.toArray T (0,0))/\Ms C w X β s vs cs
 | .tree τ d l=>0<U.K τ/\∃xs,w.ownsRow 0 τ (U.K τ) t.val l.length xs/\OwL C w X d xs (l.map (C.cel τ)).flatten t.bs
structure Hp (C:Cod U) (E:Env U g) (s:Mm U) (β:List Tr) (w:World):Prop where
 ext:Bel E.Y0 E.w0 w
 len:β.length=s.o.length
 vers:∀(i:Nat) (e:EO U),s.o[i]? =some e->e.rv<=s.k/\e.cv<=s.k
 cnt:∀(a i:Nat),s.ns[a]? =some (i,true)->(i:Int)+1<=9223372036854775807
 new:∀(i:Nat) (t:Tr) (b:Nat),β[i]? =some t->b∈t.all->(E.w0.heap.size<=b\/E.Y0 b)/\b<w.heap.size
 dist:∀(i j:Nat) (t u:Tr) (b:Nat),i≠j->β[i]? =some t->β[j]? =some u->b∈t.all->b∉u.all
 nd:∀(i:Nat) (t:Tr),β[i]? =some t->t.all.Nodup
 ok:∀(i:Nat) (t:Tr) (e:EO U),β[i]? =some t->s.o[i]? =some e->e.ob.ok C w (E.X β) β s t
 pin:∀x∈E.pin,x.1.mean C w (E.X β) β s x.2
 prm:∀x∈E.prm,E.w0.heap.size<=x.1/\w.heap[x.1]? =some x.2/\(∀f∈E.fr,f.1.heap.size<=x.1)/\∀(i:Nat) (t:Tr),β[i]? =some t->x.1∉t.all
 fr:∀f∈E.fr,f.2.1<=s.o.length/\f.2.2<=s.k/\f.1.heap.size<=w.heap.size/\((∃(j:Nat) (e:EO U),j<f.2.1/\s.o[j]? =some e/\f.2.2<e.cv)\/(Ext f.1 w/\∀(i:Nat) (t:Tr) (b:Nat),f.2.1<=i->β[i]? =some t->b∈t.all->f.1.heap.size<=b))
section
variable {E:Env U g} {s s':Mm U} {β β':List Tr} {w w':World}
def Hp.gw (H:Hp C E s β w):g.G w:=E.hg w H.ext
def Hp.aCB (H:Hp C E s β w)(b:Nat)(h:E.X β b):b<w.heap.size:=by
 rcases h with h|h|⟨t,ht,hb⟩
 ·rcases E.h0 b h with h|⟨x,hx,rfl⟩
  ·exact cg h H.ext.size
  ·exact(bw.1 (H.prm x hx).2.1).1
 ·exact cg (E.hY b h) H.ext.size
 ·obtain⟨i,hi⟩:=cV.1 ht;exact(H.new i t b hi hb).2
def Hp.tr (H:Hp C E s β w){i:Nat}{e:EO U}(h:s.o[i]? =some e):∃t,β[i]? =some t:=
 ⟨_,ae (by rw[H.len];exact(bc.1 h).1)⟩
def Ob.aBF {X X':Nat->Prop}(h:Evo w w' X X' β β' s s' s.o.length s.ns.length s.k){t:Tr}{x:Ob U}(hok:x.ok C w X β s t)(hh:∀b∈t.all,w'.heap[b]? =w.heap[b]?):x.ok C w' X' β' s' t:=by
 cases x with
 |dead=>trivial
 |box T cs us=>obtain⟨h0,b,vs,h1,h2,h3,h4⟩:=hok;exact⟨h0,b,vs,h1,h2,by rw[hh b (Tr.root h1)];exact h3,h4.go h⟩
 |tree τ d l=>obtain⟨h1,xs,h2,h3⟩:=hok;exact⟨h1,xs,mX h2 (λb hb=>hh b (Tr.root hb)),h3.conv h.sz h.hX h.hc (λb hb=>hh b (by simp[Tr.all,hb]))⟩
def Hp.step (H:Hp C E s β w)(I D:Nat->Prop)(hk:s.k<=s'.k)(hn:∀(a i:Nat) (f:Bool),s.ns[a]? =some (i,f)->∃f',s'.ns[a]? =some (i,f'))(hcnt:∀(a i:Nat),s'.ns[a]? =some (i,true)->(i:Int)+1<=9223372036854775807)(hlen:β'.length=s'.o.length)(hge:s.o.length<=s'.o.length)(hsz:w.heap.size<=w'.heap.size)(hos:w'.os=w.os)(htape:w'.tape=w.tape)(hout:w'.output=w.output)
  (hheap:∀b,b<w.heap.size->¬D b->w'.heap[b]? =w.heap[b]?) (hD:∀b,D b->∃i t,I i/\β[i]? =some t/\b∈t.all)
  (hsame:∀i,¬I i->i<s.o.length->s'.o[i]? =s.o[i]? /\β'[i]? =β[i]?)
  (hnew:∀(j:Nat) (t:Tr) (b:Nat),(I j\/s.o.length<=j)->β'[j]? =some t->b∈t.all->b<w'.heap.size/\(w.heap.size<=b\/∃i u,I i/\β[i]? =some u/\b∈u.all))
  (hdist:∀(i j:Nat) (t u:Tr) (b:Nat),(I i\/s.o.length<=i)->(I j\/s.o.length<=j)->i≠j->β'[i]? =some t->β'[j]? =some u->b∈t.all->b∉u.all)
  (hnd:∀(j:Nat) (t:Tr),(I j\/s.o.length<=j)->β'[j]? =some t->t.all.Nodup)
  (hver:∀(j:Nat) (e:EO U),(I j\/s.o.length<=j)->s'.o[j]? =some e->e.rv<=s'.k/\e.cv<=s'.k)
  (hI:∀(i:Nat) (e e':EO U) (t t':Tr),I i->s.o[i]? =some e->s'.o[i]? =some e'->β[i]? =some t->β'[i]? =some t'->(e'.rv<=s.k->e'.rv=e.rv/\t'.val=t.val)/\s.k<e'.cv/\(e'.ob.aAX=true->e.ob.aAX=true/\t'.b=t.b))
  (hok:Evo w w' (E.X β) (E.X β') β β' s s' s.o.length s.ns.length s.k->∀(j:Nat) (t:Tr) (e:EO U),(I j\/s.o.length<=j)->β'[j]? =some t->s'.o[j]? =some e->e.ob.ok C w' (E.X β') β' s' t):
  Hp C E s' β' w'/\Evo w w' (E.X β) (E.X β') β β' s s' s.o.length s.ns.length s.k:=by
 have hcase:∀j,(I j\/s.o.length<=j)\/(¬I j/\j<s.o.length):=λj=>by
  by_cases h:I j
  ·exact .inl (.inl h)
  ·by_cases h2:s.o.length<=j
   ·exact .inl (.inr h2)
   ·exact .inr ⟨h,by omega⟩
 have hX:∀b,b<w.heap.size->E.X β' b->E.X β b:=by
  rintro b hb (h|h|⟨t,ht,htb⟩)
  ·exact .inl h
  ·exact .inr (.inl h)
  ·obtain⟨j,hj⟩:=cV.1 ht;rcases hcase j with hc|⟨hn,hl⟩
   ·rcases(hnew j t b hc hj htb).2 with h|⟨i,u,_,hu,hub⟩
    ·omega
    ·exact .inr (.inr ⟨u,az hu,hub⟩)
   ·rw[(hsame j hn hl).2] at hj;exact .inr (.inr ⟨t,az hj,htb⟩)
 have hDX:∀b,D b->E.X β b:=λb hb=>by
  obtain⟨i,t,_,h2,h3⟩:=hD b hb;exact .inr (.inr ⟨t,az h2,h3⟩)
 have hkeep:∀(i:Nat) (t:Tr),¬I i->β[i]? =some t->∀b∈t.all,w'.heap[b]? =w.heap[b]? :=λi t hi ht b hb=>
  hheap b (H.new i t b ht hb).2 (λhd=>by
   obtain⟨j,u,hj,hu,hub⟩:=hD b hd;exact H.dist i j t u b (λe=>hi (e▸hj)) ht hu hb hub)
 have hevo:Evo w w' (E.X β) (E.X β') β β' s s' s.o.length s.ns.length s.k:=by
  refine⟨hsz,hX,λp u hp hc=> ?_,hk,λa i f _ h=>hn a i f h,λi e t _ he ht=> ?_⟩
  ·have hlt:=World.block_lt_of_cell? w p hc;rw[World.cell?_of_block (hheap p.block hlt (λhd=>hp (hDX _ hd)))];exact hc
  ·have hil:i<s.o.length:=(bc.1 he).1;by_cases hi:I i
   ·have h1:s'.o[i]? =some (s'.o[i]'(by omega)):=ae _;have h2:β'[i]? =some (β'[i]'(by omega)):=ae _;obtain⟨q1,q2,q3⟩:=hI i e _ t _ hi he h1 ht h2;exact⟨_,_,h1,h2,q1,λhc=>absurd hc (by omega),q3⟩
   ·obtain⟨h1,h2⟩:=hsame i hi hil;exact⟨e,t,h1.trans he,h2.trans ht,λ_=>⟨rfl,rfl⟩,λ_=>⟨rfl,rfl,rfl,hkeep i t hi ht⟩,λh=>⟨h,rfl⟩⟩
 refine⟨⟨?_,hlen,?_,hcnt,?_,?_,?_,?_,λx hx=>Sv.aAU hevo (H.pin x hx),λx hx=> ?_,λf hf=> ?_⟩,hevo⟩
 ·refine⟨hos.trans H.ext.os,htape.trans H.ext.tape,hout.trans H.ext.output,bu H.ext.size hsz,λb hb hy=> ?_⟩;rw[hheap b (cg hb H.ext.size) (λhd=>by
   obtain⟨i,t,_,h2,h3⟩:=hD b hd;rcases(H.new i t b h2 h3).1 with h|h
   ·omega
   ·exact hy h)]
  exact H.ext.block b hb hy
 ·intro j e he;rcases hcase j with hc|⟨hn,hl⟩
  ·exact hver j e hc he
  ·rw[(hsame j hn hl).1] at he;have:=H.vers j e he;omega
 ·intro j t b ht hb;rcases hcase j with hc|⟨hn,hl⟩
  ·obtain⟨h1,h2⟩:=hnew j t b hc ht hb;refine⟨?_,h1⟩;rcases h2 with h|⟨i,u,_,hu,hub⟩
   ·have:=H.ext.size;exact .inl (by omega)
   ·exact(H.new i u b hu hub).1
  ·rw[(hsame j hn hl).2] at ht;have:=H.new j t b ht hb;exact⟨this.1,by omega⟩
 ·intro i j t u b hij ht hu hb hub;have aux:∀(i j:Nat) (t u:Tr),i≠j->(I i\/s.o.length<=i)->(¬I j/\j<s.o.length)->β'[i]? =some t->β[j]? =some u->b∈t.all->b∈u.all->False:=by
   intro i j t u hij hi hj ht hu hb hub;rcases(hnew i t b hi ht hb).2 with h|⟨q,x,hq,hx,hxb⟩
   ·have:=(H.new j u b hu hub).2;omega
   ·exact H.dist q j x u b (λe=>hj.1 (e▸hq)) hx hu hxb hub
  rcases hcase i with hi|hi<;>rcases hcase j with hj|hj
  ·exact hdist i j t u b hi hj hij ht hu hb hub
  ·rw[(hsame j hj.1 hj.2).2] at hu;exact aux i j t u hij hi hj ht hu hb hub
  ·rw[(hsame i hi.1 hi.2).2] at ht;exact aux j i u t (Ne.symm hij) hj hi hu ht hub hb
  ·rw[(hsame i hi.1 hi.2).2] at ht;rw[(hsame j hj.1 hj.2).2] at hu;exact H.dist i j t u b hij ht hu hb hub
 ·intro j t ht;rcases hcase j with hc|⟨hn,hl⟩
  ·exact hnd j t hc ht
  ·rw[(hsame j hn hl).2] at ht;exact H.nd j t ht
 ·intro j t e ht he;rcases hcase j with hc|⟨hn,hl⟩
  ·exact hok hevo j t e hc ht he
  ·obtain⟨h1,h2⟩:=hsame j hn hl;rw[h1] at he;rw[h2] at ht;exact Ob.aBF hevo (H.ok j t e ht he) (hkeep j t hn ht)
 ·obtain⟨h1,h2,h3,h4⟩:=H.prm x hx;have hlt:x.1<w.heap.size:=(bw.1 h2).1;refine⟨h1,(hheap x.1 hlt λhd=> ?_).trans h2,h3,λj t ht hb=> ?_⟩
  ·obtain⟨i,u,_,hu,hub⟩:=hD _ hd;exact h4 i u hu hub
  ·rcases hcase j with hc|⟨hn,hl⟩
   ·rcases(hnew j t _ hc ht hb).2 with h|⟨i,u,_,hu,hub⟩
    ·omega
    ·exact h4 i u hu hub
   ·rw[(hsame j hn hl).2] at ht;exact h4 j t ht hb
 ·obtain⟨h1,h2,h0,h3⟩:=H.fr f hf;refine⟨bu h1 hge,bu h2 hk,bu h0 hsz,?_⟩;have turned:∀i,I i->i<f.2.1->∃(j:Nat) (e:EO U),j<f.2.1/\s'.o[j]? =some e/\f.2.2<e.cv:=λi hi hl=>by
   have hil:i<s.o.length:=cg hl h1;have g1:s.o[i]? =some s.o[i]:=ae hil;have g2:s'.o[i]? =some (s'.o[i]'(by omega)):=ae _;obtain⟨t,g3⟩:=H.tr g1;have g4:β'[i]? =some (β'[i]'(by omega)):=ae _;have:=(hI i _ _ t _ hi g1 g2 g3 g4).2.1;exact⟨i,_,hl,g2,by omega⟩
  rcases h3 with⟨j,e,q1,q2,q3⟩|⟨q1,q2⟩
  ·by_cases hj:I j
   ·exact .inl (turned j hj q1)
   ·exact .inl ⟨j,e,q1,by rw[(hsame j hj (lt_of_some q2)).1];exact q2,q3⟩
  ·by_cases hex:∃i,I i/\i<f.2.1
   ·obtain⟨i,hi,hl⟩:=hex;exact .inl (turned i hi hl)
   ·have hno:∀i,I i->f.2.1<=i:=λi hi=>Nat.le_of_not_lt λhl=>hex ⟨i,hi,hl⟩;refine .inr ⟨⟨hos.trans q1.os,htape.trans q1.tape,hout.trans q1.output,bu q1.size hsz,λb hb=> ?_⟩,λj t b hj ht hb=> ?_⟩
    ·rw[hheap b (cg hb q1.size) (λhd=>by
      obtain⟨i,t,hi,ht,htb⟩:=hD b hd;have:=q2 i t b (hno i hi) ht htb;omega)]
     exact q1.block b hb
    ·rcases hcase j with hc|⟨hn,hl⟩
     ·rcases(hnew j t b hc ht hb).2 with h|⟨i,u,hi,hu,hub⟩
      ·exact bu q1.size h
      ·exact q2 i u b (hno i hi) hu hub
     ·rw[(hsame j hn hl).2] at ht;exact q2 j t b hj ht hb
end
end Go.EV
namespace Go.EV
open Go.RowKit Go.VK
noncomputable section
def nth {α:Type}(l:List α):Nat->Option α:=List.rec (motive:=λ_=>Nat->Option α) (λ_=>none) (λx _ ih n=>Nat.rec (motive:=λ_=>Option α) (some x) (λm _=>ih m) n) l
def upd {α:Type}(l:List α):Nat->α->List α:=List.rec (motive:=λ_=>Nat->α->List α) (λ_ _=>[]) (λx t ih n y=>Nat.rec (motive:=λ_=>List α) (y::t) (λm _=>x::ih m y) n) l
def drp {α:Type}(l:List α):Nat->List α:=List.rec (motive:=λ_=>Nat->List α) (λ_=>[]) (λx t ih n=>Nat.rec (motive:=λ_=>List α) (x::t) (λm _=>ih m) n) l
def tk {α:Type}(l:List α):Nat->List α:=List.rec (motive:=λ_=>Nat->List α) (λ_=>[]) (λx _ ih n=>Nat.rec (motive:=λ_=>List α) [] (λm _=>x::ih m) n) l
def len {α:Type}(l:List α):Nat:=List.rec (motive:=λ_=>Nat) 0 (λ_ _ ih=>Nat.succ ih) l
def iJ {α:Type}(l:List (Nat×α))(n:Nat):Option α:=List.rec (motive:=λ_=>Option α) none (λx _ ih=>cond (Nat.beq x.1 n) (some x.2) ih) l
inductive Kz where
 |int (k:IntKind)
 |bool
 |str
 |nil
def Kz.v:Kz->V
 | .int k=> .int k 0
 | .bool=> .bool false
 | .str=> .str ⟨#[]⟩
 | .nil=> .nil
inductive UT where
 |int (k:IntKind)
 |bool
 |str
 |sl (e ek eb:Nat)
 |st (fs:List (Nat×Nat×Nat))
structure TInfo where
 u:UT
 k:Nat
 z:List Kz
inductive Kd where
 |int (k:IntKind)
 |bool
 |str
 |sl (τ:Nat)
 |st (T:Nat)
variable {U:Uni}
def Kz.lf:Kz->Lf U
 | .int k=> .int k (0:Int)
 | .bool=> .bool false
 | .str=> .str (⟨#[]⟩:ByteArray)
 | .nil=> .nil
def Kd.ty (U:Uni):Kd->Type
 | .int _=>Int
 | .bool=>Bool
 | .str=>ByteArray
 | .sl τ=>List (U.El τ)
 | .st T=>U.El T
def rD (U:Uni):List Kd->Type
 |[]=>Unit
 |[k]=>k.ty U
 |k::k'::ks=>k.ty U×rD U (k'::ks)
structure Sum (U:Uni) where
 ar:List Kd
 rs:List Kd
 fr:Bool
 wt:Bool
 m:rD U ar->Option (rD U rs)
def slq (τ τ':Nat)(l:List (U.El τ')):Option (List (U.El τ)):=if h:τ'=τ then some (h▸l) else none
def okv (m:Mm U)(i c:Nat):Bool:=match nth m.o i with
 |some e=>Nat.beq e.cv c
 |none=>false
def rsv (ns:List (Nat×Bool)):Lf U->Lf U
 | .nat a=>match nth ns a with|some (i,_)=> .int .i64 (i:Int)|none=> .any
 | .lt a m=>match nth ns a with|some (i,_)=> .bool (decide ((i:Int)<m))|none=> .any
 |x=>x
def rC (m:Mm U):Lf U->Option (Lf U)
 | .int k n=>some (.int k n)
 | .bool b=>some (.bool b)
 | .str s=>some (.str s)
 | .sl τ l=>some (.sl τ l)
 | .nat a=>match nth m.ns a with|some (i,_)=>some (.int .i64 (i:Int))|none=>none
 | .lt a n=>match nth m.ns a with|some (i,_)=>some (.bool (decide ((i:Int)<n)))|none=>none
 | .own i r=>match nth m.o i with
  |some ⟨.tree τ _ l,rv,_⟩=>bif Nat.beq rv r then some (.sl τ l) else none
  |_=>none
 | .bor i c τ l=>bif okv m i c then some (.sl τ l) else none
 | .inn i c _ _ _ _ τ' l=>bif okv m i c then some (.sl τ' l) else none
 |_=>none
def rdn (m:Mm U)(kd:Kd):Lf U->Option (Lf U)
 | .nil=>match kd with| .sl τ=>some (.sl τ [])|_=>none
 |x=>rC m x
def rds (m:Mm U):List Kd->List (Lf U)->Option (List (Lf U))
 |[],[]=>some []
 |kd::ks,x::xs=>match rdn m kd x with
  |some y=>match rds m ks xs with
   |some ys=>some (y::ys)
   |none=>none
  |none=>none
 |_,_=>none
def aGs:(kd:Kd)->Lf U->Option (kd.ty U)
 | .int k, .int k' n=>if k'=k then some n else none
 | .bool, .bool b=>some b
 | .str, .str s=>some s
 | .sl τ, .sl τ' l=>slq τ τ' l
 |_,_=>none
def Cur (U:Uni)(β:Type):List Kd->Type
 |[]=>β
 |k::ks=>k.ty U->Cur U β ks
def kX {β:Type}:(ks:List Kd)->Cur U β ks->List (Lf U)->Option β
 |[],x,[]=>some x
 |k::ks,f,c::cs=>match aGs k c with
  |some a=>kX ks (f a) cs
  |none=>none
 |_,_,_=>none
structure Lay (U:Uni) where
 C:Cod U
 kd:Nat->List Kd
 bt:Nat
 be:Int->U.El bt
 bi:U.El bt->Int
 hb:∀x,C.cel bt x=[.int .u8 (bi x)]
 hbe:∀n,bi (be n)=n
def bC4 (ns:List Int):ByteArray:=ns.foldl (λr n=>r.push (UInt8.ofNat n.toNat)) ByteArray.empty
variable (Y:Lay U)
def Na (m:Mm U):(kd:Kd)->Sv U->Option (kd.ty U)
 | .st T, .a cs=>match rds m (Y.kd T) cs with
  |some ds=>Y.C.bld T ds
  |none=>none
 |kd, .l x=>match rdn m kd x with
  |some y=>aGs kd y
  |none=>none
 |_,_=>none
def lQ (m:Mm U):(ks:List Kd)->List (Sv U)->Option (rD U ks)
 |[],[]=>some ()
 |[k],[x]=>Na Y m k x
 |k::k'::ks,x::xs=>match Na Y m k x with
  |some a=>match lQ m (k'::ks) xs with
   |some b=>some (a,b)
   |none=>none
  |none=>none
 |_,_=>none
def bNu:(kd:Kd)->kd.ty U->Lf U
 | .int k,n=> .int k n
 | .bool,b=> .bool b
 | .str,s=> .str s
 | .sl τ,l=> .sl τ l
 | .st _,_=> .any
def M0:(kd:Kd)->kd.ty U->Bool×List (Lf U)
 | .st T,x=>(true,Y.C.cel T x)
 | .int k,n=>(false,[.int k n])
 | .bool,b=>(false,[.bool b])
 | .str,s=>(false,[.str s])
 | .sl τ,l=>(false,[.sl τ l])
def bY:(ks:List Kd)->rD U ks->List (Bool×List (Lf U))
 |[],_=>[]
 |[k],x=>[M0 Y k x]
 |k::k'::ks,x=>M0 Y k x.1::bY (k'::ks) x.2
def aYh:Bool×List (Lf U)->Sv U
 |(true,cs)=> .a cs
 |(false,[x])=> .l x
 |_=> .l .any
def vE:List (Bool×List (Lf U))->Sv U
 |[x]=>aYh x
 |xs=> .t xs
def aVe (k:IntKind)(n:Int):Bool:=decide (k.min<=n)&&decide (n<=k.max)
def aVf:Value->Sv U
 | .int k n=>bif aVe k n then .l (.int k n) else .l .any
 | .bool b=> .l (.bool b)
 | .string s=>bif Nat.ble (len s.data.toList) 1000 then .l (.str s) else .l .any
 | .slice none 0 0=> .l .nil
 |_=> .l .any
def uA (s:St U):Operand->Sv U
 | .tmp n=>match nth s.t n with|some x=>x|none=> .l .any
 | .const v=>aVf v
 |_=> .l .any
def dV (s:St U)(x:Operand):Sv U:=match uA s x with
 | .l y=> .l (rsv s.m.ns y)
 |y=>y
variable (TI:List (Nat×TInfo))
def bJ1 (b:BinOp)(k:IntKind)(m n:Int):Option (Lf U):=match b with
 | .add=>some (.int k (k.wrap (m+n)))
 | .sub=>some (.int k (k.wrap (m-n)))
 | .mul=>some (.int k (k.wrap (m*n)))
 | .lss=>some (.bool (decide (m<n)))
 | .leq=>some (.bool (decide (m<=n)))
 | .gtr=>some (.bool (decide (m>n)))
 | .geq=>some (.bool (decide (m>=n)))
 | .eql=>some (.bool (m==n))
 | .neq=>some (.bool (m !=n))
 | .and=>some (.int k (mG k m n))
 | .or=>some (.int k (orI k m n))
 | .xor=>some (.int k (aVd k m n))
 |_=>none
def bJ2 (b:BinOp)(m n:ByteArray):Option (Lf U):=match b with
 | .eql=>some (.bool (m.toList==n.toList))
 | .neq=>some (.bool (!(m.toList==n.toList)))
 |_=>none
def eqC:Lf U->Lf U->Option Bool
 | .int k m, .int k' n=>if k=k' then some (m==n) else none
 | .bool a, .bool b=>some (a==b)
 | .str a, .str b=>some (a.toList==b.toList)
 |_,_=>none
def bR2:List (Lf U)->List (Lf U)->Option Bool
 |[],[]=>some true
 |[x],[y]=>eqC x y
 |x::xs,y::ys=>match eqC x y with
  |some b=>match bR2 xs ys with
   |some c=>some (b&&c)
   |none=>none
  |none=>none
 |_,_=>none
def eqQ:Nat->List (Nat×Nat×Nat)->List (Lf U)->List (Lf U)->Option Bool
 |_,[],[],[]=>some true
 |i,(off,ft,_)::fs,c::cs,d::ds=>bif Nat.beq off i then(match eqQ (Nat.succ i) fs cs ds with
  |some r=>(match iJ TI ft,c,d with
   |some ⟨.int _,_,_⟩, .int k m, .int k' n=>if k=k' then some (m==n&&r) else none
   |some ⟨.bool,_,_⟩, .bool m, .bool n=>some (m==n&&r)
   |some ⟨.str,_,_⟩, .str m, .str n=>some (m.toList==n.toList&&r)
   |_,_,_=>none)
  |none=>none) else none
 |_,_,_,_=>none
def cut (i:TInfo)(cs:List (Lf U))(off:Nat):Option (Sv U):=match i.u with
 | .st _=>let ds:=tk (drp cs off) i.k
  bif Nat.beq (len ds) i.k then some (.a ds) else none
 |_=>match nth cs off with
  |some x=>some (.l x)
  |none=>none
def eqV (i:TInfo):Sv U->Sv U->Option Bool
 | .l (.int k m), .l (.int k' n)=>match i.u with
  | .int _=>if k=k' then some (m==n) else none
  |_=>none
 | .l (.bool m), .l (.bool n)=>match i.u with
  | .bool=>some (m==n)
  |_=>none
 | .l (.str m), .l (.str n)=>match i.u with
  | .str=>some (m.toList==n.toList)
  |_=>none
 | .a xs, .a ys=>match i.u with
  | .st (g::gs)=>eqQ TI 0 (g::gs) xs ys
  |_=>none
 |_,_=>none
def eqN:List (Nat×Nat×Nat)->List (Lf U)->List (Lf U)->Option Bool
 |[],_,_=>some true
 |(off,ft,_)::fs,cs,ds=>match iJ TI ft with
  |some i=>match cut i cs off with
   |some x=>match cut i ds off with
    |some y=>match eqV TI i x y with
     |some a=>match eqN fs cs ds with
      |some r=>some (a&&r)
      |none=>none
     |none=>none
    |none=>none
   |none=>none
  |none=>none
def eqB (fs:List (Nat×Nat×Nat))(cs ds:List (Lf U)):Option Bool:=match eqQ TI 0 fs cs ds with
 |some r=>some r
 |none=>eqN TI fs cs ds
def bin (b:BinOp)(t:TypeId):Sv U->Sv U->Option (Lf U)
 | .l (.int k m), .l (.int k' n)=>if k=k' then bJ1 b k m n else none
 | .l (.str m), .l (.str n)=>bJ2 b m n
 | .l (.bool m), .l (.bool n)=>match iJ TI t with
  |some ⟨.bool,_,_⟩=>match b with
   | .eql=>some (.bool (m==n))
   | .neq=>some (.bool (!(m==n)))
   |_=>none
  |_=>none
 | .a cs, .a ds=>match iJ TI t with
  |some ⟨.st (f::fs),_,_⟩=>match eqB TI (f::fs) cs ds with
   |some r=>(match b with
    | .eql=>some (.bool r)
    | .neq=>some (.bool (!r))
    |_=>none)
   |none=>none
  |_=>none
 |_,_=>none
def aGt (i c τ:Nat)(q:Int)(z:U.El τ):Nat->List (Lf U)->List (Lf U)
 |_,[]=>[]
 |j, .sl τ' l::xs=> .inn i c τ q z j τ' l::aGt i c τ q z (Nat.succ j) xs
 |j,x::xs=>x::aGt i c τ q z (Nat.succ j) xs
def aGu (i c:Nat):List (Lf U)->List (Lf U)
 |[]=>[]
 | .sl τ l::xs=> .bor i c τ l::aGu i c xs
 |x::xs=>x::aGu i c xs
def fld (fs:List (Nat×Nat×Nat))(f:Nat):Option (Nat×Nat×Nat):=nth fs f
def tJ (m:Mm U)(f:Nat):Lf U->Option (Lf U)
 | .box i off=>match nth m.o i with
  |some ⟨.box ..,_,_⟩=>some (.box i (off+f))
  |_=>none
 | .ptr τ z off=>some (.ptr τ z (off+f))
 | .oel i c τ q z off=>bif okv m i c then some (.oel i c τ q z (off+f)) else none
 |_=>none
def brA {α:Type}(q:Int)(F:Nat->Option α)(n:Nat):Option α:=Nat.rec (motive:=λ_=>Option α) none (λj ih=>bif decide (q=(j:Int)) then F j else ih) n
def load (s:St U)(i:TInfo):Lf U->Option (Sv U)
 | .box b off=>match nth s.m.o b with
  |some ⟨.box _ cs _,_,_⟩=>cut i cs off
  |_=>none
 | .ptr τ z off=>cut i (Y.C.cel τ z) off
 | .oel b c τ q z off=>bif okv s.m b c then cut i (aGt b c τ q z 0 (Y.C.cel τ z)) off else none
 | .oin b c _ _ _ _ τ' _ _ z' off=>bif okv s.m b c then cut i (aGu b c (Y.C.cel τ' z')) off else none
 |_=>none
def lenOf (m:Mm U):Lf U->Option (Lf U)
 | .str z=>some (.int .i64 (z.size:Int))
 | .nil=>some (.int .i64 (0:Int))
 |x=>match rC m x with
  |some (.sl _ l)=>some (.int .i64 (l.length:Int))
  |_=>none
def K5 {α:Type}(l:List α)(off:Nat)(vs:List α):List α:=List.rec (motive:=λ_=>Nat->List α) (λ_=>[]) (λx t ih n=>Nat.rec (motive:=λ_=>List α) (vs++drp (x::t) (len vs)) (λm _=>x::ih m) n) l off
def parts:Sv U->Option (List (Lf U))
 | .l x=>some [x]
 | .a cs=>some cs
 |_=>none
def bF4:Lf U->Bool
 | .und=>false
 | .any=>false
 |_=>true
def Cq:List (Lf U)->Bool
 |[]=>true
 |x::xs=>bF4 x&&Cq xs
def aYi (s:St U)(fs:List (Nat×Nat×Nat)):List (Nat×Operand)->List (Lf U)->Option (List (Lf U))
 |[],cs=>some cs
 |(f,x)::xs,cs=>match fld fs f,parts (uA s x) with
  |some (off,_,n),some ps=>bif Nat.beq (len ps) n&&Nat.ble (off+n) (len cs)&&Cq ps then aYi s fs xs (K5 cs off ps) else none
  |_,_=>none
def pur (s:St U)(op:Op):Option (Sv U):=match op with
 | .move x=>some (uA s x)
 | .assign x=>some (uA s x)
 | .pick c x y=>match dV s c with
  | .l (.bool b)=>bif b then some (uA s x) else some (uA s y)
  |_=>none
 | .nilCheck x=>match dV s x with
  | .l (.box b off)=>match nth s.m.o b with
   |some ⟨.box ..,_,_⟩=>some (.l (.box b off))
   |_=>none
  |_=>none
 | .unOp u _ x=>match u,dV s x with
  | .not, .l (.bool b)=>some (.l (.bool (!b)))
  | .neg, .l (.int k n)=>some (.l (.int k (k.wrap (0-n))))
  |_,_=>none
 | .convert a b x=>match iJ TI a,iJ TI b,dV s x with
  |some ⟨.int _,_,_⟩,some ⟨.int j,_,_⟩, .l (.int _ n)=>some (.l (.int j (j.wrap n)))
  |_,_,_=>none
 | .fieldAddr t x f=>match iJ TI t,dV s x with
  |some ⟨.st fs,_,_⟩, .l p=>match fld fs f with
   |some (off,_,_)=>match tJ s.m off p with
    |some z=>some (.l z)
    |none=>none
   |none=>none
  |_,_=>none
 | .load t x=>match iJ TI t,dV s x with
  |some i, .l p=>load Y s i p
  |_,_=>none
 | .field t x f=>match iJ TI t,dV s x with
  |some ⟨.st fs,_,_⟩, .a cs=>match fld fs f with
   |some (off,ft,_)=>match iJ TI ft with
    |some i=>cut i cs off
    |none=>none
   |none=>none
  |_,_=>none
 | .build t ps=>match iJ TI t with
  |some ⟨.st fs,_,z⟩=>match aYi s fs ps.toList (z.map Kz.lf) with
   |some cs=>some (.a cs)
   |none=>none
  |_=>none
 | .extract x i=>match dV s x with
  | .t xs=>match nth xs i with
   |some c=>some (aYh c)
   |none=>none
  |_=>none
 | .call ⟨.builtin .len,xa,ats⟩=>match xa.toList,ats.toList with
  |[x],[t]=>match iJ TI t,dV s x with
   |some ⟨.sl ..,_,_⟩, .l y=>match y with
    | .str _=>none
    |y=>match lenOf s.m y with
     |some z=>some (.l z)
     |none=>none
   |some ⟨.str,_,_⟩, .l (.str z)=>some (.l (.int .i64 (z.size:Int)))
   |_,_=>none
  |_,_=>none
 | .call ⟨.builtin .min,xa,_⟩=>match xa.toList with
  |[x,y]=>match dV s x,dV s y with
   | .l (.int k a), .l (.int k' b)=>if k=k' then some (.l (.int k (if b<a then b else a))) else none
   |_,_=>none
  |_=>none
 | .call ⟨.builtin .max,xa,_⟩=>match xa.toList with
  |[x,y]=>match dV s x,dV s y with
   | .l (.int k a), .l (.int k' b)=>if k=k' then some (.l (.int k (if b>a then b else a))) else none
   |_,_=>none
  |_=>none
 |_=>none
variable {α:Type}
def aOw (f:(τ:Nat)->List (U.El τ)->List (U.El τ))(o:List (EO U)):Lf U->Option (Lf U)
 | .sl τ l=>some (.sl τ (f τ l))
 | .own i r=>match nth o i with
  |some ⟨.tree τ _ l,rv,cv⟩=>bif Nat.beq rv r then some (.bor i cv τ (f τ l)) else none
  |_=>none
 | .bor i c τ l=>some (.bor i c τ (f τ l))
 | .inn i c _ _ _ _ τ' l=>some (.bor i c τ' (f τ' l))
 |_=>none
def Gu (e k τ:Nat):Bool:=Nat.beq e τ&&Nat.beq (U.K τ) k
def vF:Sv U->Option Int
 | .l (.int _ n)=>some n
 |_=>none
def Td (s:St U)(op:Op)(K:Sv U->Option α):Option α:=match op with
 | .binOp b t x y u=>match dV s x,dV s y with
  | .l (.int k m), .l (.int k' n)=>match b with
   | .lss=>if k=k' then(match uA s x with
    | .l (.nat a)=>K (.l (.lt a n))
    |_=>K (.l (.bool (decide (m<n))))) else none
   | .quo=>if k=k' then gd (n≠0) (K (.l (.int k (k.wrap (m.tdiv n))))) else none
   | .rem=>if k=k' then gd (n≠0) (K (.l (.int k (m.tmod n)))) else none
   | .shl=>gd (0<=n) (K (.l (.int k (L8 k m n))))
   | .shr=>gd (0<=n) (K (.l (.int k (Co k m n))))
   |b=>if k=k' then(match bJ1 b k m n with|some z=>K (.l z)|none=>none) else none
  | .l (.str m), .l (.str n)=>match b with
   | .add=>gd (m.size+n.size<=9223372036854775807) (K (.l (.str (m++n))))
   |b=>match bJ2 b m n with|some z=>K (.l z)|none=>none
  |x,y=>match bin TI b t x y with
   |some z=>K (.l z)
   |none=>none
 | .indexAddr t x y=>match iJ TI t,dV s x,dV s y with
  |some ⟨.sl e ek _,_,_⟩, .l p, .l (.int _ q)=>match p with
   | .sl τ l=>bif Gu (U:=U) e ek τ then bd (aY l q) λz=>K (.l (.ptr τ z 0)) else none
   | .own i r=>match nth s.m.o i with
    |some ⟨.tree τ _ l,rv,cv⟩=>bif Nat.beq rv r&&Gu (U:=U) e ek τ then bd (aY l q) λz=>K (.l (.oel i cv τ q z 0)) else none
    |_=>none
   | .inn i c τ q0 z j τ' l=>match nth s.m.o i with
    |some ⟨.tree _ d _,_,cv⟩=>bif d&&(Nat.beq cv c&&Gu (U:=U) e ek τ') then bd (aY l q) λz'=>K (.l (.oin i c τ q0 z j τ' l q z' 0)) else none
    |_=>none
   |_=>none
  |some ⟨.st [],k,_⟩, .l (.box b off), .l (.int _ q)=>brA q (λj=>match tJ s.m j (.box b off) with
   |some z=>K (.l z)
   |none=>none) k
  |_,_,_=>none
 | .index t x y=>match iJ TI t,dV s x,dV s y with
  |some ⟨.str,_,_⟩, .l (.str z), .l (.int _ q)=>bd (aY (bR z) q) λc=>K (.l (.int .u8 c))
  |_,_,_=>none
 | .slice t x lo hi none=>match iJ TI t,dV s x with
  |some ⟨.str,_,_⟩, .l (.str z)=>match lo,hi with
   |none,some h=>match vF (dV s h) with
    |some n=>gd (vD z 0 n) (K (.l (.str (z.extract 0 n.toNat))))
    |none=>none
   |some l,none=>match vF (dV s l) with
    |some m=>gd (vD z m z.size) (K (.l (.str (z.extract m.toNat z.size))))
    |none=>none
   |some l,some h=>match vF (dV s l),vF (dV s h) with
    |some m,some n=>gd (vD z m n) (K (.l (.str (z.extract m.toNat n.toNat))))
    |_,_=>none
   |none,none=>none
  |some ⟨.sl e ek _,_,_⟩, .l p=>match rC s.m p with
   |some (.sl τ l)=>bif Gu (U:=U) e ek τ then(match lo,hi with
    |none,none=>match aOw (λ_ l=>l) s.m.o p with
     |some p'=>K (.l p')
     |none=>none
    |none,some h=>match vF (dV s h),aOw (λ_ l=>l.take (match vF (dV s h) with|some n=>n.toNat|none=>0)) s.m.o p with
     |some n,some p'=>gd (iD l n) (K (.l p'))
     |_,_=>none
    |some b,none=>match vF (dV s b),aOw (λ_ l=>l.drop (match vF (dV s b) with|some n=>n.toNat|none=>0)) s.m.o p with
     |some n,some p'=>gd (iD l n) (K (.l p'))
     |_,_=>none
    |some b,some h=>match vF (dV s b),vF (dV s h),aOw (λ_ l=>(l.take (match vF (dV s h) with|some n=>n.toNat|none=>0)).drop (match vF (dV s b) with|some n=>n.toNat|none=>0)) s.m.o p with
     |some n,some m,some p'=>gd (0<=n/\n<=m/\iD l m) (K (.l p'))
     |_,_,_=>none) else none
   |_=>none
  |_,_=>none
 | .convert ta tb x=>match iJ TI ta,iJ TI tb,dV s x with
  |some ⟨.sl e _ _,_,_⟩,some ⟨.str,_,_⟩, .l p=>match rC s.m p,iJ TI e with
   |some (.sl τ l),some ⟨.int .u8,_,_⟩=>match slq Y.bt τ l with
    |some l=>bif Nat.beq e τ then gd (l.length<=68719476736) (K (.l (.str (bC4 (l.map Y.bi))))) else none
    |none=>none
   |_,_=>none
  |_,_,_=>match pur Y TI s (.convert ta tb x) with
   |some x=>K x
   |none=>none
 |op=>match pur Y TI s op with
  |some x=>K x
  |none=>none
end
end Go.EV
namespace Go.EV
open Go.RowKit Go.VK
noncomputable section
variable {U:Uni} (Y:Lay U) (TI:List (Nat×TInfo)) (FZ:List (Nat×Sum U)) {α:Type}
def put (s:St U)(d:Option Nat)(x:Sv U):St U:=match d with
 |some n=>⟨upd s.t n x,s.m,s.fr⟩
 |none=>s
def psh (s:St U)(b:Ob U):St U:=⟨s.t,⟨s.m.o++[⟨b,s.m.k,s.m.k⟩],s.m.k,s.m.ns⟩,s.fr⟩
def trn (s:St U)(i:Nat)(b:Ob U)(rv:Nat):St U:=⟨s.t,⟨upd s.m.o i ⟨b,rv,Nat.succ s.m.k⟩,Nat.succ s.m.k,s.m.ns⟩,s.fr⟩
def Si (k:Nat)(ids:List Nat)(o:List (EO U)):List (EO U):=List.rec (motive:=λ_=>List (EO U)) o (λi _ ih=>upd ih i ⟨.dead,k,k⟩) ids
def Gv (i:Nat)(l:List Nat):Bool:=List.rec (motive:=λ_=>Bool) false (λx _ ih=>cond (Nat.beq x i) true ih) l
def dist (l:List Nat):Bool:=List.rec (motive:=λ_=>Bool) true (λx xs ih=>cond (Gv x xs) false ih) l
def aVg (m:Mm U)(kd:Kd):Lf U->Option (Lf U×List Nat×Bool)
 | .nil=>match kd with| .sl τ=>some (.sl τ [],[],true)|_=>none
 | .sl τ l=>some (.sl τ l,[],false)
 | .own i r=>match nth m.o i with
  |some ⟨.tree τ d l,rv,_⟩=>bif Nat.beq rv r then some (.sl τ l,[i],d) else none
  |_=>none
 | .bor .. =>none
 | .inn .. =>none
 | .suf i c τ q l=>match nth m.o i with
  |some ⟨.tree _ _ _,_,cv⟩=>bif Nat.beq cv c then some (.sl τ (l.drop q.toNat),[i],false) else none
  |_=>none
 |x=>match rC m x with
  |some y=>some (y,[],true)
  |none=>none
def aCi (m:Mm U):List Kd->List (Lf U)->Option (List (Lf U)×List Nat×Bool)
 |[],[]=>some ([],[],true)
 |kd::ks,x::xs=>match aVg m kd x with
  |some (y,i,d)=>match aCi m ks xs with
   |some (ys,is,ds)=>some (y::ys,i++is,d&&ds)
   |none=>none
  |none=>none
 |_,_=>none
def bJ4 (s:St U)(e:Nat)(x:Sv U):Option (U.El e×List Nat×Bool):=match parts x with
 |some cs=>match aCi s.m (Y.kd e) cs with
  |some (ds,ids,d)=>match Y.C.bld e ds with
   |some z=>some (z,ids,d)
   |none=>none
  |none=>none
 |none=>none
def Nb (s:St U)(e:Nat):Nat->List (Nat×Operand)->Option (List (U.El e)×List Nat×Bool)
 |_,[]=>some ([],[],true)
 |n,(i,x)::ps=>bif Nat.beq i n then(match bJ4 Y s e (dV s x) with
  |some (z,ids,d)=>match Nb s e (Nat.succ n) ps with
   |some (zs,js,ds)=>some (z::zs,ids++js,d&&ds)
   |none=>none
  |none=>none) else none
def Kd.aDI:Kd->Bool
 | .sl _=>true
 |_=>false
def aJw (l:List Kd):Bool:=List.rec (motive:=λ_=>Bool) false (λx _ ih=>cond x.aDI true ih) l
def aJx (τ:Nat):Bool:=cond (aJw (Y.kd τ)) false true
def flatK:Kd->Bool
 | .sl _=>false
 | .st T=>aJx Y T
 |_=>true
def xB (l:List Kd):Bool:=List.rec (motive:=λ_=>Bool) true (λx _ ih=>cond (flatK Y x) ih false) l
def nM:Lf U->Bool
 | .own .. =>false
 | .bor .. =>false
 | .inn .. =>false
 |_=>true
def Gw:List (Lf U)->Bool
 |[]=>true
 |x::xs=>nM x&&Gw xs
def aJy:Sv U->Bool
 | .l x=>nM x
 | .a cs=>Gw cs
 | .t _=>false
def lI:List (Sv U)->Bool
 |[]=>true
 |x::xs=>aJy x&&lI xs
def lsV:Sv U->List (Lf U)
 | .l x=>[x]
 | .a cs=>cs
 | .t _=>[]
def bF5:List (Lf U)->Option Nat
 |[]=>none
 | .own i _::_=>some i
 |_::xs=>bF5 xs
def bA7:List (Sv U)->Option Nat
 |[]=>none
 |x::xs=>match bF5 (lsV x) with
  |some i=>some i
  |none=>bA7 xs
def aJz (i:Nat):List (Lf U)->Bool
 |[]=>true
 | .own j _::xs=>Nat.beq i j&&aJz i xs
 |x::xs=>nM x&&aJz i xs
def aVh (i:Nat):List (Sv U)->Bool
 |[]=>true
 |x::xs=>aJz i (lsV x)&&aVh i xs
def aVi (m:Mm U)(xs:List (Sv U)):Option (Nat×Nat):=match bA7 xs with
 |some i=>bif aVh i xs then(match nth m.o i with
  |some e=>some (i,e.cv)
  |none=>none) else none
 |none=>none
def aOy (i c:Nat):List (Lf U)->List (Lf U)
 |[]=>[]
 | .sl τ l::xs=> .bor i c τ l::aOy i c xs
 |x::xs=>x::aOy i c xs
def Iy (i c:Nat):List (Bool×List (Lf U))->List (Bool×List (Lf U))
 |[]=>[]
 |(b,cs)::xs=>(b,aOy i c cs)::Iy i c xs
def aJ0:Operand->Operand->Bool
 | .tmp i, .tmp j=>Nat.beq i j
 | .const (.int k m), .const (.int k' n)=>decide (k=k')&&decide (m=n)
 |_,_=>false
def rE (k:Nat):Nat->List (Lf U)->List (Lf U)×List (EO U)
 |_,[]=>([],[])
 |n, .sl τ l::xs=>let r:=rE k (Nat.succ n) xs
  (.own n k::r.1,⟨.tree τ true l,k,k⟩::r.2)
 |n,x::xs=>let r:=rE k n xs
  (x::r.1,r.2)
def jK (k:Nat):Nat->List (Bool×List (Lf U))->List (Bool×List (Lf U))×List (EO U)
 |_,[]=>([],[])
 |n,(b,cs)::xs=>let r:=rE k n cs
  let q:=jK k (n+len r.2) xs
  ((b,r.1)::q.1,r.2++q.2)
def apD (s:St U)(e:Nat):Lf U->Option (Nat×Bool×List (U.El e)×St U)
 | .nil=>some (len s.m.o,true,[],psh s (.tree e true []))
 | .own i r=>match nth s.m.o i with
  |some ⟨.tree τ d l,rv,_⟩=>bif Nat.beq rv r then(match slq e τ l with
   |some l=>some (i,d,l,s)
   |none=>none) else none
  |_=>none
 |_=>none
def aF1 (i:Nat):Lf U->Bool
 | .own j _=>cond (Nat.beq i j) false true
 | .bor j _ _ _=>cond (Nat.beq i j) false true
 | .inn j _ _ _ _ _ _ _=>cond (Nat.beq i j) false true
 |_=>true
def apS (m:Mm U)(e i:Nat)(py:Lf U):Option (List (U.El e)×List Nat×Bool):=match py with
 | .nil=>some ([],[],true)
 |py=>bif aJx Y e then(match rC m py with
   |some (.sl τ l)=>match slq e τ l with
    |some l=>bif aF1 i py then some (l,[],true) else none
    |none=>none
   |_=>none) else(match py with
   | .sl τ l=>match slq e τ l with
    |some l=>some (l,[],false)
    |none=>none
   | .own j r=>match nth m.o j with
    |some ⟨.tree τ d l,rv,_⟩=>bif Nat.beq rv r&&aF1 i py then(match slq e τ l with
     |some l=>some (l,[j],d)
     |none=>none) else none
    |_=>none
   |_=>none)
def aJ1:List Kd->Bool
 |[]=>true
 | .sl τ::ks=>Nat.ble 1 (U.K τ)&&aJ1 ks
 |_::ks=>aJ1 ks
def wr1 (m:Mm U):Lf U->Lf U->Option (List (Nat×EO U))
 | .own i r,y=>match nth m.o i,y with
  |some ⟨.tree τ' d _,rv,_⟩, .sl τ l=>bif d&&(Nat.beq rv r&&Nat.beq τ' τ) then some [(i,⟨.tree τ true l,rv,Nat.succ m.k⟩)] else none
  |_,_=>none
 | .inn i c τ q z j τ' _,y=>match nth m.o i,y with
  |some ⟨.tree τ1 d L,rv,cv⟩, .sl τ'' l=>bif d&&(Nat.beq cv c&&Nat.beq τ'' τ') then(match slq τ τ1 L with
   |some L=>match Y.C.bld τ (upd (Y.C.cel τ z) j (.sl τ'' l)) with
    |some z'=>some [(i,⟨.tree τ true (L.set q.toNat z'),rv,Nat.succ m.k⟩)]
    |none=>none
   |none=>none) else none
  |_,_=>none
 | .sl ..,_=>none
 | .bor ..,_=>none
 |_,_=>some []
def wrm (m:Mm U):List (Lf U)->List (Lf U)->Option (List (Nat×EO U))
 |[],[]=>some []
 |x::xs,y::ys=>match wr1 Y m x y with
  |some u=>match wrm m xs ys with
   |some us=>some (u++us)
   |none=>none
  |none=>none
 |_,_=>none
def bR7 (l:List (Nat×EO U))(o:List (EO U)):List (EO U):=List.rec (motive:=λ_=>List (EO U)) o (λx _ ih=>upd ih x.1 x.2) l
def bR8 (l:List (Nat×EO U)):List Nat:=List.rec (motive:=λ_=>List Nat) [] (λx _ ih=>x.1::ih) l
def hdT (T:Nat):List Kd->Bool
 | .st T'::_=>Nat.beq T' T
 |_=>false
def bJ5 (s:St U)(S:Sum U)(xs:List (Sv U))(K:Sv U->St U->Option α):Option α:=match xs with
 | .l (.box i off)::ys=>match nth s.m.o i with
  |some ⟨.box T cs us,rv,_⟩=>match lQ Y s.m S.ar (.a cs::ys) with
   |some a=>bif Nat.beq off 0&&(hdT T S.ar&&(Gw cs&&lI ys)) then bd (S.m a) λr=>match bY Y S.rs r with
    |(true,ds)::rs=>bif Nat.beq (len ds) (len cs) then K (vE rs) (trn s i (.box T ds (us.map λ_=>Nat.succ s.m.k)) rv) else none
    |_=>none
    else none
   |none=>none
  |_=>none
 |_=>none
def Cx {β:Type}(x:Option β):Bool:=match x with
 |some _=>false
 |none=>true
def aYj (l:List Nat):Bool:=match l with
 |[]=>true
 |_=>false
def stp (s:St U)(op:Op)(K:Sv U->St U->Option α):Option α:=match op with
 | .box T x=>match parts (uA s x) with
  |some cs=>bif Cq cs then K (.l (.box (len s.m.o) 0)) (psh s (.box T cs (cs.map λ_=>s.m.k))) else none
  |none=>none
 | .alloc T=>match iJ TI T with
  |some i=>K (.l (.box (len s.m.o) 0)) (psh s (.box T (i.z.map Kz.lf) (i.z.map λ_=>s.m.k)))
  |none=>none
 | .store t x y=>match iJ TI t,dV s x,parts (uA s y) with
  |some i, .l (.box b off),some ps=>match nth s.m.o b with
   |some ⟨.box T cs us,rv,_⟩=>bif Nat.beq (len ps) i.k&&(Nat.ble (off+i.k) (len cs)&&Cq ps) then K (.l .any) (trn s b (.box T (K5 cs off ps) (K5 us off (ps.map λ_=>Nat.succ s.m.k))) rv) else none
   |_=>none
  |some i, .l (.oel b c τ q z off),some ps=>bif okv s.m b c then(match nth s.m.o b with
   |some ⟨.tree τ' d l,rv,_⟩=>match slq τ τ' l with
    |some l=>match aCi s.m (tk (drp (Y.kd τ) off) i.k) ps with
     |some (ds,ids,d')=>bif Nat.beq (len ps) i.k&&(Nat.ble (off+i.k) (U.K τ)&&(Cq ps&&dist (b::ids))) then(match Y.C.bld τ (K5 (Y.C.cel τ z) off ds) with
      |some z'=>let s':=trn s b (.tree τ (d&&d') (l.set q.toNat z')) rv
       K (.l .any) ⟨s'.t,⟨Si s'.m.k ids s'.m.o,s'.m.k,s'.m.ns⟩,s'.fr⟩
      |none=>none) else none
     |none=>none
    |none=>none
   |_=>none) else none
  |some i, .l (.oin b c τ q z j τ' l q' z' off),some ps=>bif okv s.m b c then(match nth s.m.o b with
   |some ⟨.tree τ1 d L,rv,_⟩=>match slq τ τ1 L with
    |some L=>match aCi s.m (tk (drp (Y.kd τ') off) i.k) ps with
     |some (ds,ids,d')=>bif Nat.beq (len ps) i.k&&(Nat.ble (off+i.k) (U.K τ')&&(Cq ps&&dist (b::ids))) then(match Y.C.bld τ' (K5 (Y.C.cel τ' z') off ds) with
      |some z2=>match Y.C.bld τ (upd (Y.C.cel τ z) j (.sl τ' (l.set q'.toNat z2))) with
       |some z3=>let s':=trn s b (.tree τ (d&&d') (L.set q.toNat z3)) rv
        K (.l .any) ⟨s'.t,⟨Si s'.m.k ids s'.m.o,s'.m.k,s'.m.ns⟩,s'.fr⟩
       |none=>none
      |none=>none) else none
     |none=>none
    |none=>none
   |_=>none) else none
  |_,_,_=>none
 | .buildSlice t n ps=>match iJ TI t with
  |some ⟨.sl e ek _,_,_⟩=>bif Nat.beq (len ps.toList) n&&(Nat.ble (n*ek) 16777216&&Gu (U:=U) e ek e) then(match Nb Y s e 0 ps.toList with
   |some (l,ids,d)=>bif !Cx (iJ FZ 3000000)&&(!Nat.beq n 0&&aYj ids) then K (.l (.sl e l)) s else bif dist (len s.m.o::ids) then(let s':=trn (psh s .dead) (len s.m.o) (.tree e d l) s.m.k
    K (.l (.own (len s.m.o) s.m.k)) ⟨s'.t,⟨Si s'.m.k ids s'.m.o,s'.m.k,s'.m.ns⟩,s'.fr⟩) else none
   |none=>none) else none
  |_=>none
 | .makeSlice t x y=>match iJ TI t with
  |some ⟨.sl e ek eb,_,_⟩=>match iJ TI e,dV s x with
   |some i, .l (.int .i64 n)=>bif aJ0 x y&&(Nat.ble eb 2048&&Gu (U:=U) e ek e) then(match rds s.m (Y.kd e) (i.z.map Kz.lf) with
    |some ds=>match Y.C.bld e ds with
     |some z=>gd (bNq n) (K (.l (.own (len s.m.o) s.m.k)) (psh s (.tree e true (List.replicate n.toNat z))))
     |none=>none
    |none=>none) else none
   |_,_=>none
  |_=>none
 | .call ⟨.builtin .append,xa,ats⟩=>match xa.toList,ats.toList with
  |[x,y],[t,t2]=>match iJ TI t with
   |some ⟨.sl e ek eb,_,_⟩=>bif Nat.beq t t2&&(Nat.ble eb 2048&&Gu (U:=U) e ek e) then(match dV s x,dV s y with
    | .l (.suf i c τ n l), .l py=>bif okv s.m i c then(match slq e τ l with
     |some l=>match apS Y s.m e i py with
      |some (l',[],_)=>bif Nat.ble 1 (len l') then gd (aV l l') (K (.l (.bor i (Nat.succ s.m.k) e (l.drop n.toNat++l'))) (trn s i .dead (Nat.succ s.m.k))) else none
      |_=>none
     |none=>none) else none
    | .l px, .l py=>match apD s e px with
     |some (i,d,l,s1)=>match apS Y s1.m e i py with
      |some (l',ids,d')=>gd (aV l l') (
       let s2:=trn s1 i (.tree e (d&&d') (l++l')) (Nat.succ s1.m.k)
       K (.l (.own i (Nat.succ s1.m.k))) ⟨s2.t,⟨Si s2.m.k ids s2.m.o,s2.m.k,s2.m.ns⟩,s2.fr⟩)
      |none=>none
     |none=>none
    |_,_=>none) else none
   |_=>none
  |_,_=>none
 | .call ⟨.value (.func f),xa,_⟩=>match iJ FZ f with
  |some S=>bif S.wt&&S.fr then bJ5 Y s S (xa.toList.map (dV s)) K else(let xs:=xa.toList.map (dV s)
   match lQ Y s.m S.ar xs with
   |some a=>bif S.wt then none
    else bif S.fr then bd (S.m a) λr=>
     let q:=jK s.m.k (len s.m.o) (bY Y S.rs r)
     K (vE q.1) ⟨s.t,⟨s.m.o++q.2,s.m.k,s.m.ns⟩,s.fr⟩
    else bif xB Y S.rs||lI xs then bd (S.m a) λr=>K (vE (bY Y S.rs r)) s
    else match aVi s.m xs with
     |some (i,c)=>bd (S.m a) λr=>K (vE (Iy i c (bY Y S.rs r))) s
     |none=>none
   |none=>none)
  |none=>none
 | .binOp .add _ x y _=>match uA s x,y with
  | .l (.nat a), .const (.int .i64 n)=>bif decide (n=1) then(match nth s.m.ns a with
    |some (i,f)=>bif f then K (.l (.nat (len s.m.ns))) ⟨s.t,⟨s.m.o,s.m.k,s.m.ns++[(Nat.succ i,false)]⟩,s.fr⟩ else Td Y TI s op (λx=>K x s)
    |none=>none) else Td Y TI s op (λx=>K x s)
  |_,_=>Td Y TI s op (λx=>K x s)
 | .convert ta tb x=>match iJ FZ (tb+1000000) with
  |some _=>match iJ TI ta,iJ TI tb,iJ TI Y.bt,dV s x with
   |some ⟨.str,_,_⟩,some ⟨.sl e _ _,_,_⟩,some ⟨.int .u8,_,_⟩, .l (.str z)=>bif Nat.beq e Y.bt then K (.l (.sl Y.bt ((bR z).map Y.be))) s else none
   |_,_,_,_=>Td Y TI s op (λx=>K x s)
  |none=>Td Y TI s op (λx=>K x s)
 | .slice t x none none none=>Td Y TI s op (λx=>K x s)
 | .slice t x (some b) none none=>match iJ FZ 2000000 with
  |some _=>match iJ TI t,dV s x,vF (dV s b) with
   |some ⟨.sl e ek _,_,_⟩, .l (.own i r),some n=>match nth s.m.o i with
    |some ⟨.tree τ _ l,rv,cv⟩=>bif Nat.beq rv r&&Gu (U:=U) e ek τ then gd (iD l n) (K (.l (.suf i cv τ n l)) s) else none
    |_=>none
   |_,_,_=>Td Y TI s op (λx=>K x s)
  |none=>Td Y TI s op (λx=>K x s)
 |op=>Td Y TI s op (λx=>K x s)
def one (o:Oper)(s:St U)(K:St U->Option α):Option α:=stp Y TI FZ s o.op λx s'=>K (put s' o.dst x)
def tst (n:Nat)(s:St U)(T F:St U->Option α):Option α:=match nth s.t n with
 |some (.l (.bool b))=>bif b then T (put s (some n) (.l (.bool true))) else F (put s (some n) (.l (.bool false)))
 |some (.l (.lt a m))=>match nth s.m.ns a with
  |some (i,_)=>bif decide ((i:Int)<m) then T (put ⟨s.t,⟨s.m.o,s.m.k,upd s.m.ns a (i,true)⟩,s.fr⟩ (some n) (.l (.bool true))) else F (put s (some n) (.l (.bool false)))
  |none=>none
 |_=>none
def skp (o:Oper)(s:St U)(K:St U->Option α):Option α:=K (put s o.dst (.l .und))
def bL7:Option (Sv U)->Bool
 |some (.l .und)=>true
 |_=>false
def aOz (al:List Oper)(o:Oper)(run:St U->Option α)(s:St U)(K:St U->Option α):Option α:=match o.guard with
 |none=>run s
 |some (j,want)=>match nth al j with
  |some oj=>match oj.dst with
   |some n=>bif bL7 (nth s.t n) then skp o s K else
    tst n s (λs=>bif want then run s else skp o s K) (λs=>bif want then skp o s K else run s)
   |none=>none
  |none=>none
def grd (al:List Oper)(o:Oper)(s:St U)(K:St U->Option α):Option α:=aOz al o (λs=>one Y TI FZ o s K) s K
def ops (al:List Oper):List Oper->St U->(St U->Option α)->Option α
 |[],s,K=>K s
 |o::l,s,K=>grd Y TI FZ al o s λs=>ops al l s K
def vG:Op->Nat
 | .box .. | .alloc _| .makeSlice .. =>1
 | .buildSlice .. =>1
 | .call ⟨.value (.func f),_,_⟩=>match iJ FZ f with
  |some S=>bif S.wt then 2 else 1
  |none=>1
 | .call ⟨.value _,_,_⟩=>1
 | .store .. =>2
 | .call ⟨.builtin .append,_,_⟩=>2
 | .convert _ b _=>match iJ FZ (b+1000000) with
  |some _=>1
  |none=>0
 |_=>0
inductive Lo where
 |s (n:Nat)
 |c (b j:Nat)
inductive DI where
 |dat (l:Lo) (kd:Kd)
 |nat (l:Lo)
 |tr (l:Lo) (i τ:Nat) (d:Bool)
 |nt (l:Lo) (τ:Nat) (d:Bool)
 |ti (i τ:Nat) (d:Bool)
structure Tm where
 ws:List (Nat×Nat)
 it:List DI
 an:List (Nat×Nat)
 dd:List Nat
def DI.ty (U:Uni):DI->Type
 | .dat _ kd=>kd.ty U
 | .nat _=>Nat
 | .tr _ _ τ _=>List (U.El τ)
 | .nt _ τ _=>List (U.El τ)
 | .ti _ τ _=>List (U.El τ)
def Dat (U:Uni):List DI->Type
 |[]=>Unit
 |[k]=>k.ty U
 |k::k'::ks=>k.ty U×Dat U (k'::ks)
def lkp (s:St U):Lo->Option (Sv U)
 | .s n=>nth s.t n
 | .c b j=>match nth s.m.o b with
  |some ⟨.box _ cs _,_,_⟩=>match nth cs j with
   |some x=>some (.l x)
   |none=>none
  |_=>none
def bNv (m:Mm U)(i τ:Nat)(d:Bool):Option (List (U.El τ)):=match nth m.o i with
 |some ⟨.tree τ' d' l,rv,_⟩=>bif Nat.beq rv 0&&(d'|| !d) then slq τ τ' l else none
 |_=>none
def uT (m:Mm U)(τ:Nat)(d:Bool):Sv U->Option (Option Nat×List (U.El τ))
 | .l .nil=>bif Nat.ble 1 (U.K τ) then some (none,[]) else none
 | .l (.own i r)=>match nth m.o i with
  |some ⟨.tree τ' d' l,rv,_⟩=>bif Nat.beq rv r&&(d'|| !d) then(match slq τ τ' l with
   |some l=>some (some i,l)
   |none=>none) else none
  |_=>none
 |_=>none
def bF6 (m:Mm U):Sv U->Option Nat
 | .l (.nat a)=>match nth m.ns a with
  |some (i,_)=>some i
  |none=>none
 | .l (.int .i64 n)=>bif decide (n=0) then some 0 else none
 |_=>none
def aS9 (s:St U):(x:DI)->Option (x.ty U)
 | .ti i τ d=>bNv s.m i τ d
 | .dat l kd=>match lkp s l with
  |some v=>bif aJy v then Na Y s.m kd v else none
  |none=>none
 | .nat l=>match lkp s l with
  |some v=>bF6 s.m v
  |none=>none
 | .tr l _ τ d=>match lkp s l with
  |some v=>match uT s.m τ d v with
   |some q=>some q.2
   |none=>none
  |none=>none
 | .nt l τ d=>match lkp s l with
  |some v=>match uT s.m τ d v with
   |some q=>some q.2
   |none=>none
  |none=>none
def gets (s:St U):(xs:List DI)->Option (Dat U xs)
 |[]=>some ()
 |[x]=>aS9 Y s x
 |x::x'::xs=>match aS9 Y s x with
  |some a=>match gets s (x'::xs) with
   |some b=>some (a,b)
   |none=>none
  |none=>none
def M3 (s:St U):List DI->Option (List (Option Nat×Option Nat))
 |[]=>some []
 | .ti i _ _::xs=>match M3 s xs with
  |some r=>some ((some i,some i)::r)
  |none=>none
 | .tr l i τ d::xs=>match lkp s l with
  |some v=>match uT s.m τ d v with
   |some q=>match M3 s xs with
    |some r=>some ((some i,q.1)::r)
    |none=>none
   |none=>none
  |none=>none
 | .nt l τ d::xs=>match lkp s l with
  |some v=>match uT s.m τ d v with
   |some q=>match M3 s xs with
    |some r=>some ((none,q.1)::r)
    |none=>none
   |none=>none
  |none=>none
 |_::xs=>M3 s xs
def zS (l:List (Option Nat×Option Nat)):List Nat:=List.rec (motive:=λ_=>List Nat) [] (λx _ ih=>match x.2 with|some i=>i::ih|none=>ih) l
def aCj:List DI->List (Nat×Nat)
 |[]=>[]
 | .dat (.c b j) _::xs=>(b,j)::aCj xs
 | .nat (.c b j)::xs=>(b,j)::aCj xs
 | .tr (.c b j) _ _ _::xs=>(b,j)::aCj xs
 | .nt (.c b j) _ _::xs=>(b,j)::aCj xs
 |_::xs=>aCj xs
def aJ3 (b j:Nat)(l:List (Nat×Nat)):Bool:=List.rec (motive:=λ_=>Bool) false (λx _ ih=>cond (Nat.beq x.1 b&&Nat.beq x.2 j) true ih) l
def hasB (b:Nat)(l:List (Nat×Nat)):Bool:=List.rec (motive:=λ_=>Bool) false (λx _ ih=>cond (Nat.beq x.1 b) true ih) l
def bJ6 (cs:List (Nat×Nat))(k b:Nat):Nat->List Nat->Bool
 |_,[]=>true
 |j,v::vs=>(Nat.ble v k||aJ3 b j cs)&&bJ6 cs k b (Nat.succ j) vs
def aYk (cs:List (Nat×Nat))(dd:List Nat)(k:Nat):Nat->List (EO U)->List (EO U)->Bool
 |_,[],_=>true
 |i,_::es,e'::es'=>(Nat.ble e'.cv k||(Gv i dd||(match e'.ob with| .box _ _ vs=>hasB i cs&&bJ6 cs k i 0 vs|_=>false)))&&aYk cs dd k (Nat.succ i) es es'
 |_,_,[]=>false
def bC5 (N:Nat)(dd:List Nat):List Nat->Bool
 |[]=>true
 |i::is=>(Nat.ble N i||Gv i dd)&&bC5 N dd is
def bC6 (N:Nat):List Nat->Bool
 |[]=>true
 |i::is=>Nat.ble (Nat.succ i) N&&bC6 N is
def gQ:List DI->List Nat
 |[]=>[]
 | .tr _ i _ _::xs=>i::gQ xs
 | .ti i _ _::xs=>i::gQ xs
 |_::xs=>gQ xs
def Tm.dead (tm:Tm):List Nat:=gQ tm.it++tm.dd
def Tm.aBX (tm:Tm):List (Nat×Nat):=aCj tm.it++tm.an
def Gp:List (Nat×Nat)->Nat->Nat->Bool
 |[],_,_=>false
 |(a,b)::r,p,n=>(Nat.ble (p+a) n&&Nat.ble (Nat.succ n) (p+a+b))||Gp r (p+a+b) n
def slI (ws:List (Nat×Nat)):List DI->Bool
 |[]=>true
 | .dat (.s n) _::xs=>Gp ws 0 n&&slI ws xs
 | .nat (.s n)::xs=>Gp ws 0 n&&slI ws xs
 | .tr (.s n) _ _ _::xs=>Gp ws 0 n&&slI ws xs
 | .nt (.s n) _ _::xs=>Gp ws 0 n&&slI ws xs
 |_::xs=>slI ws xs
def col (b:St U)(tm:Tm)(s:St U):Option (Dat U tm.it):=match M3 s tm.it with
 |some q=>bif slI tm.ws tm.it&&(aYk tm.aBX tm.dead b.m.k 0 b.m.o s.m.o&&(bC5 (len b.m.o) tm.dead (zS q)&&(dist (zS q)&&(dist (gQ tm.it)&&bC6 (len b.m.o) (gQ tm.it))))) then gets Y s tm.it else none
 |none=>none
def aVj (n:Nat)(K:List (Sv U)->List (Sv U)):List (Sv U)->List (Sv U):=Nat.rec (motive:=λ_=>List (Sv U)->List (Sv U)) K (λ_ ih l=>match l with|[]=>[]|_::t=>Sv.l .any::ih t) n
def aYm (n:Nat)(K:List (Sv U)->List (Sv U)):List (Sv U)->List (Sv U):=Nat.rec (motive:=λ_=>List (Sv U)->List (Sv U)) K (λ_ ih l=>match l with|[]=>[]|x::t=>x::ih t) n
def wip:List (Nat×Nat)->List (Sv U)->List (Sv U)
 |[],l=>l
 |(a,b)::r,l=>aYm a (aVj b (wip r)) l
def wrG (ws:List (Nat×Nat))(al:List Oper)(l:List Oper):Bool:=List.rec (motive:=λ_=>Bool) true (λo _ ih=>cond ((match o.dst with|some n=>Gp ws 0 n|none=>true)&&(match o.guard with|some (j,_)=>(match nth al j with|some oj=>(match oj.dst with|some n=>Gp ws 0 n|none=>true)|none=>true)|none=>true)) ih false) l
def wr (ws:List (Nat×Nat)):Nat->Code->Bool
 |0,_=>false
 |f+1, .seq a b=>wr ws f a&&wr ws f b
 |f+1, .cond (.tmp n) a b=>Gp ws 0 n&&(wr ws f a&&wr ws f b)
 |f+1, .block _ c=>wr ws f c
 |f+1, .loop c=>wr ws f c
 |_+1, .region _ os _=>wrG ws os.toList os.toList
 |_+1, .skip=>true
 |_+1, .ret=>true
 |_+1, .exit _=>true
 |_+1,_=>false
def aBI (s:St U)(x:Sv U):Lo->St U
 | .s n=>put s (some n) x
 | .c b j=>match nth s.m.o b,x with
  |some ⟨.box T cs vs,rv,_⟩, .l y=>trn s b (.box T (upd cs j y) (upd vs j (Nat.succ s.m.k))) rv
  |_,_=>s
def set1 (k n:Nat)(s:St U):(x:DI)->x.ty U->St U
 | .dat l kd,d=>aBI s (aYh (M0 Y kd d)) l
 | .nat l,i=>aBI ⟨s.t,⟨s.m.o,s.m.k,s.m.ns++[(⟨i,false⟩:Nat×Bool)]⟩,s.fr⟩ (.l (.nat (len s.m.ns))) l
 | .tr l i _ _,_=>aBI s (.l (.own i k)) l
 | .nt l _ _,_=>aBI s (.l (.own n k)) l
 | .ti _ _ _,_=>s
def nxt (n:Nat):DI->Nat
 | .nt .. =>Nat.succ n
 |_=>n
def sets (k n:Nat)(s:St U):(xs:List DI)->Dat U xs->St U
 |[],_=>s
 |[x],d=>set1 Y k n s x d
 |x::x'::xs,d=>sets k (nxt n x) (set1 Y k n s x d.1) (x'::xs) d.2
def aJ4 (k:Nat):(x:DI)->x.ty U->List (EO U)->List (EO U)
 | .tr _ i τ b,d,o=>upd o i ⟨.tree τ b d,k,k⟩
 | .nt _ τ b,d,o=>o++[⟨.tree τ b d,k,k⟩]
 | .ti i τ b,d,o=>upd o i ⟨.tree τ b d,0,k⟩
 |_,_,o=>o
def aGv (k:Nat):(xs:List DI)->Dat U xs->List (EO U)->List (EO U)
 |[],_,o=>o
 |[x],d,o=>aJ4 k x d o
 |x::x'::xs,d,o=>aGv k (x'::xs) d.2 (aJ4 k x d.1 o)
def Kk (k:Nat)(l:List (Nat×Nat))(o:List (EO U)):List (EO U):=List.rec (motive:=λ_=>List (EO U)) o (λx _ ih=>match nth ih x.1 with|some ⟨.box T cs vs,_,_⟩=>upd ih x.1 ⟨.box T (upd cs x.2 .any) (upd vs x.2 k),k,k⟩|_=>ih) l
def reb (b:St U)(tm:Tm)(d:Dat U tm.it):St U:=
 let k:=Nat.succ b.m.k
 sets Y k (len b.m.o) ⟨wip tm.ws b.t,⟨aGv k tm.it d (Kk k tm.aBX (Si k tm.dead b.m.o)),k,b.m.ns⟩,b.fr⟩ tm.it d
inductive An where
 |n
 |s (a b:An)
 |j (t:Tm) (a:An)
 |jx (t:Tm) (a:An)
 |l (t:Tm) (f:Nat) (a:An)
 |r (a0:Option Nat) (ord:List (Nat×Bool))
 |rj (k:Nat) (t:Tm) (a:An)
 |z (ord:List Nat)
 |y (kb:Bool) (f a0:Option Nat) (ord:List (Nat×Bool))
 |il (i:Nat) (a r:An)
 |w (bs:List Nat) (ord:List (Nat×Bool))
 |v (bs:List Nat) (ord:List (Nat×Bool))
 |u (a0:Option Nat) (bs fs:List Nat) (ord:List (Nat×Bool))
 |pl (a:An)
def bJ7:List (Nat×Nat)->Nat->Nat->Nat->Bool
 |[],_,_,_=>false
 |(a,b)::r,p,lo,hi=>(Nat.ble (p+a) lo&&Nat.ble hi (p+a+b))||bJ7 r (p+a+b) lo hi
def aYn (ws:List (Nat×Nat)):List (Nat×Nat)->Nat->Bool
 |[],_=>true
 |(a,b)::r,p=>(Nat.beq b 0||bJ7 ws 0 (p+a) (p+a+b))&&aYn ws r (p+a+b)
def anW (ws:List (Nat×Nat)):An->Bool
 | .s a b=>anW ws a&&anW ws b
 | .j t a=>aYn ws t.ws 0&&anW ws a
 | .jx t a=>aYn ws t.ws 0&&anW ws a
 | .l t _ a=>aYn ws t.ws 0&&anW ws a
 | .rj _ t _=>aYn ws t.ws 0
 |_=>true
def An.a:An->An
 | .s a _=>a
 |_=> .n
def An.b:An->An
 | .s _ b=>b
 |_=> .n
def bX {β:Type}(n:Nat)(F:(β->Option α)->β->Option α):β->Option α:=Nat.rec (motive:=λ_=>β->Option α) (λ_=>none) (λ_ ih=>F ih) n
def M4 (al:List Oper):List Nat->St U->(St U->Option α)->Option α
 |[],s,K=>K s
 |i::l,s,K=>match nth al i with
  |some o=>grd Y TI FZ al o s λs=>M4 al l s K
  |none=>none
def aF2 (l:List (Nat×Bool)):Bool:=List.rec (motive:=λ_=>Bool) true (λx _ ih=>cond x.2 false ih) l
def frees (al:List Oper)(a0:Option Nat):List (Nat×Bool)->Bool
 |[]=>true
 |(i,f)::l=>match nth al i with
  |some o=>bif f then Nat.beq (vG FZ o.op) 0&&frees al a0 l else
   (bif Nat.ble (vG FZ o.op) 1 then frees al a0 l else(match a0 with|some b=>Nat.beq b i|none=>false)&&aF2 l)
  |none=>false
def bA9 (l:List (Nat×Bool)):List Nat:=List.rec (motive:=λ_=>List Nat) [] (λx _ ih=>x.1::ih) l
def aCk (al:List Oper)(os:Array Oper):An->Option (List Nat)
 | .r a0 ord=>bif aJq os a0 ord&&frees FZ al a0 ord then some (bA9 ord) else none
 | .z ord=>bif Region.noSelect os&&(Nat.beq (len ord) (len al)&&chz os ord (Array.replicate os.size false)) then some ord else none
 |_=>none
def aJ5 (al:List Oper)(l:List Nat):List Oper:=List.rec (motive:=λ_=>List Oper) [] (λi _ ih=>match nth al i with|some o=>o::ih|none=>ih) l
def aCl:Op->Bool
 | .move _=>true
 | .assign _=>true
 | .extract .. =>true
 |_=>false
def zU (a:Option Nat)(i:Nat):Bool:=match a with
 |some b=>Nat.beq b i
 |none=>false
def unt:Nat->Nat->List (EO U)->Bool
 |0,_,_=>true
 |_+1,_,[]=>true
 |n+1,k,e::o=>Nat.ble e.cv k&&unt n k o
def unO (kd:Option (Nat×Nat))(o:List (EO U)):Bool:=match kd with
 |some (n,k)=>unt n k o
 |none=>false
def zW (s:St U):Op->Bool
 | .alloc t=> !Cx (iJ TI t)
 | .buildSlice t n ps=>match iJ TI t with
  |some ⟨.sl e ek _,_,_⟩=>Nat.beq (len ps.toList) n&&(Nat.ble (n*ek) 16777216&&(Gu (U:=U) e ek e&&(match Nb Y s e 0 ps.toList with
   |some (_,[],_)=>true
   |_=>false)))
  |_=>false
 |_=>false
def aO0 (s:St U)(d:Option Nat):Bool:=match d with
 |some n=>(match nth s.t n with
  |some (.l .any)=>true
  |_=>false)
 |none=>true
def aYo (oj:Oper)(d:Option Nat):Bool:=match d with
 |none=>true
 |some n=>match oj.op with
  | .alloc _=>true
  | .buildSlice _ _ ps=>ps.toList.all λx=>match x.2 with| .tmp m=> !Nat.beq n m|_=>true
  |_=>false
def bF8 (oj:Oper)(d:Option Nat):Bool:=(match d with
 |none=>true
 |some n=>(match oj.dst with|some m=> !Nat.beq n m|none=>true))&&aYo oj d
def aF3 (al:List Oper)(f:Option Nat)(s:St U):Bool:=match f with
 |some j=>match nth al j with
  |some o=>Cx o.guard&&(aO0 s o.dst&&(aYo o o.dst&&zW Y TI s o.op))
  |none=>false
 |none=>true
def wpe (al:List Oper)(f:Option Nat)(s:St U):St U:=match f with
 |some j=>match nth al j with
  |some o=>put s o.dst (.l .any)
  |none=>s
 |none=>s
def M5 (al:List Oper)(a0:Option Nat)(kd:Option (Nat×Nat)):List (Nat×Bool)->Option Nat->Bool->Bool->St U->(St U->Option α)->Option α
 |[],_,_,_,s,K=>K s
 |(i,fl)::l,f,pre,st,s,K=>match nth al i with
  |some o=>bif fl then(bif Nat.beq (vG FZ o.op) 0&&(aCl o.op||st) then grd Y TI FZ al o s (λs'=>M5 al a0 kd l f pre st s' K) else none)
   else bif aF3 Y TI al f s then grd Y TI FZ al o s (λs'=>bif !(pre&& !zU a0 i)||(Nat.ble (vG FZ o.op) 1||unO kd s'.m.o) then M5 al a0 kd l (bif zU f i then none else f) (pre&& !zU a0 i) (st&&Cx kd) s' K else none)
   else none
  |none=>none
def tkY (os:Array Oper)(a0:Option Nat)(i:Nat)(listed:Array Bool):Bool:=Region.free .any os listed i&&(Region.ready .any os listed).contains i&&(match a0 with
 |none=>true
 |some b=>b !=i&&(bCy .any os 40 b i||(match os[i]? with|some o=>aCl o.op|none=>false)))
def a0Y (a0:Option Nat)(i:Nat)(listed:Array Bool):Bool:=a0 !=some i|| !fM a0 (listed.setIfInBounds i true)
def Nc (os:Array Oper)(a0:Option Nat):List (Nat×Bool)->Array Bool->Bool
 |[],listed=>(Region.ready .any os listed).isEmpty
 |(i,true)::r,listed=>tkY os a0 i listed&&Nc os a0 r (listed.setIfInBounds i true)
 |(i,false)::r,listed=>Region.ready .any os listed==[i]&&(a0Y a0 i listed&&Nc os a0 r (listed.setIfInBounds i true))
def aYp (os:Array Oper)(a0:Option Nat)(oj:Oper)(j:Nat):List (Nat×Bool)->Array Bool->Bool
 |[],_=>false
 |(i,fl)::r,listed=>bif Nat.beq i j then !fl&&Nc os a0 r listed else
  ((match os[i]? with|some o=>bF8 oj o.dst|none=>false)&&(bif fl then tkY os a0 i listed&&aYp os a0 oj j r (listed.setIfInBounds i true)
   else Region.ready .any os listed==[i]&&(a0Y a0 i listed&&aYp os a0 oj j r (listed.setIfInBounds i true))))
def bF9 (os:Array Oper)(a0:Option Nat)(oj:Oper)(j:Nat):List (Nat×Bool)->Array Bool->Bool
 |[],_=>false
 |(i,fl)::r,listed=>bif Nat.beq i j then !fl&&(Region.ready .any os listed==[i]&&Nc os a0 r (listed.setIfInBounds i true)) else
  bif fl then tkY os a0 i listed&&bF9 os a0 oj j r (listed.setIfInBounds i true)
  else((Region.ready .any os listed==[i]||((Region.ready .any os listed==[i,j]||Region.ready .any os listed==[j,i])&&aYp os a0 oj j ((i,fl)::r) (listed.setIfInBounds j true)))
   &&(a0Y a0 i listed&&bF9 os a0 oj j r (listed.setIfInBounds i true)))
def aJ6 (os:Array Oper)(f a0:Option Nat)(ord:List (Nat×Bool)):Bool:=Region.noSelect os&&(Nat.beq (len ord) os.size&&(match f with
 |none=>Nc os a0 ord (Array.replicate os.size false)
 |some j=>a0 !=some j&&(match os[j]? with
  |some oj=>bF9 os a0 oj j ord (Array.replicate os.size false)
  |none=>false)))
def ldW (bs:List Nat)(s:St U):Op->Bool
 | .load _ x=>match dV s x with
  | .l (.box b _)=> !Gv b bs
  |_=>false
 |_=>false
def stW (bs:List Nat)(s:St U):Op->Bool
 | .store _ x _=>match dV s x with
  | .l (.box b _)=>Gv b bs
  |_=>false
 |_=>false
def noG (o:Oper):Bool:=match o.guard with
 |none=>true
 |some _=>false
def ptW (FZ:List (Nat×Sum U))(bs:List Nat)(s:St U):Op->Bool
 | .call ⟨.value (.func f),xa,_⟩=>match iJ FZ f,xa.toList.map (dV s) with
  |some S, .l (.box b 0)::_=>S.wt&&(S.fr&&Gv b bs)
  |_,_=>false
 |_=>false
def bC7 (al:List Oper)(bs:List Nat):List (Nat×Bool)->St U->(St U->Option α)->Option α
 |[],s,K=>K s
 |(i,fl)::l,s,K=>match nth al i with
  |some o=>bif noG o&&(bif fl then ldW bs s o.op else(stW bs s o.op||aCl o.op)) then one Y TI FZ o s (λs'=>bC7 al bs l s' K) else none
  |none=>none
def erl (bs:List Nat)(s:St U):Op->Bool
 | .load _ x=>match dV s x with
  | .l (.box b _)=> !Gv b bs
  | .l (.ptr ..)=>true
  |_=>false
 | .fieldAddr .. =>true
 | .pick .. =>true
 | .indexAddr _ x y=>match dV s x,dV s y with
  | .l (.sl ..), .l (.int ..)=>true
  |_,_=>false
 | .binOp b _ x y _=>match b,uA s x,uA s y with
  | .add, .l (.int ..), .l (.int ..)=>true
  | .sub, .l (.int ..), .l (.int ..)=>true
  | .lss, .l (.int ..), .l (.int ..)=>true
  | .leq, .l (.int ..), .l (.int ..)=>true
  | .gtr, .l (.int ..), .l (.int ..)=>true
  | .geq, .l (.int ..), .l (.int ..)=>true
  | .eql, .l (.int ..), .l (.int ..)=>true
  | .neq, .l (.int ..), .l (.int ..)=>true
  |_,_,_=>false
 |op=>aCl op
def bxs (l:List Nat)(o:List (EO U)):Bool:=List.rec (motive:=λ_=>Bool) true (λb _ ih=>match nth o b with|some ⟨.box ..,_,_⟩=>ih|_=>false) l
def aJ7:Lf U->Bool
 | .int .. =>true
 | .bool _=>true
 | .str _=>true
 | .sl .. =>true
 | .nil=>true
 |_=>false
def M6 (l:List (Lf U)):Bool:=List.rec (motive:=λ_=>Bool) true (λx _ ih=>aJ7 x&&ih) l
def Xj:Sv U->Bool
 | .l x=>aJ7 x
 | .a cs=>M6 cs
 | .t _=>false
def tK (l:List (Sv U)):Bool:=List.rec (motive:=λ_=>Bool) true (λx _ ih=>Xj x&&ih) l
def flc (s:St U)(o:Oper)(K:Option α):Option α:=match o.op with
 | .call ⟨.value (.func f),xa,_⟩=>match iJ FZ f with
  |some S=>match lQ Y s.m S.ar (xa.toList.map (dV s)) with
   |some a=>bif !S.wt&&(!S.fr&&tK (xa.toList.map (uA s))) then bd (S.m a) λ_=>K else none
   |none=>none
  |none=>none
 |op=>bif zW Y TI s op then K else none
def aO1 (oj:Oper)(d:Option Nat):Bool:=match d with
 |none=>true
 |some n=>match oj.op with
  | .call ⟨.value (.func _),xa,_⟩=>xa.toList.all λx=>match x with| .tmp m=> !Nat.beq n m|_=>true
  |_=>aYo oj d
def aJ8 (oj:Oper)(d:Option Nat):Bool:=(match d with
 |none=>true
 |some n=>(match oj.dst with|some m=> !Nat.beq n m|none=>true))&&aO1 oj d
def bNw (al:List Oper)(s:St U)(fs:List Nat)(K:Option α):Option α:=List.rec (motive:=λ_=>Option α) K (λj _ ih=>match nth al j with
  |some o=>bif Cx o.guard&&(aO0 s o.dst&&aO1 o o.dst) then flc Y TI FZ s o ih else none
  |none=>none) fs
def rmv (i:Nat)(l:List Nat):List Nat:=List.rec (motive:=λ_=>List Nat) [] (λx _ ih=>bif Nat.beq x i then ih else x::ih) l
def wpl (al:List Oper)(s:St U)(fs:List Nat):St U:=List.rec (motive:=λ_=>St U) s (λj _ ih=>match nth al j with
 |some o=>put ih o.dst (.l .any)
 |none=>ih) fs
def erp (s:St U)(op:Op):Bool:=aCl op||(match op with
 | .binOp .. =>erl [] s op
 |_=>false)
def Cr (al:List Oper)(a0:Option Nat)(bs:List Nat)(kd:Option (Nat×Nat)):List (Nat×Bool)->List Nat->Bool->Bool->St U->(St U->Option α)->Option α
 |[],_,_,_,s,K=>K s
 |(i,fl)::l,fs,st,ps,s,K=>match nth al i with
  |some o=>bif fl then(bif st then aOz al o (λs1=>bif erl bs s1 o.op then one Y TI FZ o s1 (λs'=>Cr al a0 bs kd l fs st ps s' K) else none) s (λs'=>Cr al a0 bs kd l fs st ps s' K) else(bif erp s o.op&&noG o then one Y TI FZ o s (λs'=>Cr al a0 bs kd l fs st ps s' K) else none))
   else(bif noG o then bNw Y TI FZ al s fs (
    bif Nat.ble (vG FZ o.op) 1 then one Y TI FZ o s (λs'=>Cr al a0 bs kd l (rmv i fs) false (ps||zU a0 i) s' K)
    else(bif stW bs s o.op||ptW FZ bs s o.op then one Y TI FZ o s (λs'=>Cr al a0 bs kd l (rmv i fs) false (ps||zU a0 i) s' K)
    else one Y TI FZ o s (λs'=>bif unO kd s'.m.o||(zU a0 i||ps) then Cr al a0 bs kd l (rmv i fs) false (ps||zU a0 i) s' K else none))) else none)
  |none=>none
def aCm (os:Array Oper)(er:List Nat)(d:Option Nat):Bool:=er.all λj=>match os[j]? with
 |some oj=>aJ8 oj d
 |none=>false
def aGw (os:Array Oper)(a0:Option Nat):Nat->List Nat->List Nat->List (Nat×Bool)->Array Bool->Bool
 |0,_,_,_,_=>false
 |_+1,_,er,[],listed=>er.isEmpty&&(Region.ready .any os listed).isEmpty
 |n+1,pd,er,(i,true)::r,listed=>(match os[i]? with|some o=>aCm os er o.dst|none=>false)&&(tkY os a0 i listed&&aGw os a0 n pd er r (listed.setIfInBounds i true))
 |n+1,pd,er,(i,false)::r,listed=>bif Gv i er then(match os[i]? with
   |some o=>aCm os (rmv i er) o.dst&&(!zU a0 i&&aGw os a0 n pd (rmv i er) r listed)
   |none=>false) else
  ((Region.ready .any os listed).contains i&&((Region.ready .any os listed).all λj=>bif Nat.beq j i then(match os[i]? with
    |some o=>aCm os er o.dst&&(a0Y a0 i listed&&aGw os a0 n (rmv i pd) er r (listed.setIfInBounds i true))
    |none=>false)
   else(Gv j pd&&(match os[j]? with
    |some oj=>aCm os er oj.dst&&aGw os a0 n (rmv j pd) (j::er) ((i,false)::r) (listed.setIfInBounds j true)
    |none=>false))))
def rgn (al:List Oper)(os:Array Oper)(d:Bool)(an:An)(s:St U)(N:St U->Option α):Option α:=match an with
 | .rj k tm a=>bif d then(match aCk FZ al os a with
   |some l=>M4 Y TI FZ al (tk l k) s λs1=>bif wrG tm.ws al (aJ5 al (drp l k)) then bd (M4 Y TI FZ al (drp l k) s1 λs'=>col Y s1 tm s') λd=>N (reb Y s1 tm d) else none
   |none=>none) else
   ops Y TI FZ al (tk al k) s λs1=>bif wrG tm.ws al (drp al k) then bd (ops Y TI FZ al (drp al k) s1 λs'=>col Y s1 tm s') λd=>N (reb Y s1 tm d) else none
 | .y kb f a0 ord=>bif d&&aJ6 os f a0 ord then M5 Y TI FZ al a0 (bif kb then some (len s.m.o,s.m.k) else none) ord f true true (wpe al f s) N else none
 | .w _ _=>none
 | .u a0 bs fs ord=>bif d&&(Region.noSelect os&&(aGw os a0 (Nat.succ (Nat.add (len ord) (len ord))) fs [] ord (Array.replicate os.size false)&&bxs bs s.m.o)) then Cr Y TI FZ al a0 bs (some (len s.m.o,s.m.k)) ord fs true false (wpl al s fs) N else none
 | .v _ _=>none
 |an=>bif d then(match aCk FZ al os an with
   |some l=>M4 Y TI FZ al l s N
   |none=>none) else ops Y TI FZ al al s N
def bKa (s:St U):ResultVar->Option (Sv U)
 | .tmp n=>nth s.t n
 | .cell a t=>match nth s.t a,iJ TI t with
  |some (.l (.box b 0)),some i=>match nth s.m.o b with
   |some ⟨.box _ cs _,_,_⟩=>cut i cs 0
   |_=>none
  |_,_=>none
def Wd (s:St U):List ResultVar->Option (List (Sv U))
 |[]=>some []
 |r::rs=>match bKa TI s r with
  |some x=>match Wd s rs with
   |some xs=>some (x::xs)
   |none=>none
  |none=>none
abbrev Il:=List (Nat×Code×Nat×List ResultVar)
def sv2:Sv U->Option (Bool×List (Lf U))
 | .l x=>some (false,[x])
 | .a cs=>some (true,cs)
 | .t _=>none
def aYq:List (Sv U)->Option (List (Bool×List (Lf U)))
 |[]=>some []
 |x::xs=>match sv2 x with
  |some y=>match aYq xs with
   |some ys=>some (y::ys)
   |none=>none
  |none=>none
def bNx:List (Sv U)->Option (Sv U)
 |[x]=>some x
 |xs=>match aYq xs with
  |some l=>some (.t l)
  |none=>none
def inl (IL:Il)(EV:An->Code->St U->(St U->Option α)->Option α)(an:An)(o:Oper)(s:St U)(K:St U->Option α):Option α:=match o.op with
 | .call ⟨.value (.func f),xa,_⟩=>match iJ IL f with
  |some (c,n,rv)=>bif Nat.ble (len xa.toList) n then EV an c ⟨xa.toList.map (dV s)++List.replicate (n-len xa.toList) (.l .any),s.m,s.fr⟩ λs'=>match Wd TI s' rv with
    |some ys=>match bNx ys with
     |some y=>K (put ⟨s.t,s'.m,s.fr⟩ o.dst y)
     |none=>none
    |none=>none
   else none
  |none=>none
 |_=>none
def ilo:An->An
 | .il _ _ r=>ilo r
 |an=>an
def ilr (IL:Il)(EV:An->Code->St U->(St U->Option α)->Option α)(al:List Oper):List Nat->An->St U->(St U->Option α)->Option α
 |[],_,s,K=>K s
 |i::l,an,s,K=>match nth al i with
  |some o=>(match an with
   | .il k a r=>bif Nat.beq k i then(bif Nat.beq (vG FZ o.op) 2 then aOz al o (λs=>inl TI IL EV a o s λs'=>ilr IL EV al l r s' K) s (λs'=>ilr IL EV al l r s' K) else none) else grd Y TI FZ al o s λs'=>ilr IL EV al l (.il k a r) s' K
   |an=>grd Y TI FZ al o s λs'=>ilr IL EV al l an s' K)
  |none=>none
def ilY (IL:Il)(EV:An->Code->St U->(St U->Option α)->Option α)(al:List Oper)(a0:Option Nat):List (Nat×Bool)->An->Bool->Bool->St U->(St U->Option α)->Option α
 |[],_,_,_,s,K=>K s
 |(i,fl)::l,an,pre,st,s,K=>match nth al i with
  |some o=>bif fl then(bif Nat.beq (vG FZ o.op) 0&&(aCl o.op||st) then grd Y TI FZ al o s (λs'=>ilY IL EV al a0 l an pre st s' K) else none)
   else(match an with
    | .il k b r=>bif Nat.beq k i then(bif Nat.beq (vG FZ o.op) 2&& !(pre&& !zU a0 i) then aOz al o (λs=>inl TI IL EV b o s λs'=>ilY IL EV al a0 l r false st s' K) s (λs'=>ilY IL EV al a0 l r false st s' K) else none)
     else grd Y TI FZ al o s (λs'=>bif !(pre&& !zU a0 i)||(Nat.ble (vG FZ o.op) 1||unO none s'.m.o) then ilY IL EV al a0 l (.il k b r) (pre&& !zU a0 i) (st&&Cx (none:Option (Nat×Nat))) s' K else none)
    |an=>grd Y TI FZ al o s (λs'=>bif !(pre&& !zU a0 i)||(Nat.ble (vG FZ o.op) 1||unO none s'.m.o) then ilY IL EV al a0 l an (pre&& !zU a0 i) (st&&Cx (none:Option (Nat×Nat))) s' K else none))
  |none=>none
def rng:Nat->Nat->List Nat
 |0,_=>[]
 |n+1,i=>i::rng n (Nat.succ i)
def plT (FZ:List (Nat×Sum U)):List (Nat×Sum U):=FZ.map λp=>(p.1,⟨p.2.ar,p.2.rs,p.2.fr&&p.2.wt,p.2.wt,p.2.m⟩)
def bC8 (IL:Il)(EV:An->Code->St U->(St U->Option α)->Option α)(al:List Oper)(os:Array Oper)(d:Bool)(an:An)(s:St U)(N:St U->Option α):Option α:=match an with
 | .il k a r=>match ilo r with
  | .y _ _ a0 ord=>bif d&&aJ6 os none a0 ord then ilY Y TI FZ IL EV al a0 ord (.il k a r) true true s N else none
  |_=>match(bif d then aCk FZ al os (ilo r) else some (rng (len al) 0)) with
   |some l=>ilr Y TI FZ IL EV al l (.il k a r) s N
   |none=>none
 | .pl a=>match a with
  | .r a0 ord=>rgn Y TI (plT FZ) al os d (.r a0 ord) s N
  |_=>rgn Y TI (plT FZ) al os d .n s N
 |an=>rgn Y TI FZ al os d an s N
def bNy:An->Bool
 | .l .. =>true
 | .s .. =>true
 |_=>false
variable (IL:Il)
def ev:Nat->An->Code->(α:Type)->St U->(St U->Option α)->(Nat->St U->Option α)->(St U->Option α)->Option α
 |0,_,_,_,_,_,_,_=>none
 |f+1, .j tm a,c,α,s,N,_,_=>bif wr tm.ws f c&&anW tm.ws a then bd (ev f a c (Dat U tm.it) s (λs'=>col Y s tm s') (λ_ _=>none) (λ_=>none)) λd=>N (reb Y s tm d) else none
 |f+1, .jx tm a,c,α,s,N,X,R=>bif wr tm.ws f c&&anW tm.ws a then nx (ev f a c (α⊕Dat U tm.it) s (λs'=>bd (col Y s tm s') λd=>some (.inr d)) (λi s'=>bd (X i s') λr=>some (.inl r)) (λs'=>bd (R s') λr=>some (.inl r))) λd=>N (reb Y s tm d) else none
 |f+1,an, .seq a b,α,s,N,X,R=>ev f an.a a α s (λs'=>ev f an.b b α s' N X R) X R
 |f+1,an, .cond c a b,α,s,N,X,R=>match c with
  | .tmp n=>tst n s (λs=>ev f an.a a α s N X R) (λs=>ev f an.b b α s N X R)
  |_=>none
 |f+1,an, .block id c,α,s,N,X,R=>ev f an.a c α s N (λi s'=>bif Nat.beq i id then N s' else X i s') R
 |f+1, .l tm n a, .loop c,α,s,_,X,R=>bif wr tm.ws f c&&anW tm.ws a then bd (col Y s tm s) (bX n λrec d=>ev f a c α (reb Y s tm d) (λs'=>bd (col Y s tm s') rec) X R) else none
 |f+1, .s a b, .loop c,α,s,N,X,R=>bif bNy b then ev f a c α s (λs'=>ev f b (.loop c) α s' N X R) X R else none
 |_+1,_, .skip,_,s,N,_,_=>N s
 |_+1,_, .ret,_,s,_,_,R=>R s
 |_+1,_, .exit i,_,s,_,X,_=>X i s
 |f+1,an, .region _ os d,α,s,N,_,_=>bC8 Y TI FZ IL (λa c s K=>ev f a c α s K (λ_ _=>none) K) os.toList os d an s N
 |_+1,_,_,_,_,_,_,_=>none
def aCn (m:Mm U):List (Lf U)->Option (List Nat)
 |[]=>some []
 | .own i r::xs=>match nth m.o i with
  |some ⟨.tree _ d _,rv,_⟩=>bif Nat.beq rv r&&d then(match aCn m xs with
   |some l=>some (i::l)
   |none=>none) else none
  |_=>none
 |x::xs=>match x with
  | .sl .. =>none
  | .bor .. =>none
  | .inn .. =>none
  |_=>aCn m xs
def bC9 (m:Mm U):List (Sv U)->Option (List Nat)
 |[]=>some []
 |x::xs=>match parts x with
  |some cs=>match aCn m cs with
   |some l=>match bC9 m xs with
    |some l'=>some (l++l')
    |none=>none
   |none=>none
  |none=>none
def fin (fr:Bool)(ks:List Kd)(rs:List ResultVar)(s:St U):Option (rD U ks):=match Wd TI s rs with
 |some xs=>bif fr then(match bC9 s.m xs with
  |some l=>bif dist l&&aJ1 (U:=U) ks then lQ Y s.m ks xs else none
  |none=>none) else lQ Y s.m ks xs
 |none=>none
def ini (n:Nat)(ks:List Kd)(a:rD U ks):St U:=
 let l:=(bY Y ks a).map aYh
 ⟨l++List.replicate (n-len l) (.l .any),⟨[],0,[]⟩,[]⟩
def evF (an:An)(c:Code)(n:Nat)(ar rs:List Kd)(fr:Bool)(rv:List ResultVar)(a:rD U ar):Option (rD U rs):=
 ev Y TI FZ IL 1000 an c (rD U rs) (ini Y n ar a) (fin Y TI fr rs rv) (λ_ _=>none) (fin Y TI fr rs rv)
def bKb (n T:Nat)(ks:List Kd)(a:rD U (.st T::ks)):St U:=match bY Y (.st T::ks) a with
 |(_,cs)::us=>let l:=Sv.l (.box 0 0)::us.map aYh
  ⟨l++List.replicate (n-len l) (.l .any),⟨[⟨.box T cs (cs.map λ_=>0),0,0⟩],0,[]⟩,[]⟩
 |[]=>⟨[],⟨[],0,[]⟩,[]⟩
def bGb:Lf U->Bool
 | .own i _=>Nat.ble 1 i
 | .bor i _ _ _=>Nat.ble 1 i
 | .inn i _ _ _ _ _ _ _=>Nat.ble 1 i
 |_=>true
def aQt:List (Lf U)->Bool
 |[]=>true
 |x::xs=>bGb x&&aQt xs
def bSc:Sv U->Bool
 | .l x=>bGb x
 | .a cs=>aQt cs
 | .t _=>false
def aVk:List (Sv U)->Bool
 |[]=>true
 |x::xs=>bSc x&&aVk xs
def bKc (T:Nat)(rs:List Kd)(rv:List ResultVar)(s:St U):Option (rD U (.st T::rs)):=match nth s.m.o 0 with
 |some ⟨.box T' cs _,_,_⟩=>match Wd TI s rv with
  |some xs=>bif Nat.beq T' T&&(aQt cs&&aVk xs) then lQ Y s.m (.st T::rs) (.a cs::xs) else none
  |none=>none
 |_=>none
def evP (an:An)(c:Code)(n T:Nat)(ks rs:List Kd)(rv:List ResultVar)(a:rD U (.st T::ks)):Option (rD U (.st T::rs)):=
 ev Y TI FZ IL 1000 an c (rD U (.st T::rs)) (bKb Y n T ks a) (bKc Y TI T rs rv) (λ_ _=>none) (bKc Y TI T rs rv)
end
end Go.EV
namespace Go.EV
open Go.RowKit Go.VK
section lists
variable {α:Type}
def aS:∀(l:List α) (n:Nat),nth l n=l[n]?
 |[],n=>by cases n<;>rfl
 |x::l,0=>rfl
 |x::l,n+1=>by rw[eu];exact aS l n
def bZ:∀(l:List α) (n:Nat) (y:α),upd l n y=l.set n y
 |[],n,y=>by cases n<;>rfl
 |x::l,0,y=>rfl
 |x::l,n+1,y=>by rw[gn,<-bZ l n y];rfl
def aCo:∀(l:List α) (n:Nat),drp l n=l.drop n
 |[],n=>by cases n<;>rfl
 |x::l,0=>rfl
 |x::l,n+1=>by rw[gl];exact aCo l n
def aQu:∀(l:List α) (n:Nat),tk l n=l.take n
 |[],n=>by cases n<;>rfl
 |x::l,0=>rfl
 |x::l,n+1=>by rw[io,<-aQu l n];rfl
def bK:∀(l:List α),len l=l.length
 |[]=>rfl
 |x::l=>by rw[av,<-bK l];rfl
def Gx:∀(l:List α) (n:Nat) (vs:List α),n+vs.length<=l.length->K5 l n vs=l.take n++vs++l.drop (n+vs.length)
 |[],n,vs,h=>by
  have h1:vs=[]:=bv (by simp only[bo] at h;omega);subst h1;cases n<;>rfl
 |x::l,0,vs,h=>by
  show vs++drp (x::l) (len vs)=_;rw[aCo,bK];simp
 |x::l,n+1,vs,h=>by
  show x::K5 l n vs=_;rw[Gx l n vs (by simp at h;omega),show n+1+vs.length=(n+vs.length)+1 by omega];rfl
def bL9:∀{l:List α} {n:Nat} {x:α},l[n]? =some x->At l n x
 |[],n,x,h=>by simp at h
 |y::l,0,x,h=>by simp at h;subst h;exact .z
 |y::l,n+1,x,h=> .s (bL9 (by simpa using h))
def aI3 {l:List (Nat×α)}{n:Nat}{x:α}(h:iJ l n=some x):(n,x)∈l:=by
 induction l with
 |nil=>cases h
 |cons y l ih=>
  have h':cond (Nat.beq y.1 n) (some y.2) (iJ l n)=some x:=h;cases hb:Nat.beq y.1 n with
  |true=>rw[hb] at h';obtain⟨a,b⟩:=y;have:a=n:=ah hb;simp at h';subst h';subst this;exact de
  |false=>rw[hb] at h';exact da _ (ih h')
end lists
variable {U:Uni} {Y:Lay U} {P:Program} {g:GI} {E:Env U g}
structure bE (C:Cod U) (E:Env U g) (s:St U) (a:Act) (w:World) (β:List Tr):Prop where
 hp:Hp C E s.m β w
 defers:a.defers=[]
 tsz:a.tmps.size=s.t.length
 tm:∀(n:Nat) (x:Sv U),s.t[n]? =some x->x.mean C w (E.X β) β s.m (a.tmps.getD n undef)
section
variable {C:Cod U} {s:St U} {a:Act} {w w':World} {β β':List Tr}
def bE.put (r:bE C E s a w β){d:Option Nat}{x:Sv U}{v:Value}(h:d≠none->x.mean C w (E.X β) β s.m v):bE C E (put s d x) (a.put d v) w β:=by
 cases d with
 |none=>exact r
 |some n=>
  refine⟨r.hp,r.defers,?_,λm y hm=> ?_⟩
  ·simp only[EV.put,bZ,ax];simpa[Act.put] using r.tsz
  ·simp only[EV.put,bZ] at hm ⊢;have hml:m<s.t.length:=by have:=lt_of_some hm;simpa using this
   simp only[Act.put];by_cases hn:n<s.t.length
   ·rw[wX _ _ _ _ _ (by rw[r.tsz];exact hn)];by_cases he:n=m
    ·subst he;rw[bg hn] at hm;injection hm with hm;rw[cH rfl,<-hm];exact h (by simp)
    ·rw[bj he] at hm;rw[cX he];exact r.tm m y hm
   ·rw[List.set_eq_of_length_le (by omega)] at hm;have:(a.tmps.setIfInBounds n v)=a.tmps:=by apply eN;rw[r.tsz];omega
    rw[this];exact r.tm m y hm
def bE.go (r:bE C E s a w β){m':Mm U}(h:Hp C E m' β' w')(he:Evo w w' (E.X β) (E.X β') β β' s.m m' s.m.o.length s.m.ns.length s.m.k){fr:List (List (Sv U))}:bE C E ⟨s.t,m',fr⟩ a w' β':=
 ⟨h,r.defers,r.tsz,λn x hx=>Sv.aAU he (r.tm n x hx)⟩
def Evo.ext (he:Ext w w'){m:Mm U}(H:Hp C E m β w):Hp C E m β w'/\Evo w w' (E.X β) (E.X β) β β m m m.o.length m.ns.length m.k:=by
 have ev:Evo w w' (E.X β) (E.X β) β β m m m.o.length m.ns.length m.k:=⟨he.size,λ_ _ h=>h,λ_ _ _ h=>he.cell h,aj _,λa i f _ h=>⟨f,h⟩,λi e t _ h1 h2=>⟨e,t,h1,h2,λ_=>⟨rfl,rfl⟩,λ_=>⟨rfl,rfl,rfl,λb hb=>he.block b (H.new i t b h2 hb).2⟩,λh=>⟨h,rfl⟩⟩⟩;refine⟨⟨H.ext.trans (Bel.aBN he),H.len,H.vers,H.cnt,λi t b h1 h2=>⟨(H.new i t b h1 h2).1,cg (H.new i t b h1 h2).2 he.size⟩,H.dist,H.nd,λi t e h1 h2=>Ob.aBF ev (H.ok i t e h1 h2) λb hb=>he.block b (H.new i t b h1 hb).2,λx hx=>Sv.aAU ev (H.pin x hx),λx hx=> ?_,λf hf=> ?_⟩,ev⟩
 ·obtain⟨h1,h2,h3,h4⟩:=H.prm x hx;exact⟨h1,(he.block _ (bw.1 h2).1).trans h2,h3,h4⟩
 ·obtain⟨h1,h2,h0,h3⟩:=H.fr f hf;exact⟨h1,h2,bu h0 he.size,h3.imp id λq=>⟨q.1.trans he,q.2⟩⟩
def bE.ext (r:bE C E s a w β)(he:Ext w w'):bE C E s a w' β:=by obtain⟨h1,h2⟩:=Evo.ext he r.hp;exact r.go h1 h2
def bGc {X:Nat->Prop}{m:Mm U}{v:Value}{x:Lf U}(h:x.mean C w X β m v):(rsv m.ns x).mean C w X β m v:=by
 cases x with
 |nat a=>obtain⟨i,f,h1,h2,h3⟩:=h;simp only[rsv,aS,h1];exact⟨h2,by simp[IntKind.min,IntKind.signed,IntKind.bits],by simpa[IntKind.max,IntKind.signed,IntKind.bits] using h3⟩
 |lt a n=>obtain⟨i,f,h1,h2,h3⟩:=h;simp only[rsv,aS,h1];exact h2
 |_=>exact h
def mH {τ τ':Nat}{l:List (U.El τ')}{l':List (U.El τ)}(h:slq τ τ' l=some l'):τ'=τ/\HEq l l':=by
 unfold slq at h;split at h
 ·rename_i he;subst he;simp at h;subst h;exact⟨rfl,HEq.rfl⟩
 ·cases h
def bKd {τ τ':Nat}{l:List (U.El τ')}{l':List (U.El τ)}(h:slq τ τ' l=some l'):Lf.sl τ' l=Lf.sl τ l':=by obtain⟨rfl,h⟩:=mH h;rw[ez h]
def Hp.tree (H:Hp C E s.m β w){i:Nat}{t:Tr}{e:EO U}{τ:Nat}{d:Bool}{l:List (U.El τ)}(h1:β[i]? =some t)(h2:s.m.o[i]? =some e)(h3:e.ob= .tree τ d l):Ow C w (E.X β) d t.val (.sl τ l) t.all:=by have:=H.ok i t e h1 h2;rw[h3] at this;obtain⟨h4,xs,h5,h6⟩:=this;exact .sl t h4 h5 h6
def bNz {b:Nat}{i:Nat}{t:Tr}(h1:β[i]? =some t)(h2:b∈t.all):E.X β b:= .inr (.inr ⟨t,az h1,h2⟩)
def bN0:Lf U->Option Nat
 | .own i _=>some i
 | .bor i _ _ _=>some i
 | .inn i _ _ _ _ _ _ _=>some i
 |_=>none
def Fz (β:List Tr)(Z:Nat->Prop)(x:Lf U):Prop:=∀(i:Nat) (t:Tr) (b:Nat),bN0 x=some i->β[i]? =some t->b∈t.all->¬Z b
def Fz.of {Z:Nat->Prop}{x:Lf U}(h:nM x=true\/∀(i:Nat) (t:Tr) (b:Nat),β[i]? =some t->b∈t.all->¬Z b):Fz β Z x:=λi t b ho ht hb=>by
 rcases h with h|h
 ·cases x<;>first|(cases ho;done)|(cases h;done)
 ·exact h i t b ht hb
def aQv (H:Hp C E s.m β w){v:Value}{x y:Lf U}(hm:x.mean C w (E.X β) β s.m v)(h:rC s.m x=some y){Z:Nat->Prop}(hZ:∀b,Z b->E.X β b)(hZt:Fz β Z x):
  y.aAZ=true/\Rd w Z [] v y.toV:=by
 have hXZ:∀b,b<w.heap.size->Z b->E.X β b:=λb _ hb=>hZ b hb;cases x with
 |int k n=>simp only[rC,ai] at h;subst h;obtain⟨rfl,h1,h2⟩:=hm;exact⟨rfl, .int h1 h2⟩
 |bool b=>simp only[rC,ai] at h;subst h;obtain rfl:=hm;exact⟨rfl, .bool⟩
 |str z=>simp only[rC,ai] at h;subst h;obtain⟨rfl,h1⟩:=hm;exact⟨rfl, .str h1⟩
 |sl τ l=>simp only[rC,ai] at h;subst h;exact⟨rfl,Rd.conv hm (aj _) hXZ (λ_ _ _ h=>h) (λ_ _ h=>h)⟩
 |nat a=>obtain⟨i,f,h1,rfl,h3⟩:=hm;simp only[rC,aS,h1,ai] at h;subst h;exact⟨rfl, .int (by simp[IntKind.min,IntKind.signed,IntKind.bits]) (by simpa[IntKind.max,IntKind.signed,IntKind.bits] using h3)⟩
 |lt a n=>obtain⟨i,f,h1,rfl,h3⟩:=hm;simp only[rC,aS,h1,ai] at h;subst h;exact⟨rfl, .bool⟩
 |own i r=>
  obtain⟨_,e,t,h2,h3,h4⟩:=hm;simp only[rC,aS,h2] at h;obtain⟨ob,rv,cv⟩:=e;cases ob with
  |tree τ d l=>
   cases hb:Nat.beq rv r with
   |false=>simp[hb] at h
   |true=>simp only[hb,ac,ai] at h;subst h;rw[h4 (ah hb)];exact⟨rfl,(Hp.tree H h3 h2 rfl).rd hZ (λb hb'=>hZt i t b rfl h3 hb')⟩
  |_=>cases h
 |bor i c τ l=>
  obtain⟨_,e,t,h2,h3,h4⟩:=hm;simp only[rC,okv,aS,h2] at h;cases hb:Nat.beq e.cv c with
  |false=>simp[hb] at h
  |true=>simp only[hb,ac,ai] at h;subst h;refine⟨rfl,(h4 (ah hb)).conv (aj _) (λb _ hb'=>⟨hZ b hb',λhbt=>hZt i t b rfl h3 hbt hb'⟩) (λ_ _ _ h=>h) (λ_ _ h=>h)⟩
 |inn i c τ q z j τ' l=>
  obtain⟨_,e,t,h2,h3,h4⟩:=hm;simp only[rC,okv,aS,h2] at h;cases hb:Nat.beq e.cv c with
  |false=>simp[hb] at h
  |true=>
   simp only[hb,ac,ai] at h;subst h;obtain⟨d,L,xs,a1,a2,a3,a4,a5,a6⟩:=h4 (ah hb);have hok:=H.ok i t e h3 h2;rw[a1] at hok;obtain⟨k1,xs',k2,k3⟩:=hok;obtain rfl:xs'=xs:=by
    rcases dR k2 with⟨b1,b2,b3,_⟩|⟨b,cur,b1,_,_,_,b5,_,b7⟩
    ·rw[b3];have:=a5.1;rw[b2] at this;simp at this;exact this.symm
    ·rcases dR a5 with⟨c1,_⟩|⟨b',cur',c1,_,_,_,c5,_,c7⟩
     ·rw[b1] at c1;cases c1
     ·rw[b1] at c1;injection c1 with c1;subst c1;rw[b5] at c5;injection c5 with c5;injection c5 with c5;subst c5;rw[<-b7,<-c7]
   obtain⟨l1,l2,g1,g2,g3,g4⟩:=L9 (C.hlen τ) a3;have hin:(L.map (C.cel τ)).flatten[q.toNat*U.K τ+j]? =some (.sl τ' l):=by rw[g3,<-g4,ay (db _ _),cP,aq (lt_of_some a4)];exact a4
   have:=(k3.rd hZ (λb hb'=>hZt i t b rfl h3 (by simp[Tr.all,hb']))).2 _ _ _ a6 hin;exact⟨rfl,this⟩
 |_=>cases h
def Cy (H:Hp C E s.m β w){v:Value}{x y:Lf U}(hm:x.mean C w (E.X β) β s.m v)(h:rC s.m x=some y){Z:Nat->Prop}(hZ:∀b,Z b->E.X β b)(hZt:nM x=true\/∀(i:Nat) (t:Tr) (b:Nat),β[i]? =some t->b∈t.all->¬Z b):
  y.aAZ=true/\Rd w Z [] v y.toV:=aQv H hm h hZ (Fz.of hZt)
end
end Go.EV
namespace Go.EV
open Go.RowKit Go.VK
def kzB:Value->Kz->Bool
 | .int k n, .int k'=>decide (k=k')&&decide (n=0)&&decide (k.min<=0)&&decide (0<=k.max)
 | .bool b, .bool=> !b
 | .string s, .str=>Nat.beq s.data.size 0
 | .slice none 0 0, .nil=>true
 |_,_=>false
def aYr:List Value->List Kz->Bool
 |[],[]=>true
 |v::vs,z::zs=>kzB v z&&aYr vs zs
 |_,_=>false
def fsB (P:Program)(t:Nat):Nat->List (Nat×Nat×Nat)->Bool
 |_,[]=>true
 |f,(off,ft,n)::l=>(bFv P t f off&&bC3 P t f ft off&&(match P.info? ft with|some j=>j.size==n|none=>false))&&fsB P t (f+1) l
def aTc:List (Nat×Nat)->List (Nat×Nat×Nat)->Bool
 |[],[]=>true
 |(a,b)::l,(off,_,n)::l'=>Nat.beq a off&&Nat.beq b n&&aTc l l'
 |_,_=>false
def arB (P:Program)(t k:Nat):Bool:=match P.underlying t with
 |some (.array n e)=>Nat.beq n k&&(match P.info? e with|some j=>Nat.beq j.size 1|none=>false)
 |_=>false
def bKe {P:Program}{t k j:Nat}{w:World}(h:arB P t k=true)(hj:j<k)(ad:Addr)(kk:IntKind):(Instr.indexAt t (.pointer (some ad)) (.int kk (j:Int))).run P w= .ok (.pointer (some (ad.add j))) w:=by
 unfold arB at h;cases hu:P.underlying t with
 |none=>simp[hu] at h
 |some d=>
  cases d<;>simp[hu] at h;rename_i n e;obtain⟨h1,h2⟩:=h;cases hi:P.info? e with
  |none=>simp[hi] at h2
  |some i=>simp[hi] at h2;subst h1;simp[Instr.indexAt,asIntOf,run_underlying hu,Instr.sureAddr,sizeOf,typeInfo,hi,h2,hj]
def Cs (P:Program)(f:Field):Bool:=match P.underlying f.type with
 |some (.int _)=>true
 |some .bool=>true
 |some .string=>true
 |_=>false
def Iz (P:Program)(t:Nat):Bool:=match P.underlying t with
 |some (.int _)=>true
 |some .bool=>true
 |some .string=>true
 |some (.struct fds)=>fds.toList.all (Cs P)
 |_=>false
def bN1 (P:Program)(t:Nat):Bool:=match P.underlying t with
 |some (.struct fds)=> !(fds.toList.all λf=>Iz P f.type)||(!P.eqGuardType P.depth t&&(!P.stoodInHeld t&&fds.toList.all λf=>f.name != "_"))
 |_=>true
def tiB (P:Program)(t:Nat)(i:TInfo):Bool:=
 (match i.u with
 | .int k=>(match P.underlying t with|some (.int k')=>decide (k'=k)|_=>false)&&Mv P t&&Nat.beq i.k 1
 | .bool=>(match P.underlying t with|some .bool=>true|_=>false)&&Mv P t&&Nat.beq i.k 1
 | .str=>(match P.underlying t with|some .string=>true|_=>false)&&Mv P t&&Nat.beq i.k 1
 | .sl e ek eb=>slB P t e ek eb&&Mv P t&&Nat.beq i.k 1
 | .st fs=>(bCx P t i.k&&bN1 P t)&&fsB P t 0 fs&&(match fs with|[]=>arB P t i.k|_=>(match aJs P t with|some l=>aTc l fs|none=>false)))&&
 (match P.info? t with|some j=>(match j.zero with|some z=>aYr z.cells.toList i.z|none=>false)|none=>false)
def pY (P:Program)(TI:List (Nat×TInfo)):Bool:=TI.all λx=>tiB P x.1 x.2
section
variable {P:Program} {TI:List (Nat×TInfo)}
def bT (h:pY P TI=true){t:Nat}{i:TInfo}(hf:iJ TI t=some i):tiB P t i=true:=by have:=cF.1 h _ (aI3 hf);exact this
def Nf {t:Nat}{i:TInfo}{k:IntKind}(h:tiB P t i=true)(hu:i.u= .int k):P.underlying t=some (.int k)/\Mv P t=true/\i.k=1:=by
 simp only[tiB,hu,aa] at h;obtain⟨⟨⟨h1,h2⟩,h3⟩,_⟩:=h;refine⟨?_,h2,ah h3⟩;cases hp:P.underlying t with
 |none=>simp[hp] at h1
 |some d=>cases d<;>simp[hp] at h1;subst h1;rfl
def M7 {t:Nat}{i:TInfo}(h:tiB P t i=true)(hu:i.u= .bool):P.underlying t=some .bool/\Mv P t=true/\i.k=1:=by
 simp only[tiB,hu,aa] at h;obtain⟨⟨⟨h1,h2⟩,h3⟩,_⟩:=h;refine⟨?_,h2,ah h3⟩;cases hp:P.underlying t with
 |none=>simp[hp] at h1
 |some d=>cases d<;>simp[hp] at h1;rfl
def Gy {t:Nat}{i:TInfo}(h:tiB P t i=true)(hu:i.u= .str):P.underlying t=some .string/\Mv P t=true/\i.k=1:=by
 simp only[tiB,hu,aa] at h;obtain⟨⟨⟨h1,h2⟩,h3⟩,_⟩:=h;refine⟨?_,h2,ah h3⟩;cases hp:P.underlying t with
 |none=>simp[hp] at h1
 |some d=>cases d<;>simp[hp] at h1;rfl
def zX {t:Nat}{i:TInfo}{e ek eb:Nat}(h:tiB P t i=true)(hu:i.u= .sl e ek eb):slB P t e ek eb=true/\Mv P t=true/\i.k=1:=by simp only[tiB,hu,aa] at h;exact⟨h.1.1.1,h.1.1.2,ah h.1.2⟩
def M8 {t:Nat}{i:TInfo}{fs:List (Nat×Nat×Nat)}(h:tiB P t i=true)(hu:i.u= .st fs):bCx P t i.k=true/\fsB P t 0 fs=true/\((fs≠[]/\∃l,aJs P t=some l/\aTc l fs=true)\/(fs=[]/\arB P t i.k=true)):=by
 simp only[tiB,hu,aa] at h;refine⟨h.1.1.1.1,h.1.1.2,?_⟩;cases fs with
 |nil=>exact .inr ⟨rfl,h.1.2⟩
 |cons x xs=>
  have h2:=h.1.2;cases hp:aJs P t with
  |none=>simp only[hp] at h2;cases h2
  |some l=>simp only[hp] at h2;exact .inl ⟨by simp,l,rfl,h2⟩
def bP5 {t:Nat}{i:TInfo}{fs:List (Nat×Nat×Nat)}(h:tiB P t i=true)(hu:i.u= .st fs):bN1 P t=true:=by simp only[tiB,hu,aa] at h;exact h.1.1.1.2
def aI5 {t:Nat}{i:TInfo}(h:tiB P t i=true):∃j z,P.info? t=some j/\j.zero=some z/\aYr z.cells.toList i.z=true:=by
 simp only[tiB,aa] at h;have h:=h.2;cases hj:P.info? t with
 |none=>simp[hj] at h
 |some j=>
  cases hz:j.zero with
  |none=>simp[hj,hz] at h
  |some z=>simp only[hj,hz] at h;exact⟨j,z,rfl,hz,h⟩
def aJ9 {t:Nat}:∀{fs:List (Nat×Nat×Nat)} {f n off ft k:Nat},fsB P t f fs=true->fs[n]? =some (off,ft,k)->bFv P t (f+n) off=true/\bC3 P t (f+n) ft off=true/\∃j,P.info? ft=some j/\j.size=k
 |[],f,n,off,ft,k,h,hn=>by simp at hn
 |(a,b,c)::fs,f,0,off,ft,k,h,hn=>by
  simp at hn;obtain⟨rfl,rfl,rfl⟩:=hn;simp only[fsB,aa] at h;refine⟨h.1.1.1,h.1.1.2,?_⟩;cases hj:P.info? b with
  |none=>simp[hj] at h
  |some j=>simp[hj] at h;exact⟨j,rfl,h.1.2⟩
 |(a,b,c)::fs,f,n+1,off,ft,k,h,hn=>by
  simp only[fsB,aa] at h;have:=aJ9 (f:=f+1) (n:=n) h.2 (by simpa using hn);rw[show f+(n+1)=f+1+n by omega];exact this
end
variable {U:Uni} {Y:Lay U} {TI:List (Nat×TInfo)} {P:Program} {g:GI} {E:Env U g}
noncomputable def lv (m:Mm U)(fr:Bool)(x:Lf U):V:=match x with
 | .nil=> .nil
 |x=>bif fr&& !nM x then .any else match rC m x with
  |some y=>y.toV
  |none=> .any
noncomputable def vw (m:Mm U)(fr:Bool):Sv U->V
 | .l x=>lv m fr x
 | .a cs=> .agg (cs.map (lv m fr))
 | .t _=> .any
section
variable {C:Cod U} {s:St U} {a:Act} {w w':World} {β β':List Tr}
def bBb (H:Hp C E s.m β w){v:Value}{x:Lf U}(hm:x.mean C w (E.X β) β s.m v)(fr:Bool){Z:Nat->Prop}(hZ:∀b,Z b->fr=true/\E.X β b):Rd w Z [] v (lv s.m fr x):=by
 have go:Rd w Z [] v (bif fr&& !nM x then .any else match rC s.m x with|some y=>y.toV|none=> .any):=by
  cases fr with
  |false=>
   simp only[eM,ab];cases hr:rC s.m x with
   |none=>exact .any
   |some y=>exact(Cy H hm hr (λb hb=>(hZ b hb).2) (.inr λ_ _ b _ _ hb=>by cases(hZ b hb).1)).2
  |true=>
   cases hf:nM x with
   |false=>exact .any
   |true=>
    simp only[ba,dl,ab];cases hr:rC s.m x with
    |none=>exact .any
    |some y=>exact(Cy H hm hr (λb hb=>(hZ b hb).2) (.inl hf)).2
 cases x with
 |nil=>obtain rfl:=hm;exact .nil
 |_=>exact go
noncomputable def Zf (E:Env U g)(β:List Tr)(fr:Bool)(b:Nat):Prop:=fr=true/\E.X β b
noncomputable def brE (H:Hp C E s.m β w)(fr:Bool):VK.Env P g:=⟨Zf E β fr,w,λb hb=>H.aCB b hb.2,H.gw⟩
noncomputable def brS (s:St U)(fr:Bool):VK.S:=⟨s.t.map (vw s.m fr),[]⟩
def br (r:bE C E s a w β)(fr:Bool):RelB (brE (P:=P) r.hp fr) (brS s fr) [] a w where
 ext:=Ext.refl w
 defers:=r.defers
 tsz:=by simp[brS,r.tsz]
 tmps:=λn W hW=>by
  simp only[brS,bh] at hW;cases hx:s.t[n]? with
  |none=>simp[hx] at hW
  |some x=>
   simp only[hx,cJ,ai] at hW;subst hW;have hm:=r.tm n x hx;have hZ:∀b,(brE (P:=P) r.hp fr).X [] b->fr=true/\E.X β b:=λb hb=>by
    rcases hb with hb|⟨t,ht,_⟩
    ·exact hb
    ·simp at ht
   cases x with
   |l y=>exact bBb r.hp hm fr hZ
   |t xs=>exact .any
   |a cs=>
    obtain⟨vs,h1,h2,h3⟩:=hm;rw[h1];refine .agg (by simp[h2]) (λi v c k1 k2=> ?_);rw[bh] at k2;cases hc:cs[i]? with
    |none=>simp[hc] at k2
    |some c'=>simp only[hc,cJ,ai] at k2;subst k2;exact bBb r.hp (h3 i v c' (by simpa using k1) hc) fr hZ
 blen:=rfl
 new:=by simp
 dist:=by simp
 objs:=by simp[brS]
def bGd {E':VK.Env P g}{S:VK.S}{v:Value}{m:Mm U}{fr:Bool}:VK.Ev E' S (.const v) (vw m fr (aVf v)):=by
 have any:∀v,VK.Ev E' S (.const v) .any:=λv _ _ _ _=> .any;unfold aVf;split
 ·rename_i k n;cases h:aVe k n with
  |false=>cases fr<;>exact any _
  |true=>simp only[ac,vw,lv,nM,ba,dl,ab,rC,Lf.toV];refine .i ?_;simp only[aVe,aa,bp] at h;simpa using h
 ·simp only[vw,lv,nM,ba,dl,ab,rC,Lf.toV];exact .b
 ·rename_i z;cases h:Nat.ble (len z.data.toList) 1000 with
  |false=>cases fr<;>exact any _
  |true=>simp only[ac,vw,lv,nM,ba,dl,ab,rC,Lf.toV];refine .s ?_;have:=bf h;rw[bK,cy] at this;exact ao (show z.size<=1000 from this)
 ·exact .n
 ·cases fr<;>exact any _
def aTd {E':VK.Env P g}{fr:Bool}{x:Operand}:VK.Ev E' (brS s fr) x (vw s.m fr (uA s x)):=by
 have any:∀x,VK.Ev E' (brS s fr) x .any:=λx _ _ _ _=> .any;cases x with
 |tmp n=>
  simp only[uA,aS];cases h:s.t[n]? with
  |none=>cases fr<;>exact any _
  |some y=>exact .t (bL9 (by simp[brS,h]))
 |const v=>exact bGd
 |_=>cases fr<;>exact any _
def aYs {X:Nat->Prop}{m:Mm U}{v:Value}:(aVf v:Sv U).mean C w X β m v:=by
 unfold aVf;split
 ·rename_i k n;cases h:aVe k n with
  |false=>trivial
  |true=>simp only[aVe,aa,bp] at h;exact⟨rfl,h⟩
 ·rfl
 ·rename_i z;cases h:Nat.ble (len z.data.toList) 1000 with
  |false=>trivial
  |true=>have:=bf h;rw[bK,cy] at this;refine⟨rfl,?_⟩;have h2:z.size<=1000:=this;unfold maxLen;omega
 ·rfl
 ·trivial
def jL (r:bE C E s a w β){x:Operand}:(uA s x).mean C w (E.X β) β s.m (a.eval x):=by
 cases x with
 |tmp n=>
  simp only[uA,aS];cases h:s.t[n]? with
  |none=>trivial
  |some y=>exact r.tm n y h
 |const v=>exact aYs
 |_=>trivial
def xC (r:bE C E s a w β){x:Operand}:(dV s x).mean C w (E.X β) β s.m (a.eval x):=by
 have:=jL r (x:=x);unfold dV;cases h:uA s x with
 |l y=>rw[h] at this;exact bGc this
 |_=>rw[h] at this;exact this
def bMa:Lf U->Bool
 | .int .. =>true
 | .bool _=>true
 | .str _=>true
 |_=>false
def bGe {x:Operand}{y:Lf U}(h:dV s x= .l y)(hy:bMa y=true)(fr:Bool):vw s.m fr (uA s x)=y.toV:=by
 unfold dV at h;cases ho:uA s x with
 |l z=>
  simp only[ho,Sv.l.injEq] at h;simp only[vw];cases z with
  |nat a=>
   simp only[rsv,aS] at h;cases hn:s.m.ns[a]? with
   |none=>simp only[hn] at h;subst h;cases hy
   |some p=>simp only[hn] at h;subst h;simp[lv,nM,rC,aS,hn]
  |lt a n=>
   simp only[rsv,aS] at h;cases hn:s.m.ns[a]? with
   |none=>simp only[hn] at h;subst h;cases hy
   |some p=>simp only[hn] at h;subst h;simp[lv,nM,rC,aS,hn]
  |int k n=>simp only[rsv] at h;subst h;simp[lv,nM,rC]
  |bool b=>simp only[rsv] at h;subst h;simp[lv,nM,rC]
  |str b=>simp only[rsv] at h;subst h;simp[lv,nM,rC]
  |_=>simp only[rsv] at h;subst h;cases hy
 |_=>simp only[ho] at h;cases h
def aTe {E':VK.Env P g}{x:Operand}{y:Lf U}(h:dV s x= .l y)(hy:bMa y=true)(fr:Bool):VK.Ev E' (brS s fr) x y.toV:=by rw[<-bGe h hy fr];exact aTd
def dC {E':VK.Env P g}{x:Operand}{k:IntKind}{n:Int}(h:dV s x= .l (.int k n))(fr:Bool:=false):VK.Ev E' (brS s fr) x (.int k n):=aTe h rfl fr
def M9 {E':VK.Env P g}{x:Operand}{b:Bool}(h:dV s x= .l (.bool b))(fr:Bool:=false):VK.Ev E' (brS s fr) x (.bool b):=aTe h rfl fr
def xD {E':VK.Env P g}{x:Operand}{z:ByteArray}(h:dV s x= .l (.str z))(fr:Bool:=false):VK.Ev E' (brS s fr) x (.str z):=aTe h rfl fr
def bMb {E':VK.Env P g}{x:Operand}{p:Lf U}{τ:Nat}{l:List (U.El τ)}(h:dV s x= .l p)(hr:rC s.m p=some (.sl τ l)):VK.Ev E' (brS s false) x (.slice (U.K τ) (l.map (U.enc τ))):=by
 have hv:vw s.m false (uA s x)= .slice (U.K τ) (l.map (U.enc τ)):=by
  unfold dV at h;cases ho:uA s x with
  |l z=>
   simp only[ho,Sv.l.injEq] at h;simp only[vw];have:rC s.m z=some (.sl τ l)/\z≠ .nil:=by
    cases z with
    |nat a=>
     simp only[rsv,aS] at h;cases hn:s.m.ns[a]? with
     |none=>simp only[hn] at h;subst h;cases hr
     |some q=>simp only[hn] at h;subst h;cases hr
    |lt a n=>
     simp only[rsv,aS] at h;cases hn:s.m.ns[a]? with
     |none=>simp only[hn] at h;subst h;cases hr
     |some q=>simp only[hn] at h;subst h;cases hr
    |nil=>simp only[rsv] at h;subst h;cases hr
    |_=>simp only[rsv] at h;subst h;exact⟨hr,by simp⟩
   cases z with
   |nil=>exact absurd rfl this.2
   |_=>simp only[lv,eM,ab,this.1,Lf.toV]
  |_=>simp only[ho] at h;cases h
 rw[<-hv];exact aTd
def bP6 {E':VK.Env P g}{x:Operand}{τ:Nat}{l:List (U.El τ)}(h:dV s x= .l (.sl τ l))(fr:Bool:=true):VK.Ev E' (brS s fr) x (.slice (U.K τ) (l.map (U.enc τ))):=by
 have hv:vw s.m fr (uA s x)= .slice (U.K τ) (l.map (U.enc τ)):=by
  unfold dV at h;cases ho:uA s x with
  |l z=>
   simp only[ho,Sv.l.injEq] at h;simp only[vw];cases z with
   |nat a=>simp only[rsv,aS] at h;cases hn:s.m.ns[a]? <;>simp[hn] at h
   |lt a n=>simp only[rsv,aS] at h;cases hn:s.m.ns[a]? <;>simp[hn] at h
   |sl τ' l'=>simp only[rsv] at h;rw[h];simp[lv,nM,rC,Lf.toV]
   |_=>simp only[rsv] at h;cases h
  |_=>simp only[ho] at h;cases h
 rw[<-hv];exact aTd
def MO (P:Program)(C:Cod U)(E:Env U g)(s:St U)(a:Act)(w:World)(β:List Tr)(op:Op)(x:Sv U):Prop:=
 ∀o:Oper,o.op=op->∃v,(∀w',Ext w w'->(execOp a.eval o).run P w'= .ok (.value v) w')/\x.mean C w (E.X β) β s.m v
def aVl (r:bE C E s a w β)(fr:Bool){op:Op}{W:V}{x:Sv U}(h:∀E':VK.Env P g,zR E' (brS s fr) op W)(hx:∀v,Rd w (Zf E β fr) [] v W->x.mean C w (E.X β) β s.m v):MO P C E s a w β op x:=λo ho=>by
 obtain⟨v,h1,h2⟩:=h _ [] a w (br (P:=P) r fr) o ho;refine⟨v,h1,hx v (h2.conv (aj _) (λb _ hb=> .inl hb) (λ_ _ _ h=>h) (λ_ _ h=>h))⟩
def bP7 {k:IntKind}{n:Int}{X:Nat->Prop}{Z:Nat->Prop}{m:Mm U}{v:Value}(h:Rd w Z [] v (.int k n)):(Sv.l (.int k n):Sv U).mean C w X β m v:=h.aAP
def bN2 {b:Bool}{X:Nat->Prop}{Z:Nat->Prop}{m:Mm U}{v:Value}(h:Rd w Z [] v (.bool b)):(Sv.l (.bool b):Sv U).mean C w X β m v:=h.aAW
def bMc {z:ByteArray}{X:Nat->Prop}{Z:Nat->Prop}{m:Mm U}{v:Value}(h:Rd w Z [] v (.str z)):(Sv.l (.str z):Sv U).mean C w X β m v:=h.aAT
end
end Go.EV
namespace Go.EV
open Go.RowKit Go.VK
variable {U:Uni} {Y:Lay U} {TI:List (Nat×TInfo)} {P:Program} {g:GI} {E:Env U g}
section
variable {C:Cod U} {s:St U} {m:Mm U} {a:Act} {w w':World} {β β':List Tr} {X:Nat->Prop}
def aQw {i:TInfo}{cs:List (Lf U)}{off:Nat}{x:Sv U}(h:cut i cs off=some x):
  (∃fs ds,i.u= .st fs/\ds=(cs.drop off).take i.k/\ds.length=i.k/\x= .a ds)\/((∀fs,i.u≠ .st fs)/\∃y,cs[off]? =some y/\x= .l y):=by
 unfold cut at h;split at h
 ·rename_i fs hu;left;simp only[aCo,aQu,bK] at h;cases hb:Nat.beq ((cs.drop off).take i.k).length i.k with
  |false=>rw[hb] at h;cases h
  |true=>simp only[hb,ac,ai] at h;exact⟨fs,_,hu,rfl,ah hb,h.symm⟩
 ·rename_i hu;right;refine⟨λfs he=>hu fs he,?_⟩
  rw[aS] at h;cases hc:cs[off]? with
  |none=>simp[hc] at h
  |some y=>simp only[hc,ai] at h;exact⟨y,rfl,h.symm⟩
def bGf {t:Nat}{i:TInfo}(h:tiB P t i=true)(hu:∀fs,i.u≠ .st fs):Mv P t=true/\i.k=1:=by
 cases hi:i.u with
 |int k=>have:=Nf h hi;exact this.2
 |bool=>have:=M7 h hi;exact this.2
 |str=>have:=Gy h hi;exact this.2
 |sl e ek eb=>have:=zX h hi;exact this.2
 |st fs=>exact absurd hi (hu fs)
def add_zero' (p:Addr):p.add 0=p:=by simp[Addr.add]
def aCp {S:World->Prop}{t:Nat}{i:TInfo}{p:Addr}{vs:List Value}{cs:List (Lf U)}{off:Nat}{x:Sv U}(hti:tiB P t i=true)(hc:cut i cs off=some x)(hM:Ms C w X β m vs (cs.drop off))
  (hcell:∀w',S w'->∀(j:Nat) (v:Value),vs[j]? =some v->w'.cell? (p.add j)=some v):
  ∃v,(∀w',S w'->(loadVar t p).run P w'= .ok v w')/\x.mean C w X β m v:=by
 rcases aQw hc with⟨fs,ds,hu,h1,h2,rfl⟩|⟨hu,y,h1,rfl⟩
 ·have hag:=(M8 hti hu).1;have hl:i.k<=vs.length:=by rw[hM.1,<-h2,h1,ce];exact Nat.min_le_right _ _
  have hvl:(vs.take i.k).length=i.k:=by rw[ce];omega
  refine⟨.agg (vs.take i.k).toArray,λw' he=> ?_,vs.take i.k,rfl,by rw[hvl,h2],λj v c h5 h6=> ?_⟩
  ·exact aF0 (by rw[hvl];exact hag) (λj v hj=>hcell w' he j v (by rw[eK] at hj;split at hj;exact hj;cases hj))
  ·rw[eK] at h5;split at h5
   ·rw[h1,eK] at h6;split at h6
    ·exact hM.2 j v c h5 h6
    ·exact absurd ‹j<i.k› ‹¬j<i.k›
   ·simp at h5
 ·have ho:=(bGf hti hu).1;have h0:(cs.drop off)[0]? =some y:=by rw[eh];exact h1
  have hl:0<vs.length:=by rw[hM.1];exact lt_of_some h0
  have hv0:vs[0]? =some vs[0]:=ae hl;refine⟨vs[0],λw' he=> ?_,hM.2 0 _ y hv0 h0⟩;have:=hcell w' he 0 _ hv0;rw[add_zero'] at this;exact aFz ho this
def N7 {t:Nat}{i:TInfo}{p:Addr}{vs:List Value}{cs:List (Lf U)}{off:Nat}{x:Sv U}(hti:tiB P t i=true)(hc:cut i cs off=some x)(hM:Ms C w X β m vs (cs.drop off))
  (hcell:∀w',Ext w w'->∀(j:Nat) (v:Value),vs[j]? =some v->w'.cell? (p.add j)=some v):
  ∃v,(∀w',Ext w w'->(loadVar t p).run P w'= .ok v w')/\x.mean C w X β m v:=aCp (S:=Ext w) hti hc hM hcell
def Ms.drop {vs:List Value}{cs:List (Lf U)}(h:Ms C w X β m vs cs)(n:Nat):Ms C w X β m (vs.drop n) (cs.drop n):=
 ⟨by simp[h.1],λi v c h1 h2=>h.2 (n+i) v c (by simpa using h1) (by simpa using h2)⟩
def aVm {T k n:Nat}{t:Tr}{xs xs':List Value}(h:w.ownsRow 0 T k t.val n xs)(h':w.ownsRow 0 T k t.val n xs'):xs=xs':=by
 rcases dR h with⟨c1,_,c3,_⟩|⟨b,cur,c1,_,_,_,c5,_,c7⟩
 ·rcases dR h' with⟨_,_,d3,_⟩|⟨b',cur',d1,_⟩
  ·rw[c3,d3]
  ·rw[c1] at d1;cases d1
 ·rcases dR h' with⟨d1,_⟩|⟨b',cur',d1,_,_,_,d5,_,d7⟩
  ·rw[c1] at d1;cases d1
  ·rw[c1] at d1;injection d1 with d1;subst d1;rw[c5] at d5;injection d5 with d5;injection d5 with d5;subst d5;rw[<-c7,<-d7]
def aTf {d:Bool}{τ n:Nat}{L:List (U.El τ)}{z:U.El τ}{xs:List Value}{B:List Nat}(h3:OwL C w X d xs (L.map (C.cel τ)).flatten B)(hz:L[n]? =some z):
  ∃(l1 l2:List (U.El τ)) (x1 xz x2:List Value) (B1 Bz B2:List Nat),L=l1++z::l2/\l1.length=n/\xs=x1++(xz++x2)/\x1.length=n*U.K τ/\xz.length=U.K τ/\B=B1++(Bz++B2)/\
   OwL C w X d x1 (l1.map (C.cel τ)).flatten B1/\OwL C w X d xz (C.cel τ z) Bz/\OwL C w X d x2 (l2.map (C.cel τ)).flatten B2:=by
 obtain⟨l1,l2,g1,g2,g3,g4⟩:=L9 (C.hlen τ) hz;rw[g3] at h3;obtain⟨x1,xr,B1,Br,e1,e2,o1,o2⟩:=OwL.split h3;obtain⟨xz,x2,Bz,B2,e3,e4,o3,o4⟩:=OwL.split o2;exact⟨l1,l2,x1,xz,x2,B1,Bz,B2,g1,g2,by rw[<-e3,<-e1],by rw[o1.len,g4],by rw[o3.len,C.hlen],by rw[<-e4,<-e2],o1,o3,o4⟩
def aTg (H:Hp C E m β w){i n:Nat}{t:Tr}{e:EO U}{τ:Nat}{d:Bool}{L:List (U.El τ)}{z:U.El τ}(hβ:β[i]? =some t)(ho:m.o[i]? =some e)(he:e.ob= .tree τ d L)(hz:L[n]? =some z):
  ∃(l1 l2:List (U.El τ)) (x1 xz x2:List Value) (B1 Bz B2:List Nat),L=l1++z::l2/\l1.length=n/\w.ownsRow 0 τ (U.K τ) t.val L.length (x1++(xz++x2))/\x1.length=n*U.K τ/\xz.length=U.K τ/\t.bs=B1++(Bz++B2)/\
   OwL C w (E.X β) d x1 (l1.map (C.cel τ)).flatten B1/\OwL C w (E.X β) d xz (C.cel τ z) Bz/\OwL C w (E.X β) d x2 (l2.map (C.cel τ)).flatten B2/\0<U.K τ:=by
 have hok:=H.ok i t e hβ ho;rw[he] at hok;obtain⟨h1,xs,h2,h3⟩:=hok;obtain⟨l1,l2,x1,xz,x2,B1,Bz,B2,g1,g2,g3,g4,g5,g6,o1,o2,o3⟩:=aTf h3 hz;exact⟨l1,l2,x1,xz,x2,B1,Bz,B2,g1,g2,g3▸h2,g4,g5,g6,o1,o2,o3,h1⟩
def aVn {i c τ:Nat}{q:Int}{z:U.El τ}:∀(cs:List (Lf U)) (j0 j:Nat) (x:Lf U),(aGt i c τ q z j0 cs)[j]? =some x->∃y,cs[j]? =some y/\((∃τ' l,y= .sl τ' l/\x= .inn i c τ q z (j0+j) τ' l)\/((∀τ' l,y≠ .sl τ' l)/\x=y))
 |[],j0,j,x,h=>by simp[aGt] at h
 |y::cs,j0,0,x,h=>by
  refine⟨y,rfl,?_⟩;cases y with
  |sl τ' l=>simp[aGt] at h;subst h;exact .inl ⟨τ',l,rfl,rfl⟩
  |_=>simp[aGt] at h;subst h;exact .inr ⟨by simp,rfl⟩
 |y::cs,j0,j+1,x,h=>by
  have h':(aGt i c τ q z (Nat.succ j0) cs)[j]? =some x:=by cases y<;>simpa[aGt] using h
  obtain⟨y',h1,h2⟩:=aVn cs (Nat.succ j0) j x h';refine⟨y',by simpa using h1,?_⟩;rw[show j0+(j+1)=Nat.succ j0+j by omega];exact h2
def aVo {i c τ:Nat}{q:Int}{z:U.El τ}:∀(cs:List (Lf U)) (j0:Nat),(aGt i c τ q z j0 cs).length=cs.length
 |[],_=>rfl
 |y::cs,j0=>by cases y<;>simp[aGt,aVo cs]
def OwL.at {d:Bool}:∀{vs:List Value} {xs:List (Lf U)} {B:List Nat},OwL C w X d vs xs B->∀(i:Nat) (v:Value) (x:Lf U),vs[i]? =some v->xs[i]? =some x->∃B',Ow C w X d v x B'/\∀b∈B',b∈B
 |_,_,_, .n,i,v,x,h,_=>by simp at h
 |_,_,_, .c h hr,i,v,x,h1,h2=>by
  cases i with
  |zero=>simp at h1 h2;subst h1;subst h2;exact⟨_,h,λb hb=>by simp[hb]⟩
  |succ i=>obtain⟨B',k1,k2⟩:=OwL.at hr i v x (by simpa using h1) (by simpa using h2);exact⟨B',k1,λb hb=>by simp[k2 b hb]⟩
def bDa (H:Hp C E m β w){i:Nat}{q:Int}{t:Tr}{e:EO U}{τ:Nat}{d:Bool}{L:List (U.El τ)}{z:U.El τ}(hβ:β[i]? =some t)(ho:m.o[i]? =some e)(he:e.ob= .tree τ d L)(h0:0<=q)(hz:L[q.toNat]? =some z):
  ∃xz:List Value,Ms C w (E.X β) β m xz (aGt i e.cv τ q z 0 (C.cel τ z))/\∀b,t.b=some b->∀(j:Nat) (v:Value),xz[j]? =some v->w.cell? (Addr.add ⟨b,0,none⟩ (q.toNat*U.K τ+j))=some v:=by
 obtain⟨l1,l2,x1,xz,x2,B1,Bz,B2,g1,g2,g3,g4,g5,g6,o1,o2,o3,_⟩:=aTg H hβ ho he hz;have hx:∀(j:Nat) (v:Value),xz[j]? =some v->(x1++(xz++x2))[q.toNat*U.K τ+j]? =some v:=λj v hj=>by
  rw[<-g4,ay (db _ _),cP,aq (lt_of_some hj)];exact hj
 refine⟨xz,⟨by rw[aVo,o2.len],λj v x h1 h2=> ?_⟩,λb hb j v hj=>pX g3 hb (hx j v hj)⟩;obtain⟨y,k1,k2⟩:=aVn _ _ _ _ h2;rw[ca] at k2;obtain⟨B',k3,_⟩:=o2.at j v y h1 k1;rcases k2 with⟨τ',l,rfl,rfl⟩|⟨k2,rfl⟩
 ·exact⟨⟨(H.vers i e ho).2,o2.ones v (az h1)⟩,e,t,ho,hβ,λ_=>⟨d,L,_,he,h0,hz,k1,g3,hx j v h1⟩⟩
 ·cases k3 with
  |int q1 q2=>exact⟨rfl,q1,q2⟩
  |bool=>rfl
  |str q=>exact⟨rfl,q⟩
  |fz=>exact absurd rfl (k2 _ _)
  |sl=>exact absurd rfl (k2 _ _)
  |su=>exact absurd rfl (k2 _ _)
def bBc (H:Hp C E m β w){i j τ':Nat}{q:Int}{t:Tr}{e:EO U}{τ:Nat}{L:List (U.El τ)}{z:U.El τ}{l:List (U.El τ')}{xs:List Value}{v:Value}(hβ:β[i]? =some t)(ho:m.o[i]? =some e)(he:e.ob= .tree τ true L)(hz:L[q.toNat]? =some z)
  (hj:(C.cel τ z)[j]? =some (.sl τ' l)) (hr:w.ownsRow 0 τ (U.K τ) t.val L.length xs) (hv:xs[q.toNat*U.K τ+j]? =some v):
  ∃(u:Tr) (ys:List Value),v=u.val/\w.ownsRow 0 τ' (U.K τ') u.val l.length ys/\OwL C w (E.X β) true ys (l.map (C.cel τ')).flatten u.bs/\∀b∈u.all,b∈t.all:=by
 obtain⟨l1,l2,x1,xz,x2,B1,Bz,B2,g1,g2,g3,g4,g5,g6,o1,o2,o3,_⟩:=aTg H hβ ho he hz;have hjl:j<xz.length:=by rw[g5,<-C.hlen τ z];exact lt_of_some hj
 have hvz:xz[j]? =some v:=by rw[aVm hr g3,<-g4,ay (db _ _),cP,aq hjl] at hv;exact hv
 obtain⟨B',k3,k4⟩:=o2.at j v _ hvz hj;cases k3 with
 |fz hd=>cases hd
 |su hd=>cases hd
 |sl u hk hown hc=>exact⟨u,_,rfl,hown,hc,λb hb=>by have:=k4 b hb;simp[Tr.all,g6,this]⟩
def bMd {u:Tr}{b n' c':Nat}(h:u.val= .slice (some ⟨b,0,none⟩) n' c'):u.b=some b:=by
 cases hb:u.b with
 |none=>simp[Tr.val,hb] at h
 |some k=>simp[Tr.val,hb] at h;rw[h.1]
def aVp {i c:Nat}:∀(cs:List (Lf U)) (j:Nat) (x:Lf U),(aGu i c cs)[j]? =some x->∃y,cs[j]? =some y/\((∃τ l,y= .sl τ l/\x= .bor i c τ l)\/((∀τ l,y≠ .sl τ l)/\x=y))
 |[],j,x,h=>by simp[aGu] at h
 |y::cs,0,x,h=>by
  refine⟨y,rfl,?_⟩;cases y with
  |sl τ l=>simp[aGu] at h;subst h;exact .inl ⟨τ,l,rfl,rfl⟩
  |_=>simp[aGu] at h;subst h;exact .inr ⟨by simp,rfl⟩
 |y::cs,j+1,x,h=>by
  have h':(aGu i c cs)[j]? =some x:=by cases y<;>simpa[aGu] using h
  obtain⟨y',h1,h2⟩:=aVp cs j x h';exact⟨y',by simpa using h1,h2⟩
def aVq {i c:Nat}:∀(cs:List (Lf U)),(aGu i c cs).length=cs.length
 |[]=>rfl
 |y::cs=>by cases y<;>simp[aGu,aVq cs]
def Cz {i c:Nat}(h:okv m i c=true):∃e,m.o[i]? =some e/\e.cv=c:=by
 unfold okv at h;rw[aS] at h;cases he:m.o[i]? with
 |none=>simp[he] at h
 |some e=>simp only[he] at h;exact⟨e,rfl,ah h⟩
def aTh (r:bE C E s a w β){t k j i off:Nat}{y:Lf U}{v:Value}(kk:IntKind)(ha:arB P t k=true)(hj:j<k)(hm:(Lf.box i off:Lf U).mean C w (E.X β) β s.m v)(h:tJ s.m j (.box i off)=some y):
  ∃v',(∀w':World,(Instr.indexAt t v (.int kk (j:Int))).run P w'= .ok v' w')/\y.mean C w (E.X β) β s.m v':=by
 simp only[tJ,aS] at h;obtain⟨_,e,tr,h1,h2,h3⟩:=hm;simp only[h1] at h;obtain⟨ob,rv,cv⟩:=e;cases ob with
 |box T cs us=>simp only[ai] at h;subst h;obtain⟨b,h4,rfl⟩:=h3 rfl;refine⟨_,λw'=>bKe ha hj _ kk,⟨rfl,⟨.box T cs us,rv,cv⟩,tr,h1,h2,λ_=>⟨b,h4,by rw[fG]⟩⟩⟩
 |_=>cases h
def N8 (r:bE C E s a w β){t f:Nat}{off:Nat}{x y:Lf U}{v:Value}(hf:bFv P t f off=true)(hm:x.mean C w (E.X β) β s.m v)(h:tJ s.m off x=some y):
  ∃v',(∀w':World,(Instr.fieldAt t v f).run P w'= .ok v' w')/\y.mean C w (E.X β) β s.m v':=by
 cases x with
 |box i o=>
  simp only[tJ,aS] at h;obtain⟨_,e,tr,h1,h2,h3⟩:=hm;simp only[h1] at h;obtain⟨ob,rv,cv⟩:=e;cases ob with
  |box T cs us=>simp only[ai] at h;subst h;obtain⟨b,h4,rfl⟩:=h3 rfl;refine⟨_,λw'=>aJo hf _,⟨rfl,⟨.box T cs us,rv,cv⟩,tr,h1,h2,λ_=>⟨b,h4,by rw[fG]⟩⟩⟩
  |_=>cases h
 |ptr τ z o=>
  simp only[tJ,ai] at h;subst h;have hm':Rd w (E.X β) [] v (.elem ((U.enc τ z).drop o)):=hm;cases v with
  |pointer p=>
   cases hm' with
   | @elem _ ad _ val hX hb hcell hrd=>
    refine⟨.pointer (some (ad.add off)),λw'=>aJo hf _,?_⟩;show Rd w (E.X β) [] _ (.elem ((U.enc τ z).drop (o+off)));refine .elem (val:=λj=>val (off+j)) (by rw[add_block];exact hX) (by rw[add_block];exact hb) (λj d hj=> ?_) (λj d hj=> ?_)
    ·rw[add_add'];exact hcell _ d (by rw[eh] at hj ⊢;rw[<-gf];exact hj)
    ·exact hrd _ d (by rw[eh] at hj ⊢;rw[<-gf];exact hj)
  |_=>cases hm'
 |oel i c τ q z o=>
  simp only[tJ] at h;cases hv:okv s.m i c with
  |false=>simp[hv] at h
  |true=>simp only[hv,ac,ai] at h;subst h;obtain⟨h0,e,tr,h1,h2,h3⟩:=hm;obtain⟨e',k1,k2⟩:=Cz hv;rw[h1] at k1;injection k1 with k1;subst k1;obtain⟨d,L,b,a1,a2,a3,a4,rfl⟩:=h3 k2;refine⟨_,λw'=>aJo hf _,⟨⟨h0.1,rfl⟩,e,tr,h1,h2,λ_=>⟨d,L,b,a1,a2,a3,a4,by rw[fG,gf]⟩⟩⟩
 |_=>cases h
def aQx (r:bE Y.C E s a w β){t:Nat}{i:TInfo}(hti:tiB P t i=true){x:Lf U}{y:Sv U}{v:Value}(hm:x.mean Y.C w (E.X β) β s.m v)(h:load Y s i x=some y):
  ∃p v',v= .pointer (some p)/\(∀w',Ext w w'->(loadVar t p).run P w'= .ok v' w')/\y.mean Y.C w (E.X β) β s.m v':=by
 cases x with
 |box b o=>
  simp only[load,aS] at h;obtain⟨_,e,tr,h1,h2,h3⟩:=hm;simp only[h1] at h;have hok:=r.hp.ok b tr e h2 h1;obtain⟨ob,rv,cv⟩:=e;cases ob with
  |box T cs us=>
   obtain⟨bb,h4,rfl⟩:=h3 rfl;obtain⟨_,b',vs,k1,k2,k3,k4⟩:=hok;rw[h4] at k1;injection k1 with k1;subst k1;obtain⟨v',q1,q2⟩:=N7 (P:=P) (p:=⟨bb,o,none⟩) hti h (k4.drop o) (λw' he j u hj=>by
    rw[fG,cell_of_row w' bb (o+j) _ T (0,0) (he.heap k3)];simpa using hj)
   exact⟨_,v',rfl,q1,q2⟩
  |_=>cases h
 |ptr τ z o=>
  simp only[load] at h;have hm':Rd w (E.X β) [] v (.elem ((U.enc τ z).drop o)):=hm;cases v with
  |pointer p=>
   cases hm' with
   | @elem _ ad _ val hX hb hcell hrd=>
    have hlen:((List.range ((Y.C.cel τ z).drop o).length).map val).length=((Y.C.cel τ z).drop o).length:=by simp
    obtain⟨v',q1,q2⟩:=N7 (P:=P) (p:=ad) (vs:=(List.range ((Y.C.cel τ z).drop o).length).map val) hti h (m:=s.m) (C:=Y.C) (w:=w) (X:=E.X β) (β:=β) ⟨hlen,λj u c h5 h6=>by
      have hjl:=lt_of_some h6;simp only[bh,d8 hjl,cJ,ai] at h5;subst h5;have hd:((U.enc τ z).drop o)[j]? =some c.toV:=by rw[<-Y.C.hcel,<-fv,bh,h6];rfl
      have hr:=hrd j _ hd;have hdat:=Y.C.hdat τ z c (dn (az h6));cases c with
      |int k n=>exact hr.aAP
      |bool b=>exact hr.aAW
      |str b=>exact hr.aAT
      |sl τ' l=>exact hr
      |_=>cases hdat⟩ (λw' he j u hj=>by
      have hjl:j<((Y.C.cel τ z).drop o).length:=by have:=lt_of_some hj;rw[hlen] at this;exact this
      simp only[bh,d8 hjl,cJ,ai] at hj;subst hj;exact he.cell (hcell j (((U.enc τ z).drop o)[j]'(by rw[<-Y.C.hcel,<-fv,bl];exact hjl)) (ae _)))
    exact⟨_,v',rfl,q1,q2⟩
  |_=>cases hm'
 |oel b c τ q z o=>
  simp only[load] at h;cases hv:okv s.m b c with
  |false=>simp[hv] at h
  |true=>
   simp only[hv,ac] at h;obtain⟨h0,e,tr,h1,h2,h3⟩:=hm;obtain⟨e',k1,k2⟩:=Cz hv;rw[h1] at k1;injection k1 with k1;subst k1;subst k2;obtain⟨d,L,bb,a1,a2,a3,a4,rfl⟩:=h3 rfl;obtain⟨xz,m1,m2⟩:=bDa r.hp h2 h1 a1 a2 a3;obtain⟨v',q1,q2⟩:=N7 (P:=P) (p:=⟨bb,q.toNat*U.K τ+o,none⟩) hti h (m1.drop o) (λw' he j u hj=>by
    have:=he.cell (m2 bb a4 (o+j) u (by simpa using hj));rw[fG] at this ⊢;rw[show q.toNat*U.K τ+o+j=0+(q.toNat*U.K τ+(o+j)) by omega];exact this)
   exact⟨_,v',rfl,q1,q2⟩
 |oin b c τ q z j τ' l q' z' o=>
  simp only[load] at h;cases hv:okv s.m b c with
  |false=>simp[hv] at h
  |true=>
   simp only[hv,ac] at h;obtain⟨h0,e,tr,h1,h2,h3⟩:=hm;obtain⟨e',k1,k2⟩:=Cz hv;rw[h1] at k1;injection k1 with k1;subst k1;subst k2;obtain⟨L,xs,v0,bb,n',c',a1,a2,a3,a4,a5,a6,a7,a8,a9,rfl⟩:=h3 rfl;obtain⟨u,ys,b1,b2,b3,b4⟩:=bBc r.hp h2 h1 a1 a3 a4 a5 a6;have hub:u.b=some bb:=bMd (b1.symm.trans a7);obtain⟨l1,l2,x1,xz,x2,B1,Bz,B2,g1,g2,g3,g4,g5,g6,o1,o2,o3⟩:=aTf b3 a9;have m1:Ms Y.C w (E.X β) β s.m xz (aGu b e.cv (Y.C.cel τ' z')):=⟨by rw[aVq,o2.len],λjj v x f1 f2=>by
    obtain⟨y,f3,f4⟩:=aVp _ _ _ f2;obtain⟨B',f5,f6⟩:=o2.at jj v y f1 f3;rcases f4 with⟨τ2,l2,rfl,rfl⟩|⟨f4,rfl⟩
    ·exact⟨⟨(r.hp.vers b e h1).2,o2.ones v (az f1)⟩,e,tr,h1,h2,λ_=>(o2.rd (Z:=λb=>E.X β b/\b∉tr.all) (λb hb'=>hb'.1) (λb hb' hn=>hn.2 (b4 b (by simp[Tr.all,g6,hb'])))).2 jj v _ f1 f3⟩
    ·cases f5 with
     |int q1 q2=>exact⟨rfl,q1,q2⟩
     |bool=>rfl
     |str q=>exact⟨rfl,q⟩
     |fz=>exact absurd rfl (f4 _ _)
     |sl=>exact absurd rfl (f4 _ _)
     |su=>exact absurd rfl (f4 _ _)⟩
   obtain⟨v',q1,q2⟩:=N7 (P:=P) (p:=⟨bb,q'.toNat*U.K τ'+o,none⟩) hti h (m1.drop o) (λw' he jj u' hj=>by
    have hx:ys[q'.toNat*U.K τ'+(o+jj)]? =some u':=by
     have hj':xz[o+jj]? =some u':=by simpa using hj
     rw[g3,<-g4,ay (db _ _),cP,aq (lt_of_some hj')];exact hj'
    have:=he.cell (pX b2 hub hx);rw[fG] at this ⊢;rw[show q'.toNat*U.K τ'+o+jj=0+(q'.toNat*U.K τ'+(o+jj)) by omega];exact this)
   exact⟨_,v',rfl,q1,q2⟩
 |_=>cases h
end
end Go.EV
namespace Go.EV
open Go.RowKit Go.VK
variable {U:Uni} {Y:Lay U} {TI:List (Nat×TInfo)} {P:Program} {g:GI} {E:Env U g}
section
variable {s:St U} {m:Mm U} {a:Act} {w w':World} {β β':List Tr} {X:Nat->Prop}
def lZ {x:Operand}(r:bE Y.C E s a w β){y:Lf U}(h:dV s x= .l y):y.mean Y.C w (E.X β) β s.m (a.eval x):=by have:=xC r (x:=x);rw[h] at this;exact this
def bN3 {x:Operand}(r:bE Y.C E s a w β){cs:List (Lf U)}(h:uA s x= .a cs):∃vs:List Value,a.eval x= .agg vs.toArray/\Ms Y.C w (E.X β) β s.m vs cs:=by have:=jL r (x:=x);rw[h] at this;exact this
def bGg {x:Operand}{cs:List (Lf U)}(h:dV s x= .a cs):uA s x= .a cs:=by
 unfold dV at h;cases ho:uA s x with
 |l y=>simp[ho] at h
 |a ds=>simp only[ho] at h;exact h
 |t xs=>simp[ho] at h
def bP8 {x:Operand}{xs:List (Bool×List (Lf U))}(h:dV s x= .t xs):uA s x= .t xs:=by
 unfold dV at h;cases ho:uA s x with
 |l y=>simp[ho] at h
 |a ds=>simp[ho] at h
 |t xs=>simp only[ho] at h;exact h
def aKa {v:Value}{x:Lf U}(hm:x.mean Y.C w X β m v)(h:bF4 x=true):v.oneCell'=true:=by
 cases x with
 |int=>obtain⟨rfl,_⟩:=hm;rfl
 |bool=>obtain rfl:=hm;rfl
 |str=>obtain⟨rfl,_⟩:=hm;rfl
 |nat=>obtain⟨_,_,_,rfl,_⟩:=hm;rfl
 |lt=>obtain⟨_,_,_,rfl,_⟩:=hm;rfl
 |sl τ l=>exact Rd.one hm rfl
 |nil=>obtain rfl:=hm;rfl
 |own=>exact hm.1.2
 |bor=>exact hm.1.2
 |inn=>exact hm.1.2
 |oel=>exact hm.1.2
 |oin=>exact hm.1.2
 |suf=>exact hm.1.2
 |box=>exact hm.1
 |ptr τ z off=>have hm':Rd w X [] v (.elem ((U.enc τ z).drop off)):=hm;exact Rd.one hm' rfl
 |und=>cases h
 |any=>cases h
def aTi:∀{cs:List (Lf U)},Cq cs=true->∀c∈cs,bF4 c=true
 |[],_,c,hc=>by simp at hc
 |x::xs,h,c,hc=>by
  simp only[Cq,aa] at h;rcases aE.1 hc with rfl|hc
  ·exact h.1
  ·exact aTi h.2 c hc
def xE {v:Value}{x:Sv U}{ps:List (Lf U)}(hm:x.mean Y.C w X β m v)(hp:parts x=some ps)(h1:Cq ps=true):Ms Y.C w X β m v.cells.toList ps/\∀u∈v.cells.toList,u.oneCell'=true:=by
 have key:∀{vs:List Value},Ms Y.C w X β m vs ps->∀u∈vs,u.oneCell'=true:=λ{vs} hM u hu=>by
  obtain⟨i,hi⟩:=cV.1 hu;have hil:i<ps.length:=by rw[<-hM.1];exact lt_of_some hi
  exact aKa (hM.2 i u _ hi (ae hil)) (aTi h1 _ (cN hil))
 cases x with
 |l y=>
  simp only[parts,ai] at hp;subst hp;have ho:=aKa (Y:=Y) (m:=m) (β:=β) hm (aTi h1 y (by simp));rw[Sc ho];have hM:Ms Y.C w X β m [v] [y]:=⟨rfl,λi u c h5 h6=>by
   cases i with
   |zero=>simp at h5 h6;subst h5;subst h6;exact hm
   |succ i=>simp at h5⟩
  exact⟨hM,key hM⟩
 |a cs=>simp only[parts,ai] at hp;subst hp;obtain⟨vs,rfl,hM⟩:=hm;have e:(Value.agg vs.toArray).cells.toList=vs:=rfl;rw[e];exact⟨hM,key hM⟩
 |t xs=>cases hp
def bBd:∀{l:List (Nat×Nat)} {fs:List (Nat×Nat×Nat)} {n:Nat} {off ft k:Nat},aTc l fs=true->fs[n]? =some (off,ft,k)->l[n]? =some (off,k)
 |[],[],n,off,ft,k,_,h=>by simp at h
 |[],_::_,n,off,ft,k,h,_=>by cases h
 |_::_,[],n,off,ft,k,h,_=>by cases h
 |(x,y)::l,(o,f,c)::fs,0,off,ft,k,h,hn=>by
  simp only[aTc,aa] at h;simp at hn;obtain⟨rfl,rfl,rfl⟩:=hn;rw[ah h.1.1,ah h.1.2];rfl
 |(x,y)::l,(o,f,c)::fs,n+1,off,ft,k,h,hn=>by
  simp only[aTc,aa] at h;simpa using bBd h.2 (by simpa using hn)
def aVr (r:bE Y.C E s a w β){pls:List (Nat×Nat)}{fs:List (Nat×Nat×Nat)}(hp:aTc pls fs=true):∀{xs:List (Nat×Operand)} {cs ds:List (Lf U)},aYi s fs xs cs=some ds->
  ∀cells:Array Value,Ms Y.C w (E.X β) β s.m cells.toList cs->∃res,Instr.fill (λi=>pls.toArray[i]?) cells (xs.map λ(i,x)=>(i,a.eval x))=some res/\Ms Y.C w (E.X β) β s.m res.toList ds
 |[],cs,ds,h,cells,hM=>by
  simp only[aYi,ai] at h;subst h;exact⟨cells,rfl,hM⟩
 |(f,x)::xs,cs,ds,h,cells,hM=>by
  simp only[aYi,fld,aS] at h;cases hf:fs[f]? with
  |none=>simp[hf] at h
  |some q=>
   obtain⟨off,ft,n⟩:=q;cases hps:parts (uA s x) with
   |none=>simp[hf,hps] at h
   |some ps=>
    simp only[hf,hps] at h;cases hb:(Nat.beq (len ps) n&&Nat.ble (off+n) (len cs)&&Cq ps) with
    |false=>rw[hb] at h;cases h
    |true=>
     rw[hb] at h;simp only[ac] at h;simp only[aa,bK] at hb;obtain⟨⟨b1,b2⟩,b3⟩:=hb;have b1:=ah b1;have b2:=bf b2;have hpm:=(xE (jL r (x:=x)) hps b3).1;have hcl:cells.size=cs.length:=by have:=hM.1;simpa using this
     have hsz:(a.eval x).cells.toList.length=n:=by rw[hpm.1,b1]
     have hfg:=K9 off (a.eval x).cells.toList 0 cells (by rw[hsz,hcl];omega);rw[Gx _ _ _ (by rw[b1];omega)] at h;obtain⟨res,r1,r2⟩:=aVr r hp h ((((a.eval x).cells.toList.zipIdx 0).foldl (λcs (cc,j)=>cs.setIfInBounds (off+j) cc) cells)) ⟨by
       have:=hfg.1;simp only[cy,this,hcl,au,ce,cn];omega,λj v c h5 h6=>by
       have h5':(((a.eval x).cells.toList.zipIdx 0).foldl (λcs (cc,j)=>cs.setIfInBounds (off+j) cc) cells)[j]? =some v:=by simpa using h5
       rw[hfg.2] at h5';rw[wZ _ _ _ _ (by rw[b1];omega)] at h6;simp only[eg,hsz] at h5';rw[b1] at h6;split at h5'
       ·rename_i hj;rw[cH hj] at h6;exact hpm.2 _ v c h5' h6
       ·rename_i hj;rw[cX hj] at h6;exact hM.2 j v c (by simpa using h5') h6⟩
     refine⟨res,?_,r2⟩;simp only[bm,Instr.fill];have hg:pls.toArray[f]? =some (off,n):=by simpa using bBd hp hf
     rw[hg];simp only;have hcs:(a.eval x).cells.size=n:=by rw[<-hsz];simp
     rw[cX (by simp only[hcs,hcl];simp;omega)];rw[<-iv,ip];exact r1
def bBe {v:Value}{z:Kz}(h:kzB v z=true):(z.lf:Lf U).mean Y.C w X β m v:=by
 unfold kzB at h;split at h
 ·simp only[aa,bp] at h;obtain⟨⟨⟨rfl,rfl⟩,h1⟩,h2⟩:=h;exact⟨rfl,h1,h2⟩
 ·rename_i b;have:b=false:=by simpa using h
  subst this;rfl
 ·rename_i b;have hs:b.data.size=0:=ah h;have hb:b=⟨#[]⟩:=by
   cases b with
   |mk d=>have hd:d= #[]:=Array.eq_empty_of_size_eq_zero hs;rw[hd]
  subst hb;exact⟨rfl,by decide⟩
 ·rfl
 ·cases h
def Ng:∀{vs:List Value} {zs:List Kz},aYr vs zs=true->Ms Y.C w X β m vs (zs.map (Kz.lf:Kz->Lf U))
 |[],[],_=>⟨rfl,by simp⟩
 |[],_::_,h=>by cases h
 |_::_,[],h=>by cases h
 |v::vs,z::zs,h=>by
  simp only[aYr,aa] at h;have ih:=Ng h.2;refine⟨by simp[ih.1],λi u c h1 h2=> ?_⟩
  cases i with
  |zero=>simp at h1 h2;subst h1;subst h2;exact bBe h.1
  |succ i=>exact ih.2 i u c (by simpa using h1) (by simpa using h2)
def sI {C:Cod U}{v:Value}{x:Bool×List (Lf U)}(h:Mp C w X β m v x):(aYh x).mean C w X β m v:=by
 obtain⟨b,cs⟩:=x;cases b with
 |false=>obtain⟨c,rfl,h⟩:=h;exact h
 |true=>exact h
def aKb {t:Nat}{i:TInfo}{vs:List Value}{cs:List (Lf U)}{off:Nat}{x:Sv U}(hti:tiB P t i=true)(hc:cut i cs off=some x)(hM:Ms Y.C w X β m vs cs):
  ∃v,(∀w',(part t vs.toArray off).run P w'= .ok v w')/\x.mean Y.C w X β m v:=by
 rcases aQw hc with⟨fs,ds,hu,h1,h2,rfl⟩|⟨hu,y,h1,rfl⟩
 ·have hag:=(M8 hti hu).1;have hl:i.k<=vs.length-off:=by rw[hM.1,<-h2,h1,ce,cn];exact Nat.min_le_right _ _
  refine⟨.agg (vs.toArray.extract off (off+i.k)),λw'=> ?_,(vs.drop off).take i.k,?_,?_,λj v c h5 h6=> ?_⟩
  ·have e1:=(wY (w:=w') hag).1;have e2:=(wY (w:=w') hag).2;simp[part,e1,e2]
  ·congr 1;apply gS;simp[List.extract,cP]
  ·rw[h2,ce,cn];omega
  ·rw[eK] at h5;split at h5
   ·rw[h1,eK] at h6;split at h6
    ·exact hM.2 (off+j) v c (by simpa using h5) (by simpa using h6)
    ·exact absurd ‹j<i.k› ‹¬j<i.k›
   ·simp at h5
 ·have ho:=(bGf hti hu).1;have hl:off<vs.length:=by rw[hM.1];exact lt_of_some h1
  exact⟨vs[off],λw'=>L6 ho (by simp[hl]),hM.2 off _ y (ae hl) h1⟩
end
end Go.EV
namespace Go.EV
open Go.RowKit Go.VK
variable {U:Uni} {Y:Lay U} {TI:List (Nat×TInfo)} {P:Program} {g:GI} {E:Env U g}
section
variable {s:St U} {a:Act} {w:World} {β:List Tr} {α:Type}
def kL (r:bE Y.C E s a w β){op:Op}{k:IntKind}{n:Int}(h:∀E':VK.Env P g,zR E' (brS s false) op (.int k n)):MO P Y.C E s a w β op (.l (.int k n)):=aVl r false h (λv hv=>bP7 hv)
def mY (r:bE Y.C E s a w β){op:Op}{b:Bool}(h:∀E':VK.Env P g,zR E' (brS s false) op (.bool b)):MO P Y.C E s a w β op (.l (.bool b)):=aVl r false h (λv hv=>bN2 hv)
def aTj (r:bE Y.C E s a w β){op:Op}{z:ByteArray}(h:∀E':VK.Env P g,zR E' (brS s false) op (.str z)):MO P Y.C E s a w β op (.l (.str z)):=aVl r false h (λv hv=>bMc hv)
def aKc (r:bE Y.C E s a w β){b:BinOp}{t u:TypeId}{x y:Operand}{k:IntKind}{m n:Int}{z:Lf U}(hx:dV s x= .l (.int k m))(hy:dV s y= .l (.int k n))(h:bJ1 b k m n=some z):MO P Y.C E s a w β (.binOp b t x y u) (.l z):=by
 cases b<;>simp only[bJ1,ai,reduceCtorEq] at h<;>subst h
 ·exact kL r λ_=>add (dC hx) (dC hy)
 ·exact kL r λ_=>sub (dC hx) (dC hy)
 ·exact kL r λ_=>mul (dC hx) (dC hy)
 ·exact kL r λ_=>bNr (dC hx) (dC hy)
 ·exact kL r λ_=>bP2 (dC hx) (dC hy)
 ·exact kL r λ_=>bNs (dC hx) (dC hy)
 ·exact mY r λ_=>eql (dC hx) (dC hy)
 ·exact mY r λ_=>neq (dC hx) (dC hy)
 ·exact mY r λ_=>lss (dC hx) (dC hy)
 ·exact mY r λ_=>leq (dC hx) (dC hy)
 ·exact mY r λ_=>gtr (dC hx) (dC hy)
 ·exact mY r λ_=>geq (dC hx) (dC hy)
def aKd (r:bE Y.C E s a w β){b:BinOp}{t u:TypeId}{x y:Operand}{m n:ByteArray}{z:Lf U}(hx:dV s x= .l (.str m))(hy:dV s y= .l (.str n))(h:bJ2 b m n=some z):MO P Y.C E s a w β (.binOp b t x y u) (.l z):=by
 cases b<;>simp only[bJ2,ai,reduceCtorEq] at h<;>subst h
 ·exact mY r λ_=>bRm (xD hx) (xD hy)
 ·exact mY r λ_=>sne (xD hx) (xD hy)
def bGh {i off ft n:Nat}{fs:List (Nat×Nat×Nat)}{c d:Lf U}{cs ds:List (Lf U)}{z:Bool}(h:eqQ TI i ((off,ft,n)::fs) (c::cs) (d::ds)=some z):off=i/\∃r,eqQ TI (Nat.succ i) fs cs ds=some r/\
  ((∃k k1 z1 q m n,iJ TI ft=some ⟨.int q,k1,z1⟩/\c= .int k m/\d= .int k n/\z=(m==n&&r))\/(∃k1 z1 m n,iJ TI ft=some ⟨.bool,k1,z1⟩/\c= .bool m/\d= .bool n/\z=(m==n&&r))\/(∃k1 z1 m n,iJ TI ft=some ⟨.str,k1,z1⟩/\c= .str m/\d= .str n/\z=(m.toList==n.toList&&r))):=by
 unfold eqQ at h;cases hb:Nat.beq off i with
 |false=>rw[hb] at h;cases h
 |true=>
  rw[hb] at h;refine⟨ah hb,?_⟩;simp only[ac] at h;split at h
  ·rename_i r hr;refine⟨r,hr,?_⟩;split at h
   ·rename_i q k1 z1 k m k' n hf;split at h
    ·rename_i he;subst he;exact .inl ⟨k,k1,z1,q,m,n,hf,rfl,rfl,(ak h).symm⟩
    ·cases h
   ·rename_i k1 z1 m n hf;exact .inr (.inl ⟨k1,z1,m,n,hf,rfl,rfl,(ak h).symm⟩)
   ·rename_i k1 z1 m n hf;exact .inr (.inr ⟨k1,z1,m,n,hf,rfl,rfl,(ak h).symm⟩)
   ·cases h
  ·cases h
def bGi {D:Nat}{w w':World}{C:Cod U}{X:Nat->Prop}{β:List Tr}{m:Mm U}(hTI:pY P TI=true){xs ys:Array Value}:∀{fs:List (Nat×Nat×Nat)} {fds:List Field} {i:Nat} {cs ds:List (Lf U)} {z:Bool},fds.length=fs.length->
  (∀(j:Nat) (fd:Field) (q:Nat×Nat×Nat),fds[j]? =some fd->fs[j]? =some q->fd.type=q.2.1/\fd.offset=q.1)->
  (∀(j:Nat) (c:Lf U),cs[j]? =some c->∃v,xs[i+j]? =some v/\c.mean C w X β m v)->(∀(j:Nat) (c:Lf U),ds[j]? =some c->∃v,ys[i+j]? =some v/\c.mean C w X β m v)->
  eqQ TI i fs cs ds=some z->fds.all (Cs P)=true/\((fds.all λf=>f.name != "_")=true->(Op.eqFields (D+1) xs ys fds).run P w'= .ok z w')
 |[],fds,i,cs,ds,z,hl,_,_,_,he=>by
  have h1:fds=[]:=List.length_eq_zero_iff.1 hl;subst h1;cases cs<;>cases ds<;>first|(simp only[eqQ,ai] at he;subst he;exact⟨rfl,λ_=>bA4⟩)|cases he
 |(off,ft,n)::fs,[],i,cs,ds,z,hl,_,_,_,_=>by cases hl
 |(off,ft,n)::fs,fd::fds,i,[],ds,z,_,_,_,_,he=>by cases ds<;>cases he
 |(off,ft,n)::fs,fd::fds,i,c::cs,[],z,_,_,_,_,he=>by cases he
 |(off,ft,n)::fs,fd::fds,i,c::cs,d::ds,z,hl,hfd,hx,hy,he=>by
  obtain⟨h1,r,hr,hcase⟩:=bGh he;obtain⟨k1,k2⟩:=hfd 0 fd (off,ft,n) rfl rfl;have ho:fd.offset=i:=k2.trans h1;obtain⟨v,x1,x2⟩:=hx 0 c rfl;obtain⟨u,y1,y2⟩:=hy 0 d rfl;rw[eg] at x1 y1;obtain⟨g1,g2⟩:=bGi (D:=D) (w':=w') hTI (fs:=fs) (fds:=fds) (i:=Nat.succ i) (by simpa using hl) (λj fd q a b=>hfd (j+1) fd q (by simpa using a) (by simpa using b))
   (λj c h=>by have:=hx (j+1) c (by simpa using h);rwa [show i+(j+1)=Nat.succ i+j by omega] at this) (λj c h=>by have:=hy (j+1) c (by simpa using h);rwa [show i+(j+1)=Nat.succ i+j by omega] at this) hr
  have fin:∀{q:Bool},Cs P fd=true->Mv P fd.type=true->(Op.equalIn (D+1) fd.type v u).run P w'= .ok q w'->z=(q&&r)->(fd::fds).all (Cs P)=true/\(((fd::fds).all λf=>f.name != "_")=true->(Op.eqFields (D+1) xs ys (fd::fds)).run P w'= .ok z w'):=λa1 a2 a3 a4=>by
   refine⟨by rw[gx,a1,g1];rfl,λhn=> ?_⟩;rw[gx,aa] at hn;rw[a4];exact bF2 hn.1 a2 (by rw[ho];exact x1) (by rw[ho];exact y1) a3 (g2 hn.2)
  have k1:fd.type=ft:=k1;rcases hcase with⟨k,j1,z1,q,m,n,hf,rfl,rfl,hz⟩|⟨j1,z1,m,n,hf,rfl,rfl,hz⟩|⟨j1,z1,m,n,hf,rfl,rfl,hz⟩
  ·obtain⟨t1,t2,_⟩:=Nf (bT hTI hf) rfl;obtain⟨rfl,_⟩:=x2;obtain⟨rfl,_⟩:=y2;exact fin (by simp[Cs,k1,t1]) (by rw[k1];exact t2) (by rw[k1];exact run_equalIn_int w' D _ _ _ _ _ t1) hz
  ·obtain⟨t1,t2,_⟩:=M7 (bT hTI hf) rfl;obtain rfl:=x2;obtain rfl:=y2;exact fin (by simp[Cs,k1,t1]) (by rw[k1];exact t2) (by rw[k1];exact run_equalIn_bool' w' D _ _ _ t1) hz
  ·obtain⟨t1,t2,_⟩:=Gy (bT hTI hf) rfl;obtain⟨rfl,_⟩:=x2;obtain⟨rfl,_⟩:=y2;exact fin (by simp[Cs,k1,t1]) (by rw[k1];exact t2) (by rw[k1];exact run_equalIn_string w' D _ _ _ t1) hz
def aVs {P:Program}:∀{fs:List Field} {l:List (Nat×Nat)},aS7 P fs=some l->l.length=fs.length
 |[],l,h=>by simp[aS7] at h;subst h;rfl
 |f::fs,l,h=>by
  simp only[aS7] at h;split at h
  ·rename_i i l' _ h2;have:=ak h;subst this;simp[aVs h2]
  ·cases h
def aVt:∀{l:List (Nat×Nat)} {fs:List (Nat×Nat×Nat)},aTc l fs=true->l.length=fs.length
 |[],[],_=>rfl
 |[],_::_,h=>by cases h
 |_::_,[],h=>by cases h
 |(a,b)::l,(off,ft,n)::fs,h=>by
  simp only[aTc,aa] at h;simp[aVt h.2]
def bGj {P:Program}{f:Field}(h:Cs P f=true):Iz P f.type=true:=by
 unfold Cs at h;unfold Iz;cases hu:P.underlying f.type with
 |none=>simp[hu] at h
 |some d=>cases d<;>simp_all
def bDb {P:Program}{l:List Field}(h:l.all (Cs P)=true):(l.all λf=>Iz P f.type)=true:=by rw[cF] at h ⊢;exact λf hf=>bGj (h f hf)
def bGk {t:Nat}{f:Nat×Nat×Nat}{fs:List (Nat×Nat×Nat)}{k:Nat}{zz:List Kz}(hTI:pY P TI=true)(h1:iJ TI t=some ⟨.st (f::fs),k,zz⟩):∃fds:Array Field,P.underlying t=some (.struct fds)/\fds.toList.length=(f::fs).length/\
  (∀(j:Nat) (fd:Field) (q:Nat×Nat×Nat),fds.toList[j]? =some fd->(f::fs)[j]? =some q->fd.type=q.2.1/\fd.offset=q.1)/\
  ((fds.toList.all λf=>Iz P f.type)=true->P.eqGuardType P.depth t=false/\P.stoodInHeld t=false/\(fds.toList.all λf=>f.name != "_")=true):=by
 obtain⟨_,hfs,hor⟩:=M8 (bT hTI h1) rfl;have heq:=bP5 (bT hTI h1) rfl;rcases hor with⟨_,pls,k1,k2⟩|⟨hne,_⟩
 ·unfold aJs at k1;cases hu:P.underlying t with
  |none=>simp[hu] at k1
  |some d=>
   cases d<;>simp[hu] at k1;rename_i fds;refine⟨fds,rfl,(aVs k1).symm.trans (aVt k2),λj fd qq ha hc=> ?_,λhf=> ?_⟩
   ·have h5:=(aJ9 hfs (n:=j) (off:=qq.1) (ft:=qq.2.1) (k:=qq.2.2) hc).2.1;rw[ca] at h5;simp only[bC3,hu] at h5;rw[<-Array.getElem?_toList,ha] at h5;simpa using h5
   ·simp only[bN1,hu,hf,ba,cL,aa,cq] at heq;exact⟨heq.1,heq.2.1,heq.2.2⟩
 ·cases hne
def bBf {D:Nat}{w:World}{C:Cod U}{X:Nat->Prop}{β:List Tr}{m:Mm U}(hTI:pY P TI=true){t:Nat}{f:Nat×Nat×Nat}{fs:List (Nat×Nat×Nat)}{k:Nat}{zz:List Kz}{cs ds:List (Lf U)}{q:Bool}{vs us:List Value}(h1:iJ TI t=some ⟨.st (f::fs),k,zz⟩)
  (hv:Ms C w X β m vs cs) (hu:Ms C w X β m us ds) (h2:eqQ TI 0 (f::fs) cs ds=some q):P.eqGuardType P.depth t=false/\Iz P t=true/\∀w':World,(Op.equalIn (D+2) t (.agg vs.toArray) (.agg us.toArray)).run P w'= .ok q w':=by
 obtain⟨fds,hfd,hlen,hty,hok⟩:=bGk hTI h1;have hget:∀(l:List Value) (e:List (Lf U)),Ms C w X β m l e->∀(j:Nat) (c:Lf U),e[j]? =some c->∃v,l.toArray[0+j]? =some v/\c.mean C w X β m v:=λl e hm j c hc=>by
  have hj:j<l.length:=by rw[hm.1];exact(bc.1 hc).1
  exact⟨l[j],by simp[hj],hm.2 j _ c (ae hj) hc⟩
 have key:=λw':World=>bGi (D:=D) (w:=w) (w':=w') (C:=C) (X:=X) (β:=β) (m:=m) hTI (xs:=vs.toArray) (ys:=us.toArray) (fds:=fds.toList) (i:=0) hlen hty (hget vs cs hv) (hget us ds hu) h2;obtain⟨e1,e2,e3⟩:=hok (bDb (key w).1);refine⟨e1,by simp only[Iz,hfd];exact(key w).1,λw'=> ?_⟩;have hfo:P.fieldsOf t=fds:=by simp[Program.fieldsOf,hfd]
 rw[run_equalIn_struct w' (D+1) t _ _ (by rw[hfo];exact hfd) e2,hfo];exact(key w').2 e3
def bN4 {D:Nat}{w:World}{C:Cod U}{X:Nat->Prop}{β:List Tr}{m:Mm U}(hTI:pY P TI=true){ft:Nat}{i:TInfo}{x y:Sv U}{v u:Value}{q:Bool}(hf:iJ TI ft=some i)(hx:x.mean C w X β m v)(hy:y.mean C w X β m u)(h:eqV TI i x y=some q):
  Iz P ft=true/\∀w':World,(Op.equalIn (D+2) ft v u).run P w'= .ok q w':=by
 obtain⟨iu,ik,iz⟩:=i;unfold eqV at h;split at h
 ·split at h
  ·rename_i he;split at h
   ·rename_i hk;subst hk;have he:iu=_:=he;subst he;obtain⟨t1,_⟩:=Nf (bT hTI hf) rfl;obtain⟨rfl,_⟩:=hx;obtain⟨rfl,_⟩:=hy;cases h;exact⟨by simp[Iz,t1],λw'=>run_equalIn_int w' _ _ _ _ _ _ t1⟩
   ·cases h
  ·cases h
 ·split at h
  ·rename_i he;have he:iu=_:=he;subst he;obtain⟨t1,_⟩:=M7 (bT hTI hf) rfl;obtain rfl:=hx;obtain rfl:=hy;cases h;exact⟨by simp[Iz,t1],λw'=>run_equalIn_bool' w' _ _ _ _ t1⟩
  ·cases h
 ·split at h
  ·rename_i he;have he:iu=_:=he;subst he;obtain⟨t1,_⟩:=Gy (bT hTI hf) rfl;obtain⟨rfl,_⟩:=hx;obtain⟨rfl,_⟩:=hy;cases h;exact⟨by simp[Iz,t1],λw'=>run_equalIn_string w' _ _ _ _ t1⟩
  ·cases h
 ·split at h
  ·rename_i g gs he;have he:iu=_:=he;subst he;obtain⟨vs,rfl,hv⟩:=hx;obtain⟨us,rfl,hu⟩:=hy;obtain⟨_,k2,k3⟩:=bBf (D:=D) hTI hf hv hu h;exact⟨k2,k3⟩
  ·cases h
 ·cases h
def bGl {D:Nat}{w w':World}{X:Nat->Prop}{β:List Tr}{m:Mm U}(hTI:pY P TI=true){vs us:List Value}{cs ds:List (Lf U)}(hv:Ms Y.C w X β m vs cs)(hu:Ms Y.C w X β m us ds):∀{fs:List (Nat×Nat×Nat)} {fds:List Field} {z:Bool},fds.length=fs.length->
  (∀(j:Nat) (fd:Field) (q:Nat×Nat×Nat),fds[j]? =some fd->fs[j]? =some q->fd.type=q.2.1/\fd.offset=q.1)->
  eqN TI fs cs ds=some z->(fds.all λf=>Iz P f.type)=true/\((fds.all λf=>f.name != "_")=true->(Op.eqFields (D+2) vs.toArray us.toArray fds).run P w'= .ok z w')
 |[],fds,z,hl,_,he=>by
  have h1:fds=[]:=List.length_eq_zero_iff.1 hl;subst h1;cases he;exact⟨rfl,λ_=>bA4⟩
 |(off,ft,n)::fs,[],z,hl,_,_=>by cases hl
 |(off,ft,n)::fs,fd::fds,z,hl,hfd,he=>by
  unfold eqN at he;split at he
  ·rename_i i hi;split at he
   ·rename_i x hcx;split at he
    ·rename_i y hcy;split at he
     ·rename_i a ha;split at he
      ·rename_i r hr;obtain⟨k1,k2⟩:=hfd 0 fd (off,ft,n) rfl rfl;have k1:fd.type=ft:=k1;have k2:fd.offset=off:=k2;obtain⟨v,p1,m1⟩:=aKb (bT hTI hi) hcx hv;obtain⟨u,p2,m2⟩:=aKb (bT hTI hi) hcy hu;obtain⟨f1,f2⟩:=bN4 (D:=D) hTI hi m1 m2 ha;obtain⟨g1,g2⟩:=bGl (D:=D) (w':=w') hTI hv hu (fs:=fs) (fds:=fds) (by simpa using hl) (λj fd q a b=>hfd (j+1) fd q (by simpa using a) (by simpa using b)) hr;cases he;refine⟨by rw[gx,k1,f1,g1];rfl,λhn=> ?_⟩
       rw[gx,aa] at hn;have hnm:fd.name≠ "_" :=by simpa using hn.1
       simp only[Op.eqFields,hnm,ne_eq,not_false_eq_true,gE,Sem.run_bind,k1,k2,p1,p2,f2,Result.andThen_ok];cases a with
       |true=>simp only[ba,Bool.false_eq_true,if_false,cW];exact g2 hn.2
       |false=>simp only[dk,gE,Sem.run_pure,eM]
      ·cases he
     ·cases he
    ·cases he
   ·cases he
  ·cases he
def aQy (hTI:pY P TI=true)(r:bE Y.C E s a w β){b:BinOp}{t u:TypeId}{x y:Operand}{f:Nat×Nat×Nat}{fs:List (Nat×Nat×Nat)}{k:Nat}{zz:List Kz}{cs ds:List (Lf U)}{q:Bool}(hx:dV s x= .a cs)(hy:dV s y= .a ds)(h1:iJ TI t=some ⟨.st (f::fs),k,zz⟩)(h2:eqB TI (f::fs) cs ds=some q)(hb:b= .eql\/b= .neq):
  MO P Y.C E s a w β (.binOp b t x y u) (.l (.bool (if b= .eql then q else !q))):=λo ho=>by
 obtain⟨vs,q1,q2⟩:=bN3 r (bGg hx);obtain⟨us,p1,p2⟩:=bN3 r (bGg hy);have hq:P.eqGuardType P.depth t=false/\∀w':World,(Op.equalIn 10000 t (.agg vs.toArray) (.agg us.toArray)).run P w'= .ok q w':=by
  unfold eqB at h2;split at h2
  ·rename_i z hz;cases h2;obtain⟨k1,_,k3⟩:=bBf (D:=9998) hTI h1 q2 p2 hz;exact⟨k1,k3⟩
  ·obtain⟨fds,hfd,hlen,hty,hok⟩:=bGk hTI h1;have key:=λw':World=>bGl (D:=9997) (w':=w') hTI q2 p2 hlen hty h2;obtain⟨e1,e2,e3⟩:=hok (key w).1;refine⟨e1,λw'=> ?_⟩;have hfo:P.fieldsOf t=fds:=by simp[Program.fieldsOf,hfd]
   rw[run_equalIn_struct w' 9999 t _ _ (by rw[hfo];exact hfd) e2,hfo];exact(key w').2 e3
 obtain⟨e1,hq⟩:=hq;rcases hb with rfl|rfl
 ·exact⟨.bool q,λw' _=>by simp only[execOp,ho,q1,p1,Sem.run_bind,run_eqGuard_agg _ _ _ _ _ _ _ e1,Result.andThen_ok,run_eql_struct,hq,Sem.run_pure],rfl⟩
 ·exact⟨.bool (!q),λw' _=>by simp only[execOp,ho,q1,p1,Sem.run_bind,run_eqGuard_agg _ _ _ _ _ _ _ e1,Result.andThen_ok,run_neq_struct,hq,Sem.run_pure],rfl⟩
def bDc (hTI:pY P TI=true)(r:bE Y.C E s a w β){b:BinOp}{t u:TypeId}{x y:Operand}{z:Lf U}(h:bin TI b t (dV s x) (dV s y)=some z):MO P Y.C E s a w β (.binOp b t x y u) (.l z):=by
 generalize hx:dV s x=vx at h;generalize hy:dV s y=vy at h;unfold bin at h;split at h
 ·split at h
  ·rename_i he;subst he;exact aKc r hx hy h
  ·cases h
 ·exact aKd r hx hy h
 ·split at h
  ·rename_i i k z' hf;have ht:=(M7 (bT hTI hf) rfl).1;split at h
   ·simp only[ai] at h;subst h;exact mY r λ_=>bRn ht (M9 hx) (M9 hy)
   ·simp only[ai] at h;subst h;exact mY r λ_=>bRo ht (M9 hx) (M9 hy)
   ·cases h
  ·cases h
 ·split at h
  ·rename_i f fs k zz hf;split at h
   ·rename_i q hq;split at h
    ·simp only[ai] at h;subst h;exact aQy hTI r hx hy hf hq (.inl rfl)
    ·simp only[ai] at h;subst h;exact aQy hTI r hx hy hf hq (.inr rfl)
    ·cases h
   ·cases h
  ·cases h
 ·cases h
def aF4 {xs:Array Operand}{x y:Operand}(h:xs.toList=[x,y]):xs= #[x,y]:=by apply gS;simpa using h
def aF5 {α:Type}{xs:Array α}{x:α}(h:xs.toList=[x]):xs= #[x]:=by apply gS;simpa using h
def aQz (hTI:pY P TI=true)(r:bE Y.C E s a w β){op:Op}{x:Sv U}(h:pur Y TI s op=some x):MO P Y.C E s a w β op x:=by
 unfold pur at h;split at h
 ·simp only[ai] at h;subst h;exact λo ho=>⟨_,λw' _=>by simp[execOp,ho],jL r⟩
 ·simp only[ai] at h;subst h;exact λo ho=>⟨_,λw' _=>by simp[execOp,ho],jL r⟩
 ·rename_i c y z;split at h
  ·rename_i b hc;have hcv:a.eval c= .bool b:=lZ r hc;cases b with
   |true=>simp only[ac,ai] at h;subst h;exact λo ho=>⟨_,λw' _=>by simp[execOp,ho,hcv,asBool],jL r⟩
   |false=>simp only[ab,ai] at h;subst h;exact λo ho=>⟨_,λw' _=>by simp[execOp,ho,hcv,asBool],jL r⟩
  ·cases h
 ·rename_i y;split at h
  ·rename_i b off hx;split at h
   ·rename_i T cs us rv cv h4;simp only[ai] at h;subst h;rw[aS] at h4;have hm:=lZ r hx;obtain⟨_,e,tr,h1,h2,h3⟩:=lZ r hx;rw[h4] at h1;injection h1 with h1;subst h1;obtain⟨bb,_,hv⟩:=h3 rfl;exact λo ho=>⟨a.eval y,λw' _=>by simp[execOp,ho,hv],hm⟩
   ·cases h
  ·cases h
 ·rename_i u t y;split at h
  ·rename_i b hy;simp only[ai] at h;subst h;exact mY r λ_=>not_ (M9 hy)
  ·rename_i k n hy;simp only[ai] at h;subst h;exact kL r λ_=>bRk (dC hy)
  ·cases h
 ·rename_i t u y;split at h
  ·rename_i k1 i1 z1 j i2 z2 k n h1 h2 h3;simp only[ai] at h;subst h;exact kL r λ_=>cnv (by rw[(Nf (bT hTI h1) rfl).1];rfl) (Nf (bT hTI h2) rfl).1 (dC h3)
  ·cases h
 ·rename_i t y f;split at h
  ·rename_i fs i z p h1 h2;split at h
   ·rename_i off ft n h3;split at h
    ·rename_i q h4;simp only[ai] at h;subst h;have hfb:=(M8 (bT hTI h1) rfl).2.1;simp only[fld,aS] at h3;have h5:=(aJ9 hfb h3).1;rw[ca] at h5;obtain⟨v',q1,q2⟩:=N8 r h5 (lZ r h2) h4;exact λo ho=>⟨v',λw' _=>by simp[execOp,ho,q1],q2⟩
    ·cases h
   ·cases h
  ·cases h
 ·rename_i t y;split at h
  ·rename_i i p h1 h2;obtain⟨p',v',q1,q2,q3⟩:=aQx r (bT hTI h1) (lZ r h2) h;exact λo ho=>⟨v',λw' he=>by simp[execOp,ho,q1,Instr.loadAt,Instr.sureAddr,q2 w' he],q3⟩
  ·cases h
 ·rename_i t y f;split at h
  ·rename_i fs i z cs h1 h2;split at h
   ·rename_i off ft n h3;split at h
    ·rename_i j h4;have hfb:=(M8 (bT hTI h1) rfl).2.1;simp only[fld,aS] at h3;have h5:=(aJ9 hfb h3).2.1;rw[ca] at h5;obtain⟨vs,q1,q2⟩:=bN3 r (bGg h2);obtain⟨v',q3,q4⟩:=aKb (bT hTI h4) h q2;exact λo ho=>⟨v',λw' _=>by simp only[execOp,ho,q1,bA6 h5,q3,Sem.run_bind,Sem.run_pure,Result.andThen_ok,Sem.run_map],q4⟩
    ·cases h
   ·cases h
  ·cases h
 ·rename_i t ps;split at h
  ·rename_i fs k z h1;split at h
   ·rename_i cs h2;simp only[ai] at h;subst h;have hti:=bT hTI h1;obtain⟨j,zv,k3,k4,k5⟩:=aI5 hti;obtain⟨hagg,_,hor⟩:=M8 hti rfl;rcases hor with⟨_,pls,k1,k2⟩|⟨rfl,har⟩
    rotate_left
    ·--an array:nothing is put in
     have hps:ps.toList=[]:=by
      cases hp:ps.toList with
      |nil=>rfl
      |cons x xs=>rw[hp] at h2;obtain⟨f,y⟩:=x;simp[aYi,fld,aS] at h2
     rw[hps] at h2;simp only[aYi,ai] at h2;subst h2;refine λo ho=>⟨.agg zv.cells,λw' _=> ?_,zv.cells.toList,by simp,Ng k5⟩;unfold arB at har;cases hu:P.underlying t with
     |none=>simp[hu] at har
     |some d=>
      cases d<;>simp[hu] at har;rename_i n e;cases hi:P.info? e with
      |none=>simp[hi] at har
      |some i=>simp[execOp,ho,Instr.build,zeroValue,typeInfo,k3,k4,run_underlying hu,sizeOf,hi,hps,Instr.fill]
    obtain⟨res,k6,k7⟩:=aVr r k2 h2 zv.cells (Ng k5);refine λo ho=>⟨.agg res,λw' _=> ?_,res.toList,by simp,k7⟩;unfold aJs at k1;cases hu:P.underlying t with
    |none=>simp[hu] at k1
    |some d=>
     cases d<;>simp[hu] at k1;rename_i fds;have hm:=aJt (w:=w') k1;have hm':(fds.mapM λf=>(Prod.mk f.offset<$>sizeOf f.type:Sem (Nat×Nat))).run P w'= .ok pls.toArray w':=by
      rw[<-Array.toArray_toList (xs:=fds),gt];simp only[Sem.run_map,hm,Result.andThen_ok]
      try rfl
     simp[execOp,ho,Instr.build,zeroValue,typeInfo,k3,k4,run_underlying hu,hm'];have k6':Instr.fill (λi=>pls[i]?) zv.cells (ps.toList.map λx=>(x.1,a.eval x.2))=some res:=by simpa using k6
     simp[k6']
   ·cases h
  ·cases h
 ·rename_i y i;split at h
  ·rename_i xs h1;split at h
   ·rename_i c h2;simp only[ai] at h;subst h;rw[aS] at h2;have hm:=jL r (x:=y);rw[bP8 h1] at hm;obtain⟨vs,q1,q2,q3⟩:=hm;have hl:i<vs.length:=by rw[q2];exact lt_of_some h2
    exact λo ho=>⟨vs[i],λw' _=>by simp[execOp,ho,q1,Instr.extract,hl],sI (q3 i _ c (ae hl) h2)⟩
   ·cases h
  ·cases h
 ·rename_i xa ats;split at h
  ·rename_i y t hxa hats;rw[aF5 hxa,aF5 hats];split at h
   ·rename_i e ek eb i z p h1 h2;have hs:=(zX (bT hTI h1) rfl).1;split at h
    ·cases h
    ·rename_i hns;cases hl:lenOf s.m p with
     |none=>simp[hl] at h
     |some q=>
      simp only[hl,ai] at h;subst h;cases p with
      |nil=>
       simp only[lenOf,ai] at hl;subst hl;have hv:∀E':VK.Env P g,VK.Ev E' (brS s false) y .nil:=λE'=>by
        have:vw s.m false (uA s y)= .nil:=by
         unfold dV at h2;cases ho:uA s y with
         |l z=>
          simp only[ho,Sv.l.injEq] at h2;cases z with
          |nil=>rfl
          |nat a=>simp only[rsv,aS] at h2;cases hn:s.m.ns[a]? <;>simp[hn] at h2
          |lt a n=>simp only[rsv,aS] at h2;cases hn:s.m.ns[a]? <;>simp[hn] at h2
          |_=>simp[rsv] at h2
         |_=>simp[ho] at h2
        rw[<-this];exact aTd
       exact kL r λE'=>bRq hs (hv E')
      |str z=>exact absurd rfl (hns z)
      |_=>
       simp only[lenOf] at hl;split at hl
       ·rename_i τ l hr;simp only[ai] at hl;subst hl;exact kL r λ_=>bRp hs (bMb h2 hr)
       ·cases hl
   ·rename_i i z q h1 h2;simp only[ai] at h;subst h;exact kL r λ_=>bRr (Gy (bT hTI h1) rfl).1 (xD h2)
   ·cases h
  ·cases h
 ·rename_i xa ats;split at h
  ·rename_i y z hxa;rw[aF4 hxa];split at h
   ·rename_i k m k' n h1 h2;split at h
    ·rename_i he;subst he;simp only[ai] at h;subst h;exact kL r λ_=>mn2 (dC h1) (dC h2)
    ·cases h
   ·cases h
  ·cases h
 ·rename_i xa ats;split at h
  ·rename_i y z hxa;rw[aF4 hxa];split at h
   ·rename_i k m k' n h1 h2;split at h
    ·rename_i he;subst he;simp only[ai] at h;subst h;exact kL r λ_=>mx2 (dC h1) (dC h2)
    ·cases h
   ·cases h
  ·cases h
 ·cases h
end
end Go.EV
namespace Go.EV
open Go.RowKit Go.VK
variable {U:Uni} {Y:Lay U} {TI:List (Nat×TInfo)} {P:Program} {g:GI} {E:Env U g}
section
variable {s:St U} {a:Act} {w:World} {β:List Tr} {α:Type}
def mZ {x:Operand}{n:Int}(h:vF (dV s x)=some n):∃k,dV s x= .l (.int k n):=by
 cases ho:dV s x with
 |l y=>
  cases y with
  |int k m=>rw[ho] at h;simp only[vF,ai] at h;subst h;exact⟨k,rfl⟩
  |_=>rw[ho] at h;cases h
 |_=>rw[ho] at h;cases h
def bDd (r:bE Y.C E s a w β){f:(τ:Nat)->List (U.El τ)->List (U.El τ)}{p p':Lf U}{τ:Nat}{l:List (U.El τ)}(hr:rC s.m p=some (.sl τ l))(hs:aOw f s.m.o p=some p'){v v0:Value}(hm:p.mean Y.C w (E.X β) β s.m v0)
  (h1:v.oneCell'=true) (hv:∀Z:Nat->Prop,Rd w Z [] v0 (.slice (U.K τ) (l.map (U.enc τ)))->Rd w Z [] v (.slice (U.K τ) ((f τ l).map (U.enc τ)))):p'.mean Y.C w (E.X β) β s.m v:=by
 have own:∀(i c:Nat) (e:EO U),s.m.o[i]? =some e->e.cv=c->nM p=false->(∀t,β[i]? =some t->Rd w (λb=>E.X β b/\b∉t.all) [] v0 (.slice (U.K τ) (l.map (U.enc τ))))->(Lf.bor i c τ (f τ l):Lf U).mean Y.C w (E.X β) β s.m v:=λi c e he hc _ hrd=>by
  obtain⟨t,ht⟩:=r.hp.tr he;exact⟨⟨hc▸(r.hp.vers i e he).2,h1⟩,e,t,he,ht,λ_=>hv _ (hrd t ht)⟩
 cases p with
 |sl τ' l'=>simp only[rC,ai,Lf.sl.injEq] at hr;obtain⟨rfl,hl⟩:=hr;obtain rfl:=ez hl;simp only[aOw,ai] at hs;subst hs;exact hv _ hm
 |own i q=>
  obtain⟨_,e,t,k1,k2,k3⟩:=hm;simp only[rC,aS,k1] at hr;simp only[aOw,aS,k1] at hs;obtain⟨ob,rv,cv⟩:=e;cases ob with
  |tree τ' d l'=>
   cases hb:Nat.beq rv q with
   |false=>simp[hb] at hr
   |true=>simp only[hb,ac,ai,Lf.sl.injEq] at hr hs;obtain⟨rfl,hl⟩:=hr;obtain rfl:=ez hl;subst hs;refine own i cv _ k1 rfl rfl (λt' ht'=> ?_);rw[k2] at ht';injection ht' with ht';subst ht';rw[k3 (ah hb)];exact(Hp.tree r.hp k2 k1 rfl).rd (λb hb'=>hb'.1) (λb hb' hn=>hn.2 hb')
  |_=>cases hr
 |bor i c τ' l'=>
  obtain⟨h0,e,t,k1,k2,k3⟩:=hm;simp only[rC,okv,aS,k1] at hr;simp only[aOw,ai] at hs;cases hb:Nat.beq e.cv c with
  |false=>simp[hb] at hr
  |true=>simp only[hb,ac,ai,Lf.sl.injEq] at hr;obtain⟨rfl,hl⟩:=hr;obtain rfl:=ez hl;subst hs;refine own i c e k1 (ah hb) rfl (λt' ht'=> ?_);rw[k2] at ht';injection ht' with ht';subst ht';exact k3 (ah hb)
 |inn i c τ0 q z j τ' l'=>
  have hm0:=hm;obtain⟨h0,e,t,k1,k2,k3⟩:=hm;have hr0:=hr;simp only[rC,okv,aS,k1] at hr;simp only[aOw,ai] at hs;cases hb:Nat.beq e.cv c with
  |false=>simp[hb] at hr
  |true=>
   simp only[hb,ac,ai,Lf.sl.injEq] at hr;obtain⟨rfl,hl⟩:=hr;obtain rfl:=ez hl;subst hs;refine own i c e k1 (ah hb) rfl (λt' ht'=> ?_);rw[k2] at ht';injection ht' with ht';subst ht';have hc:=ah hb;obtain⟨d,L,xs,a1,a2,a3,a4,a5,a6⟩:=k3 hc;have hok:=r.hp.ok i t e k2 k1;rw[a1] at hok;obtain⟨_,xs',b2,b3⟩:=hok;obtain⟨l1,l2,x1,xz,x2,B1,Bz,B2,g1,g2,g3,g4,g5,g6,o1,o2,o3,_⟩:=aTg r.hp k2 k1 a1 a3;have hxs:xs=x1++(xz++x2):=by
    rcases dR a5 with⟨c1,c2,c3,_⟩|⟨b,cur,c1,_,_,_,c5,_,c7⟩
    ·have:=g3.1;rw[c2] at this;simp at this;rw[c3,this.1,this.2.1,this.2.2];rfl
    ·rcases dR g3 with⟨d1,_⟩|⟨b',cur',d1,_,_,_,d5,_,d7⟩
     ·rw[c1] at d1;cases d1
     ·rw[c1] at d1;injection d1 with d1;subst d1;rw[c5] at d5;injection d5 with d5;injection d5 with d5;subst d5;rw[<-c7,<-d7]
   have hvz:xz[j]? =some v0:=by
    have hjl:j<xz.length:=by rw[g5,<-Y.C.hlen τ0 z];exact lt_of_some a4
    rw[hxs,<-g4,ay (db _ _),cP,aq hjl] at a6;exact a6
   exact(o2.rd (Z:=λb=>E.X β b/\b∉t.all) (λb hb'=>hb'.1) (λb hb' hn=>hn.2 (by simp[Tr.all,g6,hb']))).2 j v0 _ hvz a4
 |_=>cases hs
def aTk (r:bE Y.C E s a w β){op:Op}{f:(τ:Nat)->List (U.El τ)->List (U.El τ)}{x:Operand}{p p':Lf U}{τ:Nat}{l:List (U.El τ)}(hx:dV s x= .l p)(hr:rC s.m p=some (.sl τ l))(hs:aOw f s.m.o p=some p')
  (a0 b0:Nat) (hab:a0<=b0) (hb:b0<=l.length) (hf:f τ l=(l.take b0).drop a0)
  (hrun:∀(A:Option Addr) (c:Nat),a.eval x= .slice A l.length c->l.length<=c->∀o:Oper,o.op=op->∀w',(execOp a.eval o).run P w'= .ok (.value (.slice (if c=a0 then A else A.map λq=>q.add (a0*U.K τ)) (b0-a0) (c-a0))) w'):MO P Y.C E s a w β op (.l p'):=λo ho=>by
 have hm:=lZ r hx;have h0:=(Cy r.hp hm hr (Z:=λ_=>False) (λ_ h=>h.elim) (.inr λ_ _ _ _ _ h=>h)).2;obtain⟨A,c,h1,h2,h3⟩:=Rd.aBD (show Rd w _ [] (a.eval x) (.slice (U.K τ) (l.map (U.enc τ))) from h0);rw[bl] at h1 h2;refine⟨_,λw' _=>hrun A c h1 h2 o ho w',bDd r hr hs hm rfl λZ hZ=> ?_⟩;rw[h1] at hZ;rw[hf,fv,List.map_take];exact hZ.sub hab (by rw[bl];exact hb)
def aVu (hTI:pY P TI=true)(r:bE Y.C E s a w β){t:TypeId}{x:Operand}{lo hi:Option Operand}{K:Sv U->Option α}{z:α}(h:Td Y TI s (.slice t x lo hi none) K=some z):∃y,K y=some z/\MO P Y.C E s a w β (.slice t x lo hi none) y:=by
 simp only[Td] at h;split at h
 ·rename_i i k zz str h1 h2;have ht:=(Gy (bT hTI h1) rfl).1;split at h
  ·rename_i hh;split at h
   ·rename_i n hn;obtain⟨hg,h⟩:=jY h;obtain⟨kk,hn⟩:=mZ hn;exact⟨_,h,aTj r λ_=>bRy hg ht (xD h2) (dC hn)⟩
   ·cases h
  ·rename_i ll;split at h
   ·rename_i n hn;obtain⟨hg,h⟩:=jY h;obtain⟨kk,hn⟩:=mZ hn;exact⟨_,h,aTj r λ_=>bRz hg ht (xD h2) (dC hn)⟩
   ·cases h
  ·rename_i ll hh;split at h
   ·rename_i m n hm hn;obtain⟨hg,h⟩:=jY h;obtain⟨kk,hn⟩:=mZ hn;obtain⟨kk',hm⟩:=mZ hm;exact⟨_,h,aTj r λ_=>bRx hg ht (xD h2) (dC hm) (dC hn)⟩
   ·cases h
  ·cases h
 ·rename_i e ek eb k zz p h1 h2;have hsl:=(zX (bT hTI h1) rfl).1;obtain⟨hu,ii,zz',hii,hz,hik,hib,hzk,hk0⟩:=fA hsl;split at h
  ·rename_i τ l hr;cases hoe:Gu (U:=U) e ek τ with
   |false=>simp[hoe] at h
   |true=>
    simp only[hoe,ac] at h;simp only[Gu,aa] at hoe;have he:e=τ:=ah hoe.1;have hk:U.K τ=ek:=ah hoe.2;subst he;split at h
    ·split at h
     ·rename_i p' hs;refine⟨_,h,aTk r h2 hr hs 0 l.length (cx _) (aj _) (by simp) λA c hA hc o ho w'=> ?_⟩
      simp[execOp,ho,hA,Instr.sliceAt,Instr.slice,run_underlying hu,Instr.sliceBounds,Instr.sliceBound,asIntOf,sizeOf,typeInfo,hii,hc]
     ·cases h
    ·rename_i hh;split at h
     ·rename_i n p' hn hs;obtain⟨hg,h⟩:=jY h;rw[hn] at hs;obtain⟨kk,hn'⟩:=mZ hn;have hnv:a.eval hh= .int kk n:=(lZ r hn').1;refine⟨_,h,aTk r h2 hr hs 0 n.toNat (cx _) hg.2 (by simp) λA c hA hc o ho w'=> ?_⟩
      have e1:(0<=n/\n<=(c:Int)):=⟨hg.1,by have:=hg.2;have:=hg.1;omega⟩;simp[execOp,ho,hA,hnv,Instr.sliceAt,Instr.slice,run_underlying hu,Instr.sliceBounds,Instr.sliceBound,asIntOf,e1,sizeOf,typeInfo,hii]
     ·cases h
    ·rename_i bb;split at h
     ·rename_i n p' hn hs;obtain⟨hg,h⟩:=jY h;rw[hn] at hs;obtain⟨kk,hn'⟩:=mZ hn;have hnv:a.eval bb= .int kk n:=(lZ r hn').1;refine⟨_,h,aTk r h2 hr hs n.toNat l.length hg.2 (aj _) (by simp) λA c hA hc o ho w'=> ?_⟩
      have e1:(0<=n/\n<=(l.length:Int)):=⟨hg.1,by have:=hg.2;have:=hg.1;omega⟩;simp[execOp,ho,hA,hnv,Instr.sliceAt,Instr.slice,run_underlying hu,Instr.sliceBounds,Instr.sliceBound,asIntOf,e1,sizeOf,typeInfo,hii,hik,hk]
     ·cases h
    ·rename_i bb hh;split at h
     ·rename_i n m p' hn hm hs;obtain⟨hg,h⟩:=jY h;rw[hn,hm] at hs;obtain⟨kk,hn'⟩:=mZ hn;obtain⟨kk',hm'⟩:=mZ hm;have hnv:a.eval bb= .int kk n:=(lZ r hn').1;have hmv:a.eval hh= .int kk' m:=(lZ r hm').1;obtain⟨g1,g2,g3,g4⟩:=hg;refine⟨_,h,aTk r h2 hr hs n.toNat m.toNat (by omega) g4 (by simp) λA c hA hc o ho w'=> ?_⟩
      have e1:(0<=m/\m<=(c:Int)):=⟨g3,by omega⟩;have e2:(0<=n/\n<=((m.toNat:Nat):Int)):=⟨g1,by omega⟩;simp[execOp,ho,hA,hnv,hmv,Instr.sliceAt,Instr.slice,run_underlying hu,Instr.sliceBounds,Instr.sliceBound,asIntOf,e1,e2,sizeOf,typeInfo,hii,hik,hk];intro hh;exfalso;omega
     ·cases h
  ·cases h
 ·cases h
end
end Go.EV
namespace Go.EV
open Go.RowKit Go.VK
variable {U:Uni} {Y:Lay U} {TI:List (Nat×TInfo)} {P:Program} {g:GI} {E:Env U g}
section
variable {s:St U} {a:Act} {w:World} {β:List Tr} {α:Type}
def bKf (r:bE Y.C E s a w β){x y:Operand}{c:Nat}{k:IntKind}{m n:Int}{t u:TypeId}(hc:uA s x= .l (.nat c))(hx:dV s x= .l (.int k m))(hy:dV s y= .l (.int k n)):MO P Y.C E s a w β (.binOp .lss t x y u) (.l (.lt c n)):=λo ho=>by
 obtain⟨v,h1,h2⟩:=mY (P:=P) r (λ_=>lss (t:=t) (u:=u) (dC hx) (dC hy)) o ho;refine⟨v,h1,?_⟩;have hm:=jL r (x:=x);rw[hc] at hm;obtain⟨i,f,k1,k2,k3⟩:=hm;have hk:k= .i64/\m=(i:Int):=by have:=(lZ r hx).1;rw[k2] at this;injection this with e1 e2;exact⟨e1.symm,e2.symm⟩
 obtain⟨rfl,rfl⟩:=hk;have hn:=(lZ r hy).2.2;exact⟨i,f,k1,h2,by simpa[IntKind.max,IntKind.signed,IntKind.bits] using hn⟩
def bGm (r:bE Y.C E s a w β){t:TypeId}{e ek eb:Nat}(hsl:slB P t e ek eb=true){x y:Operand}{i q0:Nat}{τ:Nat}{d:Bool}{l:List (U.El τ)}{rv cv:Nat}{k:IntKind}{q:Int}{z:U.El τ}(hx:dV s x= .l (.own i q0))(hy:dV s y= .l (.int k q))
  (ho:s.m.o[i]? =some ⟨.tree τ d l,rv,cv⟩) (hr:rv=q0) (hk:U.K τ=ek) (hz:aY l q=some z):MO P Y.C E s a w β (.indexAddr t x y) (.l (.oel i cv τ q z 0)):=λo hop=>by
 obtain⟨hu,ii,zz,hii,hzz,hik,hib,hzk,hk0⟩:=fA hsl;obtain⟨h0,hq⟩:=Mx hz;have hm:=lZ r hx;obtain⟨_,e',t',k1,k2,k3⟩:=hm;rw[ho] at k1;injection k1 with k1;subst k1;have hv:=k3 hr;have hyv:a.eval y= .int k q:=(lZ r hy).1;have hok:=r.hp.ok i t' _ k2 ho;obtain⟨_,xs,c1,_⟩:=hok;have hlt:q.toNat<l.length:=lt_of_some hq;rcases dR c1 with⟨_,b2,_⟩|⟨b,cur,b1,b2,_⟩
 ·omega
 ·have hval:a.eval x= .slice (some ⟨b,0,none⟩) l.length t'.c:=by rw[hv];simp[Tr.val,b1,b2]
  refine⟨.pointer (some (Addr.add ⟨b,0,none⟩ (q.toNat*ek))),λw' _=> ?_,⟨⟨(r.hp.vers i _ ho).2,rfl⟩,⟨.tree τ d l,rv,cv⟩,t',ho,k2,λ_=>⟨d,l,b,rfl,h0,hq,b1,?_⟩⟩⟩
  ·have hmn:q.toNat<l.length:=hlt;simp[execOp,hop,hval,hyv,Instr.indexAt,asIntOf,run_underlying hu,sizeOf,typeInfo,hii,hik,h0,hmn];intro hh;exfalso;omega
  ·rw[fG,hk];simp
def bGn (r:bE Y.C E s a w β){t:TypeId}{e ek eb:Nat}(hsl:slB P t e ek eb=true){x y:Operand}{i c j τ τ' τ1:Nat}{q q':Int}{z:U.El τ}{l:List (U.El τ')}{L:List (U.El τ1)}{rv cv:Nat}{k:IntKind}{z':U.El τ'}(hx:dV s x= .l (.inn i c τ q z j τ' l))(hy:dV s y= .l (.int k q'))
  (ho:s.m.o[i]? =some ⟨.tree τ1 true L,rv,cv⟩) (hr:cv=c) (hk:U.K τ'=ek) (hz:aY l q'=some z'):MO P Y.C E s a w β (.indexAddr t x y) (.l (.oin i c τ q z j τ' l q' z' 0)):=λo hop=>by
 obtain⟨hu,ii,zz,hii,hzz,hik,hib,hzk,hk0⟩:=fA hsl;obtain⟨h0,hq⟩:=Mx hz;obtain⟨g0,e',t',k1,k2,k3⟩:=lZ r hx;rw[ho] at k1;injection k1 with k1;subst k1;obtain⟨d,L1,xs,a1,a2,a3,a4,a5,a6⟩:=k3 hr;injection a1 with e1 e2 e3;subst e1;subst e2;obtain rfl:=ez e3;have hyv:a.eval y= .int k q':=(lZ r hy).1;obtain⟨u,ys,b1,b2,b3,b4⟩:=bBc r.hp k2 ho rfl a3 a4 a5 a6;have hlt:q'.toNat<l.length:=lt_of_some hq;rcases dR b2 with⟨_,c2,_⟩|⟨b,cur,c1,c2,_⟩
 ·omega
 ·have hval:a.eval x= .slice (some ⟨b,0,none⟩) l.length u.c:=by rw[b1];simp[Tr.val,c1,c2]
  refine⟨.pointer (some (Addr.add ⟨b,0,none⟩ (q'.toNat*ek))),λw' _=> ?_,⟨⟨g0.1,rfl⟩,_,t',ho,k2,λ_=>⟨_,xs,_,b,_,_,rfl,a2,a3,a4,a5,a6,hval,h0,hq,?_⟩⟩⟩
  ·have hmn:q'.toNat<l.length:=hlt;simp[execOp,hop,hval,hyv,Instr.indexAt,asIntOf,run_underlying hu,sizeOf,typeInfo,hii,hik,h0,hmn];intro hh;exfalso;omega
  ·rw[fG,hk];simp
def bGo (hTI:pY P TI=true)(r:bE Y.C E s a w β){ta tb:TypeId}{x:Operand}{ek eb k1 k2 k3:Nat}{z1 z2 z3:List Kz}{p:Lf U}{l:List (U.El Y.bt)}(h1:iJ TI ta=some ⟨.sl Y.bt ek eb,k1,z1⟩)(h2:iJ TI tb=some ⟨.str,k2,z2⟩)(h4:iJ TI Y.bt=some ⟨.int .u8,k3,z3⟩)
  (hx:dV s x= .l p) (hr:rC s.m p=some (.sl Y.bt l)) (hg:l.length<=68719476736):MO P Y.C E s a w β (.convert ta tb x) (.l (.str (bC4 (l.map Y.bi)))):=by
 have hK:U.K Y.bt=1:=by rw[<-Y.C.hlen Y.bt (Y.be 0),Y.hb];rfl
 have henc:∀x,U.enc Y.bt x=[V.int .u8 (Y.bi x)]:=λx=>by rw[<-Y.C.hcel,Y.hb];rfl
 have hmap:l.map (U.enc Y.bt)=(l.map Y.bi).map λn=>[V.int .u8 n]:=by rw[gO];exact gk λx _=>henc x
 refine aVl r false (λE'=>b2s (fA (zX (bT hTI h1) rfl).1).1 (Nf (bT hTI h4) rfl).1 (Gy (bT hTI h2) rfl).1 (ns:=l.map Y.bi) (by rw[bl];unfold maxLen;omega) ?_) λv hv=>bMc hv;have:=bMb (E':=E') hx hr;rw[hK,hmap] at this;exact this
def aVv {α:Type}{q:Int}{F:Nat->Option α}{z:α}:∀{n:Nat},brA q F n=some z->∃j,j<n/\q=(j:Int)/\F j=some z
 |0,h=>by cases h
 |n+1,h=>by
  have h:(bif decide (q=(n:Int)) then F n else brA q F n)=some z:=h;by_cases hq:q=(n:Int)
  ·rw[ao hq] at h;exact⟨n,dq _,hq,h⟩
  ·rw[aw hq] at h;obtain⟨j,h1,h2,h3⟩:=aVv h;exact⟨j,by omega,h2,h3⟩
def Xk (hTI:pY P TI=true)(r:bE Y.C E s a w β){op:Op}{K:Sv U->Option α}{z:α}(h:Td Y TI s op K=some z):∃x,K x=some z/\MO P Y.C E s a w β op x:=by
 unfold Td at h;split at h
 ·rename_i b t x y u;generalize hx:dV s x=vx at h;generalize hy:dV s y=vy at h;split at h
  ·rename_i k m k' n;split at h
   ·split at h
    ·rename_i he;subst he;split at h
     ·rename_i c hc;exact⟨_,h,bKf r hc hx hy⟩
     ·exact⟨_,h,mY r λ_=>lss (dC hx) (dC hy)⟩
    ·cases h
   ·split at h
    ·rename_i he;subst he;obtain⟨hg,h⟩:=jY h;exact⟨_,h,kL r λ_=>quo hg (dC hx) (dC hy)⟩
    ·cases h
   ·split at h
    ·rename_i he;subst he;obtain⟨hg,h⟩:=jY h;exact⟨_,h,kL r λ_=>rem hg (dC hx) (dC hy)⟩
    ·cases h
   ·obtain⟨hg,h⟩:=jY h;exact⟨_,h,kL r λ_=>bRu hg (dC hx) (dC hy)⟩
   ·obtain⟨hg,h⟩:=jY h;exact⟨_,h,kL r λ_=>bRv hg (dC hx) (dC hy)⟩
   ·split at h
    ·rename_i he;subst he;split at h
     ·rename_i z' hz;exact⟨_,h,aKc r hx hy hz⟩
     ·cases h
    ·cases h
  ·rename_i m n;split at h
   ·obtain⟨hg,h⟩:=jY h;exact⟨_,h,aTj r λ_=>bRl hg (xD hx) (xD hy)⟩
   ·split at h
    ·rename_i z' hz;exact⟨_,h,aKd r hx hy hz⟩
    ·cases h
  ·split at h
   ·rename_i z' hz;refine⟨_,h,bDc hTI r ?_⟩;rw[hx,hy];exact hz
   ·cases h
 ·rename_i t x y;split at h
  ·rename_i e ek eb k zz p kk q h1 h2 h3;have hsl:=(zX (bT hTI h1) rfl).1;split at h
   ·rename_i τ l;cases hoe:Gu (U:=U) e ek τ with
    |false=>simp[hoe] at h
    |true=>
     simp only[hoe,ac] at h;simp only[Gu,aa] at hoe;have he:e=τ:=ah hoe.1;have hk:U.K τ=ek:=ah hoe.2;subst he;subst hk;obtain⟨c,hc,h⟩:=iY h;refine⟨_,h,aVl r true (λ_=>ixq hc hsl (bP6 h2) (dC h3 true)) λv hv=> ?_⟩
     show Rd w (E.X β) [] v (.elem ((U.enc e c).drop 0));rw[gp];exact hv.conv (aj _) (λb _ hb=>⟨rfl,hb⟩) (λ_ _ _ h=>h) (λ_ _ h=>h)
   ·rename_i i q0;split at h
    ·rename_i τ d l rv cv ho;rw[aS] at ho;cases hoe:(Nat.beq rv q0&&Gu (U:=U) e ek τ) with
     |false=>rw[hoe] at h;cases h
     |true=>rw[hoe] at h;simp only[ac] at h;simp only[Gu,aa] at hoe;obtain⟨c,hc,h⟩:=iY h;exact⟨_,h,bGm r hsl h2 h3 ho (ah hoe.1) (ah hoe.2.2) hc⟩
    ·cases h
   ·rename_i i c τ q0 z j τ' l;split at h
    ·rename_i τ1 d L rv cv ho;rw[aS] at ho;cases hoe:(d&&(Nat.beq cv c&&Gu (U:=U) e ek τ')) with
     |false=>rw[hoe] at h;cases h
     |true=>rw[hoe] at h;simp only[ac] at h;simp only[Gu,aa] at hoe;obtain⟨c',hc,h⟩:=iY h;obtain⟨rfl,hoe⟩:=hoe;exact⟨_,h,bGn r hsl h2 h3 ho (ah hoe.1) (ah hoe.2.2) hc⟩
    ·cases h
   ·cases h
  ·rename_i k zz b0 off kk q h1 h2 h3;obtain⟨j,hj,hq,h'⟩:=aVv h;subst hq;clear h;split at h'
   ·rename_i y' hz;rcases(M8 (bT hTI h1) rfl).2.2 with⟨hne,_⟩|⟨_,har⟩
    ·exact absurd rfl hne
    ·obtain⟨v',q1,q2⟩:=aTh r kk har hj (lZ r h2) hz;have hv:a.eval y= .int kk (j:Int):=(lZ r h3).1;exact⟨_,h',λo ho=>⟨v',λw' _=>by simp[execOp,ho,hv,q1],q2⟩⟩
   ·cases h'
  ·cases h
 ·rename_i t x y;split at h
  ·rename_i k zz z' kk q h1 h2 h3;obtain⟨c,hc,h⟩:=iY h;exact⟨_,h,kL r λ_=>bRw hc (Gy (bT hTI h1) rfl).1 (xD h2) (dC h3)⟩
  ·cases h
 ·exact aVu hTI r (by unfold Td;exact h)
 ·rename_i ta tb x;split at h
  ·rename_i e ek eb k1 z1 k2 z2 p h1 h2 h3;split at h
   ·rename_i τ l k3 z3 hr h4;split at h
    ·rename_i l' hs;obtain⟨rfl,hl⟩:=mH hs;have hl:=ez hl;subst hl;cases hb:Nat.beq e Y.bt with
     |false=>rw[hb] at h;cases h
     |true=>rw[hb] at h;obtain⟨hg,h⟩:=jY h;have he:=ah hb;subst he;refine⟨_,h,bGo hTI r h1 h2 h4 h3 hr hg⟩
    ·cases h
   ·cases h
  ·split at h
   ·rename_i x' hx;exact⟨x',h,aQz hTI r hx⟩
   ·cases h
 ·split at h
  ·rename_i x hx;exact⟨x,h,aQz hTI r hx⟩
  ·cases h
def bGp (hTI:pY P TI=true)(r:bE Y.C E s a w β){t:TypeId}{x b:Operand}{e ek eb k i q0 τ:Nat}{zz:List Kz}{d:Bool}{l:List (U.El τ)}{rv cv:Nat}{n:Int}(h1:iJ TI t=some ⟨.sl e ek eb,k,zz⟩)(h2:dV s x= .l (.own i q0))(h3:vF (dV s b)=some n)
  (ho:s.m.o[i]? =some ⟨.tree τ d l,rv,cv⟩) (hr:rv=q0) (hk:U.K τ=ek) (hg:iD l n):MO P Y.C E s a w β (.slice t x (some b) none none) (.l (.suf i cv τ n l)):=λo hop=>by
 obtain⟨hu,ii,zz',hii,hz,hik,hib,hzk,hk0⟩:=fA (zX (bT hTI h1) rfl).1;obtain⟨kk,hn⟩:=mZ h3;have hnv:a.eval b= .int kk n:=(lZ r hn).1;obtain⟨_,e',t',k1,k2,k3⟩:=lZ r h2;rw[ho] at k1;injection k1 with k1;subst k1;have hv:=k3 hr;obtain⟨_,xs,c1,_⟩:=r.hp.ok i t' _ k2 ho;have hlen:t'.n=l.length/\l.length<=t'.c:=by
  rcases dR c1 with⟨_,b2,_,b4,b5⟩|⟨b,cur,b1,b2,b3,_⟩
  ·omega
  ·exact⟨b2,b3⟩
 refine⟨aCh (U.K τ) t' n.toNat l.length,λw' _=> ?_,⟨⟨(r.hp.vers i _ ho).2,rfl⟩,_,t',ho,k2,λ_=>⟨d,rfl,hg.1,hg.2,rfl⟩⟩⟩;have e1:(0<=n/\n<=(l.length:Int)):=⟨hg.1,by have:=hg.2;have:=hg.1;omega⟩;simp[execOp,hop,hv,Tr.val,hlen.1,hnv,Instr.sliceAt,Instr.slice,run_underlying hu,Instr.sliceBounds,Instr.sliceBound,asIntOf,e1,sizeOf,typeInfo,hii,hik,hk,aCh]
end
end Go.EV
namespace Go.EV
open Go.RowKit Go.VK
variable {U:Uni} {Y:Lay U} {TI:List (Nat×TInfo)} {P:Program} {g:GI} {E:Env U g} {C:Cod U}
def mI:∀{l:List Nat} {i:Nat},Gv i l=true↔i∈l
 |[],i=>by simp[Gv]
 |x::l,i=>by
  have e:Gv i (x::l)=cond (Nat.beq x i) true (Gv i l):=rfl;rw[e,aE];cases hb:Nat.beq x i with
  |true=>simp[(ah hb).symm]
  |false=>simp only[ab];rw[mI];exact⟨.inr,λh=>h.resolve_left (λe=>by rw[e,show Nat.beq x x=true from dp x] at hb;cases hb)⟩
def xG:∀{l:List Nat},dist l=true↔l.Nodup
 |[]=>by simp[dist]
 |x::l=>by
  have e:dist (x::l)=cond (Gv x l) false (dist l):=rfl;rw[e,cw,<-xG (l:=l),<-mI (l:=l)];cases Gv x l<;>simp
def Gz {k:Nat}:∀{ids:List Nat} {o:List (EO U)},(Si k ids o).length=o.length
 |[],o=>rfl
 |i::ids,o=>by
  have e:Si k (i::ids) o=upd (Si k ids o) i ⟨.dead,k,k⟩:=rfl;rw[e,bZ,ax,Gz]
def aCq {k:Nat}:∀{ids:List Nat} {o:List (EO U)} {j:Nat},j∈ids->j<o.length->(Si k ids o)[j]? =some ⟨.dead,k,k⟩
 |[],o,j,h,_=>by simp at h
 |i::ids,o,j,h,hj=>by
  have e:Si k (i::ids) o=upd (Si k ids o) i ⟨.dead,k,k⟩:=rfl;rw[e,bZ];by_cases hij:i=j
  ·subst hij;rw[bg (by rw[Gz];exact hj)]
  ·rw[bj hij];exact aCq (by rcases aE.1 h with h|h;exact absurd h.symm hij;exact h) hj
def wH {k:Nat}:∀{ids:List Nat} {o:List (EO U)} {j:Nat},j∉ids->(Si k ids o)[j]? =o[j]?
 |[],o,j,_=>rfl
 |i::ids,o,j,h=>by
  have e:Si k (i::ids) o=upd (Si k ids o) i ⟨.dead,k,k⟩:=rfl;rw[e,bZ,bj (λe=>h (by simp[e])),wH (λhh=>h (by simp[hh]))]
def aCr:Tr:=⟨none,0,0,[]⟩
def nV:aCr.all=[]:=rfl
def aVw:List Nat->List Tr->List Tr
 |[],β=>β
 |i::ids,β=>(aVw ids β).set i aCr
def aKe:∀{ids:List Nat} {β:List Tr},(aVw ids β).length=β.length
 |[],_=>rfl
 |i::ids,β=>by simp[aVw,aKe]
def bBg:∀{ids:List Nat} {β:List Tr} {j:Nat},j∈ids->j<β.length->(aVw ids β)[j]? =some aCr
 |[],_,j,h,_=>by simp at h
 |i::ids,β,j,h,hj=>by
  simp only[aVw];by_cases hij:i=j
  ·subst hij;rw[bg (by rw[aKe];exact hj)]
  ·rw[bj hij];exact bBg (by rcases aE.1 h with h|h;exact absurd h.symm hij;exact h) hj
def aKf:∀{ids:List Nat} {β:List Tr} {j:Nat},j∉ids->(aVw ids β)[j]? =β[j]?
 |[],_,j,_=>rfl
 |i::ids,β,j,h=>by
  simp only[aVw];rw[bj (λe=>h (by simp[e])),aKf (λhh=>h (by simp[hh]))]
section
variable {s:St U} {a:Act} {w w':World} {β:List Tr}
def bE.add (r:bE C E s a w β)(he:Ext w w')(bs:List (EO U×Tr))(hv:∀x∈bs,x.1.rv<=s.m.k/\x.1.cv<=s.m.k)(hb:∀x∈bs,∀b∈x.2.all,w.heap.size<=b/\b<w'.heap.size)
  (hnd:((bs.map λx=>x.2.all).flatten).Nodup)
  (hok:Evo w w' (E.X β) (E.X (β++bs.map (·.2))) β (β++bs.map (·.2)) s.m ⟨s.m.o++bs.map (·.1),s.m.k,s.m.ns⟩ s.m.o.length s.m.ns.length s.m.k->∀x∈bs,x.1.ob.ok C w' (E.X (β++bs.map (·.2))) (β++bs.map (·.2)) ⟨s.m.o++bs.map (·.1),s.m.k,s.m.ns⟩ x.2):
  bE C E ⟨s.t,⟨s.m.o++bs.map (·.1),s.m.k,s.m.ns⟩,s.fr⟩ a w' (β++bs.map (·.2)):=by
 have hlen:=r.hp.len;have hget:∀(j:Nat) (t:Tr),s.m.o.length<=j->(β++bs.map (·.2))[j]? =some t->∃x,bs[j-s.m.o.length]? =some x/\t=x.2:=λj t hj ht=>by
  rw[ay (by omega),hlen,bh] at ht;cases hx:bs[j-s.m.o.length]? with
  |none=>simp[hx] at ht
  |some x=>simp only[hx,cJ,ai] at ht;exact⟨x,rfl,ht.symm⟩
 have hgeto:∀(j:Nat) (e:EO U),s.m.o.length<=j->(s.m.o++bs.map (·.1))[j]? =some e->∃x,bs[j-s.m.o.length]? =some x/\e=x.1:=λj e hj ht=>by
  rw[ay hj,bh] at ht;cases hx:bs[j-s.m.o.length]? with
  |none=>simp[hx] at ht
  |some x=>simp only[hx,cJ,ai] at ht;exact⟨x,rfl,ht.symm⟩
 have hF:∀{j:Nat},(False\/s.m.o.length<=j)->s.m.o.length<=j:=λh=>h.resolve_left id;have hpw:∀(i j:Nat) (x y:EO U×Tr) (b:Nat),i≠j->bs[i]? =some x->bs[j]? =some y->b∈x.2.all->b∉y.2.all:=λi j x y b hij hx hy hbx hby=>by
  have hp:=(ic.1 hnd).2;rw[gr] at hp;have:=dT.1 hp;obtain⟨l1,e1⟩:=bc.1 hx;obtain⟨l2,e2⟩:=bc.1 hy;rcases Nat.lt_or_gt_of_ne hij with h|h
  ·exact this i j l1 l2 h b (by rw[e1];exact hbx) b (by rw[e2];exact hby) rfl
  ·exact this j i l2 l1 h b (by rw[e2];exact hby) b (by rw[e1];exact hbx) rfl
 obtain⟨h1,h2⟩:=r.hp.step (s':=⟨s.m.o++bs.map (·.1),s.m.k,s.m.ns⟩) (β':=β++bs.map (·.2)) (w':=w') (λ_=>False) (λ_=>False) (aj _) (λ_ _ f h=>⟨f,h⟩) r.hp.cnt (by simp[hlen]) (by simp) he.size he.os he.tape he.output
  (λb hb _=>he.block b hb) (λ_ h=>h.elim) (λi _ hi=>⟨by rw[aq hi],by rw[aq (by rw[hlen];exact hi)]⟩)
  (λj t b hj ht hbt=>by
   obtain⟨x,hx,rfl⟩:=hget j t (hF hj) ht;have:=hb x (az hx) b hbt;exact⟨this.2, .inl this.1⟩)
  (λi j t u b hi hj hij ht hu hbt hbu=>by
   obtain⟨x,hx,rfl⟩:=hget i t (hF hi) ht;obtain⟨y,hy,rfl⟩:=hget j u (hF hj) hu;exact hpw _ _ x y b (by have:=hF hi;have:=hF hj;omega) hx hy hbt hbu)
  (λj t hj ht=>by
   obtain⟨x,hx,rfl⟩:=hget j t (hF hj) ht;exact(ic.1 hnd).1 _ (cj.2 ⟨x,az hx,rfl⟩))
  (λj e hj he'=>by
   obtain⟨x,hx,rfl⟩:=hgeto j e (hF hj) he';exact hv x (az hx))
  (λ_ _ _ _ _ h=>h.elim)
  (λhev j t e hj ht he'=>by
   obtain⟨x,hx,rfl⟩:=hget j t (hF hj) ht;obtain⟨y,hy,rfl⟩:=hgeto j e (hF hj) he';rw[hx] at hy;injection hy with hy;subst hy;exact hok hev x (az hx))
 exact r.go h1 h2
def bE.turn (r:bE C E s a w β){i:Nat}{J:List Nat}{e:EO U}{t t':Tr}{ob:Ob U}{rv:Nat}(hi:s.m.o[i]? =some e)(ht:β[i]? =some t)(hJ:(i::J).Nodup)
  (hsz:w.heap.size<=w'.heap.size) (hos:w'.os=w.os) (htape:w'.tape=w.tape) (hout:w'.output=w.output) (hheap:∀b,b<w.heap.size->b∉t.all->w'.heap[b]? =w.heap[b]?)
  (hnew:∀b∈t'.all,b<w'.heap.size/\(w.heap.size<=b\/b∈t.all\/∃j∈J,∃u,β[j]? =some u/\b∈u.all)) (hnd:t'.all.Nodup) (hrv:(rv=e.rv/\t'.val=t.val)\/rv=s.m.k+1)
  (hbox:ob.aAX=true->e.ob.aAX=true/\t'.b=t.b)
  (hok:∀(β':List Tr) (m':Mm U),Evo w w' (E.X β) (E.X β') β β' s.m m' s.m.o.length s.m.ns.length s.m.k->ob.ok C w' (E.X β') β' m' t'):
  ∃β',bE C E ⟨s.t,⟨Si (s.m.k+1) J (upd s.m.o i ⟨ob,rv,s.m.k+1⟩),s.m.k+1,s.m.ns⟩,s.fr⟩ a w' β'/\β'[i]? =some t'/\Evo w w' (E.X β) (E.X β') β β' s.m ⟨Si (s.m.k+1) J (upd s.m.o i ⟨ob,rv,s.m.k+1⟩),s.m.k+1,s.m.ns⟩ s.m.o.length s.m.ns.length s.m.k:=by
 have hiJ:i∉J:=(cw.1 hJ).1;have hil:i<s.m.o.length:=lt_of_some hi;have hlen:=r.hp.len;let o':=Si (s.m.k+1) J (upd s.m.o i ⟨ob,rv,s.m.k+1⟩);let β':=aVw J (β.set i t');have hol:o'.length=s.m.o.length:=by simp only[o',Gz,bZ,ax]
 have hbl:β'.length=β.length:=by simp only[β',aKe,ax]
 have ho_i:o'[i]? =some ⟨ob,rv,s.m.k+1⟩:=by simp only[o'];rw[wH hiJ,bZ,bg hil]
 have hb_i:β'[i]? =some t':=by simp only[β'];rw[aKf hiJ,bg (by rw[hlen];exact hil)]
 have ho_J:∀j∈J,j<s.m.o.length->o'[j]? =some ⟨.dead,s.m.k+1,s.m.k+1⟩:=λj hj hl=>aCq hj (by rw[bZ,ax];exact hl);have hb_J:∀j∈J,j<s.m.o.length->β'[j]? =some aCr:=λj hj hl=>bBg hj (by rw[ax,hlen];exact hl);have ho_n:∀j,j≠i->j∉J->o'[j]? =s.m.o[j]? :=λj h1 h2=>by simp only[o'];rw[wH h2,bZ,bj (Ne.symm h1)]
 have hb_n:∀j,j≠i->j∉J->β'[j]? =β[j]? :=λj h1 h2=>by simp only[β'];rw[aKf h2,bj (Ne.symm h1)]
 have hcase:∀j,((j=i\/j∈J)\/s.m.o.length<=j)->j=i\/(j∈J/\j<s.m.o.length)\/s.m.o.length<=j:=λj h=>by
  rcases h with(h|h)|h
  ·exact .inl h
  ·by_cases hl:j<s.m.o.length
   ·exact .inr (.inl ⟨h,hl⟩)
   ·exact .inr (.inr (by omega))
  ·exact .inr (.inr h)
 have htr:∀(j:Nat) (u:Tr),((j=i\/j∈J)\/s.m.o.length<=j)->β'[j]? =some u->(j=i/\u=t')\/u=aCr:=λj u h hu=>by
  rcases hcase j h with rfl|⟨h1,h2⟩|h1
  ·rw[hb_i] at hu;injection hu with hu;exact .inl ⟨rfl,hu.symm⟩
  ·rw[hb_J j h1 h2] at hu;injection hu with hu;exact .inr hu.symm
  ·have:=lt_of_some hu;omega
 obtain⟨h1,h2⟩:=r.hp.step (s':=⟨o',s.m.k+1,s.m.ns⟩) (β':=β') (w':=w') (λj=>j=i\/j∈J) (λb=>b∈t.all\/∃j∈J,∃u,β[j]? =some u/\b∈u.all) (eo _) (λ_ _ f h=>⟨f,h⟩) r.hp.cnt (by rw[hbl,hol,hlen]) (by rw[hol];exact aj _) hsz hos htape hout
  (λb hb hn=>hheap b hb (λh=>hn (.inl h)))
  (λb hb=>by
   rcases hb with hb|⟨j,hj,u,hu,hub⟩
   ·exact⟨i,t, .inl rfl,ht,hb⟩
   ·exact⟨j,u, .inr hj,hu,hub⟩)
  (λj hj _=>⟨ho_n j (λe=>hj (.inl e)) (λe=>hj (.inr e)),hb_n j (λe=>hj (.inl e)) (λe=>hj (.inr e))⟩)
  (λj u b hj hu hb=>by
   rcases htr j u hj hu with⟨_,rfl⟩|rfl
   ·obtain⟨q1,q2⟩:=hnew b hb;refine⟨q1,q2.imp id λq=> ?_⟩;rcases q with q|⟨j',hj',u',hu',hub'⟩
    ·exact⟨i,t, .inl rfl,ht,q⟩
    ·exact⟨j',u', .inr hj',hu',hub'⟩
   ·simp[nV] at hb)
  (λj j' u u' b hj hj' hjj hu hu' hb hb'=>by
   rcases htr j u hj hu with⟨e1,rfl⟩|rfl
   ·rcases htr j' u' hj' hu' with⟨e2,rfl⟩|rfl
    ·exact hjj (e1.trans e2.symm)
    ·simp[nV] at hb'
   ·simp[nV] at hb)
  (λj u hj hu=>by
   rcases htr j u hj hu with⟨_,rfl⟩|rfl
   ·exact hnd
   ·rw[nV];exact fj)
  (λj e' hj he'=>by
   rcases hcase j hj with rfl|⟨q1,q2⟩|q
   ·rw[ho_i] at he';injection he' with he';subst he';refine⟨?_,aj _⟩;rcases hrv with⟨h,_⟩|h
    ·have:=(r.hp.vers _ e hi).1;simp only;omega
    ·simp only;omega
   ·rw[ho_J j q1 q2] at he';injection he' with he';subst he';exact⟨aj _,aj _⟩
   ·have:=lt_of_some he';simp only at this;omega)
  (λj e0 e' u u' hj he0 he' hu hu'=>by
   rcases hj with rfl|hj
   ·rw[ho_i] at he';injection he' with he';subst he';rw[hi] at he0;injection he0 with he0;subst he0;rw[ht] at hu;injection hu with hu;subst hu;rw[hb_i] at hu';injection hu' with hu';subst hu';refine⟨λhle=> ?_,dq _,hbox⟩;rcases hrv with h|h
    ·exact h
    ·simp only at hle;omega
   ·have hl:=lt_of_some he0;rw[ho_J j hj hl] at he';injection he' with he';subst he';exact⟨λhle=>by simp only at hle;omega,dq _,λh=>by cases h⟩)
  (λhev j u e' hj hu he'=>by
   rcases hcase j hj with rfl|⟨q1,q2⟩|q
   ·rw[ho_i] at he';injection he' with he';subst he';rw[hb_i] at hu;injection hu with hu;subst hu;exact hok _ _ hev
   ·rw[ho_J j q1 q2] at he';injection he' with he';subst he';trivial
   ·have:=lt_of_some he';simp only at this;omega)
 exact⟨β',r.go h1 h2,hb_i,h2⟩
def jX (β:List Tr)(ids:List Nat):List Nat:=(ids.map λj=>match β[j]? with|some t=>t.all|none=>[]).flatten
def wI {ids:List Nat}{b:Nat}(h:b∈jX β ids):∃j∈ids,∃u,β[j]? =some u/\b∈u.all:=by
 simp only[jX,jf,cj] at h;obtain⟨l,⟨j,hj,rfl⟩,hb⟩:=h;cases hu:β[j]? with
 |none=>simp[hu] at hb
 |some u=>simp only[hu] at hb;exact⟨j,hj,u,hu,hb⟩
def aTl (H:Hp C E s.m β w){ids:List Nat}(h:ids.Nodup):(jX β ids).Nodup:=by
 unfold jX;refine ic.2 ⟨λl hl=> ?_,?_⟩
 ·obtain⟨j,_,rfl⟩:=cj.1 hl;cases hu:β[j]? with
  |none=>exact fj
  |some u=>exact H.nd j u hu
 ·rw[gr];refine h.imp λ{j j'} hjj b hb b' hb'=> ?_;rintro rfl;cases hu:β[j]? with
  |none=>simp[hu] at hb
  |some u=>
   cases hu':β[j']? with
   |none=>simp[hu'] at hb'
   |some u'=>simp only[hu] at hb;simp only[hu'] at hb';exact H.dist j j' u u' b hjj hu hu' hb hb'
def N9 {i j:List Nat}:jX β (i++j)=jX β i++jX β j:=by simp[jX]
def aQ0 (H:Hp C E s.m β w){kd:Kd}{x y:Lf U}{ids:List Nat}{d:Bool}(h:aVg s.m kd x=some (y,ids,d)){v:Value}(hm:x.mean C w (E.X β) β s.m v)(hK:∀τ,kd= .sl τ->0<U.K τ):Ow C w (E.X β) d v y (jX β ids):=by
 have flat:∀{x:Lf U},x.mean C w (E.X β) β s.m v->nM x=true->(∀τ l,x≠ .sl τ l)->(match rC s.m x with|some y=>some (y,([]:List Nat),true)|none=>none)=some (y,ids,d)->Ow C w (E.X β) d v y (jX β ids):=λ{x} hm hf hns h=>by
  cases hr:rC s.m x with
  |none=>simp[hr] at h
  |some y'=>
   simp only[hr,ai,cU] at h;obtain⟨rfl,rfl,rfl⟩:=h;have:=(Cy H hm hr (Z:=λ_=>False) (λ_ h=>h.elim) (.inl hf)).2;have hb:jX β []=[]:=rfl;rw[hb];cases x with
   |int k n=>simp only[rC,ai] at hr;subst hr;obtain⟨rfl,h1,h2⟩:=this.aAP;exact .int h1 h2
   |bool k=>simp only[rC,ai] at hr;subst hr;obtain rfl:=this.aAW;exact .bool
   |str k=>simp only[rC,ai] at hr;subst hr;obtain⟨rfl,h1⟩:=this.aAT;exact .str h1
   |nat c=>
    simp only[rC] at hr;split at hr
    ·simp only[ai] at hr;subst hr;obtain⟨rfl,h1,h2⟩:=this.aAP;exact .int h1 h2
    ·cases hr
   |lt c n=>
    simp only[rC] at hr;split at hr
    ·simp only[ai] at hr;subst hr;obtain rfl:=this.aAW;exact .bool
    ·cases hr
   |sl τ l=>exact absurd rfl (hns τ l)
   |own=>cases hf
   |bor=>cases hf
   |inn=>cases hf
   |_=>cases hr
 cases x with
 |nil=>
  obtain rfl:=hm;cases kd with
  |sl τ=>simp only[aVg,ai,cU] at h;obtain⟨rfl,rfl,rfl⟩:=h;exact .sl aCr (hK τ rfl) (World.ownsRow_nil w 0 τ (U.K τ)) .n
  |_=>cases h
 |sl τ l=>simp only[aVg,ai,cU] at h;obtain⟨rfl,rfl,rfl⟩:=h;exact .fz rfl hm
 |own i q=>
  obtain⟨_,e,t,k1,k2,k3⟩:=hm;simp only[aVg,aS,k1] at h;obtain⟨ob,rv,cv⟩:=e;cases ob with
  |tree τ d' l=>
   cases hb:Nat.beq rv q with
   |false=>simp[hb] at h
   |true=>simp only[hb,ac,ai,cU] at h;obtain⟨rfl,rfl,rfl⟩:=h;rw[k3 (ah hb)];have:=Hp.tree H k2 k1 rfl;simpa[jX,k2] using this
  |_=>cases h
 |bor=>cases h
 |inn=>cases h
 |suf i c τ q l=>
  obtain⟨_,e,t,k1,k2,k3⟩:=hm;simp only[aVg,aS,k1] at h;obtain⟨ob,rv,cv⟩:=e;cases ob with
  |tree τ' d' l'=>
   cases hb:Nat.beq cv c with
   |false=>simp[hb] at h
   |true=>simp only[hb,ac,ai,cU] at h;obtain⟨rfl,rfl,rfl⟩:=h;obtain⟨d0,a1,a2,a3,rfl⟩:=k3 (ah hb);injection a1 with e1 e2 e3;subst e1;subst e2;obtain rfl:=ez e3;obtain⟨h1,xs,h2,h3⟩:=H.ok i t _ k2 k1;have:=Ow.su rfl t q.toNat h1 a3 h2 h3.soft;simpa[jX,k2] using this
  |_=>cases h
 |int k n=>exact flat hm rfl (by simp) h
 |bool b=>exact flat hm rfl (by simp) h
 |str b=>exact flat hm rfl (by simp) h
 |nat c=>exact flat hm rfl (by simp) h
 |lt c n=>exact flat hm rfl (by simp) h
 |_=>cases h
def Ow.fl {X:Nat->Prop}{d d':Bool}{v:Value}{x:Lf U}{B:List Nat}(h:Ow C w X d v x B)(hd:d'=true->d=true):Ow C w X d' v x B:=by
 cases d' with
 |false=>exact h.soft
 |true=>rw[hd rfl] at h;exact h
def OwL.fl {X:Nat->Prop}{d d':Bool}{v:List Value}{x:List (Lf U)}{B:List Nat}(h:OwL C w X d v x B)(hd:d'=true->d=true):OwL C w X d' v x B:=by
 cases d' with
 |false=>exact h.soft
 |true=>rw[hd rfl] at h;exact h
def Da (H:Hp C E s.m β w):∀{ks:List Kd} {xs ys:List (Lf U)} {ids:List Nat} {d:Bool} {vs:List Value},aCi s.m ks xs=some (ys,ids,d)->Ms C w (E.X β) β s.m vs xs->(∀kd∈ks,∀τ,kd= .sl τ->0<U.K τ)->OwL C w (E.X β) d vs ys (jX β ids)
 |[],[],ys,ids,d,vs,h,hM,_=>by
  simp only[aCi,ai,cU] at h;obtain⟨rfl,rfl,rfl⟩:=h;have:vs=[]:=bv hM.1;subst this;exact .n
 |[],_::_,_,_,_,_,h,_,_=>by cases h
 |_::_,[],_,_,_,_,h,_,_=>by cases h
 |kd::ks,x::xs,ys,ids,d,vs,h,hM,hK=>by
  simp only[aCi] at h;cases h1:aVg s.m kd x with
  |none=>simp[h1] at h
  |some q=>
   obtain⟨y,i,d1⟩:=q;cases h2:aCi s.m ks xs with
   |none=>simp[h1,h2] at h
   |some q2=>
    obtain⟨ys',is,ds⟩:=q2;simp only[h1,h2,ai,cU] at h;obtain⟨rfl,rfl,rfl⟩:=h
    match vs,hM with
    |[],hM=>have:=hM.1;simp at this
    |v::vs,hM=>rw[N9];refine .c ((aQ0 H h1 (hM.2 0 v x rfl rfl) (hK kd (by simp))).fl (by simp;exact λh _=>h)) ((Da H h2 ⟨by have:=hM.1;simpa using this,λi u c a b=>hM.2 (i+1) u c (by simpa using a) (by simpa using b)⟩ (λkd' hk=>hK kd' (by simp[hk]))).fl (by simp))
end
end Go.EV
namespace Go.EV
open Go.RowKit Go.VK
variable {U:Uni} {Y:Lay U} {TI:List (Nat×TInfo)} {P:Program} {g:GI} {E:Env U g}
def kdL:Lf U->Option Kd
 | .int k _=>some (.int k)
 | .bool _=>some .bool
 | .str _=>some .str
 | .sl τ _=>some (.sl τ)
 |_=>none
def bGq {cs:List (Lf U)}{ks:List Kd}(h:cs.map kdL=ks.map some):∀c∈cs,c.aAZ=true:=λc hc=>by
 have h1:kdL c∈cs.map kdL:=cj.2 ⟨c,hc,rfl⟩;rw[h] at h1;obtain⟨k,_,hk⟩:=cj.1 h1;cases c<;>first|rfl|cases hk
structure LayOk (Y:Lay U):Prop where
 kds:∀(τ:Nat) (x:U.El τ),(Y.C.cel τ x).map kdL=(Y.kd τ).map some
 pos:∀(τ τ':Nat),Kd.sl τ'∈Y.kd τ->0<U.K τ'
section
variable {s:St U} {a:Act} {w:World} {β:List Tr} {α:Type}
def SO (P:Program)(C:Cod U)(E:Env U g)(a:Act)(w:World)(o:Oper)(x:Sv U)(s':St U)(e:Bool):Prop:=
 ∀(K:Act->World->Prop) (Q:Exit->Act->World->Prop),(∀v w' β',bE C E s' a w' β'->(o.dst≠none->x.mean C w' (E.X β') β' s'.m v)->(e=true->Ext w w')->K (a.put o.dst v) w')->o.wp P a w K Q
def SO.aDB (r:bE Y.C E s a w β){o:Oper}{x:Sv U}(h:MO P Y.C E s a w β o.op x):SO P Y.C E a w o x s true:=λK Q hK=>by
 obtain⟨v,h1,h2⟩:=h o rfl;exact wpo (.inl (h1 w (Ext.refl w))) (hK v w β r (λ_=>h2) (λ_=>Ext.refl w))
def SO.soft {o:Oper}{x:Sv U}{s':St U}{e:Bool}{C:Cod U}(h:SO P C E a w o x s' e):SO P C E a w o x s' false:=λK Q hK=>h K Q λv w' β' h1 h2 _=>hK v w' β' h1 h2 (λh=>by cases h)
def bGr (w:World)(cs:Array Value)(T:Nat):(w.alloc (.cells cs T)).heap[w.heap.size]? =some (.cells cs T (0,0)):=by simpa using heap_alloc_new w _
def bE.aCL (r:bE Y.C E s a w β){T:Nat}{vs:Array Value}{cs:List (Lf U)}(hM:Ms Y.C w (E.X β) β s.m vs.toList cs):
  ∃β',bE Y.C E (psh s (.box T cs (cs.map λ_=>s.m.k))) a (w.alloc (.cells vs T)) β'/\(Lf.box (len s.m.o) 0:Lf U).mean Y.C (w.alloc (.cells vs T)) (E.X β') β' (psh s (.box T cs (cs.map λ_=>s.m.k))).m (.pointer (some ⟨w.heap.size,0,none⟩)):=by
 have he:Ext w (w.alloc (.cells vs T)):=Ext.alloc _ _;have r':=r.add he [(⟨.box T cs (cs.map λ_=>s.m.k),s.m.k,s.m.k⟩,⟨some w.heap.size,0,0,[]⟩)] (by simp) (by simp[Tr.all]) (by simp[Tr.all]) (λhev x hx=>by
  simp at hx;subst hx;exact⟨by simp,w.heap.size,vs.toList,rfl,rfl,by simpa using bGr w vs T,hM.go hev⟩)
 refine⟨_,r',rfl,⟨.box T cs (cs.map λ_=>s.m.k),s.m.k,s.m.k⟩,⟨some w.heap.size,0,0,[]⟩,?_,?_,λ_=>⟨_,rfl,rfl⟩⟩
 ·simp[psh,bK]
 ·rw[ay (by rw[r.hp.len,bK];exact aj _),r.hp.len,bK];simp
def bDe (r:bE Y.C E s a w β){o:Oper}{T:TypeId}{x:Operand}(ho:o.op= .box T x){cs:List (Lf U)}(hp:parts (uA s x)=some cs)(h1:Cq cs=true):
  SO P Y.C E a w o (.l (.box (len s.m.o) 0)) (psh s (.box T cs (cs.map λ_=>s.m.k))) true:=λK Q hK=>by
 have hM:=(xE (jL r (x:=x)) hp h1).1;obtain⟨β',r1,r2⟩:=r.aCL (T:=T) hM;refine wpo (w':=w.alloc (.cells (a.eval x).cells T)) (v:= .pointer (some ⟨w.heap.size,0,none⟩)) (.inl ?_) (hK _ _ β' r1 (λ_=>r2) (λ_=>Ext.alloc _ _));simp[execOp,ho,Instr.box,newVar,newRow]
def aVx (hTI:pY P TI=true)(r:bE Y.C E s a w β){o:Oper}{T:TypeId}{i:TInfo}(ho:o.op= .alloc T)(hf:iJ TI T=some i):
  SO P Y.C E a w o (.l (.box (len s.m.o) 0)) (psh s (.box T (i.z.map Kz.lf) (i.z.map λ_=>s.m.k))) true:=λK Q hK=>by
 obtain⟨j,z,k3,k4,k5⟩:=aI5 (bT hTI hf);have hM:Ms Y.C w (E.X β) β s.m z.cells.toList (i.z.map Kz.lf):=Ng k5;obtain⟨β',r1,r2⟩:=r.aCL (T:=T) hM;have e:((i.z.map (Kz.lf:Kz->Lf U)).map λ_=>s.m.k)=i.z.map λ_=>s.m.k:=by simp
 rw[e] at r1 r2;refine wpo (w':=w.alloc (.cells z.cells T)) (v:= .pointer (some ⟨w.heap.size,0,none⟩)) (.inl ?_) (hK _ _ β' r1 (λ_=>r2) (λ_=>Ext.alloc _ _));simp[execOp,ho,Instr.alloc,zeroValue,typeInfo,k3,k4,newVar,newRow]
def bE.aCV (r:bE Y.C E s a w β){τ n:Nat}{cells:Array Value}{l:List (U.El τ)}{d:Bool}(hk:0<U.K τ)(hn:l.length=n)(hm:n<=maxLen)(hsz:cells.size=n*U.K τ)
  (hO:OwL Y.C w (E.X β) d cells.toList (l.map (Y.C.cel τ)).flatten []):
  ∃β',bE Y.C E (psh s (.tree τ d l)) a (w.alloc (.cells cells τ)) β'/\(Lf.own (len s.m.o) s.m.k:Lf U).mean Y.C (w.alloc (.cells cells τ)) (E.X β') β' (psh s (.tree τ d l)).m (.slice (some ⟨w.heap.size,0,none⟩) n n):=by
 have he:Ext w (w.alloc (.cells cells τ)):=Ext.alloc _ _;have r':=r.add he [(⟨.tree τ d l,s.m.k,s.m.k⟩,⟨some w.heap.size,n,n,[]⟩)] (by simp) (by simp[Tr.all]) (by simp[Tr.all]) (λhev x hx=>by
  simp at hx;subst hx;refine⟨hk,cells.toList,?_,hO.conv hev.sz hev.hX hev.hc (by simp)⟩;rw[hn];exact World.ownsRow_lit w cells n (cx _) hm hsz)
 refine⟨_,r',⟨aj _,rfl⟩,⟨.tree τ d l,s.m.k,s.m.k⟩,⟨some w.heap.size,n,n,[]⟩,?_,?_,λ_=>rfl⟩
 ·simp[psh,bK]
 ·rw[ay (by rw[r.hp.len,bK];exact aj _),r.hp.len,bK];simp
def OwL.flatten {C:Cod U}{X:Nat->Prop}{d:Bool}:∀{vss:List (List Value)} {xss:List (List (Lf U))},vss.length=xss.length->(∀(i:Nat) (vs:List Value) (xs:List (Lf U)),vss[i]? =some vs->xss[i]? =some xs->OwL C w X d vs xs [])->OwL C w X d vss.flatten xss.flatten []
 |[],[],_,_=> .n
 |[],_::_,h,_=>by simp at h
 |_::_,[],h,_=>by simp at h
 |vs::vss,xs::xss,h,h1=>by
  have:=OwL.app (h1 0 vs xs rfl rfl) (OwL.flatten (vss:=vss) (xss:=xss) (by simpa using h) λi vs xs a b=>h1 (i+1) vs xs (by simpa using a) (by simpa using b));simpa using this
def aVy (hY:LayOk Y)(r:bE Y.C E s a w β){e:Nat}:∀{ks:List Kd} {zs:List Kz} {ds:List (Lf U)} {vs:List Value},rds s.m ks (zs.map Kz.lf)=some ds->aYr vs zs=true->(∀τ',Kd.sl τ'∈ks->0<U.K τ')->OwL Y.C w (E.X β) true vs ds []
 |[],[],ds,[],h,_,_=>by simp only[ex,rds,ai] at h;subst h;exact .n
 |[],_::_,_,_,h,_,_=>by cases h
 |_::_,[],_,_,h,_,_=>by cases h
 |_,[],_,_::_,_,h,_=>by cases h
 |_,_::_,_,[],_,h,_=>by cases h
 |kd::ks,z::zs,ds,v::vs,h,hz,hp=>by
  simp only[bm,rds] at h;simp only[aYr,aa] at hz;cases h1:rdn s.m kd (z.lf:Lf U) with
  |none=>simp[h1] at h
  |some y=>
   cases h2:rds s.m ks (zs.map (Kz.lf:Kz->Lf U)) with
   |none=>simp[h1,h2] at h
   |some ys=>
    simp only[h1,h2,ai] at h;subst h;have hm:(z.lf:Lf U).mean Y.C w (E.X β) β s.m v:=bBe hz.1;have ho:Ow Y.C w (E.X β) true v y []:=by
     cases z with
     |int k=>simp only[Kz.lf,rdn,rC,ai] at h1;subst h1;obtain⟨rfl,q1,q2⟩:=hm;exact .int q1 q2
     |bool=>simp only[Kz.lf,rdn,rC,ai] at h1;subst h1;obtain rfl:=hm;exact .bool
     |str=>simp only[Kz.lf,rdn,rC,ai] at h1;subst h1;obtain⟨rfl,q1⟩:=hm;exact .str q1
     |nil=>
      obtain rfl:=hm;cases kd with
      |sl τ=>simp only[Kz.lf,rdn,ai] at h1;subst h1;exact .sl aCr (hp τ (by simp)) (World.ownsRow_nil w 0 τ (U.K τ)) .n
      |_=>cases h1
    have:=OwL.c ho (aVy hY r (e:=e) h2 hz.2 (λτ' hh=>hp τ' (by simp[hh])));simpa using this
def bDf {x y:Operand}(h:aJ0 x y=true):x=y:=by
 cases x<;>cases y<;>simp only[aJ0] at h
 ·rw[ah h]
 all_goals first|cases h|skip
 rename_i v u;split at h<;>simp_all
def aYt (hTI:pY P TI=true)(hY:LayOk Y)(r:bE Y.C E s a w β){o:Oper}{t:TypeId}{x y:Operand}{e ek eb k:Nat}{zz:List Kz}{i:TInfo}{n:Int}{ds:List (Lf U)}{z:U.El e}(ho:o.op= .makeSlice t x y)
  (h1:iJ TI t=some ⟨.sl e ek eb,k,zz⟩) (h2:iJ TI e=some i) (h3:dV s x= .l (.int .i64 n)) (h4:aJ0 x y=true) (h5:Nat.ble eb 2048=true) (h6:Gu (U:=U) e ek e=true) (h7:rds s.m (Y.kd e) (i.z.map Kz.lf)=some ds) (h8:Y.C.bld e ds=some z) (hg:bNq n):
  SO P Y.C E a w o (.l (.own (len s.m.o) s.m.k)) (psh s (.tree e true (List.replicate n.toNat z))) true:=λK Q hK=>by
 have hsl:=(zX (bT hTI h1) rfl).1;obtain⟨hu',ii,zv,hii,hz',hik,hib,hzk,hk0⟩:=fA hsl;obtain⟨j,zc,k3,k4,k5⟩:=aI5 (bT hTI h2);rw[hii] at k3;injection k3 with k3;subst k3;rw[hz'] at k4;injection k4 with k4;subst k4;simp only[Gu,aa] at h6;have hKe:U.K e=ek:=ah h6.2;have hb':eb<=2048:=bf h5;have hnn:((n.toNat:Nat):Int)=n:=Int.toNat_of_nonneg hg.1;have hN:n.toNat<=68719476736:=by have:=hg.2;omega
 have hb:(ii.bytes:Int)*n<=281474976710656:=by
  have h:((ii.bytes*n.toNat:Nat):Int)<=281474976710656:=by rw[hib];have:eb*n.toNat<=2048*68719476736:=ig hb' hN;omega
  rw[Int.natCast_mul,hnn] at h;exact h
 have hxv:a.eval x= .int .i64 n:=(lZ r h3).1;have hyv:a.eval y= .int .i64 n:=by rw[<-bDf h4];exact hxv
 have hrun:=run_make (P:=P) w t e ii zv hu' hii hz' .i64 .i64 n n hg.1 (dt _) hb (by have:=hg.2;omega);rw[hik,<-hKe] at hrun;have hO:OwL Y.C w (E.X β) true zv.cells.toList (Y.C.cel e z) []:=by have:=aVy hY r (e:=e) h7 k5 (λτ' hh=>hY.pos e τ' hh);rw[Y.C.hmk e ds z h8] at this;exact this
 have hcells:(madeCells zv.cells (n.toNat*U.K e)).toList=(List.replicate n.toNat zv.cells.toList).flatten:=by
  apply List.ext_getElem?;intro q;have hKz:zv.cells.size=U.K e:=by rw[hzk,hKe]
  have hkp:0<U.K e:=by rw[hKe];exact hk0
  by_cases hq:q<n.toNat*U.K e
  ·obtain⟨q0,q1,hq1,rfl⟩:∃q0 q1,q1<U.K e/\q=q0*U.K e+q1:=⟨q/U.K e,q%U.K e,Nat.mod_lt _ hkp,by rw[fo];exact(hH q _).symm⟩;have hdiv:q0<n.toNat:=jq (Nat.lt_of_le_of_lt (db _ _) hq);obtain⟨l1,l2,_,_,f3,f4⟩:=L9 (f:=λ(_:Unit)=>zv.cells.toList) (k:=U.K e) (λ_=>by simp[hKz]) (l:=List.replicate n.toNat ()) (i:=q0) (x:=()) (by rw[List.getElem?_replicate,cH hdiv]);have em:((List.replicate n.toNat ()).map λ(_:Unit)=>zv.cells.toList)=List.replicate n.toNat zv.cells.toList:=by simp
   rw[em] at f3;have hR:(List.replicate n.toNat zv.cells.toList).flatten[q0*U.K e+q1]? =zv.cells.toList[q1]? :=by rw[f3,<-f4,ay (db _ _),cP,aq (by simp[hKz];exact hq1)]
   rw[hR];have hm:(q0*U.K e+q1)%U.K e=q1:=by rw[fo,Nat.mul_add_mod];exact je hq1
   simp only[madeCells,Array.toList_map,bh,Array.toList_range,d8 hq,cJ,hKz,hm];rw[getElem!_pos zv.cells q1 (by rw[hKz];exact hq1)];simp[hKz,hq1]
  ·rw[df (by simp[size_madeCells];omega),df (by simp[hKz];omega)]
 obtain⟨β',r1,r2⟩:=r.aCV (τ:=e) (n:=n.toNat) (cells:=madeCells zv.cells (n.toNat*U.K e)) (l:=List.replicate n.toNat z) (d:=true) (by rw[hKe];exact hk0) (by simp) (by unfold maxLen;omega) (size_madeCells _ _) (by
  rw[hcells,List.map_replicate];exact OwL.flatten (by simp) λi vs xs q1 q2=>by
   rw[List.getElem?_replicate] at q1 q2;split at q1
   ·rw[cH ‹_›] at q2;injection q1 with q1;injection q2 with q2;subst q1;subst q2;exact hO
   ·cases q1)
 refine wpo (w':=w.alloc (.cells (madeCells zv.cells (n.toNat*U.K e)) e)) (v:= .slice (some ⟨w.heap.size,0,none⟩) n.toNat n.toNat) (.inl ?_) (hK _ _ β' r1 (λ_=>r2) (λ_=>Ext.alloc _ _));simp only[execOp,ho,hxv,hyv,Sem.run_bind,hrun,Result.andThen_ok,Sem.run_pure]
end
end Go.EV
namespace Go.EV
open Go.RowKit Go.VK
variable {U:Uni} {Y:Lay U} {TI:List (Nat×TInfo)} {P:Program} {g:GI} {E:Env U g}
section
variable {s:St U} {a:Act} {w:World} {β:List Tr} {α:Type}
def aTm {t:Nat}{i:TInfo}(h:tiB P t i=true)(w:World):(sizeOf t).run P w= .ok i.k w:=by
 cases hi:i.u with
 |int k=>have:=Nf h hi;rw[this.2.2];exact(sH this.2.1).2
 |bool=>have:=M7 h hi;rw[this.2.2];exact(sH this.2.1).2
 |str=>have:=Gy h hi;rw[this.2.2];exact(sH this.2.1).2
 |sl e ek eb=>have:=zX h hi;rw[this.2.2];exact(sH this.2.1).2
 |st fs=>exact(wY (M8 h hi).1).2
def Ha (hTI:pY P TI=true)(r:bE Y.C E s a w β){o:Oper}{t:TypeId}{x y:Operand}{i:TInfo}{b off T rv cv:Nat}{cs ps:List (Lf U)}{us:List Nat}(ho:o.op= .store t x y)
  (h1:iJ TI t=some i) (h2:dV s x= .l (.box b off)) (h3:parts (uA s y)=some ps) (h4:s.m.o[b]? =some ⟨.box T cs us,rv,cv⟩) (h5:ps.length=i.k) (h6:off+i.k<=cs.length) (h7:Cq ps=true):
  ∃(w':World) (β':List Tr) (t':Tr) (bb:Nat),(execOp a.eval o).run P w= .ok .skip w'/\bE Y.C E (trn s b (.box T (K5 cs off ps) (K5 us off (ps.map λ_=>Nat.succ s.m.k))) rv) a w' β'/\Evo w w' (E.X β) (E.X β') β β' s.m (trn s b (.box T (K5 cs off ps) (K5 us off (ps.map λ_=>Nat.succ s.m.k))) rv).m s.m.o.length s.m.ns.length s.m.k/\Bel (λk=>k=bb) w w'/\β[b]? =some t'/\t'.b=some bb:=by
 have hti:=bT hTI h1;obtain⟨hpm,hone⟩:=xE (jL r (x:=y)) h3 h7;have hxm:=lZ r h2;obtain⟨_,e',t',k1,k2,k3⟩:=hxm;rw[h4] at k1;injection k1 with k1;subst k1;obtain⟨bb,k4,k5⟩:=k3 rfl;have hok:=r.hp.ok b t' _ k2 h4;obtain⟨q0,b',vs,q1,q2,q3,q4⟩:=hok;rw[k4] at q1;injection q1 with q1;subst q1;have hl:off+(a.eval y).cells.toList.length<=vs.length:=by rw[hpm.1,h5,q4.1];exact h6
 have hrun:=aCf (P:=P) (T:=T) (t:=t) (b:=bb) (off:=off) (cur:=vs) (vs:=(a.eval y).cells.toList) (v:=a.eval y) (w:=w) (by simp) (by rw[hpm.1,h5];exact aTm hti w) q3 hl hone;obtain⟨f1,f2,f3,f4,f5⟩:=Gr w bb (vs.take off++(a.eval y).cells.toList++vs.drop (off+(a.eval y).cells.toList.length)).toArray;obtain⟨β',r1,_,hev⟩:=r.turn (J:=[]) (ob:= .box T (K5 cs off ps) (K5 us off (ps.map λ_=>Nat.succ s.m.k))) (rv:=rv) (t':=t') h4 k2 (by simp) (by rw[f1];exact aj _) f2 f3 f4
  (λk _ hk=>f5 k (λe=>hk (by rw[e];exact Tr.root k4))) (λk hk=>⟨by rw[f1];exact(r.hp.new b t' k k2 hk).2, .inr (.inl hk)⟩) (r.hp.nd b t' k2) (.inl ⟨rfl,rfl⟩) (λ_=>⟨rfl,rfl⟩) (λβ' m' hev=>by
   have hcs:(K5 cs off ps).length=cs.length:=by rw[Gx _ _ _ (by rw[h5];exact h6)];simp;omega
   refine⟨?_,bb,_,k4,q2,setRow_heap _ _ _ _ _ _ q3,?_⟩
   ·rw[hcs,q0,Gx _ _ _ (by simp[h5];omega)];simp;omega
   ·have hg:=hpm.go hev;have hq:=q4.go hev;refine⟨by rw[hcs,<-q4.1];simp only[au,ce,cn];omega,λj v c h8 h9=> ?_⟩;rw[wZ _ _ _ _ hl] at h8;rw[Gx _ _ _ (by rw[h5];exact h6),wZ _ _ _ _ (by rw[h5];exact h6)] at h9;rw[hpm.1] at h8;split at h8
    ·rename_i hj;rw[cH hj] at h9;exact hg.2 _ v c h8 h9
    ·rename_i hj;rw[cX hj] at h9;exact hq.2 _ v c h8 h9)
 refine⟨w.setRow bb (vs.take off++(a.eval y).cells.toList++vs.drop (off+(a.eval y).cells.toList.length)).toArray,β',t',bb,?_,r1,hev,⟨f2,f3,f4,by rw[f1];exact aj _,λk _ hk=>f5 k hk⟩,k2,k4⟩;simp only[execOp,ho,k5,Instr.storeAt,Instr.sureAddr,Sem.run_bind,Sem.run_pure,Result.andThen_ok,hrun]
def aKg (hTI:pY P TI=true)(r:bE Y.C E s a w β){o:Oper}{t:TypeId}{x y:Operand}{i:TInfo}{b off T rv cv:Nat}{cs ps:List (Lf U)}{us:List Nat}(ho:o.op= .store t x y)
  (h1:iJ TI t=some i) (h2:dV s x= .l (.box b off)) (h3:parts (uA s y)=some ps) (h4:s.m.o[b]? =some ⟨.box T cs us,rv,cv⟩) (h5:ps.length=i.k) (h6:off+i.k<=cs.length) (h7:Cq ps=true):
  SO P Y.C E a w o (.l .any) (trn s b (.box T (K5 cs off ps) (K5 us off (ps.map λ_=>Nat.succ s.m.k))) rv) false:=λK Q hK=>by
 obtain⟨w',β',t',bb,e1,r1,_,_,_,_⟩:=Ha hTI r ho h1 h2 h3 h4 h5 h6 h7;exact wpo (.inr ⟨e1,rfl⟩) (hK _ _ β' r1 (λ_=>trivial) (λh=>by cases h))
def bDg {A M M' D:List Nat}(h:(A++(M++D)).Nodup)(hM:M'.Nodup)(hd:∀x,x∈M'->x∉A++(M++D)):(A++(M'++D)).Nodup:=by
 rw[dm] at h ⊢;obtain⟨h1,h2,h3⟩:=h;rw[dm] at h2;obtain⟨h4,h5,h6⟩:=h2;refine⟨h1,?_,λx hx y hy=> ?_⟩
 ·rw[dm];refine⟨hM,h5,λx hx y hy e=> ?_⟩;subst e;exact hd x hx (by simp[hy])
 ·rcases bz.1 hy with hy|hy
  ·rintro rfl;exact hd x hy (by simp[hx])
  ·exact h3 x hx y (by simp[hy])
def aYu {α:Type}(l:List α)(off n:Nat)(h:off+n<=l.length):l=l.take off++((l.drop off).take n++l.drop (off+n))/\(l.take off).length=off/\((l.drop off).take n).length=n:=by refine⟨?_,by simp;omega,by simp;omega⟩;rw[<-jv,cE,cE]
def aQ1 {C:Cod U}{X:Nat->Prop}{d d':Bool}{t:Tr}{b τ q off:Nat}{L:List (U.El τ)}{z z':U.El τ}{xs vs:List Value}{ds:List (Lf U)}{D:List Nat}(hb:t.b=some b)
  (hown:w.ownsRow 0 τ (U.K τ) t.val L.length xs) (hc:OwL C w X d xs (L.map (C.cel τ)).flatten t.bs) (hz:L[q]? =some z) (hD:OwL C w X d' vs ds D) (hl:off+vs.length<=U.K τ)
  (h9:C.cel τ z'=(C.cel τ z).take off++(ds++(C.cel τ z).drop (off+vs.length))):
  ∃(cur:Array Value) (A M Z:List Nat),w.heap[b]? =some (.cells cur τ (0,0))/\q*U.K τ+off+vs.length<=cur.toList.length/\t.bs=A++(M++Z)/\
   ∀(w':World) (X':Nat->Prop),w.heap.size<=w'.heap.size->(∀b,b<w.heap.size->X' b->X b)->(∀(p:Addr) (u:Value),¬X p.block->w.cell? p=some u->w'.cell? p=some u)->
    w'.heap[b]? =some (.cells (cur.toList.take (q*U.K τ+off)++vs++cur.toList.drop (q*U.K τ+off+vs.length)).toArray τ (0,0))->(∀k,k≠b->w'.heap[k]? =w.heap[k]?)->b∉t.bs->b∉D->
    ∃xs',w'.ownsRow 0 τ (U.K τ) t.val L.length xs'/\OwL C w' X' (d&&d') xs' ((L.set q z').map (C.cel τ)).flatten (A++(D++Z)):=by
 obtain⟨l1,l2,x1,xz,x2,B1,Bz,B2,g1,g2,g3,g4,g5,g6,o1,o2,o3⟩:=aTf hc hz;obtain⟨s1,s2,s3⟩:=aYu (C.cel τ z) off vs.length (by rw[C.hlen];exact hl);rw[s1] at o2;obtain⟨z1,zr,Bz1,Bzr,e1,e2,p1,p2⟩:=OwL.split o2;obtain⟨z2,z3,Bz2,Bz3,e3,e4,p3,p4⟩:=OwL.split p2;have hz1:z1.length=off:=by rw[p1.len,s2]
 have hz2:z2.length=vs.length:=by rw[p3.len,s3]
 rcases dR hown with⟨b1,_⟩|⟨b',cur,b1,b2,b3,b4,b5,b6,b7⟩
 ·rw[hb] at b1;cases b1
 rw[hb] at b1;injection b1 with b1;subst b1;have hxs:cur.toList=(x1++(xz++x2))++cur.toList.drop (L.length*U.K τ):=by rw[<-g3,<-b7,cE]
 have hcur:cur.toList=(x1++z1)++(z2++(z3++(x2++cur.toList.drop (L.length*U.K τ)))):=by rw[e1,e3] at hxs;simpa[cf] using hxs
 have hpos:q*U.K τ+off=(x1++z1).length:=by rw[au,g4,hz1]
 have hnew:cur.toList.take (q*U.K τ+off)++vs++cur.toList.drop (q*U.K τ+off+vs.length)=(x1++((z1++(vs++z3))++x2))++cur.toList.drop (L.length*U.K τ):=by
  rw[hpos];rw[show cur.toList.take (x1++z1).length=x1++z1 by rw[hcur,gm]];rw[show cur.toList.drop ((x1++z1).length+vs.length)=z3++(x2++cur.toList.drop (L.length*U.K τ)) by
   rw[<-jv]
   conv=>lhs;rw[hcur]
   rw[im,<-hz2,im]]
  simp[cf]
 refine⟨cur,B1++Bz1,Bz2,Bz3++B2,b5,by rw[hcur,hpos];simp;omega,by rw[g6,e2,e4];simp,λw' X' c1 c2 c3 c4 c5 c6 c7=> ?_⟩;rw[hnew] at c4;have hne:∀k,(k∈B1\/k∈Bz1\/k∈Bz3\/k∈B2)->w'.heap[k]? =w.heap[k]? :=λk hk=>c5 k λe=>by
  subst e;apply c6;rw[g6,e2,e4];rcases hk with h|h|h|h<;>simp[h]
 have hlx:(x1++((z1++(vs++z3))++x2)).length=L.length*U.K τ:=by have:=hown.1;rw[g3,e1,e3] at this;simp only[au] at this ⊢;rw[<-hz2];omega
 have hset:L.set q z'=l1++z'::l2:=by rw[g1,<-g2];simp
 refine⟨x1++((z1++(vs++z3))++x2),⟨hlx, .inr ⟨b,t.c,_,?_,cx _,c4,b3,b4,?_,?_⟩⟩,?_⟩
 ·simp[Tr.val,hb,b2]
 ·have hh:cur.size=cur.toList.length:=by simp
  rw[<-b6,hh];simp only[fR,au,cn];simp only[au] at hlx;have:L.length*U.K τ<=cur.toList.length:=by rw[<-hh,b6];exact en _ b3
  omega
 ·simp only[List.toList_toArray];rw[<-hlx,gm]
 ·rw[hset,cT,ey,bm,cR,h9];have hsoft:(d&&d')=true->d=true:=λh=>by simp at h;exact h.1
  have hsoft':(d&&d')=true->d'=true:=λh=>by simp at h;exact h.2
  rw[show(B1++Bz1)++(D++(Bz3++B2))=B1++((Bz1++(D++Bz3))++B2) by simp];exact OwL.app ((o1.conv c1 c2 c3 (λk hk=>hne k (.inl hk))).fl hsoft)
   (OwL.app (OwL.app ((p1.conv c1 c2 c3 (λk hk=>hne k (.inr (.inl hk)))).fl hsoft)
    (OwL.app ((hD.conv c1 c2 c3 (λk hk=>c5 k λe=>c7 (e▸hk))).fl hsoft') ((p4.conv c1 c2 c3 (λk hk=>hne k (.inr (.inr (.inl hk))))).fl hsoft)))
    ((o3.conv c1 c2 c3 (λk hk=>hne k (.inr (.inr (.inr hk))))).fl hsoft))
def bKg {C:Cod U}{X:Nat->Prop}{d:Bool}{B:List Nat}{τ τ' q j:Nat}{L:List (U.El τ)}{z:U.El τ}{l:List (U.El τ')}{xs:List Value}(hc:OwL C w X d xs (L.map (C.cel τ)).flatten B)(hz:L[q]? =some z)(hj:(C.cel τ z)[j]? =some (.sl τ' l)):
  ∃(v:Value) (A B0 Z:List Nat),xs[q*U.K τ+j]? =some v/\Ow C w X d v (.sl τ' l) B0/\B=A++(B0++Z)/\
   ∀(w':World) (X':Nat->Prop) (d2:Bool) (l':List (U.El τ')) (z2:U.El τ) (B':List Nat),w.heap.size<=w'.heap.size->(∀b,b<w.heap.size->X' b->X b)->(∀(p:Addr) (u:Value),¬X p.block->w.cell? p=some u->w'.cell? p=some u)->
    (∀k,k∈A\/k∈Z->w'.heap[k]? =w.heap[k]?)->(d2=true->d=true)->Ow C w' X' d2 v (.sl τ' l') B'->C.cel τ z2=(C.cel τ z).take j++(.sl τ' l'::(C.cel τ z).drop (j+1))->OwL C w' X' d2 xs ((L.set q z2).map (C.cel τ)).flatten (A++(B'++Z)):=by
 obtain⟨l1,l2,x1,xz,x2,B1,Bz,B2,g1,g2,g3,g4,g5,g6,o1,o2,o3⟩:=aTf hc hz;have hjl:j<(C.cel τ z).length:=lt_of_some hj;have s1:C.cel τ z=(C.cel τ z).take j++((.sl τ' l)::(C.cel τ z).drop (j+1)):=by rw[ae hjl] at hj;injection hj with hj;rw[<-hj,<-ct hjl,cE]
 rw[s1] at o2;obtain⟨z1,zr,Bz1,Bzr,e1,e2,p1,p2⟩:=OwL.split o2;have hz1:z1.length=j:=by rw[p1.len,ce];omega
 cases p2 with
 | @c v _ B0 Br vs _ hv hr=>
  refine⟨v,B1++Bz1,B0,Br++B2,?_,hv,by rw[g6,e2];simp,λw' X' d2 l' z2 B' c1 c2 c3 c4 c5 c6 c7=> ?_⟩
  ·rw[g3,e1,<-g4,ay (db _ _),cP,cf,<-hz1,ay (aj _),fm];rfl
  ·rw[show L.set q z2=l1++z2::l2 by rw[g1,<-g2];simp,cT,ey,bm,cR,c7,g3,e1];rw[show(B1++Bz1)++(B'++(Br++B2))=B1++((Bz1++(B'++Br))++B2) by simp];exact OwL.app ((o1.conv c1 c2 c3 (λk hk=>c4 k (.inl (by simp[hk])))).fl c5)
    (OwL.app (OwL.app ((p1.conv c1 c2 c3 (λk hk=>c4 k (.inl (by simp[hk])))).fl c5) (.c c6 ((hr.conv c1 c2 c3 (λk hk=>c4 k (.inr (by simp[hk])))).fl c5)))
     ((o3.conv c1 c2 c3 (λk hk=>c4 k (.inr (by simp[hk])))).fl c5))
def aVz {ids:List Nat}{b:Nat}{t t2:Tr}(r:bE Y.C E s a w β)(k2:β[b]? =some t)(hJ:(b::ids).Nodup){A M Z:List Nat}(h1:t.all=A++(M++Z))(h2:t2.all=A++(jX β ids++Z)):
  t2.all.Nodup/\(∀k∈t2.all,k<w.heap.size/\(w.heap.size<=k\/k∈t.all\/∃j∈ids,∃u,β[j]? =some u/\k∈u.all))/\∀k,k∈jX β ids->k∉t.all:=by
 have hdisj:∀k,k∈jX β ids->k∉t.all:=λk hk hk'=>by
  obtain⟨j,hj,u,hu,hub⟩:=wI hk;exact r.hp.dist j b u t k (λe=>(cw.1 hJ).1 (e▸hj)) hu k2 hub hk'
 refine⟨?_,λk hk=> ?_,hdisj⟩
 ·rw[h2];exact bDg (h1▸r.hp.nd b t k2) (aTl r.hp (cw.1 hJ).2) (λk hk=>h1▸hdisj k hk)
 ·have:k∈t.all\/k∈jX β ids:=by
   rw[h2] at hk;rw[h1];simp only[bz] at hk ⊢;rcases hk with h|h|h
   ·exact .inl (.inl h)
   ·exact .inr h
   ·exact .inl (.inr (.inr h))
  rcases this with h|h
  ·exact⟨(r.hp.new b t k k2 h).2, .inr (.inl h)⟩
  ·obtain⟨j,hj,u,hu,hub⟩:=wI h;exact⟨(r.hp.new j u k hu hub).2, .inr (.inr ⟨j,hj,u,hu,hub⟩)⟩
def aGx (hTI:pY P TI=true)(hY:LayOk Y)(r:bE Y.C E s a w β){o:Oper}{t:TypeId}{x y:Operand}{i:TInfo}{b c τ off rv cv:Nat}{q:Int}{z z':U.El τ}{d d':Bool}{L:List (U.El τ)}{ps ds:List (Lf U)}{ids:List Nat}(ho:o.op= .store t x y)
  (h1:iJ TI t=some i) (h2:dV s x= .l (.oel b c τ q z off)) (h3:parts (uA s y)=some ps) (h4:s.m.o[b]? =some ⟨.tree τ d L,rv,cv⟩) (hcv:cv=c) (h5:ps.length=i.k) (h6:off+i.k<=U.K τ) (h7:Cq ps=true)
  (h8:aCi s.m ((((Y.kd τ).drop off).take i.k)) ps=some (ds,ids,d')) (hJ:(b::ids).Nodup) (h9:Y.C.bld τ (K5 (Y.C.cel τ z) off ds)=some z'):
  SO P Y.C E a w o (.l .any) ⟨s.t,⟨Si (Nat.succ s.m.k) ids (upd s.m.o b ⟨.tree τ (d&&d') (L.set q.toNat z'),rv,Nat.succ s.m.k⟩),Nat.succ s.m.k,s.m.ns⟩,s.fr⟩ false:=λK Q hK=>by
 have hti:=bT hTI h1;obtain⟨hpm,hone⟩:=xE (jL r (x:=y)) h3 h7;obtain⟨_,e',t',k1,k2,k3⟩:=lZ r h2;rw[h4] at k1;injection k1 with k1;subst k1;obtain⟨d0,L0,bb,a1,a2,a3,a4,a5⟩:=k3 hcv;injection a1 with _ a1 a1';subst a1;subst a1';obtain⟨hk0,xs,c1,c2⟩:=r.hp.ok b t' _ k2 h4;have hO:=Da r.hp h8 hpm (λkd hk τ' e=>hY.pos τ τ' (by subst e;exact dn (gi hk)));have hvl:(a.eval y).cells.toList.length=i.k:=by rw[hpm.1,h5]
 have hdl:ds.length=i.k:=by rw[<-hO.len,hvl]
 obtain⟨cur,A,M,Z,f1,f2,f3,f4⟩:=aQ1 (d':=d') a4 c1 c2 a3 hO (by rw[hvl];exact h6) (z':=z') (by rw[<-Y.C.hmk τ _ z' h9,Gx _ _ _ (by rw[hdl,Y.C.hlen];exact h6),hdl,hvl,cf]);have hrun:=aCf (P:=P) (T:=τ) (t:=t) (b:=bb) (off:=q.toNat*U.K τ+off) (cur:=cur.toList) (vs:=(a.eval y).cells.toList) (v:=a.eval y) (w:=w) (by simp) (by rw[hvl];exact aTm hti w) (by simpa using f1) f2 hone;generalize hN:(cur.toList.take (q.toNat*U.K τ+off)++(a.eval y).cells.toList++cur.toList.drop (q.toNat*U.K τ+off+(a.eval y).cells.toList.length)).toArray=N at hrun f4;obtain⟨n1,n2,n3,n4,n5⟩:=Gr w bb N;have hall:t'.all=(bb::A)++(M++Z):=by simp[Tr.all,a4,f3]
 let t2:Tr:=⟨t'.b,t'.n,t'.c,A++(jX β ids++Z)⟩;obtain⟨m1,m2,m3⟩:=aVz (t2:=t2) r k2 hJ hall (by simp[t2,Tr.all,a4]);have hnd:=r.hp.nd b t' k2;have hbs:bb∉t'.bs:=λh=>by simp[Tr.all,a4] at hnd;exact hnd.1 h
 obtain⟨β',r1,_,_⟩:=r.turn (J:=ids) (ob:= .tree τ (d&&d') (L.set q.toNat z')) (rv:=rv) (t':=t2) h4 k2 hJ (by rw[n1];exact aj _) n2 n3 n4
  (λk _ hk=>n5 k (λe=>hk (by rw[e];exact Tr.root a4))) (λk hk=>⟨by rw[n1];exact(m2 k hk).1,(m2 k hk).2⟩) m1 (.inl ⟨rfl,rfl⟩) (λh=>by cases h) (λβ' m' hev=>by
   obtain⟨xs',p1,p2⟩:=f4 _ (E.X β') hev.sz hev.hX hev.hc (setRow_heap _ _ _ _ _ _ f1) n5 hbs (λh=>m3 _ h (Tr.root a4));exact⟨hk0,xs',by rw[ax];exact p1,p2⟩)
 refine wpo (w':=w.setRow bb N) (v:=undef) (.inr ⟨?_,rfl⟩) (hK _ _ β' r1 (λ_=>trivial) (λh=>by cases h));simp only[execOp,ho,a5,Instr.storeAt,Instr.sureAddr,Sem.run_bind,Sem.run_pure,Result.andThen_ok,hrun]
def aO2 (hTI:pY P TI=true)(hY:LayOk Y)(r:bE Y.C E s a w β){o:Oper}{t:TypeId}{x y:Operand}{i:TInfo}{b c τ τ' j off rv cv:Nat}{q q':Int}{z z3:U.El τ}{z' z2:U.El τ'}{l:List (U.El τ')}{d d':Bool}{L:List (U.El τ)}{ps ds:List (Lf U)}{ids:List Nat}(ho:o.op= .store t x y)
  (h1:iJ TI t=some i) (h2:dV s x= .l (.oin b c τ q z j τ' l q' z' off)) (h3:parts (uA s y)=some ps) (h4:s.m.o[b]? =some ⟨.tree τ d L,rv,cv⟩) (hcv:cv=c) (h5:ps.length=i.k) (h6:off+i.k<=U.K τ') (h7:Cq ps=true)
  (h8:aCi s.m ((((Y.kd τ').drop off).take i.k)) ps=some (ds,ids,d')) (hJ:(b::ids).Nodup) (h9:Y.C.bld τ' (K5 (Y.C.cel τ' z') off ds)=some z2) (h10:Y.C.bld τ (upd (Y.C.cel τ z) j (.sl τ' (l.set q'.toNat z2)))=some z3):
  SO P Y.C E a w o (.l .any) ⟨s.t,⟨Si (Nat.succ s.m.k) ids (upd s.m.o b ⟨.tree τ (d&&d') (L.set q.toNat z3),rv,Nat.succ s.m.k⟩),Nat.succ s.m.k,s.m.ns⟩,s.fr⟩ false:=λK Q hK=>by
 have hti:=bT hTI h1;obtain⟨hpm,hone⟩:=xE (jL r (x:=y)) h3 h7;obtain⟨_,e',t',k1,k2,k3⟩:=lZ r h2;rw[h4] at k1;injection k1 with k1;subst k1;obtain⟨L0,xs,v0,b2,n',c',a1,a2,a3,a4,a5,a6,a7,a8,a9,a10⟩:=k3 hcv;injection a1 with _ a1 a1';subst a1;subst a1';obtain⟨hk0,xs1,c1,c2⟩:=r.hp.ok b t' _ k2 h4;obtain rfl:=aVm a5 c1;have hO:=Da r.hp h8 hpm (λkd hk τ2 e=>hY.pos τ' τ2 (by subst e;exact dn (gi hk)));have hvl:(a.eval y).cells.toList.length=i.k:=by rw[hpm.1,h5]
 have hdl:ds.length=i.k:=by rw[<-hO.len,hvl]
 obtain⟨v1,A,B0,Z,d1,d2,d3,d4⟩:=bKg c2 a3 a4;rw[a6] at d1;injection d1 with d1;subst d1;cases d2 with
 |fz hd=>cases hd
 |su hd=>cases hd
 |sl u hk hown hc=>
  have hub:=bMd a7;obtain⟨cur,A1,M,Z1,f1,f2,f3,f4⟩:=aQ1 (d':=d') hub hown hc a9 hO (by rw[hvl];exact h6) (z':=z2) (by rw[<-Y.C.hmk τ' _ z2 h9,Gx _ _ _ (by rw[hdl,Y.C.hlen];exact h6),hdl,hvl,cf]);have hrun:=aCf (P:=P) (T:=τ') (t:=t) (b:=b2) (off:=q'.toNat*U.K τ'+off) (cur:=cur.toList) (vs:=(a.eval y).cells.toList) (v:=a.eval y) (w:=w) (by simp) (by rw[hvl];exact aTm hti w) (by simpa using f1) f2 hone;generalize hN:(cur.toList.take (q'.toNat*U.K τ'+off)++(a.eval y).cells.toList++cur.toList.drop (q'.toNat*U.K τ'+off+(a.eval y).cells.toList.length)).toArray=N at hrun f4;obtain⟨n1,n2,n3,n4,n5⟩:=Gr w b2 N;let u2:Tr:=⟨u.b,u.n,u.c,A1++(jX β ids++Z1)⟩;let t2:Tr:=⟨t'.b,t'.n,t'.c,A++(u2.all++Z)⟩;have hall:t'.all=(t'.b.toList++(A++(b2::A1)))++(M++(Z1++Z)):=by simp[Tr.all,d3,f3,hub]
  obtain⟨m1,m2,m3⟩:=aVz (t2:=t2) r k2 hJ hall (by simp[t2,u2,Tr.all,hub]);have hin:b2∈t'.all:=by rw[hall];simp
  have hnd:=r.hp.nd b t' k2;have hall2:t'.all=(t'.b.toList++A)++(b2::(u.bs++Z)):=by simp[Tr.all,d3,hub]
  rw[hall2,dm,cw] at hnd;have hA:∀k,k∈t'.b.toList\/k∈A\/k∈Z->k≠b2:=λk hk e=>by
   subst e;rcases hk with h|h|h
   ·exact hnd.2.2 k (by simp[h]) k (by simp) rfl
   ·exact hnd.2.2 k (by simp[h]) k (by simp) rfl
   ·exact hnd.2.1.1 (by simp[h])
  obtain⟨β',r1,_,_⟩:=r.turn (J:=ids) (ob:= .tree τ (true&&d') (L.set q.toNat z3)) (rv:=rv) (t':=t2) h4 k2 hJ (by rw[n1];exact aj _) n2 n3 n4
   (λk _ hk=>n5 k (λe=>hk (by rw[e];exact hin))) (λk hk=>⟨by rw[n1];exact(m2 k hk).1,(m2 k hk).2⟩) m1 (.inl ⟨rfl,rfl⟩) (λh=>by cases h) (λβ' m' hev=>by
    obtain⟨ys,p1,p2⟩:=f4 _ (E.X β') hev.sz hev.hX hev.hc (setRow_heap _ _ _ _ _ _ f1) n5 (λh=>hnd.2.1.1 (by simp[h])) (λh=>m3 _ h hin);refine⟨hk0,xs,by rw[ax];exact mX c1 (λk hk=>n5 k (hA k (.inl (by rw[show t'.b=some k from hk];simp)))),?_⟩;refine d4 _ (E.X β') (true&&d') (l.set q'.toNat z2) z3 u2.all hev.sz hev.hX hev.hc (λk hk=>n5 k (hA k (.inr hk))) (λ_=>rfl) (.sl u2 hk (by rw[ax];exact p1) p2) ?_;rw[<-Y.C.hmk τ _ z3 h10,bZ,List.set_eq_take_append_cons_drop,cH (lt_of_some a4)])
  refine wpo (w':=w.setRow b2 N) (v:=undef) (.inr ⟨?_,rfl⟩) (hK _ _ β' r1 (λ_=>trivial) (λh=>by cases h));simp only[execOp,ho,a10,Instr.storeAt,Instr.sureAddr,Sem.run_bind,Sem.run_pure,Result.andThen_ok,hrun]
end
end Go.EV
namespace Go.EV
open Go.RowKit Go.VK
variable {U:Uni} {Y:Lay U} {TI:List (Nat×TInfo)} {P:Program} {g:GI} {E:Env U g}
section
variable {s:St U} {a:Act} {w:World} {β:List Tr} {α:Type}
def Xl {t:TypeId}{e k bts n:Nat}{ps:Array (Nat×Operand)}{vs:List Value}(ht:slB P t e k bts=true)(hn:vs.length=n)(h24:n*k<=16777216)(hps:(ps.toList.map λ(i,x)=>(i,a.eval x))=(vs.zipIdx 0|>.map λ(v,j)=>(j,v)))(hsz:∀v∈vs,v.cells.size=k){o:Oper}(ho:o.op= .buildSlice t n ps):
  ∃cells:Array Value,(execOp a.eval o).run P w= .ok (.value (.slice (some ⟨w.heap.size,0,none⟩) n n)) (w.alloc (.cells cells e))/\cells.toList=(vs.map λv=>v.cells.toList).flatten:=by
 obtain⟨hu,i,z,hi,hz,hik,hib,hzk,hk0⟩:=fA ht;have hz0:∃zc:Array Value,(if n*k=0 then(pure #[]:Sem (Array Value)) else do pure (<-zeroValue e).cells).run P w= .ok zc w:=by
  by_cases h:n*k=0
  ·exact⟨#[],by simp[h]⟩
  ·exact⟨z.cells,by simp[h,zeroValue,typeInfo,hi,hz]⟩
 obtain⟨zc,hzc⟩:=hz0;obtain⟨res,r1,r2,r3,r4⟩:=aCg k vs 0 ((Array.range (n*k)).map (zc[·%zc.size]!)) hsz (by simp[hn]);have r2':res.size=n*k:=by rw[r2];simp
 refine⟨res,?_,?_⟩
 ·have hp:((ps.map λ(i,x)=>(i,a.eval x)):Array (Nat×Value)).toList=((vs.zipIdx 0).map λ(v,j)=>(j,v)):=by rw[<-hps];simp
  simp only[execOp,ho,Instr.buildSlice,Sem.run_bind,run_underlying hu,Result.andThen_ok];have hs:(sizeOf e).run P w= .ok k w:=by simp[sizeOf,typeInfo,hi,hik]
  simp only[hs,Result.andThen_ok];rw[cX (by omega)];by_cases h:n*k=0
  ·have hzc':zc= #[]:=by simp[h] at hzc;exact hzc
   subst hzc';simp only[h,gE,Sem.run_bind,Sem.run_pure,Result.andThen_ok];rw[h] at r1;simp only[hp,r1,newRow,Sem.run_bind,run_newObj,Sem.run_pure,Result.andThen_ok];rfl
  ·simp only[h,if_false,Sem.run_bind,Sem.run_pure] at hzc ⊢;have hzc':((zeroValue e).run P w).andThen (λa w'=>Result.ok a.cells w')= .ok zc w:=hzc;have hz2:(zeroValue e).run P w= .ok z w:=by simp[zeroValue,typeInfo,hi,hz]
   rw[hz2] at hzc';simp only[Result.andThen_ok,Result.ok.injEq,and_true] at hzc';simp only[hz2,Result.andThen_ok,hzc',hp,r1,newRow,Sem.run_bind,run_newObj,Sem.run_pure];rfl
 ·have hlen:(vs.map λv=>v.cells.toList).flatten.length=n*k:=by
   have:∀(vs:List Value),(∀v∈vs,v.cells.size=k)->(vs.map λv=>v.cells.toList).flatten.length=vs.length*k:=by
    intro vs;induction vs with
    |nil=>simp
    |cons v vs ih=>intro h;simp only[bm,cR,au,cy,h v (by simp),ih (λv hv=>h v (by simp[hv])),av,dr];omega
   rw[this vs hsz,hn]
  apply List.ext_getElem?;intro q;by_cases hq:q<n*k
  ·obtain⟨q0,q1,hq1,rfl⟩:∃q0 q1,q1<k/\q=q0*k+q1:=⟨q/k,q%k,Nat.mod_lt _ hk0,by rw[fo];exact(hH q _).symm⟩;have hdiv:q0<n:=jq (Nat.lt_of_le_of_lt (db _ _) hq);have hv:vs[q0]? =some (vs[q0]'(by omega)):=ae _;have h4:=r4 q0 q1 _ hv hq1;rw[ca] at h4;have key:∀(vs:List Value) (q0:Nat) (v:Value),(∀v∈vs,v.cells.size=k)->vs[q0]? =some v->(vs.map λv=>v.cells.toList).flatten[q0*k+q1]? =v.cells.toList[q1]? :=by
    intro vs;induction vs with
    |nil=>intro q0 v _ h;simp at h
    |cons u vs ih=>
     intro q0 v h hv;cases q0 with
     |zero=>simp at hv;subst hv;simp only[bm,cR,Nat.zero_mul,ca];rw[aq (by simp[h u (by simp)];exact hq1)]
     |succ q0=>
      simp only[bm,cR];have hu:u.cells.toList.length=k:=by simp[h u (by simp)]
      rw[show(q0+1)*k+q1=u.cells.toList.length+(q0*k+q1) by rw[hu,dr];omega,ay (db _ _),cP];exact ih q0 v (λv hv=>h v (by simp[hv])) (by simpa using hv)
   rw[key vs q0 _ hsz hv];simpa using h4
  ·rw[df (by simp[r2'];omega),df (by omega)]
def bDh (hY:LayOk Y)(r:bE Y.C E s a w β){e:Nat}{x:Operand}{z:U.El e}{ids:List Nat}{d:Bool}(h:bJ4 Y s e (dV s x)=some (z,ids,d)):
  OwL Y.C w (E.X β) d (a.eval x).cells.toList (Y.C.cel e z) (jX β ids):=by
 unfold bJ4 at h;cases hp:parts (dV s x) with
 |none=>simp[hp] at h
 |some cs=>
  cases hab:aCi s.m (Y.kd e) cs with
  |none=>simp[hp,hab] at h
  |some q=>
   obtain⟨ds,ids',d'⟩:=q;cases hb:Y.C.bld e ds with
   |none=>simp[hp,hab,hb] at h
   |some z'=>
    simp only[hp,hab,hb,ai,cU] at h;obtain⟨rfl,rfl,rfl⟩:=h;rw[<-Y.C.hmk e ds z' hb];have hm:=xC r (x:=x);cases ho:dV s x with
    |l y=>
     rw[ho] at hm hp;simp only[parts,ai] at hp;subst hp;cases hk:Y.kd e with
     |nil=>rw[hk] at hab;cases hab
     |cons kd ks=>
      rw[hk] at hab;simp only[aCi] at hab;cases h1:aVg s.m kd y with
      |none=>simp[h1] at hab
      |some q1=>
       obtain⟨y',i1,d1⟩:=q1;have ho:=aQ0 r.hp h1 hm (λτ e'=>hY.pos e τ (by rw[hk,e'];simp));have:(a.eval x).cells= #[a.eval x]:=Sc ho.one;rw[this];refine Da r.hp (ks:=kd::ks) (xs:=[y]) (by simp only[aCi];exact hab) ⟨rfl,λi u c h5 h6=> ?_⟩ (λkd' hkd τ e'=>hY.pos e τ (by rw[hk];subst e';exact hkd));cases i with
       |zero=>simp at h5 h6;subst h5;subst h6;exact hm
       |succ i=>simp at h5
    |a ds'=>rw[ho] at hm hp;simp only[parts,ai] at hp;subst hp;obtain⟨vs,hv,hM⟩:=hm;rw[hv];exact Da r.hp hab hM (λkd' hkd τ e'=>hY.pos e τ (by subst e';exact hkd))
    |t xs=>rw[ho] at hp;cases hp
def He (hY:LayOk Y)(r:bE Y.C E s a w β){e:Nat}:∀{ps:List (Nat×Operand)} {n:Nat} {l:List (U.El e)} {ids:List Nat} {d:Bool},Nb Y s e n ps=some (l,ids,d)->
  ∃vs:List Value,(ps.map λ(i,x)=>(i,a.eval x))=(vs.zipIdx n|>.map λ(v,j)=>(j,v))/\vs.length=ps.length/\l.length=ps.length/\(∀v∈vs,v.cells.size=U.K e)/\OwL Y.C w (E.X β) d (vs.map λv=>v.cells.toList).flatten (l.map (Y.C.cel e)).flatten (jX β ids)
 |[],n,l,ids,d,h=>by
  simp only[Nb,ai,cU] at h;obtain⟨rfl,rfl,rfl⟩:=h;exact⟨[],rfl,rfl,rfl,by simp, .n⟩
 |(i,x)::ps,n,l,ids,d,h=>by
  simp only[Nb] at h;cases hb:Nat.beq i n with
  |false=>simp[hb] at h
  |true=>
   have hin:i=n:=ah hb;subst hin;simp only[hb,ac] at h;cases h1:bJ4 Y s e (dV s x) with
   |none=>simp[h1] at h
   |some q=>
    obtain⟨z,i1,d1⟩:=q;cases h2:Nb Y s e (Nat.succ i) ps with
    |none=>simp[h1,h2] at h
    |some q2=>
     obtain⟨zs,i2,d2⟩:=q2;simp only[h1,h2,ai,cU] at h;obtain⟨rfl,rfl,rfl⟩:=h;obtain⟨vs,k1,k2,k3,k4,k5⟩:=He hY r h2;have hO:=bDh hY r h1;refine⟨a.eval x::vs,by simp[gz,k1],by simp[k2],by simp[k3],λv hv=> ?_,?_⟩
     ·rcases aE.1 hv with rfl|hv
      ·have:=hO.len;rw[Y.C.hlen] at this;simpa using this
      ·exact k4 v hv
     ·rw[N9];simp only[bm,cR];exact OwL.app (hO.fl (by simp;exact λh _=>h)) (k5.fl (by simp))
def aV0 (hTI:pY P TI=true)(hY:LayOk Y)(r:bE Y.C E s a w β){o:Oper}{t:TypeId}{n e ek eb k:Nat}{zz:List Kz}{ps:Array (Nat×Operand)}{l:List (U.El e)}{d:Bool}(ho:o.op= .buildSlice t n ps)
  (h1:iJ TI t=some ⟨.sl e ek eb,k,zz⟩) (h2:ps.toList.length=n) (h3:n*ek<=16777216) (h4:Gu (U:=U) e ek e=true) (h5:Nb Y s e 0 ps.toList=some (l,[],d)):SO P Y.C E a w o (.l (.sl e l)) s true:=λK Q hK=>by
 have hsl:=(zX (bT hTI h1) rfl).1;obtain⟨_,_,_,_,_,_,_,_,hk0⟩:=fA hsl;simp only[Gu,aa] at h4;have hKe:U.K e=ek:=ah h4.2;obtain⟨vs,k1,k2,k3,k4,k5⟩:=He hY r h5;rw[hKe] at k4;obtain⟨cells,q1,q2⟩:=Xl (w:=w) hsl (k2.trans h2) h3 k1 k4 ho;have he:Ext w (w.alloc (.cells cells e)):=Ext.alloc _ _;have hnm:n<=maxLen:=by have:n*1<=n*ek:=fu _ hk0;unfold maxLen;omega
 refine wpo (w':=w.alloc (.cells cells e)) (v:= .slice (some ⟨w.heap.size,0,none⟩) n n) (.inl q1) (hK _ _ β (r.ext he) (λ_=> ?_) (λ_=>he));have hown:(w.alloc (.cells cells e)).ownsRow 0 e (U.K e) (.slice (some ⟨w.heap.size,0,none⟩) n n) l.length cells.toList:=by
  rw[k3,h2];exact World.ownsRow_lit w cells n (cx _) hnm (by
   have hc:cells.size=cells.toList.length:=by simp
   rw[hc,q2,k5.len,Cw (Y.C.hlen e),k3,h2])
 exact Ow.rd (X:=E.X β) (Z:=E.X β) (λ_ h=>h) (Ow.sl ⟨some w.heap.size,n,n,[]⟩ (by rw[hKe];exact hk0) hown (by
  rw[q2];exact k5.conv he.size (λb _ h=>h) (λp u _ hc=>he.cell hc) (λb hb=>absurd (show b∈([]:List Nat) from hb) (by simp)))) (λb hb hx=>by
  simp[Tr.all] at hb;subst hb;exact Nat.lt_irrefl _ (r.hp.aCB _ hx))
def aV1 (hTI:pY P TI=true)(hY:LayOk Y)(r:bE Y.C E s a w β){o:Oper}{t:TypeId}{n e ek eb k:Nat}{zz:List Kz}{ps:Array (Nat×Operand)}{l:List (U.El e)}{ids:List Nat}{d:Bool}(ho:o.op= .buildSlice t n ps)
  (h1:iJ TI t=some ⟨.sl e ek eb,k,zz⟩) (h2:ps.toList.length=n) (h3:n*ek<=16777216) (h4:Gu (U:=U) e ek e=true) (h5:Nb Y s e 0 ps.toList=some (l,ids,d)) (hJ:(s.m.o.length::ids).Nodup):
  SO P Y.C E a w o (.l (.own (len s.m.o) s.m.k)) ⟨s.t,⟨Si (Nat.succ s.m.k) ids (upd (s.m.o++[⟨.dead,s.m.k,s.m.k⟩]) (len s.m.o) ⟨.tree e d l,s.m.k,Nat.succ s.m.k⟩),Nat.succ s.m.k,s.m.ns⟩,s.fr⟩ true:=λK Q hK=>by
 have hsl:=(zX (bT hTI h1) rfl).1;obtain⟨_,_,_,_,_,_,_,_,hk0⟩:=fA hsl;simp only[Gu,aa] at h4;have hKe:U.K e=ek:=ah h4.2;obtain⟨vs,k1,k2,k3,k4,k5⟩:=He hY r h5;rw[hKe] at k4;obtain⟨cells,q1,q2⟩:=Xl (w:=w) hsl (k2.trans h2) h3 k1 k4 ho;have he:Ext w (w.alloc (.cells cells e)):=Ext.alloc _ _;have hnm:n<=maxLen:=by have:n*1<=n*ek:=fu _ hk0;unfold maxLen;omega
 have r1:=r.add he [((⟨.dead,s.m.k,s.m.k⟩:EO U),(⟨some w.heap.size,n,n,[]⟩:Tr))] (by simp) (by simp[Tr.all]) (by simp[Tr.all]) (λ_ x hx=>by simp at hx;subst hx;trivial);have hli:(s.m.o++[(⟨.dead,s.m.k,s.m.k⟩:EO U)])[s.m.o.length]? =some ⟨.dead,s.m.k,s.m.k⟩:=by simp
 have hlb:(β++[(⟨some w.heap.size,n,n,[]⟩:Tr)])[s.m.o.length]? =some ⟨some w.heap.size,n,n,[]⟩:=by rw[<-r.hp.len];simp
 have hidl:∀j∈ids,∀u,(β++[(⟨some w.heap.size,n,n,[]⟩:Tr)])[j]? =some u->β[j]? =some u:=λj hj u hu=>by
  have hne:j≠s.m.o.length:=λe=>(cw.1 hJ).1 (e▸hj);by_cases hl:j<β.length
  ·rwa [aq hl] at hu
  ·have:=lt_of_some hu;simp at this;rw[r.hp.len] at this hl;omega
 have hbl:jX (β++[(⟨some w.heap.size,n,n,[]⟩:Tr)]) ids=jX β ids:=by
  unfold jX;congr 1;apply gk;intro j hj;by_cases hl:j<β.length
  ·rw[aq hl]
  ·have hne:j≠s.m.o.length:=λe=>(cw.1 hJ).1 (e▸hj);rw[df (by simp;rw[r.hp.len] at hl ⊢;omega),df (by omega)]
 obtain⟨β',r2,r3,r4⟩:=r1.turn (w':=w.alloc (.cells cells e)) (J:=ids) (ob:= .tree e d l) (rv:=s.m.k) (t':=⟨some w.heap.size,n,n,jX β ids⟩) hli hlb hJ (aj _) rfl rfl rfl (λ_ _ _=>rfl)
  (λb hb=>by
   simp only[Tr.all,e8,cC,bn,aE] at hb;rcases hb with rfl|hb
   ·exact⟨by simp, .inr (.inl (by simp[Tr.all]))⟩
   ·obtain⟨j,hj,u,hu,hub⟩:=wI hb;have:=(r.hp.new j u b hu hub).2;refine⟨by simp;omega, .inr (.inr ⟨j,hj,u,?_,hub⟩)⟩;rw[aq (lt_of_some hu)];exact hu)
  (by
   simp only[Tr.all,e8,cC,bn];rw[cw];refine⟨λhb=> ?_,aTl r.hp (cw.1 hJ).2⟩;obtain⟨j,_,u,hu,hub⟩:=wI hb;have:=(r.hp.new j u _ hu hub).2;omega)
  (.inl ⟨rfl,rfl⟩) (λh=>by cases h) (λβ' m' hev=>by
   refine⟨by rw[hKe];exact hk0,cells.toList,?_,?_⟩
   ·rw[k3,h2];exact World.ownsRow_lit w cells n (cx _) hnm (by
     have hc:cells.size=cells.toList.length:=by simp
     rw[hc,q2,k5.len,Cw (Y.C.hlen e),k3,h2])
   ·rw[q2];have hX0:∀b,b<w.heap.size->E.X (β++[(⟨some w.heap.size,n,n,[]⟩:Tr)]) b->E.X β b:=λb hb hx=>by
     rcases hx with h|h|⟨u,hu,hub⟩
     ·exact .inl h
     ·exact .inr (.inl h)
     ·rcases bz.1 hu with hu|hu
      ·exact .inr (.inr ⟨u,hu,hub⟩)
      ·simp at hu;subst hu;simp[Tr.all] at hub;omega
    exact k5.conv he.size (λb hb hx=>hX0 b hb (hev.hX b (cg hb he.size) hx)) (λp u _ hc=>he.cell hc) (λb hb=>by
     obtain⟨j,_,u,hu,hub⟩:=wI hb;exact he.block b (r.hp.new j u b hu hub).2))
 rw[<-bK] at r2 r3;refine wpo (w':=w.alloc (.cells cells e)) (v:= .slice (some ⟨w.heap.size,0,none⟩) n n) (.inl q1) (hK _ _ β' r2 (λ_=> ?_) (λ_=>he));refine⟨⟨eo _,rfl⟩,⟨.tree e d l,s.m.k,Nat.succ s.m.k⟩,_,?_,r3,λ_=>rfl⟩;rw[wH (by rw[bK];exact(cw.1 hJ).1),bZ,bg (by rw[bK];simp)]
end
end Go.EV
